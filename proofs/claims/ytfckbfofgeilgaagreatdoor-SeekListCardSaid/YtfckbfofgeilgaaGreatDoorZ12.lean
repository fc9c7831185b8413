/-
  Texts put together (part 12): the walks and the plain laws on which the statement stands.
-/
import Derived.Sort.LoopGhostIn
import Derived.Test.YtfckbfofgeilgaaGreatDoorZ5
import Derived.Test.YtfckbfofgeilgaaGreatDoorZ6
import Derived.Test.YtfckbfofgeilgaaGreatDoorZ9
set_option maxRecDepth 100000
set_option maxHeartbeats 12800000
set_option linter.unusedVariables false
set_option linter.unusedSimpArgs false
open Go.Proofs.Tryz
open Go.Proofs.Tryz renaming prog->pG
open Go renaming bodyPost_ret->fM,run_underlying->wW
open Go.Fence renaming wide->cZ
open Go.Instr renaming index->rE
open Go.IntKind renaming i64->aJ,u64->eZ,wrap_i64->aM,wrap_u64->fC
open Go.RowKit.Below renaming refl->aH
open Go.Value renaming int->bQ
open Int renaming natCast_zero->OX,toNat_natCast->fL
open List renaming append_assoc->bU,append_nil->dI,countP_le_length->DI,filter_cons_of_neg->bGo,getD_eq_getElem?_getD->bV,getElem?_eq_getElem->aN,getElem?_of_mem->XQ,getElem_mem->kK,length_append->aL,length_cons->aU,length_nil->aV,length_take->aQ,map_append->dY,mem_of_getElem?->cN,mem_of_mem_take->pG,range->eT,replicate->aX,take_add_one->cG,take_length->jS,take_of_length_le->cD
open Nat renaming add_zero->pV,le_refl->aD,le_trans->aR,lt_of_lt_of_le->fB,lt_or_ge->cF,min_eq_left->jF,pow_le_pow_right->nF,zero_le->aO
namespace Go.Proofs.YtfckbfofgeilgaaGreatDoor
section
open Go.RowKit Go Go.Shelf
theorem aXd {v n:Nat} (h:1<=n):0<(bI (aT v n)).length:=by rw[cX,dV];omega
theorem aXe {l d:List Int} {k:Nat} {x:Int} (h:d[k]? =some x):gF l (d.take (k+1))=gF l (d.take k)++aT (gZ l x.toNat) (bL l x.toNat):=by
 rw[cG,h];exact aCc ..
theorem aE3 (v u:Value) (l d:List Int) (w:World) (hr:RdI w v l) (hu:RdI w u d) (hE:bM l=0) (hs:∀x∈d,0<=x/\x<(l.length:Int)) (U:d.length<=10000):
  Calls pG 74 #[v,u] w fun e w'=>e=.returned (.tuple #[fT (gF l d),.int .i64 0])/\Below w.heap.size w w':=by
 have G:=gE hE;have b6:=hid (fun i (h:i<l.length)=>(lX G.1 h));have b7:=hid (fun i (h:i<l.length)=>(RD G.1 G.2 h));have c9:=G.1.2.1;have HS:=hid hs;have a6:=hid (fun k=>wG G.1 (d.take k) (fun x I=>hs x (pG I)));clear hs G;have a1:=Arr.new w 69 [.string ⟨#[]⟩,.int .i64 0];have d2:(w.alloc (.cells #[.string ⟨#[]⟩,.int .i64 0] 69)).heap.size=w.heap.size+1:=by simp
 have V:Below w.heap.size w (w.alloc (.cells #[.string ⟨#[]⟩,.int .i64 0] 69)):=bD (aH _ _) _;change Arr (w.alloc (.cells #[.string ⟨#[]⟩,.int .i64 0] 69)) _ _ _ at a1;go_enter func74,ntmps74;go_wp2_with fail;generalize w.alloc (.cells #[.string ⟨#[]⟩,.int .i64 0] 69)=w0 at*
 refine(aE1 _ l _ (hr.below V)).mono ?_;rintro e A ⟨uw,rfl,J,-,D⟩;obtain⟨bw,d3,rfl,Y⟩:=J hE;rw[hE];have a7:=(hu.below V).below D;have a8:=a1.below D (by omega);have a9:=V.trans (D.mono (by omega));have d4:=D.size;obtain⟨a,ca,rfl,d5,b8,hA⟩:=a7.open;unfold maxLen at b8;clear hu a7 hr a1 V D J;go_wp2_with fail
 go_loopg [8,9] d.length (fun g s8 s9 wr=>∃k:Nat,k<=d.length/\g=d.length-k/\s9=.int .i64 (k:Int)/\OwI wr A.heap.size s8 (bI (gF l (d.take k)))/\Below A.heap.size A wr)
 case atStart=>exact⟨0,aO _,rfl,rfl,OwI.nil _ _,aH _ _⟩
 case round=>
  obtain⟨k,hk,hg,rfl,L,F⟩:=hrel;have HG:=hid hg;clear hg;have b9:=F.size
  by_cases c0:k<d.length
  ·have t1:decide ((k:Int)<(d.length:Int))=true:=aG (by omega);obtain⟨b1,o1,rfl,D,b0⟩:=hA (by omega);obtain⟨x,I⟩:=eG c0;have c1:=((pJ F).1 b1 (o1+k) D).trans (b0 k _ I);have c2:=HS.out x (cN I);have HT:=hid (aXe (l:=l) I);have Z:=a6.out k;rw[aQ,jF hk] at Z;obtain⟨y,rfl⟩:∃y:Nat,x=(y:Int):=⟨x.toNat,by omega⟩;rw[fL] at HT;have a0:y<l.length:=by omega
   have a2:=Y.below F Y.lt;have M:=a2.cell (zR _ _ y a0);have O:=a2.cell (zS _ _ y a0);obtain⟨b2,a3,_⟩:=b6.out y a0;have a4:=b7.out y a0;unfold uU at M O;obtain⟨n,U⟩:=ex1 (bL l y);obtain⟨W,J⟩:=ex1 (gZ l y);rw[<-U,<-J] at M O HT a4;rw[<-U] at b2 a3;have c3:W<18446744073709551616:=fB a4 (aR (nF (by decide) a3) (by decide));have u1:decide ((y:Int)<0)=false:=aE (by omega);have u2:decide ((y:Int)>=(l.length:Int))=false:=aE (by omega);have u3:decide ((l.length:Int)<=(y:Int))=false:=aE (by omega)
   have u4:decide (l.length<=y)=false:=aE (by omega);clear U J I b0 hA c2 a4;go_wp2_with fail;have d6:=aXd (v:=W) b2;have d7:(bI (aT W n)).length<=20:=by rw[cX,dV];exact a3
   have d8:(bI (gF l (d.take k))).length<=20*k:=by rw[cX];exact Z
   have c4:=oF ⟨c1,M,O,F,b9⟩ (aH wr.heap.size wr).drew;have b3:bw<A.heap.size:=Y.lt;have c5:OwI wr.drew A.heap.size u8 (bI (gF l (d.take k))):=L;have d9:wr.drew.heap.size=wr.heap.size:=rfl;clear c1 M O a2 L
   go_region_held3 (fun w'=>w'.cell? ⟨b1,o1+k,none⟩=some (.int .i64 (y:Int))/\w'.cell? ⟨bw,y*2,none⟩=some (.int .i64 (n:Int))/\w'.cell? ⟨bw,y*2+1,none⟩=some (.int .u64 (W:Int))/\Below A.heap.size A w'/\A.heap.size<=w'.heap.size)
    (first
     |with_reducible assumption
     |with_reducible exact oF (by assumption) (by assumption)
     |with_reducible exact LZ (by assumption) (by assumption) D b3 b3)
    (first
     |(go_at_call 28;refine(wK W n _ c3 (by omega)).mono ?_;rintro e w2 ⟨x2,rfl,c6,b4⟩)
     |(refine TC rfl _ _ rfl A.heap.size u8 (bI (gF l (d.take k))) rfl (OwI.below c5 (by assumption) (aD _)) x2 (bI (aT W n)) rfl (OwI.src c6) ?_ ?_ ?_;(omega);(have:=b4.size;omega);intro v3 w3 p1 p2 p3))
   all_goals go_wp2_with fail
   all_goals
    have hg:=HG.out
    go_roundg (d.length-(k+1))
    ·exact⟨k+1,by omega,rfl,by go_num,by rw[HT.out,iT];exact p1,c4.2.2.2.1.trans ((b4.mono (by omega)).trans p2)⟩
    ·omega
  ·have t1:decide ((k:Int)<(d.length:Int))=false:=aE (by omega);have c7:k=d.length:=by omega
   subst c7;rw[jS] at L;have Z:=a6.out d.length;rw[jS] at Z;go_wp2_with fail;refine(CF _ (gF l d) _ (OwI.rd L) (by omega)).mono ?_;rintro e w6 ⟨rfl,a5⟩;have R:=(a8.below F (by omega)).below a5 (by omega);have c8:Below w.heap.size w w6:=(a9.trans (F.mono (by omega))).trans (a5.mono (by omega));have M:=R.cell (i:=0) rfl;have O:=R.cell (i:=1) rfl;have f0:=R.free 0;have f1:=R.free 1;clear a8 a5 L F a9 Y;generalize b5:gF l d=m at*
   have HM:=hid b5;clear b5;go_wp2_with fail;have z0:Arr ((w6.setCell ⟨w.heap.size,0,none⟩ (.string (mkS (aI m)))).setCell ⟨w.heap.size,1,none⟩ (.int .i64 (m.length:Int))) w.heap.size 69 [.string (mkS (aI m)),.int .i64 (m.length:Int)]:=(R.set 0 _).set 1 _;refine fM (uS rfl _ _ w.heap.size _ _ (0,0) _ rfl z0 underlying69 rfl rQ) rfl ?_;exact⟨by rw[HM.out];rfl,(c8.setCell (p:=⟨w.heap.size,0,none⟩) (aD _) _).setCell (p:=⟨w.heap.size,1,none⟩) (aD _) _⟩
theorem FG (c:Nat) (u:List Bool):(aX (c+1) u).flatten=(aX c u).flatten++u:=by
 rw[List.replicate_succ',List.flatten_append];simp
theorem FH (c:Nat) (x y:Bool):((aX c [x,y]).flatten).length=2*c:=by
 induction c with
 |zero=>rfl
 |succ c d=>rw[FG,aL,d];simp;omega
theorem aXf {l:List Int} {i:Nat} (h:i<l.length):(l.take i).getLastD (l.getD 0 0)=l.getD (i-1) 0:=by grind
theorem aE4 {l:List Int} {i:Nat} {x:Int} (h:l[i]? =some x):fR (l.getD 0 0) (l.take (i+1))=fR (l.getD 0 0) (l.take i)++mR (l.getD (i-1) 0) x:=by grind [List.getElem?_eq_some_iff,cG,fR,KU,aXf,mR]
theorem aXg (w:World) (x:Int):RdI (w.alloc (.cells #[.int .i64 x] 3)) (.slice (some ⟨w.heap.size,0,none⟩) 1 1) [x]:=uF w 3 [.int .i64 x] 1 rfl (by decide)
theorem aE5 (w:World) (x y:Int):RdI (w.alloc (.cells #[.int .i64 x,.int .i64 y] 3)) (.slice (some ⟨w.heap.size,0,none⟩) 2 2) [x,y]:=uF w 3 [.int .i64 x,.int .i64 y] 2 rfl (by decide)
theorem aE6 (v:Value) (l:List Int) (w:World) (hr:RdI w v l) (c7:gM l):
  Calls pG 72 #[v] w fun e w'=>e=.returned (.tuple #[fT (fI l),.int .i64 0])/\Below w.heap.size w w':=by
 obtain⟨e5,e6,I⟩:=c7;have HB:=hid I;have c8:=hid (fun k=>KV (l.take k) (l.getD 0 0) (by
  rw[bV,aN (show 0<l.length by omega)];exact(I _ (kK _)).1) (by
  rw[bV,aN (show 0<l.length by omega)];exact(I _ (kK _)).2) (fun x d=>I x (pG d)))
 have b5:∀i,i<l.length->1<=l.getD i 0/\l.getD i 0<=20/\l[i]? =some (l.getD i 0):=fun i Y=>by
  rw[bV,aN Y];exact⟨(I _ (kK Y)).1,(I _ (kK Y)).2,rfl⟩
 have a1:=hid b5;clear I;have t1:decide ((l.length:Int)<2)=false:=aE (by omega);have t2:decide ((l.length:Int)>258)=false:=aE (by omega);have t3:decide ((258:Int)<(l.length:Int))=false:=aE (by omega);have a8:=Arr.new w 69 [.string ⟨#[]⟩,.int .i64 0];have c9:(w.alloc (.cells #[.string ⟨#[]⟩,.int .i64 0] 69)).heap.size=w.heap.size+1:=by simp
 have a9:Below w.heap.size w (w.alloc (.cells #[.string ⟨#[]⟩,.int .i64 0] 69)):=bD (aH _ _) _;change Arr (w.alloc (.cells #[.string ⟨#[]⟩,.int .i64 0] 69)) _ _ _ at a8;have b6:=hr.below a9;obtain⟨a,ca,rfl,e7,d2,hA⟩:=b6.open;unfold maxLen at d2;clear hr b6 b5;obtain⟨O,R,rfl,U,Z⟩:=hA (by omega);clear hA;go_enter func72,ntmps72;go_wp2_with fail;generalize w.alloc (.cells #[.string ⟨#[]⟩,.int .i64 0] 69)=w0 at*
 go_loopg [4] l.length (fun g s4 wr=>∃k:Nat,k<=l.length/\g=l.length-k/\s4=.int .i64 (k:Int)/\wr=w0)
 case atStart=>exact⟨0,aO _,rfl,rfl,rfl⟩
 case round=>
  obtain⟨k,hk,G,rfl,rfl⟩:=hrel;have HG:=hid G;clear G
  by_cases d3:k<l.length
  ·have u1:decide ((k:Int)<(l.length:Int))=true:=aG (by omega);obtain⟨x1,x2,d⟩:=a1.out k d3;have J:=Z k _ d;obtain⟨x,V⟩:=ex1 (l.getD k 0);rw[<-V] at x1 x2 J;have v1:decide (x<1)=false:=aE (by omega);have v2:decide (x>20)=false:=aE (by omega);have v3:decide (20<x)=false:=aE (by omega);clear V d Z;go_wp2_with fail;have G:=HG.out
   go_roundg (l.length-(k+1))
   ·exact⟨k+1,by omega,rfl,by go_num,rfl⟩
   ·omega
  ·have u1:decide ((k:Int)<(l.length:Int))=false:=aE (by omega);obtain⟨x1,x2,d⟩:=a1.out 0 (by omega);have c0:=Z 0 _ d;rw[pV] at c0;obtain⟨y,hy⟩:∃y:Nat,l.getD 0 0=(y:Int):=⟨(l.getD 0 0).toNat,by omega⟩;have HY:=hid hy;rw[hy] at c0 x1 x2;have y1:y<18446744073709551616:=by omega
   have m1:eZ.wrap (y:Int)=(y:Int):=by rw[fC];omega
   have m2:(y:Int)%18446744073709551616=(y:Int):=by omega
   have z1:0<l.length:=by omega
   have z2:(0:Int)<(l.length:Int):=by omega
   clear hy d hk;go_wp2_with fail;refine(wK y 5 _ y1 (by decide)).mono ?_;rintro e w1 ⟨u5,rfl,b0,a2⟩;have d4:=a2.size;have b7:=a8.below a2 (by omega);have b8:=a9.trans (a2.mono (by omega));have b9:∀j x,l[j]? =some x->w1.cell? ⟨O,R+j,none⟩=some (.int .i64 x):=fun j x hj=>((pJ a2).1 O (R+j) U).trans (Z j x hj)
   have a3:=hid b9;clear Z b9 c0 a8 a9;rw[c9] at b0 U d4;go_wp2_with fail
   go_loopg [5,6,7,8,9] l.length (fun g s5 s6 _s7 _s8 _s9 wx=>∃i:Nat,i<=l.length/\g=l.length-i/\s6=.int .i64 (i:Int)/\OwI wx (w.heap.size+1) s5 (bI (aT y 5++fR (l.getD 0 0) (l.take i)))/\Below (w.heap.size+1) w1 wx)
   case atStart=>exact⟨0,aO _,rfl,rfl,by simpa [fR] using b0,aH _ _⟩
   case round=>
    obtain⟨i,Y,G,rfl,F,L⟩:=hrel;have d5:=hid G;clear G b0 HG;have e8:=L.size;have c2:=c8.out i;rw[aQ,jF Y] at c2;obtain⟨D,hD⟩:=ex1 (aT y 5++fR (l.getD 0 0) (l.take i));have e9:D.length<=5+39*i:=by rw[hD,aL,dV];omega
    rw[<-hD] at F;have HD:=hid hD;clear hD c2
    by_cases d6:i<l.length
    ·have u2:decide ((i:Int)<(l.length:Int))=true:=aG (by omega);obtain⟨d7,d8,d⟩:=a1.out i d6;obtain⟨p1,p2,hp⟩:=a1.out (i-1) (by omega);have J:=(L.cell (p:=⟨O,R+i,none⟩) U).trans (a3.out i _ d);obtain⟨M,hM⟩:∃M:Nat,M=i-1:=⟨_,rfl⟩;have c3:=(L.cell (p:=⟨O,R+(i-1),none⟩) U).trans (a3.out (i-1) _ hp);have a4:=aE4 d;obtain⟨x,V⟩:=ex1 (l.getD i 0);obtain⟨p,c4⟩:=ex1 (l.getD (i-1) 0);rw[<-V] at d7 d8 J a4;rw[<-c4] at p1 p2 c3 a4;rw[<-hM] at c3
     have c5:=hid (show aT y 5++fR (l.getD 0 0) (l.take (i+1))=D++((aX (x-p).toNat [true,false]).flatten++(aX (p-x).toNat [true,true]).flatten++[false]) by rw[a4,HD.out,bU];rfl);obtain⟨A,b2⟩:=ex1 ((x-p).toNat);obtain⟨B,b3⟩:=ex1 ((p-x).toNat);rw[<-b2,<-b3] at c5;have HA:=hid b2;have a5:=hid b3;have f2:A<=20:=by omega
     have f3:B<=20:=by omega
     have m3:max (aJ.wrap ((i:Int)-1)) 0=(M:Int):=by rw[aM];omega
     have m4:max ((i:Int)-1) 0=(M:Int):=by omega
     have m5:aJ.wrap ((i:Int)-1)=(i:Int)-1:=by rw[aM];omega
     have q1:(M:Int)<(l.length:Int):=by omega
     have q2:M<l.length:=by omega
     rw[<-V] at d;have HX:=hid d;clear hM V c4 a4 d hp b2 b3;go_wp2_with fail
     go_loopg [5,8] A (fun g s5 s8 wy=>∃c:Nat,c<=A/\g=A-c/\s8=.int .i64 (p+(c:Int))/\OwI wy (w.heap.size+1) s5 (bI (D++(aX c [true,false]).flatten))/\Below (w.heap.size+1) w1 wy)
     case atStart=>exact⟨0,aO _,rfl,by rw[OX,Int.add_zero],by simpa using F,L⟩
     case round=>
      clear F J c3;obtain⟨c,d9,G,rfl,F,a6⟩:=hrel;have e0:=hid G;clear G;have f4:=a6.size;have J:=(a6.cell (p:=⟨O,R+i,none⟩) U).trans (a3.out i _ HX.out);have c6:(bI (D++(aX c [true,false]).flatten)).length<=20000:=by rw[cX,aL,FH];omega
      by_cases e1:c<A
      ·have u3:decide (p+(c:Int)<x)=true:=aG (by have:=HA.out;omega);have m6:aJ.wrap (p+(c:Int)+1)=p+(c:Int)+1:=by rw[aM];omega
       go_wp2_with (at_builtin;refine lR rfl _ _ rfl (w.heap.size+1) _ _ [1,0] rfl (OwI.alloc F _) _ rfl (aE5 wr 1 0) (by decide) ?_ ?_ ?_;(simp only[aU,aV];omega);(simp;omega);intro v3 w3 r1 r2 r3 r4);have f5:=e0.out
       go_roundg (A-(c+1))
       ·exact⟨c+1,by omega,rfl,congrArg _ (by push_cast;omega),by rw[FG,<-bU,iT];exact r1,(a6.alloc (by omega) _).trans r2⟩
       ·omega
      ·have u3:decide (p+(c:Int)<x)=false:=aE (by have:=HA.out;omega);obtain rfl:A=c:=by omega
       obtain⟨E,hE⟩:=ex1 (D++(aX A [true,false]).flatten);have f6:E.length<=5+39*i+40:=by rw[hE,aL,FH];omega
       rw[<-hE] at F;have HE:=hid hE;clear hE c6;go_wp2_with fail
       go_loopg [5,9] B (fun g s5 s9 wy=>∃c:Nat,c<=B/\g=B-c/\s9=.int .i64 (p-(c:Int))/\OwI wy (w.heap.size+1) s5 (bI (E++(aX c [true,true]).flatten))/\Below (w.heap.size+1) w1 wy)
       case atStart=>exact⟨0,aO _,rfl,by rw[OX,Int.sub_zero],by simpa using F,a6⟩
       case round=>
        clear F J;obtain⟨c,d9,G,rfl,F,a7⟩:=hrel;have e2:=hid G;clear G;have f7:=a7.size;have J:=(a7.cell (p:=⟨O,R+i,none⟩) U).trans (a3.out i _ HX.out);have c6:(bI (E++(aX c [true,true]).flatten)).length<=20000:=by rw[cX,aL,FH];omega
        by_cases e1:c<B
        ·have v3:decide (p-(c:Int)>x)=true:=aG (by have:=a5.out;omega);have v4:decide (x<p-(c:Int))=true:=aG (by have:=a5.out;omega);have m6:aJ.wrap (p-(c:Int)-1)=p-(c:Int)-1:=by rw[aM];omega
         go_wp2_with (at_builtin;refine lR rfl _ _ rfl (w.heap.size+1) _ _ [1,1] rfl (OwI.alloc F _) _ rfl (aE5 wr 1 1) (by decide) ?_ ?_ ?_;(simp only[aU,aV];omega);(simp;omega);intro v3 w3 r1 r2 r3 r4);have f8:=e2.out
         go_roundg (B-(c+1))
         ·exact⟨c+1,by omega,rfl,congrArg _ (by push_cast;omega),by rw[FG,<-bU,iT];exact r1,(a7.alloc (by omega) _).trans r2⟩
         ·omega
        ·have v3:decide (p-(c:Int)>x)=false:=aE (by have:=a5.out;omega);have v4:decide (x<p-(c:Int))=false:=aE (by have:=a5.out;omega);obtain rfl:B=c:=by omega
         have HT:=hid (show bI (E++(aX B [true,true]).flatten)++[0]=bI (aT y 5++fR (l.getD 0 0) (l.take (i+1))) by
          rw[c5.out,HE.out,iT,iT,iT,iT,iT];simp only[bU];rfl)
         go_wp2_with (at_builtin;(refine lR rfl _ _ rfl (w.heap.size+1) _ _ [0] rfl (OwI.alloc F _) _ rfl (aXg wr 0) (by decide) ?_ ?_ ?_;(simp only[aU,aV];omega);(simp;omega);intro v3 w3 r1 r2 r3 r4));have f9:=d5.out
         go_roundg (l.length-(i+1))
         ·exact⟨i+1,by omega,rfl,by go_num,by rw[<-HT.out];exact r1,(a7.alloc (by omega) _).trans r2⟩
         ·omega
    ·have u2:decide ((i:Int)<(l.length:Int))=false:=aE (by omega);have e3:i=l.length:=by omega
     subst e3;have HF:=hid (show D=fI l by
      rw[HD.out,jS];unfold fI;rw[HY.out,fL])
     go_wp2_with fail;refine(CF _ D _ (OwI.rd F) (by omega)).mono ?_;rintro e w6 ⟨rfl,b4⟩;have a0:=(b7.below L (by omega)).below b4 (by omega);have e4:Below w.heap.size w w6:=(b8.trans (L.mono (by omega))).trans (b4.mono (by omega));have d0:=a0.cell (i:=0) rfl;have d1:=a0.cell (i:=1) rfl;have f0:=a0.free 0;have f1:=a0.free 1;clear b7 b4 F L b8;go_wp2_with fail;have z0:Arr ((w6.setCell ⟨w.heap.size,0,none⟩ (.string (mkS (aI D)))).setCell ⟨w.heap.size,1,none⟩ (.int .i64 (D.length:Int))) w.heap.size 69 [.string (mkS (aI D)),.int .i64 (D.length:Int)]:=(a0.set 0 _).set 1 _
     refine fM (uS rfl _ _ w.heap.size _ _ (0,0) _ rfl z0 underlying69 rfl rQ) rfl ?_;exact⟨by rw[<-HF.out];rfl,(e4.setCell (p:=⟨w.heap.size,0,none⟩) (aD _) _).setCell (p:=⟨w.heap.size,1,none⟩) (aD _) _⟩
theorem TI {l:List Int} {s:List UInt8} {a i:Nat} (h:aP s.length (a:Int) (bL l i)=0):lA l s a i↔aK s (a:Int) (bL l i)=gZ l i:=by grind [iG,lA,aK,aP,bL,gZ]
theorem MI {l:List Int} {k:Nat} {x y:Int} (h:l[k]? =some x) (d:y∈l.take (k+1)):y∈l.take k\/y=x:=by grind [cG]
theorem aYj (v:Value) (l:List Int) (w:World) (J:RdI w v l) (L:1<=l.length):
  Calls pG 225 #[v] w fun e w'=>∃m,e=.returned (.int .i64 m)/\m∈l/\(∀x∈l,m<=x)/\w'=w:=by
 obtain⟨a,ca,rfl,a1,Y,O⟩:=J.open;unfold maxLen at Y;clear J;obtain⟨b1,o1,rfl,a2,D⟩:=O (by omega);obtain⟨R,F⟩:=eG L;have Z:=D 0 R F;rw[pV] at Z;have U:=hid F;have t0:decide ((l.length:Int)<1)=false:=aE (by omega);have a3:(0:Int)<(l.length:Int):=by omega
 have a4:0<l.length:=by omega
 clear F O;go_enter func225,ntmps225;go_wp2_with fail
 go_loopg [3,4] (l.length-1) (fun g s3 s4 wr=>∃(k:Nat) (M:Int),1<=k/\k<=l.length/\g=l.length-k/\s4=.int .i64 (k:Int)/\s3=.int .i64 M/\Hid (M∈l/\∀x∈l.take k,M<=x)/\wr=w)
 case atStart=>exact⟨1,R,by omega,L,rfl,rfl,rfl,hid ⟨cN U.out,fun y G=>by
  rcases MI (k:=0) U.out G with q|q
  ·simp at q
  ·omega⟩,rfl⟩
 case round=>
  obtain⟨k,M,a5,hk,I,rfl,rfl,A,rfl⟩:=hrel;have HG:=hid I;clear I
  by_cases a0:k<l.length
  ·have t1:decide ((k:Int)<(l.length:Int))=true:=aG (by omega);obtain⟨x,d⟩:=eG a0;have c1:=D k x d;have V:=hid d;clear D d;go_wp2_with fail;have I:=HG.out
   go_roundg (l.length-(k+1))
   ·exact⟨k+1,min M x,by omega,by omega,rfl,by go_num,rfl,hid ⟨by
    rcases Int.min_def M x▸(by split<;>simp:(if M<=x then M else x)=M\/(if M<=x then M else x)=x) with q|q
    ·rw[q];exact A.out.1
    ·rw[q];exact cN V.out,fun y G=>by
    rcases MI V.out G with q|q
    ·have:=A.out.2 y q;omega
    ·omega⟩,rfl⟩
   ·omega
  ·have t1:decide ((k:Int)<(l.length:Int))=false:=aE (by omega);have HF:=hid (show ∀x∈l,M<=x from fun x d=>A.out.2 x (by rw[cD (by omega)];exact d));go_wp2_with fail;go_ret;exact⟨M,rfl,A.out.1,HF.out,rfl⟩
theorem aF3 (v:Value) (l:List Int) (w:World) (J:RdI w v l) (L:1<=l.length):
  Calls pG 226 #[v] w fun e w'=>∃m,e=.returned (.int .i64 m)/\m∈l/\(∀x∈l,x<=m)/\w'=w:=by
 obtain⟨a,ca,rfl,a1,Y,O⟩:=J.open;unfold maxLen at Y;clear J;obtain⟨b1,o1,rfl,a2,D⟩:=O (by omega);obtain⟨R,F⟩:=eG L;have Z:=D 0 R F;rw[pV] at Z;have U:=hid F;have t0:decide ((l.length:Int)<1)=false:=aE (by omega);have a3:(0:Int)<(l.length:Int):=by omega
 have a4:0<l.length:=by omega
 clear F O;go_enter func226,ntmps226;go_wp2_with fail
 go_loopg [3,4] (l.length-1) (fun g s3 s4 wr=>∃(k:Nat) (M:Int),1<=k/\k<=l.length/\g=l.length-k/\s4=.int .i64 (k:Int)/\s3=.int .i64 M/\Hid (M∈l/\∀x∈l.take k,x<=M)/\wr=w)
 case atStart=>exact⟨1,R,by omega,L,rfl,rfl,rfl,hid ⟨cN U.out,fun y G=>by
  rcases MI (k:=0) U.out G with q|q
  ·simp at q
  ·omega⟩,rfl⟩
 case round=>
  obtain⟨k,M,a5,hk,I,rfl,rfl,A,rfl⟩:=hrel;have HG:=hid I;clear I
  by_cases a0:k<l.length
  ·have t1:decide ((k:Int)<(l.length:Int))=true:=aG (by omega);obtain⟨x,d⟩:=eG a0;have c1:=D k x d;have V:=hid d;clear D d;go_wp2_with fail;have I:=HG.out
   go_roundg (l.length-(k+1))
   ·exact⟨k+1,max M x,by omega,by omega,rfl,by go_num,rfl,hid ⟨by
    rcases Int.max_def M x▸(by split<;>simp:(if M<=x then x else M)=M\/(if M<=x then x else M)=x) with q|q
    ·rw[q];exact A.out.1
    ·rw[q];exact cN V.out,fun y G=>by
    rcases MI V.out G with q|q
    ·have:=A.out.2 y q;omega
    ·omega⟩,rfl⟩
   ·omega
  ·have t1:decide ((k:Int)<(l.length:Int))=false:=aE (by omega);have HF:=hid (show ∀x∈l,x<=M from fun x d=>A.out.2 x (by rw[cD (by omega)];exact d));go_wp2_with fail;go_ret;exact⟨M,rfl,A.out.1,HF.out,rfl⟩
theorem aYk (n:Nat) (f:Nat->Int):(tab n f).toArray.size=n:=by simp[tab]
theorem aF4 (f:Nat->Int):(pG.info? 345).map (·.size)=some (tab 21 f).toArray.size:=by rw[aYk];kernel_rfl
theorem TJ:pG.underlying 345=some (.array 21 3):=by kernel_rfl
theorem aYl {w:World} {b:Nat} {e:TypeId} {l:List Value} (n:Nat) (h:Arr w b e l) (d:l.length=n) (f:Nat->Int):
  (storeCells ⟨b,0,none⟩ (tab n f)).run pG w=.ok () (w.setRow b (tab n f).toArray):=by
 have A:(tab n f).length=n:=by simp[tab]
 have D:=run_storeCells_from (P:=pG) b e (tab n f) 0 l.toArray w h (by simp[d,A]) (fun v F=>by obtain⟨c,_,rfl⟩:=List.mem_map.1 F;rfl);rw[D]
 congr 2
theorem aYm (f:Nat->Int) (k:Nat) (d:k<21) (w:World):(rE 345 (.agg (tab 21 f).toArray) (.int .i64 (k:Int))).run pG w=.ok (.int .i64 (f k)) w:=by
 have h:(tab 21 f)[k]? =some (.int .i64 (f k)):=lM 21 f k d;have e:(k:Int)<21:=by omega
 simp[rE,wW TJ,asIntOf,d,part,isAgg,wW underlying3,h,Result.andThen]
theorem aYn (v:Value) (l:List Int) (w:World) (L:RdI w v l) (M:∀x∈l,1<=x/\x<=20) (hn:l.length<=258):
  Calls pG 227 #[v] w fun e w'=>e=.returned (.agg (tab 21 (fun n=>(cL l n:Int))).toArray)/\Below w.heap.size w w':=by
 obtain⟨a,ca,rfl,a5,Y,O⟩:=L.open;unfold maxLen at Y;clear L;have Z:=hid M;clear M;go_enter func227,ntmps227;go_wp2_with fail
 go_loopg [4,7] l.length (fun g _s4 s7 wr=>∃k:Nat,k<=l.length/\g=l.length-k/\s7=.int .i64 (k:Int)/\Arr wr w.heap.size 345 (tab 21 (fun n=>(cL (l.take k) n:Int)))/\Below w.heap.size w wr)
 case atStart=>
  refine⟨0,aO _,rfl,rfl,?_,(aH _ _).alloc (aD _) _⟩;exact Arr.new w _ (tab 21 (fun _=>0))
 case round=>
  obtain⟨k,hk,F,rfl,A,G⟩:=hrel;have HG:=hid F;clear F
  by_cases R:k<l.length
  ·have t1:decide ((k:Int)<(l.length:Int))=true:=aG (by omega);obtain⟨b1,o1,rfl,a0,U⟩:=O (by omega);obtain⟨x,D⟩:=eG R;have c1:=((pJ G).1 b1 (o1+k) a0).trans (U k _ D);have a1:=Z.out x (cN D);obtain⟨y,rfl⟩:∃y:Nat,x=(y:Int):=⟨x.toNat,by omega⟩;have hy:y<21:=by omega
   have a6:(y:Int)<21:=by omega
   have d1:=A.cell (lM 21 _ y hy);have f1:=A.free y;have I:=fun n=>KM R n
   have V:l.getD k 0=(y:Int):=by rw[bV,D];rfl
   rw[V] at I;have a2:cL (l.take k) y<=258:=by unfold cL;exact aR DI (by rw[aQ];omega)
   obtain⟨C,J⟩:=ex1 (cL (l.take k) y);rw[<-J] at d1 a2;have m1:aJ.wrap ((C:Int)+1)=(C:Int)+1:=by rw[aM];omega
   have HT:=hid (uE 21 (fun n=>(cL (l.take k) n:Int)) (fun n=>(cL (l.take (k+1)) n:Int)) y ((C:Int)+1) (fun d hd=>by
    show((cL (l.take (k+1)) d:Nat):Int)=_;rw[I d]
    by_cases e:d=y
    ·subst e;rw[aB (by simp),aB rfl,<-J];omega
    ·rw[aA (by simp;omega),aA e];omega))
   clear J I V D U O a1;go_wp2_with fail;have F:=HG.out
   go_roundg (l.length-(k+1))
   ·
    refine⟨k+1,by omega,rfl,by go_num,?_,G.setCell (p:=⟨w.heap.size,y,none⟩) (aD _) _⟩;rw[<-HT.out];exact A.set y _
   ·omega
  ·have t1:decide ((k:Int)<(l.length:Int))=false:=aE (by omega);have a3:k=l.length:=by omega
   subst a3;rw[jS] at A;have a7:=aYl 21 A (by simp[tab]) (fun n=>(cL l n:Int));go_upto_region 6 with fail;go_wp2_with (refine wpList_load_row rfl 345 (.tmp 2) rfl w.heap.size rfl _ _ (0,0) (.array 21 3) A TJ rfl (aF4 _) ?_);have a4:Arr (wr.setRow w.heap.size (tab 21 (fun n=>(cL l n:Int))).toArray) w.heap.size 345 (tab 21 (fun n=>(cL l n:Int))):=setRow_heap wr w.heap.size _ _ 345 (0,0) A;refine fM (results_cell_row rfl _ _ w.heap.size _ _ (0,0) (.array 21 3) rfl a4 TJ rfl (aF4 _)) rfl ?_;exact⟨rfl,DZ G _ (aD _) _⟩
def TK (l:List Int):Nat->Int
 |0=>1
 |n+1=>sS l n
theorem aYo (l:List Int) (k:Nat):sS l k=(if k=0 then TK l k else 2*TK l k)-(cL l k:Int):=by
 cases k with
 |zero=>rfl
 |succ k=>rfl
theorem FK (v:Value) (l:List Int) (w:World) (hr:RdI w v l):
  Calls pG 198 #[v] w fun e w'=>e=.returned (.int .i64 (bM l))/\Below w.heap.size w w':=by
 have V:=hr;obtain⟨a,ca,rfl,b5,a8,hA⟩:=hr.open;unfold maxLen at a8;clear hr hA
 by_cases L:2<=l.length/\l.length<=258
 rotate_left
 ·have d:=hid (aEw L)
  by_cases h3:l.length<2
  ·have t1:decide ((l.length:Int)<2)=true:=aG (by omega);go_enter func198,ntmps198;go_wp2_with fail;go_ret;exact⟨by rw[d.out];rfl,aH _ _⟩
  ·have t1:decide ((l.length:Int)<2)=false:=aE (by omega);have t2:decide ((l.length:Int)>258)=true:=aG (by omega);have t3:decide ((258:Int)<(l.length:Int))=true:=aG (by omega);go_enter func198,ntmps198;go_wp2_with fail;go_ret;exact⟨by rw[d.out];rfl,aH _ _⟩
 ·have t1:decide ((l.length:Int)<2)=false:=aE (by omega);have t2:decide ((l.length:Int)>258)=false:=aE (by omega);have t3:decide ((258:Int)<(l.length:Int))=false:=aE (by omega);have a0:=aYj _ l w V (by omega);have Z:=aF3 _ l w V (by omega);have M:=aYn _ l w V;clear V;go_enter func198,ntmps198;go_wp2_with fail;refine a0.mono ?_;rintro e w1 ⟨m,rfl,a6,a1,rfl⟩
  by_cases hm:m<1
  ·have u1:decide (m<1)=true:=aG hm;obtain⟨k,J⟩:=XQ a6;have d:=hid (LU J (by omega));clear J a1 M Z a0;go_wp2_with fail;go_ret;exact⟨by rw[d.out];rfl,aH _ _⟩
  ·have u1:decide (m<1)=false:=aE hm;have HM:=hid a1;clear a1 a0 a6;go_wp2_with fail;refine Z.mono ?_;rintro e w2 ⟨x,rfl,a9,a2,rfl⟩
   by_cases hx:20<x
   ·have u2:decide (x>20)=true:=aG hx;have u3:decide (20<x)=true:=aG hx;obtain⟨k,J⟩:=XQ a9;have d:=hid (LU J (by omega));clear J a2 M Z;go_wp2_with fail;go_ret;exact⟨by rw[d.out];rfl,aH _ _⟩
   ·have u2:decide (x>20)=false:=aE hx;have u3:decide (20<x)=false:=aE hx;have F:∀y∈l,1<=y/\y<=20:=fun y hy=>by
     have:=HM.out y hy;have:=a2 y hy;omega
    have b6:=hid F;have d:=hid (aEx ⟨L.1,L.2,F⟩);have M:=M F L.2;have b0:=hid (fun n (O:n<=20)=>aSx F O);have b1:=hid (aSy F);have b2:=hid (fun n=>aSz (l:=l) (n:=n) (fun y hy=>(F y hy).1));clear F a2 HM Z;go_wp2_with fail;refine M.mono ?_;rintro e w3 ⟨rfl,a3⟩;go_wp2_with fail
    go_loopg [3,4,5,26] 21 (fun g s3 _s4 _s5 b3 wr=>∃(k:Nat) (X:Int),k<=21/\g=21-k/\b3=.int .i64 (k:Int)/\s3=.int .i64 X/\Hid (X=TK l k)/\Hid (∀n,n<k->0<=sS l n)/\wr=w3)
    case atStart=>exact⟨0,1,by omega,rfl,rfl,rfl,hid rfl,hid (fun n O=>by omega),rfl⟩
    case round=>
     obtain⟨k,X,J,hg,rfl,rfl,HX,HN,rfl⟩:=hrel;have HG:=hid hg;clear hg
     by_cases b4:k<21
     ·have v1:decide ((k:Int)<21)=true:=aG (by omega);have ix:=aYm (fun n=>(cL l n:Int)) k b4 wr;have R:cL l k<=258:=by unfold cL;exact aR DI L.2
      have hB:0<=X/\X<=1048576:=by
       rw[HX.out]
       cases k with
       |zero=>exact⟨show(0:Int)<=1 by decide,show(1:Int)<=1048576 by decide⟩
       |succ k=>
        refine⟨HN.out k (by omega),Int.le_trans (b2.out k) ?_⟩;have:(2:Nat)^k<=2^20:=nF (by decide) (by omega);have e:(2:Nat)^20=1048576:=by decide
        have:(((2:Nat)^k:Nat):Int)<=1048576:=by omega
        simpa using this
      have A:=aYo l k;rw[<-HX.out] at A;have G:=b0.out k (by omega);obtain⟨Y,a4⟩:=ex1 (sS l k);obtain⟨C,a5⟩:=ex1 (cL l k);rw[<-a4] at A G;simp only[<-a5] at ix;rw[<-a5] at A R;have HY:=hid a4;clear a4 a5
      by_cases a7:k=0
      ·subst a7;rw[aB rfl] at A;rw[show((0:Nat):Int)=0 from rfl] at ix;have v2:decide ((0:Int)>0)=false:=by decide
       have v3:decide (((0:Nat):Int)>0)=false:=by decide
       have m4:X-(C:Int)=Y:=by omega
       have m5:aJ.wrap Y=Y:=by rw[aM];omega
       by_cases I:Y<0
       ·have w1:decide (Y<0)=true:=aG I;have U:=hid (show bM l=6 by rw[d.out,aB (G I)]);clear G A hB R;go_wp2_with fail;go_ret;exact⟨by rw[U.out];rfl,a3⟩
       ·have w1:decide (Y<0)=false:=aE I;clear G A hB R;go_wp2_with fail;have hg:=HG.out
        go_roundg (21-(0+1))
        ·exact⟨0+1,Y,by omega,rfl,by go_num,rfl,HY,hid (fun n O=>by
         rcases cF n 0 with h|h
         ·exact HN.out n h
         ·rw[show n=0 by omega,<-HY.out];omega),rfl⟩
        ·omega
      ·rw[aA a7] at A;have v2:decide ((k:Int)>0)=true:=aG (by omega);have v3:decide (0<k)=true:=aG (by omega);have v4:0<k:=by omega
       obtain⟨D,hD⟩:=ex1 (2*X);have m1:aJ.wrap (X*2)=D:=by rw[aM];omega
       have m2:X*2=D:=by omega
       have m3:aJ.wrap D=D:=by rw[aM];omega
       rw[<-hD] at A;have m4:D-(C:Int)=Y:=by omega
       have m5:aJ.wrap Y=Y:=by rw[aM];omega
       by_cases I:Y<0
       ·have w1:decide (Y<0)=true:=aG I;have U:=hid (show bM l=6 by rw[d.out,aB (G I)]);clear G A hB R hD;go_wp2_with fail;go_ret;exact⟨by rw[U.out];rfl,a3⟩
       ·have w1:decide (Y<0)=false:=aE I;clear G A hB R hD;go_wp2_with fail;have hg:=HG.out
        go_roundg (21-(k+1))
        ·exact⟨k+1,Y,by omega,rfl,by go_num,rfl,HY,hid (fun n O=>by
         rcases cF n k with h|h
         ·exact HN.out n h
         ·rw[show n=k by omega,<-HY.out];omega),rfl⟩
        ·omega
     ·have v1:decide ((k:Int)<21)=false:=aE (by omega);have U:=hid (show bM l=0 by rw[d.out,aA (by have:=b1.out (fun n O=>HN.out n (by omega));omega)]);go_wp2_with fail;go_ret;exact⟨by rw[U.out];rfl,a3⟩
theorem aF7 (n:Nat) (w:World) (d:2<=n) (A:n<=258):Calls pG 220 #[.int .i64 (n:Int)] w fun e w'=>e=.returned (.bool true)/\w'=w:=by
 have D:decide ((n:Int)>=2)=true:=aG (by omega);have F:decide ((2:Int)<=(n:Int))=true:=aG (by omega);have G:decide ((n:Int)<=258)=true:=aG (by omega);go_enter func220,ntmps220;go_wp2;go_ret;exact⟨rfl,rfl⟩
theorem aF8 (x:Int) (w:World):Calls pG 240 #[.int .i64 x] w fun e w'=>e=.returned (.bool (decide (1<=x)&&decide (x<=20)))/\w'=w:=by
 by_cases d:1<=x
 ·have D:decide (x>=1)=true:=aG d;have F:decide (1<=x)=true:=aG d
  by_cases A:x<=20
  ·have G:decide (x<=20)=true:=aG A;go_enter func240,ntmps240;go_wp2;go_ret;exact⟨by first|rfl|(simp[d,A]),rfl⟩
  ·have G:decide (x<=20)=false:=aE A;go_enter func240,ntmps240;go_wp2;go_ret;exact⟨by first|rfl|(simp[d,A]),rfl⟩
 ·have D:decide (x>=1)=false:=aE d;have F:decide (1<=x)=false:=aE d;go_enter func240,ntmps240;go_wp2;go_ret;exact⟨by first|rfl|(simp[d]),rfl⟩
def uW (w:World) (b:Nat) (D:List Bool):Prop:=Arr w b 69 [.string (mkS (aI D)),.int .i64 (D.length:Int)]
theorem uW.set {w:World} {b:Nat} {D:List Bool} (h:uW w b D) (E:List Bool):uW ((w.setCell ⟨b,0,none⟩ (.string (mkS (aI E)))).setCell ⟨b,1,none⟩ (.int .i64 (E.length:Int))) b E:=(Arr.set h 0 _).set 1 _
end
section
open Go.RowKit Go Go.Shelf
attribute [local go_sem] Oper.semAt_some
theorem bBa {n:Nat} {F:Fence} {A:Array Oper} {rest:List Oper} {o:Oper} {a:Act} {Q:Exit->Act->World->Prop} {w:World} (I:o.guard=none) (s x:Operand)
  (J:o.op=.call {callee:=.builtin .append,args:=#[s,x],argTypes:=#[53,53]}) (base:Nat) (v:Value) (l:List Int) (hs:a.eval s=v) (hown:OwI w base v l)
  (g:Nat) (y:Int) (hx:a.eval x=.slice (some ⟨g,0,none⟩) 1 1) (hc:w.cell? ⟨g,0,none⟩=some (.int .i64 y)) (hroom:(l.length+1)*8<=140737488355328) (hbase:base<=w.heap.size)
  (h:∀d w',OwI w' base d (l++[y])->Below base w w'->w.grownBy w' v.ownBlock->wpListIn F n pG A Q rest (a.put o.dst d) w'):wpListIn F n pG A Q (o::rest) a w:=by
 obtain⟨i,L,M,O,R⟩:=jL.info;have U:(bQ .i64 0).cells.size=1:=by rw[jL.cells];rfl
 have D:w.ownsRow base 3 1 v l.length (l.map (bQ .i64)):=by have:=hown;unfold OwI Ow at this;rwa[List.length_map] at this
 refine wpListIn_append_own w I s x 53 J base 3 i (.int .i64 0) 1 8 jL.under L M O R U (by decide) v l.length (l.map (bQ .i64)) hs D ⟨g,0,none⟩ 1 1 [.int .i64 y] hx rfl ?_ (by simp[Value.oneCell']) (by simp only[maxLen];omega) hroom hbase (fun d w' V G _=>h d w' ?_ (rJ D G hbase) G)
 ·intro j Y e
  cases j with
  |zero=>simp at e;subst e;simpa [Addr.add] using hc
  |succ j=>simp at e
 ·unfold OwI Ow;rw[dY,aL]
  simpa using V
def lU (l:List Int) (k:Nat):List Nat:=(eT k).filter (fun n=>decide (cL l n≠0))
theorem aH9 (l:List Int) (k:Nat):lU l (k+1)=lU l k++if cL l k≠0 then[k] else[]:=by grind [lU,List.range_succ,cL,List.filter_cons_of_pos,bGo]
theorem aIa (l:List Int):∀m k,∃r,lU l (k+m)=lU l k++r
 |0,k=>⟨[],by simp⟩
 |m+1,k=>by
  obtain⟨r,d⟩:=aIa l m k
  grind [aH9,lU]
def pA (l:List Int) (n i:Nat):List Int:=(qG l n i).map (fun s:Nat=>(s:Int))
theorem MU (l:List Int) (n i:Nat) (h:i<=l.length):(pA l n i).length=cL (l.take i) n:=by grind [pA,KN,cL]
theorem bBb (l:List Int) (n i:Nat):pA l n (i+1)=pA l n i++if l.getD i 0==(n:Int) then[(i:Int)] else[]:=by grind [pA,RF]
def yB (l:List Int) (x:Nat×Value):Array Value:=#[.agg #[.int .i64 (x.1:Int),.int .u64 (gY l x.1:Int),x.2]]
def CS (l:List Int) (B:Nat) (d:List (Nat×Value)) (x:Nat×Value) (W:World):Prop:=
 (∃r,d.map (·.1)++x.1::r=lU l 21)/\(1<=x.1/\x.1<=20)/\0<cL l x.1/\d.map (·.1)=lU l x.1/\OwI W B x.2 (pA l x.1 l.length)
theorem bBc (n:Nat) (hn:1<=n) (l0 Bs I O o1 ca:Nat) (d:List Int) (hE:bM d=0) (J Jx:List (Nat×Value)->World->Prop) (W:World)
  (hA:Arr W Bs 53 [.slice (some ⟨O,o1,none⟩) d.length ca]) (hc:∀i x,d[i]? =some x->W.cell? ⟨O,o1+i,none⟩=some (.int .i64 x)) (d5:O≠I) (d6:Bs≠I) (g8:I<W.heap.size) (d7:O<W.heap.size)
  (b5:∀s A B,J s A->Below W.heap.size A B->J s B)
  (hY:∀D x W1,J D W1->W.heap.size<=W1.heap.size->CS d W.heap.size D x W1->YieldAt cZ (n-1) pG l0 (yB d x) W1 fun e W'=>(e=.returned (.bool true)/\J (D++[x]) W'/\bW (some I) W1 W')\/(e=.returned (.bool false)/\Jx (D++[x]) W'))
  (h0:J [] W):
  CallsIn cZ n pG 241 #[.func (.yield l0) #[] #[],.pointer (some ⟨Bs,0,none⟩)] W fun e W'=>(∃v,e=.returned v)/\((∃xs:List (Nat×Value),xs.map (·.1)=lU d 21/\J xs W')\/∃D,Jx D W'):=by
 have R:=gE hE;have d8:=hid (fun i (h:i<d.length)=>(lX R.1 h));have g9:=R.1.2.1;have d9:=hid (fun k (hk:k<=20)=>LY (i:=d.length) R.1 R.2 hk);have e0:=hid (aBw (fun x U=>(R.1.2.2 x U).1));have e1:=hid (show lU d 1=[] by
  unfold lU;rw[show eT 1=[0] from rfl,bGo (by simp[aBv (fun x U=>(R.1.2.2 x U).1)]),List.filter_nil])
 have b6:=hid b5;have e4:=hid hc;clear R b5 hc;refine callsIn_of_wp func241 rfl trivial ?_ rfl;simp only[ntmps241,List.size_toArray,aU,aV,Nat.reduceAdd,Nat.reduceSub,Array.replicate_succ,Array.replicate_zero,List.push_toArray,List.append_toArray,List.nil_append,List.cons_append]
 gi_wp2_with fail
 gi_loopg [3,4] 20 (fun g s3 s4 wr=>∃(k V:Nat) (D:List (Nat×Value)),1<=k/\k<=21/\g=21-k/\s4=.int .i64 (k:Int)/\s3=.int .u64 (V:Int)/\Hid (2*V=gY d k)/\V<=1048576/\Hid (D.map (·.1)=lU d k)/\J D wr/\W.heap.size<=wr.heap.size/\bW (some I) W wr)
 case atStart=>exact⟨1,0,[],by omega,by omega,rfl,rfl,rfl,hid (by rw[e0.out]),by omega,hid (by rw[e1.out];rfl),h0,aD _,bW.refl _ _⟩
 case round=>
  obtain⟨k,V,D,e5,i0,Y,rfl,rfl,HV,i1,HP,hJ,b7,a1⟩:=hrel;have HG:=hid Y;clear Y
  by_cases hk:k<=20
  ·have t1:decide ((k:Int)<=20)=true:=aG (by omega);obtain⟨X,hX⟩:=ex1 (2*V);have HX:=hid (show X=gY d k by rw[hX,HV.out]);have m1:eZ.wrap ((V:Int)*2)=(X:Int):=by rw[fC];omega
   have m2:(V:Int)*2=(X:Int):=by omega
   have m3:(V:Int)*2%18446744073709551616=(X:Int):=by omega
   have m4:eZ.wrap (X:Int)=(X:Int):=by rw[fC];omega
   have i2:X<=2097152:=by omega
   have a8:=a1.arr hA (by simp;exact d6);have e6:=a8.lt;have c0:=a8.cell (i:=0) rfl;clear hX a8
   gi_wp2_with fail
   have F:=Arr.new wr 351 [.int .i64 (k:Int),.int .u64 (X:Int),.slice none 0 0];change Arr (wr.alloc (.cells #[.int .i64 (k:Int),.int .u64 (X:Int),.slice none 0 0] 351)) _ _ _ at F;have G:Below wr.heap.size wr (wr.alloc (.cells #[.int .i64 (k:Int),.int .u64 (X:Int),.slice none 0 0] 351)):=bD (aH _ _) _;have e7:(wr.alloc (.cells #[.int .i64 (k:Int),.int .u64 (X:Int),.slice none 0 0] 351)).heap.size=wr.heap.size+1:=by simp
   generalize wr.alloc (.cells #[.int .i64 (k:Int),.int .u64 (X:Int),.slice none 0 0] 351)=w1 at*
   obtain⟨S,hS⟩:=ex1 (wr.heap.size);rw[<-hS] at F G e7 ⊢;have b8:∀i x,d[i]? =some x->wr.cell? ⟨O,o1+i,none⟩=some (.int .i64 x):=fun i x hi=>a1.cell (e4.out i x hi) (by simp;exact d5)
   have b9:=hid b8;have e8:O<S:=by rw[hS];exact fB d7 b7
   have e9:J D w1:=b6.out _ _ _ hJ (G.mono (by omega));have f0:bW (some I) W w1:=a1.trans (bW.of_below (by rw[<-hS];exact G));have f1:W.heap.size<=S:=by omega
   obtain⟨W0,f2⟩:=ex1 (wr);rw[<-f2] at G b9 b7 a1 hJ hS;have f3:=hid hJ;have HS:=hid hS;clear hS b8 c0 e6 hJ e9 f0
   gi_loopg [6,7,19] d.length (fun g _s6 _s7 f4 wx=>∃(i:Nat) (u:Value),i<=d.length/\g=d.length-i/\f4=.int .i64 (i:Int)/\Arr wx S 351 [.int .i64 (k:Int),.int .u64 (X:Int),u]/\OwI wx (S+1) u (pA d k i)/\Below S W0 wx/\S<wx.heap.size)
   case atStart=>exact⟨0,.slice none 0 0,aO _,rfl,rfl,F,OwI.nil _ _,G,by omega⟩
   case round=>
    clear F G;obtain⟨i,u,hi,Y,rfl,F,ho,G,f5⟩:=hrel;have c2:=hid Y;clear Y
    by_cases f6:i<d.length
    ·have t2:decide ((i:Int)<(d.length:Int))=true:=aG (by omega);obtain⟨f7,f8,U⟩:=d8.out i f6;have c1:=(G.cell (p:=⟨O,o1+i,none⟩) e8).trans (b9.out i _ U);have c4:d.getD i 0=(bL d i:Int):=by rw[bV,U];rfl
     have Z:=bBb d k i;rw[c4] at Z;obtain⟨x,c5⟩:=ex1 (bL d i);rw[<-c5] at c1 Z f7 f8;clear c5 U c4;have d2:=F.cell (i:=2) rfl;have a5:(pA d k i).length<=258:=by rw[MU d k i (by omega)];unfold cL;exact aR DI (by rw[aQ];omega)
     have f9:some S≠u.ownBlock:=fun e=>by have:=(Ow.lt ho S e.symm).1;omega
     by_cases g0:x=k
     ·subst g0;have t3:decide ((x:Int)=(x:Int))=true:=aG rfl;have a9:=Z;rw[aB (by simp)] at a9;have b0:=hid a9;clear Z a9
      gi_wp2_with (gi_at_builtin;refine bBa rfl _ _ rfl (S+1) _ _ rfl (OwI.alloc ho _) _ (i:Int) rfl (bX _ _ _) ?_ ?_ ?_;(omega);(simp;omega);intro v3 w3 p1 p2 p3;(obtain⟨a3,c3,g1,_,_,_⟩:=(OwI.rd p1).open);subst g1;(have a2:=(F.alloc (.cells #[.int .i64 (i:Int)] 3)).grown p3 f9);(have e2:=a2.cell (i:=2) rfl);(have g2:=a2.free 2))
      have g3:=c2.out
      gi_roundg (d.length-(i+1))
      ·
       have e3:(pA d x i++[(i:Int)]).length=(pA d x i).length+1:=by simp
       rw[e3] at p1;have g4:Value.ownBlock (.slice a3 ((pA d x i).length+1) c3)≠some S:=fun e=>by have:=(Ow.lt p1 S e).1;omega
       refine⟨i+1,.slice a3 ((pA d x i).length+1) c3,by omega,rfl,by go_num,a2.set 2 _,?_,(((G.alloc (by omega) _).trans (p2.mono (by omega))).setCell (p:=⟨S,2,none⟩) (aD _) _),?_⟩
       ·rw[b0.out];exact Ow.kept p1 (TW w3 S 2 _) (.inr g4)
       ·have:=p2.size;simp at this ⊢;omega
      ·omega
     ·have t3:decide ((x:Int)=(k:Int))=false:=aE (by omega);rw[aA (by simp;omega),dI] at Z;have b0:=hid Z;clear Z
      gi_wp2_with fail
      have g3:=c2.out
      gi_roundg (d.length-(i+1))
      ·exact⟨i+1,u,by omega,rfl,by go_num,F,by rw[b0.out];exact ho,G,f5⟩
      ·omega
    ·have t2:decide ((i:Int)<(d.length:Int))=false:=aE (by omega);have g5:i=d.length:=by omega
     subst g5;obtain⟨C,hC⟩:=ex1 (cL d k);have a5:(pA d k d.length).length=C:=by rw[MU d k _ (aD _),jS,hC]
     have a6:=d9.out k hk;unfold lS at a6;rw[jS,<-HX.out,<-hC] at a6;obtain⟨L,b2⟩:=ex1 (X+C);have m5:eZ.wrap (C:Int)=(C:Int):=by rw[fC];omega
     have m6:(C:Int)%18446744073709551616=(C:Int):=by omega
     have m7:eZ.wrap (L:Int)=(L:Int):=by rw[fC];omega
     have m8:(X:Int)+(C:Int)=(L:Int):=by omega
     have c6:L<=1048576:=by omega
     have c7:=hid (show 2*L=gY d (k+1) by rw[b2,HX.out,hC];rfl);have M:=aH9 d k;rw[<-hC] at M;have c8:J D wr:=b6.out _ _ _ f3.out (G.mono f1);have c9:bW (some I) W wr:=a1.trans (bW.of_below (by rw[<-HS.out];exact G));obtain⟨r',a7⟩:=aIa d (21-(k+1)) (k+1);rw[show k+1+(21-(k+1))=21 by omega] at a7;obtain⟨a',a0,d3,_,_,_⟩:=(OwI.rd ho).open;rw[a5] at d3;subst d3;have d2:=F.cell (i:=2) rfl;have d0:=F.cell (i:=0) rfl;have d1:=F.cell (i:=1) rfl
     by_cases d4:C=0
     ·have t3:decide ((C:Int)>0)=false:=aE (by omega);have t4:decide (0<C)=false:=aE (by omega);have t5:¬0<C:=by omega
      rw[aA (fun q=>q d4),dI] at M;obtain rfl:L=X:=by omega
      have a4:=hid (show D.map (·.1)=lU d (k+1) by rw[HP.out,M]);clear hC M b2 a7 a6 a5
      gi_wp2_with fail
      refine⟨fun _ h=>(by cases h),?_⟩
      gi_wp2_with fail
      have Y:=HG.out
      gi_roundg (21-(k+1))
      ·exact⟨k+1,L,D,by omega,by omega,rfl,by go_num,rfl,c7,c6,a4,c8,by omega,c9⟩
      ·omega
     ·have t3:decide ((C:Int)>0)=true:=aG (by omega);have t4:decide (0<C)=true:=aG (by omega);have t5:0<C:=by omega
      rw[aB d4] at M;have a4:=hid (show(D++[(k,Value.slice a' C a0)]).map (·.1)=lU d (k+1) by rw[dY,HP.out,M];rfl);obtain⟨fn,tmps,assign,body,hy,hR⟩:=hY D (k,.slice a' C a0) wr c8 (by omega) ⟨⟨r',by rw[HP.out,a7,M,bU];rfl⟩,⟨e5,hk⟩,by rw[<-hC];omega,HP.out,OwI.base ho (by omega)⟩;have i3:(Instr.yield l0 #[.agg #[.int .i64 (k:Int),.int .u64 (X:Int),.slice a' C a0]]).run pG wr=.ok (.round l0 fn tmps assign body) wr:=by
       have e:yB d (k,.slice a' C a0)=#[.agg #[.int .i64 (k:Int),.int .u64 (X:Int),.slice a' C a0]]:=by unfold yB;rw[HX.out]
       rw[<-e];exact hy
      have g6:some S≠some I:=fun e=>by injection e with e;omega
      clear hC M b2 a7 a6 a5 hy
      gi_wp2_with fail
      refine hR.mono ?_;rintro e W3 (⟨rfl,b3,b4⟩|⟨rfl,b3⟩)
      ·have a2:=b4.arr F g6;have e2:=a2.cell (i:=2) rfl;have i4:=b4.1;clear d0 d1 d2
       gi_wp2_with fail
       have Y:=HG.out
       gi_roundg (21-(k+1))
       ·exact⟨k+1,L,D++[(k,.slice a' C a0)],by omega,by omega,rfl,by go_num,rfl,c7,c6,a4,b3,by omega,c9.trans b4⟩
       ·omega
      ·gi_wp2_with fail
       refine fM (results_none rfl _ _ _) rfl ?_;exact⟨⟨_,rfl⟩,.inr ⟨_,b3⟩⟩
  ·have t1:decide ((k:Int)<=20)=false:=aE (by omega);have g7:k=21:=by omega
   have a4:=hid (show D.map (·.1)=lU d 21 by rw[HP.out,g7])
   gi_wp2_with fail
   go_end0
   exact⟨⟨_,rfl⟩,.inl ⟨D,a4.out,hJ⟩⟩
end
end Go.Proofs.YtfckbfofgeilgaaGreatDoor

/-
  Texts put together (part 17): the walks and the plain laws on which the statement stands.
-/
import Derived.Test.YtfplbbphficcjaaGreatDoorZ12
import Derived.Sort.BigQuietIn
import Derived.Sort.LoopGhostIn
import Derived.Sort.QuietIn
import Derived.Sort.CutIn
set_option maxRecDepth 100000
set_option maxHeartbeats 12800000
set_option linter.unusedVariables false
set_option linter.unusedSimpArgs false
open Go.Proofs.Tryz
open Go.Proofs.Tryz renaming prog->pG
open Array renaming replicate_succ->jG,replicate_zero->jH
open Go renaming bodyPost_ret->fM,callsIn_of_wp->pX,run_underlying->wW
open Go.Fence renaming wide->cZ
open Go.Instr renaming index->rE
open Go.IntKind renaming i64->aJ,u64->eZ,wrap_i64->aM,wrap_u64->fC
open Go.RowKit.Below renaming refl->aH
open Go.Value renaming int->bQ
open Int renaming natCast_zero->OX
open List renaming append_assoc->bU,append_nil->dI,append_toArray->jJ,cons_append->fF,countP_le_length->DI,filter_cons_of_neg->bGo,getD_eq_getElem?_getD->bV,getElem?_eq_getElem->aN,getElem_mem->kK,length_append->aL,length_cons->aU,length_nil->aV,length_take->aQ,map_append->dY,mem_of_getElem?->cN,nil_append->eL,push_toArray->jI,range->eT,replicate->aX,size_toArray->dB,take_add_one->cG,take_length->jS,take_of_length_le->cD
open Nat renaming add_zero->pV,le_refl->aD,le_trans->aR,lt_or_ge->cF,reduceAdd->cV,reduceSub->dC,zero_le->aO
namespace Go.Proofs.YtfplbbphficcjaaGreatDoor
section
open Go.RowKit Go Go.Shelf
theorem FG (c:Nat) (u:List Bool):(aX (c+1) u).flatten=(aX c u).flatten++u:=by
 rw[List.replicate_succ',List.flatten_append];simp
theorem FH (c:Nat) (x y:Bool):((aX c [x,y]).flatten).length=2*c:=by
 induction c with
 |zero=>rfl
 |succ c d=>rw[FG,aL,d];simp;omega
theorem aXf {l:List Int} {i:Nat} (h:i<l.length):(l.take i).getLastD (l.getD 0 0)=l.getD (i-1) 0:=by grind
theorem aE4 {l:List Int} {i:Nat} {x:Int} (h:l[i]? =some x):fR (l.getD 0 0) (l.take (i+1))=fR (l.getD 0 0) (l.take i)++mR (l.getD (i-1) 0) x:=by grind [List.getElem?_eq_some_iff,cG,fR,KU,aXf,mR]
theorem aXg (w:World) (x:Int):RdI (w.alloc (.cells #[.int .i64 x] 3)) (.slice (some ⟨w.heap.size,0,none⟩) 1 1) [x]:=uF w 3 [.int .i64 x] 1 rfl (by decide)
theorem aE5 (w:World) (x y:Int):RdI (w.alloc (.cells #[.int .i64 x,.int .i64 y] 3)) (.slice (some ⟨w.heap.size,0,none⟩) 2 2) [x,y]:=uF w 3 [.int .i64 x,.int .i64 y] 2 rfl (by decide)
theorem aE6 (v:Value) (l:List Int) (w:World) (hr:RdI w v l) (c7:gM l):
  Calls pG 64 #[v] w fun e w'=>e=.returned (.tuple #[fT (fI l),.int .i64 0])/\Below w.heap.size w w':=by
 obtain⟨e5,e6,G⟩:=c7;have HB:=hid G;have c8:=hid (fun k=>KV (l.take k) (l.getD 0 0) (by
  rw[bV,aN (show 0<l.length by omega)];exact(G _ (kK _)).1) (by
  rw[bV,aN (show 0<l.length by omega)];exact(G _ (kK _)).2) (fun x d=>G x (List.mem_of_mem_take d)))
 have b5:∀i,i<l.length->1<=l.getD i 0/\l.getD i 0<=20/\l[i]? =some (l.getD i 0):=fun i U=>by
  rw[bV,aN U];exact⟨(G _ (kK U)).1,(G _ (kK U)).2,rfl⟩
 have a1:=hid b5;clear G;have t1:decide ((l.length:Int)<2)=false:=aE (by omega);have t2:decide ((l.length:Int)>258)=false:=aE (by omega);have t3:decide ((258:Int)<(l.length:Int))=false:=aE (by omega);have a8:=Arr.new w 83 [.string ⟨#[]⟩,.int .i64 0];have c9:(w.alloc (.cells #[.string ⟨#[]⟩,.int .i64 0] 83)).heap.size=w.heap.size+1:=by simp
 have a9:Below w.heap.size w (w.alloc (.cells #[.string ⟨#[]⟩,.int .i64 0] 83)):=bD (aH _ _) _;change Arr (w.alloc (.cells #[.string ⟨#[]⟩,.int .i64 0] 83)) _ _ _ at a8;have b6:=hr.below a9;obtain⟨a,ca,rfl,e7,d2,hA⟩:=b6.open;unfold maxLen at d2;clear hr b6 b5;obtain⟨J,L,rfl,O,V⟩:=hA (by omega);clear hA;go_enter func64,ntmps64;go_wp2_with fail;generalize w.alloc (.cells #[.string ⟨#[]⟩,.int .i64 0] 83)=w0 at*
 go_loopg [4] l.length (fun g s4 wr=>∃k:Nat,k<=l.length/\g=l.length-k/\s4=.int .i64 (k:Int)/\wr=w0)
 case atStart=>exact⟨0,aO _,rfl,rfl,rfl⟩
 case round=>
  obtain⟨k,hk,F,rfl,rfl⟩:=hrel;have HG:=hid F;clear F
  by_cases d3:k<l.length
  ·have u1:decide ((k:Int)<(l.length:Int))=true:=aG (by omega);obtain⟨x1,x2,d⟩:=a1.out k d3;have H:=V k _ d;obtain⟨x,T⟩:∃x,x=l.getD k 0:=⟨_,rfl⟩;rw[<-T] at x1 x2 H;have v1:decide (x<1)=false:=aE (by omega);have v2:decide (x>20)=false:=aE (by omega);have Y:decide (20<x)=false:=aE (by omega);clear T d V;go_wp2_with fail;have F:=HG.out
   go_roundg (l.length-(k+1))
   case measure=>omega
   case rel=>exact⟨k+1,by omega,rfl,by go_num,rfl⟩
  ·have u1:decide ((k:Int)<(l.length:Int))=false:=aE (by omega);obtain⟨x1,x2,d⟩:=a1.out 0 (by omega);have c0:=V 0 _ d;rw[pV] at c0;obtain⟨y,hy⟩:∃y:Nat,l.getD 0 0=(y:Int):=⟨(l.getD 0 0).toNat,by omega⟩;have HY:=hid hy;rw[hy] at c0 x1 x2;have y1:y<18446744073709551616:=by omega
   have m1:eZ.wrap (y:Int)=(y:Int):=by rw[fC];omega
   have m2:(y:Int)%18446744073709551616=(y:Int):=by omega
   have z1:0<l.length:=by omega
   have z2:(0:Int)<(l.length:Int):=by omega
   clear hy d hk;go_wp2_with fail;refine(wK y 5 _ y1 (by decide)).mono ?_;rintro e w1 ⟨u5,rfl,b0,a2⟩;have d4:=a2.size;have b7:=a8.below a2 (by omega);have b8:=a9.trans (a2.mono (by omega));have b9:∀j x,l[j]? =some x->w1.cell? ⟨J,L+j,none⟩=some (.int .i64 x):=fun j x hj=>((pJ a2).1 J (L+j) O).trans (V j x hj)
   have a3:=hid b9;clear V b9 c0 a8 a9;rw[c9] at b0 O d4;go_wp2_with fail
   go_loopg [5,6,7,8,9] l.length (fun g Z s6 _s7 _s8 _s9 wx=>∃i:Nat,i<=l.length/\g=l.length-i/\s6=.int .i64 (i:Int)/\OwI wx (w.heap.size+1) Z (bI (aT y 5++fR (l.getD 0 0) (l.take i)))/\Below (w.heap.size+1) w1 wx)
   case atStart=>exact⟨0,aO _,rfl,rfl,by simpa [fR] using b0,aH _ _⟩
   case round=>
    obtain⟨i,U,F,rfl,h,I⟩:=hrel;have d5:=hid F;clear F b0 HG;have e8:=I.size;have c2:=c8.out i;rw[aQ,Nat.min_eq_left U] at c2;obtain⟨D,hD⟩:∃D,D=aT y 5++fR (l.getD 0 0) (l.take i):=⟨_,rfl⟩;have e9:D.length<=5+39*i:=by rw[hD,aL,dV];omega
    rw[<-hD] at h;have HD:=hid hD;clear hD c2
    by_cases d6:i<l.length
    ·have u2:decide ((i:Int)<(l.length:Int))=true:=aG (by omega);obtain⟨d7,d8,d⟩:=a1.out i d6;obtain⟨p1,p2,hp⟩:=a1.out (i-1) (by omega);have H:=(I.cell (p:=⟨J,L+i,none⟩) O).trans (a3.out i _ d);obtain⟨M,hM⟩:∃M:Nat,M=i-1:=⟨_,rfl⟩;have c3:=(I.cell (p:=⟨J,L+(i-1),none⟩) O).trans (a3.out (i-1) _ hp);have a4:=aE4 d;obtain⟨x,T⟩:∃x,x=l.getD i 0:=⟨_,rfl⟩;obtain⟨p,c4⟩:∃p,p=l.getD (i-1) 0:=⟨_,rfl⟩;rw[<-T] at d7 d8 H a4;rw[<-c4] at p1 p2 c3 a4;rw[<-hM] at c3
     have c5:=hid (show aT y 5++fR (l.getD 0 0) (l.take (i+1))=D++((aX (x-p).toNat [true,false]).flatten++(aX (p-x).toNat [true,true]).flatten++[false]) by rw[a4,HD.out,bU];rfl);obtain⟨A,b2⟩:∃A,A=(x-p).toNat:=⟨_,rfl⟩;obtain⟨B,b3⟩:∃B,B=(p-x).toNat:=⟨_,rfl⟩;rw[<-b2,<-b3] at c5;have HA:=hid b2;have a5:=hid b3;have f2:A<=20:=by omega
     have f3:B<=20:=by omega
     have m3:max (aJ.wrap ((i:Int)-1)) 0=(M:Int):=by rw[aM];omega
     have m4:max ((i:Int)-1) 0=(M:Int):=by omega
     have m5:aJ.wrap ((i:Int)-1)=(i:Int)-1:=by rw[aM];omega
     have q1:(M:Int)<(l.length:Int):=by omega
     have q2:M<l.length:=by omega
     rw[<-T] at d;have HX:=hid d;clear hM T c4 a4 d hp b2 b3;go_wp2_with fail
     go_loopg [5,8] A (fun g Z s8 wy=>∃c:Nat,c<=A/\g=A-c/\s8=.int .i64 (p+(c:Int))/\OwI wy (w.heap.size+1) Z (bI (D++(aX c [true,false]).flatten))/\Below (w.heap.size+1) w1 wy)
     case atStart=>exact⟨0,aO _,rfl,by rw[OX,Int.add_zero],by simpa using h,I⟩
     case round=>
      clear h H c3;obtain⟨c,d9,F,rfl,h,a6⟩:=hrel;have e0:=hid F;clear F;have f4:=a6.size;have H:=(a6.cell (p:=⟨J,L+i,none⟩) O).trans (a3.out i _ HX.out);have c6:(bI (D++(aX c [true,false]).flatten)).length<=20000:=by rw[cX,aL,FH];omega
      by_cases e1:c<A
      ·have u3:decide (p+(c:Int)<x)=true:=aG (by have:=HA.out;omega);have m6:aJ.wrap (p+(c:Int)+1)=p+(c:Int)+1:=by rw[aM];omega
       go_wp2_with (at_builtin;refine lR rfl _ _ rfl (w.heap.size+1) _ _ [1,0] rfl (OwI.alloc h _) _ rfl (aE5 wr 1 0) (by decide) ?_ ?_ ?_;(simp only[aU,aV];omega);(simp;omega);intro Y w3 r1 r2 r3 r4);have f5:=e0.out
       go_roundg (A-(c+1))
       case measure=>omega
       case rel=>exact⟨c+1,by omega,rfl,congrArg _ (by push_cast;omega),by rw[FG,<-bU,iT];exact r1,(a6.alloc (by omega) _).trans r2⟩
      ·have u3:decide (p+(c:Int)<x)=false:=aE (by have:=HA.out;omega);obtain rfl:A=c:=by omega
       obtain⟨E,hE⟩:∃E,E=D++(aX A [true,false]).flatten:=⟨_,rfl⟩;have f6:E.length<=5+39*i+40:=by rw[hE,aL,FH];omega
       rw[<-hE] at h;have HE:=hid hE;clear hE c6;go_wp2_with fail
       go_loopg [5,9] B (fun g Z s9 wy=>∃c:Nat,c<=B/\g=B-c/\s9=.int .i64 (p-(c:Int))/\OwI wy (w.heap.size+1) Z (bI (E++(aX c [true,true]).flatten))/\Below (w.heap.size+1) w1 wy)
       case atStart=>exact⟨0,aO _,rfl,by rw[OX,Int.sub_zero],by simpa using h,a6⟩
       case round=>
        clear h H;obtain⟨c,d9,F,rfl,h,a7⟩:=hrel;have e2:=hid F;clear F;have f7:=a7.size;have H:=(a7.cell (p:=⟨J,L+i,none⟩) O).trans (a3.out i _ HX.out);have c6:(bI (E++(aX c [true,true]).flatten)).length<=20000:=by rw[cX,aL,FH];omega
        by_cases e1:c<B
        ·have Y:decide (p-(c:Int)>x)=true:=aG (by have:=a5.out;omega);have v4:decide (x<p-(c:Int))=true:=aG (by have:=a5.out;omega);have m6:aJ.wrap (p-(c:Int)-1)=p-(c:Int)-1:=by rw[aM];omega
         go_wp2_with (at_builtin;refine lR rfl _ _ rfl (w.heap.size+1) _ _ [1,1] rfl (OwI.alloc h _) _ rfl (aE5 wr 1 1) (by decide) ?_ ?_ ?_;(simp only[aU,aV];omega);(simp;omega);intro Y w3 r1 r2 r3 r4);have f8:=e2.out
         go_roundg (B-(c+1))
         case measure=>omega
         case rel=>exact⟨c+1,by omega,rfl,congrArg _ (by push_cast;omega),by rw[FG,<-bU,iT];exact r1,(a7.alloc (by omega) _).trans r2⟩
        ·have Y:decide (p-(c:Int)>x)=false:=aE (by have:=a5.out;omega);have v4:decide (x<p-(c:Int))=false:=aE (by have:=a5.out;omega);obtain rfl:B=c:=by omega
         have HT:=hid (show bI (E++(aX B [true,true]).flatten)++[0]=bI (aT y 5++fR (l.getD 0 0) (l.take (i+1))) by
          rw[c5.out,HE.out,iT,iT,iT,iT,iT];simp only[bU];rfl)
         go_wp2_with (at_builtin;(refine lR rfl _ _ rfl (w.heap.size+1) _ _ [0] rfl (OwI.alloc h _) _ rfl (aXg wr 0) (by decide) ?_ ?_ ?_;(simp only[aU,aV];omega);(simp;omega);intro Y w3 r1 r2 r3 r4));have f9:=d5.out
         go_roundg (l.length-(i+1))
         case measure=>omega
         case rel=>exact⟨i+1,by omega,rfl,by go_num,by rw[<-HT.out];exact r1,(a7.alloc (by omega) _).trans r2⟩
    ·have u2:decide ((i:Int)<(l.length:Int))=false:=aE (by omega);have e3:i=l.length:=by omega
     subst e3;have HF:=hid (show D=fI l by
      rw[HD.out,jS];unfold fI;rw[HY.out,Int.toNat_natCast])
     go_wp2_with fail;refine(CF _ D _ (OwI.rd h) (by omega)).mono ?_;rintro e w6 ⟨rfl,b4⟩;have a0:=(b7.below I (by omega)).below b4 (by omega);have e4:Below w.heap.size w w6:=(b8.trans (I.mono (by omega))).trans (b4.mono (by omega));have d0:=a0.cell (i:=0) rfl;have d1:=a0.cell (i:=1) rfl;have f0:=a0.free 0;have f1:=a0.free 1;clear b7 b4 h I b8;go_wp2_with fail;have z0:Arr ((w6.setCell ⟨w.heap.size,0,none⟩ (.string (mkS (aI D)))).setCell ⟨w.heap.size,1,none⟩ (.int .i64 (D.length:Int))) w.heap.size 83 [.string (mkS (aI D)),.int .i64 (D.length:Int)]:=(a0.set 0 _).set 1 _
     refine fM (uS rfl _ _ w.heap.size _ _ (0,0) _ rfl z0 underlying83 rfl rQ) rfl ?_;exact⟨by rw[<-HF.out];rfl,(e4.setCell (p:=⟨w.heap.size,0,none⟩) (aD _) _).setCell (p:=⟨w.heap.size,1,none⟩) (aD _) _⟩
theorem MI {l:List Int} {k:Nat} {x y:Int} (h:l[k]? =some x) (d:y∈l.take (k+1)):y∈l.take k\/y=x:=by grind [cG]
theorem aYj (v:Value) (l:List Int) (w:World) (H:RdI w v l) (I:1<=l.length):
  Calls pG 173 #[v] w fun e w'=>∃m,e=.returned (.int .i64 m)/\m∈l/\(∀x∈l,m<=x)/\w'=w:=by
 obtain⟨a,ca,rfl,a1,U,J⟩:=H.open;unfold maxLen at U;clear H;obtain⟨b1,o1,rfl,a2,A⟩:=J (by omega);obtain⟨L,D⟩:=eG I;have V:=A 0 L D;rw[pV] at V;have O:=hid D;have t0:decide ((l.length:Int)<1)=false:=aE (by omega);have a3:(0:Int)<(l.length:Int):=by omega
 have a4:0<l.length:=by omega
 clear D J;go_enter func173,ntmps173;go_wp2_with fail
 go_loopg [3,4] (l.length-1) (fun g Y Z wr=>∃(k:Nat) (M:Int),1<=k/\k<=l.length/\g=l.length-k/\Z=.int .i64 (k:Int)/\Y=.int .i64 M/\Hid (M∈l/\∀x∈l.take k,M<=x)/\wr=w)
 case atStart=>exact⟨1,L,by omega,I,rfl,rfl,rfl,hid ⟨cN O.out,fun y F=>by
  rcases MI (k:=0) O.out F with q|q
  ·simp at q
  ·omega⟩,rfl⟩
 case round=>
  obtain⟨k,M,a5,hk,G,rfl,rfl,h,rfl⟩:=hrel;have HG:=hid G;clear G
  by_cases a0:k<l.length
  ·have t1:decide ((k:Int)<(l.length:Int))=true:=aG (by omega);obtain⟨x,d⟩:=eG a0;have c1:=A k x d;have T:=hid d;clear A d;go_wp2_with fail;have G:=HG.out
   go_roundg (l.length-(k+1))
   case measure=>omega
   case rel=>exact⟨k+1,min M x,by omega,by omega,rfl,by go_num,rfl,hid ⟨by
    rcases Int.min_def M x▸(by split<;>simp:(if M<=x then M else x)=M\/(if M<=x then M else x)=x) with q|q
    ·rw[q];exact h.out.1
    ·rw[q];exact cN T.out,fun y F=>by
    rcases MI T.out F with q|q
    ·have:=h.out.2 y q;omega
    ·omega⟩,rfl⟩
  ·have t1:decide ((k:Int)<(l.length:Int))=false:=aE (by omega);have HF:=hid (show ∀x∈l,M<=x from fun x d=>h.out.2 x (by rw[cD (by omega)];exact d));go_wp2_with fail;go_ret;exact⟨M,rfl,h.out.1,HF.out,rfl⟩
theorem aF3 (v:Value) (l:List Int) (w:World) (H:RdI w v l) (I:1<=l.length):
  Calls pG 174 #[v] w fun e w'=>∃m,e=.returned (.int .i64 m)/\m∈l/\(∀x∈l,x<=m)/\w'=w:=by
 obtain⟨a,ca,rfl,a1,U,J⟩:=H.open;unfold maxLen at U;clear H;obtain⟨b1,o1,rfl,a2,A⟩:=J (by omega);obtain⟨L,D⟩:=eG I;have V:=A 0 L D;rw[pV] at V;have O:=hid D;have t0:decide ((l.length:Int)<1)=false:=aE (by omega);have a3:(0:Int)<(l.length:Int):=by omega
 have a4:0<l.length:=by omega
 clear D J;go_enter func174,ntmps174;go_wp2_with fail
 go_loopg [3,4] (l.length-1) (fun g Y Z wr=>∃(k:Nat) (M:Int),1<=k/\k<=l.length/\g=l.length-k/\Z=.int .i64 (k:Int)/\Y=.int .i64 M/\Hid (M∈l/\∀x∈l.take k,x<=M)/\wr=w)
 case atStart=>exact⟨1,L,by omega,I,rfl,rfl,rfl,hid ⟨cN O.out,fun y F=>by
  rcases MI (k:=0) O.out F with q|q
  ·simp at q
  ·omega⟩,rfl⟩
 case round=>
  obtain⟨k,M,a5,hk,G,rfl,rfl,h,rfl⟩:=hrel;have HG:=hid G;clear G
  by_cases a0:k<l.length
  ·have t1:decide ((k:Int)<(l.length:Int))=true:=aG (by omega);obtain⟨x,d⟩:=eG a0;have c1:=A k x d;have T:=hid d;clear A d;go_wp2_with fail;have G:=HG.out
   go_roundg (l.length-(k+1))
   case measure=>omega
   case rel=>exact⟨k+1,max M x,by omega,by omega,rfl,by go_num,rfl,hid ⟨by
    rcases Int.max_def M x▸(by split<;>simp:(if M<=x then x else M)=M\/(if M<=x then x else M)=x) with q|q
    ·rw[q];exact h.out.1
    ·rw[q];exact cN T.out,fun y F=>by
    rcases MI T.out F with q|q
    ·have:=h.out.2 y q;omega
    ·omega⟩,rfl⟩
  ·have t1:decide ((k:Int)<(l.length:Int))=false:=aE (by omega);have HF:=hid (show ∀x∈l,x<=M from fun x d=>h.out.2 x (by rw[cD (by omega)];exact d));go_wp2_with fail;go_ret;exact⟨M,rfl,h.out.1,HF.out,rfl⟩
theorem aYk (n:Nat) (f:Nat->Int):(tab n f).toArray.size=n:=by simp[tab]
theorem aF4 (f:Nat->Int):(pG.info? 255).map (·.size)=some (tab 21 f).toArray.size:=by rw[aYk];kernel_rfl
theorem TJ:pG.underlying 255=some (.array 21 3):=by kernel_rfl
theorem aYl {w:World} {b:Nat} {e:TypeId} {l:List Value} (n:Nat) (h:Arr w b e l) (d:l.length=n) (f:Nat->Int):
  (storeCells ⟨b,0,none⟩ (tab n f)).run pG w=.ok () (w.setRow b (tab n f).toArray):=by
 have A:(tab n f).length=n:=by simp[tab]
 have D:=run_storeCells_from (P:=pG) b e (tab n f) 0 l.toArray w h (by simp[d,A]) (fun v F=>by obtain⟨c,_,rfl⟩:=List.mem_map.1 F;rfl);rw[D]
 congr 2
theorem aYm (f:Nat->Int) (k:Nat) (d:k<21) (w:World):(rE 255 (.agg (tab 21 f).toArray) (.int .i64 (k:Int))).run pG w=.ok (.int .i64 (f k)) w:=by
 have h:(tab 21 f)[k]? =some (.int .i64 (f k)):=lM 21 f k d;have e:(k:Int)<21:=by omega
 simp[rE,wW TJ,asIntOf,d,part,isAgg,wW underlying3,h,Result.andThen]
theorem aYn (v:Value) (l:List Int) (w:World) (I:RdI w v l) (J:∀x∈l,1<=x/\x<=20) (hn:l.length<=258):
  Calls pG 175 #[v] w fun e w'=>e=.returned (.agg (tab 21 (fun n=>(cL l n:Int))).toArray)/\Below w.heap.size w w':=by
 obtain⟨a,ca,rfl,a5,U,L⟩:=I.open;unfold maxLen at U;clear I;have V:=hid J;clear J;go_enter func175,ntmps175;go_wp2_with fail
 go_loopg [4,7] l.length (fun g _s4 Y wr=>∃k:Nat,k<=l.length/\g=l.length-k/\Y=.int .i64 (k:Int)/\Arr wr w.heap.size 255 (tab 21 (fun n=>(cL (l.take k) n:Int)))/\Below w.heap.size w wr)
 case atStart=>
  refine⟨0,aO _,rfl,rfl,?_,(aH _ _).alloc (aD _) _⟩;exact Arr.new w _ (tab 21 (fun _=>0))
 case round=>
  obtain⟨k,hk,D,rfl,h,F⟩:=hrel;have Z:=hid D;clear D
  by_cases M:k<l.length
  ·have t1:decide ((k:Int)<(l.length:Int))=true:=aG (by omega);obtain⟨b1,o1,rfl,a0,O⟩:=L (by omega);obtain⟨x,A⟩:=eG M;have c1:=((pJ F).1 b1 (o1+k) a0).trans (O k _ A);have a1:=V.out x (cN A);obtain⟨y,rfl⟩:∃y:Nat,x=(y:Int):=⟨x.toNat,by omega⟩;have hy:y<21:=by omega
   have a6:(y:Int)<21:=by omega
   have d1:=h.cell (lM 21 _ y hy);have f1:=h.free y;have G:=fun n=>KM M n
   have T:l.getD k 0=(y:Int):=by rw[bV,A];rfl
   rw[T] at G;have a2:cL (l.take k) y<=258:=by unfold cL;exact aR DI (by rw[aQ];omega)
   obtain⟨C,H⟩:∃C,C=cL (l.take k) y:=⟨_,rfl⟩;rw[<-H] at d1 a2;have m1:aJ.wrap ((C:Int)+1)=(C:Int)+1:=by rw[aM];omega
   have HT:=hid (uE 21 (fun n=>(cL (l.take k) n:Int)) (fun n=>(cL (l.take (k+1)) n:Int)) y ((C:Int)+1) (fun d hd=>by
    show((cL (l.take (k+1)) d:Nat):Int)=_;rw[G d]
    by_cases e:d=y
    ·subst e;rw[aB (by simp),aB rfl,<-H];omega
    ·rw[aA (by simp;omega),aA e];omega))
   clear H G T A O L a1;go_wp2_with fail;have D:=Z.out
   go_roundg (l.length-(k+1))
   case measure=>omega
   case rel=>
    refine⟨k+1,by omega,rfl,by go_num,?_,F.setCell (p:=⟨w.heap.size,y,none⟩) (aD _) _⟩;rw[<-HT.out];exact h.set y _
  ·have t1:decide ((k:Int)<(l.length:Int))=false:=aE (by omega);have a3:k=l.length:=by omega
   subst a3;rw[jS] at h;have a7:=aYl 21 h (by simp[tab]) (fun n=>(cL l n:Int));go_upto_region 6 with fail;go_wp2_with (refine wpList_load_row rfl 255 (.tmp 2) rfl w.heap.size rfl _ _ (0,0) (.array 21 3) h TJ rfl (aF4 _) ?_);have a4:Arr (wr.setRow w.heap.size (tab 21 (fun n=>(cL l n:Int))).toArray) w.heap.size 255 (tab 21 (fun n=>(cL l n:Int))):=setRow_heap wr w.heap.size _ _ 255 (0,0) h;refine fM (results_cell_row rfl _ _ w.heap.size _ _ (0,0) (.array 21 3) rfl a4 TJ rfl (aF4 _)) rfl ?_;exact⟨rfl,DZ F _ (aD _) _⟩
def TK (l:List Int):Nat->Int
 |0=>1
 |n+1=>sS l n
theorem aYo (l:List Int) (k:Nat):sS l k=(if k=0 then TK l k else 2*TK l k)-(cL l k:Int):=by
 cases k with
 |zero=>rfl
 |succ k=>rfl
theorem FK (v:Value) (l:List Int) (w:World) (hr:RdI w v l):
  Calls pG 150 #[v] w fun e w'=>e=.returned (.int .i64 (bM l))/\Below w.heap.size w w':=by
 have U:=hr;obtain⟨a,ca,rfl,b5,a8,hA⟩:=hr.open;unfold maxLen at a8;clear hr hA
 by_cases J:2<=l.length/\l.length<=258
 rotate_left
 ·have d:=hid (aEw J)
  by_cases h3:l.length<2
  ·have t1:decide ((l.length:Int)<2)=true:=aG (by omega);go_enter func150,ntmps150;go_wp2_with fail;go_ret;exact⟨by rw[d.out];rfl,aH _ _⟩
  ·have t1:decide ((l.length:Int)<2)=false:=aE (by omega);have t2:decide ((l.length:Int)>258)=true:=aG (by omega);have t3:decide ((258:Int)<(l.length:Int))=true:=aG (by omega);go_enter func150,ntmps150;go_wp2_with fail;go_ret;exact⟨by rw[d.out];rfl,aH _ _⟩
 ·have t1:decide ((l.length:Int)<2)=false:=aE (by omega);have t2:decide ((l.length:Int)>258)=false:=aE (by omega);have t3:decide ((258:Int)<(l.length:Int))=false:=aE (by omega);have a0:=aYj _ l w U (by omega);have V:=aF3 _ l w U (by omega);have L:=aYn _ l w U;clear U;go_enter func150,ntmps150;go_wp2_with fail;refine a0.mono ?_;rintro e Z ⟨m,rfl,a6,a1,rfl⟩
  by_cases hm:m<1
  ·have u1:decide (m<1)=true:=aG hm;obtain⟨k,I⟩:=List.getElem?_of_mem a6;have d:=hid (LU I (by omega));clear I a1 L V a0;go_wp2_with fail;go_ret;exact⟨by rw[d.out];rfl,aH _ _⟩
  ·have u1:decide (m<1)=false:=aE hm;have HM:=hid a1;clear a1 a0 a6;go_wp2_with fail;refine V.mono ?_;rintro e w2 ⟨x,rfl,a9,a2,rfl⟩
   by_cases hx:20<x
   ·have u2:decide (x>20)=true:=aG hx;have u3:decide (20<x)=true:=aG hx;obtain⟨k,I⟩:=List.getElem?_of_mem a9;have d:=hid (LU I (by omega));clear I a2 L V;go_wp2_with fail;go_ret;exact⟨by rw[d.out];rfl,aH _ _⟩
   ·have u2:decide (x>20)=false:=aE hx;have u3:decide (20<x)=false:=aE hx;have F:∀y∈l,1<=y/\y<=20:=fun y hy=>by
     have:=HM.out y hy;have:=a2 y hy;omega
    have b6:=hid F;have d:=hid (aEx ⟨J.1,J.2,F⟩);have L:=L F J.2;have b0:=hid (fun n (M:n<=20)=>aSx F M);have b1:=hid (aSy F);have b2:=hid (fun n=>aSz (l:=l) (n:=n) (fun y hy=>(F y hy).1));clear F a2 HM V;go_wp2_with fail;refine L.mono ?_;rintro e w3 ⟨rfl,a3⟩;go_wp2_with fail
    go_loopg [3,4,5,26] 21 (fun g s3 _s4 _s5 b3 wr=>∃(k:Nat) (X:Int),k<=21/\g=21-k/\b3=.int .i64 (k:Int)/\s3=.int .i64 X/\Hid (X=TK l k)/\Hid (∀n,n<k->0<=sS l n)/\wr=w3)
    case atStart=>exact⟨0,1,by omega,rfl,rfl,rfl,hid rfl,hid (fun n M=>by omega),rfl⟩
    case round=>
     obtain⟨k,X,I,hg,rfl,rfl,HX,HN,rfl⟩:=hrel;have HG:=hid hg;clear hg
     by_cases b4:k<21
     ·have v1:decide ((k:Int)<21)=true:=aG (by omega);have ix:=aYm (fun n=>(cL l n:Int)) k b4 wr;have O:cL l k<=258:=by unfold cL;exact aR DI J.2
      have hB:0<=X/\X<=1048576:=by
       rw[HX.out]
       cases k with
       |zero=>exact⟨show(0:Int)<=1 by decide,show(1:Int)<=1048576 by decide⟩
       |succ k=>
        refine⟨HN.out k (by omega),Int.le_trans (b2.out k) ?_⟩;have:(2:Nat)^k<=2^20:=Nat.pow_le_pow_right (by decide) (by omega);have e:(2:Nat)^20=1048576:=by decide
        have:(((2:Nat)^k:Nat):Int)<=1048576:=by omega
        simpa using this
      have A:=aYo l k;rw[<-HX.out] at A;have G:=b0.out k (by omega);obtain⟨Y,a4⟩:∃Y,Y=sS l k:=⟨_,rfl⟩;obtain⟨C,a5⟩:∃C,C=cL l k:=⟨_,rfl⟩;rw[<-a4] at A G;simp only[<-a5] at ix;rw[<-a5] at A O;have HY:=hid a4;clear a4 a5
      by_cases a7:k=0
      ·subst a7;rw[aB rfl] at A;rw[show((0:Nat):Int)=0 from rfl] at ix;have v2:decide ((0:Int)>0)=false:=by decide
       have v3:decide (((0:Nat):Int)>0)=false:=by decide
       have m4:X-(C:Int)=Y:=by omega
       have m5:aJ.wrap Y=Y:=by rw[aM];omega
       by_cases H:Y<0
       ·have Z:decide (Y<0)=true:=aG H;have T:=hid (show bM l=6 by rw[d.out,aB (G H)]);clear G A hB O;go_wp2_with fail;go_ret;exact⟨by rw[T.out];rfl,a3⟩
       ·have Z:decide (Y<0)=false:=aE H;clear G A hB O;go_wp2_with fail;have hg:=HG.out
        go_roundg (21-(0+1))
        case measure=>omega
        case rel=>exact⟨0+1,Y,by omega,rfl,by go_num,rfl,HY,hid (fun n M=>by
         rcases cF n 0 with h|h
         ·exact HN.out n h
         ·rw[show n=0 by omega,<-HY.out];omega),rfl⟩
      ·rw[aA a7] at A;have v2:decide ((k:Int)>0)=true:=aG (by omega);have v3:decide (0<k)=true:=aG (by omega);have v4:0<k:=by omega
       obtain⟨D,hD⟩:∃D,D=2*X:=⟨_,rfl⟩;have m1:aJ.wrap (X*2)=D:=by rw[aM];omega
       have m2:X*2=D:=by omega
       have m3:aJ.wrap D=D:=by rw[aM];omega
       rw[<-hD] at A;have m4:D-(C:Int)=Y:=by omega
       have m5:aJ.wrap Y=Y:=by rw[aM];omega
       by_cases H:Y<0
       ·have Z:decide (Y<0)=true:=aG H;have T:=hid (show bM l=6 by rw[d.out,aB (G H)]);clear G A hB O hD;go_wp2_with fail;go_ret;exact⟨by rw[T.out];rfl,a3⟩
       ·have Z:decide (Y<0)=false:=aE H;clear G A hB O hD;go_wp2_with fail;have hg:=HG.out
        go_roundg (21-(k+1))
        case measure=>omega
        case rel=>exact⟨k+1,Y,by omega,rfl,by go_num,rfl,HY,hid (fun n M=>by
         rcases cF n k with h|h
         ·exact HN.out n h
         ·rw[show n=k by omega,<-HY.out];omega),rfl⟩
     ·have v1:decide ((k:Int)<21)=false:=aE (by omega);have T:=hid (show bM l=0 by rw[d.out,aA (by have:=b1.out (fun n M=>HN.out n (by omega));omega)]);go_wp2_with fail;go_ret;exact⟨by rw[T.out];rfl,a3⟩
theorem aF7 (n:Nat) (w:World) (d:2<=n) (h:n<=258):Calls pG 168 #[.int .i64 (n:Int)] w fun e w'=>e=.returned (.bool true)/\w'=w:=by
 have A:decide ((n:Int)>=2)=true:=aG (by omega);have D:decide ((2:Int)<=(n:Int))=true:=aG (by omega);have F:decide ((n:Int)<=258)=true:=aG (by omega);go_enter func168,ntmps168;go_wp2;go_ret;exact⟨rfl,rfl⟩
theorem aF8 (x:Int) (w:World):Calls pG 188 #[.int .i64 x] w fun e w'=>e=.returned (.bool (decide (1<=x)&&decide (x<=20)))/\w'=w:=by
 by_cases d:1<=x
 ·have A:decide (x>=1)=true:=aG d;have D:decide (1<=x)=true:=aG d
  by_cases h:x<=20
  ·have F:decide (x<=20)=true:=aG h;go_enter func188,ntmps188;go_wp2;go_ret;exact⟨by first|rfl|(simp[d,h]),rfl⟩
  ·have F:decide (x<=20)=false:=aE h;go_enter func188,ntmps188;go_wp2;go_ret;exact⟨by first|rfl|(simp[d,h]),rfl⟩
 ·have A:decide (x>=1)=false:=aE d;have D:decide (1<=x)=false:=aE d;go_enter func188,ntmps188;go_wp2;go_ret;exact⟨by first|rfl|(simp[d]),rfl⟩
def uW (w:World) (b:Nat) (D:List Bool):Prop:=Arr w b 83 [.string (mkS (aI D)),.int .i64 (D.length:Int)]
theorem uW.set {w:World} {b:Nat} {D:List Bool} (h:uW w b D) (E:List Bool):uW ((w.setCell ⟨b,0,none⟩ (.string (mkS (aI E)))).setCell ⟨b,1,none⟩ (.int .i64 (E.length:Int))) b E:=(Arr.set h 0 _).set 1 _
end
section
open Go.RowKit Go Go.Shelf
attribute [local go_sem] Oper.semAt_some
theorem bBa {n:Nat} {F:Fence} {A:Array Oper} {rest:List Oper} {o:Oper} {a:Act} {Q:Exit->Act->World->Prop} {w:World} (H:o.guard=none) (s x:Operand)
  (I:o.op=.call {callee:=.builtin .append,args:=#[s,x],argTypes:=#[55,55]}) (base:Nat) (v:Value) (l:List Int) (hs:a.eval s=v) (hown:OwI w base v l)
  (g:Nat) (y:Int) (hx:a.eval x=.slice (some ⟨g,0,none⟩) 1 1) (hc:w.cell? ⟨g,0,none⟩=some (.int .i64 y)) (hroom:(l.length+1)*8<=140737488355328) (hbase:base<=w.heap.size)
  (h:∀d w',OwI w' base d (l++[y])->Below base w w'->w.grownBy w' v.ownBlock->wpListIn F n pG A Q rest (a.put o.dst d) w'):wpListIn F n pG A Q (o::rest) a w:=by
 obtain⟨i,J,L,M,O⟩:=jL.info;have T:(bQ .i64 0).cells.size=1:=by rw[jL.cells];rfl
 have D:w.ownsRow base 3 1 v l.length (l.map (bQ .i64)):=by have:=hown;unfold OwI Ow at this;rwa[List.length_map] at this
 refine wpListIn_append_own w H s x 55 I base 3 i (.int .i64 0) 1 8 jL.under J L M O T (by decide) v l.length (l.map (bQ .i64)) hs D ⟨g,0,none⟩ 1 1 [.int .i64 y] hx rfl ?_ (by simp[Value.oneCell']) (by simp only[maxLen];omega) hroom hbase (fun d w' U G _=>h d w' ?_ (rJ D G hbase) G)
 ·intro j V e
  cases j with
  |zero=>simp at e;subst e;simpa [Addr.add] using hc
  |succ j=>simp at e
 ·unfold OwI Ow;rw[dY,aL]
  simpa using U
def lU (l:List Int) (k:Nat):List Nat:=(eT k).filter (fun n=>decide (cL l n≠0))
theorem aH9 (l:List Int) (k:Nat):lU l (k+1)=lU l k++if cL l k≠0 then[k] else[]:=by grind [lU,List.range_succ,cL,List.filter_cons_of_pos,bGo]
theorem aIa (l:List Int):∀m k,∃r,lU l (k+m)=lU l k++r
 |0,k=>⟨[],by simp⟩
 |m+1,k=>by
  obtain⟨r,d⟩:=aIa l m k
  grind [aH9,lU]
def pA (l:List Int) (n i:Nat):List Int:=(qG l n i).map (fun s:Nat=>(s:Int))
theorem MU (l:List Int) (n i:Nat) (h:i<=l.length):(pA l n i).length=cL (l.take i) n:=by grind [pA,KN,cL]
theorem bBb (l:List Int) (n i:Nat):pA l n (i+1)=pA l n i++if l.getD i 0==(n:Int) then[(i:Int)] else[]:=by grind [pA,RF]
def yB (l:List Int) (x:Nat×Value):Array Value:=#[.agg #[.int .i64 (x.1:Int),.int .u64 (gY l x.1:Int),x.2]]
def CS (l:List Int) (B:Nat) (d:List (Nat×Value)) (x:Nat×Value) (W:World):Prop:=
 (∃r,d.map (·.1)++x.1::r=lU l 21)/\(1<=x.1/\x.1<=20)/\0<cL l x.1/\d.map (·.1)=lU l x.1/\OwI W B x.2 (pA l x.1 l.length)
theorem bBc (n:Nat) (hn:1<=n) (l0 Bs I M o1 ca:Nat) (d:List Int) (hE:bM d=0) (J Jx:List (Nat×Value)->World->Prop) (W:World)
  (hA:Arr W Bs 55 [.slice (some ⟨M,o1,none⟩) d.length ca]) (hc:∀i x,d[i]? =some x->W.cell? ⟨M,o1+i,none⟩=some (.int .i64 x)) (d5:M≠I) (d6:Bs≠I) (g8:I<W.heap.size) (d7:M<W.heap.size)
  (b5:∀s A B,J s A->Below W.heap.size A B->J s B)
  (hY:∀D x W1,J D W1->W.heap.size<=W1.heap.size->CS d W.heap.size D x W1->YieldAt cZ (n-1) pG l0 (yB d x) W1 fun e W'=>(e=.returned (.bool true)/\J (D++[x]) W'/\bW (some I) W1 W')\/(e=.returned (.bool false)/\Jx (D++[x]) W'))
  (h0:J [] W):
  CallsIn cZ n pG 189 #[.func (.yield l0) #[] #[],.pointer (some ⟨Bs,0,none⟩)] W fun e W'=>(∃v,e=.returned v)/\((∃xs:List (Nat×Value),xs.map (·.1)=lU d 21/\J xs W')\/∃D,Jx D W'):=by
 have O:=gE hE;have d8:=hid (fun i (h:i<d.length)=>(lX O.1 h));have g9:=O.1.2.1;have d9:=hid (fun k (hk:k<=20)=>LY (i:=d.length) O.1 O.2 hk);have e0:=hid (aBw (fun x T=>(O.1.2.2 x T).1));have e1:=hid (show lU d 1=[] by
  unfold lU;rw[show eT 1=[0] from rfl,bGo (by simp[aBv (fun x T=>(O.1.2.2 x T).1)]),List.filter_nil])
 have b6:=hid b5;have e4:=hid hc;clear O b5 hc;refine pX func189 rfl trivial ?_ rfl;simp only[ntmps189,dB,aU,aV,cV,dC,jG,jH,jI,jJ,eL,fF]
 gi_wp2_with fail
 gi_loopg [3,4] 20 (fun g s3 s4 wr=>∃(k V:Nat) (D:List (Nat×Value)),1<=k/\k<=21/\g=21-k/\s4=.int .i64 (k:Int)/\s3=.int .u64 (V:Int)/\Hid (2*V=gY d k)/\V<=1048576/\Hid (D.map (·.1)=lU d k)/\J D wr/\W.heap.size<=wr.heap.size/\bW (some I) W wr)
 case atStart=>exact⟨1,0,[],by omega,by omega,rfl,rfl,rfl,hid (by rw[e0.out]),by omega,hid (by rw[e1.out];rfl),h0,aD _,bW.refl _ _⟩
 case round=>
  obtain⟨k,V,D,e5,i0,U,rfl,rfl,HV,i1,HP,hJ,b7,a1⟩:=hrel;have HG:=hid U;clear U
  by_cases hk:k<=20
  ·have t1:decide ((k:Int)<=20)=true:=aG (by omega);obtain⟨X,hX⟩:∃X,X=2*V:=⟨_,rfl⟩;have HX:=hid (show X=gY d k by rw[hX,HV.out]);have m1:eZ.wrap ((V:Int)*2)=(X:Int):=by rw[fC];omega
   have m2:(V:Int)*2=(X:Int):=by omega
   have m3:(V:Int)*2%18446744073709551616=(X:Int):=by omega
   have m4:eZ.wrap (X:Int)=(X:Int):=by rw[fC];omega
   have i2:X<=2097152:=by omega
   have a8:=a1.arr hA (by simp;exact d6);have e6:=a8.lt;have c0:=a8.cell (i:=0) rfl;clear hX a8
   gi_wp2_with fail
   have F:=Arr.new wr 261 [.int .i64 (k:Int),.int .u64 (X:Int),.slice none 0 0];change Arr (wr.alloc (.cells #[.int .i64 (k:Int),.int .u64 (X:Int),.slice none 0 0] 261)) _ _ _ at F;have G:Below wr.heap.size wr (wr.alloc (.cells #[.int .i64 (k:Int),.int .u64 (X:Int),.slice none 0 0] 261)):=bD (aH _ _) _;have e7:(wr.alloc (.cells #[.int .i64 (k:Int),.int .u64 (X:Int),.slice none 0 0] 261)).heap.size=wr.heap.size+1:=by simp
   generalize wr.alloc (.cells #[.int .i64 (k:Int),.int .u64 (X:Int),.slice none 0 0] 261)=w1 at*
   obtain⟨S,hS⟩:∃S,S=wr.heap.size:=⟨_,rfl⟩;rw[<-hS] at F G e7 ⊢;have b8:∀i x,d[i]? =some x->wr.cell? ⟨M,o1+i,none⟩=some (.int .i64 x):=fun i x hi=>a1.cell (e4.out i x hi) (by simp;exact d5)
   have b9:=hid b8;have e8:M<S:=by rw[hS];exact Nat.lt_of_lt_of_le d7 b7
   have e9:J D w1:=b6.out _ _ _ hJ (G.mono (by omega));have f0:bW (some I) W w1:=a1.trans (bW.of_below (by rw[<-hS];exact G));have f1:W.heap.size<=S:=by omega
   obtain⟨W0,f2⟩:∃W0,W0=wr:=⟨_,rfl⟩;rw[<-f2] at G b9 b7 a1 hJ hS;have f3:=hid hJ;have HS:=hid hS;clear hS b8 c0 e6 hJ e9 f0
   gi_loopg [6,7,19] d.length (fun g _s6 _s7 f4 wx=>∃(i:Nat) (u:Value),i<=d.length/\g=d.length-i/\f4=.int .i64 (i:Int)/\Arr wx S 261 [.int .i64 (k:Int),.int .u64 (X:Int),u]/\OwI wx (S+1) u (pA d k i)/\Below S W0 wx/\S<wx.heap.size)
   case atStart=>exact⟨0,.slice none 0 0,aO _,rfl,rfl,F,OwI.nil _ _,G,by omega⟩
   case round=>
    clear F G;obtain⟨i,u,hi,U,rfl,F,ho,G,f5⟩:=hrel;have c2:=hid U;clear U
    by_cases f6:i<d.length
    ·have t2:decide ((i:Int)<(d.length:Int))=true:=aG (by omega);obtain⟨f7,f8,T⟩:=d8.out i f6;have c1:=(G.cell (p:=⟨M,o1+i,none⟩) e8).trans (b9.out i _ T);have c4:d.getD i 0=(bL d i:Int):=by rw[bV,T];rfl
     have Y:=bBb d k i;rw[c4] at Y;obtain⟨x,c5⟩:∃x,x=bL d i:=⟨_,rfl⟩;rw[<-c5] at c1 Y f7 f8;clear c5 T c4;have d2:=F.cell (i:=2) rfl;have a5:(pA d k i).length<=258:=by rw[MU d k i (by omega)];unfold cL;exact aR DI (by rw[aQ];omega)
     have f9:some S≠u.ownBlock:=fun e=>by have:=(Ow.lt ho S e.symm).1;omega
     by_cases g0:x=k
     ·subst g0;have t3:decide ((x:Int)=(x:Int))=true:=aG rfl;have a9:=Y;rw[aB (by simp)] at a9;have b0:=hid a9;clear Y a9
      gi_wp2_with (gi_at_builtin;refine bBa rfl _ _ rfl (S+1) _ _ rfl (OwI.alloc ho _) _ (i:Int) rfl (bX _ _ _) ?_ ?_ ?_;(omega);(simp;omega);intro v3 w3 p1 p2 p3;(obtain⟨a3,c3,g1,_,_,_⟩:=(OwI.rd p1).open);subst g1;(have a2:=(F.alloc (.cells #[.int .i64 (i:Int)] 3)).grown p3 f9);(have e2:=a2.cell (i:=2) rfl);(have g2:=a2.free 2))
      have g3:=c2.out
      gi_roundg (d.length-(i+1))
      case measure=>omega
      case rel=>
       have e3:(pA d x i++[(i:Int)]).length=(pA d x i).length+1:=by simp
       rw[e3] at p1;have g4:Value.ownBlock (.slice a3 ((pA d x i).length+1) c3)≠some S:=fun e=>by have:=(Ow.lt p1 S e).1;omega
       refine⟨i+1,.slice a3 ((pA d x i).length+1) c3,by omega,rfl,by go_num,a2.set 2 _,?_,(((G.alloc (by omega) _).trans (p2.mono (by omega))).setCell (p:=⟨S,2,none⟩) (aD _) _),?_⟩
       ·rw[b0.out];exact Ow.kept p1 (TW w3 S 2 _) (.inr g4)
       ·have:=p2.size;simp at this ⊢;omega
     ·have t3:decide ((x:Int)=(k:Int))=false:=aE (by omega);rw[aA (by simp;omega),dI] at Y;have b0:=hid Y;clear Y
      gi_wp2_with fail
      have g3:=c2.out
      gi_roundg (d.length-(i+1))
      case measure=>omega
      case rel=>exact⟨i+1,u,by omega,rfl,by go_num,F,by rw[b0.out];exact ho,G,f5⟩
    ·have t2:decide ((i:Int)<(d.length:Int))=false:=aE (by omega);have g5:i=d.length:=by omega
     subst g5;obtain⟨C,Z⟩:∃C,C=cL d k:=⟨_,rfl⟩;have a5:(pA d k d.length).length=C:=by rw[MU d k _ (aD _),jS,Z]
     have a6:=d9.out k hk;unfold lS at a6;rw[jS,<-HX.out,<-Z] at a6;obtain⟨H,b2⟩:∃H,H=X+C:=⟨_,rfl⟩;have m5:eZ.wrap (C:Int)=(C:Int):=by rw[fC];omega
     have m6:(C:Int)%18446744073709551616=(C:Int):=by omega
     have m7:eZ.wrap (H:Int)=(H:Int):=by rw[fC];omega
     have m8:(X:Int)+(C:Int)=(H:Int):=by omega
     have c6:H<=1048576:=by omega
     have c7:=hid (show 2*H=gY d (k+1) by rw[b2,HX.out,Z];rfl);have L:=aH9 d k;rw[<-Z] at L;have c8:J D wr:=b6.out _ _ _ f3.out (G.mono f1);have c9:bW (some I) W wr:=a1.trans (bW.of_below (by rw[<-HS.out];exact G));obtain⟨r',a7⟩:=aIa d (21-(k+1)) (k+1);rw[show k+1+(21-(k+1))=21 by omega] at a7;obtain⟨a',a0,d3,_,_,_⟩:=(OwI.rd ho).open;rw[a5] at d3;subst d3;have d2:=F.cell (i:=2) rfl;have d0:=F.cell (i:=0) rfl;have d1:=F.cell (i:=1) rfl
     by_cases d4:C=0
     ·have t3:decide ((C:Int)>0)=false:=aE (by omega);have t4:decide (0<C)=false:=aE (by omega);have t5:¬0<C:=by omega
      rw[aA (fun q=>q d4),dI] at L;obtain rfl:H=X:=by omega
      have a4:=hid (show D.map (·.1)=lU d (k+1) by rw[HP.out,L]);clear Z L b2 a7 a6 a5
      gi_wp2_with fail
      refine⟨fun _ h=>(by cases h),?_⟩
      gi_wp2_with fail
      have U:=HG.out
      gi_roundg (21-(k+1))
      case measure=>omega
      case rel=>exact⟨k+1,H,D,by omega,by omega,rfl,by go_num,rfl,c7,c6,a4,c8,by omega,c9⟩
     ·have t3:decide ((C:Int)>0)=true:=aG (by omega);have t4:decide (0<C)=true:=aG (by omega);have t5:0<C:=by omega
      rw[aB d4] at L;have a4:=hid (show(D++[(k,Value.slice a' C a0)]).map (·.1)=lU d (k+1) by rw[dY,HP.out,L];rfl);obtain⟨fn,tmps,assign,body,hy,hR⟩:=hY D (k,.slice a' C a0) wr c8 (by omega) ⟨⟨r',by rw[HP.out,a7,L,bU];rfl⟩,⟨e5,hk⟩,by rw[<-Z];omega,HP.out,OwI.base ho (by omega)⟩;have i3:(Instr.yield l0 #[.agg #[.int .i64 (k:Int),.int .u64 (X:Int),.slice a' C a0]]).run pG wr=.ok (.round l0 fn tmps assign body) wr:=by
       have e:yB d (k,.slice a' C a0)=#[.agg #[.int .i64 (k:Int),.int .u64 (X:Int),.slice a' C a0]]:=by unfold yB;rw[HX.out]
       rw[<-e];exact hy
      have g6:some S≠some I:=fun e=>by injection e with e;omega
      clear Z L b2 a7 a6 a5 hy
      gi_wp2_with fail
      refine hR.mono ?_;rintro e W3 (⟨rfl,b3,b4⟩|⟨rfl,b3⟩)
      ·have a2:=b4.arr F g6;have e2:=a2.cell (i:=2) rfl;have i4:=b4.1;clear d0 d1 d2
       gi_wp2_with fail
       have U:=HG.out
       gi_roundg (21-(k+1))
       case measure=>omega
       case rel=>exact⟨k+1,H,D++[(k,.slice a' C a0)],by omega,by omega,rfl,by go_num,rfl,c7,c6,a4,b3,by omega,c9.trans b4⟩
      ·gi_wp2_with fail
       refine fM (results_none rfl _ _ _) rfl ?_;exact⟨⟨_,rfl⟩,.inr ⟨_,b3⟩⟩
  ·have t1:decide ((k:Int)<=20)=false:=aE (by omega);have g7:k=21:=by omega
   have a4:=hid (show D.map (·.1)=lU d 21 by rw[HP.out,g7])
   gi_wp2_with fail
   go_end0
   exact⟨⟨_,rfl⟩,.inl ⟨D,a4.out,hJ⟩⟩
theorem aIb (n:Nat) (b o d cap:Nat) (w:World):
  CallsIn cZ n pG 176 #[.slice (some ⟨b,o,none⟩) d cap] w fun e w'=>e=.returned (.func (.func 189) #[] #[.pointer (some ⟨w.heap.size,0,none⟩)])/\w'=w.alloc (.cells #[.slice (some ⟨b,o,none⟩) d cap] 55):=by
 refine pX func176 rfl trivial ?_ rfl;simp only[ntmps176,dB,aU,aV,cV,dC,jG,jH,jI,jJ,eL,fF]
 gi_wp2
 go_ret;exact⟨rfl,rfl⟩
theorem aIc (n:Nat) (I:1<=n) (A h e D G:Nat) (d:List Int) (L:bM d=0) (w:World) (H:Arr w A 55 [.slice (some ⟨e,D,none⟩) d.length G]) (M:∀i x,d[i]? =some x->w.cell? ⟨e,D+i,none⟩=some (.int .i64 x)) (O:e≠h) (T:A≠h) (a0:h<w.heap.size) (U:e<w.heap.size):
  aG6 n pG 189 #[.pointer (some ⟨A,0,none⟩)] (yB d) (bW (some h)) (CS d) (fun V=>V.map (·.1)=lU d 21) w:=fun l J Y W F Z _ hY h0=>by
 have hs:=F.size;exact bBc n I l A h e D G d L J Y W (H.below F H.lt) (fun i x hi=>(F.cell (p:=⟨e,D+i,none⟩) U).trans (M i x hi)) O T (by omega) (by omega) Z hY h0
theorem aId {d:List Int}:∀(B:Nat) (h:List (Nat×Value)) (x:Nat×Value) (A D:World),CS d B h x A->bW none A D->CS d B h x D:=fun _ _ _ _ _ ⟨F,G,H,I,J⟩ L=>⟨F,G,H,I,bW.ow L J (fun _ _ e=>by cases e)⟩
end
end Go.Proofs.YtfplbbphficcjaaGreatDoor

/-
  Texts put together (part 13): the walks and the plain laws on which the statement stands.
-/
import Derived.Test.YtihbnmlinkbnkaaGreatDoorZ11
set_option maxRecDepth 100000
set_option maxHeartbeats 12800000
set_option linter.unusedVariables false
set_option linter.unusedSimpArgs false
open Go.Proofs.Tryz
open Go.Proofs.Tryz renaming prog->pG
open Go renaming bodyPost_ret->fM
open Go.IntKind renaming i64->aJ,u64->eZ,wrap_i64->aM,wrap_u64->fC
open Go.RowKit.Below renaming refl->aH
open Go.World renaming size_alloc->fP
open Int renaming add_zero->XD,natCast_zero->OX,toNat_natCast->fL
open List renaming append_assoc->bU,getD_eq_getElem?_getD->bV,getElem?_eq_getElem->aN,getElem_mem->kK,length_append->aL,length_cons->aU,length_nil->aV,length_replicate->AT,length_take->aQ,mem_of_getElem?->cN,mem_of_mem_take->pG,replicate->aX,replicate_succ'->IA,take_add_one->cG,take_length->jS,take_of_length_le->cD
open Nat renaming add_zero->pV,le_refl->aD,min_eq_left->jF,zero_le->aO
open Option renaming toList_some->rD
open Option.some renaming inj->cC
namespace Go.Proofs.YtihbnmlinkbnkaaGreatDoor
section
open Go.RowKit
theorem aP9 (a:ByteArray) (i:Nat):a.extract i (i+1)++a.extract 0 i++a.extract (i+1) a.size=mkS (gC a.data.toList i):=by
 rw[iW,iW,iW,sI,sI];unfold gC;rw[List.drop_zero,Nat.sub_zero,show i+1-i=1 by omega,cD (l:=a.data.toList.drop (i+1)) (by simp)]
theorem aAt (a:ByteArray) (b:UInt8) (w:World) (hs:a.size<=1000000000) (H:b∈a.data.toList):
  Calls pG 250 #[.string a,.int .u8 (b.toNat:Int)] w fun e w'=>e=.returned (.int .i64 ((plc a.data.toList b:Nat):Int))/\w'=w:=by
 have A:a.data.toList.length=a.size:=by simp
 have I:=vP H;rw[A] at I;obtain⟨p,F⟩:∃p,p=plc a.data.toList b:=⟨_,rfl⟩;rw[<-F] at I ⊢;have J:=hid F;have O:=hid A;have hb:=b.toNat_lt;clear A F;go_enter func250,ntmps250;go_wp2_with fail
 go_loopg [5] p (fun U V wr=>∃k:Nat,k<=p/\U=p-k/\V=.int .i64 k/\w=wr)
 case atStart=>exact⟨0,aO _,rfl,rfl,rfl⟩
 case round=>
 obtain⟨k,hk,G,rfl,rfl⟩:=hrel;have Z:=hid G;clear G;have L:k<a.size:=by omega
 have a1:=a[k].toNat_lt
 by_cases a0:k<p
 ·have a2:a[k].toNat≠b.toNat:=by
   have d:=YL (a:=a.data.toList) (c:=b) (i:=k) (by rw[<-J.out];exact a0) (by rw[O.out];exact L);intro e;exact d (UInt8.toNat_inj.1 e)
  have t1:((a[k].toNat:Int)==(b.toNat:Int))=false:=by rw[cB];omega
  have t2:¬((a[k].toNat:Int)=(b.toNat:Int)):=by omega
  go_wp2_with fail;have G:=Z.out
  go_roundg (p-(k+1))
  case measure=>omega
  case rel=>exact⟨k+1,by omega,rfl,by go_num,rfl⟩
 ·obtain rfl:p=k:=by omega
  have M:a[p]=b:=by
   have d:=JG H;rw[<-J.out] at d;rw[fW a p L] at d;exact cC d
  have t1:((a[p].toNat:Int)==(b.toNat:Int))=true:=by rw[beq_iff_eq,M]
  clear M;go_wp2_with fail;go_ret;exact⟨rfl,rfl⟩
theorem aAu (a:ByteArray) (w:World) (G:a.size<=1000000000) (A:a.data.toList.Nodup):
  Calls pG 249 #[.string a] w fun e w'=>e=.returned (.bool true)/\w'=w:=by
 have H:=hid A;clear A;go_enter func249,ntmps249;go_wp2_with fail
 go_loopg [3] a.size (fun I J wr=>∃k:Nat,k<=a.size/\I=a.size-k/\J=.int .i64 k/\w=wr)
 case atStart=>exact⟨0,aO _,rfl,rfl,rfl⟩
 case round=>
 obtain⟨k,U,d,rfl,rfl⟩:=hrel;have L:=hid d;clear d
 by_cases F:k<a.size
 ·have M:=hid (show plc a.data.toList a[k]=k from PE (a:=a.data.toList) H.out (i:=k) (by simpa using F));have O:a[k]∈a.data.toList:=cN (fW a k F);have t1:decide ((k:Int)<(k:Int))=false:=aE (by omega);go_wp2_with fail;refine(aAt a a[k] _ G O).mono ?_;rintro e w1 ⟨rfl,rfl⟩;rw[M.out];go_wp2_with fail;have d:=L.out
  go_roundg (a.size-(k+1))
  case measure=>omega
  case rel=>exact⟨k+1,by omega,rfl,by go_num,rfl⟩
 ·go_wp2_with fail;go_ret;exact⟨rfl,rfl⟩
theorem aAv (a:ByteArray) (i:Nat) (w:World) (A:a.size<=1000000000) (hi:i<a.size):
  Calls pG 251 #[.string a,.int .i64 (i:Int)] w fun e w'=>e=.returned (.string (mkS (gC a.data.toList i)))/\Below w.heap.size w w':=by
 have e:=aP9 a i;have d:=hid e;clear e;have F:i<=a.size:=by omega
 have G:i+1<=a.size:=by omega
 go_enter func251,ntmps251;go_wp2
 go_quiet (fail)
 go_wp2;go_ret;exact⟨yV d.out,kY (aH _ _) _⟩
theorem aAw (a s:ByteArray) (w:World) (ha:a.size<=1000) (hs:s.size<=1000000) (H:a.data.toList.Nodup) (I:∀b∈s.data.toList,b∈a.data.toList):
  Calls pG 159 #[.string a,.string s] w fun e w'=>∃v,e=.returned (.tuple #[v,.int .i64 0])/\OwI w' w.heap.size v (dL a.data.toList s.data.toList)/\Below w.heap.size w w':=by
 have Z:Calls pG 210 #[.string a,.string s] w fun e w'=>∃v u,e=.returned (.tuple #[v,u,.int .i64 0])/\OwI w' w.heap.size v (dL a.data.toList s.data.toList)/\Below w.heap.size w w':=by
  have HN:=hid H;have a2:=hid I;have hl:s.data.toList.length=s.size:=by simp
  have a0:a.data.toList.length=a.size:=by simp
  have HL:=hid hl;have a9:=hid a0;clear H I hl a0;go_enter func210,ntmps210;go_wp2_with fail;refine(aAu a _ (by omega) HN.out).mono ?_;rintro e w1 ⟨rfl,rfl⟩;go_wp2_with fail
  go_loopg [8,9,10,11] s.size (fun gh s8 s9 a3 _s11 wr=>∃k:Nat,k<=s.size/\gh=s.size-k/\a3=.int .i64 k/\s8=.string (mkS (fH a.data.toList (s.data.toList.take k)))/\OwI wr w1.heap.size s9 (dL a.data.toList (s.data.toList.take k))/\Below w1.heap.size w1 wr)
  case atStart=>exact⟨0,aO _,rfl,rfl,by simp[fH,qB],OwI.nil _ _,aH _ _⟩
  case round=>
  obtain⟨k,hk,J,rfl,rfl,d,L⟩:=hrel;have HG:=hid J;clear J
  by_cases M:k<s.size
  ·obtain⟨A,O⟩:∃A,A=mkS (fH a.data.toList (s.data.toList.take k)):=⟨_,rfl⟩;have F:A.data.toList=fH a.data.toList (s.data.toList.take k):=by rw[O];rfl
   have G:=JH (s.data.toList.take k) a.data.toList;rw[<-F] at G;have a4:A.size=a.size:=by
    have:=G.length_eq
    simpa using this
   have a1:s[k]∈A.data.toList:=G.mem_iff.2 (a2.out _ (cN (fW s k M)));have e1:=hid (show dL a.data.toList (s.data.toList.take (k+1))=dL a.data.toList (s.data.toList.take k)++[((plc A.data.toList s[k]:Nat):Int)] by
    rw[cG,fW s k M,rD,JI,<-F])
   have e2:=hid (show fH a.data.toList (s.data.toList.take (k+1))=gC A.data.toList (plc A.data.toList s[k]) by
    rw[cG,fW s k M,rD,PF,<-F])
   have a5:=hid (show(dL a.data.toList (s.data.toList.take k)).length=k by rw[vQ,aQ,HL.out];omega);rw[<-O];have U:=vP a1;rw[show A.data.toList.length=A.size by simp] at U;obtain⟨p,V⟩:∃p,p=plc A.data.toList s[k]:=⟨_,rfl⟩;rw[<-V] at U e1 e2;have a6:=hid V;have b0:A.size<=1000:=by omega
   have a7:=L.size;have hb:=s[k].toNat_lt;clear O F G a4 V;go_wp2_with fail;refine(aAt A s[k] _ (by omega) a1).mono ?_;rintro e w2 ⟨rfl,rfl⟩;rw[<-a6.out];go_wp2_with (at_builtin;refine gK rfl _ _ rfl w1.heap.size _ _ rfl (d.alloc _) w2.heap.size (p:Int) rfl ?_ ?_ ?_ ?_;(exact bX _ _ _);(rw[a5.out];omega);(simp;omega);intro v' w3 a8 hB b1);refine(aAv A p _ (by omega) U).mono ?_;rintro e w4 ⟨rfl,h4⟩;rw[<-e2.out];go_wp2_with fail;have J:=HG.out
   go_roundg (s.size-(k+1))
   case measure=>omega
   case rel=>exact⟨k+1,by omega,rfl,by go_num,rfl,by rw[e1.out];exact a8.below h4 (aD _),((L.alloc a7 _).trans hB).trans (h4.mono (by have:=hB.size;simp at this;omega))⟩
  ·have b2:k=s.size:=by omega
   go_wp2_with fail
   go_ret3
   rw[cD (by rw[HL.out];omega)] at d;exact⟨_,_,rfl,d,L⟩
 have HT:=hid Z;clear Z H I;go_enter func159,ntmps159;go_wp2_with fail;refine HT.out.mono ?_;rintro e w1 ⟨v,u,rfl,d,hb⟩;go_wp2_with fail
 go_ret2
 exact⟨_,rfl,d,hb⟩
end
section
open Go.RowKit Go Go.Shelf
theorem aEu (t:Nat) (w:World) (d:2<=t) (A:t<=6):
  Calls pG 166 #[.int .i64 (t:Int)] w fun e w'=>e=.returned (.string (mkS (cT t)))/\w'=w:=by
 obtain rfl|rfl|rfl|rfl|rfl:t=2\/t=3\/t=4\/t=5\/t=6:=by omega
 all_goals
  go_enter func166,ntmps166;go_wp2_with fail;go_ret;exact⟨by kernel_rfl,rfl⟩
theorem FG (c:Nat) (u:List Bool):(aX (c+1) u).flatten=(aX c u).flatten++u:=by
 rw[IA,List.flatten_append];simp
theorem FH (c:Nat) (x y:Bool):((aX c [x,y]).flatten).length=2*c:=by
 induction c with
 |zero=>rfl
 |succ c d=>rw[FG,aL,d];simp;omega
theorem aXf {l:List Int} {i:Nat} (h:i<l.length):(l.take i).getLastD (l.getD 0 0)=l.getD (i-1) 0:=by grind
theorem aE4 {l:List Int} {i:Nat} {x:Int} (h:l[i]? =some x):fR (l.getD 0 0) (l.take (i+1))=fR (l.getD 0 0) (l.take i)++mR (l.getD (i-1) 0) x:=by grind [List.getElem?_eq_some_iff,cG,fR,KU,aXf,mR]
theorem aXg (w:World) (x:Int):RdI (w.alloc (.cells #[.int .i64 x] 3)) (.slice (some ⟨w.heap.size,0,none⟩) 1 1) [x]:=uF w 3 [.int .i64 x] 1 rfl (by decide)
theorem aE5 (w:World) (x y:Int):RdI (w.alloc (.cells #[.int .i64 x,.int .i64 y] 3)) (.slice (some ⟨w.heap.size,0,none⟩) 2 2) [x,y]:=uF w 3 [.int .i64 x,.int .i64 y] 2 rfl (by decide)
theorem aE6 (v:Value) (l:List Int) (w:World) (hr:RdI w v l) (c7:gM l):
  Calls pG 105 #[v] w fun e w'=>e=.returned (.tuple #[fT (fI l),.int .i64 0])/\Below w.heap.size w w':=by
 obtain⟨e5,e6,H⟩:=c7;have HB:=hid H;have c8:=hid (fun k=>KV (l.take k) (l.getD 0 0) (by
  rw[bV,aN (show 0<l.length by omega)];exact(H _ (kK _)).1) (by
  rw[bV,aN (show 0<l.length by omega)];exact(H _ (kK _)).2) (fun x d=>H x (pG d)))
 have b5:∀i,i<l.length->1<=l.getD i 0/\l.getD i 0<=20/\l[i]? =some (l.getD i 0):=fun i hi=>by
  rw[bV,aN hi];exact⟨(H _ (kK hi)).1,(H _ (kK hi)).2,rfl⟩
 have a1:=hid b5;clear H;have t1:decide ((l.length:Int)<2)=false:=aE (by omega);have t2:decide ((l.length:Int)>258)=false:=aE (by omega);have t3:decide ((258:Int)<(l.length:Int))=false:=aE (by omega);have a8:=Arr.new w 79 [.string ⟨#[]⟩,.int .i64 0];have c9:(w.alloc (.cells #[.string ⟨#[]⟩,.int .i64 0] 79)).heap.size=w.heap.size+1:=by simp
 have a9:Below w.heap.size w (w.alloc (.cells #[.string ⟨#[]⟩,.int .i64 0] 79)):=bD (aH _ _) _;change Arr (w.alloc (.cells #[.string ⟨#[]⟩,.int .i64 0] 79)) _ _ _ at a8;have b6:=hr.below a9;obtain⟨a,ca,rfl,e7,d2,hA⟩:=b6.open;unfold maxLen at d2;clear hr b6 b5;obtain⟨L,O,rfl,U,Z⟩:=hA (by omega);clear hA;go_enter func105,ntmps105;go_wp2_with fail;generalize w.alloc (.cells #[.string ⟨#[]⟩,.int .i64 0] 79)=w0 at*
 go_loopg [4] l.length (fun g s4 wr=>∃k:Nat,k<=l.length/\g=l.length-k/\s4=.int .i64 (k:Int)/\wr=w0)
 case atStart=>exact⟨0,aO _,rfl,rfl,rfl⟩
 case round=>
  obtain⟨k,hk,G,rfl,rfl⟩:=hrel;have HG:=hid G;clear G
  by_cases d3:k<l.length
  ·have u1:decide ((k:Int)<(l.length:Int))=true:=aG (by omega);obtain⟨x1,x2,d⟩:=a1.out k d3;have I:=Z k _ d;obtain⟨x,V⟩:∃x,x=l.getD k 0:=⟨_,rfl⟩;rw[<-V] at x1 x2 I;have v1:decide (x<1)=false:=aE (by omega);have v2:decide (x>20)=false:=aE (by omega);have v3:decide (20<x)=false:=aE (by omega);clear V d Z;go_wp2_with fail;have G:=HG.out
   go_roundg (l.length-(k+1))
   case measure=>omega
   case rel=>exact⟨k+1,by omega,rfl,by go_num,rfl⟩
  ·have u1:decide ((k:Int)<(l.length:Int))=false:=aE (by omega);obtain⟨x1,x2,d⟩:=a1.out 0 (by omega);have c0:=Z 0 _ d;rw[pV] at c0;obtain⟨y,hy⟩:∃y:Nat,l.getD 0 0=(y:Int):=⟨(l.getD 0 0).toNat,by omega⟩;have HY:=hid hy;rw[hy] at c0 x1 x2;have y1:y<18446744073709551616:=by omega
   have m1:eZ.wrap (y:Int)=(y:Int):=by rw[fC];omega
   have m2:(y:Int)%18446744073709551616=(y:Int):=by omega
   have z1:0<l.length:=by omega
   have z2:(0:Int)<(l.length:Int):=by omega
   clear hy d hk;go_wp2_with fail;refine(wK y 5 _ y1 (by decide)).mono ?_;rintro e w1 ⟨u5,rfl,b0,a2⟩;have d4:=a2.size;have b7:=a8.below a2 (by omega);have b8:=a9.trans (a2.mono (by omega));have b9:∀j x,l[j]? =some x->w1.cell? ⟨L,O+j,none⟩=some (.int .i64 x):=fun j x hj=>((pJ a2).1 L (O+j) U).trans (Z j x hj)
   have a3:=hid b9;clear Z b9 c0 a8 a9;rw[c9] at b0 U d4;go_wp2_with fail
   go_loopg [5,6,7,8,9] l.length (fun g s5 s6 _s7 _s8 _s9 wx=>∃i:Nat,i<=l.length/\g=l.length-i/\s6=.int .i64 (i:Int)/\OwI wx (w.heap.size+1) s5 (bI (aT y 5++fR (l.getD 0 0) (l.take i)))/\Below (w.heap.size+1) w1 wx)
   case atStart=>exact⟨0,aO _,rfl,rfl,by simpa [fR] using b0,aH _ _⟩
   case round=>
    obtain⟨i,hi,G,rfl,F,J⟩:=hrel;have d5:=hid G;clear G b0 HG;have e8:=J.size;have c2:=c8.out i;rw[aQ,jF hi] at c2;obtain⟨D,hD⟩:∃D,D=aT y 5++fR (l.getD 0 0) (l.take i):=⟨_,rfl⟩;have e9:D.length<=5+39*i:=by rw[hD,aL,dV];omega
    rw[<-hD] at F;have HD:=hid hD;clear hD c2
    by_cases d6:i<l.length
    ·have u2:decide ((i:Int)<(l.length:Int))=true:=aG (by omega);obtain⟨d7,d8,d⟩:=a1.out i d6;obtain⟨p1,p2,hp⟩:=a1.out (i-1) (by omega);have I:=(J.cell (p:=⟨L,O+i,none⟩) U).trans (a3.out i _ d);obtain⟨M,hM⟩:∃M:Nat,M=i-1:=⟨_,rfl⟩;have c3:=(J.cell (p:=⟨L,O+(i-1),none⟩) U).trans (a3.out (i-1) _ hp);have a4:=aE4 d;obtain⟨x,V⟩:∃x,x=l.getD i 0:=⟨_,rfl⟩;obtain⟨p,c4⟩:∃p,p=l.getD (i-1) 0:=⟨_,rfl⟩;rw[<-V] at d7 d8 I a4;rw[<-c4] at p1 p2 c3 a4;rw[<-hM] at c3
     have c5:=hid (show aT y 5++fR (l.getD 0 0) (l.take (i+1))=D++((aX (x-p).toNat [true,false]).flatten++(aX (p-x).toNat [true,true]).flatten++[false]) by rw[a4,HD.out,bU];rfl);obtain⟨A,b2⟩:∃A,A=(x-p).toNat:=⟨_,rfl⟩;obtain⟨B,b3⟩:∃B,B=(p-x).toNat:=⟨_,rfl⟩;rw[<-b2,<-b3] at c5;have HA:=hid b2;have a5:=hid b3;have f2:A<=20:=by omega
     have f3:B<=20:=by omega
     have m3:max (aJ.wrap ((i:Int)-1)) 0=(M:Int):=by rw[aM];omega
     have m4:max ((i:Int)-1) 0=(M:Int):=by omega
     have m5:aJ.wrap ((i:Int)-1)=(i:Int)-1:=by rw[aM];omega
     have q1:(M:Int)<(l.length:Int):=by omega
     have q2:M<l.length:=by omega
     rw[<-V] at d;have HX:=hid d;clear hM V c4 a4 d hp b2 b3;go_wp2_with fail
     go_loopg [5,8] A (fun g s5 s8 wy=>∃c:Nat,c<=A/\g=A-c/\s8=.int .i64 (p+(c:Int))/\OwI wy (w.heap.size+1) s5 (bI (D++(aX c [true,false]).flatten))/\Below (w.heap.size+1) w1 wy)
     case atStart=>exact⟨0,aO _,rfl,by rw[OX,XD],by simpa using F,J⟩
     case round=>
      clear F I c3;obtain⟨c,d9,G,rfl,F,a6⟩:=hrel;have e0:=hid G;clear G;have f4:=a6.size;have I:=(a6.cell (p:=⟨L,O+i,none⟩) U).trans (a3.out i _ HX.out);have c6:(bI (D++(aX c [true,false]).flatten)).length<=20000:=by rw[cX,aL,FH];omega
      by_cases e1:c<A
      ·have u3:decide (p+(c:Int)<x)=true:=aG (by have:=HA.out;omega);have m6:aJ.wrap (p+(c:Int)+1)=p+(c:Int)+1:=by rw[aM];omega
       go_wp2_with (at_builtin;refine lR rfl _ _ rfl (w.heap.size+1) _ _ [1,0] rfl (OwI.alloc F _) _ rfl (aE5 wr 1 0) (by decide) ?_ ?_ ?_;(simp only[aU,aV];omega);(simp;omega);intro v3 w3 r1 r2 r3 r4);have f5:=e0.out
       go_roundg (A-(c+1))
       case measure=>omega
       case rel=>exact⟨c+1,by omega,rfl,congrArg _ (by push_cast;omega),by rw[FG,<-bU,iT];exact r1,(a6.alloc (by omega) _).trans r2⟩
      ·have u3:decide (p+(c:Int)<x)=false:=aE (by have:=HA.out;omega);obtain rfl:A=c:=by omega
       obtain⟨E,hE⟩:∃E,E=D++(aX A [true,false]).flatten:=⟨_,rfl⟩;have f6:E.length<=5+39*i+40:=by rw[hE,aL,FH];omega
       rw[<-hE] at F;have HE:=hid hE;clear hE c6;go_wp2_with fail
       go_loopg [5,9] B (fun g s5 s9 wy=>∃c:Nat,c<=B/\g=B-c/\s9=.int .i64 (p-(c:Int))/\OwI wy (w.heap.size+1) s5 (bI (E++(aX c [true,true]).flatten))/\Below (w.heap.size+1) w1 wy)
       case atStart=>exact⟨0,aO _,rfl,by rw[OX,Int.sub_zero],by simpa using F,a6⟩
       case round=>
        clear F I;obtain⟨c,d9,G,rfl,F,a7⟩:=hrel;have e2:=hid G;clear G;have f7:=a7.size;have I:=(a7.cell (p:=⟨L,O+i,none⟩) U).trans (a3.out i _ HX.out);have c6:(bI (E++(aX c [true,true]).flatten)).length<=20000:=by rw[cX,aL,FH];omega
        by_cases e1:c<B
        ·have v3:decide (p-(c:Int)>x)=true:=aG (by have:=a5.out;omega);have v4:decide (x<p-(c:Int))=true:=aG (by have:=a5.out;omega);have m6:aJ.wrap (p-(c:Int)-1)=p-(c:Int)-1:=by rw[aM];omega
         go_wp2_with (at_builtin;refine lR rfl _ _ rfl (w.heap.size+1) _ _ [1,1] rfl (OwI.alloc F _) _ rfl (aE5 wr 1 1) (by decide) ?_ ?_ ?_;(simp only[aU,aV];omega);(simp;omega);intro v3 w3 r1 r2 r3 r4);have f8:=e2.out
         go_roundg (B-(c+1))
         case measure=>omega
         case rel=>exact⟨c+1,by omega,rfl,congrArg _ (by push_cast;omega),by rw[FG,<-bU,iT];exact r1,(a7.alloc (by omega) _).trans r2⟩
        ·have v3:decide (p-(c:Int)>x)=false:=aE (by have:=a5.out;omega);have v4:decide (x<p-(c:Int))=false:=aE (by have:=a5.out;omega);obtain rfl:B=c:=by omega
         have HT:=hid (show bI (E++(aX B [true,true]).flatten)++[0]=bI (aT y 5++fR (l.getD 0 0) (l.take (i+1))) by
          rw[c5.out,HE.out,iT,iT,iT,iT,iT];simp only[bU];rfl)
         go_wp2_with (at_builtin;(refine lR rfl _ _ rfl (w.heap.size+1) _ _ [0] rfl (OwI.alloc F _) _ rfl (aXg wr 0) (by decide) ?_ ?_ ?_;(simp only[aU,aV];omega);(simp;omega);intro v3 w3 r1 r2 r3 r4));have f9:=d5.out
         go_roundg (l.length-(i+1))
         case measure=>omega
         case rel=>exact⟨i+1,by omega,rfl,by go_num,by rw[<-HT.out];exact r1,(a7.alloc (by omega) _).trans r2⟩
    ·have u2:decide ((i:Int)<(l.length:Int))=false:=aE (by omega);have e3:i=l.length:=by omega
     subst e3;have HF:=hid (show D=fI l by
      rw[HD.out,jS];unfold fI;rw[HY.out,fL])
     go_wp2_with fail;refine(CF _ D _ (OwI.rd F) (by omega)).mono ?_;rintro e w6 ⟨rfl,b4⟩;have a0:=(b7.below J (by omega)).below b4 (by omega);have e4:Below w.heap.size w w6:=(b8.trans (J.mono (by omega))).trans (b4.mono (by omega));have d0:=a0.cell (i:=0) rfl;have d1:=a0.cell (i:=1) rfl;have f0:=a0.free 0;have f1:=a0.free 1;clear b7 b4 F J b8;go_wp2_with fail;have z0:Arr ((w6.setCell ⟨w.heap.size,0,none⟩ (.string (mkS (aI D)))).setCell ⟨w.heap.size,1,none⟩ (.int .i64 (D.length:Int))) w.heap.size 79 [.string (mkS (aI D)),.int .i64 (D.length:Int)]:=(a0.set 0 _).set 1 _
     refine fM (uS rfl _ _ w.heap.size _ _ (0,0) _ rfl z0 underlying79 rfl rQ) rfl ?_;exact⟨by rw[<-HF.out];rfl,(e4.setCell (p:=⟨w.heap.size,0,none⟩) (aD _) _).setCell (p:=⟨w.heap.size,1,none⟩) (aD _) _⟩
def fA (c:Int):UInt8:=UInt8.ofNat c.toNat
theorem TD (l:List Int):fJ l=dL (cT 2) (l.map fA):=rfl
theorem MA {l:List Int} (h:∀x∈l,x=0\/x=1):∀b∈l.map fA,b∈cT 2:=by grind [fA,cT]
theorem zT (l:List Int):(fJ l).length=l.length:=by simp[TD,vQ,fJ]
theorem FI {l:List Int} (h:∀x∈l,x=0\/x=1):∀x∈fJ l,0<=x/\x<2:=fun x d=>BH _ _ (MA h) x (by grind [TD,fJ])
theorem aXh {l:List Int} {k:Nat} {x:Int} (h:l[k]? =some x):eW (l.take (k+1))=eW (l.take k)++(aX x.toNat true++[false]):=by
 rw[cG,h];exact RJ _ _
theorem CH:∀(l:List Int) (B:Nat),(∀x∈l,0<=x/\x<(B:Int))->(eW l).length<=B*l.length
 |[],B,_=>by simp[eW]
 |x::l,B,h=>by
  have A:=CH l B (fun y d=>h y (List.mem_cons_of_mem _ d));have F:=h x (List.mem_cons_self ..);have e:eW (x::l)=(aX x.toNat true++[false])++eW l:=rfl;rw[e,aL,aL,AT];simp only[aU,aV,Nat.mul_add,Nat.mul_one];omega
theorem aXi (v:Value) (l:List Int) (w:World) (hr:RdI w v l) (hl:l.length<=20000) (d:∀x∈l,x=0\/x=1):
  Calls pG 104 #[v,.int .i64 2] w fun e w'=>e=.returned (.tuple #[fT (eW (fJ l)),.int .i64 0])/\Below w.heap.size w w':=by
 have HX:=hid d;have a3:=hid (FI d);have b4:=hid (MA d);have b5:=hid (zT l);clear d;have a4:=Arr.new w 79 [.string ⟨#[]⟩,.int .i64 0];have f5:(w.alloc (.cells #[.string ⟨#[]⟩,.int .i64 0] 79)).heap.size=w.heap.size+1:=by simp
 have a5:Below w.heap.size w (w.alloc (.cells #[.string ⟨#[]⟩,.int .i64 0] 79)):=bD (aH _ _) _;change Arr (w.alloc (.cells #[.string ⟨#[]⟩,.int .i64 0] 79)) _ _ _ at a4;have b6:=hr.below a5;obtain⟨a,ca,rfl,f6,d3,hA⟩:=b6.open;unfold maxLen at d3;clear hr b6;go_enter func104,ntmps104;go_wp2_with fail;generalize w.alloc (.cells #[.string ⟨#[]⟩,.int .i64 0] 79)=w0 at*
 go_loopg [6,7] l.length (fun g s6 s7 wr=>∃(k:Nat) (O:Value),k<=l.length/\g=l.length-k/\O=s6/\s7=.int .i64 (k:Int)/\OwB wr (w.heap.size+1) O ((l.take k).map fA)/\Below (w.heap.size+1) w0 wr)
 case atStart=>exact⟨0,_,aO _,rfl,rfl,rfl,Ow.nil _ _ _,aH _ _⟩
 case round=>
  obtain⟨k,O,hk,H,rfl,rfl,A,L⟩:=hrel;have HG:=hid H;clear H;have f7:=L.size;have b7:((l.take k).map fA).length=k:=by rw[List.length_map,aQ];omega
  by_cases d4:k<l.length
  ·have u1:decide ((k:Int)<(l.length:Int))=true:=aG (by omega);obtain⟨b1,o1,rfl,f8,b9⟩:=hA (by omega);obtain⟨x,d⟩:=eG d4;have c1:=(L.cell (p:=⟨b1,o1+k,none⟩) (by show b1<w.heap.size+1;omega)).trans (b9 k x d);have c0:=HX.out x (cN d);have HT:=hid (show(l.take (k+1)).map fA=(l.take k).map fA++[fA x] by rw[cG,d,List.map_append];rfl);have e1:((fA x).toNat:Int)=x:=by rcases c0 with rfl|rfl<;>rfl
   have v1:decide (x<0)=false:=aE (by omega);have v2:decide (x>=2)=false:=aE (by omega);have v3:decide (2<=x)=false:=aE (by omega);have m1:IntKind.u8.wrap x=x:=by rw[IntKind.wrap_u8];omega
   have m2:x%256=x:=by omega
   have e2:=hid e1;clear b9 hA d c0 e1;go_wp2_with (at_builtin;refine FB rfl _ _ rfl (w.heap.size+1) _ _ rfl (Ow.alloc A _) wr.heap.size (fA x) rfl ?_ ?_ ?_ ?_;(rw[e2.out];exact bX _ _ _);(omega);(simp;omega);intro v' w3 U J r3);have H:=HG.out
   go_roundg (l.length-(k+1))
   case measure=>omega
   case rel=>exact⟨k+1,_,by omega,rfl,rfl,by go_num,by rw[HT.out];exact U,(L.alloc (by omega) _).trans J⟩
  ·have u1:decide ((k:Int)<(l.length:Int))=false:=aE (by omega);have d5:k=l.length:=by omega
   subst d5;rw[cD (aD _)] at A b7;obtain⟨D,hD⟩:∃D,D=l.map fA:=⟨_,rfl⟩;rw[<-hD] at A b7 b4;have HD:=hid hD;clear hD hA;have d6:(convert 48 9 O).run pG wr=.ok (.string (mkS D)) wr:=mP A.rd;have d7:(convert 48 9 O).run pG wr.drew=.ok (.string (mkS D)) wr.drew:=mP (w:=wr.drew) (OwB.rd (w:=wr.drew) A);have c2:∀W,Calls pG 166 #[.int .i64 2] W fun e w'=>e=.returned (.string (mkS (cT 2)))/\w'=W:=fun W=>aEu 2 W (by decide) (by decide)
   have a6:=fun W=>aAw (mkS (cT 2)) (mkS D) W (by simp[cT]) (by rw[cS];omega) (by decide) b4.out
   have d8:=hid (show dL (mkS (cT 2)).data.toList (mkS D).data.toList=fJ l by rw[dP,dP,HD.out];rfl);rw[d8.out] at a6;go_upto_region 10 with fail
   go_cut [8,9] (fun c8 _c9 M=>∃V,V=c8/\OwI M wr.heap.size V (fJ l)/\Below wr.heap.size wr M)
   case first=>
    go_region_with (first|(go_at_call 166;refine(c2 _).mono ?_;rintro e w3 ⟨rfl,rfl⟩)|(go_at_call 159;refine(a6 _).mono ?_;rintro e w3 ⟨V,rfl,Z,I⟩))
    all_goals
     go_wp2_with fail;go_meet;exact⟨V,rfl,Z,(aH wr.heap.size wr).drew.trans I⟩
   case rest=>
    obtain⟨V,rfl,Z,I⟩:=hcut;have c3:=(a4.below L (by omega)).below I (by omega);have c4:Below w.heap.size w wc:=(a5.trans (L.mono (by omega))).trans (I.mono (by omega));have d9:=I.size;obtain⟨P,hP⟩:∃P,P=fJ l:=⟨_,rfl⟩;rw[<-hP] at a3 b5 Z;have HP:=hid hP;have f9:P.length<=20000:=by have:=b5.out;omega
    obtain⟨a8,c8,rfl,g0,e0,a2⟩:=(OwI.rd Z).open;unfold maxLen at e0;obtain⟨F,e3⟩:∃F,F=wc.heap.size:=⟨_,rfl⟩;rw[<-e3] at d9 a2;clear hP L I A a4 a5 d6 d7 c2 a6 Z;go_wp2_with fail
    go_loopg [10,11,12] P.length (fun g a7 e4 _s12 M=>∃i:Nat,i<=P.length/\g=P.length-i/\e4=.int .i64 (i:Int)/\OwI M F a7 (bI (eW (P.take i)))/\Below F wc M/\F<=M.heap.size)
    case atStart=>exact⟨0,aO _,rfl,rfl,by simp only[List.take_zero];exact OwI.nil _ _,aH _ _,by omega⟩
    case round=>
     obtain⟨i,hi,H,rfl,A,a0,c5⟩:=hrel;have e5:=hid H;clear H HG;have c6:=CH (P.take i) 2 (fun x d=>a3.out x (pG d));rw[aQ,jF hi] at c6;obtain⟨G,a9⟩:∃G,G=eW (P.take i):=⟨_,rfl⟩;rw[<-a9] at A c6;have c7:=hid a9;clear a9
     by_cases e6:i<P.length
     ·have u2:decide ((i:Int)<(P.length:Int))=true:=aG (by omega);obtain⟨b8,o8,rfl,I,b0⟩:=a2 (by omega);obtain⟨x,d⟩:=eG e6;have c1:=(a0.cell (p:=⟨b8,o8+i,none⟩) I).trans (b0 i x d);have e7:=a3.out x (cN d);have HT:=hid (show eW (P.take (i+1))=G++(aX x.toNat true++[false]) by rw[c7.out];exact aXh d);obtain⟨X,rfl⟩:∃X:Nat,x=(X:Int):=⟨x.toNat,by omega⟩;rw[fL] at HT;have g1:X<2:=by omega
      have e8:=hid (fun wz (h:Below F wc wz)=>(h.cell (p:=⟨b8,o8+i,none⟩) I).trans (b0 i _ d));clear b0 a2 d e7;go_wp2_with fail
      go_loopg [10,12] X (fun g a7 e9 wy=>∃c:Nat,c<=X/\g=X-c/\e9=.int .i64 (c:Int)/\OwI wy F a7 (bI (G++aX c true))/\Below F wc wy/\F<=wy.heap.size)
      case atStart=>exact⟨0,aO _,rfl,rfl,by simpa using A,a0,c5⟩
      case round=>
       clear A c1 a0 c5;obtain⟨c,g2,H,rfl,A,b2,g3⟩:=hrel;have f2:=hid H;clear H;have c1:=e8.out _ b2;have g4:(bI (G++aX c true)).length<=50000:=by rw[cX,aL,AT];omega
       by_cases g5:c<X
       ·have u3:decide ((c:Int)<(X:Int))=true:=aG (by omega);go_wp2_with (at_builtin;refine gK rfl _ _ rfl F _ _ rfl (OwI.alloc A _) _ 1 rfl (bX _ _ _) ?_ ?_ ?_;(omega);(simp;omega);intro v3 w3 U J r3);have g6:=f2.out
        go_roundg (X-(c+1))
        case measure=>omega
        case rel=>
         refine⟨c+1,by omega,rfl,by go_num,?_,(b2.alloc (by omega) _).trans J,?_⟩
         ·rw[IA,<-bU,iT];exact U
         ·have:=J.size;simp only[fP] at this;omega
       ·have u3:decide ((c:Int)<(X:Int))=false:=aE (by omega);obtain rfl:c=X:=by omega
        go_wp2_with (at_builtin;refine gK rfl _ _ rfl F _ _ rfl (OwI.alloc A _) _ 0 rfl (bX _ _ _) ?_ ?_ ?_;(omega);(simp;omega);intro v3 w3 U J r3);have g7:=e5.out
        go_roundg (P.length-(i+1))
        case measure=>omega
        case rel=>
         refine⟨i+1,by omega,rfl,by go_num,?_,(b2.alloc (by omega) _).trans J,?_⟩
         ·rw[HT.out,<-bU,iT];exact U
         ·have:=J.size;simp only[fP] at this;omega
     ·have u2:decide ((i:Int)<(P.length:Int))=false:=aE (by omega);have f3:i=P.length:=by omega
      subst f3;have HF:=hid (show G=eW (fJ l) by rw[c7.out,jS,HP.out]);have c9:=c3.below a0 (by omega);have d2:Below w.heap.size w wr:=c4.trans (a0.mono (by omega));clear c3 c4 a2;go_wp2_with fail;refine(CF _ G _ (OwI.rd A) (by omega)).mono ?_;rintro e w6 ⟨rfl,b3⟩;have a1:=c9.below b3 (by omega);have f4:Below w.heap.size w w6:=d2.trans (b3.mono (by omega));have d0:=a1.cell (i:=0) rfl;have d1:=a1.cell (i:=1) rfl;have f0:=a1.free 0;have f1:=a1.free 1;clear b3 A c9 d2;go_wp2_with fail
      have z0:Arr ((w6.setCell ⟨w.heap.size,0,none⟩ (.string (mkS (aI G)))).setCell ⟨w.heap.size,1,none⟩ (.int .i64 (G.length:Int))) w.heap.size 79 [.string (mkS (aI G)),.int .i64 (G.length:Int)]:=(a1.set 0 _).set 1 _;refine fM (uS rfl _ _ w.heap.size _ _ (0,0) _ rfl z0 underlying79 rfl rQ) rfl ?_;exact⟨by rw[<-HF.out];rfl,(f4.setCell (p:=⟨w.heap.size,0,none⟩) (aD _) _).setCell (p:=⟨w.heap.size,1,none⟩) (aD _) _⟩
theorem aE7 {s:List UInt8} {t a:Int} {k:Nat} (h:(dR s t a k).2.2=0):dR s t a (k+1)=
  if(kN s t (dR s t a k).2.1 0).2.2≠0 then((dR s t a k).1,(dR s t a k).2.1,(kN s t (dR s t a k).2.1 0).2.2)
  else((dR s t a k).1++[(kN s t (dR s t a k).2.1 0).1],(kN s t (dR s t a k).2.1 0).2.1,0):=by grind [dR,kN]
theorem aE8 {s:List UInt8} {t a:Int} {k:Nat} (h:(dR s t a k).2.2≠0):∀j,(dR s t a (k+j)).2.2=(dR s t a k).2.2
 |0=>rfl
 |j+1=>by
  have d:=aE8 h j
  grind [dR]
theorem MB (s:List UInt8) (a n t:Nat) (d:2<=t) (A:t<=6) (F:n<=1048576):eD s (a:Int) (n:Int) (t:Int)=
  if(dR s (t:Int) (a:Int) n).2.2≠0 then([],0,(dR s (t:Int) (a:Int) n).2.2) else((unL (cT t) (dR s (t:Int) (a:Int) n).1).map (fun b=>(b.toNat:Int)),(dR s (t:Int) (a:Int) n).2.1,0):=by grind [eD,dR,unL,cT]
theorem aE9 {s:List UInt8} {a n t k:Nat} (d:2<=t) (A:t<=6) (F:n<=1048576) (G:k<=n) (h:(dR s (t:Int) (a:Int) k).2.2≠0):eD s (a:Int) (n:Int) (t:Int)=([],0,(dR s (t:Int) (a:Int) k).2.2):=by
 have:=aE8 h (n-k)
 grind [MB,dR,eD]
def FJ (w w':World) (s:List UInt8) (a n t:Nat) (e:Ending):Prop:=
 ∃v,e=.returned (.tuple #[v,.int .i64 (eD s (a:Int) (n:Int) (t:Int)).2.1,.int .i64 (eD s (a:Int) (n:Int) (t:Int)).2.2])/\OwI w' w.heap.size v (eD s (a:Int) (n:Int) (t:Int)).1/\Below w.heap.size w w'
theorem TE {w w':World} {s:List UInt8} {a n t:Nat} {E:Int} (h:eD s (a:Int) (n:Int) (t:Int)=([],0,E)) (d:Below w.heap.size w w'):FJ w w' s a n t (.returned (.tuple #[.slice none 0 0,.int .i64 0,.int .i64 E])):=by grind [OwI.nil,eD,FJ]
theorem aF7 (n:Nat) (w:World) (d:2<=n) (A:n<=258):Calls pG 146 #[.int .i64 (n:Int)] w fun e w'=>e=.returned (.bool true)/\w'=w:=by
 have t1:decide ((n:Int)>=2)=true:=aG (by omega);have F:decide ((2:Int)<=(n:Int))=true:=aG (by omega);have G:decide ((n:Int)<=258)=true:=aG (by omega);go_enter func146,ntmps146;go_wp2;go_ret;exact⟨rfl,rfl⟩
theorem aF8 (x:Int) (w:World):Calls pG 148 #[.int .i64 x] w fun e w'=>e=.returned (.bool (decide (1<=x)&&decide (x<=20)))/\w'=w:=by
 by_cases d:1<=x
 ·have t1:decide (x>=1)=true:=aG d;have F:decide (1<=x)=true:=aG d
  by_cases A:x<=20
  ·have G:decide (x<=20)=true:=aG A;go_enter func148,ntmps148;go_wp2;go_ret;exact⟨by first|rfl|(simp[d,A]),rfl⟩
  ·have G:decide (x<=20)=false:=aE A;go_enter func148,ntmps148;go_wp2;go_ret;exact⟨by first|rfl|(simp[d,A]),rfl⟩
 ·have t1:decide (x>=1)=false:=aE d;have F:decide (1<=x)=false:=aE d;go_enter func148,ntmps148;go_wp2;go_ret;exact⟨by first|rfl|(simp[d]),rfl⟩
theorem aYs (x:Int) (w:World):Calls pG 147 #[.int .i64 x] w fun e w'=>e=.returned (.bool (!(decide (1<=x)&&decide (x<=20))))/\w'=w:=by
 have h:=aF8 x;obtain⟨b,d⟩:∃b,b=(decide (1<=x)&&decide (x<=20)):=⟨_,rfl⟩;rw[<-d];rw[<-d] at h;clear d;go_enter func147,ntmps147;go_wp2_with fail;refine(h _).mono ?_;rintro e w' ⟨rfl,rfl⟩;go_wp2;go_ret;exact⟨rfl,rfl⟩
def uW (w:World) (b:Nat) (D:List Bool):Prop:=Arr w b 79 [.string (mkS (aI D)),.int .i64 (D.length:Int)]
theorem uW.set {w:World} {b:Nat} {D:List Bool} (h:uW w b D) (E:List Bool):uW ((w.setCell ⟨b,0,none⟩ (.string (mkS (aI E)))).setCell ⟨b,1,none⟩ (.int .i64 (E.length:Int))) b E:=(Arr.set h 0 _).set 1 _
theorem aF9 (v:Value) (l:List Int) (w:World) (hr:RdI w v l) (d2:gM l):
  Calls pG 89 #[v] w fun e w'=>e=.returned (.tuple #[fT (fI l),.int .i64 0])/\Below w.heap.size w w':=by
 obtain⟨d3,d4,Z⟩:=d2;have b7:∀W,Below w.heap.size w W->Calls pG 141 #[v,.func (.func 147) #[] #[]] W fun e w'=>e=.returned (.bool false)/\w'=W:=fun W hW=>
  (zC 147 #[] (fun x=> !(decide (1<=x)&&decide (x<=20))) v l W (hr.below hW) (enters_of func147 (by kernel_rfl) rfl) (fun W _ x _=>aYs x W)).mono fun e w' ⟨h1,h2⟩=>by
  rw[sK (fun x J=>by have:=Z x J;simp;omega)] at h1;exact⟨h1,h2⟩
 have d5:=hid (fun k=>KV (l.take k) (l.getD 0 0) (by
  rw[bV,aN (show 0<l.length by omega)];exact(Z _ (kK _)).1) (by
  rw[bV,aN (show 0<l.length by omega)];exact(Z _ (kK _)).2) (fun x J=>Z x (pG J)))
 have b8:∀i,i<l.length->1<=l.getD i 0/\l.getD i 0<=20/\l[i]? =some (l.getD i 0):=fun i hi=>by
  rw[bV,aN hi];exact⟨(Z _ (kK hi)).1,(Z _ (kK hi)).2,rfl⟩
 have a9:=hid b8;clear Z;have a1:=Arr.new w 79 [.string ⟨#[]⟩,.int .i64 0];have f5:(w.alloc (.cells #[.string ⟨#[]⟩,.int .i64 0] 79)).heap.size=w.heap.size+1:=by simp
 have a5:Below w.heap.size w (w.alloc (.cells #[.string ⟨#[]⟩,.int .i64 0] 79)):=bD (aH _ _) _;change Arr (w.alloc (.cells #[.string ⟨#[]⟩,.int .i64 0] 79)) _ _ _ at a1;obtain⟨a,ca,rfl,f6,d6,hA⟩:=hr.open;unfold maxLen at d6;obtain⟨b1,o1,rfl,b0,b9⟩:=hA (by omega);clear hA b8 hr;go_enter func89,ntmps89;go_wp2_with fail;generalize w.alloc (.cells #[.string ⟨#[]⟩,.int .i64 0] 79)=w0 at*
 refine(aF7 l.length _ d3 d4).mono ?_;rintro e w1 ⟨rfl,rfl⟩;go_wp2_with fail;refine(b7 _ a5).mono ?_;rintro e w2 ⟨rfl,rfl⟩;obtain⟨x1,x2,J⟩:=a9.out 0 (by omega);have b2:∀j x,l[j]? =some x->w2.cell? ⟨b1,o1+j,none⟩=some (.int .i64 x):=fun j x hj=>((pJ a5).1 b1 (o1+j) b0).trans (b9 j x hj)
 have c0:=b2 0 _ J;rw[pV] at c0;obtain⟨y,hy⟩:∃y:Nat,l.getD 0 0=(y:Int):=⟨(l.getD 0 0).toNat,by omega⟩;have HY:=hid hy;rw[hy] at c0 x1 x2;have y1:y<18446744073709551616:=by omega
 have m1:eZ.wrap (y:Int)=(y:Int):=by rw[fC];omega
 have m2:(y:Int)%18446744073709551616=(y:Int):=by omega
 have z1:0<l.length:=by omega
 have z2:(0:Int)<(l.length:Int):=by omega
 have M:=a1.cell (i:=0) rfl;have O:=a1.cell (i:=1) rfl;clear hy J b7 b9;go_wp2_with fail;refine(wL [] y 5 _ y1 (by decide) (by decide)).mono ?_;rintro e w3 ⟨rfl,a2⟩;unfold fT;rw[List.nil_append];have a0:=a1.below a2 (by omega);have c2:=a5.trans (a2.mono (by omega));have c3:∀j x,l[j]? =some x->w3.cell? ⟨b1,o1+j,none⟩=some (.int .i64 x):=fun j x hj=>((pJ a2).1 b1 (o1+j) (by omega)).trans (b2 j x hj)
 have f7:=a2.size;have e0:=a0.cell (i:=0) rfl;have e1:=a0.cell (i:=1) rfl;have f0:=a0.free 0;have f1:=a0.free 1;clear a1 a5 b2 c0 M O;obtain⟨D,hD⟩:∃D,D=aT y 5:=⟨_,rfl⟩;rw[<-hD];have HD:=hid hD;clear hD;go_wp2_with fail;have c4:uW ((w3.setCell ⟨w.heap.size,0,none⟩ (.string (mkS (aI D)))).setCell ⟨w.heap.size,1,none⟩ (.int .i64 (D.length:Int))) w.heap.size D:=(a0.set 0 _).set 1 _
 have a6:Below w.heap.size w3 ((w3.setCell ⟨w.heap.size,0,none⟩ (.string (mkS (aI D)))).setCell ⟨w.heap.size,1,none⟩ (.int .i64 (D.length:Int))):=((aH w.heap.size w3).setCell (p:=⟨w.heap.size,0,none⟩) (aD _) _).setCell (p:=⟨w.heap.size,1,none⟩) (aD _) _;generalize (w3.setCell ⟨w.heap.size,0,none⟩ (.string (mkS (aI D)))).setCell ⟨w.heap.size,1,none⟩ (.int .i64 (D.length:Int))=w4 at*
 have d7:=hid (fun j x hj=>(a6.cell (p:=⟨b1,o1+j,none⟩) b0).trans (c3 j x hj));have d8:=c2.trans a6;have f8:=a6.size;have a7:=fun(L:List Bool) (v n:Nat) W h1 h2 h3=>wL L v n W h1 h2 h3
 unfold fT at a7;clear e0 e1 f0 f1 a0 c3 a2 c2 a6
 go_loopg [4,6,28] l.length (fun g s4 _s6 d9 wx=>∃(i:Nat) (p:Int),i<=l.length/\g=l.length-i/\d9=.int .i64 (i:Int)/\s4=.int .i64 p/\p=l.getD (i-1) 0/\uW wx w.heap.size (aT y 5++fR (l.getD 0 0) (l.take i))/\Below w.heap.size w4 wx)
 case atStart=>exact⟨0,(y:Int),aO _,rfl,rfl,rfl,HY.out.symm,by rw[<-HD.out];simpa [fR] using c4,aH _ _⟩
 case round=>
  obtain⟨i,p,hi,U,rfl,rfl,c5,d,a8⟩:=hrel;have e2:=hid U;clear U c4;have f9:=a8.size;have c6:=d5.out i;rw[aQ,jF hi] at c6;obtain⟨E,hE⟩:∃E,E=aT y 5++fR (l.getD 0 0) (l.take i):=⟨_,rfl⟩;have g0:E.length<=5+39*i:=by rw[hE,aL,dV];omega
  rw[<-hE] at d;have HE:=hid hE;clear hE c6
  by_cases e3:i<l.length
  ·have u2:decide ((i:Int)<(l.length:Int))=true:=aG (by omega);obtain⟨e4,e5,J⟩:=a9.out i e3;obtain⟨p1,p2,hp⟩:=a9.out (i-1) (by omega);have c1:=(a8.cell (p:=⟨b1,o1+i,none⟩) b0).trans (d7.out i _ J);have a3:=aE4 J;have c7:=hid (show l.getD (i+1-1) 0=l.getD i 0 by rw[Nat.add_sub_cancel]);obtain⟨x,c8⟩:∃x,x=l.getD i 0:=⟨_,rfl⟩;rw[<-c8] at e4 e5 c1 a3 c7;rw[<-c5] at p1 p2 a3;obtain⟨A,b3⟩:∃A,A=(x-p).toNat:=⟨_,rfl⟩;obtain⟨B,b4⟩:∃B,B=(p-x).toNat:=⟨_,rfl⟩;have c9:mR p x=(aX A [true,false]).flatten++(aX B [true,true]).flatten++[false]:=by unfold mR;rw[b3,b4]
   rw[c9] at a3;have e6:=hid (show aT y 5++fR (l.getD 0 0) (l.take (i+1))=E++((aX A [true,false]).flatten++(aX B [true,true]).flatten++[false]) by rw[a3,HE.out];simp only[bU]);have HA:=hid b3;have e7:=hid b4;have g1:A<=20:=by omega
   have g2:B<=20:=by omega
   clear c8 c5 a3 J hp b3 b4 c9;go_wp2_with fail
   go_loopg [4] A (fun g s4 wy=>∃c:Nat,c<=A/\g=A-c/\s4=.int .i64 (p+(c:Int))/\uW wy w.heap.size (E++(aX c [true,false]).flatten)/\Below w.heap.size w4 wy)
   case atStart=>exact⟨0,aO _,rfl,by rw[OX,XD],by simpa using d,a8⟩
   case round=>
    clear d;obtain⟨c,e8,U,rfl,d,b5⟩:=hrel;have e9:=hid U;clear U;obtain⟨F,hF⟩:∃F,F=E++(aX c [true,false]).flatten:=⟨_,rfl⟩;have g3:F.length<=20000:=by rw[hF,aL,FH];omega
    rw[<-hF] at d;have HF:=hid hF;clear hF;have g4:=b5.size;have M:=Arr.cell d (i:=0) rfl;have O:=Arr.cell d (i:=1) rfl
    by_cases g5:c<A
    ·have u3:decide (p+(c:Int)<x)=true:=aG (by have:=HA.out;omega);have m6:aJ.wrap (p+(c:Int)+1)=p+(c:Int)+1:=by rw[aM];omega
     go_wp2_with fail;refine(a7 F 2 2 _ (by decide) (by decide) (by omega)).mono ?_;rintro e w5 ⟨rfl,V⟩;have G:uW w5 w.heap.size F:=Arr.below d V (by omega);have a4:=b5.trans (V.mono (by omega));obtain⟨N,I⟩:∃N,N=F++aT 2 2:=⟨_,rfl⟩;rw[<-I];have HN:=hid (show N=E++(aX (c+1) [true,false]).flatten by rw[I,HF.out,FG,<-bU];rfl);have e0:=Arr.cell G (i:=0) rfl;have e1:=Arr.cell G (i:=1) rfl;have f0:=Arr.free G 0;have f1:=Arr.free G 1;clear I d M O;go_wp2_with fail;have g6:=e9.out
     go_roundg (A-(c+1))
     case measure=>omega
     case rel=>exact⟨c+1,by omega,rfl,congrArg _ (by push_cast;omega),by rw[<-HN.out];exact G.set N,(a4.setCell (p:=⟨w.heap.size,0,none⟩) (aD _) _).setCell (p:=⟨w.heap.size,1,none⟩) (aD _) _⟩
    ·have u3:decide (p+(c:Int)<x)=false:=aE (by have:=HA.out;omega);obtain rfl:A=c:=by omega
     obtain⟨q,hq⟩:∃q:Int,q=p+(A:Int):=⟨_,rfl⟩;have HQ:=hid (show(B=0/\q=x)\/(A=0/\q=p/\(B:Int)=p-x) by have:=HA.out;have:=e7.out;omega);have g7:1<=q/\q<=20:=by have:=HQ.out;omega
     rw[<-hq] at u3 ⊢;clear hq M O;go_wp2_with fail
     go_loopg [4] B (fun g s4 wy=>∃c:Nat,c<=B/\g=B-c/\s4=.int .i64 (q-(c:Int))/\uW wy w.heap.size (F++(aX c [true,true]).flatten)/\Below w.heap.size w4 wy)
     case atStart=>exact⟨0,aO _,rfl,by rw[OX,Int.sub_zero],by simpa using d,b5⟩
     case round=>
      clear d;obtain⟨c,e8,U,rfl,d,b6⟩:=hrel;have f2:=hid U;clear U;obtain⟨H,hH⟩:∃H,H=F++(aX c [true,true]).flatten:=⟨_,rfl⟩;have g8:H.length<=20100:=by rw[hH,aL,FH];omega
      rw[<-hH] at d;have HH:=hid hH;clear hH;have g9:=b6.size;have M:=Arr.cell d (i:=0) rfl;have O:=Arr.cell d (i:=1) rfl
      by_cases i0:c<B
      ·have v3:decide (q-(c:Int)>x)=true:=aG (by have:=HQ.out;omega);have v4:decide (x<q-(c:Int))=true:=aG (by have:=HQ.out;omega);have m6:aJ.wrap (q-(c:Int)-1)=q-(c:Int)-1:=by rw[aM];omega
       go_wp2_with fail;refine(a7 H 3 2 _ (by decide) (by decide) (by omega)).mono ?_;rintro e w5 ⟨rfl,V⟩;have G:uW w5 w.heap.size H:=Arr.below d V (by omega);have a4:=b6.trans (V.mono (by omega));obtain⟨N,I⟩:∃N,N=H++aT 3 2:=⟨_,rfl⟩;rw[<-I];have HN:=hid (show N=F++(aX (c+1) [true,true]).flatten by rw[I,HH.out,FG,<-bU];rfl);have e0:=Arr.cell G (i:=0) rfl;have e1:=Arr.cell G (i:=1) rfl;have f0:=Arr.free G 0;have f1:=Arr.free G 1;clear I d M O;go_wp2_with fail;have i1:=f2.out
       go_roundg (B-(c+1))
       case measure=>omega
       case rel=>exact⟨c+1,by omega,rfl,congrArg _ (by push_cast;omega),by rw[<-HN.out];exact G.set N,(a4.setCell (p:=⟨w.heap.size,0,none⟩) (aD _) _).setCell (p:=⟨w.heap.size,1,none⟩) (aD _) _⟩
      ·have v3:decide (q-(c:Int)>x)=false:=aE (by have:=HQ.out;omega);have v4:decide (x<q-(c:Int))=false:=aE (by have:=HQ.out;omega);obtain rfl:B=c:=by omega
       have f3:=hid (show q-(B:Int)=x by have:=HQ.out;have:=HA.out;omega);go_wp2_with fail;refine(a7 H 0 1 _ (by decide) (by decide) (by omega)).mono ?_;rintro e w5 ⟨rfl,V⟩;have G:uW w5 w.heap.size H:=Arr.below d V (by omega);have a4:=b6.trans (V.mono (by omega));obtain⟨N,I⟩:∃N,N=H++aT 0 1:=⟨_,rfl⟩;rw[<-I];have HN:=hid (show N=aT y 5++fR (l.getD 0 0) (l.take (i+1)) by
        rw[I,HH.out,HF.out,e6.out];simp only[bU];rfl)
       have e0:=Arr.cell G (i:=0) rfl;have e1:=Arr.cell G (i:=1) rfl;have f0:=Arr.free G 0;have f1:=Arr.free G 1;clear I d M O;go_wp2_with fail;have i2:=e2.out
       go_roundg (l.length-(i+1))
       case measure=>omega
       case rel=>exact⟨i+1,q-(B:Int),by omega,rfl,by go_num,rfl,by rw[f3.out,c7.out],by rw[<-HN.out];exact G.set N,(a4.setCell (p:=⟨w.heap.size,0,none⟩) (aD _) _).setCell (p:=⟨w.heap.size,1,none⟩) (aD _) _⟩
  ·have u2:decide ((i:Int)<(l.length:Int))=false:=aE (by omega);have f4:i=l.length:=by omega
   subst f4;have HF:=hid (show E=fI l by
    rw[HE.out,jS];unfold fI;rw[HY.out,fL])
   have M:=Arr.cell d (i:=0) rfl;have O:=Arr.cell d (i:=1) rfl;have f0:=Arr.free d 0;have f1:=Arr.free d 1;have hz:=d.set E;go_wp2_with fail;refine fM (uS rfl _ _ w.heap.size _ _ (0,0) _ rfl hz underlying79 rfl rQ) rfl ?_;exact⟨by rw[<-HF.out];rfl,((d8.trans a8).setCell (p:=⟨w.heap.size,0,none⟩) (aD _) _).setCell (p:=⟨w.heap.size,1,none⟩) (aD _) _⟩
end
end Go.Proofs.YtihbnmlinkbnkaaGreatDoor

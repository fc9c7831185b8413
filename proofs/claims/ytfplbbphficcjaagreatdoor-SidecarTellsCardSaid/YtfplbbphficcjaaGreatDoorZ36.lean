/-
  Texts put together (part 36): the walks and the plain laws on which the statement stands.
-/
import Derived.Test.YtfplbbphficcjaaGreatDoorZ34
set_option maxRecDepth 100000
set_option maxHeartbeats 12800000
set_option linter.unusedVariables false
set_option linter.unusedSimpArgs false
open Go.Proofs.Tryz
open Go.Proofs.Tryz renaming prog->pG
open And renaming intro->tK
open BitVec renaming ofNat->pZ
open ByteArray renaming size_extract->aL6
open Go.RowKit.Below renaming refl->aH
open Go.Value renaming slice->mM
open Go.World renaming size_alloc->fP
open Int renaming ofNat_inj->XM,tdiv_eq_ediv_of_nonneg->IK,toNat_natCast->fL
open List renaming length_append->aL,length_map->aS,length_singleton->fQ,map_append->dY,mem_append->dK,mem_singleton->cP,take_take->XS
open Nat renaming le_refl->aD,le_succ->tJ,zero_le->aO
namespace Go.Proofs.YtfplbbphficcjaaGreatDoor
open Go.RowKit Go Go.Shelf
theorem bI6:∀(m:List Bool) (v:Nat),m.foldl (fun v b=>2*v+b.toNat) v=0->v=0
 |[],_,h=>h
 |b::m,v,h=>by have q:2*v+b.toNat=0:=bI6 m _ h;omega
theorem bJq {s:List UInt8} {a k n:Nat} (h:k<=n) (d:dG (seg s a n)=0):dG (seg s a k)=0:=by
 have e:seg s a n=seg s a k++(seg s a n).drop k:=by
  rw[show seg s a k=(seg s a n).take k by unfold seg;rw[XS];congr 1;omega,List.take_append_drop]
 rw[e] at d;unfold dG at d;rw[List.foldl_append] at d;exact bI6 _ _ d
theorem bJr {s:List UInt8} {a k:Nat} (h:a+k<8*s.length):dG (seg s a (k+1))=2*dG (seg s a k)+aK s ((a+k:Nat):Int) 1:=by
 have d:aP s.length ((a+k:Nat):Int) 1=0:=by unfold aP;rw[aA (by omega),aA (by omega)]
 rw[aEe h,wB];unfold aK;rw[aB d,fL,aEe (k:=0) (by omega),wB,aEf,Nat.add_zero,show dG []=0 from rfl,Nat.mul_zero,Nat.zero_add]
theorem bJs {s:List UInt8} {a k:Nat} (h:a+k<=8*s.length):aK s (a:Int) k=dG (seg s a k):=by
 have d:aP s.length (a:Int) k=0:=by unfold aP;rw[aA (by omega),aA (by omega)]
 unfold aK;rw[aB d,fL]
theorem bJt (s:ByteArray) (a:Nat) (v:Value) (l:List (BitVec 32)) (w:World) (O:RdS w v l) (hs:s.size<=20000) (ha:a<=160000):
  Calls pG 86 #[.string s,.int .i64 (a:Int),v] w fun e w'=>e=.returned (.tuple #[.int .i64 (kS s.data.toList (a:Int) (iM l)).1,.int .i64 (kS s.data.toList (a:Int) (iM l)).2])/\w'=w:=by
 have HL:=hid (show s.data.toList.length=s.size by simp);obtain⟨A,hA⟩:∃A,A=a+80:=⟨_,rfl⟩;obtain⟨B,hB⟩:∃B,B=a+48:=⟨_,rfl⟩;obtain⟨H,T⟩:∃H,H=jP A:=⟨_,rfl⟩;obtain⟨F,hF⟩:∃F,F=A+H:=⟨_,rfl⟩;obtain⟨G,hG⟩:∃G,G=a+87:=⟨_,rfl⟩;obtain⟨D,hD⟩:∃D,D=G/8:=⟨_,rfl⟩;have b7:H<8:=by rw[T];exact aDk A
 have m1:(a:Int)+48=(B:Int):=by omega
 have m2:(a:Int)+80=(A:Int):=by omega
 have m3:(a:Int)+87=(G:Int):=by omega
 have m4:(G:Int).tdiv 8=(D:Int):=by rw[IK (by omega)];omega
 have a6:F=D*8/\H=(8-A%8)%8:=⟨by rw[hF,T,hD];unfold jP;omega,T⟩;have m5:(D:Int)*8=(F:Int):=by omega
 have m6:=lE D (by omega);have b8:=lE F (by omega);have d:kS s.data.toList (a:Int) (iM l)=if aP s.size (B:Int) 32≠0 then(0,aP s.size (B:Int) 32) else if aK s.data.toList (B:Int) 32≠(iM l).toNat then(0,7) else if aK s.data.toList (A:Int) H≠0 then(0,3) else((F:Int),0):=by
  unfold kS;rw[HL.out,m1,m2,fL,<-T,hF];rfl
 have a7:=fun W=>sV s (B:Int) 32 W (by omega) (by decide) (by omega) (by omega)
 have a3:=fun W (h:RdS W v l)=>bDu v l W h
 have a4:=jV s.data.toList (B:Int) 32;have L:=iG (n:=s.size) (at':=(B:Int)) (k:=32);obtain⟨S,hS⟩:∃S,S=(iM l).toNat:=⟨_,rfl⟩;obtain⟨E,Y⟩:∃E,E=aP s.size (B:Int) 32:=⟨_,rfl⟩;obtain⟨V,Z⟩:∃V,V=aK s.data.toList (B:Int) 32:=⟨_,rfl⟩;rw[<-Y,<-Z] at a7;rw[<-hS] at a3;rw[<-Y,<-Z,<-hS] at d;rw[<-Z] at a4;rw[<-Y] at L;have a8:V<4294967296:=a4;have m7:=aGs V a8;have b9:=aZc V a8;have a0:=a3 _ O;have HA:=hid hA;have HB:=hid hB;have a5:=hid hF;have a9:=hid a6;have c0:A<=160080:=by omega
 clear a3 hS Y Z a4 hA hB T hF hG hD a6 O;go_enter func86,ntmps86;go_wp2_with fail;refine(a7 _).mono ?_;rintro e w1 ⟨rfl,rfl⟩
 by_cases h1:E=0
 rotate_left
 ·have t1:(E != 0)=true:=by rw[bne_iff_ne];exact h1
  rw[aB h1] at d;have J:=hid d;clear d h1 L a0;go_wp2_with fail
  go_ret2
  exact⟨by rw[J.out];rfl,rfl⟩
 subst h1;rw[aA (fun k=>k rfl)] at d;have L:=L rfl;have HK:=hid (show F<=8*s.size by
  have:=L.2.2;have:=a5.out;have:=a9.out;have:=HA.out;have:=HB.out;omega)
 have M:=hid d;clear d L;go_wp2_with fail;refine a0.mono ?_;rintro e w2 ⟨rfl,rfl⟩
 by_cases I:V=S
 rotate_left
 ·have t1:((V:Int) != (S:Int))=true:=by rw[bne_iff_ne];exact fun q=>I (XM.1 q)
  have t2:(V != S)=true:=by rw[bne_iff_ne];exact I
  have d:=M.out;rw[aB I] at d;have J:=hid d;clear d M I a0;go_wp2_with fail
  go_ret2
  exact⟨by rw[J.out];rfl,rfl⟩
 have t1:((V:Int) != (S:Int))=false:=by rw[bne_eq_false_iff_eq,I]
 have t2:(V != S)=false:=by rw[bne_eq_false_iff_eq];exact I
 have d:=M.out;rw[aA (fun k=>k I),bJs (by rw[HL.out,<-a5.out];exact HK.out)] at d;have M:=hid d;clear d I a0;go_wp2_with fail
 go_loopg [10,11,12] H (fun g b3 _s11 _s12 wr=>∃k i:Nat,k<=H/\g=H-k/\Hid (i=A+k)/\i<=161000/\b3=.int .i64 (i:Int)/\Hid (dG (seg s.data.toList A k)=0)/\wr=w2)
 case atStart=>exact⟨0,A,aO _,rfl,hid rfl,by omega,rfl,hid (by rw[aEf];rfl),rfl⟩
 case round=>
  obtain⟨k,i,hk,hg,HI,c1,rfl,HV,rfl⟩:=hrel;have HG:=hid hg;clear hg;have hi:=HI.out;have b0:=a9.out;have b1:=a5.out;obtain⟨r,O⟩:∃r,r=i%8:=⟨_,rfl⟩;have m8:(i:Int).tmod 8=(r:Int):=by rw[Int.tmod_eq_emod_of_nonneg (by omega)];omega
  by_cases b4:k<H
  ·have t3:((r:Int) != 0)=true:=by rw[bne_iff_ne];omega
   have b5:=HK.out;have a1:=fun W=>sV s (i:Int) 1 W (by omega) (by decide) (by omega) (by omega)
   have a2:=bJr (s:=s.data.toList) (a:=A) (k:=k) (by rw[HL.out];omega);rw[HV.out,<-hi] at a2;obtain⟨E2,b2⟩:∃E2,E2=aP s.size (i:Int) 1:=⟨_,rfl⟩;obtain⟨b,hb⟩:∃b,b=aK s.data.toList (i:Int) 1:=⟨_,rfl⟩;rw[<-hb,<-b2] at a1;rw[<-hb] at a2;have HS:=hid a2;obtain⟨j,hj⟩:∃j,j=i+1:=⟨_,rfl⟩;have m9:(i:Int)+1=(j:Int):=by omega
   have c2:j<=161000:=by omega
   have HJ:=hid (show j=A+(k+1) by omega);clear hi b0 b1 O b5 a2 hb b2 hj;go_wp2_with fail;refine(a1 _).mono ?_;rintro e w3 ⟨rfl,rfl⟩
   by_cases U:b=0
   rotate_left
   ·have t4:((b:Int) != 0)=true:=by rw[bne_iff_ne];exact fun q=>U (XM.1 q)
    have t5:(b != 0)=true:=by rw[bne_iff_ne];exact U
    have J:=hid (show kS s.data.toList (a:Int) (iM l)=(0,3) by
     rw[M.out,aB (fun q=>by
      have:=bJq (k:=k+1) b4 q;rw[HS.out] at this;omega)])
    clear U a1;go_wp2_with fail
    go_ret2
    exact⟨by rw[J.out];rfl,rfl⟩
   have b6:=hid (show dG (seg s.data.toList A (k+1))=0 by rw[HS.out,U]);subst U;clear a1;go_wp2_with fail;have hg:=HG.out
   go_roundg (H-(k+1))
   case measure=>omega
   case rel=>exact⟨k+1,j,by omega,rfl,HJ,by omega,by go_num,b6,rfl⟩
  ·obtain rfl:k=H:=by omega
   obtain rfl:r=0:=by omega
   have J:=hid (show kS s.data.toList (a:Int) (iM l)=((F:Int),0) by rw[M.out,aA (fun q=>q HV.out)]);clear hi b0 b1 O;go_wp2_with fail
   go_ret2
   exact⟨by rw[J.out];rfl,rfl⟩
theorem bJu:(pG.info? 94).map (·.size)=some 3:=by kernel_rfl
theorem bpS {d:Func} {Q:Ending->World->Prop} {W:World} {a:Act} {z:Nat} {e A D u:Value} (F:d.results=#[.cell 4 94,.tmp 5]) (G:Arr W z 94 [e,A,D]) (H:a.tmps.getD 4 undef=.pointer (some ⟨z,0,none⟩)) (I:a.tmps.getD 5 undef=u) (J:a.defers=[])
  (h:Q (.returned (.tuple #[.agg #[e,A,D],u])) W):bodyPost pG d Q .ret a W:=by
 refine bodyPost_ret (uS F _ _ z _ _ (0,0) _ H G underlying94 rfl bJu) J ?_;rw[I];exact h
theorem bIx {w W:World} {z B:Nat} {D F G:Value} (H:Arr W z 94 [D,F,G]) (I:Below B w W) (d:B<=z) (e h A:Value):
  Arr (((W.setCell ⟨z,0,none⟩ e).setCell ⟨z,1,none⟩ h).setCell ⟨z,2,none⟩ A) z 94 [e,h,A]/\Below B w (((W.setCell ⟨z,0,none⟩ e).setCell ⟨z,1,none⟩ h).setCell ⟨z,2,none⟩ A):=
 ⟨((H.set 0 _).set 1 _).set 2 _,((I.setCell (p:=⟨z,0,none⟩) d _).setCell (p:=⟨z,1,none⟩) d _).setCell (p:=⟨z,2,none⟩) d _⟩
theorem OwR.box {w w':World} {B b e k:Nat} {v:Value} {l:lC} (h:OwR w B e k v l) (d:w.grownBy w' (some b)) (D:b<B):OwR w' B e k v l:=
 h.kept d (by
  cases A:v.ownBlock with
  |none=>exact .inl rfl
  |some k=>exact .inr (fun q=>by injection q with q;have:=(h.lt k A).1;omega))
def bIz (w w':World) (F:Int) (D:List Prt×Int×Int) (e:Ending):Prop:=
 ∃(d:Option Addr) (h A:Nat) (r z:Int),e=.returned (.tuple #[.agg #[.slice d h A,.int .i64 r,.int .i64 z],.int .i64 D.2.2])/\Below w.heap.size w w'/\
  (D.2.2=0->OwR w' w.heap.size 59 4 (.slice d h A) (D.1.map oK)/\r=F/\z=D.2.1)
theorem bIt {w w':World} {F E:Int} {D:List Prt×Int×Int} {d:Option Addr} {e A:Nat} {r z:Int} (h:D.2.2=E) (G:E≠0) (H:Below w.heap.size w w'):bIz w w' F D (.returned (.tuple #[.agg #[.slice d e A,.int .i64 r,.int .i64 z],.int .i64 E])):=
 ⟨d,e,A,r,z,by rw[h],H,fun q=>absurd (h.symm.trans q) G⟩
theorem bJv {s:List UInt8} {k:Nat} {r E:Int} (h:fX s k=(r,E)) (d:E≠0):(cU s ((8*k:Nat):Int)).2.2=E:=by
 have e:((((8*k:Nat):Int))/8).toNat=k:=by omega
 unfold cU;rw[e,h];simp[d]
theorem bJw {s:List UInt8} {k:Nat} {R:Int} (h:fX s k=(R,0)):cU s ((8*k:Nat):Int)=eE s R (8*s.length+1) (((8*k:Nat):Int)+32) []:=by
 have e:((((8*k:Nat):Int))/8).toNat=k:=by omega
 unfold cU;rw[e,h];simp
theorem bJx {s:List UInt8} {R n d:Nat} {P:List Prt×Int×Int} (D:s.length=n) (e:P=eE s (R:Int) (8*n+1) (d:Int) []) (h:40<=R/\R<=360) (F:d<=8*n) (G:32<=d):StQ s (R:Int) P (8*n+1) 0 [] d:=by
 obtain⟨g,A⟩:∃g,g=8*n+1:=⟨_,rfl⟩;rw[<-A] at e ⊢;unfold StQ;refine .inl ⟨rfl,e,?_,?_,?_,?_,?_⟩
 ·omega
 ·omega
 ·omega
 ·omega
 ·rw[List.length_nil];omega
theorem bJy (s:ByteArray) (k:Nat) (w:World) (hs:s.size<=20000) (hk:k<=s.size):
  Calls pG 68 #[.string s,.int .i64 ((8*k:Nat):Int)] w fun e w'=>bIz w w' (fX s.data.toList k).1 (cU s.data.toList ((8*k:Nat):Int)) e:=by
 have HL:=hid (show s.data.toList.length=s.size by simp);have b7:=fun(r E:Int)=>bJv (s:=s.data.toList) (k:=k) (r:=r) (E:=E)
 have a7:=fun(R:Int)=>bJw (s:=s.data.toList) (k:=k) (R:=R)
 rw[HL.out] at a7;obtain⟨A,hA⟩:∃A,A=8*k:=⟨_,rfl⟩;rw[<-hA] at b7 a7 ⊢;obtain⟨Y,b8⟩:∃Y,Y=A+32:=⟨_,rfl⟩;obtain⟨L,b9⟩:∃L,L=8*s.size:=⟨_,rfl⟩;obtain⟨k4,c0⟩:∃k4,k4=k+4:=⟨_,rfl⟩;have m1:(A:Int)+32=(Y:Int):=by omega
 have m2:8*(s.size:Int)=(L:Int):=by omega
 have m3:(A:Int).tdiv 8=(k:Int):=by rw[IK (by omega)];omega
 have m4:(k:Int)+4=(k4:Int):=by omega
 rw[m1] at a7;have c2:=hid b7;have d6:=hid a7;clear b7 a7;have l1:A<=160000:=by omega
 have F:=Arr.new w 94 [.slice none 0 0,.int .i64 0,.int .i64 0];have a3:Below w.heap.size w (w.alloc (.cells #[.slice none 0 0,.int .i64 0,.int .i64 0] 94)):=bD (aH _ _) _;have d7:(w.alloc (.cells #[.slice none 0 0,.int .i64 0,.int .i64 0] 94)).heap.size=w.heap.size+1:=by simp
 change Arr (w.alloc (.cells #[.slice none 0 0,.int .i64 0,.int .i64 0] 94)) _ _ _ at F
 by_cases l2:L<Y
 ·have hr:(cU s.data.toList (A:Int)).2.2=2:=c2.out 0 2 (by unfold fX;rw[aB (by rw[HL.out];omega)]) (by decide);have t1:decide ((Y:Int)>(L:Int))=true:=aG (by omega);have t2:decide ((L:Int)<(Y:Int))=true:=aG (by omega);have M:=hid hr;clear hr hA b8 b9 c0;have d0:=F.cell (i:=0) rfl;have d1:=F.cell (i:=1) rfl;have d2:=F.cell (i:=2) rfl;have f0:=F.free 0;have f1:=F.free 1;have f2:=F.free 2;go_enter func68,ntmps68;go_wp2_with fail;exact bpS rfl F rfl rfl rfl (bIt M.out (by decide) a3)
 have t1:decide ((Y:Int)>(L:Int))=false:=aE (by omega);have t2:decide ((L:Int)<(Y:Int))=false:=aE (by omega);obtain⟨T,hT⟩:∃T,T=s.extract k k4:=⟨_,rfl⟩;have q1:(k4:Int)<=(s.size:Int):=by omega
 have q2:(k:Int)<=(k4:Int):=by omega
 have l3:T.size=4:=by rw[hT,aL6];omega
 have g8:=hT.symm;obtain⟨U,hU⟩:∃U,U=T.extract 0 3:=⟨_,rfl⟩;have g9:=hU.symm;have hd:T.data.toList=(s.data.toList.drop k).take 4:=by rw[hT,iW,dP];congr 1;omega
 have h3:3<T.size:=by omega
 have e3:=fW T 3 h3;have a0:(s.data.toList.getD (k+3) 0).toNat=T[3].toNat:=by
  rw[hd,List.getElem?_take,aB (by decide),List.getElem?_drop] at e3;rw[List.getD_eq_getElem?_getD,e3];rfl
 have d8:(s.data.toList.drop k).take 3=U.toList:=by
  rw[Lib.toList_data,hU,iW,dP,hd,List.drop_zero,XS,show min (3-0) 4=3 from rfl]
 have hr:fX s.data.toList k=if U.toList≠[80,77,107]\/T[3].toNat<49\/57<T[3].toNat then((0:Int),(3:Int)) else((40:Int)*((T[3].toNat:Int)-48),(0:Int)):=by
  unfold fX;rw[aA (by rw[HL.out];omega),a0,d8]
 have d9:=T[3].toNat_lt;have HK:=hid (tK hA (tK b8 (tK b9 c0)));clear hT hU hA b8 b9 c0 hd e3 a0 d8;have e4:=hid hr;have hf:=fun(q:U.toList≠[80,77,107]\/T[3].toNat<49\/57<T[3].toNat)=>c2.out 0 3 (e4.out.trans (aB q)) (by decide)
 by_cases hp:U.toList=[80,77,107]
 rotate_left
 ·have M:=hid (hf (.inl hp));clear hf hr d9;have d0:=F.cell (i:=0) rfl;have d1:=F.cell (i:=1) rfl;have d2:=F.cell (i:=2) rfl;have f0:=F.free 0;have f1:=F.free 1;have f2:=F.free 2;go_enter func68,ntmps68;go_wp2_with fail;exact bpS rfl F rfl rfl rfl (bIt M.out (by decide) a3)
 by_cases b0:T[3].toNat<49
 ·have u1:decide ((T[3].toNat:Int)<49)=true:=aG (by omega);have M:=hid (hf (.inr (.inl b0)));clear hf hr b0;have d0:=F.cell (i:=0) rfl;have d1:=F.cell (i:=1) rfl;have d2:=F.cell (i:=2) rfl;have f0:=F.free 0;have f1:=F.free 1;have f2:=F.free 2;go_enter func68,ntmps68;go_wp2_with fail;exact bpS rfl F rfl rfl rfl (bIt M.out (by decide) a3)
 have u1:decide ((T[3].toNat:Int)<49)=false:=aE (by omega)
 by_cases c3:57<T[3].toNat
 ·have u2:decide ((T[3].toNat:Int)>57)=true:=aG (by omega);have u3:decide (57<(T[3].toNat:Int))=true:=aG (by omega);have M:=hid (hf (.inr (.inr c3)));clear hf hr b0 c3;have d0:=F.cell (i:=0) rfl;have d1:=F.cell (i:=1) rfl;have d2:=F.cell (i:=2) rfl;have f0:=F.free 0;have f1:=F.free 1;have f2:=F.free 2;go_enter func68,ntmps68;go_wp2_with fail;exact bpS rfl F rfl rfl rfl (bIt M.out (by decide) a3)
 rw[aA (by rintro(q|q|q)<;>first|exact q hp|omega)] at hr;have u2:decide ((T[3].toNat:Int)>57)=false:=aE (by omega);have u3:decide (57<(T[3].toNat:Int))=false:=aE (by omega);have i0:Y<=160100/\Y<=8*s.size/\32<=Y:=by
  obtain⟨-,x2,x3,-⟩:=HK.out;omega
 obtain⟨l4,e5,e6⟩:=i0;obtain⟨d,R,n1,n2,n3,e7,n4,O,n6⟩:=aY9 T[3].toNat (by omega) (by omega);have hR:(fX s.data.toList k)=((R:Int),0):=by rw[hr,n6]
 have hD:=d6.out (R:Int) hR;have i1:40<=R/\R<=360:=by clear n1 n2 n3 e7 n4 O;omega
 have i2:=hid (show(fX s.data.toList k).1=(R:Int) by rw[hR]);obtain⟨D,G⟩:∃D,D=cU s.data.toList (A:Int):=⟨_,rfl⟩;have hD:=G.trans hD;have HQ:=hid (bJx HL.out hD i1 e5 e6);rw[<-G,i2.out];clear hr hR hD b0 c3 n6 G hf e4 c2 d6;clear e7;go_enter func68,ntmps68;go_wp2_with fail;have h:Arr ((w.alloc (.cells #[.slice none 0 0,.int .i64 0,.int .i64 0] 94)).alloc (.cells #[.slice none 0 0,.int .i64 (R:Int),.int .i64 0] 94)) w.heap.size 94 [.slice none 0 0,.int .i64 0,.int .i64 0]:=F.alloc _
 have J:=Arr.new (w.alloc (.cells #[.slice none 0 0,.int .i64 0,.int .i64 0] 94)) 94 [.slice none 0 0,.int .i64 (R:Int),.int .i64 0];change Arr ((w.alloc (.cells #[.slice none 0 0,.int .i64 0,.int .i64 0] 94)).alloc (.cells #[.slice none 0 0,.int .i64 (R:Int),.int .i64 0] 94)) _ _ _ at J;have e8:=a3.alloc (by omega) (.cells #[.slice none 0 0,.int .i64 (R:Int),.int .i64 0] 94);have i3:((w.alloc (.cells #[.slice none 0 0,.int .i64 0,.int .i64 0] 94)).alloc (.cells #[.slice none 0 0,.int .i64 (R:Int),.int .i64 0] 94)).heap.size=w.heap.size+2:=by simp
 rw[d7] at J;generalize (w.alloc (.cells #[.slice none 0 0,.int .i64 0,.int .i64 0] 94)).alloc (.cells #[.slice none 0 0,.int .i64 (R:Int),.int .i64 0] 94)=w1 at*
 clear n1 n2 n3 n4 O u1 u2 u3 hp d9 g8 g9 t1 t2 q1 q2 m1 m2 m3 m4 F a3 d7 e5 e6
 go_loopg [8,9,10,11,12,13,14,15] (8*s.size+1) (fun g s8 s9 _s10 _s11 _s12 _s13 _s14 _s15 wr=>∃(acc:List Prt) (a:Nat) (v:Value),s9=.int .i64 (a:Int)/\Arr wr (w.heap.size+1) 94 [v,.int .i64 (R:Int),.int .i64 0]/\Arr wr w.heap.size 94 [.slice none 0 0,.int .i64 0,.int .i64 0]/\OwR wr (w.heap.size+2) 59 4 v (acc.map oK)/\OwS wr (w.heap.size+2) s8 (pB acc)/\w.heap.size+2<=wr.heap.size/\Below w.heap.size w wr/\Hid (StQ s.data.toList (R:Int) D g 0 acc a))
 case atStart=>exact⟨[],Y,.slice none 0 0,rfl,J,h,OwR.nil _ _ _ _,Ow.nil _ _ _,by omega,e8,HQ⟩
 case round=>
  clear J h HQ i3 e8;obtain⟨acc,a,v,rfl,J,h,a8,b1,l5,a1,HQ⟩:=hrel;rcases HQ.out with⟨-,b2,-,-,i4,i5,i6⟩|⟨q,-⟩
  rotate_left
  ·exact absurd rfl q
  rw[HL.out] at i4 i5 i6;obtain⟨f,rfl⟩:∃f,gk=f+1:=⟨gk-1,by omega⟩;rw[bCu,HL.out] at b2;have hg:=fun X=>sV s (a:Int) 48 X (by omega) (by decide) (by omega) (by omega)
  obtain⟨E1,e9⟩:∃E1,E1=aP s.size (a:Int) 48:=⟨_,rfl⟩;obtain⟨V,hV⟩:∃V,V=aK s.data.toList (a:Int) 48:=⟨_,rfl⟩;rw[<-e9,<-hV] at hg b2;have a4:=hid b2;have l6:a<=160000:=by omega
  obtain⟨va,vc,hv,-⟩:=(OwR.rd a8).open (aI5 acc) (by decide);obtain⟨vn,f3⟩:∃vn,vn=(acc.map oK).length:=⟨_,rfl⟩;rw[<-f3] at hv;subst hv;clear f3 e9 hV b2 HQ;go_wp2_with fail;refine(hg _).mono ?_;rintro e w2 ⟨rfl,rfl⟩
  by_cases h1:E1=0
  rotate_left
  ·have t1:(E1 != 0)=true:=by rw[bne_iff_ne];exact h1
   have M:=hid (show D.2.2=E1 by rw[a4.out,aB h1]);have d0:=h.cell (i:=0) rfl;have d1:=h.cell (i:=1) rfl;have d2:=h.cell (i:=2) rfl;have f0:=h.free 0;have f1:=h.free 1;have f2:=h.free 2;clear a4 hg;go_wp2_with fail;obtain⟨z0,z1⟩:=bIx h a1 (aD _) (.slice none 0 0) (.int .i64 0) (.int .i64 0);exact bpS rfl z0 rfl rfl rfl (bIt M.out h1 z1)
  subst h1;have G:=a4.out;rw[aA (by decide)] at G
  by_cases h2:V=25779555029136
  ·rw[aB h2] at G;subst h2;have c4:=bJt s a u8 (pB acc) w2 b1.rd hs (by omega);obtain⟨Q1,f4⟩:∃Q1,Q1=(kS s.data.toList (a:Int) (iM (pB acc))).1:=⟨_,rfl⟩;obtain⟨Q2,f5⟩:∃Q2,Q2=(kS s.data.toList (a:Int) (iM (pB acc))).2:=⟨_,rfl⟩;rw[<-f4,<-f5] at c4 G;have HX:=hid G;have d0:=h.cell (i:=0) rfl;have d1:=h.cell (i:=1) rfl;have d2:=h.cell (i:=2) rfl;have f0:=h.free 0;have f1:=h.free 1;have f2:=h.free 2;have e0:=J.cell (i:=0) rfl;have e1:=J.cell (i:=1) rfl;have e2:=J.cell (i:=2) rfl;have e3:=J.free 2;clear G f4 f5 a4 hg;go_wp2_with fail;refine c4.mono ?_;rintro e I ⟨rfl,rfl⟩
   clear c4;go_wp2_with fail;have i7:Arr (I.setCell ⟨w.heap.size+1,2,none⟩ (.int .i64 Q1)) w.heap.size 94 [.slice none 0 0,.int .i64 0,.int .i64 0]:=h.other _ (by simp) _;have i8:=a1.setCell (p:=⟨w.heap.size+1,2,none⟩) (tJ _) (.int .i64 Q1);have i9:=OwR.box a8 (gbS I (w.heap.size+1) 2 (.int .i64 Q1)) (by omega);generalize I.setCell ⟨w.heap.size+1,2,none⟩ (.int .i64 Q1)=w4 at*
   obtain⟨z0,z1⟩:=bIx i7 i8 (aD _) (.slice va vn vc) (.int .i64 (R:Int)) (.int .i64 Q1);have j0:=OwR.box (OwR.box (OwR.box i9 (gbS w4 w.heap.size 0 (.slice va vn vc)) (by omega)) (gbS _ w.heap.size 1 (.int .i64 (R:Int))) (by omega)) (gbS _ w.heap.size 2 (.int .i64 Q1)) (by omega);exact bpS rfl z0 rfl rfl rfl ⟨_,_,_,_,_,by rw[HX.out];rfl,z1,fun _=>⟨by rw[HX.out];exact OwR.base j0 (by omega),rfl,by rw[HX.out]⟩⟩
  have u1:((V:Int)==25779555029136)=false:=by rw[cB];omega
  have j1:(V==25779555029136)=false:=by rw[cB];exact h2
  rw[aA h2] at G
  by_cases h3:V=54156738319193
  rotate_left
  ·have u2:((V:Int) != 54156738319193)=true:=by rw[bne_iff_ne];omega
   have l7:(V != 54156738319193)=true:=by rw[bne_iff_ne];exact h3
   have M:=hid (show D.2.2=3 by rw[G,aB h3]);have d0:=h.cell (i:=0) rfl;have d1:=h.cell (i:=1) rfl;have d2:=h.cell (i:=2) rfl;have f0:=h.free 0;have f1:=h.free 1;have f2:=h.free 2;clear a4 hg G h2 h3;go_wp2_with fail;obtain⟨z0,z1⟩:=bIx h a1 (aD _) (.slice none 0 0) (.int .i64 0) (.int .i64 0);exact bpS rfl z0 rfl rfl rfl (bIt M.out (by decide) z1)
  rw[aA (fun z=>z h3)] at G;subst h3;have a2:=bG4 s (a:Int) (R:Int) w2 hs (by omega) (by omega) (by omega) (by omega);unfold FZ at a2;have b3:=CD (s:=s.data.toList) (at':=(a:Int)) (room:=(R:Int));obtain⟨H,D2,D3,D4,f6⟩:∃H D2 D3 D4,cO s.data.toList (a:Int) (R:Int)=(H,D2,D3,D4):=⟨_,_,_,_,rfl⟩;rw[f6] at a2 G b3;unfold CP at a2;simp only at a2 G b3;obtain⟨A',c6⟩:∃A':Int,A'=if D4=0 then(a:Int) else 0:=⟨_,rfl⟩;rw[<-c6] at a2;have c7:=hid c6;have b4:=hid G;have c8:=hid b3;have c1:=J.cell (i:=1) rfl;clear c6 a4 u1 j1 h2 f6 G b3 hg;go_wp2_with fail;refine a2.mono ?_
  rintro e I ⟨rfl,a0⟩;have J:Arr (I.alloc (.cells #[.string H,.int .u32 D2,.int .i64 A',.int .i64 D3] 59)) _ _ _:=(J.below a0 J.lt).alloc _;have h:Arr (I.alloc (.cells #[.string H,.int .u32 D2,.int .i64 A',.int .i64 D3] 59)) _ _ _:=(h.below a0 h.lt).alloc _;have c9:=OwR.below a8 a0 (aD _);have j2:(mM va vn vc).ownBlock=none\/(mM va vn vc).ownBlock≠some I.heap.size:=by
   cases hq:(mM va vn vc).ownBlock with
   |none=>exact .inl rfl
   |some g=>exact .inr (fun q=>by injection q with q;have:=(OwR.lt c9 g hq).2;omega)
  have a8:OwR (I.alloc (.cells #[.string H,.int .u32 D2,.int .i64 A',.int .i64 D3] 59)) _ _ _ _ _:=OwR.alloc c9 _;have b1:OwS (I.alloc (.cells #[.string H,.int .u32 D2,.int .i64 A',.int .i64 D3] 59)) _ _ _:=Ow.alloc (Ow.below b1 a0 (aD _)) _;have l8:=a0.size;have a6:=Arr.new I 59 [.string H,.int .u32 D2,.int .i64 A',.int .i64 D3];change Arr (I.alloc (.cells #[.string H,.int .u32 D2,.int .i64 A',.int .i64 D3] 59)) _ _ _ at a6;have a1:=(a1.trans (a0.mono (by omega))).alloc (by omega) (.cells #[.string H,.int .u32 D2,.int .i64 A',.int .i64 D3] 59)
  have l9:(I.alloc (.cells #[.string H,.int .u32 D2,.int .i64 A',.int .i64 D3] 59)).heap.size=I.heap.size+1:=by simp
  have m0:w.heap.size+2<=I.heap.size:=by omega
  clear c9 c1 a2
  by_cases h4:D4=0
  rotate_left
  ·have t1:(D4 != 0)=true:=by rw[bne_iff_ne];exact h4
   have M:=hid (show D.2.2=D4 by rw[b4.out,aB h4]);have d0:=h.cell (i:=0) rfl;have d1:=h.cell (i:=1) rfl;have d2:=h.cell (i:=2) rfl;have f0:=h.free 0;have f1:=h.free 1;have f2:=h.free 2;clear c8 b4 c7;go_wp2_with fail;obtain⟨z0,z1⟩:=bIx h a1 (aD _) (.slice none 0 0) (.int .i64 0) (.int .i64 0);exact bpS rfl z0 rfl rfl rfl (bIt M.out h4 z1)
  subst h4;obtain⟨-,-,-,-,-,k6,k7,k8,-⟩:=c8.out rfl;rw[HL.out] at k8;obtain⟨Z,rfl⟩:∃Z:Nat,D3=(Z:Int):=⟨D3.toNat,by omega⟩;have b5:=(cH H.data.toList).isLt;obtain⟨y,hy⟩:∃y,y=(cH H.data.toList).toNat:=⟨_,rfl⟩;rw[<-hy] at k6 b5;subst k6;have b5:y<4294967296:=b5;have f7:=c7.out;rw[aB rfl] at f7;subst f7;have G:=b4.out;rw[aA (fun q=>q rfl)] at G;obtain⟨p,hp⟩:∃p:Prt,p=⟨H,(y:Int),(a:Int),(Z:Int),(R:Int)⟩:=⟨_,rfl⟩;rw[<-hp] at G;have HP:=hid G;have m5:Z<=1000000:=by omega
  have m6:a+96<Z:=by omega
  have m7:Z<=8*s.size:=by omega
  have f8:oK p=[.string H,.int .u32 (y:Int),.int .i64 (a:Int),.int .i64 (Z:Int)]:=by rw[hp];rfl
  have d3:=hid f8;have j3:=hid (show pB (acc++[p])=pB acc++[pZ 32 y] by
   unfold pB;rw[dY,List.map_cons,List.map_nil,hp,BitVec.ofInt_natCast])
  have m8:(acc.map oK).length<=200000:=by rw[aS];omega
  have m9:(pB acc).length<=200000:=by unfold pB;rw[aS];omega
  have j4:=hid (fun W=>show(World.alloc W (.cells #[.int .u32 (y:Int)] 38)).cell? ⟨W.heap.size,0,none⟩=some (.int .u32 ((pZ 32 y).toNat:Int)) by rw[bCs b5];exact bX _ _ _);clear G b4 c8 c7 hy k7 k8 hp f8;have e0:=J.cell (i:=0) rfl;have g0:=a6.cell (i:=0) rfl;have g1:=a6.cell (i:=1) rfl;have g2:=a6.cell (i:=2) rfl;have g3:=a6.cell (i:=3) rfl;have hN:=Arr.new (I.alloc (.cells #[.string H,.int .u32 (y:Int),.int .i64 (a:Int),.int .i64 (Z:Int)] 59)) 59 (oK p);rw[d3.out,fP] at hN
  change Arr ((I.alloc (.cells #[.string H,.int .u32 (y:Int),.int .i64 (a:Int),.int .i64 (Z:Int)] 59)).alloc (.cells #[.string H,.int .u32 (y:Int),.int .i64 (a:Int),.int .i64 (Z:Int)] 59)) _ _ _ at hN;have b6:=OwR.alloc a8 (.cells #[.string H,.int .u32 (y:Int),.int .i64 (a:Int),.int .i64 (Z:Int)] 59);have j5:some I.heap.size≠(mM va vn vc).ownBlock:=by
   rcases j2 with q|q
   ·rw[q];exact fun z=>by cases z
   ·exact fun z=>q z.symm
  go_wp2_with (at_builtin;first
   |(refine bDi bC2 rfl _ _ rfl (w.heap.size+2) _ _ rfl b6 _ (oK p) rfl (by rw[d3.out];exact hN) (by rw[d3.out];rfl) (fun u hu=>(aI5 [p] _ (by simp)).2 u hu) ?_ ?_ ?_;(omega);(simp;omega);intro v5 w5 p1 p2 p3;(obtain⟨a5,c5,f9,-⟩:=(OwR.rd p1).open (by intro q hq;rcases dK.1 hq with hq|hq;(exact aI5 acc _ hq);(exact aI5 [p] _ (by simpa using hq))) (by decide:1<=4));(obtain⟨O,g4⟩:∃O,O=(acc.map oK++[oK p]).length:=⟨_,rfl⟩);(rw[<-g4] at f9);subst f9;clear g4;(have d4:=(J.alloc (.cells #[.string H,.int .u32 (y:Int),.int .i64 (a:Int),.int .i64 (Z:Int)] 59)).otherRow b6 p3 (by decide));(have j6:=(h.alloc (.cells #[.string H,.int .u32 (y:Int),.int .i64 (a:Int),.int .i64 (Z:Int)] 59)).otherRow b6 p3 (by decide));(have j7:=(a6.alloc (.cells #[.string H,.int .u32 (y:Int),.int .i64 (a:Int),.int .i64 (Z:Int)] 59)).grown p3 (j5));(have j8:OwS w5 (w.heap.size+2) u8 (pB acc):=MY (Ow.alloc b1 _) b6 p3 (by decide));(have d0:=d4.cell (i:=0) rfl);(have f0:=d4.free 0);(have d5:Arr (w5.setCell ⟨w.heap.size+1,0,none⟩ (.slice a5 O c5)) I.heap.size 59 _:=j7.other _ (by show w.heap.size+1≠I.heap.size;omega) _);(have x1:=d5.cell (i:=1) rfl);(have x3:=d5.cell (i:=3) rfl);(have a9:=Ow.box j8 (gbS w5 (w.heap.size+1) 0 (.slice a5 O c5)) (by omega));(have j9:=OwR.box p1 (gbS w5 (w.heap.size+1) 0 (.slice a5 O c5)) (by omega));(have k0:=d4.set 0 (.slice a5 O c5));(have k1:Arr (w5.setCell ⟨w.heap.size+1,0,none⟩ (.slice a5 O c5)) w.heap.size 94 _:=j6.other _ (by simp) _);(have g5:=((a1.alloc (by omega) (.cells #[.string H,.int .u32 (y:Int),.int .i64 (a:Int),.int .i64 (Z:Int)] 59)).trans (p2.mono (by omega))).setCell (p:=⟨w.heap.size+1,0,none⟩) (tJ _) (.slice a5 O c5));(have o0:=g5.size);(have g6:=p2.size);(have g7:=j4.out (w5.setCell ⟨w.heap.size+1,0,none⟩ (.slice a5 O c5)));(rw[World.size_setCell] at g7))
   |(refine aIn rfl _ _ rfl (w.heap.size+2) _ _ rfl (Ow.alloc a9 _) _ (pZ 32 y) rfl g7 ?_ ?_ ?_;(omega);(simp at g6 ⊢;omega);intro v6 w6 r1 r2 r3;(have k2:=(k0.alloc (.cells #[.int .u32 (y:Int)] 38)).otherRow (Ow.alloc a9 _) r3 (by decide));(have k3:=(k1.alloc (.cells #[.int .u32 (y:Int)] 38)).otherRow (Ow.alloc a9 _) r3 (by decide));(have k5:=(d5.alloc (.cells #[.int .u32 (y:Int)] 38)).otherRow (Ow.alloc a9 _) r3 (by decide));(have k9:OwR w6 (w.heap.size+2) 59 4 (.slice a5 O c5) _:=MY (OwR.alloc j9 _) (Ow.alloc a9 _) r3 (by decide));(have y3:=k5.cell (i:=3) rfl)))
  go_roundg f
  case measure=>omega
  case rel=>exact⟨acc++[p],Z,_,by go_num,k2,k3,by rw[dY];exact k9,by rw[j3.out];exact r1,by have h6:=r2.size;have h5:=g6;simp at h6 h5;omega,(g5.alloc (by omega) _).trans (r2.mono (by omega)),hid (.inl ⟨rfl,HP.out,by omega,by omega,by rw[HL.out];omega,by rw[HL.out];omega,by rw[HL.out,aL,fQ];omega⟩)⟩
structure PtE where
 a:Option Addr
 n:Nat
 c:Nat
 bl:List Prt
 r:Int
 z:Int
def PtE.v (x:PtE):Value:=.slice x.a x.n x.c
def ptC (x:PtE):List Value:=[.slice x.a x.n x.c,.int .i64 x.r,.int .i64 x.z]
def bIr (l:List PtE):List Prt:=(l.map PtE.bl).flatten
theorem bI0 (l:List PtE):oW 3 (l.map ptC):=fun q e=>by
 obtain⟨p,_,rfl⟩:=List.mem_map.1 e;exact⟨rfl,fun u d=>by unfold ptC at d;simp only[List.mem_cons,List.not_mem_nil,or_false] at d;rcases d with rfl|rfl|rfl<;>rfl⟩
theorem bJz:ElR pG 90 94 3 40 (.agg #[.slice none 0 0,.int .i64 0,.int .i64 0]):=ElR.mk' (by kernel_rfl) underlying90 rfl (by decide) (by decide)
theorem bI7 {s:List UInt8} {r:Int}:∀(f:Nat) (a:Int) (acc:List Prt),(∀p∈acc,p.r=r)->∀p∈(eE s r f a acc).1,p.r=r
 |0,_,_,h=>h
 |f+1,a,acc,h=>by
  have d:=fun z b=>bI7 (s:=s) (r:=r) f z (acc++[b])
  rw[bCu];split
  ·exact h
  split
  ·exact h
  split
  ·exact h
  split
  ·exact h
  ·exact d _ _ (fun p e=>by rcases dK.1 e with q|q;exact h p q;rw[cP.1 q])
theorem bJ0 (s:List UInt8) (k:Nat):∀p∈(cU s ((8*k:Nat):Int)).1,p.r=(fX s k).1:=by
 have e:((((8*k:Nat):Int))/8).toNat=k:=by omega
 unfold cU;rw[e];split
 ·intro p d;simp at d
 ·exact bI7 _ _ _ (by simp)
def PtQ (s:List UInt8) (g m:Nat) (l:List PtE):Prop:=
 cI s=gT s g (m:Int) (bIr l)/\m%8=0/\m<=8*s.length/\8*s.length+1<=g+m/\112*l.length<=m/\∀x∈l,∀p∈x.bl,p.r=x.r
theorem bJ1 {s:List UInt8} {f:Nat} {a:Int} {acc:List Prt} (h:cI s=gT s (f+1) a acc) (e:a<8*(s.length:Int)) (d:(cU s a).2.2≠0):(cI s).2=(cU s a).2.2:=by
 rw[h];unfold gT;rw[aA (by omega),aB d]
theorem bJ2 {s:List UInt8} {f:Nat} {a:Int} {acc:List Prt} (h:cI s=gT s (f+1) a acc) (d:8*(s.length:Int)<=a):cI s=(acc,0):=by
 rw[h];unfold gT;rw[aB d]
theorem bJ3 {s:List UInt8} (h:s≠[]):PtQ s (8*s.length+1) 0 []:=by
 refine⟨?_,rfl,aO _,by omega,aD _,by simp⟩;unfold cI;rw[aA h];rfl
theorem bJ4 {s:List UInt8} {f m:Nat} {l:List PtE} (h:PtQ s (f+1) m l) (e:m<8*s.length) (d:(cU s (m:Int)).2.2≠0):(cI s).2=(cU s (m:Int)).2.2:=bJ1 h.1 (by omega) d
theorem bJ5 {s:List UInt8} {f m:Nat} {l:List PtE} (h:PtQ s (f+1) m l) (d:¬m<8*s.length):cI s=(bIr l,0):=bJ2 h.1 (by omega)
theorem bJ6 {s:List UInt8} {f m k:Nat} {l:List PtE} {x:PtE} (h:PtQ s (f+1) m l) (U:m<8*s.length) (G:m=8*k) (e:(cU s (m:Int)).2.2=0) (A:x.bl=(cU s (m:Int)).1) (H:x.r=(fX s k).1) (I:x.z=(cU s (m:Int)).2.1):
  ∃z:Nat,x.z=(z:Int)/\m+112<=z/\z<=8*s.length/\PtQ s f z (l++[x]):=by
 obtain⟨J,V,Y,Z,h5,L⟩:=h;have D:=aVv J (by omega) e;have M:=EZ e;have O:=aVy (s:=s) (a:=(m:Int)) (by omega) e;have F:=bJ0 s k;rw[<-G] at F;rw[<-I] at D M O;refine⟨x.z.toNat,by omega,by omega,by omega,?_,by omega,by omega,by omega,by rw[aL,fQ];omega,?_⟩
 ·rw[D,show((x.z.toNat:Nat):Int)=x.z by omega,<-A]
  congr 1
  unfold bIr;simp
 ·intro y T p d;rcases dK.1 T with q|q
  ·exact L y q p d
  ·rw[cP.1 q] at d ⊢;rw[A] at d;rw[H];exact F p d
theorem bI8 (s:ByteArray) (w:World) (hs:s.size<=20000):
  Calls pG 47 #[.string s] w fun e w'=>∃(v:Value) (l:List PtE),e=.returned (.tuple #[v,.int .i64 (cI s.data.toList).2])/\OwR w' w.heap.size 94 3 v (l.map ptC)/\
   (∀x∈l,OwR w' w.heap.size 59 4 x.v (x.bl.map oK))/\Below w.heap.size w w'/\Hid (bIr l=eY s.data.toList/\(∀x∈l,∀p∈x.bl,p.r=x.r)/\l.length<=1500):=by
 have G:=hid (show s.data.toList.length=s.size by simp);obtain⟨V,a4⟩:∃V,V=(cI s.data.toList).2:=⟨_,rfl⟩;rw[<-a4];have a1:=hid a4;clear a4
 by_cases hz:s.size=0
 ·have a5:s.data.toList=[]:=List.length_eq_zero_iff.1 (by rw[G.out];exact hz);have t1:=EI a5;have I:=hid (show(cI s.data.toList).2=3 by rw[a5];rfl);have Y:=hid (show eY s.data.toList=[] by unfold eY;rw[I.out,aA (by decide)]);have Z:=hid (show(3:Int)=V by rw[a1.out,I.out]);clear a5;go_enter func47,ntmps47;go_wp2_with fail
  go_ret2
  exact⟨_,[],by rw[<-Z.out];rfl,OwR.nil _ _ _ _,by simp,aH _ _,hid ⟨by rw[Y.out];rfl,by simp,by simp⟩⟩
 have t1:=xK (s:=s) (by omega);have b5:s.data.toList≠[]:=fun q=>hz (by rw[<-G.out,q];rfl)
 have HQ:=hid (bJ3 b5);rw[G.out] at HQ;obtain⟨L,J⟩:∃L,L=8*s.size:=⟨_,rfl⟩;have m2:8*(s.size:Int)=(L:Int):=by omega
 have d5:IntKind.i64.wrap (8*(s.size:Int))=(L:Int):=by rw[m2];exact lE L (by omega)
 have b6:=hid J;clear b5 J;go_enter func47,ntmps47;go_wp2_with fail
 go_loopg [4,5,6,7] (8*s.size+1) (fun g s4 s5 _s6 _s7 wr=>∃(l:List PtE) (m:Nat),s5=.int .i64 (m:Int)/\OwR wr w.heap.size 94 3 s4 (l.map ptC)/\(∀x∈l,OwR wr w.heap.size 59 4 x.v (x.bl.map oK))/\Below w.heap.size w wr/\Hid (PtQ s.data.toList g m l))
 case atStart=>exact⟨[],0,rfl,OwR.nil _ _ _ _,by simp,aH _ _,HQ⟩
 case round=>
  obtain⟨l,m,rfl,ho,hx,a2,O⟩:=hrel;clear HQ;obtain⟨-,b7,a6,a7,a3,-⟩:=O.out;rw[G.out] at a6 a7;have a8:=a2.size;have J:=b6.out
  by_cases d6:m<L
  ·have t2:decide ((m:Int)<(L:Int))=true:=aG (by omega);obtain⟨k,hk⟩:∃k,m=8*k:=⟨m/8,by omega⟩;obtain⟨f,rfl⟩:∃f,gk=f+1:=⟨gk-1,by omega⟩;have T:=bJy s k wr hs (by omega);rw[<-hk] at T;have HK:=hid hk;obtain⟨D,hD⟩:∃D,D=cU s.data.toList (m:Int):=⟨_,rfl⟩;obtain⟨r0,a9⟩:∃r0,r0=(fX s.data.toList k).1:=⟨_,rfl⟩;rw[<-hD,<-a9] at T;have HD:=hid hD;have c5:=hid a9;obtain⟨E,hE⟩:∃E,E=D.2.2:=⟨_,rfl⟩;unfold bIz at T;rw[<-hE] at T;have Z:=hid hE;have HX:=hid hx;clear hk hD a9 hE b7 a6 a7 a3 hx J;go_wp2_with fail;refine T.mono ?_;rintro e U ⟨d,h,A,r,z,rfl,M,b0⟩;clear T
   by_cases h0:E=0
   rotate_left
   ·have t3:(E != 0)=true:=by rw[bne_iff_ne];exact h0
    have I:=hid (show(E:Int)=V by
     rw[a1.out,bJ4 O.out (by rw[G.out];omega) (by rw[<-HD.out,<-Z.out];exact h0),<-HD.out];exact Z.out)
    have Y:=hid (show eY s.data.toList=[] by unfold eY;rw[<-a1.out,<-I.out,aA h0]);clear b0;go_wp2_with fail
    go_ret2
    exact⟨_,[],by rw[<-I.out];rfl,OwR.nil _ _ _ _,by simp,(a2.trans (M.mono a8)).alloc (by have:=M.size;omega) _,hid ⟨by rw[Y.out];rfl,by simp,by simp⟩⟩
   subst h0;obtain⟨hv,hr,b8⟩:=b0 rfl;have J:=b6.out;obtain⟨x,H⟩:∃x:PtE,x=⟨d,h,A,D.1,r,z⟩:=⟨_,rfl⟩;obtain⟨F,b1,c6,c7,b9⟩:=bJ6 (x:=x) O.out (by rw[G.out];omega) HK.out (by rw[<-HD.out,<-Z.out]) (by rw[H,HD.out]) (by rw[H,<-c5.out];exact hr) (by rw[H,<-HD.out];exact b8);have c0:z=(F:Int):=by rw[H] at b1;exact b1
   rw[G.out] at c7;have c8:=hid b9;have a3:l.length<=1500:=by have:=O.out.2.2.2.2.1;omega
   have b2:ptC x=[.slice d h A,.int .i64 r,.int .i64 z]:=by rw[H];rfl
   have c1:x.bl=D.1:=by rw[H]
   have c2:x.v=.slice d h A:=by rw[H];rfl
   rw[c0] at b2 ⊢;have b3:=hid b2;have d7:=M.size;have c9:=OwR.alloc (OwR.below ho M (aD _)) (.cells #[.slice d h A,.int .i64 r,.int .i64 (F:Int)] 94);have d0:some U.heap.size≠u4.ownBlock:=by
    intro q;have:=(OwR.lt (OwR.below ho M (aD _)) _ q.symm).2;omega
   have a0:=Arr.new U 94 [.slice d h A,.int .i64 r,.int .i64 (F:Int)];change Arr (U.alloc (.cells #[.slice d h A,.int .i64 r,.int .i64 (F:Int)] 94)) _ _ _ at a0;have c3:=(a2.trans (M.mono a8)).alloc (by omega) (.cells #[.slice d h A,.int .i64 r,.int .i64 (F:Int)] 94);have hN:=Arr.new (U.alloc (.cells #[.slice d h A,.int .i64 r,.int .i64 (F:Int)] 94)) 94 (ptC x);rw[b3.out,fP] at hN;change Arr ((U.alloc (.cells #[.slice d h A,.int .i64 r,.int .i64 (F:Int)] 94)).alloc (.cells #[.slice d h A,.int .i64 r,.int .i64 (F:Int)] 94)) _ _ _ at hN
   have c4:=OwR.alloc c9 (.cells #[.slice d h A,.int .i64 r,.int .i64 (F:Int)] 94);have d1:=hid (show ∀y∈l++[x],OwR ((U.alloc (.cells #[.slice d h A,.int .i64 r,.int .i64 (F:Int)] 94)).alloc (.cells #[.slice d h A,.int .i64 r,.int .i64 (F:Int)] 94)) w.heap.size 59 4 y.v (y.bl.map oK) from fun y hy=>by
    refine OwR.alloc (OwR.alloc ?_ _) _;rcases dK.1 hy with q|q
    ·exact OwR.below (HX.out y q) M (aD _)
    ·rw[cP.1 q,c2,c1];exact OwR.base hv a8)
   have g0:=a0.cell (i:=0) rfl;have g1:=a0.cell (i:=1) rfl;have g2:=a0.cell (i:=2) rfl;have d8:(l.map ptC).length<=1500:=by rw[aS];exact a3
   clear b0 b8 b1 b9 H b2 c1 c2 c0 J hv hr c6;go_wp2_with (at_builtin;refine bDi bJz rfl _ _ rfl w.heap.size _ _ rfl c4 _ (ptC x) rfl (by rw[b3.out];exact hN) (by rw[b3.out];rfl) (fun u hu=>(bI0 [x] _ (by simp)).2 u hu) ?_ ?_ ?_;(omega);(simp;omega);intro v5 w5 p1 p2 p3;(have d2:=(a0.alloc (.cells #[.slice d h A,.int .i64 r,.int .i64 (F:Int)] 94)).grown p3 d0);(have x2:=d2.cell (i:=2) rfl);(have d3:=(c3.alloc (by have:=c3.size;exact this) (.cells #[.slice d h A,.int .i64 r,.int .i64 (F:Int)] 94)).trans p2))
   go_roundg f
   case measure=>omega
   case rel=>exact⟨l++[x],F,by go_num,by rw[dY];exact p1,fun y hy=>MY (d1.out y hy) c4 p3 (by decide),d3,c8⟩
  ·have t2:decide ((m:Int)<(L:Int))=false:=aE (by omega);obtain⟨f,rfl⟩:∃f,gk=f+1:=⟨gk-1,by omega⟩;have b4:=bJ5 O.out (by rw[G.out];omega);have I:=hid (show(0:Int)=V by rw[a1.out,b4]);have Y:=hid (show bIr l=eY s.data.toList by unfold eY;rw[b4,aB rfl]);have HX:=hid hx;have d4:l.length<=1500:=by omega
   clear b4 b7 a6 a7 a3 hx J;go_wp2_with fail
   go_ret2
   exact⟨_,l,by rw[<-I.out];rfl,ho,HX.out,a2,hid ⟨Y.out,O.out.2.2.2.2.2,d4⟩⟩
end Go.Proofs.YtfplbbphficcjaaGreatDoor

/-
  Texts put together (part 22): the walks and the plain laws on which the statement stands.
-/
import Derived.Sort.BigQuietIn
import Derived.Sort.LoopGhostIn
import Derived.Sort.QuietIn
import Derived.Sort.CutIn
import Derived.Test.YtfplbbphficcjaaGreatDoorZ11
import Derived.Test.YtfplbbphficcjaaGreatDoorZ13
import Derived.Test.YtfplbbphficcjaaGreatDoorZ16
import Derived.Test.YtfplbbphficcjaaGreatDoorZ18
set_option maxRecDepth 100000
set_option maxHeartbeats 12800000
set_option linter.unusedVariables false
set_option linter.unusedSimpArgs false
open Go.Proofs.Tryz
open Go.Proofs.Tryz renaming prog->pG
open Go.IntKind renaming i64->aJ,u64->eZ,wrap_u64->fC
open Go.Lib renaming byteCells->pU
open Go.RowKit.Below renaming refl->aH
open List renaming append_assoc->bU,getElem?_eq_getElem->aN,length_append->aL,length_take->aQ,take_add_one->cG,take_of_length_le->cD
open Nat renaming le_refl->aD,le_trans->aR,zero_le->aO
namespace Go.Proofs.YtfplbbphficcjaaGreatDoor
section
open Go.RowKit Go Go.Shelf
theorem bEf {s:List UInt8} {k:Nat} {b:UInt8} (h:s[k]? =some b):bP (s.take (k+1))=bP (s.take k)*256+b.toNat:=by grind [cG,bP]
theorem bEg (V b:Nat) (d:b<256):V*256|||b=V*256+b:=by
 have:=Nat.two_pow_add_eq_or_of_lt (i:=8) (b:=b) d V
 grind
theorem bEh (p:Nat) (s:ByteArray) (H:Bool) (m:Nat) (w:World) (d:Arr w p 100 [.string s,.bool H]) (hm:m<=8) (hs:m<=s.size) (hz:s.size<=1000000000):
  Calls pG 51 #[.pointer (some ⟨p,0,none⟩),.int .i64 (m:Int)] w fun e w'=>e=.returned (.int .i64 (aJ.wrap (bP (s.data.toList.take m):Int)))/\Arr w' p 100 [.string (mkS (s.data.toList.drop m)),.bool (H||decide (9223372036854775808<=bP (s.data.toList.take m)))]/\w.grownBy w' (some p):=by
 have A:s.data.toList.length=s.size:=rfl;obtain⟨l,I⟩:∃l,l=s.data.toList:=⟨_,rfl⟩;have O:∀k,(h:k<s.size)->l[k]? =some s[k]:=fun k h=>by
  rw[I,aN (by rw[A];exact h)];rfl
 have T:=iW s m s.size;rw[<-I] at A T ⊢;rw[cD (by rw[List.length_drop,A];omega)] at T;have HL:=hid A;have HS:=hid O;clear I A O;have c0:=d.cell (i:=0) rfl;have c1:=d.cell (i:=1) rfl;have f0:=d.free 0;have f1:=d.free 1;go_enter func51,ntmps51;go_wp2_with fail
 go_loopg [5,6,8] m (fun g s5 _s6 s8 wr=>∃(k:Nat) (V:Nat),k<=m/\g=m-k/\s8=.int .i64 (k:Int)/\s5=.int .u64 (V:Int)/\V=bP (l.take k)/\wr=w)
 case atStart=>exact⟨0,0,aO _,rfl,rfl,rfl,rfl,rfl⟩
 case round=>
  obtain⟨k,V,hk,J,rfl,rfl,D,rfl⟩:=hrel;have HG:=hid J;clear J
  by_cases a2:k<m
  ·have t1:decide ((k:Int)<(m:Int))=true:=aG (by omega);have a1:k<s.size:=by omega
   have Y:V<72057594037927936:=by
    have:=DD (s:=l.take k) (k:=7) (n:=72057594037927936) (by rw[aQ];omega) (by decide);omega
   have L:=bEf (HS.out k a1);rw[<-D] at L;have hb:=s[k].toNat_lt;obtain⟨U,F⟩:∃U,U=V*256:=⟨_,rfl⟩;obtain⟨Q,M⟩:∃Q,Q=U+s[k].toNat:=⟨_,rfl⟩;have e1:(V:Int)*256%18446744073709551616=(U:Int):=by omega
   have a3:eZ.wrap ((V:Int)*256)=(U:Int):=by rw[fC];omega
   have e2:bits .or .u64 (U:Int) (s[k].toNat:Int)=(Q:Int):=by rw[u64_or_nat _ _ (by omega) (by omega),F,bEg _ _ (by omega),M,F]
   have e3:(s[k].toNat:Int)%18446744073709551616=(s[k].toNat:Int):=by omega
   have a4:eZ.wrap (s[k].toNat:Int)=(s[k].toNat:Int):=by rw[fC];omega
   have HT:=hid (show Q=bP (l.take (k+1)) by rw[L,M,F]);clear L F M Y D;go_wp2_with fail;have J:=HG.out
   go_roundg (m-(k+1))
   case measure=>omega
   case rel=>exact⟨k+1,Q,by omega,rfl,by go_num,rfl,HT.out,rfl⟩
  ·have t1:decide ((k:Int)<(m:Int))=false:=aE (by omega);obtain rfl:k=m:=by omega
   have Y:V<18446744073709551616:=by
    have:=DD (s:=l.take k) (k:=8) (n:=18446744073709551616) (by rw[aQ];omega) (by decide);omega
   have Z:=hid D;clear D;have HW:=hid (show wrap64 (V:Int)=aJ.wrap (bP (l.take k):Int) by rw[<-Z.out];unfold wrap64;exact(IntKind.wrap_i64 _).symm);obtain⟨G,hG⟩:∃G,G=V/9223372036854775808:=⟨_,rfl⟩;have e1:(V:Int)/9223372036854775808=(G:Int):=by omega
   have a0:G=0\/G=1:=by omega
   have HD:=hid (show decide (9223372036854775808<=V)=((G:Int)==1) by
    rcases a0 with rfl|rfl
    ·exact aE (by omega)
    ·exact aG (by omega))
   have t2:decide ((k:Int)<=(s.size:Int))=true:=aG (by omega);clear hG a0
   cases H with
   |true=>
    go_wp2_with fail;go_ret;exact⟨eI HW.out,(d.set 0 _).set 1 _,gbT (gbS _ _ _ _) (gbS _ _ _ _)⟩
   |false=>
    go_wp2_with fail;go_ret;refine⟨eI HW.out,?_,gbT (gbS _ _ _ _) (gbS _ _ _ _)⟩;rw[<-Z.out,Bool.false_or,HD.out];exact(d.set 0 _).set 1 _
theorem MM {m:List Int} {j:Nat} {g:List Int} (h:(dA m)[j]? =some g):(∀x∈g,x∈m)/\g.length<=10:=by grind [kR,BY,dA]
theorem yA {m:List Int} {n wh:Nat} (d:m.length<=20000) (h:∀x∈m,0<=x/\x<(n:Int)):(mW m n wh).length=n/\(mW m n wh).sum<=20000/\∀x∈mW m n wh,0<=x/\x<=20000:=by
 obtain⟨e,A,D⟩:=BZ m n wh h m.length (aD _)
 grind [mW,xO]
theorem LOK.two {w:World} {x y:Value} {a b:List Int} (d:RdI w x a) (e:RdI w y b):LOK w [x,y] [a,b]:=(LOK.nil w |>.snoc d).snoc e
def aHd (w w':World) (m:List Int) (n:Nat) (e:Ending):Prop:=
 ∃v u,e=.returned (.tuple #[v,u,.int .i64 0])/\RdL w' v [eN m n 0,eN m n 1]/\OwI w' w.heap.size u (dS m n)/\Below w.heap.size w w'
theorem bAc (v:Value) (m:List Int) (n:Nat) (w:World) (M:RdI w v m) (i1:0<m.length) (F:m.length<=20000) (O:2<=n) (T:n<=258) (d:∀x∈m,0<=x/\x<(n:Int)):
  Calls pG 60 #[v,.int .i64 (n:Int)] w fun e w'=>aHd w w' m n e:=by
 have c2:=hid (xR (which:=0) O T d F);have c3:=hid (xR (which:=1) O T d F);have c4:=hid (wF (which:=0) O T d F).2;have c6:=hid (wF (which:=1) O T d F).2;have HX:=hid d;obtain⟨a,ca,rfl,i2,i3,hA⟩:=M.open;have t1:decide ((n:Int)<2)=false:=aE (by omega);have t2:decide ((n:Int)>258)=false:=aE (by omega);have t3:decide (258<(n:Int))=false:=aE (by omega);have t4:((m.length:Int)==0)=false:=by rw[cB];omega
 have t5:decide ((m.length:Int)>1048576)=false:=aE (by omega);have t6:decide (1048576<(m.length:Int))=false:=aE (by omega);have t7:(m.length==0)=false:=by rw[cB];omega
 have c7:=aFy _ m n w M d;have a8:=fun(wh:Nat) (hw:wh<=1) W h=>aYg (.slice a m.length ca) m n wh W h (by omega) (by omega) hw d
 have a9:=fun(wh:Nat) u W (h:RdI W u (mW m n wh))=>aYa u (mW m n wh) W h (by rw[(yA F d).1];exact O) (by rw[(yA F d).1];exact T) (yA F d).2.2 (yA F d).2.1
 have c8:=a8 0 (by decide);have c9:=a8 1 (by decide);have d0:=fun W h=>aYf (.slice a m.length ca) m W h (by omega)
 clear a8 hA d;go_enter func60,ntmps60;go_wp2_with fail;refine c7.mono ?_;rintro e w0 ⟨rfl,rfl⟩;go_wp2_with fail;refine(c8 _ M).mono ?_;rintro e w1 ⟨v1,rfl,d1,b0⟩;have d2:=M.below b0;go_wp2_with fail;refine(a9 0 v1 _ (OwI.rd d1)).mono ?_;rintro e w2 ⟨v2,rfl,d3,b1⟩;have b2:=d2.below b1;have b3:=aW b0 b1;have d4:=OwI.rd d3;have i4:w0.heap.size<=w2.heap.size:=b3.size;clear d2 d1 b0 b1 d3;go_wp2_with fail;refine(c9 _ b2).mono ?_;rintro e w3 ⟨v3,rfl,d5,a0⟩;have d6:=b2.below a0;have d7:=d4.below a0;have d8:=aW b3 a0;clear b2 d4 b3;go_wp2_with fail;refine(a9 1 v3 _ (OwI.rd d5)).mono ?_
 rintro e w4 ⟨v4,rfl,d9,a1⟩;have e0:=d6.below a1;have e1:=d7.below a1;have e2:=aW d8 a1;have e3:=OwI.rd d9;clear d6 d7 d8 d5 a0 d9 a1;go_wp2_with fail;refine(d0 _ e0).mono ?_;rintro e U ⟨v5,rfl,e4,I⟩;have a2:=e1.below I;have a3:=e3.below I;have e5:=aW e2 I;rw[show qX (mW m n 0)=eN m n 0 from rfl] at a2;rw[show qX (mW m n 1)=eN m n 1 from rfl] at a3;obtain⟨A,a4⟩:∃A,A=eN m n 0:=⟨_,rfl⟩;obtain⟨C,a6⟩:∃C,C=eN m n 1:=⟨_,rfl⟩;rw[<-a4] at a2 c2 c4;rw[<-a6] at a3 c3 c6;obtain⟨a5,c5,rfl,e6,g0,a7⟩:=e4.open;unfold maxLen at g0;rw[kR] at e6 a7;rw[kR]
 obtain⟨G,hG⟩:∃G,G=(m.length+9)/10:=⟨_,rfl⟩;rw[<-hG] at e6 a7 ⊢;have HA:=hid a4;have HC:=hid a6;have e7:=hid hG;have i5:G<=2001:=by omega
 have g1:=hid (fun j g (h:(dA m)[j]? =some g)=>MM h);have e8:=fun(g:List Int) u W (h:RdI W u g) (hv:RdI W v2 A) (h1:∀x∈g,x∈m) (h3:g.length<=10)=>aF1 v2 u A g W hv h c2.out (by rw[c4.out];exact fun x d=>HX.out x (h1 x d)) (by omega)
 have e9:=fun(g:List Int) u W (h:RdI W u g) (hv:RdI W v4 C) (h1:∀x∈g,x∈m) (h3:g.length<=10)=>aF1 v4 u C g W hv h c3.out (by rw[c6.out];exact fun x d=>HX.out x (h1 x d)) (by omega)
 have g2:=hid e8;have g3:=hid e9;have g4:=hid (show dS m n=(dA m).map (rO A C) by unfold dS;rw[a4,a6]);clear c7 c8 c9 a9 d0 M e0 e1 e3 e2 I e4 e8 e9 a4 a6 hG;go_wp2_with fail
 go_loopg [12,13,14,15,16,17] G (fun g g5 g6 _s14 _s15 _s16 _s17 wr=>∃(k:Nat) (u:Value),k<=G/\g=G-k/\u=g5/\g6=.int .i64 (k:Int)/\OwI wr U.heap.size u (((dA m).take k).map (rO A C))/\Below U.heap.size U wr)
 case atStart=>exact⟨0,_,aO _,rfl,rfl,rfl,OwI.nil _ _,aH _ _⟩
 case round=>
  obtain⟨k,u,hk,D,rfl,rfl,ho,H⟩:=hrel;have HG:=hid D;clear D;have i6:=H.size;have i7:(((dA m).take k).map (rO A C)).length<=3000:=by rw[List.length_map,aQ];omega
  by_cases g7:k<G
  ·have u1:decide ((k:Int)<(G:Int))=true:=aG (by omega);obtain⟨b5,o5,rfl,I,f0⟩:=a7 (by omega);obtain⟨g,D⟩:∃g,(dA m)[k]? =some g:=⟨_,aN (by rw[kR,<-e7.out];exact g7)⟩;obtain⟨x,f1,f2⟩:=f0 k g D;have c1:=(H.cell (p:=⟨b5,o5+k,none⟩) I).trans f1;have b4:=f2.below H;have f3:=a2.below H;obtain⟨q1,q2⟩:=g1.out k g D;have b6:=g2.out g x wr b4 f3 q1 q2;have HT:=hid (show((dA m).take (k+1)).map (rO A C)=((dA m).take k).map (rO A C)++[if qW C g<qW A g then 1 else 0] by rw[cG,D,List.map_append];rfl);have HQ:=hid q1
   obtain⟨V,f4⟩:∃V,V=qW A g:=⟨_,rfl⟩;obtain⟨Y,b7⟩:∃Y,Y=qW C g:=⟨_,rfl⟩;rw[<-f4] at b6 HT;rw[<-b7] at HT;have g8:=hid b7;obtain⟨ax,cx,rfl,_,_,_⟩:=f2.open;clear f0 D f1 a7 f4 b7;go_wp2_with fail;refine b6.mono ?_;rintro e w6 ⟨rfl,Z⟩;have b8:=aW H Z;have c1:=(Z.cell (p:=⟨b5,o5+k,none⟩) (by show b5<wr.heap.size;omega)).trans c1;have b9:=g3.out g _ w6 (b4.below Z) (a3.below b8) HQ.out q2;rw[<-g8.out] at b9;have f5:=OwI.below ho Z (aD _);have i8:=b8.size;clear b6 b4 f3 Z ho;go_wp2_with fail;refine b9.mono ?_;rintro e w7 ⟨rfl,J⟩;have c0:=aW b8 J
   have f6:=OwI.below f5 J (aD _);have f7:=c0.size;clear b9 J f5 c1
   by_cases L:Y<V
   ·have u2:decide (Y<V)=true:=aG L;rw[aB L] at HT;clear L;go_wp2_with (at_builtin;refine gK rfl _ _ rfl U.heap.size _ _ rfl (OwI.alloc f6 _) _ 1 rfl (bX _ _ _) ?_ ?_ ?_;(omega);(simp;omega);intro v8 w8 r1 r2 r3);have D:=HG.out
    go_roundg (G-(k+1))
    case measure=>omega
    case rel=>exact⟨k+1,_,by omega,rfl,rfl,by go_num,by rw[HT.out];exact r1,(c0.alloc f7 _).trans r2⟩
   ·have u2:decide (Y<V)=false:=aE L;rw[aA L] at HT;clear L;go_wp2_with (at_builtin;refine gK rfl _ _ rfl U.heap.size _ _ rfl (OwI.alloc f6 _) _ 0 rfl (bX _ _ _) ?_ ?_ ?_;(omega);(simp;omega);intro v8 w8 r1 r2 r3);have D:=HG.out
    go_roundg (G-(k+1))
    case measure=>omega
    case rel=>exact⟨k+1,_,by omega,rfl,rfl,by go_num,by rw[HT.out];exact r1,(c0.alloc f7 _).trans r2⟩
  ·have u1:decide ((k:Int)<(G:Int))=false:=aE (by omega);rw[cD (by rw[kR,<-e7.out];omega),<-g4.out] at ho;have f8:=a2.below H;have f9:=a3.below H;have g9:=aW e5 H;have i9:=e5.size;obtain⟨av,cv,rfl,_,_,_⟩:=f8.open;obtain⟨aw,cw,rfl,_,_,_⟩:=f9.open;go_wp2_with fail
   go_ret3
   have i0:=uF wr 55 [.slice av A.length cv,.slice aw C.length cw] 2 rfl (by decide);have J:=bD (aH wr.heap.size wr) (.cells #[.slice av A.length cv,.slice aw C.length cw] 55);refine⟨_,_,rfl,⟨[.slice av A.length cv,.slice aw C.length cw],i0,?_⟩,Ow.base (OwI.alloc ho _) (by omega),bD g9 _⟩;rw[<-HA.out,<-HC.out];exact LOK.two (f8.below J) (f9.below J)
theorem bF3 (w:World):aJ7 (w.alloc (.cells #[.int .u8 80,.int .u8 77,.int .u8 105,.int .u8 49] 5 (4,5))) (.slice (some ⟨w.heap.size,0,none⟩) 4 4) [80,77,105,49]:=by
 refine⟨w.heap.size,rfl,fun j u d=>?_⟩;rw[World.cell?_alloc_mark]
 grind [fG,aJ7]
theorem bF4 {l:List Ent} {k:Nat} {x:Ent} (h:l[k]? =some x):jB (l.take (k+1))=jB (l.take k)++rV x:=by grind [jB,cG,List.flatten_append,rV]
theorem bF5 (a:ByteArray) (v:Value) (l:List Ent) (w:World) (hr:RdR w v (l.map bG)) (ha:a.size<=1000000) (hl:l.length<=1000) (hR:jA l) (hf:∀x∈l,x.fit):
  Calls pG 9 #[.string a,v] w fun e w'=>e=.returned (.tuple #[.string (mkS (oM a.size (cH a.data.toList).toNat l)),.int .i64 0])/\Below w.heap.size w w':=by
 have HX:=hid hf;have a8:=DB v l w hr (by omega);rw[aG hR] at a8;have a9:=fun W=>zQ a W (by omega)
 obtain⟨S,U⟩:∃S,S=(cH a.data.toList).toNat:=⟨_,rfl⟩;have g9:S<4294967296:=by rw[U];exact BitVec.isLt _
 obtain⟨V,Y⟩:∃V:List UInt8,V=[80,77,105,49]++beL 8 a.size:=⟨_,rfl⟩;have l1:V.length=12:=by rw[Y,aL,nT];rfl
 obtain⟨s2,a1⟩:∃s2:List UInt8,s2=V++beL 4 S:=⟨_,rfl⟩;have l2:s2.length=16:=by rw[a1,aL,nT,l1]
 obtain⟨d,a2⟩:∃d:List UInt8,d=s2++beL 4 l.length:=⟨_,rfl⟩;have l3:d.length=20:=by rw[a2,aL,nT,l2]
 have HS:=hid (show oM a.size (cH a.data.toList).toNat l=d++jB l by
  rw[a2,a1,Y,U];unfold oM;simp only[bU])
 rw[<-U] at a9;obtain⟨a0,ca,rfl,i8,i0,hA⟩:=nS hr;unfold maxLen at i0;clear hf U hr;go_enter func9,ntmps9;go_wp2_with fail;refine a8.mono ?_;rintro e M ⟨rfl,J⟩;have i9:=Lib.run_convert_bytes_const (P:=pG) M 61 5 #[.int .u8 80,.int .u8 77,.int .u8 105,.int .u8 49] 4 4 underlying61 underlying5;go_wp2_with fail;refine(DC _ _ a.size 8 M.heap.size _ (.inr (bF3 M)) (by decide) (by omega) (by decide) (by decide) (by simp)).mono ?_;rintro e w2 ⟨u2,rfl,a3,b0,-⟩;rw[<-Y] at a3;have e5:Below w.heap.size w w2:=(bD J _).trans (b0.mono J.size)
 have b1:M.heap.size<=w2.heap.size:=aR (by simp) b0.size;obtain⟨B,hB⟩:∃B,B=M.heap.size:=⟨_,rfl⟩;have L:w.heap.size<=B:=by rw[hB];exact J.size
 rw[<-hB] at a3 b1;clear b0 a8 J hB;go_wp2_with fail;refine(a9 _).mono ?_;rintro e w3 ⟨rfl,h3⟩;have e6:=a3.below h3 (aD _);have e7:=aW e5 h3;have b2:B<=w3.heap.size:=aR b1 h3.size;clear a9 a3 e5 h3 b1;go_wp2_with fail;refine(aKa _ _ S 4 B _ (.inl e6) (by decide) g9 (by decide) (by omega) b2).mono ?_;rintro e w4 ⟨u4,rfl,b3,b4,-⟩;rw[<-a1] at b3;have e8:Below w.heap.size w w4:=e7.trans (b4.mono L);have b5:B<=w4.heap.size:=aR b2 b4.size;clear e6 e7 b2 b4;go_wp2_with fail
 refine(DC _ _ l.length 4 B _ (.inl b3) (by decide) (by omega) (by decide) (by omega) b5).mono ?_;rintro e w5 ⟨u5,rfl,b6,b7,-⟩;rw[<-a2] at b6;have e9:Below w.heap.size w w5:=e8.trans (b7.mono L);have f0:B<=w5.heap.size:=aR b5 b7.size;clear b3 e8 b5 b7 Y a1 a2 l1 l2;go_wp2_with fail
 go_loopg [6,8,27] l.length (fun g s6 _s8 i1 wr=>∃(k:Nat),k<=l.length/\g=l.length-k/\i1=.int .i64 (k:Int)/\OwB wr B s6 (d++jB (l.take k))/\Below w.heap.size w wr/\B<=wr.heap.size)
 case atStart=>exact⟨0,aO _,rfl,rfl,by rw[List.take_zero];exact(List.append_nil d).symm▸b6,e9,f0⟩
 case round=>
  obtain⟨k,hk,hg,rfl,O,h,j0⟩:=hrel;have HG:=hid hg;clear hg b6 e9 f0;have g0:(jB (l.take k)).length=26*k:=by rw[VS,aQ,Nat.min_eq_left hk]
  by_cases i2:k<l.length
  ·have t1:decide ((k:Int)<(l.length:Int))=true:=aG (by omega);obtain⟨b,off,rfl,T,hc⟩:=hA (by omega);obtain⟨x,hx⟩:∃x,l[k]? =some x:=⟨_,aN i2⟩;obtain⟨f1,f2,f3,f4,f5,f6,f7,f8,f9,i3⟩:=HX.out x (List.mem_of_getElem? hx);have HT:=hid (bF4 hx);obtain⟨x0,x1,x2,x3,x4⟩:=hc k x hx;clear hc hx hA;obtain⟨xa,xr,xf,xn,xy⟩:=x;dsimp only at f1 f2 f3 f4 f5 f6 f7 f8 f9 i3;obtain⟨A,rfl⟩:∃n:Nat,xa=n:=⟨xa.toNat,by omega⟩;obtain⟨F,rfl⟩:∃n:Nat,xr=n:=⟨xr.toNat,by omega⟩;obtain⟨G,rfl⟩:∃n:Nat,xf=n:=⟨xf.toNat,by omega⟩;obtain⟨H,rfl⟩:∃n:Nat,xn=n:=⟨xn.toNat,by omega⟩
   obtain⟨I,rfl⟩:∃n:Nat,xy=n:=⟨xy.toNat,by omega⟩;have c0:=(h.cell (p:=⟨b,off+k*5,none⟩) T).trans x0;have c1:=(h.cell (p:=⟨b,off+k*5+1,none⟩) T).trans x1;have c2:=(h.cell (p:=⟨b,off+k*5+2,none⟩) T).trans x2;have c3:=(h.cell (p:=⟨b,off+k*5+3,none⟩) T).trans x3;have c4:=(h.cell (p:=⟨b,off+k*5+4,none⟩) T).trans x4;dsimp only at c0 c1 c2 c3 c4;clear x0 x1 x2 x3 x4;obtain⟨D,hD⟩:∃D,D=d++jB (l.take k):=⟨_,rfl⟩;have j1:D.length<=30000:=by rw[hD,aL,g0];omega
   obtain⟨D1,a4⟩:∃D1,D1=D++beL 8 A:=⟨_,rfl⟩;obtain⟨D2,a5⟩:∃D2,D2=D1++beL 2 F:=⟨_,rfl⟩;obtain⟨D3,a6⟩:∃D3,D3=D2++beL 8 G:=⟨_,rfl⟩;obtain⟨D4,a7⟩:∃D4,D4=D3++beL 4 H:=⟨_,rfl⟩;obtain⟨D5,b8⟩:∃D5,D5=D4++beL 4 I:=⟨_,rfl⟩;have k1:D1.length=D.length+8:=by rw[a4,aL,nT]
   have k2:D2.length=D.length+10:=by rw[a5,aL,nT,k1]
   have k3:D3.length=D.length+18:=by rw[a6,aL,nT,k2]
   have k4:D4.length=D.length+22:=by rw[a7,aL,nT,k3]
   have i4:=hid (show D5=d++jB (l.take (k+1)) by
    rw[HT.out,<-bU,<-hD,b8,a7,a6,a5,a4];unfold rV;simp only[Int.toNat_natCast,bU])
   rw[<-hD] at O;have E1:=hid a4;have E2:=hid a5;have E3:=hid a6;have E4:=hid a7;have E5:=hid b8;clear hD g0 HT a4 a5 a6 a7 b8;have hN:=Arr.new wr 47 [.int .i64 (A:Int),.int .i64 (F:Int),.int .i64 (G:Int),.int .i64 (H:Int),.int .u32 (I:Int)];change Arr (wr.alloc (.cells #[.int .i64 (A:Int),.int .i64 (F:Int),.int .i64 (G:Int),.int .i64 (H:Int),.int .u32 (I:Int)] 47)) _ _ _ at hN;have g1:OwB _ _ _ _:=Ow.alloc O (.cells #[.int .i64 (A:Int),.int .i64 (F:Int),.int .i64 (G:Int),.int .i64 (H:Int),.int .u32 (I:Int)] 47)
   have J:=h.alloc h.size (.cells #[.int .i64 (A:Int),.int .i64 (F:Int),.int .i64 (G:Int),.int .i64 (H:Int),.int .u32 (I:Int)] 47);have b9:B<=(wr.alloc (.cells #[.int .i64 (A:Int),.int .i64 (F:Int),.int .i64 (G:Int),.int .i64 (H:Int),.int .u32 (I:Int)] 47)).heap.size:=by simp;omega
   obtain⟨Z,hZ⟩:∃Z,Z=wr.heap.size:=⟨_,rfl⟩;go_wp2_with fail;rw[<-hZ] at hN ⊢;generalize wr.alloc (.cells #[.int .i64 (A:Int),.int .i64 (F:Int),.int .i64 (G:Int),.int .i64 (H:Int),.int .u32 (I:Int)] 47)=wa at*
   refine(DC _ _ A 8 B _ (.inl g1) (by decide) (by omega) (by decide) (by omega) b9).mono ?_;rintro e w6 ⟨u6,rfl,c5,c6,g2⟩;have c7:=g2 _ _ hN;have h6:Below w.heap.size w w6:=J.trans (c6.mono L);have c8:B<=w6.heap.size:=aR b9 c6.size;have d1:=c7.cell (i:=1) rfl;rw[<-E1.out] at c5;clear hN J b9 g1 c6 g2 hZ c0 c1 c2 c3 c4;go_wp2_with fail;refine(DC _ _ F 2 B _ (.inl c5) (by decide) (by omega) (by decide) (by omega) c8).mono ?_;rintro e w7 ⟨u7,rfl,c9,d0,g3⟩;have d5:=g3 _ _ c7;have h7:Below w.heap.size w w7:=h6.trans (d0.mono L)
   have d6:B<=w7.heap.size:=aR c8 d0.size;have d2:=d5.cell (i:=2) rfl;rw[<-E2.out] at c9;clear c7 h6 c8 c5 d0 g3 d1;go_wp2_with fail;refine(DC _ _ G 8 B _ (.inl c9) (by decide) (by omega) (by decide) (by omega) d6).mono ?_;rintro e w8 ⟨u8,rfl,d7,d8,g4⟩;have d9:=g4 _ _ d5;have h8:Below w.heap.size w w8:=h7.trans (d8.mono L);have e0:B<=w8.heap.size:=aR d6 d8.size;have d3:=d9.cell (i:=3) rfl;rw[<-E3.out] at d7;clear d5 h7 d6 c9 d8 g4 d2;go_wp2_with fail;refine(DC _ _ H 4 B _ (.inl d7) (by decide) (by omega) (by decide) (by omega) e0).mono ?_
   rintro e w9 ⟨u9,rfl,e1,e2,g5⟩;have g6:=g5 _ _ d9;have h9:Below w.heap.size w w9:=h8.trans (e2.mono L);have e3:B<=w9.heap.size:=aR e0 e2.size;have d4:=g6.cell (i:=4) rfl;rw[<-E4.out] at e1;clear d9 h8 e0 d7 e2 g5 d3;go_wp2_with fail;refine(aKa _ _ I 4 B _ (.inl e1) (by decide) (by omega) (by decide) (by omega) e3).mono ?_;rintro e g7 ⟨j2,rfl,g8,e4,-⟩;have i5:Below w.heap.size w g7:=h9.trans (e4.mono L);have i6:B<=g7.heap.size:=aR e3 e4.size;rw[<-E5.out] at g8;clear g6 h9 e3 e1 e4 d4;go_wp2_with fail;have hg:=HG.out
   go_roundg (l.length-(k+1))
   case measure=>omega
   case rel=>exact⟨k+1,by omega,rfl,by go_num,by rw[<-i4.out];exact g8,i5,i6⟩
  ·have t1:decide ((k:Int)<(l.length:Int))=false:=aE (by omega);have i7:k=l.length:=by omega
   subst i7;rw[cD (aD _)] at O;have j3:(convert 61 9 u6).run pG wr=.ok (.string (mkS (d++jB l))) wr:=mP O.rd;have j4:(convert 61 9 u6).run pG wr.drew=.ok (.string (mkS (d++jB l))) wr.drew:=mP (w:=wr.drew) (OwB.rd (w:=wr.drew) O);go_wp2_with fail
   go_ret2
   exact⟨by rw[HS.out];rfl,h⟩
theorem bF6 (a:ByteArray) (v:Value) (l:List Ent) (w:World) (h:RdR w v (l.map bG)) (F:l.length<=1000) (A:¬jA l):
  Calls pG 9 #[.string a,v] w fun e w'=>e=.returned (.tuple #[.string ⟨#[]⟩,.int .i64 1])/\Below w.heap.size w w':=by
 have d:=DB v l w h (by omega);rw[aE A] at d;go_enter func9,ntmps9;go_wp2_with fail;refine d.mono ?_;rintro e G ⟨rfl,D⟩;go_wp2_with fail
 go_ret2
 exact⟨rfl,D⟩
end
section
open Go.RowKit Go Go.Shelf
attribute [local go_sem] Oper.semAt_some
theorem Bld.same {w w':World} {B b:Nat} {l:List UInt8} (h:Bld w B b l) (A:∀k o,w.heap[k]? =some o->o.isCells=true->(k=b\/∃c d,o=.cells c 5 d)->w'.heap[k]? =some o):Bld w' B b l:=by
 have D:∀p,Lib.BuilderAtF 239 5 B b p (pU l) w->Lib.BuilderAtF 239 5 B b p (pU l) w':=by
  rintro p ⟨G,v,H,F,I⟩;refine⟨G,v,A b _ H rfl (.inl rfl),⟨F.1,?_⟩,I⟩;rcases F.2 with J|⟨g,cap,L,d,e,M,O,rest⟩
  ·exact .inl J
  ·exact .inr ⟨g,cap,L,d,e,M,A g _ O rfl (.inr ⟨_,_,rfl⟩),rest⟩
 exact h.elim (fun x=>.inl (D _ x)) (fun x=>.inr (D _ x))
theorem Bld.kept {w w':World} {B b:Nat} {l:List UInt8} {row:Option Nat} (h:Bld w B b l) (F:w.grownBy w' row) (G:∀r,row=some r->∃o:Obj,w.heap[r]? =some o/\o.isCells=false):Bld w' B b l:=
 h.same fun k o A D _=>(F.block k (Array.getElem?_eq_some_iff.1 A).1 (fun e=>by
  obtain⟨I,d,H⟩:=G k e.symm;rw[A] at d
  injection d with d
  rw[d,H] at D;exact absurd D (by decide))).trans A
end
end Go.Proofs.YtfplbbphficcjaaGreatDoor

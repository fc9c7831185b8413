/-
  Texts put together (part 22): the walks and the plain laws on which the statement stands.
-/
import Derived.Lib.SliceRun
import Derived.Test.YtfckbfofgeilgaaGreatDoorZ20
set_option maxRecDepth 100000
set_option maxHeartbeats 12800000
set_option linter.unusedVariables false
set_option linter.unusedSimpArgs false
open Go.Proofs.Tryz
open Go.Proofs.Tryz renaming prog->pG
open Array renaming getElem?_eq_some_iff->fE
open Go.RowKit.Below renaming refl->aH
open List renaming getD_eq_getElem?_getD->bV,getElem?_append_left->nE,getElem?_eq_getElem->aN,length_append->aL,length_map->aS,set_append_left->XR,set_cons_succ->bB
open Nat renaming le_of_lt->nG,le_refl->aD,le_trans->aR
open Option.some renaming inj->cC
namespace Go.Proofs.YtfckbfofgeilgaaGreatDoor
section
open Go.RowKit Go Go.Shelf
def aIw (w w':World) (b:Nat) (s:ByteArray) (a C:Nat) (e:Ending):Prop:=
 ((dW s.data.toList (a:Int) (C:Int)).2.2≠0/\dW s.data.toList (a:Int) (C:Int)=([],0,(dW s.data.toList (a:Int) (C:Int)).2.2)/\e=.panicked (rS (dW s.data.toList (a:Int) (C:Int)).2.2)/\w.grownBy w' (some b))\/
 (e=.returned (.tuple #[])/\∃(p:Nat) (d A:Value) (T:List (List Int)) (ch:List Int),dW s.data.toList (a:Int) (C:Int)=jW s.data.toList (p:Int) T ch ((C:Int)-1)/\BRd w' b s p d A (.int .i64 (C:Int))/\w.grownBy w' (some b)/\
  (∀W,w'.grownBy W (some b)->RdL W d T)/\(∀W,w'.grownBy W (some b)->RdI W A ch)/\(∀l∈T,bM l=0)/\(∀x∈ch,0<=x/\x<(T.length:Int))/\0<ch.length/\ch.length<=40000/\0<T.length/\p<=80000000)
theorem yD {w w':World} {b:Nat} {s:ByteArray} {a C:Nat} {E:Int} (h:dW s.data.toList (a:Int) (C:Int)=([],0,E)) (d:E≠0) (e:w.grownBy w' (some b)):aIw w w' b s a C (.panicked (rS E)):=by grind [dW,aIw,rS]
theorem bCg (V:Nat) (h:V<2):decide ((V:Int)>=2)=false/\decide (2<=(V:Int))=false:=by grind
theorem bCh (b:Nat) (s:ByteArray) (a C:Nat) (w:World) (Y:BRd w b s a (.slice none 0 0) (.slice none 0 0) (.int .i64 (C:Int))) (hs:s.size<=1000000) (ha:a<=70000000) (i5:2<=C) (i6:C<=258):
  Calls pG 176 #[.pointer (some ⟨b,0,none⟩)] w fun e w'=>aIw w w' b s a C e:=by
 have HL:=hid (mV s);have k7:w.grownBy w (some b):=gbB (aH _ _);have J:b<w.heap.size:=Arr.lt Y;have d9:=jV s.data.toList (a:Int) 3;have e0:=jV s.data.toList ((a:Int)+3) 15;have d:=aHt s.data.toList (a:Int) (C:Int);rw[HL.out] at d;have e1:=iG (n:=s.size) (at':=((a:Int)+3)) (k:=15);have e3:=FN b s a 3 (.slice none 0 0) (.slice none 0 0) (.int .i64 (C:Int)) w Y hs (by decide) (by omega);have b8:=fun W h=>FN b s (a+3) 15 (.slice none 0 0) (.slice none 0 0) (.int .i64 (C:Int)) W h hs (by decide) (by omega)
 rw[show(((a+3:Nat):Int))=(a:Int)+3 by push_cast;rfl] at b8;obtain⟨E1,e4⟩:=ex1 (aP s.size (a:Int) 3);obtain⟨D,b9⟩:=ex1 (aK s.data.toList (a:Int) 3);obtain⟨E2,c0⟩:=ex1 (aP s.size ((a:Int)+3) 15);obtain⟨Z,c4⟩:=ex1 (aK s.data.toList ((a:Int)+3) 15);rw[<-e4,<-b9] at e3;rw[<-c0,<-c4] at b8;rw[<-b9] at d9;rw[<-c4] at e0;rw[<-c0] at e1;rw[<-e4,<-b9,<-c0,<-c4] at d;clear e4 b9 c0 c4;have d9:D<8:=d9;have e0:Z<32768:=e0;obtain⟨A,f6⟩:=ex1 (a+3+15);have m3:(a:Int)+18=(A:Int):=by omega
 have k8:A<=70000018:=by omega
 rw[m3] at d;go_enter func176,ntmps176;go_wp2_with fail;refine e3.mono ?_;rintro e w1 (⟨h1,rfl,f7,a4⟩|⟨h1,rfl,a4⟩)
 rotate_left
 ·rw[aB h1] at d;have HF:=hid d;clear d;go_wp2_with fail;exact⟨rfl,yD HF.out h1 a4⟩
 rw[aA (fun k=>k h1)] at d;clear e3 Y
 by_cases h2:D<2\/6<D
 ·rw[aB h2] at d;have HF:=hid d;clear d
  by_cases h3:D<2
  ·obtain⟨u1,u2⟩:=bCg D h3;go_wp2_with fail;refine(tW false 3 _ (by decide)).mono ?_;rintro e w2 (⟨G,rfl,rfl⟩|⟨G,rfl,rfl⟩)
   ·exact absurd G (by decide)
   go_wp2_with fail;exact⟨rfl,yD HF.out (by decide) a4⟩
  ·have u1:decide ((D:Int)>=2)=true:=aG (by omega);have f8:decide (2<=(D:Int))=true:=aG (by omega);have u2:decide ((D:Int)<=6)=false:=aE (by omega);go_wp2_with fail;refine(tW false 3 _ (by decide)).mono ?_;rintro e w2 (⟨G,rfl,rfl⟩|⟨G,rfl,rfl⟩)
   ·exact absurd G (by decide)
   go_wp2_with fail;exact⟨rfl,yD HF.out (by decide) a4⟩
 rw[aA h2] at d;have u1:decide ((D:Int)>=2)=true:=aG (by omega);have f8:decide (2<=(D:Int))=true:=aG (by omega);have u2:decide ((D:Int)<=6)=true:=aG (by omega);have f9:2<=D:=by omega
 have g0:D<=6:=by omega
 clear h2;go_wp2_with fail;refine(tW true 3 _ (by decide)).mono ?_;rintro e w2 (⟨G,rfl,rfl⟩|⟨G,rfl,rfl⟩)
 rotate_left
 ·exact absurd G (by decide)
 go_wp2_with fail;refine(b8 _ f7).mono ?_;rintro e w2 (⟨h3,rfl,a6,a2⟩|⟨h3,rfl,a2⟩)
 rotate_left
 ·rw[aB h3] at d;have HF:=hid d;clear d;go_wp2_with fail;exact⟨rfl,yD HF.out h3 (gbT a4 a2)⟩
 rw[aA (fun k=>k h3)] at d;have e1:=e1 h3;have a2:=gbT a4 a2;clear b8 f7 a4
 by_cases h4:Z=0
 ·rw[aB h4] at d;have HF:=hid d;clear d;have u3:decide ((Z:Int)>0)=false:=aE (by omega);have u4:decide (0<(Z:Int))=false:=aE (by omega);have u5:decide (0<Z)=false:=aE (by omega);go_wp2_with fail;refine(tW false 3 _ (by decide)).mono ?_;rintro e w3 (⟨G,rfl,rfl⟩|⟨G,rfl,rfl⟩)
  ·exact absurd G (by decide)
  go_wp2_with fail;exact⟨rfl,yD HF.out (by decide) a2⟩
 rw[aA h4] at d;have u3:decide ((Z:Int)>0)=true:=aG (by omega);have u4:decide (0<(Z:Int))=true:=aG (by omega);have u5:decide (0<Z)=true:=aG (by omega);have i7:0<Z:=by omega
 go_wp2_with fail;refine(tW true 3 _ (by decide)).mono ?_;rintro e w3 (⟨G,rfl,rfl⟩|⟨G,rfl,rfl⟩)
 rotate_left
 ·exact absurd G (by decide)
 rw[<-f6] at a6;have a7:=fun W=>aXv s A Z D W hs (by omega) (by omega) f9 g0
 have b4:=aHu (s:=s.data.toList) (a:=A) (n:=Z) (t:=D) f9 g0 (by omega);unfold FJ at a7;obtain⟨L,c2,M,g1⟩:∃L c2 M,eD s.data.toList (A:Int) (Z:Int) (D:Int)=(L,c2,M):=⟨_,_,_,rfl⟩;rw[g1] at a7 b4 d;simp only at a7 b4 d;rw[HL.out] at b4;have d0:=Arr.cell a6 (i:=0) rfl;have d1:=Arr.cell a6 (i:=1) rfl;have d4:=Arr.cell a6 (i:=4) rfl;have HD:=hid d;have i8:=hid b4;clear g1 h4 d b4 f6 u1 f8 u2 u3 u4 u5;go_upto_region 4 with fail
 go_cut [4,5,6] (fun i9 c5 c6 wx=>(∃v,v=i9/\OwI wx w3.heap.size v L)/\c5=.int .i64 c2/\c6=.int .i64 M/\Below w3.heap.size w3 wx)
 case first=>
  obtain⟨I,b5⟩:=ex1 (w3.heap.size);have b6:=hid b5;have a7:∀W,(W.cell? ⟨b,0,none⟩=some (.string s)/\W.cell? ⟨b,1,none⟩=some (.int .i64 (A:Int))/\W.cell? ⟨b,4,none⟩=some (.int .i64 (C:Int))/\Below I w3 W/\I<=W.heap.size)->Calls pG 196 #[.string s,.int .i64 (A:Int),.int .i64 (Z:Int),.int .i64 (D:Int)] W fun e w'=>∃v,e=.returned (.tuple #[v,.int .i64 c2,.int .i64 M])/\OwI w' I v L/\Below W.heap.size W w':=fun W h=>(a7 W).mono (fun e w' ⟨v,k1,k2,k3⟩=>⟨v,k1,OwI.base k2 h.2.2.2.2,k3⟩)
  have j0:=oF (B:=I) (w0:=w3) ⟨d0,d1,d4,aH _ _,by omega⟩ (aH w3.heap.size w3).drew;clear b5 d0 d1 d4
  go_region_held3 (fun w'=>w'.cell? ⟨b,0,none⟩=some (.string s)/\w'.cell? ⟨b,1,none⟩=some (.int .i64 (A:Int))/\w'.cell? ⟨b,4,none⟩=some (.int .i64 (C:Int))/\Below I w3 w'/\I<=w'.heap.size)
   (first
    |with_reducible assumption
    |with_reducible exact oF (by assumption) (by assumption))
   (first
    |(go_at_call 196;refine(a7 _ (by assumption)).mono ?_;rintro e w4 ⟨v4,rfl,a8,d5⟩))
  have e5:=(show w4.cell? ⟨b,0,none⟩=some (.string s)/\w4.cell? ⟨b,1,none⟩=some (.int .i64 (A:Int))/\w4.cell? ⟨b,4,none⟩=some (.int .i64 (C:Int))/\Below I w3 w4/\I<=w4.heap.size by assumption);go_wp2_with fail;go_meet;exact⟨⟨v4,rfl,by rw[<-b6.out];exact a8⟩,rfl,rfl,by rw[<-b6.out];exact e5.2.2.2.1⟩
 case rest=>
  obtain⟨⟨v4,rfl,a8⟩,rfl,rfl,d5⟩:=hcut;have g2:=Arr.below a6 d5 (Arr.lt a6);have a8:=OwI.base a8 a2.size;have e6:=gbT a2 (gbB d5);clear a7 d0 d1 d4 a6 a2 d5;go_wp2_with fail;refine(MK b s A c2 M _ _ _ wc g2).mono ?_;rintro e w5 (⟨rfl,rfl,d6,b2⟩|⟨G,rfl,rfl⟩)
  rotate_left
  ·have d:=HD.out;rw[aB G] at d;have HF:=hid d;clear d;go_wp2_with fail;exact⟨rfl,yD HF.out G e6⟩
  have d:=HD.out;rw[aA (fun k=>k rfl)] at d;obtain⟨s1,s2,s3,s4⟩:=i8.out rfl;obtain⟨R,rfl⟩:∃R:Nat,c2=(R:Int):=⟨c2.toNat,by omega⟩;have k9:R<=70000018:=by omega
  have d7:=Ow.kept a8 b2 (lD a8 J);have b2:=gbT e6 b2;have l1:=b2.size;obtain⟨ac,cc,rfl,_,_,_⟩:=(OwI.rd d7).open;have j1:=hid s2;have g3:=hid s1;have g4:BRd (w5.setCell ⟨b,3,none⟩ (.slice ac L.length cc)) b s R (.slice none 0 0) (.slice ac L.length cc) (.int .i64 (C:Int)):=Arr.set d6 3 _;have g5:=gbT b2 (gbS w5 b 3 (.slice ac L.length cc));have g6:OwI (w5.setCell ⟨b,3,none⟩ (.slice ac L.length cc)) w.heap.size (.slice ac L.length cc) L:=Ow.kept d7 (gbS w5 b 3 _) (lD d7 J);have d3:=Arr.cell d6 (i:=3) rfl;have f3:=Arr.free d6 3
  have g7:=hid (fun k=>MO (s:=s.data.toList) (a:=(R:Int)) (c:=(C:Int)) (by omega) k);have j2:=hid (LE s.data.toList (R:Int) (C:Int) D);have g8:=hid (fun k (hk:k<=D) (h:(bO s.data.toList (R:Int) (C:Int) k).2.2≠0)=>show dW s.data.toList (a:Int) (C:Int)=([],0,(bO s.data.toList (R:Int) (C:Int) k).2.2) by
   have:=MN h (D-k);rw[show k+(D-k)=D by omega] at this;rw[aB (by rw[this];exact h),this] at d;exact d)
  have j3:=hid (fun(h:(bO s.data.toList (R:Int) (C:Int) D).2.2=0)=>by
   rw[aA (fun q=>q h)] at d;exact d)
  clear d s1 s2 s3 s4 g2 a8 e6 d7;go_wp2_with fail;generalize w5.setCell ⟨b,3,none⟩ (.slice ac L.length cc)=w6 at*
  clear d3 f3 d6 b2
  go_loopg [7,8,9,56] D (fun g _s7 _s8 _s9 j4 wr=>∃(k p:Nat) (v:Value) (xs:List Value),k<=D/\g=D-k/\j4=.int .i64 (k:Int)/\Hid ((bO s.data.toList (R:Int) (C:Int) k).2.2=0/\(bO s.data.toList (R:Int) (C:Int) k).2.1=(p:Int))/\Ow wr w.heap.size 53 v xs/\iE wr w.heap.size xs (bO s.data.toList (R:Int) (C:Int) k).1/\xs.length=k/\BRd wr b s p v (.slice ac L.length cc) (.int .i64 (C:Int))/\OwI wr w.heap.size (.slice ac L.length cc) L/\w.grownBy wr (some b))
  case atStart=>exact⟨0,R,_,[],Nat.zero_le _,rfl,rfl,hid ⟨rfl,rfl⟩,Ow.nil _ _ _,iE.nil _ _,rfl,g4,g6,g5⟩
  case round=>
   clear g4 g6 g5;obtain⟨k,p,v,xs,hk,hg,rfl,HK,ho,hx,g9,Y,a1,U⟩:=hrel;have HG:=hid hg;clear hg;have e7:=U.size;have j5:=g7.out k HK.out.1;rw[HK.out.2,HL.out] at j5;have j6:p<=80000000:=by omega
   by_cases l2:k<D
   ·have v1:decide ((k:Int)<(D:Int))=true:=aG (by omega);have F:=UA HK.out.1;rw[HK.out.2] at F;have a9:=fun W=>aY5 s p C W hs (by omega) i5 i6
    unfold CL at a9;obtain⟨O,q2,q3,hq⟩:∃O q2 q3,gS s.data.toList (p:Int) (C:Int)=(O,q2,q3):=⟨_,_,_,rfl⟩;rw[hq] at F a9;simp only at F a9;have i0:=hid F;have d0:=Arr.cell Y (i:=0) rfl;have d1:=Arr.cell Y (i:=1) rfl;have d4:=Arr.cell Y (i:=4) rfl;clear hq F;go_upto_region 9 with fail
    go_cut [7,8,9] (fun c7 c8 c9 wx=>(∃v,v=c7/\OwI wx wr.heap.size v O)/\c8=.int .i64 q2/\c9=.int .i64 q3/\Below wr.heap.size wr wx)
    case first=>
     obtain⟨I,b5⟩:=ex1 (wr.heap.size);have b6:=hid b5;have a9:∀W,(W.cell? ⟨b,0,none⟩=some (.string s)/\W.cell? ⟨b,1,none⟩=some (.int .i64 (p:Int))/\W.cell? ⟨b,4,none⟩=some (.int .i64 (C:Int))/\Below I wr W/\I<=W.heap.size)->Calls pG 197 #[.string s,.int .i64 (p:Int),.int .i64 (C:Int)] W fun e w'=>∃v,e=.returned (.tuple #[v,.int .i64 q2,.int .i64 q3])/\OwI w' I v O/\Below W.heap.size W w':=fun W h=>(a9 W).mono (fun e w' ⟨v,k1,k2,k3⟩=>⟨v,k1,OwI.base k2 h.2.2.2.2,k3⟩)
     have j0:=oF (B:=I) (w0:=wr) ⟨d0,d1,d4,aH _ _,by omega⟩ (aH wr.heap.size wr).drew;clear b5 d0 d1 d4
     go_region_held3 (fun w'=>w'.cell? ⟨b,0,none⟩=some (.string s)/\w'.cell? ⟨b,1,none⟩=some (.int .i64 (p:Int))/\w'.cell? ⟨b,4,none⟩=some (.int .i64 (C:Int))/\Below I wr w'/\I<=w'.heap.size)
      (first
       |with_reducible assumption
       |with_reducible exact oF (by assumption) (by assumption))
      (first
       |(go_at_call 197;refine(a9 _ (by assumption)).mono ?_;rintro e w7 ⟨v7,rfl,a0,b0⟩))
     have e5:=(show w7.cell? ⟨b,0,none⟩=some (.string s)/\w7.cell? ⟨b,1,none⟩=some (.int .i64 (p:Int))/\w7.cell? ⟨b,4,none⟩=some (.int .i64 (C:Int))/\Below I wr w7/\I<=w7.heap.size by assumption);go_wp2_with fail;go_meet;exact⟨⟨v7,rfl,by rw[<-b6.out];exact a0⟩,rfl,rfl,by rw[<-b6.out];exact e5.2.2.2.1⟩
    case rest=>
     obtain⟨⟨v7,rfl,a0⟩,rfl,rfl,b0⟩:=hcut;have Y:=Arr.below Y b0 (Arr.lt Y);have a0:=OwI.base a0 e7;have ho:=Ow.below ho b0 (aD _);have hx:=hx.below b0;have a1:=OwI.below a1 b0 (aD _);have U:=gbT U (gbB b0);clear a9 d0 d1 d4 b0;go_wp2_with fail;refine(MK b s p q2 q3 _ _ _ wc Y).mono ?_;rintro e w8 (⟨rfl,rfl,e8,b3⟩|⟨G,rfl,rfl⟩)
     rotate_left
     ·have F:=i0.out;rw[aB G] at F;have V:=g8.out (k+1) (by omega) (by rw[F];exact G);rw[F] at V;have HE:=hid V;clear F V;go_wp2_with fail;exact⟨rfl,yD HE.out G U⟩
     have F:=i0.out;rw[aA (fun k=>k rfl)] at F;have ho:=Ow.kept ho b3 (lD ho J);have hx:=hx.map (fun x g k=>Ow.kept k b3 (lD k J));have a0:=Ow.kept a0 b3 (lD a0 J);have a1:=Ow.kept a1 b3 (lD a1 J);have U:=gbT U b3;have e7:=U.size;clear Y b3;go_wp2_with fail;refine(FK v7 O w8 (OwI.rd a0)).mono ?_;rintro e w9 ⟨rfl,b1⟩;have i1:=Arr.below e8 b1 (Arr.lt e8);have ho:=Ow.below ho b1 (aD _);have hx:=hx.below b1;have a0:=OwI.below a0 b1 (aD _);have a1:=OwI.below a1 b1 (aD _);have U:=gbT U (gbB b1);have e7:=U.size;obtain⟨E,V⟩:=ex1 (bM O)
     rw[<-V] at F ⊢;have i2:=hid F;clear e8 b1 V F;go_wp2_with fail;refine(zU E w9).mono ?_;rintro e e9 (⟨rfl,rfl,rfl⟩|⟨G,rfl,rfl⟩)
     rotate_left
     ·have F:=i2.out;rw[aB G] at F;have V:=g8.out (k+1) (by omega) (by rw[F];exact G);rw[F] at V;have HE:=hid V;clear F V;go_wp2_with fail;exact⟨rfl,yD HE.out G U⟩
     have F:=i2.out;rw[aA (fun k=>k rfl)] at F;have f0:=g7.out (k+1) (by rw[F]);rw[F] at f0;have f0:(R:Int)<=q2:=f0.1;obtain⟨pp,rfl⟩:∃pp:Nat,q2=(pp:Int):=⟨q2.toNat,by omega⟩;have HS:=hid F;obtain⟨a3,M,rfl,_,_,_⟩:=(OwI.rd a0).open;obtain⟨av,cv,rfl,-⟩:=ho.rd;have j7:(xs.length+1)*24<=140737488355328:=by omega
     have j8:=hx.alloc (.cells #[.slice a3 O.length M] 53);have d8:=Ow.alloc ho (.cells #[.slice a3 O.length M] 53);have i3:=OwI.alloc a0 (.cells #[.slice a3 O.length M] 53);have f1:=OwI.alloc a1 (.cells #[.slice a3 O.length M] 53);have f4:=Arr.alloc i1 (.cells #[.slice a3 O.length M] 53);have j9:=gbT U (gbB (g:=some b) (bD (aH _ e9) (.cells #[.slice a3 O.length M] 53)));have d2:=Arr.cell i1 (i:=2) rfl;have k0:=hid g9;clear F hx ho a0 a1 U g9
     go_wp2_with (at_builtin;refine tM CK rfl _ _ rfl w.heap.size _ xs rfl d8 e9.heap.size (.slice a3 O.length M) rfl (bX _ _ _) rfl ?_ ?_ ?_;(exact j7);(simp;omega);intro v5 b7 r1 r2 r3;obtain⟨a5,c5,rfl,-⟩:=r1.rd;have e2:=(Arr.below f4 r2 J).cell (i:=2) rfl;have f2:=(Arr.below f4 r2 J).free 2);rw[aL,List.length_singleton] at r1;have f5:(e9.alloc (.cells #[.slice a3 O.length M] 53)).grownBy b7 (Value.slice av xs.length cv).ownBlock:=r3;have hg:=HG.out
     go_roundg (D-(k+1))
     ·
      refine⟨k+1,pp,_,xs++[.slice a3 O.length M],by omega,rfl,by go_num,hid ⟨by rw[HS.out],by rw[HS.out]⟩,Ow.kept r1 (gbS b7 b 2 _) (lD r1 J),?_,by rw[aL,k0.out];rfl,Arr.set (Arr.below f4 r2 J) 2 _,?_,gbT (gbK j9 r2) (gbS b7 b 2 _)⟩
      ·rw[HS.out];exact((j8.app d8 f5).snoc (Ow.kept i3 f5 (uV i3 d8 (by decide)))).map (fun x g k=>Ow.kept k (gbS b7 b 2 _) (lD k J))
      ·exact Ow.kept (Ow.kept f1 f5 (uV f1 d8 (by decide))) (gbS b7 b 2 _) (lD f1 J)
     ·omega
   ·have v1:decide ((k:Int)<(D:Int))=false:=aE (by omega);have k4:k=D:=by omega
    subst k4;have V:=j3.out HK.out.1;rw[HK.out.2] at V;obtain⟨t1,t2⟩:=j2.out HK.out.1;have HE:=hid V;have i4:=hid t1;have k5:=hid t2;have k6:=hid (j1.out);clear V t1 t2;go_wp2_with fail
    go_end0
    refine .inr ⟨rfl,p,v,_,_,L,HE.out,Y,U,fun W hW=>?_,fun W hW=>OwI.rd (Ow.kept a1 hW (lD a1 J)),fun l hl=>(k5.out l hl).1,fun x hx=>by rw[i4.out];exact k6.out x hx,by rw[g3.out];exact i7,by rw[g3.out];omega,by rw[i4.out];omega,j6⟩;exact Ow.rdL (Ow.kept ho hW (lD ho J)) (hx.map (fun x g k=>Ow.kept k hW (lD k J))).ok
abbrev pr (q:Int×Int):VV:=(.int .i64 q.1,.int .i64 q.2)
theorem aGy:∀(L:List VV) (i:Nat) (a b:Value),i<L.length->((prC L).set (i*2) a).set (i*2+1) b=prC (L.set i (a,b))
 |[],i,a,b,h=>by simp at h
 |x::L,0,a,b,_=>rfl
 |x::L,i+1,a,b,h=>by
  have d:=aGy L i a b (by simpa using h);have e:prC (x::L)=x.1::x.2::prC L:=rfl;rw[e,show(i+1)*2=i*2+2 by omega,bB,bB,bB,bB,d];rfl
def gO (w:World) (g:Nat) (l:List (Int×Int)) (R:List Value):Prop:=Arr w g 999983 (prC (l.map pr)++R)
theorem xZ (l:List (Int×Int)):(prC (l.map pr)).length=l.length*2:=by rw[TF,aS]
theorem gO.cells {w:World} {g:Nat} {l:List (Int×Int)} {R:List Value} (h:gO w g l R) {i:Nat} (d:i<l.length):
  w.cell? ⟨g,i*2,none⟩=some (.int .i64 (l.getD i (0,0)).1)/\w.cell? ⟨g,i*2+1,none⟩=some (.int .i64 (l.getD i (0,0)).2):=by
 have e:(l.map pr)[i]? =some (pr (l.getD i (0,0))):=by rw[List.getElem?_map,aN d,bV,aN d];rfl
 obtain⟨A,D⟩:=ME _ _ _ e;have F:=xZ l;exact⟨Arr.cell h (by rw[nE (by omega)];exact A),Arr.cell h (by rw[nE (by omega)];exact D)⟩
theorem gO.put {w:World} {g:Nat} {l:List (Int×Int)} {R:List Value} (h:gO w g l R) {i:Nat} (d:i<l.length) (x:Int×Int):
  gO ((w.setCell ⟨g,i*2,none⟩ (.int .i64 x.1)).setCell ⟨g,i*2+1,none⟩ (.int .i64 x.2)) g (l.set i x) R:=by
 have:=(Arr.set h (i*2) (.int .i64 x.1)).set (i*2+1) (.int .i64 x.2);have e:=xZ l;rw[XR _ _ (by omega),XR _ _ (by rw[List.length_set];omega),aGy _ _ _ _ (by rw[aS];exact d)] at this;unfold gO;rw[List.map_set];exact this
abbrev rU:Value:=.func (.func 999983) #[] #[]
def QU (w:World) (p B:Nat) (l:List (Int×Int)):Prop:=∃v,Arr w p 999983 [v,rU]/\OwP w B 999983 v (l.map pr)
def KQ (p:Nat) (w w':World):Prop:=w.heap.size<=w'.heap.size/\∀k o,w.heap[k]? =some o->k≠p->(∀c d,o≠.cells c 999983 d)->w'.heap[k]? =some o
theorem KQ.refl (p:Nat) (w:World):KQ p w w:=⟨aD _,fun _ _ h _ _=>h⟩
theorem KQ.trans {p:Nat} {a b c:World} (h:KQ p a b) (k:KQ p b c):KQ p a c:=⟨aR h.1 k.1,fun i o A d e=>k.2 i o (h.2 i o A d e) d e⟩
theorem KQ.below {p:Nat} {w w':World} (h:Below w.heap.size w w'):KQ p w w':=⟨h.size,fun k _ d _ _=>(h.block k (fE.1 d).1).trans d⟩
theorem KQ.row {p g:Nat} {w w':World} {l:List (Int×Int)} {R:List Value} (d:gO w g l R) (h:w.grownBy w' (some g)):KQ p w w':=⟨h.size,fun k o A _ D=>by
 refine(h.block k (fE.1 A).1 (fun e=>?_)).trans A;obtain rfl:=cC e;unfold gO Arr at d;rw[A] at d;exact D _ _ (cC d)⟩
theorem KQ.box {p i:Nat} {w:World} (v:Value):KQ p w (w.setCell ⟨p,i,none⟩ v):=⟨by simp,fun k o d e _=>by rw[heap_setCell_other w ⟨p,i,none⟩ k v e];exact d⟩
theorem KQ.arr {p b e:Nat} {w w':World} {l:List Value} (h:KQ p w w') (d:Arr w b e l) (A:b≠p) (D:e≠999983):Arr w' b e l:=h.2 b _ d A (fun c F q=>by injection q with _ q2;exact D q2)
theorem gO.take {w:World} {g:Nat} {l:List (Int×Int)} {R:List Value} (h:gO w g l R) (m:Nat):gO w g (l.take m) (prC ((l.drop m).map pr)++R):=by
 unfold gO at h ⊢;rw[<-List.append_assoc,<-aFg,<-List.map_append,List.take_append_drop];exact h
theorem gO.grown {w w':World} {g z:Nat} {l:List (Int×Int)} {R:List Value} (h:gO w g l R) (d:w.grownBy w' (some z)) (A:g≠z):gO w' g l R:=Arr.grown h d (fun e=>A (cC e))
def Fst (L:List (Int×Int)) (i m k f:Nat):Prop:=(f=i\/(0<f/\f<m/\(f-1)/2=i/\ahd (L.getD f (0,0)) (L.getD i (0,0))))/\(∀j,0<j->j<m->(j-1)/2=i->j<k->¬ahd (L.getD j (0,0)) (L.getD f (0,0)))
theorem Fst.no {L:List (Int×Int)} {i m k f:Nat} (h:Fst L i m k f) (d:¬ahd (L.getD k (0,0)) (L.getD f (0,0))):Fst L i m (k+1) f:=
 ⟨h.1,fun j A D F G=>by
  by_cases e:j=k
  ·subst e;exact d
  ·exact h.2 j A D F (by omega)⟩
structure uY (p g z2 z3 m cap:Nat) (y:Int×Int) (L:List (Int×Int)) (R:List Value) (w W:World):Prop where
 box:Arr W p 999983 [.slice (some ⟨g,0,none⟩) m cap,rU]
 row:gO W g L R
 res:Arr W z2 999983 [.int .i64 0,.int .i64 0]
 top:Arr W z3 999983 [.int .i64 y.1,.int .i64 y.2]
 bel:Below p w W
 kq:KQ p w W
theorem uY.below {p g e A m cap:Nat} {y:Int×Int} {L:List (Int×Int)} {R:List Value} {w W D:World} (h:uY p g e A m cap y L R w W) (d:Below W.heap.size W D):uY p g e A m cap y L R w D:=
 ⟨h.box.below d h.box.lt,Arr.below h.row d (Arr.lt h.row),h.res.below d h.res.lt,h.top.below d h.top.lt,h.bel.trans (d.mono (nG h.box.lt)),h.kq.trans (KQ.below d)⟩
theorem uY.put {p g e A m cap:Nat} {y:Int×Int} {L:List (Int×Int)} {R:List Value} {w W D:World} (h:uY p g e A m cap y L R w W) (d:W.grownBy D (some g)) (J:g≠e) (M:g≠A) (O:p<g) {F:List (Int×Int)} (G:gO D g F R):uY p g e A m cap y F R w D:=
 ⟨h.box.grown d (by simp;omega),G,h.res.grown d (by simp;omega),h.top.grown d (by simp;omega),h.bel.grown d (nG h.box.lt) (fun k I=>by obtain rfl:=cC I;omega),h.kq.trans (KQ.row h.row d)⟩
theorem QU.below {w w':World} {p B:Nat} {l:List (Int×Int)} (h:QU w p B l) (d:Below w.heap.size w w'):QU w' p B l:=by
 obtain⟨v,e,A⟩:=h;exact⟨v,e.below d e.lt,A.below d (aD _)⟩
theorem QU.grown {w w':World} {p B b:Nat} {l:List (Int×Int)} {A:List Value} (h:QU w p B l) (D:Arr w b 3 A) (d:w.grownBy w' (some b)) (G:b≠p):QU w' p B l:=by
 obtain⟨v,F,e⟩:=h;refine⟨v,F.grown d (by simp;omega),e.kept d ?_⟩;exact .inr (MG D e (by decide)).symm
def QR (w:World) (p:Nat) (r:cE):Prop:=∃l,QU w p (p+1) l/\oG l/\l.Perm (rT r)
theorem QR.below {w w':World} {p:Nat} {r:cE} (h:QR w p r) (d:Below w.heap.size w w'):QR w' p r:=by
 obtain⟨l,e,A,D⟩:=h;exact⟨l,e.below d,A,D⟩
theorem QR.grown {w w':World} {p b:Nat} {r:cE} {d:List Value} (h:QR w p r) (e:Arr w b 3 d) (A:w.grownBy w' (some b)) (D:b≠p):QR w' p r:=by
 obtain⟨l,F,G,I⟩:=h;exact⟨l,F.grown e A D,G,I⟩
def nO (w:World) (B:Nat) (v:Value) (l:List Int):Prop:=∃b R,v=.slice (some ⟨b,0,none⟩) l.length l.length/\B<=b/\Arr w b 3 (l.map (Value.int .i64)++R)
theorem nO.rd {w:World} {B:Nat} {v:Value} {l:List Int} (h:nO w B v l) (A:l.length<=1000000):RdI w v l:=by
 obtain⟨b,R,rfl,D,e⟩:=h;refine⟨_,_,rfl,aD _,by unfold maxLen;omega,.inr ⟨b,0,rfl,e.lt,fun j d=>?_⟩⟩;rw[Nat.zero_add];exact e.cell (by rw[nE d,aN d,bV,aN d];rfl)
theorem nO.below {w w':World} {B:Nat} {v:Value} {l:List Int} (h:nO w B v l) (A:Below w.heap.size w w'):nO w' B v l:=by
 obtain⟨b,R,e,D,d⟩:=h;exact⟨b,R,e,D,d.below A d.lt⟩
end
section
open Go.RowKit Go Go.Shelf
attribute [local go_sem] Oper.semAt_some
def KpA (d:Nat) (A B:World):Prop:=A.heap.size<=B.heap.size/\∀k o,(k=d\/k=d+1)->A.heap[k]? =some o->o.isCells=true->B.heap[k]? =some o
theorem KpA.trans {d:Nat} {A B C:World} (h:KpA d A B) (k:KpA d B C):KpA d A C:=by grind [KpA]
theorem KpA.put {d B:Nat} (_:d+1<B) (W:World) (l:Nat) (o e:Obj) (D:B<=l) (_:W.heap[l]? =some o) (_:o.isCells=false) (_:o.isWalk=false):KpA d W (W.putObj l e):=
 ⟨by simp,fun k q F A _=>by rw[World.putObj_heap_other (by omega)];exact A⟩
theorem KpA.arr {d b e:Nat} {A B:World} {l:List Value} (h:KpA d A B) (D:Arr A b e l) (F:b=d\/b=d+1):Arr B b e l:=h.2 b _ F D rfl
end
section
open Go.RowKit Go Go.Shelf
def mJ (d e:Nat) (A B:World):Prop:=A.heap.size<=B.heap.size/\∀k,k<A.heap.size->k≠d->k≠e->B.heap[k]? =A.heap[k]?
theorem mJ.refl (d e:Nat) (A:World):mJ d e A A:=⟨aD _,fun _ _ _ _=>rfl⟩
theorem mJ.trans {d e:Nat} {A B C:World} (h:mJ d e A B) (k:mJ d e B C):mJ d e A C:=⟨aR h.1 k.1,fun i D F G=>(k.2 i (Nat.lt_of_lt_of_le D h.1) F G).trans (h.2 i D F G)⟩
theorem mJ.cell {d e:Nat} {A B:World} (h:mJ d e A B) {b o:Nat} {v:Value} (D:A.cell? ⟨b,o,none⟩=some v) (F:b≠d) (G:b≠e):B.cell? ⟨b,o,none⟩=some v:=by
 rw[<-D];exact World.cell?_of_block (h.2 b (World.block_lt_of_cell? A _ D) F G)
theorem mJ.arr {d D:Nat} {A B:World} (h:mJ d D A B) {b e:Nat} {l:List Value} (F:Arr A b e l) (G:b≠d) (I:b≠D):Arr B b e l:=(h.2 b F.lt G I).trans F
def LF (w:World) (B:Nat) (d:List Value) (e:List (List Int)):Prop:=d.length=e.length/\∀(j:Nat) (x:Value) (g:List Int),d[j]? =some x->e[j]? =some g->nO w B x g
theorem LF.nil (w:World) (B:Nat):LF w B [] []:=⟨rfl,fun j x g h=>by simp at h⟩
theorem LF.map {w w':World} {B d:Nat} {e:List Value} {A:List (List Int)} (h:LF w B e A) (k:∀(x:Value) (g:List Int),nO w B x g->nO w' d x g):LF w' d e A:=⟨h.1,fun j x g D F=>k x g (h.2 j x g D F)⟩
theorem LF.below {w w':World} {B:Nat} {d:List Value} {e:List (List Int)} (h:LF w B d e) (A:Below w.heap.size w w'):LF w' B d e:=h.map (fun _ _ k=>k.below A)
theorem nO.kept {w w':World} {B A:Nat} {v u:Value} {l:List Int} {D:List Value} (h:nO w B v l) (F:Ow w A 53 u D) (G:w.grownBy w' u.ownBlock):nO w' B v l:=by
 obtain⟨b,R,e,I,d⟩:=h;exact⟨b,R,e,I,d.grown G (MG d F (by decide))⟩
end
end Go.Proofs.YtfckbfofgeilgaaGreatDoor

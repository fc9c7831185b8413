/-
  Texts put together (part 24): the walks and the plain laws on which the statement stands.
-/
import Derived.Test.YtfckbfofgeilgaaGreatDoorZ22
import Derived.Test.YtfckbfofgeilgaaGreatDoorZ23
set_option maxRecDepth 100000
set_option maxHeartbeats 12800000
set_option linter.unusedVariables false
set_option linter.unusedSimpArgs false
open Go.Proofs.Tryz
open Go.Proofs.Tryz renaming prog->pG
open Go renaming callsD_of_wpS->OT,heap_setCell_other->kF
open Go.Act renaming put->bJ
open Go.Instr renaming typeAssert->tZ
open Go.RowKit.Below renaming refl->aH
open Go.World renaming cell?_setCell_other->lI
open List renaming setIfInBounds_toArray->bK,set_cons_succ->bB,set_cons_zero->bH
open Nat renaming le_refl->aD
open Option.some renaming inj->cC,injEq->lJ
namespace Go.Proofs.YtfckbfofgeilgaaGreatDoor
open Go.RowKit Go Go.Shelf
theorem bCj (b:Nat) (s:ByteArray) (a k:Nat) (J ch L:Value) (W:World) (A:BRd W b s a J ch L) (M:s.size<=1000000) (R:k<=48) (U:a<=9223372036854775807) (D:aP s.size (a:Int) k≠0):
  Calls pG 172 #[.pointer (some ⟨b,0,none⟩),.int .i64 (k:Int)] W fun e w'=>e=.panicked (rS (aP s.size (a:Int) k))/\W.grownBy w' (some b):=by
 have F:=fun W=>uQ s (a:Int) k W M (by omega) (by omega) (by omega)
 obtain⟨E,d⟩:=ex1 (aP s.size (a:Int) k);obtain⟨V,G⟩:=ex1 (aK s.data.toList (a:Int) k);rw[<-d] at D ⊢;rw[<-d,<-G] at F;clear d G;have Y:=Arr.cell A (i:=0) rfl;have Z:=Arr.cell A (i:=1) rfl;have hor:=fun W=>zU E W
 go_enter func172,ntmps172;go_wp2_with fail
 go_quiet (first|(go_at_call 149;exact Calls.quiet_of_same (F _)))
 have O:W.grownBy (W.drewN nq) (some b):=⟨rfl,rfl,rfl,aD _,fun _ _ _=>rfl⟩;generalize W.drewN nq=W1 at*
 go_wp2_with fail;refine(hor _).mono ?_;rintro e w2 (⟨I,rfl,rfl⟩|⟨I,rfl,rfl⟩)
 ·exact absurd I D
 ·go_wp2_with fail;exact⟨rfl,rfl,O⟩
def aIy (w w':World) (b:Nat) (s:ByteArray) (a:Nat) (room:Int) (e:Ending):Prop:=
 (∃E,E≠0/\cO s.data.toList (a:Int) room=(dN,0,0,E)/\e=.panicked (rS E)/\w.grownBy w' (some b))\/
 (∃(O:List UInt8) (V p:Nat) (d A D:Value),e=.returned (.tuple #[.string (mkS O),.int .u32 (V:Int)])/\BRd w' b s p d A D/\w.grownBy w' (some b)/\
  cO s.data.toList (a:Int) room=(if(cH O).toNat≠V then(dN,0,0,7) else(mkS O,(V:Int),(p:Int),0))/\O.length<=100000/\V<4294967296)
theorem wO {w w':World} {b:Nat} {s:ByteArray} {a:Nat} {room E:Int} (h:cO s.data.toList (a:Int) room=(dN,0,0,E)) (d:E≠0) (e:w.grownBy w' (some b)):aIy w w' b s a room (.panicked (rS E)):=.inl ⟨E,d,h,rfl,e⟩
theorem bCk (b:Nat) (s:ByteArray) (a R:Nat) (w:World) (hA:BRd w b s a (.slice none 0 0) (.slice none 0 0) (.int .i64 0)) (hs:s.size<=120000) (ha:a<=9223372036854775807) (l6:1<=R) (l7:R<=360) (f9:∀W,w.grownBy W (some b)->dU W):
  Calls pG 157 #[.pointer (some ⟨b,0,none⟩),.int .i64 (R:Int)] w fun e w'=>aIy w w' b s a (R:Int) e:=by
 have HL:=hid (mV s);have l8:b<w.heap.size:=Arr.lt hA;have d:=UJ s.data.toList (a:Int) (R:Int);rw[HL.out,aA (by omega)] at d
 by_cases h1:aP s.size (a:Int) 48=0
 rotate_left
 ·rw[aB h1] at d;have F:=hid d;clear d;go_enter func157,ntmps157;go_wp2_with fail;refine(bCj b s a 48 _ _ _ w hA (by omega) (by decide) ha h1).mono ?_;rintro e w1 ⟨rfl,a1⟩;go_wp2_with fail;exact⟨rfl,wO F.out h1 a1⟩
 rw[aA (fun k=>k h1)] at d;have j9:=iG h1;have l9:a<=960000:=by omega
 have b0:=FN b s a 48 (.slice none 0 0) (.slice none 0 0) (.int .i64 0) w hA (by omega) (by decide) (by omega);have b1:=fun W h=>FN b s (a+48) 32 (.slice none 0 0) (.slice none 0 0) (.int .i64 0) W h (by omega) (by decide) (by omega)
 have b2:=fun W h=>FN b s (a+48+32) 16 (.slice none 0 0) (.slice none 0 0) (.int .i64 0) W h (by omega) (by decide) (by omega)
 rw[show(((a+48:Nat):Int))=(a:Int)+48 by push_cast;rfl] at b1;rw[show(((a+48+32:Nat):Int))=(a:Int)+80 by push_cast;omega] at b2;have c7:=jV s.data.toList (a:Int) 48;have b3:=jV s.data.toList ((a:Int)+48) 32;have d3:=jV s.data.toList ((a:Int)+80) 16;rw[h1] at b0;obtain⟨V1,g0⟩:=ex1 (aK s.data.toList (a:Int) 48);obtain⟨E2,d5⟩:=ex1 (aP s.size ((a:Int)+48) 32);obtain⟨V2,d6⟩:=ex1 (aK s.data.toList ((a:Int)+48) 32);obtain⟨E3,d7⟩:=ex1 (aP s.size ((a:Int)+80) 16);obtain⟨U,d8⟩:=ex1 (aK s.data.toList ((a:Int)+80) 16);rw[<-g0] at b0 c7 d;rw[<-d5,<-d6] at b1;rw[<-d5] at d
 rw[<-d6] at b3 d;rw[<-d7,<-d8] at b2;rw[<-d7] at d;rw[<-d8] at d3 d;have c7:V1<281474976710656:=c7;have b3:V2<4294967296:=b3;have d3:U<65536:=d3;clear d5 d7 g0 d6 d8;go_enter func157,ntmps157;go_wp2_with fail;refine b0.mono ?_;rintro e w1 (⟨d9,rfl,g1,a1⟩|⟨d9,rfl,a1⟩)
 rotate_left
 ·exact absurd rfl d9
 clear d9 h1 b0 j9 hA
 by_cases h2:V1=54156738319193
 rotate_left
 ·have v1:((V1:Int)==54156738319193)=false:=by rw[cB];omega
  have v2:(V1==54156738319193)=false:=by rw[cB];exact h2
  rw[aB h2] at d;have F:=hid d;clear d;go_wp2_with fail;refine(tW false 3 _ (by decide)).mono ?_;rintro e w2 (⟨D,rfl,rfl⟩|⟨D,rfl,rfl⟩)
  ·exact absurd D (by decide)
  go_wp2_with fail;exact⟨rfl,wO F.out (by decide) a1⟩
 rw[aA (fun k=>k h2)] at d;have v1:((V1:Int)==54156738319193)=true:=by rw[beq_iff_eq];omega
 have v2:(V1==54156738319193)=true:=by rw[beq_iff_eq];exact h2
 clear h2;go_wp2_with fail;refine(tW true 3 _ (by decide)).mono ?_;rintro e w2 (⟨D,rfl,rfl⟩|⟨D,rfl,rfl⟩)
 rotate_left
 ·exact absurd D (by decide)
 clear v1 v2;go_wp2_with fail;refine(b1 _ g1).mono ?_;rintro e w2 (⟨h3,rfl,g2,a2⟩|⟨h3,rfl,a2⟩)
 rotate_left
 ·rw[aB h3] at d;have F:=hid d;clear d;go_wp2_with fail;exact⟨rfl,wO F.out h3 (gbT a1 a2)⟩
 rw[aA (fun k=>k h3)] at d;have a2:=gbT a1 a2;clear b1 g1 a1 h3;have m9:IntKind.u32.wrap (V2:Int)=(V2:Int):=by rw[IntKind.wrap_u32];omega
 have k0:(V2:Int)%4294967296=(V2:Int):=by omega
 go_wp2_with fail;refine(b2 _ g2).mono ?_;rintro e w3 (⟨h4,rfl,e3,Y⟩|⟨h4,rfl,Y⟩)
 rotate_left
 ·rw[aB h4] at d;have F:=hid d;clear d;go_wp2_with fail;exact⟨rfl,wO F.out h4 (gbT a2 Y)⟩
 rw[aA (fun k=>k h4)] at d;have Y:=gbT a2 Y;obtain⟨A,g3⟩:=ex1 (a+48+32+16);rw[<-g3] at e3;rw[show(a:Int)+96=(A:Int) by omega] at d;have m0:A<=960096:=by omega
 have b4:=aH4 (s:=s.data.toList) (a:=(A:Int));have b5:=fun W=>bCi s (A:Int) W (by omega) (by omega) (by omega)
 obtain⟨G,U2,U3,hU⟩:∃G U2 U3,dF s.data.toList (A:Int)=(G,U2,U3):=⟨_,_,_,rfl⟩;rw[hU] at b5 b4 d;simp only at b5 b4 d;have I:=hid d;have g4:=hid b4;have a7:=Arr.new w3 140 [.string ⟨#[]⟩,.int .i64 (U:Int),.slice none 0 0];change Arr (w3.alloc (.cells #[.string ⟨#[]⟩,.int .i64 (U:Int),.slice none 0 0] 140)) _ _ _ at a7;have a3:=Arr.alloc e3 (.cells #[.string ⟨#[]⟩,.int .i64 (U:Int),.slice none 0 0] 140);have g5:=gbT Y (gbB (g:=some b) (bD (aH _ w3) (.cells #[.string ⟨#[]⟩,.int .i64 (U:Int),.slice none 0 0] 140)));have d0:=Arr.cell a3 (i:=0) rfl;have d1:=Arr.cell a3 (i:=1) rfl
 have d4:=Arr.cell a3 (i:=4) rfl;clear b2 g2 a2 h4 g3 hU d b4 e3 m9 k0;go_upto_region 4 with fail;obtain⟨z,hz⟩:=ex1 (w3.heap.size);have m1:b<z:=by have:=Y.size;omega
 have m2:w.heap.size<=z:=by have:=Y.size;omega
 rw[<-hz] at a7 ⊢;generalize w3.alloc (.cells #[.string ⟨#[]⟩,.int .i64 (U:Int),.slice none 0 0] 140)=Z at*
 clear hz Y
 go_cut [8,9,10] (fun c8 c9 k5 wx=>c8=.string (mkS G)/\c9=.int .i64 U2/\k5=.int .i64 U3/\Below Z.heap.size Z wx)
 case first=>
  obtain⟨B3,g6⟩:=ex1 (Z.heap.size);have k6:=hid g6;have m3:=oF (B:=B3) (w0:=Z) ⟨d0,d1,d4,aH _ _,by omega⟩ (aH Z.heap.size Z).drew;clear g6 d0 d1 d4
  go_region_held3 (fun w'=>w'.cell? ⟨b,0,none⟩=some (.string s)/\w'.cell? ⟨b,1,none⟩=some (.int .i64 (A:Int))/\w'.cell? ⟨b,4,none⟩=some (.int .i64 0)/\Below B3 Z w'/\B3<=w'.heap.size)
   (first
    |with_reducible assumption
    |with_reducible exact oF (by assumption) (by assumption))
   (first
    |(go_at_call 173;refine(b5 _).mono ?_;rintro e w5 ⟨rfl,a8⟩))
  have k7:=(show w5.cell? ⟨b,0,none⟩=some (.string s)/\w5.cell? ⟨b,1,none⟩=some (.int .i64 (A:Int))/\w5.cell? ⟨b,4,none⟩=some (.int .i64 0)/\Below B3 Z w5/\B3<=w5.heap.size by assumption);go_wp2_with fail;go_meet;exact⟨rfl,rfl,rfl,by rw[<-k6.out];exact k7.2.2.2.1⟩
 case rest=>
  obtain⟨rfl,rfl,rfl,a8⟩:=hcut;have g7:=Arr.below a3 a8 (Arr.lt a3);have g8:=a7.below a8 (Arr.lt a7);have e4:=gbT g5 (gbB a8);clear b5 d0 d1 d4 a3 a7 g5 a8;go_wp2_with fail;refine(MK b s A U2 U3 _ _ _ wc g7).mono ?_;rintro e w6 (⟨rfl,rfl,g9,V⟩|⟨D,rfl,rfl⟩)
  rotate_left
  ·have d:=I.out;rw[aB D] at d;have F:=hid d;clear d;go_wp2_with fail;exact⟨rfl,wO F.out D e4⟩
  have d:=I.out;rw[aA (fun k=>k rfl)] at d;obtain⟨k1,k2,k3⟩:=g4.out rfl;obtain⟨p,rfl⟩:∃p:Nat,U2=(p:Int):=⟨U2.toNat,by omega⟩;have m4:p<=960368:=by omega
  obtain⟨C,hC⟩:=ex1 (G.length+2);have b6:2<=C/\C<=258:=by omega
  rw[show(G.length:Int)+2=(C:Int) by omega] at d;have b7:=g8.grown V (by simp only[ne_eq,lJ];omega);have V:=gbT e4 V;have m5:(mkS G).size<=256:=by rw[cS];exact k1
  have e5:=aA3 (mkS G) (U:Int) (.slice none 0 0) rfl (w6.setCell ⟨z,0,none⟩ (.string (mkS G))) (by omega);rw[show((mkS G).size:Int)+2=(C:Int) by rw[cS];omega] at e5;have a4:=b7.set 0 (.string (mkS G));have e6:BRd (w6.setCell ⟨z,0,none⟩ (.string (mkS G))) b s p (.slice none 0 0) (.slice none 0 0) (.int .i64 0):=Arr.other g9 ⟨z,0,none⟩ (by simp only[ne_eq];omega) _;have i0:w.grownBy (w6.setCell ⟨z,0,none⟩ (.string (mkS G))) (some b):=⟨V.os,V.tape,V.output,by have:=V.size;simpa using this,fun k hk e7=>by
   rw[kF w6 ⟨z,0,none⟩ k _ (by simp only[ne_eq];omega)];exact V.block k hk e7⟩
  have d0:=b7.cell (i:=0) rfl;have f0:=b7.free 0;have e0:=a4.cell (i:=0) rfl;have e1:=a4.cell (i:=1) rfl;have e2:=a4.cell (i:=2) rfl;have I:=hid d;clear d hC g7 g8 e4 g9 k2 k3 g4;go_wp2_with fail;refine e5.mono ?_;rintro e w8 ⟨rfl,b8⟩;have b9:=Arr.below e6 b8 (Arr.lt e6);have i1:=a4.below b8 (Arr.lt a4);have i2:=gbT i0 (gbB b8);have d4:=Arr.cell b9 (i:=4) rfl;have f4:=Arr.free b9 4;have i3:BRd (w8.setCell ⟨b,4,none⟩ (.int .i64 (C:Int))) b s p (.slice none 0 0) (.slice none 0 0) (.int .i64 (C:Int)):=Arr.set b9 4 _;have i4:=i1.other ⟨b,4,none⟩ (by simp only[ne_eq];omega) (.int .i64 (C:Int))
  have e8:=gbT i2 (gbS w8 b 4 (.int .i64 (C:Int)));clear e5 d0 f0 e0 e1 e2 b7 a4 e6 V i0 b8;go_wp2_with fail;clear d4 f4;generalize w8.setCell ⟨b,4,none⟩ (.int .i64 (C:Int))=w9 at*
  clear i1 b9 i2;refine(bCh b s p C w9 i3 (by omega) (by omega) b6.1 b6.2).mono ?_;rintro e i5 (⟨D,c0,rfl,a0⟩|⟨rfl,p2,vt,vc,T,ch,c0,i6,a0,i7,i8,i9,j0,j1,j2,j3,k8⟩)
  ·have d:=I.out;rw[aB D] at d;have F:=hid d;obtain⟨E,hE⟩:=ex1 ((dW s.data.toList (p:Int) (C:Int)).2.2);rw[<-hE] at D F ⊢;clear d hE c0 I;go_wp2_with fail;exact⟨rfl,wO F.out D (gbT e8 a0)⟩
  have d:=I.out;have a5:=RZ (s:=s.data.toList) (at':=(p:Int)) (codes:=(C:Int));have a6:=bCf b s p2 C vt vc T ch i5 i6 (by omega) k8 i7 i8 i9 j0 j1 j2 j3 b6.1 b6.2;unfold NA at a6;rw[c0] at d a5;obtain⟨L,P,K,hL⟩:∃L P K,jW s.data.toList (p2:Int) T ch ((C:Int)-1)=(L,P,K):=⟨_,_,_,rfl⟩;rw[hL] at a6 a5 d;simp only at a6 a5 d;rw[HL.out] at a5;have e9:=i4.grown a0 (by simp only[ne_eq,lJ];omega);have a0:=gbT e8 a0;have k9:=Arr.lt e9;have I:=hid d;have j4:=hid a5;clear hL c0 d a5 i7 i8 i9 j0 j1 j2 j3 i4 e8 i3 i6;go_wp2_with fail;refine a6.mono ?_
  rintro e a9 (⟨D,⟨v,rfl,ho⟩,⟨p3,rfl,j5⟩,J⟩|⟨D,rfl,J⟩)
  rotate_left
  ·have d:=I.out;rw[aB D] at d;have F:=hid d;clear d a6;go_wp2_with fail;exact⟨rfl,wO F.out D (gbT a0 J)⟩
  subst D;have d:=I.out;rw[aA (fun k=>k rfl)] at d;obtain⟨_,_,_,_,k4,_,_⟩:=j4.out rfl;obtain⟨av,cv,rfl,_,_,_⟩:=(OwI.rd ho).open;have c1:=e9.grown J (by simp only[ne_eq,lJ];omega);have J:=gbT a0 J;have c2:=c1.set 2 (.slice av L.length cv);have f1:BRd (a9.setCell ⟨z,2,none⟩ (.slice av L.length cv)) b s p3 vt vc (.int .i64 (C:Int)):=Arr.other j5 ⟨z,2,none⟩ (by simp only[ne_eq];omega) _;have f3:w.grownBy (a9.setCell ⟨z,2,none⟩ (.slice av L.length cv)) (some b):=⟨J.os,J.tape,J.output,by have:=J.size;simpa using this,fun k hk e7=>by
   rw[kF a9 ⟨z,2,none⟩ k _ (by simp only[ne_eq];omega)];exact J.block k hk e7⟩
  have j6:OwI (a9.setCell ⟨z,2,none⟩ (.slice av L.length cv)) i5.heap.size (.slice av L.length cv) L:=Ow.kept ho (gbS a9 z 2 _) (lD ho k9);have j7:=f9 _ f3;have c3:=aR9 (mkS G) (U:Int) (.slice av L.length cv) L (R:Int) _ j7 (by omega) (OwI.rd j6) (by omega) (by omega) (by omega) (by omega) (by omega);have c4:=aH3 (mkS G) (U:Int) L (R:Int);obtain⟨Q,RE,hR⟩:∃Q RE,rest (mkS G) (U:Int) L (R:Int)=(Q,RE):=⟨_,_,rfl⟩;rw[hR] at c3 c4 d;simp only at c3 c4 d;have d2:=c1.cell (i:=2) rfl;have f2:=c1.free 2;have e0:=c2.cell (i:=0) rfl;have e1:=c2.cell (i:=1) rfl;have e2:=c2.cell (i:=2) rfl
  have I:=hid d;clear hR d e9 a0 c1 J j5 ho j6 j7 c2 a6 j4 f9;go_wp2_with fail;refine c3.mono ?_;rintro e l1 ⟨rfl,f5⟩;have f6:=Arr.below f1 f5 (Arr.lt f1);have f7:=gbT f3 (gbB f5);clear c3 d2 f2 e0 e1 e2 f1 f3 f5;go_wp2_with fail;refine(zU RE l1).mono ?_;rintro e l2 (⟨rfl,rfl,rfl⟩|⟨D,rfl,rfl⟩)
  rotate_left
  ·have d:=I.out;rw[aB D] at d;have F:=hid d;clear d;go_wp2_with fail;exact⟨rfl,wO F.out D f7⟩
  have d:=I.out;rw[aA (fun k=>k rfl)] at d;have c4:=c4 rfl;obtain⟨M,hM⟩:=ex1 (52*R);have m8:IntKind.i64.wrap (52*(R:Int))=(M:Int):=by rw[IntKind.wrap_i64];omega
  have l3:52*(R:Int)=(M:Int):=by omega
  have m6:M<=18720:=by omega
  rw[l3] at d;have c5:=bAm Q M l2 (by omega) (by omega);have c6:=aIx (p:=Q.data.toList) (most:=(M:Int));obtain⟨O,OE,hO⟩:∃O OE,jX Q.data.toList (M:Int)=(O,OE):=⟨_,_,rfl⟩;rw[hO] at c5 c6 d;simp only at c5 c6 d;have I:=hid d;clear hO d hM;go_wp2_with fail;refine c5.mono ?_;rintro e l4 ⟨rfl,f8⟩;have l5:=Arr.below f6 f8 (Arr.lt f6);have j8:=gbT f7 (gbB f8);clear c5 f6 f7 f8;go_wp2_with fail;refine(zU OE l4).mono ?_;rintro e m7 (⟨rfl,rfl,rfl⟩|⟨D,rfl,rfl⟩)
  rotate_left
  ·have d:=I.out;rw[aB D] at d;have F:=hid d;clear d;go_wp2_with fail;exact⟨rfl,wO F.out D j8⟩
  have d:=I.out;rw[aA (fun k=>k rfl)] at d;have F:=hid d;have c6:=c6 rfl;clear d;go_wp2_with fail
  go_ret2
  exact .inr ⟨O,V2,p3,vt,vc,_,rfl,l5,j8,F.out,by omega,b3⟩
theorem bCl (p q:Addr) (w:World):
  CallsD pG 156 #[.pointer (some p),.pointer (some q)] .returning w fun e d w'=>e=.returned (.tuple #[])/\d=.returning/\w'=w:=by
 refine OT func156 rfl fun A F D=>?_
 apply wpS_seq;apply wpS_region;simp[wpOpsS,go_sem,recoverD,D,ntmps156,Exit.thenS];refine wpS_of_wp ?_;go_wp2
 cases A
 simp_all [bodyPostS,results,f156]
theorem bCm (v:Value) (d:TypeId) (w:World):(tZ (.iface 257 v) d 257 true).run pG w=.ok (.tuple #[v,.bool true]) w:=by
 simp[tZ,run_underlying underlying257]
theorem aIz {w W:World} {z:Nat} {F G I J L:Value} (M:Arr W z 89 [F,G,I,J]) (O:Arr W (z+1) 27 [L]) (R:Below z w W) (e A y2 D d:Value):
  Arr (((((W.setCell ⟨z,0,none⟩ e).setCell ⟨z,1,none⟩ A).setCell ⟨z,2,none⟩ y2).setCell ⟨z,3,none⟩ D).setCell ⟨z+1,0,none⟩ d) z 89 [e,A,y2,D]/\
  Arr (((((W.setCell ⟨z,0,none⟩ e).setCell ⟨z,1,none⟩ A).setCell ⟨z,2,none⟩ y2).setCell ⟨z,3,none⟩ D).setCell ⟨z+1,0,none⟩ d) (z+1) 27 [d]/\
  Below z w (((((W.setCell ⟨z,0,none⟩ e).setCell ⟨z,1,none⟩ A).setCell ⟨z,2,none⟩ y2).setCell ⟨z,3,none⟩ D).setCell ⟨z+1,0,none⟩ d):=by
 obtain⟨U,V⟩:=tA M R e A y2 D;have Z:(z+1)≠z:=by omega
 have Y:=(((O.other ⟨z,0,none⟩ (by simp) e).other ⟨z,1,none⟩ (by simp) A).other ⟨z,2,none⟩ (by simp) y2).other ⟨z,3,none⟩ (by simp) D;exact⟨U.other ⟨z+1,0,none⟩ (by simp) d,Y.set 0 d,V.setCell (p:=⟨z+1,0,none⟩) (Nat.le_succ _) d⟩
theorem bCn {P:Program} {A:Func} {p q:Tmp} {D F:TypeId} (h:A.results=#[.cell p D,.cell q F]) (tmps:Array Value) (w:World) (d e:Addr) (G I:Value)
  (J:tmps.getD p undef=.pointer (some d)) (L:tmps.getD q undef=.pointer (some e))
  (M:(loadVar D d).run P w=.ok G w) (O:(loadVar F e).run P w=.ok I w):
  (results A tmps).run P w=.ok (.tuple #[G,I]) w:=by
 have R:tmps[p]?.getD undef=.pointer (some d):=by simpa using J
 have U:tmps[q]?.getD undef=.pointer (some e):=by simpa using L
 simp[results,h,R,U,asAddr,M,O,Result.andThen]
theorem NB {W:World} {z:Nat} {d e y2 A u:Value} {tmps:Array Value} (D:Arr W z 89 [d,e,y2,A]) (F:Arr W (z+1) 27 [u]) (_hu:u.oneCell'=true)
  (G:tmps.getD 6 undef=.pointer (some ⟨z,0,none⟩)) (I:tmps.getD 7 undef=.pointer (some ⟨z+1,0,none⟩)):
  (results f130 tmps).run pG W=.ok (.tuple #[.agg #[d,e,y2,A],u]) W:=by
 have J:=F.cell (i:=0) rfl;exact bCn rfl tmps W ⟨z,0,none⟩ ⟨z+1,0,none⟩ _ _ G I (run_loadVar_row W z 89 89 _ (0,0) _ D underlying89 rfl aH2) (by simp[go_sem,J])
theorem bCo (z:Nat) (E:Int) (I:List PanicEntry) (w:World) (V Y y2 Z x7:Value) (g6:Arr w z 89 [V,Y,y2,Z]) (J:Arr w (z+1) 27 [x7]):
  CallsD pG 156 #[.pointer (some ⟨z,0,none⟩),.pointer (some ⟨z+1,0,none⟩)] (.panicking ({v:=.iface 257 (.agg #[.int .i64 E]),recovered:=false}::I)) w fun e u' w'=>
   e=.returned (.tuple #[])/\u'=.panicking ({v:=.iface 257 (.agg #[.int .i64 E]),recovered:=true}::I)/\Arr w' z 89 [.string ⟨#[]⟩,.int .u32 0,.int .i64 0,.int .i64 0]/\Arr w' (z+1) 27 [.int .i64 E]/\Below z w w':=by
 refine OT func156 rfl fun c₀ cs hu=>?_
 apply wpS_seq;apply wpS_region;simp[wpOpsS,go_sem,recoverD,hu,ntmps156,Exit.thenS];refine wpS_of_wp ?_;simp only[Array.replicate_succ,Array.replicate_zero,List.push_toArray,List.append_toArray,List.nil_append,List.cons_append,bK,bH,bB];have a8:=bCm (.agg #[.int .i64 E]);go_wp2_with fail;have a0:=g6.alloc (.cells #[.int .i64 E] 257);have a1:=J.alloc (.cells #[.int .i64 E] 257);have D:=bX w (.int .i64 E) 257;have a5:=J.lt;have a2:Below z w (w.alloc (.cells #[.int .i64 E] 257)):=(aH z w).alloc (by omega) _
 generalize w.alloc (.cells #[.int .i64 E] 257)=F at*
 obtain⟨G,a3⟩:=ex1 (w.heap.size);rw[<-a3] at D a5 ⊢;clear a3 g6 J;have L:=a2.drew;have d:Arr F.drew z 89 [V,Y,y2,Z]:=a0;have M:Arr F.drew (z+1) 27 [x7]:=a1;have O:F.drew.cell? ⟨G,0,none⟩=some (.int .i64 E):=D;refine wp_region_held_drew (S:=fun w'=>w'.cell? ⟨G,0,none⟩=some (.int .i64 E)) (by kernel_rfl) D (fun a9=>?_);generalize F.drew=w2 at*
 obtain⟨k6,a6⟩:=tA d L (.string ⟨#[]⟩) (.int .u32 0) (.int .i64 0) (.int .i64 0);obtain⟨q6,q7,qb⟩:=aIz d M L (.string ⟨#[]⟩) (.int .u32 0) (.int .i64 0) (.int .i64 0) (.int .i64 E);have R:=(((M.other ⟨z,0,none⟩ (by simp) (.string ⟨#[]⟩)).other ⟨z,1,none⟩ (by simp) (.int .u32 0)).other ⟨z,2,none⟩ (by simp) (.int .i64 0)).other ⟨z,3,none⟩ (by simp) (.int .i64 0);have d0:=d.cell (i:=0) rfl;have d1:=d.cell (i:=1) rfl;have d2:=d.cell (i:=2) rfl;have d3:=d.cell (i:=3) rfl;have f0:=d.free 0;have f1:=d.free 1;have f2:=d.free 2;have f3:=d.free 3;have e7:=R.cell (i:=0) rfl;have f7:=R.free 0
 have U:((((w2.setCell ⟨z,0,none⟩ (.string ⟨#[]⟩)).setCell ⟨z,1,none⟩ (.int .u32 0)).setCell ⟨z,2,none⟩ (.int .i64 0)).setCell ⟨z,3,none⟩ (.int .i64 0)).cell? ⟨G,0,none⟩=some (.int .i64 E):=by
  rw[lI _ _ _ _ (xY (by omega)),lI _ _ _ _ (xY (by omega)),lI _ _ _ _ (xY (by omega)),lI _ _ _ _ (xY (by omega))];exact O
 have a4:(((((w2.setCell ⟨z,0,none⟩ (.string ⟨#[]⟩)).setCell ⟨z,1,none⟩ (.int .u32 0)).setCell ⟨z,2,none⟩ (.int .i64 0)).setCell ⟨z,3,none⟩ (.int .i64 0)).setCell ⟨z+1,0,none⟩ (.int .i64 E)).cell? ⟨G,0,none⟩=some (.int .i64 E):=by rw[lI _ _ _ _ (xY (by omega))];exact U
 clear a0 a1 D a2 L d M k6 a6 R;refine bKf [1,2] ?_
 iterate 2
  refine bKg (by simp only[List.getElem?_toArray,List.getElem?_cons_succ,List.getElem?_cons_zero];rfl) (by kernel_rfl) (by exact fun _ _ _ h=>h) (by first|exact Or.inr ⟨by rfl,rfl⟩|(refine Or.inl ⟨by rfl,?_⟩;intro w' a7;(try dsimp only at a7);(try go_simp);try with_reducible rfl)) O ?_
  try simp only[bJ,bK,bH,bB]
 refine dJ (i:=0) (by kernel_rfl) rfl (fun K A=>?_);go_simp;refine A.out _ _ ?_ (fun _=>?_)
 ·exact O
 try simp only[bJ,bK,bH,bB]
 refine dJ (i:=3) (by kernel_rfl) rfl (fun K A=>?_);go_simp;refine A.out _ _ ?_ (fun _=>?_)
 ·first|with_reducible exact U|with_reducible exact a4
 try simp only[bJ,bK,bH,bB]
 refine dJ (i:=4) (by kernel_rfl) rfl (fun K A=>?_);go_simp;refine A.out _ _ ?_ (fun _=>?_)
 ·first|with_reducible exact U|with_reducible exact a4
 try simp only[bJ,bK,bH,bB]
 refine wpAnyH_done (by kernel_rfl) ?_ _;go_wp2_with fail;refine⟨rfl,.panicking ({v:=.iface 257 (.agg #[.int .i64 E]),recovered:=true}::I),?_,.tuple #[],?_,rfl,rfl,q6,q7,qb⟩
 ·rfl
 ·exact results_none rfl _ _ _
theorem aI0 {w W:World} {s:List UInt8} {a room:Int} {z:Nat} {E:Int} {tmps:Array Value} {d A y2 D F:Value} (h:cO s a room=(dN,0,0,E)) (G:E≠0) (I:w.heap.size=z)
  (J:Arr W z 89 [d,A,y2,D]) (L:Arr W (z+1) 27 [F]) (M:Below z w W)
  (O:tmps.getD 6 undef=.pointer (some ⟨z,0,none⟩)) (R:tmps.getD 7 undef=.pointer (some ⟨z+1,0,none⟩)):
  Leaves pG f130 tmps (fun e w'=>FZ w w' s a room e) [{target:=.fn (.func 156) #[.pointer (some ⟨z,0,none⟩),.pointer (some ⟨z+1,0,none⟩)],args:=#[]}] (.panicking (rS E)) W:=by
 refine leaves_cons (f:=156) (args:=#[.pointer (some ⟨z,0,none⟩),.pointer (some ⟨z+1,0,none⟩)]) (by simp) (by simp[go_sem]) ?_;refine(bCo z E [] W d A y2 D F J L).mono ?_;rintro e Z w' ⟨rfl,rfl,U,V,Y⟩;exact⟨_,NB U V rfl O R,qI h G (I▸M.trans Y)⟩
theorem aI1 (w:World) (v:Value):∀W,W=(w.alloc (.cells #[.string ⟨#[]⟩,.int .u32 0,.int .i64 0,.int .i64 0] 89)).alloc (.cells #[v] 27)->
  (Arr W w.heap.size 89 [.string ⟨#[]⟩,.int .u32 0,.int .i64 0,.int .i64 0]/\Arr W (w.heap.size+1) 27 [v])/\Below w.heap.size w W/\W.heap.size=w.heap.size+1+1:=by
 rintro W rfl;have A:=Arr.new w 89 [.string ⟨#[]⟩,.int .u32 0,.int .i64 0,.int .i64 0];have d:=Arr.new (w.alloc (.cells #[.string ⟨#[]⟩,.int .u32 0,.int .i64 0,.int .i64 0] 89)) 27 [v];have e:∀(W:World) (o:Obj),(W.alloc o).heap.size=W.heap.size+1:=fun W o=>by simp
 rw[e] at d;refine⟨⟨A.alloc _,d⟩,?_,by simp⟩;exact((aH _ w).alloc (aD _) _).alloc (by simp) _
theorem bCp (s:ByteArray) (a room:Int) (w:World) (hE:dU w) (hs:s.size<=120000) (b4: -9223372036854775808<=a) (b5:a<=9223372036854775807) (b6: -9223372036854775808<=room) (b7:room<=9223372036854775807):
  Calls pG 130 #[.string s,.int .i64 a,.int .i64 room] w fun e w'=>FZ w w' s.data.toList a room e:=by
 have b8:∀(fn:Fn) (first cap:Array Value) (w:World),(Instr.makeFunc fn first cap).run pG w=.ok (.func fn first cap) w:=fun _ _ _ _=>rfl
 obtain⟨⟨d,D⟩,a0,a1⟩:=aI1 w (.int .i64 0) _ rfl;have hd:=UJ s.data.toList a room;have J:=fun W=>aGo room W
 by_cases b2:a<0\/room<1\/360<room
 ·rw[aB b2] at hd;have I:=hid hd;clear hd;obtain⟨⟨q6,q7⟩,qb,-⟩:=aI1 w (.int .i64 1) _ rfl;clear d D a0 a1
  by_cases h1:a<0
  ·have u1:decide (a<0)=true:=aG h1
   go_enter_defers func130,ntmps130
   go_wp2_with fail;exact⟨_,NB q6 q7 rfl rfl rfl,qI I.out (by decide) qb⟩
  have u1:decide (a<0)=false:=aE h1;have a2:(decide (1<=room)&&decide (room<=360))=false:=by
   rw[Bool.and_eq_false_iff,decide_eq_false_iff_not,decide_eq_false_iff_not];omega
  rw[a2] at J
  go_enter_defers func130,ntmps130
  go_wp2_with fail;refine(J _).mono ?_;rintro e w' ⟨rfl,rfl⟩;go_wp2_with fail;exact⟨_,NB q6 q7 rfl rfl rfl,qI I.out (by decide) qb⟩
 obtain⟨A,rfl⟩:∃A:Nat,a=(A:Int):=⟨a.toNat,by omega⟩;obtain⟨R,rfl⟩:∃R:Nat,room=(R:Int):=⟨room.toNat,by omega⟩;have u1:decide ((A:Int)<0)=false:=aE (by omega);have a2:(decide (1<=(R:Int))&&decide ((R:Int)<=360))=true:=by
  rw[Bool.and_eq_true,decide_eq_true_eq,decide_eq_true_eq];omega
 rw[a2] at J;clear hd a2
 go_enter_defers func130,ntmps130
 go_wp2_with fail;refine(J _).mono ?_;rintro e w' ⟨rfl,rfl⟩;generalize (w.alloc (.cells #[.string ⟨#[]⟩,.int .u32 0,.int .i64 0,.int .i64 0] 89)).alloc (.cells #[.int .i64 0] 27)=w0 at*
 obtain⟨z,hz⟩:∃z,w.heap.size=z:=⟨_,rfl⟩;rw[hz] at d D a0 a1 ⊢;have HZ:=hid hz;clear hz J;go_wp2_with fail;have a3:BRd (w0.alloc (.cells #[.string s,.int .i64 (A:Int),.slice none 0 0,.slice none 0 0,.int .i64 0] 261)) w0.heap.size s A (.slice none 0 0) (.slice none 0 0) (.int .i64 0):=Arr.new w0 261 [.string s,.int .i64 (A:Int),.slice none 0 0,.slice none 0 0,.int .i64 0];have d:=d.alloc (.cells #[.string s,.int .i64 (A:Int),.slice none 0 0,.slice none 0 0,.int .i64 0] 261);have D:=D.alloc (.cells #[.string s,.int .i64 (A:Int),.slice none 0 0,.slice none 0 0,.int .i64 0] 261)
 have a4:=a0.alloc (o:=.cells #[.string s,.int .i64 (A:Int),.slice none 0 0,.slice none 0 0,.int .i64 0] 261) (by omega);rw[a1] at a3;generalize w0.alloc (.cells #[.string s,.int .i64 (A:Int),.slice none 0 0,.slice none 0 0,.int .i64 0] 261)=w1 at*
 have a9:z+1+1<w1.heap.size:=Arr.lt a3;clear a0 a1;refine(bCk (z+1+1) s A R w1 a3 hs (by omega) (by omega) (by omega) (fun W hW=>hE.below (by rw[HZ.out];exact a4.grown hW (by omega) (fun k L=>by obtain rfl:=cC L;omega)))).mono ?_;rintro e w2 (⟨E,b3,hF,rfl,G⟩|⟨O,V,p,vt,vc,co,rfl,a7,G,F,b9,hV⟩)
 ·have d:=d.grown G (by simp only[ne_eq,lJ];omega);have D:=D.grown G (by simp only[ne_eq,lJ];omega);have a5:=a4.grown G (by omega) (fun k L=>by obtain rfl:=cC L;omega);have I:=hid hF;clear hF;go_wp2_with fail;exact aI0 I.out b3 HZ.out d D a5 rfl rfl
 have d:=d.grown G (by simp only[ne_eq,lJ];omega);have D:=D.grown G (by simp only[ne_eq,lJ];omega);have a5:=a4.grown G (by omega) (fun k L=>by obtain rfl:=cC L;omega);have c0:=Nat.lt_of_lt_of_le a9 G.size;have a6:=fun W=>zQ (mkS O) W (by rw[cS];omega)
 rw[dP] at a6;obtain⟨Z,hZ⟩:=ex1 ((cH O).toNat);rw[<-hZ] at a6 F;have HD:=hid F;clear a4 a9 G a3 F hZ;go_wp2_with fail;refine(a6 _).mono ?_;rintro e w3 ⟨rfl,M⟩;have b0:=Arr.below a7 M (Arr.lt a7);have d:=d.below M d.lt;have D:=D.below M D.lt;have a8:=a5.trans (M.mono (by omega));clear a6 a7 a5 M
 by_cases U:Z=V
 rotate_left
 ·have v1:((Z:Int)==(V:Int))=false:=by rw[cB];omega
  have v2:(Z==V)=false:=by rw[cB];exact U
  have F:=HD.out;rw[aB U] at F;have I:=hid F;clear F;go_wp2_with fail;refine(tW false 7 _ (by decide)).mono ?_;rintro e w4 (⟨Y,rfl,rfl⟩|⟨Y,rfl,rfl⟩)
  ·exact absurd Y (by decide)
  go_wp2_with fail;exact aI0 I.out (by decide) HZ.out d D a8 rfl rfl
 have v1:((Z:Int)==(V:Int))=true:=by rw[beq_iff_eq];omega
 have v2:(Z==V)=true:=by rw[beq_iff_eq];exact U
 have F:=HD.out;rw[aA (fun k=>k U)] at F;have I:=hid F;clear F U;go_wp2_with fail;refine(tW true 7 _ (by decide)).mono ?_;rintro e w4 (⟨Y,rfl,rfl⟩|⟨Y,rfl,rfl⟩)
 rotate_left
 ·exact absurd Y (by decide)
 obtain⟨q6,q7,qb⟩:=aIz d D a8 (.string (mkS O)) (.int .u32 (V:Int)) (.int .i64 (A:Int)) (.int .i64 (p:Int)) (.int .i64 0);have k7:=(((D.other ⟨z,0,none⟩ (by simp) (.string (mkS O))).other ⟨z,1,none⟩ (by simp) (.int .u32 (V:Int))).other ⟨z,2,none⟩ (by simp) (.int .i64 (A:Int))).other ⟨z,3,none⟩ (by simp) (.int .i64 (p:Int));have d0:=d.cell (i:=0) rfl;have d1:=d.cell (i:=1) rfl;have d2:=d.cell (i:=2) rfl;have d3:=d.cell (i:=3) rfl;have f0:=d.free 0;have f1:=d.free 1;have f2:=d.free 2;have f3:=d.free 3;have e7:=k7.cell (i:=0) rfl;have f7:=k7.free 0;have b1:=Arr.cell b0 (i:=1) rfl
 clear d D a8 k7 b0;go_wp2_with fail;refine leaves_cons (f:=156) (args:=#[.pointer (some ⟨z,0,none⟩),.pointer (some ⟨z+1,0,none⟩)]) (by simp) (by simp[go_sem]) ?_;refine(bCl ⟨z,0,none⟩ ⟨z+1,0,none⟩ _).mono ?_;rintro e u' c1 ⟨rfl,rfl,rfl⟩;exact⟨_,NB q6 q7 rfl rfl rfl,by rw[I.out,aH1],by rw[HZ.out];exact qb⟩
end Go.Proofs.YtfckbfofgeilgaaGreatDoor

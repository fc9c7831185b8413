/-
  Texts put together (part 28): the walks and the plain laws on which the statement stands.
-/
import Derived.Test.YtfplbbphficcjaaGreatDoorZ26
import Derived.Test.YtfplbbphficcjaaGreatDoorZ27
set_option maxRecDepth 100000
set_option maxHeartbeats 12800000
set_option linter.unusedVariables false
set_option linter.unusedSimpArgs false
open Go.Proofs.Tryz
open Go.Proofs.Tryz renaming prog->pG
open Go renaming callsD_of_wpS->OT,heap_setCell_other->kF
open Go.Act renaming put->bJ
open Go.Instr renaming typeAssert->tZ
open Go.RowKit.Below renaming refl->aH
open Go.World renaming cell?_setCell_other->lI
open List renaming setIfInBounds_toArray->bK,set_cons_succ->bB,set_cons_zero->bH
open Nat renaming le_refl->aD
open Option.some renaming inj->cC,injEq->lJ
namespace Go.Proofs.YtfplbbphficcjaaGreatDoor
open Go.RowKit Go Go.Shelf
theorem bCj (b:Nat) (s:ByteArray) (a k:Nat) (H ch I:Value) (W:World) (h:BRd W b s a H ch I) (J:s.size<=1000000) (M:k<=48) (O:a<=9223372036854775807) (A:aP s.size (a:Int) k≠0):
  Calls pG 138 #[.pointer (some ⟨b,0,none⟩),.int .i64 (k:Int)] W fun e w'=>e=.panicked (rS (aP s.size (a:Int) k))/\W.grownBy w' (some b):=by
 have D:=fun W=>uQ s (a:Int) k W J (by omega) (by omega) (by omega)
 obtain⟨E,d⟩:∃E,E=aP s.size (a:Int) k:=⟨_,rfl⟩;obtain⟨V,F⟩:∃V,V=aK s.data.toList (a:Int) k:=⟨_,rfl⟩;rw[<-d] at A ⊢;rw[<-d,<-F] at D;clear d F;have T:=Arr.cell h (i:=0) rfl;have U:=Arr.cell h (i:=1) rfl;have hor:=fun W=>zU E W
 go_enter func138,ntmps138;go_wp2_with fail
 go_quiet (first|(go_at_call 119;exact Calls.quiet_of_same (D _)))
 have L:W.grownBy (W.drewN nq) (some b):=⟨rfl,rfl,rfl,aD _,fun _ _ _=>rfl⟩;generalize W.drewN nq=Y at*
 go_wp2_with fail;refine(hor _).mono ?_;rintro e Z (⟨G,rfl,rfl⟩|⟨G,rfl,rfl⟩)
 ·exact absurd G A
 ·go_wp2_with fail;exact⟨rfl,rfl,L⟩
def aIy (w w':World) (b:Nat) (s:ByteArray) (a:Nat) (room:Int) (e:Ending):Prop:=
 (∃E,E≠0/\cO s.data.toList (a:Int) room=(dN,0,0,E)/\e=.panicked (rS E)/\w.grownBy w' (some b))\/
 (∃(O:List UInt8) (V p:Nat) (d h A:Value),e=.returned (.tuple #[.string (mkS O),.int .u32 (V:Int)])/\BRd w' b s p d h A/\w.grownBy w' (some b)/\
  cO s.data.toList (a:Int) room=(if(cH O).toNat≠V then(dN,0,0,7) else(mkS O,(V:Int),(p:Int),0))/\O.length<=100000/\V<4294967296)
theorem wO {w w':World} {b:Nat} {s:ByteArray} {a:Nat} {room E:Int} (h:cO s.data.toList (a:Int) room=(dN,0,0,E)) (d:E≠0) (e:w.grownBy w' (some b)):aIy w w' b s a room (.panicked (rS E)):=.inl ⟨E,d,h,rfl,e⟩
theorem bCk (b:Nat) (s:ByteArray) (a R:Nat) (w:World) (hA:BRd w b s a (.slice none 0 0) (.slice none 0 0) (.int .i64 0)) (hs:s.size<=120000) (ha:a<=9223372036854775807) (l6:1<=R) (l7:R<=360) (f9:∀W,w.grownBy W (some b)->dU W):
  Calls pG 132 #[.pointer (some ⟨b,0,none⟩),.int .i64 (R:Int)] w fun e w'=>aIy w w' b s a (R:Int) e:=by
 have HL:=hid (show s.data.toList.length=s.size by simp);have l8:b<w.heap.size:=Arr.lt hA;have d:=UJ s.data.toList (a:Int) (R:Int);rw[HL.out,aA (by omega)] at d
 by_cases h1:aP s.size (a:Int) 48=0
 rotate_left
 ·rw[aB h1] at d;have F:=hid d;clear d;go_enter func132,ntmps132;go_wp2_with fail;refine(bCj b s a 48 _ _ _ w hA (by omega) (by decide) ha h1).mono ?_;rintro e w1 ⟨rfl,a1⟩;go_wp2_with fail;exact⟨rfl,wO F.out h1 a1⟩
 rw[aA (fun k=>k h1)] at d;have j9:=iG h1;have l9:a<=960000:=by omega
 have b0:=FN b s a 48 (.slice none 0 0) (.slice none 0 0) (.int .i64 0) w hA (by omega) (by decide) (by omega);have b1:=fun W h=>FN b s (a+48) 32 (.slice none 0 0) (.slice none 0 0) (.int .i64 0) W h (by omega) (by decide) (by omega)
 have b2:=fun W h=>FN b s (a+48+32) 16 (.slice none 0 0) (.slice none 0 0) (.int .i64 0) W h (by omega) (by decide) (by omega)
 rw[show(((a+48:Nat):Int))=(a:Int)+48 by push_cast;rfl] at b1;rw[show(((a+48+32:Nat):Int))=(a:Int)+80 by push_cast;omega] at b2;have c7:=jV s.data.toList (a:Int) 48;have b3:=jV s.data.toList ((a:Int)+48) 32;have d3:=jV s.data.toList ((a:Int)+80) 16;rw[h1] at b0;obtain⟨V,g0⟩:∃V,V=aK s.data.toList (a:Int) 48:=⟨_,rfl⟩;obtain⟨E2,d5⟩:∃E2,E2=aP s.size ((a:Int)+48) 32:=⟨_,rfl⟩;obtain⟨Y,d6⟩:∃Y,Y=aK s.data.toList ((a:Int)+48) 32:=⟨_,rfl⟩;obtain⟨E3,d7⟩:∃E3,E3=aP s.size ((a:Int)+80) 16:=⟨_,rfl⟩;obtain⟨I,d8⟩:∃I,I=aK s.data.toList ((a:Int)+80) 16:=⟨_,rfl⟩;rw[<-g0] at b0 c7 d
 rw[<-d5,<-d6] at b1;rw[<-d5] at d;rw[<-d6] at b3 d;rw[<-d7,<-d8] at b2;rw[<-d7] at d;rw[<-d8] at d3 d;have c7:V<281474976710656:=c7;have b3:Y<4294967296:=b3;have d3:I<65536:=d3;clear d5 d7 g0 d6 d8;go_enter func132,ntmps132;go_wp2_with fail;refine b0.mono ?_;rintro e w1 (⟨d9,rfl,g1,a1⟩|⟨d9,rfl,a1⟩)
 rotate_left
 ·exact absurd rfl d9
 clear d9 h1 b0 j9 hA
 by_cases h2:V=54156738319193
 rotate_left
 ·have v1:((V:Int)==54156738319193)=false:=by rw[cB];omega
  have v2:(V==54156738319193)=false:=by rw[cB];exact h2
  rw[aB h2] at d;have F:=hid d;clear d;go_wp2_with fail;refine(tW false 3 _ (by decide)).mono ?_;rintro e w2 (⟨D,rfl,rfl⟩|⟨D,rfl,rfl⟩)
  ·exact absurd D (by decide)
  go_wp2_with fail;exact⟨rfl,wO F.out (by decide) a1⟩
 rw[aA (fun k=>k h2)] at d;have v1:((V:Int)==54156738319193)=true:=by rw[beq_iff_eq];omega
 have v2:(V==54156738319193)=true:=by rw[beq_iff_eq];exact h2
 clear h2;go_wp2_with fail;refine(tW true 3 _ (by decide)).mono ?_;rintro e w2 (⟨D,rfl,rfl⟩|⟨D,rfl,rfl⟩)
 rotate_left
 ·exact absurd D (by decide)
 clear v1 v2;go_wp2_with fail;refine(b1 _ g1).mono ?_;rintro e w2 (⟨h3,rfl,g2,a2⟩|⟨h3,rfl,a2⟩)
 rotate_left
 ·rw[aB h3] at d;have F:=hid d;clear d;go_wp2_with fail;exact⟨rfl,wO F.out h3 (gbT a1 a2)⟩
 rw[aA (fun k=>k h3)] at d;have a2:=gbT a1 a2;clear b1 g1 a1 h3;have m9:IntKind.u32.wrap (Y:Int)=(Y:Int):=by rw[IntKind.wrap_u32];omega
 have k0:(Y:Int)%4294967296=(Y:Int):=by omega
 go_wp2_with fail;refine(b2 _ g2).mono ?_;rintro e w3 (⟨h4,rfl,e3,Z⟩|⟨h4,rfl,Z⟩)
 rotate_left
 ·rw[aB h4] at d;have F:=hid d;clear d;go_wp2_with fail;exact⟨rfl,wO F.out h4 (gbT a2 Z)⟩
 rw[aA (fun k=>k h4)] at d;have Z:=gbT a2 Z;obtain⟨A,g3⟩:∃A,A=a+48+32+16:=⟨_,rfl⟩;rw[<-g3] at e3;rw[show(a:Int)+96=(A:Int) by omega] at d;have m0:A<=960096:=by omega
 have b4:=aH4 (s:=s.data.toList) (a:=(A:Int));have b5:=fun W=>bCi s (A:Int) W (by omega) (by omega) (by omega)
 obtain⟨G,U2,U3,hU⟩:∃G U2 U3,dF s.data.toList (A:Int)=(G,U2,U3):=⟨_,_,_,rfl⟩;rw[hU] at b5 b4 d;simp only at b5 b4 d;have H:=hid d;have g4:=hid b4;have a7:=Arr.new w3 107 [.string ⟨#[]⟩,.int .i64 (I:Int),.slice none 0 0];change Arr (w3.alloc (.cells #[.string ⟨#[]⟩,.int .i64 (I:Int),.slice none 0 0] 107)) _ _ _ at a7;have a3:=Arr.alloc e3 (.cells #[.string ⟨#[]⟩,.int .i64 (I:Int),.slice none 0 0] 107);have g5:=gbT Z (gbB (g:=some b) (bD (aH _ w3) (.cells #[.string ⟨#[]⟩,.int .i64 (I:Int),.slice none 0 0] 107)));have d0:=Arr.cell a3 (i:=0) rfl;have d1:=Arr.cell a3 (i:=1) rfl
 have d4:=Arr.cell a3 (i:=4) rfl;clear b2 g2 a2 h4 g3 hU d b4 e3 m9 k0;go_upto_region 4 with fail;obtain⟨z,hz⟩:∃z,z=w3.heap.size:=⟨_,rfl⟩;have m1:b<z:=by have:=Z.size;omega
 have m2:w.heap.size<=z:=by have:=Z.size;omega
 rw[<-hz] at a7 ⊢;generalize w3.alloc (.cells #[.string ⟨#[]⟩,.int .i64 (I:Int),.slice none 0 0] 107)=w4 at*
 clear hz Z
 go_cut [8,9,10] (fun c8 c9 k5 wx=>c8=.string (mkS G)/\c9=.int .i64 U2/\k5=.int .i64 U3/\Below w4.heap.size w4 wx)
 case first=>
  obtain⟨B3,g6⟩:∃B3,B3=w4.heap.size:=⟨_,rfl⟩;have k6:=hid g6;have m3:=oF (B:=B3) (w0:=w4) ⟨d0,d1,d4,aH _ _,by omega⟩ (aH w4.heap.size w4).drew;clear g6 d0 d1 d4
  go_region_held3 (fun w'=>w'.cell? ⟨b,0,none⟩=some (.string s)/\w'.cell? ⟨b,1,none⟩=some (.int .i64 (A:Int))/\w'.cell? ⟨b,4,none⟩=some (.int .i64 0)/\Below B3 w4 w'/\B3<=w'.heap.size)
   (first
    |with_reducible assumption
    |with_reducible exact oF (by assumption) (by assumption))
   (first
    |(go_at_call 139;refine(b5 _).mono ?_;rintro e w5 ⟨rfl,a8⟩))
  have k7:=(show w5.cell? ⟨b,0,none⟩=some (.string s)/\w5.cell? ⟨b,1,none⟩=some (.int .i64 (A:Int))/\w5.cell? ⟨b,4,none⟩=some (.int .i64 0)/\Below B3 w4 w5/\B3<=w5.heap.size by assumption);go_wp2_with fail;go_meet;exact⟨rfl,rfl,rfl,by rw[<-k6.out];exact k7.2.2.2.1⟩
 case rest=>
  obtain⟨rfl,rfl,rfl,a8⟩:=hcut;have g7:=Arr.below a3 a8 (Arr.lt a3);have g8:=a7.below a8 (Arr.lt a7);have e4:=gbT g5 (gbB a8);clear b5 d0 d1 d4 a3 a7 g5 a8;go_wp2_with fail;refine(MK b s A U2 U3 _ _ _ wc g7).mono ?_;rintro e w6 (⟨rfl,rfl,g9,U⟩|⟨D,rfl,rfl⟩)
  rotate_left
  ·have d:=H.out;rw[aB D] at d;have F:=hid d;clear d;go_wp2_with fail;exact⟨rfl,wO F.out D e4⟩
  have d:=H.out;rw[aA (fun k=>k rfl)] at d;obtain⟨k1,k2,k3⟩:=g4.out rfl;obtain⟨p,rfl⟩:∃p:Nat,U2=(p:Int):=⟨U2.toNat,by omega⟩;have m4:p<=960368:=by omega
  obtain⟨C,hC⟩:∃C,C=G.length+2:=⟨_,rfl⟩;have b6:2<=C/\C<=258:=by omega
  rw[show(G.length:Int)+2=(C:Int) by omega] at d;have b7:=g8.grown U (by simp only[ne_eq,lJ];omega);have U:=gbT e4 U;have m5:(mkS G).size<=256:=by rw[cS];exact k1
  have e5:=aA3 (mkS G) (I:Int) (.slice none 0 0) rfl (w6.setCell ⟨z,0,none⟩ (.string (mkS G))) (by omega);rw[show((mkS G).size:Int)+2=(C:Int) by rw[cS];omega] at e5;have a4:=b7.set 0 (.string (mkS G));have e6:BRd (w6.setCell ⟨z,0,none⟩ (.string (mkS G))) b s p (.slice none 0 0) (.slice none 0 0) (.int .i64 0):=Arr.other g9 ⟨z,0,none⟩ (by simp only[ne_eq];omega) _;have i0:w.grownBy (w6.setCell ⟨z,0,none⟩ (.string (mkS G))) (some b):=⟨U.os,U.tape,U.output,by have:=U.size;simpa using this,fun k hk e7=>by
   rw[kF w6 ⟨z,0,none⟩ k _ (by simp only[ne_eq];omega)];exact U.block k hk e7⟩
  have d0:=b7.cell (i:=0) rfl;have f0:=b7.free 0;have e0:=a4.cell (i:=0) rfl;have e1:=a4.cell (i:=1) rfl;have e2:=a4.cell (i:=2) rfl;have H:=hid d;clear d hC g7 g8 e4 g9 k2 k3 g4;go_wp2_with fail;refine e5.mono ?_;rintro e w8 ⟨rfl,b8⟩;have b9:=Arr.below e6 b8 (Arr.lt e6);have i1:=a4.below b8 (Arr.lt a4);have i2:=gbT i0 (gbB b8);have d4:=Arr.cell b9 (i:=4) rfl;have f4:=Arr.free b9 4;have i3:BRd (w8.setCell ⟨b,4,none⟩ (.int .i64 (C:Int))) b s p (.slice none 0 0) (.slice none 0 0) (.int .i64 (C:Int)):=Arr.set b9 4 _;have i4:=i1.other ⟨b,4,none⟩ (by simp only[ne_eq];omega) (.int .i64 (C:Int))
  have e8:=gbT i2 (gbS w8 b 4 (.int .i64 (C:Int)));clear e5 d0 f0 e0 e1 e2 b7 a4 e6 U i0 b8;go_wp2_with fail;clear d4 f4;generalize w8.setCell ⟨b,4,none⟩ (.int .i64 (C:Int))=w9 at*
  clear i1 b9 i2;refine(bCh b s p C w9 i3 (by omega) (by omega) b6.1 b6.2).mono ?_;rintro e i5 (⟨D,c0,rfl,a0⟩|⟨rfl,p2,vt,vc,T,ch,c0,i6,a0,i7,i8,i9,j0,j1,j2,j3,k8⟩)
  ·have d:=H.out;rw[aB D] at d;have F:=hid d;obtain⟨E,hE⟩:∃E,E=(dW s.data.toList (p:Int) (C:Int)).2.2:=⟨_,rfl⟩;rw[<-hE] at D F ⊢;clear d hE c0 H;go_wp2_with fail;exact⟨rfl,wO F.out D (gbT e8 a0)⟩
  have d:=H.out;have a5:=RZ (s:=s.data.toList) (at':=(p:Int)) (codes:=(C:Int));have a6:=bCf b s p2 C vt vc T ch i5 i6 (by omega) k8 i7 i8 i9 j0 j1 j2 j3 b6.1 b6.2;unfold NA at a6;rw[c0] at d a5;obtain⟨L,P,K,hL⟩:∃L P K,jW s.data.toList (p2:Int) T ch ((C:Int)-1)=(L,P,K):=⟨_,_,_,rfl⟩;rw[hL] at a6 a5 d;simp only at a6 a5 d;rw[HL.out] at a5;have e9:=i4.grown a0 (by simp only[ne_eq,lJ];omega);have a0:=gbT e8 a0;have k9:=Arr.lt e9;have H:=hid d;have j4:=hid a5;clear hL c0 d a5 i7 i8 i9 j0 j1 j2 j3 i4 e8 i3 i6;go_wp2_with fail;refine a6.mono ?_
  rintro e a9 (⟨D,⟨v,rfl,ho⟩,⟨p3,rfl,j5⟩,J⟩|⟨D,rfl,J⟩)
  rotate_left
  ·have d:=H.out;rw[aB D] at d;have F:=hid d;clear d a6;go_wp2_with fail;exact⟨rfl,wO F.out D (gbT a0 J)⟩
  subst D;have d:=H.out;rw[aA (fun k=>k rfl)] at d;obtain⟨_,_,_,_,k4,_,_⟩:=j4.out rfl;obtain⟨av,cv,rfl,_,_,_⟩:=(OwI.rd ho).open;have c1:=e9.grown J (by simp only[ne_eq,lJ];omega);have J:=gbT a0 J;have c2:=c1.set 2 (.slice av L.length cv);have f1:BRd (a9.setCell ⟨z,2,none⟩ (.slice av L.length cv)) b s p3 vt vc (.int .i64 (C:Int)):=Arr.other j5 ⟨z,2,none⟩ (by simp only[ne_eq];omega) _;have f3:w.grownBy (a9.setCell ⟨z,2,none⟩ (.slice av L.length cv)) (some b):=⟨J.os,J.tape,J.output,by have:=J.size;simpa using this,fun k hk e7=>by
   rw[kF a9 ⟨z,2,none⟩ k _ (by simp only[ne_eq];omega)];exact J.block k hk e7⟩
  have j6:OwI (a9.setCell ⟨z,2,none⟩ (.slice av L.length cv)) i5.heap.size (.slice av L.length cv) L:=Ow.kept ho (gbS a9 z 2 _) (lD ho k9);have j7:=f9 _ f3;have c3:=aR9 (mkS G) (I:Int) (.slice av L.length cv) L (R:Int) _ j7 (by omega) (OwI.rd j6) (by omega) (by omega) (by omega) (by omega) (by omega);have c4:=aH3 (mkS G) (I:Int) L (R:Int);obtain⟨Q,RE,hR⟩:∃Q RE,rest (mkS G) (I:Int) L (R:Int)=(Q,RE):=⟨_,_,rfl⟩;rw[hR] at c3 c4 d;simp only at c3 c4 d;have d2:=c1.cell (i:=2) rfl;have f2:=c1.free 2;have e0:=c2.cell (i:=0) rfl;have e1:=c2.cell (i:=1) rfl;have e2:=c2.cell (i:=2) rfl
  have H:=hid d;clear hR d e9 a0 c1 J j5 ho j6 j7 c2 a6 j4 f9;go_wp2_with fail;refine c3.mono ?_;rintro e l1 ⟨rfl,f5⟩;have f6:=Arr.below f1 f5 (Arr.lt f1);have f7:=gbT f3 (gbB f5);clear c3 d2 f2 e0 e1 e2 f1 f3 f5;go_wp2_with fail;refine(zU RE l1).mono ?_;rintro e l2 (⟨rfl,rfl,rfl⟩|⟨D,rfl,rfl⟩)
  rotate_left
  ·have d:=H.out;rw[aB D] at d;have F:=hid d;clear d;go_wp2_with fail;exact⟨rfl,wO F.out D f7⟩
  have d:=H.out;rw[aA (fun k=>k rfl)] at d;have c4:=c4 rfl;obtain⟨M,hM⟩:∃M,M=52*R:=⟨_,rfl⟩;have m8:IntKind.i64.wrap (52*(R:Int))=(M:Int):=by rw[IntKind.wrap_i64];omega
  have l3:52*(R:Int)=(M:Int):=by omega
  have m6:M<=18720:=by omega
  rw[l3] at d;have c5:=bAm Q M l2 (by omega) (by omega);have c6:=aIx (p:=Q.data.toList) (most:=(M:Int));obtain⟨O,OE,hO⟩:∃O OE,jX Q.data.toList (M:Int)=(O,OE):=⟨_,_,rfl⟩;rw[hO] at c5 c6 d;simp only at c5 c6 d;have H:=hid d;clear hO d hM;go_wp2_with fail;refine c5.mono ?_;rintro e l4 ⟨rfl,f8⟩;have l5:=Arr.below f6 f8 (Arr.lt f6);have j8:=gbT f7 (gbB f8);clear c5 f6 f7 f8;go_wp2_with fail;refine(zU OE l4).mono ?_;rintro e m7 (⟨rfl,rfl,rfl⟩|⟨D,rfl,rfl⟩)
  rotate_left
  ·have d:=H.out;rw[aB D] at d;have F:=hid d;clear d;go_wp2_with fail;exact⟨rfl,wO F.out D j8⟩
  have d:=H.out;rw[aA (fun k=>k rfl)] at d;have F:=hid d;have c6:=c6 rfl;clear d;go_wp2_with fail
  go_ret2
  exact .inr ⟨O,Y,p3,vt,vc,_,rfl,l5,j8,F.out,by omega,b3⟩
theorem bCl (p q:Addr) (w:World):
  CallsD pG 131 #[.pointer (some p),.pointer (some q)] .returning w fun e d w'=>e=.returned (.tuple #[])/\d=.returning/\w'=w:=by
 refine OT func131 rfl fun h D A=>?_
 apply wpS_seq;apply wpS_region;simp[wpOpsS,go_sem,recoverD,A,ntmps131,Exit.thenS];refine wpS_of_wp ?_;go_wp2
 cases h
 simp_all [bodyPostS,results,f131]
theorem bCm (v:Value) (d:TypeId) (w:World):(tZ (.iface 213 v) d 213 true).run pG w=.ok (.tuple #[v,.bool true]) w:=by
 simp[tZ,run_underlying underlying213]
theorem aIz {w W:World} {z:Nat} {F G H I J:Value} (L:Arr W z 59 [F,G,H,I]) (M:Arr W (z+1) 29 [J]) (O:Below z w W) (e h A D d:Value):
  Arr (((((W.setCell ⟨z,0,none⟩ e).setCell ⟨z,1,none⟩ h).setCell ⟨z,2,none⟩ A).setCell ⟨z,3,none⟩ D).setCell ⟨z+1,0,none⟩ d) z 59 [e,h,A,D]/\
  Arr (((((W.setCell ⟨z,0,none⟩ e).setCell ⟨z,1,none⟩ h).setCell ⟨z,2,none⟩ A).setCell ⟨z,3,none⟩ D).setCell ⟨z+1,0,none⟩ d) (z+1) 29 [d]/\
  Below z w (((((W.setCell ⟨z,0,none⟩ e).setCell ⟨z,1,none⟩ h).setCell ⟨z,2,none⟩ A).setCell ⟨z,3,none⟩ D).setCell ⟨z+1,0,none⟩ d):=by
 obtain⟨T,U⟩:=tA L O e h A D;have Y:(z+1)≠z:=by omega
 have V:=(((M.other ⟨z,0,none⟩ (by simp) e).other ⟨z,1,none⟩ (by simp) h).other ⟨z,2,none⟩ (by simp) A).other ⟨z,3,none⟩ (by simp) D;exact⟨T.other ⟨z+1,0,none⟩ (by simp) d,V.set 0 d,U.setCell (p:=⟨z+1,0,none⟩) (Nat.le_succ _) d⟩
theorem bCn {P:Program} {A:Func} {p q:Tmp} {D F:TypeId} (h:A.results=#[.cell p D,.cell q F]) (tmps:Array Value) (w:World) (d e:Addr) (G H:Value)
  (I:tmps.getD p undef=.pointer (some d)) (J:tmps.getD q undef=.pointer (some e))
  (L:(loadVar D d).run P w=.ok G w) (M:(loadVar F e).run P w=.ok H w):
  (results A tmps).run P w=.ok (.tuple #[G,H]) w:=by
 have O:tmps[p]?.getD undef=.pointer (some d):=by simpa using I
 have T:tmps[q]?.getD undef=.pointer (some e):=by simpa using J
 simp[results,h,O,T,asAddr,L,M,Result.andThen]
theorem NB {W:World} {z:Nat} {d e h A u:Value} {tmps:Array Value} (D:Arr W z 59 [d,e,h,A]) (F:Arr W (z+1) 29 [u]) (_hu:u.oneCell'=true)
  (G:tmps.getD 6 undef=.pointer (some ⟨z,0,none⟩)) (H:tmps.getD 7 undef=.pointer (some ⟨z+1,0,none⟩)):
  (results f121 tmps).run pG W=.ok (.tuple #[.agg #[d,e,h,A],u]) W:=by
 have I:=F.cell (i:=0) rfl;exact bCn rfl tmps W ⟨z,0,none⟩ ⟨z+1,0,none⟩ _ _ G H (run_loadVar_row W z 59 59 _ (0,0) _ D underlying59 rfl aH2) (by simp[go_sem,I])
theorem bCo (z:Nat) (E:Int) (H:List PanicEntry) (w:World) (U V Y Z x7:Value) (g6:Arr w z 59 [U,V,Y,Z]) (I:Arr w (z+1) 29 [x7]):
  CallsD pG 131 #[.pointer (some ⟨z,0,none⟩),.pointer (some ⟨z+1,0,none⟩)] (.panicking ({v:=.iface 213 (.agg #[.int .i64 E]),recovered:=false}::H)) w fun e u' w'=>
   e=.returned (.tuple #[])/\u'=.panicking ({v:=.iface 213 (.agg #[.int .i64 E]),recovered:=true}::H)/\Arr w' z 59 [.string ⟨#[]⟩,.int .u32 0,.int .i64 0,.int .i64 0]/\Arr w' (z+1) 29 [.int .i64 E]/\Below z w w':=by
 refine OT func131 rfl fun c₀ cs hu=>?_
 apply wpS_seq;apply wpS_region;simp[wpOpsS,go_sem,recoverD,hu,ntmps131,Exit.thenS];refine wpS_of_wp ?_;simp only[Array.replicate_succ,Array.replicate_zero,List.push_toArray,List.append_toArray,List.nil_append,List.cons_append,bK,bH,bB];have a8:=bCm (.agg #[.int .i64 E]);go_wp2_with fail;have a0:=g6.alloc (.cells #[.int .i64 E] 213);have a1:=I.alloc (.cells #[.int .i64 E] 213);have F:=bX w (.int .i64 E) 213;have a5:=I.lt;have a2:Below z w (w.alloc (.cells #[.int .i64 E] 213)):=(aH z w).alloc (by omega) _
 generalize w.alloc (.cells #[.int .i64 E] 213)=G at*
 obtain⟨A,a3⟩:∃A,A=w.heap.size:=⟨_,rfl⟩;rw[<-a3] at F a5 ⊢;clear a3 g6 I;have J:=a2.drew;have d:Arr G.drew z 59 [U,V,Y,Z]:=a0;have L:Arr G.drew (z+1) 29 [x7]:=a1;have M:G.drew.cell? ⟨A,0,none⟩=some (.int .i64 E):=F;refine wp_region_held_drew (S:=fun w'=>w'.cell? ⟨A,0,none⟩=some (.int .i64 E)) (by kernel_rfl) F (fun a9=>?_);generalize G.drew=w2 at*
 obtain⟨k6,a6⟩:=tA d J (.string ⟨#[]⟩) (.int .u32 0) (.int .i64 0) (.int .i64 0);obtain⟨q6,q7,qb⟩:=aIz d L J (.string ⟨#[]⟩) (.int .u32 0) (.int .i64 0) (.int .i64 0) (.int .i64 E);have O:=(((L.other ⟨z,0,none⟩ (by simp) (.string ⟨#[]⟩)).other ⟨z,1,none⟩ (by simp) (.int .u32 0)).other ⟨z,2,none⟩ (by simp) (.int .i64 0)).other ⟨z,3,none⟩ (by simp) (.int .i64 0);have d0:=d.cell (i:=0) rfl;have d1:=d.cell (i:=1) rfl;have d2:=d.cell (i:=2) rfl;have d3:=d.cell (i:=3) rfl;have f0:=d.free 0;have f1:=d.free 1;have f2:=d.free 2;have f3:=d.free 3;have e7:=O.cell (i:=0) rfl;have f7:=O.free 0
 have T:((((w2.setCell ⟨z,0,none⟩ (.string ⟨#[]⟩)).setCell ⟨z,1,none⟩ (.int .u32 0)).setCell ⟨z,2,none⟩ (.int .i64 0)).setCell ⟨z,3,none⟩ (.int .i64 0)).cell? ⟨A,0,none⟩=some (.int .i64 E):=by
  rw[lI _ _ _ _ (xY (by omega)),lI _ _ _ _ (xY (by omega)),lI _ _ _ _ (xY (by omega)),lI _ _ _ _ (xY (by omega))];exact M
 have a4:(((((w2.setCell ⟨z,0,none⟩ (.string ⟨#[]⟩)).setCell ⟨z,1,none⟩ (.int .u32 0)).setCell ⟨z,2,none⟩ (.int .i64 0)).setCell ⟨z,3,none⟩ (.int .i64 0)).setCell ⟨z+1,0,none⟩ (.int .i64 E)).cell? ⟨A,0,none⟩=some (.int .i64 E):=by rw[lI _ _ _ _ (xY (by omega))];exact T
 clear a0 a1 F a2 J d L k6 a6 O
 iterate 2
  refine fV 1 0 (by simp only[List.size_toArray,List.length_cons,List.length_nil,Nat.reduceAdd,Nat.reduceSub]<;>rfl) (by simp only[List.getElem?_toArray,List.getElem?_cons_succ,List.getElem?_cons_zero];rfl) (by kernel_rfl) (by exact fun _ _ _ h=>h) (by first|exact Or.inr ⟨by rfl,rfl⟩|(refine Or.inl ⟨by rfl,?_⟩;intro w' a7;(try dsimp only at a7);(try go_simp);try with_reducible rfl)) M ?_
  try simp only[bJ,bK,bH,bB]
 refine dJ (i:=0) (by kernel_rfl) rfl (fun K D=>?_);go_simp;refine D.out _ _ ?_ (fun _=>?_)
 ·exact M
 try simp only[bJ,bK,bH,bB]
 refine dJ (i:=3) (by kernel_rfl) rfl (fun K D=>?_);go_simp;refine D.out _ _ ?_ (fun _=>?_)
 ·first|with_reducible exact T|with_reducible exact a4
 try simp only[bJ,bK,bH,bB]
 refine dJ (i:=4) (by kernel_rfl) rfl (fun K D=>?_);go_simp;refine D.out _ _ ?_ (fun _=>?_)
 ·first|with_reducible exact T|with_reducible exact a4
 try simp only[bJ,bK,bH,bB]
 refine wpAnyH_done (by kernel_rfl) ?_ _;go_wp2_with fail;refine⟨rfl,.panicking ({v:=.iface 213 (.agg #[.int .i64 E]),recovered:=true}::H),?_,.tuple #[],?_,rfl,rfl,q6,q7,qb⟩
 ·rfl
 ·exact results_none rfl _ _ _
theorem aI0 {w W:World} {s:List UInt8} {a room:Int} {z:Nat} {E:Int} {tmps:Array Value} {d A D F G:Value} (h:cO s a room=(dN,0,0,E)) (H:E≠0) (I:w.heap.size=z)
  (J:Arr W z 59 [d,A,D,F]) (L:Arr W (z+1) 29 [G]) (M:Below z w W)
  (O:tmps.getD 6 undef=.pointer (some ⟨z,0,none⟩)) (T:tmps.getD 7 undef=.pointer (some ⟨z+1,0,none⟩)):
  Leaves pG f121 tmps (fun e w'=>FZ w w' s a room e) [{target:=.fn (.func 131) #[.pointer (some ⟨z,0,none⟩),.pointer (some ⟨z+1,0,none⟩)],args:=#[]}] (.panicking (rS E)) W:=by
 refine leaves_cons (f:=131) (args:=#[.pointer (some ⟨z,0,none⟩),.pointer (some ⟨z+1,0,none⟩)]) (by simp) (by simp[go_sem]) ?_;refine(bCo z E [] W d A D F G J L).mono ?_;rintro e Z w' ⟨rfl,rfl,U,V,Y⟩;exact⟨_,NB U V rfl O T,qI h H (I▸M.trans Y)⟩
theorem aI1 (w:World) (v:Value):∀W,W=(w.alloc (.cells #[.string ⟨#[]⟩,.int .u32 0,.int .i64 0,.int .i64 0] 59)).alloc (.cells #[v] 29)->
  (Arr W w.heap.size 59 [.string ⟨#[]⟩,.int .u32 0,.int .i64 0,.int .i64 0]/\Arr W (w.heap.size+1) 29 [v])/\Below w.heap.size w W/\W.heap.size=w.heap.size+1+1:=by
 rintro W rfl;have h:=Arr.new w 59 [.string ⟨#[]⟩,.int .u32 0,.int .i64 0,.int .i64 0];have d:=Arr.new (w.alloc (.cells #[.string ⟨#[]⟩,.int .u32 0,.int .i64 0,.int .i64 0] 59)) 29 [v];have e:∀(W:World) (o:Obj),(W.alloc o).heap.size=W.heap.size+1:=fun W o=>by simp
 rw[e] at d;refine⟨⟨h.alloc _,d⟩,?_,by simp⟩;exact((aH _ w).alloc (aD _) _).alloc (by simp) _
theorem bCp (s:ByteArray) (a room:Int) (w:World) (hE:dU w) (hs:s.size<=120000) (b2: -9223372036854775808<=a) (b3:a<=9223372036854775807) (b4: -9223372036854775808<=room) (b5:room<=9223372036854775807):
  Calls pG 121 #[.string s,.int .i64 a,.int .i64 room] w fun e w'=>FZ w w' s.data.toList a room e:=by
 have b6:∀(fn:Fn) (first cap:Array Value) (w:World),(Instr.makeFunc fn first cap).run pG w=.ok (.func fn first cap) w:=fun _ _ _ _=>rfl
 obtain⟨⟨d,h⟩,T,U⟩:=aI1 w (.int .i64 0) _ rfl;have Y:=UJ s.data.toList a room;have H:=fun W=>aGo room W
 by_cases a9:a<0\/room<1\/360<room
 ·rw[aB a9] at Y;have G:=hid Y;clear Y;obtain⟨⟨q6,q7⟩,qb,-⟩:=aI1 w (.int .i64 1) _ rfl;clear d h T U
  by_cases h1:a<0
  ·have u1:decide (a<0)=true:=aG h1
   go_enter_defers func121,ntmps121
   go_wp2_with fail;exact⟨_,NB q6 q7 rfl rfl rfl,qI G.out (by decide) qb⟩
  have u1:decide (a<0)=false:=aE h1;have a0:(decide (1<=room)&&decide (room<=360))=false:=by
   rw[Bool.and_eq_false_iff,decide_eq_false_iff_not,decide_eq_false_iff_not];omega
  rw[a0] at H
  go_enter_defers func121,ntmps121
  go_wp2_with fail;refine(H _).mono ?_;rintro e w' ⟨rfl,rfl⟩;go_wp2_with fail;exact⟨_,NB q6 q7 rfl rfl rfl,qI G.out (by decide) qb⟩
 obtain⟨A,rfl⟩:∃A:Nat,a=(A:Int):=⟨a.toNat,by omega⟩;obtain⟨R,rfl⟩:∃R:Nat,room=(R:Int):=⟨room.toNat,by omega⟩;have u1:decide ((A:Int)<0)=false:=aE (by omega);have a0:(decide (1<=(R:Int))&&decide ((R:Int)<=360))=true:=by
  rw[Bool.and_eq_true,decide_eq_true_eq,decide_eq_true_eq];omega
 rw[a0] at H;clear Y a0
 go_enter_defers func121,ntmps121
 go_wp2_with fail;refine(H _).mono ?_;rintro e w' ⟨rfl,rfl⟩;generalize (w.alloc (.cells #[.string ⟨#[]⟩,.int .u32 0,.int .i64 0,.int .i64 0] 59)).alloc (.cells #[.int .i64 0] 29)=w0 at*
 obtain⟨z,hz⟩:∃z,w.heap.size=z:=⟨_,rfl⟩;rw[hz] at d h T U ⊢;have HZ:=hid hz;clear hz H;go_wp2_with fail;have a1:BRd (w0.alloc (.cells #[.string s,.int .i64 (A:Int),.slice none 0 0,.slice none 0 0,.int .i64 0] 217)) w0.heap.size s A (.slice none 0 0) (.slice none 0 0) (.int .i64 0):=Arr.new w0 217 [.string s,.int .i64 (A:Int),.slice none 0 0,.slice none 0 0,.int .i64 0];have d:=d.alloc (.cells #[.string s,.int .i64 (A:Int),.slice none 0 0,.slice none 0 0,.int .i64 0] 217);have h:=h.alloc (.cells #[.string s,.int .i64 (A:Int),.slice none 0 0,.slice none 0 0,.int .i64 0] 217)
 have a2:=T.alloc (o:=.cells #[.string s,.int .i64 (A:Int),.slice none 0 0,.slice none 0 0,.int .i64 0] 217) (by omega);rw[U] at a1;generalize w0.alloc (.cells #[.string s,.int .i64 (A:Int),.slice none 0 0,.slice none 0 0,.int .i64 0] 217)=w1 at*
 have a7:z+1+1<w1.heap.size:=Arr.lt a1;clear T U;refine(bCk (z+1+1) s A R w1 a1 hs (by omega) (by omega) (by omega) (fun W hW=>hE.below (by rw[HZ.out];exact a2.grown hW (by omega) (fun k I=>by obtain rfl:=cC I;omega)))).mono ?_;rintro e w2 (⟨E,b0,hF,rfl,F⟩|⟨O,V,p,vt,vc,co,rfl,a5,F,D,b7,hV⟩)
 ·have d:=d.grown F (by simp only[ne_eq,lJ];omega);have h:=h.grown F (by simp only[ne_eq,lJ];omega);have a3:=a2.grown F (by omega) (fun k I=>by obtain rfl:=cC I;omega);have G:=hid hF;clear hF;go_wp2_with fail;exact aI0 G.out b0 HZ.out d h a3 rfl rfl
 have d:=d.grown F (by simp only[ne_eq,lJ];omega);have h:=h.grown F (by simp only[ne_eq,lJ];omega);have a3:=a2.grown F (by omega) (fun k I=>by obtain rfl:=cC I;omega);have b8:=Nat.lt_of_lt_of_le a7 F.size;have a4:=fun W=>zQ (mkS O) W (by rw[cS];omega)
 rw[dP] at a4;obtain⟨Z,hZ⟩:∃Z,Z=(cH O).toNat:=⟨_,rfl⟩;rw[<-hZ] at a4 D;have HD:=hid D;clear a2 a7 F a1 D hZ;go_wp2_with fail;refine(a4 _).mono ?_;rintro e w3 ⟨rfl,J⟩;have a8:=Arr.below a5 J (Arr.lt a5);have d:=d.below J d.lt;have h:=h.below J h.lt;have a6:=a3.trans (J.mono (by omega));clear a4 a5 a3 J
 by_cases L:Z=V
 rotate_left
 ·have v1:((Z:Int)==(V:Int))=false:=by rw[cB];omega
  have v2:(Z==V)=false:=by rw[cB];exact L
  have D:=HD.out;rw[aB L] at D;have G:=hid D;clear D;go_wp2_with fail;refine(tW false 7 _ (by decide)).mono ?_;rintro e w4 (⟨M,rfl,rfl⟩|⟨M,rfl,rfl⟩)
  ·exact absurd M (by decide)
  go_wp2_with fail;exact aI0 G.out (by decide) HZ.out d h a6 rfl rfl
 have v1:((Z:Int)==(V:Int))=true:=by rw[beq_iff_eq];omega
 have v2:(Z==V)=true:=by rw[beq_iff_eq];exact L
 have D:=HD.out;rw[aA (fun k=>k L)] at D;have G:=hid D;clear D L;go_wp2_with fail;refine(tW true 7 _ (by decide)).mono ?_;rintro e w4 (⟨M,rfl,rfl⟩|⟨M,rfl,rfl⟩)
 rotate_left
 ·exact absurd M (by decide)
 obtain⟨q6,q7,qb⟩:=aIz d h a6 (.string (mkS O)) (.int .u32 (V:Int)) (.int .i64 (A:Int)) (.int .i64 (p:Int)) (.int .i64 0);have k7:=(((h.other ⟨z,0,none⟩ (by simp) (.string (mkS O))).other ⟨z,1,none⟩ (by simp) (.int .u32 (V:Int))).other ⟨z,2,none⟩ (by simp) (.int .i64 (A:Int))).other ⟨z,3,none⟩ (by simp) (.int .i64 (p:Int));have d0:=d.cell (i:=0) rfl;have d1:=d.cell (i:=1) rfl;have d2:=d.cell (i:=2) rfl;have d3:=d.cell (i:=3) rfl;have f0:=d.free 0;have f1:=d.free 1;have f2:=d.free 2;have f3:=d.free 3;have e7:=k7.cell (i:=0) rfl;have f7:=k7.free 0;have b1:=Arr.cell a8 (i:=1) rfl
 clear d h a6 k7 a8;go_wp2_with fail;refine leaves_cons (f:=131) (args:=#[.pointer (some ⟨z,0,none⟩),.pointer (some ⟨z+1,0,none⟩)]) (by simp) (by simp[go_sem]) ?_;refine(bCl ⟨z,0,none⟩ ⟨z+1,0,none⟩ _).mono ?_;rintro e u' b9 ⟨rfl,rfl,rfl⟩;exact⟨_,NB q6 q7 rfl rfl rfl,by rw[G.out,aH1],by rw[HZ.out];exact qb⟩
end Go.Proofs.YtfplbbphficcjaaGreatDoor

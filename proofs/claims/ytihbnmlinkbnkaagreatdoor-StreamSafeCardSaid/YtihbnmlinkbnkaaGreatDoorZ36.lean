/-
  Texts put together (part 36): the walks and the plain laws on which the statement stands.
-/
import Derived.Test.YtihbnmlinkbnkaaGreatDoorZ31
import Derived.Test.YtihbnmlinkbnkaaGreatDoorZ33
set_option maxRecDepth 100000
set_option maxHeartbeats 12800000
set_option linter.unusedVariables false
set_option linter.unusedSimpArgs false
open Go.Proofs.Tryz
open Go.Proofs.Tryz renaming prog->pG
open Go.Calls renaming quiet_of_same->AY
open Go.IntKind renaming i64->aJ,u64->eZ,wrap_u64->fC
open Go.RowKit.Below renaming refl->aH
open List renaming append_assoc->bU,append_nil->dI,flatten_append->tL,flatten_cons->kW,flatten_nil->xE,getElem?_eq_getElem->aN,length_append->aL,length_singleton->fQ,take_of_length_le->cD
open Nat renaming le_refl->aD,le_trans->aR
namespace Go.Proofs.YtihbnmlinkbnkaaGreatDoor
open Go.RowKit Go Go.Shelf
def SRd (w:World) (b:Nat) (s:ByteArray) (a:Int) (v:Value):Prop:=Arr w b 221 [.string s,.int .i64 a,v]
theorem Ow.box {w w':World} {B b e:Nat} {v:Value} {d:List Value} (h:Ow w B e v d) (A:w.grownBy w' (some b)) (G:b<B):Ow w' B e v d:=
 h.kept A (by
  cases F:v.ownBlock with
  |none=>exact .inl rfl
  |some k=>exact .inr (fun q=>by injection q with q;have:=(h.lt k F).1;omega))
theorem lE (d:Nat) (h:d<=9223372036854775807):aJ.wrap (d:Int)=(d:Int):=by rw[IntKind.wrap_i64];omega
theorem aGs (V:Nat) (h:V<4294967296):IntKind.u32.wrap (V:Int)=(V:Int):=by rw[IntKind.wrap_u32];omega
theorem aZc (V:Nat) (h:V<4294967296):(V:Int)%4294967296=(V:Int):=by omega
theorem aZd (a:Nat) (U:a<=90000000):∃A G q d F:Nat,A=a+80/\jP ((a:Int)+80).toNat=d/\d<=7/\F=A+d/\(A:Int)+(jP (A:Int).toNat:Int)=(F:Int)/\aJ.wrap ((a:Int)+48)=(a:Int)+48/\aJ.wrap ((a:Int)+80)=(A:Int)/\(a:Int)+80=(A:Int)/\
  (A:Int).tmod 8=(G:Int)/\aJ.wrap (8-(G:Int))=(q:Int)/\8-(G:Int)=(q:Int)/\(q:Int).tmod 8=(d:Int)/\aJ.wrap ((A:Int)+(d:Int))=(F:Int)/\(A:Int)+(d:Int)=(F:Int)/\aJ.wrap (F:Int)=(F:Int)/\wrap64 (F:Int)=(F:Int):=by
 obtain⟨A,I⟩:∃A,A=a+80:=⟨_,rfl⟩;obtain⟨G,V⟩:∃G,G=A%8:=⟨_,rfl⟩;obtain⟨q,Z⟩:∃q,q=8-G:=⟨_,rfl⟩;obtain⟨d,a0⟩:∃d,d=q%8:=⟨_,rfl⟩;obtain⟨F,hF⟩:∃F,F=A+d:=⟨_,rfl⟩;have hr:G<8:=by grind
 have hp:d<8:=by grind
 have J:(a:Int)+80=(A:Int):=by omega
 have L:8-(G:Int)=(q:Int):=by omega
 have M:(A:Int)+(d:Int)=(F:Int):=by omega
 have H:F<=9223372036854775807:=by omega
 have a1:A<=9223372036854775807:=by omega
 have O:(a:Int)+48=((a+48:Nat):Int):=by push_cast;rfl
 have e5:jP A=d:=by grind [jP]
 have e6:((a:Int)+80).toNat=A:=by omega
 refine⟨A,G,q,d,F,I,by grind,by omega,hF,by grind,?_,?_,J,?_,?_,L,?_,?_,M,lE F H,aGp F H⟩
 ·rw[O];exact lE _ (by omega)
 ·grind [lE,jP]
 ·grind
 ·grind [lE,jP]
 ·grind
 ·grind [lE,jP]
theorem aZe (b B:Nat) (s:ByteArray) (a:Nat) (v:Value) (l:List (BitVec 32)) (w:World) (hA:SRd w b s (a:Int) v) (hr:OwS w B v l) (b1:b<B) (hs:s.size<=1000000) (ha:a<=90000000):
  Calls pG 218 #[.pointer (some ⟨b,0,none⟩)] w fun e w'=>
   e=.returned (.int .i64 (kS s.data.toList (a:Int) (iM l)).2)/\w.grownBy w' (some b)/\∃a':Int,SRd w' b s a' v/\((kS s.data.toList (a:Int) (iM l)).2=0->a'=(kS s.data.toList (a:Int) (iM l)).1):=by
 have HL:=hid (show s.data.toList.length=s.size by simp);obtain⟨A,r8,q,M,F,c7,b2,d2,hF,c8,b3⟩:=aZd a ha;have HR:=hid b3;clear b3;have a5:(a:Int)+80=(A:Int):=by omega
 have b4:(A:Int)+(M:Int)=(F:Int):=by omega
 have a6:=fun W=>uQ s ((a:Int)+48) 32 W hs (by decide) (by omega) (by omega)
 have a7:=fun W=>uQ s (A:Int) M W hs (by omega) (by omega) (by omega)
 have b5:jP (A:Int).toNat=M:=by rw[<-a5];exact b2
 have b6:(A:Int)+(M:Int)=(F:Int):=b4;have a8:=jV s.data.toList ((a:Int)+48) 32;have d:kS s.data.toList (a:Int) (iM l)=if aP s.size ((a:Int)+48) 32≠0 then(0,aP s.size ((a:Int)+48) 32) else if aK s.data.toList ((a:Int)+48) 32≠(iM l).toNat then(0,7) else if aK s.data.toList (A:Int) M≠0 then(0,3) else((F:Int),0):=by
  unfold kS;rw[HL.out,a5,b5,b6]
 have a9:=fun W (h:RdS W v l)=>aGr v l W h
 obtain⟨S,hS⟩:∃S,S=(iM l).toNat:=⟨_,rfl⟩;obtain⟨E,hE⟩:∃E,E=aP s.size ((a:Int)+48) 32:=⟨_,rfl⟩;obtain⟨V,hV⟩:∃V,V=aK s.data.toList ((a:Int)+48) 32:=⟨_,rfl⟩;obtain⟨E2,b7⟩:∃E2,E2=aP s.size (A:Int) M:=⟨_,rfl⟩;obtain⟨O,b0⟩:∃O,O=aK s.data.toList (A:Int) M:=⟨_,rfl⟩;rw[<-hE,<-hV] at a6;rw[<-b7,<-b0] at a7;rw[<-hS] at a9;rw[<-hE,<-hV,<-b0,<-hS] at d;rw[<-hV] at a8;have b8:V<4294967296:=a8;obtain⟨m1,m2,d4,m3,m4,d5,m5,m6,d6,-,-⟩:=HR.out;have m7:=aGs V b8;have d7:=aZc V b8;have H:=hid d;have c0:=Arr.cell hA (i:=0) rfl;have c1:=Arr.cell hA (i:=1) rfl;clear b5 b6 HR a5 b4
 clear d hS hE hV b7 b0 a8 b2 c7 hF c8 HL;go_enter func218,ntmps218;go_wp2_with fail
 go_quiet (first|(go_at_call 175;exact AY (a6 _)))
 generalize I:w.drewN nq=U at*
 have a1:SRd U b s (a:Int) v:=by rw[<-I];exact hA
 have b9:OwS U B v l:=by rw[<-I];exact hr
 have c2:w.grownBy U (some b):=by rw[<-I];exact⟨rfl,rfl,rfl,aD _,fun _ _ _=>rfl⟩
 have d1:=Arr.cell a1 (i:=1) rfl;have f1:=Arr.free a1 1;have a2:SRd (U.setCell ⟨b,1,none⟩ (.int .i64 (A:Int))) b s (A:Int) v:=Arr.set a1 1 _;have c3:OwS (U.setCell ⟨b,1,none⟩ (.int .i64 (A:Int))) B v l:=Ow.box b9 (gbS _ _ _ _) b1;have Z:=gbT c2 (gbS U b 1 (.int .i64 (A:Int)));have e0:=Arr.cell a2 (i:=0) rfl;have e1:=Arr.cell a2 (i:=1) rfl;clear I hA hr c0 c1 a1 b9 c2;go_wp2_with fail;generalize U.setCell ⟨b,1,none⟩ (.int .i64 (A:Int))=W2 at*
 go_quiet (first|(go_at_call 175;exact AY (a7 _)))
 generalize I:W2.drewN nq=W3 at*
 have a3:SRd W3 b s (A:Int) v:=by rw[<-I];exact a2
 have c4:OwS W3 B v l:=by rw[<-I];exact c3
 have c5:w.grownBy W3 (some b):=by rw[<-I];exact⟨Z.os,Z.tape,Z.output,Z.size,Z.block⟩
 have d3:=Arr.cell a3 (i:=1) rfl;have f3:=Arr.free a3 1;have a0:SRd (W3.setCell ⟨b,1,none⟩ (.int .i64 (F:Int))) b s (F:Int) v:=Arr.set a3 1 _;have c9:OwS (W3.setCell ⟨b,1,none⟩ (.int .i64 (F:Int))) B v l:=Ow.box c4 (gbS _ _ _ _) b1;have a4:=gbT c5 (gbS W3 b 1 (.int .i64 (F:Int)));have e2:=Arr.cell a0 (i:=2) rfl;have d0:=c9.rd;have c6:=a9 _ d0;clear I a2 c3 Z e0 e1 d1 f1 a3 c4 c5 a6 a7 a9
 by_cases h1:E=0
 rotate_left
 ·have t1:(E==0)=false:=by rw[cB];exact h1
  have t2:(E != 0)=true:=by rw[bne_iff_ne];exact h1
  have d:=H.out;rw[aB h1] at d;have G:=hid d;clear d H c6 h1;go_wp2_with fail;go_ret;exact⟨eI (by rw[G.out]),a4,_,a0,fun k=>absurd (by rw[G.out] at k;exact k) (by simpa using t2)⟩
 subst h1;have d:=H.out;rw[aA (fun k=>k rfl)] at d;have H:=hid d;clear d;go_wp2_with fail;refine c6.mono ?_;rintro e w' ⟨rfl,rfl⟩
 by_cases J:V=S
 rotate_left
 ·have t1:((V:Int) != (S:Int))=true:=by rw[bne_iff_ne];exact fun q=>J (Int.ofNat_inj.1 q)
  have t2:(V != S)=true:=by rw[bne_iff_ne];exact J
  have d:=H.out;rw[aB J] at d;have G:=hid d;clear d H J;go_wp2_with fail;go_ret;exact⟨eI (by rw[G.out]),a4,_,a0,fun k=>absurd (by rw[G.out] at k;exact k) (by decide)⟩
 have t1:((V:Int) != (S:Int))=false:=by rw[bne_eq_false_iff_eq,J]
 have t2:(V != S)=false:=by rw[bne_eq_false_iff_eq];exact J
 have d:=H.out;rw[aA (fun k=>k J)] at d
 by_cases L:O=0
 rotate_left
 ·have t3:((O:Int) != 0)=true:=by rw[bne_iff_ne];exact fun q=>L (Int.ofNat_inj.1 q)
  have t4:(O != 0)=true:=by rw[bne_iff_ne];exact L
  rw[aB L] at d;have G:=hid d;clear d H J L;go_wp2_with fail;go_ret;exact⟨eI (by rw[G.out]),a4,_,a0,fun k=>absurd (by rw[G.out] at k;exact k) (by decide)⟩
 have t3:((O:Int) != 0)=false:=by rw[bne_eq_false_iff_eq,L];rfl
 have t4:(O != 0)=false:=by rw[bne_eq_false_iff_eq];exact L
 rw[aA (fun k=>k L)] at d;have G:=hid d;clear d H J L;go_wp2_with fail;go_ret;exact⟨eI (by rw[G.out]),a4,_,a0,fun _=>by rw[G.out]⟩
theorem WrL.below {w w':World} {p B:Nat} {d:List (List Bool)} (h:WrL w p B d) (A:Below w.heap.size w w'):WrL w' p B d:=by
 obtain⟨v,F,G⟩:=h;exact⟨v,F.below A F.lt,G.below A (aD _)⟩
theorem bBr (s:ByteArray) (room:Int) (w:World) (hs:s.size<=100000):
  Calls pG 52 #[.string s,.int .i64 room] w fun e w'=>FV w w' s room e:=by
 have HL:=hid (show s.data.toList.length=s.size by simp);have a4:=Arr.new w 79 [.string ⟨#[]⟩,.int .i64 0];have x7:(w.alloc (.cells #[.string ⟨#[]⟩,.int .i64 0] 79)).heap.size=w.heap.size+1:=by simp
 have d2:Below w.heap.size w (w.alloc (.cells #[.string ⟨#[]⟩,.int .i64 0] 79)):=bD (aH _ _) _;change Arr (w.alloc (.cells #[.string ⟨#[]⟩,.int .i64 0] 79)) _ _ _ at a4;have hd:jZ s room=if s.size=0\/room<1\/360<room then 1 else if room<((bT s.data.toList).length:Int) then 4 else 0:=rfl;have d0:=a4.cell (i:=0) rfl;have d1:=a4.cell (i:=1) rfl;have f0:=a4.free 0;have f1:=a4.free 1;have b5:=fun W=>aGo room W
 by_cases k7:s.size=0\/room<1\/360<room
 ·rw[aB k7] at hd;have HF:=hid hd;clear hd
  by_cases h1:s.size=0
  ·have u1:s.toList.isEmpty=true:=EI (List.eq_nil_of_length_eq_zero (by rw[HL.out];exact h1));go_enter func52,ntmps52;go_wp2_with fail;exact bpE rfl a4 rfl rfl rfl (zZ HF.out (by decide) d2)
  have u1:s.toList.isEmpty=false:=xK (by omega);have d3:(decide (1<=room)&&decide (room<=360))=false:=by
   rw[Bool.and_eq_false_iff,decide_eq_false_iff_not,decide_eq_false_iff_not];omega
  rw[d3] at b5;go_enter func52,ntmps52;go_wp2_with fail;refine(b5 _).mono ?_;rintro e w' ⟨rfl,rfl⟩;go_wp2_with fail;exact bpE rfl a4 rfl rfl rfl (zZ HF.out (by decide) d2)
 rw[aA k7] at hd;have u1:s.toList.isEmpty=false:=xK (by omega);have d3:(decide (1<=room)&&decide (room<=360))=true:=by
  rw[Bool.and_eq_true,decide_eq_true_eq,decide_eq_true_eq];omega
 rw[d3] at b5;have i0:0<s.size:=by omega
 have k8:=(uM s.data.toList.length s.data.toList (aD _)).1;rw[HL.out] at k8;have i1:=fun W=>bAt s W (by omega)
 have i2:=fun W=>bAp s W (by omega)
 obtain⟨P,hP⟩:∃P,P=bT s.data.toList:=⟨_,rfl⟩;rw[<-hP] at hd i2 k8 i1;have HP:=hid hP;clear hP d3;go_enter func52,ntmps52;go_wp2_with fail;generalize w.alloc (.cells #[.string ⟨#[]⟩,.int .i64 0] 79)=w0 at*
 have p9:w.heap.size<w0.heap.size:=by omega
 refine(b5 _).mono ?_;rintro e w' ⟨rfl,rfl⟩;clear b5 d0 d1 f0 f1;go_wp2_with fail;refine(i1 _).mono ?_;rintro e w1 ⟨rfl,a6⟩;have O:=a4.below a6 p9;have hb:=d2.trans (a6.mono (by omega));have i0:=a6.size;clear i1 a6 a4 d2
 by_cases b0:room<(P.length:Int)
 ·rw[aB b0] at hd;have HF:=hid hd;clear hd;have v1:decide ((P.length:Int)>room)=true:=aG b0;have v2:decide (room<(P.length:Int))=true:=aG b0;have d0:=O.cell (i:=0) rfl;have d1:=O.cell (i:=1) rfl;have f0:=O.free 0;have f1:=O.free 1;go_wp2_with fail;obtain⟨z0,z1⟩:=MT O hb (.string ⟨#[]⟩) (.int .i64 0);exact bpE rfl z0 rfl rfl rfl (zZ HF.out (by decide) z1)
 rw[aA b0] at hd;have HF:=hid hd;clear hd;have v1:decide ((P.length:Int)>room)=false:=aE b0;have v2:decide (room<(P.length:Int))=false:=aE b0;have x8:P.length<=360:=by omega
 go_wp2_with fail;refine(i2 _).mono ?_;rintro e x9 ⟨rfl,a6⟩;have O:=O.below a6 (by omega);have hb:=hb.trans (a6.mono (by omega));have i0:=aR i0 a6.size;clear i2 a6;go_wp2_with fail;refine(aSi (mkS P) _ (by rw[cS];omega)).mono ?_;rintro e w2 ⟨v5,rfl,a9,d4,hO⟩;have k9:=(uM s.data.toList.length s.data.toList (aD _)).2.1 (fun e=>by have:=HL.out;rw[e] at this;simp at this;omega);rw[<-HP.out] at k9;have hO:=hO (by rw[cS];exact List.length_pos_iff.2 k9);have HO:=hid (show iZ (mkS (bT s.data.toList)) by rw[<-HP.out];exact hO)
 obtain⟨P',a,m,o,n,U⟩:=BIn.of (t:=s) (by omega) (by rw[<-HP.out];omega) HO.out;obtain rfl:P'=P:=by rw[U.hP,HP.out]
 rw[U.hA,<-U.ho,U.hE,<-U.hm] at*
 have HI:=hid U;have l3:=U.m0;have y2:=U.m361;have y3:=U.n2;have q0:=U.n258;have y4:=U.a256;have y5:=U.o16;have l6:(a.length:Int)+2=(n:Int):=by rw[U.hn];omega
 have q2:((mkS a).size:Int)+2=(n:Int):=by rw[cS];exact l6
 have y6:(a.length:Int)+2=(n:Int):=l6;obtain⟨a5,c5,rfl,_,_,_⟩:=a9.open;have O:=O.below d4 (by omega);have hb:=hb.trans (d4.mono (by omega));have q3:=d4.size;clear U d4 hO;go_wp2_with fail;have hX:=Arr.new w2 131 [.string (mkS a),.int .i64 (o:Int),.slice a5 m.length c5];have O:=O.alloc (.cells #[.string (mkS a),.int .i64 (o:Int),.slice a5 m.length c5] 131);have hb:=hb.alloc (o:=.cells #[.string (mkS a),.int .i64 (o:Int),.slice a5 m.length c5] 131) (by omega);have a9:=a9.below (bD (aH w2.heap.size w2) (.cells #[.string (mkS a),.int .i64 (o:Int),.slice a5 m.length c5] 131))
 have q4:(w2.alloc (.cells #[.string (mkS a),.int .i64 (o:Int),.slice a5 m.length c5] 131)).heap.size=w2.heap.size+1:=by simp
 change Arr (w2.alloc (.cells #[.string (mkS a),.int .i64 (o:Int),.slice a5 m.length c5] 131)) _ _ _ at hX;generalize w2.alloc (.cells #[.string (mkS a),.int .i64 (o:Int),.slice a5 m.length c5] 131)=w3 at*
 obtain⟨I,l7⟩:∃I,I=w2.heap.size:=⟨_,rfl⟩;rw[<-l7] at hX q4 q3 ⊢;clear l7;obtain⟨B3,l8⟩:∃B3,w3.heap.size=B3:=⟨_,rfl⟩;have x0:=hX.cell (i:=0) rfl;have x1:=hX.cell (i:=1) rfl;have x2:=hX.cell (i:=2) rfl;have y7:I<B3:=by omega
 have y8:=oF (B:=B3) (w0:=w3) ⟨x0,x1,x2,aH _ _,by omega⟩ (aH w3.heap.size w3).drew
 go_region_held3 (fun w'=>w'.cell? ⟨I,0,none⟩=some (.string (mkS a))/\w'.cell? ⟨I,1,none⟩=some (.int .i64 (o:Int))/\w'.cell? ⟨I,2,none⟩=some (.slice a5 m.length c5)/\Below B3 w3 w'/\B3<=w'.heap.size)
  (first
   |with_reducible assumption
   |with_reducible exact oF (by assumption) (by assumption))
  (first
   |(go_at_call 84;refine(aA3 (mkS a) (o:Int) (.slice a5 m.length c5) rfl _ (by rw[cS];omega)).mono ?_;rintro e w4 ⟨rfl,y9⟩;rw[q2])
   |(go_at_call 83;refine(bA1 (.slice a5 m.length c5) m n _ (rdQ a9 l8 (by assumption)) l3 (by omega) (by omega) q0 HI.out.rng).mono ?_;rintro e H ⟨v9,z2,rfl,l9,q5,z3⟩))
 have q6:=(show H.cell? ⟨I,0,none⟩=some (.string (mkS a))/\H.cell? ⟨I,1,none⟩=some (.int .i64 (o:Int))/\H.cell? ⟨I,2,none⟩=some (.slice a5 m.length c5)/\Below B3 w3 H/\B3<=H.heap.size by assumption);obtain⟨x0,x1,x2,i3,z4⟩:=q6;obtain⟨B,V⟩:∃B,B=H.heap.size:=⟨_,rfl⟩;have i4:I<B:=by omega
 have m3:w.heap.size<B:=by omega
 have HC:=hid (fun W (h:Below B H W)=>show W.cell? ⟨I,0,none⟩=some (.string (mkS a))/\W.cell? ⟨I,1,none⟩=some (.int .i64 (o:Int))/\W.cell? ⟨I,2,none⟩=some (.slice a5 m.length c5) from⟨(h.cell (p:=⟨I,0,none⟩) i4).trans x0,(h.cell (p:=⟨I,1,none⟩) i4).trans x1,(h.cell (p:=⟨I,2,none⟩) i4).trans x2⟩);have O:=O.below i3 (by omega);have hb:=hb.trans (i3.mono (by omega));have a9:=a9.below (l8▸i3);have m4:=OwI.rd q5;have HA:=hid (fun W (h:Below B H W)=>O.below h m3);have HB:=hid (fun W (h:Below B H W)=>hb.trans (h.mono (Nat.le_of_lt m3)));have q7:=hid (fun W (h:Below B H W)=>a9.below (V▸h))
 have m5:=hid (fun W (h:Below B H W)=>m4.below (V▸h));have z5:=hid (fun W (h:Below B H W)=>l9.below (V▸h));have m6:=CA m n;obtain⟨ac,cc,rfl,_,_,m7⟩:=m4.open;obtain⟨i5,i6,rfl,b6,m8⟩:=m7 (by omega);obtain⟨z6,z8,rfl,z9,hm9,m9⟩:=l9.open;obtain⟨b9,o9,rfl,b1,i7⟩:=m9 (by simp);obtain⟨y0,o0,d5⟩:=i7 0 _ rfl;obtain⟨y1,o1,d6⟩:=i7 1 _ rfl;obtain⟨J,d7⟩:∃J,J=eN m n 0:=⟨_,rfl⟩;obtain⟨M,d8⟩:∃M,M=eN m n 1:=⟨_,rfl⟩;rw[<-d7] at d5;rw[<-d8] at d6;have q8:=hid d7;have q9:=hid d8;have b2:=hid (show bM J=0/\J.length=n by rw[d7];exact⟨HI.out.c0,HI.out.l0⟩)
 have b3:=hid (show bM M=0/\M.length=n by rw[d8];exact⟨HI.out.c1,HI.out.l1⟩);obtain⟨d9,e0,rfl,_,_,_⟩:=d5.open;obtain⟨e7,e8,rfl,_,_,_⟩:=d6.open;have o2:=hid (fun W (h:Below B H W)=>show W.cell? ⟨b9,o9,none⟩=some (.slice d9 J.length e0)/\W.cell? ⟨b9,o9+1,none⟩=some (.slice e7 M.length e8)/\RdI W (.slice d9 J.length e0) J/\RdI W (.slice e7 M.length e8) M from
  ⟨(h.cell (p:=⟨b9,o9,none⟩) (by rw[V];exact b1)).trans o0,(h.cell (p:=⟨b9,o9+1,none⟩) (by rw[V];exact b1)).trans o1,d5.below (V▸h),d6.below (V▸h)⟩)
 have r0:=hid (fun W (h:Below B H W) i c (hi:(dS m n)[i]? =some c)=>show W.cell? ⟨i5,i6+i,none⟩=some (.int .i64 c) from(h.cell (p:=⟨i5,i6+i,none⟩) (by rw[V];exact b6)).trans (m8 i c hi));clear m7 m8 m9 i7 o0 o1 d5 d6 d7 d8;have r1:(dS m n).length<=901:=by omega
 have r2:0<(dS m n).length:=by omega
 have i8:=hid (LC m n);have hZ:=(cH s.data.toList).isLt;obtain⟨Z,e9⟩:∃Z,Z=(cH s.data.toList).toNat:=⟨_,rfl⟩;rw[<-e9] at hZ;have i9:=fun W=>zQ s W (by omega)
 rw[<-e9] at i9;have HZ:=hid e9;obtain⟨G,hG⟩:∃G,G=(dS m n).length:=⟨_,rfl⟩;have HG:=hid hG;have j0:=hid (hG.trans m6);have b7:=fun W=>aYz (mkS a) W (by rw[cS];omega)
 rw[dP] at b7;have r3:=KR a;have c2:=fun W h=>aX2 (.slice (some ⟨i5,i6,none⟩) (dS m n).length cc) (dS m n) W h (by omega) i8.out
 have j1:=CH (fJ (dS m n)) 2 (FI i8.out);rw[zT] at j1;have f2:=fun W h=>aF9 (.slice d9 J.length e0) J W h (gE b2.out.1).1
 have f3:=fun W h=>aF9 (.slice e7 M.length e8) M W h (gE b3.out.1).1
 have r4:=CQ (gE b2.out.1).1;have r5:=CQ (gE b3.out.1).1;obtain⟨XM,f4⟩:∃X,X=iL a:=⟨_,rfl⟩;obtain⟨XS,f5⟩:∃X,X=eW (fJ (dS m n)):=⟨_,rfl⟩;obtain⟨X0,j2⟩:∃X,X=fI J:=⟨_,rfl⟩;obtain⟨X1,j3⟩:∃X,X=fI M:=⟨_,rfl⟩;rw[<-f4] at b7 r3;rw[<-f5] at c2 j1;rw[<-j2] at f2 r4;rw[<-j3] at f3 r5;unfold fT at b7 c2 f2 f3;rw[<-hG] at c2 j1 r1 r2 m5 ⊢;have HXM:=hid f4;have HXS:=hid f5;have r6:=hid j2;have r7:=hid j3;have e1:eZ.wrap (Z:Int)=(Z:Int):=by rw[fC];omega
 have e2:(Z:Int)%18446744073709551616=(Z:Int):=by omega
 have e3:eZ.wrap (o:Int)=(o:Int):=by rw[fC];omega
 have e4:(o:Int)%18446744073709551616=(o:Int):=by omega
 have e5:eZ.wrap (G:Int)=(G:Int):=by rw[fC];omega
 have e6:(G:Int)%18446744073709551616=(G:Int):=by omega
 obtain⟨l0,f6⟩:∃l,l=aT 0x314159265359 48:=⟨_,rfl⟩;obtain⟨l1,f7⟩:∃l,l=aT Z 32:=⟨_,rfl⟩;obtain⟨l2,f8⟩:∃l,l=aT o 16:=⟨_,rfl⟩;obtain⟨l4,f9⟩:∃l,l=aT 2 3:=⟨_,rfl⟩;obtain⟨l5,g0⟩:∃l,l=aT G 15:=⟨_,rfl⟩;have o3:∀W,WrL W B (B+1) []->B+1<=W.heap.size->Calls pG 85 #[.pointer (some ⟨B,0,none⟩),.int .u64 54156738319193,.int .i64 48] W fun e w'=>e=.returned (.tuple #[])/\WrL w' B (B+1) [l0]/\Below B W w':=fun W h1 h2=>by
  rw[f6];exact FP B (B+1) [] 54156738319193 48 W h1 (by omega) h2 (by decide) (by decide) (by decide)
 have j4:=fun W h1 h2=>FP B (B+1) [l0] Z 32 W h1 (by omega) h2 (by simp) (by omega) (by decide)
 have j5:=fun W h1 h2=>FP B (B+1) [l0,l1] o 16 W h1 (by omega) h2 (by simp) (by omega) (by decide)
 have o4:∀W,WrL W B (B+1) [l0,l1,l2,XM]->B+1<=W.heap.size->Calls pG 85 #[.pointer (some ⟨B,0,none⟩),.int .u64 2,.int .i64 3] W fun e w'=>e=.returned (.tuple #[])/\WrL w' B (B+1) [l0,l1,l2,XM,l4]/\Below B W w':=fun W h1 h2=>by
  rw[f9];exact FP B (B+1) [l0,l1,l2,XM] 2 3 W h1 (by omega) h2 (by simp) (by decide) (by decide)
 have a3:=fun W h1 h2=>FP B (B+1) [l0,l1,l2,XM,l4] G 15 W h1 (by omega) h2 (by simp) (by omega) (by decide)
 rw[<-f7] at j4;rw[<-f8] at j5;rw[<-g0] at a3;have o5:=hid (show[l0,l1,l2,XM,l4,l5,XS].flatten=aT 0x314159265359 48++aT Z 32++aT o 16++iL a++(aT 2 3++aT G 15++eW (fJ (dS m n))) by
  rw[f6,f7,f8,f9,g0,f4,f5];simp only[kW,xE,dI,bU])
 have r8:[l0,l1,l2,XM,l4,l5,XS].flatten.length<=3000:=by
  rw[f6,f7,f8,f9,g0];simp only[kW,xE,dI,aL,dV];omega
 clear e9 hG m6 f4 f5 j2 j3 f6 f7 f8 f9 g0;go_wp2_with fail;have d:WrL (H.alloc (.cells #[.slice none 0 0] 139)) B (B+1) []:=⟨_,by rw[V];exact Arr.new H _ _,eO.nil _ _⟩;have F:Below B H (H.alloc (.cells #[.slice none 0 0] 139)):=by rw[V];exact bD (aH _ _) _
 have A:B+1<=(H.alloc (.cells #[.slice none 0 0] 139)).heap.size:=by rw[V];simp
 generalize H.alloc (.cells #[.slice none 0 0] 139)=w6 at*
 rw[<-V];have HBB:=hid V;clear V;refine(o3 _ d A).mono ?_;rintro e w7 ⟨rfl,d,j6⟩;have F:=F.trans j6;have A:=aR A j6.size;clear o3 j6;go_wp2_with fail;refine(i9 _).mono ?_;rintro e w8 ⟨rfl,g1⟩;have d:=d.below g1;have F:=F.trans (g1.mono (by omega));have A:=aR A g1.size;clear i9 g1;go_wp2_with fail;refine(j4 _ d A).mono ?_;rintro e w9 ⟨rfl,d,b1⟩;have F:=F.trans b1;have A:=aR A b1.size;clear j4 b1;obtain⟨xa,xb,xc⟩:=HC.out _ F;clear xa xc;go_wp2_with fail;refine(j5 _ d A).mono ?_;rintro e w10 ⟨rfl,d,b6⟩;have F:=F.trans b6;have A:=aR A b6.size;clear j5 b6
 obtain⟨xa,r9,xc⟩:=HC.out _ F;clear r9 xc xb;go_wp2_with fail;refine(b7 _).mono ?_;rintro e w11 ⟨rfl,g2⟩;have d:=d.below g2;have F:=F.trans (g2.mono (by omega));have A:=aR A g2.size;clear b7 g2;go_wp2_with fail;refine(CM B (B+1) [l0,l1,l2] XM 0 _ d (by omega) A (by simp)).mono ?_;rintro e w12 ⟨rfl,d,j7,-⟩;have F:=F.trans j7;have A:=aR A j7.size;clear j7;go_wp2_with fail;refine(o4 _ d A).mono ?_;rintro e w13 ⟨rfl,d,j8⟩;have F:=F.trans j8;have A:=aR A j8.size;clear o4 j8;go_wp2_with fail;refine(a3 _ d A).mono ?_;rintro e w14 ⟨rfl,d,j9⟩;have F:=F.trans j9
 have A:=aR A j9.size;clear a3 j9;go_wp2_with fail;refine(c2 _ (m5.out _ F)).mono ?_;rintro e w15 ⟨rfl,g3⟩;have d:=d.below g3;have F:=F.trans (g3.mono (by omega));have A:=aR A g3.size;clear c2 g3;go_wp2_with fail;refine(CM B (B+1) [l0,l1,l2,XM,l4,l5] XS 0 _ d (by omega) A (by simp)).mono ?_;rintro e s0 ⟨rfl,d,k0,-⟩;have F:=F.trans k0;have A:=aR A k0.size;clear k0;clear xa e1 e2 e3 e4 e5 e6;obtain⟨L7,g4⟩:∃L,L=[l0,l1,l2,XM,l4,l5,XS]:=⟨_,rfl⟩;have d:WrL s0 B (B+1) L7:=by rw[g4];exact d
 rw[<-g4] at o5 r8;have hL7l:L7.length=7:=by rw[g4];rfl
 clear g4;go_wp2_with fail
 go_loopg [13,71] 2 (fun gm _s13 s1 wr=>∃k:Nat,k<=2/\gm=2-k/\s1=.int .i64 (k:Int)/\WrL wr B (B+1) (L7++[X0,X1].take k)/\Below B H wr/\B+1<=wr.heap.size)
 case atStart=>exact⟨0,by omega,rfl,rfl,by simpa using d,F,A⟩
 case round=>
  clear d F A;obtain⟨k,hk,hg,rfl,d,F,A⟩:=hrel;have o6:=hid hg;clear hg;obtain⟨t0,t1,t2,t3⟩:=o2.out _ F;rcases(show k=0\/k=1\/k=2 by omega) with rfl|rfl|rfl
  ·clear t1 t3;go_wp2_with fail;refine(f2 _ t2).mono ?_;rintro e s2 ⟨rfl,a7⟩;have d:=d.below a7;have F:=F.trans (a7.mono (by omega));have A:=aR A a7.size;clear a7;go_wp2_with fail;refine(CM B (B+1) _ X0 0 _ d (by omega) A (by simp;omega)).mono ?_;rintro e s3 ⟨rfl,d,c3,-⟩;go_wp2_with fail;have hg:=o6.out
   go_roundg 1
   case measure=>omega
   case rel=>exact⟨1,by omega,rfl,by go_num,by simpa using d,F.trans c3,aR A c3.size⟩
  ·clear t0 t2;go_wp2_with fail;refine(f3 _ t3).mono ?_;rintro e s2 ⟨rfl,a7⟩;have d:=d.below a7;have F:=F.trans (a7.mono (by omega));have A:=aR A a7.size;clear a7;go_wp2_with fail;refine(CM B (B+1) _ X1 0 _ d (by omega) A (by simp;omega)).mono ?_;rintro e s3 ⟨rfl,d,c3,-⟩;go_wp2_with fail;have hg:=o6.out
   go_roundg 0
   case measure=>omega
   case rel=>exact⟨2,by omega,rfl,by go_num,by simpa using d,F.trans c3,aR A c3.size⟩
  ·clear t0 t1 t2 t3;obtain⟨L9,g5⟩:∃L,L=L7++[X0,X1].take 2:=⟨_,rfl⟩;rw[<-g5] at d;have k1:L9.flatten=L7.flatten++(X0++X1):=by rw[g5];simp
   have s4:L9.length=9:=by rw[g5];simp;omega
   have s5:L9.flatten.length<=30000:=by rw[k1,aL,aL];omega
   obtain⟨D,hD⟩:∃D,D=L9.flatten:=⟨_,rfl⟩;have HD:=hid (hD.trans k1);have s6:=hid hD;obtain⟨xa,xb,xc⟩:=HC.out _ F;have o7:=aHo (.slice a5 m.length c5) m _ (q7.out _ F) l3 (by omega);clear xa xb g5 k1 f2 f3 hD;obtain⟨wo,rfl⟩:∃wo,wo=wr:=⟨_,rfl⟩;go_wp2_with fail;refine o7.mono ?_;rintro e w30 ⟨v8,gs,rfl,a0,a1,g6⟩;have d:=d.below g6;have F:=F.trans (g6.mono (by omega));have s7:=A;have A:=aR A g6.size;have p0:gs.length=G:=by rw[a1.1,kR];exact j0.out.symm
   obtain⟨b8,o8,c8,rfl⟩:=Ow.openN a0 (by omega);obtain⟨BG,p1⟩:∃BG,BG=wo.heap.size:=⟨_,rfl⟩;rw[<-p1] at a0 a1 s7;rw[p0] at a0 ⊢;have s8:=hid HI.out.rng;have s9:=hid (fun j g (h:(dA m)[j]? =some g)=>MM h);clear o7 g6 xc p1;go_wp2_with fail
   go_loopg [14,15,85] G (fun gm _s14 _s15 t4 wr=>∃(i:Nat) (ls:List (List Bool)),i<=G/\gm=G-i/\t4=.int .i64 (i:Int)/\WrL wr B (B+1) ls/\Hid (ls.flatten=D++iB J M ((dS m n).take i) ((dA m).take i))/\ls.length<=20+i/\ls.flatten.length<=30000+300*i/\Ow wr BG 26 (.slice (some ⟨b8,o8,none⟩) G c8) gs/\iE wr BG gs (dA m)/\Below B H wr/\B+1<=wr.heap.size)
   case atStart=>exact⟨0,L9,Nat.zero_le _,rfl,rfl,d,hid (by rw[s6.out];simp[iB]),by omega,by omega,a0,a1,F,A⟩
   case round=>
    clear d a0 a1 F A s5 s4;obtain⟨i,ls,hi,hg,rfl,d,k2,hll,hfb,a0,a1,F,A⟩:=hrel;have p2:=hid hg;clear hg
    by_cases t5:i<G
    ·have q1:decide ((i:Int)<(G:Int))=true:=aG (by omega);have t6:=j0.out;obtain⟨g,g7⟩:∃g,(dA m)[i]? =some g:=⟨_,aN (by rw[kR];omega)⟩;obtain⟨c,g8⟩:∃c,(dS m n)[i]? =some c:=⟨_,aN (by rw[CA];omega)⟩;obtain⟨x,hx⟩:∃x,gs[i]? =some x:=⟨_,aN (by rw[p0];exact t5)⟩;have c4:=OwI.rd (a1.2 i x g hx g7);have cg:=a0.cellAt hx;have p3:=r0.out _ F i c g8;obtain⟨t0,t1,t2,t3⟩:=o2.out _ F;obtain⟨m1,m2⟩:=s9.out i g g7;have b4:∀x∈g,0<=x/\x<(n:Int):=fun x hx=>s8.out x (m1 x hx)
     have a3:=UK (t0:=J) (t1:=M) g8 g7;obtain⟨ax,cx,rfl,_,_,_⟩:=c4.open;have t7:=i8.out c (List.mem_of_getElem? g8);clear m1 g7 hx g8 t6;rcases t7 with rfl|rfl
     ·rw[aB rfl] at a3;have a8:=aIf (.slice d9 J.length e0) (.slice ax g.length cx) J g _ t2 c4 b2.out.1 (by rw[b2.out.2];exact b4) (by omega);have k3:=wG (gE b2.out.1).1 g (by rw[b2.out.2];exact b4);obtain⟨X,hX⟩:∃X,X=gF J g:=⟨_,rfl⟩;rw[<-hX] at a3 a8 k3;unfold fT at a8;have k4:=hid a3;clear a3 hX b4 t1 t2 t3 c4;go_wp2_with fail;refine a8.mono ?_;rintro e t8 ⟨rfl,a2⟩;have d:=d.below a2;have F:=F.trans (a2.mono (by omega));have A:=aR A a2.size;have a0:=a0.below a2 (aD _);have a1:=a1.below a2;clear a8 a2 cg p3 t0;go_wp2_with fail
      refine(CM B (B+1) _ X 0 _ d (by omega) A (by omega)).mono ?_;rintro e t9 ⟨rfl,d,c6,c7⟩;go_wp2_with fail;have hg:=p2.out
      go_roundg (G-(i+1))
      case measure=>omega
      case rel=>exact⟨i+1,_,by omega,rfl,by go_num,d,hid (by rw[tL,k2.out,k4.out];simp),by rw[aL,fQ];omega,by rw[tL,aL,kW,xE,dI];omega,c7.ow a0 (by omega) (by decide),a1.map (fun x g k=>c7.ow k (by omega) (by decide)),F.trans c6,aR A c6.size⟩
     ·rw[aA (by decide)] at a3;have a8:=aIf (.slice e7 M.length e8) (.slice ax g.length cx) M g _ t3 c4 b3.out.1 (by rw[b3.out.2];exact b4) (by omega);have k3:=wG (gE b3.out.1).1 g (by rw[b3.out.2];exact b4);obtain⟨X,hX⟩:∃X,X=gF M g:=⟨_,rfl⟩;rw[<-hX] at a3 a8 k3;unfold fT at a8;have k4:=hid a3;clear a3 hX b4 t0 t2 t3 c4;go_wp2_with fail;refine a8.mono ?_;rintro e t8 ⟨rfl,a2⟩;have d:=d.below a2;have F:=F.trans (a2.mono (by omega));have A:=aR A a2.size;have a0:=a0.below a2 (aD _);have a1:=a1.below a2;clear a8 a2 cg p3 t1;go_wp2_with fail
      refine(CM B (B+1) _ X 0 _ d (by omega) A (by omega)).mono ?_;rintro e t9 ⟨rfl,d,c6,c7⟩;go_wp2_with fail;have hg:=p2.out
      go_roundg (G-(i+1))
      case measure=>omega
      case rel=>exact⟨i+1,_,by omega,rfl,by go_num,d,hid (by rw[tL,k2.out,k4.out];simp),by rw[aL,fQ];omega,by rw[tL,aL,kW,xE,dI];omega,c7.ow a0 (by omega) (by decide),a1.map (fun x g k=>c7.ow k (by omega) (by decide)),F.trans c6,aR A c6.size⟩
    ·have q1:decide ((i:Int)<(G:Int))=false:=aE (by omega);have p4:i=G:=by omega
     have p5:=HA.out _ F;have p6:=HB.out _ F;have p7:=HI.out.blk;obtain⟨E,hE⟩:∃E,E=ls.flatten:=⟨_,rfl⟩;have p8:E=eJ s:=by
      rw[p7,hE,k2.out,p4,cD (by rw[<-HG.out];exact aD _),cD (by rw[kR,<-j0.out];exact aD _),HD.out,o5.out,r6.out,r7.out,HZ.out,<-HG.out,<-q8.out,<-q9.out];simp only[bU]
     have x3:=hid p8;obtain⟨vw,x4,k5⟩:=d;have g9:=FC vw ls _ k5.rd (by omega);rw[<-hE] at g9;unfold fT at g9;obtain⟨aw,cw,rfl,-⟩:=k5.rd;have dw:=x4.cell (i:=0) rfl;clear p8 p7 p4 a0 a1 k5 hE;go_wp2_with fail;refine g9.mono ?_;rintro e w40 ⟨rfl,k6⟩;have c9:=p5.below k6 (by omega);have x5:=p6.trans (k6.mono (by omega));have d0:=c9.cell (i:=0) rfl;have d1:=c9.cell (i:=1) rfl;have f0:=c9.free 0;have f1:=c9.free 1;clear g9 k6 p5 p6;go_wp2_with fail;obtain⟨z0,z1⟩:=MT c9 x5 (.string (mkS (aI E))) (.int .i64 (E.length:Int));refine bpE rfl z0 rfl rfl rfl ⟨?_,z1,fun _=>HO.out⟩
     have x6:tB s room=E:=by unfold tB;rw[aB HF.out,x3.out]
     rw[x6,HF.out];rfl
end Go.Proofs.YtihbnmlinkbnkaaGreatDoor

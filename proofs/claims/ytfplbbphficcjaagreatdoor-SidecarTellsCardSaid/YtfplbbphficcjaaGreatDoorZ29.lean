/-
  Texts put together (part 29): the walks and the plain laws on which the statement stands.
-/
import Derived.Test.YtfplbbphficcjaaGreatDoorZ27
set_option maxRecDepth 100000
set_option maxHeartbeats 12800000
set_option linter.unusedVariables false
set_option linter.unusedSimpArgs false
open Go.Proofs.Tryz
open Go.Proofs.Tryz renaming prog->pG
open Go.IntKind renaming u64->eZ,wrap_u64->fC
open Go.RowKit.Below renaming heap_alloc->oO,refl->aH
open Go.World renaming block_lt_of_cell?->gV
open List renaming append_assoc->bU,getElem?_eq_getElem->aN,length_append->aL,length_nil->aV,take_of_length_le->cD
open Nat renaming le_refl->aD,le_trans->aR,zero_le->aO
open Option.some renaming inj->cC
namespace Go.Proofs.YtfplbbphficcjaaGreatDoor
open Go.RowKit Go Go.Shelf
theorem bpE {d:Func} {Q:Ending->World->Prop} {W:World} {a:Act} {z:Nat} {e A u:Value} (D:d.results=#[.cell 4 83,.tmp 5]) (F:Arr W z 83 [e,A]) (G:a.tmps.getD 4 undef=.pointer (some ⟨z,0,none⟩)) (H:a.tmps.getD 5 undef=u) (I:a.defers=[])
  (h:Q (.returned (.tuple #[.agg #[e,A],u])) W):bodyPost pG d Q .ret a W:=by
 refine bodyPost_ret (uS D _ _ z _ _ (0,0) _ G F underlying83 rfl rQ) I ?_;rw[H];exact h
theorem s3B {d e A:Prop} {B:Nat} {w0 w':World} (h:d/\e/\A/\Below B w0 w'/\B<=w'.heap.size):Below B w0 w':=h.2.2.2.1
theorem aH8 {B:Nat} {w:World} {o d:Obj} (h:B<=w.heap.size):Below B (w.alloc o) (w.alloc d):=
 ⟨rfl,rfl,rfl,by simp,fun k e=>by rw[oO w d k (by omega),oO w o k (by omega)]⟩
theorem CR {d:World} {e F A G D H:Nat} {I J L:Value} {B:Nat} {w0:World} (h:d.cell? ⟨e,F,none⟩=some I/\d.cell? ⟨A,G,none⟩=some J/\d.cell? ⟨D,H,none⟩=some L/\Below B w0 d/\B<=d.heap.size) (M:e<B) (O:A<B) (T:D<B) (i:Nat) (v:Value):
  (d.setCell ⟨B,i,none⟩ v).cell? ⟨e,F,none⟩=some I/\(d.setCell ⟨B,i,none⟩ v).cell? ⟨A,G,none⟩=some J/\(d.setCell ⟨B,i,none⟩ v).cell? ⟨D,H,none⟩=some L/\Below B w0 (d.setCell ⟨B,i,none⟩ v)/\B<=(d.setCell ⟨B,i,none⟩ v).heap.size:=
 LZ h ((aH B d).setCell (p:=⟨B,i,none⟩) (aD _) v) M O T
theorem MT {w W:World} {z:Nat} {h A:Value} (D:Arr W z 83 [h,A]) (F:Below z w W) (d e:Value):
  Arr ((W.setCell ⟨z,0,none⟩ d).setCell ⟨z,1,none⟩ e) z 83 [d,e]/\Below z w ((W.setCell ⟨z,0,none⟩ d).setCell ⟨z,1,none⟩ e):=
 ⟨(D.set 0 _).set 1 _,(F.setCell (p:=⟨z,0,none⟩) (aD _) _).setCell (p:=⟨z,1,none⟩) (aD _) _⟩
theorem bA9 (s:ByteArray) (room:Int) (w:World) (hs:s.size<=100000) (p2: -9223372036854775808<=room) (p3:room<=9223372036854775807):
  Calls pG 42 #[.string s,.int .i64 room] w fun e w'=>FV w w' s room e:=by
 have HL:=hid (show s.data.toList.length=s.size by simp);have a4:=Arr.new w 83 [.string ⟨#[]⟩,.int .i64 0];have p4:(w.alloc (.cells #[.string ⟨#[]⟩,.int .i64 0] 83)).heap.size=w.heap.size+1:=by simp
 have c9:Below w.heap.size w (w.alloc (.cells #[.string ⟨#[]⟩,.int .i64 0] 83)):=bD (aH _ _) _;change Arr (w.alloc (.cells #[.string ⟨#[]⟩,.int .i64 0] 83)) _ _ _ at a4;have hd:jZ s room=if s.size=0\/room<1\/360<room then 1 else if room<((bT s.data.toList).length:Int) then 4 else 0:=rfl
 by_cases g7:s.size=0\/room<1\/360<room
 ·rw[aB g7] at hd;have HF:=hid hd;clear hd;have d0:=a4.cell (i:=0) rfl;have d1:=a4.cell (i:=1) rfl;have f0:=a4.free 0;have f1:=a4.free 1
  by_cases h1:s.size=0
  ·have u1:s.toList.isEmpty=true:=EI (List.eq_nil_of_length_eq_zero (by rw[HL.out];exact h1));go_enter func42,ntmps42;go_wp2_with fail;exact bpE rfl a4 rfl rfl rfl (zZ HF.out (by decide) c9)
  have u1:s.toList.isEmpty=false:=xK (by omega)
  by_cases h2:room<1
  ·have u2:decide (room<1)=true:=aG h2;go_enter func42,ntmps42;go_wp2_with fail;exact bpE rfl a4 rfl rfl rfl (zZ HF.out (by decide) c9)
  have u2:decide (room<1)=false:=aE h2;have u3:decide (room>360)=true:=aG (by omega);have u4:decide (360<room)=true:=aG (by omega);go_enter func42,ntmps42;go_wp2_with fail;exact bpE rfl a4 rfl rfl rfl (zZ HF.out (by decide) c9)
 rw[aA g7] at hd;have u1:s.toList.isEmpty=false:=xK (by omega);have u2:decide (room<1)=false:=aE (by omega);have u3:decide (room>360)=false:=aE (by omega);have u4:decide (360<room)=false:=aE (by omega);have p5:0<s.size:=by omega
 have g8:=fun W=>aHf s W (by omega)
 have k3:=(uM s.data.toList.length s.data.toList (aD _)).1;rw[HL.out] at k3;obtain⟨P,hP⟩:∃P,P=bT s.data.toList:=⟨_,rfl⟩;rw[<-hP] at hd g8 k3;have HP:=hid hP;clear hP;go_enter func42,ntmps42;go_wp2_with fail;generalize w.alloc (.cells #[.string ⟨#[]⟩,.int .i64 0] 83)=w0 at*
 have a2:w.heap.size<w0.heap.size:=by omega
 refine(g8 _).mono ?_;rintro e w1 ⟨rfl,f3⟩;have hA:=a4.below f3 a2;have hb:=c9.trans (f3.mono (by omega));have p5:=f3.size;clear g8 f3 a4 c9
 by_cases c7:room<(P.length:Int)
 ·rw[aB c7] at hd;have HF:=hid hd;clear hd;have v1:decide ((P.length:Int)>room)=true:=aG c7;have v2:decide (room<(P.length:Int))=true:=aG c7;have d0:=hA.cell (i:=0) rfl;have d1:=hA.cell (i:=1) rfl;have f0:=hA.free 0;have f1:=hA.free 1;go_wp2_with fail;obtain⟨z0,z1⟩:=MT hA hb (.string ⟨#[]⟩) (.int .i64 0);exact bpE rfl z0 rfl rfl rfl (zZ HF.out (by decide) z1)
 rw[aA c7] at hd;have HF:=hid hd;clear hd;have v1:decide ((P.length:Int)>room)=false:=aE c7;have v2:decide (room<(P.length:Int))=false:=aE c7;have y2:P.length<=360:=by omega
 go_wp2_with fail;refine(aSf (mkS P) _ (by rw[cS];omega)).mono ?_;rintro e w2 ⟨v5,rfl,b0,f4,hO⟩;have k4:=(uM s.data.toList.length s.data.toList (aD _)).2.1 (fun e=>by have:=HL.out;rw[e] at this;simp at this;omega);rw[<-HP.out] at k4;have hO:=hO (by rw[cS];exact List.length_pos_iff.2 k4);have HO:=hid (show iZ (mkS (bT s.data.toList)) by rw[<-HP.out];exact hO);obtain⟨P',a,m,o,n,hI⟩:=BIn.of (t:=s) (by omega) (by rw[<-HP.out];omega) HO.out;obtain rfl:P'=P:=by rw[hI.hP,HP.out]
 rw[hI.hA,<-hI.ho,hI.hE,<-hI.hm] at*
 have HI:=hid hI;have p6:=hI.m0;have p7:=hI.m361;have y3:=hI.n2;have p8:=hI.n258;have y4:=hI.a256;have p9:=hI.o16;have g9:(a.length:Int)+2=(n:Int):=by rw[hI.hn];omega
 have k5:((mkS a).size:Int)+2=(n:Int):=by rw[cS];exact g9
 have q3:(a.length:Int)+2=(n:Int):=g9;obtain⟨a5,c5,rfl,_,_,_⟩:=b0.open;have hA:=hA.below f4 (by omega);have hb:=hb.trans (f4.mono (by omega));have q4:=f4.size;clear hI f4 hO;go_wp2_with fail;have U:=Arr.new w2 107 [.string (mkS a),.int .i64 (o:Int),.slice a5 m.length c5];have hA:=hA.alloc (.cells #[.string (mkS a),.int .i64 (o:Int),.slice a5 m.length c5] 107);have hb:=hb.alloc (o:=.cells #[.string (mkS a),.int .i64 (o:Int),.slice a5 m.length c5] 107) (by omega);have b0:=b0.below (bD (aH w2.heap.size w2) (.cells #[.string (mkS a),.int .i64 (o:Int),.slice a5 m.length c5] 107))
 have k6:(w2.alloc (.cells #[.string (mkS a),.int .i64 (o:Int),.slice a5 m.length c5] 107)).heap.size=w2.heap.size+1:=by simp
 change Arr (w2.alloc (.cells #[.string (mkS a),.int .i64 (o:Int),.slice a5 m.length c5] 107)) _ _ _ at U;generalize w2.alloc (.cells #[.string (mkS a),.int .i64 (o:Int),.slice a5 m.length c5] 107)=w3 at*
 obtain⟨z7,k7⟩:∃z7,z7=w2.heap.size:=⟨_,rfl⟩;rw[<-k7] at U k6 q4 ⊢;clear k7;obtain⟨B3,i0⟩:∃B3,w3.heap.size=B3:=⟨_,rfl⟩;have x0:=U.cell (i:=0) rfl;have x1:=U.cell (i:=1) rfl;have x2:=U.cell (i:=2) rfl;have q5:z7<B3:=by omega
 have i1:=oF (B:=B3) (w0:=w3) ⟨x0,x1,x2,aH _ _,by omega⟩ (aH w3.heap.size w3).drew
 go_region_held3 (fun w'=>w'.cell? ⟨z7,0,none⟩=some (.string (mkS a))/\w'.cell? ⟨z7,1,none⟩=some (.int .i64 (o:Int))/\w'.cell? ⟨z7,2,none⟩=some (.slice a5 m.length c5)/\Below B3 w3 w'/\B3<=w'.heap.size)
  (first
   |with_reducible assumption
   |with_reducible exact oF (by assumption) (by assumption))
  (first
   |(go_at_call 61;refine(aQn (mkS a) (o:Int) (.slice a5 m.length c5) rfl _ (by rw[cS];omega)).mono ?_;rintro e w4 ⟨rfl,q6⟩;rw[k5])
   |(go_at_call 60;refine(bAc (.slice a5 m.length c5) m n _ (rdQ b0 i0 (by assumption)) p6 (by omega) (by omega) p8 HI.out.rng).mono ?_;rintro e O ⟨v9,y5,rfl,i2,k8,q7⟩))
 have q8:=(show O.cell? ⟨z7,0,none⟩=some (.string (mkS a))/\O.cell? ⟨z7,1,none⟩=some (.int .i64 (o:Int))/\O.cell? ⟨z7,2,none⟩=some (.slice a5 m.length c5)/\Below B3 w3 O/\B3<=O.heap.size by assumption);obtain⟨x0,x1,x2,f5,q9⟩:=q8;obtain⟨B,hB⟩:∃B,B=O.heap.size:=⟨_,rfl⟩;have i3:z7<B:=by omega
 have k9:w.heap.size<B:=by omega
 have HC:=hid (fun W (h:Below B O W)=>show W.cell? ⟨z7,0,none⟩=some (.string (mkS a))/\W.cell? ⟨z7,1,none⟩=some (.int .i64 (o:Int))/\W.cell? ⟨z7,2,none⟩=some (.slice a5 m.length c5) from⟨(h.cell (p:=⟨z7,0,none⟩) i3).trans x0,(h.cell (p:=⟨z7,1,none⟩) i3).trans x1,(h.cell (p:=⟨z7,2,none⟩) i3).trans x2⟩);have hA:=hA.below f5 (by omega);have hb:=hb.trans (f5.mono (by omega));have b0:=b0.below (i0▸f5);have i4:=OwI.rd k8;have HA:=hid (fun W (h:Below B O W)=>hA.below h k9);have HB:=hid (fun W (h:Below B O W)=>hb.trans (h.mono (Nat.le_of_lt k9)));have l2:=hid (fun W (h:Below B O W)=>b0.below (hB▸h))
 have l3:=hid (fun W (h:Below B O W)=>i4.below (hB▸h));have y6:=hid (fun W (h:Below B O W)=>i2.below (hB▸h));have i5:=CA m n;obtain⟨ac,cc,rfl,_,_,l4⟩:=i4.open;obtain⟨b6,d2,rfl,r0,l5⟩:=l4 (by omega);obtain⟨y7,y8,rfl,y9,z2,l6⟩:=i2.open;obtain⟨b9,o9,rfl,l7,i6⟩:=l6 (by simp);obtain⟨y0,l8,f6⟩:=i6 0 _ rfl;obtain⟨y1,l9,f7⟩:=i6 1 _ rfl;obtain⟨V,f8⟩:∃V,V=eN m n 0:=⟨_,rfl⟩;obtain⟨Y,f9⟩:∃Y,Y=eN m n 1:=⟨_,rfl⟩;rw[<-f8] at f6;rw[<-f9] at f7;have m1:=hid f8;have m2:=hid f9;have b1:=hid (show bM V=0/\V.length=n by rw[f8];exact⟨HI.out.c0,HI.out.l0⟩)
 have b2:=hid (show bM Y=0/\Y.length=n by rw[f9];exact⟨HI.out.c1,HI.out.l1⟩);obtain⟨d3,d4,rfl,_,_,_⟩:=f6.open;obtain⟨d5,d6,rfl,_,_,_⟩:=f7.open;have c8:=hid (fun W (h:Below B O W)=>show W.cell? ⟨b9,o9,none⟩=some (.slice d3 V.length d4)/\W.cell? ⟨b9,o9+1,none⟩=some (.slice d5 Y.length d6)/\RdI W (.slice d3 V.length d4) V/\RdI W (.slice d5 Y.length d6) Y from
  ⟨(h.cell (p:=⟨b9,o9,none⟩) (by rw[hB];exact l7)).trans l8,(h.cell (p:=⟨b9,o9+1,none⟩) (by rw[hB];exact l7)).trans l9,f6.below (hB▸h),f7.below (hB▸h)⟩)
 have r5:=hid (fun W (h:Below B O W) i c (hi:(dS m n)[i]? =some c)=>show W.cell? ⟨b6,d2+i,none⟩=some (.int .i64 c) from(h.cell (p:=⟨b6,d2+i,none⟩) (by rw[hB];exact r0)).trans (l5 i c hi));clear l4 l5 l6 i6 l8 l9 f6 f7 f8 f9;have F:OwI O B (.slice none 0 0) (bI []):=OwI.nil _ _;have A:Below B O O:=aH _ _;have d:B<=O.heap.size:=by omega
 have r6:(dS m n).length<=901:=by omega
 have r7:0<(dS m n).length:=by omega
 have i7:=hid (LC m n);have hZ:=(cH s.data.toList).isLt;obtain⟨Z,g2⟩:∃Z,Z=(cH s.data.toList).toNat:=⟨_,rfl⟩;rw[<-g2] at hZ;have i8:=fun W=>TA s W (by omega)
 rw[<-g2] at i8;have HZ:=hid g2;have m3:∀W,Calls pG 44 #[.int .u64 54156738319193,.int .i64 48] W fun e w'=>∃u,e=.returned u/\OwI w' W.heap.size u (bI (aT 54156738319193 48))/\Below W.heap.size W w':=fun W=>wK 54156738319193 48 W (by decide) (by decide)
 have m4:=fun W=>wK Z 32 W (by omega) (by decide)
 have m5:=fun W=>wK o 16 W (by omega) (by decide)
 have m6:∀W,Calls pG 44 #[.int .u64 2,.int .i64 3] W fun e w'=>∃u,e=.returned u/\OwI w' W.heap.size u (bI (aT 2 3))/\Below W.heap.size W w':=fun W=>wK 2 3 W (by decide) (by decide)
 obtain⟨G,hG⟩:∃G,G=(dS m n).length:=⟨_,rfl⟩;have m7:=fun W=>wK G 15 W (by omega) (by decide)
 have i9:=fun W=>aYy (mkS a) W (by rw[cS];omega) (by rw[dP];exact HI.out.an)
 rw[dP] at i9;have r8:=KR a;have m8:=fun W=>zY (iL a) W (by omega)
 have e1:eZ.wrap (Z:Int)=(Z:Int):=by rw[fC];omega
 have e2:(Z:Int)%18446744073709551616=(Z:Int):=by omega
 have e3:eZ.wrap (o:Int)=(o:Int):=by rw[fC];omega
 have e4:(o:Int)%18446744073709551616=(o:Int):=by omega
 have e5:eZ.wrap (G:Int)=(G:Int):=by rw[fC];omega
 have e6:(G:Int)%18446744073709551616=(G:Int):=by omega
 clear i1 q6 q7 k8 i2 i4 b0 hA hb f5 U x0 x1 x2 g2;rw[<-hG] at i5 r6 r7 l3 ⊢;have g3:=fun W h=>aXi (.slice (some ⟨b6,d2,none⟩) G cc) (dS m n) W h (by omega) i7.out
 unfold fT at g3;obtain⟨SL,d7⟩:∃SL,SL=eW (fJ (dS m n)):=⟨_,rfl⟩;have r9:SL.length<=2*901:=by
  rw[d7];have:=CH (fJ (dS m n)) 2 (FI i7.out);rw[zT] at this;omega
 have m9:0<SL.length:=by rw[d7];exact aH7 (by rw[zT];omega)
 rw[<-d7] at g3;have s0:=hid d7;have o0:=fun W=>zY SL W (by omega)
 clear d7;have HG:=hid hG;have d8:=hid i5;clear hG i5;go_wp2_with fail;have a6:([]:List Bool).length<=0:=aD _;refine(m3 _).mono ?_;rintro e w6 ⟨u6,rfl,a3,H⟩;have F:=OwI.below F H (aD _);have A:=A.trans (H.mono d);have d:=aR d H.size;have L:=OwI.rd a3;clear a3 H;go_wp2_with (at_builtin;refine lR rfl _ _ rfl B _ _ (bI (aT 54156738319193 48)) rfl F _ rfl L (by rw[cX];rw[dV];decide) ?_ ?_ ?_;(rw[cX,cX];rw[dV];omega);(exact d);intro a1 w7 M I r3 r4;obtain⟨q0,q1,q2⟩:=HC.out _ (A.trans I))
 have F:OwI w7 B a1 (bI ([]++aT 54156738319193 48)):=by rw[iT];exact M
 have A:=A.trans I;have d:=aR d I.size;obtain⟨D1,J⟩:∃D,D=[]++aT 54156738319193 48:=⟨_,rfl⟩;have a6:D1.length<=48:=by rw[J,aL];rw[dV];(try simp only[aV]);omega
 rw[<-J] at F;have s1:=hid J;clear J M I r3 r4 L;refine(i8 _).mono ?_;rintro e w6 ⟨rfl,rfl⟩;go_wp2_with fail;refine(m4 _).mono ?_;rintro e w6 ⟨u6,rfl,a3,H⟩;have F:=OwI.below F H (aD _);have A:=A.trans (H.mono d);have d:=aR d H.size;have L:=OwI.rd a3;clear a3 H;go_wp2_with (at_builtin;refine lR rfl _ _ rfl B _ _ (bI (aT Z 32)) rfl F _ rfl L (by rw[cX];rw[dV];decide) ?_ ?_ ?_;(rw[cX,cX];rw[dV];omega);(exact d);intro a1 w7 M I r3 r4;obtain⟨q0,q1,q2⟩:=HC.out _ (A.trans I))
 have F:OwI w7 B a1 (bI (D1++aT Z 32)):=by rw[iT];exact M
 have A:=A.trans I;have d:=aR d I.size;obtain⟨D2,J⟩:∃D,D=D1++aT Z 32:=⟨_,rfl⟩;have a6:D2.length<=80:=by rw[J,aL];rw[dV];(try simp only[aV]);omega
 rw[<-J] at F;have s2:=hid J;clear J M I r3 r4 L;refine(m5 _).mono ?_;rintro e w6 ⟨u6,rfl,a3,H⟩;have F:=OwI.below F H (aD _);have A:=A.trans (H.mono d);have d:=aR d H.size;have L:=OwI.rd a3;clear a3 H;go_wp2_with (at_builtin;refine lR rfl _ _ rfl B _ _ (bI (aT o 16)) rfl F _ rfl L (by rw[cX];rw[dV];decide) ?_ ?_ ?_;(rw[cX,cX];rw[dV];omega);(exact d);intro a1 w7 M I r3 r4;obtain⟨q0,q1,q2⟩:=HC.out _ (A.trans I));have F:OwI w7 B a1 (bI (D2++aT o 16)):=by rw[iT];exact M
 have A:=A.trans I;have d:=aR d I.size;obtain⟨D3,J⟩:∃D,D=D2++aT o 16:=⟨_,rfl⟩;have a6:D3.length<=96:=by rw[J,aL];rw[dV];(try simp only[aV]);omega
 rw[<-J] at F;have s3:=hid J;clear J M I r3 r4 L;refine(i9 _).mono ?_;rintro e w6 ⟨rfl,H⟩;have F:=OwI.below F H (aD _);have A:=A.trans (H.mono d);have d:=aR d H.size;clear H;go_wp2_with fail;refine(m8 _).mono ?_;rintro e w6 ⟨u6,rfl,L,H⟩;have F:=OwI.below F H (aD _);have A:=A.trans (H.mono d);have d:=aR d H.size;clear H;go_wp2_with (at_builtin;refine lR rfl _ _ rfl B _ _ (bI (iL a)) rfl F _ rfl L (by rw[cX];exact bA6 a) ?_ ?_ ?_;(rw[cX,cX];skip;omega);(exact d);intro a1 w7 M I r3 r4;obtain⟨q0,q1,q2⟩:=HC.out _ (A.trans I))
 have F:OwI w7 B a1 (bI (D3++iL a)):=by rw[iT];exact M
 have A:=A.trans I;have d:=aR d I.size;obtain⟨D4,J⟩:∃D,D=D3++iL a:=⟨_,rfl⟩;have a6:D4.length<=400:=by rw[J,aL];skip;(try simp only[aV]);omega
 rw[<-J] at F;have s4:=hid J;clear J M I r3 r4 L;refine(m6 _).mono ?_;rintro e w6 ⟨u6,rfl,a3,H⟩;have F:=OwI.below F H (aD _);have A:=A.trans (H.mono d);have d:=aR d H.size;have L:=OwI.rd a3;clear a3 H;go_wp2_with (at_builtin;refine lR rfl _ _ rfl B _ _ (bI (aT 2 3)) rfl F _ rfl L (by rw[cX];rw[dV];decide) ?_ ?_ ?_;(rw[cX,cX];rw[dV];omega);(exact d);intro a1 w7 M I r3 r4;obtain⟨q0,q1,q2⟩:=HC.out _ (A.trans I));have F:OwI w7 B a1 (bI (D4++aT 2 3)):=by rw[iT];exact M
 have A:=A.trans I;have d:=aR d I.size;obtain⟨D5,J⟩:∃D,D=D4++aT 2 3:=⟨_,rfl⟩;have a6:D5.length<=403:=by rw[J,aL];rw[dV];(try simp only[aV]);omega
 rw[<-J] at F;have s5:=hid J;clear J M I r3 r4 L;refine(m7 _).mono ?_;rintro e w6 ⟨u6,rfl,a3,H⟩;have F:=OwI.below F H (aD _);have A:=A.trans (H.mono d);have d:=aR d H.size;have L:=OwI.rd a3;clear a3 H;go_wp2_with (at_builtin;refine lR rfl _ _ rfl B _ _ (bI (aT G 15)) rfl F _ rfl L (by rw[cX];rw[dV];decide) ?_ ?_ ?_;(rw[cX,cX];rw[dV];omega);(exact d);intro a1 w7 M I r3 r4;obtain⟨q0,q1,q2⟩:=HC.out _ (A.trans I));have F:OwI w7 B a1 (bI (D5++aT G 15)):=by rw[iT];exact M
 have A:=A.trans I;have d:=aR d I.size;obtain⟨D6,J⟩:∃D,D=D5++aT G 15:=⟨_,rfl⟩;have a6:D6.length<=418:=by rw[J,aL];rw[dV];(try simp only[aV]);omega
 rw[<-J] at F;have s6:=hid J;clear J M I r3 r4 L;refine(g3 _ (l3.out _ A)).mono ?_;rintro e w6 ⟨rfl,H⟩;have F:=OwI.below F H (aD _);have A:=A.trans (H.mono d);have d:=aR d H.size;clear H;have F:=OwI.alloc F (.cells #[.string (mkS (aI (SL))),.int .i64 ((SL).length:Int)] 83);have A:=A.alloc (o:=.cells #[.string (mkS (aI (SL))),.int .i64 ((SL).length:Int)] 83) d;have d:B<=(World.alloc w6 (.cells #[.string (mkS (aI (SL))),.int .i64 ((SL).length:Int)] 83)).heap.size:=aR d (by simp);go_wp2_with fail;refine(o0 _).mono ?_;rintro e w8 ⟨u6,rfl,L,H⟩
 have F:=OwI.below F H (aD _);have A:=A.trans (H.mono d);have d:=aR d H.size;clear H;go_wp2_with (at_builtin;refine lR rfl _ _ rfl B _ _ (bI (SL)) rfl F _ rfl L (by rw[cX];exact m9) ?_ ?_ ?_;(rw[cX,cX];skip;omega);(exact d);intro a1 w7 M I r3 r4;obtain⟨q0,q1,q2⟩:=HC.out _ (A.trans I));have F:OwI w7 B a1 (bI (D6++SL)):=by rw[iT];exact M
 have A:=A.trans I;have d:=aR d I.size;obtain⟨D7,J⟩:∃D,D=D6++SL:=⟨_,rfl⟩;have a6:D7.length<=2300:=by rw[J,aL];skip;(try simp only[aV]);omega
 rw[<-J] at F;have s7:=hid J;clear J M I r3 r4 L
 go_loopg [12,15,16,17] 2 (fun g j0 s8 _s16 _s17 wr=>∃(k:Nat) (v:Value) (D:List Bool),k<=2/\g=2-k/\v=j0/\s8=.int .i64 (k:Int)/\Hid (D=D7++(([V,Y].take k).map fI).flatten)/\D.length<=2300+k*10067/\OwI wr B v (bI D)/\Below B O wr/\B<=wr.heap.size)
 case atStart=>exact⟨0,_,D7,aO _,rfl,rfl,rfl,hid (by simp),by omega,F,A,d⟩
 case round=>
  clear F A d q0 q1 q2 a6;obtain⟨k,a1,D,hk,hg,rfl,rfl,HD,a6,F,A,d⟩:=hrel;have o1:=hid hg;clear hg
  by_cases s9:k=0
  ·subst s9;obtain⟨t0,t1,t2,t3⟩:=c8.out _ A;have T:=aE6 (.slice d3 V.length d4) V wr t2 (gE b1.out.1).1;unfold fT at T;have j1:=CQ (gE b1.out.1).1;have d9:=aH6 V;obtain⟨X,U⟩:∃X,X=fI V:=⟨_,rfl⟩;rw[<-U] at T j1 d9;have HX:=hid U;have b7:=fun W=>zY X W (by omega)
   clear U t2 t3;go_wp2_with fail;refine T.mono ?_;rintro e w6 ⟨rfl,H⟩;have F:=OwI.below F H (aD _);have A:=A.trans (H.mono d);have d:=aR d H.size;clear T H t0 t1;have F:=OwI.alloc F (.cells #[.string (mkS (aI (X))),.int .i64 ((X).length:Int)] 83);have A:=A.alloc (o:=.cells #[.string (mkS (aI (X))),.int .i64 ((X).length:Int)] 83) d;have d:B<=(World.alloc w6 (.cells #[.string (mkS (aI (X))),.int .i64 ((X).length:Int)] 83)).heap.size:=aR d (by simp);go_wp2_with fail;refine(b7 _).mono ?_;rintro e w8 ⟨u6,rfl,L,H⟩;have F:=OwI.below F H (aD _)
   have A:=A.trans (H.mono d);have d:=aR d H.size;clear H;go_wp2_with (at_builtin;refine lR rfl _ _ rfl B _ _ (bI X) rfl F _ rfl L (by rw[cX];exact d9) ?_ ?_ ?_;(rw[cX,cX];omega);(exact d);intro j2 w9 M I r3 r4);have hg:=o1.out
   go_roundg (2-(0+1))
   case measure=>omega
   case rel=>exact⟨0+1,_,D++X,by omega,rfl,rfl,by first|rfl|go_num,hid (by rw[HD.out,HX.out];simp),by rw[aL];omega,by rw[iT];exact M,A.trans I,aR d I.size⟩
  by_cases t4:k=1
  ·subst t4;obtain⟨t0,t1,t2,t3⟩:=c8.out _ A;have T:=aE6 (.slice d5 Y.length d6) Y wr t3 (gE b2.out.1).1;unfold fT at T;have j1:=CQ (gE b2.out.1).1;have d9:=aH6 Y;obtain⟨X,U⟩:∃X,X=fI Y:=⟨_,rfl⟩;rw[<-U] at T j1 d9;have HX:=hid U;have b7:=fun W=>zY X W (by omega)
   clear U t2 t3;go_wp2_with fail;refine T.mono ?_;rintro e w6 ⟨rfl,H⟩;have F:=OwI.below F H (aD _);have A:=A.trans (H.mono d);have d:=aR d H.size;clear T H t0 t1;have F:=OwI.alloc F (.cells #[.string (mkS (aI (X))),.int .i64 ((X).length:Int)] 83);have A:=A.alloc (o:=.cells #[.string (mkS (aI (X))),.int .i64 ((X).length:Int)] 83) d;have d:B<=(World.alloc w6 (.cells #[.string (mkS (aI (X))),.int .i64 ((X).length:Int)] 83)).heap.size:=aR d (by simp);go_wp2_with fail;refine(b7 _).mono ?_;rintro e w8 ⟨u6,rfl,L,H⟩;have F:=OwI.below F H (aD _)
   have A:=A.trans (H.mono d);have d:=aR d H.size;clear H;go_wp2_with (at_builtin;refine lR rfl _ _ rfl B _ _ (bI X) rfl F _ rfl L (by rw[cX];exact d9) ?_ ?_ ?_;(rw[cX,cX];omega);(exact d);intro j2 w9 M I r3 r4);have hg:=o1.out
   go_roundg (2-(1+1))
   case measure=>omega
   case rel=>exact⟨1+1,_,D++X,by omega,rfl,rfl,by first|rfl|go_num,hid (by rw[HD.out,HX.out];simp),by rw[aL];omega,by rw[iT];exact M,A.trans I,aR d I.size⟩
  obtain rfl:k=2:=by omega
  have o2:=aFx (.slice a5 m.length c5) m wr O (l2.out _ A) (l2.out _ (aH _ _)) (by omega);obtain⟨q0,q1,q2⟩:=HC.out _ A;go_wp2_with fail;refine o2.mono ?_;rintro e z3 ⟨z4,xs,rfl,a0,j3,g4⟩;have a0:=Ow.base a0 d;have F:=OwI.below F g4 (aD _);have A:=A.trans (g4.mono d);have d:=aR d g4.size;clear o2 q0 q1 q2 g4 i8 m3 m4 m5 m6 m7 i9 r8 m8 e1 e2 e3 e4 e5 e6 g3 o0 hZ r9 m9 v1 v2 u1 u2 u3 u4 p7 p9 g9 k5 q3 k6 i0 q9 q5 p4 a2 p2 p3 g7 hs;have g5:xs.length=G:=by rw[j3.1,kR];exact d8.out.symm
  have t5:=hid j3;clear j3;obtain⟨e0,j4,t6,rfl⟩:=Ow.openN a0 (by omega);rw[g5] at a0;rw[g5];have t7:=hid g5;have o3:D=D7++(fI V++fI Y):=by rw[HD.out];simp
  have t8:=hid o3;clear o3 g5;go_wp2_with fail
  go_loopg [12,19,20,21] G (fun g j0 t9 _s20 _s21 wr=>∃(i:Nat) (v:Value) (E:List Bool),i<=G/\g=G-i/\v=j0/\t9=.int .i64 (i:Int)/\Hid (E=D++iB V Y ((dS m n).take i) ((dA m).take i))/\E.length<=22500+i*200/\OwI wr B v (bI E)/\Ow wr B 55 (.slice (some ⟨e0,j4,none⟩) G t6) xs/\Below B O wr/\B<=wr.heap.size)
  case atStart=>exact⟨0,_,D,aO _,rfl,rfl,rfl,hid (by simp[iB]),by omega,F,a0,A,d⟩
  case round=>
   clear F a0 A d a6;obtain⟨i,a1,E,hi,hg,rfl,rfl,HE,z5,F,a0,A,d⟩:=hrel;have o4:=hid hg;clear hg
   by_cases j5:i<G
   ·have x3:decide ((i:Int)<(G:Int))=true:=aG (by omega);obtain⟨g,hg⟩:∃g,(dA m)[i]? =some g:=⟨_,aN (by rw[kR,<-d8.out];exact j5)⟩;obtain⟨x,hx⟩:∃x,xs[i]? =some x:=⟨_,aN (by rw[t7.out];exact j5)⟩;have b8:=t5.out.2 i x g hx hg;have b3:=a0.cellAt hx;obtain⟨b4,o5⟩:=MM hg;have g6:0<g.length:=by
     rw[BY m i (by rw[<-d8.out];exact j5)] at hg;rw[<-cC hg,List.length_take,List.length_drop];have:=d8.out;omega
    obtain⟨ax,cx,rfl,_,_,_⟩:=b8.open;have c2:=bA8 (n:=n) hg;rw[<-m1.out,<-m2.out] at c2;have b5:=r5.out _ A i _ c2;have x4:=i7.out _ (List.mem_of_getElem? c2);clear hx;rcases x4 with c3|c3
    ·skip
     rw[c3] at b5;have T:=aE3 (.slice d3 V.length d4) (.slice ax g.length cx) V g;have T:=fun W a b=>T W a b b1.out.1 (by rw[b1.out.2];exact fun x hx=>HI.out.rng x (b4 x hx)) (by omega)
     unfold fT at T;have e7:=wG (gE b1.out.1).1 g (by rw[b1.out.2];exact fun x hx=>HI.out.rng x (b4 x hx));have c4:=aH5 (gE b1.out.1).1 (by rw[b1.out.2];exact fun x hx=>HI.out.rng x (b4 x hx)) g6;obtain⟨X,U⟩:∃X,X=gF V g:=⟨_,rfl⟩;have e8:iB V Y ((dS m n).take (i+1)) ((dA m).take (i+1))=iB V Y ((dS m n).take i) ((dA m).take i)++X:=by
      rw[UK c2 hg,c3,U];rfl
     rw[<-U] at T e7 c4;have HX:=hid e8;have b7:=fun W=>zY X W (by omega)
     have j6:=hid T;have x5:=hid (fun W (h:Below B O W)=>(c8.out W h));clear U e8 T c3 c2 hg b4;go_upto_region 26 with fail
     go_cut [20] (fun j7 wx=>∃z,j7=.pointer (some ⟨z,0,none⟩)/\Arr wx z 83 [.string (mkS (aI X)),.int .i64 (X.length:Int)]/\Below wr.heap.size wr wx)
     case first=>
      obtain⟨t0,t1,t2,t3⟩:=c8.out _ A;have i1:=oF (B:=wr.heap.size) (w0:=wr) ⟨b5,t0,b3,aH _ _,aD _⟩ (aH wr.heap.size wr).drew;have a7:e0<wr.heap.size:=gV wr _ b3;have a8:b6<wr.heap.size:=by omega
      have a9:b9<wr.heap.size:=by omega
      have j8:=fun W (h:Below wr.heap.size wr W)=>j6.out W (t2.below h) ((b8.below (hB▸A)).below h)
      clear t2 t3 t1;clear b8 A g6 o5 e7 c4 b5 t0 b3
      set_option maxHeartbeats 800000 in
      go_region_held3 (fun w'=>w'.cell? ⟨b6,d2+i,none⟩=some (.int .i64 0)/\w'.cell? ⟨b9,o9,none⟩=some (.slice d3 V.length d4)/\w'.cell? ⟨e0,j4+i,none⟩=some (.slice ax g.length cx)/\Below wr.heap.size wr w'/\wr.heap.size<=w'.heap.size)
       (first
        |with_reducible assumption
        |with_reducible exact oF (by assumption) (by assumption)
        |with_reducible exact oF (by assumption) (bD (aH _ _) _)
        |with_reducible exact LZ (by assumption) (aH8 (by assumption)) a8 a9 a7
        |with_reducible exact CR (by assumption) a8 a9 a7 _ _
        |with_reducible exact CR (CR (by assumption) a8 a9 a7 _ _) a8 a9 a7 _ _)
       (first
        |(go_at_call 66;(refine(j8 _ (s3B (by assumption))).mono ?_;rintro e c6 ⟨rfl,e9⟩;first|(have x6:wr.heap.size<=c6.heap.size:=e9.size)|(have hN:Arr c6 wr.heap.size 83 [.string ⟨#[]⟩,.int .i64 0]:=Arr.below (w:=(wr.alloc (.cells #[.string ⟨#[]⟩,.int .i64 0] 83)).drew) (Arr.new wr 83 [.string ⟨#[]⟩,.int .i64 0]) e9 (by show wr.heap.size<(wr.alloc _).heap.size;simp);have n0:=hN.cell (i:=0) rfl;have n1:=hN.cell (i:=1) rfl;have g0:=hN.free 0;have g1:=hN.free 1))))
      all_goals
       go_wp2_with fail;go_meet
       first
        |exact⟨_,rfl,(hN.set 0 _).set 1 _,s3B (by assumption)⟩
        |exact⟨_,rfl,Arr.new c6 83 [.string (mkS (aI X)),.int .i64 (X.length:Int)],s3B (by assumption)⟩
     case rest=>
      obtain⟨z,rfl,hZ,a2⟩:=hcut;have F:=OwI.below F a2 (aD _);have a0:=a0.below a2 (aD _);have A:=A.trans (a2.mono d);have d:=aR d a2.size;have z0:=hZ.cell (i:=0) rfl;have z1:=hZ.cell (i:=1) rfl;clear a2 b5 b3 b8;go_wp2_with fail;refine(b7 _).mono ?_;rintro e j9 ⟨u6,rfl,L,H⟩;have F:=OwI.below F H (aD _);have a0:=a0.below H (aD _);have A:=A.trans (H.mono d);have d:=aR d H.size;clear H z0 z1 hZ
      go_wp2_with (at_builtin;refine lR rfl _ _ rfl B _ _ (bI X) rfl F _ rfl L (by rw[cX];exact c4) ?_ ?_ ?_;(rw[cX,cX];omega);(exact d);intro j2 k0 M I r3 r4);have k1:j9.grownBy k0 a1.ownBlock:=r3;have hg:=o4.out
      go_roundg (G-(i+1))
      case measure=>omega
      case rel=>exact⟨i+1,_,E++X,by omega,rfl,rfl,by go_num,hid (by rw[HX.out,HE.out,bU]),by rw[aL];omega,by rw[iT];exact M,a0.kept k1 (uV a0 F (by decide)),A.trans I,aR d I.size⟩
    ·skip
     rw[c3] at b5;have T:=aE3 (.slice d5 Y.length d6) (.slice ax g.length cx) Y g;have T:=fun W a b=>T W a b b2.out.1 (by rw[b2.out.2];exact fun x hx=>HI.out.rng x (b4 x hx)) (by omega)
     unfold fT at T;have e7:=wG (gE b2.out.1).1 g (by rw[b2.out.2];exact fun x hx=>HI.out.rng x (b4 x hx));have c4:=aH5 (gE b2.out.1).1 (by rw[b2.out.2];exact fun x hx=>HI.out.rng x (b4 x hx)) g6;obtain⟨X,U⟩:∃X,X=gF Y g:=⟨_,rfl⟩;have e8:iB V Y ((dS m n).take (i+1)) ((dA m).take (i+1))=iB V Y ((dS m n).take i) ((dA m).take i)++X:=by
      rw[UK c2 hg,c3,U];rfl
     rw[<-U] at T e7 c4;have HX:=hid e8;have b7:=fun W=>zY X W (by omega)
     have j6:=hid T;have x5:=hid (fun W (h:Below B O W)=>(c8.out W h));clear U e8 T c3 c2 hg b4;go_upto_region 26 with fail
     go_cut [20] (fun j7 wx=>∃z,j7=.pointer (some ⟨z,0,none⟩)/\Arr wx z 83 [.string (mkS (aI X)),.int .i64 (X.length:Int)]/\Below wr.heap.size wr wx)
     case first=>
      obtain⟨t0,t1,t2,t3⟩:=c8.out _ A;have i1:=oF (B:=wr.heap.size) (w0:=wr) ⟨b5,t1,b3,aH _ _,aD _⟩ (aH wr.heap.size wr).drew;have a7:e0<wr.heap.size:=gV wr _ b3;have a8:b6<wr.heap.size:=by omega
      have a9:b9<wr.heap.size:=by omega
      have j8:=fun W (h:Below wr.heap.size wr W)=>j6.out W (t3.below h) ((b8.below (hB▸A)).below h)
      clear t2 t3 t0;clear b8 A g6 o5 e7 c4 b5 t1 b3
      set_option maxHeartbeats 800000 in
      go_region_held3 (fun w'=>w'.cell? ⟨b6,d2+i,none⟩=some (.int .i64 1)/\w'.cell? ⟨b9,o9+1,none⟩=some (.slice d5 Y.length d6)/\w'.cell? ⟨e0,j4+i,none⟩=some (.slice ax g.length cx)/\Below wr.heap.size wr w'/\wr.heap.size<=w'.heap.size)
       (first
        |with_reducible assumption
        |with_reducible exact oF (by assumption) (by assumption)
        |with_reducible exact oF (by assumption) (bD (aH _ _) _)
        |with_reducible exact LZ (by assumption) (aH8 (by assumption)) a8 a9 a7
        |with_reducible exact CR (by assumption) a8 a9 a7 _ _
        |with_reducible exact CR (CR (by assumption) a8 a9 a7 _ _) a8 a9 a7 _ _)
       (first
        |(go_at_call 66;(refine(j8 _ (s3B (by assumption))).mono ?_;rintro e c6 ⟨rfl,e9⟩;first|(have x6:wr.heap.size<=c6.heap.size:=e9.size)|(have hN:Arr c6 wr.heap.size 83 [.string ⟨#[]⟩,.int .i64 0]:=Arr.below (w:=(wr.alloc (.cells #[.string ⟨#[]⟩,.int .i64 0] 83)).drew) (Arr.new wr 83 [.string ⟨#[]⟩,.int .i64 0]) e9 (by show wr.heap.size<(wr.alloc _).heap.size;simp);have n0:=hN.cell (i:=0) rfl;have n1:=hN.cell (i:=1) rfl;have g0:=hN.free 0;have g1:=hN.free 1))))
      all_goals
       go_wp2_with fail;go_meet
       first
        |exact⟨_,rfl,(hN.set 0 _).set 1 _,s3B (by assumption)⟩
        |exact⟨_,rfl,Arr.new c6 83 [.string (mkS (aI X)),.int .i64 (X.length:Int)],s3B (by assumption)⟩
     case rest=>
      obtain⟨z,rfl,hZ,a2⟩:=hcut;have F:=OwI.below F a2 (aD _);have a0:=a0.below a2 (aD _);have A:=A.trans (a2.mono d);have d:=aR d a2.size;have z0:=hZ.cell (i:=0) rfl;have z1:=hZ.cell (i:=1) rfl;clear a2 b5 b3 b8;go_wp2_with fail;refine(b7 _).mono ?_;rintro e j9 ⟨u6,rfl,L,H⟩;have F:=OwI.below F H (aD _);have a0:=a0.below H (aD _);have A:=A.trans (H.mono d);have d:=aR d H.size;clear H z0 z1 hZ
      go_wp2_with (at_builtin;refine lR rfl _ _ rfl B _ _ (bI X) rfl F _ rfl L (by rw[cX];exact c4) ?_ ?_ ?_;(rw[cX,cX];omega);(exact d);intro j2 k0 M I r3 r4);have k1:j9.grownBy k0 a1.ownBlock:=r3;have hg:=o4.out
      go_roundg (G-(i+1))
      case measure=>omega
      case rel=>exact⟨i+1,_,E++X,by omega,rfl,rfl,by go_num,hid (by rw[HX.out,HE.out,bU]),by rw[aL];omega,by rw[iT];exact M,a0.kept k1 (uV a0 F (by decide)),A.trans I,aR d I.size⟩
   ·have x3:decide ((i:Int)<(G:Int))=false:=aE (by omega);have o6:i=G:=by omega
    have o7:=HA.out _ A;have o8:=HB.out _ A;have p0:=HI.out.blk;have p1:E=eJ s:=by
     rw[p0,HE.out,o6,cD (by rw[<-HG.out];exact aD _),cD (by rw[kR,<-d8.out];exact aD _),t8.out,s7.out,s6.out,s5.out,s4.out,s3.out,s2.out,s1.out,s0.out,HZ.out,<-HG.out,<-m1.out,<-m2.out];simp only[List.nil_append,bU]
    have x7:=hid p1;clear p1 p0 o6;go_wp2_with fail;refine(CF _ E _ (OwI.rd F) (by omega)).mono ?_;rintro e z6 ⟨rfl,k2⟩;have f2:=o7.below k2 (by omega);have x8:=o8.trans (k2.mono (by omega));have d0:=f2.cell (i:=0) rfl;have d1:=f2.cell (i:=1) rfl;have f0:=f2.free 0;have f1:=f2.free 1;clear k2 F a0 o7 o8;go_wp2_with fail;obtain⟨z0,z1⟩:=MT f2 x8 (.string (mkS (aI E))) (.int .i64 (E.length:Int));refine bpE rfl z0 rfl rfl rfl ⟨?_,z1,fun _=>HO.out⟩;have x9:tB s room=E:=by unfold tB;rw[aB HF.out,x7.out]
    rw[x9,HF.out];rfl
theorem aIg {e A:List Int} {n:Nat} (F:gM e) (G:gM A) (l0:e.length=n) (H:A.length=n):∀(D:List Int) (d:List (List Int)),(∀g∈d,g.length<=10/\∀x∈g,0<=x/\x<(n:Int))->(iB e A D d).length<=200*d.length
 |[],d,_=>by cases d<;>simp[iB]
 |_::_,[],_=>by simp[iB]
 |c::D,g::d,h=>by
  have L:=aIg F G l0 H D d (fun I J=>h I (List.mem_cons_of_mem _ J));obtain⟨M,O⟩:=h g (List.mem_cons_self ..);show(gF (if c=0 then e else A) g++iB e A D d).length<=_;rw[aL,List.length_cons];have:(gF (if c=0 then e else A) g).length<=20*g.length:=by grind [wG,gM,iB]
  omega
theorem aIh {m g:List Int} (h:g∈dA m):g.length<=10/\∀x∈g,x∈m:=by grind [dA]
theorem bBv (d x:Int):0<(mR d x).length:=by grind [mR]
theorem aIi:∀(l:List Int) (d:Int),l.length<=(fR d l).length
 |[],_=>by simp
 |x::l,d=>by
  have e:=aIi l x
  grind [bBv,fR]
theorem aIj (l:List Int):5+l.length<=(fI l).length:=by simp[aIi,fI,dV]
theorem bBw {t:ByteArray} (h:0<t.size) (J:(bT t.data.toList).length<=360) (A:iZ (mkS (bT t.data.toList))):
  (eJ t).length<=28000/\96+(iL (bY (bT t.data.toList))).length+18+2*(5+((bY (bT t.data.toList)).length+2))<(eJ t).length:=by
 obtain⟨P,a,m,o,n,d⟩:=BIn.of h (by omega) A;have L:m.length<=361:=by
  have:=(QY (mkS P)).1;rw[<-d.hm,cS,d.hP] at this;omega
 have M:=KR a;have D:=CH (fJ (dS m n)) 2 (FI (LC m n));have O:=aH7 (l:=fJ (dS m n)) (by rw[zT,CA];have:=d.m0;omega);have T:=CQ (gE d.c0).1;have U:=CQ (gE d.c1).1;have F:=aIj (eN m n 0);have G:=aIj (eN m n 1);have H:=aIg (n:=n) (gE d.c0).1 (gE d.c1).1 d.l0 d.l1 (dS m n) (dA m) (fun g e=>⟨(aIh e).1,fun x I=>d.rng x ((aIh e).2 x I)⟩);rw[zT,CA] at D;rw[kR] at H;rw[d.l0] at F;rw[d.l1] at G;have V:=d.hn;rw[d.blk,<-d.hP,<-d.ha]
 simp only[aL,dV];omega
theorem bBx {t:ByteArray} {n:Int} (h:jZ t n=0):0<t.size/\1<=n/\n<=360/\((bT t.data.toList).length:Int)<=n:=by grind [jZ,bT]
theorem MW {t:ByteArray} {n:Int} (d:0<t.size) (e:1<=n) (h:n<=360) (A:((bT t.data.toList).length:Int)<=n):jZ t n=0:=by grind [jZ,bT]
theorem aIk {t:ByteArray} {n:Int} (h:jZ t n=0):tB t n=eJ t:=by unfold tB;rw[aB h]
end Go.Proofs.YtfplbbphficcjaaGreatDoor

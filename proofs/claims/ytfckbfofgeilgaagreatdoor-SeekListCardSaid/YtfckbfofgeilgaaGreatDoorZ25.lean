/-
  Texts put together (part 25): the walks and the plain laws on which the statement stands.
-/
import Derived.Test.YtfckbfofgeilgaaGreatDoorZ23
set_option maxRecDepth 100000
set_option maxHeartbeats 12800000
set_option linter.unusedVariables false
set_option linter.unusedSimpArgs false
open Go.Proofs.Tryz
open Go.Proofs.Tryz renaming prog->pG
open Array renaming toList_inj->YF
open ByteArray renaming data_append->BC,ext->YE,size_extract->aL6
open Go.IntKind renaming u64->eZ,wrap_u64->fC
open Go.RowKit.Below renaming heap_alloc->oO,refl->aH
open Go.World renaming alloc->bNw,block_lt_of_cell?->gV
open List renaming append_assoc->bU,drop_drop->kG,getElem?_eq_getElem->aN,getElem?_eq_some_iff->eF,length->nU,length_append->aL,length_nil->aV,map_append->dY,map_cons->kI,mem_cons_of_mem->iQ,mem_cons_self->jK,take_append_drop->kH,take_of_length_le->cD
open Nat renaming le_refl->aD,le_trans->aR,zero_le->aO
open Option.some renaming inj->cC
namespace Go.Proofs.YtfckbfofgeilgaaGreatDoor
section
open Go.RowKit Go Go.Shelf
theorem bpE {d:Func} {Q:Ending->World->Prop} {W:World} {a:Act} {z:Nat} {e A u:Value} (D:d.results=#[.cell 4 69,.tmp 5]) (F:Arr W z 69 [e,A]) (G:a.tmps.getD 4 undef=.pointer (some ⟨z,0,none⟩)) (I:a.tmps.getD 5 undef=u) (J:a.defers=[])
  (h:Q (.returned (.tuple #[.agg #[e,A],u])) W):bodyPost pG d Q .ret a W:=by
 refine bodyPost_ret (uS D _ _ z _ _ (0,0) _ G F underlying69 rfl rQ) J ?_;rw[I];exact h
theorem s3B {d e A:Prop} {B:Nat} {w0 w':World} (h:d/\e/\A/\Below B w0 w'/\B<=w'.heap.size):Below B w0 w':=h.2.2.2.1
theorem aH8 {B:Nat} {w:World} {o d:Obj} (h:B<=w.heap.size):Below B (w.alloc o) (w.alloc d):=
 ⟨rfl,rfl,rfl,by simp,fun k e=>by rw[oO w d k (by omega),oO w o k (by omega)]⟩
theorem CR {d:World} {e F A G D I:Nat} {v1 v2 v3:Value} {B:Nat} {w0:World} (h:d.cell? ⟨e,F,none⟩=some v1/\d.cell? ⟨A,G,none⟩=some v2/\d.cell? ⟨D,I,none⟩=some v3/\Below B w0 d/\B<=d.heap.size) (J:e<B) (L:A<B) (M:D<B) (i:Nat) (v:Value):
  (d.setCell ⟨B,i,none⟩ v).cell? ⟨e,F,none⟩=some v1/\(d.setCell ⟨B,i,none⟩ v).cell? ⟨A,G,none⟩=some v2/\(d.setCell ⟨B,i,none⟩ v).cell? ⟨D,I,none⟩=some v3/\Below B w0 (d.setCell ⟨B,i,none⟩ v)/\B<=(d.setCell ⟨B,i,none⟩ v).heap.size:=
 LZ h ((aH B d).setCell (p:=⟨B,i,none⟩) (aD _) v) J L M
theorem MT {w W:World} {z:Nat} {A D:Value} (F:Arr W z 69 [A,D]) (G:Below z w W) (d e:Value):
  Arr ((W.setCell ⟨z,0,none⟩ d).setCell ⟨z,1,none⟩ e) z 69 [d,e]/\Below z w ((W.setCell ⟨z,0,none⟩ d).setCell ⟨z,1,none⟩ e):=
 ⟨(F.set 0 _).set 1 _,(G.setCell (p:=⟨z,0,none⟩) (aD _) _).setCell (p:=⟨z,1,none⟩) (aD _) _⟩
theorem bA9 (s:ByteArray) (room:Int) (w:World) (hs:s.size<=100000) (p1: -9223372036854775808<=room) (p2:room<=9223372036854775807):
  Calls pG 27 #[.string s,.int .i64 room] w fun e w'=>FV w w' s room e:=by
 have HL:=hid (mV s);have a3:=Arr.new w 69 [.string ⟨#[]⟩,.int .i64 0];have p3:(w.alloc (.cells #[.string ⟨#[]⟩,.int .i64 0] 69)).heap.size=w.heap.size+1:=by simp
 have c8:Below w.heap.size w (w.alloc (.cells #[.string ⟨#[]⟩,.int .i64 0] 69)):=bD (aH _ _) _;change Arr (w.alloc (.cells #[.string ⟨#[]⟩,.int .i64 0] 69)) _ _ _ at a3;have hd:jZ s room=if s.size=0\/room<1\/360<room then 1 else if room<((bT s.data.toList).length:Int) then 4 else 0:=rfl
 by_cases g6:s.size=0\/room<1\/360<room
 ·rw[aB g6] at hd;have HF:=hid hd;clear hd;have d0:=a3.cell (i:=0) rfl;have d1:=a3.cell (i:=1) rfl;have f0:=a3.free 0;have f1:=a3.free 1
  by_cases h1:s.size=0
  ·have u1:s.toList.isEmpty=true:=EI (List.eq_nil_of_length_eq_zero (by rw[HL.out];exact h1));go_enter func27,ntmps27;go_wp2_with fail;exact bpE rfl a3 rfl rfl rfl (zZ HF.out (by decide) c8)
  have u1:s.toList.isEmpty=false:=xK (by omega)
  by_cases h2:room<1
  ·have u2:decide (room<1)=true:=aG h2;go_enter func27,ntmps27;go_wp2_with fail;exact bpE rfl a3 rfl rfl rfl (zZ HF.out (by decide) c8)
  have u2:decide (room<1)=false:=aE h2;have u3:decide (room>360)=true:=aG (by omega);have u4:decide (360<room)=true:=aG (by omega);go_enter func27,ntmps27;go_wp2_with fail;exact bpE rfl a3 rfl rfl rfl (zZ HF.out (by decide) c8)
 rw[aA g6] at hd;have u1:s.toList.isEmpty=false:=xK (by omega);have u2:decide (room<1)=false:=aE (by omega);have u3:decide (room>360)=false:=aE (by omega);have u4:decide (360<room)=false:=aE (by omega);have p4:0<s.size:=by omega
 have g7:=fun W=>aHf s W (by omega)
 have k2:=(uM s.data.toList.length s.data.toList (aD _)).1;rw[HL.out] at k2;obtain⟨P,hP⟩:=ex1 (bT s.data.toList);rw[<-hP] at hd g7 k2;have HP:=hid hP;clear hP;go_enter func27,ntmps27;go_wp2_with fail;generalize w.alloc (.cells #[.string ⟨#[]⟩,.int .i64 0] 69)=w0 at*
 have a1:w.heap.size<w0.heap.size:=by omega
 refine(g7 _).mono ?_;rintro e w1 ⟨rfl,f2⟩;have hA:=a3.below f2 a1;have hb:=c8.trans (f2.mono (by omega));have p4:=f2.size;clear g7 f2 a3 c8
 by_cases c6:room<(P.length:Int)
 ·rw[aB c6] at hd;have HF:=hid hd;clear hd;have v1:decide ((P.length:Int)>room)=true:=aG c6;have v2:decide (room<(P.length:Int))=true:=aG c6;have d0:=hA.cell (i:=0) rfl;have d1:=hA.cell (i:=1) rfl;have f0:=hA.free 0;have f1:=hA.free 1;go_wp2_with fail;obtain⟨z0,z1⟩:=MT hA hb (.string ⟨#[]⟩) (.int .i64 0);exact bpE rfl z0 rfl rfl rfl (zZ HF.out (by decide) z1)
 rw[aA c6] at hd;have HF:=hid hd;clear hd;have v1:decide ((P.length:Int)>room)=false:=aE c6;have v2:decide (room<(P.length:Int))=false:=aE c6;have x9:P.length<=360:=by omega
 go_wp2_with fail;refine(aSf (mkS P) _ (by rw[cS];omega)).mono ?_;rintro e w2 ⟨v5,rfl,a9,f3,hO⟩;have k3:=(uM s.data.toList.length s.data.toList (aD _)).2.1 (fun e=>by have:=HL.out;rw[e] at this;simp at this;omega);rw[<-HP.out] at k3;have hO:=hO (by rw[cS];exact List.length_pos_iff.2 k3);have HO:=hid (show iZ (mkS (bT s.data.toList)) by rw[<-HP.out];exact hO);obtain⟨P',a,m,o,n,hI⟩:=BIn.of (t:=s) (by omega) (by rw[<-HP.out];omega) HO.out;obtain rfl:P'=P:=by rw[hI.hP,HP.out]
 rw[hI.hA,<-hI.ho,hI.hE,<-hI.hm] at*
 have HI:=hid hI;have p5:=hI.m0;have p6:=hI.m361;have y3:=hI.n2;have p7:=hI.n258;have y4:=hI.a256;have p8:=hI.o16;have g8:(a.length:Int)+2=(n:Int):=by rw[hI.hn];omega
 have k4:((mkS a).size:Int)+2=(n:Int):=by rw[cS];exact g8
 have p9:(a.length:Int)+2=(n:Int):=g8;obtain⟨a5,c5,rfl,_,_,_⟩:=a9.open;have hA:=hA.below f3 (by omega);have hb:=hb.trans (f3.mono (by omega));have q3:=f3.size;clear hI f3 hO;go_wp2_with fail;have V:=Arr.new w2 140 [.string (mkS a),.int .i64 (o:Int),.slice a5 m.length c5];have hA:=hA.alloc (.cells #[.string (mkS a),.int .i64 (o:Int),.slice a5 m.length c5] 140);have hb:=hb.alloc (o:=.cells #[.string (mkS a),.int .i64 (o:Int),.slice a5 m.length c5] 140) (by omega);have a9:=a9.below (bD (aH w2.heap.size w2) (.cells #[.string (mkS a),.int .i64 (o:Int),.slice a5 m.length c5] 140))
 have k5:(w2.alloc (.cells #[.string (mkS a),.int .i64 (o:Int),.slice a5 m.length c5] 140)).heap.size=w2.heap.size+1:=by simp
 change Arr (w2.alloc (.cells #[.string (mkS a),.int .i64 (o:Int),.slice a5 m.length c5] 140)) _ _ _ at V;generalize w2.alloc (.cells #[.string (mkS a),.int .i64 (o:Int),.slice a5 m.length c5] 140)=w3 at*
 obtain⟨z7,k6⟩:=ex1 (w2.heap.size);rw[<-k6] at V k5 q3 ⊢;clear k6;obtain⟨B3,g9⟩:∃B3,w3.heap.size=B3:=⟨_,rfl⟩;have x0:=V.cell (i:=0) rfl;have x1:=V.cell (i:=1) rfl;have x2:=V.cell (i:=2) rfl;have q4:z7<B3:=by omega
 have i0:=oF (B:=B3) (w0:=w3) ⟨x0,x1,x2,aH _ _,by omega⟩ (aH w3.heap.size w3).drew
 go_region_held3 (fun w'=>w'.cell? ⟨z7,0,none⟩=some (.string (mkS a))/\w'.cell? ⟨z7,1,none⟩=some (.int .i64 (o:Int))/\w'.cell? ⟨z7,2,none⟩=some (.slice a5 m.length c5)/\Below B3 w3 w'/\B3<=w'.heap.size)
  (first
   |with_reducible assumption
   |with_reducible exact oF (by assumption) (by assumption))
  (first
   |(go_at_call 69;refine(aQn (mkS a) (o:Int) (.slice a5 m.length c5) rfl _ (by rw[cS];omega)).mono ?_;rintro e w4 ⟨rfl,q5⟩;rw[k4])
   |(go_at_call 68;refine(bAc (.slice a5 m.length c5) m n _ (rdQ a9 g9 (by assumption)) p5 (by omega) (by omega) p7 HI.out.rng).mono ?_;rintro e R ⟨v9,y5,rfl,i1,k7,q6⟩))
 have q7:=(show R.cell? ⟨z7,0,none⟩=some (.string (mkS a))/\R.cell? ⟨z7,1,none⟩=some (.int .i64 (o:Int))/\R.cell? ⟨z7,2,none⟩=some (.slice a5 m.length c5)/\Below B3 w3 R/\B3<=R.heap.size by assumption);obtain⟨x0,x1,x2,f4,q8⟩:=q7;obtain⟨B,hB⟩:=ex1 (R.heap.size);have i2:z7<B:=by omega
 have k8:w.heap.size<B:=by omega
 have HC:=hid (fun W (h:Below B R W)=>show W.cell? ⟨z7,0,none⟩=some (.string (mkS a))/\W.cell? ⟨z7,1,none⟩=some (.int .i64 (o:Int))/\W.cell? ⟨z7,2,none⟩=some (.slice a5 m.length c5) from⟨(h.cell (p:=⟨z7,0,none⟩) i2).trans x0,(h.cell (p:=⟨z7,1,none⟩) i2).trans x1,(h.cell (p:=⟨z7,2,none⟩) i2).trans x2⟩);have hA:=hA.below f4 (by omega);have hb:=hb.trans (f4.mono (by omega));have a9:=a9.below (g9▸f4);have i3:=OwI.rd k7;have HA:=hid (fun W (h:Below B R W)=>hA.below h k8);have HB:=hid (fun W (h:Below B R W)=>hb.trans (h.mono (Nat.le_of_lt k8)));have k9:=hid (fun W (h:Below B R W)=>a9.below (hB▸h))
 have l2:=hid (fun W (h:Below B R W)=>i3.below (hB▸h));have y6:=hid (fun W (h:Below B R W)=>i1.below (hB▸h));have i4:=CA m n;obtain⟨ac,cc,rfl,_,_,l3⟩:=i3.open;obtain⟨b5,c9,rfl,q9,l4⟩:=l3 (by omega);obtain⟨y7,y8,rfl,y9,z2,l5⟩:=i1.open;obtain⟨b9,o9,rfl,l6,i5⟩:=l5 (by simp);obtain⟨y0,l7,f5⟩:=i5 0 _ rfl;obtain⟨y1,l8,f6⟩:=i5 1 _ rfl;obtain⟨T0,f7⟩:=ex1 (eN m n 0);obtain⟨T1,f8⟩:=ex1 (eN m n 1);rw[<-f7] at f5;rw[<-f8] at f6;have l9:=hid f7;have m1:=hid f8;have b0:=hid (show bM T0=0/\T0.length=n by rw[f7];exact⟨HI.out.c0,HI.out.l0⟩)
 have b1:=hid (show bM T1=0/\T1.length=n by rw[f8];exact⟨HI.out.c1,HI.out.l1⟩);obtain⟨d2,d3,rfl,_,_,_⟩:=f5.open;obtain⟨d4,d5,rfl,_,_,_⟩:=f6.open;have c7:=hid (fun W (h:Below B R W)=>show W.cell? ⟨b9,o9,none⟩=some (.slice d2 T0.length d3)/\W.cell? ⟨b9,o9+1,none⟩=some (.slice d4 T1.length d5)/\RdI W (.slice d2 T0.length d3) T0/\RdI W (.slice d4 T1.length d5) T1 from
  ⟨(h.cell (p:=⟨b9,o9,none⟩) (by rw[hB];exact l6)).trans l7,(h.cell (p:=⟨b9,o9+1,none⟩) (by rw[hB];exact l6)).trans l8,f5.below (hB▸h),f6.below (hB▸h)⟩)
 have r0:=hid (fun W (h:Below B R W) i c (hi:(dS m n)[i]? =some c)=>show W.cell? ⟨b5,c9+i,none⟩=some (.int .i64 c) from(h.cell (p:=⟨b5,c9+i,none⟩) (by rw[hB];exact q9)).trans (l4 i c hi));clear l3 l4 l5 i5 l7 l8 f5 f6 f7 f8;have F:OwI R B (.slice none 0 0) (bI []):=OwI.nil _ _;have A:Below B R R:=aH _ _;have d:B<=R.heap.size:=by omega
 have r5:(dS m n).length<=901:=by omega
 have r6:0<(dS m n).length:=by omega
 have i6:=hid (LC m n);have hZ:=(cH s.data.toList).isLt;obtain⟨Z,f9⟩:=ex1 ((cH s.data.toList).toNat);rw[<-f9] at hZ;have i7:=fun W=>TA s W (by omega)
 rw[<-f9] at i7;have HZ:=hid f9;have m2:∀W,Calls pG 28 #[.int .u64 54156738319193,.int .i64 48] W fun e w'=>∃u,e=.returned u/\OwI w' W.heap.size u (bI (aT 54156738319193 48))/\Below W.heap.size W w':=fun W=>wK 54156738319193 48 W (by decide) (by decide)
 have m3:=fun W=>wK Z 32 W (by omega) (by decide)
 have m4:=fun W=>wK o 16 W (by omega) (by decide)
 have m5:∀W,Calls pG 28 #[.int .u64 2,.int .i64 3] W fun e w'=>∃u,e=.returned u/\OwI w' W.heap.size u (bI (aT 2 3))/\Below W.heap.size W w':=fun W=>wK 2 3 W (by decide) (by decide)
 obtain⟨G,hG⟩:=ex1 ((dS m n).length);have m6:=fun W=>wK G 15 W (by omega) (by decide)
 have i8:=fun W=>aYy (mkS a) W (by rw[cS];omega) (by rw[dP];exact HI.out.an)
 rw[dP] at i8;have r7:=KR a;have m7:=fun W=>zY (iL a) W (by omega)
 have e1:eZ.wrap (Z:Int)=(Z:Int):=by rw[fC];omega
 have e2:(Z:Int)%18446744073709551616=(Z:Int):=by omega
 have e3:eZ.wrap (o:Int)=(o:Int):=by rw[fC];omega
 have e4:(o:Int)%18446744073709551616=(o:Int):=by omega
 have e5:eZ.wrap (G:Int)=(G:Int):=by rw[fC];omega
 have e6:(G:Int)%18446744073709551616=(G:Int):=by omega
 clear i0 q5 q6 k7 i1 i3 a9 hA hb f4 V x0 x1 x2 f9;rw[<-hG] at i4 r5 r6 l2 ⊢;have g2:=fun W h=>aXi (.slice (some ⟨b5,c9,none⟩) G cc) (dS m n) W h (by omega) i6.out
 unfold fT at g2;obtain⟨SL,d6⟩:=ex1 (eW (fJ (dS m n)));have r8:SL.length<=2*901:=by
  rw[d6];have:=CH (fJ (dS m n)) 2 (FI i6.out);rw[zT] at this;omega
 have m8:0<SL.length:=by rw[d6];exact aH7 (by rw[zT];omega)
 rw[<-d6] at g2;have r9:=hid d6;have m9:=fun W=>zY SL W (by omega)
 clear d6;have HG:=hid hG;have d7:=hid i4;clear hG i4;go_wp2_with fail;have a4:([]:List Bool).length<=0:=aD _;refine(m2 _).mono ?_;rintro e w6 ⟨u6,rfl,a2,I⟩;have F:=OwI.below F I (aD _);have A:=A.trans (I.mono d);have d:=aR d I.size;have M:=OwI.rd a2;clear a2 I;go_wp2_with (at_builtin;refine lR rfl _ _ rfl B _ _ (bI (aT 54156738319193 48)) rfl F _ rfl M (by rw[cX];rw[dV];decide) ?_ ?_ ?_;(rw[cX,cX];rw[dV];omega);(exact d);intro a0 w7 O J r3 r4;obtain⟨q0,q1,q2⟩:=HC.out _ (A.trans J))
 have F:OwI w7 B a0 (bI ([]++aT 54156738319193 48)):=by rw[iT];exact O
 have A:=A.trans J;have d:=aR d J.size;obtain⟨D1,L⟩:=ex1 ([]++aT 54156738319193 48);have a4:D1.length<=48:=by rw[L,aL];rw[dV];(try simp only[aV]);omega
 rw[<-L] at F;have s0:=hid L;clear L O J r3 r4 M;refine(i7 _).mono ?_;rintro e w6 ⟨rfl,rfl⟩;go_wp2_with fail;refine(m3 _).mono ?_;rintro e w6 ⟨u6,rfl,a2,I⟩;have F:=OwI.below F I (aD _);have A:=A.trans (I.mono d);have d:=aR d I.size;have M:=OwI.rd a2;clear a2 I;go_wp2_with (at_builtin;refine lR rfl _ _ rfl B _ _ (bI (aT Z 32)) rfl F _ rfl M (by rw[cX];rw[dV];decide) ?_ ?_ ?_;(rw[cX,cX];rw[dV];omega);(exact d);intro a0 w7 O J r3 r4;obtain⟨q0,q1,q2⟩:=HC.out _ (A.trans J))
 have F:OwI w7 B a0 (bI (D1++aT Z 32)):=by rw[iT];exact O
 have A:=A.trans J;have d:=aR d J.size;obtain⟨D2,L⟩:=ex1 (D1++aT Z 32);have a4:D2.length<=80:=by rw[L,aL];rw[dV];(try simp only[aV]);omega
 rw[<-L] at F;have s1:=hid L;clear L O J r3 r4 M;refine(m4 _).mono ?_;rintro e w6 ⟨u6,rfl,a2,I⟩;have F:=OwI.below F I (aD _);have A:=A.trans (I.mono d);have d:=aR d I.size;have M:=OwI.rd a2;clear a2 I;go_wp2_with (at_builtin;refine lR rfl _ _ rfl B _ _ (bI (aT o 16)) rfl F _ rfl M (by rw[cX];rw[dV];decide) ?_ ?_ ?_;(rw[cX,cX];rw[dV];omega);(exact d);intro a0 w7 O J r3 r4;obtain⟨q0,q1,q2⟩:=HC.out _ (A.trans J));have F:OwI w7 B a0 (bI (D2++aT o 16)):=by rw[iT];exact O
 have A:=A.trans J;have d:=aR d J.size;obtain⟨D3,L⟩:=ex1 (D2++aT o 16);have a4:D3.length<=96:=by rw[L,aL];rw[dV];(try simp only[aV]);omega
 rw[<-L] at F;have s2:=hid L;clear L O J r3 r4 M;refine(i8 _).mono ?_;rintro e w6 ⟨rfl,I⟩;have F:=OwI.below F I (aD _);have A:=A.trans (I.mono d);have d:=aR d I.size;clear I;go_wp2_with fail;refine(m7 _).mono ?_;rintro e w6 ⟨u6,rfl,M,I⟩;have F:=OwI.below F I (aD _);have A:=A.trans (I.mono d);have d:=aR d I.size;clear I;go_wp2_with (at_builtin;refine lR rfl _ _ rfl B _ _ (bI (iL a)) rfl F _ rfl M (by rw[cX];exact bA6 a) ?_ ?_ ?_;(rw[cX,cX];skip;omega);(exact d);intro a0 w7 O J r3 r4;obtain⟨q0,q1,q2⟩:=HC.out _ (A.trans J))
 have F:OwI w7 B a0 (bI (D3++iL a)):=by rw[iT];exact O
 have A:=A.trans J;have d:=aR d J.size;obtain⟨D4,L⟩:=ex1 (D3++iL a);have a4:D4.length<=400:=by rw[L,aL];skip;(try simp only[aV]);omega
 rw[<-L] at F;have s3:=hid L;clear L O J r3 r4 M;refine(m5 _).mono ?_;rintro e w6 ⟨u6,rfl,a2,I⟩;have F:=OwI.below F I (aD _);have A:=A.trans (I.mono d);have d:=aR d I.size;have M:=OwI.rd a2;clear a2 I;go_wp2_with (at_builtin;refine lR rfl _ _ rfl B _ _ (bI (aT 2 3)) rfl F _ rfl M (by rw[cX];rw[dV];decide) ?_ ?_ ?_;(rw[cX,cX];rw[dV];omega);(exact d);intro a0 w7 O J r3 r4;obtain⟨q0,q1,q2⟩:=HC.out _ (A.trans J));have F:OwI w7 B a0 (bI (D4++aT 2 3)):=by rw[iT];exact O
 have A:=A.trans J;have d:=aR d J.size;obtain⟨D5,L⟩:=ex1 (D4++aT 2 3);have a4:D5.length<=403:=by rw[L,aL];rw[dV];(try simp only[aV]);omega
 rw[<-L] at F;have s4:=hid L;clear L O J r3 r4 M;refine(m6 _).mono ?_;rintro e w6 ⟨u6,rfl,a2,I⟩;have F:=OwI.below F I (aD _);have A:=A.trans (I.mono d);have d:=aR d I.size;have M:=OwI.rd a2;clear a2 I;go_wp2_with (at_builtin;refine lR rfl _ _ rfl B _ _ (bI (aT G 15)) rfl F _ rfl M (by rw[cX];rw[dV];decide) ?_ ?_ ?_;(rw[cX,cX];rw[dV];omega);(exact d);intro a0 w7 O J r3 r4;obtain⟨q0,q1,q2⟩:=HC.out _ (A.trans J));have F:OwI w7 B a0 (bI (D5++aT G 15)):=by rw[iT];exact O
 have A:=A.trans J;have d:=aR d J.size;obtain⟨D6,L⟩:=ex1 (D5++aT G 15);have a4:D6.length<=418:=by rw[L,aL];rw[dV];(try simp only[aV]);omega
 rw[<-L] at F;have s5:=hid L;clear L O J r3 r4 M;refine(g2 _ (l2.out _ A)).mono ?_;rintro e w6 ⟨rfl,I⟩;have F:=OwI.below F I (aD _);have A:=A.trans (I.mono d);have d:=aR d I.size;clear I;have F:=OwI.alloc F (.cells #[.string (mkS (aI (SL))),.int .i64 ((SL).length:Int)] 69);have A:=A.alloc (o:=.cells #[.string (mkS (aI (SL))),.int .i64 ((SL).length:Int)] 69) d;have d:B<=(bNw w6 (.cells #[.string (mkS (aI (SL))),.int .i64 ((SL).length:Int)] 69)).heap.size:=aR d (by simp);go_wp2_with fail;refine(m9 _).mono ?_;rintro e w8 ⟨u6,rfl,M,I⟩
 have F:=OwI.below F I (aD _);have A:=A.trans (I.mono d);have d:=aR d I.size;clear I;go_wp2_with (at_builtin;refine lR rfl _ _ rfl B _ _ (bI (SL)) rfl F _ rfl M (by rw[cX];exact m8) ?_ ?_ ?_;(rw[cX,cX];skip;omega);(exact d);intro a0 w7 O J r3 r4;obtain⟨q0,q1,q2⟩:=HC.out _ (A.trans J));have F:OwI w7 B a0 (bI (D6++SL)):=by rw[iT];exact O
 have A:=A.trans J;have d:=aR d J.size;obtain⟨D7,L⟩:=ex1 (D6++SL);have a4:D7.length<=2300:=by rw[L,aL];skip;(try simp only[aV]);omega
 rw[<-L] at F;have s6:=hid L;clear L O J r3 r4 M
 go_loopg [12,15,16,17] 2 (fun g i9 s7 _s16 _s17 wr=>∃(k:Nat) (v:Value) (D:List Bool),k<=2/\g=2-k/\v=i9/\s7=.int .i64 (k:Int)/\Hid (D=D7++(([T0,T1].take k).map fI).flatten)/\D.length<=2300+k*10067/\OwI wr B v (bI D)/\Below B R wr/\B<=wr.heap.size)
 case atStart=>exact⟨0,_,D7,aO _,rfl,rfl,rfl,hid (by simp),by omega,F,A,d⟩
 case round=>
  clear F A d q0 q1 q2 a4;obtain⟨k,a0,D,hk,hg,rfl,rfl,HD,a4,F,A,d⟩:=hrel;have o0:=hid hg;clear hg
  by_cases s8:k=0
  ·subst s8;obtain⟨t0,t1,t2,t3⟩:=c7.out _ A;have U:=aE6 (.slice d2 T0.length d3) T0 wr t2 (gE b0.out.1).1;unfold fT at U;have j0:=CQ (gE b0.out.1).1;have d8:=aH6 T0;obtain⟨X,V⟩:=ex1 (fI T0);rw[<-V] at U j0 d8;have HX:=hid V;have b6:=fun W=>zY X W (by omega)
   clear V t2 t3;go_wp2_with fail;refine U.mono ?_;rintro e w6 ⟨rfl,I⟩;have F:=OwI.below F I (aD _);have A:=A.trans (I.mono d);have d:=aR d I.size;clear U I t0 t1;have F:=OwI.alloc F (.cells #[.string (mkS (aI (X))),.int .i64 ((X).length:Int)] 69);have A:=A.alloc (o:=.cells #[.string (mkS (aI (X))),.int .i64 ((X).length:Int)] 69) d;have d:B<=(bNw w6 (.cells #[.string (mkS (aI (X))),.int .i64 ((X).length:Int)] 69)).heap.size:=aR d (by simp);go_wp2_with fail;refine(b6 _).mono ?_;rintro e w8 ⟨u6,rfl,M,I⟩;have F:=OwI.below F I (aD _)
   have A:=A.trans (I.mono d);have d:=aR d I.size;clear I;go_wp2_with (at_builtin;refine lR rfl _ _ rfl B _ _ (bI X) rfl F _ rfl M (by rw[cX];exact d8) ?_ ?_ ?_;(rw[cX,cX];omega);(exact d);intro j1 w9 O J r3 r4);have hg:=o0.out
   go_roundg (2-(0+1))
   ·exact⟨0+1,_,D++X,by omega,rfl,rfl,by first|rfl|go_num,hid (by rw[HD.out,HX.out];simp),by rw[aL];omega,by rw[iT];exact O,A.trans J,aR d J.size⟩
   ·omega
  by_cases s9:k=1
  ·subst s9;obtain⟨t0,t1,t2,t3⟩:=c7.out _ A;have U:=aE6 (.slice d4 T1.length d5) T1 wr t3 (gE b1.out.1).1;unfold fT at U;have j0:=CQ (gE b1.out.1).1;have d8:=aH6 T1;obtain⟨X,V⟩:=ex1 (fI T1);rw[<-V] at U j0 d8;have HX:=hid V;have b6:=fun W=>zY X W (by omega)
   clear V t2 t3;go_wp2_with fail;refine U.mono ?_;rintro e w6 ⟨rfl,I⟩;have F:=OwI.below F I (aD _);have A:=A.trans (I.mono d);have d:=aR d I.size;clear U I t0 t1;have F:=OwI.alloc F (.cells #[.string (mkS (aI (X))),.int .i64 ((X).length:Int)] 69);have A:=A.alloc (o:=.cells #[.string (mkS (aI (X))),.int .i64 ((X).length:Int)] 69) d;have d:B<=(bNw w6 (.cells #[.string (mkS (aI (X))),.int .i64 ((X).length:Int)] 69)).heap.size:=aR d (by simp);go_wp2_with fail;refine(b6 _).mono ?_;rintro e w8 ⟨u6,rfl,M,I⟩;have F:=OwI.below F I (aD _)
   have A:=A.trans (I.mono d);have d:=aR d I.size;clear I;go_wp2_with (at_builtin;refine lR rfl _ _ rfl B _ _ (bI X) rfl F _ rfl M (by rw[cX];exact d8) ?_ ?_ ?_;(rw[cX,cX];omega);(exact d);intro j1 w9 O J r3 r4);have hg:=o0.out
   go_roundg (2-(1+1))
   ·exact⟨1+1,_,D++X,by omega,rfl,rfl,by first|rfl|go_num,hid (by rw[HD.out,HX.out];simp),by rw[aL];omega,by rw[iT];exact O,A.trans J,aR d J.size⟩
   ·omega
  obtain rfl:k=2:=by omega
  have o1:=aFx (.slice a5 m.length c5) m wr R (k9.out _ A) (k9.out _ (aH _ _)) (by omega);obtain⟨q0,q1,q2⟩:=HC.out _ A;go_wp2_with fail;refine o1.mono ?_;rintro e z3 ⟨z4,xs,rfl,Y,j2,g3⟩;have Y:=Ow.base Y d;have F:=OwI.below F g3 (aD _);have A:=A.trans (g3.mono d);have d:=aR d g3.size;clear o1 q0 q1 q2 g3 i7 m2 m3 m4 m5 m6 i8 r7 m7 e1 e2 e3 e4 e5 e6 g2 m9 hZ r8 m8 v1 v2 u1 u2 u3 u4 p6 p8 g8 k4 p9 k5 g9 q8 q4 p3 a1 p1 p2 g6 hs;have g4:xs.length=G:=by rw[j2.1,kR];exact d7.out.symm
  have t4:=hid j2;clear j2;obtain⟨d9,j3,t5,rfl⟩:=Ow.openN Y (by omega);rw[g4] at Y;rw[g4];have t6:=hid g4;have o2:D=D7++(fI T0++fI T1):=by rw[HD.out];simp
  have t7:=hid o2;clear o2 g4;go_wp2_with fail
  go_loopg [12,19,20,21] G (fun g i9 t8 _s20 _s21 wr=>∃(i:Nat) (v:Value) (E:List Bool),i<=G/\g=G-i/\v=i9/\t8=.int .i64 (i:Int)/\Hid (E=D++iB T0 T1 ((dS m n).take i) ((dA m).take i))/\E.length<=22500+i*200/\OwI wr B v (bI E)/\Ow wr B 53 (.slice (some ⟨d9,j3,none⟩) G t5) xs/\Below B R wr/\B<=wr.heap.size)
  case atStart=>exact⟨0,_,D,aO _,rfl,rfl,rfl,hid (by simp[iB]),by omega,F,Y,A,d⟩
  case round=>
   clear F Y A d a4;obtain⟨i,a0,E,hi,hg,rfl,rfl,HE,z5,F,Y,A,d⟩:=hrel;have o3:=hid hg;clear hg
   by_cases j4:i<G
   ·have t9:decide ((i:Int)<(G:Int))=true:=aG (by omega);obtain⟨g,hg⟩:∃g,(dA m)[i]? =some g:=⟨_,aN (by rw[kR,<-d7.out];exact j4)⟩;obtain⟨x,hx⟩:∃x,xs[i]? =some x:=⟨_,aN (by rw[t6.out];exact j4)⟩;have b7:=t4.out.2 i x g hx hg;have b2:=Y.cellAt hx;obtain⟨b3,o4⟩:=MM hg;have g5:0<g.length:=by
     rw[BY m i (by rw[<-d7.out];exact j4)] at hg;rw[<-cC hg,List.length_take,List.length_drop];have:=d7.out;omega
    obtain⟨ax,cx,rfl,_,_,_⟩:=b7.open;have b8:=bA8 (n:=n) hg;rw[<-l9.out,<-m1.out] at b8;have b4:=r0.out _ A i _ b8;have x3:=i6.out _ (List.mem_of_getElem? b8);clear hx;rcases x3 with c2|c2
    ·skip
     rw[c2] at b4;have U:=aE3 (.slice d2 T0.length d3) (.slice ax g.length cx) T0 g;have U:=fun W a b=>U W a b b0.out.1 (by rw[b0.out.2];exact fun x hx=>HI.out.rng x (b3 x hx)) (by omega)
     unfold fT at U;have e0:=wG (gE b0.out.1).1 g (by rw[b0.out.2];exact fun x hx=>HI.out.rng x (b3 x hx));have c3:=aH5 (gE b0.out.1).1 (by rw[b0.out.2];exact fun x hx=>HI.out.rng x (b3 x hx)) g5;obtain⟨X,V⟩:=ex1 (gF T0 g);have e7:iB T0 T1 ((dS m n).take (i+1)) ((dA m).take (i+1))=iB T0 T1 ((dS m n).take i) ((dA m).take i)++X:=by
      rw[UK b8 hg,c2,V];rfl
     rw[<-V] at U e0 c3;have HX:=hid e7;have b6:=fun W=>zY X W (by omega)
     have j5:=hid U;have x4:=hid (fun W (h:Below B R W)=>(c7.out W h));clear V e7 U c2 b8 hg b3;go_upto_region 26 with fail
     go_cut [20] (fun j6 wx=>∃z,j6=.pointer (some ⟨z,0,none⟩)/\Arr wx z 69 [.string (mkS (aI X)),.int .i64 (X.length:Int)]/\Below wr.heap.size wr wx)
     case first=>
      obtain⟨t0,t1,t2,t3⟩:=c7.out _ A;have i0:=oF (B:=wr.heap.size) (w0:=wr) ⟨b4,t0,b2,aH _ _,aD _⟩ (aH wr.heap.size wr).drew;have a6:d9<wr.heap.size:=gV wr _ b2;have a7:b5<wr.heap.size:=by omega
      have a8:b9<wr.heap.size:=by omega
      have j7:=fun W (h:Below wr.heap.size wr W)=>j5.out W (t2.below h) ((b7.below (hB▸A)).below h)
      clear t2 t3 t1;clear b7 A g5 o4 e0 c3 b4 t0 b2
      set_option maxHeartbeats 800000 in
      go_region_held3 (fun w'=>w'.cell? ⟨b5,c9+i,none⟩=some (.int .i64 0)/\w'.cell? ⟨b9,o9,none⟩=some (.slice d2 T0.length d3)/\w'.cell? ⟨d9,j3+i,none⟩=some (.slice ax g.length cx)/\Below wr.heap.size wr w'/\wr.heap.size<=w'.heap.size)
       (first
        |with_reducible assumption
        |with_reducible exact oF (by assumption) (by assumption)
        |with_reducible exact oF (by assumption) (bD (aH _ _) _)
        |with_reducible exact LZ (by assumption) (aH8 (by assumption)) a7 a8 a6
        |with_reducible exact CR (by assumption) a7 a8 a6 _ _
        |with_reducible exact CR (CR (by assumption) a7 a8 a6 _ _) a7 a8 a6 _ _)
       (first
        |(go_at_call 74;(refine(j7 _ (s3B (by assumption))).mono ?_;rintro e c4 ⟨rfl,e8⟩;first|(have x5:wr.heap.size<=c4.heap.size:=e8.size)|(have hN:Arr c4 wr.heap.size 69 [.string ⟨#[]⟩,.int .i64 0]:=Arr.below (w:=(wr.alloc (.cells #[.string ⟨#[]⟩,.int .i64 0] 69)).drew) (Arr.new wr 69 [.string ⟨#[]⟩,.int .i64 0]) e8 (by show wr.heap.size<(wr.alloc _).heap.size;simp);have n0:=hN.cell (i:=0) rfl;have n1:=hN.cell (i:=1) rfl;have g0:=hN.free 0;have g1:=hN.free 1))))
      all_goals
       go_wp2_with fail;go_meet
       first
        |exact⟨_,rfl,(hN.set 0 _).set 1 _,s3B (by assumption)⟩
        |exact⟨_,rfl,Arr.new c4 69 [.string (mkS (aI X)),.int .i64 (X.length:Int)],s3B (by assumption)⟩
     case rest=>
      obtain⟨z,rfl,hZ,a1⟩:=hcut;have F:=OwI.below F a1 (aD _);have Y:=Y.below a1 (aD _);have A:=A.trans (a1.mono d);have d:=aR d a1.size;have z0:=hZ.cell (i:=0) rfl;have z1:=hZ.cell (i:=1) rfl;clear a1 b4 b2 b7;go_wp2_with fail;refine(b6 _).mono ?_;rintro e j8 ⟨u6,rfl,M,I⟩;have F:=OwI.below F I (aD _);have Y:=Y.below I (aD _);have A:=A.trans (I.mono d);have d:=aR d I.size;clear I z0 z1 hZ
      go_wp2_with (at_builtin;refine lR rfl _ _ rfl B _ _ (bI X) rfl F _ rfl M (by rw[cX];exact c3) ?_ ?_ ?_;(rw[cX,cX];omega);(exact d);intro j1 j9 O J r3 r4);have k0:j8.grownBy j9 a0.ownBlock:=r3;have hg:=o3.out
      go_roundg (G-(i+1))
      ·exact⟨i+1,_,E++X,by omega,rfl,rfl,by go_num,hid (by rw[HX.out,HE.out,bU]),by rw[aL];omega,by rw[iT];exact O,Y.kept k0 (uV Y F (by decide)),A.trans J,aR d J.size⟩
      ·omega
    ·skip
     rw[c2] at b4;have U:=aE3 (.slice d4 T1.length d5) (.slice ax g.length cx) T1 g;have U:=fun W a b=>U W a b b1.out.1 (by rw[b1.out.2];exact fun x hx=>HI.out.rng x (b3 x hx)) (by omega)
     unfold fT at U;have e0:=wG (gE b1.out.1).1 g (by rw[b1.out.2];exact fun x hx=>HI.out.rng x (b3 x hx));have c3:=aH5 (gE b1.out.1).1 (by rw[b1.out.2];exact fun x hx=>HI.out.rng x (b3 x hx)) g5;obtain⟨X,V⟩:=ex1 (gF T1 g);have e7:iB T0 T1 ((dS m n).take (i+1)) ((dA m).take (i+1))=iB T0 T1 ((dS m n).take i) ((dA m).take i)++X:=by
      rw[UK b8 hg,c2,V];rfl
     rw[<-V] at U e0 c3;have HX:=hid e7;have b6:=fun W=>zY X W (by omega)
     have j5:=hid U;have x4:=hid (fun W (h:Below B R W)=>(c7.out W h));clear V e7 U c2 b8 hg b3;go_upto_region 26 with fail
     go_cut [20] (fun j6 wx=>∃z,j6=.pointer (some ⟨z,0,none⟩)/\Arr wx z 69 [.string (mkS (aI X)),.int .i64 (X.length:Int)]/\Below wr.heap.size wr wx)
     case first=>
      obtain⟨t0,t1,t2,t3⟩:=c7.out _ A;have i0:=oF (B:=wr.heap.size) (w0:=wr) ⟨b4,t1,b2,aH _ _,aD _⟩ (aH wr.heap.size wr).drew;have a6:d9<wr.heap.size:=gV wr _ b2;have a7:b5<wr.heap.size:=by omega
      have a8:b9<wr.heap.size:=by omega
      have j7:=fun W (h:Below wr.heap.size wr W)=>j5.out W (t3.below h) ((b7.below (hB▸A)).below h)
      clear t2 t3 t0;clear b7 A g5 o4 e0 c3 b4 t1 b2
      set_option maxHeartbeats 800000 in
      go_region_held3 (fun w'=>w'.cell? ⟨b5,c9+i,none⟩=some (.int .i64 1)/\w'.cell? ⟨b9,o9+1,none⟩=some (.slice d4 T1.length d5)/\w'.cell? ⟨d9,j3+i,none⟩=some (.slice ax g.length cx)/\Below wr.heap.size wr w'/\wr.heap.size<=w'.heap.size)
       (first
        |with_reducible assumption
        |with_reducible exact oF (by assumption) (by assumption)
        |with_reducible exact oF (by assumption) (bD (aH _ _) _)
        |with_reducible exact LZ (by assumption) (aH8 (by assumption)) a7 a8 a6
        |with_reducible exact CR (by assumption) a7 a8 a6 _ _
        |with_reducible exact CR (CR (by assumption) a7 a8 a6 _ _) a7 a8 a6 _ _)
       (first
        |(go_at_call 74;(refine(j7 _ (s3B (by assumption))).mono ?_;rintro e c4 ⟨rfl,e8⟩;first|(have x5:wr.heap.size<=c4.heap.size:=e8.size)|(have hN:Arr c4 wr.heap.size 69 [.string ⟨#[]⟩,.int .i64 0]:=Arr.below (w:=(wr.alloc (.cells #[.string ⟨#[]⟩,.int .i64 0] 69)).drew) (Arr.new wr 69 [.string ⟨#[]⟩,.int .i64 0]) e8 (by show wr.heap.size<(wr.alloc _).heap.size;simp);have n0:=hN.cell (i:=0) rfl;have n1:=hN.cell (i:=1) rfl;have g0:=hN.free 0;have g1:=hN.free 1))))
      all_goals
       go_wp2_with fail;go_meet
       first
        |exact⟨_,rfl,(hN.set 0 _).set 1 _,s3B (by assumption)⟩
        |exact⟨_,rfl,Arr.new c4 69 [.string (mkS (aI X)),.int .i64 (X.length:Int)],s3B (by assumption)⟩
     case rest=>
      obtain⟨z,rfl,hZ,a1⟩:=hcut;have F:=OwI.below F a1 (aD _);have Y:=Y.below a1 (aD _);have A:=A.trans (a1.mono d);have d:=aR d a1.size;have z0:=hZ.cell (i:=0) rfl;have z1:=hZ.cell (i:=1) rfl;clear a1 b4 b2 b7;go_wp2_with fail;refine(b6 _).mono ?_;rintro e j8 ⟨u6,rfl,M,I⟩;have F:=OwI.below F I (aD _);have Y:=Y.below I (aD _);have A:=A.trans (I.mono d);have d:=aR d I.size;clear I z0 z1 hZ
      go_wp2_with (at_builtin;refine lR rfl _ _ rfl B _ _ (bI X) rfl F _ rfl M (by rw[cX];exact c3) ?_ ?_ ?_;(rw[cX,cX];omega);(exact d);intro j1 j9 O J r3 r4);have k0:j8.grownBy j9 a0.ownBlock:=r3;have hg:=o3.out
      go_roundg (G-(i+1))
      ·exact⟨i+1,_,E++X,by omega,rfl,rfl,by go_num,hid (by rw[HX.out,HE.out,bU]),by rw[aL];omega,by rw[iT];exact O,Y.kept k0 (uV Y F (by decide)),A.trans J,aR d J.size⟩
      ·omega
   ·have t9:decide ((i:Int)<(G:Int))=false:=aE (by omega);have o5:i=G:=by omega
    have o6:=HA.out _ A;have o7:=HB.out _ A;have o8:=HI.out.blk;have p0:E=eJ s:=by
     rw[o8,HE.out,o5,cD (by rw[<-HG.out];exact aD _),cD (by rw[kR,<-d7.out];exact aD _),t7.out,s6.out,s5.out,s4.out,s3.out,s2.out,s1.out,s0.out,r9.out,HZ.out,<-HG.out,<-l9.out,<-m1.out];simp only[List.nil_append,bU]
    have x6:=hid p0;clear p0 o8 o5;go_wp2_with fail;refine(CF _ E _ (OwI.rd F) (by omega)).mono ?_;rintro e z6 ⟨rfl,k1⟩;have e9:=o6.below k1 (by omega);have x7:=o7.trans (k1.mono (by omega));have d0:=e9.cell (i:=0) rfl;have d1:=e9.cell (i:=1) rfl;have f0:=e9.free 0;have f1:=e9.free 1;clear k1 F Y o6 o7;go_wp2_with fail;obtain⟨z0,z1⟩:=MT e9 x7 (.string (mkS (aI E))) (.int .i64 (E.length:Int));refine bpE rfl z0 rfl rfl rfl ⟨?_,z1,fun _=>HO.out⟩;have x8:tB s room=E:=by unfold tB;rw[aB HF.out,x6.out]
    rw[x8,HF.out];rfl
theorem aIg {e A:List Int} {n:Nat} (F:gM e) (G:gM A) (l0:e.length=n) (I:A.length=n):∀(D:List Int) (d:List (List Int)),(∀g∈d,g.length<=10/\∀x∈g,0<=x/\x<(n:Int))->(iB e A D d).length<=200*d.length
 |[],d,_=>by cases d<;>simp[iB]
 |_::_,[],_=>by simp[iB]
 |c::D,g::d,h=>by
  have M:=aIg F G l0 I D d (fun J L=>h J (iQ _ L));obtain⟨O,R⟩:=h g (jK ..);show(gF (if c=0 then e else A) g++iB e A D d).length<=_;rw[aL,List.length_cons];have:(gF (if c=0 then e else A) g).length<=20*g.length:=by grind [wG,gM,iB]
  omega
theorem aIh {m g:List Int} (h:g∈dA m):g.length<=10/\∀x∈g,x∈m:=by grind [dA]
theorem bBv (d x:Int):0<(mR d x).length:=by grind [mR]
theorem aIi:∀(l:List Int) (d:Int),l.length<=(fR d l).length
 |[],_=>by simp
 |x::l,d=>by
  have e:=aIi l x
  grind [bBv,fR]
theorem aIj (l:List Int):5+l.length<=(fI l).length:=by simp[aIi,fI,dV]
theorem bBw {t:ByteArray} (A:0<t.size) (M:(bT t.data.toList).length<=360) (D:iZ (mkS (bT t.data.toList))):
  (eJ t).length<=28000/\96+(iL (bY (bT t.data.toList))).length+18+2*(5+((bY (bT t.data.toList)).length+2))<(eJ t).length:=by
 obtain⟨P,a,m,o,n,d⟩:=BIn.of A (by omega) D;have O:m.length<=361:=by
  have:=(QY (mkS P)).1;rw[<-d.hm,cS,d.hP] at this;omega
 have R:=KR a;have F:=CH (fJ (dS m n)) 2 (FI (LC m n));have U:=aH7 (l:=fJ (dS m n)) (by rw[zT,CA];have:=d.m0;omega);have V:=CQ (gE d.c0).1;have Y:=CQ (gE d.c1).1;have G:=aIj (eN m n 0);have I:=aIj (eN m n 1);have J:=aIg (n:=n) (gE d.c0).1 (gE d.c1).1 d.l0 d.l1 (dS m n) (dA m) (fun g e=>⟨(aIh e).1,fun x L=>d.rng x ((aIh e).2 x L)⟩);rw[zT,CA] at F;rw[kR] at J;rw[d.l0] at G;rw[d.l1] at I;have Z:=d.hn;rw[d.blk,<-d.hP,<-d.ha]
 simp only[aL,dV];omega
theorem bBx {t:ByteArray} {n:Int} (h:jZ t n=0):0<t.size/\1<=n/\n<=360/\((bT t.data.toList).length:Int)<=n:=by grind [jZ,bT]
theorem MW {t:ByteArray} {n:Int} (d:0<t.size) (e:1<=n) (A:n<=360) (D:((bT t.data.toList).length:Int)<=n):jZ t n=0:=by grind [jZ,bT]
theorem aIk {t:ByteArray} {n:Int} (h:jZ t n=0):tB t n=eJ t:=by unfold tB;rw[aB h]
def oH (r:Int):List ByteArray->Int
 |[]=>0
 |t::l=>if jZ t r≠0 then jZ t r else oH r l
def wrE (n:Int) (l:List ByteArray):Int:=if n<1\/9<n then 1 else oH (40*n) l
theorem AA {r:Int}:∀{l:List ByteArray},(∀t∈l,jZ t r=0)->oH r l=0
 |[],_=>rfl
 |x::l,h=>by
  unfold oH;rw[aA (fun k=>k (h x (jK ..)))];exact AA (fun t d=>h t (iQ _ d))
theorem UL {r:Int}:∀{l:List ByteArray} {k:Nat},(∀t∈l.take k,jZ t r=0)->oH r l=oH r (l.drop k)
 |_,0,_=>rfl
 |[],_+1,_=>rfl
 |x::l,k+1,h=>by
  show oH r (x::l)=oH r (l.drop k)
  conv=>lhs;unfold oH
  rw[aA (fun q=>q (h x (by simp)))];exact UL (fun t d=>h t (by grind))
theorem aIl {t:ByteArray} {r:Int} (h:jZ t r=0) (d:iZ (mkS (bT t.data.toList))):okT r t:=by grind [bBx,jZ,iZ,mkS,bT,okT]
theorem yC {r:Int} (d:r<=360):∀(l:List ByteArray),(∀t∈l,okT r t)->(fN l).length<=28000*l.length
 |[],_=>aD _
 |t::l,h=>by
  obtain⟨A,D,F⟩:=h t (jK ..);have G:=yC d l (fun x e=>h x (iQ _ e))
  grind [bBw,MV,okT,fN]
def iH (l:List ByteArray):ByteArray:=mkS (l.map (fun t=>t.data.toList)).flatten
theorem MX (x y:List ByteArray):(iH (x++y)).data.toList=(iH x).data.toList++(iH y).data.toList:=by simp[iH,dP]
end
section
open Go.RowKit Go
theorem bMw:∀l:List Prt,(iH (l.map Prt.t)).size=vE l
 |[]=>rfl
 |p::l=>by
  have h:=congrArg nU (MX [p.t] (l.map Prt.t));rw[aL] at h;have d:∀x:ByteArray,x.data.toList.length=x.size:=fun x=>by simp
  rw[d,d,d,bMw l] at h;have e:(iH [p.t]).size=p.t.size:=by
   unfold iH;rw[cS];simp
  rw[kI,bEn,<-e,<-h];rfl
theorem bRf {P:List Prt} {i:Nat} {p:Prt} (h:P[i]? =some p):
  (iH (P.map Prt.t)).extract (vE (P.take i)) (vE (P.take i)+p.t.size)=p.t/\vE (P.take i)+p.t.size<=(iH (P.map Prt.t)).size:=by
 have e:=(eF.1 h).1;have F:P.map Prt.t=(P.take i).map Prt.t++([p.t]++(P.drop (i+1)).map Prt.t):=by
  conv=>lhs;rw[<-kH i P,List.drop_eq_getElem_cons e]
  rw[aN e] at h;rw[cC h,dY,kI];rfl
 have A:=bMw (P.take i);have D:(iH (P.map Prt.t)).data.toList=(iH ((P.take i).map Prt.t)).data.toList++(p.t.data.toList++(iH ((P.drop (i+1)).map Prt.t)).data.toList):=by
  rw[F,MX,MX]
  congr 2
  unfold iH;simp
 have d:∀x:ByteArray,x.data.toList.length=x.size:=fun x=>by simp
 refine⟨?_,?_⟩
 ·refine YE (YF.1 ?_);rw[iW,dP,D,show vE (P.take i)+p.t.size-vE (P.take i)=p.t.data.toList.length by rw[d];omega,List.drop_left' (by rw[d,A]),List.take_left]
 ·have:=congrArg nU D;rw[aL,aL,d,d,d,d,A] at this;omega
def ahB (P:List Prt) (k:Nat):Nat:=vE (P.take k)
theorem bNk {P:List Prt} {k:Nat} {p:Prt} (h:P[k]? =some p):ahB P (k+1)=ahB P k+p.t.size:=bEp h
theorem bMx (P:List Prt) (k:Nat):ahB P k<=(iH (P.map Prt.t)).size:=by
 have h:=congrArg vE (kH k P);unfold vE at h;rw[dY,List.sum_append] at h;rw[bMw];unfold ahB vE;omega
theorem bMo {P:List Prt} {k:Nat} {p:Prt} (h:P[k]? =some p):(gU 0 P)[k]? =some ⟨p.a,p.r,(ahB P k:Int),(p.t.size:Int),p.y⟩:=by
 have:=bO4 P 0 k p h;rw[Int.zero_add] at this;exact this
def bLh (P:List Prt) (o m k:Nat):ByteArray:=(iH (P.map Prt.t)).extract o (min (o+m) (ahB P k))
theorem bO5 (s:ByteArray) (a b:Nat) (h:b<=s.size):(s.extract a b).size=b-a:=by rw[aL6];omega
theorem bN5 (P:List Prt) (o m k:Nat):(bLh P o m k).size=min (o+m) (ahB P k)-o:=bO5 _ _ _ (by have:=bMx P k;omega)
theorem bNl (s:ByteArray) {a b:Nat} (h:b<=a):s.extract a b=⟨#[]⟩:=by
 refine YE (YF.1 ?_);rw[iW,dP,show b-a=0 by omega,List.take_zero]
theorem bO6 {P:List Prt} {o m k:Nat} (h:ahB P k<=o):bLh P o m k=⟨#[]⟩:=bNl _ (by omega)
theorem bRh (s:ByteArray) {a b c d:Nat} (h:a+d<=b):(s.extract a b).extract c d=s.extract (a+c) (a+d):=by
 refine YE (YF.1 ?_);rw[iW,iW,iW,dP,dP,dP,List.drop_take,List.take_take,kG,show min (d-c) (b-a-c)=a+d-(a+c) by omega]
theorem bO7 (s:ByteArray) {a b c:Nat} (d:a<=b) (e:b<=c):s.extract a b++s.extract b c=s.extract a c:=by
 refine YE (YF.1 ?_);rw[BC,Array.toList_append,iW,iW,iW,dP,dP,dP,show c-a=(b-a)+(c-b) by omega,List.take_add,kG,show a+(b-a)=b by omega]
theorem bRi {P:List Prt} {k:Nat} {p:Prt} (h:P[k]? =some p) {o m:Nat} (D:o<ahB P k+p.t.size) (F:ahB P k<o+m):
  bLh P o m k++p.t.extract (o-ahB P k) (max (min (o+m-ahB P k) p.t.size) (o-ahB P k))=bLh P o m (k+1):=by
 have d:=(bRf h).1;rw[show vE (P.take k)=ahB P k from rfl] at d;have e:p.t.extract (o-ahB P k) (max (min (o+m-ahB P k) p.t.size) (o-ahB P k))=(iH (P.map Prt.t)).extract (max o (ahB P k)) (min (o+m) (ahB P k+p.t.size)):=by
  have A:max (min (o+m-ahB P k) p.t.size) (o-ahB P k)=min (o+m-ahB P k) p.t.size:=by omega
  rw[A];generalize p.t.size=Z at*
  rw[<-d,bRh _ (by omega),show ahB P k+(o-ahB P k)=max o (ahB P k) by omega,show ahB P k+min (o+m-ahB P k) Z=min (o+m) (ahB P k+Z) by omega]
 rw[e];unfold bLh;rw[bNk h]
 by_cases q:ahB P k<=o
 ·rw[bNl _ (show min (o+m) (ahB P k)<=o by omega),show max o (ahB P k)=o by omega];exact YE (by rw[BC];exact Array.empty_append)
 ·rw[show max o (ahB P k)=min (o+m) (ahB P k) by omega,bO7 _ (by omega) (by omega)]
theorem bRj {P:List Prt} {o m k:Nat} (h:min (o+m) (iH (P.map Prt.t)).size<=ahB P k):bLh P o m k=(iH (P.map Prt.t)).extract o (min (o+m) (iH (P.map Prt.t)).size):=by
 have:=bMx P k;unfold bLh;rw[show min (o+m) (ahB P k)=min (o+m) (iH (P.map Prt.t)).size by omega]
theorem bO8 {P:List Prt} (d:jA (gU 0 P)) {o m:Nat} (hm:1<=m) (ho:o<(iH (P.map Prt.t)).size):
  ∃f e:Nat,yF (gU 0 P) (o:Int) (m:Int)=((f:Int),(e:Int))/\f<=e/\e<P.length/\ahB P f<=o/\min (o+m) (iH (P.map Prt.t)).size<=ahB P (e+1)/\(∀(k:Nat) (p:Prt),P[k]? =some p->f<=k->k<=e->o<ahB P k+p.t.size/\ahB P k<o+m):=by
 have R:lF (gU 0 P)=((iH (P.map Prt.t)).size:Int):=by rw[bNj,bMw]
 obtain⟨f,x,U,G,f2,D⟩:=bD4 d (off:=(o:Int)) (by omega) (by omega);obtain⟨J,hJ⟩:∃J:Nat,J+1=min (o+m) (iH (P.map Prt.t)).size:=⟨min (o+m) (iH (P.map Prt.t)).size-1,by omega⟩;obtain⟨e,y,I,g1,L,F⟩:=bD4 d (off:=(J:Int)) (by omega) (by omega);have M:=bRg d (f:=(o:Int)) (m:=(m:Int)) (by omega) (by omega) (by omega);rw[R,show min ((o:Int)+(m:Int)) ((iH (P.map Prt.t)).size:Int)-1=(J:Int) by omega,D,F] at M;have V:=bKl d (o:=(o:Int)) (p:=(J:Int)) (by omega) (by omega) (by omega);rw[D,F] at V;have A:=(eF.1 I).1;rw[NK] at A
 have Y:f<P.length:=by omega
 have Z:=bMo (aN Y);have hy:=bMo (aN A);obtain rfl:=cC (U.symm.trans Z);obtain rfl:=cC (I.symm.trans hy);have G:((ahB P f:Nat):Int)<=(o:Int):=G;have L:(J:Int)<((ahB P e:Nat):Int)+((P[e].t.size:Nat):Int):=L;have hn:=bNk (aN A);refine⟨f,e,M,by omega,A,by omega,by omega,fun k p hk a0 a1=>?_⟩;have O:=(bKm d (o:=(o:Int)) (p:=(J:Int)) (by omega) (by omega) (by omega) (bMo hk)).2 (by rw[D,F];omega);have h1:((ahB P k:Nat):Int)<=(J:Int):=O.1
 have h2:(o:Int)<((ahB P k:Nat):Int)+((p.t.size:Nat):Int):=O.2;omega
end
end Go.Proofs.YtfckbfofgeilgaaGreatDoor

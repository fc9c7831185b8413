/-
  Texts put together (part 29): the walks and the plain laws on which the statement stands.
-/
import Derived.Test.YtiifmcicleljjaaGreatDoorZ28
set_option maxRecDepth 100000
set_option maxHeartbeats 12800000
open ByteArray renaming size_append->aTx,size_extract->aTq
open Go renaming wpAnyH_ready->fL,wpAnyH_take->aQ
open Go.Act renaming put->aJ
open Go.AllReadyH renaming cons->fA,nil->fM
open Go.IntKind renaming i64->aI,u64->fU,wrap_i64->aM,wrap_u64->gF
open Go.RowKit.Below renaming refl->aB
open Go.World renaming block_lt_of_cell?->iO
open Int renaming toNat_of_nonneg->aC5
open List renaming append_assoc->cF,eq_nil_of_length_eq_zero->vK,getElem?_cons_succ->aS,getElem?_cons_zero->aP,getElem?_eq_getElem->aN,getElem?_toArray->aR,length_append->aL,length_nil->cX,length_set->mW,setIfInBounds_toArray->aK,set_cons_succ->aG,set_cons_zero->aH,take_of_length_le->cS
open Nat renaming le_refl->aA,le_trans->aW,zero_le->aU
open Option.some renaming inj->bW
open Or renaming inl->aT
open UInt8 renaming ofNat->eK
namespace Go.Proofs.YtiifmcicleljjaaGreatDoor
open Go.RowKit Go Go.Shelf
theorem s3B {P1 P2 P3:Prop} {B:Nat} {w0 w':World} (h:P1/\P2/\P3/\Below B w0 w'/\B<=w'.heap.size):Below B w0 w':=h.2.2.2.1
theorem wX {w1:World} {b1 o1 b2 o2 b3 o3:Nat} {v1 v2 v3:Value} {B:Nat} {w0:World} (h:w1.cell? ⟨b1,o1,none⟩=some v1/\w1.cell? ⟨b2,o2,none⟩=some v2/\w1.cell? ⟨b3,o3,none⟩=some v3/\Below B w0 w1/\B<=w1.heap.size) (k1:b1<B) (k2:b2<B) (k3:b3<B) (i:Nat) (v:Value):
  (w1.setCell ⟨B,i,none⟩ v).cell? ⟨b1,o1,none⟩=some v1/\(w1.setCell ⟨B,i,none⟩ v).cell? ⟨b2,o2,none⟩=some v2/\(w1.setCell ⟨B,i,none⟩ v).cell? ⟨b3,o3,none⟩=some v3/\Below B w0 (w1.setCell ⟨B,i,none⟩ v)/\B<=(w1.setCell ⟨B,i,none⟩ v).heap.size:=
 CX h ((aB B w1).setCell (p:=⟨B,i,none⟩) (aA _) v) k1 k2 k3
theorem aTs (s:ByteArray) (room:Int) (w:World) (hs:s.size<=100000) (hr1: -9223372036854775808<=room) (hr2:room<=9223372036854775807):
  Calls Tryz.prog 13 #[.string s,.int .i64 room] w fun e w'=>zQ w w' s room e:=by
 have HL:=hid (show s.data.toList.length=s.size by simp);have hA0:=Arr.new w 29 [.string ⟨#[]⟩,.int .i64 0];have hs0:(w.alloc (.cells #[.string ⟨#[]⟩,.int .i64 0] 29)).heap.size=w.heap.size+1:=by simp
 have hb0:Below w.heap.size w (w.alloc (.cells #[.string ⟨#[]⟩,.int .i64 0] 29)):=bD (aB _ _) _;change Arr (w.alloc (.cells #[.string ⟨#[]⟩,.int .i64 0] 29)) _ _ _ at hA0;have hd:eZ s room=if s.size=0\/room<1\/360<room then 1 else if room<((bC s.data.toList).length:Int) then 4 else 0:=rfl
 by_cases hbad:s.size=0\/room<1\/360<room
 ·rw[if_pos hbad] at hd;have HF:=hid hd;clear hd;have d0:=hA0.cell (i:=0) rfl;have d1:=hA0.cell (i:=1) rfl;have f0:=hA0.free 0;have f1:=hA0.free 1
  by_cases h1:s.size=0
  ·have u1:s.toList.isEmpty=true:=vA (vK (by rw[HL.out];exact h1));go_enter Tryz.func13,Tryz.ntmps13;go_wp2_with fail;exact bpE rfl hA0 rfl rfl rfl (vB HF.out (by decide) hb0)
  have u1:s.toList.isEmpty=false:=rY (by omega)
  by_cases h2:room<1
  ·have u2:decide (room<1)=true:=decide_eq_true h2;go_enter Tryz.func13,Tryz.ntmps13;go_wp2_with fail;exact bpE rfl hA0 rfl rfl rfl (vB HF.out (by decide) hb0)
  have u2:decide (room<1)=false:=decide_eq_false h2;have u3:decide (room>360)=true:=decide_eq_true (by omega);have u4:decide (360<room)=true:=decide_eq_true (by omega);go_enter Tryz.func13,Tryz.ntmps13;go_wp2_with fail;exact bpE rfl hA0 rfl rfl rfl (vB HF.out (by decide) hb0)
 rw[if_neg hbad] at hd;have u1:s.toList.isEmpty=false:=rY (by omega);have u2:decide (room<1)=false:=decide_eq_false (by omega);have u3:decide (room>360)=false:=decide_eq_false (by omega);have u4:decide (360<room)=false:=decide_eq_false (by omega);have hs1:0<s.size:=by omega
 have hpk:=fun W=>aKk s W (by omega)
 have hpl:=(oS s.data.toList.length s.data.toList (aA _)).1;rw[HL.out] at hpl;obtain⟨P,hP⟩:∃P,P=bC s.data.toList:=⟨_,rfl⟩;rw[<-hP] at hd hpk hpl;have HP:=hid hP;clear hP;go_enter Tryz.func13,Tryz.ntmps13;go_wp2_with fail;generalize w.alloc (.cells #[.string ⟨#[]⟩,.int .i64 0] 29)=w0 at*
 have hbz:w.heap.size<w0.heap.size:=by omega
 refine(hpk _).mono ?_;rintro e w1 ⟨rfl,hb1⟩;have hA:=hA0.below hb1 hbz;have hb:=hb0.trans (hb1.mono (by omega));have hs1:=hb1.size;clear hpk hb1 hA0 hb0
 by_cases hlong:room<(P.length:Int)
 ·rw[if_pos hlong] at hd;have HF:=hid hd;clear hd;have v1:decide ((P.length:Int)>room)=true:=decide_eq_true hlong;have v2:decide (room<(P.length:Int))=true:=decide_eq_true hlong;have d0:=hA.cell (i:=0) rfl;have d1:=hA.cell (i:=1) rfl;have f0:=hA.free 0;have f1:=hA.free 1;go_wp2_with fail;obtain⟨z0,z1⟩:=EL hA hb (.string ⟨#[]⟩) (.int .i64 0);exact bpE rfl z0 rfl rfl rfl (vB HF.out (by decide) z1)
 rw[if_neg hlong] at hd;have HF:=hid hd;clear hd;have v1:decide ((P.length:Int)>room)=false:=decide_eq_false hlong;have v2:decide (room<(P.length:Int))=false:=decide_eq_false hlong;have hP360:P.length<=360:=by omega
 go_wp2_with fail;refine(aN4 (mkS P) _ (by rw[cP];omega)).mono ?_;rintro e w2 ⟨v5,rfl,hr5,hb2,hO⟩;have hpn:=(oS s.data.toList.length s.data.toList (aA _)).2.1 (fun e=>by have:=HL.out;rw[e] at this;simp at this;omega);rw[<-HP.out] at hpn;have hO:=hO (by rw[cP];exact List.length_pos_iff.2 hpn);have HO:=hid (show fS (mkS (bC s.data.toList)) by rw[<-HP.out];exact hO);obtain⟨P',a,m,o,n,hI⟩:=BIn.of (t:=s) (by omega) (by rw[<-HP.out];omega) HO.out;obtain rfl:P'=P:=by rw[hI.hP,HP.out]
 rw[hI.hA,<-hI.ho,hI.hE,<-hI.hm] at*
 have HI:=hid hI;have hm0:=hI.m0;have hm361:=hI.m361;have hn2:=hI.n2;have hn258:=hI.n258;have ha256:=hI.a256;have ho16:=hI.o16;have hnn:(a.length:Int)+2=(n:Int):=by rw[hI.hn];omega
 have has:((mkS a).size:Int)+2=(n:Int):=by rw[cP];exact hnn
 have has2:(a.length:Int)+2=(n:Int):=hnn;obtain⟨a5,c5,rfl,_,_,_⟩:=hr5.open;have hA:=hA.below hb2 (by omega);have hb:=hb.trans (hb2.mono (by omega));have hs2:=hb2.size;clear hI hb2 hO;go_wp2_with fail;have hX:=Arr.new w2 50 [.string (mkS a),.int .i64 (o:Int),.slice a5 m.length c5];have hA:=hA.alloc (.cells #[.string (mkS a),.int .i64 (o:Int),.slice a5 m.length c5] 50);have hb:=hb.alloc (o:=.cells #[.string (mkS a),.int .i64 (o:Int),.slice a5 m.length c5] 50) (by omega);have hr5:=hr5.below (bD (aB w2.heap.size w2) (.cells #[.string (mkS a),.int .i64 (o:Int),.slice a5 m.length c5] 50))
 have hz3:(w2.alloc (.cells #[.string (mkS a),.int .i64 (o:Int),.slice a5 m.length c5] 50)).heap.size=w2.heap.size+1:=by simp
 change Arr (w2.alloc (.cells #[.string (mkS a),.int .i64 (o:Int),.slice a5 m.length c5] 50)) _ _ _ at hX;generalize w2.alloc (.cells #[.string (mkS a),.int .i64 (o:Int),.slice a5 m.length c5] 50)=w3 at*
 obtain⟨z7,hz7⟩:∃z7,z7=w2.heap.size:=⟨_,rfl⟩;rw[<-hz7] at hX hz3 hs2 ⊢;clear hz7;obtain⟨B3,hB3⟩:∃B3,w3.heap.size=B3:=⟨_,rfl⟩;have x0:=hX.cell (i:=0) rfl;have x1:=hX.cell (i:=1) rfl;have x2:=hX.cell (i:=2) rfl;have hz7B:z7<B3:=by omega
 have hS0:=kZ (B:=B3) (w0:=w3) ⟨x0,x1,x2,aB _ _,by omega⟩ (aB w3.heap.size w3).drew
 go_region_held3 (fun w'=>w'.cell? ⟨z7,0,none⟩=some (.string (mkS a))/\w'.cell? ⟨z7,1,none⟩=some (.int .i64 (o:Int))/\w'.cell? ⟨z7,2,none⟩=some (.slice a5 m.length c5)/\Below B3 w3 w'/\B3<=w'.heap.size)
  (first
   |with_reducible assumption
   |with_reducible exact kZ (by assumption) (by assumption))
  (first
   |(go_at_call 40;refine(aL5 (mkS a) (o:Int) (.slice a5 m.length c5) rfl _ (by rw[cP];omega)).mono ?_;rintro e w4 ⟨rfl,hb4⟩;rw[has])
   |(go_at_call 39;refine(aIh (.slice a5 m.length c5) m n _ (rdQ hr5 hB3 (by assumption)) hm0 (by omega) (by omega) hn258 HI.out.rng).mono ?_;rintro e w5 ⟨v9,v10,rfl,hL9,ho10,hb5⟩))
 have hS5:=(show w5.cell? ⟨z7,0,none⟩=some (.string (mkS a))/\w5.cell? ⟨z7,1,none⟩=some (.int .i64 (o:Int))/\w5.cell? ⟨z7,2,none⟩=some (.slice a5 m.length c5)/\Below B3 w3 w5/\B3<=w5.heap.size by assumption);obtain⟨x0,x1,x2,hb35,hs35⟩:=hS5;obtain⟨B,hB⟩:∃B,B=w5.heap.size:=⟨_,rfl⟩;have hzB:z7<B:=by omega
 have hwB:w.heap.size<B:=by omega
 have HC:=hid (fun W (h:Below B w5 W)=>show W.cell? ⟨z7,0,none⟩=some (.string (mkS a))/\W.cell? ⟨z7,1,none⟩=some (.int .i64 (o:Int))/\W.cell? ⟨z7,2,none⟩=some (.slice a5 m.length c5) from⟨(h.cell (p:=⟨z7,0,none⟩) hzB).trans x0,(h.cell (p:=⟨z7,1,none⟩) hzB).trans x1,(h.cell (p:=⟨z7,2,none⟩) hzB).trans x2⟩);have hA:=hA.below hb35 (by omega);have hb:=hb.trans (hb35.mono (by omega));have hr5:=hr5.below (hB3▸hb35);have hr10:=OwI.rd ho10;have HA:=hid (fun W (h:Below B w5 W)=>hA.below h hwB);have HB:=hid (fun W (h:Below B w5 W)=>hb.trans (h.mono (Nat.le_of_lt hwB)))
 have HR5:=hid (fun W (h:Below B w5 W)=>hr5.below (hB▸h));have HR10:=hid (fun W (h:Below B w5 W)=>hr10.below (hB▸h));have HL9:=hid (fun W (h:Below B w5 W)=>hL9.below (hB▸h));have hGl:=wJ m n;obtain⟨ac,cc,rfl,_,_,hA10⟩:=hr10.open;obtain⟨b10,o10,rfl,hb10,hc10⟩:=hA10 (by omega);obtain⟨at9,ct9,rfl,hn9,hm9,hA9⟩:=hL9.open;obtain⟨b9,o9,rfl,hb9,hc9⟩:=hA9 (by simp);obtain⟨y0,hy0,hry0⟩:=hc9 0 _ rfl;obtain⟨y1,hy1,hry1⟩:=hc9 1 _ rfl;obtain⟨T0,hT0⟩:∃T0,T0=dN m n 0:=⟨_,rfl⟩;obtain⟨T1,hT1⟩:∃T1,T1=dN m n 1:=⟨_,rfl⟩;rw[<-hT0] at hry0;rw[<-hT1] at hry1;have HT0:=hid hT0;have HT1:=hid hT1
 have HK0:=hid (show bL T0=0/\T0.length=n by rw[hT0];exact⟨HI.out.c0,HI.out.l0⟩);have HK1:=hid (show bL T1=0/\T1.length=n by rw[hT1];exact⟨HI.out.c1,HI.out.l1⟩);obtain⟨ay0,cy0,rfl,_,_,_⟩:=hry0.open;obtain⟨ay1,cy1,rfl,_,_,_⟩:=hry1.open;have HTB:=hid (fun W (h:Below B w5 W)=>show W.cell? ⟨b9,o9,none⟩=some (.slice ay0 T0.length cy0)/\W.cell? ⟨b9,o9+1,none⟩=some (.slice ay1 T1.length cy1)/\RdI W (.slice ay0 T0.length cy0) T0/\RdI W (.slice ay1 T1.length cy1) T1 from
  ⟨(h.cell (p:=⟨b9,o9,none⟩) (by rw[hB];exact hb9)).trans hy0,(h.cell (p:=⟨b9,o9+1,none⟩) (by rw[hB];exact hb9)).trans hy1,hry0.below (hB▸h),hry1.below (hB▸h)⟩)
 have HCH:=hid (fun W (h:Below B w5 W) i c (hi:(cT m n)[i]? =some c)=>show W.cell? ⟨b10,o10+i,none⟩=some (.int .i64 c) from(h.cell (p:=⟨b10,o10+i,none⟩) (by rw[hB];exact hb10)).trans (hc10 i c hi));clear hA10 hc10 hA9 hc9 hy0 hy1 hry0 hry1 hT0 hT1;have ho12:OwI w5 B (.slice none 0 0) (bI []):=OwI.nil _ _;have hbc:Below B w5 w5:=aB _ _;have hsc:B<=w5.heap.size:=by omega
 have hGb:(cT m n).length<=901:=by omega
 have hG0:0<(cT m n).length:=by omega
 have HCB:=hid (DE m n);have hZ:=(fG s.data.toList).isLt;obtain⟨Z,hZe⟩:∃Z,Z=(fG s.data.toList).toNat:=⟨_,rfl⟩;rw[<-hZe] at hZ;have hsum:=fun W=>WH s W (by omega)
 rw[<-hZe] at hsum;have HZ:=hid hZe;have hmg:∀W,Calls Tryz.prog 41 #[.int .u64 54156738319193,.int .i64 48] W fun e w'=>∃u,e=.returned u/\OwI w' W.heap.size u (bI (aY 54156738319193 48))/\Below W.heap.size W w':=fun W=>uF 54156738319193 48 W (by decide) (by decide)
 have hsm:=fun W=>uF Z 32 W (by omega) (by decide)
 have hog:=fun W=>uF o 16 W (by omega) (by decide)
 have htw:∀W,Calls Tryz.prog 41 #[.int .u64 2,.int .i64 3] W fun e w'=>∃u,e=.returned u/\OwI w' W.heap.size u (bI (aY 2 3))/\Below W.heap.size W w':=fun W=>uF 2 3 W (by decide) (by decide)
 obtain⟨G,hG⟩:∃G,G=(cT m n).length:=⟨_,rfl⟩;have hct:=fun W=>uF G 15 W (by omega) (by decide)
 have hmp:=fun W=>aJr (mkS a) W (by rw[cP];omega) (by rw[fW];exact HI.out.an)
 rw[fW] at hmp;have hmpl:=CD a;have hml:=fun W=>wV (fZ a) W (by omega)
 have e1:fU.wrap (Z:Int)=(Z:Int):=by rw[gF];omega
 have e2:(Z:Int)%18446744073709551616=(Z:Int):=by omega
 have e3:fU.wrap (o:Int)=(o:Int):=by rw[gF];omega
 have e4:(o:Int)%18446744073709551616=(o:Int):=by omega
 have e5:fU.wrap (G:Int)=(G:Int):=by rw[gF];omega
 have e6:(G:Int)%18446744073709551616=(G:Int):=by omega
 clear hS0 hb4 hb5 ho10 hL9 hr10 hr5 hA hb hb35 hX x0 x1 x2 hZe;rw[<-hG] at hGl hGb hG0 HR10 ⊢;have hsel:=fun W h=>aI3 (.slice (some ⟨b10,o10,none⟩) G cc) (cT m n) W h (by omega) HCB.out
 unfold eL at hsel;obtain⟨SL,hSL⟩:∃SL,SL=dE (dO (cT m n)):=⟨_,rfl⟩;have hSLl:SL.length<=2*901:=by
  rw[hSL];have:=wL (dO (cT m n)) 2 (yW HCB.out);rw[uU] at this;omega
 have hSLp:0<SL.length:=by rw[hSL];exact YQ (by rw[uU];omega)
 rw[<-hSL] at hsel;have HSL:=hid hSL;have hsl2:=fun W=>wV SL W (by omega)
 clear hSL;have HG:=hid hG;have HGL:=hid hGl;clear hG hGl;go_wp2_with fail;have hDl:([]:List Bool).length<=0:=aA _;refine(hmg _).mono ?_;rintro e w6 ⟨u6,rfl,ho6,hb6⟩;have ho12:=OwI.below ho12 hb6 (aA _);have hbc:=hbc.trans (hb6.mono hsc);have hsc:=aW hsc hb6.size;have hu:=OwI.rd ho6;clear ho6 hb6
 go_wp2_with (at_builtin;refine kG rfl _ _ rfl B _ _ (bI (aY 54156738319193 48)) rfl ho12 _ rfl hu (by rw[cN];rw[cY];decide) ?_ ?_ ?_;(rw[cN,cN];rw[cY];omega);(exact hsc);intro v12 w7 r1 r2 r3 r4;obtain⟨q0,q1,q2⟩:=HC.out _ (hbc.trans r2));have ho12:OwI w7 B v12 (bI ([]++aY 54156738319193 48)):=by rw[gB];exact r1
 have hbc:=hbc.trans r2;have hsc:=aW hsc r2.size;obtain⟨D1,hDn⟩:∃D,D=[]++aY 54156738319193 48:=⟨_,rfl⟩;have hDl:D1.length<=48:=by rw[hDn,aL];rw[cY];(try simp only[cX]);omega
 rw[<-hDn] at ho12;have HD1:=hid hDn;clear hDn r1 r2 r3 r4 hu;refine(hsum _).mono ?_;rintro e w6 ⟨rfl,rfl⟩;go_wp2_with fail;refine(hsm _).mono ?_;rintro e w6 ⟨u6,rfl,ho6,hb6⟩;have ho12:=OwI.below ho12 hb6 (aA _);have hbc:=hbc.trans (hb6.mono hsc);have hsc:=aW hsc hb6.size;have hu:=OwI.rd ho6;clear ho6 hb6;go_wp2_with (at_builtin;refine kG rfl _ _ rfl B _ _ (bI (aY Z 32)) rfl ho12 _ rfl hu (by rw[cN];rw[cY];decide) ?_ ?_ ?_;(rw[cN,cN];rw[cY];omega);(exact hsc);intro v12 w7 r1 r2 r3 r4;obtain⟨q0,q1,q2⟩:=HC.out _ (hbc.trans r2))
 have ho12:OwI w7 B v12 (bI (D1++aY Z 32)):=by rw[gB];exact r1
 have hbc:=hbc.trans r2;have hsc:=aW hsc r2.size;obtain⟨D2,hDn⟩:∃D,D=D1++aY Z 32:=⟨_,rfl⟩;have hDl:D2.length<=80:=by rw[hDn,aL];rw[cY];(try simp only[cX]);omega
 rw[<-hDn] at ho12;have HD2:=hid hDn;clear hDn r1 r2 r3 r4 hu;refine(hog _).mono ?_;rintro e w6 ⟨u6,rfl,ho6,hb6⟩;have ho12:=OwI.below ho12 hb6 (aA _);have hbc:=hbc.trans (hb6.mono hsc);have hsc:=aW hsc hb6.size;have hu:=OwI.rd ho6;clear ho6 hb6;go_wp2_with (at_builtin;refine kG rfl _ _ rfl B _ _ (bI (aY o 16)) rfl ho12 _ rfl hu (by rw[cN];rw[cY];decide) ?_ ?_ ?_;(rw[cN,cN];rw[cY];omega);(exact hsc);intro v12 w7 r1 r2 r3 r4;obtain⟨q0,q1,q2⟩:=HC.out _ (hbc.trans r2))
 have ho12:OwI w7 B v12 (bI (D2++aY o 16)):=by rw[gB];exact r1
 have hbc:=hbc.trans r2;have hsc:=aW hsc r2.size;obtain⟨D3,hDn⟩:∃D,D=D2++aY o 16:=⟨_,rfl⟩;have hDl:D3.length<=96:=by rw[hDn,aL];rw[cY];(try simp only[cX]);omega
 rw[<-hDn] at ho12;have HD3:=hid hDn;clear hDn r1 r2 r3 r4 hu;refine(hmp _).mono ?_;rintro e w6 ⟨rfl,hb6⟩;have ho12:=OwI.below ho12 hb6 (aA _);have hbc:=hbc.trans (hb6.mono hsc);have hsc:=aW hsc hb6.size;clear hb6;go_wp2_with fail;refine(hml _).mono ?_;rintro e w6 ⟨u6,rfl,hu,hb6⟩;have ho12:=OwI.below ho12 hb6 (aA _);have hbc:=hbc.trans (hb6.mono hsc);have hsc:=aW hsc hb6.size;clear hb6
 go_wp2_with (at_builtin;refine kG rfl _ _ rfl B _ _ (bI (fZ a)) rfl ho12 _ rfl hu (by rw[cN];exact aOr a) ?_ ?_ ?_;(rw[cN,cN];skip;omega);(exact hsc);intro v12 w7 r1 r2 r3 r4;obtain⟨q0,q1,q2⟩:=HC.out _ (hbc.trans r2));have ho12:OwI w7 B v12 (bI (D3++fZ a)):=by rw[gB];exact r1
 have hbc:=hbc.trans r2;have hsc:=aW hsc r2.size;obtain⟨D4,hDn⟩:∃D,D=D3++fZ a:=⟨_,rfl⟩;have hDl:D4.length<=400:=by rw[hDn,aL];skip;(try simp only[cX]);omega
 rw[<-hDn] at ho12;have HD4:=hid hDn;clear hDn r1 r2 r3 r4 hu;refine(htw _).mono ?_;rintro e w6 ⟨u6,rfl,ho6,hb6⟩;have ho12:=OwI.below ho12 hb6 (aA _);have hbc:=hbc.trans (hb6.mono hsc);have hsc:=aW hsc hb6.size;have hu:=OwI.rd ho6;clear ho6 hb6;go_wp2_with (at_builtin;refine kG rfl _ _ rfl B _ _ (bI (aY 2 3)) rfl ho12 _ rfl hu (by rw[cN];rw[cY];decide) ?_ ?_ ?_;(rw[cN,cN];rw[cY];omega);(exact hsc);intro v12 w7 r1 r2 r3 r4;obtain⟨q0,q1,q2⟩:=HC.out _ (hbc.trans r2))
 have ho12:OwI w7 B v12 (bI (D4++aY 2 3)):=by rw[gB];exact r1
 have hbc:=hbc.trans r2;have hsc:=aW hsc r2.size;obtain⟨D5,hDn⟩:∃D,D=D4++aY 2 3:=⟨_,rfl⟩;have hDl:D5.length<=403:=by rw[hDn,aL];rw[cY];(try simp only[cX]);omega
 rw[<-hDn] at ho12;have HD5:=hid hDn;clear hDn r1 r2 r3 r4 hu;refine(hct _).mono ?_;rintro e w6 ⟨u6,rfl,ho6,hb6⟩;have ho12:=OwI.below ho12 hb6 (aA _);have hbc:=hbc.trans (hb6.mono hsc);have hsc:=aW hsc hb6.size;have hu:=OwI.rd ho6;clear ho6 hb6;go_wp2_with (at_builtin;refine kG rfl _ _ rfl B _ _ (bI (aY G 15)) rfl ho12 _ rfl hu (by rw[cN];rw[cY];decide) ?_ ?_ ?_;(rw[cN,cN];rw[cY];omega);(exact hsc);intro v12 w7 r1 r2 r3 r4;obtain⟨q0,q1,q2⟩:=HC.out _ (hbc.trans r2))
 have ho12:OwI w7 B v12 (bI (D5++aY G 15)):=by rw[gB];exact r1
 have hbc:=hbc.trans r2;have hsc:=aW hsc r2.size;obtain⟨D6,hDn⟩:∃D,D=D5++aY G 15:=⟨_,rfl⟩;have hDl:D6.length<=418:=by rw[hDn,aL];rw[cY];(try simp only[cX]);omega
 rw[<-hDn] at ho12;have HD6:=hid hDn;clear hDn r1 r2 r3 r4 hu;refine(hsel _ (HR10.out _ hbc)).mono ?_;rintro e w6 ⟨rfl,hb6⟩;have ho12:=OwI.below ho12 hb6 (aA _);have hbc:=hbc.trans (hb6.mono hsc);have hsc:=aW hsc hb6.size;clear hb6;have ho12:=OwI.alloc ho12 (.cells #[.string (mkS (aD (SL))),.int .i64 ((SL).length:Int)] 29);have hbc:=hbc.alloc (o:=.cells #[.string (mkS (aD (SL))),.int .i64 ((SL).length:Int)] 29) hsc;have hsc:B<=(World.alloc w6 (.cells #[.string (mkS (aD (SL))),.int .i64 ((SL).length:Int)] 29)).heap.size:=aW hsc (by simp);go_wp2_with fail
 refine(hsl2 _).mono ?_;rintro e w8 ⟨u6,rfl,hu,hb6⟩;have ho12:=OwI.below ho12 hb6 (aA _);have hbc:=hbc.trans (hb6.mono hsc);have hsc:=aW hsc hb6.size;clear hb6;go_wp2_with (at_builtin;refine kG rfl _ _ rfl B _ _ (bI (SL)) rfl ho12 _ rfl hu (by rw[cN];exact hSLp) ?_ ?_ ?_;(rw[cN,cN];skip;omega);(exact hsc);intro v12 w7 r1 r2 r3 r4;obtain⟨q0,q1,q2⟩:=HC.out _ (hbc.trans r2));have ho12:OwI w7 B v12 (bI (D6++SL)):=by rw[gB];exact r1
 have hbc:=hbc.trans r2;have hsc:=aW hsc r2.size;obtain⟨D7,hDn⟩:∃D,D=D6++SL:=⟨_,rfl⟩;have hDl:D7.length<=2300:=by rw[hDn,aL];skip;(try simp only[cX]);omega
 rw[<-hDn] at ho12;have HD7:=hid hDn;clear hDn r1 r2 r3 r4 hu
 go_loopg [12,15,16,17] 2 (fun g s12 s15 _s16 _s17 wr=>∃(k:Nat) (v:Value) (D:List Bool),k<=2/\g=2-k/\v=s12/\s15=.int .i64 (k:Int)/\Hid (D=D7++(([T0,T1].take k).map dW).flatten)/\D.length<=2300+k*10067/\OwI wr B v (bI D)/\Below B w5 wr/\B<=wr.heap.size)
 case atStart=>exact⟨0,_,D7,aU _,rfl,rfl,rfl,hid (by simp),by omega,ho12,hbc,hsc⟩
 case round=>
  clear ho12 hbc hsc q0 q1 q2 hDl;obtain⟨k,v12,D,hk,hg,rfl,rfl,HD,hDl,ho12,hbc,hsc⟩:=hrel;have HGG:=hid hg;clear hg
  by_cases hk0:k=0
  ·subst hk0;obtain⟨t0,t1,t2,t3⟩:=HTB.out _ hbc;have hpu:=TR (.slice ay0 T0.length cy0) T0 wr t2 (eH HK0.out.1).1;unfold eL at hpu;have hdl:=wW (eH HK0.out.1).1;have hdp:=YT T0;obtain⟨X,hX⟩:∃X,X=dW T0:=⟨_,rfl⟩;rw[<-hX] at hpu hdl hdp;have HX:=hid hX;have hls:=fun W=>wV X W (by omega)
   clear hX t2 t3;go_wp2_with fail;refine hpu.mono ?_;rintro e w6 ⟨rfl,hb6⟩;have ho12:=OwI.below ho12 hb6 (aA _);have hbc:=hbc.trans (hb6.mono hsc);have hsc:=aW hsc hb6.size;clear hpu hb6 t0 t1;have ho12:=OwI.alloc ho12 (.cells #[.string (mkS (aD (X))),.int .i64 ((X).length:Int)] 29);have hbc:=hbc.alloc (o:=.cells #[.string (mkS (aD (X))),.int .i64 ((X).length:Int)] 29) hsc;have hsc:B<=(World.alloc w6 (.cells #[.string (mkS (aD (X))),.int .i64 ((X).length:Int)] 29)).heap.size:=aW hsc (by simp);go_wp2_with fail;refine(hls _).mono ?_
   rintro e w8 ⟨u6,rfl,hu,hb6⟩;have ho12:=OwI.below ho12 hb6 (aA _);have hbc:=hbc.trans (hb6.mono hsc);have hsc:=aW hsc hb6.size;clear hb6;go_wp2_with (at_builtin;refine kG rfl _ _ rfl B _ _ (bI X) rfl ho12 _ rfl hu (by rw[cN];exact hdp) ?_ ?_ ?_;(rw[cN,cN];omega);(exact hsc);intro v13 w9 r1 r2 r3 r4);have hg:=HGG.out
   go_roundg (2-(0+1))
   case measure=>omega
   case rel=>exact⟨0+1,_,D++X,by omega,rfl,rfl,by first|rfl|go_num,hid (by rw[HD.out,HX.out];simp),by rw[aL];omega,by rw[gB];exact r1,hbc.trans r2,aW hsc r2.size⟩
  by_cases hk1:k=1
  ·subst hk1;obtain⟨t0,t1,t2,t3⟩:=HTB.out _ hbc;have hpu:=TR (.slice ay1 T1.length cy1) T1 wr t3 (eH HK1.out.1).1;unfold eL at hpu;have hdl:=wW (eH HK1.out.1).1;have hdp:=YT T1;obtain⟨X,hX⟩:∃X,X=dW T1:=⟨_,rfl⟩;rw[<-hX] at hpu hdl hdp;have HX:=hid hX;have hls:=fun W=>wV X W (by omega)
   clear hX t2 t3;go_wp2_with fail;refine hpu.mono ?_;rintro e w6 ⟨rfl,hb6⟩;have ho12:=OwI.below ho12 hb6 (aA _);have hbc:=hbc.trans (hb6.mono hsc);have hsc:=aW hsc hb6.size;clear hpu hb6 t0 t1;have ho12:=OwI.alloc ho12 (.cells #[.string (mkS (aD (X))),.int .i64 ((X).length:Int)] 29);have hbc:=hbc.alloc (o:=.cells #[.string (mkS (aD (X))),.int .i64 ((X).length:Int)] 29) hsc;have hsc:B<=(World.alloc w6 (.cells #[.string (mkS (aD (X))),.int .i64 ((X).length:Int)] 29)).heap.size:=aW hsc (by simp);go_wp2_with fail;refine(hls _).mono ?_
   rintro e w8 ⟨u6,rfl,hu,hb6⟩;have ho12:=OwI.below ho12 hb6 (aA _);have hbc:=hbc.trans (hb6.mono hsc);have hsc:=aW hsc hb6.size;clear hb6;go_wp2_with (at_builtin;refine kG rfl _ _ rfl B _ _ (bI X) rfl ho12 _ rfl hu (by rw[cN];exact hdp) ?_ ?_ ?_;(rw[cN,cN];omega);(exact hsc);intro v13 w9 r1 r2 r3 r4);have hg:=HGG.out
   go_roundg (2-(1+1))
   case measure=>omega
   case rel=>exact⟨1+1,_,D++X,by omega,rfl,rfl,by first|rfl|go_num,hid (by rw[HD.out,HX.out];simp),by rw[aL];omega,by rw[gB];exact r1,hbc.trans r2,aW hsc r2.size⟩
  obtain rfl:k=2:=by omega
  have hgr:=TB (.slice a5 m.length c5) m wr w5 (HR5.out _ hbc) (HR5.out _ (aB _ _)) (by omega);obtain⟨q0,q1,q2⟩:=HC.out _ hbc;go_wp2_with fail;refine hgr.mono ?_;rintro e w10 ⟨v18,xs,rfl,ho18,hx18,hb10'⟩;have ho18:=Ow.base ho18 hsc;have ho12:=OwI.below ho12 hb10' (aA _);have hbc:=hbc.trans (hb10'.mono hsc);have hsc:=aW hsc hb10'.size;clear hgr q0 q1 q2 hb10' hsum hmg hsm hog htw hct hmp hmpl hml e1 e2 e3 e4 e5 e6 hsel hsl2 hZ hSLl hSLp v1 v2 u1 u2 u3 u4 hm361 ho16 hnn has has2 hz3 hB3 hs35 hz7B hs0 hbz hr1 hr2 hbad hs
  have hxl:xs.length=G:=by rw[hx18.1,iD];exact HGL.out.symm
  have HX18:=hid hx18;clear hx18;obtain⟨b18,o18,c18,rfl⟩:=Ow.openN ho18 (by omega);rw[hxl] at ho18;rw[hxl];have HXL:=hid hxl;have hD8:D=D7++(dW T0++dW T1):=by rw[HD.out];simp
  have HD8:=hid hD8;clear hD8 hxl;go_wp2_with fail
  go_loopg [12,19,20,21] G (fun g s12 s19 _s20 _s21 wr=>∃(i:Nat) (v:Value) (E:List Bool),i<=G/\g=G-i/\v=s12/\s19=.int .i64 (i:Int)/\Hid (E=D++gP T0 T1 ((cT m n).take i) ((cK m).take i))/\E.length<=22500+i*200/\OwI wr B v (bI E)/\Ow wr B 27 (.slice (some ⟨b18,o18,none⟩) G c18) xs/\Below B w5 wr/\B<=wr.heap.size)
  case atStart=>exact⟨0,_,D,aU _,rfl,rfl,rfl,hid (by simp[gP]),by omega,ho12,ho18,hbc,hsc⟩
  case round=>
   clear ho12 ho18 hbc hsc hDl;obtain⟨i,v12,E,hi,hg,rfl,rfl,HE,hEl,ho12,ho18,hbc,hsc⟩:=hrel;have HGG2:=hid hg;clear hg
   by_cases hlt:i<G
   ·have w1':decide ((i:Int)<(G:Int))=true:=decide_eq_true (by omega);obtain⟨g,hg⟩:∃g,(cK m)[i]? =some g:=⟨_,aN (by rw[iD,<-HGL.out];exact hlt)⟩;obtain⟨x,hx⟩:∃x,xs[i]? =some x:=⟨_,aN (by rw[HXL.out];exact hlt)⟩;have hgx:=HX18.out.2 i x g hx hg;have hxc:=ho18.cellAt hx;obtain⟨hgm,hg10⟩:=DK hg;have hg0:0<g.length:=by
     rw[wH m i (by rw[<-HGL.out];exact hlt)] at hg;rw[<-bW hg,List.length_take,List.length_drop];have:=HGL.out;omega
    obtain⟨ax,cx,rfl,_,_,_⟩:=hgx.open;have hcg:=aOs (n:=n) hg;rw[<-HT0.out,<-HT1.out] at hcg;have hcell:=HCH.out _ hbc i _ hcg;have hcb:=HCB.out _ (List.mem_of_getElem? hcg);clear hx;rcases hcb with hcc|hcc
    ·skip
     rw[hcc] at hcell;have hpu:=TO (.slice ay0 T0.length cy0) (.slice ax g.length cx) T0 g;have hpu:=fun W a b=>hpu W a b HK0.out.1 (by rw[HK0.out.2];exact fun x hx=>HI.out.rng x (hgm x hx)) (by omega)
     unfold eL at hpu;have hcl:=rR (eH HK0.out.1).1 g (by rw[HK0.out.2];exact fun x hx=>HI.out.rng x (hgm x hx));have hcp:=YS (eH HK0.out.1).1 (by rw[HK0.out.2];exact fun x hx=>HI.out.rng x (hgm x hx)) hg0;obtain⟨X,hX⟩:∃X,X=eR T0 g:=⟨_,rfl⟩;have hcx:gP T0 T1 ((cT m n).take (i+1)) ((cK m).take (i+1))=gP T0 T1 ((cT m n).take i) ((cK m).take i)++X:=by
      rw[MH hcg hg,hcc,hX];rfl
     rw[<-hX] at hpu hcl hcp;have HX:=hid hcx;have hls:=fun W=>wV X W (by omega)
     have HPU:=hid hpu;have HTB2:=hid (fun W (h:Below B w5 W)=>(HTB.out W h));clear hX hcx hpu hcc hcg hg hgm;go_upto_region 26 with fail
     go_cut [20] (fun c20 wx=>∃z,c20=.pointer (some ⟨z,0,none⟩)/\Arr wx z 29 [.string (mkS (aD X)),.int .i64 (X.length:Int)]/\Below wr.heap.size wr wx)
     case first=>
      obtain⟨t0,t1,t2,t3⟩:=HTB.out _ hbc;have hS0:=kZ (B:=wr.heap.size) (w0:=wr) ⟨hcell,t0,hxc,aB _ _,aA _⟩ (aB wr.heap.size wr).drew;have hb18:b18<wr.heap.size:=iO wr _ hxc;have hb10r:b10<wr.heap.size:=by omega
      have hb9r:b9<wr.heap.size:=by omega
      have hput:=fun W (h:Below wr.heap.size wr W)=>HPU.out W (t2.below h) ((hgx.below (hB▸hbc)).below h)
      clear t2 t3 t1;clear hgx hbc hg0 hg10 hcl hcp hcell t0 hxc
      set_option maxHeartbeats 800000 in
      go_region_held3 (fun w'=>w'.cell? ⟨b10,o10+i,none⟩=some (.int .i64 0)/\w'.cell? ⟨b9,o9,none⟩=some (.slice ay0 T0.length cy0)/\w'.cell? ⟨b18,o18+i,none⟩=some (.slice ax g.length cx)/\Below wr.heap.size wr w'/\wr.heap.size<=w'.heap.size)
       (first
        |with_reducible assumption
        |with_reducible exact kZ (by assumption) (by assumption)
        |with_reducible exact kZ (by assumption) (bD (aB _ _) _)
        |with_reducible exact CX (by assumption) (EJ (by assumption)) hb10r hb9r hb18
        |with_reducible exact wX (by assumption) hb10r hb9r hb18 _ _
        |with_reducible exact wX (wX (by assumption) hb10r hb9r hb18 _ _) hb10r hb9r hb18 _ _)
       (first
        |(go_at_call 48;(refine(hput _ (s3B (by assumption))).mono ?_;rintro e w11 ⟨rfl,hb11⟩;first|(have hs11:wr.heap.size<=w11.heap.size:=hb11.size)|(have hN:Arr w11 wr.heap.size 29 [.string ⟨#[]⟩,.int .i64 0]:=Arr.below (w:=(wr.alloc (.cells #[.string ⟨#[]⟩,.int .i64 0] 29)).drew) (Arr.new wr 29 [.string ⟨#[]⟩,.int .i64 0]) hb11 (by show wr.heap.size<(wr.alloc _).heap.size;simp);have n0:=hN.cell (i:=0) rfl;have n1:=hN.cell (i:=1) rfl;have g0:=hN.free 0;have g1:=hN.free 1))))
      all_goals
       go_wp2_with fail;go_meet
       first
        |exact⟨_,rfl,(hN.set 0 _).set 1 _,s3B (by assumption)⟩
        |exact⟨_,rfl,Arr.new w11 29 [.string (mkS (aD X)),.int .i64 (X.length:Int)],s3B (by assumption)⟩
     case rest=>
      obtain⟨z,rfl,hZ,hbz⟩:=hcut;have ho12:=OwI.below ho12 hbz (aA _);have ho18:=ho18.below hbz (aA _);have hbc:=hbc.trans (hbz.mono hsc);have hsc:=aW hsc hbz.size;have z0:=hZ.cell (i:=0) rfl;have z1:=hZ.cell (i:=1) rfl;clear hbz hcell hxc hgx;go_wp2_with fail;refine(hls _).mono ?_;rintro e w13 ⟨u6,rfl,hu,hb6⟩;have ho12:=OwI.below ho12 hb6 (aA _);have ho18:=ho18.below hb6 (aA _);have hbc:=hbc.trans (hb6.mono hsc);have hsc:=aW hsc hb6.size;clear hb6 z0 z1 hZ
      go_wp2_with (at_builtin;refine kG rfl _ _ rfl B _ _ (bI X) rfl ho12 _ rfl hu (by rw[cN];exact hcp) ?_ ?_ ?_;(rw[cN,cN];omega);(exact hsc);intro v13 w14 r1 r2 r3 r4);have r3':w13.grownBy w14 v12.ownBlock:=r3;have hg:=HGG2.out
      go_roundg (G-(i+1))
      case measure=>omega
      case rel=>exact⟨i+1,_,E++X,by omega,rfl,rfl,by go_num,hid (by rw[HX.out,HE.out,cF]),by rw[aL];omega,by rw[gB];exact r1,ho18.kept r3' (qO ho18 ho12 (by decide)),hbc.trans r2,aW hsc r2.size⟩
    ·skip
     rw[hcc] at hcell;have hpu:=TO (.slice ay1 T1.length cy1) (.slice ax g.length cx) T1 g;have hpu:=fun W a b=>hpu W a b HK1.out.1 (by rw[HK1.out.2];exact fun x hx=>HI.out.rng x (hgm x hx)) (by omega)
     unfold eL at hpu;have hcl:=rR (eH HK1.out.1).1 g (by rw[HK1.out.2];exact fun x hx=>HI.out.rng x (hgm x hx));have hcp:=YS (eH HK1.out.1).1 (by rw[HK1.out.2];exact fun x hx=>HI.out.rng x (hgm x hx)) hg0;obtain⟨X,hX⟩:∃X,X=eR T1 g:=⟨_,rfl⟩;have hcx:gP T0 T1 ((cT m n).take (i+1)) ((cK m).take (i+1))=gP T0 T1 ((cT m n).take i) ((cK m).take i)++X:=by
      rw[MH hcg hg,hcc,hX];rfl
     rw[<-hX] at hpu hcl hcp;have HX:=hid hcx;have hls:=fun W=>wV X W (by omega)
     have HPU:=hid hpu;have HTB2:=hid (fun W (h:Below B w5 W)=>(HTB.out W h));clear hX hcx hpu hcc hcg hg hgm;go_upto_region 26 with fail
     go_cut [20] (fun c20 wx=>∃z,c20=.pointer (some ⟨z,0,none⟩)/\Arr wx z 29 [.string (mkS (aD X)),.int .i64 (X.length:Int)]/\Below wr.heap.size wr wx)
     case first=>
      obtain⟨t0,t1,t2,t3⟩:=HTB.out _ hbc;have hS0:=kZ (B:=wr.heap.size) (w0:=wr) ⟨hcell,t1,hxc,aB _ _,aA _⟩ (aB wr.heap.size wr).drew;have hb18:b18<wr.heap.size:=iO wr _ hxc;have hb10r:b10<wr.heap.size:=by omega
      have hb9r:b9<wr.heap.size:=by omega
      have hput:=fun W (h:Below wr.heap.size wr W)=>HPU.out W (t3.below h) ((hgx.below (hB▸hbc)).below h)
      clear t2 t3 t0;clear hgx hbc hg0 hg10 hcl hcp hcell t1 hxc
      set_option maxHeartbeats 800000 in
      go_region_held3 (fun w'=>w'.cell? ⟨b10,o10+i,none⟩=some (.int .i64 1)/\w'.cell? ⟨b9,o9+1,none⟩=some (.slice ay1 T1.length cy1)/\w'.cell? ⟨b18,o18+i,none⟩=some (.slice ax g.length cx)/\Below wr.heap.size wr w'/\wr.heap.size<=w'.heap.size)
       (first
        |with_reducible assumption
        |with_reducible exact kZ (by assumption) (by assumption)
        |with_reducible exact kZ (by assumption) (bD (aB _ _) _)
        |with_reducible exact CX (by assumption) (EJ (by assumption)) hb10r hb9r hb18
        |with_reducible exact wX (by assumption) hb10r hb9r hb18 _ _
        |with_reducible exact wX (wX (by assumption) hb10r hb9r hb18 _ _) hb10r hb9r hb18 _ _)
       (first
        |(go_at_call 48;(refine(hput _ (s3B (by assumption))).mono ?_;rintro e w11 ⟨rfl,hb11⟩;first|(have hs11:wr.heap.size<=w11.heap.size:=hb11.size)|(have hN:Arr w11 wr.heap.size 29 [.string ⟨#[]⟩,.int .i64 0]:=Arr.below (w:=(wr.alloc (.cells #[.string ⟨#[]⟩,.int .i64 0] 29)).drew) (Arr.new wr 29 [.string ⟨#[]⟩,.int .i64 0]) hb11 (by show wr.heap.size<(wr.alloc _).heap.size;simp);have n0:=hN.cell (i:=0) rfl;have n1:=hN.cell (i:=1) rfl;have g0:=hN.free 0;have g1:=hN.free 1))))
      all_goals
       go_wp2_with fail;go_meet
       first
        |exact⟨_,rfl,(hN.set 0 _).set 1 _,s3B (by assumption)⟩
        |exact⟨_,rfl,Arr.new w11 29 [.string (mkS (aD X)),.int .i64 (X.length:Int)],s3B (by assumption)⟩
     case rest=>
      obtain⟨z,rfl,hZ,hbz⟩:=hcut;have ho12:=OwI.below ho12 hbz (aA _);have ho18:=ho18.below hbz (aA _);have hbc:=hbc.trans (hbz.mono hsc);have hsc:=aW hsc hbz.size;have z0:=hZ.cell (i:=0) rfl;have z1:=hZ.cell (i:=1) rfl;clear hbz hcell hxc hgx;go_wp2_with fail;refine(hls _).mono ?_;rintro e w13 ⟨u6,rfl,hu,hb6⟩;have ho12:=OwI.below ho12 hb6 (aA _);have ho18:=ho18.below hb6 (aA _);have hbc:=hbc.trans (hb6.mono hsc);have hsc:=aW hsc hb6.size;clear hb6 z0 z1 hZ
      go_wp2_with (at_builtin;refine kG rfl _ _ rfl B _ _ (bI X) rfl ho12 _ rfl hu (by rw[cN];exact hcp) ?_ ?_ ?_;(rw[cN,cN];omega);(exact hsc);intro v13 w14 r1 r2 r3 r4);have r3':w13.grownBy w14 v12.ownBlock:=r3;have hg:=HGG2.out
      go_roundg (G-(i+1))
      case measure=>omega
      case rel=>exact⟨i+1,_,E++X,by omega,rfl,rfl,by go_num,hid (by rw[HX.out,HE.out,cF]),by rw[aL];omega,by rw[gB];exact r1,ho18.kept r3' (qO ho18 ho12 (by decide)),hbc.trans r2,aW hsc r2.size⟩
   ·have w1':decide ((i:Int)<(G:Int))=false:=decide_eq_false (by omega);have hie:i=G:=by omega
    have hA9':=HA.out _ hbc;have hB9':=HB.out _ hbc;have hBlk:=HI.out.blk;have hEq:E=cB s:=by
     rw[hBlk,HE.out,hie,cS (by rw[<-HG.out];exact aA _),cS (by rw[iD,<-HGL.out];exact aA _),HD8.out,HD7.out,HD6.out,HD5.out,HD4.out,HD3.out,HD2.out,HD1.out,HSL.out,HZ.out,<-HG.out,<-HT0.out,<-HT1.out];simp only[List.nil_append,cF]
    have HEQ:=hid hEq;clear hEq hBlk hie;go_wp2_with fail;refine(uG _ E _ (OwI.rd ho12) (by omega)).mono ?_;rintro e w20 ⟨rfl,hb20⟩;have hA20:=hA9'.below hb20 (by omega);have hB20:=hB9'.trans (hb20.mono (by omega));have d0:=hA20.cell (i:=0) rfl;have d1:=hA20.cell (i:=1) rfl;have f0:=hA20.free 0;have f1:=hA20.free 1;clear hb20 ho12 ho18 hA9' hB9';go_wp2_with fail;obtain⟨z0,z1⟩:=EL hA20 hB20 (.string (mkS (aD E))) (.int .i64 (E.length:Int));refine bpE rfl z0 rfl rfl rfl ⟨?_,z1,fun _=>HO.out⟩;have hBL:mP s room=E:=by unfold mP;rw[if_pos HF.out,HEQ.out]
    rw[hBL,HF.out];rfl
theorem aTw {x:Int} (c:Nat) (hc:0<c) (h1: -9223372036854775808<=x) (h2:x<=9223372036854775807): -9223372036854775808<=x.tdiv c/\x.tdiv c<=9223372036854775807:=by
 rcases Int.lt_or_le x 0 with h|h
 ·have e:x.tdiv c= -((-x).tdiv c):=by rw[Int.neg_tdiv,Int.neg_neg]
  have k1:=Int.tdiv_nonneg (a:= -x) (b:=(c:Int)) (by omega) (by omega);have k2:=Int.tdiv_le_self (a:= -x) (c:Int) (by omega);omega
 ·have k1:=Int.tdiv_nonneg (a:=x) (b:=(c:Int)) (by omega) (by omega);have k2:=Int.tdiv_le_self (a:=x) (c:Int) (by omega);omega
theorem aTy {x:Int} (c:Nat) (hc:0<c) (h1: -9223372036854775808<=x) (h2:x<=9223372036854775807):aI.wrap (x.tdiv c)=x.tdiv c:=by
 have:=aTw c hc h1 h2;rw[aM];omega
theorem aTz (q:Nat) (hq:q<256) (W:World):(convert 45 9 (.slice (some ⟨W.heap.size,0,none⟩) 1 1)).run Tryz.prog (W.alloc (.cells #[.int .u8 (q:Int)] 5))=.ok (.string (mkS [eK q])) (W.alloc (.cells #[.int .u8 (q:Int)] 5)):=by
 have:=aN3 (eK q) W;rw[aPv hq] at this;exact this
theorem aT0 (a:ByteArray) (which x:Int) (w:World) (ha:a.size<=100000) (hw1: -9223372036854775808<=which) (hw2:which<=9223372036854775807) (hx1: -9223372036854775808<=x) (hx2:x<=9223372036854775807):
  Calls Tryz.prog 14 #[.string a,.int .i64 which,.int .i64 x] w fun e w'=>∃t:ByteArray,e=.returned (.string t)/\t.size<=a.size/\Below w.heap.size w w':=by
 have HL:=hid (show a.data.toList.length=a.size by simp)
 by_cases h0:a.size=0
 ·have u1:a.toList.isEmpty=true:=vA (vK (by rw[HL.out];exact h0));have HZ:=hid h0;clear h0;go_enter Tryz.func14,Tryz.ntmps14;go_wp2_with fail;go_ret;exact⟨a,rfl,aA _,aB _ _⟩
 have u1:a.toList.isEmpty=false:=rY (by omega);have m1:aI.wrap (8*(a.size:Int))=8*(a.size:Int):=by rw[aM];omega
 have hk:=ZT x (8*(a.size:Int)) w hx1 hx2 (by omega) (by omega);obtain⟨k1,k2⟩:=vU x (8*(a.size:Int)) (by omega);obtain⟨K,hK⟩:∃K:Nat,gA x (8*(a.size:Int))=(K:Int):=⟨_,(aC5 k1).symm⟩;rw[hK] at hk;have hp:=ZT which 4 w hw1 hw2 (by decide) (by decide);obtain⟨p1,p2⟩:=vU which 4 (by decide);obtain⟨V,hV⟩:∃V:Nat,gA which 4=(V:Int):=⟨_,(aC5 p1).symm⟩;rw[hV] at hp;have hV4:V=0\/V=1\/V=2\/V=3:=by omega
 have hKb:K<8*a.size:=by omega
 obtain⟨q,hq⟩:∃q,q=K/8:=⟨_,rfl⟩;obtain⟨r,hr⟩:∃r,r=K%8:=⟨_,rfl⟩;have hqa:q<a.size:=by omega
 have hr8:r<8:=by omega
 have m2:(K:Int).tdiv 8=(q:Int):=by rw[hq];exact Int.ofNat_tdiv K 8
 have m3:aI.wrap (q:Int)=(q:Int):=by rw[aM];omega
 have m4:(K:Int)/8=(q:Int):=by omega
 have m5:(K:Int).tmod 8=(r:Int):=by rw[Int.tmod_eq_emod_of_nonneg (by omega)];omega
 have m6:aI.wrap (r:Int)=(r:Int):=by rw[aM];omega
 have m7:(K:Int)%8=(r:Int):=by omega
 have m8:min r 8=r:=by omega
 clear hK hV k1 k2 p1 p2 hq hr h0;rcases hV4 with rfl|rfl|hV23
 ·have m9:aI.wrap ((a.size:Int)+1)=(a.size:Int)+1:=by rw[aM];omega
  have hs:=ZT x ((a.size:Int)+1) w hx1 hx2 (by omega) (by omega);obtain⟨k1,k2⟩:=vU x ((a.size:Int)+1) (by omega);obtain⟨j,hj⟩:∃j:Nat,gA x ((a.size:Int)+1)=(j:Int):=⟨_,(aC5 k1).symm⟩;rw[hj] at hs;have j1:j<=a.size:=by omega
  have j2:(j:Int)<=(a.size:Int):=by omega
  clear hj k1 k2 m2 m3 m4 m5 m6 m7 m8;go_enter Tryz.func14,Tryz.ntmps14;go_wp2_with fail;refine hk.mono ?_;rintro e w' ⟨rfl,rfl⟩;go_wp2_with fail;refine hp.mono ?_;rintro e w' ⟨rfl,rfl⟩;go_wp2_with fail;refine hs.mono ?_;rintro e w' ⟨rfl,rfl⟩;go_wp2_with fail;go_ret;exact⟨_,rfl,by rw[aTq];omega,aB _ _⟩
 ·obtain⟨q9,hq9⟩:∃q9,q9=q+1:=⟨_,rfl⟩;have n1:aI.wrap ((q:Int)+1)=(q9:Int):=by rw[aM];omega
  have n2:(q:Int)+1=(q9:Int):=by omega
  have n3:q9<=a.size:=by omega
  have n4:(q9:Int)<=(a.size:Int):=by omega
  have n5:q<=a.size:=by omega
  have n12:aI.wrap (q9:Int)=(q9:Int):=by rw[aM];omega
  have n10:(0:Int)<=(q9:Int):=by omega
  have n11:(0:Int)<=(q:Int):=by omega
  have n6:(q:Int)<=(a.size:Int):=by omega
  have n7:aI.wrap (x.tdiv 7)=x.tdiv 7:=aTy 7 (by decide) hx1 hx2;obtain⟨t1,t2⟩:=aTw 7 (by decide) hx1 hx2;have hz:=fun W=>ZT (x.tdiv 7) 256 W t1 t2 (by decide) (by decide)
  obtain⟨k1,k2⟩:=vU (x.tdiv 7) 256 (by decide);obtain⟨j,hj⟩:∃j:Nat,gA (x.tdiv 7) 256=(j:Int):=⟨_,(aC5 k1).symm⟩;rw[hj] at hz;have j1:j<256:=by omega
  have n8:IntKind.u8.wrap (j:Int)=(j:Int):=by rw[IntKind.wrap_u8];omega
  have n9:(j:Int)%256=(j:Int):=by omega
  have hcv:(convert 45 9 (.slice (some ⟨w.heap.size,0,none⟩) 1 1)).run Tryz.prog (w.alloc (.cells #[.int .u8 (j:Int)] 5)).drew=.ok (.string (mkS [eK j])) (w.alloc (.cells #[.int .u8 (j:Int)] 5)).drew:=aTz j j1 w.drew;have hx1s:(a.extract 0 q).size=q:=by rw[aTq];omega
  have hx3s:(a.extract q9 a.size).size=a.size-q9:=by rw[aTq];omega
  obtain⟨X1,hX1⟩:∃X1,a.extract 0 q=X1:=⟨_,rfl⟩;obtain⟨X3,hX3⟩:∃X3,a.extract q9 a.size=X3:=⟨_,rfl⟩;obtain⟨X2,hX2⟩:∃X2,mkS [eK j]=X2:=⟨_,rfl⟩;have hx2s:X2.size=1:=by rw[<-hX2];rfl
  rw[hX1] at hx1s;rw[hX3] at hx3s;rw[hX2] at hcv;have o1:¬9223372036854775807<X1.size+X2.size:=by omega
  have o2:¬9223372036854775807<(X1.size:Int)+(X2.size:Int):=by omega
  have o3:¬9223372036854775807<X1.size+X2.size+X3.size:=by omega
  have o4:¬9223372036854775807<(X1.size:Int)+(X2.size:Int)+(X3.size:Int):=by omega
  have HSZ:=hid (show(X1++X2++X3).size<=a.size by rw[aTx,aTx];omega);clear hj k1 k2 m5 m6 m7 m8 hx1s hx2s hx3s hq9 hX2;go_enter Tryz.func14,Tryz.ntmps14;go_wp2_with fail;refine hk.mono ?_;rintro e w' ⟨rfl,rfl⟩;go_wp2_with fail;refine hp.mono ?_;rintro e w' ⟨rfl,rfl⟩;clear hk hp;go_wp2_with fail;have hS0:Below w.heap.size w w.drew:=(aB _ _).drew;have hS1:Below w.heap.size w (w.alloc (.cells #[.int .u8 (j:Int)] 5)).drew:=bD hS0 _;refine wp_region_held_drew (S:=fun w'=>Below w.heap.size w w') (by kernel_rfl) hS0 (fun hHeld=>?_)
  refine aQ (i:=0) (oi:=?oi0) (v:=?v0) ?hi0 (by kernel_rfl) (by kernel_rfl) (by kernel_rfl) ?hq0 ?hy0 hS0 ?_
  case hi0=>(simp only[aR,aP];rfl)
  case hq0=>exact fun _ _ _ h=>h
  case hy0=>(refine aT ⟨by rfl,?_⟩;intro w' hSw;(try dsimp only at hSw);(try go_simp);try with_reducible rfl)
  try simp only[aJ,aK,aH,aG]
  refine aQ (i:=1) (oi:=?oi1) (v:=?v1) ?hi1 (by kernel_rfl) (by kernel_rfl) (by kernel_rfl) ?hq1 ?hy1 hS0 ?_
  case hi1=>(simp only[aR,aS,aP];rfl)
  case hq1=>exact fun _ _ _ h=>h
  case hy1=>(refine aT ⟨by rfl,?_⟩;intro w' hSw;(try dsimp only at hSw);(try go_simp);try with_reducible rfl)
  try simp only[aJ,aK,aH,aG]
  refine aQ (i:=2) (oi:=?oi2) (v:=?v2) ?hi2 (by kernel_rfl) (by kernel_rfl) (by kernel_rfl) ?hq2 ?hy2 hS0 ?_
  case hi2=>(simp only[aR,aS,aP];rfl)
  case hq2=>exact fun _ _ _ h=>h
  case hy2=>(refine aT ⟨by rfl,?_⟩;intro w' hSw;(try dsimp only at hSw);(try go_simp);try with_reducible rfl)
  try simp only[aJ,aK,aH,aG]
  refine aQ (i:=3) (oi:=?oi3) (v:=?v3) ?hi3 (by kernel_rfl) (by kernel_rfl) (by kernel_rfl) ?hq3 ?hy3 hS0 ?_
  case hi3=>(simp only[aR,aS,aP];rfl)
  case hq3=>exact fun _ _ _ h=>h
  case hy3=>(refine aT ⟨by rfl,?_⟩;intro w' hSw;(try dsimp only at hSw);(try go_simp);try with_reducible rfl)
  try simp only[aJ,aK,aH,aG]
  refine aQ (i:=4) (oi:=?oi4) (v:=?v4) ?hi4 (by kernel_rfl) (by kernel_rfl) (by kernel_rfl) ?hq4 ?hy4 hS0 ?_
  case hi4=>(simp only[aR,aS,aP];rfl)
  case hq4=>exact fun _ _ _ h=>h
  case hy4=>(refine aT ⟨by rfl,?_⟩;intro w' hSw;(try dsimp only at hSw);(try go_simp);try with_reducible rfl)
  try simp only[aJ,aK,aH,aG]
  refine aQ (i:=5) (oi:=?oi5) (v:=?v5) ?hi5 (by kernel_rfl) (by kernel_rfl) (by kernel_rfl) ?hq5 ?hy5 hS0 ?_
  case hi5=>(simp only[aR,aS,aP];rfl)
  case hq5=>exact fun _ _ _ h=>h
  case hy5=>(refine aT ⟨by rfl,?_⟩;intro w' hSw;(try dsimp only at hSw);(try go_simp);try with_reducible rfl)
  try simp only[aJ,aK,aH,aG]
  refine aQ (i:=11) (oi:=?oi11) (v:=?v11) ?hi11 (by kernel_rfl) (by kernel_rfl) (by kernel_rfl) ?hq11 ?hy11 hS0 ?_
  case hi11=>(simp only[aR,aS,aP];rfl)
  case hq11=>exact fun _ _ _ h=>h
  case hy11=>(refine aT ⟨by rfl,?_⟩;intro w' hSw;(try dsimp only at hSw);(try go_simp);try with_reducible rfl)
  try simp only[aJ,aK,aH,aG]
  refine aQ (i:=12) (oi:=?oi12) (v:=?v12) ?hi12 (by kernel_rfl) (by kernel_rfl) (by kernel_rfl) ?hq12 ?hy12 hS0 ?_
  case hi12=>(simp only[aR,aS,aP];rfl)
  case hq12=>exact fun _ _ _ h=>h
  case hy12=>(refine aT ⟨by rfl,?_⟩;intro w' hSw;(try dsimp only at hSw);(try go_simp);try with_reducible rfl)
  try simp only[aJ,aK,aH,aG]
  refine aQ (i:=13) (oi:=?oi13) (v:=?v13) ?hi13 (by kernel_rfl) (by kernel_rfl) (by kernel_rfl) ?hq13 ?hy13 hS0 ?_
  case hi13=>(simp only[aR,aS,aP];rfl)
  case hq13=>exact fun _ _ _ h=>h
  case hy13=>(refine aT ⟨by rfl,?_⟩;intro w' hSw;(try dsimp only at hSw);(try go_simp);try with_reducible rfl)
  try simp only[aJ,aK,aH,aG]
  refine aQ (i:=14) (oi:=?oi14) (v:=?v14) ?hi14 (by kernel_rfl) (by kernel_rfl) (by kernel_rfl) ?hq14 ?hy14 hS0 ?_
  case hi14=>(simp only[aR,aS,aP];rfl)
  case hq14=>exact fun _ _ _ h=>h
  case hy14=>(refine aT ⟨by rfl,?_⟩;intro w' hSw;(try dsimp only at hSw);(try go_simp);try with_reducible rfl)
  try simp only[aJ,aK,aH,aG]
  refine aQ (i:=15) (oi:=?oi15) (v:=?v15) ?hi15 (by kernel_rfl) (by kernel_rfl) (by kernel_rfl) ?hq15 ?hy15 hS0 ?_
  case hi15=>(simp only[aR,aS,aP];rfl)
  case hq15=>exact fun _ _ _ h=>h
  case hy15=>(refine aT ⟨by rfl,?_⟩;intro w' hSw;(try dsimp only at hSw);(try go_simp);try with_reducible rfl)
  try simp only[aJ,aK,aH,aG]
  refine fL (rs:=[6]) (by kernel_rfl) (by simp) ?_;refine fA rfl (fun K hK=>?_) fM;go_simp;refine(hz _).mono ?_;rintro e w4 ⟨rfl,rfl⟩;refine hK.out _ _ hS0 (fun _=>?_);clear hK K
  try simp only[aJ,aK,aH,aG]
  refine aQ (i:=7) (oi:=?oi7) (v:=?v7) ?hi7 (by kernel_rfl) (by kernel_rfl) (by kernel_rfl) ?hq7 ?hy7 hS0 ?_
  case hi7=>(simp only[aR,aS,aP];rfl)
  case hq7=>exact fun _ _ _ h=>h
  case hy7=>(refine aT ⟨by rfl,?_⟩;intro w' hSw;(try dsimp only at hSw);(try go_simp);try with_reducible rfl)
  try simp only[aJ,aK,aH,aG]
  refine fL (rs:=[8]) (by kernel_rfl) (by simp) ?_;refine fA rfl (fun K hK=>?_) fM;go_simp;refine hK.out _ _ hS1 (fun _=>?_);clear hK K
  try simp only[aJ,aK,aH,aG]
  refine fL (rs:=[9]) (by kernel_rfl) (by simp) ?_;refine fA rfl (fun K hK=>?_) fM;go_simp;refine hK.out _ _ hS1 (fun _=>?_);clear hK K
  try simp only[aJ,aK,aH,aG]
  refine fL (rs:=[10]) (by kernel_rfl) (by simp) ?_;refine fA rfl (fun K hK=>?_) fM;go_simp;refine hK.out _ _ hS1 (fun _=>?_);clear hK K
  try simp only[aJ,aK,aH,aG]
  refine fL (rs:=[16]) (by kernel_rfl) (by simp) ?_;refine fA rfl (fun K hK=>?_) fM;go_simp;refine hK.out _ _ hS1 (fun _=>?_);clear hK K
  try simp only[aJ,aK,aH,aG]
  refine fL (rs:=[17]) (by kernel_rfl) (by simp) ?_;refine fA rfl (fun K hK=>?_) fM;go_simp;refine hK.out _ _ hS1 (fun _=>?_);clear hK K
  try simp only[aJ,aK,aH,aG]
  refine wpAnyH_done (by kernel_rfl) ?_ _;go_wp2_with fail;go_ret;exact⟨_,rfl,HSZ.out,hS1⟩
 ·obtain⟨cap,w2,hcv,hc1,hc2,hA,hb2,hz2⟩:=DX w a (by omega);obtain⟨Y,hY⟩:∃Y,a.data.toList[q]? =some Y:=⟨_,aN (by rw[HL.out];exact hqa)⟩;have c1:=hA.2.1 q Y hY;have f1:=hA.2.2 q (by rw[HL.out];exact hqa);have hfl:=ZV Y r;obtain⟨Y2,hY2⟩:∃Y2,Y2=eK (Y.toNat^^^(128>>>r)):=⟨_,rfl⟩;rw[<-hY2] at hfl;have q1:(q:Int)<(a.size:Int):=by omega
  have v1:((V:Int)==0)=false:=by rw[beq_eq_false_iff_ne];omega
  have v2:((V:Int)==1)=false:=by rw[beq_eq_false_iff_ne];omega
  have v3:(V==0)=false:=by rw[beq_eq_false_iff_ne];omega
  have v4:(V==1)=false:=by rw[beq_eq_false_iff_ne];omega
  have hA3:=(hA.drew).set q Y2;have hbk:=lQ (hA3.rdB (cap:=cap) (by rw[mW,HL.out];exact hc1) hc2);rw[mW,HL.out] at hbk;have HB:=hid hbk;have hyb:=Y.toNat_lt;obtain⟨yv,hyv⟩:∃yv,yv=Y.toNat:=⟨_,rfl⟩;rw[<-hyv] at c1 hfl hyb;clear hV23 hY hY2 hyv hA hA3 hbk;go_enter Tryz.func14,Tryz.ntmps14;go_wp2_with fail;refine hk.mono ?_;rintro e w' ⟨rfl,rfl⟩;go_wp2_with fail;refine hp.mono ?_;rintro e w' ⟨rfl,rfl⟩;clear hk hp;go_wp2_with fail
  go_still_tail 13,(by kernel_rfl)
  change wpList _ _ _ _ _ w2.drew;have c2:w2.drew.cell? ⟨w.heap.size,q,none⟩=some (.int .u8 (yv:Int)):=c1;have f2:w2.drew.frozen? ⟨w.heap.size,q,none⟩=false:=f1;have hb3:=hb2.drew;clear c1 f1 hb2 hz2 hcv;generalize w2.drew=w3 at*
  have hbk:=HB.out;go_wp2_with fail;go_ret;exact⟨_,rfl,by rw[cP,mW,HL.out];exact aA _,hb3.setCell (p:=⟨w.heap.size,q,none⟩) (aA _) _⟩
end Go.Proofs.YtiifmcicleljjaaGreatDoor

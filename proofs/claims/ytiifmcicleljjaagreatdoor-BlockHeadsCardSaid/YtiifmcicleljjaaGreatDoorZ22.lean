/-
  Texts put together (part 22): the walks and the plain laws on which the statement stands.
-/
import Derived.Test.YtiifmcicleljjaaGreatDoorZ21
set_option maxRecDepth 100000
set_option maxHeartbeats 12800000
open ByteArray renaming size_extract->aTq
open Go.RowKit.Below renaming refl->aB
namespace Go.Proofs.YtiifmcicleljjaaGreatDoor
open Go.RowKit Go Go.Shelf
theorem FF (s:ByteArray) (room:Int) (w:World) (hs:s.size<=100000) (h:eZ s room=0):
  Calls Tryz.prog 12 #[.string s,.int .i64 room] w fun e w'=>e=.returned (.tuple #[.agg #[.string (mkS (aD (cB s))),.int .i64 ((cB s).length:Int)],.int .i64 0])/\Below w.heap.size w w'/\fS (mkS (bC s.data.toList)):=by
 refine(AA s room w hs).mono ?_;rintro e w' ⟨h1,h2,h3⟩;rw[EM h,h] at h1;exact⟨h1,h2,h3 h⟩
theorem xH (s:ByteArray) (room E:Int) (w:World) (hs:s.size<=100000) (h:eZ s room=E) (hE:E≠0):
  Calls Tryz.prog 12 #[.string s,.int .i64 room] w fun e w'=>e=.returned (.tuple #[.agg #[.string ⟨#[]⟩,.int .i64 0],.int .i64 E])/\Below w.heap.size w w':=by
 refine(AA s room w hs).mono ?_;rintro e w' ⟨h1,h2,h3⟩;rw[YY (by rw[h];exact hE),h,YR] at h1;exact⟨h1,h2⟩
theorem aBm (s:ByteArray) (a room:Int) (w:World) {x:ByteArray} {y z:Int} (hE:iF w) (hs:s.size<=12000) (ha1: -9223372036854775808<=a) (ha2:a<=9223372036854775807) (hr1: -9223372036854775808<=room) (hr2:room<=9223372036854775807) (h:cL s.data.toList a room=(x,y,z,0)):
  Calls Tryz.prog 15 #[.string s,.int .i64 a,.int .i64 room] w fun e w'=>e=.returned (.tuple #[.agg #[.string x,.int .u32 y,.int .i64 a,.int .i64 z],.int .i64 0])/\Below w.heap.size w w':=by
 refine(MW s a room w hE hs ha1 ha2 hr1 hr2).mono ?_;rintro e w' ⟨h1,h2⟩;rw[h,MG] at h1;exact⟨h1,h2⟩
theorem FG (s:ByteArray) (a room:Int) (w:World) {E:Int} (hE:iF w) (hs:s.size<=12000) (ha1: -9223372036854775808<=a) (ha2:a<=9223372036854775807) (hr1: -9223372036854775808<=room) (hr2:room<=9223372036854775807) (h:(cL s.data.toList a room).2.2.2=E) (hE0:E≠0):
  Calls Tryz.prog 15 #[.string s,.int .i64 a,.int .i64 room] w fun e w'=>(∃(x:ByteArray) (y z:Int),e=.returned (.tuple #[.agg #[.string x,.int .u32 y,.int .i64 0,.int .i64 z],.int .i64 E]))/\Below w.heap.size w w':=by
 refine(MW s a room w hE hs ha1 ha2 hr1 hr2).mono ?_;rintro e w' ⟨h1,h2⟩;obtain⟨x,y,z,E',hD⟩:∃x y z E',cL s.data.toList a room=(x,y,z,E'):=⟨_,_,_,_,rfl⟩;rw[hD] at h h1;obtain rfl:E'=E:=h;rw[YM _ _ _ _ _ hE0] at h1;exact⟨⟨x,y,z,h1⟩,h2⟩
theorem aBn (s:ByteArray) (k:Nat):(s.extract 0 k).data.toList=s.data.toList.take k:=by simp
theorem aBo {w1 w2:World} {p1 p2 p3 p4 p5 p6:Addr} {v1 v2 v3 v4 v5 v6:Value} {B:Nat} {w0:World}
  (h:w1.cell? p1=some v1/\w1.cell? p2=some v2/\w1.cell? p3=some v3/\w1.cell? p4=some v4/\w1.cell? p5=some v5/\w1.cell? p6=some v6/\Below B w0 w1/\B<=w1.heap.size) (hb:Below w1.heap.size w1 w2):
  w2.cell? p1=some v1/\w2.cell? p2=some v2/\w2.cell? p3=some v3/\w2.cell? p4=some v4/\w2.cell? p5=some v5/\w2.cell? p6=some v6/\Below B w0 w2/\B<=w2.heap.size:=by
 obtain⟨h1,h2,h3,h4,h5,h6,h8,h7⟩:=h;have k:∀{p:Addr} {v:Value},w1.cell? p=some v->w2.cell? p=some v:=fun{p} {v} hp=>(hb.cell (World.block_lt_of_cell? w1 p hp)).trans hp
 exact⟨k h1,k h2,k h3,k h4,k h5,k h6,h8.trans (hb.mono h7),Nat.le_trans h7 hb.size⟩
abbrev dQ:ByteArray:=⟨#[98,97,110,97,110,97]⟩
theorem AB:(bC dQ.data.toList).length=6:=by decide+kernel
theorem aSu:(fZ (bK (bC dQ.data.toList))).length=32:=by decide+kernel
theorem aSv:(bK (bC dQ.data.toList)).length=3:=by decide+kernel
theorem aSw:eZ dQ 40=0:=wY (by decide) (by decide) (by decide) (by rw[AB];decide)
theorem aSx:eZ dQ 5=4:=by
 unfold eZ;rw[if_neg (by decide),AB];decide
theorem aSy:eZ ⟨#[]⟩ 40=1:=by
 unfold eZ;rw[if_pos (by decide)]
def aBp:ByteArray:=⟨#[97,97,97,97,97,97,97,97,97,97,97,97,97,97,97,97,97,97]⟩
theorem aSz:(cL aBp.data.toList 0 40).2.2.2=3:=by
 rw[wU,if_neg (by decide),if_neg (by decide+kernel),if_pos (by decide+kernel)]
theorem aS0 (s:List UInt8):(cL s 0 361).2.2.2=1:=by
 rw[wU,if_pos (by decide)]
theorem aS1 (hO:fS (mkS (bC dQ.data.toList))):166<(cB dQ).length/\(cB dQ).length<=28000/\
  cL (aD (cB dQ)) 0 40=(dQ,((fG dQ.data.toList).toNat:Int),((cB dQ).length:Int),0)/\(cL ((aD (cB dQ)).take 20) 0 40).2.2.2=2/\aE (aD (cB dQ)) 0 48=54156738319193:=by
 have h1:=zR (t:=dQ) (by decide) (by rw[AB];decide) hO;rw[aSu,aSv] at h1;have h2:=EI (s:=aD (cB dQ)) (a:=0) (room:=40) (by decide) hO (by rw[AB];decide) (by decide) (zP _);rw[Nat.zero_add] at h2;have h3:=YL (room:=40) (by decide) hO (by rw[AB];decide) (by decide) (k:=20) (by omega);have h2:cL (aD (cB dQ)) 0 40=(dQ,((fG dQ.data.toList).toNat:Int),((cB dQ).length:Int),0):=h2;have h4:=(YK (s:=aD (cB dQ)) (at':=0) (room:=40) (by rw[h2])).2.2.2.2.2.2.2.2;exact⟨by omega,h1.1,h2,h3,h4⟩
theorem FH (w:World) (hE:iF w):Calls Tryz.prog 9 #[] w fun e w'=>e=.returned (.bool true)/\Below w.heap.size w w':=by
 go_enter Tryz.func9,Tryz.ntmps9;go_wp2_with fail;refine(FF dQ 40 w (by decide) aSw).mono ?_;rintro e w1 ⟨rfl,hb1,hO⟩;obtain⟨f1,f2,f3,f4,f5⟩:=aS1 hO;have hSs:(mkS (aD (cB dQ))).size=((cB dQ).length+7)/8:=by rw[cP,gY]
 have f4:(cL ((mkS (aD (cB dQ))).extract 0 20).data.toList 0 40).2.2.2=2:=by rw[aBn,fW];exact f4
 have f3:cL (mkS (aD (cB dQ))).data.toList 0 40=(dQ,((fG dQ.data.toList).toNat:Int),((cB dQ).length:Int),0):=f3;have f5:aE (mkS (aD (cB dQ))).data.toList ((0:Nat):Int) 48=54156738319193:=f5;obtain⟨Sb,hSb⟩:∃Sb,Sb=mkS (aD (cB dQ)):=⟨_,rfl⟩;obtain⟨N,hN⟩:∃N,N=(cB dQ).length:=⟨_,rfl⟩;obtain⟨Z,hZ⟩:∃Z,Z=(fG dQ.data.toList).toNat:=⟨_,rfl⟩;have HZ:=hid hZ;rw[<-hSb,<-hN,<-hZ] at f3;rw[<-hSb] at f4 f5 hSs;rw[<-hN] at f1 f2 hSs;rw[<-hSb,<-hN];clear hSb hN hZ hO;have s1:20<=Sb.size:=by omega
 have s2:Sb.size<=12000:=by omega
 have s3:(20:Int)<=(Sb.size:Int):=by omega
 have s4:decide ((Sb.size:Int)<20)=false:=decide_eq_false (by omega);have s5:decide (Sb.size<20)=false:=decide_eq_false (by omega);have s6:(Sb.extract 0 20).size<=12000:=by rw[aTq];omega
 have hmt:decide (0+48<=8*Sb.size/\aE Sb.data.toList ((0:Nat):Int) 48=54156738319193)=true:=decide_eq_true ⟨by omega,f5⟩;have HMT:=hid hmt;have F3:=hid f3;have F4:=hid f4;clear hmt f1 f2 f3 f4 f5 hSs;have hX:=Arr.new w1 29 [.string Sb,.int .i64 (N:Int)];change Arr (w1.alloc (.cells #[.string Sb,.int .i64 (N:Int)] 29)) _ _ _ at hX;have hb2:=bD hb1 (.cells #[.string Sb,.int .i64 (N:Int)] 29);have d0:=hX.cell (i:=0) rfl;go_wp2_with fail;generalize w1.alloc (.cells #[.string Sb,.int .i64 (N:Int)] 29)=w2 at*
 obtain⟨bb,hbb⟩:∃bb,bb=w1.heap.size:=⟨_,rfl⟩;rw[<-hbb] at hX d0 ⊢;have hbl:=hX.lt;clear hbb hb1;refine(aBm Sb 0 40 w2 (hE.below hb2) s2 (by decide) (by decide) (by decide) (by decide) F3.out).mono ?_;rintro e w3 ⟨rfl,hb3⟩;have hX3:=hX.below hb3 hbl;have hb3':=bV hb2 hb3;have hC:=Arr.new w3 36 [.string dQ,.int .u32 (Z:Int),.int .i64 0,.int .i64 (N:Int)];change Arr (w3.alloc (.cells #[.string dQ,.int .u32 (Z:Int),.int .i64 0,.int .i64 (N:Int)] 36)) _ _ _ at hC;have hX4:=hX3.alloc (.cells #[.string dQ,.int .u32 (Z:Int),.int .i64 0,.int .i64 (N:Int)] 36)
 have hb4:=bD hb3' (.cells #[.string dQ,.int .u32 (Z:Int),.int .i64 0,.int .i64 (N:Int)] 36);have d0:=hX4.cell (i:=0) rfl;clear hX hX3 hb2 hb3 hb3';go_wp2_with fail;generalize w3.alloc (.cells #[.string dQ,.int .u32 (Z:Int),.int .i64 0,.int .i64 (N:Int)] 36)=w4 at*
 obtain⟨cb,hcb⟩:∃cb,cb=w3.heap.size:=⟨_,rfl⟩;rw[<-hcb] at hC ⊢;clear hcb;refine(FG (Sb.extract 0 20) 0 40 w4 (hE.below hb4) s6 (by decide) (by decide) (by decide) (by decide) F4.out (by decide)).mono ?_;rintro e w5 ⟨⟨x5,y5,z5,rfl⟩,hb5⟩;have hX5:=hX4.below hb5 hX4.lt;have hC5:=hC.below hb5 hC.lt;have hb5':=bV hb4 hb5;clear hX4 hC hb4 hb5 d0;go_wp2_with fail;have hX6:=hX5.alloc (.cells #[.string x5,.int .u32 y5,.int .i64 0,.int .i64 z5] 36);have hC6:=hC5.alloc (.cells #[.string x5,.int .u32 y5,.int .i64 0,.int .i64 z5] 36)
 have hb6:=bD hb5' (.cells #[.string x5,.int .u32 y5,.int .i64 0,.int .i64 z5] 36);generalize w5.alloc (.cells #[.string x5,.int .u32 y5,.int .i64 0,.int .i64 z5] 36)=w6 at*
 clear hX5 hC5 hb5';refine(FG aBp 0 40 w6 (hE.below hb6) (by decide) (by decide) (by decide) (by decide) (by decide) aSz (by decide)).mono ?_;rintro e w7 ⟨⟨x7,y7,z7,rfl⟩,hb7⟩;have hX7:=hX6.below hb7 hX6.lt;have hC7:=hC6.below hb7 hC6.lt;have hb7':=bV hb6 hb7;clear hX6 hC6 hb6 hb7;go_wp2_with fail;have hX8:=hX7.alloc (.cells #[.string x7,.int .u32 y7,.int .i64 0,.int .i64 z7] 36);have hC8:=hC7.alloc (.cells #[.string x7,.int .u32 y7,.int .i64 0,.int .i64 z7] 36);have hb8:=bD hb7' (.cells #[.string x7,.int .u32 y7,.int .i64 0,.int .i64 z7] 36)
 generalize w7.alloc (.cells #[.string x7,.int .u32 y7,.int .i64 0,.int .i64 z7] 36)=w8 at*
 clear hX7 hC7 hb7';refine(xH ⟨#[]⟩ 40 1 w8 (by decide) aSy (by decide)).mono ?_;rintro e w9 ⟨rfl,hb9⟩;have hX9:=hX8.below hb9 hX8.lt;have hC9:=hC8.below hb9 hC8.lt;have hb9':=bV hb8 hb9;clear hX8 hC8 hb8 hb9;go_wp2_with fail;have hX10:=hX9.alloc (.cells #[.string ⟨#[]⟩,.int .i64 0] 29);have hC10:=hC9.alloc (.cells #[.string ⟨#[]⟩,.int .i64 0] 29);have hb10:=bD hb9' (.cells #[.string ⟨#[]⟩,.int .i64 0] 29);generalize w9.alloc (.cells #[.string ⟨#[]⟩,.int .i64 0] 29)=w10 at*
 clear hX9 hC9 hb9';refine(xH dQ 5 4 w10 (by decide) aSx (by decide)).mono ?_;rintro e w11 ⟨rfl,hb11⟩;have hX11:=hX10.below hb11 hX10.lt;have hC11:=hC10.below hb11 hC10.lt;have hb11':=bV hb10 hb11;have hX12:=hX11.alloc (.cells #[.string ⟨#[]⟩,.int .i64 0] 29);have hC12:=hC11.alloc (.cells #[.string ⟨#[]⟩,.int .i64 0] 29);have hb12:=bD hb11' (.cells #[.string ⟨#[]⟩,.int .i64 0] 29);have d0:=hX12.cell (i:=0) rfl;clear hX10 hC10 hb10 hb11 hX11 hC11 hb11';go_wp2_with fail;generalize w11.alloc (.cells #[.string ⟨#[]⟩,.int .i64 0] 29)=w12 at*
 refine(FG Sb 0 361 w12 (hE.below hb12) s2 (by decide) (by decide) (by decide) (by decide) (aS0 _) (by decide)).mono ?_;rintro e w13 ⟨⟨x13,y13,z13,rfl⟩,hb13⟩;have hX13:=hX12.below hb13 hX12.lt;have hC13:=hC12.below hb13 hC12.lt;have hb13':=bV hb12 hb13;clear hX12 hC12 hb12 hb13 d0;go_wp2_with fail;have hX14:=hX13.alloc (.cells #[.string x13,.int .u32 y13,.int .i64 0,.int .i64 z13] 36);have hC14:=hC13.alloc (.cells #[.string x13,.int .u32 y13,.int .i64 0,.int .i64 z13] 36);have hb14:=bD hb13' (.cells #[.string x13,.int .u32 y13,.int .i64 0,.int .i64 z13] 36)
 generalize w13.alloc (.cells #[.string x13,.int .u32 y13,.int .i64 0,.int .i64 z13] 36)=wA at*
 clear hX13 hC13 hb13';obtain⟨B3,hB3⟩:∃B3,B3=wA.heap.size:=⟨_,rfl⟩;have hS0:=aBo (B:=B3) (w0:=wA) ⟨hX14.cell (i:=0) rfl,hX14.cell (i:=1) rfl,hC14.cell (i:=0) rfl,hC14.cell (i:=1) rfl,hC14.cell (i:=2) rfl,hC14.cell (i:=3) rfl,aB _ _,by omega⟩ (aB wA.heap.size wA).drew;have hsum:=fun W=>FA dQ W (by decide)
 rw[<-HZ.out] at hsum;have hmat:=fun W=>aSt Sb 0 48 54156738319193 W (by omega) (by decide) (by decide) (by decide) (by decide)
 rw[HMT.out] at hmat;have HB3:=hid hB3;have hbs:(dQ.toList==(ByteArray.mk #[98,97,110,97,110,97]).toList)=true:=beq_self_eq_true _;have hbs2:((ByteArray.mk #[98,97,110,97,110,97]).toList==dQ.toList)=true:=beq_self_eq_true _;clear hX14 hC14 hB3 HMT F3 F4
 go_region_held3 (fun w'=>w'.cell? ⟨bb,0,none⟩=some (.string Sb)/\w'.cell? ⟨bb,1,none⟩=some (.int .i64 (N:Int))/\w'.cell? ⟨cb,0,none⟩=some (.string dQ)/\w'.cell? ⟨cb,1,none⟩=some (.int .u32 (Z:Int))/\w'.cell? ⟨cb,2,none⟩=some (.int .i64 0)/\w'.cell? ⟨cb,3,none⟩=some (.int .i64 (N:Int))/\Below B3 wA w'/\B3<=w'.heap.size)
  (first
   |with_reducible assumption
   |with_reducible exact aBo (by assumption) (by assumption))
  (first
   |(go_at_call 20;refine(hsum _).mono ?_;rintro e w15 ⟨rfl,hb15⟩)
   |(go_at_call 25;refine(hmat _).mono ?_;rintro e w16 ⟨rfl,hb16⟩))
 have hS5:=(show w16.cell? ⟨bb,0,none⟩=some (.string Sb)/\w16.cell? ⟨bb,1,none⟩=some (.int .i64 (N:Int))/\w16.cell? ⟨cb,0,none⟩=some (.string dQ)/\w16.cell? ⟨cb,1,none⟩=some (.int .u32 (Z:Int))/\w16.cell? ⟨cb,2,none⟩=some (.int .i64 0)/\w16.cell? ⟨cb,3,none⟩=some (.int .i64 (N:Int))/\Below B3 wA w16/\B3<=w16.heap.size by assumption);have hbf:Below w.heap.size w w16:=hb14.trans (Below.mono hS5.2.2.2.2.2.2.1 (by rw[HB3.out];exact hb14.size));clear hS5 hb15 hb16 hb14;go_wp2_with fail;go_ret;exact⟨rfl,hbf⟩
end Go.Proofs.YtiifmcicleljjaaGreatDoor

/-
  Texts put together (part 18): the walks and the plain laws on which the statement stands.
-/
import Derived.Test.YtmcogmmncfihhaaGreatDoorZ17
set_option maxRecDepth 100000
set_option maxHeartbeats 12800000
set_option linter.unusedVariables false
set_option linter.unusedSimpArgs false
open Array renaming replicate_succ->lL,replicate_zero->lM
open BitVec renaming ofNat->qZ
open Go renaming bodyPost_ret->gJ,callsD_of_wpS->FY,callsIn_of_wp->tW,heap_setCell_other->kT,results_none->qX,wpAnyH_ready->fL
open Go.Act renaming put->aJ
open Go.AllReadyH renaming cons->fA,nil->fM
open Go.Calls renaming quiet_of_same->OM
open Go.Fence renaming wide->eA
open Go.Instr renaming typeAssert->BA
open Go.IntKind renaming i64->aI,wrap_i64->aM
open Go.RowKit.Below renaming refl->aB
open Go.World renaming block_lt_of_cell?->iO,cell?_setCell_other->iQ
open List renaming append_assoc->cF,append_toArray->lO,cons_append->gE,getElem?_cons_succ->aS,getElem?_cons_zero->aP,getElem?_toArray->aR,length_append->aL,length_cons->cR,length_nil->cX,map_append->fI,nil_append->iG,push_toArray->lN,setIfInBounds_toArray->aK,set_cons_succ->aG,set_cons_zero->aH,size_toArray->mY
open Nat renaming le_refl->aA,le_trans->aW,reduceAdd->lZ,reduceSub->mZ
open Option.some renaming inj->bW,injEq->iP
namespace Go.Proofs.YtmcogmmncfihhaaGreatDoor
section
open Go.RowKit Go Go.Shelf
theorem aQw (b:Nat) (s:ByteArray) (a k:Nat) (tb ch co:Value) (W:World) (hA:BRd W b s a tb ch co) (hs:s.size<=1000000) (hk:k<=48) (ha:a<=9223372036854775807) (hne:aO s.size (a:Int) k≠0):
  Calls Tryz.prog 109 #[.pointer (some ⟨b,0,none⟩),.int .i64 (k:Int)] W fun e w'=>e=.panicked (oC (aO s.size (a:Int) k))/\W.grownBy w' (some b):=by
 have hget:=fun W=>sT s (a:Int) k W hs (by omega) (by omega) (by omega)
 obtain⟨E,hE⟩:∃E,E=aO s.size (a:Int) k:=⟨_,rfl⟩;obtain⟨V,hV⟩:∃V,V=aE s.data.toList (a:Int) k:=⟨_,rfl⟩;rw[<-hE] at hne ⊢;rw[<-hE,<-hV] at hget;clear hE hV;have c0:=Arr.cell hA (i:=0) rfl;have c1:=Arr.cell hA (i:=1) rfl;have hor:=fun W=>vC E W
 go_enter Tryz.func109,Tryz.ntmps109;go_wp2_with fail
 go_quiet (first|(go_at_call 92;exact OM (hget _)))
 have hg1:W.grownBy (W.drewN nq) (some b):=⟨rfl,rfl,rfl,aA _,fun _ _ _=>rfl⟩;generalize W.drewN nq=W1 at*
 go_wp2_with fail;refine(hor _).mono ?_;rintro e w2 (⟨h0,rfl,rfl⟩|⟨h0,rfl,rfl⟩)
 ·exact absurd h0 hne
 ·go_wp2_with fail;exact⟨rfl,rfl,hg1⟩
def aAq (w w':World) (b:Nat) (s:ByteArray) (a:Nat) (room:Int) (e:Ending):Prop:=
 (∃E,E≠0/\cL s.data.toList (a:Int) room=(cW,0,0,E)/\e=.panicked (oC E)/\w.grownBy w' (some b))\/
 (∃(O:List UInt8) (V p:Nat) (vt vc co:Value),e=.returned (.tuple #[.string (mkS O),.int .u32 (V:Int)])/\BRd w' b s p vt vc co/\w.grownBy w' (some b)/\
  cL s.data.toList (a:Int) room=(if(fG O).toNat≠V then(cW,0,0,7) else(mkS O,(V:Int),(p:Int),0))/\O.length<=100000/\V<4294967296)
theorem sB {w w':World} {b:Nat} {s:ByteArray} {a:Nat} {room E:Int} (h:cL s.data.toList (a:Int) room=(cW,0,0,E)) (hE:E≠0) (hg:w.grownBy w' (some b)):aAq w w' b s a room (.panicked (oC E)):=.inl ⟨E,hE,h,rfl,hg⟩
theorem aQx (b:Nat) (s:ByteArray) (a R:Nat) (w:World) (hA:BRd w b s a (.slice none 0 0) (.slice none 0 0) (.int .i64 0)) (hs:s.size<=120000) (ha:a<=9223372036854775807) (hr1:1<=R) (hr2:R<=360) (hEV:∀W,w.grownBy W (some b)->iF W):
  Calls Tryz.prog 105 #[.pointer (some ⟨b,0,none⟩),.int .i64 (R:Int)] w fun e w'=>aAq w w' b s a (R:Int) e:=by
 have HL:=hid (show s.data.toList.length=s.size by simp);have hbw:b<w.heap.size:=Arr.lt hA;have hd:=wU s.data.toList (a:Int) (R:Int);rw[HL.out,if_neg (by omega)] at hd
 by_cases h1:aO s.size (a:Int) 48=0
 rotate_left
 ·rw[if_pos h1] at hd;have HF:=hid hd;clear hd;go_enter Tryz.func105,Tryz.ntmps105;go_wp2_with fail;refine(aQw b s a 48 _ _ _ w hA (by omega) (by decide) ha h1).mono ?_;rintro e w1 ⟨rfl,hg1⟩;go_wp2_with fail;exact⟨rfl,sB HF.out h1 hg1⟩
 rw[if_neg (fun k=>k h1)] at hd;have hok1:=fQ h1;have hab:a<=960000:=by omega
 have hn1:=zT b s a 48 (.slice none 0 0) (.slice none 0 0) (.int .i64 0) w hA (by omega) (by decide) (by omega);have hn2:=fun W h=>zT b s (a+48) 32 (.slice none 0 0) (.slice none 0 0) (.int .i64 0) W h (by omega) (by decide) (by omega)
 have hn3:=fun W h=>zT b s (a+48+32) 16 (.slice none 0 0) (.slice none 0 0) (.int .i64 0) W h (by omega) (by decide) (by omega)
 rw[show(((a+48:Nat):Int))=(a:Int)+48 by push_cast;rfl] at hn2;rw[show(((a+48+32:Nat):Int))=(a:Int)+80 by push_cast;omega] at hn3;have hv1:=iA s.data.toList (a:Int) 48;have hv2:=iA s.data.toList ((a:Int)+48) 32;have hv3:=iA s.data.toList ((a:Int)+80) 16;rw[h1] at hn1;obtain⟨V1,hV1⟩:∃V1,V1=aE s.data.toList (a:Int) 48:=⟨_,rfl⟩;obtain⟨E2,hE2⟩:∃E2,E2=aO s.size ((a:Int)+48) 32:=⟨_,rfl⟩;obtain⟨V2,hV2⟩:∃V2,V2=aE s.data.toList ((a:Int)+48) 32:=⟨_,rfl⟩;obtain⟨E3,hE3⟩:∃E3,E3=aO s.size ((a:Int)+80) 16:=⟨_,rfl⟩;obtain⟨V3,hV3⟩:∃V3,V3=aE s.data.toList ((a:Int)+80) 16:=⟨_,rfl⟩
 rw[<-hV1] at hn1 hv1 hd;rw[<-hE2,<-hV2] at hn2;rw[<-hE2] at hd;rw[<-hV2] at hv2 hd;rw[<-hE3,<-hV3] at hn3;rw[<-hE3] at hd;rw[<-hV3] at hv3 hd;have hv1:V1<281474976710656:=hv1;have hv2:V2<4294967296:=hv2;have hv3:V3<65536:=hv3;clear hE2 hE3 hV1 hV2 hV3;go_enter Tryz.func105,Tryz.ntmps105;go_wp2_with fail;refine hn1.mono ?_;rintro e w1 (⟨h1',rfl,hA1,hg1⟩|⟨h1',rfl,hg1⟩)
 rotate_left
 ·exact absurd rfl h1'
 clear h1' h1 hn1 hok1 hA
 by_cases h2:V1=54156738319193
 rotate_left
 ·have v1:((V1:Int)==54156738319193)=false:=by rw[beq_eq_false_iff_ne];omega
  have v2:(V1==54156738319193)=false:=by rw[beq_eq_false_iff_ne];exact h2
  rw[if_pos h2] at hd;have HF:=hid hd;clear hd;go_wp2_with fail;refine(pU false 3 _ (by decide)).mono ?_;rintro e w2 (⟨h0,rfl,rfl⟩|⟨h0,rfl,rfl⟩)
  ·exact absurd h0 (by decide)
  go_wp2_with fail;exact⟨rfl,sB HF.out (by decide) hg1⟩
 rw[if_neg (fun k=>k h2)] at hd;have v1:((V1:Int)==54156738319193)=true:=by rw[beq_iff_eq];omega
 have v2:(V1==54156738319193)=true:=by rw[beq_iff_eq];exact h2
 clear h2;go_wp2_with fail;refine(pU true 3 _ (by decide)).mono ?_;rintro e w2 (⟨h0,rfl,rfl⟩|⟨h0,rfl,rfl⟩)
 rotate_left
 ·exact absurd h0 (by decide)
 clear v1 v2;go_wp2_with fail;refine(hn2 _ hA1).mono ?_;rintro e w2 (⟨h3,rfl,hA2,hg2⟩|⟨h3,rfl,hg2⟩)
 rotate_left
 ·rw[if_pos h3] at hd;have HF:=hid hd;clear hd;go_wp2_with fail;exact⟨rfl,sB HF.out h3 (gbT hg1 hg2)⟩
 rw[if_neg (fun k=>k h3)] at hd;have hg2:=gbT hg1 hg2;clear hn2 hA1 hg1 h3;have m9:IntKind.u32.wrap (V2:Int)=(V2:Int):=by rw[IntKind.wrap_u32];omega
 have m10:(V2:Int)%4294967296=(V2:Int):=by omega
 go_wp2_with fail;refine(hn3 _ hA2).mono ?_;rintro e w3 (⟨h4,rfl,hA3,hg3⟩|⟨h4,rfl,hg3⟩)
 rotate_left
 ·rw[if_pos h4] at hd;have HF:=hid hd;clear hd;go_wp2_with fail;exact⟨rfl,sB HF.out h4 (gbT hg2 hg3)⟩
 rw[if_neg (fun k=>k h4)] at hd;have hg3:=gbT hg2 hg3;obtain⟨A,hAe⟩:∃A,A=a+48+32+16:=⟨_,rfl⟩;rw[<-hAe] at hA3;rw[show(a:Int)+96=(A:Int) by omega] at hd;have hAb:A<=960096:=by omega
 have huo:=YP (s:=s.data.toList) (a:=(A:Int));have hum:=fun W=>aQp s (A:Int) W (by omega) (by omega) (by omega)
 obtain⟨U1,U2,U3,hU⟩:∃U1 U2 U3,cG s.data.toList (A:Int)=(U1,U2,U3):=⟨_,_,_,rfl⟩;rw[hU] at hum huo hd;simp only at hum huo hd;have HD:=hid hd;have HUO:=hid huo;have hX0:=Arr.new w3 106 [.string ⟨#[]⟩,.int .i64 (V3:Int),.slice none 0 0];change Arr (w3.alloc (.cells #[.string ⟨#[]⟩,.int .i64 (V3:Int),.slice none 0 0] 106)) _ _ _ at hX0;have hAx:=Arr.alloc hA3 (.cells #[.string ⟨#[]⟩,.int .i64 (V3:Int),.slice none 0 0] 106);have hgx:=gbT hg3 (gbB (g:=some b) (bD (aB _ w3) (.cells #[.string ⟨#[]⟩,.int .i64 (V3:Int),.slice none 0 0] 106)));have d0:=Arr.cell hAx (i:=0) rfl
 have d1:=Arr.cell hAx (i:=1) rfl;have d4:=Arr.cell hAx (i:=4) rfl;clear hn3 hA2 hg2 h4 hAe hU hd huo hA3 m9 m10;go_upto_region 4 with fail;obtain⟨z,hz⟩:∃z,z=w3.heap.size:=⟨_,rfl⟩;have hbz:b<z:=by have:=hg3.size;omega
 have hwz:w.heap.size<=z:=by have:=hg3.size;omega
 rw[<-hz] at hX0 ⊢;generalize w3.alloc (.cells #[.string ⟨#[]⟩,.int .i64 (V3:Int),.slice none 0 0] 106)=w4 at*
 clear hz hg3
 go_cut [8,9,10] (fun c8 c9 c10 wx=>c8=.string (mkS U1)/\c9=.int .i64 U2/\c10=.int .i64 U3/\Below w4.heap.size w4 wx)
 case first=>
  obtain⟨B3,hB3⟩:∃B3,B3=w4.heap.size:=⟨_,rfl⟩;have HB3:=hid hB3;have hS0:=kZ (B:=B3) (w0:=w4) ⟨d0,d1,d4,aB _ _,by omega⟩ (aB w4.heap.size w4).drew;clear hB3 d0 d1 d4
  go_region_held3 (fun w'=>w'.cell? ⟨b,0,none⟩=some (.string s)/\w'.cell? ⟨b,1,none⟩=some (.int .i64 (A:Int))/\w'.cell? ⟨b,4,none⟩=some (.int .i64 0)/\Below B3 w4 w'/\B3<=w'.heap.size)
   (first
    |with_reducible assumption
    |with_reducible exact kZ (by assumption) (by assumption))
   (first
    |(go_at_call 110;refine(hum _).mono ?_;rintro e w5 ⟨rfl,hb5⟩))
  have hS5:=(show w5.cell? ⟨b,0,none⟩=some (.string s)/\w5.cell? ⟨b,1,none⟩=some (.int .i64 (A:Int))/\w5.cell? ⟨b,4,none⟩=some (.int .i64 0)/\Below B3 w4 w5/\B3<=w5.heap.size by assumption);go_wp2_with fail;go_meet;exact⟨rfl,rfl,rfl,by rw[<-HB3.out];exact hS5.2.2.2.1⟩
 case rest=>
  obtain⟨rfl,rfl,rfl,hb5⟩:=hcut;have hA5:=Arr.below hAx hb5 (Arr.lt hAx);have hX5:=hX0.below hb5 (Arr.lt hX0);have hg5:=gbT hgx (gbB hb5);clear hum d0 d1 d4 hAx hX0 hgx hb5;go_wp2_with fail;refine(ES b s A U2 U3 _ _ _ wc hA5).mono ?_;rintro e w6 (⟨rfl,rfl,hA6,hg6⟩|⟨h0,rfl,rfl⟩)
  rotate_left
  ·have hd:=HD.out;rw[if_pos h0] at hd;have HF:=hid hd;clear hd;go_wp2_with fail;exact⟨rfl,sB HF.out h0 hg5⟩
  have hd:=HD.out;rw[if_neg (fun k=>k rfl)] at hd;obtain⟨k1,k2,k3⟩:=HUO.out rfl;obtain⟨p,rfl⟩:∃p:Nat,U2=(p:Int):=⟨U2.toNat,by omega⟩;have hpb:p<=960368:=by omega
  obtain⟨C,hC⟩:∃C,C=U1.length+2:=⟨_,rfl⟩;have hCb:2<=C/\C<=258:=by omega
  rw[show(U1.length:Int)+2=(C:Int) by omega] at hd;have hX6:=hX5.grown hg6 (by simp only[ne_eq,iP];omega);have hg6:=gbT hg5 hg6;have hUs:(mkS U1).size<=256:=by rw[cP];exact k1
  have hco:=WV (mkS U1) (V3:Int) (.slice none 0 0) rfl (w6.setCell ⟨z,0,none⟩ (.string (mkS U1))) (by omega);rw[show((mkS U1).size:Int)+2=(C:Int) by rw[cP];omega] at hco;have hX7:=hX6.set 0 (.string (mkS U1));have hA7:BRd (w6.setCell ⟨z,0,none⟩ (.string (mkS U1))) b s p (.slice none 0 0) (.slice none 0 0) (.int .i64 0):=Arr.other hA6 ⟨z,0,none⟩ (by simp only[ne_eq];omega) _;have hg7:w.grownBy (w6.setCell ⟨z,0,none⟩ (.string (mkS U1))) (some b):=⟨hg6.os,hg6.tape,hg6.output,by have:=hg6.size;simpa using this,fun k hk hne=>by
   rw[kT w6 ⟨z,0,none⟩ k _ (by simp only[ne_eq];omega)];exact hg6.block k hk hne⟩
  have d0:=hX6.cell (i:=0) rfl;have f0:=hX6.free 0;have e0:=hX7.cell (i:=0) rfl;have e1:=hX7.cell (i:=1) rfl;have e2:=hX7.cell (i:=2) rfl;have HD:=hid hd;clear hd hC hA5 hX5 hg5 hA6 k2 k3 HUO;go_wp2_with fail;refine hco.mono ?_;rintro e w8 ⟨rfl,hb8⟩;have hA8:=Arr.below hA7 hb8 (Arr.lt hA7);have hX8:=hX7.below hb8 (Arr.lt hX7);have hg8:=gbT hg7 (gbB hb8);have d4:=Arr.cell hA8 (i:=4) rfl;have f4:=Arr.free hA8 4;have hA9:BRd (w8.setCell ⟨b,4,none⟩ (.int .i64 (C:Int))) b s p (.slice none 0 0) (.slice none 0 0) (.int .i64 (C:Int)):=Arr.set hA8 4 _
  have hX9:=hX8.other ⟨b,4,none⟩ (by simp only[ne_eq];omega) (.int .i64 (C:Int));have hg9:=gbT hg8 (gbS w8 b 4 (.int .i64 (C:Int)));clear hco d0 f0 e0 e1 e2 hX6 hX7 hA7 hg6 hg7 hb8;go_wp2_with fail;clear d4 f4;generalize w8.setCell ⟨b,4,none⟩ (.int .i64 (C:Int))=w9 at*
  clear hX8 hA8 hg8;refine(aQo b s p C w9 hA9 (by omega) (by omega) hCb.1 hCb.2).mono ?_;rintro e w10 (⟨h0,hce,rfl,hg10⟩|⟨rfl,p2,vt,vc,T,ch,hce,hA10,hg10,hrt,hrc,hT1,hT2,hT3,hT4,hT5,hT6⟩)
  ·have hd:=HD.out;rw[if_pos h0] at hd;have HF:=hid hd;obtain⟨E,hE⟩:∃E,E=(cV s.data.toList (p:Int) (C:Int)).2.2:=⟨_,rfl⟩;rw[<-hE] at h0 HF ⊢;clear hd hE hce HD;go_wp2_with fail;exact⟨rfl,sB HF.out h0 (gbT hg9 hg10)⟩
  have hd:=HD.out;have hcok:=LG (s:=s.data.toList) (at':=(p:Int)) (codes:=(C:Int));have hsy:=aQm b s p2 C vt vc T ch w10 hA10 (by omega) hT6 hrt hrc hT1 hT2 hT3 hT4 hT5 hCb.1 hCb.2;unfold EU at hsy;rw[hce] at hd hcok;obtain⟨L,P,K,hL⟩:∃L P K,gX s.data.toList (p2:Int) T ch ((C:Int)-1)=(L,P,K):=⟨_,_,_,rfl⟩;rw[hL] at hsy hcok hd;simp only at hsy hcok hd;rw[HL.out] at hcok;have hX10:=hX9.grown hg10 (by simp only[ne_eq,iP];omega);have hg10:=gbT hg9 hg10;have hzl:=Arr.lt hX10;have HD:=hid hd;have HCK:=hid hcok
  clear hL hce hd hcok hrt hrc hT1 hT2 hT3 hT4 hT5 hX9 hg9 hA9 hA10;go_wp2_with fail;refine hsy.mono ?_;rintro e w11 (⟨h0,⟨v,rfl,ho⟩,⟨p3,rfl,hA11⟩,hg11⟩|⟨h0,rfl,hg11⟩)
  rotate_left
  ·have hd:=HD.out;rw[if_pos h0] at hd;have HF:=hid hd;clear hd hsy;go_wp2_with fail;exact⟨rfl,sB HF.out h0 (gbT hg10 hg11)⟩
  subst h0;have hd:=HD.out;rw[if_neg (fun k=>k rfl)] at hd;obtain⟨_,_,_,_,k4,_,_⟩:=HCK.out rfl;obtain⟨av,cv,rfl,_,_,_⟩:=(OwI.rd ho).open;have hX11:=hX10.grown hg11 (by simp only[ne_eq,iP];omega);have hg11:=gbT hg10 hg11;have hX12:=hX11.set 2 (.slice av L.length cv);have hA12:BRd (w11.setCell ⟨z,2,none⟩ (.slice av L.length cv)) b s p3 vt vc (.int .i64 (C:Int)):=Arr.other hA11 ⟨z,2,none⟩ (by simp only[ne_eq];omega) _;have hg12:w.grownBy (w11.setCell ⟨z,2,none⟩ (.slice av L.length cv)) (some b):=⟨hg11.os,hg11.tape,hg11.output,by have:=hg11.size;simpa using this,fun k hk hne=>by
   rw[kT w11 ⟨z,2,none⟩ k _ (by simp only[ne_eq];omega)];exact hg11.block k hk hne⟩
  have ho12:OwI (w11.setCell ⟨z,2,none⟩ (.slice av L.length cv)) w10.heap.size (.slice av L.length cv) L:=Ow.kept ho (gbS w11 z 2 _) (iL ho hzl);have hE12:=hEV _ hg12;have hre:=aNu (mkS U1) (V3:Int) (.slice av L.length cv) L (R:Int) _ hE12 (by omega) (OwI.rd ho12) (by omega) (by omega) (by omega) (by omega) (by omega);have hrs:=YO (mkS U1) (V3:Int) L (R:Int);obtain⟨Q,RE,hR⟩:∃Q RE,rest (mkS U1) (V3:Int) L (R:Int)=(Q,RE):=⟨_,_,rfl⟩;rw[hR] at hre hrs hd;simp only at hre hrs hd;have d2:=hX11.cell (i:=2) rfl;have f2:=hX11.free 2;have e0:=hX12.cell (i:=0) rfl
  have e1:=hX12.cell (i:=1) rfl;have e2:=hX12.cell (i:=2) rfl;have HD:=hid hd;clear hR hd hX10 hg10 hX11 hg11 hA11 ho ho12 hE12 hX12 hsy HCK hEV;go_wp2_with fail;refine hre.mono ?_;rintro e w13 ⟨rfl,hb13⟩;have hA13:=Arr.below hA12 hb13 (Arr.lt hA12);have hg13:=gbT hg12 (gbB hb13);clear hre d2 f2 e0 e1 e2 hA12 hg12 hb13;go_wp2_with fail;refine(vC RE w13).mono ?_;rintro e w13' (⟨rfl,rfl,rfl⟩|⟨h0,rfl,rfl⟩)
  rotate_left
  ·have hd:=HD.out;rw[if_pos h0] at hd;have HF:=hid hd;clear hd;go_wp2_with fail;exact⟨rfl,sB HF.out h0 hg13⟩
  have hd:=HD.out;rw[if_neg (fun k=>k rfl)] at hd;have hrs:=hrs rfl;obtain⟨M,hM⟩:∃M,M=52*R:=⟨_,rfl⟩;have m8:aI.wrap (52*(R:Int))=(M:Int):=by rw[aM];omega
  have m8':52*(R:Int)=(M:Int):=by omega
  have hMb:M<=18720:=by omega
  rw[m8'] at hd;have hup:=aQv Q M w13' (by omega) (by omega);have hul:=aAl (p:=Q.data.toList) (most:=(M:Int));obtain⟨O,OE,hO⟩:∃O OE,fR Q.data.toList (M:Int)=(O,OE):=⟨_,_,rfl⟩;rw[hO] at hup hul hd;simp only at hup hul hd;have HD:=hid hd;clear hO hd hM;go_wp2_with fail;refine hup.mono ?_;rintro e w14 ⟨rfl,hb14⟩;have hA14:=Arr.below hA13 hb14 (Arr.lt hA13);have hg14:=gbT hg13 (gbB hb14);clear hup hA13 hg13 hb14;go_wp2_with fail;refine(vC OE w14).mono ?_;rintro e w14' (⟨rfl,rfl,rfl⟩|⟨h0,rfl,rfl⟩)
  rotate_left
  ·have hd:=HD.out;rw[if_pos h0] at hd;have HF:=hid hd;clear hd;go_wp2_with fail;exact⟨rfl,sB HF.out h0 hg14⟩
  have hd:=HD.out;rw[if_neg (fun k=>k rfl)] at hd;have HF:=hid hd;have hul:=hul rfl;clear hd;go_wp2_with fail
  go_ret2
  exact .inr ⟨O,V2,p3,vt,vc,_,rfl,hA14,hg14,HF.out,by omega,hv2⟩
theorem aQ5 (p q:Addr) (w:World):
  CallsD Tryz.prog 104 #[.pointer (some p),.pointer (some q)] .returning w fun e u' w'=>e=.returned (.tuple #[])/\u'=.returning/\w'=w:=by
 refine FY Tryz.func104 rfl fun c₀ cs hu=>?_
 apply wpS_seq;apply wpS_region;simp[wpOpsS,go_sem,recoverD,hu,Tryz.ntmps104,Exit.thenS];refine wpS_of_wp ?_;go_wp2
 cases c₀
 simp_all [bodyPostS,results,Tryz.f104]
theorem aQ6 (v:Value) (xT:TypeId) (w:World):(BA (.iface 187 v) xT 187 true).run Tryz.prog w=.ok (.tuple #[v,.bool true]) w:=by
 simp[BA,run_underlying Tryz.underlying187]
theorem aAw {w W:World} {z:Nat} {x0 x1 x2 x3 x7:Value} (hA:Arr W z 61 [x0,x1,x2,x3]) (hB:Arr W (z+1) 27 [x7]) (hb:Below z w W) (y0 y1 y2 y3 y7:Value):
  Arr (((((W.setCell ⟨z,0,none⟩ y0).setCell ⟨z,1,none⟩ y1).setCell ⟨z,2,none⟩ y2).setCell ⟨z,3,none⟩ y3).setCell ⟨z+1,0,none⟩ y7) z 61 [y0,y1,y2,y3]/\
  Arr (((((W.setCell ⟨z,0,none⟩ y0).setCell ⟨z,1,none⟩ y1).setCell ⟨z,2,none⟩ y2).setCell ⟨z,3,none⟩ y3).setCell ⟨z+1,0,none⟩ y7) (z+1) 27 [y7]/\
  Below z w (((((W.setCell ⟨z,0,none⟩ y0).setCell ⟨z,1,none⟩ y1).setCell ⟨z,2,none⟩ y2).setCell ⟨z,3,none⟩ y3).setCell ⟨z+1,0,none⟩ y7):=by
 obtain⟨h1,h2⟩:=oZ hA hb y0 y1 y2 y3;have hne:(z+1)≠z:=by omega
 have hB4:=(((hB.other ⟨z,0,none⟩ (by simp) y0).other ⟨z,1,none⟩ (by simp) y1).other ⟨z,2,none⟩ (by simp) y2).other ⟨z,3,none⟩ (by simp) y3;exact⟨h1.other ⟨z+1,0,none⟩ (by simp) y7,hB4.set 0 y7,h2.setCell (p:=⟨z+1,0,none⟩) (Nat.le_succ _) y7⟩
theorem aQ7 {P:Program} {fn:Func} {p q:Tmp} {tx ty:TypeId} (h:fn.results=#[.cell p tx,.cell q ty]) (tmps:Array Value) (w:World) (ax ay:Addr) (vx vy:Value)
  (hp:tmps.getD p undef=.pointer (some ax)) (hq:tmps.getD q undef=.pointer (some ay))
  (hx:(loadVar tx ax).run P w=.ok vx w) (hy:(loadVar ty ay).run P w=.ok vy w):
  (results fn tmps).run P w=.ok (.tuple #[vx,vy]) w:=by
 have hp':tmps[p]?.getD undef=.pointer (some ax):=by simpa using hp
 have hq':tmps[q]?.getD undef=.pointer (some ay):=by simpa using hq
 simp[results,h,hp',hq',asAddr,hx,hy,Result.andThen]
theorem FB {W:World} {z:Nat} {y0 y1 y2 y3 u:Value} {tmps:Array Value} (hA:Arr W z 61 [y0,y1,y2,y3]) (hB:Arr W (z+1) 27 [u]) (_hu:u.oneCell'=true)
  (t6:tmps.getD 6 undef=.pointer (some ⟨z,0,none⟩)) (t7:tmps.getD 7 undef=.pointer (some ⟨z+1,0,none⟩)):
  (results Tryz.f94 tmps).run Tryz.prog W=.ok (.tuple #[.agg #[y0,y1,y2,y3],u]) W:=by
 have c7:=hB.cell (i:=0) rfl;exact aQ7 rfl tmps W ⟨z,0,none⟩ ⟨z+1,0,none⟩ _ _ t6 t7 (run_loadVar_row W z 61 61 _ (0,0) _ hA Tryz.underlying61 rfl YN) (by simp[go_sem,c7])
theorem aQ8 (z:Nat) (E:Int) (older:List PanicEntry) (w:World) (y0 y1 y2 y3 x7:Value) (g6:Arr w z 61 [y0,y1,y2,y3]) (g7:Arr w (z+1) 27 [x7]):
  CallsD Tryz.prog 104 #[.pointer (some ⟨z,0,none⟩),.pointer (some ⟨z+1,0,none⟩)] (.panicking ({v:=.iface 187 (.agg #[.int .i64 E]),recovered:=false}::older)) w fun e u' w'=>
   e=.returned (.tuple #[])/\u'=.panicking ({v:=.iface 187 (.agg #[.int .i64 E]),recovered:=true}::older)/\Arr w' z 61 [.string ⟨#[]⟩,.int .u32 0,.int .i64 0,.int .i64 0]/\Arr w' (z+1) 27 [.int .i64 E]/\Below z w w':=by
 refine FY Tryz.func104 rfl fun c₀ cs hu=>?_
 apply wpS_seq;apply wpS_region;simp[wpOpsS,go_sem,recoverD,hu,Tryz.ntmps104,Exit.thenS];refine wpS_of_wp ?_;simp only[lL,lM,lN,lO,iG,gE,aK,aH,aG];have hta:=aQ6 (.agg #[.int .i64 E]);go_wp2_with fail;have g6':=g6.alloc (.cells #[.int .i64 E] 187);have g7':=g7.alloc (.cells #[.int .i64 E] 187);have hc0:=bS w (.int .i64 E) 187;have hzl:=g7.lt;have hBz:Below z w (w.alloc (.cells #[.int .i64 E] 187)):=(aB z w).alloc (by omega) _
 generalize w.alloc (.cells #[.int .i64 E] 187)=w1 at*
 obtain⟨sb,hsb⟩:∃sb,sb=w.heap.size:=⟨_,rfl⟩;rw[<-hsb] at hc0 hzl ⊢;clear hsb g6 g7;have hBd:=hBz.drew;have h6:Arr w1.drew z 61 [y0,y1,y2,y3]:=g6';have h7:Arr w1.drew (z+1) 27 [x7]:=g7';have hS0:w1.drew.cell? ⟨sb,0,none⟩=some (.int .i64 E):=hc0;refine wp_region_held_drew (S:=fun w'=>w'.cell? ⟨sb,0,none⟩=some (.int .i64 E)) (by kernel_rfl) hc0 (fun hHeld=>?_);generalize w1.drew=w2 at*
 obtain⟨k6,k6b⟩:=oZ h6 hBd (.string ⟨#[]⟩) (.int .u32 0) (.int .i64 0) (.int .i64 0);obtain⟨q6,q7,qb⟩:=aAw h6 h7 hBd (.string ⟨#[]⟩) (.int .u32 0) (.int .i64 0) (.int .i64 0) (.int .i64 E);have k7:=(((h7.other ⟨z,0,none⟩ (by simp) (.string ⟨#[]⟩)).other ⟨z,1,none⟩ (by simp) (.int .u32 0)).other ⟨z,2,none⟩ (by simp) (.int .i64 0)).other ⟨z,3,none⟩ (by simp) (.int .i64 0);have d0:=h6.cell (i:=0) rfl;have d1:=h6.cell (i:=1) rfl;have d2:=h6.cell (i:=2) rfl;have d3:=h6.cell (i:=3) rfl;have f0:=h6.free 0;have f1:=h6.free 1;have f2:=h6.free 2;have f3:=h6.free 3;have e7:=k7.cell (i:=0) rfl
 have f7:=k7.free 0;have hS1:((((w2.setCell ⟨z,0,none⟩ (.string ⟨#[]⟩)).setCell ⟨z,1,none⟩ (.int .u32 0)).setCell ⟨z,2,none⟩ (.int .i64 0)).setCell ⟨z,3,none⟩ (.int .i64 0)).cell? ⟨sb,0,none⟩=some (.int .i64 E):=by
  rw[iQ _ _ _ _ (tH (by omega)),iQ _ _ _ _ (tH (by omega)),iQ _ _ _ _ (tH (by omega)),iQ _ _ _ _ (tH (by omega))];exact hS0
 have hS2:(((((w2.setCell ⟨z,0,none⟩ (.string ⟨#[]⟩)).setCell ⟨z,1,none⟩ (.int .u32 0)).setCell ⟨z,2,none⟩ (.int .i64 0)).setCell ⟨z,3,none⟩ (.int .i64 0)).setCell ⟨z+1,0,none⟩ (.int .i64 E)).cell? ⟨sb,0,none⟩=some (.int .i64 E):=by rw[iQ _ _ _ _ (tH (by omega))];exact hS1
 clear g6' g7' hc0 hBz hBd h6 h7 k6 k6b k7;refine wpAnyH_take (i:=1) (oi:=?oi1) (v:=?v1) ?hi1 (by kernel_rfl) (by kernel_rfl) (by kernel_rfl) ?hq1 ?hy1 hS0 ?_
 case hi1=>(simp only[aR,aS,aP];rfl)
 case hq1=>exact fun _ _ _ h=>h
 case hy1=>(refine Or.inl ⟨by rfl,?_⟩;intro w' hSw;(try dsimp only at hSw);(try go_simp);try with_reducible rfl)
 try simp only[aJ,aK,aH,aG]
 refine wpAnyH_take (i:=2) (oi:=?oi2) (v:=?v2) ?hi2 (by kernel_rfl) (by kernel_rfl) (by kernel_rfl) ?hq2 ?hy2 hS0 ?_
 case hi2=>(simp only[aR,aS,aP];rfl)
 case hq2=>exact fun _ _ _ h=>h
 case hy2=>(refine Or.inl ⟨by rfl,?_⟩;intro w' hSw;(try dsimp only at hSw);(try go_simp);try with_reducible rfl)
 try simp only[aJ,aK,aH,aG]
 refine fL (rs:=[0]) (by kernel_rfl) (by simp) ?_;refine fA rfl (fun K hK=>?_) fM;go_simp;refine hK.out _ _ ?_ (fun _=>?_)
 ·exact hS0
 try simp only[aJ,aK,aH,aG]
 refine fL (rs:=[3]) (by kernel_rfl) (by simp) ?_;refine fA rfl (fun K hK=>?_) fM;go_simp;refine hK.out _ _ ?_ (fun _=>?_)
 ·first|with_reducible exact hS1|with_reducible exact hS2
 try simp only[aJ,aK,aH,aG]
 refine fL (rs:=[4]) (by kernel_rfl) (by simp) ?_;refine fA rfl (fun K hK=>?_) fM;go_simp;refine hK.out _ _ ?_ (fun _=>?_)
 ·first|with_reducible exact hS1|with_reducible exact hS2
 try simp only[aJ,aK,aH,aG]
 refine wpAnyH_done (by kernel_rfl) ?_ _;go_wp2_with fail;refine⟨rfl,.panicking ({v:=.iface 187 (.agg #[.int .i64 E]),recovered:=true}::older),?_,.tuple #[],?_,rfl,rfl,q6,q7,qb⟩
 ·rfl
 ·exact qX rfl _ _ _
theorem aAx {w W:World} {s:List UInt8} {a room:Int} {z:Nat} {E:Int} {tmps:Array Value} {y0 y1 y2 y3 x7:Value} (h:cL s a room=(cW,0,0,E)) (hE:E≠0) (hz:w.heap.size=z)
  (g6:Arr W z 61 [y0,y1,y2,y3]) (g7:Arr W (z+1) 27 [x7]) (hb:Below z w W)
  (t6:tmps.getD 6 undef=.pointer (some ⟨z,0,none⟩)) (t7:tmps.getD 7 undef=.pointer (some ⟨z+1,0,none⟩)):
  Leaves Tryz.prog Tryz.f94 tmps (fun e w'=>EV w w' s a room e) [{target:=.fn (.func 104) #[.pointer (some ⟨z,0,none⟩),.pointer (some ⟨z+1,0,none⟩)],args:=#[]}] (.panicking (oC E)) W:=by
 refine leaves_cons (f:=104) (args:=#[.pointer (some ⟨z,0,none⟩),.pointer (some ⟨z+1,0,none⟩)]) (by simp) (by simp[go_sem]) ?_;refine(aQ8 z E [] W y0 y1 y2 y3 x7 g6 g7).mono ?_;rintro e u' w' ⟨rfl,rfl,h6,h7,hb'⟩;exact⟨_,FB h6 h7 rfl t6 t7,mQ h hE (hz▸hb.trans hb')⟩
theorem aAy (w:World) (v:Value):∀W,W=(w.alloc (.cells #[.string ⟨#[]⟩,.int .u32 0,.int .i64 0,.int .i64 0] 61)).alloc (.cells #[v] 27)->
  (Arr W w.heap.size 61 [.string ⟨#[]⟩,.int .u32 0,.int .i64 0,.int .i64 0]/\Arr W (w.heap.size+1) 27 [v])/\Below w.heap.size w W/\W.heap.size=w.heap.size+1+1:=by
 rintro W rfl;have a1:=Arr.new w 61 [.string ⟨#[]⟩,.int .u32 0,.int .i64 0,.int .i64 0];have a2:=Arr.new (w.alloc (.cells #[.string ⟨#[]⟩,.int .u32 0,.int .i64 0,.int .i64 0] 61)) 27 [v];have e:∀(W:World) (o:Obj),(W.alloc o).heap.size=W.heap.size+1:=fun W o=>by simp
 rw[e] at a2;refine⟨⟨a1.alloc _,a2⟩,?_,by simp⟩;exact((aB _ w).alloc (aA _) _).alloc (by simp) _
theorem MW (s:ByteArray) (a room:Int) (w:World) (hE:iF w) (hs:s.size<=120000) (ha1: -9223372036854775808<=a) (ha2:a<=9223372036854775807) (hr1: -9223372036854775808<=room) (hr2:room<=9223372036854775807):
  Calls Tryz.prog 94 #[.string s,.int .i64 a,.int .i64 room] w fun e w'=>EV w w' s.data.toList a room e:=by
 have hmf:∀(fn:Fn) (first cap:Array Value) (w:World),(Instr.makeFunc fn first cap).run Tryz.prog w=.ok (.func fn first cap) w:=fun _ _ _ _=>rfl
 obtain⟨⟨g6,g7⟩,hB0,hz0⟩:=aAy w (.int .i64 0) _ rfl;have hd:=wU s.data.toList a room;have hfit:=fun W=>ZU room W
 by_cases hbad:a<0\/room<1\/360<room
 ·rw[if_pos hbad] at hd;have HF:=hid hd;clear hd;obtain⟨⟨q6,q7⟩,qb,-⟩:=aAy w (.int .i64 1) _ rfl;clear g6 g7 hB0 hz0
  by_cases h1:a<0
  ·have u1:decide (a<0)=true:=decide_eq_true h1
   go_enter_defers Tryz.func94,Tryz.ntmps94
   go_wp2_with fail;exact⟨_,FB q6 q7 rfl rfl rfl,mQ HF.out (by decide) qb⟩
  have u1:decide (a<0)=false:=decide_eq_false h1;have hff:(decide (1<=room)&&decide (room<=360))=false:=by
   rw[Bool.and_eq_false_iff,decide_eq_false_iff_not,decide_eq_false_iff_not];omega
  rw[hff] at hfit
  go_enter_defers Tryz.func94,Tryz.ntmps94
  go_wp2_with fail;refine(hfit _).mono ?_;rintro e w' ⟨rfl,rfl⟩;go_wp2_with fail;exact⟨_,FB q6 q7 rfl rfl rfl,mQ HF.out (by decide) qb⟩
 obtain⟨A,rfl⟩:∃A:Nat,a=(A:Int):=⟨a.toNat,by omega⟩;obtain⟨R,rfl⟩:∃R:Nat,room=(R:Int):=⟨room.toNat,by omega⟩;have u1:decide ((A:Int)<0)=false:=decide_eq_false (by omega);have hff:(decide (1<=(R:Int))&&decide ((R:Int)<=360))=true:=by
  rw[Bool.and_eq_true,decide_eq_true_eq,decide_eq_true_eq];omega
 rw[hff] at hfit;clear hd hff
 go_enter_defers Tryz.func94,Tryz.ntmps94
 go_wp2_with fail;refine(hfit _).mono ?_;rintro e w' ⟨rfl,rfl⟩;generalize (w.alloc (.cells #[.string ⟨#[]⟩,.int .u32 0,.int .i64 0,.int .i64 0] 61)).alloc (.cells #[.int .i64 0] 27)=w0 at*
 obtain⟨z,hz⟩:∃z,w.heap.size=z:=⟨_,rfl⟩;rw[hz] at g6 g7 hB0 hz0 ⊢;have HZ:=hid hz;clear hz hfit;go_wp2_with fail;have hA0:BRd (w0.alloc (.cells #[.string s,.int .i64 (A:Int),.slice none 0 0,.slice none 0 0,.int .i64 0] 191)) w0.heap.size s A (.slice none 0 0) (.slice none 0 0) (.int .i64 0):=Arr.new w0 191 [.string s,.int .i64 (A:Int),.slice none 0 0,.slice none 0 0,.int .i64 0];have g6:=g6.alloc (.cells #[.string s,.int .i64 (A:Int),.slice none 0 0,.slice none 0 0,.int .i64 0] 191);have g7:=g7.alloc (.cells #[.string s,.int .i64 (A:Int),.slice none 0 0,.slice none 0 0,.int .i64 0] 191)
 have hB1:=hB0.alloc (o:=.cells #[.string s,.int .i64 (A:Int),.slice none 0 0,.slice none 0 0,.int .i64 0] 191) (by omega);rw[hz0] at hA0;generalize w0.alloc (.cells #[.string s,.int .i64 (A:Int),.slice none 0 0,.slice none 0 0,.int .i64 0] 191)=w1 at*
 have hz1:z+1+1<w1.heap.size:=Arr.lt hA0;clear hB0 hz0;refine(aQx (z+1+1) s A R w1 hA0 hs (by omega) (by omega) (by omega) (fun W hW=>hE.below (by rw[HZ.out];exact hB1.grown hW (by omega) (fun k hk=>by obtain rfl:=bW hk;omega)))).mono ?_;rintro e w2 (⟨E,hE0,hF,rfl,hg2⟩|⟨O,V,p,vt,vc,co,rfl,hA2,hg2,hD,hOl,hV⟩)
 ·have g6:=g6.grown hg2 (by simp only[ne_eq,iP];omega);have g7:=g7.grown hg2 (by simp only[ne_eq,iP];omega);have hB2:=hB1.grown hg2 (by omega) (fun k hk=>by obtain rfl:=bW hk;omega);have HF:=hid hF;clear hF;go_wp2_with fail;exact aAx HF.out hE0 HZ.out g6 g7 hB2 rfl rfl
 have g6:=g6.grown hg2 (by simp only[ne_eq,iP];omega);have g7:=g7.grown hg2 (by simp only[ne_eq,iP];omega);have hB2:=hB1.grown hg2 (by omega) (fun k hk=>by obtain rfl:=bW hk;omega);have hz2:=Nat.lt_of_lt_of_le hz1 hg2.size;have hsum:=fun W=>FA (mkS O) W (by rw[cP];omega)
 rw[fW] at hsum;obtain⟨Z,hZ⟩:∃Z,Z=(fG O).toNat:=⟨_,rfl⟩;rw[<-hZ] at hsum hD;have HD:=hid hD;clear hB1 hz1 hg2 hA0 hD hZ;go_wp2_with fail;refine(hsum _).mono ?_;rintro e w3 ⟨rfl,hb3⟩;have hA3:=Arr.below hA2 hb3 (Arr.lt hA2);have g6:=g6.below hb3 g6.lt;have g7:=g7.below hb3 g7.lt;have hB3:=hB2.trans (hb3.mono (by omega));clear hsum hA2 hB2 hb3
 by_cases hZV:Z=V
 rotate_left
 ·have v1:((Z:Int)==(V:Int))=false:=by rw[beq_eq_false_iff_ne];omega
  have v2:(Z==V)=false:=by rw[beq_eq_false_iff_ne];exact hZV
  have hD:=HD.out;rw[if_pos hZV] at hD;have HF:=hid hD;clear hD;go_wp2_with fail;refine(pU false 7 _ (by decide)).mono ?_;rintro e w4 (⟨h0,rfl,rfl⟩|⟨h0,rfl,rfl⟩)
  ·exact absurd h0 (by decide)
  go_wp2_with fail;exact aAx HF.out (by decide) HZ.out g6 g7 hB3 rfl rfl
 have v1:((Z:Int)==(V:Int))=true:=by rw[beq_iff_eq];omega
 have v2:(Z==V)=true:=by rw[beq_iff_eq];exact hZV
 have hD:=HD.out;rw[if_neg (fun k=>k hZV)] at hD;have HF:=hid hD;clear hD hZV;go_wp2_with fail;refine(pU true 7 _ (by decide)).mono ?_;rintro e w4 (⟨h0,rfl,rfl⟩|⟨h0,rfl,rfl⟩)
 rotate_left
 ·exact absurd h0 (by decide)
 obtain⟨q6,q7,qb⟩:=aAw g6 g7 hB3 (.string (mkS O)) (.int .u32 (V:Int)) (.int .i64 (A:Int)) (.int .i64 (p:Int)) (.int .i64 0);have k7:=(((g7.other ⟨z,0,none⟩ (by simp) (.string (mkS O))).other ⟨z,1,none⟩ (by simp) (.int .u32 (V:Int))).other ⟨z,2,none⟩ (by simp) (.int .i64 (A:Int))).other ⟨z,3,none⟩ (by simp) (.int .i64 (p:Int));have d0:=g6.cell (i:=0) rfl;have d1:=g6.cell (i:=1) rfl;have d2:=g6.cell (i:=2) rfl;have d3:=g6.cell (i:=3) rfl;have f0:=g6.free 0;have f1:=g6.free 1;have f2:=g6.free 2;have f3:=g6.free 3;have e7:=k7.cell (i:=0) rfl;have f7:=k7.free 0
 have b1:=Arr.cell hA3 (i:=1) rfl;clear g6 g7 hB3 k7 hA3;go_wp2_with fail;refine leaves_cons (f:=104) (args:=#[.pointer (some ⟨z,0,none⟩),.pointer (some ⟨z+1,0,none⟩)]) (by simp) (by simp[go_sem]) ?_;refine(aQ5 ⟨z,0,none⟩ ⟨z+1,0,none⟩ _).mono ?_;rintro e u' w'' ⟨rfl,rfl,rfl⟩;exact⟨_,FB q6 q7 rfl rfl rfl,by rw[HF.out,MG],by rw[HZ.out];exact qb⟩
end
section
open Go.RowKit Go Go.Shelf
attribute [local go_sem] Oper.semAt_some
abbrev aUk:=Prt×Int
def aVc (x:aUk):Array Value:=#[.agg #[.string x.1.t,.int .u32 x.1.y,.int .i64 x.1.a,.int .i64 x.1.z,.int .i64 x.1.r],.int .i64 x.2]
def aU5:List TypeId:=[89,93,27]
def aUy:List TypeId:=[147,34,9]
structure EY (B:Nat) (W W':World):Prop where
 bel:Below B W W'
 ty:mS aU5 none W W'
theorem EY.trans {B:Nat} {X Y Z:World} (h:EY B X Y) (k:EY B Y Z):EY B X Z:=⟨h.bel.trans k.bel,h.ty.trans k.ty⟩
theorem EY.of {B:Nat} {X Y:World} (h:Below X.heap.size X Y) (hB:B<=X.heap.size):EY B X Y:=⟨h.mono hB,.of_below h⟩
theorem EY.drew (B:Nat) (X:World):EY B X X.drew:=⟨(aB B X).drew,aA _,fun _ _ _ _ h _ _=>h⟩
theorem EY.drewN (B:Nat) (X:World) (n:Nat):EY B X (X.drewN n):=⟨⟨rfl,rfl,rfl,aA _,fun _ _=>rfl⟩,aA _,fun _ _ _ _ h _ _=>h⟩
theorem EY.set {B b i:Nat} {X:World} {l:List Value} (h:Arr X b 147 l) (hB:B<=b) (v:Value):EY B X (X.setCell ⟨b,i,none⟩ v):=
 ⟨(aB B X).setCell (p:=⟨b,i,none⟩) hB v,.box h (by unfold aU5;decide) v⟩
theorem EY.grown {B b:Nat} {X Y:World} {l:List Value} (h:X.grownBy Y (some b)) (ha:Arr X b 147 l) (hB:B<=b):EY B X Y:=
 ⟨(aB B X).grown h (by have:=ha.lt;omega) (fun k hk=>by cases hk;exact hB),.grownBox h ha (by unfold aU5;decide)⟩
abbrev JOk (B:Nat) (J:List aUk->World->Prop):Prop:=∀s X Y,J s X->EY B X Y->J s Y
abbrev YOk (n l B:Nat) (T:List aUk) (J Jx:List aUk->World->Prop):Prop:=∀pre x W1,J pre W1->B<=W1.heap.size->(∃r,T=pre++x::r)->
 YieldAt eA n Tryz.prog l (aVc x) W1 fun e W'=>(e=.returned (.bool true)/\J (pre++[x]) W'/\mS aUy none W1 W')\/(e=.returned (.bool false)/\Jx (pre++[x]) W')
def aUn (l:List Prt):List (BitVec 32):=l.map (fun p=>BitVec.ofInt 32 p.y)
theorem SRd.kept {W W':World} {b:Nat} {s:ByteArray} {a:Int} {v:Value} (h:SRd W b s a v) (k:mS aUy none W W'):SRd W' b s a v:=k.arr h (by unfold aUy;decide) (fun e=>by cases e)
theorem OwS.kept {W W':World} {B:Nat} {v:Value} {l:List (BitVec 32)} (h:OwS W B v l) (k:mS aUy none W W'):OwS W' B v l:=mS.own k h (by unfold aUy;decide)
theorem aXe {s:List UInt8} {a:Int} {pre T:List aUk} {acc:List Prt} {E:Int} (h:InT s a pre T) (h1:(hG s a).1=acc) (h2:(hG s a).2.2=E) (hE:E≠0):T=(pre++okP acc)++[(aUx,E)]:=by
 have:=h.bad (by rw[h2];exact hE);rw[h1,h2] at this;exact this
theorem aXf {w:World} (ty:TypeId) (base:Nat) (v:Value) (l:List (BitVec 32)) (hown:OwS w base v l) (g:Nat) (n:BitVec 32) (hc:w.cell? ⟨g,0,none⟩=some (.int .u32 (n.toNat:Int))) (hroom:(l.length+1)*4<=140737488355328) (hbase:base<=w.heap.size):
  ∃v' w',(Builtin.append_ #[80,80] ty #[v,.slice (some ⟨g,0,none⟩) 1 1]).run Tryz.prog w=.ok v' w'/\OwS w' base v' (l++[n])/\Below base w w'/\w.grownBy w' v.ownBlock:=by
 obtain⟨i,hi,hz,h2,h3⟩:=info_parts (show(Tryz.prog.info? 34).map (fun i=>(i.zero,i.size,i.bytes))=some (some (.int .u32 0),1,4) by kernel_rfl);obtain⟨v',w',q1,q2,q3,_⟩:=run_append_own (P:=Tryz.prog) w base 80 ty 34 i _ 1 4 Tryz.underlying80 hi hz h2 h3 rfl (by decide) v (aU2 l).length (aU2 l) hown ⟨g,0,none⟩ 1 1 [.int .u32 (n.toNat:Int)] rfl (fun j u' hj=>by
  cases j with
  |zero=>simp at hj;subst hj;simpa [Addr.add] using hc
  |succ j=>simp at hj) (fun u' hu=>by obtain rfl:=List.mem_singleton.1 hu;rfl) (by rw[aVb];simp only[maxLen];omega) (by rw[aVb];exact hroom) hbase
 refine⟨v',w',q1,?_,rC hown q3 hbase,q3⟩;unfold OwS aU2;rw[fI];unfold Ow;rw[aL];exact q2
theorem aVk {n l B:Nat} {T pre:List aUk} {J Jx:List aUk->World->Prop} {E:Int} {X:World} (hY:YOk n l B T J Jx) (hT:T=pre++[(aUx,E)]) (hJ:J pre X) (hB:B<=X.heap.size):
  ∃fn tmps assign body,(Instr.yield l #[.agg #[.string ⟨#[]⟩,.int .u32 0,.int .i64 0,.int .i64 0,.int .i64 0],.int .i64 E]).run Tryz.prog X=.ok (.round l fn tmps assign body) X/\
   RoundIn eA n Tryz.prog l fn tmps assign body X (fun e W'=>(∃c,e=.returned (.bool c))/\(J T W'\/∃p,Jx p W')):=by
 obtain⟨fn,tmps,assign,body,hy,hR⟩:=hY _ (aUx,E) X hJ hB ⟨[],hT⟩;refine⟨fn,tmps,assign,body,hy,hR.mono ?_⟩;rintro e W' (⟨rfl,hj,-⟩|⟨rfl,hj⟩)
 ·exact⟨⟨_,rfl⟩,.inl (by rw[hT];exact hj)⟩
 ·exact⟨⟨_,rfl⟩,.inr ⟨_,hj⟩⟩
theorem Arr.otherRow {w w':World} {z e B e' size n:Nat} {l:List Value} {v:Value} {xs:List Value} (h:Arr w z e l) (ho:w.ownsRow B e' size v n xs) (hg:w.grownBy w' v.ownBlock) (he:e≠e'):Arr w' z e l:=by
 refine h.grown hg ?_;rcases ho.2 with⟨rfl,_⟩|⟨g,cap,cur,rfl,_,hgc,_⟩
 ·exact fun q=>by cases q
 ·intro q;obtain rfl:=bW q;have h2:w.heap[z]? =some (.cells l.toArray e (0,0)):=h;rw[h2] at hgc
  injection hgc with hgc
  injection hgc with _ q2 _
  exact he q2
theorem aXg {y:Nat} (h:y<4294967296):(qZ 32 y).toNat=y:=by rw[BitVec.toNat_ofNat];exact Nat.mod_eq_of_lt h
theorem aVp {w0 w1 w2:World} {b z:Nat} {u0 u1:Value} (h:w1.cell? ⟨b,0,none⟩=some u0/\w1.cell? ⟨b,1,none⟩=some u1/\(∃y0 y1 y2 y3,Arr w1 z 61 [y0,y1,y2,y3])/\Below z w0 w1/\z+1<=w1.heap.size) (hb:Below w1.heap.size w1 w2):w2.cell? ⟨b,0,none⟩=some u0/\w2.cell? ⟨b,1,none⟩=some u1/\(∃y0 y1 y2 y3,Arr w2 z 61 [y0,y1,y2,y3])/\Below z w0 w2/\z+1<=w2.heap.size:=by
 obtain⟨h1,h2,⟨y0,y1,y2,y3,h3⟩,h4,h5⟩:=h;exact⟨(hb.cell (iO w1 _ h1)).trans h1,(hb.cell (iO w1 _ h2)).trans h2,⟨y0,y1,y2,y3,h3.below hb h3.lt⟩,h4.trans (hb.mono (by omega)),aW h5 hb.size⟩
theorem aXh {w0 w1:World} {b z:Nat} {u0 u1:Value} (h:w1.cell? ⟨b,0,none⟩=some u0/\w1.cell? ⟨b,1,none⟩=some u1/\(∃y0 y1 y2 y3,Arr w1 z 61 [y0,y1,y2,y3])/\Below z w0 w1/\z+1<=w1.heap.size) (hbz:b<z) (v0 v1 v2 v3:Value) (w2:World) (hw:w2=(((w1.setCell ⟨z,0,none⟩ v0).setCell ⟨z,1,none⟩ v1).setCell ⟨z,2,none⟩ v2).setCell ⟨z,3,none⟩ v3):w2.cell? ⟨b,0,none⟩=some u0/\w2.cell? ⟨b,1,none⟩=some u1/\(∃y0 y1 y2 y3,Arr w2 z 61 [y0,y1,y2,y3])/\Below z w0 w2/\z+1<=w2.heap.size:=by
 obtain⟨h1,h2,⟨y0,y1,y2,y3,h3⟩,h4,h5⟩:=h;have hB:Below z w1 w2:=by rw[hw];exact((((aB z w1).setCell (p:=⟨z,0,none⟩) (aA _) v0).setCell (p:=⟨z,1,none⟩) (aA _) v1).setCell (p:=⟨z,2,none⟩) (aA _) v2).setCell (p:=⟨z,3,none⟩) (aA _) v3
 have hA:Arr w2 z 61 [v0,v1,v2,v3]:=by rw[hw];exact(((h3.set 0 v0).set 1 v1).set 2 v2).set 3 v3
 exact⟨(hB.cell (p:=⟨b,0,none⟩) hbz).trans h1,(hB.cell (p:=⟨b,1,none⟩) hbz).trans h2,⟨v0,v1,v2,v3,hA⟩,h4.trans hB,by have:=hA.lt;omega⟩
def StQ (s:List UInt8) (R:Int) (P:List Prt×Int×Int) (g:Nat) (E:Int) (acc:List Prt) (a:Nat):Prop:=
 (E=0/\P=KQ s R g (a:Int) acc/\40<=R/\R<=360/\a<=8*s.length/\8*s.length+33<=g+a/\acc.length+g<=8*s.length+1)\/(E≠0/\P.1=acc/\P.2.2=E)
theorem aXi (s:List UInt8) (r:Int) (f:Nat) (a:Int) (acc:List Prt):KQ s r (f+1) a acc=if aO s.length a 48≠0 then(acc,a,aO s.length a 48)
  else if aE s a 48=0x177245385090 then(acc,(aUm s a (aUi (aUn acc))).1,(aUm s a (aUi (aUn acc))).2)
  else if aE s a 48≠0x314159265359 then(acc,a,3)
  else if(cL s a r).2.2.2≠0 then(acc,a,(cL s a r).2.2.2)
  else KQ s r f (cL s a r).2.2.1 (acc++[⟨(cL s a r).1,(cL s a r).2.1,a,(cL s a r).2.2.1,r⟩]):=rfl
theorem aXj (n:Nat) (hn:1<=n) (l b B0 k:Nat) (s:ByteArray) (v0:Value) (pre0 T:List aUk) (J Jx:List aUk->World->Prop) (W:World) (hs:s.size<=120000) (hk:k<s.size)
  (hA:SRd W b s ((8*k:Nat):Int) v0) (hbB:B0<=b) (hJ:JOk B0 J) (hJE:∀p X,J p X->iF X) (hY:YOk (n-1) l B0 T J Jx) (hIn:InT s.data.toList ((8*k:Nat):Int) pre0 T) (h0:J pre0 W):
  CallsIn eA n Tryz.prog 80 #[.pointer (some ⟨b,0,none⟩),.func (.yield l) #[] #[]] W fun e W'=>
   (e=.returned (.bool true)/\(hG s.data.toList ((8*k:Nat):Int)).2.2=0/\J (pre0++okP (hG s.data.toList ((8*k:Nat):Int)).1) W'/\∃v,SRd W' b s (hG s.data.toList ((8*k:Nat):Int)).2.1 v)\/
   (e=.returned (.bool false)/\(J T W'\/∃pre,Jx pre W')):=by
 refine tW Tryz.func80 rfl trivial ?_ rfl;simp only[Tryz.ntmps80,mY,cR,cX,lZ,mZ,lL,lM,lN,lO,iG,gE];have HL:=hid (show s.data.toList.length=s.size by simp);have hbW:b<W.heap.size:=Arr.lt hA;have hroom:=fun X=>aW8 s k X (by omega) (by omega)
 obtain⟨R,E0,hRE⟩:∃R E0,QU s.data.toList k=(R,E0):=⟨_,_,rfl⟩;rw[hRE] at hroom;have hrok:E0=0->40<=R/\R<=360/\R%40=0/\k+4<=s.size:=fun h=>by
  have h1:=aVv (s:=s.data.toList) (k:=k) (by rw[hRE];exact h);rw[hRE] at h1;refine⟨h1.1,h1.2.1,h1.2.2,?_⟩;refine Nat.le_of_not_lt fun q=>?_
  have:QU s.data.toList k=(0,2):=by unfold QU;rw[if_pos (by rw[HL.out];exact q)]
  rw[hRE] at this
  injection this with _ h2
  rw[h] at h2;exact absurd h2 (by decide)
 have hD:hG s.data.toList ((8*k:Nat):Int)=if E0≠0 then([],((8*k:Nat):Int),E0) else KQ s.data.toList R (8*s.size+1) ((8*k+32:Nat):Int) []:=by
  unfold hG;rw[show(((8*k:Nat):Int)/8).toNat=k by omega,hRE,HL.out];rfl
 obtain⟨P1,P2,P3,hP⟩:∃P1 P2 P3,hG s.data.toList ((8*k:Nat):Int)=(P1,P2,P3):=⟨_,_,_,rfl⟩;have herr:=fun acc E h1 h2 hE=>aXe (acc:=acc) (E:=E) hIn h1 h2 hE
 have hpart:=hIn.part;rw[hP] at hD herr hpart ⊢;simp only at herr hpart ⊢;obtain⟨A0,hA0⟩:∃A0,A0=8*k:=⟨_,rfl⟩;rw[<-hA0] at hA;have m1:(A0:Int).tdiv 8=(k:Int):=by rw[Int.tdiv_eq_ediv_of_nonneg (by omega)];omega
 have m1':aI.wrap (k:Int)=(k:Int):=by rw[aM];omega
 obtain⟨A1,hA1⟩:∃A1,A1=A0+32:=⟨_,rfl⟩;have m2:aI.wrap ((A0:Int)+32)=(A1:Int):=by rw[aM];omega
 have m2':(A0:Int)+32=(A1:Int):=by omega
 rw[show 8*k+32=A1 by omega] at hD;have HP:=hid hP;have HD:=hid hD;have c0:=Arr.cell hA (i:=0) rfl;have c1:=Arr.cell hA (i:=1) rfl;have hA1b:A1<=1000000:=by omega
 have hA0b:A0<=1000000:=by omega
 have HA0:=hid hA0;have HA1:=hid hA1;clear hD hP hIn hRE hA0 hA1
 gi_wp2_with fail
 refine wpIn_wide.2 ?_
 go_quiet (first|(go_at_call 91;exact OM (hroom _)))
 generalize hWn:W.drewN nq=W1 at*
 have hA1':SRd W1 b s (A0:Int) v0:=by rw[<-hWn];exact hA
 have hJ1:J pre0 W1:=hJ _ _ _ h0 (by rw[<-hWn];exact EY.drewN _ _ _);have d1:=Arr.cell hA1' (i:=1) rfl;have f1:=Arr.free hA1' 1;have hA2:SRd (W1.setCell ⟨b,1,none⟩ (.int .i64 (A1:Int))) b s (A1:Int) v0:=Arr.set hA1' 1 _;have d2:=Arr.cell hA2 (i:=2) rfl;have f2:=Arr.free hA2 2;have hA3:SRd ((W1.setCell ⟨b,1,none⟩ (.int .i64 (A1:Int))).setCell ⟨b,2,none⟩ (.slice none 0 0)) b s (A1:Int) (.slice none 0 0):=Arr.set hA2 2 _;have hJ3:J pre0 ((W1.setCell ⟨b,1,none⟩ (.int .i64 (A1:Int))).setCell ⟨b,2,none⟩ (.slice none 0 0)):=hJ _ _ _ hJ1 ((EY.set hA1' hbB _).trans (EY.set hA2 hbB _))
 have hbW3:=Arr.lt hA3;have HQ:=hid (show StQ s.data.toList R (P1,P2,P3) (8*s.size+1) E0 [] A1 by
  have h:=HD.out;have hA0:=HA0.out;have hA1:=HA1.out;unfold StQ;rw[HL.out]
  by_cases q:E0=0
  ·obtain⟨r1,r2,-,r4⟩:=hrok q;rw[if_neg (fun z=>z q)] at h;exact .inl ⟨q,h,r1,r2,by omega,by omega,by simp⟩
  ·rw[if_pos q] at h
   injection h with x1 x2
   injection x2 with x2 x3
   exact .inr ⟨q,x1,x3⟩)
 clear hWn hA h0 c0 c1 hrok hroom HD hbW m1 m1' HA0 HA1
 gi_wp2_with fail
 generalize (W1.setCell ⟨b,1,none⟩ (.int .i64 (A1:Int))).setCell ⟨b,2,none⟩ (.slice none 0 0)=W3 at*
 obtain⟨B1,hB1⟩:∃B1,B1=W3.heap.size:=⟨_,rfl⟩;have hbB1:b<B1:=by omega
 have hsz3:B1<=W3.heap.size:=by omega
 clear d1 f1 d2 f2 hA1' hJ1 hA2 m2 m2' hB1 hbW3
 gi_loopg [4,6,7,8] (8*s.size+1) (fun g c4 c6 _c7 _c8 wr=>∃(E:Int) (acc:List Prt) (a:Nat) (v:Value),c4=.bool false/\c6=.int .i64 E/\J (pre0++okP acc) wr/\SRd wr b s (a:Int) v/\OwS wr B1 v (aUn acc)/\B1<=wr.heap.size/\Hid (StQ s.data.toList R (P1,P2,P3) g E acc a))
 case atStart=>exact⟨E0,[],A1,.slice none 0 0,rfl,rfl,by simpa [okP] using hJ3,hA3,Ow.nil _ _ _,hsz3,HQ⟩
 case round=>
  clear hJ3 hA3 HQ hsz3;obtain⟨E,acc,a,v,rfl,rfl,hJr,hAr,hor,hszr,HQ⟩:=hrel;rcases HQ.out with⟨rfl,hP',hR1,hR2,ha1,ha2,ha3⟩|⟨hE0,hp1,hp3⟩
  rotate_left
  ·have t1:(E==0)=false:=by rw[beq_eq_false_iff_ne];exact hE0
   have hT:=herr acc E hp1 hp3 hE0;obtain⟨fn,tmps,assign,body,hy,hR⟩:=aVk hY hT hJr (by omega);clear hp1 hp3 HQ herr hpart hE0 hT
   gi_wp2_with fail
   refine hR.mono ?_;rintro e W5 ⟨⟨c,rfl⟩,hfin⟩
   gi_wp2_with fail
   go_ret;exact .inr ⟨rfl,hfin⟩
  obtain⟨f,rfl⟩:∃f,gk=f+1:=⟨gk-1,by omega⟩;rw[aXi,HL.out] at hP';rw[HL.out] at ha1 ha2 ha3;have hg:=fun X=>sT s (a:Int) 48 X (by omega) (by decide) (by omega) (by omega)
  obtain⟨E1,hE1⟩:∃E1,E1=aO s.size (a:Int) 48:=⟨_,rfl⟩;obtain⟨V,hV⟩:∃V,V=aE s.data.toList (a:Int) 48:=⟨_,rfl⟩;rw[<-hE1,<-hV] at hg hP';have HPP:=hid hP';have c0:=Arr.cell hAr (i:=0) rfl;have c1:=Arr.cell hAr (i:=1) rfl;clear hE1 hV hP' HQ
  gi_wp2_with fail
  refine wpIn_wide.2 ?_
  go_quiet (first|(go_at_call 92;exact OM (hg _)))
  generalize hWn:wr.drewN nq=W4 at*
  have hA4:SRd W4 b s (a:Int) v:=by rw[<-hWn];exact hAr
  have hJ4:J (pre0++okP acc) W4:=hJ _ _ _ hJr (by rw[<-hWn];exact EY.drewN _ _ _);have ho4:OwS W4 B1 v (aUn acc):=by rw[<-hWn];exact hor
  have hs4:B1<=W4.heap.size:=by rw[<-hWn];exact hszr
  clear hWn hAr hJr hor hszr c0 c1 hg
  by_cases h1:E1=0
  rotate_left
  ·have t1:(E1 != 0)=true:=by rw[bne_iff_ne];exact h1
   have hP:=HPP.out;rw[if_pos h1] at hP
   injection hP with x1 x2
   injection x2 with x2 x3
   have hT:=herr acc E1 x1 x3 h1;obtain⟨fn,tmps,assign,body,hy,hR⟩:=aVk hY hT hJ4 (by omega);clear x1 x2 x3 herr hpart h1 hT
   gi_wp2_with fail
   refine hR.mono ?_;rintro e W5 ⟨⟨c,rfl⟩,hfin⟩
   gi_wp2_with fail
   go_ret;exact .inr ⟨rfl,hfin⟩
  subst h1;have hP:=HPP.out;rw[if_neg (fun z=>z rfl)] at hP
  by_cases h2:V=25779555029136
  ·rw[if_pos h2] at hP;subst h2;obtain⟨Q1,Q2,hQ⟩:∃Q1 Q2,aUm s.data.toList (a:Int) (aUi (aUn acc))=(Q1,Q2):=⟨_,_,rfl⟩;have hend:=aXc b B1 s a v (aUn acc) W4 hA4 ho4 hbB1 (by omega) (by omega);rw[hQ] at hend hP
   injection hP with x1 x2
   injection x2 with x2 x3
   have HX:=hid (show P1=acc/\P2=Q1/\P3=Q2 from⟨x1,x2,x3⟩);clear x1 x2 x3 hQ HPP
   gi_wp2_with fail
   refine⟨trivial,(callsIn_wide.2 hend).mono ?_⟩;rintro e W5 ⟨rfl,hg5,a',hA5,hpos⟩;have hJ5:=hJ _ _ _ hJ4 (EY.grown hg5 hA4 hbB);have hs5:=hg5.size
   by_cases h3:Q2=0
   ·subst h3;have HP2:=hid (hpos rfl);clear hpos hend herr hpart
    gi_wp2_with fail
    refine⟨fun _ _=>trivial,?_⟩
    gi_wp2_with fail
    go_ret;obtain⟨y1,y2,y3⟩:=HX.out;exact .inl ⟨rfl,y3,by rw[y1];exact hJ5,v,by rw[y2,<-HP2.out];exact hA5⟩
   ·have t1:(Q2==0)=false:=by rw[beq_eq_false_iff_ne];exact h3
    have hT:=herr acc Q2 HX.out.1 HX.out.2.2 h3;obtain⟨fn,tmps,assign,body,hy,hR⟩:=aVk hY hT hJ5 (by omega);clear hpos hend herr hpart h3 hT
    gi_wp2_with fail
    refine hR.mono ?_;rintro e W6 ⟨⟨c,rfl⟩,hfin⟩
    gi_wp2_with fail
    go_ret;exact .inr ⟨rfl,hfin⟩
  have u1:((V:Int)==25779555029136)=false:=by rw[beq_eq_false_iff_ne];omega
  have u1':(V==25779555029136)=false:=by rw[beq_eq_false_iff_ne];exact h2
  rw[if_neg h2] at hP
  by_cases h3:V=54156738319193
  rotate_left
  ·have u2:((V:Int)==54156738319193)=false:=by rw[beq_eq_false_iff_ne];omega
   have u2':(V==54156738319193)=false:=by rw[beq_eq_false_iff_ne];exact h3
   rw[if_pos h3] at hP
   injection hP with x1 x2
   injection x2 with x2 x3
   have HX:=hid (show P1=acc/\P3=3 from⟨x1,x3⟩);clear x1 x2 x3 HPP h2 h3 herr hpart
   gi_wp2_with fail
   gi_roundg 0
   case measure=>omega
   case rel=>exact⟨3,acc,a,v,rfl,rfl,hJ4,hA4,ho4,hs4,hid (.inr ⟨by decide,HX.out.1,HX.out.2⟩)⟩
  rw[if_neg (fun z=>z h3)] at hP;subst h3;have hdec:=fun X (hX:iF X)=>MW s (a:Int) R X hX (by omega) (by omega) (by omega) (by omega) (by omega)
  unfold EV at hdec;have hok:=YK (s:=s.data.toList) (at':=(a:Int)) (room:=R);obtain⟨D1,D2,D3,D4,hD⟩:∃D1 D2 D3 D4,cL s.data.toList (a:Int) R=(D1,D2,D3,D4):=⟨_,_,_,_,rfl⟩;rw[hD] at hdec hP hok;unfold wT at hdec;simp only at hdec hP hok;obtain⟨A',hA'⟩:∃A':Int,A'=if D4=0 then(a:Int) else 0:=⟨_,rfl⟩;rw[<-hA'] at hdec;have HA':=hid hA';clear hA';have hE4:=hJE _ _ hJ4;have HP2:=hid hP;have HOK:=hid hok;have c0:=Arr.cell hA4 (i:=0) rfl;have c1:=Arr.cell hA4 (i:=1) rfl;clear HPP u1 u1' h2 hD hP hok
  gi_wp2_with fail
  have hb46:Below W4.heap.size W4 (W4.alloc (.cells #[.string ⟨#[]⟩,.int .u32 0,.int .i64 0,.int .i64 0] 61)):=bD (aB _ _) _;have hE6:iF (W4.alloc (.cells #[.string ⟨#[]⟩,.int .u32 0,.int .i64 0,.int .i64 0] 61)):=hE4.below (bD (aB _ _) _);have hz6:Arr (W4.alloc (.cells #[.string ⟨#[]⟩,.int .u32 0,.int .i64 0,.int .i64 0] 61)) W4.heap.size 61 [.string ⟨#[]⟩,.int .u32 0,.int .i64 0,.int .i64 0]:=Arr.new W4 _ [_,_,_,_];generalize W4.alloc (.cells #[.string ⟨#[]⟩,.int .u32 0,.int .i64 0,.int .i64 0] 61)=W6 at*
  obtain⟨z,hz⟩:∃z,z=W4.heap.size:=⟨_,rfl⟩;rw[<-hz] at hz6 ⊢;have hzB:B1<=z:=by omega
  have hz1:0<z:=by have:=hE4.lt;omega
  have hzs:=Arr.lt hz6;have c0:=(hb46.cell (p:=⟨b,0,none⟩) (Arr.lt hA4)).trans c0;have c1:=(hb46.cell (p:=⟨b,1,none⟩) (Arr.lt hA4)).trans c1;have HZ:=hid hz;have hbz:b<z:=by omega
  clear hz hE4;refine wpIn_wide.2 ?_;have hS0:=aVp (w0:=W6) (z:=z) ⟨c0,c1,⟨_,_,_,_,hz6⟩,aB _ _,by omega⟩ (aB W6.heap.size W6).drew;have HE:=fun wx (h:wx.cell? ⟨b,0,none⟩=some (.string s)/\wx.cell? ⟨b,1,none⟩=some (.int .i64 (a:Int))/\(∃y0 y1 y2 y3,Arr wx z 61 [y0,y1,y2,y3])/\Below z W6 wx/\z+1<=wx.heap.size)=>show iF wx from(h.2.2.2.1.cell (p:=⟨0,0,none⟩) hz1).trans hE6
  go_region_held3 (fun wx=>wx.cell? ⟨b,0,none⟩=some (.string s)/\wx.cell? ⟨b,1,none⟩=some (.int .i64 (a:Int))/\(∃y0 y1 y2 y3,Arr wx z 61 [y0,y1,y2,y3])/\Below z W6 wx/\z+1<=wx.heap.size)
   (first
    |with_reducible assumption
    |with_reducible exact aVp (by assumption) (by assumption)
    |exact aXh (by assumption) hbz _ _ _ _ _ rfl)
   (first|(go_at_call 94;refine(hdec _ (HE _ (by assumption))).mono ?_;rintro e W7 ⟨rfl,hb7⟩;obtain⟨-,-,⟨y0,y1,y2,y3,hz7⟩,hb67,hs7⟩:=aVp (by assumption) hb7;have g0:=hz7.cell (i:=0) rfl;have g1:=hz7.cell (i:=1) rfl;have g2:=hz7.cell (i:=2) rfl;have g3:=hz7.cell (i:=3) rfl;have f0:=hz7.free 0;have f1:=hz7.free 1;have f2:=hz7.free 2;have f3:=hz7.free 3))
  have hz8:=(((hz7.set 0 (.string D1)).set 1 (.int .u32 D2)).set 2 (.int .i64 A')).set 3 (.int .i64 D3);have hb48:Below W4.heap.size W4 ((((W7.setCell ⟨z,0,none⟩ (.string D1)).setCell ⟨z,1,none⟩ (.int .u32 D2)).setCell ⟨z,2,none⟩ (.int .i64 A')).setCell ⟨z,3,none⟩ (.int .i64 D3)):=by
   rw[<-HZ.out] at hb46 ⊢;exact hb46.trans ((((hb67.setCell (p:=⟨z,0,none⟩) (aA _) _).setCell (p:=⟨z,1,none⟩) (aA _) _).setCell (p:=⟨z,2,none⟩) (aA _) _).setCell (p:=⟨z,3,none⟩) (aA _) _)
  change Arr ((((W7.setCell ⟨z,0,none⟩ (.string D1)).setCell ⟨z,1,none⟩ (.int .u32 D2)).setCell ⟨z,2,none⟩ (.int .i64 A')).setCell ⟨z,3,none⟩ (.int .i64 D3)) z 61 [.string D1,.int .u32 D2,.int .i64 A',.int .i64 D3] at hz8;generalize (((W7.setCell ⟨z,0,none⟩ (.string D1)).setCell ⟨z,1,none⟩ (.int .u32 D2)).setCell ⟨z,2,none⟩ (.int .i64 A')).setCell ⟨z,3,none⟩ (.int .i64 D3)=W8 at*
  have hA8:SRd W8 b s (a:Int) v:=Arr.below hA4 hb48 (Arr.lt hA4);have ho8:OwS W8 B1 v (aUn acc):=Ow.below ho4 hb48 (aA _);have hJ8:=hJ _ _ _ hJ4 (EY.of hb48 (by omega));have hs8:B1<=W8.heap.size:=aW hs4 hb48.size;clear g0 g1 g2 g3 f0 f1 f2 f3 hz7 hb67 hs7 hb7 y0 y1 y2 y3 HE hS0 c0 c1 hz6 hE6 hb46 hdec hA4 ho4 hJ4 hs4 hb48 hz1 hzs HZ
  by_cases h4:D4=0
  rotate_left
  ·have t1:(D4 != 0)=true:=by rw[bne_iff_ne];exact h4
   have hP:=HP2.out;rw[if_pos h4] at hP
   injection hP with x1 x2
   injection x2 with x2 x3
   have HX:=hid (show D4≠0/\P1=acc/\P3=D4 from⟨h4,x1,x3⟩);clear x1 x2 x3 h4 herr hpart HOK HP2 HA'
   gi_wp2_with fail
   gi_roundg 0
   case measure=>omega
   case rel=>exact⟨D4,acc,a,v,rfl,rfl,hJ8,hA8,ho8,hs8,hid (.inr HX.out)⟩
  subst h4;obtain⟨-,-,-,-,-,k6,k7,k8,-⟩:=HOK.out rfl;rw[HL.out] at k8;obtain⟨Z,rfl⟩:∃Z:Nat,D3=(Z:Int):=⟨D3.toNat,by omega⟩;have hyb:=(fG D1.data.toList).isLt;obtain⟨y,hy⟩:∃y,y=(fG D1.data.toList).toNat:=⟨_,rfl⟩;rw[<-hy] at k6 hyb;subst k6;have hyb:y<4294967296:=hyb;have hA':=HA'.out;rw[if_pos rfl] at hA';subst hA';have hP:=HP2.out;rw[if_neg (fun q=>q rfl)] at hP;obtain⟨p,hp⟩:∃p:Prt,p=⟨D1,(y:Int),(a:Int),(Z:Int),R⟩:=⟨_,rfl⟩;rw[<-hp] at hP;have hpart2:∃r,T=pre0++okP acc++(p,0)::r:=by
   obtain⟨m,hm⟩:=aVz (s:=s.data.toList) (r:=R) f (Z:Int) (acc++[p]);rw[<-hP,cF] at hm;exact hpart acc p m hm
  have HP:=hid hP;have hZb:Z<=1000000:=by omega
  have hk7:a+96<Z:=by omega
  have hk8:Z<=8*s.size:=by omega
  have d1:=Arr.cell hA8 (i:=1) rfl;have f1:=Arr.free hA8 1;have e3:=hz8.cell (i:=3) rfl;have hA9:SRd (W8.setCell ⟨b,1,none⟩ (.int .i64 (Z:Int))) b s (Z:Int) v:=Arr.set hA8 1 _;have hz9:Arr (W8.setCell ⟨b,1,none⟩ (.int .i64 (Z:Int))) z 61 [.string D1,.int .u32 (y:Int),.int .i64 (a:Int),.int .i64 (Z:Int)]:=hz8.other _ (by show b≠z;omega) _;have ho9:OwS (W8.setCell ⟨b,1,none⟩ (.int .i64 (Z:Int))) B1 v (aUn acc):=Ow.box ho8 (gbS _ _ _ _) hbB1;have hJ9:=hJ _ _ _ hJ8 (EY.set (i:=1) hA8 hbB (.int .i64 (Z:Int)))
  have hs9:B1<=(W8.setCell ⟨b,1,none⟩ (.int .i64 (Z:Int))).heap.size:=by simpa using hs8
  clear hP HP2 HA' HOK k7 k8 hy herr hpart
  gi_wp2_with fail
  generalize W8.setCell ⟨b,1,none⟩ (.int .i64 (Z:Int))=W9 at*
  clear hA8 hz8 ho8 hJ8 hs8 d1 f1 e3;obtain⟨W9a,hW9a⟩:∃W9a,W9a=(W9.alloc (.cells #[.int .u32 (y:Int)] 34)).drew:=⟨_,rfl⟩;have hka:EY B0 W9 W9a:=by rw[hW9a];exact(EY.of (bD (aB _ _) _) (by omega)).trans (EY.drew _ _)
  have hA9a:SRd W9a b s (Z:Int) v:=by rw[hW9a];exact Arr.alloc hA9 _
  have hz9a:Arr W9a z 61 [.string D1,.int .u32 (y:Int),.int .i64 (a:Int),.int .i64 (Z:Int)]:=by rw[hW9a];exact Arr.alloc hz9 _
  have ho9a:OwS W9a B1 v (aUn acc):=by rw[hW9a];exact Ow.alloc ho9 _
  have hc9a:W9a.cell? ⟨W9.heap.size,0,none⟩=some (.int .u32 ((qZ 32 y).toNat:Int)):=by rw[hW9a,aXg hyb];exact bS _ _ _
  have hs9a:B1<=W9a.heap.size:=aW hs9 hka.bel.size;have hacc:(aUn acc).length=acc.length:=List.length_map ..;obtain⟨v',W10,hr,ho10,hb10,hg10⟩:=aXf (w:=W9a) 80 B1 v (aUn acc) ho9a W9.heap.size (qZ 32 y) hc9a (by rw[hacc];omega) hs9a;have hA10:SRd W10 b s (Z:Int) v:=Arr.below hA9a hb10 hbB1;have hz10:Arr W10 z 61 [.string D1,.int .u32 (y:Int),.int .i64 (a:Int),.int .i64 (Z:Int)]:=hz9a.otherRow ho9a hg10 (by decide);have hk10:EY B0 W9a W10:=⟨hb10.mono (by omega),.app ho9a hg10 (by unfold aU5;decide)⟩;obtain⟨va,vc,hv,-⟩:=(OwS.rd ho9).open
  obtain⟨vn,hvn⟩:∃vn,vn=(aUn acc).length:=⟨_,rfl⟩;rw[<-hvn] at hv;obtain⟨va',vc',hv',-⟩:=(OwS.rd ho10).open;obtain⟨vn',hvn'⟩:∃vn',vn'=(aUn acc++[qZ 32 y]).length:=⟨_,rfl⟩;rw[<-hvn'] at hv';subst hv hv';have c2:=Arr.cell hA9 (i:=2) rfl;have c2a:(W9.alloc (.cells #[.int .u32 (y:Int)] 34)).cell? ⟨b,2,none⟩=some (.slice va vn vc):=(Arr.alloc hA9 _).cell (i:=2) rfl;have x1:=hz9.cell (i:=1) rfl;have d2:=Arr.cell hA10 (i:=2) rfl;have f2:=Arr.free hA10 2;rw[hW9a] at hr;have hA11:SRd (W10.setCell ⟨b,2,none⟩ (.slice va' vn' vc')) b s (Z:Int) (.slice va' vn' vc'):=Arr.set hA10 2 _
  have hz11:Arr (W10.setCell ⟨b,2,none⟩ (.slice va' vn' vc')) z 61 [.string D1,.int .u32 (y:Int),.int .i64 (a:Int),.int .i64 (Z:Int)]:=hz10.other _ (by show b≠z;omega) _;have ho11:OwS (W10.setCell ⟨b,2,none⟩ (.slice va' vn' vc')) B1 (.slice va' vn' vc') (aUn acc++[qZ 32 y]):=Ow.box ho10 (gbS _ _ _ _) hbB1;have hJ11:=hJ _ _ _ hJ9 ((hka.trans hk10).trans (EY.set (i:=2) hA10 hbB (.slice va' vn' vc')));have hs11:B1<=(W10.setCell ⟨b,2,none⟩ (.slice va' vn' vc')).heap.size:=by have:=hb10.size;simp only[World.size_setCell];omega
  clear hka hA9a hz9a ho9a hc9a hs9a hacc ho10 hb10 hg10 hk10 hA10 hz10 hvn hvn' hW9a;have HSU:=hid (show aUn acc++[qZ 32 y]=aUn (acc++[p]) by
   unfold aUn;rw[fI,List.map_cons,List.map_nil,hp,BitVec.ofInt_natCast])
  refine wpIn_wide.2 ?_
  go_region_law (refine xC rfl (.tmp 89) (.tmp 92) 80 rfl (.slice va vn vc) (.slice (some ⟨W9.heap.size,0,none⟩) 1 1) (.slice va' vn' vc') W10 (by simp[Act.eval]) (by simp[Act.eval]) hr ?_)
  all_goals
   generalize W10.setCell ⟨b,2,none⟩ (.slice va' vn' vc')=W11 at*
   obtain⟨fn,tmps,assign,body,hy,hR⟩:=hY _ (p,0) W11 hJ11 (by omega) hpart2;unfold aVc at hy;rw[hp] at hy;dsimp only at hy;have HPE:=hid hp;have z0:=hz11.cell (i:=0) rfl;have z1:=hz11.cell (i:=1) rfl;have z2:=hz11.cell (i:=2) rfl;have z3:=hz11.cell (i:=3) rfl;clear hp hpart2 hz11 hz9 hA9 ho9 hJ9 hs9 hr c2 c2a x1 d2 f2
   gi_wp2_with fail
   refine hR.mono ?_;rintro e W12 (⟨rfl,hJ12,hk12⟩|⟨rfl,hJx⟩)
   ·gi_wp2_with fail
    gi_roundg f
    case measure=>omega
    case rel=>exact⟨0,acc++[p],Z,_,rfl,rfl,by rw[aVj,aWt,<-cF];exact hJ12,hA11.kept hk12,by rw[<-HSU.out];exact OwS.kept ho11 hk12,aW hs11 hk12.1,hid (.inl ⟨rfl,HP.out,hR1,hR2,by rw[HL.out];exact hk8,by rw[HL.out];omega,by rw[HL.out,aL,List.length_singleton];omega⟩)⟩
   ·gi_wp2_with fail
    go_ret;exact .inr ⟨rfl,.inr ⟨_,hJx⟩⟩
theorem aXk {n l B:Nat} {T:List aUk} {J Jx:List aUk->World->Prop} (h:YOk n l B T J Jx) (m:Nat):YOk m l B T J Jx:=fun pre x W1 a b c=>
 let⟨fn,tmps,assign,body,hy,hR⟩:=h pre x W1 a b c
 ⟨fn,tmps,assign,body,hy,hR.1,fun c cs _=>hR.2 c cs (room_wide _)⟩
def PaQ (s:List UInt8) (g:Nat) (a:Nat) (acc:List Prt):Prop:=hH s=aUg s g (8*(a:Int)) acc/\8*a<=8*s.length/\8*s.length+1<=g+8*a
theorem aXl (n:Nat) (hn:2<=n) (l Ab:Nat) (s:ByteArray) (J Jx:List aUk->World->Prop) (W:World) (hs:s.size<=120000) (hA:Arr W Ab 9 [.string s])
  (hJ:JOk W.heap.size J) (hJE:∀p X,J p X->iF X) (hY:YOk (n-1) l W.heap.size (XM s.data.toList) J Jx) (h0:J [] W):
  CallsIn eA n Tryz.prog 79 #[.func (.yield l) #[] #[],.pointer (some ⟨Ab,0,none⟩)] W fun e W'=>(∃v,e=.returned v)/\(J (XM s.data.toList) W'\/∃pre,Jx pre W'):=by
 refine tW Tryz.func79 rfl trivial ?_ rfl;simp only[Tryz.ntmps79,mY,cR,cX,lZ,mZ,lL,lM,lN,lO,iG,gE];have HL:=hid (show s.data.toList.length=s.size by simp);have c0:=hA.cell (i:=0) rfl
 by_cases he:s.data.toList=[]
 ·have te:s.toList.isEmpty=true:=by rw[Lib.toList_data,he];rfl
  have hT:XM s.data.toList=[]++[(aUx,3)]:=by rw[he];exact aWx
  obtain⟨fn,tmps,assign,body,hy,hR⟩:=aVk hY hT h0 (aA _);clear he hT
  gi_wp2_with fail
  refine⟨fun _=>by omega,hR.mono ?_⟩;rintro e W5 ⟨⟨c,rfl⟩,hfin⟩
  gi_wp2_with fail
  refine gJ (qX rfl _ _ _) rfl ?_;exact⟨⟨_,rfl⟩,hfin⟩
 have te:s.toList.isEmpty=false:=LR he;have hpos:0<s.size:=by rw[<-HL.out];exact List.length_pos_iff.2 he
 have HQ:=hid (show PaQ s.data.toList (8*s.size+1) 0 [] by
  unfold PaQ;refine⟨?_,by omega,by rw[HL.out];omega⟩;unfold hH;rw[if_neg he,HL.out];rfl)
 clear he
 gi_wp2_with fail
 have hA1:SRd (W.alloc (.cells #[.string s,.int .i64 0,.slice none 0 0] 147)) W.heap.size s ((0:Nat):Int) (.slice none 0 0):=Arr.new W _ [_,_,_];have hS1:=Arr.alloc hA (.cells #[.string s,.int .i64 0,.slice none 0 0] 147);have hJ1:=hJ _ _ (W.alloc (.cells #[.string s,.int .i64 0,.slice none 0 0] 147)) h0 (EY.of (bD (aB _ _) _) (aA _));generalize W.alloc (.cells #[.string s,.int .i64 0,.slice none 0 0] 147)=W1 at*
 have hAbW:Ab<W.heap.size:=hA.lt;obtain⟨B0,hB0⟩:∃B0,B0=W.heap.size:=⟨_,rfl⟩;rw[<-hB0] at hA1 hAbW hJ hY ⊢;have HB:=hid hB0;clear h0 hA c0 hB0;have hm1:(8*s.size)<=1000000:=by omega
 have hJA:∀X Y,Arr X Ab 9 [.string s]->EY B0 X Y->Arr Y Ab 9 [.string s]:=fun X Y h k=>h.below k.bel hAbW
 have hY':∀m,YOk m l B0 (XM s.data.toList) (fun p X=>J p X/\Arr X Ab 9 [.string s]) Jx:=fun m pre x X1 hj hb hr=>by
  obtain⟨fn,tmps,assign,body,hy,hR⟩:=aXk hY m pre x X1 hj.1 hb hr;refine⟨fn,tmps,assign,body,hy,hR.mono ?_⟩;rintro e W' (⟨rfl,h1,h2⟩|⟨rfl,h1⟩)
  ·exact .inl ⟨rfl,⟨h1,h2.arr hj.2 (by unfold aUy;decide) (fun q=>by cases q)⟩,h2⟩
  ·exact .inr ⟨rfl,h1⟩
 gi_loopg [] (8*s.size+1) (fun g wr=>∃(acc:List Prt) (a:Nat) (v:Value),J (okP acc) wr/\SRd wr B0 s (8*(a:Int)) v/\Arr wr Ab 9 [.string s]/\Hid (PaQ s.data.toList g a acc))
 case atStart=>exact⟨[],0,_,hJ1,hA1,hS1,HQ⟩
 case round=>
  clear hA1 hS1 hJ1 HQ;obtain⟨acc,a,v,hJr,hAr,hSr,HQ⟩:=hrel;obtain⟨hq1,hq2,hq3⟩:=HQ.out;rw[HL.out] at hq2 hq3;obtain⟨A,hAe⟩:∃A,A=8*a:=⟨_,rfl⟩;obtain⟨Sz,hSz⟩:∃Sz,Sz=8*s.size:=⟨_,rfl⟩;have hAI:8*(a:Int)=(A:Int):=by omega
  have hSI:8*(s.size:Int)=(Sz:Int):=by omega
  have hAb:A<=1000000:=by omega
  have hSb:Sz<=1000000:=by omega
  rw[hAI] at hAr;have hw:aI.wrap (8*(s.size:Int))=(Sz:Int):=by rw[hSI];exact aU6 _ (by omega)
  have c0:=Arr.cell hAr (i:=1) rfl;have s0:=Arr.cell hSr (i:=0) rfl
  by_cases hlt:A<Sz
  rotate_left
  ·have t1:decide ((A:Int)<(Sz:Int))=false:=decide_eq_false (by omega);obtain⟨f,rfl⟩:∃f,gk=f+1:=⟨gk-1,by omega⟩;have hdone:=hid (aWw hq1 (by rw[HL.out];omega)).1;clear hq1 hq2 hq3 hAe hSz HQ hAI
   gi_wp2_with fail
   refine wpIn_wide.2 ?_
   go_quiet (fail)
   gi_wp2_with fail
   go_end0
   exact⟨⟨_,rfl⟩,.inl (by rw[hdone.out];exact hJ _ _ _ hJr (EY.drewN _ _ _))⟩
  have t1:decide ((A:Int)<(Sz:Int))=true:=decide_eq_true (by omega);obtain⟨f,rfl⟩:∃f,gk=f+1:=⟨gk-1,by omega⟩;have hin:=aWu hq1 (by rw[HL.out];omega);rw[show(8*(a:Int))=((8*a:Nat):Int) by omega] at hin;have hnx:=fun hb=>aWv hq1 (by rw[HL.out];omega) hb
  have hmod:=fun hb=>aWy (s:=s.data.toList) (a:=8*(a:Int)) (by omega) hb
  have hok:=fun hb=>aVi (s:=s.data.toList) (a:=8*(a:Int)) hb
  rw[show(8*(a:Int))=((8*a:Nat):Int) by omega] at hnx hmod hok;rw[HL.out] at hok;have HNX:=hid hnx;have HMOD:=hid hmod;have HOK:=hid hok;have HIN:=hid hin;have ha8:a<s.size:=by omega
  have HAE:=hid hAe;have hfq:8*s.size<=f+8*a:=by omega
  clear hq1 hq2 hq3 hAe hSz HQ hAI hnx hmod hok hin
  gi_wp2_with fail
  refine wpIn_wide.2 ?_
  go_quiet (fail)
  generalize hWn:wr.drewN nq=W4 at*
  have hA4:SRd W4 B0 s ((8*a:Nat):Int) v:=by rw[<-hWn,<-HAE.out];exact hAr
  have hS4:Arr W4 Ab 9 [.string s]:=by rw[<-hWn];exact hSr
  have hJ4:J (okP acc) W4:=by rw[<-hWn];exact hJ _ _ _ hJr (EY.drewN _ _ _)
  clear hWn hAr hSr hJr c0 s0;have hcall:=aXj (n-1) (by omega) l B0 B0 a s v (okP acc) (XM s.data.toList) (fun p X=>J p X/\Arr X Ab 9 [.string s]) Jx W4 hs ha8 hA4 (aA _) (fun p X Y h k=>⟨hJ _ _ _ h.1 k,hJA _ _ h.2 k⟩) (fun p X h=>hJE _ _ h.1) (hY' _) HIN.out ⟨hJ4,hS4⟩
  gi_wp2_with fail
  refine⟨trivial,fun _=>by omega,hcall.mono ?_⟩;rintro e W5 (⟨rfl,hd3,⟨hJ5,hS5⟩,v5,hA5⟩|⟨rfl,hfin⟩)
  ·have hm:=HMOD.out hd3;have hk:=HOK.out hd3;obtain⟨a',ha'⟩:∃a':Nat,(hG s.data.toList ((8*a:Nat):Int)).2.1=8*(a':Int):=⟨((hG s.data.toList ((8*a:Nat):Int)).2.1/8).toNat,by omega⟩;have hn:=HNX.out hd3;rw[ha'] at hn hA5 hk;have HN:=hid (show PaQ s.data.toList f a' (acc++(hG s.data.toList ((8*a:Nat):Int)).1) from⟨hn,by rw[HL.out];omega,by rw[HL.out];omega⟩);have hmeas:f<f+1:=Nat.lt_succ_self f;rw[<-aVj] at hJ5;clear hcall hm hk ha' hn hd3 HMOD HOK HNX HIN
   gi_wp2_with fail
   gi_roundg f
   case measure=>exact hmeas
   case rel=>exact⟨_,a',v5,hJ5,hA5,hS5,HN⟩
  ·gi_wp2_with fail
   refine gJ (qX rfl _ _ _) rfl ?_;exact⟨⟨_,rfl⟩,hfin.elim (fun h=>.inl h.1) .inr⟩
theorem aXm (n:Nat) (hn:2<=n) (Ab:Nat) (s:ByteArray) (w:World) (hA:Arr w Ab 9 [.string s]) (hs:s.size<=120000):
  aV4 n Tryz.prog 79 #[.pointer (some ⟨Ab,0,none⟩)] aVc (mS aU5 none) (mS aUy none) iF (fun pre x=>∃r,XM s.data.toList=pre++x::r) (fun xs=>xs=XM s.data.toList) w:=fun l J Jx W hW hJ _ hJE hY h0=>
 (aXl n hn l Ab s J Jx W hs (hA.below hW hA.lt) (fun p X Y h k=>hJ p X Y h k.bel k.ty) hJE (fun pre x W1 a b c=>hY pre x W1 a b c) h0).mono fun _ _ h=>⟨h.1,h.2.elim (fun k=>.inl ⟨_,rfl,k⟩) .inr⟩
end
end Go.Proofs.YtmcogmmncfihhaaGreatDoor

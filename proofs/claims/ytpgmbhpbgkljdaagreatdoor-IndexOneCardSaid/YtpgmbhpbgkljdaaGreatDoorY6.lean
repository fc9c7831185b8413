/-
  Texts put together (Y6): walks and plain laws on which the statement stands.
-/
import Derived.Test.YtpgmbhpbgkljdaaGreatDoorY5
import Derived.Test.YtpgmbhpbgkljdaaGreatDoorY3
import Derived.Test.YtpgmbhpbgkljdaaGreatDoorY1
import Derived.Test.YtpgmbhpbgkljdaaGreatDoorZ17
import Derived.Test.YtpgmbhpbgkljdaaGreatDoorY4
import Derived.Test.YtpgmbhpbgkljdaaGreatDoorZ6
set_option maxRecDepth 100000
set_option maxHeartbeats 12800000
set_option linter.unusedVariables false
set_option linter.unusedSimpArgs false
namespace Go.Proofs.YtpgmbhpbgkljdaaGreatDoor
section
open Go.RowKit Go Go.Shelf
theorem elEnt:ElR Tryz.prog 61 66 5 40 (.agg #[.int .i64 0,.int .i64 0,.int .i64 0,.int .i64 0,.int .u32 0]):=ElR.mk' (by kernel_rfl) Tryz.underlying61 rfl (by decide) (by decide)
theorem RdR.nil (w:World):RdR w (.slice none 0 0) []:=⟨none,0,rfl,Nat.le_refl _,by simp[maxLen],.inl rfl⟩
theorem scan_any (s:ByteArray) (w:World) (hE:iF w) (hs:s.size<=120000):
  Calls Tryz.prog 59 #[.string s] w fun e w'=>∃v,e=.returned (.tuple #[v,.int .i64 (arcD s.data.toList).2])/\RdR w' v ((scanE 0 (resP s.data.toList)).map entC)/\Below w.heap.size w w':=by
 have hlen:=resP_len s;have hgood:=fun p (h:p∈resP s.data.toList)=>resP_good p h
 have hnil:(arcD s.data.toList).2≠0->resP s.data.toList=[]:=fun h=>if_neg h
 have hcb:=fun W h=>blocks_any s W h hs
 have hcr:=fun W h=>rooms_any s W h hs
 obtain⟨l,hl⟩:∃l,l=resP s.data.toList:=⟨_,rfl⟩;obtain⟨E,hEE⟩:∃E,E=(arcD s.data.toList).2:=⟨_,rfl⟩;have hsize:∀p∈l,p.t.size<=18720:=fun p hp=>by
  rw[hl] at hp;have h:=hgood p hp;obtain⟨-,-,g3,-⟩:=h.facts;obtain⟨-,-,g5,-⟩:=h;omega
 rw[<-hl,<-hEE] at hcb hcr hnil ⊢;rw[<-hl] at hlen;clear hl hEE hgood;go_enter Tryz.func59,Tryz.ntmps59;go_wp2_with fail;refine(hcb _ hE).mono ?_;rintro e w1 ⟨v1,rfl,hb1,h1⟩;have hE1:=hE.below h1
 by_cases h0:E=0
 rotate_left
 ·have t1:(E != 0)=true:=bne_iff_ne.2 h0;have HN:=hid (hnil h0);clear hnil;go_wp2_with fail
  go_ret2
  exact⟨_,rfl,by rw[HN.out];exact RdR.nil _,h1⟩
 subst h0;clear hnil;go_wp2_with fail;refine(hcr _ hE1).mono ?_;rintro e w2 ⟨v2,rfl,hr2,h2⟩;have hb2:=hb1.below h2;have h02:=bV h1 h2;obtain⟨pa,pc,rfl,hpc1,hpc2,hpA⟩:=blk_cells hb2;obtain⟨ra,rc,rfl,hrc1,hrc2,hrA⟩:=hr2.open;rw[List.length_map] at hrc1 hrA ⊢;unfold maxLen at hpc2 hrc2;have hs2:=h02.size;clear hb1 hb2 hr2 hcb hcr h1 h2 hE1 hE;go_wp2_with fail
 go_loopg [2,7,8,9,25] l.length (fun g s2 s7 _s8 _s9 s25 wr=>∃k F:Nat,k<=l.length/\g=l.length-k/\s25=.int .i64 (k:Int)/\s7=.int .i64 (F:Int)/\Hid (F=sumT (l.take k))/\F<=18720*k/\OwR wr w2.heap.size 66 5 s2 ((scanE 0 (l.take k)).map entC)/\Below w2.heap.size w2 wr)
 case atStart=>exact⟨0,0,Nat.zero_le _,rfl,rfl,rfl,hid rfl,Nat.zero_le _,OwR.nil _ _ _ _,Below.refl _ _⟩
 case round=>
  obtain⟨k,F,hk,hg,rfl,rfl,HF,hFb,hor,hbel⟩:=hrel;have HG:=hid hg;have hsz:=hbel.size;clear hg
  by_cases hlt:k<l.length
  ·have t1:decide ((k:Int)<(l.length:Int))=true:=decide_eq_true (by omega);obtain⟨b,off,rfl,hb,hc⟩:=hpA (by omega);obtain⟨b2,off2,rfl,hb2,hc2⟩:=hrA (by omega);obtain⟨p,hp⟩:∃p,l[k]? =some p:=⟨_,List.getElem?_eq_getElem hlt⟩;obtain⟨x0,x1,x2,x3⟩:=hc k p hp;have y0:=hc2 k p.r (by rw[List.getElem?_map,hp];rfl);have c0:=(hbel.cell (p:=⟨b,off+k*4,none⟩) hb).trans x0;have c1:=(hbel.cell (p:=⟨b,off+k*4+1,none⟩) hb).trans x1;have c2:=(hbel.cell (p:=⟨b,off+k*4+2,none⟩) hb).trans x2;have c3:=(hbel.cell (p:=⟨b,off+k*4+3,none⟩) hb).trans x3;have d0:=(hbel.cell (p:=⟨b2,off2+k,none⟩) hb2).trans y0
   have hps:=hsize p (List.mem_of_getElem? hp);have HT:=hid (show(scanE 0 (l.take (k+1))).map entC=(scanE 0 (l.take k)).map entC++[entC ⟨p.a,p.r,(F:Int),(p.t.size:Int),p.y⟩] by rw[scanE_take hp,List.map_append,HF.out];rfl);have HF2:=hid (show F+p.t.size=sumT (l.take (k+1)) by rw[sumT_take hp,HF.out]);have hln:((scanE 0 (l.take k)).map entC).length<=960010:=by rw[List.length_map,scanE_length,List.length_take];omega
   clear x0 x1 x2 x3 hc hc2 hpA hrA hp;go_wp2_with fail;obtain⟨zb,hz⟩:∃zb,zb=wr.heap.size:=⟨_,rfl⟩;have hz9:=Arr.new wr 36 [.string p.t,.int .u32 p.y,.int .i64 p.a,.int .i64 p.z];have hor9:=OwR.alloc hor (.cells #[.string p.t,.int .u32 p.y,.int .i64 p.a,.int .i64 p.z] 36);have hbel9:=hbel.alloc hsz (.cells #[.string p.t,.int .u32 p.y,.int .i64 p.a,.int .i64 p.z] 36)
   have e0:(wr.alloc (.cells #[.string p.t,.int .u32 p.y,.int .i64 p.a,.int .i64 p.z] 36)).cell? ⟨b2,off2+k,none⟩=some (.int .i64 p.r):=((bD (Below.refl _ wr) (.cells #[.string p.t,.int .u32 p.y,.int .i64 p.a,.int .i64 p.z] 36)).cell (p:=⟨b2,off2+k,none⟩) (World.block_lt_of_cell? wr _ d0)).trans d0;change Arr (wr.alloc (.cells #[.string p.t,.int .u32 p.y,.int .i64 p.a,.int .i64 p.z] 36)) _ _ _ at hz9;clear c0 c1 c2 c3 d0;rw[<-hz] at hz9 ⊢;generalize wr.alloc (.cells #[.string p.t,.int .u32 p.y,.int .i64 p.a,.int .i64 p.z] 36)=W9 at*
   have hsz9:=hbel9.size;clear hz hor hbel;obtain⟨W9a,hW9a⟩:∃W9a,W9a=(W9.alloc (.cells #[.int .i64 p.a,.int .i64 p.r,.int .i64 (F:Int),.int .i64 (p.t.size:Int),.int .u32 p.y] 66)).drew:=⟨_,rfl⟩;have hz9a:Arr W9a zb 36 [.string p.t,.int .u32 p.y,.int .i64 p.a,.int .i64 p.z]:=by rw[hW9a];exact Arr.alloc hz9 _
   have ho9a:OwR W9a w2.heap.size 66 5 u2 ((scanE 0 (l.take k)).map entC):=by rw[hW9a];exact OwR.alloc hor9 _
   have hN9:Arr W9a W9.heap.size 66 (entC ⟨p.a,p.r,(F:Int),(p.t.size:Int),p.y⟩):=by rw[hW9a];exact Arr.new W9 66 (entC ⟨p.a,p.r,(F:Int),(p.t.size:Int),p.y⟩)
   have hb9a:Below w2.heap.size w2 W9a:=by rw[hW9a];exact(hbel9.alloc hsz9 _).drew
   have hs9a:=hb9a.size;obtain⟨v',W10,hr,ho10,hb10,hg10⟩:=run_appR elEnt 61 w2.heap.size u2 _ ho9a _ [entC ⟨p.a,p.r,(F:Int),(p.t.size:Int),p.y⟩] (RdR.one hN9) (entC_wide [⟨p.a,p.r,(F:Int),(p.t.size:Int),p.y⟩]) (Nat.succ_pos _) (by simp only[List.length_singleton];omega) hs9a;have hz10:Arr W10 zb 36 [.string p.t,.int .u32 p.y,.int .i64 p.a,.int .i64 p.z]:=hz9a.otherRow ho9a hg10 (by decide);have hbel10:=hb9a.trans hb10;have z0:=hz9.cell (i:=0) rfl;have z1:=hz9.cell (i:=1) rfl;have z2:=hz9.cell (i:=2) rfl;rw[hW9a] at hr;clear hz9a ho9a hN9 hb9a hs9a hW9a hg10 hb10 hor9 hbel9 hsz9 hz9
   have kk:∀{a:Addr} {v:Value},W9.cell? a=some v->(W9.alloc (.cells #[.int .i64 p.a,.int .i64 p.r,.int .i64 (F:Int),.int .i64 (p.t.size:Int),.int .u32 p.y] 66)).drew.cell? a=some v:=fun{a} {v} h=>((bD (Below.refl _ W9) (.cells #[.int .i64 p.a,.int .i64 p.r,.int .i64 (F:Int),.int .i64 (p.t.size:Int),.int .u32 p.y] 66)).drew.cell (World.block_lt_of_cell? W9 _ h)).trans h
   have hS0:W9.drew.cell? ⟨zb,0,none⟩=some (.string p.t)/\W9.drew.cell? ⟨zb,1,none⟩=some (.int .u32 p.y)/\W9.drew.cell? ⟨zb,2,none⟩=some (.int .i64 p.a)/\W9.drew.cell? ⟨b2,off2+k,none⟩=some (.int .i64 p.r):=⟨z0,z1,z2,e0⟩;have hS1:=And.intro (kk z0) (And.intro (kk z1) (And.intro (kk z2) (kk e0)));have hS2:=And.intro (hz10.cell (i:=0) rfl) (And.intro (hz10.cell (i:=1) rfl) (And.intro (hz10.cell (i:=2) rfl) (((show Below w2.heap.size w2 W10 from hbel10).cell (p:=⟨b2,off2+k,none⟩) hb2).trans y0)))
   refine wp_region_held_drew (S:=fun wx=>wx.cell? ⟨zb,0,none⟩=some (.string p.t)/\wx.cell? ⟨zb,1,none⟩=some (.int .u32 p.y)/\wx.cell? ⟨zb,2,none⟩=some (.int .i64 p.a)/\wx.cell? ⟨b2,off2+k,none⟩=some (.int .i64 p.r)) (by kernel_rfl) hS0 (fun hHeld=>?_);refine wpAnyH_take (i:=0) (oi:=?oia0) (v:=?va0) ?hia0 (by kernel_rfl) (by kernel_rfl) (by kernel_rfl) ?hqa0 ?hya0 (by assumption) ?_
   case hia0=>(simp only[List.getElem?_toArray,List.getElem?_cons_zero];rfl)
   case hqa0=>exact fun _ _ _ h=>h
   case hya0=>(refine Or.inl ⟨by rfl,?_⟩;intro w' hSw;(try dsimp only at hSw);(try go_simp);try with_reducible rfl)
   try simp only[Act.put,List.setIfInBounds_toArray,List.set_cons_zero,List.set_cons_succ]
   refine wpAnyH_take (i:=1) (oi:=?oia1) (v:=?va1) ?hia1 (by kernel_rfl) (by kernel_rfl) (by kernel_rfl) ?hqa1 ?hya1 (by assumption) ?_
   case hia1=>(simp only[List.getElem?_toArray,List.getElem?_cons_succ,List.getElem?_cons_zero];rfl)
   case hqa1=>exact fun _ _ _ h=>h
   case hya1=>(refine Or.inl ⟨by rfl,?_⟩;intro w' hSw;(try dsimp only at hSw);(try go_simp);try with_reducible rfl)
   try simp only[Act.put,List.setIfInBounds_toArray,List.set_cons_zero,List.set_cons_succ]
   refine wpAnyH_take (i:=2) (oi:=?oia2) (v:=?va2) ?hia2 (by kernel_rfl) (by kernel_rfl) (by kernel_rfl) ?hqa2 ?hya2 (by assumption) ?_
   case hia2=>(simp only[List.getElem?_toArray,List.getElem?_cons_succ,List.getElem?_cons_zero];rfl)
   case hqa2=>exact fun _ _ _ h=>h
   case hya2=>(refine Or.inl ⟨by rfl,?_⟩;intro w' hSw;(try dsimp only at hSw);(try go_simp);try with_reducible rfl)
   try simp only[Act.put,List.setIfInBounds_toArray,List.set_cons_zero,List.set_cons_succ]
   refine wpAnyH_take (i:=3) (oi:=?oia3) (v:=?va3) ?hia3 (by kernel_rfl) (by kernel_rfl) (by kernel_rfl) ?hqa3 ?hya3 (by assumption) ?_
   case hia3=>(simp only[List.getElem?_toArray,List.getElem?_cons_succ,List.getElem?_cons_zero];rfl)
   case hqa3=>exact fun _ _ _ h=>h
   case hya3=>(refine Or.inl ⟨by rfl,?_⟩;intro w' hSw;(try dsimp only at hSw);(try go_simp);try with_reducible rfl)
   try simp only[Act.put,List.setIfInBounds_toArray,List.set_cons_zero,List.set_cons_succ]
   refine wpAnyH_take (i:=4) (oi:=?oia4) (v:=?va4) ?hia4 (by kernel_rfl) (by kernel_rfl) (by kernel_rfl) ?hqa4 ?hya4 (by assumption) ?_
   case hia4=>(simp only[List.getElem?_toArray,List.getElem?_cons_succ,List.getElem?_cons_zero];rfl)
   case hqa4=>exact fun _ _ _ h=>h
   case hya4=>(refine Or.inl ⟨by rfl,?_⟩;intro w' hSw;(try dsimp only at hSw);(try go_simp);try with_reducible rfl)
   try simp only[Act.put,List.setIfInBounds_toArray,List.set_cons_zero,List.set_cons_succ]
   refine wpAnyH_take (i:=5) (oi:=?oia5) (v:=?va5) ?hia5 (by kernel_rfl) (by kernel_rfl) (by kernel_rfl) ?hqa5 ?hya5 (by assumption) ?_
   case hia5=>(simp only[List.getElem?_toArray,List.getElem?_cons_succ,List.getElem?_cons_zero];rfl)
   case hqa5=>exact fun _ _ _ h=>h
   case hya5=>(refine Or.inl ⟨by rfl,?_⟩;intro w' hSw;(try dsimp only at hSw);(try go_simp);try with_reducible rfl)
   try simp only[Act.put,List.setIfInBounds_toArray,List.set_cons_zero,List.set_cons_succ]
   refine wpAnyH_take (i:=6) (oi:=?oia6) (v:=?va6) ?hia6 (by kernel_rfl) (by kernel_rfl) (by kernel_rfl) ?hqa6 ?hya6 (by assumption) ?_
   case hia6=>(simp only[List.getElem?_toArray,List.getElem?_cons_succ,List.getElem?_cons_zero];rfl)
   case hqa6=>exact fun _ _ _ h=>h
   case hya6=>(refine Or.inl ⟨by rfl,?_⟩;intro w' hSw;(try dsimp only at hSw);(try go_simp);try with_reducible rfl)
   try simp only[Act.put,List.setIfInBounds_toArray,List.set_cons_zero,List.set_cons_succ]
   refine wpAnyH_take (i:=7) (oi:=?oia7) (v:=?va7) ?hia7 (by kernel_rfl) (by kernel_rfl) (by kernel_rfl) ?hqa7 ?hya7 (by assumption) ?_
   case hia7=>(simp only[List.getElem?_toArray,List.getElem?_cons_succ,List.getElem?_cons_zero];rfl)
   case hqa7=>exact fun _ _ _ h=>h
   case hya7=>(refine Or.inl ⟨by rfl,?_⟩;intro w' hSw;(try dsimp only at hSw);(try go_simp);try with_reducible rfl)
   try simp only[Act.put,List.setIfInBounds_toArray,List.set_cons_zero,List.set_cons_succ]
   refine wpAnyH_take (i:=8) (oi:=?oia8) (v:=?va8) ?hia8 (by kernel_rfl) (by kernel_rfl) (by kernel_rfl) ?hqa8 ?hya8 (by assumption) ?_
   case hia8=>(simp only[List.getElem?_toArray,List.getElem?_cons_succ,List.getElem?_cons_zero];rfl)
   case hqa8=>exact fun _ _ _ h=>h
   case hya8=>(refine Or.inl ⟨by rfl,?_⟩;intro w' hSw;(try dsimp only at hSw);(try go_simp);try with_reducible rfl)
   try simp only[Act.put,List.setIfInBounds_toArray,List.set_cons_zero,List.set_cons_succ]
   refine wpAnyH_take (i:=9) (oi:=?oia9) (v:=?va9) ?hia9 (by kernel_rfl) (by kernel_rfl) (by kernel_rfl) ?hqa9 ?hya9 (by assumption) ?_
   case hia9=>(simp only[List.getElem?_toArray,List.getElem?_cons_succ,List.getElem?_cons_zero];rfl)
   case hqa9=>exact fun _ _ _ h=>h
   case hya9=>(refine Or.inl ⟨by rfl,?_⟩;intro w' hSw;(try dsimp only at hSw);(try go_simp);try with_reducible rfl)
   try simp only[Act.put,List.setIfInBounds_toArray,List.set_cons_zero,List.set_cons_succ]
   refine wpAnyH_take (i:=10) (oi:=?oia10) (v:=?va10) ?hia10 (by kernel_rfl) (by kernel_rfl) (by kernel_rfl) ?hqa10 ?hya10 (by assumption) ?_
   case hia10=>(simp only[List.getElem?_toArray,List.getElem?_cons_succ,List.getElem?_cons_zero];rfl)
   case hqa10=>exact fun _ _ _ h=>h
   case hya10=>(refine Or.inl ⟨by rfl,?_⟩;intro w' hSw;(try dsimp only at hSw);(try go_simp);try with_reducible rfl)
   try simp only[Act.put,List.setIfInBounds_toArray,List.set_cons_zero,List.set_cons_succ]
   refine wpAnyH_take (i:=11) (oi:=?oia11) (v:=?va11) ?hia11 (by kernel_rfl) (by kernel_rfl) (by kernel_rfl) ?hqa11 ?hya11 (by assumption) ?_
   case hia11=>(simp only[List.getElem?_toArray,List.getElem?_cons_succ,List.getElem?_cons_zero];rfl)
   case hqa11=>exact fun _ _ _ h=>h
   case hya11=>(refine Or.inl ⟨by rfl,?_⟩;intro w' hSw;(try dsimp only at hSw);(try go_simp);try with_reducible rfl)
   try simp only[Act.put,List.setIfInBounds_toArray,List.set_cons_zero,List.set_cons_succ]
   refine wpAnyH_take (i:=12) (oi:=?oia12) (v:=?va12) ?hia12 (by kernel_rfl) (by kernel_rfl) (by kernel_rfl) ?hqa12 ?hya12 (by assumption) ?_
   case hia12=>(simp only[List.getElem?_toArray,List.getElem?_cons_succ,List.getElem?_cons_zero];rfl)
   case hqa12=>exact fun _ _ _ h=>h
   case hya12=>(refine Or.inl ⟨by rfl,?_⟩;intro w' hSw;(try dsimp only at hSw);(try go_simp);try with_reducible rfl)
   try simp only[Act.put,List.setIfInBounds_toArray,List.set_cons_zero,List.set_cons_succ]
   refine wpAnyH_take (i:=13) (oi:=?oia13) (v:=?va13) ?hia13 (by kernel_rfl) (by kernel_rfl) (by kernel_rfl) ?hqa13 ?hya13 (by assumption) ?_
   case hia13=>(simp only[List.getElem?_toArray,List.getElem?_cons_succ,List.getElem?_cons_zero];rfl)
   case hqa13=>exact fun _ _ _ h=>h
   case hya13=>(refine Or.inl ⟨by rfl,?_⟩;intro w' hSw;(try dsimp only at hSw);(try go_simp);try with_reducible rfl)
   try simp only[Act.put,List.setIfInBounds_toArray,List.set_cons_zero,List.set_cons_succ]
   refine wpAnyH_ready (rs:=[14]) (by kernel_rfl) (by simp) ?_;refine AllReadyH.cons rfl (fun K hK=>?_) AllReadyH.nil;go_simp;refine hK.out _ _ hS1 (fun _=>?_)
   try simp only[Act.put,List.setIfInBounds_toArray,List.set_cons_zero,List.set_cons_succ]
   clear hK K;refine wpAnyH_ready (rs:=[15]) (by kernel_rfl) (by simp) ?_;refine AllReadyH.cons rfl (fun K hK=>?_) AllReadyH.nil;refine xC rfl (.tmp 30) (.tmp 44) 61 rfl u2 (.slice (some ⟨W9.heap.size,0,none⟩) 1 1) v' W10 (by simp[Act.eval]) (by simp[Act.eval]) hr ?_;refine hK.out _ _ hS2 (fun _=>?_)
   try simp only[Act.put,List.setIfInBounds_toArray,List.set_cons_zero,List.set_cons_succ]
   clear hK K;refine wpAnyH_ready (rs:=[16]) (by kernel_rfl) (by simp) ?_;refine AllReadyH.cons rfl (fun K hK=>?_) AllReadyH.nil;go_simp;refine hK.out _ _ hS2 (fun _=>?_)
   try simp only[Act.put,List.setIfInBounds_toArray,List.set_cons_zero,List.set_cons_succ]
   clear hK K;refine wpAnyH_done (by kernel_rfl) ?_ _;have g0:=hz10.cell (i:=0) rfl;obtain⟨F2,hF2⟩:∃F2,F2=F+p.t.size:=⟨_,rfl⟩;have m1:IntKind.i64.wrap ((F:Int)+(p.t.size:Int))=(F2:Int):=by rw[show(F:Int)+(p.t.size:Int)=(F2:Int) by omega];exact nat_w19 F2 (by omega)
   have m1':(F:Int)+(p.t.size:Int)=(F2:Int):=by omega
   have hF2b:F2<=18720*(k+1):=by omega
   rw[<-hF2] at HF2;clear hF2 z0 z1 z2 hr e0 hS0 hS1 hS2 hHeld;go_wp2_with fail;have hg:=HG.out
   go_roundg (l.length-(k+1))
   case measure=>omega
   case rel=>exact⟨k+1,F2,by omega,rfl,by go_num,rfl,HF2,hF2b,by rw[HT.out];exact ho10,hbel10⟩
  ·have t1:decide ((k:Int)<(l.length:Int))=false:=decide_eq_false (by omega);have HT:=hid (show l.take k=l by rw[List.take_of_length_le (by omega)]);go_wp2_with fail
   go_ret2
   exact⟨_,rfl,by rw[<-HT.out];exact hor.rd,h02.trans (hbel.mono hs2)⟩
end
section
open Go.RowKit Go Go.Shelf
theorem pick19_any (c n:Int) (w:World) (h1: -9223372036854775808<=c) (h2:c<=9223372036854775807) (h3:1<=n) (h4:n<=4611686018427387904):
  Calls Tryz.prog 38 #[.int .i64 c,.int .i64 n] w fun e w'=>e=.returned (.int .i64 (gA c n))/\w=w':=by
 by_cases hc:c<0
 ·have hfin:=hid (show gA c n=(-(c+1))%n from by simp[gA,hc]);go_enter Tryz.func38,Tryz.ntmps38;go_wp2;go_ret;exact⟨fX (by rw[hfin.out];rw[<-Int.neg_tmod,Int.tmod_eq_emod_of_nonneg (by omega)]),rfl⟩
 ·have hfin:=hid (show gA c n=c%n from by simp[gA,hc]);have hc':0<=c:=by omega
  go_enter Tryz.func38,Tryz.ntmps38;go_wp2;go_ret;exact⟨fX (by rw[hfin.out]),rfl⟩
def tripC (x:Trip):List Value:=[.int .i64 x.1,.int .i64 x.2.1,.int .i64 x.2.2]
def WfT (l:List Trip):Prop:=∀x∈l,(-9223372036854775808<=x.1/\x.1<=9223372036854775807)/\(-9223372036854775808<=x.2.1/\x.2.1<=9223372036854775807)/\(-9223372036854775808<=x.2.2/\x.2.2<=9223372036854775807)
theorem tripC_wide (l:List Trip):Wide 3 (l.map tripC):=fun q hq=>by
 obtain⟨p,_,rfl⟩:=List.mem_map.1 hq;exact⟨rfl,fun u hu=>by unfold tripC at hu;simp only[List.mem_cons,List.not_mem_nil,or_false] at hu;rcases hu with rfl|rfl|rfl<;>rfl⟩
theorem trip_cells {w:World} {v:Value} {l:List Trip} (h:RdR w v (l.map tripC)):∃a cap,v=.slice a l.length cap/\l.length<=cap/\cap<=maxLen/\
  (0<l.length->∃b off,a=some ⟨b,off,none⟩/\b<w.heap.size/\∀j p,l[j]? =some p->w.cell? ⟨b,off+j*3,none⟩=some (.int .i64 p.1)/\w.cell? ⟨b,off+j*3+1,none⟩=some (.int .i64 p.2.1)/\w.cell? ⟨b,off+j*3+2,none⟩=some (.int .i64 p.2.2)):=by
 obtain⟨a,cap,hv,h1,h2,h3⟩:=h.open (tripC_wide l) (by decide);rw[List.length_map] at hv h1 h3;refine⟨a,cap,hv,h1,h2,fun hl=>?_⟩;obtain⟨b,off,ha,hb,hc⟩:=h3 hl;refine⟨b,off,ha,hb,fun j p hj=>?_⟩;have e:(l.map tripC)[j]? =some (tripC p):=by rw[List.getElem?_map,hj];rfl
 have c:=fun i u hi=>hc j (tripC p) i u e hi
 refine⟨c 0 _ rfl,?_,?_⟩
 ·rw[Nat.add_assoc];exact c 1 _ rfl
 ·rw[Nat.add_assoc];exact c 2 _ rfl
theorem idx19_any (v:Value) (raw:List Trip) (w:World) (hr:RdR w v (raw.map tripC)) (hwf:WfT raw):
  Calls Tryz.prog 35 #[v] w fun e w'=>∃u,e=.returned u/\RdR w' u ((idxL raw).map entC)/\Below w.heap.size w w':=by
 obtain⟨a,ca,rfl,hca,hma,hA⟩:=trip_cells hr;unfold maxLen at hma;clear hr;go_enter Tryz.func35,Tryz.ntmps35;go_wp2_with fail
 go_loopg [3,4,5,6,7] raw.length (fun g s3 s4 s5 s6 _s7 wr=>∃k P F:Nat,k<=raw.length/\k<=20/\g=raw.length-k/\s6=.int .i64 (k:Int)/\s4=.int .i64 (P:Int)/\s5=.int .i64 (F:Int)/\Hid ((P:Int)=endA (raw.take k) 32/\(F:Int)=endF (raw.take k) 0)/\(P<=6032/\F<=600)/\OwR wr w.heap.size 66 5 s3 ((idxT (raw.take k) 32 0).map entC)/\Below w.heap.size w wr)
 case atStart=>exact⟨0,32,0,Nat.zero_le _,Nat.zero_le _,rfl,rfl,rfl,rfl,hid ⟨rfl,rfl⟩,⟨by decide,by decide⟩,OwR.nil _ _ _ _,Below.refl _ _⟩
 case round=>
  obtain⟨k,P,F,hk,hk20,hg,rfl,rfl,rfl,HPF,hPF,hor,hbel⟩:=hrel;have HG:=hid hg;have hsz:=hbel.size;clear hg
  by_cases hlt:k<raw.length
  rotate_left
  ·have t1:decide ((k:Int)<(raw.length:Int))=false:=decide_eq_false (by omega);have HT:=hid (show idxT (raw.take k) 32 0=idxL raw by unfold idxL;rw[List.take_of_length_le (by omega),List.take_of_length_le (by omega)]);go_wp2_with fail;go_ret;exact⟨_,rfl,by rw[<-HT.out];exact hor.rd,hbel⟩
  have t1:decide ((k:Int)<(raw.length:Int))=true:=decide_eq_true (by omega)
  by_cases h20:k<20
  rotate_left
  ·have t2:decide ((k:Int)<20)=false:=decide_eq_false (by omega);obtain rfl:k=20:=by omega
   go_wp2_with fail;go_ret;exact⟨_,rfl,hor.rd,hbel⟩
  have t2:decide ((k:Int)<20)=true:=decide_eq_true (by omega);obtain⟨b,off,rfl,hb,hc⟩:=hA (by omega);obtain⟨x,hx⟩:∃x,raw[k]? =some x:=⟨_,List.getElem?_eq_getElem hlt⟩;obtain⟨y0,y1,y2⟩:=hc k x hx;obtain⟨⟨w1,w2⟩,⟨w3,w4⟩,⟨w5,w6⟩⟩:=hwf x (List.mem_of_getElem? hx);have c0:=(hbel.cell (p:=⟨b,off+k*3,none⟩) hb).trans y0;have c1:=(hbel.cell (p:=⟨b,off+k*3+1,none⟩) hb).trans y1;have c2:=(hbel.cell (p:=⟨b,off+k*3+2,none⟩) hb).trans y2;have hp1:=fun W=>pick19_any x.1 300 W w1 w2 (by decide) (by decide)
  have hp2:=fun W=>pick19_any x.2.1 30 W w3 w4 (by decide) (by decide)
  have hp3:=fun W=>pick19_any x.2.2 9 W w5 w6 (by decide) (by decide)
  have hp4:=fun W=>pick19_any x.2.2 1000 W w5 w6 (by decide) (by decide)
  obtain⟨p1,p2⟩:=vU x.1 300 (by decide);obtain⟨p3,p4⟩:=vU x.2.1 30 (by decide);obtain⟨p5,p6⟩:=vU x.2.2 9 (by decide);obtain⟨p7,p8⟩:=vU x.2.2 1000 (by decide);have hsn:raw.take (k+1)=raw.take k++[x]:=by rw[List.take_add_one,hx];rfl
  have HT:=hid (show(idxT (raw.take (k+1)) 32 0).map entC=(idxT (raw.take k) 32 0).map entC++[entC (tripE x (P:Int) (F:Int))] by rw[hsn,idxT_snoc,List.map_append,<-HPF.out.1,<-HPF.out.2];rfl);have HA2:=hid (show endA (raw.take (k+1)) 32=(P:Int)+gA x.1 300+1 by rw[hsn,endA_snoc,<-HPF.out.1]);have HF2:=hid (show endF (raw.take (k+1)) 0=(F:Int)+(1+gA x.2.1 30) by rw[hsn,endF_snoc,<-HPF.out.2]);have hA2:=endA_bd (raw.take (k+1)) 32;have hF2:=endF_bd (raw.take (k+1)) 0;rw[HA2.out] at hA2;rw[HF2.out] at hF2;have hl2:(raw.take (k+1)).length<=20:=by rw[List.length_take];omega
  have hln:((idxT (raw.take k) 32 0).map entC).length<=20:=by rw[List.length_map,idxT_length,List.length_take];omega
  unfold tripE at HT;obtain⟨a1,ha1⟩:∃a1:Nat,gA x.1 300=(a1:Int):=⟨_,(Int.toNat_of_nonneg p1).symm⟩;obtain⟨a2,ha2⟩:∃a2:Nat,gA x.2.1 30=(a2:Int):=⟨_,(Int.toNat_of_nonneg p3).symm⟩;obtain⟨a3,ha3⟩:∃a3:Nat,gA x.2.2 9=(a3:Int):=⟨_,(Int.toNat_of_nonneg p5).symm⟩;obtain⟨a4,ha4⟩:∃a4:Nat,gA x.2.2 1000=(a4:Int):=⟨_,(Int.toNat_of_nonneg p7).symm⟩;rw[ha1] at hp1 HT HA2 hA2 p2;rw[ha2] at hp2 HT HF2 hF2 p4;rw[ha3] at hp3 HT p6;rw[ha4] at hp4 HT p8;obtain⟨A,hAe⟩:∃A,A=P+a1:=⟨_,rfl⟩;obtain⟨n,hn⟩:∃n,n=1+a2:=⟨_,rfl⟩;obtain⟨r1,hr1⟩:∃r1,r1=1+a3:=⟨_,rfl⟩;obtain⟨r2,hr2⟩:∃r2,r2=40*r1:=⟨_,rfl⟩
  obtain⟨A2,hAe2⟩:∃A2,A2=A+1:=⟨_,rfl⟩;obtain⟨F2,hFe⟩:∃F2,F2=F+n:=⟨_,rfl⟩;have HPF2:=hid (show(A2:Int)=endA (raw.take (k+1)) 32/\(F2:Int)=endF (raw.take (k+1)) 0 from⟨by rw[HA2.out];omega,by rw[HF2.out];omega⟩);rw[show(P:Int)+(a1:Int)=(A:Int) by omega,show 40*(1+(a3:Int))=(r2:Int) by omega,show 1+(a2:Int)=(n:Int) by omega] at HT;have m1:IntKind.i64.wrap ((P:Int)+(a1:Int))=(A:Int):=by rw[show(P:Int)+(a1:Int)=(A:Int) by omega];exact nat_w19 A (by omega)
  have m2:IntKind.i64.wrap (1+(a2:Int))=(n:Int):=by rw[show 1+(a2:Int)=(n:Int) by omega];exact nat_w19 n (by omega)
  have m3:IntKind.i64.wrap (1+(a3:Int))=(r1:Int):=by rw[show 1+(a3:Int)=(r1:Int) by omega];exact nat_w19 r1 (by omega)
  have m4:IntKind.i64.wrap (40*(r1:Int))=(r2:Int):=by rw[show 40*(r1:Int)=(r2:Int) by omega];exact nat_w19 r2 (by omega)
  have m5:IntKind.i64.wrap ((A:Int)+1)=(A2:Int):=by rw[show(A:Int)+1=(A2:Int) by omega];exact nat_w19 A2 (by omega)
  have m6:IntKind.i64.wrap ((F:Int)+(n:Int))=(F2:Int):=by rw[show(F:Int)+(n:Int)=(F2:Int) by omega];exact nat_w19 F2 (by omega)
  have m7:IntKind.u32.wrap (a4:Int)=(a4:Int):=by rw[IntKind.wrap_u32];omega
  have m7':(a4:Int)%4294967296=(a4:Int):=by omega
  have hA2b:A2<=6032/\F2<=600:=by omega
  clear hc hA hx hsn HA2 HF2 hA2 hF2 hl2 ha1 ha2 ha3 ha4 hAe hn hr1 hr2 hAe2 hFe HPF w1 w2 w3 w4 w5 w6 p1 p3 p5 p7 hwf;obtain⟨x0,x1,x2⟩:=x;dsimp only at c0 c1 c2 y0 y1 y2 hp1 hp2 hp3 hp4 HT;go_wp2_with fail;refine(hp1 _).mono ?_;rintro e w' ⟨rfl,rfl⟩;go_wp2_with fail;refine(hp2 _).mono ?_;rintro e w' ⟨rfl,rfl⟩;clear hp1 hp2;go_wp2_with fail;obtain⟨W9a,hW9a⟩:∃W9a,W9a=(wr.alloc (.cells #[.int .i64 (A:Int),.int .i64 (r2:Int),.int .i64 (F:Int),.int .i64 (n:Int),.int .u32 (a4:Int)] 66)).drew:=⟨_,rfl⟩
  have ho9a:OwR W9a w.heap.size 66 5 u3 ((idxT (raw.take k) 32 0).map entC):=by rw[hW9a];exact OwR.alloc hor _
  have hN9:Arr W9a wr.heap.size 66 (entC ⟨(A:Int),(r2:Int),(F:Int),(n:Int),(a4:Int)⟩):=by rw[hW9a];exact Arr.new wr 66 (entC ⟨(A:Int),(r2:Int),(F:Int),(n:Int),(a4:Int)⟩)
  have hb9a:Below w.heap.size w W9a:=by rw[hW9a];exact(hbel.alloc hsz _).drew
  have hs9a:=hb9a.size;obtain⟨v',W10,hr,ho10,hb10,hg10⟩:=run_appR elEnt 61 w.heap.size u3 _ ho9a _ [entC ⟨(A:Int),(r2:Int),(F:Int),(n:Int),(a4:Int)⟩] (RdR.one hN9) (entC_wide [⟨(A:Int),(r2:Int),(F:Int),(n:Int),(a4:Int)⟩]) (Nat.succ_pos _) (by simp only[List.length_singleton];omega) hs9a;have hbel10:=hb9a.trans hb10;rw[hW9a] at hr
  have kk:∀{a:Addr} {v:Value},wr.cell? a=some v->(wr.alloc (.cells #[.int .i64 (A:Int),.int .i64 (r2:Int),.int .i64 (F:Int),.int .i64 (n:Int),.int .u32 (a4:Int)] 66)).drew.cell? a=some v:=fun{a} {v} h=>((bD (Below.refl _ wr) (.cells #[.int .i64 (A:Int),.int .i64 (r2:Int),.int .i64 (F:Int),.int .i64 (n:Int),.int .u32 (a4:Int)] 66)).drew.cell (World.block_lt_of_cell? wr _ h)).trans h
  have hS0:wr.drew.cell? ⟨b,off+k*3,none⟩=some (.int .i64 x0)/\wr.drew.cell? ⟨b,off+k*3+1,none⟩=some (.int .i64 x1)/\wr.drew.cell? ⟨b,off+k*3+2,none⟩=some (.int .i64 x2):=⟨c0,c1,c2⟩;have hS1:=And.intro (kk c0) (And.intro (kk c1) (kk c2));have hS2:=And.intro ((hbel10.cell (p:=⟨b,off+k*3,none⟩) hb).trans y0) (And.intro ((hbel10.cell (p:=⟨b,off+k*3+1,none⟩) hb).trans y1) ((hbel10.cell (p:=⟨b,off+k*3+2,none⟩) hb).trans y2));clear ho9a hN9 hb9a hs9a hW9a hg10 hb10 hor c0 c1 c2 y0 y1 y2 kk
  refine wp_region_held_drew (S:=fun wx=>wx.cell? ⟨b,off+k*3,none⟩=some (.int .i64 x0)/\wx.cell? ⟨b,off+k*3+1,none⟩=some (.int .i64 x1)/\wx.cell? ⟨b,off+k*3+2,none⟩=some (.int .i64 x2)) (by kernel_rfl) hS0 (fun hHeld=>?_);refine wpAnyH_take (i:=0) (oi:=?oia0) (v:=?va0) ?hia0 (by kernel_rfl) (by kernel_rfl) (by kernel_rfl) ?hqa0 ?hya0 (by assumption) ?_
  case hia0=>(simp only[List.getElem?_toArray,List.getElem?_cons_zero];rfl)
  case hqa0=>exact fun _ _ _ h=>h
  case hya0=>(refine Or.inl ⟨by rfl,?_⟩;intro w' hSw;(try dsimp only at hSw);(try go_simp);try with_reducible rfl)
  try simp only[Act.put,List.setIfInBounds_toArray,List.set_cons_zero,List.set_cons_succ]
  refine wpAnyH_take (i:=1) (oi:=?oia1) (v:=?va1) ?hia1 (by kernel_rfl) (by kernel_rfl) (by kernel_rfl) ?hqa1 ?hya1 (by assumption) ?_
  case hia1=>(simp only[List.getElem?_toArray,List.getElem?_cons_succ,List.getElem?_cons_zero];rfl)
  case hqa1=>exact fun _ _ _ h=>h
  case hya1=>(refine Or.inl ⟨by rfl,?_⟩;intro w' hSw;(try dsimp only at hSw);(try go_simp);try with_reducible rfl)
  try simp only[Act.put,List.setIfInBounds_toArray,List.set_cons_zero,List.set_cons_succ]
  refine wpAnyH_take (i:=2) (oi:=?oia2) (v:=?va2) ?hia2 (by kernel_rfl) (by kernel_rfl) (by kernel_rfl) ?hqa2 ?hya2 (by assumption) ?_
  case hia2=>(simp only[List.getElem?_toArray,List.getElem?_cons_succ,List.getElem?_cons_zero];rfl)
  case hqa2=>exact fun _ _ _ h=>h
  case hya2=>(refine Or.inl ⟨by rfl,?_⟩;intro w' hSw;(try dsimp only at hSw);(try go_simp);try with_reducible rfl)
  try simp only[Act.put,List.setIfInBounds_toArray,List.set_cons_zero,List.set_cons_succ]
  refine wpAnyH_take (i:=3) (oi:=?oia3) (v:=?va3) ?hia3 (by kernel_rfl) (by kernel_rfl) (by kernel_rfl) ?hqa3 ?hya3 (by assumption) ?_
  case hia3=>(simp only[List.getElem?_toArray,List.getElem?_cons_succ,List.getElem?_cons_zero];rfl)
  case hqa3=>exact fun _ _ _ h=>h
  case hya3=>(refine Or.inl ⟨by rfl,?_⟩;intro w' hSw;(try dsimp only at hSw);(try go_simp);try with_reducible rfl)
  try simp only[Act.put,List.setIfInBounds_toArray,List.set_cons_zero,List.set_cons_succ]
  refine wpAnyH_take (i:=4) (oi:=?oia4) (v:=?va4) ?hia4 (by kernel_rfl) (by kernel_rfl) (by kernel_rfl) ?hqa4 ?hya4 (by assumption) ?_
  case hia4=>(simp only[List.getElem?_toArray,List.getElem?_cons_succ,List.getElem?_cons_zero];rfl)
  case hqa4=>exact fun _ _ _ h=>h
  case hya4=>(refine Or.inl ⟨by rfl,?_⟩;intro w' hSw;(try dsimp only at hSw);(try go_simp);try with_reducible rfl)
  try simp only[Act.put,List.setIfInBounds_toArray,List.set_cons_zero,List.set_cons_succ]
  refine wpAnyH_take (i:=5) (oi:=?oia5) (v:=?va5) ?hia5 (by kernel_rfl) (by kernel_rfl) (by kernel_rfl) ?hqa5 ?hya5 (by assumption) ?_
  case hia5=>(simp only[List.getElem?_toArray,List.getElem?_cons_succ,List.getElem?_cons_zero];rfl)
  case hqa5=>exact fun _ _ _ h=>h
  case hya5=>(refine Or.inl ⟨by rfl,?_⟩;intro w' hSw;(try dsimp only at hSw);(try go_simp);try with_reducible rfl)
  try simp only[Act.put,List.setIfInBounds_toArray,List.set_cons_zero,List.set_cons_succ]
  refine wpAnyH_take (i:=6) (oi:=?oia6) (v:=?va6) ?hia6 (by kernel_rfl) (by kernel_rfl) (by kernel_rfl) ?hqa6 ?hya6 (by assumption) ?_
  case hia6=>(simp only[List.getElem?_toArray,List.getElem?_cons_succ,List.getElem?_cons_zero];rfl)
  case hqa6=>exact fun _ _ _ h=>h
  case hya6=>(refine Or.inl ⟨by rfl,?_⟩;intro w' hSw;(try dsimp only at hSw);(try go_simp);try with_reducible rfl)
  try simp only[Act.put,List.setIfInBounds_toArray,List.set_cons_zero,List.set_cons_succ]
  refine wpAnyH_take (i:=10) (oi:=?oia10) (v:=?va10) ?hia10 (by kernel_rfl) (by kernel_rfl) (by kernel_rfl) ?hqa10 ?hya10 (by assumption) ?_
  case hia10=>(simp only[List.getElem?_toArray,List.getElem?_cons_succ,List.getElem?_cons_zero];rfl)
  case hqa10=>exact fun _ _ _ h=>h
  case hya10=>(refine Or.inl ⟨by rfl,?_⟩;intro w' hSw;(try dsimp only at hSw);(try go_simp);try with_reducible rfl)
  try simp only[Act.put,List.setIfInBounds_toArray,List.set_cons_zero,List.set_cons_succ]
  refine wpAnyH_take (i:=11) (oi:=?oia11) (v:=?va11) ?hia11 (by kernel_rfl) (by kernel_rfl) (by kernel_rfl) ?hqa11 ?hya11 (by assumption) ?_
  case hia11=>(simp only[List.getElem?_toArray,List.getElem?_cons_succ,List.getElem?_cons_zero];rfl)
  case hqa11=>exact fun _ _ _ h=>h
  case hya11=>(refine Or.inl ⟨by rfl,?_⟩;intro w' hSw;(try dsimp only at hSw);(try go_simp);try with_reducible rfl)
  try simp only[Act.put,List.setIfInBounds_toArray,List.set_cons_zero,List.set_cons_succ]
  refine wpAnyH_take (i:=12) (oi:=?oia12) (v:=?va12) ?hia12 (by kernel_rfl) (by kernel_rfl) (by kernel_rfl) ?hqa12 ?hya12 (by assumption) ?_
  case hia12=>(simp only[List.getElem?_toArray,List.getElem?_cons_succ,List.getElem?_cons_zero];rfl)
  case hqa12=>exact fun _ _ _ h=>h
  case hya12=>(refine Or.inl ⟨by rfl,?_⟩;intro w' hSw;(try dsimp only at hSw);(try go_simp);try with_reducible rfl)
  try simp only[Act.put,List.setIfInBounds_toArray,List.set_cons_zero,List.set_cons_succ]
  refine wpAnyH_take (i:=13) (oi:=?oia13) (v:=?va13) ?hia13 (by kernel_rfl) (by kernel_rfl) (by kernel_rfl) ?hqa13 ?hya13 (by assumption) ?_
  case hia13=>(simp only[List.getElem?_toArray,List.getElem?_cons_succ,List.getElem?_cons_zero];rfl)
  case hqa13=>exact fun _ _ _ h=>h
  case hya13=>(refine Or.inl ⟨by rfl,?_⟩;intro w' hSw;(try dsimp only at hSw);(try go_simp);try with_reducible rfl)
  try simp only[Act.put,List.setIfInBounds_toArray,List.set_cons_zero,List.set_cons_succ]
  refine wpAnyH_take (i:=14) (oi:=?oia14) (v:=?va14) ?hia14 (by kernel_rfl) (by kernel_rfl) (by kernel_rfl) ?hqa14 ?hya14 (by assumption) ?_
  case hia14=>(simp only[List.getElem?_toArray,List.getElem?_cons_succ,List.getElem?_cons_zero];rfl)
  case hqa14=>exact fun _ _ _ h=>h
  case hya14=>(refine Or.inl ⟨by rfl,?_⟩;intro w' hSw;(try dsimp only at hSw);(try go_simp);try with_reducible rfl)
  try simp only[Act.put,List.setIfInBounds_toArray,List.set_cons_zero,List.set_cons_succ]
  refine wpAnyH_take (i:=15) (oi:=?oia15) (v:=?va15) ?hia15 (by kernel_rfl) (by kernel_rfl) (by kernel_rfl) ?hqa15 ?hya15 (by assumption) ?_
  case hia15=>(simp only[List.getElem?_toArray,List.getElem?_cons_succ,List.getElem?_cons_zero];rfl)
  case hqa15=>exact fun _ _ _ h=>h
  case hya15=>(refine Or.inl ⟨by rfl,?_⟩;intro w' hSw;(try dsimp only at hSw);(try go_simp);try with_reducible rfl)
  try simp only[Act.put,List.setIfInBounds_toArray,List.set_cons_zero,List.set_cons_succ]
  refine wpAnyH_take (i:=16) (oi:=?oia16) (v:=?va16) ?hia16 (by kernel_rfl) (by kernel_rfl) (by kernel_rfl) ?hqa16 ?hya16 (by assumption) ?_
  case hia16=>(simp only[List.getElem?_toArray,List.getElem?_cons_succ,List.getElem?_cons_zero];rfl)
  case hqa16=>exact fun _ _ _ h=>h
  case hya16=>(refine Or.inl ⟨by rfl,?_⟩;intro w' hSw;(try dsimp only at hSw);(try go_simp);try with_reducible rfl)
  try simp only[Act.put,List.setIfInBounds_toArray,List.set_cons_zero,List.set_cons_succ]
  refine wpAnyH_ready (rs:=[7]) (by kernel_rfl) (by simp) ?_;refine AllReadyH.cons rfl (fun K hK=>?_) AllReadyH.nil;go_simp;refine(hp3 _).mono ?_;rintro e w' ⟨rfl,rfl⟩
  (try go_wp2_with fail)
  refine hK.out _ _ hHeld (fun _=>?_)
  try simp only[Act.put,List.setIfInBounds_toArray,List.set_cons_zero,List.set_cons_succ]
  clear hK K;refine wpAnyH_take (i:=8) (oi:=?oib8) (v:=?vb8) ?hib8 (by kernel_rfl) (by kernel_rfl) (by kernel_rfl) ?hqb8 ?hyb8 (by assumption) ?_
  case hib8=>(simp only[List.getElem?_toArray,List.getElem?_cons_succ,List.getElem?_cons_zero];rfl)
  case hqb8=>exact fun _ _ _ h=>h
  case hyb8=>(refine Or.inl ⟨by rfl,?_⟩;intro w' hSw;(try dsimp only at hSw);(try go_simp);try with_reducible rfl)
  try simp only[Act.put,List.setIfInBounds_toArray,List.set_cons_zero,List.set_cons_succ]
  refine wpAnyH_take (i:=9) (oi:=?oib9) (v:=?vb9) ?hib9 (by kernel_rfl) (by kernel_rfl) (by kernel_rfl) ?hqb9 ?hyb9 (by assumption) ?_
  case hib9=>(simp only[List.getElem?_toArray,List.getElem?_cons_succ,List.getElem?_cons_zero];rfl)
  case hqb9=>exact fun _ _ _ h=>h
  case hyb9=>(refine Or.inl ⟨by rfl,?_⟩;intro w' hSw;(try dsimp only at hSw);(try go_simp);try with_reducible rfl)
  try simp only[Act.put,List.setIfInBounds_toArray,List.set_cons_zero,List.set_cons_succ]
  refine wpAnyH_ready (rs:=[17]) (by kernel_rfl) (by simp) ?_;refine AllReadyH.cons rfl (fun K hK=>?_) AllReadyH.nil;go_simp;refine(hp4 _).mono ?_;rintro e w' ⟨rfl,rfl⟩
  (try go_wp2_with fail)
  refine hK.out _ _ hHeld (fun _=>?_)
  try simp only[Act.put,List.setIfInBounds_toArray,List.set_cons_zero,List.set_cons_succ]
  clear hK K;refine wpAnyH_take (i:=18) (oi:=?oib18) (v:=?vb18) ?hib18 (by kernel_rfl) (by kernel_rfl) (by kernel_rfl) ?hqb18 ?hyb18 (by assumption) ?_
  case hib18=>(simp only[List.getElem?_toArray,List.getElem?_cons_succ,List.getElem?_cons_zero];rfl)
  case hqb18=>exact fun _ _ _ h=>h
  case hyb18=>(refine Or.inl ⟨by rfl,?_⟩;intro w' hSw;(try dsimp only at hSw);(try go_simp);try with_reducible rfl)
  try simp only[Act.put,List.setIfInBounds_toArray,List.set_cons_zero,List.set_cons_succ]
  refine wpAnyH_take (i:=19) (oi:=?oib19) (v:=?vb19) ?hib19 (by kernel_rfl) (by kernel_rfl) (by kernel_rfl) ?hqb19 ?hyb19 (by assumption) ?_
  case hib19=>(simp only[List.getElem?_toArray,List.getElem?_cons_succ,List.getElem?_cons_zero];rfl)
  case hqb19=>exact fun _ _ _ h=>h
  case hyb19=>(refine Or.inl ⟨by rfl,?_⟩;intro w' hSw;(try dsimp only at hSw);(try go_simp);try with_reducible rfl)
  try simp only[Act.put,List.setIfInBounds_toArray,List.set_cons_zero,List.set_cons_succ]
  refine wpAnyH_ready (rs:=[20]) (by kernel_rfl) (by simp) ?_;refine AllReadyH.cons rfl (fun K hK=>?_) AllReadyH.nil;go_simp;refine hK.out _ _ hS1 (fun _=>?_)
  try simp only[Act.put,List.setIfInBounds_toArray,List.set_cons_zero,List.set_cons_succ]
  clear hK K;refine wpAnyH_ready (rs:=[21]) (by kernel_rfl) (by simp) ?_;refine AllReadyH.cons rfl (fun K hK=>?_) AllReadyH.nil;refine xC rfl (.tmp 33) (.tmp 53) 61 rfl u3 (.slice (some ⟨wr.heap.size,0,none⟩) 1 1) v' W10 (by simp[Act.eval]) (by simp[Act.eval]) hr ?_;refine hK.out _ _ hS2 (fun _=>?_)
  try simp only[Act.put,List.setIfInBounds_toArray,List.set_cons_zero,List.set_cons_succ]
  clear hK K;refine wpAnyH_ready (rs:=[22]) (by kernel_rfl) (by simp) ?_;refine AllReadyH.cons rfl (fun K hK=>?_) AllReadyH.nil;go_simp;refine hK.out _ _ hS2 (fun _=>?_)
  try simp only[Act.put,List.setIfInBounds_toArray,List.set_cons_zero,List.set_cons_succ]
  clear hK K;refine wpAnyH_done (by kernel_rfl) ?_ _;clear hr hp3 hp4 hS0 hS1 hS2 hHeld;go_wp2_with fail;have hg:=HG.out
  go_roundg (raw.length-(k+1))
  case measure=>omega
  case rel=>exact⟨k+1,A2,F2,by omega,by omega,rfl,by go_num,rfl,rfl,HPF2,hA2b,by rw[HT.out];exact ho10,hbel10⟩
end
section
open Go.RowKit Go Go.Shelf
abbrev okA (l:List (Nat×List ByteArray)):Prop:=∀p∈l,1<=p.1/\p.1<=9/\∀t∈p.2,okT (40*(p.1:Int)) t
noncomputable def arcS (l:List (Nat×List ByteArray)):ByteArray:=mkS (aD (arcW l))
def allT (l:List (Nat×List ByteArray)):List ByteArray:=(l.map (fun p=>p.2)).flatten
theorem okA_one {n:Nat} {l:List ByteArray} (h1:1<=n) (h9:n<=9) (h:∀t∈l,okT (40*(n:Int)) t):okA [(n,l)]:=fun p hp=>by obtain rfl:=List.mem_singleton.1 hp;exact⟨h1,h9,h⟩
theorem arcS_size:∀{l:List (Nat×List ByteArray)},okA l->(arcS l).size<=3500*(allT l).length+15*l.length
 |[],_=>by unfold arcS;rw[cP];exact Nat.le_refl _
 |p::l,h=>by
  have ih:=arcS_size (l:=l) (fun q hq=>h q (List.mem_cons_of_mem _ hq));obtain⟨h1,h2,h3⟩:=h p (List.mem_cons_self ..);have hb:=bodyW_len (r:=40*(p.1:Int)) (by omega) p.2 h3;have hw:arcW (p::l)=padW (strW p.1 p.2)++arcW l:=rfl;have hp:=padW_length (strW p.1 p.2);have hu:=padN_up (strW p.1 p.2).length;have hlt:=padN_lt (strW p.1 p.2).length;have hs:=strW_length p.1 p.2;have e1:=packL_len8 (p::l);have e2:=packL_len8 l;have ha:(allT (p::l)).length=p.2.length+(allT l).length:=by unfold allT;rw[List.map_cons,List.flatten_cons,List.length_append]
  unfold arcS at ih ⊢;rw[cP] at ih ⊢;rw[hw,List.length_append] at e1;rw[hw];rw[ha,List.length_cons];omega
theorem arcS_res {l:List (Nat×List ByteArray)} (hl:l≠[]) (ho:okA l):resP (arcS l).data.toList=arcP 0 l/\(arcD (arcS l).data.toList).2=0:=by
 have h:=arcD_back hl ho;unfold arcS;rw[fW];unfold resP;rw[h];exact⟨rfl,rfl⟩
theorem write_fine (n:Nat) (v:Value) (l:List ByteArray) (w:World) (hr:RdT w v l) (hl:l.length<=5) (hf:fineT l) (h1:1<=n) (h9:n<=9):
  Calls Tryz.prog 17 #[.int .i64 (n:Int),v] w fun e w'=>e=.returned (.tuple #[.string (arcS [(n,l)]),.int .i64 0])/\okA [(n,l)]/\Below w.heap.size w w':=by
 have hen:∀t∈l,eZ t (40*(n:Int))=0:=fun t ht=>by
  obtain⟨f1,f2,f3⟩:=hf t ht;unfold lnL at f2;exact wY f1 (by omega) (by omega) (by omega)
 have hwr:wrE (n:Int) l=0:=by unfold wrE;rw[if_neg (by omega)];exact firstE_of hen
 refine(write_any (n:Int) v l w hr (by omega) (fun t ht=>by have:=(hf t ht).2.2;omega) (by omega) (by omega) (fun k hk ho=>?_)).mono ?_
 ·have:=bodyW_len (r:=40*(n:Int)) (by omega) (l.take k) ho;rw[List.length_take] at this;omega
 ·rintro e w' (⟨-,rfl,ho,hb⟩|⟨h0,-,-⟩)
  ·refine⟨?_,okA_one h1 h9 ho,hb⟩;rw[Int.toNat_natCast];unfold arcS;rw[arc_one]
  ·exact absurd hwr h0
theorem RdT.nil (w:World):RdT w (.slice none 0 0) []:=⟨none,0,rfl,Nat.le_refl _,by simp[maxLen],.inl rfl⟩
end
section
open Go.RowKit Go Go.Shelf
theorem RdR.lit {w:World} {g e:Nat} {l:RowCells} {n:Nat} (h:Arr w g e l.flatten) (hl:l.length=n) (hn:n<=maxLen):RdR w (.slice (some ⟨g,0,none⟩) n n) l:=by
 subst hl;refine⟨_,l.length,rfl,Nat.le_refl _,hn,.inr ⟨g,0,rfl,h.lt,fun j hj=>?_⟩⟩;rw[Nat.zero_add,h.cell (i:=j) (List.getElem?_eq_getElem hj),List.getD_eq_getElem?_getD,List.getElem?_eq_getElem hj];rfl
theorem RdR.litAt {w:World} {g e o:Nat} {pre:List Value} {l:RowCells} {n:Nat} (h:Arr w g e (pre++l.flatten)) (ho:pre.length=o) (hl:l.length=n) (hn:n<=maxLen):RdR w (.slice (some ⟨g,o,none⟩) n n) l:=by
 subst hl ho;refine⟨_,l.length,rfl,Nat.le_refl _,hn,.inr ⟨g,pre.length,rfl,h.lt,fun j hj=>?_⟩⟩;have e:(pre++l.flatten)[pre.length+j]? =some l.flatten[j]:=by rw[List.getElem?_append_right (by omega),Nat.add_sub_cancel_left,List.getElem?_eq_getElem hj]
 rw[h.cell e,List.getD_eq_getElem?_getD,List.getElem?_eq_getElem hj];rfl
def aw1:Ent:=⟨32,40,0,40,0⟩
def aw2:Ent:=⟨90,40,40,1,0⟩
theorem aw_right:rightL [aw1,aw2]:=by
 refine⟨⟨rfl,?_,?_,?_,?_,?_,?_⟩,⟨rfl,?_,?_,?_,?_,?_,?_⟩,trivial⟩<;>decide
theorem aw_wrong:¬rightL [aw2]:=fun h=>absurd h.1.1 (by decide)
theorem aw_tot:totL [aw1,aw2]=41:=by
 unfold totL;rw[if_pos aw_right];rfl
theorem aw_find (o r:Int) (h:(if o<0\/(41:Int)<=o then(-1:Int) else(cntF [aw1,aw2] o:Int)-1)=r):findL [aw1,aw2] o=r:=by
 unfold findL;rw[aw_tot];exact h
theorem aw_cover1:coverL [aw1,aw2] 39 2=(0,1):=by
 unfold coverL;rw[aw_tot,if_neg (by decide)];show(findL [aw1,aw2] 39,findL [aw1,aw2] 40)=_;rw[aw_find 39 0 (by decide),aw_find 40 1 (by decide)]
theorem aw_cover2:coverL [aw1,aw2] 41 2=(-1,-1):=by
 unfold coverL;rw[aw_tot,if_pos (by decide)]
def xyS:ByteArray:=⟨#[120,121]⟩
theorem xy_fine:fineT [xyS]:=fun t ht=>by
 obtain rfl:=List.mem_singleton.1 ht;exact⟨by decide,by decide,by decide⟩
theorem aw_none:arcD (⟨#[80,77,107,49,23,114,69,56,80,144,0,0,0,0]⟩:ByteArray).data.toList=([],0):=by kernel_rfl
theorem aw_one:∃y:Int,scanE 0 (arcP 0 [(1,[xyS])])=[⟨32,40,0,2,y⟩]:=⟨_,rfl⟩
theorem awake19_any (w:World) (hE:iF w):Calls Tryz.prog 34 #[] w fun e w'=>e=.returned (.bool true)/\Below w.heap.size w w':=by
 have hN:=Arr.new w 66 [.int .i64 32,.int .i64 40,.int .i64 0,.int .i64 40,.int .u32 0,.int .i64 90,.int .i64 40,.int .i64 40,.int .i64 1,.int .u32 0];have hb0:Below w.heap.size w (w.alloc (.cells #[.int .i64 32,.int .i64 40,.int .i64 0,.int .i64 40,.int .u32 0,.int .i64 90,.int .i64 40,.int .i64 40,.int .i64 1,.int .u32 0] 66)):=bD (Below.refl _ _) _
 have hr0:RdR (w.alloc (.cells #[.int .i64 32,.int .i64 40,.int .i64 0,.int .i64 40,.int .u32 0,.int .i64 90,.int .i64 40,.int .i64 40,.int .i64 1,.int .u32 0] 66)) (.slice (some ⟨w.heap.size,0,none⟩) 2 2) ([aw1,aw2].map entC):=RdR.lit hN rfl (by decide);have hq0:RdR (w.alloc (.cells #[.int .i64 32,.int .i64 40,.int .i64 0,.int .i64 40,.int .u32 0,.int .i64 90,.int .i64 40,.int .i64 40,.int .i64 1,.int .u32 0] 66)) (.slice (some ⟨w.heap.size,5,none⟩) 1 1) ([aw2].map entC):=RdR.litAt (pre:=[.int .i64 32,.int .i64 40,.int .i64 0,.int .i64 40,.int .u32 0]) hN rfl rfl (by decide)
 have hE0:=hE.below hb0;clear hN hE;go_enter Tryz.func34,Tryz.ntmps34;go_wp2_with fail;obtain⟨g,hg⟩:∃g,g=w.heap.size:=⟨_,rfl⟩;generalize (w.alloc (.cells #[.int .i64 32,.int .i64 40,.int .i64 0,.int .i64 40,.int .u32 0,.int .i64 90,.int .i64 40,.int .i64 40,.int .i64 1,.int .u32 0] 66))=W0 at*
 rw[<-hg] at hr0 hq0 ⊢;clear hg;have hc1:∀W,RdR W (.slice (some ⟨g,0,none⟩) 2 2) ([aw1,aw2].map entC)->Calls Tryz.prog 39 #[.slice (some ⟨g,0,none⟩) 2 2,.int .i64 39,.int .i64 2] W fun e w'=>e=.returned (.tuple #[.int .i64 0,.int .i64 1])/\Below W.heap.size W w':=fun W h=>by
  have k:=cover_any _ [aw1,aw2] 39 2 W h (by decide) (by decide) (by decide) (by decide) (by decide);rw[aw_cover1] at k;exact k
 have hc2:∀W,RdR W (.slice (some ⟨g,0,none⟩) 2 2) ([aw1,aw2].map entC)->Calls Tryz.prog 39 #[.slice (some ⟨g,0,none⟩) 2 2,.int .i64 41,.int .i64 2] W fun e w'=>e=.returned (.tuple #[.int .i64 (-1),.int .i64 (-1)])/\Below W.heap.size W w':=fun W h=>by
  have k:=cover_any _ [aw1,aw2] 41 2 W h (by decide) (by decide) (by decide) (by decide) (by decide);rw[aw_cover2] at k;exact k
 have hf:∀(o r:Int),findL [aw1,aw2] o=r->∀W,RdR W (.slice (some ⟨g,0,none⟩) 2 2) ([aw1,aw2].map entC)->Calls Tryz.prog 37 #[.slice (some ⟨g,0,none⟩) 2 2,.int .i64 o] W fun e w'=>e=.returned (.int .i64 r)/\Below W.heap.size W w':=fun o r e W h=>by
  have k:=find_any _ [aw1,aw2] o W h (by decide);rw[e] at k;exact k
 have hf1:=hf 40 1 (aw_find _ _ (by decide));have hf2:=hf 39 0 (aw_find _ _ (by decide));have hf3:=hf 41 (-1) (aw_find _ _ (by decide));have hri:∀W,RdR W (.slice (some ⟨g,0,none⟩) 2 2) ([aw1,aw2].map entC)->Calls Tryz.prog 60 #[.slice (some ⟨g,0,none⟩) 2 2] W fun e w'=>e=.returned (.bool true)/\Below W.heap.size W w':=fun W h=>by
  have k:=right19_any _ [aw1,aw2] W h (by decide);rw[decide_eq_true aw_right] at k;exact k
 have hrw:∀W,RdR W (.slice (some ⟨g,5,none⟩) 1 1) ([aw2].map entC)->Calls Tryz.prog 60 #[.slice (some ⟨g,5,none⟩) 1 1] W fun e w'=>e=.returned (.bool false)/\Below W.heap.size W w':=fun W h=>by
  have k:=right19_any _ [aw2] W h (by decide);rw[decide_eq_false aw_wrong] at k;exact k
 have hto:∀W,RdR W (.slice (some ⟨g,0,none⟩) 2 2) ([aw1,aw2].map entC)->Calls Tryz.prog 36 #[.slice (some ⟨g,0,none⟩) 2 2] W fun e w'=>e=.returned (.int .i64 41)/\Below W.heap.size W w':=fun W h=>by
  have k:=total_any _ [aw1,aw2] W h (by decide);rw[aw_tot] at k;exact k
 have hs0:∀W,iF W->Calls Tryz.prog 59 #[.string (⟨#[80,77,107,49,23,114,69,56,80,144,0,0,0,0]⟩:ByteArray)] W fun e w'=>∃v,e=.returned (.tuple #[v,.int .i64 0])/\RdR w' v (([]:List Ent).map entC)/\Below W.heap.size W w':=fun W h=>by
  have k:=scan_any (⟨#[80,77,107,49,23,114,69,56,80,144,0,0,0,0]⟩:ByteArray) W h (by decide);have e1:(arcD (⟨#[80,77,107,49,23,114,69,56,80,144,0,0,0,0]⟩:ByteArray).data.toList).2=0:=by rw[aw_none]
  have e2:resP (⟨#[80,77,107,49,23,114,69,56,80,144,0,0,0,0]⟩:ByteArray).data.toList=[]:=by unfold resP;rw[aw_none];rfl
  rw[e1,e2] at k;exact k
 have hs1:∀W,iF W->Calls Tryz.prog 59 #[.string ⟨#[]⟩] W fun e w'=>∃v,e=.returned (.tuple #[v,.int .i64 3])/\RdR w' v (([]:List Ent).map entC)/\Below W.heap.size W w':=fun W h=>scan_any ⟨#[]⟩ W h (by decide)
 refine(hc1 _ hr0).mono ?_;rintro e w1 ⟨rfl,h1⟩;have hE1:=hE0.below h1;have hr1:=hr0.below h1;have hq1:=hq0.below h1;have h01:=hb0.trans (h1.mono hb0.size);clear hc1 hr0 hq0 hE0 hb0 h1;go_wp2_with fail;refine(hc2 _ hr1).mono ?_;rintro e w2 ⟨rfl,h2⟩;have hE2:=hE1.below h2;have hr2:=hr1.below h2;have hq2:=hq1.below h2;have h02:=bV h01 h2;clear hc2 hr1 hq1 hE1 h01 h2;go_wp2_with fail;refine(hs0 _ hE2).mono ?_;rintro e w3 ⟨v3,rfl,hv3,h3⟩;obtain⟨a3,c3,rfl,-⟩:=ent_cells hv3;have hE3:=hE2.below h3;have hr3:=hr2.below h3;have hq3:=hq2.below h3;have h03:=bV h02 h3;clear hs0 hr2 hq2 hE2 h02 h3 hv3
 go_wp2_with fail;refine(hs1 _ hE3).mono ?_;rintro e w4 ⟨v4,rfl,hv4,h4⟩;have hE4:=hE3.below h4;have hr4:=hr3.below h4;have hq4:=hq3.below h4;have h04:=bV h03 h4;clear hs1 hr3 hq3 hE3 h03 h4 hv4;go_wp2_with fail;refine(write_fine 1 (.slice (some ⟨w4.heap.size,0,none⟩) 1 1) [xyS] _ (xY w4 9 [.string xyS] 1 rfl (by decide)) (by decide) xy_fine (by decide) (by decide)).mono ?_;rintro e w5 ⟨rfl,ho,h5'⟩;have h5:=bV (bD (Below.refl _ _) (.cells #[.string xyS] 9)) h5';have hE5:=hE4.below h5;have hr5:=hr4.below h5;have hq5:=hq4.below h5;have h05:=bV h04 h5;have hsA:=arcS_size ho;obtain⟨y,hy⟩:=aw_one
 have hs2:∀W,iF W->Calls Tryz.prog 59 #[.string (arcS [(1,[xyS])])] W fun e w'=>∃v,e=.returned (.tuple #[v,.int .i64 0])/\RdR w' v ([⟨32,40,0,2,y⟩].map entC)/\Below W.heap.size W w':=fun W h=>by
  have k:=scan_any (arcS [(1,[xyS])]) W h (Nat.le_trans hsA (by decide));obtain⟨k1,k2⟩:=arcS_res (l:=[(1,[xyS])]) (by simp) ho;rw[k1,k2,hy] at k;exact k
 obtain⟨A,hA⟩:∃A,A=arcS [(1,[xyS])]:=⟨_,rfl⟩;rw[<-hA] at hs2 ⊢;clear hA hsA ho hy h5 h5' hE4 hr4 hq4 h04;go_wp2_with fail;refine(hs2 _ hE5).mono ?_;rintro e w6 ⟨v6,rfl,hv6,h6⟩;have hr6:=hr5.below h6;have hq6:=hq5.below h6;have h06:=bV h05 h6;obtain⟨a6,c6,rfl,hc6,hm6,hA6⟩:=ent_cells hv6;obtain⟨b6,o6,rfl,hb6,hcl6⟩:=hA6 (Nat.succ_pos _);obtain⟨x0,x1,x2,x3,x4⟩:=hcl6 0 _ rfl;simp only[Nat.zero_mul,Nat.add_zero] at x0 x3;clear hs2 hr5 hq5 hE5 h05 h6 hv6 hA6 hcl6 x1 x2 x4;go_wp2_with fail;refine(hri _ hr6).mono ?_;rintro e w7 ⟨rfl,h7⟩;have hr7:=hr6.below h7;have hq7:=hq6.below h7;go_wp2_with fail
 refine(hto _ hr7).mono ?_;rintro e w8 ⟨rfl,h8⟩;have h68:=bV h7 h8;have hr8:=hr7.below h8;have hq8:=hq7.below h8;go_wp2_with fail;refine(hf1 _ hr8).mono ?_;rintro e w9 ⟨rfl,h9⟩;have h69:=bV h68 h9;have hr9:=hr8.below h9;have hq9:=hq8.below h9;go_wp2_with fail;refine(hf2 _ hr9).mono ?_;rintro e w10 ⟨rfl,h10⟩;have h610:=bV h69 h10;have hr10:=hr9.below h10;have hq10:=hq9.below h10;go_wp2_with fail;refine(hf3 _ hr10).mono ?_;rintro e w11 ⟨rfl,h11⟩;have h611:=bV h610 h11;have hq11:=hq10.below h11;have y0:=(h611.cell (World.block_lt_of_cell? w6 _ x0)).trans x0
 have y3:=(h611.cell (World.block_lt_of_cell? w6 _ x3)).trans x3;clear h7 h8 h9 h10 h11 h68 h69 h610 hr6 hr7 hr8 hr9 hr10 hq6 hq7 hq8 hq9 hq10 x0 x3 hf1 hf2 hf3 hto hri hf;go_wp2_with fail;refine(hrw _ hq11).mono ?_;rintro e w12 ⟨rfl,h12⟩;go_wp2_with fail;go_ret;exact⟨rfl,bV (bV h06 h611) h12⟩
end
end Go.Proofs.YtpgmbhpbgkljdaaGreatDoor

/-
  Texts put together (part 9): the walks and the plain laws on which the statement stands.
-/
import Derived.Test.YtjkjeamepgjicaaGreatDoorZ8
set_option maxRecDepth 100000
set_option maxHeartbeats 12800000
set_option linter.unusedVariables false
set_option linter.unusedSimpArgs false
open Go renaming wpAnyH_done->pY,wpAnyH_ready->fL,wpAnyH_take->aQ,wp_region_held_drew->vI
open Go.Act renaming put->aJ
open Go.AllReadyH renaming cons->fA,nil->fM
open Go.IntKind renaming i64->aI,wrap_i64->aM
open Go.RowKit.Below renaming refl->aB
open Go.Value renaming func->iR
open Go.World renaming setCell_alloc_new->aCu
open List renaming getElem?_cons_succ->aS,getElem?_cons_zero->aP,getElem?_toArray->aR,setIfInBounds_toArray->aK,set_cons_succ->aG,set_cons_zero->aH
open Nat renaming add_sub_cancel->jZ,le_refl->aA,lt_of_lt_of_le->dR,lt_trans->AX
open Or renaming inl->aT
namespace Go.Proofs.YtjkjeamepgjicaaGreatDoor
open Go.RowKit Go.Shelf
abbrev iE (W:World) (wb:Nat) (a:ByteArray) (o:Int) (v:Value) (b0 q:Nat) (y:Int) (w':World):Prop:=
 w'.cell? ⟨W.heap.size,0,none⟩=some (.pointer (some ⟨wb,0,none⟩))/\w'.cell? ⟨wb,0,none⟩=some (.string a)/\w'.cell? ⟨wb,1,none⟩=some (.int .i64 o)/\w'.cell? ⟨wb,2,none⟩=some v/\w'.cell? ⟨b0,q,none⟩=some (.int .i64 y)/\Below W.heap.size W w'/\W.heap.size<w'.heap.size
theorem iE.keep {W w w':World} {wb:Nat} {a:ByteArray} {o:Int} {v:Value} {b0 q:Nat} {y:Int} (h:iE W wb a o v b0 q y w) (hwb:wb<W.heap.size) (hb0:b0<W.heap.size) (hb:Below w.heap.size w w'):iE W wb a o v b0 q y w':=by
 obtain⟨h1,h2,h3,h4,h5,h6,h7⟩:=h;refine⟨?_,?_,?_,?_,?_,h6.trans (hb.mono h6.size),dR h7 hb.size⟩
 ·rw[hb.cell (p:=⟨W.heap.size,0,none⟩) h7];exact h1
 ·rw[hb.cell (p:=⟨wb,0,none⟩) (AX hwb h7)];exact h2
 ·rw[hb.cell (p:=⟨wb,1,none⟩) (AX hwb h7)];exact h3
 ·rw[hb.cell (p:=⟨wb,2,none⟩) (AX hwb h7)];exact h4
 ·rw[hb.cell (p:=⟨b0,q,none⟩) (AX hb0 h7)];exact h5
theorem iE.drew {W w:World} {wb:Nat} {a:ByteArray} {o:Int} {v:Value} {b0 q:Nat} {y:Int} (h:iE W wb a o v b0 q y w):iE W wb a o v b0 q y w.drew:=
 ⟨h.1,h.2.1,h.2.2.1,h.2.2.2.1,h.2.2.2.2.1,h.2.2.2.2.2.1.drew,h.2.2.2.2.2.2⟩
theorem aMk (wb:Nat) (a:ByteArray) (o most:Int) (v lv:Value) (l:List Int) (b:ByteArray) (w:World) (ha:a.size<=256) (harr:Arr w wb 144 [.string a,.int .i64 o,v,.int .i64 most,lv,.string b]) (hr:RdI w v l) (hno:¬gW l ((a.size:Int)+1)):
  Calls Tryz.prog 62 #[.pointer (some ⟨wb,0,none⟩)] w fun e w'=>e=.returned (.int .i64 3)/\Below w.heap.size w w':=by
 obtain⟨ad,ca,rfl,hca,hma,hA⟩:=hr.open;have hma0:=hma;unfold maxLen at hma;have hlt:=harr.lt;have c2:=harr.cell (i:=2) rfl
 by_cases h0:l.length=0
 ·have t1:decide ((l.length:Int)-1<0)=true:=decide_eq_true (by omega);have e1:aI.wrap ((l.length:Int)-1)= -1:=by rw[aM];omega
  go_enter Tryz.func62,Tryz.ntmps62;go_wp2_with fail
  go_quiet (fail)
  go_wp2_with fail;go_ret;exact⟨rfl,iI ((aB _ _).alloc (aA _) _) _⟩
 ·obtain⟨m,hm⟩:∃m,l.length=m+1:=⟨l.length-1,by omega⟩;obtain⟨b0,o0,rfl,hb0,hc0⟩:=hA (by omega);obtain⟨y,hy⟩:=dH (show m<l.length by omega);have cy:=hc0 m y hy;have r1:aI.wrap ((l.length:Int)-1)=(m:Int):=by rw[aM];omega
  have r2:m<=ca:=by omega
  have r3:(m:Int)<=(ca:Int):=by omega
  have r4:(0:Int)<=(m:Int):=by omega
  have r5:m<l.length:=by omega
  have r6:(m:Int)<(l.length:Int):=by omega
  have r7:decide ((m:Int)<0)=false:=decide_eq_false (by omega);have HM:=hid hm;have HC:=hid hc0;have HY:=hid hy;have c0:=harr.cell (i:=0) rfl;have c1:=harr.cell (i:=1) rfl;have z0:iE w wb a o (.slice (some ⟨b0,o0,none⟩) l.length ca) b0 (o0+m) y (w.alloc (.cells #[.pointer (some ⟨wb,0,none⟩)] 147)):=by
   have hB:Below w.heap.size w (w.alloc (.cells #[.pointer (some ⟨wb,0,none⟩)] 147)):=(aB _ _).alloc (aA _) _;exact⟨bS _ _ _,by rw[hB.cell (p:=⟨wb,0,none⟩) hlt];exact c0,by rw[hB.cell (p:=⟨wb,1,none⟩) hlt];exact c1,by rw[hB.cell (p:=⟨wb,2,none⟩) hlt];exact c2,by rw[hB.cell (p:=⟨b0,o0+m,none⟩) hb0];exact cy,hB,by simp⟩
  clear hm hc0 hy hA
  by_cases hye:y=(a.size:Int)+1
  ·subst hye;have f2:(((a.size:Int)+1) != ((a.size:Int)+1))=false:=by simp
   have hfind:decide (0<=fP (lV ((a.size:Int)+1)) (l.take m))=true:=by
    refine decide_eq_true ?_;rcases Int.lt_or_le (fP (lV ((a.size:Int)+1)) (l.take m)) 0 with q|q
    ·exfalso;refine hno ⟨by omega,by rw[HM.out,jZ];exact HY.out,fun x hx=>?_⟩;rw[HM.out,jZ] at hx;have:=(BQ (lV ((a.size:Int)+1)) (l.take m)).2.2.1 q x hx;unfold lV at this;rw[Bool.or_eq_false_iff,decide_eq_false_iff_not,decide_eq_false_iff_not] at this;omega
    ·exact q
   have HTK:=hid (EB hb0 HC.out m (by omega) hca hma0);have hpr:∀W,iE w wb a o (.slice (some ⟨b0,o0,none⟩) l.length ca) b0 (o0+m) ((a.size:Int)+1) W->EC W 86 #[.pointer (some ⟨w.heap.size,0,none⟩)] (lV ((a.size:Int)+1)) (l.take m):=fun W hW W' hW' x _=>by
    have hk:=iE.keep hW hlt hb0 hW';exact XI x w.heap.size wb a o most _ lv b W' (by omega) rfl hk.1 (harr.below hk.2.2.2.2.2.1 hlt)
   have HPR:=hid hpr;have HF:=hid hfind;clear hpr hfind;go_enter Tryz.func62,Tryz.ntmps62;go_upto_region 2 with fail;generalize w.alloc (.cells #[.pointer (some ⟨wb,0,none⟩)] 147)=wa at*
   refine vI (S:=(fun w'=>w'.cell? ⟨w.heap.size,0,none⟩=some (.pointer (some ⟨wb,0,none⟩))/\w'.cell? ⟨wb,0,none⟩=some (.string a)/\w'.cell? ⟨wb,1,none⟩=some (.int .i64 o)/\w'.cell? ⟨wb,2,none⟩=some (.slice (some ⟨b0,o0,none⟩) l.length ca)/\w'.cell? ⟨b0,o0+m,none⟩=some (.int .i64 ((a.size:Int)+1))/\Below w.heap.size w w'/\w.heap.size<w'.heap.size)) (by kernel_rfl) (iE.drew z0) (fun hHeld=>?_);refine aQ (i:=0) (oi:=?oi0) (v:=?v0) ?hi0 (by kernel_rfl) (by kernel_rfl) (by kernel_rfl) ?hq0 ?hy0 (by assumption) ?_
   case hi0=>(simp only[aR,aP];rfl)
   case hq0=>exact fun _ _ _ h=>h
   case hy0=>(refine aT ⟨by rfl,?_⟩;intro w' hSw;(try dsimp only at hSw);(try go_simp);try with_reducible rfl)
   try simp only[aJ,aK,aH,aG]
   refine aQ (i:=1) (oi:=?oi1) (v:=?v1) ?hi1 (by kernel_rfl) (by kernel_rfl) (by kernel_rfl) ?hq1 ?hy1 (by assumption) ?_
   case hi1=>(simp only[aR,aS,aP];rfl)
   case hq1=>exact fun _ _ _ h=>h
   case hy1=>(refine aT ⟨by rfl,?_⟩;intro w' hSw;(try dsimp only at hSw);(try go_simp);try with_reducible rfl)
   try simp only[aJ,aK,aH,aG]
   refine aQ (i:=2) (oi:=?oi2) (v:=?v2) ?hi2 (by kernel_rfl) (by kernel_rfl) (by kernel_rfl) ?hq2 ?hy2 (by assumption) ?_
   case hi2=>(simp only[aR,aS,aP];rfl)
   case hq2=>exact fun _ _ _ h=>h
   case hy2=>(refine aT ⟨by rfl,?_⟩;intro w' hSw;(try dsimp only at hSw);(try go_simp);try with_reducible rfl)
   try simp only[aJ,aK,aH,aG]
   refine aQ (i:=3) (oi:=?oi3) (v:=?v3) ?hi3 (by kernel_rfl) (by kernel_rfl) (by kernel_rfl) ?hq3 ?hy3 (by assumption) ?_
   case hi3=>(simp only[aR,aS,aP];rfl)
   case hq3=>exact fun _ _ _ h=>h
   case hy3=>(refine aT ⟨by rfl,?_⟩;intro w' hSw;(try dsimp only at hSw);(try go_simp);try with_reducible rfl)
   try simp only[aJ,aK,aH,aG]
   refine aQ (i:=4) (oi:=?oi4) (v:=?v4) ?hi4 (by kernel_rfl) (by kernel_rfl) (by kernel_rfl) ?hq4 ?hy4 (by assumption) ?_
   case hi4=>(simp only[aR,aS,aP];rfl)
   case hq4=>exact fun _ _ _ h=>h
   case hy4=>(refine aT ⟨by rfl,?_⟩;intro w' hSw;(try dsimp only at hSw);(try go_simp);try with_reducible rfl)
   try simp only[aJ,aK,aH,aG]
   refine aQ (i:=5) (oi:=?oi5) (v:=?v5) ?hi5 (by kernel_rfl) (by kernel_rfl) (by kernel_rfl) ?hq5 ?hy5 (by assumption) ?_
   case hi5=>(simp only[aR,aS,aP];rfl)
   case hq5=>exact fun _ _ _ h=>h
   case hy5=>(refine aT ⟨by rfl,?_⟩;intro w' hSw;(try dsimp only at hSw);(try go_simp);try with_reducible rfl)
   try simp only[aJ,aK,aH,aG]
   refine aQ (i:=6) (oi:=?oi6) (v:=?v6) ?hi6 (by kernel_rfl) (by kernel_rfl) (by kernel_rfl) ?hq6 ?hy6 (by assumption) ?_
   case hi6=>(simp only[aR,aS,aP];rfl)
   case hq6=>exact fun _ _ _ h=>h
   case hy6=>(refine aT ⟨by rfl,?_⟩;intro w' hSw;(try dsimp only at hSw);(try go_simp);try with_reducible rfl)
   try simp only[aJ,aK,aH,aG]
   refine aQ (i:=7) (oi:=?oi7) (v:=?v7) ?hi7 (by kernel_rfl) (by kernel_rfl) (by kernel_rfl) ?hq7 ?hy7 (by assumption) ?_
   case hi7=>(simp only[aR,aS,aP];rfl)
   case hq7=>exact fun _ _ _ h=>h
   case hy7=>(refine aT ⟨by rfl,?_⟩;intro w' hSw;(try dsimp only at hSw);(try go_simp);try with_reducible rfl)
   try simp only[aJ,aK,aH,aG]
   refine aQ (i:=8) (oi:=?oi8) (v:=?v8) ?hi8 (by kernel_rfl) (by kernel_rfl) (by kernel_rfl) ?hq8 ?hy8 (by assumption) ?_
   case hi8=>(simp only[aR,aS,aP];rfl)
   case hq8=>exact fun _ _ _ h=>h
   case hy8=>(refine aT ⟨by rfl,?_⟩;intro w' hSw;(try dsimp only at hSw);(try go_simp);try with_reducible rfl)
   try simp only[aJ,aK,aH,aG]
   refine aQ (i:=9) (oi:=?oi9) (v:=?v9) ?hi9 (by kernel_rfl) (by kernel_rfl) (by kernel_rfl) ?hq9 ?hy9 (by assumption) ?_
   case hi9=>(simp only[aR,aS,aP];rfl)
   case hq9=>exact fun _ _ _ h=>h
   case hy9=>(refine aT ⟨by rfl,?_⟩;intro w' hSw;(try dsimp only at hSw);(try go_simp);try with_reducible rfl)
   try simp only[aJ,aK,aH,aG]
   refine aQ (i:=10) (oi:=?oi10) (v:=?v10) ?hi10 (by kernel_rfl) (by kernel_rfl) (by kernel_rfl) ?hq10 ?hy10 (by assumption) ?_
   case hi10=>(simp only[aR,aS,aP];rfl)
   case hq10=>exact fun _ _ _ h=>h
   case hy10=>(refine aT ⟨by rfl,?_⟩;intro w' hSw;(try dsimp only at hSw);(try go_simp);try with_reducible rfl)
   try simp only[aJ,aK,aH,aG]
   refine aQ (i:=11) (oi:=?oi11) (v:=?v11) ?hi11 (by kernel_rfl) (by kernel_rfl) (by kernel_rfl) ?hq11 ?hy11 (by assumption) ?_
   case hi11=>(simp only[aR,aS,aP];rfl)
   case hq11=>exact fun _ _ _ h=>h
   case hy11=>(refine aT ⟨by rfl,?_⟩;intro w' hSw;(try dsimp only at hSw);(try go_simp);try with_reducible rfl)
   try simp only[aJ,aK,aH,aG]
   refine aQ (i:=12) (oi:=?oi12) (v:=?v12) ?hi12 (by kernel_rfl) (by kernel_rfl) (by kernel_rfl) ?hq12 ?hy12 (by assumption) ?_
   case hi12=>(simp only[aR,aS,aP];rfl)
   case hq12=>exact fun _ _ _ h=>h
   case hy12=>(refine aT ⟨by rfl,?_⟩;intro w' hSw;(try dsimp only at hSw);(try go_simp);try with_reducible rfl)
   try simp only[aJ,aK,aH,aG]
   refine aQ (i:=13) (oi:=?oi13) (v:=?v13) ?hi13 (by kernel_rfl) (by kernel_rfl) (by kernel_rfl) ?hq13 ?hy13 (by assumption) ?_
   case hi13=>(simp only[aR,aS,aP];rfl)
   case hq13=>exact fun _ _ _ h=>h
   case hy13=>(refine aT ⟨by rfl,?_⟩;intro w' hSw;(try dsimp only at hSw);(try go_simp);try with_reducible rfl)
   try simp only[aJ,aK,aH,aG]
   refine aQ (i:=14) (oi:=?oi14) (v:=?v14) ?hi14 (by kernel_rfl) (by kernel_rfl) (by kernel_rfl) ?hq14 ?hy14 (by assumption) ?_
   case hi14=>(simp only[aR,aS,aP];rfl)
   case hq14=>exact fun _ _ _ h=>h
   case hy14=>(refine aT ⟨by rfl,?_⟩;intro w' hSw;(try dsimp only at hSw);(try go_simp);try with_reducible rfl)
   try simp only[aJ,aK,aH,aG]
   refine fL (rs:=[15]) (by kernel_rfl) (by simp) ?_;refine fA rfl (fun K hK=>?_) ?_
   rotate_left
   ·exact fM
   go_simp
   go_at_call 54
   refine(wP a o _ rfl _ (by omega)).mono ?_;rintro e w' ⟨rfl,hb⟩
   (try go_wp2_with fail)
   refine hK.out _ _ (iE.keep (by assumption) hlt hb0 hb) (fun hHeld2=>?_);clear hK K
   try simp only[aJ,aK,aH,aG]
   refine aQ (i:=16) (oi:=?oi16) (v:=?v16) ?hi16 (by kernel_rfl) (by kernel_rfl) (by kernel_rfl) ?hq16 ?hy16 (by assumption) ?_
   case hi16=>(simp only[aR,aS,aP];rfl)
   case hq16=>exact fun _ _ _ h=>h
   case hy16=>(refine aT ⟨by rfl,?_⟩;intro w' hSw;(try dsimp only at hSw);(try go_simp);try with_reducible rfl)
   try simp only[aJ,aK,aH,aG]
   refine aQ (i:=17) (oi:=?oi17) (v:=?v17) ?hi17 (by kernel_rfl) (by kernel_rfl) (by kernel_rfl) ?hq17 ?hy17 (by assumption) ?_
   case hi17=>(simp only[aR,aS,aP];rfl)
   case hq17=>exact fun _ _ _ h=>h
   case hy17=>(refine aT ⟨by rfl,?_⟩;intro w' hSw;(try dsimp only at hSw);(try go_simp);try with_reducible rfl)
   try simp only[aJ,aK,aH,aG]
   refine aQ (i:=18) (oi:=?oi18) (v:=?v18) ?hi18 (by kernel_rfl) (by kernel_rfl) (by kernel_rfl) ?hq18 ?hy18 (by assumption) ?_
   case hi18=>(simp only[aR,aS,aP];rfl)
   case hq18=>exact fun _ _ _ h=>h
   case hy18=>(refine aT ⟨by rfl,?_⟩;intro w' hSw;(try dsimp only at hSw);(try go_simp);try with_reducible rfl)
   try simp only[aJ,aK,aH,aG]
   refine aQ (i:=19) (oi:=?oi19) (v:=?v19) ?hi19 (by kernel_rfl) (by kernel_rfl) (by kernel_rfl) ?hq19 ?hy19 (by assumption) ?_
   case hi19=>(simp only[aR,aS,aP];rfl)
   case hq19=>exact fun _ _ _ h=>h
   case hy19=>(refine aT ⟨by rfl,?_⟩;intro w' hSw;(try dsimp only at hSw);(try go_simp);try with_reducible rfl)
   try simp only[aJ,aK,aH,aG]
   refine aQ (i:=20) (oi:=?oi20) (v:=?v20) ?hi20 (by kernel_rfl) (by kernel_rfl) (by kernel_rfl) ?hq20 ?hy20 (by assumption) ?_
   case hi20=>(simp only[aR,aS,aP];rfl)
   case hq20=>exact fun _ _ _ h=>h
   case hy20=>(refine aT ⟨by rfl,?_⟩;intro w' hSw;(try dsimp only at hSw);(try go_simp);try with_reducible rfl)
   try simp only[aJ,aK,aH,aG]
   refine aQ (i:=21) (oi:=?oi21) (v:=?v21) ?hi21 (by kernel_rfl) (by kernel_rfl) (by kernel_rfl) ?hq21 ?hy21 (by assumption) ?_
   case hi21=>(simp only[aR,aS,aP];rfl)
   case hq21=>exact fun _ _ _ h=>h
   case hy21=>(refine aT ⟨by rfl,?_⟩;intro w' hSw;(try dsimp only at hSw);(try go_simp);try with_reducible rfl)
   try simp only[aJ,aK,aH,aG]
   refine aQ (i:=22) (oi:=?oi22) (v:=?v22) ?hi22 (by kernel_rfl) (by kernel_rfl) (by kernel_rfl) ?hq22 ?hy22 (by assumption) ?_
   case hi22=>(simp only[aR,aS,aP];rfl)
   case hq22=>exact fun _ _ _ h=>h
   case hy22=>(refine aT ⟨by rfl,?_⟩;intro w' hSw;(try dsimp only at hSw);(try go_simp);try with_reducible rfl)
   try simp only[aJ,aK,aH,aG]
   refine aQ (i:=23) (oi:=?oi23) (v:=?v23) ?hi23 (by kernel_rfl) (by kernel_rfl) (by kernel_rfl) ?hq23 ?hy23 (by assumption) ?_
   case hi23=>(simp only[aR,aS,aP];rfl)
   case hq23=>exact fun _ _ _ h=>h
   case hy23=>(refine aT ⟨by rfl,?_⟩;intro w' hSw;(try dsimp only at hSw);(try go_simp);try with_reducible rfl)
   try simp only[aJ,aK,aH,aG]
   refine aQ (i:=24) (oi:=?oi24) (v:=?v24) ?hi24 (by kernel_rfl) (by kernel_rfl) (by kernel_rfl) ?hq24 ?hy24 (by assumption) ?_
   case hi24=>(simp only[aR,aS,aP];rfl)
   case hq24=>exact fun _ _ _ h=>h
   case hy24=>(refine aT ⟨by rfl,?_⟩;intro w' hSw;(try dsimp only at hSw);(try go_simp);try with_reducible rfl)
   try simp only[aJ,aK,aH,aG]
   refine aQ (i:=25) (oi:=?oi25) (v:=?v25) ?hi25 (by kernel_rfl) (by kernel_rfl) (by kernel_rfl) ?hq25 ?hy25 (by assumption) ?_
   case hi25=>(simp only[aR,aS,aP];rfl)
   case hq25=>exact fun _ _ _ h=>h
   case hy25=>(refine aT ⟨by rfl,?_⟩;intro w' hSw;(try dsimp only at hSw);(try go_simp);try with_reducible rfl)
   try simp only[aJ,aK,aH,aG]
   refine aQ (i:=26) (oi:=?oi26) (v:=?v26) ?hi26 (by kernel_rfl) (by kernel_rfl) (by kernel_rfl) ?hq26 ?hy26 (by assumption) ?_
   case hi26=>(simp only[aR,aS,aP];rfl)
   case hq26=>exact fun _ _ _ h=>h
   case hy26=>(refine aT ⟨by rfl,?_⟩;intro w' hSw;(try dsimp only at hSw);(try go_simp);try with_reducible rfl)
   try simp only[aJ,aK,aH,aG]
   refine fL (rs:=[27]) (by kernel_rfl) (by simp) ?_;refine fA rfl (fun K hK=>?_) ?_
   rotate_left
   ·exact fM
   go_simp
   go_at_call 85
   refine(XH _ _ (lV ((a.size:Int)+1)) _ (l.take m) _ (HTK.out.below (show iE w wb a o _ b0 (o0+m) _ _ by assumption).2.2.2.2.2.1) (enters_of Tryz.func86 rfl rfl) (HPR.out _ (by assumption))).mono ?_;rintro e w' ⟨rfl,hb⟩;rw[HF.out]
   (try go_wp2_with fail)
   refine hK.out _ _ (iE.keep (by assumption) hlt hb0 hb) (fun hHeld3=>?_);clear hK K
   try simp only[aJ,aK,aH,aG]
   refine aQ (i:=28) (oi:=?oi28) (v:=?v28) ?hi28 (by kernel_rfl) (by kernel_rfl) (by kernel_rfl) ?hq28 ?hy28 (by assumption) ?_
   case hi28=>(simp only[aR,aS,aP];rfl)
   case hq28=>exact fun _ _ _ h=>h
   case hy28=>(refine aT ⟨by rfl,?_⟩;intro w' hSw;(try dsimp only at hSw);(try go_simp);try with_reducible rfl)
   try simp only[aJ,aK,aH,aG]
   refine pY (by kernel_rfl) ?_ _;go_wp2_with fail;go_ret;exact⟨rfl,(show iE w wb a o _ b0 (o0+m) _ _ by assumption).2.2.2.2.2.1⟩
  ·have f2:(y != (a.size:Int)+1)=true:=by simp[hye]
   go_enter Tryz.func62,Tryz.ntmps62;go_upto_region 2 with fail;generalize w.alloc (.cells #[.pointer (some ⟨wb,0,none⟩)] 147)=wa at*
   refine vI (S:=(fun w'=>w'.cell? ⟨w.heap.size,0,none⟩=some (.pointer (some ⟨wb,0,none⟩))/\w'.cell? ⟨wb,0,none⟩=some (.string a)/\w'.cell? ⟨wb,1,none⟩=some (.int .i64 o)/\w'.cell? ⟨wb,2,none⟩=some (.slice (some ⟨b0,o0,none⟩) l.length ca)/\w'.cell? ⟨b0,o0+m,none⟩=some (.int .i64 y)/\Below w.heap.size w w'/\w.heap.size<w'.heap.size)) (by kernel_rfl) (iE.drew z0) (fun hHeld=>?_);refine aQ (i:=0) (oi:=?oib0) (v:=?vb0) ?hib0 (by kernel_rfl) (by kernel_rfl) (by kernel_rfl) ?hqb0 ?hyb0 (by assumption) ?_
   case hib0=>(simp only[aR,aP];rfl)
   case hqb0=>exact fun _ _ _ h=>h
   case hyb0=>(refine aT ⟨by rfl,?_⟩;intro w' hSw;(try dsimp only at hSw);(try go_simp);try with_reducible rfl)
   try simp only[aJ,aK,aH,aG]
   refine aQ (i:=1) (oi:=?oib1) (v:=?vb1) ?hib1 (by kernel_rfl) (by kernel_rfl) (by kernel_rfl) ?hqb1 ?hyb1 (by assumption) ?_
   case hib1=>(simp only[aR,aS,aP];rfl)
   case hqb1=>exact fun _ _ _ h=>h
   case hyb1=>(refine aT ⟨by rfl,?_⟩;intro w' hSw;(try dsimp only at hSw);(try go_simp);try with_reducible rfl)
   try simp only[aJ,aK,aH,aG]
   refine aQ (i:=2) (oi:=?oib2) (v:=?vb2) ?hib2 (by kernel_rfl) (by kernel_rfl) (by kernel_rfl) ?hqb2 ?hyb2 (by assumption) ?_
   case hib2=>(simp only[aR,aS,aP];rfl)
   case hqb2=>exact fun _ _ _ h=>h
   case hyb2=>(refine aT ⟨by rfl,?_⟩;intro w' hSw;(try dsimp only at hSw);(try go_simp);try with_reducible rfl)
   try simp only[aJ,aK,aH,aG]
   refine aQ (i:=3) (oi:=?oib3) (v:=?vb3) ?hib3 (by kernel_rfl) (by kernel_rfl) (by kernel_rfl) ?hqb3 ?hyb3 (by assumption) ?_
   case hib3=>(simp only[aR,aS,aP];rfl)
   case hqb3=>exact fun _ _ _ h=>h
   case hyb3=>(refine aT ⟨by rfl,?_⟩;intro w' hSw;(try dsimp only at hSw);(try go_simp);try with_reducible rfl)
   try simp only[aJ,aK,aH,aG]
   refine aQ (i:=4) (oi:=?oib4) (v:=?vb4) ?hib4 (by kernel_rfl) (by kernel_rfl) (by kernel_rfl) ?hqb4 ?hyb4 (by assumption) ?_
   case hib4=>(simp only[aR,aS,aP];rfl)
   case hqb4=>exact fun _ _ _ h=>h
   case hyb4=>(refine aT ⟨by rfl,?_⟩;intro w' hSw;(try dsimp only at hSw);(try go_simp);try with_reducible rfl)
   try simp only[aJ,aK,aH,aG]
   refine aQ (i:=5) (oi:=?oib5) (v:=?vb5) ?hib5 (by kernel_rfl) (by kernel_rfl) (by kernel_rfl) ?hqb5 ?hyb5 (by assumption) ?_
   case hib5=>(simp only[aR,aS,aP];rfl)
   case hqb5=>exact fun _ _ _ h=>h
   case hyb5=>(refine aT ⟨by rfl,?_⟩;intro w' hSw;(try dsimp only at hSw);(try go_simp);try with_reducible rfl)
   try simp only[aJ,aK,aH,aG]
   refine aQ (i:=6) (oi:=?oib6) (v:=?vb6) ?hib6 (by kernel_rfl) (by kernel_rfl) (by kernel_rfl) ?hqb6 ?hyb6 (by assumption) ?_
   case hib6=>(simp only[aR,aS,aP];rfl)
   case hqb6=>exact fun _ _ _ h=>h
   case hyb6=>(refine aT ⟨by rfl,?_⟩;intro w' hSw;(try dsimp only at hSw);(try go_simp);try with_reducible rfl)
   try simp only[aJ,aK,aH,aG]
   refine aQ (i:=7) (oi:=?oib7) (v:=?vb7) ?hib7 (by kernel_rfl) (by kernel_rfl) (by kernel_rfl) ?hqb7 ?hyb7 (by assumption) ?_
   case hib7=>(simp only[aR,aS,aP];rfl)
   case hqb7=>exact fun _ _ _ h=>h
   case hyb7=>(refine aT ⟨by rfl,?_⟩;intro w' hSw;(try dsimp only at hSw);(try go_simp);try with_reducible rfl)
   try simp only[aJ,aK,aH,aG]
   refine aQ (i:=8) (oi:=?oib8) (v:=?vb8) ?hib8 (by kernel_rfl) (by kernel_rfl) (by kernel_rfl) ?hqb8 ?hyb8 (by assumption) ?_
   case hib8=>(simp only[aR,aS,aP];rfl)
   case hqb8=>exact fun _ _ _ h=>h
   case hyb8=>(refine aT ⟨by rfl,?_⟩;intro w' hSw;(try dsimp only at hSw);(try go_simp);try with_reducible rfl)
   try simp only[aJ,aK,aH,aG]
   refine aQ (i:=9) (oi:=?oib9) (v:=?vb9) ?hib9 (by kernel_rfl) (by kernel_rfl) (by kernel_rfl) ?hqb9 ?hyb9 (by assumption) ?_
   case hib9=>(simp only[aR,aS,aP];rfl)
   case hqb9=>exact fun _ _ _ h=>h
   case hyb9=>(refine aT ⟨by rfl,?_⟩;intro w' hSw;(try dsimp only at hSw);(try go_simp);try with_reducible rfl)
   try simp only[aJ,aK,aH,aG]
   refine aQ (i:=10) (oi:=?oib10) (v:=?vb10) ?hib10 (by kernel_rfl) (by kernel_rfl) (by kernel_rfl) ?hqb10 ?hyb10 (by assumption) ?_
   case hib10=>(simp only[aR,aS,aP];rfl)
   case hqb10=>exact fun _ _ _ h=>h
   case hyb10=>(refine aT ⟨by rfl,?_⟩;intro w' hSw;(try dsimp only at hSw);(try go_simp);try with_reducible rfl)
   try simp only[aJ,aK,aH,aG]
   refine aQ (i:=11) (oi:=?oib11) (v:=?vb11) ?hib11 (by kernel_rfl) (by kernel_rfl) (by kernel_rfl) ?hqb11 ?hyb11 (by assumption) ?_
   case hib11=>(simp only[aR,aS,aP];rfl)
   case hqb11=>exact fun _ _ _ h=>h
   case hyb11=>(refine aT ⟨by rfl,?_⟩;intro w' hSw;(try dsimp only at hSw);(try go_simp);try with_reducible rfl)
   try simp only[aJ,aK,aH,aG]
   refine aQ (i:=12) (oi:=?oib12) (v:=?vb12) ?hib12 (by kernel_rfl) (by kernel_rfl) (by kernel_rfl) ?hqb12 ?hyb12 (by assumption) ?_
   case hib12=>(simp only[aR,aS,aP];rfl)
   case hqb12=>exact fun _ _ _ h=>h
   case hyb12=>(refine aT ⟨by rfl,?_⟩;intro w' hSw;(try dsimp only at hSw);(try go_simp);try with_reducible rfl)
   try simp only[aJ,aK,aH,aG]
   refine aQ (i:=13) (oi:=?oib13) (v:=?vb13) ?hib13 (by kernel_rfl) (by kernel_rfl) (by kernel_rfl) ?hqb13 ?hyb13 (by assumption) ?_
   case hib13=>(simp only[aR,aS,aP];rfl)
   case hqb13=>exact fun _ _ _ h=>h
   case hyb13=>(refine aT ⟨by rfl,?_⟩;intro w' hSw;(try dsimp only at hSw);(try go_simp);try with_reducible rfl)
   try simp only[aJ,aK,aH,aG]
   refine aQ (i:=14) (oi:=?oib14) (v:=?vb14) ?hib14 (by kernel_rfl) (by kernel_rfl) (by kernel_rfl) ?hqb14 ?hyb14 (by assumption) ?_
   case hib14=>(simp only[aR,aS,aP];rfl)
   case hqb14=>exact fun _ _ _ h=>h
   case hyb14=>(refine aT ⟨by rfl,?_⟩;intro w' hSw;(try dsimp only at hSw);(try go_simp);try with_reducible rfl)
   try simp only[aJ,aK,aH,aG]
   refine fL (rs:=[15]) (by kernel_rfl) (by simp) ?_;refine fA rfl (fun K hK=>?_) ?_
   rotate_left
   ·exact fM
   go_simp
   go_at_call 54
   refine(wP a o _ rfl _ (by omega)).mono ?_;rintro e w' ⟨rfl,hb⟩
   (try go_wp2_with fail)
   refine hK.out _ _ (iE.keep (by assumption) hlt hb0 hb) (fun hHeld2=>?_);clear hK K
   try simp only[aJ,aK,aH,aG]
   refine aQ (i:=16) (oi:=?oib16) (v:=?vb16) ?hib16 (by kernel_rfl) (by kernel_rfl) (by kernel_rfl) ?hqb16 ?hyb16 (by assumption) ?_
   case hib16=>(simp only[aR,aS,aP];rfl)
   case hqb16=>exact fun _ _ _ h=>h
   case hyb16=>(refine aT ⟨by rfl,?_⟩;intro w' hSw;(try dsimp only at hSw);(try go_simp);try with_reducible rfl)
   try simp only[aJ,aK,aH,aG]
   refine aQ (i:=17) (oi:=?oib17) (v:=?vb17) ?hib17 (by kernel_rfl) (by kernel_rfl) (by kernel_rfl) ?hqb17 ?hyb17 (by assumption) ?_
   case hib17=>(simp only[aR,aS,aP];rfl)
   case hqb17=>exact fun _ _ _ h=>h
   case hyb17=>(refine aT ⟨by rfl,?_⟩;intro w' hSw;(try dsimp only at hSw);(try go_simp);try with_reducible rfl)
   try simp only[aJ,aK,aH,aG]
   refine aQ (i:=18) (oi:=?oib18) (v:=?vb18) ?hib18 (by kernel_rfl) (by kernel_rfl) (by kernel_rfl) ?hqb18 ?hyb18 (by assumption) ?_
   case hib18=>(simp only[aR,aS,aP];rfl)
   case hqb18=>exact fun _ _ _ h=>h
   case hyb18=>(refine aT ⟨by rfl,?_⟩;intro w' hSw;(try dsimp only at hSw);(try go_simp);try with_reducible rfl)
   try simp only[aJ,aK,aH,aG]
   refine aQ (i:=19) (oi:=?oib19) (v:=undef) ?hib19 (by kernel_rfl) (by kernel_rfl) (by kernel_rfl) ?hqb19 ?hyb19 (by assumption) ?_
   case hib19=>(simp only[aR,aS,aP];rfl)
   case hqb19=>exact fun _ _ _ h=>h
   case hyb19=>exact Or.inr ⟨by rfl,rfl⟩
   try simp only[aJ,aK,aH,aG]
   refine aQ (i:=20) (oi:=?oib20) (v:=undef) ?hib20 (by kernel_rfl) (by kernel_rfl) (by kernel_rfl) ?hqb20 ?hyb20 (by assumption) ?_
   case hib20=>(simp only[aR,aS,aP];rfl)
   case hqb20=>exact fun _ _ _ h=>h
   case hyb20=>exact Or.inr ⟨by rfl,rfl⟩
   try simp only[aJ,aK,aH,aG]
   refine aQ (i:=21) (oi:=?oib21) (v:=undef) ?hib21 (by kernel_rfl) (by kernel_rfl) (by kernel_rfl) ?hqb21 ?hyb21 (by assumption) ?_
   case hib21=>(simp only[aR,aS,aP];rfl)
   case hqb21=>exact fun _ _ _ h=>h
   case hyb21=>exact Or.inr ⟨by rfl,rfl⟩
   try simp only[aJ,aK,aH,aG]
   refine aQ (i:=22) (oi:=?oib22) (v:=undef) ?hib22 (by kernel_rfl) (by kernel_rfl) (by kernel_rfl) ?hqb22 ?hyb22 (by assumption) ?_
   case hib22=>(simp only[aR,aS,aP];rfl)
   case hqb22=>exact fun _ _ _ h=>h
   case hyb22=>exact Or.inr ⟨by rfl,rfl⟩
   try simp only[aJ,aK,aH,aG]
   refine aQ (i:=23) (oi:=?oib23) (v:=undef) ?hib23 (by kernel_rfl) (by kernel_rfl) (by kernel_rfl) ?hqb23 ?hyb23 (by assumption) ?_
   case hib23=>(simp only[aR,aS,aP];rfl)
   case hqb23=>exact fun _ _ _ h=>h
   case hyb23=>exact Or.inr ⟨by rfl,rfl⟩
   try simp only[aJ,aK,aH,aG]
   refine aQ (i:=24) (oi:=?oib24) (v:=undef) ?hib24 (by kernel_rfl) (by kernel_rfl) (by kernel_rfl) ?hqb24 ?hyb24 (by assumption) ?_
   case hib24=>(simp only[aR,aS,aP];rfl)
   case hqb24=>exact fun _ _ _ h=>h
   case hyb24=>exact Or.inr ⟨by rfl,rfl⟩
   try simp only[aJ,aK,aH,aG]
   refine aQ (i:=25) (oi:=?oib25) (v:=undef) ?hib25 (by kernel_rfl) (by kernel_rfl) (by kernel_rfl) ?hqb25 ?hyb25 (by assumption) ?_
   case hib25=>(simp only[aR,aS,aP];rfl)
   case hqb25=>exact fun _ _ _ h=>h
   case hyb25=>exact Or.inr ⟨by rfl,rfl⟩
   try simp only[aJ,aK,aH,aG]
   refine aQ (i:=26) (oi:=?oib26) (v:=undef) ?hib26 (by kernel_rfl) (by kernel_rfl) (by kernel_rfl) ?hqb26 ?hyb26 (by assumption) ?_
   case hib26=>(simp only[aR,aS,aP];rfl)
   case hqb26=>exact fun _ _ _ h=>h
   case hyb26=>exact Or.inr ⟨by rfl,rfl⟩
   try simp only[aJ,aK,aH,aG]
   refine aQ (i:=27) (oi:=?oib27) (v:=undef) ?hib27 (by kernel_rfl) (by kernel_rfl) (by kernel_rfl) ?hqb27 ?hyb27 (by assumption) ?_
   case hib27=>(simp only[aR,aS,aP];rfl)
   case hqb27=>exact fun _ _ _ h=>h
   case hyb27=>exact Or.inr ⟨by rfl,rfl⟩
   try simp only[aJ,aK,aH,aG]
   refine aQ (i:=28) (oi:=?oib28) (v:=?vb28) ?hib28 (by kernel_rfl) (by kernel_rfl) (by kernel_rfl) ?hqb28 ?hyb28 (by assumption) ?_
   case hib28=>(simp only[aR,aS,aP];rfl)
   case hqb28=>exact fun _ _ _ h=>h
   case hyb28=>(refine aT ⟨by rfl,?_⟩;intro w' hSw;(try dsimp only at hSw);(try go_simp);try with_reducible rfl)
   try simp only[aJ,aK,aH,aG]
   refine pY (by kernel_rfl) ?_ _;go_wp2_with fail;go_ret;exact⟨rfl,(show iE w wb a o _ b0 (o0+m) y _ by assumption).2.2.2.2.2.1⟩
theorem rZ {w w':World} (h:Below w.heap.size w w') (row:Option Nat):w.grownBy w' row:=⟨h.os,h.tape,h.output,h.size,fun k hk _=>h.block k hk⟩
theorem zN {a b c:World} {row:Option Nat} (h:a.grownBy b row) (k:b.grownBy c row):a.grownBy c row:=
 ⟨k.os.trans h.os,k.tape.trans h.tape,k.output.trans h.output,Nat.le_trans h.size k.size,fun i hi hne=>(k.block i (dR hi h.size) hne).trans (h.block i hi hne)⟩
theorem aMl (wb:Nat) (a:ByteArray) (o most:Int) (v lv:Value) (l:List Int) (b:ByteArray) (w:World) (ha:a.size<=256) (harr:Arr w wb 144 [.string a,.int .i64 o,v,.int .i64 most,lv,.string b]) (hr:RdI w v l) (hyes:gW l ((a.size:Int)+1)):
  Calls Tryz.prog 62 #[.pointer (some ⟨wb,0,none⟩)] w fun e w'=>e=.returned (.int .i64 0)/\w.grownBy w' (some wb)/\∃lv',Arr w' wb 144 [.string a,.int .i64 o,v,.int .i64 most,lv',.string b]/\∀W,RdI W v l->RdI W lv' (l.take (l.length-1)):=by
 obtain⟨ad,ca,rfl,hca,hma,hA⟩:=hr.open;have hma0:=hma;unfold maxLen at hma;have hlt:=harr.lt;have c2:=harr.cell (i:=2) rfl;obtain⟨m,hm⟩:∃m,l.length=m+1:=⟨l.length-1,by have:=hyes.1;omega⟩;obtain⟨b0,o0,rfl,hb0,hc0⟩:=hA (by omega);have hy:l[m]? =some ((a.size:Int)+1):=by have:=hyes.2.1;rwa[hm,jZ] at this
 have cy:=hc0 m _ hy;have r1:aI.wrap ((l.length:Int)-1)=(m:Int):=by rw[aM];omega
 have r2:m<=ca:=by omega
 have r3:(m:Int)<=(ca:Int):=by omega
 have r4:(0:Int)<=(m:Int):=by omega
 have r5:m<l.length:=by omega
 have r6:(m:Int)<(l.length:Int):=by omega
 have r7:decide ((m:Int)<0)=false:=decide_eq_false (by omega);have HM:=hid hm;have HC:=hid hc0;have c0:=harr.cell (i:=0) rfl;have c1:=harr.cell (i:=1) rfl;have z0:iE w wb a o (.slice (some ⟨b0,o0,none⟩) l.length ca) b0 (o0+m) ((a.size:Int)+1) (w.alloc (.cells #[.pointer (some ⟨wb,0,none⟩)] 147)):=by
  have hB:Below w.heap.size w (w.alloc (.cells #[.pointer (some ⟨wb,0,none⟩)] 147)):=(aB _ _).alloc (aA _) _;exact⟨bS _ _ _,by rw[hB.cell (p:=⟨wb,0,none⟩) hlt];exact c0,by rw[hB.cell (p:=⟨wb,1,none⟩) hlt];exact c1,by rw[hB.cell (p:=⟨wb,2,none⟩) hlt];exact c2,by rw[hB.cell (p:=⟨b0,o0+m,none⟩) hb0];exact cy,hB,by simp⟩
 have f2:(((a.size:Int)+1) != ((a.size:Int)+1))=false:=by simp
 have hfind:decide (0<=fP (lV ((a.size:Int)+1)) (l.take m))=false:=by
  refine decide_eq_false (Int.not_le.2 ((BQ (lV ((a.size:Int)+1)) (l.take m)).2.2.2 fun x hx=>?_));have:=hyes.2.2 x (by rw[HM.out,jZ];exact hx);unfold lV;rw[Bool.or_eq_false_iff,decide_eq_false_iff_not,decide_eq_false_iff_not];omega
 have HTK:=hid (EB hb0 HC.out m (by omega) hca hma0);have hpr:∀W,iE w wb a o (.slice (some ⟨b0,o0,none⟩) l.length ca) b0 (o0+m) ((a.size:Int)+1) W->EC W 86 #[.pointer (some ⟨w.heap.size,0,none⟩)] (lV ((a.size:Int)+1)) (l.take m):=fun W hW W' hW' x _=>by
  have hk:=iE.keep hW hlt hb0 hW';exact XI x w.heap.size wb a o most _ lv b W' (by omega) rfl hk.1 (harr.below hk.2.2.2.2.2.1 hlt)
 have HPR:=hid hpr;have HF:=hid hfind;have HY:=hid hy;clear hpr hfind hm hc0 hy hA;go_enter Tryz.func62,Tryz.ntmps62;go_upto_region 2 with fail;generalize w.alloc (.cells #[.pointer (some ⟨wb,0,none⟩)] 147)=wa at*
 refine vI (S:=(fun w'=>w'.cell? ⟨w.heap.size,0,none⟩=some (.pointer (some ⟨wb,0,none⟩))/\w'.cell? ⟨wb,0,none⟩=some (.string a)/\w'.cell? ⟨wb,1,none⟩=some (.int .i64 o)/\w'.cell? ⟨wb,2,none⟩=some (.slice (some ⟨b0,o0,none⟩) l.length ca)/\w'.cell? ⟨b0,o0+m,none⟩=some (.int .i64 ((a.size:Int)+1))/\Below w.heap.size w w'/\w.heap.size<w'.heap.size)) (by kernel_rfl) (iE.drew z0) (fun hHeld=>?_);refine aQ (i:=0) (oi:=?oi0) (v:=?v0) ?hi0 (by kernel_rfl) (by kernel_rfl) (by kernel_rfl) ?hq0 ?hy0 (by assumption) ?_
 case hi0=>(simp only[aR,aP];rfl)
 case hq0=>exact fun _ _ _ h=>h
 case hy0=>(refine aT ⟨by rfl,?_⟩;intro w' hSw;(try dsimp only at hSw);(try go_simp);try with_reducible rfl)
 try simp only[aJ,aK,aH,aG]
 refine aQ (i:=1) (oi:=?oi1) (v:=?v1) ?hi1 (by kernel_rfl) (by kernel_rfl) (by kernel_rfl) ?hq1 ?hy1 (by assumption) ?_
 case hi1=>(simp only[aR,aS,aP];rfl)
 case hq1=>exact fun _ _ _ h=>h
 case hy1=>(refine aT ⟨by rfl,?_⟩;intro w' hSw;(try dsimp only at hSw);(try go_simp);try with_reducible rfl)
 try simp only[aJ,aK,aH,aG]
 refine aQ (i:=2) (oi:=?oi2) (v:=?v2) ?hi2 (by kernel_rfl) (by kernel_rfl) (by kernel_rfl) ?hq2 ?hy2 (by assumption) ?_
 case hi2=>(simp only[aR,aS,aP];rfl)
 case hq2=>exact fun _ _ _ h=>h
 case hy2=>(refine aT ⟨by rfl,?_⟩;intro w' hSw;(try dsimp only at hSw);(try go_simp);try with_reducible rfl)
 try simp only[aJ,aK,aH,aG]
 refine aQ (i:=3) (oi:=?oi3) (v:=?v3) ?hi3 (by kernel_rfl) (by kernel_rfl) (by kernel_rfl) ?hq3 ?hy3 (by assumption) ?_
 case hi3=>(simp only[aR,aS,aP];rfl)
 case hq3=>exact fun _ _ _ h=>h
 case hy3=>(refine aT ⟨by rfl,?_⟩;intro w' hSw;(try dsimp only at hSw);(try go_simp);try with_reducible rfl)
 try simp only[aJ,aK,aH,aG]
 refine aQ (i:=4) (oi:=?oi4) (v:=?v4) ?hi4 (by kernel_rfl) (by kernel_rfl) (by kernel_rfl) ?hq4 ?hy4 (by assumption) ?_
 case hi4=>(simp only[aR,aS,aP];rfl)
 case hq4=>exact fun _ _ _ h=>h
 case hy4=>(refine aT ⟨by rfl,?_⟩;intro w' hSw;(try dsimp only at hSw);(try go_simp);try with_reducible rfl)
 try simp only[aJ,aK,aH,aG]
 refine aQ (i:=5) (oi:=?oi5) (v:=?v5) ?hi5 (by kernel_rfl) (by kernel_rfl) (by kernel_rfl) ?hq5 ?hy5 (by assumption) ?_
 case hi5=>(simp only[aR,aS,aP];rfl)
 case hq5=>exact fun _ _ _ h=>h
 case hy5=>(refine aT ⟨by rfl,?_⟩;intro w' hSw;(try dsimp only at hSw);(try go_simp);try with_reducible rfl)
 try simp only[aJ,aK,aH,aG]
 refine aQ (i:=6) (oi:=?oi6) (v:=?v6) ?hi6 (by kernel_rfl) (by kernel_rfl) (by kernel_rfl) ?hq6 ?hy6 (by assumption) ?_
 case hi6=>(simp only[aR,aS,aP];rfl)
 case hq6=>exact fun _ _ _ h=>h
 case hy6=>(refine aT ⟨by rfl,?_⟩;intro w' hSw;(try dsimp only at hSw);(try go_simp);try with_reducible rfl)
 try simp only[aJ,aK,aH,aG]
 refine aQ (i:=7) (oi:=?oi7) (v:=?v7) ?hi7 (by kernel_rfl) (by kernel_rfl) (by kernel_rfl) ?hq7 ?hy7 (by assumption) ?_
 case hi7=>(simp only[aR,aS,aP];rfl)
 case hq7=>exact fun _ _ _ h=>h
 case hy7=>(refine aT ⟨by rfl,?_⟩;intro w' hSw;(try dsimp only at hSw);(try go_simp);try with_reducible rfl)
 try simp only[aJ,aK,aH,aG]
 refine aQ (i:=8) (oi:=?oi8) (v:=?v8) ?hi8 (by kernel_rfl) (by kernel_rfl) (by kernel_rfl) ?hq8 ?hy8 (by assumption) ?_
 case hi8=>(simp only[aR,aS,aP];rfl)
 case hq8=>exact fun _ _ _ h=>h
 case hy8=>(refine aT ⟨by rfl,?_⟩;intro w' hSw;(try dsimp only at hSw);(try go_simp);try with_reducible rfl)
 try simp only[aJ,aK,aH,aG]
 refine aQ (i:=9) (oi:=?oi9) (v:=?v9) ?hi9 (by kernel_rfl) (by kernel_rfl) (by kernel_rfl) ?hq9 ?hy9 (by assumption) ?_
 case hi9=>(simp only[aR,aS,aP];rfl)
 case hq9=>exact fun _ _ _ h=>h
 case hy9=>(refine aT ⟨by rfl,?_⟩;intro w' hSw;(try dsimp only at hSw);(try go_simp);try with_reducible rfl)
 try simp only[aJ,aK,aH,aG]
 refine aQ (i:=10) (oi:=?oi10) (v:=?v10) ?hi10 (by kernel_rfl) (by kernel_rfl) (by kernel_rfl) ?hq10 ?hy10 (by assumption) ?_
 case hi10=>(simp only[aR,aS,aP];rfl)
 case hq10=>exact fun _ _ _ h=>h
 case hy10=>(refine aT ⟨by rfl,?_⟩;intro w' hSw;(try dsimp only at hSw);(try go_simp);try with_reducible rfl)
 try simp only[aJ,aK,aH,aG]
 refine aQ (i:=11) (oi:=?oi11) (v:=?v11) ?hi11 (by kernel_rfl) (by kernel_rfl) (by kernel_rfl) ?hq11 ?hy11 (by assumption) ?_
 case hi11=>(simp only[aR,aS,aP];rfl)
 case hq11=>exact fun _ _ _ h=>h
 case hy11=>(refine aT ⟨by rfl,?_⟩;intro w' hSw;(try dsimp only at hSw);(try go_simp);try with_reducible rfl)
 try simp only[aJ,aK,aH,aG]
 refine aQ (i:=12) (oi:=?oi12) (v:=?v12) ?hi12 (by kernel_rfl) (by kernel_rfl) (by kernel_rfl) ?hq12 ?hy12 (by assumption) ?_
 case hi12=>(simp only[aR,aS,aP];rfl)
 case hq12=>exact fun _ _ _ h=>h
 case hy12=>(refine aT ⟨by rfl,?_⟩;intro w' hSw;(try dsimp only at hSw);(try go_simp);try with_reducible rfl)
 try simp only[aJ,aK,aH,aG]
 refine aQ (i:=13) (oi:=?oi13) (v:=?v13) ?hi13 (by kernel_rfl) (by kernel_rfl) (by kernel_rfl) ?hq13 ?hy13 (by assumption) ?_
 case hi13=>(simp only[aR,aS,aP];rfl)
 case hq13=>exact fun _ _ _ h=>h
 case hy13=>(refine aT ⟨by rfl,?_⟩;intro w' hSw;(try dsimp only at hSw);(try go_simp);try with_reducible rfl)
 try simp only[aJ,aK,aH,aG]
 refine aQ (i:=14) (oi:=?oi14) (v:=?v14) ?hi14 (by kernel_rfl) (by kernel_rfl) (by kernel_rfl) ?hq14 ?hy14 (by assumption) ?_
 case hi14=>(simp only[aR,aS,aP];rfl)
 case hq14=>exact fun _ _ _ h=>h
 case hy14=>(refine aT ⟨by rfl,?_⟩;intro w' hSw;(try dsimp only at hSw);(try go_simp);try with_reducible rfl)
 try simp only[aJ,aK,aH,aG]
 refine fL (rs:=[15]) (by kernel_rfl) (by simp) ?_;refine fA rfl (fun K hK=>?_) ?_
 rotate_left
 ·exact fM
 go_simp
 go_at_call 54
 refine(wP a o _ rfl _ (by omega)).mono ?_;rintro e w' ⟨rfl,hb⟩
 (try go_wp2_with fail)
 refine hK.out _ _ (iE.keep (by assumption) hlt hb0 hb) (fun hHeld2=>?_);clear hK K
 try simp only[aJ,aK,aH,aG]
 refine aQ (i:=16) (oi:=?oi16) (v:=?v16) ?hi16 (by kernel_rfl) (by kernel_rfl) (by kernel_rfl) ?hq16 ?hy16 (by assumption) ?_
 case hi16=>(simp only[aR,aS,aP];rfl)
 case hq16=>exact fun _ _ _ h=>h
 case hy16=>(refine aT ⟨by rfl,?_⟩;intro w' hSw;(try dsimp only at hSw);(try go_simp);try with_reducible rfl)
 try simp only[aJ,aK,aH,aG]
 refine aQ (i:=17) (oi:=?oi17) (v:=?v17) ?hi17 (by kernel_rfl) (by kernel_rfl) (by kernel_rfl) ?hq17 ?hy17 (by assumption) ?_
 case hi17=>(simp only[aR,aS,aP];rfl)
 case hq17=>exact fun _ _ _ h=>h
 case hy17=>(refine aT ⟨by rfl,?_⟩;intro w' hSw;(try dsimp only at hSw);(try go_simp);try with_reducible rfl)
 try simp only[aJ,aK,aH,aG]
 refine aQ (i:=18) (oi:=?oi18) (v:=?v18) ?hi18 (by kernel_rfl) (by kernel_rfl) (by kernel_rfl) ?hq18 ?hy18 (by assumption) ?_
 case hi18=>(simp only[aR,aS,aP];rfl)
 case hq18=>exact fun _ _ _ h=>h
 case hy18=>(refine aT ⟨by rfl,?_⟩;intro w' hSw;(try dsimp only at hSw);(try go_simp);try with_reducible rfl)
 try simp only[aJ,aK,aH,aG]
 refine aQ (i:=19) (oi:=?oi19) (v:=?v19) ?hi19 (by kernel_rfl) (by kernel_rfl) (by kernel_rfl) ?hq19 ?hy19 (by assumption) ?_
 case hi19=>(simp only[aR,aS,aP];rfl)
 case hq19=>exact fun _ _ _ h=>h
 case hy19=>(refine aT ⟨by rfl,?_⟩;intro w' hSw;(try dsimp only at hSw);(try go_simp);try with_reducible rfl)
 try simp only[aJ,aK,aH,aG]
 refine aQ (i:=20) (oi:=?oi20) (v:=?v20) ?hi20 (by kernel_rfl) (by kernel_rfl) (by kernel_rfl) ?hq20 ?hy20 (by assumption) ?_
 case hi20=>(simp only[aR,aS,aP];rfl)
 case hq20=>exact fun _ _ _ h=>h
 case hy20=>(refine aT ⟨by rfl,?_⟩;intro w' hSw;(try dsimp only at hSw);(try go_simp);try with_reducible rfl)
 try simp only[aJ,aK,aH,aG]
 refine aQ (i:=21) (oi:=?oi21) (v:=?v21) ?hi21 (by kernel_rfl) (by kernel_rfl) (by kernel_rfl) ?hq21 ?hy21 (by assumption) ?_
 case hi21=>(simp only[aR,aS,aP];rfl)
 case hq21=>exact fun _ _ _ h=>h
 case hy21=>(refine aT ⟨by rfl,?_⟩;intro w' hSw;(try dsimp only at hSw);(try go_simp);try with_reducible rfl)
 try simp only[aJ,aK,aH,aG]
 refine aQ (i:=22) (oi:=?oi22) (v:=?v22) ?hi22 (by kernel_rfl) (by kernel_rfl) (by kernel_rfl) ?hq22 ?hy22 (by assumption) ?_
 case hi22=>(simp only[aR,aS,aP];rfl)
 case hq22=>exact fun _ _ _ h=>h
 case hy22=>(refine aT ⟨by rfl,?_⟩;intro w' hSw;(try dsimp only at hSw);(try go_simp);try with_reducible rfl)
 try simp only[aJ,aK,aH,aG]
 refine aQ (i:=23) (oi:=?oi23) (v:=?v23) ?hi23 (by kernel_rfl) (by kernel_rfl) (by kernel_rfl) ?hq23 ?hy23 (by assumption) ?_
 case hi23=>(simp only[aR,aS,aP];rfl)
 case hq23=>exact fun _ _ _ h=>h
 case hy23=>(refine aT ⟨by rfl,?_⟩;intro w' hSw;(try dsimp only at hSw);(try go_simp);try with_reducible rfl)
 try simp only[aJ,aK,aH,aG]
 refine aQ (i:=24) (oi:=?oi24) (v:=?v24) ?hi24 (by kernel_rfl) (by kernel_rfl) (by kernel_rfl) ?hq24 ?hy24 (by assumption) ?_
 case hi24=>(simp only[aR,aS,aP];rfl)
 case hq24=>exact fun _ _ _ h=>h
 case hy24=>(refine aT ⟨by rfl,?_⟩;intro w' hSw;(try dsimp only at hSw);(try go_simp);try with_reducible rfl)
 try simp only[aJ,aK,aH,aG]
 refine aQ (i:=25) (oi:=?oi25) (v:=?v25) ?hi25 (by kernel_rfl) (by kernel_rfl) (by kernel_rfl) ?hq25 ?hy25 (by assumption) ?_
 case hi25=>(simp only[aR,aS,aP];rfl)
 case hq25=>exact fun _ _ _ h=>h
 case hy25=>(refine aT ⟨by rfl,?_⟩;intro w' hSw;(try dsimp only at hSw);(try go_simp);try with_reducible rfl)
 try simp only[aJ,aK,aH,aG]
 refine aQ (i:=26) (oi:=?oi26) (v:=?v26) ?hi26 (by kernel_rfl) (by kernel_rfl) (by kernel_rfl) ?hq26 ?hy26 (by assumption) ?_
 case hi26=>(simp only[aR,aS,aP];rfl)
 case hq26=>exact fun _ _ _ h=>h
 case hy26=>(refine aT ⟨by rfl,?_⟩;intro w' hSw;(try dsimp only at hSw);(try go_simp);try with_reducible rfl)
 try simp only[aJ,aK,aH,aG]
 refine fL (rs:=[27]) (by kernel_rfl) (by simp) ?_;refine fA rfl (fun K hK=>?_) ?_
 rotate_left
 ·exact fM
 go_simp
 go_at_call 85
 refine(XH _ _ (lV ((a.size:Int)+1)) _ (l.take m) _ (HTK.out.below (show iE w wb a o _ b0 (o0+m) _ _ by assumption).2.2.2.2.2.1) (enters_of Tryz.func86 rfl rfl) (HPR.out _ (by assumption))).mono ?_;rintro e w3 ⟨rfl,hb3⟩;rw[HF.out]
 (try go_wp2_with fail)
 refine hK.out _ _ (iE.keep (by assumption) hlt hb0 hb3) (fun hHeld3=>?_);clear hK K
 try simp only[aJ,aK,aH,aG]
 refine aQ (i:=28) (oi:=?oi28) (v:=?v28) ?hi28 (by kernel_rfl) (by kernel_rfl) (by kernel_rfl) ?hq28 ?hy28 (by assumption) ?_
 case hi28=>(simp only[aR,aS,aP];rfl)
 case hq28=>exact fun _ _ _ h=>h
 case hy28=>(refine aT ⟨by rfl,?_⟩;intro w' hSw;(try dsimp only at hSw);(try go_simp);try with_reducible rfl)
 try simp only[aJ,aK,aH,aG]
 refine pY (by kernel_rfl) ?_ _;clear hHeld hHeld2;obtain⟨k0,k1,k2,k3,k4,k5,k6⟩:=hHeld3;have har3:=harr.below k5 hlt;have k7:=har3.cell (i:=4) rfl;have k8:=har3.free;clear hb3 hb harr z0;go_upto_region 4 with fail
 go_still_tail 10,(by kernel_rfl)
 change wpList _ _ _ _ _ w3.drew;have har4:Arr w3.drew wb 144 _:=har3;have k0':w3.drew.cell? ⟨w.heap.size,0,none⟩=some (.pointer (some ⟨wb,0,none⟩)):=k0;have k7':w3.drew.cell? ⟨wb,4,none⟩=some lv:=k7;have k8':∀i,w3.drew.frozen? ⟨wb,i,none⟩=false:=k8;have k5':Below w.heap.size w w3.drew:=k5.drew;generalize w3.drew=w4 at*
 clear har3 k0 k1 k2 k3 k4 k5 k6 k7 k8;go_wp2_with fail;go_ret;exact⟨rfl,nK (rZ k5' _) 4 _,_,har4.set 4 _,fun W hW=>by
  obtain⟨b1,o1,e1,hb1,hc1⟩:=WZ hW (by omega);obtain⟨rfl,rfl⟩:b0=b1/\o0=o1:=by simpa using e1
  rw[HM.out,jZ];exact EB hb1 hc1 m (by omega) hca hma0⟩
theorem LS (x:Int) (w:World):Calls Tryz.prog 61 #[.int .i64 x] w fun e w'=>e=.returned (.int .i64 x)/\w'=w:=by
 go_enter Tryz.func61,Tryz.ntmps61;go_wp2_with fail;go_ret;exact⟨rfl,rfl⟩
theorem XJ (x:Int) (w:World):Calls Tryz.prog 65 #[.int .i64 x] w fun e w'=>e=.returned (.int .i64 (if x=0 then 0 else 3))/\w'=w:=by
 by_cases h:x=0
 ·subst h;go_enter Tryz.func65,Tryz.ntmps65;go_wp2_with fail;go_ret;exact⟨rfl,rfl⟩
 ·have t1:(x != 0)=true:=by simpa using h
  rw[if_neg h];go_enter Tryz.func65,Tryz.ntmps65;go_wp2_with fail;go_ret;exact⟨rfl,rfl⟩
theorem LT {w w1:World} {wb:Nat} (hb:Below w.heap.size w w1) (i:Nat) (v:Value):w.grownBy (w1.setCell ⟨wb,i,none⟩ v) (some wb):=nK (rZ hb _) i v
theorem OwI.setW {w w1:World} {B wb:Nat} {v:Value} {l:List Int} (h:OwI w1 B v l) (hl:wb<w.heap.size) (hB:w.heap.size<=B) (i:Nat) (x:Value):RdI (w1.setCell ⟨wb,i,none⟩ x) v l:=
 (h.setLow (p:=⟨wb,i,none⟩) (dR hl hB) x).rd
theorem aMm (wb:Nat) (a:ByteArray) (o most:Int) (v lv:Value) (m:List Int) (b:ByteArray) (w:World) (harr:Arr w wb 144 [.string a,.int .i64 o,v,.int .i64 most,lv,.string b]) (hr:RdI w lv m) (hlen:m.length<=1000000) (hv:∀x∈m,0<=x/\x<=1000000) (hm1: -9223372036854775808<=most) (hm2:most<=1000000):
  Calls Tryz.prog 63 #[.pointer (some ⟨wb,0,none⟩)] w fun e w'=>e=.returned (.int .i64 (nZ m most))/\w.grownBy w' (some wb)/\∃lv',Arr w' wb 144 [.string a,.int .i64 o,v,.int .i64 most,lv',.string b]/\RdI w' lv' (oX m most):=by
 obtain⟨ad,ca,rfl,hca,hma,_⟩:=hr.open;have hlt:=harr.lt;have c3:=harr.cell (i:=3) rfl;have c4:=harr.cell (i:=4) rfl;have HD:∀W:World,RdI W (.slice ad m.length ca) m->Hid (Calls Tryz.prog 87 #[.slice ad m.length ca,.int .i64 most] W fun e w'=>∃v',e=.returned (.tuple #[v',.int .i64 (nZ m most)])/\OwI w' W.heap.size v' (oX m most)/\Below W.heap.size W w'):=fun W hW=>hid (aLy _ m most W hW hlen hv hm1 hm2)
 have hrd:RdI w.drew (.slice ad m.length ca) m:=hr;clear hlen hv hm1 hm2;go_enter Tryz.func63,Tryz.ntmps63;go_upto_region 1 with fail
 go_region_with (go_at_call 87;refine((HD _ (by assumption)).out).mono ?_;rintro e w1 ⟨v',rfl,hown,hb⟩;obtain⟨a3,k3,e3,_,_,_⟩:=hown.rd.open;subst e3;have hb':Below w.heap.size w w1:=(aB _ _).drew.trans hb;have hown':OwI w1 w.heap.size _ _:=hown;have k:=harr.below hb' hlt;have k4:=k.cell (i:=4) rfl;have k5:=k.free)
 all_goals go_wp2_with fail
 all_goals go_ret
 all_goals exact⟨rfl,LT hb' 4 _,_,k.set 4 _,hown'.setW hlt (aA _) 4 _⟩
theorem aMn (wb:Nat) (a:ByteArray) (o most:Int) (v lv:Value) (b:ByteArray) (w:World) (harr:Arr w wb 144 [.string a,.int .i64 o,v,.int .i64 most,lv,.string b]) (hr:RdI w lv []):
  Calls Tryz.prog 64 #[.pointer (some ⟨wb,0,none⟩)] w fun e w'=>e=.returned (.int .i64 3)/\w'=w:=by
 obtain⟨ad,ca,rfl,_,_,_⟩:=hr.open;have c4:=harr.cell (i:=4) rfl;go_enter Tryz.func64,Tryz.ntmps64;go_wp2_with fail;go_ret;exact⟨rfl,rfl⟩
theorem aMo (wb:Nat) (a:ByteArray) (o most:Int) (v lv:Value) (m:List Int) (b:ByteArray) (w:World) (harr:Arr w wb 144 [.string a,.int .i64 o,v,.int .i64 most,lv,.string b]) (hr:RdI w lv m) (h0:0<m.length) (ha:a.size<=1000) (hl:m.length<=1000000) (hn:a.data.toList.Nodup) (hx:∀x∈m,0<=x/\x<(a.size:Int)):
  Calls Tryz.prog 64 #[.pointer (some ⟨wb,0,none⟩)] w fun e w'=>e=.returned (.int .i64 0)/\w.grownBy w' (some wb)/\Arr w' wb 144 [.string a,.int .i64 o,v,.int .i64 most,lv,.string (mkS (unL a.data.toList m))]:=by
 obtain⟨ad,ca,rfl,_,_,_⟩:=hr.open;have hlt:=harr.lt;have c0:=harr.cell (i:=0) rfl;have c4:=harr.cell (i:=4) rfl;have t1:((m.length:Int)==0)=false:=by rw[beq_eq_false_iff_ne];omega
 have t2:decide (m.length=0)=false:=decide_eq_false (by omega);have HD:∀W:World,RdI W (.slice ad m.length ca) m->Hid (Calls Tryz.prog 88 #[.string a,.slice ad m.length ca] W fun e w'=>e=.returned (.tuple #[.string (mkS (unL a.data.toList m)),.int .i64 0])/\Below W.heap.size W w'):=fun W hW=>hid (aK5 a _ m W ha hl hn hW hx)
 have hrd:RdI w.drew (.slice ad m.length ca) m:=hr;clear ha hl hn hx;go_enter Tryz.func64,Tryz.ntmps64;go_upto_region 3 with fail
 go_region_with (go_at_call 88;refine((HD _ (by assumption)).out).mono ?_;rintro e w1 ⟨rfl,hb⟩;have hb':Below w.heap.size w w1:=(aB _ _).drew.trans hb;have k:=harr.below hb' hlt;have k4:=k.cell (i:=5) rfl;have k5:=k.free)
 all_goals go_wp2_with fail
 all_goals go_ret
 all_goals exact⟨rfl,LT hb' 5 _,k.set 5 _⟩
theorem aMp (wb:Nat) (a:ByteArray) (o most:Int) (v lv:Value) (b:ByteArray) (w:World) (harr:Arr w wb 144 [.string a,.int .i64 o,v,.int .i64 most,lv,.string b]) (hb:b.size<=1000000000) (ho1: -9223372036854775808<=o) (ho2:o<=9223372036854775807):
  Calls Tryz.prog 66 #[.pointer (some ⟨wb,0,none⟩)] w fun e w'=>e=.returned (.int .i64 (nW b.data.toList o))/\w.grownBy w' (some wb)/\Arr w' wb 144 [.string a,.int .i64 o,v,.int .i64 most,lv,.string (mkS (lE b.data.toList o))]:=by
 have hlt:=harr.lt;have c1:=harr.cell (i:=1) rfl;have c5:=harr.cell (i:=5) rfl;have HD:∀W:World,Hid (Calls Tryz.prog 89 #[.string b,.int .i64 o] W fun e w'=>e=.returned (.tuple #[.string (mkS (lE b.data.toList o)),.int .i64 (nW b.data.toList o)])/\Below W.heap.size W w'):=fun W=>hid (aMb b o W hb ho1 ho2)
 clear hb ho1 ho2;go_enter Tryz.func66,Tryz.ntmps66;go_upto_region 1 with fail
 go_region_with (go_at_call 89;refine((HD _).out).mono ?_;rintro e w1 ⟨rfl,hb⟩;have hb':Below w.heap.size w w1:=(aB _ _).drew.trans hb;have k:=harr.below hb' hlt;have k4:=k.cell (i:=5) rfl;have k5:=k.free)
 all_goals go_wp2_with fail
 all_goals go_ret
 all_goals exact⟨rfl,LT hb' 5 _,k.set 5 _⟩
def LU (w:World) (wb:Nat) (E:Nat->Int) (S:Nat->World->Prop) (e:Ending) (w':World):Prop:=
 w.grownBy w' (some wb)/\((∃k,k<5/\E k≠0/\(∀j,j<k->E j=0)/\e=.returned (.iface 182 (.agg #[.int .i64 (k:Int),.iface 145 (.int .i64 (E k))])))\/((∀j,j<5->E j=0)/\S 5 w'/\e=.returned .nilIface))
theorem aMq {w w':World} {wb:Nat} {E:Nat->Int} {S:Nat->World->Prop} {k:Nat} (hg:w.grownBy w' (some wb)) (hk:k<5) (hE:E k≠0) (hj:∀j,j<k->E j=0):LU w wb E S (.returned (.iface 182 (.agg #[.int .i64 (k:Int),.iface 145 (.int .i64 (E k))]))) w':=⟨hg,.inl ⟨k,hk,hE,hj,rfl⟩⟩
theorem aMr {w w':World} {wb:Nat} {E:Nat->Int} {S:Nat->World->Prop} (hg:w.grownBy w' (some wb)) (hj:∀j,j<5->E j=0) (hS:S 5 w'):LU w wb E S (.returned .nilIface) w':=⟨hg,.inr ⟨hj,hS,rfl⟩⟩
abbrev sA (W:World) (wb sx d y:Nat) (w':World):Prop:=w'.cell? ⟨sx,0,none⟩=some (iR (.func d) #[] #[])/\w'.cell? ⟨sx,1,none⟩=some (iR (.func y) #[] #[])/\W.grownBy w' (some wb)/\sx<w'.heap.size
theorem sA.drew {W w:World} {wb sx d y:Nat} (h:sA W wb sx d y w):sA W wb sx d y w.drew:=⟨h.1,h.2.1,zN h.2.2.1 ⟨rfl,rfl,rfl,aA _,fun _ _ _=>rfl⟩,h.2.2.2⟩
theorem sA.keep {W w w':World} {wb sx d y:Nat} (h:sA W wb sx d y w) (hne:sx≠wb) (hg:w.grownBy w' (some wb)):sA W wb sx d y w':=
 ⟨hg.cell h.1 (by simpa using hne),hg.cell h.2.1 (by simpa using hne),zN h.2.2.1 hg,dR h.2.2.2 hg.size⟩
theorem aMs (wb sb:Nat) (w:World) (dF yF:Nat->Nat) (D E:Nat->Int) (S:Nat->World->Prop)
  (hc:∀k,k<5->w.cell? ⟨sb,k*2,none⟩=some (iR (.func (dF k)) #[] #[])/\w.cell? ⟨sb,k*2+1,none⟩=some (iR (.func (yF k)) #[] #[])) (hne:sb≠wb) (hwb:wb<w.heap.size)
  (hdE:∀k,k<5->Enters Tryz.prog (dF k)) (hyE:∀k,k<5->Enters Tryz.prog (yF k))
  (hd:∀k,k<5->∀W,S k W->w.grownBy W (some wb)->(∀j,j<k->E j=0)->Calls Tryz.prog (dF k) #[.pointer (some ⟨wb,0,none⟩)] W fun e W'=>e=.returned (.int .i64 (D k))/\W.grownBy W' (some wb)/\(E k=0->S (k+1) W'))
  (hy:∀k,k<5->∀W,Calls Tryz.prog (yF k) #[.int .i64 (D k)] W fun e W'=>e=.returned (.int .i64 (E k))/\W'=W)
  (hS:∀k W W',S k W->Below W.heap.size W W'->S k W') (h0:S 0 w):
  Calls Tryz.prog 59 #[.pointer (some ⟨wb,0,none⟩),.slice (some ⟨sb,0,none⟩) 5 5] w (LU w wb E S):=by
 have HC:=hid hc;have HDE:=hid hdE;have HYE:=hid hyE;have HD:=hid hd;have HY:=hid hy;have HS:=hid hS;clear hc hdE hyE hd hy hS;go_enter Tryz.func59,Tryz.ntmps59;go_wp2_with fail
 go_loopg [10,5,6,7] 5 (fun gh s10 _s5 _s6 _s7 wr=>∃k:Nat,k<=5/\gh=5-k/\s10=.int .i64 k/\S k wr/\w.grownBy wr (some wb)/\Hid (∀j,j<k->E j=0))
 case atStart=>exact⟨0,by omega,rfl,rfl,h0,rZ (aB _ _) _,hid (fun j hj=>by omega)⟩
 case round=>
  obtain⟨k,hk,hg,rfl,hSk,hgr,HJ⟩:=hrel;have HG:=hid hg;clear hg
  by_cases hlt:k<5
  ·obtain⟨p1,p2⟩:=HC.out k hlt;have c1:=hgr.cell p1 (by simpa using hne);have c2:=hgr.cell p2 (by simpa using hne);obtain⟨d,hdd⟩:∃d,d=dF k:=⟨_,rfl⟩;obtain⟨y,hyy⟩:∃y,y=yF k:=⟨_,rfl⟩;obtain⟨xD,hxD⟩:∃x,x=D k:=⟨_,rfl⟩;obtain⟨xE,hxE⟩:∃x,x=E k:=⟨_,rfl⟩;have hE1:∀args W,(callFunc d args).run Tryz.prog W=.ok (.enter d args) W:=by rw[hdd];exact HDE.out k hlt
   have hE2:∀args W,(callFunc y args).run Tryz.prog W=.ok (.enter y args) W:=by rw[hyy];exact HYE.out k hlt
   have HDk:Hid (∀W,S k W->w.grownBy W (some wb)->Calls Tryz.prog d #[.pointer (some ⟨wb,0,none⟩)] W fun e W'=>e=.returned (.int .i64 xD)/\W.grownBy W' (some wb)/\(xE=0->S (k+1) W')):=hid (fun W h1 h2=>by rw[hdd,hxD,hxE];exact HD.out k hlt W h1 h2 HJ.out);have HYk:Hid (∀W,Calls Tryz.prog y #[.int .i64 xD] W fun e W'=>e=.returned (.int .i64 xE)/\W'=W):=hid (fun W=>by rw[hyy,hxD,hxE];exact HY.out k hlt W);rw[<-hdd] at c1;rw[<-hyy] at c2;have HXE:=hid hxE;clear hdd hyy hxD hxE p1 p2
   have s1:(store ⟨wr.heap.size,0,none⟩ (iR (.func d) #[] #[])).run Tryz.prog (wr.alloc (.cells #[.nilFunc,.nilFunc] 151))=.ok () (wr.alloc (.cells #[iR (.func d) #[] #[],.nilFunc] 151)):=by
    rw[run_store _ _ _ _ _ rfl];simp[aCu]
   have s2:(store ⟨wr.heap.size,1,none⟩ (iR (.func y) #[] #[])).run Tryz.prog (wr.alloc (.cells #[iR (.func d) #[] #[],.nilFunc] 151))=.ok () (wr.alloc (.cells #[iR (.func d) #[] #[],iR (.func y) #[] #[]] 151)):=by
    rw[run_store _ _ _ _ _ rfl];simp[aCu]
   go_upto_region 4 with fail;have z0:sA w wb wr.heap.size d y (wr.alloc (.cells #[iR (.func d) #[] #[],iR (.func y) #[] #[]] 151)):=by
    have ha:=Arr.new wr 151 [iR (.func d) #[] #[],iR (.func y) #[] #[]];exact⟨ha.cell (i:=0) rfl,ha.cell (i:=1) rfl,zN hgr (rZ ((aB _ _).alloc (aA _) _) _),by simp⟩
   have z1:S k (wr.alloc (.cells #[iR (.func d) #[] #[],iR (.func y) #[] #[]] 151)).drew:=HS.out k _ _ hSk ((aB _ _).alloc (aA _) _).drew;have hnx:wr.heap.size≠wb:=by have:=hgr.size;omega
   generalize wr.alloc (.cells #[iR (.func d) #[] #[],iR (.func y) #[] #[]] 151)=wa at*
   refine vI (S:=(fun w'=>w'.cell? ⟨wr.heap.size,0,none⟩=some (iR (.func d) #[] #[])/\w'.cell? ⟨wr.heap.size,1,none⟩=some (iR (.func y) #[] #[])/\w.grownBy w' (some wb)/\wr.heap.size<w'.heap.size)) (by kernel_rfl) (sA.drew z0) (fun hHeld=>?_);refine aQ (i:=0) (oi:=?oi0) (v:=?v0) ?hi0 (by kernel_rfl) (by kernel_rfl) (by kernel_rfl) ?hq0 ?hy0 (by assumption) ?_
   case hi0=>(simp only[aR,aP];rfl)
   case hq0=>exact fun _ _ _ h=>h
   case hy0=>(refine aT ⟨by rfl,?_⟩;intro w' hSw;(try dsimp only at hSw);(try go_simp);try with_reducible rfl)
   try simp only[aJ,aK,aH,aG]
   refine aQ (i:=1) (oi:=?oi1) (v:=?v1) ?hi1 (by kernel_rfl) (by kernel_rfl) (by kernel_rfl) ?hq1 ?hy1 (by assumption) ?_
   case hi1=>(simp only[aR,aS,aP];rfl)
   case hq1=>exact fun _ _ _ h=>h
   case hy1=>(refine aT ⟨by rfl,?_⟩;intro w' hSw;(try dsimp only at hSw);(try go_simp);try with_reducible rfl)
   try simp only[aJ,aK,aH,aG]
   refine aQ (i:=2) (oi:=?oi2) (v:=?v2) ?hi2 (by kernel_rfl) (by kernel_rfl) (by kernel_rfl) ?hq2 ?hy2 (by assumption) ?_
   case hi2=>(simp only[aR,aS,aP];rfl)
   case hq2=>exact fun _ _ _ h=>h
   case hy2=>(refine aT ⟨by rfl,?_⟩;intro w' hSw;(try dsimp only at hSw);(try go_simp);try with_reducible rfl)
   try simp only[aJ,aK,aH,aG]
   refine aQ (i:=3) (oi:=?oi3) (v:=?v3) ?hi3 (by kernel_rfl) (by kernel_rfl) (by kernel_rfl) ?hq3 ?hy3 (by assumption) ?_
   case hi3=>(simp only[aR,aS,aP];rfl)
   case hq3=>exact fun _ _ _ h=>h
   case hy3=>(refine aT ⟨by rfl,?_⟩;intro w' hSw;(try dsimp only at hSw);(try go_simp);try with_reducible rfl)
   try simp only[aJ,aK,aH,aG]
   refine aQ (i:=4) (oi:=?oi4) (v:=?v4) ?hi4 (by kernel_rfl) (by kernel_rfl) (by kernel_rfl) ?hq4 ?hy4 (by assumption) ?_
   case hi4=>(simp only[aR,aS,aP];rfl)
   case hq4=>exact fun _ _ _ h=>h
   case hy4=>(refine aT ⟨by rfl,?_⟩;intro w' hSw;(try dsimp only at hSw);(try go_simp);try with_reducible rfl)
   try simp only[aJ,aK,aH,aG]
   refine fL (rs:=[5]) (by kernel_rfl) (by simp) ?_;refine fA rfl (fun K hK=>?_) ?_
   rotate_left
   ·exact fM
   go_simp;refine(HDk.out _ z1 hHeld.2.2.1).mono ?_;rintro e w1 ⟨rfl,hg1,hS1⟩
   (try go_wp2_with fail)
   refine hK.out _ _ (sA.keep hHeld hnx hg1) (fun hHeld2=>?_);clear hK K
   try simp only[aJ,aK,aH,aG]
   refine fL (rs:=[6]) (by kernel_rfl) (by simp) ?_;refine fA rfl (fun K hK=>?_) ?_
   rotate_left
   ·exact fM
   go_simp;refine(HYk.out _).mono ?_;rintro e w2 ⟨rfl,rfl⟩
   (try go_wp2_with fail)
   refine hK.out _ _ hHeld2 (fun hHeld3=>?_);clear hK K
   try simp only[aJ,aK,aH,aG]
   refine aQ (i:=7) (oi:=?oi7) (v:=?v7) ?hi7 (by kernel_rfl) (by kernel_rfl) (by kernel_rfl) ?hq7 ?hy7 (by assumption) ?_
   case hi7=>(simp only[aR,aS,aP];rfl)
   case hq7=>exact fun _ _ _ h=>h
   case hy7=>(refine aT ⟨by rfl,?_⟩;intro w' hSw;(try dsimp only at hSw);(try go_simp);try with_reducible rfl)
   try simp only[aJ,aK,aH,aG]
   refine pY (by kernel_rfl) ?_ _;obtain⟨_,_,hgN,_⟩:=hHeld2
   by_cases hx0:xE=0
   ·have HSN:=hid (hS1 hx0);have t1:(xE != 0)=false:=by simp[hx0]
    clear hHeld3 hHeld hS1 z0 z1 c1 c2;go_wp2_with fail;have hg:=HG.out
    go_roundg (5-(k+1))
    case measure=>omega
    case rel=>
     refine⟨k+1,by omega,rfl,by go_num,HSN.out,hgN,hid (fun j hj=>?_)⟩;rcases Nat.lt_succ_iff_lt_or_eq.1 hj with q|rfl
     ·exact HJ.out j q
     ·rw[<-HXE.out];exact hx0
   ·have t1:(xE != 0)=true:=by simpa using hx0
    clear hHeld3 hHeld hS1 z0 z1 c1 c2;go_wp2_with fail;go_ret;rw[HXE.out];exact aMq hgN hlt (by rw[<-HXE.out];exact hx0) HJ.out
  ·go_wp2_with fail;go_ret;exact aMr hgr (fun j hj=>HJ.out j (by omega)) (by(obtain rfl:k=5:=(by omega));exact hSk)
end Go.Proofs.YtjkjeamepgjicaaGreatDoor

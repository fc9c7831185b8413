/-
  What the statements SqueezeTells and SqueezeKeeps share: a squeezed text in which one thing is another one.
-/
import Derived.Test.YthjmpiekjfnoiaaGreatDoorZ7
import Derived.ChangeSlices
namespace Go.Proofs.YthjmpiekjfnoiaaGreatDoor
open Go.RowKit Go.Shelf

theorem stepAppL {ops : Array Oper} {o : Oper} {a : Act} {K : Act → World → Prop} {Q : Exit → Act → World → Prop} {E : Prop} {w : World} (hgd : o.guard = none) (s x : Operand)
    (ho : o.op = .call { callee := .builtin .append, args := #[s, x], argTypes := #[23, 23] }) (base : Nat) (v : Value) (l : List Int) (hs : a.eval s = v) (hown : OwI w base v l)
    (sv : Value) (m : List Int) (hx : a.eval x = sv) (hsrc : SrcI w sv m) (hroom : (l.length + m.length) * 8 ≤ 140737488355328) (hbase : base ≤ w.heap.size)
    (h : ∀ v' w', OwI w' base v' (l ++ m) → Below base w w' → w.grownBy w' v.ownBlock → K (a.put o.dst v') w') : if Region.wanted o (yielded ops a.tmps) = true then Oper.wp Tryz.prog o a w K Q else E := by
  have hw : Region.wanted o (yielded ops a.tmps) = true := by simp [Region.wanted, hgd]
  rw [if_pos hw]
  obtain ⟨v', w', hr, q1, q2, q3⟩ := run_appL o.type base v l hown sv m hsrc hroom hbase
  unfold Oper.wp execOp
  simp only [ho, resolve, invoke, builtin, Sem.run_bind, Sem.run_pure, Result.andThen_ok, List.map_toArray, List.map_cons, List.map_nil, hs, hx, hr]
  exact h v' w' q1 q2 q3

theorem refSq_own (s : ByteArray) (w : World) (hs : s.size ≤ 65536) :
    Calls Tryz.prog 12 #[.string s] w fun e w' => ∃ v, e = .returned (.tuple #[.agg #[.string (sqA s), .int .i64 (sqO s), v], .int .i64 (sqE s)]) ∧ OwI w' w.heap.size v (sqS s) ∧ Below w.heap.size w w' ∧ (0 < s.size → OrdS s) := by
  rcases Nat.eq_zero_or_pos s.size with h0 | h0
  · have e1 : sqA s = emptyS := if_pos h0
    have e2 : sqO s = 0 := if_pos h0
    have e3 : sqS s = [] := if_pos h0
    have e4 : sqE s = 1 := if_pos h0
    rw [e1, e2, e3, e4]
    have := size_zero h0
    subst this
    refine (refSqueeze_nil w).mono ?_
    rintro e w' ⟨rfl, hb⟩
    exact ⟨_, rfl, OwI.nil _ _, hb, fun h => absurd h (by omega)⟩
  · have hn : ¬ s.size = 0 := by omega
    refine (refSqueeze_any s w h0 hs).mono ?_
    rintro e w' ⟨o, v, hO, rfl, hown, hb⟩
    obtain ⟨q1, q2⟩ := symL_of hO
    have e1 : sqA s = mkS (alph s.data.toList) := if_neg hn
    have e2 : sqO s = ((origTo (oOf s) s.size : Nat) : Int) := if_neg hn
    have e3 : sqS s = symL s (oOf s) := if_neg hn
    have e4 : sqE s = 0 := if_neg hn
    rw [e1, e2, e3, e4, ← q1, ← q2]
    exact ⟨v, rfl, hown, hb, fun _ => ordS_of hO⟩

theorem OwI.setNe {w : World} {B g : Nat} {v : Value} {l : List Int} (h : OwI w B v l) (hne : ∀ k, v.ownBlock = some k → k ≠ g) (i : Nat) (x : Value) : OwI (w.setCell ⟨g, i, none⟩ x) B v l := by
  refine Ow.kept h (bSetG (grownRefl _ _) i x) ?_
  cases e : v.ownBlock with
  | none => exact .inl rfl
  | some k => exact .inr (fun q => hne k e (by injection q))
theorem OwI.lt {w : World} {B : Nat} {v : Value} {l : List Int} (h : OwI w B v l) : ∀ k, v.ownBlock = some k → B ≤ k ∧ k < w.heap.size := Ow.lt h

theorem OwI.takeN {w : World} {B c m : Nat} {a : Option Addr} {l : List Int} (h : OwI w B (.slice a l.length c) l) (hm : m ≤ l.length) : OwI w B (.slice a m c) (l.take m) := by
  have hlt : (l.take m).length = m := by rw [List.length_take]; omega
  refine ⟨by simp, ?_⟩
  rw [List.length_map, hlt]
  rcases h.2 with ⟨e, _⟩ | ⟨g, cap, cur, e, hB, hg, hnc, hcm, hcs, ht⟩
  · injection e with e1 e2 e3
    have : m = 0 := by omega
    subst this; subst e1; subst e3
    exact .inl ⟨rfl, rfl⟩
  · rw [List.length_map] at e hnc ht
    injection e with e1 e2 e3
    subst e3
    refine .inr ⟨g, c, cur, by rw [e1], hB, hg, by omega, hcm, hcs, ?_⟩
    rw [List.map_take, ← ht, List.take_take]
    congr 1; omega
theorem OwI.ne_arr {w : World} {B g : Nat} {v : Value} {l : List Int} {cs : List Value} (h : OwI w B v l) (hA : Arr w g 25 cs) : ∀ k, v.ownBlock = some k → k ≠ g := by
  intro k hk e
  subst e
  rcases h.2 with ⟨e, _⟩ | ⟨g', cap, cur, e, _, hg, _⟩
  · rw [e] at hk; simp [Value.ownBlock] at hk
  · rw [e] at hk
    simp [Value.ownBlock] at hk
    subst hk
    unfold Arr at hA
    rw [hg] at hA
    injection hA with hA
    injection hA with _ h2 _
    exact absurd h2 (by decide)

theorem OwI.at {w : World} {B c : Nat} {a : Option Addr} {l : List Int} (h : OwI w B (.slice a l.length c) l) (h0 : 0 < l.length) : ∃ b, a = some ⟨b, 0, none⟩ ∧ B ≤ b ∧ b < w.heap.size ∧ ∀ k, k < l.length → (∃ u, w.cell? ⟨b, k, none⟩ = some u) ∧ w.frozen? ⟨b, k, none⟩ = false ∧ ∀ y, OwI (w.setCell ⟨b, k, none⟩ (.int .i64 y)) B (.slice a l.length c) (l.set k y) := by
  rcases h.2 with ⟨e, _⟩ | ⟨g, cap, cur, e, hB, hg, hnc, hcm, hcs, ht⟩
  · injection e with _ e2 _; omega
  · rw [List.length_map] at e hnc ht
    injection e with e1 e2 e3
    subst e1
    subst e3
    refine ⟨g, rfl, hB, (Array.getElem?_eq_some_iff.1 hg).1, fun k hk => ⟨?_, frozen_of_row w g k cur _ hg, fun y => ?_⟩⟩
    · have hkc : k < cur.size := by omega
      exact ⟨cur[k], by rw [cell_of_row w g k cur _ (0, 0) hg, Array.getElem?_eq_getElem hkc]⟩
    · refine ⟨by simp, .inr ⟨g, c, cur.setIfInBounds k (.int .i64 y), by simp, hB, ?_, by simpa using hnc, hcm, by simpa using hcs, ?_⟩⟩
      · rw [heap_setCell_same w g k cur _ _ hg]
      · rw [List.length_map, List.length_set, Array.toList_setIfInBounds, List.take_set, ht, List.map_set]

/-- The result: a squeezed text, in memory of the call's own. -/
def SqOut (w : World) (ma ml : Nat) (e : Ending) (w' : World) : Prop :=
  ∃ (a : ByteArray) (o : Int) (v : Value) (l : List Int), e = .returned (.agg #[.string a, .int .i64 o, v]) ∧ a.size ≤ ma ∧ (-9223372036854775808 ≤ o ∧ o ≤ 9223372036854775807) ∧ l.length ≤ ml ∧ RdI w' v l ∧ Below w.heap.size w w'

theorem tdiv8 {x : Int} (h1 : -9223372036854775808 ≤ x) (h2 : x ≤ 9223372036854775807) : -9223372036854775808 ≤ x.tdiv 8 ∧ x.tdiv 8 ≤ 9223372036854775807 := by
  rcases Int.lt_or_le x 0 with h | h
  · have e : x.tdiv 8 = -((-x).tdiv 8) := by rw [Int.neg_tdiv, Int.neg_neg]
    rw [e, Int.tdiv_eq_ediv_of_nonneg (by omega)]; omega
  · rw [Int.tdiv_eq_ediv_of_nonneg h]; omega

/-- What the first region reads. -/
abbrev TnS (W : World) (qb : Nat) (a : ByteArray) (o : Int) (v : Value) (w' : World) : Prop :=
  w'.cell? ⟨qb, 0, none⟩ = some (.string a) ∧ w'.cell? ⟨qb, 1, none⟩ = some (.int .i64 o) ∧ w'.cell? ⟨qb, 2, none⟩ = some v ∧ Below W.heap.size W w'
theorem TnS.keep {W w w' : World} {qb : Nat} {a : ByteArray} {o : Int} {v : Value} (h : TnS W qb a o v w) (hq : qb < W.heap.size) (hb : Below W.heap.size w w') : TnS W qb a o v w' := by
  obtain ⟨h1, h2, h3, h4⟩ := h
  refine ⟨?_, ?_, ?_, h4.trans hb⟩
  · rw [hb.cell (p := ⟨qb, 0, none⟩) hq]; exact h1
  · rw [hb.cell (p := ⟨qb, 1, none⟩) hq]; exact h2
  · rw [hb.cell (p := ⟨qb, 2, none⟩) hq]; exact h3
theorem TnS.drew {W w : World} {qb : Nat} {a : ByteArray} {o : Int} {v : Value} (h : TnS W qb a o v w) : TnS W qb a o v w.drew := ⟨h.1, h.2.1, h.2.2.1, h.2.2.2.drew⟩

set_option maxRecDepth 100000 in
set_option maxHeartbeats 8000000 in
theorem turned_any (a : ByteArray) (o : Int) (v : Value) (l : List Int) (which x : Int) (w : World) (ha : a.size ≤ 256) (ho1 : -9223372036854775808 ≤ o) (ho2 : o ≤ 9223372036854775807) (hv : SrcI w v l) (hl : l.length ≤ 1000) (hw1 : -9223372036854775808 ≤ which) (hw2 : which ≤ 9223372036854775807) (hx1 : -9223372036854775808 ≤ x) (hx2 : x ≤ 9223372036854775807) :
    Calls Tryz.prog 14 #[.agg #[.string a, .int .i64 o, v], .int .i64 which, .int .i64 x] w (SqOut w 257 1001) := by
  have hv1 : v.oneCell' = true := by
    rcases hv with ⟨rfl, _⟩ | ⟨b, off, cap, rfl, _⟩ <;> rfl
  go_enter Tryz.func14, Tryz.ntmps14
  go_upto_region 1 with fail
  have hA1 := Arr.new w 25 [.string a, .int .i64 o, v]
  have hB2 : Below w.heap.size w ((w.alloc (.cells #[.string a, .int .i64 o, v] 25)).alloc (.cells #[.string { data := #[] }, .int .i64 0, .slice none 0 0] 25)) := belA (belA (Below.refl _ _) _) _
  have hA2 := hA1.alloc (.cells #[.string { data := #[] }, .int .i64 0, .slice none 0 0] 25)
  have hR2 := Arr.new (w.alloc (.cells #[.string a, .int .i64 o, v] 25)) 25 [.string { data := #[] }, .int .i64 0, .slice none 0 0]
  rw [show (w.alloc (.cells #[.string a, .int .i64 o, v] 25)).heap.size = w.heap.size + 1 by simp] at hR2
  change Arr ((w.alloc (.cells #[.string a, .int .i64 o, v] 25)).alloc (.cells #[.string { data := #[] }, .int .i64 0, .slice none 0 0] 25)) _ _ _ at hA2
  change Arr ((w.alloc (.cells #[.string a, .int .i64 o, v] 25)).alloc (.cells #[.string { data := #[] }, .int .i64 0, .slice none 0 0] 25)) _ _ _ at hR2
  have hv2 := hv.below hB2
  clear hA1
  generalize (w.alloc (.cells #[.string a, .int .i64 o, v] 25)).alloc (.cells #[.string { data := #[] }, .int .i64 0, .slice none 0 0] 25) = w2 at *
  have hqb := hA2.lt
  have hrb := hR2.lt
  go_cut [7] (fun s7 wx => ∃ g v', s7 = .pointer (some ⟨g, 0, none⟩) ∧ Arr wx g 25 [.string a, .int .i64 o, v'] ∧ OwI wx w2.heap.size v' l ∧ (∀ k, v'.ownBlock = some k → k ≠ g) ∧ Below w2.heap.size w2 wx ∧ w2.heap.size ≤ g)
  case first =>
    have z0 : TnS w2 w.heap.size a o v w2 := ⟨hA2.cell (i := 0) rfl, hA2.cell (i := 1) rfl, hA2.cell (i := 2) rfl, Below.refl _ _⟩
    refine wp_region_held_drew (S := (fun w' => w'.cell? ⟨w.heap.size, 0, none⟩ = some (.string a) ∧ w'.cell? ⟨w.heap.size, 1, none⟩ = some (.int .i64 o) ∧ w'.cell? ⟨w.heap.size, 2, none⟩ = some v ∧ Below w2.heap.size w2 w')) (by kernel_rfl) (TnS.drew z0) (fun hHeld => ?_)
    refine wpAnyH_take (i := 0) (oi := ?oi0) (v := ?v0) ?hi0 (by kernel_rfl) (by kernel_rfl) (by kernel_rfl) ?hq0 ?hy0 (by assumption) ?_
    case hi0 => (simp only [List.getElem?_toArray, List.getElem?_cons_zero]; rfl)
    case hq0 => exact fun _ _ _ h => h
    case hy0 => (refine Or.inl ⟨by rfl, ?_⟩; intro w' hSw; (try dsimp only at hSw); (try go_simp); try with_reducible rfl)
    try simp only [Act.put, List.setIfInBounds_toArray, List.set_cons_zero, List.set_cons_succ]
    refine wpAnyH_take (i := 1) (oi := ?oi1) (v := ?v1) ?hi1 (by kernel_rfl) (by kernel_rfl) (by kernel_rfl) ?hq1 ?hy1 (by assumption) ?_
    case hi1 => (simp only [List.getElem?_toArray, List.getElem?_cons_succ, List.getElem?_cons_zero]; rfl)
    case hq1 => exact fun _ _ _ h => h
    case hy1 => (refine Or.inl ⟨by rfl, ?_⟩; intro w' hSw; (try dsimp only at hSw); (try go_simp); try with_reducible rfl)
    try simp only [Act.put, List.setIfInBounds_toArray, List.set_cons_zero, List.set_cons_succ]
    refine wpAnyH_take (i := 2) (oi := ?oi2) (v := ?v2) ?hi2 (by kernel_rfl) (by kernel_rfl) (by kernel_rfl) ?hq2 ?hy2 (by assumption) ?_
    case hi2 => (simp only [List.getElem?_toArray, List.getElem?_cons_succ, List.getElem?_cons_zero]; rfl)
    case hq2 => exact fun _ _ _ h => h
    case hy2 => (refine Or.inl ⟨by rfl, ?_⟩; intro w' hSw; (try dsimp only at hSw); (try go_simp); try with_reducible rfl)
    try simp only [Act.put, List.setIfInBounds_toArray, List.set_cons_zero, List.set_cons_succ]
    refine wpAnyH_take (i := 3) (oi := ?oi3) (v := ?v3) ?hi3 (by kernel_rfl) (by kernel_rfl) (by kernel_rfl) ?hq3 ?hy3 (by assumption) ?_
    case hi3 => (simp only [List.getElem?_toArray, List.getElem?_cons_succ, List.getElem?_cons_zero]; rfl)
    case hq3 => exact fun _ _ _ h => h
    case hy3 => (refine Or.inl ⟨by rfl, ?_⟩; intro w' hSw; (try dsimp only at hSw); (try go_simp); try with_reducible rfl)
    try simp only [Act.put, List.setIfInBounds_toArray, List.set_cons_zero, List.set_cons_succ]
    refine wpAnyH_take (i := 4) (oi := ?oi4) (v := ?v4) ?hi4 (by kernel_rfl) (by kernel_rfl) (by kernel_rfl) ?hq4 ?hy4 (by assumption) ?_
    case hi4 => (simp only [List.getElem?_toArray, List.getElem?_cons_succ, List.getElem?_cons_zero]; rfl)
    case hq4 => exact fun _ _ _ h => h
    case hy4 => (refine Or.inl ⟨by rfl, ?_⟩; intro w' hSw; (try dsimp only at hSw); (try go_simp); try with_reducible rfl)
    try simp only [Act.put, List.setIfInBounds_toArray, List.set_cons_zero, List.set_cons_succ]
    refine wpAnyH_take (i := 5) (oi := ?oi5) (v := ?v5) ?hi5 (by kernel_rfl) (by kernel_rfl) (by kernel_rfl) ?hq5 ?hy5 (by assumption) ?_
    case hi5 => (simp only [List.getElem?_toArray, List.getElem?_cons_succ, List.getElem?_cons_zero]; rfl)
    case hq5 => exact fun _ _ _ h => h
    case hy5 => (refine Or.inl ⟨by rfl, ?_⟩; intro w' hSw; (try dsimp only at hSw); (try go_simp); try with_reducible rfl)
    try simp only [Act.put, List.setIfInBounds_toArray, List.set_cons_zero, List.set_cons_succ]
    refine wpAnyH_ready (rs := [6, 8]) (by kernel_rfl) (by simp) ?_
    refine AllReadyH.cons rfl (fun K hK => ?_) (AllReadyH.cons rfl (fun K hK => ?_) AllReadyH.nil)
    · refine stepAppL rfl _ _ rfl w2.heap.size (.slice none 0 0) [] rfl (OwI.nil _ _) v l rfl (hv2.below (Below.refl _ _).drew) (by simp; omega) (Nat.le_refl _) (fun v3 w3 hown hB3 _ => ?_)
      rw [List.nil_append] at hown
      have hB3' : Below w2.heap.size w2 w3 := (Below.refl _ _).drew.trans hB3
      obtain ⟨a3, c3, e3, _, _, _⟩ := hown.rd.open
      subst e3
      refine hK.out _ _ (TnS.keep hHeld hqb hB3) (fun hHeld2 => ?_)
      clear hK K
      try simp only [Act.put, List.setIfInBounds_toArray]
      refine wpAnyH_take (i := 7) (oi := ?oi7) (v := ?v7) ?hi7 (by kernel_rfl) (by kernel_rfl) (by kernel_rfl) ?hq7 ?hy7 (by assumption) ?_
      case hi7 => (simp only [List.getElem?_toArray, List.getElem?_cons_succ, List.getElem?_cons_zero]; rfl)
      case hq7 => exact fun _ _ _ h => h
      case hy7 => (refine Or.inl ⟨by rfl, ?_⟩; intro w' hSw; (try dsimp only at hSw); (try go_simp); try with_reducible rfl)
      try simp only [Act.put]
      refine wpAnyH_ready (rs := [8]) (by kernel_rfl) (by simp) ?_
      refine AllReadyH.cons rfl (fun K hK => ?_) ?_
      rotate_left
      · exact AllReadyH.nil
      go_simp
      refine hK.out _ _ (TnS.keep hHeld2 hqb ((Below.refl _ _).alloc hB3'.size _)) (fun hHeld3 => ?_)
      clear hK K
      try simp only [Act.put, List.setIfInBounds_toArray, List.set_cons_zero, List.set_cons_succ]
      refine wpAnyH_ready (rs := [9]) (by kernel_rfl) (by simp) ?_
      refine AllReadyH.cons rfl (fun K hK => ?_) ?_
      rotate_left
      · exact AllReadyH.nil
      go_simp
      refine hK.out _ _ (TnS.keep hHeld2 hqb ((Below.refl _ _).alloc hB3'.size _)) (fun hHeld4 => ?_)
      clear hK K
      refine wpAnyH_done (by kernel_rfl) ?_ _
      go_wp2_with fail
      go_meet
      exact ⟨w3.heap.size, _, rfl, Arr.new w3 25 [.string a, .int .i64 o, .slice a3 l.length c3], hown.alloc _, fun k hk => by have := (hown.lt k hk).2; omega, belA hB3' _, hB3'.size⟩
    · go_simp
      have hBz : Below w2.heap.size w2 (w2.alloc (.cells #[.string { data := #[] }, .int .i64 0, .slice none 0 0] 25)).drew := (belA (Below.refl _ _) _).drew
      have hAz : Arr (w2.alloc (.cells #[.string { data := #[] }, .int .i64 0, .slice none 0 0] 25)).drew w2.heap.size 25 [.string { data := #[] }, .int .i64 0, .slice none 0 0] := Arr.new w2 25 [.string { data := #[] }, .int .i64 0, .slice none 0 0]
      refine hK.out _ _ (TnS.keep z0 hqb hBz) (fun hHeld2 => ?_)
      clear hK K
      try simp only [Act.put, List.setIfInBounds_toArray, List.set_cons_zero, List.set_cons_succ]
      refine wpAnyH_ready (rs := [6]) (by kernel_rfl) (by simp) ?_
      refine AllReadyH.cons rfl (fun K hK => ?_) AllReadyH.nil
      refine stepAppL rfl _ _ rfl (w2.heap.size + 1) (.slice none 0 0) [] rfl (OwI.nil _ _) v l rfl (hv2.below hBz) (by simp; omega) (by show w2.heap.size + 1 ≤ (w2.alloc _).heap.size; simp) (fun v3 w3 hown hB3 _ => ?_)
      rw [List.nil_append] at hown
      obtain ⟨a3, c3, e3, _, _, _⟩ := hown.rd.open
      subst e3
      have hB3' := hB3.mono (Nat.le_succ _)
      have hB4 := hBz.trans hB3'
      have hA3 := hAz.below hB3 (Nat.lt_succ_self _)
      have e0 := hA3.cell (i := 0) rfl
      have e1 := hA3.cell (i := 1) rfl
      have e2 := hA3.cell (i := 2) rfl
      have e3 := hA3.free
      refine hK.out _ _ (TnS.keep hHeld2 hqb hB3') (fun hHeld3 => ?_)
      clear hK K
      try simp only [Act.put, List.setIfInBounds_toArray]
      refine wpAnyH_take (i := 7) (oi := ?oib7) (v := ?vb7) ?hib7 (by kernel_rfl) (by kernel_rfl) (by kernel_rfl) ?hqb7 ?hyb7 (by assumption) ?_
      case hib7 => (simp only [List.getElem?_toArray, List.getElem?_cons_succ, List.getElem?_cons_zero]; rfl)
      case hqb7 => exact fun _ _ _ h => h
      case hyb7 => (refine Or.inl ⟨by rfl, ?_⟩; intro w' hSw; (try dsimp only at hSw); (try go_simp); try with_reducible rfl)
      try simp only [Act.put]
      refine wpAnyH_ready (rs := [9]) (by kernel_rfl) (by simp) ?_
      refine AllReadyH.cons rfl (fun K hK => ?_) ?_
      rotate_left
      · exact AllReadyH.nil
      go_simp
      have hB5 := (((Below.refl w2.heap.size w3).setCell (p := ⟨w2.heap.size, 0, none⟩) (Nat.le_refl _) (.string a)).setCell (p := ⟨w2.heap.size, 1, none⟩) (Nat.le_refl _) (.int .i64 o)).setCell (p := ⟨w2.heap.size, 2, none⟩) (Nat.le_refl _) (.slice a3 l.length c3)
      refine hK.out _ _ (TnS.keep hHeld3 hqb hB5) (fun hHeld4 => ?_)
      clear hK K
      refine wpAnyH_done (by kernel_rfl) ?_ _
      go_wp2_with fail
      go_meet
      have hne : ∀ k, (Value.slice a3 l.length c3).ownBlock = some k → k ≠ w2.heap.size := fun k hk => by have := (hown.lt k hk).1; omega
      exact ⟨w2.heap.size, _, rfl, ((hA3.set 0 (.string a)).set 1 (.int .i64 o)).set 2 (.slice a3 l.length c3), Ow.base (((hown.setNe hne 0 _).setNe hne 1 _).setNe hne 2 _) (Nat.le_succ _), hne, hB4.trans hB5, Nat.le_refl _⟩
  case rest =>
    obtain ⟨g, v3, rfl, hAg, hown, hne, hBx, hgl⟩ := hcut
    have hQc := hA2.below hBx hqb
    have hRc := hR2.below hBx hrb
    have hsz2 := hBx.size
    have hgr : g ≠ w.heap.size + 1 := by omega
    have hrg : w.heap.size + 1 ≠ g := by omega
    have hgq : g ≠ w.heap.size := by omega
    have hqg : w.heap.size ≠ g := by omega
    have hBw := hB2.trans (hBx.mono hB2.size)
    obtain ⟨a3, c3, rfl, hlc, hcm, _⟩ := hown.rd.open
    have hcm0 := hcm
    unfold maxLen at hcm
    have g0 := hAg.cell (i := 0) rfl
    have g1 := hAg.cell (i := 1) rfl
    have g2 := hAg.cell (i := 2) rfl
    have gf := hAg.free
    have q0 := hQc.cell (i := 0) rfl
    clear hA2 hR2 hv2 hv hv1
    obtain ⟨hp1, hp2⟩ := Pick_bd which 7 (by decide)
    obtain ⟨p, hp⟩ := Int.eq_ofNat_of_zero_le hp1
    have HQ := hid hp
    have hp7 : p = 0 ∨ p = 1 ∨ p = 2 ∨ p = 3 ∨ p = 4 ∨ p = 5 ∨ p = 6 := by omega
    clear hp hp1 hp2
    rcases hp7 with rfl | rfl | rfl | rfl | rfl | rfl | rfl
    · as_aux_lemma =>
        go_upto_region 16 with (go_at_call 17; refine (pick15_any _ _ _ hw1 hw2 (by decide) (by decide)).mono ?_; rintro e w' ⟨rfl, rfl⟩; rw [HQ.out])
        have xA : Arr (wc.setCell ⟨g, 1, none⟩ (.int .i64 x)) g 25 [.string a, .int .i64 x, (.slice a3 l.length c3)] := hAg.set 1 (.int .i64 x)
        have xR : Arr (wc.setCell ⟨g, 1, none⟩ (.int .i64 x)) (w.heap.size + 1) 25 [.string { data := #[] }, .int .i64 0, .slice none 0 0] := hRc.other ⟨g, 1, none⟩ hgr (.int .i64 x)
        have xO : OwI (wc.setCell ⟨g, 1, none⟩ (.int .i64 x)) w2.heap.size (.slice a3 l.length c3) l := hown.setNe hne 1 _
        have xB : Below w.heap.size w (wc.setCell ⟨g, 1, none⟩ (.int .i64 x)) := hBw.setCell (p := ⟨g, 1, none⟩) (by show w.heap.size ≤ g; omega) _
        clear g0 g1 g2 gf q0 hAg hQc hRc hown hBx hBw
        generalize wc.setCell ⟨g, 1, none⟩ (.int .i64 x) = wy at *
        have y0 := xA.cell (i := 0) rfl
        have y1 := xA.cell (i := 1) rfl
        have y2 := xA.cell (i := 2) rfl
        have r0 := xR.cell (i := 0) rfl
        have r1 := xR.cell (i := 1) rfl
        have r2 := xR.cell (i := 2) rfl
        have rf := xR.free
        go_wp2_with fail
        refine bodyPost_ret (results_cell_row rfl _ _ (w.heap.size + 1) _ _ (0, 0) _ rfl (((xR.set 0 _).set 1 _).set 2 _) Tryz.underlying25 rfl sqzInfo) rfl ?_
        exact ⟨_, _, _, _, rfl, by omega, ⟨hx1, hx2⟩, by omega, (((xO.setLow (p := ⟨w.heap.size + 1, 0, none⟩) (by show w.heap.size + 1 < w2.heap.size; exact hrb) _).setLow (p := ⟨w.heap.size + 1, 1, none⟩) (by show w.heap.size + 1 < w2.heap.size; exact hrb) _).setLow (p := ⟨w.heap.size + 1, 2, none⟩) (by show w.heap.size + 1 < w2.heap.size; exact hrb) _).rd, ((xB.setCell (p := ⟨w.heap.size + 1, 0, none⟩) (Nat.le_succ _) _).setCell (p := ⟨w.heap.size + 1, 1, none⟩) (Nat.le_succ _) _).setCell (p := ⟨w.heap.size + 1, 2, none⟩) (Nat.le_succ _) _⟩
    · as_aux_lemma =>
        go_upto_region 16 with (go_at_call 17; refine (pick15_any _ _ _ hw1 hw2 (by decide) (by decide)).mono ?_; rintro e w' ⟨rfl, rfl⟩; rw [HQ.out])
        have xA : Arr (wc.setCell ⟨g, 0, none⟩ (.string (a ++ { data := #[97] }))) g 25 [.string (a ++ { data := #[97] }), .int .i64 o, (.slice a3 l.length c3)] := hAg.set 0 (.string (a ++ { data := #[97] }))
        have xR : Arr (wc.setCell ⟨g, 0, none⟩ (.string (a ++ { data := #[97] }))) (w.heap.size + 1) 25 [.string { data := #[] }, .int .i64 0, .slice none 0 0] := hRc.other ⟨g, 0, none⟩ hgr (.string (a ++ { data := #[97] }))
        have xO : OwI (wc.setCell ⟨g, 0, none⟩ (.string (a ++ { data := #[97] }))) w2.heap.size (.slice a3 l.length c3) l := hown.setNe hne 0 _
        have xB : Below w.heap.size w (wc.setCell ⟨g, 0, none⟩ (.string (a ++ { data := #[97] }))) := hBw.setCell (p := ⟨g, 0, none⟩) (by show w.heap.size ≤ g; omega) _
        clear g0 g1 g2 gf q0 hAg hQc hRc hown hBx hBw
        generalize wc.setCell ⟨g, 0, none⟩ (.string (a ++ { data := #[97] })) = wy at *
        have y0 := xA.cell (i := 0) rfl
        have y1 := xA.cell (i := 1) rfl
        have y2 := xA.cell (i := 2) rfl
        have r0 := xR.cell (i := 0) rfl
        have r1 := xR.cell (i := 1) rfl
        have r2 := xR.cell (i := 2) rfl
        have rf := xR.free
        go_wp2_with fail
        refine bodyPost_ret (results_cell_row rfl _ _ (w.heap.size + 1) _ _ (0, 0) _ rfl (((xR.set 0 _).set 1 _).set 2 _) Tryz.underlying25 rfl sqzInfo) rfl ?_
        exact ⟨_, _, _, _, rfl, (by rw [ByteArray.size_append]; have : (ByteArray.mk #[97]).size = 1 := rfl; omega), ⟨ho1, ho2⟩, by omega, (((xO.setLow (p := ⟨w.heap.size + 1, 0, none⟩) (by show w.heap.size + 1 < w2.heap.size; exact hrb) _).setLow (p := ⟨w.heap.size + 1, 1, none⟩) (by show w.heap.size + 1 < w2.heap.size; exact hrb) _).setLow (p := ⟨w.heap.size + 1, 2, none⟩) (by show w.heap.size + 1 < w2.heap.size; exact hrb) _).rd, ((xB.setCell (p := ⟨w.heap.size + 1, 0, none⟩) (Nat.le_succ _) _).setCell (p := ⟨w.heap.size + 1, 1, none⟩) (Nat.le_succ _) _).setCell (p := ⟨w.heap.size + 1, 2, none⟩) (Nat.le_succ _) _⟩
    · as_aux_lemma =>
        by_cases h0 : l.length = 0
        · have t1 : decide ((0 : Int) < (l.length : Int)) = false := decide_eq_false (by omega)
          have t2 : decide (0 < l.length) = false := decide_eq_false (by omega)
          clear h0
          go_upto_region 16 with (go_at_call 17; refine (pick15_any _ _ _ hw1 hw2 (by decide) (by decide)).mono ?_; rintro e w' ⟨rfl, rfl⟩; rw [HQ.out])
          have xA : Arr (wc) g 25 [.string a, .int .i64 o, (.slice a3 l.length c3)] := hAg
          have xR : Arr (wc) (w.heap.size + 1) 25 [.string { data := #[] }, .int .i64 0, .slice none 0 0] := hRc
          have xO : OwI (wc) w2.heap.size (.slice a3 l.length c3) l := hown
          have xB : Below w.heap.size w (wc) := hBw
          have y0 := xA.cell (i := 0) rfl
          have y1 := xA.cell (i := 1) rfl
          have y2 := xA.cell (i := 2) rfl
          have r0 := xR.cell (i := 0) rfl
          have r1 := xR.cell (i := 1) rfl
          have r2 := xR.cell (i := 2) rfl
          have rf := xR.free
          go_wp2_with fail
          refine bodyPost_ret (results_cell_row rfl _ _ (w.heap.size + 1) _ _ (0, 0) _ rfl (((xR.set 0 _).set 1 _).set 2 _) Tryz.underlying25 rfl sqzInfo) rfl ?_
          exact ⟨_, _, _, _, rfl, by omega, ⟨ho1, ho2⟩, by omega, (((xO.setLow (p := ⟨w.heap.size + 1, 0, none⟩) (by show w.heap.size + 1 < w2.heap.size; exact hrb) _).setLow (p := ⟨w.heap.size + 1, 1, none⟩) (by show w.heap.size + 1 < w2.heap.size; exact hrb) _).setLow (p := ⟨w.heap.size + 1, 2, none⟩) (by show w.heap.size + 1 < w2.heap.size; exact hrb) _).rd, ((xB.setCell (p := ⟨w.heap.size + 1, 0, none⟩) (Nat.le_succ _) _).setCell (p := ⟨w.heap.size + 1, 1, none⟩) (Nat.le_succ _) _).setCell (p := ⟨w.heap.size + 1, 2, none⟩) (Nat.le_succ _) _⟩

        have h0p : 0 < l.length := by omega
        have t1 : decide ((0 : Int) < (l.length : Int)) = true := decide_eq_true (by omega)
        have t2 : decide (0 < l.length) = true := decide_eq_true h0p
        obtain ⟨k2, rfl, hk2, hkl, hat⟩ := hown.at h0p
        obtain ⟨hd1, hd2⟩ := tdiv8 hx1 hx2
        obtain ⟨hm1, hm2⟩ := Pick_bd (x.tdiv 8) (l.length : Int) (by omega)
        obtain ⟨ii, hi⟩ := Int.eq_ofNat_of_zero_le hm1
        have hil : ii < l.length := by omega
        obtain ⟨⟨u, cu⟩, fu, hset⟩ := hat ii hil
        obtain ⟨hj1, hj2⟩ := Pick_bd x 8 (by decide)
        obtain ⟨jj, hj⟩ := Int.eq_ofNat_of_zero_le hj1
        have hj8 : jj < 8 := by omega
        have HI := hid hi
        have HJ := hid hj
        have HO := hid hset
        have hkg : k2 ≠ g := hne k2 rfl
        have hkg2 : g ≠ k2 := fun e => hkg e.symm
        have hkr : k2 ≠ w.heap.size + 1 := by omega
        have n1 : IntKind.i64.wrap ((jj : Int) - 1) = (jj : Int) - 1 := by rw [IntKind.wrap_i64]; omega
        have n0 : IntKind.i64.wrap (x.tdiv 8) = x.tdiv 8 := by rw [IntKind.wrap_i64]; omega
        have n2 : (ii : Int) < (l.length : Int) := by omega
        have n3 : (0 : Int) ≤ (ii : Int) := by omega
        clear hi hj hm1 hm2 hj1 hj2 hat hset h0
        have sg : wc.drew.cell? ⟨g, 2, none⟩ = some (.slice (some ⟨k2, 0, none⟩) l.length c3) := g2
        go_upto_region 9 with (go_at_call 17; refine (pick15_any _ _ _ hw1 hw2 (by decide) (by decide)).mono ?_; rintro e w' ⟨rfl, rfl⟩; rw [HQ.out])
        refine wp_region_held_drew (S := (fun w' => w'.cell? ⟨g, 2, none⟩ = some (.slice (some ⟨k2, 0, none⟩) l.length c3))) (by kernel_rfl) sg (fun hHeld => ?_)
        refine wpAnyH_take (i := 0) (oi := ?oim0) (v := ?vm0) ?him0 (by kernel_rfl) (by kernel_rfl) (by kernel_rfl) ?hqm0 ?hym0 (by assumption) ?_
        case him0 => (simp only [List.getElem?_toArray, List.getElem?_cons_zero]; rfl)
        case hqm0 => exact fun _ _ _ h => h
        case hym0 => (refine Or.inl ⟨by rfl, ?_⟩; intro w' hSw; (try dsimp only at hSw); (try go_simp); try with_reducible rfl)
        try simp only [Act.put, List.setIfInBounds_toArray, List.set_cons_zero, List.set_cons_succ]
        refine wpAnyH_take (i := 1) (oi := ?oim1) (v := ?vm1) ?him1 (by kernel_rfl) (by kernel_rfl) (by kernel_rfl) ?hqm1 ?hym1 (by assumption) ?_
        case him1 => (simp only [List.getElem?_toArray, List.getElem?_cons_succ, List.getElem?_cons_zero]; rfl)
        case hqm1 => exact fun _ _ _ h => h
        case hym1 => (refine Or.inl ⟨by rfl, ?_⟩; intro w' hSw; (try dsimp only at hSw); (try go_simp); try with_reducible rfl)
        try simp only [Act.put, List.setIfInBounds_toArray, List.set_cons_zero, List.set_cons_succ]
        refine wpAnyH_take (i := 2) (oi := ?oim2) (v := ?vm2) ?him2 (by kernel_rfl) (by kernel_rfl) (by kernel_rfl) ?hqm2 ?hym2 (by assumption) ?_
        case him2 => (simp only [List.getElem?_toArray, List.getElem?_cons_succ, List.getElem?_cons_zero]; rfl)
        case hqm2 => exact fun _ _ _ h => h
        case hym2 => (refine Or.inl ⟨by rfl, ?_⟩; intro w' hSw; (try dsimp only at hSw); (try go_simp); try with_reducible rfl)
        try simp only [Act.put, List.setIfInBounds_toArray, List.set_cons_zero, List.set_cons_succ]
        refine wpAnyH_take (i := 3) (oi := ?oim3) (v := ?vm3) ?him3 (by kernel_rfl) (by kernel_rfl) (by kernel_rfl) ?hqm3 ?hym3 (by assumption) ?_
        case him3 => (simp only [List.getElem?_toArray, List.getElem?_cons_succ, List.getElem?_cons_zero]; rfl)
        case hqm3 => exact fun _ _ _ h => h
        case hym3 => (refine Or.inl ⟨by rfl, ?_⟩; intro w' hSw; (try dsimp only at hSw); (try go_simp); try with_reducible rfl)
        try simp only [Act.put, List.setIfInBounds_toArray, List.set_cons_zero, List.set_cons_succ]
        refine wpAnyH_take (i := 4) (oi := ?oim4) (v := ?vm4) ?him4 (by kernel_rfl) (by kernel_rfl) (by kernel_rfl) ?hqm4 ?hym4 (by assumption) ?_
        case him4 => (simp only [List.getElem?_toArray, List.getElem?_cons_succ, List.getElem?_cons_zero]; rfl)
        case hqm4 => exact fun _ _ _ h => h
        case hym4 => (refine Or.inl ⟨by rfl, ?_⟩; intro w' hSw; (try dsimp only at hSw); (try go_simp); try with_reducible rfl)
        try simp only [Act.put, List.setIfInBounds_toArray, List.set_cons_zero, List.set_cons_succ]
        refine wpAnyH_take (i := 5) (oi := ?oim5) (v := ?vm5) ?him5 (by kernel_rfl) (by kernel_rfl) (by kernel_rfl) ?hqm5 ?hym5 (by assumption) ?_
        case him5 => (simp only [List.getElem?_toArray, List.getElem?_cons_succ, List.getElem?_cons_zero]; rfl)
        case hqm5 => exact fun _ _ _ h => h
        case hym5 => (refine Or.inl ⟨by rfl, ?_⟩; intro w' hSw; (try dsimp only at hSw); (try go_simp); try with_reducible rfl)
        try simp only [Act.put, List.setIfInBounds_toArray, List.set_cons_zero, List.set_cons_succ]
        refine wpAnyH_take (i := 6) (oi := ?oim6) (v := ?vm6) ?him6 (by kernel_rfl) (by kernel_rfl) (by kernel_rfl) ?hqm6 ?hym6 (by assumption) ?_
        case him6 => (simp only [List.getElem?_toArray, List.getElem?_cons_succ, List.getElem?_cons_zero]; rfl)
        case hqm6 => exact fun _ _ _ h => h
        case hym6 => (refine Or.inl ⟨by rfl, ?_⟩; intro w' hSw; (try dsimp only at hSw); (try go_simp); try with_reducible rfl)
        try simp only [Act.put, List.setIfInBounds_toArray, List.set_cons_zero, List.set_cons_succ]
        refine wpAnyH_take (i := 8) (oi := ?oim8) (v := ?vm8) ?him8 (by kernel_rfl) (by kernel_rfl) (by kernel_rfl) ?hqm8 ?hym8 (by assumption) ?_
        case him8 => (simp only [List.getElem?_toArray, List.getElem?_cons_succ, List.getElem?_cons_zero]; rfl)
        case hqm8 => exact fun _ _ _ h => h
        case hym8 => (refine Or.inl ⟨by rfl, ?_⟩; intro w' hSw; (try dsimp only at hSw); (try go_simp); try with_reducible rfl)
        try simp only [Act.put, List.setIfInBounds_toArray, List.set_cons_zero, List.set_cons_succ]
        refine wpAnyH_ready (rs := [7]) (by kernel_rfl) (by simp) ?_
        refine AllReadyH.cons rfl (fun K hK => ?_) ?_
        rotate_left
        · exact AllReadyH.nil
        go_simp
        go_at_call 17
        (with_reducible refine (pick15_any _ _ _ hd1 hd2 (by omega) (by omega)).mono ?_)
        rintro e w' ⟨rfl, rfl⟩
        rw [HI.out]
        (try go_wp2_with fail)
        refine hK.out _ _ (by assumption) (fun hHeld => ?_)
        clear hK K
        try simp only [Act.put, List.setIfInBounds_toArray, List.set_cons_zero, List.set_cons_succ]
        refine wpAnyH_ready (rs := [9]) (by kernel_rfl) (by simp) ?_
        refine AllReadyH.cons rfl (fun K hK => ?_) ?_
        rotate_left
        · exact AllReadyH.nil
        go_simp
        go_at_call 17
        refine (pick15_any _ _ _ hx1 hx2 (by decide) (by decide)).mono ?_
        rintro e w' ⟨rfl, rfl⟩
        rw [HJ.out]
        (try go_wp2_with fail)
        refine hK.out _ _ (by assumption) (fun hHeld => ?_)
        clear hK K
        try simp only [Act.put, List.setIfInBounds_toArray, List.set_cons_zero, List.set_cons_succ]
        refine wpAnyH_take (i := 10) (oi := ?oin10) (v := ?vn10) ?hin10 (by kernel_rfl) (by kernel_rfl) (by kernel_rfl) ?hqn10 ?hyn10 (by assumption) ?_
        case hin10 => (simp only [List.getElem?_toArray, List.getElem?_cons_succ, List.getElem?_cons_zero]; rfl)
        case hqn10 => exact fun _ _ _ h => h
        case hyn10 => (refine Or.inl ⟨by rfl, ?_⟩; intro w' hSw; (try dsimp only at hSw); (try go_simp); try with_reducible rfl)
        try simp only [Act.put, List.setIfInBounds_toArray, List.set_cons_zero, List.set_cons_succ]
        refine wpAnyH_take (i := 11) (oi := ?oin11) (v := ?vn11) ?hin11 (by kernel_rfl) (by kernel_rfl) (by kernel_rfl) ?hqn11 ?hyn11 (by assumption) ?_
        case hin11 => (simp only [List.getElem?_toArray, List.getElem?_cons_succ, List.getElem?_cons_zero]; rfl)
        case hqn11 => exact fun _ _ _ h => h
        case hyn11 => (refine Or.inl ⟨by rfl, ?_⟩; intro w' hSw; (try dsimp only at hSw); (try go_simp); try with_reducible rfl)
        try simp only [Act.put, List.setIfInBounds_toArray, List.set_cons_zero, List.set_cons_succ]
        refine wpAnyH_ready (rs := [12]) (by kernel_rfl) (by simp) ?_
        refine AllReadyH.cons rfl (fun K hK => ?_) ?_
        rotate_left
        · exact AllReadyH.nil
        go_simp
        refine hK.out _ _ ((hAg.other ⟨k2, ii, none⟩ hkg (.int .i64 ((jj : Int) - 1))).cell (i := 2) rfl) (fun hHeld => ?_)
        clear hK K
        refine wpAnyH_done (by kernel_rfl) ?_ _
        go_upto_region 16 with fail
        have xA : Arr (wc.setCell ⟨k2, ii, none⟩ (.int .i64 ((jj : Int) - 1))).drew g 25 [.string a, .int .i64 o, .slice (some ⟨k2, 0, none⟩) l.length c3] := hAg.other ⟨k2, ii, none⟩ hkg (.int .i64 ((jj : Int) - 1))
        have xR : Arr (wc.setCell ⟨k2, ii, none⟩ (.int .i64 ((jj : Int) - 1))).drew (w.heap.size + 1) 25 [.string { data := #[] }, .int .i64 0, .slice none 0 0] := hRc.other ⟨k2, ii, none⟩ hkr (.int .i64 ((jj : Int) - 1))
        have xO : OwI (wc.setCell ⟨k2, ii, none⟩ (.int .i64 ((jj : Int) - 1))).drew w2.heap.size (.slice (some ⟨k2, 0, none⟩) l.length c3) (l.set ii ((jj : Int) - 1)) := HO.out _
        have xB : Below w.heap.size w (wc.setCell ⟨k2, ii, none⟩ (.int .i64 ((jj : Int) - 1))).drew := (hBw.setCell (p := ⟨k2, ii, none⟩) (by show w.heap.size ≤ k2; omega) _).drew
        clear g0 g1 g2 gf q0 hAg hQc hRc hown hBx hBw hHeld cu fu
        generalize (wc.setCell ⟨k2, ii, none⟩ (.int .i64 ((jj : Int) - 1))).drew = wy at *
        have y0 := xA.cell (i := 0) rfl
        have y1 := xA.cell (i := 1) rfl
        have y2 := xA.cell (i := 2) rfl
        have r0 := xR.cell (i := 0) rfl
        have r1 := xR.cell (i := 1) rfl
        have r2 := xR.cell (i := 2) rfl
        have rf := xR.free
        go_wp2_with fail
        refine bodyPost_ret (results_cell_row rfl _ _ (w.heap.size + 1) _ _ (0, 0) _ rfl (((xR.set 0 _).set 1 _).set 2 _) Tryz.underlying25 rfl sqzInfo) rfl ?_
        exact ⟨_, _, _, _, rfl, by omega, ⟨ho1, ho2⟩, (by rw [List.length_set]; omega), (((xO.setLow (p := ⟨w.heap.size + 1, 0, none⟩) (by show w.heap.size + 1 < w2.heap.size; exact hrb) _).setLow (p := ⟨w.heap.size + 1, 1, none⟩) (by show w.heap.size + 1 < w2.heap.size; exact hrb) _).setLow (p := ⟨w.heap.size + 1, 2, none⟩) (by show w.heap.size + 1 < w2.heap.size; exact hrb) _).rd, ((xB.setCell (p := ⟨w.heap.size + 1, 0, none⟩) (Nat.le_succ _) _).setCell (p := ⟨w.heap.size + 1, 1, none⟩) (Nat.le_succ _) _).setCell (p := ⟨w.heap.size + 1, 2, none⟩) (Nat.le_succ _) _⟩
    · as_aux_lemma =>
        obtain ⟨hm1, hm2⟩ := Pick_bd x ((l.length : Int) + 1) (by omega)
        obtain ⟨mm, hm⟩ := Int.eq_ofNat_of_zero_le hm1
        have HM := hid hm
        have m1 : mm ≤ l.length := by omega
        have m2 : mm ≤ c3 := by omega
        have m3 : (mm : Int) ≤ (c3 : Int) := by omega
        have m4 : (0 : Int) ≤ (mm : Int) := by omega
        have m5 : IntKind.i64.wrap ((l.length : Int) + 1) = (l.length : Int) + 1 := by rw [IntKind.wrap_i64]; omega
        clear hm hm1 hm2
        go_upto_region 11 with (go_at_call 17; refine (pick15_any _ _ _ hw1 hw2 (by decide) (by decide)).mono ?_; rintro e w' ⟨rfl, rfl⟩; rw [HQ.out])
        go_region_with (go_at_call 17; refine (pick15_any _ _ _ hx1 hx2 (by omega) (by omega)).mono ?_; rintro e w' ⟨rfl, rfl⟩; rw [HM.out])
        all_goals go_upto_region 16 with fail
        all_goals
          have xA : Arr ((wc.setCell ⟨g, 2, none⟩ (.slice a3 mm c3)).drew) g 25 [.string a, .int .i64 o, (.slice a3 mm c3)] := hAg.set 2 (.slice a3 mm c3)
          have xR : Arr ((wc.setCell ⟨g, 2, none⟩ (.slice a3 mm c3)).drew) (w.heap.size + 1) 25 [.string { data := #[] }, .int .i64 0, .slice none 0 0] := hRc.other ⟨g, 2, none⟩ hgr (.slice a3 mm c3)
          have xO : OwI ((wc.setCell ⟨g, 2, none⟩ (.slice a3 mm c3)).drew) w2.heap.size (.slice a3 mm c3) (l.take mm) := (hown.takeN m1).setNe (OwI.ne_arr (hown.takeN m1) hAg) 2 _
          have xB : Below w.heap.size w ((wc.setCell ⟨g, 2, none⟩ (.slice a3 mm c3)).drew) := (hBw.setCell (p := ⟨g, 2, none⟩) (by show w.heap.size ≤ g; omega) (.slice a3 mm c3)).drew
          clear g0 g1 g2 gf q0 hAg hQc hRc hown hBx hBw
          generalize ((wc.setCell ⟨g, 2, none⟩ (.slice a3 mm c3)).drew) = wy at *
          have y0 := xA.cell (i := 0) rfl
          have y1 := xA.cell (i := 1) rfl
          have y2 := xA.cell (i := 2) rfl
          have r0 := xR.cell (i := 0) rfl
          have r1 := xR.cell (i := 1) rfl
          have r2 := xR.cell (i := 2) rfl
          have rf := xR.free
          go_wp2_with fail
          refine bodyPost_ret (results_cell_row rfl _ _ (w.heap.size + 1) _ _ (0, 0) _ rfl (((xR.set 0 _).set 1 _).set 2 _) Tryz.underlying25 rfl sqzInfo) rfl ?_
          exact ⟨_, _, _, _, rfl, by omega, ⟨ho1, ho2⟩, (by rw [List.length_take]; omega), (((xO.setLow (p := ⟨w.heap.size + 1, 0, none⟩) (by show w.heap.size + 1 < w2.heap.size; exact hrb) _).setLow (p := ⟨w.heap.size + 1, 1, none⟩) (by show w.heap.size + 1 < w2.heap.size; exact hrb) _).setLow (p := ⟨w.heap.size + 1, 2, none⟩) (by show w.heap.size + 1 < w2.heap.size; exact hrb) _).rd, ((xB.setCell (p := ⟨w.heap.size + 1, 0, none⟩) (Nat.le_succ _) _).setCell (p := ⟨w.heap.size + 1, 1, none⟩) (Nat.le_succ _) _).setCell (p := ⟨w.heap.size + 1, 2, none⟩) (Nat.le_succ _) _⟩
    · as_aux_lemma =>
        obtain ⟨hm1, hm2⟩ := Pick_bd x ((a.size : Int) + 1) (by omega)
        obtain ⟨mm, hm⟩ := Int.eq_ofNat_of_zero_le hm1
        have HM := hid hm
        have m1 : mm ≤ a.size := by omega
        have m3 : (mm : Int) ≤ (a.size : Int) := by omega
        have m4 : (0 : Int) ≤ (mm : Int) := by omega
        have m5 : IntKind.i64.wrap ((a.size : Int) + 1) = (a.size : Int) + 1 := by rw [IntKind.wrap_i64]; omega
        clear hm hm1 hm2
        go_upto_region 13 with (go_at_call 17; refine (pick15_any _ _ _ hw1 hw2 (by decide) (by decide)).mono ?_; rintro e w' ⟨rfl, rfl⟩; rw [HQ.out])
        go_region_with (go_at_call 17; refine (pick15_any _ _ _ hx1 hx2 (by omega) (by omega)).mono ?_; rintro e w' ⟨rfl, rfl⟩; rw [HM.out])
        all_goals go_upto_region 16 with fail
        all_goals
          have xA : Arr ((wc.setCell ⟨g, 0, none⟩ (.string (a.extract 0 mm))).drew) g 25 [.string (a.extract 0 mm), .int .i64 o, (.slice a3 l.length c3)] := hAg.set 0 (.string (a.extract 0 mm))
          have xR : Arr ((wc.setCell ⟨g, 0, none⟩ (.string (a.extract 0 mm))).drew) (w.heap.size + 1) 25 [.string { data := #[] }, .int .i64 0, .slice none 0 0] := hRc.other ⟨g, 0, none⟩ hgr (.string (a.extract 0 mm))
          have xO : OwI ((wc.setCell ⟨g, 0, none⟩ (.string (a.extract 0 mm))).drew) w2.heap.size (.slice a3 l.length c3) l := hown.setNe hne 0 _
          have xB : Below w.heap.size w ((wc.setCell ⟨g, 0, none⟩ (.string (a.extract 0 mm))).drew) := (hBw.setCell (p := ⟨g, 0, none⟩) (by show w.heap.size ≤ g; omega) (.string (a.extract 0 mm))).drew
          clear g0 g1 g2 gf q0 hAg hQc hRc hown hBx hBw
          generalize ((wc.setCell ⟨g, 0, none⟩ (.string (a.extract 0 mm))).drew) = wy at *
          have y0 := xA.cell (i := 0) rfl
          have y1 := xA.cell (i := 1) rfl
          have y2 := xA.cell (i := 2) rfl
          have r0 := xR.cell (i := 0) rfl
          have r1 := xR.cell (i := 1) rfl
          have r2 := xR.cell (i := 2) rfl
          have rf := xR.free
          go_wp2_with fail
          refine bodyPost_ret (results_cell_row rfl _ _ (w.heap.size + 1) _ _ (0, 0) _ rfl (((xR.set 0 _).set 1 _).set 2 _) Tryz.underlying25 rfl sqzInfo) rfl ?_
          exact ⟨_, _, _, _, rfl, (by rw [ByteArray.size_extract]; omega), ⟨ho1, ho2⟩, by omega, (((xO.setLow (p := ⟨w.heap.size + 1, 0, none⟩) (by show w.heap.size + 1 < w2.heap.size; exact hrb) _).setLow (p := ⟨w.heap.size + 1, 1, none⟩) (by show w.heap.size + 1 < w2.heap.size; exact hrb) _).setLow (p := ⟨w.heap.size + 1, 2, none⟩) (by show w.heap.size + 1 < w2.heap.size; exact hrb) _).rd, ((xB.setCell (p := ⟨w.heap.size + 1, 0, none⟩) (Nat.le_succ _) _).setCell (p := ⟨w.heap.size + 1, 1, none⟩) (Nat.le_succ _) _).setCell (p := ⟨w.heap.size + 1, 2, none⟩) (Nat.le_succ _) _⟩
    · as_aux_lemma =>
        obtain ⟨hm1, hm2⟩ := Pick_bd x 6 (by decide)
        obtain ⟨jj, hm⟩ := Int.eq_ofNat_of_zero_le hm1
        have HM := hid hm
        clear hm hm1 hm2
        go_upto_region 15 with (go_at_call 17; refine (pick15_any _ _ _ hw1 hw2 (by decide) (by decide)).mono ?_; rintro e w' ⟨rfl, rfl⟩; rw [HQ.out])
        have sz0 : w2.heap.size ≤ wc.drew.heap.size := hBx.size
        have sz1 : w2.heap.size ≤ (wc.alloc (.cells #[.int .i64 (jj : Int)] 3)).drew.heap.size := by show w2.heap.size ≤ (wc.alloc _).heap.size; simp; omega
        have hownY : OwI (wc.alloc (.cells #[.int .i64 (jj : Int)] 3)).drew w2.heap.size (.slice a3 l.length c3) l := hown.alloc _
        have srcY : SrcI (wc.alloc (.cells #[.int .i64 (jj : Int)] 3)).drew (.slice (some ⟨wc.heap.size, 0, none⟩) 1 1) [(jj : Int)] := src_new wc _ _
        have sizY := sz1
        have arrY : Arr (wc.alloc (.cells #[.int .i64 (jj : Int)] 3)).drew g 25 _ := hAg.alloc _
        have g2Y := arrY.cell (i := 2) rfl
        have rarY : Arr (wc.alloc (.cells #[.int .i64 (jj : Int)] 3)).drew (w.heap.size + 1) 25 _ := hRc.alloc _
        have belY : Below w.heap.size w (wc.alloc (.cells #[.int .i64 (jj : Int)] 3)).drew := (belA hBw _).drew
        refine wp_region_held_drew (S := (fun w' => w2.heap.size ≤ w'.heap.size)) (by kernel_rfl) sz0 (fun hHeld => ?_)
        refine wpAnyH_take (i := 0) (oi := ?oif0) (v := ?vf0) ?hif0 (by kernel_rfl) (by kernel_rfl) (by kernel_rfl) ?hqf0 ?hyf0 (by assumption) ?_
        case hif0 => (simp only [List.getElem?_toArray, List.getElem?_cons_zero]; rfl)
        case hqf0 => exact fun _ _ _ h => h
        case hyf0 => (refine Or.inl ⟨by rfl, ?_⟩; intro w' hSw; (try dsimp only at hSw); (try go_simp); try with_reducible rfl)
        try simp only [Act.put, List.setIfInBounds_toArray, List.set_cons_zero, List.set_cons_succ]
        refine wpAnyH_take (i := 2) (oi := ?oif2) (v := ?vf2) ?hif2 (by kernel_rfl) (by kernel_rfl) (by kernel_rfl) ?hqf2 ?hyf2 (by assumption) ?_
        case hif2 => (simp only [List.getElem?_toArray, List.getElem?_cons_succ, List.getElem?_cons_zero]; rfl)
        case hqf2 => exact fun _ _ _ h => h
        case hyf2 => (refine Or.inl ⟨by rfl, ?_⟩; intro w' hSw; (try dsimp only at hSw); (try go_simp); try with_reducible rfl)
        try simp only [Act.put, List.setIfInBounds_toArray, List.set_cons_zero, List.set_cons_succ]
        refine wpAnyH_ready (rs := [1, 3]) (by kernel_rfl) (by simp) ?_
        refine AllReadyH.cons rfl (fun K hK => ?_) (AllReadyH.cons rfl (fun K hK => ?_) AllReadyH.nil)
        · go_simp
          refine hK.out _ _ (by assumption) (fun hHeld => ?_)
          clear hK K
          try simp only [Act.put, List.setIfInBounds_toArray, List.set_cons_zero, List.set_cons_succ]
          refine wpAnyH_ready (rs := [3]) (by kernel_rfl) (by simp) ?_
          refine AllReadyH.cons rfl (fun K hK => ?_) ?_
          rotate_left
          · exact AllReadyH.nil
          go_simp
          go_at_call 17
          refine (pick15_any _ _ _ hx1 hx2 (by decide) (by decide)).mono ?_
          rintro e w' ⟨rfl, rfl⟩
          rw [HM.out]
          (try go_wp2_with fail)
          refine hK.out _ _ (by assumption) (fun hHeld => ?_)
          clear hK K
          try simp only [Act.put, List.setIfInBounds_toArray, List.set_cons_zero, List.set_cons_succ]
          refine wpAnyH_ready (rs := [4]) (by kernel_rfl) (by simp) ?_
          refine AllReadyH.cons rfl (fun K hK => ?_) ?_
          rotate_left
          · exact AllReadyH.nil
          go_simp
          refine hK.out _ _ (by assumption) (fun hHeld => ?_)
          clear hK K
          try simp only [Act.put, List.setIfInBounds_toArray, List.set_cons_zero, List.set_cons_succ]
          refine wpAnyH_ready (rs := [5]) (by kernel_rfl) (by simp) ?_
          refine AllReadyH.cons rfl (fun K hK => ?_) ?_
          rotate_left
          · exact AllReadyH.nil
          refine stepAppL rfl _ _ rfl w2.heap.size (.slice a3 l.length c3) l rfl hownY _ [(jj : Int)] rfl srcY (by simp; omega) sizY (fun v5 w5 hown5 hB5 hg5 => ?_)
          have hll : (l ++ [(jj : Int)]).length = l.length + 1 := by simp
          obtain ⟨l5, hl5⟩ : ∃ l5, l5 = l ++ [(jj : Int)] := ⟨_, rfl⟩
          rw [← hl5] at hown5 hll
          have hl6 : l5.length ≤ 1001 := by omega
          clear hl5 hll
          obtain ⟨a5, c5, e5, _, _, _⟩ := hown5.rd.open
          subst e5
          have sz5 : w2.heap.size ≤ w5.heap.size := Nat.le_trans sizY hB5.size
          have hA5 := arrY.grown hg5 (fun e => (OwI.ne_arr hownY arrY) g e.symm rfl)
          have hR5 := rarY.below hB5 hrb
          have hW5 := belY.trans (hB5.mono (by omega))
          have hne5 := OwI.ne_arr hown5 hA5
          have f2 := hA5.cell (i := 2) rfl
          have ff := hA5.free
          refine hK.out _ _ sz5 (fun hHeld => ?_)
          clear hK K
          try simp only [Act.put, List.setIfInBounds_toArray]
          refine wpAnyH_take (i := 6) (oi := ?oig6) (v := ?vg6) ?hig6 (by kernel_rfl) (by kernel_rfl) (by kernel_rfl) ?hqg6 ?hyg6 (by assumption) ?_
          case hig6 => (simp only [List.getElem?_toArray, List.getElem?_cons_succ, List.getElem?_cons_zero]; rfl)
          case hqg6 => exact fun _ _ _ h => h
          case hyg6 => (refine Or.inl ⟨by rfl, ?_⟩; intro w' hSw; (try dsimp only at hSw); (try go_simp); try with_reducible rfl)
          try simp only [Act.put]
          refine wpAnyH_ready (rs := [7]) (by kernel_rfl) (by simp) ?_
          refine AllReadyH.cons rfl (fun K hK => ?_) ?_
          rotate_left
          · exact AllReadyH.nil
          go_simp
          refine hK.out _ _ (by show w2.heap.size ≤ (w5.setCell _ _).heap.size; simpa using sz5) (fun hHeld => ?_)
          clear hK K
          refine wpAnyH_done (by kernel_rfl) ?_ _
          go_upto_region 16 with fail
          have xA := hA5.set 2 (.slice a5 l5.length c5)
          have xR := hR5.other ⟨g, 2, none⟩ hgr (.slice a5 l5.length c5)
          have xO := hown5.setNe hne5 2 (.slice a5 l5.length c5)
          have xB := hW5.setCell (p := ⟨g, 2, none⟩) (by show w.heap.size ≤ g; omega) (.slice a5 l5.length c5)
          clear g0 g1 g2 gf q0 hAg hQc hRc hown hBx hBw f2 ff hA5 hR5 hW5 hown5 hne5 hownY srcY arrY rarY belY hg5 hB5 hHeld
          generalize w5.setCell ⟨g, 2, none⟩ (.slice a5 l5.length c5) = wy at *
          have y0 := xA.cell (i := 0) rfl
          have y1 := xA.cell (i := 1) rfl
          have y2 := xA.cell (i := 2) rfl
          have r0 := xR.cell (i := 0) rfl
          have r1 := xR.cell (i := 1) rfl
          have r2 := xR.cell (i := 2) rfl
          have rf := xR.free
          go_wp2_with fail
          refine bodyPost_ret (results_cell_row rfl _ _ (w.heap.size + 1) _ _ (0, 0) _ rfl (((xR.set 0 _).set 1 _).set 2 _) Tryz.underlying25 rfl sqzInfo) rfl ?_
          exact ⟨_, _, _, _, rfl, by omega, ⟨ho1, ho2⟩, by omega, (((xO.setLow (p := ⟨w.heap.size + 1, 0, none⟩) (by show w.heap.size + 1 < w2.heap.size; exact hrb) _).setLow (p := ⟨w.heap.size + 1, 1, none⟩) (by show w.heap.size + 1 < w2.heap.size; exact hrb) _).setLow (p := ⟨w.heap.size + 1, 2, none⟩) (by show w.heap.size + 1 < w2.heap.size; exact hrb) _).rd, ((xB.setCell (p := ⟨w.heap.size + 1, 0, none⟩) (Nat.le_succ _) _).setCell (p := ⟨w.heap.size + 1, 1, none⟩) (Nat.le_succ _) _).setCell (p := ⟨w.heap.size + 1, 2, none⟩) (Nat.le_succ _) _⟩
        · go_simp
          go_at_call 17
          refine (pick15_any _ _ _ hx1 hx2 (by decide) (by decide)).mono ?_
          rintro e w' ⟨rfl, rfl⟩
          rw [HM.out]
          (try go_wp2_with fail)
          refine hK.out _ _ (by assumption) (fun hHeld => ?_)
          clear hK K
          try simp only [Act.put, List.setIfInBounds_toArray, List.set_cons_zero, List.set_cons_succ]
          refine wpAnyH_ready (rs := [1, 4]) (by kernel_rfl) (by simp) ?_
          refine AllReadyH.cons rfl (fun K hK => ?_) (AllReadyH.cons rfl (fun K hK => ?_) AllReadyH.nil)
          · go_simp
            refine hK.out _ _ (by assumption) (fun hHeld => ?_)
            clear hK K
            try simp only [Act.put, List.setIfInBounds_toArray, List.set_cons_zero, List.set_cons_succ]
            refine wpAnyH_ready (rs := [4]) (by kernel_rfl) (by simp) ?_
            refine AllReadyH.cons rfl (fun K hK => ?_) ?_
            rotate_left
            · exact AllReadyH.nil
            go_simp
            refine hK.out _ _ (by assumption) (fun hHeld => ?_)
            clear hK K
            try simp only [Act.put, List.setIfInBounds_toArray, List.set_cons_zero, List.set_cons_succ]
            refine wpAnyH_ready (rs := [5]) (by kernel_rfl) (by simp) ?_
            refine AllReadyH.cons rfl (fun K hK => ?_) ?_
            rotate_left
            · exact AllReadyH.nil
            refine stepAppL rfl _ _ rfl w2.heap.size (.slice a3 l.length c3) l rfl hownY _ [(jj : Int)] rfl srcY (by simp; omega) sizY (fun v5 w5 hown5 hB5 hg5 => ?_)
            have hll : (l ++ [(jj : Int)]).length = l.length + 1 := by simp
            obtain ⟨l5, hl5⟩ : ∃ l5, l5 = l ++ [(jj : Int)] := ⟨_, rfl⟩
            rw [← hl5] at hown5 hll
            have hl6 : l5.length ≤ 1001 := by omega
            clear hl5 hll
            obtain ⟨a5, c5, e5, _, _, _⟩ := hown5.rd.open
            subst e5
            have sz5 : w2.heap.size ≤ w5.heap.size := Nat.le_trans sizY hB5.size
            have hA5 := arrY.grown hg5 (fun e => (OwI.ne_arr hownY arrY) g e.symm rfl)
            have hR5 := rarY.below hB5 hrb
            have hW5 := belY.trans (hB5.mono (by omega))
            have hne5 := OwI.ne_arr hown5 hA5
            have f2 := hA5.cell (i := 2) rfl
            have ff := hA5.free
            refine hK.out _ _ sz5 (fun hHeld => ?_)
            clear hK K
            try simp only [Act.put, List.setIfInBounds_toArray]
            refine wpAnyH_take (i := 6) (oi := ?oih6) (v := ?vh6) ?hih6 (by kernel_rfl) (by kernel_rfl) (by kernel_rfl) ?hqh6 ?hyh6 (by assumption) ?_
            case hih6 => (simp only [List.getElem?_toArray, List.getElem?_cons_succ, List.getElem?_cons_zero]; rfl)
            case hqh6 => exact fun _ _ _ h => h
            case hyh6 => (refine Or.inl ⟨by rfl, ?_⟩; intro w' hSw; (try dsimp only at hSw); (try go_simp); try with_reducible rfl)
            try simp only [Act.put]
            refine wpAnyH_ready (rs := [7]) (by kernel_rfl) (by simp) ?_
            refine AllReadyH.cons rfl (fun K hK => ?_) ?_
            rotate_left
            · exact AllReadyH.nil
            go_simp
            refine hK.out _ _ (by show w2.heap.size ≤ (w5.setCell _ _).heap.size; simpa using sz5) (fun hHeld => ?_)
            clear hK K
            refine wpAnyH_done (by kernel_rfl) ?_ _
            go_upto_region 16 with fail
            have xA := hA5.set 2 (.slice a5 l5.length c5)
            have xR := hR5.other ⟨g, 2, none⟩ hgr (.slice a5 l5.length c5)
            have xO := hown5.setNe hne5 2 (.slice a5 l5.length c5)
            have xB := hW5.setCell (p := ⟨g, 2, none⟩) (by show w.heap.size ≤ g; omega) (.slice a5 l5.length c5)
            clear g0 g1 g2 gf q0 hAg hQc hRc hown hBx hBw f2 ff hA5 hR5 hW5 hown5 hne5 hownY srcY arrY rarY belY hg5 hB5 hHeld
            generalize w5.setCell ⟨g, 2, none⟩ (.slice a5 l5.length c5) = wy at *
            have y0 := xA.cell (i := 0) rfl
            have y1 := xA.cell (i := 1) rfl
            have y2 := xA.cell (i := 2) rfl
            have r0 := xR.cell (i := 0) rfl
            have r1 := xR.cell (i := 1) rfl
            have r2 := xR.cell (i := 2) rfl
            have rf := xR.free
            go_wp2_with fail
            refine bodyPost_ret (results_cell_row rfl _ _ (w.heap.size + 1) _ _ (0, 0) _ rfl (((xR.set 0 _).set 1 _).set 2 _) Tryz.underlying25 rfl sqzInfo) rfl ?_
            exact ⟨_, _, _, _, rfl, by omega, ⟨ho1, ho2⟩, by omega, (((xO.setLow (p := ⟨w.heap.size + 1, 0, none⟩) (by show w.heap.size + 1 < w2.heap.size; exact hrb) _).setLow (p := ⟨w.heap.size + 1, 1, none⟩) (by show w.heap.size + 1 < w2.heap.size; exact hrb) _).setLow (p := ⟨w.heap.size + 1, 2, none⟩) (by show w.heap.size + 1 < w2.heap.size; exact hrb) _).rd, ((xB.setCell (p := ⟨w.heap.size + 1, 0, none⟩) (Nat.le_succ _) _).setCell (p := ⟨w.heap.size + 1, 1, none⟩) (Nat.le_succ _) _).setCell (p := ⟨w.heap.size + 1, 2, none⟩) (Nat.le_succ _) _⟩
          · go_simp
            refine hK.out _ _ (by assumption) (fun hHeld => ?_)
            clear hK K
            try simp only [Act.put, List.setIfInBounds_toArray, List.set_cons_zero, List.set_cons_succ]
            refine wpAnyH_ready (rs := [1]) (by kernel_rfl) (by simp) ?_
            refine AllReadyH.cons rfl (fun K hK => ?_) ?_
            rotate_left
            · exact AllReadyH.nil
            go_simp
            refine hK.out _ _ (by assumption) (fun hHeld => ?_)
            clear hK K
            try simp only [Act.put, List.setIfInBounds_toArray, List.set_cons_zero, List.set_cons_succ]
            refine wpAnyH_ready (rs := [5]) (by kernel_rfl) (by simp) ?_
            refine AllReadyH.cons rfl (fun K hK => ?_) ?_
            rotate_left
            · exact AllReadyH.nil
            refine stepAppL rfl _ _ rfl w2.heap.size (.slice a3 l.length c3) l rfl hownY _ [(jj : Int)] rfl srcY (by simp; omega) sizY (fun v5 w5 hown5 hB5 hg5 => ?_)
            have hll : (l ++ [(jj : Int)]).length = l.length + 1 := by simp
            obtain ⟨l5, hl5⟩ : ∃ l5, l5 = l ++ [(jj : Int)] := ⟨_, rfl⟩
            rw [← hl5] at hown5 hll
            have hl6 : l5.length ≤ 1001 := by omega
            clear hl5 hll
            obtain ⟨a5, c5, e5, _, _, _⟩ := hown5.rd.open
            subst e5
            have sz5 : w2.heap.size ≤ w5.heap.size := Nat.le_trans sizY hB5.size
            have hA5 := arrY.grown hg5 (fun e => (OwI.ne_arr hownY arrY) g e.symm rfl)
            have hR5 := rarY.below hB5 hrb
            have hW5 := belY.trans (hB5.mono (by omega))
            have hne5 := OwI.ne_arr hown5 hA5
            have f2 := hA5.cell (i := 2) rfl
            have ff := hA5.free
            refine hK.out _ _ sz5 (fun hHeld => ?_)
            clear hK K
            try simp only [Act.put, List.setIfInBounds_toArray]
            refine wpAnyH_take (i := 6) (oi := ?oik6) (v := ?vk6) ?hik6 (by kernel_rfl) (by kernel_rfl) (by kernel_rfl) ?hqk6 ?hyk6 (by assumption) ?_
            case hik6 => (simp only [List.getElem?_toArray, List.getElem?_cons_succ, List.getElem?_cons_zero]; rfl)
            case hqk6 => exact fun _ _ _ h => h
            case hyk6 => (refine Or.inl ⟨by rfl, ?_⟩; intro w' hSw; (try dsimp only at hSw); (try go_simp); try with_reducible rfl)
            try simp only [Act.put]
            refine wpAnyH_ready (rs := [7]) (by kernel_rfl) (by simp) ?_
            refine AllReadyH.cons rfl (fun K hK => ?_) ?_
            rotate_left
            · exact AllReadyH.nil
            go_simp
            refine hK.out _ _ (by show w2.heap.size ≤ (w5.setCell _ _).heap.size; simpa using sz5) (fun hHeld => ?_)
            clear hK K
            refine wpAnyH_done (by kernel_rfl) ?_ _
            go_upto_region 16 with fail
            have xA := hA5.set 2 (.slice a5 l5.length c5)
            have xR := hR5.other ⟨g, 2, none⟩ hgr (.slice a5 l5.length c5)
            have xO := hown5.setNe hne5 2 (.slice a5 l5.length c5)
            have xB := hW5.setCell (p := ⟨g, 2, none⟩) (by show w.heap.size ≤ g; omega) (.slice a5 l5.length c5)
            clear g0 g1 g2 gf q0 hAg hQc hRc hown hBx hBw f2 ff hA5 hR5 hW5 hown5 hne5 hownY srcY arrY rarY belY hg5 hB5 hHeld
            generalize w5.setCell ⟨g, 2, none⟩ (.slice a5 l5.length c5) = wy at *
            have y0 := xA.cell (i := 0) rfl
            have y1 := xA.cell (i := 1) rfl
            have y2 := xA.cell (i := 2) rfl
            have r0 := xR.cell (i := 0) rfl
            have r1 := xR.cell (i := 1) rfl
            have r2 := xR.cell (i := 2) rfl
            have rf := xR.free
            go_wp2_with fail
            refine bodyPost_ret (results_cell_row rfl _ _ (w.heap.size + 1) _ _ (0, 0) _ rfl (((xR.set 0 _).set 1 _).set 2 _) Tryz.underlying25 rfl sqzInfo) rfl ?_
            exact ⟨_, _, _, _, rfl, by omega, ⟨ho1, ho2⟩, by omega, (((xO.setLow (p := ⟨w.heap.size + 1, 0, none⟩) (by show w.heap.size + 1 < w2.heap.size; exact hrb) _).setLow (p := ⟨w.heap.size + 1, 1, none⟩) (by show w.heap.size + 1 < w2.heap.size; exact hrb) _).setLow (p := ⟨w.heap.size + 1, 2, none⟩) (by show w.heap.size + 1 < w2.heap.size; exact hrb) _).rd, ((xB.setCell (p := ⟨w.heap.size + 1, 0, none⟩) (Nat.le_succ _) _).setCell (p := ⟨w.heap.size + 1, 1, none⟩) (Nat.le_succ _) _).setCell (p := ⟨w.heap.size + 1, 2, none⟩) (Nat.le_succ _) _⟩
    · as_aux_lemma =>
        go_upto_region 16 with (go_at_call 17; refine (pick15_any _ _ _ hw1 hw2 (by decide) (by decide)).mono ?_; rintro e w' ⟨rfl, rfl⟩; rw [HQ.out])
        have xA : Arr (wc) g 25 [.string a, .int .i64 o, (.slice a3 l.length c3)] := hAg
        have xR : Arr (wc) (w.heap.size + 1) 25 [.string { data := #[] }, .int .i64 0, .slice none 0 0] := hRc
        have xO : OwI (wc) w2.heap.size (.slice a3 l.length c3) l := hown
        have xB : Below w.heap.size w (wc) := hBw
        have y0 := xA.cell (i := 0) rfl
        have y1 := xA.cell (i := 1) rfl
        have y2 := xA.cell (i := 2) rfl
        have r0 := xR.cell (i := 0) rfl
        have r1 := xR.cell (i := 1) rfl
        have r2 := xR.cell (i := 2) rfl
        have rf := xR.free
        go_wp2_with fail
        refine bodyPost_ret (results_cell_row rfl _ _ (w.heap.size + 1) _ _ (0, 0) _ rfl (((xR.set 0 _).set 1 _).set 2 _) Tryz.underlying25 rfl sqzInfo) rfl ?_
        exact ⟨_, _, _, _, rfl, by omega, ⟨ho1, ho2⟩, by omega, (((xO.setLow (p := ⟨w.heap.size + 1, 0, none⟩) (by show w.heap.size + 1 < w2.heap.size; exact hrb) _).setLow (p := ⟨w.heap.size + 1, 1, none⟩) (by show w.heap.size + 1 < w2.heap.size; exact hrb) _).setLow (p := ⟨w.heap.size + 1, 2, none⟩) (by show w.heap.size + 1 < w2.heap.size; exact hrb) _).rd, ((xB.setCell (p := ⟨w.heap.size + 1, 0, none⟩) (Nat.le_succ _) _).setCell (p := ⟨w.heap.size + 1, 1, none⟩) (Nat.le_succ _) _).setCell (p := ⟨w.heap.size + 1, 2, none⟩) (Nat.le_succ _) _⟩

end Go.Proofs.YthjmpiekjfnoiaaGreatDoor

/-
  The reading of a parameter of the type api.Squeezed.
-/
namespace Go.Proofs.YthjmpiekjfnoiaaGreatDoor
open Go.ChangeShapes Go.WideShapes Go.ChangeAt Go.RowKit Go.Joins

section
variable {H : Type} {enc : TypeId × Value → H} {w : World} {base : Nat} {held : Bool}
set_option maxRecDepth 100000 in
theorem card_sq {r : Reach} {b0 : Nat} {v : Value} {d : DataW H} {p : List MemPlace} (hv : Value.okWide Tryz.prog w r b0 25 v) (h : DataW.Trod enc Tryz.prog w base (fun _ => true) held 25 v d p)
    (hsz : (DataW.weights Tryz.prog 25 d).all (· ≤ reachBytes) = true) :
    ∃ (b : ByteArray) (o : Int) (u : Value) (m : List Int), v = .agg #[.string b, .int .i64 o, u] ∧ b.size ≤ 140737488355328 ∧ -9223372036854775808 ≤ o ∧ o ≤ 9223372036854775807 ∧ RdI w u m ∧ WfI m := by
  obtain ⟨v0, v1, v2, y0, y1, y2, n, rfl, hd, _, t0, t1, t2⟩ := open_agg3 Tryz.underlying25 (by kernel_rfl) (by kernel_rfl) hv h
  subst hd
  obtain ⟨o, q1, _, b1⟩ := DataW.trod_int Tryz.underlying3 t1
  obtain rfl : v1 = .int .i64 o := List.singleton_inj.1 q1
  obtain ⟨s, q0, hy0, _⟩ := DataW.trod_string Tryz.underlying9 t0
  obtain rfl : v0 = .string s := List.singleton_inj.1 q0
  have hs : s.data.toList.length ≤ reachBytes := by
    have := List.all_eq_true.1 hsz s.data.toList.length (by
      simp only [DataW.weights, Tryz.underlying25, hy0]
      simp [DataW.weightsEach, DataW.weights])
    simpa using this
  have hs' : s.size ≤ 140737488355328 := by
    have e : s.data.toList.length = s.size := by rw [Array.length_toList]; rfl
    rw [e] at hs
    exact Nat.le_trans hs (by decide)
  have key : ∃ m, RdI w v2 m ∧ WfI m := by
    rcases open_ints Tryz.underlying23 Tryz.underlying3 (by kernel_rfl) t2 with ⟨hc, _⟩ | ⟨a, len, cap, zs, hc, _, hl, hm, hz, _, hcell, hwf⟩
    · obtain rfl : v2 = .slice none 0 0 := List.singleton_inj.1 hc
      exact ⟨_, rdI_of_row (zs := []) (.inl ⟨rfl, rfl, rfl, rfl⟩)⟩
    · obtain rfl : v2 = .slice (some a) len cap := List.singleton_inj.1 hc
      exact ⟨_, rdI_of_row (zs := zs) (.inr ⟨a, rfl, hl, hm, by simpa using hz, hcell, hwf⟩)⟩
  obtain ⟨m, hm, hwf⟩ := key
  exact ⟨s, o, v2, m, rfl, hs', (card_i64 b1).1, (card_i64 b1).2, hm, hwf⟩

end

end Go.Proofs.YthjmpiekjfnoiaaGreatDoor

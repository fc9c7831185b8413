/-
  The walks of the document's archives (chapter 17): archives of raw numbers; of two indexes, whether they are the same.
-/
import Derived.Test.YtmcogmmncfihhaaGreatDoorP20fZ
import Derived.Test.YtmcogmmncfihhaaGreatDoorP20gZ
import Derived.Test.YtmcogmmncfihhaaGreatDoorZ23
set_option linter.unusedVariables false
set_option linter.unusedSimpArgs false
namespace Go.Proofs.YtmcogmmncfihhaaGreatDoor
open Go.RowKit Go Go.Shelf

/-- What a raw archive is: streams of texts that are blocks, at most two. -/
def ArcOf (a : ByteArray) : Prop := ∃ L, a = aYf L ∧ L ≠ [] ∧ okA L ∧ (aYn L).length ≤ 5 ∧ L.length ≤ 2
theorem allT_two (n m : Nat) (x : List ByteArray) (k : Nat) : aYn [(n, x.take k), (m, x.drop k)] = x := by
  unfold aYn
  rw [List.map_cons, List.map_cons, List.map_nil, List.flatten_cons, List.flatten_cons, List.flatten_nil, List.append_nil]
  exact List.take_append_drop k x
theorem arc_both {n m : Nat} {x : List ByteArray} {k : Nat} (hx : x.length ≤ 5) (oa : okA [(n, x.take k)]) (ob : okA [(m, x.drop k)]) : ArcOf (aYf [(n, x.take k)] ++ aYf [(m, x.drop k)]) :=
  ⟨[(n, x.take k)] ++ [(m, x.drop k)], aZa _ _, by simp, aZ5 oa ob, by rw [show [(n, x.take k)] ++ [(m, x.drop k)] = [(n, x.take k), (m, x.drop k)] from rfl, allT_two]; exact hx, by simp⟩
theorem arc_single {n : Nat} {x : List ByteArray} {k : Nat} (hx : x.length ≤ 5) (oa : okA [(n, x.take k)]) : ArcOf (aYf [(n, x.take k)]) :=
  ⟨[(n, x.take k)], rfl, by simp, oa, by unfold aYn; simp; omega, by simp⟩
/-- What an archive is in bytes. -/
theorem ArcOf.facts {a : ByteArray} (h : ArcOf a) : a.size ≤ 18000 ∧ (hH a.data.toList).2 = 0 ∧ (hH a.data.toList).1.length ≤ 5 := by
  obtain ⟨L, rfl, h1, h2, h3, h4⟩ := h
  have hs := aZ6 h2
  obtain ⟨k1, k2⟩ := aZ7 h1 h2
  unfold aUl at k1
  rw [if_pos k2] at k1
  have hl := congrArg List.length (aZv L 0)
  rw [List.length_map] at hl
  refine ⟨by omega, k2, ?_⟩
  rw [k1, hl]
  exact h3

set_option maxRecDepth 100000 in
set_option maxHeartbeats 3200000 in
theorem same19_any (u v : Value) (l m : List Ent) (w : World) (hu : RdR w u (l.map LF)) (hv : RdR w v (m.map LF)) (hl : l.length ≤ 1000000) (hm : m.length ≤ 1000000) :
    Calls Tryz.prog 14 #[u, v] w fun e w' => e = .returned (.bool (decide (l = m))) ∧ Below w.heap.size w w' := by
  obtain ⟨a, ca, rfl, hca, hma, hA⟩ := aWp hu
  obtain ⟨b, cb, rfl, hcb, hmb, hB⟩ := aWp hv
  unfold maxLen at hma hmb
  obtain ⟨R, hR⟩ : ∃ R : Bool, R = decide (l = m) := ⟨_, rfl⟩
  rw [← hR]
  have HR := hid hR
  clear hR hu hv
  by_cases hL : l.length = m.length
  rotate_left
  · obtain rfl : R = false := by rw [HR.out]; exact decide_eq_false (fun h => hL (by rw [h]))
    have t1 : ((l.length : Int) != (m.length : Int)) = true := bne_iff_ne.2 (by omega)
    go_enter Tryz.func14, Tryz.ntmps14
    go_wp2_with fail
    go_ret
    exact ⟨rfl, Below.refl _ _⟩
  have t0 : ((m.length : Int) != (m.length : Int)) = false := by simp
  rw [hL] at hA hca hl ⊢
  have HL := hid hL
  clear hL
  go_enter Tryz.func14, Tryz.ntmps14
  go_wp2_with fail
  clear t0
  go_loopg [5] m.length (fun g s5 wr => ∃ k : Nat, k ≤ m.length ∧ g = m.length - k ∧ s5 = .int .i64 (k : Int) ∧ Hid (l.take k = m.take k) ∧ Below w.heap.size w wr)
  case atStart => exact ⟨0, Nat.zero_le _, rfl, rfl, hid rfl, Below.refl _ _⟩
  case round =>
    obtain ⟨k, hk, hg, rfl, HT, hbel⟩ := hrel
    have HG := hid hg
    clear hg
    by_cases hlt : k < m.length
    · have t1 : decide ((k : Int) < (m.length : Int)) = true := decide_eq_true (by omega)
      obtain ⟨b1, o1, rfl, hb1, hc1⟩ := hA (by omega)
      obtain ⟨b2, o2, rfl, hb2, hc2⟩ := hB (by omega)
      have hltl : k < l.length := by rw [HL.out]; exact hlt
      obtain ⟨x, hx⟩ : ∃ x, l[k]? = some x := ⟨_, List.getElem?_eq_getElem hltl⟩
      obtain ⟨y, hy⟩ : ∃ y, m[k]? = some y := ⟨_, List.getElem?_eq_getElem hlt⟩
      obtain ⟨x0, x1, x2, x3, x4⟩ := hc1 k x hx
      obtain ⟨y0, y1, y2, y3, y4⟩ := hc2 k y hy
      have c0 := (hbel.cell (p := ⟨b1, o1 + k * 5, none⟩) hb1).trans x0
      have c1 := (hbel.cell (p := ⟨b1, o1 + k * 5 + 1, none⟩) hb1).trans x1
      have c2 := (hbel.cell (p := ⟨b1, o1 + k * 5 + 2, none⟩) hb1).trans x2
      have c3 := (hbel.cell (p := ⟨b1, o1 + k * 5 + 3, none⟩) hb1).trans x3
      have c4 := (hbel.cell (p := ⟨b1, o1 + k * 5 + 4, none⟩) hb1).trans x4
      have d0 := (hbel.cell (p := ⟨b2, o2 + k * 5, none⟩) hb2).trans y0
      have d1 := (hbel.cell (p := ⟨b2, o2 + k * 5 + 1, none⟩) hb2).trans y1
      have d2 := (hbel.cell (p := ⟨b2, o2 + k * 5 + 2, none⟩) hb2).trans y2
      have d3 := (hbel.cell (p := ⟨b2, o2 + k * 5 + 3, none⟩) hb2).trans y3
      have d4 := (hbel.cell (p := ⟨b2, o2 + k * 5 + 4, none⟩) hb2).trans y4
      have hq := fun W => eqE20 x y W
      obtain ⟨B, hB'⟩ : ∃ B : Bool, B = decide (x = y) := ⟨_, rfl⟩
      rw [← hB'] at hq
      have HBB := hid hB'
      have HX := hid hx
      have HY := hid hy
      obtain ⟨xa, xr, xf, xn, xy⟩ := x
      obtain ⟨ya, yr, yf, yn, yy⟩ := y
      dsimp only at c0 c1 c2 c3 c4 d0 d1 d2 d3 d4 hq
      clear x0 x1 x2 x3 x4 y0 y1 y2 y3 y4 hc1 hc2 hx hy hA hB hB'
      cases B with
      | true =>
        have HT2 := hid (show l.take (k + 1) = m.take (k + 1) by
          have e := of_decide_eq_true HBB.out.symm
          rw [List.take_add_one, List.take_add_one, HT.out, HX.out, HY.out, e])
        go_wp2_with fail
        go_quiet (fail)
        go_wp2_with fail
        have hg := HG.out
        go_roundg (m.length - (k + 1))
        case measure => omega
        case rel => exact ⟨k + 1, by omega, rfl, by go_num, HT2, below_drewN hbel _⟩
      | false =>
        obtain rfl : R = false := by
          rw [HR.out]
          refine decide_eq_false (fun h => of_decide_eq_false HBB.out.symm ?_)
          have h1 := HX.out
          rw [h, HY.out] at h1
          exact (Option.some.inj h1).symm
        go_wp2_with fail
        go_quiet (fail)
        go_wp2_with fail
        go_ret
        exact ⟨rfl, below_drewN hbel _⟩
    · have t1 : decide ((k : Int) < (m.length : Int)) = false := decide_eq_false (by omega)
      obtain rfl : R = true := by
        rw [HR.out]
        refine decide_eq_true ?_
        have h := HT.out
        rwa [List.take_of_length_le (by rw [HL.out]; omega), List.take_of_length_le (by omega)] at h
      go_wp2_with fail
      go_ret
      exact ⟨rfl, hbel⟩

set_option maxRecDepth 100000 in
set_option maxHeartbeats 6400000 in
theorem archive_any (s : ByteArray) (v : Value) (raw : List (Int × Int)) (level many : Int) (w : World) (hr : RdP w v raw) (hwf : WfP raw) (hl1 : -9223372036854775808 ≤ level) (hl2 : level ≤ 9223372036854775807) (ho1 : -9223372036854775808 ≤ many) (ho2 : many ≤ 9223372036854775807) :
    Calls Tryz.prog 8 #[.string s, v, .int .i64 level, .int .i64 many] w fun e w' => ∃ a, e = .returned (.string a) ∧ ArcOf a ∧ Below w.heap.size w w' := by
  obtain ⟨qa, Ra, ra1, ra2, ma, ma', pka⟩ := bAa level hl1 hl2
  obtain ⟨D, hD⟩ : ∃ D, D = level.tdiv 9 := ⟨_, rfl⟩
  have hDt := bAb level 9 (by decide) hl1 hl2
  rw [show ((9 : Nat) : Int) = 9 from rfl, ← hD] at hDt
  have hDb : -9223372036854775808 ≤ D ∧ D ≤ 9223372036854775807 := ⟨hDt.1, hDt.2.1⟩
  have mD := hDt.2.2
  clear hDt
  obtain ⟨qb, Rb, rb1, rb2, mb, mb', pkb⟩ := bAa D hDb.1 hDb.2
  have hD' := hD.symm
  clear hD
  obtain ⟨C, hC⟩ : ∃ C, C = many.tdiv 3 := ⟨_, rfl⟩
  have hCt := bAb many 3 (by decide) ho1 ho2
  rw [show ((3 : Nat) : Int) = 3 from rfl, ← hC] at hCt
  have hCb : -9223372036854775808 ≤ C ∧ C ≤ 9223372036854775807 := ⟨hCt.1, hCt.2.1⟩
  have mC := hCt.2.2
  clear hCt
  have hC' := hC.symm
  clear hC
  obtain ⟨g1, g2⟩ := vU many 3 (by decide)
  have pkr := fun W => aY9 many 3 W ho1 ho2 (by decide) (by decide)
  obtain ⟨r, hr3⟩ : ∃ r : Nat, gA many 3 = (r : Int) := ⟨_, (Int.toNat_of_nonneg g1).symm⟩
  rw [hr3] at pkr g2
  clear hr3 g1
  go_enter Tryz.func8, Tryz.ntmps8
  go_wp2_with fail
  refine (bA5 s v raw _ hr hwf).mono ?_
  rintro e w2 ⟨u, x, rfl, hx, hx5, hxf, h02⟩
  clear hr hwf
  obtain ⟨p1, p2⟩ := vU C ((x.length : Int) + 1) (by omega)
  have pkk := fun W => aY9 C ((x.length : Int) + 1) W hCb.1 hCb.2 (by omega) (by omega)
  obtain ⟨k0, hk⟩ : ∃ k : Nat, gA C ((x.length : Int) + 1) = (k : Int) := ⟨_, (Int.toNat_of_nonneg p1).symm⟩
  rw [hk] at p1 p2 pkk
  obtain ⟨k, hkk⟩ : ∃ k, k = if r = 0 then k0 else x.length := ⟨_, rfl⟩
  have hkx : k ≤ x.length := by rw [hkk]; split <;> omega
  have hk0 : k0 ≤ x.length := by omega
  clear hk p1 p2
  obtain ⟨v1, hv1, hx1⟩ := bA9 hx k hkx
  obtain ⟨v2, hv2, hx2⟩ := bBa hx k hkx
  obtain ⟨xa, xc, rfl, hxc1, hxc2, -⟩ := hx.open
  unfold maxLen at hxc2
  have z1 : (x.take k).length ≤ 5 := by rw [List.length_take]; omega
  have z2 : (x.drop k).length ≤ 5 := by rw [List.length_drop]; omega
  have f1 : aYr (x.take k) := fun t ht => hxf t (List.mem_of_mem_take ht)
  have f2 : aYr (x.drop k) := fun t ht => hxf t (List.mem_of_mem_drop ht)
  have hwa : ∀ W, (Below w2.heap.size w2 W ∧ w2.heap.size ≤ W.heap.size) → Calls Tryz.prog 22 #[.int .i64 (Ra : Int), v1] W fun e w' => e = .returned (.tuple #[.string (aYf [(Ra, x.take k)]), .int .i64 0]) ∧ Hid (okA [(Ra, x.take k)]) ∧ Below W.heap.size W w' := fun W h =>
    (refWrite_fine Ra v1 _ W (hx1.below h.1) z1 f1 ra1 ra2).mono fun e w' k => ⟨k.1, hid k.2.1, k.2.2⟩
  have hwb : ∀ W, (Below w2.heap.size w2 W ∧ w2.heap.size ≤ W.heap.size) → Calls Tryz.prog 22 #[.int .i64 (Rb : Int), v2] W fun e w' => e = .returned (.tuple #[.string (aYf [(Rb, x.drop k)]), .int .i64 0]) ∧ Hid (okA [(Rb, x.drop k)]) ∧ Below W.heap.size W w' := fun W h =>
    (refWrite_fine Rb v2 _ W (hx2.below h.1) z2 f2 rb1 rb2).mono fun e w' k => ⟨k.1, hid k.2.1, k.2.2⟩
  have HAB := hid (fun (oa : okA [(Ra, x.take k)]) (ob : okA [(Rb, x.drop k)]) => arc_both hx5 oa ob)
  have HA1 := hid (fun (oa : okA [(Ra, x.take k)]) => arc_single hx5 oa)
  have HAs := hid (show okA [(Ra, x.take k)] → (aYf [(Ra, x.take k)]).size ≤ 18000 from fun o => by
    have h := aZ6 o
    have ea : (aYn [(Ra, x.take k)]).length = (x.take k).length := by unfold aYn; simp
    rw [ea, List.length_singleton] at h
    omega)
  have HBs := hid (show okA [(Rb, x.drop k)] → (aYf [(Rb, x.drop k)]).size ≤ 18000 from fun o => by
    have h := aZ6 o
    have ea : (aYn [(Rb, x.drop k)]).length = (x.drop k).length := by unfold aYn; simp
    rw [ea, List.length_singleton] at h
    omega)
  obtain ⟨OA, hOA⟩ : ∃ OA : Prop, OA = okA [(Ra, x.take k)] := ⟨_, rfl⟩
  obtain ⟨OB, hOB⟩ : ∃ OB : Prop, OB = okA [(Rb, x.drop k)] := ⟨_, rfl⟩
  obtain ⟨A, hA⟩ : ∃ A, A = aYf [(Ra, x.take k)] := ⟨_, rfl⟩
  obtain ⟨Bb, hB⟩ : ∃ Bb, Bb = aYf [(Rb, x.drop k)] := ⟨_, rfl⟩
  rw [← hOA, ← hA] at hwa
  rw [← hOB, ← hB] at hwb
  rw [← hOA, ← hOB, ← hA, ← hB] at HAB
  rw [← hOA, ← hA] at HA1
  rw [← hOA, ← hA] at HAs
  rw [← hOB, ← hB] at HBs
  clear hOA hOB hA hB z1 z2 f1 f2 hx hx1 hx2 hxf
  have hb0 : Below w2.heap.size w2 w2.drew ∧ w2.heap.size ≤ w2.drew.heap.size := ⟨(Below.refl w2.heap.size w2).drew, Nat.le_refl _⟩
  go_wp2_with fail
  refine (pkk _).mono ?_
  rintro e w' ⟨rfl, rfl⟩
  clear pkk
  go_wp2_with fail
  refine (pkr _).mono ?_
  rintro e w' ⟨rfl, rfl⟩
  have mra := aU6 Ra (by omega)
  have mrb := aU6 Rb (by omega)
  by_cases h0 : r = 0
  · obtain rfl : k = k0 := by rw [hkk, if_pos h0]
    have tr : decide ((r : Int) > 0) = false := decide_eq_false (by omega)
    have tr' : decide (0 < (r : Int)) = false := decide_eq_false (by omega)
    have trn : decide (0 < r) = false := decide_eq_false (by omega)
    have tr2 : decide ((r : Int) > 1) = false := decide_eq_false (by omega)
    have tr2' : decide (1 < (r : Int)) = false := decide_eq_false (by omega)
    have tr2n : decide (1 < r) = false := decide_eq_false (by omega)
    clear hkk h0
    go_wp2_with fail
    go_cut [11] (fun c11 wx => c11 = .string A ∧ Hid OA ∧ Below w2.heap.size w2 wx ∧ w2.heap.size ≤ wx.heap.size)
    case first =>
      go_region_held3 (fun wx => Below w2.heap.size w2 wx ∧ w2.heap.size ≤ wx.heap.size)
        (first
          | with_reducible assumption
          | with_reducible exact kpT (by assumption) (by assumption))
        (first
          | (go_at_call 21; with_reducible refine (pka _).mono ?_; rintro e w' ⟨rfl, rfl⟩)
          | (go_at_call 22; with_reducible refine (hwa _ (by assumption)).mono ?_; rintro e w4 ⟨rfl, oa, h4⟩))
      all_goals
        go_wp2_with fail
        go_meet
        exact ⟨rfl, oa, by assumption⟩
    case rest =>
    obtain ⟨rfl, OAh, hba⟩ := hcut
    have hbd := kpT hba (Below.refl wc.heap.size wc).drew
    clear hb0 hwa pka ma ma' mra
    go_wp2_with fail
    refine (pkr _).mono ?_
    rintro e w' ⟨rfl, rfl⟩
    go_wp2_with fail
    go_cut [13] (fun c13 wx => c13 = .string Bb ∧ Hid OB ∧ Below w2.heap.size w2 wx ∧ w2.heap.size ≤ wx.heap.size)
    case first =>
      go_region_held3 (fun wx => Below w2.heap.size w2 wx ∧ w2.heap.size ≤ wx.heap.size)
        (first
          | with_reducible assumption
          | with_reducible exact kpT (by assumption) (by assumption))
        (first
          | (go_at_call 21; with_reducible refine (pkb _).mono ?_; rintro e w' ⟨rfl, rfl⟩)
          | (go_at_call 22; with_reducible refine (hwb _ (by assumption)).mono ?_; rintro e w4 ⟨rfl, oa, h4⟩))
      all_goals
        go_wp2_with fail
        go_meet
        exact ⟨rfl, oa, by assumption⟩
    case rest =>
    obtain ⟨rfl, OBh, hbb⟩ := hcut
    have q1 := HAs.out OAh.out
    have q2 := HBs.out OBh.out
    have q3 : ¬ 9223372036854775807 < A.size + Bb.size := by omega
    go_wp2_with fail
    go_ret
    exact ⟨A ++ Bb, rfl, HAB.out OAh.out OBh.out, bV h02 hbb.1⟩
  · obtain rfl : k = x.length := by rw [hkk, if_neg h0]
    have tr : decide ((r : Int) > 0) = true := decide_eq_true (by omega)
    have tr' : decide (0 < (r : Int)) = true := decide_eq_true (by omega)
    have trn : decide (0 < r) = true := decide_eq_true (by omega)
    clear hkk
    go_wp2_with fail
    go_cut [11] (fun c11 wx => c11 = .string A ∧ Hid OA ∧ Below w2.heap.size w2 wx ∧ w2.heap.size ≤ wx.heap.size)
    case first =>
      go_region_held3 (fun wx => Below w2.heap.size w2 wx ∧ w2.heap.size ≤ wx.heap.size)
        (first
          | with_reducible assumption
          | with_reducible exact kpT (by assumption) (by assumption))
        (first
          | (go_at_call 21; with_reducible refine (pka _).mono ?_; rintro e w' ⟨rfl, rfl⟩)
          | (go_at_call 22; with_reducible refine (hwa _ (by assumption)).mono ?_; rintro e w4 ⟨rfl, oa, h4⟩))
      all_goals
        go_wp2_with fail
        go_meet
        exact ⟨rfl, oa, by assumption⟩
    case rest =>
    obtain ⟨rfl, OAh, hba⟩ := hcut
    have hbd := kpT hba (Below.refl wc.heap.size wc).drew
    clear hb0 hwa pka ma ma' mra
    go_wp2_with fail
    refine (pkr _).mono ?_
    rintro e w' ⟨rfl, rfl⟩
    by_cases h2 : r = 2
    · have tr2 : decide ((r : Int) > 1) = true := decide_eq_true (by omega)
      have tr2' : decide (1 < (r : Int)) = true := decide_eq_true (by omega)
      have tr2n : decide (1 < r) = true := decide_eq_true (by omega)
      go_wp2_with fail
      go_ret
      exact ⟨A, rfl, HA1.out OAh.out, bV h02 hba.1⟩
    · have tr2 : decide ((r : Int) > 1) = false := decide_eq_false (by omega)
      have tr2' : decide (1 < (r : Int)) = false := decide_eq_false (by omega)
      have tr2n : decide (1 < r) = false := decide_eq_false (by omega)
      go_wp2_with fail
      go_cut [13] (fun c13 wx => c13 = .string Bb ∧ Hid OB ∧ Below w2.heap.size w2 wx ∧ w2.heap.size ≤ wx.heap.size)
      case first =>
        go_region_held3 (fun wx => Below w2.heap.size w2 wx ∧ w2.heap.size ≤ wx.heap.size)
          (first
            | with_reducible assumption
            | with_reducible exact kpT (by assumption) (by assumption))
          (first
            | (go_at_call 21; with_reducible refine (pkb _).mono ?_; rintro e w' ⟨rfl, rfl⟩)
            | (go_at_call 22; with_reducible refine (hwb _ (by assumption)).mono ?_; rintro e w4 ⟨rfl, oa, h4⟩))
        all_goals
          go_wp2_with fail
          go_meet
          exact ⟨rfl, oa, by assumption⟩
      case rest =>
      obtain ⟨rfl, OBh, hbb⟩ := hcut
      have q1 := HAs.out OAh.out
      have q2 := HBs.out OBh.out
      have q3 : ¬ 9223372036854775807 < A.size + Bb.size := by omega
      go_wp2_with fail
      go_ret
      exact ⟨A ++ Bb, rfl, HAB.out OAh.out OBh.out, bV h02 hbb.1⟩

end Go.Proofs.YtmcogmmncfihhaaGreatDoor

/-
  The walks of sidecars (chapter 20): are two indexes the same; Load.
-/
import Derived.Test.YtmcogmmncfihhaaGreatDoorP20eZ
import Derived.Test.YtmcogmmncfihhaaGreatDoorM20cZ
import Derived.Test.YtmcogmmncfihhaaGreatDoorZ22
set_option linter.unusedVariables false
set_option linter.unusedSimpArgs false
namespace Go.Proofs.YtmcogmmncfihhaaGreatDoor
open Go.RowKit Go Go.Shelf

theorem eqE20 (x y : Ent) (w : World) : (Op.equalIn 10000 51 (.agg #[.int .i64 x.a, .int .i64 x.r, .int .i64 x.f, .int .i64 x.n, .int .u32 x.y]) (.agg #[.int .i64 y.a, .int .i64 y.r, .int .i64 y.f, .int .i64 y.n, .int .u32 y.y])).run Tryz.prog w = .ok (decide (x = y)) w := by
  obtain ⟨a, r, f, n, c⟩ := x
  obtain ⟨a', r', f', n', c'⟩ := y
  have u3 := Tryz.underlying3
  have a3 := Tryz.isAgg3
  have z3 := Tryz.sizeOf3
  have u4 := Tryz.underlying34
  have a4 := Tryz.isAgg34
  have z4 := Tryz.sizeOf34
  have hS : Tryz.prog.underlying 51 = some (.struct (Tryz.prog.fieldsOf 51)) := by kernel_rfl
  have hp : Tryz.prog.stoodInHeld 51 = false := by kernel_rfl
  rw [show (10000 : Nat) = 9999 + 1 from rfl, run_equalIn_agg w 9999 _ _ _ hS hp]
  simp only [Program.fieldsOf, Tryz.underlying51]
  go_simp
  by_cases h1 : a = a' <;> by_cases h2 : r = r' <;> by_cases h3 : f = f' <;> by_cases h4 : n = n' <;> by_cases h5 : c = c' <;> simp [h1, h2, h3, h4, h5]

set_option maxRecDepth 100000 in
set_option maxHeartbeats 3200000 in
theorem equal20_any (u v : Value) (l m : List Ent) (w : World) (hu : RdR w u (l.map LF)) (hv : RdR w v (m.map LF)) (hl : l.length ≤ 1000000) (hm : m.length ≤ 1000000) :
    Calls Tryz.prog 30 #[u, v] w fun e w' => e = .returned (.bool (decide (l = m))) ∧ Below w.heap.size w w' := by
  obtain ⟨a, ca, rfl, hca, hma, hA⟩ := aWp hu
  obtain ⟨b, cb, rfl, hcb, hmb, hB⟩ := aWp hv
  unfold maxLen at hma hmb
  obtain ⟨R, hR⟩ : ∃ R : Bool, R = decide (l = m) := ⟨_, rfl⟩
  rw [← hR]
  have HR := hid hR
  clear hR hu hv
  by_cases hL : l.length = m.length
  rotate_left
  · obtain rfl : R = false := by rw [HR.out]; exact decide_eq_false (fun h => hL (by rw [h]))
    have t1 : ((l.length : Int) != (m.length : Int)) = true := bne_iff_ne.2 (by omega)
    go_enter Tryz.func30, Tryz.ntmps30
    go_wp2_with fail
    go_ret
    exact ⟨rfl, Below.refl _ _⟩
  have t0 : ((m.length : Int) != (m.length : Int)) = false := by simp
  rw [hL] at hA hca hl ⊢
  have HL := hid hL
  clear hL
  go_enter Tryz.func30, Tryz.ntmps30
  go_wp2_with fail
  clear t0
  go_loopg [5, 13] m.length (fun g _s5 s13 wr => ∃ k : Nat, k ≤ m.length ∧ g = m.length - k ∧ s13 = .int .i64 (k : Int) ∧ Hid (l.take k = m.take k) ∧ Below w.heap.size w wr)
  case atStart => exact ⟨0, Nat.zero_le _, rfl, rfl, hid rfl, Below.refl _ _⟩
  case round =>
    obtain ⟨k, hk, hg, rfl, HT, hbel⟩ := hrel
    have HG := hid hg
    clear hg
    by_cases hlt : k < m.length
    · have t1 : decide ((k : Int) < (m.length : Int)) = true := decide_eq_true (by omega)
      obtain ⟨b1, o1, rfl, hb1, hc1⟩ := hA (by omega)
      obtain ⟨b2, o2, rfl, hb2, hc2⟩ := hB (by omega)
      have hltl : k < l.length := by rw [HL.out]; exact hlt
      obtain ⟨x, hx⟩ : ∃ x, l[k]? = some x := ⟨_, List.getElem?_eq_getElem hltl⟩
      obtain ⟨y, hy⟩ : ∃ y, m[k]? = some y := ⟨_, List.getElem?_eq_getElem hlt⟩
      obtain ⟨x0, x1, x2, x3, x4⟩ := hc1 k x hx
      obtain ⟨y0, y1, y2, y3, y4⟩ := hc2 k y hy
      have c0 := (hbel.cell (p := ⟨b1, o1 + k * 5, none⟩) hb1).trans x0
      have c1 := (hbel.cell (p := ⟨b1, o1 + k * 5 + 1, none⟩) hb1).trans x1
      have c2 := (hbel.cell (p := ⟨b1, o1 + k * 5 + 2, none⟩) hb1).trans x2
      have c3 := (hbel.cell (p := ⟨b1, o1 + k * 5 + 3, none⟩) hb1).trans x3
      have c4 := (hbel.cell (p := ⟨b1, o1 + k * 5 + 4, none⟩) hb1).trans x4
      have d0 := (hbel.cell (p := ⟨b2, o2 + k * 5, none⟩) hb2).trans y0
      have d1 := (hbel.cell (p := ⟨b2, o2 + k * 5 + 1, none⟩) hb2).trans y1
      have d2 := (hbel.cell (p := ⟨b2, o2 + k * 5 + 2, none⟩) hb2).trans y2
      have d3 := (hbel.cell (p := ⟨b2, o2 + k * 5 + 3, none⟩) hb2).trans y3
      have d4 := (hbel.cell (p := ⟨b2, o2 + k * 5 + 4, none⟩) hb2).trans y4
      have hq := fun W => eqE20 x y W
      obtain ⟨B, hB'⟩ : ∃ B : Bool, B = decide (x = y) := ⟨_, rfl⟩
      rw [← hB'] at hq
      have HBB := hid hB'
      have HX := hid hx
      have HY := hid hy
      obtain ⟨xa, xr, xf, xn, xy⟩ := x
      obtain ⟨ya, yr, yf, yn, yy⟩ := y
      dsimp only at c0 c1 c2 c3 c4 d0 d1 d2 d3 d4 hq
      clear x0 x1 x2 x3 x4 y0 y1 y2 y3 y4 hc1 hc2 hx hy hA hB hB'
      cases B with
      | true =>
        have HT2 := hid (show l.take (k + 1) = m.take (k + 1) by
          have e := of_decide_eq_true HBB.out.symm
          rw [List.take_add_one, List.take_add_one, HT.out, HX.out, HY.out, e])
        go_wp2_with fail
        go_quiet (fail)
        go_wp2_with fail
        have hg := HG.out
        go_roundg (m.length - (k + 1))
        case measure => omega
        case rel => exact ⟨k + 1, by omega, rfl, by go_num, HT2, below_drewN hbel _⟩
      | false =>
        obtain rfl : R = false := by
          rw [HR.out]
          refine decide_eq_false (fun h => of_decide_eq_false HBB.out.symm ?_)
          have h1 := HX.out
          rw [h, HY.out] at h1
          exact (Option.some.inj h1).symm
        go_wp2_with fail
        go_quiet (fail)
        go_wp2_with fail
        go_ret
        exact ⟨rfl, below_drewN hbel _⟩
    · have t1 : decide ((k : Int) < (m.length : Int)) = false := decide_eq_false (by omega)
      obtain rfl : R = true := by
        rw [HR.out]
        refine decide_eq_true ?_
        have h := HT.out
        rwa [List.take_of_length_le (by rw [HL.out]; omega), List.take_of_length_le (by omega)] at h
      go_wp2_with fail
      go_ret
      exact ⟨rfl, hbel⟩

set_option maxRecDepth 100000 in
set_option maxHeartbeats 6400000 in
theorem load20_any (a s : ByteArray) (w : World) (hE : iF w) (hs : s.size ≤ 1000000) (ha : a.size ≤ 120000) :
    Calls Tryz.prog 11 #[.string a, .string s] w fun e w' => ∃ v, e = .returned (.tuple #[v, .int .i64 (loadE a.data.toList s.data.toList)]) ∧ RdR w' v ((if loadE a.data.toList s.data.toList = 0 then aUj 0 (aUl a.data.toList) else []).map LF) ∧ Below w.heap.size w w' := by
  obtain ⟨X, hX⟩ : ∃ X, X = loadE a.data.toList s.data.toList := ⟨_, rfl⟩
  rw [← hX]
  by_cases h1 : (readD s.data.toList).2.2.2 ≠ 0
  · have e : X = (readD s.data.toList).2.2.2 := by rw [hX]; unfold loadE; rw [if_pos h1]
    refine (load20_err a s w hs h1).mono ?_
    rintro e' w' ⟨rfl, hb⟩
    exact ⟨_, by rw [e], by rw [if_neg (by rw [e]; exact h1)]; exact RdR.nil _, hb⟩
  have h1 := Decidable.not_not.1 h1
  have hre := read20_any s w hs
  have hsu := fun W => FA a W (by omega)
  have hsc := fun W h => aX9 a W h ha
  have hlen : (aUj 0 (aUl a.data.toList)).length ≤ 1000000 := by
    have := aVq a
    rw [aWd]
    omega
  have hal : a.data.toList.length = a.size := rfl
  obtain ⟨C, hC⟩ : ∃ C, C = (fG a.data.toList).toNat := ⟨_, rfl⟩
  obtain ⟨⟨l, n, c, x⟩, hD⟩ : ∃ D, D = readD s.data.toList := ⟨_, rfl⟩
  obtain ⟨L, hL⟩ : ∃ L, L = aUj 0 (aUl a.data.toList) := ⟨_, rfl⟩
  obtain ⟨E, hEe⟩ : ∃ E, E = (hH a.data.toList).2 := ⟨_, rfl⟩
  have hX2 : X = if n ≠ a.size ∨ c ≠ C then 7 else if E ≠ 0 then E else if L ≠ l then 3 else 0 := by
    rw [hX]
    unfold loadE
    rw [← hD, ← hL, ← hC, ← hEe, hal]
    rw [← hD] at h1
    rw [if_neg (by show ¬ x ≠ 0; exact not_not_intro h1)]
  rw [← hD] at hre h1
  rw [← hC] at hsu
  rw [← hL, ← hEe] at hsc
  rw [← hL] at hlen ⊢
  dsimp only at hre h1
  subst h1
  have HX := hid hX2
  have hD2 := hid hD
  clear hX hX2 hal hC hD hL hEe
  go_enter Tryz.func11, Tryz.ntmps11
  go_wp2_with fail
  refine hre.mono ?_
  rintro e w1 ⟨v, er, rfl, hr, hEr, h1⟩
  rcases hEr with ⟨rfl, -⟩ | ⟨p, -, hx3⟩
  rotate_left
  · omega
  have hE1 := hE.below h1
  have n3 : ∀ w, (binOp .eql 66 .nilIface .nilIface).run Tryz.prog w = .ok (.bool true) w := fun w => by kernel_rfl
  have n4 : ∀ w, (binOp .neq 66 .nilIface .nilIface).run Tryz.prog w = .ok (.bool false) w := fun w => by kernel_rfl
  have n5 : ∀ w, (binOp .neq 66 (.iface 71 (.agg #[.string ⟨#[97, 114, 99, 104, 105, 118, 101]⟩, .iface 69 (.int .i64 7)])) .nilIface).run Tryz.prog w = .ok (.bool true) w := fun w => by kernel_rfl
  clear hre hE
  by_cases h2 : n = a.size
  rotate_left
  · obtain rfl : X = 7 := by rw [HX.out, if_pos (.inl h2)]
    have t1 : ((n : Int) == (a.size : Int)) = false := beq_eq_false_iff_ne.2 (by omega)
    have t1' : (n == a.size) = false := beq_eq_false_iff_ne.2 h2
    go_wp2_with fail
    refine (errno20_any _ 7 _ (.inr (.inr rfl))).mono ?_
    rintro e w2 ⟨rfl, h2⟩
    go_wp2_with fail
    go_ret2
    exact ⟨_, rfl, RdR.nil _, bV h1 h2⟩
  subst h2
  go_wp2_with fail
  refine (hsu _).mono ?_
  rintro e w2 ⟨rfl, h2⟩
  have hE2 := hE1.below h2
  have hr2 := hr.below h2
  have h02 := bV h1 h2
  clear hsu hE1 hr h1 h2
  by_cases h3 : c = C
  rotate_left
  · obtain rfl : X = 7 := by rw [HX.out, if_pos (.inr h3)]
    have t1 : ((c : Int) == (C : Int)) = false := beq_eq_false_iff_ne.2 (by omega)
    have t1' : (c == C) = false := beq_eq_false_iff_ne.2 h3
    go_wp2_with fail
    refine (errno20_any _ 7 _ (.inr (.inr rfl))).mono ?_
    rintro e w3 ⟨rfl, h3⟩
    go_wp2_with fail
    go_ret2
    exact ⟨_, rfl, RdR.nil _, bV h02 h3⟩
  subst h3
  have HX2 := hid (show X = if E ≠ 0 then E else if L ≠ l then 3 else 0 by rw [HX.out, if_neg (by rintro (h | h) <;> exact h rfl)])
  clear HX
  go_wp2_with fail
  refine (hsc _ hE2).mono ?_
  rintro e w3 ⟨u, rfl, hu, h3⟩
  have hr3 := hr2.below h3
  have h03 := bV h02 h3
  clear hsc hE2 hr2 h02 h3
  by_cases h4 : E = 0
  rotate_left
  · obtain rfl : X = E := by rw [HX2.out, if_pos h4]
    have t1 : (X == 0) = false := beq_eq_false_iff_ne.2 h4
    have t1' : (X != 0) = true := bne_iff_ne.2 h4
    go_wp2_with fail
    go_ret2
    exact ⟨_, rfl, RdR.nil _, h03⟩
  subst h4
  have hll : l.length ≤ 1000000 := by
    have e := hD2.out
    have h5 := congrArg (fun D : List Ent × Nat × Nat × Int => D.1.length) e
    dsimp only at h5
    rw [h5]
    exact read_len _ (by show s.size ≤ _; omega)
  have heq := fun W h1 h2 => equal20_any u v L l W h1 h2 hlen hll
  obtain ⟨B, hB⟩ : ∃ B : Bool, B = decide (L = l) := ⟨_, rfl⟩
  rw [← hB] at heq
  have HB := hid hB
  clear hB hD2
  go_wp2_with fail
  refine (heq _ hu hr3).mono ?_
  rintro e w4 ⟨rfl, h4⟩
  have hu4 := hu.below h4
  have h04 := bV h03 h4
  clear heq hu hr3 h03 h4
  cases B with
  | false =>
    obtain rfl : X = 3 := by rw [HX2.out, if_neg (by decide), if_pos (of_decide_eq_false HB.out.symm)]
    go_wp2_with fail
    go_ret2
    exact ⟨_, rfl, RdR.nil _, h04⟩
  | true =>
    obtain rfl : X = 0 := by rw [HX2.out, if_neg (by decide), if_neg (fun k => k (of_decide_eq_true HB.out.symm))]
    go_wp2_with fail
    go_ret2
    exact ⟨_, rfl, hu4, h04⟩

end Go.Proofs.YtmcogmmncfihhaaGreatDoor

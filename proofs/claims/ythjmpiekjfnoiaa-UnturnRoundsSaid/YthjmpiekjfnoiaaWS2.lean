/-
  The walks of the library's insertion sort and of its symmetric merge.
-/
import Derived.Test.YthjmpiekjfnoiaaWS
import Derived.StillTailTactics
namespace Go.Proofs.Ythjmpiekjfnoiaa
open Go.RowKit

/-- A block's integers in rising order: as they are before the sort. -/
def Rising (f : Nat → Int) (a b : Nat) : Prop := ∀ i j, a ≤ i → i < j → j < b → f i < f j

/-- The number x, moved from place i down to place j. -/
def downF (f : Nat → Int) (j i : Nat) : Nat → Int := fun k => if k = j then f i else if j < k ∧ k ≤ i then f (k - 1) else f k
theorem downF_self (f : Nat → Int) (i : Nat) : downF f i i = f := by
  funext k; unfold downF
  by_cases h : k = i
  · rw [if_pos h, h]
  · rw [if_neg h, if_neg (by omega)]
theorem downF_succ (f : Nat → Int) (j i : Nat) (h : j < i) : downF f j i = setF (setF (downF f (j + 1) i) (j + 1) (downF f (j + 1) i j)) j (downF f (j + 1) i (j + 1)) := by
  have e1 : downF f (j + 1) i j = f j := by unfold downF; rw [if_neg (by omega), if_neg (by omega)]
  have e2 : downF f (j + 1) i (j + 1) = f i := by unfold downF; rw [if_pos rfl]
  rw [e1, e2]
  funext k
  unfold setF downF
  by_cases h1 : k = j
  · rw [if_pos h1, if_pos h1]
  · rw [if_neg h1, if_neg h1]
    by_cases h2 : k = j + 1
    · rw [if_pos h2, if_pos (by omega)]; congr 1; omega
    · rw [if_neg h2, if_neg h2]
      by_cases h3 : j < k ∧ k ≤ i
      · rw [if_pos h3, if_pos (by omega)]
      · rw [if_neg h3, if_neg (by omega)]
theorem downF_from (f : Nat → Int) (a j i : Nat) (h1 : a ≤ j) (h2 : j ≤ i) : FromOn a (i + 1) f (downF f j i) := by
  refine ⟨fun k h3 h4 => ?_, fun k hk => ?_⟩
  · unfold downF
    by_cases c1 : k = j
    · rw [if_pos c1]; exact ⟨i, by omega, by omega, rfl⟩
    · rw [if_neg c1]
      by_cases c2 : j < k ∧ k ≤ i
      · rw [if_pos c2]; exact ⟨k - 1, by omega, by omega, rfl⟩
      · rw [if_neg c2]; exact ⟨k, h3, h4, rfl⟩
  · unfold downF; rw [if_neg (by omega), if_neg (by omega)]
theorem downF_sorted {lt : Int → Int → Prop} {f : Nat → Int} {a j i : Nat} (h : SortedOn lt f a i) (_h1 : a ≤ j) (h2 : j ≤ i) (hlo : ∀ k, a ≤ k → k < j → lt (f k) (f i)) (hhi : ∀ k, j ≤ k → k < i → lt (f i) (f k)) :
    SortedOn lt (downF f j i) a (i + 1) := by
  have d1 : downF f j i j = f i := by unfold downF; rw [if_pos rfl]
  have d2 : ∀ k, j < k → k ≤ i → downF f j i k = f (k - 1) := fun k p q => by unfold downF; rw [if_neg (by omega), if_pos ⟨p, q⟩]
  have d3 : ∀ k, k < j → downF f j i k = f k := fun k p => by unfold downF; rw [if_neg (by omega), if_neg (by omega)]
  intro p q hp hpq hq
  rcases Nat.lt_trichotomy p j with c1 | c1 | c1
  · rw [d3 p c1]
    rcases Nat.lt_trichotomy q j with c2 | c2 | c2
    · rw [d3 q c2]; exact h _ _ hp hpq (by omega)
    · rw [c2, d1]; exact hlo _ hp c1
    · rw [d2 q c2 (by omega)]; exact h _ _ hp (by omega) (by omega)
  · rw [c1, d1, d2 q (by omega) (by omega)]; exact hhi _ (by omega) (by omega)
  · rw [d2 p c1 (by omega), d2 q (by omega) (by omega)]; exact h _ _ (by omega) (by omega) (by omega)

/-- What is asked of the order: strict; and the test answers it where the second number is the lesser one. -/
structure Cmp (lt : Int → Int → Prop) (klt : Int → Int → Bool) : Prop where
  S : Strict lt
  iff : ∀ x y, x < y → (klt y x = true ↔ lt y x)

set_option maxRecDepth 100000 in
set_option maxHeartbeats 400000 in
theorem insertion_any (g cap n a b bx : Nat) (f : Nat → Int) (klt : Int → Int → Bool) (lt : Int → Int → Prop) (w : World) (hd : Dat w g cap n f) (hn : n ≤ 1000000) (_hcap : cap ≤ maxLen) (hab : a ≤ b) (hbn : b ≤ n)
    (hf : InR n f) (hr : Rising f a b) (hc : CmpOK w g n bx klt) (C : Cmp lt klt) :
    Calls Try.prog 61 #[.slice (some ⟨g, 0, none⟩) n cap, .int .i64 (a : Int), .int .i64 (b : Int), cmpV bx] w fun e w' =>
      e = .returned (.tuple #[]) ∧ (∃ h, Merged lt f h a b ∧ Dat w' g cap n h) ∧ w.grownBy w' (some g) := by
  unfold maxLen at _hcap
  unfold cmpV
  have HCM := hid hc
  have HR := hid hr
  clear hc hr
  go_enter Try.func61, Try.ntmps61
  go_wp2
  go_loopg [8] (b - (a + 1)) (fun gh i wr => ∃ (k : Nat) (h : Nat → Int), a + 1 ≤ k ∧ (k ≤ b ∨ k = a + 1) ∧ gh = b - k ∧ i = .int .i64 k ∧ Dat wr g cap n h ∧ Hid (Merged lt f h a (min k b)) ∧ w.grownBy wr (some g))
  case atStart =>
    refine ⟨a + 1, f, Nat.le_refl _, .inr rfl, rfl, congrArg _ (by omega), hd, hid ⟨FromOn.refl _ _ _, SortedOn.tiny _ _ _ (by omega)⟩, gRefl _ _⟩
  case round =>
    obtain ⟨i, h, hi1, hi2, hg, rfl, hdat, HM, hgr⟩ := hrel
    have HG := hid hg
    clear hg
    by_cases hlt : i < b
    · obtain ⟨wo, rfl⟩ : ∃ wo : World, wo = wr := ⟨_, rfl⟩
      have hfm := HM.out.frm
      rw [Nat.min_eq_left (by omega)] at hfm
      have hin := hf.from (by omega) hfm
      go_wp2
      go_loopg [9] i (fun gh j wr => ∃ q : Nat, a ≤ q ∧ q ≤ i ∧ gh = q ∧ j = .int .i64 q ∧ Dat wr g cap n (downF h q i) ∧ Hid (∀ k, q ≤ k → k < i → lt (h i) (h k)) ∧ w.grownBy wr (some g))
      case atStart => exact ⟨i, by omega, Nat.le_refl _, rfl, rfl, by rw [downF_self]; exact hdat, hid (fun k h1 h2 => by omega), hgr⟩
      case round =>
        clear hdat hgr
        obtain ⟨q, hq1, hq2, hg2, rfl, hdat, HK, hgr⟩ := hrel
        have HG2 := hid hg2
        clear hg2
        by_cases hqa : a < q
        · have t1 : decide (a < q) = true := by simpa using hqa
          have c1 := hdat.cell (k := q) (by omega)
          have c2 := hdat.cell (k := q - 1) (by omega)
          have f1 := hdat.free q
          have f2 := hdat.free (q - 1)
          have e1 : downF h q i q = h i := by unfold downF; rw [if_pos rfl]
          have e2 : downF h q i (q - 1) = h (q - 1) := by unfold downF; rw [if_neg (by omega), if_neg (by omega)]
          rw [e1] at c1
          rw [e2] at c2
          have E1 := hid e1
          have E2 := hid e2
          clear e1 e2
          have b1 := hin i (by omega)
          have b2 := hin (q - 1) (by omega)
          obtain ⟨x, hx⟩ : ∃ x, x = h i := ⟨_, rfl⟩
          obtain ⟨y, hy⟩ : ∃ y, y = h (q - 1) := ⟨_, rfl⟩
          rw [← hx] at c1 b1
          rw [← hy] at c2 b2
          have HX := hid hx
          have HY := hid hy
          clear hx hy
          have s1 : IntKind.i64.wrap ((q : Int) - 1) = (q : Int) - 1 := IntWalk.i64_in _ (by omega)
          have s2 : ((q : Int) - 1).toNat = q - 1 := by omega
          have s3 : (0 : Int) ≤ (q : Int) - 1 := by omega
          have s4 : (q : Int) - 1 < (n : Int) := by omega
          have s5 : q < n := by omega
          have s6 : (1 : Int) ≤ (q : Int) := by omega
          have s7 : 1 ≤ q := by omega
          have s8 : 0 < q := by omega
          have s9 : (q : Int) ≤ (n : Int) := by omega
          have s10 : q ≤ n := by omega
          go_wp2_with fail
          go_cut [34] (fun s34 wx => s34 = .bool (klt x y) ∧ Dat wx g cap n (downF h q i) ∧ w.grownBy wx (some g))
          case first =>
            go_still_tail 14, (by kernel_rfl)
            change wpList _ _ _ _ _ wr.drew
            have hdw := hdat.drew
            have hgw := gDrew hgr
            generalize wr.drew = wr2 at *
            go_wp2_with (go_at_call 39; refine (HCM.out _ hgw x y b1.1 b1.2 b2.1 b2.2).mono ?_; rintro e w2 ⟨c, rfl, hc, hb⟩)
            go_meet
            exact ⟨rfl, hdw.grown (gBelow (row := none) hb) (by simp), gTrans hgw (gBelow hb)⟩
          case rest =>
            obtain ⟨rfl, hd1, hg1⟩ := hcut
            have hyx : y < x := by
              rw [HX.out, HY.out]
              obtain ⟨k', k1, k2, k3⟩ := hfm.1 (q - 1) (by omega) (by omega)
              rw [k3, hfm.2 i (by omega)]
              exact HR.out k' i k1 (by omega) (by omega)
            have HYX := hid hyx
            clear hyx
            by_cases hkl : klt x y = true
            · have hlt' := hid ((C.iff y x HYX.out).1 hkl)
              have d1 := hd1.cell (k := q) (by omega)
              have d2 := hd1.cell (k := q - 1) (by omega)
              have g1 := hd1.free q
              have g2 := hd1.free (q - 1)
              rw [E1.out, ← HX.out] at d1
              rw [E2.out, ← HY.out] at d2
              have hne : q ≠ q - 1 := by omega
              rw [hkl]
              clear c1 c2 f1 f2 hdat hgr
              go_wp2
              go_region
              all_goals go_wp2
              have hg2 := HG2.out
              go_roundg (q - 1)
              case measure => omega
              case rel =>
                refine ⟨q - 1, by omega, by omega, rfl, congrArg _ (by omega), ?_, hid (fun k k1 k2 => ?_), gDrew (gTrans (gTrans hg1 (gSet _ _ _ _)) (gSet _ _ _ _))⟩
                · have := (hd1.set q y).set (q - 1) x
                  have e := downF_succ h (q - 1) i (by omega)
                  rw [show q - 1 + 1 = q by omega, E1.out, E2.out, ← HX.out, ← HY.out] at e
                  rw [e]
                  exact this.drew
                · rcases Nat.lt_or_ge k q with h' | h'
                  · have : k = q - 1 := by omega
                    rw [this, ← HX.out, ← HY.out]; exact hlt'.out
                  · exact HK.out k h' k2
            · have hkl0 : klt x y = false := by simpa using hkl
              have hlt' := hid ((C.S.tot y x (by have := HYX.out; omega)).resolve_right (fun h => hkl ((C.iff y x HYX.out).2 h)))
              rw [hkl0]
              clear hkl
              have hsorted := hid (downF_sorted (j := q) (i := i) (a := a) (f := h) (lt := lt) (by have := HM.out.srt; rwa [Nat.min_eq_left (by omega)] at this) (by omega) (by omega)
                (fun k k1 k2 => by
                  have e : lt (h (q - 1)) (h i) := by rw [← HX.out, ← HY.out]; exact hlt'.out
                  rcases Nat.lt_or_ge k (q - 1) with h' | h'
                  · have hs := HM.out.srt
                    rw [Nat.min_eq_left (by omega)] at hs
                    exact C.S.tr _ _ _ (hs k (q - 1) k1 h' (by omega)) e
                  · have : k = q - 1 := by omega
                    rw [this]; exact e) HK.out)
              have hfrom := hid ((hfm.wide (Nat.le_refl a) (show i ≤ i + 1 by omega)).trans (downF_from h a q i (by omega) (by omega)))
              clear c1 c2 f1 f2 hdat hgr
              go_wp2
              have hg := HG.out
              go_roundg (b - (i + 1))
              case measure => omega
              case rel => exact ⟨i + 1, _, by omega, .inl (by omega), rfl, by go_num, hd1, hid (by rw [Nat.min_eq_left (by omega)]; exact ⟨hfrom.out, hsorted.out⟩), hg1⟩
        · have hqe : q = a := by omega
          have t1 : decide (a < q) = false := by simp; omega
          have hsorted := hid (downF_sorted (j := q) (i := i) (a := a) (f := h) (lt := lt) (by have := HM.out.srt; rwa [Nat.min_eq_left (by omega)] at this) (by omega) (by omega) (fun k k1 k2 => by omega) HK.out)
          have hfrom := hid ((hfm.wide (Nat.le_refl a) (show i ≤ i + 1 by omega)).trans (downF_from h a q i (by omega) (by omega)))
          clear hqe
          go_wp2
          go_quiet (fail)
          go_wp2
          have hg := HG.out
          go_roundg (b - (i + 1))
          case measure => omega
          case rel => exact ⟨i + 1, _, by omega, .inl (by omega), rfl, by go_num, hdat.drewN _, hid (by rw [Nat.min_eq_left (by omega)]; exact ⟨hfrom.out, hsorted.out⟩), gDrewN hgr _⟩
    · go_wp2
      go_end0
      refine ⟨rfl, ⟨h, ?_, hdat⟩, hgr⟩
      have := HM.out
      rcases hi2 with h' | h'
      · rwa [show min i b = b by omega] at this
      · exact ⟨(HM.out.frm.wide (Nat.le_refl _) (by omega)), SortedOn.tiny _ _ _ (by omega)⟩

end Go.Proofs.Ythjmpiekjfnoiaa

/-
  The walk of the library's symmetric merge where the second part has one element alone.
-/
import Derived.Test.YthjmpiekjfnoiaaWS3
namespace Go.Proofs.Ythjmpiekjfnoiaa
open Go.RowKit

theorem rotF_last (f : Nat → Int) (m : Nat) : rotF f m m (m + 1) = f := by
  funext k; unfold rotF
  by_cases h : m ≤ k ∧ k < m + (m + 1 - m)
  · rw [if_pos h]; congr 1; omega
  · rw [if_neg h, if_neg (by omega)]
theorem rot_right (f : Nat → Int) (q m : Nat) (h : q + 1 ≤ m) : rotF f q m (m + 1) = setF (setF (rotF f (q + 1) m (m + 1)) (q + 1) (rotF f (q + 1) m (m + 1) q)) q (rotF f (q + 1) m (m + 1) (q + 1)) := by
  have e1 : rotF f (q + 1) m (m + 1) q = f q := by unfold rotF; rw [if_neg (by omega), if_neg (by omega)]
  have e2 : rotF f (q + 1) m (m + 1) (q + 1) = f m := by
    unfold rotF; rw [if_pos (by omega)]; congr 1; omega
  rw [e1, e2]
  funext k
  unfold setF
  by_cases h1 : k = q
  · rw [if_pos h1]; unfold rotF; rw [if_pos (by omega)]; congr 1; omega
  · rw [if_neg h1]
    by_cases h2 : k = q + 1
    · rw [if_pos h2]; unfold rotF; rw [if_neg (by omega), if_pos (by omega)]; congr 1; omega
    · rw [if_neg h2]
      unfold rotF
      by_cases h3 : q + 1 < k ∧ k ≤ m
      · rw [if_neg (by omega), if_pos (by omega), if_neg (by omega), if_pos (by omega)]
      · rw [if_neg (by omega), if_neg (by omega), if_neg (by omega), if_neg (by omega)]

set_option maxRecDepth 100000 in
set_option maxHeartbeats 800000 in
theorem merge_last (g cap n a m b bx : Nat) (hm : b = m + 1) (h2 : a + 1 < m) (f : Nat → Int) (klt : Int → Int → Bool) (lt : Int → Int → Prop) (w : World) (hd : Dat w g cap n f) (hn : n ≤ 1000000) (_hcap : cap ≤ maxLen) (hbn : b ≤ n)
    (hf : InR n f) (hp : MergePre lt f a m (m + 1)) (hc : CmpOK w g n bx klt) (C : Cmp lt klt) :
    Calls Try.prog 62 #[.slice (some ⟨g, 0, none⟩) n cap, .int .i64 (a : Int), .int .i64 (m : Int), .int .i64 (b : Int), cmpV bx] w fun e w' =>
      e = .returned (.tuple #[]) ∧ (∃ h, Merged lt f h a (m + 1) ∧ Dat w' g cap n h) ∧ w.grownBy w' (some g) := by
  unfold maxLen at _hcap
  unfold cmpV
  have HCM := hid hc
  have HP := hid hp
  clear hc hp
  have t0 : ((m : Int) - (a : Int) == 1) = false := by rw [beq_eq_false_iff_ne]; omega
  have t1 : ((b : Int) - (m : Int) == 1) = true := by rw [beq_iff_eq]; omega
  have hmb : m < b := by omega
  have hmn : m < n := by omega
  have HM0 := hid hm
  clear hm
  go_enter Try.func62, Try.ntmps62
  go_wp2
  go_loopg [14, 15] (m - a) (fun gh i j wr => ∃ p q : Nat, a ≤ p ∧ p ≤ q ∧ q ≤ m ∧ gh = q - p ∧ i = .int .i64 p ∧ j = .int .i64 q ∧ Dat wr g cap n f ∧
      Hid (∀ k, a ≤ k → k < p → lt (f k) (f m)) ∧ Hid (∀ k, q ≤ k → k < m → lt (f m) (f k)) ∧ w.grownBy wr (some g))
  case atStart => exact ⟨a, m, Nat.le_refl _, by omega, Nat.le_refl _, rfl, rfl, rfl, hd, hid (fun k h1 h2 => by omega), hid (fun k h1 h2 => by omega), gRefl _ _⟩
  case round =>
    obtain ⟨p, q, hp1, hpq, hqb, hg, rfl, rfl, hdat, HL, HH, hgr⟩ := hrel
    have HG := hid hg
    clear hg
    by_cases hlt : p < q
    · obtain ⟨hh, hhe⟩ : ∃ hh, hh = (p + q) / 2 := ⟨_, rfl⟩
      have h1 : p ≤ hh := by omega
      have h2 : hh < q := by omega
      have c1 := hdat.cell (k := m) (by omega)
      have c2 := hdat.cell (k := hh) (by omega)
      have b1 := hf m (by omega)
      have b2 := hf hh (by omega)
      have E := hid hhe
      have e0 : ((p : Int) + (q : Int)) / 2 = ((hh : Nat) : Int) := by omega
      clear hhe
      obtain ⟨x, hx⟩ : ∃ x, x = f m := ⟨_, rfl⟩
      obtain ⟨y, hy⟩ : ∃ y, y = f hh := ⟨_, rfl⟩
      rw [← hx] at c1 b1
      rw [← hy] at c2 b2
      have HX := hid hx
      have HY := hid hy
      clear hx hy
      have s1 : hh < n := by omega
      have s2 : m < n := by omega
      go_wp2
      go_cut [103] (fun s103 wx => s103 = .bool (!klt x y) ∧ Dat wx g cap n f ∧ w.grownBy wx (some g))
      case first =>
        go_still_tail 9, (by kernel_rfl)
        change wpList _ _ _ _ _ wr.drew
        have hdw := hdat.drew
        have hgw := gDrew hgr
        generalize wr.drew = wr2 at *
        go_wp2_with (go_at_call 39; refine (HCM.out _ hgw x y b1.1 b1.2 b2.1 b2.2).mono ?_; rintro e w2 ⟨c, rfl, hc, hb⟩)
        go_meet
        exact ⟨rfl, hdw.grown (gBelow (row := none) hb) (by simp), gTrans hgw (gBelow hb)⟩
      case rest =>
        obtain ⟨rfl, hd1, hg1⟩ := hcut
        have hyx : f hh < f m := HP.out.ne hh m (by omega) (by omega) (by omega) (by omega)
        have HYX := hid hyx
        clear hyx
        clear c1 c2 hdat hgr
        by_cases hkl : klt x y = true
        · have hl := hid (right_yes (h := hh) C.S HP.out (by omega) ((C.iff _ _ HYX.out).1 (by rw [← HX.out, ← HY.out]; exact hkl)))
          rw [hkl]
          go_wp2
          have hg := HG.out
          go_roundg (hh - p)
          case measure => omega
          case rel => exact ⟨p, hh, by omega, by omega, by omega, rfl, rfl, rfl, hd1, HL, hl, hg1⟩
        · have hl := hid (right_no (h := hh) C.S HP.out (by omega) (by omega) (fun h => hkl (by rw [HX.out, HY.out]; exact (C.iff _ _ HYX.out).2 h)))
          have hkl0 : klt x y = false := by simpa using hkl
          rw [hkl0]
          go_wp2
          have hg := HG.out
          go_roundg (q - (hh + 1))
          case measure => omega
          case rel => exact ⟨hh + 1, q, by omega, by omega, hqb, rfl, by go_num, rfl, hd1, hl, HH, hg1⟩
    · have hpe : q = p := by omega
      subst hpe
      have HM := hid (merge_right HP.out hp1 hqb HL.out HH.out)
      clear HL HH
      go_wp2
      go_loopg [17] (m - q) (fun gh k wr => ∃ p : Nat, q ≤ p ∧ p ≤ m ∧ gh = p - q ∧ k = .int .i64 p ∧ Dat wr g cap n (rotF f p m (m + 1)) ∧ w.grownBy wr (some g))
      case atStart => exact ⟨m, hqb, Nat.le_refl _, rfl, rfl, by rw [rotF_last]; exact hdat, hgr⟩
      case round =>
        clear hdat hgr
        obtain ⟨p, hp2, hp3, hg2, rfl, hdat, hgr⟩ := hrel
        have HG2 := hid hg2
        clear hg2
        by_cases hlt2 : q < p
        · have t1 : decide (q < p) = true := by simpa using hlt2
          have c1 := hdat.cell (k := p) (by omega)
          have c2 := hdat.cell (k := p - 1) (by omega)
          have f1 := hdat.free p
          have f2 := hdat.free (p - 1)
          have e := rot_right f (p - 1) m (by omega)
          rw [show p - 1 + 1 = p by omega] at e
          obtain ⟨x, hx⟩ : ∃ x, x = rotF f p m (m + 1) p := ⟨_, rfl⟩
          obtain ⟨y, hy⟩ : ∃ y, y = rotF f p m (m + 1) (p - 1) := ⟨_, rfl⟩
          rw [← hx] at c1 e
          rw [← hy] at c2 e
          have E3 := hid e
          clear hx hy e
          have s1 : IntKind.i64.wrap ((p : Int) - 1) = (p : Int) - 1 := IntWalk.i64_in _ (by omega)
          have s2 : ((p : Int) - 1).toNat = p - 1 := by omega
          have s3 : (0 : Int) ≤ (p : Int) - 1 := by omega
          have s4 : (p : Int) - 1 < (n : Int) := by omega
          have s5 : p < n := by omega
          have s6 : (1 : Int) ≤ (p : Int) := by omega
          have s7 : 1 ≤ p := by omega
          have s8 : 0 < p := by omega
          have s9 : (p : Int) ≤ (n : Int) := by omega
          have s10 : p ≤ n := by omega
          have hne : p ≠ p - 1 := by omega
          go_wp2
          go_region
          all_goals go_wp2
          have hg2 := HG2.out
          go_roundg (p - 1 - q)
          case measure => omega
          case rel =>
            refine ⟨p - 1, by omega, by omega, rfl, congrArg _ (by omega), ?_, gDrew (gTrans (gTrans hgr (gSet _ _ _ _)) (gSet _ _ _ _))⟩
            rw [E3.out]
            exact ((hdat.set p y).set (p - 1) x).drew
        · have hpe : p = q := by omega
          have t1 : decide (q < p) = false := by simp; omega
          rw [hpe] at hdat
          clear hpe
          go_wp2
          refine bodyPost_ret (results_none rfl _ _ _) rfl ?_
          exact ⟨rfl, ⟨_, HM.out, hdat⟩, hgr⟩

end Go.Proofs.Ythjmpiekjfnoiaa

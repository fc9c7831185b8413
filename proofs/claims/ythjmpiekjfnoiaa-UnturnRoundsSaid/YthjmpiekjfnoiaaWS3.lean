/-
  The walk of the library's symmetric merge where the first part has one element alone.
-/
import Derived.Test.YthjmpiekjfnoiaaWS2
namespace Go.Proofs.Ythjmpiekjfnoiaa
open Go.RowKit

theorem rotF_none (f : Nat → Int) (a : Nat) : rotF f a (a + 1) (a + 1) = f := by
  funext k; unfold rotF
  rw [if_neg (by omega)]
  by_cases h : a + (a + 1 - (a + 1)) ≤ k ∧ k < a + 1
  · rw [if_pos h]; congr 1; omega
  · rw [if_neg h]
theorem rot_left (f : Nat → Int) (a p : Nat) (h : a ≤ p) : rotF f a (a + 1) (p + 1 + 1) = setF (setF (rotF f a (a + 1) (p + 1)) p (rotF f a (a + 1) (p + 1) (p + 1))) (p + 1) (rotF f a (a + 1) (p + 1) p) := by
  have e1 : rotF f a (a + 1) (p + 1) (p + 1) = f (p + 1) := by unfold rotF; rw [if_neg (by omega), if_neg (by omega)]
  have e2 : rotF f a (a + 1) (p + 1) p = f a := by
    unfold rotF; rw [if_neg (by omega), if_pos (by omega)]; congr 1; omega
  rw [e1, e2]
  funext k
  unfold setF
  by_cases h1 : k = p + 1
  · rw [if_pos h1]; unfold rotF; rw [if_neg (by omega), if_pos (by omega)]; congr 1; omega
  · rw [if_neg h1]
    by_cases h2 : k = p
    · rw [if_pos h2]; unfold rotF; rw [if_pos (by omega)]; congr 1; omega
    · rw [if_neg h2]
      unfold rotF
      by_cases h3 : a ≤ k ∧ k < p
      · rw [if_pos (by omega), if_pos (by omega)]
      · rw [if_neg (by omega), if_neg (by omega), if_neg (by omega), if_neg (by omega)]

set_option maxRecDepth 100000 in
set_option maxHeartbeats 800000 in
theorem merge_one (g cap n a m b bx : Nat) (hm : m = a + 1) (f : Nat → Int) (klt : Int → Int → Bool) (lt : Int → Int → Prop) (w : World) (hd : Dat w g cap n f) (hn : n ≤ 1000000) (_hcap : cap ≤ maxLen) (hbn : b ≤ n)
    (hf : InR n f) (hp : MergePre lt f a (a + 1) b) (hc : CmpOK w g n bx klt) (C : Cmp lt klt) :
    Calls Try.prog 62 #[.slice (some ⟨g, 0, none⟩) n cap, .int .i64 (a : Int), .int .i64 (m : Int), .int .i64 (b : Int), cmpV bx] w fun e w' =>
      e = .returned (.tuple #[]) ∧ (∃ h, Merged lt f h a b ∧ Dat w' g cap n h) ∧ w.grownBy w' (some g) := by
  unfold maxLen at _hcap
  unfold cmpV
  have hab := hp.mb
  have HCM := hid hc
  have HP := hid hp
  clear hc hp
  have t0 : ((m : Int) - (a : Int) == 1) = true := by rw [beq_iff_eq]; omega
  have hma : (m : Int) = (a : Int) + 1 := by omega
  have hmn : m < n := by omega
  have ham : a < m := by omega
  have HMA := hid hma
  have HM0 := hid hm
  clear hm hma
  go_enter Try.func62, Try.ntmps62
  go_wp2
  go_loopg [10, 11] (b - m) (fun gh i j wr => ∃ p q : Nat, m ≤ p ∧ p ≤ q ∧ q ≤ b ∧ gh = q - p ∧ i = .int .i64 p ∧ j = .int .i64 q ∧ Dat wr g cap n f ∧
      Hid (∀ k, m ≤ k → k < p → lt (f k) (f a)) ∧ Hid (∀ k, q ≤ k → k < b → lt (f a) (f k)) ∧ w.grownBy wr (some g))
  case atStart => have hm := HM0.out; exact ⟨m, b, Nat.le_refl _, by omega, Nat.le_refl _, rfl, rfl, rfl, hd, hid (fun k h1 h2 => by omega), hid (fun k h1 h2 => by omega), gRefl _ _⟩
  case round =>
    obtain ⟨p, q, hp1, hpq, hqb, hg, rfl, rfl, hdat, HL, HH, hgr⟩ := hrel
    have HG := hid hg
    clear hg
    have hap : a + 1 ≤ p := by have := HM0.out; omega
    by_cases hlt : p < q
    · obtain ⟨hh, hhe⟩ : ∃ hh, hh = (p + q) / 2 := ⟨_, rfl⟩
      have h1 : p ≤ hh := by omega
      have h2 : hh < q := by omega
      have c1 := hdat.cell (k := hh) (by omega)
      have c2 := hdat.cell (k := a) (by omega)
      have b1 := hf hh (by omega)
      have b2 := hf a (by omega)
      have E := hid hhe
      have e0 : ((p : Int) + (q : Int)) / 2 = ((hh : Nat) : Int) := by omega
      clear hhe
      obtain ⟨x, hx⟩ : ∃ x, x = f hh := ⟨_, rfl⟩
      obtain ⟨y, hy⟩ : ∃ y, y = f a := ⟨_, rfl⟩
      rw [← hx] at c1 b1
      rw [← hy] at c2 b2
      have HX := hid hx
      have HY := hid hy
      clear hx hy
      have s1 : hh < n := by omega
      have s2 : a < n := by omega
      go_wp2
      go_cut [50] (fun s50 wx => s50 = .bool (klt x y) ∧ Dat wx g cap n f ∧ w.grownBy wx (some g))
      case first =>
        go_still_tail 9, (by kernel_rfl)
        change wpList _ _ _ _ _ wr.drew
        have hdw := hdat.drew
        have hgw := gDrew hgr
        generalize wr.drew = wr2 at *
        go_wp2_with (go_at_call 39; refine (HCM.out _ hgw x y b1.1 b1.2 b2.1 b2.2).mono ?_; rintro e w2 ⟨c, rfl, hc, hb⟩)
        go_meet
        exact ⟨rfl, hdw.grown (gBelow (row := none) hb) (by simp), gTrans hgw (gBelow hb)⟩
      case rest =>
        obtain ⟨rfl, hd1, hg1⟩ := hcut
        have hyx : f a < f hh := HP.out.ne a hh (Nat.le_refl _) (by omega) (by omega) (by omega)
        have HYX := hid hyx
        clear hyx
        clear c1 c2 hdat hgr
        by_cases hkl : klt x y = true
        · have hl := hid (left_yes (h := hh) C.S HP.out (by omega) ((C.iff _ _ HYX.out).1 (by rw [← HX.out, ← HY.out]; exact hkl)))
          rw [hkl]
          go_wp2
          have hg := HG.out
          go_roundg (q - (hh + 1))
          case measure => omega
          case rel => exact ⟨hh + 1, q, by omega, by omega, hqb, rfl, by go_num, rfl, hd1, hid (fun k h1 h2 => hl.out k (by have := HM0.out; omega) h2), HH, hg1⟩
        · have hl := hid (left_no (h := hh) C.S HP.out (by omega) (by omega) (fun h => hkl (by rw [HX.out, HY.out]; exact (C.iff _ _ HYX.out).2 h)))
          have hkl0 : klt x y = false := by simpa using hkl
          rw [hkl0]
          go_wp2
          have hg := HG.out
          go_roundg (hh - p)
          case measure => omega
          case rel => exact ⟨p, hh, by omega, by omega, by omega, rfl, rfl, rfl, hd1, HL, hl, hg1⟩
    · have hpe : q = p := by omega
      subst hpe
      have HM := hid (merge_left HP.out hap hqb (fun k h1 h2 => HL.out k (by have := HM0.out; omega) h2) HH.out)
      clear HL HH
      go_wp2
      go_loopg [13] (q - 1 - a) (fun gh k wr => ∃ p : Nat, a ≤ p ∧ p < q ∧ gh = q - 1 - p ∧ k = .int .i64 p ∧ Dat wr g cap n (rotF f a (a + 1) (p + 1)) ∧ w.grownBy wr (some g))
      case atStart => exact ⟨a, Nat.le_refl _, by omega, rfl, rfl, by rw [rotF_none]; exact hdat, hgr⟩
      case round =>
        clear hdat hgr
        obtain ⟨p, hp2, hp3, hg2, rfl, hdat, hgr⟩ := hrel
        have HG2 := hid hg2
        clear hg2
        by_cases hlt2 : p + 1 < q
        · have t1 : decide ((p : Int) < (q : Int) - 1) = true := by simp; omega
          have c1 := hdat.cell (k := p) (by omega)
          have c2 := hdat.cell (k := p + 1) (by omega)
          have f1 := hdat.free p
          have f2 := hdat.free (p + 1)
          have e := rot_left f a p hp2
          obtain ⟨x, hx⟩ : ∃ x, x = rotF f a (a + 1) (p + 1) p := ⟨_, rfl⟩
          obtain ⟨y, hy⟩ : ∃ y, y = rotF f a (a + 1) (p + 1) (p + 1) := ⟨_, rfl⟩
          rw [← hx] at c1 e
          rw [← hy] at c2 e
          have E3 := hid e
          clear hx hy e
          have s3 : p + 1 < n := by omega
          have s4 : p < n := by omega
          have hne : p ≠ p + 1 := by omega
          go_wp2
          go_region
          all_goals go_wp2
          have hg2 := HG2.out
          go_roundg (q - 1 - (p + 1))
          case measure => omega
          case rel =>
            refine ⟨p + 1, by omega, by omega, rfl, by go_num, ?_, gDrew (gTrans (gTrans hgr (gSet _ _ _ _)) (gSet _ _ _ _))⟩
            rw [E3.out]
            exact ((hdat.set p y).set (p + 1) x).drew
        · have hpe : p = q - 1 := by omega
          have t1 : decide ((p : Int) < (q : Int) - 1) = false := by simp; omega
          have e1 : p + 1 = q := by omega
          rw [e1] at hdat
          clear hpe e1
          go_wp2
          refine bodyPost_ret (results_none rfl _ _ _) rfl ?_
          exact ⟨rfl, ⟨_, HM.out, hdat⟩, hgr⟩

end Go.Proofs.Ythjmpiekjfnoiaa

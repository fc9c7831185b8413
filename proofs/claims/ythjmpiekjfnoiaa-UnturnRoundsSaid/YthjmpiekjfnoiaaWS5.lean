/-
  The walk of the library's symmetric merge: the great case, and all three by induction on the length.
-/
import Derived.Test.YthjmpiekjfnoiaaWS4
namespace Go.Proofs.Ythjmpiekjfnoiaa
open Go.RowKit

theorem rotF_idle (f : Nat → Int) (s m t : Nat) (h : s = m ∨ m = t) (hst : s ≤ m) (hmt : m ≤ t) : rotF f s m t = f := by
  funext k; unfold rotF
  rcases h with h | h
  · subst h
    by_cases h1 : s ≤ k ∧ k < s + (t - s)
    · rw [if_pos h1]; congr 1; omega
    · rw [if_neg h1, if_neg (by omega)]
  · subst h
    rw [if_neg (by omega)]
    by_cases h1 : s + (m - m) ≤ k ∧ k < m
    · rw [if_pos h1]; congr 1; omega
    · rw [if_neg h1]

/-- What a merge of so many elements at most does. -/
def MergeOK (g cap n bx : Nat) (klt : Int → Int → Bool) (lt : Int → Int → Prop) (N : Nat) : Prop :=
  ∀ (a m b : Nat) (f : Nat → Int) (w : World), b ≤ a + N → Dat w g cap n f → b ≤ n → InR n f → MergePre lt f a m b → CmpOK w g n bx klt →
    Calls Try.prog 62 #[.slice (some ⟨g, 0, none⟩) n cap, .int .i64 (a : Int), .int .i64 (m : Int), .int .i64 (b : Int), cmpV bx] w fun e w' =>
      e = .returned (.tuple #[]) ∧ (∃ h, Merged lt f h a b ∧ Dat w' g cap n h) ∧ w.grownBy w' (some g)

set_option maxRecDepth 100000 in
set_option maxHeartbeats 1600000 in
theorem merge_great (g cap n a m b bx : Nat) (h1 : a + 1 < m) (h2 : m + 1 < b) (f : Nat → Int) (klt : Int → Int → Bool) (lt : Int → Int → Prop) (w : World) (hd : Dat w g cap n f) (hn : n ≤ 1000000) (hcap : cap ≤ maxLen) (hbn : b ≤ n)
    (hf : InR n f) (hp : MergePre lt f a m b) (hc : CmpOK w g n bx klt) (C : Cmp lt klt) (N : Nat) (hN : b ≤ a + (N + 1)) (ih : MergeOK g cap n bx klt lt N) :
    Calls Try.prog 62 #[.slice (some ⟨g, 0, none⟩) n cap, .int .i64 (a : Int), .int .i64 (m : Int), .int .i64 (b : Int), cmpV bx] w fun e w' =>
      e = .returned (.tuple #[]) ∧ (∃ h, Merged lt f h a b ∧ Dat w' g cap n h) ∧ w.grownBy w' (some g) := by
  unfold maxLen at hcap
  unfold cmpV
  have HCM := hid hc
  have HP := hid hp
  have IH := hid ih
  clear hc hp ih
  have t0 : ((m : Int) - (a : Int) == 1) = false := by rw [beq_eq_false_iff_ne]; omega
  have t1 : ((b : Int) - (m : Int) == 1) = false := by rw [beq_eq_false_iff_ne]; omega
  have hmb : m < b := by omega
  have ham : a < m := by omega
  have hmn : m < n := by omega
  obtain ⟨mid, hmid⟩ : ∃ mid, mid = (a + b) / 2 := ⟨_, rfl⟩
  have e0 : ((a : Int) + (b : Int)) / 2 = ((mid : Nat) : Int) := by omega
  have q1 : a < mid := by omega
  have q2 : mid < b := by omega
  have q3 : b ≤ mid + mid + 1 - a := by omega
  obtain ⟨nn, hnn⟩ : ∃ nn, nn = mid + m := ⟨_, rfl⟩
  obtain ⟨pv, hpv⟩ : ∃ pv, pv = nn - 1 := ⟨_, rfl⟩
  have e10 : (mid : Int) + (m : Int) = ((nn : Nat) : Int) := by omega
  have e11 : (nn : Int) - 1 = ((pv : Nat) : Int) := by omega
  have q9 : nn ≤ 2 * n := by omega
  have q10 : 1 ≤ nn := by omega
  have q11 : pv ≤ 2 * n := by omega
  have q12 : m ≤ nn := by omega
  have HNN := hid hnn
  have HPV := hid hpv
  have HMID := hid hmid
  clear hmid hnn hpv
  go_enter Try.func62, Try.ntmps62
  go_upto_if 140 with fail
  go_cut [20, 21] (fun s20 s21 wx => ∃ lo hi : Nat, s20 = .int .i64 lo ∧ s21 = .int .i64 hi ∧ ((mid < m ∧ lo + b = mid + m ∧ hi = mid) ∨ (m ≤ mid ∧ lo = a ∧ hi = m)) ∧ w = wx)
  case first => as_aux_lemma =>
    by_cases hq : mid < m
    · have t2 : decide (mid < m) = true := by simpa using hq
      have e12 : (nn : Int) - (b : Int) = (((nn - b : Nat) : Nat) : Int) := by have := HNN.out; omega
      go_wp2_with fail
      go_meet
      exact ⟨nn - b, mid, rfl, rfl, .inl ⟨hq, by have := HNN.out; omega, rfl⟩, rfl⟩
    · have t2 : decide (mid < m) = false := by simpa using hq
      go_wp2_with fail
      go_meet
      exact ⟨a, m, rfl, rfl, .inr ⟨by omega, rfl, rfl⟩, rfl⟩
  case rest =>
    obtain ⟨lo, hi, rfl, rfl, hlh, rfl⟩ := hcut
    have q4 : lo ≤ hi := by omega
    have q5 : a ≤ lo := by omega
    have q6 : hi ≤ m := by omega
    have q7 : hi ≤ mid := by omega
    have q8 : nn ≤ b + lo := by have := HNN.out; omega
    have q13 : hi + m ≤ nn := by have := HNN.out; omega
    have HLH := hid hlh
    clear hlh
    go_wp2_with fail
    go_loopg [20, 21] (hi - lo) (fun gh i j wr => ∃ p q : Nat, lo ≤ p ∧ p ≤ q ∧ q ≤ hi ∧ gh = q - p ∧ i = .int .i64 p ∧ j = .int .i64 q ∧ Dat wr g cap n f ∧
      Hid (∀ k, lo ≤ k → k < p → lt (f k) (f (nn - 1 - k))) ∧ Hid (∀ k, q ≤ k → k < hi → lt (f (nn - 1 - k)) (f k)) ∧ w.grownBy wr (some g))
    case atStart => exact ⟨lo, hi, Nat.le_refl _, by omega, Nat.le_refl _, rfl, rfl, rfl, hd, hid (fun k h1 h2 => by omega), hid (fun k h1 h2 => by omega), gRefl _ _⟩
    case round =>
      obtain ⟨p, q, hp1, hpq, hqb, hg, rfl, rfl, hdat, HL, HH, hgr⟩ := hrel
      have HG := hid hg
      clear hg
      by_cases hlt : p < q
      · obtain ⟨hh, hhe⟩ : ∃ hh, hh = (p + q) / 2 := ⟨_, rfl⟩
        have h1 : p ≤ hh := by omega
        have h2 : hh < q := by omega
        obtain ⟨d, hde⟩ : ∃ d, d = nn - 1 - hh := ⟨_, rfl⟩
        have d1 : m ≤ d := by omega
        have d2 : d < b := by omega
        have c1 := hdat.cell (k := d) (by omega)
        have c2 := hdat.cell (k := hh) (by omega)
        have b1 := hf d (by omega)
        have b2 := hf hh (by omega)
        have E := hid hhe
        have ED := hid hde
        have e0 : ((p : Int) + (q : Int)) / 2 = ((hh : Nat) : Int) := by omega
        have e1 : (pv : Int) - (hh : Int) = ((d : Nat) : Int) := by have := HPV.out; omega
        have q14 : hh ≤ pv := by have := HPV.out; omega
        have e2 : IntKind.i64.wrap ((d : Nat) : Int) = ((d : Nat) : Int) := IntWalk.i64_in _ (by omega)
        clear hhe hde
        obtain ⟨x, hx⟩ : ∃ x, x = f d := ⟨_, rfl⟩
        obtain ⟨y, hy⟩ : ∃ y, y = f hh := ⟨_, rfl⟩
        rw [← hx] at c1 b1
        rw [← hy] at c2 b2
        have HX := hid hx
        have HY := hid hy
        clear hx hy
        have s1 : hh < n := by omega
        have s2 : d < n := by omega
        go_wp2_with fail
        go_cut [171] (fun s171 wx => s171 = .bool (!klt x y) ∧ Dat wx g cap n f ∧ w.grownBy wx (some g))
        case first => as_aux_lemma =>
          go_still_tail 11, (by kernel_rfl)
          change wpList _ _ _ _ _ wr.drew
          have hdw := hdat.drew
          have hgw := gDrew hgr
          generalize wr.drew = wr2 at *
          go_wp2_with (go_at_call 39; refine (HCM.out _ hgw x y b1.1 b1.2 b2.1 b2.2).mono ?_; rintro e w2 ⟨c, rfl, hc, hb⟩)
          go_meet
          exact ⟨rfl, hdw.grown (gBelow (row := none) hb) (by simp), gTrans hgw (gBelow hb)⟩
        case rest =>
          obtain ⟨rfl, hd1, hg1⟩ := hcut
          have hyx : f hh < f d := HP.out.ne hh d (by omega) (by omega) (by omega) (by omega)
          have HYX := hid hyx
          clear hyx
          clear c1 c2 hdat hgr
          by_cases hkl : klt x y = true
          · have hk := (C.iff _ _ HYX.out).1 (by rw [← HX.out, ← HY.out]; exact hkl)
            rw [ED.out] at hk
            have hl := hid (sym_yes (c := hh) (hi := hi) (n := nn) C.S HP.out (by omega) (by omega) (by omega) q6 (fun k hk => by omega) hk)
            clear hk
            rw [hkl]
            go_wp2_with fail
            have hg := HG.out
            go_roundg (hh - p)
            case measure => omega
            case rel => exact ⟨p, hh, by omega, by omega, by omega, rfl, rfl, rfl, hd1, HL, hl, hg1⟩
          · have hk : ¬ lt (f d) (f hh) := (fun h => hkl (by rw [HX.out, HY.out]; exact (C.iff _ _ HYX.out).2 h))
            rw [ED.out] at hk
            have hl := hid (sym_no (c := hh) (lo := lo) (n := nn) C.S HP.out q5 (by omega) (by omega) (by omega) (by omega) (by omega) hk)
            clear hk
            have hkl0 : klt x y = false := by simpa using hkl
            rw [hkl0]
            go_wp2_with fail
            have hg := HG.out
            go_roundg (q - (hh + 1))
            case measure => omega
            case rel => exact ⟨hh + 1, q, by omega, by omega, hqb, rfl, by go_num, rfl, hd1, hl, HH, hg1⟩
      · have hpe : q = p := by omega
        subst hpe
        obtain ⟨r1, r2, r3, r4, r5, r6⟩ := sym_cut C.S HP.out HMID.out HLH.out hp1 hqb (by rw [← HNN.out]; exact HL.out) (by rw [← HNN.out]; exact HH.out)
        have r7 : q ≤ mid := by omega
        have R := sym_rot HP.out r1 r2 r7 r4 r5 r6
        obtain ⟨t, hte⟩ : ∃ t, t = mid + m - q := ⟨_, rfl⟩
        rw [← hte] at R r3 r4
        clear r5 r6
        have e2 : (nn : Int) - (q : Int) = ((t : Nat) : Int) := by have := HNN.out; omega
        have e3 : IntKind.i64.wrap ((t : Nat) : Int) = ((t : Nat) : Int) := IntWalk.i64_in _ (by omega)
        have r9 : q ≤ nn := by have := HNN.out; omega
        have r8 : mid ≤ t := by omega
        have HT := hid hte
        clear hte
        obtain ⟨h, hh⟩ : ∃ h, h = rotF f q m t := ⟨_, rfl⟩
        rw [← hh] at R
        obtain ⟨R1, R2, R3, R4, R5, R6, R7, R8⟩ := R
        have K1 := hid R1
        have K2 := hid R2
        have K3 := hid R3
        have K4 := hid R4
        have K5 := hid R5
        have K6 := hid R6
        have K7 := hid R7
        have K8 := hid R8
        have EH := hid hh
        clear R1 R2 R3 R4 R5 R6 R7 R8 hh HL HH
        have hin : InR n h := hf.from hbn K1.out
        go_upto_region 39 with fail
        go_cut [185] (fun s185 wx => s185 = .bool (decide (q < m) && decide (m < t)) ∧ wr = wx)
        case first => as_aux_lemma =>
          by_cases hx : q < m
          · have t2 : decide (q < m) = true := by simpa using hx
            go_wp2_with fail
            go_meet
            exact ⟨by simp [hx], rfl⟩
          · have t2 : decide (q < m) = false := by simpa using hx
            go_wp2_with fail
            go_meet
            exact ⟨by simp [hx], rfl⟩
        case rest =>
        obtain ⟨rfl, rfl⟩ := hcut
        go_upto_if 185 with fail
        go_cut [] (fun wx => Dat wx g cap n h ∧ w.grownBy wx (some g))
        case first => as_aux_lemma =>
          by_cases hx : q < m ∧ m < t
          · have t2 : (decide (q < m) && decide (m < t)) = true := by simpa using hx
            have hx1 := hx.1
            have hx2 := hx.2
            clear hx
            rw [t2]
            go_wp2_with fail
            refine (rotate_any g cap n _ _ _ f _ _ hdat hn hcap (by omega) (by omega) (by omega)).mono ?_
            rintro e w1 ⟨rfl, hd1, hg1⟩
            go_wp2
            go_meet
            exact ⟨by rw [EH.out]; exact hd1, gTrans hgr hg1⟩
          · have hdh : Dat wr g cap n h := by rw [EH.out, rotF_idle f q m t (by omega) (by omega) (by omega)]; exact hdat
            have t2 : (decide (q < m) && decide (m < t)) = false := by simpa using hx
            clear hx
            rw [t2]
            go_wp2_with fail
            go_meet
            exact ⟨hdh, hgr⟩
        case rest =>
        obtain ⟨hd1, hg1⟩ := hcut
        clear hdat hgr
        clear hf
        obtain ⟨wa, hwa⟩ : ∃ wa : World, wa = wc := ⟨_, rfl⟩
        rw [← hwa] at hd1 hg1
        rw [← hwa]
        clear hwa
        go_upto_region 41 with fail
        go_cut [199] (fun s199 wx => s199 = .bool (decide (a < q) && decide (q < mid)) ∧ wa = wx)
        case first => as_aux_lemma =>
          by_cases hx : a < q
          · have t2 : decide (a < q) = true := by simpa using hx
            go_wp2_with fail
            go_meet
            exact ⟨by simp [hx], rfl⟩
          · have t2 : decide (a < q) = false := by simpa using hx
            go_wp2_with fail
            go_meet
            exact ⟨by simp [hx], rfl⟩
        case rest =>
        obtain ⟨rfl, rfl⟩ := hcut
        go_upto_if 199 with fail
        go_cut [] (fun wx => (∃ h1, Merged lt h h1 a mid ∧ Dat wx g cap n h1) ∧ w.grownBy wx (some g))
        case first => as_aux_lemma =>
          by_cases hx : a < q ∧ q < mid
          · have t2 : (decide (a < q) && decide (q < mid)) = true := by simpa using hx
            have hx1 := hx.1
            have hx2 := hx.2
            clear hx
            rw [t2]
            go_wp2_with fail
            refine (IH.out a q mid h _ (by omega) hd1 (by omega) hin ⟨hx1, hx2, K2.out, K3.out, K6.out⟩ (HCM.out.later hg1)).mono ?_
            rintro e w1 ⟨rfl, hd2, hg2⟩
            go_wp2
            go_meet
            exact ⟨hd2, gTrans hg1 hg2⟩
          · have t2 : (decide (a < q) && decide (q < mid)) = false := by simpa using hx
            have hm0 : Merged lt h h a mid := ⟨FromOn.refl _ _ _, by
              rcases Nat.lt_or_ge a q with hx1 | hx1
              · have : mid = q := by omega
                rw [this]; exact K2.out
              · have : a = q := by omega
                rw [this]; exact K3.out⟩
            have HM0 := hid hm0
            clear hx hm0
            rw [t2]
            go_wp2_with fail
            go_meet
            exact ⟨⟨h, HM0.out, hd1⟩, hg1⟩
        case rest =>
        obtain ⟨⟨f2, hm2, hd2⟩, hg2⟩ := hcut
        have M2 := hid hm2
        have hin2 : InR n f2 := hin.from (by omega) hm2.frm
        obtain ⟨wb, hwb⟩ : ∃ wb : World, wb = wc := ⟨_, rfl⟩
        rw [← hwb] at hd2 hg2
        rw [← hwb]
        clear hwb hm2 hd1 hg1
        go_upto_region 43 with fail
        go_cut [213] (fun s213 wx => s213 = .bool (decide (mid < t) && decide (t < b)) ∧ wb = wx)
        case first => as_aux_lemma =>
          by_cases hx : mid < t
          · have t2 : decide (mid < t) = true := by simpa using hx
            go_wp2_with fail
            go_meet
            exact ⟨by simp [hx], rfl⟩
          · have t2 : decide (mid < t) = false := by simpa using hx
            go_wp2_with fail
            go_meet
            exact ⟨by simp [hx], rfl⟩
        case rest =>
        obtain ⟨rfl, rfl⟩ := hcut
        by_cases hx : mid < t ∧ t < b
        · have t2 : (decide (mid < t) && decide (t < b)) = true := by simpa using hx
          have hx1 := hx.1
          have hx2 := hx.2
          clear hx
          rw [t2]
          go_wp2_with fail
          refine (IH.out mid t b f2 _ (by omega) hd2 (by omega) hin2 ⟨hx1, hx2, K4.out.congr (fun k k1 k2 => M2.out.frm.2 k (by omega)), K5.out.congr (fun k k1 k2 => M2.out.frm.2 k (by omega)),
            fun i j i1 i2 j1 j2 => by rw [M2.out.frm.2 i (by omega), M2.out.frm.2 j (by omega)]; exact K7.out i j i1 i2 j1 j2⟩ (HCM.out.later hg2)).mono ?_
          rintro e w1 ⟨rfl, ⟨f3, hm3, hd3⟩, hg3⟩
          go_wp2
          go_end0
          exact ⟨rfl, ⟨f3, sym_join K1.out (by omega) (by omega) M2.out hm3 K8.out, hd3⟩, gTrans hg2 hg3⟩
        · have t2 : (decide (mid < t) && decide (t < b)) = false := by simpa using hx
          have hm3 : Merged lt f2 f2 mid b := ⟨FromOn.refl _ _ _, by
            rcases Nat.lt_or_ge mid t with hx1 | hx1
            · have : b = t := by omega
              rw [this]; exact K4.out.congr (fun k k1 k2 => M2.out.frm.2 k (by omega))
            · have : mid = t := by omega
              rw [this]; exact K5.out.congr (fun k k1 k2 => M2.out.frm.2 k (by omega))⟩
          have M3 := hid hm3
          clear hx hm3
          rw [t2]
          go_wp2_with fail
          go_end0
          exact ⟨rfl, ⟨f2, sym_join K1.out (by omega) (by omega) M2.out M3.out K8.out, hd2⟩, hg2⟩

theorem merge_any (g cap n bx : Nat) (klt : Int → Int → Bool) (lt : Int → Int → Prop) (hn : n ≤ 1000000) (hcap : cap ≤ maxLen) (C : Cmp lt klt) : ∀ N, MergeOK g cap n bx klt lt N := by
  intro N
  induction N with
  | zero => intro a m b f w hb hd hbn hf hp hc; have := hp.am; have := hp.mb; omega
  | succ N ih =>
    intro a m b f w hb hd hbn hf hp hc
    have h1 := hp.am
    have h2 := hp.mb
    by_cases e1 : m = a + 1
    · exact merge_one g cap n a m b bx e1 f klt lt w hd hn hcap hbn hf (by rw [← e1]; exact hp) hc C
    · by_cases e2 : b = m + 1
      · have := merge_last g cap n a m b bx e2 (by omega) f klt lt w hd hn hcap hbn hf (by rw [← e2]; exact hp) hc C
        rw [← e2] at this
        exact this
      · exact merge_great g cap n a m b bx (by omega) (by omega) f klt lt w hd hn hcap hbn hf hp hc C N (by omega) ih

end Go.Proofs.Ythjmpiekjfnoiaa

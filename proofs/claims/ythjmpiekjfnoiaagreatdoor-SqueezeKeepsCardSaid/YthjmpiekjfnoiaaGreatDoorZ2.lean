/-
  The walk of the library's symmetric merge: the great case, and all three by induction on the length.
-/
import Derived.Test.YthjmpiekjfnoiaaGreatDoorZ1
import Derived.Below
import Derived.Shelf.Small.Bits
import Derived.Shelf.Small.Wraps
import Derived.Shelf.Strconv.Itoa0
import Derived.Shelf.Sort.Plain
import Derived.Shelf.Slices.In.SortNone
import Derived.Shelf.Bytes.IndexByte
import Derived.Test.YthjmpiekjfnoiaaGreatDoorProg
import Derived.Deep.RegionHeld3
import Derived.Shelf.Abstract
namespace Go.Proofs.YthjmpiekjfnoiaaGreatDoor
open Go.RowKit

theorem rotF_idle (f : Nat → Int) (s m t : Nat) (h : s = m ∨ m = t) (hst : s ≤ m) (hmt : m ≤ t) : rotF f s m t = f := by
  funext k; unfold rotF
  rcases h with h | h
  · subst h
    by_cases h1 : s ≤ k ∧ k < s + (t - s)
    · rw [if_pos h1]; congr 1; omega
    · rw [if_neg h1, if_neg (by omega)]
  · subst h
    rw [if_neg (by omega)]
    by_cases h1 : s + (m - m) ≤ k ∧ k < m
    · rw [if_pos h1]; congr 1; omega
    · rw [if_neg h1]

/-- What a merge of so many elements at most does. -/
def MergeOK (g cap n bx : Nat) (klt : Int → Int → Bool) (lt : Int → Int → Prop) (N : Nat) : Prop :=
  ∀ (a m b : Nat) (f : Nat → Int) (w : World), b ≤ a + N → Dat w g cap n f → b ≤ n → InR n f → MergePre lt f a m b → CmpOK w g n bx klt →
    Calls Tryz.prog 118 #[.slice (some ⟨g, 0, none⟩) n cap, .int .i64 (a : Int), .int .i64 (m : Int), .int .i64 (b : Int), cmpV bx] w fun e w' =>
      e = .returned (.tuple #[]) ∧ (∃ h, Merged lt f h a b ∧ Dat w' g cap n h) ∧ w.grownBy w' (some g)

set_option maxRecDepth 100000 in
set_option maxHeartbeats 1600000 in
theorem merge_great (g cap n a m b bx : Nat) (h1 : a + 1 < m) (h2 : m + 1 < b) (f : Nat → Int) (klt : Int → Int → Bool) (lt : Int → Int → Prop) (w : World) (hd : Dat w g cap n f) (hn : n ≤ 1000000) (hcap : cap ≤ maxLen) (hbn : b ≤ n)
    (hf : InR n f) (hp : MergePre lt f a m b) (hc : CmpOK w g n bx klt) (C : Cmp lt klt) (N : Nat) (hN : b ≤ a + (N + 1)) (ih : MergeOK g cap n bx klt lt N) :
    Calls Tryz.prog 118 #[.slice (some ⟨g, 0, none⟩) n cap, .int .i64 (a : Int), .int .i64 (m : Int), .int .i64 (b : Int), cmpV bx] w fun e w' =>
      e = .returned (.tuple #[]) ∧ (∃ h, Merged lt f h a b ∧ Dat w' g cap n h) ∧ w.grownBy w' (some g) := by
  unfold maxLen at hcap
  unfold cmpV
  have HCM := hid hc
  have HP := hid hp
  have IH := hid ih
  clear hc hp ih
  have t0 : ((m : Int) - (a : Int) == 1) = false := by rw [beq_eq_false_iff_ne]; omega
  have t1 : ((b : Int) - (m : Int) == 1) = false := by rw [beq_eq_false_iff_ne]; omega
  have hmb : m < b := by omega
  have ham : a < m := by omega
  have hmn : m < n := by omega
  obtain ⟨mid, hmid⟩ : ∃ mid, mid = (a + b) / 2 := ⟨_, rfl⟩
  have e0 : ((a : Int) + (b : Int)) / 2 = ((mid : Nat) : Int) := by omega
  have q1 : a < mid := by omega
  have q2 : mid < b := by omega
  have q3 : b ≤ mid + mid + 1 - a := by omega
  obtain ⟨nn, hnn⟩ : ∃ nn, nn = mid + m := ⟨_, rfl⟩
  obtain ⟨pv, hpv⟩ : ∃ pv, pv = nn - 1 := ⟨_, rfl⟩
  have e10 : (mid : Int) + (m : Int) = ((nn : Nat) : Int) := by omega
  have e11 : (nn : Int) - 1 = ((pv : Nat) : Int) := by omega
  have q9 : nn ≤ 2 * n := by omega
  have q10 : 1 ≤ nn := by omega
  have q11 : pv ≤ 2 * n := by omega
  have q12 : m ≤ nn := by omega
  have HNN := hid hnn
  have HPV := hid hpv
  have HMID := hid hmid
  clear hmid hnn hpv
  go_enter Tryz.func118, Tryz.ntmps118
  go_upto_if 140 with fail
  go_cut [20, 21] (fun s20 s21 wx => ∃ lo hi : Nat, s20 = .int .i64 lo ∧ s21 = .int .i64 hi ∧ ((mid < m ∧ lo + b = mid + m ∧ hi = mid) ∨ (m ≤ mid ∧ lo = a ∧ hi = m)) ∧ w = wx)
  case first => as_aux_lemma =>
    by_cases hq : mid < m
    · have t2 : decide (mid < m) = true := by simpa using hq
      have e12 : (nn : Int) - (b : Int) = (((nn - b : Nat) : Nat) : Int) := by have := HNN.out; omega
      go_wp2_with fail
      go_meet
      exact ⟨nn - b, mid, rfl, rfl, .inl ⟨hq, by have := HNN.out; omega, rfl⟩, rfl⟩
    · have t2 : decide (mid < m) = false := by simpa using hq
      go_wp2_with fail
      go_meet
      exact ⟨a, m, rfl, rfl, .inr ⟨by omega, rfl, rfl⟩, rfl⟩
  case rest =>
    obtain ⟨lo, hi, rfl, rfl, hlh, rfl⟩ := hcut
    have q4 : lo ≤ hi := by omega
    have q5 : a ≤ lo := by omega
    have q6 : hi ≤ m := by omega
    have q7 : hi ≤ mid := by omega
    have q8 : nn ≤ b + lo := by have := HNN.out; omega
    have q13 : hi + m ≤ nn := by have := HNN.out; omega
    have HLH := hid hlh
    clear hlh
    go_wp2_with fail
    go_loopg [20, 21] (hi - lo) (fun gh i j wr => ∃ p q : Nat, lo ≤ p ∧ p ≤ q ∧ q ≤ hi ∧ gh = q - p ∧ i = .int .i64 p ∧ j = .int .i64 q ∧ Dat wr g cap n f ∧
      Hid (∀ k, lo ≤ k → k < p → lt (f k) (f (nn - 1 - k))) ∧ Hid (∀ k, q ≤ k → k < hi → lt (f (nn - 1 - k)) (f k)) ∧ w.grownBy wr (some g))
    case atStart => exact ⟨lo, hi, Nat.le_refl _, by omega, Nat.le_refl _, rfl, rfl, rfl, hd, hid (fun k h1 h2 => by omega), hid (fun k h1 h2 => by omega), gRefl _ _⟩
    case round =>
      obtain ⟨p, q, hp1, hpq, hqb, hg, rfl, rfl, hdat, HL, HH, hgr⟩ := hrel
      have HG := hid hg
      clear hg
      by_cases hlt : p < q
      · obtain ⟨hh, hhe⟩ : ∃ hh, hh = (p + q) / 2 := ⟨_, rfl⟩
        have h1 : p ≤ hh := by omega
        have h2 : hh < q := by omega
        obtain ⟨d, hde⟩ : ∃ d, d = nn - 1 - hh := ⟨_, rfl⟩
        have d1 : m ≤ d := by omega
        have d2 : d < b := by omega
        have c1 := hdat.cell (k := d) (by omega)
        have c2 := hdat.cell (k := hh) (by omega)
        have b1 := hf d (by omega)
        have b2 := hf hh (by omega)
        have E := hid hhe
        have ED := hid hde
        have e0 : ((p : Int) + (q : Int)) / 2 = ((hh : Nat) : Int) := by omega
        have e1 : (pv : Int) - (hh : Int) = ((d : Nat) : Int) := by have := HPV.out; omega
        have q14 : hh ≤ pv := by have := HPV.out; omega
        have e2 : IntKind.i64.wrap ((d : Nat) : Int) = ((d : Nat) : Int) := IntWalk.i64_in _ (by omega)
        clear hhe hde
        obtain ⟨x, hx⟩ : ∃ x, x = f d := ⟨_, rfl⟩
        obtain ⟨y, hy⟩ : ∃ y, y = f hh := ⟨_, rfl⟩
        rw [← hx] at c1 b1
        rw [← hy] at c2 b2
        have HX := hid hx
        have HY := hid hy
        clear hx hy
        have s1 : hh < n := by omega
        have s2 : d < n := by omega
        go_wp2_with fail
        go_cut [171] (fun s171 wx => s171 = .bool (!klt x y) ∧ Dat wx g cap n f ∧ w.grownBy wx (some g))
        case first => as_aux_lemma =>
          go_still_tail 11, (by kernel_rfl)
          change wpList _ _ _ _ _ wr.drew
          have hdw := hdat.drew
          have hgw := gDrew hgr
          generalize wr.drew = wr2 at *
          go_wp2_with (go_at_call 93; refine (HCM.out _ hgw x y b1.1 b1.2 b2.1 b2.2).mono ?_; rintro e w2 ⟨c, rfl, hc, hb⟩)
          go_meet
          exact ⟨rfl, hdw.grown (gBelow (row := none) hb) (by simp), gTrans hgw (gBelow hb)⟩
        case rest =>
          obtain ⟨rfl, hd1, hg1⟩ := hcut
          have hyx : f hh < f d := HP.out.ne hh d (by omega) (by omega) (by omega) (by omega)
          have HYX := hid hyx
          clear hyx
          clear c1 c2 hdat hgr
          by_cases hkl : klt x y = true
          · have hk := (C.iff _ _ HYX.out).1 (by rw [← HX.out, ← HY.out]; exact hkl)
            rw [ED.out] at hk
            have hl := hid (sym_yes (c := hh) (hi := hi) (n := nn) C.S HP.out (by omega) (by omega) (by omega) q6 (fun k hk => by omega) hk)
            clear hk
            rw [hkl]
            go_wp2_with fail
            have hg := HG.out
            go_roundg (hh - p)
            case measure => omega
            case rel => exact ⟨p, hh, by omega, by omega, by omega, rfl, rfl, rfl, hd1, HL, hl, hg1⟩
          · have hk : ¬ lt (f d) (f hh) := (fun h => hkl (by rw [HX.out, HY.out]; exact (C.iff _ _ HYX.out).2 h))
            rw [ED.out] at hk
            have hl := hid (sym_no (c := hh) (lo := lo) (n := nn) C.S HP.out q5 (by omega) (by omega) (by omega) (by omega) (by omega) hk)
            clear hk
            have hkl0 : klt x y = false := by simpa using hkl
            rw [hkl0]
            go_wp2_with fail
            have hg := HG.out
            go_roundg (q - (hh + 1))
            case measure => omega
            case rel => exact ⟨hh + 1, q, by omega, by omega, hqb, rfl, by go_num, rfl, hd1, hl, HH, hg1⟩
      · have hpe : q = p := by omega
        subst hpe
        obtain ⟨r1, r2, r3, r4, r5, r6⟩ := sym_cut C.S HP.out HMID.out HLH.out hp1 hqb (by rw [← HNN.out]; exact HL.out) (by rw [← HNN.out]; exact HH.out)
        have r7 : q ≤ mid := by omega
        have R := sym_rot HP.out r1 r2 r7 r4 r5 r6
        obtain ⟨t, hte⟩ : ∃ t, t = mid + m - q := ⟨_, rfl⟩
        rw [← hte] at R r3 r4
        clear r5 r6
        have e2 : (nn : Int) - (q : Int) = ((t : Nat) : Int) := by have := HNN.out; omega
        have e3 : IntKind.i64.wrap ((t : Nat) : Int) = ((t : Nat) : Int) := IntWalk.i64_in _ (by omega)
        have r9 : q ≤ nn := by have := HNN.out; omega
        have r8 : mid ≤ t := by omega
        have HT := hid hte
        clear hte
        obtain ⟨h, hh⟩ : ∃ h, h = rotF f q m t := ⟨_, rfl⟩
        rw [← hh] at R
        obtain ⟨R1, R2, R3, R4, R5, R6, R7, R8⟩ := R
        have K1 := hid R1
        have K2 := hid R2
        have K3 := hid R3
        have K4 := hid R4
        have K5 := hid R5
        have K6 := hid R6
        have K7 := hid R7
        have K8 := hid R8
        have EH := hid hh
        clear R1 R2 R3 R4 R5 R6 R7 R8 hh HL HH
        have hin : InR n h := hf.from hbn K1.out
        go_upto_region 39 with fail
        go_cut [185] (fun s185 wx => s185 = .bool (decide (q < m) && decide (m < t)) ∧ wr = wx)
        case first => as_aux_lemma =>
          by_cases hx : q < m
          · have t2 : decide (q < m) = true := by simpa using hx
            go_wp2_with fail
            go_meet
            exact ⟨by simp [hx], rfl⟩
          · have t2 : decide (q < m) = false := by simpa using hx
            go_wp2_with fail
            go_meet
            exact ⟨by simp [hx], rfl⟩
        case rest =>
        obtain ⟨rfl, rfl⟩ := hcut
        go_upto_if 185 with fail
        go_cut [] (fun wx => Dat wx g cap n h ∧ w.grownBy wx (some g))
        case first => as_aux_lemma =>
          by_cases hx : q < m ∧ m < t
          · have t2 : (decide (q < m) && decide (m < t)) = true := by simpa using hx
            have hx1 := hx.1
            have hx2 := hx.2
            clear hx
            rw [t2]
            go_wp2_with fail
            refine (rotate_any g cap n _ _ _ f _ _ hdat hn hcap (by omega) (by omega) (by omega)).mono ?_
            rintro e w1 ⟨rfl, hd1, hg1⟩
            go_wp2
            go_meet
            exact ⟨by rw [EH.out]; exact hd1, gTrans hgr hg1⟩
          · have hdh : Dat wr g cap n h := by rw [EH.out, rotF_idle f q m t (by omega) (by omega) (by omega)]; exact hdat
            have t2 : (decide (q < m) && decide (m < t)) = false := by simpa using hx
            clear hx
            rw [t2]
            go_wp2_with fail
            go_meet
            exact ⟨hdh, hgr⟩
        case rest =>
        obtain ⟨hd1, hg1⟩ := hcut
        clear hdat hgr
        clear hf
        obtain ⟨wa, hwa⟩ : ∃ wa : World, wa = wc := ⟨_, rfl⟩
        rw [← hwa] at hd1 hg1
        rw [← hwa]
        clear hwa
        go_upto_region 41 with fail
        go_cut [199] (fun s199 wx => s199 = .bool (decide (a < q) && decide (q < mid)) ∧ wa = wx)
        case first => as_aux_lemma =>
          by_cases hx : a < q
          · have t2 : decide (a < q) = true := by simpa using hx
            go_wp2_with fail
            go_meet
            exact ⟨by simp [hx], rfl⟩
          · have t2 : decide (a < q) = false := by simpa using hx
            go_wp2_with fail
            go_meet
            exact ⟨by simp [hx], rfl⟩
        case rest =>
        obtain ⟨rfl, rfl⟩ := hcut
        go_upto_if 199 with fail
        go_cut [] (fun wx => (∃ h1, Merged lt h h1 a mid ∧ Dat wx g cap n h1) ∧ w.grownBy wx (some g))
        case first => as_aux_lemma =>
          by_cases hx : a < q ∧ q < mid
          · have t2 : (decide (a < q) && decide (q < mid)) = true := by simpa using hx
            have hx1 := hx.1
            have hx2 := hx.2
            clear hx
            rw [t2]
            go_wp2_with fail
            refine (IH.out a q mid h _ (by omega) hd1 (by omega) hin ⟨hx1, hx2, K2.out, K3.out, K6.out⟩ (HCM.out.later hg1)).mono ?_
            rintro e w1 ⟨rfl, hd2, hg2⟩
            go_wp2
            go_meet
            exact ⟨hd2, gTrans hg1 hg2⟩
          · have t2 : (decide (a < q) && decide (q < mid)) = false := by simpa using hx
            have hm0 : Merged lt h h a mid := ⟨FromOn.refl _ _ _, by
              rcases Nat.lt_or_ge a q with hx1 | hx1
              · have : mid = q := by omega
                rw [this]; exact K2.out
              · have : a = q := by omega
                rw [this]; exact K3.out⟩
            have HM0 := hid hm0
            clear hx hm0
            rw [t2]
            go_wp2_with fail
            go_meet
            exact ⟨⟨h, HM0.out, hd1⟩, hg1⟩
        case rest =>
        obtain ⟨⟨f2, hm2, hd2⟩, hg2⟩ := hcut
        have M2 := hid hm2
        have hin2 : InR n f2 := hin.from (by omega) hm2.frm
        obtain ⟨wb, hwb⟩ : ∃ wb : World, wb = wc := ⟨_, rfl⟩
        rw [← hwb] at hd2 hg2
        rw [← hwb]
        clear hwb hm2 hd1 hg1
        go_upto_region 43 with fail
        go_cut [213] (fun s213 wx => s213 = .bool (decide (mid < t) && decide (t < b)) ∧ wb = wx)
        case first => as_aux_lemma =>
          by_cases hx : mid < t
          · have t2 : decide (mid < t) = true := by simpa using hx
            go_wp2_with fail
            go_meet
            exact ⟨by simp [hx], rfl⟩
          · have t2 : decide (mid < t) = false := by simpa using hx
            go_wp2_with fail
            go_meet
            exact ⟨by simp [hx], rfl⟩
        case rest =>
        obtain ⟨rfl, rfl⟩ := hcut
        by_cases hx : mid < t ∧ t < b
        · have t2 : (decide (mid < t) && decide (t < b)) = true := by simpa using hx
          have hx1 := hx.1
          have hx2 := hx.2
          clear hx
          rw [t2]
          go_wp2_with fail
          refine (IH.out mid t b f2 _ (by omega) hd2 (by omega) hin2 ⟨hx1, hx2, K4.out.congr (fun k k1 k2 => M2.out.frm.2 k (by omega)), K5.out.congr (fun k k1 k2 => M2.out.frm.2 k (by omega)),
            fun i j i1 i2 j1 j2 => by rw [M2.out.frm.2 i (by omega), M2.out.frm.2 j (by omega)]; exact K7.out i j i1 i2 j1 j2⟩ (HCM.out.later hg2)).mono ?_
          rintro e w1 ⟨rfl, ⟨f3, hm3, hd3⟩, hg3⟩
          go_wp2
          go_end0
          exact ⟨rfl, ⟨f3, sym_join K1.out (by omega) (by omega) M2.out hm3 K8.out, hd3⟩, gTrans hg2 hg3⟩
        · have t2 : (decide (mid < t) && decide (t < b)) = false := by simpa using hx
          have hm3 : Merged lt f2 f2 mid b := ⟨FromOn.refl _ _ _, by
            rcases Nat.lt_or_ge mid t with hx1 | hx1
            · have : b = t := by omega
              rw [this]; exact K4.out.congr (fun k k1 k2 => M2.out.frm.2 k (by omega))
            · have : mid = t := by omega
              rw [this]; exact K5.out.congr (fun k k1 k2 => M2.out.frm.2 k (by omega))⟩
          have M3 := hid hm3
          clear hx hm3
          rw [t2]
          go_wp2_with fail
          go_end0
          exact ⟨rfl, ⟨f2, sym_join K1.out (by omega) (by omega) M2.out M3.out K8.out, hd2⟩, hg2⟩

theorem merge_any (g cap n bx : Nat) (klt : Int → Int → Bool) (lt : Int → Int → Prop) (hn : n ≤ 1000000) (hcap : cap ≤ maxLen) (C : Cmp lt klt) : ∀ N, MergeOK g cap n bx klt lt N := by
  intro N
  induction N with
  | zero => intro a m b f w hb hd hbn hf hp hc; have := hp.am; have := hp.mb; omega
  | succ N ih =>
    intro a m b f w hb hd hbn hf hp hc
    have h1 := hp.am
    have h2 := hp.mb
    by_cases e1 : m = a + 1
    · exact merge_one g cap n a m b bx e1 f klt lt w hd hn hcap hbn hf (by rw [← e1]; exact hp) hc C
    · by_cases e2 : b = m + 1
      · have := merge_last g cap n a m b bx e2 (by omega) f klt lt w hd hn hcap hbn hf (by rw [← e2]; exact hp) hc C
        rw [← e2] at this
        exact this
      · exact merge_great g cap n a m b bx (by omega) (by omega) f klt lt w hd hn hcap hbn hf hp hc C N (by omega) ih

end Go.Proofs.YthjmpiekjfnoiaaGreatDoor

/-
  The walk of the library's stable sort.
-/
namespace Go.Proofs.YthjmpiekjfnoiaaGreatDoor
open Go.RowKit

/-- From a to b: what was there, in order. -/
structure BlkOK (lt : Int → Int → Prop) (f g : Nat → Int) (a b : Nat) : Prop where
  frm : ∀ k, a ≤ k → k < b → ∃ k', a ≤ k' ∧ k' < b ∧ g k = f k'
  srt : SortedOn lt g a b

theorem BlkOK.congr {lt : Int → Int → Prop} {f g h : Nat → Int} {a b : Nat} (p : BlkOK lt f g a b) (e : ∀ k, a ≤ k → k < b → h k = g k) : BlkOK lt f h a b :=
  ⟨fun k h1 h2 => by rw [e k h1 h2]; exact p.frm k h1 h2, p.srt.congr e⟩
theorem BlkOK.empty {lt : Int → Int → Prop} {f g : Nat → Int} {a b : Nat} (h : b ≤ a) : BlkOK lt f g a b :=
  ⟨fun k h1 h2 => by omega, SortedOn.tiny _ _ _ (by omega)⟩

theorem dvd_next {d a a' : Nat} (h : d ∣ a) (h' : d ∣ a') (hl : a' < a + d) : a' ≤ a := by
  rcases Nat.lt_or_ge a a' with h1 | h1
  · have h2 : d ∣ a' - a := Nat.dvd_sub h' h
    have h3 : a' - a = 0 := Nat.eq_zero_of_dvd_of_lt h2 (by omega)
    omega
  · exact h1

/-- All blocks of so many that begin from lo on and ahead of hi. -/
def Blks (lt : Int → Int → Prop) (f g : Nat → Int) (d lo hi n : Nat) : Prop := ∀ a, d ∣ a → lo ≤ a → a < hi → BlkOK lt f g a (min (a + d) n)

theorem blk_ins {lt : Int → Int → Prop} {f g h : Nat → Int} {a b : Nat} (hm : Merged lt g h a b) (hfg : ∀ k, a ≤ k → g k = f k) : BlkOK lt f h a b :=
  ⟨fun k h1 h2 => by obtain ⟨k', p, q, r⟩ := hm.frm.1 k h1 h2; exact ⟨k', p, q, by rw [r, hfg k' p]⟩, hm.srt⟩

theorem blk_pre {lt : Int → Int → Prop} {f g : Nat → Int} {a m b n : Nat} (hr : Rising f 0 n) (hbn : b ≤ n) (ham : a < m) (hmb : m < b) (h1 : BlkOK lt f g a m) (h2 : BlkOK lt f g m b) : MergePre lt g a m b :=
  ⟨ham, hmb, h1.srt, h2.srt, fun i j i1 i2 j1 j2 => by
    obtain ⟨i', p1, p2, p3⟩ := h1.frm i i1 i2
    obtain ⟨j', r1, r2, r3⟩ := h2.frm j j1 j2
    rw [p3, r3]; exact hr i' j' (by omega) (by omega) (by omega)⟩

theorem blk_merge {lt : Int → Int → Prop} {f g h : Nat → Int} {a m b : Nat} (ham : a ≤ m) (hmb : m ≤ b) (h1 : BlkOK lt f g a m) (h2 : BlkOK lt f g m b) (hm : Merged lt g h a b) : BlkOK lt f h a b :=
  ⟨fun k k1 k2 => by
    obtain ⟨k', p1, p2, p3⟩ := hm.frm.1 k k1 k2
    rcases Nat.lt_or_ge k' m with hk | hk
    · obtain ⟨q, q1, q2, q3⟩ := h1.frm k' p1 hk; exact ⟨q, q1, by omega, by rw [p3, q3]⟩
    · obtain ⟨q, q1, q2, q3⟩ := h2.frm k' hk p2; exact ⟨q, by omega, q2, by rw [p3, q3]⟩, hm.srt⟩

theorem half_dvd {d p : Nat} (h : 2 * d ∣ p) : d ∣ p := Nat.dvd_trans (Nat.dvd_mul_left d 2) h

theorem blks_pre {lt : Int → Int → Prop} {f h : Nat → Int} {d p n : Nat} (hr : Rising f 0 n) (hd : 0 < d) (k1 : 2 * d ∣ p) (hlt : p + 2 * d ≤ n) (k3 : Blks lt f h d p n n) : MergePre lt h p (p + d) (p + 2 * d) := by
  have b1 := k3 p (half_dvd k1) (Nat.le_refl _) (by omega)
  have b2 := k3 (p + d) (Nat.dvd_add (half_dvd k1) (Nat.dvd_refl _)) (by omega) (by omega)
  rw [show min (p + d) n = p + d by omega] at b1
  rw [show min (p + d + d) n = p + 2 * d by omega] at b2
  exact blk_pre hr hlt (by omega) (by omega) b1 b2

theorem blks_pre_end {lt : Int → Int → Prop} {f h : Nat → Int} {d p n : Nat} (hr : Rising f 0 n) (hd : 0 < d) (k1 : 2 * d ∣ p) (hmn : p + d < n) (hlt : n < p + 2 * d) (k3 : Blks lt f h d p n n) : MergePre lt h p (p + d) n := by
  have b1 := k3 p (half_dvd k1) (Nat.le_refl _) (by omega)
  have b2 := k3 (p + d) (Nat.dvd_add (half_dvd k1) (Nat.dvd_refl _)) (by omega) (by omega)
  rw [show min (p + d) n = p + d by omega] at b1
  rw [show min (p + d + d) n = n by omega] at b2
  exact blk_pre hr (Nat.le_refl _) (by omega) (by omega) b1 b2

theorem blks_step {lt : Int → Int → Prop} {f h h2 : Nat → Int} {d p n : Nat} (hd : 0 < d) (k1 : 2 * d ∣ p) (hlt : p + 2 * d ≤ n) (k2 : Blks lt f h (2 * d) 0 p n) (k3 : Blks lt f h d p n n) (hm : Merged lt h h2 p (p + 2 * d)) :
    Blks lt f h2 (2 * d) 0 (p + 2 * d) n ∧ Blks lt f h2 d (p + 2 * d) n n := by
  have b1 := k3 p (half_dvd k1) (Nat.le_refl _) (by omega)
  have b2 := k3 (p + d) (Nat.dvd_add (half_dvd k1) (Nat.dvd_refl _)) (by omega) (by omega)
  rw [show min (p + d) n = p + d by omega] at b1
  rw [show min (p + d + d) n = p + 2 * d by omega] at b2
  refine ⟨fun a a1 _ a3 => ?_, fun a a1 a2 a3 => ?_⟩
  · rcases Nat.lt_or_ge a p with ha | ha
    · refine (k2 a a1 (Nat.zero_le _) ha).congr (fun k q1 q2 => hm.frm.2 k ?_)
      have : a + 2 * d ≤ p := by
        rcases Nat.lt_or_ge p (a + 2 * d) with q | q
        · have := dvd_next a1 k1 q; omega
        · exact q
      omega
    · have : a = p := by have := dvd_next k1 a1 a3; omega
      subst this
      rw [Nat.min_eq_left hlt]
      exact blk_merge (by omega) (by omega) b1 b2 hm
  · exact (k3 a a1 (by omega) a3).congr (fun k q1 q2 => hm.frm.2 k (by omega))

theorem blks_end {lt : Int → Int → Prop} {f h h2 : Nat → Int} {d p n : Nat} (hd : 0 < d) (k1 : 2 * d ∣ p) (hmn : p + d < n) (hlt : n < p + 2 * d) (k2 : Blks lt f h (2 * d) 0 p n) (k3 : Blks lt f h d p n n) (hm : Merged lt h h2 p n) :
    Blks lt f h2 (2 * d) 0 n n := by
  have b1 := k3 p (half_dvd k1) (Nat.le_refl _) (by omega)
  have b2 := k3 (p + d) (Nat.dvd_add (half_dvd k1) (Nat.dvd_refl _)) (by omega) (by omega)
  rw [show min (p + d) n = p + d by omega] at b1
  rw [show min (p + d + d) n = n by omega] at b2
  intro a a1 _ a3
  rcases Nat.lt_or_ge a p with ha | ha
  · refine (k2 a a1 (Nat.zero_le _) ha).congr (fun k q1 q2 => hm.frm.2 k ?_)
    have : a + 2 * d ≤ p := by
      rcases Nat.lt_or_ge p (a + 2 * d) with q | q
      · have := dvd_next a1 k1 q; omega
      · exact q
    omega
  · have : a = p := by have := dvd_next k1 a1 (by omega); omega
    subst this
    rw [Nat.min_eq_right (by omega)]
    exact blk_merge (by omega) (by omega) b1 b2 hm

theorem blks_none {lt : Int → Int → Prop} {f h : Nat → Int} {d p n : Nat} (hd : 0 < d) (k1 : 2 * d ∣ p) (hmn : n ≤ p + d) (k2 : Blks lt f h (2 * d) 0 p n) (k3 : Blks lt f h d p n n) : Blks lt f h (2 * d) 0 n n := by
  intro a a1 _ a3
  rcases Nat.lt_or_ge a p with ha | ha
  · exact k2 a a1 (Nat.zero_le _) ha
  · have : a = p := by have := dvd_next k1 a1 (by omega); omega
    subst this
    have b1 := k3 a (half_dvd k1) (Nat.le_refl _) a3
    rw [show min (a + d) n = n by omega] at b1
    rwa [show min (a + 2 * d) n = n by omega]

set_option maxRecDepth 100000 in
set_option maxHeartbeats 1600000 in
theorem stable_any (g cap n bx : Nat) (f : Nat → Int) (klt : Int → Int → Bool) (lt : Int → Int → Prop) (w : World) (hd : Dat w g cap n f) (hn : n ≤ 1000000) (hcap : cap ≤ maxLen)
    (hf : InR n f) (hr : Rising f 0 n) (hc : CmpOK w g n bx klt) (C : Cmp lt klt) :
    Calls Tryz.prog 109 #[.slice (some ⟨g, 0, none⟩) n cap, .int .i64 (n : Int), cmpV bx] w fun e w' =>
      e = .returned (.tuple #[]) ∧ (∃ h, BlkOK lt f h 0 n ∧ Dat w' g cap n h) ∧ w.grownBy w' (some g) := by
  have hcap' := hcap
  unfold maxLen at hcap
  unfold cmpV
  have HCAP := hid hcap'
  have HCM := hid hc
  have HR := hid hr
  have HF := hid hf
  clear hc hr hcap' hf
  go_enter Tryz.func109, Tryz.ntmps109
  go_wp2
  go_loopg [7, 8] n (fun gh i j wr => ∃ (p : Nat) (h : Nat → Int), p ≤ n ∧ gh = n - p ∧ i = .int .i64 p ∧ j = .int .i64 ((p + 20 : Nat) : Int) ∧ Dat wr g cap n h ∧
      Hid (20 ∣ p ∧ Blks lt f h 20 0 p n ∧ (∀ k, p ≤ k → h k = f k) ∧ InR n h) ∧ w.grownBy wr (some g))
  case atStart => exact ⟨0, f, Nat.zero_le _, rfl, rfl, rfl, hd, hid ⟨Nat.dvd_zero _, fun a h1 h2 h3 => by omega, fun k _ => rfl, HF.out⟩, gRefl _ _⟩
  case round =>
    obtain ⟨p, h, hp, hg, rfl, rfl, hdat, HH, hgr⟩ := hrel
    have HG := hid hg
    clear hg
    by_cases hlt : p + 20 ≤ n
    · have t1 : decide (((p + 20 : Nat) : Int) ≤ (n : Int)) = true := by simp; omega
      have t2 : decide (p + 20 ≤ n) = true := by simpa using hlt
      go_wp2_with fail
      refine (insertion_any g cap n p (p + 20) bx h klt lt _ hdat hn HCAP.out (by omega) hlt HH.out.2.2.2 (fun i j i1 i2 i3 => by rw [HH.out.2.2.1 i i1, HH.out.2.2.1 j (by omega)]; exact HR.out i j (by omega) i2 (by omega)) (HCM.out.later hgr) C).mono ?_
      rintro e w1 ⟨rfl, ⟨h2, hm, hd1⟩, hg1⟩
      have HM := hid hm
      clear hm
      go_wp2
      have hg := HG.out
      go_roundg (n - (p + 20))
      case measure => omega
      case rel =>
        obtain ⟨k1, k2, k3, k4⟩ := HH.out
        refine ⟨p + 20, h2, hlt, rfl, by go_num, by go_num, hd1, hid ⟨by omega, fun a a1 _ a3 => ?_, fun k hk => ?_, k4.from hlt HM.out.frm⟩, gTrans hgr hg1⟩
        · rcases Nat.lt_or_ge a p with ha | ha
          · exact (k2 a a1 (Nat.zero_le _) ha).congr (fun k q1 q2 => HM.out.frm.2 k (by omega))
          · have : a = p := by omega
            subst this
            rw [Nat.min_eq_left hlt]
            exact blk_ins HM.out k3
        · rw [HM.out.frm.2 k (by omega)]; exact k3 k (by omega)
    · have t1 : decide (((p + 20 : Nat) : Int) ≤ (n : Int)) = false := by simp; omega
      have t2 : decide (p + 20 ≤ n) = false := by simpa using hlt
      go_wp2_with fail
      refine (insertion_any g cap n p n bx h klt lt _ hdat hn HCAP.out (by omega) (Nat.le_refl _) HH.out.2.2.2 (fun i j i1 i2 i3 => by rw [HH.out.2.2.1 i i1, HH.out.2.2.1 j (by omega)]; exact HR.out i j (by omega) i2 (by omega)) (HCM.out.later hgr) C).mono ?_
      rintro e w1 ⟨rfl, ⟨h2, hm, hd1⟩, hg1⟩
      have hb : Blks lt f h2 20 0 n n := by
        obtain ⟨k1, k2, k3, k4⟩ := HH.out
        intro a a1 _ a3
        rcases Nat.lt_or_ge a p with ha | ha
        · exact (k2 a a1 (Nat.zero_le _) ha).congr (fun k q1 q2 => hm.frm.2 k (by omega))
        · have : a = p := by omega
          subst this
          rw [Nat.min_eq_right (by omega)]
          exact blk_ins hm k3
      have HB := hid hb
      have hin : InR n h2 := HH.out.2.2.2.from (Nat.le_refl _) hm.frm
      have HIN := hid hin
      have hg1' := gTrans hgr hg1
      clear hb hm HH hdat hgr hin hg1
      go_wp2_with fail
      go_loopg [6, 7, 8, 9] (n - 20) (fun gh s6 s7 s8 s9 wr => ∃ (d : Nat) (h : Nat → Int), 20 ≤ d ∧ d ≤ 2 * n + 20 ∧ gh = n - d ∧ s6 = .int .i64 d ∧ Dat wr g cap n h ∧ Hid (Blks lt f h d 0 n n ∧ InR n h) ∧ w.grownBy wr (some g))
      case atStart => exact ⟨20, h2, Nat.le_refl _, by omega, rfl, rfl, hd1, hid ⟨HB.out, HIN.out⟩, hg1'⟩
      case round =>
        obtain ⟨d, h, hq1, hq2, hg, rfl, hdat, HH, hgr⟩ := hrel
        have HG2 := hid hg
        clear hg hd1 hg1'
        by_cases hdn : d < n
        · have t3 : decide (d < n) = true := by simpa using hdn
          obtain ⟨wo, rfl⟩ : ∃ wo : World, wo = wr := ⟨_, rfl⟩
          go_wp2_with fail
          go_loopg [7, 8] n (fun gh s7 s8 wr => ∃ (p : Nat) (h : Nat → Int), p ≤ n ∧ gh = n - p ∧ s7 = .int .i64 p ∧ s8 = .int .i64 ((p + 2 * d : Nat) : Int) ∧ Dat wr g cap n h ∧
              Hid (2 * d ∣ p ∧ Blks lt f h (2 * d) 0 p n ∧ Blks lt f h d p n n ∧ InR n h) ∧ w.grownBy wr (some g))
          case atStart => exact ⟨0, h, Nat.zero_le _, rfl, rfl, by go_num, hdat, hid ⟨Nat.dvd_zero _, fun a _ _ h3 => by omega, HH.out.1, HH.out.2⟩, hgr⟩
          case round =>
            clear hdat HH hgr
            obtain ⟨p, h, hp, hg, rfl, rfl, hdat, HH, hgr⟩ := hrel
            have HG3 := hid hg
            clear hg
            by_cases hlt : p + 2 * d ≤ n
            · have t1 : decide (((p + 2 * d : Nat) : Int) ≤ (n : Int)) = true := by simp; omega
              have t2 : decide (p + 2 * d ≤ n) = true := by simpa using hlt
              have hpre := hid (blks_pre HR.out (by omega) HH.out.1 hlt HH.out.2.2.1)
              go_wp2_with fail
              refine (merge_any g cap n bx klt lt hn HCAP.out C n p (p + d) (p + 2 * d) h _ (by omega) hdat hlt HH.out.2.2.2 hpre.out (HCM.out.later hgr)).mono ?_
              rintro e w1 ⟨rfl, ⟨h2, hm, hd1⟩, hg1⟩
              have HM := hid hm
              clear hm
              go_wp2_with fail
              have hg := HG3.out
              go_roundg (n - (p + 2 * d))
              case measure => omega
              case rel =>
                obtain ⟨k1, k2, k3, k4⟩ := HH.out
                obtain ⟨m1, m2⟩ := blks_step (by omega) k1 hlt k2 k3 HM.out
                exact ⟨p + 2 * d, h2, hlt, rfl, by go_num, by go_num, hd1, hid ⟨Nat.dvd_add k1 (Nat.dvd_refl _), m1, m2, k4.from hlt HM.out.frm⟩, gTrans hgr hg1⟩
            · have t1 : decide (((p + 2 * d : Nat) : Int) ≤ (n : Int)) = false := by simp; omega
              have t2 : decide (p + 2 * d ≤ n) = false := by simpa using hlt
              by_cases hmn : p + d < n
              · have t4 : decide (p + d < n) = true := by simpa using hmn
                have hpre := hid (blks_pre_end HR.out (by omega) HH.out.1 hmn (by omega) HH.out.2.2.1)
                go_wp2_with fail
                refine (merge_any g cap n bx klt lt hn HCAP.out C n p (p + d) n h _ (by omega) hdat (Nat.le_refl _) HH.out.2.2.2 hpre.out (HCM.out.later hgr)).mono ?_
                rintro e w1 ⟨rfl, ⟨h2, hm, hd1⟩, hg1⟩
                have HM := hid hm
                clear hm
                go_wp2_with fail
                have hg := HG2.out
                go_roundg (n - 2 * d)
                case measure => omega
                case rel =>
                  obtain ⟨k1, k2, k3, k4⟩ := HH.out
                  exact ⟨2 * d, h2, by omega, by omega, rfl, by go_num, hd1, hid ⟨blks_end (by omega) k1 hmn (by omega) k2 k3 HM.out, k4.from (Nat.le_refl _) HM.out.frm⟩, gTrans hgr hg1⟩
              · have t4 : decide (p + d < n) = false := by simpa using hmn
                go_wp2_with fail
                have hg := HG2.out
                go_roundg (n - 2 * d)
                case measure => omega
                case rel =>
                  obtain ⟨k1, k2, k3, k4⟩ := HH.out
                  exact ⟨2 * d, h, by omega, by omega, rfl, by go_num, hdat, hid ⟨blks_none (by omega) k1 (by omega) k2 k3, k4⟩, hgr⟩
        · have t3 : decide (d < n) = false := by simpa using hdn
          have hb : BlkOK lt f h 0 n := by
            rcases Nat.eq_zero_or_pos n with h0 | h0
            · exact BlkOK.empty (by omega)
            · have := HH.out.1 0 (Nat.dvd_zero _) (Nat.zero_le _) h0
              rwa [show min (0 + d) n = n by omega] at this
          have HB := hid hb
          clear hb
          go_wp2_with fail
          go_end0
          exact ⟨rfl, ⟨h, HB.out, hdat⟩, hgr⟩

set_option maxRecDepth 100000 in
/-- The library's stable sort. -/
theorem sortStable_any (g cap n bx : Nat) (f : Nat → Int) (klt : Int → Int → Bool) (lt : Int → Int → Prop) (w : World) (hd : Dat w g cap n f) (hn : n ≤ 1000000) (hcap : cap ≤ maxLen)
    (hf : InR n f) (hr : Rising f 0 n) (hc : CmpOK w g n bx klt) (C : Cmp lt klt) :
    Calls Tryz.prog 92 #[.slice (some ⟨g, 0, none⟩) n cap, cmpV bx] w fun e w' =>
      e = .returned (.tuple #[]) ∧ (∃ h, BlkOK lt f h 0 n ∧ Dat w' g cap n h) ∧ w.grownBy w' (some g) := by
  have hs := stable_any g cap n bx f klt lt w hd hn hcap hf hr hc C
  unfold maxLen at hcap
  unfold cmpV at hs ⊢
  have HS := hid hs
  clear hs hc hr hf
  go_enter Tryz.func92, Tryz.ntmps92
  go_wp2_with fail
  refine HS.out.mono ?_
  rintro e w1 ⟨rfl, hx, hg⟩
  go_wp2
  go_end0
  exact ⟨rfl, hx, hg⟩

end Go.Proofs.YthjmpiekjfnoiaaGreatDoor

/-
  Plain mathematics of chapter 14: counting places by bytes, the vector, its iterates and its rounds. No program is in sight.
-/
namespace Go.Proofs.YthjmpiekjfnoiaaGreatDoor

/-- How many bytes of s are less than c; how many are c. -/
def ltc (s : List UInt8) (c : Nat) : Nat := s.countP (fun b => decide (b.toNat < c))
def eqc (s : List UInt8) (c : Nat) : Nat := s.countP (fun b => b.toNat == c)

theorem ltc_succ (s : List UInt8) (c : Nat) : ltc s (c + 1) = ltc s c + eqc s c := by
  unfold ltc eqc
  induction s with
  | nil => rfl
  | cons b l ih =>
    simp only [List.countP_cons, ih]
    by_cases h1 : b.toNat < c
    · have : b.toNat < c + 1 := by omega
      have : b.toNat ≠ c := by omega
      simp [*]; omega
    · by_cases h2 : b.toNat = c
      · simp [h2]; omega
      · have : ¬ b.toNat < c + 1 := by omega
        simp [*]

theorem ltc_zero (s : List UInt8) : ltc s 0 = 0 := by simp [ltc]

theorem ltc_all (s : List UInt8) : ltc s 256 = s.length := by
  unfold ltc
  rw [List.countP_eq_length]
  intro b _
  simp
  exact b.toNat_lt

theorem ltc_mono (s : List UInt8) (c d : Nat) (h : c ≤ d) : ltc s c ≤ ltc s d := by
  induction d with
  | zero => have : c = 0 := by omega
            subst this; exact Nat.le_refl _
  | succ d ih =>
    rcases Nat.lt_or_ge d c with h' | h'
    · have : c = d + 1 := by omega
      subst this; exact Nat.le_refl _
    · rw [ltc_succ]; have := ih h'; omega

theorem eqc_take_succ (s : List UInt8) (k c : Nat) (b : UInt8) (h : s[k]? = some b) : eqc (s.take (k + 1)) c = eqc (s.take k) c + if b.toNat = c then 1 else 0 := by
  unfold eqc
  rw [List.take_add_one, h, List.countP_append]
  by_cases hb : b.toNat = c <;> simp [hb]

theorem eqc_take_le (s : List UInt8) (k c : Nat) : eqc (s.take k) c ≤ eqc s c := by
  unfold eqc
  have h := congrArg (List.countP (fun b => b.toNat == c)) (List.take_append_drop k s)
  rw [List.countP_append] at h
  omega

/-- The places of the byte c, in order, among the first n. -/
def idxTo (s : List UInt8) (c n : Nat) : List Nat := (List.range n).filter (fun i => (s.getD i 0).toNat == c)

theorem idxTo_succ (s : List UInt8) (c n : Nat) (b : UInt8) (h : s[n]? = some b) : idxTo s c (n + 1) = idxTo s c n ++ if b.toNat = c then [n] else [] := by
  unfold idxTo
  rw [List.range_succ, List.filter_append]
  have : s.getD n 0 = b := by simp [h]
  by_cases hb : b.toNat = c <;> simp [h, hb]

theorem idxTo_length (s : List UInt8) (c : Nat) : ∀ n, n ≤ s.length → (idxTo s c n).length = eqc (s.take n) c
  | 0, _ => by simp [idxTo, eqc]
  | n + 1, h => by
    obtain ⟨b, hb⟩ : ∃ b, s[n]? = some b := ⟨_, List.getElem?_eq_getElem (by omega)⟩
    rw [idxTo_succ s c n b hb, eqc_take_succ s n c b hb, List.length_append, idxTo_length s c n (by omega)]
    by_cases h : b.toNat = c <;> simp [h]

theorem idxTo_get (s : List UInt8) (c : Nat) : ∀ n, n ≤ s.length → ∀ i j, (idxTo s c n)[i]? = some j ↔ (j < n ∧ (∃ b, s[j]? = some b ∧ b.toNat = c) ∧ i = eqc (s.take j) c)
  | 0, _, i, j => by simp [idxTo]
  | n + 1, h, i, j => by
    obtain ⟨b, hb⟩ : ∃ b, s[n]? = some b := ⟨_, List.getElem?_eq_getElem (by omega)⟩
    have hl := idxTo_length s c n (by omega)
    have ih := idxTo_get s c n (by omega) i j
    rw [idxTo_succ s c n b hb, List.getElem?_append]
    split
    · rename_i hi
      rw [ih]
      constructor
      · rintro ⟨h1, h2, h3⟩; exact ⟨by omega, h2, h3⟩
      · rintro ⟨h1, h2, h3⟩
        refine ⟨?_, h2, h3⟩
        rcases Nat.lt_or_ge j n with h' | h'
        · exact h'
        · have : j = n := by omega
          subst this; omega
    · rename_i hi
      have hn : ∀ j', j' < n → i = eqc (s.take j') c → (∃ b, s[j']? = some b ∧ b.toNat = c) → False := by
        intro j' hj' he hb'
        have := (idxTo_get s c n (by omega) i j').2 ⟨hj', hb', he⟩
        rw [List.getElem?_eq_none (by omega)] at this
        cases this
      by_cases hc : b.toNat = c
      · rw [if_pos hc]
        constructor
        · intro h'
          have hi0 : i - (idxTo s c n).length = 0 := by
            rcases Nat.eq_zero_or_pos (i - (idxTo s c n).length) with h0 | h0
            · exact h0
            · rw [List.getElem?_eq_none (by simp; omega)] at h'; cases h'
          rw [hi0] at h'
          have : n = j := by simpa using h'
          subst this
          exact ⟨by omega, ⟨b, hb, hc⟩, by omega⟩
        · rintro ⟨h1, h2, h3⟩
          rcases Nat.lt_or_ge j n with h' | h'
          · exact (hn j h' h3 h2).elim
          · have : j = n := by omega
            subst this
            rw [show i - (idxTo s c j).length = 0 by omega]; rfl
      · rw [if_neg hc]
        constructor
        · intro h'; simp at h'
        · rintro ⟨h1, ⟨b', h2, h4⟩, h3⟩
          rcases Nat.lt_or_ge j n with h' | h'
          · exact (hn j h' h3 ⟨b', h2, h4⟩).elim
          · have : j = n := by omega
            subst this
            rw [hb] at h2; cases h2; exact absurd h4 hc

/-- The vector of the bytes less than m. -/
def vecTo (s : List UInt8) : Nat → List Nat
  | 0 => []
  | m + 1 => vecTo s m ++ idxTo s m s.length

def vec (s : List UInt8) : List Nat := vecTo s 256

theorem vecTo_length (s : List UInt8) : ∀ m, (vecTo s m).length = ltc s m
  | 0 => by simp [vecTo, ltc_zero]
  | m + 1 => by
    rw [vecTo, List.length_append, vecTo_length s m, idxTo_length s m _ (Nat.le_refl _), List.take_length, ltc_succ]

theorem vec_eq (s : List UInt8) : vec s = vecTo s 256 := rfl

theorem vec_length (s : List UInt8) : (vec s).length = s.length := by rw [vec, vecTo_length, ltc_all]

/-- Where the place j stands in the vector. -/
def place (s : List UInt8) (j : Nat) : Nat := ltc s (s.getD j 0).toNat + eqc (s.take j) (s.getD j 0).toNat

theorem vecTo_get (s : List UInt8) : ∀ m i j, (vecTo s m)[i]? = some j ↔ (j < s.length ∧ (s.getD j 0).toNat < m ∧ i = place s j)
  | 0, i, j => by simp [vecTo]
  | m + 1, i, j => by
    have hl := vecTo_length s m
    rw [vecTo, List.getElem?_append]
    split
    · rename_i hi
      rw [vecTo_get s m i j]
      constructor
      · rintro ⟨h1, h2, h3⟩; exact ⟨h1, by omega, h3⟩
      · rintro ⟨h1, h2, h3⟩
        refine ⟨h1, ?_, h3⟩
        rcases Nat.lt_or_ge (s.getD j 0).toNat m with h' | h'
        · exact h'
        · have he : (s.getD j 0).toNat = m := by omega
          unfold place at h3; rw [he] at h3; omega
    · rename_i hi
      rw [idxTo_get s m _ (Nat.le_refl _)]
      constructor
      · rintro ⟨h1, ⟨b, h2, h3⟩, h4⟩
        have hg : s.getD j 0 = b := by simp [h2]
        refine ⟨h1, by rw [hg]; omega, ?_⟩
        unfold place; rw [hg, h3]; omega
      · rintro ⟨h1, h2, h3⟩
        have hge : m ≤ (s.getD j 0).toNat := by
          rcases Nat.lt_or_ge (s.getD j 0).toNat m with h' | h'
          · have := (vecTo_get s m i j).2 ⟨h1, h', h3⟩
            rw [List.getElem?_eq_none (by omega)] at this; cases this
          · exact h'
        have he : (s.getD j 0).toNat = m := by omega
        refine ⟨h1, ⟨s.getD j 0, by simp [List.getElem?_eq_getElem h1], he⟩, ?_⟩
        unfold place at h3; rw [he] at h3; omega

theorem vec_get (s : List UInt8) (i j : Nat) : (vec s)[i]? = some j ↔ (j < s.length ∧ i = place s j) := by
  rw [vec, vecTo_get]
  constructor
  · rintro ⟨h1, _, h3⟩; exact ⟨h1, h3⟩
  · rintro ⟨h1, h3⟩; exact ⟨h1, (s.getD j 0).toNat_lt, h3⟩

theorem place_lt (s : List UInt8) (j : Nat) (h : j < s.length) : place s j < s.length := by
  have := (vec_get s (place s j) j).2 ⟨h, rfl⟩
  have := (List.getElem?_eq_some_iff.1 this).1
  rw [vec_length] at this; exact this

theorem place_inj (s : List UInt8) (j k : Nat) (hj : j < s.length) (hk : k < s.length) (h : place s j = place s k) : j = k := by
  have h1 := (vec_get s (place s j) j).2 ⟨hj, rfl⟩
  have h2 := (vec_get s (place s k) k).2 ⟨hk, rfl⟩
  rw [h, h2] at h1
  exact (Option.some.inj h1).symm

def vecI (s : List UInt8) : List Int := (vec s).map Int.ofNat

/-- A list that has every j at its place is the vector. -/
theorem eq_vec (s : List UInt8) (l : List Int) (hl : l.length = s.length) (h : ∀ j, j < s.length → l[place s j]? = some (j : Int)) : l = vecI s := by
  unfold vecI
  apply List.ext_getElem?
  intro i
  rcases Nat.lt_or_ge i s.length with hi | hi
  · obtain ⟨j, hj⟩ : ∃ j, (vec s)[i]? = some j := ⟨_, List.getElem?_eq_getElem (by rw [vec_length]; exact hi)⟩
    obtain ⟨h1, h2⟩ := (vec_get s i j).1 hj
    rw [List.getElem?_map, hj, h2, h j h1]; rfl
  · rw [List.getElem?_eq_none (by omega), List.getElem?_eq_none (by rw [List.length_map, vec_length]; exact hi)]

/-- Where one comes from a place. -/
def nxt (s : List UInt8) (i : Nat) : Nat := (vec s).getD i 0

theorem nxt_lt (s : List UInt8) (i : Nat) (h : i < s.length) : nxt s i < s.length := by
  obtain ⟨j, hj⟩ : ∃ j, (vec s)[i]? = some j := ⟨_, List.getElem?_eq_getElem (by rw [vec_length]; exact h)⟩
  have := ((vec_get s i j).1 hj).1
  simp [nxt, List.getD, hj, this]

theorem place_nxt (s : List UInt8) (i : Nat) (h : i < s.length) : place s (nxt s i) = i := by
  obtain ⟨j, hj⟩ : ∃ j, (vec s)[i]? = some j := ⟨_, List.getElem?_eq_getElem (by rw [vec_length]; exact h)⟩
  have := ((vec_get s i j).1 hj).2
  simp [nxt, List.getD, hj, ← this]

theorem nxt_place (s : List UInt8) (j : Nat) (h : j < s.length) : nxt s (place s j) = j := by
  have := (vec_get s (place s j) j).2 ⟨h, rfl⟩
  simp [nxt, List.getD, this]

theorem nxt_inj (s : List UInt8) (i j : Nat) (hi : i < s.length) (hj : j < s.length) (h : nxt s i = nxt s j) : i = j := by
  rw [← place_nxt s i hi, ← place_nxt s j hj, h]

/-! ### What the program's array of counts holds, in its three loops. -/
def cntA (s : List UInt8) (k d : Nat) : Int := if d = 0 then 0 else (eqc (s.take k) (d - 1) : Int)
def cntB (s : List UInt8) (c d : Nat) : Int := if d ≤ c then (ltc s d : Int) else (eqc s (d - 1) : Int)
def cntC (s : List UInt8) (k d : Nat) : Int := (ltc s d : Int) + (eqc (s.take k) d : Int)

theorem cntA_zero (s : List UInt8) : cntA s 0 = fun _ => 0 := by funext d; simp [cntA, eqc]
theorem cntA_succ (s : List UInt8) (k : Nat) (b : UInt8) (h : s[k]? = some b) (d : Nat) : cntA s (k + 1) d = if d = b.toNat + 1 then cntA s k (b.toNat + 1) + 1 else cntA s k d := by
  unfold cntA
  by_cases h0 : d = 0
  · subst h0; rw [if_pos rfl, if_neg (by omega), if_pos rfl]
  · rw [if_neg h0, eqc_take_succ s k _ b h]
    by_cases hd : d = b.toNat + 1
    · subst hd; simp
    · rw [if_neg hd, if_neg h0, if_neg (by omega)]; simp
theorem cntA_cntB (s : List UInt8) : cntA s s.length = cntB s 0 := by
  funext d
  unfold cntA cntB
  rw [List.take_length]
  by_cases h0 : d = 0
  · subst h0; simp [ltc_zero]
  · rw [if_neg h0, if_neg (by omega)]
theorem cntB_succ (s : List UInt8) (c d : Nat) : cntB s (c + 1) d = if d = c + 1 then cntB s c (c + 1) + cntB s c c else cntB s c d := by
  unfold cntB
  by_cases hd : d = c + 1
  · subst hd
    rw [if_pos rfl, if_pos (Nat.le_refl _), if_neg (by omega), if_pos (Nat.le_refl _), ltc_succ]; simp; omega
  · rw [if_neg hd]
    by_cases h : d ≤ c
    · rw [if_pos h, if_pos (by omega)]
    · rw [if_neg h, if_neg (by omega)]
theorem cntB_cntC (s : List UInt8) (d : Nat) (h : d < 257) : cntC s 0 d = cntB s 256 d := by
  unfold cntB cntC
  rw [if_pos (by omega)]; simp [eqc]
theorem cntC_succ (s : List UInt8) (k : Nat) (b : UInt8) (h : s[k]? = some b) (d : Nat) : cntC s (k + 1) d = if d = b.toNat then cntC s k b.toNat + 1 else cntC s k d := by
  unfold cntC
  rw [eqc_take_succ s k _ b h]
  by_cases hd : d = b.toNat
  · subst hd; simp; omega
  · rw [if_neg hd, if_neg (by omega)]; simp
theorem cntC_place (s : List UInt8) (k : Nat) (b : UInt8) (h : s[k]? = some b) : cntC s k b.toNat = (place s k : Int) := by
  unfold cntC place
  have : s.getD k 0 = b := by simp [h]
  rw [this]; simp

theorem eqc_le (s : List UInt8) (c : Nat) : eqc s c ≤ s.length := List.countP_le_length
theorem ltc_le (s : List UInt8) (c : Nat) : ltc s c ≤ s.length := List.countP_le_length
theorem cntA_bd (s : List UInt8) (k d : Nat) : 0 ≤ cntA s k d ∧ cntA s k d ≤ s.length := by
  unfold cntA
  split
  · omega
  · have := eqc_take_le s k (d - 1); have := eqc_le s (d - 1); omega
theorem cntB_bd (s : List UInt8) (k d : Nat) : 0 ≤ cntB s k d ∧ cntB s k d ≤ s.length := by
  unfold cntB
  split
  · have := ltc_le s d; omega
  · have := eqc_le s (d - 1); omega

attribute [irreducible] vec

end Go.Proofs.YthjmpiekjfnoiaaGreatDoor

/-
  Plain mathematics of chapter 14: iterates of the vector, rounds, and what Back is. No program is in sight.
-/
namespace Go.Proofs.YthjmpiekjfnoiaaGreatDoor

theorem php : ∀ (n : Nat) (f : Nat → Nat), (∀ k, k ≤ n → f k < n) → ∃ a b, a < b ∧ b ≤ n ∧ f a = f b
  | 0, f, h => absurd (h 0 (Nat.le_refl 0)) (Nat.not_lt_zero _)
  | n + 1, f, h => by
    by_cases hc : ∃ k, k ≤ n ∧ f k = f (n + 1)
    · obtain ⟨k, h1, h2⟩ := hc; exact ⟨k, n + 1, by omega, Nat.le_refl _, h2⟩
    · have hne : ∀ k, k ≤ n → f k ≠ f (n + 1) := fun k hk e => hc ⟨k, hk, e⟩
      have hn := h (n + 1) (Nat.le_refl _)
      obtain ⟨a, b, h1, h2, h3⟩ := php n (fun k => if f (n + 1) < f k then f k - 1 else f k) (fun k hk => by
        have := h k (by omega); have := hne k hk
        split <;> omega)
      refine ⟨a, b, h1, by omega, ?_⟩
      have ha := hne a (by omega)
      have hb := hne b h2
      split at h3 <;> split at h3 <;> omega

def walkN (s : List UInt8) : Nat → Nat → Nat
  | 0, o => o
  | k + 1, o => nxt s (walkN s k o)

theorem walkN_lt (s : List UInt8) (o : Nat) (h : o < s.length) : ∀ k, walkN s k o < s.length
  | 0 => h
  | k + 1 => nxt_lt s _ (walkN_lt s o h k)

theorem walkN_add (s : List UInt8) (j o : Nat) : ∀ k, walkN s (j + k) o = walkN s k (walkN s j o)
  | 0 => rfl
  | k + 1 => by rw [← Nat.add_assoc]; show nxt s _ = nxt s _; rw [walkN_add s j o k]

theorem walkN_inj (s : List UInt8) (a b : Nat) (ha : a < s.length) (hb : b < s.length) : ∀ k, walkN s k a = walkN s k b → a = b
  | 0, h => h
  | k + 1, h => walkN_inj s a b ha hb k (nxt_inj s _ _ (walkN_lt s a ha k) (walkN_lt s b hb k) h)

theorem walkN_back (s : List UInt8) (o a b : Nat) (ho : o < s.length) (hab : a ≤ b) (h : walkN s a o = walkN s b o) : walkN s (b - a) o = o := by
  have e : walkN s b o = walkN s a (walkN s (b - a) o) := by rw [← walkN_add]; congr 1; omega
  exact (walkN_inj s o _ ho (walkN_lt s o ho _) a (by rw [h, e])).symm

theorem period (s : List UInt8) (o : Nat) (ho : o < s.length) : ∃ p, 1 ≤ p ∧ p ≤ s.length ∧ walkN s p o = o := by
  obtain ⟨a, b, h1, h2, h3⟩ := php s.length (fun k => walkN s k o) (fun k _ => walkN_lt s o ho k)
  exact ⟨b - a, by omega, by omega, walkN_back s o a b ho (by omega) h3⟩

theorem walkN_mul (s : List UInt8) (p o : Nat) (h : walkN s p o = o) : ∀ q, walkN s (p * q) o = o
  | 0 => rfl
  | q + 1 => by rw [Nat.mul_succ, walkN_add, walkN_mul s p o h q, h]

theorem walkN_mod (s : List UInt8) (p o k : Nat) (h : walkN s p o = o) : walkN s k o = walkN s (k % p) o := by
  have e : k = p * (k / p) + k % p := (Nat.div_add_mod k p).symm
  have : walkN s (p * (k / p) + k % p) o = walkN s (k % p) o := by rw [walkN_add, walkN_mul s p o h]
  rw [← e] at this; exact this

/-- What Back tells of an origin that there is. -/
def back (s : List UInt8) (o : Nat) : List UInt8 := (List.range s.length).map (fun i => s.getD (walkN s (i + 1) o) 0)
def backTo (s : List UInt8) (o k : Nat) : List UInt8 := (List.range k).map (fun i => s.getD (walkN s (i + 1) o) 0)
theorem back_eq (s : List UInt8) (o : Nat) : back s o = backTo s o s.length := rfl
theorem backTo_succ (s : List UInt8) (o k : Nat) : backTo s o (k + 1) = backTo s o k ++ [s.getD (walkN s (k + 1) o) 0] := by simp [backTo, List.range_succ]
theorem backTo_length (s : List UInt8) (o k : Nat) : (backTo s o k).length = k := by simp [backTo]
theorem back_length (s : List UInt8) (o : Nat) : (back s o).length = s.length := by simp [back]

def backOk (s : List UInt8) (o : Int) : Bool := decide (0 ≤ o) && decide (o < max (s.length : Int) 1)
def backText (s : List UInt8) (o : Int) : List UInt8 := if backOk s o then back s o.toNat else []
def backErr (s : List UInt8) (o : Int) : Int := if backOk s o then 0 else 1

theorem back_get (s : List UInt8) (o i : Nat) (h : i < s.length) : (back s o)[i]? = some (s.getD (walkN s (i + 1) o) 0) := by simp [back, h]
theorem back_next (s : List UInt8) (q : Nat) : (back s q).drop 1 = (back s (nxt s q)).take (s.length - 1) := by
  apply List.ext_getElem?
  intro i
  rw [List.getElem?_drop, List.getElem?_take]
  by_cases h : i < s.length - 1
  · rw [if_pos h, back_get s q (1 + i) (by omega), back_get s _ i (by omega)]
    have e : walkN s (1 + i + 1) q = walkN s (i + 1) (nxt s q) := by
      rw [show 1 + i + 1 = 1 + (i + 1) by omega, walkN_add]; rfl
    rw [e]
  · rw [if_neg h, List.getElem?_eq_none (by rw [back_length]; omega)]

/-! ### Rounds. -/
def leastB (s : List UInt8) (i : Nat) : Bool := (List.range (s.length + 1)).all (fun k => decide (i ≤ walkN s k i))
theorem leastB_iff (s : List UInt8) (i : Nat) : leastB s i = true ↔ ∀ k, k ≤ s.length → i ≤ walkN s k i := by
  simp only [leastB, List.all_eq_true, List.mem_range, decide_eq_true_eq]
  exact ⟨fun h k hk => h k (by omega), fun h k hk => h k (by omega)⟩
def cycTo (s : List UInt8) (m : Nat) : Nat := (List.range m).countP (leastB s)
def cyc (s : List UInt8) : Nat := cycTo s s.length
theorem cycTo_succ (s : List UInt8) (m : Nat) : cycTo s (m + 1) = cycTo s m + if leastB s m then 1 else 0 := by
  unfold cycTo
  rw [List.range_succ, List.countP_append]
  by_cases h : leastB s m <;> simp [h]
theorem cycTo_le (s : List UInt8) (m : Nat) : cycTo s m ≤ m := by
  unfold cycTo; have := List.countP_le_length (p := leastB s) (l := List.range m); simpa using this

/-- The document's test: going on from i, the first place that is not above i is i itself just if i is the least of its round. -/
theorem least_of_first (s : List UInt8) (i k : Nat) (hk1 : 1 ≤ k) (hk : k ≤ s.length) (hm : ∀ m, 1 ≤ m → m < k → i < walkN s m i) (hle : walkN s k i ≤ i) :
    leastB s i = decide (walkN s k i = i) := by
  by_cases he : walkN s k i = i
  · rw [decide_eq_true he, leastB_iff]
    intro j _
    rw [walkN_mod s k i j he]
    have hj := Nat.mod_lt j (show 0 < k by omega)
    rcases Nat.eq_zero_or_pos (j % k) with h0 | h0
    · rw [h0]; exact Nat.le_refl _
    · exact Nat.le_of_lt (hm _ h0 hj)
  · rw [decide_eq_false he, ← Bool.not_eq_true, leastB_iff]
    intro h
    have := h k hk
    omega

/-- Marked: reached from a place below f. -/
def Reached (s : List UInt8) (f j : Nat) : Prop := ∃ m, m < f ∧ ∃ k, walkN s k m = j
open Classical in
noncomputable def markB (s : List UInt8) (f : Nat) (j : Nat) : Bool := decide (Reached s f j)
open Classical in
noncomputable def markTo (s : List UInt8) (f k : Nat) (j : Nat) : Bool := decide (Reached s f j ∨ ∃ m, m < k ∧ walkN s m f = j)

theorem markTo_zero (s : List UInt8) (f : Nat) : markTo s f 0 = markB s f := by
  funext j; unfold markTo markB
  congr 1; simp
open Classical in
theorem markTo_succ (s : List UInt8) (f k j : Nat) : markTo s f (k + 1) j = if j = walkN s k f then true else markTo s f k j := by
  unfold markTo
  by_cases h : j = walkN s k f
  · rw [if_pos h, decide_eq_true]; exact .inr ⟨k, by omega, h.symm⟩
  · rw [if_neg h]
    congr 1
    apply propext
    constructor
    · rintro (h1 | ⟨m, h1, h2⟩)
      · exact .inl h1
      · refine .inr ⟨m, ?_, h2⟩
        rcases Nat.lt_or_ge m k with h3 | h3
        · exact h3
        · have : m = k := by omega
          subst this; exact absurd h2.symm h
    · rintro (h1 | ⟨m, h1, h2⟩)
      · exact .inl h1
      · exact .inr ⟨m, by omega, h2⟩

theorem reached_back (s : List UInt8) (f j k : Nat) (hj : j < s.length) (h : Reached s f (walkN s k j)) : Reached s f j := by
  obtain ⟨m, h1, q, h2⟩ := h
  obtain ⟨p, p1, _, p3⟩ := period s j hj
  refine ⟨m, h1, q + (p * (k + 1) - k), ?_⟩
  have hp : k ≤ p * (k + 1) := Nat.le_trans (by omega) (Nat.le_mul_of_pos_left (k + 1) p1)
  rw [walkN_add, h2, ← walkN_add]
  rw [show k + (p * (k + 1) - k) = p * (k + 1) by omega]
  exact walkN_mul s p j p3 _

/-- Where the marking comes back: all of the round is marked. -/
theorem markTo_all (s : List UInt8) (f k : Nat) (hf : f < s.length) (hnot : markB s f f = false) (h : markTo s f k (walkN s k f) = true) : markTo s f k = markB s (f + 1) := by
  have hnot' : ¬ Reached s f f := by simpa [markB] using hnot
  have h' : Reached s f (walkN s k f) ∨ ∃ m, m < k ∧ walkN s m f = walkN s k f := by simpa [markTo] using h
  obtain ⟨m, h1, h2⟩ : ∃ m, m < k ∧ walkN s m f = walkN s k f := by
    rcases h' with h' | h'
    · exact absurd (reached_back s f f k hf h') hnot'
    · exact h'
  have hp := walkN_back s f m k hf (by omega) h2
  funext j
  unfold markTo markB
  congr 1
  apply propext
  constructor
  · rintro (⟨a, ha, q, hq⟩ | ⟨a, ha, hq⟩)
    · exact ⟨a, by omega, q, hq⟩
    · exact ⟨f, by omega, a, hq⟩
  · rintro ⟨a, ha, q, hq⟩
    rcases Nat.lt_or_ge a f with h3 | h3
    · exact .inl ⟨a, h3, q, hq⟩
    · have : a = f := by omega
      subst this
      refine .inr ⟨q % (k - m), ?_, ?_⟩
      · have := Nat.mod_lt q (show 0 < k - m by omega); omega
      · rw [← walkN_mod s _ _ _ hp]; exact hq

theorem mark_least (s : List UInt8) (f : Nat) (hf : f < s.length) : markB s f f = !leastB s f := by
  by_cases h : leastB s f = true
  · rw [h]
    have hl := (leastB_iff s f).1 h
    simp only [markB, Bool.not_true, decide_eq_false_iff_not]
    rintro ⟨m, h1, k, h2⟩
    have hr : Reached s (m + 1) m := ⟨m, by omega, 0, rfl⟩
    obtain ⟨p, p1, p2, p3⟩ := period s f hf
    obtain ⟨q, q1, q2, q3⟩ := period s m (by omega)
    -- from f one comes to m
    have hp : k ≤ q * (k + 1) := Nat.le_trans (by omega) (Nat.le_mul_of_pos_left (k + 1) q1)
    have e : walkN s (q * (k + 1) - k) f = m := by
      rw [← h2, ← walkN_add, show k + (q * (k + 1) - k) = q * (k + 1) by omega]
      exact walkN_mul s q m q3 _
    rw [walkN_mod s p f _ p3] at e
    have := hl ((q * (k + 1) - k) % p) (by have := Nat.mod_lt (q * (k + 1) - k) (show 0 < p by omega); omega)
    omega
  · have h0 : leastB s f = false := by simpa using h
    rw [h0]
    simp only [Bool.not_false, markB, decide_eq_true_eq]
    have : ¬ ∀ k, k ≤ s.length → f ≤ walkN s k f := fun hh => h ((leastB_iff s f).2 hh)
    have : ∃ k, walkN s k f < f := by
      apply Classical.byContradiction
      intro hh
      exact this (fun k _ => by
        rcases Nat.lt_or_ge (walkN s k f) f with h1 | h1
        · exact absurd ⟨k, h1⟩ hh
        · exact h1)
    obtain ⟨k, hk⟩ := this
    obtain ⟨p, p1, _, p3⟩ := period s f hf
    have hp : k ≤ p * (k + 1) := Nat.le_trans (by omega) (Nat.le_mul_of_pos_left (k + 1) p1)
    refine ⟨walkN s k f, hk, p * (k + 1) - k, ?_⟩
    rw [← walkN_add, show k + (p * (k + 1) - k) = p * (k + 1) by omega]
    exact walkN_mul s p f p3 _

theorem mark_same (s : List UInt8) (f : Nat) (h : markB s f f = true) : markB s (f + 1) = markB s f := by
  have h' : Reached s f f := by simpa [markB] using h
  obtain ⟨m, h1, k, h2⟩ := h'
  funext j
  unfold markB
  congr 1
  apply propext
  constructor
  · rintro ⟨a, ha, q, hq⟩
    rcases Nat.lt_or_ge a f with h3 | h3
    · exact ⟨a, h3, q, hq⟩
    · have : a = f := by omega
      subst this
      exact ⟨m, h1, k + q, by rw [walkN_add, h2]; exact hq⟩
  · rintro ⟨a, ha, q, hq⟩
    exact ⟨a, by omega, q, hq⟩

theorem eqc_take_mono (s : List UInt8) (a b c : Nat) (h : a ≤ b) : eqc (s.take a) c ≤ eqc (s.take b) c := by
  have := eqc_take_le (s.take b) a c
  rwa [List.take_take, Nat.min_eq_left h] at this

/-- Where the vector goes, bytes are in order; of one byte the lesser place comes first. -/
theorem vec_sorted (s : List UInt8) (i : Nat) (h : i + 1 < s.length) :
    (s.getD (nxt s i) 0).toNat ≤ (s.getD (nxt s (i + 1)) 0).toNat ∧ ((s.getD (nxt s i) 0).toNat = (s.getD (nxt s (i + 1)) 0).toNat → nxt s i < nxt s (i + 1)) := by
  have ha := nxt_lt s i (by omega)
  have hb := nxt_lt s (i + 1) h
  have pa := place_nxt s i (by omega)
  have pb := place_nxt s (i + 1) h
  generalize nxt s i = a at *
  generalize nxt s (i + 1) = b at *
  unfold place at pa pb
  obtain ⟨y, hy⟩ : ∃ y, s[b]? = some y := ⟨_, List.getElem?_eq_getElem hb⟩
  have hgb : s.getD b 0 = y := by simp [hy]
  have h1 := eqc_take_succ s b y.toNat y hy
  rw [if_pos rfl] at h1
  have h2 := eqc_take_le s (b + 1) y.toNat
  rw [hgb] at pb ⊢
  constructor
  · rcases Nat.lt_or_ge y.toNat (s.getD a 0).toNat with hc | hc
    · have h3 := ltc_mono s (y.toNat + 1) _ hc
      rw [ltc_succ] at h3
      omega
    · exact hc
  · intro e
    rw [e] at pa
    rcases Nat.lt_or_ge a b with h4 | h4
    · exact h4
    · have := eqc_take_mono s b a y.toNat h4; omega

def hadTo (s : List UInt8) (i j : Nat) : Bool := decide (place s j < i)
theorem hadTo_nxt (s : List UInt8) (i : Nat) (h : i < s.length) : hadTo s i (nxt s i) = false := by simp [hadTo, place_nxt s i h]
theorem hadTo_succ (s : List UInt8) (i j : Nat) (h : i < s.length) (hj : j < s.length) : hadTo s (i + 1) j = if j = nxt s i then true else hadTo s i j := by
  unfold hadTo
  by_cases e : j = nxt s i
  · rw [if_pos e, e, place_nxt s i h]; simp
  · rw [if_neg e]
    have : place s j ≠ i := fun he => e (by rw [← he, nxt_place s j hj])
    congr 1
    apply propext
    omega

end Go.Proofs.YthjmpiekjfnoiaaGreatDoor

/-
  Plain mathematics of turns and their order: cyclic bytes, compared by so many of the first ones; ranks; the one order. No program is in sight.
-/
namespace Go.Proofs.YthjmpiekjfnoiaaGreatDoor

section
variable {c : Nat → Nat}

/-- The first m of both turns are the same. -/
def eqm (c : Nat → Nat) (m a b : Nat) : Prop := ∀ t, t < m → c (a + t) = c (b + t)
/-- Of the first m of both, the first one that differs is less. -/
def ltm (c : Nat → Nat) (m a b : Nat) : Prop := ∃ t, t < m ∧ (∀ u, u < t → c (a + u) = c (b + u)) ∧ c (a + t) < c (b + t)

theorem eqm.refl (m a : Nat) : eqm c m a a := fun _ _ => rfl
theorem eqm.symm {m a b : Nat} (h : eqm c m a b) : eqm c m b a := fun t ht => (h t ht).symm
theorem eqm.trans {m a b d : Nat} (h : eqm c m a b) (k : eqm c m b d) : eqm c m a d := fun t ht => (h t ht).trans (k t ht)
theorem ltm.trans {m a b d : Nat} (h : ltm c m a b) (k : ltm c m b d) : ltm c m a d := by
  obtain ⟨t, t1, t2, t3⟩ := h
  obtain ⟨u, u1, u2, u3⟩ := k
  rcases Nat.lt_trichotomy t u with p | p | p
  · exact ⟨t, t1, fun v hv => (t2 v hv).trans (u2 v (by omega)), by rw [← u2 t p]; exact t3⟩
  · subst p; exact ⟨t, t1, fun v hv => (t2 v hv).trans (u2 v hv), by omega⟩
  · exact ⟨u, u1, fun v hv => (t2 v (by omega)).trans (u2 v hv), by rw [t2 u p]; exact u3⟩
theorem ltm.not_eqm {m a b : Nat} (h : ltm c m a b) : ¬ eqm c m a b := fun k => by
  obtain ⟨t, t1, _, t3⟩ := h
  have := k t t1; omega
theorem ltm.irrefl {m a : Nat} : ¬ ltm c m a a := fun h => h.not_eqm (eqm.refl m a)
theorem ltm.asymm {m a b : Nat} (h : ltm c m a b) : ¬ ltm c m b a := fun k => ltm.irrefl (h.trans k)
theorem ltm.eqm {m a b d : Nat} (h : ltm c m a b) (k : eqm c m b d) : ltm c m a d := by
  obtain ⟨t, t1, t2, t3⟩ := h
  exact ⟨t, t1, fun v hv => (t2 v hv).trans (k v (by omega)), by rw [← k t t1]; exact t3⟩
theorem eqm.ltm {m a b d : Nat} (h : eqm c m a b) (k : ltm c m b d) : ltm c m a d := by
  obtain ⟨t, t1, t2, t3⟩ := k
  exact ⟨t, t1, fun v hv => (h v (by omega)).trans (t2 v hv), by rw [h t t1]; exact t3⟩
theorem ltm_or (c : Nat → Nat) (a b : Nat) : ∀ m, ltm c m a b ∨ eqm c m a b ∨ ltm c m b a := by
  intro m
  induction m with
  | zero => exact .inr (.inl (fun t h => by omega))
  | succ m ih =>
    rcases ih with ⟨t, t1, t2, t3⟩ | h | ⟨t, t1, t2, t3⟩
    · exact .inl ⟨t, by omega, t2, t3⟩
    · rcases Nat.lt_trichotomy (c (a + m)) (c (b + m)) with p | p | p
      · exact .inl ⟨m, by omega, fun u hu => h u hu, p⟩
      · refine .inr (.inl (fun t ht => ?_))
        rcases Nat.lt_or_ge t m with q | q
        · exact h t q
        · have : t = m := by omega
          rw [this]; exact p
      · exact .inr (.inr ⟨m, by omega, fun u hu => (h u hu).symm, p⟩)
    · exact .inr (.inr ⟨t, by omega, t2, t3⟩)
theorem ltm_add (m k a b : Nat) : ltm c (m + k) a b ↔ ltm c m a b ∨ (eqm c m a b ∧ ltm c k (a + m) (b + m)) := by
  constructor
  · rintro ⟨t, t1, t2, t3⟩
    rcases Nat.lt_or_ge t m with p | p
    · exact .inl ⟨t, p, t2, t3⟩
    · refine .inr ⟨fun u hu => t2 u (by omega), t - m, by omega, fun u hu => ?_, ?_⟩
      · have := t2 (m + u) (by omega)
        rwa [← Nat.add_assoc, ← Nat.add_assoc] at this
      · rw [Nat.add_assoc, Nat.add_assoc, Nat.add_sub_cancel' p]; exact t3
  · rintro (⟨t, t1, t2, t3⟩ | ⟨h, t, t1, t2, t3⟩)
    · exact ⟨t, by omega, t2, t3⟩
    · refine ⟨m + t, by omega, fun u hu => ?_, by rw [← Nat.add_assoc, ← Nat.add_assoc]; exact t3⟩
      rcases Nat.lt_or_ge u m with p | p
      · exact h u p
      · have := t2 (u - m) (by omega)
        rwa [Nat.add_assoc, Nat.add_assoc, Nat.add_sub_cancel' p] at this
theorem eqm_add (m k a b : Nat) : eqm c (m + k) a b ↔ eqm c m a b ∧ eqm c k (a + m) (b + m) := by
  constructor
  · intro h
    refine ⟨fun t ht => h t (by omega), fun t ht => ?_⟩
    have := h (m + t) (by omega)
    rwa [← Nat.add_assoc, ← Nat.add_assoc] at this
  · rintro ⟨h, k'⟩ t ht
    rcases Nat.lt_or_ge t m with p | p
    · exact h t p
    · have := k' (t - m) (by omega)
      rwa [Nat.add_assoc, Nat.add_assoc, Nat.add_sub_cancel' p] at this

/-- The bytes come again behind n. -/
def Cyc (c : Nat → Nat) (n : Nat) : Prop := ∀ i, c (i + n) = c i
theorem Cyc.mul {n : Nat} (h : Cyc c n) (i q : Nat) : c (i + n * q) = c i := by
  induction q with
  | zero => rfl
  | succ q ih => rw [Nat.mul_succ, ← Nat.add_assoc, h, ih]
theorem Cyc.mod {n : Nat} (h : Cyc c n) (i : Nat) : c (i % n) = c i := by
  have := h.mul (i % n) (i / n)
  rw [Nat.mod_add_div] at this
  exact this.symm
theorem Cyc.mod_add {n : Nat} (h : Cyc c n) (i t : Nat) : c (i % n + t) = c (i + t) := by
  rw [← h.mod (i % n + t), ← h.mod (i + t), Nat.mod_add_mod]
theorem Cyc.ltm {n : Nat} (h : Cyc c n) (m a b : Nat) : ltm c m (a % n) (b % n) ↔ ltm c m a b := by
  unfold Go.Proofs.YthjmpiekjfnoiaaGreatDoor.ltm
  simp only [h.mod_add]
theorem Cyc.eqm {n : Nat} (h : Cyc c n) (m a b : Nat) : eqm c m (a % n) (b % n) ↔ eqm c m a b := by
  unfold Go.Proofs.YthjmpiekjfnoiaaGreatDoor.eqm
  simp only [h.mod_add]
/-- Beyond n there is nothing new. -/
theorem Cyc.all {n : Nat} (h : Cyc c n) (hn : 0 < n) {m a b : Nat} (hm : n ≤ m) : (Go.Proofs.YthjmpiekjfnoiaaGreatDoor.eqm c m a b ↔ Go.Proofs.YthjmpiekjfnoiaaGreatDoor.eqm c n a b) ∧ (Go.Proofs.YthjmpiekjfnoiaaGreatDoor.ltm c m a b ↔ Go.Proofs.YthjmpiekjfnoiaaGreatDoor.ltm c n a b) := by
  have key : Go.Proofs.YthjmpiekjfnoiaaGreatDoor.eqm c n a b → Go.Proofs.YthjmpiekjfnoiaaGreatDoor.eqm c m a b := fun k t _ => by
    have e : ∀ x, c (x + t) = c (x + t % n) := fun x => by
      have := h.mul (x + t % n) (t / n)
      rw [Nat.add_assoc, Nat.mod_add_div] at this
      exact this
    rw [e a, e b]
    exact k (t % n) (Nat.mod_lt _ hn)
  refine ⟨⟨fun k t ht => k t (by omega), key⟩, ⟨fun k => ?_, fun ⟨t, t1, t2, t3⟩ => ⟨t, by omega, t2, t3⟩⟩⟩
  rcases ltm_or c a b n with p | p | p
  · exact p
  · exact absurd (key p) k.not_eqm
  · obtain ⟨t, t1, t2, t3⟩ := p
    exact absurd ⟨t, by omega, t2, t3⟩ k.asymm

/-- Ranks that tell how turns stand by so many of their first bytes. -/
def RankOK (c : Nat → Nat) (n m : Nat) (r : Nat → Int) : Prop := ∀ a b, a < n → b < n → (r a < r b ↔ ltm c m a b)
theorem RankOK.eq {n m : Nat} {r : Nat → Int} (h : RankOK c n m r) {a b : Nat} (ha : a < n) (hb : b < n) : r a = r b ↔ eqm c m a b := by
  constructor
  · intro e
    rcases ltm_or c a b m with p | p | p
    · have := (h a b ha hb).2 p; omega
    · exact p
    · have := (h b a hb ha).2 p; omega
  · intro e
    rcases Int.lt_trichotomy (r a) (r b) with p | p | p
    · exact absurd e ((h a b ha hb).1 p).not_eqm
    · exact p
    · exact absurd e.symm ((h b a hb ha).1 p).not_eqm

/-- What a comparison answers: by the ranks, then by the ranks so much further on. -/
def kcmp (r : Nat → Int) (n M x y : Nat) : Int :=
  if r x < r y then -1 else if r y < r x then 1 else if r ((x + M) % n) < r ((y + M) % n) then -1 else if r ((y + M) % n) < r ((x + M) % n) then 1 else 0

theorem kcmp_spec {n M x y : Nat} {r : Nat → Int} (hc : Cyc c n) (h : RankOK c n (max M 1) r) (hx : x < n) (hy : y < n) :
    (kcmp r n M x y < 0 ↔ ltm c (max (2 * M) 1) x y) ∧ (kcmp r n M x y = 0 ↔ eqm c (max (2 * M) 1) x y) := by
  have hn : 0 < n := by omega
  have e1 := h x y hx hy
  have e2 := h y x hy hx
  have e3 := h.eq hx hy
  have f1 := h ((x + M) % n) ((y + M) % n) (Nat.mod_lt _ hn) (Nat.mod_lt _ hn)
  have f2 := h ((y + M) % n) ((x + M) % n) (Nat.mod_lt _ hn) (Nat.mod_lt _ hn)
  have f3 := h.eq (Nat.mod_lt (x + M) hn) (Nat.mod_lt (y + M) hn)
  rw [hc.ltm] at f1 f2
  rw [hc.eqm] at f3
  have a1 : ltm c (max (2 * M) 1) x y ↔ r x < r y ∨ (r x = r y ∧ r ((x + M) % n) < r ((y + M) % n)) := by
    rcases Nat.eq_zero_or_pos M with h0 | h0
    · subst h0
      rw [f1, e1, e3]
      simp only [Nat.max_def, Nat.add_zero]
      constructor
      · exact .inl
      · rintro (p | ⟨p, q⟩)
        · exact p
        · exact q
    · rw [f1, e1, e3, show max (2 * M) 1 = M + M by omega, show max M 1 = M by omega, ltm_add]
  have a2 : eqm c (max (2 * M) 1) x y ↔ (r x = r y ∧ r ((x + M) % n) = r ((y + M) % n)) := by
    rcases Nat.eq_zero_or_pos M with h0 | h0
    · subst h0
      rw [f3, e3]
      simp only [Nat.max_def, Nat.add_zero]
      exact ⟨fun p => ⟨p, p⟩, fun p => p.1⟩
    · rw [f3, e3, show max (2 * M) 1 = M + M by omega, show max M 1 = M by omega, eqm_add]
  rw [a1, a2]
  unfold kcmp
  generalize r x = p
  generalize r y = q
  generalize r ((x + M) % n) = s
  generalize r ((y + M) % n) = t
  clear a1 a2 e1 e2 e3 f1 f2 f3 h
  by_cases h1 : p < q
  · rw [if_pos h1]; constructor <;> constructor <;> intro _ <;> omega
  · rw [if_neg h1]
    by_cases h2 : q < p
    · rw [if_pos h2]; constructor <;> constructor <;> intro _ <;> omega
    · rw [if_neg h2]
      by_cases h3 : s < t
      · rw [if_pos h3]; constructor <;> constructor <;> intro _ <;> omega
      · rw [if_neg h3]
        by_cases h4 : t < s
        · rw [if_pos h4]; constructor <;> constructor <;> intro _ <;> omega
        · rw [if_neg h4]; constructor <;> constructor <;> intro _ <;> omega

/-- Which of two places comes first: by the first m bytes of their turns, then by the places. -/
def bef (c : Nat → Nat) (m : Nat) (x y : Int) : Prop := ltm c m x.toNat y.toNat ∨ (eqm c m x.toNat y.toNat ∧ x < y)
theorem bef_strict (c : Nat → Nat) (m : Nat) : Strict (bef c m) := by
  refine ⟨?_, ?_, ?_⟩
  · rintro x y z (h | ⟨h, h'⟩) (k | ⟨k, k'⟩)
    · exact .inl (h.trans k)
    · exact .inl (h.eqm k)
    · exact .inl (h.ltm k)
    · exact .inr ⟨h.trans k, by omega⟩
  · intro x y hne
    rcases ltm_or c x.toNat y.toNat m with p | p | p
    · exact .inl (.inl p)
    · rcases Int.lt_or_gt_of_ne hne with q | q
      · exact .inl (.inr ⟨p, q⟩)
      · exact .inr (.inr ⟨p.symm, q⟩)
    · exact .inr (.inl p)
  · rintro x (h | ⟨_, h⟩)
    · exact ltm.irrefl h
    · omega

/-- A list of places in order. -/
structure Ord (c : Nat → Nat) (n m : Nat) (o : Nat → Int) : Prop where
  rng : ∀ k, k < n → 0 ≤ o k ∧ o k < (n : Int)
  srt : SortedOn (bef c m) o 0 n

theorem Ord.ne {n m : Nat} {o : Nat → Int} (h : Ord c n m o) {i j : Nat} (hi : i < n) (hj : j < n) (hij : i ≠ j) : o i ≠ o j := by
  intro e
  rcases Nat.lt_or_gt_of_ne hij with p | p
  · have := h.srt i j (Nat.zero_le _) p hj; rw [e] at this; exact (bef_strict c m).irr _ this
  · have := h.srt j i (Nat.zero_le _) p hi; rw [e] at this; exact (bef_strict c m).irr _ this

theorem Ord.onto {n m : Nat} {o : Nat → Int} (h : Ord c n m o) {y : Nat} (hy : y < n) : ∃ k, k < n ∧ o k = (y : Int) := by
  apply Classical.byContradiction
  intro hno
  obtain ⟨a, b, hab, hb, e⟩ := php n (fun k => if k < n then (o k).toNat else y) (fun k hk => by
    show (if k < n then (o k).toNat else y) < n
    by_cases p : k < n
    · rw [if_pos p]; have := h.rng k p; omega
    · rw [if_neg p]; exact hy)
  have e' : (if a < n then (o a).toNat else y) = (if b < n then (o b).toNat else y) := e
  rw [if_pos (by omega : a < n)] at e'
  have ra := h.rng a (by omega)
  by_cases p : b < n
  · rw [if_pos p] at e'
    have rb := h.rng b p
    exact h.ne (i := a) (j := b) (by omega) p (by omega) (by omega)
  · rw [if_neg p] at e'
    exact hno ⟨a, by omega, by omega⟩

/-- There is one order alone. -/
theorem Ord.uniq {n m : Nat} {o o' : Nat → Int} (h : Ord c n m o) (h' : Ord c n m o') : ∀ k, k < n → o k = o' k := by
  intro k
  induction k using Nat.strongRecOn with
  | ind k ih =>
    intro hk
    apply Classical.byContradiction
    intro hne
    have step : ∀ {o o' : Nat → Int}, Ord c n m o → Ord c n m o' → (∀ j, j < k → o j = o' j) → o k ≠ o' k → bef c m (o' k) (o k) := by
      intro o o' h h' ih hne
      have r := h.rng k hk
      obtain ⟨j, hj, e⟩ := h'.onto (y := (o k).toNat) (by omega)
      have e' : o' j = o k := by omega
      rcases Nat.lt_trichotomy j k with p | p | p
      · exact absurd ((ih j p).trans e') (h.ne hj hk (by omega))
      · subst p; exact absurd e'.symm hne
      · rw [← e']; exact h'.srt k j (Nat.zero_le _) p hj
    have s1 := step h h' (fun j hj => ih j hj (by omega)) hne
    have s2 := step h' h (fun j hj => (ih j hj (by omega)).symm) (fun e => hne e.symm)
    exact (bef_strict c m).irr _ ((bef_strict c m).tr _ _ _ s1 s2)

theorem Ord.congr {n m : Nat} {o o' : Nat → Int} (h : Ord c n m o) (e : ∀ k, k < n → o' k = o k) : Ord c n m o' :=
  ⟨fun k hk => by rw [e k hk]; exact h.rng k hk, h.srt.congr fun k _ hk => e k hk⟩

theorem Ord.full {n m : Nat} {o : Nat → Int} (h : Ord c n m o) (hc : Cyc c n) (hn : 0 < n) (hm : n ≤ m) : Ord c n n o :=
  ⟨h.rng, fun i j h1 h2 h3 => by
    have := h.srt i j h1 h2 h3
    unfold bef at this ⊢
    rwa [(hc.all hn hm).1, (hc.all hn hm).2] at this⟩

/-- Numbers of 0 to n-1 that rise are 0, 1, .. -/
theorem rise_id {n : Nat} {f : Nat → Int} (hr : ∀ k, k < n → 0 ≤ f k ∧ f k < (n : Int)) (hs : ∀ k, k + 1 < n → f k < f (k + 1)) : ∀ k, k < n → f k = (k : Int) := by
  have lo : ∀ k, k < n → (k : Int) ≤ f k := by
    intro k
    induction k with
    | zero => intro h; exact (hr 0 h).1
    | succ k ih => intro h; have := ih (by omega); have := hs k h; omega
  have hi : ∀ d k, k + d + 1 = n → f k ≤ (k : Int) := by
    intro d
    induction d with
    | zero => intro k hk; have := (hr k (by omega)).2; omega
    | succ d ih => intro k hk; have := ih (k + 1) (by omega); have := hs k (by omega); omega
  intro k hk
  have := lo k hk
  have := hi (n - k - 1) k (by omega)
  omega

/-- The ranks that are told of an order: 0, and one more where the turn differs from the one ahead. -/
theorem rank_of {n m : Nat} {o : Nat → Int} (h : Ord c n m o) {v : Nat → Int} {r : Nat → Int}
    (hv : ∀ i, i + 1 < n → (eqm c m (o i).toNat (o (i + 1)).toNat ∧ v (i + 1) = v i) ∨ (¬ eqm c m (o i).toNat (o (i + 1)).toNat ∧ v (i + 1) = v i + 1)) (hr : ∀ i, i < n → r (o i).toNat = v i) : RankOK c n m r := by
  have key : ∀ j, j < n → ∀ i, i ≤ j → v i ≤ v j ∧ (v i = v j ↔ eqm c m (o i).toNat (o j).toNat) := by
    intro j
    induction j with
    | zero => intro _ i hi; have : i = 0 := by omega
              subst this; exact ⟨Int.le_refl _, ⟨fun _ => eqm.refl _ _, fun _ => rfl⟩⟩
    | succ j ih =>
      intro hj i hi
      rcases Nat.lt_or_ge j i with p | p
      · have : i = j + 1 := by omega
        subst this; exact ⟨Int.le_refl _, ⟨fun _ => eqm.refl _ _, fun _ => rfl⟩⟩
      · obtain ⟨k1, k2⟩ := ih (by omega) i p
        have e := hv j hj
        rcases e with ⟨q, e⟩ | ⟨q, e⟩
        · refine ⟨by omega, ⟨fun w => (k2.1 (by omega)).trans q, fun w => ?_⟩⟩
          have := k2.2 (w.trans q.symm)
          omega
        · refine ⟨by omega, ⟨fun w => by omega, fun w => ?_⟩⟩
          exfalso
          have s := h.srt j (j + 1) (Nat.zero_le _) (by omega) hj
          have s' : ltm c m (o j).toNat (o (j + 1)).toNat := s.resolve_right (fun x => q x.1)
          rcases Nat.lt_or_ge i j with p' | p'
          · rcases h.srt i j (Nat.zero_le _) p' (by omega) with t | ⟨t, _⟩
            · exact (t.trans s').not_eqm w
            · exact q (t.symm.trans w)
          · have : i = j := by omega
            subst this; exact q w
  intro a b ha hb
  obtain ⟨i, hi, ei⟩ := h.onto ha
  obtain ⟨j, hj, ej⟩ := h.onto hb
  have ra := hr i hi
  have rb := hr j hj
  have ta : (o i).toNat = a := by omega
  have tb : (o j).toNat = b := by omega
  rw [ta] at ra
  rw [tb] at rb
  rw [ra, rb]
  rcases Nat.lt_or_ge i j with p | p
  · obtain ⟨k1, k2⟩ := key j hj i (by omega)
    rw [ta, tb] at k2
    have s := h.srt i j (Nat.zero_le _) p hj
    unfold bef at s
    rw [ta, tb] at s
    constructor
    · intro w
      exact s.resolve_right (fun x => by have := k2.2 x.1; omega)
    · intro w
      have : v i ≠ v j := fun e => w.not_eqm (k2.1 e)
      omega
  · obtain ⟨k1, k2⟩ := key i hi j p
    rw [ta, tb] at k2
    constructor
    · intro w; omega
    · intro w
      exfalso
      rcases Nat.lt_or_ge j i with p' | p'
      · have s := h.srt j i (Nat.zero_le _) p' hi
        unfold bef at s
        rw [ta, tb] at s
        rcases s with s | ⟨s, _⟩
        · exact w.asymm s
        · exact w.not_eqm s.symm
      · have : i = j := by omega
        subst this
        rw [ta] at tb
        subst tb
        exact ltm.irrefl w

end
end Go.Proofs.YthjmpiekjfnoiaaGreatDoor

/-
  DERIVED: THE SHELF's CONTRACTS AT THIS DUMP, IN PLAIN WORDS (tools/lay-plain.mjs out of 'TryzShelf.lean', which tools/lay-shelf.mjs wrote): THE SAME DECLARATIONS UNDER THE SAME NAMES: 'import', 'namespace', 'open', 'def', 'theorem' AND NOTHING ELSE: no command of the shelf's: FOR A HAND-IN. Each laying: the table of numbers ('.._ren') and one theorem, a field a fact of the dump's own or the kernel's comparison; each contract: ONE APPLICATION.
-/
namespace Go.Proofs
open Go.Shelf
def Tryz.lays128_ren : Go.Shelf.Ren := ⟨fun | 128 => 107 | n => n, fun | 51 => 161 | 3 => 3 | 4 => 4 | 46 => 143 | 5 => 5 | 9 => 9 | n => n, fun | n => n⟩
theorem Tryz.lays128 : Go.Proofs.Lays.n128 Tryz.prog Tryz.lays128_ren := {
  mixed := by kernel_rfl
  f128 := Tryz.func107.trans (congrArg some (by kernel_rfl))
  t3 := Tryz.underlying3
  a3 := Tryz.isAgg3
  z3 := Tryz.sizeOf3
  v3 := Tryz.zeroValue3
  t4 := Tryz.underlying4
  a4 := Tryz.isAgg4
  z4 := Tryz.sizeOf4
  v4 := Tryz.zeroValue4
  t5 := Tryz.underlying5
  a5 := Tryz.isAgg5
  z5 := Tryz.sizeOf5
  v5 := Tryz.zeroValue5
  t9 := Tryz.underlying9
  a9 := Tryz.isAgg9
  z9 := Tryz.sizeOf9
  v9 := Tryz.zeroValue9
  t46 := Tryz.underlying143
  a46 := Tryz.isAgg143
  z46 := Tryz.sizeOf143
  v46 := Tryz.zeroValue143
  t51 := Tryz.underlying161
  a51 := Tryz.isAgg161
  z51 := Tryz.sizeOf161
  v51 := Tryz.zeroValue161 }
/-- bits.Len32: "Len32 returns the minimum number of bits required to represent x; the result is 0 for x == 0.": IT RETURNS 'Lib.bitLen x'; the world is as it was. ('h0', 'h1': x is a uint32.) (LAID: no walk: one application.) -/
theorem Tryz.bits_Len32 (x : Int) (w : World) (h0 : 0 ≤ x) (h1 : x ≤ 4294967295) :
    Calls Tryz.prog 107 #[.int .u32 x] w fun e w' => e = .returned (.int .i64 (Lib.bitLen x.toNat)) ∧ w' = w := Any.bits_Len32 Tryz.lays128 x w h0 h1
def Tryz.lays125_ren : Go.Shelf.Ren := ⟨fun | 125 => 91 | 128 => 107 | 129 => 108 | n => n, fun | 46 => 143 | 3 => 3 | 51 => 161 | 53 => 163 | 4 => 4 | 5 => 5 | 9 => 9 | n => n, fun | n => n⟩
theorem Tryz.lays125 : Go.Proofs.Lays.n125 Tryz.prog Tryz.lays125_ren := {
  mixed := by kernel_rfl
  f125 := Tryz.func91.trans (congrArg some (by kernel_rfl))
  f128 := Tryz.func107.trans (congrArg some (by kernel_rfl))
  f129 := Tryz.func108.trans (congrArg some (by kernel_rfl))
  t3 := Tryz.underlying3
  a3 := Tryz.isAgg3
  z3 := Tryz.sizeOf3
  v3 := Tryz.zeroValue3
  t4 := Tryz.underlying4
  a4 := Tryz.isAgg4
  z4 := Tryz.sizeOf4
  v4 := Tryz.zeroValue4
  t5 := Tryz.underlying5
  a5 := Tryz.isAgg5
  z5 := Tryz.sizeOf5
  v5 := Tryz.zeroValue5
  t9 := Tryz.underlying9
  a9 := Tryz.isAgg9
  z9 := Tryz.sizeOf9
  v9 := Tryz.zeroValue9
  t46 := Tryz.underlying143
  a46 := Tryz.isAgg143
  z46 := Tryz.sizeOf143
  v46 := Tryz.zeroValue143
  t51 := Tryz.underlying161
  a51 := Tryz.isAgg161
  z51 := Tryz.sizeOf161
  v51 := Tryz.zeroValue161
  t53 := Tryz.underlying163
  a53 := Tryz.isAgg163
  z53 := Tryz.sizeOf163
  v53 := Tryz.zeroValue163 }
/-- bits.Len: "Len returns the minimum number of bits required to represent x; the result is 0 for x == 0.": IT RETURNS 'Lib.bitLen x'; the world is as it was. (A uint has 64 bits in the model.) ITS CALLEE bits.Len64 IS MET BY ITS OWN CONTRACT OFF THE SHELF (lay that first). (LAID: no walk: one application.) -/
theorem Tryz.bits_Len (x : Int) (w : World) (h0 : 0 ≤ x) (h1 : x ≤ 18446744073709551615) :
    Calls Tryz.prog 91 #[.int .u64 x] w fun e w' => e = .returned (.int .i64 (Lib.bitLen x.toNat)) ∧ w' = w := Any.bits_Len Tryz.lays125 x w h0 h1
def Tryz.lays215_ren : Go.Shelf.Ren := ⟨fun | 215 => 110 | n => n, fun | 3 => 3 | 4 => 4 | n => n, fun | n => n⟩
theorem Tryz.lays215 : Go.Proofs.Lays.n215 Tryz.prog Tryz.lays215_ren := {
  mixed := by kernel_rfl
  f215 := Tryz.func110.trans (congrArg some (by kernel_rfl))
  t3 := Tryz.underlying3
  a3 := Tryz.isAgg3
  z3 := Tryz.sizeOf3
  v3 := Tryz.zeroValue3
  t4 := Tryz.underlying4
  a4 := Tryz.isAgg4
  z4 := Tryz.sizeOf4
  v4 := Tryz.zeroValue4 }
open Go.RowKit in
/-- cmp.isNaN at int: 'x != x': false. (LAID: no walk: one application.) -/
theorem Tryz.cmp_isNaN_int (x : Int) (w : World) :
    Calls Tryz.prog 110 #[.int .i64 x] w fun e w' => e = .returned (.bool false) ∧ w' = w := Any.cmp_isNaN_int Tryz.lays215 x w
def Tryz.lays122_ren : Go.Shelf.Ren := ⟨fun | 122 => 95 | 215 => 110 | n => n, fun | 3 => 3 | 4 => 4 | n => n, fun | n => n⟩
theorem Tryz.lays122 : Go.Proofs.Lays.n122 Tryz.prog Tryz.lays122_ren := {
  mixed := by kernel_rfl
  f122 := Tryz.func95.trans (congrArg some (by kernel_rfl))
  f215 := Tryz.func110.trans (congrArg some (by kernel_rfl))
  t3 := Tryz.underlying3
  a3 := Tryz.isAgg3
  z3 := Tryz.sizeOf3
  v3 := Tryz.zeroValue3
  t4 := Tryz.underlying4
  a4 := Tryz.isAgg4
  z4 := Tryz.sizeOf4
  v4 := Tryz.zeroValue4 }
open Go.RowKit in
/-- cmp.Compare at int: "Compare returns -1 if x is less than y, 0 if x equals y, +1 if x is greater than y.": IT RETURNS 'Lib.compareInt x y'; the world is as it was. (LAID: no walk: one application.) -/
theorem Tryz.cmp_Compare_int (x y : Int) (w : World) :
    Calls Tryz.prog 95 #[.int .i64 x, .int .i64 y] w fun e w' => e = .returned (.int .i64 (Lib.compareInt x y)) ∧ w' = w := Any.cmp_Compare_int Tryz.lays122 x y w
def Tryz.lays129_ren : Go.Shelf.Ren := ⟨fun | 129 => 108 | n => n, fun | 53 => 163 | 3 => 3 | 4 => 4 | 46 => 143 | 5 => 5 | 9 => 9 | n => n, fun | n => n⟩
theorem Tryz.lays129 : Go.Proofs.Lays.n129 Tryz.prog Tryz.lays129_ren := {
  mixed := by kernel_rfl
  f129 := Tryz.func108.trans (congrArg some (by kernel_rfl))
  t3 := Tryz.underlying3
  a3 := Tryz.isAgg3
  z3 := Tryz.sizeOf3
  v3 := Tryz.zeroValue3
  t4 := Tryz.underlying4
  a4 := Tryz.isAgg4
  z4 := Tryz.sizeOf4
  v4 := Tryz.zeroValue4
  t5 := Tryz.underlying5
  a5 := Tryz.isAgg5
  z5 := Tryz.sizeOf5
  v5 := Tryz.zeroValue5
  t9 := Tryz.underlying9
  a9 := Tryz.isAgg9
  z9 := Tryz.sizeOf9
  v9 := Tryz.zeroValue9
  t46 := Tryz.underlying143
  a46 := Tryz.isAgg143
  z46 := Tryz.sizeOf143
  v46 := Tryz.zeroValue143
  t53 := Tryz.underlying163
  a53 := Tryz.isAgg163
  z53 := Tryz.sizeOf163
  v53 := Tryz.zeroValue163 }
/-- bits.Len64: "Len64 returns the minimum number of bits required to represent x; the result is 0 for x == 0.": IT RETURNS 'Lib.bitLen x'; the world is as it was. ('h0', 'h1': x is a uint64.) (LAID: no walk: one application.) -/
theorem Tryz.bits_Len64 (x : Int) (w : World) (h0 : 0 ≤ x) (h1 : x ≤ 18446744073709551615) :
    Calls Tryz.prog 108 #[.int .u64 x] w fun e w' => e = .returned (.int .i64 (Lib.bitLen x.toNat)) ∧ w' = w := Any.bits_Len64 Tryz.lays129 x w h0 h1
def Tryz.lays189_ren : Go.Shelf.Ren := ⟨fun | 189 => 78 | 125 => 91 | 257 => 90 | 128 => 107 | 129 => 108 | 294 => 98 | 295 => 99 | 296 => 100 | 297 => 101 | 298 => 102 | 299 => 103 | 216 => 104 | 300 => 105 | 301 => 106 | 328 => 112 | 329 => 113 | 330 => 114 | 331 => 115 | 332 => 116 | 215 => 110 | 343 => 119 | n => n, fun | 28 => 23 | 3 => 3 | 46 => 143 | 0 => 0 | 51 => 161 | 53 => 163 | 4 => 4 | 183 => 154 | 182 => 153 | 131 => 158 | 5 => 5 | 9 => 9 | 218 => 165 | 222 => 169 | 228 => 173 | 229 => 174 | n => n, fun | n => n⟩
theorem Tryz.lays189 : Go.Proofs.Lays.n189 Tryz.prog Tryz.lays189_ren := {
  mixed := by kernel_rfl
  f125 := Tryz.func91.trans (congrArg some (by kernel_rfl))
  f128 := Tryz.func107.trans (congrArg some (by kernel_rfl))
  f129 := Tryz.func108.trans (congrArg some (by kernel_rfl))
  f189 := Tryz.func78.trans (congrArg some (by kernel_rfl))
  f215 := Tryz.func110.trans (congrArg some (by kernel_rfl))
  f216 := Tryz.func104.trans (congrArg some (by kernel_rfl))
  f257 := Tryz.func90.trans (congrArg some (by kernel_rfl))
  f294 := Tryz.func98.trans (congrArg some (by kernel_rfl))
  f295 := Tryz.func99.trans (congrArg some (by kernel_rfl))
  f296 := Tryz.func100.trans (congrArg some (by kernel_rfl))
  f297 := Tryz.func101.trans (congrArg some (by kernel_rfl))
  f298 := Tryz.func102.trans (congrArg some (by kernel_rfl))
  f299 := Tryz.func103.trans (congrArg some (by kernel_rfl))
  f300 := Tryz.func105.trans (congrArg some (by kernel_rfl))
  f301 := Tryz.func106.trans (congrArg some (by kernel_rfl))
  f328 := Tryz.func112.trans (congrArg some (by kernel_rfl))
  f329 := Tryz.func113.trans (congrArg some (by kernel_rfl))
  f330 := Tryz.func114.trans (congrArg some (by kernel_rfl))
  f331 := Tryz.func115.trans (congrArg some (by kernel_rfl))
  f332 := Tryz.func116.trans (congrArg some (by kernel_rfl))
  f343 := Tryz.func119.trans (congrArg some (by kernel_rfl))
  t0 := Tryz.underlying0
  a0 := Tryz.isAgg0
  z0 := Tryz.sizeOf0
  v0 := Tryz.zeroValue0
  t3 := Tryz.underlying3
  a3 := Tryz.isAgg3
  z3 := Tryz.sizeOf3
  v3 := Tryz.zeroValue3
  t4 := Tryz.underlying4
  a4 := Tryz.isAgg4
  z4 := Tryz.sizeOf4
  v4 := Tryz.zeroValue4
  t5 := Tryz.underlying5
  a5 := Tryz.isAgg5
  z5 := Tryz.sizeOf5
  v5 := Tryz.zeroValue5
  t9 := Tryz.underlying9
  a9 := Tryz.isAgg9
  z9 := Tryz.sizeOf9
  v9 := Tryz.zeroValue9
  t28 := Tryz.underlying23
  a28 := Tryz.isAgg23
  z28 := Tryz.sizeOf23
  v28 := Tryz.zeroValue23
  t46 := Tryz.underlying143
  a46 := Tryz.isAgg143
  z46 := Tryz.sizeOf143
  v46 := Tryz.zeroValue143
  t51 := Tryz.underlying161
  a51 := Tryz.isAgg161
  z51 := Tryz.sizeOf161
  v51 := Tryz.zeroValue161
  t53 := Tryz.underlying163
  a53 := Tryz.isAgg163
  z53 := Tryz.sizeOf163
  v53 := Tryz.zeroValue163
  t131 := Tryz.underlying158
  a131 := Tryz.isAgg158
  z131 := Tryz.sizeOf158
  v131 := Tryz.zeroValue158
  t182 := Tryz.underlying153
  a182 := Tryz.isAgg153
  z182 := Tryz.sizeOf153
  v182 := Tryz.zeroValue153
  t183 := Tryz.underlying154
  a183 := Tryz.isAgg154
  z183 := Tryz.sizeOf154
  v183 := Tryz.zeroValue154
  t218 := Tryz.underlying165
  a218 := Tryz.isAgg165
  z218 := Tryz.sizeOf165
  v218 := Tryz.zeroValue165
  t222 := Tryz.underlying169
  a222 := Tryz.isAgg169
  z222 := Tryz.sizeOf169
  v222 := Tryz.zeroValue169
  t228 := Tryz.underlying173
  a228 := Tryz.isAgg173
  z228 := Tryz.sizeOf173
  v228 := Tryz.zeroValue173
  t229 := Tryz.underlying174
  a229 := Tryz.isAgg174
  z229 := Tryz.sizeOf174
  v229 := Tryz.zeroValue174 }
open Go.Sort Go.RowKit in
theorem Tryz.slices_Sort_int (blk off cap : Nat) (zs : List Int) (w : World) (hH : Holds (Value.int .i64) w blk off zs.toArray) (hblk : blk < w.heap.size) (hsz : zs.length < 4611686018427387904) :
    Calls Tryz.prog 78 #[.slice (some ⟨blk, off, none⟩) zs.length cap] w fun e w' =>
      e = .returned (.tuple #[]) ∧ ∃ n os, w' = grow (putRow (Value.int .i64) (Sort.ahead w n) blk off (zs.mergeSort fun x y => decide (x ≤ y)).toArray) os := Any.slices_Sort_int Tryz.lays189 blk off cap zs w hH hblk hsz
open Go.RowKit Go.Sort in
/-- .. and plain. (LAID: no walk: one application.) -/
theorem Tryz.slices_Sort_int_none (p : Option Addr) (cap : Nat) (w : World) :
    Calls Tryz.prog 78 #[.slice p 0 cap] w fun e w' => e = .returned (.tuple #[]) ∧ w' = w := Any.slices_Sort_int_none Tryz.lays189 p cap w
def Tryz.lays187_ren : Go.Shelf.Ren := ⟨fun | 187 => 97 | 255 => 111 | n => n, fun | 37 => 49 | 5 => 5 | 3 => 3 | n => n, fun | n => n⟩
theorem Tryz.lays187 : Go.Proofs.Lays.n187 Tryz.prog Tryz.lays187_ren := {
  mixed := by kernel_rfl
  f187 := Tryz.func97.trans (congrArg some (by kernel_rfl))
  f255 := Tryz.func111.trans (congrArg some (by kernel_rfl))
  t3 := Tryz.underlying3
  a3 := Tryz.isAgg3
  z3 := Tryz.sizeOf3
  v3 := Tryz.zeroValue3
  t5 := Tryz.underlying5
  a5 := Tryz.isAgg5
  z5 := Tryz.sizeOf5
  v5 := Tryz.zeroValue5
  t37 := Tryz.underlying49
  a37 := Tryz.isAgg49
  z37 := Tryz.sizeOf49
  v37 := Tryz.zeroValue49 }
/-- bytes.IndexByte: "IndexByte returns the index of the first instance of c in b, or -1 if c is not present in b.": IT RETURNS 'Lib.indexByte (the bytes of b) c'; the world is as it was. 'xs': the numbers that the slice's cells hold. (LAID: no walk: one application.) -/
theorem Tryz.bytes_IndexByte (b o n c : Nat) (xs : List Int) (cv : Int) (w : World) (hx : xs.length = n) (hc : ∀ i, i < n → w.cell? ⟨b, o + i, none⟩ = some (.int .u8 (xs.getD i 0))) :
    Calls Tryz.prog 97 #[.slice (some ⟨b, o, none⟩) n c, .int .u8 cv] w fun e w' => e = .returned (.int .i64 (Lib.indexByte (Lib.bytesOf xs) cv.toNat.toUInt8)) ∧ w' = w := Any.bytes_IndexByte Tryz.lays187 b o n c xs cv w hx hc
/-- bytes.IndexByte AT nil: -1. (LAID: no walk: one application.) -/
theorem Tryz.bytes_IndexByte_nil (cv : Int) (w : World) :
    Calls Tryz.prog 97 #[.slice none 0 0, .int .u8 cv] w fun e w' => e = .returned (.int .i64 (-1)) ∧ w' = w := Any.bytes_IndexByte_nil Tryz.lays187 cv w
end Go.Proofs

/-
  The walks of ranks, of what compares them, and of the sort by them.
-/
namespace Go.Proofs.YthjmpiekjfnoiaaGreatDoor
open Go.RowKit

def ranksV (s : ByteArray) (b n M : Nat) : Value := .agg #[.string s, .slice (some ⟨b, 0, none⟩) n n, .int .i64 (M : Int)]

theorem bDrewN {B : Nat} {a b : World} (h : Below B a b) (n : Nat) : Below B a (b.drewN n) := ⟨h.os, h.tape, h.output, h.size, h.block⟩

/-- The first number, or the second one if that is 0. -/
def orI (p q : Int) : Int := if p = 0 then q else p
theorem orI_first {p q : Int} (h : p ≠ 0) : orI p q = p := if_neg h
theorem orI_second {p q : Int} (h : p = 0) : orI p q = q := if_pos h

set_option maxRecDepth 100000 in
set_option maxHeartbeats 800000 in
theorem at_any (s : ByteArray) (b n M k : Nat) (r : Nat → Int) (w : World) (hs : s.size = n) (hn : n ≤ 1000000) (hM : M ≤ 4000000) (hk : k < n) (hr : Arr w b 3 (tab n r)) :
    Calls Tryz.prog 96 #[ranksV s b n M, .int .i64 (k : Int)] w fun e w' => e = .returned (.int .i64 (r ((k + M) % n))) ∧ Below w.heap.size w w' := by
  unfold ranksV
  subst hs
  have hpos : 0 < s.size := by omega
  obtain ⟨j, hj⟩ : ∃ j, j = (k + M) % s.size := ⟨_, rfl⟩
  have hjn : j < s.size := by rw [hj]; exact Nat.mod_lt _ hpos
  have ej : ((k : Int) + (M : Int)).tmod (s.size : Int) = (j : Int) := by
    rw [hj, Int.tmod_eq_emod_of_nonneg (by omega), Int.natCast_emod, Int.natCast_add]
  have hc := (hr.alloc (.cells #[.string s, .slice (some ⟨b, 0, none⟩) s.size s.size, .int .i64 (M : Int)] 120)).cell (tab_get s.size r j hjn)
  have hz : ((s.size : Int) == 0) = false := by rw [beq_eq_false_iff_ne]; omega
  rw [← hj]
  have HJ := hid hj
  clear hj
  go_enter Tryz.func96, Tryz.ntmps96
  go_wp2
  go_quiet (fail)
  go_wp2
  go_ret
  refine ⟨rfl, ?_⟩
  exact bDrewN (Below.alloc (Below.refl _ _) (Nat.le_refl _) _) _

set_option maxRecDepth 100000 in
set_option maxHeartbeats 800000 in
theorem or_any (v : Value) (p q : Int) (w : World) (hr : RdI w v [p, q]) :
    Calls Tryz.prog 94 #[v] w fun e w' => e = .returned (.int .i64 (orI p q)) ∧ w = w' := by
  obtain ⟨a, cap, rfl, h1, h2, h3⟩ := hr.open
  obtain ⟨b, off, rfl, hlt, hc⟩ := h3 (by simp)
  have c0 := hc 0 p rfl
  have c1 := hc 1 q rfl
  rw [Nat.add_zero] at c0
  clear hc h3 hr
  simp only [List.length_cons, List.length_nil, Nat.zero_add, Nat.reduceAdd] at h1 ⊢
  have HQ := hid hlt
  clear hlt
  go_enter Tryz.func94, Tryz.ntmps94
  go_wp2
  go_loopg [8, 5] 2 (fun gh s8 s5 wr => ∃ k : Nat, k ≤ 2 ∧ gh = 2 - k ∧ s8 = .int .i64 k ∧ (1 ≤ k → p = 0) ∧ (2 ≤ k → q = 0) ∧ w = wr)
  case atStart => exact ⟨0, by omega, rfl, rfl, fun h => by omega, fun h => by omega, rfl⟩
  case round =>
    obtain ⟨k, hk, hg, rfl, k1, k2, rfl⟩ := hrel
    have HG := hid hg
    have K1 := hid k1
    have K2 := hid k2
    clear hg k1 k2
    rcases Nat.lt_or_ge k 1 with h | h
    · have : k = 0 := by omega
      subst this
      by_cases hp : p = 0
      · have t : (p != 0) = false := by simp [hp]
        have HP := hid hp
        clear hp
        go_wp2
        have hg := HG.out
        go_roundg 1
        case measure => omega
        case rel => exact ⟨1, by omega, rfl, by go_num, fun _ => HP.out, fun h => by omega, rfl⟩
      · have t : (p != 0) = true := by simp [hp]
        have HP := hid hp
        clear hp
        go_wp2
        go_ret
        exact ⟨ret_int (orI_first HP.out).symm, rfl⟩
    · rcases Nat.lt_or_ge k 2 with h' | h'
      · have : k = 1 := by omega
        subst this
        by_cases hp : q = 0
        · have t : (q != 0) = false := by simp [hp]
          have HP := hid hp
          clear hp
          go_wp2
          have hg := HG.out
          go_roundg 0
          case measure => omega
          case rel => exact ⟨2, by omega, rfl, by go_num, fun _ => K1.out (by omega), fun _ => HP.out, rfl⟩
        · have t : (q != 0) = true := by simp [hp]
          have HP := hid hp
          clear hp
          go_wp2
          go_ret
          exact ⟨ret_int (orI_second (K1.out (by omega))).symm, rfl⟩
      · have : k = 2 := by omega
        subst this
        go_wp2
        go_ret
        exact ⟨ret_int ((orI_second (K1.out (by omega))).trans (K2.out (by omega))).symm, rfl⟩

/-- What a region that asks the ranks holds on to. -/
theorem keepS {w1 w2 : World} {p1 p2 p3 p4 p5 : Addr} {v1 v2 v3 v4 v5 : Value} {B : Nat} {w0 : World}
    (h : w1.cell? p1 = some v1 ∧ w1.cell? p2 = some v2 ∧ w1.cell? p3 = some v3 ∧ w1.cell? p4 = some v4 ∧ w1.cell? p5 = some v5 ∧ Below B w0 w1 ∧ B ≤ w1.heap.size) (hb : Below w1.heap.size w1 w2) :
    w2.cell? p1 = some v1 ∧ w2.cell? p2 = some v2 ∧ w2.cell? p3 = some v3 ∧ w2.cell? p4 = some v4 ∧ w2.cell? p5 = some v5 ∧ Below B w0 w2 ∧ B ≤ w2.heap.size := by
  obtain ⟨h1, h2, h3, h4, h5, h6, h7⟩ := h
  have k : ∀ {p : Addr} {v : Value}, w1.cell? p = some v → w2.cell? p = some v := fun {p} {v} hp => (hb.cell (World.block_lt_of_cell? w1 p hp)).trans hp
  exact ⟨k h1, k h2, k h3, k h4, k h5, h6.trans (hb.mono h7), Nat.le_trans h7 hb.size⟩

/-- What a comparison by ranks answers, as the code spells it. -/
def cmpI (r : Nat → Int) (n M x y : Nat) : Int := orI (Lib.compareInt (r x) (r y)) (Lib.compareInt (r ((x + M) % n)) (r ((y + M) % n)))
theorem cmpI_eq (r : Nat → Int) (n M x y : Nat) : cmpI r n M x y = kcmp r n M x y := by
  unfold cmpI orI kcmp Lib.compareInt
  generalize r x = p
  generalize r y = q
  generalize r ((x + M) % n) = s
  generalize r ((y + M) % n) = t
  by_cases h1 : p < q
  · simp [h1]
  · by_cases h2 : q < p
    · simp [h1, h2]
    · simp [h1, h2]

theorem keepArr {w1 w0 : World} {p1 p2 p3 p4 p5 : Addr} {v1 v2 v3 v4 v5 : Value} {b : Nat} {e : TypeId} {l : List Value} (ha : Arr w0 b e l) (hb : b < w0.heap.size)
    (h : w1.cell? p1 = some v1 ∧ w1.cell? p2 = some v2 ∧ w1.cell? p3 = some v3 ∧ w1.cell? p4 = some v4 ∧ w1.cell? p5 = some v5 ∧ Below w0.heap.size w0 w1 ∧ w0.heap.size ≤ w1.heap.size) : Arr w1 b e l :=
  ha.below h.2.2.2.2.2.1 hb
theorem keepB {w w0 w1 : World} {p1 p2 p3 p4 p5 : Addr} {v1 v2 v3 v4 v5 : Value} {q : Nat} (hb : Below q w w0)
    (h : w1.cell? p1 = some v1 ∧ w1.cell? p2 = some v2 ∧ w1.cell? p3 = some v3 ∧ w1.cell? p4 = some v4 ∧ w1.cell? p5 = some v5 ∧ Below w0.heap.size w0 w1 ∧ w0.heap.size ≤ w1.heap.size) (hq : q ≤ w0.heap.size) : Below q w w1 :=
  hb.trans (h.2.2.2.2.2.1.mono hq)
theorem belowNew (w : World) (o : Obj) : Below w.heap.size w (w.alloc o) := (Below.refl _ _).alloc (Nat.le_refl _) _
theorem compare0 (x y : Int) (w : World) : Calls Tryz.prog 95 #[.int .i64 x, .int .i64 y] w fun e w' => e = .returned (.int .i64 (Lib.compareInt x y)) ∧ w = w' :=
  (Tryz.cmp_Compare_int x y w).mono fun _ _ h => ⟨h.1, h.2.symm⟩

set_option maxRecDepth 100000 in
set_option maxHeartbeats 3200000 in
theorem compare_any (s : ByteArray) (b n M x y : Nat) (r : Nat → Int) (w : World) (hs : s.size = n) (hn : n ≤ 1000000) (hM : M ≤ 4000000) (hx : x < n) (hy : y < n) (hr : Arr w b 3 (tab n r)) :
    Calls Tryz.prog 80 #[ranksV s b n M, .int .i64 (x : Int), .int .i64 (y : Int)] w fun e w' => e = .returned (.int .i64 (cmpI r n M x y)) ∧ Below w.heap.size w w' := by
  have hat : ∀ (k : Nat) (w2 : World), k < n → Arr w2 b 3 (tab n r) → Calls Tryz.prog 96 #[ranksV s b n M, .int .i64 (k : Int)] w2 fun e w' => e = .returned (.int .i64 (r ((k + M) % n))) ∧ Below w2.heap.size w2 w' :=
    fun k w2 hk h2 => at_any s b n M k r w2 hs hn hM hk h2
  unfold ranksV at hat ⊢
  have HAT := hid hat
  have HS := hid hs
  clear hat hs
  have hbl := hr.lt
  have a0 := hr.alloc (.cells #[.string s, .slice (some ⟨b, 0, none⟩) n n, .int .i64 (M : Int)] 120)
  have c4 := a0.cell (tab_get n r x hx)
  have c5 := a0.cell (tab_get n r y hy)
  have c1 : (w.alloc (.cells #[.string s, .slice (some ⟨b, 0, none⟩) n n, .int .i64 (M : Int)] 120)).cell? ⟨w.heap.size, 0, none⟩ = some (.string s) := World.cell?_alloc_at _ _ _ _ rfl
  have c2 : (w.alloc (.cells #[.string s, .slice (some ⟨b, 0, none⟩) n n, .int .i64 (M : Int)] 120)).cell? ⟨w.heap.size, 1, none⟩ = some (.slice (some ⟨b, 0, none⟩) n n) := World.cell?_alloc_at _ _ _ _ rfl
  have c3 : (w.alloc (.cells #[.string s, .slice (some ⟨b, 0, none⟩) n n, .int .i64 (M : Int)] 120)).cell? ⟨w.heap.size, 2, none⟩ = some (.int .i64 (M : Int)) := World.cell?_alloc_at _ _ _ _ rfl
  have hWb : Below w.heap.size w (w.alloc (.cells #[.string s, .slice (some ⟨b, 0, none⟩) n n, .int .i64 (M : Int)] 120)) := (Below.refl _ _).alloc (Nat.le_refl _) _
  have hbW := a0.lt
  have hqW := hWb.size
  have HWB := hid hWb
  clear hWb hr
  have i1 : (0 : Int) ≤ (x : Int) := by omega
  have i2 : (x : Int) < (n : Int) := by omega
  have i3 : (0 : Int) ≤ (y : Int) := by omega
  have i4 : (y : Int) < (n : Int) := by omega
  go_enter Tryz.func80, Tryz.ntmps80
  go_wp2
  generalize w.alloc (.cells #[.string s, .slice (some ⟨b, 0, none⟩) n n, .int .i64 (M : Int)] 120) = W at *
  have hS0 := keepS ⟨c1, c2, c3, c4, c5, Below.refl W.heap.size W, Nat.le_refl _⟩ (Below.refl W.heap.size W).drew
  clear c1 c2 c3 c4 c5
  go_region_held3 (fun w' => w'.cell? ⟨w.heap.size, 0, none⟩ = some (.string s) ∧ w'.cell? ⟨w.heap.size, 1, none⟩ = some (.slice (some ⟨b, 0, none⟩) n n) ∧ w'.cell? ⟨w.heap.size, 2, none⟩ = some (.int .i64 (M : Int)) ∧
      w'.cell? ⟨b, x, none⟩ = some (.int .i64 (r x)) ∧ w'.cell? ⟨b, y, none⟩ = some (.int .i64 (r y)) ∧ Below W.heap.size W w' ∧ W.heap.size ≤ w'.heap.size)
    (first
      | with_reducible assumption
      | with_reducible exact keepS (by assumption) (by assumption)
      | with_reducible exact keepS (by assumption) (belowNew _ _))
    (first
      | (go_at_call 95; refine (compare0 _ _ _).mono ?_; rintro e w' ⟨rfl, rfl⟩)
      | (go_at_call_of 96 (Value.int .i64 (x : Int)); refine (HAT.out x _ hx (keepArr a0 hbW (by assumption))).mono ?_; rintro e w' ⟨rfl, hb⟩)
      | (go_at_call_of 96 (Value.int .i64 (y : Int)); refine (HAT.out y _ hy (keepArr a0 hbW (by assumption))).mono ?_; rintro e w' ⟨rfl, hb⟩)
      | (go_at_call 94; refine (or_any _ _ _ _ (rd_lit _ _ [_, _] 2 rfl (by decide))).mono ?_; rintro e w' ⟨rfl, rfl⟩))
  all_goals go_wp2
  all_goals go_ret
  all_goals exact ⟨rfl, keepB HWB.out (by assumption) hqW⟩

/-- The sorter behind the closure's pointer: an interface that holds ranks. -/
def sorterV (s : ByteArray) (b n M : Nat) : Value := .iface 120 (ranksV s b n M)

set_option maxRecDepth 100000 in
set_option maxHeartbeats 800000 in
theorem cmpFn_any (s : ByteArray) (b bx n M x y : Nat) (r : Nat → Int) (w : World) (hs : s.size = n) (hn : n ≤ 1000000) (hM : M ≤ 4000000) (hx : x < n) (hy : y < n) (hr : Arr w b 3 (tab n r)) (hb : w.cell? ⟨bx, 0, none⟩ = some (sorterV s b n M)) :
    Calls Tryz.prog 93 #[.int .i64 (x : Int), .int .i64 (y : Int), .pointer (some ⟨bx, 0, none⟩)] w fun e w' => e = .returned (.int .i64 (cmpI r n M x y)) ∧ Below w.heap.size w w' := by
  have hcmp := compare_any s b n M x y r w hs hn hM hx hy hr
  unfold sorterV at hb
  unfold ranksV at hcmp hb
  have HC := hid hcmp
  clear hcmp hs hr
  go_enter Tryz.func93, Tryz.ntmps93
  go_wp2_with fail
  refine HC.out.mono ?_
  rintro e w1 ⟨rfl, hbl⟩
  go_wp2
  go_ret
  exact ⟨rfl, hbl⟩

end Go.Proofs.YthjmpiekjfnoiaaGreatDoor

/-
  The walks of slices.IndexFunc and slices.ContainsFunc over integers, by a function value that answers a test.
-/
namespace Go.Proofs.YthjmpiekjfnoiaaGreatDoor
open Go.RowKit Go.Shelf

/-- What a function value answers: the test, of each integer of the list. -/
def PredOK (w0 : World) (g : Nat) (caps : Array Value) (p : Int → Bool) (l : List Int) : Prop :=
  ∀ W, Below w0.heap.size w0 W → ∀ x ∈ l, Calls Tryz.prog g (#[Value.int .i64 x] ++ caps) W fun e W' => e = .returned (.bool (p x)) ∧ W' = W

set_option maxRecDepth 100000 in
set_option maxHeartbeats 800000 in
theorem indexFunc_any (g : Nat) (caps : Array Value) (p : Int → Bool) (v : Value) (l : List Int) (w : World) (hr : RdI w v l) (hg : Enters Tryz.prog g) (hp : PredOK w g caps p l) :
    Calls Tryz.prog 74 #[v, .func (.func g) #[] caps] w fun e w' => e = .returned (.int .i64 (idxP p l)) ∧ w' = w := by
  obtain ⟨a, ca, rfl, hca, hma, hA⟩ := hr.open
  unfold maxLen at hma
  clear hr
  have HP := hid hp
  have hE : ∀ args W, (callFunc g args).run Tryz.prog W = .ok (.enter g args) W := hg
  clear hp hg
  go_enter Tryz.func74, Tryz.ntmps74
  go_wp2_with fail
  go_loopg [8] l.length (fun gh s8 wr => ∃ k : Nat, k ≤ l.length ∧ gh = l.length - k ∧ s8 = .int .i64 k ∧ Hid (∀ x ∈ l.take k, p x = false) ∧ wr = w)
  case atStart => exact ⟨0, Nat.zero_le _, rfl, rfl, hid (fun x hx => by simp at hx), rfl⟩
  case round =>
    obtain ⟨k, hk, hg, rfl, HT, rfl⟩ := hrel
    have HG := hid hg
    clear hg
    by_cases hlt : k < l.length
    · obtain ⟨b1, o1, rfl, hb1, hc1⟩ := hA (by omega)
      obtain ⟨x, hx⟩ := getI hlt
      have c1 := hc1 k x hx
      have hmem : x ∈ l := List.mem_of_getElem? hx
      have HX := hid hx
      have hP := HP.out _ (Below.refl _ wr) x hmem
      clear hc1 hx hA
      go_wp2_with fail
      refine hP.mono ?_
      rintro e w1 ⟨rfl, rfl⟩
      by_cases hpx : p x = true
      · rw [hpx]
        go_wp2_with fail
        go_ret
        refine ⟨ret_int ?_, rfl⟩
        rw [idxP_at HT.out hlt (by have := HX.out; rw [List.getElem?_eq_getElem hlt] at this; rw [Option.some.inj this]; exact hpx)]
      · have hpf : p x = false := by simpa using hpx
        rw [hpf]
        go_wp2_with fail
        have hg := HG.out
        go_roundg (l.length - (k + 1))
        case measure => omega
        case rel =>
          refine ⟨k + 1, by omega, rfl, by go_num, hid (fun y hy => ?_), rfl⟩
          rw [List.take_add_one, HX.out] at hy
          rcases List.mem_append.1 hy with hy | hy
          · exact HT.out y hy
          · simp at hy; rw [hy]; exact hpf
    · go_wp2_with fail
      go_ret
      exact ⟨ret_int (by rw [idxP_none]; have := HT.out; rwa [List.take_of_length_le (by omega)] at this), rfl⟩

set_option maxRecDepth 100000 in
theorem containsFunc_any (g : Nat) (caps : Array Value) (p : Int → Bool) (v : Value) (l : List Int) (w : World) (hr : RdI w v l) (hg : Enters Tryz.prog g) (hp : PredOK w g caps p l) :
    Calls Tryz.prog 54 #[v, .func (.func g) #[] caps] w fun e w' => e = .returned (.bool (decide (0 ≤ idxP p l))) ∧ w' = w := by
  have HI := hid (indexFunc_any g caps p v l w hr hg hp)
  obtain ⟨i, hi⟩ : ∃ i, i = idxP p l := ⟨_, rfl⟩
  rw [← hi] at HI ⊢
  clear hr hg hp hi
  go_enter Tryz.func54, Tryz.ntmps54
  go_wp2_with fail
  refine HI.out.mono ?_
  rintro e w1 ⟨rfl, rfl⟩
  go_wp2_with fail
  go_ret
  exact ⟨rfl, rfl⟩

/-! ### The tests of layer 6. -/
theorem below1_any (x : Int) (w : World) : Calls Tryz.prog 73 #[.int .i64 x] w fun e w' => e = .returned (.bool (decide (x < 0))) ∧ w' = w := by
  go_enter Tryz.func73, Tryz.ntmps73
  go_wp2
  go_ret
  exact ⟨rfl, rfl⟩
theorem encode1_any (x : Int) (w : World) : Calls Tryz.prog 55 #[.int .i64 x] w fun e w' => e = .returned (.bool (decide (1099511627776 < x))) ∧ w' = w := by
  go_enter Tryz.func55, Tryz.ntmps55
  go_wp2
  go_ret
  exact ⟨rfl, rfl⟩
theorem row1_any (x t : Int) (b : Addr) (w : World) (hc : w.cell? b = some (.int .i64 t)) : Calls Tryz.prog 75 #[.int .i64 x, .pointer (some b)] w fun e w' => e = .returned (.bool (decide (t < x))) ∧ w' = w := by
  go_enter Tryz.func75, Tryz.ntmps75
  go_wp2
  go_ret
  exact ⟨rfl, rfl⟩
theorem number1_any (x : Int) (w : World) : Calls Tryz.prog 76 #[.int .i64 x] w fun e w' => e = .returned (.bool (!(x == 0) && !(x == 1))) ∧ w' = w := by
  by_cases h0 : x = 0
  · subst h0
    go_enter Tryz.func76, Tryz.ntmps76
    go_wp2
    go_ret
    exact ⟨rfl, rfl⟩
  · have t0 : (x != 0) = true := by rw [bne_iff_ne]; exact h0
    by_cases h1 : x = 1
    · subst h1
      go_enter Tryz.func76, Tryz.ntmps76
      go_wp2
      go_ret
      exact ⟨rfl, rfl⟩
    · have t1 : (x != 1) = true := by rw [bne_iff_ne]; exact h1
      go_enter Tryz.func76, Tryz.ntmps76
      go_wp2
      go_ret
      exact ⟨ret_bool (by simp [h0, h1]), rfl⟩

set_option maxRecDepth 100000 in
theorem below_any (v : Value) (l : List Int) (w : World) (hr : RdI w v l) :
    Calls Tryz.prog 46 #[v] w fun e w' => e = .returned (.bool (decide (0 ≤ idxP (fun x => decide (x < 0)) l))) ∧ w' = w := by
  have HI := hid (containsFunc_any 73 #[] (fun x => decide (x < 0)) v l w hr (enters_of Tryz.func73 (by kernel_rfl) rfl) (fun W _ x _ => below1_any x W))
  obtain ⟨i, hi⟩ : ∃ i, i = decide (0 ≤ idxP (fun x => decide (x < 0)) l) := ⟨_, rfl⟩
  rw [← hi] at HI ⊢
  clear hi hr
  go_enter Tryz.func46, Tryz.ntmps46
  go_wp2_with fail
  refine HI.out.mono ?_
  rintro e w1 ⟨rfl, rfl⟩
  go_wp2_with fail
  go_ret
  exact ⟨rfl, rfl⟩

/-- How many integers a list begins with that are not above t. -/
def lead (t : Int) (l : List Int) : Nat := l.findIdx (fun x => decide (t < x))
theorem lead_idx (t : Int) : ∀ l : List Int, (if idxP (fun x => decide (t < x)) l < 0 then (l.length : Int) else idxP (fun x => decide (t < x)) l) = (lead t l : Int) := by
  intro l
  induction l with
  | nil => rfl
  | cons x l ih =>
    unfold lead at ih ⊢
    rw [idxP, List.findIdx_cons]
    by_cases hx : t < x
    · simp [hx]
    · simp only [hx, decide_false, Bool.false_eq_true, if_false, cond_false]
      obtain ⟨h1, _, _⟩ := idxP_ge (fun x => decide (t < x)) l
      by_cases h : idxP (fun x => decide (t < x)) l < 0
      · rw [if_pos h] at ih
        rw [if_pos h, if_pos (by omega), List.length_cons]; omega
      · rw [if_neg h] at ih
        rw [if_neg h, if_neg (by omega), ih]; omega
theorem lead_le (t : Int) (l : List Int) : lead t l ≤ l.length := List.findIdx_le_length
theorem lead_take (t : Int) (l : List Int) : ∀ x ∈ l.take (lead t l), ¬ t < x := by
  intro x hx
  obtain ⟨i, hi, rfl⟩ := List.mem_iff_getElem.1 hx
  rw [List.length_take] at hi
  rw [List.getElem_take]
  have := List.not_of_lt_findIdx (p := fun x => decide (t < x)) (xs := l) (i := i) (by unfold lead at hi; omega)
  simpa using this
theorem lead_at (t : Int) (l : List Int) {x : Int} (h : l[lead t l]? = some x) : t < x := by
  obtain ⟨hl, hx⟩ := List.getElem?_eq_some_iff.1 h
  have := List.findIdx_getElem (p := fun x => decide (t < x)) (w := hl)
  have h2 : decide (t < l[lead t l]) = true := this
  rw [hx] at h2
  simpa using h2

set_option maxRecDepth 100000 in
theorem row_any (v : Value) (l : List Int) (t : Int) (w : World) (hr : RdI w v l) :
    Calls Tryz.prog 48 #[v, .int .i64 t] w fun e w' => e = .returned (.int .i64 ((lead t l : Nat) : Int)) ∧ Below w.heap.size w w' := by
  have hli := lead_idx t l
  have HI := hid (indexFunc_any 75 #[.pointer (some ⟨w.heap.size, 0, none⟩)] (fun x => decide (t < x)) v l (w.alloc (.cells #[.int .i64 t] 3)) (hr.below ((Below.refl _ _).alloc (Nat.le_refl _) _)) (enters_of Tryz.func75 (by kernel_rfl) rfl)
    (fun W hW x _ => row1_any x t ⟨w.heap.size, 0, none⟩ W (by rw [hW.cell (p := ⟨w.heap.size, 0, none⟩) (by simp)]; exact newc _ _ _)))
  obtain ⟨a, ca, rfl, hca, hma, hA⟩ := hr.open
  obtain ⟨i, hi⟩ : ∃ i, i = idxP (fun x => decide (t < x)) l := ⟨_, rfl⟩
  rw [← hi] at HI hli
  have HL := hid hli
  clear hi hA hr hli
  unfold maxLen at hma
  go_enter Tryz.func48, Tryz.ntmps48
  go_wp2_with fail
  refine HI.out.mono ?_
  rintro e w1 ⟨rfl, rfl⟩
  by_cases h : i < 0
  · go_wp2_with fail
    go_ret
    refine ⟨ret_int ?_, (Below.refl _ _).alloc (Nat.le_refl _) _⟩
    have := HL.out
    rwa [if_pos h] at this
  · go_wp2_with fail
    go_ret
    refine ⟨ret_int ?_, (Below.refl _ _).alloc (Nat.le_refl _) _⟩
    have := HL.out
    rwa [if_neg (by omega)] at this

end Go.Proofs.YthjmpiekjfnoiaaGreatDoor

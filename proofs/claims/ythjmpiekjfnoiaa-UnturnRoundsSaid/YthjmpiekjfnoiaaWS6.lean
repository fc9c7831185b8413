/-
  The walk of the library's stable sort.
-/
import Derived.Test.YthjmpiekjfnoiaaWS5
namespace Go.Proofs.Ythjmpiekjfnoiaa
open Go.RowKit

/-- From a to b: what was there, in order. -/
structure BlkOK (lt : Int → Int → Prop) (f g : Nat → Int) (a b : Nat) : Prop where
  frm : ∀ k, a ≤ k → k < b → ∃ k', a ≤ k' ∧ k' < b ∧ g k = f k'
  srt : SortedOn lt g a b

theorem BlkOK.congr {lt : Int → Int → Prop} {f g h : Nat → Int} {a b : Nat} (p : BlkOK lt f g a b) (e : ∀ k, a ≤ k → k < b → h k = g k) : BlkOK lt f h a b :=
  ⟨fun k h1 h2 => by rw [e k h1 h2]; exact p.frm k h1 h2, p.srt.congr e⟩
theorem BlkOK.empty {lt : Int → Int → Prop} {f g : Nat → Int} {a b : Nat} (h : b ≤ a) : BlkOK lt f g a b :=
  ⟨fun k h1 h2 => by omega, SortedOn.tiny _ _ _ (by omega)⟩

theorem dvd_next {d a a' : Nat} (h : d ∣ a) (h' : d ∣ a') (hl : a' < a + d) : a' ≤ a := by
  rcases Nat.lt_or_ge a a' with h1 | h1
  · have h2 : d ∣ a' - a := Nat.dvd_sub h' h
    have h3 : a' - a = 0 := Nat.eq_zero_of_dvd_of_lt h2 (by omega)
    omega
  · exact h1

/-- All blocks of so many that begin from lo on and ahead of hi. -/
def Blks (lt : Int → Int → Prop) (f g : Nat → Int) (d lo hi n : Nat) : Prop := ∀ a, d ∣ a → lo ≤ a → a < hi → BlkOK lt f g a (min (a + d) n)

theorem blk_ins {lt : Int → Int → Prop} {f g h : Nat → Int} {a b : Nat} (hm : Merged lt g h a b) (hfg : ∀ k, a ≤ k → g k = f k) : BlkOK lt f h a b :=
  ⟨fun k h1 h2 => by obtain ⟨k', p, q, r⟩ := hm.frm.1 k h1 h2; exact ⟨k', p, q, by rw [r, hfg k' p]⟩, hm.srt⟩

theorem blk_pre {lt : Int → Int → Prop} {f g : Nat → Int} {a m b n : Nat} (hr : Rising f 0 n) (hbn : b ≤ n) (ham : a < m) (hmb : m < b) (h1 : BlkOK lt f g a m) (h2 : BlkOK lt f g m b) : MergePre lt g a m b :=
  ⟨ham, hmb, h1.srt, h2.srt, fun i j i1 i2 j1 j2 => by
    obtain ⟨i', p1, p2, p3⟩ := h1.frm i i1 i2
    obtain ⟨j', r1, r2, r3⟩ := h2.frm j j1 j2
    rw [p3, r3]; exact hr i' j' (by omega) (by omega) (by omega)⟩

theorem blk_merge {lt : Int → Int → Prop} {f g h : Nat → Int} {a m b : Nat} (ham : a ≤ m) (hmb : m ≤ b) (h1 : BlkOK lt f g a m) (h2 : BlkOK lt f g m b) (hm : Merged lt g h a b) : BlkOK lt f h a b :=
  ⟨fun k k1 k2 => by
    obtain ⟨k', p1, p2, p3⟩ := hm.frm.1 k k1 k2
    rcases Nat.lt_or_ge k' m with hk | hk
    · obtain ⟨q, q1, q2, q3⟩ := h1.frm k' p1 hk; exact ⟨q, q1, by omega, by rw [p3, q3]⟩
    · obtain ⟨q, q1, q2, q3⟩ := h2.frm k' hk p2; exact ⟨q, by omega, q2, by rw [p3, q3]⟩, hm.srt⟩

theorem half_dvd {d p : Nat} (h : 2 * d ∣ p) : d ∣ p := Nat.dvd_trans (Nat.dvd_mul_left d 2) h

theorem blks_pre {lt : Int → Int → Prop} {f h : Nat → Int} {d p n : Nat} (hr : Rising f 0 n) (hd : 0 < d) (k1 : 2 * d ∣ p) (hlt : p + 2 * d ≤ n) (k3 : Blks lt f h d p n n) : MergePre lt h p (p + d) (p + 2 * d) := by
  have b1 := k3 p (half_dvd k1) (Nat.le_refl _) (by omega)
  have b2 := k3 (p + d) (Nat.dvd_add (half_dvd k1) (Nat.dvd_refl _)) (by omega) (by omega)
  rw [show min (p + d) n = p + d by omega] at b1
  rw [show min (p + d + d) n = p + 2 * d by omega] at b2
  exact blk_pre hr hlt (by omega) (by omega) b1 b2

theorem blks_pre_end {lt : Int → Int → Prop} {f h : Nat → Int} {d p n : Nat} (hr : Rising f 0 n) (hd : 0 < d) (k1 : 2 * d ∣ p) (hmn : p + d < n) (hlt : n < p + 2 * d) (k3 : Blks lt f h d p n n) : MergePre lt h p (p + d) n := by
  have b1 := k3 p (half_dvd k1) (Nat.le_refl _) (by omega)
  have b2 := k3 (p + d) (Nat.dvd_add (half_dvd k1) (Nat.dvd_refl _)) (by omega) (by omega)
  rw [show min (p + d) n = p + d by omega] at b1
  rw [show min (p + d + d) n = n by omega] at b2
  exact blk_pre hr (Nat.le_refl _) (by omega) (by omega) b1 b2

theorem blks_step {lt : Int → Int → Prop} {f h h2 : Nat → Int} {d p n : Nat} (hd : 0 < d) (k1 : 2 * d ∣ p) (hlt : p + 2 * d ≤ n) (k2 : Blks lt f h (2 * d) 0 p n) (k3 : Blks lt f h d p n n) (hm : Merged lt h h2 p (p + 2 * d)) :
    Blks lt f h2 (2 * d) 0 (p + 2 * d) n ∧ Blks lt f h2 d (p + 2 * d) n n := by
  have b1 := k3 p (half_dvd k1) (Nat.le_refl _) (by omega)
  have b2 := k3 (p + d) (Nat.dvd_add (half_dvd k1) (Nat.dvd_refl _)) (by omega) (by omega)
  rw [show min (p + d) n = p + d by omega] at b1
  rw [show min (p + d + d) n = p + 2 * d by omega] at b2
  refine ⟨fun a a1 _ a3 => ?_, fun a a1 a2 a3 => ?_⟩
  · rcases Nat.lt_or_ge a p with ha | ha
    · refine (k2 a a1 (Nat.zero_le _) ha).congr (fun k q1 q2 => hm.frm.2 k ?_)
      have : a + 2 * d ≤ p := by
        rcases Nat.lt_or_ge p (a + 2 * d) with q | q
        · have := dvd_next a1 k1 q; omega
        · exact q
      omega
    · have : a = p := by have := dvd_next k1 a1 a3; omega
      subst this
      rw [Nat.min_eq_left hlt]
      exact blk_merge (by omega) (by omega) b1 b2 hm
  · exact (k3 a a1 (by omega) a3).congr (fun k q1 q2 => hm.frm.2 k (by omega))

theorem blks_end {lt : Int → Int → Prop} {f h h2 : Nat → Int} {d p n : Nat} (hd : 0 < d) (k1 : 2 * d ∣ p) (hmn : p + d < n) (hlt : n < p + 2 * d) (k2 : Blks lt f h (2 * d) 0 p n) (k3 : Blks lt f h d p n n) (hm : Merged lt h h2 p n) :
    Blks lt f h2 (2 * d) 0 n n := by
  have b1 := k3 p (half_dvd k1) (Nat.le_refl _) (by omega)
  have b2 := k3 (p + d) (Nat.dvd_add (half_dvd k1) (Nat.dvd_refl _)) (by omega) (by omega)
  rw [show min (p + d) n = p + d by omega] at b1
  rw [show min (p + d + d) n = n by omega] at b2
  intro a a1 _ a3
  rcases Nat.lt_or_ge a p with ha | ha
  · refine (k2 a a1 (Nat.zero_le _) ha).congr (fun k q1 q2 => hm.frm.2 k ?_)
    have : a + 2 * d ≤ p := by
      rcases Nat.lt_or_ge p (a + 2 * d) with q | q
      · have := dvd_next a1 k1 q; omega
      · exact q
    omega
  · have : a = p := by have := dvd_next k1 a1 (by omega); omega
    subst this
    rw [Nat.min_eq_right (by omega)]
    exact blk_merge (by omega) (by omega) b1 b2 hm

theorem blks_none {lt : Int → Int → Prop} {f h : Nat → Int} {d p n : Nat} (hd : 0 < d) (k1 : 2 * d ∣ p) (hmn : n ≤ p + d) (k2 : Blks lt f h (2 * d) 0 p n) (k3 : Blks lt f h d p n n) : Blks lt f h (2 * d) 0 n n := by
  intro a a1 _ a3
  rcases Nat.lt_or_ge a p with ha | ha
  · exact k2 a a1 (Nat.zero_le _) ha
  · have : a = p := by have := dvd_next k1 a1 (by omega); omega
    subst this
    have b1 := k3 a (half_dvd k1) (Nat.le_refl _) a3
    rw [show min (a + d) n = n by omega] at b1
    rwa [show min (a + 2 * d) n = n by omega]

set_option maxRecDepth 100000 in
set_option maxHeartbeats 1600000 in
theorem stable_any (g cap n bx : Nat) (f : Nat → Int) (klt : Int → Int → Bool) (lt : Int → Int → Prop) (w : World) (hd : Dat w g cap n f) (hn : n ≤ 1000000) (hcap : cap ≤ maxLen)
    (hf : InR n f) (hr : Rising f 0 n) (hc : CmpOK w g n bx klt) (C : Cmp lt klt) :
    Calls Try.prog 54 #[.slice (some ⟨g, 0, none⟩) n cap, .int .i64 (n : Int), cmpV bx] w fun e w' =>
      e = .returned (.tuple #[]) ∧ (∃ h, BlkOK lt f h 0 n ∧ Dat w' g cap n h) ∧ w.grownBy w' (some g) := by
  have hcap' := hcap
  unfold maxLen at hcap
  unfold cmpV
  have HCAP := hid hcap'
  have HCM := hid hc
  have HR := hid hr
  have HF := hid hf
  clear hc hr hcap' hf
  go_enter Try.func54, Try.ntmps54
  go_wp2
  go_loopg [7, 8] n (fun gh i j wr => ∃ (p : Nat) (h : Nat → Int), p ≤ n ∧ gh = n - p ∧ i = .int .i64 p ∧ j = .int .i64 ((p + 20 : Nat) : Int) ∧ Dat wr g cap n h ∧
      Hid (20 ∣ p ∧ Blks lt f h 20 0 p n ∧ (∀ k, p ≤ k → h k = f k) ∧ InR n h) ∧ w.grownBy wr (some g))
  case atStart => exact ⟨0, f, Nat.zero_le _, rfl, rfl, rfl, hd, hid ⟨Nat.dvd_zero _, fun a h1 h2 h3 => by omega, fun k _ => rfl, HF.out⟩, gRefl _ _⟩
  case round =>
    obtain ⟨p, h, hp, hg, rfl, rfl, hdat, HH, hgr⟩ := hrel
    have HG := hid hg
    clear hg
    by_cases hlt : p + 20 ≤ n
    · have t1 : decide (((p + 20 : Nat) : Int) ≤ (n : Int)) = true := by simp; omega
      have t2 : decide (p + 20 ≤ n) = true := by simpa using hlt
      go_wp2_with fail
      refine (insertion_any g cap n p (p + 20) bx h klt lt _ hdat hn HCAP.out (by omega) hlt HH.out.2.2.2 (fun i j i1 i2 i3 => by rw [HH.out.2.2.1 i i1, HH.out.2.2.1 j (by omega)]; exact HR.out i j (by omega) i2 (by omega)) (HCM.out.later hgr) C).mono ?_
      rintro e w1 ⟨rfl, ⟨h2, hm, hd1⟩, hg1⟩
      have HM := hid hm
      clear hm
      go_wp2
      have hg := HG.out
      go_roundg (n - (p + 20))
      case measure => omega
      case rel =>
        obtain ⟨k1, k2, k3, k4⟩ := HH.out
        refine ⟨p + 20, h2, hlt, rfl, by go_num, by go_num, hd1, hid ⟨by omega, fun a a1 _ a3 => ?_, fun k hk => ?_, k4.from hlt HM.out.frm⟩, gTrans hgr hg1⟩
        · rcases Nat.lt_or_ge a p with ha | ha
          · exact (k2 a a1 (Nat.zero_le _) ha).congr (fun k q1 q2 => HM.out.frm.2 k (by omega))
          · have : a = p := by omega
            subst this
            rw [Nat.min_eq_left hlt]
            exact blk_ins HM.out k3
        · rw [HM.out.frm.2 k (by omega)]; exact k3 k (by omega)
    · have t1 : decide (((p + 20 : Nat) : Int) ≤ (n : Int)) = false := by simp; omega
      have t2 : decide (p + 20 ≤ n) = false := by simpa using hlt
      go_wp2_with fail
      refine (insertion_any g cap n p n bx h klt lt _ hdat hn HCAP.out (by omega) (Nat.le_refl _) HH.out.2.2.2 (fun i j i1 i2 i3 => by rw [HH.out.2.2.1 i i1, HH.out.2.2.1 j (by omega)]; exact HR.out i j (by omega) i2 (by omega)) (HCM.out.later hgr) C).mono ?_
      rintro e w1 ⟨rfl, ⟨h2, hm, hd1⟩, hg1⟩
      have hb : Blks lt f h2 20 0 n n := by
        obtain ⟨k1, k2, k3, k4⟩ := HH.out
        intro a a1 _ a3
        rcases Nat.lt_or_ge a p with ha | ha
        · exact (k2 a a1 (Nat.zero_le _) ha).congr (fun k q1 q2 => hm.frm.2 k (by omega))
        · have : a = p := by omega
          subst this
          rw [Nat.min_eq_right (by omega)]
          exact blk_ins hm k3
      have HB := hid hb
      have hin : InR n h2 := HH.out.2.2.2.from (Nat.le_refl _) hm.frm
      have HIN := hid hin
      have hg1' := gTrans hgr hg1
      clear hb hm HH hdat hgr hin hg1
      go_wp2_with fail
      go_loopg [6, 7, 8, 9] (n - 20) (fun gh s6 s7 s8 s9 wr => ∃ (d : Nat) (h : Nat → Int), 20 ≤ d ∧ d ≤ 2 * n + 20 ∧ gh = n - d ∧ s6 = .int .i64 d ∧ Dat wr g cap n h ∧ Hid (Blks lt f h d 0 n n ∧ InR n h) ∧ w.grownBy wr (some g))
      case atStart => exact ⟨20, h2, Nat.le_refl _, by omega, rfl, rfl, hd1, hid ⟨HB.out, HIN.out⟩, hg1'⟩
      case round =>
        obtain ⟨d, h, hq1, hq2, hg, rfl, hdat, HH, hgr⟩ := hrel
        have HG2 := hid hg
        clear hg hd1 hg1'
        by_cases hdn : d < n
        · have t3 : decide (d < n) = true := by simpa using hdn
          obtain ⟨wo, rfl⟩ : ∃ wo : World, wo = wr := ⟨_, rfl⟩
          go_wp2_with fail
          go_loopg [7, 8] n (fun gh s7 s8 wr => ∃ (p : Nat) (h : Nat → Int), p ≤ n ∧ gh = n - p ∧ s7 = .int .i64 p ∧ s8 = .int .i64 ((p + 2 * d : Nat) : Int) ∧ Dat wr g cap n h ∧
              Hid (2 * d ∣ p ∧ Blks lt f h (2 * d) 0 p n ∧ Blks lt f h d p n n ∧ InR n h) ∧ w.grownBy wr (some g))
          case atStart => exact ⟨0, h, Nat.zero_le _, rfl, rfl, by go_num, hdat, hid ⟨Nat.dvd_zero _, fun a _ _ h3 => by omega, HH.out.1, HH.out.2⟩, hgr⟩
          case round =>
            clear hdat HH hgr
            obtain ⟨p, h, hp, hg, rfl, rfl, hdat, HH, hgr⟩ := hrel
            have HG3 := hid hg
            clear hg
            by_cases hlt : p + 2 * d ≤ n
            · have t1 : decide (((p + 2 * d : Nat) : Int) ≤ (n : Int)) = true := by simp; omega
              have t2 : decide (p + 2 * d ≤ n) = true := by simpa using hlt
              have hpre := hid (blks_pre HR.out (by omega) HH.out.1 hlt HH.out.2.2.1)
              go_wp2_with fail
              refine (merge_any g cap n bx klt lt hn HCAP.out C n p (p + d) (p + 2 * d) h _ (by omega) hdat hlt HH.out.2.2.2 hpre.out (HCM.out.later hgr)).mono ?_
              rintro e w1 ⟨rfl, ⟨h2, hm, hd1⟩, hg1⟩
              have HM := hid hm
              clear hm
              go_wp2_with fail
              have hg := HG3.out
              go_roundg (n - (p + 2 * d))
              case measure => omega
              case rel =>
                obtain ⟨k1, k2, k3, k4⟩ := HH.out
                obtain ⟨m1, m2⟩ := blks_step (by omega) k1 hlt k2 k3 HM.out
                exact ⟨p + 2 * d, h2, hlt, rfl, by go_num, by go_num, hd1, hid ⟨Nat.dvd_add k1 (Nat.dvd_refl _), m1, m2, k4.from hlt HM.out.frm⟩, gTrans hgr hg1⟩
            · have t1 : decide (((p + 2 * d : Nat) : Int) ≤ (n : Int)) = false := by simp; omega
              have t2 : decide (p + 2 * d ≤ n) = false := by simpa using hlt
              by_cases hmn : p + d < n
              · have t4 : decide (p + d < n) = true := by simpa using hmn
                have hpre := hid (blks_pre_end HR.out (by omega) HH.out.1 hmn (by omega) HH.out.2.2.1)
                go_wp2_with fail
                refine (merge_any g cap n bx klt lt hn HCAP.out C n p (p + d) n h _ (by omega) hdat (Nat.le_refl _) HH.out.2.2.2 hpre.out (HCM.out.later hgr)).mono ?_
                rintro e w1 ⟨rfl, ⟨h2, hm, hd1⟩, hg1⟩
                have HM := hid hm
                clear hm
                go_wp2_with fail
                have hg := HG2.out
                go_roundg (n - 2 * d)
                case measure => omega
                case rel =>
                  obtain ⟨k1, k2, k3, k4⟩ := HH.out
                  exact ⟨2 * d, h2, by omega, by omega, rfl, by go_num, hd1, hid ⟨blks_end (by omega) k1 hmn (by omega) k2 k3 HM.out, k4.from (Nat.le_refl _) HM.out.frm⟩, gTrans hgr hg1⟩
              · have t4 : decide (p + d < n) = false := by simpa using hmn
                go_wp2_with fail
                have hg := HG2.out
                go_roundg (n - 2 * d)
                case measure => omega
                case rel =>
                  obtain ⟨k1, k2, k3, k4⟩ := HH.out
                  exact ⟨2 * d, h, by omega, by omega, rfl, by go_num, hdat, hid ⟨blks_none (by omega) k1 (by omega) k2 k3, k4⟩, hgr⟩
        · have t3 : decide (d < n) = false := by simpa using hdn
          have hb : BlkOK lt f h 0 n := by
            rcases Nat.eq_zero_or_pos n with h0 | h0
            · exact BlkOK.empty (by omega)
            · have := HH.out.1 0 (Nat.dvd_zero _) (Nat.zero_le _) h0
              rwa [show min (0 + d) n = n by omega] at this
          have HB := hid hb
          clear hb
          go_wp2_with fail
          go_end0
          exact ⟨rfl, ⟨h, HB.out, hdat⟩, hgr⟩

set_option maxRecDepth 100000 in
/-- The library's stable sort. -/
theorem sortStable_any (g cap n bx : Nat) (f : Nat → Int) (klt : Int → Int → Bool) (lt : Int → Int → Prop) (w : World) (hd : Dat w g cap n f) (hn : n ≤ 1000000) (hcap : cap ≤ maxLen)
    (hf : InR n f) (hr : Rising f 0 n) (hc : CmpOK w g n bx klt) (C : Cmp lt klt) :
    Calls Try.prog 38 #[.slice (some ⟨g, 0, none⟩) n cap, cmpV bx] w fun e w' =>
      e = .returned (.tuple #[]) ∧ (∃ h, BlkOK lt f h 0 n ∧ Dat w' g cap n h) ∧ w.grownBy w' (some g) := by
  have hs := stable_any g cap n bx f klt lt w hd hn hcap hf hr hc C
  unfold maxLen at hcap
  unfold cmpV at hs ⊢
  have HS := hid hs
  clear hs hc hr hf
  go_enter Try.func38, Try.ntmps38
  go_wp2_with fail
  refine HS.out.mono ?_
  rintro e w1 ⟨rfl, hx, hg⟩
  go_wp2
  go_end0
  exact ⟨rfl, hx, hg⟩

end Go.Proofs.Ythjmpiekjfnoiaa

/-
  The walk of the document's own Back.
-/
import Derived.Test.YthjmpiekjfnoiaaW14b
namespace Go.Proofs.Ythjmpiekjfnoiaa
open Go.RowKit

set_option maxRecDepth 100000 in
set_option maxHeartbeats 800000 in
theorem refBack_any (s : ByteArray) (o : Int) (w : World) (hs : s.size ≤ 1000000000) (ho1 : -9223372036854775808 ≤ o) (ho2 : o ≤ 9223372036854775807) :
    Calls Try.prog 24 #[.string s, .int .i64 o] w fun e w' =>
      e = .returned (.tuple #[.string (mkS (backText s.data.toList o)), .int .i64 (backErr s.data.toList o)]) ∧ Below w.heap.size w w' := by
  have hl0 : s.data.toList.length = s.size := by simp
  have HL := hid hl0
  by_cases hok : backOk s.data.toList o = true
  case neg =>
    have h0 : backOk s.data.toList o = false := by simpa using hok
    have hfin : backText s.data.toList o = [] ∧ backErr s.data.toList o = 1 := by simp [backText, backErr, h0]
    have HF := hid hfin
    unfold backOk at h0
    rw [hl0] at h0
    clear hfin hok hl0
    by_cases hneg : o < 0
    · clear h0
      have hd : decide (o < 0) = true := by simpa using hneg
      go_enter Try.func24, Try.ntmps24
      go_wp2
      go_ret2
      exact ⟨ret2 (by rw [HF.out.1]; rfl) (by rw [HF.out.2]; rfl), Below.refl _ _⟩
    · have h1 : (max (s.size : Int) 1) ≤ o := by simp at h0; omega
      have hd : decide (o < 0) = false := by simpa using hneg
      have hd2 : decide (0 < o) = true := by simp; omega
      have hd3 : decide ((s.size : Int) ≤ o) = true := by simp; omega
      clear h0
      go_enter Try.func24, Try.ntmps24
      go_wp2
      go_ret2
      exact ⟨ret2 (by rw [HF.out.1]; rfl) (by rw [HF.out.2]; rfl), Below.refl _ _⟩
  case pos =>
    have h0 := hok
    unfold backOk at h0
    rw [hl0] at h0
    have h1 : 0 ≤ o ∧ o < max (s.size : Int) 1 := by simpa using h0
    obtain ⟨n, rfl⟩ := Int.eq_ofNat_of_zero_le h1.1
    have hfin : backText s.data.toList n = backTo s.data.toList n s.size ∧ backErr s.data.toList n = 0 := by
      simp [backText, backErr, hok, back_eq]
    have HF := hid hfin
    have hlt : n < s.size ∨ (s.size = 0 ∧ n = 0) := by omega
    clear hfin hok hl0 h0 h1 ho1 ho2
    have hd : decide ((n : Int) < 0) = false := by simp
    have HN := hid (show 0 < s.size → n < s.size from fun h => by omega)
    have hg : (decide (0 < n) = true ∧ decide (s.size ≤ n) = false) ∨ decide (0 < n) = false := by
      rcases Nat.eq_zero_or_pos n with h | h
      · right; simp; omega
      · left; simp; omega
    clear hlt
    rcases hg with ⟨hg1, hg2⟩ | hg1
    all_goals
      go_enter Try.func24, Try.ntmps24
      go_wp2_with fail
      refine (refVector_any s _ hs).mono ?_
      rintro e w1 ⟨v, rfl, hv, hB⟩
      obtain ⟨va, vc, rfl, hvc, hvm, hvA⟩ := hv.rd.open
      rw [vecI_length, HL.out] at hvA hvc ⊢
      simp only [maxLen] at hvm
      clear hv
      go_wp2
      go_loopg [7, 8, 9] s.size (fun g out at_ i wr => ∃ k : Nat, k ≤ s.size ∧ g = s.size - k ∧ i = .int .i64 k ∧ at_ = .int .i64 ((walkN s.data.toList k n : Nat) : Int) ∧ out = .string (mkS (backTo s.data.toList n k)) ∧ Below w.heap.size w wr ∧ Below w1.heap.size w1 wr)
      case atStart =>
        exact ⟨0, Nat.zero_le _, rfl, rfl, rfl, rfl, hB, Below.refl _ _⟩
      case round =>
        obtain ⟨k, hk, hg, rfl, rfl, rfl, hbel, hbel1⟩ := hrel
        by_cases hlk : k < s.size
        · have hn := HN.out (by omega)
          have hat := walkN_lt s.data.toList n (by rw [HL.out]; exact hn) k
          have hat1 := walkN_lt s.data.toList n (by rw [HL.out]; exact hn) (k + 1)
          rw [HL.out] at hat hat1
          obtain ⟨b1, o1, rfl, hb1, hc1⟩ := hvA (by omega)
          have c1 : wr.cell? ⟨b1, o1 + walkN s.data.toList k n, none⟩ = some (.int .i64 ((walkN s.data.toList (k + 1) n : Nat) : Int)) := by
            rw [hbel1.cell (p := ⟨b1, o1 + walkN s.data.toList k n, none⟩) hb1]
            exact hc1 _ _ (vecI_get _ _ (by rw [HL.out]; exact hat))
          have HG := hid hg
          have hbl : (backTo s.data.toList n k).length ≤ 1000000000 := by rw [backTo_length]; omega
          clear hvA hc1 hg
          go_wp2
          have hg := HG.out
          go_roundg (s.size - (k + 1))
          case measure => omega
          case rel => exact ⟨k + 1, by omega, rfl, by go_num, rfl, congrArg Value.string (by rw [ext_one s _ hat1, mkS_append, ← backTo_succ]), hbel, hbel1⟩
        · have hk' : k = s.size := by omega
          have HK := hid hk'
          clear hk' hg
          go_wp2
          go_ret2
          exact ⟨ret2 (by rw [HF.out.1, ← HK.out]; rfl) (by rw [HF.out.2]; rfl), hbel⟩

end Go.Proofs.Ythjmpiekjfnoiaa

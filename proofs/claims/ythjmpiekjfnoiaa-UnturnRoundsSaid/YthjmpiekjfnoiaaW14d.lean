/-
  The walks of Cycles: the document's own answer, and the program's.
-/
import Derived.Test.YthjmpiekjfnoiaaW14c
namespace Go.Proofs.Ythjmpiekjfnoiaa
open Go.RowKit

set_option maxRecDepth 100000 in
set_option maxHeartbeats 800000 in
theorem refCycles_any (s : ByteArray) (w : World) (hs : s.size ≤ 1000000000) :
    Calls Try.prog 21 #[.string s] w fun e w' =>
      e = .returned (.int .i64 ((cyc s.data.toList : Nat) : Int)) ∧ Below w.heap.size w w' := by
  have hl0 : s.data.toList.length = s.size := by simp
  have HL := hid hl0
  clear hl0
  go_enter Try.func21, Try.ntmps21
  go_wp2_with fail
  refine (refVector_any s _ hs).mono ?_
  rintro e w1 ⟨v, rfl, hv, hB⟩
  obtain ⟨va, vc, rfl, hvc, hvm, hvA⟩ := hv.rd.open
  rw [vecI_length, HL.out] at hvA hvc ⊢
  simp only [maxLen] at hvm
  clear hv
  go_wp2
  go_loopg [4, 5] s.size (fun g n i wr => ∃ k : Nat, k ≤ s.size ∧ g = s.size - k ∧ i = .int .i64 k ∧ n = .int .i64 ((cycTo s.data.toList k : Nat) : Int) ∧ Below w.heap.size w wr ∧ Below w1.heap.size w1 wr)
  case atStart => exact ⟨0, Nat.zero_le _, rfl, rfl, rfl, hB, Below.refl _ _⟩
  case round =>
    obtain ⟨k, hk, hg, rfl, rfl, hbel, hbel1⟩ := hrel
    by_cases hlk : k < s.size
    · obtain ⟨b1, o1, rfl, hb1, hc1⟩ := hvA (by omega)
      have HC := hid hc1
      have HG := hid hg
      obtain ⟨p, p1, p2, p3⟩ := period s.data.toList k (by rw [HL.out]; exact hlk)
      rw [HL.out] at p2
      have HP := hid p3
      have hcl := cycTo_le s.data.toList k
      have c1 : wr.cell? ⟨b1, o1 + k, none⟩ = some (.int .i64 ((walkN s.data.toList 1 k : Nat) : Int)) := by
        rw [hbel1.cell (p := ⟨b1, o1 + k, none⟩) hb1]
        exact hc1 _ _ (vecI_get _ _ (by rw [HL.out]; exact hlk))
      clear hvA hc1 hg p3
      obtain ⟨gO, hgO⟩ : ∃ g, g = gk := ⟨_, rfl⟩
      obtain ⟨wo, rfl⟩ : ∃ wo : World, wo = wr := ⟨_, rfl⟩
      go_wp2
      go_loopg [6] (p - 1) (fun g at_ wr => ∃ j : Nat, 1 ≤ j ∧ j ≤ p ∧ g = p - j ∧ at_ = .int .i64 ((walkN s.data.toList j k : Nat) : Int) ∧ Hid (∀ m, 1 ≤ m → m < j → k < walkN s.data.toList m k) ∧ wr = wo)
      case atStart => exact ⟨1, by omega, by omega, rfl, rfl, hid (fun m h1 h2 => by omega), rfl⟩
      case round =>
        obtain ⟨j, hj1, hj2, hg2, rfl, HM, rfl⟩ := hrel
        have hjl := walkN_lt s.data.toList k (by rw [HL.out]; exact hlk) j
        rw [HL.out] at hjl
        by_cases hgt : k < walkN s.data.toList j k
        · have hjp : j ≠ p := fun e => by rw [e, HP.out] at hgt; omega
          have c2 : wr.cell? ⟨b1, o1 + walkN s.data.toList j k, none⟩ = some (.int .i64 ((walkN s.data.toList (j + 1) k : Nat) : Int)) := by
            rw [hbel1.cell (p := ⟨b1, o1 + walkN s.data.toList j k, none⟩) hb1]
            exact HC.out _ _ (vecI_get _ _ (by rw [HL.out]; exact hjl))
          go_wp2
          go_roundg (p - (j + 1))
          case measure => omega
          case rel =>
            refine ⟨j + 1, by omega, by omega, rfl, rfl, hid (fun m h1 h2 => ?_), rfl⟩
            rcases Nat.lt_or_ge m j with h3 | h3
            · exact HM.out m h1 h3
            · have : m = j := by omega
              subst this; exact hgt
        · have hle : walkN s.data.toList j k ≤ k := by omega
          have HE := hid (least_of_first s.data.toList k j hj1 (by rw [HL.out]; omega) HM.out hle)
          have hsucc := hid (cycTo_succ s.data.toList k)
          by_cases he : walkN s.data.toList j k = k
          · have ht : (((walkN s.data.toList j k : Nat) : Int) == ((k : Nat) : Int)) = true := by rw [he]; simp
            have HEQ := hid he
            clear he
            go_wp2
            have hg := HG.out
            have e := hsucc.out
            rw [HE.out, decide_eq_true HEQ.out, if_pos rfl] at e
            go_roundg (s.size - (k + 1))
            case measure => omega
            case rel => exact ⟨k + 1, by omega, rfl, by go_num, by rw [e]; go_num, hbel, hbel1⟩
          · have ht : (((walkN s.data.toList j k : Nat) : Int) == ((k : Nat) : Int)) = false := by rw [beq_eq_false_iff_ne]; omega
            have HEQ := hid he
            clear he
            go_wp2
            have hg := HG.out
            have e := hsucc.out
            rw [HE.out, decide_eq_false HEQ.out, if_neg (by simp)] at e
            go_roundg (s.size - (k + 1))
            case measure => omega
            case rel => exact ⟨k + 1, by omega, rfl, by go_num, by rw [e]; rfl, hbel, hbel1⟩
    · have hk' : k = s.size := by omega
      have HK := hid hk'
      clear hk' hg
      go_wp2
      go_ret
      exact ⟨ret_int (by rw [cyc, HL.out, HK.out]), hbel⟩

end Go.Proofs.Ythjmpiekjfnoiaa

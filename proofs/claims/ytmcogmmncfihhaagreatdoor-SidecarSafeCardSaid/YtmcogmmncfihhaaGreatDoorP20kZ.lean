/-
  The walk of the document's sidecar (chapter 20): some text, of a bounded length.
-/
import Derived.Test.YtmcogmmncfihhaaGreatDoorP20iZ
import Derived.Test.YtmcogmmncfihhaaGreatDoorP20Z
import Derived.Test.YtmcogmmncfihhaaGreatDoorZ22
set_option linter.unusedVariables false
set_option linter.unusedSimpArgs false
namespace Go.Proofs.YtmcogmmncfihhaaGreatDoor
open Go.RowKit Go Go.Shelf

set_option maxRecDepth 100000 in
set_option maxHeartbeats 3200000 in
theorem refnum20_any (V n : Nat) (w : World) (hV : V < 18446744073709551616) (hn : n ≤ 8) :
    Calls Tryz.prog 34 #[.int .u64 (V : Int), .int .i64 (n : Int)] w fun e w' => ∃ s : ByteArray, e = .returned (.string s) ∧ s.size = n ∧ Below w.heap.size w w' := by
  have m0 : IntKind.i64.wrap ((n : Int) - 1) = (n : Int) - 1 := by rw [IntKind.wrap_i64]; omega
  go_enter Tryz.func34, Tryz.ntmps34
  go_wp2_with fail
  go_loopg [5, 6] n (fun g s5 s6 wr => ∃ (k : Nat) (r : List UInt8), k ≤ n ∧ g = k ∧ s6 = .int .i64 ((k : Int) - 1) ∧ Hid (r.length + k = n) ∧ OwB wr w.heap.size s5 r ∧ Below w.heap.size w wr)
  case atStart => exact ⟨n, [], Nat.le_refl _, rfl, rfl, hid (Nat.zero_add _), Ow.nil _ _ _, Below.refl _ _⟩
  case round =>
    obtain ⟨k, r, hk, hg, rfl, HL, hor, hbel⟩ := hrel
    obtain rfl := hg.symm
    have hsz := hbel.size
    by_cases h0 : k = 0
    · subst h0
      have t1 : decide (((0 : Nat) : Int) - 1 ≥ 0) = false := decide_eq_false (by omega)
      have t2 : decide (0 ≤ ((0 : Nat) : Int) - 1) = false := decide_eq_false (by omega)
      have hcv : (convert 47 9 u5).run Tryz.prog wr = .ok (.string (mkS r)) wr := lQ hor.rd
      have hcv2 : (convert 47 9 u5).run Tryz.prog wr.drew = .ok (.string (mkS r)) wr.drew := lQ (w := wr.drew) (OwB.rd (w := wr.drew) hor)
      clear hg
      go_wp2_with fail
      go_ret
      exact ⟨_, rfl, by rw [cP]; have := HL.out; omega, hbel⟩
    · obtain ⟨j, rfl⟩ : ∃ j, k = j + 1 := ⟨k - 1, by omega⟩
      obtain ⟨D, hD⟩ : ∃ D, D = 8 * j := ⟨_, rfl⟩
      have hD64 : D ≤ 56 := by omega
      have ej : ((j + 1 : Nat) : Int) - 1 = (j : Int) := by omega
      rw [ej]
      have t1 : decide ((j : Int) ≥ 0) = true := decide_eq_true (by omega)
      have t2 : decide (0 ≤ (j : Int)) = true := decide_eq_true (by omega)
      have e7 : min D 64 = D := by omega
      have mD : IntKind.i64.wrap (8 * (j : Int)) = (D : Int) := by rw [IntKind.wrap_i64]; omega
      have mD' : 8 * (j : Int) = (D : Int) := by omega
      obtain ⟨Q, hQ⟩ : ∃ Q : Nat, Q = V / 2 ^ D := ⟨_, rfl⟩
      have e3 : (V : Int) / 2 ^ D = (Q : Int) := by rw [hQ]; exact yG V D
      obtain ⟨b, hb⟩ : ∃ b : UInt8, b = UInt8.ofNat (Q % 256) := ⟨_, rfl⟩
      have hbt : b.toNat = Q % 256 := by rw [hb, UInt8.toNat_ofNat']; omega
      have e4 : (Q : Int).tmod 256 = (b.toNat : Int) := by rw [Int.tmod_eq_emod_of_nonneg (by omega), hbt]; omega
      have e5 : (Q : Int) % 256 = (b.toNat : Int) := by rw [hbt]; omega
      have hb2 := b.toNat_lt
      have e6 : IntKind.u8.wrap (b.toNat : Int) = (b.toNat : Int) := by rw [IntKind.wrap_u8]; omega
      have e8 : (b.toNat : Int) % 256 = (b.toNat : Int) := by omega
      have mj : IntKind.i64.wrap ((j : Int) - 1) = (j : Int) - 1 := by rw [IntKind.wrap_i64]; omega
      have hlen : r.length ≤ 1000008 := by have := HL.out; omega
      have HL2 := hid (show (r ++ [b]).length + j = n by have := HL.out; rw [List.length_append, List.length_singleton]; omega)
      clear hb hD ej hQ hbt
      go_wp2_with (at_builtin; refine IX rfl _ _ rfl w.heap.size _ _ rfl (Ow.alloc hor _) wr.heap.size b rfl ?_ ?_ ?_ ?_; (exact bS _ _ _); (omega); (simp; omega); intro v' w3 hown' hB' hgrow)
      go_roundg j
      case measure => omega
      case rel => exact ⟨j, r ++ [b], by omega, rfl, rfl, HL2, hown', (hbel.alloc hsz _).trans hB'⟩

end Go.Proofs.YtmcogmmncfihhaaGreatDoor

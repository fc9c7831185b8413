/-
  The walks of sidecars (chapter 20): a number off the reader.
-/
import Derived.Test.YtmcogmmncfihhaaGreatDoorP20Z
import Derived.Test.YtmcogmmncfihhaaGreatDoorM20bZ
import Derived.Test.YtmcogmmncfihhaaGreatDoorZ13
set_option linter.unusedVariables false
set_option linter.unusedSimpArgs false
namespace Go.Proofs.YtmcogmmncfihhaaGreatDoor
open Go.RowKit Go Go.Shelf

theorem valB_take {s : List UInt8} {k : Nat} {b : UInt8} (h : s[k]? = some b) : valB (s.take (k + 1)) = valB (s.take k) * 256 + b.toNat := by
  rw [List.take_add_one, h]
  unfold valB
  rw [List.foldl_append]
  rfl
theorem or_byte (V b : Nat) (hb : b < 256) : V * 256 ||| b = V * 256 + b := by
  have := Nat.two_pow_add_eq_or_of_lt (i := 8) (b := b) hb V
  rw [show 2 ^ 8 * V = V * 256 from Nat.mul_comm ..] at this
  exact this.symm

set_option maxRecDepth 100000 in
set_option maxHeartbeats 3200000 in
theorem rdn_any (p : Nat) (s : ByteArray) (gr : Bool) (m : Nat) (w : World) (hA : Arr w p 95 [.string s, .bool gr]) (hm : m ≤ 8) (hs : m ≤ s.size) (hz : s.size ≤ 1000000000) :
    Calls Tryz.prog 45 #[.pointer (some ⟨p, 0, none⟩), .int .i64 (m : Int)] w fun e w' => e = .returned (.int .i64 (IntKind.i64.wrap (valB (s.data.toList.take m) : Int))) ∧ Arr w' p 95 [.string (mkS (s.data.toList.drop m)), .bool (gr || decide (9223372036854775808 ≤ valB (s.data.toList.take m)))] ∧ w.grownBy w' (some p) := by
  have hL : s.data.toList.length = s.size := rfl
  obtain ⟨l, hl⟩ : ∃ l, l = s.data.toList := ⟨_, rfl⟩
  have hlS : ∀ k, (h : k < s.size) → l[k]? = some s[k] := fun k h => by
    rw [hl, List.getElem?_eq_getElem (by rw [hL]; exact h)]
    rfl
  have hex := nT s m s.size
  rw [← hl] at hL hex ⊢
  rw [List.take_of_length_le (by rw [List.length_drop, hL]; omega)] at hex
  have HL := hid hL
  have HS := hid hlS
  clear hl hL hlS
  have c0 := hA.cell (i := 0) rfl
  have c1 := hA.cell (i := 1) rfl
  have f0 := hA.free 0
  have f1 := hA.free 1
  go_enter Tryz.func45, Tryz.ntmps45
  go_wp2_with fail
  go_loopg [5, 6, 8] m (fun g s5 _s6 s8 wr => ∃ (k : Nat) (V : Nat), k ≤ m ∧ g = m - k ∧ s8 = .int .i64 (k : Int) ∧ s5 = .int .u64 (V : Int) ∧ V = valB (l.take k) ∧ wr = w)
  case atStart => exact ⟨0, 0, Nat.zero_le _, rfl, rfl, rfl, rfl, rfl⟩
  case round =>
    obtain ⟨k, V, hk, hg, rfl, rfl, hV, rfl⟩ := hrel
    have HG := hid hg
    clear hg
    by_cases hlt : k < m
    · have t1 : decide ((k : Int) < (m : Int)) = true := decide_eq_true (by omega)
      have hks : k < s.size := by omega
      have hVb : V < 72057594037927936 := by
        have := valB_lt' (s := l.take k) (k := 7) (n := 72057594037927936) (by rw [List.length_take]; omega) (by decide)
        omega
      have hT := valB_take (HS.out k hks)
      rw [← hV] at hT
      have hb := s[k].toNat_lt
      obtain ⟨U, hU⟩ : ∃ U, U = V * 256 := ⟨_, rfl⟩
      obtain ⟨Q, hQ⟩ : ∃ Q, Q = U + s[k].toNat := ⟨_, rfl⟩
      have e1 : (V : Int) * 256 % 18446744073709551616 = (U : Int) := by omega
      have e1' : IntKind.u64.wrap ((V : Int) * 256) = (U : Int) := by rw [IntKind.wrap_u64]; omega
      have e2 : bits .or .u64 (U : Int) (s[k].toNat : Int) = (Q : Int) := by rw [u64_or_nat _ _ (by omega) (by omega), hU, or_byte _ _ (by omega), hQ, hU]
      have e3 : (s[k].toNat : Int) % 18446744073709551616 = (s[k].toNat : Int) := by omega
      have e3' : IntKind.u64.wrap (s[k].toNat : Int) = (s[k].toNat : Int) := by rw [IntKind.wrap_u64]; omega
      have HT := hid (show Q = valB (l.take (k + 1)) by rw [hT, hQ, hU])
      clear hT hU hQ hVb hV
      go_wp2_with fail
      have hg := HG.out
      go_roundg (m - (k + 1))
      case measure => omega
      case rel => exact ⟨k + 1, Q, by omega, rfl, by go_num, rfl, HT.out, rfl⟩
    · have t1 : decide ((k : Int) < (m : Int)) = false := decide_eq_false (by omega)
      obtain rfl : k = m := by omega
      have hVb : V < 18446744073709551616 := by
        have := valB_lt' (s := l.take k) (k := 8) (n := 18446744073709551616) (by rw [List.length_take]; omega) (by decide)
        omega
      have HV := hid hV
      clear hV
      have HW := hid (show wrap64 (V : Int) = IntKind.i64.wrap (valB (l.take k) : Int) by rw [← HV.out]; unfold wrap64; exact (IntKind.wrap_i64 _).symm)
      obtain ⟨G, hG⟩ : ∃ G, G = V / 9223372036854775808 := ⟨_, rfl⟩
      have e1 : (V : Int) / 9223372036854775808 = (G : Int) := by omega
      have hG1 : G = 0 ∨ G = 1 := by omega
      have HD := hid (show decide (9223372036854775808 ≤ V) = ((G : Int) == 1) by
        rcases hG1 with rfl | rfl
        · exact decide_eq_false (by omega)
        · exact decide_eq_true (by omega))
      have t2 : decide ((k : Int) ≤ (s.size : Int)) = true := decide_eq_true (by omega)
      clear hG hG1
      cases gr with
      | true =>
        go_wp2_with fail
        go_ret
        exact ⟨fX HW.out, (hA.set 0 _).set 1 _, gbT (gbS _ _ _ _) (gbS _ _ _ _)⟩
      | false =>
        go_wp2_with fail
        go_ret
        refine ⟨fX HW.out, ?_, gbT (gbS _ _ _ _) (gbS _ _ _ _)⟩
        rw [← HV.out, Bool.false_or, HD.out]
        exact (hA.set 0 _).set 1 _

end Go.Proofs.YtmcogmmncfihhaaGreatDoor

/-
  The first calls of chapter 14's statements, whose answers are fixed.
-/
import Derived.Test.YthjmpiekjfnoiaaLawA
import Derived.Deep.RegionWith
import Derived.Deep.DeepCutAuto
import Derived.Test.YthjmpiekjfnoiaaW14e
namespace Go.Proofs.Ythjmpiekjfnoiaa
open Go.RowKit

theorem awakeBack1 (w : World) : Calls Try.prog 23 #[.string { data := #[110, 110, 98, 97, 97, 97] }, .int .i64 3] w fun e w' =>
    e = .returned (.tuple #[.string { data := #[98, 97, 110, 97, 110, 97] }, .int .i64 0]) ∧ Below w.heap.size w w' :=
  (back_any _ _ w (by decide) (by decide) (by decide)).mono fun e w' ⟨h1, h2⟩ => ⟨by rw [h1]; exact ret2 (congrArg Value.string (by decide +kernel)) (congrArg (Value.int .i64) (by decide +kernel)), h2⟩
theorem awakeBack2 (w : World) : Calls Try.prog 23 #[.string { data := #[110, 110, 98, 97, 97, 97] }, .int .i64 6] w fun e w' =>
    e = .returned (.tuple #[.string { data := #[] }, .int .i64 1]) ∧ Below w.heap.size w w' :=
  (back_any _ _ w (by decide) (by decide) (by decide)).mono fun e w' ⟨h1, h2⟩ => ⟨by rw [h1]; exact ret2 (congrArg Value.string (by decide +kernel)) (congrArg (Value.int .i64) (by decide +kernel)), h2⟩
theorem awakeBack3 (w : World) : Calls Try.prog 23 #[.string { data := #[] }, .int .i64 1] w fun e w' =>
    e = .returned (.tuple #[.string { data := #[] }, .int .i64 1]) ∧ Below w.heap.size w w' :=
  (back_any _ _ w (by decide) (by decide) (by decide)).mono fun e w' ⟨h1, h2⟩ => ⟨by rw [h1]; exact ret2 (congrArg Value.string (by decide +kernel)) (congrArg (Value.int .i64) (by decide +kernel)), h2⟩
theorem awakeBack4 (w : World) : Calls Try.prog 23 #[.string { data := #[] }, .int .i64 0] w fun e w' =>
    e = .returned (.tuple #[.string { data := #[] }, .int .i64 0]) ∧ Below w.heap.size w w' :=
  (back_any _ _ w (by decide) (by decide) (by decide)).mono fun e w' ⟨h1, h2⟩ => ⟨by rw [h1]; exact ret2 (congrArg Value.string (by decide +kernel)) (congrArg (Value.int .i64) (by decide +kernel)), h2⟩
theorem awakeVec (w : World) : Calls Try.prog 18 #[.string { data := #[98, 97] }] w fun e w' =>
    ∃ v, e = .returned v ∧ OwI w' w.heap.size v [1, 0] ∧ Below w.heap.size w w' :=
  (vector_any _ w (by decide)).mono fun e w' ⟨v, h1, h2, h3⟩ => ⟨v, h1, by rw [show vecI (ByteArray.mk #[98, 97]).data.toList = [1, 0] from by decide +kernel] at h2; exact h2, h3⟩
theorem awakeCyc (l : Array UInt8) (n : Int) (w : World) (hl : (ByteArray.mk l).size ≤ 1000000000) (hn : ((cyc l.toList : Nat) : Int) = n) :
    Calls Try.prog 20 #[.string { data := l }] w fun e w' => e = .returned (.int .i64 n) ∧ Below w.heap.size w w' :=
  (cycles_any _ w hl).mono fun e w' ⟨h1, h2⟩ => ⟨by rw [h1]; exact ret_int hn, h2⟩

theorem ints_same (va vb : Value) (l : List Int) (w : World) (ha : RdI w va l) (hb : RdI w vb l) :
    Calls Try.prog 17 #[va, vb] w fun e w' => e = .returned (.bool true) ∧ Below w.heap.size w w' :=
  (ints_any va vb l l w ha hb).mono fun e w' ⟨h1, h2⟩ => ⟨by rw [h1]; exact ret_bool (by simp), h2⟩

set_option maxRecDepth 100000 in
set_option maxHeartbeats 800000 in
theorem awake14_any (w : World) : Calls Try.prog 15 #[] w fun e w' => e = .returned (.bool true) ∧ Below w.heap.size w w' := by
  go_enter Try.func15, Try.ntmps15
  go_wp2_with fail
  refine (awakeBack1 _).mono ?_
  rintro e w1 ⟨rfl, h1⟩
  go_wp2_with fail
  refine (awakeBack2 _).mono ?_
  rintro e w2 ⟨rfl, h2⟩
  go_wp2_with fail
  refine (awakeBack3 _).mono ?_
  rintro e w3 ⟨rfl, h3⟩
  go_wp2_with fail
  refine (awakeBack4 _).mono ?_
  rintro e w4 ⟨rfl, h4⟩
  go_wp2_with fail
  refine (awakeVec _).mono ?_
  rintro e w5 ⟨v, rfl, hv, h5⟩
  go_wp2_with fail
  refine (ints_same _ _ [1, 0] _ (hv.rd.below ((Below.refl _ _).alloc (Nat.le_refl _) _)) (rd_lit w5 _ [.int .i64 1, .int .i64 0] 2 rfl (by decide))).mono ?_
  rintro e w6 ⟨rfl, h6⟩
  go_wp2_with fail
  refine (awakeCyc #[98, 97] 1 _ (by decide) (by decide +kernel)).mono ?_
  rintro e w7 ⟨rfl, h7⟩
  go_wp2_with fail
  refine (awakeCyc #[97, 98] 2 _ (by decide) (by decide +kernel)).mono ?_
  rintro e w8 ⟨rfl, h8⟩
  go_wp2_with fail
  refine (awakeCyc #[] 0 _ (by decide) (by decide +kernel)).mono ?_
  rintro e w9 ⟨rfl, h9⟩
  go_wp2
  go_ret
  exact ⟨rfl, belT (belT (belT (belT (belA (belT (belT (belT (belT h1 h2) h3) h4) h5) _) h6) h7) h8) h9⟩

theorem back_valid (s : ByteArray) (q : Nat) (w : World) (hs : s.size ≤ 1000000000) (hq : q < s.size) :
    Calls Try.prog 23 #[.string s, .int .i64 (q : Int)] w fun e w' =>
      e = .returned (.tuple #[.string (mkS (back s.data.toList q)), .int .i64 0]) ∧ Below w.heap.size w w' :=
  (back_any s q w hs (by omega) (by omega)).mono fun e w' ⟨h1, h2⟩ => by
    have hok : backOk s.data.toList (q : Int) = true := by
      have : s.data.toList.length = s.size := by simp
      simp only [backOk, this, Bool.and_eq_true, decide_eq_true_eq]; omega
    rw [backText, backErr, if_pos hok, if_pos hok] at h1
    exact ⟨h1, h2⟩

theorem ne_empty {t : ByteArray} (h : t.toList.isEmpty = false) : 1 ≤ t.size := by
  rcases Nat.eq_zero_or_pos t.size with h' | h'
  · exfalso
    have : t.data.toList = [] := List.length_eq_zero_iff.1 (by simpa using h')
    rw [ByteArray.toList_eq, this] at h
    cases h
  · exact h'

theorem i64_of_wf {n : Int} (h : (Lit.int .i64 n).wf = true) : -9223372036854775808 ≤ n ∧ n ≤ 9223372036854775807 := by
  simp [Lit.wf, IntKind.min, IntKind.max, IntKind.signed, IntKind.bits] at h
  omega

theorem minOf (n : Nat) (k : Int) (hk : 0 ≤ k) : ∃ m : Nat, (if k < (n : Int) then k else (n : Int)) = (m : Int) ∧ (m : Int) ≤ k ∧ m ≤ n := by
  by_cases h : k < (n : Int)
  · obtain ⟨m, rfl⟩ := Int.eq_ofNat_of_zero_le hk
    exact ⟨m, by rw [if_pos h], Int.le_refl _, by omega⟩
  · exact ⟨n, by rw [if_neg h], by omega, Nat.le_refl _⟩

/-- The row of two texts that a statement goes through. -/
def Pair (w wx : World) (v : Value) (m1 m2 : Nat) : Prop := ∃ (b : Nat) (t0 t1 : ByteArray), v = .slice (some ⟨b, 0, none⟩) 2 2 ∧ Arr wx b 9 [.string t0, .string t1] ∧ t0.size ≤ m1 ∧ t1.size ≤ m2 ∧ Below w.heap.size w wx ∧ w.heap.size ≤ b

end Go.Proofs.Ythjmpiekjfnoiaa

/-
  The walks of the program's chapter 18 where a level, or a number of texts, may not be.
-/
import Derived.Test.YtihbnmlinkbnkaaGreatDoorZ42
set_option linter.unusedVariables false
set_option linter.unusedSimpArgs false
namespace Go.Proofs.YtihbnmlinkbnkaaGreatDoor
open Go.RowKit Go Go.Shelf

theorem may_no {n : Int} (h : n < 1 ∨ 9 < n) (W : World) : Calls Tryz.prog 69 #[.int .i64 n] W fun e w' => e = .returned (.bool false) ∧ w' = W := by
  have hm := callsIn_wide.1 (VH 7 n W)
  grind
theorem pieces18_no (n : Int) (s : ByteArray) (w : World) (h : n < 1 ∨ 9 < n) :
    Calls Tryz.prog 28 #[.string s, .int .i64 n] w fun e w' => e = .returned (.tuple #[.slice none 0 0, .int .i64 1]) ∧ Below w.heap.size w w' := by
  have hmay := fun W => may_no h W
  go_enter Tryz.func28, Tryz.ntmps28
  go_wp2_with fail
  refine (hmay _).mono ?_
  rintro e w' ⟨rfl, rfl⟩
  have c0 := bX w (.slice none 0 0) 22
  go_wp2_with fail
  exact ⟨rfl, .tuple #[.slice none 0 0, .int .i64 1], by simp [results, Tryz.f28, go_sem, c0], rfl, bD (Below.refl _ _) _⟩
theorem pack18_no (n : Int) (s : ByteArray) (w : World) (h : n < 1 ∨ 9 < n) :
    Calls Tryz.prog 30 #[.string s, .int .i64 n] w fun e w' => e = .returned (.tuple #[.string ⟨#[]⟩, .int .i64 1]) ∧ w' = w := by
  have hmay := fun W => may_no h W
  go_enter Tryz.func30, Tryz.ntmps30
  go_wp2_with fail
  refine (hmay _).mono ?_
  rintro e w' ⟨rfl, rfl⟩
  go_wp2_with fail
  go_ret2
  exact ⟨rfl, rfl⟩
theorem streams18_no (n : Int) (v : Value) (l : List ByteArray) (w : World) (hr : RdT w v l) (h : (n < 1 ∨ 9 < n) ∨ l = []) :
    Calls Tryz.prog 32 #[.int .i64 n, v] w fun e w' => e = .returned (.tuple #[.string ⟨#[]⟩, .int .i64 1]) ∧ w' = w := by
  obtain ⟨a, ca, rfl, hca, hma, hA⟩ := hr.open
  clear hr hA
  by_cases h9 : n < 1 ∨ 9 < n
  · have hmay := fun W => may_no h9 W
    go_enter Tryz.func32, Tryz.ntmps32
    go_wp2_with fail
    refine (hmay _).mono ?_
    rintro e w' ⟨rfl, rfl⟩
    go_wp2_with fail
    go_ret2
    exact ⟨rfl, rfl⟩
  obtain rfl : l = [] := h.resolve_left h9
  obtain ⟨lv, rfl⟩ : ∃ lv : Nat, n = (lv : Int) := ⟨n.toNat, by omega⟩
  have hmay := fun W => callsIn_wide.1 (GF (lv := lv) (by omega) (by omega) 7 W)
  go_enter Tryz.func32, Tryz.ntmps32
  go_wp2_with fail
  refine (hmay _).mono ?_
  rintro e w' ⟨rfl, rfl⟩
  go_wp2_with fail
  go_ret2
  exact ⟨rfl, rfl⟩

end Go.Proofs.YtihbnmlinkbnkaaGreatDoor

/-
  The program's bits (chapter 1): bits that stand at a place are the same.
-/
import Derived.Test.YtiifmcicleljjaaGreatDoorZ9
namespace Go.Proofs.YtiifmcicleljjaaGreatDoor
open Go.RowKit Go

set_option maxRecDepth 100000 in
set_option maxHeartbeats 3200000 in
theorem sameYes_any (s : ByteArray) (a : Nat) (l : List Bool) (w : World) (hs : s.size ≤ 1000000) (hl : l.length ≤ 1000000) (h : fH s.data.toList a l) :
    Calls Tryz.prog 26 #[.string s, .int .i64 (a : Int), eL l] w fun e w' => e = .returned (.bool true) ∧ Below w.heap.size w w' := by
  have hr := fun W => aEe l W hl
  unfold eL
  obtain ⟨D, hD⟩ : ∃ D, D = mkS (aD l) := ⟨_, rfl⟩
  have hDs : D.size = (l.length + 7) / 8 := by rw [hD, cP, gY]
  have hbits : ∀ k, k < l.length → dI s.data.toList (a + k) = dI D.data.toList k := fun k hk => by rw [MD h hk, hD, fW, sO]
  have hle := h.1
  rw [show s.data.toList.length = s.size by simp] at hle
  rw [← hD] at hr ⊢
  clear hD h
  obtain ⟨n, hn⟩ : ∃ n, n = l.length := ⟨_, rfl⟩
  rw [← hn] at hr hl hDs hbits hle ⊢
  clear hn
  obtain ⟨r, hrr⟩ : ∃ r, r = 8 * s.size - n := ⟨_, rfl⟩
  have n1 : decide ((a : Int) < 0) = false := decide_eq_false (by omega)
  have m1 : IntKind.i64.wrap (8 * (s.size : Int)) = 8 * (s.size : Int) := JA (by omega) (by omega)
  have m2 : IntKind.i64.wrap (8 * (s.size : Int) - (n : Int)) = (r : Int) := by rw [JA (by omega) (by omega)]; omega
  have m3 : 8 * (s.size : Int) - (n : Int) = (r : Int) := by omega
  have m4 : IntKind.i64.wrap (r : Int) = (r : Int) := JA (by omega) (by omega)
  have n2 : decide ((a : Int) > (r : Int)) = false := decide_eq_false (by omega)
  have n3 : decide ((r : Int) < (a : Int)) = false := decide_eq_false (by omega)
  have n4 : decide (r < a) = false := decide_eq_false (by omega)
  have HB := hid hbits
  have HDS := hid hDs
  clear hrr hbits hDs
  go_enter Tryz.func26, Tryz.ntmps26
  go_wp2_with fail
  refine (hr _).mono ?_
  rintro e w1 ⟨rfl, h1⟩
  have hA := Arr.new w 29 [.string D, .int .i64 (n : Int)]
  change Arr (w.alloc (.cells #[.string D, .int .i64 (n : Int)] 29)) _ _ _ at hA
  have hA1 := hA.below h1 hA.lt
  have h1w : Below w.heap.size w w1 := (bD (Below.refl _ _) (.cells #[.string D, .int .i64 (n : Int)] 29)).trans (h1.mono (by simp))
  have c0 := hA1.cell (i := 0) rfl
  have c1 := hA1.cell (i := 1) rfl
  clear hr hA h1
  go_wp2_with fail
  go_loopg [7, 27] n (fun g _s7 s27 wr => ∃ k : Nat, k ≤ n ∧ g = n - k ∧ s27 = .int .i64 (k : Int) ∧ Below w1.heap.size w1 wr)
  case atStart => exact ⟨0, by omega, rfl, rfl, Below.refl _ _⟩
  case round =>
    obtain ⟨k, hk, hg, rfl, hbel⟩ := hrel
    have HG := hid hg
    clear hg c0 c1
    have hAr := hA1.below hbel hA1.lt
    have c0 := hAr.cell (i := 0) rfl
    have c1 := hAr.cell (i := 1) rfl
    by_cases hlt : k < n
    · have t1 : decide ((k : Int) < (n : Int)) = true := decide_eq_true (by omega)
      have t2 : decide (k < n) = true := decide_eq_true hlt
      obtain ⟨j, hj⟩ : ∃ j, j = a + k := ⟨_, rfl⟩
      have j1 : (a : Int) + (k : Int) = (j : Int) := by omega
      have j2 : IntKind.i64.wrap ((a : Int) + (k : Int)) = (j : Int) := by rw [j1]; exact JA (by omega) (by omega)
      have j3 : IntKind.i64.wrap (j : Int) = (j : Int) := JA (by omega) (by omega)
      have hb1 := fun W => IW s j W (by omega) (by omega)
      have hb2 := fun W => IW D k W (by have := HDS.out; omega) (by have := HDS.out; omega)
      have hbk := HB.out k hlt
      rw [← hj] at hbk
      rw [hbk] at hb1
      generalize sS (dI D.data.toList k) = U at hb1 hb2
      have u1 : ((U : Int) != (U : Int)) = false := bne_self_eq_false _
      have u2 : (U != U) = false := bne_self_eq_false _
      clear hj hbk
      go_upto_region 6 with fail
      go_quiet (first | (go_at_call 73; first | with_reducible exact Calls.quiet_of_same (hb1 _) | with_reducible exact Calls.quiet_of_same (hb2 _)))
      go_wp2_with fail
      have hg := HG.out
      go_roundg (n - (k + 1))
      case measure => omega
      case rel => exact ⟨k + 1, by omega, rfl, by go_num, ⟨hbel.os, hbel.tape, hbel.output, hbel.size, hbel.block⟩⟩
    · have t1 : decide ((k : Int) < (n : Int)) = false := decide_eq_false (by omega)
      have t2 : decide (k < n) = false := decide_eq_false hlt
      go_wp2_with fail
      go_ret
      exact ⟨rfl, bV h1w hbel⟩

end Go.Proofs.YtiifmcicleljjaaGreatDoor

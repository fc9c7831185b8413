/-
  The walk of the statement SqueezeBack.
-/
import Derived.Test.YthjmpiekjfnoiaaGreatDoorZ7
namespace Go.Proofs.YthjmpiekjfnoiaaGreatDoor
open Go.RowKit Go.Shelf

/-- A squeezed text in a variable of the call's own. -/
theorem box15 {w1 : World} {a : ByteArray} {o : Int} {ad : Option Addr} {c : Nat} {l : List Int} (hr : RdI w1 (.slice ad l.length c) l) :
    Arr (w1.alloc (.cells #[.string a, .int .i64 o, .slice ad l.length c] 25)) w1.heap.size 25 [.string a, .int .i64 o, .slice ad l.length c] ∧
      RdI (w1.alloc (.cells #[.string a, .int .i64 o, .slice ad l.length c] 25)) (.slice ad l.length c) l ∧
      Below w1.heap.size w1 (w1.alloc (.cells #[.string a, .int .i64 o, .slice ad l.length c] 25)) :=
  ⟨Arr.new w1 25 [.string a, .int .i64 o, .slice ad l.length c], hr.below ((Below.refl _ _).alloc (Nat.le_refl _) _), (Below.refl _ _).alloc (Nat.le_refl _) _⟩

/-- The row of three texts that a statement goes through. -/
def Three (w wx : World) (v : Value) (m : Nat) : Prop := ∃ (b : Nat) (t0 t1 t2 : ByteArray), v = .slice (some ⟨b, 0, none⟩) 3 3 ∧ Arr wx b 9 [.string t0, .string t1, .string t2] ∧ t0.size ≤ m ∧ t1.size ≤ m ∧ t2.size ≤ m ∧ Below w.heap.size w wx ∧ w.heap.size ≤ b

set_option maxRecDepth 100000 in
set_option maxHeartbeats 1600000 in
theorem squeezeBack_any (s u : ByteArray) (v : Value) (raw : List (Int × Int)) (w : World) (hE : ErrVar w) (_hs : s.size ≤ maxLen) (_hu : u.size ≤ maxLen) (hr : RdP w v raw) (hwf : WfP raw) :
    Calls Tryz.prog 4 #[.string s, .string u, v] w fun e w' => e = .returned (.bool true) ∧ Below w.heap.size w w' := by
  unfold maxLen at _hs _hu
  obtain ⟨m, hmi, hm1, hm2⟩ := minOf s.size 50 (by decide)
  have hmi2 : min (s.size : Int) 50 = (m : Int) := by rw [← hmi, Int.min_def]; split <;> split <;> omega
  obtain ⟨n, hni, hn1, hn2⟩ := minOf u.size 50 (by decide)
  have hni2 : min (u.size : Int) 50 = (n : Int) := by rw [← hni, Int.min_def]; split <;> split <;> omega
  obtain ⟨X, hX⟩ : ∃ X, X = s.extract 0 m := ⟨_, rfl⟩
  obtain ⟨Y, hY⟩ : ∃ Y, Y = u.extract 0 n := ⟨_, rfl⟩
  have hXs : X.size ≤ 100 := by rw [hX]; simp; omega
  have hYs : Y.size ≤ 100 := by rw [hY]; simp; omega
  have HX := hX.symm
  have HY := hY.symm
  clear hX hY
  go_enter Tryz.func4, Tryz.ntmps4
  go_wp2_with fail
  refine (awake15_any _ hE).mono ?_
  rintro e w1 ⟨rfl, h1⟩
  have hE1 := hE.below h1
  have hr1 := hr.below h1
  go_wp2_with fail
  refine (runs_any _ raw 100 _ hr1 hwf (by decide) (by decide)).mono ?_
  rintro e w2 ⟨t2, rfl, ht2, h2⟩
  have hE2 := hE1.below h2
  have h02 := belT h1 h2
  clear hr hr1 hwf h1 h2 hE1 hE HX HY hmi hmi2 hni hni2 hm1 hm2 hn1 hn2
  go_wp2_with fail
  have harr := Arr.new w2 9 [.string X, .string Y, .string t2]
  have hE3 := hE2.below ((Below.refl _ _).alloc (Nat.le_refl _) (.cells #[.string X, .string Y, .string t2] 9))
  have h03 := belA h02 (.cells #[.string X, .string Y, .string t2] 9)
  change Arr (w2.alloc (.cells #[.string X, .string Y, .string t2] 9)) _ _ _ at harr
  generalize w2.alloc (.cells #[.string X, .string Y, .string t2] 9) = wc at *
  clear hE2 h02
  go_loopg [37] 3 (fun g i wr => ∃ k : Nat, k ≤ 3 ∧ g = 3 - k ∧ i = .int .i64 k ∧ Below wc.heap.size wc wr)
  case atStart => exact ⟨0, by omega, rfl, rfl, Below.refl _ _⟩
  case round =>
    obtain ⟨k, hk, hg, rfl, hbel⟩ := hrel
    have HG := hid hg
    clear hg
    have hEr := hE3.below hbel
    by_cases hlt : k < 3
    · obtain ⟨t, ht, hc⟩ : ∃ t : ByteArray, t.size ≤ 100 ∧ wr.cell? ⟨w2.heap.size, k, none⟩ = some (.string t) := by
        have har := harr.below hbel harr.lt
        rcases (show k = 0 ∨ k = 1 ∨ k = 2 by omega) with rfl | rfl | rfl
        · exact ⟨X, hXs, har.cell (i := 0) rfl⟩
        · exact ⟨Y, hYs, har.cell (i := 1) rfl⟩
        · exact ⟨t2, by omega, har.cell (i := 2) rfl⟩
      have hd : decide ((k : Int) < 3) = true := by simp; omega
      go_wp2_with fail
      refine (sq_any t _ (by omega)).mono ?_
      rintro e w4 ⟨v4, rfl, hr4, h4, hO⟩
      obtain ⟨a4, c4, rfl, _, _, _⟩ := hr4.open
      have hB4 := belT hbel h4
      have hE4 := hEr.below h4
      obtain ⟨ha5, hr5, h5⟩ := box15 (a := sqA t) (o := sqO t) hr4
      have hB5 := belT hB4 h5
      have hE5 := hE4.below h5
      clear hr4 h4 hE4 hEr hc hB4
      obtain ⟨w5, hw5⟩ : ∃ w5, w5 = w4.alloc (.cells #[.string (sqA t), .int .i64 (sqO t), .slice a4 (sqS t).length c4] 25) := ⟨_, rfl⟩
      rw [← hw5] at ha5 hr5 h5 hB5 hE5
      by_cases h0 : t.size = 0
      · have z1 : sqE t = 1 := if_pos h0
        have z2 := str_nil (s := t) (List.length_eq_zero_iff.1 (by simpa using h0))
        have HW := hid hw5
        clear hw5 h0
        rw [z1]
        clear z1
        go_wp2_with fail
        rw [← HW.out]
        have hg := HG.out
        go_roundg (3 - (k + 1))
        case measure => omega
        case rel => exact ⟨k + 1, by omega, rfl, by go_num, hB5⟩
      · have h0p : 0 < t.size := by omega
        have z1 : sqE t = 0 := sqE_pos h0p
        have z2 := str_full h0p
        have hO := hO h0p
        have hA1 := sqA_le t
        have hL1 := (sqS_len t).1
        have hO1 : 0 ≤ sqO t ∧ sqO t < (t.size : Int) := by have := orig_lt h0p hO; rw [sqO_pos h0p]; omega
        have HR1 := hid (rest_sq h0p hO (Int.le_refl _))
        have HR2 := hid (rest_short h0p hO (sqO t) (most := (t.size : Int) - 1) (by omega))
        have HO := hid hO
        have HW := hid hw5
        clear hw5 hO
        rw [z1]
        clear z1
        go_wp2_with fail
        rw [← HW.out]
        refine (restore_any _ _ _ (sqS t) (t.size : Int) w5 hE5 (by omega) hr5 (by omega) (by omega) (by omega) (by omega) (by omega)).mono ?_
        rintro e w6 ⟨rfl, h6⟩
        rw [HR1.out]
        have ha6 := ha5.below h6 ha5.lt
        have hr6 := hr5.below h6
        have hE6 := hE5.below h6
        have hB6 := belT hB5 h6
        have d0 := ha6.cell (i := 0) rfl
        have d1 := ha6.cell (i := 1) rfl
        have d2 := ha6.cell (i := 2) rfl
        clear ha5 hr5 hE5 hB5 h6 h5
        go_wp2_with fail
        refine (restore_any _ _ _ (sqS t) ((t.size : Int) - 1) w6 hE6 (by omega) hr6 (by omega) (by omega) (by omega) (by omega) (by omega)).mono ?_
        rintro e w7 ⟨rfl, h7⟩
        rw [HR2.out]
        have ha7 := ha6.below h7 ha6.lt
        have hr7 := hr6.below h7
        have hB7 := belT hB6 h7
        clear ha6 hr6 hE6 hB6 h7 d0 d1 d2 HR1 HR2
        go_wp2_with fail
        refine (sq_any X _ (by omega)).mono ?_
        rintro e w8 ⟨v8, rfl, hr8, h8, hOX⟩
        obtain ⟨a8, c8, rfl, _, _, _⟩ := hr8.open
        have hB8 := belT hB7 h8
        obtain ⟨ha9, hr9, h9⟩ := box15 (a := sqA X) (o := sqO X) hr8
        have hB9 := belT hB8 h9
        have hb9 := (ha7.below h8 ha7.lt).below h9 (Nat.lt_of_lt_of_le ha7.lt h8.size)
        have hq9 := (hr7.below h8).below h9
        have d0 := hb9.cell (i := 0) rfl
        have d1 := hb9.cell (i := 1) rfl
        have d2 := hb9.cell (i := 2) rfl
        have f0 := ha9.cell (i := 0) rfl
        have f1 := ha9.cell (i := 1) rfl
        have f2 := ha9.cell (i := 2) rfl
        have e1 : (t.toList != t.toList) = false := by simp
        obtain ⟨w9, hw9⟩ : ∃ w9, w9 = w8.alloc (.cells #[.string (sqA X), .int .i64 (sqO X), .slice a8 (sqS X).length c8] 25) := ⟨_, rfl⟩
        rw [← hw9] at ha9 hr9 h9 hB9 hb9 hq9
        have HW9 := hid hw9
        clear hr7 ha7 h8 hr8 hB8 hB7 hw9
        by_cases hX0 : X.size = 0
        · have z3 := str_nil (s := X) (List.length_eq_zero_iff.1 (by simpa using hX0))
          clear hX0
          unfold emptyS
          go_wp2_with fail
          rw [← HW9.out]
          have hg := HG.out
          go_roundg (3 - (k + 1))
          case measure => omega
          case rel => exact ⟨k + 1, by omega, rfl, by go_num, hB9⟩
        · have hX0p : 0 < X.size := by omega
          have z3 := str_full hX0p
          have z4 : sqE X = 0 := sqE_pos hX0p
          have hOX := hOX hX0p
          have HD := hid (same_dec h0p hX0p HO.out hOX)
          rw [z4]
          clear z4 hOX hX0
          unfold emptyS
          go_wp2_with fail
          rw [← HW9.out]
          refine (same_any _ _ _ _ _ _ (sqS t) (sqS X) w9 hq9 hr9).mono ?_
          rintro e wA ⟨rfl, hA⟩
          rw [HD.out]
          have hBA := belT hB9 hA
          by_cases htX : t = X
          · subst htX
            have z5 : decide (t = t) = true := by simp
            have z6 : (t.toList == t.toList) = true := by simp
            rw [z5]
            go_wp2_with fail
            have hg := HG.out
            go_roundg (3 - (k + 1))
            case measure => omega
            case rel => exact ⟨k + 1, by omega, rfl, by go_num, hBA⟩
          · have z5 : decide (t = X) = false := decide_eq_false htX
            have z6 : (X.toList == t.toList) = false := str_ne (fun e => htX e.symm)
            rw [z5]
            go_wp2_with fail
            have hg := HG.out
            go_roundg (3 - (k + 1))
            case measure => omega
            case rel => exact ⟨k + 1, by omega, rfl, by go_num, hBA⟩
    · have hd : decide ((k : Int) < 3) = false := by simp; omega
      go_wp2
      go_ret
      exact ⟨rfl, h03.trans (hbel.mono h03.size)⟩

end Go.Proofs.YthjmpiekjfnoiaaGreatDoor

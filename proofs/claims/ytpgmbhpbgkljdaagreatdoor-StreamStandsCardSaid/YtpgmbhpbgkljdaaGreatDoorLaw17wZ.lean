/-
  The first calls of chapter 17.
-/
import Derived.Test.YtpgmbhpbgkljdaaGreatDoorLaw17aZ
set_option linter.unusedVariables false
set_option linter.unusedSimpArgs false
namespace Go.Proofs.YtpgmbhpbgkljdaaGreatDoor
open Go.RowKit Go Go.Shelf

theorem str_bytes {s : ByteArray} {l : List UInt8} (h : s.data.toList = l) : (s.toList == l) = true := by rw [Lib.toList_data, h]; simp
theorem ext_take (s : ByteArray) (k : Nat) : (s.extract 0 k).data.toList = s.data.toList.take k := by rw [nT, fW, List.drop_zero, Nat.sub_zero]

set_option maxRecDepth 100000 in
set_option maxHeartbeats 3200000 in
theorem awake17_any (w : World) (hE : iF w) : Calls Tryz.prog 15 #[] w fun e w' => e = .returned (.bool true) ∧ Below w.heap.size w w' := by
  go_enter Tryz.func15, Tryz.ntmps15
  go_wp2_with fail
  refine (write_fine 1 (.slice none 0 0) [] _ (RdT.nil _) (by decide) (fun t ht => by simp at ht) (by decide) (by decide)).mono ?_
  rintro e w1 ⟨rfl, ho1, hb1⟩
  have hE1 := hE.below hb1
  have hsA := arcS_none 1
  have hhA := (arcS_head 1 []).1
  have hrA : ∀ W, iF W → Calls Tryz.prog 19 #[.string (arcS [(1, [])])] W fun e w' => e = .returned (.tuple #[.string ⟨#[]⟩, .int .i64 0]) ∧ Below W.heap.size W w' := fun W h => read_arc (l := [(1, [])]) (by simp) ho1 (by omega) W h
  obtain ⟨A, hA⟩ : ∃ A, A = arcS [(1, [])] := ⟨_, rfl⟩
  rw [← hA] at hsA hhA hrA ⊢
  have hA4 : ((A.extract 0 4).toList == [80, 77, 107, 49]) = true := str_bytes (by rw [ext_take, hhA]; rfl)
  obtain ⟨S0, hS0⟩ : ∃ S0 : ByteArray, S0 = ⟨#[]⟩ := ⟨_, rfl⟩
  have hS0e : S0.toList.isEmpty = true := by rw [Lib.toList_data, hS0]; rfl
  rw [← hS0] at hrA
  have HA := hid hA
  have HS0 := hid hS0
  clear hA hS0 hhA
  go_wp2_with fail
  refine (hrA _ hE1).mono ?_
  rintro e w2 ⟨rfl, hb2⟩
  have hE2 := hE1.below hb2
  have hbel2 := bV hb1 hb2
  clear hrA hE1 hb1 hb2
  go_wp2_with fail
  refine (write_fine 2 (.slice (some ⟨w2.heap.size, 0, none⟩) 2 2) [bananaS, xS] _ (xY w2 9 [.string bananaS, .string xS] 2 rfl (by decide)) (by decide) awake_fine (by decide) (by decide)).mono ?_
  rintro e w3 ⟨rfl, ho3, hb3⟩
  have hb23 := bV (bD (Below.refl _ _) (.cells #[.string bananaS, .string xS] 9)) hb3
  have hE3 := hE2.below hb23
  have hbel3 := bV hbel2 hb23
  have hsB := arcS_size ho3
  have hsB2 := (arcS_head 2 [bananaS, xS]).2
  obtain ⟨Bb, hBb⟩ : ∃ Bb, Bb = arcS [(2, [bananaS, xS])] := ⟨_, rfl⟩
  rw [← hBb] at hsB hsB2 ⊢
  have hsB3 : Bb.size ≤ 7100 := Nat.le_trans hsB (by decide)
  have hBe : Bb.toList.isEmpty = false := rY (by omega)
  have hoC := okA_append ho3 ho1
  have hCe : Bb ++ A = arcS ([(2, [bananaS, xS])] ++ [(1, [])]) := by rw [hBb, HA.out, arcS_join]
  obtain ⟨C, hC⟩ : ∃ C, C = Bb ++ A := ⟨_, rfl⟩
  have hC' := hC.symm
  have hsC : C.size ≤ 7200 := by rw [hC, ByteArray.size_append]; omega
  have q1 : ¬ 9223372036854775807 < Bb.size + A.size := by omega
  have q1' : ¬ 9223372036854775807 < C.size := by omega
  obtain ⟨T, hT⟩ : ∃ T : ByteArray, T = ⟨#[98, 97, 110, 97, 110, 97, 120]⟩ := ⟨_, rfl⟩
  have hTe : (T.toList == [98, 97, 110, 97, 110, 97, 120]) = true := str_bytes (by rw [hT])
  have hrC : ∀ W, iF W → Calls Tryz.prog 19 #[.string C] W fun e w' => e = .returned (.tuple #[.string T, .int .i64 0]) ∧ Below W.heap.size W w' := fun W h => by
    rw [hT]
    have k := read_arc (l := [(2, [bananaS, xS])] ++ [(1, [])]) (by simp) hoC (by rw [← hCe, ← hC]; omega) W h
    rw [← hCe, ← hC] at k
    exact k
  have hmC : ∀ W, iF W → Calls Tryz.prog 22 #[.string C] W fun e w' => ∃ v, e = .returned (.tuple #[v, .int .i64 0]) ∧ RdI w' v [80, 80] ∧ Below W.heap.size W w' := fun W h => by
    have k := rooms_arc (l := [(2, [bananaS, xS])] ++ [(1, [])]) (by simp) hoC (by rw [← hCe, ← hC]; omega) W h
    rw [← hCe, ← hC] at k
    exact k
  have hr0 : ∀ W, iF W → Calls Tryz.prog 19 #[.string ⟨#[]⟩] W fun e w' => e = .returned (.tuple #[.string S0, .int .i64 3]) ∧ Below W.heap.size W w' := fun W h => by
    rw [HS0.out]
    exact read_bad (s := ⟨#[]⟩) (E := 3) rfl (by decide) (by decide) W h
  obtain ⟨N1, hN1⟩ : ∃ N1, N1 = Bb.size - 1 := ⟨_, rfl⟩
  have m1 : IntKind.i64.wrap ((Bb.size : Int) - 1) = (N1 : Int) := by rw [show (Bb.size : Int) - 1 = (N1 : Int) by omega]; exact nat_wI N1 (by omega)
  have m1' : (Bb.size : Int) - 1 = (N1 : Int) := by omega
  have q2 : (N1 : Int) ≤ (Bb.size : Int) := by omega
  have hN1b : N1 ≤ 8000 := by omega
  obtain ⟨D, hD⟩ : ∃ D, D = Bb.extract 0 N1 := ⟨_, rfl⟩
  have hD' := hD.symm
  have hDs : D.size ≤ 8000 := by rw [hD]; simp; omega
  have hrD : ∀ W, iF W → Calls Tryz.prog 19 #[.string D] W fun e w' => e = .returned (.tuple #[.string S0, .int .i64 2]) ∧ Below W.heap.size W w' := fun W h => by
    rw [HS0.out]
    refine read_bad (s := D) (E := 2) ?_ (by decide) (by omega) W h
    obtain ⟨o1, o2, o3⟩ := ho3 _ (List.mem_singleton.2 rfl)
    have hl : (aD (strW 2 [bananaS, xS])).length = Bb.size := by rw [hBb]; unfold arcS; rw [cP, arc_one]
    have k := arcD_cut (l := []) (n := 2) (x := [bananaS, xS]) (c := N1) (fun p hp => by simp at hp) o1 o2 o3 (by omega) (by rw [hl]; omega)
    have e : D.data.toList = (aD (strW 2 [bananaS, xS])).take N1 := by rw [hD, ext_take, hBb]; unfold arcS; rw [fW, arc_one]
    rw [e]
    exact k
  obtain ⟨F, hF⟩ : ∃ F, F = A ++ xS := ⟨_, rfl⟩
  have hF' : A ++ ⟨#[120]⟩ = F := hF.symm
  have hFs : F.size ≤ 20 := by rw [hF, ByteArray.size_append, hsA]; decide
  have q3 : ¬ 9223372036854775807 < A.size + 1 := by omega
  have q3' : ¬ 9223372036854775807 < F.size := by omega
  have hrF : ∀ W, iF W → Calls Tryz.prog 19 #[.string F] W fun e w' => e = .returned (.tuple #[.string S0, .int .i64 2]) ∧ Below W.heap.size W w' := fun W h => by
    rw [HS0.out]
    refine read_bad (s := F) (E := 2) ?_ (by decide) (by omega) W h
    have k := arcD_rest (l := [(1, [])]) (m := [120]) ho1 (by simp) (by decide)
    have e : F.data.toList = aD (arcW [(1, [])]) ++ [120] := by rw [hF, ByteArray.data_append, Array.toList_append, HA.out]; rfl
    rw [e]
    exact k
  have hw0 := fun W => write_none 0 (.slice none 0 0) [] W (RdT.nil _) (by decide) (fun t ht => by simp at ht) 1 rfl (by decide) (by decide) (by decide)
  have hw1 := fun W v (h : RdT W v [⟨#[]⟩]) => write_none 1 v [⟨#[]⟩] W h (by decide) (fun t ht => by obtain rfl := List.mem_singleton.1 ht; decide) 1 (by
    unfold wrE firstE eZ
    rfl) (by decide) (by decide) (by decide)
  rw [← HS0.out] at hw0
  have hsA' : ((A.size : Int) == 14) = true := by rw [hsA]; rfl
  have hsA4 : (4 : Int) ≤ (A.size : Int) := by omega
  clear hBb hC hT hN1 hD hF hsB hCe hoC ho1 ho3 hE2 hb23 hb3 hbel2
  go_wp2_with fail
  refine (hrC _ hE3).mono ?_
  rintro e w4 ⟨rfl, hb4⟩
  have hE4 := hE3.below hb4
  have hbel4 := bV hbel3 hb4
  clear hE3 hbel3 hb4 hrC
  go_wp2_with fail
  refine (hmC _ hE4).mono ?_
  rintro e w5 ⟨v5, rfl, hv5, hb5⟩
  have hE5 := hE4.below hb5
  have hbel5 := bV hbel4 hb5
  clear hE4 hbel4 hb5 hmC
  go_wp2_with fail
  refine (hr0 _ hE5).mono ?_
  rintro e w6 ⟨rfl, hb6⟩
  have hE6 := hE5.below hb6
  have hbel6 := bV hbel5 hb6
  have hv6 := hv5.below hb6
  clear hE5 hbel5 hb6 hr0 hv5
  go_wp2_with fail
  refine (hrD _ hE6).mono ?_
  rintro e w7 ⟨rfl, hb7⟩
  have hE7 := hE6.below hb7
  have hbel7 := bV hbel6 hb7
  have hv7 := hv6.below hb7
  clear hE6 hbel6 hb7 hrD hv6 m1 m1' q2 hD'
  go_wp2_with fail
  refine (hrF _ hE7).mono ?_
  rintro e w8 ⟨rfl, hb8⟩
  have hbel8 := bV hbel7 hb8
  have hv8 := hv7.below hb8
  clear hE7 hbel7 hb8 hrF hv7
  go_wp2_with fail
  refine (hw0 _).mono ?_
  rintro e w9 ⟨rfl, hb9⟩
  have hbel9 := bV hbel8 hb9
  have hv9 := hv8.below hb9
  clear hbel8 hb9 hw0 hv8
  go_wp2_with fail
  refine (hw1 _ (.slice (some ⟨w9.heap.size, 0, none⟩) 1 1) (xY w9 9 [.string ⟨#[]⟩] 1 rfl (by decide))).mono ?_
  rintro e w10 ⟨rfl, hb10⟩
  have hb910 := bV (bD (Below.refl _ _) (.cells #[.string ⟨#[]⟩] 9)) hb10
  have hbel10 := bV hbel9 hb910
  have hv10 := hv9.below hb910
  clear hbel9 hb10 hw1 hv9 hb910
  go_wp2_with fail
  refine (aT9 _ _ [80, 80] _ (hv10.below (bD (Below.refl _ _) _)) (xY w10 _ [.int .i64 80, .int .i64 80] 2 rfl (by decide))).mono ?_
  rintro e w11 ⟨rfl, hb11⟩
  go_wp2_with fail
  go_ret
  exact ⟨rfl, bV hbel10 (bV (bD (Below.refl _ _) _) hb11)⟩

end Go.Proofs.YtpgmbhpbgkljdaaGreatDoor

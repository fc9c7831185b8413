/-
  What the statement of chapter 20 stands on: numbers that are picked, the first calls.
-/
import Derived.Test.YtmcogmmncfihhaaGreatDoorP20eZ
import Derived.Test.YtmcogmmncfihhaaGreatDoorP20bZ
import Derived.Test.YtmcogmmncfihhaaGreatDoorZ22
set_option linter.unusedVariables false
set_option linter.unusedSimpArgs false
namespace Go.Proofs.YtmcogmmncfihhaaGreatDoor
open Go.RowKit Go Go.Shelf

theorem pick20_any (c n : Int) (w : World) (h1 : -9223372036854775808 ≤ c) (h2 : c ≤ 9223372036854775807) (h3 : 1 ≤ n) (h4 : n ≤ 4611686018427387904) :
    Calls Tryz.prog 19 #[.int .i64 c, .int .i64 n] w fun e w' => e = .returned (.int .i64 (gA c n)) ∧ w = w' := by
  by_cases hc : c < 0
  · have hfin := hid (show gA c n = (-(c + 1)) % n from by simp [gA, hc])
    go_enter Tryz.func19, Tryz.ntmps19
    go_wp2
    go_ret
    exact ⟨fX (by rw [hfin.out]; rw [← Int.neg_tmod, Int.tmod_eq_emod_of_nonneg (by omega)]), rfl⟩
  · have hfin := hid (show gA c n = c % n from by simp [gA, hc])
    have hc' : 0 ≤ c := by omega
    go_enter Tryz.func19, Tryz.ntmps19
    go_wp2
    go_ret
    exact ⟨fX (by rw [hfin.out]), rfl⟩

def aw20 : ByteArray := ⟨#[80, 77, 107, 49, 23, 114, 69, 56, 80, 144, 0, 0, 0, 0]⟩
theorem aw20_none : hH aw20.data.toList = ([], 0) := by kernel_rfl
def ze20 : Ent := ⟨0, 0, 0, 0, 0⟩
theorem ze20_wrong : ¬ aU1 [ze20] := fun h => absurd h.1.2.1 (by decide)
theorem right_nil : aU1 [] := trivial

set_option maxRecDepth 100000 in
set_option maxHeartbeats 3200000 in
theorem awake20_any (w : World) (hE : iF w) : Calls Tryz.prog 7 #[] w fun e w' => e = .returned (.bool true) ∧ Below w.heap.size w w' := by
  obtain ⟨A, hA⟩ : ∃ A, A = aw20 := ⟨_, rfl⟩
  have hAl : A.size = 14 := by rw [hA]; rfl
  have hAn : hH A.data.toList = ([], 0) := by rw [hA]; exact aw20_none
  have HA := hid (show (⟨#[80, 77, 107, 49, 23, 114, 69, 56, 80, 144, 0, 0, 0, 0]⟩ : ByteArray) = A by rw [hA]; rfl)
  obtain ⟨C, hC⟩ : ∃ C, C = (fG A.data.toList).toNat := ⟨_, rfl⟩
  have hCb : C < 4294967296 := by rw [hC]; exact BitVec.isLt _
  obtain ⟨S, hS⟩ : ∃ S, S = sideB A.size C [] := ⟨_, rfl⟩
  have hSl : S.length = 20 := by rw [hS, sideB_length]; rfl
  have hrb := read_back (size := A.size) (sum := C) (l := []) (by omega) hCb (by decide) (fun x h => (nomatch h)) right_nil
  have hrl := read_long (size := A.size) (sum := C) (l := []) (by omega) (by decide) (m := [120]) (by decide)
  have hsav := fun W => save20_ok A (.slice none 0 0) [] W (RdR.nil W) (by omega) (by decide) right_nil (fun x h => (nomatch h))
  rw [← hC, ← hS] at hsav
  rw [← hS] at hrb hrl
  have hpar := fun W => parse20_any (mkS S) W (by rw [cP]; omega)
  rw [fW, hrb] at hpar
  have hsu := fun W => FA A W (by omega)
  rw [← hC] at hsu
  have hlo := fun W h => load20_none A (mkS S) W h (by rw [cP]; omega) (by omega) (by rw [fW, hrb, hC]) hAn
  have hlz := fun W => load20_size (A ++ A) (mkS S) W (by rw [cP]; omega) (by rw [fW, hrb]) (by rw [fW, hrb, ByteArray.size_append]; show A.size ≠ _; omega)
  have hle := fun W => load20_err A ⟨#[]⟩ W (by decide) (by decide)
  have hlx := fun W => load20_err A (mkS S ++ ⟨#[120]⟩) W (by rw [ByteArray.size_append, cP]; show S.length + 1 ≤ _; omega) (by rw [ByteArray.data_append, Array.toList_append, fW]; show (readD (S ++ [120])).2.2.2 ≠ 0; rw [hrl]; decide)
  have ex : (readD (mkS S ++ ⟨#[120]⟩).data.toList).2.2.2 = 3 := by rw [ByteArray.data_append, Array.toList_append, fW]; exact hrl
  rw [ex] at hlx
  have ee : (readD (⟨#[]⟩ : ByteArray).data.toList).2.2.2 = 2 := rfl
  rw [ee] at hle
  have hbad := fun (W : World) => save20_bad A (.slice (some ⟨W.heap.size, 0, none⟩) 1 1) [ze20] (W.alloc (.cells #[.int .i64 0, .int .i64 0, .int .i64 0, .int .i64 0, .int .u32 0] 51)) (RdR.one (Arr.new W 51 (LF ze20))) (by decide) ze20_wrong
  have hx0 := nT (mkS S) 0 4
  rw [fW, List.drop_zero, Nat.sub_zero, hS] at hx0
  have hp4 := (side_parts A.size C [] []).1
  rw [List.append_nil] at hp4
  rw [hp4, ← hS] at hx0
  have htl : ((mkS [80, 77, 105, 49]).toList == [80, 77, 105, 49]) = true := by rw [ByteArray.toList_eq, fW]; decide
  have hsz : (mkS S).size = 20 := by rw [cP]; exact hSl
  obtain ⟨T, hT⟩ : ∃ T, T = mkS S := ⟨_, rfl⟩
  rw [← hT] at hsav hpar hlo hlz hlx hx0 hsz
  clear hrb hrl hp4 hS hSl ex ee hA hT hC
  go_enter Tryz.func7, Tryz.ntmps7
  go_wp2_with fail
  rw [HA.out]
  refine (hsav _).mono ?_
  rintro e w1 ⟨rfl, h1⟩
  have hE1 := hE.below h1
  clear hsav hE
  go_wp2_with fail
  refine (hlo _ hE1).mono ?_
  rintro e w2 ⟨lb, lc, rfl, h2⟩
  have h02 := bV h1 h2
  clear hlo hE1 h1 h2
  go_wp2_with fail
  refine (hlz _).mono ?_
  rintro e w3 ⟨rfl, h3⟩
  have h03 := bV h02 h3
  clear hlz h02 h3
  go_wp2_with fail
  refine (hle _).mono ?_
  rintro e w4 ⟨rfl, h4⟩
  have h04 := bV h03 h4
  clear hle h03 h4
  go_wp2_with fail
  refine (hlx _).mono ?_
  rintro e w5 ⟨rfl, h5⟩
  have h05 := bV h04 h5
  clear hlx h04 h5
  go_wp2_with fail
  refine (hbad _).mono ?_
  rintro e w6 ⟨rfl, h6⟩
  have h06 := bV (bD h05 _) h6
  clear hbad h05 h6
  go_wp2_with fail
  refine (hpar _).mono ?_
  rintro e w7 ⟨v7, rfl, hr7, h7⟩
  obtain ⟨a7, c7, rfl, -⟩ := aWp hr7
  have h07 := bV h06 h7
  clear hpar h06 h7 hr7
  go_wp2_with fail
  refine (hsu _).mono ?_
  rintro e w8 ⟨rfl, h8⟩
  go_wp2_with fail
  go_ret
  exact ⟨rfl, bV h07 h8⟩

end Go.Proofs.YtmcogmmncfihhaaGreatDoor

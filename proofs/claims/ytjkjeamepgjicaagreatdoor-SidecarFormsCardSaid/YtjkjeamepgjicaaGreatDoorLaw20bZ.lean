/-
  The walk of the statement SidecarForms.
-/
import Derived.Test.YtjkjeamepgjicaaGreatDoorLaw20Z
set_option linter.unusedVariables false
set_option linter.unusedSimpArgs false
namespace Go.Proofs.YtjkjeamepgjicaaGreatDoor
open Go.RowKit Go Go.Shelf

theorem tl20 (a b : ByteArray) : (a.toList == b.toList) = decide (a = b) := by
  rw [ByteArray.toList_eq, ByteArray.toList_eq]
  by_cases h : a = b
  · rw [h, decide_eq_true rfl]; simp
  · rw [decide_eq_false h, beq_eq_false_iff_ne]
    exact fun q => h (ByteArray.ext (Array.toList_inj.1 q))

set_option maxRecDepth 100000 in
set_option maxHeartbeats 6400000 in
theorem sidecarForms_any (b : ByteArray) (v : Value) (raw : List QR) (at' : Int) (more : ByteArray) (w : World) (hE : iF w) (_hb : b.size ≤ maxLen) (hr : RdR w v (raw.map aUw)) (hwf : WfT raw) (ha1 : -9223372036854775808 ≤ at') (ha2 : at' ≤ 9223372036854775807) (_hm : more.size ≤ maxLen) :
    Calls Tryz.prog 3 #[.string b, v, .int .i64 at', .string more] w fun e w' => e = .returned (.bool true) ∧ Below w.heap.size w w' := by
  unfold maxLen at _hb _hm
  obtain ⟨m, hmi, hm1, hm2⟩ := yI b.size 60 (by decide)
  have hmi2 : min (b.size : Int) 60 = (m : Int) := by rw [← hmi, Int.min_def]; split <;> split <;> omega
  obtain ⟨n, hni, hn1, hn2⟩ := yI more.size 3 (by decide)
  have hni2 : min (more.size : Int) 3 = (n : Int) := by rw [← hni, Int.min_def]; split <;> split <;> omega
  obtain ⟨X, hX⟩ : ∃ X, X = b.extract 0 m := ⟨_, rfl⟩
  obtain ⟨Y, hY⟩ : ∃ Y, Y = more.extract 0 n := ⟨_, rfl⟩
  have hXs : X.size ≤ 100 := by rw [hX]; simp; omega
  have hYs : Y.size ≤ 100 := by rw [hY]; simp; omega
  have HX := hX.symm
  have HY := hY.symm
  clear hX hY
  -- the index, and the sidecar of it
  obtain ⟨l, hl⟩ : ∃ l, l = aUv raw := ⟨_, rfl⟩
  have hR := aX4 raw
  have hlen := aYa raw
  have hfit := idxL_fit raw
  have hidx := fun W h => aYc v raw W h hwf
  rw [← hl] at hR hlen hfit hidx
  obtain ⟨C, hC⟩ : ∃ C, C = (fG X.data.toList).toNat := ⟨_, rfl⟩
  have hCb : C < 4294967296 := by rw [hC]; exact BitVec.isLt _
  obtain ⟨S, hS⟩ : ∃ S, S = sideB X.size C l := ⟨_, rfl⟩
  have hSl : S.length = 20 + 26 * l.length := by rw [hS, sideB_length]
  have hrb := read_back (size := X.size) (sum := C) (by omega) hCb (by omega) hfit hR
  have hrc := fun k (hk : k < S.length) => read_cut (size := X.size) (sum := C) (l := l) (by omega) (by omega) (k := k) (by rw [← hS]; exact hk)
  have hrl := fun z (hz : z ≠ []) => read_long (size := X.size) (sum := C) (l := l) (by omega) (by omega) (m := z) hz
  have hsav := fun u W h => save20_ok X u l W h (by omega) (by omega) hR hfit
  rw [← hC, ← hS] at hsav
  rw [← hS] at hrb hrc hrl
  have hsu := fun W => FA X W (by omega)
  rw [← hC] at hsu
  obtain ⟨T, hT⟩ : ∃ T, T = mkS S := ⟨_, rfl⟩
  have hTs : T.size = S.length := by rw [hT, cP]
  have hTd : T.data.toList = S := by rw [hT, fW]
  have hpar := fun W => parse20_any T W (by omega)
  rw [hTd, hrb] at hpar
  rw [← hT] at hsav
  -- what is cut off
  obtain ⟨q1, q2⟩ := vU at' ((S.length + 1 : Nat) : Int) (by omega)
  have hpi := fun W => pick20_any at' ((S.length + 1 : Nat) : Int) W ha1 ha2 (by omega) (by omega)
  obtain ⟨k, hk⟩ : ∃ k : Nat, gA at' ((S.length + 1 : Nat) : Int) = (k : Int) := ⟨_, (Int.toNat_of_nonneg q1).symm⟩
  rw [hk] at hpi q2
  have hxk := nT T 0 k
  rw [hTd, List.drop_zero, Nat.sub_zero] at hxk
  obtain ⟨U, hU⟩ : ∃ U, U = mkS (S.take k) := ⟨_, rfl⟩
  have hUs : U.size ≤ 1000 := by rw [hU, cP, List.length_take]; omega
  obtain ⟨x, hx⟩ : ∃ x : Int, x = (readD (S.take k)).2.2.2 := ⟨_, rfl⟩
  have hx2 : x = if k = S.length then 0 else 2 := by
    rw [hx]
    by_cases q : k = S.length
    · rw [if_pos q, q, List.take_length, hrb]
    · rw [if_neg q]
      exact hrc k (by omega)
  have hpu := fun W => parse20_any U W (by omega)
  rw [hU, fW] at hpu
  rw [← hU] at hxk hpu
  have hpu : ∀ W, Calls Tryz.prog 7 #[.string U] W fun e w' => ∃ (a b c : Value), e = .returned (.tuple #[a, b, c, .int .i64 x]) ∧ Below W.heap.size W w' := fun W => by
    refine (hpu W).mono ?_
    rintro e w' ⟨u, rfl, -, h⟩
    exact ⟨_, _, _, by rw [hx], h⟩
  -- what is longer
  have hpm := fun W => parse20_any (T ++ Y) W (by rw [ByteArray.size_append]; omega)
  rw [ByteArray.data_append, Array.toList_append, hTd] at hpm
  obtain ⟨y, hy⟩ : ∃ y : Int, y = (readD (S ++ Y.data.toList)).2.2.2 := ⟨_, rfl⟩
  have hy2 : y = if Y = ⟨#[]⟩ then 0 else 3 := by
    rw [hy]
    by_cases q : Y = ⟨#[]⟩
    · rw [if_pos q, q]
      show (readD (S ++ [])).2.2.2 = 0
      rw [List.append_nil, hrb]
    · rw [if_neg q]
      exact hrl _ (fun h => q (ByteArray.ext (Array.toList_inj.1 h)))
  have hpm : ∀ W, Calls Tryz.prog 7 #[.string (T ++ Y)] W fun e w' => ∃ (a b c : Value), e = .returned (.tuple #[a, b, c, .int .i64 y]) ∧ Below W.heap.size W w' := fun W => by
    refine (hpm W).mono ?_
    rintro e w' ⟨u, rfl, -, h⟩
    exact ⟨_, _, _, by rw [hy], h⟩
  have hTL : T.size + 1 = S.length + 1 := by rw [hTs]
  obtain ⟨Z, hZ⟩ : ∃ Z, Z = T.size + 1 := ⟨_, rfl⟩
  rw [← hTL, ← hZ] at hpi
  have mZ' : (T.size : Int) + 1 = (Z : Int) := by omega
  have hkT : k ≤ T.size := by omega
  have hTb : T.size ≤ 1000 := by omega
  have HXX := hid (show x = if k = T.size then 0 else 2 by rw [hTs]; exact hx2)
  have HYY := hid hy2
  clear hS hSl hrb hrc hrl hT hTs hTd hk hU hx hx2 hy hy2 hTL hZ hR hfit hl q1 q2 hC hwf hlen hUs
  go_enter Tryz.func3, Tryz.ntmps3
  go_wp2_with fail
  refine (awake20_any _ hE).mono ?_
  rintro e w1 ⟨rfl, h1⟩
  have hr1 := hr.below h1
  clear hr hE
  go_wp2_with fail
  refine (hidx _ hr1).mono ?_
  rintro e w2 ⟨u, rfl, hu, h2⟩
  have h02 := bV h1 h2
  clear h1 h2 hr1 hidx
  go_wp2_with fail
  refine (hsav _ _ hu).mono ?_
  rintro e w3 ⟨rfl, h3⟩
  have h03 := bV h02 h3
  clear h02 h3 hu
  go_wp2_with fail
  refine (hpar _).mono ?_
  rintro e w4 ⟨u4, rfl, hu4, h4⟩
  have h04 := bV h03 h4
  clear h03 h4 hpar
  go_wp2_with fail
  refine (hsav _ _ hu4).mono ?_
  rintro e w5 ⟨rfl, h5⟩
  have h05 := bV h04 h5
  clear h04 h5 hsav hu4
  go_wp2_with fail
  refine (hpi _).mono ?_
  rintro e w' ⟨rfl, rfl⟩
  clear hpi
  go_wp2_with fail
  refine (hpu _).mono ?_
  rintro e w6 ⟨d1, d2, d3, rfl, h6⟩
  have h06 := bV h05 h6
  clear h05 h6 hpu
  go_wp2_with fail
  refine (hpm _).mono ?_
  rintro e w7 ⟨e1, e2, e3, rfl, h7⟩
  have h07 := bV h06 h7
  clear h06 h7 hpm
  have z1 : ((k : Int) == (T.size : Int)) = decide (k = T.size) := by
    by_cases q : k = T.size
    · rw [q, decide_eq_true rfl]; exact beq_iff_eq.2 rfl
    · rw [decide_eq_false q]; exact beq_eq_false_iff_ne.2 (by omega)
  have z2 : (Y.toList == []) = decide (Y = ⟨#[]⟩) := by
    have e0 : (⟨#[]⟩ : ByteArray).toList = [] := by rw [ByteArray.toList_eq]
    have := tl20 Y ⟨#[]⟩
    rw [← this, e0]
  have HA : Hid ((k = T.size ∧ x = 0) ∨ (¬ k = T.size ∧ x = 2)) := hid (by
    rw [HXX.out]
    by_cases q : k = T.size
    · exact .inl ⟨q, if_pos q⟩
    · exact .inr ⟨q, if_neg q⟩)
  have HB : Hid ((Y = ⟨#[]⟩ ∧ y = 0) ∨ (¬ Y = ⟨#[]⟩ ∧ y = 3)) := hid (by
    rw [HYY.out]
    by_cases q : Y = ⟨#[]⟩
    · exact .inl ⟨q, if_pos q⟩
    · exact .inr ⟨q, if_neg q⟩)
  clear HXX HYY
  obtain ⟨p1, hp1⟩ : ∃ p1 : Bool, p1 = decide (k = T.size) := ⟨_, rfl⟩
  obtain ⟨p2, hp2⟩ : ∃ p2 : Bool, p2 = decide (Y = ⟨#[]⟩) := ⟨_, rfl⟩
  rw [← hp1] at z1
  rw [← hp2] at z2
  have hA : (p1 = true ∧ x = 0) ∨ (p1 = false ∧ x = 2) := by
    rw [hp1]
    exact HA.out.imp (fun h => ⟨decide_eq_true h.1, h.2⟩) (fun h => ⟨decide_eq_false h.1, h.2⟩)
  have hB : (p2 = true ∧ y = 0) ∨ (p2 = false ∧ y = 3) := by
    rw [hp2]
    exact HB.out.imp (fun h => ⟨decide_eq_true h.1, h.2⟩) (fun h => ⟨decide_eq_false h.1, h.2⟩)
  clear hp1 hp2 HA HB
  go_wp2_with fail
  refine (hsu _).mono ?_
  rintro e w8 ⟨rfl, h8⟩
  have h08 := bV h07 h8
  clear h07 h8 hsu
  rcases hA with ⟨rfl, rfl⟩ | ⟨rfl, rfl⟩ <;> rcases hB with ⟨rfl, rfl⟩ | ⟨rfl, rfl⟩
  all_goals
    go_wp2_with fail
    go_ret
    exact ⟨rfl, h08⟩

end Go.Proofs.YtjkjeamepgjicaaGreatDoor

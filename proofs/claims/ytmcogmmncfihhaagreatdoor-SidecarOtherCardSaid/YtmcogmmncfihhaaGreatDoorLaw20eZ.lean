/-
  The walk of the statement SidecarOther.
-/
import Derived.Test.YtmcogmmncfihhaaGreatDoorLaw20Z
import Derived.Test.YtmcogmmncfihhaaGreatDoorP20hZ
import Derived.Test.YtmcogmmncfihhaaGreatDoorP20jZ
import Derived.Test.YtmcogmmncfihhaaGreatDoorM20dZ
set_option linter.unusedVariables false
set_option linter.unusedSimpArgs false
namespace Go.Proofs.YtmcogmmncfihhaaGreatDoor
open Go.RowKit Go Go.Shelf

theorem tl20e (a b : ByteArray) : (a.toList == b.toList) = decide (a = b) := by
  rw [ByteArray.toList_eq, ByteArray.toList_eq]
  by_cases h : a = b
  · rw [h, decide_eq_true rfl]; simp
  · rw [decide_eq_false h, beq_eq_false_iff_ne]
    exact fun q => h (ByteArray.ext (Array.toList_inj.1 q))
/-- Of unlike indexes, sizes, sums the sidecars are unlike. -/
theorem side_inj {n c n' c' : Nat} {l m : List Ent} (h1 : n < 9223372036854775808) (h2 : c < 4294967296) (h3 : l.length < 4294967296) (hf : ∀ x ∈ l, x.fit) (hr : aU1 l)
    (k1 : n' < 9223372036854775808) (k2 : c' < 4294967296) (k3 : m.length < 4294967296) (kf : ∀ x ∈ m, x.fit) (kr : aU1 m) (h : sideB n c l = sideB n' c' m) : l = m ∧ n = n' ∧ c = c' := by
  have e1 := read_back h1 h2 h3 hf hr
  rw [h, read_back k1 k2 k3 kf kr] at e1
  injection e1 with p1 p2
  injection p2 with p3 p4
  injection p4 with p5 _
  exact ⟨p1.symm, p3.symm, p5.symm⟩
theorem beq_zero {E : Int} {P : Prop} [Decidable P] (h : E = 0 ↔ P) : (E == 0) = decide P := by
  by_cases q : P
  · rw [decide_eq_true q, h.2 q]
    rfl
  · rw [decide_eq_false q, beq_eq_false_iff_ne]
    exact fun k => q (h.1 k)

set_option maxRecDepth 100000 in
set_option maxHeartbeats 6400000 in
theorem sidecarOther_any (s : ByteArray) (v : Value) (raw : List (Int × Int)) (n0 n1 which x : Int) (t : ByteArray) (w : World) (hE : iF w) (_hs : s.size ≤ maxLen) (hr : RdP w v raw) (hwf : WfP raw) (hl1 : -9223372036854775808 ≤ n0) (hl2 : n0 ≤ 9223372036854775807) (hm1 : -9223372036854775808 ≤ n1) (hm2 : n1 ≤ 9223372036854775807) (hw1 : -9223372036854775808 ≤ which) (hw2 : which ≤ 9223372036854775807) (hx1 : -9223372036854775808 ≤ x) (hx2 : x ≤ 9223372036854775807) (_ht : t.size ≤ maxLen) :
    Calls Tryz.prog 6 #[.string s, v, .agg #[.int .i64 n0, .int .i64 n1], .int .i64 which, .int .i64 x, .string t] w fun e w' => e = .returned (.bool true) ∧ Below w.heap.size w w' := by
  have hN := Arr.new w 40 [.int .i64 n0, .int .i64 n1]
  change Arr (w.alloc (.cells #[.int .i64 n0, .int .i64 n1] 40)) _ _ _ at hN
  have hb0 : Below w.heap.size w (w.alloc (.cells #[.int .i64 n0, .int .i64 n1] 40)) := bD (Below.refl _ _) _
  have hE0 := hE.below hb0
  have hr0 := hr.below hb0
  clear hE hr
  go_enter Tryz.func6, Tryz.ntmps6
  go_wp2_with fail
  obtain ⟨z, hz⟩ : ∃ z, z = w.heap.size := ⟨_, rfl⟩
  generalize w.alloc (.cells #[.int .i64 n0, .int .i64 n1] 40) = w0 at *
  rw [← hz] at hN ⊢
  clear hz
  refine (awake20_any _ hE0).mono ?_
  rintro e w1 ⟨rfl, h1⟩
  have hE1 := hE0.below h1
  have hr1 := hr0.below h1
  have hN1 := hN.below h1 hN.lt
  have h01 := bV hb0 h1
  have d0 := hN1.cell (i := 0) rfl
  have d1 := hN1.cell (i := 1) rfl
  clear hb0 h1 hE0 hr0 hN
  go_wp2_with fail
  refine (archive_any s v raw n0 n1 _ hr1 hwf hl1 hl2 hm1 hm2).mono ?_
  rintro e w2 ⟨a, rfl, ha, h2⟩
  have hE2 := hE1.below h2
  have hN2 := hN1.below h2 hN1.lt
  have h02 := bV h01 h2
  have p0 := hN2.cell (i := 0) rfl
  have p1 := hN2.cell (i := 1) rfl
  clear h01 h2 hE1 hr1 hwf d0 d1 hN1
  go_wp2_with fail
  refine (archive_any t (.slice none 0 0) [] n1 n0 _ ⟨none, 0, rfl, Nat.le_refl _, by simp [maxLen], fun h => absurd h (by simp)⟩ (by intro p hp; simp at hp) hm1 hm2 hl1 hl2).mono ?_
  rintro e w3 ⟨b, rfl, hb, h3⟩
  have hE3 := hE2.below h3
  have h03 := bV h02 h3
  clear h02 h3 hE2 hN2 p0 p1
  -- what the archives are
  obtain ⟨k1, k2, k3⟩ := ha.facts
  have hal : a.data.toList.length = a.size := rfl
  have hrs : aUl a.data.toList = (hH a.data.toList).1 := by unfold aUl; rw [if_pos k2]
  have hrt := own_right k2
  have hft := own_fit k2 (by omega) (by omega)
  rw [← hrs] at hrt hft
  have hll : (aUj 0 (aUl a.data.toList)).length ≤ 5 := by rw [aWd, hrs]; exact k3
  have hsc := fun W h => aX9 a W h (by omega)
  rw [k2] at hsc
  have hown : ∀ u, loadE a.data.toList u = 0 ↔ u = sideB a.data.toList.length (fG a.data.toList).toNat (aUj 0 (aUl a.data.toList)) := fun u => load_own k2 (by omega) (by omega)
  obtain ⟨J, hJ⟩ : ∃ J, J = aUj 0 (aUl a.data.toList) := ⟨_, rfl⟩
  rw [← hJ] at hrt hft hll hsc hown
  obtain ⟨k4, k5, k6⟩ := hb.facts
  have hrs2 : aUl b.data.toList = (hH b.data.toList).1 := by unfold aUl; rw [if_pos k5]
  have hrt2 := own_right k5
  have hbl : b.data.toList.length = b.size := rfl
  have hft2 := own_fit k5 (by omega) (by omega)
  rw [← hrs2] at hrt2 hft2
  have hll2 : (aUj 0 (aUl b.data.toList)).length ≤ 5 := by rw [aWd, hrs2]; exact k6
  have hsc2 := fun W h => aX9 b W h (by omega)
  rw [k5] at hsc2
  obtain ⟨M, hM⟩ : ∃ M, M = aUj 0 (aUl b.data.toList) := ⟨_, rfl⟩
  rw [← hM] at hrt2 hft2 hll2 hsc2
  obtain ⟨Ca, hCa⟩ : ∃ Ca, Ca = (fG a.data.toList).toNat := ⟨_, rfl⟩
  obtain ⟨Cb, hCb⟩ : ∃ Cb, Cb = (fG b.data.toList).toNat := ⟨_, rfl⟩
  have HCAE := hid hCa.symm
  have hCa4 : Ca < 4294967296 := by rw [hCa]; exact BitVec.isLt _
  have hCb4 : Cb < 4294967296 := by rw [hCb]; exact BitVec.isLt _
  rw [hal, ← hCa] at hown
  have hsv1 := fun u W h => save20_ok a u M W h (by omega) (by omega) hrt2 hft2
  have hsv2 := fun u W h => save20_ok b u M W h (by omega) (by omega) hrt2 hft2
  rw [← hCa] at hsv1
  rw [← hCb] at hsv2
  have key : ∀ u : List UInt8, u.length ≤ 1000 → ∀ W, iF W → Calls Tryz.prog 11 #[.string a, .string (mkS u)] W fun e w' => ∃ v, e = .returned (.tuple #[v, .int .i64 (loadE a.data.toList u)]) ∧ Below W.heap.size W w' := fun u hu W h => by
    refine (load20_any a (mkS u) W h (by rw [cP]; omega) (by omega)).mono ?_
    rintro e w' ⟨v, he, -, hb⟩
    rw [fW] at he
    exact ⟨v, he, hb⟩
  have hd2 := key (sideB a.size Ca M) (by rw [sideB_length]; omega)
  have hd3 := key (sideB b.size Cb M) (by rw [sideB_length]; omega)
  have y2 := beq_zero ((hown (sideB a.size Ca M)).trans ⟨fun h => (side_inj (by omega) hCa4 (by omega) hft2 hrt2 (by omega) hCa4 (by omega) hft hrt h).1, fun h => by rw [h]⟩)
  have y3 := beq_zero ((hown (sideB b.size Cb M)).trans (show sideB b.size Cb M = sideB a.size Ca J ↔ (mkS (sideB a.size Ca M) = mkS (sideB b.size Cb M) ∧ M = J) from
    ⟨fun h => by
      obtain ⟨q1, q2, q3⟩ := side_inj (by omega) hCb4 (by omega) hft2 hrt2 (by omega) hCa4 (by omega) hft hrt h
      exact ⟨by rw [q2, q3], q1⟩,
     fun h => by
      have h1 : (mkS (sideB a.size Ca M)).data.toList = (mkS (sideB b.size Cb M)).data.toList := by rw [h.1]
      rw [fW, fW] at h1
      rw [← h1, h.2]⟩))
  obtain ⟨E2, hE2'⟩ : ∃ E2, E2 = loadE a.data.toList (sideB a.size Ca M) := ⟨_, rfl⟩
  obtain ⟨E3, hE3'⟩ : ∃ E3, E3 = loadE a.data.toList (sideB b.size Cb M) := ⟨_, rfl⟩
  rw [← hE2'] at hd2 y2
  rw [← hE3'] at hd3 y3
  obtain ⟨V, hV⟩ : ∃ V, V = mkS (sideB a.size Ca M) := ⟨_, rfl⟩
  obtain ⟨W', hW'⟩ : ∃ W', W' = mkS (sideB b.size Cb M) := ⟨_, rfl⟩
  rw [← hV] at hsv1 hd2 y3
  rw [← hW'] at hsv2 hd3 y3
  have y4 := tl20e V W'
  obtain ⟨p2, hp2⟩ : ∃ p2 : Bool, p2 = decide (M = J) := ⟨_, rfl⟩
  obtain ⟨q, hq⟩ : ∃ q : Bool, q = decide (V = W') := ⟨_, rfl⟩
  rw [← hp2] at y2
  rw [← hq] at y4
  have y5 : (E3 == 0) = (q && p2) := by rw [y3, hq, hp2, Bool.decide_and]
  clear y3
  have hsm := fun u v W h1 h2 => same19_any u v J M W h1 h2 (by omega) (by omega)
  have e5 : decide (J = M) = p2 := by rw [hp2]; exact decide_eq_decide.2 ⟨Eq.symm, Eq.symm⟩
  rw [e5] at hsm
  have HOWN := hid hown
  have hJl : J.length ≤ 5 := hll
  have hMl : M.length ≤ 5 := hll2
  have HFT := hid hft
  have HRT := hid hrt
  have htu := fun u W h => turned19_any u J which x W h (by omega) (fit_wf HFT.out) hw1 hw2 hx1 hx2
  have HKEY := hid key
  have HA := hid (show a.size ≤ 18000 from k1)
  clear k1 k2 k3 k4 k5 k6 hal hrs hrt hft hll hown hJ hrs2 hrt2 hbl hft2 hll2 hM hCa hCb hCb4 key hE2' hE3' hV hW' hp2 hq e5 ha hb
  have HCA := hid hCa4
  clear hCa4
  go_wp2_with fail
  refine (hsc _ hE3).mono ?_
  rintro e w4 ⟨u4, rfl, hu4, h4⟩
  have hE4 := hE3.below h4
  have h04 := bV h03 h4
  clear h03 h4 hE3 hsc
  go_wp2_with fail
  refine (hsc2 _ hE4).mono ?_
  rintro e w5 ⟨u5, rfl, hu5, h5⟩
  have hE5 := hE4.below h5
  have hu45 := hu4.below h5
  have h05 := bV h04 h5
  clear h04 h5 hE4 hsc2 hu4
  go_wp2_with fail
  refine (htu _ _ hu45).mono ?_
  rintro e w6 ⟨u6, O, rfl, hu6, hOl, hOw, h6⟩
  have hE6 := hE5.below h6
  have hj6 := hu45.below h6
  have hm6 := hu5.below h6
  have h06 := bV h05 h6
  clear h05 h6 hE5 htu hu45 hu5
  by_cases hRO : aU1 O
  have hfO := right_fit20 hRO (Int.le_refl 0) (by decide) hOw
  have hsO := save20_ok a u6 O _ hu6 (by have := HA.out; omega) (by omega) hRO hfO
  have hdO := HKEY.out (sideB a.size Ca O) (by rw [sideB_length]; omega)
  have y1 := beq_zero ((HOWN.out (sideB a.size Ca O)).trans ⟨fun h => (side_inj (by have := HA.out; omega) HCA.out (by omega) hfO hRO (by have := HA.out; omega) HCA.out (by omega) HFT.out HRT.out h).1, fun h => by rw [h]⟩)
  obtain ⟨E1, hE1'⟩ : ∃ E1, E1 = loadE a.data.toList (sideB a.size Ca O) := ⟨_, rfl⟩
  have hsm1 := fun W h1 h2 => same19_any u6 u4 O J W h1 h2 (by omega) (by omega)
  obtain ⟨p1, hp1⟩ : ∃ p1 : Bool, p1 = decide (O = J) := ⟨_, rfl⟩
  rw [← hE1'] at hdO y1
  rw [← hp1] at y1 hsm1
  rw [HCAE.out] at hsO
  obtain ⟨U, hU⟩ : ∃ U, U = mkS (sideB a.size Ca O) := ⟨_, rfl⟩
  rw [← hU] at hsO hdO
  clear hE1' hp1 hU hfO hRO hOw
  go_wp2_with fail
  refine hsO.mono ?_
  rintro e w7 ⟨rfl, h7⟩
  have hE7 := hE6.below h7
  have hj7 := hj6.below h7
  have hm7 := hm6.below h7
  have hu7 := hu6.below h7
  have h07 := bV h06 h7
  clear hsO h06 h7 hE6 hj6 hm6 hu6
  go_wp2_with fail
  refine (hdO _ hE7).mono ?_
  rintro e w9 ⟨v9, rfl, h9⟩
  have hE9 := hE7.below h9
  have hj9 := hj7.below h9
  have hm9 := hm7.below h9
  have hu9 := hu7.below h9
  have h09 := bV h07 h9
  clear hdO h07 h9 hE7 hj7 hm7 hu7
  go_wp2_with fail
  refine (hsm1 _ hu9 hj9).mono ?_
  rintro e w8 ⟨rfl, h8⟩
  have hE8 := hE9.below h8
  have hj8 := hj9.below h8
  have hm8 := hm9.below h8
  have h08 := bV h09 h8
  clear hsm1 h09 h8 hE9 hj9 hm9 hu9
  go_wp2_with fail
  rotate_left
  have hsO := save20_bad a u6 O _ hu6 (by omega) hRO
  clear hRO hOw
  go_wp2_with fail
  refine hsO.mono ?_
  rintro e w8 ⟨rfl, h8⟩
  have hE8 := hE6.below h8
  have hj8 := hj6.below h8
  have hm8 := hm6.below h8
  have h08 := bV h06 h8
  clear hsO h06 h8 hE6 hj6 hm6 hu6
  go_wp2_with fail
  all_goals
    refine (hsv1 _ _ hm8).mono ?_
    rintro e w10 ⟨rfl, h10⟩
    have hE10 := hE8.below h10
    have hj10 := hj8.below h10
    have hm10 := hm8.below h10
    have h010 := bV h08 h10
    clear h08 h10 hE8 hj8 hm8
    go_wp2_with fail
    refine (hd2 _ hE10).mono ?_
    rintro e w11 ⟨v11, rfl, h11⟩
    have hE11 := hE10.below h11
    have hj11 := hj10.below h11
    have hm11 := hm10.below h11
    have h011 := bV h010 h11
    clear h010 h11 hE10 hj10 hm10
    go_wp2_with fail
    refine (hsv2 _ _ hm11).mono ?_
    rintro e w12 ⟨rfl, h12⟩
    have hE12 := hE11.below h12
    have hj12 := hj11.below h12
    have hm12 := hm11.below h12
    have h012 := bV h011 h12
    clear h011 h12 hE11 hj11 hm11
    go_wp2_with fail
    refine (hd3 _ hE12).mono ?_
    rintro e w13 ⟨v13, rfl, h13⟩
    have hj13 := hj12.below h13
    have hm13 := hm12.below h13
    have h013 := bV h012 h13
    clear h012 h13 hE12 hj12 hm12 hsv1 hsv2 hd2 hd3
    cases q <;> cases p2
    all_goals
      go_wp2_with fail
      refine (hsm _ _ _ hj13 hm13).mono ?_
      rintro e w14 ⟨rfl, h14⟩
      go_wp2_with fail
      go_ret
      exact ⟨rfl, bV h013 h14⟩

end Go.Proofs.YtmcogmmncfihhaaGreatDoor

/-
  The walk of the statement SidecarBack.
-/
import Derived.Test.YtmcogmmncfihhaaGreatDoorLaw20Z
import Derived.Test.YtmcogmmncfihhaaGreatDoorP20hZ
set_option linter.unusedVariables false
set_option linter.unusedSimpArgs false
namespace Go.Proofs.YtmcogmmncfihhaaGreatDoor
open Go.RowKit Go Go.Shelf

set_option maxRecDepth 100000 in
set_option maxHeartbeats 6400000 in
theorem sidecarBack_any (s : ByteArray) (v : Value) (raw : List (Int × Int)) (level many : Int) (v2 : Value) (ents : List QR) (odd : ByteArray) (w : World) (hE : iF w) (_hs : s.size ≤ maxLen) (hr : RdP w v raw) (hwf : WfP raw) (hl1 : -9223372036854775808 ≤ level) (hl2 : level ≤ 9223372036854775807) (hm1 : -9223372036854775808 ≤ many) (hm2 : many ≤ 9223372036854775807) (hr2 : RdR w v2 (ents.map aUw)) (hwf2 : WfT ents) (_ho : odd.size ≤ maxLen) :
    Calls Tryz.prog 3 #[.string s, v, .int .i64 level, .int .i64 many, v2, .string odd] w fun e w' => e = .returned (.bool true) ∧ Below w.heap.size w w' := by
  unfold maxLen at _hs _ho
  obtain ⟨m, hmi, hn1, hn2⟩ := yI odd.size 60 (by decide)
  have hmi2 : min (odd.size : Int) 60 = (m : Int) := by rw [← hmi, Int.min_def]; split <;> split <;> omega
  obtain ⟨X, hX⟩ : ∃ X, X = odd.extract 0 m := ⟨_, rfl⟩
  have hXs : X.size ≤ 100 := by rw [hX]; simp; omega
  have HX := hX.symm
  clear hX
  -- an index of raw numbers, and its sidecar beside some bytes
  obtain ⟨l, hl⟩ : ∃ l, l = aUv ents := ⟨_, rfl⟩
  have hR := aX4 ents
  have hlen := aYa ents
  have hfit := idxL_fit ents
  have hidx := fun W h => aYc v2 ents W h hwf2
  rw [← hl] at hR hlen hfit hidx
  obtain ⟨C, hC⟩ : ∃ C, C = (fG X.data.toList).toNat := ⟨_, rfl⟩
  have hCb : C < 4294967296 := by rw [hC]; exact BitVec.isLt _
  obtain ⟨S, hS⟩ : ∃ S, S = sideB X.size C l := ⟨_, rfl⟩
  have hSl : S.length = 20 + 26 * l.length := by rw [hS, sideB_length]
  have hrb := read_back (size := X.size) (sum := C) (by omega) hCb (by omega) hfit hR
  have hsv2 := fun u W h => save20_ok X u l W h (by omega) (by omega) hR hfit
  rw [← hC, ← hS] at hsv2
  rw [← hS] at hrb
  have hsu := fun W => FA X W (by omega)
  rw [← hC] at hsu
  obtain ⟨T, hT⟩ : ∃ T, T = mkS S := ⟨_, rfl⟩
  have hTs : T.size = 20 + 26 * l.length := by rw [hT, cP, hSl]
  have hTd : T.data.toList = S := by rw [hT, fW]
  have hpar := fun W => parse20_any T W (by omega)
  rw [hTd, hrb] at hpar
  rw [← hT] at hsv2
  have hsm2 := fun u v W h1 h2 => same19_any u v l l W h1 h2 (by omega) (by omega)
  rw [decide_eq_true rfl] at hsm2
  obtain ⟨Z, hZ⟩ : ∃ Z, Z = 26 * l.length := ⟨_, rfl⟩
  have e1 : 26 * (l.length : Int) = (Z : Int) := by omega
  have e2 : 20 + (Z : Int) = (T.size : Int) := by omega
  have hZb : Z ≤ 1000 := by omega
  have hTb : T.size ≤ 2000 := by omega
  clear hS hSl hrb hT hTs hTd hR hfit hl hC hZ hwf2
  go_enter Tryz.func3, Tryz.ntmps3
  go_wp2_with fail
  refine (awake20_any _ hE).mono ?_
  rintro e w1 ⟨rfl, h1⟩
  have hE1 := hE.below h1
  have hr1 := hr.below h1
  have hq1 := hr2.below h1
  clear hr hE hr2
  go_wp2_with fail
  refine (archive_any s v raw level many _ hr1 hwf hl1 hl2 hm1 hm2).mono ?_
  rintro e w2 ⟨a, rfl, ha, h2⟩
  have hE2 := hE1.below h2
  have hq2 := hq1.below h2
  have h02 := bV h1 h2
  clear h1 h2 hE1 hq1 hr1 hwf
  -- what the archive is
  obtain ⟨ha1, ha2, ha3⟩ := ha.facts
  have hal : a.data.toList.length = a.size := rfl
  have hrs : aUl a.data.toList = (hH a.data.toList).1 := by unfold aUl; rw [if_pos ha2]
  have hrt := own_right ha2
  have hft := own_fit ha2 (by omega) (by omega)
  have hlo := load_own (s := sideB a.data.toList.length (fG a.data.toList).toNat (aUj 0 (aUl a.data.toList))) ha2 (by omega) (by omega)
  have hlo := hlo.2 rfl
  rw [← hrs] at hrt hft
  have hll : (aUj 0 (aUl a.data.toList)).length ≤ 5 := by rw [aWd, hrs]; exact ha3
  have hsc := fun W h => aX9 a W h (by omega)
  rw [ha2] at hsc
  obtain ⟨J, hJ⟩ : ∃ J, J = aUj 0 (aUl a.data.toList) := ⟨_, rfl⟩
  have hJl : J.length ≤ 5 := by rw [hJ]; exact hll
  have hsv := fun u W h => save20_ok a u J W h (by omega) (by omega) (by rw [hJ]; exact hrt) (by rw [hJ]; exact hft)
  obtain ⟨G, hG⟩ : ∃ G, G = mkS (sideB a.size (fG a.data.toList).toNat J) := ⟨_, rfl⟩
  have hGs : G.size ≤ 1000 := by rw [hG, cP, sideB_length]; omega
  rw [← hG] at hsv
  have hld := fun W h => load20_any a G W h (by omega) (by omega)
  have hGd : G.data.toList = sideB a.data.toList.length (fG a.data.toList).toNat (aUj 0 (aUl a.data.toList)) := by rw [hG, fW, hJ]; rfl
  rw [hGd, hlo] at hld
  rw [← hJ] at hsc hld
  have hld : ∀ W, iF W → Calls Tryz.prog 11 #[.string a, .string G] W fun e w' => ∃ v, e = .returned (.tuple #[v, .int .i64 0]) ∧ RdR w' v (J.map LF) ∧ Below W.heap.size W w' := hld
  have hsm := fun u v W h1 h2 => same19_any u v J J W h1 h2 (by omega) (by omega)
  rw [decide_eq_true rfl] at hsm
  clear hal hrs hrt hft hlo hG hGd hJ ha ha2 ha3
  go_wp2_with fail
  refine (hsc _ hE2).mono ?_
  rintro e w3 ⟨u3, rfl, hu3, h3⟩
  have hE3 := hE2.below h3
  have hq3 := hq2.below h3
  have h03 := bV h02 h3
  clear h02 h3 hE2 hq2 hsc
  go_wp2_with fail
  refine (hsv _ _ hu3).mono ?_
  rintro e w4 ⟨rfl, h4⟩
  have hE4 := hE3.below h4
  have hq4 := hq3.below h4
  have hu4 := hu3.below h4
  have h04 := bV h03 h4
  clear h03 h4 hE3 hq3 hu3 hsv
  go_wp2_with fail
  refine (hld _ hE4).mono ?_
  rintro e w5 ⟨u5, rfl, hu5, h5⟩
  have hq5 := hq4.below h5
  have hv5 := hu4.below h5
  have h05 := bV h04 h5
  clear h04 h5 hE4 hq4 hu4 hld
  go_wp2_with fail
  refine (hidx _ hq5).mono ?_
  rintro e w6 ⟨u6, rfl, hu6, h6⟩
  have hm6 := hu5.below h6
  have hv6 := hv5.below h6
  have h06 := bV h05 h6
  clear h05 h6 hq5 hu5 hv5 hidx
  obtain ⟨a6, c6, rfl, hc6, hb6, -⟩ := aWp hu6
  unfold maxLen at hb6
  go_wp2_with fail
  refine (hsv2 _ _ hu6).mono ?_
  rintro e w7 ⟨rfl, h7⟩
  have hm7 := hm6.below h7
  have hv7 := hv6.below h7
  have hu7 := hu6.below h7
  have h07 := bV h06 h7
  clear h06 h7 hm6 hv6 hu6 hsv2
  go_wp2_with fail
  refine (hpar _).mono ?_
  rintro e w8 ⟨u8, rfl, hp8, h8⟩
  have hm8 := hm7.below h8
  have hv8 := hv7.below h8
  have hu8 := hu7.below h8
  have h08 := bV h07 h8
  clear h07 h8 hm7 hv7 hu7 hpar
  go_wp2_with fail
  refine (hsm _ _ _ hm8 hv8).mono ?_
  rintro e w9 ⟨rfl, h9⟩
  have hu9 := hu8.below h9
  have hp9 := hp8.below h9
  have h09 := bV h08 h9
  clear h08 h9 hm8 hv8 hu8 hp8 hsm
  go_wp2_with fail
  refine (hsm2 _ _ _ hp9 hu9).mono ?_
  rintro e w10 ⟨rfl, h10⟩
  have h010 := bV h09 h10
  clear h09 h10 hu9 hp9 hsm2
  go_wp2_with fail
  refine (hsu _).mono ?_
  rintro e w11 ⟨rfl, h11⟩
  have h011 := bV h010 h11
  go_wp2_with fail
  go_ret
  exact ⟨rfl, h011⟩

end Go.Proofs.YtmcogmmncfihhaaGreatDoor

/-
  The walk of the statement SidecarOne.
-/
import Derived.Test.YtmcogmmncfihhaaGreatDoorLaw20Z
import Derived.Test.YtmcogmmncfihhaaGreatDoorP20hZ
import Derived.Test.YtmcogmmncfihhaaGreatDoorM20dZ
set_option linter.unusedVariables false
set_option linter.unusedSimpArgs false
namespace Go.Proofs.YtmcogmmncfihhaaGreatDoor
open Go.RowKit Go Go.Shelf

theorem mkS_join (x y : List UInt8) : mkS x ++ mkS y = mkS (x ++ y) := ByteArray.ext (Array.toList_inj.1 (by rw [ByteArray.data_append, Array.toList_append, fW, fW, fW]))
theorem kpA20 {w1 w0 : World} {B : Nat} (h : iF w1 ∧ Below B w0 w1 ∧ B ≤ w1.heap.size) (o : Obj) : iF (w1.alloc o).drew ∧ Below B w0 (w1.alloc o).drew ∧ B ≤ (w1.alloc o).drew.heap.size :=
  ⟨h.1.below (bD (Below.refl _ w1) o).drew, (h.2.1.alloc h.2.2 o).drew, Nat.le_trans h.2.2 (by show _ ≤ (w1.alloc o).heap.size; simp)⟩
theorem kpS20 {w1 w2 w0 : World} {B : Nat} (h : iF w1 ∧ Below B w0 w1 ∧ B ≤ w1.heap.size) (hb : Below w1.heap.size w1 w2) : iF w2 ∧ Below B w0 w2 ∧ B ≤ w2.heap.size := ⟨h.1.below hb, h.2.1.trans (hb.mono h.2.2), Nat.le_trans h.2.2 hb.size⟩

set_option maxRecDepth 100000 in
set_option maxHeartbeats 6400000 in
theorem sidecarOne_any (s : ByteArray) (v : Value) (raw : List (Int × Int)) (n0 n1 at' c : Int) (w : World) (hE : iF w) (_hs : s.size ≤ maxLen) (hr : RdP w v raw) (hwf : WfP raw) (hl1 : -9223372036854775808 ≤ n0) (hl2 : n0 ≤ 9223372036854775807) (hm1 : -9223372036854775808 ≤ n1) (hm2 : n1 ≤ 9223372036854775807) (ha1 : -9223372036854775808 ≤ at') (ha2 : at' ≤ 9223372036854775807) (hc1 : 0 ≤ c) (hc2 : c ≤ 255) :
    Calls Tryz.prog 5 #[.string s, v, .agg #[.int .i64 n0, .int .i64 n1], .int .i64 at', .int .u8 c] w fun e w' => e = .returned (.bool true) ∧ Below w.heap.size w w' := by
  unfold maxLen at _hs
  have hN := Arr.new w 40 [.int .i64 n0, .int .i64 n1]
  change Arr (w.alloc (.cells #[.int .i64 n0, .int .i64 n1] 40)) _ _ _ at hN
  have hb0 : Below w.heap.size w (w.alloc (.cells #[.int .i64 n0, .int .i64 n1] 40)) := bD (Below.refl _ _) _
  have hE0 := hE.below hb0
  have hr0 := hr.below hb0
  clear hE hr
  go_enter Tryz.func5, Tryz.ntmps5
  go_wp2_with fail
  obtain ⟨z, hz⟩ : ∃ z, z = w.heap.size := ⟨_, rfl⟩
  generalize w.alloc (.cells #[.int .i64 n0, .int .i64 n1] 40) = w0 at *
  rw [← hz] at hN ⊢
  have HZ := hid hz
  clear hz
  refine (awake20_any _ hE0).mono ?_
  rintro e w1 ⟨rfl, h1⟩
  have hE1 := hE0.below h1
  have hr1 := hr0.below h1
  have hN1 := hN.below h1 hN.lt
  have h01 := bV hb0 h1
  have d0 := hN1.cell (i := 0) rfl
  have d1 := hN1.cell (i := 1) rfl
  clear hb0 h1 hE0 hr0 hN
  go_wp2_with fail
  refine (archive_any s v raw n0 n1 _ hr1 hwf hl1 hl2 hm1 hm2).mono ?_
  rintro e w2 ⟨a, rfl, ha, h2⟩
  have hE2 := hE1.below h2
  have h02 := bV h01 h2
  clear h01 h2 hE1 hr1 hwf d0 d1 hN1
  -- what the archive is
  obtain ⟨k1, k2, k3⟩ := ha.facts
  have hal : a.data.toList.length = a.size := rfl
  have hrs : aUl a.data.toList = (hH a.data.toList).1 := by unfold aUl; rw [if_pos k2]
  have hrt := own_right k2
  have hft := own_fit k2 (by omega) (by omega)
  rw [← hrs] at hrt hft
  have hll : (aUj 0 (aUl a.data.toList)).length ≤ 5 := by rw [aWd, hrs]; exact k3
  have hsc := fun W h => aX9 a W h (by omega)
  rw [k2] at hsc
  obtain ⟨J, hJ⟩ : ∃ J, J = aUj 0 (aUl a.data.toList) := ⟨_, rfl⟩
  have hJl5 : J.length ≤ 5 := by rw [hJ]; exact hll
  have hsv := fun u W h => save20_ok a u J W h (by omega) (by omega) (by rw [hJ]; exact hrt) (by rw [hJ]; exact hft)
  obtain ⟨S, hS⟩ : ∃ S, S = sideB a.size (fG a.data.toList).toNat J := ⟨_, rfl⟩
  have hSl : S.length = 20 + 26 * J.length := by rw [hS, sideB_length]
  have hJl : J.length = (hH a.data.toList).1.length := by rw [hJ, aWd, hrs]
  obtain ⟨G, hG⟩ : ∃ G, G = mkS S := ⟨_, rfl⟩
  have hGs : G.size = S.length := by rw [hG, cP]
  have hGd : G.data.toList = S := by rw [hG, fW]
  rw [← hS, ← hG] at hsv
  rw [← hJ] at hsc
  -- the byte
  obtain ⟨q1, q2⟩ := vU at' (G.size : Int) (by omega)
  have hpi := fun W => pick20_any at' (G.size : Int) W ha1 ha2 (by omega) (by omega)
  obtain ⟨k, hk⟩ : ∃ k : Nat, gA at' (G.size : Int) = (k : Int) := ⟨_, (Int.toNat_of_nonneg q1).symm⟩
  rw [hk] at hpi q2
  have hkS : k < S.length := by omega
  have hkG : k < G.size := by omega
  have hkle : k ≤ G.size := by omega
  obtain ⟨cb, hcb⟩ : ∃ cb : UInt8, ((cb.toNat : Nat) : Int) = c := ⟨UInt8.ofNat c.toNat, by rw [UInt8.toNat_ofNat']; omega⟩
  obtain ⟨b, hb⟩ : ∃ b, S[k]? = some b := ⟨_, List.getElem?_eq_getElem hkS⟩
  have hGk : G[k].toNat = b.toNat := by
    have e1 : G.data.toList[k]? = some G[k] := by
      rw [List.getElem?_eq_getElem (by show k < G.data.toList.length; rw [hGd]; exact hkS)]
      rfl
    rw [hGd, hb] at e1
    rw [Option.some.inj e1]
  have hsw := swap_iff (c := cb) hb
  have hex1 := nT G 0 k
  have hex2 := nT G (k + 1) G.size
  have hex3 := nT G k G.size
  rw [hGd, List.drop_zero, Nat.sub_zero] at hex1
  rw [hGd, List.take_of_length_le (by rw [List.length_drop]; omega)] at hex2 hex3
  -- what is loaded
  have key : ∀ u : List UInt8, u.length ≤ 1000 → ∀ W, iF W → Calls Tryz.prog 11 #[.string a, .string (mkS u)] W fun e w' => ∃ v, e = .returned (.tuple #[v, .int .i64 (loadE a.data.toList u)]) ∧ Below W.heap.size W w' := fun u hu W h => by
    refine (load20_any a (mkS u) W h (by rw [cP]; omega) (by omega)).mono ?_
    rintro e w' ⟨v, he, -, hb⟩
    rw [fW] at he
    exact ⟨v, he, hb⟩
  have l1 : (S.take k).length = k := by rw [List.length_take]; omega
  have l2 : (S.drop (k + 1)).length = S.length - (k + 1) := List.length_drop ..
  have l3 : (S.drop k).length = S.length - k := List.length_drop ..
  have hd1 := key (S.take k ++ [cb] ++ S.drop (k + 1)) (by simp only [List.length_append, l1, l2, List.length_singleton]; omega)
  have hd2 := key (S.take k ++ S.drop (k + 1)) (by simp only [List.length_append, l1, l2]; omega)
  have hd3 := key (S.take k ++ [cb] ++ S.drop k) (by simp only [List.length_append, l1, l3, List.length_singleton]; omega)
  have hd4 : ∀ W, iF W → Calls Tryz.prog 11 #[.string (a ++ a), .string G] W fun e w' => ∃ v, e = .returned (.tuple #[v, .int .i64 7]) ∧ Below W.heap.size W w' := fun W h => by
    refine (load20_any (a ++ a) G W h (by omega) (by rw [ByteArray.size_append]; omega)).mono ?_
    rintro e w' ⟨v, he, -, hb⟩
    have e7 := load_twice (a := a.data.toList) (l := J) (arc_some k2) (by omega) (by omega) (by rw [hJ]; exact hft) (by rw [hJ]; exact hrt)
    rw [ByteArray.data_append, Array.toList_append, hGd, hS] at he
    rw [hal] at e7
    rw [e7] at he
    exact ⟨v, he, hb⟩
  obtain ⟨E1, hE1⟩ : ∃ E1, E1 = loadE a.data.toList (S.take k ++ [cb] ++ S.drop (k + 1)) := ⟨_, rfl⟩
  obtain ⟨E2, hE2'⟩ : ∃ E2, E2 = loadE a.data.toList (S.take k ++ S.drop (k + 1)) := ⟨_, rfl⟩
  obtain ⟨E3, hE3⟩ : ∃ E3, E3 = loadE a.data.toList (S.take k ++ [cb] ++ S.drop k) := ⟨_, rfl⟩
  have x2 : E2 ≠ 0 := by
    rw [hE2']
    exact load_len k2 (by omega) (by omega) (by simp only [List.length_append, l1, l2]; omega)
  have x3 : E3 ≠ 0 := by
    rw [hE3]
    exact load_len k2 (by omega) (by omega) (by simp only [List.length_append, l1, l3, List.length_singleton]; omega)
  have x1 : E1 = 0 ↔ b = cb := by
    rw [hE1, load_own k2 (by omega) (by omega), hal, ← hJ, ← hS]
    exact hsw
  rw [← hE1] at hd1
  rw [← hE2'] at hd2
  rw [← hE3] at hd3
  obtain ⟨P, hP⟩ : ∃ P, P = mkS (S.take k) := ⟨_, rfl⟩
  obtain ⟨Q, hQ⟩ : ∃ Q, Q = mkS [cb] := ⟨_, rfl⟩
  obtain ⟨P1, hP1⟩ : ∃ P1, P1 = P ++ Q := ⟨_, rfl⟩
  obtain ⟨R2, hR2⟩ : ∃ R2, R2 = mkS (S.drop (k + 1)) := ⟨_, rfl⟩
  obtain ⟨R3, hR3⟩ : ∃ R3, R3 = mkS (S.drop k) := ⟨_, rfl⟩
  obtain ⟨U1, hU1⟩ : ∃ U1, U1 = P1 ++ R2 := ⟨_, rfl⟩
  obtain ⟨U2, hU2⟩ : ∃ U2, U2 = P ++ R2 := ⟨_, rfl⟩
  obtain ⟨U3, hU3⟩ : ∃ U3, U3 = P1 ++ R3 := ⟨_, rfl⟩
  have y1 : mkS (S.take k ++ [cb] ++ S.drop (k + 1)) = U1 := by rw [hU1, hP1, hP, hQ, hR2, mkS_join, mkS_join]
  have y2 : mkS (S.take k ++ S.drop (k + 1)) = U2 := by rw [hU2, hP, hR2, mkS_join]
  have y3 : mkS (S.take k ++ [cb] ++ S.drop k) = U3 := by rw [hU3, hP1, hP, hQ, hR3, mkS_join, mkS_join]
  rw [y1] at hd1
  rw [y2] at hd2
  rw [y3] at hd3
  have s1 : P.size = k := by rw [hP, cP, l1]
  have s2 : Q.size = 1 := by rw [hQ, cP]; rfl
  have s3 : P1.size = k + 1 := by rw [hP1, ByteArray.size_append, s1, s2]
  have s4 : R2.size ≤ 1000 := by rw [hR2, cP, l2]; omega
  have s5 : R3.size ≤ 1000 := by rw [hR3, cP, l3]; omega
  rw [← hP] at hex1
  rw [← hR2] at hex2
  rw [← hR3] at hex3
  have hU1' := hU1.symm
  have hU2' := hU2.symm
  have hU3' := hU3.symm
  have hP1' := hP1.symm
  have HQ := hid hQ
  have hG20 : 20 ≤ G.size ∧ G.size ≤ 1000 := by omega
  have z1 : ((b.toNat : Int) == c) = (E1 == 0) := by
    by_cases q : b = cb
    · rw [x1.2 q, q, hcb]
      simp
    · have e1 : ((b.toNat : Int) == c) = false := beq_eq_false_iff_ne.2 (fun h => q (UInt8.toNat_inj.1 (by omega)))
      have e2 : (E1 == 0) = false := beq_eq_false_iff_ne.2 (fun h => q (x1.1 h))
      rw [e1, e2]
  obtain ⟨p, hp⟩ : ∃ p : Bool, p = (E1 == 0) := ⟨_, rfl⟩
  rw [← hp] at z1
  have z0 := hp.symm
  have z2 : (E2 != 0) = true := bne_iff_ne.2 x2
  have z3 : (E3 != 0) = true := bne_iff_ne.2 x3
  obtain ⟨K, hK⟩ : ∃ K, K = k + 1 := ⟨_, rfl⟩
  have hK' : (k : Int) + 1 = (K : Int) := by omega
  have hKb : K ≤ G.size := by omega
  have hKw := aU4 K (by omega)
  have n1' : ¬ 9223372036854775807 < k + 1 := by omega
  have n2' : ¬ 9223372036854775807 < k + 1 + R2.size := by omega
  have n3' : ¬ 9223372036854775807 < k + R2.size := by omega
  have n4' : ¬ 9223372036854775807 < k + 1 + R3.size := by omega
  have n5' : ¬ 9223372036854775807 < a.size + a.size := by omega
  rw [← hK] at hex2
  obtain ⟨B, hBb⟩ : ∃ B, B = b.toNat := ⟨_, rfl⟩
  have hBy : (G[k].toNat : Int) = (B : Int) := by rw [hGk, hBb]
  rw [← hBb] at z1
  have has : (a ++ a).size ≤ 40000 := by rw [ByteArray.size_append]; omega
  have hal2 := k1
  clear hal hrs hrt hft hJ hS hSl hJl hG hGs hGd hk hkS hb hGk hsw key l1 l2 l3 hE1 hE2' hE3 x1 x2 x3 y1 y2 y3 hP hQ hP1 hR2 hR3 hU1 hU2 hU3 hp hK hBb k1 k2 k3 ha q1 q2
  go_wp2_with fail
  refine (hsc _ hE2).mono ?_
  rintro e w3 ⟨u3, rfl, hu3, h3⟩
  have hE3 := hE2.below h3
  have h03 := bV h02 h3
  clear h02 h3 hE2 hsc
  go_wp2_with fail
  refine (hsv _ _ hu3).mono ?_
  rintro e w4 ⟨rfl, h4⟩
  have hE4 := hE3.below h4
  have h04 := bV h03 h4
  clear h03 h4 hE3 hu3 hsv
  go_wp2_with fail
  refine (hpi _).mono ?_
  rintro e w' ⟨rfl, rfl⟩
  clear hpi
  go_wp2_with fail
  have hrc : RdB (w4.alloc (.cells #[.int .u8 c] 5)) (.slice (some ⟨w4.heap.size, 0, none⟩) 1 1) [cb] := by
    rw [← hcb]
    exact Arr.rdB (Arr.new w4 5 [.int .u8 (cb.toNat : Int)]) rfl (by decide)
  have hcv : (convert 47 9 (.slice (some ⟨w4.heap.size, 0, none⟩) 1 1)).run Tryz.prog (w4.alloc (.cells #[.int .u8 c] 5)).drew = .ok (.string Q) (w4.alloc (.cells #[.int .u8 c] 5)).drew := by
    rw [HQ.out]
    exact lQ (w := (w4.alloc (.cells #[.int .u8 c] 5)).drew) hrc
  have hS0 : iF w4.drew ∧ Below w.heap.size w w4.drew ∧ w.heap.size ≤ w4.drew.heap.size := ⟨hE4, h04.drew, h04.size⟩
  have hS1 := kpA20 ⟨hE4, h04, h04.size⟩ (.cells #[.int .u8 c] 5)
  refine wp_region_held_drew (S := fun wx => iF wx ∧ Below w.heap.size w wx ∧ w.heap.size ≤ wx.heap.size) (by kernel_rfl) hS0 (fun hHeld => ?_)
  refine wpAnyH_take (i := 0) (oi := ?oia0) (v := ?va0) ?hia0 (by kernel_rfl) (by kernel_rfl) (by kernel_rfl) ?hqa0 ?hya0 hHeld ?_
  case hia0 => (simp only [List.getElem?_toArray, List.getElem?_cons_zero]; rfl)
  case hqa0 => exact fun _ _ _ h => h
  case hya0 => (refine Or.inl ⟨by rfl, ?_⟩; intro w' hSw; (try dsimp only at hSw); (try go_simp); try with_reducible rfl)
  try simp only [Act.put, List.setIfInBounds_toArray, List.set_cons_zero, List.set_cons_succ]
  refine wpAnyH_take (i := 1) (oi := ?oia1) (v := ?va1) ?hia1 (by kernel_rfl) (by kernel_rfl) (by kernel_rfl) ?hqa1 ?hya1 hHeld ?_
  case hia1 => (simp only [List.getElem?_toArray, List.getElem?_cons_succ, List.getElem?_cons_zero]; rfl)
  case hqa1 => exact fun _ _ _ h => h
  case hya1 => (refine Or.inl ⟨by rfl, ?_⟩; intro w' hSw; (try dsimp only at hSw); (try go_simp); try with_reducible rfl)
  try simp only [Act.put, List.setIfInBounds_toArray, List.set_cons_zero, List.set_cons_succ]
  refine wpAnyH_take (i := 2) (oi := ?oia2) (v := ?va2) ?hia2 (by kernel_rfl) (by kernel_rfl) (by kernel_rfl) ?hqa2 ?hya2 hHeld ?_
  case hia2 => (simp only [List.getElem?_toArray, List.getElem?_cons_succ, List.getElem?_cons_zero]; rfl)
  case hqa2 => exact fun _ _ _ h => h
  case hya2 => (refine Or.inl ⟨by rfl, ?_⟩; intro w' hSw; (try dsimp only at hSw); (try go_simp); try with_reducible rfl)
  try simp only [Act.put, List.setIfInBounds_toArray, List.set_cons_zero, List.set_cons_succ]
  refine wpAnyH_take (i := 3) (oi := ?oia3) (v := ?va3) ?hia3 (by kernel_rfl) (by kernel_rfl) (by kernel_rfl) ?hqa3 ?hya3 hHeld ?_
  case hia3 => (simp only [List.getElem?_toArray, List.getElem?_cons_succ, List.getElem?_cons_zero]; rfl)
  case hqa3 => exact fun _ _ _ h => h
  case hya3 => (refine Or.inl ⟨by rfl, ?_⟩; intro w' hSw; (try dsimp only at hSw); (try go_simp); try with_reducible rfl)
  try simp only [Act.put, List.setIfInBounds_toArray, List.set_cons_zero, List.set_cons_succ]
  refine wpAnyH_take (i := 4) (oi := ?oia4) (v := ?va4) ?hia4 (by kernel_rfl) (by kernel_rfl) (by kernel_rfl) ?hqa4 ?hya4 hHeld ?_
  case hia4 => (simp only [List.getElem?_toArray, List.getElem?_cons_succ, List.getElem?_cons_zero]; rfl)
  case hqa4 => exact fun _ _ _ h => h
  case hya4 => (refine Or.inl ⟨by rfl, ?_⟩; intro w' hSw; (try dsimp only at hSw); (try go_simp); try with_reducible rfl)
  try simp only [Act.put, List.setIfInBounds_toArray, List.set_cons_zero, List.set_cons_succ]
  refine wpAnyH_take (i := 8) (oi := ?oia8) (v := ?va8) ?hia8 (by kernel_rfl) (by kernel_rfl) (by kernel_rfl) ?hqa8 ?hya8 hHeld ?_
  case hia8 => (simp only [List.getElem?_toArray, List.getElem?_cons_succ, List.getElem?_cons_zero]; rfl)
  case hqa8 => exact fun _ _ _ h => h
  case hya8 => (refine Or.inl ⟨by rfl, ?_⟩; intro w' hSw; (try dsimp only at hSw); (try go_simp); try with_reducible rfl)
  try simp only [Act.put, List.setIfInBounds_toArray, List.set_cons_zero, List.set_cons_succ]
  refine wpAnyH_take (i := 9) (oi := ?oia9) (v := ?va9) ?hia9 (by kernel_rfl) (by kernel_rfl) (by kernel_rfl) ?hqa9 ?hya9 hHeld ?_
  case hia9 => (simp only [List.getElem?_toArray, List.getElem?_cons_succ, List.getElem?_cons_zero]; rfl)
  case hqa9 => exact fun _ _ _ h => h
  case hya9 => (refine Or.inl ⟨by rfl, ?_⟩; intro w' hSw; (try dsimp only at hSw); (try go_simp); try with_reducible rfl)
  try simp only [Act.put, List.setIfInBounds_toArray, List.set_cons_zero, List.set_cons_succ]
  refine wpAnyH_take (i := 10) (oi := ?oia10) (v := ?va10) ?hia10 (by kernel_rfl) (by kernel_rfl) (by kernel_rfl) ?hqa10 ?hya10 hHeld ?_
  case hia10 => (simp only [List.getElem?_toArray, List.getElem?_cons_succ, List.getElem?_cons_zero]; rfl)
  case hqa10 => exact fun _ _ _ h => h
  case hya10 => (refine Or.inl ⟨by rfl, ?_⟩; intro w' hSw; (try dsimp only at hSw); (try go_simp); try with_reducible rfl)
  try simp only [Act.put, List.setIfInBounds_toArray, List.set_cons_zero, List.set_cons_succ]
  refine wpAnyH_take (i := 11) (oi := ?oia11) (v := ?va11) ?hia11 (by kernel_rfl) (by kernel_rfl) (by kernel_rfl) ?hqa11 ?hya11 hHeld ?_
  case hia11 => (simp only [List.getElem?_toArray, List.getElem?_cons_succ, List.getElem?_cons_zero]; rfl)
  case hqa11 => exact fun _ _ _ h => h
  case hya11 => (refine Or.inl ⟨by rfl, ?_⟩; intro w' hSw; (try dsimp only at hSw); (try go_simp); try with_reducible rfl)
  try simp only [Act.put, List.setIfInBounds_toArray, List.set_cons_zero, List.set_cons_succ]
  refine wpAnyH_ready (rs := [5]) (by kernel_rfl) (by simp) ?_
  refine AllReadyH.cons rfl (fun K hK => ?_) AllReadyH.nil
  go_simp
  refine hK.out _ _ hS1 (fun _ => ?_)
  try simp only [Act.put, List.setIfInBounds_toArray, List.set_cons_zero, List.set_cons_succ]
  clear hK K
  refine wpAnyH_ready (rs := [6]) (by kernel_rfl) (by simp) ?_
  refine AllReadyH.cons rfl (fun K hK => ?_) AllReadyH.nil
  go_simp
  refine hK.out _ _ hS1 (fun _ => ?_)
  try simp only [Act.put, List.setIfInBounds_toArray, List.set_cons_zero, List.set_cons_succ]
  clear hK K
  refine wpAnyH_take (i := 7) (oi := ?oia7) (v := ?va7) ?hia7 (by kernel_rfl) (by kernel_rfl) (by kernel_rfl) ?hqa7 ?hya7 hS1 ?_
  case hia7 => (simp only [List.getElem?_toArray, List.getElem?_cons_succ, List.getElem?_cons_zero]; rfl)
  case hqa7 => exact fun _ _ _ h => h
  case hya7 => (refine Or.inl ⟨by rfl, ?_⟩; intro w' hSw; (try dsimp only at hSw); (try go_simp); try with_reducible rfl)
  try simp only [Act.put, List.setIfInBounds_toArray, List.set_cons_zero, List.set_cons_succ]
  refine wpAnyH_take (i := 12) (oi := ?oia12) (v := ?va12) ?hia12 (by kernel_rfl) (by kernel_rfl) (by kernel_rfl) ?hqa12 ?hya12 hS1 ?_
  case hia12 => (simp only [List.getElem?_toArray, List.getElem?_cons_succ, List.getElem?_cons_zero]; rfl)
  case hqa12 => exact fun _ _ _ h => h
  case hya12 => (refine Or.inl ⟨by rfl, ?_⟩; intro w' hSw; (try dsimp only at hSw); (try go_simp); try with_reducible rfl)
  try simp only [Act.put, List.setIfInBounds_toArray, List.set_cons_zero, List.set_cons_succ]
  refine wpAnyH_ready (rs := [13]) (by kernel_rfl) (by simp) ?_
  refine AllReadyH.cons rfl (fun K hK => ?_) AllReadyH.nil
  go_simp
  refine (hd1 _ hS1.1).mono ?_
  rintro e w6 ⟨v6, rfl, hb6⟩
  have hS6 := kpS20 hS1 hb6
  (try go_wp2_with fail)
  refine hK.out _ _ hS6 (fun _ => ?_)
  try simp only [Act.put, List.setIfInBounds_toArray, List.set_cons_zero, List.set_cons_succ]
  clear hK K
  refine wpAnyH_ready (rs := [14]) (by kernel_rfl) (by simp) ?_
  refine AllReadyH.cons rfl (fun K hK => ?_) AllReadyH.nil
  go_simp
  refine hK.out _ _ hS6 (fun _ => ?_)
  try simp only [Act.put, List.setIfInBounds_toArray, List.set_cons_zero, List.set_cons_succ]
  clear hK K
  refine wpAnyH_take (i := 15) (oi := ?oia15) (v := ?va15) ?hia15 (by kernel_rfl) (by kernel_rfl) (by kernel_rfl) ?hqa15 ?hya15 hS6 ?_
  case hia15 => (simp only [List.getElem?_toArray, List.getElem?_cons_succ, List.getElem?_cons_zero]; rfl)
  case hqa15 => exact fun _ _ _ h => h
  case hya15 => (refine Or.inl ⟨by rfl, ?_⟩; intro w' hSw; (try dsimp only at hSw); (try go_simp); try with_reducible rfl)
  try simp only [Act.put, List.setIfInBounds_toArray, List.set_cons_zero, List.set_cons_succ]
  refine wpAnyH_take (i := 16) (oi := ?oia16) (v := ?va16) ?hia16 (by kernel_rfl) (by kernel_rfl) (by kernel_rfl) ?hqa16 ?hya16 hS6 ?_
  case hia16 => (simp only [List.getElem?_toArray, List.getElem?_cons_succ, List.getElem?_cons_zero]; rfl)
  case hqa16 => exact fun _ _ _ h => h
  case hya16 => (refine Or.inl ⟨by rfl, ?_⟩; intro w' hSw; (try dsimp only at hSw); (try go_simp); try with_reducible rfl)
  try simp only [Act.put, List.setIfInBounds_toArray, List.set_cons_zero, List.set_cons_succ]
  refine wpAnyH_ready (rs := [17]) (by kernel_rfl) (by simp) ?_
  refine AllReadyH.cons rfl (fun K hK => ?_) AllReadyH.nil
  go_simp
  refine hK.out _ _ hS6 (fun _ => ?_)
  try simp only [Act.put, List.setIfInBounds_toArray, List.set_cons_zero, List.set_cons_succ]
  clear hK K
  refine wpAnyH_ready (rs := [18]) (by kernel_rfl) (by simp) ?_
  refine AllReadyH.cons rfl (fun K hK => ?_) AllReadyH.nil
  go_simp
  refine hK.out _ _ hS6 (fun _ => ?_)
  try simp only [Act.put, List.setIfInBounds_toArray, List.set_cons_zero, List.set_cons_succ]
  clear hK K
  refine wpAnyH_done (by kernel_rfl) ?_ _
  clear hrc hcv hS0 hS1 hHeld hb6 hd1 hE4 h04
  have hd2' : ∀ W, (iF W ∧ Below w.heap.size w W ∧ w.heap.size ≤ W.heap.size) → Calls Tryz.prog 11 #[.string a, .string U2] W fun e w' => ∃ v, e = .returned (.tuple #[v, .int .i64 E2]) ∧ Below W.heap.size W w' := fun W h => hd2 W h.1
  have hS9 : iF w6.drew ∧ Below w.heap.size w w6.drew ∧ w.heap.size ≤ w6.drew.heap.size := ⟨hS6.1, hS6.2.1.drew, hS6.2.2⟩
  go_wp2_with fail
  go_cut [20, 21] (fun _c20 c21 wx => c21 = .int .i64 E2 ∧ iF wx ∧ Below w.heap.size w wx ∧ w.heap.size ≤ wx.heap.size)
  case first =>
    go_region_held3 (fun wx => iF wx ∧ Below w.heap.size w wx ∧ w.heap.size ≤ wx.heap.size)
      (first
        | with_reducible assumption
        | with_reducible exact kpS20 (by assumption) (by assumption))
      (first
        | (go_at_call 11; with_reducible refine (hd2' _ (by assumption)).mono ?_; rintro e w7 ⟨v7, rfl, h7⟩))
    all_goals
      go_wp2_with fail
      go_meet
      exact ⟨rfl, by assumption⟩
  case rest =>
  obtain ⟨rfl, hSc⟩ := hcut
  clear hS6 hS9 hd2 hd2'
  go_wp2_with fail
  have hrc : RdB (wc.alloc (.cells #[.int .u8 c] 5)) (.slice (some ⟨wc.heap.size, 0, none⟩) 1 1) [cb] := by
    rw [← hcb]
    exact Arr.rdB (Arr.new wc 5 [.int .u8 (cb.toNat : Int)]) rfl (by decide)
  have hcv : (convert 47 9 (.slice (some ⟨wc.heap.size, 0, none⟩) 1 1)).run Tryz.prog (wc.alloc (.cells #[.int .u8 c] 5)).drew = .ok (.string Q) (wc.alloc (.cells #[.int .u8 c] 5)).drew := by
    rw [HQ.out]
    exact lQ (w := (wc.alloc (.cells #[.int .u8 c] 5)).drew) hrc
  have hS0 : iF wc.drew ∧ Below w.heap.size w wc.drew ∧ w.heap.size ≤ wc.drew.heap.size := ⟨hSc.1, hSc.2.1.drew, hSc.2.2⟩
  have hS1 := kpA20 hSc (.cells #[.int .u8 c] 5)
  refine wp_region_held_drew (S := fun wx => iF wx ∧ Below w.heap.size w wx ∧ w.heap.size ≤ wx.heap.size) (by kernel_rfl) hS0 (fun hHeld => ?_)
  refine wpAnyH_take (i := 0) (oi := ?oic0) (v := ?vc0) ?hic0 (by kernel_rfl) (by kernel_rfl) (by kernel_rfl) ?hqc0 ?hyc0 hHeld ?_
  case hic0 => (simp only [List.getElem?_toArray, List.getElem?_cons_zero]; rfl)
  case hqc0 => exact fun _ _ _ h => h
  case hyc0 => (refine Or.inl ⟨by rfl, ?_⟩; intro w' hSw; (try dsimp only at hSw); (try go_simp); try with_reducible rfl)
  try simp only [Act.put, List.setIfInBounds_toArray, List.set_cons_zero, List.set_cons_succ]
  refine wpAnyH_take (i := 1) (oi := ?oic1) (v := ?vc1) ?hic1 (by kernel_rfl) (by kernel_rfl) (by kernel_rfl) ?hqc1 ?hyc1 hHeld ?_
  case hic1 => (simp only [List.getElem?_toArray, List.getElem?_cons_succ, List.getElem?_cons_zero]; rfl)
  case hqc1 => exact fun _ _ _ h => h
  case hyc1 => (refine Or.inl ⟨by rfl, ?_⟩; intro w' hSw; (try dsimp only at hSw); (try go_simp); try with_reducible rfl)
  try simp only [Act.put, List.setIfInBounds_toArray, List.set_cons_zero, List.set_cons_succ]
  refine wpAnyH_take (i := 2) (oi := ?oic2) (v := ?vc2) ?hic2 (by kernel_rfl) (by kernel_rfl) (by kernel_rfl) ?hqc2 ?hyc2 hHeld ?_
  case hic2 => (simp only [List.getElem?_toArray, List.getElem?_cons_succ, List.getElem?_cons_zero]; rfl)
  case hqc2 => exact fun _ _ _ h => h
  case hyc2 => (refine Or.inl ⟨by rfl, ?_⟩; intro w' hSw; (try dsimp only at hSw); (try go_simp); try with_reducible rfl)
  try simp only [Act.put, List.setIfInBounds_toArray, List.set_cons_zero, List.set_cons_succ]
  refine wpAnyH_take (i := 3) (oi := ?oic3) (v := ?vc3) ?hic3 (by kernel_rfl) (by kernel_rfl) (by kernel_rfl) ?hqc3 ?hyc3 hHeld ?_
  case hic3 => (simp only [List.getElem?_toArray, List.getElem?_cons_succ, List.getElem?_cons_zero]; rfl)
  case hqc3 => exact fun _ _ _ h => h
  case hyc3 => (refine Or.inl ⟨by rfl, ?_⟩; intro w' hSw; (try dsimp only at hSw); (try go_simp); try with_reducible rfl)
  try simp only [Act.put, List.setIfInBounds_toArray, List.set_cons_zero, List.set_cons_succ]
  refine wpAnyH_take (i := 4) (oi := ?oic4) (v := ?vc4) ?hic4 (by kernel_rfl) (by kernel_rfl) (by kernel_rfl) ?hqc4 ?hyc4 hHeld ?_
  case hic4 => (simp only [List.getElem?_toArray, List.getElem?_cons_succ, List.getElem?_cons_zero]; rfl)
  case hqc4 => exact fun _ _ _ h => h
  case hyc4 => (refine Or.inl ⟨by rfl, ?_⟩; intro w' hSw; (try dsimp only at hSw); (try go_simp); try with_reducible rfl)
  try simp only [Act.put, List.setIfInBounds_toArray, List.set_cons_zero, List.set_cons_succ]
  refine wpAnyH_take (i := 8) (oi := ?oic8) (v := ?vc8) ?hic8 (by kernel_rfl) (by kernel_rfl) (by kernel_rfl) ?hqc8 ?hyc8 hHeld ?_
  case hic8 => (simp only [List.getElem?_toArray, List.getElem?_cons_succ, List.getElem?_cons_zero]; rfl)
  case hqc8 => exact fun _ _ _ h => h
  case hyc8 => (refine Or.inl ⟨by rfl, ?_⟩; intro w' hSw; (try dsimp only at hSw); (try go_simp); try with_reducible rfl)
  try simp only [Act.put, List.setIfInBounds_toArray, List.set_cons_zero, List.set_cons_succ]
  refine wpAnyH_take (i := 9) (oi := ?oic9) (v := ?vc9) ?hic9 (by kernel_rfl) (by kernel_rfl) (by kernel_rfl) ?hqc9 ?hyc9 hHeld ?_
  case hic9 => (simp only [List.getElem?_toArray, List.getElem?_cons_succ, List.getElem?_cons_zero]; rfl)
  case hqc9 => exact fun _ _ _ h => h
  case hyc9 => (refine Or.inl ⟨by rfl, ?_⟩; intro w' hSw; (try dsimp only at hSw); (try go_simp); try with_reducible rfl)
  try simp only [Act.put, List.setIfInBounds_toArray, List.set_cons_zero, List.set_cons_succ]
  refine wpAnyH_take (i := 10) (oi := ?oic10) (v := ?vc10) ?hic10 (by kernel_rfl) (by kernel_rfl) (by kernel_rfl) ?hqc10 ?hyc10 hHeld ?_
  case hic10 => (simp only [List.getElem?_toArray, List.getElem?_cons_succ, List.getElem?_cons_zero]; rfl)
  case hqc10 => exact fun _ _ _ h => h
  case hyc10 => (refine Or.inl ⟨by rfl, ?_⟩; intro w' hSw; (try dsimp only at hSw); (try go_simp); try with_reducible rfl)
  try simp only [Act.put, List.setIfInBounds_toArray, List.set_cons_zero, List.set_cons_succ]
  refine wpAnyH_ready (rs := [5]) (by kernel_rfl) (by simp) ?_
  refine AllReadyH.cons rfl (fun K hK => ?_) AllReadyH.nil
  go_simp
  refine hK.out _ _ hS1 (fun _ => ?_)
  try simp only [Act.put, List.setIfInBounds_toArray, List.set_cons_zero, List.set_cons_succ]
  clear hK K
  refine wpAnyH_ready (rs := [6]) (by kernel_rfl) (by simp) ?_
  refine AllReadyH.cons rfl (fun K hK => ?_) AllReadyH.nil
  go_simp
  refine hK.out _ _ hS1 (fun _ => ?_)
  try simp only [Act.put, List.setIfInBounds_toArray, List.set_cons_zero, List.set_cons_succ]
  clear hK K
  refine wpAnyH_take (i := 7) (oi := ?oic7) (v := ?vc7) ?hic7 (by kernel_rfl) (by kernel_rfl) (by kernel_rfl) ?hqc7 ?hyc7 hS1 ?_
  case hic7 => (simp only [List.getElem?_toArray, List.getElem?_cons_succ, List.getElem?_cons_zero]; rfl)
  case hqc7 => exact fun _ _ _ h => h
  case hyc7 => (refine Or.inl ⟨by rfl, ?_⟩; intro w' hSw; (try dsimp only at hSw); (try go_simp); try with_reducible rfl)
  try simp only [Act.put, List.setIfInBounds_toArray, List.set_cons_zero, List.set_cons_succ]
  refine wpAnyH_take (i := 11) (oi := ?oic11) (v := ?vc11) ?hic11 (by kernel_rfl) (by kernel_rfl) (by kernel_rfl) ?hqc11 ?hyc11 hS1 ?_
  case hic11 => (simp only [List.getElem?_toArray, List.getElem?_cons_succ, List.getElem?_cons_zero]; rfl)
  case hqc11 => exact fun _ _ _ h => h
  case hyc11 => (refine Or.inl ⟨by rfl, ?_⟩; intro w' hSw; (try dsimp only at hSw); (try go_simp); try with_reducible rfl)
  try simp only [Act.put, List.setIfInBounds_toArray, List.set_cons_zero, List.set_cons_succ]
  refine wpAnyH_ready (rs := [12]) (by kernel_rfl) (by simp) ?_
  refine AllReadyH.cons rfl (fun K hK => ?_) AllReadyH.nil
  go_simp
  refine (hd3 _ hS1.1).mono ?_
  rintro e w8 ⟨v8, rfl, hb8⟩
  have hS8 := kpS20 hS1 hb8
  (try go_wp2_with fail)
  refine hK.out _ _ hS8 (fun _ => ?_)
  try simp only [Act.put, List.setIfInBounds_toArray, List.set_cons_zero, List.set_cons_succ]
  clear hK K
  refine wpAnyH_ready (rs := [13]) (by kernel_rfl) (by simp) ?_
  refine AllReadyH.cons rfl (fun K hK => ?_) AllReadyH.nil
  go_simp
  refine hK.out _ _ hS8 (fun _ => ?_)
  try simp only [Act.put, List.setIfInBounds_toArray, List.set_cons_zero, List.set_cons_succ]
  clear hK K
  refine wpAnyH_take (i := 14) (oi := ?oic14) (v := ?vc14) ?hic14 (by kernel_rfl) (by kernel_rfl) (by kernel_rfl) ?hqc14 ?hyc14 hS8 ?_
  case hic14 => (simp only [List.getElem?_toArray, List.getElem?_cons_succ, List.getElem?_cons_zero]; rfl)
  case hqc14 => exact fun _ _ _ h => h
  case hyc14 => (refine Or.inl ⟨by rfl, ?_⟩; intro w' hSw; (try dsimp only at hSw); (try go_simp); try with_reducible rfl)
  try simp only [Act.put, List.setIfInBounds_toArray, List.set_cons_zero, List.set_cons_succ]
  refine wpAnyH_take (i := 15) (oi := ?oic15) (v := ?vc15) ?hic15 (by kernel_rfl) (by kernel_rfl) (by kernel_rfl) ?hqc15 ?hyc15 hS8 ?_
  case hic15 => (simp only [List.getElem?_toArray, List.getElem?_cons_succ, List.getElem?_cons_zero]; rfl)
  case hqc15 => exact fun _ _ _ h => h
  case hyc15 => (refine Or.inl ⟨by rfl, ?_⟩; intro w' hSw; (try dsimp only at hSw); (try go_simp); try with_reducible rfl)
  try simp only [Act.put, List.setIfInBounds_toArray, List.set_cons_zero, List.set_cons_succ]
  refine wpAnyH_ready (rs := [16]) (by kernel_rfl) (by simp) ?_
  refine AllReadyH.cons rfl (fun K hK => ?_) AllReadyH.nil
  go_simp
  refine hK.out _ _ hS8 (fun _ => ?_)
  try simp only [Act.put, List.setIfInBounds_toArray, List.set_cons_zero, List.set_cons_succ]
  clear hK K
  refine wpAnyH_ready (rs := [17]) (by kernel_rfl) (by simp) ?_
  refine AllReadyH.cons rfl (fun K hK => ?_) AllReadyH.nil
  go_simp
  refine hK.out _ _ hS8 (fun _ => ?_)
  try simp only [Act.put, List.setIfInBounds_toArray, List.set_cons_zero, List.set_cons_succ]
  clear hK K
  refine wpAnyH_done (by kernel_rfl) ?_ _
  clear hrc hcv hS0 hS1 hHeld hb8 hd3
  go_wp2_with fail
  refine (hd4 _ hS8.1).mono ?_
  rintro e w9 ⟨v9, rfl, h9⟩
  have h09 := (kpS20 hS8 h9).2.1
  clear hS8 h9 hd4
  go_wp2_with fail
  go_ret
  exact ⟨rfl, h09⟩

end Go.Proofs.YtmcogmmncfihhaaGreatDoor

/-
  The walk of the statement SidecarSafe.
-/
import Derived.Test.YtmcogmmncfihhaaGreatDoorLaw20Z
import Derived.Test.YtmcogmmncfihhaaGreatDoorP20hZ
import Derived.Test.YtmcogmmncfihhaaGreatDoorP20jZ
import Derived.Test.YtmcogmmncfihhaaGreatDoorP20lZ
import Derived.Test.YtmcogmmncfihhaaGreatDoorT16Z
import Derived.Test.YtmcogmmncfihhaaGreatDoorM20dZ
set_option linter.unusedVariables false
set_option linter.unusedSimpArgs false
namespace Go.Proofs.YtmcogmmncfihhaaGreatDoor
open Go.RowKit Go Go.Shelf

theorem tl20f {a b : ByteArray} (h : a ≠ b) : (a.toList == b.toList) = false := by
  rw [ByteArray.toList_eq, ByteArray.toList_eq, beq_eq_false_iff_ne]
  exact fun q => h (ByteArray.ext (Array.toList_inj.1 q))
theorem cutP_20 (a : Option Addr) (n cap k : Nat) (hk : k ≤ n) (hn : n ≤ cap) (W : World) : (Instr.sliceAt 26 (.slice a n cap) none (some (.int .i64 (k : Int))) none).run Tryz.prog W = .ok (.slice a k cap) W := by
  have k1 : k ≤ cap := by omega
  cases a <;> simp [go_sem, k1]
theorem rd_pre20 {w : World} {a : Option Addr} {cap : Nat} {l : List Ent} (h : RdR w (.slice a l.length cap) (l.map LF)) (k : Nat) (hk : k ≤ l.length) : RdR w (.slice a k cap) ((l.take k).map LF) := by
  obtain ⟨a', cap', e, h1, h2, h3⟩ := h
  obtain ⟨rfl, -, rfl⟩ : a = a' ∧ l.length = (l.map LF).length ∧ cap = cap' := by
    injection e with e1 e2 e3
    exact ⟨e1, e2, e3⟩
  rw [List.length_map] at h1
  have e : (l.take k).length = k := by rw [List.length_take]; omega
  refine ⟨a, cap, by rw [List.length_map, e], by rw [List.length_map, e]; omega, h2, ?_⟩
  rw [flat_take20]
  rcases h3 with h3 | ⟨b, off, rfl, hb, hc⟩
  · left; rw [h3]; exact List.take_nil
  · right
    refine ⟨b, off, rfl, hb, fun j hj => ?_⟩
    rw [List.length_take] at hj
    rw [hc j (by omega), List.getD_eq_getElem?_getD, List.getD_eq_getElem?_getD, List.getElem?_take, if_pos (by omega)]


set_option maxRecDepth 100000 in
set_option maxHeartbeats 6400000 in
theorem sidecarSafe_any (s : ByteArray) (v : Value) (raw : List (Int × Int)) (n0 n1 which x : Int) (v2 : Value) (ents : List Ent) (w : World) (hE : iF w) (_hs : s.size ≤ maxLen) (hr : RdP w v raw) (hwf : WfP raw) (hl1 : -9223372036854775808 ≤ n0) (hl2 : n0 ≤ 9223372036854775807) (hm1 : -9223372036854775808 ≤ n1) (hm2 : n1 ≤ 9223372036854775807) (hw1 : -9223372036854775808 ≤ which) (hw2 : which ≤ 9223372036854775807) (hx1 : -9223372036854775808 ≤ x) (hx2 : x ≤ 9223372036854775807) (hr2 : RdR w v2 (ents.map LF)) :
    Calls Tryz.prog 4 #[.string s, v, .agg #[.int .i64 n0, .int .i64 n1], .int .i64 which, .int .i64 x, v2] w fun e w' => e = .returned (.bool true) ∧ Below w.heap.size w w' := by
  have hN := Arr.new w 40 [.int .i64 n0, .int .i64 n1]
  change Arr (w.alloc (.cells #[.int .i64 n0, .int .i64 n1] 40)) _ _ _ at hN
  have hb0 : Below w.heap.size w (w.alloc (.cells #[.int .i64 n0, .int .i64 n1] 40)) := bD (Below.refl _ _) _
  have hE0 := hE.below hb0
  have hr0 := hr.below hb0
  have hy0 := hr2.below hb0
  obtain ⟨ya, yc, rfl, hyc, hym, -⟩ := aWp hr2
  unfold maxLen at hym
  clear hE hr hr2
  go_enter Tryz.func4, Tryz.ntmps4
  go_wp2_with fail
  obtain ⟨z, hz⟩ : ∃ z, z = w.heap.size := ⟨_, rfl⟩
  generalize w.alloc (.cells #[.int .i64 n0, .int .i64 n1] 40) = w0 at *
  rw [← hz] at hN ⊢
  clear hz
  refine (awake20_any _ hE0).mono ?_
  rintro e w1 ⟨rfl, h1⟩
  have hE1 := hE0.below h1
  have hr1 := hr0.below h1
  have hy1 := hy0.below h1
  have hN1 := hN.below h1 hN.lt
  have h01 := bV hb0 h1
  have d0 := hN1.cell (i := 0) rfl
  have d1 := hN1.cell (i := 1) rfl
  clear hb0 h1 hE0 hr0 hy0 hN
  go_wp2_with fail
  refine (archive_any s v raw n0 n1 _ hr1 hwf hl1 hl2 hm1 hm2).mono ?_
  rintro e w2 ⟨a, rfl, ha, h2⟩
  have hE2 := hE1.below h2
  have hy2 := hy1.below h2
  have h02 := bV h01 h2
  clear h01 h2 hE1 hr1 hy1 hwf d0 d1 hN1
  -- what the archive is
  obtain ⟨k1, k2, k3⟩ := ha.facts
  have hal : a.data.toList.length = a.size := rfl
  have hrs : aUl a.data.toList = (hH a.data.toList).1 := by unfold aUl; rw [if_pos k2]
  have hrt := own_right k2
  have hft := own_fit k2 (by omega) (by omega)
  rw [← hrs] at hrt hft
  have hll : (aUj 0 (aUl a.data.toList)).length ≤ 5 := by rw [aWd, hrs]; exact k3
  have hsc := fun W h => aX9 a W h (by omega)
  rw [k2] at hsc
  have hown : ∀ u, loadE a.data.toList u = 0 ↔ u = sideB a.data.toList.length (fG a.data.toList).toNat (aUj 0 (aUl a.data.toList)) := fun u => load_own k2 (by omega) (by omega)
  have hLd := fun u W h hu => load20_any a u W h hu (by omega)
  obtain ⟨J, hJ⟩ : ∃ J, J = aUj 0 (aUl a.data.toList) := ⟨_, rfl⟩
  rw [← hJ] at hrt hft hll hsc hown hLd
  obtain ⟨Ca, hCa⟩ : ∃ Ca, Ca = (fG a.data.toList).toNat := ⟨_, rfl⟩
  have hCa4 : Ca < 4294967296 := by rw [hCa]; exact BitVec.isLt _
  rw [hal, ← hCa] at hown
  have hsv := fun u W h => save20_ok a u J W h (by omega) (by omega) hrt hft
  rw [← hCa] at hsv
  have hsum := fun W => FA a W (by omega)
  rw [← hCa] at hsum
  obtain ⟨G, hG⟩ : ∃ G, G = mkS (sideB a.size Ca J) := ⟨_, rfl⟩
  rw [← hG] at hsv
  have hGs : G.size ≤ 200 := by rw [hG, cP, sideB_length]; omega
  have hGd : G.data.toList = sideB a.size Ca J := by rw [hG, fW]
  have hL1 : ∀ W, iF W → Calls Tryz.prog 11 #[.string a, .string G] W fun e w' => ∃ v, e = .returned (.tuple #[v, .int .i64 0]) ∧ RdR w' v (J.map LF) ∧ Below W.heap.size W w' := fun W h => by
    have e0 := (hown G.data.toList).2 hGd
    refine (hLd G W h (by omega)).mono ?_
    rintro e w' ⟨v, he, hrv, hb⟩
    rw [e0] at he
    rw [if_pos e0] at hrv
    exact ⟨v, he, hrv, hb⟩
  have hL2 : ∀ u : ByteArray, u.size ≤ 30000 → u ≠ G → ∀ W, iF W → Calls Tryz.prog 11 #[.string a, .string u] W fun e w' => ∃ p c E, e = .returned (.tuple #[.slice p 0 c, .int .i64 E]) ∧ E ≠ 0 ∧ Below W.heap.size W w' := fun u hu hne W h => by
    have e0 : loadE a.data.toList u.data.toList ≠ 0 := fun q => hne (ByteArray.ext (Array.toList_inj.1 (((hown u.data.toList).1 q).trans hGd.symm)))
    refine (hLd u W h (by omega)).mono ?_
    rintro e w' ⟨v, he, hrv, hb⟩
    rw [if_neg e0] at hrv
    obtain ⟨p, c, rfl, -⟩ := aWp hrv
    exact ⟨p, c, _, he, e0, hb⟩
  have hrd := read_back (size := a.size) (sum := Ca) (l := J) (by omega) hCa4 (by omega) hft hrt
  rw [← hGd] at hrd
  have hL3 : ∀ b : ByteArray, b.size ≤ a.size → ∀ W, iF W → Calls Tryz.prog 11 #[.string b, .string G] W fun e w' => ∃ v E, e = .returned (.tuple #[v, .int .i64 E]) ∧ (E = 0 → b.size = a.size ∧ (fG b.data.toList).toNat = Ca) ∧ Below W.heap.size W w' := fun b hb W h => by
    refine (load20_any b G W h (by omega) (by omega)).mono ?_
    rintro e w' ⟨v, he, -, hbl⟩
    refine ⟨v, _, he, fun q => ?_, hbl⟩
    by_cases r : a.size ≠ b.data.toList.length ∨ Ca ≠ (fG b.data.toList).toNat
    · rw [load_else hrd r] at q
      exact absurd q (by decide)
    · exact ⟨(Decidable.not_not.1 fun q1 => r (.inl fun q2 => q1 q2.symm)), (Decidable.not_not.1 fun q1 => r (.inr fun q2 => q1 q2.symm))⟩
  have hsm := fun u v W h1 h2 => same19_any u v J J W h1 h2 (by omega) (by omega)
  rw [decide_eq_true (rfl : J = J)] at hsm
  have htg := fun W => turned16b_any G which x W (by omega) hw1 hw2 hx1 hx2
  have hta := fun W => turned16b_any a which x W (by omega) hw1 hw2 hx1 hx2
  have htu := fun u W h => turned19_any u J which x W h (by omega) (fit_wf hft) hw1 hw2 hx1 hx2
  have htx := fun v l W h hl => text20_any a.size Ca v l W h hl (by omega) hCa4
  have hsb := fun (b : ByteArray) (hb : b.size ≤ a.size) W => FA b W (by omega)
  have HA := hid (show a.size ≤ 18000 from k1)
  have HJ := hid (show J.length ≤ 5 from hll)
  have HG := hid hGs
  clear k1 k2 k3 hal hrs hrt hft hll hown hLd hJ hCa hCa4 hG hGd hGs hrd ha
  go_wp2_with fail
  refine (hsc _ hE2).mono ?_
  rintro e w4 ⟨u4, rfl, hu4, h4⟩
  have hE4 := hE2.below h4
  have hy4 := hy2.below h4
  have h04 := bV h02 h4
  clear h02 h4 hE2 hsc hy2
  go_wp2_with fail
  refine (hsv _ _ hu4).mono ?_
  rintro e w5 ⟨rfl, h5⟩
  have hE5 := hE4.below h5
  have hu5 := hu4.below h5
  have hy5 := hy4.below h5
  have h05 := bV h04 h5
  clear h04 h5 hE4 hsv hu4 hy4
  obtain ⟨m, hmi, hm3, hm4⟩ := yI ents.length 12 (by decide)
  have hm12 : m ≤ 12 := by omega
  have hcut := cutP_20 ya ents.length yc m hm4 hyc
  have hyp := rd_pre20 hy5 m hm4
  have hypl : (ents.take m).length ≤ 1000 := by rw [List.length_take]; omega
  have hmi2 : min (ents.length : Int) 12 = (m : Int) := by omega
  clear hy5 hm3
  go_wp2_with fail
  refine (htg _).mono ?_
  rintro e w6 ⟨t2, rfl, ht2, h6⟩
  have hE6 := hE5.below h6
  have hu6 := hu5.below h6
  have hy6 := hyp.below h6
  have h06 := bV h05 h6
  clear h05 h6 hE5 hu5 hyp htg hmi hmi2 hcut
  go_wp2_with fail
  refine (hsum _).mono ?_
  rintro e w7 ⟨rfl, h7⟩
  have hE7 := hE6.below h7
  have hu7 := hu6.below h7
  have hy7 := hy6.below h7
  have h07 := bV h06 h7
  clear h06 h7 hE6 hu6 hy6
  go_wp2_with fail
  refine (htu _ _ hu7).mono ?_
  rintro e w8 ⟨u8, O, rfl, ho8, hOl, -, h8⟩
  have hE8 := hE7.below h8
  have hu8 := hu7.below h8
  have hy8 := hy7.below h8
  have h08 := bV h07 h8
  clear h07 h8 hE7 hu7 hy7 htu
  go_wp2_with fail
  refine (htx _ _ _ ho8 (by have := HJ.out; omega)).mono ?_
  rintro e w9 ⟨t3, rfl, ht3, h9⟩
  have hE9 := hE8.below h9
  have hu9 := hu8.below h9
  have hy9 := hy8.below h9
  have h09 := bV h08 h9
  clear h08 h9 hE8 hu8 hy8 ho8 hOl
  go_wp2_with fail
  refine (hsum _).mono ?_
  rintro e w10 ⟨rfl, h10⟩
  have hE10 := hE9.below h10
  have hu10 := hu9.below h10
  have hy10 := hy9.below h10
  have h010 := bV h09 h10
  clear h09 h10 hE9 hu9 hy9
  go_wp2_with fail
  refine (htx _ _ _ hy10 hypl).mono ?_
  rintro e w11 ⟨t4, rfl, ht4, h11⟩
  have hE11 := hE10.below h11
  have hu11 := hu10.below h11
  have h011 := bV h010 h11
  clear h010 h11 hE10 hu10 hy10 htx hypl
  have hM := Arr.new w11 9 [.string G, .string t2, .string t3, .string t4]
  change Arr (w11.alloc (.cells #[.string G, .string t2, .string t3, .string t4] 9)) _ _ _ at hM
  have hbb : Below w11.heap.size w11 (w11.alloc (.cells #[.string G, .string t2, .string t3, .string t4] 9)) := bD (Below.refl _ _) _
  have hE12 := hE11.below hbb
  have hu12 := hu11.below hbb
  have h012 := bV h011 hbb
  have ht2' : t2.size ≤ 30000 := by have := HG.out; omega
  clear hE11 hu11 h011 hbb hm4 hm12 ht2
  go_wp2_with fail
  obtain ⟨Z, hZ⟩ : ∃ Z, Z = w11.heap.size := ⟨_, rfl⟩
  generalize w11.alloc (.cells #[.string G, .string t2, .string t3, .string t4] 9) = w12 at *
  rw [← hZ] at hM ⊢
  clear hZ
  go_loopg [21, 22, 23, 24, 25, 26, 79] 4 (fun g _s21 _s22 _s23 _s24 _s25 _s26 s79 wr => ∃ (k : Nat), k ≤ 4 ∧ g = 4 - k ∧ s79 = .int .i64 (k : Int) ∧ Arr wr Z 9 [.string G, .string t2, .string t3, .string t4] ∧ iF wr ∧ RdR wr u4 (J.map LF) ∧ Below w.heap.size w wr)
  case atStart => exact ⟨0, by decide, rfl, rfl, hM, hE12, hu12, h012⟩
  case round =>
    obtain ⟨k, hk, hg, rfl, hMr, hEr, hur, hbel⟩ := hrel
    have HK := hid hg
    clear hg hM hE12 hu12 h012
    by_cases hlt : k < 4
    · have t1 : decide ((k : Int) < 4) = true := decide_eq_true (by omega)
      have t1' : decide (k < 4) = true := decide_eq_true (by omega)
      obtain ⟨u, hu, huz⟩ : ∃ u : ByteArray, ([.string G, .string t2, .string t3, .string t4] : List Value)[k]? = some (.string u) ∧ u.size ≤ 30000 := by
        rcases k with _ | _ | _ | _ | k
        · exact ⟨_, rfl, by have := HG.out; omega⟩
        · exact ⟨_, rfl, ht2'⟩
        · exact ⟨_, rfl, ht3⟩
        · exact ⟨_, rfl, ht4⟩
        · omega
      have c0 := hMr.cell hu
      clear hu ht2' ht3 ht4
      by_cases hne : u = G
      subst hne
      go_wp2_with fail
      refine (hL1 _ hEr).mono ?_
      rintro e w14 ⟨v14, rfl, hv14, h14⟩
      have hE14 := hEr.below h14
      have hu14 := hur.below h14
      have hM14 := hMr.below h14 hMr.lt
      have h014 := bV hbel h14
      clear hL1 hL2 hbel h14 hEr hur hMr c0
      go_wp2_with fail
      refine (hsm _ _ _ hv14 hu14).mono ?_
      rintro e w15 ⟨rfl, h15⟩
      have hE15 := hE14.below h15
      have hu15 := hu14.below h15
      have hM15 := hM14.below h15 hM14.lt
      have h015 := bV h014 h15
      clear hsm h014 h15 hE14 hu14 hM14 hv14
      go_wp2_with fail
      rotate_left
      have y1 := tl20f hne
      go_wp2_with fail
      refine (hL2 u huz hne _ hEr).mono ?_
      rintro e w15 ⟨p14, c14, E, rfl, hE0, h14⟩
      have hE15 := hEr.below h14
      have hu15 := hur.below h14
      have hM15 := hMr.below h14 hMr.lt
      have h015 := bV hbel h14
      have y2 : (E == 0) = false := beq_eq_false_iff_ne.2 hE0
      have y3 : (E != 0) = true := bne_iff_ne.2 hE0
      clear hL1 hL2 hbel h14 hEr hur hMr c0 hE0 hne
      go_wp2_with fail
      all_goals
        refine (hta _).mono ?_
        rintro e w16 ⟨b, rfl, hb, h16⟩
        have hE16 := hE15.below h16
        have hu16 := hu15.below h16
        have hM16 := hM15.below h16 hM15.lt
        have h016 := bV h015 h16
        clear hta h015 h16 hE15 hu15 hM15
        go_wp2_with fail
        refine (hL3 b hb _ hE16).mono ?_
        rintro e w17 ⟨v17, E', rfl, hE', h17⟩
        have hE17 := hE16.below h17
        have hu17 := hu16.below h17
        have hM17 := hM16.below h17 hM16.lt
        have h017 := bV h016 h17
        clear hL3 h016 h17 hE16 hu16 hM16
        by_cases hz : E' = 0
        subst hz
        obtain ⟨hbs, hbc⟩ := hE' rfl
        have hsb' := hsb b hb
        rw [hbc] at hsb'
        have y5 : ((b.size : Int) != (a.size : Int)) = false := by rw [hbs]; exact bne_self_eq_false _
        have y6 : (b.size != a.size) = false := by rw [hbs]; exact bne_self_eq_false _
        have y7 : ((b.size : Int) == (a.size : Int)) = true := by rw [hbs]; exact beq_self_eq_true _
        have y8 : (b.size == a.size) = true := by rw [hbs]; exact beq_self_eq_true _
        clear hE' hbs hbc hsb hb
        go_wp2_with fail
        refine (hsb' _).mono ?_
        rintro e w18 ⟨rfl, h18⟩
        have hE18 := hE17.below h18
        have hu18 := hu17.below h18
        have hM18 := hM17.below h18 hM17.lt
        have h018 := bV h017 h18
        clear hsb' h017 h18 hE17 hu17 hM17
        go_wp2_with fail
        refine (hsum _).mono ?_
        rintro e w19 ⟨rfl, h19⟩
        have hE19 := hE18.below h19
        have hu19 := hu18.below h19
        have hM19 := hM18.below h19 hM18.lt
        have h019 := bV h018 h19
        clear hsum h018 h19 hE18 hu18 hM18
        go_wp2_with fail
        rotate_left
        have y9 : (E' == 0) = false := beq_eq_false_iff_ne.2 hz
        have hE19 := hE17
        have hu19 := hu17
        have hM19 := hM17
        have h019 := h017
        clear hE' hz hsb hb hE17 hu17 hM17 h017 hsum
        go_wp2_with fail
        all_goals
          have hg := HK.out
          go_roundg (4 - (k + 1))
          case measure => omega
          case rel => exact ⟨k + 1, by omega, rfl, by go_num, hM19, hE19, hu19, h019⟩
    · have t1 : decide ((k : Int) < 4) = false := decide_eq_false (by omega)
      have t1' : decide (k < 4) = false := decide_eq_false (by omega)
      clear HK hMr hL1 hL2 hL3 hta hsb
      go_wp2_with fail
      go_ret
      exact ⟨rfl, hbel⟩

end Go.Proofs.YtmcogmmncfihhaaGreatDoor

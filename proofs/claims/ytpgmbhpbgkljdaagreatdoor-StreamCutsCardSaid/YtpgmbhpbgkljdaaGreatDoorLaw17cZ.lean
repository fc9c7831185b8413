/-
  The walk of the statement StreamCuts.
-/
import Derived.Test.YtpgmbhpbgkljdaaGreatDoorLaw17nZ
set_option linter.unusedVariables false
set_option linter.unusedSimpArgs false
namespace Go.Proofs.YtpgmbhpbgkljdaaGreatDoor
open Go.RowKit Go Go.Shelf

/-- A list's head, and what is behind it. -/
theorem cut_take {w : World} {v : Value} {x : List ByteArray} (h : RdT w v x) (k : Nat) (hk : k ≤ x.length) :
    ∃ v', (∀ W, (Instr.sliceAt 24 v none (some (.int .i64 (k : Int))) none).run Tryz.prog W = .ok v' W) ∧ RdT w v' (x.take k) := by
  obtain ⟨a, cap, rfl, h1, h2, h3⟩ := h
  have hl : (x.take k).length = k := by rw [List.length_take]; omega
  have e : strV (x.take k) = (strV x).take k := by unfold strV; rw [List.map_take]
  refine ⟨.slice a k cap, fun W => ?_, a, cap, by rw [hl], by omega, h2, ?_⟩
  · have k1 : k ≤ cap := by omega
    cases a with
    | none => simp [go_sem, k1]
    | some p =>
      by_cases h0 : cap = 0
      · obtain rfl : k = 0 := by omega
        simp [go_sem]
      · simp [go_sem, k1]
  · rcases h3 with h3 | ⟨b, off, ha, hb, hc⟩
    · exact .inl (by rw [e, h3, List.take_nil])
    · refine .inr ⟨b, off, ha, hb, fun j hj => ?_⟩
      rw [e] at hj ⊢
      have hj2 : j < k ∧ j < (strV x).length := by rw [List.length_take] at hj; omega
      rw [hc j hj2.2, List.getD_eq_getElem?_getD, List.getD_eq_getElem?_getD, List.getElem?_take, if_pos hj2.1]
theorem cut_drop {w : World} {v : Value} {x : List ByteArray} (h : RdT w v x) (k : Nat) (hk : k ≤ x.length) :
    ∃ v', (∀ W, (Instr.sliceAt 24 v (some (.int .i64 (k : Int))) none none).run Tryz.prog W = .ok v' W) ∧ RdT w v' (x.drop k) := by
  obtain ⟨a, cap, rfl, h1, h2, h3⟩ := h
  have hl : (x.drop k).length = x.length - k := List.length_drop ..
  have e : strV (x.drop k) = (strV x).drop k := by unfold strV; rw [List.map_drop]
  by_cases h0 : cap = k
  · have hk2 : x.length = k := by omega
    have hd : x.drop k = [] := List.drop_of_length_le (by omega)
    refine ⟨.slice a 0 0, fun W => ?_, a, 0, by rw [hd]; rfl, by rw [hd]; exact Nat.le_refl _, by simp [maxLen], .inl (by rw [hd]; rfl)⟩
    cases a <;> simp [go_sem, h0, hk2]
  · cases a with
    | none =>
      have hn : x = [] := by
        rcases h3 with h3 | ⟨b, off, ha, -, -⟩
        · exact List.map_eq_nil_iff.1 h3
        · cases ha
      subst hn
      obtain rfl : k = 0 := by simpa using hk
      exact ⟨.slice none 0 cap, fun W => by simp [go_sem], none, cap, rfl, Nat.zero_le _, h2, .inl rfl⟩
    | some p =>
      refine ⟨.slice (some (p.add k)) (x.length - k) (cap - k), fun W => ?_, some (p.add k), cap - k, by rw [hl], by rw [hl]; omega, by omega, ?_⟩
      · have k1 : (k : Int) ≤ (x.length : Int) := by omega
        by_cases hk0 : k = 0
        · subst hk0
          simp [go_sem, h0]
        · simp [go_sem, hk, h0]
      · rcases h3 with h3 | ⟨b, off, ha, hb, hc⟩
        · exact .inl (by rw [e, h3, List.drop_nil])
        · cases ha
          refine .inr ⟨b, off + k, by simp [Addr.add], hb, fun j hj => ?_⟩
          rw [e] at hj ⊢
          rw [List.length_drop] at hj
          rw [Nat.add_assoc, hc (k + j) (by omega), List.getD_eq_getElem?_getD, List.getD_eq_getElem?_getD, List.getElem?_drop]

theorem arcS_list (l : List (Nat × List ByteArray)) : (arcS l).data.toList = aD (arcW l) := by unfold arcS; rw [fW]
theorem arcS_one (n : Nat) (x : List ByteArray) : (arcS [(n, x)]).data.toList = aD (strW n x) := by rw [arcS_list, arc_one]
/-- What is read of an archive of two streams that is cut off. -/
theorem read_cut {Ra Rb : Nat} {x y : List ByteArray} (oa : okA [(Ra, x)]) (ob : okA [(Rb, y)]) {L : ByteArray} (hL : L = arcS [(Ra, x)] ++ arcS [(Rb, y)]) (hs : L.size ≤ 120000) (n : Nat) (hn : n ≤ L.size) :
    ∃ (S : ByteArray) (E : Int), (n = 0 ∧ E = 3 ∨ n ≠ 0 ∧ (n = (arcS [(Ra, x)]).size ∨ n = L.size) ∧ E = 0 ∨ n ≠ 0 ∧ n ≠ (arcS [(Ra, x)]).size ∧ n ≠ L.size ∧ E = 2) ∧
      ∀ W, iF W → Calls Tryz.prog 19 #[.string (L.extract 0 n)] W fun e w' => e = .returned (.tuple #[.string S, .int .i64 E]) ∧ Below W.heap.size W w' := by
  obtain ⟨a1, a2, a3⟩ := oa _ (List.mem_singleton.2 rfl)
  obtain ⟨b1, b2, b3⟩ := ob _ (List.mem_singleton.2 rfl)
  have hsz : L.size = (arcS [(Ra, x)]).size + (arcS [(Rb, y)]).size := by rw [hL, ByteArray.size_append]
  have hLl : L.data.toList = aD (strW Ra x) ++ aD (strW Rb y) := by rw [hL, ByteArray.data_append, Array.toList_append, arcS_one, arcS_one]
  have l1 : (aD (strW Ra x)).length = (arcS [(Ra, x)]).size := by rw [← arcS_one]; simp
  have l2 : (aD (strW Rb y)).length = (arcS [(Rb, y)]).size := by rw [← arcS_one]; simp
  have hxs : (L.extract 0 n).size ≤ 120000 := by simp; omega
  have hal := (arcS_head Ra x).2
  by_cases h0 : n = 0
  · subst h0
    refine ⟨⟨#[]⟩, 3, .inl ⟨rfl, rfl⟩, fun W h => read_bad (E := 3) ?_ (by decide) hxs W h⟩
    rw [ext_take, List.take_zero]
    rfl
  by_cases h1 : n = (arcS [(Ra, x)]).size
  · have e : L.extract 0 n = arcS [(Ra, x)] := ByteArray.ext (Array.toList_inj.1 (by rw [ext_take, hLl, arcS_one, h1, ← l1, List.take_left]))
    exact ⟨_, 0, .inr (.inl ⟨h0, .inl h1, rfl⟩), fun W h => by rw [e]; exact read_arc (by simp) oa (by omega) W h⟩
  by_cases h2 : n = L.size
  · have e : L.extract 0 n = arcS ([(Ra, x)] ++ [(Rb, y)]) := by rw [← arcS_join, ← hL, h2]; simp
    exact ⟨_, 0, .inr (.inl ⟨h0, .inr h2, rfl⟩), fun W h => by rw [e]; exact read_arc (by simp) (okA_append oa ob) (by rw [← arcS_join, ← hL]; exact hs) W h⟩
  refine ⟨⟨#[]⟩, 2, .inr (.inr ⟨h0, h1, h2, rfl⟩), fun W h => read_bad (E := 2) ?_ (by decide) hxs W h⟩
  rw [ext_take, hLl]
  by_cases h3 : n < (arcS [(Ra, x)]).size
  · have k := arcD_cut (l := []) (n := Ra) (x := x) (c := n) (fun p hp => by simp at hp) a1 a2 a3 (by omega) (by rw [l1]; exact h3)
    rw [List.take_append_of_le_length (by rw [l1]; omega)]
    exact k
  · have k := arcD_cut (l := [(Ra, x)]) (n := Rb) (x := y) (c := n - (arcS [(Ra, x)]).size) oa b1 b2 b3 (by omega) (by rw [l2]; omega)
    rw [List.take_append, List.take_of_length_le (by rw [l1]; omega), l1, arc_one]
    exact k
theorem read_more {l : List (Nat × List ByteArray)} (hl : l ≠ []) (o : okA l) {M : ByteArray} (hM : M.size ≤ 3) (hs : (arcS l).size ≤ 110000) :
    ∃ (S : ByteArray) (E : Int), (M.size = 0 ∧ E = 0 ∨ M.size ≠ 0 ∧ E = 2) ∧
      ∀ W, iF W → Calls Tryz.prog 19 #[.string (arcS l ++ M)] W fun e w' => e = .returned (.tuple #[.string S, .int .i64 E]) ∧ Below W.heap.size W w' := by
  by_cases h0 : M.size = 0
  · have e : arcS l ++ M = arcS l := by
      refine ByteArray.ext (Array.toList_inj.1 ?_)
      have : M.data.toList = [] := List.length_eq_zero_iff.1 (by simpa using h0)
      rw [ByteArray.data_append, Array.toList_append, this, List.append_nil]
    exact ⟨_, 0, .inl ⟨h0, rfl⟩, fun W h => by rw [e]; exact read_arc hl o (by omega) W h⟩
  · refine ⟨⟨#[]⟩, 2, .inr ⟨h0, rfl⟩, fun W h => read_bad (E := 2) ?_ (by decide) (by rw [ByteArray.size_append]; omega) W h⟩
    rw [ByteArray.data_append, Array.toList_append, arcS_list]
    have e : M.data.toList.length = M.size := by simp
    exact arcD_rest o (fun k => h0 (by rw [← e, k]; rfl)) (by omega)
theorem str_none {s : ByteArray} (h : s.size = 0) : s.toList.isEmpty = true := by
  have e : s.data.toList = [] := List.length_eq_zero_iff.1 (by simpa using h)
  rw [Lib.toList_data, e]
  rfl

set_option maxRecDepth 100000 in
set_option maxHeartbeats 3200000 in
theorem streamCuts_any (s : ByteArray) (v : Value) (raw : List (Int × Int)) (level pl : Int) (more : ByteArray) (w : World) (hE : iF w) (_hs : s.size ≤ maxLen) (hr : RdP w v raw) (hwf : WfP raw) (hl1 : -9223372036854775808 ≤ level) (hl2 : level ≤ 9223372036854775807) (ho1 : -9223372036854775808 ≤ pl) (ho2 : pl ≤ 9223372036854775807) (_hm : more.size ≤ maxLen) :
    Calls Tryz.prog 5 #[.string s, v, .int .i64 level, .int .i64 pl, .string more] w fun e w' => e = .returned (.bool true) ∧ Below w.heap.size w w' := by
  obtain ⟨qa, Ra, ra1, ra2, ma, ma', pka⟩ := lev_any level hl1 hl2
  obtain ⟨D, hD⟩ : ∃ D, D = level.tdiv 9 := ⟨_, rfl⟩
  have hDt := tdiv_bd level 9 (by decide) hl1 hl2
  rw [show ((9 : Nat) : Int) = 9 from rfl, ← hD] at hDt
  have hDb : -9223372036854775808 ≤ D ∧ D ≤ 9223372036854775807 := ⟨hDt.1, hDt.2.1⟩
  have mD := hDt.2.2
  clear hDt
  obtain ⟨qb, Rb, rb1, rb2, mb, mb', pkb⟩ := lev_any D hDb.1 hDb.2
  have hD' := hD.symm
  clear hD
  obtain ⟨C, hC⟩ : ∃ C, C = pl.tdiv 7 := ⟨_, rfl⟩
  have hCt := tdiv_bd pl 7 (by decide) ho1 ho2
  rw [show ((7 : Nat) : Int) = 7 from rfl, ← hC] at hCt
  have hCb : -9223372036854775808 ≤ C ∧ C ≤ 9223372036854775807 := ⟨hCt.1, hCt.2.1⟩
  have mC := hCt.2.2
  clear hCt
  have hC' := hC.symm
  clear hC
  obtain ⟨m, hmi, hm1, hm2⟩ := yI more.size 3 (by decide)
  have hmi2 : min (more.size : Int) 3 = (m : Int) := by rw [← hmi, Int.min_def]; split <;> split <;> omega
  obtain ⟨M, hM⟩ : ∃ M, M = more.extract 0 m := ⟨_, rfl⟩
  have hMs : M.size ≤ 3 := by rw [hM]; simp; omega
  have hM' := hM.symm
  have q1 : (m : Int) ≤ (more.size : Int) := by omega
  clear hM
  go_enter Tryz.func5, Tryz.ntmps5
  go_wp2_with fail
  refine (awake17_any _ hE).mono ?_
  rintro e w1 ⟨rfl, h1⟩
  have hE1 := hE.below h1
  have hr1 := hr.below h1
  clear hr hE
  go_wp2_with fail
  refine (texts_any s v raw _ hr1 hwf).mono ?_
  rintro e w2 ⟨u, x, rfl, hx, hx5, hxf, h2⟩
  have hE2 := hE1.below h2
  have h02 := bV h1 h2
  clear h1 h2 hE1 hr1 hwf
  obtain ⟨p1, p2⟩ := vU pl ((x.length : Int) + 1) (by omega)
  have pkk := fun W => pick17_any pl ((x.length : Int) + 1) W ho1 ho2 (by omega) (by omega)
  obtain ⟨k, hk⟩ : ∃ k : Nat, gA pl ((x.length : Int) + 1) = (k : Int) := ⟨_, (Int.toNat_of_nonneg p1).symm⟩
  rw [hk] at p1 p2 pkk
  have hkx : k ≤ x.length := by omega
  clear hk p1 p2
  obtain ⟨v1, hv1, hx1⟩ := cut_take hx k hkx
  obtain ⟨v2, hv2, hx2⟩ := cut_drop hx k hkx
  obtain ⟨xa, xc, rfl, hxc1, hxc2, -⟩ := hx.open
  unfold maxLen at hxc2
  have z1 : (x.take k).length ≤ 5 := by rw [List.length_take]; omega
  have z2 : (x.drop k).length ≤ 5 := by rw [List.length_drop]; omega
  have f1 : fineT (x.take k) := fun t ht => hxf t (List.mem_of_mem_take ht)
  have f2 : fineT (x.drop k) := fun t ht => hxf t (List.mem_of_mem_drop ht)
  have hwa : ∀ W, (Below w2.heap.size w2 W ∧ w2.heap.size ≤ W.heap.size) → Calls Tryz.prog 17 #[.int .i64 (Ra : Int), v1] W fun e w' => e = .returned (.tuple #[.string (arcS [(Ra, x.take k)]), .int .i64 0]) ∧ Hid (okA [(Ra, x.take k)]) ∧ Below W.heap.size W w' := fun W h =>
    (write_fine Ra v1 _ W (hx1.below h.1) z1 f1 ra1 ra2).mono fun e w' k => ⟨k.1, hid k.2.1, k.2.2⟩
  have hwb : ∀ W, (Below w2.heap.size w2 W ∧ w2.heap.size ≤ W.heap.size) → Calls Tryz.prog 17 #[.int .i64 (Rb : Int), v2] W fun e w' => e = .returned (.tuple #[.string (arcS [(Rb, x.drop k)]), .int .i64 0]) ∧ Hid (okA [(Rb, x.drop k)]) ∧ Below W.heap.size W w' := fun W h =>
    (write_fine Rb v2 _ W (hx2.below h.1) z2 f2 rb1 rb2).mono fun e w' k => ⟨k.1, hid k.2.1, k.2.2⟩
  have HA := hid (show okA [(Ra, x.take k)] → (arcS [(Ra, x.take k)]).size ≤ 18000 from fun o => by
    have h := arcS_size o
    have ea : (allT [(Ra, x.take k)]).length = (x.take k).length := by unfold allT; simp
    rw [ea, List.length_singleton] at h
    omega)
  have HB := hid (show okA [(Rb, x.drop k)] → (arcS [(Rb, x.drop k)]).size ≤ 18000 from fun o => by
    have h := arcS_size o
    have ea : (allT [(Rb, x.drop k)]).length = (x.drop k).length := by unfold allT; simp
    rw [ea, List.length_singleton] at h
    omega)
  have hal := (arcS_head Ra (x.take k)).2
  have hbl := (arcS_head Rb (x.drop k)).2
  have HRC := hid (fun (oa : okA [(Ra, x.take k)]) (ob : okA [(Rb, x.drop k)]) => read_cut oa ob rfl)
  have HRM := hid (fun (oa : okA [(Ra, x.take k)]) (ob : okA [(Rb, x.drop k)]) => read_more (l := [(Ra, x.take k)] ++ [(Rb, x.drop k)]) (by simp) (okA_append oa ob) hMs)
  rw [← arcS_join] at HRM
  obtain ⟨OA, hOA⟩ : ∃ OA : Prop, OA = okA [(Ra, x.take k)] := ⟨_, rfl⟩
  obtain ⟨OB, hOB⟩ : ∃ OB : Prop, OB = okA [(Rb, x.drop k)] := ⟨_, rfl⟩
  obtain ⟨A, hA⟩ : ∃ A, A = arcS [(Ra, x.take k)] := ⟨_, rfl⟩
  obtain ⟨Bb, hB⟩ : ∃ Bb, Bb = arcS [(Rb, x.drop k)] := ⟨_, rfl⟩
  rw [← hOA, ← hA] at hwa
  rw [← hOB, ← hB] at hwb
  rw [← hOA, ← hA] at HA
  rw [← hOB, ← hB] at HB
  rw [← hOA, ← hOB, ← hA, ← hB] at HRC
  rw [← hOA, ← hOB, ← hA, ← hB] at HRM
  rw [← hA] at hal
  rw [← hB] at hbl
  clear hOA hOB hA hB z1 z2 f1 f2 hx hx1 hx2 hxf
  have hb0 : Below w2.heap.size w2 w2.drew ∧ w2.heap.size ≤ w2.drew.heap.size := ⟨(Below.refl w2.heap.size w2).drew, Nat.le_refl _⟩
  go_wp2_with fail
  refine (pkk _).mono ?_
  rintro e w' ⟨rfl, rfl⟩
  clear pkk
  go_wp2_with fail
  have mra := nat_wI Ra (by omega)
  go_cut [14, 15] (fun c14 c15 wx => c14 = .string A ∧ c15 = .int .i64 0 ∧ Hid OA ∧ Below w2.heap.size w2 wx ∧ w2.heap.size ≤ wx.heap.size)
  case first =>
    go_region_held3 (fun wx => Below w2.heap.size w2 wx ∧ w2.heap.size ≤ wx.heap.size)
      (first
        | with_reducible assumption
        | with_reducible exact kpT (by assumption) (by assumption))
      (first
        | (go_at_call 18; with_reducible refine (pka _).mono ?_; rintro e w' ⟨rfl, rfl⟩)
        | (go_at_call 17; with_reducible refine (hwa _ (by assumption)).mono ?_; rintro e w4 ⟨rfl, oa, h4⟩))
    all_goals
      go_wp2_with fail
      go_meet
      exact ⟨rfl, rfl, oa, by assumption⟩
  case rest =>
  obtain ⟨rfl, rfl, OAh, hba⟩ := hcut
  have hba := kpT hba (Below.refl wc.heap.size wc).drew
  clear hb0 hwa pka ma ma' mra
  go_wp2_with fail
  have mrb := nat_wI Rb (by omega)
  go_cut [16, 17] (fun c16 c17 wx => c16 = .string Bb ∧ c17 = .int .i64 0 ∧ Hid OB ∧ Below w2.heap.size w2 wx ∧ w2.heap.size ≤ wx.heap.size)
  case first =>
    go_region_held3 (fun wx => Below w2.heap.size w2 wx ∧ w2.heap.size ≤ wx.heap.size)
      (first
        | with_reducible assumption
        | with_reducible exact kpT (by assumption) (by assumption))
      (first
        | (go_at_call 18; with_reducible refine (pkb _).mono ?_; rintro e w' ⟨rfl, rfl⟩)
        | (go_at_call 17; with_reducible refine (hwb _ (by assumption)).mono ?_; rintro e w4 ⟨rfl, oa, h4⟩))
    all_goals
      go_wp2_with fail
      go_meet
      exact ⟨rfl, rfl, oa, by assumption⟩
  case rest =>
  obtain ⟨rfl, rfl, OBh, hbb⟩ := hcut
  have hE3 := hE2.below hbb.1
  have h03 := bV h02 hbb.1
  clear hba hbb hwb pkb h02 hE2 mb mb' mrb mD hD' hDb
  have hA1 := HA.out OAh.out
  have hB1 := HB.out OBh.out
  have hc := HRC.out OAh.out OBh.out
  have hmr := HRM.out OAh.out OBh.out
  have hAe : A.toList.isEmpty = false := rY (by omega)
  have hBe : Bb.toList.isEmpty = false := rY (by omega)
  have hsz : (A ++ Bb).size = A.size + Bb.size := by rw [ByteArray.size_append]
  obtain ⟨L, hL⟩ : ∃ L, L = A ++ Bb := ⟨_, rfl⟩
  have hL' := hL.symm
  rw [← hL] at hc hmr hsz
  have q2 : ¬ 9223372036854775807 < A.size + Bb.size := by omega
  have hLs : L.size ≤ 40000 := by omega
  clear hL HA HB HRC HRM OAh OBh
  obtain ⟨p1, p2⟩ := vU C ((L.size : Int) + 1) (by omega)
  have pkn := fun W => pick17_any C ((L.size : Int) + 1) W hCb.1 hCb.2 (by omega) (by omega)
  obtain ⟨n, hn⟩ : ∃ n : Nat, gA C ((L.size : Int) + 1) = (n : Int) := ⟨_, (Int.toNat_of_nonneg p1).symm⟩
  rw [hn] at p1 p2 pkn
  have hnL : n ≤ L.size := by omega
  clear hn p1 p2
  obtain ⟨S1, E1, hE1', hrd1⟩ := hc (by omega) n hnL
  obtain ⟨S2, E2, hE2', hrd2⟩ := hmr (by omega)
  obtain ⟨Ln, hLn⟩ : ∃ Ln, Ln = L.extract 0 n := ⟨_, rfl⟩
  obtain ⟨Lm, hLm⟩ : ∃ Lm, Lm = L ++ M := ⟨_, rfl⟩
  rw [← hLn] at hrd1
  rw [← hLm] at hrd2
  have hLn' := hLn.symm
  have hLm' := hLm.symm
  have q3 : (n : Int) ≤ (L.size : Int) := by omega
  have q4 : ¬ 9223372036854775807 < L.size + M.size := by omega
  have HE1 := hid hE1'
  have HE2 := hid hE2'
  have HSZ := hid hsz
  clear hLn hLm hc hmr hE1' hE2' hsz
  go_wp2_with fail
  refine (pkn _).mono ?_
  rintro e w' ⟨rfl, rfl⟩
  clear pkn mC hC' hCb
  go_wp2_with fail
  refine (hrd1 _ hE3).mono ?_
  rintro e w4 ⟨rfl, h4⟩
  have hE4 := hE3.below h4
  have h04 := bV h03 h4
  clear hrd1 hE3 h03 h4
  go_wp2_with fail
  refine (hrd2 _ hE4).mono ?_
  rintro e w5 ⟨rfl, h5⟩
  have h05 := bV h04 h5
  clear hrd2 hE4 h04 h5
  have h1 := HE1.out
  have h2 := HE2.out
  have hsz := HSZ.out
  clear HE1 HE2 HSZ
  rcases h1 with ⟨n0, rfl⟩ | ⟨n0, n1 | n1, rfl⟩ | ⟨n0, n1, n2, rfl⟩
  · have w1 : ((n : Int) == (A.size : Int)) = false := beq_eq_false_iff_ne.2 (by omega)
    have w2 : ((n : Int) == (L.size : Int)) = false := beq_eq_false_iff_ne.2 (by omega)
    have w3 : ((n : Int) == 0) = true := beq_iff_eq.2 (by omega)
    clear n0 hal hbl hsz
    rcases h2 with ⟨m0, rfl⟩ | ⟨m0, rfl⟩
    · have t0 : M.toList.isEmpty = true := str_none m0
      clear m0
      go_wp2_with fail
      go_ret
      exact ⟨rfl, h05⟩
    · have t0 : M.toList.isEmpty = false := rY (by omega)
      clear m0
      go_wp2_with fail
      go_ret
      exact ⟨rfl, h05⟩
  · have w1 : ((n : Int) == (A.size : Int)) = true := beq_iff_eq.2 (by omega)
    have w3 : ((n : Int) == 0) = false := beq_eq_false_iff_ne.2 (by omega)
    clear n0 n1 hal hbl hsz
    rcases h2 with ⟨m0, rfl⟩ | ⟨m0, rfl⟩
    · have t0 : M.toList.isEmpty = true := str_none m0
      clear m0
      go_wp2_with fail
      go_ret
      exact ⟨rfl, h05⟩
    · have t0 : M.toList.isEmpty = false := rY (by omega)
      clear m0
      go_wp2_with fail
      go_ret
      exact ⟨rfl, h05⟩
  · have w1 : ((n : Int) == (A.size : Int)) = false := beq_eq_false_iff_ne.2 (by omega)
    have w2 : ((n : Int) == (L.size : Int)) = true := beq_iff_eq.2 (by omega)
    have w3 : ((n : Int) == 0) = false := beq_eq_false_iff_ne.2 (by omega)
    clear n0 n1 hal hbl hsz
    rcases h2 with ⟨m0, rfl⟩ | ⟨m0, rfl⟩
    · have t0 : M.toList.isEmpty = true := str_none m0
      clear m0
      go_wp2_with fail
      go_ret
      exact ⟨rfl, h05⟩
    · have t0 : M.toList.isEmpty = false := rY (by omega)
      clear m0
      go_wp2_with fail
      go_ret
      exact ⟨rfl, h05⟩
  · have w1 : ((n : Int) == (A.size : Int)) = false := beq_eq_false_iff_ne.2 (by omega)
    have w2 : ((n : Int) == (L.size : Int)) = false := beq_eq_false_iff_ne.2 (by omega)
    have w3 : ((n : Int) == 0) = false := beq_eq_false_iff_ne.2 (by omega)
    clear n0 n1 n2 hal hbl hsz
    rcases h2 with ⟨m0, rfl⟩ | ⟨m0, rfl⟩
    · have t0 : M.toList.isEmpty = true := str_none m0
      clear m0
      go_wp2_with fail
      go_ret
      exact ⟨rfl, h05⟩
    · have t0 : M.toList.isEmpty = false := rY (by omega)
      clear m0
      go_wp2_with fail
      go_ret
      exact ⟨rfl, h05⟩

end Go.Proofs.YtpgmbhpbgkljdaaGreatDoor

/-
  The walk of the statement TurnsTimes.
-/
import Derived.Test.YthjmpiekjfnoiaaLaw13
import Derived.Test.YthjmpiekjfnoiaaM13e
namespace Go.Proofs.Ythjmpiekjfnoiaa
open Go.RowKit

/-- A text so many times over. -/
def rep (m : Nat) (l : List UInt8) : List UInt8 := (List.replicate m l).flatten
theorem rep_succ (m : Nat) (l : List UInt8) : rep (m + 1) l = rep m l ++ l := by
  unfold rep; rw [List.replicate_succ', List.flatten_append]; simp
theorem rep_succ' (m : Nat) (l : List UInt8) : rep (m + 1) l = l ++ rep m l := by
  unfold rep; rw [List.replicate_succ, List.flatten_cons]
theorem rep_length (m : Nat) (l : List UInt8) : (rep m l).length = m * l.length := by
  induction m with
  | zero => simp [rep]
  | succ m ih => rw [rep_succ, List.length_append, ih, Nat.succ_mul]
theorem rep_get (l : List UInt8) : ∀ m i, i < m * l.length → (rep m l)[i]? = some (l.getD (i % l.length) 0) := by
  intro m
  induction m with
  | zero => intro i hi; omega
  | succ m ih =>
    intro i hi
    rw [rep_succ']
    rcases Nat.lt_or_ge i l.length with h | h
    · rw [List.getElem?_append_left h, Nat.mod_eq_of_lt h, List.getD, List.getElem?_eq_getElem h]; rfl
    · rw [List.getElem?_append_right h, ih _ (by rw [Nat.succ_mul] at hi; omega), Nat.mod_eq_sub_mod h]
theorem cycf_rep (t : ByteArray) {m : Nat} (hm : 0 < m) : cycf (mkS (rep m t.data.toList)) = cycf t := by
  funext i
  have hl : t.data.toList.length = t.size := by simp
  unfold cycf
  rw [mkS_size, mkS_toList, rep_length, hl]
  rcases Nat.eq_zero_or_pos t.size with h0 | h0
  · have e : t.data.toList = [] := List.eq_nil_of_length_eq_zero (by omega)
    rw [e, h0]
    have e2 : rep m [] = [] := List.eq_nil_of_length_eq_zero (by rw [rep_length]; rfl)
    rw [e2]; rfl
  · have hlt := Nat.mod_lt i (Nat.mul_pos hm h0)
    have h1 := rep_get t.data.toList m (i % (m * t.size)) (by rw [hl]; exact hlt)
    rw [List.getD, h1, hl, Nat.mod_mod_of_dvd i (Nat.dvd_mul_left t.size m)]; rfl
theorem eqm_any' {c : Nat → Nat} {n : Nat} (hc : Cyc c n) (hn : 0 < n) {x y : Nat} (h : eqm c n x y) (t : Nat) : c (x + t) = c (y + t) :=
  (hc.all hn (m := n + t + 1) (by omega)).1.2 h t (by omega)
theorem times_back {c : Nat → Nat} {n j x : Nat} (hc : Cyc c n) (hn : 0 < n) (hj : 0 < j) : c (x + (j * n - 1)) = c (x + (n - 1)) := by
  obtain ⟨i, rfl⟩ : ∃ i, j = i + 1 := ⟨j - 1, by omega⟩
  have e : x + ((i + 1) * n - 1) = x + (n - 1) + n * i := by
    rw [Nat.succ_mul, Nat.mul_comm i n]; omega
  rw [e, hc.mul]

set_option maxRecDepth 100000 in
set_option maxHeartbeats 1600000 in
theorem turnsTimes_any (s : ByteArray) (v : Value) (raw : List Int) (o : Int) (w : World) (_hs : s.size ≤ maxLen) (hr : RdI w v raw) (hwf : WfI raw) (ho1 : -9223372036854775808 ≤ o) (ho2 : o ≤ 9223372036854775807) :
    Calls Try.prog 10 #[.string s, v, .int .i64 o] w fun e w' => e = .returned (.bool true) ∧ Below w.heap.size w w' := by
  unfold maxLen at _hs
  go_enter Try.func10, Try.ntmps10
  go_wp2_with fail
  refine (awake13_any _).mono ?_
  rintro e w1 ⟨rfl, h1⟩
  have hr1 := hr.below h1
  obtain ⟨hq1, hq2⟩ := Pick_bd o 4 (by decide)
  obtain ⟨M, hM⟩ : ∃ M : Nat, Pick o 4 = (M : Int) - 1 := ⟨(Pick o 4 + 1).toNat, by omega⟩
  have hM1 : 1 ≤ M := by omega
  have hM2 : M ≤ 4 := by omega
  have eM : (1 : Int) + ((M : Int) - 1) = (M : Int) := by omega
  have HM := hid hM
  clear hM hq1 hq2
  go_wp2_with fail
  refine (pick13_any _ _ _ ho1 ho2 (by decide) (by decide)).mono ?_
  rintro e w' ⟨rfl, rfl⟩
  rw [HM.out]
  go_upto_region 3 with fail
  go_cut [29, 30, 31] (fun s29 s30 s31 wx => Pair w wx s29 30 30 ∧ s30 = .int .i64 2 ∧ s31 = .int .i64 0)
  case first =>
    obtain ⟨m, hmi, hm1, hm2⟩ := minOf s.size 30 (by decide)
    have hmi2 : min (s.size : Int) 30 = (m : Int) := by rw [← hmi, Int.min_def]; split <;> split <;> omega
    go_region_with (go_at_call 16; refine (text13_any _ raw _ _ _ ?_ hwf ?_ ?_ ?_ ?_).mono ?_; (first | exact hr1 | exact hr1.below ((Below.refl _ _).drew)); decide; decide; decide; decide; rintro e w2 ⟨t, rfl, ht, h2⟩)
    all_goals go_wp2_with fail
    all_goals go_meet
    all_goals have h2' : Below w1.heap.size w1 w2 := by first | exact h2 | exact (Below.refl _ _).drew.trans h2
    all_goals exact ⟨⟨w2.heap.size, s.extract 0 m, t, rfl, Arr.new w2 _ [.string _, .string _], by simp; omega, by omega, belA (belT h1 h2') _, (belT h1 h2').size⟩, rfl, rfl⟩
  case rest =>
    obtain ⟨⟨pb, t0, t1, rfl, harr, hz0, hz1, hbel, hpb⟩, rfl, rfl⟩ := hcut
    clear hr hr1 h1 hwf _hs eM
    have hp0 := harr.cell (i := 0) rfl
    have hp1 := harr.cell (i := 1) rfl
    have hpl := harr.lt
    clear harr
    go_wp2
    go_loopg [31] 2 (fun g i wr => ∃ k : Nat, k ≤ 2 ∧ g = 2 - k ∧ i = .int .i64 k ∧ Below w.heap.size w wr ∧ Below wc.heap.size wc wr)
    case atStart => exact ⟨0, by omega, rfl, rfl, hbel, Below.refl _ _⟩
    case round =>
      clear hbel
      obtain ⟨k, hk, hg, rfl, hbel, hbel1⟩ := hrel
      by_cases hlt : k < 2
      · obtain ⟨t, ht, hc⟩ : ∃ t : ByteArray, t.size ≤ 30 ∧ wr.cell? ⟨pb, k, none⟩ = some (.string t) := by
          rcases (show k = 0 ∨ k = 1 by omega) with rfl | rfl
          · exact ⟨t0, by omega, by rw [hbel1.cell (p := ⟨pb, 0, none⟩) hpl]; exact hp0⟩
          · exact ⟨t1, by omega, by rw [hbel1.cell (p := ⟨pb, 1, none⟩) hpl]; exact hp1⟩
        have hd : decide ((k : Int) < 2) = true := by simp; omega
        clear hp0 hp1 hz0 hz1
        have HG := hid hg
        clear hg
        go_wp2_with fail
        go_loopg [11, 12] M (fun g s11 s12 wq => ∃ j : Nat, j ≤ M ∧ g = M - j ∧ s12 = .int .i64 j ∧ s11 = .string (mkS (rep j t.data.toList)) ∧ wq = wr)
        case atStart => exact ⟨0, Nat.zero_le _, rfl, rfl, rfl, rfl⟩
        case round =>
        obtain ⟨j, hj, hg, rfl, rfl, rfl⟩ := hrel
        have HG2 := hid hg
        clear hg
        by_cases hjl : j < M
        · obtain ⟨S, hS⟩ : ∃ S, S = mkS (rep j t.data.toList) := ⟨_, rfl⟩
          have hSs : S.size ≤ 1000 := by
            rw [hS, mkS_size, rep_length]
            have : j * t.data.toList.length ≤ 4 * 30 := Nat.mul_le_mul (by omega) (by simpa using ht)
            omega
          have hnext := hid (show mkS (rep (j + 1) t.data.toList) = S ++ t by rw [hS, rep_succ, ← mkS_append, mkS_of])
          rw [← hS]
          clear hS
          go_wp2_with fail
          have hg := HG2.out
          go_roundg (M - (j + 1))
          case measure => omega
          case rel => exact ⟨j + 1, by omega, rfl, by go_num, by rw [hnext.out], rfl⟩
        · obtain rfl : j = M := by omega
          clear hjl hj
          obtain ⟨S, hS⟩ : ∃ S, S = mkS (rep j t.data.toList) := ⟨_, rfl⟩
          rw [← hS]
          have hSz : S.size = j * t.size := by rw [hS, mkS_size, rep_length]; simp
          have hSl : S.size ≤ 1000 := by
            have : j * t.size ≤ 4 * 30 := Nat.mul_le_mul hM2 ht
            omega
          have hcyf : cycf S = cycf t := by rw [hS, cycf_rep t (by omega)]
          have HCY := hid hcyf
          have HSZ := hid hSz
          clear hcyf hSz hS
          go_wp2_with fail
          refine (forward_any t _ (by omega)).mono ?_
          rintro e w2 ⟨oo, hO, rfl, h2⟩
          obtain ⟨p, hp⟩ : ∃ p, p = origTo oo t.size := ⟨_, rfl⟩
          obtain ⟨L, hL⟩ : ∃ L, L = mkS (lastTo t oo t.size) := ⟨_, rfl⟩
          rw [← hp, ← hL]
          have hLs : L.size = t.size := by rw [hL, mkS_size, lastTo_length]
          have HO := hid hO
          have HL := hid hL
          have HP := hid hp
          have HLS := hid hLs
          clear hO hL hp hLs
          go_wp2_with fail
          refine (forward_any S _ (by omega)).mono ?_
          rintro e w3 ⟨om, hOm, rfl, h3⟩
          obtain ⟨q, hq⟩ : ∃ q, q = origTo om S.size := ⟨_, rfl⟩
          obtain ⟨R, hR⟩ : ∃ R, R = mkS (lastTo S om S.size) := ⟨_, rfl⟩
          rw [← hq, ← hR]
          have hRs : R.size = j * t.size := by rw [hR, mkS_size, lastTo_length, HSZ.out]
          rw [HCY.out, HSZ.out] at hOm
          rw [HSZ.out] at hR hq
          have hqp : q = j * p := by
            rcases Nat.eq_zero_or_pos t.size with h0 | h0
            · have e1 : q = 0 := by rw [hq, h0]; rfl
              have e2 : p = 0 := by rw [HP.out, h0]; rfl
              rw [e1, e2, Nat.mul_zero]
            · have hjt : 0 < j * t.size := Nat.mul_pos (by omega) h0
              obtain ⟨a1, a2⟩ := orig_spec HO.out h0
              obtain ⟨b1, b2⟩ := orig_spec hOm hjt
              rw [HP.out, hq]
              exact times_orig (cycf_cyc t) h0 (by omega) HO.out hOm a1 a2 b1 b2
          have hRl : R.size ≤ 1000 := by rw [hRs, ← HSZ.out]; exact hSl
          have hpt : p ≤ t.size := by rw [HP.out]; exact origTo_le _ _
          have e1 : (j : Int) * (L.size : Int) = (R.size : Int) := by rw [hRs, HLS.out, Int.natCast_mul]
          have e2 : (j : Int) * (p : Int) = (q : Int) := by rw [hqp, Int.natCast_mul]
          have hqs : q ≤ 1000 := by
            have h9 := origTo_le om (j * t.size)
            have h10 : j * t.size ≤ 1000 := by rw [← HSZ.out]; exact hSl
            rw [hq]; exact Nat.le_trans h9 h10
          have hRd : R.data.toList = lastTo S om (j * t.size) := by rw [hR]; rfl
          have HR := hid hRd
          have HRS := hid hRs
          have HOM := hid hOm
          have hB := belT (belT hbel h2) h3
          have hBc := belT (belT hbel1 h2) h3
          clear hOm hR hq hqp hRd hRs hbel hbel1 hc
          go_wp2_with fail
          go_loopg [17] R.size (fun g s17 wq => ∃ i : Nat, i ≤ R.size ∧ g = R.size - i ∧ s17 = .int .i64 i ∧ Below w3.heap.size w3 wq)
          case atStart => exact ⟨0, Nat.zero_le _, rfl, rfl, Below.refl _ _⟩
          case round =>
          obtain ⟨i, hi, hg, rfl, hbel3⟩ := hrel
          have HG3 := hid hg
          clear hg e1 e2
          by_cases hil : i < R.size
          · have hij : i < j * t.size := by rw [← HRS.out]; exact hil
            have h0 : 0 < t.size := by
              rcases Nat.eq_zero_or_pos t.size with h0 | h0
              · rw [h0, Nat.mul_zero] at hij; omega
              · exact h0
            obtain ⟨d, hd'⟩ : ∃ d, d = i / j := ⟨_, rfl⟩
            have hdt : d < t.size := by rw [hd']; exact Nat.div_lt_of_lt_mul hij
            have hdL : d < L.size := by rw [HLS.out]; exact hdt
            have eq1 : (i : Int).tdiv (j : Int) = (d : Int) := by rw [hd']; exact (Int.ofNat_tdiv i j).symm
            have hby : R[i]'hil = L[d]'hdL := by
              have a1 := byteAt R i hil
              have a2 := byteAt L d hdL
              obtain ⟨x, x1, x2⟩ := lastTo_byte S om (j * t.size) hij
              obtain ⟨y, y1, y2⟩ := lastTo_byte t oo t.size hdt
              rw [HR.out, x1] at a1
              rw [show L.data.toList = lastTo t oo t.size by rw [HL.out]; rfl, y1] at a2
              rw [← Option.some.inj a1, ← Option.some.inj a2, ← UInt8.toNat_inj, x2, y2, HCY.out, HSZ.out]
              have ts := times_same (cycf_cyc t) h0 (by omega) HO.out HOM.out i hij
              rw [← hd'] at ts
              rw [eqm_any' (cycf_cyc t) h0 ts (t.size - 1), times_back (cycf_cyc t) h0 (show 0 < j by omega)]
            have f4 : (((R[i]'hil).toNat : Int) != ((L[d]'hdL).toNat : Int)) = false := by rw [hby]; simp
            have hj0 : ((j : Int) == 0) = false := by rw [beq_eq_false_iff_ne]; omega
            have hj1 : (j : Int) ≠ 0 := by omega
            clear hd' hby
            go_wp2_with fail
            go_quiet (fail)
            go_wp2_with fail
            have hg := HG3.out
            go_roundg (R.size - (i + 1))
            case measure => omega
            case rel => exact ⟨i + 1, by omega, rfl, by go_num, bDrewN hbel3 _⟩
          · go_wp2_with fail
            have hg := HG.out
            go_roundg (2 - (k + 1))
            case measure => omega
            case rel => exact ⟨k + 1, by omega, rfl, by go_num, belT hB hbel3, belT hBc hbel3⟩
      · have hd : decide ((k : Int) < 2) = false := by simp; omega
        go_wp2
        go_ret
        exact ⟨rfl, hbel⟩

end Go.Proofs.Ythjmpiekjfnoiaa

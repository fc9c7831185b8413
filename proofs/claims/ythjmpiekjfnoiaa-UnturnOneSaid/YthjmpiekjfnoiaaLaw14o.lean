/-
  The walk of the statement UnturnOne.
-/
import Derived.Test.YthjmpiekjfnoiaaLaw13u
import Derived.Test.YthjmpiekjfnoiaaM14c
namespace Go.Proofs.Ythjmpiekjfnoiaa
open Go.RowKit

set_option maxRecDepth 100000 in
set_option maxHeartbeats 1600000 in
theorem unturnOne_any (s : ByteArray) (v : Value) (raw : List Int) (o : Int) (w : World) (_hs : s.size ≤ maxLen) (hr : RdI w v raw) (hwf : WfI raw) (ho1 : -9223372036854775808 ≤ o) (ho2 : o ≤ 9223372036854775807) :
    Calls Try.prog 13 #[.string s, v, .int .i64 o] w fun e w' => e = .returned (.bool true) ∧ Below w.heap.size w w' := by
  unfold maxLen at _hs
  go_enter Try.func13, Try.ntmps13
  go_wp2_with fail
  refine (awake14_any _).mono ?_
  rintro e w1 ⟨rfl, h1⟩
  have hr1 := hr.below h1
  go_upto_region 2 with fail
  go_cut [26, 27, 28] (fun s26 s27 s28 wx => Pair w wx s26 40 80 ∧ s27 = .int .i64 2 ∧ s28 = .int .i64 0)
  case first =>
    obtain ⟨m, hmi, hm1, hm2⟩ := minOf s.size 40 (by decide)
    have hmi2 : min (s.size : Int) 40 = (m : Int) := by rw [← hmi, Int.min_def]; split <;> split <;> omega
    go_region_with (go_at_call 16; refine (text13_any _ raw _ _ _ ?_ hwf ?_ ?_ ?_ ?_).mono ?_; (first | exact hr1 | exact hr1.below ((Below.refl _ _).drew)); decide; decide; decide; decide; rintro e w2 ⟨t, rfl, ht, h2⟩)
    all_goals go_wp2_with fail
    all_goals go_meet
    all_goals have h2' : Below w1.heap.size w1 w2 := by first | exact h2 | exact (Below.refl _ _).drew.trans h2
    all_goals exact ⟨⟨w2.heap.size, s.extract 0 m, t, rfl, Arr.new w2 _ [.string _, .string _], by simp; omega, by omega, belA (belT h1 h2') _, (belT h1 h2').size⟩, rfl, rfl⟩
  case rest =>
    obtain ⟨⟨pb, t0, t1, rfl, harr, hz0, hz1, hbel, hpb⟩, rfl, rfl⟩ := hcut
    clear hr hr1 h1 hwf _hs
    have hp0 := harr.cell (i := 0) rfl
    have hp1 := harr.cell (i := 1) rfl
    have hpl := harr.lt
    clear harr
    go_wp2
    go_loopg [28] 2 (fun g i wr => ∃ k : Nat, k ≤ 2 ∧ g = 2 - k ∧ i = .int .i64 k ∧ Below w.heap.size w wr ∧ Below wc.heap.size wc wr)
    case atStart => exact ⟨0, by omega, rfl, rfl, hbel, Below.refl _ _⟩
    case round =>
      clear hbel
      obtain ⟨k, hk, hg, rfl, hbel, hbel1⟩ := hrel
      by_cases hlt : k < 2
      · obtain ⟨t, ht, hc⟩ : ∃ t : ByteArray, t.size ≤ 80 ∧ wr.cell? ⟨pb, k, none⟩ = some (.string t) := by
          rcases (show k = 0 ∨ k = 1 by omega) with rfl | rfl
          · exact ⟨t0, by omega, by rw [hbel1.cell (p := ⟨pb, 0, none⟩) hpl]; exact hp0⟩
          · exact ⟨t1, by omega, by rw [hbel1.cell (p := ⟨pb, 1, none⟩) hpl]; exact hp1⟩
        have hd : decide ((k : Int) < 2) = true := by simp; omega
        clear hp0 hp1 hz0 hz1
        have HG := hid hg
        clear hg
        by_cases hemp : t.toList.isEmpty = true
        · go_wp2
          have hg := HG.out
          go_roundg (2 - (k + 1))
          case measure => omega
          case rel => exact ⟨k + 1, by omega, rfl, by go_num, hbel, hbel1⟩
        · have hemp0 : t.toList.isEmpty = false := by simpa using hemp
          have htp := ne_empty hemp0
          clear hemp
          obtain ⟨hq1, hq2⟩ := Pick_bd o t.size (by omega)
          obtain ⟨x, hx⟩ := Int.eq_ofNat_of_zero_le hq1
          have HX := hid hx
          rw [hx] at hq2
          have hxt : x < t.size := by omega
          clear hx hq1 hq2
          go_wp2_with fail
          refine (pick14_any _ _ _ ho1 ho2 (by omega) (by omega)).mono ?_
          rintro e w' ⟨rfl, rfl⟩
          rw [HX.out]
          go_wp2_with fail
          refine (back_valid t x _ (by omega) hxt).mono ?_
          rintro e w2 ⟨rfl, h2⟩
          have hl : t.data.toList.length = t.size := by simp
          obtain ⟨U, hU⟩ : ∃ U, U = mkS (back t.data.toList x) := ⟨_, rfl⟩
          rw [← hU]
          have hUs : U.size = t.size := by rw [hU, mkS_size, back_length, hl]
          have HU := hid hU
          have HUS := hid hUs
          have HL := hid hl
          clear hU hl
          go_wp2_with fail
          refine (cycles_any t _ (by omega)).mono ?_
          rintro e w3 ⟨rfl, h3⟩
          obtain ⟨N, hN⟩ : ∃ N, N = cyc t.data.toList := ⟨_, rfl⟩
          rw [← hN]
          have hN1 : 1 ≤ N := by rw [hN]; exact cyc_pos _ (by rw [HL.out]; exact htp)
          have hN2 : N ≤ t.size := by rw [hN, ← HL.out]; exact cyc_le _
          have HN := hid hN
          clear hN
          go_wp2_with fail
          refine (forward_any U _ (by omega)).mono ?_
          rintro e w4 ⟨ou, hOu, rfl, h4⟩
          obtain ⟨R, hR⟩ : ∃ R, R = mkS (lastTo U ou U.size) := ⟨_, rfl⟩
          obtain ⟨p, hp⟩ : ∃ p, p = origTo ou U.size := ⟨_, rfl⟩
          rw [← hR, ← hp]
          have HOU := hid hOu
          have HR := hid hR
          have HP := hid hp
          clear hOu hR hp
          have t1 : decide ((N : Int) < 1) = false := decide_eq_false (by omega)
          have t2 : decide (t.size < N) = false := decide_eq_false (by omega)
          have t3 : ((U.size : Int) != (t.size : Int)) = false := by rw [hUs]; simp
          have hB := belT (belT (belT hbel h2) h3) h4
          have hBc := belT (belT (belT hbel1 h2) h3) h4
          clear hbel hbel1 hc
          by_cases hN0 : N = 1
          · obtain ⟨ou', hO', e1, e2⟩ := one_ord t.data.toList (by rw [← HN.out, hN0]) (show x < t.data.toList.length by rw [HL.out]; exact hxt)
            rw [← HU.out, HL.out, ← hUs] at hO'
            rw [← HU.out, HL.out, ← hUs] at e1
            rw [HL.out, ← hUs] at e2
            have hu := HOU.out.uniq hO'
            have hRt : R = t := by rw [HR.out, lastTo_congr hu, e1, mkS_of]
            have hpx : p = x := by rw [HP.out, origTo_congr hu, e2]
            subst hN0
            subst hRt
            subst hpx
            clear hO' e1 e2 hu
            have t4 : decide (1 < 1) = false := rfl
            go_wp2_with fail
            have hg := HG.out
            go_roundg (2 - (k + 1))
            case measure => omega
            case rel => exact ⟨k + 1, by omega, rfl, by go_num, hB, hBc⟩
          · have t4 : decide (1 < (N : Int)) = true := decide_eq_true (by omega)
            have t5 : ((N : Int) == 1) = false := by rw [beq_eq_false_iff_ne]; omega
            by_cases hRt : R.toList = t.toList
            · have t6 : (R.toList == t.toList) = true := by rw [beq_iff_eq]; exact hRt
              have hRt' : lastTo U ou U.size = t.data.toList := by
                rw [ByteArray.toList_eq, ByteArray.toList_eq, HR.out] at hRt
                exact hRt
              obtain ⟨d, d1, d2, d3, d4⟩ := least_period (cycf_cyc U) (show 0 < U.size by omega)
              have e1 : U.size / d * d = U.size := by
                have := Nat.div_add_mod U.size d
                rw [d3, Nat.add_zero, Nat.mul_comm] at this; exact this
              have e2 := rounds HOU.out (show 0 < U.size by omega) d1 d4 e1
              rw [hRt', ← HN.out] at e2
              have e3 : N * d = U.size := by rw [e2]; exact e1
              have e4 : U.size / N = d := by rw [← e3, Nat.mul_div_cancel_left d (by omega)]
              have e5 : U.size % N = 0 := by rw [← e3]; exact Nat.mul_mod_right N d
              have q1 : (U.size : Int).tmod (N : Int) = 0 := by rw [← Int.ofNat_tmod, e5]; rfl
              have q2 : (U.size : Int).tdiv (N : Int) = (d : Int) := by rw [← Int.ofNat_tdiv, e4]
              have q3 : (U.size : Int) % (N : Int) = 0 := by rw [← Int.natCast_emod, e5]; rfl
              have q4 : (U.size : Int) / (N : Int) = (d : Int) := by rw [← Int.natCast_ediv, e4]
              have hdU : d ≤ U.size := by rw [← e3]; exact Nat.le_mul_of_pos_left d (by omega)
              have hN3 : ((N : Int) == 0) = false := by rw [beq_eq_false_iff_ne]; omega
              have hN4 : (N : Int) ≠ 0 := by omega
              have hN5 : (0 : Int) < (N : Int) := by omega
              have HD2 := hid d2
              clear hRt hRt' d2 d3 d4 e1 e2 e3 e4 e5
              have HUs := hid hUs
              have hU80 : U.size ≤ 80 := by omega
              have q5 : IntKind.i64.wrap (d : Int) = (d : Int) := IntWalk.i64_in _ (by omega)
              clear hUs
              go_wp2_with fail
              go_loopg [17] (U.size - d) (fun g s17 wq => ∃ i : Nat, d ≤ i ∧ i ≤ U.size ∧ g = U.size - i ∧ s17 = .int .i64 i ∧ Below w4.heap.size w4 wq)
              case atStart => exact ⟨d, Nat.le_refl _, hdU, rfl, rfl, Below.refl _ _⟩
              case round =>
              obtain ⟨i, hdi, hi, hg, rfl, hbel3⟩ := hrel
              have HG3 := hid hg
              clear hg q1 q2 q3 q4
              by_cases hil : i < U.size
              · have hid' : i - d < U.size := by omega
                have hby : U[i]'hil = U[i - d]'hid' := by
                  rw [← UInt8.toNat_inj, ← cycf_at U hil, ← cycf_at U hid']
                  have := HD2.out (i - d)
                  rw [show i - d + d = i by omega] at this
                  exact this
                have f4 : (((U[i]'hil).toNat : Int) != ((U[i - d]'hid').toNat : Int)) = false := by rw [hby]; simp
                have s1 : IntKind.i64.wrap ((i : Int) - (d : Int)) = (i : Int) - (d : Int) := IntWalk.i64_in _ (by omega)
                have s2 : ((i : Int) - (d : Int)).toNat = i - d := by omega
                have s3 : (0 : Int) ≤ (i : Int) - (d : Int) := by omega
                have s4 : (i : Int) - (d : Int) < (U.size : Int) := by omega
                clear hby
                go_wp2_with fail
                go_quiet (fail)
                go_wp2_with fail
                have hg := HG3.out
                go_roundg (U.size - (i + 1))
                case measure => omega
                case rel => exact ⟨i + 1, by omega, by omega, rfl, by go_num, bDrewN hbel3 _⟩
              · go_wp2_with fail
                have hg := HG.out
                go_roundg (2 - (k + 1))
                case measure => omega
                case rel => exact ⟨k + 1, by omega, rfl, by go_num, belT hB hbel3, belT hBc hbel3⟩
            · have t6 : (R.toList == t.toList) = false := by rw [beq_eq_false_iff_ne]; exact hRt
              clear hRt
              go_wp2_with fail
              have hg := HG.out
              go_roundg (2 - (k + 1))
              case measure => omega
              case rel => exact ⟨k + 1, by omega, rfl, by go_num, hB, hBc⟩
      · have hd : decide ((k : Int) < 2) = false := by simp; omega
        go_wp2
        go_ret
        exact ⟨rfl, hbel⟩

end Go.Proofs.Ythjmpiekjfnoiaa

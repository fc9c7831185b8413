/-
  The walk of the statement TurnsFirst.
-/
import Derived.Test.YthjmpiekjfnoiaaLaw13u
import Derived.Test.YthjmpiekjfnoiaaM14d
namespace Go.Proofs.Ythjmpiekjfnoiaa
open Go.RowKit

set_option maxRecDepth 100000 in
set_option maxHeartbeats 1600000 in
theorem turnsFirst_any (s : ByteArray) (v : Value) (raw : List Int) (o : Int) (w : World) (_hs : s.size ≤ maxLen) (hr : RdI w v raw) (hwf : WfI raw) (ho1 : -9223372036854775808 ≤ o) (ho2 : o ≤ 9223372036854775807) :
    Calls Try.prog 11 #[.string s, v, .int .i64 o] w fun e w' => e = .returned (.bool true) ∧ Below w.heap.size w w' := by
  unfold maxLen at _hs
  go_enter Try.func11, Try.ntmps11
  go_wp2_with fail
  refine (awake13_any _).mono ?_
  rintro e w1 ⟨rfl, h1⟩
  have hr1 := hr.below h1
  go_upto_region 2 with fail
  go_cut [28, 29, 30] (fun s28 s29 s30 wx => Pair w wx s28 50 60 ∧ s29 = .int .i64 2 ∧ s30 = .int .i64 0)
  case first =>
    obtain ⟨m, hmi, hm1, hm2⟩ := minOf s.size 50 (by decide)
    have hmi2 : min (s.size : Int) 50 = (m : Int) := by rw [← hmi, Int.min_def]; split <;> split <;> omega
    go_region_with (go_at_call 16; refine (text13_any _ raw _ _ _ ?_ hwf ?_ ?_ ?_ ?_).mono ?_; (first | exact hr1 | exact hr1.below ((Below.refl _ _).drew)); decide; decide; decide; decide; rintro e w2 ⟨t, rfl, ht, h2⟩)
    all_goals go_wp2_with fail
    all_goals go_meet
    all_goals have h2' : Below w1.heap.size w1 w2 := by first | exact h2 | exact (Below.refl _ _).drew.trans h2
    all_goals exact ⟨⟨w2.heap.size, s.extract 0 m, t, rfl, Arr.new w2 _ [.string _, .string _], by simp; omega, by omega, belA (belT h1 h2') _, (belT h1 h2').size⟩, rfl, rfl⟩
  case rest =>
    obtain ⟨⟨pb, t0, t1, rfl, harr, hz0, hz1, hbel, hpb⟩, rfl, rfl⟩ := hcut
    clear hr hr1 h1 hwf _hs
    have hp0 := harr.cell (i := 0) rfl
    have hp1 := harr.cell (i := 1) rfl
    have hpl := harr.lt
    clear harr
    go_wp2
    go_loopg [30] 2 (fun g i wr => ∃ k : Nat, k ≤ 2 ∧ g = 2 - k ∧ i = .int .i64 k ∧ Below w.heap.size w wr ∧ Below wc.heap.size wc wr)
    case atStart => exact ⟨0, by omega, rfl, rfl, hbel, Below.refl _ _⟩
    case round =>
      clear hbel
      obtain ⟨k, hk, hg, rfl, hbel, hbel1⟩ := hrel
      by_cases hlt : k < 2
      · obtain ⟨t, ht, hc⟩ : ∃ t : ByteArray, t.size ≤ 60 ∧ wr.cell? ⟨pb, k, none⟩ = some (.string t) := by
          rcases (show k = 0 ∨ k = 1 by omega) with rfl | rfl
          · exact ⟨t0, by omega, by rw [hbel1.cell (p := ⟨pb, 0, none⟩) hpl]; exact hp0⟩
          · exact ⟨t1, by omega, by rw [hbel1.cell (p := ⟨pb, 1, none⟩) hpl]; exact hp1⟩
        have hd : decide ((k : Int) < 2) = true := by simp; omega
        clear hp0 hp1 hz0 hz1
        have HG := hid hg
        clear hg
        by_cases hemp : t.toList.isEmpty = true
        · go_wp2
          have hg := HG.out
          go_roundg (2 - (k + 1))
          case measure => omega
          case rel => exact ⟨k + 1, by omega, rfl, by go_num, hbel, hbel1⟩
        · have hemp0 : t.toList.isEmpty = false := by simpa using hemp
          have htp := ne_empty hemp0
          clear hemp
          have hl : t.data.toList.length = t.size := by simp
          have HL := hid hl
          clear hl
          go_wp2_with fail
          refine (order_any t _ (by omega)).mono ?_
          rintro e w4 ⟨v4, oo, rfl, hO, hv4, h4⟩
          obtain ⟨va, vc, rfl, hvc, hvm, hvA⟩ := hv4.rd.open
          rw [outL_length] at hvA hvc ⊢
          obtain ⟨b4, f4, rfl, hb4, hc4⟩ := hvA (by omega)
          simp only [maxLen] at hvm
          have n1 := hO.nat (i := 0) (by omega)
          have n2 := hO.nat (i := t.size - 1) (by omega)
          obtain ⟨y, hy⟩ : ∃ y, y = (oo 0).toNat := ⟨_, rfl⟩
          obtain ⟨z, hz⟩ : ∃ z, z = (oo (t.size - 1)).toNat := ⟨_, rfl⟩
          rw [← hy] at n1
          rw [← hz] at n2
          have hyt := n1.2
          have hzt := n2.2
          have c1 : w4.cell? ⟨b4, f4, none⟩ = some (.int .i64 (y : Int)) := by
            have := hc4 0 _ (by rw [outL_get _ _ _ (by omega), n1.1])
            rwa [Nat.add_zero] at this
          have c2 := hc4 (t.size - 1) _ (by rw [outL_get _ _ _ (by omega), n2.1])
          have P1 := hid (show Pick ((y : Nat) : Int) (t.size : Int) = ((y : Nat) : Int) by rw [pick_nat, Nat.mod_eq_of_lt hyt])
          have P2 := hid (show Pick ((z : Nat) : Int) (t.size : Int) = ((z : Nat) : Int) by rw [pick_nat, Nat.mod_eq_of_lt hzt])
          have bds : ∀ i (hi : i < t.size), t[y].toNat ≤ t[i].toNat ∧ t[i].toNat ≤ t[z].toNat := by
            intro i hi
            obtain ⟨j, hj, e⟩ := hO.onto hi
            have a1 := first_least hO (Nat.zero_le j) hj
            have a2 := first_least hO (show j ≤ t.size - 1 by omega) (by omega)
            rw [e, Int.toNat_natCast, ← hy] at a1
            rw [e, Int.toNat_natCast, ← hz] at a2
            rw [cycf_at t hyt, cycf_at t hi] at a1
            rw [cycf_at t hi, cycf_at t hzt] at a2
            exact ⟨a1, a2⟩
          have HBD := hid bds
          have g1 : ((t.size : Int) != (t.size : Int)) = false := by simp
          have e1 : IntKind.i64.wrap ((t.size : Int) - 1) = (t.size : Int) - 1 := IntWalk.i64_in _ (by omega)
          have e2 : ((t.size : Int) - 1).toNat = t.size - 1 := by omega
          have e3 : (0 : Int) ≤ (t.size : Int) - 1 := by omega
          have e4 : (t.size : Int) - 1 < (t.size : Int) := by omega
          have hB := belT hbel h4
          have hBc := belT hbel1 h4
          clear hO hv4 hvA hc4 n1 n2 hy hz bds hbel hbel1 hc
          go_wp2_with fail
          refine (pick13_any _ _ _ (by omega) (by omega) (by omega) (by omega)).mono ?_
          rintro e w' ⟨rfl, rfl⟩
          rw [P1.out]
          go_wp2_with fail
          refine (pick13_any _ _ _ (by omega) (by omega) (by omega) (by omega)).mono ?_
          rintro e w' ⟨rfl, rfl⟩
          rw [P2.out]
          go_wp2_with fail
          clear c1 c2 e1 e2 e3 e4
          go_loopg [13, 14] t.size (fun g s13 s14 wq => ∃ i : Nat, i ≤ t.size ∧ g = t.size - i ∧ s14 = .int .i64 i ∧ s13 = .string (mkS (upL (t.data.toList.take i))) ∧ Below w4.heap.size w4 wq)
          case atStart => exact ⟨0, Nat.zero_le _, rfl, rfl, rfl, Below.refl _ _⟩
          case round =>
          obtain ⟨i, hi, hg, rfl, rfl, hbel3⟩ := hrel
          have HG3 := hid hg
          clear hg
          obtain ⟨T, hT⟩ : ∃ T, T = mkS (upL (t.data.toList.take i)) := ⟨_, rfl⟩
          have hTs : T.size = i := by rw [hT, mkS_size, upL_length, List.length_take, HL.out]; omega
          have hTd : T.data.toList = upL (t.data.toList.take i) := by rw [hT]; rfl
          by_cases hil : i < t.size
          · obtain ⟨b1, b2⟩ := HBD.out i hil
            have d1 : decide (t[i].toNat < t[y].toNat) = false := decide_eq_false (by omega)
            have d2 : decide (t[z].toNat < t[i].toNat) = false := decide_eq_false (by omega)
            have hmx := up1_max t[i]
            have hnext := hid (show mkS (upL (t.data.toList.take (i + 1))) = T ++ mkS [up1 t[i]] by rw [upL_take_succ _ (byteAt t i hil), ← mkS_append, hT])
            rw [← hT]
            obtain ⟨B, hBB⟩ : ∃ B, B = up1 t[i] := ⟨_, rfl⟩
            rw [← hBB] at hnext hmx
            have hcv := conv_bytes (w := wr.alloc (.cells #[.int .u8 (B.toNat : Int)] 5)) (Arr.rdB (n := 1) (l := [B]) (Arr.new wr 5 [.int .u8 (B.toNat : Int)]) rfl (by decide))
            clear hT hBB hTd
            go_wp2_with fail
            have hg := HG3.out
            go_roundg (t.size - (i + 1))
            case measure => omega
            case rel => exact ⟨i + 1, by omega, rfl, by go_num, by rw [hnext.out], belA hbel3 _⟩
          · have hie : i = t.size := by omega
            have hpos : ∀ b ∈ T.data.toList, 0 < b.toNat := by rw [hTd]; exact upL_pos _
            rw [← hT]
            have hB3 := belT hB hbel3
            have hBc3 := belT hBc hbel3
            clear hT hTd hbel3 hB hBc
            have HTS := hid hTs
            have hT60 : T.size ≤ 60 := by omega
            have hT1 : 1 ≤ T.size := by omega
            obtain ⟨hq1, hq2⟩ := Pick_bd o ((t.size + 1 : Nat) : Int) (by omega)
            obtain ⟨x, hx⟩ := Int.eq_ofNat_of_zero_le hq1
            rw [hx] at hq2
            have hxT : x ≤ T.size := by omega
            have HX := hid (show Pick o ((t.size : Int) + 1) = (x : Int) by rw [← hx]; congr 1)
            obtain ⟨U, hU⟩ : ∃ U, U = mkS (ins0 T.data.toList x) := ⟨_, rfl⟩
            have hTl : T.data.toList.length = T.size := by simp
            have hUs : U.size = T.size + 1 := by rw [hU, mkS_size, ins0_length, hTl]
            have ea : T.extract 0 x ++ { data := #[0] } ++ T.extract x T.size = U := by
              rw [hU, ext_data, ext_data, show ({ data := #[0] } : ByteArray) = mkS [0] from rfl, mkS_append, mkS_append]
              unfold ins0
              rw [List.drop_zero, Nat.sub_zero, List.take_of_length_le (l := T.data.toList.drop x) (by rw [List.length_drop, hTl]; omega)]
            obtain ⟨a1, a2⟩ := cycf_ins0 T.data.toList (k := x) (by omega) hpos
            rw [← hU, hTl, ← hUs] at a2
            rw [← hU] at a1
            have hlt0 : ∀ j, j < U.size → j ≠ x → cycf U x < cycf U j := fun j h1 h2 => by rw [a1]; exact a2 j h1 h2
            have HLT := hid hlt0
            have HUS := hid hUs
            have hU61 : U.size ≤ 61 := by omega
            have hU0 : 1 ≤ U.size := by omega
            have hxU : x < U.size := by omega
            clear hx hq1 hq2 hU hTl hUs a1 a2 hlt0 hpos hTs hie HBD
            go_wp2_with fail
            refine (pick13_any _ _ _ ho1 ho2 (by omega) (by omega)).mono ?_
            rintro e w' ⟨rfl, rfl⟩
            rw [HX.out]
            go_wp2_with fail
            go_quiet (fail)
            clear ea
            go_wp2_with fail
            refine (order_any U _ (by omega)).mono ?_
            rintro e w5 ⟨v5, ou, rfl, hO, hv5, h5⟩
            obtain ⟨va, vd, rfl, hvd, hvn, hvA⟩ := hv5.rd.open
            rw [outL_length] at hvA hvd ⊢
            obtain ⟨b5, f5, rfl, hb5, hc5⟩ := hvA (by omega)
            simp only [maxLen] at hvn
            have hm0 := first_one hO hxU HLT.out
            have c1 : w5.cell? ⟨b5, f5, none⟩ = some (.int .i64 (x : Int)) := by
              have := hc5 0 _ (by rw [outL_get _ _ _ (by omega), hm0])
              rwa [Nat.add_zero] at this
            have HO := hid hO
            have HM0 := hid hm0
            clear hO hv5 hvA hc5 hm0
            go_wp2_with fail
            refine (forward_any U _ (by omega)).mono ?_
            rintro e w6 ⟨ov, hOv, rfl, h6⟩
            have hu := hOv.uniq HO.out
            rw [lastTo_congr hu, origTo_congr hu]
            have c2 : w6.cell? ⟨b5, f5, none⟩ = some (.int .i64 (x : Int)) := by
              rw [h6.cell (p := ⟨b5, f5, none⟩) hb5]; exact c1
            obtain ⟨L, hL⟩ : ∃ L, L = mkS (lastTo U ou U.size) := ⟨_, rfl⟩
            obtain ⟨q, hq⟩ : ∃ q, q = origTo ou U.size := ⟨_, rfl⟩
            rw [← hL, ← hq]
            obtain ⟨q1, q2⟩ := orig_spec HO.out hU0
            rw [← hq] at q1 q2
            have hLs : L.size = U.size := by rw [hL, mkS_size, lastTo_length]
            have hL0 : 0 < L.size := by omega
            obtain ⟨r, hr⟩ : ∃ r, r = (x + (U.size - 1)) % U.size := ⟨_, rfl⟩
            have hrU : r < U.size := by rw [hr]; exact Nat.mod_lt _ (by omega)
            have er : ((x : Int) + (U.size : Int) - 1) % (U.size : Int) = (r : Int) := by
              rw [hr, Int.natCast_emod]; congr 1; omega
            have et : ((x : Int) + (U.size : Int) - 1).tmod (U.size : Int) = (r : Int) := by
              rw [Int.tmod_eq_emod_of_nonneg (by omega)]; exact er
            have hby : L[0]'hL0 = U[r]'hrU := by
              have b1 := byteAt L 0 hL0
              obtain ⟨z1, y1, y2⟩ := lastTo_byte U ou U.size (show 0 < U.size by omega)
              rw [show L.data.toList = lastTo U ou U.size by rw [hL]; rfl, y1] at b1
              rw [← Option.some.inj b1, ← UInt8.toNat_inj, y2, HM0.out, Int.toNat_natCast, ← (cycf_cyc U).mod, ← hr, cycf_at U hrU]
            have f4 : (((L[0]'hL0).toNat : Int) != ((U[r]'hrU).toNat : Int)) = false := by rw [hby]; simp
            have g1 : ((U.size : Int) != (U.size : Int)) = false := by simp
            have g2 : ((x : Int) != (x : Int)) = false := by simp
            have g3 : ((L.size : Int) != (U.size : Int)) = false := by rw [hLs]; simp
            have hqx : q = 0 ↔ x = 0 := by
              constructor
              · intro e
                rw [e, HM0.out] at q2
                omega
              · intro e
                apply Classical.byContradiction
                intro hne
                exact HO.out.ne q1 (show 0 < U.size by omega) hne (by rw [q2, HM0.out, e]; rfl)
            have hB := belT (belT (bDrewN hB3 nq) h5) h6
            have hBc := belT (belT (bDrewN hBc3 nq) h5) h6
            have hLs61 : L.size ≤ 61 := by omega
            clear hOv hu hL hq hr hby hLs q2 c1 hB3 hBc3 h5 h6
            by_cases hx0 : x = 0
            · have k1 : ((q : Int) == 0) = true := by rw [beq_iff_eq]; have := hqx.2 hx0; omega
              have k2 : ((x : Int) == 0) = true := by rw [beq_iff_eq]; omega
              clear hqx hx0
              go_wp2_with fail
              go_quiet (fail)
              go_wp2_with fail
              have hg := HG.out
              go_roundg (2 - (k + 1))
              case measure => omega
              case rel => exact ⟨k + 1, by omega, rfl, by go_num, bDrewN hB _, bDrewN hBc _⟩
            · have k1 : ((q : Int) == 0) = false := by rw [beq_eq_false_iff_ne]; intro e; exact hx0 (hqx.1 (by omega))
              have k2 : ((x : Int) == 0) = false := by rw [beq_eq_false_iff_ne]; omega
              clear hqx hx0
              go_wp2_with fail
              go_quiet (fail)
              go_wp2_with fail
              have hg := HG.out
              go_roundg (2 - (k + 1))
              case measure => omega
              case rel => exact ⟨k + 1, by omega, rfl, by go_num, bDrewN hB _, bDrewN hBc _⟩
      · have hd : decide ((k : Int) < 2) = false := by simp; omega
        go_wp2
        go_ret
        exact ⟨rfl, hbel⟩

end Go.Proofs.Ythjmpiekjfnoiaa

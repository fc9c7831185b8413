/-
  The walk of the statement UnturnRounds.
-/
import Derived.Test.YthjmpiekjfnoiaaM14d
import Derived.Test.YthjmpiekjfnoiaaLaw13u
namespace Go.Proofs.Ythjmpiekjfnoiaa
open Go.RowKit

set_option maxRecDepth 100000 in
set_option maxHeartbeats 1600000 in
theorem unturnRounds_any (s : ByteArray) (b o : Int) (w : World) (_hs : s.size ≤ maxLen) (hb1 : -9223372036854775808 ≤ b) (hb2 : b ≤ 9223372036854775807) (ho1 : -9223372036854775808 ≤ o) (ho2 : o ≤ 9223372036854775807) :
    Calls Try.prog 14 #[.string s, .int .i64 b, .int .i64 o] w fun e w' => e = .returned (.bool true) ∧ Below w.heap.size w w' := by
  unfold maxLen at _hs
  go_enter Try.func14, Try.ntmps14
  go_wp2_with fail
  refine (awake14_any _).mono ?_
  rintro e w1 ⟨rfl, h1⟩
  go_wp2_with fail
  go_loopg [8, 9] s.size (fun g s8 s9 wr => ∃ i : Nat, i ≤ s.size ∧ i ≤ 20 ∧ g = s.size - i ∧ s9 = .int .i64 i ∧ s8 = .string (mkS (upL (s.data.toList.take i))) ∧ Below w1.heap.size w1 wr)
  case atStart => exact ⟨0, Nat.zero_le _, Nat.zero_le _, rfl, rfl, rfl, Below.refl _ _⟩
  case round =>
  obtain ⟨i, hi, hi20, hg, rfl, rfl, hbel1⟩ := hrel
  have HG := hid hg
  clear hg
  obtain ⟨T, hT⟩ : ∃ T, T = mkS (upL (s.data.toList.take i)) := ⟨_, rfl⟩
  have hTs : T.size = i := by rw [hT, mkS_size, upL_length, List.length_take]; simp; omega
  have hTd : T.data.toList = upL (s.data.toList.take i) := by rw [hT]; rfl
  by_cases hlt : i < s.size ∧ i < 20
  · obtain ⟨hl1, hl2⟩ := hlt
    have t1 : decide (i < s.size) = true := decide_eq_true hl1
    have t2 : decide ((i : Int) < 20) = true := decide_eq_true (by omega)
    have hmx := up1_max s[i]
    have hnext := hid (show mkS (upL (s.data.toList.take (i + 1))) = T ++ mkS [up1 s[i]] by rw [upL_take_succ _ (byteAt s i hl1), ← mkS_append, hT])
    rw [← hT]
    obtain ⟨B, hB⟩ : ∃ B, B = up1 s[i] := ⟨_, rfl⟩
    rw [← hB] at hnext hmx
    have hcv := conv_bytes (w := wr.alloc (.cells #[.int .u8 (B.toNat : Int)] 5)) (Arr.rdB (n := 1) (l := [B]) (Arr.new wr 5 [.int .u8 (B.toNat : Int)]) rfl (by decide))
    clear hT hB hTd
    go_wp2_with fail
    have hg := HG.out
    go_roundg (s.size - (i + 1))
    case measure => omega
    case rel => exact ⟨i + 1, by omega, by omega, rfl, by go_num, by rw [hnext.out], belA hbel1 _⟩
  · have hpos : ∀ b ∈ T.data.toList, 0 < b.toNat := by rw [hTd]; exact upL_pos _
    rw [← hT]
    have hBel := belT h1 hbel1
    clear hT hTd hbel1
    subst hTs
    obtain ⟨hq1, hq2⟩ := Pick_bd b ((T.size + 1 : Nat) : Int) (by omega)
    obtain ⟨x, hx⟩ := Int.eq_ofNat_of_zero_le hq1
    rw [hx] at hq2
    have hxT : x ≤ T.size := by omega
    have HX := hid (show Pick b ((T.size : Int) + 1) = (x : Int) by rw [← hx]; congr 1)
    obtain ⟨U, hU⟩ : ∃ U, U = mkS (ins0 T.data.toList x) := ⟨_, rfl⟩
    have hTl : T.data.toList.length = T.size := by simp
    have hUs : U.size = T.size + 1 := by rw [hU, mkS_size, ins0_length, hTl]
    have ea : T.extract 0 x ++ { data := #[0] } ++ T.extract x T.size = U := by
      rw [hU, ext_data, ext_data, show ({ data := #[0] } : ByteArray) = mkS [0] from rfl, mkS_append, mkS_append]
      unfold ins0
      rw [List.drop_zero, Nat.sub_zero, List.take_of_length_le (l := T.data.toList.drop x) (by rw [List.length_drop, hTl]; omega)]
    obtain ⟨c1, c2⟩ := cycf_ins0 T.data.toList (k := x) (by omega) hpos
    rw [← hU, hTl, ← hUs] at c2
    rw [← hU] at c1
    have hcl := one_class (cycf_cyc U) (show x < U.size by omega) c1 c2
    have HCL := hid hcl
    obtain ⟨hm1, hm2⟩ := Pick_bd o 4 (by decide)
    obtain ⟨M, hM⟩ : ∃ M : Nat, Pick o 4 = (M : Int) - 1 := ⟨(Pick o 4 + 1).toNat, by omega⟩
    have hM1 : 1 ≤ M := by omega
    have hM2 : M ≤ 4 := by omega
    have eM : (1 : Int) + ((M : Int) - 1) = (M : Int) := by omega
    have HM := hid hM
    clear hx hq1 hq2 hU c1 c2 hcl hpos hTl hM hm1 hm2
    have hU21 : U.size ≤ 21 := by omega
    have hU0 : 0 < U.size := by omega
    have HUS := hid hUs
    clear hUs
    have hsplit : (decide (T.size < s.size) = false) ∨ (decide (T.size < s.size) = true ∧ decide ((T.size : Int) < 20) = false) := by
      by_cases q : T.size < s.size
      · exact .inr ⟨decide_eq_true q, decide_eq_false (by omega)⟩
      · exact .inl (decide_eq_false q)
    clear hlt hi
    rcases hsplit with t1 | ⟨t1, t2⟩
    all_goals
      go_wp2_with fail
      refine (pick14_any _ _ _ hb1 hb2 (by omega) (by omega)).mono ?_
      rintro e w' ⟨rfl, rfl⟩
      rw [HX.out]
      go_wp2_with fail
      go_quiet (fail)
      clear ea
      go_wp2_with fail
      refine (pick14_any _ _ _ ho1 ho2 (by decide) (by decide)).mono ?_
      rintro e w' ⟨rfl, rfl⟩
      rw [HM.out]
      go_wp2_with fail
      clear eM
      obtain ⟨wo, hwo⟩ : ∃ wo : World, wo = wr.drewN nq := ⟨_, rfl⟩
      have hBo : Below w.heap.size w wo := by rw [hwo]; exact bDrewN hBel _
      rw [← hwo]
      clear hwo
      go_loopg [13, 14] M (fun g s13 s14 wq => ∃ j : Nat, j ≤ M ∧ g = M - j ∧ s14 = .int .i64 j ∧ s13 = .string (mkS (rep j U.data.toList)) ∧ wq = wo)
      case atStart => exact ⟨0, Nat.zero_le _, rfl, rfl, rfl, rfl⟩
      case round =>
      obtain ⟨j, hj, hg, rfl, rfl, rfl⟩ := hrel
      have HG2 := hid hg
      clear hg
      by_cases hjl : j < M
      · obtain ⟨S, hS⟩ : ∃ S, S = mkS (rep j U.data.toList) := ⟨_, rfl⟩
        have hSs : S.size ≤ 1000 := by
          rw [hS, mkS_size, rep_length]
          have : j * U.data.toList.length ≤ 4 * 21 := Nat.mul_le_mul (by omega) (by simpa using hU21)
          omega
        have hnext := hid (show mkS (rep (j + 1) U.data.toList) = S ++ U by rw [hS, rep_succ, ← mkS_append, mkS_of])
        rw [← hS]
        clear hS
        go_wp2_with fail
        have hg := HG2.out
        go_roundg (M - (j + 1))
        case measure => omega
        case rel => exact ⟨j + 1, by omega, rfl, by go_num, by rw [hnext.out], rfl⟩
      · obtain rfl : j = M := by omega
        clear hjl hj
        obtain ⟨S, hS⟩ : ∃ S, S = mkS (rep j U.data.toList) := ⟨_, rfl⟩
        rw [← hS]
        have hSz : S.size = j * U.size := by rw [hS, mkS_size, rep_length]; simp
        have hSl : S.size ≤ 1000 := by
          have : j * U.size ≤ 4 * 21 := Nat.mul_le_mul hM2 hU21
          omega
        have hcyf : cycf S = cycf U := by rw [hS, cycf_rep U (by omega)]
        have hS0 : 0 < S.size := by rw [hSz]; exact Nat.mul_pos (by omega) hU0
        have hclS : ∀ x y, eqm (cycf S) S.size x y ↔ x % U.size = y % U.size := by
          intro x y
          rw [hcyf, ((cycf_cyc U).all hU0 (by rw [hSz]; exact Nat.le_mul_of_pos_left _ (by omega))).1]
          exact HCL.out x y
        have HCS := hid hclS
        have HSZ := hid hSz
        clear hcyf hSz hS hclS
        go_wp2_with fail
        refine (forward_any U _ (by omega)).mono ?_
        rintro e w2 ⟨ou, hOu, rfl, h2⟩
        have k1 : cyc (mkS (lastTo U ou U.size)).data.toList = 1 := rounds hOu hU0 hU0 HCL.out (Nat.one_mul _)
        obtain ⟨L, hL⟩ : ∃ L, L = mkS (lastTo U ou U.size) := ⟨_, rfl⟩
        rw [← hL] at k1
        rw [← hL]
        have hLs : L.size ≤ 1000000000 := by rw [hL, mkS_size, lastTo_length]; omega
        have K1 := hid k1
        clear k1 hL hOu
        go_wp2_with fail
        refine (forward_any S _ (by omega)).mono ?_
        rintro e w3 ⟨om, hOm, rfl, h3⟩
        have k2 : cyc (mkS (lastTo S om S.size)).data.toList = j := rounds hOm hS0 hU0 HCS.out HSZ.out.symm
        obtain ⟨R, hR⟩ : ∃ R, R = mkS (lastTo S om S.size) := ⟨_, rfl⟩
        rw [← hR] at k2
        rw [← hR]
        have hRs : R.size ≤ 1000000000 := by rw [hR, mkS_size, lastTo_length]; omega
        have K2 := hid k2
        clear k2 hR hOm
        go_wp2_with fail
        refine (cycles_any L _ hLs).mono ?_
        rintro e w4 ⟨rfl, h4⟩
        rw [K1.out]
        go_wp2_with fail
        refine (cycles_any R _ hRs).mono ?_
        rintro e w5 ⟨rfl, h5⟩
        rw [K2.out]
        go_wp2_with fail
        go_ret
        exact ⟨rfl, belT (belT (belT (belT hBo h2) h3) h4) h5⟩

end Go.Proofs.Ythjmpiekjfnoiaa

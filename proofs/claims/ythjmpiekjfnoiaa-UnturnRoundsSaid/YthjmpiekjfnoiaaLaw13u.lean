/-
  The walk of the statement TurnsTurned.
-/
import Derived.Test.YthjmpiekjfnoiaaLaw13
import Derived.Test.YthjmpiekjfnoiaaM13e
namespace Go.Proofs.Ythjmpiekjfnoiaa
open Go.RowKit

theorem pick_nat (x n : Nat) : Pick ((x : Nat) : Int) (n : Int) = ((x % n : Nat) : Int) := by
  unfold Pick
  rw [if_neg (by omega), Int.natCast_emod]
theorem pick_sum (x y n : Nat) : Pick ((x : Int) + (y : Int)) (n : Int) = (((x + y) % n : Nat) : Int) := by
  rw [← Int.natCast_add, pick_nat]

set_option maxRecDepth 100000 in
set_option maxHeartbeats 1600000 in
theorem turnsTurned_any (s : ByteArray) (v : Value) (raw : List Int) (o b : Int) (w : World) (_hs : s.size ≤ maxLen) (hr : RdI w v raw) (hwf : WfI raw) (ho1 : -9223372036854775808 ≤ o) (ho2 : o ≤ 9223372036854775807)
    (hb1 : -9223372036854775808 ≤ b) (hb2 : b ≤ 9223372036854775807) :
    Calls Try.prog 9 #[.string s, v, .int .i64 o, .int .i64 b] w fun e w' => e = .returned (.bool true) ∧ Below w.heap.size w w' := by
  unfold maxLen at _hs
  go_enter Try.func9, Try.ntmps9
  go_wp2_with fail
  refine (awake13_any _).mono ?_
  rintro e w1 ⟨rfl, h1⟩
  have hr1 := hr.below h1
  go_upto_region 2 with fail
  go_cut [32, 33, 34] (fun s32 s33 s34 wx => Pair w wx s32 40 80 ∧ s33 = .int .i64 2 ∧ s34 = .int .i64 0)
  case first =>
    obtain ⟨m, hmi, hm1, hm2⟩ := minOf s.size 40 (by decide)
    have hmi2 : min (s.size : Int) 40 = (m : Int) := by rw [← hmi, Int.min_def]; split <;> split <;> omega
    go_region_with (go_at_call 16; refine (text13_any _ raw _ _ _ ?_ hwf ?_ ?_ ?_ ?_).mono ?_; (first | exact hr1 | exact hr1.below ((Below.refl _ _).drew)); decide; decide; exact ho1; exact ho2; rintro e w2 ⟨t, rfl, ht, h2⟩)
    all_goals go_wp2_with fail
    all_goals go_meet
    all_goals have h2' : Below w1.heap.size w1 w2 := by first | exact h2 | exact (Below.refl _ _).drew.trans h2
    all_goals exact ⟨⟨w2.heap.size, s.extract 0 m, t, rfl, Arr.new w2 _ [.string _, .string _], by simp; omega, by omega, belA (belT h1 h2') _, (belT h1 h2').size⟩, rfl, rfl⟩
  case rest =>
    obtain ⟨⟨pb, t0, t1, rfl, harr, hz0, hz1, hbel, hpb⟩, rfl, rfl⟩ := hcut
    clear hr hr1 h1 hwf _hs
    have hp0 := harr.cell (i := 0) rfl
    have hp1 := harr.cell (i := 1) rfl
    have hpl := harr.lt
    clear harr
    go_wp2
    go_loopg [34] 2 (fun g i wr => ∃ k : Nat, k ≤ 2 ∧ g = 2 - k ∧ i = .int .i64 k ∧ Below w.heap.size w wr ∧ Below wc.heap.size wc wr)
    case atStart => exact ⟨0, by omega, rfl, rfl, hbel, Below.refl _ _⟩
    case round =>
      clear hbel
      obtain ⟨k, hk, hg, rfl, hbel, hbel1⟩ := hrel
      by_cases hlt : k < 2
      · obtain ⟨t, ht, hc⟩ : ∃ t : ByteArray, t.size ≤ 80 ∧ wr.cell? ⟨pb, k, none⟩ = some (.string t) := by
          rcases (show k = 0 ∨ k = 1 by omega) with rfl | rfl
          · exact ⟨t0, by omega, by rw [hbel1.cell (p := ⟨pb, 0, none⟩) hpl]; exact hp0⟩
          · exact ⟨t1, by omega, by rw [hbel1.cell (p := ⟨pb, 1, none⟩) hpl]; exact hp1⟩
        have hd : decide ((k : Int) < 2) = true := by simp; omega
        clear hp0 hp1 hz0 hz1
        have HG := hid hg
        clear hg
        by_cases hemp : t.toList.isEmpty = true
        · go_wp2
          have hg := HG.out
          go_roundg (2 - (k + 1))
          case measure => omega
          case rel => exact ⟨k + 1, by omega, rfl, by go_num, hbel, hbel1⟩
        · have hemp0 : t.toList.isEmpty = false := by simpa using hemp
          have htp := ne_empty hemp0
          clear hemp
          obtain ⟨hq1, hq2⟩ := Pick_bd b t.size (by omega)
          obtain ⟨x, hx⟩ := Int.eq_ofNat_of_zero_le hq1
          have HX := hid hx
          rw [hx] at hq2
          have hxt : x < t.size := by omega
          clear hx hq1 hq2
          go_wp2_with fail
          refine (pick13_any _ _ _ hb1 hb2 (by omega) (by omega)).mono ?_
          rintro e w' ⟨rfl, rfl⟩
          rw [HX.out]
          obtain ⟨U, hU⟩ : ∃ U, U = mkS (rot t x) := ⟨_, rfl⟩
          have ea : t.extract x t.size ++ t.extract 0 x = U := by rw [rot_ext, hU]
          have hUs : U.size = t.size := by rw [hU, rot_size t (by omega)]
          have HU := hid hU
          have HUS := hid hUs
          have hxl : x ≤ t.size := by omega
          clear hU hUs
          go_wp2_with fail
          go_quiet (fail)
          clear ea
          go_wp2_with fail
          refine (forward_any t _ (by omega)).mono ?_
          rintro e w2 ⟨oo, hO, rfl, h2⟩
          obtain ⟨q, hq⟩ : ∃ q, q = origTo oo t.size := ⟨_, rfl⟩
          obtain ⟨L, hL⟩ : ∃ L, L = mkS (lastTo t oo t.size) := ⟨_, rfl⟩
          rw [← hq, ← hL]
          have hqt : q < t.size := by rw [hq]; exact (orig_spec hO (by omega)).1
          have HO := hid hO
          have HL := hid hL
          clear hO hq hL
          go_wp2_with fail
          refine (forward_any U _ (by rw [HUS.out]; omega)).mono ?_
          rintro e w3 ⟨ou, hOu, rfl, h3⟩
          rw [HUS.out] at hOu ⊢
          have hOu' := hOu
          rw [HU.out] at hOu'
          have HOu := hid hOu
          have HOu' := hid hOu'
          rw [show mkS (lastTo U ou t.size) = L by rw [HL.out, HU.out, turned_last t hxt HO.out HOu'.out]]
          obtain ⟨p, hp⟩ : ∃ p, p = origTo ou t.size := ⟨_, rfl⟩
          rw [← hp]
          have hpt : p < t.size := by rw [hp]; exact (orig_spec hOu (by omega)).1
          clear hOu hOu' hp
          go_wp2_with fail
          refine (order_any t _ (by omega)).mono ?_
          rintro e w4 ⟨v4, o4, rfl, hO4, hv4, h4⟩
          rw [outL_congr (hO4.uniq HO.out)] at hv4
          obtain ⟨va, vc, rfl, hvc, hvm, hvA⟩ := hv4.rd.open
          rw [outL_length] at hvA hvc ⊢
          obtain ⟨b4, f4, rfl, hb4, hc4⟩ := hvA (by omega)
          have HC4 := hid hc4
          clear hO4 hv4 hvA hc4
          go_wp2_with fail
          refine (order_any U _ (by rw [HUS.out]; omega)).mono ?_
          rintro e w5 ⟨v5, o5, rfl, hO5, hv5, h5⟩
          rw [HUS.out] at hO5 hv5
          rw [outL_congr (hO5.uniq HOu.out)] at hv5
          obtain ⟨vb, vd, rfl, hvd, hvn, hvB⟩ := hv5.rd.open
          rw [outL_length] at hvB hvd ⊢
          obtain ⟨b5, f5, rfl, hb5, hc5⟩ := hvB (by omega)
          have HC5 := hid hc5
          clear hO5 hv5 hvB hc5
          simp only [maxLen] at hvm hvn
          have g1 : ((t.size : Int) != (t.size : Int)) = false := by simp
          have g2 : decide ((q : Int) < 0) = false := by simp
          have g3 : decide (t.size ≤ q) = false := decide_eq_false (by omega)
          have g4 : decide ((p : Int) < 0) = false := by simp
          have g5 : decide (t.size ≤ p) = false := decide_eq_false (by omega)
          have hB := belT (belT (belT (belT (bDrewN hbel _) h2) h3) h4) h5
          have hBc := belT (belT (belT (belT (bDrewN hbel1 _) h2) h3) h4) h5
          clear hbel hbel1 hc
          go_wp2_with fail
          go_loopg [20] t.size (fun g i wr => ∃ j : Nat, j ≤ t.size ∧ g = t.size - j ∧ i = .int .i64 j ∧ Below w5.heap.size w5 wr)
          case atStart => exact ⟨0, Nat.zero_le _, rfl, rfl, Below.refl _ _⟩
          case round =>
            obtain ⟨j, hj, hg, rfl, hbel5⟩ := hrel
            have HG2 := hid hg
            clear hg
            by_cases hjl : j < t.size
            · have n1 := HO.out.nat hjl
              have n2 := HOu.out.nat hjl
              obtain ⟨y, hy⟩ : ∃ y, y = (oo j).toNat := ⟨_, rfl⟩
              obtain ⟨z, hz⟩ : ∃ z, z = (ou j).toNat := ⟨_, rfl⟩
              rw [← hy] at n1
              rw [← hz] at n2
              have hs5 := h5.size
              have c1 : wr.cell? ⟨b4, f4 + j, none⟩ = some (.int .i64 (y : Int)) := by
                rw [hbel5.cell (p := ⟨b4, f4 + j, none⟩) (by show b4 < w5.heap.size; omega), h5.cell (p := ⟨b4, f4 + j, none⟩) hb4]
                exact HC4.out _ _ (by rw [outL_get _ _ _ hjl, n1.1])
              have c2 : wr.cell? ⟨b5, f5 + j, none⟩ = some (.int .i64 (z : Int)) := by
                rw [hbel5.cell (p := ⟨b5, f5 + j, none⟩) hb5]
                exact HC5.out _ _ (by rw [outL_get _ _ _ hjl, n2.1])
              have hyt := n1.2
              have hzt := n2.2
              have P1 := hid (show Pick ((y : Nat) : Int) (t.size : Int) = ((y : Nat) : Int) by rw [pick_nat, Nat.mod_eq_of_lt hyt])
              obtain ⟨r, hr⟩ : ∃ r, r = (z + x) % t.size := ⟨_, rfl⟩
              have hrt : r < t.size := by rw [hr]; exact Nat.mod_lt _ (by omega)
              have P2 := hid (show Pick ((z : Int) + (x : Int)) (t.size : Int) = ((r : Nat) : Int) by rw [pick_sum, hr])
              have heq : eqm (cycf t) t.size y r := by rw [hy, hr, hz]; exact turned_same t hxt HO.out HOu'.out j hjl
              obtain ⟨A, hA⟩ : ∃ A, A = mkS (rot t y) := ⟨_, rfl⟩
              have ea : t.extract y t.size ++ t.extract 0 y = A := by rw [rot_ext, hA]
              have eb : t.extract r t.size ++ t.extract 0 r = A := by rw [rot_ext, hA, rot_eqm t hyt hrt heq]
              have hyl : y ≤ t.size := by omega
              have hrl : r ≤ t.size := by omega
              clear n1 n2 hy hz hr heq hA
              go_wp2_with fail
              refine (pick13_any _ _ _ (by omega) (by omega) (by omega) (by omega)).mono ?_
              rintro e w' ⟨rfl, rfl⟩
              rw [P1.out]
              go_wp2_with fail
              refine (pick13_any _ _ _ (by omega) (by omega) (by omega) (by omega)).mono ?_
              rintro e w' ⟨rfl, rfl⟩
              rw [P2.out]
              go_wp2_with fail
              go_quiet (fail)
              go_wp2_with fail
              have hg := HG2.out
              go_roundg (t.size - (j + 1))
              case measure => omega
              case rel => exact ⟨j + 1, by omega, rfl, by go_num, bDrewN hbel5 _⟩
            · go_wp2_with fail
              have hg := HG.out
              go_roundg (2 - (k + 1))
              case measure => omega
              case rel => exact ⟨k + 1, by omega, rfl, by go_num, belT hB hbel5, belT hBc hbel5⟩
      · have hd : decide ((k : Int) < 2) = false := by simp; omega
        go_wp2
        go_ret
        exact ⟨rfl, hbel⟩

end Go.Proofs.Ythjmpiekjfnoiaa

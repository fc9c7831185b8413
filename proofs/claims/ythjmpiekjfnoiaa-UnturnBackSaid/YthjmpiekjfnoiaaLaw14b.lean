/-
  The walk of the statement UnturnBack.
-/
import Derived.Test.YthjmpiekjfnoiaaLaw13u
import Derived.Test.YthjmpiekjfnoiaaM14c
namespace Go.Proofs.Ythjmpiekjfnoiaa
open Go.RowKit

theorem back_orig (t : ByteArray) {o : Nat → Int} (h : Ord (cycf t) t.size t.size o) : backText (lastTo t o t.size) ((origTo o t.size : Nat) : Int) = t.data.toList ∧ backErr (lastTo t o t.size) ((origTo o t.size : Nat) : Int) = 0 := by
  have hl := lastTo_length t o t.size
  have hok : backOk (lastTo t o t.size) ((origTo o t.size : Nat) : Int) = true := by
    unfold backOk
    rcases Nat.eq_zero_or_pos t.size with h0 | h0
    · have := origTo_le o t.size
      simp only [Bool.and_eq_true, decide_eq_true_eq]; omega
    · have := (orig_spec h h0).1
      simp only [Bool.and_eq_true, decide_eq_true_eq]; omega
  refine ⟨?_, by unfold backErr; rw [if_pos hok]⟩
  unfold backText
  rw [if_pos hok, Int.toNat_natCast]
  rcases Nat.eq_zero_or_pos t.size with h0 | h0
  · have e1 : back (lastTo t o t.size) (origTo o t.size) = [] := List.eq_nil_of_length_eq_zero (by rw [back_length, hl, h0])
    have e2 : t.data.toList = [] := List.eq_nil_of_length_eq_zero (by simpa using h0)
    rw [e1, e2]
  · obtain ⟨h1, h2⟩ := orig_spec h h0
    rw [back_last h h1, h2]
    simp [rot]

set_option maxRecDepth 100000 in
set_option maxHeartbeats 1600000 in
theorem unturnBack_any (s : ByteArray) (v : Value) (raw : List Int) (o b : Int) (w : World) (_hs : s.size ≤ maxLen) (hr : RdI w v raw) (hwf : WfI raw) (ho1 : -9223372036854775808 ≤ o) (ho2 : o ≤ 9223372036854775807) (hb1 : -9223372036854775808 ≤ b) (hb2 : b ≤ 9223372036854775807) :
    Calls Try.prog 12 #[.string s, v, .int .i64 o, .int .i64 b] w fun e w' => e = .returned (.bool true) ∧ Below w.heap.size w w' := by
  unfold maxLen at _hs
  go_enter Try.func12, Try.ntmps12
  go_wp2_with fail
  refine (awake14_any _).mono ?_
  rintro e w1 ⟨rfl, h1⟩
  have hr1 := hr.below h1
  go_upto_region 2 with fail
  go_cut [30, 31, 32] (fun s30 s31 s32 wx => Pair w wx s30 60 100 ∧ s31 = .int .i64 2 ∧ s32 = .int .i64 0)
  case first =>
    obtain ⟨m, hmi, hm1, hm2⟩ := minOf s.size 60 (by decide)
    have hmi2 : min (s.size : Int) 60 = (m : Int) := by rw [← hmi, Int.min_def]; split <;> split <;> omega
    go_region_with (go_at_call 16; refine (text13_any _ raw _ _ _ ?_ hwf ?_ ?_ ?_ ?_).mono ?_; (first | exact hr1 | exact hr1.below ((Below.refl _ _).drew)); decide; decide; exact ho1; exact ho2; rintro e w2 ⟨t, rfl, ht, h2⟩)
    all_goals go_wp2_with fail
    all_goals go_meet
    all_goals have h2' : Below w1.heap.size w1 w2 := by first | exact h2 | exact (Below.refl _ _).drew.trans h2
    all_goals exact ⟨⟨w2.heap.size, s.extract 0 m, t, rfl, Arr.new w2 _ [.string _, .string _], by simp; omega, by omega, belA (belT h1 h2') _, (belT h1 h2').size⟩, rfl, rfl⟩
  case rest =>
    obtain ⟨⟨pb, t0, t1, rfl, harr, hz0, hz1, hbel, hpb⟩, rfl, rfl⟩ := hcut
    clear hr hr1 h1 hwf _hs
    have hp0 := harr.cell (i := 0) rfl
    have hp1 := harr.cell (i := 1) rfl
    have hpl := harr.lt
    clear harr
    go_wp2
    go_loopg [32] 2 (fun g i wr => ∃ k : Nat, k ≤ 2 ∧ g = 2 - k ∧ i = .int .i64 k ∧ Below w.heap.size w wr ∧ Below wc.heap.size wc wr)
    case atStart => exact ⟨0, by omega, rfl, rfl, hbel, Below.refl _ _⟩
    case round =>
      clear hbel
      obtain ⟨k, hk, hg, rfl, hbel, hbel1⟩ := hrel
      by_cases hlt : k < 2
      · obtain ⟨t, ht, hc⟩ : ∃ t : ByteArray, t.size ≤ 100 ∧ wr.cell? ⟨pb, k, none⟩ = some (.string t) := by
          rcases (show k = 0 ∨ k = 1 by omega) with rfl | rfl
          · exact ⟨t0, by omega, by rw [hbel1.cell (p := ⟨pb, 0, none⟩) hpl]; exact hp0⟩
          · exact ⟨t1, by omega, by rw [hbel1.cell (p := ⟨pb, 1, none⟩) hpl]; exact hp1⟩
        have hd : decide ((k : Int) < 2) = true := by simp; omega
        clear hp0 hp1 hz0 hz1
        have HG := hid hg
        clear hg
        go_wp2_with fail
        refine (forward_any t _ (by omega)).mono ?_
        rintro e w2 ⟨oo, hO, rfl, h2⟩
        obtain ⟨hbt, hbe⟩ := back_orig t hO
        obtain ⟨q, hq⟩ : ∃ q, q = origTo oo t.size := ⟨_, rfl⟩
        obtain ⟨L, hL⟩ : ∃ L, L = mkS (lastTo t oo t.size) := ⟨_, rfl⟩
        rw [← hq, ← hL]
        have hqt : q ≤ t.size := by rw [hq]; exact origTo_le _ _
        have hLs : L.size = t.size := by rw [hL, mkS_size, lastTo_length]
        have hLd : L.data.toList = lastTo t oo t.size := by rw [hL]; rfl
        rw [← hq, ← hLd] at hbt hbe
        have HO := hid hO
        have HL := hid hLd
        clear hO hq hL hLd
        go_wp2_with fail
        refine (back_any L ((q : Nat) : Int) _ (by omega) (by omega) (by omega)).mono ?_
        rintro e w3 ⟨rfl, h3⟩
        rw [hbt, hbe, mkS_of]
        clear hbt hbe
        have hB := belT (belT hbel h2) h3
        have hBc := belT (belT hbel1 h2) h3
        clear hbel hbel1 hc
        by_cases hemp : t.toList.isEmpty = true
        · go_wp2_with fail
          have hg := HG.out
          go_roundg (2 - (k + 1))
          case measure => omega
          case rel => exact ⟨k + 1, by omega, rfl, by go_num, hB, hBc⟩
        · have hemp0 : t.toList.isEmpty = false := by simpa using hemp
          have htp := ne_empty hemp0
          clear hemp
          obtain ⟨hq1, hq2⟩ := Pick_bd b t.size (by omega)
          obtain ⟨x, hx⟩ := Int.eq_ofNat_of_zero_le hq1
          have HX := hid hx
          rw [hx] at hq2
          have hxt : x < t.size := by omega
          clear hx hq1 hq2
          go_wp2_with fail
          refine (pick14_any _ _ _ hb1 hb2 (by omega) (by omega)).mono ?_
          rintro e w' ⟨rfl, rfl⟩
          rw [HX.out]
          go_wp2_with fail
          refine (order_any t _ (by omega)).mono ?_
          rintro e w4 ⟨v4, o4, rfl, hO4, hv4, h4⟩
          rw [outL_congr (hO4.uniq HO.out)] at hv4
          obtain ⟨va, vc, rfl, hvc, hvm, hvA⟩ := hv4.rd.open
          rw [outL_length] at hvA hvc ⊢
          obtain ⟨b4, f4, rfl, hb4, hc4⟩ := hvA (by omega)
          simp only [maxLen] at hvm
          have n1 := HO.out.nat hxt
          obtain ⟨y, hy⟩ : ∃ y, y = (oo x).toNat := ⟨_, rfl⟩
          rw [← hy] at n1
          have c0 := hc4 x _ (by rw [outL_get _ _ _ hxt, n1.1])
          have hyt := n1.2
          obtain ⟨A, hA⟩ : ∃ A, A = mkS (rot t y) := ⟨_, rfl⟩
          have hbk : mkS (back L.data.toList x) = A := by rw [HL.out, back_last HO.out hxt, hA, hy]
          have ea : t.extract y t.size ++ t.extract 0 y = A := by rw [rot_ext, hA]
          have P1 := hid (show Pick ((y : Nat) : Int) (t.size : Int) = ((y : Nat) : Int) by rw [pick_nat, Nat.mod_eq_of_lt hyt])
          have hyl : y ≤ t.size := by omega
          have HBK := hid hbk
          clear hO4 hv4 hvA hc4 n1 hy hA hbk
          go_wp2_with fail
          refine (back_valid L x _ (by omega) (by omega)).mono ?_
          rintro e w5 ⟨rfl, h5⟩
          rw [HBK.out]
          have c1 : w5.cell? ⟨b4, f4 + x, none⟩ = some (.int .i64 (y : Int)) := by
            rw [h5.cell (p := ⟨b4, f4 + x, none⟩) hb4]; exact c0
          have g1 : ((t.size : Int) != (t.size : Int)) = false := by simp
          clear c0
          go_wp2_with fail
          refine (pick14_any _ _ _ (by omega) (by omega) (by omega) (by omega)).mono ?_
          rintro e w' ⟨rfl, rfl⟩
          rw [P1.out]
          go_wp2_with fail
          go_quiet (fail)
          go_wp2_with fail
          have hg := HG.out
          go_roundg (2 - (k + 1))
          case measure => omega
          case rel => exact ⟨k + 1, by omega, rfl, by go_num, bDrewN (belT (belT hB h4) h5) _, bDrewN (belT (belT hBc h4) h5) _⟩
      · have hd : decide ((k : Int) < 2) = false := by simp; omega
        go_wp2
        go_ret
        exact ⟨rfl, hbel⟩

end Go.Proofs.Ythjmpiekjfnoiaa

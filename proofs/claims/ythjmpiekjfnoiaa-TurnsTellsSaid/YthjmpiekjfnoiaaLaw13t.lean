/-
  The walk of the statement TurnsTells.
-/
import Derived.Test.YthjmpiekjfnoiaaLaw13
import Derived.Test.YthjmpiekjfnoiaaW13h
namespace Go.Proofs.Ythjmpiekjfnoiaa
open Go.RowKit

set_option maxRecDepth 100000 in
set_option maxHeartbeats 1600000 in
theorem turnsTells_any (s : ByteArray) (v : Value) (raw : List Int) (o : Int) (w : World) (_hs : s.size ≤ maxLen) (hr : RdI w v raw) (hwf : WfI raw) (ho1 : -9223372036854775808 ≤ o) (ho2 : o ≤ 9223372036854775807) :
    Calls Try.prog 6 #[.string s, v, .int .i64 o] w fun e w' => e = .returned (.bool true) ∧ Below w.heap.size w w' := by
  unfold maxLen at _hs
  go_enter Try.func6, Try.ntmps6
  go_wp2_with fail
  refine (awake13_any _).mono ?_
  rintro e w1 ⟨rfl, h1⟩
  have hr1 := hr.below h1
  go_upto_region 2 with fail
  go_cut [23, 24, 25] (fun s23 s24 s25 wx => Pair w wx s23 40 80 ∧ s24 = .int .i64 2 ∧ s25 = .int .i64 0)
  case first =>
    obtain ⟨m, hmi, hm1, hm2⟩ := minOf s.size 40 (by decide)
    have hmi2 : min (s.size : Int) 40 = (m : Int) := by rw [← hmi, Int.min_def]; split <;> split <;> omega
    go_region_with (go_at_call 16; refine (text13_any _ raw _ _ _ ?_ hwf ?_ ?_ ?_ ?_).mono ?_; (first | exact hr1 | exact hr1.below ((Below.refl _ _).drew)); decide; decide; exact ho1; exact ho2; rintro e w2 ⟨t, rfl, ht, h2⟩)
    all_goals go_wp2_with fail
    all_goals go_meet
    all_goals have h2' : Below w1.heap.size w1 w2 := by first | exact h2 | exact (Below.refl _ _).drew.trans h2
    all_goals exact ⟨⟨w2.heap.size, s.extract 0 m, t, rfl, Arr.new w2 _ [.string _, .string _], by simp; omega, by omega, belA (belT h1 h2') _, (belT h1 h2').size⟩, rfl, rfl⟩
  case rest =>
    obtain ⟨⟨pb, t0, t1, rfl, harr, hz0, hz1, hbel, hpb⟩, rfl, rfl⟩ := hcut
    clear hr hr1 h1 hwf _hs
    have hp0 := harr.cell (i := 0) rfl
    have hp1 := harr.cell (i := 1) rfl
    have hpl := harr.lt
    clear harr
    go_wp2
    go_loopg [25] 2 (fun g i wr => ∃ k : Nat, k ≤ 2 ∧ g = 2 - k ∧ i = .int .i64 k ∧ Below w.heap.size w wr ∧ Below wc.heap.size wc wr)
    case atStart => exact ⟨0, by omega, rfl, rfl, hbel, Below.refl _ _⟩
    case round =>
      clear hbel
      obtain ⟨k, hk, hg, rfl, hbel, hbel1⟩ := hrel
      by_cases hlt : k < 2
      · obtain ⟨t, ht, hc⟩ : ∃ t : ByteArray, t.size ≤ 80 ∧ wr.cell? ⟨pb, k, none⟩ = some (.string t) := by
          rcases (show k = 0 ∨ k = 1 by omega) with rfl | rfl
          · exact ⟨t0, by omega, by rw [hbel1.cell (p := ⟨pb, 0, none⟩) hpl]; exact hp0⟩
          · exact ⟨t1, by omega, by rw [hbel1.cell (p := ⟨pb, 1, none⟩) hpl]; exact hp1⟩
        have hd : decide ((k : Int) < 2) = true := by simp; omega
        clear hp0 hp1 hz0 hz1
        have HG := hid hg
        clear hg
        go_wp2_with fail
        refine (forward_any t _ (by omega)).mono ?_
        rintro e w2 ⟨oo, hO, rfl, h2⟩
        have HO := hid hO
        clear hO
        obtain ⟨q, hq⟩ : ∃ q, q = origTo oo t.size := ⟨_, rfl⟩
        obtain ⟨L, hL⟩ : ∃ L, L = mkS (lastTo t oo t.size) := ⟨_, rfl⟩
        rw [← hq, ← hL]
        have HQ := hid hq
        have HL := hid hL
        clear hq hL
        go_wp2_with fail
        refine (refForward_any t _ (by omega) (fun w => refOrder_any t w (by omega))).mono ?_
        rintro e w3 ⟨oo', hO', rfl, h3⟩
        rw [lastTo_congr (hO'.uniq HO.out), origTo_congr (hO'.uniq HO.out), ← HQ.out, ← HL.out]
        clear hO'
        go_wp2_with fail
        refine (order_any t _ (by omega)).mono ?_
        rintro e w4 ⟨v4, o4, rfl, hO4, hv4, h4⟩
        rw [outL_congr (hO4.uniq HO.out)] at hv4
        have HV4 := hid hv4.rd
        clear hO4 hv4
        go_wp2_with fail
        refine (refOrder_any t _ (by omega)).mono ?_
        rintro e w5 ⟨v5, o5, rfl, hO5, hv5, h5⟩
        rw [outL_congr (hO5.uniq HO.out)] at hv5
        have HV5 := hid hv5.rd
        clear hO5 hv5
        go_wp2_with fail
        refine (ints_same _ _ (outL t.size oo) _ (HV4.out.below h5) HV5.out).mono ?_
        rintro e w6 ⟨rfl, h6⟩
        go_wp2_with fail
        have hg := HG.out
        go_roundg (2 - (k + 1))
        case measure => omega
        case rel => exact ⟨k + 1, by omega, rfl, by go_num, belT (belT (belT (belT (belT hbel h2) h3) h4) h5) h6, belT (belT (belT (belT (belT hbel1 h2) h3) h4) h5) h6⟩
      · have hd : decide ((k : Int) < 2) = false := by simp; omega
        go_wp2
        go_ret
        exact ⟨rfl, hbel⟩

end Go.Proofs.Ythjmpiekjfnoiaa

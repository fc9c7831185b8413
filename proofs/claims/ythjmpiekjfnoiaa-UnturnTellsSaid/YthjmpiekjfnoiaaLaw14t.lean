/-
  The walk of the statement UnturnTells.
-/
import Derived.Test.YthjmpiekjfnoiaaLaw14
namespace Go.Proofs.Ythjmpiekjfnoiaa
open Go.RowKit

set_option maxRecDepth 100000 in
set_option maxHeartbeats 800000 in
theorem unturnTells_any (s : ByteArray) (v : Value) (raw : List Int) (o : Int) (w : World) (_hs : s.size ≤ maxLen) (hr : RdI w v raw) (hwf : WfI raw) (ho1 : -9223372036854775808 ≤ o) (ho2 : o ≤ 9223372036854775807) :
    Calls Try.prog 3 #[.string s, v, .int .i64 o] w fun e w' => e = .returned (.bool true) ∧ Below w.heap.size w w' := by
  unfold maxLen at _hs
  go_enter Try.func3, Try.ntmps3
  go_wp2_with fail
  refine (awake14_any _).mono ?_
  rintro e w1 ⟨rfl, h1⟩
  have hr1 := hr.below h1
  go_upto_region 2 with fail
  go_cut [24, 25, 26] (fun s24 s25 s26 wx => Pair w wx s24 60 100 ∧ s25 = .int .i64 2 ∧ s26 = .int .i64 0)
  case first =>
    obtain ⟨m, hmi, hm1, hm2⟩ := minOf s.size 60 (by decide)
    go_region_with (go_at_call 16; refine (text13_any _ raw _ _ _ ?_ hwf ?_ ?_ ?_ ?_).mono ?_; (first | exact hr1 | exact hr1.below ((Below.refl _ _).drew)); decide; decide; decide; decide; rintro e w2 ⟨t, rfl, ht, h2⟩)
    all_goals go_wp2_with fail
    all_goals go_meet
    all_goals have h2' : Below w1.heap.size w1 w2 := by first | exact h2 | exact (Below.refl _ _).drew.trans h2
    all_goals exact ⟨⟨w2.heap.size, s.extract 0 m, t, rfl, Arr.new w2 _ [.string _, .string _], by simp; omega, by omega, belA (belT h1 h2') _, (belT h1 h2').size⟩, rfl, rfl⟩
  case rest =>
    obtain ⟨⟨pb, t0, t1, rfl, harr, hz0, hz1, hbel, hpb⟩, rfl, rfl⟩ := hcut
    clear hr hr1 h1 hwf _hs
    have hp0 := harr.cell (i := 0) rfl
    have hp1 := harr.cell (i := 1) rfl
    have hpl := harr.lt
    clear harr
    go_wp2
    go_loopg [26] 2 (fun g i wr => ∃ k : Nat, k ≤ 2 ∧ g = 2 - k ∧ i = .int .i64 k ∧ Below w.heap.size w wr ∧ Below wc.heap.size wc wr)
    case atStart => exact ⟨0, by omega, rfl, rfl, hbel, Below.refl _ _⟩
    case round =>
      clear hbel
      obtain ⟨k, hk, hg, rfl, hbel, hbel1⟩ := hrel
      by_cases hlt : k < 2
      · obtain ⟨t, ht, hc⟩ : ∃ t : ByteArray, t.size ≤ 100 ∧ wr.cell? ⟨pb, k, none⟩ = some (.string t) := by
          rcases (show k = 0 ∨ k = 1 by omega) with rfl | rfl
          · exact ⟨t0, by omega, by rw [hbel1.cell (p := ⟨pb, 0, none⟩) hpl]; exact hp0⟩
          · exact ⟨t1, by omega, by rw [hbel1.cell (p := ⟨pb, 1, none⟩) hpl]; exact hp1⟩
        have hd : decide ((k : Int) < 2) = true := by simp; omega
        clear hp0 hp1 hz0 hz1
        have HL := hid (show t.data.toList.length = t.size by simp)
        have HG := hid hg
        clear hg
        go_wp2_with fail
        refine (vector_any t _ (by omega)).mono ?_
        rintro e w3 ⟨v1, rfl, hv1, h3⟩
        go_wp2_with fail
        refine (refVector_any t _ (by omega)).mono ?_
        rintro e w4 ⟨v2, rfl, hv2, h4⟩
        go_wp2_with fail
        refine (ints_same _ _ _ _ (hv1.rd.below h4) hv2.rd).mono ?_
        rintro e w5 ⟨rfl, h5⟩
        go_wp2_with fail
        refine (cycles_any t _ (by omega)).mono ?_
        rintro e w6 ⟨rfl, h6⟩
        go_wp2_with fail
        refine (refCycles_any t _ (by omega)).mono ?_
        rintro e w7 ⟨rfl, h7⟩
        have f0 : (((cyc t.data.toList : Nat) : Int) != ((cyc t.data.toList : Nat) : Int)) = false := by simp
        go_wp2_with fail
        obtain ⟨hp1, hp2⟩ := Pick_bd o 90 (by decide)
        refine (pick14_any _ _ _ (by omega) (by omega) (by omega) (by omega)).mono ?_
        rintro e w' ⟨rfl, rfl⟩
        go_wp2_with fail
        have ha := Arr.new w7 3 [.int .i64 o, .int .i64 (Pick o 90 - 2)]
        have hal := ha.lt
        have hq0 := ha.cell (i := 0) rfl
        have hq1 := ha.cell (i := 1) rfl
        have hB := belA (belT (belT (belT (belT (belT hbel h3) h4) h5) h6) h7) (.cells #[.int .i64 o, .int .i64 (Pick o 90 - 2)] 3)
        have hBc := belA (belT (belT (belT (belT (belT hbel1 h3) h4) h5) h6) h7) (.cells #[.int .i64 o, .int .i64 (Pick o 90 - 2)] 3)
        clear ha hv1 hv2
        obtain ⟨wl, hwl⟩ : ∃ wl, wl = w7.alloc (.cells #[.int .i64 o, .int .i64 (Pick o 90 - 2)] 3) := ⟨_, rfl⟩
        have hq0' : wl.cell? ⟨w7.heap.size, 0, none⟩ = some (.int .i64 o) := by rw [hwl]; exact hq0
        have hq1' : wl.cell? ⟨w7.heap.size, 1, none⟩ = some (.int .i64 (Pick o 90 - 2)) := by rw [hwl]; exact hq1
        have hal' : w7.heap.size < wl.heap.size := by rw [hwl]; exact hal
        have hB' : Below w.heap.size w wl := by rw [hwl]; exact hB
        have hBc' : Below wc.heap.size wc wl := by rw [hwl]; exact hBc
        rw [← hwl]
        clear hwl hq0 hq1 hal hB hBc
        go_loopg [49] 2 (fun g i wr => ∃ j : Nat, j ≤ 2 ∧ g = 2 - j ∧ i = .int .i64 j ∧ Below w.heap.size w wr ∧ Below wc.heap.size wc wr ∧ Below wl.heap.size wl wr)
        case atStart => exact ⟨0, by omega, rfl, rfl, hB', hBc', Below.refl _ _⟩
        case round =>
          clear hB' hBc' hbel hbel1 hc
          obtain ⟨j, hj, hg2, rfl, hbel, hbel1, hbel2⟩ := hrel
          have HG2 := hid hg2
          clear hg2
          by_cases hlj : j < 2
          · obtain ⟨x, hx1, hx2, hc⟩ : ∃ x : Int, -9223372036854775808 ≤ x ∧ x ≤ 9223372036854775807 ∧ wr.cell? ⟨w7.heap.size, j, none⟩ = some (.int .i64 x) := by
              rcases (show j = 0 ∨ j = 1 by omega) with rfl | rfl
              · exact ⟨o, ho1, ho2, by rw [hbel2.cell (p := ⟨w7.heap.size, 0, none⟩) hal']; exact hq0'⟩
              · exact ⟨Pick o 90 - 2, by omega, by omega, by rw [hbel2.cell (p := ⟨w7.heap.size, 1, none⟩) hal']; exact hq1'⟩
            have hd2 : decide ((j : Int) < 2) = true := by simp; omega
            clear hq0' hq1'
            go_wp2_with fail
            refine (back_any t _ _ (by omega) hx1 hx2).mono ?_
            rintro e w8 ⟨rfl, h8⟩
            go_wp2_with fail
            refine (refBack_any t _ _ (by omega) hx1 hx2).mono ?_
            rintro e w9 ⟨rfl, h9⟩
            go_wp2
            have hg2 := HG2.out
            go_roundg (2 - (j + 1))
            case measure => omega
            case rel => exact ⟨j + 1, by omega, rfl, by go_num, belT (belT hbel h8) h9, belT (belT hbel1 h8) h9, belT (belT hbel2 h8) h9⟩
          · have hd2 : decide ((j : Int) < 2) = false := by simp; omega
            go_wp2
            have hg := HG.out
            go_roundg (2 - (k + 1))
            case measure => omega
            case rel => exact ⟨k + 1, by omega, rfl, by go_num, hbel, hbel1⟩
      · have hd : decide ((k : Int) < 2) = false := by simp; omega
        go_wp2
        go_ret
        exact ⟨rfl, hbel⟩

end Go.Proofs.Ythjmpiekjfnoiaa

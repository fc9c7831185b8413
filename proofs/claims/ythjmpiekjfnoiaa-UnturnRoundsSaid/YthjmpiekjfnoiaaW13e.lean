/-
  The walk of Order, of the empty text.
-/
import Derived.Test.YthjmpiekjfnoiaaW13c
namespace Go.Proofs.Ythjmpiekjfnoiaa
open Go.RowKit

theorem empty_of {s : ByteArray} (h : s.size = 0) : s = mkS [] := by
  apply eq_mkS
  apply List.eq_nil_of_length_eq_zero
  simpa using h

set_option maxRecDepth 100000 in
set_option maxHeartbeats 1600000 in
theorem order_nil (w : World) :
    Calls Try.prog 28 #[.string (mkS [])] w fun e w' => e = .returned (.slice none 0 0) ∧ Below w.heap.size w w' := by
  have hz : (mkS []).size = 0 := rfl
  obtain ⟨s, hs⟩ : ∃ s, s = mkS [] := ⟨_, rfl⟩
  rw [← hs] at hz ⊢
  clear hs
  go_enter Try.func28, Try.ntmps28
  go_wp2_with (at_make; refine mkA elInt rfl _ _ rfl 0 rfl rfl ?_ ?_; omega)
  go_loopg [2, 4, 15] 0 (fun _gh s2 _s4 s15 wr => s15 = .int .i64 0 ∧ s2 = .slice none 0 0 ∧
      Arr wr (w.heap.size + 1) 48 [.string s, .slice (some ⟨w.heap.size, 0, none⟩) 0 0, .int .i64 0] ∧
      Below w.heap.size w wr ∧ w.heap.size + 2 ≤ wr.heap.size)
  case atStart =>
    refine ⟨rfl, rfl, ?_, (belowNew _ _).trans ((Below.refl _ _).alloc (by simp) _), by simp⟩
    have := Arr.new (w.alloc (.cells (zeros (.int .i64 0) 0) 3)) 48 [.string s, .slice (some ⟨w.heap.size, 0, none⟩) 0 0, .int .i64 0]
    rwa [World.size_alloc] at this
  case round =>
    obtain ⟨rfl, rfl, hst, hbel, hsz⟩ := hrel
    obtain ⟨wo, rfl⟩ : ∃ wo : World, wo = wr := ⟨_, rfl⟩
    go_wp2_with fail
    go_loopg [2, 5, 6] 0 (fun _gh s2 _s5 _s6 wr => s2 = .slice none 0 0 ∧ wo = wr)
    case atStart => exact ⟨rfl, rfl⟩
    case round =>
      obtain ⟨rfl, rfl⟩ := hrel
      go_wp2_with fail
      refine (Try.slices_Sort_int_none none 0 _).mono ?_
      rintro e w1 ⟨rfl, h⟩
      subst h
      have c0 := hst.cell (i := 0) rfl
      have c1 := hst.cell (i := 1) rfl
      have c2 := hst.cell (i := 2) rfl
      go_wp2_with fail
      refine (sort_nil none 0 _ _ _).mono ?_
      rintro e w2 ⟨rfl, hb2⟩
      have hst2 := hst.below hb2 hst.lt
      have hbel2 := hbel.trans (hb2.mono hbel.size)
      have hsz2 := hb2.size
      clear hst hbel c0 c1 c2
      go_wp2_with (at_make; refine mkA elInt rfl _ _ rfl 0 rfl rfl ?_ ?_; omega)
      go_loopg [6] 0 (fun _gh s6 wr => s6 = .int .i64 1 ∧ Arr wr (w.heap.size + 1) 48 [.string s, .slice (some ⟨w.heap.size, 0, none⟩) 0 0, .int .i64 0] ∧ Below w.heap.size w wr)
      case atStart => exact ⟨rfl, hst2.alloc _, hbel2.alloc hbel2.size _⟩
      case round =>
        obtain ⟨rfl, hst, hbel⟩ := hrel
        have c0 := hst.cell (i := 0) rfl
        have c1 := hst.cell (i := 1) rfl
        have c2 := hst.cell (i := 2) rfl
        have f1 := hst.free 1
        have f2 := hst.free 2
        go_wp2_with fail
        go_ret
        exact ⟨rfl, (hbel.setCell (by show w.heap.size ≤ w.heap.size + 1; omega) _).setCell (by show w.heap.size ≤ w.heap.size + 1; omega) _⟩

end Go.Proofs.Ythjmpiekjfnoiaa

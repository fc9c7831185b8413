/-
  The cells of a row of blocks.
-/
import Derived.Test.YtpgmbhpbgkljdaaGreatDoorP17cZ
set_option linter.unusedVariables false
set_option linter.unusedSimpArgs false
namespace Go.Proofs.YtpgmbhpbgkljdaaGreatDoor
open Go.RowKit Go Go.Shelf

/-- A block of a row of blocks. -/
theorem blk_cells {w : World} {v : Value} {l : List Prt} (h : RdR w v (l.map blkC)) : ∃ a cap, v = .slice a l.length cap ∧ l.length ≤ cap ∧ cap ≤ maxLen ∧
    (0 < l.length → ∃ b off, a = some ⟨b, off, none⟩ ∧ b < w.heap.size ∧ ∀ j p, l[j]? = some p → w.cell? ⟨b, off + j * 4, none⟩ = some (.string p.t) ∧ w.cell? ⟨b, off + j * 4 + 1, none⟩ = some (.int .u32 p.y) ∧ w.cell? ⟨b, off + j * 4 + 2, none⟩ = some (.int .i64 p.a) ∧ w.cell? ⟨b, off + j * 4 + 3, none⟩ = some (.int .i64 p.z)) := by
  obtain ⟨a, cap, hv, h1, h2, h3⟩ := h.open (blkC_wide l) (by decide)
  rw [List.length_map] at hv h1 h3
  refine ⟨a, cap, hv, h1, h2, fun hl => ?_⟩
  obtain ⟨b, off, ha, hb, hc⟩ := h3 hl
  refine ⟨b, off, ha, hb, fun j p hj => ?_⟩
  have e : (l.map blkC)[j]? = some (blkC p) := by rw [List.getElem?_map, hj]; rfl
  have c := fun i u hi => hc j (blkC p) i u e hi
  refine ⟨c 0 _ rfl, ?_, ?_, ?_⟩
  · rw [Nat.add_assoc]; exact c 1 _ rfl
  · rw [Nat.add_assoc]; exact c 2 _ rfl
  · rw [Nat.add_assoc]; exact c 3 _ rfl

end Go.Proofs.YtpgmbhpbgkljdaaGreatDoor

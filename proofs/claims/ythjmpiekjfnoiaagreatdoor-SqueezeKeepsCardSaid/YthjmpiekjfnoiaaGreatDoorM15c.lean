/-
  The mathematics of the statement SqueezeKeeps: what is said of a text that is restored.
-/
import Derived.Test.YthjmpiekjfnoiaaGreatDoorZ7
namespace Go.Proofs.YthjmpiekjfnoiaaGreatDoor
open Go.RowKit

/-- What a text that is restored has. -/
structure Kept (a : ByteArray) (l : List Int) (most : Int) (t : ByteArray) : Prop where
  pos : 0 < t.size
  tm : (t.size : Int) ≤ most
  len : t.size = (zexL l).length
  two : 2 ≤ l.length
  last : l[l.length - 1]? = some ((a.size : Int) + 1)
  sym : ∀ x ∈ l.take (l.length - 1), 0 ≤ x ∧ x < (a.size : Int) + 1
  asz : a.size ≤ 256
  alph : mkS (alph (a ++ t).data.toList) = a

theorem toList_app (a t : ByteArray) : (a ++ t).data.toList = a.data.toList ++ t.data.toList := by simp

theorem back_mem {s : List UInt8} {o : Nat} (h : o < s.length) : ∀ b ∈ back s o, b ∈ s := fun b hb => by
  obtain ⟨i, _, rfl⟩ := List.mem_map.1 hb
  have hlt := walkN_lt s o h (i + 1)
  rw [List.getD_eq_getElem?_getD, List.getElem?_eq_getElem hlt]
  exact List.getElem_mem hlt

/-- Whatever is restored: an error and nothing, or a text that is kept. -/
theorem rest_keep (a : ByteArray) (o : Int) (l : List Int) (most : Int) :
    (∃ e, rest a o l most = (emptyS, e) ∧ e ≠ 0) ∨ ∃ t, rest a o l most = (t, 0) ∧ Kept a l most t := by
  by_cases h1 : a.data.toList ≠ [] ∧ Go.Proofs.YthjmpiekjfnoiaaGreatDoor.alph a.data.toList = a.data.toList
  rotate_left
  · exact .inl ⟨1, rest_arg h1, by decide⟩
  by_cases h2 : mayP l ((a.size : Int) + 1)
  rotate_left
  · exact .inl ⟨3, rest_form h1 h2, by decide⟩
  by_cases h3 : ((zexL l).length : Int) ≤ most
  rotate_left
  · exact .inl ⟨4, rest_long h1 h2 h3, by decide⟩
  by_cases h4 : 0 ≤ o ∧ o < ((zexL l).length : Int)
  rotate_left
  · exact .inl ⟨3, rest_orig h1 h2 h3 h4, by decide⟩
  refine .inr ⟨_, rest_ok h1 h2 h3 h4, ?_⟩
  have hal : a.data.toList.length = a.size := by rw [Array.length_toList]; rfl
  have hap : 0 < a.size := by rw [← hal]; exact List.length_pos_iff.2 h1.1
  have hul : (unL a.data.toList (zexL l)).length = (zexL l).length := unL_length _ _
  have hbl : (back (unL a.data.toList (zexL l)) o.toNat).length = (zexL l).length := by rw [back_length, hul]
  have hmem : ∀ b ∈ back (unL a.data.toList (zexL l)) o.toNat, b ∈ a.data.toList := fun b hb =>
    unL_mem _ _ (by rw [hal]; exact zexL_range h2 hap) b (back_mem (by rw [hul]; omega) b hb)
  refine ⟨by rw [mkS_size, hbl]; omega, by rw [mkS_size, hbl]; exact h3, by rw [mkS_size, hbl], ?_, h2.2.1, h2.2.2, ?_, ?_⟩
  · rcases Nat.lt_or_ge l.length 2 with q | q
    · have e : zexL l = [] := by
        unfold zexL
        rw [show l.length - 1 = 0 by omega]; rfl
      rw [e] at h4
      simp at h4
      omega
    · exact q
  · rw [← hal, ← h1.2]; exact alph_le _
  · rw [toList_app, mkS_toList, alph_congr (t := a.data.toList), h1.2, mkS_of]
    intro b
    rw [List.mem_append]
    exact ⟨fun h => h.elim id (hmem b), .inl⟩

theorem Kept.dec {a t : ByteArray} {l : List Int} {most : Int} (h : Kept a l most t) : decE (l.take (l.length - 1)) most = 0 ∧ (decL (l.take (l.length - 1)) most).length = t.size := by
  have e : ((zexp (l.take (l.length - 1))).length : Int) ≤ most := by
    have := h.tm; rw [h.len] at this; exact this
  unfold decE decL
  rw [if_pos e, if_pos e]
  exact ⟨rfl, h.len.symm⟩

theorem Kept.own {a t : ByteArray} {l : List Int} {most : Int} (h : Kept a l most t) (hO : OrdS t) : sqE t = 0 ∧ rest (sqA t) (sqO t) (sqS t) (t.size : Int) = (t, 0) :=
  ⟨sqE_pos h.pos, rest_sq h.pos hO (Int.le_refl _)⟩

end Go.Proofs.YthjmpiekjfnoiaaGreatDoor

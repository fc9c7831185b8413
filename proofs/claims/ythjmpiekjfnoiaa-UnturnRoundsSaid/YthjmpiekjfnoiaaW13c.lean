/-
  The library's sort of integers, on places in any order; rows owned, and known by a function of the place.
-/
import Derived.Test.YthjmpiekjfnoiaaW13b
namespace Go.Proofs.Ythjmpiekjfnoiaa
open Go.RowKit

def outL (n : Nat) (o : Nat → Int) : List Int := (List.range n).map o
theorem outL_length (n : Nat) (o : Nat → Int) : (outL n o).length = n := by simp [outL]
theorem outL_get (n : Nat) (o : Nat → Int) (k : Nat) (h : k < n) : (outL n o)[k]? = some (o k) := by simp [outL, h]
theorem outL_succ (n : Nat) (o : Nat → Int) : outL (n + 1) o = outL n o ++ [o n] := by simp [outL, List.range_succ]
theorem outL_congr {n : Nat} {o o' : Nat → Int} (h : ∀ k, k < n → o k = o' k) : outL n o = outL n o' := by
  unfold outL
  exact List.map_congr_left (fun k hk => h k (by simpa using hk))
theorem outL_of (l : List Int) : outL l.length (fun k => l.getD k 0) = l := by
  apply List.ext_getElem?
  intro k
  by_cases h : k < l.length
  · rw [outL_get _ _ _ h]; simp [List.getD, List.getElem?_eq_getElem h]
  · rw [List.getElem?_eq_none (by rw [outL_length]; omega), List.getElem?_eq_none (by omega)]

theorem take_of_cells {cur : Array Value} {n : Nat} {f : Nat → Int} (hn : n ≤ cur.size) (h : ∀ k, k < n → cur[k]? = some (.int .i64 (f k))) : cur.toList.take n = (outL n f).map (Value.int .i64) := by
  apply List.ext_getElem?
  intro k
  by_cases hk : k < n
  · rw [List.getElem?_take_of_lt hk, Array.getElem?_toList, h k hk, List.getElem?_map, outL_get _ _ _ hk]; rfl
  · rw [List.getElem?_eq_none (by simp; omega), List.getElem?_eq_none (by simp [outL]; omega)]

theorem dat_of_own {w : World} {B : Nat} {v : Value} {l : List Int} (h : OwI w B v l) (hl : l ≠ []) :
    ∃ g cap, v = .slice (some ⟨g, 0, none⟩) l.length cap ∧ B ≤ g ∧ Dat w g cap l.length (fun k => l.getD k 0) ∧ cap ≤ maxLen := by
  obtain ⟨hlen, h⟩ := h
  rw [List.length_map] at h
  rcases h with ⟨rfl, hn⟩ | ⟨g, cap, cur, rfl, hb, hg, hnc, hcm, hcs, ht⟩
  · exact absurd (by cases l with | nil => rfl | cons x l => simp at hn) hl
  · refine ⟨g, cap, rfl, hb, ⟨cur, hg, by omega, hnc, fun k hk => ?_⟩, hcm⟩
    have : (cur.toList.take l.length)[k]? = (l.map (Value.int .i64))[k]? := by rw [← ht, Nat.mul_one]
    rw [List.getElem?_take_of_lt hk, Array.getElem?_toList] at this
    rw [this]; simp [List.getD, List.getElem?_eq_getElem hk]

theorem own_of_dat {w : World} {B g cap n : Nat} {f : Nat → Int} (h : Dat w g cap n f) (hB : B ≤ g) (hcap : cap ≤ maxLen) : OwI w B (.slice (some ⟨g, 0, none⟩) n cap) (outL n f) := by
  obtain ⟨cur, hg, hs, hn, hc⟩ := h
  refine ⟨(Nat.mul_one _).symm, .inr ⟨g, cap, cur, by rw [List.length_map, outL_length], hB, hg, by rw [List.length_map, outL_length]; exact hn, hcap, by omega, ?_⟩⟩
  rw [List.length_map, outL_length, Nat.mul_one]
  exact take_of_cells (by omega) hc

theorem Dat.other {w : World} {g cap n : Nat} {f : Nat → Int} (h : Dat w g cap n f) (p : Addr) (hp : p.block ≠ g) (v : Value) : Dat (w.setCell p v) g cap n f := by
  obtain ⟨cur, h, hr⟩ := h
  exact ⟨cur, by rw [Below.heap_setCell w p v g (fun e => hp e.symm)]; exact h, hr⟩

theorem sorted_id {n : Nat} {o : Nat → Int} (hr : ∀ k, k < n → 0 ≤ o k ∧ o k < (n : Int)) (hne : ∀ i j, i < j → j < n → o i ≠ o j) :
    (outL n o).mergeSort (fun x y => decide (x ≤ y)) = outL n (fun k => (k : Int)) := by
  obtain ⟨l, hl⟩ : ∃ l, l = (outL n o).mergeSort (fun x y => decide (x ≤ y)) := ⟨_, rfl⟩
  rw [← hl]
  have hp : l.Perm (outL n o) := by rw [hl]; exact List.mergeSort_perm _ _
  have hs : l.Pairwise (fun x y => decide (x ≤ y) = true) := by
    rw [hl]
    exact List.pairwise_mergeSort (fun a b c h1 h2 => by simp at *; omega) (fun a b => by simp; omega) _
  have hlen : l.length = n := by rw [hp.length_eq, outL_length]
  have hnd : l.Nodup := by
    rw [hp.nodup_iff]
    unfold outL List.Nodup
    rw [List.pairwise_map]
    refine List.Pairwise.imp_of_mem ?_ List.pairwise_lt_range
    intro a b ha hb hab
    exact hne a b hab (by simpa using hb)
  have hmem : ∀ k, k < n → 0 ≤ l.getD k 0 ∧ l.getD k 0 < (n : Int) := by
    intro k hk
    have hk' : k < l.length := by omega
    have h1 : l.getD k 0 ∈ l := by simp [List.getD, List.getElem?_eq_getElem hk']
    have h2 := hp.mem_iff.1 h1
    unfold outL at h2
    obtain ⟨i, hi, e⟩ := List.mem_map.1 h2
    rw [← e]; exact hr i (by simpa using hi)
  have hst : ∀ k, k + 1 < n → l.getD k 0 < l.getD (k + 1) 0 := by
    intro k hk
    have a1 : k < l.length := by omega
    have a2 : k + 1 < l.length := by omega
    have h1 := List.pairwise_iff_getElem.1 hs k (k + 1) a1 a2 (by omega)
    have h2 := List.pairwise_iff_getElem.1 hnd k (k + 1) a1 a2 (by omega)
    simp only [decide_eq_true_eq] at h1
    simp only [List.getD, List.getElem?_eq_getElem a1, List.getElem?_eq_getElem a2, Option.getD_some]
    omega
  have key := rise_id hmem hst
  rw [← outL_of l, hlen]
  exact outL_congr key

theorem sortInts_any (g cap n : Nat) (o : Nat → Int) (w : World) (hd : Dat w g cap n o) (hn : n ≤ 1000000) (hr : ∀ k, k < n → 0 ≤ o k ∧ o k < (n : Int)) (hne : ∀ i j, i < j → j < n → o i ≠ o j) :
    Calls Try.prog 33 #[.slice (some ⟨g, 0, none⟩) n cap] w fun e w' => e = .returned (.tuple #[]) ∧ Dat w' g cap n (fun k => (k : Int)) ∧ w.grownBy w' (some g) := by
  obtain ⟨cur, hg, hs, hnc, hc⟩ := hd
  have ht := take_of_cells (by omega) hc
  have hH : Go.Sort.Holds (Value.int .i64) w g 0 (outL n o).toArray := holds_of_blockI hg (by rw [outL_length]; exact ht)
  have hlt : g < w.heap.size := (Array.getElem?_eq_some_iff.1 hg).1
  have h := Try.slices_Sort_int g 0 cap (outL n o) w hH hlt (by rw [outL_length]; omega)
  rw [outL_length, sorted_id hr hne] at h
  refine h.mono ?_
  rintro e w' ⟨rfl, m, os, rfl⟩
  refine ⟨rfl, ?_, grownBy_sortedI _⟩
  refine ⟨_, heap_sortedI _ hg, by simp [Go.Sort.putCells, hs], hnc, fun k hk => ?_⟩
  have := take_putCellsI cur (outL n (fun k => (k : Int))) (by rw [outL_length]; omega)
  have e := congrArg (fun l => l[k]?) this
  rw [outL_length, List.getElem?_take_of_lt hk, Array.getElem?_toList] at e
  rw [e, List.getElem?_map, outL_get _ _ _ hk]; rfl

/-- The ranks that a round tells, by the place in the order. -/
noncomputable def vr (c : Nat → Nat) (m : Nat) (o : Nat → Int) : Nat → Int
  | 0 => 0
  | i + 1 => vr c m o i + @ite _ (eqm c m (o i).toNat (o (i + 1)).toNat) (Classical.propDecidable _) 0 1
theorem vr_step (c : Nat → Nat) (m : Nat) (o : Nat → Int) (i : Nat) : (eqm c m (o i).toNat (o (i + 1)).toNat ∧ vr c m o (i + 1) = vr c m o i) ∨ (¬ eqm c m (o i).toNat (o (i + 1)).toNat ∧ vr c m o (i + 1) = vr c m o i + 1) := by
  by_cases h : eqm c m (o i).toNat (o (i + 1)).toNat
  · exact .inl ⟨h, by rw [vr, @if_pos _ (Classical.propDecidable _) h]; omega⟩
  · exact .inr ⟨h, by rw [vr, @if_neg _ (Classical.propDecidable _) h]⟩
theorem vr_bd (c : Nat → Nat) (m : Nat) (o : Nat → Int) : ∀ i, 0 ≤ vr c m o i ∧ vr c m o i ≤ (i : Int) := by
  intro i
  induction i with
  | zero => exact ⟨Int.le_refl _, Int.le_refl _⟩
  | succ i ih => rcases vr_step c m o i with h | h <;> omega

/-- The cyclic bytes of a text. -/
def cycf (s : ByteArray) (i : Nat) : Nat := (s.data.toList.getD (i % s.size) 0).toNat
theorem cycf_cyc (s : ByteArray) : Cyc (cycf s) s.size := fun i => by unfold cycf; rw [Nat.add_mod_right]
theorem cycf_small (s : ByteArray) {i : Nat} (h : i < s.size) : cycf s i = (s.data.toList.getD i 0).toNat := by unfold cycf; rw [Nat.mod_eq_of_lt h]
theorem rank0 (s : ByteArray) : RankOK (cycf s) s.size 1 (fun k => (cycf s k : Int)) := by
  intro a b _ _
  constructor
  · intro h; exact ⟨0, by omega, fun u hu => by omega, by simp only [Nat.add_zero]; have h' : (cycf s a : Int) < (cycf s b : Int) := h; omega⟩
  · rintro ⟨t, t1, _, t3⟩
    have : t = 0 := by omega
    subst this
    simp only [Nat.add_zero] at t3
    show (cycf s a : Int) < (cycf s b : Int)
    omega

end Go.Proofs.Ythjmpiekjfnoiaa

/-
  Plain mathematics of what turns end with: the bytes ahead of the places, each once.
-/
import Derived.Test.YthjmpiekjfnoiaaW13f
namespace Go.Proofs.Ythjmpiekjfnoiaa

theorem prev_lt {n x : Nat} (hn : 0 < n) : (x + (n - 1)) % n < n := Nat.mod_lt _ hn
theorem prev_inj {n x y : Nat} (hx : x < n) (hy : y < n) (h : (x + (n - 1)) % n = (y + (n - 1)) % n) : x = y := by
  have e : ∀ z, z < n → (z + (n - 1)) % n = if z = 0 then n - 1 else z - 1 := by
    intro z hz
    by_cases h0 : z = 0
    · rw [if_pos h0, h0, Nat.zero_add]; exact Nat.mod_eq_of_lt (by omega)
    · rw [if_neg h0, show z + (n - 1) = (z - 1) + n by omega, Nat.add_mod_right]; exact Nat.mod_eq_of_lt (by omega)
  rw [e x hx, e y hy] at h
  split at h <;> split at h <;> omega
theorem prev_next {n y : Nat} (hy : y < n) : ((y + 1) % n + (n - 1)) % n = y := by
  rw [Nat.mod_add_mod, show y + 1 + (n - 1) = y + n by omega, Nat.add_mod_right]; exact Nat.mod_eq_of_lt hy

theorem last_perm {c : Nat → Nat} {n m : Nat} {o : Nat → Int} (h : Ord c n m o) : ((List.range n).map (fun i => ((o i).toNat + (n - 1)) % n)).Perm (List.range n) := by
  rw [List.perm_ext_iff_of_nodup ?_ List.nodup_range]
  · intro y
    rw [List.mem_map, List.mem_range]
    constructor
    · rintro ⟨i, hi, rfl⟩
      exact prev_lt (by have := List.mem_range.1 hi; omega)
    · intro hy
      obtain ⟨k, hk, e⟩ := h.onto (y := (y + 1) % n) (Nat.mod_lt _ (by omega))
      exact ⟨k, List.mem_range.2 hk, by rw [e, Int.toNat_natCast]; exact prev_next hy⟩
  · unfold List.Nodup
    rw [List.pairwise_map]
    refine List.Pairwise.imp_of_mem ?_ List.pairwise_lt_range
    intro a b ha hb hab e
    have ha' := List.mem_range.1 ha
    have hb' := List.mem_range.1 hb
    have ra := h.rng a ha'
    have rb := h.rng b hb'
    have := prev_inj (by omega) (by omega) e
    exact h.ne ha' hb' (by omega) (by omega)

theorem range_bytes (l : List UInt8) : (List.range l.length).map (fun i => l.getD i 0) = l := by
  apply List.ext_getElem?
  intro i
  by_cases h : i < l.length
  · simp [h]
  · rw [List.getElem?_eq_none (by simp; omega), List.getElem?_eq_none (by omega)]

theorem lastTo_perm (s : ByteArray) {c : Nat → Nat} {m : Nat} {o : Nat → Int} (h : Ord c s.size m o) : (lastTo s o s.size).Perm s.data.toList := by
  have h1 := (last_perm h).map (fun i => s.data.toList.getD i 0)
  rw [List.map_map] at h1
  have h2 := range_bytes s.data.toList
  rw [show s.data.toList.length = s.size by simp] at h2
  rw [h2] at h1
  exact h1

theorem lastTo_eqc (s : ByteArray) {c : Nat → Nat} {m : Nat} {o : Nat → Int} (h : Ord c s.size m o) (d : Nat) : eqc (lastTo s o s.size) d = eqc s.data.toList d := (lastTo_perm s h).countP_eq _

theorem orig_of (o : Nat → Int) : ∀ k, (∃ j, j < k ∧ o j = 0) → origTo o k < k ∧ o (origTo o k) = 0 := by
  intro k
  induction k with
  | zero => rintro ⟨j, hj, _⟩; omega
  | succ k ih =>
    rintro ⟨j, hj, e⟩
    unfold origTo
    by_cases h : o k = 0
    · rw [if_pos h]; exact ⟨by omega, h⟩
    · rw [if_neg h]
      have hjk : j < k := by
        rcases Nat.lt_or_ge j k with q | q
        · exact q
        · have : j = k := by omega
          subst this; exact absurd e h
      have := ih ⟨j, hjk, e⟩
      exact ⟨by omega, this.2⟩
theorem orig_spec {c : Nat → Nat} {n m : Nat} {o : Nat → Int} (h : Ord c n m o) (hn : 0 < n) : origTo o n < n ∧ o (origTo o n) = 0 :=
  orig_of o n (by obtain ⟨k, hk, e⟩ := h.onto (y := 0) hn; exact ⟨k, hk, by simpa using e⟩)

/-- How many more of a byte there are among the first k of the one than of the other. -/
def cntD (t l : List UInt8) (k c : Nat) : Int := (eqc (t.take k) c : Int) - (eqc (l.take k) c : Int)
theorem cntD_zero (t l : List UInt8) : cntD t l 0 = fun _ => 0 := by funext c; simp [cntD, eqc]
theorem cntD_succ (t l : List UInt8) (k : Nat) (b e : UInt8) (hb : t[k]? = some b) (he : l[k]? = some e) (c : Nat) : cntD t l (k + 1) c = cntD t l k c + (if b.toNat = c then 1 else 0) - (if e.toNat = c then 1 else 0) := by
  unfold cntD
  rw [eqc_take_succ t k c b hb, eqc_take_succ l k c e he]
  split <;> split <;> omega
theorem cntD_bd (t l : List UInt8) (k c : Nat) : -(l.length : Int) ≤ cntD t l k c ∧ cntD t l k c ≤ t.length := by
  have h1 := eqc_take_le t k c
  have h2 := eqc_take_le l k c
  have h3 := eqc_le t c
  have h4 := eqc_le l c
  unfold cntD; omega

end Go.Proofs.Ythjmpiekjfnoiaa

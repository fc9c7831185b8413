/-
  Plain mathematics: a text without a byte 0, and one byte 0 put into it.
-/
import Derived.Test.YthjmpiekjfnoiaaLaw13m
import Derived.Test.YthjmpiekjfnoiaaM14c
namespace Go.Proofs.Ythjmpiekjfnoiaa

/-- A byte that is not 0. -/
def up1 (b : UInt8) : UInt8 := if b = 0 then 1 else b
theorem up1_pos (b : UInt8) : 0 < (up1 b).toNat := by
  unfold up1
  by_cases h : b = 0
  · rw [if_pos h]; decide
  · rw [if_neg h]
    rcases Nat.eq_zero_or_pos b.toNat with p | p
    · exact absurd (UInt8.toNat_inj.1 (by rw [p]; rfl)) h
    · exact p
theorem up1_max (b : UInt8) : max (b.toNat : Int) 1 = ((up1 b).toNat : Int) := by
  unfold up1
  by_cases h : b = 0
  · rw [if_pos h, h]; decide
  · rw [if_neg h]
    rcases Nat.eq_zero_or_pos b.toNat with p | p
    · exact absurd (UInt8.toNat_inj.1 (by rw [p]; rfl)) h
    · omega
def upL (l : List UInt8) : List UInt8 := l.map up1
theorem upL_length (l : List UInt8) : (upL l).length = l.length := by simp [upL]
theorem upL_take_succ (l : List UInt8) {i : Nat} {b : UInt8} (h : l[i]? = some b) : upL (l.take (i + 1)) = upL (l.take i) ++ [up1 b] := by
  unfold upL
  rw [List.take_add_one, h]; simp
theorem upL_pos (l : List UInt8) : ∀ b ∈ upL l, 0 < b.toNat := by
  intro b hb
  obtain ⟨a, _, rfl⟩ := List.mem_map.1 hb
  exact up1_pos a

def ins0 (l : List UInt8) (k : Nat) : List UInt8 := l.take k ++ [0] ++ l.drop k
theorem ins0_length (l : List UInt8) (k : Nat) : (ins0 l k).length = l.length + 1 := by
  unfold ins0
  rw [List.length_append, List.length_append, List.length_take, List.length_drop, List.length_singleton]; omega
theorem ins0_at (l : List UInt8) {k : Nat} (hk : k ≤ l.length) : (ins0 l k).getD k 0 = 0 := by
  unfold ins0
  rw [List.append_assoc, List.getD, List.getElem?_append_right (by rw [List.length_take]; omega), List.length_take, show k - min k l.length = 0 by omega]; rfl
theorem ins0_pos (l : List UInt8) {k : Nat} (hk : k ≤ l.length) (hl : ∀ b ∈ l, 0 < b.toNat) {j : Nat} (hj : j < l.length + 1) (hne : j ≠ k) : 0 < ((ins0 l k).getD j 0).toNat := by
  unfold ins0
  rw [List.append_assoc]
  rcases Nat.lt_or_ge j k with p | p
  · have hjl : j < l.length := by omega
    rw [List.getD, List.getElem?_append_left (by rw [List.length_take]; omega), List.getElem?_take_of_lt p, List.getElem?_eq_getElem hjl]
    exact hl _ (List.getElem_mem hjl)
  · have hjl : j - 1 < l.length := by omega
    rw [List.getD, List.getElem?_append_right (by rw [List.length_take]; omega), List.length_take, show j - min k l.length = (j - k - 1) + 1 by omega, List.singleton_append, List.getElem?_cons_succ, List.getElem?_drop,
      show k + (j - k - 1) = j - 1 by omega, List.getElem?_eq_getElem hjl]
    exact hl _ (List.getElem_mem hjl)

theorem cycf_ins0 (l : List UInt8) {k : Nat} (hk : k ≤ l.length) (hl : ∀ b ∈ l, 0 < b.toNat) : cycf (mkS (ins0 l k)) k = 0 ∧ ∀ j, j < l.length + 1 → j ≠ k → 0 < cycf (mkS (ins0 l k)) j := by
  have hs : (mkS (ins0 l k)).size = l.length + 1 := by rw [mkS_size, ins0_length]
  refine ⟨?_, fun j hj hne => ?_⟩
  · rw [cycf_small _ (by omega), mkS_toList, ins0_at l hk]; rfl
  · rw [cycf_small _ (by omega), mkS_toList]; exact ins0_pos l hk hl hj hne

/-- A byte that is nowhere else: no two turns are alike. -/
theorem one_class {c : Nat → Nat} {n k : Nat} (hc : Cyc c n) (hk : k < n) (h0 : c k = 0) (hp : ∀ j, j < n → j ≠ k → 0 < c j) : ∀ x y, eqm c n x y ↔ x % n = y % n := by
  intro x y
  have hn : 0 < n := by omega
  constructor
  · intro h
    obtain ⟨t, ht, e⟩ := add_mod_onto (n := n) (k := x) hk
    have e1 := h t ht
    rw [← hc.mod (x + t), ← hc.mod (y + t), Nat.add_comm x t, e, h0] at e1
    have e2 : (y + t) % n = k := by
      apply Classical.byContradiction
      intro hne
      have := hp _ (Nat.mod_lt (y + t) hn) hne
      omega
    have e3 : (x % n + t) % n = (y % n + t) % n := by rw [Nat.mod_add_mod, Nat.mod_add_mod, Nat.add_comm x t, e, e2]
    exact add_mod_inj (Nat.mod_lt _ hn) (Nat.mod_lt _ hn) e3
  · intro h t _
    rw [← hc.mod_add x, h, hc.mod_add]

end Go.Proofs.Ythjmpiekjfnoiaa

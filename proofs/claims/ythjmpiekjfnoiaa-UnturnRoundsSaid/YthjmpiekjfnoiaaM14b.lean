/-
  Plain mathematics of chapter 14: iterates of the vector, rounds, and what Back is. No program is in sight.
-/
import Derived.Test.YthjmpiekjfnoiaaM14
namespace Go.Proofs.Ythjmpiekjfnoiaa

theorem php : ∀ (n : Nat) (f : Nat → Nat), (∀ k, k ≤ n → f k < n) → ∃ a b, a < b ∧ b ≤ n ∧ f a = f b
  | 0, f, h => absurd (h 0 (Nat.le_refl 0)) (Nat.not_lt_zero _)
  | n + 1, f, h => by
    by_cases hc : ∃ k, k ≤ n ∧ f k = f (n + 1)
    · obtain ⟨k, h1, h2⟩ := hc; exact ⟨k, n + 1, by omega, Nat.le_refl _, h2⟩
    · have hne : ∀ k, k ≤ n → f k ≠ f (n + 1) := fun k hk e => hc ⟨k, hk, e⟩
      have hn := h (n + 1) (Nat.le_refl _)
      obtain ⟨a, b, h1, h2, h3⟩ := php n (fun k => if f (n + 1) < f k then f k - 1 else f k) (fun k hk => by
        have := h k (by omega); have := hne k hk
        split <;> omega)
      refine ⟨a, b, h1, by omega, ?_⟩
      have ha := hne a (by omega)
      have hb := hne b h2
      split at h3 <;> split at h3 <;> omega

def walkN (s : List UInt8) : Nat → Nat → Nat
  | 0, o => o
  | k + 1, o => nxt s (walkN s k o)

theorem walkN_lt (s : List UInt8) (o : Nat) (h : o < s.length) : ∀ k, walkN s k o < s.length
  | 0 => h
  | k + 1 => nxt_lt s _ (walkN_lt s o h k)

theorem walkN_add (s : List UInt8) (j o : Nat) : ∀ k, walkN s (j + k) o = walkN s k (walkN s j o)
  | 0 => rfl
  | k + 1 => by rw [← Nat.add_assoc]; show nxt s _ = nxt s _; rw [walkN_add s j o k]

theorem walkN_inj (s : List UInt8) (a b : Nat) (ha : a < s.length) (hb : b < s.length) : ∀ k, walkN s k a = walkN s k b → a = b
  | 0, h => h
  | k + 1, h => walkN_inj s a b ha hb k (nxt_inj s _ _ (walkN_lt s a ha k) (walkN_lt s b hb k) h)

theorem walkN_back (s : List UInt8) (o a b : Nat) (ho : o < s.length) (hab : a ≤ b) (h : walkN s a o = walkN s b o) : walkN s (b - a) o = o := by
  have e : walkN s b o = walkN s a (walkN s (b - a) o) := by rw [← walkN_add]; congr 1; omega
  exact (walkN_inj s o _ ho (walkN_lt s o ho _) a (by rw [h, e])).symm

theorem period (s : List UInt8) (o : Nat) (ho : o < s.length) : ∃ p, 1 ≤ p ∧ p ≤ s.length ∧ walkN s p o = o := by
  obtain ⟨a, b, h1, h2, h3⟩ := php s.length (fun k => walkN s k o) (fun k _ => walkN_lt s o ho k)
  exact ⟨b - a, by omega, by omega, walkN_back s o a b ho (by omega) h3⟩

theorem walkN_mul (s : List UInt8) (p o : Nat) (h : walkN s p o = o) : ∀ q, walkN s (p * q) o = o
  | 0 => rfl
  | q + 1 => by rw [Nat.mul_succ, walkN_add, walkN_mul s p o h q, h]

theorem walkN_mod (s : List UInt8) (p o k : Nat) (h : walkN s p o = o) : walkN s k o = walkN s (k % p) o := by
  have e : k = p * (k / p) + k % p := (Nat.div_add_mod k p).symm
  have : walkN s (p * (k / p) + k % p) o = walkN s (k % p) o := by rw [walkN_add, walkN_mul s p o h]
  rw [← e] at this; exact this

/-- What Back tells of an origin that there is. -/
def back (s : List UInt8) (o : Nat) : List UInt8 := (List.range s.length).map (fun i => s.getD (walkN s (i + 1) o) 0)
def backTo (s : List UInt8) (o k : Nat) : List UInt8 := (List.range k).map (fun i => s.getD (walkN s (i + 1) o) 0)
theorem back_eq (s : List UInt8) (o : Nat) : back s o = backTo s o s.length := rfl
theorem backTo_succ (s : List UInt8) (o k : Nat) : backTo s o (k + 1) = backTo s o k ++ [s.getD (walkN s (k + 1) o) 0] := by simp [backTo, List.range_succ]
theorem backTo_length (s : List UInt8) (o k : Nat) : (backTo s o k).length = k := by simp [backTo]
theorem back_length (s : List UInt8) (o : Nat) : (back s o).length = s.length := by simp [back]

def backOk (s : List UInt8) (o : Int) : Bool := decide (0 ≤ o) && decide (o < max (s.length : Int) 1)
def backText (s : List UInt8) (o : Int) : List UInt8 := if backOk s o then back s o.toNat else []
def backErr (s : List UInt8) (o : Int) : Int := if backOk s o then 0 else 1

theorem back_get (s : List UInt8) (o i : Nat) (h : i < s.length) : (back s o)[i]? = some (s.getD (walkN s (i + 1) o) 0) := by simp [back, h]
theorem back_next (s : List UInt8) (q : Nat) : (back s q).drop 1 = (back s (nxt s q)).take (s.length - 1) := by
  apply List.ext_getElem?
  intro i
  rw [List.getElem?_drop, List.getElem?_take]
  by_cases h : i < s.length - 1
  · rw [if_pos h, back_get s q (1 + i) (by omega), back_get s _ i (by omega)]
    have e : walkN s (1 + i + 1) q = walkN s (i + 1) (nxt s q) := by
      rw [show 1 + i + 1 = 1 + (i + 1) by omega, walkN_add]; rfl
    rw [e]
  · rw [if_neg h, List.getElem?_eq_none (by rw [back_length]; omega)]

/-! ### Rounds. -/
def leastB (s : List UInt8) (i : Nat) : Bool := (List.range (s.length + 1)).all (fun k => decide (i ≤ walkN s k i))
theorem leastB_iff (s : List UInt8) (i : Nat) : leastB s i = true ↔ ∀ k, k ≤ s.length → i ≤ walkN s k i := by
  simp only [leastB, List.all_eq_true, List.mem_range, decide_eq_true_eq]
  exact ⟨fun h k hk => h k (by omega), fun h k hk => h k (by omega)⟩
def cycTo (s : List UInt8) (m : Nat) : Nat := (List.range m).countP (leastB s)
def cyc (s : List UInt8) : Nat := cycTo s s.length
theorem cycTo_succ (s : List UInt8) (m : Nat) : cycTo s (m + 1) = cycTo s m + if leastB s m then 1 else 0 := by
  unfold cycTo
  rw [List.range_succ, List.countP_append]
  by_cases h : leastB s m <;> simp [h]
theorem cycTo_le (s : List UInt8) (m : Nat) : cycTo s m ≤ m := by
  unfold cycTo; have := List.countP_le_length (p := leastB s) (l := List.range m); simpa using this

/-- The document's test: going on from i, the first place that is not above i is i itself just if i is the least of its round. -/
theorem least_of_first (s : List UInt8) (i k : Nat) (hk1 : 1 ≤ k) (hk : k ≤ s.length) (hm : ∀ m, 1 ≤ m → m < k → i < walkN s m i) (hle : walkN s k i ≤ i) :
    leastB s i = decide (walkN s k i = i) := by
  by_cases he : walkN s k i = i
  · rw [decide_eq_true he, leastB_iff]
    intro j _
    rw [walkN_mod s k i j he]
    have hj := Nat.mod_lt j (show 0 < k by omega)
    rcases Nat.eq_zero_or_pos (j % k) with h0 | h0
    · rw [h0]; exact Nat.le_refl _
    · exact Nat.le_of_lt (hm _ h0 hj)
  · rw [decide_eq_false he, ← Bool.not_eq_true, leastB_iff]
    intro h
    have := h k hk
    omega

/-- Marked: reached from a place below f. -/
def Reached (s : List UInt8) (f j : Nat) : Prop := ∃ m, m < f ∧ ∃ k, walkN s k m = j
open Classical in
noncomputable def markB (s : List UInt8) (f : Nat) (j : Nat) : Bool := decide (Reached s f j)
open Classical in
noncomputable def markTo (s : List UInt8) (f k : Nat) (j : Nat) : Bool := decide (Reached s f j ∨ ∃ m, m < k ∧ walkN s m f = j)

theorem markTo_zero (s : List UInt8) (f : Nat) : markTo s f 0 = markB s f := by
  funext j; unfold markTo markB
  congr 1; simp
open Classical in
theorem markTo_succ (s : List UInt8) (f k j : Nat) : markTo s f (k + 1) j = if j = walkN s k f then true else markTo s f k j := by
  unfold markTo
  by_cases h : j = walkN s k f
  · rw [if_pos h, decide_eq_true]; exact .inr ⟨k, by omega, h.symm⟩
  · rw [if_neg h]
    congr 1
    apply propext
    constructor
    · rintro (h1 | ⟨m, h1, h2⟩)
      · exact .inl h1
      · refine .inr ⟨m, ?_, h2⟩
        rcases Nat.lt_or_ge m k with h3 | h3
        · exact h3
        · have : m = k := by omega
          subst this; exact absurd h2.symm h
    · rintro (h1 | ⟨m, h1, h2⟩)
      · exact .inl h1
      · exact .inr ⟨m, by omega, h2⟩

theorem reached_back (s : List UInt8) (f j k : Nat) (hj : j < s.length) (h : Reached s f (walkN s k j)) : Reached s f j := by
  obtain ⟨m, h1, q, h2⟩ := h
  obtain ⟨p, p1, _, p3⟩ := period s j hj
  refine ⟨m, h1, q + (p * (k + 1) - k), ?_⟩
  have hp : k ≤ p * (k + 1) := Nat.le_trans (by omega) (Nat.le_mul_of_pos_left (k + 1) p1)
  rw [walkN_add, h2, ← walkN_add]
  rw [show k + (p * (k + 1) - k) = p * (k + 1) by omega]
  exact walkN_mul s p j p3 _

/-- Where the marking comes back: all of the round is marked. -/
theorem markTo_all (s : List UInt8) (f k : Nat) (hf : f < s.length) (hnot : markB s f f = false) (h : markTo s f k (walkN s k f) = true) : markTo s f k = markB s (f + 1) := by
  have hnot' : ¬ Reached s f f := by simpa [markB] using hnot
  have h' : Reached s f (walkN s k f) ∨ ∃ m, m < k ∧ walkN s m f = walkN s k f := by simpa [markTo] using h
  obtain ⟨m, h1, h2⟩ : ∃ m, m < k ∧ walkN s m f = walkN s k f := by
    rcases h' with h' | h'
    · exact absurd (reached_back s f f k hf h') hnot'
    · exact h'
  have hp := walkN_back s f m k hf (by omega) h2
  funext j
  unfold markTo markB
  congr 1
  apply propext
  constructor
  · rintro (⟨a, ha, q, hq⟩ | ⟨a, ha, hq⟩)
    · exact ⟨a, by omega, q, hq⟩
    · exact ⟨f, by omega, a, hq⟩
  · rintro ⟨a, ha, q, hq⟩
    rcases Nat.lt_or_ge a f with h3 | h3
    · exact .inl ⟨a, h3, q, hq⟩
    · have : a = f := by omega
      subst this
      refine .inr ⟨q % (k - m), ?_, ?_⟩
      · have := Nat.mod_lt q (show 0 < k - m by omega); omega
      · rw [← walkN_mod s _ _ _ hp]; exact hq

theorem mark_least (s : List UInt8) (f : Nat) (hf : f < s.length) : markB s f f = !leastB s f := by
  by_cases h : leastB s f = true
  · rw [h]
    have hl := (leastB_iff s f).1 h
    simp only [markB, Bool.not_true, decide_eq_false_iff_not]
    rintro ⟨m, h1, k, h2⟩
    have hr : Reached s (m + 1) m := ⟨m, by omega, 0, rfl⟩
    obtain ⟨p, p1, p2, p3⟩ := period s f hf
    obtain ⟨q, q1, q2, q3⟩ := period s m (by omega)
    -- from f one comes to m
    have hp : k ≤ q * (k + 1) := Nat.le_trans (by omega) (Nat.le_mul_of_pos_left (k + 1) q1)
    have e : walkN s (q * (k + 1) - k) f = m := by
      rw [← h2, ← walkN_add, show k + (q * (k + 1) - k) = q * (k + 1) by omega]
      exact walkN_mul s q m q3 _
    rw [walkN_mod s p f _ p3] at e
    have := hl ((q * (k + 1) - k) % p) (by have := Nat.mod_lt (q * (k + 1) - k) (show 0 < p by omega); omega)
    omega
  · have h0 : leastB s f = false := by simpa using h
    rw [h0]
    simp only [Bool.not_false, markB, decide_eq_true_eq]
    have : ¬ ∀ k, k ≤ s.length → f ≤ walkN s k f := fun hh => h ((leastB_iff s f).2 hh)
    have : ∃ k, walkN s k f < f := by
      apply Classical.byContradiction
      intro hh
      exact this (fun k _ => by
        rcases Nat.lt_or_ge (walkN s k f) f with h1 | h1
        · exact absurd ⟨k, h1⟩ hh
        · exact h1)
    obtain ⟨k, hk⟩ := this
    obtain ⟨p, p1, _, p3⟩ := period s f hf
    have hp : k ≤ p * (k + 1) := Nat.le_trans (by omega) (Nat.le_mul_of_pos_left (k + 1) p1)
    refine ⟨walkN s k f, hk, p * (k + 1) - k, ?_⟩
    rw [← walkN_add, show k + (p * (k + 1) - k) = p * (k + 1) by omega]
    exact walkN_mul s p f p3 _

theorem mark_same (s : List UInt8) (f : Nat) (h : markB s f f = true) : markB s (f + 1) = markB s f := by
  have h' : Reached s f f := by simpa [markB] using h
  obtain ⟨m, h1, k, h2⟩ := h'
  funext j
  unfold markB
  congr 1
  apply propext
  constructor
  · rintro ⟨a, ha, q, hq⟩
    rcases Nat.lt_or_ge a f with h3 | h3
    · exact ⟨a, h3, q, hq⟩
    · have : a = f := by omega
      subst this
      exact ⟨m, h1, k + q, by rw [walkN_add, h2]; exact hq⟩
  · rintro ⟨a, ha, q, hq⟩
    exact ⟨a, by omega, q, hq⟩

theorem eqc_take_mono (s : List UInt8) (a b c : Nat) (h : a ≤ b) : eqc (s.take a) c ≤ eqc (s.take b) c := by
  have := eqc_take_le (s.take b) a c
  rwa [List.take_take, Nat.min_eq_left h] at this

/-- Where the vector goes, bytes are in order; of one byte the lesser place comes first. -/
theorem vec_sorted (s : List UInt8) (i : Nat) (h : i + 1 < s.length) :
    (s.getD (nxt s i) 0).toNat ≤ (s.getD (nxt s (i + 1)) 0).toNat ∧ ((s.getD (nxt s i) 0).toNat = (s.getD (nxt s (i + 1)) 0).toNat → nxt s i < nxt s (i + 1)) := by
  have ha := nxt_lt s i (by omega)
  have hb := nxt_lt s (i + 1) h
  have pa := place_nxt s i (by omega)
  have pb := place_nxt s (i + 1) h
  generalize nxt s i = a at *
  generalize nxt s (i + 1) = b at *
  unfold place at pa pb
  obtain ⟨y, hy⟩ : ∃ y, s[b]? = some y := ⟨_, List.getElem?_eq_getElem hb⟩
  have hgb : s.getD b 0 = y := by simp [hy]
  have h1 := eqc_take_succ s b y.toNat y hy
  rw [if_pos rfl] at h1
  have h2 := eqc_take_le s (b + 1) y.toNat
  rw [hgb] at pb ⊢
  constructor
  · rcases Nat.lt_or_ge y.toNat (s.getD a 0).toNat with hc | hc
    · have h3 := ltc_mono s (y.toNat + 1) _ hc
      rw [ltc_succ] at h3
      omega
    · exact hc
  · intro e
    rw [e] at pa
    rcases Nat.lt_or_ge a b with h4 | h4
    · exact h4
    · have := eqc_take_mono s b a y.toNat h4; omega

def hadTo (s : List UInt8) (i j : Nat) : Bool := decide (place s j < i)
theorem hadTo_nxt (s : List UInt8) (i : Nat) (h : i < s.length) : hadTo s i (nxt s i) = false := by simp [hadTo, place_nxt s i h]
theorem hadTo_succ (s : List UInt8) (i j : Nat) (h : i < s.length) (hj : j < s.length) : hadTo s (i + 1) j = if j = nxt s i then true else hadTo s i j := by
  unfold hadTo
  by_cases e : j = nxt s i
  · rw [if_pos e, e, place_nxt s i h]; simp
  · rw [if_neg e]
    have : place s j ≠ i := fun he => e (by rw [← he, nxt_place s j hj])
    congr 1
    apply propext
    omega

end Go.Proofs.Ythjmpiekjfnoiaa

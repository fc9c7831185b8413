/-
  Plain mathematics of a stable sort: swaps, rotations, merges, on functions of the place. No program is in sight.
-/
import Derived.Below
namespace Go.Proofs.Ythjmpiekjfnoiaa

def setF (f : Nat → Int) (i : Nat) (x : Int) : Nat → Int := fun k => if k = i then x else f k
/-- The blocks of n from a on and from b on, exchanged, the first t of each. -/
def swapF (f : Nat → Int) (a b t : Nat) : Nat → Int := fun k => if a ≤ k ∧ k < a + t then f (k - a + b) else if b ≤ k ∧ k < b + t then f (k - b + a) else f k
/-- The blocks from a to m and from m to b, exchanged. -/
def rotF (f : Nat → Int) (a m b : Nat) : Nat → Int := fun k => if a ≤ k ∧ k < a + (b - m) then f (k + (m - a)) else if a + (b - m) ≤ k ∧ k < b then f (k - (b - m)) else f k

theorem swapF_zero (f : Nat → Int) (a b : Nat) : swapF f a b 0 = f := by
  funext k; unfold swapF; rw [if_neg (by omega), if_neg (by omega)]

theorem swapF_succ (f : Nat → Int) (a b t : Nat) (h : a + t < b) : swapF f a b (t + 1) = setF (setF (swapF f a b t) (a + t) (swapF f a b t (b + t))) (b + t) (swapF f a b t (a + t)) := by
  have e1 : swapF f a b t (b + t) = f (b + t) := by unfold swapF; rw [if_neg (by omega), if_neg (by omega)]
  have e2 : swapF f a b t (a + t) = f (a + t) := by unfold swapF; rw [if_neg (by omega), if_neg (by omega)]
  rw [e1, e2]
  funext k
  unfold setF
  by_cases h1 : k = b + t
  · subst h1; rw [if_pos rfl]; unfold swapF; rw [if_neg (by omega), if_pos (by omega)]; congr 1; omega
  · rw [if_neg h1]
    by_cases h2 : k = a + t
    · subst h2; rw [if_pos rfl]; unfold swapF; rw [if_pos (by omega)]; congr 1; omega
    · rw [if_neg h2]
      unfold swapF
      by_cases h3 : a ≤ k ∧ k < a + t
      · rw [if_pos h3, if_pos (by omega)]
      · rw [if_neg h3, if_neg (by omega)]
        by_cases h4 : b ≤ k ∧ k < b + t
        · rw [if_pos h4, if_pos (by omega)]
        · rw [if_neg h4, if_neg (by omega)]

theorem rot_eq (f : Nat → Int) (m i : Nat) (h : i ≤ m) : rotF f (m - i) m (m + i) = swapF f (m - i) m i := by
  funext k
  unfold rotF swapF
  rw [show m + i - m = i by omega, show m - (m - i) = i by omega]
  by_cases h1 : m - i ≤ k ∧ k < m - i + i
  · rw [if_pos h1, if_pos h1]; congr 1; omega
  · rw [if_neg h1, if_neg h1]
    by_cases h2 : m ≤ k ∧ k < m + i
    · rw [if_pos (by omega), if_pos h2]; congr 1; omega
    · rw [if_neg (by omega), if_neg h2]

theorem rot_gt (f : Nat → Int) (m i j : Nat) (h : i ≤ m) (hij : j < i) (_hj : 0 < j) : rotF f (m - i) m (m + j) = rotF (swapF f (m - i) m j) (m - (i - j)) m (m + j) := by
  funext k
  unfold rotF
  rw [show m + j - m = j by omega, show m - (m - i) = i by omega, show m - (m - (i - j)) = i - j by omega]
  by_cases h1 : m - i ≤ k ∧ k < m - i + j
  · rw [if_pos h1, if_neg (by omega), if_neg (by omega)]
    unfold swapF; rw [if_pos h1]; congr 1; omega
  · rw [if_neg h1]
    by_cases h2 : m - i + j ≤ k ∧ k < m + j
    · rw [if_pos h2]
      by_cases h3 : m - (i - j) ≤ k ∧ k < m - (i - j) + j
      · rw [if_pos h3]
        unfold swapF
        rw [if_neg (by omega), if_pos (by omega)]; congr 1; omega
      · rw [if_neg h3, if_pos (by omega)]
        unfold swapF
        rw [if_neg (by omega), if_neg (by omega)]
    · rw [if_neg h2, if_neg (by omega), if_neg (by omega)]
      unfold swapF
      rw [if_neg (by omega), if_neg (by omega)]

theorem rot_lt (f : Nat → Int) (m i j : Nat) (h : i ≤ m) (hij : i < j) (_hi : 0 < i) : rotF f (m - i) m (m + j) = rotF (swapF f (m - i) (m + j - i) i) (m - i) m (m + (j - i)) := by
  funext k
  unfold rotF
  rw [show m + j - m = j by omega, show m - (m - i) = i by omega, show m + (j - i) - m = j - i by omega]
  by_cases h1 : m - i ≤ k ∧ k < m - i + j
  · rw [if_pos h1]
    by_cases h3 : m - i ≤ k ∧ k < m - i + (j - i)
    · rw [if_pos h3]
      unfold swapF
      rw [if_neg (by omega), if_neg (by omega)]
    · rw [if_neg h3, if_pos (by omega)]
      unfold swapF
      rw [if_pos (by omega)]; congr 1; omega
  · rw [if_neg h1]
    by_cases h2 : m - i + j ≤ k ∧ k < m + j
    · rw [if_pos h2, if_neg (by omega), if_neg (by omega)]
      unfold swapF
      rw [if_neg (by omega), if_pos (by omega)]; congr 1; omega
    · rw [if_neg h2, if_neg (by omega), if_neg (by omega)]
      unfold swapF
      rw [if_neg (by omega), if_neg (by omega)]

/-- Within a to b what is there was there; elsewhere all is as it was. -/
def FromOn (a b : Nat) (f g : Nat → Int) : Prop := (∀ k, a ≤ k → k < b → ∃ k', a ≤ k' ∧ k' < b ∧ g k = f k') ∧ (∀ k, ¬ (a ≤ k ∧ k < b) → g k = f k)
theorem FromOn.refl (a b : Nat) (f : Nat → Int) : FromOn a b f f := ⟨fun k h1 h2 => ⟨k, h1, h2, rfl⟩, fun _ _ => rfl⟩
theorem FromOn.trans {a b : Nat} {f g h : Nat → Int} (p : FromOn a b f g) (q : FromOn a b g h) : FromOn a b f h :=
  ⟨fun k h1 h2 => by
    obtain ⟨k', h3, h4, h5⟩ := q.1 k h1 h2
    obtain ⟨k'', h6, h7, h8⟩ := p.1 k' h3 h4
    exact ⟨k'', h6, h7, by rw [h5, h8]⟩, fun k hk => by rw [q.2 k hk, p.2 k hk]⟩
theorem FromOn.wide {a b a' b' : Nat} {f g : Nat → Int} (p : FromOn a b f g) (ha : a' ≤ a) (hb : b ≤ b') : FromOn a' b' f g :=
  ⟨fun k h1 h2 => by
    by_cases h : a ≤ k ∧ k < b
    · obtain ⟨k', h3, h4, h5⟩ := p.1 k h.1 h.2; exact ⟨k', by omega, by omega, h5⟩
    · exact ⟨k, h1, h2, p.2 k h⟩, fun k hk => p.2 k (by omega)⟩
theorem FromOn.rot (f : Nat → Int) (a m b : Nat) (h1 : a ≤ m) (h2 : m ≤ b) : FromOn a b f (rotF f a m b) := by
  refine ⟨fun k h3 h4 => ?_, fun k hk => ?_⟩
  · unfold rotF
    by_cases h5 : a ≤ k ∧ k < a + (b - m)
    · rw [if_pos h5]; exact ⟨k + (m - a), by omega, by omega, rfl⟩
    · rw [if_neg h5, if_pos (by omega)]; exact ⟨k - (b - m), by omega, by omega, rfl⟩
  · unfold rotF; rw [if_neg (by omega), if_neg (by omega)]
theorem FromOn.swap1 (f : Nat → Int) (a b i j : Nat) (hi : a ≤ i ∧ i < b) (hj : a ≤ j ∧ j < b) : FromOn a b f (setF (setF f i (f j)) j (f i)) := by
  refine ⟨fun k h1 h2 => ?_, fun k hk => ?_⟩
  · unfold setF
    by_cases e1 : k = j
    · rw [if_pos e1]; exact ⟨i, hi.1, hi.2, rfl⟩
    · rw [if_neg e1]
      by_cases e2 : k = i
      · rw [if_pos e2]; exact ⟨j, hj.1, hj.2, rfl⟩
      · rw [if_neg e2]; exact ⟨k, h1, h2, rfl⟩
  · unfold setF; rw [if_neg (by omega), if_neg (by omega)]

section
variable (lt : Int → Int → Prop)

def SortedOn (f : Nat → Int) (a b : Nat) : Prop := ∀ i j, a ≤ i → i < j → j < b → lt (f i) (f j)

structure Strict : Prop where
  tr : ∀ x y z, lt x y → lt y z → lt x z
  tot : ∀ x y, x ≠ y → lt x y ∨ lt y x
  irr : ∀ x, ¬ lt x x

variable {lt}

theorem SortedOn.mono {f : Nat → Int} {a b a' b' : Nat} (h : SortedOn lt f a b) (ha : a ≤ a') (hb : b' ≤ b) : SortedOn lt f a' b' :=
  fun i j h1 h2 h3 => h i j (by omega) h2 (by omega)
theorem SortedOn.congr {f g : Nat → Int} {a b : Nat} (h : SortedOn lt f a b) (e : ∀ k, a ≤ k → k < b → g k = f k) : SortedOn lt g a b :=
  fun i j h1 h2 h3 => by rw [e i h1 (by omega), e j (by omega) h3]; exact h i j h1 h2 h3
theorem SortedOn.tiny (f : Nat → Int) (a b : Nat) (h : b ≤ a + 1) : SortedOn lt f a b := fun i j h1 h2 h3 => by omega
theorem SortedOn.join {f : Nat → Int} {a m b : Nat} (h1 : SortedOn lt f a m) (h2 : SortedOn lt f m b) (hx : ∀ i j, a ≤ i → i < m → m ≤ j → j < b → lt (f i) (f j)) : SortedOn lt f a b := by
  intro i j p q r
  rcases Nat.lt_or_ge i m with hi | hi
  · rcases Nat.lt_or_ge j m with hj | hj
    · exact h1 i j p q hj
    · exact hx i j p hi hj r
  · exact h2 i j hi q r

/-- The pre of a merge: both parts are sorted; whatever stands in the first one is a lesser number than whatever stands in the second one. -/
structure MergePre (lt : Int → Int → Prop) (f : Nat → Int) (a m b : Nat) : Prop where
  am : a < m
  mb : m < b
  s1 : SortedOn lt f a m
  s2 : SortedOn lt f m b
  ne : ∀ i j, a ≤ i → i < m → m ≤ j → j < b → f i < f j

/-- What a merge leaves. -/
structure Merged (lt : Int → Int → Prop) (f g : Nat → Int) (a b : Nat) : Prop where
  frm : FromOn a b f g
  srt : SortedOn lt g a b

/-- One byte ahead of the others, put where it belongs. -/
theorem merge_left {f : Nat → Int} {a b i : Nat} (P : MergePre lt f a (a + 1) b) (hi1 : a + 1 ≤ i) (hi2 : i ≤ b)
    (h1 : ∀ k, a + 1 ≤ k → k < i → lt (f k) (f a)) (h2 : ∀ k, i ≤ k → k < b → lt (f a) (f k)) : Merged lt f (rotF f a (a + 1) i) a b := by
  refine ⟨(FromOn.rot f a (a + 1) i (by omega) hi1).wide (Nat.le_refl _) hi2, ?_⟩
  have e : ∀ k, rotF f a (a + 1) i k = if a ≤ k ∧ k < i - 1 then f (k + 1) else if k = i - 1 then f a else f k := by
    intro k
    unfold rotF
    by_cases p1 : a ≤ k ∧ k < i - 1
    · rw [if_pos (by omega), if_pos p1]; congr 1; omega
    · rw [if_neg (by omega), if_neg p1]
      by_cases p2 : k = i - 1
      · rw [if_pos (by omega), if_pos p2]; congr 1; omega
      · rw [if_neg (by omega), if_neg p2]
  intro p q hp hpq hq
  rw [e p, e q]
  by_cases c1 : a ≤ p ∧ p < i - 1
  · rw [if_pos c1]
    by_cases c2 : a ≤ q ∧ q < i - 1
    · rw [if_pos c2]; exact P.s2 _ _ (by omega) (by omega) (by omega)
    · rw [if_neg c2]
      by_cases c3 : q = i - 1
      · rw [if_pos c3]; exact h1 _ (by omega) (by omega)
      · rw [if_neg c3]; exact P.s2 _ _ (by omega) (by omega) (by omega)
  · rw [if_neg c1]
    by_cases c2 : p = i - 1
    · rw [if_pos c2, if_neg (by omega), if_neg (by omega)]; exact h2 _ (by omega) hq
    · rw [if_neg c2, if_neg (by omega), if_neg (by omega)]; exact P.s2 _ _ (by omega) hpq hq

/-- One byte behind the others, put where it belongs. -/
theorem merge_right {f : Nat → Int} {a m i : Nat} (P : MergePre lt f a m (m + 1)) (hi1 : a ≤ i) (hi2 : i ≤ m)
    (h1 : ∀ k, a ≤ k → k < i → lt (f k) (f m)) (h2 : ∀ k, i ≤ k → k < m → lt (f m) (f k)) : Merged lt f (rotF f i m (m + 1)) a (m + 1) := by
  refine ⟨(FromOn.rot f i m (m + 1) hi2 (by omega)).wide hi1 (Nat.le_refl _), ?_⟩
  have e : ∀ k, rotF f i m (m + 1) k = if k = i then f m else if i < k ∧ k ≤ m then f (k - 1) else f k := by
    intro k
    unfold rotF
    by_cases p1 : k = i
    · rw [if_pos (by omega), if_pos p1]; congr 1; omega
    · rw [if_neg (by omega), if_neg p1]
      by_cases p2 : i < k ∧ k ≤ m
      · rw [if_pos (by omega), if_pos p2]; congr 1; omega
      · rw [if_neg (by omega), if_neg p2]
  intro p q hp hpq hq
  rw [e p, e q]
  by_cases c1 : p = i
  · rw [if_pos c1, if_neg (by omega), if_pos (by omega)]; exact h2 _ (by omega) (by omega)
  · rw [if_neg c1]
    by_cases c2 : i < p ∧ p ≤ m
    · rw [if_pos c2, if_neg (by omega), if_pos (by omega)]; exact P.s1 _ _ (by omega) (by omega) (by omega)
    · rw [if_neg c2]
      by_cases c3 : q = i
      · rw [if_pos c3]; exact h1 _ hp (by omega)
      · rw [if_neg c3]
        by_cases c4 : i < q ∧ q ≤ m
        · rw [if_pos c4]; exact P.s1 _ _ hp (by omega) (by omega)
        · rw [if_neg c4]; exact P.s1 _ _ hp hpq (by omega)

/-- The cut of a symmetric merge: what it finds. (c < start: the c-th of the first part is less than its partner; from start on it is not.) -/
theorem sym_cut (S : Strict lt) {f : Nat → Int} {a m b mid lo hi start : Nat} (P : MergePre lt f a m b) (hmid : mid = (a + b) / 2)
    (hlh : (mid < m ∧ lo + b = mid + m ∧ hi = mid) ∨ (m ≤ mid ∧ lo = a ∧ hi = m)) (hs1 : lo ≤ start) (hs2 : start ≤ hi)
    (h1 : ∀ c, lo ≤ c → c < start → lt (f c) (f (mid + m - 1 - c))) (h2 : ∀ c, start ≤ c → c < hi → lt (f (mid + m - 1 - c)) (f c)) :
    a ≤ start ∧ start ≤ m ∧ m ≤ mid + m - start ∧ mid + m - start ≤ b ∧
    (∀ i j, a ≤ i → i < start → mid + m - start ≤ j → j < b → lt (f i) (f j)) ∧
    (∀ i j, m ≤ i → i < mid + m - start → start ≤ j → j < m → lt (f i) (f j)) := by
  have ham := P.am
  have hmb := P.mb
  have b1 : a ≤ start := by omega
  have b2 : start ≤ m := by omega
  have b3 : start ≤ mid := by omega
  have b4 : mid + m - start ≤ b := by omega
  refine ⟨b1, b2, by omega, b4, ?_, ?_⟩
  · intro i j hi1 hi2 hj1 hj2
    -- start > lo, or the second part's rest is empty
    have hlo : lo < start := by omega
    have key := h1 (start - 1) (by omega) (by omega)
    have e : mid + m - 1 - (start - 1) = mid + m - start := by omega
    rw [e] at key
    have k1 : lt (f i) (f (mid + m - start)) := by
      rcases Nat.lt_or_ge i (start - 1) with h | h
      · exact S.tr _ _ _ (P.s1 i (start - 1) hi1 h (by omega)) key
      · have : i = start - 1 := by omega
        subst this; exact key
    rcases Nat.lt_or_ge (mid + m - start) j with h | h
    · exact S.tr _ _ _ k1 (P.s2 _ j (by omega) h hj2)
    · have : j = mid + m - start := by omega
      subst this; exact k1
  · intro i j hi1 hi2 hj1 hj2
    have hhi : start < hi := by omega
    have key := h2 start (by omega) hhi
    have e : mid + m - 1 - start = mid + m - start - 1 := by omega
    rw [e] at key
    have k1 : lt (f i) (f start) := by
      rcases Nat.lt_or_ge i (mid + m - start - 1) with h | h
      · exact S.tr _ _ _ (P.s2 i (mid + m - start - 1) hi1 h (by omega)) key
      · have : i = mid + m - start - 1 := by omega
        subst this; exact key
    rcases Nat.lt_or_ge start j with h | h
    · exact S.tr _ _ _ k1 (P.s1 start j (by omega) h hj2)
    · have : j = start := by omega
      subst this; exact k1

/-- Behind the rotation: each half is two sorted parts, and the first half is less than the second one. -/
theorem sym_rot {f : Nat → Int} {a m b mid start : Nat} (P : MergePre lt f a m b) (hm1 : a ≤ start) (hm2 : start ≤ m) (hm3 : start ≤ mid) (hm4 : mid + m - start ≤ b)
    (h1 : ∀ i j, a ≤ i → i < start → mid + m - start ≤ j → j < b → lt (f i) (f j))
    (h2 : ∀ i j, m ≤ i → i < mid + m - start → start ≤ j → j < m → lt (f i) (f j)) :
    let g := rotF f start m (mid + m - start)
    FromOn a b f g ∧ SortedOn lt g a start ∧ SortedOn lt g start mid ∧ SortedOn lt g mid (mid + m - start) ∧ SortedOn lt g (mid + m - start) b ∧
    (∀ i j, a ≤ i → i < start → start ≤ j → j < mid → g i < g j) ∧ (∀ i j, mid ≤ i → i < mid + m - start → mid + m - start ≤ j → j < b → g i < g j) ∧
    (∀ i j, a ≤ i → i < mid → mid ≤ j → j < b → lt (g i) (g j)) := by
  intro g
  have ham := P.am
  have hmb := P.mb
  have e1 : ∀ k, a ≤ k → k < start → g k = f k := fun k p q => by show rotF _ _ _ _ _ = _; unfold rotF; rw [if_neg (by omega), if_neg (by omega)]
  have e2 : ∀ k, start ≤ k → k < mid → g k = f (k + (m - start)) := fun k p q => by show rotF _ _ _ _ _ = _; unfold rotF; rw [if_pos (by omega)]
  have e3 : ∀ k, mid ≤ k → k < mid + m - start → g k = f (k - (mid - start)) := fun k p q => by
    show rotF _ _ _ _ _ = _; unfold rotF; rw [if_neg (by omega), if_pos (by omega)]; congr 1; omega
  have e4 : ∀ k, mid + m - start ≤ k → k < b → g k = f k := fun k p q => by show rotF _ _ _ _ _ = _; unfold rotF; rw [if_neg (by omega), if_neg (by omega)]
  refine ⟨(FromOn.rot f start m (mid + m - start) hm2 (by omega)).wide hm1 hm4, ?_, ?_, ?_, ?_, ?_, ?_, ?_⟩
  · intro i j p q r; rw [e1 i p (by omega), e1 j (by omega) r]; exact P.s1 i j p q (by omega)
  · intro i j p q r; rw [e2 i p (by omega), e2 j (by omega) r]; exact P.s2 _ _ (by omega) (by omega) (by omega)
  · intro i j p q r; rw [e3 i p (by omega), e3 j (by omega) r]; exact P.s1 _ _ (by omega) (by omega) (by omega)
  · intro i j p q r; rw [e4 i p (by omega), e4 j (by omega) r]; exact P.s2 _ _ (by omega) (by omega) (by omega)
  · intro i j p q r s; rw [e1 i p q, e2 j r s]; exact P.ne _ _ p (by omega) (by omega) (by omega)
  · intro i j p q r s; rw [e3 i p q, e4 j r s]; exact P.ne _ _ (by omega) (by omega) (by omega) s
  · intro i j p q r s
    rcases Nat.lt_or_ge i start with hi | hi
    · rw [e1 i p hi]
      rcases Nat.lt_or_ge j (mid + m - start) with hj | hj
      · rw [e3 j r hj]; exact P.s1 _ _ p (by omega) (by omega)
      · rw [e4 j hj s]; exact h1 _ _ p hi hj s
    · rw [e2 i hi q]
      rcases Nat.lt_or_ge j (mid + m - start) with hj | hj
      · rw [e3 j r hj]; exact h2 _ _ (by omega) (by omega) (by omega) (by omega)
      · rw [e4 j hj s]; exact P.s2 _ _ (by omega) (by omega) s

/-! ### What halving finds. -/
theorem left_yes (S : Strict lt) {f : Nat → Int} {a b h : Nat} (P : MergePre lt f a (a + 1) b) (hh : h < b) (t : lt (f h) (f a)) : ∀ k, a + 1 ≤ k → k < h + 1 → lt (f k) (f a) := by
  intro k h1 h2
  rcases Nat.lt_or_ge k h with h3 | h3
  · exact S.tr _ _ _ (P.s2 k h h1 h3 hh) t
  · have : k = h := by omega
    subst this; exact t
theorem left_no (S : Strict lt) {f : Nat → Int} {a b h : Nat} (P : MergePre lt f a (a + 1) b) (hh1 : a + 1 ≤ h) (hh : h < b) (t : ¬ lt (f h) (f a)) : ∀ k, h ≤ k → k < b → lt (f a) (f k) := by
  have t' : lt (f a) (f h) := (S.tot (f a) (f h) (by have := P.ne a h (by omega) (by omega) hh1 hh; omega)).resolve_right t
  intro k h1 h2
  rcases Nat.lt_or_ge h k with h3 | h3
  · exact S.tr _ _ _ t' (P.s2 h k hh1 h3 h2)
  · have : k = h := by omega
    subst this; exact t'
theorem right_no (S : Strict lt) {f : Nat → Int} {a m h : Nat} (P : MergePre lt f a m (m + 1)) (hh1 : a ≤ h) (hh : h < m) (t : ¬ lt (f m) (f h)) : ∀ k, a ≤ k → k < h + 1 → lt (f k) (f m) := by
  have t' : lt (f h) (f m) := (S.tot (f h) (f m) (by have := P.ne h m hh1 hh (by omega) (by omega); omega)).resolve_right t
  intro k h1 h2
  rcases Nat.lt_or_ge k h with h3 | h3
  · exact S.tr _ _ _ (P.s1 k h h1 h3 hh) t'
  · have : k = h := by omega
    subst this; exact t'
theorem right_yes (S : Strict lt) {f : Nat → Int} {a m h : Nat} (P : MergePre lt f a m (m + 1)) (hh1 : a ≤ h) (t : lt (f m) (f h)) : ∀ k, h ≤ k → k < m → lt (f m) (f k) := by
  intro k h1 h2
  rcases Nat.lt_or_ge h k with h3 | h3
  · exact S.tr _ _ _ t (P.s1 h k hh1 h3 h2)
  · have : k = h := by omega
    subst this; exact t
theorem sym_no (S : Strict lt) {f : Nat → Int} {a m b n c lo : Nat} (P : MergePre lt f a m b) (hc1 : a ≤ lo) (hc0 : lo ≤ c) (hc2 : c < m) (hc3 : m ≤ n - 1 - c) (hc4 : n - 1 - lo < b) (hn : c + 1 ≤ n) (t : ¬ lt (f (n - 1 - c)) (f c)) :
    ∀ k, lo ≤ k → k < c + 1 → lt (f k) (f (n - 1 - k)) := by
  have t' : lt (f c) (f (n - 1 - c)) := (S.tot (f c) (f (n - 1 - c)) (by have := P.ne c (n - 1 - c) (by omega) hc2 hc3 (by omega); omega)).resolve_right t
  intro k h1 h2
  rcases Nat.lt_or_ge k c with h3 | h3
  · exact S.tr _ _ _ (P.s1 k c (by omega) h3 hc2) (S.tr _ _ _ t' (P.s2 (n - 1 - c) (n - 1 - k) hc3 (by omega) (by omega)))
  · have : k = c := by omega
    subst this; exact t'
theorem sym_yes (S : Strict lt) {f : Nat → Int} {a m b n c hi : Nat} (P : MergePre lt f a m b) (hc1 : a ≤ c) (hc2 : c < m) (hc4 : n - 1 - c < b) (hhi : hi ≤ m) (hn : ∀ k, k < hi → m ≤ n - 1 - k) (t : lt (f (n - 1 - c)) (f c)) :
    ∀ k, c ≤ k → k < hi → lt (f (n - 1 - k)) (f k) := by
  intro k h1 h2
  rcases Nat.lt_or_ge c k with h3 | h3
  · have := hn k h2
    rcases Nat.lt_or_ge (n - 1 - k) (n - 1 - c) with h4 | h4
    · exact S.tr _ _ _ (P.s2 (n - 1 - k) (n - 1 - c) this h4 hc4) (S.tr _ _ _ t (P.s1 c k hc1 h3 (by omega)))
    · have e : n - 1 - k = n - 1 - c := by omega
      rw [e]; exact S.tr _ _ _ t (P.s1 c k hc1 h3 (by omega))
  · have : k = c := by omega
    subst this; exact t

/-- A half, merged, and the other one as it was. -/
theorem sym_join {f g h k : Nat → Int} {a mid b : Nat} (h0 : FromOn a b f g) (hm1 : a ≤ mid) (hm2 : mid ≤ b) (m1 : Merged lt g h a mid) (m2 : Merged lt h k mid b)
    (hx : ∀ i j, a ≤ i → i < mid → mid ≤ j → j < b → lt (g i) (g j)) : Merged lt f k a b := by
  refine ⟨h0.trans ((m1.frm.wide (Nat.le_refl _) hm2).trans (m2.frm.wide hm1 (Nat.le_refl _))), ?_⟩
  refine SortedOn.join (m := mid) (m1.srt.congr fun x p q => m2.frm.2 x (by omega)) m2.srt ?_
  intro i j p q r s
  rw [m2.frm.2 i (by omega)]
  obtain ⟨i', p1, p2, p3⟩ := m1.frm.1 i p q
  obtain ⟨j', q1, q2, q3⟩ := m2.frm.1 j r s
  rw [p3, q3, m1.frm.2 j' (by omega)]
  exact hx _ _ p1 p2 q1 q2

end
end Go.Proofs.Ythjmpiekjfnoiaa

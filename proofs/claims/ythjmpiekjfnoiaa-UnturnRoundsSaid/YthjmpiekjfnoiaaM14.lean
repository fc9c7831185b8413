/-
  Plain mathematics of chapter 14: counting places by bytes, the vector, its iterates and its rounds. No program is in sight.
-/
import Derived.Below
namespace Go.Proofs.Ythjmpiekjfnoiaa

/-- How many bytes of s are less than c; how many are c. -/
def ltc (s : List UInt8) (c : Nat) : Nat := s.countP (fun b => decide (b.toNat < c))
def eqc (s : List UInt8) (c : Nat) : Nat := s.countP (fun b => b.toNat == c)

theorem ltc_succ (s : List UInt8) (c : Nat) : ltc s (c + 1) = ltc s c + eqc s c := by
  unfold ltc eqc
  induction s with
  | nil => rfl
  | cons b l ih =>
    simp only [List.countP_cons, ih]
    by_cases h1 : b.toNat < c
    · have : b.toNat < c + 1 := by omega
      have : b.toNat ≠ c := by omega
      simp [*]; omega
    · by_cases h2 : b.toNat = c
      · simp [h2]; omega
      · have : ¬ b.toNat < c + 1 := by omega
        simp [*]

theorem ltc_zero (s : List UInt8) : ltc s 0 = 0 := by simp [ltc]

theorem ltc_all (s : List UInt8) : ltc s 256 = s.length := by
  unfold ltc
  rw [List.countP_eq_length]
  intro b _
  simp
  exact b.toNat_lt

theorem ltc_mono (s : List UInt8) (c d : Nat) (h : c ≤ d) : ltc s c ≤ ltc s d := by
  induction d with
  | zero => have : c = 0 := by omega
            subst this; exact Nat.le_refl _
  | succ d ih =>
    rcases Nat.lt_or_ge d c with h' | h'
    · have : c = d + 1 := by omega
      subst this; exact Nat.le_refl _
    · rw [ltc_succ]; have := ih h'; omega

theorem eqc_take_succ (s : List UInt8) (k c : Nat) (b : UInt8) (h : s[k]? = some b) : eqc (s.take (k + 1)) c = eqc (s.take k) c + if b.toNat = c then 1 else 0 := by
  unfold eqc
  rw [List.take_add_one, h, List.countP_append]
  by_cases hb : b.toNat = c <;> simp [hb]

theorem eqc_take_le (s : List UInt8) (k c : Nat) : eqc (s.take k) c ≤ eqc s c := by
  unfold eqc
  have h := congrArg (List.countP (fun b => b.toNat == c)) (List.take_append_drop k s)
  rw [List.countP_append] at h
  omega

/-- The places of the byte c, in order, among the first n. -/
def idxTo (s : List UInt8) (c n : Nat) : List Nat := (List.range n).filter (fun i => (s.getD i 0).toNat == c)

theorem idxTo_succ (s : List UInt8) (c n : Nat) (b : UInt8) (h : s[n]? = some b) : idxTo s c (n + 1) = idxTo s c n ++ if b.toNat = c then [n] else [] := by
  unfold idxTo
  rw [List.range_succ, List.filter_append]
  have : s.getD n 0 = b := by simp [h]
  by_cases hb : b.toNat = c <;> simp [h, hb]

theorem idxTo_length (s : List UInt8) (c : Nat) : ∀ n, n ≤ s.length → (idxTo s c n).length = eqc (s.take n) c
  | 0, _ => by simp [idxTo, eqc]
  | n + 1, h => by
    obtain ⟨b, hb⟩ : ∃ b, s[n]? = some b := ⟨_, List.getElem?_eq_getElem (by omega)⟩
    rw [idxTo_succ s c n b hb, eqc_take_succ s n c b hb, List.length_append, idxTo_length s c n (by omega)]
    by_cases h : b.toNat = c <;> simp [h]

theorem idxTo_get (s : List UInt8) (c : Nat) : ∀ n, n ≤ s.length → ∀ i j, (idxTo s c n)[i]? = some j ↔ (j < n ∧ (∃ b, s[j]? = some b ∧ b.toNat = c) ∧ i = eqc (s.take j) c)
  | 0, _, i, j => by simp [idxTo]
  | n + 1, h, i, j => by
    obtain ⟨b, hb⟩ : ∃ b, s[n]? = some b := ⟨_, List.getElem?_eq_getElem (by omega)⟩
    have hl := idxTo_length s c n (by omega)
    have ih := idxTo_get s c n (by omega) i j
    rw [idxTo_succ s c n b hb, List.getElem?_append]
    split
    · rename_i hi
      rw [ih]
      constructor
      · rintro ⟨h1, h2, h3⟩; exact ⟨by omega, h2, h3⟩
      · rintro ⟨h1, h2, h3⟩
        refine ⟨?_, h2, h3⟩
        rcases Nat.lt_or_ge j n with h' | h'
        · exact h'
        · have : j = n := by omega
          subst this; omega
    · rename_i hi
      have hn : ∀ j', j' < n → i = eqc (s.take j') c → (∃ b, s[j']? = some b ∧ b.toNat = c) → False := by
        intro j' hj' he hb'
        have := (idxTo_get s c n (by omega) i j').2 ⟨hj', hb', he⟩
        rw [List.getElem?_eq_none (by omega)] at this
        cases this
      by_cases hc : b.toNat = c
      · rw [if_pos hc]
        constructor
        · intro h'
          have hi0 : i - (idxTo s c n).length = 0 := by
            rcases Nat.eq_zero_or_pos (i - (idxTo s c n).length) with h0 | h0
            · exact h0
            · rw [List.getElem?_eq_none (by simp; omega)] at h'; cases h'
          rw [hi0] at h'
          have : n = j := by simpa using h'
          subst this
          exact ⟨by omega, ⟨b, hb, hc⟩, by omega⟩
        · rintro ⟨h1, h2, h3⟩
          rcases Nat.lt_or_ge j n with h' | h'
          · exact (hn j h' h3 h2).elim
          · have : j = n := by omega
            subst this
            rw [show i - (idxTo s c j).length = 0 by omega]; rfl
      · rw [if_neg hc]
        constructor
        · intro h'; simp at h'
        · rintro ⟨h1, ⟨b', h2, h4⟩, h3⟩
          rcases Nat.lt_or_ge j n with h' | h'
          · exact (hn j h' h3 ⟨b', h2, h4⟩).elim
          · have : j = n := by omega
            subst this
            rw [hb] at h2; cases h2; exact absurd h4 hc

/-- The vector of the bytes less than m. -/
def vecTo (s : List UInt8) : Nat → List Nat
  | 0 => []
  | m + 1 => vecTo s m ++ idxTo s m s.length

def vec (s : List UInt8) : List Nat := vecTo s 256

theorem vecTo_length (s : List UInt8) : ∀ m, (vecTo s m).length = ltc s m
  | 0 => by simp [vecTo, ltc_zero]
  | m + 1 => by
    rw [vecTo, List.length_append, vecTo_length s m, idxTo_length s m _ (Nat.le_refl _), List.take_length, ltc_succ]

theorem vec_eq (s : List UInt8) : vec s = vecTo s 256 := rfl

theorem vec_length (s : List UInt8) : (vec s).length = s.length := by rw [vec, vecTo_length, ltc_all]

/-- Where the place j stands in the vector. -/
def place (s : List UInt8) (j : Nat) : Nat := ltc s (s.getD j 0).toNat + eqc (s.take j) (s.getD j 0).toNat

theorem vecTo_get (s : List UInt8) : ∀ m i j, (vecTo s m)[i]? = some j ↔ (j < s.length ∧ (s.getD j 0).toNat < m ∧ i = place s j)
  | 0, i, j => by simp [vecTo]
  | m + 1, i, j => by
    have hl := vecTo_length s m
    rw [vecTo, List.getElem?_append]
    split
    · rename_i hi
      rw [vecTo_get s m i j]
      constructor
      · rintro ⟨h1, h2, h3⟩; exact ⟨h1, by omega, h3⟩
      · rintro ⟨h1, h2, h3⟩
        refine ⟨h1, ?_, h3⟩
        rcases Nat.lt_or_ge (s.getD j 0).toNat m with h' | h'
        · exact h'
        · have he : (s.getD j 0).toNat = m := by omega
          unfold place at h3; rw [he] at h3; omega
    · rename_i hi
      rw [idxTo_get s m _ (Nat.le_refl _)]
      constructor
      · rintro ⟨h1, ⟨b, h2, h3⟩, h4⟩
        have hg : s.getD j 0 = b := by simp [h2]
        refine ⟨h1, by rw [hg]; omega, ?_⟩
        unfold place; rw [hg, h3]; omega
      · rintro ⟨h1, h2, h3⟩
        have hge : m ≤ (s.getD j 0).toNat := by
          rcases Nat.lt_or_ge (s.getD j 0).toNat m with h' | h'
          · have := (vecTo_get s m i j).2 ⟨h1, h', h3⟩
            rw [List.getElem?_eq_none (by omega)] at this; cases this
          · exact h'
        have he : (s.getD j 0).toNat = m := by omega
        refine ⟨h1, ⟨s.getD j 0, by simp [List.getElem?_eq_getElem h1], he⟩, ?_⟩
        unfold place at h3; rw [he] at h3; omega

theorem vec_get (s : List UInt8) (i j : Nat) : (vec s)[i]? = some j ↔ (j < s.length ∧ i = place s j) := by
  rw [vec, vecTo_get]
  constructor
  · rintro ⟨h1, _, h3⟩; exact ⟨h1, h3⟩
  · rintro ⟨h1, h3⟩; exact ⟨h1, (s.getD j 0).toNat_lt, h3⟩

theorem place_lt (s : List UInt8) (j : Nat) (h : j < s.length) : place s j < s.length := by
  have := (vec_get s (place s j) j).2 ⟨h, rfl⟩
  have := (List.getElem?_eq_some_iff.1 this).1
  rw [vec_length] at this; exact this

theorem place_inj (s : List UInt8) (j k : Nat) (hj : j < s.length) (hk : k < s.length) (h : place s j = place s k) : j = k := by
  have h1 := (vec_get s (place s j) j).2 ⟨hj, rfl⟩
  have h2 := (vec_get s (place s k) k).2 ⟨hk, rfl⟩
  rw [h, h2] at h1
  exact (Option.some.inj h1).symm

def vecI (s : List UInt8) : List Int := (vec s).map Int.ofNat

/-- A list that has every j at its place is the vector. -/
theorem eq_vec (s : List UInt8) (l : List Int) (hl : l.length = s.length) (h : ∀ j, j < s.length → l[place s j]? = some (j : Int)) : l = vecI s := by
  unfold vecI
  apply List.ext_getElem?
  intro i
  rcases Nat.lt_or_ge i s.length with hi | hi
  · obtain ⟨j, hj⟩ : ∃ j, (vec s)[i]? = some j := ⟨_, List.getElem?_eq_getElem (by rw [vec_length]; exact hi)⟩
    obtain ⟨h1, h2⟩ := (vec_get s i j).1 hj
    rw [List.getElem?_map, hj, h2, h j h1]; rfl
  · rw [List.getElem?_eq_none (by omega), List.getElem?_eq_none (by rw [List.length_map, vec_length]; exact hi)]

/-- Where one comes from a place. -/
def nxt (s : List UInt8) (i : Nat) : Nat := (vec s).getD i 0

theorem nxt_lt (s : List UInt8) (i : Nat) (h : i < s.length) : nxt s i < s.length := by
  obtain ⟨j, hj⟩ : ∃ j, (vec s)[i]? = some j := ⟨_, List.getElem?_eq_getElem (by rw [vec_length]; exact h)⟩
  have := ((vec_get s i j).1 hj).1
  simp [nxt, List.getD, hj, this]

theorem place_nxt (s : List UInt8) (i : Nat) (h : i < s.length) : place s (nxt s i) = i := by
  obtain ⟨j, hj⟩ : ∃ j, (vec s)[i]? = some j := ⟨_, List.getElem?_eq_getElem (by rw [vec_length]; exact h)⟩
  have := ((vec_get s i j).1 hj).2
  simp [nxt, List.getD, hj, ← this]

theorem nxt_place (s : List UInt8) (j : Nat) (h : j < s.length) : nxt s (place s j) = j := by
  have := (vec_get s (place s j) j).2 ⟨h, rfl⟩
  simp [nxt, List.getD, this]

theorem nxt_inj (s : List UInt8) (i j : Nat) (hi : i < s.length) (hj : j < s.length) (h : nxt s i = nxt s j) : i = j := by
  rw [← place_nxt s i hi, ← place_nxt s j hj, h]

/-! ### What the program's array of counts holds, in its three loops. -/
def cntA (s : List UInt8) (k d : Nat) : Int := if d = 0 then 0 else (eqc (s.take k) (d - 1) : Int)
def cntB (s : List UInt8) (c d : Nat) : Int := if d ≤ c then (ltc s d : Int) else (eqc s (d - 1) : Int)
def cntC (s : List UInt8) (k d : Nat) : Int := (ltc s d : Int) + (eqc (s.take k) d : Int)

theorem cntA_zero (s : List UInt8) : cntA s 0 = fun _ => 0 := by funext d; simp [cntA, eqc]
theorem cntA_succ (s : List UInt8) (k : Nat) (b : UInt8) (h : s[k]? = some b) (d : Nat) : cntA s (k + 1) d = if d = b.toNat + 1 then cntA s k (b.toNat + 1) + 1 else cntA s k d := by
  unfold cntA
  by_cases h0 : d = 0
  · subst h0; rw [if_pos rfl, if_neg (by omega), if_pos rfl]
  · rw [if_neg h0, eqc_take_succ s k _ b h]
    by_cases hd : d = b.toNat + 1
    · subst hd; simp
    · rw [if_neg hd, if_neg h0, if_neg (by omega)]; simp
theorem cntA_cntB (s : List UInt8) : cntA s s.length = cntB s 0 := by
  funext d
  unfold cntA cntB
  rw [List.take_length]
  by_cases h0 : d = 0
  · subst h0; simp [ltc_zero]
  · rw [if_neg h0, if_neg (by omega)]
theorem cntB_succ (s : List UInt8) (c d : Nat) : cntB s (c + 1) d = if d = c + 1 then cntB s c (c + 1) + cntB s c c else cntB s c d := by
  unfold cntB
  by_cases hd : d = c + 1
  · subst hd
    rw [if_pos rfl, if_pos (Nat.le_refl _), if_neg (by omega), if_pos (Nat.le_refl _), ltc_succ]; simp; omega
  · rw [if_neg hd]
    by_cases h : d ≤ c
    · rw [if_pos h, if_pos (by omega)]
    · rw [if_neg h, if_neg (by omega)]
theorem cntB_cntC (s : List UInt8) (d : Nat) (h : d < 257) : cntC s 0 d = cntB s 256 d := by
  unfold cntB cntC
  rw [if_pos (by omega)]; simp [eqc]
theorem cntC_succ (s : List UInt8) (k : Nat) (b : UInt8) (h : s[k]? = some b) (d : Nat) : cntC s (k + 1) d = if d = b.toNat then cntC s k b.toNat + 1 else cntC s k d := by
  unfold cntC
  rw [eqc_take_succ s k _ b h]
  by_cases hd : d = b.toNat
  · subst hd; simp; omega
  · rw [if_neg hd, if_neg (by omega)]; simp
theorem cntC_place (s : List UInt8) (k : Nat) (b : UInt8) (h : s[k]? = some b) : cntC s k b.toNat = (place s k : Int) := by
  unfold cntC place
  have : s.getD k 0 = b := by simp [h]
  rw [this]; simp

theorem eqc_le (s : List UInt8) (c : Nat) : eqc s c ≤ s.length := List.countP_le_length
theorem ltc_le (s : List UInt8) (c : Nat) : ltc s c ≤ s.length := List.countP_le_length
theorem cntA_bd (s : List UInt8) (k d : Nat) : 0 ≤ cntA s k d ∧ cntA s k d ≤ s.length := by
  unfold cntA
  split
  · omega
  · have := eqc_take_le s k (d - 1); have := eqc_le s (d - 1); omega
theorem cntB_bd (s : List UInt8) (k d : Nat) : 0 ≤ cntB s k d ∧ cntB s k d ≤ s.length := by
  unfold cntB
  split
  · have := ltc_le s d; omega
  · have := eqc_le s (d - 1); omega

attribute [irreducible] vec

end Go.Proofs.Ythjmpiekjfnoiaa

/-
  Plain mathematics of turns and their order: cyclic bytes, compared by so many of the first ones; ranks; the one order. No program is in sight.
-/
import Derived.Test.YthjmpiekjfnoiaaM14b
import Derived.Test.YthjmpiekjfnoiaaMS
namespace Go.Proofs.Ythjmpiekjfnoiaa

section
variable {c : Nat → Nat}

/-- The first m of both turns are the same. -/
def eqm (c : Nat → Nat) (m a b : Nat) : Prop := ∀ t, t < m → c (a + t) = c (b + t)
/-- Of the first m of both, the first one that differs is less. -/
def ltm (c : Nat → Nat) (m a b : Nat) : Prop := ∃ t, t < m ∧ (∀ u, u < t → c (a + u) = c (b + u)) ∧ c (a + t) < c (b + t)

theorem eqm.refl (m a : Nat) : eqm c m a a := fun _ _ => rfl
theorem eqm.symm {m a b : Nat} (h : eqm c m a b) : eqm c m b a := fun t ht => (h t ht).symm
theorem eqm.trans {m a b d : Nat} (h : eqm c m a b) (k : eqm c m b d) : eqm c m a d := fun t ht => (h t ht).trans (k t ht)
theorem ltm.trans {m a b d : Nat} (h : ltm c m a b) (k : ltm c m b d) : ltm c m a d := by
  obtain ⟨t, t1, t2, t3⟩ := h
  obtain ⟨u, u1, u2, u3⟩ := k
  rcases Nat.lt_trichotomy t u with p | p | p
  · exact ⟨t, t1, fun v hv => (t2 v hv).trans (u2 v (by omega)), by rw [← u2 t p]; exact t3⟩
  · subst p; exact ⟨t, t1, fun v hv => (t2 v hv).trans (u2 v hv), by omega⟩
  · exact ⟨u, u1, fun v hv => (t2 v (by omega)).trans (u2 v hv), by rw [t2 u p]; exact u3⟩
theorem ltm.not_eqm {m a b : Nat} (h : ltm c m a b) : ¬ eqm c m a b := fun k => by
  obtain ⟨t, t1, _, t3⟩ := h
  have := k t t1; omega
theorem ltm.irrefl {m a : Nat} : ¬ ltm c m a a := fun h => h.not_eqm (eqm.refl m a)
theorem ltm.asymm {m a b : Nat} (h : ltm c m a b) : ¬ ltm c m b a := fun k => ltm.irrefl (h.trans k)
theorem ltm.eqm {m a b d : Nat} (h : ltm c m a b) (k : eqm c m b d) : ltm c m a d := by
  obtain ⟨t, t1, t2, t3⟩ := h
  exact ⟨t, t1, fun v hv => (t2 v hv).trans (k v (by omega)), by rw [← k t t1]; exact t3⟩
theorem eqm.ltm {m a b d : Nat} (h : eqm c m a b) (k : ltm c m b d) : ltm c m a d := by
  obtain ⟨t, t1, t2, t3⟩ := k
  exact ⟨t, t1, fun v hv => (h v (by omega)).trans (t2 v hv), by rw [h t t1]; exact t3⟩
theorem ltm_or (c : Nat → Nat) (a b : Nat) : ∀ m, ltm c m a b ∨ eqm c m a b ∨ ltm c m b a := by
  intro m
  induction m with
  | zero => exact .inr (.inl (fun t h => by omega))
  | succ m ih =>
    rcases ih with ⟨t, t1, t2, t3⟩ | h | ⟨t, t1, t2, t3⟩
    · exact .inl ⟨t, by omega, t2, t3⟩
    · rcases Nat.lt_trichotomy (c (a + m)) (c (b + m)) with p | p | p
      · exact .inl ⟨m, by omega, fun u hu => h u hu, p⟩
      · refine .inr (.inl (fun t ht => ?_))
        rcases Nat.lt_or_ge t m with q | q
        · exact h t q
        · have : t = m := by omega
          rw [this]; exact p
      · exact .inr (.inr ⟨m, by omega, fun u hu => (h u hu).symm, p⟩)
    · exact .inr (.inr ⟨t, by omega, t2, t3⟩)
theorem ltm_add (m k a b : Nat) : ltm c (m + k) a b ↔ ltm c m a b ∨ (eqm c m a b ∧ ltm c k (a + m) (b + m)) := by
  constructor
  · rintro ⟨t, t1, t2, t3⟩
    rcases Nat.lt_or_ge t m with p | p
    · exact .inl ⟨t, p, t2, t3⟩
    · refine .inr ⟨fun u hu => t2 u (by omega), t - m, by omega, fun u hu => ?_, ?_⟩
      · have := t2 (m + u) (by omega)
        rwa [← Nat.add_assoc, ← Nat.add_assoc] at this
      · rw [Nat.add_assoc, Nat.add_assoc, Nat.add_sub_cancel' p]; exact t3
  · rintro (⟨t, t1, t2, t3⟩ | ⟨h, t, t1, t2, t3⟩)
    · exact ⟨t, by omega, t2, t3⟩
    · refine ⟨m + t, by omega, fun u hu => ?_, by rw [← Nat.add_assoc, ← Nat.add_assoc]; exact t3⟩
      rcases Nat.lt_or_ge u m with p | p
      · exact h u p
      · have := t2 (u - m) (by omega)
        rwa [Nat.add_assoc, Nat.add_assoc, Nat.add_sub_cancel' p] at this
theorem eqm_add (m k a b : Nat) : eqm c (m + k) a b ↔ eqm c m a b ∧ eqm c k (a + m) (b + m) := by
  constructor
  · intro h
    refine ⟨fun t ht => h t (by omega), fun t ht => ?_⟩
    have := h (m + t) (by omega)
    rwa [← Nat.add_assoc, ← Nat.add_assoc] at this
  · rintro ⟨h, k'⟩ t ht
    rcases Nat.lt_or_ge t m with p | p
    · exact h t p
    · have := k' (t - m) (by omega)
      rwa [Nat.add_assoc, Nat.add_assoc, Nat.add_sub_cancel' p] at this

/-- The bytes come again behind n. -/
def Cyc (c : Nat → Nat) (n : Nat) : Prop := ∀ i, c (i + n) = c i
theorem Cyc.mul {n : Nat} (h : Cyc c n) (i q : Nat) : c (i + n * q) = c i := by
  induction q with
  | zero => rfl
  | succ q ih => rw [Nat.mul_succ, ← Nat.add_assoc, h, ih]
theorem Cyc.mod {n : Nat} (h : Cyc c n) (i : Nat) : c (i % n) = c i := by
  have := h.mul (i % n) (i / n)
  rw [Nat.mod_add_div] at this
  exact this.symm
theorem Cyc.mod_add {n : Nat} (h : Cyc c n) (i t : Nat) : c (i % n + t) = c (i + t) := by
  rw [← h.mod (i % n + t), ← h.mod (i + t), Nat.mod_add_mod]
theorem Cyc.ltm {n : Nat} (h : Cyc c n) (m a b : Nat) : ltm c m (a % n) (b % n) ↔ ltm c m a b := by
  unfold Go.Proofs.Ythjmpiekjfnoiaa.ltm
  simp only [h.mod_add]
theorem Cyc.eqm {n : Nat} (h : Cyc c n) (m a b : Nat) : eqm c m (a % n) (b % n) ↔ eqm c m a b := by
  unfold Go.Proofs.Ythjmpiekjfnoiaa.eqm
  simp only [h.mod_add]
/-- Beyond n there is nothing new. -/
theorem Cyc.all {n : Nat} (h : Cyc c n) (hn : 0 < n) {m a b : Nat} (hm : n ≤ m) : (Go.Proofs.Ythjmpiekjfnoiaa.eqm c m a b ↔ Go.Proofs.Ythjmpiekjfnoiaa.eqm c n a b) ∧ (Go.Proofs.Ythjmpiekjfnoiaa.ltm c m a b ↔ Go.Proofs.Ythjmpiekjfnoiaa.ltm c n a b) := by
  have key : Go.Proofs.Ythjmpiekjfnoiaa.eqm c n a b → Go.Proofs.Ythjmpiekjfnoiaa.eqm c m a b := fun k t _ => by
    have e : ∀ x, c (x + t) = c (x + t % n) := fun x => by
      have := h.mul (x + t % n) (t / n)
      rw [Nat.add_assoc, Nat.mod_add_div] at this
      exact this
    rw [e a, e b]
    exact k (t % n) (Nat.mod_lt _ hn)
  refine ⟨⟨fun k t ht => k t (by omega), key⟩, ⟨fun k => ?_, fun ⟨t, t1, t2, t3⟩ => ⟨t, by omega, t2, t3⟩⟩⟩
  rcases ltm_or c a b n with p | p | p
  · exact p
  · exact absurd (key p) k.not_eqm
  · obtain ⟨t, t1, t2, t3⟩ := p
    exact absurd ⟨t, by omega, t2, t3⟩ k.asymm

/-- Ranks that tell how turns stand by so many of their first bytes. -/
def RankOK (c : Nat → Nat) (n m : Nat) (r : Nat → Int) : Prop := ∀ a b, a < n → b < n → (r a < r b ↔ ltm c m a b)
theorem RankOK.eq {n m : Nat} {r : Nat → Int} (h : RankOK c n m r) {a b : Nat} (ha : a < n) (hb : b < n) : r a = r b ↔ eqm c m a b := by
  constructor
  · intro e
    rcases ltm_or c a b m with p | p | p
    · have := (h a b ha hb).2 p; omega
    · exact p
    · have := (h b a hb ha).2 p; omega
  · intro e
    rcases Int.lt_trichotomy (r a) (r b) with p | p | p
    · exact absurd e ((h a b ha hb).1 p).not_eqm
    · exact p
    · exact absurd e.symm ((h b a hb ha).1 p).not_eqm

/-- What a comparison answers: by the ranks, then by the ranks so much further on. -/
def kcmp (r : Nat → Int) (n M x y : Nat) : Int :=
  if r x < r y then -1 else if r y < r x then 1 else if r ((x + M) % n) < r ((y + M) % n) then -1 else if r ((y + M) % n) < r ((x + M) % n) then 1 else 0

theorem kcmp_spec {n M x y : Nat} {r : Nat → Int} (hc : Cyc c n) (h : RankOK c n (max M 1) r) (hx : x < n) (hy : y < n) :
    (kcmp r n M x y < 0 ↔ ltm c (max (2 * M) 1) x y) ∧ (kcmp r n M x y = 0 ↔ eqm c (max (2 * M) 1) x y) := by
  have hn : 0 < n := by omega
  have e1 := h x y hx hy
  have e2 := h y x hy hx
  have e3 := h.eq hx hy
  have f1 := h ((x + M) % n) ((y + M) % n) (Nat.mod_lt _ hn) (Nat.mod_lt _ hn)
  have f2 := h ((y + M) % n) ((x + M) % n) (Nat.mod_lt _ hn) (Nat.mod_lt _ hn)
  have f3 := h.eq (Nat.mod_lt (x + M) hn) (Nat.mod_lt (y + M) hn)
  rw [hc.ltm] at f1 f2
  rw [hc.eqm] at f3
  have a1 : ltm c (max (2 * M) 1) x y ↔ r x < r y ∨ (r x = r y ∧ r ((x + M) % n) < r ((y + M) % n)) := by
    rcases Nat.eq_zero_or_pos M with h0 | h0
    · subst h0
      rw [f1, e1, e3]
      simp only [Nat.max_def, Nat.add_zero]
      constructor
      · exact .inl
      · rintro (p | ⟨p, q⟩)
        · exact p
        · exact q
    · rw [f1, e1, e3, show max (2 * M) 1 = M + M by omega, show max M 1 = M by omega, ltm_add]
  have a2 : eqm c (max (2 * M) 1) x y ↔ (r x = r y ∧ r ((x + M) % n) = r ((y + M) % n)) := by
    rcases Nat.eq_zero_or_pos M with h0 | h0
    · subst h0
      rw [f3, e3]
      simp only [Nat.max_def, Nat.add_zero]
      exact ⟨fun p => ⟨p, p⟩, fun p => p.1⟩
    · rw [f3, e3, show max (2 * M) 1 = M + M by omega, show max M 1 = M by omega, eqm_add]
  rw [a1, a2]
  unfold kcmp
  generalize r x = p
  generalize r y = q
  generalize r ((x + M) % n) = s
  generalize r ((y + M) % n) = t
  clear a1 a2 e1 e2 e3 f1 f2 f3 h
  by_cases h1 : p < q
  · rw [if_pos h1]; constructor <;> constructor <;> intro _ <;> omega
  · rw [if_neg h1]
    by_cases h2 : q < p
    · rw [if_pos h2]; constructor <;> constructor <;> intro _ <;> omega
    · rw [if_neg h2]
      by_cases h3 : s < t
      · rw [if_pos h3]; constructor <;> constructor <;> intro _ <;> omega
      · rw [if_neg h3]
        by_cases h4 : t < s
        · rw [if_pos h4]; constructor <;> constructor <;> intro _ <;> omega
        · rw [if_neg h4]; constructor <;> constructor <;> intro _ <;> omega

/-- Which of two places comes first: by the first m bytes of their turns, then by the places. -/
def bef (c : Nat → Nat) (m : Nat) (x y : Int) : Prop := ltm c m x.toNat y.toNat ∨ (eqm c m x.toNat y.toNat ∧ x < y)
theorem bef_strict (c : Nat → Nat) (m : Nat) : Strict (bef c m) := by
  refine ⟨?_, ?_, ?_⟩
  · rintro x y z (h | ⟨h, h'⟩) (k | ⟨k, k'⟩)
    · exact .inl (h.trans k)
    · exact .inl (h.eqm k)
    · exact .inl (h.ltm k)
    · exact .inr ⟨h.trans k, by omega⟩
  · intro x y hne
    rcases ltm_or c x.toNat y.toNat m with p | p | p
    · exact .inl (.inl p)
    · rcases Int.lt_or_gt_of_ne hne with q | q
      · exact .inl (.inr ⟨p, q⟩)
      · exact .inr (.inr ⟨p.symm, q⟩)
    · exact .inr (.inl p)
  · rintro x (h | ⟨_, h⟩)
    · exact ltm.irrefl h
    · omega

/-- A list of places in order. -/
structure Ord (c : Nat → Nat) (n m : Nat) (o : Nat → Int) : Prop where
  rng : ∀ k, k < n → 0 ≤ o k ∧ o k < (n : Int)
  srt : SortedOn (bef c m) o 0 n

theorem Ord.ne {n m : Nat} {o : Nat → Int} (h : Ord c n m o) {i j : Nat} (hi : i < n) (hj : j < n) (hij : i ≠ j) : o i ≠ o j := by
  intro e
  rcases Nat.lt_or_gt_of_ne hij with p | p
  · have := h.srt i j (Nat.zero_le _) p hj; rw [e] at this; exact (bef_strict c m).irr _ this
  · have := h.srt j i (Nat.zero_le _) p hi; rw [e] at this; exact (bef_strict c m).irr _ this

theorem Ord.onto {n m : Nat} {o : Nat → Int} (h : Ord c n m o) {y : Nat} (hy : y < n) : ∃ k, k < n ∧ o k = (y : Int) := by
  apply Classical.byContradiction
  intro hno
  obtain ⟨a, b, hab, hb, e⟩ := php n (fun k => if k < n then (o k).toNat else y) (fun k hk => by
    show (if k < n then (o k).toNat else y) < n
    by_cases p : k < n
    · rw [if_pos p]; have := h.rng k p; omega
    · rw [if_neg p]; exact hy)
  have e' : (if a < n then (o a).toNat else y) = (if b < n then (o b).toNat else y) := e
  rw [if_pos (by omega : a < n)] at e'
  have ra := h.rng a (by omega)
  by_cases p : b < n
  · rw [if_pos p] at e'
    have rb := h.rng b p
    exact h.ne (i := a) (j := b) (by omega) p (by omega) (by omega)
  · rw [if_neg p] at e'
    exact hno ⟨a, by omega, by omega⟩

/-- There is one order alone. -/
theorem Ord.uniq {n m : Nat} {o o' : Nat → Int} (h : Ord c n m o) (h' : Ord c n m o') : ∀ k, k < n → o k = o' k := by
  intro k
  induction k using Nat.strongRecOn with
  | ind k ih =>
    intro hk
    apply Classical.byContradiction
    intro hne
    have step : ∀ {o o' : Nat → Int}, Ord c n m o → Ord c n m o' → (∀ j, j < k → o j = o' j) → o k ≠ o' k → bef c m (o' k) (o k) := by
      intro o o' h h' ih hne
      have r := h.rng k hk
      obtain ⟨j, hj, e⟩ := h'.onto (y := (o k).toNat) (by omega)
      have e' : o' j = o k := by omega
      rcases Nat.lt_trichotomy j k with p | p | p
      · exact absurd ((ih j p).trans e') (h.ne hj hk (by omega))
      · subst p; exact absurd e'.symm hne
      · rw [← e']; exact h'.srt k j (Nat.zero_le _) p hj
    have s1 := step h h' (fun j hj => ih j hj (by omega)) hne
    have s2 := step h' h (fun j hj => (ih j hj (by omega)).symm) (fun e => hne e.symm)
    exact (bef_strict c m).irr _ ((bef_strict c m).tr _ _ _ s1 s2)

theorem Ord.congr {n m : Nat} {o o' : Nat → Int} (h : Ord c n m o) (e : ∀ k, k < n → o' k = o k) : Ord c n m o' :=
  ⟨fun k hk => by rw [e k hk]; exact h.rng k hk, h.srt.congr fun k _ hk => e k hk⟩

theorem Ord.full {n m : Nat} {o : Nat → Int} (h : Ord c n m o) (hc : Cyc c n) (hn : 0 < n) (hm : n ≤ m) : Ord c n n o :=
  ⟨h.rng, fun i j h1 h2 h3 => by
    have := h.srt i j h1 h2 h3
    unfold bef at this ⊢
    rwa [(hc.all hn hm).1, (hc.all hn hm).2] at this⟩

/-- Numbers of 0 to n-1 that rise are 0, 1, .. -/
theorem rise_id {n : Nat} {f : Nat → Int} (hr : ∀ k, k < n → 0 ≤ f k ∧ f k < (n : Int)) (hs : ∀ k, k + 1 < n → f k < f (k + 1)) : ∀ k, k < n → f k = (k : Int) := by
  have lo : ∀ k, k < n → (k : Int) ≤ f k := by
    intro k
    induction k with
    | zero => intro h; exact (hr 0 h).1
    | succ k ih => intro h; have := ih (by omega); have := hs k h; omega
  have hi : ∀ d k, k + d + 1 = n → f k ≤ (k : Int) := by
    intro d
    induction d with
    | zero => intro k hk; have := (hr k (by omega)).2; omega
    | succ d ih => intro k hk; have := ih (k + 1) (by omega); have := hs k (by omega); omega
  intro k hk
  have := lo k hk
  have := hi (n - k - 1) k (by omega)
  omega

/-- The ranks that are told of an order: 0, and one more where the turn differs from the one ahead. -/
theorem rank_of {n m : Nat} {o : Nat → Int} (h : Ord c n m o) {v : Nat → Int} {r : Nat → Int}
    (hv : ∀ i, i + 1 < n → (eqm c m (o i).toNat (o (i + 1)).toNat ∧ v (i + 1) = v i) ∨ (¬ eqm c m (o i).toNat (o (i + 1)).toNat ∧ v (i + 1) = v i + 1)) (hr : ∀ i, i < n → r (o i).toNat = v i) : RankOK c n m r := by
  have key : ∀ j, j < n → ∀ i, i ≤ j → v i ≤ v j ∧ (v i = v j ↔ eqm c m (o i).toNat (o j).toNat) := by
    intro j
    induction j with
    | zero => intro _ i hi; have : i = 0 := by omega
              subst this; exact ⟨Int.le_refl _, ⟨fun _ => eqm.refl _ _, fun _ => rfl⟩⟩
    | succ j ih =>
      intro hj i hi
      rcases Nat.lt_or_ge j i with p | p
      · have : i = j + 1 := by omega
        subst this; exact ⟨Int.le_refl _, ⟨fun _ => eqm.refl _ _, fun _ => rfl⟩⟩
      · obtain ⟨k1, k2⟩ := ih (by omega) i p
        have e := hv j hj
        rcases e with ⟨q, e⟩ | ⟨q, e⟩
        · refine ⟨by omega, ⟨fun w => (k2.1 (by omega)).trans q, fun w => ?_⟩⟩
          have := k2.2 (w.trans q.symm)
          omega
        · refine ⟨by omega, ⟨fun w => by omega, fun w => ?_⟩⟩
          exfalso
          have s := h.srt j (j + 1) (Nat.zero_le _) (by omega) hj
          have s' : ltm c m (o j).toNat (o (j + 1)).toNat := s.resolve_right (fun x => q x.1)
          rcases Nat.lt_or_ge i j with p' | p'
          · rcases h.srt i j (Nat.zero_le _) p' (by omega) with t | ⟨t, _⟩
            · exact (t.trans s').not_eqm w
            · exact q (t.symm.trans w)
          · have : i = j := by omega
            subst this; exact q w
  intro a b ha hb
  obtain ⟨i, hi, ei⟩ := h.onto ha
  obtain ⟨j, hj, ej⟩ := h.onto hb
  have ra := hr i hi
  have rb := hr j hj
  have ta : (o i).toNat = a := by omega
  have tb : (o j).toNat = b := by omega
  rw [ta] at ra
  rw [tb] at rb
  rw [ra, rb]
  rcases Nat.lt_or_ge i j with p | p
  · obtain ⟨k1, k2⟩ := key j hj i (by omega)
    rw [ta, tb] at k2
    have s := h.srt i j (Nat.zero_le _) p hj
    unfold bef at s
    rw [ta, tb] at s
    constructor
    · intro w
      exact s.resolve_right (fun x => by have := k2.2 x.1; omega)
    · intro w
      have : v i ≠ v j := fun e => w.not_eqm (k2.1 e)
      omega
  · obtain ⟨k1, k2⟩ := key i hi j p
    rw [ta, tb] at k2
    constructor
    · intro w; omega
    · intro w
      exfalso
      rcases Nat.lt_or_ge j i with p' | p'
      · have s := h.srt j i (Nat.zero_le _) p' hi
        unfold bef at s
        rw [ta, tb] at s
        rcases s with s | ⟨s, _⟩
        · exact w.asymm s
        · exact w.not_eqm s.symm
      · have : i = j := by omega
        subst this
        rw [ta] at tb
        subst tb
        exact ltm.irrefl w

end
end Go.Proofs.Ythjmpiekjfnoiaa

/-
  Plain mathematics: two lists of the same places, both in order, stand alike; turned texts; texts several times over; the first turn.
-/
import Derived.Test.YthjmpiekjfnoiaaM13c
import Derived.Test.YthjmpiekjfnoiaaM13d
namespace Go.Proofs.Ythjmpiekjfnoiaa

theorem weak_same {N : Nat} {lt : Nat → Nat → Prop} (hir : ∀ x, ¬ lt x x) (htr : ∀ x y z, lt x z → lt x y ∨ lt y z) {a b : Nat → Nat}
    (ainj : ∀ i j, i < N → j < N → a i = a j → i = j) (bonto : ∀ i, i < N → ∃ j, j < N ∧ b j = a i)
    (asd : ∀ i j, i < j → j < N → ¬ lt (a j) (a i)) (bs : ∀ i j, i < j → j < N → ¬ lt (b j) (b i)) : ∀ i, i < N → ¬ lt (a i) (b i) := by
  intro i hi h
  have key : ∀ k, k ≤ i → ∃ j, j < i ∧ b j = a k := by
    intro k hk
    obtain ⟨j, hj, e⟩ := bonto k (by omega)
    refine ⟨j, ?_, e⟩
    have h1 : lt (a k) (b i) := by
      rcases htr (a i) (a k) (b i) h with p | p
      · exfalso
        rcases Nat.lt_or_ge k i with q | q
        · exact asd k i q hi p
        · have : k = i := by omega
          subst this; exact hir _ p
      · exact p
    rw [← e] at h1
    rcases Nat.lt_trichotomy j i with p | p | p
    · exact p
    · subst p; exact absurd h1 (hir _)
    · exact absurd h1 (bs i j p hj)
  obtain ⟨f, hf⟩ : ∃ f : Nat → Nat, ∀ k, k ≤ i → f k < i ∧ b (f k) = a k := by
    refine ⟨fun k => if h : k ≤ i then Classical.choose (key k h) else 0, fun k hk => ?_⟩
    have := Classical.choose_spec (key k hk)
    simp only [dif_pos hk]
    exact this
  obtain ⟨x, y, h1, h2, h3⟩ := php i f (fun k hk => (hf k hk).1)
  have e1 := (hf x (by omega)).2
  have e2 := (hf y h2).2
  rw [h3, e2] at e1
  have := ainj y x (by omega) (by omega) e1
  omega

theorem ltm_neg {c : Nat → Nat} {m : Nat} (x y z : Nat) (h : ltm c m x z) : ltm c m x y ∨ ltm c m y z := by
  rcases ltm_or c x y m with p | p | p
  · exact .inl p
  · exact .inr (p.symm.ltm h)
  · exact .inr (p.trans h)

/-- Both in order by their turns: at each place alike turns. -/
theorem weak_eqm {c : Nat → Nat} {m N : Nat} {a b : Nat → Nat} (ainj : ∀ i j, i < N → j < N → a i = a j → i = j) (binj : ∀ i j, i < N → j < N → b i = b j → i = j)
    (aonto : ∀ i, i < N → ∃ j, j < N ∧ a j = b i) (bonto : ∀ i, i < N → ∃ j, j < N ∧ b j = a i)
    (asd : ∀ i j, i < j → j < N → ¬ ltm c m (a j) (a i)) (bs : ∀ i j, i < j → j < N → ¬ ltm c m (b j) (b i)) : ∀ i, i < N → eqm c m (a i) (b i) := by
  intro i hi
  have h1 := weak_same (lt := ltm c m) (fun _ => ltm.irrefl) ltm_neg ainj bonto asd bs i hi
  have h2 := weak_same (lt := ltm c m) (fun _ => ltm.irrefl) ltm_neg binj aonto bs asd i hi
  rcases ltm_or c (a i) (b i) m with p | p | p
  · exact absurd p h1
  · exact p
  · exact absurd p h2

theorem Ord.weak {c : Nat → Nat} {n m : Nat} {o : Nat → Int} (h : Ord c n m o) {i j : Nat} (hij : i < j) (hj : j < n) : ¬ ltm c m (o j).toNat (o i).toNat := by
  intro k
  rcases h.srt i j (Nat.zero_le _) hij hj with p | ⟨p, _⟩
  · exact p.asymm k
  · exact k.not_eqm p.symm
theorem Ord.nat {c : Nat → Nat} {n m : Nat} {o : Nat → Int} (h : Ord c n m o) {i : Nat} (hi : i < n) : o i = (((o i).toNat : Nat) : Int) ∧ (o i).toNat < n := by
  have := h.rng i hi; omega
theorem Ord.inj {c : Nat → Nat} {n m : Nat} {o : Nat → Int} (h : Ord c n m o) {i j : Nat} (hi : i < n) (hj : j < n) (e : (o i).toNat = (o j).toNat) : i = j := by
  apply Classical.byContradiction
  intro hne
  have h1 := (h.nat hi).1
  have h2 := (h.nat hj).1
  exact h.ne hi hj hne (by rw [h1, h2, e])

/-! ### Turned texts. -/
theorem rot_size (s : ByteArray) {k : Nat} (hk : k ≤ s.size) : (mkS (rot s k)).size = s.size := by rw [mkS_size, rot_length s k hk]
theorem cycf_rot (s : ByteArray) {k : Nat} (hk : k < s.size) (i : Nat) : cycf (mkS (rot s k)) i = cycf s (k + i) := by
  have h := rot_get s k (i % s.size) hk (Nat.mod_lt _ (by omega))
  unfold cycf
  rw [rot_size s (by omega), mkS_toList, List.getD, h, Nat.add_mod_mod]; rfl
theorem eqm_shift {c d : Nat → Nat} {k m x y : Nat} (h : ∀ i, d i = c (k + i)) : eqm d m x y ↔ eqm c m (x + k) (y + k) := by
  unfold eqm
  simp only [h, show ∀ x t, k + (x + t) = x + k + t by intros; omega]
theorem ltm_shift {c d : Nat → Nat} {k m x y : Nat} (h : ∀ i, d i = c (k + i)) : ltm d m x y ↔ ltm c m (x + k) (y + k) := by
  unfold ltm
  simp only [h, show ∀ x t, k + (x + t) = x + k + t by intros; omega]

theorem add_mod_inj {n k x y : Nat} (hx : x < n) (hy : y < n) (h : (x + k) % n = (y + k) % n) : x = y := by
  have e : ∀ z, z < n → ((z + k) % n + (n - k % n)) % n = z := by
    intro z hz
    have hk := Nat.mod_lt k (show 0 < n by omega)
    rw [Nat.mod_add_mod, ← Nat.mod_add_mod]
    have e1 : z + k + (n - k % n) = z + n * (k / n + 1) := by
      have := Nat.mod_add_div k n
      rw [Nat.mul_add, Nat.mul_one]; omega
    rw [Nat.mod_add_mod, e1, Nat.add_mul_mod_self_left, Nat.mod_eq_of_lt hz]
  rw [← e x hx, ← e y hy, h]
theorem add_mod_onto {n k y : Nat} (hy : y < n) : ∃ x, x < n ∧ (x + k) % n = y := by
  refine ⟨(y + (n - k % n)) % n, Nat.mod_lt _ (by omega), ?_⟩
  have hk := Nat.mod_lt k (show 0 < n by omega)
  have e1 : y + (n - k % n) + k = y + n * (k / n + 1) := by
    have := Nat.mod_add_div k n
    rw [Nat.mul_add, Nat.mul_one]; omega
  rw [Nat.mod_add_mod, e1, Nat.add_mul_mod_self_left, Nat.mod_eq_of_lt hy]

theorem turned_same (s : ByteArray) {k : Nat} (hk : k < s.size) {o o' : Nat → Int} (h : Ord (cycf s) s.size s.size o) (h' : Ord (cycf (mkS (rot s k))) s.size s.size o') :
    ∀ i, i < s.size → eqm (cycf s) s.size (o i).toNat (((o' i).toNat + k) % s.size) := by
  have hc := cycf_cyc s
  refine weak_eqm (fun i j hi hj e => h.inj hi hj e) (fun i j hi hj e => h'.inj hi hj (add_mod_inj (h'.nat hi).2 (h'.nat hj).2 e)) ?_ ?_ (fun i j hij hj => h.weak hij hj) ?_
  · intro i hi
    obtain ⟨j, hj, e⟩ := h.onto (y := ((o' i).toNat + k) % s.size) (Nat.mod_lt _ (by omega))
    exact ⟨j, hj, by rw [e, Int.toNat_natCast]⟩
  · intro i hi
    obtain ⟨x, hx, e⟩ := add_mod_onto (k := k) (h.nat hi).2
    obtain ⟨j, hj, e'⟩ := h'.onto hx
    exact ⟨j, hj, by show ((o' j).toNat + k) % s.size = _; rw [e', Int.toNat_natCast, e]⟩
  · intro i j hij hj
    have := h'.weak hij hj
    rw [ltm_shift (cycf_rot s hk)] at this
    rw [hc.ltm]; exact this

theorem lastTo_byte (s : ByteArray) (o : Nat → Int) (n : Nat) {i : Nat} (hi : i < n) : ∃ b, (lastTo s o n)[i]? = some b ∧ b.toNat = cycf s ((o i).toNat + (s.size - 1)) := by
  refine ⟨s.data.toList.getD (((o i).toNat + (s.size - 1)) % s.size) 0, ?_, rfl⟩
  unfold lastTo
  rw [List.getElem?_map, List.getElem?_range hi]; rfl
theorem last_ext {x y : List UInt8} (hl : x.length = y.length) (h : ∀ i, i < x.length → ∃ a b, x[i]? = some a ∧ y[i]? = some b ∧ a.toNat = b.toNat) : x = y := by
  apply List.ext_getElem?
  intro i
  by_cases hi : i < x.length
  · obtain ⟨a, b, h1, h2, h3⟩ := h i hi
    rw [h1, h2, UInt8.toNat_inj.1 h3]
  · rw [List.getElem?_eq_none (by omega), List.getElem?_eq_none (by omega)]

theorem turned_last (s : ByteArray) {k : Nat} (hk : k < s.size) {o o' : Nat → Int} (h : Ord (cycf s) s.size s.size o) (h' : Ord (cycf (mkS (rot s k))) s.size s.size o') :
    lastTo s o s.size = lastTo (mkS (rot s k)) o' s.size := by
  refine last_ext (by rw [lastTo_length, lastTo_length]) (fun i hi => ?_)
  rw [lastTo_length] at hi
  obtain ⟨a, h1, e1⟩ := lastTo_byte s o s.size hi
  obtain ⟨b, h2, e2⟩ := lastTo_byte (mkS (rot s k)) o' s.size hi
  refine ⟨a, b, h1, h2, ?_⟩
  have hq := turned_same s hk h h' i hi (s.size - 1) (by omega)
  rw [e1, e2, hq, (cycf_cyc s).mod_add, cycf_rot s hk, rot_size s (by omega)]
  congr 1; omega

/-! ### Texts several times over. -/
theorem bef_full {c : Nat → Nat} {n N : Nat} (hc : Cyc c n) (hn : 0 < n) (hN : n ≤ N) (x y : Nat) : (ltm c N x y ↔ ltm c n x y) ∧ (eqm c N x y ↔ eqm c n x y) := ⟨(hc.all hn hN).2, (hc.all hn hN).1⟩

theorem times_same {c : Nat → Nat} {n m : Nat} (hc : Cyc c n) (hn : 0 < n) (hm : 0 < m) {o o' : Nat → Int} (h : Ord c n n o) (h' : Ord c (m * n) (m * n) o') :
    ∀ i, i < m * n → eqm c n (o (i / m)).toNat (o' i).toNat := by
  have hdiv : ∀ {i}, i < m * n → i / m < n := fun {i} hi => Nat.div_lt_of_lt_mul hi
  have hN : n ≤ m * n := Nat.le_mul_of_pos_left n hm
  intro i hi
  have key := weak_eqm (c := c) (m := n) (N := m * n) (a := fun i => (o (i / m)).toNat + n * (i % m)) (b := fun i => (o' i).toNat) ?_ (fun i j hi hj e => h'.inj hi hj e) ?_ ?_ ?_ ?_ i hi
  · have e : eqm c n ((o (i / m)).toNat + n * (i % m)) (o (i / m)).toNat := by
      intro t _
      rw [show (o (i / m)).toNat + n * (i % m) + t = (o (i / m)).toNat + t + n * (i % m) by omega, hc.mul]
    exact e.symm.trans key
  · intro i j hi hj e
    have r1 := (h.nat (hdiv hi)).2
    have r2 := (h.nat (hdiv hj)).2
    have e1 : (o (i / m)).toNat = (o (j / m)).toNat := by
      have := congrArg (· % n) e
      simp only [Nat.add_mul_mod_self_left] at this
      rwa [Nat.mod_eq_of_lt r1, Nat.mod_eq_of_lt r2] at this
    have e2 : i % m = j % m := by
      rw [e1] at e
      exact Nat.eq_of_mul_eq_mul_left hn (Nat.add_left_cancel e)
    have e3 := h.inj (hdiv hi) (hdiv hj) e1
    rw [← Nat.div_add_mod i m, ← Nat.div_add_mod j m, e2, e3]
  · intro i hi
    have r := (h'.nat hi).2
    obtain ⟨j, hj, e⟩ := h.onto (y := (o' i).toNat % n) (Nat.mod_lt _ hn)
    have hq : (o' i).toNat / n < m := Nat.div_lt_of_lt_mul (by rw [Nat.mul_comm]; exact r)
    refine ⟨m * j + (o' i).toNat / n, ?_, ?_⟩
    · have : m * (j + 1) ≤ m * n := Nat.mul_le_mul_left m (by omega)
      rw [Nat.mul_add, Nat.mul_one] at this; omega
    · rw [Nat.mul_add_div hm, Nat.div_eq_of_lt hq, Nat.add_zero, e, Int.toNat_natCast, Nat.mul_add_mod, Nat.mod_eq_of_lt hq, Nat.mod_add_div]
  · intro i hi
    have r1 := (h.nat (hdiv hi)).2
    have hlt : (o (i / m)).toNat + n * (i % m) < m * n := by
      have hm' := Nat.mod_lt i hm
      have : n * (i % m + 1) ≤ n * m := Nat.mul_le_mul_left n (by omega)
      rw [Nat.mul_add, Nat.mul_one] at this
      rw [Nat.mul_comm m n]; omega
    obtain ⟨j, hj, e⟩ := h'.onto hlt
    exact ⟨j, hj, by rw [e, Int.toNat_natCast]⟩
  · intro i j hij hj
    have red : ∀ x q, eqm c n (x + n * q) x := fun x q t _ => by
      rw [show x + n * q + t = x + t + n * q by omega, hc.mul]
    intro hl
    have hl' := ((red _ _).symm.ltm hl).eqm (red _ _)
    have hle : i / m ≤ j / m := Nat.div_le_div_right (Nat.le_of_lt hij)
    rcases Nat.lt_or_ge (i / m) (j / m) with p | p
    · exact h.weak p (hdiv hj) hl'
    · rw [show i / m = j / m by omega] at hl'
      exact ltm.irrefl hl'
  · intro i j hij hj
    have := h'.weak hij hj
    rwa [(bef_full hc hn hN _ _).1] at this

theorem times_orig {c : Nat → Nat} {n m : Nat} (hc : Cyc c n) (hn : 0 < n) (hm : 0 < m) {o o' : Nat → Int} (h : Ord c n n o) (h' : Ord c (m * n) (m * n) o') {p q : Nat} (hp : p < n) (hop : o p = 0) (hq : q < m * n) (hoq : o' q = 0) : q = m * p := by
  have hN : n ≤ m * n := Nat.le_mul_of_pos_left n hm
  have hmp : m * p < m * n := Nat.mul_lt_mul_of_pos_left hp hm
  have e1 := times_same hc hn hm h h' (m * p) hmp
  rw [Nat.mul_div_cancel_left p hm, hop] at e1
  have e2 := times_same hc hn hm h h' q hq
  rw [hoq] at e2
  have r := h'.rng (m * p) hmp
  rcases Nat.lt_trichotomy q (m * p) with t | t | t
  · exfalso
    have hqd : q / m < p := Nat.div_lt_of_lt_mul t
    have r2 := h.rng (q / m) (by omega)
    rcases h.srt (q / m) p (Nat.zero_le _) hqd hp with u | ⟨_, u⟩
    · rw [hop] at u; exact u.not_eqm e2
    · rw [hop] at u; omega
  · exact t
  · exfalso
    rcases h'.srt (m * p) q (Nat.zero_le _) t hq with u | ⟨_, u⟩
    · rw [hoq, (bef_full hc hn hN _ _).1] at u
      exact u.not_eqm e1.symm
    · rw [hoq] at u; omega

/-! ### The first turn and the last one. -/
theorem first_least {c : Nat → Nat} {n : Nat} {o : Nat → Int} (h : Ord c n n o) {i j : Nat} (hij : i ≤ j) (hj : j < n) : c (o i).toNat ≤ c (o j).toNat := by
  rcases Nat.lt_or_ge i j with p | p
  · rcases Nat.lt_or_ge (c (o j).toNat) (c (o i).toNat) with q | q
    · exact absurd ⟨0, by omega, fun u hu => by omega, q⟩ (h.weak p hj)
    · exact q
  · have : i = j := by omega
    rw [this]; exact Nat.le_refl _
theorem first_one {c : Nat → Nat} {n : Nat} {o : Nat → Int} (h : Ord c n n o) {k : Nat} (hk : k < n) (hlt : ∀ j, j < n → j ≠ k → c k < c j) : o 0 = (k : Int) := by
  obtain ⟨j, hj, e⟩ := h.onto hk
  have h1 := first_least h (Nat.zero_le j) hj
  rw [e, Int.toNat_natCast] at h1
  have h2 := h.nat (i := 0) (by omega)
  apply Classical.byContradiction
  intro hne
  have := hlt (o 0).toNat h2.2 (fun e' => hne (by rw [h2.1, e']))
  omega

end Go.Proofs.Ythjmpiekjfnoiaa

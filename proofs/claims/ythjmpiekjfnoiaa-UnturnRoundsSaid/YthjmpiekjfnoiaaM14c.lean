/-
  Plain mathematics of chapter 14 over chapter 13: what turns end with, and the way back; rounds and periods; one round alone.
-/
import Derived.Test.YthjmpiekjfnoiaaM13e
import Derived.Test.YthjmpiekjfnoiaaLaw13
namespace Go.Proofs.Ythjmpiekjfnoiaa

theorem least_ex {P : Nat → Prop} (h : ∃ n, P n) : ∃ n, P n ∧ ∀ m, P m → n ≤ m := by
  obtain ⟨n, hn⟩ := h
  induction n using Nat.strongRecOn with
  | ind n ih =>
    by_cases hc : ∃ m, m < n ∧ P m
    · obtain ⟨m, h1, h2⟩ := hc; exact ih m h1 h2
    · refine ⟨n, hn, fun m hm => ?_⟩
      rcases Nat.lt_or_ge m n with q | q
      · exact absurd ⟨m, q, hm⟩ hc
      · exact q

theorem vec_le (s : List UInt8) : ∀ j, j < s.length → ∀ i, i < j → (s.getD (nxt s i) 0).toNat < (s.getD (nxt s j) 0).toNat ∨ ((s.getD (nxt s i) 0).toNat = (s.getD (nxt s j) 0).toNat ∧ nxt s i < nxt s j) := by
  intro j
  induction j with
  | zero => intro _ i hi; omega
  | succ j ih =>
    intro hj i hi
    obtain ⟨h1, h2⟩ := vec_sorted s j hj
    rcases Nat.lt_or_ge i j with p | p
    · rcases ih (by omega) i p with q | ⟨q, q'⟩
      · exact .inl (by omega)
      · rcases Nat.lt_or_ge (s.getD (nxt s j) 0).toNat (s.getD (nxt s (j + 1)) 0).toNat with t | t
        · exact .inl (by omega)
        · have := h2 (by omega)
          exact .inr ⟨by omega, by omega⟩
    · have : i = j := by omega
      subst this
      rcases Nat.lt_or_ge (s.getD (nxt s i) 0).toNat (s.getD (nxt s (i + 1)) 0).toNat with t | t
      · exact .inl t
      · exact .inr ⟨by omega, h2 (by omega)⟩

theorem eqm_any {c : Nat → Nat} {n : Nat} (hc : Cyc c n) (hn : 0 < n) {x y : Nat} (h : eqm c n x y) (t : Nat) : c (x + t) = c (y + t) :=
  (hc.all hn (m := n + t + 1) (by omega)).1.2 h t (by omega)
theorem eqm_more {c : Nat → Nat} {n : Nat} (hc : Cyc c n) (hn : 0 < n) {x y : Nat} (h : eqm c n x y) (k : Nat) : eqm c n (x + k) (y + k) := fun t _ => by
  rw [Nat.add_assoc, Nat.add_assoc]; exact eqm_any hc hn h _
theorem eqm_turn {c : Nat → Nat} {n : Nat} (hc : Cyc c n) (x : Nat) : eqm c n (x + n) x := fun t _ => by
  rw [show x + n + t = x + t + n by omega, hc]

section
variable {s : ByteArray} {o : Nat → Int}

theorem lastTo_toNat (_h : Ord (cycf s) s.size s.size o) {i : Nat} (hi : i < s.size) : ((lastTo s o s.size).getD i 0).toNat = cycf s ((o i).toNat + (s.size - 1)) := by
  obtain ⟨b, h1, h2⟩ := lastTo_byte s o s.size hi
  rw [List.getD, h1]; exact h2

/-- Ahead of the turn to which one comes stands the turn from which one comes. -/
theorem nxt_turn (h : Ord (cycf s) s.size s.size o) : ∀ i, i < s.size → eqm (cycf s) s.size ((o (nxt (lastTo s o s.size) i)).toNat + (s.size - 1)) (o i).toNat := by
  have hc := cycf_cyc s
  have hl := lastTo_length s o s.size
  have hlt : ∀ {i}, i < s.size → nxt (lastTo s o s.size) i < s.size := fun {i} hi => by have := nxt_lt (lastTo s o s.size) i (by omega); omega
  intro i hi
  rw [← hc.eqm, Nat.mod_eq_of_lt (h.nat hi).2]
  refine weak_eqm (a := fun i => ((o (nxt (lastTo s o s.size) i)).toNat + (s.size - 1)) % s.size) (b := fun i => (o i).toNat) (N := s.size) ?_ (fun i j hi hj e => h.inj hi hj e) ?_ ?_ ?_ (fun i j hij hj => h.weak hij hj) i hi
  · intro i j hi hj e
    have e1 := add_mod_inj (h.nat (hlt hi)).2 (h.nat (hlt hj)).2 e
    exact nxt_inj _ i j (by omega) (by omega) (h.inj (hlt hi) (hlt hj) e1)
  · intro i hi
    obtain ⟨x, hx, e⟩ := add_mod_onto (k := s.size - 1) (h.nat hi).2
    obtain ⟨j, hj, e'⟩ := h.onto hx
    have hp := place_lt (lastTo s o s.size) j (by omega)
    refine ⟨place (lastTo s o s.size) j, by omega, ?_⟩
    rw [nxt_place _ j (by omega), e', Int.toNat_natCast, e]
  · intro i hi
    obtain ⟨j, hj, e⟩ := h.onto (y := ((o (nxt (lastTo s o s.size) i)).toNat + (s.size - 1)) % s.size) (Nat.mod_lt _ (by omega))
    exact ⟨j, hj, by rw [e, Int.toNat_natCast]⟩
  · intro i j hij hj
    have hn : 0 < s.size := by omega
    have hi : i < s.size := by omega
    have v := vec_le (lastTo s o s.size) j (by omega) i hij
    rw [lastTo_toNat h (hlt hi), lastTo_toNat h (hlt hj)] at v
    have bi := h.nat (hlt hi)
    have bj := h.nat (hlt hj)
    rw [hc.ltm, ← (hc.all hn (m := 1 + s.size) (by omega)).2, ltm_add]
    rintro (⟨t, t1, _, t3⟩ | ⟨t, t'⟩)
    · have : t = 0 := by omega
      subst this
      simp only [Nat.add_zero] at t3
      omega
    · have e1 := t 0 (by omega)
      simp only [Nat.add_zero] at e1
      rcases v with v | ⟨_, v⟩
      · omega
      · rw [show (o (nxt (lastTo s o s.size) j)).toNat + (s.size - 1) + 1 = (o (nxt (lastTo s o s.size) j)).toNat + s.size by omega,
          show (o (nxt (lastTo s o s.size) i)).toNat + (s.size - 1) + 1 = (o (nxt (lastTo s o s.size) i)).toNat + s.size by omega] at t'
        have t2 := ((eqm_turn hc _).symm.ltm t').eqm (eqm_turn hc _)
        exact h.weak v (hlt hj) t2

theorem nxt_step (h : Ord (cycf s) s.size s.size o) {i : Nat} (hi : i < s.size) : eqm (cycf s) s.size (o (nxt (lastTo s o s.size) i)).toNat ((o i).toNat + 1) := by
  have hc := cycf_cyc s
  have hn : 0 < s.size := by omega
  have := eqm_more hc hn (nxt_turn h i hi) 1
  rw [show (o (nxt (lastTo s o s.size) i)).toNat + (s.size - 1) + 1 = (o (nxt (lastTo s o s.size) i)).toNat + s.size by omega] at this
  exact (eqm_turn hc _).symm.trans this

theorem walk_turn (h : Ord (cycf s) s.size s.size o) {k : Nat} (hk : k < s.size) : ∀ j, eqm (cycf s) s.size (o (walkN (lastTo s o s.size) j k)).toNat ((o k).toNat + j) := by
  have hc := cycf_cyc s
  have hn : 0 < s.size := by omega
  have hl := lastTo_length s o s.size
  intro j
  induction j with
  | zero => exact eqm.refl _ _
  | succ j ih =>
    have hw := walkN_lt (lastTo s o s.size) k (by omega) j
    exact (nxt_step h (by omega)).trans (eqm_more hc hn ih 1)

/-- Back undoes Forward; by another origin it is the text, turned. -/
theorem back_last (h : Ord (cycf s) s.size s.size o) {k : Nat} (hk : k < s.size) : back (lastTo s o s.size) k = rot s (o k).toNat := by
  have hl := lastTo_length s o s.size
  have hok := (h.nat hk).2
  have hn : 0 < s.size := by omega
  refine last_ext (by rw [back_length, rot_length _ _ (by omega), hl]) (fun i hi => ?_)
  rw [back_length, hl] at hi
  obtain ⟨b, h1, h2⟩ := rot_byte s hok hi
  refine ⟨_, b, back_get _ _ _ (by omega), h1, ?_⟩
  have hw := walkN_lt (lastTo s o s.size) k (by omega) (i + 1)
  rw [lastTo_toNat h (by omega), h2, eqm_any (cycf_cyc s) hn (walk_turn h hk (i + 1)) (s.size - 1), show (o k).toNat + (i + 1) + (s.size - 1) = (o k).toNat + i + s.size by omega, cycf_cyc s]

/-! ### Periods. -/
theorem Cyc.rem {c : Nat → Nat} {a b : Nat} (ha : Cyc c a) (hb : Cyc c b) : Cyc c (a % b) := fun i => by
  have e := hb.mul (i + a % b) (a / b)
  rw [Nat.add_assoc, Nat.mod_add_div] at e
  rw [← e, ha]
theorem Cyc.diff {c : Nat → Nat} {n x y : Nat} (hc : Cyc c n) (hn : 0 < n) (h : Go.Proofs.Ythjmpiekjfnoiaa.eqm c n x y) (hxy : x ≤ y) : Cyc c (y - x) := fun i => by
  have hx : x ≤ n * x := Nat.le_mul_of_pos_left x hn
  have e1 := hc.mul (i + (y - x)) x
  have e2 := hc.mul i x
  have e3 := eqm_any hc hn h (i + n * x - x)
  rw [show x + (i + n * x - x) = i + n * x by omega, show y + (i + n * x - x) = i + (y - x) + n * x by omega] at e3
  rw [← e1, ← e3, e2]
/-- The least period. -/
theorem least_period {c : Nat → Nat} {n : Nat} (hc : Cyc c n) (hn : 0 < n) : ∃ d, 0 < d ∧ Cyc c d ∧ n % d = 0 ∧ ∀ x y, eqm c n x y ↔ x % d = y % d := by
  obtain ⟨d, ⟨h1, h2⟩, h3⟩ := least_ex (P := fun d => 0 < d ∧ Cyc c d) ⟨n, hn, hc⟩
  have h4 : ∀ a, Cyc c a → a % d = 0 := by
    intro a ha
    rcases Nat.eq_zero_or_pos (a % d) with p | p
    · exact p
    · have := h3 _ ⟨p, ha.rem h2⟩
      have := Nat.mod_lt a h1
      omega
  have h5 : ∀ x y, x ≤ y → eqm c n x y → x % d = y % d := by
    intro x y hxy h
    have e := h4 _ (hc.diff hn h hxy)
    have e2 := Nat.div_add_mod (y - x) d
    rw [e, Nat.add_zero] at e2
    rw [show y = x + d * ((y - x) / d) by omega, Nat.add_mul_mod_self_left]
  refine ⟨d, h1, h2, h4 n hc, fun x y => ⟨fun h => ?_, fun h t _ => ?_⟩⟩
  · rcases Nat.le_total x y with p | p
    · exact h5 x y p h
    · exact (h5 y x p h.symm).symm
  · rw [← h2.mod_add x t, h, h2.mod_add]

theorem count_lt (r : Nat) : ∀ n, (List.range n).countP (fun i => decide (i < r)) = min n r := by
  intro n
  induction n with
  | zero => simp
  | succ n ih =>
    rw [List.range_succ, List.countP_append, ih]
    by_cases h : n < r
    · simp [h]; omega
    · simp [h]; omega

/-- As many rounds as the least period is in the text. -/
theorem rounds (h : Ord (cycf s) s.size s.size o) (hn : 0 < s.size) {d r : Nat} (hd : 0 < d) (hcl : ∀ x y, eqm (cycf s) s.size x y ↔ x % d = y % d) (hr : r * d = s.size) : cyc (lastTo s o s.size) = r := by
  have hc := cycf_cyc s
  obtain ⟨L, hL⟩ : ∃ L, L = lastTo s o s.size := ⟨_, rfl⟩
  have hl : L.length = s.size := by rw [hL, lastTo_length]
  have hwl : ∀ {i} k, i < s.size → walkN L k i < s.size := fun {i} k hi => by have := walkN_lt L i (by omega) k; omega
  have hwc : ∀ {i} k, i < s.size → (o (walkN L k i)).toNat % d = ((o i).toNat + k) % d := fun {i} k hi => by
    rw [← hcl, hL]; exact walk_turn h hi k
  have hr0 : 0 < r := by
    rcases Nat.eq_zero_or_pos r with p | p
    · rw [p, Nat.zero_mul] at hr; omega
    · exact p
  have hrn : r ≤ s.size := by rw [← hr]; exact Nat.le_mul_of_pos_right r hd
  have hdn : d ≤ s.size := by rw [← hr]; exact Nat.le_mul_of_pos_left d hr0
  have mono1 : ∀ i j, i < j → j < s.size → (o i).toNat % d = (o j).toNat % d → nxt L i < nxt L j := by
    intro i j hij hj e
    have v := vec_le L j (by omega) i hij
    have li := nxt_lt L i (by omega)
    have lj := nxt_lt L j (by omega)
    have e1 : (L.getD (nxt L i) 0).toNat = (L.getD (nxt L j) 0).toNat := by
      rw [hL] at li lj ⊢
      rw [lastTo_toNat h (by rw [lastTo_length] at li; exact li), lastTo_toNat h (by rw [lastTo_length] at lj; exact lj)]
      have a1 := nxt_turn h i (by omega) 0 hn
      have a2 := nxt_turn h j hj 0 hn
      simp only [Nat.add_zero] at a1 a2
      rw [a1, a2]
      exact (hcl _ _).2 e 0 hn
    rcases v with v | ⟨_, v⟩
    · omega
    · exact v
  have mono : ∀ k i j, i < j → j < s.size → (o i).toNat % d = (o j).toNat % d → walkN L k i < walkN L k j := by
    intro k
    induction k with
    | zero => intro i j h1 _ _; exact h1
    | succ k ih =>
      intro i j h1 h2 h3
      refine mono1 _ _ (ih i j h1 h2 h3) (hwl k h2) ?_
      rw [hwc k (by omega), hwc k h2, ← Nat.mod_add_mod, h3, Nat.mod_add_mod]
  have down : ∀ i j, i ≤ j → j < s.size → (o j).toNat % d = (o 0).toNat % d → (o i).toNat % d = (o 0).toNat % d := by
    intro i j hij hj e
    have e' := (hcl _ _).2 e
    rcases Nat.eq_zero_or_pos i with p | p
    · rw [p]
    · rcases Nat.lt_or_ge i j with q | q
      · rw [← hcl]
        rcases ltm_or (cycf s) (o i).toNat (o 0).toNat s.size with t | t | t
        · exact absurd t (h.weak p (by omega))
        · exact t
        · exact absurd (e'.ltm t) (h.weak q hj)
      · rw [show i = j by omega]; exact e
  have blk1 : ∀ i, i < s.size → (o i).toNat % d = (o 0).toNat % d → i < r := by
    intro i hi e
    rcases Nat.lt_or_ge i r with p | p
    · exact p
    · exfalso
      obtain ⟨a, b, h1, h2, h3⟩ := php r (fun k => (o k).toNat / d) (fun k hk => Nat.div_lt_of_lt_mul (by have := (h.nat (i := k) (by omega)).2; rw [Nat.mul_comm, hr]; exact this))
      have ea := down a i (by omega) hi e
      have eb := down b i (by omega) hi e
      have : (o a).toNat = (o b).toNat := by
        rw [← Nat.div_add_mod (o a).toNat d, ← Nat.div_add_mod (o b).toNat d, ea, eb]
        rw [h3]
      have := h.inj (i := a) (j := b) (by omega) (by omega) this
      omega
  have blk2 : ∀ i, i < r → (o i).toNat % d = (o 0).toNat % d := by
    intro i hi
    apply Classical.byContradiction
    intro hne
    have place : ∀ k, k < r → ∃ g, g < s.size ∧ o g = (((o 0).toNat % d + d * k : Nat) : Int) := by
      intro k hk
      have h1 := Nat.mod_lt (o 0).toNat hd
      have h2 : d * (k + 1) ≤ d * r := Nat.mul_le_mul_left d (by omega)
      rw [Nat.mul_add, Nat.mul_one, Nat.mul_comm d r, hr] at h2
      exact h.onto (by omega)
    obtain ⟨g, hg⟩ : ∃ g : Nat → Nat, ∀ k, k < r → g k < s.size ∧ o (g k) = (((o 0).toNat % d + d * k : Nat) : Int) := by
      refine ⟨fun k => if h : k < r then Classical.choose (place k h) else 0, fun k hk => ?_⟩
      have := Classical.choose_spec (place k hk)
      simp only [dif_pos hk]
      exact this
    obtain ⟨a, b, h1, h2, h3⟩ := php i g (fun k hk => by
      obtain ⟨g1, g2⟩ := hg k (by omega)
      rcases Nat.lt_or_ge (g k) i with q | q
      · exact q
      · refine absurd (down i (g k) q g1 ?_) hne
        rw [g2, Int.toNat_natCast, Nat.add_mul_mod_self_left, Nat.mod_mod])
    have ga := (hg a (by omega)).2
    have gb := (hg b (by omega)).2
    rw [h3, gb] at ga
    have e : d * b = d * a := by omega
    have := Nat.eq_of_mul_eq_mul_left hd e
    omega
  have fix : ∀ i, i < r → walkN L d i = i := by
    have key := rise_id (n := r) (f := fun i => ((walkN L d i : Nat) : Int)) (fun k hk => ⟨by omega, by
        have := blk1 (walkN L d k) (hwl d (by omega)) (by rw [hwc d (by omega), Nat.add_mod_right]; exact blk2 k hk)
        show ((walkN L d k : Nat) : Int) < (r : Int)
        omega⟩) (fun k hk => by
        have := mono d k (k + 1) (by omega) (by omega) (by rw [blk2 k (by omega), blk2 (k + 1) hk])
        show ((walkN L d k : Nat) : Int) < ((walkN L d (k + 1) : Nat) : Int)
        omega)
    intro i hi
    have := key i hi
    omega
  have lead : ∀ i, i < s.size → leastB L i = decide (i < r) := by
    intro i hi
    by_cases hir : i < r
    · rw [decide_eq_true hir, leastB_iff]
      intro k _
      rw [walkN_mod L d i k (fix i hir)]
      rcases Nat.eq_zero_or_pos (k % d) with p | p
      · rw [p]; exact Nat.le_refl _
      · have hk := Nat.mod_lt k hd
        rcases Nat.lt_or_ge (walkN L (k % d) i) r with q | q
        · exfalso
          have e1 := blk2 _ q
          rw [hwc _ hi, ← blk2 i hir] at e1
          have e2 : (k % d + (o i).toNat) % d = (0 + (o i).toNat) % d := by rw [Nat.add_comm, e1, Nat.zero_add]
          have := add_mod_inj hk hd e2
          omega
        · omega
    · rw [decide_eq_false hir, ← Bool.not_eq_true, leastB_iff]
      intro hall
      obtain ⟨x, hx, e⟩ := add_mod_onto (n := d) (k := (o i).toNat) (Nat.mod_lt (o 0).toNat hd)
      have h1 := hall x (by omega)
      have h2 := blk1 _ (hwl x hi) (by rw [hwc x hi, Nat.add_comm, e])
      omega
  show cyc (lastTo s o s.size) = r
  rw [← hL]
  unfold cyc cycTo
  rw [hl, List.countP_congr (q := fun i => decide (i < r)) (fun i hi => by rw [lead i (by simpa using hi)]), count_lt]
  omega

end

/-! ### One round alone. -/
theorem cycTo_mono (s : List UInt8) : ∀ b a, a ≤ b → cycTo s a ≤ cycTo s b := by
  intro b
  induction b with
  | zero => intro a h; rw [show a = 0 by omega]; exact Nat.le_refl _
  | succ b ih =>
    intro a h
    rcases Nat.lt_or_ge a (b + 1) with p | p
    · have := ih a (by omega); rw [cycTo_succ]; omega
    · rw [show a = b + 1 by omega]; exact Nat.le_refl _
theorem leastB_zero (s : List UInt8) : leastB s 0 = true := by rw [leastB_iff]; intro k _; exact Nat.zero_le _
theorem cyc_pos (s : List UInt8) (h : 0 < s.length) : 1 ≤ cyc s := by
  have h1 := cycTo_mono s s.length 1 h
  have h2 : cycTo s 1 = cycTo s 0 + if leastB s 0 then 1 else 0 := cycTo_succ s 0
  rw [leastB_zero, if_pos rfl] at h2
  unfold cyc; omega
theorem cyc_le (s : List UInt8) : cyc s ≤ s.length := cycTo_le s _

theorem walk_return (s : List UInt8) {i : Nat} (hi : i < s.length) {b x : Nat} (h : walkN s b i = x) : ∃ k, walkN s k x = i := by
  obtain ⟨p, p1, _, p3⟩ := period s i hi
  have hp : b ≤ p * (b + 1) := Nat.le_trans (by omega) (Nat.le_mul_of_pos_left (b + 1) p1)
  refine ⟨p * (b + 1) - b, ?_⟩
  rw [← h, ← walkN_add, show b + (p * (b + 1) - b) = p * (b + 1) by omega]
  exact walkN_mul s p i p3 _

theorem one_reach (s : List UInt8) (h : cyc s = 1) {i : Nat} (hi : i < s.length) : ∃ k, walkN s k i = 0 := by
  obtain ⟨m, ⟨k, hk⟩, hmin⟩ := least_ex (P := fun m => ∃ k, walkN s k i = m) ⟨i, 0, rfl⟩
  have hm : m < s.length := by rw [← hk]; exact walkN_lt s i hi k
  have hl : leastB s m = true := by
    rw [leastB_iff]
    intro j _
    exact hmin _ ⟨k + j, by rw [walkN_add, hk]⟩
  rcases Nat.eq_zero_or_pos m with p | p
  · exact ⟨k, by rw [hk, p]⟩
  · exfalso
    have h1 := cycTo_succ s m
    rw [hl, if_pos rfl] at h1
    have h2 := cycTo_mono s m 1 p
    have h3 := cycTo_mono s s.length (m + 1) hm
    have h4 : cycTo s 1 = cycTo s 0 + if leastB s 0 then 1 else 0 := cycTo_succ s 0
    rw [leastB_zero, if_pos rfl] at h4
    unfold cyc at h
    omega

theorem one_all (s : List UInt8) (h : cyc s = 1) {o : Nat} (ho : o < s.length) : walkN s s.length o = o ∧ (∀ a b, a < b → b < s.length → walkN s a o ≠ walkN s b o) ∧ ∀ i, i < s.length → ∃ j, j < s.length ∧ walkN s j o = i := by
  have reach : ∀ i, i < s.length → ∃ k, walkN s k o = i := by
    intro i hi
    obtain ⟨a, ha⟩ := one_reach s h ho
    obtain ⟨b, hb⟩ := one_reach s h hi
    obtain ⟨k, hk⟩ := walk_return s hi hb
    exact ⟨a + k, by rw [walkN_add, ha, hk]⟩
  have least : ∀ p, 1 ≤ p → walkN s p o = o → s.length ≤ p := by
    intro p h1 h2
    rcases Nat.lt_or_ge p s.length with q | q
    · exfalso
      have hg : ∀ i, i ≤ p → ∃ k, k < p ∧ walkN s k o = i := by
        intro i hi
        obtain ⟨k, hk⟩ := reach i (by omega)
        exact ⟨k % p, Nat.mod_lt _ h1, by rw [← walkN_mod s p o k h2]; exact hk⟩
      obtain ⟨g, hg'⟩ : ∃ g : Nat → Nat, ∀ i, i ≤ p → g i < p ∧ walkN s (g i) o = i := by
        refine ⟨fun i => if h : i ≤ p then Classical.choose (hg i h) else 0, fun i hi => ?_⟩
        have := Classical.choose_spec (hg i hi)
        simp only [dif_pos hi]
        exact this
      obtain ⟨a, b, q1, q2, q3⟩ := php p g (fun k hk => (hg' k hk).1)
      have e1 := (hg' a (by omega)).2
      have e2 := (hg' b q2).2
      rw [q3, e2] at e1
      omega
    · exact q
  obtain ⟨p, p1, p2, p3⟩ := period s o ho
  have := least p p1 p3
  have hp : p = s.length := by omega
  subst hp
  refine ⟨p3, fun a b h1 h2 e => ?_, fun i hi => ?_⟩
  · have := least (b - a) (by omega) (walkN_back s o a b ho (by omega) e)
    omega
  · obtain ⟨k, hk⟩ := reach i hi
    exact ⟨k % s.length, Nat.mod_lt _ p1, by rw [← walkN_mod s _ o k p3]; exact hk⟩

/-- Of one round alone, what is told back from an origin has these turns' ends. -/
theorem one_ord (s : List UInt8) (h : cyc s = 1) {o : Nat} (ho : o < s.length) :
    ∃ ou, Ord (cycf (mkS (back s o))) s.length s.length ou ∧ lastTo (mkS (back s o)) ou s.length = s ∧ origTo ou s.length = o := by
  obtain ⟨hN, _, hall⟩ := one_all s h ho
  obtain ⟨g, hg⟩ : ∃ g : Nat → Nat, ∀ i, i < s.length → g i < s.length ∧ walkN s (g i) o = i := by
    refine ⟨fun i => if h : i < s.length then Classical.choose (hall i h) else 0, fun i hi => ?_⟩
    have := Classical.choose_spec (hall i hi)
    simp only [dif_pos hi]
    exact this
  have hsz : (mkS (back s o)).size = s.length := by rw [mkS_size, back_length]
  have hW : ∀ k, walkN s (k + s.length) o = walkN s k o := fun k => by rw [Nat.add_comm, walkN_add, hN]
  have hcy : ∀ y, cycf (mkS (back s o)) y = (s.getD (nxt s (walkN s y o)) 0).toNat := by
    intro y
    unfold cycf
    rw [hsz, mkS_toList, List.getD, back_get s o _ (Nat.mod_lt _ (by omega))]
    show (s.getD (nxt s (walkN s (y % s.length) o)) 0).toNat = _
    rw [← walkN_mod s _ o y hN]
  have climb : ∀ x x' : Nat, walkN s x o < walkN s x' o → ∀ t, (∀ u, u < t → cycf (mkS (back s o)) (x + u) = cycf (mkS (back s o)) (x' + u)) → walkN s (x + t) o < walkN s (x' + t) o := by
    intro x x' hx t
    induction t with
    | zero => intro _; exact hx
    | succ t ih =>
      intro hu
      have h1 := ih (fun u hu' => hu u (by omega))
      have h2 := hu t (by omega)
      rw [hcy, hcy] at h2
      rcases vec_le s _ (walkN_lt s o ho (x' + t)) _ h1 with v | ⟨_, v⟩
      · omega
      · exact v
  have hord : Ord (cycf (mkS (back s o))) s.length s.length (fun i => ((g i : Nat) : Int)) := by
    refine ⟨fun k hk => ⟨by omega, by have := (hg k hk).1; show ((g k : Nat) : Int) < _; omega⟩, fun i i' _ hii hi' => .inl ?_⟩
    obtain ⟨g1, g2⟩ := hg i (by omega)
    obtain ⟨g3, g4⟩ := hg i' hi'
    simp only [Int.toNat_natCast]
    have hlt : walkN s (g i) o < walkN s (g i') o := by rw [g2, g4]; exact hii
    have cl := climb _ _ hlt
    rcases ltm_or (cycf (mkS (back s o))) (g i) (g i') s.length with p | p | p
    · exact p
    · exfalso
      have hcyc : Cyc (cycf (mkS (back s o))) s.length := by have := cycf_cyc (mkS (back s o)); rwa [hsz] at this
      have all : ∀ t, walkN s (g i + t) o < walkN s (g i' + t) o := fun t => cl t (fun u _ => eqm_any hcyc (by omega) p u)
      have grow : ∀ q, q ≤ walkN s (g i + (g i' + s.length - g i) * q) o := by
        intro q
        induction q with
        | zero => exact Nat.zero_le _
        | succ q ih =>
          have := all ((g i' + s.length - g i) * q)
          rw [Nat.mul_add, Nat.mul_one]
          have e : g i + ((g i' + s.length - g i) * q + (g i' + s.length - g i)) = g i' + (g i' + s.length - g i) * q + s.length := by omega
          rw [e, hW]
          omega
      have h1 := grow s.length
      have h2 := walkN_lt s o ho (g i + (g i' + s.length - g i) * s.length)
      omega
    · exfalso
      obtain ⟨t, _, t2, t3⟩ := p
      have h1 := cl t (fun u hu => (t2 u hu).symm)
      rw [hcy, hcy] at t3
      rcases vec_le s _ (walkN_lt s o ho _) _ h1 with v | ⟨v, _⟩
      · omega
      · omega
  refine ⟨_, hord, ?_, ?_⟩
  · refine last_ext (lastTo_length _ _ _) (fun i hi => ?_)
    rw [lastTo_length] at hi
    obtain ⟨b, h1, h2⟩ := lastTo_byte (mkS (back s o)) (fun i => ((g i : Nat) : Int)) s.length hi
    refine ⟨b, s.getD i 0, h1, by rw [List.getD, List.getElem?_eq_getElem hi]; rfl, ?_⟩
    rw [h2, hsz, hcy]
    simp only [Int.toNat_natCast]
    have e : nxt s (walkN s (g i + (s.length - 1)) o) = i := by
      show walkN s (g i + (s.length - 1) + 1) o = i
      rw [show g i + (s.length - 1) + 1 = g i + s.length by omega, hW]
      exact (hg i hi).2
    rw [e]
  · obtain ⟨h1, h2⟩ := orig_spec hord (by omega)
    have h3 := (hg _ h1).2
    have h4 : g (origTo (fun i => ((g i : Nat) : Int)) s.length) = 0 := by omega
    rw [h4] at h3
    exact h3.symm

end Go.Proofs.Ythjmpiekjfnoiaa

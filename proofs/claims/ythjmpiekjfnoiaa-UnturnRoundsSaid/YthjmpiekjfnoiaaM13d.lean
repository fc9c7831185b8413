/-
  Plain mathematics of an order by insertion.
-/
import Derived.Test.YthjmpiekjfnoiaaLaw13o
namespace Go.Proofs.Ythjmpiekjfnoiaa

theorem less_asymm : ∀ (x y : List UInt8), Op.bytesLess x y = true → Op.bytesLess y x = false := by
  intro x
  induction x with
  | nil =>
    intro y h
    cases y with
    | nil => rfl
    | cons b y => rfl
  | cons a x ih =>
    intro y h
    cases y with
    | nil => simp [Op.bytesLess] at h
    | cons b y =>
      simp only [Op.bytesLess, Bool.or_eq_true, Bool.and_eq_true, decide_eq_true_eq, beq_iff_eq, Bool.or_eq_false_iff, Bool.and_eq_false_iff, decide_eq_false_iff_not] at h ⊢
      rcases h with h | ⟨h1, h2⟩
      · exact ⟨fun h' => by rw [UInt8.lt_iff_toNat_lt] at h h'; omega, .inl (by rw [beq_eq_false_iff_ne]; intro e; rw [e, UInt8.lt_iff_toNat_lt] at h; omega)⟩
      · exact ⟨fun h' => by rw [h1, UInt8.lt_iff_toNat_lt] at h'; omega, .inr (ih y h2)⟩

theorem rot_less (s : ByteArray) {a b : Nat} (ha : a < s.size) (hb : b < s.size) : Op.bytesLess (rot s a) (rot s b) = true ↔ ltm (cycf s) s.size a b := by
  constructor
  · intro h
    rcases ltm_or (cycf s) a b s.size with p | p | p
    · exact p
    · rw [rot_eqm s ha hb p, less_irrefl] at h; exact Bool.noConfusion h
    · have := less_asymm _ _ (rot_ltm s hb ha p); rw [this] at h; exact Bool.noConfusion h
  · exact rot_ltm s ha hb

def insL (L : List Int) (j : Nat) (k : Int) : List Int := L.take j ++ k :: L.drop j
theorem insL_length (L : List Int) (j : Nat) (k : Int) : (insL L j k).length = L.length + 1 := by
  unfold insL
  rw [List.length_append, List.length_cons, List.length_take, List.length_drop]; omega

theorem insL_sorted {R : Int → Int → Prop} {L : List Int} {j : Nat} {k : Int} (h : L.Pairwise R) (h1 : ∀ x ∈ L.take j, R x k) (h2 : ∀ x ∈ L.drop j, R k x) : (insL L j k).Pairwise R := by
  unfold insL
  rw [List.pairwise_append]
  refine ⟨h.sublist (List.take_sublist _ _), ?_, ?_⟩
  · rw [List.pairwise_cons]; exact ⟨h2, h.sublist (List.drop_sublist _ _)⟩
  · intro a ha b hb
    rcases List.mem_cons.1 hb with rfl | hb
    · exact h1 a ha
    · rw [← List.take_append_drop j L, List.pairwise_append] at h
      exact h.2.2 a ha b hb

theorem insL_rng {L : List Int} {j : Nat} {k : Nat} (h : ∀ x ∈ L, 0 ≤ x ∧ x < (k : Int)) : ∀ x ∈ insL L j k, 0 ≤ x ∧ x < ((k + 1 : Nat) : Int) := by
  intro x hx
  unfold insL at hx
  rcases List.mem_append.1 hx with hx | hx
  · have := h x (List.mem_of_mem_take hx); omega
  · rcases List.mem_cons.1 hx with rfl | hx
    · omega
    · have := h x (List.mem_of_mem_drop hx); omega

theorem take_before {c : Nat → Nat} {n : Nat} {L : List Int} (h : L.Pairwise (bef c n)) {j : Nat} {y k : Int} (hj : 0 < j) (hy : L[j - 1]? = some y) (hk : bef c n y k) : ∀ x ∈ L.take j, bef c n x k := by
  intro x hx
  obtain ⟨i, hi, rfl⟩ := List.mem_iff_getElem.1 hx
  rw [List.length_take] at hi
  rw [List.getElem_take]
  obtain ⟨hl, hy'⟩ := List.getElem?_eq_some_iff.1 hy
  rcases Nat.lt_or_ge i (j - 1) with p | p
  · have := List.pairwise_iff_getElem.1 h i (j - 1) (by omega) hl p
    rw [hy'] at this
    exact (bef_strict c n).tr _ _ _ this hk
  · have : i = j - 1 := by omega
    subst this; rw [hy']; exact hk

theorem ord_of_list {c : Nat → Nat} {n : Nat} {L : List Int} (hl : L.length = n) (hr : ∀ x ∈ L, 0 ≤ x ∧ x < (n : Int)) (hs : L.Pairwise (bef c n)) : Ord c n n (fun k => L.getD k 0) := by
  subst hl
  refine ⟨fun k hk => hr _ (by simp [List.getD, List.getElem?_eq_getElem hk]), fun i j _ h2 h3 => ?_⟩
  have := List.pairwise_iff_getElem.1 hs i j (by omega) h3 h2
  simpa [List.getD, List.getElem?_eq_getElem h3, List.getElem?_eq_getElem (show i < L.length by omega)] using this

end Go.Proofs.Ythjmpiekjfnoiaa

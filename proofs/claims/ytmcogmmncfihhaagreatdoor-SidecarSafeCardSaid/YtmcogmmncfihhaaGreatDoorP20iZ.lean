/-
  The walk of an index of which one thing is another one (chapter 19's Turned).
-/
import Derived.Test.YtmcogmmncfihhaaGreatDoorM20dZ
import Derived.Deep.Upon
import Derived.Laws.OwnMore
import Derived.ArgAppend
import Derived.Test.YtmcogmmncfihhaaGreatDoorZ22
set_option linter.unusedVariables false
set_option linter.unusedSimpArgs false
namespace Go.Proofs.YtmcogmmncfihhaaGreatDoor
open Go.RowKit Go Go.Shelf

theorem flat_set20 : ∀ {l : List Ent} {k : Nat} {x x' : Ent} {j : Nat} {u : Value}, l[k]? = some x → j < 5 → (LF x).set j u = LF x' → ((l.map LF).flatten).set (k * 5 + j) u = ((l.set k x').map LF).flatten
  | [], k, _, _, _, _, h, _, _ => by simp at h
  | y :: l, 0, x, x', j, u, h, hj, e => by
    obtain rfl : y = x := by simpa using h
    rw [List.map_cons, List.flatten_cons, Nat.zero_mul, Nat.zero_add, List.set_append_left _ _ (show j < 5 from hj), e]
    rfl
  | y :: l, k + 1, x, x', j, u, h, hj, e => by
    have ih := flat_set20 (l := l) (by simpa using h) hj e
    rw [List.map_cons, List.flatten_cons, List.set_append_right _ _ (show 5 ≤ (k + 1) * 5 + j by omega)]
    show LF y ++ ((l.map LF).flatten).set ((k + 1) * 5 + j - 5) u = _
    rw [show (k + 1) * 5 + j - 5 = k * 5 + j by omega, ih]
    rfl
theorem ownE_set {w : World} {B g cap : Nat} {l : List Ent} {k j : Nat} {x x' : Ent} {u : Value} (h : OwR w B 51 5 (.slice (some ⟨g, 0, none⟩) l.length cap) (l.map LF)) (hk : l[k]? = some x) (hj : j < 5) (e : (LF x).set j u = LF x') :
    OwR (w.setCell ⟨g, k * 5 + j, none⟩ u) B 51 5 (.slice (some ⟨g, 0, none⟩) l.length cap) ((l.set k x').map LF) := by
  unfold OwR at h ⊢
  rw [List.length_map] at h
  have := (World.ownsRow.stored h (k * 5 + j) u).1
  rw [flat_set20 hk hj e] at this
  rw [List.length_map, List.length_set]
  exact this
/-- Numbers that a machine holds. -/
def WfE (l : List Ent) : Prop := ∀ x ∈ l, (-9223372036854775808 ≤ x.a ∧ x.a ≤ 9223372036854775807) ∧ (-9223372036854775808 ≤ x.r ∧ x.r ≤ 9223372036854775807) ∧ (-9223372036854775808 ≤ x.f ∧ x.f ≤ 9223372036854775807) ∧ (-9223372036854775808 ≤ x.n ∧ x.n ≤ 9223372036854775807) ∧ (0 ≤ x.y ∧ x.y < 4294967296)
/-- What is right, and held, has room. -/
theorem right_fit20 : ∀ {l : List Ent} {fr at' : Int}, aU0 fr at' l → 0 ≤ fr → -1 ≤ at' → WfE l → ∀ x ∈ l, x.fit
  | [], _, _, _, _, _, _, _, h => nomatch h
  | y :: l, fr, at', h, h0, h1, hw, x, hx => by
    obtain ⟨⟨e1, e2, e3, e4, e5, e6, e7⟩, h2⟩ := h
    obtain ⟨w1, w2, w3, w4, w5⟩ := hw y (List.mem_cons_self ..)
    rcases List.mem_cons.1 hx with rfl | hx
    · unfold Ent.fit
      omega
    · exact right_fit20 h2 (by omega) (by omega) (fun z hz => hw z (List.mem_cons_of_mem _ hz)) x hx

theorem wfE_set {l : List Ent} {k : Nat} {x : Ent} (h : WfE l) (hx : WfE [x]) : WfE (l.set k x) := fun y hy => by
  rcases List.mem_or_eq_of_mem_set hy with hy | rfl
  · exact h y hy
  · exact hx y (List.mem_singleton.2 rfl)
theorem fit_wf {l : List Ent} (h : ∀ x ∈ l, x.fit) : WfE l := fun x hx => by
  have := h x hx
  unfold Ent.fit at this
  omega
/-- An empty slice yields nothing. -/
theorem src_none20 (a : Option Addr) (c : Nat) (w : World) : Src Tryz.prog 5 26 (.slice a 0 c) 0 [] w := by
  cases a with
  | none => exact Src.ofNil w Tryz.underlying26 c
  | some a => exact Src.ofSlice w Tryz.underlying26 a 0 c [] rfl (fun j u h => by simp at h) (fun u h => by simp at h)
/-- Nothing is appended. -/
theorem appNil20 (b : Option Addr) (n m : Nat) (hn : n ≤ m) (a : Option Addr) (c : Nat) (ty : TypeId) (w : World) : (Builtin.append_ #[26, 26] ty #[.slice b n m, .slice a 0 c]).run Tryz.prog w = .ok (.slice b n m) w := by
  obtain ⟨i, hi, hz, h2, h3⟩ := aWf.info
  have hs := src_none20 a c w
  rw [← h2] at hs
  exact run_append_nothing w _ _ ty _ i Tryz.underlying26 hi b n m hn _ hs
/-- Some entries behind a row that is full: a new row. -/
theorem appFull20 (g n : Nat) (x : List Value) (hx : x.length = n * 5) (w : World) (hc : ∀ j u, x[j]? = some u → w.cell? ⟨g, j, none⟩ = some u) (sv : Value) (m : aUh) (hsrc : RdR w sv m) (h1 : aUq 5 m) (hm : 0 < m.length) (hl : n + m.length ≤ 1000000) (ty : TypeId) :
    ∃ v' w', (Builtin.append_ #[26, 26] ty #[.slice (some ⟨g, 0, none⟩) n n, sv]).run Tryz.prog w = .ok v' w' ∧ w'.ownsRow w.heap.size 51 5 v' (n + m.length) (x ++ m.flatten) ∧ w.grownBy w' none := by
  obtain ⟨i, hi, hz, h2, h3⟩ := aWf.info
  obtain ⟨a, cap, rfl, hc1, hc2, h⟩ := hsrc.open h1 (by decide)
  obtain ⟨b, off, rfl, hlt, hcc⟩ := h hm
  have hfl := aVf h1
  refine run_append_arg_grows w _ ty _ i _ 5 40 Tryz.underlying26 hi hz h2 h3 aWf.cells (by decide) ⟨g, 0, none⟩ n n x hx (fun j u hj => ?_) ⟨b, off, none⟩ m.length cap m.flatten hfl (fun j u hu => ?_) (by omega) (by simp only [maxLen]; omega) (by omega)
  · have e : (⟨g, 0, none⟩ : Addr).add j = ⟨g, j, none⟩ := by unfold Addr.add; split <;> simp_all
    rw [e]
    exact hc j u hj
  · have hj := (List.getElem?_eq_some_iff.1 hu).1
    rw [hfl] at hj
    have hjk : j / 5 < m.length := by omega
    have hq : m[j / 5]? = some m[j / 5] := List.getElem?_eq_getElem hjk
    have hql := (h1 _ (List.getElem_mem hjk)).1
    have hqi : m[j / 5][j % 5]? = some (m[j / 5][j % 5]'(by rw [hql]; omega)) := List.getElem?_eq_getElem _
    have hg := aVg h1 _ _ _ _ hq hqi
    have hd : j / 5 * 5 + j % 5 = j := Nat.div_add_mod' j 5
    have hce := hcc _ _ _ _ hq hqi
    rw [hd] at hg hce
    rw [hg] at hu
    rw [← Option.some.inj hu]
    have e : (⟨b, off, none⟩ : Addr).add j = ⟨b, off + j, none⟩ := by unfold Addr.add; split <;> simp_all
    rw [e]
    exact hce
/-- All of a slice, put behind nothing: a copy. -/
theorem appAll20 {ops : Array Oper} {rest : List Oper} {o : Oper} {a : Act} {Q : Exit → Act → World → Prop} {w : World} (hgd : o.guard = none) (s x : Operand)
    (ho : o.op = .call { callee := .builtin .append, args := #[s, x], argTypes := #[26, 26] }) (hs : a.eval s = .slice none 0 0)
    (sv : Value) (hx : a.eval x = sv) (l : List Ent) (hsrc : RdR w sv (l.map LF)) (hl0 : 0 < l.length) (hl : l.length ≤ 1000)
    (h : ∀ g cap w', OwR w' w.heap.size 51 5 (.slice (some ⟨g, 0, none⟩) l.length cap) (l.map LF) → Below w.heap.size w w' → wpList Tryz.prog ops Q rest (a.put o.dst (.slice (some ⟨g, 0, none⟩) l.length cap)) w') : wpList Tryz.prog ops Q (o :: rest) a w := by
  refine wpList_plain hgd fun K hK => ?_
  obtain ⟨v', w', hr, q1, q2, q3⟩ := aVt aWf o.type w.heap.size (.slice none 0 0) [] (OwR.nil _ _ _ _) _ _ hsrc (aVn l) (by rw [List.length_map]; exact hl0) (by rw [List.length_map, List.length_nil]; omega) (Nat.le_refl _)
  rw [List.nil_append] at q1
  obtain ⟨g, cap, rfl⟩ : ∃ g cap, v' = .slice (some ⟨g, 0, none⟩) l.length cap := by
    have q := q1
    unfold OwR at q
    rw [List.length_map] at q
    rcases q.2 with ⟨_, h0⟩ | ⟨g, cap, _, rfl, _⟩
    · omega
    · exact ⟨g, cap, rfl⟩
  unfold Oper.wp execOp
  simp only [ho, resolve, invoke, builtin, Sem.run_bind, Sem.run_pure, Result.andThen_ok, List.map_toArray, List.map_cons, List.map_nil, hs, hx, hr]
  exact hK _ _ (h g cap w' q1 q2)

end Go.Proofs.YtmcogmmncfihhaaGreatDoor

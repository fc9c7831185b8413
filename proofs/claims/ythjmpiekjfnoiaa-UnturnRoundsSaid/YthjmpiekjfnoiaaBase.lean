/-
  Small words for reading and owning slices, strings and new memory, for the walks of this claim.
-/
import Derived.Test.YthjmpiekjfnoiaaRows
import Derived.WalkKit
import Derived.WalkSpells
import Derived.WalkLawsBesides
import Derived.Deep.QuietTactic
import Derived.BigQuiet
import Derived.Deep.LoopGhost
import Derived.Lib.Strings
namespace Go.Proofs.Ythjmpiekjfnoiaa
open Go.RowKit

theorem hid {p : Prop} (h : p) : Hid p := h

/-- A slice value of n elements whose cells, all together, read as xs. -/
def Rd (w : World) (v : Value) (n : Nat) (xs : List Value) : Prop :=
  ∃ a cap, v = .slice a n cap ∧ n ≤ cap ∧ cap ≤ maxLen ∧
    (xs = [] ∨ ∃ b off, a = some ⟨b, off, none⟩ ∧ b < w.heap.size ∧ ∀ j, j < xs.length → w.cell? ⟨b, off + j, none⟩ = some (xs.getD j undef))

/-- A slice of integers of the kind int. -/
def RdI (w : World) (v : Value) (l : List Int) : Prop := Rd w v l.length (l.map (Value.int .i64))

theorem bcell {W w1 : World} (hb : Below W.heap.size W w1) : (∀ b o, b < W.heap.size → w1.cell? ⟨b, o, none⟩ = W.cell? ⟨b, o, none⟩) ∧ (∀ b o, b < W.heap.size → w1.frozen? ⟨b, o, none⟩ = W.frozen? ⟨b, o, none⟩) :=
  ⟨fun b o h => hb.cell (p := ⟨b, o, none⟩) h, fun b o h => hb.frozen (p := ⟨b, o, none⟩) h⟩

theorem Rd.below {w w' : World} {v : Value} {n : Nat} {xs : List Value} (h : Rd w v n xs) (hb : Below w.heap.size w w') : Rd w' v n xs := by
  obtain ⟨a, cap, rfl, h1, h2, h3⟩ := h
  refine ⟨a, cap, rfl, h1, h2, ?_⟩
  rcases h3 with h3 | ⟨b, off, rfl, hlt, hc⟩
  · exact .inl h3
  · exact .inr ⟨b, off, rfl, Nat.lt_of_lt_of_le hlt hb.size, fun j hj => by rw [(bcell hb).1 _ _ hlt]; exact hc j hj⟩

theorem RdI.below {w w' : World} {v : Value} {l : List Int} (h : RdI w v l) (hb : Below w.heap.size w w') : RdI w' v l := Rd.below h hb

theorem RdI.open {w : World} {v : Value} {l : List Int} (h : RdI w v l) :
    ∃ a cap, v = .slice a l.length cap ∧ l.length ≤ cap ∧ cap ≤ maxLen ∧
      (0 < l.length → ∃ b off, a = some ⟨b, off, none⟩ ∧ b < w.heap.size ∧ ∀ j x, l[j]? = some x → w.cell? ⟨b, off + j, none⟩ = some (.int .i64 x)) := by
  obtain ⟨a, cap, rfl, h1, h2, h3⟩ := h
  refine ⟨a, cap, rfl, h1, h2, fun hne => ?_⟩
  rcases h3 with h3 | ⟨b, off, rfl, hlt, hc⟩
  · have := congrArg List.length h3; simp at this; simp [this] at hne
  · refine ⟨b, off, rfl, hlt, fun j x hx => ?_⟩
    obtain ⟨hj, hx'⟩ := List.getElem?_eq_some_iff.1 hx
    have := hc j (by simpa using hj)
    rw [this]
    simp [List.getElem?_eq_getElem hj, hx']

theorem getI {l : List Int} {k : Nat} (h : k < l.length) : ∃ x, l[k]? = some x := ⟨_, List.getElem?_eq_getElem h⟩

def WfI (l : List Int) : Prop := ∀ x ∈ l, -9223372036854775808 ≤ x ∧ x ≤ 9223372036854775807
theorem WfI.get {l : List Int} (h : WfI l) {k : Nat} {x : Int} (hx : l[k]? = some x) : -9223372036854775808 ≤ x ∧ x ≤ 9223372036854775807 := h x (List.mem_of_getElem? hx)

theorem Rd.of_own {w : World} {base e size n : Nat} {v : Value} {xs : List Value} (h : w.ownsRow base e size v n xs) : Rd w v n xs := by
  obtain ⟨hl, h⟩ := h
  rcases h with ⟨rfl, rfl⟩ | ⟨g, cap, cur, rfl, hb, hg, hnc, hcm, hcs, ht⟩
  · refine ⟨none, 0, rfl, Nat.le_refl _, by simp [maxLen], .inl ?_⟩
    cases xs with
    | nil => rfl
    | cons x l => simp at hl
  · refine ⟨_, cap, rfl, hnc, hcm, .inr ⟨g, 0, rfl, (Array.getElem?_eq_some_iff.1 hg).1, fun j hj => ?_⟩⟩
    rw [Nat.zero_add, cell_of_row w g j cur e (0, 0) hg]
    have : xs[j]? = cur[j]? := by
      rw [← ht, List.getElem?_take, if_pos (by rw [← hl]; exact hj)]; simp
    rw [← this, List.getElem?_eq_getElem hj]
    simp [List.getD, hj]

theorem RdI.of_own {w : World} {base e n : Nat} {v : Value} {l : List Int} (h : w.ownsRow base e 1 v n (l.map (Value.int .i64))) : RdI w v l := by
  have hn : n = l.length := by have := h.1; simp at this; omega
  subst hn
  exact Rd.of_own h

theorem own_below {w w' : World} {B base e size n : Nat} {v : Value} {xs : List Value} (h : w.ownsRow base e size v n xs) (hb : Below B w w') (hB : w.heap.size ≤ B) : w'.ownsRow base e size v n xs := by
  refine ⟨h.1, ?_⟩
  rcases h.2 with hn | ⟨g, cap, cur, rfl, h1, hg, rest⟩
  · exact .inl hn
  · refine .inr ⟨g, cap, cur, rfl, h1, ?_, rest⟩
    rw [hb.block g (Nat.lt_of_lt_of_le (Array.getElem?_eq_some_iff.1 hg).1 hB)]
    exact hg

theorem own_base {w : World} {base base' e size n : Nat} {v : Value} {xs : List Value} (h : w.ownsRow base e size v n xs) (hb : base' ≤ base) : w.ownsRow base' e size v n xs := by
  refine ⟨h.1, ?_⟩
  rcases h.2 with hn | ⟨g, cap, cur, rfl, h1, rest⟩
  · exact .inl hn
  · exact .inr ⟨g, cap, cur, rfl, Nat.le_trans hb h1, rest⟩

/-! ### An array of the call's own, known whole. -/
def Arr (w : World) (b : Nat) (e : TypeId) (l : List Value) : Prop := w.heap[b]? = some (.cells l.toArray e (0, 0))

theorem Arr.lt {w : World} {b : Nat} {e : TypeId} {l : List Value} (h : Arr w b e l) : b < w.heap.size := (Array.getElem?_eq_some_iff.1 h).1
theorem Arr.cell {w : World} {b : Nat} {e : TypeId} {l : List Value} (h : Arr w b e l) {i : Nat} {v : Value} (hi : l[i]? = some v) : w.cell? ⟨b, i, none⟩ = some v := by
  rw [cell_of_row w b i _ e (0, 0) h]; simpa using hi
theorem Arr.free {w : World} {b : Nat} {e : TypeId} {l : List Value} (h : Arr w b e l) (i : Nat) : w.frozen? ⟨b, i, none⟩ = false := frozen_of_row w b i _ e h
theorem Arr.set {w : World} {b : Nat} {e : TypeId} {l : List Value} (h : Arr w b e l) (i : Nat) (v : Value) : Arr (w.setCell ⟨b, i, none⟩ v) b e (l.set i v) := by
  unfold Arr
  rw [heap_setCell_same w b i _ e v h]; simp
theorem Arr.other {w : World} {b : Nat} {e : TypeId} {l : List Value} (h : Arr w b e l) (p : Addr) (hp : p.block ≠ b) (v : Value) : Arr (w.setCell p v) b e l := by
  unfold Arr
  rw [heap_setCell_other w p b v (fun e => hp e.symm)]; exact h
theorem Arr.below {w w' : World} {B b : Nat} {e : TypeId} {l : List Value} (h : Arr w b e l) (hb : Below B w w') (hB : b < B) : Arr w' b e l := by
  unfold Arr; rw [hb.block b hB]; exact h
theorem Arr.alloc {w : World} {b : Nat} {e : TypeId} {l : List Value} (h : Arr w b e l) (o : Obj) : Arr (w.alloc o) b e l := by
  unfold Arr; rw [Below.heap_alloc w o b h.lt]; exact h
theorem Arr.drewN {w : World} {b : Nat} {e : TypeId} {l : List Value} (h : Arr w b e l) (n : Nat) : Arr (w.drewN n) b e l := h
theorem Arr.grown {w w' : World} {b : Nat} {e : TypeId} {l : List Value} {row : Option Nat} (h : Arr w b e l) (hg : w.grownBy w' row) (hne : some b ≠ row) : Arr w' b e l := by
  unfold Arr; rw [hg.block b h.lt hne]; exact h
theorem Arr.new (w : World) (e : TypeId) (l : List Value) : Arr (w.alloc (.cells l.toArray e)) w.heap.size e l := heap_alloc_new w _

/-- The cells of n integers, by a function of the place. -/
def tab (n : Nat) (f : Nat → Int) : List Value := (List.range n).map (fun d => Value.int .i64 (f d))
theorem tab_get (n : Nat) (f : Nat → Int) (i : Nat) (h : i < n) : (tab n f)[i]? = some (.int .i64 (f i)) := by simp [tab, h]
theorem tab_set (n : Nat) (f f' : Nat → Int) (i : Nat) (v : Int) (h : ∀ d, d < n → f' d = if d = i then v else f d) : (tab n f).set i (.int .i64 v) = tab n f' := by
  apply List.ext_getElem?
  intro j
  by_cases hj : j < n
  · by_cases hij : i = j
    · subst hij; simp [tab, hj, h i hj]
    · rw [List.getElem?_set_ne hij, tab_get n f j hj, tab_get n f' j hj, h j hj, if_neg (fun e => hij e.symm)]
  · rw [List.getElem?_eq_none (by simp [tab]; omega), List.getElem?_eq_none (by simp [tab]; omega)]

/-! ### Append of one element of one cell. -/
structure ElT (P : Program) (t e : TypeId) (bytes : Nat) (z : Value) : Prop where
  under : P.underlying t = some (.slice e)
  info : ∃ i, P.info? e = some i ∧ i.zero = some z ∧ i.size = 1 ∧ i.bytes = bytes
  cells : z.cells = #[z]
  pos : 1 ≤ bytes

theorem ElT.mk' {P : Program} {t e : TypeId} {bytes : Nat} {z : Value} (h : (P.info? e).map (fun i => (i.zero, i.size, i.bytes)) = some (some z, 1, bytes)) (hu : P.underlying t = some (.slice e)) (hc : z.cells = #[z]) (hb : 1 ≤ bytes) : ElT P t e bytes z := by
  obtain ⟨i0, hi, hz0, hz1, hz2⟩ := info_parts h
  exact ⟨hu, ⟨i0, hi, hz0, hz1, hz2⟩, hc, hb⟩

theorem own_grown {w w' : World} {base e size n : Nat} {v : Value} {xs : List Value} (hown : w.ownsRow base e size v n xs) (hg : w.grownBy w' v.ownBlock) (hb : base ≤ w.heap.size) : Below base w w' :=
  (Below.refl base w).grown hg hb (fun k hk => (hown.lt k hk).1)

theorem app1 {P : Program} {ops : Array Oper} {rest : List Oper} {o : Oper} {a : Act} {Q : Exit → Act → World → Prop} {w : World} {t e bytes : Nat} {z : Value} (E : ElT P t e bytes z) (hgd : o.guard = none) (s x : Operand)
    (ho : o.op = .call { callee := .builtin .append, args := #[s, x], argTypes := #[t, t] }) (base : Nat) (v : Value) (n : Nat) (xs : List Value) (hs : a.eval s = v) (hown : w.ownsRow base e 1 v n xs)
    (g : Nat) (u : Value) (hx : a.eval x = .slice (some ⟨g, 0, none⟩) 1 1) (hc : w.cell? ⟨g, 0, none⟩ = some u) (h1 : u.oneCell' = true) (hroom : (n + 1) * bytes ≤ 140737488355328) (hbase : base ≤ w.heap.size)
    (h : ∀ v' w', w'.ownsRow base e 1 v' (n + 1) (xs ++ [u]) → Below base w w' → w.grownBy w' v.ownBlock → wpList P ops Q rest (a.put o.dst v') w') : wpList P ops Q (o :: rest) a w := by
  obtain ⟨i, hi, hz, h2, h3⟩ := E.info
  have h4 : z.cells.size = 1 := by rw [E.cells]; rfl
  have hpos := E.pos
  have hn : n + 1 ≤ 140737488355328 := Nat.le_trans (Nat.le_mul_of_pos_right _ hpos) hroom
  refine wpList_append_own w hgd s x t ho base e i z 1 bytes E.under hi hz h2 h3 h4 (by decide) v n xs hs hown ⟨g, 0, none⟩ 1 1 [u] hx rfl ?_ (by simpa using h1) (by simp only [maxLen]; omega) hroom hbase (fun v' w' q1 q2 _ => h v' w' q1 (own_grown hown q2 hbase) q2)
  intro j u' hj
  cases j with
  | zero => simp at hj; subst hj; simpa [Addr.add] using hc
  | succ j => simp at hj

/-- A row of one-cell elements that the call owns. -/
def Ow (w : World) (B : Nat) (e : TypeId) (v : Value) (xs : List Value) : Prop := w.ownsRow B e 1 v xs.length xs

theorem Ow.nil (w : World) (B : Nat) (e : TypeId) : Ow w B e (.slice none 0 0) [] := World.ownsRow_nil _ _ _ _
theorem Ow.alloc {w : World} {B : Nat} {e : TypeId} {v : Value} {xs : List Value} (h : Ow w B e v xs) (o : Obj) : Ow (w.alloc o) B e v xs := World.ownsRow.alloc h o
theorem Ow.below {w w' : World} {B C : Nat} {e : TypeId} {v : Value} {xs : List Value} (h : Ow w B e v xs) (hb : Below C w w') (hC : w.heap.size ≤ C) : Ow w' B e v xs := own_below h hb hC
theorem Ow.base {w : World} {B B' : Nat} {e : TypeId} {v : Value} {xs : List Value} (h : Ow w B e v xs) (hb : B' ≤ B) : Ow w B' e v xs := own_base h hb
theorem Ow.rd {w : World} {B : Nat} {e : TypeId} {v : Value} {xs : List Value} (h : Ow w B e v xs) : Rd w v xs.length xs := Rd.of_own h
theorem Ow.drewN {w : World} {B : Nat} {e : TypeId} {v : Value} {xs : List Value} (h : Ow w B e v xs) (n : Nat) : Ow (w.drewN n) B e v xs := h
theorem Ow.kept {w w' : World} {B : Nat} {e : TypeId} {v : Value} {xs : List Value} {row : Option Nat} (h : Ow w B e v xs) (hg : w.grownBy w' row) (hne : v.ownBlock = none ∨ v.ownBlock ≠ row) : Ow w' B e v xs := World.ownsRow.kept h hg hne
theorem Ow.lt {w : World} {B : Nat} {e : TypeId} {v : Value} {xs : List Value} (h : Ow w B e v xs) : ∀ k, v.ownBlock = some k → B ≤ k ∧ k < w.heap.size := World.ownsRow.lt h

theorem appO {P : Program} {ops : Array Oper} {rest : List Oper} {o : Oper} {a : Act} {Q : Exit → Act → World → Prop} {w : World} {t e bytes : Nat} {z : Value} (E : ElT P t e bytes z) (hgd : o.guard = none) (s x : Operand)
    (ho : o.op = .call { callee := .builtin .append, args := #[s, x], argTypes := #[t, t] }) (base : Nat) (v : Value) (xs : List Value) (hs : a.eval s = v) (hown : Ow w base e v xs)
    (g : Nat) (u : Value) (hx : a.eval x = .slice (some ⟨g, 0, none⟩) 1 1) (hc : w.cell? ⟨g, 0, none⟩ = some u) (h1 : u.oneCell' = true) (hroom : (xs.length + 1) * bytes ≤ 140737488355328) (hbase : base ≤ w.heap.size)
    (h : ∀ v' w', Ow w' base e v' (xs ++ [u]) → Below base w w' → w.grownBy w' v.ownBlock → wpList P ops Q rest (a.put o.dst v') w') : wpList P ops Q (o :: rest) a w :=
  app1 E hgd s x ho base v xs.length xs hs hown g u hx hc h1 hroom hbase (fun v' w' q1 q2 q3 => h v' w' (by unfold Ow; rw [List.length_append]; exact q1) q2 q3)

/-- Integers of the kind int in a row that the call owns. -/
def OwI (w : World) (B : Nat) (v : Value) (l : List Int) : Prop := Ow w B 3 v (l.map (Value.int .i64))
theorem OwI.nil (w : World) (B : Nat) : OwI w B (.slice none 0 0) [] := Ow.nil _ _ _
theorem OwI.alloc {w : World} {B : Nat} {v : Value} {l : List Int} (h : OwI w B v l) (o : Obj) : OwI (w.alloc o) B v l := Ow.alloc h o
theorem OwI.below {w w' : World} {B C : Nat} {v : Value} {l : List Int} (h : OwI w B v l) (hb : Below C w w') (hC : w.heap.size ≤ C) : OwI w' B v l := Ow.below h hb hC
theorem OwI.base {w : World} {B B' : Nat} {v : Value} {l : List Int} (h : OwI w B v l) (hb : B' ≤ B) : OwI w B' v l := Ow.base h hb
theorem OwI.rd {w : World} {B : Nat} {v : Value} {l : List Int} (h : OwI w B v l) : RdI w v l := by
  unfold RdI; have := Ow.rd h; rwa [List.length_map] at this

theorem elInt : ElT Try.prog 22 3 8 (.int .i64 0) := ElT.mk' (by kernel_rfl) Try.underlying22 rfl (by decide)

theorem appI {ops : Array Oper} {rest : List Oper} {o : Oper} {a : Act} {Q : Exit → Act → World → Prop} {w : World} (hgd : o.guard = none) (s x : Operand)
    (ho : o.op = .call { callee := .builtin .append, args := #[s, x], argTypes := #[22, 22] }) (base : Nat) (v : Value) (l : List Int) (hs : a.eval s = v) (hown : OwI w base v l)
    (g : Nat) (n : Int) (hx : a.eval x = .slice (some ⟨g, 0, none⟩) 1 1) (hc : w.cell? ⟨g, 0, none⟩ = some (.int .i64 n)) (hroom : (l.length + 1) * 8 ≤ 140737488355328) (hbase : base ≤ w.heap.size)
    (h : ∀ v' w', OwI w' base v' (l ++ [n]) → Below base w w' → w.grownBy w' v.ownBlock → wpList Try.prog ops Q rest (a.put o.dst v') w') : wpList Try.prog ops Q (o :: rest) a w :=
  appO elInt hgd s x ho base v _ hs hown g _ hx hc rfl (by simpa using hroom) hbase (fun v' w' q1 q2 q3 => h v' w' (by unfold OwI; rw [List.map_append]; exact q1) q2 q3)

theorem byteAt (s : ByteArray) (j : Nat) (h : j < s.size) : s.data.toList[j]? = some s[j] := by
  rw [List.getElem?_eq_getElem (by simpa using h)]; rfl

/-- A row of so many noughts. -/
def zeros (z : Value) (n : Nat) : Array Value := (List.replicate n z).toArray
theorem Arr.made (w : World) (e : TypeId) (z : Value) (n : Nat) : Arr (w.alloc (.cells (zeros z n) e)) w.heap.size e (List.replicate n z) := heap_alloc_new w _

theorem mkA {P : Program} {ops : Array Oper} {rest : List Oper} {o : Oper} {a : Act} {Q : Exit → Act → World → Prop} {w : World} {t e bytes : Nat} {z : Value} (E : ElT P t e bytes z) (hgd : o.guard = none) (l c : Operand)
    (ho : o.op = .makeSlice t l c) (n : Nat) (hl : a.eval l = .int .i64 (n : Int)) (hc : a.eval c = .int .i64 (n : Int)) (hroom : n * bytes ≤ 140737488355328)
    (h : wpList P ops Q rest (a.put o.dst (.slice (some ⟨w.heap.size, 0, none⟩) n n)) (w.alloc (.cells (zeros z n) e))) : wpList P ops Q (o :: rest) a w := by
  refine wpList_plain hgd fun K hK' => ?_
  obtain ⟨i, hi, hz, h2, h3⟩ := E.info
  have hpos := E.pos
  have hn : n ≤ 140737488355328 := Nat.le_trans (Nat.le_mul_of_pos_right _ hpos) hroom
  have hb : (i.bytes : Int) * (n : Int) ≤ 281474976710656 := by
    rw [h3, ← Int.natCast_mul, Nat.mul_comm]; omega
  have hrun := run_make (P := P) w t e i z E.under hi hz .i64 .i64 (n : Int) (n : Int) (by omega) (Int.le_refl _) hb (by omega)
  rw [h2, Nat.mul_one, Int.toNat_natCast, E.cells, show madeCells #[z] n = zeros z n from by rw [zeros, ← toList_madeCells_one]] at hrun
  unfold Oper.wp
  simp [execOp, ho, hl, hc, hrun, Result.andThen]
  exact hK' _ _ h

theorem tab_zero (n : Nat) : List.replicate n (Value.int .i64 0) = tab n (fun _ => 0) := by
  apply List.ext_getElem?
  intro j
  by_cases hj : j < n <;> simp [tab, hj]

/-- An array of the call's own, handed on as a slice of all of it. -/
theorem Arr.own {w : World} {b B : Nat} {e : TypeId} {l : List Value} (h : Arr w b e l) (hB : B ≤ b) (hl : l.length ≤ maxLen) : Ow w B e (.slice (some ⟨b, 0, none⟩) l.length l.length) l :=
  ⟨by simp, .inr ⟨b, l.length, l.toArray, rfl, hB, h, Nat.le_refl _, hl, by simp, by simp⟩⟩

/-! ### A body with one label to which it goes back: the relation bears a number, which every jump lowers. -/
theorem wp_scope_ghost {P : Program} {a : Act} {w : World} {Q : Exit → Act → World → Prop} {c T : Code} (l : Nat) (J : Nat → Act → World → Prop) (hf : findLabel c l = some (Code.skip.seq T))
    (pass : ∀ g a w, J g a w → T.wp P (Exit.jump l (fun a' w' => ∃ g', g' < g ∧ J g' a' w') Q) a w)
    (first : Hid (∀ g a w, J g a w → T.wp P (Exit.jump l (fun a w => ∃ g, J g a w) Q) a w) → c.wp P (Exit.jump l (fun a w => ∃ g, J g a w) Q) a w) : (Code.scope c).wp P Q a w := by
  refine wp_scope_jumps l (fun a w => ∃ g, J g a w) (fun a w => leastOf (fun g => J g a w)) hf (first (hid fun g a w hJ => Code.wp_mono ?_ (pass g a w hJ))) (fun a w h => ?_)
  · intro e a' w' hq
    cases e with
    | goto l' =>
      obtain ⟨rfl, g', _, hJ⟩ := hq
      exact ⟨rfl, g', hJ⟩
    | _ => exact hq
  · apply wp_seq_k
    intro K hK
    apply wp_skip
    refine hK _ _ (Code.wp_mono ?_ (pass _ a w (leastOf_spec h).1))
    intro e a' w' hq
    cases e with
    | goto l' =>
      obtain ⟨rfl, g', hg', hJ⟩ := hq
      exact ⟨rfl, ⟨g', hJ⟩, Nat.lt_of_le_of_lt ((leastOf_spec ⟨g', hJ⟩).2 _ hJ) hg'⟩
    | _ => exact hq

/-! ### Bytes. -/
def mkS (l : List UInt8) : ByteArray := ⟨l.toArray⟩
@[simp] theorem mkS_toList (l : List UInt8) : (mkS l).data.toList = l := rfl
@[simp] theorem mkS_size (l : List UInt8) : (mkS l).size = l.length := by simp [mkS, ByteArray.size]
theorem mkS_of (s : ByteArray) : mkS s.data.toList = s := by cases s; simp [mkS]
theorem eq_mkS {s : ByteArray} {l : List UInt8} (h : s.data.toList = l) : s = mkS l := by rw [← h, mkS_of]
theorem mkS_append (l m : List UInt8) : mkS l ++ mkS m = mkS (l ++ m) := eq_mkS (by simp)
theorem mkS_inj {l m : List UInt8} (h : mkS l = mkS m) : l = m := by have := congrArg (fun s => s.data.toList) h; simpa using this
def bytesV (l : List UInt8) : List Value := l.map (fun b => Value.int .u8 (b.toNat : Int))
@[simp] theorem bytesV_length (l : List UInt8) : (bytesV l).length = l.length := by simp [bytesV]
theorem bytesV_append (l m : List UInt8) : bytesV (l ++ m) = bytesV l ++ bytesV m := by simp [bytesV]
theorem bytesV_get {l : List UInt8} {k : Nat} {b : UInt8} (h : l[k]? = some b) : (bytesV l)[k]? = some (.int .u8 (b.toNat : Int)) := by simp [bytesV, h]
theorem bytesV_set (l : List UInt8) (k : Nat) (b : UInt8) : (bytesV l).set k (.int .u8 (b.toNat : Int)) = bytesV (l.set k b) := by simp [bytesV, List.map_set]
def RdB (w : World) (v : Value) (l : List UInt8) : Prop := Rd w v l.length (bytesV l)
def OwB (w : World) (B : Nat) (v : Value) (l : List UInt8) : Prop := Ow w B 5 v (bytesV l)
theorem OwB.rd {w : World} {B : Nat} {v : Value} {l : List UInt8} (h : OwB w B v l) : RdB w v l := by
  unfold RdB; have := Ow.rd h; rwa [bytesV_length] at this

theorem conv_bytes {w : World} {v : Value} {l : List UInt8} (h : RdB w v l) : (convert 40 9 v).run Try.prog w = .ok (.string (mkS l)) w := by
  obtain ⟨a, cap, rfl, h1, h2, h3⟩ := h
  have key : ∀ (l : List UInt8), strOfNums (l.map (fun b => (b.toNat : Int))) = mkS l := fun l => by
    simp [strOfNums, mkS, List.map_map, Function.comp_def]
  rcases h3 with h3 | ⟨b, off, rfl, hlt, hc⟩
  · have hl : l = [] := by cases l with | nil => rfl | cons x l => simp [bytesV] at h3
    subst hl
    cases a with
    | none => exact run_convert_bytes_nil w _ _ Try.underlying40 Try.underlying5 0 cap _ Try.underlying9
    | some a =>
      rw [run_convert_bytes_string w _ _ _ _ _ _ Try.underlying40 Try.underlying5 Try.underlying9]
      rw [run_bytesToString w a _ cap [] (by simpa using run_loadCells_list (P := Try.prog) w a [] (fun j u hj => by simp at hj))]
      rfl
  · rw [run_convert_bytes_arg w _ _ Try.underlying40 Try.underlying5 b off l.length cap (l.map (fun b => (b.toNat : Int))) (by simp) (fun i hi => by
      rw [hc i (by simpa using hi)]
      simp [bytesV, hi]) _ Try.underlying9, key]

theorem elBool : ElT Try.prog 34 4 1 (.bool false) := ElT.mk' (by kernel_rfl) Try.underlying34 rfl (by decide)
theorem elByte : ElT Try.prog 40 5 1 (.int .u8 0) := ElT.mk' (by kernel_rfl) Try.underlying40 rfl (by decide)

theorem Arr.rdB {w : World} {b : Nat} {e : TypeId} {l : List UInt8} {n : Nat} (h : Arr w b e (bytesV l)) (hn : l.length = n) (hl : n ≤ maxLen) : RdB w (.slice (some ⟨b, 0, none⟩) n n) l := by
  subst hn
  have := (h.own (B := 0) (Nat.zero_le _) (by simpa using hl)).rd
  unfold RdB; simpa using this

theorem ext_data (s : ByteArray) (a b : Nat) : s.extract a b = mkS ((s.data.toList.drop a).take (b - a)) := eq_mkS (Lib.extract_data s a b)
theorem ext_one (s : ByteArray) (q : Nat) (h : q < s.size) : s.extract q (q + 1) = mkS [s.data.toList.getD q 0] := by
  rw [ext_data, show q + 1 - q = 1 by omega]
  have hq : q < s.data.toList.length := by simpa using h
  rw [List.drop_eq_getElem_cons hq]
  simp [List.getD, List.getElem?_eq_getElem hq]

/-! ### A row that is filled from its beginning on. -/
def fill {α : Type} (n : Nat) (z : α) (l : List α) : List α := l ++ List.replicate (n - l.length) z
theorem fill_nil {α : Type} (n : Nat) (z : α) : fill n z [] = List.replicate n z := by simp [fill]
theorem fill_full {α : Type} (n : Nat) (z : α) (l : List α) (h : n ≤ l.length) : fill n z l = l := by simp [fill, Nat.sub_eq_zero_of_le h]
theorem fill_length {α : Type} (n : Nat) (z : α) (l : List α) (h : l.length ≤ n) : (fill n z l).length = n := by simp [fill]; omega
theorem fill_set {α : Type} (n : Nat) (z x : α) (l : List α) (h : l.length < n) : (fill n z l).set l.length x = fill n z (l ++ [x]) := by
  obtain ⟨m, hm⟩ : ∃ m, n - l.length = m + 1 := ⟨n - l.length - 1, by omega⟩
  have hm' : n - (l ++ [x]).length = m := by simp; omega
  simp only [fill, hm, hm', List.replicate_succ]
  simp
theorem fill_lt {α : Type} (n : Nat) (z : α) (l : List α) (k : Nat) (h : k < n) (hl : l.length ≤ n) : ∃ x, (fill n z l)[k]? = some x :=
  ⟨_, List.getElem?_eq_getElem (by rw [fill_length n z l hl]; exact h)⟩

theorem newc (w : World) (x : Value) (t : TypeId) : (w.alloc (.cells #[x] t)).cell? ⟨w.heap.size, 0, none⟩ = some x := by
  rw [World.cell?_alloc_at _ _ _ _ rfl]; rfl

/-- What a proof's shell says of a slice of integers that came in. -/
theorem rdI_of_row {w : World} {a : Option Addr} {len cap : Nat} {zs : List Int}
    (h : (a = none ∧ len = 0 ∧ cap = 0 ∧ zs = []) ∨ ∃ x, a = some x ∧ len ≤ cap ∧ cap ≤ maxLen ∧ zs.length = cap ∧ (∀ i, i < zs.length → w.cell? (x.add i) = some (.int .i64 (zs.getD i 0))) ∧ ∀ n ∈ zs, (Lit.int .i64 n).wf = true) :
    RdI w (.slice a len cap) (zs.take len) ∧ WfI (zs.take len) := by
  rcases h with ⟨rfl, rfl, rfl, rfl⟩ | ⟨⟨b, off, spot⟩, rfl, hl, hm, hz, hc, hw⟩
  · exact ⟨⟨none, 0, rfl, Nat.le_refl _, by simp [maxLen], .inl rfl⟩, by intro x hx; simp at hx⟩
  · have hlen : (zs.take len).length = len := by simp; omega
    refine ⟨⟨some ⟨b, off, spot⟩, cap, by rw [hlen], by rw [hlen]; exact hl, hm, ?_⟩, fun x hx => ?_⟩
    · rcases Nat.eq_zero_or_pos len with h0 | h0
      · left; subst h0; simp
      · right
        have h1 := hc 0 (by omega)
        have hsp : spot = none := by simpa [Addr.add] using World.cell?_spot h1
        subst hsp
        refine ⟨b, off, rfl, World.block_lt_of_cell? w _ h1, fun j hj => ?_⟩
        have hj' : j < len := by rw [List.length_map, hlen] at hj; exact hj
        have h2 := hc j (by omega)
        have e : (⟨b, off, none⟩ : Addr).add j = ⟨b, off + j, none⟩ := by unfold Addr.add; split <;> simp_all
        rw [e] at h2
        rw [h2]
        have hjz : j < zs.length := by omega
        simp [List.getD, hj', hjz]
    · have := hw x (List.mem_of_mem_take hx)
      simp [Lit.wf, IntKind.min, IntKind.max, IntKind.signed, IntKind.bits] at this
      omega

/-- A slice that a literal lays. -/
theorem rd_lit (w : World) (e : TypeId) (xs : List Value) (n : Nat) (hn : xs.length = n) (hm : n ≤ maxLen) : Rd (w.alloc (.cells xs.toArray e)) (.slice (some ⟨w.heap.size, 0, none⟩) n n) n xs := by
  subst hn
  exact ((Arr.new w e xs).own (B := 0) (Nat.zero_le _) hm).rd

theorem ret_int {k : IntKind} {a b : Int} (h : a = b) : Ending.returned (.int k a) = .returned (.int k b) := by rw [h]
theorem ret_bool {a b : Bool} (h : a = b) : Ending.returned (.bool a) = .returned (.bool b) := by rw [h]
theorem ret_str {a b : ByteArray} (h : a = b) : Ending.returned (.string a) = .returned (.string b) := by rw [h]

end Go.Proofs.Ythjmpiekjfnoiaa

/-
  Small words for reading and owning slices, strings and new memory, for the walks of this claim.
-/
import Derived.Test.YthjmpiekjfnoiaaGreatDoorRows
import Derived.WalkKit
import Derived.WalkSpells
import Derived.WalkLawsBesides
import Derived.Deep.QuietTactic
import Derived.BigQuiet
import Derived.Deep.LoopGhost
import Derived.Lib.Strings
import Derived.Deep.RegionWith
import Derived.Deep.DeepCutAuto
import Derived.Below
import Derived.StillTailTactics
namespace Go.Proofs.YthjmpiekjfnoiaaGreatDoor
open Go.RowKit

theorem hid {p : Prop} (h : p) : Hid p := h

/-- A slice value of n elements whose cells, all together, read as xs. -/
def Rd (w : World) (v : Value) (n : Nat) (xs : List Value) : Prop :=
  ∃ a cap, v = .slice a n cap ∧ n ≤ cap ∧ cap ≤ maxLen ∧
    (xs = [] ∨ ∃ b off, a = some ⟨b, off, none⟩ ∧ b < w.heap.size ∧ ∀ j, j < xs.length → w.cell? ⟨b, off + j, none⟩ = some (xs.getD j undef))

/-- A slice of integers of the kind int. -/
def RdI (w : World) (v : Value) (l : List Int) : Prop := Rd w v l.length (l.map (Value.int .i64))

theorem bcell {W w1 : World} (hb : Below W.heap.size W w1) : (∀ b o, b < W.heap.size → w1.cell? ⟨b, o, none⟩ = W.cell? ⟨b, o, none⟩) ∧ (∀ b o, b < W.heap.size → w1.frozen? ⟨b, o, none⟩ = W.frozen? ⟨b, o, none⟩) :=
  ⟨fun b o h => hb.cell (p := ⟨b, o, none⟩) h, fun b o h => hb.frozen (p := ⟨b, o, none⟩) h⟩

theorem Rd.below {w w' : World} {v : Value} {n : Nat} {xs : List Value} (h : Rd w v n xs) (hb : Below w.heap.size w w') : Rd w' v n xs := by
  obtain ⟨a, cap, rfl, h1, h2, h3⟩ := h
  refine ⟨a, cap, rfl, h1, h2, ?_⟩
  rcases h3 with h3 | ⟨b, off, rfl, hlt, hc⟩
  · exact .inl h3
  · exact .inr ⟨b, off, rfl, Nat.lt_of_lt_of_le hlt hb.size, fun j hj => by rw [(bcell hb).1 _ _ hlt]; exact hc j hj⟩

theorem RdI.below {w w' : World} {v : Value} {l : List Int} (h : RdI w v l) (hb : Below w.heap.size w w') : RdI w' v l := Rd.below h hb

theorem RdI.open {w : World} {v : Value} {l : List Int} (h : RdI w v l) :
    ∃ a cap, v = .slice a l.length cap ∧ l.length ≤ cap ∧ cap ≤ maxLen ∧
      (0 < l.length → ∃ b off, a = some ⟨b, off, none⟩ ∧ b < w.heap.size ∧ ∀ j x, l[j]? = some x → w.cell? ⟨b, off + j, none⟩ = some (.int .i64 x)) := by
  obtain ⟨a, cap, rfl, h1, h2, h3⟩ := h
  refine ⟨a, cap, rfl, h1, h2, fun hne => ?_⟩
  rcases h3 with h3 | ⟨b, off, rfl, hlt, hc⟩
  · have := congrArg List.length h3; simp at this; simp [this] at hne
  · refine ⟨b, off, rfl, hlt, fun j x hx => ?_⟩
    obtain ⟨hj, hx'⟩ := List.getElem?_eq_some_iff.1 hx
    have := hc j (by simpa using hj)
    rw [this]
    simp [List.getElem?_eq_getElem hj, hx']

theorem getI {l : List Int} {k : Nat} (h : k < l.length) : ∃ x, l[k]? = some x := ⟨_, List.getElem?_eq_getElem h⟩

def WfI (l : List Int) : Prop := ∀ x ∈ l, -9223372036854775808 ≤ x ∧ x ≤ 9223372036854775807
theorem WfI.get {l : List Int} (h : WfI l) {k : Nat} {x : Int} (hx : l[k]? = some x) : -9223372036854775808 ≤ x ∧ x ≤ 9223372036854775807 := h x (List.mem_of_getElem? hx)

theorem Rd.of_own {w : World} {base e size n : Nat} {v : Value} {xs : List Value} (h : w.ownsRow base e size v n xs) : Rd w v n xs := by
  obtain ⟨hl, h⟩ := h
  rcases h with ⟨rfl, rfl⟩ | ⟨g, cap, cur, rfl, hb, hg, hnc, hcm, hcs, ht⟩
  · refine ⟨none, 0, rfl, Nat.le_refl _, by simp [maxLen], .inl ?_⟩
    cases xs with
    | nil => rfl
    | cons x l => simp at hl
  · refine ⟨_, cap, rfl, hnc, hcm, .inr ⟨g, 0, rfl, (Array.getElem?_eq_some_iff.1 hg).1, fun j hj => ?_⟩⟩
    rw [Nat.zero_add, cell_of_row w g j cur e (0, 0) hg]
    have : xs[j]? = cur[j]? := by
      rw [← ht, List.getElem?_take, if_pos (by rw [← hl]; exact hj)]; simp
    rw [← this, List.getElem?_eq_getElem hj]
    simp [List.getD, hj]

theorem RdI.of_own {w : World} {base e n : Nat} {v : Value} {l : List Int} (h : w.ownsRow base e 1 v n (l.map (Value.int .i64))) : RdI w v l := by
  have hn : n = l.length := by have := h.1; simp at this; omega
  subst hn
  exact Rd.of_own h

theorem own_below {w w' : World} {B base e size n : Nat} {v : Value} {xs : List Value} (h : w.ownsRow base e size v n xs) (hb : Below B w w') (hB : w.heap.size ≤ B) : w'.ownsRow base e size v n xs := by
  refine ⟨h.1, ?_⟩
  rcases h.2 with hn | ⟨g, cap, cur, rfl, h1, hg, rest⟩
  · exact .inl hn
  · refine .inr ⟨g, cap, cur, rfl, h1, ?_, rest⟩
    rw [hb.block g (Nat.lt_of_lt_of_le (Array.getElem?_eq_some_iff.1 hg).1 hB)]
    exact hg

theorem own_base {w : World} {base base' e size n : Nat} {v : Value} {xs : List Value} (h : w.ownsRow base e size v n xs) (hb : base' ≤ base) : w.ownsRow base' e size v n xs := by
  refine ⟨h.1, ?_⟩
  rcases h.2 with hn | ⟨g, cap, cur, rfl, h1, rest⟩
  · exact .inl hn
  · exact .inr ⟨g, cap, cur, rfl, Nat.le_trans hb h1, rest⟩

/-! ### An array of the call's own, known whole. -/
def Arr (w : World) (b : Nat) (e : TypeId) (l : List Value) : Prop := w.heap[b]? = some (.cells l.toArray e (0, 0))

theorem Arr.lt {w : World} {b : Nat} {e : TypeId} {l : List Value} (h : Arr w b e l) : b < w.heap.size := (Array.getElem?_eq_some_iff.1 h).1
theorem Arr.cell {w : World} {b : Nat} {e : TypeId} {l : List Value} (h : Arr w b e l) {i : Nat} {v : Value} (hi : l[i]? = some v) : w.cell? ⟨b, i, none⟩ = some v := by
  rw [cell_of_row w b i _ e (0, 0) h]; simpa using hi
theorem Arr.free {w : World} {b : Nat} {e : TypeId} {l : List Value} (h : Arr w b e l) (i : Nat) : w.frozen? ⟨b, i, none⟩ = false := frozen_of_row w b i _ e h
theorem Arr.set {w : World} {b : Nat} {e : TypeId} {l : List Value} (h : Arr w b e l) (i : Nat) (v : Value) : Arr (w.setCell ⟨b, i, none⟩ v) b e (l.set i v) := by
  unfold Arr
  rw [heap_setCell_same w b i _ e v h]; simp
theorem Arr.other {w : World} {b : Nat} {e : TypeId} {l : List Value} (h : Arr w b e l) (p : Addr) (hp : p.block ≠ b) (v : Value) : Arr (w.setCell p v) b e l := by
  unfold Arr
  rw [heap_setCell_other w p b v (fun e => hp e.symm)]; exact h
theorem Arr.below {w w' : World} {B b : Nat} {e : TypeId} {l : List Value} (h : Arr w b e l) (hb : Below B w w') (hB : b < B) : Arr w' b e l := by
  unfold Arr; rw [hb.block b hB]; exact h
theorem Arr.alloc {w : World} {b : Nat} {e : TypeId} {l : List Value} (h : Arr w b e l) (o : Obj) : Arr (w.alloc o) b e l := by
  unfold Arr; rw [Below.heap_alloc w o b h.lt]; exact h
theorem Arr.drewN {w : World} {b : Nat} {e : TypeId} {l : List Value} (h : Arr w b e l) (n : Nat) : Arr (w.drewN n) b e l := h
theorem Arr.grown {w w' : World} {b : Nat} {e : TypeId} {l : List Value} {row : Option Nat} (h : Arr w b e l) (hg : w.grownBy w' row) (hne : some b ≠ row) : Arr w' b e l := by
  unfold Arr; rw [hg.block b h.lt hne]; exact h
theorem Arr.new (w : World) (e : TypeId) (l : List Value) : Arr (w.alloc (.cells l.toArray e)) w.heap.size e l := heap_alloc_new w _

/-- The cells of n integers, by a function of the place. -/
def tab (n : Nat) (f : Nat → Int) : List Value := (List.range n).map (fun d => Value.int .i64 (f d))
theorem tab_get (n : Nat) (f : Nat → Int) (i : Nat) (h : i < n) : (tab n f)[i]? = some (.int .i64 (f i)) := by simp [tab, h]
theorem tab_set (n : Nat) (f f' : Nat → Int) (i : Nat) (v : Int) (h : ∀ d, d < n → f' d = if d = i then v else f d) : (tab n f).set i (.int .i64 v) = tab n f' := by
  apply List.ext_getElem?
  intro j
  by_cases hj : j < n
  · by_cases hij : i = j
    · subst hij; simp [tab, hj, h i hj]
    · rw [List.getElem?_set_ne hij, tab_get n f j hj, tab_get n f' j hj, h j hj, if_neg (fun e => hij e.symm)]
  · rw [List.getElem?_eq_none (by simp [tab]; omega), List.getElem?_eq_none (by simp [tab]; omega)]

/-! ### Append of one element of one cell. -/
structure ElT (P : Program) (t e : TypeId) (bytes : Nat) (z : Value) : Prop where
  under : P.underlying t = some (.slice e)
  info : ∃ i, P.info? e = some i ∧ i.zero = some z ∧ i.size = 1 ∧ i.bytes = bytes
  cells : z.cells = #[z]
  pos : 1 ≤ bytes

theorem ElT.mk' {P : Program} {t e : TypeId} {bytes : Nat} {z : Value} (h : (P.info? e).map (fun i => (i.zero, i.size, i.bytes)) = some (some z, 1, bytes)) (hu : P.underlying t = some (.slice e)) (hc : z.cells = #[z]) (hb : 1 ≤ bytes) : ElT P t e bytes z := by
  obtain ⟨i0, hi, hz0, hz1, hz2⟩ := info_parts h
  exact ⟨hu, ⟨i0, hi, hz0, hz1, hz2⟩, hc, hb⟩

theorem own_grown {w w' : World} {base e size n : Nat} {v : Value} {xs : List Value} (hown : w.ownsRow base e size v n xs) (hg : w.grownBy w' v.ownBlock) (hb : base ≤ w.heap.size) : Below base w w' :=
  (Below.refl base w).grown hg hb (fun k hk => (hown.lt k hk).1)

theorem app1 {P : Program} {ops : Array Oper} {rest : List Oper} {o : Oper} {a : Act} {Q : Exit → Act → World → Prop} {w : World} {t e bytes : Nat} {z : Value} (E : ElT P t e bytes z) (hgd : o.guard = none) (s x : Operand)
    (ho : o.op = .call { callee := .builtin .append, args := #[s, x], argTypes := #[t, t] }) (base : Nat) (v : Value) (n : Nat) (xs : List Value) (hs : a.eval s = v) (hown : w.ownsRow base e 1 v n xs)
    (g : Nat) (u : Value) (hx : a.eval x = .slice (some ⟨g, 0, none⟩) 1 1) (hc : w.cell? ⟨g, 0, none⟩ = some u) (h1 : u.oneCell' = true) (hroom : (n + 1) * bytes ≤ 140737488355328) (hbase : base ≤ w.heap.size)
    (h : ∀ v' w', w'.ownsRow base e 1 v' (n + 1) (xs ++ [u]) → Below base w w' → w.grownBy w' v.ownBlock → wpList P ops Q rest (a.put o.dst v') w') : wpList P ops Q (o :: rest) a w := by
  obtain ⟨i, hi, hz, h2, h3⟩ := E.info
  have h4 : z.cells.size = 1 := by rw [E.cells]; rfl
  have hpos := E.pos
  have hn : n + 1 ≤ 140737488355328 := Nat.le_trans (Nat.le_mul_of_pos_right _ hpos) hroom
  refine wpList_append_own w hgd s x t ho base e i z 1 bytes E.under hi hz h2 h3 h4 (by decide) v n xs hs hown ⟨g, 0, none⟩ 1 1 [u] hx rfl ?_ (by simpa using h1) (by simp only [maxLen]; omega) hroom hbase (fun v' w' q1 q2 _ => h v' w' q1 (own_grown hown q2 hbase) q2)
  intro j u' hj
  cases j with
  | zero => simp at hj; subst hj; simpa [Addr.add] using hc
  | succ j => simp at hj

/-- A row of one-cell elements that the call owns. -/
def Ow (w : World) (B : Nat) (e : TypeId) (v : Value) (xs : List Value) : Prop := w.ownsRow B e 1 v xs.length xs

theorem Ow.nil (w : World) (B : Nat) (e : TypeId) : Ow w B e (.slice none 0 0) [] := World.ownsRow_nil _ _ _ _
theorem Ow.alloc {w : World} {B : Nat} {e : TypeId} {v : Value} {xs : List Value} (h : Ow w B e v xs) (o : Obj) : Ow (w.alloc o) B e v xs := World.ownsRow.alloc h o
theorem Ow.below {w w' : World} {B C : Nat} {e : TypeId} {v : Value} {xs : List Value} (h : Ow w B e v xs) (hb : Below C w w') (hC : w.heap.size ≤ C) : Ow w' B e v xs := own_below h hb hC
theorem Ow.base {w : World} {B B' : Nat} {e : TypeId} {v : Value} {xs : List Value} (h : Ow w B e v xs) (hb : B' ≤ B) : Ow w B' e v xs := own_base h hb
theorem Ow.rd {w : World} {B : Nat} {e : TypeId} {v : Value} {xs : List Value} (h : Ow w B e v xs) : Rd w v xs.length xs := Rd.of_own h
theorem Ow.drewN {w : World} {B : Nat} {e : TypeId} {v : Value} {xs : List Value} (h : Ow w B e v xs) (n : Nat) : Ow (w.drewN n) B e v xs := h
theorem Ow.kept {w w' : World} {B : Nat} {e : TypeId} {v : Value} {xs : List Value} {row : Option Nat} (h : Ow w B e v xs) (hg : w.grownBy w' row) (hne : v.ownBlock = none ∨ v.ownBlock ≠ row) : Ow w' B e v xs := World.ownsRow.kept h hg hne
theorem Ow.lt {w : World} {B : Nat} {e : TypeId} {v : Value} {xs : List Value} (h : Ow w B e v xs) : ∀ k, v.ownBlock = some k → B ≤ k ∧ k < w.heap.size := World.ownsRow.lt h

theorem appO {P : Program} {ops : Array Oper} {rest : List Oper} {o : Oper} {a : Act} {Q : Exit → Act → World → Prop} {w : World} {t e bytes : Nat} {z : Value} (E : ElT P t e bytes z) (hgd : o.guard = none) (s x : Operand)
    (ho : o.op = .call { callee := .builtin .append, args := #[s, x], argTypes := #[t, t] }) (base : Nat) (v : Value) (xs : List Value) (hs : a.eval s = v) (hown : Ow w base e v xs)
    (g : Nat) (u : Value) (hx : a.eval x = .slice (some ⟨g, 0, none⟩) 1 1) (hc : w.cell? ⟨g, 0, none⟩ = some u) (h1 : u.oneCell' = true) (hroom : (xs.length + 1) * bytes ≤ 140737488355328) (hbase : base ≤ w.heap.size)
    (h : ∀ v' w', Ow w' base e v' (xs ++ [u]) → Below base w w' → w.grownBy w' v.ownBlock → wpList P ops Q rest (a.put o.dst v') w') : wpList P ops Q (o :: rest) a w :=
  app1 E hgd s x ho base v xs.length xs hs hown g u hx hc h1 hroom hbase (fun v' w' q1 q2 q3 => h v' w' (by unfold Ow; rw [List.length_append]; exact q1) q2 q3)

/-- Integers of the kind int in a row that the call owns. -/
def OwI (w : World) (B : Nat) (v : Value) (l : List Int) : Prop := Ow w B 3 v (l.map (Value.int .i64))
theorem OwI.nil (w : World) (B : Nat) : OwI w B (.slice none 0 0) [] := Ow.nil _ _ _
theorem OwI.alloc {w : World} {B : Nat} {v : Value} {l : List Int} (h : OwI w B v l) (o : Obj) : OwI (w.alloc o) B v l := Ow.alloc h o
theorem OwI.below {w w' : World} {B C : Nat} {v : Value} {l : List Int} (h : OwI w B v l) (hb : Below C w w') (hC : w.heap.size ≤ C) : OwI w' B v l := Ow.below h hb hC
theorem OwI.base {w : World} {B B' : Nat} {v : Value} {l : List Int} (h : OwI w B v l) (hb : B' ≤ B) : OwI w B' v l := Ow.base h hb
theorem OwI.rd {w : World} {B : Nat} {v : Value} {l : List Int} (h : OwI w B v l) : RdI w v l := by
  unfold RdI; have := Ow.rd h; rwa [List.length_map] at this

theorem elInt : ElT Tryz.prog 23 3 8 (.int .i64 0) := ElT.mk' (by kernel_rfl) Tryz.underlying23 rfl (by decide)

theorem appI {ops : Array Oper} {rest : List Oper} {o : Oper} {a : Act} {Q : Exit → Act → World → Prop} {w : World} (hgd : o.guard = none) (s x : Operand)
    (ho : o.op = .call { callee := .builtin .append, args := #[s, x], argTypes := #[23, 23] }) (base : Nat) (v : Value) (l : List Int) (hs : a.eval s = v) (hown : OwI w base v l)
    (g : Nat) (n : Int) (hx : a.eval x = .slice (some ⟨g, 0, none⟩) 1 1) (hc : w.cell? ⟨g, 0, none⟩ = some (.int .i64 n)) (hroom : (l.length + 1) * 8 ≤ 140737488355328) (hbase : base ≤ w.heap.size)
    (h : ∀ v' w', OwI w' base v' (l ++ [n]) → Below base w w' → w.grownBy w' v.ownBlock → wpList Tryz.prog ops Q rest (a.put o.dst v') w') : wpList Tryz.prog ops Q (o :: rest) a w :=
  appO elInt hgd s x ho base v _ hs hown g _ hx hc rfl (by simpa using hroom) hbase (fun v' w' q1 q2 q3 => h v' w' (by unfold OwI; rw [List.map_append]; exact q1) q2 q3)

theorem byteAt (s : ByteArray) (j : Nat) (h : j < s.size) : s.data.toList[j]? = some s[j] := by
  rw [List.getElem?_eq_getElem (by simpa using h)]; rfl

/-- A row of so many noughts. -/
def zeros (z : Value) (n : Nat) : Array Value := (List.replicate n z).toArray
theorem Arr.made (w : World) (e : TypeId) (z : Value) (n : Nat) : Arr (w.alloc (.cells (zeros z n) e)) w.heap.size e (List.replicate n z) := heap_alloc_new w _

theorem mkA {P : Program} {ops : Array Oper} {rest : List Oper} {o : Oper} {a : Act} {Q : Exit → Act → World → Prop} {w : World} {t e bytes : Nat} {z : Value} (E : ElT P t e bytes z) (hgd : o.guard = none) (l c : Operand)
    (ho : o.op = .makeSlice t l c) (n : Nat) (hl : a.eval l = .int .i64 (n : Int)) (hc : a.eval c = .int .i64 (n : Int)) (hroom : n * bytes ≤ 140737488355328)
    (h : wpList P ops Q rest (a.put o.dst (.slice (some ⟨w.heap.size, 0, none⟩) n n)) (w.alloc (.cells (zeros z n) e))) : wpList P ops Q (o :: rest) a w := by
  refine wpList_plain hgd fun K hK' => ?_
  obtain ⟨i, hi, hz, h2, h3⟩ := E.info
  have hpos := E.pos
  have hn : n ≤ 140737488355328 := Nat.le_trans (Nat.le_mul_of_pos_right _ hpos) hroom
  have hb : (i.bytes : Int) * (n : Int) ≤ 281474976710656 := by
    rw [h3, ← Int.natCast_mul, Nat.mul_comm]; omega
  have hrun := run_make (P := P) w t e i z E.under hi hz .i64 .i64 (n : Int) (n : Int) (by omega) (Int.le_refl _) hb (by omega)
  rw [h2, Nat.mul_one, Int.toNat_natCast, E.cells, show madeCells #[z] n = zeros z n from by rw [zeros, ← toList_madeCells_one]] at hrun
  unfold Oper.wp
  simp [execOp, ho, hl, hc, hrun, Result.andThen]
  exact hK' _ _ h

theorem tab_zero (n : Nat) : List.replicate n (Value.int .i64 0) = tab n (fun _ => 0) := by
  apply List.ext_getElem?
  intro j
  by_cases hj : j < n <;> simp [tab, hj]

/-- An array of the call's own, handed on as a slice of all of it. -/
theorem Arr.own {w : World} {b B : Nat} {e : TypeId} {l : List Value} (h : Arr w b e l) (hB : B ≤ b) (hl : l.length ≤ maxLen) : Ow w B e (.slice (some ⟨b, 0, none⟩) l.length l.length) l :=
  ⟨by simp, .inr ⟨b, l.length, l.toArray, rfl, hB, h, Nat.le_refl _, hl, by simp, by simp⟩⟩

/-! ### A body with one label to which it goes back: the relation bears a number, which every jump lowers. -/
theorem wp_scope_ghost {P : Program} {a : Act} {w : World} {Q : Exit → Act → World → Prop} {c T : Code} (l : Nat) (J : Nat → Act → World → Prop) (hf : findLabel c l = some (Code.skip.seq T))
    (pass : ∀ g a w, J g a w → T.wp P (Exit.jump l (fun a' w' => ∃ g', g' < g ∧ J g' a' w') Q) a w)
    (first : Hid (∀ g a w, J g a w → T.wp P (Exit.jump l (fun a w => ∃ g, J g a w) Q) a w) → c.wp P (Exit.jump l (fun a w => ∃ g, J g a w) Q) a w) : (Code.scope c).wp P Q a w := by
  refine wp_scope_jumps l (fun a w => ∃ g, J g a w) (fun a w => leastOf (fun g => J g a w)) hf (first (hid fun g a w hJ => Code.wp_mono ?_ (pass g a w hJ))) (fun a w h => ?_)
  · intro e a' w' hq
    cases e with
    | goto l' =>
      obtain ⟨rfl, g', _, hJ⟩ := hq
      exact ⟨rfl, g', hJ⟩
    | _ => exact hq
  · apply wp_seq_k
    intro K hK
    apply wp_skip
    refine hK _ _ (Code.wp_mono ?_ (pass _ a w (leastOf_spec h).1))
    intro e a' w' hq
    cases e with
    | goto l' =>
      obtain ⟨rfl, g', hg', hJ⟩ := hq
      exact ⟨rfl, ⟨g', hJ⟩, Nat.lt_of_le_of_lt ((leastOf_spec ⟨g', hJ⟩).2 _ hJ) hg'⟩
    | _ => exact hq

/-! ### Bytes. -/
def mkS (l : List UInt8) : ByteArray := ⟨l.toArray⟩
@[simp] theorem mkS_toList (l : List UInt8) : (mkS l).data.toList = l := rfl
@[simp] theorem mkS_size (l : List UInt8) : (mkS l).size = l.length := by simp [mkS, ByteArray.size]
theorem mkS_of (s : ByteArray) : mkS s.data.toList = s := by cases s; simp [mkS]
theorem eq_mkS {s : ByteArray} {l : List UInt8} (h : s.data.toList = l) : s = mkS l := by rw [← h, mkS_of]
theorem mkS_append (l m : List UInt8) : mkS l ++ mkS m = mkS (l ++ m) := eq_mkS (by simp)
theorem mkS_inj {l m : List UInt8} (h : mkS l = mkS m) : l = m := by have := congrArg (fun s => s.data.toList) h; simpa using this
def bytesV (l : List UInt8) : List Value := l.map (fun b => Value.int .u8 (b.toNat : Int))
@[simp] theorem bytesV_length (l : List UInt8) : (bytesV l).length = l.length := by simp [bytesV]
theorem bytesV_append (l m : List UInt8) : bytesV (l ++ m) = bytesV l ++ bytesV m := by simp [bytesV]
theorem bytesV_get {l : List UInt8} {k : Nat} {b : UInt8} (h : l[k]? = some b) : (bytesV l)[k]? = some (.int .u8 (b.toNat : Int)) := by simp [bytesV, h]
theorem bytesV_set (l : List UInt8) (k : Nat) (b : UInt8) : (bytesV l).set k (.int .u8 (b.toNat : Int)) = bytesV (l.set k b) := by simp [bytesV, List.map_set]
def RdB (w : World) (v : Value) (l : List UInt8) : Prop := Rd w v l.length (bytesV l)
def OwB (w : World) (B : Nat) (v : Value) (l : List UInt8) : Prop := Ow w B 5 v (bytesV l)
theorem OwB.rd {w : World} {B : Nat} {v : Value} {l : List UInt8} (h : OwB w B v l) : RdB w v l := by
  unfold RdB; have := Ow.rd h; rwa [bytesV_length] at this

theorem conv_bytes {w : World} {v : Value} {l : List UInt8} (h : RdB w v l) : (convert 49 9 v).run Tryz.prog w = .ok (.string (mkS l)) w := by
  obtain ⟨a, cap, rfl, h1, h2, h3⟩ := h
  have key : ∀ (l : List UInt8), strOfNums (l.map (fun b => (b.toNat : Int))) = mkS l := fun l => by
    simp [strOfNums, mkS, List.map_map, Function.comp_def]
  rcases h3 with h3 | ⟨b, off, rfl, hlt, hc⟩
  · have hl : l = [] := by cases l with | nil => rfl | cons x l => simp [bytesV] at h3
    subst hl
    cases a with
    | none => exact run_convert_bytes_nil w _ _ Tryz.underlying49 Tryz.underlying5 0 cap _ Tryz.underlying9
    | some a =>
      rw [run_convert_bytes_string w _ _ _ _ _ _ Tryz.underlying49 Tryz.underlying5 Tryz.underlying9]
      rw [run_bytesToString w a _ cap [] (by simpa using run_loadCells_list (P := Tryz.prog) w a [] (fun j u hj => by simp at hj))]
      rfl
  · rw [run_convert_bytes_arg w _ _ Tryz.underlying49 Tryz.underlying5 b off l.length cap (l.map (fun b => (b.toNat : Int))) (by simp) (fun i hi => by
      rw [hc i (by simpa using hi)]
      simp [bytesV, hi]) _ Tryz.underlying9, key]

theorem elByte : ElT Tryz.prog 49 5 1 (.int .u8 0) := ElT.mk' (by kernel_rfl) Tryz.underlying49 rfl (by decide)

theorem Arr.rdB {w : World} {b : Nat} {e : TypeId} {l : List UInt8} {n : Nat} (h : Arr w b e (bytesV l)) (hn : l.length = n) (hl : n ≤ maxLen) : RdB w (.slice (some ⟨b, 0, none⟩) n n) l := by
  subst hn
  have := (h.own (B := 0) (Nat.zero_le _) (by simpa using hl)).rd
  unfold RdB; simpa using this

theorem ext_data (s : ByteArray) (a b : Nat) : s.extract a b = mkS ((s.data.toList.drop a).take (b - a)) := eq_mkS (Lib.extract_data s a b)
theorem ext_one (s : ByteArray) (q : Nat) (h : q < s.size) : s.extract q (q + 1) = mkS [s.data.toList.getD q 0] := by
  rw [ext_data, show q + 1 - q = 1 by omega]
  have hq : q < s.data.toList.length := by simpa using h
  rw [List.drop_eq_getElem_cons hq]
  simp [List.getD, List.getElem?_eq_getElem hq]

/-! ### A row that is filled from its beginning on. -/
def fill {α : Type} (n : Nat) (z : α) (l : List α) : List α := l ++ List.replicate (n - l.length) z
theorem fill_nil {α : Type} (n : Nat) (z : α) : fill n z [] = List.replicate n z := by simp [fill]
theorem fill_full {α : Type} (n : Nat) (z : α) (l : List α) (h : n ≤ l.length) : fill n z l = l := by simp [fill, Nat.sub_eq_zero_of_le h]
theorem fill_length {α : Type} (n : Nat) (z : α) (l : List α) (h : l.length ≤ n) : (fill n z l).length = n := by simp [fill]; omega
theorem fill_set {α : Type} (n : Nat) (z x : α) (l : List α) (h : l.length < n) : (fill n z l).set l.length x = fill n z (l ++ [x]) := by
  obtain ⟨m, hm⟩ : ∃ m, n - l.length = m + 1 := ⟨n - l.length - 1, by omega⟩
  have hm' : n - (l ++ [x]).length = m := by simp; omega
  simp only [fill, hm, hm', List.replicate_succ]
  simp
theorem fill_lt {α : Type} (n : Nat) (z : α) (l : List α) (k : Nat) (h : k < n) (hl : l.length ≤ n) : ∃ x, (fill n z l)[k]? = some x :=
  ⟨_, List.getElem?_eq_getElem (by rw [fill_length n z l hl]; exact h)⟩

theorem newc (w : World) (x : Value) (t : TypeId) : (w.alloc (.cells #[x] t)).cell? ⟨w.heap.size, 0, none⟩ = some x := by
  rw [World.cell?_alloc_at _ _ _ _ rfl]; rfl

/-- What a proof's shell says of a slice of integers that came in. -/
theorem rdI_of_row {w : World} {a : Option Addr} {len cap : Nat} {zs : List Int}
    (h : (a = none ∧ len = 0 ∧ cap = 0 ∧ zs = []) ∨ ∃ x, a = some x ∧ len ≤ cap ∧ cap ≤ maxLen ∧ zs.length = cap ∧ (∀ i, i < zs.length → w.cell? (x.add i) = some (.int .i64 (zs.getD i 0))) ∧ ∀ n ∈ zs, (Lit.int .i64 n).wf = true) :
    RdI w (.slice a len cap) (zs.take len) ∧ WfI (zs.take len) := by
  rcases h with ⟨rfl, rfl, rfl, rfl⟩ | ⟨⟨b, off, spot⟩, rfl, hl, hm, hz, hc, hw⟩
  · exact ⟨⟨none, 0, rfl, Nat.le_refl _, by simp [maxLen], .inl rfl⟩, by intro x hx; simp at hx⟩
  · have hlen : (zs.take len).length = len := by simp; omega
    refine ⟨⟨some ⟨b, off, spot⟩, cap, by rw [hlen], by rw [hlen]; exact hl, hm, ?_⟩, fun x hx => ?_⟩
    · rcases Nat.eq_zero_or_pos len with h0 | h0
      · left; subst h0; simp
      · right
        have h1 := hc 0 (by omega)
        have hsp : spot = none := by simpa [Addr.add] using World.cell?_spot h1
        subst hsp
        refine ⟨b, off, rfl, World.block_lt_of_cell? w _ h1, fun j hj => ?_⟩
        have hj' : j < len := by rw [List.length_map, hlen] at hj; exact hj
        have h2 := hc j (by omega)
        have e : (⟨b, off, none⟩ : Addr).add j = ⟨b, off + j, none⟩ := by unfold Addr.add; split <;> simp_all
        rw [e] at h2
        rw [h2]
        have hjz : j < zs.length := by omega
        simp [List.getD, hj', hjz]
    · have := hw x (List.mem_of_mem_take hx)
      simp [Lit.wf, IntKind.min, IntKind.max, IntKind.signed, IntKind.bits] at this
      omega

/-- A slice that a literal lays. -/
theorem rd_lit (w : World) (e : TypeId) (xs : List Value) (n : Nat) (hn : xs.length = n) (hm : n ≤ maxLen) : Rd (w.alloc (.cells xs.toArray e)) (.slice (some ⟨w.heap.size, 0, none⟩) n n) n xs := by
  subst hn
  exact ((Arr.new w e xs).own (B := 0) (Nat.zero_le _) hm).rd

theorem ret_int {k : IntKind} {a b : Int} (h : a = b) : Ending.returned (.int k a) = .returned (.int k b) := by rw [h]
theorem ret_bool {a b : Bool} (h : a = b) : Ending.returned (.bool a) = .returned (.bool b) := by rw [h]
theorem ret_str {a b : ByteArray} (h : a = b) : Ending.returned (.string a) = .returned (.string b) := by rw [h]

end Go.Proofs.YthjmpiekjfnoiaaGreatDoor

/-
  What the statements' walks share: the comparison of two lists, which of so many things a raw number speaks of, a row of two texts.
-/
namespace Go.Proofs.YthjmpiekjfnoiaaGreatDoor
open Go.RowKit

theorem belT {a b c : World} (h : Below a.heap.size a b) (k : Below b.heap.size b c) : Below a.heap.size a c := h.trans (k.mono h.size)
theorem belA {a b : World} (h : Below a.heap.size a b) (o : Obj) : Below a.heap.size a (b.alloc o) := h.alloc h.size o

theorem take_eq_succ {l m : List Int} {k : Nat} {x y : Int} (h : l.take k = m.take k) (hl : l[k]? = some x) (hm : m[k]? = some y) (he : x = y) : l.take (k + 1) = m.take (k + 1) := by
  rw [List.take_add_one, List.take_add_one, h, hl, hm, he]

set_option maxHeartbeats 400000 in
theorem ints_any (va vb : Value) (la lb : List Int) (w : World) (ha : RdI w va la) (hb : RdI w vb lb) :
    Calls Tryz.prog 32 #[va, vb] w fun e w' => e = .returned (.bool (la == lb)) ∧ Below w.heap.size w w' := by
  obtain ⟨a, ca, rfl, hca, hma, hA⟩ := ha.open
  obtain ⟨b, cb, rfl, hcb, hmb, hB⟩ := hb.open
  clear ha hb
  unfold maxLen at hma hmb
  by_cases hl : la.length = lb.length
  case neg =>
    have hne : la ≠ lb := fun e => hl (by rw [e])
    have hd : ((la.length : Int) != (lb.length : Int)) = true := by rw [bne_iff_ne]; omega
    go_enter Tryz.func32, Tryz.ntmps32
    go_wp2
    go_ret
    exact ⟨ret_bool (by rw [beq_eq_false_iff_ne.2 hne]), Below.refl _ _⟩
  case pos =>
    have hd : ((la.length : Int) != (lb.length : Int)) = false := by rw [bne_eq_false_iff_eq]; omega
    have HL := hid hl
    have hle : la.length ≤ lb.length := by omega
    have hle' : lb.length ≤ la.length := by omega
    clear hl
    go_enter Tryz.func32, Tryz.ntmps32
    go_wp2
    go_loopw [5] (fun i wr => ∃ k : Nat, k ≤ la.length ∧ i = .int .i64 k ∧ Hid (la.take k = lb.take k) ∧ Below w.heap.size w wr) (fun i _ => la.length - (intOf i).toNat)
    case atStart => exact ⟨0, Nat.zero_le _, rfl, hid rfl, Below.refl _ _⟩
    case round =>
      obtain ⟨k, hk, rfl, HT, hbel⟩ := hrel
      by_cases hlt : k < la.length
      · obtain ⟨b1, o1, rfl, hb1, hc1⟩ := hA (by omega)
        obtain ⟨b2, o2, rfl, hb2, hc2⟩ := hB (by omega)
        obtain ⟨x, hx⟩ := getI hlt
        obtain ⟨y, hy⟩ := getI (l := lb) (k := k) (by omega)
        have c1 : wr.cell? ⟨b1, o1 + k, none⟩ = some (.int .i64 x) := by rw [hbel.cell (p := ⟨b1, o1 + k, none⟩) hb1]; exact hc1 k _ hx
        have c2 : wr.cell? ⟨b2, o2 + k, none⟩ = some (.int .i64 y) := by rw [hbel.cell (p := ⟨b2, o2 + k, none⟩) hb2]; exact hc2 k _ hy
        have HX := hid hx; have HY := hid hy
        clear hc1 hc2 hA hB hx hy
        go_wp2
        go_quiet (fail)
        go_wp2
        · have h : (x != y) = true := by assumption
          go_ret
          refine ⟨ret_bool ?_, below_drewN hbel _⟩
          have h' : x ≠ y := by simpa using h
          rw [eq_comm, beq_eq_false_iff_ne]
          intro e
          have := HX.out
          rw [e, HY.out] at this
          exact h' (by simpa using this.symm)
        · have h : (x != y) = false := by assumption
          go_roundw
          case rel => exact ⟨k + 1, by omega, by go_num, hid (take_eq_succ HT.out HX.out HY.out (by simpa using h)), below_drewN hbel _⟩
          case measure => simp [intOf]; omega
      · go_wp2
        go_ret
        exact ⟨ret_bool (by
          have e := HT.out
          rw [List.take_of_length_le (by omega), List.take_of_length_le (by omega)] at e
          simp [e]), hbel⟩

def Pick (c n : Int) : Int := (if c < 0 then -(c + 1) else c) % n
theorem Pick_bd (c n : Int) (h : 1 ≤ n) : 0 ≤ Pick c n ∧ Pick c n < n := ⟨Int.emod_nonneg _ (by omega), Int.emod_lt_of_pos _ (by omega)⟩

theorem ints_same (va vb : Value) (l : List Int) (w : World) (ha : RdI w va l) (hb : RdI w vb l) :
    Calls Tryz.prog 32 #[va, vb] w fun e w' => e = .returned (.bool true) ∧ Below w.heap.size w w' :=
  (ints_any va vb l l w ha hb).mono fun e w' ⟨h1, h2⟩ => ⟨by rw [h1]; exact ret_bool (by simp), h2⟩

theorem ne_empty {t : ByteArray} (h : t.toList.isEmpty = false) : 1 ≤ t.size := by
  rcases Nat.eq_zero_or_pos t.size with h' | h'
  · exfalso
    have : t.data.toList = [] := List.length_eq_zero_iff.1 (by simpa using h')
    rw [ByteArray.toList_eq, this] at h
    cases h
  · exact h'

theorem i64_of_wf {n : Int} (h : (Lit.int .i64 n).wf = true) : -9223372036854775808 ≤ n ∧ n ≤ 9223372036854775807 := by
  simp [Lit.wf, IntKind.min, IntKind.max, IntKind.signed, IntKind.bits] at h
  omega

theorem minOf (n : Nat) (k : Int) (hk : 0 ≤ k) : ∃ m : Nat, (if k < (n : Int) then k else (n : Int)) = (m : Int) ∧ (m : Int) ≤ k ∧ m ≤ n := by
  by_cases h : k < (n : Int)
  · obtain ⟨m, rfl⟩ := Int.eq_ofNat_of_zero_le hk
    exact ⟨m, by rw [if_pos h], Int.le_refl _, by omega⟩
  · exact ⟨n, by rw [if_neg h], by omega, Nat.le_refl _⟩

/-- The row of two texts that a statement goes through. -/
def Pair (w wx : World) (v : Value) (m1 m2 : Nat) : Prop := ∃ (b : Nat) (t0 t1 : ByteArray), v = .slice (some ⟨b, 0, none⟩) 2 2 ∧ Arr wx b 9 [.string t0, .string t1] ∧ t0.size ≤ m1 ∧ t1.size ≤ m2 ∧ Below w.heap.size w wx ∧ w.heap.size ≤ b

theorem pick_nat (x n : Nat) : Pick ((x : Nat) : Int) (n : Int) = ((x % n : Nat) : Int) := by
  unfold Pick
  rw [if_neg (by omega), Int.natCast_emod]
theorem pick_sum (x y n : Nat) : Pick ((x : Int) + (y : Int)) (n : Int) = (((x + y) % n : Nat) : Int) := by
  rw [← Int.natCast_add, pick_nat]

end Go.Proofs.YthjmpiekjfnoiaaGreatDoor

/-
  Plain mathematics of the chapters 5, 6 and 7: alphabets, places told by how long ago a byte came, rows of noughts as digits. No program is in sight.
-/
namespace Go.Proofs.YthjmpiekjfnoiaaGreatDoor

/-! ### Which one of a list is the first that meets a test. -/
def idxP (p : Int → Bool) : List Int → Int
  | [] => -1
  | x :: l => if p x then 0 else if idxP p l < 0 then -1 else idxP p l + 1
theorem idxP_ge (p : Int → Bool) : ∀ l, -1 ≤ idxP p l ∧ idxP p l < (l.length : Int) ∧ (idxP p l < 0 ↔ ∀ x ∈ l, p x = false) := by
  intro l
  induction l with
  | nil => simp [idxP]
  | cons x l ih =>
    unfold idxP
    obtain ⟨h1, h2, h3⟩ := ih
    by_cases hx : p x = true
    · rw [if_pos hx]
      refine ⟨by omega, by rw [List.length_cons]; omega, ?_⟩
      constructor
      · intro h; omega
      · intro h; have := h x (by simp); rw [hx] at this; exact Bool.noConfusion this
    · rw [if_neg hx]
      have hx' : p x = false := by simpa using hx
      by_cases h : idxP p l < 0
      · rw [if_pos h, List.length_cons]
        refine ⟨by omega, by omega, ?_⟩
        constructor
        · intro _ y hy
          rcases List.mem_cons.1 hy with rfl | hy
          · exact hx'
          · exact h3.1 h y hy
        · intro _; omega
      · rw [if_neg h, List.length_cons]
        refine ⟨by omega, by omega, ?_⟩
        constructor
        · intro _; omega
        · intro h'
          have : ∀ y ∈ l, p y = false := fun y hy => h' y (List.mem_cons_of_mem _ hy)
          have := h3.2 this; omega
/-- The first k do not meet it; the k-th does. -/
theorem idxP_at {p : Int → Bool} : ∀ {l : List Int} {k : Nat}, (∀ x ∈ l.take k, p x = false) → (hk : k < l.length) → p l[k] = true → idxP p l = (k : Int) := by
  intro l
  induction l with
  | nil => intro k _ hk; simp at hk
  | cons x l ih =>
    intro k h hk hp
    unfold idxP
    cases k with
    | zero => rw [if_pos (by simpa using hp)]; rfl
    | succ k =>
      have hx := h x (by simp)
      rw [if_neg (by rw [hx]; exact Bool.false_ne_true)]
      have e := ih (k := k) (fun y hy => h y (by simp [hy])) (by simpa using hk) (by simpa using hp)
      rw [e, if_neg (by omega)]; omega
theorem idxP_none {p : Int → Bool} {l : List Int} (h : ∀ x ∈ l, p x = false) : idxP p l = -1 := by
  obtain ⟨h1, _, h3⟩ := idxP_ge p l
  have := h3.2 h; omega

/-! ### Alphabets. -/
def hasB (s : List UInt8) (c : Nat) : Bool := s.any (fun b => b.toNat == c)
theorem hasB_iff (s : List UInt8) (b : UInt8) : hasB s b.toNat = true ↔ b ∈ s := by
  unfold hasB
  rw [List.any_eq_true]
  constructor
  · rintro ⟨x, hx, h⟩
    rw [beq_iff_eq, UInt8.toNat_inj] at h
    rw [← h]; exact hx
  · intro h; exact ⟨b, h, by simp⟩
def alphTo (s : List UInt8) (m : Nat) : List UInt8 := ((List.range m).filter (hasB s)).map UInt8.ofNat
def alph (s : List UInt8) : List UInt8 := alphTo s 256
theorem alphTo_succ (s : List UInt8) (m : Nat) : alphTo s (m + 1) = alphTo s m ++ if hasB s m then [UInt8.ofNat m] else [] := by
  unfold alphTo
  rw [List.range_succ, List.filter_append, List.map_append]
  congr 1
  by_cases h : hasB s m = true
  · simp [h]
  · simp [h]
theorem alphTo_length (s : List UInt8) (m : Nat) : (alphTo s m).length ≤ m := by
  unfold alphTo
  rw [List.length_map]
  have := List.length_filter_le (hasB s) (List.range m)
  simpa using this
theorem mem_alph (s : List UInt8) (b : UInt8) : b ∈ alph s ↔ b ∈ s := by
  unfold alph alphTo
  rw [List.mem_map]
  constructor
  · rintro ⟨c, hc, rfl⟩
    rw [List.mem_filter, List.mem_range] at hc
    have e : (UInt8.ofNat c).toNat = c := by rw [UInt8.toNat_ofNat']; omega
    rw [← hasB_iff, e]; exact hc.2
  · intro h
    refine ⟨b.toNat, ?_, by simp⟩
    rw [List.mem_filter, List.mem_range]
    exact ⟨b.toNat_lt, (hasB_iff s b).2 h⟩
theorem alph_nodup (s : List UInt8) : (alph s).Nodup := by
  unfold alph alphTo List.Nodup
  rw [List.pairwise_map]
  refine List.Pairwise.imp_of_mem ?_ (List.pairwise_lt_range.sublist List.filter_sublist)
  intro a b ha hb hab e
  have ha' := List.mem_range.1 (List.mem_filter.1 ha).1
  have hb' := List.mem_range.1 (List.mem_filter.1 hb).1
  have := congrArg UInt8.toNat e
  rw [UInt8.toNat_ofNat', UInt8.toNat_ofNat'] at this
  omega
theorem alph_congr {s t : List UInt8} (h : ∀ b, b ∈ s ↔ b ∈ t) : alph s = alph t := by
  have e : hasB s = hasB t := by
    funext c
    unfold hasB
    rw [Bool.eq_iff_iff, List.any_eq_true, List.any_eq_true]
    exact ⟨fun ⟨x, h1, h2⟩ => ⟨x, (h x).1 h1, h2⟩, fun ⟨x, h1, h2⟩ => ⟨x, (h x).2 h1, h2⟩⟩
  unfold alph alphTo
  rw [e]
theorem alph_idem (s : List UInt8) : alph (alph s) = alph s := alph_congr (fun b => mem_alph s b)
theorem alph_perm {s t : List UInt8} (h : s.Perm t) : alph s = alph t := alph_congr (fun _ => h.mem_iff)
theorem alph_nil : alph [] = [] := by decide +kernel
theorem alph_ne {s : List UInt8} (h : s ≠ []) : alph s ≠ [] := by
  cases s with
  | nil => exact absurd rfl h
  | cons b s =>
    intro e
    have := (mem_alph (b :: s) b).2 (by simp)
    rw [e] at this; simp at this

/-! ### Places told by how long ago a byte came. -/
def toFront (a : List UInt8) (i : Nat) : List UInt8 := (a.drop i).take 1 ++ a.take i ++ a.drop (i + 1)
theorem toFront_perm (a : List UInt8) (i : Nat) : (toFront a i).Perm a := by
  unfold toFront
  have e : a = a.take i ++ ((a.drop i).take 1 ++ a.drop (i + 1)) := by
    have h1 : (a.drop i).drop 1 = a.drop (i + 1) := by rw [List.drop_drop]
    rw [← h1, List.take_append_drop, List.take_append_drop]
  have h2 : ((a.drop i).take 1 ++ a.take i ++ a.drop (i + 1)).Perm (a.take i ++ ((a.drop i).take 1 ++ a.drop (i + 1))) := by
    rw [← List.append_assoc]
    exact List.Perm.append_right _ List.perm_append_comm
  rw [← e] at h2
  exact h2
theorem toFront_length (a : List UInt8) (i : Nat) : (toFront a i).length = a.length := (toFront_perm a i).length_eq
theorem toFront_nodup {a : List UInt8} (h : a.Nodup) (i : Nat) : (toFront a i).Nodup := (toFront_perm a i).nodup_iff.2 h

/-- The first place of a byte; the length, if it is not there. -/
def plc (a : List UInt8) (c : UInt8) : Nat := a.findIdx (fun b => b == c)
theorem plc_le (a : List UInt8) (c : UInt8) : plc a c ≤ a.length := List.findIdx_le_length
theorem plc_lt {a : List UInt8} {c : UInt8} (h : c ∈ a) : plc a c < a.length := List.findIdx_lt_length_of_exists ⟨c, h, by simp⟩
theorem plc_get {a : List UInt8} {c : UInt8} (h : c ∈ a) : a[plc a c]? = some c := by
  have hl := plc_lt h
  have h2 := List.findIdx_getElem (p := fun b => b == c) (w := hl)
  rw [List.getElem?_eq_getElem hl]
  have h3 : (a[plc a c] == c) = true := h2
  rw [beq_iff_eq] at h3
  rw [h3]
theorem plc_min {a : List UInt8} {c : UInt8} {i : Nat} (h : i < plc a c) (hl : i < a.length) : a[i] ≠ c := by
  have := List.not_of_lt_findIdx h
  intro e
  rw [e] at this
  simp at this
theorem plc_of {a : List UInt8} {c : UInt8} {i : Nat} (hi : i < a.length) (h : a[i] = c) (hm : ∀ j, (hj : j < i) → a[j]'(by omega) ≠ c) : plc a c = i := by
  have hmem : c ∈ a := by rw [← h]; exact List.getElem_mem hi
  rcases Nat.lt_trichotomy (plc a c) i with p | p | p
  · have := plc_get hmem
    have hl := plc_lt hmem
    rw [List.getElem?_eq_getElem hl] at this
    exact absurd (Option.some.inj this) (hm _ p)
  · exact p
  · exact absurd h (plc_min p hi)
theorem plc_nodup {a : List UInt8} (hn : a.Nodup) {i : Nat} (hi : i < a.length) : plc a a[i] = i := by
  refine plc_of hi rfl (fun j hj e => ?_)
  exact List.pairwise_iff_getElem.1 hn j i (by omega) hi hj e

def mtfL : List UInt8 → List UInt8 → List Int
  | _, [] => []
  | a, c :: s => ((plc a c : Nat) : Int) :: mtfL (toFront a (plc a c)) s
def mtfA : List UInt8 → List UInt8 → List UInt8
  | a, [] => a
  | a, c :: s => mtfA (toFront a (plc a c)) s
theorem mtfL_length : ∀ (s a : List UInt8), (mtfL a s).length = s.length := by
  intro s
  induction s with
  | nil => intro a; rfl
  | cons c s ih => intro a; simp [mtfL, ih]
theorem mtfA_perm : ∀ (s a : List UInt8), (mtfA a s).Perm a := by
  intro s
  induction s with
  | nil => intro a; exact List.Perm.refl _
  | cons c s ih => intro a; exact (ih _).trans (toFront_perm a _)
theorem mtfL_snoc (c : UInt8) : ∀ (s a : List UInt8), mtfL a (s ++ [c]) = mtfL a s ++ [((plc (mtfA a s) c : Nat) : Int)] := by
  intro s
  induction s with
  | nil => intro a; rfl
  | cons d s ih => intro a; simp only [List.cons_append, mtfL, mtfA, ih]
theorem mtfA_snoc (c : UInt8) : ∀ (s a : List UInt8), mtfA a (s ++ [c]) = toFront (mtfA a s) (plc (mtfA a s) c) := by
  intro s
  induction s with
  | nil => intro a; rfl
  | cons d s ih => intro a; simp only [List.cons_append, mtfA, ih]
theorem mtfL_range : ∀ (s a : List UInt8), (∀ b ∈ s, b ∈ a) → ∀ x ∈ mtfL a s, 0 ≤ x ∧ x < (a.length : Int) := by
  intro s
  induction s with
  | nil => intro a _ x hx; simp [mtfL] at hx
  | cons c s ih =>
    intro a h x hx
    rw [mtfL, List.mem_cons] at hx
    rcases hx with rfl | hx
    · have := plc_lt (h c (by simp)); omega
    · have := ih (toFront a (plc a c)) (fun b hb => (toFront_perm a _).mem_iff.2 (h b (by simp [hb]))) x hx
      rwa [toFront_length] at this

def unL : List UInt8 → List Int → List UInt8
  | _, [] => []
  | a, i :: l => a.getD i.toNat 0 :: unL (toFront a i.toNat) l
def unA : List UInt8 → List Int → List UInt8
  | a, [] => a
  | a, i :: l => unA (toFront a i.toNat) l
theorem unL_length : ∀ (l : List Int) (a : List UInt8), (unL a l).length = l.length := by
  intro l
  induction l with
  | nil => intro a; rfl
  | cons c l ih => intro a; simp [unL, ih]
theorem unA_perm : ∀ (l : List Int) (a : List UInt8), (unA a l).Perm a := by
  intro l
  induction l with
  | nil => intro a; exact List.Perm.refl _
  | cons c l ih => intro a; exact (ih _).trans (toFront_perm a _)
theorem unL_snoc (i : Int) : ∀ (l : List Int) (a : List UInt8), unL a (l ++ [i]) = unL a l ++ [(unA a l).getD i.toNat 0] := by
  intro l
  induction l with
  | nil => intro a; rfl
  | cons d l ih => intro a; simp only [List.cons_append, unL, unA, ih]
theorem unA_snoc (i : Int) : ∀ (l : List Int) (a : List UInt8), unA a (l ++ [i]) = toFront (unA a l) i.toNat := by
  intro l
  induction l with
  | nil => intro a; rfl
  | cons d l ih => intro a; simp only [List.cons_append, unA, ih]
/-- Back undoes Front. -/
theorem unL_mtfL : ∀ (s a : List UInt8), (∀ b ∈ s, b ∈ a) → unL a (mtfL a s) = s := by
  intro s
  induction s with
  | nil => intro a _; rfl
  | cons c s ih =>
    intro a h
    have hc := plc_get (h c (by simp))
    simp only [mtfL, unL, Int.toNat_natCast]
    rw [List.getD, hc, ih _ (fun b hb => (toFront_perm a _).mem_iff.2 (h b (by simp [hb])))]; rfl
theorem unL_mem : ∀ (l : List Int) (a : List UInt8), (∀ x ∈ l, 0 ≤ x ∧ x < (a.length : Int)) → ∀ b ∈ unL a l, b ∈ a := by
  intro l
  induction l with
  | nil => intro a _ b hb; simp [unL] at hb
  | cons i l ih =>
    intro a h b hb
    rw [unL, List.mem_cons] at hb
    rcases hb with rfl | hb
    · have := h i (by simp)
      rw [List.getD, List.getElem?_eq_getElem (by omega)]
      exact List.getElem_mem _
    · exact (toFront_perm a _).mem_iff.1 (ih _ (fun x hx => by rw [toFront_length]; exact h x (by simp [hx])) b hb)

/-! ### Rows of noughts as digits. -/
def digF : Nat → Nat → List Int
  | 0, _ => []
  | f + 1, n => if n = 0 then [] else (if n % 2 = 1 then 0 else 1) :: digF f ((n - 1) / 2)
def dig (n : Nat) : List Int := digF n n
theorem digF_more : ∀ (f n g : Nat), n ≤ f → n ≤ g → digF f n = digF g n := by
  intro f
  induction f with
  | zero =>
    intro n g h1 h2
    have : n = 0 := by omega
    subst this
    cases g with
    | zero => rfl
    | succ g => simp [digF]
  | succ f ih =>
    intro n g h1 h2
    cases g with
    | zero =>
      have : n = 0 := by omega
      subst this; simp [digF]
    | succ g =>
      unfold digF
      by_cases h0 : n = 0
      · rw [if_pos h0, if_pos h0]
      · rw [if_neg h0, if_neg h0, ih ((n - 1) / 2) g (by omega) (by omega)]
theorem dig_zero : dig 0 = [] := rfl
theorem dig_pos {n : Nat} (h : 0 < n) : dig n = (if n % 2 = 1 then 0 else 1) :: dig ((n - 1) / 2) := by
  unfold dig
  obtain ⟨m, rfl⟩ : ∃ m, n = m + 1 := ⟨n - 1, by omega⟩
  rw [digF, if_neg (by omega), digF_more m ((m + 1 - 1) / 2) ((m + 1 - 1) / 2) (by omega) (Nat.le_refl _)]
theorem dig_bit : ∀ (n : Nat), ∀ x ∈ dig n, x = 0 ∨ x = 1 := by
  intro n
  induction n using Nat.strongRecOn with
  | ind n ih =>
    intro x hx
    rcases Nat.eq_zero_or_pos n with h | h
    · subst h; simp [dig_zero] at hx
    · rw [dig_pos h, List.mem_cons] at hx
      rcases hx with rfl | hx
      · split
        · exact .inl rfl
        · exact .inr rfl
      · exact ih _ (by omega) x hx
theorem dig_length : ∀ (n : Nat), (dig n).length ≤ n ∧ (0 < n → 0 < (dig n).length) := by
  intro n
  induction n using Nat.strongRecOn with
  | ind n ih =>
    rcases Nat.eq_zero_or_pos n with h | h
    · subst h; simp [dig_zero]
    · rw [dig_pos h, List.length_cons]
      have := (ih ((n - 1) / 2) (by omega)).1
      omega

/-- The number of some digits. -/
def num : List Int → Nat
  | [] => 0
  | d :: l => (d.toNat + 1) + 2 * num l
theorem num_dig : ∀ n, num (dig n) = n := by
  intro n
  induction n using Nat.strongRecOn with
  | ind n ih =>
    rcases Nat.eq_zero_or_pos n with h | h
    · subst h; rfl
    · rw [dig_pos h, num, ih _ (by omega)]
      split
      · simp; omega
      · simp; omega
theorem num_ge : ∀ l : List Int, 2 ^ l.length ≤ num l + 1 := by
  intro l
  induction l with
  | nil => simp [num]
  | cons d l ih => rw [num, List.length_cons, Nat.pow_succ]; omega

/-- Rows of noughts told as digits: k noughts are ahead. -/
def zenc : Nat → List Int → List Int
  | k, [] => dig k
  | k, x :: l => if x = 0 then zenc (k + 1) l else dig k ++ (x + 1) :: zenc 0 l
/-- Without: n noughts are ahead, the next digit has the weight p. -/
def zx : Nat → Nat → List Int → List Int
  | n, _, [] => List.replicate n 0
  | n, p, x :: l => if x < 2 then zx (n + p * (x.toNat + 1)) (2 * p) l else List.replicate n 0 ++ (x - 1) :: zx 0 1 l
def zexp (m : List Int) : List Int := zx 0 1 m
theorem zx_run : ∀ (r : List Int) (n p : Nat) (l : List Int), (∀ x ∈ r, x < 2) → zx n p (r ++ l) = zx (n + p * num r) (p * 2 ^ r.length) l := by
  intro r
  induction r with
  | nil => intro n p l _; simp [num]
  | cons d r ih =>
    intro n p l h
    rw [List.cons_append, zx, if_pos (h d (by simp)), ih _ _ _ (fun x hx => h x (by simp [hx])), num, List.length_cons, Nat.pow_succ]
    have e1 : n + p * (d.toNat + 1) + 2 * p * num r = n + p * (d.toNat + 1 + 2 * num r) := by
      rw [Nat.mul_add p (d.toNat + 1), Nat.mul_left_comm p 2, Nat.mul_assoc 2 p]; omega
    have e2 : 2 * p * 2 ^ r.length = p * (2 ^ r.length * 2) := by
      rw [Nat.mul_comm 2 p, Nat.mul_assoc, Nat.mul_comm 2]
    rw [e1, e2]
theorem zx_end (n p : Nat) : zx n p [] = List.replicate n 0 := rfl
theorem zx_sym {n p : Nat} {x : Int} {l : List Int} (h : ¬ x < 2) : zx n p (x :: l) = List.replicate n 0 ++ (x - 1) :: zexp l := by
  rw [zx, if_neg h]; rfl
theorem zexp_zenc : ∀ (l : List Int) (k : Nat), (∀ x ∈ l, 0 ≤ x) → zexp (zenc k l) = List.replicate k 0 ++ l := by
  intro l
  induction l with
  | nil =>
    intro k _
    have := zx_run (dig k) 0 1 [] (fun x hx => by rcases dig_bit k x hx with h | h <;> omega)
    rw [List.append_nil] at this
    rw [zenc, zexp, this, zx_end, num_dig]; simp
  | cons x l ih =>
    intro k h
    rw [zenc]
    by_cases hx : x = 0
    · rw [if_pos hx, ih (k + 1) (fun y hy => h y (by simp [hy])), hx]
      rw [List.replicate_succ', List.append_assoc]; rfl
    · have hx0 := h x (by simp)
      rw [if_neg hx, zexp, zx_run _ _ _ _ (fun y hy => by rcases dig_bit k y hy with h | h <;> omega), zx_sym (by omega), ih 0 (fun y hy => h y (by simp [hy])), num_dig]
      simp
theorem zenc_length : ∀ (l : List Int) (k : Nat), (zenc k l).length ≤ k + l.length ∧ (0 < k + l.length → 0 < (zenc k l).length) := by
  intro l
  induction l with
  | nil => intro k; simpa [zenc] using dig_length k
  | cons x l ih =>
    intro k
    rw [zenc]
    by_cases hx : x = 0
    · rw [if_pos hx]
      have := ih (k + 1)
      rw [List.length_cons]; omega
    · rw [if_neg hx, List.length_append, List.length_cons, List.length_cons]
      have h1 := (dig_length k).1
      have h2 := (ih 0).1
      omega
theorem zenc_mem : ∀ (l : List Int) (k : Nat), (∀ x ∈ l, 0 ≤ x) → ∀ y ∈ zenc k l, y = 0 ∨ y = 1 ∨ ∃ x ∈ l, y = x + 1 ∧ x ≠ 0 := by
  intro l
  induction l with
  | nil => intro k _ y hy; rcases dig_bit k y hy with h | h; exact .inl h; exact .inr (.inl h)
  | cons x l ih =>
    intro k h y hy
    rw [zenc] at hy
    have lift : ∀ k, y ∈ zenc k l → y = 0 ∨ y = 1 ∨ ∃ z ∈ x :: l, y = z + 1 ∧ z ≠ 0 := by
      intro k hy
      rcases ih k (fun z hz => h z (by simp [hz])) y hy with q | q | ⟨z, hz, q⟩
      · exact .inl q
      · exact .inr (.inl q)
      · exact .inr (.inr ⟨z, by simp [hz], q⟩)
    by_cases hx : x = 0
    · rw [if_pos hx] at hy; exact lift _ hy
    · rw [if_neg hx, List.mem_append, List.mem_cons] at hy
      rcases hy with hy | rfl | hy
      · rcases dig_bit k y hy with h | h
        · exact .inl h
        · exact .inr (.inl h)
      · exact .inr (.inr ⟨x, by simp, rfl, hx⟩)
      · exact lift _ hy

end Go.Proofs.YthjmpiekjfnoiaaGreatDoor

/-
  Plain mathematics of a stable sort: swaps, rotations, merges, on functions of the place. No program is in sight.
-/
namespace Go.Proofs.YthjmpiekjfnoiaaGreatDoor

def setF (f : Nat → Int) (i : Nat) (x : Int) : Nat → Int := fun k => if k = i then x else f k
/-- The blocks of n from a on and from b on, exchanged, the first t of each. -/
def swapF (f : Nat → Int) (a b t : Nat) : Nat → Int := fun k => if a ≤ k ∧ k < a + t then f (k - a + b) else if b ≤ k ∧ k < b + t then f (k - b + a) else f k
/-- The blocks from a to m and from m to b, exchanged. -/
def rotF (f : Nat → Int) (a m b : Nat) : Nat → Int := fun k => if a ≤ k ∧ k < a + (b - m) then f (k + (m - a)) else if a + (b - m) ≤ k ∧ k < b then f (k - (b - m)) else f k

theorem swapF_zero (f : Nat → Int) (a b : Nat) : swapF f a b 0 = f := by
  funext k; unfold swapF; rw [if_neg (by omega), if_neg (by omega)]

theorem swapF_succ (f : Nat → Int) (a b t : Nat) (h : a + t < b) : swapF f a b (t + 1) = setF (setF (swapF f a b t) (a + t) (swapF f a b t (b + t))) (b + t) (swapF f a b t (a + t)) := by
  have e1 : swapF f a b t (b + t) = f (b + t) := by unfold swapF; rw [if_neg (by omega), if_neg (by omega)]
  have e2 : swapF f a b t (a + t) = f (a + t) := by unfold swapF; rw [if_neg (by omega), if_neg (by omega)]
  rw [e1, e2]
  funext k
  unfold setF
  by_cases h1 : k = b + t
  · subst h1; rw [if_pos rfl]; unfold swapF; rw [if_neg (by omega), if_pos (by omega)]; congr 1; omega
  · rw [if_neg h1]
    by_cases h2 : k = a + t
    · subst h2; rw [if_pos rfl]; unfold swapF; rw [if_pos (by omega)]; congr 1; omega
    · rw [if_neg h2]
      unfold swapF
      by_cases h3 : a ≤ k ∧ k < a + t
      · rw [if_pos h3, if_pos (by omega)]
      · rw [if_neg h3, if_neg (by omega)]
        by_cases h4 : b ≤ k ∧ k < b + t
        · rw [if_pos h4, if_pos (by omega)]
        · rw [if_neg h4, if_neg (by omega)]

theorem rot_eq (f : Nat → Int) (m i : Nat) (h : i ≤ m) : rotF f (m - i) m (m + i) = swapF f (m - i) m i := by
  funext k
  unfold rotF swapF
  rw [show m + i - m = i by omega, show m - (m - i) = i by omega]
  by_cases h1 : m - i ≤ k ∧ k < m - i + i
  · rw [if_pos h1, if_pos h1]; congr 1; omega
  · rw [if_neg h1, if_neg h1]
    by_cases h2 : m ≤ k ∧ k < m + i
    · rw [if_pos (by omega), if_pos h2]; congr 1; omega
    · rw [if_neg (by omega), if_neg h2]

theorem rot_gt (f : Nat → Int) (m i j : Nat) (h : i ≤ m) (hij : j < i) (_hj : 0 < j) : rotF f (m - i) m (m + j) = rotF (swapF f (m - i) m j) (m - (i - j)) m (m + j) := by
  funext k
  unfold rotF
  rw [show m + j - m = j by omega, show m - (m - i) = i by omega, show m - (m - (i - j)) = i - j by omega]
  by_cases h1 : m - i ≤ k ∧ k < m - i + j
  · rw [if_pos h1, if_neg (by omega), if_neg (by omega)]
    unfold swapF; rw [if_pos h1]; congr 1; omega
  · rw [if_neg h1]
    by_cases h2 : m - i + j ≤ k ∧ k < m + j
    · rw [if_pos h2]
      by_cases h3 : m - (i - j) ≤ k ∧ k < m - (i - j) + j
      · rw [if_pos h3]
        unfold swapF
        rw [if_neg (by omega), if_pos (by omega)]; congr 1; omega
      · rw [if_neg h3, if_pos (by omega)]
        unfold swapF
        rw [if_neg (by omega), if_neg (by omega)]
    · rw [if_neg h2, if_neg (by omega), if_neg (by omega)]
      unfold swapF
      rw [if_neg (by omega), if_neg (by omega)]

theorem rot_lt (f : Nat → Int) (m i j : Nat) (h : i ≤ m) (hij : i < j) (_hi : 0 < i) : rotF f (m - i) m (m + j) = rotF (swapF f (m - i) (m + j - i) i) (m - i) m (m + (j - i)) := by
  funext k
  unfold rotF
  rw [show m + j - m = j by omega, show m - (m - i) = i by omega, show m + (j - i) - m = j - i by omega]
  by_cases h1 : m - i ≤ k ∧ k < m - i + j
  · rw [if_pos h1]
    by_cases h3 : m - i ≤ k ∧ k < m - i + (j - i)
    · rw [if_pos h3]
      unfold swapF
      rw [if_neg (by omega), if_neg (by omega)]
    · rw [if_neg h3, if_pos (by omega)]
      unfold swapF
      rw [if_pos (by omega)]; congr 1; omega
  · rw [if_neg h1]
    by_cases h2 : m - i + j ≤ k ∧ k < m + j
    · rw [if_pos h2, if_neg (by omega), if_neg (by omega)]
      unfold swapF
      rw [if_neg (by omega), if_pos (by omega)]; congr 1; omega
    · rw [if_neg h2, if_neg (by omega), if_neg (by omega)]
      unfold swapF
      rw [if_neg (by omega), if_neg (by omega)]

/-- Within a to b what is there was there; elsewhere all is as it was. -/
def FromOn (a b : Nat) (f g : Nat → Int) : Prop := (∀ k, a ≤ k → k < b → ∃ k', a ≤ k' ∧ k' < b ∧ g k = f k') ∧ (∀ k, ¬ (a ≤ k ∧ k < b) → g k = f k)
theorem FromOn.refl (a b : Nat) (f : Nat → Int) : FromOn a b f f := ⟨fun k h1 h2 => ⟨k, h1, h2, rfl⟩, fun _ _ => rfl⟩
theorem FromOn.trans {a b : Nat} {f g h : Nat → Int} (p : FromOn a b f g) (q : FromOn a b g h) : FromOn a b f h :=
  ⟨fun k h1 h2 => by
    obtain ⟨k', h3, h4, h5⟩ := q.1 k h1 h2
    obtain ⟨k'', h6, h7, h8⟩ := p.1 k' h3 h4
    exact ⟨k'', h6, h7, by rw [h5, h8]⟩, fun k hk => by rw [q.2 k hk, p.2 k hk]⟩
theorem FromOn.wide {a b a' b' : Nat} {f g : Nat → Int} (p : FromOn a b f g) (ha : a' ≤ a) (hb : b ≤ b') : FromOn a' b' f g :=
  ⟨fun k h1 h2 => by
    by_cases h : a ≤ k ∧ k < b
    · obtain ⟨k', h3, h4, h5⟩ := p.1 k h.1 h.2; exact ⟨k', by omega, by omega, h5⟩
    · exact ⟨k, h1, h2, p.2 k h⟩, fun k hk => p.2 k (by omega)⟩
theorem FromOn.rot (f : Nat → Int) (a m b : Nat) (h1 : a ≤ m) (h2 : m ≤ b) : FromOn a b f (rotF f a m b) := by
  refine ⟨fun k h3 h4 => ?_, fun k hk => ?_⟩
  · unfold rotF
    by_cases h5 : a ≤ k ∧ k < a + (b - m)
    · rw [if_pos h5]; exact ⟨k + (m - a), by omega, by omega, rfl⟩
    · rw [if_neg h5, if_pos (by omega)]; exact ⟨k - (b - m), by omega, by omega, rfl⟩
  · unfold rotF; rw [if_neg (by omega), if_neg (by omega)]
theorem FromOn.swap1 (f : Nat → Int) (a b i j : Nat) (hi : a ≤ i ∧ i < b) (hj : a ≤ j ∧ j < b) : FromOn a b f (setF (setF f i (f j)) j (f i)) := by
  refine ⟨fun k h1 h2 => ?_, fun k hk => ?_⟩
  · unfold setF
    by_cases e1 : k = j
    · rw [if_pos e1]; exact ⟨i, hi.1, hi.2, rfl⟩
    · rw [if_neg e1]
      by_cases e2 : k = i
      · rw [if_pos e2]; exact ⟨j, hj.1, hj.2, rfl⟩
      · rw [if_neg e2]; exact ⟨k, h1, h2, rfl⟩
  · unfold setF; rw [if_neg (by omega), if_neg (by omega)]

section
variable (lt : Int → Int → Prop)

def SortedOn (f : Nat → Int) (a b : Nat) : Prop := ∀ i j, a ≤ i → i < j → j < b → lt (f i) (f j)

structure Strict : Prop where
  tr : ∀ x y z, lt x y → lt y z → lt x z
  tot : ∀ x y, x ≠ y → lt x y ∨ lt y x
  irr : ∀ x, ¬ lt x x

variable {lt}

theorem SortedOn.mono {f : Nat → Int} {a b a' b' : Nat} (h : SortedOn lt f a b) (ha : a ≤ a') (hb : b' ≤ b) : SortedOn lt f a' b' :=
  fun i j h1 h2 h3 => h i j (by omega) h2 (by omega)
theorem SortedOn.congr {f g : Nat → Int} {a b : Nat} (h : SortedOn lt f a b) (e : ∀ k, a ≤ k → k < b → g k = f k) : SortedOn lt g a b :=
  fun i j h1 h2 h3 => by rw [e i h1 (by omega), e j (by omega) h3]; exact h i j h1 h2 h3
theorem SortedOn.tiny (f : Nat → Int) (a b : Nat) (h : b ≤ a + 1) : SortedOn lt f a b := fun i j h1 h2 h3 => by omega
theorem SortedOn.join {f : Nat → Int} {a m b : Nat} (h1 : SortedOn lt f a m) (h2 : SortedOn lt f m b) (hx : ∀ i j, a ≤ i → i < m → m ≤ j → j < b → lt (f i) (f j)) : SortedOn lt f a b := by
  intro i j p q r
  rcases Nat.lt_or_ge i m with hi | hi
  · rcases Nat.lt_or_ge j m with hj | hj
    · exact h1 i j p q hj
    · exact hx i j p hi hj r
  · exact h2 i j hi q r

/-- The pre of a merge: both parts are sorted; whatever stands in the first one is a lesser number than whatever stands in the second one. -/
structure MergePre (lt : Int → Int → Prop) (f : Nat → Int) (a m b : Nat) : Prop where
  am : a < m
  mb : m < b
  s1 : SortedOn lt f a m
  s2 : SortedOn lt f m b
  ne : ∀ i j, a ≤ i → i < m → m ≤ j → j < b → f i < f j

/-- What a merge leaves. -/
structure Merged (lt : Int → Int → Prop) (f g : Nat → Int) (a b : Nat) : Prop where
  frm : FromOn a b f g
  srt : SortedOn lt g a b

/-- One byte ahead of the others, put where it belongs. -/
theorem merge_left {f : Nat → Int} {a b i : Nat} (P : MergePre lt f a (a + 1) b) (hi1 : a + 1 ≤ i) (hi2 : i ≤ b)
    (h1 : ∀ k, a + 1 ≤ k → k < i → lt (f k) (f a)) (h2 : ∀ k, i ≤ k → k < b → lt (f a) (f k)) : Merged lt f (rotF f a (a + 1) i) a b := by
  refine ⟨(FromOn.rot f a (a + 1) i (by omega) hi1).wide (Nat.le_refl _) hi2, ?_⟩
  have e : ∀ k, rotF f a (a + 1) i k = if a ≤ k ∧ k < i - 1 then f (k + 1) else if k = i - 1 then f a else f k := by
    intro k
    unfold rotF
    by_cases p1 : a ≤ k ∧ k < i - 1
    · rw [if_pos (by omega), if_pos p1]; congr 1; omega
    · rw [if_neg (by omega), if_neg p1]
      by_cases p2 : k = i - 1
      · rw [if_pos (by omega), if_pos p2]; congr 1; omega
      · rw [if_neg (by omega), if_neg p2]
  intro p q hp hpq hq
  rw [e p, e q]
  by_cases c1 : a ≤ p ∧ p < i - 1
  · rw [if_pos c1]
    by_cases c2 : a ≤ q ∧ q < i - 1
    · rw [if_pos c2]; exact P.s2 _ _ (by omega) (by omega) (by omega)
    · rw [if_neg c2]
      by_cases c3 : q = i - 1
      · rw [if_pos c3]; exact h1 _ (by omega) (by omega)
      · rw [if_neg c3]; exact P.s2 _ _ (by omega) (by omega) (by omega)
  · rw [if_neg c1]
    by_cases c2 : p = i - 1
    · rw [if_pos c2, if_neg (by omega), if_neg (by omega)]; exact h2 _ (by omega) hq
    · rw [if_neg c2, if_neg (by omega), if_neg (by omega)]; exact P.s2 _ _ (by omega) hpq hq

/-- One byte behind the others, put where it belongs. -/
theorem merge_right {f : Nat → Int} {a m i : Nat} (P : MergePre lt f a m (m + 1)) (hi1 : a ≤ i) (hi2 : i ≤ m)
    (h1 : ∀ k, a ≤ k → k < i → lt (f k) (f m)) (h2 : ∀ k, i ≤ k → k < m → lt (f m) (f k)) : Merged lt f (rotF f i m (m + 1)) a (m + 1) := by
  refine ⟨(FromOn.rot f i m (m + 1) hi2 (by omega)).wide hi1 (Nat.le_refl _), ?_⟩
  have e : ∀ k, rotF f i m (m + 1) k = if k = i then f m else if i < k ∧ k ≤ m then f (k - 1) else f k := by
    intro k
    unfold rotF
    by_cases p1 : k = i
    · rw [if_pos (by omega), if_pos p1]; congr 1; omega
    · rw [if_neg (by omega), if_neg p1]
      by_cases p2 : i < k ∧ k ≤ m
      · rw [if_pos (by omega), if_pos p2]; congr 1; omega
      · rw [if_neg (by omega), if_neg p2]
  intro p q hp hpq hq
  rw [e p, e q]
  by_cases c1 : p = i
  · rw [if_pos c1, if_neg (by omega), if_pos (by omega)]; exact h2 _ (by omega) (by omega)
  · rw [if_neg c1]
    by_cases c2 : i < p ∧ p ≤ m
    · rw [if_pos c2, if_neg (by omega), if_pos (by omega)]; exact P.s1 _ _ (by omega) (by omega) (by omega)
    · rw [if_neg c2]
      by_cases c3 : q = i
      · rw [if_pos c3]; exact h1 _ hp (by omega)
      · rw [if_neg c3]
        by_cases c4 : i < q ∧ q ≤ m
        · rw [if_pos c4]; exact P.s1 _ _ hp (by omega) (by omega)
        · rw [if_neg c4]; exact P.s1 _ _ hp hpq (by omega)

/-- The cut of a symmetric merge: what it finds. (c < start: the c-th of the first part is less than its partner; from start on it is not.) -/
theorem sym_cut (S : Strict lt) {f : Nat → Int} {a m b mid lo hi start : Nat} (P : MergePre lt f a m b) (hmid : mid = (a + b) / 2)
    (hlh : (mid < m ∧ lo + b = mid + m ∧ hi = mid) ∨ (m ≤ mid ∧ lo = a ∧ hi = m)) (hs1 : lo ≤ start) (hs2 : start ≤ hi)
    (h1 : ∀ c, lo ≤ c → c < start → lt (f c) (f (mid + m - 1 - c))) (h2 : ∀ c, start ≤ c → c < hi → lt (f (mid + m - 1 - c)) (f c)) :
    a ≤ start ∧ start ≤ m ∧ m ≤ mid + m - start ∧ mid + m - start ≤ b ∧
    (∀ i j, a ≤ i → i < start → mid + m - start ≤ j → j < b → lt (f i) (f j)) ∧
    (∀ i j, m ≤ i → i < mid + m - start → start ≤ j → j < m → lt (f i) (f j)) := by
  have ham := P.am
  have hmb := P.mb
  have b1 : a ≤ start := by omega
  have b2 : start ≤ m := by omega
  have b3 : start ≤ mid := by omega
  have b4 : mid + m - start ≤ b := by omega
  refine ⟨b1, b2, by omega, b4, ?_, ?_⟩
  · intro i j hi1 hi2 hj1 hj2
    -- start > lo, or the second part's rest is empty
    have hlo : lo < start := by omega
    have key := h1 (start - 1) (by omega) (by omega)
    have e : mid + m - 1 - (start - 1) = mid + m - start := by omega
    rw [e] at key
    have k1 : lt (f i) (f (mid + m - start)) := by
      rcases Nat.lt_or_ge i (start - 1) with h | h
      · exact S.tr _ _ _ (P.s1 i (start - 1) hi1 h (by omega)) key
      · have : i = start - 1 := by omega
        subst this; exact key
    rcases Nat.lt_or_ge (mid + m - start) j with h | h
    · exact S.tr _ _ _ k1 (P.s2 _ j (by omega) h hj2)
    · have : j = mid + m - start := by omega
      subst this; exact k1
  · intro i j hi1 hi2 hj1 hj2
    have hhi : start < hi := by omega
    have key := h2 start (by omega) hhi
    have e : mid + m - 1 - start = mid + m - start - 1 := by omega
    rw [e] at key
    have k1 : lt (f i) (f start) := by
      rcases Nat.lt_or_ge i (mid + m - start - 1) with h | h
      · exact S.tr _ _ _ (P.s2 i (mid + m - start - 1) hi1 h (by omega)) key
      · have : i = mid + m - start - 1 := by omega
        subst this; exact key
    rcases Nat.lt_or_ge start j with h | h
    · exact S.tr _ _ _ k1 (P.s1 start j (by omega) h hj2)
    · have : j = start := by omega
      subst this; exact k1

/-- Behind the rotation: each half is two sorted parts, and the first half is less than the second one. -/
theorem sym_rot {f : Nat → Int} {a m b mid start : Nat} (P : MergePre lt f a m b) (hm1 : a ≤ start) (hm2 : start ≤ m) (hm3 : start ≤ mid) (hm4 : mid + m - start ≤ b)
    (h1 : ∀ i j, a ≤ i → i < start → mid + m - start ≤ j → j < b → lt (f i) (f j))
    (h2 : ∀ i j, m ≤ i → i < mid + m - start → start ≤ j → j < m → lt (f i) (f j)) :
    let g := rotF f start m (mid + m - start)
    FromOn a b f g ∧ SortedOn lt g a start ∧ SortedOn lt g start mid ∧ SortedOn lt g mid (mid + m - start) ∧ SortedOn lt g (mid + m - start) b ∧
    (∀ i j, a ≤ i → i < start → start ≤ j → j < mid → g i < g j) ∧ (∀ i j, mid ≤ i → i < mid + m - start → mid + m - start ≤ j → j < b → g i < g j) ∧
    (∀ i j, a ≤ i → i < mid → mid ≤ j → j < b → lt (g i) (g j)) := by
  intro g
  have ham := P.am
  have hmb := P.mb
  have e1 : ∀ k, a ≤ k → k < start → g k = f k := fun k p q => by show rotF _ _ _ _ _ = _; unfold rotF; rw [if_neg (by omega), if_neg (by omega)]
  have e2 : ∀ k, start ≤ k → k < mid → g k = f (k + (m - start)) := fun k p q => by show rotF _ _ _ _ _ = _; unfold rotF; rw [if_pos (by omega)]
  have e3 : ∀ k, mid ≤ k → k < mid + m - start → g k = f (k - (mid - start)) := fun k p q => by
    show rotF _ _ _ _ _ = _; unfold rotF; rw [if_neg (by omega), if_pos (by omega)]; congr 1; omega
  have e4 : ∀ k, mid + m - start ≤ k → k < b → g k = f k := fun k p q => by show rotF _ _ _ _ _ = _; unfold rotF; rw [if_neg (by omega), if_neg (by omega)]
  refine ⟨(FromOn.rot f start m (mid + m - start) hm2 (by omega)).wide hm1 hm4, ?_, ?_, ?_, ?_, ?_, ?_, ?_⟩
  · intro i j p q r; rw [e1 i p (by omega), e1 j (by omega) r]; exact P.s1 i j p q (by omega)
  · intro i j p q r; rw [e2 i p (by omega), e2 j (by omega) r]; exact P.s2 _ _ (by omega) (by omega) (by omega)
  · intro i j p q r; rw [e3 i p (by omega), e3 j (by omega) r]; exact P.s1 _ _ (by omega) (by omega) (by omega)
  · intro i j p q r; rw [e4 i p (by omega), e4 j (by omega) r]; exact P.s2 _ _ (by omega) (by omega) (by omega)
  · intro i j p q r s; rw [e1 i p q, e2 j r s]; exact P.ne _ _ p (by omega) (by omega) (by omega)
  · intro i j p q r s; rw [e3 i p q, e4 j r s]; exact P.ne _ _ (by omega) (by omega) (by omega) s
  · intro i j p q r s
    rcases Nat.lt_or_ge i start with hi | hi
    · rw [e1 i p hi]
      rcases Nat.lt_or_ge j (mid + m - start) with hj | hj
      · rw [e3 j r hj]; exact P.s1 _ _ p (by omega) (by omega)
      · rw [e4 j hj s]; exact h1 _ _ p hi hj s
    · rw [e2 i hi q]
      rcases Nat.lt_or_ge j (mid + m - start) with hj | hj
      · rw [e3 j r hj]; exact h2 _ _ (by omega) (by omega) (by omega) (by omega)
      · rw [e4 j hj s]; exact P.s2 _ _ (by omega) (by omega) s

/-! ### What halving finds. -/
theorem left_yes (S : Strict lt) {f : Nat → Int} {a b h : Nat} (P : MergePre lt f a (a + 1) b) (hh : h < b) (t : lt (f h) (f a)) : ∀ k, a + 1 ≤ k → k < h + 1 → lt (f k) (f a) := by
  intro k h1 h2
  rcases Nat.lt_or_ge k h with h3 | h3
  · exact S.tr _ _ _ (P.s2 k h h1 h3 hh) t
  · have : k = h := by omega
    subst this; exact t
theorem left_no (S : Strict lt) {f : Nat → Int} {a b h : Nat} (P : MergePre lt f a (a + 1) b) (hh1 : a + 1 ≤ h) (hh : h < b) (t : ¬ lt (f h) (f a)) : ∀ k, h ≤ k → k < b → lt (f a) (f k) := by
  have t' : lt (f a) (f h) := (S.tot (f a) (f h) (by have := P.ne a h (by omega) (by omega) hh1 hh; omega)).resolve_right t
  intro k h1 h2
  rcases Nat.lt_or_ge h k with h3 | h3
  · exact S.tr _ _ _ t' (P.s2 h k hh1 h3 h2)
  · have : k = h := by omega
    subst this; exact t'
theorem right_no (S : Strict lt) {f : Nat → Int} {a m h : Nat} (P : MergePre lt f a m (m + 1)) (hh1 : a ≤ h) (hh : h < m) (t : ¬ lt (f m) (f h)) : ∀ k, a ≤ k → k < h + 1 → lt (f k) (f m) := by
  have t' : lt (f h) (f m) := (S.tot (f h) (f m) (by have := P.ne h m hh1 hh (by omega) (by omega); omega)).resolve_right t
  intro k h1 h2
  rcases Nat.lt_or_ge k h with h3 | h3
  · exact S.tr _ _ _ (P.s1 k h h1 h3 hh) t'
  · have : k = h := by omega
    subst this; exact t'
theorem right_yes (S : Strict lt) {f : Nat → Int} {a m h : Nat} (P : MergePre lt f a m (m + 1)) (hh1 : a ≤ h) (t : lt (f m) (f h)) : ∀ k, h ≤ k → k < m → lt (f m) (f k) := by
  intro k h1 h2
  rcases Nat.lt_or_ge h k with h3 | h3
  · exact S.tr _ _ _ t (P.s1 h k hh1 h3 h2)
  · have : k = h := by omega
    subst this; exact t
theorem sym_no (S : Strict lt) {f : Nat → Int} {a m b n c lo : Nat} (P : MergePre lt f a m b) (hc1 : a ≤ lo) (hc0 : lo ≤ c) (hc2 : c < m) (hc3 : m ≤ n - 1 - c) (hc4 : n - 1 - lo < b) (hn : c + 1 ≤ n) (t : ¬ lt (f (n - 1 - c)) (f c)) :
    ∀ k, lo ≤ k → k < c + 1 → lt (f k) (f (n - 1 - k)) := by
  have t' : lt (f c) (f (n - 1 - c)) := (S.tot (f c) (f (n - 1 - c)) (by have := P.ne c (n - 1 - c) (by omega) hc2 hc3 (by omega); omega)).resolve_right t
  intro k h1 h2
  rcases Nat.lt_or_ge k c with h3 | h3
  · exact S.tr _ _ _ (P.s1 k c (by omega) h3 hc2) (S.tr _ _ _ t' (P.s2 (n - 1 - c) (n - 1 - k) hc3 (by omega) (by omega)))
  · have : k = c := by omega
    subst this; exact t'
theorem sym_yes (S : Strict lt) {f : Nat → Int} {a m b n c hi : Nat} (P : MergePre lt f a m b) (hc1 : a ≤ c) (hc2 : c < m) (hc4 : n - 1 - c < b) (hhi : hi ≤ m) (hn : ∀ k, k < hi → m ≤ n - 1 - k) (t : lt (f (n - 1 - c)) (f c)) :
    ∀ k, c ≤ k → k < hi → lt (f (n - 1 - k)) (f k) := by
  intro k h1 h2
  rcases Nat.lt_or_ge c k with h3 | h3
  · have := hn k h2
    rcases Nat.lt_or_ge (n - 1 - k) (n - 1 - c) with h4 | h4
    · exact S.tr _ _ _ (P.s2 (n - 1 - k) (n - 1 - c) this h4 hc4) (S.tr _ _ _ t (P.s1 c k hc1 h3 (by omega)))
    · have e : n - 1 - k = n - 1 - c := by omega
      rw [e]; exact S.tr _ _ _ t (P.s1 c k hc1 h3 (by omega))
  · have : k = c := by omega
    subst this; exact t

/-- A half, merged, and the other one as it was. -/
theorem sym_join {f g h k : Nat → Int} {a mid b : Nat} (h0 : FromOn a b f g) (hm1 : a ≤ mid) (hm2 : mid ≤ b) (m1 : Merged lt g h a mid) (m2 : Merged lt h k mid b)
    (hx : ∀ i j, a ≤ i → i < mid → mid ≤ j → j < b → lt (g i) (g j)) : Merged lt f k a b := by
  refine ⟨h0.trans ((m1.frm.wide (Nat.le_refl _) hm2).trans (m2.frm.wide hm1 (Nat.le_refl _))), ?_⟩
  refine SortedOn.join (m := mid) (m1.srt.congr fun x p q => m2.frm.2 x (by omega)) m2.srt ?_
  intro i j p q r s
  rw [m2.frm.2 i (by omega)]
  obtain ⟨i', p1, p2, p3⟩ := m1.frm.1 i p q
  obtain ⟨j', q1, q2, q3⟩ := m2.frm.1 j r s
  rw [p3, q3, m1.frm.2 j' (by omega)]
  exact hx _ _ p1 p2 q1 q2

end
end Go.Proofs.YthjmpiekjfnoiaaGreatDoor

/-
  The walks of the library's stable sort over a slice of integers, by a function value that compares: swaps of blocks, rotations, merges.
-/
namespace Go.Proofs.YthjmpiekjfnoiaaGreatDoor
open Go.RowKit

/-- Block g begins with the n integers f 0, f 1, ..; it has cap cells. -/
def Dat (w : World) (g cap n : Nat) (f : Nat → Int) : Prop :=
  ∃ cur : Array Value, w.heap[g]? = some (.cells cur 3 (0, 0)) ∧ cur.size = cap ∧ n ≤ cap ∧ ∀ k, k < n → cur[k]? = some (.int .i64 (f k))

theorem Dat.lt {w : World} {g cap n : Nat} {f : Nat → Int} (h : Dat w g cap n f) : g < w.heap.size := by
  obtain ⟨cur, h, _⟩ := h; exact (Array.getElem?_eq_some_iff.1 h).1
theorem Dat.cell {w : World} {g cap n : Nat} {f : Nat → Int} (h : Dat w g cap n f) {k : Nat} (hk : k < n) : w.cell? ⟨g, k, none⟩ = some (.int .i64 (f k)) := by
  obtain ⟨cur, h, _, _, hc⟩ := h
  rw [cell_of_row w g k _ _ (0, 0) h]; exact hc k hk
theorem Dat.free {w : World} {g cap n : Nat} {f : Nat → Int} (h : Dat w g cap n f) (k : Nat) : w.frozen? ⟨g, k, none⟩ = false := by
  obtain ⟨cur, h, _⟩ := h; exact frozen_of_row w g k _ _ h
theorem Dat.set {w : World} {g cap n : Nat} {f : Nat → Int} (h : Dat w g cap n f) (k : Nat) (x : Int) : Dat (w.setCell ⟨g, k, none⟩ (.int .i64 x)) g cap n (setF f k x) := by
  obtain ⟨cur, h, hs, hn, hc⟩ := h
  refine ⟨cur.setIfInBounds k (.int .i64 x), heap_setCell_same w g k _ _ _ h, by simpa using hs, hn, fun j hj => ?_⟩
  unfold setF
  by_cases e : j = k
  · subst e; simp [show j < cur.size by omega]
  · rw [if_neg e, Array.getElem?_setIfInBounds_ne (fun h => e h.symm)]; exact hc j hj
theorem Dat.grown {w w' : World} {g cap n : Nat} {f : Nat → Int} {row : Option Nat} (h : Dat w g cap n f) (hg : w.grownBy w' row) (hne : some g ≠ row) : Dat w' g cap n f := by
  have hl := h.lt
  obtain ⟨cur, h, hr⟩ := h
  exact ⟨cur, by rw [hg.block g hl hne]; exact h, hr⟩
theorem Dat.below {w w' : World} {g cap n B : Nat} {f : Nat → Int} (h : Dat w g cap n f) (hb : Below B w w') (hB : g < B) : Dat w' g cap n f := by
  obtain ⟨cur, h, hr⟩ := h
  exact ⟨cur, by rw [hb.block g hB]; exact h, hr⟩
theorem Dat.congr {w : World} {g cap n : Nat} {f f' : Nat → Int} (h : Dat w g cap n f) (e : ∀ k, k < n → f' k = f k) : Dat w g cap n f' := by
  obtain ⟨cur, h, h1, h2, h3⟩ := h
  exact ⟨cur, h, h1, h2, fun k hk => by rw [e k hk]; exact h3 k hk⟩
theorem Dat.drewN {w : World} {g cap n : Nat} {f : Nat → Int} (h : Dat w g cap n f) (k : Nat) : Dat (w.drewN k) g cap n f := h
theorem Dat.drew {w : World} {g cap n : Nat} {f : Nat → Int} (h : Dat w g cap n f) : Dat w.drew g cap n f := h

theorem gRefl (w : World) (row : Option Nat) : w.grownBy w row := ⟨rfl, rfl, rfl, Nat.le_refl _, fun _ _ _ => rfl⟩
theorem gTrans {a b c : World} {row : Option Nat} (h : a.grownBy b row) (k : b.grownBy c row) : a.grownBy c row :=
  ⟨k.os.trans h.os, k.tape.trans h.tape, k.output.trans h.output, Nat.le_trans h.size k.size, fun i hi hne => (k.block i (Nat.lt_of_lt_of_le hi h.size) hne).trans (h.block i hi hne)⟩
theorem gBelow {a b : World} {row : Option Nat} (h : Below a.heap.size a b) : a.grownBy b row := ⟨h.os, h.tape, h.output, h.size, fun i hi _ => h.block i hi⟩
theorem gSet (a : World) (g k : Nat) (v : Value) : a.grownBy (a.setCell ⟨g, k, none⟩ v) (some g) :=
  ⟨rfl, rfl, rfl, by simp [World.setCell], fun i _ hne => Below.heap_setCell _ _ _ _ (fun e => hne (by rw [e]))⟩
theorem gDrew {a b : World} {row : Option Nat} (h : a.grownBy b row) : a.grownBy b.drew row := ⟨h.os, h.tape, h.output, h.size, h.block⟩
theorem gDrewN {a b : World} {row : Option Nat} (h : a.grownBy b row) (n : Nat) : a.grownBy (b.drewN n) row := ⟨h.os, h.tape, h.output, h.size, h.block⟩
theorem gBelowOf {a b : World} {g B : Nat} (h : a.grownBy b (some g)) (hg : B ≤ g) (hB : B ≤ a.heap.size) : Below B a b :=
  ⟨h.os, h.tape, h.output, h.size, fun i hi => h.block i (by omega) (fun e => by have := Option.some.inj e; omega)⟩

set_option maxRecDepth 100000 in
set_option maxHeartbeats 800000 in
theorem swapRange_any (g cap n a b t : Nat) (f : Nat → Int) (cv : Value) (w : World) (hd : Dat w g cap n f) (hn : n ≤ 1000000) (_hcap : cap ≤ maxLen) (hab : a + t ≤ b) (hbn : b + t ≤ n) :
    Calls Tryz.prog 121 #[.slice (some ⟨g, 0, none⟩) n cap, .int .i64 (a : Int), .int .i64 (b : Int), .int .i64 (t : Int), cv] w fun e w' =>
      e = .returned (.tuple #[]) ∧ Dat w' g cap n (swapF f a b t) ∧ w.grownBy w' (some g) := by
  unfold maxLen at _hcap
  go_enter Tryz.func121, Tryz.ntmps121
  go_wp2
  go_loopg [10] t (fun gh i wr => ∃ k : Nat, k ≤ t ∧ gh = t - k ∧ i = .int .i64 k ∧ Dat wr g cap n (swapF f a b k) ∧ w.grownBy wr (some g))
  case atStart => exact ⟨0, Nat.zero_le _, rfl, rfl, by rw [swapF_zero]; exact hd, gRefl _ _⟩
  case round =>
    obtain ⟨k, hk, hg, rfl, hdat, hgr⟩ := hrel
    have HG := hid hg
    clear hg
    by_cases hlt : k < t
    · have c1 := hdat.cell (k := a + k) (by omega)
      have c2 := hdat.cell (k := b + k) (by omega)
      have f1 := hdat.free (a + k)
      have f2 := hdat.free (b + k)
      have hne : a + k ≠ b + k := by omega
      obtain ⟨x, hx⟩ : ∃ x, x = swapF f a b k (a + k) := ⟨_, rfl⟩
      obtain ⟨y, hy⟩ : ∃ y, y = swapF f a b k (b + k) := ⟨_, rfl⟩
      rw [← hx] at c1
      rw [← hy] at c2
      have HX := hid hx
      have HY := hid hy
      clear hx hy
      go_wp2
      go_region
      all_goals go_wp2
      have hg := HG.out
      go_roundg (t - (k + 1))
      case measure => omega
      case rel =>
        refine ⟨k + 1, by omega, rfl, by go_num, ?_, gDrew (gTrans (gTrans hgr (gSet _ _ _ _)) (gSet _ _ _ _))⟩
        have := (hdat.set (a + k) y).set (b + k) x
        rw [HX.out, HY.out, ← swapF_succ f a b k (by omega)] at this
        rw [HX.out, HY.out]
        exact this.drew
    · have hk' : k = t := by omega
      have HK := hid hk'
      clear hk'
      go_wp2
      go_end0
      exact ⟨rfl, by rw [← HK.out]; exact hdat, hgr⟩

set_option maxRecDepth 100000 in
set_option maxHeartbeats 800000 in
theorem rotate_any (g cap n a m b : Nat) (f : Nat → Int) (cv : Value) (w : World) (hd : Dat w g cap n f) (hn : n ≤ 1000000) (hcap : cap ≤ maxLen) (ham : a < m) (hmb : m < b) (hbn : b ≤ n) :
    Calls Tryz.prog 120 #[.slice (some ⟨g, 0, none⟩) n cap, .int .i64 (a : Int), .int .i64 (m : Int), .int .i64 (b : Int), cv] w fun e w' =>
      e = .returned (.tuple #[]) ∧ Dat w' g cap n (rotF f a m b) ∧ w.grownBy w' (some g) := by
  have hcap' := hcap
  unfold maxLen at hcap'
  go_enter Tryz.func120, Tryz.ntmps120
  go_wp2
  go_loopg [10, 11] (b - a) (fun gh i j wr => ∃ (p q : Nat) (h : Nat → Int), 0 < p ∧ 0 < q ∧ p ≤ m ∧ m + q ≤ n ∧ gh = p + q ∧ i = .int .i64 p ∧ j = .int .i64 q ∧ Dat wr g cap n h ∧ Hid (rotF h (m - p) m (m + q) = rotF f a m b) ∧ w.grownBy wr (some g))
  case atStart =>
    refine ⟨m - a, b - m, f, by omega, by omega, by omega, by omega, by omega, congrArg _ (by omega), congrArg _ (by omega), hd, hid ?_, gRefl _ _⟩
    rw [show m - (m - a) = a by omega, show m + (b - m) = b by omega]
  case round =>
    obtain ⟨p, q, h, hp, hq, hpm, hqn, hg, rfl, rfl, hdat, HR, hgr⟩ := hrel
    have HG := hid hg
    clear hg
    rcases Nat.lt_trichotomy p q with hpq | hpq | hpq
    · have t1 : ((p : Int) != (q : Int)) = true := by rw [bne_iff_ne]; omega
      have t2 : decide (q < p) = false := by simp; omega
      go_wp2_with fail
      rw [show ((m : Int) - (p : Int)) = ((m - p : Nat) : Int) from by omega, show ((m : Int) + (q : Int) - (p : Int)) = ((m + q - p : Nat) : Int) from by omega]
      refine (swapRange_any g cap n _ _ _ h cv _ hdat hn hcap (by omega) (by omega)).mono ?_
      rintro e w1 ⟨rfl, hd1, hg1⟩
      go_wp2
      have hg := HG.out
      go_roundg (p + (q - p))
      case measure => omega
      case rel => exact ⟨p, q - p, _, hp, by omega, hpm, by omega, rfl, rfl, congrArg _ (by omega), hd1, hid (by rw [← rot_lt h m p q hpm hpq hp]; exact HR.out), gTrans hgr hg1⟩
    · subst hpq
      have t1 : ((p : Int) != (p : Int)) = false := by simp
      go_wp2_with fail
      rw [show ((m : Int) - (p : Int)) = ((m - p : Nat) : Int) from by omega]
      refine (swapRange_any g cap n _ _ _ h cv _ hdat hn hcap (by omega) (by omega)).mono ?_
      rintro e w1 ⟨rfl, hd1, hg1⟩
      go_wp2
      go_end0
      exact ⟨rfl, by rw [← HR.out, rot_eq h m p hpm]; exact hd1, gTrans hgr hg1⟩
    · have t1 : ((p : Int) != (q : Int)) = true := by rw [bne_iff_ne]; omega
      have t2 : decide (q < p) = true := by simp; omega
      go_wp2_with fail
      rw [show ((m : Int) - (p : Int)) = ((m - p : Nat) : Int) from by omega]
      refine (swapRange_any g cap n _ _ _ h cv _ hdat hn hcap (by omega) (by omega)).mono ?_
      rintro e w1 ⟨rfl, hd1, hg1⟩
      go_wp2
      have hg := HG.out
      go_roundg ((p - q) + q)
      case measure => omega
      case rel => exact ⟨p - q, q, _, by omega, hq, by omega, hqn, rfl, congrArg _ (by omega), rfl, hd1, hid (by rw [← rot_gt h m p q hpm hpq hq]; exact HR.out), gTrans hgr hg1⟩

/-- What the function value answers, whatever the row of block g holds: a number below 0 just where 'klt' says so. -/
def CmpOK (w0 : World) (g n bx : Nat) (klt : Int → Int → Bool) : Prop :=
  ∀ W, w0.grownBy W (some g) → ∀ x y : Int, 0 ≤ x → x < (n : Int) → 0 ≤ y → y < (n : Int) →
    Calls Tryz.prog 93 #[.int .i64 x, .int .i64 y, .pointer (some ⟨bx, 0, none⟩)] W fun e W' => ∃ c : Int, e = .returned (.int .i64 c) ∧ decide (c < 0) = klt x y ∧ Below W.heap.size W W'

theorem CmpOK.later {w0 w1 : World} {g n bx : Nat} {klt : Int → Int → Bool} (h : CmpOK w0 g n bx klt) (hg : w0.grownBy w1 (some g)) : CmpOK w1 g n bx klt :=
  fun W hW => h W (gTrans hg hW)

def cmpV (bx : Nat) : Value := .func (.func 93) #[] #[.pointer (some ⟨bx, 0, none⟩)]

def InR (n : Nat) (f : Nat → Int) : Prop := ∀ k, k < n → 0 ≤ f k ∧ f k < (n : Int)
theorem InR.from {n a b : Nat} {f g : Nat → Int} (h : InR n f) (hb : b ≤ n) (p : FromOn a b f g) : InR n g := fun k hk => by
  by_cases hc : a ≤ k ∧ k < b
  · obtain ⟨k', h1, h2, h3⟩ := p.1 k hc.1 hc.2; rw [h3]; exact h k' (by omega)
  · rw [p.2 k hc]; exact h k hk

end Go.Proofs.YthjmpiekjfnoiaaGreatDoor

/-
  The walks of the library's insertion sort and of its symmetric merge.
-/
namespace Go.Proofs.YthjmpiekjfnoiaaGreatDoor
open Go.RowKit

/-- A block's integers in rising order: as they are before the sort. -/
def Rising (f : Nat → Int) (a b : Nat) : Prop := ∀ i j, a ≤ i → i < j → j < b → f i < f j

/-- The number x, moved from place i down to place j. -/
def downF (f : Nat → Int) (j i : Nat) : Nat → Int := fun k => if k = j then f i else if j < k ∧ k ≤ i then f (k - 1) else f k
theorem downF_self (f : Nat → Int) (i : Nat) : downF f i i = f := by
  funext k; unfold downF
  by_cases h : k = i
  · rw [if_pos h, h]
  · rw [if_neg h, if_neg (by omega)]
theorem downF_succ (f : Nat → Int) (j i : Nat) (h : j < i) : downF f j i = setF (setF (downF f (j + 1) i) (j + 1) (downF f (j + 1) i j)) j (downF f (j + 1) i (j + 1)) := by
  have e1 : downF f (j + 1) i j = f j := by unfold downF; rw [if_neg (by omega), if_neg (by omega)]
  have e2 : downF f (j + 1) i (j + 1) = f i := by unfold downF; rw [if_pos rfl]
  rw [e1, e2]
  funext k
  unfold setF downF
  by_cases h1 : k = j
  · rw [if_pos h1, if_pos h1]
  · rw [if_neg h1, if_neg h1]
    by_cases h2 : k = j + 1
    · rw [if_pos h2, if_pos (by omega)]; congr 1; omega
    · rw [if_neg h2, if_neg h2]
      by_cases h3 : j < k ∧ k ≤ i
      · rw [if_pos h3, if_pos (by omega)]
      · rw [if_neg h3, if_neg (by omega)]
theorem downF_from (f : Nat → Int) (a j i : Nat) (h1 : a ≤ j) (h2 : j ≤ i) : FromOn a (i + 1) f (downF f j i) := by
  refine ⟨fun k h3 h4 => ?_, fun k hk => ?_⟩
  · unfold downF
    by_cases c1 : k = j
    · rw [if_pos c1]; exact ⟨i, by omega, by omega, rfl⟩
    · rw [if_neg c1]
      by_cases c2 : j < k ∧ k ≤ i
      · rw [if_pos c2]; exact ⟨k - 1, by omega, by omega, rfl⟩
      · rw [if_neg c2]; exact ⟨k, h3, h4, rfl⟩
  · unfold downF; rw [if_neg (by omega), if_neg (by omega)]
theorem downF_sorted {lt : Int → Int → Prop} {f : Nat → Int} {a j i : Nat} (h : SortedOn lt f a i) (_h1 : a ≤ j) (h2 : j ≤ i) (hlo : ∀ k, a ≤ k → k < j → lt (f k) (f i)) (hhi : ∀ k, j ≤ k → k < i → lt (f i) (f k)) :
    SortedOn lt (downF f j i) a (i + 1) := by
  have d1 : downF f j i j = f i := by unfold downF; rw [if_pos rfl]
  have d2 : ∀ k, j < k → k ≤ i → downF f j i k = f (k - 1) := fun k p q => by unfold downF; rw [if_neg (by omega), if_pos ⟨p, q⟩]
  have d3 : ∀ k, k < j → downF f j i k = f k := fun k p => by unfold downF; rw [if_neg (by omega), if_neg (by omega)]
  intro p q hp hpq hq
  rcases Nat.lt_trichotomy p j with c1 | c1 | c1
  · rw [d3 p c1]
    rcases Nat.lt_trichotomy q j with c2 | c2 | c2
    · rw [d3 q c2]; exact h _ _ hp hpq (by omega)
    · rw [c2, d1]; exact hlo _ hp c1
    · rw [d2 q c2 (by omega)]; exact h _ _ hp (by omega) (by omega)
  · rw [c1, d1, d2 q (by omega) (by omega)]; exact hhi _ (by omega) (by omega)
  · rw [d2 p c1 (by omega), d2 q (by omega) (by omega)]; exact h _ _ (by omega) (by omega) (by omega)

/-- What is asked of the order: strict; and the test answers it where the second number is the lesser one. -/
structure Cmp (lt : Int → Int → Prop) (klt : Int → Int → Bool) : Prop where
  S : Strict lt
  iff : ∀ x y, x < y → (klt y x = true ↔ lt y x)

set_option maxRecDepth 100000 in
set_option maxHeartbeats 400000 in
theorem insertion_any (g cap n a b bx : Nat) (f : Nat → Int) (klt : Int → Int → Bool) (lt : Int → Int → Prop) (w : World) (hd : Dat w g cap n f) (hn : n ≤ 1000000) (_hcap : cap ≤ maxLen) (hab : a ≤ b) (hbn : b ≤ n)
    (hf : InR n f) (hr : Rising f a b) (hc : CmpOK w g n bx klt) (C : Cmp lt klt) :
    Calls Tryz.prog 117 #[.slice (some ⟨g, 0, none⟩) n cap, .int .i64 (a : Int), .int .i64 (b : Int), cmpV bx] w fun e w' =>
      e = .returned (.tuple #[]) ∧ (∃ h, Merged lt f h a b ∧ Dat w' g cap n h) ∧ w.grownBy w' (some g) := by
  unfold maxLen at _hcap
  unfold cmpV
  have HCM := hid hc
  have HR := hid hr
  clear hc hr
  go_enter Tryz.func117, Tryz.ntmps117
  go_wp2
  go_loopg [8] (b - (a + 1)) (fun gh i wr => ∃ (k : Nat) (h : Nat → Int), a + 1 ≤ k ∧ (k ≤ b ∨ k = a + 1) ∧ gh = b - k ∧ i = .int .i64 k ∧ Dat wr g cap n h ∧ Hid (Merged lt f h a (min k b)) ∧ w.grownBy wr (some g))
  case atStart =>
    refine ⟨a + 1, f, Nat.le_refl _, .inr rfl, rfl, congrArg _ (by omega), hd, hid ⟨FromOn.refl _ _ _, SortedOn.tiny _ _ _ (by omega)⟩, gRefl _ _⟩
  case round =>
    obtain ⟨i, h, hi1, hi2, hg, rfl, hdat, HM, hgr⟩ := hrel
    have HG := hid hg
    clear hg
    by_cases hlt : i < b
    · obtain ⟨wo, rfl⟩ : ∃ wo : World, wo = wr := ⟨_, rfl⟩
      have hfm := HM.out.frm
      rw [Nat.min_eq_left (by omega)] at hfm
      have hin := hf.from (by omega) hfm
      go_wp2
      go_loopg [9] i (fun gh j wr => ∃ q : Nat, a ≤ q ∧ q ≤ i ∧ gh = q ∧ j = .int .i64 q ∧ Dat wr g cap n (downF h q i) ∧ Hid (∀ k, q ≤ k → k < i → lt (h i) (h k)) ∧ w.grownBy wr (some g))
      case atStart => exact ⟨i, by omega, Nat.le_refl _, rfl, rfl, by rw [downF_self]; exact hdat, hid (fun k h1 h2 => by omega), hgr⟩
      case round =>
        clear hdat hgr
        obtain ⟨q, hq1, hq2, hg2, rfl, hdat, HK, hgr⟩ := hrel
        have HG2 := hid hg2
        clear hg2
        by_cases hqa : a < q
        · have t1 : decide (a < q) = true := by simpa using hqa
          have c1 := hdat.cell (k := q) (by omega)
          have c2 := hdat.cell (k := q - 1) (by omega)
          have f1 := hdat.free q
          have f2 := hdat.free (q - 1)
          have e1 : downF h q i q = h i := by unfold downF; rw [if_pos rfl]
          have e2 : downF h q i (q - 1) = h (q - 1) := by unfold downF; rw [if_neg (by omega), if_neg (by omega)]
          rw [e1] at c1
          rw [e2] at c2
          have E1 := hid e1
          have E2 := hid e2
          clear e1 e2
          have b1 := hin i (by omega)
          have b2 := hin (q - 1) (by omega)
          obtain ⟨x, hx⟩ : ∃ x, x = h i := ⟨_, rfl⟩
          obtain ⟨y, hy⟩ : ∃ y, y = h (q - 1) := ⟨_, rfl⟩
          rw [← hx] at c1 b1
          rw [← hy] at c2 b2
          have HX := hid hx
          have HY := hid hy
          clear hx hy
          have s1 : IntKind.i64.wrap ((q : Int) - 1) = (q : Int) - 1 := IntWalk.i64_in _ (by omega)
          have s2 : ((q : Int) - 1).toNat = q - 1 := by omega
          have s3 : (0 : Int) ≤ (q : Int) - 1 := by omega
          have s4 : (q : Int) - 1 < (n : Int) := by omega
          have s5 : q < n := by omega
          have s6 : (1 : Int) ≤ (q : Int) := by omega
          have s7 : 1 ≤ q := by omega
          have s8 : 0 < q := by omega
          have s9 : (q : Int) ≤ (n : Int) := by omega
          have s10 : q ≤ n := by omega
          go_wp2_with fail
          go_cut [34] (fun s34 wx => s34 = .bool (klt x y) ∧ Dat wx g cap n (downF h q i) ∧ w.grownBy wx (some g))
          case first =>
            go_still_tail 14, (by kernel_rfl)
            change wpList _ _ _ _ _ wr.drew
            have hdw := hdat.drew
            have hgw := gDrew hgr
            generalize wr.drew = wr2 at *
            go_wp2_with (go_at_call 93; refine (HCM.out _ hgw x y b1.1 b1.2 b2.1 b2.2).mono ?_; rintro e w2 ⟨c, rfl, hc, hb⟩)
            go_meet
            exact ⟨rfl, hdw.grown (gBelow (row := none) hb) (by simp), gTrans hgw (gBelow hb)⟩
          case rest =>
            obtain ⟨rfl, hd1, hg1⟩ := hcut
            have hyx : y < x := by
              rw [HX.out, HY.out]
              obtain ⟨k', k1, k2, k3⟩ := hfm.1 (q - 1) (by omega) (by omega)
              rw [k3, hfm.2 i (by omega)]
              exact HR.out k' i k1 (by omega) (by omega)
            have HYX := hid hyx
            clear hyx
            by_cases hkl : klt x y = true
            · have hlt' := hid ((C.iff y x HYX.out).1 hkl)
              have d1 := hd1.cell (k := q) (by omega)
              have d2 := hd1.cell (k := q - 1) (by omega)
              have g1 := hd1.free q
              have g2 := hd1.free (q - 1)
              rw [E1.out, ← HX.out] at d1
              rw [E2.out, ← HY.out] at d2
              have hne : q ≠ q - 1 := by omega
              rw [hkl]
              clear c1 c2 f1 f2 hdat hgr
              go_wp2
              go_region
              all_goals go_wp2
              have hg2 := HG2.out
              go_roundg (q - 1)
              case measure => omega
              case rel =>
                refine ⟨q - 1, by omega, by omega, rfl, congrArg _ (by omega), ?_, hid (fun k k1 k2 => ?_), gDrew (gTrans (gTrans hg1 (gSet _ _ _ _)) (gSet _ _ _ _))⟩
                · have := (hd1.set q y).set (q - 1) x
                  have e := downF_succ h (q - 1) i (by omega)
                  rw [show q - 1 + 1 = q by omega, E1.out, E2.out, ← HX.out, ← HY.out] at e
                  rw [e]
                  exact this.drew
                · rcases Nat.lt_or_ge k q with h' | h'
                  · have : k = q - 1 := by omega
                    rw [this, ← HX.out, ← HY.out]; exact hlt'.out
                  · exact HK.out k h' k2
            · have hkl0 : klt x y = false := by simpa using hkl
              have hlt' := hid ((C.S.tot y x (by have := HYX.out; omega)).resolve_right (fun h => hkl ((C.iff y x HYX.out).2 h)))
              rw [hkl0]
              clear hkl
              have hsorted := hid (downF_sorted (j := q) (i := i) (a := a) (f := h) (lt := lt) (by have := HM.out.srt; rwa [Nat.min_eq_left (by omega)] at this) (by omega) (by omega)
                (fun k k1 k2 => by
                  have e : lt (h (q - 1)) (h i) := by rw [← HX.out, ← HY.out]; exact hlt'.out
                  rcases Nat.lt_or_ge k (q - 1) with h' | h'
                  · have hs := HM.out.srt
                    rw [Nat.min_eq_left (by omega)] at hs
                    exact C.S.tr _ _ _ (hs k (q - 1) k1 h' (by omega)) e
                  · have : k = q - 1 := by omega
                    rw [this]; exact e) HK.out)
              have hfrom := hid ((hfm.wide (Nat.le_refl a) (show i ≤ i + 1 by omega)).trans (downF_from h a q i (by omega) (by omega)))
              clear c1 c2 f1 f2 hdat hgr
              go_wp2
              have hg := HG.out
              go_roundg (b - (i + 1))
              case measure => omega
              case rel => exact ⟨i + 1, _, by omega, .inl (by omega), rfl, by go_num, hd1, hid (by rw [Nat.min_eq_left (by omega)]; exact ⟨hfrom.out, hsorted.out⟩), hg1⟩
        · have hqe : q = a := by omega
          have t1 : decide (a < q) = false := by simp; omega
          have hsorted := hid (downF_sorted (j := q) (i := i) (a := a) (f := h) (lt := lt) (by have := HM.out.srt; rwa [Nat.min_eq_left (by omega)] at this) (by omega) (by omega) (fun k k1 k2 => by omega) HK.out)
          have hfrom := hid ((hfm.wide (Nat.le_refl a) (show i ≤ i + 1 by omega)).trans (downF_from h a q i (by omega) (by omega)))
          clear hqe
          go_wp2
          go_quiet (fail)
          go_wp2
          have hg := HG.out
          go_roundg (b - (i + 1))
          case measure => omega
          case rel => exact ⟨i + 1, _, by omega, .inl (by omega), rfl, by go_num, hdat.drewN _, hid (by rw [Nat.min_eq_left (by omega)]; exact ⟨hfrom.out, hsorted.out⟩), gDrewN hgr _⟩
    · go_wp2
      go_end0
      refine ⟨rfl, ⟨h, ?_, hdat⟩, hgr⟩
      have := HM.out
      rcases hi2 with h' | h'
      · rwa [show min i b = b by omega] at this
      · exact ⟨(HM.out.frm.wide (Nat.le_refl _) (by omega)), SortedOn.tiny _ _ _ (by omega)⟩

end Go.Proofs.YthjmpiekjfnoiaaGreatDoor

/-
  The walk of the library's symmetric merge where the first part has one element alone.
-/
namespace Go.Proofs.YthjmpiekjfnoiaaGreatDoor
open Go.RowKit

theorem rotF_none (f : Nat → Int) (a : Nat) : rotF f a (a + 1) (a + 1) = f := by
  funext k; unfold rotF
  rw [if_neg (by omega)]
  by_cases h : a + (a + 1 - (a + 1)) ≤ k ∧ k < a + 1
  · rw [if_pos h]; congr 1; omega
  · rw [if_neg h]
theorem rot_left (f : Nat → Int) (a p : Nat) (h : a ≤ p) : rotF f a (a + 1) (p + 1 + 1) = setF (setF (rotF f a (a + 1) (p + 1)) p (rotF f a (a + 1) (p + 1) (p + 1))) (p + 1) (rotF f a (a + 1) (p + 1) p) := by
  have e1 : rotF f a (a + 1) (p + 1) (p + 1) = f (p + 1) := by unfold rotF; rw [if_neg (by omega), if_neg (by omega)]
  have e2 : rotF f a (a + 1) (p + 1) p = f a := by
    unfold rotF; rw [if_neg (by omega), if_pos (by omega)]; congr 1; omega
  rw [e1, e2]
  funext k
  unfold setF
  by_cases h1 : k = p + 1
  · rw [if_pos h1]; unfold rotF; rw [if_neg (by omega), if_pos (by omega)]; congr 1; omega
  · rw [if_neg h1]
    by_cases h2 : k = p
    · rw [if_pos h2]; unfold rotF; rw [if_pos (by omega)]; congr 1; omega
    · rw [if_neg h2]
      unfold rotF
      by_cases h3 : a ≤ k ∧ k < p
      · rw [if_pos (by omega), if_pos (by omega)]
      · rw [if_neg (by omega), if_neg (by omega), if_neg (by omega), if_neg (by omega)]

set_option maxRecDepth 100000 in
set_option maxHeartbeats 800000 in
theorem merge_one (g cap n a m b bx : Nat) (hm : m = a + 1) (f : Nat → Int) (klt : Int → Int → Bool) (lt : Int → Int → Prop) (w : World) (hd : Dat w g cap n f) (hn : n ≤ 1000000) (_hcap : cap ≤ maxLen) (hbn : b ≤ n)
    (hf : InR n f) (hp : MergePre lt f a (a + 1) b) (hc : CmpOK w g n bx klt) (C : Cmp lt klt) :
    Calls Tryz.prog 118 #[.slice (some ⟨g, 0, none⟩) n cap, .int .i64 (a : Int), .int .i64 (m : Int), .int .i64 (b : Int), cmpV bx] w fun e w' =>
      e = .returned (.tuple #[]) ∧ (∃ h, Merged lt f h a b ∧ Dat w' g cap n h) ∧ w.grownBy w' (some g) := by
  unfold maxLen at _hcap
  unfold cmpV
  have hab := hp.mb
  have HCM := hid hc
  have HP := hid hp
  clear hc hp
  have t0 : ((m : Int) - (a : Int) == 1) = true := by rw [beq_iff_eq]; omega
  have hma : (m : Int) = (a : Int) + 1 := by omega
  have hmn : m < n := by omega
  have ham : a < m := by omega
  have HMA := hid hma
  have HM0 := hid hm
  clear hm hma
  go_enter Tryz.func118, Tryz.ntmps118
  go_wp2
  go_loopg [10, 11] (b - m) (fun gh i j wr => ∃ p q : Nat, m ≤ p ∧ p ≤ q ∧ q ≤ b ∧ gh = q - p ∧ i = .int .i64 p ∧ j = .int .i64 q ∧ Dat wr g cap n f ∧
      Hid (∀ k, m ≤ k → k < p → lt (f k) (f a)) ∧ Hid (∀ k, q ≤ k → k < b → lt (f a) (f k)) ∧ w.grownBy wr (some g))
  case atStart => have hm := HM0.out; exact ⟨m, b, Nat.le_refl _, by omega, Nat.le_refl _, rfl, rfl, rfl, hd, hid (fun k h1 h2 => by omega), hid (fun k h1 h2 => by omega), gRefl _ _⟩
  case round =>
    obtain ⟨p, q, hp1, hpq, hqb, hg, rfl, rfl, hdat, HL, HH, hgr⟩ := hrel
    have HG := hid hg
    clear hg
    have hap : a + 1 ≤ p := by have := HM0.out; omega
    by_cases hlt : p < q
    · obtain ⟨hh, hhe⟩ : ∃ hh, hh = (p + q) / 2 := ⟨_, rfl⟩
      have h1 : p ≤ hh := by omega
      have h2 : hh < q := by omega
      have c1 := hdat.cell (k := hh) (by omega)
      have c2 := hdat.cell (k := a) (by omega)
      have b1 := hf hh (by omega)
      have b2 := hf a (by omega)
      have E := hid hhe
      have e0 : ((p : Int) + (q : Int)) / 2 = ((hh : Nat) : Int) := by omega
      clear hhe
      obtain ⟨x, hx⟩ : ∃ x, x = f hh := ⟨_, rfl⟩
      obtain ⟨y, hy⟩ : ∃ y, y = f a := ⟨_, rfl⟩
      rw [← hx] at c1 b1
      rw [← hy] at c2 b2
      have HX := hid hx
      have HY := hid hy
      clear hx hy
      have s1 : hh < n := by omega
      have s2 : a < n := by omega
      go_wp2
      go_cut [50] (fun s50 wx => s50 = .bool (klt x y) ∧ Dat wx g cap n f ∧ w.grownBy wx (some g))
      case first =>
        go_still_tail 9, (by kernel_rfl)
        change wpList _ _ _ _ _ wr.drew
        have hdw := hdat.drew
        have hgw := gDrew hgr
        generalize wr.drew = wr2 at *
        go_wp2_with (go_at_call 93; refine (HCM.out _ hgw x y b1.1 b1.2 b2.1 b2.2).mono ?_; rintro e w2 ⟨c, rfl, hc, hb⟩)
        go_meet
        exact ⟨rfl, hdw.grown (gBelow (row := none) hb) (by simp), gTrans hgw (gBelow hb)⟩
      case rest =>
        obtain ⟨rfl, hd1, hg1⟩ := hcut
        have hyx : f a < f hh := HP.out.ne a hh (Nat.le_refl _) (by omega) (by omega) (by omega)
        have HYX := hid hyx
        clear hyx
        clear c1 c2 hdat hgr
        by_cases hkl : klt x y = true
        · have hl := hid (left_yes (h := hh) C.S HP.out (by omega) ((C.iff _ _ HYX.out).1 (by rw [← HX.out, ← HY.out]; exact hkl)))
          rw [hkl]
          go_wp2
          have hg := HG.out
          go_roundg (q - (hh + 1))
          case measure => omega
          case rel => exact ⟨hh + 1, q, by omega, by omega, hqb, rfl, by go_num, rfl, hd1, hid (fun k h1 h2 => hl.out k (by have := HM0.out; omega) h2), HH, hg1⟩
        · have hl := hid (left_no (h := hh) C.S HP.out (by omega) (by omega) (fun h => hkl (by rw [HX.out, HY.out]; exact (C.iff _ _ HYX.out).2 h)))
          have hkl0 : klt x y = false := by simpa using hkl
          rw [hkl0]
          go_wp2
          have hg := HG.out
          go_roundg (hh - p)
          case measure => omega
          case rel => exact ⟨p, hh, by omega, by omega, by omega, rfl, rfl, rfl, hd1, HL, hl, hg1⟩
    · have hpe : q = p := by omega
      subst hpe
      have HM := hid (merge_left HP.out hap hqb (fun k h1 h2 => HL.out k (by have := HM0.out; omega) h2) HH.out)
      clear HL HH
      go_wp2
      go_loopg [13] (q - 1 - a) (fun gh k wr => ∃ p : Nat, a ≤ p ∧ p < q ∧ gh = q - 1 - p ∧ k = .int .i64 p ∧ Dat wr g cap n (rotF f a (a + 1) (p + 1)) ∧ w.grownBy wr (some g))
      case atStart => exact ⟨a, Nat.le_refl _, by omega, rfl, rfl, by rw [rotF_none]; exact hdat, hgr⟩
      case round =>
        clear hdat hgr
        obtain ⟨p, hp2, hp3, hg2, rfl, hdat, hgr⟩ := hrel
        have HG2 := hid hg2
        clear hg2
        by_cases hlt2 : p + 1 < q
        · have t1 : decide ((p : Int) < (q : Int) - 1) = true := by simp; omega
          have c1 := hdat.cell (k := p) (by omega)
          have c2 := hdat.cell (k := p + 1) (by omega)
          have f1 := hdat.free p
          have f2 := hdat.free (p + 1)
          have e := rot_left f a p hp2
          obtain ⟨x, hx⟩ : ∃ x, x = rotF f a (a + 1) (p + 1) p := ⟨_, rfl⟩
          obtain ⟨y, hy⟩ : ∃ y, y = rotF f a (a + 1) (p + 1) (p + 1) := ⟨_, rfl⟩
          rw [← hx] at c1 e
          rw [← hy] at c2 e
          have E3 := hid e
          clear hx hy e
          have s3 : p + 1 < n := by omega
          have s4 : p < n := by omega
          have hne : p ≠ p + 1 := by omega
          go_wp2
          go_region
          all_goals go_wp2
          have hg2 := HG2.out
          go_roundg (q - 1 - (p + 1))
          case measure => omega
          case rel =>
            refine ⟨p + 1, by omega, by omega, rfl, by go_num, ?_, gDrew (gTrans (gTrans hgr (gSet _ _ _ _)) (gSet _ _ _ _))⟩
            rw [E3.out]
            exact ((hdat.set p y).set (p + 1) x).drew
        · have hpe : p = q - 1 := by omega
          have t1 : decide ((p : Int) < (q : Int) - 1) = false := by simp; omega
          have e1 : p + 1 = q := by omega
          rw [e1] at hdat
          clear hpe e1
          go_wp2
          refine bodyPost_ret (results_none rfl _ _ _) rfl ?_
          exact ⟨rfl, ⟨_, HM.out, hdat⟩, hgr⟩

end Go.Proofs.YthjmpiekjfnoiaaGreatDoor

/-
  The walk of the library's symmetric merge where the second part has one element alone.
-/
namespace Go.Proofs.YthjmpiekjfnoiaaGreatDoor
open Go.RowKit

theorem rotF_last (f : Nat → Int) (m : Nat) : rotF f m m (m + 1) = f := by
  funext k; unfold rotF
  by_cases h : m ≤ k ∧ k < m + (m + 1 - m)
  · rw [if_pos h]; congr 1; omega
  · rw [if_neg h, if_neg (by omega)]
theorem rot_right (f : Nat → Int) (q m : Nat) (h : q + 1 ≤ m) : rotF f q m (m + 1) = setF (setF (rotF f (q + 1) m (m + 1)) (q + 1) (rotF f (q + 1) m (m + 1) q)) q (rotF f (q + 1) m (m + 1) (q + 1)) := by
  have e1 : rotF f (q + 1) m (m + 1) q = f q := by unfold rotF; rw [if_neg (by omega), if_neg (by omega)]
  have e2 : rotF f (q + 1) m (m + 1) (q + 1) = f m := by
    unfold rotF; rw [if_pos (by omega)]; congr 1; omega
  rw [e1, e2]
  funext k
  unfold setF
  by_cases h1 : k = q
  · rw [if_pos h1]; unfold rotF; rw [if_pos (by omega)]; congr 1; omega
  · rw [if_neg h1]
    by_cases h2 : k = q + 1
    · rw [if_pos h2]; unfold rotF; rw [if_neg (by omega), if_pos (by omega)]; congr 1; omega
    · rw [if_neg h2]
      unfold rotF
      by_cases h3 : q + 1 < k ∧ k ≤ m
      · rw [if_neg (by omega), if_pos (by omega), if_neg (by omega), if_pos (by omega)]
      · rw [if_neg (by omega), if_neg (by omega), if_neg (by omega), if_neg (by omega)]

set_option maxRecDepth 100000 in
set_option maxHeartbeats 800000 in
theorem merge_last (g cap n a m b bx : Nat) (hm : b = m + 1) (h2 : a + 1 < m) (f : Nat → Int) (klt : Int → Int → Bool) (lt : Int → Int → Prop) (w : World) (hd : Dat w g cap n f) (hn : n ≤ 1000000) (_hcap : cap ≤ maxLen) (hbn : b ≤ n)
    (hf : InR n f) (hp : MergePre lt f a m (m + 1)) (hc : CmpOK w g n bx klt) (C : Cmp lt klt) :
    Calls Tryz.prog 118 #[.slice (some ⟨g, 0, none⟩) n cap, .int .i64 (a : Int), .int .i64 (m : Int), .int .i64 (b : Int), cmpV bx] w fun e w' =>
      e = .returned (.tuple #[]) ∧ (∃ h, Merged lt f h a (m + 1) ∧ Dat w' g cap n h) ∧ w.grownBy w' (some g) := by
  unfold maxLen at _hcap
  unfold cmpV
  have HCM := hid hc
  have HP := hid hp
  clear hc hp
  have t0 : ((m : Int) - (a : Int) == 1) = false := by rw [beq_eq_false_iff_ne]; omega
  have t1 : ((b : Int) - (m : Int) == 1) = true := by rw [beq_iff_eq]; omega
  have hmb : m < b := by omega
  have hmn : m < n := by omega
  have HM0 := hid hm
  clear hm
  go_enter Tryz.func118, Tryz.ntmps118
  go_wp2
  go_loopg [14, 15] (m - a) (fun gh i j wr => ∃ p q : Nat, a ≤ p ∧ p ≤ q ∧ q ≤ m ∧ gh = q - p ∧ i = .int .i64 p ∧ j = .int .i64 q ∧ Dat wr g cap n f ∧
      Hid (∀ k, a ≤ k → k < p → lt (f k) (f m)) ∧ Hid (∀ k, q ≤ k → k < m → lt (f m) (f k)) ∧ w.grownBy wr (some g))
  case atStart => exact ⟨a, m, Nat.le_refl _, by omega, Nat.le_refl _, rfl, rfl, rfl, hd, hid (fun k h1 h2 => by omega), hid (fun k h1 h2 => by omega), gRefl _ _⟩
  case round =>
    obtain ⟨p, q, hp1, hpq, hqb, hg, rfl, rfl, hdat, HL, HH, hgr⟩ := hrel
    have HG := hid hg
    clear hg
    by_cases hlt : p < q
    · obtain ⟨hh, hhe⟩ : ∃ hh, hh = (p + q) / 2 := ⟨_, rfl⟩
      have h1 : p ≤ hh := by omega
      have h2 : hh < q := by omega
      have c1 := hdat.cell (k := m) (by omega)
      have c2 := hdat.cell (k := hh) (by omega)
      have b1 := hf m (by omega)
      have b2 := hf hh (by omega)
      have E := hid hhe
      have e0 : ((p : Int) + (q : Int)) / 2 = ((hh : Nat) : Int) := by omega
      clear hhe
      obtain ⟨x, hx⟩ : ∃ x, x = f m := ⟨_, rfl⟩
      obtain ⟨y, hy⟩ : ∃ y, y = f hh := ⟨_, rfl⟩
      rw [← hx] at c1 b1
      rw [← hy] at c2 b2
      have HX := hid hx
      have HY := hid hy
      clear hx hy
      have s1 : hh < n := by omega
      have s2 : m < n := by omega
      go_wp2
      go_cut [103] (fun s103 wx => s103 = .bool (!klt x y) ∧ Dat wx g cap n f ∧ w.grownBy wx (some g))
      case first =>
        go_still_tail 9, (by kernel_rfl)
        change wpList _ _ _ _ _ wr.drew
        have hdw := hdat.drew
        have hgw := gDrew hgr
        generalize wr.drew = wr2 at *
        go_wp2_with (go_at_call 93; refine (HCM.out _ hgw x y b1.1 b1.2 b2.1 b2.2).mono ?_; rintro e w2 ⟨c, rfl, hc, hb⟩)
        go_meet
        exact ⟨rfl, hdw.grown (gBelow (row := none) hb) (by simp), gTrans hgw (gBelow hb)⟩
      case rest =>
        obtain ⟨rfl, hd1, hg1⟩ := hcut
        have hyx : f hh < f m := HP.out.ne hh m (by omega) (by omega) (by omega) (by omega)
        have HYX := hid hyx
        clear hyx
        clear c1 c2 hdat hgr
        by_cases hkl : klt x y = true
        · have hl := hid (right_yes (h := hh) C.S HP.out (by omega) ((C.iff _ _ HYX.out).1 (by rw [← HX.out, ← HY.out]; exact hkl)))
          rw [hkl]
          go_wp2
          have hg := HG.out
          go_roundg (hh - p)
          case measure => omega
          case rel => exact ⟨p, hh, by omega, by omega, by omega, rfl, rfl, rfl, hd1, HL, hl, hg1⟩
        · have hl := hid (right_no (h := hh) C.S HP.out (by omega) (by omega) (fun h => hkl (by rw [HX.out, HY.out]; exact (C.iff _ _ HYX.out).2 h)))
          have hkl0 : klt x y = false := by simpa using hkl
          rw [hkl0]
          go_wp2
          have hg := HG.out
          go_roundg (q - (hh + 1))
          case measure => omega
          case rel => exact ⟨hh + 1, q, by omega, by omega, hqb, rfl, by go_num, rfl, hd1, hl, HH, hg1⟩
    · have hpe : q = p := by omega
      subst hpe
      have HM := hid (merge_right HP.out hp1 hqb HL.out HH.out)
      clear HL HH
      go_wp2
      go_loopg [17] (m - q) (fun gh k wr => ∃ p : Nat, q ≤ p ∧ p ≤ m ∧ gh = p - q ∧ k = .int .i64 p ∧ Dat wr g cap n (rotF f p m (m + 1)) ∧ w.grownBy wr (some g))
      case atStart => exact ⟨m, hqb, Nat.le_refl _, rfl, rfl, by rw [rotF_last]; exact hdat, hgr⟩
      case round =>
        clear hdat hgr
        obtain ⟨p, hp2, hp3, hg2, rfl, hdat, hgr⟩ := hrel
        have HG2 := hid hg2
        clear hg2
        by_cases hlt2 : q < p
        · have t1 : decide (q < p) = true := by simpa using hlt2
          have c1 := hdat.cell (k := p) (by omega)
          have c2 := hdat.cell (k := p - 1) (by omega)
          have f1 := hdat.free p
          have f2 := hdat.free (p - 1)
          have e := rot_right f (p - 1) m (by omega)
          rw [show p - 1 + 1 = p by omega] at e
          obtain ⟨x, hx⟩ : ∃ x, x = rotF f p m (m + 1) p := ⟨_, rfl⟩
          obtain ⟨y, hy⟩ : ∃ y, y = rotF f p m (m + 1) (p - 1) := ⟨_, rfl⟩
          rw [← hx] at c1 e
          rw [← hy] at c2 e
          have E3 := hid e
          clear hx hy e
          have s1 : IntKind.i64.wrap ((p : Int) - 1) = (p : Int) - 1 := IntWalk.i64_in _ (by omega)
          have s2 : ((p : Int) - 1).toNat = p - 1 := by omega
          have s3 : (0 : Int) ≤ (p : Int) - 1 := by omega
          have s4 : (p : Int) - 1 < (n : Int) := by omega
          have s5 : p < n := by omega
          have s6 : (1 : Int) ≤ (p : Int) := by omega
          have s7 : 1 ≤ p := by omega
          have s8 : 0 < p := by omega
          have s9 : (p : Int) ≤ (n : Int) := by omega
          have s10 : p ≤ n := by omega
          have hne : p ≠ p - 1 := by omega
          go_wp2
          go_region
          all_goals go_wp2
          have hg2 := HG2.out
          go_roundg (p - 1 - q)
          case measure => omega
          case rel =>
            refine ⟨p - 1, by omega, by omega, rfl, congrArg _ (by omega), ?_, gDrew (gTrans (gTrans hgr (gSet _ _ _ _)) (gSet _ _ _ _))⟩
            rw [E3.out]
            exact ((hdat.set p y).set (p - 1) x).drew
        · have hpe : p = q := by omega
          have t1 : decide (q < p) = false := by simp; omega
          rw [hpe] at hdat
          clear hpe
          go_wp2
          refine bodyPost_ret (results_none rfl _ _ _) rfl ?_
          exact ⟨rfl, ⟨_, HM.out, hdat⟩, hgr⟩

end Go.Proofs.YthjmpiekjfnoiaaGreatDoor

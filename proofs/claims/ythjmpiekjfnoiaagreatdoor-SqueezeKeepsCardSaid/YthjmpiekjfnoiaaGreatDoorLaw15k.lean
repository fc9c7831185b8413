/-
  What the statement SqueezeKeeps shares with SqueezeTells: a squeezed text among those that one goes through, the row of these.
-/
import Derived.Test.YthjmpiekjfnoiaaGreatDoorZ8
import Derived.Deep.CutBlock
namespace Go.Proofs.YthjmpiekjfnoiaaGreatDoor
open Go.RowKit Go.Shelf

def mins (l : List Int) : List Int := l.map (fun x => min x 1099511627776)
theorem mins_succ {l : List Int} {k : Nat} {x : Int} (h : l[k]? = some x) : mins (l.take (k + 1)) = mins (l.take k) ++ [min x 1099511627776] := by
  unfold mins
  rw [List.take_add_one, h, List.map_append]; rfl
theorem mins_length (l : List Int) : (mins l).length = l.length := List.length_map _

/-- One squeezed text among those that a statement goes through. -/
structure SqIn (w : World) (a : ByteArray) (o : Int) (v : Value) (l : List Int) : Prop where
  rd : RdI w v l
  sa : a.size ≤ 140737488355328
  sl : l.length ≤ 100000
  o1 : -9223372036854775808 ≤ o
  o2 : o ≤ 9223372036854775807
theorem SqIn.below {w w' : World} {a : ByteArray} {o : Int} {v : Value} {l : List Int} (h : SqIn w a o v l) (hb : Below w.heap.size w w') : SqIn w' a o v l := ⟨h.rd.below hb, h.sa, h.sl, h.o1, h.o2⟩
/-- The row of three squeezed texts that the statement goes through. -/
def SqRow (w wx : World) (s : Value) : Prop := ∃ (b : Nat) (a0 a1 a2 : ByteArray) (o0 o1 o2 : Int) (v0 v1 v2 : Value) (l0 l1 l2 : List Int), s = .slice (some ⟨b, 0, none⟩) 3 3 ∧
  Arr wx b 25 [.string a0, .int .i64 o0, v0, .string a1, .int .i64 o1, v1, .string a2, .int .i64 o2, v2] ∧ SqIn wx a0 o0 v0 l0 ∧ SqIn wx a1 o1 v1 l1 ∧ SqIn wx a2 o2 v2 l2 ∧ Below w.heap.size w wx

/-- What the region that appends reads. -/
abbrev OddS (B qb b q : Nat) (V : Value) (x : Int) (w' : World) : Prop :=
  w'.cell? ⟨qb, 2, none⟩ = some V ∧ w'.cell? ⟨b, q, none⟩ = some (.int .i64 x) ∧ B < w'.heap.size

/-- What the region reads that lays the row. -/
abbrev RowS (W : World) (b1 b2 : Nat) (A1 A2 : ByteArray) (o1 o2 : Int) (v1 v2 : Value) (w' : World) : Prop :=
  w'.cell? ⟨b1, 0, none⟩ = some (.string A1) ∧ w'.cell? ⟨b1, 1, none⟩ = some (.int .i64 o1) ∧ w'.cell? ⟨b1, 2, none⟩ = some v1 ∧ w'.cell? ⟨b2, 0, none⟩ = some (.string A2) ∧ w'.cell? ⟨b2, 1, none⟩ = some (.int .i64 o2) ∧ w'.cell? ⟨b2, 2, none⟩ = some v2 ∧ Below W.heap.size W w'
theorem RowS.of {W w' : World} {b1 b2 : Nat} {A1 A2 : ByteArray} {o1 o2 : Int} {v1 v2 : Value} (h1 : Arr W b1 25 [.string A1, .int .i64 o1, v1]) (h2 : Arr W b2 25 [.string A2, .int .i64 o2, v2]) (hb : Below W.heap.size W w') : RowS W b1 b2 A1 A2 o1 o2 v1 v2 w' :=
  ⟨(h1.below hb h1.lt).cell (i := 0) rfl, (h1.below hb h1.lt).cell (i := 1) rfl, (h1.below hb h1.lt).cell (i := 2) rfl, (h2.below hb h2.lt).cell (i := 0) rfl, (h2.below hb h2.lt).cell (i := 1) rfl, (h2.below hb h2.lt).cell (i := 2) rfl, hb⟩

end Go.Proofs.YthjmpiekjfnoiaaGreatDoor

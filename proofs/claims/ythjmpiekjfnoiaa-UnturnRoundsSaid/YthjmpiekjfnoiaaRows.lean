/-
  No cell of these rows narrows 'for every input' (looked for: loops, veiled, ifaces, maps, wideKeys, modest, calm, conditions, laid).
  DERIVED. THE GIVEN ROWS OF THIS SEAT. 12 by the template 'for every input the law returns true; each argument reads behind the call as it read before'; 0 by the template 'total and deterministic' (their statements: YthjmpiekjfnoiaaTotals.lean).
  GIVEN WITH THE SEED: the statements are not yours to turn. If you find one false, say at which input.
  Laid BY PROGRAM, IN A SANDBOX (cutbox-rows.mjs): the forced cells as the released guide's own fill.sh prints them over the translation 781c2139412eec14… (all of the seat's roots in one cut). By AI agents, Wed Nov 11 2026. No macro, syntax, notation, axiom, sorry.
-/
import Derived.Test.YthjmpiekjfnoiaaChecked
import GoSem.Claim
import GoSem.ClaimJoined
import GoSem.ClaimMapViews
import Derived.JoinedTies
import Derived.KernelRfl
namespace Go.Proofs.Ythjmpiekjfnoiaa
/- THE CELL 'sum', in the pinned program and in every row, IS THE sha256 OF THE DUMP (.gsa) THAT YthjmpiekjfnoiaaProg.lean LOADS. Nothing in Lean hashes anything: it is a label: what it is worth is what the hold of that sum in a sandbox is worth. -/
noncomputable def Try.pinned : Pinned := { name := "ythjmpiekjfnoiaa", sum := "781c2139412eec14a6e110e24adb18c556b453c2b859a41d807a5e6de72943f9", checked := Try.checked }
namespace Rows
def none {H : Type} : Left H := { results := [], args := [] }

/-- 'pressmarklaw14.UnturnTells': WHATEVER THE INPUT: true; the input reads as it did. -/
def unturnTellsSpec : ChangeSpec := { name := "unturnTells", fn := fun _ => fun
  | [d1, d2, d3] => { results := [.lit (.bool true)], args := [d1, d2, d3] }
  | _ => none }
def unturnTellsRow : OpenClaim := { program := "ythjmpiekjfnoiaa", sum := "781c2139412eec14a6e110e24adb18c556b453c2b859a41d807a5e6de72943f9", func := "pressmark/pressmarklaw14.UnturnTells", spec := "unturnTells", apart := false }
def UnturnTellsSaid : Prop := unturnTellsRow.holds Try.pinned (OpenSpec.ofChange unturnTellsSpec)

/-- ITS FALSE NEIGHBOUR: 'it returns false'. Refute it at one input. -/
def unturnTellsWrong : ChangeSpec := { name := "unturnTells", fn := fun _ => fun
  | [d1, d2, d3] => { results := [.lit (.bool false)], args := [d1, d2, d3] }
  | _ => none }
def UnturnTellsWrongFalsely : Prop := unturnTellsRow.holds Try.pinned (OpenSpec.ofChange unturnTellsWrong)

/-- 'pressmarklaw14.UnturnVector': WHATEVER THE INPUT: true; the input reads as it did. -/
def unturnVectorSpec : ChangeSpec := { name := "unturnVector", fn := fun _ => fun
  | [d1, d2] => { results := [.lit (.bool true)], args := [d1, d2] }
  | _ => none }
def unturnVectorRow : OpenClaim := { program := "ythjmpiekjfnoiaa", sum := "781c2139412eec14a6e110e24adb18c556b453c2b859a41d807a5e6de72943f9", func := "pressmark/pressmarklaw14.UnturnVector", spec := "unturnVector", apart := false }
def UnturnVectorSaid : Prop := unturnVectorRow.holds Try.pinned (OpenSpec.ofChange unturnVectorSpec)

/-- ITS FALSE NEIGHBOUR: 'it returns false'. Refute it at one input. -/
def unturnVectorWrong : ChangeSpec := { name := "unturnVector", fn := fun _ => fun
  | [d1, d2] => { results := [.lit (.bool false)], args := [d1, d2] }
  | _ => none }
def UnturnVectorWrongFalsely : Prop := unturnVectorRow.holds Try.pinned (OpenSpec.ofChange unturnVectorWrong)

/-- 'pressmarklaw14.UnturnNext': WHATEVER THE INPUT: true; the input reads as it did. -/
def unturnNextSpec : ChangeSpec := { name := "unturnNext", fn := fun _ => fun
  | [d1, d2, d3] => { results := [.lit (.bool true)], args := [d1, d2, d3] }
  | _ => none }
def unturnNextRow : OpenClaim := { program := "ythjmpiekjfnoiaa", sum := "781c2139412eec14a6e110e24adb18c556b453c2b859a41d807a5e6de72943f9", func := "pressmark/pressmarklaw14.UnturnNext", spec := "unturnNext", apart := false }
def UnturnNextSaid : Prop := unturnNextRow.holds Try.pinned (OpenSpec.ofChange unturnNextSpec)

/-- ITS FALSE NEIGHBOUR: 'it returns false'. Refute it at one input. -/
def unturnNextWrong : ChangeSpec := { name := "unturnNext", fn := fun _ => fun
  | [d1, d2, d3] => { results := [.lit (.bool false)], args := [d1, d2, d3] }
  | _ => none }
def UnturnNextWrongFalsely : Prop := unturnNextRow.holds Try.pinned (OpenSpec.ofChange unturnNextWrong)

/-- 'pressmarklaw13.TurnsTells': WHATEVER THE INPUT: true; the input reads as it did. -/
def turnsTellsSpec : ChangeSpec := { name := "turnsTells", fn := fun _ => fun
  | [d1, d2, d3] => { results := [.lit (.bool true)], args := [d1, d2, d3] }
  | _ => none }
def turnsTellsRow : OpenClaim := { program := "ythjmpiekjfnoiaa", sum := "781c2139412eec14a6e110e24adb18c556b453c2b859a41d807a5e6de72943f9", func := "pressmark/pressmarklaw13.TurnsTells", spec := "turnsTells", unfollowed := true, recurses := true, apart := false }
def TurnsTellsSaid : Prop := turnsTellsRow.holds Try.pinned (OpenSpec.ofChange turnsTellsSpec)

/-- ITS FALSE NEIGHBOUR: 'it returns false'. Refute it at one input. -/
def turnsTellsWrong : ChangeSpec := { name := "turnsTells", fn := fun _ => fun
  | [d1, d2, d3] => { results := [.lit (.bool false)], args := [d1, d2, d3] }
  | _ => none }
def TurnsTellsWrongFalsely : Prop := turnsTellsRow.holds Try.pinned (OpenSpec.ofChange turnsTellsWrong)

/-- 'pressmarklaw13.TurnsOrder': WHATEVER THE INPUT: true; the input reads as it did. -/
def turnsOrderSpec : ChangeSpec := { name := "turnsOrder", fn := fun _ => fun
  | [d1, d2, d3] => { results := [.lit (.bool true)], args := [d1, d2, d3] }
  | _ => none }
def turnsOrderRow : OpenClaim := { program := "ythjmpiekjfnoiaa", sum := "781c2139412eec14a6e110e24adb18c556b453c2b859a41d807a5e6de72943f9", func := "pressmark/pressmarklaw13.TurnsOrder", spec := "turnsOrder", unfollowed := true, recurses := true, apart := false }
def TurnsOrderSaid : Prop := turnsOrderRow.holds Try.pinned (OpenSpec.ofChange turnsOrderSpec)

/-- ITS FALSE NEIGHBOUR: 'it returns false'. Refute it at one input. -/
def turnsOrderWrong : ChangeSpec := { name := "turnsOrder", fn := fun _ => fun
  | [d1, d2, d3] => { results := [.lit (.bool false)], args := [d1, d2, d3] }
  | _ => none }
def TurnsOrderWrongFalsely : Prop := turnsOrderRow.holds Try.pinned (OpenSpec.ofChange turnsOrderWrong)

/-- 'pressmarklaw13.TurnsLast': WHATEVER THE INPUT: true; the input reads as it did. -/
def turnsLastSpec : ChangeSpec := { name := "turnsLast", fn := fun _ => fun
  | [d1, d2, d3] => { results := [.lit (.bool true)], args := [d1, d2, d3] }
  | _ => none }
def turnsLastRow : OpenClaim := { program := "ythjmpiekjfnoiaa", sum := "781c2139412eec14a6e110e24adb18c556b453c2b859a41d807a5e6de72943f9", func := "pressmark/pressmarklaw13.TurnsLast", spec := "turnsLast", unfollowed := true, recurses := true, apart := false }
def TurnsLastSaid : Prop := turnsLastRow.holds Try.pinned (OpenSpec.ofChange turnsLastSpec)

/-- ITS FALSE NEIGHBOUR: 'it returns false'. Refute it at one input. -/
def turnsLastWrong : ChangeSpec := { name := "turnsLast", fn := fun _ => fun
  | [d1, d2, d3] => { results := [.lit (.bool false)], args := [d1, d2, d3] }
  | _ => none }
def TurnsLastWrongFalsely : Prop := turnsLastRow.holds Try.pinned (OpenSpec.ofChange turnsLastWrong)

/-- 'pressmarklaw13.TurnsTurned': WHATEVER THE INPUT: true; the input reads as it did. -/
def turnsTurnedSpec : ChangeSpec := { name := "turnsTurned", fn := fun _ => fun
  | [d1, d2, d3, d4] => { results := [.lit (.bool true)], args := [d1, d2, d3, d4] }
  | _ => none }
def turnsTurnedRow : OpenClaim := { program := "ythjmpiekjfnoiaa", sum := "781c2139412eec14a6e110e24adb18c556b453c2b859a41d807a5e6de72943f9", func := "pressmark/pressmarklaw13.TurnsTurned", spec := "turnsTurned", unfollowed := true, recurses := true, apart := false }
def TurnsTurnedSaid : Prop := turnsTurnedRow.holds Try.pinned (OpenSpec.ofChange turnsTurnedSpec)

/-- ITS FALSE NEIGHBOUR: 'it returns false'. Refute it at one input. -/
def turnsTurnedWrong : ChangeSpec := { name := "turnsTurned", fn := fun _ => fun
  | [d1, d2, d3, d4] => { results := [.lit (.bool false)], args := [d1, d2, d3, d4] }
  | _ => none }
def TurnsTurnedWrongFalsely : Prop := turnsTurnedRow.holds Try.pinned (OpenSpec.ofChange turnsTurnedWrong)

/-- 'pressmarklaw13.TurnsTimes': WHATEVER THE INPUT: true; the input reads as it did. -/
def turnsTimesSpec : ChangeSpec := { name := "turnsTimes", fn := fun _ => fun
  | [d1, d2, d3] => { results := [.lit (.bool true)], args := [d1, d2, d3] }
  | _ => none }
def turnsTimesRow : OpenClaim := { program := "ythjmpiekjfnoiaa", sum := "781c2139412eec14a6e110e24adb18c556b453c2b859a41d807a5e6de72943f9", func := "pressmark/pressmarklaw13.TurnsTimes", spec := "turnsTimes", unfollowed := true, recurses := true, apart := false }
def TurnsTimesSaid : Prop := turnsTimesRow.holds Try.pinned (OpenSpec.ofChange turnsTimesSpec)

/-- ITS FALSE NEIGHBOUR: 'it returns false'. Refute it at one input. -/
def turnsTimesWrong : ChangeSpec := { name := "turnsTimes", fn := fun _ => fun
  | [d1, d2, d3] => { results := [.lit (.bool false)], args := [d1, d2, d3] }
  | _ => none }
def TurnsTimesWrongFalsely : Prop := turnsTimesRow.holds Try.pinned (OpenSpec.ofChange turnsTimesWrong)

/-- 'pressmarklaw13.TurnsFirst': WHATEVER THE INPUT: true; the input reads as it did. -/
def turnsFirstSpec : ChangeSpec := { name := "turnsFirst", fn := fun _ => fun
  | [d1, d2, d3] => { results := [.lit (.bool true)], args := [d1, d2, d3] }
  | _ => none }
def turnsFirstRow : OpenClaim := { program := "ythjmpiekjfnoiaa", sum := "781c2139412eec14a6e110e24adb18c556b453c2b859a41d807a5e6de72943f9", func := "pressmark/pressmarklaw13.TurnsFirst", spec := "turnsFirst", unfollowed := true, recurses := true, apart := false }
def TurnsFirstSaid : Prop := turnsFirstRow.holds Try.pinned (OpenSpec.ofChange turnsFirstSpec)

/-- ITS FALSE NEIGHBOUR: 'it returns false'. Refute it at one input. -/
def turnsFirstWrong : ChangeSpec := { name := "turnsFirst", fn := fun _ => fun
  | [d1, d2, d3] => { results := [.lit (.bool false)], args := [d1, d2, d3] }
  | _ => none }
def TurnsFirstWrongFalsely : Prop := turnsFirstRow.holds Try.pinned (OpenSpec.ofChange turnsFirstWrong)

/-- 'pressmarklaw14.UnturnBack': WHATEVER THE INPUT: true; the input reads as it did. -/
def unturnBackSpec : ChangeSpec := { name := "unturnBack", fn := fun _ => fun
  | [d1, d2, d3, d4] => { results := [.lit (.bool true)], args := [d1, d2, d3, d4] }
  | _ => none }
def unturnBackRow : OpenClaim := { program := "ythjmpiekjfnoiaa", sum := "781c2139412eec14a6e110e24adb18c556b453c2b859a41d807a5e6de72943f9", func := "pressmark/pressmarklaw14.UnturnBack", spec := "unturnBack", unfollowed := true, recurses := true, apart := false }
def UnturnBackSaid : Prop := unturnBackRow.holds Try.pinned (OpenSpec.ofChange unturnBackSpec)

/-- ITS FALSE NEIGHBOUR: 'it returns false'. Refute it at one input. -/
def unturnBackWrong : ChangeSpec := { name := "unturnBack", fn := fun _ => fun
  | [d1, d2, d3, d4] => { results := [.lit (.bool false)], args := [d1, d2, d3, d4] }
  | _ => none }
def UnturnBackWrongFalsely : Prop := unturnBackRow.holds Try.pinned (OpenSpec.ofChange unturnBackWrong)

/-- 'pressmarklaw14.UnturnOne': WHATEVER THE INPUT: true; the input reads as it did. -/
def unturnOneSpec : ChangeSpec := { name := "unturnOne", fn := fun _ => fun
  | [d1, d2, d3] => { results := [.lit (.bool true)], args := [d1, d2, d3] }
  | _ => none }
def unturnOneRow : OpenClaim := { program := "ythjmpiekjfnoiaa", sum := "781c2139412eec14a6e110e24adb18c556b453c2b859a41d807a5e6de72943f9", func := "pressmark/pressmarklaw14.UnturnOne", spec := "unturnOne", unfollowed := true, recurses := true, apart := false }
def UnturnOneSaid : Prop := unturnOneRow.holds Try.pinned (OpenSpec.ofChange unturnOneSpec)

/-- ITS FALSE NEIGHBOUR: 'it returns false'. Refute it at one input. -/
def unturnOneWrong : ChangeSpec := { name := "unturnOne", fn := fun _ => fun
  | [d1, d2, d3] => { results := [.lit (.bool false)], args := [d1, d2, d3] }
  | _ => none }
def UnturnOneWrongFalsely : Prop := unturnOneRow.holds Try.pinned (OpenSpec.ofChange unturnOneWrong)

/-- 'pressmarklaw14.UnturnRounds': WHATEVER THE INPUT: true; the input reads as it did. -/
def unturnRoundsSpec : ChangeSpec := { name := "unturnRounds", fn := fun _ => fun
  | [d1, d2, d3] => { results := [.lit (.bool true)], args := [d1, d2, d3] }
  | _ => none }
def unturnRoundsRow : OpenClaim := { program := "ythjmpiekjfnoiaa", sum := "781c2139412eec14a6e110e24adb18c556b453c2b859a41d807a5e6de72943f9", func := "pressmark/pressmarklaw14.UnturnRounds", spec := "unturnRounds", unfollowed := true, recurses := true, apart := false }
def UnturnRoundsSaid : Prop := unturnRoundsRow.holds Try.pinned (OpenSpec.ofChange unturnRoundsSpec)

/-- ITS FALSE NEIGHBOUR: 'it returns false'. Refute it at one input. -/
def unturnRoundsWrong : ChangeSpec := { name := "unturnRounds", fn := fun _ => fun
  | [d1, d2, d3] => { results := [.lit (.bool false)], args := [d1, d2, d3] }
  | _ => none }
def UnturnRoundsWrongFalsely : Prop := unturnRoundsRow.holds Try.pinned (OpenSpec.ofChange unturnRoundsWrong)

/- THE SECOND FORM. 'bulk': how many values and letters a reading holds, each counted each time it is reached (what is shared counts as often as it is met; a slice's spare places count too). A statement '..UptoSaid' is the law's where the arguments, and the package variables that the reading takes, are together of bulk at most 1048576: NARROWER than '..Said'. Prove '..Said' where nothing that the law and all that it calls make is longer than what came in: it says more and counts as full. Else prove '..UptoSaid'. A law counts once. -/
mutual
def uptoBulk {H : Type} : DataW H → Nat
  | .lit (.string bytes) => bytes.length + 1
  | .lit _ => 1
  | .nil => 1
  | .ptr d => uptoBulk d + 1
  | .slice elems spare => uptoBulkAll elems + uptoBulkAll spare + 1
  | .agg parts => uptoBulkAll parts + 1
  | .iface _ d => uptoBulk d + 1
  | .map entries => uptoBulkEntries entries + 1
  | .held _ => 1
def uptoBulkAll {H : Type} : List (DataW H) → Nat
  | [] => 0
  | d :: r => uptoBulk d + uptoBulkAll r
def uptoBulkEntries {H : Type} : List (Lit × DataW H) → Nat
  | [] => 0
  | x :: r => uptoBulkEntry x + uptoBulkEntries r
def uptoBulkEntry {H : Type} : Lit × DataW H → Nat
  | (.string bytes, d) => bytes.length + uptoBulk d + 1
  | (_, d) => uptoBulk d + 1
 end
def uptoSmall : (H : Type) → List (DataW H) → Bool := fun _ ds => decide (uptoBulkAll ds ≤ 1048576)
def OpenSpec.upto (s : _root_.Go.ChangeSpec) : _root_.Go.OpenSpec := { _root_.Go.OpenSpec.ofChange s with cond := some uptoSmall }

/-- 'pressmarklaw14.UnturnTells', WHERE WHAT IT READS IS OF BULK AT MOST 1048576: true; the input reads as it did. -/
def unturnTellsUptoRow : OpenClaim := { program := "ythjmpiekjfnoiaa", sum := "781c2139412eec14a6e110e24adb18c556b453c2b859a41d807a5e6de72943f9", func := "pressmark/pressmarklaw14.UnturnTells", spec := "unturnTells", apart := false, narrowed := true }
def UnturnTellsUptoSaid : Prop := unturnTellsUptoRow.holds Try.pinned (OpenSpec.upto unturnTellsSpec)

/-- 'pressmarklaw14.UnturnVector', WHERE WHAT IT READS IS OF BULK AT MOST 1048576: true; the input reads as it did. -/
def unturnVectorUptoRow : OpenClaim := { program := "ythjmpiekjfnoiaa", sum := "781c2139412eec14a6e110e24adb18c556b453c2b859a41d807a5e6de72943f9", func := "pressmark/pressmarklaw14.UnturnVector", spec := "unturnVector", apart := false, narrowed := true }
def UnturnVectorUptoSaid : Prop := unturnVectorUptoRow.holds Try.pinned (OpenSpec.upto unturnVectorSpec)

/-- 'pressmarklaw14.UnturnNext', WHERE WHAT IT READS IS OF BULK AT MOST 1048576: true; the input reads as it did. -/
def unturnNextUptoRow : OpenClaim := { program := "ythjmpiekjfnoiaa", sum := "781c2139412eec14a6e110e24adb18c556b453c2b859a41d807a5e6de72943f9", func := "pressmark/pressmarklaw14.UnturnNext", spec := "unturnNext", apart := false, narrowed := true }
def UnturnNextUptoSaid : Prop := unturnNextUptoRow.holds Try.pinned (OpenSpec.upto unturnNextSpec)

/-- 'pressmarklaw13.TurnsTells', WHERE WHAT IT READS IS OF BULK AT MOST 1048576: true; the input reads as it did. -/
def turnsTellsUptoRow : OpenClaim := { program := "ythjmpiekjfnoiaa", sum := "781c2139412eec14a6e110e24adb18c556b453c2b859a41d807a5e6de72943f9", func := "pressmark/pressmarklaw13.TurnsTells", spec := "turnsTells", unfollowed := true, recurses := true, apart := false, narrowed := true }
def TurnsTellsUptoSaid : Prop := turnsTellsUptoRow.holds Try.pinned (OpenSpec.upto turnsTellsSpec)

/-- 'pressmarklaw13.TurnsOrder', WHERE WHAT IT READS IS OF BULK AT MOST 1048576: true; the input reads as it did. -/
def turnsOrderUptoRow : OpenClaim := { program := "ythjmpiekjfnoiaa", sum := "781c2139412eec14a6e110e24adb18c556b453c2b859a41d807a5e6de72943f9", func := "pressmark/pressmarklaw13.TurnsOrder", spec := "turnsOrder", unfollowed := true, recurses := true, apart := false, narrowed := true }
def TurnsOrderUptoSaid : Prop := turnsOrderUptoRow.holds Try.pinned (OpenSpec.upto turnsOrderSpec)

/-- 'pressmarklaw13.TurnsLast', WHERE WHAT IT READS IS OF BULK AT MOST 1048576: true; the input reads as it did. -/
def turnsLastUptoRow : OpenClaim := { program := "ythjmpiekjfnoiaa", sum := "781c2139412eec14a6e110e24adb18c556b453c2b859a41d807a5e6de72943f9", func := "pressmark/pressmarklaw13.TurnsLast", spec := "turnsLast", unfollowed := true, recurses := true, apart := false, narrowed := true }
def TurnsLastUptoSaid : Prop := turnsLastUptoRow.holds Try.pinned (OpenSpec.upto turnsLastSpec)

/-- 'pressmarklaw13.TurnsTurned', WHERE WHAT IT READS IS OF BULK AT MOST 1048576: true; the input reads as it did. -/
def turnsTurnedUptoRow : OpenClaim := { program := "ythjmpiekjfnoiaa", sum := "781c2139412eec14a6e110e24adb18c556b453c2b859a41d807a5e6de72943f9", func := "pressmark/pressmarklaw13.TurnsTurned", spec := "turnsTurned", unfollowed := true, recurses := true, apart := false, narrowed := true }
def TurnsTurnedUptoSaid : Prop := turnsTurnedUptoRow.holds Try.pinned (OpenSpec.upto turnsTurnedSpec)

/-- 'pressmarklaw13.TurnsTimes', WHERE WHAT IT READS IS OF BULK AT MOST 1048576: true; the input reads as it did. -/
def turnsTimesUptoRow : OpenClaim := { program := "ythjmpiekjfnoiaa", sum := "781c2139412eec14a6e110e24adb18c556b453c2b859a41d807a5e6de72943f9", func := "pressmark/pressmarklaw13.TurnsTimes", spec := "turnsTimes", unfollowed := true, recurses := true, apart := false, narrowed := true }
def TurnsTimesUptoSaid : Prop := turnsTimesUptoRow.holds Try.pinned (OpenSpec.upto turnsTimesSpec)

/-- 'pressmarklaw13.TurnsFirst', WHERE WHAT IT READS IS OF BULK AT MOST 1048576: true; the input reads as it did. -/
def turnsFirstUptoRow : OpenClaim := { program := "ythjmpiekjfnoiaa", sum := "781c2139412eec14a6e110e24adb18c556b453c2b859a41d807a5e6de72943f9", func := "pressmark/pressmarklaw13.TurnsFirst", spec := "turnsFirst", unfollowed := true, recurses := true, apart := false, narrowed := true }
def TurnsFirstUptoSaid : Prop := turnsFirstUptoRow.holds Try.pinned (OpenSpec.upto turnsFirstSpec)

/-- 'pressmarklaw14.UnturnBack', WHERE WHAT IT READS IS OF BULK AT MOST 1048576: true; the input reads as it did. -/
def unturnBackUptoRow : OpenClaim := { program := "ythjmpiekjfnoiaa", sum := "781c2139412eec14a6e110e24adb18c556b453c2b859a41d807a5e6de72943f9", func := "pressmark/pressmarklaw14.UnturnBack", spec := "unturnBack", unfollowed := true, recurses := true, apart := false, narrowed := true }
def UnturnBackUptoSaid : Prop := unturnBackUptoRow.holds Try.pinned (OpenSpec.upto unturnBackSpec)

/-- 'pressmarklaw14.UnturnOne', WHERE WHAT IT READS IS OF BULK AT MOST 1048576: true; the input reads as it did. -/
def unturnOneUptoRow : OpenClaim := { program := "ythjmpiekjfnoiaa", sum := "781c2139412eec14a6e110e24adb18c556b453c2b859a41d807a5e6de72943f9", func := "pressmark/pressmarklaw14.UnturnOne", spec := "unturnOne", unfollowed := true, recurses := true, apart := false, narrowed := true }
def UnturnOneUptoSaid : Prop := unturnOneUptoRow.holds Try.pinned (OpenSpec.upto unturnOneSpec)

/-- 'pressmarklaw14.UnturnRounds', WHERE WHAT IT READS IS OF BULK AT MOST 1048576: true; the input reads as it did. -/
def unturnRoundsUptoRow : OpenClaim := { program := "ythjmpiekjfnoiaa", sum := "781c2139412eec14a6e110e24adb18c556b453c2b859a41d807a5e6de72943f9", func := "pressmark/pressmarklaw14.UnturnRounds", spec := "unturnRounds", unfollowed := true, recurses := true, apart := false, narrowed := true }
def UnturnRoundsUptoSaid : Prop := unturnRoundsUptoRow.holds Try.pinned (OpenSpec.upto unturnRoundsSpec)

end Rows
end Go.Proofs.Ythjmpiekjfnoiaa

/-
  NARROWER THAN 'FOR EVERY INPUT', by the rows' own cells (each row's printed sentence says how): SeekExact: laid · SeekChunks: laid · SeekList: laid · SeekSafe: laid.
  DERIVED. THE GIVEN ROWS OF THIS SEAT. 4 by the template 'for every input the law returns true; each argument reads behind the call as it read before'; 0 by the template 'total and deterministic' (their statements: YtfckbfofgeilgaaGreatDoorTotals.lean).
  GIVEN WITH THE SEED: the statements are not yours to turn. If you find one false, say at which input.
  Laid BY PROGRAM, IN A SANDBOX (cutbox-rows.mjs): the forced cells as the released guide's own fill.sh prints them over the translation 29c32a3a643ec40e… (all of the seat's roots in one cut). By AI agents, Wed Nov 11 2026. No macro, syntax, notation, axiom, sorry.
-/
import Derived.Test.YtfckbfofgeilgaaGreatDoorChecked
import GoSem.Claim
import GoSem.ClaimJoined
import GoSem.ClaimMapViews
import Derived.JoinedTies
import Derived.KernelRfl
namespace Go.Proofs.YtfckbfofgeilgaaGreatDoor
/- THE CELL 'sum', in the pinned program and in every row, IS THE sha256 OF THE DUMP (.gsa) THAT YtfckbfofgeilgaaGreatDoorProg.lean LOADS. Nothing in Lean hashes anything: it is a label: what it is worth is what the hold of that sum in a sandbox is worth. -/
noncomputable def Tryz.pinned : Pinned := { name := "ytfckbfofgeilgaagreatdoor", sum := "29c32a3a643ec40eade8dc0287837ca63fc9fd08cac0b4c9244ea6a1b13d2d3c", checked := Tryz.checked }
namespace Rows
def none {H : Type} : Left H := { results := [], args := [] }

/- WHAT THE LISTED PACKAGE-LEVEL VARIABLES READ AS WHEN THE CALL BEGINS. Each datum BY PROGRAM (the guide's laid-datum.mjs) off the statement by which the dump's own 'gosem.cut.vars' lays the variable. In a bare row this is a premise. The card (YtfckbfofgeilgaaGreatDoorCards.lean) ties it to the program's text. -/
def laid_errors_errorType {H : Type} : DataW H := .iface "internal/reflectlite.rtype" (.agg [.ptr (.lit (.string [101, 114, 114, 111, 114]))])

/-- 'pressmarklaw22.SeekExact': WHATEVER THE INPUT: true; the input reads as it did. -/
def seekExactSpec : ChangeSpec := { name := "seekExact", fn := fun _ => fun
  | [d1, d2, d3, d4, d5] => { results := [.lit (.bool true)], args := [d1, d2, d3, d4, d5] }
  | _ => none }
def seekExactRow : OpenClaim := { program := "ytfckbfofgeilgaagreatdoor", sum := "29c32a3a643ec40eade8dc0287837ca63fc9fd08cac0b4c9244ea6a1b13d2d3c", func := "pressmark/pressmarklaw22.SeekExact", spec := "seekExact", inPlace := ["internal/reflectlite.ValueOf", "(internal/reflectlite.Value).Type", "(internal/reflectlite.Value).IsNil", "internal/reflectlite.TypeOf", "(internal/reflectlite.Value).Elem", "(internal/reflectlite.Value).Set", "internal/abi.NoEscape"], unfollowed := true, recurses := true, named := ["errors.errorType"], apart := false, laid := [("errors.errorType", laid_errors_errorType)] }
def SeekExactSaid : Prop := seekExactRow.holds Tryz.pinned (OpenSpec.ofChange seekExactSpec)

/-- ITS FALSE NEIGHBOUR: 'it returns false'. Refute it at one input. -/
def seekExactWrong : ChangeSpec := { name := "seekExact", fn := fun _ => fun
  | [d1, d2, d3, d4, d5] => { results := [.lit (.bool false)], args := [d1, d2, d3, d4, d5] }
  | _ => none }
def SeekExactWrongFalsely : Prop := seekExactRow.holds Tryz.pinned (OpenSpec.ofChange seekExactWrong)

/-- 'pressmarklaw22.SeekChunks': WHATEVER THE INPUT: true; the input reads as it did. -/
def seekChunksSpec : ChangeSpec := { name := "seekChunks", fn := fun _ => fun
  | [d1, d2, d3, d4] => { results := [.lit (.bool true)], args := [d1, d2, d3, d4] }
  | _ => none }
def seekChunksRow : OpenClaim := { program := "ytfckbfofgeilgaagreatdoor", sum := "29c32a3a643ec40eade8dc0287837ca63fc9fd08cac0b4c9244ea6a1b13d2d3c", func := "pressmark/pressmarklaw22.SeekChunks", spec := "seekChunks", inPlace := ["internal/reflectlite.ValueOf", "(internal/reflectlite.Value).Type", "(internal/reflectlite.Value).IsNil", "internal/reflectlite.TypeOf", "(internal/reflectlite.Value).Elem", "(internal/reflectlite.Value).Set", "internal/abi.NoEscape"], unfollowed := true, recurses := true, named := ["errors.errorType"], apart := false, laid := [("errors.errorType", laid_errors_errorType)] }
def SeekChunksSaid : Prop := seekChunksRow.holds Tryz.pinned (OpenSpec.ofChange seekChunksSpec)

/-- ITS FALSE NEIGHBOUR: 'it returns false'. Refute it at one input. -/
def seekChunksWrong : ChangeSpec := { name := "seekChunks", fn := fun _ => fun
  | [d1, d2, d3, d4] => { results := [.lit (.bool false)], args := [d1, d2, d3, d4] }
  | _ => none }
def SeekChunksWrongFalsely : Prop := seekChunksRow.holds Tryz.pinned (OpenSpec.ofChange seekChunksWrong)

/-- 'pressmarklaw22.SeekList': WHATEVER THE INPUT: true; the input reads as it did. -/
def seekListSpec : ChangeSpec := { name := "seekList", fn := fun _ => fun
  | [d1, d2, d3, d4] => { results := [.lit (.bool true)], args := [d1, d2, d3, d4] }
  | _ => none }
def seekListRow : OpenClaim := { program := "ytfckbfofgeilgaagreatdoor", sum := "29c32a3a643ec40eade8dc0287837ca63fc9fd08cac0b4c9244ea6a1b13d2d3c", func := "pressmark/pressmarklaw22.SeekList", spec := "seekList", inPlace := ["internal/reflectlite.ValueOf", "(internal/reflectlite.Value).Type", "(internal/reflectlite.Value).IsNil", "internal/reflectlite.TypeOf", "(internal/reflectlite.Value).Elem", "(internal/reflectlite.Value).Set", "internal/abi.NoEscape"], unfollowed := true, recurses := true, named := ["errors.errorType"], apart := false, laid := [("errors.errorType", laid_errors_errorType)] }
def SeekListSaid : Prop := seekListRow.holds Tryz.pinned (OpenSpec.ofChange seekListSpec)

/-- ITS FALSE NEIGHBOUR: 'it returns false'. Refute it at one input. -/
def seekListWrong : ChangeSpec := { name := "seekList", fn := fun _ => fun
  | [d1, d2, d3, d4] => { results := [.lit (.bool false)], args := [d1, d2, d3, d4] }
  | _ => none }
def SeekListWrongFalsely : Prop := seekListRow.holds Tryz.pinned (OpenSpec.ofChange seekListWrong)

/-- 'pressmarklaw22.SeekSafe': WHATEVER THE INPUT: true; the input reads as it did. -/
def seekSafeSpec : ChangeSpec := { name := "seekSafe", fn := fun _ => fun
  | [d1, d2, d3, d4, d5, d6] => { results := [.lit (.bool true)], args := [d1, d2, d3, d4, d5, d6] }
  | _ => none }
def seekSafeRow : OpenClaim := { program := "ytfckbfofgeilgaagreatdoor", sum := "29c32a3a643ec40eade8dc0287837ca63fc9fd08cac0b4c9244ea6a1b13d2d3c", func := "pressmark/pressmarklaw22.SeekSafe", spec := "seekSafe", inPlace := ["internal/reflectlite.ValueOf", "(internal/reflectlite.Value).Type", "(internal/reflectlite.Value).IsNil", "internal/reflectlite.TypeOf", "(internal/reflectlite.Value).Elem", "(internal/reflectlite.Value).Set", "internal/abi.NoEscape"], unfollowed := true, recurses := true, named := ["errors.errorType"], apart := false, laid := [("errors.errorType", laid_errors_errorType)] }
def SeekSafeSaid : Prop := seekSafeRow.holds Tryz.pinned (OpenSpec.ofChange seekSafeSpec)

/-- ITS FALSE NEIGHBOUR: 'it returns false'. Refute it at one input. -/
def seekSafeWrong : ChangeSpec := { name := "seekSafe", fn := fun _ => fun
  | [d1, d2, d3, d4, d5, d6] => { results := [.lit (.bool false)], args := [d1, d2, d3, d4, d5, d6] }
  | _ => none }
def SeekSafeWrongFalsely : Prop := seekSafeRow.holds Tryz.pinned (OpenSpec.ofChange seekSafeWrong)

/- THE SECOND FORM. 'bulk': how many values and letters a reading holds, each counted each time it is reached (what is shared counts as often as it is met; a slice's spare places count too). A statement '..UptoSaid' is the law's where the arguments, and the package variables that the reading takes, are together of bulk at most 1048576: NARROWER than '..Said'. Prove '..Said' where nothing that the law and all that it calls make is longer than what came in: it says more and counts as full. Else prove '..UptoSaid'. A law counts once. -/
mutual
def uptoBulk {H : Type} : DataW H → Nat
  | .lit (.string bytes) => bytes.length + 1
  | .lit _ => 1
  | .nil => 1
  | .ptr d => uptoBulk d + 1
  | .slice elems spare => uptoBulkAll elems + uptoBulkAll spare + 1
  | .agg parts => uptoBulkAll parts + 1
  | .iface _ d => uptoBulk d + 1
  | .map entries => uptoBulkEntries entries + 1
  | .held _ => 1
def uptoBulkAll {H : Type} : List (DataW H) → Nat
  | [] => 0
  | d :: r => uptoBulk d + uptoBulkAll r
def uptoBulkEntries {H : Type} : List (Lit × DataW H) → Nat
  | [] => 0
  | x :: r => uptoBulkEntry x + uptoBulkEntries r
def uptoBulkEntry {H : Type} : Lit × DataW H → Nat
  | (.string bytes, d) => bytes.length + uptoBulk d + 1
  | (_, d) => uptoBulk d + 1
 end
def uptoSmall : (H : Type) → List (DataW H) → Bool := fun _ ds => decide (uptoBulkAll ds ≤ 1048576)
def OpenSpec.upto (s : _root_.Go.ChangeSpec) : _root_.Go.OpenSpec := { _root_.Go.OpenSpec.ofChange s with cond := some uptoSmall }

/-- 'pressmarklaw22.SeekExact', WHERE WHAT IT READS IS OF BULK AT MOST 1048576: true; the input reads as it did. -/
def seekExactUptoRow : OpenClaim := { program := "ytfckbfofgeilgaagreatdoor", sum := "29c32a3a643ec40eade8dc0287837ca63fc9fd08cac0b4c9244ea6a1b13d2d3c", func := "pressmark/pressmarklaw22.SeekExact", spec := "seekExact", inPlace := ["internal/reflectlite.ValueOf", "(internal/reflectlite.Value).Type", "(internal/reflectlite.Value).IsNil", "internal/reflectlite.TypeOf", "(internal/reflectlite.Value).Elem", "(internal/reflectlite.Value).Set", "internal/abi.NoEscape"], unfollowed := true, recurses := true, named := ["errors.errorType"], apart := false, laid := [("errors.errorType", laid_errors_errorType)], narrowed := true }
def SeekExactUptoSaid : Prop := seekExactUptoRow.holds Tryz.pinned (OpenSpec.upto seekExactSpec)

/-- 'pressmarklaw22.SeekChunks', WHERE WHAT IT READS IS OF BULK AT MOST 1048576: true; the input reads as it did. -/
def seekChunksUptoRow : OpenClaim := { program := "ytfckbfofgeilgaagreatdoor", sum := "29c32a3a643ec40eade8dc0287837ca63fc9fd08cac0b4c9244ea6a1b13d2d3c", func := "pressmark/pressmarklaw22.SeekChunks", spec := "seekChunks", inPlace := ["internal/reflectlite.ValueOf", "(internal/reflectlite.Value).Type", "(internal/reflectlite.Value).IsNil", "internal/reflectlite.TypeOf", "(internal/reflectlite.Value).Elem", "(internal/reflectlite.Value).Set", "internal/abi.NoEscape"], unfollowed := true, recurses := true, named := ["errors.errorType"], apart := false, laid := [("errors.errorType", laid_errors_errorType)], narrowed := true }
def SeekChunksUptoSaid : Prop := seekChunksUptoRow.holds Tryz.pinned (OpenSpec.upto seekChunksSpec)

/-- 'pressmarklaw22.SeekList', WHERE WHAT IT READS IS OF BULK AT MOST 1048576: true; the input reads as it did. -/
def seekListUptoRow : OpenClaim := { program := "ytfckbfofgeilgaagreatdoor", sum := "29c32a3a643ec40eade8dc0287837ca63fc9fd08cac0b4c9244ea6a1b13d2d3c", func := "pressmark/pressmarklaw22.SeekList", spec := "seekList", inPlace := ["internal/reflectlite.ValueOf", "(internal/reflectlite.Value).Type", "(internal/reflectlite.Value).IsNil", "internal/reflectlite.TypeOf", "(internal/reflectlite.Value).Elem", "(internal/reflectlite.Value).Set", "internal/abi.NoEscape"], unfollowed := true, recurses := true, named := ["errors.errorType"], apart := false, laid := [("errors.errorType", laid_errors_errorType)], narrowed := true }
def SeekListUptoSaid : Prop := seekListUptoRow.holds Tryz.pinned (OpenSpec.upto seekListSpec)

/-- 'pressmarklaw22.SeekSafe', WHERE WHAT IT READS IS OF BULK AT MOST 1048576: true; the input reads as it did. -/
def seekSafeUptoRow : OpenClaim := { program := "ytfckbfofgeilgaagreatdoor", sum := "29c32a3a643ec40eade8dc0287837ca63fc9fd08cac0b4c9244ea6a1b13d2d3c", func := "pressmark/pressmarklaw22.SeekSafe", spec := "seekSafe", inPlace := ["internal/reflectlite.ValueOf", "(internal/reflectlite.Value).Type", "(internal/reflectlite.Value).IsNil", "internal/reflectlite.TypeOf", "(internal/reflectlite.Value).Elem", "(internal/reflectlite.Value).Set", "internal/abi.NoEscape"], unfollowed := true, recurses := true, named := ["errors.errorType"], apart := false, laid := [("errors.errorType", laid_errors_errorType)], narrowed := true }
def SeekSafeUptoSaid : Prop := seekSafeUptoRow.holds Tryz.pinned (OpenSpec.upto seekSafeSpec)

end Rows
end Go.Proofs.YtfckbfofgeilgaaGreatDoor

/-
  NARROWER THAN 'FOR EVERY INPUT', by the rows' own cells (each row's printed sentence says how): StreamTells: laid · StreamSafe: laid · PackTells: laid · IndexTells: laid · IndexScan: laid · IndexMore: laid.
  DERIVED. THE GIVEN ROWS OF THIS SEAT. 6 by the template 'for every input the law returns true; each argument reads behind the call as it read before'; 0 by the template 'total and deterministic' (their statements: YtihbnmlinkbnkaaGreatDoorTotals.lean).
  GIVEN WITH THE SEED: the statements are not yours to turn. If you find one false, say at which input.
  Laid BY PROGRAM, IN A SANDBOX (cutbox-rows.mjs): the forced cells as the released guide's own fill.sh prints them over the translation 581cf4fffc8b6e6b… (all of the seat's roots in one cut). By AI agents, Wed Nov 11 2026. No macro, syntax, notation, axiom, sorry.
-/
import Derived.Test.YtihbnmlinkbnkaaGreatDoorChecked
import GoSem.Claim
import GoSem.ClaimJoined
import GoSem.ClaimMapViews
import Derived.JoinedTies
import Derived.KernelRfl
namespace Go.Proofs.YtihbnmlinkbnkaaGreatDoor
/- THE CELL 'sum', in the pinned program and in every row, IS THE sha256 OF THE DUMP (.gsa) THAT YtihbnmlinkbnkaaGreatDoorProg.lean LOADS. Nothing in Lean hashes anything: it is a label: what it is worth is what the hold of that sum in a sandbox is worth. -/
noncomputable def Tryz.pinned : Pinned := { name := "ytihbnmlinkbnkaagreatdoor", sum := "581cf4fffc8b6e6bd020667551ec71276e7f359260d9075bb620c211d434deb1", checked := Tryz.checked }
namespace Rows
def none {H : Type} : Left H := { results := [], args := [] }

/- WHAT THE LISTED PACKAGE-LEVEL VARIABLES READ AS WHEN THE CALL BEGINS. Each datum BY PROGRAM (the guide's laid-datum.mjs) off the statement by which the dump's own 'gosem.cut.vars' lays the variable. In a bare row this is a premise. The card (YtihbnmlinkbnkaaGreatDoorCards.lean) ties it to the program's text. -/
def laid_errors_errorType {H : Type} : DataW H := .iface "internal/reflectlite.rtype" (.agg [.ptr (.lit (.string [101, 114, 114, 111, 114]))])

/-- 'pressmarklaw17.StreamTells': WHATEVER THE INPUT: true; the input reads as it did. -/
def streamTellsSpec : ChangeSpec := { name := "streamTells", fn := fun _ => fun
  | [d1, d2, d3, d4, d5, d6, d7, d8] => { results := [.lit (.bool true)], args := [d1, d2, d3, d4, d5, d6, d7, d8] }
  | _ => none }
def streamTellsRow : OpenClaim := { program := "ytihbnmlinkbnkaagreatdoor", sum := "581cf4fffc8b6e6bd020667551ec71276e7f359260d9075bb620c211d434deb1", func := "pressmark/pressmarklaw17.StreamTells", spec := "streamTells", inPlace := ["internal/abi.NoEscape", "internal/bytealg.IndexByte", "internal/reflectlite.ValueOf", "(internal/reflectlite.Value).Type", "(internal/reflectlite.Value).IsNil", "internal/reflectlite.TypeOf", "(internal/reflectlite.Value).Elem", "(internal/reflectlite.Value).Set"], unfollowed := true, recurses := true, named := ["errors.errorType"], apart := false, laid := [("errors.errorType", laid_errors_errorType)] }
def StreamTellsSaid : Prop := streamTellsRow.holds Tryz.pinned (OpenSpec.ofChange streamTellsSpec)

/-- ITS FALSE NEIGHBOUR: 'it returns false'. Refute it at one input. -/
def streamTellsWrong : ChangeSpec := { name := "streamTells", fn := fun _ => fun
  | [d1, d2, d3, d4, d5, d6, d7, d8] => { results := [.lit (.bool false)], args := [d1, d2, d3, d4, d5, d6, d7, d8] }
  | _ => none }
def StreamTellsWrongFalsely : Prop := streamTellsRow.holds Tryz.pinned (OpenSpec.ofChange streamTellsWrong)

/-- 'pressmarklaw17.StreamSafe': WHATEVER THE INPUT: true; the input reads as it did. -/
def streamSafeSpec : ChangeSpec := { name := "streamSafe", fn := fun _ => fun
  | [d1, d2, d3, d4, d5, d6] => { results := [.lit (.bool true)], args := [d1, d2, d3, d4, d5, d6] }
  | _ => none }
def streamSafeRow : OpenClaim := { program := "ytihbnmlinkbnkaagreatdoor", sum := "581cf4fffc8b6e6bd020667551ec71276e7f359260d9075bb620c211d434deb1", func := "pressmark/pressmarklaw17.StreamSafe", spec := "streamSafe", inPlace := ["internal/abi.NoEscape", "internal/bytealg.IndexByte", "internal/reflectlite.ValueOf", "(internal/reflectlite.Value).Type", "(internal/reflectlite.Value).IsNil", "internal/reflectlite.TypeOf", "(internal/reflectlite.Value).Elem", "(internal/reflectlite.Value).Set"], unfollowed := true, recurses := true, named := ["errors.errorType"], apart := false, laid := [("errors.errorType", laid_errors_errorType)] }
def StreamSafeSaid : Prop := streamSafeRow.holds Tryz.pinned (OpenSpec.ofChange streamSafeSpec)

/-- ITS FALSE NEIGHBOUR: 'it returns false'. Refute it at one input. -/
def streamSafeWrong : ChangeSpec := { name := "streamSafe", fn := fun _ => fun
  | [d1, d2, d3, d4, d5, d6] => { results := [.lit (.bool false)], args := [d1, d2, d3, d4, d5, d6] }
  | _ => none }
def StreamSafeWrongFalsely : Prop := streamSafeRow.holds Tryz.pinned (OpenSpec.ofChange streamSafeWrong)

/-- 'pressmarklaw18.PackTells': WHATEVER THE INPUT: true; the input reads as it did. -/
def packTellsSpec : ChangeSpec := { name := "packTells", fn := fun _ => fun
  | [d1, d2, d3, d4] => { results := [.lit (.bool true)], args := [d1, d2, d3, d4] }
  | _ => none }
def packTellsRow : OpenClaim := { program := "ytihbnmlinkbnkaagreatdoor", sum := "581cf4fffc8b6e6bd020667551ec71276e7f359260d9075bb620c211d434deb1", func := "pressmark/pressmarklaw18.PackTells", spec := "packTells", inPlace := ["internal/abi.NoEscape", "internal/bytealg.IndexByte", "internal/reflectlite.ValueOf", "(internal/reflectlite.Value).Type", "(internal/reflectlite.Value).IsNil", "internal/reflectlite.TypeOf", "(internal/reflectlite.Value).Elem", "(internal/reflectlite.Value).Set"], unfollowed := true, recurses := true, named := ["errors.errorType"], apart := false, laid := [("errors.errorType", laid_errors_errorType)] }
def PackTellsSaid : Prop := packTellsRow.holds Tryz.pinned (OpenSpec.ofChange packTellsSpec)

/-- ITS FALSE NEIGHBOUR: 'it returns false'. Refute it at one input. -/
def packTellsWrong : ChangeSpec := { name := "packTells", fn := fun _ => fun
  | [d1, d2, d3, d4] => { results := [.lit (.bool false)], args := [d1, d2, d3, d4] }
  | _ => none }
def PackTellsWrongFalsely : Prop := packTellsRow.holds Tryz.pinned (OpenSpec.ofChange packTellsWrong)

/-- 'pressmarklaw19.IndexTells': WHATEVER THE INPUT: true; the input reads as it did. -/
def indexTellsSpec : ChangeSpec := { name := "indexTells", fn := fun _ => fun
  | [d1, d2, d3, d4, d5, d6, d7, d8, d9] => { results := [.lit (.bool true)], args := [d1, d2, d3, d4, d5, d6, d7, d8, d9] }
  | _ => none }
def indexTellsRow : OpenClaim := { program := "ytihbnmlinkbnkaagreatdoor", sum := "581cf4fffc8b6e6bd020667551ec71276e7f359260d9075bb620c211d434deb1", func := "pressmark/pressmarklaw19.IndexTells", spec := "indexTells", inPlace := ["internal/reflectlite.ValueOf", "(internal/reflectlite.Value).Type", "(internal/reflectlite.Value).IsNil", "internal/reflectlite.TypeOf", "(internal/reflectlite.Value).Elem", "(internal/reflectlite.Value).Set", "internal/abi.NoEscape", "internal/bytealg.IndexByte"], unfollowed := true, recurses := true, named := ["errors.errorType"], apart := false, laid := [("errors.errorType", laid_errors_errorType)] }
def IndexTellsSaid : Prop := indexTellsRow.holds Tryz.pinned (OpenSpec.ofChange indexTellsSpec)

/-- ITS FALSE NEIGHBOUR: 'it returns false'. Refute it at one input. -/
def indexTellsWrong : ChangeSpec := { name := "indexTells", fn := fun _ => fun
  | [d1, d2, d3, d4, d5, d6, d7, d8, d9] => { results := [.lit (.bool false)], args := [d1, d2, d3, d4, d5, d6, d7, d8, d9] }
  | _ => none }
def IndexTellsWrongFalsely : Prop := indexTellsRow.holds Tryz.pinned (OpenSpec.ofChange indexTellsWrong)

/-- 'pressmarklaw19.IndexScan': WHATEVER THE INPUT: true; the input reads as it did. -/
def indexScanSpec : ChangeSpec := { name := "indexScan", fn := fun _ => fun
  | [d1, d2, d3, d4, d5, d6] => { results := [.lit (.bool true)], args := [d1, d2, d3, d4, d5, d6] }
  | _ => none }
def indexScanRow : OpenClaim := { program := "ytihbnmlinkbnkaagreatdoor", sum := "581cf4fffc8b6e6bd020667551ec71276e7f359260d9075bb620c211d434deb1", func := "pressmark/pressmarklaw19.IndexScan", spec := "indexScan", inPlace := ["internal/reflectlite.ValueOf", "(internal/reflectlite.Value).Type", "(internal/reflectlite.Value).IsNil", "internal/reflectlite.TypeOf", "(internal/reflectlite.Value).Elem", "(internal/reflectlite.Value).Set", "internal/abi.NoEscape", "internal/bytealg.IndexByte"], unfollowed := true, recurses := true, named := ["errors.errorType"], apart := false, laid := [("errors.errorType", laid_errors_errorType)] }
def IndexScanSaid : Prop := indexScanRow.holds Tryz.pinned (OpenSpec.ofChange indexScanSpec)

/-- ITS FALSE NEIGHBOUR: 'it returns false'. Refute it at one input. -/
def indexScanWrong : ChangeSpec := { name := "indexScan", fn := fun _ => fun
  | [d1, d2, d3, d4, d5, d6] => { results := [.lit (.bool false)], args := [d1, d2, d3, d4, d5, d6] }
  | _ => none }
def IndexScanWrongFalsely : Prop := indexScanRow.holds Tryz.pinned (OpenSpec.ofChange indexScanWrong)

/-- 'pressmarklaw19.IndexMore': WHATEVER THE INPUT: true; the input reads as it did. -/
def indexMoreSpec : ChangeSpec := { name := "indexMore", fn := fun _ => fun
  | [d1, d2, d3, d4, d5] => { results := [.lit (.bool true)], args := [d1, d2, d3, d4, d5] }
  | _ => none }
def indexMoreRow : OpenClaim := { program := "ytihbnmlinkbnkaagreatdoor", sum := "581cf4fffc8b6e6bd020667551ec71276e7f359260d9075bb620c211d434deb1", func := "pressmark/pressmarklaw19.IndexMore", spec := "indexMore", inPlace := ["internal/reflectlite.ValueOf", "(internal/reflectlite.Value).Type", "(internal/reflectlite.Value).IsNil", "internal/reflectlite.TypeOf", "(internal/reflectlite.Value).Elem", "(internal/reflectlite.Value).Set", "internal/abi.NoEscape", "internal/bytealg.IndexByte"], unfollowed := true, recurses := true, named := ["errors.errorType"], apart := false, laid := [("errors.errorType", laid_errors_errorType)] }
def IndexMoreSaid : Prop := indexMoreRow.holds Tryz.pinned (OpenSpec.ofChange indexMoreSpec)

/-- ITS FALSE NEIGHBOUR: 'it returns false'. Refute it at one input. -/
def indexMoreWrong : ChangeSpec := { name := "indexMore", fn := fun _ => fun
  | [d1, d2, d3, d4, d5] => { results := [.lit (.bool false)], args := [d1, d2, d3, d4, d5] }
  | _ => none }
def IndexMoreWrongFalsely : Prop := indexMoreRow.holds Tryz.pinned (OpenSpec.ofChange indexMoreWrong)

/- THE SECOND FORM. 'bulk': how many values and letters a reading holds, each counted each time it is reached (what is shared counts as often as it is met; a slice's spare places count too). A statement '..UptoSaid' is the law's where the arguments, and the package variables that the reading takes, are together of bulk at most 1048576: NARROWER than '..Said'. Prove '..Said' where nothing that the law and all that it calls make is longer than what came in: it says more and counts as full. Else prove '..UptoSaid'. A law counts once. -/
mutual
def uptoBulk {H : Type} : DataW H → Nat
  | .lit (.string bytes) => bytes.length + 1
  | .lit _ => 1
  | .nil => 1
  | .ptr d => uptoBulk d + 1
  | .slice elems spare => uptoBulkAll elems + uptoBulkAll spare + 1
  | .agg parts => uptoBulkAll parts + 1
  | .iface _ d => uptoBulk d + 1
  | .map entries => uptoBulkEntries entries + 1
  | .held _ => 1
def uptoBulkAll {H : Type} : List (DataW H) → Nat
  | [] => 0
  | d :: r => uptoBulk d + uptoBulkAll r
def uptoBulkEntries {H : Type} : List (Lit × DataW H) → Nat
  | [] => 0
  | x :: r => uptoBulkEntry x + uptoBulkEntries r
def uptoBulkEntry {H : Type} : Lit × DataW H → Nat
  | (.string bytes, d) => bytes.length + uptoBulk d + 1
  | (_, d) => uptoBulk d + 1
 end
def uptoSmall : (H : Type) → List (DataW H) → Bool := fun _ ds => decide (uptoBulkAll ds ≤ 1048576)
def OpenSpec.upto (s : _root_.Go.ChangeSpec) : _root_.Go.OpenSpec := { _root_.Go.OpenSpec.ofChange s with cond := some uptoSmall }

/-- 'pressmarklaw17.StreamTells', WHERE WHAT IT READS IS OF BULK AT MOST 1048576: true; the input reads as it did. -/
def streamTellsUptoRow : OpenClaim := { program := "ytihbnmlinkbnkaagreatdoor", sum := "581cf4fffc8b6e6bd020667551ec71276e7f359260d9075bb620c211d434deb1", func := "pressmark/pressmarklaw17.StreamTells", spec := "streamTells", inPlace := ["internal/abi.NoEscape", "internal/bytealg.IndexByte", "internal/reflectlite.ValueOf", "(internal/reflectlite.Value).Type", "(internal/reflectlite.Value).IsNil", "internal/reflectlite.TypeOf", "(internal/reflectlite.Value).Elem", "(internal/reflectlite.Value).Set"], unfollowed := true, recurses := true, named := ["errors.errorType"], apart := false, laid := [("errors.errorType", laid_errors_errorType)], narrowed := true }
def StreamTellsUptoSaid : Prop := streamTellsUptoRow.holds Tryz.pinned (OpenSpec.upto streamTellsSpec)

/-- 'pressmarklaw17.StreamSafe', WHERE WHAT IT READS IS OF BULK AT MOST 1048576: true; the input reads as it did. -/
def streamSafeUptoRow : OpenClaim := { program := "ytihbnmlinkbnkaagreatdoor", sum := "581cf4fffc8b6e6bd020667551ec71276e7f359260d9075bb620c211d434deb1", func := "pressmark/pressmarklaw17.StreamSafe", spec := "streamSafe", inPlace := ["internal/abi.NoEscape", "internal/bytealg.IndexByte", "internal/reflectlite.ValueOf", "(internal/reflectlite.Value).Type", "(internal/reflectlite.Value).IsNil", "internal/reflectlite.TypeOf", "(internal/reflectlite.Value).Elem", "(internal/reflectlite.Value).Set"], unfollowed := true, recurses := true, named := ["errors.errorType"], apart := false, laid := [("errors.errorType", laid_errors_errorType)], narrowed := true }
def StreamSafeUptoSaid : Prop := streamSafeUptoRow.holds Tryz.pinned (OpenSpec.upto streamSafeSpec)

/-- 'pressmarklaw18.PackTells', WHERE WHAT IT READS IS OF BULK AT MOST 1048576: true; the input reads as it did. -/
def packTellsUptoRow : OpenClaim := { program := "ytihbnmlinkbnkaagreatdoor", sum := "581cf4fffc8b6e6bd020667551ec71276e7f359260d9075bb620c211d434deb1", func := "pressmark/pressmarklaw18.PackTells", spec := "packTells", inPlace := ["internal/abi.NoEscape", "internal/bytealg.IndexByte", "internal/reflectlite.ValueOf", "(internal/reflectlite.Value).Type", "(internal/reflectlite.Value).IsNil", "internal/reflectlite.TypeOf", "(internal/reflectlite.Value).Elem", "(internal/reflectlite.Value).Set"], unfollowed := true, recurses := true, named := ["errors.errorType"], apart := false, laid := [("errors.errorType", laid_errors_errorType)], narrowed := true }
def PackTellsUptoSaid : Prop := packTellsUptoRow.holds Tryz.pinned (OpenSpec.upto packTellsSpec)

/-- 'pressmarklaw19.IndexTells', WHERE WHAT IT READS IS OF BULK AT MOST 1048576: true; the input reads as it did. -/
def indexTellsUptoRow : OpenClaim := { program := "ytihbnmlinkbnkaagreatdoor", sum := "581cf4fffc8b6e6bd020667551ec71276e7f359260d9075bb620c211d434deb1", func := "pressmark/pressmarklaw19.IndexTells", spec := "indexTells", inPlace := ["internal/reflectlite.ValueOf", "(internal/reflectlite.Value).Type", "(internal/reflectlite.Value).IsNil", "internal/reflectlite.TypeOf", "(internal/reflectlite.Value).Elem", "(internal/reflectlite.Value).Set", "internal/abi.NoEscape", "internal/bytealg.IndexByte"], unfollowed := true, recurses := true, named := ["errors.errorType"], apart := false, laid := [("errors.errorType", laid_errors_errorType)], narrowed := true }
def IndexTellsUptoSaid : Prop := indexTellsUptoRow.holds Tryz.pinned (OpenSpec.upto indexTellsSpec)

/-- 'pressmarklaw19.IndexScan', WHERE WHAT IT READS IS OF BULK AT MOST 1048576: true; the input reads as it did. -/
def indexScanUptoRow : OpenClaim := { program := "ytihbnmlinkbnkaagreatdoor", sum := "581cf4fffc8b6e6bd020667551ec71276e7f359260d9075bb620c211d434deb1", func := "pressmark/pressmarklaw19.IndexScan", spec := "indexScan", inPlace := ["internal/reflectlite.ValueOf", "(internal/reflectlite.Value).Type", "(internal/reflectlite.Value).IsNil", "internal/reflectlite.TypeOf", "(internal/reflectlite.Value).Elem", "(internal/reflectlite.Value).Set", "internal/abi.NoEscape", "internal/bytealg.IndexByte"], unfollowed := true, recurses := true, named := ["errors.errorType"], apart := false, laid := [("errors.errorType", laid_errors_errorType)], narrowed := true }
def IndexScanUptoSaid : Prop := indexScanUptoRow.holds Tryz.pinned (OpenSpec.upto indexScanSpec)

/-- 'pressmarklaw19.IndexMore', WHERE WHAT IT READS IS OF BULK AT MOST 1048576: true; the input reads as it did. -/
def indexMoreUptoRow : OpenClaim := { program := "ytihbnmlinkbnkaagreatdoor", sum := "581cf4fffc8b6e6bd020667551ec71276e7f359260d9075bb620c211d434deb1", func := "pressmark/pressmarklaw19.IndexMore", spec := "indexMore", inPlace := ["internal/reflectlite.ValueOf", "(internal/reflectlite.Value).Type", "(internal/reflectlite.Value).IsNil", "internal/reflectlite.TypeOf", "(internal/reflectlite.Value).Elem", "(internal/reflectlite.Value).Set", "internal/abi.NoEscape", "internal/bytealg.IndexByte"], unfollowed := true, recurses := true, named := ["errors.errorType"], apart := false, laid := [("errors.errorType", laid_errors_errorType)], narrowed := true }
def IndexMoreUptoSaid : Prop := indexMoreUptoRow.holds Tryz.pinned (OpenSpec.upto indexMoreSpec)

end Rows
end Go.Proofs.YtihbnmlinkbnkaaGreatDoor

/-
  NARROWER THAN 'FOR EVERY INPUT', by the rows' own cells (each row's printed sentence says how): StreamBack: laid · StreamNone: laid · StreamCuts: laid · StreamStands: laid · PackBack: laid · PackLevels: laid · PackAlike: laid · PackMore: laid · PackPieces: laid · IndexFind: laid · IndexCover: laid · IndexOne: laid.
  DERIVED. THE GIVEN ROWS OF THIS SEAT. 12 by the template 'for every input the law returns true; each argument reads behind the call as it read before'; 0 by the template 'total and deterministic' (their statements: YtpgmbhpbgkljdaaGreatDoorTotals.lean).
  GIVEN WITH THE SEED: the statements are not yours to turn. If you find one false, say at which input.
  Laid BY PROGRAM, IN A SANDBOX (cutbox-rows.mjs): the forced cells as the released guide's own fill.sh prints them over the translation 3beb020d00a89a60… (all of the seat's roots in one cut). By AI agents, Wed Nov 11 2026. No macro, syntax, notation, axiom, sorry.
-/
import Derived.Test.YtpgmbhpbgkljdaaGreatDoorChecked
import GoSem.Claim
import GoSem.ClaimJoined
import GoSem.ClaimMapViews
import Derived.JoinedTies
import Derived.KernelRfl
namespace Go.Proofs.YtpgmbhpbgkljdaaGreatDoor
/- THE CELL 'sum', in the pinned program and in every row, IS THE sha256 OF THE DUMP (.gsa) THAT YtpgmbhpbgkljdaaGreatDoorProg.lean LOADS. Nothing in Lean hashes anything: it is a label: what it is worth is what the hold of that sum in a sandbox is worth. -/
noncomputable def Tryz.pinned : Pinned := { name := "ytpgmbhpbgkljdaagreatdoor", sum := "3beb020d00a89a602c024d1ef0322d4fed550e3eca69a9098c96cbf2f425eb38", checked := Tryz.checked }
namespace Rows
def none {H : Type} : Left H := { results := [], args := [] }

/- WHAT THE LISTED PACKAGE-LEVEL VARIABLES READ AS WHEN THE CALL BEGINS. Each datum BY PROGRAM (the guide's laid-datum.mjs) off the statement by which the dump's own 'gosem.cut.vars' lays the variable. In a bare row this is a premise. The card (YtpgmbhpbgkljdaaGreatDoorCards.lean) ties it to the program's text. -/
def laid_errors_errorType {H : Type} : DataW H := .iface "internal/reflectlite.rtype" (.agg [.ptr (.lit (.string [101, 114, 114, 111, 114]))])

/-- 'pressmarklaw17.StreamBack': WHATEVER THE INPUT: true; the input reads as it did. -/
def streamBackSpec : ChangeSpec := { name := "streamBack", fn := fun _ => fun
  | [d1, d2, d3, d4, d5, d6] => { results := [.lit (.bool true)], args := [d1, d2, d3, d4, d5, d6] }
  | _ => none }
def streamBackRow : OpenClaim := { program := "ytpgmbhpbgkljdaagreatdoor", sum := "3beb020d00a89a602c024d1ef0322d4fed550e3eca69a9098c96cbf2f425eb38", func := "pressmark/pressmarklaw17.StreamBack", spec := "streamBack", inPlace := ["internal/abi.NoEscape", "internal/bytealg.IndexByte", "internal/reflectlite.ValueOf", "(internal/reflectlite.Value).Type", "(internal/reflectlite.Value).IsNil", "internal/reflectlite.TypeOf", "(internal/reflectlite.Value).Elem", "(internal/reflectlite.Value).Set"], unfollowed := true, recurses := true, named := ["errors.errorType"], apart := false, laid := [("errors.errorType", laid_errors_errorType)] }
def StreamBackSaid : Prop := streamBackRow.holds Tryz.pinned (OpenSpec.ofChange streamBackSpec)

/-- ITS FALSE NEIGHBOUR: 'it returns false'. Refute it at one input. -/
def streamBackWrong : ChangeSpec := { name := "streamBack", fn := fun _ => fun
  | [d1, d2, d3, d4, d5, d6] => { results := [.lit (.bool false)], args := [d1, d2, d3, d4, d5, d6] }
  | _ => none }
def StreamBackWrongFalsely : Prop := streamBackRow.holds Tryz.pinned (OpenSpec.ofChange streamBackWrong)

/-- 'pressmarklaw17.StreamNone': WHATEVER THE INPUT: true; the input reads as it did. -/
def streamNoneSpec : ChangeSpec := { name := "streamNone", fn := fun _ => fun
  | [d1, d2, d3, d4, d5] => { results := [.lit (.bool true)], args := [d1, d2, d3, d4, d5] }
  | _ => none }
def streamNoneRow : OpenClaim := { program := "ytpgmbhpbgkljdaagreatdoor", sum := "3beb020d00a89a602c024d1ef0322d4fed550e3eca69a9098c96cbf2f425eb38", func := "pressmark/pressmarklaw17.StreamNone", spec := "streamNone", inPlace := ["internal/abi.NoEscape", "internal/bytealg.IndexByte", "internal/reflectlite.ValueOf", "(internal/reflectlite.Value).Type", "(internal/reflectlite.Value).IsNil", "internal/reflectlite.TypeOf", "(internal/reflectlite.Value).Elem", "(internal/reflectlite.Value).Set"], unfollowed := true, recurses := true, named := ["errors.errorType"], apart := false, laid := [("errors.errorType", laid_errors_errorType)] }
def StreamNoneSaid : Prop := streamNoneRow.holds Tryz.pinned (OpenSpec.ofChange streamNoneSpec)

/-- ITS FALSE NEIGHBOUR: 'it returns false'. Refute it at one input. -/
def streamNoneWrong : ChangeSpec := { name := "streamNone", fn := fun _ => fun
  | [d1, d2, d3, d4, d5] => { results := [.lit (.bool false)], args := [d1, d2, d3, d4, d5] }
  | _ => none }
def StreamNoneWrongFalsely : Prop := streamNoneRow.holds Tryz.pinned (OpenSpec.ofChange streamNoneWrong)

/-- 'pressmarklaw17.StreamCuts': WHATEVER THE INPUT: true; the input reads as it did. -/
def streamCutsSpec : ChangeSpec := { name := "streamCuts", fn := fun _ => fun
  | [d1, d2, d3, d4, d5] => { results := [.lit (.bool true)], args := [d1, d2, d3, d4, d5] }
  | _ => none }
def streamCutsRow : OpenClaim := { program := "ytpgmbhpbgkljdaagreatdoor", sum := "3beb020d00a89a602c024d1ef0322d4fed550e3eca69a9098c96cbf2f425eb38", func := "pressmark/pressmarklaw17.StreamCuts", spec := "streamCuts", inPlace := ["internal/abi.NoEscape", "internal/bytealg.IndexByte", "internal/reflectlite.ValueOf", "(internal/reflectlite.Value).Type", "(internal/reflectlite.Value).IsNil", "internal/reflectlite.TypeOf", "(internal/reflectlite.Value).Elem", "(internal/reflectlite.Value).Set"], unfollowed := true, recurses := true, named := ["errors.errorType"], apart := false, laid := [("errors.errorType", laid_errors_errorType)] }
def StreamCutsSaid : Prop := streamCutsRow.holds Tryz.pinned (OpenSpec.ofChange streamCutsSpec)

/-- ITS FALSE NEIGHBOUR: 'it returns false'. Refute it at one input. -/
def streamCutsWrong : ChangeSpec := { name := "streamCuts", fn := fun _ => fun
  | [d1, d2, d3, d4, d5] => { results := [.lit (.bool false)], args := [d1, d2, d3, d4, d5] }
  | _ => none }
def StreamCutsWrongFalsely : Prop := streamCutsRow.holds Tryz.pinned (OpenSpec.ofChange streamCutsWrong)

/-- 'pressmarklaw17.StreamStands': WHATEVER THE INPUT: true; the input reads as it did. -/
def streamStandsSpec : ChangeSpec := { name := "streamStands", fn := fun _ => fun
  | [d1, d2, d3] => { results := [.lit (.bool true)], args := [d1, d2, d3] }
  | _ => none }
def streamStandsRow : OpenClaim := { program := "ytpgmbhpbgkljdaagreatdoor", sum := "3beb020d00a89a602c024d1ef0322d4fed550e3eca69a9098c96cbf2f425eb38", func := "pressmark/pressmarklaw17.StreamStands", spec := "streamStands", inPlace := ["internal/abi.NoEscape", "internal/bytealg.IndexByte", "internal/reflectlite.ValueOf", "(internal/reflectlite.Value).Type", "(internal/reflectlite.Value).IsNil", "internal/reflectlite.TypeOf", "(internal/reflectlite.Value).Elem", "(internal/reflectlite.Value).Set"], unfollowed := true, recurses := true, named := ["errors.errorType"], apart := false, laid := [("errors.errorType", laid_errors_errorType)] }
def StreamStandsSaid : Prop := streamStandsRow.holds Tryz.pinned (OpenSpec.ofChange streamStandsSpec)

/-- ITS FALSE NEIGHBOUR: 'it returns false'. Refute it at one input. -/
def streamStandsWrong : ChangeSpec := { name := "streamStands", fn := fun _ => fun
  | [d1, d2, d3] => { results := [.lit (.bool false)], args := [d1, d2, d3] }
  | _ => none }
def StreamStandsWrongFalsely : Prop := streamStandsRow.holds Tryz.pinned (OpenSpec.ofChange streamStandsWrong)

/-- 'pressmarklaw18.PackBack': WHATEVER THE INPUT: true; the input reads as it did. -/
def packBackSpec : ChangeSpec := { name := "packBack", fn := fun _ => fun
  | [d1, d2, d3, d4, d5] => { results := [.lit (.bool true)], args := [d1, d2, d3, d4, d5] }
  | _ => none }
def packBackRow : OpenClaim := { program := "ytpgmbhpbgkljdaagreatdoor", sum := "3beb020d00a89a602c024d1ef0322d4fed550e3eca69a9098c96cbf2f425eb38", func := "pressmark/pressmarklaw18.PackBack", spec := "packBack", inPlace := ["internal/abi.NoEscape", "internal/bytealg.IndexByte", "internal/reflectlite.ValueOf", "(internal/reflectlite.Value).Type", "(internal/reflectlite.Value).IsNil", "internal/reflectlite.TypeOf", "(internal/reflectlite.Value).Elem", "(internal/reflectlite.Value).Set"], unfollowed := true, recurses := true, named := ["errors.errorType"], apart := false, laid := [("errors.errorType", laid_errors_errorType)] }
def PackBackSaid : Prop := packBackRow.holds Tryz.pinned (OpenSpec.ofChange packBackSpec)

/-- ITS FALSE NEIGHBOUR: 'it returns false'. Refute it at one input. -/
def packBackWrong : ChangeSpec := { name := "packBack", fn := fun _ => fun
  | [d1, d2, d3, d4, d5] => { results := [.lit (.bool false)], args := [d1, d2, d3, d4, d5] }
  | _ => none }
def PackBackWrongFalsely : Prop := packBackRow.holds Tryz.pinned (OpenSpec.ofChange packBackWrong)

/-- 'pressmarklaw18.PackLevels': WHATEVER THE INPUT: true; the input reads as it did. -/
def packLevelsSpec : ChangeSpec := { name := "packLevels", fn := fun _ => fun
  | [d1, d2, d3] => { results := [.lit (.bool true)], args := [d1, d2, d3] }
  | _ => none }
def packLevelsRow : OpenClaim := { program := "ytpgmbhpbgkljdaagreatdoor", sum := "3beb020d00a89a602c024d1ef0322d4fed550e3eca69a9098c96cbf2f425eb38", func := "pressmark/pressmarklaw18.PackLevels", spec := "packLevels", inPlace := ["internal/abi.NoEscape", "internal/bytealg.IndexByte", "internal/reflectlite.ValueOf", "(internal/reflectlite.Value).Type", "(internal/reflectlite.Value).IsNil", "internal/reflectlite.TypeOf", "(internal/reflectlite.Value).Elem", "(internal/reflectlite.Value).Set"], unfollowed := true, recurses := true, named := ["errors.errorType"], apart := false, laid := [("errors.errorType", laid_errors_errorType)] }
def PackLevelsSaid : Prop := packLevelsRow.holds Tryz.pinned (OpenSpec.ofChange packLevelsSpec)

/-- ITS FALSE NEIGHBOUR: 'it returns false'. Refute it at one input. -/
def packLevelsWrong : ChangeSpec := { name := "packLevels", fn := fun _ => fun
  | [d1, d2, d3] => { results := [.lit (.bool false)], args := [d1, d2, d3] }
  | _ => none }
def PackLevelsWrongFalsely : Prop := packLevelsRow.holds Tryz.pinned (OpenSpec.ofChange packLevelsWrong)

/-- 'pressmarklaw18.PackAlike': WHATEVER THE INPUT: true; the input reads as it did. -/
def packAlikeSpec : ChangeSpec := { name := "packAlike", fn := fun _ => fun
  | [d1, d2, d3] => { results := [.lit (.bool true)], args := [d1, d2, d3] }
  | _ => none }
def packAlikeRow : OpenClaim := { program := "ytpgmbhpbgkljdaagreatdoor", sum := "3beb020d00a89a602c024d1ef0322d4fed550e3eca69a9098c96cbf2f425eb38", func := "pressmark/pressmarklaw18.PackAlike", spec := "packAlike", inPlace := ["internal/abi.NoEscape", "internal/bytealg.IndexByte", "internal/reflectlite.ValueOf", "(internal/reflectlite.Value).Type", "(internal/reflectlite.Value).IsNil", "internal/reflectlite.TypeOf", "(internal/reflectlite.Value).Elem", "(internal/reflectlite.Value).Set"], unfollowed := true, recurses := true, named := ["errors.errorType"], apart := false, laid := [("errors.errorType", laid_errors_errorType)] }
def PackAlikeSaid : Prop := packAlikeRow.holds Tryz.pinned (OpenSpec.ofChange packAlikeSpec)

/-- ITS FALSE NEIGHBOUR: 'it returns false'. Refute it at one input. -/
def packAlikeWrong : ChangeSpec := { name := "packAlike", fn := fun _ => fun
  | [d1, d2, d3] => { results := [.lit (.bool false)], args := [d1, d2, d3] }
  | _ => none }
def PackAlikeWrongFalsely : Prop := packAlikeRow.holds Tryz.pinned (OpenSpec.ofChange packAlikeWrong)

/-- 'pressmarklaw18.PackMore': WHATEVER THE INPUT: true; the input reads as it did. -/
def packMoreSpec : ChangeSpec := { name := "packMore", fn := fun _ => fun
  | [d1, d2, d3, d4] => { results := [.lit (.bool true)], args := [d1, d2, d3, d4] }
  | _ => none }
def packMoreRow : OpenClaim := { program := "ytpgmbhpbgkljdaagreatdoor", sum := "3beb020d00a89a602c024d1ef0322d4fed550e3eca69a9098c96cbf2f425eb38", func := "pressmark/pressmarklaw18.PackMore", spec := "packMore", inPlace := ["internal/abi.NoEscape", "internal/bytealg.IndexByte", "internal/reflectlite.ValueOf", "(internal/reflectlite.Value).Type", "(internal/reflectlite.Value).IsNil", "internal/reflectlite.TypeOf", "(internal/reflectlite.Value).Elem", "(internal/reflectlite.Value).Set"], unfollowed := true, recurses := true, named := ["errors.errorType"], apart := false, laid := [("errors.errorType", laid_errors_errorType)] }
def PackMoreSaid : Prop := packMoreRow.holds Tryz.pinned (OpenSpec.ofChange packMoreSpec)

/-- ITS FALSE NEIGHBOUR: 'it returns false'. Refute it at one input. -/
def packMoreWrong : ChangeSpec := { name := "packMore", fn := fun _ => fun
  | [d1, d2, d3, d4] => { results := [.lit (.bool false)], args := [d1, d2, d3, d4] }
  | _ => none }
def PackMoreWrongFalsely : Prop := packMoreRow.holds Tryz.pinned (OpenSpec.ofChange packMoreWrong)

/-- 'pressmarklaw18.PackPieces': WHATEVER THE INPUT: true; the input reads as it did. -/
def packPiecesSpec : ChangeSpec := { name := "packPieces", fn := fun _ => fun
  | [d1, d2, d3] => { results := [.lit (.bool true)], args := [d1, d2, d3] }
  | _ => none }
def packPiecesRow : OpenClaim := { program := "ytpgmbhpbgkljdaagreatdoor", sum := "3beb020d00a89a602c024d1ef0322d4fed550e3eca69a9098c96cbf2f425eb38", func := "pressmark/pressmarklaw18.PackPieces", spec := "packPieces", inPlace := ["internal/abi.NoEscape", "internal/bytealg.IndexByte", "internal/reflectlite.ValueOf", "(internal/reflectlite.Value).Type", "(internal/reflectlite.Value).IsNil", "internal/reflectlite.TypeOf", "(internal/reflectlite.Value).Elem", "(internal/reflectlite.Value).Set"], unfollowed := true, recurses := true, named := ["errors.errorType"], apart := false, laid := [("errors.errorType", laid_errors_errorType)] }
def PackPiecesSaid : Prop := packPiecesRow.holds Tryz.pinned (OpenSpec.ofChange packPiecesSpec)

/-- ITS FALSE NEIGHBOUR: 'it returns false'. Refute it at one input. -/
def packPiecesWrong : ChangeSpec := { name := "packPieces", fn := fun _ => fun
  | [d1, d2, d3] => { results := [.lit (.bool false)], args := [d1, d2, d3] }
  | _ => none }
def PackPiecesWrongFalsely : Prop := packPiecesRow.holds Tryz.pinned (OpenSpec.ofChange packPiecesWrong)

/-- 'pressmarklaw19.IndexFind': WHATEVER THE INPUT: true; the input reads as it did. -/
def indexFindSpec : ChangeSpec := { name := "indexFind", fn := fun _ => fun
  | [d1, d2] => { results := [.lit (.bool true)], args := [d1, d2] }
  | _ => none }
def indexFindRow : OpenClaim := { program := "ytpgmbhpbgkljdaagreatdoor", sum := "3beb020d00a89a602c024d1ef0322d4fed550e3eca69a9098c96cbf2f425eb38", func := "pressmark/pressmarklaw19.IndexFind", spec := "indexFind", inPlace := ["internal/reflectlite.ValueOf", "(internal/reflectlite.Value).Type", "(internal/reflectlite.Value).IsNil", "internal/reflectlite.TypeOf", "(internal/reflectlite.Value).Elem", "(internal/reflectlite.Value).Set", "internal/abi.NoEscape", "internal/bytealg.IndexByte"], unfollowed := true, recurses := true, named := ["errors.errorType"], apart := false, laid := [("errors.errorType", laid_errors_errorType)] }
def IndexFindSaid : Prop := indexFindRow.holds Tryz.pinned (OpenSpec.ofChange indexFindSpec)

/-- ITS FALSE NEIGHBOUR: 'it returns false'. Refute it at one input. -/
def indexFindWrong : ChangeSpec := { name := "indexFind", fn := fun _ => fun
  | [d1, d2] => { results := [.lit (.bool false)], args := [d1, d2] }
  | _ => none }
def IndexFindWrongFalsely : Prop := indexFindRow.holds Tryz.pinned (OpenSpec.ofChange indexFindWrong)

/-- 'pressmarklaw19.IndexCover': WHATEVER THE INPUT: true; the input reads as it did. -/
def indexCoverSpec : ChangeSpec := { name := "indexCover", fn := fun _ => fun
  | [d1, d2, d3] => { results := [.lit (.bool true)], args := [d1, d2, d3] }
  | _ => none }
def indexCoverRow : OpenClaim := { program := "ytpgmbhpbgkljdaagreatdoor", sum := "3beb020d00a89a602c024d1ef0322d4fed550e3eca69a9098c96cbf2f425eb38", func := "pressmark/pressmarklaw19.IndexCover", spec := "indexCover", inPlace := ["internal/reflectlite.ValueOf", "(internal/reflectlite.Value).Type", "(internal/reflectlite.Value).IsNil", "internal/reflectlite.TypeOf", "(internal/reflectlite.Value).Elem", "(internal/reflectlite.Value).Set", "internal/abi.NoEscape", "internal/bytealg.IndexByte"], unfollowed := true, recurses := true, named := ["errors.errorType"], apart := false, laid := [("errors.errorType", laid_errors_errorType)] }
def IndexCoverSaid : Prop := indexCoverRow.holds Tryz.pinned (OpenSpec.ofChange indexCoverSpec)

/-- ITS FALSE NEIGHBOUR: 'it returns false'. Refute it at one input. -/
def indexCoverWrong : ChangeSpec := { name := "indexCover", fn := fun _ => fun
  | [d1, d2, d3] => { results := [.lit (.bool false)], args := [d1, d2, d3] }
  | _ => none }
def IndexCoverWrongFalsely : Prop := indexCoverRow.holds Tryz.pinned (OpenSpec.ofChange indexCoverWrong)

/-- 'pressmarklaw19.IndexOne': WHATEVER THE INPUT: true; the input reads as it did. -/
def indexOneSpec : ChangeSpec := { name := "indexOne", fn := fun _ => fun
  | [d1, d2, d3, d4] => { results := [.lit (.bool true)], args := [d1, d2, d3, d4] }
  | _ => none }
def indexOneRow : OpenClaim := { program := "ytpgmbhpbgkljdaagreatdoor", sum := "3beb020d00a89a602c024d1ef0322d4fed550e3eca69a9098c96cbf2f425eb38", func := "pressmark/pressmarklaw19.IndexOne", spec := "indexOne", inPlace := ["internal/reflectlite.ValueOf", "(internal/reflectlite.Value).Type", "(internal/reflectlite.Value).IsNil", "internal/reflectlite.TypeOf", "(internal/reflectlite.Value).Elem", "(internal/reflectlite.Value).Set", "internal/abi.NoEscape", "internal/bytealg.IndexByte"], unfollowed := true, recurses := true, named := ["errors.errorType"], apart := false, laid := [("errors.errorType", laid_errors_errorType)] }
def IndexOneSaid : Prop := indexOneRow.holds Tryz.pinned (OpenSpec.ofChange indexOneSpec)

/-- ITS FALSE NEIGHBOUR: 'it returns false'. Refute it at one input. -/
def indexOneWrong : ChangeSpec := { name := "indexOne", fn := fun _ => fun
  | [d1, d2, d3, d4] => { results := [.lit (.bool false)], args := [d1, d2, d3, d4] }
  | _ => none }
def IndexOneWrongFalsely : Prop := indexOneRow.holds Tryz.pinned (OpenSpec.ofChange indexOneWrong)

/- THE SECOND FORM. 'bulk': how many values and letters a reading holds, each counted each time it is reached (what is shared counts as often as it is met; a slice's spare places count too). A statement '..UptoSaid' is the law's where the arguments, and the package variables that the reading takes, are together of bulk at most 1048576: NARROWER than '..Said'. Prove '..Said' where nothing that the law and all that it calls make is longer than what came in: it says more and counts as full. Else prove '..UptoSaid'. A law counts once. -/
mutual
def uptoBulk {H : Type} : DataW H → Nat
  | .lit (.string bytes) => bytes.length + 1
  | .lit _ => 1
  | .nil => 1
  | .ptr d => uptoBulk d + 1
  | .slice elems spare => uptoBulkAll elems + uptoBulkAll spare + 1
  | .agg parts => uptoBulkAll parts + 1
  | .iface _ d => uptoBulk d + 1
  | .map entries => uptoBulkEntries entries + 1
  | .held _ => 1
def uptoBulkAll {H : Type} : List (DataW H) → Nat
  | [] => 0
  | d :: r => uptoBulk d + uptoBulkAll r
def uptoBulkEntries {H : Type} : List (Lit × DataW H) → Nat
  | [] => 0
  | x :: r => uptoBulkEntry x + uptoBulkEntries r
def uptoBulkEntry {H : Type} : Lit × DataW H → Nat
  | (.string bytes, d) => bytes.length + uptoBulk d + 1
  | (_, d) => uptoBulk d + 1
 end
def uptoSmall : (H : Type) → List (DataW H) → Bool := fun _ ds => decide (uptoBulkAll ds ≤ 1048576)
def OpenSpec.upto (s : _root_.Go.ChangeSpec) : _root_.Go.OpenSpec := { _root_.Go.OpenSpec.ofChange s with cond := some uptoSmall }

/-- 'pressmarklaw17.StreamBack', WHERE WHAT IT READS IS OF BULK AT MOST 1048576: true; the input reads as it did. -/
def streamBackUptoRow : OpenClaim := { program := "ytpgmbhpbgkljdaagreatdoor", sum := "3beb020d00a89a602c024d1ef0322d4fed550e3eca69a9098c96cbf2f425eb38", func := "pressmark/pressmarklaw17.StreamBack", spec := "streamBack", inPlace := ["internal/abi.NoEscape", "internal/bytealg.IndexByte", "internal/reflectlite.ValueOf", "(internal/reflectlite.Value).Type", "(internal/reflectlite.Value).IsNil", "internal/reflectlite.TypeOf", "(internal/reflectlite.Value).Elem", "(internal/reflectlite.Value).Set"], unfollowed := true, recurses := true, named := ["errors.errorType"], apart := false, laid := [("errors.errorType", laid_errors_errorType)], narrowed := true }
def StreamBackUptoSaid : Prop := streamBackUptoRow.holds Tryz.pinned (OpenSpec.upto streamBackSpec)

/-- 'pressmarklaw17.StreamNone', WHERE WHAT IT READS IS OF BULK AT MOST 1048576: true; the input reads as it did. -/
def streamNoneUptoRow : OpenClaim := { program := "ytpgmbhpbgkljdaagreatdoor", sum := "3beb020d00a89a602c024d1ef0322d4fed550e3eca69a9098c96cbf2f425eb38", func := "pressmark/pressmarklaw17.StreamNone", spec := "streamNone", inPlace := ["internal/abi.NoEscape", "internal/bytealg.IndexByte", "internal/reflectlite.ValueOf", "(internal/reflectlite.Value).Type", "(internal/reflectlite.Value).IsNil", "internal/reflectlite.TypeOf", "(internal/reflectlite.Value).Elem", "(internal/reflectlite.Value).Set"], unfollowed := true, recurses := true, named := ["errors.errorType"], apart := false, laid := [("errors.errorType", laid_errors_errorType)], narrowed := true }
def StreamNoneUptoSaid : Prop := streamNoneUptoRow.holds Tryz.pinned (OpenSpec.upto streamNoneSpec)

/-- 'pressmarklaw17.StreamCuts', WHERE WHAT IT READS IS OF BULK AT MOST 1048576: true; the input reads as it did. -/
def streamCutsUptoRow : OpenClaim := { program := "ytpgmbhpbgkljdaagreatdoor", sum := "3beb020d00a89a602c024d1ef0322d4fed550e3eca69a9098c96cbf2f425eb38", func := "pressmark/pressmarklaw17.StreamCuts", spec := "streamCuts", inPlace := ["internal/abi.NoEscape", "internal/bytealg.IndexByte", "internal/reflectlite.ValueOf", "(internal/reflectlite.Value).Type", "(internal/reflectlite.Value).IsNil", "internal/reflectlite.TypeOf", "(internal/reflectlite.Value).Elem", "(internal/reflectlite.Value).Set"], unfollowed := true, recurses := true, named := ["errors.errorType"], apart := false, laid := [("errors.errorType", laid_errors_errorType)], narrowed := true }
def StreamCutsUptoSaid : Prop := streamCutsUptoRow.holds Tryz.pinned (OpenSpec.upto streamCutsSpec)

/-- 'pressmarklaw17.StreamStands', WHERE WHAT IT READS IS OF BULK AT MOST 1048576: true; the input reads as it did. -/
def streamStandsUptoRow : OpenClaim := { program := "ytpgmbhpbgkljdaagreatdoor", sum := "3beb020d00a89a602c024d1ef0322d4fed550e3eca69a9098c96cbf2f425eb38", func := "pressmark/pressmarklaw17.StreamStands", spec := "streamStands", inPlace := ["internal/abi.NoEscape", "internal/bytealg.IndexByte", "internal/reflectlite.ValueOf", "(internal/reflectlite.Value).Type", "(internal/reflectlite.Value).IsNil", "internal/reflectlite.TypeOf", "(internal/reflectlite.Value).Elem", "(internal/reflectlite.Value).Set"], unfollowed := true, recurses := true, named := ["errors.errorType"], apart := false, laid := [("errors.errorType", laid_errors_errorType)], narrowed := true }
def StreamStandsUptoSaid : Prop := streamStandsUptoRow.holds Tryz.pinned (OpenSpec.upto streamStandsSpec)

/-- 'pressmarklaw18.PackBack', WHERE WHAT IT READS IS OF BULK AT MOST 1048576: true; the input reads as it did. -/
def packBackUptoRow : OpenClaim := { program := "ytpgmbhpbgkljdaagreatdoor", sum := "3beb020d00a89a602c024d1ef0322d4fed550e3eca69a9098c96cbf2f425eb38", func := "pressmark/pressmarklaw18.PackBack", spec := "packBack", inPlace := ["internal/abi.NoEscape", "internal/bytealg.IndexByte", "internal/reflectlite.ValueOf", "(internal/reflectlite.Value).Type", "(internal/reflectlite.Value).IsNil", "internal/reflectlite.TypeOf", "(internal/reflectlite.Value).Elem", "(internal/reflectlite.Value).Set"], unfollowed := true, recurses := true, named := ["errors.errorType"], apart := false, laid := [("errors.errorType", laid_errors_errorType)], narrowed := true }
def PackBackUptoSaid : Prop := packBackUptoRow.holds Tryz.pinned (OpenSpec.upto packBackSpec)

/-- 'pressmarklaw18.PackLevels', WHERE WHAT IT READS IS OF BULK AT MOST 1048576: true; the input reads as it did. -/
def packLevelsUptoRow : OpenClaim := { program := "ytpgmbhpbgkljdaagreatdoor", sum := "3beb020d00a89a602c024d1ef0322d4fed550e3eca69a9098c96cbf2f425eb38", func := "pressmark/pressmarklaw18.PackLevels", spec := "packLevels", inPlace := ["internal/abi.NoEscape", "internal/bytealg.IndexByte", "internal/reflectlite.ValueOf", "(internal/reflectlite.Value).Type", "(internal/reflectlite.Value).IsNil", "internal/reflectlite.TypeOf", "(internal/reflectlite.Value).Elem", "(internal/reflectlite.Value).Set"], unfollowed := true, recurses := true, named := ["errors.errorType"], apart := false, laid := [("errors.errorType", laid_errors_errorType)], narrowed := true }
def PackLevelsUptoSaid : Prop := packLevelsUptoRow.holds Tryz.pinned (OpenSpec.upto packLevelsSpec)

/-- 'pressmarklaw18.PackAlike', WHERE WHAT IT READS IS OF BULK AT MOST 1048576: true; the input reads as it did. -/
def packAlikeUptoRow : OpenClaim := { program := "ytpgmbhpbgkljdaagreatdoor", sum := "3beb020d00a89a602c024d1ef0322d4fed550e3eca69a9098c96cbf2f425eb38", func := "pressmark/pressmarklaw18.PackAlike", spec := "packAlike", inPlace := ["internal/abi.NoEscape", "internal/bytealg.IndexByte", "internal/reflectlite.ValueOf", "(internal/reflectlite.Value).Type", "(internal/reflectlite.Value).IsNil", "internal/reflectlite.TypeOf", "(internal/reflectlite.Value).Elem", "(internal/reflectlite.Value).Set"], unfollowed := true, recurses := true, named := ["errors.errorType"], apart := false, laid := [("errors.errorType", laid_errors_errorType)], narrowed := true }
def PackAlikeUptoSaid : Prop := packAlikeUptoRow.holds Tryz.pinned (OpenSpec.upto packAlikeSpec)

/-- 'pressmarklaw18.PackMore', WHERE WHAT IT READS IS OF BULK AT MOST 1048576: true; the input reads as it did. -/
def packMoreUptoRow : OpenClaim := { program := "ytpgmbhpbgkljdaagreatdoor", sum := "3beb020d00a89a602c024d1ef0322d4fed550e3eca69a9098c96cbf2f425eb38", func := "pressmark/pressmarklaw18.PackMore", spec := "packMore", inPlace := ["internal/abi.NoEscape", "internal/bytealg.IndexByte", "internal/reflectlite.ValueOf", "(internal/reflectlite.Value).Type", "(internal/reflectlite.Value).IsNil", "internal/reflectlite.TypeOf", "(internal/reflectlite.Value).Elem", "(internal/reflectlite.Value).Set"], unfollowed := true, recurses := true, named := ["errors.errorType"], apart := false, laid := [("errors.errorType", laid_errors_errorType)], narrowed := true }
def PackMoreUptoSaid : Prop := packMoreUptoRow.holds Tryz.pinned (OpenSpec.upto packMoreSpec)

/-- 'pressmarklaw18.PackPieces', WHERE WHAT IT READS IS OF BULK AT MOST 1048576: true; the input reads as it did. -/
def packPiecesUptoRow : OpenClaim := { program := "ytpgmbhpbgkljdaagreatdoor", sum := "3beb020d00a89a602c024d1ef0322d4fed550e3eca69a9098c96cbf2f425eb38", func := "pressmark/pressmarklaw18.PackPieces", spec := "packPieces", inPlace := ["internal/abi.NoEscape", "internal/bytealg.IndexByte", "internal/reflectlite.ValueOf", "(internal/reflectlite.Value).Type", "(internal/reflectlite.Value).IsNil", "internal/reflectlite.TypeOf", "(internal/reflectlite.Value).Elem", "(internal/reflectlite.Value).Set"], unfollowed := true, recurses := true, named := ["errors.errorType"], apart := false, laid := [("errors.errorType", laid_errors_errorType)], narrowed := true }
def PackPiecesUptoSaid : Prop := packPiecesUptoRow.holds Tryz.pinned (OpenSpec.upto packPiecesSpec)

/-- 'pressmarklaw19.IndexFind', WHERE WHAT IT READS IS OF BULK AT MOST 1048576: true; the input reads as it did. -/
def indexFindUptoRow : OpenClaim := { program := "ytpgmbhpbgkljdaagreatdoor", sum := "3beb020d00a89a602c024d1ef0322d4fed550e3eca69a9098c96cbf2f425eb38", func := "pressmark/pressmarklaw19.IndexFind", spec := "indexFind", inPlace := ["internal/reflectlite.ValueOf", "(internal/reflectlite.Value).Type", "(internal/reflectlite.Value).IsNil", "internal/reflectlite.TypeOf", "(internal/reflectlite.Value).Elem", "(internal/reflectlite.Value).Set", "internal/abi.NoEscape", "internal/bytealg.IndexByte"], unfollowed := true, recurses := true, named := ["errors.errorType"], apart := false, laid := [("errors.errorType", laid_errors_errorType)], narrowed := true }
def IndexFindUptoSaid : Prop := indexFindUptoRow.holds Tryz.pinned (OpenSpec.upto indexFindSpec)

/-- 'pressmarklaw19.IndexCover', WHERE WHAT IT READS IS OF BULK AT MOST 1048576: true; the input reads as it did. -/
def indexCoverUptoRow : OpenClaim := { program := "ytpgmbhpbgkljdaagreatdoor", sum := "3beb020d00a89a602c024d1ef0322d4fed550e3eca69a9098c96cbf2f425eb38", func := "pressmark/pressmarklaw19.IndexCover", spec := "indexCover", inPlace := ["internal/reflectlite.ValueOf", "(internal/reflectlite.Value).Type", "(internal/reflectlite.Value).IsNil", "internal/reflectlite.TypeOf", "(internal/reflectlite.Value).Elem", "(internal/reflectlite.Value).Set", "internal/abi.NoEscape", "internal/bytealg.IndexByte"], unfollowed := true, recurses := true, named := ["errors.errorType"], apart := false, laid := [("errors.errorType", laid_errors_errorType)], narrowed := true }
def IndexCoverUptoSaid : Prop := indexCoverUptoRow.holds Tryz.pinned (OpenSpec.upto indexCoverSpec)

/-- 'pressmarklaw19.IndexOne', WHERE WHAT IT READS IS OF BULK AT MOST 1048576: true; the input reads as it did. -/
def indexOneUptoRow : OpenClaim := { program := "ytpgmbhpbgkljdaagreatdoor", sum := "3beb020d00a89a602c024d1ef0322d4fed550e3eca69a9098c96cbf2f425eb38", func := "pressmark/pressmarklaw19.IndexOne", spec := "indexOne", inPlace := ["internal/reflectlite.ValueOf", "(internal/reflectlite.Value).Type", "(internal/reflectlite.Value).IsNil", "internal/reflectlite.TypeOf", "(internal/reflectlite.Value).Elem", "(internal/reflectlite.Value).Set", "internal/abi.NoEscape", "internal/bytealg.IndexByte"], unfollowed := true, recurses := true, named := ["errors.errorType"], apart := false, laid := [("errors.errorType", laid_errors_errorType)], narrowed := true }
def IndexOneUptoSaid : Prop := indexOneUptoRow.holds Tryz.pinned (OpenSpec.upto indexOneSpec)

end Rows
end Go.Proofs.YtpgmbhpbgkljdaaGreatDoor

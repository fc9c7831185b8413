/-
  NARROWER THAN 'FOR EVERY INPUT', by the rows' own cells (each row's printed sentence says how): SidecarBack: laid · SidecarSafe: laid · SidecarOne: laid · SidecarOther: laid.
  DERIVED. THE GIVEN ROWS OF THIS SEAT. 4 by the template 'for every input the law returns true; each argument reads behind the call as it read before'; 0 by the template 'total and deterministic' (their statements: YtmcogmmncfihhaaGreatDoorTotals.lean).
  GIVEN WITH THE SEED: the statements are not yours to turn. If you find one false, say at which input.
  Laid BY PROGRAM, IN A SANDBOX (cutbox-rows.mjs): the forced cells as the released guide's own fill.sh prints them over the translation fd130130220a3540… (all of the seat's roots in one cut). By AI agents, Wed Nov 11 2026. No macro, syntax, notation, axiom, sorry.
-/
import Derived.Test.YtmcogmmncfihhaaGreatDoorChecked
import GoSem.Claim
import GoSem.ClaimJoined
import GoSem.ClaimMapViews
import Derived.JoinedTies
import Derived.KernelRfl
namespace Go.Proofs.YtmcogmmncfihhaaGreatDoor
/- THE CELL 'sum', in the pinned program and in every row, IS THE sha256 OF THE DUMP (.gsa) THAT YtmcogmmncfihhaaGreatDoorProg.lean LOADS. Nothing in Lean hashes anything: it is a label: what it is worth is what the hold of that sum in a sandbox is worth. -/
noncomputable def Tryz.pinned : Pinned := { name := "ytmcogmmncfihhaagreatdoor", sum := "fd130130220a3540d684765a96841d4a7f1e9cc1201e8286110cb5026008f7fa", checked := Tryz.checked }
namespace Rows
def none {H : Type} : Left H := { results := [], args := [] }

/- WHAT THE LISTED PACKAGE-LEVEL VARIABLES READ AS WHEN THE CALL BEGINS. Each datum BY PROGRAM (the guide's laid-datum.mjs) off the statement by which the dump's own 'gosem.cut.vars' lays the variable. In a bare row this is a premise. The card (YtmcogmmncfihhaaGreatDoorCards.lean) ties it to the program's text. -/
def laid_errors_errorType {H : Type} : DataW H := .iface "internal/reflectlite.rtype" (.agg [.ptr (.lit (.string [101, 114, 114, 111, 114]))])

/-- 'pressmarklaw20.SidecarBack': WHATEVER THE INPUT: true; the input reads as it did. -/
def sidecarBackSpec : ChangeSpec := { name := "sidecarBack", fn := fun _ => fun
  | [d1, d2, d3, d4, d5, d6] => { results := [.lit (.bool true)], args := [d1, d2, d3, d4, d5, d6] }
  | _ => none }
def sidecarBackRow : OpenClaim := { program := "ytmcogmmncfihhaagreatdoor", sum := "fd130130220a3540d684765a96841d4a7f1e9cc1201e8286110cb5026008f7fa", func := "pressmark/pressmarklaw20.SidecarBack", spec := "sidecarBack", inPlace := ["internal/reflectlite.TypeOf", "internal/reflectlite.ValueOf", "(internal/reflectlite.Value).Type", "(internal/reflectlite.Value).IsNil", "(internal/reflectlite.Value).Elem", "(internal/reflectlite.Value).Set", "internal/abi.NoEscape"], unfollowed := true, recurses := true, named := ["errors.errorType"], apart := false, laid := [("errors.errorType", laid_errors_errorType)] }
def SidecarBackSaid : Prop := sidecarBackRow.holds Tryz.pinned (OpenSpec.ofChange sidecarBackSpec)

/-- ITS FALSE NEIGHBOUR: 'it returns false'. Refute it at one input. -/
def sidecarBackWrong : ChangeSpec := { name := "sidecarBack", fn := fun _ => fun
  | [d1, d2, d3, d4, d5, d6] => { results := [.lit (.bool false)], args := [d1, d2, d3, d4, d5, d6] }
  | _ => none }
def SidecarBackWrongFalsely : Prop := sidecarBackRow.holds Tryz.pinned (OpenSpec.ofChange sidecarBackWrong)

/-- 'pressmarklaw20.SidecarSafe': WHATEVER THE INPUT: true; the input reads as it did. -/
def sidecarSafeSpec : ChangeSpec := { name := "sidecarSafe", fn := fun _ => fun
  | [d1, d2, d3, d4, d5, d6] => { results := [.lit (.bool true)], args := [d1, d2, d3, d4, d5, d6] }
  | _ => none }
def sidecarSafeRow : OpenClaim := { program := "ytmcogmmncfihhaagreatdoor", sum := "fd130130220a3540d684765a96841d4a7f1e9cc1201e8286110cb5026008f7fa", func := "pressmark/pressmarklaw20.SidecarSafe", spec := "sidecarSafe", inPlace := ["internal/reflectlite.TypeOf", "internal/reflectlite.ValueOf", "(internal/reflectlite.Value).Type", "(internal/reflectlite.Value).IsNil", "(internal/reflectlite.Value).Elem", "(internal/reflectlite.Value).Set", "internal/abi.NoEscape"], unfollowed := true, recurses := true, named := ["errors.errorType"], apart := false, laid := [("errors.errorType", laid_errors_errorType)] }
def SidecarSafeSaid : Prop := sidecarSafeRow.holds Tryz.pinned (OpenSpec.ofChange sidecarSafeSpec)

/-- ITS FALSE NEIGHBOUR: 'it returns false'. Refute it at one input. -/
def sidecarSafeWrong : ChangeSpec := { name := "sidecarSafe", fn := fun _ => fun
  | [d1, d2, d3, d4, d5, d6] => { results := [.lit (.bool false)], args := [d1, d2, d3, d4, d5, d6] }
  | _ => none }
def SidecarSafeWrongFalsely : Prop := sidecarSafeRow.holds Tryz.pinned (OpenSpec.ofChange sidecarSafeWrong)

/-- 'pressmarklaw20.SidecarOne': WHATEVER THE INPUT: true; the input reads as it did. -/
def sidecarOneSpec : ChangeSpec := { name := "sidecarOne", fn := fun _ => fun
  | [d1, d2, d3, d4, d5] => { results := [.lit (.bool true)], args := [d1, d2, d3, d4, d5] }
  | _ => none }
def sidecarOneRow : OpenClaim := { program := "ytmcogmmncfihhaagreatdoor", sum := "fd130130220a3540d684765a96841d4a7f1e9cc1201e8286110cb5026008f7fa", func := "pressmark/pressmarklaw20.SidecarOne", spec := "sidecarOne", inPlace := ["internal/reflectlite.TypeOf", "internal/reflectlite.ValueOf", "(internal/reflectlite.Value).Type", "(internal/reflectlite.Value).IsNil", "(internal/reflectlite.Value).Elem", "(internal/reflectlite.Value).Set", "internal/abi.NoEscape"], unfollowed := true, recurses := true, named := ["errors.errorType"], apart := false, laid := [("errors.errorType", laid_errors_errorType)] }
def SidecarOneSaid : Prop := sidecarOneRow.holds Tryz.pinned (OpenSpec.ofChange sidecarOneSpec)

/-- ITS FALSE NEIGHBOUR: 'it returns false'. Refute it at one input. -/
def sidecarOneWrong : ChangeSpec := { name := "sidecarOne", fn := fun _ => fun
  | [d1, d2, d3, d4, d5] => { results := [.lit (.bool false)], args := [d1, d2, d3, d4, d5] }
  | _ => none }
def SidecarOneWrongFalsely : Prop := sidecarOneRow.holds Tryz.pinned (OpenSpec.ofChange sidecarOneWrong)

/-- 'pressmarklaw20.SidecarOther': WHATEVER THE INPUT: true; the input reads as it did. -/
def sidecarOtherSpec : ChangeSpec := { name := "sidecarOther", fn := fun _ => fun
  | [d1, d2, d3, d4, d5, d6] => { results := [.lit (.bool true)], args := [d1, d2, d3, d4, d5, d6] }
  | _ => none }
def sidecarOtherRow : OpenClaim := { program := "ytmcogmmncfihhaagreatdoor", sum := "fd130130220a3540d684765a96841d4a7f1e9cc1201e8286110cb5026008f7fa", func := "pressmark/pressmarklaw20.SidecarOther", spec := "sidecarOther", inPlace := ["internal/reflectlite.TypeOf", "internal/reflectlite.ValueOf", "(internal/reflectlite.Value).Type", "(internal/reflectlite.Value).IsNil", "(internal/reflectlite.Value).Elem", "(internal/reflectlite.Value).Set", "internal/abi.NoEscape"], unfollowed := true, recurses := true, named := ["errors.errorType"], apart := false, laid := [("errors.errorType", laid_errors_errorType)] }
def SidecarOtherSaid : Prop := sidecarOtherRow.holds Tryz.pinned (OpenSpec.ofChange sidecarOtherSpec)

/-- ITS FALSE NEIGHBOUR: 'it returns false'. Refute it at one input. -/
def sidecarOtherWrong : ChangeSpec := { name := "sidecarOther", fn := fun _ => fun
  | [d1, d2, d3, d4, d5, d6] => { results := [.lit (.bool false)], args := [d1, d2, d3, d4, d5, d6] }
  | _ => none }
def SidecarOtherWrongFalsely : Prop := sidecarOtherRow.holds Tryz.pinned (OpenSpec.ofChange sidecarOtherWrong)

/- THE SECOND FORM. 'bulk': how many values and letters a reading holds, each counted each time it is reached (what is shared counts as often as it is met; a slice's spare places count too). A statement '..UptoSaid' is the law's where the arguments, and the package variables that the reading takes, are together of bulk at most 1048576: NARROWER than '..Said'. Prove '..Said' where nothing that the law and all that it calls make is longer than what came in: it says more and counts as full. Else prove '..UptoSaid'. A law counts once. -/
mutual
def uptoBulk {H : Type} : DataW H → Nat
  | .lit (.string bytes) => bytes.length + 1
  | .lit _ => 1
  | .nil => 1
  | .ptr d => uptoBulk d + 1
  | .slice elems spare => uptoBulkAll elems + uptoBulkAll spare + 1
  | .agg parts => uptoBulkAll parts + 1
  | .iface _ d => uptoBulk d + 1
  | .map entries => uptoBulkEntries entries + 1
  | .held _ => 1
def uptoBulkAll {H : Type} : List (DataW H) → Nat
  | [] => 0
  | d :: r => uptoBulk d + uptoBulkAll r
def uptoBulkEntries {H : Type} : List (Lit × DataW H) → Nat
  | [] => 0
  | x :: r => uptoBulkEntry x + uptoBulkEntries r
def uptoBulkEntry {H : Type} : Lit × DataW H → Nat
  | (.string bytes, d) => bytes.length + uptoBulk d + 1
  | (_, d) => uptoBulk d + 1
 end
def uptoSmall : (H : Type) → List (DataW H) → Bool := fun _ ds => decide (uptoBulkAll ds ≤ 1048576)
def OpenSpec.upto (s : _root_.Go.ChangeSpec) : _root_.Go.OpenSpec := { _root_.Go.OpenSpec.ofChange s with cond := some uptoSmall }

/-- 'pressmarklaw20.SidecarBack', WHERE WHAT IT READS IS OF BULK AT MOST 1048576: true; the input reads as it did. -/
def sidecarBackUptoRow : OpenClaim := { program := "ytmcogmmncfihhaagreatdoor", sum := "fd130130220a3540d684765a96841d4a7f1e9cc1201e8286110cb5026008f7fa", func := "pressmark/pressmarklaw20.SidecarBack", spec := "sidecarBack", inPlace := ["internal/reflectlite.TypeOf", "internal/reflectlite.ValueOf", "(internal/reflectlite.Value).Type", "(internal/reflectlite.Value).IsNil", "(internal/reflectlite.Value).Elem", "(internal/reflectlite.Value).Set", "internal/abi.NoEscape"], unfollowed := true, recurses := true, named := ["errors.errorType"], apart := false, laid := [("errors.errorType", laid_errors_errorType)], narrowed := true }
def SidecarBackUptoSaid : Prop := sidecarBackUptoRow.holds Tryz.pinned (OpenSpec.upto sidecarBackSpec)

/-- 'pressmarklaw20.SidecarSafe', WHERE WHAT IT READS IS OF BULK AT MOST 1048576: true; the input reads as it did. -/
def sidecarSafeUptoRow : OpenClaim := { program := "ytmcogmmncfihhaagreatdoor", sum := "fd130130220a3540d684765a96841d4a7f1e9cc1201e8286110cb5026008f7fa", func := "pressmark/pressmarklaw20.SidecarSafe", spec := "sidecarSafe", inPlace := ["internal/reflectlite.TypeOf", "internal/reflectlite.ValueOf", "(internal/reflectlite.Value).Type", "(internal/reflectlite.Value).IsNil", "(internal/reflectlite.Value).Elem", "(internal/reflectlite.Value).Set", "internal/abi.NoEscape"], unfollowed := true, recurses := true, named := ["errors.errorType"], apart := false, laid := [("errors.errorType", laid_errors_errorType)], narrowed := true }
def SidecarSafeUptoSaid : Prop := sidecarSafeUptoRow.holds Tryz.pinned (OpenSpec.upto sidecarSafeSpec)

/-- 'pressmarklaw20.SidecarOne', WHERE WHAT IT READS IS OF BULK AT MOST 1048576: true; the input reads as it did. -/
def sidecarOneUptoRow : OpenClaim := { program := "ytmcogmmncfihhaagreatdoor", sum := "fd130130220a3540d684765a96841d4a7f1e9cc1201e8286110cb5026008f7fa", func := "pressmark/pressmarklaw20.SidecarOne", spec := "sidecarOne", inPlace := ["internal/reflectlite.TypeOf", "internal/reflectlite.ValueOf", "(internal/reflectlite.Value).Type", "(internal/reflectlite.Value).IsNil", "(internal/reflectlite.Value).Elem", "(internal/reflectlite.Value).Set", "internal/abi.NoEscape"], unfollowed := true, recurses := true, named := ["errors.errorType"], apart := false, laid := [("errors.errorType", laid_errors_errorType)], narrowed := true }
def SidecarOneUptoSaid : Prop := sidecarOneUptoRow.holds Tryz.pinned (OpenSpec.upto sidecarOneSpec)

/-- 'pressmarklaw20.SidecarOther', WHERE WHAT IT READS IS OF BULK AT MOST 1048576: true; the input reads as it did. -/
def sidecarOtherUptoRow : OpenClaim := { program := "ytmcogmmncfihhaagreatdoor", sum := "fd130130220a3540d684765a96841d4a7f1e9cc1201e8286110cb5026008f7fa", func := "pressmark/pressmarklaw20.SidecarOther", spec := "sidecarOther", inPlace := ["internal/reflectlite.TypeOf", "internal/reflectlite.ValueOf", "(internal/reflectlite.Value).Type", "(internal/reflectlite.Value).IsNil", "(internal/reflectlite.Value).Elem", "(internal/reflectlite.Value).Set", "internal/abi.NoEscape"], unfollowed := true, recurses := true, named := ["errors.errorType"], apart := false, laid := [("errors.errorType", laid_errors_errorType)], narrowed := true }
def SidecarOtherUptoSaid : Prop := sidecarOtherUptoRow.holds Tryz.pinned (OpenSpec.upto sidecarOtherSpec)

end Rows
end Go.Proofs.YtmcogmmncfihhaaGreatDoor

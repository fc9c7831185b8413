/-
  NARROWER THAN 'FOR EVERY INPUT', by the rows' own cells (each row's printed sentence says how): SqueezeTells: laid · SqueezeBack: laid · SqueezeKeeps: laid · SqueezeShort: laid · SqueezeTurned: laid · SqueezeMost: laid.
  DERIVED. THE GIVEN ROWS OF THIS SEAT. 6 by the template 'for every input the law returns true; each argument reads behind the call as it read before'; 0 by the template 'total and deterministic' (their statements: YthjmpiekjfnoiaaGreatDoorTotals.lean).
  GIVEN WITH THE SEED: the statements are not yours to turn. If you find one false, say at which input.
  Laid BY PROGRAM, IN A SANDBOX (cutbox-rows.mjs): the forced cells as the released guide's own fill.sh prints them over the translation 6d588183aafea5df… (all of the seat's roots in one cut). By AI agents, Wed Nov 11 2026. No macro, syntax, notation, axiom, sorry.
-/
import Derived.Test.YthjmpiekjfnoiaaGreatDoorChecked
import GoSem.Claim
import GoSem.ClaimJoined
import GoSem.ClaimMapViews
import Derived.JoinedTies
import Derived.KernelRfl
namespace Go.Proofs.YthjmpiekjfnoiaaGreatDoor
/- THE CELL 'sum', in the pinned program and in every row, IS THE sha256 OF THE DUMP (.gsa) THAT YthjmpiekjfnoiaaGreatDoorProg.lean LOADS. Nothing in Lean hashes anything: it is a label: what it is worth is what the hold of that sum in a sandbox is worth. -/
noncomputable def Tryz.pinned : Pinned := { name := "ythjmpiekjfnoiaagreatdoor", sum := "6d588183aafea5df93ecbce19706f63f6419d970214e30a99c2cd19ea4475c6b", checked := Tryz.checked }
namespace Rows
def none {H : Type} : Left H := { results := [], args := [] }

/- WHAT THE LISTED PACKAGE-LEVEL VARIABLES READ AS WHEN THE CALL BEGINS. Each datum BY PROGRAM (the guide's laid-datum.mjs) off the statement by which the dump's own 'gosem.cut.vars' lays the variable. In a bare row this is a premise. The card (YthjmpiekjfnoiaaGreatDoorCards.lean) ties it to the program's text. -/
def laid_errors_errorType {H : Type} : DataW H := .iface "internal/reflectlite.rtype" (.agg [.ptr (.lit (.string [101, 114, 114, 111, 114]))])

/-- 'pressmarklaw15.SqueezeTells': WHATEVER THE INPUT: true; the input reads as it did. -/
def squeezeTellsSpec : ChangeSpec := { name := "squeezeTells", fn := fun _ => fun
  | [d1, d2, d3, d4, d5, d6] => { results := [.lit (.bool true)], args := [d1, d2, d3, d4, d5, d6] }
  | _ => none }
def squeezeTellsRow : OpenClaim := { program := "ythjmpiekjfnoiaagreatdoor", sum := "6d588183aafea5df93ecbce19706f63f6419d970214e30a99c2cd19ea4475c6b", func := "pressmark/pressmarklaw15.SqueezeTells", spec := "squeezeTells", inPlace := ["internal/bytealg.IndexByte", "internal/reflectlite.ValueOf", "(internal/reflectlite.Value).Type", "(internal/reflectlite.Value).IsNil", "internal/reflectlite.TypeOf", "(internal/reflectlite.Value).Elem", "(internal/reflectlite.Value).Set"], unfollowed := true, recurses := true, named := ["errors.errorType"], apart := false, laid := [("errors.errorType", laid_errors_errorType)] }
def SqueezeTellsSaid : Prop := squeezeTellsRow.holds Tryz.pinned (OpenSpec.ofChange squeezeTellsSpec)

/-- ITS FALSE NEIGHBOUR: 'it returns false'. Refute it at one input. -/
def squeezeTellsWrong : ChangeSpec := { name := "squeezeTells", fn := fun _ => fun
  | [d1, d2, d3, d4, d5, d6] => { results := [.lit (.bool false)], args := [d1, d2, d3, d4, d5, d6] }
  | _ => none }
def SqueezeTellsWrongFalsely : Prop := squeezeTellsRow.holds Tryz.pinned (OpenSpec.ofChange squeezeTellsWrong)

/-- 'pressmarklaw15.SqueezeBack': WHATEVER THE INPUT: true; the input reads as it did. -/
def squeezeBackSpec : ChangeSpec := { name := "squeezeBack", fn := fun _ => fun
  | [d1, d2, d3] => { results := [.lit (.bool true)], args := [d1, d2, d3] }
  | _ => none }
def squeezeBackRow : OpenClaim := { program := "ythjmpiekjfnoiaagreatdoor", sum := "6d588183aafea5df93ecbce19706f63f6419d970214e30a99c2cd19ea4475c6b", func := "pressmark/pressmarklaw15.SqueezeBack", spec := "squeezeBack", inPlace := ["internal/bytealg.IndexByte", "internal/reflectlite.ValueOf", "(internal/reflectlite.Value).Type", "(internal/reflectlite.Value).IsNil", "internal/reflectlite.TypeOf", "(internal/reflectlite.Value).Elem", "(internal/reflectlite.Value).Set"], unfollowed := true, recurses := true, named := ["errors.errorType"], apart := false, laid := [("errors.errorType", laid_errors_errorType)] }
def SqueezeBackSaid : Prop := squeezeBackRow.holds Tryz.pinned (OpenSpec.ofChange squeezeBackSpec)

/-- ITS FALSE NEIGHBOUR: 'it returns false'. Refute it at one input. -/
def squeezeBackWrong : ChangeSpec := { name := "squeezeBack", fn := fun _ => fun
  | [d1, d2, d3] => { results := [.lit (.bool false)], args := [d1, d2, d3] }
  | _ => none }
def SqueezeBackWrongFalsely : Prop := squeezeBackRow.holds Tryz.pinned (OpenSpec.ofChange squeezeBackWrong)

/-- 'pressmarklaw15.SqueezeKeeps': WHATEVER THE INPUT: true; the input reads as it did. -/
def squeezeKeepsSpec : ChangeSpec := { name := "squeezeKeeps", fn := fun _ => fun
  | [d1, d2, d3, d4] => { results := [.lit (.bool true)], args := [d1, d2, d3, d4] }
  | _ => none }
def squeezeKeepsRow : OpenClaim := { program := "ythjmpiekjfnoiaagreatdoor", sum := "6d588183aafea5df93ecbce19706f63f6419d970214e30a99c2cd19ea4475c6b", func := "pressmark/pressmarklaw15.SqueezeKeeps", spec := "squeezeKeeps", inPlace := ["internal/bytealg.IndexByte", "internal/reflectlite.ValueOf", "(internal/reflectlite.Value).Type", "(internal/reflectlite.Value).IsNil", "internal/reflectlite.TypeOf", "(internal/reflectlite.Value).Elem", "(internal/reflectlite.Value).Set"], unfollowed := true, recurses := true, named := ["errors.errorType"], apart := false, laid := [("errors.errorType", laid_errors_errorType)] }
def SqueezeKeepsSaid : Prop := squeezeKeepsRow.holds Tryz.pinned (OpenSpec.ofChange squeezeKeepsSpec)

/-- ITS FALSE NEIGHBOUR: 'it returns false'. Refute it at one input. -/
def squeezeKeepsWrong : ChangeSpec := { name := "squeezeKeeps", fn := fun _ => fun
  | [d1, d2, d3, d4] => { results := [.lit (.bool false)], args := [d1, d2, d3, d4] }
  | _ => none }
def SqueezeKeepsWrongFalsely : Prop := squeezeKeepsRow.holds Tryz.pinned (OpenSpec.ofChange squeezeKeepsWrong)

/-- 'pressmarklaw15.SqueezeShort': WHATEVER THE INPUT: true; the input reads as it did. -/
def squeezeShortSpec : ChangeSpec := { name := "squeezeShort", fn := fun _ => fun
  | [d1, d2, d3] => { results := [.lit (.bool true)], args := [d1, d2, d3] }
  | _ => none }
def squeezeShortRow : OpenClaim := { program := "ythjmpiekjfnoiaagreatdoor", sum := "6d588183aafea5df93ecbce19706f63f6419d970214e30a99c2cd19ea4475c6b", func := "pressmark/pressmarklaw15.SqueezeShort", spec := "squeezeShort", inPlace := ["internal/bytealg.IndexByte", "internal/reflectlite.ValueOf", "(internal/reflectlite.Value).Type", "(internal/reflectlite.Value).IsNil", "internal/reflectlite.TypeOf", "(internal/reflectlite.Value).Elem", "(internal/reflectlite.Value).Set"], unfollowed := true, recurses := true, named := ["errors.errorType"], apart := false, laid := [("errors.errorType", laid_errors_errorType)] }
def SqueezeShortSaid : Prop := squeezeShortRow.holds Tryz.pinned (OpenSpec.ofChange squeezeShortSpec)

/-- ITS FALSE NEIGHBOUR: 'it returns false'. Refute it at one input. -/
def squeezeShortWrong : ChangeSpec := { name := "squeezeShort", fn := fun _ => fun
  | [d1, d2, d3] => { results := [.lit (.bool false)], args := [d1, d2, d3] }
  | _ => none }
def SqueezeShortWrongFalsely : Prop := squeezeShortRow.holds Tryz.pinned (OpenSpec.ofChange squeezeShortWrong)

/-- 'pressmarklaw15.SqueezeTurned': WHATEVER THE INPUT: true; the input reads as it did. -/
def squeezeTurnedSpec : ChangeSpec := { name := "squeezeTurned", fn := fun _ => fun
  | [d1, d2, d3] => { results := [.lit (.bool true)], args := [d1, d2, d3] }
  | _ => none }
def squeezeTurnedRow : OpenClaim := { program := "ythjmpiekjfnoiaagreatdoor", sum := "6d588183aafea5df93ecbce19706f63f6419d970214e30a99c2cd19ea4475c6b", func := "pressmark/pressmarklaw15.SqueezeTurned", spec := "squeezeTurned", inPlace := ["internal/bytealg.IndexByte", "internal/reflectlite.ValueOf", "(internal/reflectlite.Value).Type", "(internal/reflectlite.Value).IsNil", "internal/reflectlite.TypeOf", "(internal/reflectlite.Value).Elem", "(internal/reflectlite.Value).Set"], unfollowed := true, recurses := true, named := ["errors.errorType"], apart := false, laid := [("errors.errorType", laid_errors_errorType)] }
def SqueezeTurnedSaid : Prop := squeezeTurnedRow.holds Tryz.pinned (OpenSpec.ofChange squeezeTurnedSpec)

/-- ITS FALSE NEIGHBOUR: 'it returns false'. Refute it at one input. -/
def squeezeTurnedWrong : ChangeSpec := { name := "squeezeTurned", fn := fun _ => fun
  | [d1, d2, d3] => { results := [.lit (.bool false)], args := [d1, d2, d3] }
  | _ => none }
def SqueezeTurnedWrongFalsely : Prop := squeezeTurnedRow.holds Tryz.pinned (OpenSpec.ofChange squeezeTurnedWrong)

/-- 'pressmarklaw15.SqueezeMost': WHATEVER THE INPUT: true; the input reads as it did. -/
def squeezeMostSpec : ChangeSpec := { name := "squeezeMost", fn := fun _ => fun
  | [d1, d2, d3] => { results := [.lit (.bool true)], args := [d1, d2, d3] }
  | _ => none }
def squeezeMostRow : OpenClaim := { program := "ythjmpiekjfnoiaagreatdoor", sum := "6d588183aafea5df93ecbce19706f63f6419d970214e30a99c2cd19ea4475c6b", func := "pressmark/pressmarklaw15.SqueezeMost", spec := "squeezeMost", inPlace := ["internal/bytealg.IndexByte", "internal/reflectlite.ValueOf", "(internal/reflectlite.Value).Type", "(internal/reflectlite.Value).IsNil", "internal/reflectlite.TypeOf", "(internal/reflectlite.Value).Elem", "(internal/reflectlite.Value).Set"], unfollowed := true, recurses := true, named := ["errors.errorType"], apart := false, laid := [("errors.errorType", laid_errors_errorType)] }
def SqueezeMostSaid : Prop := squeezeMostRow.holds Tryz.pinned (OpenSpec.ofChange squeezeMostSpec)

/-- ITS FALSE NEIGHBOUR: 'it returns false'. Refute it at one input. -/
def squeezeMostWrong : ChangeSpec := { name := "squeezeMost", fn := fun _ => fun
  | [d1, d2, d3] => { results := [.lit (.bool false)], args := [d1, d2, d3] }
  | _ => none }
def SqueezeMostWrongFalsely : Prop := squeezeMostRow.holds Tryz.pinned (OpenSpec.ofChange squeezeMostWrong)

/- THE SECOND FORM. 'bulk': how many values and letters a reading holds, each counted each time it is reached (what is shared counts as often as it is met; a slice's spare places count too). A statement '..UptoSaid' is the law's where the arguments, and the package variables that the reading takes, are together of bulk at most 1048576: NARROWER than '..Said'. Prove '..Said' where nothing that the law and all that it calls make is longer than what came in: it says more and counts as full. Else prove '..UptoSaid'. A law counts once. -/
mutual
def uptoBulk {H : Type} : DataW H → Nat
  | .lit (.string bytes) => bytes.length + 1
  | .lit _ => 1
  | .nil => 1
  | .ptr d => uptoBulk d + 1
  | .slice elems spare => uptoBulkAll elems + uptoBulkAll spare + 1
  | .agg parts => uptoBulkAll parts + 1
  | .iface _ d => uptoBulk d + 1
  | .map entries => uptoBulkEntries entries + 1
  | .held _ => 1
def uptoBulkAll {H : Type} : List (DataW H) → Nat
  | [] => 0
  | d :: r => uptoBulk d + uptoBulkAll r
def uptoBulkEntries {H : Type} : List (Lit × DataW H) → Nat
  | [] => 0
  | x :: r => uptoBulkEntry x + uptoBulkEntries r
def uptoBulkEntry {H : Type} : Lit × DataW H → Nat
  | (.string bytes, d) => bytes.length + uptoBulk d + 1
  | (_, d) => uptoBulk d + 1
 end
def uptoSmall : (H : Type) → List (DataW H) → Bool := fun _ ds => decide (uptoBulkAll ds ≤ 1048576)
def OpenSpec.upto (s : _root_.Go.ChangeSpec) : _root_.Go.OpenSpec := { _root_.Go.OpenSpec.ofChange s with cond := some uptoSmall }

/-- 'pressmarklaw15.SqueezeTells', WHERE WHAT IT READS IS OF BULK AT MOST 1048576: true; the input reads as it did. -/
def squeezeTellsUptoRow : OpenClaim := { program := "ythjmpiekjfnoiaagreatdoor", sum := "6d588183aafea5df93ecbce19706f63f6419d970214e30a99c2cd19ea4475c6b", func := "pressmark/pressmarklaw15.SqueezeTells", spec := "squeezeTells", inPlace := ["internal/bytealg.IndexByte", "internal/reflectlite.ValueOf", "(internal/reflectlite.Value).Type", "(internal/reflectlite.Value).IsNil", "internal/reflectlite.TypeOf", "(internal/reflectlite.Value).Elem", "(internal/reflectlite.Value).Set"], unfollowed := true, recurses := true, named := ["errors.errorType"], apart := false, laid := [("errors.errorType", laid_errors_errorType)], narrowed := true }
def SqueezeTellsUptoSaid : Prop := squeezeTellsUptoRow.holds Tryz.pinned (OpenSpec.upto squeezeTellsSpec)

/-- 'pressmarklaw15.SqueezeBack', WHERE WHAT IT READS IS OF BULK AT MOST 1048576: true; the input reads as it did. -/
def squeezeBackUptoRow : OpenClaim := { program := "ythjmpiekjfnoiaagreatdoor", sum := "6d588183aafea5df93ecbce19706f63f6419d970214e30a99c2cd19ea4475c6b", func := "pressmark/pressmarklaw15.SqueezeBack", spec := "squeezeBack", inPlace := ["internal/bytealg.IndexByte", "internal/reflectlite.ValueOf", "(internal/reflectlite.Value).Type", "(internal/reflectlite.Value).IsNil", "internal/reflectlite.TypeOf", "(internal/reflectlite.Value).Elem", "(internal/reflectlite.Value).Set"], unfollowed := true, recurses := true, named := ["errors.errorType"], apart := false, laid := [("errors.errorType", laid_errors_errorType)], narrowed := true }
def SqueezeBackUptoSaid : Prop := squeezeBackUptoRow.holds Tryz.pinned (OpenSpec.upto squeezeBackSpec)

/-- 'pressmarklaw15.SqueezeKeeps', WHERE WHAT IT READS IS OF BULK AT MOST 1048576: true; the input reads as it did. -/
def squeezeKeepsUptoRow : OpenClaim := { program := "ythjmpiekjfnoiaagreatdoor", sum := "6d588183aafea5df93ecbce19706f63f6419d970214e30a99c2cd19ea4475c6b", func := "pressmark/pressmarklaw15.SqueezeKeeps", spec := "squeezeKeeps", inPlace := ["internal/bytealg.IndexByte", "internal/reflectlite.ValueOf", "(internal/reflectlite.Value).Type", "(internal/reflectlite.Value).IsNil", "internal/reflectlite.TypeOf", "(internal/reflectlite.Value).Elem", "(internal/reflectlite.Value).Set"], unfollowed := true, recurses := true, named := ["errors.errorType"], apart := false, laid := [("errors.errorType", laid_errors_errorType)], narrowed := true }
def SqueezeKeepsUptoSaid : Prop := squeezeKeepsUptoRow.holds Tryz.pinned (OpenSpec.upto squeezeKeepsSpec)

/-- 'pressmarklaw15.SqueezeShort', WHERE WHAT IT READS IS OF BULK AT MOST 1048576: true; the input reads as it did. -/
def squeezeShortUptoRow : OpenClaim := { program := "ythjmpiekjfnoiaagreatdoor", sum := "6d588183aafea5df93ecbce19706f63f6419d970214e30a99c2cd19ea4475c6b", func := "pressmark/pressmarklaw15.SqueezeShort", spec := "squeezeShort", inPlace := ["internal/bytealg.IndexByte", "internal/reflectlite.ValueOf", "(internal/reflectlite.Value).Type", "(internal/reflectlite.Value).IsNil", "internal/reflectlite.TypeOf", "(internal/reflectlite.Value).Elem", "(internal/reflectlite.Value).Set"], unfollowed := true, recurses := true, named := ["errors.errorType"], apart := false, laid := [("errors.errorType", laid_errors_errorType)], narrowed := true }
def SqueezeShortUptoSaid : Prop := squeezeShortUptoRow.holds Tryz.pinned (OpenSpec.upto squeezeShortSpec)

/-- 'pressmarklaw15.SqueezeTurned', WHERE WHAT IT READS IS OF BULK AT MOST 1048576: true; the input reads as it did. -/
def squeezeTurnedUptoRow : OpenClaim := { program := "ythjmpiekjfnoiaagreatdoor", sum := "6d588183aafea5df93ecbce19706f63f6419d970214e30a99c2cd19ea4475c6b", func := "pressmark/pressmarklaw15.SqueezeTurned", spec := "squeezeTurned", inPlace := ["internal/bytealg.IndexByte", "internal/reflectlite.ValueOf", "(internal/reflectlite.Value).Type", "(internal/reflectlite.Value).IsNil", "internal/reflectlite.TypeOf", "(internal/reflectlite.Value).Elem", "(internal/reflectlite.Value).Set"], unfollowed := true, recurses := true, named := ["errors.errorType"], apart := false, laid := [("errors.errorType", laid_errors_errorType)], narrowed := true }
def SqueezeTurnedUptoSaid : Prop := squeezeTurnedUptoRow.holds Tryz.pinned (OpenSpec.upto squeezeTurnedSpec)

/-- 'pressmarklaw15.SqueezeMost', WHERE WHAT IT READS IS OF BULK AT MOST 1048576: true; the input reads as it did. -/
def squeezeMostUptoRow : OpenClaim := { program := "ythjmpiekjfnoiaagreatdoor", sum := "6d588183aafea5df93ecbce19706f63f6419d970214e30a99c2cd19ea4475c6b", func := "pressmark/pressmarklaw15.SqueezeMost", spec := "squeezeMost", inPlace := ["internal/bytealg.IndexByte", "internal/reflectlite.ValueOf", "(internal/reflectlite.Value).Type", "(internal/reflectlite.Value).IsNil", "internal/reflectlite.TypeOf", "(internal/reflectlite.Value).Elem", "(internal/reflectlite.Value).Set"], unfollowed := true, recurses := true, named := ["errors.errorType"], apart := false, laid := [("errors.errorType", laid_errors_errorType)], narrowed := true }
def SqueezeMostUptoSaid : Prop := squeezeMostUptoRow.holds Tryz.pinned (OpenSpec.upto squeezeMostSpec)

end Rows
end Go.Proofs.YthjmpiekjfnoiaaGreatDoor

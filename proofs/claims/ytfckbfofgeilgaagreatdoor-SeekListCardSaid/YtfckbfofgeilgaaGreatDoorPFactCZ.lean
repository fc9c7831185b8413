/-
  What the program's form is, as the rows ask for it (part three).
-/
import Derived.Test.YtfckbfofgeilgaaGreatDoorRows
import Derived.WalkKit
import Derived.ProofKit
import Derived.OpenShut
import Derived.SevenTiedAt
namespace Go.Proofs.YtfckbfofgeilgaaGreatDoor
open Go.ChangeShapes Go.WideShapes Go.ChangeAt Go.RowKit Go

theorem factKeys : (Rows.seekExactRow.plainKeys == Tryz.prog.plainKeys) = true := by kernel_rfl
theorem factMake : (Tryz.prog.make == some Rows.seekExactRow.make) = true := by kernel_rfl

end Go.Proofs.YtfckbfofgeilgaaGreatDoor

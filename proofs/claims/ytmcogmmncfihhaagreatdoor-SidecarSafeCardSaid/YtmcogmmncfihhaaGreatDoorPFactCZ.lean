/-
  What the program's form is, as the rows ask for it (part three).
-/
import Derived.Test.YtmcogmmncfihhaaGreatDoorRows
import Derived.WalkKit
import Derived.ProofKit
import Derived.OpenShut
import Derived.SevenTiedAt
namespace Go.Proofs.YtmcogmmncfihhaaGreatDoor
open Go.ChangeShapes Go.WideShapes Go.ChangeAt Go.RowKit Go

theorem factKeys : (Rows.sidecarBackRow.plainKeys == Tryz.prog.plainKeys) = true := by kernel_rfl
theorem factMake : (Tryz.prog.make == some Rows.sidecarBackRow.make) = true := by kernel_rfl

end Go.Proofs.YtmcogmmncfihhaaGreatDoor

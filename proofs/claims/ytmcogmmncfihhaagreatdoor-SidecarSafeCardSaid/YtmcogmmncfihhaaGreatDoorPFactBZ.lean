/-
  What the program's form is, as the rows ask for it (part two).
-/
import Derived.Test.YtmcogmmncfihhaaGreatDoorRows
import Derived.WalkKit
import Derived.ProofKit
import Derived.OpenShut
import Derived.SevenTiedAt
namespace Go.Proofs.YtmcogmmncfihhaaGreatDoor
open Go.ChangeShapes Go.WideShapes Go.ChangeAt Go.RowKit Go

theorem factLifts : (Rows.sidecarBackRow.lifted == Tryz.prog.liftsFinal) = true := by kernel_rfl

end Go.Proofs.YtmcogmmncfihhaaGreatDoor

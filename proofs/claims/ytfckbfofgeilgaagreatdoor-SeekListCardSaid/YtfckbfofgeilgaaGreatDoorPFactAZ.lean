/-
  What the program's form is, as the rows ask for it (part one).
-/
import Derived.Test.YtfckbfofgeilgaaGreatDoorRows
import Derived.WalkKit
import Derived.ProofKit
import Derived.OpenShut
import Derived.SevenTiedAt
namespace Go.Proofs.YtfckbfofgeilgaaGreatDoor
open Go.ChangeShapes Go.WideShapes Go.ChangeAt Go.RowKit Go

theorem factStops : Tryz.prog.stopsHeard = true := by kernel_rfl
theorem factEnter : Tryz.prog.mayEnter = true := by kernel_rfl

end Go.Proofs.YtfckbfofgeilgaaGreatDoor

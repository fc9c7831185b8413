/-
  What the walks of the statements on an archive's blocks share.
-/
import Derived.Test.YtpgmbhpbgkljdaaGreatDoorLaw17nZ
import Derived.Test.YtpgmbhpbgkljdaaGreatDoorP17kZ
set_option linter.unusedVariables false
set_option linter.unusedSimpArgs false
namespace Go.Proofs.YtpgmbhpbgkljdaaGreatDoor
open Go.RowKit Go Go.Shelf

/-- The blocks of an archive of one stream. -/
theorem arcP_one (n : Nat) (y : List ByteArray) : arcP 0 [(n, y)] = posW (40 * (n : Int)) 32 y := by
  show posW (40 * (n : Int)) (0 + 32) y ++ [] = _
  rw [List.append_nil, Nat.zero_add]

end Go.Proofs.YtpgmbhpbgkljdaaGreatDoor

/-
  DERIVED. GIVEN WITH THE SEED: THE CARDS: each row of YtjkjeamepgjicaaGreatDoorRows.lean that lists a variable, with what it lists TIED to the program's text (the seventh form; the later family's looks); each row that meets fmt, with fmt's text TOLD by the authors' own Lean function (tested against real Go, not proved from fmt's source: count such statements apart). THE CARD IS WHAT COUNTS. Prove the row's statement (the work); the ties are given (YtjkjeamepgjicaaGreatDoorTie.lean); close each card by the builder's one call (the guide's Derived/Test/ToyasCard.lean, 'card_holds'). Laid BY PROGRAM, IN A SANDBOX (cutbox-door.mjs). By AI agents, Wed Nov 11 2026. No macro, syntax, notation, axiom, sorry.
-/
import Derived.Test.YtjkjeamepgjicaaGreatDoorRows
import GoSem.ClaimSeven
namespace Go.Proofs.YtjkjeamepgjicaaGreatDoor
namespace Rows

/-- THE TIED CARD OF 'pressmarklaw20.SidecarForms'. -/
def sidecarFormsCard : Claim7 := { stood := { row := sidecarFormsRow, standIns := [], harness := (true, "d24b5a72997bfd372cf149b04781325924559a41c471a2c1414ff21c269af65e"), looks := true }, kinds := [], alts := [], laidByText := true, laidKinds := [.handle], laidTests := true, laidLooks := .later }
def SidecarFormsCardSaid : Prop := Claim7.holds Tryz.pinned (.plain (OpenSpec.ofChange sidecarFormsSpec)) sidecarFormsCard

/-- THE SECOND FORM's CARD OF 'pressmarklaw20.SidecarForms'. -/
def sidecarFormsUptoCard : Claim7 := { stood := { row := sidecarFormsUptoRow, standIns := [], harness := (true, "d24b5a72997bfd372cf149b04781325924559a41c471a2c1414ff21c269af65e"), looks := true }, kinds := [], alts := [], laidByText := true, laidKinds := [.handle], laidTests := true, laidLooks := .later }
def SidecarFormsUptoCardSaid : Prop := Claim7.holds Tryz.pinned (.plain (OpenSpec.upto sidecarFormsSpec)) sidecarFormsUptoCard
end Rows
end Go.Proofs.YtjkjeamepgjicaaGreatDoor

/-
  DERIVED. GIVEN WITH THE SEED: THE CARDS: each row of YtfplbbphficcjaaGreatDoorRows.lean that lists a variable, with what it lists TIED to the program's text (the seventh form; the later family's looks); each row that meets fmt, with fmt's text TOLD by the authors' own Lean function (tested against real Go, not proved from fmt's source: count such statements apart). THE CARD IS WHAT COUNTS. Prove the row's statement (the work); the ties are given (YtfplbbphficcjaaGreatDoorTie.lean); close each card by the builder's one call (the guide's Derived/Test/ToyasCard.lean, 'card_holds'). Laid BY PROGRAM, IN A SANDBOX (cutbox-door.mjs). By AI agents, Wed Nov 11 2026. No macro, syntax, notation, axiom, sorry.
-/
import Derived.Test.YtfplbbphficcjaaGreatDoorRows
import GoSem.ClaimSeven
namespace Go.Proofs.YtfplbbphficcjaaGreatDoor
namespace Rows

/-- THE TIED CARD OF 'pressmarklaw20.SidecarTells'. -/
def sidecarTellsCard : Claim7 := { stood := { row := sidecarTellsRow, standIns := [], harness := (true, "de06b8acda176df7c445ecc597ec107eafaa1290279e0e634561c198eeb29441"), looks := true }, kinds := [], alts := [], laidByText := true, laidKinds := [.handle], laidTests := true, laidLooks := .later }
def SidecarTellsCardSaid : Prop := Claim7.holds Tryz.pinned (.plain (OpenSpec.ofChange sidecarTellsSpec)) sidecarTellsCard

/-- THE SECOND FORM's CARD OF 'pressmarklaw20.SidecarTells'. -/
def sidecarTellsUptoCard : Claim7 := { stood := { row := sidecarTellsUptoRow, standIns := [], harness := (true, "de06b8acda176df7c445ecc597ec107eafaa1290279e0e634561c198eeb29441"), looks := true }, kinds := [], alts := [], laidByText := true, laidKinds := [.handle], laidTests := true, laidLooks := .later }
def SidecarTellsUptoCardSaid : Prop := Claim7.holds Tryz.pinned (.plain (OpenSpec.upto sidecarTellsSpec)) sidecarTellsUptoCard
end Rows
end Go.Proofs.YtfplbbphficcjaaGreatDoor

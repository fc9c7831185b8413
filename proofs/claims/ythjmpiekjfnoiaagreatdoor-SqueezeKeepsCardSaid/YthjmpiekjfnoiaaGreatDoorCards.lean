/-
  DERIVED. GIVEN WITH THE SEED: THE CARDS: each row of YthjmpiekjfnoiaaGreatDoorRows.lean that lists a variable, with what it lists TIED to the program's text (the seventh form; the later family's looks); each row that meets fmt, with fmt's text TOLD by the authors' own Lean function (tested against real Go, not proved from fmt's source: count such statements apart). THE CARD IS WHAT COUNTS. Prove the row's statement (the work); the ties are given (YthjmpiekjfnoiaaGreatDoorTie.lean); close each card by the builder's one call (the guide's Derived/Test/ToyasCard.lean, 'card_holds'). Laid BY PROGRAM, IN A SANDBOX (cutbox-door.mjs). By AI agents, Wed Nov 11 2026. No macro, syntax, notation, axiom, sorry.
-/
import Derived.Test.YthjmpiekjfnoiaaGreatDoorRows
import GoSem.ClaimSeven
namespace Go.Proofs.YthjmpiekjfnoiaaGreatDoor
namespace Rows

/-- THE TIED CARD OF 'pressmarklaw15.SqueezeTells'. -/
def squeezeTellsCard : Claim7 := { stood := { row := squeezeTellsRow, standIns := [], harness := (true, "835ef767a5f68f7350e34d040070a0ec708f7b87318fdf980432e83c1298711c"), looks := true }, kinds := [], alts := [], laidByText := true, laidKinds := [.handle], laidTests := true, laidLooks := .later }
def SqueezeTellsCardSaid : Prop := Claim7.holds Tryz.pinned (.plain (OpenSpec.ofChange squeezeTellsSpec)) squeezeTellsCard

/-- THE TIED CARD OF 'pressmarklaw15.SqueezeBack'. -/
def squeezeBackCard : Claim7 := { stood := { row := squeezeBackRow, standIns := [], harness := (true, "835ef767a5f68f7350e34d040070a0ec708f7b87318fdf980432e83c1298711c"), looks := true }, kinds := [], alts := [], laidByText := true, laidKinds := [.handle], laidTests := true, laidLooks := .later }
def SqueezeBackCardSaid : Prop := Claim7.holds Tryz.pinned (.plain (OpenSpec.ofChange squeezeBackSpec)) squeezeBackCard

/-- THE TIED CARD OF 'pressmarklaw15.SqueezeKeeps'. -/
def squeezeKeepsCard : Claim7 := { stood := { row := squeezeKeepsRow, standIns := [], harness := (true, "835ef767a5f68f7350e34d040070a0ec708f7b87318fdf980432e83c1298711c"), looks := true }, kinds := [], alts := [], laidByText := true, laidKinds := [.handle], laidTests := true, laidLooks := .later }
def SqueezeKeepsCardSaid : Prop := Claim7.holds Tryz.pinned (.plain (OpenSpec.ofChange squeezeKeepsSpec)) squeezeKeepsCard

/-- THE TIED CARD OF 'pressmarklaw15.SqueezeShort'. -/
def squeezeShortCard : Claim7 := { stood := { row := squeezeShortRow, standIns := [], harness := (true, "835ef767a5f68f7350e34d040070a0ec708f7b87318fdf980432e83c1298711c"), looks := true }, kinds := [], alts := [], laidByText := true, laidKinds := [.handle], laidTests := true, laidLooks := .later }
def SqueezeShortCardSaid : Prop := Claim7.holds Tryz.pinned (.plain (OpenSpec.ofChange squeezeShortSpec)) squeezeShortCard

/-- THE TIED CARD OF 'pressmarklaw15.SqueezeTurned'. -/
def squeezeTurnedCard : Claim7 := { stood := { row := squeezeTurnedRow, standIns := [], harness := (true, "835ef767a5f68f7350e34d040070a0ec708f7b87318fdf980432e83c1298711c"), looks := true }, kinds := [], alts := [], laidByText := true, laidKinds := [.handle], laidTests := true, laidLooks := .later }
def SqueezeTurnedCardSaid : Prop := Claim7.holds Tryz.pinned (.plain (OpenSpec.ofChange squeezeTurnedSpec)) squeezeTurnedCard

/-- THE TIED CARD OF 'pressmarklaw15.SqueezeMost'. -/
def squeezeMostCard : Claim7 := { stood := { row := squeezeMostRow, standIns := [], harness := (true, "835ef767a5f68f7350e34d040070a0ec708f7b87318fdf980432e83c1298711c"), looks := true }, kinds := [], alts := [], laidByText := true, laidKinds := [.handle], laidTests := true, laidLooks := .later }
def SqueezeMostCardSaid : Prop := Claim7.holds Tryz.pinned (.plain (OpenSpec.ofChange squeezeMostSpec)) squeezeMostCard

/-- THE SECOND FORM's CARD OF 'pressmarklaw15.SqueezeTells'. -/
def squeezeTellsUptoCard : Claim7 := { stood := { row := squeezeTellsUptoRow, standIns := [], harness := (true, "835ef767a5f68f7350e34d040070a0ec708f7b87318fdf980432e83c1298711c"), looks := true }, kinds := [], alts := [], laidByText := true, laidKinds := [.handle], laidTests := true, laidLooks := .later }
def SqueezeTellsUptoCardSaid : Prop := Claim7.holds Tryz.pinned (.plain (OpenSpec.upto squeezeTellsSpec)) squeezeTellsUptoCard

/-- THE SECOND FORM's CARD OF 'pressmarklaw15.SqueezeBack'. -/
def squeezeBackUptoCard : Claim7 := { stood := { row := squeezeBackUptoRow, standIns := [], harness := (true, "835ef767a5f68f7350e34d040070a0ec708f7b87318fdf980432e83c1298711c"), looks := true }, kinds := [], alts := [], laidByText := true, laidKinds := [.handle], laidTests := true, laidLooks := .later }
def SqueezeBackUptoCardSaid : Prop := Claim7.holds Tryz.pinned (.plain (OpenSpec.upto squeezeBackSpec)) squeezeBackUptoCard

/-- THE SECOND FORM's CARD OF 'pressmarklaw15.SqueezeKeeps'. -/
def squeezeKeepsUptoCard : Claim7 := { stood := { row := squeezeKeepsUptoRow, standIns := [], harness := (true, "835ef767a5f68f7350e34d040070a0ec708f7b87318fdf980432e83c1298711c"), looks := true }, kinds := [], alts := [], laidByText := true, laidKinds := [.handle], laidTests := true, laidLooks := .later }
def SqueezeKeepsUptoCardSaid : Prop := Claim7.holds Tryz.pinned (.plain (OpenSpec.upto squeezeKeepsSpec)) squeezeKeepsUptoCard

/-- THE SECOND FORM's CARD OF 'pressmarklaw15.SqueezeShort'. -/
def squeezeShortUptoCard : Claim7 := { stood := { row := squeezeShortUptoRow, standIns := [], harness := (true, "835ef767a5f68f7350e34d040070a0ec708f7b87318fdf980432e83c1298711c"), looks := true }, kinds := [], alts := [], laidByText := true, laidKinds := [.handle], laidTests := true, laidLooks := .later }
def SqueezeShortUptoCardSaid : Prop := Claim7.holds Tryz.pinned (.plain (OpenSpec.upto squeezeShortSpec)) squeezeShortUptoCard

/-- THE SECOND FORM's CARD OF 'pressmarklaw15.SqueezeTurned'. -/
def squeezeTurnedUptoCard : Claim7 := { stood := { row := squeezeTurnedUptoRow, standIns := [], harness := (true, "835ef767a5f68f7350e34d040070a0ec708f7b87318fdf980432e83c1298711c"), looks := true }, kinds := [], alts := [], laidByText := true, laidKinds := [.handle], laidTests := true, laidLooks := .later }
def SqueezeTurnedUptoCardSaid : Prop := Claim7.holds Tryz.pinned (.plain (OpenSpec.upto squeezeTurnedSpec)) squeezeTurnedUptoCard

/-- THE SECOND FORM's CARD OF 'pressmarklaw15.SqueezeMost'. -/
def squeezeMostUptoCard : Claim7 := { stood := { row := squeezeMostUptoRow, standIns := [], harness := (true, "835ef767a5f68f7350e34d040070a0ec708f7b87318fdf980432e83c1298711c"), looks := true }, kinds := [], alts := [], laidByText := true, laidKinds := [.handle], laidTests := true, laidLooks := .later }
def SqueezeMostUptoCardSaid : Prop := Claim7.holds Tryz.pinned (.plain (OpenSpec.upto squeezeMostSpec)) squeezeMostUptoCard
end Rows
end Go.Proofs.YthjmpiekjfnoiaaGreatDoor

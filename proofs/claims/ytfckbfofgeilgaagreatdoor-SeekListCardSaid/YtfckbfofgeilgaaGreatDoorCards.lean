/-
  DERIVED. GIVEN WITH THE SEED: THE CARDS: each row of YtfckbfofgeilgaaGreatDoorRows.lean that lists a variable, with what it lists TIED to the program's text (the seventh form; the later family's looks); each row that meets fmt, with fmt's text TOLD by the authors' own Lean function (tested against real Go, not proved from fmt's source: count such statements apart). THE CARD IS WHAT COUNTS. Prove the row's statement (the work); the ties are given (YtfckbfofgeilgaaGreatDoorTie.lean); close each card by the builder's one call (the guide's Derived/Test/ToyasCard.lean, 'card_holds'). Laid BY PROGRAM, IN A SANDBOX (cutbox-door.mjs). By AI agents, Wed Nov 11 2026. No macro, syntax, notation, axiom, sorry.
-/
import Derived.Test.YtfckbfofgeilgaaGreatDoorRows
import GoSem.ClaimSeven
namespace Go.Proofs.YtfckbfofgeilgaaGreatDoor
namespace Rows

/-- THE TIED CARD OF 'pressmarklaw22.SeekExact'. -/
def seekExactCard : Claim7 := { stood := { row := seekExactRow, standIns := [], harness := (true, "e8cfc7ab3ecea16d8003176c1a7118931df5681bc44d5e7a7ec00c7969253a02"), looks := true }, kinds := [], alts := [], laidByText := true, laidKinds := [.handle], laidTests := true, laidLooks := .later }
def SeekExactCardSaid : Prop := Claim7.holds Tryz.pinned (.plain (OpenSpec.ofChange seekExactSpec)) seekExactCard

/-- THE TIED CARD OF 'pressmarklaw22.SeekChunks'. -/
def seekChunksCard : Claim7 := { stood := { row := seekChunksRow, standIns := [], harness := (true, "e8cfc7ab3ecea16d8003176c1a7118931df5681bc44d5e7a7ec00c7969253a02"), looks := true }, kinds := [], alts := [], laidByText := true, laidKinds := [.handle], laidTests := true, laidLooks := .later }
def SeekChunksCardSaid : Prop := Claim7.holds Tryz.pinned (.plain (OpenSpec.ofChange seekChunksSpec)) seekChunksCard

/-- THE TIED CARD OF 'pressmarklaw22.SeekList'. -/
def seekListCard : Claim7 := { stood := { row := seekListRow, standIns := [], harness := (true, "e8cfc7ab3ecea16d8003176c1a7118931df5681bc44d5e7a7ec00c7969253a02"), looks := true }, kinds := [], alts := [], laidByText := true, laidKinds := [.handle], laidTests := true, laidLooks := .later }
def SeekListCardSaid : Prop := Claim7.holds Tryz.pinned (.plain (OpenSpec.ofChange seekListSpec)) seekListCard

/-- THE TIED CARD OF 'pressmarklaw22.SeekSafe'. -/
def seekSafeCard : Claim7 := { stood := { row := seekSafeRow, standIns := [], harness := (true, "e8cfc7ab3ecea16d8003176c1a7118931df5681bc44d5e7a7ec00c7969253a02"), looks := true }, kinds := [], alts := [], laidByText := true, laidKinds := [.handle], laidTests := true, laidLooks := .later }
def SeekSafeCardSaid : Prop := Claim7.holds Tryz.pinned (.plain (OpenSpec.ofChange seekSafeSpec)) seekSafeCard

/-- THE SECOND FORM's CARD OF 'pressmarklaw22.SeekExact'. -/
def seekExactUptoCard : Claim7 := { stood := { row := seekExactUptoRow, standIns := [], harness := (true, "e8cfc7ab3ecea16d8003176c1a7118931df5681bc44d5e7a7ec00c7969253a02"), looks := true }, kinds := [], alts := [], laidByText := true, laidKinds := [.handle], laidTests := true, laidLooks := .later }
def SeekExactUptoCardSaid : Prop := Claim7.holds Tryz.pinned (.plain (OpenSpec.upto seekExactSpec)) seekExactUptoCard

/-- THE SECOND FORM's CARD OF 'pressmarklaw22.SeekChunks'. -/
def seekChunksUptoCard : Claim7 := { stood := { row := seekChunksUptoRow, standIns := [], harness := (true, "e8cfc7ab3ecea16d8003176c1a7118931df5681bc44d5e7a7ec00c7969253a02"), looks := true }, kinds := [], alts := [], laidByText := true, laidKinds := [.handle], laidTests := true, laidLooks := .later }
def SeekChunksUptoCardSaid : Prop := Claim7.holds Tryz.pinned (.plain (OpenSpec.upto seekChunksSpec)) seekChunksUptoCard

/-- THE SECOND FORM's CARD OF 'pressmarklaw22.SeekList'. -/
def seekListUptoCard : Claim7 := { stood := { row := seekListUptoRow, standIns := [], harness := (true, "e8cfc7ab3ecea16d8003176c1a7118931df5681bc44d5e7a7ec00c7969253a02"), looks := true }, kinds := [], alts := [], laidByText := true, laidKinds := [.handle], laidTests := true, laidLooks := .later }
def SeekListUptoCardSaid : Prop := Claim7.holds Tryz.pinned (.plain (OpenSpec.upto seekListSpec)) seekListUptoCard

/-- THE SECOND FORM's CARD OF 'pressmarklaw22.SeekSafe'. -/
def seekSafeUptoCard : Claim7 := { stood := { row := seekSafeUptoRow, standIns := [], harness := (true, "e8cfc7ab3ecea16d8003176c1a7118931df5681bc44d5e7a7ec00c7969253a02"), looks := true }, kinds := [], alts := [], laidByText := true, laidKinds := [.handle], laidTests := true, laidLooks := .later }
def SeekSafeUptoCardSaid : Prop := Claim7.holds Tryz.pinned (.plain (OpenSpec.upto seekSafeSpec)) seekSafeUptoCard
end Rows
end Go.Proofs.YtfckbfofgeilgaaGreatDoor

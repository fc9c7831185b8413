/-
  DERIVED. GIVEN WITH THE SEED: THE CARDS: each row of YtpgmbhpbgkljdaaGreatDoorRows.lean that lists a variable, with what it lists TIED to the program's text (the seventh form; the later family's looks); each row that meets fmt, with fmt's text TOLD by the authors' own Lean function (tested against real Go, not proved from fmt's source: count such statements apart). THE CARD IS WHAT COUNTS. Prove the row's statement (the work); the ties are given (YtpgmbhpbgkljdaaGreatDoorTie.lean); close each card by the builder's one call (the guide's Derived/Test/ToyasCard.lean, 'card_holds'). Laid BY PROGRAM, IN A SANDBOX (cutbox-door.mjs). By AI agents, Wed Nov 11 2026. No macro, syntax, notation, axiom, sorry.
-/
import Derived.Test.YtpgmbhpbgkljdaaGreatDoorRows
import GoSem.ClaimSeven
namespace Go.Proofs.YtpgmbhpbgkljdaaGreatDoor
namespace Rows

/-- THE TIED CARD OF 'pressmarklaw17.StreamBack'. -/
def streamBackCard : Claim7 := { stood := { row := streamBackRow, standIns := [], harness := (true, "aecc20f550552d05789b974d7fe5c27b9dde92698372c28ce3a172bf83333ce5"), looks := true }, kinds := [], alts := [], laidByText := true, laidKinds := [.handle], laidTests := true, laidLooks := .later }
def StreamBackCardSaid : Prop := Claim7.holds Tryz.pinned (.plain (OpenSpec.ofChange streamBackSpec)) streamBackCard

/-- THE TIED CARD OF 'pressmarklaw17.StreamNone'. -/
def streamNoneCard : Claim7 := { stood := { row := streamNoneRow, standIns := [], harness := (true, "aecc20f550552d05789b974d7fe5c27b9dde92698372c28ce3a172bf83333ce5"), looks := true }, kinds := [], alts := [], laidByText := true, laidKinds := [.handle], laidTests := true, laidLooks := .later }
def StreamNoneCardSaid : Prop := Claim7.holds Tryz.pinned (.plain (OpenSpec.ofChange streamNoneSpec)) streamNoneCard

/-- THE TIED CARD OF 'pressmarklaw17.StreamCuts'. -/
def streamCutsCard : Claim7 := { stood := { row := streamCutsRow, standIns := [], harness := (true, "aecc20f550552d05789b974d7fe5c27b9dde92698372c28ce3a172bf83333ce5"), looks := true }, kinds := [], alts := [], laidByText := true, laidKinds := [.handle], laidTests := true, laidLooks := .later }
def StreamCutsCardSaid : Prop := Claim7.holds Tryz.pinned (.plain (OpenSpec.ofChange streamCutsSpec)) streamCutsCard

/-- THE TIED CARD OF 'pressmarklaw17.StreamStands'. -/
def streamStandsCard : Claim7 := { stood := { row := streamStandsRow, standIns := [], harness := (true, "aecc20f550552d05789b974d7fe5c27b9dde92698372c28ce3a172bf83333ce5"), looks := true }, kinds := [], alts := [], laidByText := true, laidKinds := [.handle], laidTests := true, laidLooks := .later }
def StreamStandsCardSaid : Prop := Claim7.holds Tryz.pinned (.plain (OpenSpec.ofChange streamStandsSpec)) streamStandsCard

/-- THE TIED CARD OF 'pressmarklaw18.PackBack'. -/
def packBackCard : Claim7 := { stood := { row := packBackRow, standIns := [], harness := (true, "aecc20f550552d05789b974d7fe5c27b9dde92698372c28ce3a172bf83333ce5"), looks := true }, kinds := [], alts := [], laidByText := true, laidKinds := [.handle], laidTests := true, laidLooks := .later }
def PackBackCardSaid : Prop := Claim7.holds Tryz.pinned (.plain (OpenSpec.ofChange packBackSpec)) packBackCard

/-- THE TIED CARD OF 'pressmarklaw18.PackLevels'. -/
def packLevelsCard : Claim7 := { stood := { row := packLevelsRow, standIns := [], harness := (true, "aecc20f550552d05789b974d7fe5c27b9dde92698372c28ce3a172bf83333ce5"), looks := true }, kinds := [], alts := [], laidByText := true, laidKinds := [.handle], laidTests := true, laidLooks := .later }
def PackLevelsCardSaid : Prop := Claim7.holds Tryz.pinned (.plain (OpenSpec.ofChange packLevelsSpec)) packLevelsCard

/-- THE TIED CARD OF 'pressmarklaw18.PackAlike'. -/
def packAlikeCard : Claim7 := { stood := { row := packAlikeRow, standIns := [], harness := (true, "aecc20f550552d05789b974d7fe5c27b9dde92698372c28ce3a172bf83333ce5"), looks := true }, kinds := [], alts := [], laidByText := true, laidKinds := [.handle], laidTests := true, laidLooks := .later }
def PackAlikeCardSaid : Prop := Claim7.holds Tryz.pinned (.plain (OpenSpec.ofChange packAlikeSpec)) packAlikeCard

/-- THE TIED CARD OF 'pressmarklaw18.PackMore'. -/
def packMoreCard : Claim7 := { stood := { row := packMoreRow, standIns := [], harness := (true, "aecc20f550552d05789b974d7fe5c27b9dde92698372c28ce3a172bf83333ce5"), looks := true }, kinds := [], alts := [], laidByText := true, laidKinds := [.handle], laidTests := true, laidLooks := .later }
def PackMoreCardSaid : Prop := Claim7.holds Tryz.pinned (.plain (OpenSpec.ofChange packMoreSpec)) packMoreCard

/-- THE TIED CARD OF 'pressmarklaw18.PackPieces'. -/
def packPiecesCard : Claim7 := { stood := { row := packPiecesRow, standIns := [], harness := (true, "aecc20f550552d05789b974d7fe5c27b9dde92698372c28ce3a172bf83333ce5"), looks := true }, kinds := [], alts := [], laidByText := true, laidKinds := [.handle], laidTests := true, laidLooks := .later }
def PackPiecesCardSaid : Prop := Claim7.holds Tryz.pinned (.plain (OpenSpec.ofChange packPiecesSpec)) packPiecesCard

/-- THE TIED CARD OF 'pressmarklaw19.IndexFind'. -/
def indexFindCard : Claim7 := { stood := { row := indexFindRow, standIns := [], harness := (true, "aecc20f550552d05789b974d7fe5c27b9dde92698372c28ce3a172bf83333ce5"), looks := true }, kinds := [], alts := [], laidByText := true, laidKinds := [.handle], laidTests := true, laidLooks := .later }
def IndexFindCardSaid : Prop := Claim7.holds Tryz.pinned (.plain (OpenSpec.ofChange indexFindSpec)) indexFindCard

/-- THE TIED CARD OF 'pressmarklaw19.IndexCover'. -/
def indexCoverCard : Claim7 := { stood := { row := indexCoverRow, standIns := [], harness := (true, "aecc20f550552d05789b974d7fe5c27b9dde92698372c28ce3a172bf83333ce5"), looks := true }, kinds := [], alts := [], laidByText := true, laidKinds := [.handle], laidTests := true, laidLooks := .later }
def IndexCoverCardSaid : Prop := Claim7.holds Tryz.pinned (.plain (OpenSpec.ofChange indexCoverSpec)) indexCoverCard

/-- THE TIED CARD OF 'pressmarklaw19.IndexOne'. -/
def indexOneCard : Claim7 := { stood := { row := indexOneRow, standIns := [], harness := (true, "aecc20f550552d05789b974d7fe5c27b9dde92698372c28ce3a172bf83333ce5"), looks := true }, kinds := [], alts := [], laidByText := true, laidKinds := [.handle], laidTests := true, laidLooks := .later }
def IndexOneCardSaid : Prop := Claim7.holds Tryz.pinned (.plain (OpenSpec.ofChange indexOneSpec)) indexOneCard

/-- THE SECOND FORM's CARD OF 'pressmarklaw17.StreamBack'. -/
def streamBackUptoCard : Claim7 := { stood := { row := streamBackUptoRow, standIns := [], harness := (true, "aecc20f550552d05789b974d7fe5c27b9dde92698372c28ce3a172bf83333ce5"), looks := true }, kinds := [], alts := [], laidByText := true, laidKinds := [.handle], laidTests := true, laidLooks := .later }
def StreamBackUptoCardSaid : Prop := Claim7.holds Tryz.pinned (.plain (OpenSpec.upto streamBackSpec)) streamBackUptoCard

/-- THE SECOND FORM's CARD OF 'pressmarklaw17.StreamNone'. -/
def streamNoneUptoCard : Claim7 := { stood := { row := streamNoneUptoRow, standIns := [], harness := (true, "aecc20f550552d05789b974d7fe5c27b9dde92698372c28ce3a172bf83333ce5"), looks := true }, kinds := [], alts := [], laidByText := true, laidKinds := [.handle], laidTests := true, laidLooks := .later }
def StreamNoneUptoCardSaid : Prop := Claim7.holds Tryz.pinned (.plain (OpenSpec.upto streamNoneSpec)) streamNoneUptoCard

/-- THE SECOND FORM's CARD OF 'pressmarklaw17.StreamCuts'. -/
def streamCutsUptoCard : Claim7 := { stood := { row := streamCutsUptoRow, standIns := [], harness := (true, "aecc20f550552d05789b974d7fe5c27b9dde92698372c28ce3a172bf83333ce5"), looks := true }, kinds := [], alts := [], laidByText := true, laidKinds := [.handle], laidTests := true, laidLooks := .later }
def StreamCutsUptoCardSaid : Prop := Claim7.holds Tryz.pinned (.plain (OpenSpec.upto streamCutsSpec)) streamCutsUptoCard

/-- THE SECOND FORM's CARD OF 'pressmarklaw17.StreamStands'. -/
def streamStandsUptoCard : Claim7 := { stood := { row := streamStandsUptoRow, standIns := [], harness := (true, "aecc20f550552d05789b974d7fe5c27b9dde92698372c28ce3a172bf83333ce5"), looks := true }, kinds := [], alts := [], laidByText := true, laidKinds := [.handle], laidTests := true, laidLooks := .later }
def StreamStandsUptoCardSaid : Prop := Claim7.holds Tryz.pinned (.plain (OpenSpec.upto streamStandsSpec)) streamStandsUptoCard

/-- THE SECOND FORM's CARD OF 'pressmarklaw18.PackBack'. -/
def packBackUptoCard : Claim7 := { stood := { row := packBackUptoRow, standIns := [], harness := (true, "aecc20f550552d05789b974d7fe5c27b9dde92698372c28ce3a172bf83333ce5"), looks := true }, kinds := [], alts := [], laidByText := true, laidKinds := [.handle], laidTests := true, laidLooks := .later }
def PackBackUptoCardSaid : Prop := Claim7.holds Tryz.pinned (.plain (OpenSpec.upto packBackSpec)) packBackUptoCard

/-- THE SECOND FORM's CARD OF 'pressmarklaw18.PackLevels'. -/
def packLevelsUptoCard : Claim7 := { stood := { row := packLevelsUptoRow, standIns := [], harness := (true, "aecc20f550552d05789b974d7fe5c27b9dde92698372c28ce3a172bf83333ce5"), looks := true }, kinds := [], alts := [], laidByText := true, laidKinds := [.handle], laidTests := true, laidLooks := .later }
def PackLevelsUptoCardSaid : Prop := Claim7.holds Tryz.pinned (.plain (OpenSpec.upto packLevelsSpec)) packLevelsUptoCard

/-- THE SECOND FORM's CARD OF 'pressmarklaw18.PackAlike'. -/
def packAlikeUptoCard : Claim7 := { stood := { row := packAlikeUptoRow, standIns := [], harness := (true, "aecc20f550552d05789b974d7fe5c27b9dde92698372c28ce3a172bf83333ce5"), looks := true }, kinds := [], alts := [], laidByText := true, laidKinds := [.handle], laidTests := true, laidLooks := .later }
def PackAlikeUptoCardSaid : Prop := Claim7.holds Tryz.pinned (.plain (OpenSpec.upto packAlikeSpec)) packAlikeUptoCard

/-- THE SECOND FORM's CARD OF 'pressmarklaw18.PackMore'. -/
def packMoreUptoCard : Claim7 := { stood := { row := packMoreUptoRow, standIns := [], harness := (true, "aecc20f550552d05789b974d7fe5c27b9dde92698372c28ce3a172bf83333ce5"), looks := true }, kinds := [], alts := [], laidByText := true, laidKinds := [.handle], laidTests := true, laidLooks := .later }
def PackMoreUptoCardSaid : Prop := Claim7.holds Tryz.pinned (.plain (OpenSpec.upto packMoreSpec)) packMoreUptoCard

/-- THE SECOND FORM's CARD OF 'pressmarklaw18.PackPieces'. -/
def packPiecesUptoCard : Claim7 := { stood := { row := packPiecesUptoRow, standIns := [], harness := (true, "aecc20f550552d05789b974d7fe5c27b9dde92698372c28ce3a172bf83333ce5"), looks := true }, kinds := [], alts := [], laidByText := true, laidKinds := [.handle], laidTests := true, laidLooks := .later }
def PackPiecesUptoCardSaid : Prop := Claim7.holds Tryz.pinned (.plain (OpenSpec.upto packPiecesSpec)) packPiecesUptoCard

/-- THE SECOND FORM's CARD OF 'pressmarklaw19.IndexFind'. -/
def indexFindUptoCard : Claim7 := { stood := { row := indexFindUptoRow, standIns := [], harness := (true, "aecc20f550552d05789b974d7fe5c27b9dde92698372c28ce3a172bf83333ce5"), looks := true }, kinds := [], alts := [], laidByText := true, laidKinds := [.handle], laidTests := true, laidLooks := .later }
def IndexFindUptoCardSaid : Prop := Claim7.holds Tryz.pinned (.plain (OpenSpec.upto indexFindSpec)) indexFindUptoCard

/-- THE SECOND FORM's CARD OF 'pressmarklaw19.IndexCover'. -/
def indexCoverUptoCard : Claim7 := { stood := { row := indexCoverUptoRow, standIns := [], harness := (true, "aecc20f550552d05789b974d7fe5c27b9dde92698372c28ce3a172bf83333ce5"), looks := true }, kinds := [], alts := [], laidByText := true, laidKinds := [.handle], laidTests := true, laidLooks := .later }
def IndexCoverUptoCardSaid : Prop := Claim7.holds Tryz.pinned (.plain (OpenSpec.upto indexCoverSpec)) indexCoverUptoCard

/-- THE SECOND FORM's CARD OF 'pressmarklaw19.IndexOne'. -/
def indexOneUptoCard : Claim7 := { stood := { row := indexOneUptoRow, standIns := [], harness := (true, "aecc20f550552d05789b974d7fe5c27b9dde92698372c28ce3a172bf83333ce5"), looks := true }, kinds := [], alts := [], laidByText := true, laidKinds := [.handle], laidTests := true, laidLooks := .later }
def IndexOneUptoCardSaid : Prop := Claim7.holds Tryz.pinned (.plain (OpenSpec.upto indexOneSpec)) indexOneUptoCard
end Rows
end Go.Proofs.YtpgmbhpbgkljdaaGreatDoor

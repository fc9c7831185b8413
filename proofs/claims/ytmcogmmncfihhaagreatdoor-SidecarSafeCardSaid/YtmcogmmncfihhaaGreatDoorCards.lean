/-
  DERIVED. GIVEN WITH THE SEED: THE CARDS: each row of YtmcogmmncfihhaaGreatDoorRows.lean that lists a variable, with what it lists TIED to the program's text (the seventh form; the later family's looks); each row that meets fmt, with fmt's text TOLD by the authors' own Lean function (tested against real Go, not proved from fmt's source: count such statements apart). THE CARD IS WHAT COUNTS. Prove the row's statement (the work); the ties are given (YtmcogmmncfihhaaGreatDoorTie.lean); close each card by the builder's one call (the guide's Derived/Test/ToyasCard.lean, 'card_holds'). Laid BY PROGRAM, IN A SANDBOX (cutbox-door.mjs). By AI agents, Wed Nov 11 2026. No macro, syntax, notation, axiom, sorry.
-/
import Derived.Test.YtmcogmmncfihhaaGreatDoorRows
import GoSem.ClaimSeven
namespace Go.Proofs.YtmcogmmncfihhaaGreatDoor
namespace Rows

/-- THE TIED CARD OF 'pressmarklaw20.SidecarBack'. -/
def sidecarBackCard : Claim7 := { stood := { row := sidecarBackRow, standIns := [], harness := (true, "0376c8346282005568e331b2ff0125d69948622448b09c11b93ccdafe519630f"), looks := true }, kinds := [], alts := [], laidByText := true, laidKinds := [.handle], laidTests := true, laidLooks := .later }
def SidecarBackCardSaid : Prop := Claim7.holds Tryz.pinned (.plain (OpenSpec.ofChange sidecarBackSpec)) sidecarBackCard

/-- THE TIED CARD OF 'pressmarklaw20.SidecarSafe'. -/
def sidecarSafeCard : Claim7 := { stood := { row := sidecarSafeRow, standIns := [], harness := (true, "0376c8346282005568e331b2ff0125d69948622448b09c11b93ccdafe519630f"), looks := true }, kinds := [], alts := [], laidByText := true, laidKinds := [.handle], laidTests := true, laidLooks := .later }
def SidecarSafeCardSaid : Prop := Claim7.holds Tryz.pinned (.plain (OpenSpec.ofChange sidecarSafeSpec)) sidecarSafeCard

/-- THE TIED CARD OF 'pressmarklaw20.SidecarOne'. -/
def sidecarOneCard : Claim7 := { stood := { row := sidecarOneRow, standIns := [], harness := (true, "0376c8346282005568e331b2ff0125d69948622448b09c11b93ccdafe519630f"), looks := true }, kinds := [], alts := [], laidByText := true, laidKinds := [.handle], laidTests := true, laidLooks := .later }
def SidecarOneCardSaid : Prop := Claim7.holds Tryz.pinned (.plain (OpenSpec.ofChange sidecarOneSpec)) sidecarOneCard

/-- THE TIED CARD OF 'pressmarklaw20.SidecarOther'. -/
def sidecarOtherCard : Claim7 := { stood := { row := sidecarOtherRow, standIns := [], harness := (true, "0376c8346282005568e331b2ff0125d69948622448b09c11b93ccdafe519630f"), looks := true }, kinds := [], alts := [], laidByText := true, laidKinds := [.handle], laidTests := true, laidLooks := .later }
def SidecarOtherCardSaid : Prop := Claim7.holds Tryz.pinned (.plain (OpenSpec.ofChange sidecarOtherSpec)) sidecarOtherCard

/-- THE SECOND FORM's CARD OF 'pressmarklaw20.SidecarBack'. -/
def sidecarBackUptoCard : Claim7 := { stood := { row := sidecarBackUptoRow, standIns := [], harness := (true, "0376c8346282005568e331b2ff0125d69948622448b09c11b93ccdafe519630f"), looks := true }, kinds := [], alts := [], laidByText := true, laidKinds := [.handle], laidTests := true, laidLooks := .later }
def SidecarBackUptoCardSaid : Prop := Claim7.holds Tryz.pinned (.plain (OpenSpec.upto sidecarBackSpec)) sidecarBackUptoCard

/-- THE SECOND FORM's CARD OF 'pressmarklaw20.SidecarSafe'. -/
def sidecarSafeUptoCard : Claim7 := { stood := { row := sidecarSafeUptoRow, standIns := [], harness := (true, "0376c8346282005568e331b2ff0125d69948622448b09c11b93ccdafe519630f"), looks := true }, kinds := [], alts := [], laidByText := true, laidKinds := [.handle], laidTests := true, laidLooks := .later }
def SidecarSafeUptoCardSaid : Prop := Claim7.holds Tryz.pinned (.plain (OpenSpec.upto sidecarSafeSpec)) sidecarSafeUptoCard

/-- THE SECOND FORM's CARD OF 'pressmarklaw20.SidecarOne'. -/
def sidecarOneUptoCard : Claim7 := { stood := { row := sidecarOneUptoRow, standIns := [], harness := (true, "0376c8346282005568e331b2ff0125d69948622448b09c11b93ccdafe519630f"), looks := true }, kinds := [], alts := [], laidByText := true, laidKinds := [.handle], laidTests := true, laidLooks := .later }
def SidecarOneUptoCardSaid : Prop := Claim7.holds Tryz.pinned (.plain (OpenSpec.upto sidecarOneSpec)) sidecarOneUptoCard

/-- THE SECOND FORM's CARD OF 'pressmarklaw20.SidecarOther'. -/
def sidecarOtherUptoCard : Claim7 := { stood := { row := sidecarOtherUptoRow, standIns := [], harness := (true, "0376c8346282005568e331b2ff0125d69948622448b09c11b93ccdafe519630f"), looks := true }, kinds := [], alts := [], laidByText := true, laidKinds := [.handle], laidTests := true, laidLooks := .later }
def SidecarOtherUptoCardSaid : Prop := Claim7.holds Tryz.pinned (.plain (OpenSpec.upto sidecarOtherSpec)) sidecarOtherUptoCard
end Rows
end Go.Proofs.YtmcogmmncfihhaaGreatDoor

/-
  DERIVED. GIVEN WITH THE SEED: THE CARDS: each row of YtihbnmlinkbnkaaGreatDoorRows.lean that lists a variable, with what it lists TIED to the program's text (the seventh form; the later family's looks); each row that meets fmt, with fmt's text TOLD by the authors' own Lean function (tested against real Go, not proved from fmt's source: count such statements apart). THE CARD IS WHAT COUNTS. Prove the row's statement (the work); the ties are given (YtihbnmlinkbnkaaGreatDoorTie.lean); close each card by the builder's one call (the guide's Derived/Test/ToyasCard.lean, 'card_holds'). Laid BY PROGRAM, IN A SANDBOX (cutbox-door.mjs). By AI agents, Wed Nov 11 2026. No macro, syntax, notation, axiom, sorry.
-/
import Derived.Test.YtihbnmlinkbnkaaGreatDoorRows
import GoSem.ClaimSeven
namespace Go.Proofs.YtihbnmlinkbnkaaGreatDoor
namespace Rows

/-- THE TIED CARD OF 'pressmarklaw17.StreamTells'. -/
def streamTellsCard : Claim7 := { stood := { row := streamTellsRow, standIns := [], harness := (true, "f13f7c08ebf305ee88387919ebabd973469c98e5a01a8e80e0a402f4b3813354"), looks := true }, kinds := [], alts := [], laidByText := true, laidKinds := [.handle], laidTests := true, laidLooks := .later }
def StreamTellsCardSaid : Prop := Claim7.holds Tryz.pinned (.plain (OpenSpec.ofChange streamTellsSpec)) streamTellsCard

/-- THE TIED CARD OF 'pressmarklaw17.StreamSafe'. -/
def streamSafeCard : Claim7 := { stood := { row := streamSafeRow, standIns := [], harness := (true, "f13f7c08ebf305ee88387919ebabd973469c98e5a01a8e80e0a402f4b3813354"), looks := true }, kinds := [], alts := [], laidByText := true, laidKinds := [.handle], laidTests := true, laidLooks := .later }
def StreamSafeCardSaid : Prop := Claim7.holds Tryz.pinned (.plain (OpenSpec.ofChange streamSafeSpec)) streamSafeCard

/-- THE TIED CARD OF 'pressmarklaw18.PackTells'. -/
def packTellsCard : Claim7 := { stood := { row := packTellsRow, standIns := [], harness := (true, "f13f7c08ebf305ee88387919ebabd973469c98e5a01a8e80e0a402f4b3813354"), looks := true }, kinds := [], alts := [], laidByText := true, laidKinds := [.handle], laidTests := true, laidLooks := .later }
def PackTellsCardSaid : Prop := Claim7.holds Tryz.pinned (.plain (OpenSpec.ofChange packTellsSpec)) packTellsCard

/-- THE TIED CARD OF 'pressmarklaw19.IndexTells'. -/
def indexTellsCard : Claim7 := { stood := { row := indexTellsRow, standIns := [], harness := (true, "f13f7c08ebf305ee88387919ebabd973469c98e5a01a8e80e0a402f4b3813354"), looks := true }, kinds := [], alts := [], laidByText := true, laidKinds := [.handle], laidTests := true, laidLooks := .later }
def IndexTellsCardSaid : Prop := Claim7.holds Tryz.pinned (.plain (OpenSpec.ofChange indexTellsSpec)) indexTellsCard

/-- THE TIED CARD OF 'pressmarklaw19.IndexScan'. -/
def indexScanCard : Claim7 := { stood := { row := indexScanRow, standIns := [], harness := (true, "f13f7c08ebf305ee88387919ebabd973469c98e5a01a8e80e0a402f4b3813354"), looks := true }, kinds := [], alts := [], laidByText := true, laidKinds := [.handle], laidTests := true, laidLooks := .later }
def IndexScanCardSaid : Prop := Claim7.holds Tryz.pinned (.plain (OpenSpec.ofChange indexScanSpec)) indexScanCard

/-- THE TIED CARD OF 'pressmarklaw19.IndexMore'. -/
def indexMoreCard : Claim7 := { stood := { row := indexMoreRow, standIns := [], harness := (true, "f13f7c08ebf305ee88387919ebabd973469c98e5a01a8e80e0a402f4b3813354"), looks := true }, kinds := [], alts := [], laidByText := true, laidKinds := [.handle], laidTests := true, laidLooks := .later }
def IndexMoreCardSaid : Prop := Claim7.holds Tryz.pinned (.plain (OpenSpec.ofChange indexMoreSpec)) indexMoreCard

/-- THE SECOND FORM's CARD OF 'pressmarklaw17.StreamTells'. -/
def streamTellsUptoCard : Claim7 := { stood := { row := streamTellsUptoRow, standIns := [], harness := (true, "f13f7c08ebf305ee88387919ebabd973469c98e5a01a8e80e0a402f4b3813354"), looks := true }, kinds := [], alts := [], laidByText := true, laidKinds := [.handle], laidTests := true, laidLooks := .later }
def StreamTellsUptoCardSaid : Prop := Claim7.holds Tryz.pinned (.plain (OpenSpec.upto streamTellsSpec)) streamTellsUptoCard

/-- THE SECOND FORM's CARD OF 'pressmarklaw17.StreamSafe'. -/
def streamSafeUptoCard : Claim7 := { stood := { row := streamSafeUptoRow, standIns := [], harness := (true, "f13f7c08ebf305ee88387919ebabd973469c98e5a01a8e80e0a402f4b3813354"), looks := true }, kinds := [], alts := [], laidByText := true, laidKinds := [.handle], laidTests := true, laidLooks := .later }
def StreamSafeUptoCardSaid : Prop := Claim7.holds Tryz.pinned (.plain (OpenSpec.upto streamSafeSpec)) streamSafeUptoCard

/-- THE SECOND FORM's CARD OF 'pressmarklaw18.PackTells'. -/
def packTellsUptoCard : Claim7 := { stood := { row := packTellsUptoRow, standIns := [], harness := (true, "f13f7c08ebf305ee88387919ebabd973469c98e5a01a8e80e0a402f4b3813354"), looks := true }, kinds := [], alts := [], laidByText := true, laidKinds := [.handle], laidTests := true, laidLooks := .later }
def PackTellsUptoCardSaid : Prop := Claim7.holds Tryz.pinned (.plain (OpenSpec.upto packTellsSpec)) packTellsUptoCard

/-- THE SECOND FORM's CARD OF 'pressmarklaw19.IndexTells'. -/
def indexTellsUptoCard : Claim7 := { stood := { row := indexTellsUptoRow, standIns := [], harness := (true, "f13f7c08ebf305ee88387919ebabd973469c98e5a01a8e80e0a402f4b3813354"), looks := true }, kinds := [], alts := [], laidByText := true, laidKinds := [.handle], laidTests := true, laidLooks := .later }
def IndexTellsUptoCardSaid : Prop := Claim7.holds Tryz.pinned (.plain (OpenSpec.upto indexTellsSpec)) indexTellsUptoCard

/-- THE SECOND FORM's CARD OF 'pressmarklaw19.IndexScan'. -/
def indexScanUptoCard : Claim7 := { stood := { row := indexScanUptoRow, standIns := [], harness := (true, "f13f7c08ebf305ee88387919ebabd973469c98e5a01a8e80e0a402f4b3813354"), looks := true }, kinds := [], alts := [], laidByText := true, laidKinds := [.handle], laidTests := true, laidLooks := .later }
def IndexScanUptoCardSaid : Prop := Claim7.holds Tryz.pinned (.plain (OpenSpec.upto indexScanSpec)) indexScanUptoCard

/-- THE SECOND FORM's CARD OF 'pressmarklaw19.IndexMore'. -/
def indexMoreUptoCard : Claim7 := { stood := { row := indexMoreUptoRow, standIns := [], harness := (true, "f13f7c08ebf305ee88387919ebabd973469c98e5a01a8e80e0a402f4b3813354"), looks := true }, kinds := [], alts := [], laidByText := true, laidKinds := [.handle], laidTests := true, laidLooks := .later }
def IndexMoreUptoCardSaid : Prop := Claim7.holds Tryz.pinned (.plain (OpenSpec.upto indexMoreSpec)) indexMoreUptoCard
end Rows
end Go.Proofs.YtihbnmlinkbnkaaGreatDoor

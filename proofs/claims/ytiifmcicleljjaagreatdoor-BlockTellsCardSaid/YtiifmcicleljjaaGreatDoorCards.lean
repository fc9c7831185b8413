/-
  DERIVED. GIVEN WITH THE SEED: THE CARDS: each row of YtiifmcicleljjaaGreatDoorRows.lean that lists a variable, with what it lists TIED to the program's text (the seventh form; the later family's looks); each row that meets fmt, with fmt's text TOLD by the authors' own Lean function (tested against real Go, not proved from fmt's source: count such statements apart). THE CARD IS WHAT COUNTS. Prove the row's statement (the work); the ties are given (YtiifmcicleljjaaGreatDoorTie.lean); close each card by the builder's one call (the guide's Derived/Test/ToyasCard.lean, 'card_holds'). Laid BY PROGRAM, IN A SANDBOX (cutbox-door.mjs). By AI agents, Wed Nov 11 2026. No macro, syntax, notation, axiom, sorry.
-/
import Derived.Test.YtiifmcicleljjaaGreatDoorRows
import GoSem.ClaimSeven
namespace Go.Proofs.YtiifmcicleljjaaGreatDoor
namespace Rows

/-- THE TIED CARD OF 'pressmarklaw16.BlockTells'. -/
def blockTellsCard : Claim7 := { stood := { row := blockTellsRow, standIns := [], harness := (true, "21435a15dd62e5186bd321aac888c512724dc16ca588c90372829e00e1e080e4"), looks := true }, kinds := [], alts := [], laidByText := true, laidKinds := [.handle], laidTests := true, laidLooks := .later }
def BlockTellsCardSaid : Prop := Claim7.holds Tryz.pinned (.plain (OpenSpec.ofChange blockTellsSpec)) blockTellsCard

/-- THE TIED CARD OF 'pressmarklaw16.BlockBack'. -/
def blockBackCard : Claim7 := { stood := { row := blockBackRow, standIns := [], harness := (true, "21435a15dd62e5186bd321aac888c512724dc16ca588c90372829e00e1e080e4"), looks := true }, kinds := [], alts := [], laidByText := true, laidKinds := [.handle], laidTests := true, laidLooks := .later }
def BlockBackCardSaid : Prop := Claim7.holds Tryz.pinned (.plain (OpenSpec.ofChange blockBackSpec)) blockBackCard

/-- THE TIED CARD OF 'pressmarklaw16.BlockCuts'. -/
def blockCutsCard : Claim7 := { stood := { row := blockCutsRow, standIns := [], harness := (true, "21435a15dd62e5186bd321aac888c512724dc16ca588c90372829e00e1e080e4"), looks := true }, kinds := [], alts := [], laidByText := true, laidKinds := [.handle], laidTests := true, laidLooks := .later }
def BlockCutsCardSaid : Prop := Claim7.holds Tryz.pinned (.plain (OpenSpec.ofChange blockCutsSpec)) blockCutsCard

/-- THE TIED CARD OF 'pressmarklaw16.BlockSafe'. -/
def blockSafeCard : Claim7 := { stood := { row := blockSafeRow, standIns := [], harness := (true, "21435a15dd62e5186bd321aac888c512724dc16ca588c90372829e00e1e080e4"), looks := true }, kinds := [], alts := [], laidByText := true, laidKinds := [.handle], laidTests := true, laidLooks := .later }
def BlockSafeCardSaid : Prop := Claim7.holds Tryz.pinned (.plain (OpenSpec.ofChange blockSafeSpec)) blockSafeCard

/-- THE TIED CARD OF 'pressmarklaw16.BlockRoom'. -/
def blockRoomCard : Claim7 := { stood := { row := blockRoomRow, standIns := [], harness := (true, "21435a15dd62e5186bd321aac888c512724dc16ca588c90372829e00e1e080e4"), looks := true }, kinds := [], alts := [], laidByText := true, laidKinds := [.handle], laidTests := true, laidLooks := .later }
def BlockRoomCardSaid : Prop := Claim7.holds Tryz.pinned (.plain (OpenSpec.ofChange blockRoomSpec)) blockRoomCard

/-- THE TIED CARD OF 'pressmarklaw16.BlockHeads'. -/
def blockHeadsCard : Claim7 := { stood := { row := blockHeadsRow, standIns := [], harness := (true, "21435a15dd62e5186bd321aac888c512724dc16ca588c90372829e00e1e080e4"), looks := true }, kinds := [], alts := [], laidByText := true, laidKinds := [.handle], laidTests := true, laidLooks := .later }
def BlockHeadsCardSaid : Prop := Claim7.holds Tryz.pinned (.plain (OpenSpec.ofChange blockHeadsSpec)) blockHeadsCard

/-- THE SECOND FORM's CARD OF 'pressmarklaw16.BlockTells'. -/
def blockTellsUptoCard : Claim7 := { stood := { row := blockTellsUptoRow, standIns := [], harness := (true, "21435a15dd62e5186bd321aac888c512724dc16ca588c90372829e00e1e080e4"), looks := true }, kinds := [], alts := [], laidByText := true, laidKinds := [.handle], laidTests := true, laidLooks := .later }
def BlockTellsUptoCardSaid : Prop := Claim7.holds Tryz.pinned (.plain (OpenSpec.upto blockTellsSpec)) blockTellsUptoCard

/-- THE SECOND FORM's CARD OF 'pressmarklaw16.BlockBack'. -/
def blockBackUptoCard : Claim7 := { stood := { row := blockBackUptoRow, standIns := [], harness := (true, "21435a15dd62e5186bd321aac888c512724dc16ca588c90372829e00e1e080e4"), looks := true }, kinds := [], alts := [], laidByText := true, laidKinds := [.handle], laidTests := true, laidLooks := .later }
def BlockBackUptoCardSaid : Prop := Claim7.holds Tryz.pinned (.plain (OpenSpec.upto blockBackSpec)) blockBackUptoCard

/-- THE SECOND FORM's CARD OF 'pressmarklaw16.BlockCuts'. -/
def blockCutsUptoCard : Claim7 := { stood := { row := blockCutsUptoRow, standIns := [], harness := (true, "21435a15dd62e5186bd321aac888c512724dc16ca588c90372829e00e1e080e4"), looks := true }, kinds := [], alts := [], laidByText := true, laidKinds := [.handle], laidTests := true, laidLooks := .later }
def BlockCutsUptoCardSaid : Prop := Claim7.holds Tryz.pinned (.plain (OpenSpec.upto blockCutsSpec)) blockCutsUptoCard

/-- THE SECOND FORM's CARD OF 'pressmarklaw16.BlockSafe'. -/
def blockSafeUptoCard : Claim7 := { stood := { row := blockSafeUptoRow, standIns := [], harness := (true, "21435a15dd62e5186bd321aac888c512724dc16ca588c90372829e00e1e080e4"), looks := true }, kinds := [], alts := [], laidByText := true, laidKinds := [.handle], laidTests := true, laidLooks := .later }
def BlockSafeUptoCardSaid : Prop := Claim7.holds Tryz.pinned (.plain (OpenSpec.upto blockSafeSpec)) blockSafeUptoCard

/-- THE SECOND FORM's CARD OF 'pressmarklaw16.BlockRoom'. -/
def blockRoomUptoCard : Claim7 := { stood := { row := blockRoomUptoRow, standIns := [], harness := (true, "21435a15dd62e5186bd321aac888c512724dc16ca588c90372829e00e1e080e4"), looks := true }, kinds := [], alts := [], laidByText := true, laidKinds := [.handle], laidTests := true, laidLooks := .later }
def BlockRoomUptoCardSaid : Prop := Claim7.holds Tryz.pinned (.plain (OpenSpec.upto blockRoomSpec)) blockRoomUptoCard

/-- THE SECOND FORM's CARD OF 'pressmarklaw16.BlockHeads'. -/
def blockHeadsUptoCard : Claim7 := { stood := { row := blockHeadsUptoRow, standIns := [], harness := (true, "21435a15dd62e5186bd321aac888c512724dc16ca588c90372829e00e1e080e4"), looks := true }, kinds := [], alts := [], laidByText := true, laidKinds := [.handle], laidTests := true, laidLooks := .later }
def BlockHeadsUptoCardSaid : Prop := Claim7.holds Tryz.pinned (.plain (OpenSpec.upto blockHeadsSpec)) blockHeadsUptoCard
end Rows
end Go.Proofs.YtiifmcicleljjaaGreatDoor

/-
  DERIVED. GIVEN WITH THE SEED: THE CARDS: each row of YtmjofbbjdmmpnaaGreatDoorRows.lean that lists a variable, with what it lists TIED to the program's text (the seventh form; the later family's looks); each row that meets fmt, with fmt's text TOLD by the authors' own Lean function (tested against real Go, not proved from fmt's source: count such statements apart). THE CARD IS WHAT COUNTS. Prove the row's statement (the work); the ties are given (YtmjofbbjdmmpnaaGreatDoorTie.lean); close each card by the builder's one call (the guide's Derived/Test/ToyasCard.lean, 'card_holds'). Laid BY PROGRAM, IN A SANDBOX (cutbox-door.mjs). By AI agents, Wed Nov 11 2026. No macro, syntax, notation, axiom, sorry.
-/
import Derived.Test.YtmjofbbjdmmpnaaGreatDoorRows
import GoSem.ClaimSeven
namespace Go.Proofs.YtmjofbbjdmmpnaaGreatDoor
namespace Rows

/-- THE TIED CARD OF 'laws.FnExactRiverSafe'. -/
def fnExactRiverSafeCard : Claim7 := { stood := { row := fnExactRiverSafeRow, standIns := [], harness := (true, "1cf9f44b05e916fd9857ab31fe041738f36762fd005fb9e0bf5e66ad7edcd613"), looks := false }, kinds := [], alts := [], laidByText := true, laidKinds := [.data, .data, .data, .data, .pinned], laidTests := true, laidLooks := .later }
def FnExactRiverSafeCardSaid : Prop := Claim7.holds Tryz.pinned (.plain (OpenSpec.ofChange fnExactRiverSafeSpec)) fnExactRiverSafeCard

/-- THE SECOND FORM's CARD OF 'laws.FnExactRiverSafe'. -/
def fnExactRiverSafeUptoCard : Claim7 := { stood := { row := fnExactRiverSafeUptoRow, standIns := [], harness := (true, "1cf9f44b05e916fd9857ab31fe041738f36762fd005fb9e0bf5e66ad7edcd613"), looks := false }, kinds := [], alts := [], laidByText := true, laidKinds := [.data, .data, .data, .data, .pinned], laidTests := true, laidLooks := .later }
def FnExactRiverSafeUptoCardSaid : Prop := Claim7.holds Tryz.pinned (.plain (OpenSpec.upto fnExactRiverSafeSpec)) fnExactRiverSafeUptoCard
end Rows
end Go.Proofs.YtmjofbbjdmmpnaaGreatDoor

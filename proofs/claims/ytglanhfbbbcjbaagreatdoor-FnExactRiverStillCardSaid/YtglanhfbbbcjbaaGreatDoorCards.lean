/-
  DERIVED. GIVEN WITH THE SEED: THE CARDS: each row of YtglanhfbbbcjbaaGreatDoorRows.lean that lists a variable, with what it lists TIED to the program's text (the seventh form; the later family's looks); each row that meets fmt, with fmt's text TOLD by the authors' own Lean function (tested against real Go, not proved from fmt's source: count such statements apart). THE CARD IS WHAT COUNTS. Prove the row's statement (the work); the ties are given (YtglanhfbbbcjbaaGreatDoorTie.lean); close each card by the builder's one call (the guide's Derived/Test/ToyasCard.lean, 'card_holds'). Laid BY PROGRAM, IN A SANDBOX (cutbox-door.mjs). By AI agents, Wed Nov 11 2026. No macro, syntax, notation, axiom, sorry.
-/
import Derived.Test.YtglanhfbbbcjbaaGreatDoorRows
import GoSem.ClaimSeven
namespace Go.Proofs.YtglanhfbbbcjbaaGreatDoor
namespace Rows

/-- THE TIED CARD OF 'laws.FnExactRiverStill'. -/
def fnExactRiverStillCard : Claim7 := { stood := { row := fnExactRiverStillRow, standIns := [], harness := (true, "dd8d0c05f55f79d758118df6e387c6c057305c869d8ea69334341a87a86db9a7"), looks := false }, kinds := [], alts := [], laidByText := true, laidKinds := [.data, .data, .data, .data, .pinned], laidTests := true, laidLooks := .later }
def FnExactRiverStillCardSaid : Prop := Claim7.holds Tryz.pinned (.plain (OpenSpec.ofChange fnExactRiverStillSpec)) fnExactRiverStillCard

/-- THE SECOND FORM's CARD OF 'laws.FnExactRiverStill'. -/
def fnExactRiverStillUptoCard : Claim7 := { stood := { row := fnExactRiverStillUptoRow, standIns := [], harness := (true, "dd8d0c05f55f79d758118df6e387c6c057305c869d8ea69334341a87a86db9a7"), looks := false }, kinds := [], alts := [], laidByText := true, laidKinds := [.data, .data, .data, .data, .pinned], laidTests := true, laidLooks := .later }
def FnExactRiverStillUptoCardSaid : Prop := Claim7.holds Tryz.pinned (.plain (OpenSpec.upto fnExactRiverStillSpec)) fnExactRiverStillUptoCard
end Rows
end Go.Proofs.YtglanhfbbbcjbaaGreatDoor

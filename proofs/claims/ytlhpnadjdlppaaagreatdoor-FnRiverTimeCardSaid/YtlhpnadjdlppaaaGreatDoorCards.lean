/-
  DERIVED. GIVEN WITH THE SEED: THE CARDS: each row of YtlhpnadjdlppaaaGreatDoorRows.lean that lists a variable, with what it lists TIED to the program's text (the seventh form; the later family's looks); each row that meets fmt, with fmt's text TOLD by the authors' own Lean function (tested against real Go, not proved from fmt's source: count such statements apart). THE CARD IS WHAT COUNTS. Prove the row's statement (the work); the ties are given (YtlhpnadjdlppaaaGreatDoorTie.lean); close each card by the builder's one call (the guide's Derived/Test/ToyasCard.lean, 'card_holds'). Laid BY PROGRAM, IN A SANDBOX (cutbox-door.mjs). By AI agents, Wed Nov 11 2026. No macro, syntax, notation, axiom, sorry.
-/
import Derived.Test.YtlhpnadjdlppaaaGreatDoorRows
import GoSem.ClaimSeven
namespace Go.Proofs.YtlhpnadjdlppaaaGreatDoor
namespace Rows

/-- THE TIED CARD OF 'laws.FnRiverAway'. -/
def fnRiverAwayCard : Claim7 := { stood := { row := fnRiverAwayRow, standIns := [], harness := (true, "4d438c97c36e9565f3fc2cc001982745c4e8dc462489a03ab65d9987c233e2a6"), looks := false }, kinds := [], alts := [], laidByText := true, laidKinds := [.data, .data, .data, .data, .pinned], laidTests := true, laidLooks := .later }
def FnRiverAwayCardSaid : Prop := Claim7.holds Tryz.pinned (.plain (OpenSpec.ofChange fnRiverAwaySpec)) fnRiverAwayCard

/-- THE TIED CARD OF 'laws.FnRiverDo'. -/
def fnRiverDoCard : Claim7 := { stood := { row := fnRiverDoRow, standIns := [], harness := (true, "4d438c97c36e9565f3fc2cc001982745c4e8dc462489a03ab65d9987c233e2a6"), looks := false }, kinds := [], alts := [], laidByText := true, laidKinds := [.data, .data, .data, .data, .pinned], laidTests := true, laidLooks := .later }
def FnRiverDoCardSaid : Prop := Claim7.holds Tryz.pinned (.plain (OpenSpec.ofChange fnRiverDoSpec)) fnRiverDoCard

/-- THE TIED CARD OF 'laws.FnRiverDown'. -/
def fnRiverDownCard : Claim7 := { stood := { row := fnRiverDownRow, standIns := [], harness := (true, "4d438c97c36e9565f3fc2cc001982745c4e8dc462489a03ab65d9987c233e2a6"), looks := false }, kinds := [], alts := [], laidByText := true, laidKinds := [.data, .data, .data, .data, .pinned], laidTests := true, laidLooks := .later }
def FnRiverDownCardSaid : Prop := Claim7.holds Tryz.pinned (.plain (OpenSpec.ofChange fnRiverDownSpec)) fnRiverDownCard

/-- THE TIED CARD OF 'laws.FnRiverOne'. -/
def fnRiverOneCard : Claim7 := { stood := { row := fnRiverOneRow, standIns := [], harness := (true, "4d438c97c36e9565f3fc2cc001982745c4e8dc462489a03ab65d9987c233e2a6"), looks := false }, kinds := [], alts := [], laidByText := true, laidKinds := [.data, .data, .data, .data, .pinned], laidTests := true, laidLooks := .later }
def FnRiverOneCardSaid : Prop := Claim7.holds Tryz.pinned (.plain (OpenSpec.ofChange fnRiverOneSpec)) fnRiverOneCard

/-- THE TIED CARD OF 'laws.FnRiverTime'. -/
def fnRiverTimeCard : Claim7 := { stood := { row := fnRiverTimeRow, standIns := [], harness := (true, "4d438c97c36e9565f3fc2cc001982745c4e8dc462489a03ab65d9987c233e2a6"), looks := false }, kinds := [], alts := [], laidByText := true, laidKinds := [.data, .data, .data, .data, .pinned], laidTests := true, laidLooks := .later }
def FnRiverTimeCardSaid : Prop := Claim7.holds Tryz.pinned (.plain (OpenSpec.ofChange fnRiverTimeSpec)) fnRiverTimeCard

/-- THE TIED CARD OF 'laws.FnRiverEats'. -/
def fnRiverEatsCard : Claim7 := { stood := { row := fnRiverEatsRow, standIns := [], harness := (true, "4d438c97c36e9565f3fc2cc001982745c4e8dc462489a03ab65d9987c233e2a6"), looks := false }, kinds := [], alts := [], laidByText := true, laidKinds := [.data, .data, .data, .data, .pinned], laidTests := true, laidLooks := .later }
def FnRiverEatsCardSaid : Prop := Claim7.holds Tryz.pinned (.plain (OpenSpec.ofChange fnRiverEatsSpec)) fnRiverEatsCard

/-- THE TIED CARD OF 'laws.FnRiverLost'. -/
def fnRiverLostCard : Claim7 := { stood := { row := fnRiverLostRow, standIns := [], harness := (true, "4d438c97c36e9565f3fc2cc001982745c4e8dc462489a03ab65d9987c233e2a6"), looks := false }, kinds := [], alts := [], laidByText := true, laidKinds := [.data, .data, .data, .data, .pinned], laidTests := true, laidLooks := .later }
def FnRiverLostCardSaid : Prop := Claim7.holds Tryz.pinned (.plain (OpenSpec.ofChange fnRiverLostSpec)) fnRiverLostCard

/-- THE TIED CARD OF 'laws.FnRiverSpoilt'. -/
def fnRiverSpoiltCard : Claim7 := { stood := { row := fnRiverSpoiltRow, standIns := [], harness := (true, "4d438c97c36e9565f3fc2cc001982745c4e8dc462489a03ab65d9987c233e2a6"), looks := false }, kinds := [], alts := [], laidByText := true, laidKinds := [.data, .data, .data, .data, .pinned], laidTests := true, laidLooks := .later }
def FnRiverSpoiltCardSaid : Prop := Claim7.holds Tryz.pinned (.plain (OpenSpec.ofChange fnRiverSpoiltSpec)) fnRiverSpoiltCard

/-- THE SECOND FORM's CARD OF 'laws.FnRiverAway'. -/
def fnRiverAwayUptoCard : Claim7 := { stood := { row := fnRiverAwayUptoRow, standIns := [], harness := (true, "4d438c97c36e9565f3fc2cc001982745c4e8dc462489a03ab65d9987c233e2a6"), looks := false }, kinds := [], alts := [], laidByText := true, laidKinds := [.data, .data, .data, .data, .pinned], laidTests := true, laidLooks := .later }
def FnRiverAwayUptoCardSaid : Prop := Claim7.holds Tryz.pinned (.plain (OpenSpec.upto fnRiverAwaySpec)) fnRiverAwayUptoCard

/-- THE SECOND FORM's CARD OF 'laws.FnRiverDo'. -/
def fnRiverDoUptoCard : Claim7 := { stood := { row := fnRiverDoUptoRow, standIns := [], harness := (true, "4d438c97c36e9565f3fc2cc001982745c4e8dc462489a03ab65d9987c233e2a6"), looks := false }, kinds := [], alts := [], laidByText := true, laidKinds := [.data, .data, .data, .data, .pinned], laidTests := true, laidLooks := .later }
def FnRiverDoUptoCardSaid : Prop := Claim7.holds Tryz.pinned (.plain (OpenSpec.upto fnRiverDoSpec)) fnRiverDoUptoCard

/-- THE SECOND FORM's CARD OF 'laws.FnRiverDown'. -/
def fnRiverDownUptoCard : Claim7 := { stood := { row := fnRiverDownUptoRow, standIns := [], harness := (true, "4d438c97c36e9565f3fc2cc001982745c4e8dc462489a03ab65d9987c233e2a6"), looks := false }, kinds := [], alts := [], laidByText := true, laidKinds := [.data, .data, .data, .data, .pinned], laidTests := true, laidLooks := .later }
def FnRiverDownUptoCardSaid : Prop := Claim7.holds Tryz.pinned (.plain (OpenSpec.upto fnRiverDownSpec)) fnRiverDownUptoCard

/-- THE SECOND FORM's CARD OF 'laws.FnRiverOne'. -/
def fnRiverOneUptoCard : Claim7 := { stood := { row := fnRiverOneUptoRow, standIns := [], harness := (true, "4d438c97c36e9565f3fc2cc001982745c4e8dc462489a03ab65d9987c233e2a6"), looks := false }, kinds := [], alts := [], laidByText := true, laidKinds := [.data, .data, .data, .data, .pinned], laidTests := true, laidLooks := .later }
def FnRiverOneUptoCardSaid : Prop := Claim7.holds Tryz.pinned (.plain (OpenSpec.upto fnRiverOneSpec)) fnRiverOneUptoCard

/-- THE SECOND FORM's CARD OF 'laws.FnRiverTime'. -/
def fnRiverTimeUptoCard : Claim7 := { stood := { row := fnRiverTimeUptoRow, standIns := [], harness := (true, "4d438c97c36e9565f3fc2cc001982745c4e8dc462489a03ab65d9987c233e2a6"), looks := false }, kinds := [], alts := [], laidByText := true, laidKinds := [.data, .data, .data, .data, .pinned], laidTests := true, laidLooks := .later }
def FnRiverTimeUptoCardSaid : Prop := Claim7.holds Tryz.pinned (.plain (OpenSpec.upto fnRiverTimeSpec)) fnRiverTimeUptoCard

/-- THE SECOND FORM's CARD OF 'laws.FnRiverEats'. -/
def fnRiverEatsUptoCard : Claim7 := { stood := { row := fnRiverEatsUptoRow, standIns := [], harness := (true, "4d438c97c36e9565f3fc2cc001982745c4e8dc462489a03ab65d9987c233e2a6"), looks := false }, kinds := [], alts := [], laidByText := true, laidKinds := [.data, .data, .data, .data, .pinned], laidTests := true, laidLooks := .later }
def FnRiverEatsUptoCardSaid : Prop := Claim7.holds Tryz.pinned (.plain (OpenSpec.upto fnRiverEatsSpec)) fnRiverEatsUptoCard

/-- THE SECOND FORM's CARD OF 'laws.FnRiverLost'. -/
def fnRiverLostUptoCard : Claim7 := { stood := { row := fnRiverLostUptoRow, standIns := [], harness := (true, "4d438c97c36e9565f3fc2cc001982745c4e8dc462489a03ab65d9987c233e2a6"), looks := false }, kinds := [], alts := [], laidByText := true, laidKinds := [.data, .data, .data, .data, .pinned], laidTests := true, laidLooks := .later }
def FnRiverLostUptoCardSaid : Prop := Claim7.holds Tryz.pinned (.plain (OpenSpec.upto fnRiverLostSpec)) fnRiverLostUptoCard

/-- THE SECOND FORM's CARD OF 'laws.FnRiverSpoilt'. -/
def fnRiverSpoiltUptoCard : Claim7 := { stood := { row := fnRiverSpoiltUptoRow, standIns := [], harness := (true, "4d438c97c36e9565f3fc2cc001982745c4e8dc462489a03ab65d9987c233e2a6"), looks := false }, kinds := [], alts := [], laidByText := true, laidKinds := [.data, .data, .data, .data, .pinned], laidTests := true, laidLooks := .later }
def FnRiverSpoiltUptoCardSaid : Prop := Claim7.holds Tryz.pinned (.plain (OpenSpec.upto fnRiverSpoiltSpec)) fnRiverSpoiltUptoCard
end Rows
end Go.Proofs.YtlhpnadjdlppaaaGreatDoor

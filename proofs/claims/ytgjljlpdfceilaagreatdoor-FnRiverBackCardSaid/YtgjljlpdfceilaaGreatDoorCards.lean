/-
  DERIVED. GIVEN WITH THE SEED: THE CARDS: each row of YtgjljlpdfceilaaGreatDoorRows.lean that lists a variable, with what it lists TIED to the program's text (the seventh form; the later family's looks); each row that meets fmt, with fmt's text TOLD by the authors' own Lean function (tested against real Go, not proved from fmt's source: count such statements apart). THE CARD IS WHAT COUNTS. Prove the row's statement (the work); the ties are given (YtgjljlpdfceilaaGreatDoorTie.lean); close each card by the builder's one call (the guide's Derived/Test/ToyasCard.lean, 'card_holds'). Laid BY PROGRAM, IN A SANDBOX (cutbox-door.mjs). By AI agents, Wed Nov 11 2026. No macro, syntax, notation, axiom, sorry.
-/
import Derived.Test.YtgjljlpdfceilaaGreatDoorRows
import GoSem.ClaimSeven
namespace Go.Proofs.YtgjljlpdfceilaaGreatDoor
namespace Rows

/-- THE TIED CARD OF 'laws.FnRiverLate'. -/
def fnRiverLateCard : Claim7 := { stood := { row := fnRiverLateRow, standIns := [], harness := (true, "1cb1c31638e0356a1b0f0430c67202b0f3934fe29cb8e92061f485a4b29acafb"), looks := false }, kinds := [], alts := [], laidByText := true, laidKinds := [.data, .data, .data, .data, .pinned], laidTests := true, laidLooks := .later }
def FnRiverLateCardSaid : Prop := Claim7.holds Tryz.pinned (.plain (OpenSpec.ofChange fnRiverLateSpec)) fnRiverLateCard

/-- THE TIED CARD OF 'laws.FnRiverNew'. -/
def fnRiverNewCard : Claim7 := { stood := { row := fnRiverNewRow, standIns := [], harness := (true, "1cb1c31638e0356a1b0f0430c67202b0f3934fe29cb8e92061f485a4b29acafb"), looks := false }, kinds := [], alts := [], laidByText := true, laidKinds := [.data, .data, .data, .data, .pinned], laidTests := true, laidLooks := .later }
def FnRiverNewCardSaid : Prop := Claim7.holds Tryz.pinned (.plain (OpenSpec.ofChange fnRiverNewSpec)) fnRiverNewCard

/-- THE TIED CARD OF 'laws.FnRiverCame'. -/
def fnRiverCameCard : Claim7 := { stood := { row := fnRiverCameRow, standIns := [], harness := (true, "1cb1c31638e0356a1b0f0430c67202b0f3934fe29cb8e92061f485a4b29acafb"), looks := false }, kinds := [], alts := [], laidByText := true, laidKinds := [.data, .data, .data, .data, .pinned], laidTests := true, laidLooks := .later }
def FnRiverCameCardSaid : Prop := Claim7.holds Tryz.pinned (.plain (OpenSpec.ofChange fnRiverCameSpec)) fnRiverCameCard

/-- THE TIED CARD OF 'laws.FnRiverStay'. -/
def fnRiverStayCard : Claim7 := { stood := { row := fnRiverStayRow, standIns := [], harness := (true, "1cb1c31638e0356a1b0f0430c67202b0f3934fe29cb8e92061f485a4b29acafb"), looks := false }, kinds := [], alts := [], laidByText := true, laidKinds := [.data, .data, .data, .data, .pinned], laidTests := true, laidLooks := .later }
def FnRiverStayCardSaid : Prop := Claim7.holds Tryz.pinned (.plain (OpenSpec.ofChange fnRiverStaySpec)) fnRiverStayCard

/-- THE TIED CARD OF 'laws.FnRiverBack'. -/
def fnRiverBackCard : Claim7 := { stood := { row := fnRiverBackRow, standIns := [], harness := (true, "1cb1c31638e0356a1b0f0430c67202b0f3934fe29cb8e92061f485a4b29acafb"), looks := false }, kinds := [], alts := [], laidByText := true, laidKinds := [.data, .data, .data, .data, .pinned], laidTests := true, laidLooks := .later }
def FnRiverBackCardSaid : Prop := Claim7.holds Tryz.pinned (.plain (OpenSpec.ofChange fnRiverBackSpec)) fnRiverBackCard

/-- THE TIED CARD OF 'laws.FnRiverKept'. -/
def fnRiverKeptCard : Claim7 := { stood := { row := fnRiverKeptRow, standIns := [], harness := (true, "1cb1c31638e0356a1b0f0430c67202b0f3934fe29cb8e92061f485a4b29acafb"), looks := false }, kinds := [], alts := [], laidByText := true, laidKinds := [.data, .data, .data, .data, .pinned], laidTests := true, laidLooks := .later }
def FnRiverKeptCardSaid : Prop := Claim7.holds Tryz.pinned (.plain (OpenSpec.ofChange fnRiverKeptSpec)) fnRiverKeptCard

/-- THE TIED CARD OF 'laws.FnRiverStill'. -/
def fnRiverStillCard : Claim7 := { stood := { row := fnRiverStillRow, standIns := [], harness := (true, "1cb1c31638e0356a1b0f0430c67202b0f3934fe29cb8e92061f485a4b29acafb"), looks := false }, kinds := [], alts := [], laidByText := true, laidKinds := [.data, .data, .data, .data, .pinned], laidTests := true, laidLooks := .later }
def FnRiverStillCardSaid : Prop := Claim7.holds Tryz.pinned (.plain (OpenSpec.ofChange fnRiverStillSpec)) fnRiverStillCard

/-- THE TIED CARD OF 'laws.FnRiverFalls'. -/
def fnRiverFallsCard : Claim7 := { stood := { row := fnRiverFallsRow, standIns := [], harness := (true, "1cb1c31638e0356a1b0f0430c67202b0f3934fe29cb8e92061f485a4b29acafb"), looks := false }, kinds := [], alts := [], laidByText := true, laidKinds := [.data, .data, .data, .data, .pinned], laidTests := true, laidLooks := .later }
def FnRiverFallsCardSaid : Prop := Claim7.holds Tryz.pinned (.plain (OpenSpec.ofChange fnRiverFallsSpec)) fnRiverFallsCard

/-- THE TIED CARD OF 'laws.FnRiverCalm'. -/
def fnRiverCalmCard : Claim7 := { stood := { row := fnRiverCalmRow, standIns := [], harness := (true, "1cb1c31638e0356a1b0f0430c67202b0f3934fe29cb8e92061f485a4b29acafb"), looks := false }, kinds := [], alts := [], laidByText := true, laidKinds := [.data, .data, .data, .data, .pinned], laidTests := true, laidLooks := .later }
def FnRiverCalmCardSaid : Prop := Claim7.holds Tryz.pinned (.plain (OpenSpec.ofChange fnRiverCalmSpec)) fnRiverCalmCard

/-- THE SECOND FORM's CARD OF 'laws.FnRiverLate'. -/
def fnRiverLateUptoCard : Claim7 := { stood := { row := fnRiverLateUptoRow, standIns := [], harness := (true, "1cb1c31638e0356a1b0f0430c67202b0f3934fe29cb8e92061f485a4b29acafb"), looks := false }, kinds := [], alts := [], laidByText := true, laidKinds := [.data, .data, .data, .data, .pinned], laidTests := true, laidLooks := .later }
def FnRiverLateUptoCardSaid : Prop := Claim7.holds Tryz.pinned (.plain (OpenSpec.upto fnRiverLateSpec)) fnRiverLateUptoCard

/-- THE SECOND FORM's CARD OF 'laws.FnRiverNew'. -/
def fnRiverNewUptoCard : Claim7 := { stood := { row := fnRiverNewUptoRow, standIns := [], harness := (true, "1cb1c31638e0356a1b0f0430c67202b0f3934fe29cb8e92061f485a4b29acafb"), looks := false }, kinds := [], alts := [], laidByText := true, laidKinds := [.data, .data, .data, .data, .pinned], laidTests := true, laidLooks := .later }
def FnRiverNewUptoCardSaid : Prop := Claim7.holds Tryz.pinned (.plain (OpenSpec.upto fnRiverNewSpec)) fnRiverNewUptoCard

/-- THE SECOND FORM's CARD OF 'laws.FnRiverCame'. -/
def fnRiverCameUptoCard : Claim7 := { stood := { row := fnRiverCameUptoRow, standIns := [], harness := (true, "1cb1c31638e0356a1b0f0430c67202b0f3934fe29cb8e92061f485a4b29acafb"), looks := false }, kinds := [], alts := [], laidByText := true, laidKinds := [.data, .data, .data, .data, .pinned], laidTests := true, laidLooks := .later }
def FnRiverCameUptoCardSaid : Prop := Claim7.holds Tryz.pinned (.plain (OpenSpec.upto fnRiverCameSpec)) fnRiverCameUptoCard

/-- THE SECOND FORM's CARD OF 'laws.FnRiverStay'. -/
def fnRiverStayUptoCard : Claim7 := { stood := { row := fnRiverStayUptoRow, standIns := [], harness := (true, "1cb1c31638e0356a1b0f0430c67202b0f3934fe29cb8e92061f485a4b29acafb"), looks := false }, kinds := [], alts := [], laidByText := true, laidKinds := [.data, .data, .data, .data, .pinned], laidTests := true, laidLooks := .later }
def FnRiverStayUptoCardSaid : Prop := Claim7.holds Tryz.pinned (.plain (OpenSpec.upto fnRiverStaySpec)) fnRiverStayUptoCard

/-- THE SECOND FORM's CARD OF 'laws.FnRiverBack'. -/
def fnRiverBackUptoCard : Claim7 := { stood := { row := fnRiverBackUptoRow, standIns := [], harness := (true, "1cb1c31638e0356a1b0f0430c67202b0f3934fe29cb8e92061f485a4b29acafb"), looks := false }, kinds := [], alts := [], laidByText := true, laidKinds := [.data, .data, .data, .data, .pinned], laidTests := true, laidLooks := .later }
def FnRiverBackUptoCardSaid : Prop := Claim7.holds Tryz.pinned (.plain (OpenSpec.upto fnRiverBackSpec)) fnRiverBackUptoCard

/-- THE SECOND FORM's CARD OF 'laws.FnRiverKept'. -/
def fnRiverKeptUptoCard : Claim7 := { stood := { row := fnRiverKeptUptoRow, standIns := [], harness := (true, "1cb1c31638e0356a1b0f0430c67202b0f3934fe29cb8e92061f485a4b29acafb"), looks := false }, kinds := [], alts := [], laidByText := true, laidKinds := [.data, .data, .data, .data, .pinned], laidTests := true, laidLooks := .later }
def FnRiverKeptUptoCardSaid : Prop := Claim7.holds Tryz.pinned (.plain (OpenSpec.upto fnRiverKeptSpec)) fnRiverKeptUptoCard

/-- THE SECOND FORM's CARD OF 'laws.FnRiverStill'. -/
def fnRiverStillUptoCard : Claim7 := { stood := { row := fnRiverStillUptoRow, standIns := [], harness := (true, "1cb1c31638e0356a1b0f0430c67202b0f3934fe29cb8e92061f485a4b29acafb"), looks := false }, kinds := [], alts := [], laidByText := true, laidKinds := [.data, .data, .data, .data, .pinned], laidTests := true, laidLooks := .later }
def FnRiverStillUptoCardSaid : Prop := Claim7.holds Tryz.pinned (.plain (OpenSpec.upto fnRiverStillSpec)) fnRiverStillUptoCard

/-- THE SECOND FORM's CARD OF 'laws.FnRiverFalls'. -/
def fnRiverFallsUptoCard : Claim7 := { stood := { row := fnRiverFallsUptoRow, standIns := [], harness := (true, "1cb1c31638e0356a1b0f0430c67202b0f3934fe29cb8e92061f485a4b29acafb"), looks := false }, kinds := [], alts := [], laidByText := true, laidKinds := [.data, .data, .data, .data, .pinned], laidTests := true, laidLooks := .later }
def FnRiverFallsUptoCardSaid : Prop := Claim7.holds Tryz.pinned (.plain (OpenSpec.upto fnRiverFallsSpec)) fnRiverFallsUptoCard

/-- THE SECOND FORM's CARD OF 'laws.FnRiverCalm'. -/
def fnRiverCalmUptoCard : Claim7 := { stood := { row := fnRiverCalmUptoRow, standIns := [], harness := (true, "1cb1c31638e0356a1b0f0430c67202b0f3934fe29cb8e92061f485a4b29acafb"), looks := false }, kinds := [], alts := [], laidByText := true, laidKinds := [.data, .data, .data, .data, .pinned], laidTests := true, laidLooks := .later }
def FnRiverCalmUptoCardSaid : Prop := Claim7.holds Tryz.pinned (.plain (OpenSpec.upto fnRiverCalmSpec)) fnRiverCalmUptoCard
end Rows
end Go.Proofs.YtgjljlpdfceilaaGreatDoor

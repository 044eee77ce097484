/-
  DERIVED. GIVEN WITH THE SEED: THE CARDS: each row of YtcdeafiabojglaaGreatDoorRows.lean that lists a variable, with what it lists TIED to the program's text (the seventh form; the later family's looks); each row that meets fmt, with fmt's text TOLD by the authors' own Lean function (tested against real Go, not proved from fmt's source: count such statements apart). THE CARD IS WHAT COUNTS. Prove the row's statement (the work); the ties are given (YtcdeafiabojglaaGreatDoorTie.lean); close each card by the builder's one call (the guide's Derived/Test/ToyasCard.lean, 'card_holds'). Laid BY PROGRAM, IN A SANDBOX (cutbox-door.mjs). By AI agents, Wed Nov 11 2026. No macro, syntax, notation, axiom, sorry.
-/
import Derived.Test.YtcdeafiabojglaaGreatDoorRows
import GoSem.ClaimSeven
namespace Go.Proofs.YtcdeafiabojglaaGreatDoor
namespace Rows

/-- THE TIED CARD OF 'laws.FnRiverStay'. -/
def fnRiverStayCard : Claim7 := { stood := { row := fnRiverStayRow, standIns := [], harness := (true, "ec31ed22d3f19b46881e5d8624e9861b599497ee737fc44ca0f3a05ef76f3ee3"), looks := false }, kinds := [], alts := [], laidByText := true, laidKinds := [.data, .data, .data, .data, .pinned], laidTests := true, laidLooks := .later }
def FnRiverStayCardSaid : Prop := Claim7.holds Tryz.pinned (.plain (OpenSpec.ofChange fnRiverStaySpec)) fnRiverStayCard

/-- THE TIED CARD OF 'laws.FnRiverCalm'. -/
def fnRiverCalmCard : Claim7 := { stood := { row := fnRiverCalmRow, standIns := [], harness := (true, "ec31ed22d3f19b46881e5d8624e9861b599497ee737fc44ca0f3a05ef76f3ee3"), looks := false }, kinds := [], alts := [], laidByText := true, laidKinds := [.data, .data, .data, .data, .pinned], laidTests := true, laidLooks := .later }
def FnRiverCalmCardSaid : Prop := Claim7.holds Tryz.pinned (.plain (OpenSpec.ofChange fnRiverCalmSpec)) fnRiverCalmCard

/-- THE SECOND FORM's CARD OF 'laws.FnRiverStay'. -/
def fnRiverStayUptoCard : Claim7 := { stood := { row := fnRiverStayUptoRow, standIns := [], harness := (true, "ec31ed22d3f19b46881e5d8624e9861b599497ee737fc44ca0f3a05ef76f3ee3"), looks := false }, kinds := [], alts := [], laidByText := true, laidKinds := [.data, .data, .data, .data, .pinned], laidTests := true, laidLooks := .later }
def FnRiverStayUptoCardSaid : Prop := Claim7.holds Tryz.pinned (.plain (OpenSpec.upto fnRiverStaySpec)) fnRiverStayUptoCard

/-- THE SECOND FORM's CARD OF 'laws.FnRiverCalm'. -/
def fnRiverCalmUptoCard : Claim7 := { stood := { row := fnRiverCalmUptoRow, standIns := [], harness := (true, "ec31ed22d3f19b46881e5d8624e9861b599497ee737fc44ca0f3a05ef76f3ee3"), looks := false }, kinds := [], alts := [], laidByText := true, laidKinds := [.data, .data, .data, .data, .pinned], laidTests := true, laidLooks := .later }
def FnRiverCalmUptoCardSaid : Prop := Claim7.holds Tryz.pinned (.plain (OpenSpec.upto fnRiverCalmSpec)) fnRiverCalmUptoCard
end Rows
end Go.Proofs.YtcdeafiabojglaaGreatDoor

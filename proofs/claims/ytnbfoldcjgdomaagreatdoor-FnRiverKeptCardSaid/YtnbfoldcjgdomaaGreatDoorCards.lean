/-
  DERIVED. GIVEN WITH THE SEED: THE CARDS: each row of YtnbfoldcjgdomaaGreatDoorRows.lean that lists a variable, with what it lists TIED to the program's text (the seventh form; the later family's looks); each row that meets fmt, with fmt's text TOLD by the authors' own Lean function (tested against real Go, not proved from fmt's source: count such statements apart). THE CARD IS WHAT COUNTS. Prove the row's statement (the work); the ties are given (YtnbfoldcjgdomaaGreatDoorTie.lean); close each card by the builder's one call (the guide's Derived/Test/ToyasCard.lean, 'card_holds'). Laid BY PROGRAM, IN A SANDBOX (cutbox-door.mjs). By AI agents, Wed Nov 11 2026. No macro, syntax, notation, axiom, sorry.
-/
import Derived.Test.YtnbfoldcjgdomaaGreatDoorRows
import GoSem.ClaimSeven
namespace Go.Proofs.YtnbfoldcjgdomaaGreatDoor
namespace Rows

/-- THE TIED CARD OF 'laws.FnRiverBack'. -/
def fnRiverBackCard : Claim7 := { stood := { row := fnRiverBackRow, standIns := [], harness := (true, "b84cfd3a67341ec7f0210f826323fd930683baf8cd0947def78103cb9914f3c9"), looks := false }, kinds := [], alts := [], laidByText := true, laidKinds := [.data, .data, .data, .data, .pinned], laidTests := true, laidLooks := .later }
def FnRiverBackCardSaid : Prop := Claim7.holds Tryz.pinned (.plain (OpenSpec.ofChange fnRiverBackSpec)) fnRiverBackCard

/-- THE TIED CARD OF 'laws.FnRiverKept'. -/
def fnRiverKeptCard : Claim7 := { stood := { row := fnRiverKeptRow, standIns := [], harness := (true, "b84cfd3a67341ec7f0210f826323fd930683baf8cd0947def78103cb9914f3c9"), looks := false }, kinds := [], alts := [], laidByText := true, laidKinds := [.data, .data, .data, .data, .pinned], laidTests := true, laidLooks := .later }
def FnRiverKeptCardSaid : Prop := Claim7.holds Tryz.pinned (.plain (OpenSpec.ofChange fnRiverKeptSpec)) fnRiverKeptCard

/-- THE TIED CARD OF 'laws.FnRiverStill'. -/
def fnRiverStillCard : Claim7 := { stood := { row := fnRiverStillRow, standIns := [], harness := (true, "b84cfd3a67341ec7f0210f826323fd930683baf8cd0947def78103cb9914f3c9"), looks := false }, kinds := [], alts := [], laidByText := true, laidKinds := [.data, .data, .data, .data, .pinned], laidTests := true, laidLooks := .later }
def FnRiverStillCardSaid : Prop := Claim7.holds Tryz.pinned (.plain (OpenSpec.ofChange fnRiverStillSpec)) fnRiverStillCard

/-- THE TIED CARD OF 'laws.FnRiverFalls'. -/
def fnRiverFallsCard : Claim7 := { stood := { row := fnRiverFallsRow, standIns := [], harness := (true, "b84cfd3a67341ec7f0210f826323fd930683baf8cd0947def78103cb9914f3c9"), looks := false }, kinds := [], alts := [], laidByText := true, laidKinds := [.data, .data, .data, .data, .pinned], laidTests := true, laidLooks := .later }
def FnRiverFallsCardSaid : Prop := Claim7.holds Tryz.pinned (.plain (OpenSpec.ofChange fnRiverFallsSpec)) fnRiverFallsCard

/-- THE SECOND FORM's CARD OF 'laws.FnRiverBack'. -/
def fnRiverBackUptoCard : Claim7 := { stood := { row := fnRiverBackUptoRow, standIns := [], harness := (true, "b84cfd3a67341ec7f0210f826323fd930683baf8cd0947def78103cb9914f3c9"), looks := false }, kinds := [], alts := [], laidByText := true, laidKinds := [.data, .data, .data, .data, .pinned], laidTests := true, laidLooks := .later }
def FnRiverBackUptoCardSaid : Prop := Claim7.holds Tryz.pinned (.plain (OpenSpec.upto fnRiverBackSpec)) fnRiverBackUptoCard

/-- THE SECOND FORM's CARD OF 'laws.FnRiverKept'. -/
def fnRiverKeptUptoCard : Claim7 := { stood := { row := fnRiverKeptUptoRow, standIns := [], harness := (true, "b84cfd3a67341ec7f0210f826323fd930683baf8cd0947def78103cb9914f3c9"), looks := false }, kinds := [], alts := [], laidByText := true, laidKinds := [.data, .data, .data, .data, .pinned], laidTests := true, laidLooks := .later }
def FnRiverKeptUptoCardSaid : Prop := Claim7.holds Tryz.pinned (.plain (OpenSpec.upto fnRiverKeptSpec)) fnRiverKeptUptoCard

/-- THE SECOND FORM's CARD OF 'laws.FnRiverStill'. -/
def fnRiverStillUptoCard : Claim7 := { stood := { row := fnRiverStillUptoRow, standIns := [], harness := (true, "b84cfd3a67341ec7f0210f826323fd930683baf8cd0947def78103cb9914f3c9"), looks := false }, kinds := [], alts := [], laidByText := true, laidKinds := [.data, .data, .data, .data, .pinned], laidTests := true, laidLooks := .later }
def FnRiverStillUptoCardSaid : Prop := Claim7.holds Tryz.pinned (.plain (OpenSpec.upto fnRiverStillSpec)) fnRiverStillUptoCard

/-- THE SECOND FORM's CARD OF 'laws.FnRiverFalls'. -/
def fnRiverFallsUptoCard : Claim7 := { stood := { row := fnRiverFallsUptoRow, standIns := [], harness := (true, "b84cfd3a67341ec7f0210f826323fd930683baf8cd0947def78103cb9914f3c9"), looks := false }, kinds := [], alts := [], laidByText := true, laidKinds := [.data, .data, .data, .data, .pinned], laidTests := true, laidLooks := .later }
def FnRiverFallsUptoCardSaid : Prop := Claim7.holds Tryz.pinned (.plain (OpenSpec.upto fnRiverFallsSpec)) fnRiverFallsUptoCard
end Rows
end Go.Proofs.YtnbfoldcjgdomaaGreatDoor

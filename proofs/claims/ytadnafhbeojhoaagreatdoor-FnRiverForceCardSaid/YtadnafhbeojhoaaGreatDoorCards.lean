/-
  DERIVED. GIVEN WITH THE SEED: THE CARDS: each row of YtadnafhbeojhoaaGreatDoorRows.lean that lists a variable, with what it lists TIED to the program's text (the seventh form; the later family's looks); each row that meets fmt, with fmt's text TOLD by the authors' own Lean function (tested against real Go, not proved from fmt's source: count such statements apart). THE CARD IS WHAT COUNTS. Prove the row's statement (the work); the ties are given (YtadnafhbeojhoaaGreatDoorTie.lean); close each card by the builder's one call (the guide's Derived/Test/ToyasCard.lean, 'card_holds'). Laid BY PROGRAM, IN A SANDBOX (cutbox-door.mjs). By AI agents, Wed Nov 11 2026. No macro, syntax, notation, axiom, sorry.
-/
import Derived.Test.YtadnafhbeojhoaaGreatDoorRows
import GoSem.ClaimSeven
namespace Go.Proofs.YtadnafhbeojhoaaGreatDoor
namespace Rows

/-- THE TIED CARD OF 'laws.FnRiverPacks'. -/
def fnRiverPacksCard : Claim7 := { stood := { row := fnRiverPacksRow, standIns := [], harness := (true, "660365104fd3fe31d6b850ae0492d958a6342bbfa54f215adc644b9932719a27"), looks := false }, kinds := [], alts := [], laidByText := true, laidKinds := [.data, .data, .data, .data, .pinned], laidTests := true, laidLooks := .later }
def FnRiverPacksCardSaid : Prop := Claim7.holds Tryz.pinned (.plain (OpenSpec.ofChange fnRiverPacksSpec)) fnRiverPacksCard

/-- THE TIED CARD OF 'laws.FnRiverRise'. -/
def fnRiverRiseCard : Claim7 := { stood := { row := fnRiverRiseRow, standIns := [], harness := (true, "660365104fd3fe31d6b850ae0492d958a6342bbfa54f215adc644b9932719a27"), looks := false }, kinds := [], alts := [], laidByText := true, laidKinds := [.data, .data, .data, .data, .pinned], laidTests := true, laidLooks := .later }
def FnRiverRiseCardSaid : Prop := Claim7.holds Tryz.pinned (.plain (OpenSpec.ofChange fnRiverRiseSpec)) fnRiverRiseCard

/-- THE TIED CARD OF 'laws.FnRiverDoubled'. -/
def fnRiverDoubledCard : Claim7 := { stood := { row := fnRiverDoubledRow, standIns := [], harness := (true, "660365104fd3fe31d6b850ae0492d958a6342bbfa54f215adc644b9932719a27"), looks := false }, kinds := [], alts := [], laidByText := true, laidKinds := [.data, .data, .data, .data, .pinned], laidTests := true, laidLooks := .later }
def FnRiverDoubledCardSaid : Prop := Claim7.holds Tryz.pinned (.plain (OpenSpec.ofChange fnRiverDoubledSpec)) fnRiverDoubledCard

/-- THE TIED CARD OF 'laws.FnRiverForce'. -/
def fnRiverForceCard : Claim7 := { stood := { row := fnRiverForceRow, standIns := [], harness := (true, "660365104fd3fe31d6b850ae0492d958a6342bbfa54f215adc644b9932719a27"), looks := false }, kinds := [], alts := [], laidByText := true, laidKinds := [.data, .data, .data, .data, .pinned], laidTests := true, laidLooks := .later }
def FnRiverForceCardSaid : Prop := Claim7.holds Tryz.pinned (.plain (OpenSpec.ofChange fnRiverForceSpec)) fnRiverForceCard

/-- THE SECOND FORM's CARD OF 'laws.FnRiverPacks'. -/
def fnRiverPacksUptoCard : Claim7 := { stood := { row := fnRiverPacksUptoRow, standIns := [], harness := (true, "660365104fd3fe31d6b850ae0492d958a6342bbfa54f215adc644b9932719a27"), looks := false }, kinds := [], alts := [], laidByText := true, laidKinds := [.data, .data, .data, .data, .pinned], laidTests := true, laidLooks := .later }
def FnRiverPacksUptoCardSaid : Prop := Claim7.holds Tryz.pinned (.plain (OpenSpec.upto fnRiverPacksSpec)) fnRiverPacksUptoCard

/-- THE SECOND FORM's CARD OF 'laws.FnRiverRise'. -/
def fnRiverRiseUptoCard : Claim7 := { stood := { row := fnRiverRiseUptoRow, standIns := [], harness := (true, "660365104fd3fe31d6b850ae0492d958a6342bbfa54f215adc644b9932719a27"), looks := false }, kinds := [], alts := [], laidByText := true, laidKinds := [.data, .data, .data, .data, .pinned], laidTests := true, laidLooks := .later }
def FnRiverRiseUptoCardSaid : Prop := Claim7.holds Tryz.pinned (.plain (OpenSpec.upto fnRiverRiseSpec)) fnRiverRiseUptoCard

/-- THE SECOND FORM's CARD OF 'laws.FnRiverDoubled'. -/
def fnRiverDoubledUptoCard : Claim7 := { stood := { row := fnRiverDoubledUptoRow, standIns := [], harness := (true, "660365104fd3fe31d6b850ae0492d958a6342bbfa54f215adc644b9932719a27"), looks := false }, kinds := [], alts := [], laidByText := true, laidKinds := [.data, .data, .data, .data, .pinned], laidTests := true, laidLooks := .later }
def FnRiverDoubledUptoCardSaid : Prop := Claim7.holds Tryz.pinned (.plain (OpenSpec.upto fnRiverDoubledSpec)) fnRiverDoubledUptoCard

/-- THE SECOND FORM's CARD OF 'laws.FnRiverForce'. -/
def fnRiverForceUptoCard : Claim7 := { stood := { row := fnRiverForceUptoRow, standIns := [], harness := (true, "660365104fd3fe31d6b850ae0492d958a6342bbfa54f215adc644b9932719a27"), looks := false }, kinds := [], alts := [], laidByText := true, laidKinds := [.data, .data, .data, .data, .pinned], laidTests := true, laidLooks := .later }
def FnRiverForceUptoCardSaid : Prop := Claim7.holds Tryz.pinned (.plain (OpenSpec.upto fnRiverForceSpec)) fnRiverForceUptoCard
end Rows
end Go.Proofs.YtadnafhbeojhoaaGreatDoor

/-
  DERIVED. GIVEN WITH THE SEED: THE CARDS: each row of YtplahhbealfpcaaGreatDoorRows.lean that lists a variable, with what it lists TIED to the program's text (the seventh form; the later family's looks); each row that meets fmt, with fmt's text TOLD by the authors' own Lean function (tested against real Go, not proved from fmt's source: count such statements apart). THE CARD IS WHAT COUNTS. Prove the row's statement (the work); the ties are given (YtplahhbealfpcaaGreatDoorTie.lean); close each card by the builder's one call (the guide's Derived/Test/ToyasCard.lean, 'card_holds'). Laid BY PROGRAM, IN A SANDBOX (cutbox-door.mjs). By AI agents, Wed Nov 11 2026. No macro, syntax, notation, axiom, sorry.
-/
import Derived.Test.YtplahhbealfpcaaGreatDoorRows
import GoSem.ClaimSeven
namespace Go.Proofs.YtplahhbealfpcaaGreatDoor
namespace Rows

/-- THE TIED CARD OF 'laws.FnRiverEnd'. -/
def fnRiverEndCard : Claim7 := { stood := { row := fnRiverEndRow, standIns := [], harness := (true, "169389dd3061676c6dc126d0287cebb86ba3f1e60ea0feec40a04682daa00bbb"), looks := false }, kinds := [], alts := [], laidByText := true, laidKinds := [.data, .data, .data, .data, .pinned], laidTests := true, laidLooks := .later }
def FnRiverEndCardSaid : Prop := Claim7.holds Tryz.pinned (.plain (OpenSpec.ofChange fnRiverEndSpec)) fnRiverEndCard

/-- THE TIED CARD OF 'laws.FnRiverOnce'. -/
def fnRiverOnceCard : Claim7 := { stood := { row := fnRiverOnceRow, standIns := [], harness := (true, "169389dd3061676c6dc126d0287cebb86ba3f1e60ea0feec40a04682daa00bbb"), looks := false }, kinds := [], alts := [], laidByText := true, laidKinds := [.data, .data, .data, .data, .pinned], laidTests := true, laidLooks := .later }
def FnRiverOnceCardSaid : Prop := Claim7.holds Tryz.pinned (.plain (OpenSpec.ofChange fnRiverOnceSpec)) fnRiverOnceCard

/-- THE TIED CARD OF 'laws.FnRiverQuiet'. -/
def fnRiverQuietCard : Claim7 := { stood := { row := fnRiverQuietRow, standIns := [], harness := (true, "169389dd3061676c6dc126d0287cebb86ba3f1e60ea0feec40a04682daa00bbb"), looks := false }, kinds := [], alts := [], laidByText := true, laidKinds := [.data, .data, .data, .data, .pinned], laidTests := true, laidLooks := .later }
def FnRiverQuietCardSaid : Prop := Claim7.holds Tryz.pinned (.plain (OpenSpec.ofChange fnRiverQuietSpec)) fnRiverQuietCard

/-- THE TIED CARD OF 'laws.FnRiverClock'. -/
def fnRiverClockCard : Claim7 := { stood := { row := fnRiverClockRow, standIns := [], harness := (true, "169389dd3061676c6dc126d0287cebb86ba3f1e60ea0feec40a04682daa00bbb"), looks := false }, kinds := [], alts := [], laidByText := true, laidKinds := [.data, .data, .data, .data, .pinned], laidTests := true, laidLooks := .later }
def FnRiverClockCardSaid : Prop := Claim7.holds Tryz.pinned (.plain (OpenSpec.ofChange fnRiverClockSpec)) fnRiverClockCard

/-- THE TIED CARD OF 'laws.FnRiverNever'. -/
def fnRiverNeverCard : Claim7 := { stood := { row := fnRiverNeverRow, standIns := [], harness := (true, "169389dd3061676c6dc126d0287cebb86ba3f1e60ea0feec40a04682daa00bbb"), looks := false }, kinds := [], alts := [], laidByText := true, laidKinds := [.data, .data, .data, .data, .pinned], laidTests := true, laidLooks := .later }
def FnRiverNeverCardSaid : Prop := Claim7.holds Tryz.pinned (.plain (OpenSpec.ofChange fnRiverNeverSpec)) fnRiverNeverCard

/-- THE TIED CARD OF 'laws.FnRiverSame'. -/
def fnRiverSameCard : Claim7 := { stood := { row := fnRiverSameRow, standIns := [], harness := (true, "169389dd3061676c6dc126d0287cebb86ba3f1e60ea0feec40a04682daa00bbb"), looks := false }, kinds := [], alts := [], laidByText := true, laidKinds := [.data, .data, .data, .data, .pinned], laidTests := true, laidLooks := .later }
def FnRiverSameCardSaid : Prop := Claim7.holds Tryz.pinned (.plain (OpenSpec.ofChange fnRiverSameSpec)) fnRiverSameCard

/-- THE TIED CARD OF 'laws.FnRiverMore'. -/
def fnRiverMoreCard : Claim7 := { stood := { row := fnRiverMoreRow, standIns := [], harness := (true, "169389dd3061676c6dc126d0287cebb86ba3f1e60ea0feec40a04682daa00bbb"), looks := false }, kinds := [], alts := [], laidByText := true, laidKinds := [.data, .data, .data, .data, .pinned], laidTests := true, laidLooks := .later }
def FnRiverMoreCardSaid : Prop := Claim7.holds Tryz.pinned (.plain (OpenSpec.ofChange fnRiverMoreSpec)) fnRiverMoreCard

/-- THE TIED CARD OF 'laws.FnRiverTop'. -/
def fnRiverTopCard : Claim7 := { stood := { row := fnRiverTopRow, standIns := [], harness := (true, "169389dd3061676c6dc126d0287cebb86ba3f1e60ea0feec40a04682daa00bbb"), looks := false }, kinds := [], alts := [], laidByText := true, laidKinds := [.data, .data, .data, .data, .pinned], laidTests := true, laidLooks := .later }
def FnRiverTopCardSaid : Prop := Claim7.holds Tryz.pinned (.plain (OpenSpec.ofChange fnRiverTopSpec)) fnRiverTopCard

/-- THE SECOND FORM's CARD OF 'laws.FnRiverEnd'. -/
def fnRiverEndUptoCard : Claim7 := { stood := { row := fnRiverEndUptoRow, standIns := [], harness := (true, "169389dd3061676c6dc126d0287cebb86ba3f1e60ea0feec40a04682daa00bbb"), looks := false }, kinds := [], alts := [], laidByText := true, laidKinds := [.data, .data, .data, .data, .pinned], laidTests := true, laidLooks := .later }
def FnRiverEndUptoCardSaid : Prop := Claim7.holds Tryz.pinned (.plain (OpenSpec.upto fnRiverEndSpec)) fnRiverEndUptoCard

/-- THE SECOND FORM's CARD OF 'laws.FnRiverOnce'. -/
def fnRiverOnceUptoCard : Claim7 := { stood := { row := fnRiverOnceUptoRow, standIns := [], harness := (true, "169389dd3061676c6dc126d0287cebb86ba3f1e60ea0feec40a04682daa00bbb"), looks := false }, kinds := [], alts := [], laidByText := true, laidKinds := [.data, .data, .data, .data, .pinned], laidTests := true, laidLooks := .later }
def FnRiverOnceUptoCardSaid : Prop := Claim7.holds Tryz.pinned (.plain (OpenSpec.upto fnRiverOnceSpec)) fnRiverOnceUptoCard

/-- THE SECOND FORM's CARD OF 'laws.FnRiverQuiet'. -/
def fnRiverQuietUptoCard : Claim7 := { stood := { row := fnRiverQuietUptoRow, standIns := [], harness := (true, "169389dd3061676c6dc126d0287cebb86ba3f1e60ea0feec40a04682daa00bbb"), looks := false }, kinds := [], alts := [], laidByText := true, laidKinds := [.data, .data, .data, .data, .pinned], laidTests := true, laidLooks := .later }
def FnRiverQuietUptoCardSaid : Prop := Claim7.holds Tryz.pinned (.plain (OpenSpec.upto fnRiverQuietSpec)) fnRiverQuietUptoCard

/-- THE SECOND FORM's CARD OF 'laws.FnRiverClock'. -/
def fnRiverClockUptoCard : Claim7 := { stood := { row := fnRiverClockUptoRow, standIns := [], harness := (true, "169389dd3061676c6dc126d0287cebb86ba3f1e60ea0feec40a04682daa00bbb"), looks := false }, kinds := [], alts := [], laidByText := true, laidKinds := [.data, .data, .data, .data, .pinned], laidTests := true, laidLooks := .later }
def FnRiverClockUptoCardSaid : Prop := Claim7.holds Tryz.pinned (.plain (OpenSpec.upto fnRiverClockSpec)) fnRiverClockUptoCard

/-- THE SECOND FORM's CARD OF 'laws.FnRiverNever'. -/
def fnRiverNeverUptoCard : Claim7 := { stood := { row := fnRiverNeverUptoRow, standIns := [], harness := (true, "169389dd3061676c6dc126d0287cebb86ba3f1e60ea0feec40a04682daa00bbb"), looks := false }, kinds := [], alts := [], laidByText := true, laidKinds := [.data, .data, .data, .data, .pinned], laidTests := true, laidLooks := .later }
def FnRiverNeverUptoCardSaid : Prop := Claim7.holds Tryz.pinned (.plain (OpenSpec.upto fnRiverNeverSpec)) fnRiverNeverUptoCard

/-- THE SECOND FORM's CARD OF 'laws.FnRiverSame'. -/
def fnRiverSameUptoCard : Claim7 := { stood := { row := fnRiverSameUptoRow, standIns := [], harness := (true, "169389dd3061676c6dc126d0287cebb86ba3f1e60ea0feec40a04682daa00bbb"), looks := false }, kinds := [], alts := [], laidByText := true, laidKinds := [.data, .data, .data, .data, .pinned], laidTests := true, laidLooks := .later }
def FnRiverSameUptoCardSaid : Prop := Claim7.holds Tryz.pinned (.plain (OpenSpec.upto fnRiverSameSpec)) fnRiverSameUptoCard

/-- THE SECOND FORM's CARD OF 'laws.FnRiverMore'. -/
def fnRiverMoreUptoCard : Claim7 := { stood := { row := fnRiverMoreUptoRow, standIns := [], harness := (true, "169389dd3061676c6dc126d0287cebb86ba3f1e60ea0feec40a04682daa00bbb"), looks := false }, kinds := [], alts := [], laidByText := true, laidKinds := [.data, .data, .data, .data, .pinned], laidTests := true, laidLooks := .later }
def FnRiverMoreUptoCardSaid : Prop := Claim7.holds Tryz.pinned (.plain (OpenSpec.upto fnRiverMoreSpec)) fnRiverMoreUptoCard

/-- THE SECOND FORM's CARD OF 'laws.FnRiverTop'. -/
def fnRiverTopUptoCard : Claim7 := { stood := { row := fnRiverTopUptoRow, standIns := [], harness := (true, "169389dd3061676c6dc126d0287cebb86ba3f1e60ea0feec40a04682daa00bbb"), looks := false }, kinds := [], alts := [], laidByText := true, laidKinds := [.data, .data, .data, .data, .pinned], laidTests := true, laidLooks := .later }
def FnRiverTopUptoCardSaid : Prop := Claim7.holds Tryz.pinned (.plain (OpenSpec.upto fnRiverTopSpec)) fnRiverTopUptoCard
end Rows
end Go.Proofs.YtplahhbealfpcaaGreatDoor

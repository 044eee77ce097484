/-
  DERIVED. GIVEN WITH THE SEED: THE CARDS: each row of YtimdnaklfelapaaGreatDoorRows.lean that lists a variable, with what it lists TIED to the program's text (the seventh form; the later family's looks); each row that meets fmt, with fmt's text TOLD by the authors' own Lean function (tested against real Go, not proved from fmt's source: count such statements apart). THE CARD IS WHAT COUNTS. Prove the row's statement (the work); the ties are given (YtimdnaklfelapaaGreatDoorTie.lean); close each card by the builder's one call (the guide's Derived/Test/ToyasCard.lean, 'card_holds'). Laid BY PROGRAM, IN A SANDBOX (cutbox-door.mjs). By AI agents, Wed Nov 11 2026. No macro, syntax, notation, axiom, sorry.
-/
import Derived.Test.YtimdnaklfelapaaGreatDoorRows
import GoSem.ClaimSeven
namespace Go.Proofs.YtimdnaklfelapaaGreatDoor
namespace Rows

/-- THE TIED CARD OF 'laws.FnKeeperQuiet'. -/
def fnKeeperQuietCard : Claim7 := { stood := { row := fnKeeperQuietRow, standIns := [], harness := (true, "e99bded35355c675ef9adc1c04b3c14fe4211424572413b124ad6e4381abfcb4"), looks := false }, kinds := [], alts := [], laidByText := true, laidKinds := [.data, .data, .data, .data, .pinned], laidTests := true, laidLooks := .later }
def FnKeeperQuietCardSaid : Prop := Claim7.holds Tryz.pinned (.plain (OpenSpec.ofChange fnKeeperQuietSpec)) fnKeeperQuietCard

/-- THE TIED CARD OF 'laws.FnKeeperStrange'. -/
def fnKeeperStrangeCard : Claim7 := { stood := { row := fnKeeperStrangeRow, standIns := [], harness := (true, "e99bded35355c675ef9adc1c04b3c14fe4211424572413b124ad6e4381abfcb4"), looks := false }, kinds := [], alts := [], laidByText := true, laidKinds := [.data, .data, .data, .data, .pinned], laidTests := true, laidLooks := .later }
def FnKeeperStrangeCardSaid : Prop := Claim7.holds Tryz.pinned (.plain (OpenSpec.ofChange fnKeeperStrangeSpec)) fnKeeperStrangeCard

/-- THE TIED CARD OF 'laws.FnKeeperLate'. -/
def fnKeeperLateCard : Claim7 := { stood := { row := fnKeeperLateRow, standIns := [], harness := (true, "e99bded35355c675ef9adc1c04b3c14fe4211424572413b124ad6e4381abfcb4"), looks := false }, kinds := [], alts := [], laidByText := true, laidKinds := [.data, .data, .data, .data, .pinned], laidTests := true, laidLooks := .later }
def FnKeeperLateCardSaid : Prop := Claim7.holds Tryz.pinned (.plain (OpenSpec.ofChange fnKeeperLateSpec)) fnKeeperLateCard

/-- THE TIED CARD OF 'laws.FnKeeperLet'. -/
def fnKeeperLetCard : Claim7 := { stood := { row := fnKeeperLetRow, standIns := [], harness := (true, "e99bded35355c675ef9adc1c04b3c14fe4211424572413b124ad6e4381abfcb4"), looks := false }, kinds := [], alts := [], laidByText := true, laidKinds := [.data, .data, .data, .data, .pinned], laidTests := true, laidLooks := .later }
def FnKeeperLetCardSaid : Prop := Claim7.holds Tryz.pinned (.plain (OpenSpec.ofChange fnKeeperLetSpec)) fnKeeperLetCard

/-- THE TIED CARD OF 'laws.FnKeeperWhole'. -/
def fnKeeperWholeCard : Claim7 := { stood := { row := fnKeeperWholeRow, standIns := [], harness := (true, "e99bded35355c675ef9adc1c04b3c14fe4211424572413b124ad6e4381abfcb4"), looks := false }, kinds := [], alts := [], laidByText := true, laidKinds := [.data, .data, .data, .data, .pinned], laidTests := true, laidLooks := .later }
def FnKeeperWholeCardSaid : Prop := Claim7.holds Tryz.pinned (.plain (OpenSpec.ofChange fnKeeperWholeSpec)) fnKeeperWholeCard

/-- THE TIED CARD OF 'laws.FnKeeperTwice'. -/
def fnKeeperTwiceCard : Claim7 := { stood := { row := fnKeeperTwiceRow, standIns := [], harness := (true, "e99bded35355c675ef9adc1c04b3c14fe4211424572413b124ad6e4381abfcb4"), looks := false }, kinds := [], alts := [], laidByText := true, laidKinds := [.data, .data, .data, .data, .pinned], laidTests := true, laidLooks := .later }
def FnKeeperTwiceCardSaid : Prop := Claim7.holds Tryz.pinned (.plain (OpenSpec.ofChange fnKeeperTwiceSpec)) fnKeeperTwiceCard

/-- THE TIED CARD OF 'laws.FnKeeperHave'. -/
def fnKeeperHaveCard : Claim7 := { stood := { row := fnKeeperHaveRow, standIns := [], harness := (true, "e99bded35355c675ef9adc1c04b3c14fe4211424572413b124ad6e4381abfcb4"), looks := false }, kinds := [], alts := [], laidByText := true, laidKinds := [.data, .data, .data, .data, .pinned], laidTests := true, laidLooks := .later }
def FnKeeperHaveCardSaid : Prop := Claim7.holds Tryz.pinned (.plain (OpenSpec.ofChange fnKeeperHaveSpec)) fnKeeperHaveCard

/-- THE TIED CARD OF 'laws.FnKeeperDown'. -/
def fnKeeperDownCard : Claim7 := { stood := { row := fnKeeperDownRow, standIns := [], harness := (true, "e99bded35355c675ef9adc1c04b3c14fe4211424572413b124ad6e4381abfcb4"), looks := false }, kinds := [], alts := [], laidByText := true, laidKinds := [.data, .data, .data, .data, .pinned], laidTests := true, laidLooks := .later }
def FnKeeperDownCardSaid : Prop := Claim7.holds Tryz.pinned (.plain (OpenSpec.ofChange fnKeeperDownSpec)) fnKeeperDownCard

/-- THE SECOND FORM's CARD OF 'laws.FnKeeperQuiet'. -/
def fnKeeperQuietUptoCard : Claim7 := { stood := { row := fnKeeperQuietUptoRow, standIns := [], harness := (true, "e99bded35355c675ef9adc1c04b3c14fe4211424572413b124ad6e4381abfcb4"), looks := false }, kinds := [], alts := [], laidByText := true, laidKinds := [.data, .data, .data, .data, .pinned], laidTests := true, laidLooks := .later }
def FnKeeperQuietUptoCardSaid : Prop := Claim7.holds Tryz.pinned (.plain (OpenSpec.upto fnKeeperQuietSpec)) fnKeeperQuietUptoCard

/-- THE SECOND FORM's CARD OF 'laws.FnKeeperStrange'. -/
def fnKeeperStrangeUptoCard : Claim7 := { stood := { row := fnKeeperStrangeUptoRow, standIns := [], harness := (true, "e99bded35355c675ef9adc1c04b3c14fe4211424572413b124ad6e4381abfcb4"), looks := false }, kinds := [], alts := [], laidByText := true, laidKinds := [.data, .data, .data, .data, .pinned], laidTests := true, laidLooks := .later }
def FnKeeperStrangeUptoCardSaid : Prop := Claim7.holds Tryz.pinned (.plain (OpenSpec.upto fnKeeperStrangeSpec)) fnKeeperStrangeUptoCard

/-- THE SECOND FORM's CARD OF 'laws.FnKeeperLate'. -/
def fnKeeperLateUptoCard : Claim7 := { stood := { row := fnKeeperLateUptoRow, standIns := [], harness := (true, "e99bded35355c675ef9adc1c04b3c14fe4211424572413b124ad6e4381abfcb4"), looks := false }, kinds := [], alts := [], laidByText := true, laidKinds := [.data, .data, .data, .data, .pinned], laidTests := true, laidLooks := .later }
def FnKeeperLateUptoCardSaid : Prop := Claim7.holds Tryz.pinned (.plain (OpenSpec.upto fnKeeperLateSpec)) fnKeeperLateUptoCard

/-- THE SECOND FORM's CARD OF 'laws.FnKeeperLet'. -/
def fnKeeperLetUptoCard : Claim7 := { stood := { row := fnKeeperLetUptoRow, standIns := [], harness := (true, "e99bded35355c675ef9adc1c04b3c14fe4211424572413b124ad6e4381abfcb4"), looks := false }, kinds := [], alts := [], laidByText := true, laidKinds := [.data, .data, .data, .data, .pinned], laidTests := true, laidLooks := .later }
def FnKeeperLetUptoCardSaid : Prop := Claim7.holds Tryz.pinned (.plain (OpenSpec.upto fnKeeperLetSpec)) fnKeeperLetUptoCard

/-- THE SECOND FORM's CARD OF 'laws.FnKeeperWhole'. -/
def fnKeeperWholeUptoCard : Claim7 := { stood := { row := fnKeeperWholeUptoRow, standIns := [], harness := (true, "e99bded35355c675ef9adc1c04b3c14fe4211424572413b124ad6e4381abfcb4"), looks := false }, kinds := [], alts := [], laidByText := true, laidKinds := [.data, .data, .data, .data, .pinned], laidTests := true, laidLooks := .later }
def FnKeeperWholeUptoCardSaid : Prop := Claim7.holds Tryz.pinned (.plain (OpenSpec.upto fnKeeperWholeSpec)) fnKeeperWholeUptoCard

/-- THE SECOND FORM's CARD OF 'laws.FnKeeperTwice'. -/
def fnKeeperTwiceUptoCard : Claim7 := { stood := { row := fnKeeperTwiceUptoRow, standIns := [], harness := (true, "e99bded35355c675ef9adc1c04b3c14fe4211424572413b124ad6e4381abfcb4"), looks := false }, kinds := [], alts := [], laidByText := true, laidKinds := [.data, .data, .data, .data, .pinned], laidTests := true, laidLooks := .later }
def FnKeeperTwiceUptoCardSaid : Prop := Claim7.holds Tryz.pinned (.plain (OpenSpec.upto fnKeeperTwiceSpec)) fnKeeperTwiceUptoCard

/-- THE SECOND FORM's CARD OF 'laws.FnKeeperHave'. -/
def fnKeeperHaveUptoCard : Claim7 := { stood := { row := fnKeeperHaveUptoRow, standIns := [], harness := (true, "e99bded35355c675ef9adc1c04b3c14fe4211424572413b124ad6e4381abfcb4"), looks := false }, kinds := [], alts := [], laidByText := true, laidKinds := [.data, .data, .data, .data, .pinned], laidTests := true, laidLooks := .later }
def FnKeeperHaveUptoCardSaid : Prop := Claim7.holds Tryz.pinned (.plain (OpenSpec.upto fnKeeperHaveSpec)) fnKeeperHaveUptoCard

/-- THE SECOND FORM's CARD OF 'laws.FnKeeperDown'. -/
def fnKeeperDownUptoCard : Claim7 := { stood := { row := fnKeeperDownUptoRow, standIns := [], harness := (true, "e99bded35355c675ef9adc1c04b3c14fe4211424572413b124ad6e4381abfcb4"), looks := false }, kinds := [], alts := [], laidByText := true, laidKinds := [.data, .data, .data, .data, .pinned], laidTests := true, laidLooks := .later }
def FnKeeperDownUptoCardSaid : Prop := Claim7.holds Tryz.pinned (.plain (OpenSpec.upto fnKeeperDownSpec)) fnKeeperDownUptoCard
end Rows
end Go.Proofs.YtimdnaklfelapaaGreatDoor

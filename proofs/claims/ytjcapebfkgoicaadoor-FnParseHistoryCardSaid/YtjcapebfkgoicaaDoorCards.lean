/-
  DERIVED. GIVEN WITH THE SEED: THE CARDS: each row of YtjcapebfkgoicaaDoorRows.lean that lists a variable, with what it lists TIED to the program's text (the seventh form; the later family's looks); each row that meets fmt, with fmt's text TOLD by the authors' own Lean function (tested against real Go, not proved from fmt's source: count such statements apart). THE CARD IS WHAT COUNTS. Prove the row's statement (the work); the ties are given (YtjcapebfkgoicaaDoorTie.lean); close each card by the builder's one call (the guide's Derived/Test/ToyasCard.lean, 'card_holds'). Laid BY PROGRAM, IN A SANDBOX (cutbox-door.mjs). By AI agents, Wed Nov 11 2026. No macro, syntax, notation, axiom, sorry.
-/
import Derived.Test.YtjcapebfkgoicaaDoorRows
import GoSem.ClaimSeven
namespace Go.Proofs.YtjcapebfkgoicaaDoor
namespace Rows

/-- THE TIED CARD OF 'laws.FnExactHistoryText'. -/
def fnExactHistoryTextCard : Claim7 := { stood := { row := fnExactHistoryTextRow, standIns := [], harness := (true, "cad79f320800006bcceccc27730e07de06fcaee4d619623096e6aa57ee869266"), looks := true }, kinds := [], alts := [], laidByText := true, laidKinds := [.data, .data, .data], laidTests := true, laidLooks := .later }
def FnExactHistoryTextCardSaid : Prop := Claim7.holds Tryd.pinned (.plain (OpenSpec.ofChange fnExactHistoryTextSpec)) fnExactHistoryTextCard

/-- THE TIED CARD OF 'laws.FnHistoryText'. -/
def fnHistoryTextCard : Claim7 := { stood := { row := fnHistoryTextRow, standIns := [], harness := (true, "cad79f320800006bcceccc27730e07de06fcaee4d619623096e6aa57ee869266"), looks := true }, kinds := [], alts := [], laidByText := true, laidKinds := [.data, .data, .data, .data, .sentinel, .sentinel, .pinned], laidTests := true, laidLooks := .later }
def FnHistoryTextCardSaid : Prop := Claim7.holds Tryd.pinned (.plain (OpenSpec.ofChange fnHistoryTextSpec)) fnHistoryTextCard

/-- THE TIED CARD OF 'laws.FnParseHistory'. -/
def fnParseHistoryCard : Claim7 := { stood := { row := fnParseHistoryRow, standIns := [], harness := (true, "cad79f320800006bcceccc27730e07de06fcaee4d619623096e6aa57ee869266"), looks := true }, kinds := [], alts := [], laidByText := true, laidKinds := [.data, .data, .data, .data, .sentinel, .sentinel, .pinned], laidTests := true, laidLooks := .later }
def FnParseHistoryCardSaid : Prop := Claim7.holds Tryd.pinned (.plain (OpenSpec.ofChange fnParseHistorySpec)) fnParseHistoryCard

/-- THE TIED CARD OF 'laws.FnExactParseHistory'. -/
def fnExactParseHistoryCard : Claim7 := { stood := { row := fnExactParseHistoryRow, standIns := [], harness := (true, "cad79f320800006bcceccc27730e07de06fcaee4d619623096e6aa57ee869266"), looks := true }, kinds := [], alts := [], laidByText := true, laidKinds := [.data, .data, .data, .data, .sentinel, .sentinel, .pinned], laidTests := true, laidLooks := .later }
def FnExactParseHistoryCardSaid : Prop := Claim7.holds Tryd.pinned (.plain (OpenSpec.ofChange fnExactParseHistorySpec)) fnExactParseHistoryCard

/-- THE SECOND FORM's CARD OF 'laws.FnExactHistoryText'. -/
def fnExactHistoryTextUptoCard : Claim7 := { stood := { row := fnExactHistoryTextUptoRow, standIns := [], harness := (true, "cad79f320800006bcceccc27730e07de06fcaee4d619623096e6aa57ee869266"), looks := true }, kinds := [], alts := [], laidByText := true, laidKinds := [.data, .data, .data], laidTests := true, laidLooks := .later }
def FnExactHistoryTextUptoCardSaid : Prop := Claim7.holds Tryd.pinned (.plain (OpenSpec.upto fnExactHistoryTextSpec)) fnExactHistoryTextUptoCard

/-- THE SECOND FORM's CARD OF 'laws.FnHistoryText'. -/
def fnHistoryTextUptoCard : Claim7 := { stood := { row := fnHistoryTextUptoRow, standIns := [], harness := (true, "cad79f320800006bcceccc27730e07de06fcaee4d619623096e6aa57ee869266"), looks := true }, kinds := [], alts := [], laidByText := true, laidKinds := [.data, .data, .data, .data, .sentinel, .sentinel, .pinned], laidTests := true, laidLooks := .later }
def FnHistoryTextUptoCardSaid : Prop := Claim7.holds Tryd.pinned (.plain (OpenSpec.upto fnHistoryTextSpec)) fnHistoryTextUptoCard

/-- THE SECOND FORM's CARD OF 'laws.FnParseHistory'. -/
def fnParseHistoryUptoCard : Claim7 := { stood := { row := fnParseHistoryUptoRow, standIns := [], harness := (true, "cad79f320800006bcceccc27730e07de06fcaee4d619623096e6aa57ee869266"), looks := true }, kinds := [], alts := [], laidByText := true, laidKinds := [.data, .data, .data, .data, .sentinel, .sentinel, .pinned], laidTests := true, laidLooks := .later }
def FnParseHistoryUptoCardSaid : Prop := Claim7.holds Tryd.pinned (.plain (OpenSpec.upto fnParseHistorySpec)) fnParseHistoryUptoCard

/-- THE SECOND FORM's CARD OF 'laws.FnExactParseHistory'. -/
def fnExactParseHistoryUptoCard : Claim7 := { stood := { row := fnExactParseHistoryUptoRow, standIns := [], harness := (true, "cad79f320800006bcceccc27730e07de06fcaee4d619623096e6aa57ee869266"), looks := true }, kinds := [], alts := [], laidByText := true, laidKinds := [.data, .data, .data, .data, .sentinel, .sentinel, .pinned], laidTests := true, laidLooks := .later }
def FnExactParseHistoryUptoCardSaid : Prop := Claim7.holds Tryd.pinned (.plain (OpenSpec.upto fnExactParseHistorySpec)) fnExactParseHistoryUptoCard
end Rows
end Go.Proofs.YtjcapebfkgoicaaDoor

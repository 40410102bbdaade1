/-
  DERIVED. GIVEN WITH THE SEED: THE CARDS: each row of YtdfmdiakjdggbaaGreatDoorRows.lean that lists a variable, with what it lists TIED to the program's text (the seventh form; the later family's looks); each row that meets fmt, with fmt's text TOLD by the authors' own Lean function (tested against real Go, not proved from fmt's source: count such statements apart). THE CARD IS WHAT COUNTS. Prove the row's statement (the work); the ties are given (YtdfmdiakjdggbaaGreatDoorTie.lean); close each card by the builder's one call (the guide's Derived/Test/ToyasCard.lean, 'card_holds'). Laid BY PROGRAM, IN A SANDBOX (cutbox-door.mjs). By AI agents, Wed Nov 11 2026. No macro, syntax, notation, axiom, sorry.
-/
import Derived.Test.YtdfmdiakjdggbaaGreatDoorRows
import GoSem.ClaimSeven
namespace Go.Proofs.YtdfmdiakjdggbaaGreatDoor
namespace Rows

/-- THE TIED CARD OF 'clearwaylaw29.ScoreMatches'. -/
def scoreMatchesCard : Claim7 := { stood := { row := scoreMatchesRow, standIns := [], harness := (true, "279bd10ab1386c69e0fc126c8775bcbb8dbc74354c996ea3828b0dfc357790ce"), looks := true }, kinds := [], alts := [], laidByText := true, laidKinds := [.data, .data, .data], laidTests := true, laidLooks := .later }
def ScoreMatchesCardSaid : Prop := Claim7.holds Tryz.pinned (.plain (OpenSpec.ofChange scoreMatchesSpec)) scoreMatchesCard

/-- THE TIED CARD OF 'clearwaylaw29.ScoreExtra'. -/
def scoreExtraCard : Claim7 := { stood := { row := scoreExtraRow, standIns := [], harness := (true, "279bd10ab1386c69e0fc126c8775bcbb8dbc74354c996ea3828b0dfc357790ce"), looks := true }, kinds := [], alts := [], laidByText := true, laidKinds := [.data, .data, .data], laidTests := true, laidLooks := .later }
def ScoreExtraCardSaid : Prop := Claim7.holds Tryz.pinned (.plain (OpenSpec.ofChange scoreExtraSpec)) scoreExtraCard

/-- THE TIED CARD OF 'clearwaylaw29.ScoreBetween'. -/
def scoreBetweenCard : Claim7 := { stood := { row := scoreBetweenRow, standIns := [], harness := (true, "279bd10ab1386c69e0fc126c8775bcbb8dbc74354c996ea3828b0dfc357790ce"), looks := true }, kinds := [], alts := [], laidByText := true, laidKinds := [.data, .data, .data], laidTests := true, laidLooks := .later }
def ScoreBetweenCardSaid : Prop := Claim7.holds Tryz.pinned (.plain (OpenSpec.ofChange scoreBetweenSpec)) scoreBetweenCard

/-- THE TIED CARD OF 'clearwaylaw29.ScoreKeeps'. -/
def scoreKeepsCard : Claim7 := { stood := { row := scoreKeepsRow, standIns := [], harness := (true, "279bd10ab1386c69e0fc126c8775bcbb8dbc74354c996ea3828b0dfc357790ce"), looks := true }, kinds := [], alts := [], laidByText := true, laidKinds := [.data, .data, .data], laidTests := true, laidLooks := .later }
def ScoreKeepsCardSaid : Prop := Claim7.holds Tryz.pinned (.plain (OpenSpec.ofChange scoreKeepsSpec)) scoreKeepsCard

/-- THE TIED CARD OF 'clearwaylaw29.ScoreMixMatches'. -/
def scoreMixMatchesCard : Claim7 := { stood := { row := scoreMixMatchesRow, standIns := [], harness := (true, "279bd10ab1386c69e0fc126c8775bcbb8dbc74354c996ea3828b0dfc357790ce"), looks := true }, kinds := [], alts := [], laidByText := true, laidKinds := [.data, .data, .data], laidTests := true, laidLooks := .later }
def ScoreMixMatchesCardSaid : Prop := Claim7.holds Tryz.pinned (.plain (OpenSpec.ofChange scoreMixMatchesSpec)) scoreMixMatchesCard

/-- THE TIED CARD OF 'clearwaylaw29.ScoreExamples'. -/
def scoreExamplesCard : Claim7 := { stood := { row := scoreExamplesRow, standIns := [], harness := (true, "279bd10ab1386c69e0fc126c8775bcbb8dbc74354c996ea3828b0dfc357790ce"), looks := true }, kinds := [], alts := [], laidByText := true, laidKinds := [.data, .data, .data], laidTests := true, laidLooks := .later }
def ScoreExamplesCardSaid : Prop := Claim7.holds Tryz.pinned (.plain (OpenSpec.ofChange scoreExamplesSpec)) scoreExamplesCard

/-- THE TIED CARD OF 'clearwaylaw29.ScoreMixes'. -/
def scoreMixesCard : Claim7 := { stood := { row := scoreMixesRow, standIns := [], harness := (true, "279bd10ab1386c69e0fc126c8775bcbb8dbc74354c996ea3828b0dfc357790ce"), looks := true }, kinds := [], alts := [], laidByText := true, laidKinds := [.data, .data, .data], laidTests := true, laidLooks := .later }
def ScoreMixesCardSaid : Prop := Claim7.holds Tryz.pinned (.plain (OpenSpec.ofChange scoreMixesSpec)) scoreMixesCard

/-- THE TIED CARD OF 'clearwaylaw29.ScoreEnds'. -/
def scoreEndsCard : Claim7 := { stood := { row := scoreEndsRow, standIns := [], harness := (true, "279bd10ab1386c69e0fc126c8775bcbb8dbc74354c996ea3828b0dfc357790ce"), looks := true }, kinds := [], alts := [], laidByText := true, laidKinds := [.data, .data, .data], laidTests := true, laidLooks := .later }
def ScoreEndsCardSaid : Prop := Claim7.holds Tryz.pinned (.plain (OpenSpec.ofChange scoreEndsSpec)) scoreEndsCard

/-- THE TIED CARD OF 'clearwaylaw26.LookupExamples'. -/
def lookupExamplesCard : Claim7 := { stood := { row := lookupExamplesRow, standIns := [], harness := (true, "279bd10ab1386c69e0fc126c8775bcbb8dbc74354c996ea3828b0dfc357790ce"), looks := true }, kinds := [], alts := [], laidByText := true, laidKinds := [.data, .data, .data], laidTests := true, laidLooks := .later }
def LookupExamplesCardSaid : Prop := Claim7.holds Tryz.pinned (.plain (OpenSpec.ofChange lookupExamplesSpec)) lookupExamplesCard

/-- THE TIED CARD OF 'clearwaylaw25.PackExamples'. -/
def packExamplesCard : Claim7 := { stood := { row := packExamplesRow, standIns := [], harness := (true, "279bd10ab1386c69e0fc126c8775bcbb8dbc74354c996ea3828b0dfc357790ce"), looks := true }, kinds := [], alts := [], laidByText := true, laidKinds := [.data, .data, .data], laidTests := true, laidLooks := .later }
def PackExamplesCardSaid : Prop := Claim7.holds Tryz.pinned (.plain (OpenSpec.ofChange packExamplesSpec)) packExamplesCard

/-- THE SECOND FORM's CARD OF 'clearwaylaw29.ScoreMatches'. -/
def scoreMatchesUptoCard : Claim7 := { stood := { row := scoreMatchesUptoRow, standIns := [], harness := (true, "279bd10ab1386c69e0fc126c8775bcbb8dbc74354c996ea3828b0dfc357790ce"), looks := true }, kinds := [], alts := [], laidByText := true, laidKinds := [.data, .data, .data], laidTests := true, laidLooks := .later }
def ScoreMatchesUptoCardSaid : Prop := Claim7.holds Tryz.pinned (.plain (OpenSpec.upto scoreMatchesSpec)) scoreMatchesUptoCard

/-- THE SECOND FORM's CARD OF 'clearwaylaw29.ScoreExtra'. -/
def scoreExtraUptoCard : Claim7 := { stood := { row := scoreExtraUptoRow, standIns := [], harness := (true, "279bd10ab1386c69e0fc126c8775bcbb8dbc74354c996ea3828b0dfc357790ce"), looks := true }, kinds := [], alts := [], laidByText := true, laidKinds := [.data, .data, .data], laidTests := true, laidLooks := .later }
def ScoreExtraUptoCardSaid : Prop := Claim7.holds Tryz.pinned (.plain (OpenSpec.upto scoreExtraSpec)) scoreExtraUptoCard

/-- THE SECOND FORM's CARD OF 'clearwaylaw29.ScoreBetween'. -/
def scoreBetweenUptoCard : Claim7 := { stood := { row := scoreBetweenUptoRow, standIns := [], harness := (true, "279bd10ab1386c69e0fc126c8775bcbb8dbc74354c996ea3828b0dfc357790ce"), looks := true }, kinds := [], alts := [], laidByText := true, laidKinds := [.data, .data, .data], laidTests := true, laidLooks := .later }
def ScoreBetweenUptoCardSaid : Prop := Claim7.holds Tryz.pinned (.plain (OpenSpec.upto scoreBetweenSpec)) scoreBetweenUptoCard

/-- THE SECOND FORM's CARD OF 'clearwaylaw29.ScoreKeeps'. -/
def scoreKeepsUptoCard : Claim7 := { stood := { row := scoreKeepsUptoRow, standIns := [], harness := (true, "279bd10ab1386c69e0fc126c8775bcbb8dbc74354c996ea3828b0dfc357790ce"), looks := true }, kinds := [], alts := [], laidByText := true, laidKinds := [.data, .data, .data], laidTests := true, laidLooks := .later }
def ScoreKeepsUptoCardSaid : Prop := Claim7.holds Tryz.pinned (.plain (OpenSpec.upto scoreKeepsSpec)) scoreKeepsUptoCard

/-- THE SECOND FORM's CARD OF 'clearwaylaw29.ScoreMixMatches'. -/
def scoreMixMatchesUptoCard : Claim7 := { stood := { row := scoreMixMatchesUptoRow, standIns := [], harness := (true, "279bd10ab1386c69e0fc126c8775bcbb8dbc74354c996ea3828b0dfc357790ce"), looks := true }, kinds := [], alts := [], laidByText := true, laidKinds := [.data, .data, .data], laidTests := true, laidLooks := .later }
def ScoreMixMatchesUptoCardSaid : Prop := Claim7.holds Tryz.pinned (.plain (OpenSpec.upto scoreMixMatchesSpec)) scoreMixMatchesUptoCard

/-- THE SECOND FORM's CARD OF 'clearwaylaw29.ScoreExamples'. -/
def scoreExamplesUptoCard : Claim7 := { stood := { row := scoreExamplesUptoRow, standIns := [], harness := (true, "279bd10ab1386c69e0fc126c8775bcbb8dbc74354c996ea3828b0dfc357790ce"), looks := true }, kinds := [], alts := [], laidByText := true, laidKinds := [.data, .data, .data], laidTests := true, laidLooks := .later }
def ScoreExamplesUptoCardSaid : Prop := Claim7.holds Tryz.pinned (.plain (OpenSpec.upto scoreExamplesSpec)) scoreExamplesUptoCard

/-- THE SECOND FORM's CARD OF 'clearwaylaw29.ScoreMixes'. -/
def scoreMixesUptoCard : Claim7 := { stood := { row := scoreMixesUptoRow, standIns := [], harness := (true, "279bd10ab1386c69e0fc126c8775bcbb8dbc74354c996ea3828b0dfc357790ce"), looks := true }, kinds := [], alts := [], laidByText := true, laidKinds := [.data, .data, .data], laidTests := true, laidLooks := .later }
def ScoreMixesUptoCardSaid : Prop := Claim7.holds Tryz.pinned (.plain (OpenSpec.upto scoreMixesSpec)) scoreMixesUptoCard

/-- THE SECOND FORM's CARD OF 'clearwaylaw29.ScoreEnds'. -/
def scoreEndsUptoCard : Claim7 := { stood := { row := scoreEndsUptoRow, standIns := [], harness := (true, "279bd10ab1386c69e0fc126c8775bcbb8dbc74354c996ea3828b0dfc357790ce"), looks := true }, kinds := [], alts := [], laidByText := true, laidKinds := [.data, .data, .data], laidTests := true, laidLooks := .later }
def ScoreEndsUptoCardSaid : Prop := Claim7.holds Tryz.pinned (.plain (OpenSpec.upto scoreEndsSpec)) scoreEndsUptoCard

/-- THE SECOND FORM's CARD OF 'clearwaylaw26.LookupExamples'. -/
def lookupExamplesUptoCard : Claim7 := { stood := { row := lookupExamplesUptoRow, standIns := [], harness := (true, "279bd10ab1386c69e0fc126c8775bcbb8dbc74354c996ea3828b0dfc357790ce"), looks := true }, kinds := [], alts := [], laidByText := true, laidKinds := [.data, .data, .data], laidTests := true, laidLooks := .later }
def LookupExamplesUptoCardSaid : Prop := Claim7.holds Tryz.pinned (.plain (OpenSpec.upto lookupExamplesSpec)) lookupExamplesUptoCard

/-- THE SECOND FORM's CARD OF 'clearwaylaw25.PackExamples'. -/
def packExamplesUptoCard : Claim7 := { stood := { row := packExamplesUptoRow, standIns := [], harness := (true, "279bd10ab1386c69e0fc126c8775bcbb8dbc74354c996ea3828b0dfc357790ce"), looks := true }, kinds := [], alts := [], laidByText := true, laidKinds := [.data, .data, .data], laidTests := true, laidLooks := .later }
def PackExamplesUptoCardSaid : Prop := Claim7.holds Tryz.pinned (.plain (OpenSpec.upto packExamplesSpec)) packExamplesUptoCard
end Rows
end Go.Proofs.YtdfmdiakjdggbaaGreatDoor

/- ScoreExamples: what the row lists is tied to the program. Conditions: none. By an AI agent. -/
import Derived.SevenTiedAt
import Derived.Test.YtdfmdiakjdggbaaGreatDoorCards
import Derived.Test.YtdfmdiakjdggbaaGreatDoorTie
import Derived.Test.YtdfmdiakjdggbaaGreatDoorBaseA
import Derived.Test.YtdfmdiakjdggbaaGreatDoorBaseB
import Derived.Test.YtdfmdiakjdggbaaGreatDoorBaseC
import Derived.Test.YtdfmdiakjdggbaaGreatDoorBaseD
import Derived.Test.YtdfmdiakjdggbaaGreatDoorBaseE
import Derived.Test.YtdfmdiakjdggbaaGreatDoorBaseF
import Derived.Test.YtdfmdiakjdggbaaGreatDoorBaseG
set_option linter.unusedVariables false
set_option linter.unusedSimpArgs false
set_option linter.unnecessarySimpa false
namespace Go.Proofs.YtdfmdiakjdggbaaGreatDoor
open Go
theorem scoreExamples_c3 : Tryz.prog.funcNamed "clearway/clearwaylaw29.ScoreExamples" = some 8 := by kernel_rfl
theorem scoreExamples_c4 : true = Tryz.prog.looks [] := by kernel_rfl
theorem scoreExamples_c5 : false = Rows.scoreExamplesRow.goesBy Tryz.prog := by kernel_rfl
theorem scoreExamples_c2 : Tryz.prog.mainIs = some (true, "279bd10ab1386c69e0fc126c8775bcbb8dbc74354c996ea3828b0dfc357790ce".toList) := by kernel_rfl
theorem scoreExamples_c1 : Rows.scoreExamplesRow.wfByText (OpenSpec.ofChange Rows.scoreExamplesSpec) = true := by kernel_rfl
theorem scoreExamples_card : Rows.ScoreExamplesCardSaid :=
  Claim7.holds_tied_plain_at .later [] [.data, .data, .data] true (true, "279bd10ab1386c69e0fc126c8775bcbb8dbc74354c996ea3828b0dfc357790ce") true scoreExamples_holds (fun _ h => by cases h) scoreExamples_c1 (fun _ h => by cases h) scoreExamples_row_tie rfl ⟨rfl, rfl⟩ scoreExamples_c2 rfl
    (fun f fn hf hfn => by
      obtain rfl : f = 8 := Option.some.inj (scoreExamples_c3.symm.trans hf) |>.symm
      obtain rfl : fn = Tryz.f8 := (Option.some.inj (Tryz.func8.symm.trans hfn)).symm
      exact ⟨scoreExamples_c4, fun j t ht => by rw [Tryz.params8] at ht; simp at ht⟩)
    scoreExamples_c5
end Go.Proofs.YtdfmdiakjdggbaaGreatDoor

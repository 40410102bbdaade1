/- PackExamples: what the row lists is tied to the program. Conditions: none. By an AI agent. -/
import Derived.SevenTiedAt
import Derived.Test.YtdfmdiakjdggbaaGreatDoorCards
import Derived.Test.YtdfmdiakjdggbaaGreatDoorTie
import Derived.Test.YtdfmdiakjdggbaaGreatDoorBaseA
import Derived.Test.YtdfmdiakjdggbaaGreatDoorBaseB
import Derived.Test.YtdfmdiakjdggbaaGreatDoorBaseC
import Derived.Test.YtdfmdiakjdggbaaGreatDoorBaseD
import Derived.Test.YtdfmdiakjdggbaaGreatDoorBaseE
import Derived.Test.YtdfmdiakjdggbaaGreatDoorBaseF
import Derived.Test.YtdfmdiakjdggbaaGreatDoorBaseG
import Derived.Test.YtdfmdiakjdggbaaGreatDoorBaseH
import Derived.Test.YtdfmdiakjdggbaaGreatDoorBaseI
import Derived.Test.YtdfmdiakjdggbaaGreatDoorBaseJ
import Derived.Test.YtdfmdiakjdggbaaGreatDoorBaseK
set_option linter.unusedVariables false
set_option linter.unusedSimpArgs false
set_option linter.unnecessarySimpa false
namespace Go.Proofs.YtdfmdiakjdggbaaGreatDoor
open Go
theorem packExamples_c3 : Tryz.prog.funcNamed "clearway/clearwaylaw25.PackExamples" = some 12 := by kernel_rfl
theorem packExamples_c4 : true = Tryz.prog.looks [] := by kernel_rfl
theorem packExamples_c5 : false = Rows.packExamplesRow.goesBy Tryz.prog := by kernel_rfl
theorem packExamples_c2 : Tryz.prog.mainIs = some (true, "279bd10ab1386c69e0fc126c8775bcbb8dbc74354c996ea3828b0dfc357790ce".toList) := by kernel_rfl
theorem packExamples_c1 : Rows.packExamplesRow.wfByText (OpenSpec.ofChange Rows.packExamplesSpec) = true := by kernel_rfl
theorem packExamples_card : Rows.PackExamplesCardSaid :=
  Claim7.holds_tied_plain_at .later [] [.data, .data, .data] true (true, "279bd10ab1386c69e0fc126c8775bcbb8dbc74354c996ea3828b0dfc357790ce") true packExamples_holds (fun _ h => by cases h) packExamples_c1 (fun _ h => by cases h) packExamples_row_tie rfl ⟨rfl, rfl⟩ packExamples_c2 rfl
    (fun f fn hf hfn => by
      obtain rfl : f = 12 := Option.some.inj (packExamples_c3.symm.trans hf) |>.symm
      obtain rfl : fn = Tryz.f12 := (Option.some.inj (Tryz.func12.symm.trans hfn)).symm
      exact ⟨packExamples_c4, fun j t ht => by rw [Tryz.params12] at ht; simp at ht⟩)
    packExamples_c5
end Go.Proofs.YtdfmdiakjdggbaaGreatDoor

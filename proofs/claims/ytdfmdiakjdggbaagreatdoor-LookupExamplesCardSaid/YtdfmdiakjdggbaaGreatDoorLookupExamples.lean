/- LookupExamples: what the row lists is tied to the program. Conditions: none. By an AI agent. -/
import Derived.SevenTiedAt
import Derived.Test.YtdfmdiakjdggbaaGreatDoorCards
import Derived.Test.YtdfmdiakjdggbaaGreatDoorTie
import Derived.Test.YtdfmdiakjdggbaaGreatDoorBaseA
import Derived.Test.YtdfmdiakjdggbaaGreatDoorBaseB
import Derived.Test.YtdfmdiakjdggbaaGreatDoorBaseC
import Derived.Test.YtdfmdiakjdggbaaGreatDoorBaseD
import Derived.Test.YtdfmdiakjdggbaaGreatDoorBaseE
import Derived.Test.YtdfmdiakjdggbaaGreatDoorBaseF
import Derived.Test.YtdfmdiakjdggbaaGreatDoorBaseG
import Derived.Test.YtdfmdiakjdggbaaGreatDoorBaseH
import Derived.Test.YtdfmdiakjdggbaaGreatDoorBaseI
set_option linter.unusedVariables false
set_option linter.unusedSimpArgs false
set_option linter.unnecessarySimpa false
namespace Go.Proofs.YtdfmdiakjdggbaaGreatDoor
open Go
theorem lookupExamples_c3 : Tryz.prog.funcNamed "clearway/clearwaylaw26.LookupExamples" = some 11 := by kernel_rfl
theorem lookupExamples_c4 : true = Tryz.prog.looks [] := by kernel_rfl
theorem lookupExamples_c5 : false = Rows.lookupExamplesRow.goesBy Tryz.prog := by kernel_rfl
theorem lookupExamples_c2 : Tryz.prog.mainIs = some (true, "279bd10ab1386c69e0fc126c8775bcbb8dbc74354c996ea3828b0dfc357790ce".toList) := by kernel_rfl
theorem lookupExamples_c1 : Rows.lookupExamplesRow.wfByText (OpenSpec.ofChange Rows.lookupExamplesSpec) = true := by kernel_rfl
theorem lookupExamples_card : Rows.LookupExamplesCardSaid :=
  Claim7.holds_tied_plain_at .later [] [.data, .data, .data] true (true, "279bd10ab1386c69e0fc126c8775bcbb8dbc74354c996ea3828b0dfc357790ce") true lookupExamples_holds (fun _ h => by cases h) lookupExamples_c1 (fun _ h => by cases h) lookupExamples_row_tie rfl ⟨rfl, rfl⟩ lookupExamples_c2 rfl
    (fun f fn hf hfn => by
      obtain rfl : f = 11 := Option.some.inj (lookupExamples_c3.symm.trans hf) |>.symm
      obtain rfl : fn = Tryz.f11 := (Option.some.inj (Tryz.func11.symm.trans hfn)).symm
      exact ⟨lookupExamples_c4, fun j t ht => by rw [Tryz.params11] at ht; simp at ht⟩)
    lookupExamples_c5
end Go.Proofs.YtdfmdiakjdggbaaGreatDoor

/- LookupLeast: what the row lists is tied to the program. Conditions: none. By an AI agent. -/
import Derived.SevenTiedAt
import Derived.Test.YtfijdjigiapnbaaGreatDoorCards
import Derived.Test.YtfijdjigiapnbaaGreatDoorTie
import Derived.Test.YtfijdjigiapnbaaGreatDoorBaseA
import Derived.Test.YtfijdjigiapnbaaGreatDoorBaseB
import Derived.Test.YtfijdjigiapnbaaGreatDoorBaseC
import Derived.Test.YtfijdjigiapnbaaGreatDoorBaseD
import Derived.Test.YtfijdjigiapnbaaGreatDoorBaseE
import Derived.Test.YtfijdjigiapnbaaGreatDoorBaseF
import Derived.Test.YtfijdjigiapnbaaGreatDoorBaseG
import Derived.Test.YtfijdjigiapnbaaGreatDoorBaseH
import Derived.Test.YtfijdjigiapnbaaGreatDoorBaseI
import Derived.Test.YtfijdjigiapnbaaGreatDoorBaseJ
set_option linter.unusedVariables false
set_option linter.unusedSimpArgs false
set_option linter.unnecessarySimpa false
namespace Go.Proofs.YtfijdjigiapnbaaGreatDoor
open Go IntKind
theorem zDs : Tryz.prog.funcNamed "clearway/clearwaylaw26.LookupLeast" = some 4 := by kernel_rfl
theorem zDt : true = Tryz.prog.looks [] := by kernel_rfl
theorem zDz : Tryz.prog.wantsStandIn 46 = false := by kernel_rfl
theorem zEa : Tryz.prog.wantsStandIn 47 = false := by kernel_rfl
theorem zDu : false = Rows.lookupLeastRow.goesBy Tryz.prog := by kernel_rfl
theorem zDr : Tryz.prog.mainIs = some (true, "08a807f8a503a95adf17799ff5edcbc1815a6a4acf55a750bf4901e3c8da0056".toList) := by kernel_rfl
theorem zDq : Rows.lookupLeastRow.wfByText (OpenSpec.ofChange Rows.lookupLeastSpec) = true := by kernel_rfl
theorem lookupLeast_card : Rows.LookupLeastCardSaid :=
  Claim7.holds_tied_plain_at .later [] [.data, .data, .data] true (true, "08a807f8a503a95adf17799ff5edcbc1815a6a4acf55a750bf4901e3c8da0056") true lookupLeast_holds (fun _ h => by cases h) zDq (fun _ h => by cases h) lookupLeast_row_tie rfl ⟨rfl, rfl⟩ zDr rfl
    (fun f fn hf hfn => by
      obtain rfl : f = 4 := Option.some.inj (zDs.symm.trans hf) |>.symm
      obtain rfl : fn = Tryz.f4 := (Option.some.inj (Tryz.func4.symm.trans hfn)).symm
      exact ⟨zDt, fun j t ht => by rw [Tryz.params4] at ht; rcases j with _ | _ | j; (simp at ht; subst ht; exact zDz); (simp at ht; subst ht; exact zEa); simp at ht⟩)
    zDu
end Go.Proofs.YtfijdjigiapnbaaGreatDoor

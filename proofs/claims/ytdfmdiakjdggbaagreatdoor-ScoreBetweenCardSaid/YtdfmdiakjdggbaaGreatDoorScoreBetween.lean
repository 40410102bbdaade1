/- An expected score lies between the least and the greatest score of the advisory at the points of the belief; for a single point it is the score there: what the row lists is tied to the program. Conditions: none. By an AI agent. -/
import Derived.SevenTiedAt
import Derived.Test.YtdfmdiakjdggbaaGreatDoorCards
import Derived.Test.YtdfmdiakjdggbaaGreatDoorTie
import Derived.Test.YtdfmdiakjdggbaaGreatDoorBaseA
import Derived.Test.YtdfmdiakjdggbaaGreatDoorBaseB
import Derived.Test.YtdfmdiakjdggbaaGreatDoorBaseC
import Derived.Test.YtdfmdiakjdggbaaGreatDoorBaseD
import Derived.Test.YtdfmdiakjdggbaaGreatDoorBaseE
import Derived.Test.YtdfmdiakjdggbaaGreatDoorBaseF
import Derived.Test.YtdfmdiakjdggbaaGreatDoorBaseG
import Derived.Test.YtdfmdiakjdggbaaGreatDoorBaseH
import Derived.Test.YtdfmdiakjdggbaaGreatDoorBaseI
set_option linter.unusedVariables false
set_option linter.unusedSimpArgs false
set_option linter.unnecessarySimpa false
namespace Go.Proofs.YtdfmdiakjdggbaaGreatDoor
open Go IntKind
theorem zEz:Tryz.prog.funcNamed "clearway/clearwaylaw29.ScoreBetween" =some 5:=by kernel_rfl
theorem zFa:true=Tryz.prog.looks []:=by kernel_rfl
theorem zFg:Tryz.prog.wantsStandIn 37=false:=by kernel_rfl
theorem zFh:Tryz.prog.wantsStandIn 38=false:=by kernel_rfl
theorem zFb:false=Rows.scoreBetweenRow.goesBy Tryz.prog:=by kernel_rfl
theorem zEy:Tryz.prog.mainIs=some (true, "279bd10ab1386c69e0fc126c8775bcbb8dbc74354c996ea3828b0dfc357790ce".toList):=by kernel_rfl
theorem zEx:Rows.scoreBetweenRow.wfByText (OpenSpec.ofChange Rows.scoreBetweenSpec)=true:=by kernel_rfl
theorem scoreBetween_card:Rows.ScoreBetweenCardSaid:=
  Claim7.holds_tied_plain_at .later [] [.data,.data,.data] true (true, "279bd10ab1386c69e0fc126c8775bcbb8dbc74354c996ea3828b0dfc357790ce") true scoreBetween_holds (fun _ h=>by cases h) zEx (fun _ h=>by cases h) scoreBetween_row_tie rfl ⟨rfl,rfl⟩ zEy rfl
    (fun f fn k e=>by
      obtain rfl:f=5:=Option.some.inj (zEz.symm.trans k) |>.symm
      obtain rfl:fn=Tryz.f5:=(Option.some.inj (Tryz.func5.symm.trans e)).symm;exact⟨zFa,fun j t ht=>by rw[Tryz.params5]at ht;rcases j with _ | _ | j;(simp at ht;subst ht;exact zFg);(simp at ht;subst ht;exact zFh);simp at ht⟩)
    zFb
end Go.Proofs.YtdfmdiakjdggbaaGreatDoor

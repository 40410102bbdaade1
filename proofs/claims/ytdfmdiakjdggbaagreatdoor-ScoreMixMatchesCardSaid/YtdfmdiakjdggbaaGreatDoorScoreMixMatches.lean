/- ScoreMixMatches returns true for every two beliefs and every number, for all arguments that come in: what the row lists is tied to the program. Conditions: none. By an AI agent. -/
import Derived.SevenTiedAt
import Derived.Test.YtdfmdiakjdggbaaGreatDoorCards
import Derived.Test.YtdfmdiakjdggbaaGreatDoorTie
import Derived.Test.YtdfmdiakjdggbaaGreatDoorBaseA
import Derived.Test.YtdfmdiakjdggbaaGreatDoorBaseB
import Derived.Test.YtdfmdiakjdggbaaGreatDoorBaseC
import Derived.Test.YtdfmdiakjdggbaaGreatDoorBaseD
import Derived.Test.YtdfmdiakjdggbaaGreatDoorBaseE
import Derived.Test.YtdfmdiakjdggbaaGreatDoorBaseF
import Derived.Test.YtdfmdiakjdggbaaGreatDoorBaseG
import Derived.Test.YtdfmdiakjdggbaaGreatDoorBaseH
set_option linter.unusedVariables false
set_option linter.unusedSimpArgs false
set_option linter.unnecessarySimpa false
namespace Go.Proofs.YtdfmdiakjdggbaaGreatDoor
open Go IntKind
theorem aV:Tryz.prog.funcNamed "clearway/clearwaylaw29.ScoreMixMatches" =some 7:=by kernel_rfl
theorem aW:true=Tryz.prog.looks []:=by kernel_rfl
theorem zAc:Tryz.prog.wantsStandIn 38=false:=by kernel_rfl
theorem zAd:Tryz.prog.wantsStandIn 38=false:=by kernel_rfl
theorem zAe:Tryz.prog.wantsStandIn 28=false:=by kernel_rfl
theorem aX:false=Rows.scoreMixMatchesRow.goesBy Tryz.prog:=by kernel_rfl
theorem aU:Tryz.prog.mainIs=some (true, "279bd10ab1386c69e0fc126c8775bcbb8dbc74354c996ea3828b0dfc357790ce".toList):=by kernel_rfl
theorem aT:Rows.scoreMixMatchesRow.wfByText (OpenSpec.ofChange Rows.scoreMixMatchesSpec)=true:=by kernel_rfl
theorem scoreMixMatches_card:Rows.ScoreMixMatchesCardSaid:=
  Claim7.holds_tied_plain_at .later [] [.data,.data,.data] true (true, "279bd10ab1386c69e0fc126c8775bcbb8dbc74354c996ea3828b0dfc357790ce") true scoreMixMatches_holds (fun _ h=>by cases h) aT (fun _ h=>by cases h) scoreMixMatches_row_tie rfl ⟨rfl,rfl⟩ aU rfl
    (fun f fn hf hfn=>by
      obtain rfl:f=7:=Option.some.inj (aV.symm.trans hf) |>.symm
      obtain rfl:fn=Tryz.f7:=(Option.some.inj (Tryz.func7.symm.trans hfn)).symm;exact⟨aW,fun j t ht=>by rw[Tryz.params7]at ht;rcases j with _ | _ | _ | j;(simp at ht;subst ht;exact zAc);(simp at ht;subst ht;exact zAd);(simp at ht;subst ht;exact zAe);simp at ht⟩)
    aX
end Go.Proofs.YtdfmdiakjdggbaaGreatDoor

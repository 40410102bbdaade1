/- ScoreExtra returns true for all advisories, cases and numbers: what the row lists is tied to the program. Conditions: none. By an AI agent. -/
import Derived.SevenTiedAt
import Derived.Test.YtdfmdiakjdggbaaGreatDoorCards
import Derived.Test.YtdfmdiakjdggbaaGreatDoorTie
import Derived.Test.YtdfmdiakjdggbaaGreatDoorBaseA
import Derived.Test.YtdfmdiakjdggbaaGreatDoorBaseB
import Derived.Test.YtdfmdiakjdggbaaGreatDoorBaseC
import Derived.Test.YtdfmdiakjdggbaaGreatDoorBaseD
import Derived.Test.YtdfmdiakjdggbaaGreatDoorBaseE
import Derived.Test.YtdfmdiakjdggbaaGreatDoorBaseF
import Derived.Test.YtdfmdiakjdggbaaGreatDoorBaseG
import Derived.Test.YtdfmdiakjdggbaaGreatDoorBaseH
set_option linter.unusedVariables false
set_option linter.unusedSimpArgs false
set_option linter.unnecessarySimpa false
namespace Go.Proofs.YtdfmdiakjdggbaaGreatDoor
open Go IntKind
theorem zGn:Tryz.prog.funcNamed "clearway/clearwaylaw29.ScoreExtra" =some 4:=by kernel_rfl
theorem zGo:true=Tryz.prog.looks []:=by kernel_rfl
theorem zGu:Tryz.prog.wantsStandIn 23=false:=by kernel_rfl
theorem zGv:Tryz.prog.wantsStandIn 37=false:=by kernel_rfl
theorem zGw:Tryz.prog.wantsStandIn 56=false:=by kernel_rfl
theorem zGp:false=Rows.scoreExtraRow.goesBy Tryz.prog:=by kernel_rfl
theorem zGm:Tryz.prog.mainIs=some (true, "279bd10ab1386c69e0fc126c8775bcbb8dbc74354c996ea3828b0dfc357790ce".toList):=by kernel_rfl
theorem zGl:Rows.scoreExtraRow.wfByText (OpenSpec.ofChange Rows.scoreExtraSpec)=true:=by kernel_rfl
theorem scoreExtra_card:Rows.ScoreExtraCardSaid:=
  Claim7.holds_tied_plain_at .later [] [.data,.data,.data] true (true, "279bd10ab1386c69e0fc126c8775bcbb8dbc74354c996ea3828b0dfc357790ce") true scoreExtra_holds (fun _ h=>by cases h) zGl (fun _ h=>by cases h) scoreExtra_row_tie rfl ⟨rfl,rfl⟩ zGm rfl
    (fun f fn hf hfn=>by
      obtain rfl:f=4:=Option.some.inj (zGn.symm.trans hf) |>.symm
      obtain rfl:fn=Tryz.f4:=(Option.some.inj (Tryz.func4.symm.trans hfn)).symm;exact⟨zGo,fun j t ht=>by rw[Tryz.params4]at ht;rcases j with _ | _ | _ | j;(simp at ht;subst ht;exact zGu);(simp at ht;subst ht;exact zGv);(simp at ht;subst ht;exact zGw);simp at ht⟩)
    zGp
end Go.Proofs.YtdfmdiakjdggbaaGreatDoor

/- ScoreEnds returns true for all beliefs and numbers: what the row lists is tied to the program. Conditions: none. By an AI agent. -/
import Derived.SevenTiedAt
import Derived.Test.YtdfmdiakjdggbaaGreatDoorCards
import Derived.Test.YtdfmdiakjdggbaaGreatDoorTie
import Derived.Test.YtdfmdiakjdggbaaGreatDoorBaseA
import Derived.Test.YtdfmdiakjdggbaaGreatDoorBaseB
import Derived.Test.YtdfmdiakjdggbaaGreatDoorBaseC
import Derived.Test.YtdfmdiakjdggbaaGreatDoorBaseD
import Derived.Test.YtdfmdiakjdggbaaGreatDoorBaseE
import Derived.Test.YtdfmdiakjdggbaaGreatDoorBaseF
import Derived.Test.YtdfmdiakjdggbaaGreatDoorBaseG
import Derived.Test.YtdfmdiakjdggbaaGreatDoorBaseH
set_option linter.unusedVariables false
set_option linter.unusedSimpArgs false
set_option linter.unnecessarySimpa false
namespace Go.Proofs.YtdfmdiakjdggbaaGreatDoor
open Go IntKind
theorem zKx:Tryz.prog.funcNamed "clearway/clearwaylaw29.ScoreEnds" =some 10:=by kernel_rfl
theorem zKy:true=Tryz.prog.looks []:=by kernel_rfl
theorem zLe:Tryz.prog.wantsStandIn 38=false:=by kernel_rfl
theorem zLf:Tryz.prog.wantsStandIn 38=false:=by kernel_rfl
theorem zLg:Tryz.prog.wantsStandIn 28=false:=by kernel_rfl
theorem zKz:false=Rows.scoreEndsRow.goesBy Tryz.prog:=by kernel_rfl
theorem zKw:Tryz.prog.mainIs=some (true, "279bd10ab1386c69e0fc126c8775bcbb8dbc74354c996ea3828b0dfc357790ce".toList):=by kernel_rfl
theorem zKv:Rows.scoreEndsRow.wfByText (OpenSpec.ofChange Rows.scoreEndsSpec)=true:=by kernel_rfl
theorem scoreEnds_card:Rows.ScoreEndsCardSaid:=
  Claim7.holds_tied_plain_at .later [] [.data,.data,.data] true (true, "279bd10ab1386c69e0fc126c8775bcbb8dbc74354c996ea3828b0dfc357790ce") true scoreEnds_holds (fun _ h=>by cases h) zKv (fun _ h=>by cases h) scoreEnds_row_tie rfl ⟨rfl,rfl⟩ zKw rfl
    (fun f fn hf hfn=>by
      obtain rfl:f=10:=Option.some.inj (zKx.symm.trans hf) |>.symm
      obtain rfl:fn=Tryz.f10:=(Option.some.inj (Tryz.func10.symm.trans hfn)).symm;exact⟨zKy,fun j t ht=>by rw[Tryz.params10]at ht;rcases j with _ | _ | _ | j;(simp at ht;subst ht;exact zLe);(simp at ht;subst ht;exact zLf);(simp at ht;subst ht;exact zLg);simp at ht⟩)
    zKz
end Go.Proofs.YtdfmdiakjdggbaaGreatDoor

/- The extra cost of keeping an advisory is 0 unless its sense is heard; a greater cost never makes an extra cost smaller; without online costs Totals is Expected: what the row lists is tied to the program. Conditions: none. By an AI agent. -/
import Derived.SevenTiedAt
import Derived.Test.YtdfmdiakjdggbaaGreatDoorCards
import Derived.Test.YtdfmdiakjdggbaaGreatDoorTie
import Derived.Test.YtdfmdiakjdggbaaGreatDoorBaseI
set_option linter.unusedVariables false
set_option linter.unusedSimpArgs false
set_option linter.unnecessarySimpa false
namespace Go.Proofs.YtdfmdiakjdggbaaGreatDoor
open Go IntKind
theorem zJl:Tryz.prog.funcNamed "clearway/clearwaylaw29.ScoreKeeps" =some 6:=by kernel_rfl
theorem zJm:true=Tryz.prog.looks []:=by kernel_rfl
theorem zJs:Tryz.prog.wantsStandIn 37=false:=by kernel_rfl
theorem zJt:Tryz.prog.wantsStandIn 38=false:=by kernel_rfl
theorem zJn:false=Rows.scoreKeepsRow.goesBy Tryz.prog:=by kernel_rfl
theorem zJk:Tryz.prog.mainIs=some (true, "279bd10ab1386c69e0fc126c8775bcbb8dbc74354c996ea3828b0dfc357790ce".toList):=by kernel_rfl
theorem zJj:Rows.scoreKeepsRow.wfByText (OpenSpec.ofChange Rows.scoreKeepsSpec)=true:=by kernel_rfl
theorem scoreKeeps_card:Rows.ScoreKeepsCardSaid:=
  Claim7.holds_tied_plain_at .later [] [.data,.data,.data] true (true, "279bd10ab1386c69e0fc126c8775bcbb8dbc74354c996ea3828b0dfc357790ce") true scoreKeeps_holds (fun _ h=>by cases h) zJj (fun _ h=>by cases h) scoreKeeps_row_tie rfl ⟨rfl,rfl⟩ zJk rfl
    (fun f fn hf hfn=>by
      obtain rfl:f=6:=Option.some.inj (zJl.symm.trans hf) |>.symm
      obtain rfl:fn=Tryz.f6:=(Option.some.inj (Tryz.func6.symm.trans hfn)).symm;exact⟨zJm,fun j t ht=>by rw[Tryz.params6]at ht;rcases j with _ | _ | j;(simp at ht;subst ht;exact zJs);(simp at ht;subst ht;exact zJt);simp at ht⟩)
    zJn
end Go.Proofs.YtdfmdiakjdggbaaGreatDoor

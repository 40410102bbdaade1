/- THE STAGE'S THEOREM: a mixture of beliefs is a belief, unless it has too many points or its probabilities cannot be added; its expected scores are w times those of the first one plus (1 - w) times those of the second one: what the row lists is tied to the program. Conditions: none. By an AI agent. -/
import Derived.SevenTiedAt
import Derived.Test.YtdfmdiakjdggbaaGreatDoorCards
import Derived.Test.YtdfmdiakjdggbaaGreatDoorTie
import Derived.Test.YtdfmdiakjdggbaaGreatDoorBaseI
set_option linter.unusedVariables false
set_option linter.unusedSimpArgs false
set_option linter.unnecessarySimpa false
namespace Go.Proofs.YtdfmdiakjdggbaaGreatDoor
open Go IntKind
theorem zKc:Tryz.prog.funcNamed "clearway/clearwaylaw29.ScoreMixes" =some 9:=by kernel_rfl
theorem zKd:true=Tryz.prog.looks []:=by kernel_rfl
theorem zKj:Tryz.prog.wantsStandIn 37=false:=by kernel_rfl
theorem zKk:Tryz.prog.wantsStandIn 84=false:=by kernel_rfl
theorem zKl:Tryz.prog.wantsStandIn 28=false:=by kernel_rfl
theorem zKe:false=Rows.scoreMixesRow.goesBy Tryz.prog:=by kernel_rfl
theorem zKb:Tryz.prog.mainIs=some (true, "279bd10ab1386c69e0fc126c8775bcbb8dbc74354c996ea3828b0dfc357790ce".toList):=by kernel_rfl
theorem zKa:Rows.scoreMixesRow.wfByText (OpenSpec.ofChange Rows.scoreMixesSpec)=true:=by kernel_rfl
theorem scoreMixes_card:Rows.ScoreMixesCardSaid:=
  Claim7.holds_tied_plain_at .later [] [.data,.data,.data] true (true, "279bd10ab1386c69e0fc126c8775bcbb8dbc74354c996ea3828b0dfc357790ce") true scoreMixes_holds (fun _ h=>by cases h) zKa (fun _ h=>by cases h) scoreMixes_row_tie rfl ⟨rfl,rfl⟩ zKb rfl
    (fun f fn hf hfn=>by
      obtain rfl:f=9:=Option.some.inj (zKc.symm.trans hf) |>.symm
      obtain rfl:fn=Tryz.f9:=(Option.some.inj (Tryz.func9.symm.trans hfn)).symm;exact⟨zKd,fun j t ht=>by rw[Tryz.params9]at ht;rcases j with _ | _ | _ | j;(simp at ht;subst ht;exact zKj);(simp at ht;subst ht;exact zKk);(simp at ht;subst ht;exact zKl);simp at ht⟩)
    zKe
end Go.Proofs.YtdfmdiakjdggbaaGreatDoor

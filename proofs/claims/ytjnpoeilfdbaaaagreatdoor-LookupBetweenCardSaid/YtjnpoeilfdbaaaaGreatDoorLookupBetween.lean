/- LookupBetween returns true for every table and all numbers: what the row lists is tied to the program. Conditions: none. By an AI agent. -/
import Derived.SevenTiedAt
import Derived.Test.YtjnpoeilfdbaaaaGreatDoorCards
import Derived.Test.YtjnpoeilfdbaaaaGreatDoorTie
import Derived.Test.YtjnpoeilfdbaaaaGreatDoorBaseA
import Derived.Test.YtjnpoeilfdbaaaaGreatDoorBaseB
import Derived.Test.YtjnpoeilfdbaaaaGreatDoorBaseC
import Derived.Test.YtjnpoeilfdbaaaaGreatDoorBaseD
import Derived.Test.YtjnpoeilfdbaaaaGreatDoorBaseE
import Derived.Test.YtjnpoeilfdbaaaaGreatDoorBaseF
import Derived.Test.YtjnpoeilfdbaaaaGreatDoorBaseG
import Derived.Test.YtjnpoeilfdbaaaaGreatDoorBaseH
import Derived.Test.YtjnpoeilfdbaaaaGreatDoorBaseI
import Derived.Test.YtjnpoeilfdbaaaaGreatDoorBaseJ
import Derived.Test.YtjnpoeilfdbaaaaGreatDoorBaseK
set_option linter.unusedVariables false
set_option linter.unusedSimpArgs false
set_option linter.unnecessarySimpa false
namespace Go.Proofs.YtjnpoeilfdbaaaaGreatDoor
open Go IntKind
theorem zCm:Tryz.prog.funcNamed "clearway/clearwaylaw26.LookupBetween" =some 4:=by kernel_rfl
theorem zCn:true=Tryz.prog.looks []:=by kernel_rfl
theorem zCt:Tryz.prog.wantsStandIn 33=false:=by kernel_rfl
theorem zCu:Tryz.prog.wantsStandIn 3=false:=by kernel_rfl
theorem zCv:Tryz.prog.wantsStandIn 3=false:=by kernel_rfl
theorem zCw:Tryz.prog.wantsStandIn 3=false:=by kernel_rfl
theorem zCx:Tryz.prog.wantsStandIn 3=false:=by kernel_rfl
theorem zCy:Tryz.prog.wantsStandIn 3=false:=by kernel_rfl
theorem zCo:false=Rows.lookupBetweenRow.goesBy Tryz.prog:=by kernel_rfl
theorem zCl:Tryz.prog.mainIs=some (true, "8dc56d72ab75e1b985d919be32d2ddd5d03ae5d80294a4fc1755be8df9122345".toList):=by kernel_rfl
theorem zCk:Rows.lookupBetweenRow.wfByText (OpenSpec.ofChange Rows.lookupBetweenSpec)=true:=by kernel_rfl
theorem lookupBetween_card:Rows.LookupBetweenCardSaid:=
  Claim7.holds_tied_plain_at .later [] [.data,.data,.data] true (true, "8dc56d72ab75e1b985d919be32d2ddd5d03ae5d80294a4fc1755be8df9122345") true lookupBetween_holds (fun _ h=>by cases h) zCk (fun _ h=>by cases h) lookupBetween_row_tie rfl ⟨rfl,rfl⟩ zCl rfl
    (fun f fn hf hfn=>by
      obtain rfl:f=4:=Option.some.inj (zCm.symm.trans hf) |>.symm
      obtain rfl:fn=Tryz.f4:=(Option.some.inj (Tryz.func4.symm.trans hfn)).symm;exact⟨zCn,fun j t ht=>by rw[Tryz.params4]at ht;rcases j with _ | _ | _ | _ | _ | _ | j;(simp at ht;subst ht;exact zCt);(simp at ht;subst ht;exact zCu);(simp at ht;subst ht;exact zCv);(simp at ht;subst ht;exact zCw);(simp at ht;subst ht;exact zCx);(simp at ht;subst ht;exact zCy);simp at ht⟩)
    zCo
end Go.Proofs.YtjnpoeilfdbaaaaGreatDoor

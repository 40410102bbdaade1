/- LookupVertices returns true for every table and all numbers: what the row lists is tied to the program. Conditions: none. By an AI agent. -/
import Derived.SevenTiedAt
import Derived.Test.YtjnpoeilfdbaaaaGreatDoorCards
import Derived.Test.YtjnpoeilfdbaaaaGreatDoorTie
import Derived.Test.YtjnpoeilfdbaaaaGreatDoorBaseK
set_option linter.unusedVariables false
set_option linter.unusedSimpArgs false
set_option linter.unnecessarySimpa false
namespace Go.Proofs.YtjnpoeilfdbaaaaGreatDoor
open Go IntKind
theorem zAy:Tryz.prog.funcNamed "clearway/clearwaylaw26.LookupVertices" =some 3:=by kernel_rfl
theorem zAz:true=Tryz.prog.looks []:=by kernel_rfl
theorem zBf:Tryz.prog.wantsStandIn 33=false:=by kernel_rfl
theorem zBg:Tryz.prog.wantsStandIn 3=false:=by kernel_rfl
theorem zBh:Tryz.prog.wantsStandIn 3=false:=by kernel_rfl
theorem zBi:Tryz.prog.wantsStandIn 3=false:=by kernel_rfl
theorem zBj:Tryz.prog.wantsStandIn 3=false:=by kernel_rfl
theorem zBk:Tryz.prog.wantsStandIn 3=false:=by kernel_rfl
theorem zBa:false=Rows.lookupVerticesRow.goesBy Tryz.prog:=by kernel_rfl
theorem zAx:Tryz.prog.mainIs=some (true, "8dc56d72ab75e1b985d919be32d2ddd5d03ae5d80294a4fc1755be8df9122345".toList):=by kernel_rfl
theorem zAw:Rows.lookupVerticesRow.wfByText (OpenSpec.ofChange Rows.lookupVerticesSpec)=true:=by kernel_rfl
theorem lookupVertices_card:Rows.LookupVerticesCardSaid:=
  Claim7.holds_tied_plain_at .later [] [.data,.data,.data] true (true, "8dc56d72ab75e1b985d919be32d2ddd5d03ae5d80294a4fc1755be8df9122345") true lookupVertices_holds (fun _ h=>by cases h) zAw (fun _ h=>by cases h) lookupVertices_row_tie rfl ⟨rfl,rfl⟩ zAx rfl
    (fun f fn hf hfn=>by
      obtain rfl:f=3:=Option.some.inj (zAy.symm.trans hf) |>.symm
      obtain rfl:fn=Tryz.f3:=(Option.some.inj (Tryz.func3.symm.trans hfn)).symm;exact⟨zAz,fun j t ht=>by rw[Tryz.params3]at ht;rcases j with _ | _ | _ | _ | _ | _ | j;(simp at ht;subst ht;exact zBf);(simp at ht;subst ht;exact zBg);(simp at ht;subst ht;exact zBh);(simp at ht;subst ht;exact zBi);(simp at ht;subst ht;exact zBj);(simp at ht;subst ht;exact zBk);simp at ht⟩)
    zBa
end Go.Proofs.YtjnpoeilfdbaaaaGreatDoor

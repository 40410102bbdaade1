/-
  No cell of these rows narrows 'for every input' (looked for: loops, veiled, ifaces, maps, wideKeys, modest, calm, conditions, laid).
  DERIVED. THE GIVEN ROWS OF THIS SEAT. 3 by the template 'for every input the law returns true; each argument reads behind the call as it read before'; 0 by the template 'total and deterministic' (their statements: YtoocgllbbihoaaaGreatTotals.lean).
  GIVEN WITH THE SEED: the statements are not yours to turn. If you find one false, say at which input.
  Laid BY PROGRAM, IN A SANDBOX (cutbox-rows.mjs): the forced cells as the released guide's own fill.sh prints them over the translation 8f02a7cb75868280… (all of the seat's roots in one cut). By AI agents, Wed Nov 11 2026. No macro, syntax, notation, axiom, sorry.
-/
import Derived.Test.YtoocgllbbihoaaaGreatChecked
import GoSem.Claim
import GoSem.ClaimJoined
import GoSem.ClaimMapViews
import Derived.JoinedTies
import Derived.KernelRfl
namespace Go.Proofs.YtoocgllbbihoaaaGreat
/- THE CELL 'sum', in the pinned program and in every row, IS THE sha256 OF THE DUMP (.gsa) THAT YtoocgllbbihoaaaGreatProg.lean LOADS. Nothing in Lean hashes anything: it is a label: what it is worth is what the hold of that sum in a sandbox is worth. -/
noncomputable def Tryz.pinned : Pinned := { name := "ytoocgllbbihoaaagreat", sum := "8f02a7cb758682802d3eb9f066cfff19f56d8f4eec814c86268e424e54721a20", checked := Tryz.checked }
namespace Rows
def none {H : Type} : Left H := { results := [], args := [] }

/-- 'clearwaylaw21.MdpMatches': WHATEVER THE INPUT: true; the input reads as it did. -/
def mdpMatchesSpec : ChangeSpec := { name := "mdpMatches", fn := fun _ => fun
  | [d1, d2, d3, d4, d5] => { results := [.lit (.bool true)], args := [d1, d2, d3, d4, d5] }
  | _ => none }
def mdpMatchesRow : OpenClaim := { program := "ytoocgllbbihoaaagreat", sum := "8f02a7cb758682802d3eb9f066cfff19f56d8f4eec814c86268e424e54721a20", func := "clearway/clearwaylaw21.MdpMatches", spec := "mdpMatches", unfollowed := true, recurses := true, apart := false }
def MdpMatchesSaid : Prop := mdpMatchesRow.holds Tryz.pinned (OpenSpec.ofChange mdpMatchesSpec)

/-- ITS FALSE NEIGHBOUR: 'it returns false'. Refute it at one input. -/
def mdpMatchesWrong : ChangeSpec := { name := "mdpMatches", fn := fun _ => fun
  | [d1, d2, d3, d4, d5] => { results := [.lit (.bool false)], args := [d1, d2, d3, d4, d5] }
  | _ => none }
def MdpMatchesWrongFalsely : Prop := mdpMatchesRow.holds Tryz.pinned (OpenSpec.ofChange mdpMatchesWrong)

/-- 'clearwaylaw21.MdpLists': WHATEVER THE INPUT: true; the input reads as it did. -/
def mdpListsSpec : ChangeSpec := { name := "mdpLists", fn := fun _ => fun
  | [d1, d2, d3, d4] => { results := [.lit (.bool true)], args := [d1, d2, d3, d4] }
  | _ => none }
def mdpListsRow : OpenClaim := { program := "ytoocgllbbihoaaagreat", sum := "8f02a7cb758682802d3eb9f066cfff19f56d8f4eec814c86268e424e54721a20", func := "clearway/clearwaylaw21.MdpLists", spec := "mdpLists", unfollowed := true, recurses := true, apart := false }
def MdpListsSaid : Prop := mdpListsRow.holds Tryz.pinned (OpenSpec.ofChange mdpListsSpec)

/-- ITS FALSE NEIGHBOUR: 'it returns false'. Refute it at one input. -/
def mdpListsWrong : ChangeSpec := { name := "mdpLists", fn := fun _ => fun
  | [d1, d2, d3, d4] => { results := [.lit (.bool false)], args := [d1, d2, d3, d4] }
  | _ => none }
def MdpListsWrongFalsely : Prop := mdpListsRow.holds Tryz.pinned (OpenSpec.ofChange mdpListsWrong)

/-- 'clearwaylaw21.MdpExamples': WHATEVER THE INPUT: true; the input reads as it did. -/
def mdpExamplesSpec : ChangeSpec := { name := "mdpExamples", fn := fun _ => fun
  | [] => { results := [.lit (.bool true)], args := [] }
  | _ => none }
def mdpExamplesRow : OpenClaim := { program := "ytoocgllbbihoaaagreat", sum := "8f02a7cb758682802d3eb9f066cfff19f56d8f4eec814c86268e424e54721a20", func := "clearway/clearwaylaw21.MdpExamples", spec := "mdpExamples", unfollowed := true, recurses := true, apart := false }
def MdpExamplesSaid : Prop := mdpExamplesRow.holds Tryz.pinned (OpenSpec.ofChange mdpExamplesSpec)

/-- ITS FALSE NEIGHBOUR: 'it returns false'. Refute it at one input. -/
def mdpExamplesWrong : ChangeSpec := { name := "mdpExamples", fn := fun _ => fun
  | [] => { results := [.lit (.bool false)], args := [] }
  | _ => none }
def MdpExamplesWrongFalsely : Prop := mdpExamplesRow.holds Tryz.pinned (OpenSpec.ofChange mdpExamplesWrong)

/- THE SECOND FORM. 'bulk': how many values and letters a reading holds, each counted each time it is reached (what is shared counts as often as it is met; a slice's spare places count too). A statement '..UptoSaid' is the law's where the arguments, and the package variables that the reading takes, are together of bulk at most 1048576: NARROWER than '..Said'. Prove '..Said' where nothing that the law and all that it calls make is longer than what came in: it says more and counts as full. Else prove '..UptoSaid'. A law counts once. -/
mutual
def uptoBulk {H : Type} : DataW H → Nat
  | .lit (.string bytes) => bytes.length + 1
  | .lit _ => 1
  | .nil => 1
  | .ptr d => uptoBulk d + 1
  | .slice elems spare => uptoBulkAll elems + uptoBulkAll spare + 1
  | .agg parts => uptoBulkAll parts + 1
  | .iface _ d => uptoBulk d + 1
  | .map entries => uptoBulkEntries entries + 1
  | .held _ => 1
def uptoBulkAll {H : Type} : List (DataW H) → Nat
  | [] => 0
  | d :: r => uptoBulk d + uptoBulkAll r
def uptoBulkEntries {H : Type} : List (Lit × DataW H) → Nat
  | [] => 0
  | x :: r => uptoBulkEntry x + uptoBulkEntries r
def uptoBulkEntry {H : Type} : Lit × DataW H → Nat
  | (.string bytes, d) => bytes.length + uptoBulk d + 1
  | (_, d) => uptoBulk d + 1
 end
def uptoSmall : (H : Type) → List (DataW H) → Bool := fun _ ds => decide (uptoBulkAll ds ≤ 1048576)
def OpenSpec.upto (s : _root_.Go.ChangeSpec) : _root_.Go.OpenSpec := { _root_.Go.OpenSpec.ofChange s with cond := some uptoSmall }

/-- 'clearwaylaw21.MdpMatches', WHERE WHAT IT READS IS OF BULK AT MOST 1048576: true; the input reads as it did. -/
def mdpMatchesUptoRow : OpenClaim := { program := "ytoocgllbbihoaaagreat", sum := "8f02a7cb758682802d3eb9f066cfff19f56d8f4eec814c86268e424e54721a20", func := "clearway/clearwaylaw21.MdpMatches", spec := "mdpMatches", unfollowed := true, recurses := true, apart := false, narrowed := true }
def MdpMatchesUptoSaid : Prop := mdpMatchesUptoRow.holds Tryz.pinned (OpenSpec.upto mdpMatchesSpec)

/-- 'clearwaylaw21.MdpLists', WHERE WHAT IT READS IS OF BULK AT MOST 1048576: true; the input reads as it did. -/
def mdpListsUptoRow : OpenClaim := { program := "ytoocgllbbihoaaagreat", sum := "8f02a7cb758682802d3eb9f066cfff19f56d8f4eec814c86268e424e54721a20", func := "clearway/clearwaylaw21.MdpLists", spec := "mdpLists", unfollowed := true, recurses := true, apart := false, narrowed := true }
def MdpListsUptoSaid : Prop := mdpListsUptoRow.holds Tryz.pinned (OpenSpec.upto mdpListsSpec)

/-- 'clearwaylaw21.MdpExamples', WHERE WHAT IT READS IS OF BULK AT MOST 1048576: true; the input reads as it did. -/
def mdpExamplesUptoRow : OpenClaim := { program := "ytoocgllbbihoaaagreat", sum := "8f02a7cb758682802d3eb9f066cfff19f56d8f4eec814c86268e424e54721a20", func := "clearway/clearwaylaw21.MdpExamples", spec := "mdpExamples", unfollowed := true, recurses := true, apart := false, narrowed := true }
def MdpExamplesUptoSaid : Prop := mdpExamplesUptoRow.holds Tryz.pinned (OpenSpec.upto mdpExamplesSpec)

end Rows
end Go.Proofs.YtoocgllbbihoaaaGreat

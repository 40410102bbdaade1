/-
  No cell of these rows narrows 'for every input' (looked for: loops, veiled, ifaces, maps, wideKeys, modest, calm, conditions, laid).
  DERIVED. THE GIVEN ROWS OF THIS SEAT. 4 by the template 'for every input the law returns true; each argument reads behind the call as it read before'; 0 by the template 'total and deterministic' (their statements: YtoocgllbbihoaaaTotals.lean).
  GIVEN WITH THE SEED: the statements are not yours to turn. If you find one false, say at which input.
  Laid BY PROGRAM, IN A SANDBOX (cutbox-rows.mjs): the forced cells as the released guide's own fill.sh prints them over the translation 96f317d411907ef6… (all of the seat's roots in one cut). By AI agents, Wed Nov 11 2026. No macro, syntax, notation, axiom, sorry.
-/
import Derived.Test.YtoocgllbbihoaaaChecked
import GoSem.Claim
import GoSem.ClaimJoined
import GoSem.ClaimMapViews
import Derived.JoinedTies
import Derived.KernelRfl
namespace Go.Proofs.Ytoocgllbbihoaaa
/- THE CELL 'sum', in the pinned program and in every row, IS THE sha256 OF THE DUMP (.gsa) THAT YtoocgllbbihoaaaProg.lean LOADS. Nothing in Lean hashes anything: it is a label: what it is worth is what the hold of that sum in a sandbox is worth. -/
noncomputable def Try.pinned : Pinned := { name := "ytoocgllbbihoaaa", sum := "96f317d411907ef6be714d0256b2d195ba16d1e14dc258237750297194ac9808", checked := Try.checked }
namespace Rows
def none {H : Type} : Left H := { results := [], args := [] }

/-- 'clearwaylaw21.MdpGreedy': WHATEVER THE INPUT: true; the input reads as it did. -/
def mdpGreedySpec : ChangeSpec := { name := "mdpGreedy", fn := fun _ => fun
  | [d1, d2, d3] => { results := [.lit (.bool true)], args := [d1, d2, d3] }
  | _ => none }
def mdpGreedyRow : OpenClaim := { program := "ytoocgllbbihoaaa", sum := "96f317d411907ef6be714d0256b2d195ba16d1e14dc258237750297194ac9808", func := "clearway/clearwaylaw21.MdpGreedy", spec := "mdpGreedy", unfollowed := true, recurses := true, apart := false }
def MdpGreedySaid : Prop := mdpGreedyRow.holds Try.pinned (OpenSpec.ofChange mdpGreedySpec)

/-- ITS FALSE NEIGHBOUR: 'it returns false'. Refute it at one input. -/
def mdpGreedyWrong : ChangeSpec := { name := "mdpGreedy", fn := fun _ => fun
  | [d1, d2, d3] => { results := [.lit (.bool false)], args := [d1, d2, d3] }
  | _ => none }
def MdpGreedyWrongFalsely : Prop := mdpGreedyRow.holds Try.pinned (OpenSpec.ofChange mdpGreedyWrong)

/-- 'clearwaylaw21.MdpShifts': WHATEVER THE INPUT: true; the input reads as it did. -/
def mdpShiftsSpec : ChangeSpec := { name := "mdpShifts", fn := fun _ => fun
  | [d1, d2, d3] => { results := [.lit (.bool true)], args := [d1, d2, d3] }
  | _ => none }
def mdpShiftsRow : OpenClaim := { program := "ytoocgllbbihoaaa", sum := "96f317d411907ef6be714d0256b2d195ba16d1e14dc258237750297194ac9808", func := "clearway/clearwaylaw21.MdpShifts", spec := "mdpShifts", unfollowed := true, recurses := true, apart := false }
def MdpShiftsSaid : Prop := mdpShiftsRow.holds Try.pinned (OpenSpec.ofChange mdpShiftsSpec)

/-- ITS FALSE NEIGHBOUR: 'it returns false'. Refute it at one input. -/
def mdpShiftsWrong : ChangeSpec := { name := "mdpShifts", fn := fun _ => fun
  | [d1, d2, d3] => { results := [.lit (.bool false)], args := [d1, d2, d3] }
  | _ => none }
def MdpShiftsWrongFalsely : Prop := mdpShiftsRow.holds Try.pinned (OpenSpec.ofChange mdpShiftsWrong)

/-- 'clearwaylaw21.MdpReaches': WHATEVER THE INPUT: true; the input reads as it did. -/
def mdpReachesSpec : ChangeSpec := { name := "mdpReaches", fn := fun _ => fun
  | [d1, d2, d3, d4] => { results := [.lit (.bool true)], args := [d1, d2, d3, d4] }
  | _ => none }
def mdpReachesRow : OpenClaim := { program := "ytoocgllbbihoaaa", sum := "96f317d411907ef6be714d0256b2d195ba16d1e14dc258237750297194ac9808", func := "clearway/clearwaylaw21.MdpReaches", spec := "mdpReaches", unfollowed := true, recurses := true, apart := false }
def MdpReachesSaid : Prop := mdpReachesRow.holds Try.pinned (OpenSpec.ofChange mdpReachesSpec)

/-- ITS FALSE NEIGHBOUR: 'it returns false'. Refute it at one input. -/
def mdpReachesWrong : ChangeSpec := { name := "mdpReaches", fn := fun _ => fun
  | [d1, d2, d3, d4] => { results := [.lit (.bool false)], args := [d1, d2, d3, d4] }
  | _ => none }
def MdpReachesWrongFalsely : Prop := mdpReachesRow.holds Try.pinned (OpenSpec.ofChange mdpReachesWrong)

/-- 'clearwaylaw21.MdpContracts': WHATEVER THE INPUT: true; the input reads as it did. -/
def mdpContractsSpec : ChangeSpec := { name := "mdpContracts", fn := fun _ => fun
  | [d1, d2, d3] => { results := [.lit (.bool true)], args := [d1, d2, d3] }
  | _ => none }
def mdpContractsRow : OpenClaim := { program := "ytoocgllbbihoaaa", sum := "96f317d411907ef6be714d0256b2d195ba16d1e14dc258237750297194ac9808", func := "clearway/clearwaylaw21.MdpContracts", spec := "mdpContracts", unfollowed := true, recurses := true, apart := false }
def MdpContractsSaid : Prop := mdpContractsRow.holds Try.pinned (OpenSpec.ofChange mdpContractsSpec)

/-- ITS FALSE NEIGHBOUR: 'it returns false'. Refute it at one input. -/
def mdpContractsWrong : ChangeSpec := { name := "mdpContracts", fn := fun _ => fun
  | [d1, d2, d3] => { results := [.lit (.bool false)], args := [d1, d2, d3] }
  | _ => none }
def MdpContractsWrongFalsely : Prop := mdpContractsRow.holds Try.pinned (OpenSpec.ofChange mdpContractsWrong)

/- THE SECOND FORM. 'bulk': how many values and letters a reading holds, each counted each time it is reached (what is shared counts as often as it is met; a slice's spare places count too). A statement '..UptoSaid' is the law's where the arguments, and the package variables that the reading takes, are together of bulk at most 1048576: NARROWER than '..Said'. Prove '..Said' where nothing that the law and all that it calls make is longer than what came in: it says more and counts as full. Else prove '..UptoSaid'. A law counts once. -/
mutual
def uptoBulk {H : Type} : DataW H → Nat
  | .lit (.string bytes) => bytes.length + 1
  | .lit _ => 1
  | .nil => 1
  | .ptr d => uptoBulk d + 1
  | .slice elems spare => uptoBulkAll elems + uptoBulkAll spare + 1
  | .agg parts => uptoBulkAll parts + 1
  | .iface _ d => uptoBulk d + 1
  | .map entries => uptoBulkEntries entries + 1
  | .held _ => 1
def uptoBulkAll {H : Type} : List (DataW H) → Nat
  | [] => 0
  | d :: r => uptoBulk d + uptoBulkAll r
def uptoBulkEntries {H : Type} : List (Lit × DataW H) → Nat
  | [] => 0
  | x :: r => uptoBulkEntry x + uptoBulkEntries r
def uptoBulkEntry {H : Type} : Lit × DataW H → Nat
  | (.string bytes, d) => bytes.length + uptoBulk d + 1
  | (_, d) => uptoBulk d + 1
 end
def uptoSmall : (H : Type) → List (DataW H) → Bool := fun _ ds => decide (uptoBulkAll ds ≤ 1048576)
def OpenSpec.upto (s : _root_.Go.ChangeSpec) : _root_.Go.OpenSpec := { _root_.Go.OpenSpec.ofChange s with cond := some uptoSmall }

/-- 'clearwaylaw21.MdpGreedy', WHERE WHAT IT READS IS OF BULK AT MOST 1048576: true; the input reads as it did. -/
def mdpGreedyUptoRow : OpenClaim := { program := "ytoocgllbbihoaaa", sum := "96f317d411907ef6be714d0256b2d195ba16d1e14dc258237750297194ac9808", func := "clearway/clearwaylaw21.MdpGreedy", spec := "mdpGreedy", unfollowed := true, recurses := true, apart := false, narrowed := true }
def MdpGreedyUptoSaid : Prop := mdpGreedyUptoRow.holds Try.pinned (OpenSpec.upto mdpGreedySpec)

/-- 'clearwaylaw21.MdpShifts', WHERE WHAT IT READS IS OF BULK AT MOST 1048576: true; the input reads as it did. -/
def mdpShiftsUptoRow : OpenClaim := { program := "ytoocgllbbihoaaa", sum := "96f317d411907ef6be714d0256b2d195ba16d1e14dc258237750297194ac9808", func := "clearway/clearwaylaw21.MdpShifts", spec := "mdpShifts", unfollowed := true, recurses := true, apart := false, narrowed := true }
def MdpShiftsUptoSaid : Prop := mdpShiftsUptoRow.holds Try.pinned (OpenSpec.upto mdpShiftsSpec)

/-- 'clearwaylaw21.MdpReaches', WHERE WHAT IT READS IS OF BULK AT MOST 1048576: true; the input reads as it did. -/
def mdpReachesUptoRow : OpenClaim := { program := "ytoocgllbbihoaaa", sum := "96f317d411907ef6be714d0256b2d195ba16d1e14dc258237750297194ac9808", func := "clearway/clearwaylaw21.MdpReaches", spec := "mdpReaches", unfollowed := true, recurses := true, apart := false, narrowed := true }
def MdpReachesUptoSaid : Prop := mdpReachesUptoRow.holds Try.pinned (OpenSpec.upto mdpReachesSpec)

/-- 'clearwaylaw21.MdpContracts', WHERE WHAT IT READS IS OF BULK AT MOST 1048576: true; the input reads as it did. -/
def mdpContractsUptoRow : OpenClaim := { program := "ytoocgllbbihoaaa", sum := "96f317d411907ef6be714d0256b2d195ba16d1e14dc258237750297194ac9808", func := "clearway/clearwaylaw21.MdpContracts", spec := "mdpContracts", unfollowed := true, recurses := true, apart := false, narrowed := true }
def MdpContractsUptoSaid : Prop := mdpContractsUptoRow.holds Try.pinned (OpenSpec.upto mdpContractsSpec)

end Rows
end Go.Proofs.Ytoocgllbbihoaaa

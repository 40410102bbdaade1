/-
  No cell of these rows narrows 'for every input' (looked for: loops, veiled, ifaces, maps, wideKeys, modest, calm, conditions, laid).
  DERIVED. THE GIVEN ROWS OF THIS SEAT. 3 by the template 'for every input the law returns true; each argument reads behind the call as it read before'; 0 by the template 'total and deterministic' (their statements: YtjnbipmlmafahaaGreatTotals.lean).
  GIVEN WITH THE SEED: the statements are not yours to turn. If you find one false, say at which input.
  Laid BY PROGRAM, IN A SANDBOX (cutbox-rows.mjs): the forced cells as the released guide's own fill.sh prints them over the translation 6e7137609dabc8cd… (all of the seat's roots in one cut). By AI agents, Wed Nov 11 2026. No macro, syntax, notation, axiom, sorry.
-/
import Derived.Test.YtjnbipmlmafahaaGreatChecked
import GoSem.Claim
import GoSem.ClaimJoined
import GoSem.ClaimMapViews
import Derived.JoinedTies
import Derived.KernelRfl
namespace Go.Proofs.YtjnbipmlmafahaaGreat
/- THE CELL 'sum', in the pinned program and in every row, IS THE sha256 OF THE DUMP (.gsa) THAT YtjnbipmlmafahaaGreatProg.lean LOADS. Nothing in Lean hashes anything: it is a label: what it is worth is what the hold of that sum in a sandbox is worth. -/
noncomputable def Tryz.pinned : Pinned := { name := "ytjnbipmlmafahaagreat", sum := "6e7137609dabc8cd0a355b86f7532b804d29e880f703705f28fe833061b83bba", checked := Tryz.checked }
namespace Rows
def none {H : Type} : Left H := { results := [], args := [] }

/-- 'clearwaylaw24.DynamicsMatches': WHATEVER THE INPUT: true; the input reads as it did. -/
def dynamicsMatchesSpec : ChangeSpec := { name := "dynamicsMatches", fn := fun _ => fun
  | [d1, d2, d3, d4, d5, d6] => { results := [.lit (.bool true)], args := [d1, d2, d3, d4, d5, d6] }
  | _ => none }
def dynamicsMatchesRow : OpenClaim := { program := "ytjnbipmlmafahaagreat", sum := "6e7137609dabc8cd0a355b86f7532b804d29e880f703705f28fe833061b83bba", func := "clearway/clearwaylaw24.DynamicsMatches", spec := "dynamicsMatches", unfollowed := true, recurses := true, apart := false }
def DynamicsMatchesSaid : Prop := dynamicsMatchesRow.holds Tryz.pinned (OpenSpec.ofChange dynamicsMatchesSpec)

/-- ITS FALSE NEIGHBOUR: 'it returns false'. Refute it at one input. -/
def dynamicsMatchesWrong : ChangeSpec := { name := "dynamicsMatches", fn := fun _ => fun
  | [d1, d2, d3, d4, d5, d6] => { results := [.lit (.bool false)], args := [d1, d2, d3, d4, d5, d6] }
  | _ => none }
def DynamicsMatchesWrongFalsely : Prop := dynamicsMatchesRow.holds Tryz.pinned (OpenSpec.ofChange dynamicsMatchesWrong)

/-- 'clearwaylaw24.DynamicsBuilds': WHATEVER THE INPUT: true; the input reads as it did. -/
def dynamicsBuildsSpec : ChangeSpec := { name := "dynamicsBuilds", fn := fun _ => fun
  | [d] => { results := [.lit (.bool true)], args := [d] }
  | _ => none }
def dynamicsBuildsRow : OpenClaim := { program := "ytjnbipmlmafahaagreat", sum := "6e7137609dabc8cd0a355b86f7532b804d29e880f703705f28fe833061b83bba", func := "clearway/clearwaylaw24.DynamicsBuilds", spec := "dynamicsBuilds", unfollowed := true, recurses := true, apart := false }
def DynamicsBuildsSaid : Prop := dynamicsBuildsRow.holds Tryz.pinned (OpenSpec.ofChange dynamicsBuildsSpec)

/-- ITS FALSE NEIGHBOUR: 'it returns false'. Refute it at one input. -/
def dynamicsBuildsWrong : ChangeSpec := { name := "dynamicsBuilds", fn := fun _ => fun
  | [d] => { results := [.lit (.bool false)], args := [d] }
  | _ => none }
def DynamicsBuildsWrongFalsely : Prop := dynamicsBuildsRow.holds Tryz.pinned (OpenSpec.ofChange dynamicsBuildsWrong)

/-- 'clearwaylaw24.DynamicsValid': WHATEVER THE INPUT: true; the input reads as it did. -/
def dynamicsValidSpec : ChangeSpec := { name := "dynamicsValid", fn := fun _ => fun
  | [d1, d2, d3] => { results := [.lit (.bool true)], args := [d1, d2, d3] }
  | _ => none }
def dynamicsValidRow : OpenClaim := { program := "ytjnbipmlmafahaagreat", sum := "6e7137609dabc8cd0a355b86f7532b804d29e880f703705f28fe833061b83bba", func := "clearway/clearwaylaw24.DynamicsValid", spec := "dynamicsValid", unfollowed := true, recurses := true, apart := false }
def DynamicsValidSaid : Prop := dynamicsValidRow.holds Tryz.pinned (OpenSpec.ofChange dynamicsValidSpec)

/-- ITS FALSE NEIGHBOUR: 'it returns false'. Refute it at one input. -/
def dynamicsValidWrong : ChangeSpec := { name := "dynamicsValid", fn := fun _ => fun
  | [d1, d2, d3] => { results := [.lit (.bool false)], args := [d1, d2, d3] }
  | _ => none }
def DynamicsValidWrongFalsely : Prop := dynamicsValidRow.holds Tryz.pinned (OpenSpec.ofChange dynamicsValidWrong)

/- THE SECOND FORM. 'bulk': how many values and letters a reading holds, each counted each time it is reached (what is shared counts as often as it is met; a slice's spare places count too). A statement '..UptoSaid' is the law's where the arguments, and the package variables that the reading takes, are together of bulk at most 1048576: NARROWER than '..Said'. Prove '..Said' where nothing that the law and all that it calls make is longer than what came in: it says more and counts as full. Else prove '..UptoSaid'. A law counts once. -/
mutual
def uptoBulk {H : Type} : DataW H → Nat
  | .lit (.string bytes) => bytes.length + 1
  | .lit _ => 1
  | .nil => 1
  | .ptr d => uptoBulk d + 1
  | .slice elems spare => uptoBulkAll elems + uptoBulkAll spare + 1
  | .agg parts => uptoBulkAll parts + 1
  | .iface _ d => uptoBulk d + 1
  | .map entries => uptoBulkEntries entries + 1
  | .held _ => 1
def uptoBulkAll {H : Type} : List (DataW H) → Nat
  | [] => 0
  | d :: r => uptoBulk d + uptoBulkAll r
def uptoBulkEntries {H : Type} : List (Lit × DataW H) → Nat
  | [] => 0
  | x :: r => uptoBulkEntry x + uptoBulkEntries r
def uptoBulkEntry {H : Type} : Lit × DataW H → Nat
  | (.string bytes, d) => bytes.length + uptoBulk d + 1
  | (_, d) => uptoBulk d + 1
 end
def uptoSmall : (H : Type) → List (DataW H) → Bool := fun _ ds => decide (uptoBulkAll ds ≤ 1048576)
def OpenSpec.upto (s : _root_.Go.ChangeSpec) : _root_.Go.OpenSpec := { _root_.Go.OpenSpec.ofChange s with cond := some uptoSmall }

/-- 'clearwaylaw24.DynamicsMatches', WHERE WHAT IT READS IS OF BULK AT MOST 1048576: true; the input reads as it did. -/
def dynamicsMatchesUptoRow : OpenClaim := { program := "ytjnbipmlmafahaagreat", sum := "6e7137609dabc8cd0a355b86f7532b804d29e880f703705f28fe833061b83bba", func := "clearway/clearwaylaw24.DynamicsMatches", spec := "dynamicsMatches", unfollowed := true, recurses := true, apart := false, narrowed := true }
def DynamicsMatchesUptoSaid : Prop := dynamicsMatchesUptoRow.holds Tryz.pinned (OpenSpec.upto dynamicsMatchesSpec)

/-- 'clearwaylaw24.DynamicsBuilds', WHERE WHAT IT READS IS OF BULK AT MOST 1048576: true; the input reads as it did. -/
def dynamicsBuildsUptoRow : OpenClaim := { program := "ytjnbipmlmafahaagreat", sum := "6e7137609dabc8cd0a355b86f7532b804d29e880f703705f28fe833061b83bba", func := "clearway/clearwaylaw24.DynamicsBuilds", spec := "dynamicsBuilds", unfollowed := true, recurses := true, apart := false, narrowed := true }
def DynamicsBuildsUptoSaid : Prop := dynamicsBuildsUptoRow.holds Tryz.pinned (OpenSpec.upto dynamicsBuildsSpec)

/-- 'clearwaylaw24.DynamicsValid', WHERE WHAT IT READS IS OF BULK AT MOST 1048576: true; the input reads as it did. -/
def dynamicsValidUptoRow : OpenClaim := { program := "ytjnbipmlmafahaagreat", sum := "6e7137609dabc8cd0a355b86f7532b804d29e880f703705f28fe833061b83bba", func := "clearway/clearwaylaw24.DynamicsValid", spec := "dynamicsValid", unfollowed := true, recurses := true, apart := false, narrowed := true }
def DynamicsValidUptoSaid : Prop := dynamicsValidUptoRow.holds Tryz.pinned (OpenSpec.upto dynamicsValidSpec)

end Rows
end Go.Proofs.YtjnbipmlmafahaaGreat

/-
  NARROWER THAN 'FOR EVERY INPUT', by the rows' own cells (each row's printed sentence says how): ScoreMatches: laid · ScoreExtra: laid · ScoreBetween: laid · ScoreKeeps: laid · ScoreMixMatches: laid · ScoreExamples: laid · ScoreMixes: laid · ScoreEnds: laid · LookupExamples: laid · PackExamples: laid.
  DERIVED. THE GIVEN ROWS OF THIS SEAT. 10 by the template 'for every input the law returns true; each argument reads behind the call as it read before'; 0 by the template 'total and deterministic' (their statements: YtdfmdiakjdggbaaGreatDoorTotals.lean).
  GIVEN WITH THE SEED: the statements are not yours to turn. If you find one false, say at which input.
  Laid BY PROGRAM, IN A SANDBOX (cutbox-rows.mjs): the forced cells as the released guide's own fill.sh prints them over the translation 4f39fca4a688c66f… (all of the seat's roots in one cut). By AI agents, Wed Nov 11 2026. No macro, syntax, notation, axiom, sorry.
-/
import Derived.Test.YtdfmdiakjdggbaaGreatDoorChecked
import GoSem.Claim
import GoSem.ClaimJoined
import GoSem.ClaimMapViews
import Derived.JoinedTies
import Derived.KernelRfl
namespace Go.Proofs.YtdfmdiakjdggbaaGreatDoor
/- THE CELL 'sum', in the pinned program and in every row, IS THE sha256 OF THE DUMP (.gsa) THAT YtdfmdiakjdggbaaGreatDoorProg.lean LOADS. Nothing in Lean hashes anything: it is a label: what it is worth is what the hold of that sum in a sandbox is worth. -/
noncomputable def Tryz.pinned : Pinned := { name := "ytdfmdiakjdggbaagreatdoor", sum := "4f39fca4a688c66f429e9f99f23921e2ccddc8641f7028e30fd9bb38f7cc2b70", checked := Tryz.checked }
namespace Rows
def none {H : Type} : Left H := { results := [], args := [] }

/- WHAT THE LISTED PACKAGE-LEVEL VARIABLES READ AS WHEN THE CALL BEGINS. Each datum BY PROGRAM (the guide's laid-datum.mjs) off the statement by which the dump's own 'gosem.cut.vars' lays the variable. In a bare row this is a premise. The card (YtdfmdiakjdggbaaGreatDoorCards.lean) ties it to the program's text. -/
def laid_math_bits_deBruijn32tab {H : Type} : DataW H := .agg [.lit (.int .u8 0), .lit (.int .u8 1), .lit (.int .u8 28), .lit (.int .u8 2), .lit (.int .u8 29), .lit (.int .u8 14), .lit (.int .u8 24), .lit (.int .u8 3), .lit (.int .u8 30), .lit (.int .u8 22), .lit (.int .u8 20), .lit (.int .u8 15), .lit (.int .u8 25), .lit (.int .u8 17), .lit (.int .u8 4), .lit (.int .u8 8), .lit (.int .u8 31), .lit (.int .u8 27), .lit (.int .u8 13), .lit (.int .u8 23), .lit (.int .u8 21), .lit (.int .u8 19), .lit (.int .u8 16), .lit (.int .u8 7), .lit (.int .u8 26), .lit (.int .u8 12), .lit (.int .u8 18), .lit (.int .u8 6), .lit (.int .u8 11), .lit (.int .u8 5), .lit (.int .u8 10), .lit (.int .u8 9)]
def laid_math_bits_deBruijn64tab {H : Type} : DataW H := .agg [.lit (.int .u8 0), .lit (.int .u8 1), .lit (.int .u8 56), .lit (.int .u8 2), .lit (.int .u8 57), .lit (.int .u8 49), .lit (.int .u8 28), .lit (.int .u8 3), .lit (.int .u8 61), .lit (.int .u8 58), .lit (.int .u8 42), .lit (.int .u8 50), .lit (.int .u8 38), .lit (.int .u8 29), .lit (.int .u8 17), .lit (.int .u8 4), .lit (.int .u8 62), .lit (.int .u8 47), .lit (.int .u8 59), .lit (.int .u8 36), .lit (.int .u8 45), .lit (.int .u8 43), .lit (.int .u8 51), .lit (.int .u8 22), .lit (.int .u8 53), .lit (.int .u8 39), .lit (.int .u8 33), .lit (.int .u8 30), .lit (.int .u8 24), .lit (.int .u8 18), .lit (.int .u8 12), .lit (.int .u8 5), .lit (.int .u8 63), .lit (.int .u8 55), .lit (.int .u8 48), .lit (.int .u8 27), .lit (.int .u8 60), .lit (.int .u8 41), .lit (.int .u8 37), .lit (.int .u8 16), .lit (.int .u8 46), .lit (.int .u8 35), .lit (.int .u8 44), .lit (.int .u8 21), .lit (.int .u8 52), .lit (.int .u8 32), .lit (.int .u8 23), .lit (.int .u8 11), .lit (.int .u8 54), .lit (.int .u8 26), .lit (.int .u8 40), .lit (.int .u8 15), .lit (.int .u8 34), .lit (.int .u8 20), .lit (.int .u8 31), .lit (.int .u8 10), .lit (.int .u8 25), .lit (.int .u8 14), .lit (.int .u8 19), .lit (.int .u8 9), .lit (.int .u8 13), .lit (.int .u8 8), .lit (.int .u8 7), .lit (.int .u8 6)]
def laid_internal_strconv_uint64pow10 {H : Type} : DataW H := .agg [.lit (.int .u64 1), .lit (.int .u64 10), .lit (.int .u64 100), .lit (.int .u64 1000), .lit (.int .u64 10000), .lit (.int .u64 100000), .lit (.int .u64 1000000), .lit (.int .u64 10000000), .lit (.int .u64 100000000), .lit (.int .u64 1000000000), .lit (.int .u64 10000000000), .lit (.int .u64 100000000000), .lit (.int .u64 1000000000000), .lit (.int .u64 10000000000000), .lit (.int .u64 100000000000000), .lit (.int .u64 1000000000000000), .lit (.int .u64 10000000000000000), .lit (.int .u64 100000000000000000), .lit (.int .u64 1000000000000000000), .lit (.int .u64 10000000000000000000)]

/-- 'clearwaylaw29.ScoreMatches': WHATEVER THE INPUT: true; the input reads as it did. -/
def scoreMatchesSpec : ChangeSpec := { name := "scoreMatches", fn := fun _ => fun
  | [d1, d2] => { results := [.lit (.bool true)], args := [d1, d2] }
  | _ => none }
def scoreMatchesRow : OpenClaim := { program := "ytdfmdiakjdggbaagreatdoor", sum := "4f39fca4a688c66f429e9f99f23921e2ccddc8641f7028e30fd9bb38f7cc2b70", func := "clearway/clearwaylaw29.ScoreMatches", spec := "scoreMatches", inPlace := ["internal/abi.NoEscape"], unfollowed := true, recurses := true, named := ["internal/strconv.uint64pow10", "math/bits.deBruijn32tab", "math/bits.deBruijn64tab"], plainKeys := false, apart := false, laid := [("math/bits.deBruijn32tab", laid_math_bits_deBruijn32tab), ("math/bits.deBruijn64tab", laid_math_bits_deBruijn64tab), ("internal/strconv.uint64pow10", laid_internal_strconv_uint64pow10)] }
def ScoreMatchesSaid : Prop := scoreMatchesRow.holds Tryz.pinned (OpenSpec.ofChange scoreMatchesSpec)

/-- ITS FALSE NEIGHBOUR: 'it returns false'. Refute it at one input. -/
def scoreMatchesWrong : ChangeSpec := { name := "scoreMatches", fn := fun _ => fun
  | [d1, d2] => { results := [.lit (.bool false)], args := [d1, d2] }
  | _ => none }
def ScoreMatchesWrongFalsely : Prop := scoreMatchesRow.holds Tryz.pinned (OpenSpec.ofChange scoreMatchesWrong)

/-- 'clearwaylaw29.ScoreExtra': WHATEVER THE INPUT: true; the input reads as it did. -/
def scoreExtraSpec : ChangeSpec := { name := "scoreExtra", fn := fun _ => fun
  | [d1, d2, d3] => { results := [.lit (.bool true)], args := [d1, d2, d3] }
  | _ => none }
def scoreExtraRow : OpenClaim := { program := "ytdfmdiakjdggbaagreatdoor", sum := "4f39fca4a688c66f429e9f99f23921e2ccddc8641f7028e30fd9bb38f7cc2b70", func := "clearway/clearwaylaw29.ScoreExtra", spec := "scoreExtra", inPlace := ["internal/abi.NoEscape"], unfollowed := true, recurses := true, named := ["internal/strconv.uint64pow10", "math/bits.deBruijn32tab", "math/bits.deBruijn64tab"], plainKeys := false, apart := false, laid := [("math/bits.deBruijn32tab", laid_math_bits_deBruijn32tab), ("math/bits.deBruijn64tab", laid_math_bits_deBruijn64tab), ("internal/strconv.uint64pow10", laid_internal_strconv_uint64pow10)] }
def ScoreExtraSaid : Prop := scoreExtraRow.holds Tryz.pinned (OpenSpec.ofChange scoreExtraSpec)

/-- ITS FALSE NEIGHBOUR: 'it returns false'. Refute it at one input. -/
def scoreExtraWrong : ChangeSpec := { name := "scoreExtra", fn := fun _ => fun
  | [d1, d2, d3] => { results := [.lit (.bool false)], args := [d1, d2, d3] }
  | _ => none }
def ScoreExtraWrongFalsely : Prop := scoreExtraRow.holds Tryz.pinned (OpenSpec.ofChange scoreExtraWrong)

/-- 'clearwaylaw29.ScoreBetween': WHATEVER THE INPUT: true; the input reads as it did. -/
def scoreBetweenSpec : ChangeSpec := { name := "scoreBetween", fn := fun _ => fun
  | [d1, d2] => { results := [.lit (.bool true)], args := [d1, d2] }
  | _ => none }
def scoreBetweenRow : OpenClaim := { program := "ytdfmdiakjdggbaagreatdoor", sum := "4f39fca4a688c66f429e9f99f23921e2ccddc8641f7028e30fd9bb38f7cc2b70", func := "clearway/clearwaylaw29.ScoreBetween", spec := "scoreBetween", inPlace := ["internal/abi.NoEscape"], unfollowed := true, recurses := true, named := ["internal/strconv.uint64pow10", "math/bits.deBruijn32tab", "math/bits.deBruijn64tab"], plainKeys := false, apart := false, laid := [("math/bits.deBruijn32tab", laid_math_bits_deBruijn32tab), ("math/bits.deBruijn64tab", laid_math_bits_deBruijn64tab), ("internal/strconv.uint64pow10", laid_internal_strconv_uint64pow10)] }
def ScoreBetweenSaid : Prop := scoreBetweenRow.holds Tryz.pinned (OpenSpec.ofChange scoreBetweenSpec)

/-- ITS FALSE NEIGHBOUR: 'it returns false'. Refute it at one input. -/
def scoreBetweenWrong : ChangeSpec := { name := "scoreBetween", fn := fun _ => fun
  | [d1, d2] => { results := [.lit (.bool false)], args := [d1, d2] }
  | _ => none }
def ScoreBetweenWrongFalsely : Prop := scoreBetweenRow.holds Tryz.pinned (OpenSpec.ofChange scoreBetweenWrong)

/-- 'clearwaylaw29.ScoreKeeps': WHATEVER THE INPUT: true; the input reads as it did. -/
def scoreKeepsSpec : ChangeSpec := { name := "scoreKeeps", fn := fun _ => fun
  | [d1, d2] => { results := [.lit (.bool true)], args := [d1, d2] }
  | _ => none }
def scoreKeepsRow : OpenClaim := { program := "ytdfmdiakjdggbaagreatdoor", sum := "4f39fca4a688c66f429e9f99f23921e2ccddc8641f7028e30fd9bb38f7cc2b70", func := "clearway/clearwaylaw29.ScoreKeeps", spec := "scoreKeeps", inPlace := ["internal/abi.NoEscape"], unfollowed := true, recurses := true, named := ["internal/strconv.uint64pow10", "math/bits.deBruijn32tab", "math/bits.deBruijn64tab"], plainKeys := false, apart := false, laid := [("math/bits.deBruijn32tab", laid_math_bits_deBruijn32tab), ("math/bits.deBruijn64tab", laid_math_bits_deBruijn64tab), ("internal/strconv.uint64pow10", laid_internal_strconv_uint64pow10)] }
def ScoreKeepsSaid : Prop := scoreKeepsRow.holds Tryz.pinned (OpenSpec.ofChange scoreKeepsSpec)

/-- ITS FALSE NEIGHBOUR: 'it returns false'. Refute it at one input. -/
def scoreKeepsWrong : ChangeSpec := { name := "scoreKeeps", fn := fun _ => fun
  | [d1, d2] => { results := [.lit (.bool false)], args := [d1, d2] }
  | _ => none }
def ScoreKeepsWrongFalsely : Prop := scoreKeepsRow.holds Tryz.pinned (OpenSpec.ofChange scoreKeepsWrong)

/-- 'clearwaylaw29.ScoreMixMatches': WHATEVER THE INPUT: true; the input reads as it did. -/
def scoreMixMatchesSpec : ChangeSpec := { name := "scoreMixMatches", fn := fun _ => fun
  | [d1, d2, d3] => { results := [.lit (.bool true)], args := [d1, d2, d3] }
  | _ => none }
def scoreMixMatchesRow : OpenClaim := { program := "ytdfmdiakjdggbaagreatdoor", sum := "4f39fca4a688c66f429e9f99f23921e2ccddc8641f7028e30fd9bb38f7cc2b70", func := "clearway/clearwaylaw29.ScoreMixMatches", spec := "scoreMixMatches", inPlace := ["internal/abi.NoEscape"], unfollowed := true, recurses := true, named := ["internal/strconv.uint64pow10", "math/bits.deBruijn32tab", "math/bits.deBruijn64tab"], plainKeys := false, apart := false, laid := [("math/bits.deBruijn32tab", laid_math_bits_deBruijn32tab), ("math/bits.deBruijn64tab", laid_math_bits_deBruijn64tab), ("internal/strconv.uint64pow10", laid_internal_strconv_uint64pow10)] }
def ScoreMixMatchesSaid : Prop := scoreMixMatchesRow.holds Tryz.pinned (OpenSpec.ofChange scoreMixMatchesSpec)

/-- ITS FALSE NEIGHBOUR: 'it returns false'. Refute it at one input. -/
def scoreMixMatchesWrong : ChangeSpec := { name := "scoreMixMatches", fn := fun _ => fun
  | [d1, d2, d3] => { results := [.lit (.bool false)], args := [d1, d2, d3] }
  | _ => none }
def ScoreMixMatchesWrongFalsely : Prop := scoreMixMatchesRow.holds Tryz.pinned (OpenSpec.ofChange scoreMixMatchesWrong)

/-- 'clearwaylaw29.ScoreExamples': WHATEVER THE INPUT: true; the input reads as it did. -/
def scoreExamplesSpec : ChangeSpec := { name := "scoreExamples", fn := fun _ => fun
  | [] => { results := [.lit (.bool true)], args := [] }
  | _ => none }
def scoreExamplesRow : OpenClaim := { program := "ytdfmdiakjdggbaagreatdoor", sum := "4f39fca4a688c66f429e9f99f23921e2ccddc8641f7028e30fd9bb38f7cc2b70", func := "clearway/clearwaylaw29.ScoreExamples", spec := "scoreExamples", inPlace := ["internal/abi.NoEscape"], unfollowed := true, recurses := true, named := ["internal/strconv.uint64pow10", "math/bits.deBruijn32tab", "math/bits.deBruijn64tab"], plainKeys := false, apart := false, laid := [("math/bits.deBruijn32tab", laid_math_bits_deBruijn32tab), ("math/bits.deBruijn64tab", laid_math_bits_deBruijn64tab), ("internal/strconv.uint64pow10", laid_internal_strconv_uint64pow10)] }
def ScoreExamplesSaid : Prop := scoreExamplesRow.holds Tryz.pinned (OpenSpec.ofChange scoreExamplesSpec)

/-- ITS FALSE NEIGHBOUR: 'it returns false'. Refute it at one input. -/
def scoreExamplesWrong : ChangeSpec := { name := "scoreExamples", fn := fun _ => fun
  | [] => { results := [.lit (.bool false)], args := [] }
  | _ => none }
def ScoreExamplesWrongFalsely : Prop := scoreExamplesRow.holds Tryz.pinned (OpenSpec.ofChange scoreExamplesWrong)

/-- 'clearwaylaw29.ScoreMixes': WHATEVER THE INPUT: true; the input reads as it did. -/
def scoreMixesSpec : ChangeSpec := { name := "scoreMixes", fn := fun _ => fun
  | [d1, d2, d3] => { results := [.lit (.bool true)], args := [d1, d2, d3] }
  | _ => none }
def scoreMixesRow : OpenClaim := { program := "ytdfmdiakjdggbaagreatdoor", sum := "4f39fca4a688c66f429e9f99f23921e2ccddc8641f7028e30fd9bb38f7cc2b70", func := "clearway/clearwaylaw29.ScoreMixes", spec := "scoreMixes", inPlace := ["internal/abi.NoEscape"], unfollowed := true, recurses := true, named := ["internal/strconv.uint64pow10", "math/bits.deBruijn32tab", "math/bits.deBruijn64tab"], plainKeys := false, apart := false, laid := [("math/bits.deBruijn32tab", laid_math_bits_deBruijn32tab), ("math/bits.deBruijn64tab", laid_math_bits_deBruijn64tab), ("internal/strconv.uint64pow10", laid_internal_strconv_uint64pow10)] }
def ScoreMixesSaid : Prop := scoreMixesRow.holds Tryz.pinned (OpenSpec.ofChange scoreMixesSpec)

/-- ITS FALSE NEIGHBOUR: 'it returns false'. Refute it at one input. -/
def scoreMixesWrong : ChangeSpec := { name := "scoreMixes", fn := fun _ => fun
  | [d1, d2, d3] => { results := [.lit (.bool false)], args := [d1, d2, d3] }
  | _ => none }
def ScoreMixesWrongFalsely : Prop := scoreMixesRow.holds Tryz.pinned (OpenSpec.ofChange scoreMixesWrong)

/-- 'clearwaylaw29.ScoreEnds': WHATEVER THE INPUT: true; the input reads as it did. -/
def scoreEndsSpec : ChangeSpec := { name := "scoreEnds", fn := fun _ => fun
  | [d1, d2, d3] => { results := [.lit (.bool true)], args := [d1, d2, d3] }
  | _ => none }
def scoreEndsRow : OpenClaim := { program := "ytdfmdiakjdggbaagreatdoor", sum := "4f39fca4a688c66f429e9f99f23921e2ccddc8641f7028e30fd9bb38f7cc2b70", func := "clearway/clearwaylaw29.ScoreEnds", spec := "scoreEnds", inPlace := ["internal/abi.NoEscape"], unfollowed := true, recurses := true, named := ["internal/strconv.uint64pow10", "math/bits.deBruijn32tab", "math/bits.deBruijn64tab"], plainKeys := false, apart := false, laid := [("math/bits.deBruijn32tab", laid_math_bits_deBruijn32tab), ("math/bits.deBruijn64tab", laid_math_bits_deBruijn64tab), ("internal/strconv.uint64pow10", laid_internal_strconv_uint64pow10)] }
def ScoreEndsSaid : Prop := scoreEndsRow.holds Tryz.pinned (OpenSpec.ofChange scoreEndsSpec)

/-- ITS FALSE NEIGHBOUR: 'it returns false'. Refute it at one input. -/
def scoreEndsWrong : ChangeSpec := { name := "scoreEnds", fn := fun _ => fun
  | [d1, d2, d3] => { results := [.lit (.bool false)], args := [d1, d2, d3] }
  | _ => none }
def ScoreEndsWrongFalsely : Prop := scoreEndsRow.holds Tryz.pinned (OpenSpec.ofChange scoreEndsWrong)

/-- 'clearwaylaw26.LookupExamples': WHATEVER THE INPUT: true; the input reads as it did. -/
def lookupExamplesSpec : ChangeSpec := { name := "lookupExamples", fn := fun _ => fun
  | [] => { results := [.lit (.bool true)], args := [] }
  | _ => none }
def lookupExamplesRow : OpenClaim := { program := "ytdfmdiakjdggbaagreatdoor", sum := "4f39fca4a688c66f429e9f99f23921e2ccddc8641f7028e30fd9bb38f7cc2b70", func := "clearway/clearwaylaw26.LookupExamples", spec := "lookupExamples", inPlace := ["internal/abi.NoEscape"], unfollowed := true, recurses := true, named := ["internal/strconv.uint64pow10", "math/bits.deBruijn32tab", "math/bits.deBruijn64tab"], plainKeys := false, apart := false, laid := [("math/bits.deBruijn32tab", laid_math_bits_deBruijn32tab), ("math/bits.deBruijn64tab", laid_math_bits_deBruijn64tab), ("internal/strconv.uint64pow10", laid_internal_strconv_uint64pow10)] }
def LookupExamplesSaid : Prop := lookupExamplesRow.holds Tryz.pinned (OpenSpec.ofChange lookupExamplesSpec)

/-- ITS FALSE NEIGHBOUR: 'it returns false'. Refute it at one input. -/
def lookupExamplesWrong : ChangeSpec := { name := "lookupExamples", fn := fun _ => fun
  | [] => { results := [.lit (.bool false)], args := [] }
  | _ => none }
def LookupExamplesWrongFalsely : Prop := lookupExamplesRow.holds Tryz.pinned (OpenSpec.ofChange lookupExamplesWrong)

/-- 'clearwaylaw25.PackExamples': WHATEVER THE INPUT: true; the input reads as it did. -/
def packExamplesSpec : ChangeSpec := { name := "packExamples", fn := fun _ => fun
  | [] => { results := [.lit (.bool true)], args := [] }
  | _ => none }
def packExamplesRow : OpenClaim := { program := "ytdfmdiakjdggbaagreatdoor", sum := "4f39fca4a688c66f429e9f99f23921e2ccddc8641f7028e30fd9bb38f7cc2b70", func := "clearway/clearwaylaw25.PackExamples", spec := "packExamples", inPlace := ["internal/abi.NoEscape"], unfollowed := true, recurses := true, named := ["internal/strconv.uint64pow10", "math/bits.deBruijn32tab", "math/bits.deBruijn64tab"], plainKeys := false, apart := false, laid := [("math/bits.deBruijn32tab", laid_math_bits_deBruijn32tab), ("math/bits.deBruijn64tab", laid_math_bits_deBruijn64tab), ("internal/strconv.uint64pow10", laid_internal_strconv_uint64pow10)] }
def PackExamplesSaid : Prop := packExamplesRow.holds Tryz.pinned (OpenSpec.ofChange packExamplesSpec)

/-- ITS FALSE NEIGHBOUR: 'it returns false'. Refute it at one input. -/
def packExamplesWrong : ChangeSpec := { name := "packExamples", fn := fun _ => fun
  | [] => { results := [.lit (.bool false)], args := [] }
  | _ => none }
def PackExamplesWrongFalsely : Prop := packExamplesRow.holds Tryz.pinned (OpenSpec.ofChange packExamplesWrong)

/- THE SECOND FORM. 'bulk': how many values and letters a reading holds, each counted each time it is reached (what is shared counts as often as it is met; a slice's spare places count too). A statement '..UptoSaid' is the law's where the arguments, and the package variables that the reading takes, are together of bulk at most 1048576: NARROWER than '..Said'. Prove '..Said' where nothing that the law and all that it calls make is longer than what came in: it says more and counts as full. Else prove '..UptoSaid'. A law counts once. -/
mutual
def uptoBulk {H : Type} : DataW H → Nat
  | .lit (.string bytes) => bytes.length + 1
  | .lit _ => 1
  | .nil => 1
  | .ptr d => uptoBulk d + 1
  | .slice elems spare => uptoBulkAll elems + uptoBulkAll spare + 1
  | .agg parts => uptoBulkAll parts + 1
  | .iface _ d => uptoBulk d + 1
  | .map entries => uptoBulkEntries entries + 1
  | .held _ => 1
def uptoBulkAll {H : Type} : List (DataW H) → Nat
  | [] => 0
  | d :: r => uptoBulk d + uptoBulkAll r
def uptoBulkEntries {H : Type} : List (Lit × DataW H) → Nat
  | [] => 0
  | x :: r => uptoBulkEntry x + uptoBulkEntries r
def uptoBulkEntry {H : Type} : Lit × DataW H → Nat
  | (.string bytes, d) => bytes.length + uptoBulk d + 1
  | (_, d) => uptoBulk d + 1
 end
def uptoSmall : (H : Type) → List (DataW H) → Bool := fun _ ds => decide (uptoBulkAll ds ≤ 1048576)
def OpenSpec.upto (s : _root_.Go.ChangeSpec) : _root_.Go.OpenSpec := { _root_.Go.OpenSpec.ofChange s with cond := some uptoSmall }

/-- 'clearwaylaw29.ScoreMatches', WHERE WHAT IT READS IS OF BULK AT MOST 1048576: true; the input reads as it did. -/
def scoreMatchesUptoRow : OpenClaim := { program := "ytdfmdiakjdggbaagreatdoor", sum := "4f39fca4a688c66f429e9f99f23921e2ccddc8641f7028e30fd9bb38f7cc2b70", func := "clearway/clearwaylaw29.ScoreMatches", spec := "scoreMatches", inPlace := ["internal/abi.NoEscape"], unfollowed := true, recurses := true, named := ["internal/strconv.uint64pow10", "math/bits.deBruijn32tab", "math/bits.deBruijn64tab"], plainKeys := false, apart := false, laid := [("math/bits.deBruijn32tab", laid_math_bits_deBruijn32tab), ("math/bits.deBruijn64tab", laid_math_bits_deBruijn64tab), ("internal/strconv.uint64pow10", laid_internal_strconv_uint64pow10)], narrowed := true }
def ScoreMatchesUptoSaid : Prop := scoreMatchesUptoRow.holds Tryz.pinned (OpenSpec.upto scoreMatchesSpec)

/-- 'clearwaylaw29.ScoreExtra', WHERE WHAT IT READS IS OF BULK AT MOST 1048576: true; the input reads as it did. -/
def scoreExtraUptoRow : OpenClaim := { program := "ytdfmdiakjdggbaagreatdoor", sum := "4f39fca4a688c66f429e9f99f23921e2ccddc8641f7028e30fd9bb38f7cc2b70", func := "clearway/clearwaylaw29.ScoreExtra", spec := "scoreExtra", inPlace := ["internal/abi.NoEscape"], unfollowed := true, recurses := true, named := ["internal/strconv.uint64pow10", "math/bits.deBruijn32tab", "math/bits.deBruijn64tab"], plainKeys := false, apart := false, laid := [("math/bits.deBruijn32tab", laid_math_bits_deBruijn32tab), ("math/bits.deBruijn64tab", laid_math_bits_deBruijn64tab), ("internal/strconv.uint64pow10", laid_internal_strconv_uint64pow10)], narrowed := true }
def ScoreExtraUptoSaid : Prop := scoreExtraUptoRow.holds Tryz.pinned (OpenSpec.upto scoreExtraSpec)

/-- 'clearwaylaw29.ScoreBetween', WHERE WHAT IT READS IS OF BULK AT MOST 1048576: true; the input reads as it did. -/
def scoreBetweenUptoRow : OpenClaim := { program := "ytdfmdiakjdggbaagreatdoor", sum := "4f39fca4a688c66f429e9f99f23921e2ccddc8641f7028e30fd9bb38f7cc2b70", func := "clearway/clearwaylaw29.ScoreBetween", spec := "scoreBetween", inPlace := ["internal/abi.NoEscape"], unfollowed := true, recurses := true, named := ["internal/strconv.uint64pow10", "math/bits.deBruijn32tab", "math/bits.deBruijn64tab"], plainKeys := false, apart := false, laid := [("math/bits.deBruijn32tab", laid_math_bits_deBruijn32tab), ("math/bits.deBruijn64tab", laid_math_bits_deBruijn64tab), ("internal/strconv.uint64pow10", laid_internal_strconv_uint64pow10)], narrowed := true }
def ScoreBetweenUptoSaid : Prop := scoreBetweenUptoRow.holds Tryz.pinned (OpenSpec.upto scoreBetweenSpec)

/-- 'clearwaylaw29.ScoreKeeps', WHERE WHAT IT READS IS OF BULK AT MOST 1048576: true; the input reads as it did. -/
def scoreKeepsUptoRow : OpenClaim := { program := "ytdfmdiakjdggbaagreatdoor", sum := "4f39fca4a688c66f429e9f99f23921e2ccddc8641f7028e30fd9bb38f7cc2b70", func := "clearway/clearwaylaw29.ScoreKeeps", spec := "scoreKeeps", inPlace := ["internal/abi.NoEscape"], unfollowed := true, recurses := true, named := ["internal/strconv.uint64pow10", "math/bits.deBruijn32tab", "math/bits.deBruijn64tab"], plainKeys := false, apart := false, laid := [("math/bits.deBruijn32tab", laid_math_bits_deBruijn32tab), ("math/bits.deBruijn64tab", laid_math_bits_deBruijn64tab), ("internal/strconv.uint64pow10", laid_internal_strconv_uint64pow10)], narrowed := true }
def ScoreKeepsUptoSaid : Prop := scoreKeepsUptoRow.holds Tryz.pinned (OpenSpec.upto scoreKeepsSpec)

/-- 'clearwaylaw29.ScoreMixMatches', WHERE WHAT IT READS IS OF BULK AT MOST 1048576: true; the input reads as it did. -/
def scoreMixMatchesUptoRow : OpenClaim := { program := "ytdfmdiakjdggbaagreatdoor", sum := "4f39fca4a688c66f429e9f99f23921e2ccddc8641f7028e30fd9bb38f7cc2b70", func := "clearway/clearwaylaw29.ScoreMixMatches", spec := "scoreMixMatches", inPlace := ["internal/abi.NoEscape"], unfollowed := true, recurses := true, named := ["internal/strconv.uint64pow10", "math/bits.deBruijn32tab", "math/bits.deBruijn64tab"], plainKeys := false, apart := false, laid := [("math/bits.deBruijn32tab", laid_math_bits_deBruijn32tab), ("math/bits.deBruijn64tab", laid_math_bits_deBruijn64tab), ("internal/strconv.uint64pow10", laid_internal_strconv_uint64pow10)], narrowed := true }
def ScoreMixMatchesUptoSaid : Prop := scoreMixMatchesUptoRow.holds Tryz.pinned (OpenSpec.upto scoreMixMatchesSpec)

/-- 'clearwaylaw29.ScoreExamples', WHERE WHAT IT READS IS OF BULK AT MOST 1048576: true; the input reads as it did. -/
def scoreExamplesUptoRow : OpenClaim := { program := "ytdfmdiakjdggbaagreatdoor", sum := "4f39fca4a688c66f429e9f99f23921e2ccddc8641f7028e30fd9bb38f7cc2b70", func := "clearway/clearwaylaw29.ScoreExamples", spec := "scoreExamples", inPlace := ["internal/abi.NoEscape"], unfollowed := true, recurses := true, named := ["internal/strconv.uint64pow10", "math/bits.deBruijn32tab", "math/bits.deBruijn64tab"], plainKeys := false, apart := false, laid := [("math/bits.deBruijn32tab", laid_math_bits_deBruijn32tab), ("math/bits.deBruijn64tab", laid_math_bits_deBruijn64tab), ("internal/strconv.uint64pow10", laid_internal_strconv_uint64pow10)], narrowed := true }
def ScoreExamplesUptoSaid : Prop := scoreExamplesUptoRow.holds Tryz.pinned (OpenSpec.upto scoreExamplesSpec)

/-- 'clearwaylaw29.ScoreMixes', WHERE WHAT IT READS IS OF BULK AT MOST 1048576: true; the input reads as it did. -/
def scoreMixesUptoRow : OpenClaim := { program := "ytdfmdiakjdggbaagreatdoor", sum := "4f39fca4a688c66f429e9f99f23921e2ccddc8641f7028e30fd9bb38f7cc2b70", func := "clearway/clearwaylaw29.ScoreMixes", spec := "scoreMixes", inPlace := ["internal/abi.NoEscape"], unfollowed := true, recurses := true, named := ["internal/strconv.uint64pow10", "math/bits.deBruijn32tab", "math/bits.deBruijn64tab"], plainKeys := false, apart := false, laid := [("math/bits.deBruijn32tab", laid_math_bits_deBruijn32tab), ("math/bits.deBruijn64tab", laid_math_bits_deBruijn64tab), ("internal/strconv.uint64pow10", laid_internal_strconv_uint64pow10)], narrowed := true }
def ScoreMixesUptoSaid : Prop := scoreMixesUptoRow.holds Tryz.pinned (OpenSpec.upto scoreMixesSpec)

/-- 'clearwaylaw29.ScoreEnds', WHERE WHAT IT READS IS OF BULK AT MOST 1048576: true; the input reads as it did. -/
def scoreEndsUptoRow : OpenClaim := { program := "ytdfmdiakjdggbaagreatdoor", sum := "4f39fca4a688c66f429e9f99f23921e2ccddc8641f7028e30fd9bb38f7cc2b70", func := "clearway/clearwaylaw29.ScoreEnds", spec := "scoreEnds", inPlace := ["internal/abi.NoEscape"], unfollowed := true, recurses := true, named := ["internal/strconv.uint64pow10", "math/bits.deBruijn32tab", "math/bits.deBruijn64tab"], plainKeys := false, apart := false, laid := [("math/bits.deBruijn32tab", laid_math_bits_deBruijn32tab), ("math/bits.deBruijn64tab", laid_math_bits_deBruijn64tab), ("internal/strconv.uint64pow10", laid_internal_strconv_uint64pow10)], narrowed := true }
def ScoreEndsUptoSaid : Prop := scoreEndsUptoRow.holds Tryz.pinned (OpenSpec.upto scoreEndsSpec)

/-- 'clearwaylaw26.LookupExamples', WHERE WHAT IT READS IS OF BULK AT MOST 1048576: true; the input reads as it did. -/
def lookupExamplesUptoRow : OpenClaim := { program := "ytdfmdiakjdggbaagreatdoor", sum := "4f39fca4a688c66f429e9f99f23921e2ccddc8641f7028e30fd9bb38f7cc2b70", func := "clearway/clearwaylaw26.LookupExamples", spec := "lookupExamples", inPlace := ["internal/abi.NoEscape"], unfollowed := true, recurses := true, named := ["internal/strconv.uint64pow10", "math/bits.deBruijn32tab", "math/bits.deBruijn64tab"], plainKeys := false, apart := false, laid := [("math/bits.deBruijn32tab", laid_math_bits_deBruijn32tab), ("math/bits.deBruijn64tab", laid_math_bits_deBruijn64tab), ("internal/strconv.uint64pow10", laid_internal_strconv_uint64pow10)], narrowed := true }
def LookupExamplesUptoSaid : Prop := lookupExamplesUptoRow.holds Tryz.pinned (OpenSpec.upto lookupExamplesSpec)

/-- 'clearwaylaw25.PackExamples', WHERE WHAT IT READS IS OF BULK AT MOST 1048576: true; the input reads as it did. -/
def packExamplesUptoRow : OpenClaim := { program := "ytdfmdiakjdggbaagreatdoor", sum := "4f39fca4a688c66f429e9f99f23921e2ccddc8641f7028e30fd9bb38f7cc2b70", func := "clearway/clearwaylaw25.PackExamples", spec := "packExamples", inPlace := ["internal/abi.NoEscape"], unfollowed := true, recurses := true, named := ["internal/strconv.uint64pow10", "math/bits.deBruijn32tab", "math/bits.deBruijn64tab"], plainKeys := false, apart := false, laid := [("math/bits.deBruijn32tab", laid_math_bits_deBruijn32tab), ("math/bits.deBruijn64tab", laid_math_bits_deBruijn64tab), ("internal/strconv.uint64pow10", laid_internal_strconv_uint64pow10)], narrowed := true }
def PackExamplesUptoSaid : Prop := packExamplesUptoRow.holds Tryz.pinned (OpenSpec.upto packExamplesSpec)

end Rows
end Go.Proofs.YtdfmdiakjdggbaaGreatDoor

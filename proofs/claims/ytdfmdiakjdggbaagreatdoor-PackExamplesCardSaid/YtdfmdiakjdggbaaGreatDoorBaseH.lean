/- Parts of the proof: L1c. By an AI agent. -/
import Derived.Test.YtdfmdiakjdggbaaGreatDoorBaseA
import Derived.Test.YtdfmdiakjdggbaaGreatDoorBaseB
import Derived.Test.YtdfmdiakjdggbaaGreatDoorBaseC
import Derived.Test.YtdfmdiakjdggbaaGreatDoorBaseD
import Derived.Test.YtdfmdiakjdggbaaGreatDoorBaseE
import Derived.Test.YtdfmdiakjdggbaaGreatDoorBaseF
import Derived.Test.YtdfmdiakjdggbaaGreatDoorBaseG
set_option linter.unusedVariables false
set_option linter.unusedSimpArgs false
set_option linter.unnecessarySimpa false
/- Closed calls, reckoned by the kernel; printed by a program of this repo. By an AI agent. -/
namespace Go.Proofs.YtdfmdiakjdggbaaGreatDoor
open Go Go.Gv Go.Ev
set_option maxRecDepth 1000000
/- clearway/iterate.Scores: 1844 operations -/
noncomputable def la58 : List T := [(.ag [ff, (sL [(w 1)]), (sL []), (sL [(.sl [ff, nl, nl, (.sl [(i 0), ff, (sL [(w 1)]), (sL [])] 1), ff, (sL [(w 1)]), (sL [(w 10)]), (.sl [(i 1), ff, (sL [(w 1)]), (sL [(w 2)]), (i 3), ff, (sL [(w 1)]), (sL [(w 2)])] 2)] 2), (.sl [ff, nl, nl, (.sl [(i 0), ff, (sL [(w 1)]), (sL [])] 1), ff, (sL [(w 1)]), (sL [(w 10)]), (.sl [(i 1), ff, (sL [(w 1)]), (sL [(w 2)]), (i 3), ff, (sL [(w 1)]), (sL [(w 2)])] 2)] 2), (.sl [ff, nl, nl, (.sl [(i 2), ff, (sL [(w 1)]), (sL [])] 1), ff, (sL [(w 1)]), (sL [(w 10)]), (.sl [(i 3), ff, (sL [(w 1)]), (sL [])] 1)] 2), (.sl [ff, nl, nl, (.sl [(i 2), ff, (sL [(w 1)]), (sL [])] 1), ff, (sL [(w 1)]), (sL [(w 10)]), (.sl [(i 3), ff, (sL [(w 1)]), (sL [])] 1)] 2), (.sl [ff, nl, nl, (.sl [(i 4), ff, (sL [(w 1)]), (sL [])] 1), ff, (sL [(w 1)]), (sL [(w 10)]), (.sl [(i 5), ff, (sL [(w 1)]), (sL [(w 2)]), (i 7), ff, (sL [(w 1)]), (sL [(w 2)])] 2)] 2), (.sl [ff, nl, nl, (.sl [(i 4), ff, (sL [(w 1)]), (sL [])] 1), ff, (sL [(w 1)]), (sL [(w 10)]), (.sl [(i 5), ff, (sL [(w 1)]), (sL [(w 2)]), (i 7), ff, (sL [(w 1)]), (sL [(w 2)])] 2)] 2), (.sl [ff, nl, nl, (.sl [(i 2), ff, (sL [(w 1)]), (sL [(w 10)]), (i 6), ff, (sL [(w 9)]), (sL [(w 10)])] 2), ff, (sL [(w 1)]), (sL [(w 10)]), (.sl [(i 3), ff, (sL [(w 1)]), (sL [(w 10)]), (i 7), ff, (sL [(w 9)]), (sL [(w 10)])] 2)] 2), (.sl [ff, nl, nl, (.sl [(i 2), ff, (sL [(w 1)]), (sL [(w 10)]), (i 6), ff, (sL [(w 9)]), (sL [(w 10)])] 2), ff, (sL [(w 1)]), (sL [(w 10)]), (.sl [(i 3), ff, (sL [(w 1)]), (sL [(w 10)]), (i 7), ff, (sL [(w 9)]), (sL [(w 10)])] 2)] 2), (.sl [ff, nl, nl, (.sl [(i 8), ff, (sL [(w 1)]), (sL [])] 1), ff, (sL [(w 1)]), (sL [(w 10)]), (.sl [(i 9), ff, (sL [(w 1)]), (sL [(w 2)]), (i 11), ff, (sL [(w 1)]), (sL [(w 2)])] 2)] 2), (.sl [ff, nl, nl, (.sl [(i 8), ff, (sL [(w 1)]), (sL [])] 1), ff, (sL [(w 1)]), (sL [(w 10)]), (.sl [(i 9), ff, (sL [(w 1)]), (sL [(w 2)]), (i 11), ff, (sL [(w 1)]), (sL [(w 2)])] 2)] 2), (.sl [ff, nl, nl, (.sl [(i 6), ff, (sL [(w 1)]), (sL [(w 10)]), (i 10), ff, (sL [(w 9)]), (sL [(w 10)])] 2), ff, (sL [(w 1)]), (sL [(w 10)]), (.sl [(i 7), ff, (sL [(w 1)]), (sL [(w 10)]), (i 11), ff, (sL [(w 9)]), (sL [(w 10)])] 2)] 2), (.sl [ff, nl, nl, (.sl [(i 6), ff, (sL [(w 1)]), (sL [(w 10)]), (i 10), ff, (sL [(w 9)]), (sL [(w 10)])] 2), ff, (sL [(w 1)]), (sL [(w 10)]), (.sl [(i 7), ff, (sL [(w 1)]), (sL [(w 10)]), (i 11), ff, (sL [(w 9)]), (sL [(w 10)])] 2)] 2)])]), (.sl [ff, nl, nl, ff, nl, nl, ff, nl, nl, ff, nl, nl, ff, (sL [(w 1)]), (sL []), ff, (sL [(w 1)]), (sL []), ff, (sL [(w 1)]), (sL []), ff, (sL [(w 1)]), (sL []), ff, nl, nl, ff, nl, nl, ff, nl, nl, ff, nl, nl] 12)]
noncomputable def lt58 : T := (.tu [(sL [(.sl [ff, (sL []), (sL []), ff, (sL [(w 1)]), (sL [(w 10)])] 2), (.sl [ff, (sL []), (sL []), ff, (sL [(w 1)]), (sL [(w 10)])] 2), (.sl [ff, (sL []), (sL []), ff, (sL [(w 1)]), (sL [(w 10)])] 2), (.sl [ff, (sL []), (sL []), ff, (sL [(w 1)]), (sL [(w 10)])] 2), (.sl [ff, (sL [(w 1)]), (sL []), ff, (sL [(w 11)]), (sL [(w 10)])] 2), (.sl [ff, (sL [(w 1)]), (sL []), ff, (sL [(w 11)]), (sL [(w 10)])] 2), (.sl [ff, (sL [(w 9)]), (sL [(w 10)]), ff, (sL [(w 1)]), (sL [])] 2), (.sl [ff, (sL [(w 9)]), (sL [(w 10)]), ff, (sL [(w 1)]), (sL [])] 2), (.sl [ff, (sL []), (sL []), ff, (sL [(w 1)]), (sL [(w 10)])] 2), (.sl [ff, (sL []), (sL []), ff, (sL [(w 1)]), (sL [(w 10)])] 2), (.sl [ff, (sL [(w 1)]), (sL [(w 10)]), ff, (sL [(w 1)]), (sL [(w 5)])] 2), (.sl [ff, (sL [(w 1)]), (sL [(w 10)]), ff, (sL [(w 1)]), (sL [(w 5)])] 2)]), (i 0)])
theorem lr58 : freshE Tryz.prog (evC Tryz.prog skE (orF Tryz.prog (tabO lb57) pfs) 1000) 0 128 la58 = some (lt58, true) := by kernel_rfl
noncomputable def lb58 : List (Nat × (List T → Option (T × Bool))) := (128, rowE la58 (lt58, true)) :: lb57
theorem lo58 : PureOk Tryz.prog (tabO lb58) := PureOk.cons lo57 (ev_row (by kernel_rfl) sk_ok lo57 pfs lr58) (by kernel_rfl)
/- clearway/pack.packed: 47 operations -/
noncomputable def la59 : List T := [(.ag [ff, (sL []), (sL [])]), (.ag [ff, (sL [(w 10)]), (sL [])]), (.ag [ff, (sL [(w 1)]), (sL [(w 2)])])]
noncomputable def lt59 : T := (i 0)
theorem lr59 : freshE Tryz.prog (evC Tryz.prog skE (orF Tryz.prog (tabO lb58) pfs) 1000) 0 129 la59 = some (lt59, true) := by kernel_rfl
noncomputable def lb59 : List (Nat × (List T → Option (T × Bool))) := (129, rowE la59 (lt59, true)) :: lb58
theorem lo59 : PureOk Tryz.prog (tabO lb59) := PureOk.cons lo58 (ev_row (by kernel_rfl) sk_ok lo58 pfs lr59) (by kernel_rfl)
/- clearway/pack.packed: 47 operations -/
noncomputable def la60 : List T := [(.ag [ff, (sL [(w 1)]), (sL [(w 10)])]), (.ag [ff, (sL [(w 10)]), (sL [])]), (.ag [ff, (sL [(w 1)]), (sL [(w 2)])])]
noncomputable def lt60 : T := (i 1)
theorem lr60 : freshE Tryz.prog (evC Tryz.prog skE (orF Tryz.prog (tabO lb59) pfs) 1000) 0 129 la60 = some (lt60, true) := by kernel_rfl
noncomputable def lb60 : List (Nat × (List T → Option (T × Bool))) := (129, rowE la60 (lt60, true)) :: lb59
theorem lo60 : PureOk Tryz.prog (tabO lb60) := PureOk.cons lo59 (ev_row (by kernel_rfl) sk_ok lo59 pfs lr60) (by kernel_rfl)
/- clearway/pack.packed: 47 operations -/
noncomputable def la61 : List T := [(.ag [ff, (sL [(w 1)]), (sL [])]), (.ag [ff, (sL [(w 10)]), (sL [])]), (.ag [ff, (sL [(w 1)]), (sL [(w 2)])])]
noncomputable def lt61 : T := (i 10)
theorem lr61 : freshE Tryz.prog (evC Tryz.prog skE (orF Tryz.prog (tabO lb60) pfs) 1000) 0 129 la61 = some (lt61, true) := by kernel_rfl
noncomputable def lb61 : List (Nat × (List T → Option (T × Bool))) := (129, rowE la61 (lt61, true)) :: lb60
theorem lo61 : PureOk Tryz.prog (tabO lb61) := PureOk.cons lo60 (ev_row (by kernel_rfl) sk_ok lo60 pfs lr61) (by kernel_rfl)
/- clearway/pack.packed: 47 operations -/
noncomputable def la62 : List T := [(.ag [ff, (sL [(w 11)]), (sL [(w 10)])]), (.ag [ff, (sL [(w 10)]), (sL [])]), (.ag [ff, (sL [(w 1)]), (sL [(w 2)])])]
noncomputable def lt62 : T := (i 11)
theorem lr62 : freshE Tryz.prog (evC Tryz.prog skE (orF Tryz.prog (tabO lb61) pfs) 1000) 0 129 la62 = some (lt62, true) := by kernel_rfl
noncomputable def lb62 : List (Nat × (List T → Option (T × Bool))) := (129, rowE la62 (lt62, true)) :: lb61
theorem lo62 : PureOk Tryz.prog (tabO lb62) := PureOk.cons lo61 (ev_row (by kernel_rfl) sk_ok lo61 pfs lr62) (by kernel_rfl)
/- clearway/pack.packed: 47 operations -/
noncomputable def la63 : List T := [(.ag [ff, (sL [(w 9)]), (sL [(w 10)])]), (.ag [ff, (sL [(w 10)]), (sL [])]), (.ag [ff, (sL [(w 1)]), (sL [(w 2)])])]
noncomputable def lt63 : T := (i 9)
theorem lr63 : freshE Tryz.prog (evC Tryz.prog skE (orF Tryz.prog (tabO lb62) pfs) 1000) 0 129 la63 = some (lt63, true) := by kernel_rfl
noncomputable def lb63 : List (Nat × (List T → Option (T × Bool))) := (129, rowE la63 (lt63, true)) :: lb62
theorem lo63 : PureOk Tryz.prog (tabO lb63) := PureOk.cons lo62 (ev_row (by kernel_rfl) sk_ok lo62 pfs lr63) (by kernel_rfl)
/- clearway/pack.packed: 47 operations -/
noncomputable def la64 : List T := [(.ag [ff, (sL [(w 1)]), (sL [(w 5)])]), (.ag [ff, (sL [(w 10)]), (sL [])]), (.ag [ff, (sL [(w 1)]), (sL [(w 2)])])]
noncomputable def lt64 : T := (i 2)
theorem lr64 : freshE Tryz.prog (evC Tryz.prog skE (orF Tryz.prog (tabO lb63) pfs) 1000) 0 129 la64 = some (lt64, true) := by kernel_rfl
noncomputable def lb64 : List (Nat × (List T → Option (T × Bool))) := (129, rowE la64 (lt64, true)) :: lb63
theorem lo64 : PureOk Tryz.prog (tabO lb64) := PureOk.cons lo63 (ev_row (by kernel_rfl) sk_ok lo63 pfs lr64) (by kernel_rfl)
/- clearway/mdp.Backup: 1489 operations -/
noncomputable def la65 : List T := [(.ag [ff, (sL [(w 1)]), (sL []), (sL [(.sl [ff, nl, nl, (.sl [(i 0), ff, (sL [(w 1)]), (sL [])] 1), ff, (sL [(w 1)]), (sL [(w 10)]), (.sl [(i 1), ff, (sL [(w 1)]), (sL [(w 2)]), (i 3), ff, (sL [(w 1)]), (sL [(w 2)])] 2)] 2), (.sl [ff, nl, nl, (.sl [(i 0), ff, (sL [(w 1)]), (sL [])] 1), ff, (sL [(w 1)]), (sL [(w 10)]), (.sl [(i 1), ff, (sL [(w 1)]), (sL [(w 2)]), (i 3), ff, (sL [(w 1)]), (sL [(w 2)])] 2)] 2), (.sl [ff, nl, nl, (.sl [(i 2), ff, (sL [(w 1)]), (sL [])] 1), ff, (sL [(w 1)]), (sL [(w 10)]), (.sl [(i 3), ff, (sL [(w 1)]), (sL [])] 1)] 2), (.sl [ff, nl, nl, (.sl [(i 2), ff, (sL [(w 1)]), (sL [])] 1), ff, (sL [(w 1)]), (sL [(w 10)]), (.sl [(i 3), ff, (sL [(w 1)]), (sL [])] 1)] 2), (.sl [ff, nl, nl, (.sl [(i 4), ff, (sL [(w 1)]), (sL [])] 1), ff, (sL [(w 1)]), (sL [(w 10)]), (.sl [(i 5), ff, (sL [(w 1)]), (sL [(w 2)]), (i 7), ff, (sL [(w 1)]), (sL [(w 2)])] 2)] 2), (.sl [ff, nl, nl, (.sl [(i 4), ff, (sL [(w 1)]), (sL [])] 1), ff, (sL [(w 1)]), (sL [(w 10)]), (.sl [(i 5), ff, (sL [(w 1)]), (sL [(w 2)]), (i 7), ff, (sL [(w 1)]), (sL [(w 2)])] 2)] 2), (.sl [ff, nl, nl, (.sl [(i 2), ff, (sL [(w 1)]), (sL [(w 10)]), (i 6), ff, (sL [(w 9)]), (sL [(w 10)])] 2), ff, (sL [(w 1)]), (sL [(w 10)]), (.sl [(i 3), ff, (sL [(w 1)]), (sL [(w 10)]), (i 7), ff, (sL [(w 9)]), (sL [(w 10)])] 2)] 2), (.sl [ff, nl, nl, (.sl [(i 2), ff, (sL [(w 1)]), (sL [(w 10)]), (i 6), ff, (sL [(w 9)]), (sL [(w 10)])] 2), ff, (sL [(w 1)]), (sL [(w 10)]), (.sl [(i 3), ff, (sL [(w 1)]), (sL [(w 10)]), (i 7), ff, (sL [(w 9)]), (sL [(w 10)])] 2)] 2), (.sl [ff, nl, nl, (.sl [(i 8), ff, (sL [(w 1)]), (sL [])] 1), ff, (sL [(w 1)]), (sL [(w 10)]), (.sl [(i 9), ff, (sL [(w 1)]), (sL [(w 2)]), (i 11), ff, (sL [(w 1)]), (sL [(w 2)])] 2)] 2), (.sl [ff, nl, nl, (.sl [(i 8), ff, (sL [(w 1)]), (sL [])] 1), ff, (sL [(w 1)]), (sL [(w 10)]), (.sl [(i 9), ff, (sL [(w 1)]), (sL [(w 2)]), (i 11), ff, (sL [(w 1)]), (sL [(w 2)])] 2)] 2), (.sl [ff, nl, nl, (.sl [(i 6), ff, (sL [(w 1)]), (sL [(w 10)]), (i 10), ff, (sL [(w 9)]), (sL [(w 10)])] 2), ff, (sL [(w 1)]), (sL [(w 10)]), (.sl [(i 7), ff, (sL [(w 1)]), (sL [(w 10)]), (i 11), ff, (sL [(w 9)]), (sL [(w 10)])] 2)] 2), (.sl [ff, nl, nl, (.sl [(i 6), ff, (sL [(w 1)]), (sL [(w 10)]), (i 10), ff, (sL [(w 9)]), (sL [(w 10)])] 2), ff, (sL [(w 1)]), (sL [(w 10)]), (.sl [(i 7), ff, (sL [(w 1)]), (sL [(w 10)]), (i 11), ff, (sL [(w 9)]), (sL [(w 10)])] 2)] 2)])]), (.sl [ff, nl, nl, ff, nl, nl, ff, nl, nl, ff, nl, nl, ff, (sL [(w 1)]), (sL []), ff, (sL [(w 1)]), (sL []), ff, (sL [(w 1)]), (sL []), ff, (sL [(w 1)]), (sL []), ff, nl, nl, ff, nl, nl, ff, nl, nl, ff, nl, nl] 12)]
noncomputable def lt65 : T := (.tu [(.sl [ff, (sL []), (sL []), ff, (sL []), (sL []), ff, (sL []), (sL []), ff, (sL []), (sL []), ff, (sL [(w 1)]), (sL []), ff, (sL [(w 1)]), (sL []), ff, (sL [(w 9)]), (sL [(w 10)]), ff, (sL [(w 9)]), (sL [(w 10)]), ff, (sL []), (sL []), ff, (sL []), (sL []), ff, (sL [(w 1)]), (sL [(w 10)]), ff, (sL [(w 1)]), (sL [(w 10)])] 12), (sL [(i 0), (i 0), (i 0), (i 0), (i 0), (i 0), (i 0), (i 0), (i 0), (i 0), (i 0), (i 0)]), (i 0)])
theorem lr65 : freshE Tryz.prog (evC Tryz.prog skE (orF Tryz.prog (tabO lb64) pfs) 1000) 0 131 la65 = some (lt65, true) := by kernel_rfl
noncomputable def lb65 : List (Nat × (List T → Option (T × Bool))) := (131, rowE la65 (lt65, true)) :: lb64
theorem lo65 : PureOk Tryz.prog (tabO lb65) := PureOk.cons lo64 (ev_row (by kernel_rfl) sk_ok lo64 pfs lr65) (by kernel_rfl)
/- clearway/pack.Pack: 985 operations -/
noncomputable def la66 : List T := [(.ag [(sL [(i (-100)), (i 0), (i 100)]), (sL [(i 0), (i 10)]), (sL [(i 0)]), (.sl [(.v (.int .u8 0)), (i 0), (i 0), (.v (.int .u8 1)), (i 10), (i 20)] 2), (i 5), (i 50), (i 1), (.sl [(i 0), ff, (sL [(w 1)]), (sL [])] 1), (.sl [(i 0), ff, (sL [(w 1)]), (sL [])] 1), ff, (sL [(w 1)]), (sL [(w 10)]), ff, nl, nl, ff, nl, nl]), (i 10)]
noncomputable def lt66 : T := (.tu [(.ag [(sL [(i (-100)), (i 0), (i 100)]), (sL [(i 0), (i 10)]), (sL [(i 0)]), (.sl [(.v (.int .u8 0)), (i 0), (i 0), (.v (.int .u8 1)), (i 10), (i 20)] 2), (i 5), (i 50), (i 1), (.sl [(i 0), ff, (sL [(w 1)]), (sL [])] 1), (.sl [(i 0), ff, (sL [(w 1)]), (sL [])] 1), ff, (sL [(w 1)]), (sL [(w 10)]), ff, nl, nl, ff, nl, nl, (i 10), (sL [(sL [(i 0), (i 1)]), (sL [(i 10), (i 11)]), (sL [(i 9), (i 10)]), (sL [(i 1), (i 2)])]), (sL [(sL [(i 0), (i 0), (i 0), (i 0), (i 1), (i 1), (i 2), (i 2), (i 0), (i 0), (i 3), (i 3)])])]), (i 0)])
theorem lr66 : freshE Tryz.prog (evC Tryz.prog skE (orF Tryz.prog (tabO lb65) pfs) 1000) 0 57 la66 = some (lt66, true) := by kernel_rfl
noncomputable def lb66 : List (Nat × (List T → Option (T × Bool))) := (57, rowE la66 (lt66, true)) :: lb65
theorem lo66 : PureOk Tryz.prog (tabO lb66) := PureOk.cons lo65 (ev_row (by kernel_rfl) sk_ok lo65 pfs lr66) (by kernel_rfl)
/- clearway/pack.Check: 564 operations -/
noncomputable def la67 : List T := [(.ag [(sL [(i (-100)), (i 0), (i 100)]), (sL [(i 0), (i 10)]), (sL [(i 0)]), (.sl [(.v (.int .u8 0)), (i 0), (i 0), (.v (.int .u8 1)), (i 10), (i 20)] 2), (i 5), (i 50), (i 1), (.sl [(i 0), ff, (sL [(w 1)]), (sL [])] 1), (.sl [(i 0), ff, (sL [(w 1)]), (sL [])] 1), ff, (sL [(w 1)]), (sL [(w 10)]), ff, nl, nl, ff, nl, nl, (i 10), (sL [(sL [(i 0), (i 1)]), (sL [(i 10), (i 11)]), (sL [(i 9), (i 10)]), (sL [(i 1), (i 2)])]), (sL [(sL [(i 0), (i 0), (i 0), (i 0), (i 1), (i 1), (i 2), (i 2), (i 0), (i 0), (i 3), (i 3)])])])]
noncomputable def lt67 : T := (i 0)
theorem lr67 : freshE Tryz.prog (evC Tryz.prog skE (orF Tryz.prog (tabO lb66) pfs) 1000) 0 61 la67 = some (lt67, true) := by kernel_rfl
noncomputable def lb67 : List (Nat × (List T → Option (T × Bool))) := (61, rowE la67 (lt67, true)) :: lb66
theorem lo67 : PureOk Tryz.prog (tabO lb67) := PureOk.cons lo66 (ev_row (by kernel_rfl) sk_ok lo66 pfs lr67) (by kernel_rfl)
/- clearway/pack.Encode: 765 operations -/
noncomputable def la68 : List T := [(.ag [(sL [(i (-100)), (i 0), (i 100)]), (sL [(i 0), (i 10)]), (sL [(i 0)]), (.sl [(.v (.int .u8 0)), (i 0), (i 0), (.v (.int .u8 1)), (i 10), (i 20)] 2), (i 5), (i 50), (i 1), (.sl [(i 0), ff, (sL [(w 1)]), (sL [])] 1), (.sl [(i 0), ff, (sL [(w 1)]), (sL [])] 1), ff, (sL [(w 1)]), (sL [(w 10)]), ff, nl, nl, ff, nl, nl, (i 10), (sL [(sL [(i 0), (i 1)]), (sL [(i 10), (i 11)]), (sL [(i 9), (i 10)]), (sL [(i 1), (i 2)])]), (sL [(sL [(i 0), (i 0), (i 0), (i 0), (i 1), (i 1), (i 2), (i 2), (i 0), (i 0), (i 3), (i 3)])])])]
noncomputable def lt68 : T := (.tu [(sL [(.v (.int .u8 10)), (.v (.int .u8 4)), (.v (.int .u8 0)), (.v (.int .u8 1)), (.v (.int .u8 10)), (.v (.int .u8 11)), (.v (.int .u8 9)), (.v (.int .u8 10)), (.v (.int .u8 1)), (.v (.int .u8 2)), (.v (.int .u8 4)), (.v (.int .u8 0)), (.v (.int .u8 2)), (.v (.int .u8 1)), (.v (.int .u8 2)), (.v (.int .u8 2)), (.v (.int .u8 2)), (.v (.int .u8 0)), (.v (.int .u8 2)), (.v (.int .u8 3))]), (i 0)])
theorem lr68 : freshE Tryz.prog (evC Tryz.prog skE (orF Tryz.prog (tabO lb67) pfs) 1000) 0 58 la68 = some (lt68, true) := by kernel_rfl
noncomputable def lb68 : List (Nat × (List T → Option (T × Bool))) := (58, rowE la68 (lt68, true)) :: lb67
theorem lo68 : PureOk Tryz.prog (tabO lb68) := PureOk.cons lo67 (ev_row (by kernel_rfl) sk_ok lo67 pfs lr68) (by kernel_rfl)
/- clearway/clearwaykit.EqualInts: 44 operations -/
noncomputable def la69 : List T := [(sL [(i 0), (i 1)]), (sL [(i 0), (i 1)])]
noncomputable def lt69 : T := tt
theorem lr69 : freshE Tryz.prog (evC Tryz.prog skE (orF Tryz.prog (tabO lb68) pfs) 1000) 0 64 la69 = some (lt69, true) := by kernel_rfl
noncomputable def lb69 : List (Nat × (List T → Option (T × Bool))) := (64, rowE la69 (lt69, true)) :: lb68
theorem lo69 : PureOk Tryz.prog (tabO lb69) := PureOk.cons lo68 (ev_row (by kernel_rfl) sk_ok lo68 pfs lr69) (by kernel_rfl)
/- clearway/clearwaykit.EqualInts: 44 operations -/
noncomputable def la70 : List T := [(sL [(i 10), (i 11)]), (sL [(i 10), (i 11)])]
noncomputable def lt70 : T := tt
theorem lr70 : freshE Tryz.prog (evC Tryz.prog skE (orF Tryz.prog (tabO lb69) pfs) 1000) 0 64 la70 = some (lt70, true) := by kernel_rfl
noncomputable def lb70 : List (Nat × (List T → Option (T × Bool))) := (64, rowE la70 (lt70, true)) :: lb69
theorem lo70 : PureOk Tryz.prog (tabO lb70) := PureOk.cons lo69 (ev_row (by kernel_rfl) sk_ok lo69 pfs lr70) (by kernel_rfl)
/- clearway/clearwaykit.EqualInts: 44 operations -/
noncomputable def la71 : List T := [(sL [(i 9), (i 10)]), (sL [(i 9), (i 10)])]
noncomputable def lt71 : T := tt
theorem lr71 : freshE Tryz.prog (evC Tryz.prog skE (orF Tryz.prog (tabO lb70) pfs) 1000) 0 64 la71 = some (lt71, true) := by kernel_rfl
noncomputable def lb71 : List (Nat × (List T → Option (T × Bool))) := (64, rowE la71 (lt71, true)) :: lb70
theorem lo71 : PureOk Tryz.prog (tabO lb71) := PureOk.cons lo70 (ev_row (by kernel_rfl) sk_ok lo70 pfs lr71) (by kernel_rfl)
/- clearway/clearwaykit.EqualInts: 44 operations -/
noncomputable def la72 : List T := [(sL [(i 1), (i 2)]), (sL [(i 1), (i 2)])]
noncomputable def lt72 : T := tt
theorem lr72 : freshE Tryz.prog (evC Tryz.prog skE (orF Tryz.prog (tabO lb71) pfs) 1000) 0 64 la72 = some (lt72, true) := by kernel_rfl
noncomputable def lb72 : List (Nat × (List T → Option (T × Bool))) := (64, rowE la72 (lt72, true)) :: lb71
theorem lo72 : PureOk Tryz.prog (tabO lb72) := PureOk.cons lo71 (ev_row (by kernel_rfl) sk_ok lo71 pfs lr72) (by kernel_rfl)
/- clearway/clearwaykit.EqualRows: 80 operations -/
noncomputable def la73 : List T := [(sL [(sL [(i 0), (i 1)]), (sL [(i 10), (i 11)]), (sL [(i 9), (i 10)]), (sL [(i 1), (i 2)])]), (sL [(sL [(i 0), (i 1)]), (sL [(i 10), (i 11)]), (sL [(i 9), (i 10)]), (sL [(i 1), (i 2)])])]
noncomputable def lt73 : T := tt
theorem lr73 : freshE Tryz.prog (evC Tryz.prog skE (orF Tryz.prog (tabO lb72) pfs) 1000) 0 59 la73 = some (lt73, true) := by kernel_rfl
noncomputable def lb73 : List (Nat × (List T → Option (T × Bool))) := (59, rowE la73 (lt73, true)) :: lb72
theorem lo73 : PureOk Tryz.prog (tabO lb73) := PureOk.cons lo72 (ev_row (by kernel_rfl) sk_ok lo72 pfs lr73) (by kernel_rfl)
/- clearway/clearwaykit.EqualInts: 204 operations -/
noncomputable def la74 : List T := [(sL [(i 0), (i 0), (i 0), (i 0), (i 1), (i 1), (i 2), (i 2), (i 0), (i 0), (i 3), (i 3)]), (sL [(i 0), (i 0), (i 0), (i 0), (i 1), (i 1), (i 2), (i 2), (i 0), (i 0), (i 3), (i 3)])]
noncomputable def lt74 : T := tt
theorem lr74 : freshE Tryz.prog (evC Tryz.prog skE (orF Tryz.prog (tabO lb73) pfs) 1000) 0 64 la74 = some (lt74, true) := by kernel_rfl
noncomputable def lb74 : List (Nat × (List T → Option (T × Bool))) := (64, rowE la74 (lt74, true)) :: lb73
theorem lo74 : PureOk Tryz.prog (tabO lb74) := PureOk.cons lo73 (ev_row (by kernel_rfl) sk_ok lo73 pfs lr74) (by kernel_rfl)
/- clearway/clearwaykit.EqualRows: 29 operations -/
noncomputable def la75 : List T := [(sL [(sL [(i 0), (i 0), (i 0), (i 0), (i 1), (i 1), (i 2), (i 2), (i 0), (i 0), (i 3), (i 3)])]), (sL [(sL [(i 0), (i 0), (i 0), (i 0), (i 1), (i 1), (i 2), (i 2), (i 0), (i 0), (i 3), (i 3)])])]
noncomputable def lt75 : T := tt
theorem lr75 : freshE Tryz.prog (evC Tryz.prog skE (orF Tryz.prog (tabO lb74) pfs) 1000) 0 59 la75 = some (lt75, true) := by kernel_rfl
noncomputable def lb75 : List (Nat × (List T → Option (T × Bool))) := (59, rowE la75 (lt75, true)) :: lb74
theorem lo75 : PureOk Tryz.prog (tabO lb75) := PureOk.cons lo74 (ev_row (by kernel_rfl) sk_ok lo74 pfs lr75) (by kernel_rfl)
/- clearway/clearwaykit.EqualBytes: 332 operations -/
noncomputable def la76 : List T := [(sL [(.v (.int .u8 10)), (.v (.int .u8 4)), (.v (.int .u8 0)), (.v (.int .u8 1)), (.v (.int .u8 10)), (.v (.int .u8 11)), (.v (.int .u8 9)), (.v (.int .u8 10)), (.v (.int .u8 1)), (.v (.int .u8 2)), (.v (.int .u8 4)), (.v (.int .u8 0)), (.v (.int .u8 2)), (.v (.int .u8 1)), (.v (.int .u8 2)), (.v (.int .u8 2)), (.v (.int .u8 2)), (.v (.int .u8 0)), (.v (.int .u8 2)), (.v (.int .u8 3))]), (sL [(.v (.int .u8 10)), (.v (.int .u8 4)), (.v (.int .u8 0)), (.v (.int .u8 1)), (.v (.int .u8 10)), (.v (.int .u8 11)), (.v (.int .u8 9)), (.v (.int .u8 10)), (.v (.int .u8 1)), (.v (.int .u8 2)), (.v (.int .u8 4)), (.v (.int .u8 0)), (.v (.int .u8 2)), (.v (.int .u8 1)), (.v (.int .u8 2)), (.v (.int .u8 2)), (.v (.int .u8 2)), (.v (.int .u8 0)), (.v (.int .u8 2)), (.v (.int .u8 3))])]
noncomputable def lt76 : T := tt
theorem lr76 : freshE Tryz.prog (evC Tryz.prog skE (orF Tryz.prog (tabO lb75) pfs) 1000) 0 60 la76 = some (lt76, true) := by kernel_rfl
noncomputable def lb76 : List (Nat × (List T → Option (T × Bool))) := (60, rowE la76 (lt76, true)) :: lb75
theorem lo76 : PureOk Tryz.prog (tabO lb76) := PureOk.cons lo75 (ev_row (by kernel_rfl) sk_ok lo75 pfs lr76) (by kernel_rfl)
/- clearway/clearwaylaw25.awake: 90 operations -/
noncomputable def la77 : List T := []
noncomputable def lt77 : T := tt
theorem lr77 : freshE Tryz.prog (evC Tryz.prog skE (orF Tryz.prog (tabO lb76) pfs) 1000) 0 55 la77 = some (lt77, true) := by kernel_rfl
noncomputable def lb77 : List (Nat × (List T → Option (T × Bool))) := (55, rowE la77 (lt77, true)) :: lb76
theorem lo77 : PureOk Tryz.prog (tabO lb77) := PureOk.cons lo76 (ev_row (by kernel_rfl) sk_ok lo76 pfs lr77) (by kernel_rfl)
/- clearway/clearwaykit.CopyModel: 38 operations -/
noncomputable def la78 : List T := [(.ag [(sL [(i 0)]), (sL [(i 0)]), (sL [(i 0)]), (.sl [(.v (.int .u8 0)), (i 0), (i 0)] 1), (i 0), (i 1), (i 1), (.sl [(i 0), ff, (sL [(w 1)]), (sL [])] 1), (.sl [(i 0), ff, (sL [(w 1)]), (sL [])] 1), ff, nl, nl, ff, nl, nl, ff, nl, nl])]
noncomputable def lt78 : T := (.ag [(sL [(i 0)]), (sL [(i 0)]), (sL [(i 0)]), (.sl [(.v (.int .u8 0)), (i 0), (i 0)] 1), (i 0), (i 1), (i 1), (.sl [(i 0), ff, (sL [(w 1)]), nl] 1), (.sl [(i 0), ff, (sL [(w 1)]), nl] 1), ff, nl, nl, ff, nl, nl, ff, nl, nl])
theorem lr78 : freshE Tryz.prog (evC Tryz.prog skE (orF Tryz.prog (tabO lb77) pfs) 1000) 0 56 la78 = some (lt78, true) := by kernel_rfl
noncomputable def lb78 : List (Nat × (List T → Option (T × Bool))) := (56, rowE la78 (lt78, true)) :: lb77
theorem lo78 : PureOk Tryz.prog (tabO lb78) := PureOk.cons lo77 (ev_row (by kernel_rfl) sk_ok lo77 pfs lr78) (by kernel_rfl)
/- clearway/pack.Pack: 35 operations -/
noncomputable def la79 : List T := [(.ag [nl, nl, nl, nl, (i 0), (i 0), (i 0), nl, nl, ff, nl, nl, ff, nl, nl, ff, nl, nl]), (i 0)]
noncomputable def lt79 : T := (.tu [(.ag [nl, nl, nl, nl, (i 0), (i 0), (i 0), nl, nl, ff, nl, nl, ff, nl, nl, ff, nl, nl, (i 0), nl, nl]), (i 3)])
theorem lr79 : freshE Tryz.prog (evC Tryz.prog skE (orF Tryz.prog (tabO lb78) pfs) 1000) 0 57 la79 = some (lt79, true) := by kernel_rfl
noncomputable def lb79 : List (Nat × (List T → Option (T × Bool))) := (57, rowE la79 (lt79, true)) :: lb78
theorem lo79 : PureOk Tryz.prog (tabO lb79) := PureOk.cons lo78 (ev_row (by kernel_rfl) sk_ok lo78 pfs lr79) (by kernel_rfl)
/- clearway/interp.Check: 152 operations -/
noncomputable def la80 : List T := [(sL [(sL [(i 0)]), (sL [(i 0)]), (sL [(i 0)])])]
noncomputable def lt80 : T := (i 0)
theorem lr80 : freshE Tryz.prog (evC Tryz.prog skE (orF Tryz.prog (tabO lb79) pfs) 1000) 0 157 la80 = some (lt80, true) := by kernel_rfl
noncomputable def lb80 : List (Nat × (List T → Option (T × Bool))) := (157, rowE la80 (lt80, true)) :: lb79
theorem lo80 : PureOk Tryz.prog (tabO lb80) := PureOk.cons lo79 (ev_row (by kernel_rfl) sk_ok lo79 pfs lr80) (by kernel_rfl)
/- clearway/dynamics.Check: 288 operations -/
noncomputable def la81 : List T := [(.ag [(sL [(i 0)]), (sL [(i 0)]), (sL [(i 0)]), (.sl [(.v (.int .u8 0)), (i 0), (i 0)] 1), (i 0), (i 1), (i 1), (.sl [(i 0), ff, (sL [(w 1)]), (sL [])] 1), (.sl [(i 0), ff, (sL [(w 1)]), (sL [])] 1), ff, nl, nl, ff, nl, nl, ff, nl, nl])]
noncomputable def lt81 : T := (i 0)
theorem lr81 : freshE Tryz.prog (evC Tryz.prog skE (orF Tryz.prog (tabO lb80) pfs) 1000) 0 119 la81 = some (lt81, true) := by kernel_rfl
noncomputable def lb81 : List (Nat × (List T → Option (T × Bool))) := (119, rowE la81 (lt81, true)) :: lb80
theorem lo81 : PureOk Tryz.prog (tabO lb81) := PureOk.cons lo80 (ev_row (by kernel_rfl) sk_ok lo80 pfs lr81) (by kernel_rfl)
/- clearway/pack.Pack: 44 operations -/
noncomputable def la82 : List T := [(.ag [(sL [(i 0)]), (sL [(i 0)]), (sL [(i 0)]), (.sl [(.v (.int .u8 0)), (i 0), (i 0)] 1), (i 0), (i 1), (i 1), (.sl [(i 0), ff, (sL [(w 1)]), (sL [])] 1), (.sl [(i 0), ff, (sL [(w 1)]), (sL [])] 1), ff, nl, nl, ff, nl, nl, ff, nl, nl]), (i 0)]
noncomputable def lt82 : T := (.tu [(.ag [nl, nl, nl, nl, (i 0), (i 0), (i 0), nl, nl, ff, nl, nl, ff, nl, nl, ff, nl, nl, (i 0), nl, nl]), (i 1)])
theorem lr82 : freshE Tryz.prog (evC Tryz.prog skE (orF Tryz.prog (tabO lb81) pfs) 1000) 0 57 la82 = some (lt82, true) := by kernel_rfl
noncomputable def lb82 : List (Nat × (List T → Option (T × Bool))) := (57, rowE la82 (lt82, true)) :: lb81
theorem lo82 : PureOk Tryz.prog (tabO lb82) := PureOk.cons lo81 (ev_row (by kernel_rfl) sk_ok lo81 pfs lr82) (by kernel_rfl)
/- clearway/pack.Pack: 44 operations -/
noncomputable def la83 : List T := [(.ag [(sL [(i 0)]), (sL [(i 0)]), (sL [(i 0)]), (.sl [(.v (.int .u8 0)), (i 0), (i 0)] 1), (i 0), (i 1), (i 1), (.sl [(i 0), ff, (sL [(w 1)]), (sL [])] 1), (.sl [(i 0), ff, (sL [(w 1)]), (sL [])] 1), ff, nl, nl, ff, nl, nl, ff, nl, nl]), (i 1048577)]
noncomputable def lt83 : T := (.tu [(.ag [nl, nl, nl, nl, (i 0), (i 0), (i 0), nl, nl, ff, nl, nl, ff, nl, nl, ff, nl, nl, (i 0), nl, nl]), (i 1)])
theorem lr83 : freshE Tryz.prog (evC Tryz.prog skE (orF Tryz.prog (tabO lb82) pfs) 1000) 0 57 la83 = some (lt83, true) := by kernel_rfl
noncomputable def lb83 : List (Nat × (List T → Option (T × Bool))) := (57, rowE la83 (lt83, true)) :: lb82
theorem lo83 : PureOk Tryz.prog (tabO lb83) := PureOk.cons lo82 (ev_row (by kernel_rfl) sk_ok lo82 pfs lr83) (by kernel_rfl)
end Go.Proofs.YtdfmdiakjdggbaaGreatDoor

/- Parts of the proof: L1c L2. By an AI agent. -/
import Derived.Test.YtdfmdiakjdggbaaGreatDoorBaseA
import Derived.Test.YtdfmdiakjdggbaaGreatDoorBaseB
import Derived.Test.YtdfmdiakjdggbaaGreatDoorBaseC
import Derived.Test.YtdfmdiakjdggbaaGreatDoorBaseD
import Derived.Test.YtdfmdiakjdggbaaGreatDoorBaseE
import Derived.Test.YtdfmdiakjdggbaaGreatDoorBaseF
import Derived.Test.YtdfmdiakjdggbaaGreatDoorBaseG
set_option linter.unusedVariables false
set_option linter.unusedSimpArgs false
set_option linter.unnecessarySimpa false
/- Closed calls, reckoned by the kernel; printed by a program of this repo. By an AI agent. -/
namespace Go.Proofs.YtdfmdiakjdggbaaGreatDoor
open Go Go.Gv Go.Ev
set_option maxRecDepth 1000000
/- clearway/pack.Pack: 985 operations -/
noncomputable def la66 : List T := [(.ag [(sL [(i (-100)), (i 0), (i 100)]), (sL [(i 0), (i 10)]), (sL [(i 0)]), (.sl [(.v (.int .u8 0)), (i 0), (i 0), (.v (.int .u8 1)), (i 10), (i 20)] 2), (i 5), (i 50), (i 1), (.sl [(i 0), ff, (sL [(w 1)]), (sL [])] 1), (.sl [(i 0), ff, (sL [(w 1)]), (sL [])] 1), ff, (sL [(w 1)]), (sL [(w 10)]), ff, nl, nl, ff, nl, nl]), (i 10)]
noncomputable def lt66 : T := (.tu [(.ag [(sL [(i (-100)), (i 0), (i 100)]), (sL [(i 0), (i 10)]), (sL [(i 0)]), (.sl [(.v (.int .u8 0)), (i 0), (i 0), (.v (.int .u8 1)), (i 10), (i 20)] 2), (i 5), (i 50), (i 1), (.sl [(i 0), ff, (sL [(w 1)]), (sL [])] 1), (.sl [(i 0), ff, (sL [(w 1)]), (sL [])] 1), ff, (sL [(w 1)]), (sL [(w 10)]), ff, nl, nl, ff, nl, nl, (i 10), (sL [(sL [(i 0), (i 1)]), (sL [(i 10), (i 11)]), (sL [(i 9), (i 10)]), (sL [(i 1), (i 2)])]), (sL [(sL [(i 0), (i 0), (i 0), (i 0), (i 1), (i 1), (i 2), (i 2), (i 0), (i 0), (i 3), (i 3)])])]), (i 0)])
theorem lr66 : freshE Tryz.prog (evC Tryz.prog skE (orF Tryz.prog (tabO lb65) pfs) 1000) 0 57 la66 = some (lt66, true) := by kernel_rfl
noncomputable def lb66 : List (Nat × (List T → Option (T × Bool))) := (57, rowE la66 (lt66, true)) :: lb65
theorem lo66 : PureOk Tryz.prog (tabO lb66) := PureOk.cons lo65 (ev_row (by kernel_rfl) sk_ok lo65 pfs lr66) (by kernel_rfl)
/- clearway/pack.Check: 594 operations -/
noncomputable def la67 : List T := [(.ag [(sL [(i (-100)), (i 0), (i 100)]), (sL [(i 0), (i 10)]), (sL [(i 0)]), (.sl [(.v (.int .u8 0)), (i 0), (i 0), (.v (.int .u8 1)), (i 10), (i 20)] 2), (i 5), (i 50), (i 1), (.sl [(i 0), ff, (sL [(w 1)]), (sL [])] 1), (.sl [(i 0), ff, (sL [(w 1)]), (sL [])] 1), ff, (sL [(w 1)]), (sL [(w 10)]), ff, nl, nl, ff, nl, nl, (i 10), (sL [(sL [(i 0), (i 1)]), (sL [(i 10), (i 11)]), (sL [(i 9), (i 10)]), (sL [(i 1), (i 2)])]), (sL [(sL [(i 0), (i 0), (i 0), (i 0), (i 1), (i 1), (i 2), (i 2), (i 0), (i 0), (i 3), (i 3)])])])]
noncomputable def lt67 : T := (i 0)
theorem lr67 : freshE Tryz.prog (evC Tryz.prog skE (orF Tryz.prog (tabO lb66) pfs) 1000) 0 61 la67 = some (lt67, true) := by kernel_rfl
noncomputable def lb67 : List (Nat × (List T → Option (T × Bool))) := (61, rowE la67 (lt67, true)) :: lb66
theorem lo67 : PureOk Tryz.prog (tabO lb67) := PureOk.cons lo66 (ev_row (by kernel_rfl) sk_ok lo66 pfs lr67) (by kernel_rfl)
/- clearway/interp.Weights: 412 operations -/
noncomputable def la68 : List T := [(sL [(sL [(i (-100)), (i 0), (i 100)]), (sL [(i 0), (i 10)]), (sL [(i 0)])]), (sL [(i 100), (i 10), (i 0)])]
noncomputable def lt68 : T := (.tu [(.sl [(i 5), ff, (sL [(w 1)]), (sL [])] 1), (i 0)])
theorem lr68 : freshE Tryz.prog (evC Tryz.prog skE (orF Tryz.prog (tabO lb67) pfs) 1000) 0 78 la68 = some (lt68, true) := by kernel_rfl
noncomputable def lb68 : List (Nat × (List T → Option (T × Bool))) := (78, rowE la68 (lt68, true)) :: lb67
theorem lo68 : PureOk Tryz.prog (tabO lb68) := PureOk.cons lo67 (ev_row (by kernel_rfl) sk_ok lo67 pfs lr68) (by kernel_rfl)
/- clearway/lookup.Scores$1: 161 operations -/
noncomputable def la69 : List T := [(i 0), (.fp [(.sl [(i 5), ff, (sL [(w 1)]), (sL [])] 1)]), (.fp [(sL [(i (-100)), (i 0), (i 100)]), (sL [(i 0), (i 10)]), (sL [(i 0)]), (.sl [(.v (.int .u8 0)), (i 0), (i 0), (.v (.int .u8 1)), (i 10), (i 20)] 2), (i 5), (i 50), (i 1), (.sl [(i 0), ff, (sL [(w 1)]), (sL [])] 1), (.sl [(i 0), ff, (sL [(w 1)]), (sL [])] 1), ff, (sL [(w 1)]), (sL [(w 10)]), ff, nl, nl, ff, nl, nl, (i 10), (sL [(sL [(i 0), (i 1)]), (sL [(i 10), (i 11)]), (sL [(i 9), (i 10)]), (sL [(i 1), (i 2)])]), (sL [(sL [(i 0), (i 0), (i 0), (i 0), (i 1), (i 1), (i 2), (i 2), (i 0), (i 0), (i 3), (i 3)])])]), (.fp [(i 1)]), (.fp [(i 2)]), (.fp [(i 0)])]
noncomputable def lt69 : T := (.tu [(.ag [ff, (sL [(w 1)]), (sL [(w 10)])]), (i 0)])
theorem lr69 : freshE Tryz.prog (evC Tryz.prog skE (orF Tryz.prog (tabO lb68) pfs) 1000) 0 79 la69 = some (lt69, true) := by kernel_rfl
noncomputable def lb69 : List (Nat × (List T → Option (T × Bool))) := (79, rowE la69 (lt69, true)) :: lb68
theorem lo69 : PureOk Tryz.prog (tabO lb69) := PureOk.cons lo68 (ev_row (by kernel_rfl) sk_ok lo68 pfs lr69) (by kernel_rfl)
/- clearway/lookup.Scores$1: 161 operations -/
noncomputable def la70 : List T := [(i 1), (.fp [(.sl [(i 5), ff, (sL [(w 1)]), (sL [])] 1)]), (.fp [(sL [(i (-100)), (i 0), (i 100)]), (sL [(i 0), (i 10)]), (sL [(i 0)]), (.sl [(.v (.int .u8 0)), (i 0), (i 0), (.v (.int .u8 1)), (i 10), (i 20)] 2), (i 5), (i 50), (i 1), (.sl [(i 0), ff, (sL [(w 1)]), (sL [])] 1), (.sl [(i 0), ff, (sL [(w 1)]), (sL [])] 1), ff, (sL [(w 1)]), (sL [(w 10)]), ff, nl, nl, ff, nl, nl, (i 10), (sL [(sL [(i 0), (i 1)]), (sL [(i 10), (i 11)]), (sL [(i 9), (i 10)]), (sL [(i 1), (i 2)])]), (sL [(sL [(i 0), (i 0), (i 0), (i 0), (i 1), (i 1), (i 2), (i 2), (i 0), (i 0), (i 3), (i 3)])])]), (.fp [(i 1)]), (.fp [(i 2)]), (.fp [(i 0)])]
noncomputable def lt70 : T := (.tu [(.ag [ff, (sL [(w 1)]), (sL [(w 5)])]), (i 0)])
theorem lr70 : freshE Tryz.prog (evC Tryz.prog skE (orF Tryz.prog (tabO lb69) pfs) 1000) 0 79 la70 = some (lt70, true) := by kernel_rfl
noncomputable def lb70 : List (Nat × (List T → Option (T × Bool))) := (79, rowE la70 (lt70, true)) :: lb69
theorem lo70 : PureOk Tryz.prog (tabO lb70) := PureOk.cons lo69 (ev_row (by kernel_rfl) sk_ok lo69 pfs lr70) (by kernel_rfl)
/- clearway/lookup.Scores: 173 operations -/
noncomputable def la71 : List T := [(.ag [(sL [(i (-100)), (i 0), (i 100)]), (sL [(i 0), (i 10)]), (sL [(i 0)]), (.sl [(.v (.int .u8 0)), (i 0), (i 0), (.v (.int .u8 1)), (i 10), (i 20)] 2), (i 5), (i 50), (i 1), (.sl [(i 0), ff, (sL [(w 1)]), (sL [])] 1), (.sl [(i 0), ff, (sL [(w 1)]), (sL [])] 1), ff, (sL [(w 1)]), (sL [(w 10)]), ff, nl, nl, ff, nl, nl, (i 10), (sL [(sL [(i 0), (i 1)]), (sL [(i 10), (i 11)]), (sL [(i 9), (i 10)]), (sL [(i 1), (i 2)])]), (sL [(sL [(i 0), (i 0), (i 0), (i 0), (i 1), (i 1), (i 2), (i 2), (i 0), (i 0), (i 3), (i 3)])])]), (i 1), (i 100), (i 10), (i 0), (i 0)]
noncomputable def lt71 : T := (.tu [(.sl [ff, (sL [(w 1)]), (sL [(w 10)]), ff, (sL [(w 1)]), (sL [(w 5)])] 2), (i 0)])
theorem lr71 : freshE Tryz.prog (evC Tryz.prog skE (orF Tryz.prog (tabO lb70) pfs) 1000) 0 32 la71 = some (lt71, true) := by kernel_rfl
noncomputable def lb71 : List (Nat × (List T → Option (T × Bool))) := (32, rowE la71 (lt71, true)) :: lb70
theorem lo71 : PureOk Tryz.prog (tabO lb71) := PureOk.cons lo70 (ev_row (by kernel_rfl) sk_ok lo70 pfs lr71) (by kernel_rfl)
/- clearway/lookup.Least: 272 operations -/
noncomputable def la72 : List T := [(.sl [ff, (sL [(w 1)]), (sL [(w 10)]), ff, (sL [(w 1)]), (sL [(w 5)])] 2), (sL [tt, tt])]
noncomputable def lt72 : T := (.tu [(i 0), (i 0)])
theorem lr72 : freshE Tryz.prog (evC Tryz.prog skE (orF Tryz.prog (tabO lb71) pfs) 1000) 0 54 la72 = some (lt72, true) := by kernel_rfl
noncomputable def lb72 : List (Nat × (List T → Option (T × Bool))) := (54, rowE la72 (lt72, true)) :: lb71
theorem lo72 : PureOk Tryz.prog (tabO lb72) := PureOk.cons lo71 (ev_row (by kernel_rfl) sk_ok lo71 pfs lr72) (by kernel_rfl)
/- clearway/interp.Weights: 1042 operations -/
noncomputable def la73 : List T := [(sL [(sL [(i (-100)), (i 0), (i 100)]), (sL [(i 0), (i 10)]), (sL [(i 0)])]), (sL [(i 50), (i 5), (i 0)])]
noncomputable def lt73 : T := (.tu [(.sl [(i 2), ff, (sL [(w 1)]), (sL [(w 4)]), (i 3), ff, (sL [(w 1)]), (sL [(w 4)]), (i 4), ff, (sL [(w 1)]), (sL [(w 4)]), (i 5), ff, (sL [(w 1)]), (sL [(w 4)])] 4), (i 0)])
theorem lr73 : freshE Tryz.prog (evC Tryz.prog skE (orF Tryz.prog (tabO lb72) pfs) 1000) 0 78 la73 = some (lt73, true) := by kernel_rfl
noncomputable def lb73 : List (Nat × (List T → Option (T × Bool))) := (78, rowE la73 (lt73, true)) :: lb72
theorem lo73 : PureOk Tryz.prog (tabO lb73) := PureOk.cons lo72 (ev_row (by kernel_rfl) sk_ok lo72 pfs lr73) (by kernel_rfl)
/- clearway/rat.Dot: 322 operations -/
noncomputable def la74 : List T := [(.sl [ff, (sL [(w 1)]), (sL [(w 4)]), ff, (sL [(w 1)]), (sL [(w 4)]), ff, (sL [(w 1)]), (sL [(w 4)]), ff, (sL [(w 1)]), (sL [(w 4)])] 4), (.sl [ff, (sL [(w 10)]), (sL []), ff, (sL [(w 9)]), (sL []), ff, (sL []), (sL []), ff, (sL [(w 1)]), (sL [])] 4)]
noncomputable def lt74 : T := (.tu [(.ag [ff, (sL [(w 5)]), (sL [])]), (i 0)])
theorem lr74 : freshE Tryz.prog (evC Tryz.prog skE (orF Tryz.prog (tabO lb73) pfs) 1000) 0 70 la74 = some (lt74, true) := by kernel_rfl
noncomputable def lb74 : List (Nat × (List T → Option (T × Bool))) := (70, rowE la74 (lt74, true)) :: lb73
theorem lo74 : PureOk Tryz.prog (tabO lb74) := PureOk.cons lo73 (ev_row (by kernel_rfl) sk_ok lo73 pfs lr74) (by kernel_rfl)
/- clearway/lookup.Scores$1: 232 operations -/
noncomputable def la75 : List T := [(i 0), (.fp [(.sl [(i 2), ff, (sL [(w 1)]), (sL [(w 4)]), (i 3), ff, (sL [(w 1)]), (sL [(w 4)]), (i 4), ff, (sL [(w 1)]), (sL [(w 4)]), (i 5), ff, (sL [(w 1)]), (sL [(w 4)])] 4)]), (.fp [(sL [(i (-100)), (i 0), (i 100)]), (sL [(i 0), (i 10)]), (sL [(i 0)]), (.sl [(.v (.int .u8 0)), (i 0), (i 0), (.v (.int .u8 1)), (i 10), (i 20)] 2), (i 5), (i 50), (i 1), (.sl [(i 0), ff, (sL [(w 1)]), (sL [])] 1), (.sl [(i 0), ff, (sL [(w 1)]), (sL [])] 1), ff, (sL [(w 1)]), (sL [(w 10)]), ff, nl, nl, ff, nl, nl, (i 10), (sL [(sL [(i 0), (i 1)]), (sL [(i 10), (i 11)]), (sL [(i 9), (i 10)]), (sL [(i 1), (i 2)])]), (sL [(sL [(i 0), (i 0), (i 0), (i 0), (i 1), (i 1), (i 2), (i 2), (i 0), (i 0), (i 3), (i 3)])])]), (.fp [(i 1)]), (.fp [(i 2)]), (.fp [(i 0)])]
noncomputable def lt75 : T := (.tu [(.ag [ff, (sL [(w 1)]), (sL [(w 2)])]), (i 0)])
theorem lr75 : freshE Tryz.prog (evC Tryz.prog skE (orF Tryz.prog (tabO lb74) pfs) 1000) 0 79 la75 = some (lt75, true) := by kernel_rfl
noncomputable def lb75 : List (Nat × (List T → Option (T × Bool))) := (79, rowE la75 (lt75, true)) :: lb74
theorem lo75 : PureOk Tryz.prog (tabO lb75) := PureOk.cons lo74 (ev_row (by kernel_rfl) sk_ok lo74 pfs lr75) (by kernel_rfl)
/- clearway/rat.Dot: 322 operations -/
noncomputable def la76 : List T := [(.sl [ff, (sL [(w 1)]), (sL [(w 4)]), ff, (sL [(w 1)]), (sL [(w 4)]), ff, (sL [(w 1)]), (sL [(w 4)]), ff, (sL [(w 1)]), (sL [(w 4)])] 4), (.sl [ff, (sL [(w 11)]), (sL []), ff, (sL [(w 10)]), (sL []), ff, (sL [(w 1)]), (sL []), ff, (sL [(w 2)]), (sL [])] 4)]
noncomputable def lt76 : T := (.tu [(.ag [ff, (sL [(w 6)]), (sL [])]), (i 0)])
theorem lr76 : freshE Tryz.prog (evC Tryz.prog skE (orF Tryz.prog (tabO lb75) pfs) 1000) 0 70 la76 = some (lt76, true) := by kernel_rfl
noncomputable def lb76 : List (Nat × (List T → Option (T × Bool))) := (70, rowE la76 (lt76, true)) :: lb75
theorem lo76 : PureOk Tryz.prog (tabO lb76) := PureOk.cons lo75 (ev_row (by kernel_rfl) sk_ok lo75 pfs lr76) (by kernel_rfl)
/- clearway/lookup.Scores$1: 232 operations -/
noncomputable def la77 : List T := [(i 1), (.fp [(.sl [(i 2), ff, (sL [(w 1)]), (sL [(w 4)]), (i 3), ff, (sL [(w 1)]), (sL [(w 4)]), (i 4), ff, (sL [(w 1)]), (sL [(w 4)]), (i 5), ff, (sL [(w 1)]), (sL [(w 4)])] 4)]), (.fp [(sL [(i (-100)), (i 0), (i 100)]), (sL [(i 0), (i 10)]), (sL [(i 0)]), (.sl [(.v (.int .u8 0)), (i 0), (i 0), (.v (.int .u8 1)), (i 10), (i 20)] 2), (i 5), (i 50), (i 1), (.sl [(i 0), ff, (sL [(w 1)]), (sL [])] 1), (.sl [(i 0), ff, (sL [(w 1)]), (sL [])] 1), ff, (sL [(w 1)]), (sL [(w 10)]), ff, nl, nl, ff, nl, nl, (i 10), (sL [(sL [(i 0), (i 1)]), (sL [(i 10), (i 11)]), (sL [(i 9), (i 10)]), (sL [(i 1), (i 2)])]), (sL [(sL [(i 0), (i 0), (i 0), (i 0), (i 1), (i 1), (i 2), (i 2), (i 0), (i 0), (i 3), (i 3)])])]), (.fp [(i 1)]), (.fp [(i 2)]), (.fp [(i 0)])]
noncomputable def lt77 : T := (.tu [(.ag [ff, (sL [(w 3)]), (sL [(w 5)])]), (i 0)])
theorem lr77 : freshE Tryz.prog (evC Tryz.prog skE (orF Tryz.prog (tabO lb76) pfs) 1000) 0 79 la77 = some (lt77, true) := by kernel_rfl
noncomputable def lb77 : List (Nat × (List T → Option (T × Bool))) := (79, rowE la77 (lt77, true)) :: lb76
theorem lo77 : PureOk Tryz.prog (tabO lb77) := PureOk.cons lo76 (ev_row (by kernel_rfl) sk_ok lo76 pfs lr77) (by kernel_rfl)
/- clearway/lookup.Scores: 173 operations -/
noncomputable def la78 : List T := [(.ag [(sL [(i (-100)), (i 0), (i 100)]), (sL [(i 0), (i 10)]), (sL [(i 0)]), (.sl [(.v (.int .u8 0)), (i 0), (i 0), (.v (.int .u8 1)), (i 10), (i 20)] 2), (i 5), (i 50), (i 1), (.sl [(i 0), ff, (sL [(w 1)]), (sL [])] 1), (.sl [(i 0), ff, (sL [(w 1)]), (sL [])] 1), ff, (sL [(w 1)]), (sL [(w 10)]), ff, nl, nl, ff, nl, nl, (i 10), (sL [(sL [(i 0), (i 1)]), (sL [(i 10), (i 11)]), (sL [(i 9), (i 10)]), (sL [(i 1), (i 2)])]), (sL [(sL [(i 0), (i 0), (i 0), (i 0), (i 1), (i 1), (i 2), (i 2), (i 0), (i 0), (i 3), (i 3)])])]), (i 1), (i 50), (i 5), (i 0), (i 0)]
noncomputable def lt78 : T := (.tu [(.sl [ff, (sL [(w 1)]), (sL [(w 2)]), ff, (sL [(w 3)]), (sL [(w 5)])] 2), (i 0)])
theorem lr78 : freshE Tryz.prog (evC Tryz.prog skE (orF Tryz.prog (tabO lb77) pfs) 1000) 0 32 la78 = some (lt78, true) := by kernel_rfl
noncomputable def lb78 : List (Nat × (List T → Option (T × Bool))) := (32, rowE la78 (lt78, true)) :: lb77
theorem lo78 : PureOk Tryz.prog (tabO lb78) := PureOk.cons lo77 (ev_row (by kernel_rfl) sk_ok lo77 pfs lr78) (by kernel_rfl)
/- clearway/clearwaylaw26.awake: 371 operations -/
noncomputable def la79 : List T := []
noncomputable def lt79 : T := tt
theorem lr79 : freshE Tryz.prog (evC Tryz.prog skE (orF Tryz.prog (tabO lb78) pfs) 1000) 0 50 la79 = some (lt79, true) := by kernel_rfl
noncomputable def lb79 : List (Nat × (List T → Option (T × Bool))) := (50, rowE la79 (lt79, true)) :: lb78
theorem lo79 : PureOk Tryz.prog (tabO lb79) := PureOk.cons lo78 (ev_row (by kernel_rfl) sk_ok lo78 pfs lr79) (by kernel_rfl)
/- clearway/interp.Check: 193 operations -/
noncomputable def la80 : List T := [(sL [(sL [(i 0)]), (sL [(i 0)]), (sL [(i 0)])])]
noncomputable def lt80 : T := (i 0)
theorem lr80 : freshE Tryz.prog (evC Tryz.prog skE (orF Tryz.prog (tabO lb79) pfs) 1000) 0 157 la80 = some (lt80, true) := by kernel_rfl
noncomputable def lb80 : List (Nat × (List T → Option (T × Bool))) := (157, rowE la80 (lt80, true)) :: lb79
theorem lo80 : PureOk Tryz.prog (tabO lb80) := PureOk.cons lo79 (ev_row (by kernel_rfl) sk_ok lo79 pfs lr80) (by kernel_rfl)
/- clearway/dynamics.Check: 634 operations -/
noncomputable def la81 : List T := [(.ag [(sL [(i 0)]), (sL [(i 0)]), (sL [(i 0)]), (.sl [(.v (.int .u8 0)), (i 0), (i 0), (.v (.int .u8 1)), (i 0), (i 0)] 2), (i 0), (i 0), (i 2), (.sl [(i 0), ff, (sL [(w 1)]), (sL [])] 1), (.sl [(i 0), ff, (sL [(w 1)]), (sL [])] 1), ff, nl, nl, ff, nl, nl, ff, nl, nl])]
noncomputable def lt81 : T := (i 0)
theorem lr81 : freshE Tryz.prog (evC Tryz.prog skE (orF Tryz.prog (tabO lb80) pfs) 1000) 0 119 la81 = some (lt81, true) := by kernel_rfl
noncomputable def lb81 : List (Nat × (List T → Option (T × Bool))) := (119, rowE la81 (lt81, true)) :: lb80
theorem lo81 : PureOk Tryz.prog (tabO lb81) := PureOk.cons lo80 (ev_row (by kernel_rfl) sk_ok lo80 pfs lr81) (by kernel_rfl)
/- clearway/pack.Check: 316 operations -/
noncomputable def la82 : List T := [(.ag [(sL [(i 0)]), (sL [(i 0)]), (sL [(i 0)]), (.sl [(.v (.int .u8 0)), (i 0), (i 0), (.v (.int .u8 1)), (i 0), (i 0)] 2), (i 0), (i 0), (i 2), (.sl [(i 0), ff, (sL [(w 1)]), (sL [])] 1), (.sl [(i 0), ff, (sL [(w 1)]), (sL [])] 1), ff, nl, nl, ff, nl, nl, ff, nl, nl, (i 2), (sL [(sL [(i 1), (i 0)]), (sL [(i 3), (i 3)])]), (sL [(sL [(i 0), (i 0)]), (sL [(i 1), (i 0)])])])]
noncomputable def lt82 : T := (i 0)
theorem lr82 : freshE Tryz.prog (evC Tryz.prog skE (orF Tryz.prog (tabO lb81) pfs) 1000) 0 61 la82 = some (lt82, true) := by kernel_rfl
noncomputable def lb82 : List (Nat × (List T → Option (T × Bool))) := (61, rowE la82 (lt82, true)) :: lb81
theorem lo82 : PureOk Tryz.prog (tabO lb82) := PureOk.cons lo81 (ev_row (by kernel_rfl) sk_ok lo81 pfs lr82) (by kernel_rfl)
/- clearway/interp.Weights: 364 operations -/
noncomputable def la83 : List T := [(sL [(sL [(i 0)]), (sL [(i 0)]), (sL [(i 0)])]), (sL [(i (-100000)), (i 100), (i (-100))])]
noncomputable def lt83 : T := (.tu [(.sl [(i 0), ff, (sL [(w 1)]), (sL [])] 1), (i 0)])
theorem lr83 : freshE Tryz.prog (evC Tryz.prog skE (orF Tryz.prog (tabO lb82) pfs) 1000) 0 78 la83 = some (lt83, true) := by kernel_rfl
noncomputable def lb83 : List (Nat × (List T → Option (T × Bool))) := (78, rowE la83 (lt83, true)) :: lb82
theorem lo83 : PureOk Tryz.prog (tabO lb83) := PureOk.cons lo82 (ev_row (by kernel_rfl) sk_ok lo82 pfs lr83) (by kernel_rfl)
/- clearway/lookup.Scores$1: 161 operations -/
noncomputable def la84 : List T := [(i 0), (.fp [(.sl [(i 0), ff, (sL [(w 1)]), (sL [])] 1)]), (.fp [(sL [(i 0)]), (sL [(i 0)]), (sL [(i 0)]), (.sl [(.v (.int .u8 0)), (i 0), (i 0), (.v (.int .u8 1)), (i 0), (i 0)] 2), (i 0), (i 0), (i 2), (.sl [(i 0), ff, (sL [(w 1)]), (sL [])] 1), (.sl [(i 0), ff, (sL [(w 1)]), (sL [])] 1), ff, nl, nl, ff, nl, nl, ff, nl, nl, (i 2), (sL [(sL [(i 1), (i 0)]), (sL [(i 3), (i 3)])]), (sL [(sL [(i 0), (i 0)]), (sL [(i 1), (i 0)])])]), (.fp [(i 2)]), (.fp [(i 2)]), (.fp [(i 0)])]
noncomputable def lt84 : T := (.tu [(.ag [ff, (sL [(w 3)]), (sL [(w 2)])]), (i 0)])
theorem lr84 : freshE Tryz.prog (evC Tryz.prog skE (orF Tryz.prog (tabO lb83) pfs) 1000) 0 79 la84 = some (lt84, true) := by kernel_rfl
noncomputable def lb84 : List (Nat × (List T → Option (T × Bool))) := (79, rowE la84 (lt84, true)) :: lb83
theorem lo84 : PureOk Tryz.prog (tabO lb84) := PureOk.cons lo83 (ev_row (by kernel_rfl) sk_ok lo83 pfs lr84) (by kernel_rfl)
/- clearway/lookup.Scores$1: 161 operations -/
noncomputable def la85 : List T := [(i 1), (.fp [(.sl [(i 0), ff, (sL [(w 1)]), (sL [])] 1)]), (.fp [(sL [(i 0)]), (sL [(i 0)]), (sL [(i 0)]), (.sl [(.v (.int .u8 0)), (i 0), (i 0), (.v (.int .u8 1)), (i 0), (i 0)] 2), (i 0), (i 0), (i 2), (.sl [(i 0), ff, (sL [(w 1)]), (sL [])] 1), (.sl [(i 0), ff, (sL [(w 1)]), (sL [])] 1), ff, nl, nl, ff, nl, nl, ff, nl, nl, (i 2), (sL [(sL [(i 1), (i 0)]), (sL [(i 3), (i 3)])]), (sL [(sL [(i 0), (i 0)]), (sL [(i 1), (i 0)])])]), (.fp [(i 2)]), (.fp [(i 2)]), (.fp [(i 0)])]
noncomputable def lt85 : T := (.tu [(.ag [ff, (sL [(w 3)]), (sL [(w 2)])]), (i 0)])
theorem lr85 : freshE Tryz.prog (evC Tryz.prog skE (orF Tryz.prog (tabO lb84) pfs) 1000) 0 79 la85 = some (lt85, true) := by kernel_rfl
noncomputable def lb85 : List (Nat × (List T → Option (T × Bool))) := (79, rowE la85 (lt85, true)) :: lb84
theorem lo85 : PureOk Tryz.prog (tabO lb85) := PureOk.cons lo84 (ev_row (by kernel_rfl) sk_ok lo84 pfs lr85) (by kernel_rfl)
/- clearway/lookup.Scores: 173 operations -/
noncomputable def la86 : List T := [(.ag [(sL [(i 0)]), (sL [(i 0)]), (sL [(i 0)]), (.sl [(.v (.int .u8 0)), (i 0), (i 0), (.v (.int .u8 1)), (i 0), (i 0)] 2), (i 0), (i 0), (i 2), (.sl [(i 0), ff, (sL [(w 1)]), (sL [])] 1), (.sl [(i 0), ff, (sL [(w 1)]), (sL [])] 1), ff, nl, nl, ff, nl, nl, ff, nl, nl, (i 2), (sL [(sL [(i 1), (i 0)]), (sL [(i 3), (i 3)])]), (sL [(sL [(i 0), (i 0)]), (sL [(i 1), (i 0)])])]), (i 2), (i (-100000)), (i 100), (i (-100)), (i 0)]
noncomputable def lt86 : T := (.tu [(.sl [ff, (sL [(w 3)]), (sL [(w 2)]), ff, (sL [(w 3)]), (sL [(w 2)])] 2), (i 0)])
theorem lr86 : freshE Tryz.prog (evC Tryz.prog skE (orF Tryz.prog (tabO lb85) pfs) 1000) 0 32 la86 = some (lt86, true) := by kernel_rfl
noncomputable def lb86 : List (Nat × (List T → Option (T × Bool))) := (32, rowE la86 (lt86, true)) :: lb85
theorem lo86 : PureOk Tryz.prog (tabO lb86) := PureOk.cons lo85 (ev_row (by kernel_rfl) sk_ok lo85 pfs lr86) (by kernel_rfl)
/- clearway/interp.Weights: 364 operations -/
noncomputable def la87 : List T := [(sL [(sL [(i 0)]), (sL [(i 0)]), (sL [(i 0)])]), (sL [(i 7), (i 7), (i 7)])]
noncomputable def lt87 : T := (.tu [(.sl [(i 0), ff, (sL [(w 1)]), (sL [])] 1), (i 0)])
theorem lr87 : freshE Tryz.prog (evC Tryz.prog skE (orF Tryz.prog (tabO lb86) pfs) 1000) 0 78 la87 = some (lt87, true) := by kernel_rfl
noncomputable def lb87 : List (Nat × (List T → Option (T × Bool))) := (78, rowE la87 (lt87, true)) :: lb86
theorem lo87 : PureOk Tryz.prog (tabO lb87) := PureOk.cons lo86 (ev_row (by kernel_rfl) sk_ok lo86 pfs lr87) (by kernel_rfl)
/- clearway/lookup.Scores$1: 161 operations -/
noncomputable def la88 : List T := [(i 0), (.fp [(.sl [(i 0), ff, (sL [(w 1)]), (sL [])] 1)]), (.fp [(sL [(i 0)]), (sL [(i 0)]), (sL [(i 0)]), (.sl [(.v (.int .u8 0)), (i 0), (i 0), (.v (.int .u8 1)), (i 0), (i 0)] 2), (i 0), (i 0), (i 2), (.sl [(i 0), ff, (sL [(w 1)]), (sL [])] 1), (.sl [(i 0), ff, (sL [(w 1)]), (sL [])] 1), ff, nl, nl, ff, nl, nl, ff, nl, nl, (i 2), (sL [(sL [(i 1), (i 0)]), (sL [(i 3), (i 3)])]), (sL [(sL [(i 0), (i 0)]), (sL [(i 1), (i 0)])])]), (.fp [(i 2)]), (.fp [(i 2)]), (.fp [(i 1)])]
noncomputable def lt88 : T := (.tu [(.ag [ff, (sL [(w 1)]), (sL [(w 2)])]), (i 0)])
theorem lr88 : freshE Tryz.prog (evC Tryz.prog skE (orF Tryz.prog (tabO lb87) pfs) 1000) 0 79 la88 = some (lt88, true) := by kernel_rfl
noncomputable def lb88 : List (Nat × (List T → Option (T × Bool))) := (79, rowE la88 (lt88, true)) :: lb87
theorem lo88 : PureOk Tryz.prog (tabO lb88) := PureOk.cons lo87 (ev_row (by kernel_rfl) sk_ok lo87 pfs lr88) (by kernel_rfl)
/- clearway/lookup.Scores$1: 161 operations -/
noncomputable def la89 : List T := [(i 1), (.fp [(.sl [(i 0), ff, (sL [(w 1)]), (sL [])] 1)]), (.fp [(sL [(i 0)]), (sL [(i 0)]), (sL [(i 0)]), (.sl [(.v (.int .u8 0)), (i 0), (i 0), (.v (.int .u8 1)), (i 0), (i 0)] 2), (i 0), (i 0), (i 2), (.sl [(i 0), ff, (sL [(w 1)]), (sL [])] 1), (.sl [(i 0), ff, (sL [(w 1)]), (sL [])] 1), ff, nl, nl, ff, nl, nl, ff, nl, nl, (i 2), (sL [(sL [(i 1), (i 0)]), (sL [(i 3), (i 3)])]), (sL [(sL [(i 0), (i 0)]), (sL [(i 1), (i 0)])])]), (.fp [(i 2)]), (.fp [(i 2)]), (.fp [(i 1)])]
noncomputable def lt89 : T := (.tu [(.ag [ff, (sL []), (sL [])]), (i 0)])
theorem lr89 : freshE Tryz.prog (evC Tryz.prog skE (orF Tryz.prog (tabO lb88) pfs) 1000) 0 79 la89 = some (lt89, true) := by kernel_rfl
noncomputable def lb89 : List (Nat × (List T → Option (T × Bool))) := (79, rowE la89 (lt89, true)) :: lb88
theorem lo89 : PureOk Tryz.prog (tabO lb89) := PureOk.cons lo88 (ev_row (by kernel_rfl) sk_ok lo88 pfs lr89) (by kernel_rfl)
/- clearway/lookup.Scores: 173 operations -/
noncomputable def la90 : List T := [(.ag [(sL [(i 0)]), (sL [(i 0)]), (sL [(i 0)]), (.sl [(.v (.int .u8 0)), (i 0), (i 0), (.v (.int .u8 1)), (i 0), (i 0)] 2), (i 0), (i 0), (i 2), (.sl [(i 0), ff, (sL [(w 1)]), (sL [])] 1), (.sl [(i 0), ff, (sL [(w 1)]), (sL [])] 1), ff, nl, nl, ff, nl, nl, ff, nl, nl, (i 2), (sL [(sL [(i 1), (i 0)]), (sL [(i 3), (i 3)])]), (sL [(sL [(i 0), (i 0)]), (sL [(i 1), (i 0)])])]), (i 2), (i 7), (i 7), (i 7), (i 1)]
noncomputable def lt90 : T := (.tu [(.sl [ff, (sL [(w 1)]), (sL [(w 2)]), ff, (sL []), (sL [])] 2), (i 0)])
theorem lr90 : freshE Tryz.prog (evC Tryz.prog skE (orF Tryz.prog (tabO lb89) pfs) 1000) 0 32 la90 = some (lt90, true) := by kernel_rfl
noncomputable def lb90 : List (Nat × (List T → Option (T × Bool))) := (32, rowE la90 (lt90, true)) :: lb89
theorem lo90 : PureOk Tryz.prog (tabO lb90) := PureOk.cons lo89 (ev_row (by kernel_rfl) sk_ok lo89 pfs lr90) (by kernel_rfl)
/- clearway/interp.Weights: 364 operations -/
noncomputable def la91 : List T := [(sL [(sL [(i 0)]), (sL [(i 0)]), (sL [(i 0)])]), (sL [(i 0), (i 0), (i 0)])]
noncomputable def lt91 : T := (.tu [(.sl [(i 0), ff, (sL [(w 1)]), (sL [])] 1), (i 0)])
theorem lr91 : freshE Tryz.prog (evC Tryz.prog skE (orF Tryz.prog (tabO lb90) pfs) 1000) 0 78 la91 = some (lt91, true) := by kernel_rfl
noncomputable def lb91 : List (Nat × (List T → Option (T × Bool))) := (78, rowE la91 (lt91, true)) :: lb90
theorem lo91 : PureOk Tryz.prog (tabO lb91) := PureOk.cons lo90 (ev_row (by kernel_rfl) sk_ok lo90 pfs lr91) (by kernel_rfl)
/- clearway/lookup.Scores$1: 161 operations -/
noncomputable def la92 : List T := [(i 0), (.fp [(.sl [(i 0), ff, (sL [(w 1)]), (sL [])] 1)]), (.fp [(sL [(i 0)]), (sL [(i 0)]), (sL [(i 0)]), (.sl [(.v (.int .u8 0)), (i 0), (i 0), (.v (.int .u8 1)), (i 0), (i 0)] 2), (i 0), (i 0), (i 2), (.sl [(i 0), ff, (sL [(w 1)]), (sL [])] 1), (.sl [(i 0), ff, (sL [(w 1)]), (sL [])] 1), ff, nl, nl, ff, nl, nl, ff, nl, nl, (i 2), (sL [(sL [(i 1), (i 0)]), (sL [(i 3), (i 3)])]), (sL [(sL [(i 0), (i 0)]), (sL [(i 1), (i 0)])])]), (.fp [(i 1)]), (.fp [(i 2)]), (.fp [(i 1)])]
noncomputable def lt92 : T := (.tu [(.ag [ff, (sL [(w 1)]), (sL [(w 2)])]), (i 0)])
theorem lr92 : freshE Tryz.prog (evC Tryz.prog skE (orF Tryz.prog (tabO lb91) pfs) 1000) 0 79 la92 = some (lt92, true) := by kernel_rfl
noncomputable def lb92 : List (Nat × (List T → Option (T × Bool))) := (79, rowE la92 (lt92, true)) :: lb91
theorem lo92 : PureOk Tryz.prog (tabO lb92) := PureOk.cons lo91 (ev_row (by kernel_rfl) sk_ok lo91 pfs lr92) (by kernel_rfl)
/- clearway/lookup.Scores$1: 161 operations -/
noncomputable def la93 : List T := [(i 1), (.fp [(.sl [(i 0), ff, (sL [(w 1)]), (sL [])] 1)]), (.fp [(sL [(i 0)]), (sL [(i 0)]), (sL [(i 0)]), (.sl [(.v (.int .u8 0)), (i 0), (i 0), (.v (.int .u8 1)), (i 0), (i 0)] 2), (i 0), (i 0), (i 2), (.sl [(i 0), ff, (sL [(w 1)]), (sL [])] 1), (.sl [(i 0), ff, (sL [(w 1)]), (sL [])] 1), ff, nl, nl, ff, nl, nl, ff, nl, nl, (i 2), (sL [(sL [(i 1), (i 0)]), (sL [(i 3), (i 3)])]), (sL [(sL [(i 0), (i 0)]), (sL [(i 1), (i 0)])])]), (.fp [(i 1)]), (.fp [(i 2)]), (.fp [(i 1)])]
noncomputable def lt93 : T := (.tu [(.ag [ff, (sL []), (sL [])]), (i 0)])
theorem lr93 : freshE Tryz.prog (evC Tryz.prog skE (orF Tryz.prog (tabO lb92) pfs) 1000) 0 79 la93 = some (lt93, true) := by kernel_rfl
noncomputable def lb93 : List (Nat × (List T → Option (T × Bool))) := (79, rowE la93 (lt93, true)) :: lb92
theorem lo93 : PureOk Tryz.prog (tabO lb93) := PureOk.cons lo92 (ev_row (by kernel_rfl) sk_ok lo92 pfs lr93) (by kernel_rfl)
/- clearway/lookup.Scores: 173 operations -/
noncomputable def la94 : List T := [(.ag [(sL [(i 0)]), (sL [(i 0)]), (sL [(i 0)]), (.sl [(.v (.int .u8 0)), (i 0), (i 0), (.v (.int .u8 1)), (i 0), (i 0)] 2), (i 0), (i 0), (i 2), (.sl [(i 0), ff, (sL [(w 1)]), (sL [])] 1), (.sl [(i 0), ff, (sL [(w 1)]), (sL [])] 1), ff, nl, nl, ff, nl, nl, ff, nl, nl, (i 2), (sL [(sL [(i 1), (i 0)]), (sL [(i 3), (i 3)])]), (sL [(sL [(i 0), (i 0)]), (sL [(i 1), (i 0)])])]), (i 1), (i 0), (i 0), (i 0), (i 1)]
noncomputable def lt94 : T := (.tu [(.sl [ff, (sL [(w 1)]), (sL [(w 2)]), ff, (sL []), (sL [])] 2), (i 0)])
theorem lr94 : freshE Tryz.prog (evC Tryz.prog skE (orF Tryz.prog (tabO lb93) pfs) 1000) 0 32 la94 = some (lt94, true) := by kernel_rfl
noncomputable def lb94 : List (Nat × (List T → Option (T × Bool))) := (32, rowE la94 (lt94, true)) :: lb93
theorem lo94 : PureOk Tryz.prog (tabO lb94) := PureOk.cons lo93 (ev_row (by kernel_rfl) sk_ok lo93 pfs lr94) (by kernel_rfl)
/- clearway/lookup.Least: 274 operations -/
noncomputable def la95 : List T := [(.sl [ff, (sL [(w 1)]), (sL [(w 2)]), ff, (sL []), (sL [])] 2), (sL [tt, tt])]
noncomputable def lt95 : T := (.tu [(i 1), (i 0)])
theorem lr95 : freshE Tryz.prog (evC Tryz.prog skE (orF Tryz.prog (tabO lb94) pfs) 1000) 0 54 la95 = some (lt95, true) := by kernel_rfl
noncomputable def lb95 : List (Nat × (List T → Option (T × Bool))) := (54, rowE la95 (lt95, true)) :: lb94
theorem lo95 : PureOk Tryz.prog (tabO lb95) := PureOk.cons lo94 (ev_row (by kernel_rfl) sk_ok lo94 pfs lr95) (by kernel_rfl)
/- clearway/lookup.Scores: 173 operations -/
noncomputable def la96 : List T := [(.ag [(sL [(i 0)]), (sL [(i 0)]), (sL [(i 0)]), (.sl [(.v (.int .u8 0)), (i 0), (i 0), (.v (.int .u8 1)), (i 0), (i 0)] 2), (i 0), (i 0), (i 2), (.sl [(i 0), ff, (sL [(w 1)]), (sL [])] 1), (.sl [(i 0), ff, (sL [(w 1)]), (sL [])] 1), ff, nl, nl, ff, nl, nl, ff, nl, nl, (i 2), (sL [(sL [(i 1), (i 0)]), (sL [(i 3), (i 3)])]), (sL [(sL [(i 0), (i 0)]), (sL [(i 1), (i 0)])])]), (i 2), (i 0), (i 0), (i 0), (i 0)]
noncomputable def lt96 : T := (.tu [(.sl [ff, (sL [(w 3)]), (sL [(w 2)]), ff, (sL [(w 3)]), (sL [(w 2)])] 2), (i 0)])
theorem lr96 : freshE Tryz.prog (evC Tryz.prog skE (orF Tryz.prog (tabO lb95) pfs) 1000) 0 32 la96 = some (lt96, true) := by kernel_rfl
noncomputable def lb96 : List (Nat × (List T → Option (T × Bool))) := (32, rowE la96 (lt96, true)) :: lb95
theorem lo96 : PureOk Tryz.prog (tabO lb96) := PureOk.cons lo95 (ev_row (by kernel_rfl) sk_ok lo95 pfs lr96) (by kernel_rfl)
/- clearway/lookup.Least: 272 operations -/
noncomputable def la97 : List T := [(.sl [ff, (sL [(w 3)]), (sL [(w 2)]), ff, (sL [(w 3)]), (sL [(w 2)])] 2), (sL [tt, tt])]
noncomputable def lt97 : T := (.tu [(i 0), (i 0)])
theorem lr97 : freshE Tryz.prog (evC Tryz.prog skE (orF Tryz.prog (tabO lb96) pfs) 1000) 0 54 la97 = some (lt97, true) := by kernel_rfl
noncomputable def lb97 : List (Nat × (List T → Option (T × Bool))) := (54, rowE la97 (lt97, true)) :: lb96
theorem lo97 : PureOk Tryz.prog (tabO lb97) := PureOk.cons lo96 (ev_row (by kernel_rfl) sk_ok lo96 pfs lr97) (by kernel_rfl)
/- clearway/lookup.first[clearway/api.Rat]: 183 operations -/
noncomputable def la98 : List T := [(.sl [ff, (sL [(w 1)]), (sL []), ff, nl, nl, ff, (sL [(w 1)]), (sL [])] 3), (.fn 107 []), (sL [(.fn 109 [(.fp [(sL [tt, ff, tt])])])])]
noncomputable def lt98 : T := (i 0)
theorem lr98 : freshE Tryz.prog (evC Tryz.prog skE (orF Tryz.prog (tabO lb97) pfs) 1000) 0 108 la98 = some (lt98, true) := by kernel_rfl
noncomputable def lb98 : List (Nat × (List T → Option (T × Bool))) := (108, rowE la98 (lt98, true)) :: lb97
theorem lo98 : PureOk Tryz.prog (tabO lb98) := PureOk.cons lo97 (ev_row (by kernel_rfl) sk_ok lo97 pfs lr98) (by kernel_rfl)
/- clearway/lookup.Least: 170 operations -/
noncomputable def la99 : List T := [(.sl [ff, (sL [(w 1)]), (sL []), ff, nl, nl, ff, (sL [(w 1)]), (sL [])] 3), (sL [tt, ff, tt])]
noncomputable def lt99 : T := (.tu [(i 0), (i 0)])
theorem lr99 : freshE Tryz.prog (evC Tryz.prog skE (orF Tryz.prog (tabO lb98) pfs) 1000) 0 54 la99 = some (lt99, true) := by kernel_rfl
noncomputable def lb99 : List (Nat × (List T → Option (T × Bool))) := (54, rowE la99 (lt99, true)) :: lb98
theorem lo99 : PureOk Tryz.prog (tabO lb99) := PureOk.cons lo98 (ev_row (by kernel_rfl) sk_ok lo98 pfs lr99) (by kernel_rfl)
/- clearway/lookup.first[clearway/api.Rat]: 215 operations -/
noncomputable def la100 : List T := [(.sl [ff, (sL [(w 1)]), (sL []), ff, nl, nl, ff, nl, nl] 3), (.fn 107 []), (sL [(.fn 109 [(.fp [(sL [tt, tt, tt])])])])]
noncomputable def lt100 : T := (i 1)
theorem lr100 : freshE Tryz.prog (evC Tryz.prog skE (orF Tryz.prog (tabO lb99) pfs) 1000) 0 108 la100 = some (lt100, true) := by kernel_rfl
noncomputable def lb100 : List (Nat × (List T → Option (T × Bool))) := (108, rowE la100 (lt100, true)) :: lb99
theorem lo100 : PureOk Tryz.prog (tabO lb100) := PureOk.cons lo99 (ev_row (by kernel_rfl) sk_ok lo99 pfs lr100) (by kernel_rfl)
/- clearway/lookup.Least: 170 operations -/
noncomputable def la101 : List T := [(.sl [ff, (sL [(w 1)]), (sL []), ff, nl, nl, ff, nl, nl] 3), (sL [tt, tt, tt])]
noncomputable def lt101 : T := (.tu [(i 1), (i 0)])
theorem lr101 : freshE Tryz.prog (evC Tryz.prog skE (orF Tryz.prog (tabO lb100) pfs) 1000) 0 54 la101 = some (lt101, true) := by kernel_rfl
noncomputable def lb101 : List (Nat × (List T → Option (T × Bool))) := (54, rowE la101 (lt101, true)) :: lb100
theorem lo101 : PureOk Tryz.prog (tabO lb101) := PureOk.cons lo100 (ev_row (by kernel_rfl) sk_ok lo100 pfs lr101) (by kernel_rfl)
/- clearway/lookup.first[clearway/api.Rat]: 153 operations -/
noncomputable def la102 : List T := [(.sl [ff, nl, nl, ff, (sL [(w 1)]), (sL []), ff, (sL [(w 1)]), (sL [])] 3), (.fn 107 []), (sL [(.fn 109 [(.fp [(sL [ff, ff, tt])])])])]
noncomputable def lt102 : T := (i 2)
theorem lr102 : freshE Tryz.prog (evC Tryz.prog skE (orF Tryz.prog (tabO lb101) pfs) 1000) 0 108 la102 = some (lt102, true) := by kernel_rfl
noncomputable def lb102 : List (Nat × (List T → Option (T × Bool))) := (108, rowE la102 (lt102, true)) :: lb101
theorem lo102 : PureOk Tryz.prog (tabO lb102) := PureOk.cons lo101 (ev_row (by kernel_rfl) sk_ok lo101 pfs lr102) (by kernel_rfl)
/- clearway/lookup.Least: 192 operations -/
noncomputable def la103 : List T := [(.sl [ff, nl, nl, ff, (sL [(w 1)]), (sL []), ff, (sL [(w 1)]), (sL [])] 3), (sL [ff, ff, tt])]
noncomputable def lt103 : T := (.tu [(i 2), (i 0)])
theorem lr103 : freshE Tryz.prog (evC Tryz.prog skE (orF Tryz.prog (tabO lb102) pfs) 1000) 0 54 la103 = some (lt103, true) := by kernel_rfl
noncomputable def lb103 : List (Nat × (List T → Option (T × Bool))) := (54, rowE la103 (lt103, true)) :: lb102
theorem lo103 : PureOk Tryz.prog (tabO lb103) := PureOk.cons lo102 (ev_row (by kernel_rfl) sk_ok lo102 pfs lr103) (by kernel_rfl)
/- clearway/clearwaylaw26.LookupExamples: 1493 operations -/
noncomputable def la104 : List T := []
noncomputable def lt104 : T := tt
theorem lr104 : freshE Tryz.prog (evC Tryz.prog skE (orF Tryz.prog (tabO lb103) pfs) 1000) 0 11 la104 = some (lt104, true) := by kernel_rfl
end Go.Proofs.YtdfmdiakjdggbaaGreatDoor
namespace Go.Proofs.YtdfmdiakjdggbaaGreatDoor
open Go Go.Gv Go.Ev
theorem kn_lex : KnP Tryz.prog 0 11 [] (.v (.bool true)) true := ev_row (by kernel_rfl) sk_ok lo103 pfs lr104
end Go.Proofs.YtdfmdiakjdggbaaGreatDoor

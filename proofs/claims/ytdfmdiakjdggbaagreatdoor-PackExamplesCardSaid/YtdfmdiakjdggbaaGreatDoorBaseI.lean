/- Parts of the proof: L1d. By an AI agent. -/
import Derived.Test.YtdfmdiakjdggbaaGreatDoorBaseA
import Derived.Test.YtdfmdiakjdggbaaGreatDoorBaseB
import Derived.Test.YtdfmdiakjdggbaaGreatDoorBaseC
import Derived.Test.YtdfmdiakjdggbaaGreatDoorBaseD
import Derived.Test.YtdfmdiakjdggbaaGreatDoorBaseE
import Derived.Test.YtdfmdiakjdggbaaGreatDoorBaseF
import Derived.Test.YtdfmdiakjdggbaaGreatDoorBaseG
import Derived.Test.YtdfmdiakjdggbaaGreatDoorBaseH
set_option linter.unusedVariables false
set_option linter.unusedSimpArgs false
set_option linter.unnecessarySimpa false
/- Closed calls, reckoned by the kernel; printed by a program of this repo. By an AI agent. -/
namespace Go.Proofs.YtdfmdiakjdggbaaGreatDoor
open Go Go.Gv Go.Ev
set_option maxRecDepth 1000000
/- clearway/interp.Point: 229 operations -/
noncomputable def la84 : List T := [(sL [(sL [(i 0)]), (sL [(i 0)]), (sL [(i 0)])]), (i 0)]
noncomputable def lt84 : T := (.tu [(sL [(i 0), (i 0), (i 0)]), (i 0)])
theorem lr84 : freshE Tryz.prog (evC Tryz.prog skE (orF Tryz.prog (tabO lb83) pfs) 1000) 0 189 la84 = some (lt84, true) := by kernel_rfl
noncomputable def lb84 : List (Nat × (List T → Option (T × Bool))) := (189, rowE la84 (lt84, true)) :: lb83
theorem lo84 : PureOk Tryz.prog (tabO lb84) := PureOk.cons lo83 (ev_row (by kernel_rfl) sk_ok lo83 pfs lr84) (by kernel_rfl)
/- clearway/dynamics.Cost: 98 operations -/
noncomputable def la85 : List T := [(.ag [(sL [(i 0)]), (sL [(i 0)]), (sL [(i 0)]), (.sl [(.v (.int .u8 0)), (i 0), (i 0)] 1), (i 0), (i 1), (i 1), (.sl [(i 0), ff, (sL [(w 1)]), (sL [])] 1), (.sl [(i 0), ff, (sL [(w 1)]), (sL [])] 1), ff, nl, nl, ff, nl, nl, ff, nl, nl]), (i 0), (i 0)]
noncomputable def lt85 : T := (.tu [(.ag [ff, nl, nl]), (i 0)])
theorem lr85 : freshE Tryz.prog (evC Tryz.prog skE (orF Tryz.prog (tabO lb84) pfs) 1000) 0 190 la85 = some (lt85, true) := by kernel_rfl
noncomputable def lb85 : List (Nat × (List T → Option (T × Bool))) := (190, rowE la85 (lt85, true)) :: lb84
theorem lo85 : PureOk Tryz.prog (tabO lb85) := PureOk.cons lo84 (ev_row (by kernel_rfl) sk_ok lo84 pfs lr85) (by kernel_rfl)
/- clearway/interp.Weights: 214 operations -/
noncomputable def la86 : List T := [(sL [(sL [(i 0)]), (sL [(i 0)]), (sL [(i 0)])]), (sL [(i 0), (i 0), (i 0)])]
noncomputable def lt86 : T := (.tu [(.sl [(i 0), ff, (sL [(w 1)]), (sL [])] 1), (i 0)])
theorem lr86 : freshE Tryz.prog (evC Tryz.prog skE (orF Tryz.prog (tabO lb85) pfs) 1000) 0 78 la86 = some (lt86, true) := by kernel_rfl
noncomputable def lb86 : List (Nat × (List T → Option (T × Bool))) := (78, rowE la86 (lt86, true)) :: lb85
theorem lo86 : PureOk Tryz.prog (tabO lb86) := PureOk.cons lo85 (ev_row (by kernel_rfl) sk_ok lo85 pfs lr86) (by kernel_rfl)
/- clearway/dynamics.spread: 189 operations -/
noncomputable def la87 : List T := [(.ag [(sL [(i 0)]), (sL [(i 0)]), (sL [(i 0)]), (.sl [(.v (.int .u8 0)), (i 0), (i 0)] 1), (i 0), (i 1), (i 1), (.sl [(i 0), ff, (sL [(w 1)]), (sL [])] 1), (.sl [(i 0), ff, (sL [(w 1)]), (sL [])] 1), ff, nl, nl, ff, nl, nl, ff, nl, nl]), (i 0), (i 0), (i 0), (i 0)]
noncomputable def lt87 : T := (.tu [(.sl [(i 0), ff, (sL [(w 1)]), (sL [])] 1), (i 0)])
theorem lr87 : freshE Tryz.prog (evC Tryz.prog skE (orF Tryz.prog (tabO lb86) pfs) 1000) 0 191 la87 = some (lt87, true) := by kernel_rfl
noncomputable def lb87 : List (Nat × (List T → Option (T × Bool))) := (191, rowE la87 (lt87, true)) :: lb86
theorem lo87 : PureOk Tryz.prog (tabO lb87) := PureOk.cons lo86 (ev_row (by kernel_rfl) sk_ok lo86 pfs lr87) (by kernel_rfl)
/- clearway/dynamics.Build: 124 operations -/
noncomputable def la88 : List T := [(.ag [(sL [(i 0)]), (sL [(i 0)]), (sL [(i 0)]), (.sl [(.v (.int .u8 0)), (i 0), (i 0)] 1), (i 0), (i 1), (i 1), (.sl [(i 0), ff, (sL [(w 1)]), (sL [])] 1), (.sl [(i 0), ff, (sL [(w 1)]), (sL [])] 1), ff, nl, nl, ff, nl, nl, ff, nl, nl])]
noncomputable def lt88 : T := (.tu [(.ag [ff, (sL [(w 1)]), (sL []), (sL [(.sl [ff, nl, nl, (.sl [(i 0), ff, (sL [(w 1)]), (sL [])] 1)] 1)])]), (i 0)])
theorem lr88 : freshE Tryz.prog (evC Tryz.prog skE (orF Tryz.prog (tabO lb87) pfs) 1000) 0 121 la88 = some (lt88, true) := by kernel_rfl
noncomputable def lb88 : List (Nat × (List T → Option (T × Bool))) := (121, rowE la88 (lt88, true)) :: lb87
theorem lo88 : PureOk Tryz.prog (tabO lb88) := PureOk.cons lo87 (ev_row (by kernel_rfl) sk_ok lo87 pfs lr88) (by kernel_rfl)
/- clearway/pack.model: 80 operations -/
noncomputable def la89 : List T := [(.ag [(sL [(i 0)]), (sL [(i 0)]), (sL [(i 0)]), (.sl [(.v (.int .u8 0)), (i 0), (i 0)] 1), (i 0), (i 1), (i 1), (.sl [(i 0), ff, (sL [(w 1)]), (sL [])] 1), (.sl [(i 0), ff, (sL [(w 1)]), (sL [])] 1), ff, nl, nl, ff, nl, nl, ff, nl, nl])]
noncomputable def lt89 : T := (.ag [(sL [(i 0)]), (sL [(i 0)]), (sL [(i 0)]), (.sl [(.v (.int .u8 0)), (i 0), (i 0)] 1), (i 0), (i 1), (i 1), (.sl [(i 0), ff, (sL [(w 1)]), (sL [])] 1), (.sl [(i 0), ff, (sL [(w 1)]), (sL [])] 1), ff, nl, nl, ff, nl, nl, ff, nl, nl])
theorem lr89 : freshE Tryz.prog (evC Tryz.prog skE (orF Tryz.prog (tabO lb88) pfs) 1000) 0 124 la89 = some (lt89, true) := by kernel_rfl
noncomputable def lb89 : List (Nat × (List T → Option (T × Bool))) := (124, rowE la89 (lt89, true)) :: lb88
theorem lo89 : PureOk Tryz.prog (tabO lb89) := PureOk.cons lo88 (ev_row (by kernel_rfl) sk_ok lo88 pfs lr89) (by kernel_rfl)
/- clearway/mdp.Check: 74 operations -/
noncomputable def la90 : List T := [(.ag [ff, (sL [(w 1)]), (sL []), (sL [(.sl [ff, nl, nl, (.sl [(i 0), ff, (sL [(w 1)]), (sL [])] 1)] 1)])])]
noncomputable def lt90 : T := (i 0)
theorem lr90 : freshE Tryz.prog (evC Tryz.prog skE (orF Tryz.prog (tabO lb89) pfs) 1000) 0 252 la90 = some (lt90, true) := by kernel_rfl
noncomputable def lb90 : List (Nat × (List T → Option (T × Bool))) := (252, rowE la90 (lt90, true)) :: lb89
theorem lo90 : PureOk Tryz.prog (tabO lb90) := PureOk.cons lo89 (ev_row (by kernel_rfl) sk_ok lo89 pfs lr90) (by kernel_rfl)
/- clearway/mdp.score: 63 operations -/
noncomputable def la91 : List T := [(.ag [ff, (sL [(w 1)]), (sL []), (sL [(.sl [ff, nl, nl, (.sl [(i 0), ff, (sL [(w 1)]), (sL [])] 1)] 1)])]), (.sl [ff, (sL [(w 1)]), (sL [])] 1), (.ag [ff, nl, nl, (.sl [(i 0), ff, (sL [(w 1)]), (sL [])] 1)])]
noncomputable def lt91 : T := (.tu [(.ag [ff, (sL [(w 1)]), (sL [])]), (i 0)])
theorem lr91 : freshE Tryz.prog (evC Tryz.prog skE (orF Tryz.prog (tabO lb90) pfs) 1000) 0 254 la91 = some (lt91, true) := by kernel_rfl
noncomputable def lb91 : List (Nat × (List T → Option (T × Bool))) := (254, rowE la91 (lt91, true)) :: lb90
theorem lo91 : PureOk Tryz.prog (tabO lb91) := PureOk.cons lo90 (ev_row (by kernel_rfl) sk_ok lo90 pfs lr91) (by kernel_rfl)
/- clearway/iterate.Scores: 167 operations -/
noncomputable def la92 : List T := [(.ag [ff, (sL [(w 1)]), (sL []), (sL [(.sl [ff, nl, nl, (.sl [(i 0), ff, (sL [(w 1)]), (sL [])] 1)] 1)])]), (.sl [ff, (sL [(w 1)]), (sL [])] 1)]
noncomputable def lt92 : T := (.tu [(sL [(.sl [ff, (sL [(w 1)]), (sL [])] 1)]), (i 0)])
theorem lr92 : freshE Tryz.prog (evC Tryz.prog skE (orF Tryz.prog (tabO lb91) pfs) 1000) 0 128 la92 = some (lt92, true) := by kernel_rfl
noncomputable def lb92 : List (Nat × (List T → Option (T × Bool))) := (128, rowE la92 (lt92, true)) :: lb91
theorem lo92 : PureOk Tryz.prog (tabO lb92) := PureOk.cons lo91 (ev_row (by kernel_rfl) sk_ok lo91 pfs lr92) (by kernel_rfl)
/- clearway/pack.packed: 47 operations -/
noncomputable def la93 : List T := [(.ag [ff, (sL [(w 1)]), (sL [])]), (.ag [ff, (sL [(w 1048576)]), (sL [])]), (.ag [ff, (sL [(w 1)]), (sL [(w 2)])])]
noncomputable def lt93 : T := (i 1048576)
theorem lr93 : freshE Tryz.prog (evC Tryz.prog skE (orF Tryz.prog (tabO lb92) pfs) 1000) 0 129 la93 = some (lt93, true) := by kernel_rfl
noncomputable def lb93 : List (Nat × (List T → Option (T × Bool))) := (129, rowE la93 (lt93, true)) :: lb92
theorem lo93 : PureOk Tryz.prog (tabO lb93) := PureOk.cons lo92 (ev_row (by kernel_rfl) sk_ok lo92 pfs lr93) (by kernel_rfl)
/- clearway/pack.Pack: 197 operations -/
noncomputable def la94 : List T := [(.ag [(sL [(i 0)]), (sL [(i 0)]), (sL [(i 0)]), (.sl [(.v (.int .u8 0)), (i 0), (i 0)] 1), (i 0), (i 1), (i 1), (.sl [(i 0), ff, (sL [(w 1)]), (sL [])] 1), (.sl [(i 0), ff, (sL [(w 1)]), (sL [])] 1), ff, nl, nl, ff, nl, nl, ff, nl, nl]), (i 1048576)]
noncomputable def lt94 : T := (.tu [(.ag [(sL [(i 0)]), (sL [(i 0)]), (sL [(i 0)]), (.sl [(.v (.int .u8 0)), (i 0), (i 0)] 1), (i 0), (i 1), (i 1), (.sl [(i 0), ff, (sL [(w 1)]), (sL [])] 1), (.sl [(i 0), ff, (sL [(w 1)]), (sL [])] 1), ff, nl, nl, ff, nl, nl, ff, nl, nl, (i 1048576), (sL [(sL [(i 1048576)])]), (sL [(sL [(i 0)])])]), (i 0)])
theorem lr94 : freshE Tryz.prog (evC Tryz.prog skE (orF Tryz.prog (tabO lb93) pfs) 1000) 0 57 la94 = some (lt94, true) := by kernel_rfl
noncomputable def lb94 : List (Nat × (List T → Option (T × Bool))) := (57, rowE la94 (lt94, true)) :: lb93
theorem lo94 : PureOk Tryz.prog (tabO lb94) := PureOk.cons lo93 (ev_row (by kernel_rfl) sk_ok lo93 pfs lr94) (by kernel_rfl)
/- clearway/dynamics.checkNoise: 105 operations -/
noncomputable def la95 : List T := [(.sl [(i 0), ff, (sL [(w 1)]), nl] 1)]
noncomputable def lt95 : T := (i 0)
theorem lr95 : freshE Tryz.prog (evC Tryz.prog skE (orF Tryz.prog (tabO lb94) pfs) 1000) 0 185 la95 = some (lt95, true) := by kernel_rfl
noncomputable def lb95 : List (Nat × (List T → Option (T × Bool))) := (185, rowE la95 (lt95, true)) :: lb94
theorem lo95 : PureOk Tryz.prog (tabO lb95) := PureOk.cons lo94 (ev_row (by kernel_rfl) sk_ok lo94 pfs lr95) (by kernel_rfl)
/- clearway/dynamics.Check: 320 operations -/
noncomputable def la96 : List T := [(.ag [(sL [(i 0)]), (sL [(i 0)]), (sL [(i 0)]), (.sl [(.v (.int .u8 0)), (i 0), (i 0), (.v (.int .u8 1)), (i 0), (i 0)] 2), (i 0), (i 1), (i 1), (.sl [(i 0), ff, (sL [(w 1)]), nl] 1), (.sl [(i 0), ff, (sL [(w 1)]), nl] 1), ff, (sL [(w 0), (w 256)]), (sL []), ff, nl, nl, ff, nl, nl])]
noncomputable def lt96 : T := (i 0)
theorem lr96 : freshE Tryz.prog (evC Tryz.prog skE (orF Tryz.prog (tabO lb95) pfs) 1000) 0 119 la96 = some (lt96, true) := by kernel_rfl
noncomputable def lb96 : List (Nat × (List T → Option (T × Bool))) := (119, rowE la96 (lt96, true)) :: lb95
theorem lo96 : PureOk Tryz.prog (tabO lb96) := PureOk.cons lo95 (ev_row (by kernel_rfl) sk_ok lo95 pfs lr96) (by kernel_rfl)
/- clearway/dynamics.Cost: 98 operations -/
noncomputable def la97 : List T := [(.ag [(sL [(i 0)]), (sL [(i 0)]), (sL [(i 0)]), (.sl [(.v (.int .u8 0)), (i 0), (i 0), (.v (.int .u8 1)), (i 0), (i 0)] 2), (i 0), (i 1), (i 1), (.sl [(i 0), ff, (sL [(w 1)]), nl] 1), (.sl [(i 0), ff, (sL [(w 1)]), nl] 1), ff, (sL [(w 0), (w 256)]), (sL []), ff, nl, nl, ff, nl, nl]), (i 0), (i 0)]
noncomputable def lt97 : T := (.tu [(.ag [ff, nl, nl]), (i 0)])
theorem lr97 : freshE Tryz.prog (evC Tryz.prog skE (orF Tryz.prog (tabO lb96) pfs) 1000) 0 190 la97 = some (lt97, true) := by kernel_rfl
noncomputable def lb97 : List (Nat × (List T → Option (T × Bool))) := (190, rowE la97 (lt97, true)) :: lb96
theorem lo97 : PureOk Tryz.prog (tabO lb97) := PureOk.cons lo96 (ev_row (by kernel_rfl) sk_ok lo96 pfs lr97) (by kernel_rfl)
/- clearway/dynamics.spread: 189 operations -/
noncomputable def la98 : List T := [(.ag [(sL [(i 0)]), (sL [(i 0)]), (sL [(i 0)]), (.sl [(.v (.int .u8 0)), (i 0), (i 0), (.v (.int .u8 1)), (i 0), (i 0)] 2), (i 0), (i 1), (i 1), (.sl [(i 0), ff, (sL [(w 1)]), nl] 1), (.sl [(i 0), ff, (sL [(w 1)]), nl] 1), ff, (sL [(w 0), (w 256)]), (sL []), ff, nl, nl, ff, nl, nl]), (i 0), (i 0), (i 0), (i 0)]
noncomputable def lt98 : T := (.tu [(.sl [(i 0), ff, (sL [(w 1)]), (sL [])] 1), (i 0)])
theorem lr98 : freshE Tryz.prog (evC Tryz.prog skE (orF Tryz.prog (tabO lb97) pfs) 1000) 0 191 la98 = some (lt98, true) := by kernel_rfl
noncomputable def lb98 : List (Nat × (List T → Option (T × Bool))) := (191, rowE la98 (lt98, true)) :: lb97
theorem lo98 : PureOk Tryz.prog (tabO lb98) := PureOk.cons lo97 (ev_row (by kernel_rfl) sk_ok lo97 pfs lr98) (by kernel_rfl)
/- clearway/dynamics.Cost: 105 operations -/
noncomputable def la99 : List T := [(.ag [(sL [(i 0)]), (sL [(i 0)]), (sL [(i 0)]), (.sl [(.v (.int .u8 0)), (i 0), (i 0), (.v (.int .u8 1)), (i 0), (i 0)] 2), (i 0), (i 1), (i 1), (.sl [(i 0), ff, (sL [(w 1)]), nl] 1), (.sl [(i 0), ff, (sL [(w 1)]), nl] 1), ff, (sL [(w 0), (w 256)]), (sL []), ff, nl, nl, ff, nl, nl]), (i 0), (i 1)]
noncomputable def lt99 : T := (.tu [(.ag [ff, (sL [(w 0), (w 256)]), (sL [])]), (i 0)])
theorem lr99 : freshE Tryz.prog (evC Tryz.prog skE (orF Tryz.prog (tabO lb98) pfs) 1000) 0 190 la99 = some (lt99, true) := by kernel_rfl
noncomputable def lb99 : List (Nat × (List T → Option (T × Bool))) := (190, rowE la99 (lt99, true)) :: lb98
theorem lo99 : PureOk Tryz.prog (tabO lb99) := PureOk.cons lo98 (ev_row (by kernel_rfl) sk_ok lo98 pfs lr99) (by kernel_rfl)
/- clearway/dynamics.spread: 175 operations -/
noncomputable def la100 : List T := [(.ag [(sL [(i 0)]), (sL [(i 0)]), (sL [(i 0)]), (.sl [(.v (.int .u8 0)), (i 0), (i 0), (.v (.int .u8 1)), (i 0), (i 0)] 2), (i 0), (i 1), (i 1), (.sl [(i 0), ff, (sL [(w 1)]), nl] 1), (.sl [(i 0), ff, (sL [(w 1)]), nl] 1), ff, (sL [(w 0), (w 256)]), (sL []), ff, nl, nl, ff, nl, nl]), (i 0), (i 0), (i 0), (i 1)]
noncomputable def lt100 : T := (.tu [(.sl [(i 1), ff, (sL [(w 1)]), (sL [])] 1), (i 0)])
theorem lr100 : freshE Tryz.prog (evC Tryz.prog skE (orF Tryz.prog (tabO lb99) pfs) 1000) 0 191 la100 = some (lt100, true) := by kernel_rfl
noncomputable def lb100 : List (Nat × (List T → Option (T × Bool))) := (191, rowE la100 (lt100, true)) :: lb99
theorem lo100 : PureOk Tryz.prog (tabO lb100) := PureOk.cons lo99 (ev_row (by kernel_rfl) sk_ok lo99 pfs lr100) (by kernel_rfl)
/- clearway/dynamics.Cost: 98 operations -/
noncomputable def la101 : List T := [(.ag [(sL [(i 0)]), (sL [(i 0)]), (sL [(i 0)]), (.sl [(.v (.int .u8 0)), (i 0), (i 0), (.v (.int .u8 1)), (i 0), (i 0)] 2), (i 0), (i 1), (i 1), (.sl [(i 0), ff, (sL [(w 1)]), nl] 1), (.sl [(i 0), ff, (sL [(w 1)]), nl] 1), ff, (sL [(w 0), (w 256)]), (sL []), ff, nl, nl, ff, nl, nl]), (i 1), (i 0)]
noncomputable def lt101 : T := (.tu [(.ag [ff, nl, nl]), (i 0)])
theorem lr101 : freshE Tryz.prog (evC Tryz.prog skE (orF Tryz.prog (tabO lb100) pfs) 1000) 0 190 la101 = some (lt101, true) := by kernel_rfl
noncomputable def lb101 : List (Nat × (List T → Option (T × Bool))) := (190, rowE la101 (lt101, true)) :: lb100
theorem lo101 : PureOk Tryz.prog (tabO lb101) := PureOk.cons lo100 (ev_row (by kernel_rfl) sk_ok lo100 pfs lr101) (by kernel_rfl)
/- clearway/dynamics.Cost: 105 operations -/
noncomputable def la102 : List T := [(.ag [(sL [(i 0)]), (sL [(i 0)]), (sL [(i 0)]), (.sl [(.v (.int .u8 0)), (i 0), (i 0), (.v (.int .u8 1)), (i 0), (i 0)] 2), (i 0), (i 1), (i 1), (.sl [(i 0), ff, (sL [(w 1)]), nl] 1), (.sl [(i 0), ff, (sL [(w 1)]), nl] 1), ff, (sL [(w 0), (w 256)]), (sL []), ff, nl, nl, ff, nl, nl]), (i 1), (i 1)]
noncomputable def lt102 : T := (.tu [(.ag [ff, (sL [(w 0), (w 256)]), (sL [])]), (i 0)])
theorem lr102 : freshE Tryz.prog (evC Tryz.prog skE (orF Tryz.prog (tabO lb101) pfs) 1000) 0 190 la102 = some (lt102, true) := by kernel_rfl
noncomputable def lb102 : List (Nat × (List T → Option (T × Bool))) := (190, rowE la102 (lt102, true)) :: lb101
theorem lo102 : PureOk Tryz.prog (tabO lb102) := PureOk.cons lo101 (ev_row (by kernel_rfl) sk_ok lo101 pfs lr102) (by kernel_rfl)
/- clearway/dynamics.Build: 294 operations -/
noncomputable def la103 : List T := [(.ag [(sL [(i 0)]), (sL [(i 0)]), (sL [(i 0)]), (.sl [(.v (.int .u8 0)), (i 0), (i 0), (.v (.int .u8 1)), (i 0), (i 0)] 2), (i 0), (i 1), (i 1), (.sl [(i 0), ff, (sL [(w 1)]), nl] 1), (.sl [(i 0), ff, (sL [(w 1)]), nl] 1), ff, (sL [(w 0), (w 256)]), (sL []), ff, nl, nl, ff, nl, nl])]
noncomputable def lt103 : T := (.tu [(.ag [ff, (sL [(w 1)]), (sL []), (sL [(.sl [ff, nl, nl, (.sl [(i 0), ff, (sL [(w 1)]), (sL [])] 1), ff, (sL [(w 0), (w 256)]), (sL []), (.sl [(i 1), ff, (sL [(w 1)]), (sL [])] 1)] 2), (.sl [ff, nl, nl, (.sl [(i 0), ff, (sL [(w 1)]), (sL [])] 1), ff, (sL [(w 0), (w 256)]), (sL []), (.sl [(i 1), ff, (sL [(w 1)]), (sL [])] 1)] 2)])]), (i 0)])
theorem lr103 : freshE Tryz.prog (evC Tryz.prog skE (orF Tryz.prog (tabO lb102) pfs) 1000) 0 121 la103 = some (lt103, true) := by kernel_rfl
noncomputable def lb103 : List (Nat × (List T → Option (T × Bool))) := (121, rowE la103 (lt103, true)) :: lb102
theorem lo103 : PureOk Tryz.prog (tabO lb103) := PureOk.cons lo102 (ev_row (by kernel_rfl) sk_ok lo102 pfs lr103) (by kernel_rfl)
/- clearway/pack.model: 80 operations -/
noncomputable def la104 : List T := [(.ag [(sL [(i 0)]), (sL [(i 0)]), (sL [(i 0)]), (.sl [(.v (.int .u8 0)), (i 0), (i 0), (.v (.int .u8 1)), (i 0), (i 0)] 2), (i 0), (i 1), (i 1), (.sl [(i 0), ff, (sL [(w 1)]), nl] 1), (.sl [(i 0), ff, (sL [(w 1)]), nl] 1), ff, (sL [(w 0), (w 256)]), (sL []), ff, nl, nl, ff, nl, nl])]
noncomputable def lt104 : T := (.ag [(sL [(i 0)]), (sL [(i 0)]), (sL [(i 0)]), (.sl [(.v (.int .u8 0)), (i 0), (i 0), (.v (.int .u8 1)), (i 0), (i 0)] 2), (i 0), (i 1), (i 1), (.sl [(i 0), ff, (sL [(w 1)]), nl] 1), (.sl [(i 0), ff, (sL [(w 1)]), nl] 1), ff, (sL [(w 0), (w 256)]), (sL []), ff, nl, nl, ff, nl, nl])
theorem lr104 : freshE Tryz.prog (evC Tryz.prog skE (orF Tryz.prog (tabO lb103) pfs) 1000) 0 124 la104 = some (lt104, true) := by kernel_rfl
noncomputable def lb104 : List (Nat × (List T → Option (T × Bool))) := (124, rowE la104 (lt104, true)) :: lb103
theorem lo104 : PureOk Tryz.prog (tabO lb104) := PureOk.cons lo103 (ev_row (by kernel_rfl) sk_ok lo103 pfs lr104) (by kernel_rfl)
/- clearway/mdp.Check: 137 operations -/
noncomputable def la105 : List T := [(.ag [ff, (sL [(w 1)]), (sL []), (sL [(.sl [ff, nl, nl, (.sl [(i 0), ff, (sL [(w 1)]), (sL [])] 1), ff, (sL [(w 0), (w 256)]), (sL []), (.sl [(i 1), ff, (sL [(w 1)]), (sL [])] 1)] 2), (.sl [ff, nl, nl, (.sl [(i 0), ff, (sL [(w 1)]), (sL [])] 1), ff, (sL [(w 0), (w 256)]), (sL []), (.sl [(i 1), ff, (sL [(w 1)]), (sL [])] 1)] 2)])])]
noncomputable def lt105 : T := (i 0)
theorem lr105 : freshE Tryz.prog (evC Tryz.prog skE (orF Tryz.prog (tabO lb104) pfs) 1000) 0 252 la105 = some (lt105, true) := by kernel_rfl
noncomputable def lb105 : List (Nat × (List T → Option (T × Bool))) := (252, rowE la105 (lt105, true)) :: lb104
theorem lo105 : PureOk Tryz.prog (tabO lb105) := PureOk.cons lo104 (ev_row (by kernel_rfl) sk_ok lo104 pfs lr105) (by kernel_rfl)
/- clearway/mdp.score: 63 operations -/
noncomputable def la106 : List T := [(.ag [ff, (sL [(w 1)]), (sL []), (sL [(.sl [ff, nl, nl, (.sl [(i 0), ff, (sL [(w 1)]), (sL [])] 1), ff, (sL [(w 0), (w 256)]), (sL []), (.sl [(i 1), ff, (sL [(w 1)]), (sL [])] 1)] 2), (.sl [ff, nl, nl, (.sl [(i 0), ff, (sL [(w 1)]), (sL [])] 1), ff, (sL [(w 0), (w 256)]), (sL []), (.sl [(i 1), ff, (sL [(w 1)]), (sL [])] 1)] 2)])]), (.sl [ff, (sL [(w 1)]), (sL []), ff, (sL [(w 1)]), (sL [])] 2), (.ag [ff, nl, nl, (.sl [(i 0), ff, (sL [(w 1)]), (sL [])] 1)])]
noncomputable def lt106 : T := (.tu [(.ag [ff, (sL [(w 1)]), (sL [])]), (i 0)])
theorem lr106 : freshE Tryz.prog (evC Tryz.prog skE (orF Tryz.prog (tabO lb105) pfs) 1000) 0 254 la106 = some (lt106, true) := by kernel_rfl
noncomputable def lb106 : List (Nat × (List T → Option (T × Bool))) := (254, rowE la106 (lt106, true)) :: lb105
theorem lo106 : PureOk Tryz.prog (tabO lb106) := PureOk.cons lo105 (ev_row (by kernel_rfl) sk_ok lo105 pfs lr106) (by kernel_rfl)
/- clearway/mdp.score: 63 operations -/
noncomputable def la107 : List T := [(.ag [ff, (sL [(w 1)]), (sL []), (sL [(.sl [ff, nl, nl, (.sl [(i 0), ff, (sL [(w 1)]), (sL [])] 1), ff, (sL [(w 0), (w 256)]), (sL []), (.sl [(i 1), ff, (sL [(w 1)]), (sL [])] 1)] 2), (.sl [ff, nl, nl, (.sl [(i 0), ff, (sL [(w 1)]), (sL [])] 1), ff, (sL [(w 0), (w 256)]), (sL []), (.sl [(i 1), ff, (sL [(w 1)]), (sL [])] 1)] 2)])]), (.sl [ff, (sL [(w 1)]), (sL []), ff, (sL [(w 1)]), (sL [])] 2), (.ag [ff, (sL [(w 0), (w 256)]), (sL []), (.sl [(i 1), ff, (sL [(w 1)]), (sL [])] 1)])]
noncomputable def lt107 : T := (.tu [(.ag [ff, (sL [(w 1), (w 256)]), (sL [])]), (i 0)])
theorem lr107 : freshE Tryz.prog (evC Tryz.prog skE (orF Tryz.prog (tabO lb106) pfs) 1000) 0 254 la107 = some (lt107, true) := by kernel_rfl
noncomputable def lb107 : List (Nat × (List T → Option (T × Bool))) := (254, rowE la107 (lt107, true)) :: lb106
theorem lo107 : PureOk Tryz.prog (tabO lb107) := PureOk.cons lo106 (ev_row (by kernel_rfl) sk_ok lo106 pfs lr107) (by kernel_rfl)
/- clearway/iterate.Scores: 404 operations -/
noncomputable def la108 : List T := [(.ag [ff, (sL [(w 1)]), (sL []), (sL [(.sl [ff, nl, nl, (.sl [(i 0), ff, (sL [(w 1)]), (sL [])] 1), ff, (sL [(w 0), (w 256)]), (sL []), (.sl [(i 1), ff, (sL [(w 1)]), (sL [])] 1)] 2), (.sl [ff, nl, nl, (.sl [(i 0), ff, (sL [(w 1)]), (sL [])] 1), ff, (sL [(w 0), (w 256)]), (sL []), (.sl [(i 1), ff, (sL [(w 1)]), (sL [])] 1)] 2)])]), (.sl [ff, (sL [(w 1)]), (sL []), ff, (sL [(w 1)]), (sL [])] 2)]
noncomputable def lt108 : T := (.tu [(sL [(.sl [ff, (sL [(w 1)]), (sL []), ff, (sL [(w 1), (w 256)]), (sL [])] 2), (.sl [ff, (sL [(w 1)]), (sL []), ff, (sL [(w 1), (w 256)]), (sL [])] 2)]), (i 0)])
theorem lr108 : freshE Tryz.prog (evC Tryz.prog skE (orF Tryz.prog (tabO lb107) pfs) 1000) 0 128 la108 = some (lt108, true) := by kernel_rfl
noncomputable def lb108 : List (Nat × (List T → Option (T × Bool))) := (128, rowE la108 (lt108, true)) :: lb107
theorem lo108 : PureOk Tryz.prog (tabO lb108) := PureOk.cons lo107 (ev_row (by kernel_rfl) sk_ok lo107 pfs lr108) (by kernel_rfl)
/- clearway/pack.packed: 47 operations -/
noncomputable def la109 : List T := [(.ag [ff, (sL [(w 1)]), (sL [])]), (.ag [ff, (sL [(w 1)]), (sL [])]), (.ag [ff, (sL [(w 1)]), (sL [(w 2)])])]
noncomputable def lt109 : T := (i 1)
theorem lr109 : freshE Tryz.prog (evC Tryz.prog skE (orF Tryz.prog (tabO lb108) pfs) 1000) 0 129 la109 = some (lt109, true) := by kernel_rfl
noncomputable def lb109 : List (Nat × (List T → Option (T × Bool))) := (129, rowE la109 (lt109, true)) :: lb108
theorem lo109 : PureOk Tryz.prog (tabO lb109) := PureOk.cons lo108 (ev_row (by kernel_rfl) sk_ok lo108 pfs lr109) (by kernel_rfl)
/- clearway/rat.Floor: 80 operations -/
noncomputable def la110 : List T := [(.ag [ff, (sL [(w 3), (w 512)]), (sL [(w 2)])])]
noncomputable def lt110 : T := (.tu [(i 1099511627777), (i 0)])
theorem lr110 : freshE Tryz.prog (evC Tryz.prog skE (orF Tryz.prog (tabO lb109) pfs) 1000) 0 200 la110 = some (lt110, true) := by kernel_rfl
noncomputable def lb110 : List (Nat × (List T → Option (T × Bool))) := (200, rowE la110 (lt110, true)) :: lb109
theorem lo110 : PureOk Tryz.prog (tabO lb110) := PureOk.cons lo109 (ev_row (by kernel_rfl) sk_ok lo109 pfs lr110) (by kernel_rfl)
/- clearway/pack.Pack: 261 operations -/
noncomputable def la111 : List T := [(.ag [(sL [(i 0)]), (sL [(i 0)]), (sL [(i 0)]), (.sl [(.v (.int .u8 0)), (i 0), (i 0), (.v (.int .u8 1)), (i 0), (i 0)] 2), (i 0), (i 1), (i 1), (.sl [(i 0), ff, (sL [(w 1)]), nl] 1), (.sl [(i 0), ff, (sL [(w 1)]), nl] 1), ff, (sL [(w 0), (w 256)]), (sL []), ff, nl, nl, ff, nl, nl]), (i 1)]
noncomputable def lt111 : T := (.tu [(.ag [nl, nl, nl, nl, (i 0), (i 0), (i 0), nl, nl, ff, nl, nl, ff, nl, nl, ff, nl, nl, (i 0), nl, nl]), (i 7)])
theorem lr111 : freshE Tryz.prog (evC Tryz.prog skE (orF Tryz.prog (tabO lb110) pfs) 1000) 0 57 la111 = some (lt111, true) := by kernel_rfl
noncomputable def lb111 : List (Nat × (List T → Option (T × Bool))) := (57, rowE la111 (lt111, true)) :: lb110
theorem lo111 : PureOk Tryz.prog (tabO lb111) := PureOk.cons lo110 (ev_row (by kernel_rfl) sk_ok lo110 pfs lr111) (by kernel_rfl)
/- clearway/dynamics.Check: 288 operations -/
noncomputable def la112 : List T := [(.ag [(sL [(i 0)]), (sL [(i 0)]), (sL [(i 0)]), (.sl [(.v (.int .u8 0)), (i 0), (i 0)] 1), (i 0), (i 1), (i 0), (.sl [(i 0), ff, (sL [(w 1)]), nl] 1), (.sl [(i 0), ff, (sL [(w 1)]), nl] 1), ff, nl, nl, ff, nl, nl, ff, nl, nl])]
noncomputable def lt112 : T := (i 0)
theorem lr112 : freshE Tryz.prog (evC Tryz.prog skE (orF Tryz.prog (tabO lb111) pfs) 1000) 0 119 la112 = some (lt112, true) := by kernel_rfl
noncomputable def lb112 : List (Nat × (List T → Option (T × Bool))) := (119, rowE la112 (lt112, true)) :: lb111
theorem lo112 : PureOk Tryz.prog (tabO lb112) := PureOk.cons lo111 (ev_row (by kernel_rfl) sk_ok lo111 pfs lr112) (by kernel_rfl)
/- clearway/dynamics.Cost: 98 operations -/
noncomputable def la113 : List T := [(.ag [(sL [(i 0)]), (sL [(i 0)]), (sL [(i 0)]), (.sl [(.v (.int .u8 0)), (i 0), (i 0)] 1), (i 0), (i 1), (i 0), (.sl [(i 0), ff, (sL [(w 1)]), nl] 1), (.sl [(i 0), ff, (sL [(w 1)]), nl] 1), ff, nl, nl, ff, nl, nl, ff, nl, nl]), (i 0), (i 0)]
noncomputable def lt113 : T := (.tu [(.ag [ff, nl, nl]), (i 0)])
theorem lr113 : freshE Tryz.prog (evC Tryz.prog skE (orF Tryz.prog (tabO lb112) pfs) 1000) 0 190 la113 = some (lt113, true) := by kernel_rfl
noncomputable def lb113 : List (Nat × (List T → Option (T × Bool))) := (190, rowE la113 (lt113, true)) :: lb112
theorem lo113 : PureOk Tryz.prog (tabO lb113) := PureOk.cons lo112 (ev_row (by kernel_rfl) sk_ok lo112 pfs lr113) (by kernel_rfl)
/- clearway/dynamics.spread: 189 operations -/
noncomputable def la114 : List T := [(.ag [(sL [(i 0)]), (sL [(i 0)]), (sL [(i 0)]), (.sl [(.v (.int .u8 0)), (i 0), (i 0)] 1), (i 0), (i 1), (i 0), (.sl [(i 0), ff, (sL [(w 1)]), nl] 1), (.sl [(i 0), ff, (sL [(w 1)]), nl] 1), ff, nl, nl, ff, nl, nl, ff, nl, nl]), (i 0), (i 0), (i 0), (i 0)]
noncomputable def lt114 : T := (.tu [(.sl [(i 0), ff, (sL [(w 1)]), (sL [])] 1), (i 0)])
theorem lr114 : freshE Tryz.prog (evC Tryz.prog skE (orF Tryz.prog (tabO lb113) pfs) 1000) 0 191 la114 = some (lt114, true) := by kernel_rfl
noncomputable def lb114 : List (Nat × (List T → Option (T × Bool))) := (191, rowE la114 (lt114, true)) :: lb113
theorem lo114 : PureOk Tryz.prog (tabO lb114) := PureOk.cons lo113 (ev_row (by kernel_rfl) sk_ok lo113 pfs lr114) (by kernel_rfl)
/- clearway/dynamics.Build: 124 operations -/
noncomputable def la115 : List T := [(.ag [(sL [(i 0)]), (sL [(i 0)]), (sL [(i 0)]), (.sl [(.v (.int .u8 0)), (i 0), (i 0)] 1), (i 0), (i 1), (i 0), (.sl [(i 0), ff, (sL [(w 1)]), nl] 1), (.sl [(i 0), ff, (sL [(w 1)]), nl] 1), ff, nl, nl, ff, nl, nl, ff, nl, nl])]
noncomputable def lt115 : T := (.tu [(.ag [ff, (sL [(w 1)]), (sL []), (sL [(.sl [ff, nl, nl, (.sl [(i 0), ff, (sL [(w 1)]), (sL [])] 1)] 1)])]), (i 0)])
theorem lr115 : freshE Tryz.prog (evC Tryz.prog skE (orF Tryz.prog (tabO lb114) pfs) 1000) 0 121 la115 = some (lt115, true) := by kernel_rfl
noncomputable def lb115 : List (Nat × (List T → Option (T × Bool))) := (121, rowE la115 (lt115, true)) :: lb114
theorem lo115 : PureOk Tryz.prog (tabO lb115) := PureOk.cons lo114 (ev_row (by kernel_rfl) sk_ok lo114 pfs lr115) (by kernel_rfl)
/- clearway/pack.model: 80 operations -/
noncomputable def la116 : List T := [(.ag [(sL [(i 0)]), (sL [(i 0)]), (sL [(i 0)]), (.sl [(.v (.int .u8 0)), (i 0), (i 0)] 1), (i 0), (i 1), (i 0), (.sl [(i 0), ff, (sL [(w 1)]), nl] 1), (.sl [(i 0), ff, (sL [(w 1)]), nl] 1), ff, nl, nl, ff, nl, nl, ff, nl, nl])]
noncomputable def lt116 : T := (.ag [(sL [(i 0)]), (sL [(i 0)]), (sL [(i 0)]), (.sl [(.v (.int .u8 0)), (i 0), (i 0)] 1), (i 0), (i 1), (i 0), (.sl [(i 0), ff, (sL [(w 1)]), nl] 1), (.sl [(i 0), ff, (sL [(w 1)]), nl] 1), ff, nl, nl, ff, nl, nl, ff, nl, nl])
theorem lr116 : freshE Tryz.prog (evC Tryz.prog skE (orF Tryz.prog (tabO lb115) pfs) 1000) 0 124 la116 = some (lt116, true) := by kernel_rfl
noncomputable def lb116 : List (Nat × (List T → Option (T × Bool))) := (124, rowE la116 (lt116, true)) :: lb115
theorem lo116 : PureOk Tryz.prog (tabO lb116) := PureOk.cons lo115 (ev_row (by kernel_rfl) sk_ok lo115 pfs lr116) (by kernel_rfl)
/- clearway/pack.Pack: 90 operations -/
noncomputable def la117 : List T := [(.ag [(sL [(i 0)]), (sL [(i 0)]), (sL [(i 0)]), (.sl [(.v (.int .u8 0)), (i 0), (i 0)] 1), (i 0), (i 1), (i 0), (.sl [(i 0), ff, (sL [(w 1)]), nl] 1), (.sl [(i 0), ff, (sL [(w 1)]), nl] 1), ff, nl, nl, ff, nl, nl, ff, nl, nl]), (i 5)]
noncomputable def lt117 : T := (.tu [(.ag [(sL [(i 0)]), (sL [(i 0)]), (sL [(i 0)]), (.sl [(.v (.int .u8 0)), (i 0), (i 0)] 1), (i 0), (i 1), (i 0), (.sl [(i 0), ff, (sL [(w 1)]), nl] 1), (.sl [(i 0), ff, (sL [(w 1)]), nl] 1), ff, nl, nl, ff, nl, nl, ff, nl, nl, (i 5), nl, nl]), (i 0)])
theorem lr117 : freshE Tryz.prog (evC Tryz.prog skE (orF Tryz.prog (tabO lb116) pfs) 1000) 0 57 la117 = some (lt117, true) := by kernel_rfl
noncomputable def lb117 : List (Nat × (List T → Option (T × Bool))) := (57, rowE la117 (lt117, true)) :: lb116
theorem lo117 : PureOk Tryz.prog (tabO lb117) := PureOk.cons lo116 (ev_row (by kernel_rfl) sk_ok lo116 pfs lr117) (by kernel_rfl)
/- clearway/pack.Check: 62 operations -/
noncomputable def la118 : List T := [(.ag [(sL [(i 0)]), (sL [(i 0)]), (sL [(i 0)]), (.sl [(.v (.int .u8 0)), (i 0), (i 0)] 1), (i 0), (i 1), (i 0), (.sl [(i 0), ff, (sL [(w 1)]), nl] 1), (.sl [(i 0), ff, (sL [(w 1)]), nl] 1), ff, nl, nl, ff, nl, nl, ff, nl, nl, (i 5), nl, nl])]
noncomputable def lt118 : T := (i 0)
theorem lr118 : freshE Tryz.prog (evC Tryz.prog skE (orF Tryz.prog (tabO lb117) pfs) 1000) 0 61 la118 = some (lt118, true) := by kernel_rfl
noncomputable def lb118 : List (Nat × (List T → Option (T × Bool))) := (61, rowE la118 (lt118, true)) :: lb117
theorem lo118 : PureOk Tryz.prog (tabO lb118) := PureOk.cons lo117 (ev_row (by kernel_rfl) sk_ok lo117 pfs lr118) (by kernel_rfl)
/- clearway/pack.Encode: 64 operations -/
noncomputable def la119 : List T := [(.ag [(sL [(i 0)]), (sL [(i 0)]), (sL [(i 0)]), (.sl [(.v (.int .u8 0)), (i 0), (i 0)] 1), (i 0), (i 1), (i 0), (.sl [(i 0), ff, (sL [(w 1)]), nl] 1), (.sl [(i 0), ff, (sL [(w 1)]), nl] 1), ff, nl, nl, ff, nl, nl, ff, nl, nl, (i 5), nl, nl])]
noncomputable def lt119 : T := (.tu [(sL [(.v (.int .u8 5)), (.v (.int .u8 0))]), (i 0)])
theorem lr119 : freshE Tryz.prog (evC Tryz.prog skE (orF Tryz.prog (tabO lb118) pfs) 1000) 0 58 la119 = some (lt119, true) := by kernel_rfl
noncomputable def lb119 : List (Nat × (List T → Option (T × Bool))) := (58, rowE la119 (lt119, true)) :: lb118
theorem lo119 : PureOk Tryz.prog (tabO lb119) := PureOk.cons lo118 (ev_row (by kernel_rfl) sk_ok lo118 pfs lr119) (by kernel_rfl)
/- clearway/clearwaykit.EqualInts: 28 operations -/
noncomputable def la120 : List T := [(sL [(i 1048576)]), (sL [(i 1048576)])]
noncomputable def lt120 : T := tt
theorem lr120 : freshE Tryz.prog (evC Tryz.prog skE (orF Tryz.prog (tabO lb119) pfs) 1000) 0 64 la120 = some (lt120, true) := by kernel_rfl
noncomputable def lb120 : List (Nat × (List T → Option (T × Bool))) := (64, rowE la120 (lt120, true)) :: lb119
theorem lo120 : PureOk Tryz.prog (tabO lb120) := PureOk.cons lo119 (ev_row (by kernel_rfl) sk_ok lo119 pfs lr120) (by kernel_rfl)
/- clearway/clearwaykit.EqualRows: 29 operations -/
noncomputable def la121 : List T := [(sL [(sL [(i 1048576)])]), (sL [(sL [(i 1048576)])])]
noncomputable def lt121 : T := tt
theorem lr121 : freshE Tryz.prog (evC Tryz.prog skE (orF Tryz.prog (tabO lb120) pfs) 1000) 0 59 la121 = some (lt121, true) := by kernel_rfl
noncomputable def lb121 : List (Nat × (List T → Option (T × Bool))) := (59, rowE la121 (lt121, true)) :: lb120
theorem lo121 : PureOk Tryz.prog (tabO lb121) := PureOk.cons lo120 (ev_row (by kernel_rfl) sk_ok lo120 pfs lr121) (by kernel_rfl)
/- clearway/clearwaykit.EqualInts: 28 operations -/
noncomputable def la122 : List T := [(sL [(i 0)]), (sL [(i 0)])]
noncomputable def lt122 : T := tt
theorem lr122 : freshE Tryz.prog (evC Tryz.prog skE (orF Tryz.prog (tabO lb121) pfs) 1000) 0 64 la122 = some (lt122, true) := by kernel_rfl
noncomputable def lb122 : List (Nat × (List T → Option (T × Bool))) := (64, rowE la122 (lt122, true)) :: lb121
theorem lo122 : PureOk Tryz.prog (tabO lb122) := PureOk.cons lo121 (ev_row (by kernel_rfl) sk_ok lo121 pfs lr122) (by kernel_rfl)
/- clearway/clearwaykit.EqualRows: 29 operations -/
noncomputable def la123 : List T := [(sL [(sL [(i 0)])]), (sL [(sL [(i 0)])])]
noncomputable def lt123 : T := tt
theorem lr123 : freshE Tryz.prog (evC Tryz.prog skE (orF Tryz.prog (tabO lb122) pfs) 1000) 0 59 la123 = some (lt123, true) := by kernel_rfl
noncomputable def lb123 : List (Nat × (List T → Option (T × Bool))) := (59, rowE la123 (lt123, true)) :: lb122
theorem lo123 : PureOk Tryz.prog (tabO lb123) := PureOk.cons lo122 (ev_row (by kernel_rfl) sk_ok lo122 pfs lr123) (by kernel_rfl)
/- clearway/clearwaykit.EqualBytes: 44 operations -/
noncomputable def la124 : List T := [(sL [(.v (.int .u8 5)), (.v (.int .u8 0))]), (sL [(.v (.int .u8 5)), (.v (.int .u8 0))])]
noncomputable def lt124 : T := tt
theorem lr124 : freshE Tryz.prog (evC Tryz.prog skE (orF Tryz.prog (tabO lb123) pfs) 1000) 0 60 la124 = some (lt124, true) := by kernel_rfl
noncomputable def lb124 : List (Nat × (List T → Option (T × Bool))) := (60, rowE la124 (lt124, true)) :: lb123
theorem lo124 : PureOk Tryz.prog (tabO lb124) := PureOk.cons lo123 (ev_row (by kernel_rfl) sk_ok lo123 pfs lr124) (by kernel_rfl)
/- clearway/pack.Check: 23 operations -/
noncomputable def la125 : List T := [(.ag [(sL [(i 0)]), (sL [(i 0)]), (sL [(i 0)]), (.sl [(.v (.int .u8 0)), (i 0), (i 0)] 1), (i 0), (i 1), (i 1), (.sl [(i 0), ff, (sL [(w 1)]), (sL [])] 1), (.sl [(i 0), ff, (sL [(w 1)]), (sL [])] 1), ff, nl, nl, ff, nl, nl, ff, nl, nl, (i 0), nl, nl])]
noncomputable def lt125 : T := (i 1)
theorem lr125 : freshE Tryz.prog (evC Tryz.prog skE (orF Tryz.prog (tabO lb124) pfs) 1000) 0 61 la125 = some (lt125, true) := by kernel_rfl
noncomputable def lb125 : List (Nat × (List T → Option (T × Bool))) := (61, rowE la125 (lt125, true)) :: lb124
theorem lo125 : PureOk Tryz.prog (tabO lb125) := PureOk.cons lo124 (ev_row (by kernel_rfl) sk_ok lo124 pfs lr125) (by kernel_rfl)
/- clearway/pack.Check: 31 operations -/
noncomputable def la126 : List T := [(.ag [(sL [(i 0)]), (sL [(i 0)]), (sL [(i 0)]), (.sl [(.v (.int .u8 0)), (i 0), (i 0)] 1), (i 0), (i 1), (i 1), (.sl [(i 0), ff, (sL [(w 1)]), (sL [])] 1), (.sl [(i 0), ff, (sL [(w 1)]), (sL [])] 1), ff, nl, nl, ff, nl, nl, ff, nl, nl, (i 1), nl, nl])]
noncomputable def lt126 : T := (i 16)
theorem lr126 : freshE Tryz.prog (evC Tryz.prog skE (orF Tryz.prog (tabO lb125) pfs) 1000) 0 61 la126 = some (lt126, true) := by kernel_rfl
noncomputable def lb126 : List (Nat × (List T → Option (T × Bool))) := (61, rowE la126 (lt126, true)) :: lb125
theorem lo126 : PureOk Tryz.prog (tabO lb126) := PureOk.cons lo125 (ev_row (by kernel_rfl) sk_ok lo125 pfs lr126) (by kernel_rfl)
/- clearway/pack.Check: 45 operations -/
noncomputable def la127 : List T := [(.ag [(sL [(i 0)]), (sL [(i 0)]), (sL [(i 0)]), (.sl [(.v (.int .u8 0)), (i 0), (i 0)] 1), (i 0), (i 1), (i 1), (.sl [(i 0), ff, (sL [(w 1)]), (sL [])] 1), (.sl [(i 0), ff, (sL [(w 1)]), (sL [])] 1), ff, nl, nl, ff, nl, nl, ff, nl, nl, (i 1), nl, (sL [(sL [(i 0), (i 0)])])])]
noncomputable def lt127 : T := (i 16)
theorem lr127 : freshE Tryz.prog (evC Tryz.prog skE (orF Tryz.prog (tabO lb126) pfs) 1000) 0 61 la127 = some (lt127, true) := by kernel_rfl
noncomputable def lb127 : List (Nat × (List T → Option (T × Bool))) := (61, rowE la127 (lt127, true)) :: lb126
theorem lo127 : PureOk Tryz.prog (tabO lb127) := PureOk.cons lo126 (ev_row (by kernel_rfl) sk_ok lo126 pfs lr127) (by kernel_rfl)
/- clearway/pack.Check: 62 operations -/
noncomputable def la128 : List T := [(.ag [(sL [(i 0)]), (sL [(i 0)]), (sL [(i 0)]), (.sl [(.v (.int .u8 0)), (i 0), (i 0)] 1), (i 0), (i 1), (i 1), (.sl [(i 0), ff, (sL [(w 1)]), (sL [])] 1), (.sl [(i 0), ff, (sL [(w 1)]), (sL [])] 1), ff, nl, nl, ff, nl, nl, ff, nl, nl, (i 1), nl, (sL [(sL [(i 0)])])])]
noncomputable def lt128 : T := (i 8)
theorem lr128 : freshE Tryz.prog (evC Tryz.prog skE (orF Tryz.prog (tabO lb127) pfs) 1000) 0 61 la128 = some (lt128, true) := by kernel_rfl
noncomputable def lb128 : List (Nat × (List T → Option (T × Bool))) := (61, rowE la128 (lt128, true)) :: lb127
theorem lo128 : PureOk Tryz.prog (tabO lb128) := PureOk.cons lo127 (ev_row (by kernel_rfl) sk_ok lo127 pfs lr128) (by kernel_rfl)
/- clearway/pack.Check: 96 operations -/
noncomputable def la129 : List T := [(.ag [(sL [(i 0)]), (sL [(i 0)]), (sL [(i 0)]), (.sl [(.v (.int .u8 0)), (i 0), (i 0)] 1), (i 0), (i 1), (i 1), (.sl [(i 0), ff, (sL [(w 1)]), (sL [])] 1), (.sl [(i 0), ff, (sL [(w 1)]), (sL [])] 1), ff, nl, nl, ff, nl, nl, ff, nl, nl, (i 1), (sL [(sL [(i 1), (i 2)])]), (sL [(sL [(i 0)])])])]
noncomputable def lt129 : T := (i 16)
theorem lr129 : freshE Tryz.prog (evC Tryz.prog skE (orF Tryz.prog (tabO lb128) pfs) 1000) 0 61 la129 = some (lt129, true) := by kernel_rfl
noncomputable def lb129 : List (Nat × (List T → Option (T × Bool))) := (61, rowE la129 (lt129, true)) :: lb128
theorem lo129 : PureOk Tryz.prog (tabO lb129) := PureOk.cons lo128 (ev_row (by kernel_rfl) sk_ok lo128 pfs lr129) (by kernel_rfl)
/- clearway/pack.Check: 109 operations -/
noncomputable def la130 : List T := [(.ag [(sL [(i 0)]), (sL [(i 0)]), (sL [(i 0)]), (.sl [(.v (.int .u8 0)), (i 0), (i 0)] 1), (i 0), (i 1), (i 1), (.sl [(i 0), ff, (sL [(w 1)]), (sL [])] 1), (.sl [(i 0), ff, (sL [(w 1)]), (sL [])] 1), ff, nl, nl, ff, nl, nl, ff, nl, nl, (i 1), (sL [(sL [(i (-1))])]), (sL [(sL [(i 0)])])])]
noncomputable def lt130 : T := (i 1)
theorem lr130 : freshE Tryz.prog (evC Tryz.prog skE (orF Tryz.prog (tabO lb129) pfs) 1000) 0 61 la130 = some (lt130, true) := by kernel_rfl
noncomputable def lb130 : List (Nat × (List T → Option (T × Bool))) := (61, rowE la130 (lt130, true)) :: lb129
theorem lo130 : PureOk Tryz.prog (tabO lb130) := PureOk.cons lo129 (ev_row (by kernel_rfl) sk_ok lo129 pfs lr130) (by kernel_rfl)
/- clearway/pack.Check: 109 operations -/
noncomputable def la131 : List T := [(.ag [(sL [(i 0)]), (sL [(i 0)]), (sL [(i 0)]), (.sl [(.v (.int .u8 0)), (i 0), (i 0)] 1), (i 0), (i 1), (i 1), (.sl [(i 0), ff, (sL [(w 1)]), (sL [])] 1), (.sl [(i 0), ff, (sL [(w 1)]), (sL [])] 1), ff, nl, nl, ff, nl, nl, ff, nl, nl, (i 1), (sL [(sL [(i 1099511627777)])]), (sL [(sL [(i 0)])])])]
noncomputable def lt131 : T := (i 1)
theorem lr131 : freshE Tryz.prog (evC Tryz.prog skE (orF Tryz.prog (tabO lb130) pfs) 1000) 0 61 la131 = some (lt131, true) := by kernel_rfl
noncomputable def lb131 : List (Nat × (List T → Option (T × Bool))) := (61, rowE la131 (lt131, true)) :: lb130
theorem lo131 : PureOk Tryz.prog (tabO lb131) := PureOk.cons lo130 (ev_row (by kernel_rfl) sk_ok lo130 pfs lr131) (by kernel_rfl)
/- clearway/pack.Check: 138 operations -/
noncomputable def la132 : List T := [(.ag [(sL [(i 0)]), (sL [(i 0)]), (sL [(i 0)]), (.sl [(.v (.int .u8 0)), (i 0), (i 0)] 1), (i 0), (i 1), (i 1), (.sl [(i 0), ff, (sL [(w 1)]), (sL [])] 1), (.sl [(i 0), ff, (sL [(w 1)]), (sL [])] 1), ff, nl, nl, ff, nl, nl, ff, nl, nl, (i 1), (sL [(sL [(i 1099511627776)])]), (sL [(sL [(i 0)])])])]
noncomputable def lt132 : T := (i 0)
theorem lr132 : freshE Tryz.prog (evC Tryz.prog skE (orF Tryz.prog (tabO lb131) pfs) 1000) 0 61 la132 = some (lt132, true) := by kernel_rfl
noncomputable def lb132 : List (Nat × (List T → Option (T × Bool))) := (61, rowE la132 (lt132, true)) :: lb131
theorem lo132 : PureOk Tryz.prog (tabO lb132) := PureOk.cons lo131 (ev_row (by kernel_rfl) sk_ok lo131 pfs lr132) (by kernel_rfl)
/- clearway/pack.Check: 173 operations -/
noncomputable def la133 : List T := [(.ag [(sL [(i 0)]), (sL [(i 0)]), (sL [(i 0)]), (.sl [(.v (.int .u8 0)), (i 0), (i 0)] 1), (i 0), (i 1), (i 1), (.sl [(i 0), ff, (sL [(w 1)]), (sL [])] 1), (.sl [(i 0), ff, (sL [(w 1)]), (sL [])] 1), ff, nl, nl, ff, nl, nl, ff, nl, nl, (i 1), (sL [(sL [(i 1)]), (sL [(i 2)])]), (sL [(sL [(i 0)])])])]
noncomputable def lt133 : T := (i 2)
theorem lr133 : freshE Tryz.prog (evC Tryz.prog skE (orF Tryz.prog (tabO lb132) pfs) 1000) 0 61 la133 = some (lt133, true) := by kernel_rfl
noncomputable def lb133 : List (Nat × (List T → Option (T × Bool))) := (61, rowE la133 (lt133, true)) :: lb132
theorem lo133 : PureOk Tryz.prog (tabO lb133) := PureOk.cons lo132 (ev_row (by kernel_rfl) sk_ok lo132 pfs lr133) (by kernel_rfl)
/- clearway/pack.Check: 167 operations -/
noncomputable def la134 : List T := [(.ag [(sL [(i 0)]), (sL [(i 0)]), (sL [(i 0)]), (.sl [(.v (.int .u8 0)), (i 0), (i 0)] 1), (i 0), (i 1), (i 1), (.sl [(i 0), ff, (sL [(w 1)]), (sL [])] 1), (.sl [(i 0), ff, (sL [(w 1)]), (sL [])] 1), ff, nl, nl, ff, nl, nl, ff, nl, nl, (i 1), (sL [(sL [(i 1)]), (sL [(i 2)])]), (sL [(sL [(i 1)])])])]
noncomputable def lt134 : T := (i 2)
theorem lr134 : freshE Tryz.prog (evC Tryz.prog skE (orF Tryz.prog (tabO lb133) pfs) 1000) 0 61 la134 = some (lt134, true) := by kernel_rfl
noncomputable def lb134 : List (Nat × (List T → Option (T × Bool))) := (61, rowE la134 (lt134, true)) :: lb133
theorem lo134 : PureOk Tryz.prog (tabO lb134) := PureOk.cons lo133 (ev_row (by kernel_rfl) sk_ok lo133 pfs lr134) (by kernel_rfl)
/- clearway/pack.Check: 173 operations -/
noncomputable def la135 : List T := [(.ag [(sL [(i 0)]), (sL [(i 0)]), (sL [(i 0)]), (.sl [(.v (.int .u8 0)), (i 0), (i 0)] 1), (i 0), (i 1), (i 1), (.sl [(i 0), ff, (sL [(w 1)]), (sL [])] 1), (.sl [(i 0), ff, (sL [(w 1)]), (sL [])] 1), ff, nl, nl, ff, nl, nl, ff, nl, nl, (i 1), (sL [(sL [(i 1)]), (sL [(i 1)])]), (sL [(sL [(i 0)])])])]
noncomputable def lt135 : T := (i 2)
theorem lr135 : freshE Tryz.prog (evC Tryz.prog skE (orF Tryz.prog (tabO lb134) pfs) 1000) 0 61 la135 = some (lt135, true) := by kernel_rfl
noncomputable def lb135 : List (Nat × (List T → Option (T × Bool))) := (61, rowE la135 (lt135, true)) :: lb134
theorem lo135 : PureOk Tryz.prog (tabO lb135) := PureOk.cons lo134 (ev_row (by kernel_rfl) sk_ok lo134 pfs lr135) (by kernel_rfl)
/- clearway/pack.Decode: 85 operations -/
noncomputable def la136 : List T := [(.ag [(sL [(i 0)]), (sL [(i 0)]), (sL [(i 0)]), (.sl [(.v (.int .u8 0)), (i 0), (i 0)] 1), (i 0), (i 1), (i 1), (.sl [(i 0), ff, (sL [(w 1)]), (sL [])] 1), (.sl [(i 0), ff, (sL [(w 1)]), (sL [])] 1), ff, nl, nl, ff, nl, nl, ff, nl, nl]), nl]
noncomputable def lt136 : T := (.tu [(.ag [nl, nl, nl, nl, (i 0), (i 0), (i 0), nl, nl, ff, nl, nl, ff, nl, nl, ff, nl, nl, (i 0), nl, nl]), (i 3)])
theorem lr136 : freshE Tryz.prog (evC Tryz.prog skE (orF Tryz.prog (tabO lb135) pfs) 1000) 0 62 la136 = some (lt136, true) := by kernel_rfl
noncomputable def lb136 : List (Nat × (List T → Option (T × Bool))) := (62, rowE la136 (lt136, true)) :: lb135
theorem lo136 : PureOk Tryz.prog (tabO lb136) := PureOk.cons lo135 (ev_row (by kernel_rfl) sk_ok lo135 pfs lr136) (by kernel_rfl)
/- clearway/pack.Decode: 159 operations -/
noncomputable def la137 : List T := [(.ag [(sL [(i 0)]), (sL [(i 0)]), (sL [(i 0)]), (.sl [(.v (.int .u8 0)), (i 0), (i 0)] 1), (i 0), (i 1), (i 1), (.sl [(i 0), ff, (sL [(w 1)]), (sL [])] 1), (.sl [(i 0), ff, (sL [(w 1)]), (sL [])] 1), ff, nl, nl, ff, nl, nl, ff, nl, nl]), (sL [(.v (.int .u8 128))])]
noncomputable def lt137 : T := (.tu [(.ag [nl, nl, nl, nl, (i 0), (i 0), (i 0), nl, nl, ff, nl, nl, ff, nl, nl, ff, nl, nl, (i 0), nl, nl]), (i 3)])
theorem lr137 : freshE Tryz.prog (evC Tryz.prog skE (orF Tryz.prog (tabO lb136) pfs) 1000) 0 62 la137 = some (lt137, true) := by kernel_rfl
noncomputable def lb137 : List (Nat × (List T → Option (T × Bool))) := (62, rowE la137 (lt137, true)) :: lb136
theorem lo137 : PureOk Tryz.prog (tabO lb137) := PureOk.cons lo136 (ev_row (by kernel_rfl) sk_ok lo136 pfs lr137) (by kernel_rfl)
/- clearway/pack.Decode: 235 operations -/
noncomputable def la138 : List T := [(.ag [(sL [(i 0)]), (sL [(i 0)]), (sL [(i 0)]), (.sl [(.v (.int .u8 0)), (i 0), (i 0)] 1), (i 0), (i 1), (i 1), (.sl [(i 0), ff, (sL [(w 1)]), (sL [])] 1), (.sl [(i 0), ff, (sL [(w 1)]), (sL [])] 1), ff, nl, nl, ff, nl, nl, ff, nl, nl]), (sL [(.v (.int .u8 128)), (.v (.int .u8 0))])]
noncomputable def lt138 : T := (.tu [(.ag [nl, nl, nl, nl, (i 0), (i 0), (i 0), nl, nl, ff, nl, nl, ff, nl, nl, ff, nl, nl, (i 0), nl, nl]), (i 2)])
theorem lr138 : freshE Tryz.prog (evC Tryz.prog skE (orF Tryz.prog (tabO lb137) pfs) 1000) 0 62 la138 = some (lt138, true) := by kernel_rfl
noncomputable def lb138 : List (Nat × (List T → Option (T × Bool))) := (62, rowE la138 (lt138, true)) :: lb137
theorem lo138 : PureOk Tryz.prog (tabO lb138) := PureOk.cons lo137 (ev_row (by kernel_rfl) sk_ok lo137 pfs lr138) (by kernel_rfl)
/- clearway/pack.Decode: 165 operations -/
noncomputable def la139 : List T := [(.ag [(sL [(i 0)]), (sL [(i 0)]), (sL [(i 0)]), (.sl [(.v (.int .u8 0)), (i 0), (i 0)] 1), (i 0), (i 1), (i 1), (.sl [(i 0), ff, (sL [(w 1)]), (sL [])] 1), (.sl [(i 0), ff, (sL [(w 1)]), (sL [])] 1), ff, nl, nl, ff, nl, nl, ff, nl, nl]), (sL [(.v (.int .u8 1)), (.v (.int .u8 2))])]
noncomputable def lt139 : T := (.tu [(.ag [nl, nl, nl, nl, (i 0), (i 0), (i 0), nl, nl, ff, nl, nl, ff, nl, nl, ff, nl, nl, (i 0), nl, nl]), (i 2)])
theorem lr139 : freshE Tryz.prog (evC Tryz.prog skE (orF Tryz.prog (tabO lb138) pfs) 1000) 0 62 la139 = some (lt139, true) := by kernel_rfl
noncomputable def lb139 : List (Nat × (List T → Option (T × Bool))) := (62, rowE la139 (lt139, true)) :: lb138
theorem lo139 : PureOk Tryz.prog (tabO lb139) := PureOk.cons lo138 (ev_row (by kernel_rfl) sk_ok lo138 pfs lr139) (by kernel_rfl)
/- clearway/pack.Decode: 210 operations -/
noncomputable def la140 : List T := [(.ag [(sL [(i 0)]), (sL [(i 0)]), (sL [(i 0)]), (.sl [(.v (.int .u8 0)), (i 0), (i 0)] 1), (i 0), (i 1), (i 1), (.sl [(i 0), ff, (sL [(w 1)]), (sL [])] 1), (.sl [(i 0), ff, (sL [(w 1)]), (sL [])] 1), ff, nl, nl, ff, nl, nl, ff, nl, nl]), (sL [(.v (.int .u8 1)), (.v (.int .u8 1))])]
noncomputable def lt140 : T := (.tu [(.ag [nl, nl, nl, nl, (i 0), (i 0), (i 0), nl, nl, ff, nl, nl, ff, nl, nl, ff, nl, nl, (i 0), nl, nl]), (i 3)])
theorem lr140 : freshE Tryz.prog (evC Tryz.prog skE (orF Tryz.prog (tabO lb139) pfs) 1000) 0 62 la140 = some (lt140, true) := by kernel_rfl
noncomputable def lb140 : List (Nat × (List T → Option (T × Bool))) := (62, rowE la140 (lt140, true)) :: lb139
theorem lo140 : PureOk Tryz.prog (tabO lb140) := PureOk.cons lo139 (ev_row (by kernel_rfl) sk_ok lo139 pfs lr140) (by kernel_rfl)
end Go.Proofs.YtdfmdiakjdggbaaGreatDoor

/- Parts of the proof: L1e L1f. By an AI agent. -/
import Derived.Test.YtdfmdiakjdggbaaGreatDoorBaseA
import Derived.Test.YtdfmdiakjdggbaaGreatDoorBaseB
import Derived.Test.YtdfmdiakjdggbaaGreatDoorBaseC
import Derived.Test.YtdfmdiakjdggbaaGreatDoorBaseD
import Derived.Test.YtdfmdiakjdggbaaGreatDoorBaseE
import Derived.Test.YtdfmdiakjdggbaaGreatDoorBaseF
import Derived.Test.YtdfmdiakjdggbaaGreatDoorBaseG
import Derived.Test.YtdfmdiakjdggbaaGreatDoorBaseH
import Derived.Test.YtdfmdiakjdggbaaGreatDoorBaseI
set_option linter.unusedVariables false
set_option linter.unusedSimpArgs false
set_option linter.unnecessarySimpa false
/- Closed calls, reckoned by the kernel; printed by a program of this repo. By an AI agent. -/
namespace Go.Proofs.YtdfmdiakjdggbaaGreatDoor
open Go Go.Gv Go.Ev
set_option maxRecDepth 1000000
/- clearway/pack.Decode: 285 operations -/
noncomputable def la141 : List T := [(.ag [(sL [(i 0)]), (sL [(i 0)]), (sL [(i 0)]), (.sl [(.v (.int .u8 0)), (i 0), (i 0)] 1), (i 0), (i 1), (i 1), (.sl [(i 0), ff, (sL [(w 1)]), (sL [])] 1), (.sl [(i 0), ff, (sL [(w 1)]), (sL [])] 1), ff, nl, nl, ff, nl, nl, ff, nl, nl]), (sL [(.v (.int .u8 1)), (.v (.int .u8 1)), (.v (.int .u8 7))])]
noncomputable def lt141 : T := (.tu [(.ag [nl, nl, nl, nl, (i 0), (i 0), (i 0), nl, nl, ff, nl, nl, ff, nl, nl, ff, nl, nl, (i 0), nl, nl]), (i 3)])
theorem lr141 : freshE Tryz.prog (evC Tryz.prog skE (orF Tryz.prog (tabO lb140) pfs) 1000) 0 62 la141 = some (lt141, true) := by kernel_rfl
noncomputable def lb141 : List (Nat × (List T → Option (T × Bool))) := (62, rowE la141 (lt141, true)) :: lb140
theorem lo141 : PureOk Tryz.prog (tabO lb141) := PureOk.cons lo140 (ev_row (by kernel_rfl) sk_ok lo140 pfs lr141) (by kernel_rfl)
/- clearway/pack.Decode: 317 operations -/
noncomputable def la142 : List T := [(.ag [(sL [(i 0)]), (sL [(i 0)]), (sL [(i 0)]), (.sl [(.v (.int .u8 0)), (i 0), (i 0)] 1), (i 0), (i 1), (i 1), (.sl [(i 0), ff, (sL [(w 1)]), (sL [])] 1), (.sl [(i 0), ff, (sL [(w 1)]), (sL [])] 1), ff, nl, nl, ff, nl, nl, ff, nl, nl]), (sL [(.v (.int .u8 1)), (.v (.int .u8 1)), (.v (.int .u8 7)), (.v (.int .u8 0))])]
noncomputable def lt142 : T := (.tu [(.ag [nl, nl, nl, nl, (i 0), (i 0), (i 0), nl, nl, ff, nl, nl, ff, nl, nl, ff, nl, nl, (i 0), nl, nl]), (i 2)])
theorem lr142 : freshE Tryz.prog (evC Tryz.prog skE (orF Tryz.prog (tabO lb141) pfs) 1000) 0 62 la142 = some (lt142, true) := by kernel_rfl
noncomputable def lb142 : List (Nat × (List T → Option (T × Bool))) := (62, rowE la142 (lt142, true)) :: lb141
theorem lo142 : PureOk Tryz.prog (tabO lb142) := PureOk.cons lo141 (ev_row (by kernel_rfl) sk_ok lo141 pfs lr142) (by kernel_rfl)
/- clearway/pack.Decode: 317 operations -/
noncomputable def la143 : List T := [(.ag [(sL [(i 0)]), (sL [(i 0)]), (sL [(i 0)]), (.sl [(.v (.int .u8 0)), (i 0), (i 0)] 1), (i 0), (i 1), (i 1), (.sl [(i 0), ff, (sL [(w 1)]), (sL [])] 1), (.sl [(i 0), ff, (sL [(w 1)]), (sL [])] 1), ff, nl, nl, ff, nl, nl, ff, nl, nl]), (sL [(.v (.int .u8 1)), (.v (.int .u8 1)), (.v (.int .u8 7)), (.v (.int .u8 2))])]
noncomputable def lt143 : T := (.tu [(.ag [nl, nl, nl, nl, (i 0), (i 0), (i 0), nl, nl, ff, nl, nl, ff, nl, nl, ff, nl, nl, (i 0), nl, nl]), (i 2)])
theorem lr143 : freshE Tryz.prog (evC Tryz.prog skE (orF Tryz.prog (tabO lb142) pfs) 1000) 0 62 la143 = some (lt143, true) := by kernel_rfl
noncomputable def lb143 : List (Nat × (List T → Option (T × Bool))) := (62, rowE la143 (lt143, true)) :: lb142
theorem lo143 : PureOk Tryz.prog (tabO lb143) := PureOk.cons lo142 (ev_row (by kernel_rfl) sk_ok lo142 pfs lr143) (by kernel_rfl)
/- clearway/pack.Decode: 346 operations -/
noncomputable def la144 : List T := [(.ag [(sL [(i 0)]), (sL [(i 0)]), (sL [(i 0)]), (.sl [(.v (.int .u8 0)), (i 0), (i 0)] 1), (i 0), (i 1), (i 1), (.sl [(i 0), ff, (sL [(w 1)]), (sL [])] 1), (.sl [(i 0), ff, (sL [(w 1)]), (sL [])] 1), ff, nl, nl, ff, nl, nl, ff, nl, nl]), (sL [(.v (.int .u8 1)), (.v (.int .u8 1)), (.v (.int .u8 7)), (.v (.int .u8 1))])]
noncomputable def lt144 : T := (.tu [(.ag [nl, nl, nl, nl, (i 0), (i 0), (i 0), nl, nl, ff, nl, nl, ff, nl, nl, ff, nl, nl, (i 0), nl, nl]), (i 3)])
theorem lr144 : freshE Tryz.prog (evC Tryz.prog skE (orF Tryz.prog (tabO lb143) pfs) 1000) 0 62 la144 = some (lt144, true) := by kernel_rfl
noncomputable def lb144 : List (Nat × (List T → Option (T × Bool))) := (62, rowE la144 (lt144, true)) :: lb143
theorem lo144 : PureOk Tryz.prog (tabO lb144) := PureOk.cons lo143 (ev_row (by kernel_rfl) sk_ok lo143 pfs lr144) (by kernel_rfl)
/- clearway/pack.Check: 138 operations -/
noncomputable def la145 : List T := [(.ag [(sL [(i 0)]), (sL [(i 0)]), (sL [(i 0)]), (.sl [(.v (.int .u8 0)), (i 0), (i 0)] 1), (i 0), (i 1), (i 1), (.sl [(i 0), ff, (sL [(w 1)]), (sL [])] 1), (.sl [(i 0), ff, (sL [(w 1)]), (sL [])] 1), ff, nl, nl, ff, nl, nl, ff, nl, nl, (i 1), (sL [(sL [(i 7)])]), (sL [(sL [(i 0)])])])]
noncomputable def lt145 : T := (i 0)
theorem lr145 : freshE Tryz.prog (evC Tryz.prog skE (orF Tryz.prog (tabO lb144) pfs) 1000) 0 61 la145 = some (lt145, true) := by kernel_rfl
noncomputable def lb145 : List (Nat × (List T → Option (T × Bool))) := (61, rowE la145 (lt145, true)) :: lb144
theorem lo145 : PureOk Tryz.prog (tabO lb145) := PureOk.cons lo144 (ev_row (by kernel_rfl) sk_ok lo144 pfs lr145) (by kernel_rfl)
/- clearway/pack.Decode: 390 operations -/
noncomputable def la146 : List T := [(.ag [(sL [(i 0)]), (sL [(i 0)]), (sL [(i 0)]), (.sl [(.v (.int .u8 0)), (i 0), (i 0)] 1), (i 0), (i 1), (i 1), (.sl [(i 0), ff, (sL [(w 1)]), (sL [])] 1), (.sl [(i 0), ff, (sL [(w 1)]), (sL [])] 1), ff, nl, nl, ff, nl, nl, ff, nl, nl]), (sL [(.v (.int .u8 1)), (.v (.int .u8 1)), (.v (.int .u8 7)), (.v (.int .u8 1)), (.v (.int .u8 0))])]
noncomputable def lt146 : T := (.tu [(.ag [(sL [(i 0)]), (sL [(i 0)]), (sL [(i 0)]), (.sl [(.v (.int .u8 0)), (i 0), (i 0)] 1), (i 0), (i 1), (i 1), (.sl [(i 0), ff, (sL [(w 1)]), (sL [])] 1), (.sl [(i 0), ff, (sL [(w 1)]), (sL [])] 1), ff, nl, nl, ff, nl, nl, ff, nl, nl, (i 1), (sL [(sL [(i 7)])]), (sL [(sL [(i 0)])])]), (i 0)])
theorem lr146 : freshE Tryz.prog (evC Tryz.prog skE (orF Tryz.prog (tabO lb145) pfs) 1000) 0 62 la146 = some (lt146, true) := by kernel_rfl
noncomputable def lb146 : List (Nat × (List T → Option (T × Bool))) := (62, rowE la146 (lt146, true)) :: lb145
theorem lo146 : PureOk Tryz.prog (tabO lb146) := PureOk.cons lo145 (ev_row (by kernel_rfl) sk_ok lo145 pfs lr146) (by kernel_rfl)
/- clearway/pack.Check: 62 operations -/
noncomputable def la147 : List T := [(.ag [(sL [(i 0)]), (sL [(i 0)]), (sL [(i 0)]), (.sl [(.v (.int .u8 0)), (i 0), (i 0)] 1), (i 0), (i 1), (i 1), (.sl [(i 0), ff, (sL [(w 1)]), (sL [])] 1), (.sl [(i 0), ff, (sL [(w 1)]), (sL [])] 1), ff, nl, nl, ff, nl, nl, ff, nl, nl, (i 1), (sL [(sL [(i 7)])]), (sL [(sL [(i 1)])])])]
noncomputable def lt147 : T := (i 8)
theorem lr147 : freshE Tryz.prog (evC Tryz.prog skE (orF Tryz.prog (tabO lb146) pfs) 1000) 0 61 la147 = some (lt147, true) := by kernel_rfl
noncomputable def lb147 : List (Nat × (List T → Option (T × Bool))) := (61, rowE la147 (lt147, true)) :: lb146
theorem lo147 : PureOk Tryz.prog (tabO lb147) := PureOk.cons lo146 (ev_row (by kernel_rfl) sk_ok lo146 pfs lr147) (by kernel_rfl)
/- clearway/pack.Decode: 400 operations -/
noncomputable def la148 : List T := [(.ag [(sL [(i 0)]), (sL [(i 0)]), (sL [(i 0)]), (.sl [(.v (.int .u8 0)), (i 0), (i 0)] 1), (i 0), (i 1), (i 1), (.sl [(i 0), ff, (sL [(w 1)]), (sL [])] 1), (.sl [(i 0), ff, (sL [(w 1)]), (sL [])] 1), ff, nl, nl, ff, nl, nl, ff, nl, nl]), (sL [(.v (.int .u8 1)), (.v (.int .u8 1)), (.v (.int .u8 7)), (.v (.int .u8 1)), (.v (.int .u8 1))])]
noncomputable def lt148 : T := (.tu [(.ag [nl, nl, nl, nl, (i 0), (i 0), (i 0), nl, nl, ff, nl, nl, ff, nl, nl, ff, nl, nl, (i 0), nl, nl]), (i 8)])
theorem lr148 : freshE Tryz.prog (evC Tryz.prog skE (orF Tryz.prog (tabO lb147) pfs) 1000) 0 62 la148 = some (lt148, true) := by kernel_rfl
noncomputable def lb148 : List (Nat × (List T → Option (T × Bool))) := (62, rowE la148 (lt148, true)) :: lb147
theorem lo148 : PureOk Tryz.prog (tabO lb148) := PureOk.cons lo147 (ev_row (by kernel_rfl) sk_ok lo147 pfs lr148) (by kernel_rfl)
/- clearway/pack.Decode: 398 operations -/
noncomputable def la149 : List T := [(.ag [(sL [(i 0)]), (sL [(i 0)]), (sL [(i 0)]), (.sl [(.v (.int .u8 0)), (i 0), (i 0)] 1), (i 0), (i 1), (i 1), (.sl [(i 0), ff, (sL [(w 1)]), (sL [])] 1), (.sl [(i 0), ff, (sL [(w 1)]), (sL [])] 1), ff, nl, nl, ff, nl, nl, ff, nl, nl]), (sL [(.v (.int .u8 1)), (.v (.int .u8 1)), (.v (.int .u8 7)), (.v (.int .u8 1)), (.v (.int .u8 0)), (.v (.int .u8 0))])]
noncomputable def lt149 : T := (.tu [(.ag [nl, nl, nl, nl, (i 0), (i 0), (i 0), nl, nl, ff, nl, nl, ff, nl, nl, ff, nl, nl, (i 0), nl, nl]), (i 5)])
theorem lr149 : freshE Tryz.prog (evC Tryz.prog skE (orF Tryz.prog (tabO lb148) pfs) 1000) 0 62 la149 = some (lt149, true) := by kernel_rfl
noncomputable def lb149 : List (Nat × (List T → Option (T × Bool))) := (62, rowE la149 (lt149, true)) :: lb148
theorem lo149 : PureOk Tryz.prog (tabO lb149) := PureOk.cons lo148 (ev_row (by kernel_rfl) sk_ok lo148 pfs lr149) (by kernel_rfl)
/- clearway/pack.Check: 23 operations -/
noncomputable def la150 : List T := [(.ag [(sL [(i 0)]), (sL [(i 0)]), (sL [(i 0)]), (.sl [(.v (.int .u8 0)), (i 0), (i 0)] 1), (i 0), (i 1), (i 1), (.sl [(i 0), ff, (sL [(w 1)]), (sL [])] 1), (.sl [(i 0), ff, (sL [(w 1)]), (sL [])] 1), ff, nl, nl, ff, nl, nl, ff, nl, nl, (i 0), (sL [(sL [(i 7)])]), (sL [(sL [(i 0)])])])]
noncomputable def lt150 : T := (i 1)
theorem lr150 : freshE Tryz.prog (evC Tryz.prog skE (orF Tryz.prog (tabO lb149) pfs) 1000) 0 61 la150 = some (lt150, true) := by kernel_rfl
noncomputable def lb150 : List (Nat × (List T → Option (T × Bool))) := (61, rowE la150 (lt150, true)) :: lb149
theorem lo150 : PureOk Tryz.prog (tabO lb150) := PureOk.cons lo149 (ev_row (by kernel_rfl) sk_ok lo149 pfs lr150) (by kernel_rfl)
/- clearway/pack.Decode: 400 operations -/
noncomputable def la151 : List T := [(.ag [(sL [(i 0)]), (sL [(i 0)]), (sL [(i 0)]), (.sl [(.v (.int .u8 0)), (i 0), (i 0)] 1), (i 0), (i 1), (i 1), (.sl [(i 0), ff, (sL [(w 1)]), (sL [])] 1), (.sl [(i 0), ff, (sL [(w 1)]), (sL [])] 1), ff, nl, nl, ff, nl, nl, ff, nl, nl]), (sL [(.v (.int .u8 0)), (.v (.int .u8 1)), (.v (.int .u8 7)), (.v (.int .u8 1)), (.v (.int .u8 0))])]
noncomputable def lt151 : T := (.tu [(.ag [nl, nl, nl, nl, (i 0), (i 0), (i 0), nl, nl, ff, nl, nl, ff, nl, nl, ff, nl, nl, (i 0), nl, nl]), (i 1)])
theorem lr151 : freshE Tryz.prog (evC Tryz.prog skE (orF Tryz.prog (tabO lb150) pfs) 1000) 0 62 la151 = some (lt151, true) := by kernel_rfl
noncomputable def lb151 : List (Nat × (List T → Option (T × Bool))) := (62, rowE la151 (lt151, true)) :: lb150
theorem lo151 : PureOk Tryz.prog (tabO lb151) := PureOk.cons lo150 (ev_row (by kernel_rfl) sk_ok lo150 pfs lr151) (by kernel_rfl)
/- clearway/pack.Decode: 531 operations -/
noncomputable def la152 : List T := [(.ag [(sL [(i 0)]), (sL [(i 0)]), (sL [(i 0)]), (.sl [(.v (.int .u8 0)), (i 0), (i 0)] 1), (i 0), (i 1), (i 1), (.sl [(i 0), ff, (sL [(w 1)]), (sL [])] 1), (.sl [(i 0), ff, (sL [(w 1)]), (sL [])] 1), ff, nl, nl, ff, nl, nl, ff, nl, nl]), (sL [(.v (.int .u8 129)), (.v (.int .u8 128)), (.v (.int .u8 128)), (.v (.int .u8 128)), (.v (.int .u8 128)), (.v (.int .u8 32))])]
noncomputable def lt152 : T := (.tu [(.ag [nl, nl, nl, nl, (i 0), (i 0), (i 0), nl, nl, ff, nl, nl, ff, nl, nl, ff, nl, nl, (i 0), nl, nl]), (i 2)])
theorem lr152 : freshE Tryz.prog (evC Tryz.prog skE (orF Tryz.prog (tabO lb151) pfs) 1000) 0 62 la152 = some (lt152, true) := by kernel_rfl
noncomputable def lb152 : List (Nat × (List T → Option (T × Bool))) := (62, rowE la152 (lt152, true)) :: lb151
theorem lo152 : PureOk Tryz.prog (tabO lb152) := PureOk.cons lo151 (ev_row (by kernel_rfl) sk_ok lo151 pfs lr152) (by kernel_rfl)
/- clearway/pack.Decode: 639 operations -/
noncomputable def la153 : List T := [(.ag [(sL [(i 0)]), (sL [(i 0)]), (sL [(i 0)]), (.sl [(.v (.int .u8 0)), (i 0), (i 0)] 1), (i 0), (i 1), (i 1), (.sl [(i 0), ff, (sL [(w 1)]), (sL [])] 1), (.sl [(i 0), ff, (sL [(w 1)]), (sL [])] 1), ff, nl, nl, ff, nl, nl, ff, nl, nl]), (sL [(.v (.int .u8 255)), (.v (.int .u8 255)), (.v (.int .u8 255)), (.v (.int .u8 255)), (.v (.int .u8 255)), (.v (.int .u8 255)), (.v (.int .u8 255)), (.v (.int .u8 1))])]
noncomputable def lt153 : T := (.tu [(.ag [nl, nl, nl, nl, (i 0), (i 0), (i 0), nl, nl, ff, nl, nl, ff, nl, nl, ff, nl, nl, (i 0), nl, nl]), (i 2)])
theorem lr153 : freshE Tryz.prog (evC Tryz.prog skE (orF Tryz.prog (tabO lb152) pfs) 1000) 0 62 la153 = some (lt153, true) := by kernel_rfl
noncomputable def lb153 : List (Nat × (List T → Option (T × Bool))) := (62, rowE la153 (lt153, true)) :: lb152
theorem lo153 : PureOk Tryz.prog (tabO lb153) := PureOk.cons lo152 (ev_row (by kernel_rfl) sk_ok lo152 pfs lr153) (by kernel_rfl)
/- clearway/pack.Decode: 322 operations -/
noncomputable def la154 : List T := [(.ag [(sL [(i 0)]), (sL [(i 0)]), (sL [(i 0)]), (.sl [(.v (.int .u8 0)), (i 0), (i 0)] 1), (i 0), (i 1), (i 1), (.sl [(i 0), ff, (sL [(w 1)]), (sL [])] 1), (.sl [(i 0), ff, (sL [(w 1)]), (sL [])] 1), ff, nl, nl, ff, nl, nl, ff, nl, nl]), (sL [(.v (.int .u8 1)), (.v (.int .u8 0)), (.v (.int .u8 1)), (.v (.int .u8 0))])]
noncomputable def lt154 : T := (.tu [(.ag [nl, nl, nl, nl, (i 0), (i 0), (i 0), nl, nl, ff, nl, nl, ff, nl, nl, ff, nl, nl, (i 0), nl, nl]), (i 8)])
theorem lr154 : freshE Tryz.prog (evC Tryz.prog skE (orF Tryz.prog (tabO lb153) pfs) 1000) 0 62 la154 = some (lt154, true) := by kernel_rfl
noncomputable def lb154 : List (Nat × (List T → Option (T × Bool))) := (62, rowE la154 (lt154, true)) :: lb153
theorem lo154 : PureOk Tryz.prog (tabO lb154) := PureOk.cons lo153 (ev_row (by kernel_rfl) sk_ok lo153 pfs lr154) (by kernel_rfl)
/- clearway/pack.Check: 138 operations -/
noncomputable def la155 : List T := [(.ag [(sL [(i 0)]), (sL [(i 0)]), (sL [(i 0)]), (.sl [(.v (.int .u8 0)), (i 0), (i 0)] 1), (i 0), (i 1), (i 1), (.sl [(i 0), ff, (sL [(w 1)]), (sL [])] 1), (.sl [(i 0), ff, (sL [(w 1)]), (sL [])] 1), ff, nl, nl, ff, nl, nl, ff, nl, nl, (i 1048576), (sL [(sL [(i 1048576)])]), (sL [(sL [(i 0)])])])]
noncomputable def lt155 : T := (i 0)
theorem lr155 : freshE Tryz.prog (evC Tryz.prog skE (orF Tryz.prog (tabO lb154) pfs) 1000) 0 61 la155 = some (lt155, true) := by kernel_rfl
noncomputable def lb155 : List (Nat × (List T → Option (T × Bool))) := (61, rowE la155 (lt155, true)) :: lb154
theorem lo155 : PureOk Tryz.prog (tabO lb155) := PureOk.cons lo154 (ev_row (by kernel_rfl) sk_ok lo154 pfs lr155) (by kernel_rfl)
/- clearway/pack.Row: 21 operations -/
noncomputable def la156 : List T := [(.ag [(sL [(i 0)]), (sL [(i 0)]), (sL [(i 0)]), (.sl [(.v (.int .u8 0)), (i 0), (i 0)] 1), (i 0), (i 1), (i 1), (.sl [(i 0), ff, (sL [(w 1)]), (sL [])] 1), (.sl [(i 0), ff, (sL [(w 1)]), (sL [])] 1), ff, nl, nl, ff, nl, nl, ff, nl, nl, (i 1048576), (sL [(sL [(i 1048576)])]), (sL [(sL [(i 0)])])]), (i 0), (i 0)]
noncomputable def lt156 : T := (.tu [nl, (i 1)])
theorem lr156 : freshE Tryz.prog (evC Tryz.prog skE (orF Tryz.prog (tabO lb155) pfs) 1000) 0 63 la156 = some (lt156, true) := by kernel_rfl
noncomputable def lb156 : List (Nat × (List T → Option (T × Bool))) := (63, rowE la156 (lt156, true)) :: lb155
theorem lo156 : PureOk Tryz.prog (tabO lb156) := PureOk.cons lo155 (ev_row (by kernel_rfl) sk_ok lo155 pfs lr156) (by kernel_rfl)
/- clearway/pack.Row: 21 operations -/
noncomputable def la157 : List T := [(.ag [(sL [(i 0)]), (sL [(i 0)]), (sL [(i 0)]), (.sl [(.v (.int .u8 0)), (i 0), (i 0)] 1), (i 0), (i 1), (i 1), (.sl [(i 0), ff, (sL [(w 1)]), (sL [])] 1), (.sl [(i 0), ff, (sL [(w 1)]), (sL [])] 1), ff, nl, nl, ff, nl, nl, ff, nl, nl, (i 1048576), (sL [(sL [(i 1048576)])]), (sL [(sL [(i 0)])])]), (i 2), (i 5)]
noncomputable def lt157 : T := (.tu [nl, (i 1)])
theorem lr157 : freshE Tryz.prog (evC Tryz.prog skE (orF Tryz.prog (tabO lb156) pfs) 1000) 0 63 la157 = some (lt157, true) := by kernel_rfl
noncomputable def lb157 : List (Nat × (List T → Option (T × Bool))) := (63, rowE la157 (lt157, true)) :: lb156
theorem lo157 : PureOk Tryz.prog (tabO lb157) := PureOk.cons lo156 (ev_row (by kernel_rfl) sk_ok lo156 pfs lr157) (by kernel_rfl)
/- clearway/pack.Row: 35 operations -/
noncomputable def la158 : List T := [(.ag [(sL [(i 0)]), (sL [(i 0)]), (sL [(i 0)]), (.sl [(.v (.int .u8 0)), (i 0), (i 0)] 1), (i 0), (i 1), (i 1), (.sl [(i 0), ff, (sL [(w 1)]), (sL [])] 1), (.sl [(i 0), ff, (sL [(w 1)]), (sL [])] 1), ff, nl, nl, ff, nl, nl, ff, nl, nl, (i 1048576), (sL [(sL [(i 1048576)])]), (sL [(sL [(i 0)])])]), (i 1), (i 1)]
noncomputable def lt158 : T := (.tu [nl, (i 8)])
theorem lr158 : freshE Tryz.prog (evC Tryz.prog skE (orF Tryz.prog (tabO lb157) pfs) 1000) 0 63 la158 = some (lt158, true) := by kernel_rfl
noncomputable def lb158 : List (Nat × (List T → Option (T × Bool))) := (63, rowE la158 (lt158, true)) :: lb157
theorem lo158 : PureOk Tryz.prog (tabO lb158) := PureOk.cons lo157 (ev_row (by kernel_rfl) sk_ok lo157 pfs lr158) (by kernel_rfl)
/- clearway/pack.Row: 56 operations -/
noncomputable def la159 : List T := [(.ag [(sL [(i 0)]), (sL [(i 0)]), (sL [(i 0)]), (.sl [(.v (.int .u8 0)), (i 0), (i 0)] 1), (i 0), (i 1), (i 1), (.sl [(i 0), ff, (sL [(w 1)]), (sL [])] 1), (.sl [(i 0), ff, (sL [(w 1)]), (sL [])] 1), ff, nl, nl, ff, nl, nl, ff, nl, nl, (i 1048576), (sL [(sL [(i 1048576)])]), (sL [(sL [(i 0)])])]), (i 1), (i 0)]
noncomputable def lt159 : T := (.tu [(sL [(i 1048576)]), (i 0)])
theorem lr159 : freshE Tryz.prog (evC Tryz.prog skE (orF Tryz.prog (tabO lb158) pfs) 1000) 0 63 la159 = some (lt159, true) := by kernel_rfl
noncomputable def lb159 : List (Nat × (List T → Option (T × Bool))) := (63, rowE la159 (lt159, true)) :: lb158
theorem lo159 : PureOk Tryz.prog (tabO lb159) := PureOk.cons lo158 (ev_row (by kernel_rfl) sk_ok lo158 pfs lr159) (by kernel_rfl)
end Go.Proofs.YtdfmdiakjdggbaaGreatDoor
/- Closed calls, reckoned by the kernel; printed by a program of this repo. By an AI agent. -/
namespace Go.Proofs.YtdfmdiakjdggbaaGreatDoor
open Go Go.Gv Go.Ev
set_option maxRecDepth 1000000
/- clearway/clearwaylaw25.PackExamples: 833 operations -/
noncomputable def la160 : List T := []
noncomputable def lt160 : T := tt
theorem lr160 : freshE Tryz.prog (evC Tryz.prog skE (orF Tryz.prog (tabO lb159) pfs) 1000) 0 12 la160 = some (lt160, true) := by kernel_rfl
theorem kn_pex : KnP Tryz.prog 0 12 [] (.v (.bool true)) true := ev_row (by kernel_rfl) sk_ok lo159 pfs lr160
end Go.Proofs.YtdfmdiakjdggbaaGreatDoor

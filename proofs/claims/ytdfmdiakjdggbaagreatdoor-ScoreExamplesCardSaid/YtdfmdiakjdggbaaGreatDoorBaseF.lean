/- Parts of the proof: E1 E2. By an AI agent. -/
import Derived.Test.YtdfmdiakjdggbaaGreatDoorBaseA
import Derived.Test.YtdfmdiakjdggbaaGreatDoorBaseB
import Derived.Test.YtdfmdiakjdggbaaGreatDoorBaseC
import Derived.Test.YtdfmdiakjdggbaaGreatDoorBaseD
import Derived.Test.YtdfmdiakjdggbaaGreatDoorBaseE
set_option linter.unusedVariables false
set_option linter.unusedSimpArgs false
set_option linter.unnecessarySimpa false
/- Closed calls, reckoned by the kernel; printed by a program of this repo. By an AI agent. -/
namespace Go.Proofs.YtdfmdiakjdggbaaGreatDoor
open Go Go.Gv Go.Ev
set_option maxRecDepth 1000000
noncomputable def pfs : List Nat := [8, 16, 24, 26, 31, 32, 35, 36, 43, 44, 45, 46, 61, 77, 92, 94, 95, 119, 134, 156, 157, 158, 167, 169, 170, 171, 183, 184, 185, 186, 187, 228, 234, 240, 241, 242, 269]
noncomputable def i (n : Int) : T := .v (.int .i64 n)
noncomputable def w (n : Int) : T := .v (.int .u32 n)
noncomputable def tt : T := .v (.bool true)
noncomputable def ff : T := .v (.bool false)
noncomputable def nl : T := .v (.slice none 0 0)
noncomputable def sL (l : List T) : T := .sl l l.length
/- clearway/belief.Check: 417 operations -/
noncomputable def ea1 : List T := [(.sl [(i 50), (i 5), (i 0), ff, (sL [(w 1)]), (sL [(w 2)]), (i 100), (i 10), (i 0), ff, (sL [(w 1)]), (sL [(w 2)])] 2)]
noncomputable def et1 : T := (i 0)
theorem er1 : freshE Tryz.prog (evC Tryz.prog (orF Tryz.prog (tabO tb0) pfs) 1000) 0 46 ea1 = some (et1, true) := by kernel_rfl
noncomputable def eb1 : List (Nat × (List T → Option (T × Bool))) := (46, rowE ea1 (et1, true)) :: tb0
theorem eo1 : PureOk Tryz.prog (tabO eb1) := PureOk.cons tb0_ok (ev_row (by kernel_rfl) tb0_ok pfs er1) (by kernel_rfl)
/- clearway/dynamics.Check: 1289 operations -/
noncomputable def ea2 : List T := [(.ag [(sL [(i (-100)), (i 0), (i 100)]), (sL [(i 0), (i 10)]), (sL [(i 0)]), (.sl [(.v (.int .u8 0)), (i 0), (i 0), (.v (.int .u8 1)), (i 10), (i 20)] 2), (i 5), (i 50), (i 1), (.sl [(i 0), ff, (sL [(w 1)]), (sL [])] 1), (.sl [(i 0), ff, (sL [(w 1)]), (sL [])] 1), ff, (sL [(w 1)]), (sL [(w 10)]), ff, nl, nl, ff, nl, nl])]
noncomputable def et2 : T := (i 0)
theorem er2 : freshE Tryz.prog (evC Tryz.prog (orF Tryz.prog (tabO eb1) pfs) 1000) 0 119 ea2 = some (et2, true) := by kernel_rfl
noncomputable def eb2 : List (Nat × (List T → Option (T × Bool))) := (119, rowE ea2 (et2, true)) :: eb1
theorem eo2 : PureOk Tryz.prog (tabO eb2) := PureOk.cons eo1 (ev_row (by kernel_rfl) eo1 pfs er2) (by kernel_rfl)
/- clearway/pack.Check: 594 operations -/
noncomputable def ea3 : List T := [(.ag [(sL [(i (-100)), (i 0), (i 100)]), (sL [(i 0), (i 10)]), (sL [(i 0)]), (.sl [(.v (.int .u8 0)), (i 0), (i 0), (.v (.int .u8 1)), (i 10), (i 20)] 2), (i 5), (i 50), (i 1), (.sl [(i 0), ff, (sL [(w 1)]), (sL [])] 1), (.sl [(i 0), ff, (sL [(w 1)]), (sL [])] 1), ff, (sL [(w 1)]), (sL [(w 10)]), ff, nl, nl, ff, nl, nl, (i 10), (sL [(sL [(i 0), (i 1)]), (sL [(i 10), (i 11)]), (sL [(i 9), (i 10)]), (sL [(i 1), (i 2)])]), (sL [(sL [(i 0), (i 0), (i 0), (i 0), (i 1), (i 1), (i 2), (i 2), (i 0), (i 0), (i 3), (i 3)])])])]
noncomputable def et3 : T := (i 0)
theorem er3 : freshE Tryz.prog (evC Tryz.prog (orF Tryz.prog (tabO eb2) pfs) 1000) 0 61 ea3 = some (et3, true) := by kernel_rfl
noncomputable def eb3 : List (Nat × (List T → Option (T × Bool))) := (61, rowE ea3 (et3, true)) :: eb2
theorem eo3 : PureOk Tryz.prog (tabO eb3) := PureOk.cons eo2 (ev_row (by kernel_rfl) eo2 pfs er3) (by kernel_rfl)
/- clearway/interp.Weights: 1316 operations -/
noncomputable def ea4 : List T := [(sL [(sL [(i (-100)), (i 0), (i 100)]), (sL [(i 0), (i 10)]), (sL [(i 0)])]), (sL [(i 50), (i 5), (i 0)])]
noncomputable def et4 : T := (.tu [(.sl [(i 2), ff, (sL [(w 1)]), (sL [(w 4)]), (i 3), ff, (sL [(w 1)]), (sL [(w 4)]), (i 4), ff, (sL [(w 1)]), (sL [(w 4)]), (i 5), ff, (sL [(w 1)]), (sL [(w 4)])] 4), (i 0)])
theorem er4 : freshE Tryz.prog (evC Tryz.prog (orF Tryz.prog (tabO eb3) pfs) 1000) 0 78 ea4 = some (et4, false) := by kernel_rfl
noncomputable def eb4 : List (Nat × (List T → Option (T × Bool))) := (78, rowE ea4 (et4, false)) :: eb3
theorem eo4 : PureOk Tryz.prog (tabO eb4) := PureOk.cons eo3 (ev_row (by kernel_rfl) eo3 pfs er4) (by kernel_rfl)
/- clearway/rat.Dot: 322 operations -/
noncomputable def ea5 : List T := [(.sl [ff, (sL [(w 1)]), (sL [(w 4)]), ff, (sL [(w 1)]), (sL [(w 4)]), ff, (sL [(w 1)]), (sL [(w 4)]), ff, (sL [(w 1)]), (sL [(w 4)])] 4), (.sl [ff, (sL [(w 10)]), (sL []), ff, (sL [(w 9)]), (sL []), ff, (sL []), (sL []), ff, (sL [(w 1)]), (sL [])] 4)]
noncomputable def et5 : T := (.tu [(.ag [ff, (sL [(w 5)]), (sL [])]), (i 0)])
theorem er5 : freshE Tryz.prog (evC Tryz.prog (orF Tryz.prog (tabO eb4) pfs) 1000) 0 70 ea5 = some (et5, false) := by kernel_rfl
noncomputable def eb5 : List (Nat × (List T → Option (T × Bool))) := (70, rowE ea5 (et5, false)) :: eb4
theorem eo5 : PureOk Tryz.prog (tabO eb5) := PureOk.cons eo4 (ev_row (by kernel_rfl) eo4 pfs er5) (by kernel_rfl)
/- clearway/lookup.Scores$1: 554 operations -/
noncomputable def ea6 : List T := [(i 0), (.fp [(.sl [(i 2), ff, (sL [(w 1)]), (sL [(w 4)]), (i 3), ff, (sL [(w 1)]), (sL [(w 4)]), (i 4), ff, (sL [(w 1)]), (sL [(w 4)]), (i 5), ff, (sL [(w 1)]), (sL [(w 4)])] 4)]), (.fp [(sL [(i (-100)), (i 0), (i 100)]), (sL [(i 0), (i 10)]), (sL [(i 0)]), (.sl [(.v (.int .u8 0)), (i 0), (i 0), (.v (.int .u8 1)), (i 10), (i 20)] 2), (i 5), (i 50), (i 1), (.sl [(i 0), ff, (sL [(w 1)]), (sL [])] 1), (.sl [(i 0), ff, (sL [(w 1)]), (sL [])] 1), ff, (sL [(w 1)]), (sL [(w 10)]), ff, nl, nl, ff, nl, nl, (i 10), (sL [(sL [(i 0), (i 1)]), (sL [(i 10), (i 11)]), (sL [(i 9), (i 10)]), (sL [(i 1), (i 2)])]), (sL [(sL [(i 0), (i 0), (i 0), (i 0), (i 1), (i 1), (i 2), (i 2), (i 0), (i 0), (i 3), (i 3)])])]), (.fp [(i 1)]), (.fp [(i 2)]), (.fp [(i 0)])]
noncomputable def et6 : T := (.tu [(.ag [ff, (sL [(w 1)]), (sL [(w 2)])]), (i 0)])
theorem er6 : freshE Tryz.prog (evC Tryz.prog (orF Tryz.prog (tabO eb5) pfs) 1000) 0 79 ea6 = some (et6, false) := by kernel_rfl
noncomputable def eb6 : List (Nat × (List T → Option (T × Bool))) := (79, rowE ea6 (et6, false)) :: eb5
theorem eo6 : PureOk Tryz.prog (tabO eb6) := PureOk.cons eo5 (ev_row (by kernel_rfl) eo5 pfs er6) (by kernel_rfl)
/- clearway/rat.Dot: 322 operations -/
noncomputable def ea7 : List T := [(.sl [ff, (sL [(w 1)]), (sL [(w 4)]), ff, (sL [(w 1)]), (sL [(w 4)]), ff, (sL [(w 1)]), (sL [(w 4)]), ff, (sL [(w 1)]), (sL [(w 4)])] 4), (.sl [ff, (sL [(w 11)]), (sL []), ff, (sL [(w 10)]), (sL []), ff, (sL [(w 1)]), (sL []), ff, (sL [(w 2)]), (sL [])] 4)]
noncomputable def et7 : T := (.tu [(.ag [ff, (sL [(w 6)]), (sL [])]), (i 0)])
theorem er7 : freshE Tryz.prog (evC Tryz.prog (orF Tryz.prog (tabO eb6) pfs) 1000) 0 70 ea7 = some (et7, false) := by kernel_rfl
noncomputable def eb7 : List (Nat × (List T → Option (T × Bool))) := (70, rowE ea7 (et7, false)) :: eb6
theorem eo7 : PureOk Tryz.prog (tabO eb7) := PureOk.cons eo6 (ev_row (by kernel_rfl) eo6 pfs er7) (by kernel_rfl)
/- clearway/lookup.Scores$1: 554 operations -/
noncomputable def ea8 : List T := [(i 1), (.fp [(.sl [(i 2), ff, (sL [(w 1)]), (sL [(w 4)]), (i 3), ff, (sL [(w 1)]), (sL [(w 4)]), (i 4), ff, (sL [(w 1)]), (sL [(w 4)]), (i 5), ff, (sL [(w 1)]), (sL [(w 4)])] 4)]), (.fp [(sL [(i (-100)), (i 0), (i 100)]), (sL [(i 0), (i 10)]), (sL [(i 0)]), (.sl [(.v (.int .u8 0)), (i 0), (i 0), (.v (.int .u8 1)), (i 10), (i 20)] 2), (i 5), (i 50), (i 1), (.sl [(i 0), ff, (sL [(w 1)]), (sL [])] 1), (.sl [(i 0), ff, (sL [(w 1)]), (sL [])] 1), ff, (sL [(w 1)]), (sL [(w 10)]), ff, nl, nl, ff, nl, nl, (i 10), (sL [(sL [(i 0), (i 1)]), (sL [(i 10), (i 11)]), (sL [(i 9), (i 10)]), (sL [(i 1), (i 2)])]), (sL [(sL [(i 0), (i 0), (i 0), (i 0), (i 1), (i 1), (i 2), (i 2), (i 0), (i 0), (i 3), (i 3)])])]), (.fp [(i 1)]), (.fp [(i 2)]), (.fp [(i 0)])]
noncomputable def et8 : T := (.tu [(.ag [ff, (sL [(w 3)]), (sL [(w 5)])]), (i 0)])
theorem er8 : freshE Tryz.prog (evC Tryz.prog (orF Tryz.prog (tabO eb7) pfs) 1000) 0 79 ea8 = some (et8, false) := by kernel_rfl
noncomputable def eb8 : List (Nat × (List T → Option (T × Bool))) := (79, rowE ea8 (et8, false)) :: eb7
theorem eo8 : PureOk Tryz.prog (tabO eb8) := PureOk.cons eo7 (ev_row (by kernel_rfl) eo7 pfs er8) (by kernel_rfl)
/- clearway/lookup.Scores: 2597 operations -/
noncomputable def ea9 : List T := [(.ag [(sL [(i (-100)), (i 0), (i 100)]), (sL [(i 0), (i 10)]), (sL [(i 0)]), (.sl [(.v (.int .u8 0)), (i 0), (i 0), (.v (.int .u8 1)), (i 10), (i 20)] 2), (i 5), (i 50), (i 1), (.sl [(i 0), ff, (sL [(w 1)]), (sL [])] 1), (.sl [(i 0), ff, (sL [(w 1)]), (sL [])] 1), ff, (sL [(w 1)]), (sL [(w 10)]), ff, nl, nl, ff, nl, nl, (i 10), (sL [(sL [(i 0), (i 1)]), (sL [(i 10), (i 11)]), (sL [(i 9), (i 10)]), (sL [(i 1), (i 2)])]), (sL [(sL [(i 0), (i 0), (i 0), (i 0), (i 1), (i 1), (i 2), (i 2), (i 0), (i 0), (i 3), (i 3)])])]), (i 1), (i 50), (i 5), (i 0), (i 0)]
noncomputable def et9 : T := (.tu [(.sl [ff, (sL [(w 1)]), (sL [(w 2)]), ff, (sL [(w 3)]), (sL [(w 5)])] 2), (i 0)])
theorem er9 : freshE Tryz.prog (evC Tryz.prog (orF Tryz.prog (tabO eb8) pfs) 1000) 0 32 ea9 = some (et9, false) := by kernel_rfl
noncomputable def eb9 : List (Nat × (List T → Option (T × Bool))) := (32, rowE ea9 (et9, false)) :: eb8
theorem eo9 : PureOk Tryz.prog (tabO eb9) := PureOk.cons eo8 (ev_row (by kernel_rfl) eo8 pfs er9) (by kernel_rfl)
/- clearway/interp.Weights: 686 operations -/
noncomputable def ea10 : List T := [(sL [(sL [(i (-100)), (i 0), (i 100)]), (sL [(i 0), (i 10)]), (sL [(i 0)])]), (sL [(i 100), (i 10), (i 0)])]
noncomputable def et10 : T := (.tu [(.sl [(i 5), ff, (sL [(w 1)]), (sL [])] 1), (i 0)])
theorem er10 : freshE Tryz.prog (evC Tryz.prog (orF Tryz.prog (tabO eb9) pfs) 1000) 0 78 ea10 = some (et10, false) := by kernel_rfl
noncomputable def eb10 : List (Nat × (List T → Option (T × Bool))) := (78, rowE ea10 (et10, false)) :: eb9
theorem eo10 : PureOk Tryz.prog (tabO eb10) := PureOk.cons eo9 (ev_row (by kernel_rfl) eo9 pfs er10) (by kernel_rfl)
/- clearway/lookup.Scores: 1181 operations -/
noncomputable def ea11 : List T := [(.ag [(sL [(i (-100)), (i 0), (i 100)]), (sL [(i 0), (i 10)]), (sL [(i 0)]), (.sl [(.v (.int .u8 0)), (i 0), (i 0), (.v (.int .u8 1)), (i 10), (i 20)] 2), (i 5), (i 50), (i 1), (.sl [(i 0), ff, (sL [(w 1)]), (sL [])] 1), (.sl [(i 0), ff, (sL [(w 1)]), (sL [])] 1), ff, (sL [(w 1)]), (sL [(w 10)]), ff, nl, nl, ff, nl, nl, (i 10), (sL [(sL [(i 0), (i 1)]), (sL [(i 10), (i 11)]), (sL [(i 9), (i 10)]), (sL [(i 1), (i 2)])]), (sL [(sL [(i 0), (i 0), (i 0), (i 0), (i 1), (i 1), (i 2), (i 2), (i 0), (i 0), (i 3), (i 3)])])]), (i 1), (i 100), (i 10), (i 0), (i 0)]
noncomputable def et11 : T := (.tu [(.sl [ff, (sL [(w 1)]), (sL [(w 10)]), ff, (sL [(w 1)]), (sL [(w 5)])] 2), (i 0)])
theorem er11 : freshE Tryz.prog (evC Tryz.prog (orF Tryz.prog (tabO eb10) pfs) 1000) 0 32 ea11 = some (et11, false) := by kernel_rfl
noncomputable def eb11 : List (Nat × (List T → Option (T × Bool))) := (32, rowE ea11 (et11, false)) :: eb10
theorem eo11 : PureOk Tryz.prog (tabO eb11) := PureOk.cons eo10 (ev_row (by kernel_rfl) eo10 pfs er11) (by kernel_rfl)
/- clearway/score.Expected: 589 operations -/
noncomputable def ea12 : List T := [(.ag [(sL [(i (-100)), (i 0), (i 100)]), (sL [(i 0), (i 10)]), (sL [(i 0)]), (.sl [(.v (.int .u8 0)), (i 0), (i 0), (.v (.int .u8 1)), (i 10), (i 20)] 2), (i 5), (i 50), (i 1), (.sl [(i 0), ff, (sL [(w 1)]), (sL [])] 1), (.sl [(i 0), ff, (sL [(w 1)]), (sL [])] 1), ff, (sL [(w 1)]), (sL [(w 10)]), ff, nl, nl, ff, nl, nl, (i 10), (sL [(sL [(i 0), (i 1)]), (sL [(i 10), (i 11)]), (sL [(i 9), (i 10)]), (sL [(i 1), (i 2)])]), (sL [(sL [(i 0), (i 0), (i 0), (i 0), (i 1), (i 1), (i 2), (i 2), (i 0), (i 0), (i 3), (i 3)])])]), (i 1), (.sl [(i 50), (i 5), (i 0), ff, (sL [(w 1)]), (sL [(w 2)]), (i 100), (i 10), (i 0), ff, (sL [(w 1)]), (sL [(w 2)])] 2), (i 0)]
noncomputable def et12 : T := (.tu [(.sl [ff, (sL [(w 3)]), (sL [(w 10)]), ff, (sL [(w 2)]), (sL [(w 5)])] 2), (i 0)])
theorem er12 : freshE Tryz.prog (evC Tryz.prog (orF Tryz.prog (tabO eb11) pfs) 1000) 0 22 ea12 = some (et12, false) := by kernel_rfl
noncomputable def eb12 : List (Nat × (List T → Option (T × Bool))) := (22, rowE ea12 (et12, false)) :: eb11
theorem eo12 : PureOk Tryz.prog (tabO eb12) := PureOk.cons eo11 (ev_row (by kernel_rfl) eo11 pfs er12) (by kernel_rfl)
/- clearway/score.Totals: 471 operations -/
noncomputable def ea13 : List T := [(.ag [(sL [(i (-100)), (i 0), (i 100)]), (sL [(i 0), (i 10)]), (sL [(i 0)]), (.sl [(.v (.int .u8 0)), (i 0), (i 0), (.v (.int .u8 1)), (i 10), (i 20)] 2), (i 5), (i 50), (i 1), (.sl [(i 0), ff, (sL [(w 1)]), (sL [])] 1), (.sl [(i 0), ff, (sL [(w 1)]), (sL [])] 1), ff, (sL [(w 1)]), (sL [(w 10)]), ff, nl, nl, ff, nl, nl, (i 10), (sL [(sL [(i 0), (i 1)]), (sL [(i 10), (i 11)]), (sL [(i 9), (i 10)]), (sL [(i 1), (i 2)])]), (sL [(sL [(i 0), (i 0), (i 0), (i 0), (i 1), (i 1), (i 2), (i 2), (i 0), (i 0), (i 3), (i 3)])])]), (i 1), (.sl [(i 50), (i 5), (i 0), ff, (sL [(w 1)]), (sL [(w 2)]), (i 100), (i 10), (i 0), ff, (sL [(w 1)]), (sL [(w 2)])] 2), (i 0), (.ag [ff, (sL [(w 1)]), (sL [(w 100)]), ff, (sL [(w 1)]), (sL [(w 20)]), ff, (sL [(w 1)]), (sL [(w 50)])]), (.v (.int .u8 1))]
noncomputable def et13 : T := (.tu [(.sl [ff, (sL [(w 3)]), (sL [(w 10)]), ff, (sL [(w 23)]), (sL [(w 50)])] 2), (i 0)])
theorem er13 : freshE Tryz.prog (evC Tryz.prog (orF Tryz.prog (tabO eb12) pfs) 1000) 0 23 ea13 = some (et13, false) := by kernel_rfl
noncomputable def eb13 : List (Nat × (List T → Option (T × Bool))) := (23, rowE ea13 (et13, false)) :: eb12
theorem eo13 : PureOk Tryz.prog (tabO eb13) := PureOk.cons eo12 (ev_row (by kernel_rfl) eo12 pfs er13) (by kernel_rfl)
/- clearway/clearwaylaw29.awake: 1330 operations -/
noncomputable def ea14 : List T := []
noncomputable def et14 : T := tt
theorem er14 : freshE Tryz.prog (evC Tryz.prog (orF Tryz.prog (tabO eb13) pfs) 1000) 0 16 ea14 = some (et14, true) := by kernel_rfl
noncomputable def eb14 : List (Nat × (List T → Option (T × Bool))) := (16, rowE ea14 (et14, true)) :: eb13
theorem eo14 : PureOk Tryz.prog (tabO eb14) := PureOk.cons eo13 (ev_row (by kernel_rfl) eo13 pfs er14) (by kernel_rfl)
/- clearway/score.Mix: 627 operations -/
noncomputable def ea15 : List T := [(.sl [(i 50), (i 5), (i 0), ff, (sL [(w 1)]), (sL [(w 2)]), (i 100), (i 10), (i 0), ff, (sL [(w 1)]), (sL [(w 2)])] 2), (.sl [(i 50), (i 5), (i 0), ff, (sL [(w 1)]), (sL [])] 1), (.ag [ff, (sL [(w 1)]), (sL [(w 3)])])]
noncomputable def et15 : T := (.tu [(.sl [(i 50), (i 5), (i 0), ff, (sL [(w 5)]), (sL [(w 6)]), (i 100), (i 10), (i 0), ff, (sL [(w 1)]), (sL [(w 6)])] 2), (i 0)])
theorem er15 : freshE Tryz.prog (evC Tryz.prog (orF Tryz.prog (tabO eb14) pfs) 1000) 0 41 ea15 = some (et15, false) := by kernel_rfl
noncomputable def eb15 : List (Nat × (List T → Option (T × Bool))) := (41, rowE ea15 (et15, false)) :: eb14
theorem eo15 : PureOk Tryz.prog (tabO eb15) := PureOk.cons eo14 (ev_row (by kernel_rfl) eo14 pfs er15) (by kernel_rfl)
/- clearway/score.Mix: 620 operations -/
noncomputable def ea16 : List T := [(.sl [(i 50), (i 5), (i 0), ff, (sL [(w 1)]), (sL [(w 2)]), (i 100), (i 10), (i 0), ff, (sL [(w 1)]), (sL [(w 2)])] 2), (.sl [(i 50), (i 5), (i 0), ff, (sL [(w 1)]), (sL [])] 1), (.ag [ff, (sL []), (sL [])])]
noncomputable def et16 : T := (.tu [(.sl [(i 50), (i 5), (i 0), ff, (sL [(w 1)]), (sL [])] 1), (i 0)])
theorem er16 : freshE Tryz.prog (evC Tryz.prog (orF Tryz.prog (tabO eb15) pfs) 1000) 0 41 ea16 = some (et16, false) := by kernel_rfl
noncomputable def eb16 : List (Nat × (List T → Option (T × Bool))) := (41, rowE ea16 (et16, false)) :: eb15
theorem eo16 : PureOk Tryz.prog (tabO eb16) := PureOk.cons eo15 (ev_row (by kernel_rfl) eo15 pfs er16) (by kernel_rfl)
/- clearway/clearwaylaw29.ScoreExamples: 5077 operations -/
noncomputable def ea17 : List T := []
noncomputable def et17 : T := tt
theorem er17 : freshE Tryz.prog (evC Tryz.prog (orF Tryz.prog (tabO eb16) pfs) 1000) 0 8 ea17 = some (et17, true) := by kernel_rfl
end Go.Proofs.YtdfmdiakjdggbaaGreatDoor
namespace Go.Proofs.YtdfmdiakjdggbaaGreatDoor
open Go Go.Gv Go.Ev
theorem kn_ex : KnP Tryz.prog 0 8 [] (.v (.bool true)) true := ev_row (by kernel_rfl) eo16 pfs er17
end Go.Proofs.YtdfmdiakjdggbaaGreatDoor

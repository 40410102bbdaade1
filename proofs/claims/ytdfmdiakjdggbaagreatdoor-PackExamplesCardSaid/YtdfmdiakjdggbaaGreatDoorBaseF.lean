/- Parts of the proof: L1a. By an AI agent. -/
import Derived.Test.YtdfmdiakjdggbaaGreatDoorBaseA
import Derived.Test.YtdfmdiakjdggbaaGreatDoorBaseB
import Derived.Test.YtdfmdiakjdggbaaGreatDoorBaseC
import Derived.Test.YtdfmdiakjdggbaaGreatDoorBaseD
import Derived.Test.YtdfmdiakjdggbaaGreatDoorBaseE
set_option linter.unusedVariables false
set_option linter.unusedSimpArgs false
set_option linter.unnecessarySimpa false
/- Closed calls, reckoned by the kernel; printed by a program of this repo. By an AI agent. -/
namespace Go.Proofs.YtdfmdiakjdggbaaGreatDoor
open Go Go.Gv Go.Ev
set_option maxRecDepth 1000000
noncomputable def pfs : List Nat := [12,39,55,56,57,58,59,60,61,62,63,64,70,78,82,86,110,111,112,113,114,115,117,119,120,121,123,124,125,127,128,131,134,136,138,146,153,157,158,165,177,181,183,184,185,186,187,188,189,190,191,193,194,196,197,198,200,205,207,208,228,238,240,241,242,244,247,251,252,253,254,256,269,275]
noncomputable def i (n : Int) : T := .v (.int .i64 n)
noncomputable def w (n : Int) : T := .v (.int .u32 n)
noncomputable def tt : T := .v (.bool true)
noncomputable def ff : T := .v (.bool false)
noncomputable def nl : T := .v (.slice none 0 0)
noncomputable def sL (l : List T) : T := .sl l l.length
/- clearway/interp.Check: 233 operations -/
noncomputable def la1 : List T := [(sL [(sL [(i (-100)), (i 0), (i 100)]), (sL [(i 0), (i 10)]), (sL [(i 0)])])]
noncomputable def lt1 : T := (i 0)
theorem lr1 : freshE Tryz.prog (evC Tryz.prog skE (orF Tryz.prog (tabO tb1) pfs) 1000) 0 157 la1 = some (lt1, true) := by kernel_rfl
noncomputable def lb1 : List (Nat × (List T → Option (T × Bool))) := (157, rowE la1 (lt1, true)) :: tb1
theorem lo1 : PureOk Tryz.prog (tabO lb1) := PureOk.cons tb1_ok (ev_row (by kernel_rfl) sk_ok tb1_ok pfs lr1) (by kernel_rfl)
/- clearway/dynamics.checkNoise: 105 operations -/
noncomputable def la2 : List T := [(.sl [(i 0), ff, (sL [(w 1)]), (sL [])] 1)]
noncomputable def lt2 : T := (i 0)
theorem lr2 : freshE Tryz.prog (evC Tryz.prog skE (orF Tryz.prog (tabO lb1) pfs) 1000) 0 185 la2 = some (lt2, true) := by kernel_rfl
noncomputable def lb2 : List (Nat × (List T → Option (T × Bool))) := (185, rowE la2 (lt2, true)) :: lb1
theorem lo2 : PureOk Tryz.prog (tabO lb2) := PureOk.cons lo1 (ev_row (by kernel_rfl) sk_ok lo1 pfs lr2) (by kernel_rfl)
/- clearway/dynamics.Check: 320 operations -/
noncomputable def la3 : List T := [(.ag [(sL [(i (-100)), (i 0), (i 100)]), (sL [(i 0), (i 10)]), (sL [(i 0)]), (.sl [(.v (.int .u8 0)), (i 0), (i 0), (.v (.int .u8 1)), (i 10), (i 20)] 2), (i 5), (i 50), (i 1), (.sl [(i 0), ff, (sL [(w 1)]), (sL [])] 1), (.sl [(i 0), ff, (sL [(w 1)]), (sL [])] 1), ff, (sL [(w 1)]), (sL [(w 10)]), ff, nl, nl, ff, nl, nl])]
noncomputable def lt3 : T := (i 0)
theorem lr3 : freshE Tryz.prog (evC Tryz.prog skE (orF Tryz.prog (tabO lb2) pfs) 1000) 0 119 la3 = some (lt3, true) := by kernel_rfl
noncomputable def lb3 : List (Nat × (List T → Option (T × Bool))) := (119, rowE la3 (lt3, true)) :: lb2
theorem lo3 : PureOk Tryz.prog (tabO lb3) := PureOk.cons lo2 (ev_row (by kernel_rfl) sk_ok lo2 pfs lr3) (by kernel_rfl)
/- clearway/interp.Point: 229 operations -/
noncomputable def la4 : List T := [(sL [(sL [(i (-100)), (i 0), (i 100)]), (sL [(i 0), (i 10)]), (sL [(i 0)])]), (i 0)]
noncomputable def lt4 : T := (.tu [(sL [(i (-100)), (i 0), (i 0)]), (i 0)])
theorem lr4 : freshE Tryz.prog (evC Tryz.prog skE (orF Tryz.prog (tabO lb3) pfs) 1000) 0 189 la4 = some (lt4, true) := by kernel_rfl
noncomputable def lb4 : List (Nat × (List T → Option (T × Bool))) := (189, rowE la4 (lt4, true)) :: lb3
theorem lo4 : PureOk Tryz.prog (tabO lb4) := PureOk.cons lo3 (ev_row (by kernel_rfl) sk_ok lo3 pfs lr4) (by kernel_rfl)
/- clearway/dynamics.Cost: 98 operations -/
noncomputable def la5 : List T := [(.ag [(sL [(i (-100)), (i 0), (i 100)]), (sL [(i 0), (i 10)]), (sL [(i 0)]), (.sl [(.v (.int .u8 0)), (i 0), (i 0), (.v (.int .u8 1)), (i 10), (i 20)] 2), (i 5), (i 50), (i 1), (.sl [(i 0), ff, (sL [(w 1)]), (sL [])] 1), (.sl [(i 0), ff, (sL [(w 1)]), (sL [])] 1), ff, (sL [(w 1)]), (sL [(w 10)]), ff, nl, nl, ff, nl, nl]), (i 0), (i 0)]
noncomputable def lt5 : T := (.tu [(.ag [ff, nl, nl]), (i 0)])
theorem lr5 : freshE Tryz.prog (evC Tryz.prog skE (orF Tryz.prog (tabO lb4) pfs) 1000) 0 190 la5 = some (lt5, true) := by kernel_rfl
noncomputable def lb5 : List (Nat × (List T → Option (T × Bool))) := (190, rowE la5 (lt5, true)) :: lb4
theorem lo5 : PureOk Tryz.prog (tabO lb5) := PureOk.cons lo4 (ev_row (by kernel_rfl) sk_ok lo4 pfs lr5) (by kernel_rfl)
/- clearway/interp.Weights: 214 operations -/
noncomputable def la6 : List T := [(sL [(sL [(i (-100)), (i 0), (i 100)]), (sL [(i 0), (i 10)]), (sL [(i 0)])]), (sL [(i (-100)), (i 0), (i 0)])]
noncomputable def lt6 : T := (.tu [(.sl [(i 0), ff, (sL [(w 1)]), (sL [])] 1), (i 0)])
theorem lr6 : freshE Tryz.prog (evC Tryz.prog skE (orF Tryz.prog (tabO lb5) pfs) 1000) 0 78 la6 = some (lt6, true) := by kernel_rfl
noncomputable def lb6 : List (Nat × (List T → Option (T × Bool))) := (78, rowE la6 (lt6, true)) :: lb5
theorem lo6 : PureOk Tryz.prog (tabO lb6) := PureOk.cons lo5 (ev_row (by kernel_rfl) sk_ok lo5 pfs lr6) (by kernel_rfl)
/- clearway/dynamics.spread: 189 operations -/
noncomputable def la7 : List T := [(.ag [(sL [(i (-100)), (i 0), (i 100)]), (sL [(i 0), (i 10)]), (sL [(i 0)]), (.sl [(.v (.int .u8 0)), (i 0), (i 0), (.v (.int .u8 1)), (i 10), (i 20)] 2), (i 5), (i 50), (i 1), (.sl [(i 0), ff, (sL [(w 1)]), (sL [])] 1), (.sl [(i 0), ff, (sL [(w 1)]), (sL [])] 1), ff, (sL [(w 1)]), (sL [(w 10)]), ff, nl, nl, ff, nl, nl]), (i (-100)), (i 0), (i 0), (i 0)]
noncomputable def lt7 : T := (.tu [(.sl [(i 0), ff, (sL [(w 1)]), (sL [])] 1), (i 0)])
theorem lr7 : freshE Tryz.prog (evC Tryz.prog skE (orF Tryz.prog (tabO lb6) pfs) 1000) 0 191 la7 = some (lt7, true) := by kernel_rfl
noncomputable def lb7 : List (Nat × (List T → Option (T × Bool))) := (191, rowE la7 (lt7, true)) :: lb6
theorem lo7 : PureOk Tryz.prog (tabO lb7) := PureOk.cons lo6 (ev_row (by kernel_rfl) sk_ok lo6 pfs lr7) (by kernel_rfl)
/- clearway/dynamics.Cost: 105 operations -/
noncomputable def la8 : List T := [(.ag [(sL [(i (-100)), (i 0), (i 100)]), (sL [(i 0), (i 10)]), (sL [(i 0)]), (.sl [(.v (.int .u8 0)), (i 0), (i 0), (.v (.int .u8 1)), (i 10), (i 20)] 2), (i 5), (i 50), (i 1), (.sl [(i 0), ff, (sL [(w 1)]), (sL [])] 1), (.sl [(i 0), ff, (sL [(w 1)]), (sL [])] 1), ff, (sL [(w 1)]), (sL [(w 10)]), ff, nl, nl, ff, nl, nl]), (i 0), (i 1)]
noncomputable def lt8 : T := (.tu [(.ag [ff, (sL [(w 1)]), (sL [(w 10)])]), (i 0)])
theorem lr8 : freshE Tryz.prog (evC Tryz.prog skE (orF Tryz.prog (tabO lb7) pfs) 1000) 0 190 la8 = some (lt8, true) := by kernel_rfl
noncomputable def lb8 : List (Nat × (List T → Option (T × Bool))) := (190, rowE la8 (lt8, true)) :: lb7
theorem lo8 : PureOk Tryz.prog (tabO lb8) := PureOk.cons lo7 (ev_row (by kernel_rfl) sk_ok lo7 pfs lr8) (by kernel_rfl)
/- clearway/interp.Weights: 294 operations -/
noncomputable def la9 : List T := [(sL [(sL [(i (-100)), (i 0), (i 100)]), (sL [(i 0), (i 10)]), (sL [(i 0)])]), (sL [(i (-100)), (i 5), (i 0)])]
noncomputable def lt9 : T := (.tu [(.sl [(i 0), ff, (sL [(w 1)]), (sL [(w 2)]), (i 1), ff, (sL [(w 1)]), (sL [(w 2)])] 2), (i 0)])
theorem lr9 : freshE Tryz.prog (evC Tryz.prog skE (orF Tryz.prog (tabO lb8) pfs) 1000) 0 78 la9 = some (lt9, true) := by kernel_rfl
noncomputable def lb9 : List (Nat × (List T → Option (T × Bool))) := (78, rowE la9 (lt9, true)) :: lb8
theorem lo9 : PureOk Tryz.prog (tabO lb9) := PureOk.cons lo8 (ev_row (by kernel_rfl) sk_ok lo8 pfs lr9) (by kernel_rfl)
/- clearway/dynamics.spread: 228 operations -/
noncomputable def la10 : List T := [(.ag [(sL [(i (-100)), (i 0), (i 100)]), (sL [(i 0), (i 10)]), (sL [(i 0)]), (.sl [(.v (.int .u8 0)), (i 0), (i 0), (.v (.int .u8 1)), (i 10), (i 20)] 2), (i 5), (i 50), (i 1), (.sl [(i 0), ff, (sL [(w 1)]), (sL [])] 1), (.sl [(i 0), ff, (sL [(w 1)]), (sL [])] 1), ff, (sL [(w 1)]), (sL [(w 10)]), ff, nl, nl, ff, nl, nl]), (i (-100)), (i 0), (i 0), (i 1)]
noncomputable def lt10 : T := (.tu [(.sl [(i 1), ff, (sL [(w 1)]), (sL [(w 2)]), (i 3), ff, (sL [(w 1)]), (sL [(w 2)])] 2), (i 0)])
theorem lr10 : freshE Tryz.prog (evC Tryz.prog skE (orF Tryz.prog (tabO lb9) pfs) 1000) 0 191 la10 = some (lt10, true) := by kernel_rfl
noncomputable def lb10 : List (Nat × (List T → Option (T × Bool))) := (191, rowE la10 (lt10, true)) :: lb9
theorem lo10 : PureOk Tryz.prog (tabO lb10) := PureOk.cons lo9 (ev_row (by kernel_rfl) sk_ok lo9 pfs lr10) (by kernel_rfl)
/- clearway/dynamics.Cost: 98 operations -/
noncomputable def la11 : List T := [(.ag [(sL [(i (-100)), (i 0), (i 100)]), (sL [(i 0), (i 10)]), (sL [(i 0)]), (.sl [(.v (.int .u8 0)), (i 0), (i 0), (.v (.int .u8 1)), (i 10), (i 20)] 2), (i 5), (i 50), (i 1), (.sl [(i 0), ff, (sL [(w 1)]), (sL [])] 1), (.sl [(i 0), ff, (sL [(w 1)]), (sL [])] 1), ff, (sL [(w 1)]), (sL [(w 10)]), ff, nl, nl, ff, nl, nl]), (i 1), (i 0)]
noncomputable def lt11 : T := (.tu [(.ag [ff, nl, nl]), (i 0)])
theorem lr11 : freshE Tryz.prog (evC Tryz.prog skE (orF Tryz.prog (tabO lb10) pfs) 1000) 0 190 la11 = some (lt11, true) := by kernel_rfl
noncomputable def lb11 : List (Nat × (List T → Option (T × Bool))) := (190, rowE la11 (lt11, true)) :: lb10
theorem lo11 : PureOk Tryz.prog (tabO lb11) := PureOk.cons lo10 (ev_row (by kernel_rfl) sk_ok lo10 pfs lr11) (by kernel_rfl)
/- clearway/dynamics.Cost: 105 operations -/
noncomputable def la12 : List T := [(.ag [(sL [(i (-100)), (i 0), (i 100)]), (sL [(i 0), (i 10)]), (sL [(i 0)]), (.sl [(.v (.int .u8 0)), (i 0), (i 0), (.v (.int .u8 1)), (i 10), (i 20)] 2), (i 5), (i 50), (i 1), (.sl [(i 0), ff, (sL [(w 1)]), (sL [])] 1), (.sl [(i 0), ff, (sL [(w 1)]), (sL [])] 1), ff, (sL [(w 1)]), (sL [(w 10)]), ff, nl, nl, ff, nl, nl]), (i 1), (i 1)]
noncomputable def lt12 : T := (.tu [(.ag [ff, (sL [(w 1)]), (sL [(w 10)])]), (i 0)])
theorem lr12 : freshE Tryz.prog (evC Tryz.prog skE (orF Tryz.prog (tabO lb11) pfs) 1000) 0 190 la12 = some (lt12, true) := by kernel_rfl
noncomputable def lb12 : List (Nat × (List T → Option (T × Bool))) := (190, rowE la12 (lt12, true)) :: lb11
theorem lo12 : PureOk Tryz.prog (tabO lb12) := PureOk.cons lo11 (ev_row (by kernel_rfl) sk_ok lo11 pfs lr12) (by kernel_rfl)
/- clearway/interp.Point: 229 operations -/
noncomputable def la13 : List T := [(sL [(sL [(i (-100)), (i 0), (i 100)]), (sL [(i 0), (i 10)]), (sL [(i 0)])]), (i 1)]
noncomputable def lt13 : T := (.tu [(sL [(i (-100)), (i 10), (i 0)]), (i 0)])
theorem lr13 : freshE Tryz.prog (evC Tryz.prog skE (orF Tryz.prog (tabO lb12) pfs) 1000) 0 189 la13 = some (lt13, true) := by kernel_rfl
noncomputable def lb13 : List (Nat × (List T → Option (T × Bool))) := (189, rowE la13 (lt13, true)) :: lb12
theorem lo13 : PureOk Tryz.prog (tabO lb13) := PureOk.cons lo12 (ev_row (by kernel_rfl) sk_ok lo12 pfs lr13) (by kernel_rfl)
/- clearway/interp.Weights: 214 operations -/
noncomputable def la14 : List T := [(sL [(sL [(i (-100)), (i 0), (i 100)]), (sL [(i 0), (i 10)]), (sL [(i 0)])]), (sL [(i (-110)), (i 10), (i 0)])]
noncomputable def lt14 : T := (.tu [(.sl [(i 1), ff, (sL [(w 1)]), (sL [])] 1), (i 0)])
theorem lr14 : freshE Tryz.prog (evC Tryz.prog skE (orF Tryz.prog (tabO lb13) pfs) 1000) 0 78 la14 = some (lt14, true) := by kernel_rfl
noncomputable def lb14 : List (Nat × (List T → Option (T × Bool))) := (78, rowE la14 (lt14, true)) :: lb13
theorem lo14 : PureOk Tryz.prog (tabO lb14) := PureOk.cons lo13 (ev_row (by kernel_rfl) sk_ok lo13 pfs lr14) (by kernel_rfl)
/- clearway/dynamics.spread: 189 operations -/
noncomputable def la15 : List T := [(.ag [(sL [(i (-100)), (i 0), (i 100)]), (sL [(i 0), (i 10)]), (sL [(i 0)]), (.sl [(.v (.int .u8 0)), (i 0), (i 0), (.v (.int .u8 1)), (i 10), (i 20)] 2), (i 5), (i 50), (i 1), (.sl [(i 0), ff, (sL [(w 1)]), (sL [])] 1), (.sl [(i 0), ff, (sL [(w 1)]), (sL [])] 1), ff, (sL [(w 1)]), (sL [(w 10)]), ff, nl, nl, ff, nl, nl]), (i (-100)), (i 10), (i 0), (i 0)]
noncomputable def lt15 : T := (.tu [(.sl [(i 2), ff, (sL [(w 1)]), (sL [])] 1), (i 0)])
theorem lr15 : freshE Tryz.prog (evC Tryz.prog skE (orF Tryz.prog (tabO lb14) pfs) 1000) 0 191 la15 = some (lt15, true) := by kernel_rfl
noncomputable def lb15 : List (Nat × (List T → Option (T × Bool))) := (191, rowE la15 (lt15, true)) :: lb14
theorem lo15 : PureOk Tryz.prog (tabO lb15) := PureOk.cons lo14 (ev_row (by kernel_rfl) sk_ok lo14 pfs lr15) (by kernel_rfl)
/- clearway/dynamics.spread: 175 operations -/
noncomputable def la16 : List T := [(.ag [(sL [(i (-100)), (i 0), (i 100)]), (sL [(i 0), (i 10)]), (sL [(i 0)]), (.sl [(.v (.int .u8 0)), (i 0), (i 0), (.v (.int .u8 1)), (i 10), (i 20)] 2), (i 5), (i 50), (i 1), (.sl [(i 0), ff, (sL [(w 1)]), (sL [])] 1), (.sl [(i 0), ff, (sL [(w 1)]), (sL [])] 1), ff, (sL [(w 1)]), (sL [(w 10)]), ff, nl, nl, ff, nl, nl]), (i (-100)), (i 10), (i 0), (i 1)]
noncomputable def lt16 : T := (.tu [(.sl [(i 3), ff, (sL [(w 1)]), (sL [])] 1), (i 0)])
theorem lr16 : freshE Tryz.prog (evC Tryz.prog skE (orF Tryz.prog (tabO lb15) pfs) 1000) 0 191 la16 = some (lt16, true) := by kernel_rfl
noncomputable def lb16 : List (Nat × (List T → Option (T × Bool))) := (191, rowE la16 (lt16, true)) :: lb15
theorem lo16 : PureOk Tryz.prog (tabO lb16) := PureOk.cons lo15 (ev_row (by kernel_rfl) sk_ok lo15 pfs lr16) (by kernel_rfl)
/- clearway/interp.Point: 229 operations -/
noncomputable def la17 : List T := [(sL [(sL [(i (-100)), (i 0), (i 100)]), (sL [(i 0), (i 10)]), (sL [(i 0)])]), (i 2)]
noncomputable def lt17 : T := (.tu [(sL [(i 0), (i 0), (i 0)]), (i 0)])
theorem lr17 : freshE Tryz.prog (evC Tryz.prog skE (orF Tryz.prog (tabO lb16) pfs) 1000) 0 189 la17 = some (lt17, true) := by kernel_rfl
noncomputable def lb17 : List (Nat × (List T → Option (T × Bool))) := (189, rowE la17 (lt17, true)) :: lb16
theorem lo17 : PureOk Tryz.prog (tabO lb17) := PureOk.cons lo16 (ev_row (by kernel_rfl) sk_ok lo16 pfs lr17) (by kernel_rfl)
/- clearway/interp.Weights: 214 operations -/
noncomputable def la18 : List T := [(sL [(sL [(i (-100)), (i 0), (i 100)]), (sL [(i 0), (i 10)]), (sL [(i 0)])]), (sL [(i 0), (i 0), (i 0)])]
noncomputable def lt18 : T := (.tu [(.sl [(i 2), ff, (sL [(w 1)]), (sL [])] 1), (i 0)])
theorem lr18 : freshE Tryz.prog (evC Tryz.prog skE (orF Tryz.prog (tabO lb17) pfs) 1000) 0 78 la18 = some (lt18, true) := by kernel_rfl
noncomputable def lb18 : List (Nat × (List T → Option (T × Bool))) := (78, rowE la18 (lt18, true)) :: lb17
theorem lo18 : PureOk Tryz.prog (tabO lb18) := PureOk.cons lo17 (ev_row (by kernel_rfl) sk_ok lo17 pfs lr18) (by kernel_rfl)
/- clearway/dynamics.spread: 189 operations -/
noncomputable def la19 : List T := [(.ag [(sL [(i (-100)), (i 0), (i 100)]), (sL [(i 0), (i 10)]), (sL [(i 0)]), (.sl [(.v (.int .u8 0)), (i 0), (i 0), (.v (.int .u8 1)), (i 10), (i 20)] 2), (i 5), (i 50), (i 1), (.sl [(i 0), ff, (sL [(w 1)]), (sL [])] 1), (.sl [(i 0), ff, (sL [(w 1)]), (sL [])] 1), ff, (sL [(w 1)]), (sL [(w 10)]), ff, nl, nl, ff, nl, nl]), (i 0), (i 0), (i 0), (i 0)]
noncomputable def lt19 : T := (.tu [(.sl [(i 4), ff, (sL [(w 1)]), (sL [])] 1), (i 0)])
theorem lr19 : freshE Tryz.prog (evC Tryz.prog skE (orF Tryz.prog (tabO lb18) pfs) 1000) 0 191 la19 = some (lt19, true) := by kernel_rfl
noncomputable def lb19 : List (Nat × (List T → Option (T × Bool))) := (191, rowE la19 (lt19, true)) :: lb18
theorem lo19 : PureOk Tryz.prog (tabO lb19) := PureOk.cons lo18 (ev_row (by kernel_rfl) sk_ok lo18 pfs lr19) (by kernel_rfl)
/- clearway/interp.Weights: 294 operations -/
noncomputable def la20 : List T := [(sL [(sL [(i (-100)), (i 0), (i 100)]), (sL [(i 0), (i 10)]), (sL [(i 0)])]), (sL [(i 0), (i 5), (i 0)])]
noncomputable def lt20 : T := (.tu [(.sl [(i 2), ff, (sL [(w 1)]), (sL [(w 2)]), (i 3), ff, (sL [(w 1)]), (sL [(w 2)])] 2), (i 0)])
theorem lr20 : freshE Tryz.prog (evC Tryz.prog skE (orF Tryz.prog (tabO lb19) pfs) 1000) 0 78 la20 = some (lt20, true) := by kernel_rfl
noncomputable def lb20 : List (Nat × (List T → Option (T × Bool))) := (78, rowE la20 (lt20, true)) :: lb19
theorem lo20 : PureOk Tryz.prog (tabO lb20) := PureOk.cons lo19 (ev_row (by kernel_rfl) sk_ok lo19 pfs lr20) (by kernel_rfl)
/- clearway/dynamics.spread: 228 operations -/
noncomputable def la21 : List T := [(.ag [(sL [(i (-100)), (i 0), (i 100)]), (sL [(i 0), (i 10)]), (sL [(i 0)]), (.sl [(.v (.int .u8 0)), (i 0), (i 0), (.v (.int .u8 1)), (i 10), (i 20)] 2), (i 5), (i 50), (i 1), (.sl [(i 0), ff, (sL [(w 1)]), (sL [])] 1), (.sl [(i 0), ff, (sL [(w 1)]), (sL [])] 1), ff, (sL [(w 1)]), (sL [(w 10)]), ff, nl, nl, ff, nl, nl]), (i 0), (i 0), (i 0), (i 1)]
noncomputable def lt21 : T := (.tu [(.sl [(i 5), ff, (sL [(w 1)]), (sL [(w 2)]), (i 7), ff, (sL [(w 1)]), (sL [(w 2)])] 2), (i 0)])
theorem lr21 : freshE Tryz.prog (evC Tryz.prog skE (orF Tryz.prog (tabO lb20) pfs) 1000) 0 191 la21 = some (lt21, true) := by kernel_rfl
noncomputable def lb21 : List (Nat × (List T → Option (T × Bool))) := (191, rowE la21 (lt21, true)) :: lb20
theorem lo21 : PureOk Tryz.prog (tabO lb21) := PureOk.cons lo20 (ev_row (by kernel_rfl) sk_ok lo20 pfs lr21) (by kernel_rfl)
/- clearway/interp.Point: 229 operations -/
noncomputable def la22 : List T := [(sL [(sL [(i (-100)), (i 0), (i 100)]), (sL [(i 0), (i 10)]), (sL [(i 0)])]), (i 3)]
noncomputable def lt22 : T := (.tu [(sL [(i 0), (i 10), (i 0)]), (i 0)])
theorem lr22 : freshE Tryz.prog (evC Tryz.prog skE (orF Tryz.prog (tabO lb21) pfs) 1000) 0 189 la22 = some (lt22, true) := by kernel_rfl
noncomputable def lb22 : List (Nat × (List T → Option (T × Bool))) := (189, rowE la22 (lt22, true)) :: lb21
theorem lo22 : PureOk Tryz.prog (tabO lb22) := PureOk.cons lo21 (ev_row (by kernel_rfl) sk_ok lo21 pfs lr22) (by kernel_rfl)
/- clearway/interp.Weights: 342 operations -/
noncomputable def la23 : List T := [(sL [(sL [(i (-100)), (i 0), (i 100)]), (sL [(i 0), (i 10)]), (sL [(i 0)])]), (sL [(i (-10)), (i 10), (i 0)])]
noncomputable def lt23 : T := (.tu [(.sl [(i 1), ff, (sL [(w 1)]), (sL [(w 10)]), (i 3), ff, (sL [(w 9)]), (sL [(w 10)])] 2), (i 0)])
theorem lr23 : freshE Tryz.prog (evC Tryz.prog skE (orF Tryz.prog (tabO lb22) pfs) 1000) 0 78 la23 = some (lt23, true) := by kernel_rfl
noncomputable def lb23 : List (Nat × (List T → Option (T × Bool))) := (78, rowE la23 (lt23, true)) :: lb22
theorem lo23 : PureOk Tryz.prog (tabO lb23) := PureOk.cons lo22 (ev_row (by kernel_rfl) sk_ok lo22 pfs lr23) (by kernel_rfl)
/- clearway/dynamics.spread: 242 operations -/
noncomputable def la24 : List T := [(.ag [(sL [(i (-100)), (i 0), (i 100)]), (sL [(i 0), (i 10)]), (sL [(i 0)]), (.sl [(.v (.int .u8 0)), (i 0), (i 0), (.v (.int .u8 1)), (i 10), (i 20)] 2), (i 5), (i 50), (i 1), (.sl [(i 0), ff, (sL [(w 1)]), (sL [])] 1), (.sl [(i 0), ff, (sL [(w 1)]), (sL [])] 1), ff, (sL [(w 1)]), (sL [(w 10)]), ff, nl, nl, ff, nl, nl]), (i 0), (i 10), (i 0), (i 0)]
noncomputable def lt24 : T := (.tu [(.sl [(i 2), ff, (sL [(w 1)]), (sL [(w 10)]), (i 6), ff, (sL [(w 9)]), (sL [(w 10)])] 2), (i 0)])
theorem lr24 : freshE Tryz.prog (evC Tryz.prog skE (orF Tryz.prog (tabO lb23) pfs) 1000) 0 191 la24 = some (lt24, true) := by kernel_rfl
noncomputable def lb24 : List (Nat × (List T → Option (T × Bool))) := (191, rowE la24 (lt24, true)) :: lb23
theorem lo24 : PureOk Tryz.prog (tabO lb24) := PureOk.cons lo23 (ev_row (by kernel_rfl) sk_ok lo23 pfs lr24) (by kernel_rfl)
/- clearway/dynamics.spread: 228 operations -/
noncomputable def la25 : List T := [(.ag [(sL [(i (-100)), (i 0), (i 100)]), (sL [(i 0), (i 10)]), (sL [(i 0)]), (.sl [(.v (.int .u8 0)), (i 0), (i 0), (.v (.int .u8 1)), (i 10), (i 20)] 2), (i 5), (i 50), (i 1), (.sl [(i 0), ff, (sL [(w 1)]), (sL [])] 1), (.sl [(i 0), ff, (sL [(w 1)]), (sL [])] 1), ff, (sL [(w 1)]), (sL [(w 10)]), ff, nl, nl, ff, nl, nl]), (i 0), (i 10), (i 0), (i 1)]
noncomputable def lt25 : T := (.tu [(.sl [(i 3), ff, (sL [(w 1)]), (sL [(w 10)]), (i 7), ff, (sL [(w 9)]), (sL [(w 10)])] 2), (i 0)])
theorem lr25 : freshE Tryz.prog (evC Tryz.prog skE (orF Tryz.prog (tabO lb24) pfs) 1000) 0 191 la25 = some (lt25, true) := by kernel_rfl
noncomputable def lb25 : List (Nat × (List T → Option (T × Bool))) := (191, rowE la25 (lt25, true)) :: lb24
theorem lo25 : PureOk Tryz.prog (tabO lb25) := PureOk.cons lo24 (ev_row (by kernel_rfl) sk_ok lo24 pfs lr25) (by kernel_rfl)
/- clearway/interp.Point: 229 operations -/
noncomputable def la26 : List T := [(sL [(sL [(i (-100)), (i 0), (i 100)]), (sL [(i 0), (i 10)]), (sL [(i 0)])]), (i 4)]
noncomputable def lt26 : T := (.tu [(sL [(i 100), (i 0), (i 0)]), (i 0)])
theorem lr26 : freshE Tryz.prog (evC Tryz.prog skE (orF Tryz.prog (tabO lb25) pfs) 1000) 0 189 la26 = some (lt26, true) := by kernel_rfl
noncomputable def lb26 : List (Nat × (List T → Option (T × Bool))) := (189, rowE la26 (lt26, true)) :: lb25
theorem lo26 : PureOk Tryz.prog (tabO lb26) := PureOk.cons lo25 (ev_row (by kernel_rfl) sk_ok lo25 pfs lr26) (by kernel_rfl)
/- clearway/interp.Weights: 214 operations -/
noncomputable def la27 : List T := [(sL [(sL [(i (-100)), (i 0), (i 100)]), (sL [(i 0), (i 10)]), (sL [(i 0)])]), (sL [(i 100), (i 0), (i 0)])]
noncomputable def lt27 : T := (.tu [(.sl [(i 4), ff, (sL [(w 1)]), (sL [])] 1), (i 0)])
theorem lr27 : freshE Tryz.prog (evC Tryz.prog skE (orF Tryz.prog (tabO lb26) pfs) 1000) 0 78 la27 = some (lt27, true) := by kernel_rfl
noncomputable def lb27 : List (Nat × (List T → Option (T × Bool))) := (78, rowE la27 (lt27, true)) :: lb26
theorem lo27 : PureOk Tryz.prog (tabO lb27) := PureOk.cons lo26 (ev_row (by kernel_rfl) sk_ok lo26 pfs lr27) (by kernel_rfl)
/- clearway/dynamics.spread: 189 operations -/
noncomputable def la28 : List T := [(.ag [(sL [(i (-100)), (i 0), (i 100)]), (sL [(i 0), (i 10)]), (sL [(i 0)]), (.sl [(.v (.int .u8 0)), (i 0), (i 0), (.v (.int .u8 1)), (i 10), (i 20)] 2), (i 5), (i 50), (i 1), (.sl [(i 0), ff, (sL [(w 1)]), (sL [])] 1), (.sl [(i 0), ff, (sL [(w 1)]), (sL [])] 1), ff, (sL [(w 1)]), (sL [(w 10)]), ff, nl, nl, ff, nl, nl]), (i 100), (i 0), (i 0), (i 0)]
noncomputable def lt28 : T := (.tu [(.sl [(i 8), ff, (sL [(w 1)]), (sL [])] 1), (i 0)])
theorem lr28 : freshE Tryz.prog (evC Tryz.prog skE (orF Tryz.prog (tabO lb27) pfs) 1000) 0 191 la28 = some (lt28, true) := by kernel_rfl
noncomputable def lb28 : List (Nat × (List T → Option (T × Bool))) := (191, rowE la28 (lt28, true)) :: lb27
theorem lo28 : PureOk Tryz.prog (tabO lb28) := PureOk.cons lo27 (ev_row (by kernel_rfl) sk_ok lo27 pfs lr28) (by kernel_rfl)
/- clearway/interp.Weights: 294 operations -/
noncomputable def la29 : List T := [(sL [(sL [(i (-100)), (i 0), (i 100)]), (sL [(i 0), (i 10)]), (sL [(i 0)])]), (sL [(i 100), (i 5), (i 0)])]
noncomputable def lt29 : T := (.tu [(.sl [(i 4), ff, (sL [(w 1)]), (sL [(w 2)]), (i 5), ff, (sL [(w 1)]), (sL [(w 2)])] 2), (i 0)])
theorem lr29 : freshE Tryz.prog (evC Tryz.prog skE (orF Tryz.prog (tabO lb28) pfs) 1000) 0 78 la29 = some (lt29, true) := by kernel_rfl
noncomputable def lb29 : List (Nat × (List T → Option (T × Bool))) := (78, rowE la29 (lt29, true)) :: lb28
theorem lo29 : PureOk Tryz.prog (tabO lb29) := PureOk.cons lo28 (ev_row (by kernel_rfl) sk_ok lo28 pfs lr29) (by kernel_rfl)
/- clearway/dynamics.spread: 228 operations -/
noncomputable def la30 : List T := [(.ag [(sL [(i (-100)), (i 0), (i 100)]), (sL [(i 0), (i 10)]), (sL [(i 0)]), (.sl [(.v (.int .u8 0)), (i 0), (i 0), (.v (.int .u8 1)), (i 10), (i 20)] 2), (i 5), (i 50), (i 1), (.sl [(i 0), ff, (sL [(w 1)]), (sL [])] 1), (.sl [(i 0), ff, (sL [(w 1)]), (sL [])] 1), ff, (sL [(w 1)]), (sL [(w 10)]), ff, nl, nl, ff, nl, nl]), (i 100), (i 0), (i 0), (i 1)]
noncomputable def lt30 : T := (.tu [(.sl [(i 9), ff, (sL [(w 1)]), (sL [(w 2)]), (i 11), ff, (sL [(w 1)]), (sL [(w 2)])] 2), (i 0)])
theorem lr30 : freshE Tryz.prog (evC Tryz.prog skE (orF Tryz.prog (tabO lb29) pfs) 1000) 0 191 la30 = some (lt30, true) := by kernel_rfl
noncomputable def lb30 : List (Nat × (List T → Option (T × Bool))) := (191, rowE la30 (lt30, true)) :: lb29
theorem lo30 : PureOk Tryz.prog (tabO lb30) := PureOk.cons lo29 (ev_row (by kernel_rfl) sk_ok lo29 pfs lr30) (by kernel_rfl)
/- clearway/interp.Point: 229 operations -/
noncomputable def la31 : List T := [(sL [(sL [(i (-100)), (i 0), (i 100)]), (sL [(i 0), (i 10)]), (sL [(i 0)])]), (i 5)]
noncomputable def lt31 : T := (.tu [(sL [(i 100), (i 10), (i 0)]), (i 0)])
theorem lr31 : freshE Tryz.prog (evC Tryz.prog skE (orF Tryz.prog (tabO lb30) pfs) 1000) 0 189 la31 = some (lt31, true) := by kernel_rfl
noncomputable def lb31 : List (Nat × (List T → Option (T × Bool))) := (189, rowE la31 (lt31, true)) :: lb30
theorem lo31 : PureOk Tryz.prog (tabO lb31) := PureOk.cons lo30 (ev_row (by kernel_rfl) sk_ok lo30 pfs lr31) (by kernel_rfl)
/- clearway/interp.Weights: 342 operations -/
noncomputable def la32 : List T := [(sL [(sL [(i (-100)), (i 0), (i 100)]), (sL [(i 0), (i 10)]), (sL [(i 0)])]), (sL [(i 90), (i 10), (i 0)])]
noncomputable def lt32 : T := (.tu [(.sl [(i 3), ff, (sL [(w 1)]), (sL [(w 10)]), (i 5), ff, (sL [(w 9)]), (sL [(w 10)])] 2), (i 0)])
theorem lr32 : freshE Tryz.prog (evC Tryz.prog skE (orF Tryz.prog (tabO lb31) pfs) 1000) 0 78 la32 = some (lt32, true) := by kernel_rfl
noncomputable def lb32 : List (Nat × (List T → Option (T × Bool))) := (78, rowE la32 (lt32, true)) :: lb31
theorem lo32 : PureOk Tryz.prog (tabO lb32) := PureOk.cons lo31 (ev_row (by kernel_rfl) sk_ok lo31 pfs lr32) (by kernel_rfl)
/- clearway/dynamics.spread: 242 operations -/
noncomputable def la33 : List T := [(.ag [(sL [(i (-100)), (i 0), (i 100)]), (sL [(i 0), (i 10)]), (sL [(i 0)]), (.sl [(.v (.int .u8 0)), (i 0), (i 0), (.v (.int .u8 1)), (i 10), (i 20)] 2), (i 5), (i 50), (i 1), (.sl [(i 0), ff, (sL [(w 1)]), (sL [])] 1), (.sl [(i 0), ff, (sL [(w 1)]), (sL [])] 1), ff, (sL [(w 1)]), (sL [(w 10)]), ff, nl, nl, ff, nl, nl]), (i 100), (i 10), (i 0), (i 0)]
noncomputable def lt33 : T := (.tu [(.sl [(i 6), ff, (sL [(w 1)]), (sL [(w 10)]), (i 10), ff, (sL [(w 9)]), (sL [(w 10)])] 2), (i 0)])
theorem lr33 : freshE Tryz.prog (evC Tryz.prog skE (orF Tryz.prog (tabO lb32) pfs) 1000) 0 191 la33 = some (lt33, true) := by kernel_rfl
noncomputable def lb33 : List (Nat × (List T → Option (T × Bool))) := (191, rowE la33 (lt33, true)) :: lb32
theorem lo33 : PureOk Tryz.prog (tabO lb33) := PureOk.cons lo32 (ev_row (by kernel_rfl) sk_ok lo32 pfs lr33) (by kernel_rfl)
/- clearway/dynamics.spread: 228 operations -/
noncomputable def la34 : List T := [(.ag [(sL [(i (-100)), (i 0), (i 100)]), (sL [(i 0), (i 10)]), (sL [(i 0)]), (.sl [(.v (.int .u8 0)), (i 0), (i 0), (.v (.int .u8 1)), (i 10), (i 20)] 2), (i 5), (i 50), (i 1), (.sl [(i 0), ff, (sL [(w 1)]), (sL [])] 1), (.sl [(i 0), ff, (sL [(w 1)]), (sL [])] 1), ff, (sL [(w 1)]), (sL [(w 10)]), ff, nl, nl, ff, nl, nl]), (i 100), (i 10), (i 0), (i 1)]
noncomputable def lt34 : T := (.tu [(.sl [(i 7), ff, (sL [(w 1)]), (sL [(w 10)]), (i 11), ff, (sL [(w 9)]), (sL [(w 10)])] 2), (i 0)])
theorem lr34 : freshE Tryz.prog (evC Tryz.prog skE (orF Tryz.prog (tabO lb33) pfs) 1000) 0 191 la34 = some (lt34, true) := by kernel_rfl
noncomputable def lb34 : List (Nat × (List T → Option (T × Bool))) := (191, rowE la34 (lt34, true)) :: lb33
theorem lo34 : PureOk Tryz.prog (tabO lb34) := PureOk.cons lo33 (ev_row (by kernel_rfl) sk_ok lo33 pfs lr34) (by kernel_rfl)
end Go.Proofs.YtdfmdiakjdggbaaGreatDoor

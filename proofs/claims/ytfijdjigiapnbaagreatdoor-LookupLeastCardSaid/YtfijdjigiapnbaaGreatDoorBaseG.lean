import Derived.Test.YtfijdjigiapnbaaGreatDoorBaseA
import Derived.Test.YtfijdjigiapnbaaGreatDoorBaseB
import Derived.Test.YtfijdjigiapnbaaGreatDoorBaseC
import Derived.Test.YtfijdjigiapnbaaGreatDoorBaseD
import Derived.Test.YtfijdjigiapnbaaGreatDoorBaseE
import Derived.Test.YtfijdjigiapnbaaGreatDoorBaseF
set_option linter.unusedVariables false
set_option linter.unusedSimpArgs false
set_option linter.unnecessarySimpa false
namespace Go.Proofs.YtfijdjigiapnbaaGreatDoor
open Go Go.Gv Go.Ev IntKind
set_option maxRecDepth 1000000
noncomputable def pfs : List Nat := [13,15,19,20,23,24,25,29,31,33,41,42,44,45,49,50,54,55,57,58,59,61,62,64,65,66,67,73,77,78,79,80,81,82,83,84,85,89,90,91,98,105,106,109,110,112,113,114,115,116,117,119,120,122,129,130,132,133,134,136,138,140,141,145,162,163,164,165,174,177,180,181,182,183,185,195,204]
noncomputable def i (n : Int) : T := .v (.int .i64 n)
noncomputable def w (n : Int) : T := .v (.int .u32 n)
noncomputable def tt : T := .v (.bool true)
noncomputable def ff : T := .v (.bool false)
noncomputable def nl : T := .v (.slice none 0 0)
noncomputable def sL (l : List T) : T := .sl l l.length
noncomputable def la1 : List T := [(sL [(sL [(i (-100)),(i 0),(i 100)]),(sL [(i 0),(i 10)]),(sL [(i 0)])])]
noncomputable def lt1 : T := (i 0)
theorem lr1 : zQ Tryz.prog (evC Tryz.prog skE (orF Tryz.prog (zR tb1) pfs) 1000) 0 112 la1 = some (lt1,true) := by kernel_rfl
noncomputable def lb1 : List (Nat × (List T → Option (T × Bool))) := (112,qJ la1 (lt1,true)) :: tb1
theorem lo1 : zL Tryz.prog (zR lb1) := zL.cons qCr (zS (by kernel_rfl) zU qCr pfs lr1) (by kernel_rfl)
noncomputable def la2 : List T := [(.sl [(i 0),ff,(sL [(w 1)]),(sL [])] 1)]
noncomputable def lt2 : T := (i 0)
theorem lr2 : zQ Tryz.prog (evC Tryz.prog skE (orF Tryz.prog (zR lb1) pfs) 1000) 0 115 la2 = some (lt2,true) := by kernel_rfl
noncomputable def lb2 : List (Nat × (List T → Option (T × Bool))) := (115,qJ la2 (lt2,true)) :: lb1
theorem lo2 : zL Tryz.prog (zR lb2) := zL.cons lo1 (zS (by kernel_rfl) zU lo1 pfs lr2) (by kernel_rfl)
noncomputable def la3 : List T := [(.ag [(sL [(i (-100)),(i 0),(i 100)]),(sL [(i 0),(i 10)]),(sL [(i 0)]),(.sl [(.v (.int .u8 0)),(i 0),(i 0),(.v (.int .u8 1)),(i 10),(i 20)] 2),(i 5),(i 50),(i 1),(.sl [(i 0),ff,(sL [(w 1)]),(sL [])] 1),(.sl [(i 0),ff,(sL [(w 1)]),(sL [])] 1),ff,(sL [(w 1)]),(sL [(w 10)]),ff,nl,nl,ff,nl,nl])]
noncomputable def lt3 : T := (i 0)
theorem lr3 : zQ Tryz.prog (evC Tryz.prog skE (orF Tryz.prog (zR lb2) pfs) 1000) 0 61 la3 = some (lt3,true) := by kernel_rfl
noncomputable def lb3 : List (Nat × (List T → Option (T × Bool))) := (61,qJ la3 (lt3,true)) :: lb2
theorem lo3 : zL Tryz.prog (zR lb3) := zL.cons lo2 (zS (by kernel_rfl) zU lo2 pfs lr3) (by kernel_rfl)
noncomputable def la4 : List T := [(sL [(sL [(i (-100)),(i 0),(i 100)]),(sL [(i 0),(i 10)]),(sL [(i 0)])]),(i 0)]
noncomputable def lt4 : T := (.tu [(sL [(i (-100)),(i 0),(i 0)]),(i 0)])
theorem lr4 : zQ Tryz.prog (evC Tryz.prog skE (orF Tryz.prog (zR lb3) pfs) 1000) 0 24 la4 = some (lt4,true) := by kernel_rfl
noncomputable def lb4 : List (Nat × (List T → Option (T × Bool))) := (24,qJ la4 (lt4,true)) :: lb3
theorem lo4 : zL Tryz.prog (zR lb4) := zL.cons lo3 (zS (by kernel_rfl) zU lo3 pfs lr4) (by kernel_rfl)
noncomputable def la5 : List T := [(.ag [(sL [(i (-100)),(i 0),(i 100)]),(sL [(i 0),(i 10)]),(sL [(i 0)]),(.sl [(.v (.int .u8 0)),(i 0),(i 0),(.v (.int .u8 1)),(i 10),(i 20)] 2),(i 5),(i 50),(i 1),(.sl [(i 0),ff,(sL [(w 1)]),(sL [])] 1),(.sl [(i 0),ff,(sL [(w 1)]),(sL [])] 1),ff,(sL [(w 1)]),(sL [(w 10)]),ff,nl,nl,ff,nl,nl]),(i 0),(i 0)]
noncomputable def lt5 : T := (.tu [(.ag [ff,nl,nl]),(i 0)])
theorem lr5 : zQ Tryz.prog (evC Tryz.prog skE (orF Tryz.prog (zR lb4) pfs) 1000) 0 129 la5 = some (lt5,true) := by kernel_rfl
noncomputable def lb5 : List (Nat × (List T → Option (T × Bool))) := (129,qJ la5 (lt5,true)) :: lb4
theorem lo5 : zL Tryz.prog (zR lb5) := zL.cons lo4 (zS (by kernel_rfl) zU lo4 pfs lr5) (by kernel_rfl)
noncomputable def la6 : List T := [(sL [(sL [(i (-100)),(i 0),(i 100)]),(sL [(i 0),(i 10)]),(sL [(i 0)])]),(sL [(i (-100)),(i 0),(i 0)])]
noncomputable def lt6 : T := (.tu [(.sl [(i 0),ff,(sL [(w 1)]),(sL [])] 1),(i 0)])
theorem lr6 : zQ Tryz.prog (evC Tryz.prog skE (orF Tryz.prog (zR lb5) pfs) 1000) 0 65 la6 = some (lt6,true) := by kernel_rfl
noncomputable def lb6 : List (Nat × (List T → Option (T × Bool))) := (65,qJ la6 (lt6,true)) :: lb5
theorem lo6 : zL Tryz.prog (zR lb6) := zL.cons lo5 (zS (by kernel_rfl) zU lo5 pfs lr6) (by kernel_rfl)
noncomputable def la7 : List T := [(.ag [(sL [(i (-100)),(i 0),(i 100)]),(sL [(i 0),(i 10)]),(sL [(i 0)]),(.sl [(.v (.int .u8 0)),(i 0),(i 0),(.v (.int .u8 1)),(i 10),(i 20)] 2),(i 5),(i 50),(i 1),(.sl [(i 0),ff,(sL [(w 1)]),(sL [])] 1),(.sl [(i 0),ff,(sL [(w 1)]),(sL [])] 1),ff,(sL [(w 1)]),(sL [(w 10)]),ff,nl,nl,ff,nl,nl]),(i (-100)),(i 0),(i 0),(i 0)]
noncomputable def lt7 : T := (.tu [(.sl [(i 0),ff,(sL [(w 1)]),(sL [])] 1),(i 0)])
theorem lr7 : zQ Tryz.prog (evC Tryz.prog skE (orF Tryz.prog (zR lb6) pfs) 1000) 0 130 la7 = some (lt7,true) := by kernel_rfl
noncomputable def lb7 : List (Nat × (List T → Option (T × Bool))) := (130,qJ la7 (lt7,true)) :: lb6
theorem lo7 : zL Tryz.prog (zR lb7) := zL.cons lo6 (zS (by kernel_rfl) zU lo6 pfs lr7) (by kernel_rfl)
noncomputable def la8 : List T := [(.ag [(sL [(i (-100)),(i 0),(i 100)]),(sL [(i 0),(i 10)]),(sL [(i 0)]),(.sl [(.v (.int .u8 0)),(i 0),(i 0),(.v (.int .u8 1)),(i 10),(i 20)] 2),(i 5),(i 50),(i 1),(.sl [(i 0),ff,(sL [(w 1)]),(sL [])] 1),(.sl [(i 0),ff,(sL [(w 1)]),(sL [])] 1),ff,(sL [(w 1)]),(sL [(w 10)]),ff,nl,nl,ff,nl,nl]),(i 0),(i 1)]
noncomputable def lt8 : T := (.tu [(.ag [ff,(sL [(w 1)]),(sL [(w 10)])]),(i 0)])
theorem lr8 : zQ Tryz.prog (evC Tryz.prog skE (orF Tryz.prog (zR lb7) pfs) 1000) 0 129 la8 = some (lt8,true) := by kernel_rfl
noncomputable def lb8 : List (Nat × (List T → Option (T × Bool))) := (129,qJ la8 (lt8,true)) :: lb7
theorem lo8 : zL Tryz.prog (zR lb8) := zL.cons lo7 (zS (by kernel_rfl) zU lo7 pfs lr8) (by kernel_rfl)
noncomputable def la9 : List T := [(sL [(sL [(i (-100)),(i 0),(i 100)]),(sL [(i 0),(i 10)]),(sL [(i 0)])]),(sL [(i (-100)),(i 5),(i 0)])]
noncomputable def lt9 : T := (.tu [(.sl [(i 0),ff,(sL [(w 1)]),(sL [(w 2)]),(i 1),ff,(sL [(w 1)]),(sL [(w 2)])] 2),(i 0)])
theorem lr9 : zQ Tryz.prog (evC Tryz.prog skE (orF Tryz.prog (zR lb8) pfs) 1000) 0 65 la9 = some (lt9,true) := by kernel_rfl
noncomputable def lb9 : List (Nat × (List T → Option (T × Bool))) := (65,qJ la9 (lt9,true)) :: lb8
theorem lo9 : zL Tryz.prog (zR lb9) := zL.cons lo8 (zS (by kernel_rfl) zU lo8 pfs lr9) (by kernel_rfl)
noncomputable def la10 : List T := [(.ag [(sL [(i (-100)),(i 0),(i 100)]),(sL [(i 0),(i 10)]),(sL [(i 0)]),(.sl [(.v (.int .u8 0)),(i 0),(i 0),(.v (.int .u8 1)),(i 10),(i 20)] 2),(i 5),(i 50),(i 1),(.sl [(i 0),ff,(sL [(w 1)]),(sL [])] 1),(.sl [(i 0),ff,(sL [(w 1)]),(sL [])] 1),ff,(sL [(w 1)]),(sL [(w 10)]),ff,nl,nl,ff,nl,nl]),(i (-100)),(i 0),(i 0),(i 1)]
noncomputable def lt10 : T := (.tu [(.sl [(i 1),ff,(sL [(w 1)]),(sL [(w 2)]),(i 3),ff,(sL [(w 1)]),(sL [(w 2)])] 2),(i 0)])
theorem lr10 : zQ Tryz.prog (evC Tryz.prog skE (orF Tryz.prog (zR lb9) pfs) 1000) 0 130 la10 = some (lt10,true) := by kernel_rfl
noncomputable def qLx : List (Nat × (List T → Option (T × Bool))) := (130,qJ la10 (lt10,true)) :: lb9
theorem lo10 : zL Tryz.prog (zR qLx) := zL.cons lo9 (zS (by kernel_rfl) zU lo9 pfs lr10) (by kernel_rfl)
noncomputable def la11 : List T := [(.ag [(sL [(i (-100)),(i 0),(i 100)]),(sL [(i 0),(i 10)]),(sL [(i 0)]),(.sl [(.v (.int .u8 0)),(i 0),(i 0),(.v (.int .u8 1)),(i 10),(i 20)] 2),(i 5),(i 50),(i 1),(.sl [(i 0),ff,(sL [(w 1)]),(sL [])] 1),(.sl [(i 0),ff,(sL [(w 1)]),(sL [])] 1),ff,(sL [(w 1)]),(sL [(w 10)]),ff,nl,nl,ff,nl,nl]),(i 1),(i 0)]
noncomputable def lt11 : T := (.tu [(.ag [ff,nl,nl]),(i 0)])
theorem qOr : zQ Tryz.prog (evC Tryz.prog skE (orF Tryz.prog (zR qLx) pfs) 1000) 0 129 la11 = some (lt11,true) := by kernel_rfl
noncomputable def qLy : List (Nat × (List T → Option (T × Bool))) := (129,qJ la11 (lt11,true)) :: qLx
theorem lo11 : zL Tryz.prog (zR qLy) := zL.cons lo10 (zS (by kernel_rfl) zU lo10 pfs qOr) (by kernel_rfl)
noncomputable def la12 : List T := [(.ag [(sL [(i (-100)),(i 0),(i 100)]),(sL [(i 0),(i 10)]),(sL [(i 0)]),(.sl [(.v (.int .u8 0)),(i 0),(i 0),(.v (.int .u8 1)),(i 10),(i 20)] 2),(i 5),(i 50),(i 1),(.sl [(i 0),ff,(sL [(w 1)]),(sL [])] 1),(.sl [(i 0),ff,(sL [(w 1)]),(sL [])] 1),ff,(sL [(w 1)]),(sL [(w 10)]),ff,nl,nl,ff,nl,nl]),(i 1),(i 1)]
noncomputable def lt12 : T := (.tu [(.ag [ff,(sL [(w 1)]),(sL [(w 10)])]),(i 0)])
theorem lr12 : zQ Tryz.prog (evC Tryz.prog skE (orF Tryz.prog (zR qLy) pfs) 1000) 0 129 la12 = some (lt12,true) := by kernel_rfl
noncomputable def qLz : List (Nat × (List T → Option (T × Bool))) := (129,qJ la12 (lt12,true)) :: qLy
theorem lo12 : zL Tryz.prog (zR qLz) := zL.cons lo11 (zS (by kernel_rfl) zU lo11 pfs lr12) (by kernel_rfl)
noncomputable def la13 : List T := [(sL [(sL [(i (-100)),(i 0),(i 100)]),(sL [(i 0),(i 10)]),(sL [(i 0)])]),(i 1)]
noncomputable def lt13 : T := (.tu [(sL [(i (-100)),(i 10),(i 0)]),(i 0)])
theorem lr13 : zQ Tryz.prog (evC Tryz.prog skE (orF Tryz.prog (zR qLz) pfs) 1000) 0 24 la13 = some (lt13,true) := by kernel_rfl
noncomputable def qMa : List (Nat × (List T → Option (T × Bool))) := (24,qJ la13 (lt13,true)) :: qLz
theorem lo13 : zL Tryz.prog (zR qMa) := zL.cons lo12 (zS (by kernel_rfl) zU lo12 pfs lr13) (by kernel_rfl)
noncomputable def la14 : List T := [(sL [(sL [(i (-100)),(i 0),(i 100)]),(sL [(i 0),(i 10)]),(sL [(i 0)])]),(sL [(i (-110)),(i 10),(i 0)])]
noncomputable def lt14 : T := (.tu [(.sl [(i 1),ff,(sL [(w 1)]),(sL [])] 1),(i 0)])
theorem lr14 : zQ Tryz.prog (evC Tryz.prog skE (orF Tryz.prog (zR qMa) pfs) 1000) 0 65 la14 = some (lt14,true) := by kernel_rfl
noncomputable def qMb : List (Nat × (List T → Option (T × Bool))) := (65,qJ la14 (lt14,true)) :: qMa
theorem lo14 : zL Tryz.prog (zR qMb) := zL.cons lo13 (zS (by kernel_rfl) zU lo13 pfs lr14) (by kernel_rfl)
noncomputable def la15 : List T := [(.ag [(sL [(i (-100)),(i 0),(i 100)]),(sL [(i 0),(i 10)]),(sL [(i 0)]),(.sl [(.v (.int .u8 0)),(i 0),(i 0),(.v (.int .u8 1)),(i 10),(i 20)] 2),(i 5),(i 50),(i 1),(.sl [(i 0),ff,(sL [(w 1)]),(sL [])] 1),(.sl [(i 0),ff,(sL [(w 1)]),(sL [])] 1),ff,(sL [(w 1)]),(sL [(w 10)]),ff,nl,nl,ff,nl,nl]),(i (-100)),(i 10),(i 0),(i 0)]
noncomputable def lt15 : T := (.tu [(.sl [(i 2),ff,(sL [(w 1)]),(sL [])] 1),(i 0)])
theorem lr15 : zQ Tryz.prog (evC Tryz.prog skE (orF Tryz.prog (zR qMb) pfs) 1000) 0 130 la15 = some (lt15,true) := by kernel_rfl
noncomputable def qMc : List (Nat × (List T → Option (T × Bool))) := (130,qJ la15 (lt15,true)) :: qMb
theorem lo15 : zL Tryz.prog (zR qMc) := zL.cons lo14 (zS (by kernel_rfl) zU lo14 pfs lr15) (by kernel_rfl)
noncomputable def la16 : List T := [(.ag [(sL [(i (-100)),(i 0),(i 100)]),(sL [(i 0),(i 10)]),(sL [(i 0)]),(.sl [(.v (.int .u8 0)),(i 0),(i 0),(.v (.int .u8 1)),(i 10),(i 20)] 2),(i 5),(i 50),(i 1),(.sl [(i 0),ff,(sL [(w 1)]),(sL [])] 1),(.sl [(i 0),ff,(sL [(w 1)]),(sL [])] 1),ff,(sL [(w 1)]),(sL [(w 10)]),ff,nl,nl,ff,nl,nl]),(i (-100)),(i 10),(i 0),(i 1)]
noncomputable def lt16 : T := (.tu [(.sl [(i 3),ff,(sL [(w 1)]),(sL [])] 1),(i 0)])
theorem lr16 : zQ Tryz.prog (evC Tryz.prog skE (orF Tryz.prog (zR qMc) pfs) 1000) 0 130 la16 = some (lt16,true) := by kernel_rfl
noncomputable def qMd : List (Nat × (List T → Option (T × Bool))) := (130,qJ la16 (lt16,true)) :: qMc
theorem lo16 : zL Tryz.prog (zR qMd) := zL.cons lo15 (zS (by kernel_rfl) zU lo15 pfs lr16) (by kernel_rfl)
noncomputable def la17 : List T := [(sL [(sL [(i (-100)),(i 0),(i 100)]),(sL [(i 0),(i 10)]),(sL [(i 0)])]),(i 2)]
noncomputable def lt17 : T := (.tu [(sL [(i 0),(i 0),(i 0)]),(i 0)])
theorem lr17 : zQ Tryz.prog (evC Tryz.prog skE (orF Tryz.prog (zR qMd) pfs) 1000) 0 24 la17 = some (lt17,true) := by kernel_rfl
noncomputable def qMe : List (Nat × (List T → Option (T × Bool))) := (24,qJ la17 (lt17,true)) :: qMd
theorem lo17 : zL Tryz.prog (zR qMe) := zL.cons lo16 (zS (by kernel_rfl) zU lo16 pfs lr17) (by kernel_rfl)
noncomputable def la18 : List T := [(sL [(sL [(i (-100)),(i 0),(i 100)]),(sL [(i 0),(i 10)]),(sL [(i 0)])]),(sL [(i 0),(i 0),(i 0)])]
noncomputable def lt18 : T := (.tu [(.sl [(i 2),ff,(sL [(w 1)]),(sL [])] 1),(i 0)])
theorem lr18 : zQ Tryz.prog (evC Tryz.prog skE (orF Tryz.prog (zR qMe) pfs) 1000) 0 65 la18 = some (lt18,true) := by kernel_rfl
noncomputable def qMf : List (Nat × (List T → Option (T × Bool))) := (65,qJ la18 (lt18,true)) :: qMe
theorem lo18 : zL Tryz.prog (zR qMf) := zL.cons lo17 (zS (by kernel_rfl) zU lo17 pfs lr18) (by kernel_rfl)
noncomputable def la19 : List T := [(.ag [(sL [(i (-100)),(i 0),(i 100)]),(sL [(i 0),(i 10)]),(sL [(i 0)]),(.sl [(.v (.int .u8 0)),(i 0),(i 0),(.v (.int .u8 1)),(i 10),(i 20)] 2),(i 5),(i 50),(i 1),(.sl [(i 0),ff,(sL [(w 1)]),(sL [])] 1),(.sl [(i 0),ff,(sL [(w 1)]),(sL [])] 1),ff,(sL [(w 1)]),(sL [(w 10)]),ff,nl,nl,ff,nl,nl]),(i 0),(i 0),(i 0),(i 0)]
noncomputable def lt19 : T := (.tu [(.sl [(i 4),ff,(sL [(w 1)]),(sL [])] 1),(i 0)])
theorem lr19 : zQ Tryz.prog (evC Tryz.prog skE (orF Tryz.prog (zR qMf) pfs) 1000) 0 130 la19 = some (lt19,true) := by kernel_rfl
noncomputable def qMg : List (Nat × (List T → Option (T × Bool))) := (130,qJ la19 (lt19,true)) :: qMf
theorem lo19 : zL Tryz.prog (zR qMg) := zL.cons lo18 (zS (by kernel_rfl) zU lo18 pfs lr19) (by kernel_rfl)
noncomputable def la20 : List T := [(sL [(sL [(i (-100)),(i 0),(i 100)]),(sL [(i 0),(i 10)]),(sL [(i 0)])]),(sL [(i 0),(i 5),(i 0)])]
noncomputable def lt20 : T := (.tu [(.sl [(i 2),ff,(sL [(w 1)]),(sL [(w 2)]),(i 3),ff,(sL [(w 1)]),(sL [(w 2)])] 2),(i 0)])
theorem lr20 : zQ Tryz.prog (evC Tryz.prog skE (orF Tryz.prog (zR qMg) pfs) 1000) 0 65 la20 = some (lt20,true) := by kernel_rfl
noncomputable def qMh : List (Nat × (List T → Option (T × Bool))) := (65,qJ la20 (lt20,true)) :: qMg
theorem lo20 : zL Tryz.prog (zR qMh) := zL.cons lo19 (zS (by kernel_rfl) zU lo19 pfs lr20) (by kernel_rfl)
noncomputable def la21 : List T := [(.ag [(sL [(i (-100)),(i 0),(i 100)]),(sL [(i 0),(i 10)]),(sL [(i 0)]),(.sl [(.v (.int .u8 0)),(i 0),(i 0),(.v (.int .u8 1)),(i 10),(i 20)] 2),(i 5),(i 50),(i 1),(.sl [(i 0),ff,(sL [(w 1)]),(sL [])] 1),(.sl [(i 0),ff,(sL [(w 1)]),(sL [])] 1),ff,(sL [(w 1)]),(sL [(w 10)]),ff,nl,nl,ff,nl,nl]),(i 0),(i 0),(i 0),(i 1)]
noncomputable def lt21 : T := (.tu [(.sl [(i 5),ff,(sL [(w 1)]),(sL [(w 2)]),(i 7),ff,(sL [(w 1)]),(sL [(w 2)])] 2),(i 0)])
theorem lr21 : zQ Tryz.prog (evC Tryz.prog skE (orF Tryz.prog (zR qMh) pfs) 1000) 0 130 la21 = some (lt21,true) := by kernel_rfl
noncomputable def qMi : List (Nat × (List T → Option (T × Bool))) := (130,qJ la21 (lt21,true)) :: qMh
theorem lo21 : zL Tryz.prog (zR qMi) := zL.cons lo20 (zS (by kernel_rfl) zU lo20 pfs lr21) (by kernel_rfl)
noncomputable def la22 : List T := [(sL [(sL [(i (-100)),(i 0),(i 100)]),(sL [(i 0),(i 10)]),(sL [(i 0)])]),(i 3)]
noncomputable def lt22 : T := (.tu [(sL [(i 0),(i 10),(i 0)]),(i 0)])
theorem lr22 : zQ Tryz.prog (evC Tryz.prog skE (orF Tryz.prog (zR qMi) pfs) 1000) 0 24 la22 = some (lt22,true) := by kernel_rfl
noncomputable def qMj : List (Nat × (List T → Option (T × Bool))) := (24,qJ la22 (lt22,true)) :: qMi
theorem lo22 : zL Tryz.prog (zR qMj) := zL.cons lo21 (zS (by kernel_rfl) zU lo21 pfs lr22) (by kernel_rfl)
noncomputable def la23 : List T := [(sL [(sL [(i (-100)),(i 0),(i 100)]),(sL [(i 0),(i 10)]),(sL [(i 0)])]),(sL [(i (-10)),(i 10),(i 0)])]
noncomputable def lt23 : T := (.tu [(.sl [(i 1),ff,(sL [(w 1)]),(sL [(w 10)]),(i 3),ff,(sL [(w 9)]),(sL [(w 10)])] 2),(i 0)])
theorem lr23 : zQ Tryz.prog (evC Tryz.prog skE (orF Tryz.prog (zR qMj) pfs) 1000) 0 65 la23 = some (lt23,true) := by kernel_rfl
noncomputable def qMk : List (Nat × (List T → Option (T × Bool))) := (65,qJ la23 (lt23,true)) :: qMj
theorem lo23 : zL Tryz.prog (zR qMk) := zL.cons lo22 (zS (by kernel_rfl) zU lo22 pfs lr23) (by kernel_rfl)
noncomputable def la24 : List T := [(.ag [(sL [(i (-100)),(i 0),(i 100)]),(sL [(i 0),(i 10)]),(sL [(i 0)]),(.sl [(.v (.int .u8 0)),(i 0),(i 0),(.v (.int .u8 1)),(i 10),(i 20)] 2),(i 5),(i 50),(i 1),(.sl [(i 0),ff,(sL [(w 1)]),(sL [])] 1),(.sl [(i 0),ff,(sL [(w 1)]),(sL [])] 1),ff,(sL [(w 1)]),(sL [(w 10)]),ff,nl,nl,ff,nl,nl]),(i 0),(i 10),(i 0),(i 0)]
noncomputable def lt24 : T := (.tu [(.sl [(i 2),ff,(sL [(w 1)]),(sL [(w 10)]),(i 6),ff,(sL [(w 9)]),(sL [(w 10)])] 2),(i 0)])
theorem lr24 : zQ Tryz.prog (evC Tryz.prog skE (orF Tryz.prog (zR qMk) pfs) 1000) 0 130 la24 = some (lt24,true) := by kernel_rfl
noncomputable def qMl : List (Nat × (List T → Option (T × Bool))) := (130,qJ la24 (lt24,true)) :: qMk
theorem lo24 : zL Tryz.prog (zR qMl) := zL.cons lo23 (zS (by kernel_rfl) zU lo23 pfs lr24) (by kernel_rfl)
noncomputable def la25 : List T := [(.ag [(sL [(i (-100)),(i 0),(i 100)]),(sL [(i 0),(i 10)]),(sL [(i 0)]),(.sl [(.v (.int .u8 0)),(i 0),(i 0),(.v (.int .u8 1)),(i 10),(i 20)] 2),(i 5),(i 50),(i 1),(.sl [(i 0),ff,(sL [(w 1)]),(sL [])] 1),(.sl [(i 0),ff,(sL [(w 1)]),(sL [])] 1),ff,(sL [(w 1)]),(sL [(w 10)]),ff,nl,nl,ff,nl,nl]),(i 0),(i 10),(i 0),(i 1)]
noncomputable def lt25 : T := (.tu [(.sl [(i 3),ff,(sL [(w 1)]),(sL [(w 10)]),(i 7),ff,(sL [(w 9)]),(sL [(w 10)])] 2),(i 0)])
theorem lr25 : zQ Tryz.prog (evC Tryz.prog skE (orF Tryz.prog (zR qMl) pfs) 1000) 0 130 la25 = some (lt25,true) := by kernel_rfl
noncomputable def qMm : List (Nat × (List T → Option (T × Bool))) := (130,qJ la25 (lt25,true)) :: qMl
theorem lo25 : zL Tryz.prog (zR qMm) := zL.cons lo24 (zS (by kernel_rfl) zU lo24 pfs lr25) (by kernel_rfl)
noncomputable def la26 : List T := [(sL [(sL [(i (-100)),(i 0),(i 100)]),(sL [(i 0),(i 10)]),(sL [(i 0)])]),(i 4)]
noncomputable def lt26 : T := (.tu [(sL [(i 100),(i 0),(i 0)]),(i 0)])
theorem lr26 : zQ Tryz.prog (evC Tryz.prog skE (orF Tryz.prog (zR qMm) pfs) 1000) 0 24 la26 = some (lt26,true) := by kernel_rfl
noncomputable def qMn : List (Nat × (List T → Option (T × Bool))) := (24,qJ la26 (lt26,true)) :: qMm
theorem lo26 : zL Tryz.prog (zR qMn) := zL.cons lo25 (zS (by kernel_rfl) zU lo25 pfs lr26) (by kernel_rfl)
noncomputable def la27 : List T := [(sL [(sL [(i (-100)),(i 0),(i 100)]),(sL [(i 0),(i 10)]),(sL [(i 0)])]),(sL [(i 100),(i 0),(i 0)])]
noncomputable def lt27 : T := (.tu [(.sl [(i 4),ff,(sL [(w 1)]),(sL [])] 1),(i 0)])
theorem lr27 : zQ Tryz.prog (evC Tryz.prog skE (orF Tryz.prog (zR qMn) pfs) 1000) 0 65 la27 = some (lt27,true) := by kernel_rfl
noncomputable def qMo : List (Nat × (List T → Option (T × Bool))) := (65,qJ la27 (lt27,true)) :: qMn
theorem lo27 : zL Tryz.prog (zR qMo) := zL.cons lo26 (zS (by kernel_rfl) zU lo26 pfs lr27) (by kernel_rfl)
noncomputable def la28 : List T := [(.ag [(sL [(i (-100)),(i 0),(i 100)]),(sL [(i 0),(i 10)]),(sL [(i 0)]),(.sl [(.v (.int .u8 0)),(i 0),(i 0),(.v (.int .u8 1)),(i 10),(i 20)] 2),(i 5),(i 50),(i 1),(.sl [(i 0),ff,(sL [(w 1)]),(sL [])] 1),(.sl [(i 0),ff,(sL [(w 1)]),(sL [])] 1),ff,(sL [(w 1)]),(sL [(w 10)]),ff,nl,nl,ff,nl,nl]),(i 100),(i 0),(i 0),(i 0)]
noncomputable def lt28 : T := (.tu [(.sl [(i 8),ff,(sL [(w 1)]),(sL [])] 1),(i 0)])
theorem lr28 : zQ Tryz.prog (evC Tryz.prog skE (orF Tryz.prog (zR qMo) pfs) 1000) 0 130 la28 = some (lt28,true) := by kernel_rfl
noncomputable def qMp : List (Nat × (List T → Option (T × Bool))) := (130,qJ la28 (lt28,true)) :: qMo
theorem lo28 : zL Tryz.prog (zR qMp) := zL.cons lo27 (zS (by kernel_rfl) zU lo27 pfs lr28) (by kernel_rfl)
noncomputable def la29 : List T := [(sL [(sL [(i (-100)),(i 0),(i 100)]),(sL [(i 0),(i 10)]),(sL [(i 0)])]),(sL [(i 100),(i 5),(i 0)])]
noncomputable def lt29 : T := (.tu [(.sl [(i 4),ff,(sL [(w 1)]),(sL [(w 2)]),(i 5),ff,(sL [(w 1)]),(sL [(w 2)])] 2),(i 0)])
theorem lr29 : zQ Tryz.prog (evC Tryz.prog skE (orF Tryz.prog (zR qMp) pfs) 1000) 0 65 la29 = some (lt29,true) := by kernel_rfl
noncomputable def qMq : List (Nat × (List T → Option (T × Bool))) := (65,qJ la29 (lt29,true)) :: qMp
theorem lo29 : zL Tryz.prog (zR qMq) := zL.cons lo28 (zS (by kernel_rfl) zU lo28 pfs lr29) (by kernel_rfl)
noncomputable def la30 : List T := [(.ag [(sL [(i (-100)),(i 0),(i 100)]),(sL [(i 0),(i 10)]),(sL [(i 0)]),(.sl [(.v (.int .u8 0)),(i 0),(i 0),(.v (.int .u8 1)),(i 10),(i 20)] 2),(i 5),(i 50),(i 1),(.sl [(i 0),ff,(sL [(w 1)]),(sL [])] 1),(.sl [(i 0),ff,(sL [(w 1)]),(sL [])] 1),ff,(sL [(w 1)]),(sL [(w 10)]),ff,nl,nl,ff,nl,nl]),(i 100),(i 0),(i 0),(i 1)]
noncomputable def lt30 : T := (.tu [(.sl [(i 9),ff,(sL [(w 1)]),(sL [(w 2)]),(i 11),ff,(sL [(w 1)]),(sL [(w 2)])] 2),(i 0)])
theorem lr30 : zQ Tryz.prog (evC Tryz.prog skE (orF Tryz.prog (zR qMq) pfs) 1000) 0 130 la30 = some (lt30,true) := by kernel_rfl
noncomputable def qMr : List (Nat × (List T → Option (T × Bool))) := (130,qJ la30 (lt30,true)) :: qMq
theorem lo30 : zL Tryz.prog (zR qMr) := zL.cons lo29 (zS (by kernel_rfl) zU lo29 pfs lr30) (by kernel_rfl)
noncomputable def la31 : List T := [(sL [(sL [(i (-100)),(i 0),(i 100)]),(sL [(i 0),(i 10)]),(sL [(i 0)])]),(i 5)]
noncomputable def lt31 : T := (.tu [(sL [(i 100),(i 10),(i 0)]),(i 0)])
theorem lr31 : zQ Tryz.prog (evC Tryz.prog skE (orF Tryz.prog (zR qMr) pfs) 1000) 0 24 la31 = some (lt31,true) := by kernel_rfl
noncomputable def qMs : List (Nat × (List T → Option (T × Bool))) := (24,qJ la31 (lt31,true)) :: qMr
theorem lo31 : zL Tryz.prog (zR qMs) := zL.cons lo30 (zS (by kernel_rfl) zU lo30 pfs lr31) (by kernel_rfl)
noncomputable def la32 : List T := [(sL [(sL [(i (-100)),(i 0),(i 100)]),(sL [(i 0),(i 10)]),(sL [(i 0)])]),(sL [(i 90),(i 10),(i 0)])]
noncomputable def lt32 : T := (.tu [(.sl [(i 3),ff,(sL [(w 1)]),(sL [(w 10)]),(i 5),ff,(sL [(w 9)]),(sL [(w 10)])] 2),(i 0)])
theorem lr32 : zQ Tryz.prog (evC Tryz.prog skE (orF Tryz.prog (zR qMs) pfs) 1000) 0 65 la32 = some (lt32,true) := by kernel_rfl
noncomputable def qMt : List (Nat × (List T → Option (T × Bool))) := (65,qJ la32 (lt32,true)) :: qMs
theorem lo32 : zL Tryz.prog (zR qMt) := zL.cons lo31 (zS (by kernel_rfl) zU lo31 pfs lr32) (by kernel_rfl)
noncomputable def la33 : List T := [(.ag [(sL [(i (-100)),(i 0),(i 100)]),(sL [(i 0),(i 10)]),(sL [(i 0)]),(.sl [(.v (.int .u8 0)),(i 0),(i 0),(.v (.int .u8 1)),(i 10),(i 20)] 2),(i 5),(i 50),(i 1),(.sl [(i 0),ff,(sL [(w 1)]),(sL [])] 1),(.sl [(i 0),ff,(sL [(w 1)]),(sL [])] 1),ff,(sL [(w 1)]),(sL [(w 10)]),ff,nl,nl,ff,nl,nl]),(i 100),(i 10),(i 0),(i 0)]
noncomputable def lt33 : T := (.tu [(.sl [(i 6),ff,(sL [(w 1)]),(sL [(w 10)]),(i 10),ff,(sL [(w 9)]),(sL [(w 10)])] 2),(i 0)])
theorem lr33 : zQ Tryz.prog (evC Tryz.prog skE (orF Tryz.prog (zR qMt) pfs) 1000) 0 130 la33 = some (lt33,true) := by kernel_rfl
noncomputable def qMu : List (Nat × (List T → Option (T × Bool))) := (130,qJ la33 (lt33,true)) :: qMt
theorem lo33 : zL Tryz.prog (zR qMu) := zL.cons lo32 (zS (by kernel_rfl) zU lo32 pfs lr33) (by kernel_rfl)
noncomputable def la34 : List T := [(.ag [(sL [(i (-100)),(i 0),(i 100)]),(sL [(i 0),(i 10)]),(sL [(i 0)]),(.sl [(.v (.int .u8 0)),(i 0),(i 0),(.v (.int .u8 1)),(i 10),(i 20)] 2),(i 5),(i 50),(i 1),(.sl [(i 0),ff,(sL [(w 1)]),(sL [])] 1),(.sl [(i 0),ff,(sL [(w 1)]),(sL [])] 1),ff,(sL [(w 1)]),(sL [(w 10)]),ff,nl,nl,ff,nl,nl]),(i 100),(i 10),(i 0),(i 1)]
noncomputable def lt34 : T := (.tu [(.sl [(i 7),ff,(sL [(w 1)]),(sL [(w 10)]),(i 11),ff,(sL [(w 9)]),(sL [(w 10)])] 2),(i 0)])
theorem lr34 : zQ Tryz.prog (evC Tryz.prog skE (orF Tryz.prog (zR qMu) pfs) 1000) 0 130 la34 = some (lt34,true) := by kernel_rfl
noncomputable def qMv : List (Nat × (List T → Option (T × Bool))) := (130,qJ la34 (lt34,true)) :: qMu
theorem lo34 : zL Tryz.prog (zR qMv) := zL.cons lo33 (zS (by kernel_rfl) zU lo33 pfs lr34) (by kernel_rfl)
noncomputable def la35 : List T := [(.ag [(sL [(i (-100)),(i 0),(i 100)]),(sL [(i 0),(i 10)]),(sL [(i 0)]),(.sl [(.v (.int .u8 0)),(i 0),(i 0),(.v (.int .u8 1)),(i 10),(i 20)] 2),(i 5),(i 50),(i 1),(.sl [(i 0),ff,(sL [(w 1)]),(sL [])] 1),(.sl [(i 0),ff,(sL [(w 1)]),(sL [])] 1),ff,(sL [(w 1)]),(sL [(w 10)]),ff,nl,nl,ff,nl,nl])]
noncomputable def lt35 : T := (.tu [(.ag [ff,(sL [(w 1)]),(sL []),(sL [(.sl [ff,nl,nl,(.sl [(i 0),ff,(sL [(w 1)]),(sL [])] 1),ff,(sL [(w 1)]),(sL [(w 10)]),(.sl [(i 1),ff,(sL [(w 1)]),(sL [(w 2)]),(i 3),ff,(sL [(w 1)]),(sL [(w 2)])] 2)] 2),(.sl [ff,nl,nl,(.sl [(i 0),ff,(sL [(w 1)]),(sL [])] 1),ff,(sL [(w 1)]),(sL [(w 10)]),(.sl [(i 1),ff,(sL [(w 1)]),(sL [(w 2)]),(i 3),ff,(sL [(w 1)]),(sL [(w 2)])] 2)] 2),(.sl [ff,nl,nl,(.sl [(i 2),ff,(sL [(w 1)]),(sL [])] 1),ff,(sL [(w 1)]),(sL [(w 10)]),(.sl [(i 3),ff,(sL [(w 1)]),(sL [])] 1)] 2),(.sl [ff,nl,nl,(.sl [(i 2),ff,(sL [(w 1)]),(sL [])] 1),ff,(sL [(w 1)]),(sL [(w 10)]),(.sl [(i 3),ff,(sL [(w 1)]),(sL [])] 1)] 2),(.sl [ff,nl,nl,(.sl [(i 4),ff,(sL [(w 1)]),(sL [])] 1),ff,(sL [(w 1)]),(sL [(w 10)]),(.sl [(i 5),ff,(sL [(w 1)]),(sL [(w 2)]),(i 7),ff,(sL [(w 1)]),(sL [(w 2)])] 2)] 2),(.sl [ff,nl,nl,(.sl [(i 4),ff,(sL [(w 1)]),(sL [])] 1),ff,(sL [(w 1)]),(sL [(w 10)]),(.sl [(i 5),ff,(sL [(w 1)]),(sL [(w 2)]),(i 7),ff,(sL [(w 1)]),(sL [(w 2)])] 2)] 2),(.sl [ff,nl,nl,(.sl [(i 2),ff,(sL [(w 1)]),(sL [(w 10)]),(i 6),ff,(sL [(w 9)]),(sL [(w 10)])] 2),ff,(sL [(w 1)]),(sL [(w 10)]),(.sl [(i 3),ff,(sL [(w 1)]),(sL [(w 10)]),(i 7),ff,(sL [(w 9)]),(sL [(w 10)])] 2)] 2),(.sl [ff,nl,nl,(.sl [(i 2),ff,(sL [(w 1)]),(sL [(w 10)]),(i 6),ff,(sL [(w 9)]),(sL [(w 10)])] 2),ff,(sL [(w 1)]),(sL [(w 10)]),(.sl [(i 3),ff,(sL [(w 1)]),(sL [(w 10)]),(i 7),ff,(sL [(w 9)]),(sL [(w 10)])] 2)] 2),(.sl [ff,nl,nl,(.sl [(i 8),ff,(sL [(w 1)]),(sL [])] 1),ff,(sL [(w 1)]),(sL [(w 10)]),(.sl [(i 9),ff,(sL [(w 1)]),(sL [(w 2)]),(i 11),ff,(sL [(w 1)]),(sL [(w 2)])] 2)] 2),(.sl [ff,nl,nl,(.sl [(i 8),ff,(sL [(w 1)]),(sL [])] 1),ff,(sL [(w 1)]),(sL [(w 10)]),(.sl [(i 9),ff,(sL [(w 1)]),(sL [(w 2)]),(i 11),ff,(sL [(w 1)]),(sL [(w 2)])] 2)] 2),(.sl [ff,nl,nl,(.sl [(i 6),ff,(sL [(w 1)]),(sL [(w 10)]),(i 10),ff,(sL [(w 9)]),(sL [(w 10)])] 2),ff,(sL [(w 1)]),(sL [(w 10)]),(.sl [(i 7),ff,(sL [(w 1)]),(sL [(w 10)]),(i 11),ff,(sL [(w 9)]),(sL [(w 10)])] 2)] 2),(.sl [ff,nl,nl,(.sl [(i 6),ff,(sL [(w 1)]),(sL [(w 10)]),(i 10),ff,(sL [(w 9)]),(sL [(w 10)])] 2),ff,(sL [(w 1)]),(sL [(w 10)]),(.sl [(i 7),ff,(sL [(w 1)]),(sL [(w 10)]),(i 11),ff,(sL [(w 9)]),(sL [(w 10)])] 2)] 2)])]),(i 0)])
theorem lr35 : zQ Tryz.prog (evC Tryz.prog skE (orF Tryz.prog (zR qMv) pfs) 1000) 0 78 la35 = some (lt35,true) := by kernel_rfl
noncomputable def qMw : List (Nat × (List T → Option (T × Bool))) := (78,qJ la35 (lt35,true)) :: qMv
theorem lo35 : zL Tryz.prog (zR qMw) := zL.cons lo34 (zS (by kernel_rfl) zU lo34 pfs lr35) (by kernel_rfl)
noncomputable def la36 : List T := [(.ag [(sL [(i (-100)),(i 0),(i 100)]),(sL [(i 0),(i 10)]),(sL [(i 0)]),(.sl [(.v (.int .u8 0)),(i 0),(i 0),(.v (.int .u8 1)),(i 10),(i 20)] 2),(i 5),(i 50),(i 1),(.sl [(i 0),ff,(sL [(w 1)]),(sL [])] 1),(.sl [(i 0),ff,(sL [(w 1)]),(sL [])] 1),ff,(sL [(w 1)]),(sL [(w 10)]),ff,nl,nl,ff,nl,nl])]
noncomputable def lt36 : T := (.tu [(.sl [ff,nl,nl,ff,nl,nl,ff,nl,nl,ff,nl,nl,ff,(sL [(w 1)]),(sL []),ff,(sL [(w 1)]),(sL []),ff,(sL [(w 1)]),(sL []),ff,(sL [(w 1)]),(sL []),ff,nl,nl,ff,nl,nl,ff,nl,nl,ff,nl,nl] 12),(i 0)])
theorem lr36 : zQ Tryz.prog (evC Tryz.prog skE (orF Tryz.prog (zR qMw) pfs) 1000) 0 80 la36 = some (lt36,true) := by kernel_rfl
noncomputable def qMx : List (Nat × (List T → Option (T × Bool))) := (80,qJ la36 (lt36,true)) :: qMw
theorem lo36 : zL Tryz.prog (zR qMx) := zL.cons lo35 (zS (by kernel_rfl) zU lo35 pfs lr36) (by kernel_rfl)
noncomputable def la37 : List T := [(.ag [(sL [(i (-100)),(i 0),(i 100)]),(sL [(i 0),(i 10)]),(sL [(i 0)]),(.sl [(.v (.int .u8 0)),(i 0),(i 0),(.v (.int .u8 1)),(i 10),(i 20)] 2),(i 5),(i 50),(i 1),(.sl [(i 0),ff,(sL [(w 1)]),(sL [])] 1),(.sl [(i 0),ff,(sL [(w 1)]),(sL [])] 1),ff,(sL [(w 1)]),(sL [(w 10)]),ff,nl,nl,ff,nl,nl])]
noncomputable def lt37 : T := (.ag [(sL [(i (-100)),(i 0),(i 100)]),(sL [(i 0),(i 10)]),(sL [(i 0)]),(.sl [(.v (.int .u8 0)),(i 0),(i 0),(.v (.int .u8 1)),(i 10),(i 20)] 2),(i 5),(i 50),(i 1),(.sl [(i 0),ff,(sL [(w 1)]),(sL [])] 1),(.sl [(i 0),ff,(sL [(w 1)]),(sL [])] 1),ff,(sL [(w 1)]),(sL [(w 10)]),ff,nl,nl,ff,nl,nl])
theorem lr37 : zQ Tryz.prog (evC Tryz.prog skE (orF Tryz.prog (zR qMx) pfs) 1000) 0 44 la37 = some (lt37,true) := by kernel_rfl
noncomputable def qMy : List (Nat × (List T → Option (T × Bool))) := (44,qJ la37 (lt37,true)) :: qMx
theorem lo37 : zL Tryz.prog (zR qMy) := zL.cons lo36 (zS (by kernel_rfl) zU lo36 pfs lr37) (by kernel_rfl)
noncomputable def la38 : List T := [(.ag [ff,(sL [(w 1)]),(sL [(w 10)]),(.sl [(i 1),ff,(sL [(w 1)]),(sL [(w 2)]),(i 3),ff,(sL [(w 1)]),(sL [(w 2)])] 2)]),(i 12)]
noncomputable def lt38 : T := (i 0)
theorem lr38 : zQ Tryz.prog (evC Tryz.prog skE (orF Tryz.prog (zR qMy) pfs) 1000) 0 204 la38 = some (lt38,true) := by kernel_rfl
noncomputable def qMz : List (Nat × (List T → Option (T × Bool))) := (204,qJ la38 (lt38,true)) :: qMy
theorem lo38 : zL Tryz.prog (zR qMz) := zL.cons lo37 (zS (by kernel_rfl) zU lo37 pfs lr38) (by kernel_rfl)
noncomputable def la39 : List T := [(.ag [ff,(sL [(w 1)]),(sL [(w 10)]),(.sl [(i 5),ff,(sL [(w 1)]),(sL [(w 2)]),(i 7),ff,(sL [(w 1)]),(sL [(w 2)])] 2)]),(i 12)]
noncomputable def lt39 : T := (i 0)
theorem lr39 : zQ Tryz.prog (evC Tryz.prog skE (orF Tryz.prog (zR qMz) pfs) 1000) 0 204 la39 = some (lt39,true) := by kernel_rfl
noncomputable def qNa : List (Nat × (List T → Option (T × Bool))) := (204,qJ la39 (lt39,true)) :: qMz
theorem lo39 : zL Tryz.prog (zR qNa) := zL.cons lo38 (zS (by kernel_rfl) zU lo38 pfs lr39) (by kernel_rfl)
end Go.Proofs.YtfijdjigiapnbaaGreatDoor

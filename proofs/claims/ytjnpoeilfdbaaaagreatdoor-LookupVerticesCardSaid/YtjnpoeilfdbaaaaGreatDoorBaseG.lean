import Derived.Test.YtjnpoeilfdbaaaaGreatDoorBaseF
set_option linter.unusedVariables false
set_option linter.unusedSimpArgs false
set_option linter.unnecessarySimpa false
namespace Go.Proofs.YtjnpoeilfdbaaaaGreatDoor
open Go Go.Gv Go.Ev IntKind
set_option maxRecDepth 1000000
noncomputable def pfs:List Nat:=[6,8,9,10,14,15,17,19,20,21,22,24,25,27,28,29,30,31,38,43,44,45,46,47,48,49,50,51,52,53,55,56,57,59,60,61,62,63,64,66,67,69,70,79,80,82,83,85,86,87,89,90,96,98,99,100,101,102,103,104,105,106,107,122,125,129,130,131,132,134,138,139,140,142,143,156,159]
noncomputable def i(n:Int):T:= .v (.int .i64 n)
noncomputable def w(n:Int):T:= .v (.int .u32 n)
noncomputable def tt:T:= .v (.bool true)
noncomputable def ff:T:= .v (.bool false)
noncomputable def nl:T:= .v (.slice none 0 0)
noncomputable def sL(l:List T):T:= .sl l l.length
noncomputable def la1:List T:=[(sL [(sL [(i (-100)),(i 0),(i 100)]),(sL [(i 0),(i 10)]),(sL [(i 0)])])]
noncomputable def lt1:T:=(i 0)
theorem lr1:zQ Tryz.prog (evC Tryz.prog skE (orF Tryz.prog (zR tb1) pfs) 1000) 0 59 la1=some (lt1,true):=by kernel_rfl
noncomputable def lb1:List (Nat×(List T→Option (T×Bool))):=(59,qM la1 (lt1,true))::tb1
theorem lo1:zL Tryz.prog (zR lb1):=zL.cons qHh (zS (by kernel_rfl) zW qHh pfs lr1) (by kernel_rfl)
noncomputable def la2:List T:=[(.sl [(i 0),ff,(sL [(w 1)]),(sL [])] 1)]
noncomputable def lt2:T:=(i 0)
theorem lr2:zQ Tryz.prog (evC Tryz.prog skE (orF Tryz.prog (zR lb1) pfs) 1000) 0 62 la2=some (lt2,true):=by kernel_rfl
noncomputable def lb2:List (Nat×(List T→Option (T×Bool))):=(62,qM la2 (lt2,true))::lb1
theorem lo2:zL Tryz.prog (zR lb2):=zL.cons lo1 (zS (by kernel_rfl) zW lo1 pfs lr2) (by kernel_rfl)
noncomputable def la3:List T:=[(.ag [(sL [(i (-100)),(i 0),(i 100)]),(sL [(i 0),(i 10)]),(sL [(i 0)]),(.sl [(.v (.int .u8 0)),(i 0),(i 0),(.v (.int .u8 1)),(i 10),(i 20)] 2),(i 5),(i 50),(i 1),(.sl [(i 0),ff,(sL [(w 1)]),(sL [])] 1),(.sl [(i 0),ff,(sL [(w 1)]),(sL [])] 1),ff,(sL [(w 1)]),(sL [(w 10)]),ff,nl,nl,ff,nl,nl])]
noncomputable def lt3:T:=(i 0)
theorem lr3:zQ Tryz.prog (evC Tryz.prog skE (orF Tryz.prog (zR lb2) pfs) 1000) 0 24 la3=some (lt3,true):=by kernel_rfl
noncomputable def lb3:List (Nat×(List T→Option (T×Bool))):=(24,qM la3 (lt3,true))::lb2
theorem lo3:zL Tryz.prog (zR lb3):=zL.cons lo2 (zS (by kernel_rfl) zW lo2 pfs lr3) (by kernel_rfl)
noncomputable def la4:List T:=[(sL [(sL [(i (-100)),(i 0),(i 100)]),(sL [(i 0),(i 10)]),(sL [(i 0)])]),(i 0)]
noncomputable def lt4:T:=(.tu [(sL [(i (-100)),(i 0),(i 0)]),(i 0)])
theorem lr4:zQ Tryz.prog (evC Tryz.prog skE (orF Tryz.prog (zR lb3) pfs) 1000) 0 9 la4=some (lt4,true):=by kernel_rfl
noncomputable def lb4:List (Nat×(List T→Option (T×Bool))):=(9,qM la4 (lt4,true))::lb3
theorem lo4:zL Tryz.prog (zR lb4):=zL.cons lo3 (zS (by kernel_rfl) zW lo3 pfs lr4) (by kernel_rfl)
noncomputable def la5:List T:=[(.ag [(sL [(i (-100)),(i 0),(i 100)]),(sL [(i 0),(i 10)]),(sL [(i 0)]),(.sl [(.v (.int .u8 0)),(i 0),(i 0),(.v (.int .u8 1)),(i 10),(i 20)] 2),(i 5),(i 50),(i 1),(.sl [(i 0),ff,(sL [(w 1)]),(sL [])] 1),(.sl [(i 0),ff,(sL [(w 1)]),(sL [])] 1),ff,(sL [(w 1)]),(sL [(w 10)]),ff,nl,nl,ff,nl,nl]),(i 0),(i 0)]
noncomputable def lt5:T:=(.tu [(.ag [ff,nl,nl]),(i 0)])
theorem lr5:zQ Tryz.prog (evC Tryz.prog skE (orF Tryz.prog (zR lb4) pfs) 1000) 0 79 la5=some (lt5,true):=by kernel_rfl
noncomputable def lb5:List (Nat×(List T→Option (T×Bool))):=(79,qM la5 (lt5,true))::lb4
theorem lo5:zL Tryz.prog (zR lb5):=zL.cons lo4 (zS (by kernel_rfl) zW lo4 pfs lr5) (by kernel_rfl)
noncomputable def la6:List T:=[(sL [(sL [(i (-100)),(i 0),(i 100)]),(sL [(i 0),(i 10)]),(sL [(i 0)])]),(sL [(i (-100)),(i 0),(i 0)])]
noncomputable def lt6:T:=(.tu [(.sl [(i 0),ff,(sL [(w 1)]),(sL [])] 1),(i 0)])
theorem lr6:zQ Tryz.prog (evC Tryz.prog skE (orF Tryz.prog (zR lb5) pfs) 1000) 0 28 la6=some (lt6,true):=by kernel_rfl
noncomputable def lb6:List (Nat×(List T→Option (T×Bool))):=(28,qM la6 (lt6,true))::lb5
theorem lo6:zL Tryz.prog (zR lb6):=zL.cons lo5 (zS (by kernel_rfl) zW lo5 pfs lr6) (by kernel_rfl)
noncomputable def la7:List T:=[(.ag [(sL [(i (-100)),(i 0),(i 100)]),(sL [(i 0),(i 10)]),(sL [(i 0)]),(.sl [(.v (.int .u8 0)),(i 0),(i 0),(.v (.int .u8 1)),(i 10),(i 20)] 2),(i 5),(i 50),(i 1),(.sl [(i 0),ff,(sL [(w 1)]),(sL [])] 1),(.sl [(i 0),ff,(sL [(w 1)]),(sL [])] 1),ff,(sL [(w 1)]),(sL [(w 10)]),ff,nl,nl,ff,nl,nl]),(i (-100)),(i 0),(i 0),(i 0)]
noncomputable def lt7:T:=(.tu [(.sl [(i 0),ff,(sL [(w 1)]),(sL [])] 1),(i 0)])
theorem lr7:zQ Tryz.prog (evC Tryz.prog skE (orF Tryz.prog (zR lb6) pfs) 1000) 0 80 la7=some (lt7,true):=by kernel_rfl
noncomputable def lb7:List (Nat×(List T→Option (T×Bool))):=(80,qM la7 (lt7,true))::lb6
theorem lo7:zL Tryz.prog (zR lb7):=zL.cons lo6 (zS (by kernel_rfl) zW lo6 pfs lr7) (by kernel_rfl)
noncomputable def la8:List T:=[(.ag [(sL [(i (-100)),(i 0),(i 100)]),(sL [(i 0),(i 10)]),(sL [(i 0)]),(.sl [(.v (.int .u8 0)),(i 0),(i 0),(.v (.int .u8 1)),(i 10),(i 20)] 2),(i 5),(i 50),(i 1),(.sl [(i 0),ff,(sL [(w 1)]),(sL [])] 1),(.sl [(i 0),ff,(sL [(w 1)]),(sL [])] 1),ff,(sL [(w 1)]),(sL [(w 10)]),ff,nl,nl,ff,nl,nl]),(i 0),(i 1)]
noncomputable def lt8:T:=(.tu [(.ag [ff,(sL [(w 1)]),(sL [(w 10)])]),(i 0)])
theorem lr8:zQ Tryz.prog (evC Tryz.prog skE (orF Tryz.prog (zR lb7) pfs) 1000) 0 79 la8=some (lt8,true):=by kernel_rfl
noncomputable def lb8:List (Nat×(List T→Option (T×Bool))):=(79,qM la8 (lt8,true))::lb7
theorem lo8:zL Tryz.prog (zR lb8):=zL.cons lo7 (zS (by kernel_rfl) zW lo7 pfs lr8) (by kernel_rfl)
noncomputable def la9:List T:=[(sL [(sL [(i (-100)),(i 0),(i 100)]),(sL [(i 0),(i 10)]),(sL [(i 0)])]),(sL [(i (-100)),(i 5),(i 0)])]
noncomputable def lt9:T:=(.tu [(.sl [(i 0),ff,(sL [(w 1)]),(sL [(w 2)]),(i 1),ff,(sL [(w 1)]),(sL [(w 2)])] 2),(i 0)])
theorem lr9:zQ Tryz.prog (evC Tryz.prog skE (orF Tryz.prog (zR lb8) pfs) 1000) 0 28 la9=some (lt9,true):=by kernel_rfl
noncomputable def lb9:List (Nat×(List T→Option (T×Bool))):=(28,qM la9 (lt9,true))::lb8
theorem lo9:zL Tryz.prog (zR lb9):=zL.cons lo8 (zS (by kernel_rfl) zW lo8 pfs lr9) (by kernel_rfl)
noncomputable def la10:List T:=[(.ag [(sL [(i (-100)),(i 0),(i 100)]),(sL [(i 0),(i 10)]),(sL [(i 0)]),(.sl [(.v (.int .u8 0)),(i 0),(i 0),(.v (.int .u8 1)),(i 10),(i 20)] 2),(i 5),(i 50),(i 1),(.sl [(i 0),ff,(sL [(w 1)]),(sL [])] 1),(.sl [(i 0),ff,(sL [(w 1)]),(sL [])] 1),ff,(sL [(w 1)]),(sL [(w 10)]),ff,nl,nl,ff,nl,nl]),(i (-100)),(i 0),(i 0),(i 1)]
noncomputable def lt10:T:=(.tu [(.sl [(i 1),ff,(sL [(w 1)]),(sL [(w 2)]),(i 3),ff,(sL [(w 1)]),(sL [(w 2)])] 2),(i 0)])
theorem lr10:zQ Tryz.prog (evC Tryz.prog skE (orF Tryz.prog (zR lb9) pfs) 1000) 0 80 la10=some (lt10,true):=by kernel_rfl
noncomputable def qUp:List (Nat×(List T→Option (T×Bool))):=(80,qM la10 (lt10,true))::lb9
theorem lo10:zL Tryz.prog (zR qUp):=zL.cons lo9 (zS (by kernel_rfl) zW lo9 pfs lr10) (by kernel_rfl)
noncomputable def la11:List T:=[(.ag [(sL [(i (-100)),(i 0),(i 100)]),(sL [(i 0),(i 10)]),(sL [(i 0)]),(.sl [(.v (.int .u8 0)),(i 0),(i 0),(.v (.int .u8 1)),(i 10),(i 20)] 2),(i 5),(i 50),(i 1),(.sl [(i 0),ff,(sL [(w 1)]),(sL [])] 1),(.sl [(i 0),ff,(sL [(w 1)]),(sL [])] 1),ff,(sL [(w 1)]),(sL [(w 10)]),ff,nl,nl,ff,nl,nl]),(i 1),(i 0)]
noncomputable def lt11:T:=(.tu [(.ag [ff,nl,nl]),(i 0)])
theorem lr11:zQ Tryz.prog (evC Tryz.prog skE (orF Tryz.prog (zR qUp) pfs) 1000) 0 79 la11=some (lt11,true):=by kernel_rfl
noncomputable def qUq:List (Nat×(List T→Option (T×Bool))):=(79,qM la11 (lt11,true))::qUp
theorem lo11:zL Tryz.prog (zR qUq):=zL.cons lo10 (zS (by kernel_rfl) zW lo10 pfs lr11) (by kernel_rfl)
noncomputable def la12:List T:=[(.ag [(sL [(i (-100)),(i 0),(i 100)]),(sL [(i 0),(i 10)]),(sL [(i 0)]),(.sl [(.v (.int .u8 0)),(i 0),(i 0),(.v (.int .u8 1)),(i 10),(i 20)] 2),(i 5),(i 50),(i 1),(.sl [(i 0),ff,(sL [(w 1)]),(sL [])] 1),(.sl [(i 0),ff,(sL [(w 1)]),(sL [])] 1),ff,(sL [(w 1)]),(sL [(w 10)]),ff,nl,nl,ff,nl,nl]),(i 1),(i 1)]
noncomputable def lt12:T:=(.tu [(.ag [ff,(sL [(w 1)]),(sL [(w 10)])]),(i 0)])
theorem lr12:zQ Tryz.prog (evC Tryz.prog skE (orF Tryz.prog (zR qUq) pfs) 1000) 0 79 la12=some (lt12,true):=by kernel_rfl
noncomputable def qUr:List (Nat×(List T→Option (T×Bool))):=(79,qM la12 (lt12,true))::qUq
theorem lo12:zL Tryz.prog (zR qUr):=zL.cons lo11 (zS (by kernel_rfl) zW lo11 pfs lr12) (by kernel_rfl)
noncomputable def la13:List T:=[(sL [(sL [(i (-100)),(i 0),(i 100)]),(sL [(i 0),(i 10)]),(sL [(i 0)])]),(i 1)]
noncomputable def lt13:T:=(.tu [(sL [(i (-100)),(i 10),(i 0)]),(i 0)])
theorem lr13:zQ Tryz.prog (evC Tryz.prog skE (orF Tryz.prog (zR qUr) pfs) 1000) 0 9 la13=some (lt13,true):=by kernel_rfl
noncomputable def qUs:List (Nat×(List T→Option (T×Bool))):=(9,qM la13 (lt13,true))::qUr
theorem lo13:zL Tryz.prog (zR qUs):=zL.cons lo12 (zS (by kernel_rfl) zW lo12 pfs lr13) (by kernel_rfl)
noncomputable def la14:List T:=[(sL [(sL [(i (-100)),(i 0),(i 100)]),(sL [(i 0),(i 10)]),(sL [(i 0)])]),(sL [(i (-110)),(i 10),(i 0)])]
noncomputable def lt14:T:=(.tu [(.sl [(i 1),ff,(sL [(w 1)]),(sL [])] 1),(i 0)])
theorem lr14:zQ Tryz.prog (evC Tryz.prog skE (orF Tryz.prog (zR qUs) pfs) 1000) 0 28 la14=some (lt14,true):=by kernel_rfl
noncomputable def qUt:List (Nat×(List T→Option (T×Bool))):=(28,qM la14 (lt14,true))::qUs
theorem lo14:zL Tryz.prog (zR qUt):=zL.cons lo13 (zS (by kernel_rfl) zW lo13 pfs lr14) (by kernel_rfl)
noncomputable def la15:List T:=[(.ag [(sL [(i (-100)),(i 0),(i 100)]),(sL [(i 0),(i 10)]),(sL [(i 0)]),(.sl [(.v (.int .u8 0)),(i 0),(i 0),(.v (.int .u8 1)),(i 10),(i 20)] 2),(i 5),(i 50),(i 1),(.sl [(i 0),ff,(sL [(w 1)]),(sL [])] 1),(.sl [(i 0),ff,(sL [(w 1)]),(sL [])] 1),ff,(sL [(w 1)]),(sL [(w 10)]),ff,nl,nl,ff,nl,nl]),(i (-100)),(i 10),(i 0),(i 0)]
noncomputable def lt15:T:=(.tu [(.sl [(i 2),ff,(sL [(w 1)]),(sL [])] 1),(i 0)])
theorem lr15:zQ Tryz.prog (evC Tryz.prog skE (orF Tryz.prog (zR qUt) pfs) 1000) 0 80 la15=some (lt15,true):=by kernel_rfl
noncomputable def qUu:List (Nat×(List T→Option (T×Bool))):=(80,qM la15 (lt15,true))::qUt
theorem lo15:zL Tryz.prog (zR qUu):=zL.cons lo14 (zS (by kernel_rfl) zW lo14 pfs lr15) (by kernel_rfl)
noncomputable def la16:List T:=[(.ag [(sL [(i (-100)),(i 0),(i 100)]),(sL [(i 0),(i 10)]),(sL [(i 0)]),(.sl [(.v (.int .u8 0)),(i 0),(i 0),(.v (.int .u8 1)),(i 10),(i 20)] 2),(i 5),(i 50),(i 1),(.sl [(i 0),ff,(sL [(w 1)]),(sL [])] 1),(.sl [(i 0),ff,(sL [(w 1)]),(sL [])] 1),ff,(sL [(w 1)]),(sL [(w 10)]),ff,nl,nl,ff,nl,nl]),(i (-100)),(i 10),(i 0),(i 1)]
noncomputable def lt16:T:=(.tu [(.sl [(i 3),ff,(sL [(w 1)]),(sL [])] 1),(i 0)])
theorem lr16:zQ Tryz.prog (evC Tryz.prog skE (orF Tryz.prog (zR qUu) pfs) 1000) 0 80 la16=some (lt16,true):=by kernel_rfl
noncomputable def qUv:List (Nat×(List T→Option (T×Bool))):=(80,qM la16 (lt16,true))::qUu
theorem lo16:zL Tryz.prog (zR qUv):=zL.cons lo15 (zS (by kernel_rfl) zW lo15 pfs lr16) (by kernel_rfl)
noncomputable def la17:List T:=[(sL [(sL [(i (-100)),(i 0),(i 100)]),(sL [(i 0),(i 10)]),(sL [(i 0)])]),(i 2)]
noncomputable def lt17:T:=(.tu [(sL [(i 0),(i 0),(i 0)]),(i 0)])
theorem lr17:zQ Tryz.prog (evC Tryz.prog skE (orF Tryz.prog (zR qUv) pfs) 1000) 0 9 la17=some (lt17,true):=by kernel_rfl
noncomputable def qUw:List (Nat×(List T→Option (T×Bool))):=(9,qM la17 (lt17,true))::qUv
theorem lo17:zL Tryz.prog (zR qUw):=zL.cons lo16 (zS (by kernel_rfl) zW lo16 pfs lr17) (by kernel_rfl)
noncomputable def la18:List T:=[(sL [(sL [(i (-100)),(i 0),(i 100)]),(sL [(i 0),(i 10)]),(sL [(i 0)])]),(sL [(i 0),(i 0),(i 0)])]
noncomputable def lt18:T:=(.tu [(.sl [(i 2),ff,(sL [(w 1)]),(sL [])] 1),(i 0)])
theorem lr18:zQ Tryz.prog (evC Tryz.prog skE (orF Tryz.prog (zR qUw) pfs) 1000) 0 28 la18=some (lt18,true):=by kernel_rfl
noncomputable def qUx:List (Nat×(List T→Option (T×Bool))):=(28,qM la18 (lt18,true))::qUw
theorem lo18:zL Tryz.prog (zR qUx):=zL.cons lo17 (zS (by kernel_rfl) zW lo17 pfs lr18) (by kernel_rfl)
noncomputable def la19:List T:=[(.ag [(sL [(i (-100)),(i 0),(i 100)]),(sL [(i 0),(i 10)]),(sL [(i 0)]),(.sl [(.v (.int .u8 0)),(i 0),(i 0),(.v (.int .u8 1)),(i 10),(i 20)] 2),(i 5),(i 50),(i 1),(.sl [(i 0),ff,(sL [(w 1)]),(sL [])] 1),(.sl [(i 0),ff,(sL [(w 1)]),(sL [])] 1),ff,(sL [(w 1)]),(sL [(w 10)]),ff,nl,nl,ff,nl,nl]),(i 0),(i 0),(i 0),(i 0)]
noncomputable def lt19:T:=(.tu [(.sl [(i 4),ff,(sL [(w 1)]),(sL [])] 1),(i 0)])
theorem lr19:zQ Tryz.prog (evC Tryz.prog skE (orF Tryz.prog (zR qUx) pfs) 1000) 0 80 la19=some (lt19,true):=by kernel_rfl
noncomputable def qUy:List (Nat×(List T→Option (T×Bool))):=(80,qM la19 (lt19,true))::qUx
theorem lo19:zL Tryz.prog (zR qUy):=zL.cons lo18 (zS (by kernel_rfl) zW lo18 pfs lr19) (by kernel_rfl)
noncomputable def la20:List T:=[(sL [(sL [(i (-100)),(i 0),(i 100)]),(sL [(i 0),(i 10)]),(sL [(i 0)])]),(sL [(i 0),(i 5),(i 0)])]
noncomputable def lt20:T:=(.tu [(.sl [(i 2),ff,(sL [(w 1)]),(sL [(w 2)]),(i 3),ff,(sL [(w 1)]),(sL [(w 2)])] 2),(i 0)])
theorem lr20:zQ Tryz.prog (evC Tryz.prog skE (orF Tryz.prog (zR qUy) pfs) 1000) 0 28 la20=some (lt20,true):=by kernel_rfl
noncomputable def qUz:List (Nat×(List T→Option (T×Bool))):=(28,qM la20 (lt20,true))::qUy
theorem lo20:zL Tryz.prog (zR qUz):=zL.cons lo19 (zS (by kernel_rfl) zW lo19 pfs lr20) (by kernel_rfl)
noncomputable def la21:List T:=[(.ag [(sL [(i (-100)),(i 0),(i 100)]),(sL [(i 0),(i 10)]),(sL [(i 0)]),(.sl [(.v (.int .u8 0)),(i 0),(i 0),(.v (.int .u8 1)),(i 10),(i 20)] 2),(i 5),(i 50),(i 1),(.sl [(i 0),ff,(sL [(w 1)]),(sL [])] 1),(.sl [(i 0),ff,(sL [(w 1)]),(sL [])] 1),ff,(sL [(w 1)]),(sL [(w 10)]),ff,nl,nl,ff,nl,nl]),(i 0),(i 0),(i 0),(i 1)]
noncomputable def lt21:T:=(.tu [(.sl [(i 5),ff,(sL [(w 1)]),(sL [(w 2)]),(i 7),ff,(sL [(w 1)]),(sL [(w 2)])] 2),(i 0)])
theorem lr21:zQ Tryz.prog (evC Tryz.prog skE (orF Tryz.prog (zR qUz) pfs) 1000) 0 80 la21=some (lt21,true):=by kernel_rfl
noncomputable def qVa:List (Nat×(List T→Option (T×Bool))):=(80,qM la21 (lt21,true))::qUz
theorem lo21:zL Tryz.prog (zR qVa):=zL.cons lo20 (zS (by kernel_rfl) zW lo20 pfs lr21) (by kernel_rfl)
noncomputable def la22:List T:=[(sL [(sL [(i (-100)),(i 0),(i 100)]),(sL [(i 0),(i 10)]),(sL [(i 0)])]),(i 3)]
noncomputable def lt22:T:=(.tu [(sL [(i 0),(i 10),(i 0)]),(i 0)])
theorem lr22:zQ Tryz.prog (evC Tryz.prog skE (orF Tryz.prog (zR qVa) pfs) 1000) 0 9 la22=some (lt22,true):=by kernel_rfl
noncomputable def qVb:List (Nat×(List T→Option (T×Bool))):=(9,qM la22 (lt22,true))::qVa
theorem lo22:zL Tryz.prog (zR qVb):=zL.cons lo21 (zS (by kernel_rfl) zW lo21 pfs lr22) (by kernel_rfl)
noncomputable def la23:List T:=[(sL [(sL [(i (-100)),(i 0),(i 100)]),(sL [(i 0),(i 10)]),(sL [(i 0)])]),(sL [(i (-10)),(i 10),(i 0)])]
noncomputable def lt23:T:=(.tu [(.sl [(i 1),ff,(sL [(w 1)]),(sL [(w 10)]),(i 3),ff,(sL [(w 9)]),(sL [(w 10)])] 2),(i 0)])
theorem lr23:zQ Tryz.prog (evC Tryz.prog skE (orF Tryz.prog (zR qVb) pfs) 1000) 0 28 la23=some (lt23,true):=by kernel_rfl
noncomputable def qVc:List (Nat×(List T→Option (T×Bool))):=(28,qM la23 (lt23,true))::qVb
theorem lo23:zL Tryz.prog (zR qVc):=zL.cons lo22 (zS (by kernel_rfl) zW lo22 pfs lr23) (by kernel_rfl)
noncomputable def la24:List T:=[(.ag [(sL [(i (-100)),(i 0),(i 100)]),(sL [(i 0),(i 10)]),(sL [(i 0)]),(.sl [(.v (.int .u8 0)),(i 0),(i 0),(.v (.int .u8 1)),(i 10),(i 20)] 2),(i 5),(i 50),(i 1),(.sl [(i 0),ff,(sL [(w 1)]),(sL [])] 1),(.sl [(i 0),ff,(sL [(w 1)]),(sL [])] 1),ff,(sL [(w 1)]),(sL [(w 10)]),ff,nl,nl,ff,nl,nl]),(i 0),(i 10),(i 0),(i 0)]
noncomputable def lt24:T:=(.tu [(.sl [(i 2),ff,(sL [(w 1)]),(sL [(w 10)]),(i 6),ff,(sL [(w 9)]),(sL [(w 10)])] 2),(i 0)])
theorem lr24:zQ Tryz.prog (evC Tryz.prog skE (orF Tryz.prog (zR qVc) pfs) 1000) 0 80 la24=some (lt24,true):=by kernel_rfl
noncomputable def qVd:List (Nat×(List T→Option (T×Bool))):=(80,qM la24 (lt24,true))::qVc
theorem lo24:zL Tryz.prog (zR qVd):=zL.cons lo23 (zS (by kernel_rfl) zW lo23 pfs lr24) (by kernel_rfl)
noncomputable def la25:List T:=[(.ag [(sL [(i (-100)),(i 0),(i 100)]),(sL [(i 0),(i 10)]),(sL [(i 0)]),(.sl [(.v (.int .u8 0)),(i 0),(i 0),(.v (.int .u8 1)),(i 10),(i 20)] 2),(i 5),(i 50),(i 1),(.sl [(i 0),ff,(sL [(w 1)]),(sL [])] 1),(.sl [(i 0),ff,(sL [(w 1)]),(sL [])] 1),ff,(sL [(w 1)]),(sL [(w 10)]),ff,nl,nl,ff,nl,nl]),(i 0),(i 10),(i 0),(i 1)]
noncomputable def lt25:T:=(.tu [(.sl [(i 3),ff,(sL [(w 1)]),(sL [(w 10)]),(i 7),ff,(sL [(w 9)]),(sL [(w 10)])] 2),(i 0)])
theorem lr25:zQ Tryz.prog (evC Tryz.prog skE (orF Tryz.prog (zR qVd) pfs) 1000) 0 80 la25=some (lt25,true):=by kernel_rfl
noncomputable def qVe:List (Nat×(List T→Option (T×Bool))):=(80,qM la25 (lt25,true))::qVd
theorem lo25:zL Tryz.prog (zR qVe):=zL.cons lo24 (zS (by kernel_rfl) zW lo24 pfs lr25) (by kernel_rfl)
noncomputable def la26:List T:=[(sL [(sL [(i (-100)),(i 0),(i 100)]),(sL [(i 0),(i 10)]),(sL [(i 0)])]),(i 4)]
noncomputable def lt26:T:=(.tu [(sL [(i 100),(i 0),(i 0)]),(i 0)])
theorem lr26:zQ Tryz.prog (evC Tryz.prog skE (orF Tryz.prog (zR qVe) pfs) 1000) 0 9 la26=some (lt26,true):=by kernel_rfl
noncomputable def qVf:List (Nat×(List T→Option (T×Bool))):=(9,qM la26 (lt26,true))::qVe
theorem lo26:zL Tryz.prog (zR qVf):=zL.cons lo25 (zS (by kernel_rfl) zW lo25 pfs lr26) (by kernel_rfl)
noncomputable def la27:List T:=[(sL [(sL [(i (-100)),(i 0),(i 100)]),(sL [(i 0),(i 10)]),(sL [(i 0)])]),(sL [(i 100),(i 0),(i 0)])]
noncomputable def lt27:T:=(.tu [(.sl [(i 4),ff,(sL [(w 1)]),(sL [])] 1),(i 0)])
theorem lr27:zQ Tryz.prog (evC Tryz.prog skE (orF Tryz.prog (zR qVf) pfs) 1000) 0 28 la27=some (lt27,true):=by kernel_rfl
noncomputable def qVg:List (Nat×(List T→Option (T×Bool))):=(28,qM la27 (lt27,true))::qVf
theorem lo27:zL Tryz.prog (zR qVg):=zL.cons lo26 (zS (by kernel_rfl) zW lo26 pfs lr27) (by kernel_rfl)
noncomputable def la28:List T:=[(.ag [(sL [(i (-100)),(i 0),(i 100)]),(sL [(i 0),(i 10)]),(sL [(i 0)]),(.sl [(.v (.int .u8 0)),(i 0),(i 0),(.v (.int .u8 1)),(i 10),(i 20)] 2),(i 5),(i 50),(i 1),(.sl [(i 0),ff,(sL [(w 1)]),(sL [])] 1),(.sl [(i 0),ff,(sL [(w 1)]),(sL [])] 1),ff,(sL [(w 1)]),(sL [(w 10)]),ff,nl,nl,ff,nl,nl]),(i 100),(i 0),(i 0),(i 0)]
noncomputable def lt28:T:=(.tu [(.sl [(i 8),ff,(sL [(w 1)]),(sL [])] 1),(i 0)])
theorem lr28:zQ Tryz.prog (evC Tryz.prog skE (orF Tryz.prog (zR qVg) pfs) 1000) 0 80 la28=some (lt28,true):=by kernel_rfl
noncomputable def qVh:List (Nat×(List T→Option (T×Bool))):=(80,qM la28 (lt28,true))::qVg
theorem lo28:zL Tryz.prog (zR qVh):=zL.cons lo27 (zS (by kernel_rfl) zW lo27 pfs lr28) (by kernel_rfl)
noncomputable def la29:List T:=[(sL [(sL [(i (-100)),(i 0),(i 100)]),(sL [(i 0),(i 10)]),(sL [(i 0)])]),(sL [(i 100),(i 5),(i 0)])]
noncomputable def lt29:T:=(.tu [(.sl [(i 4),ff,(sL [(w 1)]),(sL [(w 2)]),(i 5),ff,(sL [(w 1)]),(sL [(w 2)])] 2),(i 0)])
theorem lr29:zQ Tryz.prog (evC Tryz.prog skE (orF Tryz.prog (zR qVh) pfs) 1000) 0 28 la29=some (lt29,true):=by kernel_rfl
noncomputable def qVi:List (Nat×(List T→Option (T×Bool))):=(28,qM la29 (lt29,true))::qVh
theorem lo29:zL Tryz.prog (zR qVi):=zL.cons lo28 (zS (by kernel_rfl) zW lo28 pfs lr29) (by kernel_rfl)
noncomputable def la30:List T:=[(.ag [(sL [(i (-100)),(i 0),(i 100)]),(sL [(i 0),(i 10)]),(sL [(i 0)]),(.sl [(.v (.int .u8 0)),(i 0),(i 0),(.v (.int .u8 1)),(i 10),(i 20)] 2),(i 5),(i 50),(i 1),(.sl [(i 0),ff,(sL [(w 1)]),(sL [])] 1),(.sl [(i 0),ff,(sL [(w 1)]),(sL [])] 1),ff,(sL [(w 1)]),(sL [(w 10)]),ff,nl,nl,ff,nl,nl]),(i 100),(i 0),(i 0),(i 1)]
noncomputable def lt30:T:=(.tu [(.sl [(i 9),ff,(sL [(w 1)]),(sL [(w 2)]),(i 11),ff,(sL [(w 1)]),(sL [(w 2)])] 2),(i 0)])
theorem lr30:zQ Tryz.prog (evC Tryz.prog skE (orF Tryz.prog (zR qVi) pfs) 1000) 0 80 la30=some (lt30,true):=by kernel_rfl
noncomputable def qVj:List (Nat×(List T→Option (T×Bool))):=(80,qM la30 (lt30,true))::qVi
theorem lo30:zL Tryz.prog (zR qVj):=zL.cons lo29 (zS (by kernel_rfl) zW lo29 pfs lr30) (by kernel_rfl)
noncomputable def la31:List T:=[(sL [(sL [(i (-100)),(i 0),(i 100)]),(sL [(i 0),(i 10)]),(sL [(i 0)])]),(i 5)]
noncomputable def lt31:T:=(.tu [(sL [(i 100),(i 10),(i 0)]),(i 0)])
theorem lr31:zQ Tryz.prog (evC Tryz.prog skE (orF Tryz.prog (zR qVj) pfs) 1000) 0 9 la31=some (lt31,true):=by kernel_rfl
noncomputable def qVk:List (Nat×(List T→Option (T×Bool))):=(9,qM la31 (lt31,true))::qVj
theorem lo31:zL Tryz.prog (zR qVk):=zL.cons lo30 (zS (by kernel_rfl) zW lo30 pfs lr31) (by kernel_rfl)
noncomputable def la32:List T:=[(sL [(sL [(i (-100)),(i 0),(i 100)]),(sL [(i 0),(i 10)]),(sL [(i 0)])]),(sL [(i 90),(i 10),(i 0)])]
noncomputable def lt32:T:=(.tu [(.sl [(i 3),ff,(sL [(w 1)]),(sL [(w 10)]),(i 5),ff,(sL [(w 9)]),(sL [(w 10)])] 2),(i 0)])
theorem lr32:zQ Tryz.prog (evC Tryz.prog skE (orF Tryz.prog (zR qVk) pfs) 1000) 0 28 la32=some (lt32,true):=by kernel_rfl
noncomputable def qVl:List (Nat×(List T→Option (T×Bool))):=(28,qM la32 (lt32,true))::qVk
theorem lo32:zL Tryz.prog (zR qVl):=zL.cons lo31 (zS (by kernel_rfl) zW lo31 pfs lr32) (by kernel_rfl)
noncomputable def la33:List T:=[(.ag [(sL [(i (-100)),(i 0),(i 100)]),(sL [(i 0),(i 10)]),(sL [(i 0)]),(.sl [(.v (.int .u8 0)),(i 0),(i 0),(.v (.int .u8 1)),(i 10),(i 20)] 2),(i 5),(i 50),(i 1),(.sl [(i 0),ff,(sL [(w 1)]),(sL [])] 1),(.sl [(i 0),ff,(sL [(w 1)]),(sL [])] 1),ff,(sL [(w 1)]),(sL [(w 10)]),ff,nl,nl,ff,nl,nl]),(i 100),(i 10),(i 0),(i 0)]
noncomputable def lt33:T:=(.tu [(.sl [(i 6),ff,(sL [(w 1)]),(sL [(w 10)]),(i 10),ff,(sL [(w 9)]),(sL [(w 10)])] 2),(i 0)])
theorem lr33:zQ Tryz.prog (evC Tryz.prog skE (orF Tryz.prog (zR qVl) pfs) 1000) 0 80 la33=some (lt33,true):=by kernel_rfl
noncomputable def qVm:List (Nat×(List T→Option (T×Bool))):=(80,qM la33 (lt33,true))::qVl
theorem lo33:zL Tryz.prog (zR qVm):=zL.cons lo32 (zS (by kernel_rfl) zW lo32 pfs lr33) (by kernel_rfl)
noncomputable def la34:List T:=[(.ag [(sL [(i (-100)),(i 0),(i 100)]),(sL [(i 0),(i 10)]),(sL [(i 0)]),(.sl [(.v (.int .u8 0)),(i 0),(i 0),(.v (.int .u8 1)),(i 10),(i 20)] 2),(i 5),(i 50),(i 1),(.sl [(i 0),ff,(sL [(w 1)]),(sL [])] 1),(.sl [(i 0),ff,(sL [(w 1)]),(sL [])] 1),ff,(sL [(w 1)]),(sL [(w 10)]),ff,nl,nl,ff,nl,nl]),(i 100),(i 10),(i 0),(i 1)]
noncomputable def lt34:T:=(.tu [(.sl [(i 7),ff,(sL [(w 1)]),(sL [(w 10)]),(i 11),ff,(sL [(w 9)]),(sL [(w 10)])] 2),(i 0)])
theorem lr34:zQ Tryz.prog (evC Tryz.prog skE (orF Tryz.prog (zR qVm) pfs) 1000) 0 80 la34=some (lt34,true):=by kernel_rfl
noncomputable def qVn:List (Nat×(List T→Option (T×Bool))):=(80,qM la34 (lt34,true))::qVm
theorem lo34:zL Tryz.prog (zR qVn):=zL.cons lo33 (zS (by kernel_rfl) zW lo33 pfs lr34) (by kernel_rfl)
noncomputable def la35:List T:=[(.ag [(sL [(i (-100)),(i 0),(i 100)]),(sL [(i 0),(i 10)]),(sL [(i 0)]),(.sl [(.v (.int .u8 0)),(i 0),(i 0),(.v (.int .u8 1)),(i 10),(i 20)] 2),(i 5),(i 50),(i 1),(.sl [(i 0),ff,(sL [(w 1)]),(sL [])] 1),(.sl [(i 0),ff,(sL [(w 1)]),(sL [])] 1),ff,(sL [(w 1)]),(sL [(w 10)]),ff,nl,nl,ff,nl,nl])]
noncomputable def lt35:T:=(.tu [(.ag [ff,(sL [(w 1)]),(sL []),(sL [(.sl [ff,nl,nl,(.sl [(i 0),ff,(sL [(w 1)]),(sL [])] 1),ff,(sL [(w 1)]),(sL [(w 10)]),(.sl [(i 1),ff,(sL [(w 1)]),(sL [(w 2)]),(i 3),ff,(sL [(w 1)]),(sL [(w 2)])] 2)] 2),(.sl [ff,nl,nl,(.sl [(i 0),ff,(sL [(w 1)]),(sL [])] 1),ff,(sL [(w 1)]),(sL [(w 10)]),(.sl [(i 1),ff,(sL [(w 1)]),(sL [(w 2)]),(i 3),ff,(sL [(w 1)]),(sL [(w 2)])] 2)] 2),(.sl [ff,nl,nl,(.sl [(i 2),ff,(sL [(w 1)]),(sL [])] 1),ff,(sL [(w 1)]),(sL [(w 10)]),(.sl [(i 3),ff,(sL [(w 1)]),(sL [])] 1)] 2),(.sl [ff,nl,nl,(.sl [(i 2),ff,(sL [(w 1)]),(sL [])] 1),ff,(sL [(w 1)]),(sL [(w 10)]),(.sl [(i 3),ff,(sL [(w 1)]),(sL [])] 1)] 2),(.sl [ff,nl,nl,(.sl [(i 4),ff,(sL [(w 1)]),(sL [])] 1),ff,(sL [(w 1)]),(sL [(w 10)]),(.sl [(i 5),ff,(sL [(w 1)]),(sL [(w 2)]),(i 7),ff,(sL [(w 1)]),(sL [(w 2)])] 2)] 2),(.sl [ff,nl,nl,(.sl [(i 4),ff,(sL [(w 1)]),(sL [])] 1),ff,(sL [(w 1)]),(sL [(w 10)]),(.sl [(i 5),ff,(sL [(w 1)]),(sL [(w 2)]),(i 7),ff,(sL [(w 1)]),(sL [(w 2)])] 2)] 2),(.sl [ff,nl,nl,(.sl [(i 2),ff,(sL [(w 1)]),(sL [(w 10)]),(i 6),ff,(sL [(w 9)]),(sL [(w 10)])] 2),ff,(sL [(w 1)]),(sL [(w 10)]),(.sl [(i 3),ff,(sL [(w 1)]),(sL [(w 10)]),(i 7),ff,(sL [(w 9)]),(sL [(w 10)])] 2)] 2),(.sl [ff,nl,nl,(.sl [(i 2),ff,(sL [(w 1)]),(sL [(w 10)]),(i 6),ff,(sL [(w 9)]),(sL [(w 10)])] 2),ff,(sL [(w 1)]),(sL [(w 10)]),(.sl [(i 3),ff,(sL [(w 1)]),(sL [(w 10)]),(i 7),ff,(sL [(w 9)]),(sL [(w 10)])] 2)] 2),(.sl [ff,nl,nl,(.sl [(i 8),ff,(sL [(w 1)]),(sL [])] 1),ff,(sL [(w 1)]),(sL [(w 10)]),(.sl [(i 9),ff,(sL [(w 1)]),(sL [(w 2)]),(i 11),ff,(sL [(w 1)]),(sL [(w 2)])] 2)] 2),(.sl [ff,nl,nl,(.sl [(i 8),ff,(sL [(w 1)]),(sL [])] 1),ff,(sL [(w 1)]),(sL [(w 10)]),(.sl [(i 9),ff,(sL [(w 1)]),(sL [(w 2)]),(i 11),ff,(sL [(w 1)]),(sL [(w 2)])] 2)] 2),(.sl [ff,nl,nl,(.sl [(i 6),ff,(sL [(w 1)]),(sL [(w 10)]),(i 10),ff,(sL [(w 9)]),(sL [(w 10)])] 2),ff,(sL [(w 1)]),(sL [(w 10)]),(.sl [(i 7),ff,(sL [(w 1)]),(sL [(w 10)]),(i 11),ff,(sL [(w 9)]),(sL [(w 10)])] 2)] 2),(.sl [ff,nl,nl,(.sl [(i 6),ff,(sL [(w 1)]),(sL [(w 10)]),(i 10),ff,(sL [(w 9)]),(sL [(w 10)])] 2),ff,(sL [(w 1)]),(sL [(w 10)]),(.sl [(i 7),ff,(sL [(w 1)]),(sL [(w 10)]),(i 11),ff,(sL [(w 9)]),(sL [(w 10)])] 2)] 2)])]),(i 0)])
theorem lr35:zQ Tryz.prog (evC Tryz.prog skE (orF Tryz.prog (zR qVn) pfs) 1000) 0 46 la35=some (lt35,true):=by kernel_rfl
noncomputable def qVo:List (Nat×(List T→Option (T×Bool))):=(46,qM la35 (lt35,true))::qVn
theorem lo35:zL Tryz.prog (zR qVo):=zL.cons lo34 (zS (by kernel_rfl) zW lo34 pfs lr35) (by kernel_rfl)
noncomputable def la36:List T:=[(.ag [(sL [(i (-100)),(i 0),(i 100)]),(sL [(i 0),(i 10)]),(sL [(i 0)]),(.sl [(.v (.int .u8 0)),(i 0),(i 0),(.v (.int .u8 1)),(i 10),(i 20)] 2),(i 5),(i 50),(i 1),(.sl [(i 0),ff,(sL [(w 1)]),(sL [])] 1),(.sl [(i 0),ff,(sL [(w 1)]),(sL [])] 1),ff,(sL [(w 1)]),(sL [(w 10)]),ff,nl,nl,ff,nl,nl])]
noncomputable def lt36:T:=(.tu [(.sl [ff,nl,nl,ff,nl,nl,ff,nl,nl,ff,nl,nl,ff,(sL [(w 1)]),(sL []),ff,(sL [(w 1)]),(sL []),ff,(sL [(w 1)]),(sL []),ff,(sL [(w 1)]),(sL []),ff,nl,nl,ff,nl,nl,ff,nl,nl,ff,nl,nl] 12),(i 0)])
theorem lr36:zQ Tryz.prog (evC Tryz.prog skE (orF Tryz.prog (zR qVo) pfs) 1000) 0 48 la36=some (lt36,true):=by kernel_rfl
noncomputable def qVp:List (Nat×(List T→Option (T×Bool))):=(48,qM la36 (lt36,true))::qVo
theorem lo36:zL Tryz.prog (zR qVp):=zL.cons lo35 (zS (by kernel_rfl) zW lo35 pfs lr36) (by kernel_rfl)
noncomputable def la37:List T:=[(.ag [(sL [(i (-100)),(i 0),(i 100)]),(sL [(i 0),(i 10)]),(sL [(i 0)]),(.sl [(.v (.int .u8 0)),(i 0),(i 0),(.v (.int .u8 1)),(i 10),(i 20)] 2),(i 5),(i 50),(i 1),(.sl [(i 0),ff,(sL [(w 1)]),(sL [])] 1),(.sl [(i 0),ff,(sL [(w 1)]),(sL [])] 1),ff,(sL [(w 1)]),(sL [(w 10)]),ff,nl,nl,ff,nl,nl])]
noncomputable def lt37:T:=(.ag [(sL [(i (-100)),(i 0),(i 100)]),(sL [(i 0),(i 10)]),(sL [(i 0)]),(.sl [(.v (.int .u8 0)),(i 0),(i 0),(.v (.int .u8 1)),(i 10),(i 20)] 2),(i 5),(i 50),(i 1),(.sl [(i 0),ff,(sL [(w 1)]),(sL [])] 1),(.sl [(i 0),ff,(sL [(w 1)]),(sL [])] 1),ff,(sL [(w 1)]),(sL [(w 10)]),ff,nl,nl,ff,nl,nl])
theorem lr37:zQ Tryz.prog (evC Tryz.prog skE (orF Tryz.prog (zR qVp) pfs) 1000) 0 49 la37=some (lt37,true):=by kernel_rfl
noncomputable def qVq:List (Nat×(List T→Option (T×Bool))):=(49,qM la37 (lt37,true))::qVp
theorem lo37:zL Tryz.prog (zR qVq):=zL.cons lo36 (zS (by kernel_rfl) zW lo36 pfs lr37) (by kernel_rfl)
noncomputable def la38:List T:=[(.ag [ff,(sL [(w 1)]),(sL [(w 10)]),(.sl [(i 1),ff,(sL [(w 1)]),(sL [(w 2)]),(i 3),ff,(sL [(w 1)]),(sL [(w 2)])] 2)]),(i 12)]
noncomputable def lt38:T:=(i 0)
theorem lr38:zQ Tryz.prog (evC Tryz.prog skE (orF Tryz.prog (zR qVq) pfs) 1000) 0 156 la38=some (lt38,true):=by kernel_rfl
noncomputable def qVr:List (Nat×(List T→Option (T×Bool))):=(156,qM la38 (lt38,true))::qVq
theorem lo38:zL Tryz.prog (zR qVr):=zL.cons lo37 (zS (by kernel_rfl) zW lo37 pfs lr38) (by kernel_rfl)
noncomputable def la39:List T:=[(.ag [ff,(sL [(w 1)]),(sL [(w 10)]),(.sl [(i 5),ff,(sL [(w 1)]),(sL [(w 2)]),(i 7),ff,(sL [(w 1)]),(sL [(w 2)])] 2)]),(i 12)]
noncomputable def lt39:T:=(i 0)
theorem lr39:zQ Tryz.prog (evC Tryz.prog skE (orF Tryz.prog (zR qVr) pfs) 1000) 0 156 la39=some (lt39,true):=by kernel_rfl
noncomputable def qVs:List (Nat×(List T→Option (T×Bool))):=(156,qM la39 (lt39,true))::qVr
theorem lo39:zL Tryz.prog (zR qVs):=zL.cons lo38 (zS (by kernel_rfl) zW lo38 pfs lr39) (by kernel_rfl)
end Go.Proofs.YtjnpoeilfdbaaaaGreatDoor

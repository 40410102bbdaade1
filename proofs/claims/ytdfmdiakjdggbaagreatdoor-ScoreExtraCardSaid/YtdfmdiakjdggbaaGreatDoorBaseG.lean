import Derived.Test.YtdfmdiakjdggbaaGreatDoorRows
import Derived.Test.YtdfmdiakjdggbaaGreatDoorBaseA
import Derived.Test.YtdfmdiakjdggbaaGreatDoorBaseB
import Derived.Test.YtdfmdiakjdggbaaGreatDoorBaseC
import Derived.Test.YtdfmdiakjdggbaaGreatDoorBaseD
import Derived.Test.YtdfmdiakjdggbaaGreatDoorBaseE
import Derived.Test.YtdfmdiakjdggbaaGreatDoorBaseF
set_option linter.unusedVariables false
set_option linter.unusedSimpArgs false
set_option linter.unnecessarySimpa false
namespace Go.Proofs.YtdfmdiakjdggbaaGreatDoor
open Go Go.Gv Go.Ev IntKind
set_option maxRecDepth 1000000
noncomputable def pfs:List Nat:=[16,22,23,24,30,31,32,35,36,43,44,45,46,61,70,76,77,78,79,94,95,119,134,146,156,157,158,169,170,171,183,184,185,186,187,228,234,240,241,242,269]
noncomputable def i(n:Int):T:= .v (.int .i64 n)
noncomputable def w(n:Int):T:= .v (.int .u32 n)
noncomputable def tt:T:= .v (.bool true)
noncomputable def ff:T:= .v (.bool false)
noncomputable def nl:T:= .v (.slice none 0 0)
noncomputable def sL(l:List T):T:= .sl l l.length
noncomputable def ea1:List T:=[(.sl [(i 50),(i 5),(i 0),ff,(sL [(w 1)]),(sL [(w 2)]),(i 100),(i 10),(i 0),ff,(sL [(w 1)]),(sL [(w 2)])] 2)]
noncomputable def et1:T:=(i 0)
theorem er1:yI Tryz.prog (evC Tryz.prog noS (orF Tryz.prog (kI tb0) pfs) 1000) 0 46 ea1=some (et1,true):=by kernel_rfl
noncomputable def eb1:List (Nat×(List T→Option (T×Bool))):=(46,bK ea1 (et1,true))::tb0
theorem eo1:qH Tryz.prog (kI eb1):=qH.cons qDe (vQ (by kernel_rfl) vS qDe pfs er1) (by kernel_rfl)
noncomputable def ea2:List T:=[(.ag [(sL [(i (-100)),(i 0),(i 100)]),(sL [(i 0),(i 10)]),(sL [(i 0)]),(.sl [(.v (.int .u8 0)),(i 0),(i 0),(.v (.int .u8 1)),(i 10),(i 20)] 2),(i 5),(i 50),(i 1),(.sl [(i 0),ff,(sL [(w 1)]),(sL [])] 1),(.sl [(i 0),ff,(sL [(w 1)]),(sL [])] 1),ff,(sL [(w 1)]),(sL [(w 10)]),ff,nl,nl,ff,nl,nl])]
noncomputable def et2:T:=(i 0)
theorem er2:yI Tryz.prog (evC Tryz.prog noS (orF Tryz.prog (kI eb1) pfs) 1000) 0 119 ea2=some (et2,true):=by kernel_rfl
noncomputable def eb2:List (Nat×(List T→Option (T×Bool))):=(119,bK ea2 (et2,true))::eb1
theorem eo2:qH Tryz.prog (kI eb2):=qH.cons eo1 (vQ (by kernel_rfl) vS eo1 pfs er2) (by kernel_rfl)
noncomputable def ea3:List T:=[(.ag [(sL [(i (-100)),(i 0),(i 100)]),(sL [(i 0),(i 10)]),(sL [(i 0)]),(.sl [(.v (.int .u8 0)),(i 0),(i 0),(.v (.int .u8 1)),(i 10),(i 20)] 2),(i 5),(i 50),(i 1),(.sl [(i 0),ff,(sL [(w 1)]),(sL [])] 1),(.sl [(i 0),ff,(sL [(w 1)]),(sL [])] 1),ff,(sL [(w 1)]),(sL [(w 10)]),ff,nl,nl,ff,nl,nl,(i 10),(sL [(sL [(i 0),(i 1)]),(sL [(i 10),(i 11)]),(sL [(i 9),(i 10)]),(sL [(i 1),(i 2)])]),(sL [(sL [(i 0),(i 0),(i 0),(i 0),(i 1),(i 1),(i 2),(i 2),(i 0),(i 0),(i 3),(i 3)])])])]
noncomputable def et3:T:=(i 0)
theorem er3:yI Tryz.prog (evC Tryz.prog noS (orF Tryz.prog (kI eb2) pfs) 1000) 0 61 ea3=some (et3,true):=by kernel_rfl
noncomputable def eb3:List (Nat×(List T→Option (T×Bool))):=(61,bK ea3 (et3,true))::eb2
theorem eo3:qH Tryz.prog (kI eb3):=qH.cons eo2 (vQ (by kernel_rfl) vS eo2 pfs er3) (by kernel_rfl)
noncomputable def ea4:List T:=[(sL [(sL [(i (-100)),(i 0),(i 100)]),(sL [(i 0),(i 10)]),(sL [(i 0)])]),(sL [(i 50),(i 5),(i 0)])]
noncomputable def et4:T:=(.tu [(.sl [(i 2),ff,(sL [(w 1)]),(sL [(w 4)]),(i 3),ff,(sL [(w 1)]),(sL [(w 4)]),(i 4),ff,(sL [(w 1)]),(sL [(w 4)]),(i 5),ff,(sL [(w 1)]),(sL [(w 4)])] 4),(i 0)])
theorem er4:yI Tryz.prog (evC Tryz.prog noS (orF Tryz.prog (kI eb3) pfs) 1000) 0 78 ea4=some (et4,true):=by kernel_rfl
noncomputable def eb4:List (Nat×(List T→Option (T×Bool))):=(78,bK ea4 (et4,true))::eb3
theorem eo4:qH Tryz.prog (kI eb4):=qH.cons eo3 (vQ (by kernel_rfl) vS eo3 pfs er4) (by kernel_rfl)
noncomputable def ea5:List T:=[(.sl [ff,(sL [(w 1)]),(sL [(w 4)]),ff,(sL [(w 1)]),(sL [(w 4)]),ff,(sL [(w 1)]),(sL [(w 4)]),ff,(sL [(w 1)]),(sL [(w 4)])] 4),(.sl [ff,(sL [(w 10)]),(sL []),ff,(sL [(w 9)]),(sL []),ff,(sL []),(sL []),ff,(sL [(w 1)]),(sL [])] 4)]
noncomputable def et5:T:=(.tu [(.ag [ff,(sL [(w 5)]),(sL [])]),(i 0)])
theorem er5:yI Tryz.prog (evC Tryz.prog noS (orF Tryz.prog (kI eb4) pfs) 1000) 0 70 ea5=some (et5,true):=by kernel_rfl
noncomputable def eb5:List (Nat×(List T→Option (T×Bool))):=(70,bK ea5 (et5,true))::eb4
theorem eo5:qH Tryz.prog (kI eb5):=qH.cons eo4 (vQ (by kernel_rfl) vS eo4 pfs er5) (by kernel_rfl)
noncomputable def ea6:List T:=[(.sl [ff,(sL [(w 1)]),(sL [(w 4)]),ff,(sL [(w 1)]),(sL [(w 4)]),ff,(sL [(w 1)]),(sL [(w 4)]),ff,(sL [(w 1)]),(sL [(w 4)])] 4),(.sl [ff,(sL [(w 11)]),(sL []),ff,(sL [(w 10)]),(sL []),ff,(sL [(w 1)]),(sL []),ff,(sL [(w 2)]),(sL [])] 4)]
noncomputable def et6:T:=(.tu [(.ag [ff,(sL [(w 6)]),(sL [])]),(i 0)])
theorem er6:yI Tryz.prog (evC Tryz.prog noS (orF Tryz.prog (kI eb5) pfs) 1000) 0 70 ea6=some (et6,true):=by kernel_rfl
noncomputable def eb6:List (Nat×(List T→Option (T×Bool))):=(70,bK ea6 (et6,true))::eb5
theorem eo6:qH Tryz.prog (kI eb6):=qH.cons eo5 (vQ (by kernel_rfl) vS eo5 pfs er6) (by kernel_rfl)
noncomputable def ea7:List T:=[(.ag [(sL [(i (-100)),(i 0),(i 100)]),(sL [(i 0),(i 10)]),(sL [(i 0)]),(.sl [(.v (.int .u8 0)),(i 0),(i 0),(.v (.int .u8 1)),(i 10),(i 20)] 2),(i 5),(i 50),(i 1),(.sl [(i 0),ff,(sL [(w 1)]),(sL [])] 1),(.sl [(i 0),ff,(sL [(w 1)]),(sL [])] 1),ff,(sL [(w 1)]),(sL [(w 10)]),ff,nl,nl,ff,nl,nl,(i 10),(sL [(sL [(i 0),(i 1)]),(sL [(i 10),(i 11)]),(sL [(i 9),(i 10)]),(sL [(i 1),(i 2)])]),(sL [(sL [(i 0),(i 0),(i 0),(i 0),(i 1),(i 1),(i 2),(i 2),(i 0),(i 0),(i 3),(i 3)])])]),(i 1),(i 50),(i 5),(i 0),(i 0)]
noncomputable def et7:T:=(.tu [(.sl [ff,(sL [(w 1)]),(sL [(w 2)]),ff,(sL [(w 3)]),(sL [(w 5)])] 2),(i 0)])
theorem er7:yI Tryz.prog (evC Tryz.prog noS (orF Tryz.prog (kI eb6) pfs) 1000) 0 32 ea7=some (et7,true):=by kernel_rfl
noncomputable def eb7:List (Nat×(List T→Option (T×Bool))):=(32,bK ea7 (et7,true))::eb6
theorem eo7:qH Tryz.prog (kI eb7):=qH.cons eo6 (vQ (by kernel_rfl) vS eo6 pfs er7) (by kernel_rfl)
noncomputable def ea8:List T:=[(sL [(sL [(i (-100)),(i 0),(i 100)]),(sL [(i 0),(i 10)]),(sL [(i 0)])]),(sL [(i 100),(i 10),(i 0)])]
noncomputable def et8:T:=(.tu [(.sl [(i 5),ff,(sL [(w 1)]),(sL [])] 1),(i 0)])
theorem er8:yI Tryz.prog (evC Tryz.prog noS (orF Tryz.prog (kI eb7) pfs) 1000) 0 78 ea8=some (et8,true):=by kernel_rfl
noncomputable def eb8:List (Nat×(List T→Option (T×Bool))):=(78,bK ea8 (et8,true))::eb7
theorem eo8:qH Tryz.prog (kI eb8):=qH.cons eo7 (vQ (by kernel_rfl) vS eo7 pfs er8) (by kernel_rfl)
noncomputable def ea9:List T:=[(.ag [(sL [(i (-100)),(i 0),(i 100)]),(sL [(i 0),(i 10)]),(sL [(i 0)]),(.sl [(.v (.int .u8 0)),(i 0),(i 0),(.v (.int .u8 1)),(i 10),(i 20)] 2),(i 5),(i 50),(i 1),(.sl [(i 0),ff,(sL [(w 1)]),(sL [])] 1),(.sl [(i 0),ff,(sL [(w 1)]),(sL [])] 1),ff,(sL [(w 1)]),(sL [(w 10)]),ff,nl,nl,ff,nl,nl,(i 10),(sL [(sL [(i 0),(i 1)]),(sL [(i 10),(i 11)]),(sL [(i 9),(i 10)]),(sL [(i 1),(i 2)])]),(sL [(sL [(i 0),(i 0),(i 0),(i 0),(i 1),(i 1),(i 2),(i 2),(i 0),(i 0),(i 3),(i 3)])])]),(i 1),(i 100),(i 10),(i 0),(i 0)]
noncomputable def et9:T:=(.tu [(.sl [ff,(sL [(w 1)]),(sL [(w 10)]),ff,(sL [(w 1)]),(sL [(w 5)])] 2),(i 0)])
theorem er9:yI Tryz.prog (evC Tryz.prog noS (orF Tryz.prog (kI eb8) pfs) 1000) 0 32 ea9=some (et9,true):=by kernel_rfl
noncomputable def eb9:List (Nat×(List T→Option (T×Bool))):=(32,bK ea9 (et9,true))::eb8
theorem eo9:qH Tryz.prog (kI eb9):=qH.cons eo8 (vQ (by kernel_rfl) vS eo8 pfs er9) (by kernel_rfl)
noncomputable def ea10:List T:=[(.ag [(sL [(i (-100)),(i 0),(i 100)]),(sL [(i 0),(i 10)]),(sL [(i 0)]),(.sl [(.v (.int .u8 0)),(i 0),(i 0),(.v (.int .u8 1)),(i 10),(i 20)] 2),(i 5),(i 50),(i 1),(.sl [(i 0),ff,(sL [(w 1)]),(sL [])] 1),(.sl [(i 0),ff,(sL [(w 1)]),(sL [])] 1),ff,(sL [(w 1)]),(sL [(w 10)]),ff,nl,nl,ff,nl,nl,(i 10),(sL [(sL [(i 0),(i 1)]),(sL [(i 10),(i 11)]),(sL [(i 9),(i 10)]),(sL [(i 1),(i 2)])]),(sL [(sL [(i 0),(i 0),(i 0),(i 0),(i 1),(i 1),(i 2),(i 2),(i 0),(i 0),(i 3),(i 3)])])]),(i 1),(.sl [(i 50),(i 5),(i 0),ff,(sL [(w 1)]),(sL [(w 2)]),(i 100),(i 10),(i 0),ff,(sL [(w 1)]),(sL [(w 2)])] 2),(i 0)]
noncomputable def et10:T:=(.tu [(.sl [ff,(sL [(w 3)]),(sL [(w 10)]),ff,(sL [(w 2)]),(sL [(w 5)])] 2),(i 0)])
theorem er10:yI Tryz.prog (evC Tryz.prog noS (orF Tryz.prog (kI eb9) pfs) 1000) 0 22 ea10=some (et10,true):=by kernel_rfl
noncomputable def qLy:List (Nat×(List T→Option (T×Bool))):=(22,bK ea10 (et10,true))::eb9
theorem eo10:qH Tryz.prog (kI qLy):=qH.cons eo9 (vQ (by kernel_rfl) vS eo9 pfs er10) (by kernel_rfl)
noncomputable def ea11:List T:=[(.ag [(sL [(i (-100)),(i 0),(i 100)]),(sL [(i 0),(i 10)]),(sL [(i 0)]),(.sl [(.v (.int .u8 0)),(i 0),(i 0),(.v (.int .u8 1)),(i 10),(i 20)] 2),(i 5),(i 50),(i 1),(.sl [(i 0),ff,(sL [(w 1)]),(sL [])] 1),(.sl [(i 0),ff,(sL [(w 1)]),(sL [])] 1),ff,(sL [(w 1)]),(sL [(w 10)]),ff,nl,nl,ff,nl,nl,(i 10),(sL [(sL [(i 0),(i 1)]),(sL [(i 10),(i 11)]),(sL [(i 9),(i 10)]),(sL [(i 1),(i 2)])]),(sL [(sL [(i 0),(i 0),(i 0),(i 0),(i 1),(i 1),(i 2),(i 2),(i 0),(i 0),(i 3),(i 3)])])]),(i 1),(.sl [(i 50),(i 5),(i 0),ff,(sL [(w 1)]),(sL [(w 2)]),(i 100),(i 10),(i 0),ff,(sL [(w 1)]),(sL [(w 2)])] 2),(i 0),(.ag [ff,(sL [(w 1)]),(sL [(w 100)]),ff,(sL [(w 1)]),(sL [(w 20)]),ff,(sL [(w 1)]),(sL [(w 50)])]),(.v (.int .u8 1))]
noncomputable def et11:T:=(.tu [(.sl [ff,(sL [(w 3)]),(sL [(w 10)]),ff,(sL [(w 23)]),(sL [(w 50)])] 2),(i 0)])
theorem er11:yI Tryz.prog (evC Tryz.prog noS (orF Tryz.prog (kI qLy) pfs) 1000) 0 23 ea11=some (et11,true):=by kernel_rfl
noncomputable def eb11:List (Nat×(List T→Option (T×Bool))):=(23,bK ea11 (et11,true))::qLy
theorem eo11:qH Tryz.prog (kI eb11):=qH.cons eo10 (vQ (by kernel_rfl) vS eo10 pfs er11) (by kernel_rfl)
noncomputable def ea12:List T:=[]
noncomputable def et12:T:=tt
theorem er12:yI Tryz.prog (evC Tryz.prog noS (orF Tryz.prog (kI eb11) pfs) 1000) 0 16 ea12=some (et12,true):=by kernel_rfl
theorem qQs:KnP Tryz.prog 0 16 [] (.v (.bool true)) true:=vQ (by kernel_rfl) vS eo11 pfs er12
end Go.Proofs.YtdfmdiakjdggbaaGreatDoor
namespace Go.Proofs.YtdfmdiakjdggbaaGreatDoor
open Go Go.Gv Go.Ev Go.RowKit IntKind
noncomputable abbrev bT:Ty:= .prod (.int .u8) (.prod (.int .i64) (.int .i64))
abbrev Rt:=Ty.den zP
abbrev rw'(x:Rt):Raw:=⟨x.1,x.2.1,x.2.2⟩
def fH(a:Raw):Bool:=Nat.ble a.ln.length 1000&&Nat.ble a.ld.length 1000
noncomputable def qBy:List Ar→DT Rs
 | [.r a]=>grd (fH a) (.ret (.one (.r a)))
 | _=> .no
noncomputable def qHe:List Ar→Option Rs:=pRR fun a b=>some (opR a b (a.rat+b.rat),opE a b (a.rat+b.rat))
noncomputable def qNq:List (Nat×(List T→DT (T×Bool))):=[(39,kcT qBy false),(37,kcD (pB fun a b=>decide (a=b)) true),(75,kcD (pR Raw.chk) true),(73,kcD (pR Raw.chk) true),(34,kcD qHe true),(74,kcD qHe false),(47,kcD (pI fun n=>Raw.of (n:Rat)) true),(51,kcD (pI fun n=>Raw.of (n:Rat)) true)]
noncomputable def Lcr:Lp:=⟨0,
 ⟨[.h,.u,.u,.a .a zP 28,.h]++(us' 15),[]⟩,
 ⟨us' 3++([.a .a zP 28]++(us' 16)),[]⟩,
 ⟨us' 20,[]⟩⟩
noncomputable abbrev qIv:Code:=lpc Tryz.prog 21 [false,true,false,true,true]
theorem qKk:cAt Tryz.prog 21 [false,true,false,true,true]=some (.loop qIv):=by kernel_rfl
noncomputable abbrev zLk(OD:Od)(LO:Lo):Hs→Option (Hs⊕(Ex×Hs)):=Lcr.stp (evD Tryz.prog OD LO 60) 21 [false,true,false,true,true] qIv
noncomputable def Ler:Lp:=⟨0,
 ⟨[.h,.h]++(us' 3++([.h]++(us' 21))),[]⟩,
 ⟨us' 27,[]⟩,
 ⟨us' 4++([.h]++(us' 22)),[]⟩⟩
noncomputable abbrev qIw:Code:=lpc Tryz.prog 24 [false,true,false,true,true]
theorem qKm:cAt Tryz.prog 24 [false,true,false,true,true]=some (.loop qIw):=by kernel_rfl
noncomputable abbrev zWx(OD:Od)(LO:Lo):Hs→Option (Hs⊕(Ex×Hs)):=Ler.stp (evD Tryz.prog OD LO 60) 24 [false,true,false,true,true] qIw
noncomputable def Lwd:Lp:=⟨0,
 ⟨[.h,.u,.u,.h]++(us' 25),[]⟩,
 ⟨[.h]++(us' 28),[]⟩,
 ⟨[.u,.u,.h]++(us' 26),[]⟩⟩
noncomputable abbrev qJc:Code:=lpc Tryz.prog 65 [false,true,false,true]
theorem qKt:cAt Tryz.prog 65 [false,true,false,true]=some (.loop qJc):=by kernel_rfl
noncomputable abbrev zRy(OD:Od)(LO:Lo):Hs→Option (Hs⊕(Ex×Hs)):=Lwd.stp (evD Tryz.prog OD LO 60) 65 [false,true,false,true] qJc
noncomputable def Lrc:Lp:=⟨0,
 ⟨[.h,.u,.u,.h]++(us' 53),[]⟩,
 ⟨us' 57,[]⟩,
 ⟨[.u,.u,.h]++(us' 54),[]⟩⟩
noncomputable abbrev qIy:Code:=lpc Tryz.prog 72 [false,true,false,true,true,true]
theorem qKp:cAt Tryz.prog 72 [false,true,false,true,true,true]=some (.loop qIy):=by kernel_rfl
noncomputable abbrev zRx(OD:Od)(LO:Lo):Hs→Option (Hs⊕(Ex×Hs)):=Lrc.stp (evD Tryz.prog OD LO 60) 72 [false,true,false,true,true,true] qIy
noncomputable def Lac:Lp:=⟨0,
 ⟨us' 14++([.h,.h,.h]++(us' 29)),[]⟩,
 ⟨us' 46,[]⟩,
 ⟨[.u,.u,.h]++(us' 43),[]⟩⟩
noncomputable abbrev qIu:Code:=lpc Tryz.prog 36 [false,true,false,true,true]
theorem qKj:cAt Tryz.prog 36 [false,true,false,true,true]=some (.loop qIu):=by kernel_rfl
noncomputable abbrev zRw(OD:Od)(LO:Lo):Hs→Option (Hs⊕(Ex×Hs)):=Lac.stp (evD Tryz.prog OD LO 60) 36 [false,true,false,true,true] qIu
noncomputable def Lra:Lp:=⟨0,
 ⟨[.h,.h]++(us' 4++([.a .a zP 28,.h]++(us' 33))),[]⟩,
 ⟨us' 6++([.a .a zP 28]++(us' 34)),[]⟩,
 ⟨us' 4++([.h,.h]++(us' 35)),[]⟩⟩
noncomputable abbrev qIx:Code:=lpc Tryz.prog 29 [false,true,false,true,true,true]
theorem qKo:cAt Tryz.prog 29 [false,true,false,true,true,true]=some (.loop qIx):=by kernel_rfl
noncomputable abbrev zLl(OD:Od)(LO:Lo):Hs→Option (Hs⊕(Ex×Hs)):=Lra.stp (evD Tryz.prog OD LO 60) 29 [false,true,false,true,true,true] qIx
noncomputable def Lsa:Lp:=⟨0,
 ⟨[.h,.h,.u,.u,.a .n zP 28]++(us' 10++([.h,.h]++(us' 23))),[]⟩,
 ⟨us' 4++([.a .n zP 28]++(us' 35)),[]⟩,
 ⟨us' 4++([.h,.h]++(us' 34)),[]⟩⟩
noncomputable abbrev qJa:Code:=lpc Tryz.prog 31 [false,true,false,true,true]
theorem qKr:cAt Tryz.prog 31 [false,true,false,true,true]=some (.loop qJa):=by kernel_rfl
noncomputable abbrev zLn(OD:Od)(LO:Lo):Hs→Option (Hs⊕(Ex×Hs)):=Lsa.stp (evD Tryz.prog OD LO 60) 31 [false,true,false,true,true] qJa
noncomputable def Lre:Lp:=⟨2,
 ⟨[.h,.u,.h,.h]++(us' 7++([.t (.os 1 0 3 3),.u,.u,.a .a zP 28,.h]++(us' 103))),[.g,.r [.h,.h,.h,.h,.h,.h,.h,.h,.h] 28]⟩,
 ⟨us' 14++([.a .a zP 28]++(us' 104)),[.g,.g]⟩,
 ⟨us' 8++([.h,.h]++(us' 109)),[.g,.g]⟩⟩
noncomputable abbrev qIz:Code:=lpc Tryz.prog 28 [false,true,false,true,true,true,true,true,true,true,true]
theorem qKq:cAt Tryz.prog 28 [false,true,false,true,true,true,true,true,true,true,true]=some (.loop qIz):=by kernel_rfl
noncomputable abbrev zLm(OD:Od)(LO:Lo):Hs→Option (Hs⊕(Ex×Hs)):=Lre.stp (evD Tryz.prog OD LO 60) 28 [false,true,false,true,true,true,true,true,true,true,true] qIz
noncomputable def Lse:Lp:=⟨5,
 ⟨[.u,.u,.h,.h,.u,.t (.op 0 0),.u,.u,.a .n zP 28]++(us' 47++([.h,.h,.h]++(us' 54))),[.r [.h,.h,.h,.h,.h,.h,.h,.h,.h] 35,.g,.g,.g,.g]⟩,
 ⟨us' 8++([.a .n zP 28]++(us' 104)),[.g,.g,.g,.g,.g]⟩,
 ⟨us' 8++([.h,.h]++(us' 103)),[.g,.g,.g,.g,.g]⟩⟩
noncomputable abbrev qJb:Code:=lpc Tryz.prog 30 [false,true,false,true,true,true,true]
theorem qKs:cAt Tryz.prog 30 [false,true,false,true,true,true,true]=some (.loop qJb):=by kernel_rfl
noncomputable abbrev zLo(OD:Od)(LO:Lo):Hs→Option (Hs⊕(Ex×Hs)):=Lse.stp (evD Tryz.prog OD LO 60) 30 [false,true,false,true,true,true,true] qJb
noncomputable def nx{α:Type}(i:Nat)(x:α):Option α:=bif Nat.blt (i+1) 9223372036854775808 then some x else none
theorem bC{α:Type}{i:Nat}{x:α}(h:i+1<9223372036854775808):nx i x=some x:=by
 unfold nx;rw[jA h];rfl
noncomputable abbrev OX:Od:=odT qNq
noncomputable abbrev LX:Lo:=loT []
noncomputable abbrev rAt(l:List Rt)(i:Nat):Raw:=rw' (nth zP.zero l i)
noncomputable abbrev bAt(l:List bT.den)(i:Nat):bT.den:=nth bT.zero l i
noncomputable abbrev St':=Option (Hs⊕(Ex×Hs))
noncomputable def iCr(l:List Rt)(i:Nat)(a:List Rt):Hs:=⟨[.ls .a zP l,.v (.int .i64 (.ofNat i))],[.ls .a zP a],[]⟩
theorem sCr0(l:List Rt)(i:Nat):zLk OX LX (iCr l i [])=bif Nat.blt i l.length then(bif Nat.blt i l.length then(bif fH (rAt l i)then nx i (.inl (iCr l (i+1) [nth zP.zero l i]))else none)else none)else some (.inr (.x 0,⟨[],[.ls .a zP []],[]⟩)):=by kernel_rfl
noncomputable def iEr(l m:List Rt)(i:Nat):Hs:=⟨[.ls .a zP l,.ls .a zP m,.v (.int .i64 (.ofNat i))],[],[]⟩
theorem sEr(l m:List Rt)(i:Nat):zWx OX LX (iEr l m i)=bif Nat.blt i l.length then(bif Nat.blt i l.length then(bif Nat.blt i m.length then(bif !decide (rAt l i=rAt m i)then some (.inr (.r,⟨[.v (.bool false)],[],[]⟩))else nx i (.inl (iEr l m (i+1))))else none)else none)else some (.inr (.x 0,⟨[],[],[]⟩)):=by kernel_rfl
noncomputable abbrev outT:St':=some (.inr (.r,⟨[.v (.bool true)],[],[]⟩))
noncomputable def iWd(l:List Rt)(i:Nat):Hs:=⟨[.ls .a zP l,.v (.int .i64 (.ofNat i))],[],[]⟩
theorem sWd(l:List Rt)(i:Nat):zRy OX LX (iWd l i)=bif Nat.blt i l.length then(bif Nat.blt i l.length then(bif ilt (.ofNat 20) (.ofNat (rAt l i).ln.length)then outT else(bif Nat.blt i l.length then(bif ilt (.ofNat 20) (.ofNat (rAt l i).ld.length)then outT else nx i (.inl (iWd l (i+1))))else none))else none)else some (.inr (.x 0,⟨[.ls .a zP l],[],[]⟩)):=by kernel_rfl
noncomputable abbrev zNv(e:Nat):St':=some (.inr (.r,⟨[.v (.int .i64 (.ofNat e))],[],[]⟩))
noncomputable abbrev rcB(g:Bool)(x:bT.den)(k:St'):St':=bif g then(bif g then(bif ilt x.2.2 x.2.1 then zNv 1 else(bif g then(bif ilt x.2.1 (.negSucc 99)then zNv 1 else(bif g then(bif ilt (.ofNat 100) x.2.2 then zNv 1 else k)else none))else none))else none)else none
noncomputable def iRc(l:List bT.den)(i:Nat):Hs:=⟨[.ls .a bT l,.v (.int .i64 (.ofNat i))],[],[]⟩
theorem sRc(l:List bT.den)(i:Nat):zRx OX LX (iRc l i)=bif Nat.blt i l.length then(bif Nat.blt i l.length then(bif !ieq (bAt l i).1 1 then(bif Nat.blt i l.length then(bif !ieq (bAt l i).1 2 then zNv 6 else rcB (Nat.blt i l.length) (bAt l i) (nx i (.inl (iRc l (i+1)))))else none)else rcB (Nat.blt i l.length) (bAt l i) (nx i (.inl (iRc l (i+1)))))else none)else some (.inr (.x 0,⟨[],[],[]⟩)):=by kernel_rfl
noncomputable abbrev acB(x:bT.den)(k:St'):St':=bif ilt x.2.2 x.2.1 then zNv 1 else(bif ilt x.2.1 (.negSucc 99)then zNv 1 else(bif ilt (.ofNat 100) x.2.2 then zNv 1 else k))
noncomputable def iAc(l:List bT.den)(n i:Nat):Hs:=⟨[.ls .a bT l,.v (.int .i64 (.ofNat n)),.v (.int .i64 (.ofNat i))],[],[]⟩
theorem sAc(l:List bT.den)(n i:Nat):zRw OX LX (iAc l n i)=bif Nat.blt i n then(bif Nat.blt i l.length then(bif !ieq (bAt l i).1 1 then(bif !ieq (bAt l i).1 2 then zNv 6 else acB (bAt l i) (nx i (.inl (iAc l n (i+1)))))else acB (bAt l i) (nx i (.inl (iAc l n (i+1)))))else none)else some (.inr (.x 1,⟨[],[],[]⟩)):=by kernel_rfl
noncomputable abbrev adR(a b:Raw):Raw:=opR a b (a.rat+b.rat)
noncomputable abbrev adE(a b:Raw):Int:=opE a b (a.rat+b.rat)
noncomputable abbrev toT(a:Raw):Rt:=(a.neg,a.ln,a.ld)
noncomputable def iRa(l m:List Rt)(i:Nat)(a:List Rt):Hs:=⟨[.ls .a zP l,.ls .a zP m,.v (.int .i64 (.ofNat i))],[.ls .a zP a],[]⟩
theorem sRa0(l m:List Rt)(i:Nat):zLl OX LX (iRa l m i [])=bif Nat.blt i l.length then(bif Nat.blt i l.length then(bif Nat.blt i m.length then(bif !ieq (adE (rAt l i) (rAt m i)) 0 then some (.inr (.r,⟨[.v (.slice none 0 0),.v (.int .i64 (adE (rAt l i) (rAt m i)))],[],[]⟩))else nx i (.inl (iRa l m (i+1) [toT (adR (rAt l i) (rAt m i))])))else none)else none)else some (.inr (.x 0,⟨[],[.ls .a zP []],[]⟩)):=by kernel_rfl
noncomputable def iSa(l m:List Rt)(n i:Nat)(a:List Rt):Hs:=⟨[.ls .a zP l,.ls .a zP m,.v (.int .i64 (.ofNat n)),.v (.int .i64 (.ofNat i))],[.ls .n zP a],[]⟩
theorem sSa0(l m:List Rt)(n i:Nat):zLn OX LX (iSa l m n i [])=bif Nat.blt i n then(bif Nat.blt i l.length then(bif Nat.blt i m.length then(bif !ieq (adE (rAt l i) (rAt m i)) 0 then some (.inr (.r,⟨[.v (.slice none 0 0),.v (.int .i64 (adE (rAt l i) (rAt m i)))],[],[]⟩))else nx i (.inl (iSa l m n (i+1) [toT (adR (rAt l i) (rAt m i))])))else none)else none)else some (.inr (.x 0,⟨[],[.ls .n zP []],[]⟩)):=by kernel_rfl
noncomputable abbrev z0:Raw:=Raw.of ((0:Int):Rat)
noncomputable abbrev erX(e:Int):St':=some (.inr (.r,⟨[.v (.slice none 0 0),.v (.int .i64 e)],[],[[],[]]⟩))
noncomputable abbrev erY(e:Int):St':=some (.inr (.r,⟨[.v (.slice none 0 0),.v (.int .i64 e)],[],[[],[],[],[],[]]⟩))
noncomputable abbrev erW(k:Raw→St')(e:Int):St':=bif !ieq e 0 then erY e else k ⟨false,[],[]⟩
noncomputable abbrev cA(er:Int→St')(v:Bool)(a c:Raw)(k:Raw→St'):St':=bif !v then k a else(bif !ieq (adE a c) 0 then er (adE a c)else k (adR a c))
noncomputable abbrev on9(c d e:Raw):List T:=[.v (.bool c.neg),.ls .a .lim c.ln,.ls .a .lim c.ld,.v (.bool d.neg),.ls .a .lim d.ln,.ls .a .lim d.ld,.v (.bool e.neg),.ls .a .lim e.ln,.ls .a .lim e.ld]
noncomputable def iRe(l:List bT.den)(p h:Int)(c d e:Raw)(i:Nat)(a:List Rt):Hs:=⟨[.ls .a bT l,.v (.int .i64 p),.v (.int .u8 h),.v (.int .i64 (.ofNat i))],[.ls .a zP a],[[],on9 c d e]⟩
noncomputable abbrev reS(c d e:Raw)(p:Int)(i:Nat)(v1 v2:Bool)(k:Raw→St'):St':=cA erX (!ieq (.ofNat i) p) z0 c fun a=>cA erX v1 a d fun a=>cA erX v2 a e k
noncomputable abbrev reT(c d e:Raw)(p:Int)(i:Nat)(v1:Bool)(k:Raw→St'):St':=bif ieq (.ofNat i) 0 then reS c d e p i v1 (ilt 0 p) k else reS c d e p i v1 false k
noncomputable abbrev reB(l:List bT.den)(p h:Int)(c d e:Raw)(i:Nat)(k:Raw→St'):St':=bif ilt 0 (.ofNat i)then(bif !ieq h 0 then(bif Nat.blt i l.length then reT c d e p i (ieq (bAt l i).1 h) k else none)else reT c d e p i false k)else reT c d e p i false k
theorem sRe0(l:List bT.den)(p h:Int)(c d e:Raw)(i:Nat):zLm OX LX (iRe l p h c d e i [])=bif Nat.blt i l.length then reB l p h c d e i (fun s=>nx i (.inl (iRe l p h c d e (i+1) [toT s])))else some (.inr (.x 2,⟨[],[.ls .a zP []],[[],[]]⟩)):=by kernel_rfl
noncomputable def iSe(m:List bT.den)(n:Nat)(p h:Int)(c d e:Raw)(i:Nat)(a:List Rt):Hs:=⟨[.v (.int .i64 p),.v (.int .u8 h),.ls .a bT m,.v (.int .i64 (.ofNat n)),.v (.int .i64 (.ofNat i))],[.ls .n zP a],[on9 c d e,[],[],[],[]]⟩
noncomputable abbrev seS(c d e:Raw)(v0 v1 v2:Bool)(k:Raw→St'):St':=cA (erW k) v0 z0 c fun a=>cA (erW k) v1 a d fun a=>cA (erW k) v2 a e k
noncomputable abbrev seC(c d e:Raw)(p:Int)(i:Nat)(v0 v1:Bool)(k:Raw→St'):St':=bif ieq (.ofNat i) 0 then(bif !ieq p 0 then seS c d e v0 v1 true k else seS c d e v0 v1 false k)else seS c d e v0 v1 false k
noncomputable abbrev seA(x:bT.den)(p h:Int)(c d e:Raw)(i:Nat)(v0:Bool)(k:Raw→St'):St':=bif !ieq (.ofNat i) 0 then(bif !ieq h 0 then(bif ieq x.1 h then seC c d e p i v0 true k else seC c d e p i v0 false k)else seC c d e p i v0 false k)else seC c d e p i v0 false k
noncomputable abbrev seB(x:bT.den)(p h:Int)(c d e:Raw)(i:Nat)(k:Raw→St'):St':=bif !ieq (.ofNat i) p then seA x p h c d e i true k else seA x p h c d e i false k
theorem sSe0(m:List bT.den)(n:Nat)(p h:Int)(c d e:Raw)(i:Nat):zLo OX LX (iSe m n p h c d e i [])=bif Nat.blt i n then(bif Nat.blt i m.length then seB (bAt m i) p h c d e i (fun s=>nx i (.inl (iSe m n p h c d e (i+1) [toT s])))else none)else some (.inr (.x 3,⟨[],[.ls .n zP []],[[],[],[],[],[]]⟩)):=by kernel_rfl
noncomputable def ad(v:Bool)(a c:Raw):Raw⊕Int:=bif !v then .inl a else(bif !ieq (adE a c) 0 then .inr (adE a c)else .inl (adR a c))
def bi{α:Type}(s:Raw⊕Int)(f:Raw→α⊕Int):α⊕Int:=match s with | .inl a=>f a | .inr e=> .inr e
noncomputable def aM(er:Int→St')(k:Raw→St')(s:Raw⊕Int):St':=match s with | .inl a=>k a | .inr e=>er e
theorem zXt(er:Int→St')(v:Bool)(a c:Raw)(k:Raw→St'):cA er v a c k=aM er k (ad v a c):=by
 unfold ad;cases v with
 | false=>rfl
 | true=>cases h:ieq (adE a c) 0<;>simp only[cA,h,Bool.not_true,Bool.not_false,cond_true,cond_false,aM]
theorem qJo(er:Int→St')(v:Bool)(a c:Raw)(k:Raw→St')(f:Raw→Raw⊕Int):cA er v a c (fun x=>aM er k (f x))=aM er k (bi (ad v a c) f):=by
 unfold ad;cases v with
 | false=>rfl
 | true=>cases h:ieq (adE a c) 0<;>simp only[cA,h,Bool.not_true,Bool.not_false,cond_true,cond_false,aM,bi]
theorem cA_w(k:Raw→St')(v:Bool)(a c:Raw)(k':Raw→St'):cA (erW k) v a c k'=cA erY v a c k':=by
 cases v with
 | false=>rfl
 | true=>cases h:ieq (adE a c) 0<;>simp only[cA,erW,h,Bool.not_true,Bool.not_false,cond_true,cond_false]
noncomputable def exS(c d e:Raw)(v0 v1 v2:Bool):Raw⊕Int:=bi (ad v0 z0 c) fun a=>bi (ad v1 a d) fun a=>ad v2 a e
theorem qOw(c d e:Raw)(p:Int)(i:Nat)(v1 v2:Bool)(k:Raw→St'):reS c d e p i v1 v2 k=aM erX k (exS c d e (!ieq (.ofNat i) p) v1 v2):=by
 unfold exS;simp only[reS,zXt erX v2,qJo erX]
theorem qPe(c d e:Raw)(v0 v1 v2:Bool)(k:Raw→St'):seS c d e v0 v1 v2 k=aM erY k (exS c d e v0 v1 v2):=by
 unfold exS;simp only[seS,cA_w,zXt erY v2,qJo erY]
noncomputable def exX(x:bT.den)(p h:Int)(c d e:Raw)(i:Nat):Raw⊕Int:=exS c d e (!ieq (.ofNat i) p) (ilt 0 (.ofNat i)&&(!ieq h 0&&ieq x.1 h)) (ieq (.ofNat i) 0&&ilt 0 p)
theorem qCp(l:List bT.den)(p h:Int)(c d e:Raw)(i:Nat)(hi:i<l.length)(k:Raw→St'):reB l p h c d e i k=aM erX k (exX (bAt l i) p h c d e i):=by
 unfold exX;simp only[reB,reT,qOw,jA hi,cond_true];cases ilt 0 (.ofNat i)<;>cases ieq h 0<;>cases ieq (.ofNat i) 0<;>rfl
theorem zMy(i:Nat):(!ieq (.ofNat i) 0)=ilt 0 (.ofNat i):=by cases i<;>rfl
theorem qFr{p:Int}(hp:0≤p):(!ieq p 0)=ilt 0 p:=by
 cases p with
 | ofNat n=>exact zMy n
 | negSucc n=>omega
theorem qCv(x:bT.den)(p h:Int)(c d e:Raw)(i:Nat)(hp:0≤p)(k:Raw→St'):seB x p h c d e i k=aM erY k (exX x p h c d e i):=by
 unfold exX;simp only[seB,seA,seC,qPe,qFr hp,zMy];cases ieq (.ofNat i) p<;>cases ilt 0 (.ofNat i)<;>cases ieq h 0<;>cases ieq x.1 h<;>cases ieq (.ofNat i) 0<;>cases ilt 0 p<;>rfl
noncomputable abbrev pu(i:Nat)(a:List Rt)(z:Hs):St':=bif Nat.ble (a.length+1+1) 4021071095712 then(bif Nat.beq (a.length+1) (a.length+1)then(bif Nat.blt (i+1) 9223372036854775808 then(bif Nat.beq (a.length+1+1) (a.length+1+1)then some (.inl z)else none)else none)else none)else none
theorem zOd{i:Nat}{a:List Rt}{z:Hs}(h:i<4000000000000)(ha:a.length<4000000000000):pu i a z=some (.inl z):=by
 simp only[pu,yR (show a.length+1+1≤4021071095712 by omega),kF,jA (show i+1<9223372036854775808 by omega),cond_true]
theorem sCr1(l:List Rt)(i:Nat)(x:Rt)(a:List Rt):zLk OX LX (iCr l i (x::a))=bif Nat.blt i l.length then(bif Nat.blt i l.length then(bif fH (rAt l i)then pu i a (iCr l (i+1) (nth zP.zero l i::x::a))else none)else none)else(bif Nat.beq (a.length+1) (a.length+1)then some (.inr (.x 0,⟨[],[.ls .a zP (x::a)],[]⟩))else none):=by kernel_rfl
theorem sRa1(l m:List Rt)(i:Nat)(x:Rt)(a:List Rt):zLl OX LX (iRa l m i (x::a))=bif Nat.blt i l.length then(bif Nat.blt i l.length then(bif Nat.blt i m.length then(bif !ieq (adE (rAt l i) (rAt m i)) 0 then some (.inr (.r,⟨[.v (.slice none 0 0),.v (.int .i64 (adE (rAt l i) (rAt m i)))],[],[]⟩))else pu i a (iRa l m (i+1) (toT (adR (rAt l i) (rAt m i))::x::a)))else none)else none)else(bif Nat.beq (a.length+1) (a.length+1)then some (.inr (.x 0,⟨[],[.ls .a zP (x::a)],[]⟩))else none):=by kernel_rfl
theorem sSa1(l m:List Rt)(n i:Nat)(x:Rt)(a:List Rt):zLn OX LX (iSa l m n i (x::a))=bif Nat.blt i n then(bif Nat.blt i l.length then(bif Nat.blt i m.length then(bif !ieq (adE (rAt l i) (rAt m i)) 0 then some (.inr (.r,⟨[.v (.slice none 0 0),.v (.int .i64 (adE (rAt l i) (rAt m i)))],[],[]⟩))else pu i a (iSa l m n (i+1) (toT (adR (rAt l i) (rAt m i))::x::a)))else none)else none)else(bif Nat.beq (a.length+1) (a.length+1)then some (.inr (.x 0,⟨[],[.ls .n zP (x::a)],[]⟩))else none):=by kernel_rfl
theorem sRe1(l:List bT.den)(p h:Int)(c d e:Raw)(i:Nat)(x:Rt)(a:List Rt):zLm OX LX (iRe l p h c d e i (x::a))=bif Nat.blt i l.length then reB l p h c d e i (fun s=>pu i a (iRe l p h c d e (i+1) (toT s::x::a)))else(bif Nat.beq (a.length+1) (a.length+1)then some (.inr (.x 2,⟨[],[.ls .a zP (x::a)],[[],[]]⟩))else none):=by kernel_rfl
theorem sSe1(m:List bT.den)(n:Nat)(p h:Int)(c d e:Raw)(i:Nat)(x:Rt)(a:List Rt):zLo OX LX (iSe m n p h c d e i (x::a))=bif Nat.blt i n then(bif Nat.blt i m.length then seB (bAt m i) p h c d e i (fun s=>pu i a (iSe m n p h c d e (i+1) (toT s::x::a)))else none)else(bif Nat.beq (a.length+1) (a.length+1)then some (.inr (.x 3,⟨[],[.ls .n zP (x::a)],[[],[],[],[],[]]⟩))else none):=by kernel_rfl
noncomputable def gEx(l:List bT.den)(p h:Int)(c d e:Raw)(i:Nat)(a:List Rt):List Rt⊕(List Rt⊕Int):=match exX (bAt l i) p h c d e i with | .inl s=> .inl (toT s::a) | .inr y=> .inr (.inr y)
noncomputable def exF(l:List bT.den)(p h:Int)(c d e:Raw):List Rt⊕Int:=fol (gEx l p h c d e) .inl l.length 0 []
noncomputable def gAd(l m:List Rt)(i:Nat)(a:List Rt):List Rt⊕(List Rt⊕Int):=bif !ieq (adE (rAt l i) (rAt m i)) 0 then .inr (.inr (adE (rAt l i) (rAt m i)))else .inl (toT (adR (rAt l i) (rAt m i))::a)
noncomputable def adF(l m:List Rt):List Rt⊕Int:=fol (gAd l m) .inl l.length 0 []
noncomputable def zKj(id:Nat)(g:Tg)(ks:List (List T)):List Rt⊕Int→Ex×Hs
 | .inl a=>(.x id,⟨[],[.ls g zP a],ks⟩)
 | .inr y=>(.r,⟨[.v (.slice none 0 0),.v (.int .i64 y)],[],ks⟩)
theorem zSn{l:List bT.den}{p h:Int}{c d e:Raw}{i:Nat}{a b:List Rt}(hJ:a.length=i)(hg:gEx l p h c d e i a= .inl b):b.length=i+1:=by
 unfold gEx at hg;split at hg
 ·cases hg;simp[hJ]
 ·cases hg
theorem zSm{l m:List Rt}{i:Nat}{a b:List Rt}(hJ:a.length=i)(hg:gAd l m i a= .inl b):b.length=i+1:=by
 unfold gAd at hg;cases hq:ieq (adE (rAt l i) (rAt m i)) 0 with
 | false=>simp only[hq,Bool.not_false,cond_true]at hg;cases hg
 | true=>simp only[hq,Bool.not_true,cond_false]at hg;cases hg;simp[hJ]
theorem itRe(l:List bT.den)(p h:Int)(c d e:Raw)(h9:l.length≤900):∃m,It (zLm OX LX) m (iRe l p h c d e 0 []) (zKj 2 .a [[],[]] (exF l p h c d e)):=
 tY (st:=zLm OX LX) (iv:=iRe l p h c d e) (g:=gEx l p h c d e) (d:= .inl) (out:=zKj 2 .a [[],[]]) (n:=l.length) (fun i a=>a.length=i)
  (fun i a hi hJ=>by
   unfold gEx;cases a with
   | nil=>
    rw[sRe0];simp only[jA hi,cond_true,qCp l p h c d e i hi];cases exX (bAt l i) p h c d e i with
    | inl s=>simp only[aM,bC (show i+1<9223372036854775808 by omega)]
    | inr y=>rfl
   | cons x a=>
    rw[sRe1];simp only[List.length_cons]at hJ;simp only[jA hi,cond_true,qCp l p h c d e i hi];cases exX (bAt l i) p h c d e i with
    | inl s=>simp only[aM,zOd (show i<4000000000000 by omega) (show a.length<4000000000000 by omega)]
    | inr y=>rfl)
  (fun i a b _ hJ hg=>zSn hJ hg)
  (fun a _=>by
   cases a with
   | nil=>rw[sRe0];simp only[xC (Nat.le_refl _),cond_false];rfl
   | cons x a=>rw[sRe1];simp only[xC (Nat.le_refl _),cond_false,kF,cond_true];rfl) l.length 0 [] (by omega) rfl
theorem itSe(l:List bT.den)(p h:Int)(c d e:Raw)(hp:0≤p)(h9:l.length≤900):∃m,It (zLo OX LX) m (iSe l l.length p h c d e 0 []) (zKj 3 .n [[],[],[],[],[]] (exF l p h c d e)):=
 tY (st:=zLo OX LX) (iv:=iSe l l.length p h c d e) (g:=gEx l p h c d e) (d:= .inl) (out:=zKj 3 .n [[],[],[],[],[]]) (n:=l.length) (fun i a=>a.length=i)
  (fun i a hi hJ=>by
   unfold gEx;cases a with
   | nil=>
    rw[sSe0];simp only[jA hi,cond_true,qCv (bAt l i) p h c d e i hp];cases exX (bAt l i) p h c d e i with
    | inl s=>simp only[aM,bC (show i+1<9223372036854775808 by omega)]
    | inr y=>rfl
   | cons x a=>
    rw[sSe1];simp only[List.length_cons]at hJ;simp only[jA hi,cond_true,qCv (bAt l i) p h c d e i hp];cases exX (bAt l i) p h c d e i with
    | inl s=>simp only[aM,zOd (show i<4000000000000 by omega) (show a.length<4000000000000 by omega)]
    | inr y=>rfl)
  (fun i a b _ hJ hg=>zSn hJ hg)
  (fun a _=>by
   cases a with
   | nil=>rw[sSe0];simp only[xC (Nat.le_refl _),cond_false];rfl
   | cons x a=>rw[sSe1];simp only[xC (Nat.le_refl _),cond_false,kF,cond_true];rfl) l.length 0 [] (by omega) rfl
theorem itRa(l m:List Rt)(hm:m.length=l.length)(h9:l.length≤3000000000000):∃k,It (zLl OX LX) k (iRa l m 0 []) (zKj 0 .a [] (adF l m)):=
 tY (st:=zLl OX LX) (iv:=iRa l m) (g:=gAd l m) (d:= .inl) (out:=zKj 0 .a []) (n:=l.length) (fun i a=>a.length=i)
  (fun i a hi hJ=>by
   unfold gAd;have hi2:i<m.length:=by omega
   cases a with
   | nil=>
    rw[sRa0];simp only[jA hi,jA hi2,cond_true];cases ieq (adE (rAt l i) (rAt m i)) 0 with
    | true=>simp only[Bool.not_true,cond_false,bC (show i+1<9223372036854775808 by omega)]
    | false=>rfl
   | cons x a=>
    rw[sRa1];simp only[List.length_cons]at hJ;simp only[jA hi,jA hi2,cond_true];cases ieq (adE (rAt l i) (rAt m i)) 0 with
    | true=>simp only[Bool.not_true,cond_false,zOd (show i<4000000000000 by omega) (show a.length<4000000000000 by omega)]
    | false=>rfl)
  (fun i a b _ hJ hg=>zSm hJ hg)
  (fun a _=>by
   cases a with
   | nil=>rw[sRa0];simp only[xC (Nat.le_refl _),cond_false];rfl
   | cons x a=>rw[sRa1];simp only[xC (Nat.le_refl _),cond_false,kF,cond_true];rfl) l.length 0 [] (by omega) rfl
theorem itSa(l m:List Rt)(hm:m.length=l.length)(h9:l.length≤3000000000000):∃k,It (zLn OX LX) k (iSa l m l.length 0 []) (zKj 0 .n [] (adF l m)):=
 tY (st:=zLn OX LX) (iv:=iSa l m l.length) (g:=gAd l m) (d:= .inl) (out:=zKj 0 .n []) (n:=l.length) (fun i a=>a.length=i)
  (fun i a hi hJ=>by
   unfold gAd;have hi2:i<m.length:=by omega
   cases a with
   | nil=>
    rw[sSa0];simp only[jA hi,jA hi2,cond_true];cases ieq (adE (rAt l i) (rAt m i)) 0 with
    | true=>simp only[Bool.not_true,cond_false,bC (show i+1<9223372036854775808 by omega)]
    | false=>rfl
   | cons x a=>
    rw[sSa1];simp only[List.length_cons]at hJ;simp only[jA hi,jA hi2,cond_true];cases ieq (adE (rAt l i) (rAt m i)) 0 with
    | true=>simp only[Bool.not_true,cond_false,zOd (show i<4000000000000 by omega) (show a.length<4000000000000 by omega)]
    | false=>rfl)
  (fun i a b _ hJ hg=>zSm hJ hg)
  (fun a _=>by
   cases a with
   | nil=>rw[sSa0];simp only[xC (Nat.le_refl _),cond_false];rfl
   | cons x a=>rw[sSa1];simp only[xC (Nat.le_refl _),cond_false,kF,cond_true];rfl) l.length 0 [] (by omega) rfl
noncomputable def wdX(x:Raw):Bool:=ilt (.ofNat 20) (.ofNat x.ln.length)||ilt (.ofNat 20) (.ofNat x.ld.length)
noncomputable def gWd(l:List Rt)(i:Nat)(_:Unit):Unit⊕Bool:=bif wdX (rAt l i)then .inr true else .inl ()
noncomputable def wdF(l:List Rt):Bool:=fol (gWd l) (fun _=>false) l.length 0 ()
noncomputable def outW(l:List Rt)(y:Bool):Ex×Hs:=bif y then(.r,⟨[.v (.bool true)],[],[]⟩)else(.x 0,⟨[.ls .a zP l],[],[]⟩)
theorem itWd(l:List Rt)(h9:l.length<9223372036854775808):∃m,It (zRy OX LX) m (iWd l 0) (outW l (wdF l)):=
 tY (st:=zRy OX LX) (iv:=fun i(_:Unit)=>iWd l i) (g:=gWd l) (d:=fun _=>false) (out:=outW l) (n:=l.length) (fun _ _=>True)
  (fun i _ hi _=>by
   rw[sWd];unfold gWd wdX;simp only[jA hi,cond_true,bC (show i+1<9223372036854775808 by omega)]
   cases ilt (.ofNat 20) (.ofNat (rAt l i).ln.length)<;>cases ilt (.ofNat 20) (.ofNat (rAt l i).ld.length)<;>rfl)
  (fun _ _ _ _ _ _=>trivial)
  (fun _ _=>by rw[sWd];simp only[xC (Nat.le_refl _),cond_false];rfl) l.length 0 () (by omega) trivial
noncomputable def chX(x:bT.den):Nat:=bif !ieq x.1 1&&!ieq x.1 2 then 6 else(bif ilt x.2.2 x.2.1||(ilt x.2.1 (.negSucc 99)||ilt (.ofNat 100) x.2.2)then 1 else 0)
noncomputable def gCh(l:List bT.den)(i:Nat)(_:Unit):Unit⊕Nat:=match chX (bAt l i)with | 0=> .inl () | e+1=> .inr (e+1)
noncomputable def qBt(id:Nat):Nat→Ex×Hs
 | 0=>(.x id,⟨[],[],[]⟩)
 | e+1=>(.r,⟨[.v (.int .i64 (.ofNat (e+1)))],[],[]⟩)
noncomputable def rcF(l:List bT.den):Nat:=fol (gCh l) (fun _=>0) (l.length-1) 1 ()
noncomputable def acF(l:List bT.den):Nat:=fol (gCh l) (fun _=>0) l.length 0 ()
theorem itRc(l:List bT.den)(h1:1≤l.length)(h9:l.length≤900):∃m,It (zRx OX LX) m (iRc l 1) (qBt 0 (rcF l)):=
 tY (st:=zRx OX LX) (iv:=fun i(_:Unit)=>iRc l i) (g:=gCh l) (d:=fun _=>0) (out:=qBt 0) (n:=l.length) (fun _ _=>True)
  (fun i _ hi _=>by
   rw[sRc];unfold gCh chX;simp only[jA hi,cond_true,rcB,bC (show i+1<9223372036854775808 by omega)]
   cases ieq (bAt l i).1 1<;>cases ieq (bAt l i).1 2<;>cases ilt (bAt l i).2.2 (bAt l i).2.1<;>cases ilt (bAt l i).2.1 (.negSucc 99)<;>cases ilt (.ofNat 100) (bAt l i).2.2<;>rfl)
  (fun _ _ _ _ _ _=>trivial)
  (fun _ _=>by rw[sRc];simp only[xC (Nat.le_refl _),cond_false];rfl) (l.length-1) 1 () (by omega) trivial
theorem itAc(l:List bT.den)(h9:l.length≤900):∃m,It (zRw OX LX) m (iAc l l.length 0) (qBt 1 (acF l)):=
 tY (st:=zRw OX LX) (iv:=fun i(_:Unit)=>iAc l l.length i) (g:=gCh l) (d:=fun _=>0) (out:=qBt 1) (n:=l.length) (fun _ _=>True)
  (fun i _ hi _=>by
   rw[sAc];unfold gCh chX;simp only[jA hi,cond_true,acB,bC (show i+1<9223372036854775808 by omega)]
   cases ieq (bAt l i).1 1<;>cases ieq (bAt l i).1 2<;>cases ilt (bAt l i).2.2 (bAt l i).2.1<;>cases ilt (bAt l i).2.1 (.negSucc 99)<;>cases ilt (.ofNat 100) (bAt l i).2.2<;>rfl)
  (fun _ _ _ _ _ _=>trivial)
  (fun _ _=>by rw[sAc];simp only[xC (Nat.le_refl _),cond_false];rfl) l.length 0 () (by omega) trivial
theorem zMg(x:bT.den)(l:List bT.den):∀(k i:Nat),fol (gCh (x::l)) (fun _=>0) k (i+1) ()=fol (gCh l) (fun _=>0) k i ()
 | 0,_=>rfl
 | k+1,i=>by
  have e:gCh (x::l) (i+1) ()=gCh l i ():=rfl;simp only[fol,e];cases gCh l i ()with
  | inl u=>exact zMg x l k (i+1)
  | inr y=>rfl
theorem qKw(x:bT.den)(l:List bT.den):rcF (x::l)=acF l:=zMg x l _ 0
def isL(s:List Rt⊕Int):Bool:=match s with | .inl _=>true | .inr _=>false
def rws(s:List Rt⊕Int):List Rt:=match s with | .inl a=>a | .inr _=>[]
def erI(s:List Rt⊕Int):Int:=match s with | .inl _=>0 | .inr e=>e
noncomputable def cn(l:List Rt):List Rt:=l.headD zP.zero::l.tail
noncomputable def dX(id:Nat)(g:Tg)(ks:List (List T))(s:List Rt⊕Int):DT (Ex×Hs):= .ite (isL s) (.ite (emp (rws s)) (.ret (.x id,⟨[],[.ls g zP []],ks⟩)) (.ret (.x id,⟨[],[.ls g zP (cn (rws s))],ks⟩))) (.ret (.r,⟨[.v (.slice none 0 0),.v (.int .i64 (erI s))],[],ks⟩))
theorem zJk(id:Nat)(g:Tg)(ks:List (List T))(s:List Rt⊕Int):(dX id g ks s).run=some (zKj id g ks s):=by
 cases s with
 | inr e=>rfl
 | inl a=>cases a<;>rfl
noncomputable def hRe:Hs→DT (Ex×Hs)
 | ⟨[.ls .a (.prod (.int .u8) (.prod (.int .i64) (.int .i64))) l,.v (.int .i64 p),.v (.int .u8 h),.v (.int .i64 (.ofNat 0))],[.ls .a zP []],[[],[.v (.bool b1),.ls .a .lim l1,.ls .a .lim l2,.v (.bool b2),.ls .a .lim l3,.ls .a .lim l4,.v (.bool b3),.ls .a .lim l5,.ls .a .lim l6]]⟩=>grd (Nat.ble l.length 900) (dX 2 .a [[],[]] (exF l p h ⟨b1,l1,l2⟩ ⟨b2,l3,l4⟩ ⟨b3,l5,l6⟩))
 | _=> .no
theorem qMo:∀q y,(hRe q).run=some y→∃n,It (zLm OX LX) n q y:=fun q y h=>by
 unfold hRe at h;split at h
 ·rename_i l p h' b1 l1 l2 b2 l3 l4 b3 l5 l6;obtain⟨h1,h2⟩:=zZ h;rw[zJk]at h2;cases h2;exact itRe l p h' ⟨b1,l1,l2⟩ ⟨b2,l3,l4⟩ ⟨b3,l5,l6⟩ (Nat.le_of_ble_eq_true h1)
 ·cases h
noncomputable def hRa:Hs→DT (Ex×Hs)
 | ⟨[.ls .a zP l,.ls .a zP m,.v (.int .i64 (.ofNat 0))],[.ls .a zP []],[]⟩=>grd (Nat.beq m.length l.length&&Nat.ble l.length 3000000000000) (dX 0 .a [] (adF l m))
 | _=> .no
theorem qMm:∀q y,(hRa q).run=some y→∃n,It (zLl OX LX) n q y:=fun q y h=>by
 unfold hRa at h;split at h
 ·obtain⟨h1,h2⟩:=zZ h;rw[zJk]at h2;cases h2;simp only[Bool.and_eq_true]at h1;exact itRa _ _ (zY h1.1) (Nat.le_of_ble_eq_true h1.2)
 ·cases h
noncomputable def hSe:Hs→DT (Ex×Hs)
 | ⟨[.v (.int .i64 p),.v (.int .u8 h),.ls .a (.prod (.int .u8) (.prod (.int .i64) (.int .i64))) l,.v (.int .i64 (.ofNat n)),.v (.int .i64 (.ofNat 0))],[.ls .n zP []],[[.v (.bool b1),.ls .a .lim l1,.ls .a .lim l2,.v (.bool b2),.ls .a .lim l3,.ls .a .lim l4,.v (.bool b3),.ls .a .lim l5,.ls .a .lim l6],[],[],[],[]]⟩=>grd (Nat.beq n l.length&&(Nat.ble l.length 900&&nng p)) (dX 3 .n [[],[],[],[],[]] (exF l p h ⟨b1,l1,l2⟩ ⟨b2,l3,l4⟩ ⟨b3,l5,l6⟩))
 | _=> .no
theorem qNn{p:Int}(h:nng p=true):0≤p:=by
 cases p with
 | ofNat n=>exact Int.natCast_nonneg n
 | negSucc n=>cases h
theorem qMq:∀q y,(hSe q).run=some y→∃n,It (zLo OX LX) n q y:=fun q y h=>by
 unfold hSe at h;split at h
 ·rename_i p h' l n b1 l1 l2 b2 l3 l4 b3 l5 l6;obtain⟨h1,h2⟩:=zZ h;rw[zJk]at h2;cases h2;simp only[Bool.and_eq_true]at h1;obtain rfl:=zY h1.1;exact itSe l p h' ⟨b1,l1,l2⟩ ⟨b2,l3,l4⟩ ⟨b3,l5,l6⟩ (qNn h1.2.2) (Nat.le_of_ble_eq_true h1.2.1)
 ·cases h
noncomputable def hSa:Hs→DT (Ex×Hs)
 | ⟨[.ls .a zP l,.ls .a zP m,.v (.int .i64 (.ofNat n)),.v (.int .i64 (.ofNat 0))],[.ls .n zP []],[]⟩=>grd (Nat.beq n l.length&&(Nat.beq m.length l.length&&Nat.ble l.length 3000000000000)) (dX 0 .n [] (adF l m))
 | _=> .no
theorem qMp:∀q y,(hSa q).run=some y→∃n,It (zLn OX LX) n q y:=fun q y h=>by
 unfold hSa at h;split at h
 ·obtain⟨h1,h2⟩:=zZ h;rw[zJk]at h2;cases h2;simp only[Bool.and_eq_true]at h1;obtain rfl:=zY h1.1;exact itSa _ _ (zY h1.2.1) (Nat.le_of_ble_eq_true h1.2.2)
 ·cases h
noncomputable def hWd:Hs→DT (Ex×Hs)
 | ⟨[.ls .a zP l,.v (.int .i64 (.ofNat 0))],[],[]⟩=>grd (Nat.blt l.length 9223372036854775808) (.ite (wdF l) (.ret (.r,⟨[.v (.bool true)],[],[]⟩)) (.ret (.x 0,⟨[.ls .a zP l],[],[]⟩)))
 | _=> .no
theorem qMr:∀q y,(hWd q).run=some y→∃n,It (zRy OX LX) n q y:=fun q y h=>by
 unfold hWd at h;split at h
 ·rename_i l;obtain⟨h1,h2⟩:=zZ h;have hi:=itWd l (by simpa using h1)
  cases hw:wdF l<;>rw[hw]at hi h2<;>cases h2<;>exact hi
 ·cases h
noncomputable def dC(id:Nat)(e:Nat):DT (Ex×Hs):= .ite (Nat.beq e 0) (.ret (.x id,⟨[],[],[]⟩)) (.ret (.r,⟨[.v (.int .i64 (.ofNat e))],[],[]⟩))
theorem zYj(id e:Nat):(dC id e).run=some (qBt id e):=by cases e<;>rfl
noncomputable def hRc:Hs→DT (Ex×Hs)
 | ⟨[.ls .a (.prod (.int .u8) (.prod (.int .i64) (.int .i64))) l,.v (.int .i64 (.ofNat 1))],[],[]⟩=>grd (Nat.ble 1 l.length&&Nat.ble l.length 900) (dC 0 (rcF l))
 | _=> .no
theorem qMn:∀q y,(hRc q).run=some y→∃n,It (zRx OX LX) n q y:=fun q y h=>by
 unfold hRc at h;split at h
 ·obtain⟨h1,h2⟩:=zZ h;rw[zYj]at h2;cases h2;simp only[Bool.and_eq_true]at h1;exact itRc _ (Nat.le_of_ble_eq_true h1.1) (Nat.le_of_ble_eq_true h1.2)
 ·cases h
noncomputable def hAc:Hs→DT (Ex×Hs)
 | ⟨[.ls .a (.prod (.int .u8) (.prod (.int .i64) (.int .i64))) l,.v (.int .i64 (.ofNat n)),.v (.int .i64 (.ofNat 0))],[],[]⟩=>grd (Nat.beq n l.length&&Nat.ble l.length 900) (dC 1 (acF l))
 | _=> .no
theorem qMj:∀q y,(hAc q).run=some y→∃n,It (zRw OX LX) n q y:=fun q y h=>by
 unfold hAc at h;split at h
 ·obtain⟨h1,h2⟩:=zZ h;rw[zYj]at h2;cases h2;simp only[Bool.and_eq_true]at h1;obtain rfl:=zY h1.1;exact itAc _ (Nat.le_of_ble_eq_true h1.2)
 ·cases h
theorem zDq:Tryz.prog.follows .mixedOrders=true:=by kernel_rfl
theorem qQq:KC Tryz.prog 39 (fun az=>(qBy az).run) false:=by
 intro w X hX az vs hv y hp;unfold qBy at hp;simp only at hp;split at hp
 ·rename_i a;obtain⟨h1,h2⟩:=zZ hp;cases h2;match vs,hv with
  | [va],⟨hva,_⟩=>
   obtain⟨a1,a2,a3,a4,a5,a6,rfl,k1,k2⟩:=hva;simp only[fH,Bool.and_eq_true,Nat.ble_eq]at h1;refine(zUp w X hX a _ _ _ k1 _ _ _ k2 (by rw[k1.hlen];omega) (by rw[k2.hlen];omega)).mono ?_
   rintro e w' ⟨hu,v,rfl,h⟩;exact⟨hu,v,rfl,h⟩
 ·cases hp
theorem qQp:KC Tryz.prog 74 qHe false:=by
 intro w X hX az vs hv y hp;unfold qHe pRR at hp;split at hp
 ·rename_i a b;cases hp;match vs,hv with
  | [va,vb],⟨hva,hvb,_⟩=>
   obtain⟨a1,a2,a3,a4,a5,a6,rfl,k1,k2⟩:=hva;obtain⟨b1,b2,b3,b4,b5,b6,rfl,k3,k4⟩:=hvb;refine(qHt w X hX a _ _ _ k1 _ _ _ k2 b _ _ _ k3 _ _ _ k4).mono ?_;rintro e w' ⟨hu,v,rfl,u,rfl,h⟩;exact⟨hu,_,rfl,[u,.int .i64 _],rfl,h,rfl,trivial⟩
 ·cases hp
theorem vT:rT Tryz.prog (odT qNq):=
 jN (jN (jN (jN (jN (jN (jN (jN qAx fun az tv nw h k=>fD zZz az tv h k) fun az tv nw h k=>fD qJx az tv h k) fun az tv nw h k=>fD qQp az tv h k) fun az tv nw h k=>fD kAdd az tv h k) fun az tv nw h k=>fD qJw az tv h k) fun az tv nw h k=>fD kChk az tv h k) fun az tv nw h k=>fD kEq az tv h k) fun az tv nw h k=>qNb qQq az tv nw h k
theorem pV:zCq Tryz.prog (evD Tryz.prog OX LX 60):=zQb zDq vT zQm 60
def okL(l:List Rt):Bool:=Nat.ble l.length 3000000000000&&l.all fun x=>fH (rw' x)
theorem qAy{l:List Rt}(h:okL l=true):l.length≤3000000000000∧∀i,i<l.length→fH (rAt l i)=true:=by
 simp only[okL,Bool.and_eq_true,Nat.ble_eq,List.all_eq_true]at h;refine⟨h.1,fun i hi=>h.2 _ ?_⟩;rw[qV];have:l.getD i zP.zero=l[i]:=by simp[hi]
 rw[this];exact List.getElem_mem hi
theorem itCr{l:List Rt}(h:okL l=true):∃m,It (zLk OX LX) m (iCr l 0 []) (.x 0,⟨[],[.ls .a zP l.reverse],[]⟩):=by
 obtain⟨h1,h2⟩:=qAy h;have hlen:∀i(a:List Rt),i≤l.length→a=(l.take i).reverse→a.length=i:=fun i a hi e=>by subst e;simp;omega
 have:=tY (st:=zLk OX LX) (iv:=iCr l) (g:=fun i(a:List Rt)=>(.inl (nth zP.zero l i::a):List Rt⊕List Rt)) (d:=id) (out:=fun a=>(.x 0,⟨[],[.ls .a zP a],[]⟩)) (n:=l.length) (fun i a=>a=(l.take i).reverse)
  (fun i a hi hJ=>by
   have hl:=hlen i a (by omega) hJ
   cases a with
   | nil=>rw[sCr0];simp only[jA hi,h2 i hi,cond_true,bC (show i+1<9223372036854775808 by omega)]
   | cons x a=>
    rw[sCr1];simp only[List.length_cons]at hl;simp only[jA hi,h2 i hi,cond_true,zOd (show i<4000000000000 by omega) (show a.length<4000000000000 by omega)])
  (fun i a b hi hJ hg=>by
   cases hg;rw[hJ,List.take_add_one,List.reverse_append,qV];simp[hi])
  (fun a hJ=>by
   cases a with
   | nil=>rw[sCr0];simp only[xC (Nat.le_refl _),cond_false];rfl
   | cons x a=>rw[sCr1];simp only[xC (Nat.le_refl _),cond_false,kF,cond_true];rfl) l.length 0 [] (by omega) (by simp)
 have e:=zMs l zP.zero l.length 0 (by omega)
 simp only[List.take_zero,List.reverse_nil]at e;rwa[e]at this
noncomputable def hCr:Hs→DT (Ex×Hs)
 | ⟨[.ls .a zP l,.v (.int .i64 (.ofNat 0))],[.ls .a zP []],[]⟩=>grd (okL l) (.ite (emp l) (.ret (.x 0,⟨[],[.ls .a zP []],[]⟩)) (.ret (.x 0,⟨[],[.ls .a zP (cns zP.zero l)],[]⟩)))
 | _=> .no
theorem qMk:∀q y,(hCr q).run=some y→∃n,It (zLk OX LX) n q y:=fun q y h=>by
 unfold hCr at h;split at h
 ·rename_i l;obtain⟨h1,h2⟩:=zZ h;have hi:=itCr h1;cases he:emp l with
  | true=>
   simp only[he,DT.run,cond_true,Option.some.injEq]at h2;subst h2;rw[zCc.1 he]at hi ⊢;exact hi
  | false=>
   simp only[he,DT.run,cond_false,Option.some.injEq]at h2;subst h2;rw[zYh zP.zero (fun e=>by rw[zCc.2 e]at he;cases he)]
   exact hi
 ·cases h
def zBp(a b:List Rt):Bool:=decide (a=b)&&Nat.ble a.length 3000000000000
noncomputable def hEr:Hs→DT (Ex×Hs)
 | ⟨[.ls .a zP a,.ls .a zP b,.v (.int .i64 (.ofNat 0))],[],[]⟩=>grd (zBp a b) (.ret (.x 0,⟨[],[],[]⟩))
 | _=> .no
theorem qMl:∀q y,(hEr q).run=some y→∃n,It (zWx OX LX) n q y:=fun q y h=>by
 unfold hEr at h;split at h
 ·rename_i a b;obtain⟨h1,h2⟩:=zZ h;cases h2;simp only[zBp,Bool.and_eq_true,decide_eq_true_eq,Nat.ble_eq]at h1;obtain⟨rfl,h1⟩:=h1;have:=tY (st:=zWx OX LX) (iv:=fun i(_:Unit)=>iEr a a i) (g:=fun _ _=>(.inl ():Unit⊕Unit)) (d:=fun _=>()) (out:=fun _=>(.x 0,⟨[],[],[]⟩)) (n:=a.length) (fun _ _=>True)
   (fun i _ hi _=>by rw[sEr];simp only[jA hi,cond_true,decide_true,Bool.not_true,cond_false,bC (show i+1<9223372036854775808 by omega)]) (fun _ _ _ _ _ _=>trivial)
   (fun _ _=>by rw[sEr];simp only[xC (Nat.le_refl _),cond_false]) a.length 0 () (by omega) trivial
  exact this
 ·cases h
noncomputable abbrev LT:Lo:=loT [(21,[false,true,false,true,true],Lcr.row hCr),(24,[false,true,false,true,true],Ler.row hEr),(65,[false,true,false,true],Lwd.row hWd),(72,[false,true,false,true,true,true],Lrc.row hRc),(36,[false,true,false,true,true],Lac.row hAc),(28,[false,true,false,true,true,true,true,true,true,true,true],Lre.row hRe),(30,[false,true,false,true,true,true,true],Lse.row hSe),(29,[false,true,false,true,true,true],Lra.row hRa),(31,[false,true,false,true,true],Lsa.row hSa)]
theorem zBa:zFx Tryz.prog LT:=wB (wB (wB (wB (wB (wB (wB (wB (wB (zQm) pV qKr qMp) pV qKo qMm) pV qKs qMq) pV qKq qMo) pV qKj qMj) pV qKp qMn) pV qKt qMr) pV qKm qMl) pV qKk qMk
noncomputable def ckN(l:List bT.den):Nat:=bif Nat.beq l.length 0 then 3 else(bif Nat.blt 6 l.length then 4 else rcF l)
theorem qCo{e:Nat}{b:Bool}:(bif b then(bif Nat.beq e 0 then some (T.v (.int .i64 (.ofNat 0)),true)else some (T.v (.int .i64 (.ofNat e)),true))else none)=bif b then some (T.v (.int .i64 (.ofNat e)),true)else(none:Option (T×Bool)):=by
 cases b with
 | false=>rfl
 | true=>cases e<;>rfl
theorem eRc(l:List bT.den):((tT Tryz.prog (evD Tryz.prog OX LT 60) 72 [.ls .a bT l] []).bind nG).run=bif Nat.beq l.length 0 then some (.v (.int .i64 3),true)else(bif Nat.blt 6 l.length then some (.v (.int .i64 4),true)else(bif Nat.ble 1 l.length&&Nat.ble l.length 900 then(bif Nat.beq (rcF l) 0 then some (.v (.int .i64 (.ofNat 0)),true)else some (.v (.int .i64 (.ofNat (rcF l))),true))else none)):=by kernel_rfl
noncomputable abbrev tlB(l:List bT.den):List bT.den:=(l.drop 1).take (l.length-1)
theorem eAc(l:List bT.den):((tT Tryz.prog (evD Tryz.prog OX LT 60) 36 [.ls .a bT l] []).bind nG).run=bif Nat.beq l.length 0 then some (.v (.int .i64 3),true)else(bif Nat.blt 6 l.length then some (.v (.int .i64 4),true)else(bif Nat.ble 1 l.length then(bif Nat.ble l.length l.length then(bif Nat.beq (tlB l).length (tlB l).length&&Nat.ble (tlB l).length 900 then(bif Nat.beq (acF (tlB l)) 0 then some (.v (.int .i64 (.ofNat 0)),true)else some (.v (.int .i64 (.ofNat (acF (tlB l)))),true))else none)else none)else none)):=by kernel_rfl
theorem qLn(l:List bT.den):((tT Tryz.prog (evD Tryz.prog OX LT 60) 72 [.ls .a bT l] []).bind nG).run=some (.v (.int .i64 (.ofNat (ckN l))),true):=by
 rw[eRc,qCo];unfold ckN;cases l with
 | nil=>rfl
 | cons x l=>
  rw[show Nat.beq (x::l).length 0=false from rfl,cond_false,cond_false];cases h:Nat.blt 6 (x::l).length with
  | true=>rfl
  | false=>
   have:(x::l).length≤6:=by
    rcases Nat.lt_or_ge 6 (x::l).length with g | g
    ·rw[jA g]at h;cases h
    ·exact g
   simp only[cond_false,yR (show 1≤(x::l).length by simp),yR (show(x::l).length≤900 by omega),Bool.and_self,cond_true]
theorem qLm(l:List bT.den):((tT Tryz.prog (evD Tryz.prog OX LT 60) 36 [.ls .a bT l] []).bind nG).run=some (.v (.int .i64 (.ofNat (ckN l))),true):=by
 rw[eAc,qCo];unfold ckN;cases l with
 | nil=>rfl
 | cons x l=>
  rw[show Nat.beq (x::l).length 0=false from rfl,cond_false,cond_false];cases h:Nat.blt 6 (x::l).length with
  | true=>rfl
  | false=>
   have:(x::l).length≤6:=by
    rcases Nat.lt_or_ge 6 (x::l).length with g | g
    ·rw[jA g]at h;cases h
    ·exact g
   have e:tlB (x::l)=l:=by simp[tlB]
   simp only[List.length_cons]at this;simp only[cond_false,yR (show 1≤(x::l).length by simp),yR (Nat.le_refl _),e,kF,yR (show l.length≤900 by omega),Bool.and_self,cond_true]
   rw[qKw x l]
noncomputable def oCk:List T→DT (T×Bool)
 | [.ls .a (.prod (.int .u8) (.prod (.int .i64) (.int .i64))) l]=> .ret (.v (.int .i64 (.ofNat (ckN l))),true)
 | _=> .no
noncomputable abbrev OZ:Od:=odT ((72,odR [.list bT] oCk)::(36,odR [.list bT] oCk)::qNq)
theorem zTo:rT Tryz.prog OZ:=jN (jN vT (pE fun cz tv nw h k=>by
 unfold oCk at h;split at h
 ·rename_i l;cases h;exact dR (cz:=[.ls .a bT l]) zDq vT zBa (qLm l) rfl k
 ·cases h)) (pE fun cz tv nw h k=>by
 unfold oCk at h;split at h
 ·rename_i l;cases h;exact dR (cz:=[.ls .a bT l]) zDq vT zBa (qLn l) rfl k
 ·cases h)
noncomputable abbrev onT:Ty:= .prod zP (.prod zP zP)
noncomputable abbrev erT(e:Int):Option (T×Bool):=some (.tu [.v (.slice none 0 0),.v (.int .i64 e)],true)
noncomputable abbrev zGh(l:List bT.den)(p h:Int)(c d e:Raw)(k:Option (T×Bool)):Option (T×Bool):=bif !ieq (.ofNat (ckN l)) 0 then erT (.ofNat (ckN l))else(bif !ieq c.chk 0 then erT c.chk else(bif c.neg then erT 1 else(bif !ieq d.chk 0 then erT d.chk else(bif d.neg then erT 1 else(bif !ieq e.chk 0 then erT e.chk else(bif e.neg then erT 1 else(bif ilt p 0 then erT 8 else(bif !ilt p (.ofNat l.length)then erT 8 else(bif ilt 2 h then erT 6 else k)))))))))
noncomputable def zEs(l:List bT.den)(p h:Int)(c d e:Raw):Int:=bif !ieq (.ofNat (ckN l)) 0 then .ofNat (ckN l)else(bif !ieq c.chk 0 then c.chk else(bif c.neg then 1 else(bif !ieq d.chk 0 then d.chk else(bif d.neg then 1 else(bif !ieq e.chk 0 then e.chk else(bif e.neg then 1 else(bif ilt p 0 then 8 else(bif !ilt p (.ofNat l.length)then 8 else(bif ilt 2 h then 6 else 0)))))))))
theorem zTs(l:List bT.den)(p h:Int)(c d e:Raw)(k:Option (T×Bool)):zGh l p h c d e k=bif !ieq (zEs l p h c d e) 0 then erT (zEs l p h c d e)else k:=by
 unfold zEs;cases h1:ieq (.ofNat (ckN l)) 0 with
 | false=>simp only[zGh,h1,Bool.not_false,cond_true]
 | true=>
  cases h2:ieq c.chk 0 with
  | false=>simp only[zGh,h1,h2,Bool.not_false,Bool.not_true,cond_true,cond_false]
  | true=>
   cases h3:c.neg with
   | true=>simp only[zGh,h1,h2,h3,Bool.not_true,cond_true,cond_false];rfl
   | false=>
    cases h4:ieq d.chk 0 with
    | false=>simp only[zGh,h1,h2,h3,h4,Bool.not_false,Bool.not_true,cond_true,cond_false]
    | true=>
     cases h5:d.neg with
     | true=>simp only[zGh,h1,h2,h3,h4,h5,Bool.not_true,cond_true,cond_false];rfl
     | false=>
      cases h6:ieq e.chk 0 with
      | false=>simp only[zGh,h1,h2,h3,h4,h5,h6,Bool.not_false,Bool.not_true,cond_true,cond_false]
      | true=>
       simp only[zGh,h1,h2,h3,h4,h5,h6,Bool.not_true,cond_false];cases e.neg<;>cases ilt p 0<;>cases ilt p (.ofNat l.length)<;>cases ilt 2 h<;>rfl
theorem zTr{l:List bT.den}{p h:Int}{c d e:Raw}(h0:ieq (zEs l p h c d e) 0=true):ilt p 0=false∧l.length≤6:=by
 unfold zEs at h0;cases h1:ieq (.ofNat (ckN l)) 0 with
 | false=>simp only[h1,Bool.not_false,cond_true]at h0;cases h0
 | true=>
  have hl:l.length≤6:=by
   rcases Nat.lt_or_ge 6 l.length with g | g
   ·exfalso;have e2:ckN l=3∨ckN l=4:=by
     unfold ckN;rw[jA g];cases Nat.beq l.length 0
     ·exact .inr rfl
     ·exact .inl rfl
    rcases e2 with e2 | e2<;>(rw[e2]at h1;cases h1)
   ·exact g
  refine⟨?_,hl⟩;cases h2:ieq c.chk 0 with
  | false=>simp only[h1,h2,Bool.not_false,Bool.not_true,cond_true,cond_false]at h0;cases h0
  | true=>
   cases h4:ieq d.chk 0 with
   | false=>cases h3:c.neg<;>simp only[h1,h2,h3,h4,Bool.not_false,Bool.not_true,cond_true,cond_false]at h0<;>cases h0
   | true=>
    cases h6:ieq e.chk 0 with
    | false=>cases h3:c.neg<;>cases h5:d.neg<;>simp only[h1,h2,h3,h4,h5,h6,Bool.not_false,Bool.not_true,cond_true,cond_false]at h0<;>cases h0
    | true=>
     cases h7:ilt p 0 with
     | false=>rfl
     | true=>cases h3:c.neg<;>cases h5:d.neg<;>cases h8:e.neg<;>simp only[h1,h2,h3,h4,h5,h6,h7,h8,Bool.not_true,cond_true,cond_false]at h0<;>cases h0
noncomputable abbrev zVy(nw:Bool)(s:List Rt⊕Int):Option (T×Bool):=bif isL s then(bif emp (rws s)then erT 0 else(bif Nat.beq ((rws s).tail.length+1) ((rws s).tail.length+1)then some (.tu [.ls .a zP (cn (rws s)).reverse,.v (.int .i64 0)],nw)else none))else erT (erI s)
theorem eRe(l:List bT.den)(p h:Int)(c d e:Raw):((tT Tryz.prog (evD Tryz.prog OZ LT 60) 28 [.ls .a bT l,.ag (on9 c d e),.v (.int .i64 p),.v (.int .u8 h)] []).bind nG).run=zGh l p h c d e (bif Nat.ble l.length 900 then zVy false (exF l p h c d e)else none):=by kernel_rfl
theorem eSe(l:List bT.den)(p h:Int)(c d e:Raw):((tT Tryz.prog (evD Tryz.prog OZ LT 60) 30 [.ls .a bT l,.ag (on9 c d e),.v (.int .i64 p),.v (.int .u8 h)] []).bind nG).run=zGh l p h c d e (bif Nat.beq l.length l.length&&(Nat.ble l.length 900&&nng p)then zVy true (exF l p h c d e)else none):=by kernel_rfl
theorem eRa(l m:List Rt):((tT Tryz.prog (evD Tryz.prog OX LT 60) 29 [.ls .a zP l,.ls .a zP m] []).bind nG).run=bif !Nat.beq l.length m.length then erT 16 else(bif Nat.beq m.length l.length&&Nat.ble l.length 3000000000000 then zVy false (adF l m)else none):=by kernel_rfl
theorem eSa(l m:List Rt):((tT Tryz.prog (evD Tryz.prog OX LT 60) 31 [.ls .a zP l,.ls .a zP m] []).bind nG).run=bif !Nat.beq l.length m.length then erT 16 else(bif Nat.beq l.length l.length&&(Nat.beq m.length l.length&&Nat.ble l.length 3000000000000)then zVy true (adF l m)else none):=by kernel_rfl
noncomputable def xE(l:List bT.den)(p h:Int)(c d e:Raw):Int:=bif !ieq (zEs l p h c d e) 0 then zEs l p h c d e else erI (exF l p h c d e)
noncomputable def xR(l:List bT.den)(p h:Int)(c d e:Raw):List Rt:=bif !ieq (zEs l p h c d e) 0 then[]else(rws (exF l p h c d e)).reverse
noncomputable def aE(l m:List Rt):Int:=bif !Nat.beq l.length m.length then 16 else erI (adF l m)
noncomputable def aR(l m:List Rt):List Rt:=bif !Nat.beq l.length m.length then[]else(rws (adF l m)).reverse
section
variable {f:Nat}{az:List T}{OD:Od}{nw:Bool}
theorem qDf{B:Bm}{r:Rd}{A:Ty}{t:T}{v:Value}(h:Rep B r (.tu [.v (.slice none 0 0),t]) v):Rep B r (.tu [.ls .a A [],t]) v:=by
 obtain⟨vs,rfl,hvs⟩:=h.tuI;match vs,hvs with
 | [a,b],⟨h1,h2,_⟩=>exact Rep.mkTu (vs:=[a,b]) ⟨qAs h1,h2,trivial⟩
theorem zHy(hO:rT Tryz.prog OD){e:Int}(h:((tT Tryz.prog (evD Tryz.prog OD LT 60) f (az.map (unN 12)) []).bind nG).run=erT e)(hc:az.all (clean 12)=true)(k:Nat)(nw:Bool):KnP Tryz.prog k f az (.tu [.ls .a zP [],.v (.int .i64 e)]) nw:=by
 have h1:KnP Tryz.prog k f az (.tu [.v (.slice none 0 0),.v (.int .i64 e)]) true:=dR zDq hO zBa h (by rw[hc];rfl) k
 cases nw with
 | true=>exact h1.res fun B r v h=>qDf h
 | false=>exact h1.old.res fun B r v h=>qDf h
theorem zJu(hO:rT Tryz.prog OD){s:List Rt⊕Int}(h:((tT Tryz.prog (evD Tryz.prog OD LT 60) f (az.map (unN 12)) []).bind nG).run=zVy nw s)(hc:az.all (clean 12)=true)(k:Nat):KnP Tryz.prog k f az (.tu [.ls .a zP (rws s).reverse,.v (.int .i64 (erI s))]) nw:=by
 cases s with
 | inr e=>exact zHy hO h hc k nw
 | inl a=>
  cases a with
  | nil=>exact zHy hO h hc k nw
  | cons x a=>
   simp only[zVy,isL,rws,cond_true,emp,cond_false,kF]at h;exact dR zDq hO zBa h (by rw[hc];rfl) k
end
theorem kRe{l:List bT.den}{p h:Int}{c d e:Raw}(k:Nat):KnP Tryz.prog k 28 [.ls .a bT l,.ag (on9 c d e),.v (.int .i64 p),.v (.int .u8 h)] (.tu [.ls .a zP (xR l p h c d e),.v (.int .i64 (xE l p h c d e))]) false:=by
 have q:=eRe l p h c d e;rw[zTs]at q;unfold xR xE;cases h0:ieq (zEs l p h c d e) 0 with
 | false=>rw[h0]at q;exact zHy (az:=[.ls .a bT l,.ag (on9 c d e),.v (.int .i64 p),.v (.int .u8 h)]) zTo q rfl k false
 | true=>
  rw[h0,yR (show l.length≤900 by have:=(zTr h0).2;omega)]at q
  exact zJu (az:=[.ls .a bT l,.ag (on9 c d e),.v (.int .i64 p),.v (.int .u8 h)]) zTo q rfl k
theorem kSe{l:List bT.den}{p h:Int}{c d e:Raw}(k:Nat):KnP Tryz.prog k 30 [.ls .a bT l,.ag (on9 c d e),.v (.int .i64 p),.v (.int .u8 h)] (.tu [.ls .a zP (xR l p h c d e),.v (.int .i64 (xE l p h c d e))]) true:=by
 have q:=eSe l p h c d e;rw[zTs]at q;unfold xR xE;cases h0:ieq (zEs l p h c d e) 0 with
 | false=>rw[h0]at q;exact zHy (az:=[.ls .a bT l,.ag (on9 c d e),.v (.int .i64 p),.v (.int .u8 h)]) zTo q rfl k true
 | true=>
  obtain⟨hp,hl⟩:=zTr h0;have hn:nng p=true:=by
   cases p with
   | ofNat n=>rfl
   | negSucc n=>cases hp
  rw[h0,yR (show l.length≤900 by omega),kF,hn]at q
  exact zJu (az:=[.ls .a bT l,.ag (on9 c d e),.v (.int .i64 p),.v (.int .u8 h)]) zTo q rfl k
theorem zSa{a b:Nat}(h:Nat.beq a b=true):Nat.beq b a=true:=by rw[zY h];exact kF _
theorem kRa{l m:List Rt}(h9:l.length≤3000000000000)(k:Nat):KnP Tryz.prog k 29 [.ls .a zP l,.ls .a zP m] (.tu [.ls .a zP (aR l m),.v (.int .i64 (aE l m))]) false:=by
 have q:=eRa l m;unfold aR aE;cases h0:Nat.beq l.length m.length with
 | false=>rw[h0]at q;exact zHy (az:=[.ls .a zP l,.ls .a zP m]) vT q rfl k false
 | true=>
  rw[h0,zSa h0,yR h9]at q;exact zJu (az:=[.ls .a zP l,.ls .a zP m]) vT q rfl k
theorem kSa{l m:List Rt}(h9:l.length≤3000000000000)(k:Nat):KnP Tryz.prog k 31 [.ls .a zP l,.ls .a zP m] (.tu [.ls .a zP (aR l m),.v (.int .i64 (aE l m))]) true:=by
 have q:=eSa l m;unfold aR aE;cases h0:Nat.beq l.length m.length with
 | false=>rw[h0]at q;exact zHy (az:=[.ls .a zP l,.ls .a zP m]) vT q rfl k true
 | true=>
  rw[h0,zSa h0,kF,yR h9]at q;exact zJu (az:=[.ls .a zP l,.ls .a zP m]) vT q rfl k
noncomputable def oWd(fw:List Rt→Bool):List T→DT (T×Bool)
 | [.ls .a zP l]=>grd (Nat.blt l.length 9223372036854775808) (.ret (.v (.bool (fw l)),true))
 | _=> .no
noncomputable def oCr:List T→DT (T×Bool)
 | [.ls .a zP l]=>grd (okL l) (.ret (.ls .a zP l,false))
 | _=> .no
noncomputable def oEr:List T→DT (T×Bool)
 | [.ls .a zP l,.ls .a zP m]=>grd (zBp l m) (.ret (.v (.bool true),true))
 | _=> .no
noncomputable def oXt(nw:Bool)(fR:List bT.den→Int→Int→Raw→Raw→Raw→List Rt)(fE:List bT.den→Int→Int→Raw→Raw→Raw→Int):List T→DT (T×Bool)
 | [.ls .a (.prod (.int .u8) (.prod (.int .i64) (.int .i64))) l,.ag [.v (.bool b1),.ls .a .lim l1,.ls .a .lim l2,.v (.bool b2),.ls .a .lim l3,.ls .a .lim l4,.v (.bool b3),.ls .a .lim l5,.ls .a .lim l6],.v (.int .i64 p),.v (.int .u8 h)]=> .ret (.tu [.ls .a zP (fR l p h ⟨b1,l1,l2⟩ ⟨b2,l3,l4⟩ ⟨b3,l5,l6⟩),.v (.int .i64 (fE l p h ⟨b1,l1,l2⟩ ⟨b2,l3,l4⟩ ⟨b3,l5,l6⟩))],nw)
 | _=> .no
noncomputable def oAd(nw:Bool)(gR:List Rt→List Rt→List Rt)(gE:List Rt→List Rt→Int):List T→DT (T×Bool)
 | [.ls .a zP l,.ls .a zP m]=>grd (Nat.ble l.length 3000000000000) (.ret (.tu [.ls .a zP (gR l m),.v (.int .i64 (gE l m))],nw))
 | _=> .no
noncomputable def oAw:List T→DT (T×Bool)
 | []=> .ret (.v (.bool true),true)
 | _=> .no
noncomputable abbrev exA:List Ty:=[.list bT,onT,.int .i64,.int .u8]
noncomputable def qDb(fw:List Rt→Bool)(fR:List bT.den→Int→Int→Raw→Raw→Raw→List Rt)(fE:List bT.den→Int→Int→Raw→Raw→Raw→Int)(gR:List Rt→List Rt→List Rt)(gE:List Rt→List Rt→Int):List (Nat×(List T→DT (T×Bool))):=[(65,odR [.list zP] (oWd fw)),(21,odR [.list zP] oCr),(24,odR [.list zP,.list zP] oEr),(28,odR exA (oXt false fR fE)),(30,odR exA (oXt true fR fE)),(29,odR [.list zP,.list zP] (oAd false gR gE)),(31,odR [.list zP,.list zP] (oAd true gR gE)),(16,oAw)]
noncomputable def OV:OvF:=fun k=>bif Nat.beq k 27 then some zP else none
noncomputable abbrev bod:Code:=lpc Tryz.prog 4 [false,true,false,true,true,true,true,true,true]
noncomputable abbrev LL(OD:Od):Lo:=loO Tryz.prog OV OD (loT []) 60 3 4 [false,true,false,true,true,true,true,true,true] bod
noncomputable abbrev yes:Option (T×Bool):=some (.v (.bool true),true)
noncomputable abbrev nay:Option (T×Bool):=some (.v (.bool false),true)
noncomputable abbrev rnd(X G a b:List Rt)(x g:Int)(k:Option (T×Bool)):Option (T×Bool):=bif Nat.ble a.length 3000000000000 then(bif !ieq x x then nay else(bif !ieq g g then nay else(bif zBp X X then(bif zBp G G then(bif zBp a a then(bif zBp b b then k else none)else none)else none)else none)))else none
noncomputable abbrev lawW(X G a b:List Rt)(x g:Int):Option (T×Bool):=bif okL a then(bif okL b then(bif Nat.ble a.length 3000000000000 then(bif okL X then(bif okL G then rnd X G a b x g (rnd X G a b x g yes)else none)else none)else none)else none)else none
noncomputable abbrev qJq(us:List T)(k p h:Int)(c d e:Raw):T:= .ag (us++([.v (.int .i64 k),.v (.int .i64 p)]++(on9 c d e++[.v (.int .u8 h)])))
noncomputable abbrev nzT:Ty:= .prod (.int .i64) zP
noncomputable abbrev mdT:Ty:= .prod (.list (.int .i64)) (.prod (.list (.int .i64)) (.prod (.list (.int .i64)) (.prod (.list bT) (.prod (.int .i64) (.prod (.int .i64) (.prod (.int .i64) (.prod (.list nzT) (.prod (.list nzT) (.prod zP (.prod zP zP))))))))))
noncomputable abbrev tbT:Ty:= .prod mdT (.prod (.int .i64) (.prod (.list (.list (.int .i64))) (.list (.list (.int .i64)))))
noncomputable abbrev zAx:Ty:= .prod tbT (.prod (.int .i64) (.prod (.int .i64) (.prod (.prod zP (.prod zP zP)) (.int .u8))))
noncomputable abbrev arT:Ty:= .prod (.list zP) (.list zP)
set_option maxHeartbeats 0 in
theorem eLaw(fw:List Rt→Bool)(fR:List bT.den→Int→Int→Raw→Raw→Raw→List Rt)(fE:List bT.den→Int→Int→Raw→Raw→Raw→Int)(gR:List Rt→List Rt→List Rt)(gE:List Rt→List Rt→Int)(t:tbT.den)(l:List bT.den)(a b:List Rt)(p k h:Int)(c d e:Raw):((tT Tryz.prog (evD Tryz.prog (odT (qDb fw fR fE gR gE)) (LL (odT (qDb fw fR fE gR gE))) 60) 4 [.ls .a bT l,qJq (cellsD .a tbT t) k p h c d e,.ag [.ls .a zP a,.ls .a zP b]] []).bind nG).run=bif Nat.blt 20 l.length then yes else(bif fw [toT c,toT d,toT e]then yes else(bif Nat.blt a.length 9223372036854775808 then(bif fw a then yes else(bif Nat.blt b.length 9223372036854775808 then(bif fw b then yes else lawW (fR l p h c d e) (gR a b) a b (fE l p h c d e) (gE a b))else none))else none)):=by kernel_rfl
theorem xK{a b:Int}(h:or2 a b=0):b=0:=by
 unfold or2 at h;split at h<;>first | exact h | (rename_i h2;first | exact absurd h h2 | (subst h;exact absurd rfl h2))
theorem zTf(a b:Raw)(z:Rat):fH (opR a b z)=true:=by
 unfold opR;split
 ·rename_i h;have h2:nH z=0:=xK h;unfold nH at h2;split at h2
  ·rename_i hk;have g1:=rX hk.1;have g2:=rX hk.2;simp only[fH,Raw.of,Bool.and_eq_true];exact⟨yR (by omega),yR (by omega)⟩
  ·cases h2
 ·rfl
theorem qPx:fH z0=true:=by kernel_rfl
theorem zPk{v:Bool}{a c s:Raw}(h:fH a=true)(e:ad v a c= .inl s):fH s=true:=by
 unfold ad at e;cases v with
 | false=>cases e;exact h
 | true=>
  cases h2:ieq (adE a c) 0 with
  | false=>simp only[h2,Bool.not_false,Bool.not_true,cond_true,cond_false]at e;cases e
  | true=>simp only[h2,Bool.not_true,cond_false]at e;cases e;exact zTf _ _ _
theorem zXq{α:Type}{s:Raw⊕Int}{f:Raw→α⊕Int}{y:α}(h:bi s f= .inl y):∃a,s= .inl a∧f a= .inl y:=by
 cases s with
 | inl a=>exact⟨a,rfl,h⟩
 | inr e=>cases h
theorem qFa{x:bT.den}{p h:Int}{c d e:Raw}{i:Nat}{s:Raw}(hs:exX x p h c d e i= .inl s):fH s=true:=by
 unfold exX exS at hs;obtain⟨a,h1,h2⟩:=zXq hs;obtain⟨b,h3,h4⟩:=zXq h2;exact zPk (zPk (zPk qPx h1) h3) h4
def okJ(i:Nat)(a:List Rt):Prop:=a.length=i∧∀x∈a,fH (rw' x)=true
theorem zZe{g:Nat→List Rt→List Rt⊕(List Rt⊕Int)}(hg:∀i a b,okJ i a→g i a= .inl b→okJ (i+1) b)(hr:∀i a y,g i a= .inr y→∃e,y= .inr e):∀(k i:Nat)(a b:List Rt),okJ i a→fol g .inl k i a= .inl b→okJ (i+k) b
 | 0,i,a,b,h,e=>by cases e;exact h
 | k+1,i,a,b,h,e=>by
  simp only[fol]at e;cases hq:g i a with
  | inl b2=>
   rw[hq]at e;have:=zZe hg hr k (i+1) b2 b (hg i a b2 h hq) e;rwa[Nat.add_assoc,Nat.add_comm 1 k]at this
  | inr y=>
   rw[hq]at e;obtain⟨z,rfl⟩:=hr i a y hq;cases e
theorem qQk{l:List bT.den}{p h:Int}{c d e:Raw}{b:List Rt}(hb:exF l p h c d e= .inl b):okJ (0+l.length) b:=
 zZe (g:=gEx l p h c d e) (fun i a b hJ hg=>by
  unfold gEx at hg;split at hg
  ·rename_i s hs;cases hg;exact⟨by simp[hJ.1],fun x hx=>by
    rcases List.mem_cons.1 hx with rfl | hx
    ·exact qFa hs
    ·exact hJ.2 x hx⟩
  ·cases hg) (fun i a y hy=>by
  unfold gEx at hy;split at hy
  ·cases hy
  ·cases hy;exact⟨_,rfl⟩) l.length 0 [] b ⟨rfl,fun x hx=>by cases hx⟩ hb
theorem qQg{l m:List Rt}{b:List Rt}(hb:adF l m= .inl b):okJ (0+l.length) b:=
 zZe (g:=gAd l m) (fun i a b hJ hg=>by
  unfold gAd at hg;cases hq:ieq (adE (rAt l i) (rAt m i)) 0 with
  | false=>simp only[hq,Bool.not_false,cond_true]at hg;cases hg
  | true=>
   simp only[hq,Bool.not_true,cond_false]at hg;cases hg;exact⟨by simp[hJ.1],fun x hx=>by
    rcases List.mem_cons.1 hx with rfl | hx
    ·exact zTf _ _ _
    ·exact hJ.2 x hx⟩) (fun i a y hy=>by
  unfold gAd at hy;cases hq:ieq (adE (rAt l i) (rAt m i)) 0 with
  | false=>simp only[hq,Bool.not_false,cond_true]at hy;cases hy;exact⟨_,rfl⟩
  | true=>simp only[hq,Bool.not_true,cond_false]at hy;cases hy) l.length 0 [] b ⟨rfl,fun x hx=>by cases hx⟩ hb
theorem qNs{a:List Rt}{n:Nat}(h:okJ n a)(hn:n≤900):okL a=true:=by
 simp only[okL,Bool.and_eq_true,List.all_eq_true];exact⟨yR (by rw[h.1];omega),h.2⟩
theorem zTa{a:List Rt}{n:Nat}(h:okJ n a)(hn:n≤900):okL a.reverse=true:=qNs (n:=n) ⟨by rw[List.length_reverse,h.1],fun x hx=>h.2 x (List.mem_reverse.1 hx)⟩ hn
theorem qRg{l:List bT.den}{p h:Int}{c d e:Raw}(hl:l.length≤20):okL (xR l p h c d e)=true:=by
 unfold xR;cases ieq (zEs l p h c d e) 0 with
 | false=>rfl
 | true=>
  cases hx:exF l p h c d e with
  | inl b=>exact zTa (qQk hx) (by omega)
  | inr y=>rfl
theorem qQe{l m:List Rt}(hl:l.length≤20):okL (aR l m)=true:=by
 unfold aR;cases Nat.beq l.length m.length with
 | false=>rfl
 | true=>
  cases hx:adF l m with
  | inl b=>exact zTa (qQg hx) (by omega)
  | inr y=>rfl
noncomputable def wdB(l:List Rt):Bool:=bif wdF l then true else Nat.blt 20 l.length
theorem eWd(l:List Rt):((tT Tryz.prog (evD Tryz.prog OX LT 60) 65 [.ls .a zP l] []).bind nG).run=bif Nat.blt l.length 9223372036854775808 then(bif wdF l then yes else some (.v (.bool (Nat.blt 20 l.length)),true))else none:=by kernel_rfl
theorem kWd{l:List Rt}(h:Nat.blt l.length 9223372036854775808=true)(k:Nat):KnP Tryz.prog k 65 [.ls .a zP l] (.v (.bool (wdB l))) true:=by
 have q:=eWd l;unfold wdB;rw[h]at q;cases hw:wdF l<;>rw[hw]at q<;>exact dR (cz:=[.ls .a zP l]) zDq vT zBa q rfl k
theorem zUk(l:List Rt):∀(k i:Nat),fol (gWd l) (fun _=>false) k i ()=false→∀j,i≤j→j<i+k→wdX (rAt l j)=false
 | 0,i,_,j,h1,h2=>by omega
 | k+1,i,h,j,h1,h2=>by
  simp only[fol,gWd]at h;cases hc:wdX (rAt l i)with
  | true=>simp[hc]at h
  | false=>
   simp only[hc,cond_false]at h;rcases Nat.eq_or_lt_of_le h1 with rfl | hlt
   ·exact hc
   ·exact zUk l k (i+1) h j hlt (by omega)
theorem qIo{x:Raw}(h:wdX x=false):fH x=true:=by
 simp only[wdX,Bool.or_eq_false_iff]at h;have g:∀{n:Nat},ilt (.ofNat 20) (.ofNat n)=false→n≤1000:=fun{n}e=>by
  have:Nat.blt 20 n=false:=e;rcases Nat.lt_or_ge 20 n with hlt | hge
  ·rw[jA hlt]at this;cases this
  ·omega
 simp only[fH,Bool.and_eq_true];exact⟨yR (g h.1),yR (g h.2)⟩
theorem qKf{l:List Rt}(h:wdB l=false):l.length≤20∧okL l=true:=by
 unfold wdB at h;cases hw:wdF l with
 | true=>rw[hw]at h;cases h
 | false=>
  rw[hw,cond_false]at h;have h2:l.length≤20:=by
   rcases Nat.lt_or_ge 20 l.length with hlt | hge
   ·rw[jA hlt]at h;cases h
   ·exact hge
  refine⟨h2,?_⟩;simp only[okL,Bool.and_eq_true,List.all_eq_true];refine⟨yR (by omega),fun x hx=>?_⟩
  obtain⟨j,hj⟩:=List.getElem?_of_mem hx;have hlt:=(List.getElem?_eq_some_iff.1 hj).1;have:=zUk l l.length 0 hw j (Nat.zero_le _) (by omega)
  have e:nth zP.zero l j=x:=by rw[qV,List.getD_eq_getElem?_getD,hj];rfl
  rw[rAt,e]at this;exact qIo this
theorem zCj{a:List Rt}(h:okL a=true):zBp a a=true:=by
 simp only[zBp,decide_true,Bool.true_and,yR (qAy h).1]
theorem qGa(t:tbT.den)(l:List bT.den)(a b:List Rt)(ha:a.length<9223372036854775808)(hb:b.length<9223372036854775808)(p k h:Int)(c d e:Raw):((tT Tryz.prog (evD Tryz.prog (odT (qDb wdB xR xE aR aE)) (LL (odT (qDb wdB xR xE aR aE))) 60) 4 [.ls .a bT l,qJq (cellsD .a tbT t) k p h c d e,.ag [.ls .a zP a,.ls .a zP b]] []).bind nG).run=yes:=by
 rw[eLaw,jA ha,jA hb];cases h1:Nat.blt 20 l.length with
 | true=>rfl
 | false=>
  have hl:l.length≤20:=by
   rcases Nat.lt_or_ge 20 l.length with hlt | hge
   ·rw[jA hlt]at h1;cases h1
   ·exact hge
  cases wdB [toT c,toT d,toT e]with
  | true=>rfl
  | false=>
   cases h2:wdB a with
   | true=>rfl
   | false=>
    cases h3:wdB b with
    | true=>rfl
    | false=>
     obtain⟨g1,g2⟩:=qKf h2;obtain⟨g3,g4⟩:=qKf h3;have g5:=qRg (l:=l) (p:=p) (h:=h) (c:=c) (d:=d) (e:=e) hl;have g6:=qQe (m:=b) g1;simp only[lawW,rnd,cond_true,cond_false,g2,g4,g5,g6,zCj g2,zCj g4,zCj g5,zCj g6,yR (show a.length≤3000000000000 by omega),qQo rfl,Bool.not_true]
theorem kAw(ha:KnP Tryz.prog 0 16 [] (.v (.bool true)) true)(k:Nat):KnP Tryz.prog k 16 [] (.v (.bool true)) true:=ha.clean rfl rfl k
theorem eCr(l:List Rt):((tT Tryz.prog (evD Tryz.prog OX LT 60) 21 [.ls .a zP l] []).bind nG).run=bif okL l then(bif emp l then some (.v (.slice none 0 0),true)else(bif Nat.beq (l.reverse.tail.length+1) (l.reverse.tail.length+1)then some (.ls .a zP (cns zP.zero l).reverse,false)else none))else none:=by kernel_rfl
theorem kCr{l:List Rt}(h:okL l=true)(k:Nat):KnP Tryz.prog k 21 [.ls .a zP l] (.ls .a zP l) false:=by
 have e:=eCr l;rw[h]at e;cases he:emp l with
 | true=>
  rw[he]at e;obtain rfl:=zCc.1 he;exact(dR (cz:=[.ls .a zP []]) zDq vT zBa e rfl k).old.res fun B r v h=>qAs h
 | false=>
  rw[he]at e;simp only[cond_true,cond_false,kF]at e;rw[zYh zP.zero (fun e=>by rw[zCc.2 e]at he;cases he),List.reverse_reverse]at e
  exact dR (cz:=[.ls .a zP l]) zDq vT zBa e rfl k
theorem eEr(l m:List Rt):((tT Tryz.prog (evD Tryz.prog OX LT 60) 24 [.ls .a zP l,.ls .a zP m] []).bind nG).run=bif !Nat.beq l.length m.length then nay else(bif zBp l m then yes else none):=by kernel_rfl
theorem kEr{l m:List Rt}(h:zBp l m=true)(k:Nat):KnP Tryz.prog k 24 [.ls .a zP l,.ls .a zP m] (.v (.bool true)) true:=by
 have e:=eEr l m;have h2:=h;simp only[zBp,Bool.and_eq_true,decide_eq_true_eq]at h2;obtain⟨rfl,_⟩:=h2;simp only[kF,Bool.not_true,cond_false,h,cond_true]at e;exact dR (cz:=[.ls .a zP l,.ls .a zP l]) zDq vT zBa e rfl k
theorem qKh{nw nw':Bool}{f:Nat}{cz:List T}{tv:T}{k:Nat}(h:(oXt nw xR xE cz).run=some (tv,nw'))(hk:∀(l:List bT.den)(p h:Int)(c d e:Raw),KnP Tryz.prog k f [.ls .a bT l,.ag (on9 c d e),.v (.int .i64 p),.v (.int .u8 h)] (.tu [.ls .a zP (xR l p h c d e),.v (.int .i64 (xE l p h c d e))]) nw):KnP Tryz.prog k f cz tv nw':=by
 unfold oXt at h;split at h
 ·rename_i l b1 l1 l2 b2 l3 l4 b3 l5 l6 p h';cases h;exact hk l p h' ⟨b1,l1,l2⟩ ⟨b2,l3,l4⟩ ⟨b3,l5,l6⟩
 ·cases h
theorem qJh{nw nw':Bool}{f:Nat}{cz:List T}{tv:T}{k:Nat}(h:(oAd nw aR aE cz).run=some (tv,nw'))(hk:∀(l m:List Rt),l.length≤3000000000000→KnP Tryz.prog k f [.ls .a zP l,.ls .a zP m] (.tu [.ls .a zP (aR l m),.v (.int .i64 (aE l m))]) nw):KnP Tryz.prog k f cz tv nw':=by
 unfold oAd at h;split at h
 ·obtain⟨h1,h2⟩:=zZ h;cases h2;exact hk _ _ (Nat.le_of_ble_eq_true h1)
 ·cases h
noncomputable abbrev OY:Od:=odT (qDb wdB xR xE aR aE)
theorem qJz(ha:KnP Tryz.prog 0 16 [] (.v (.bool true)) true):rT Tryz.prog OY:=by
 refine jN (jN (jN (jN (jN (jN (jN (jN qAx ?_) (pE ?_)) (pE ?_)) (pE ?_)) (pE ?_)) (pE ?_)) (pE ?_)) (pE ?_)<;>intro cz tv nw h k
 ·unfold oAw at h;split at h
  ·cases h;exact kAw ha k
  ·cases h
 ·exact qJh h fun l m h9=>kSa h9 k
 ·exact qJh h fun l m h9=>kRa h9 k
 ·exact qKh h fun l p h c d e=>kSe k
 ·exact qKh h fun l p h c d e=>kRe k
 ·unfold oEr at h;split at h
  ·obtain⟨h1,h2⟩:=zZ h;cases h2;exact kEr h1 k
  ·cases h
 ·unfold oCr at h;split at h
  ·obtain⟨h1,h2⟩:=zZ h;cases h2;exact kCr h1 k
  ·cases h
 ·unfold oWd at h;split at h
  ·obtain⟨h1,h2⟩:=zZ h;cases h2;exact kWd h1 k
  ·cases h
theorem qQy:zUq Tryz.prog OV:=by
 intro k A h N w Y v l hN hR;unfold OV at h;cases hk:Nat.beq k 27 with
 | false=>rw[hk]at h;cases h
 | true=>
  rw[hk]at h;obtain rfl:=zY hk;cases h;obtain⟨ad,c,rfl,hl,hD⟩:=hR.sl;exact zPi w N hN ad l.length c hD.rc hl
theorem qNf:cAt Tryz.prog 4 [false,true,false,true,true,true,true,true,true]=some (.loop bod):=by kernel_rfl
theorem qFz:noR bod=true:=by kernel_rfl
theorem qFx(ha:KnP Tryz.prog 0 16 [] (.v (.bool true)) true)(x0:List bT.den)(x1:zAx.den)(x2:arT.den)(w0:dB (.list bT) x0)(w1:dB zAx x1)(w2:dB arT x2):KnP Tryz.prog 0 4 [.ls .a bT x0,.ag (cellsD .a zAx x1),.ag (cellsD .a arT x2)] (.v (.bool true)) true:=by
 obtain⟨t,k,p,⟨⟨b1,l1,l2⟩,⟨b2,l3,l4⟩,⟨b3,l5,l6⟩⟩,h⟩:=x1;obtain⟨a,b⟩:=x2;have ha':a.length*49≤140737488355328:=w2.1.1;have hb':b.length*49≤140737488355328:=w2.2.1;exact dR (cz:=[.ls .a bT x0,.ag (cellsD .a zAx (t,k,p,((b1,l1,l2),(b2,l3,l4),(b3,l5,l6)),h)),.ag (cellsD .a arT (a,b))]) zDq (qJz ha) (qNi qQy zDq (qJz ha) zQm qFz qNf) (qGa t x0 a b (by omega) (by omega) p k h ⟨b1,l1,l2⟩ ⟨b2,l3,l4⟩ ⟨b3,l5,l6⟩) rfl 0
theorem qFy(x0:List bT.den)(x1:zAx.den)(x2:arT.den)(w0:dB (.list bT) x0)(w1:dB zAx x1)(w2:dB arT x2):KnP Tryz.prog 0 4 [.ls .a bT x0,.ag (cellsD .a zAx x1),.ag (cellsD .a arT x2)] (.v (.bool true)) true:=qFx qQs x0 x1 x2 w0 w1 w2
end Go.Proofs.YtdfmdiakjdggbaaGreatDoor

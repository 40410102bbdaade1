import Derived.Test.YtdfmdiakjdggbaaGreatDoorRows
import Derived.Test.YtdfmdiakjdggbaaGreatDoorBaseA
import Derived.Test.YtdfmdiakjdggbaaGreatDoorBaseB
import Derived.Test.YtdfmdiakjdggbaaGreatDoorBaseC
import Derived.Test.YtdfmdiakjdggbaaGreatDoorBaseD
import Derived.Test.YtdfmdiakjdggbaaGreatDoorBaseE
import Derived.Test.YtdfmdiakjdggbaaGreatDoorBaseF
set_option linter.unusedVariables false
set_option linter.unusedSimpArgs false
set_option linter.unnecessarySimpa false
namespace Go.Proofs.YtdfmdiakjdggbaaGreatDoor
open Go Go.Gv Go.Ev IntKind
set_option maxRecDepth 1000000
noncomputable def pfs:List Nat:=[16,22,23,24,30,31,32,35,36,43,44,45,46,61,70,76,77,78,79,94,95,119,134,146,156,157,158,169,170,171,183,184,185,186,187,228,234,240,241,242,269]
noncomputable def i(n:Int):T:= .v (.int .i64 n)
noncomputable def w(n:Int):T:= .v (.int .u32 n)
noncomputable def tt:T:= .v (.bool true)
noncomputable def ff:T:= .v (.bool false)
noncomputable def nl:T:= .v (.slice none 0 0)
noncomputable def sL(l:List T):T:= .sl l l.length
noncomputable def ea1:List T:=[(.sl [(i 50),(i 5),(i 0),ff,(sL [(w 1)]),(sL [(w 2)]),(i 100),(i 10),(i 0),ff,(sL [(w 1)]),(sL [(w 2)])] 2)]
noncomputable def et1:T:=(i 0)
theorem er1:yV Tryz.prog (evC Tryz.prog noS (orF Tryz.prog (xD tb0) pfs) 1000) 0 46 ea1=some (et1,true):=by kernel_rfl
noncomputable def eb1:List (Nat×(List T→Option (T×Bool))):=(46,zBx ea1 (et1,true))::tb0
theorem eo1:qI Tryz.prog (xD eb1):=qI.cons qIe (tC (by kernel_rfl) tF qIe pfs er1) (by kernel_rfl)
noncomputable def ea2:List T:=[(.ag [(sL [(i (-100)),(i 0),(i 100)]),(sL [(i 0),(i 10)]),(sL [(i 0)]),(.sl [(.v (.int .u8 0)),(i 0),(i 0),(.v (.int .u8 1)),(i 10),(i 20)] 2),(i 5),(i 50),(i 1),(.sl [(i 0),ff,(sL [(w 1)]),(sL [])] 1),(.sl [(i 0),ff,(sL [(w 1)]),(sL [])] 1),ff,(sL [(w 1)]),(sL [(w 10)]),ff,nl,nl,ff,nl,nl])]
noncomputable def et2:T:=(i 0)
theorem er2:yV Tryz.prog (evC Tryz.prog noS (orF Tryz.prog (xD eb1) pfs) 1000) 0 119 ea2=some (et2,true):=by kernel_rfl
noncomputable def eb2:List (Nat×(List T→Option (T×Bool))):=(119,zBx ea2 (et2,true))::eb1
theorem eo2:qI Tryz.prog (xD eb2):=qI.cons eo1 (tC (by kernel_rfl) tF eo1 pfs er2) (by kernel_rfl)
noncomputable def ea3:List T:=[(.ag [(sL [(i (-100)),(i 0),(i 100)]),(sL [(i 0),(i 10)]),(sL [(i 0)]),(.sl [(.v (.int .u8 0)),(i 0),(i 0),(.v (.int .u8 1)),(i 10),(i 20)] 2),(i 5),(i 50),(i 1),(.sl [(i 0),ff,(sL [(w 1)]),(sL [])] 1),(.sl [(i 0),ff,(sL [(w 1)]),(sL [])] 1),ff,(sL [(w 1)]),(sL [(w 10)]),ff,nl,nl,ff,nl,nl,(i 10),(sL [(sL [(i 0),(i 1)]),(sL [(i 10),(i 11)]),(sL [(i 9),(i 10)]),(sL [(i 1),(i 2)])]),(sL [(sL [(i 0),(i 0),(i 0),(i 0),(i 1),(i 1),(i 2),(i 2),(i 0),(i 0),(i 3),(i 3)])])])]
noncomputable def et3:T:=(i 0)
theorem er3:yV Tryz.prog (evC Tryz.prog noS (orF Tryz.prog (xD eb2) pfs) 1000) 0 61 ea3=some (et3,true):=by kernel_rfl
noncomputable def eb3:List (Nat×(List T→Option (T×Bool))):=(61,zBx ea3 (et3,true))::eb2
theorem eo3:qI Tryz.prog (xD eb3):=qI.cons eo2 (tC (by kernel_rfl) tF eo2 pfs er3) (by kernel_rfl)
noncomputable def ea4:List T:=[(sL [(sL [(i (-100)),(i 0),(i 100)]),(sL [(i 0),(i 10)]),(sL [(i 0)])]),(sL [(i 50),(i 5),(i 0)])]
noncomputable def et4:T:=(.tu [(.sl [(i 2),ff,(sL [(w 1)]),(sL [(w 4)]),(i 3),ff,(sL [(w 1)]),(sL [(w 4)]),(i 4),ff,(sL [(w 1)]),(sL [(w 4)]),(i 5),ff,(sL [(w 1)]),(sL [(w 4)])] 4),(i 0)])
theorem er4:yV Tryz.prog (evC Tryz.prog noS (orF Tryz.prog (xD eb3) pfs) 1000) 0 78 ea4=some (et4,true):=by kernel_rfl
noncomputable def eb4:List (Nat×(List T→Option (T×Bool))):=(78,zBx ea4 (et4,true))::eb3
theorem eo4:qI Tryz.prog (xD eb4):=qI.cons eo3 (tC (by kernel_rfl) tF eo3 pfs er4) (by kernel_rfl)
noncomputable def ea5:List T:=[(.sl [ff,(sL [(w 1)]),(sL [(w 4)]),ff,(sL [(w 1)]),(sL [(w 4)]),ff,(sL [(w 1)]),(sL [(w 4)]),ff,(sL [(w 1)]),(sL [(w 4)])] 4),(.sl [ff,(sL [(w 10)]),(sL []),ff,(sL [(w 9)]),(sL []),ff,(sL []),(sL []),ff,(sL [(w 1)]),(sL [])] 4)]
noncomputable def et5:T:=(.tu [(.ag [ff,(sL [(w 5)]),(sL [])]),(i 0)])
theorem er5:yV Tryz.prog (evC Tryz.prog noS (orF Tryz.prog (xD eb4) pfs) 1000) 0 70 ea5=some (et5,true):=by kernel_rfl
noncomputable def eb5:List (Nat×(List T→Option (T×Bool))):=(70,zBx ea5 (et5,true))::eb4
theorem eo5:qI Tryz.prog (xD eb5):=qI.cons eo4 (tC (by kernel_rfl) tF eo4 pfs er5) (by kernel_rfl)
noncomputable def ea6:List T:=[(.sl [ff,(sL [(w 1)]),(sL [(w 4)]),ff,(sL [(w 1)]),(sL [(w 4)]),ff,(sL [(w 1)]),(sL [(w 4)]),ff,(sL [(w 1)]),(sL [(w 4)])] 4),(.sl [ff,(sL [(w 11)]),(sL []),ff,(sL [(w 10)]),(sL []),ff,(sL [(w 1)]),(sL []),ff,(sL [(w 2)]),(sL [])] 4)]
noncomputable def et6:T:=(.tu [(.ag [ff,(sL [(w 6)]),(sL [])]),(i 0)])
theorem er6:yV Tryz.prog (evC Tryz.prog noS (orF Tryz.prog (xD eb5) pfs) 1000) 0 70 ea6=some (et6,true):=by kernel_rfl
noncomputable def eb6:List (Nat×(List T→Option (T×Bool))):=(70,zBx ea6 (et6,true))::eb5
theorem eo6:qI Tryz.prog (xD eb6):=qI.cons eo5 (tC (by kernel_rfl) tF eo5 pfs er6) (by kernel_rfl)
noncomputable def ea7:List T:=[(.ag [(sL [(i (-100)),(i 0),(i 100)]),(sL [(i 0),(i 10)]),(sL [(i 0)]),(.sl [(.v (.int .u8 0)),(i 0),(i 0),(.v (.int .u8 1)),(i 10),(i 20)] 2),(i 5),(i 50),(i 1),(.sl [(i 0),ff,(sL [(w 1)]),(sL [])] 1),(.sl [(i 0),ff,(sL [(w 1)]),(sL [])] 1),ff,(sL [(w 1)]),(sL [(w 10)]),ff,nl,nl,ff,nl,nl,(i 10),(sL [(sL [(i 0),(i 1)]),(sL [(i 10),(i 11)]),(sL [(i 9),(i 10)]),(sL [(i 1),(i 2)])]),(sL [(sL [(i 0),(i 0),(i 0),(i 0),(i 1),(i 1),(i 2),(i 2),(i 0),(i 0),(i 3),(i 3)])])]),(i 1),(i 50),(i 5),(i 0),(i 0)]
noncomputable def et7:T:=(.tu [(.sl [ff,(sL [(w 1)]),(sL [(w 2)]),ff,(sL [(w 3)]),(sL [(w 5)])] 2),(i 0)])
theorem er7:yV Tryz.prog (evC Tryz.prog noS (orF Tryz.prog (xD eb6) pfs) 1000) 0 32 ea7=some (et7,true):=by kernel_rfl
noncomputable def eb7:List (Nat×(List T→Option (T×Bool))):=(32,zBx ea7 (et7,true))::eb6
theorem eo7:qI Tryz.prog (xD eb7):=qI.cons eo6 (tC (by kernel_rfl) tF eo6 pfs er7) (by kernel_rfl)
noncomputable def ea8:List T:=[(sL [(sL [(i (-100)),(i 0),(i 100)]),(sL [(i 0),(i 10)]),(sL [(i 0)])]),(sL [(i 100),(i 10),(i 0)])]
noncomputable def et8:T:=(.tu [(.sl [(i 5),ff,(sL [(w 1)]),(sL [])] 1),(i 0)])
theorem er8:yV Tryz.prog (evC Tryz.prog noS (orF Tryz.prog (xD eb7) pfs) 1000) 0 78 ea8=some (et8,true):=by kernel_rfl
noncomputable def eb8:List (Nat×(List T→Option (T×Bool))):=(78,zBx ea8 (et8,true))::eb7
theorem eo8:qI Tryz.prog (xD eb8):=qI.cons eo7 (tC (by kernel_rfl) tF eo7 pfs er8) (by kernel_rfl)
noncomputable def ea9:List T:=[(.ag [(sL [(i (-100)),(i 0),(i 100)]),(sL [(i 0),(i 10)]),(sL [(i 0)]),(.sl [(.v (.int .u8 0)),(i 0),(i 0),(.v (.int .u8 1)),(i 10),(i 20)] 2),(i 5),(i 50),(i 1),(.sl [(i 0),ff,(sL [(w 1)]),(sL [])] 1),(.sl [(i 0),ff,(sL [(w 1)]),(sL [])] 1),ff,(sL [(w 1)]),(sL [(w 10)]),ff,nl,nl,ff,nl,nl,(i 10),(sL [(sL [(i 0),(i 1)]),(sL [(i 10),(i 11)]),(sL [(i 9),(i 10)]),(sL [(i 1),(i 2)])]),(sL [(sL [(i 0),(i 0),(i 0),(i 0),(i 1),(i 1),(i 2),(i 2),(i 0),(i 0),(i 3),(i 3)])])]),(i 1),(i 100),(i 10),(i 0),(i 0)]
noncomputable def et9:T:=(.tu [(.sl [ff,(sL [(w 1)]),(sL [(w 10)]),ff,(sL [(w 1)]),(sL [(w 5)])] 2),(i 0)])
theorem er9:yV Tryz.prog (evC Tryz.prog noS (orF Tryz.prog (xD eb8) pfs) 1000) 0 32 ea9=some (et9,true):=by kernel_rfl
noncomputable def eb9:List (Nat×(List T→Option (T×Bool))):=(32,zBx ea9 (et9,true))::eb8
theorem eo9:qI Tryz.prog (xD eb9):=qI.cons eo8 (tC (by kernel_rfl) tF eo8 pfs er9) (by kernel_rfl)
noncomputable def ea10:List T:=[(.ag [(sL [(i (-100)),(i 0),(i 100)]),(sL [(i 0),(i 10)]),(sL [(i 0)]),(.sl [(.v (.int .u8 0)),(i 0),(i 0),(.v (.int .u8 1)),(i 10),(i 20)] 2),(i 5),(i 50),(i 1),(.sl [(i 0),ff,(sL [(w 1)]),(sL [])] 1),(.sl [(i 0),ff,(sL [(w 1)]),(sL [])] 1),ff,(sL [(w 1)]),(sL [(w 10)]),ff,nl,nl,ff,nl,nl,(i 10),(sL [(sL [(i 0),(i 1)]),(sL [(i 10),(i 11)]),(sL [(i 9),(i 10)]),(sL [(i 1),(i 2)])]),(sL [(sL [(i 0),(i 0),(i 0),(i 0),(i 1),(i 1),(i 2),(i 2),(i 0),(i 0),(i 3),(i 3)])])]),(i 1),(.sl [(i 50),(i 5),(i 0),ff,(sL [(w 1)]),(sL [(w 2)]),(i 100),(i 10),(i 0),ff,(sL [(w 1)]),(sL [(w 2)])] 2),(i 0)]
noncomputable def et10:T:=(.tu [(.sl [ff,(sL [(w 3)]),(sL [(w 10)]),ff,(sL [(w 2)]),(sL [(w 5)])] 2),(i 0)])
theorem er10:yV Tryz.prog (evC Tryz.prog noS (orF Tryz.prog (xD eb9) pfs) 1000) 0 22 ea10=some (et10,true):=by kernel_rfl
noncomputable def qTc:List (Nat×(List T→Option (T×Bool))):=(22,zBx ea10 (et10,true))::eb9
theorem eo10:qI Tryz.prog (xD qTc):=qI.cons eo9 (tC (by kernel_rfl) tF eo9 pfs er10) (by kernel_rfl)
noncomputable def ea11:List T:=[(.ag [(sL [(i (-100)),(i 0),(i 100)]),(sL [(i 0),(i 10)]),(sL [(i 0)]),(.sl [(.v (.int .u8 0)),(i 0),(i 0),(.v (.int .u8 1)),(i 10),(i 20)] 2),(i 5),(i 50),(i 1),(.sl [(i 0),ff,(sL [(w 1)]),(sL [])] 1),(.sl [(i 0),ff,(sL [(w 1)]),(sL [])] 1),ff,(sL [(w 1)]),(sL [(w 10)]),ff,nl,nl,ff,nl,nl,(i 10),(sL [(sL [(i 0),(i 1)]),(sL [(i 10),(i 11)]),(sL [(i 9),(i 10)]),(sL [(i 1),(i 2)])]),(sL [(sL [(i 0),(i 0),(i 0),(i 0),(i 1),(i 1),(i 2),(i 2),(i 0),(i 0),(i 3),(i 3)])])]),(i 1),(.sl [(i 50),(i 5),(i 0),ff,(sL [(w 1)]),(sL [(w 2)]),(i 100),(i 10),(i 0),ff,(sL [(w 1)]),(sL [(w 2)])] 2),(i 0),(.ag [ff,(sL [(w 1)]),(sL [(w 100)]),ff,(sL [(w 1)]),(sL [(w 20)]),ff,(sL [(w 1)]),(sL [(w 50)])]),(.v (.int .u8 1))]
noncomputable def et11:T:=(.tu [(.sl [ff,(sL [(w 3)]),(sL [(w 10)]),ff,(sL [(w 23)]),(sL [(w 50)])] 2),(i 0)])
theorem er11:yV Tryz.prog (evC Tryz.prog noS (orF Tryz.prog (xD qTc) pfs) 1000) 0 23 ea11=some (et11,true):=by kernel_rfl
noncomputable def eb11:List (Nat×(List T→Option (T×Bool))):=(23,zBx ea11 (et11,true))::qTc
theorem eo11:qI Tryz.prog (xD eb11):=qI.cons eo10 (tC (by kernel_rfl) tF eo10 pfs er11) (by kernel_rfl)
noncomputable def ea12:List T:=[]
noncomputable def et12:T:=tt
theorem er12:yV Tryz.prog (evC Tryz.prog noS (orF Tryz.prog (xD eb11) pfs) 1000) 0 16 ea12=some (et12,true):=by kernel_rfl
theorem qYw:KnP Tryz.prog 0 16 [] (.v (.bool true)) true:=tC (by kernel_rfl) tF eo11 pfs er12
end Go.Proofs.YtdfmdiakjdggbaaGreatDoor
namespace Go.Proofs.YtdfmdiakjdggbaaGreatDoor
open Go Go.Gv Go.Ev Go.RowKit IntKind
noncomputable abbrev pT:Ty:= .prod (.int .i64) (.prod (.int .i64) (.int .i64))
noncomputable abbrev wT:Ty:= .prod pT jI
abbrev Rt:=Ty.den jI
abbrev Pt:=Ty.den pT
abbrev Wt:=Ty.den wT
abbrev rw'(x:Rt):Raw:=⟨x.1,x.2.1,x.2.2⟩
noncomputable abbrev toT(a:Raw):Rt:=(a.neg,a.ln,a.ld)
noncomputable abbrev pC(p:Pt):List T:=[.v (.int .i64 p.1),.v (.int .i64 p.2.1),.v (.int .i64 p.2.2)]
noncomputable abbrev rC(a:Raw):List T:=[.v (.bool a.neg),.ls .a .lim a.ln,.ls .a .lim a.ld]
abbrev rrT:=List (Nat×(List T→DT (T×Bool)))
theorem xA:Tryz.prog.follows .mixedOrders=true:=by kernel_rfl
noncomputable abbrev yI(n:Int):Option (T×Bool):=some (.v (.int .i64 n),true)
noncomputable abbrev yB(b:Bool):Option (T×Bool):=some (.v (.bool b),true)
noncomputable def cmI(a b:Int):Int:=bif ilt a b then -1 else(bif ilt b a then 1 else 0)
theorem eCc(a b:Int):((yU Tryz.prog (evD Tryz.prog (odT []) (loT []) 60) 171 [.v (.int .i64 a),.v (.int .i64 b)] []).bind kM).run=bif !ieq a a then(bif !ieq b b then yI 0 else yI (-1))else(bif !ieq b b then yI 1 else(bif ilt a b then yI (-1)else(bif ilt b a then yI 1 else yI 0))):=by kernel_rfl
noncomputable def oCc:List T→DT (T×Bool)
 | [.v (.int .i64 a),.v (.int .i64 b)]=> .ret (.v (.int .i64 (cmI a b)),true)
 | _=> .no
theorem kCc:∀az tv nw,(oCc az).run=some (tv,nw)→∀k,KnP Tryz.prog k 171 az tv nw:=by
 intro az tv nw h k;unfold oCc at h;split at h
 ·rename_i a b;cases h;have q:((yU Tryz.prog (evD Tryz.prog (odT []) (loT []) 60) 171 [.v (.int .i64 a),.v (.int .i64 b)] []).bind kM).run=yI (cmI a b):=by
   rw[eCc,kF rfl,kF rfl];unfold cmI;cases ilt a b<;>cases ilt b a<;>rfl
  exact xE (cz:=[.v (.int .i64 a),.v (.int .i64 b)]) xA xU jG q rfl k
 ·cases h
noncomputable abbrev O1':Od:=odT [(171,oCc)]
theorem qVc:vS Tryz.prog O1':=zX xU kCc
noncomputable def cpP(p q:Pt):Int:=bif !ieq (cmI p.1 q.1) 0 then cmI p.1 q.1 else(bif !ieq (cmI p.2.1 q.2.1) 0 then cmI p.2.1 q.2.1 else(bif !ieq (cmI p.2.2 q.2.2) 0 then cmI p.2.2 q.2.2 else 0))
theorem eCp(p q:Pt):((yU Tryz.prog (evD Tryz.prog (O1') (loT []) 60) 95 [.ag (pC p),.ag (pC q)] []).bind kM).run=bif !ieq (cmI p.1 q.1) 0 then yI (cmI p.1 q.1)else(bif !ieq (cmI p.2.1 q.2.1) 0 then yI (cmI p.2.1 q.2.1)else(bif !ieq (cmI p.2.2 q.2.2) 0 then yI (cmI p.2.2 q.2.2)else yI 0)):=by kernel_rfl
noncomputable def oCp:List T→DT (T×Bool)
 | [.ag [.v (.int .i64 a),.v (.int .i64 b),.v (.int .i64 c)],.ag [.v (.int .i64 a2),.v (.int .i64 b2),.v (.int .i64 c2)]]=> .ret (.v (.int .i64 (cpP (a,b,c) (a2,b2,c2))),true)
 | _=> .no
theorem kCp:∀az tv nw,(oCp az).run=some (tv,nw)→∀k,KnP Tryz.prog k 95 az tv nw:=by
 intro az tv nw h k;unfold oCp at h;split at h
 ·rename_i a b c a2 b2 c2;cases h;have g:∀p q:Pt,((yU Tryz.prog (evD Tryz.prog (O1') (loT []) 60) 95 [.ag (pC p),.ag (pC q)] []).bind kM).run=yI (cpP p q):=fun p q=>by
   rw[eCp];unfold cpP;cases ieq (cmI p.1 q.1) 0<;>cases ieq (cmI p.2.1 q.2.1) 0<;>cases ieq (cmI p.2.2 q.2.2) 0<;>rfl
  exact xE (cz:=[.ag (pC (a,b,c)),.ag (pC (a2,b2,c2))]) xA qVc jG (g (a,b,c) (a2,b2,c2)) rfl k
 ·cases h
noncomputable def gU(p:Pt):Bool:=ilt p.1 (-200000)||(ilt 200000 p.1||(ilt p.2.1 (-100)||(ilt 100 p.2.1||(ilt p.2.2 (-100)||ilt 100 p.2.2))))
theorem eCk(p:Pt)(b:Bool)(l m:List Nat):((yU Tryz.prog (evD Tryz.prog (odT []) (loT []) 60) 94 [.ag (pC p++rC ⟨b,l,m⟩)] []).bind kM).run=bif ilt p.1 (-200000)then yI 7 else(bif ilt 200000 p.1 then yI 7 else(bif ilt p.2.1 (-100)then yI 7 else(bif ilt 100 p.2.1 then yI 7 else(bif ilt p.2.2 (-100)then yI 7 else(bif ilt 100 p.2.2 then yI 7 else yI 0))))):=by kernel_rfl
noncomputable def oCk:List T→DT (T×Bool)
 | [.ag [.v (.int .i64 a),.v (.int .i64 b),.v (.int .i64 c),.v (.bool s),.ls .a .lim l,.ls .a .lim m]]=> .ret (.v (.int .i64 (bif gU (a,b,c)then 7 else 0)),true)
 | _=> .no
theorem kCk:∀az tv nw,(oCk az).run=some (tv,nw)→∀k,KnP Tryz.prog k 94 az tv nw:=by
 intro az tv nw h k;unfold oCk at h;split at h
 ·rename_i a b' c b l m;cases h;have g:∀p:Pt,((yU Tryz.prog (evD Tryz.prog (odT []) (loT []) 60) 94 [.ag (pC p++rC ⟨b,l,m⟩)] []).bind kM).run=yI (bif gU p then 7 else 0):=fun p=>by
   rw[eCk];unfold gU;cases ilt p.1 (-200000)<;>cases ilt 200000 p.1<;>cases ilt p.2.1 (-100)<;>cases ilt 100 p.2.1<;>cases ilt p.2.2 (-100)<;>cases ilt 100 p.2.2<;>rfl
  exact xE (cz:=[.ag (pC (a,b',c)++rC ⟨b,l,m⟩)]) xA xU jG (g (a,b',c)) rfl k
 ·cases h
noncomputable def leP(p q:Pt):Bool:=bif !ieq p.1 q.1 then ilt p.1 q.1 else(bif !ieq p.2.1 q.2.1 then ilt p.2.1 q.2.1 else ilt p.2.2 q.2.2)
theorem eLs(p q:Pt):((yU Tryz.prog (evD Tryz.prog (odT []) (loT []) 60) 167 [.ag (pC p),.ag (pC q)] []).bind kM).run=bif !ieq p.1 q.1 then yB (ilt p.1 q.1)else(bif !ieq p.2.1 q.2.1 then yB (ilt p.2.1 q.2.1)else yB (ilt p.2.2 q.2.2)):=by kernel_rfl
noncomputable def oLs:List T→DT (T×Bool)
 | [.ag [.v (.int .i64 a),.v (.int .i64 b),.v (.int .i64 c)],.ag [.v (.int .i64 a2),.v (.int .i64 b2),.v (.int .i64 c2)]]=> .ret (.v (.bool (leP (a,b,c) (a2,b2,c2))),true)
 | _=> .no
theorem kLs:∀az tv nw,(oLs az).run=some (tv,nw)→∀k,KnP Tryz.prog k 167 az tv nw:=by
 intro az tv nw h k;unfold oLs at h;split at h
 ·rename_i a b c a2 b2 c2;cases h;have g:∀p q:Pt,((yU Tryz.prog (evD Tryz.prog (odT []) (loT []) 60) 167 [.ag (pC p),.ag (pC q)] []).bind kM).run=yB (leP p q):=fun p q=>by
   rw[eLs];unfold leP;cases ieq p.1 q.1<;>cases ieq p.2.1 q.2.1<;>rfl
  exact xE (cz:=[.ag (pC (a,b,c)),.ag (pC (a2,b2,c2))]) xA xU jG (g (a,b,c) (a2,b2,c2)) rfl k
 ·cases h
noncomputable def qVa(ck:Raw→Int)(ad su mu:Raw→Raw→Raw)(ae se me:Raw→Raw→Int)(cm ce:Raw→Raw→Int)(fr:Int→Raw)(eqB:Raw→Raw→Bool):rrT:=[(75,kcD (pR ck) true),(34,kcD (pRR fun a b=>some (ad a b,ae a b)) true),(48,kcD (pRR fun a b=>some (su a b,se a b)) true),(49,kcD (pRR fun a b=>some (mu a b,me a b)) true),(33,kcD (pRI fun a b=>(cm a b,ce a b)) true),(47,kcD (pI fr) true),(37,kcD (pB eqB) true)]
noncomputable def Lb0:Lp:=⟨0,
 ⟨[.h]++(us' 22++([.h,.h,.h]++(us' 71))),[]⟩,
 ⟨[.h]++(us' 96),[]⟩,
 ⟨[.u,.u,.h]++(us' 94),[]⟩⟩
noncomputable abbrev qOj:Code:=lpc Tryz.prog 46 [false,true,false,true,true]
theorem qRg:cAt Tryz.prog 46 [false,true,false,true,true]=some (.loop qOj):=by kernel_rfl
noncomputable abbrev zVe(OD:Od)(LO:Lo):Hs→Option (Hs⊕(Ex×Hs)):=Lb0.stp (evD Tryz.prog OD LO 60) 46 [false,true,false,true,true] qOj
noncomputable def Lb1:Lp:=⟨2,
 ⟨us' 7++([.t (.fn 172 [.op 1 0,.op 0 0]),.t (.fn 173 [.op 1 0,.op 0 0])]++(us' 61++([.h,.h,.h]++(us' 24)))),[.r [.h,.h,.h] 28,.r [.h] 46]⟩,
 ⟨us' 8++([.t (.fn 173 [.op 1 0,.op 0 0])]++(us' 88)),[.r [.h,.h,.h] 28,.r [.h] 46]⟩,
 ⟨[.u,.u,.h]++(us' 94),[.g,.g]⟩⟩
noncomputable abbrev qOk:Code:=lpc Tryz.prog 46 [false,true,false,true,true,true,true]
theorem qRh:cAt Tryz.prog 46 [false,true,false,true,true,true,true]=some (.loop qOk):=by kernel_rfl
noncomputable abbrev zVf(OD:Od)(LO:Lo):Hs→Option (Hs⊕(Ex×Hs)):=Lb1.stp (evD Tryz.prog OD LO 60) 46 [false,true,false,true,true,true,true] qOk
noncomputable def iB0(l:List Wt)(k i:Nat):Hs:=⟨[.ls .a wT l,.ls .a wT l,.v (.int .i64 (.ofNat k)),.v (.int .i64 (.ofNat i))],[],[]⟩
noncomputable abbrev rN(a:Raw):List T:=[.v (.bool a.neg),.ls .n .lim a.ln,.ls .n .lim a.ld]
noncomputable def iB1(l:List Wt)(k i:Nat)(t:Raw)(e:Int):Hs:=⟨[.ls .a wT l,.v (.int .i64 (.ofNat k)),.v (.int .i64 (.ofNat i))],[],[rN t,[.v (.int .i64 e)]]⟩
noncomputable abbrev St':=Option (Hs⊕(Ex×Hs))
noncomputable def nx{α:Type}(i:Nat)(x:α):Option α:=bif Nat.blt (i+1) 9223372036854775808 then some x else none
theorem sP{α:Type}{i:Nat}{x:α}(h:i+1<9223372036854775808):nx i x=some x:=by
 unfold nx;rw[zW h];rfl
noncomputable abbrev wA(l:List Wt)(i:Nat):Wt:=nth wT.zero l i
noncomputable abbrev qGn(e:Int):St':=some (.inr (.r,⟨[.v (.int .i64 e)],[],[]⟩))
section
variable (ck:Raw→Int)(ad su mu:Raw→Raw→Raw)(ae se me:Raw→Raw→Int)(cm ce:Raw→Raw→Int)(fr:Int→Raw)(eqB:Raw→Raw→Bool)
noncomputable abbrev OB:Od:=odT ((95,odR [pT,pT] oCp)::(94,odR [wT] oCk)::qVa ck ad su mu ae se me cm ce fr eqB)
noncomputable abbrev b0K(x:Wt)(k:St'):St':=bif !ieq (ck (rw' x.2)) 0 then qGn (ck (rw' x.2))else(bif x.2.1 then qGn 1 else(bif ieq (.ofNat x.2.2.1.length) 0 then qGn 1 else k))
noncomputable abbrev pr(i:Nat):Int:=Int.sub (.ofNat i) 1
theorem sB0(l:List Wt)(k i:Nat):zVe (OB ck ad su mu ae se me cm ce fr eqB) (loT []) (iB0 l k i)=bif Nat.blt i k then(bif Nat.blt i l.length then(bif !ieq (bif gU (wA l i).1 then 7 else 0) 0 then qGn (bif gU (wA l i).1 then 7 else 0)else(bif ilt 0 (.ofNat i)then(bif inW (pr i)then(bif nng (pr i)then(bif Nat.blt (pr i).toNat l.length then(bif ilt 0 (.ofNat i)then(bif !ilt (cpP (wA l (pr i).toNat).1 (wA l i).1) 0 then qGn 2 else b0K ck (wA l i) (nx i (.inl (iB0 l k (i+1)))))else b0K ck (wA l i) (nx i (.inl (iB0 l k (i+1)))))else none)else none)else none)else(bif ilt 0 (.ofNat i)then none else b0K ck (wA l i) (nx i (.inl (iB0 l k (i+1)))))))else none)else some (.inr (.x 1,⟨[.ls .a wT l],[],[]⟩)):=by kernel_rfl
noncomputable def gB0(l:List Wt)(i:Nat)(_:Unit):Unit⊕Option Int:=bif gU (wA l i).1 then .inr (some 7)else(bif ilt 0 (.ofNat i)&&!ilt (cpP (wA l (i-1)).1 (wA l i).1) 0 then .inr (some 2)else(bif !ieq (ck (rw' (wA l i).2)) 0 then .inr (some (ck (rw' (wA l i).2)))else(bif(wA l i).2.1||ieq (.ofNat (wA l i).2.2.1.length) 0 then .inr (some 1)else .inl ())))
noncomputable def b0F(l:List Wt):Option Int:=fol (gB0 ck l) (fun _=>none) l.length 0 ()
noncomputable def qGm(l:List Wt):Option Int→Ex×Hs
 | none=>(.x 1,⟨[.ls .a wT l],[],[]⟩)
 | some e=>(.r,⟨[.v (.int .i64 e)],[],[]⟩)
theorem lpB0(l:List Wt)(h9:l.length<9223372036854775807):lpF (zVe (OB ck ad su mu ae se me cm ce fr eqB) (loT [])) l.length (iB0 l l.length 0)=some (qGm l (b0F ck l)):=
 kS (iv:=fun i(_:Unit)=>iB0 l l.length i) (g:=gB0 ck l) (d:=fun _=>none) (out:=qGm l) (n:=l.length) (fun _ _=>True)
  (fun i _ hi _=>by
   rw[sB0];unfold gB0;simp only[b0K,zW hi,cond_true,sP (show i+1<9223372036854775808 by omega)]
   cases i with
   | zero=>
    have e:ilt 0 (.ofNat 0)=false:=rfl;rw[e];cases gU (wA l 0).1<;>cases ieq (ck (rw' (wA l 0).2)) 0<;>cases(wA l 0).2.1<;>cases ieq (.ofNat (wA l 0).2.2.1.length) 0<;>rfl
   | succ i=>
    have e:ilt 0 (.ofNat (i+1))=true:=rfl;have e2:pr (i+1)= .ofNat i:=by show((i+1:Nat):Int)-1=(i:Int);omega
    have e3:inW (.ofNat i)=true:=zW (show i<9223372036854775808 by omega)
    rw[e,e2,e3];have e4:(Int.ofNat i).toNat=i:=rfl;rw[e4];simp only[nng,zW (show i<l.length by omega),cond_true,Nat.add_sub_cancel]
    cases gU (wA l (i+1)).1<;>cases ilt (cpP (wA l i).1 (wA l (i+1)).1) 0<;>cases ieq (ck (rw' (wA l (i+1)).2)) 0<;>cases(wA l (i+1)).2.1<;>cases ieq (.ofNat (wA l (i+1)).2.2.1.length) 0<;>rfl)
  (fun _ _ _ _ _ _=>trivial)
  (fun _ _=>by rw[sB0];simp only[yF (Nat.le_refl _),cond_false];rfl) l.length 0 () (by omega) trivial
theorem sB1(l:List Wt)(k i:Nat)(t:Raw)(e:Int):zVf (OB ck ad su mu ae se me cm ce fr eqB) (loT []) (iB1 l k i t e)=bif Nat.blt i k then(bif Nat.blt i l.length then(bif ieq e 0 then(bif ieq e 0 then nx i (.inl (iB1 l k (i+1) (ad t (rw' (wA l i).2)) (ae t (rw' (wA l i).2))))else nx i (.inl (iB1 l k (i+1) t e)))else(bif ieq e 0 then nx i (.inl (iB1 l k (i+1) (ad t (rw' (wA l i).2)) (ae t (rw' (wA l i).2))))else nx i (.inl (iB1 l k (i+1) t e))))else none)else some (.inr (.x 3,⟨[],[],[rN t,[.v (.int .i64 e)]]⟩)):=by kernel_rfl
noncomputable def gB1(l:List Wt)(i:Nat)(a:Raw×Int):(Raw×Int)⊕(Raw×Int):= .inl (bif ieq a.2 0 then(ad a.1 (rw' (wA l i).2),ae a.1 (rw' (wA l i).2))else a)
noncomputable def b1F(l:List Wt):Raw×Int:=fol (gB1 ad ae l) id l.length 0 (fr 0,0)
theorem lpB1(l:List Wt)(h9:l.length<9223372036854775807):lpF (zVf (OB ck ad su mu ae se me cm ce fr eqB) (loT [])) l.length (iB1 l l.length 0 (fr 0) 0)=some (.x 3,⟨[],[],[rN (b1F ad ae fr l).1,[.v (.int .i64 (b1F ad ae fr l).2)]]⟩):=
 kS (iv:=fun i(a:Raw×Int)=>iB1 l l.length i a.1 a.2) (g:=gB1 ad ae l) (d:=id) (out:=fun a=>(.x 3,⟨[],[],[rN a.1,[.v (.int .i64 a.2)]]⟩)) (n:=l.length) (fun _ _=>True)
  (fun i a hi _=>by
   rw[sB1];unfold gB1;simp only[zW hi,cond_true,sP (show i+1<9223372036854775808 by omega)]
   cases ieq a.2 0<;>rfl)
  (fun _ _ _ _ _ _=>trivial)
  (fun _ _=>by rw[sB1];simp only[yF (Nat.le_refl _),cond_false];rfl) l.length 0 (fr 0,0) (by omega) trivial
noncomputable def qQw:Sh:=⟨.x 1,[.l .a wT],[],[]⟩
noncomputable def qQv:Sh:=⟨.r,[.i .i64],[],[]⟩
noncomputable def shB1:Sh:=⟨.x 3,[],[],[[.b,.l .n .lim,.l .n .lim],[.i .i64]]⟩
noncomputable abbrev LB:Lo:=loT [(46,[false,true,false,true,true],Lb0.row (lpR (zVe (OB ck ad su mu ae se me cm ce fr eqB) (loT [])) (fun q=>lnO (nth .u q.hs 2)) [qQw,qQv])),(46,[false,true,false,true,true,true,true],Lb1.row (lpR (zVf (OB ck ad su mu ae se me cm ce fr eqB) (loT [])) (fun q=>lnO (nth .u q.hs 1)) [shB1]))]
noncomputable abbrev qSu(t:Raw):Option (T×Bool):=bif !ieq (cm t (fr 1)) 0 then yI 16 else yI 0
noncomputable abbrev gd{α:Type}(b:Bool)(x:Option α):Option α:=bif b then x else none
noncomputable abbrev bcT(t:Raw)(e:Int):Option (T×Bool):=bif !ieq e 0 then gd (ieq e e&&true) (gd (ieq e e&&true) (gd (ieq e e&&true) (bif !ieq e 0 then yI e else qSu cm fr ⟨false,[],[]⟩)))else qSu cm fr t
noncomputable abbrev bc1(y:Option (Ex×Hs)):Option (T×Bool):=bif shT shB1 y then bcT cm fr ⟨bOf (hdT ((hsO y).ks.headD [])),lOf .lim (hdT ((hsO y).ks.headD []).tail),lOf .lim (hdT ((hsO y).ks.headD []).tail.tail)⟩ (iOf (hdT ((hsO y).ks.tail.headD [])))else none
noncomputable abbrev y1B(l:List Wt):Option (Ex×Hs):=lpF (zVf (OB ck ad su mu ae se me cm ce fr eqB) (loT [])) l.length (iB1 l l.length 0 (fr 0) 0)
noncomputable abbrev bc0(y:Option (Ex×Hs)):Option (T×Bool):=bif shT qQw y then bc1 cm fr (y1B ck ad su mu ae se me cm ce fr eqB (lOf wT (hdT (hsO y).hs)))else(bif shT qQv y then yI (iOf (hdT (hsO y).hs))else none)
theorem eBc(l:List Wt):((yU Tryz.prog (evD Tryz.prog (OB ck ad su mu ae se me cm ce fr eqB) (LB ck ad su mu ae se me cm ce fr eqB) 60) 46 [.ls .a wT l] []).bind kM).run=bif Nat.beq l.length 0 then yI 3 else(bif Nat.blt 4096 l.length then yI 4 else bc0 ck ad su mu ae se me cm ce fr eqB (lpF (zVe (OB ck ad su mu ae se me cm ce fr eqB) (loT [])) l.length (iB0 l l.length 0))):=by kernel_rfl
noncomputable def bcE(l:List Wt):Int:=bif Nat.beq l.length 0 then 3 else(bif Nat.blt 4096 l.length then 4 else(match b0F ck l with
 | some e=>e
 | none=>bif !ieq (b1F ad ae fr l).2 0 then(b1F ad ae fr l).2 else(bif !ieq (cm (b1F ad ae fr l).1 (fr 1)) 0 then 16 else 0)))
theorem qSl(l:List Wt):((yU Tryz.prog (evD Tryz.prog (OB ck ad su mu ae se me cm ce fr eqB) (LB ck ad su mu ae se me cm ce fr eqB) 60) 46 [.ls .a wT l] []).bind kM).run=yI (bcE ck ad ae cm fr l):=by
 rw[eBc];unfold bcE;cases h1:Nat.beq l.length 0 with
 | true=>rfl
 | false=>
  cases h2:Nat.blt 4096 l.length with
  | true=>rfl
  | false=>
   have h9:l.length<9223372036854775807:=by
    rcases Nat.lt_or_ge 4096 l.length with g | g
    ·rw[zW g]at h2;cases h2
    ·omega
   simp only[cond_false];rw[lpB0 ck ad su mu ae se me cm ce fr eqB l h9];cases b0F ck l with
   | some e=>rfl
   | none=>
    have e1:bc0 ck ad su mu ae se me cm ce fr eqB (some (qGm l none))=bc1 cm fr (y1B ck ad su mu ae se me cm ce fr eqB l):=rfl;rw[e1];show bc1 cm fr (y1B ck ad su mu ae se me cm ce fr eqB l)=_;unfold y1B;rw[lpB1 ck ad su mu ae se me cm ce fr eqB l h9];show bcT cm fr (b1F ad ae fr l).1 (b1F ad ae fr l).2=_;cases h3:ieq (b1F ad ae fr l).2 0 with
    | true=>simp only[bcT,qSu,h3,Bool.not_true,cond_false];cases ieq (cm (b1F ad ae fr l).1 (fr 1)) 0<;>rfl
    | false=>simp only[bcT,h3,kF rfl,gd,Bool.and_self,Bool.not_false,cond_true]
end
noncomputable def Lpt:Lp:=⟨0,
 ⟨[.h,.h,.u,.u,.a .n pT 61]++(us' 73),[]⟩,
 ⟨us' 4++([.a .n pT 61]++(us' 73)),[]⟩,
 ⟨us' 4++([.h]++(us' 73)),[]⟩⟩
noncomputable abbrev qOu:Code:=lpc Tryz.prog 92 [false,false,true]
theorem qRs:cAt Tryz.prog 92 [false,false,true]=some (.loop qOu):=by kernel_rfl
noncomputable abbrev qYc(OD:Od)(LO:Lo):Hs→Option (Hs⊕(Ex×Hs)):=Lpt.stp (evD Tryz.prog OD LO 60) 92 [false,false,true] qOu
noncomputable def iPt(a b:List Wt)(o:List Pt):Hs:=⟨[.ls .a wT a,.ls .a wT b],[.ls .n pT o],[]⟩
noncomputable abbrev ap(o:List Pt)(x:St'):St':=gd (Nat.ble (o.length+1+1) 9382499223534) (gd (Nat.beq (o.length+1) (o.length+1)) x)
noncomputable abbrev aq(o:List Pt)(x:St'):St':=gd (Nat.beq (o.length+1+1) (o.length+1+1)) x
noncomputable abbrev lq{α:Type}(a:List α)(x:St'):St':=gd (Nat.ble (a.length+1) (a.length+1)) x
noncomputable abbrev OP:Od:=odT [(167,odR [pT,pT] oLs)]
theorem qFx:vS Tryz.prog OP:=zX xU (xK kLs)
noncomputable abbrev st3:=qYc OP (loT [])
noncomputable abbrev tk(a:List Wt):List Wt:=a.take a.length
theorem qXc:st3 (iPt [] [] [])=some (.inr (.x 0,⟨[],[.ls .n pT []],[]⟩)):=by kernel_rfl
theorem qXb(p:Pt)(o:List Pt):st3 (iPt [] [] (p::o))=gd (Nat.beq (o.length+1) (o.length+1)) (some (.inr (.x 0,⟨[],[.ls .n pT (p::o)],[]⟩))):=by kernel_rfl
theorem qWy(x:Wt)(a:List Wt):st3 (iPt (x::a) [] [])=lq a (some (.inl (iPt (tk a) [] [x.1]))):=by kernel_rfl
theorem qWx(x:Wt)(a:List Wt)(p:Pt)(o:List Pt):st3 (iPt (x::a) [] (p::o))=ap o (lq a (aq o (some (.inl (iPt (tk a) [] (x.1::p::o)))))):=by kernel_rfl
theorem qXa(y:Wt)(b:List Wt):st3 (iPt [] (y::b) [])=lq b (some (.inl (iPt [] (tk b) [y.1]))):=by kernel_rfl
theorem qWz(y:Wt)(b:List Wt)(p:Pt)(o:List Pt):st3 (iPt [] (y::b) (p::o))=ap o (lq b (aq o (some (.inl (iPt [] (tk b) (y.1::p::o)))))):=by kernel_rfl
theorem qZo(x y:Wt)(a b:List Wt):st3 (iPt (x::a) (y::b) [])=bif leP x.1 y.1 then lq a (some (.inl (iPt (tk a) (y::b) [x.1])))else(bif leP y.1 x.1 then lq b (some (.inl (iPt (x::a) (tk b) [y.1])))else lq a (lq b (some (.inl (iPt (tk a) (tk b) [x.1]))))):=by kernel_rfl
theorem qZn(x y:Wt)(a b:List Wt)(p:Pt)(o:List Pt):st3 (iPt (x::a) (y::b) (p::o))=bif leP x.1 y.1 then ap o (lq a (aq o (some (.inl (iPt (tk a) (y::b) (x.1::p::o))))))else(bif leP y.1 x.1 then ap o (lq b (aq o (some (.inl (iPt (x::a) (tk b) (y.1::p::o))))))else ap o (lq a (lq b (aq o (some (.inl (iPt (tk a) (tk b) (x.1::p::o)))))))):=by kernel_rfl
noncomputable def mg1:List Wt→List Wt→Option (Pt×List Wt×List Wt)
 | x::a,y::b=>some (bif leP x.1 y.1 then(x.1,a,y::b)else(bif leP y.1 x.1 then(y.1,x::a,b)else(x.1,a,b)))
 | x::a,[]=>some (x.1,a,[])
 | [],y::b=>some (y.1,[],b)
 | [],[]=>none
theorem zKm{α:Type}{a:List α}{x:St'}:lq a x=x:=by simp only[lq,gd,kL (Nat.le_refl _),cond_true]
theorem qBk{o:List Pt}{x:St'}:aq o x=x:=by simp only[aq,gd,jW,cond_true]
theorem zOm{o:List Pt}{x:St'}(h:o.length<9000000000000):ap o x=x:=by simp only[ap,gd,jW,kL (show o.length+1+1≤9382499223534 by omega),cond_true]
theorem sPt(a b:List Wt)(o:List Pt)(h:o.length<9000000000000):st3 (iPt a b o)=match mg1 a b with
  | some (p,a2,b2)=>some (.inl (iPt a2 b2 (p::o)))
  | none=>some (.inr (.x 0,⟨[],[.ls .n pT o],[]⟩)):=by
 have ht:∀a:List Wt,tk a=a:=fun a=>List.take_length;cases o with
 | nil=>cases a with
  | nil=>cases b with
   | nil=>rw[qXc];rfl
   | cons y b=>rw[qXa,zKm,ht];rfl
  | cons x a=>cases b with
   | nil=>rw[qWy,zKm,ht];rfl
   | cons y b=>
    rw[qZo];simp only[zKm,ht,mg1];cases leP x.1 y.1<;>cases leP y.1 x.1<;>rfl
 | cons p o=>
  have h2:o.length<9000000000000:=by simp only[List.length_cons]at h;omega
  cases a with
  | nil=>cases b with
   | nil=>rw[qXb];simp only[gd,jW,cond_true];rfl
   | cons y b=>rw[qWz,zOm h2,zKm,qBk,ht];rfl
  | cons x a=>cases b with
   | nil=>rw[qWx,zOm h2,zKm,qBk,ht];rfl
   | cons y b=>
    rw[qZn];simp only[zOm h2,zKm,qBk,ht,mg1];cases leP x.1 y.1<;>cases leP y.1 x.1<;>rfl
noncomputable def mgP:Nat→List Wt→List Wt→List Pt
 | 0,_,_=>[]
 | k+1,a,b=>match mg1 a b with
  | some (p,a2,b2)=>p::mgP k a2 b2
  | none=>[]
theorem qLn{a b:List Wt}{p:Pt}{a2 b2:List Wt}(h:mg1 a b=some (p,a2,b2)):a2.length+b2.length<a.length+b.length:=by
 unfold mg1 at h;split at h
 ·rename_i x a y b;cases h1:leP x.1 y.1<;>cases h2:leP y.1 x.1<;>simp only[h1,h2,cond_true,cond_false,Option.some.injEq,Prod.mk.injEq]at h<;>obtain⟨_,rfl,rfl⟩:=h<;>simp only[List.length_cons]<;>omega
 ·cases h;simp
 ·cases h;simp
 ·cases h
theorem lpPt:∀(k:Nat)(a b:List Wt)(o:List Pt),a.length+b.length≤k→o.length+k<9000000000000→lpF st3 k (iPt a b o)=some (.x 0,⟨[],[.ls .n pT ((mgP k a b).reverse++o)],[]⟩)
 | 0,a,b,o,h,h2=>by
  have ha:a=[]:=List.eq_nil_of_length_eq_zero (by omega)
  have hb:b=[]:=List.eq_nil_of_length_eq_zero (by omega)
  subst ha hb;simp only[lpF,sPt [] [] o (by omega),mg1,mgP,List.reverse_nil,List.nil_append]
 | k+1,a,b,o,h,h2=>by
  simp only[lpF,sPt a b o (by omega),mgP]
  cases hm:mg1 a b with
  | none=>simp
  | some x=>
   obtain⟨p,a2,b2⟩:=x;have:=qLn hm;simp only;rw[lpPt k a2 b2 (p::o) (by omega) (by simp only[List.length_cons];omega)]
   simp
noncomputable def shP:Sh:=⟨.x 0,[],[(.n,pT)],[]⟩
noncomputable abbrev yPt(a b:List Wt):Option (Ex×Hs):=lpF st3 (a.length+b.length) (iPt a b [])
noncomputable abbrev LP:Lo:=loT [(92,[false,false,true],Lpt.row (lpR st3 (fun q=>lnO (nth .u q.hs 0)+lnO (nth .u q.hs 1)) [shP]))]
noncomputable abbrev zQm(y:Option (Ex×Hs)):List Pt:=lOf pT (hdT (hsO y).az)
noncomputable abbrev cnP(l:List Pt):List Pt:=l.headD pT.zero::l.tail
theorem ePt(a b:List Wt):((yU Tryz.prog (evD Tryz.prog (OP) (LP) 60) 92 [.ls .a wT a,.ls .a wT b] []).bind kM).run=bif shT shP (yPt a b)then(bif emp (zQm (yPt a b))then some (.v (.slice none 0 0),true)else gd (Nat.beq ((zQm (yPt a b)).tail.length+1) ((zQm (yPt a b)).tail.length+1)) (some (.ls .a pT (cnP (zQm (yPt a b))).reverse,true)))else none:=by kernel_rfl
theorem qWo:lQ Tryz.prog (evD Tryz.prog OP (loT []) 60):=wZ xA qFx jG 60
theorem qPz:rY Tryz.prog LP:=yZ jG qWo qRs xQ
noncomputable def ptF(a b:List Wt):List Pt:=mgP (a.length+b.length) a b
noncomputable def oPt:List T→DT (T×Bool)
 | [.ls .a (.prod (.prod (.int .i64) (.prod (.int .i64) (.int .i64))) jI) a,.ls .a (.prod (.prod (.int .i64) (.prod (.int .i64) (.int .i64))) jI) b]=>grd (Nat.ble a.length 100000&&Nat.ble b.length 100000) (.ret (.ls .a pT (ptF a b),true))
 | _=> .no
theorem kPt:∀az tv nw,(oPt az).run=some (tv,nw)→∀k,KnP Tryz.prog k 92 az tv nw:=by
 intro az tv nw h k;unfold oPt at h;split at h
 ·rename_i a b;obtain⟨h1,h2⟩:=qG h;cases h2;simp only[Bool.and_eq_true,Nat.ble_eq]at h1;have q:=ePt a b;have hy:yPt a b=some (.x 0,⟨[],[.ls .n pT (ptF a b).reverse],[]⟩):=by
   unfold yPt ptF;rw[lpPt _ a b [] (Nat.le_refl _) (by simp only[List.length_nil];omega),List.append_nil]
  rw[hy]at q;have q2:((yU Tryz.prog (evD Tryz.prog (OP) (LP) 60) 92 [.ls .a wT a,.ls .a wT b] []).bind kM).run=bif emp (ptF a b).reverse then some (.v (.slice none 0 0),true)else gd (Nat.beq ((ptF a b).reverse.tail.length+1) ((ptF a b).reverse.tail.length+1)) (some (.ls .a pT (cnP (ptF a b).reverse).reverse,true)):=q;cases hp:(ptF a b).reverse with
  | nil=>
   rw[hp]at q2;have e:ptF a b=[]:=List.reverse_eq_nil_iff.1 hp;rw[e];exact(xE (cz:=[.ls .a wT a,.ls .a wT b]) xA qFx qPz q2 rfl k).res fun B r v h=>zMs h
  | cons x l=>
   rw[hp]at q2;simp only[emp,cond_false,gd,jW,cond_true,cnP,List.headD_cons,List.tail_cons]at q2;rw[←hp,List.reverse_reverse]at q2;exact xE (cz:=[.ls .a wT a,.ls .a wT b]) xA qFx qPz q2 rfl k
 ·cases h
noncomputable def oBc(bE:List Wt→Int):List T→DT (T×Bool)
 | [.ls .a (.prod (.prod (.int .i64) (.prod (.int .i64) (.int .i64))) jI) l]=> .ret (.v (.int .i64 (bE l)),true)
 | _=> .no
noncomputable def Lm0:Lp:=⟨5,
 ⟨[.h,.h]++(us' 3++([.t (.op 0 0)]++(us' 9++([.t (.op 3 0),.u,.t (.om 4),.t (.v (.int .i64 0))]++(us' 55++([.h,.t (.v (.int .i64 0))]++(us' 3++([.h,.h,.h]++(us' 70))))))))),[.r [.h,.h,.h] 28,.g,.g,.r [.h,.h,.h] 28,.m .a pT (.prod jI jI)]⟩,
 ⟨[.h,.h]++(us' 3++([.t (.op 0 0)]++(us' 9++([.t (.op 3 0),.u,.t (.om 4)]++(us' 56++([.h,.t (.v (.int .i64 0))]++(us' 76))))))),[.r [.h,.h,.h] 28,.g,.g,.r [.h,.h,.h] 28,.m .a pT (.prod jI jI)]⟩,
 ⟨us' 6++([.h,.h]++(us' 144)),[.g,.g,.g,.g,.g]⟩⟩
noncomputable abbrev qOo:Code:=lpc Tryz.prog 41 [false,true,true,false,false,true,true,false,false,true,false,true,true,true,true,true,true,true,true]
theorem qRn:cAt Tryz.prog 41 [false,true,true,false,false,true,true,false,false,true,false,true,true,true,true,true,true,true,true]=some (.loop qOo):=by kernel_rfl
noncomputable abbrev zVj(OD:Od)(LO:Lo):Hs→Option (Hs⊕(Ex×Hs)):=Lm0.stp (evD Tryz.prog OD LO 60) 41 [false,true,true,false,false,true,true,false,false,true,false,true,true,true,true,true,true,true,true] qOo
noncomputable def Lm1:Lp:=⟨5,
 ⟨[.h,.h]++(us' 3++([.t (.op 0 0)]++(us' 9++([.t (.op 3 0),.u,.t (.om 4),.t (.v (.int .i64 1))]++(us' 55++([.h,.t (.v (.int .i64 1))]++(us' 3++([.h,.h,.h]++(us' 70))))))))),[.r [.h,.h,.h] 28,.g,.g,.r [.h,.h,.h] 28,.m .a pT (.prod jI jI)]⟩,
 ⟨[.h,.h]++(us' 3++([.t (.op 0 0)]++(us' 9++([.t (.op 3 0),.u,.t (.om 4)]++(us' 56++([.h,.t (.v (.int .i64 1))]++(us' 76))))))),[.r [.h,.h,.h] 28,.g,.g,.r [.h,.h,.h] 28,.m .a pT (.prod jI jI)]⟩,
 ⟨us' 6++([.h,.h]++(us' 144)),[.g,.g,.g,.g,.g]⟩⟩
noncomputable abbrev qYb:Code:=lpc Tryz.prog 41 [false,true,true,false,false,true,true,false,false,true,false,true,true,true,true,true,true,true,true]
noncomputable abbrev zOb(OD:Od)(LO:Lo):Hs→Option (Hs⊕(Ex×Hs)):=Lm1.stp (evD Tryz.prog OD LO 60) 41 [false,true,true,false,false,true,true,false,false,true,false,true,true,true,true,true,true,true,true] qYb
noncomputable def Lm3:Lp:=⟨5,
 ⟨us' 5++([.t (.op 0 0)]++(us' 9++([.t (.op 3 0),.u,.t (.om 4)]++(us' 5++([.a .n wT 63]++(us' 77++([.h,.h,.h]++(us' 48)))))))),[.r [.h,.h,.h] 28,.g,.g,.r [.h,.h,.h] 28,.m .a pT (.prod jI jI)]⟩,
 ⟨us' 23++([.a .n wT 63]++(us' 128)),[.g,.g,.g,.g,.g]⟩,
 ⟨us' 6++([.h,.h]++(us' 144)),[.g,.g,.g,.g,.g]⟩⟩
noncomputable abbrev qOq:Code:=lpc Tryz.prog 41 [false,true,false,true,true,true,true,true,true,true,true,true,true]
theorem qRo:cAt Tryz.prog 41 [false,true,false,true,true,true,true,true,true,true,true,true,true]=some (.loop qOq):=by kernel_rfl
noncomputable abbrev zJd(OD:Od)(LO:Lo):Hs→Option (Hs⊕(Ex×Hs)):=Lm3.stp (evD Tryz.prog OD LO 60) 41 [false,true,false,true,true,true,true,true,true,true,true,true,true] qOq
noncomputable abbrev vT:Ty:= .prod jI jI
abbrev Mp:=List (Pt×(Rt×Rt))
noncomputable abbrev mC(m:Mp):List T:=[.ls .a (.prod pT vT) m]
noncomputable def iM(a b a2 b2:List Wt)(w v:Raw)(l:List Wt)(k i:Nat)(m:Mp):Hs:=⟨[.ls .a wT a,.ls .a wT b,.ag [.ls .a wT a2,.ls .a wT b2],.ls .a wT l,.v (.int .i64 (.ofNat k)),.v (.int .i64 (.ofNat i))],[],[rC w,[],[],rN v,mC m]⟩
noncomputable def iM3(w v:Raw)(m:Mp)(ps:List Pt)(k i:Nat)(o:List Wt):Hs:=⟨[.ls .n pT ps,.v (.int .i64 (.ofNat k)),.v (.int .i64 (.ofNat i))],[.ls .n wT o],[rC w,[],[],rN v,mC m]⟩
noncomputable abbrev pA(l:List Pt)(i:Nat):Pt:=nth pT.zero l i
noncomputable abbrev z0:Rt×Rt:=((false,[],[]),(false,[],[]))
noncomputable def zEw(m:Mp)(x:Wt):Mp:=bI pT x.1 (x.2,(jY pT z0 x.1 m).2) m
noncomputable def zEx(m:Mp)(x:Wt):Mp:=bI pT x.1 ((jY pT z0 x.1 m).1,x.2) m
noncomputable abbrev oM(a b a2 b2:List Wt)(w v:Raw)(m:Mp):Hs:=⟨[.ls .a wT a,.ls .a wT b,.ag [.ls .a wT a2,.ls .a wT b2]],[],[rC w,[],[],rN v,mC m]⟩
section
variable (bE:List Wt→Int)(ck:Raw→Int)(ad su mu:Raw→Raw→Raw)(ae se me:Raw→Raw→Int)(cm ce:Raw→Raw→Int)(fr:Int→Raw)(eqB:Raw→Raw→Bool)
noncomputable abbrev OM:Od:=odT ((46,odR [.list wT] (oBc bE))::(92,odR [.list wT,.list wT] oPt)::qVa ck ad su mu ae se me cm ce fr eqB)
theorem sM0(a b a2 b2:List Wt)(w v:Raw)(l:List Wt)(k i:Nat)(m:Mp):zVj (OM bE ck ad su mu ae se me cm ce fr eqB) (loT []) (iM a b a2 b2 w v l k i m)=bif Nat.blt i k then(bif Nat.blt i l.length then nx i (.inl (iM a b a2 b2 w v l k (i+1) (zEw m (wA l i))))else none)else some (.inr (.x 4,oM a b a2 b2 w v m)):=by kernel_rfl
theorem sM1(a b a2 b2:List Wt)(w v:Raw)(l:List Wt)(k i:Nat)(m:Mp):zOb (OM bE ck ad su mu ae se me cm ce fr eqB) (loT []) (iM a b a2 b2 w v l k i m)=bif Nat.blt i k then(bif Nat.blt i l.length then nx i (.inl (iM a b a2 b2 w v l k (i+1) (zEx m (wA l i))))else none)else some (.inr (.x 4,oM a b a2 b2 w v m)):=by kernel_rfl
noncomputable def fm0(l:List Wt)(m:Mp):Mp:=fol (fun i m=>(.inl (zEw m (wA l i)):Mp⊕Mp)) id l.length 0 m
noncomputable def fm1(l:List Wt)(m:Mp):Mp:=fol (fun i m=>(.inl (zEx m (wA l i)):Mp⊕Mp)) id l.length 0 m
theorem lpM0(a b a2 b2:List Wt)(w v:Raw)(l:List Wt)(m:Mp)(h9:l.length<9223372036854775807):lpF (zVj (OM bE ck ad su mu ae se me cm ce fr eqB) (loT [])) l.length (iM a b a2 b2 w v l l.length 0 m)=some (.x 4,oM a b a2 b2 w v (fm0 l m)):=
 kS (iv:=fun i m=>iM a b a2 b2 w v l l.length i m) (g:=fun i m=>(.inl (zEw m (wA l i)):Mp⊕Mp)) (d:=id) (out:=fun m=>(.x 4,oM a b a2 b2 w v m)) (n:=l.length) (fun _ _=>True)
  (fun i m hi _=>by rw[sM0];simp only[zW hi,cond_true,sP (show i+1<9223372036854775808 by omega)])
  (fun _ _ _ _ _ _=>trivial)
  (fun _ _=>by rw[sM0];simp only[yF (Nat.le_refl _),cond_false];rfl) l.length 0 m (by omega) trivial
theorem lpM1(a b a2 b2:List Wt)(w v:Raw)(l:List Wt)(m:Mp)(h9:l.length<9223372036854775807):lpF (zOb (OM bE ck ad su mu ae se me cm ce fr eqB) (loT [])) l.length (iM a b a2 b2 w v l l.length 0 m)=some (.x 4,oM a b a2 b2 w v (fm1 l m)):=
 kS (iv:=fun i m=>iM a b a2 b2 w v l l.length i m) (g:=fun i m=>(.inl (zEx m (wA l i)):Mp⊕Mp)) (d:=id) (out:=fun m=>(.x 4,oM a b a2 b2 w v m)) (n:=l.length) (fun _ _=>True)
  (fun i m hi _=>by rw[sM1];simp only[zW hi,cond_true,sP (show i+1<9223372036854775808 by omega)])
  (fun _ _ _ _ _ _=>trivial)
  (fun _ _=>by rw[sM1];simp only[yF (Nat.le_refl _),cond_false];rfl) l.length 0 m (by omega) trivial
noncomputable abbrev k5:List (List T):=[[],[],[],[],[]]
noncomputable abbrev erM(e:Int):St':=some (.inr (.r,⟨[.v (.slice none 0 0),.v (.int .i64 e)],[],k5⟩))
noncomputable abbrev m3(w v:Raw)(g:Rt×Rt)(k:Raw→St'):St':=bif !ieq (me w (rw' g.1)) 0 then erM (me w (rw' g.1))else(bif !ieq (me v (rw' g.2)) 0 then erM (me v (rw' g.2))else(bif !ieq (ae (mu w (rw' g.1)) (mu v (rw' g.2))) 0 then erM (ae (mu w (rw' g.1)) (mu v (rw' g.2)))else k (ad (mu w (rw' g.1)) (mu v (rw' g.2)))))
noncomputable abbrev wap(i:Nat)(o:List Wt)(z:Hs):St':=gd (Nat.ble (o.length+1+1) 2814749766952) (gd (Nat.beq (o.length+1) (o.length+1)) (gd (Nat.blt (i+1) 9223372036854775808) (gd (Nat.beq (o.length+1+1) (o.length+1+1)) (some (.inl z)))))
noncomputable abbrev wsm(i:Nat)(o:List Wt)(z:Hs):St':=gd (Nat.blt (i+1) 9223372036854775808) (gd (Nat.beq (o.length+1) (o.length+1)) (some (.inl z)))
theorem sM3n(w v:Raw)(m:Mp)(ps:List Pt)(k i:Nat):zJd (OM bE ck ad su mu ae se me cm ce fr eqB) (loT []) (iM3 w v m ps k i [])=bif Nat.blt i k then(bif Nat.blt i ps.length then m3 ad mu ae me w v (jY pT z0 (pA ps i) m) (fun t=>bif ilt 0 (.ofNat t.ln.length)then nx i (.inl (iM3 w v m ps k (i+1) [(pA ps i,toT t)]))else nx i (.inl (iM3 w v m ps k (i+1) [])))else none)else some (.inr (.x 6,⟨[],[.ls .n wT []],k5⟩)):=by kernel_rfl
theorem sM3c(w v:Raw)(m:Mp)(ps:List Pt)(k i:Nat)(y:Wt)(o:List Wt):zJd (OM bE ck ad su mu ae se me cm ce fr eqB) (loT []) (iM3 w v m ps k i (y::o))=bif Nat.blt i k then(bif Nat.blt i ps.length then m3 ad mu ae me w v (jY pT z0 (pA ps i) m) (fun t=>bif ilt 0 (.ofNat t.ln.length)then wap i o (iM3 w v m ps k (i+1) ((pA ps i,toT t)::y::o))else wsm i o (iM3 w v m ps k (i+1) (y::o)))else none)else gd (Nat.beq (o.length+1) (o.length+1)) (some (.inr (.x 6,⟨[],[.ls .n wT (y::o)],k5⟩))):=by kernel_rfl
noncomputable def m3F(w v:Raw)(g:Rt×Rt):Raw⊕Int:=bif !ieq (me w (rw' g.1)) 0 then .inr (me w (rw' g.1))else(bif !ieq (me v (rw' g.2)) 0 then .inr (me v (rw' g.2))else(bif !ieq (ae (mu w (rw' g.1)) (mu v (rw' g.2))) 0 then .inr (ae (mu w (rw' g.1)) (mu v (rw' g.2)))else .inl (ad (mu w (rw' g.1)) (mu v (rw' g.2)))))
noncomputable def gK(k:Raw→St'):Raw⊕Int→St'
 | .inl t=>k t
 | .inr e=>erM e
theorem qQb(w v:Raw)(g:Rt×Rt)(k:Raw→St'):m3 ad mu ae me w v g k=gK k (m3F ad mu ae me w v g):=by
 unfold m3F;simp only[m3];cases ieq (me w (rw' g.1)) 0<;>cases ieq (me v (rw' g.2)) 0<;>cases ieq (ae (mu w (rw' g.1)) (mu v (rw' g.2))) 0<;>rfl
noncomputable def gM3(w v:Raw)(m:Mp)(ps:List Pt)(i:Nat)(o:List Wt):List Wt⊕(List Wt⊕Int):=match m3F ad mu ae me w v (jY pT z0 (pA ps i) m)with
 | .inl t=> .inl (bif ilt 0 (.ofNat t.ln.length)then(pA ps i,toT t)::o else o)
 | .inr e=> .inr (.inr e)
noncomputable def mxF(w v:Raw)(m:Mp)(ps:List Pt):List Wt⊕Int:=fol (gM3 ad mu ae me w v m ps) .inl ps.length 0 []
noncomputable def qGp:List Wt⊕Int→Ex×Hs
 | .inl o=>(.x 6,⟨[],[.ls .n wT o],k5⟩)
 | .inr e=>(.r,⟨[.v (.slice none 0 0),.v (.int .i64 e)],[],k5⟩)
theorem lpM3(w v:Raw)(m:Mp)(ps:List Pt)(h9:ps.length<1000000000):lpF (zJd (OM bE ck ad su mu ae se me cm ce fr eqB) (loT [])) ps.length (iM3 w v m ps ps.length 0 [])=some (qGp (mxF ad mu ae me w v m ps)):=
 kS (iv:=fun i o=>iM3 w v m ps ps.length i o) (g:=gM3 ad mu ae me w v m ps) (d:= .inl) (out:=qGp) (n:=ps.length) (fun i o=>o.length≤i)
  (fun i o hi hJ=>by
   unfold gM3;cases o with
   | nil=>
    rw[sM3n];simp only[zW hi,cond_true,qQb];cases m3F ad mu ae me w v (jY pT z0 (pA ps i) m)with
    | inl t=>simp only[gK,sP (show i+1<9223372036854775808 by omega)];cases ilt 0 (.ofNat t.ln.length)<;>rfl
    | inr e=>rfl
   | cons y o=>
    rw[sM3c];simp only[List.length_cons]at hJ;simp only[zW hi,cond_true,qQb];cases m3F ad mu ae me w v (jY pT z0 (pA ps i) m)with
    | inl t=>simp only[gK,wap,wsm,gd,jW,zW (show i+1<9223372036854775808 by omega),kL (show o.length+1+1≤2814749766952 by omega),cond_true];cases ilt 0 (.ofNat t.ln.length)<;>rfl
    | inr e=>rfl)
  (fun i o o2 hi hJ hg=>by
   unfold gM3 at hg;split at hg
   ·rename_i t _;cases hg;cases ilt 0 (.ofNat t.ln.length)with
    | true=>simp only[cond_true,List.length_cons];omega
    | false=>simp only[cond_false];omega
   ·cases hg)
  (fun o _=>by
   cases o with
   | nil=>rw[sM3n];simp only[yF (Nat.le_refl _),cond_false];rfl
   | cons y o=>rw[sM3c];simp only[yF (Nat.le_refl _),cond_false,gd,jW,cond_true];rfl) ps.length 0 [] (by omega) (Nat.le_refl _)
end
section
variable (bE:List Wt→Int)(ck:Raw→Int)(ad su mu:Raw→Raw→Raw)(ae se me:Raw→Raw→Int)(cm ce:Raw→Raw→Int)(fr:Int→Raw)(eqB:Raw→Raw→Bool)
noncomputable def shM:Sh:=⟨.x 4,[.l .a wT,.l .a wT,.p .a wT .a wT],[],[[.b,.l .a .lim,.l .a .lim],[],[],[.b,.l .n .lim,.l .n .lim],[.l .a (.prod pT vT)]]⟩
noncomputable def sh3x:Sh:=⟨.x 6,[],[(.n,wT)],[[],[],[],[],[]]⟩
noncomputable def sh3r:Sh:=⟨.r,[.c (.v (.slice none 0 0)),.i .i64],[],[[],[],[],[],[]]⟩
noncomputable abbrev LM:Lo:=loT [(41,[false,true,true,false,false,true,true,false,false,true,false,true,true,true,true,true,true,true,true],fun s=>orD (Lm0.row (lpR (zVj (OM bE ck ad su mu ae se me cm ce fr eqB) (loT [])) (fun q=>lnO (nth .u q.hs 4)) [shM]) s) (Lm1.row (lpR (zOb (OM bE ck ad su mu ae se me cm ce fr eqB) (loT [])) (fun q=>lnO (nth .u q.hs 4)) [shM]) s)),(41,[false,true,false,true,true,true,true,true,true,true,true,true,true],Lm3.row (lpR (zJd (OM bE ck ad su mu ae se me cm ce fr eqB) (loT [])) (fun q=>lnO (nth .u q.hs 1)) [sh3x,sh3r]))]
noncomputable abbrev erT(e:Int):Option (T×Bool):=some (.tu [.v (.slice none 0 0),.v (.int .i64 e)],true)
noncomputable abbrev pA1(q:Hs):List Wt:=lOf wT (hdT q.hs)
noncomputable abbrev pB1(q:Hs):List Wt:=lOf wT (hdT q.hs.tail)
noncomputable abbrev pA2(q:Hs):List Wt:=lOf wT (qTo (hdT q.hs.tail.tail))
noncomputable abbrev pB2(q:Hs):List Wt:=lOf wT (qXg (hdT q.hs.tail.tail))
noncomputable abbrev rOf(l:List T):Raw:=⟨bOf (hdT l),lOf .lim (hdT l.tail),lOf .lim (hdT l.tail.tail)⟩
noncomputable abbrev pW(q:Hs):Raw:=rOf (q.ks.headD [])
noncomputable abbrev pV(q:Hs):Raw:=rOf (q.ks.tail.tail.tail.headD [])
noncomputable abbrev pM(q:Hs):Mp:=lOf (.prod pT vT) (hdT (q.ks.tail.tail.tail.tail.headD []))
noncomputable abbrev wOf(y:Option (Ex×Hs)):List Wt:=lOf wT (hdT (hsO y).az)
noncomputable abbrev cnW(l:List Wt):List Wt:=l.headD wT.zero::l.tail
noncomputable abbrev qUx(y:Option (Ex×Hs)):Option (T×Bool):=bif shT sh3x y then(bif emp (wOf y)then erT 0 else gd (Nat.beq ((wOf y).tail.length+1) ((wOf y).tail.length+1)) (some (.tu [.ls .a wT (cnW (wOf y)).reverse,.v (.int .i64 0)],true)))else(bif shT sh3r y then erT (iOf (hdT (hsO y).hs.tail))else none)
noncomputable abbrev y3M(w v:Raw)(m:Mp)(ps:List Pt):Option (Ex×Hs):=lpF (zJd (OM bE ck ad su mu ae se me cm ce fr eqB) (loT [])) ps.length (iM3 w v m ps ps.length 0 [])
noncomputable abbrev qUw(y:Option (Ex×Hs)):Option (T×Bool):=gd (shT shM y) (gd (Nat.ble (pA1 (hsO y)).length 100000&&Nat.ble (pB1 (hsO y)).length 100000) (qUx (y3M bE ck ad su mu ae se me cm ce fr eqB (pW (hsO y)) (pV (hsO y)) (pM (hsO y)) (ptF (pA1 (hsO y)) (pB1 (hsO y))))))
noncomputable abbrev y2M(q:Hs):Option (Ex×Hs):=lpF (zOb (OM bE ck ad su mu ae se me cm ce fr eqB) (loT [])) (pB2 q).length (iM (pA1 q) (pB1 q) (pA2 q) (pB2 q) (pW q) (pV q) (pB2 q) (pB2 q).length 0 (pM q))
noncomputable abbrev mxk1(y:Option (Ex×Hs)):Option (T×Bool):=gd (shT shM y) (qUw bE ck ad su mu ae se me cm ce fr eqB (y2M bE ck ad su mu ae se me cm ce fr eqB (hsO y)))
noncomputable abbrev y1M(a b:List Wt)(w v:Raw):Option (Ex×Hs):=lpF (zVj (OM bE ck ad su mu ae se me cm ce fr eqB) (loT [])) a.length (iM a b a b w v a a.length 0 [])
noncomputable abbrev mxk0(a b:List Wt)(w:Raw)(k:Option (T×Bool)):Option (T×Bool):=bif !ieq (bE a) 0 then erT (bE a)else(bif !ieq (bE b) 0 then erT (bE b)else(bif !ieq (ck w) 0 then erT (ck w)else(bif w.neg then erT 1 else(bif ilt 0 (cm w (fr 1))then erT 1 else(bif !ieq (se (fr 1) w) 0 then erT (se (fr 1) w)else k)))))
theorem eMx(a b:List Wt)(w:Raw):((yU Tryz.prog (evD Tryz.prog (OM bE ck ad su mu ae se me cm ce fr eqB) (LM bE ck ad su mu ae se me cm ce fr eqB) 60) 41 [.ls .a wT a,.ls .a wT b,.ag (rC w)] []).bind kM).run=mxk0 bE ck se cm fr a b w (mxk1 bE ck ad su mu ae se me cm ce fr eqB (y1M bE ck ad su mu ae se me cm ce fr eqB a b w (su (fr 1) w))):=by kernel_rfl
theorem qLq(a b a2 b2:List Wt)(w v:Raw)(m:Mp):mxk1 bE ck ad su mu ae se me cm ce fr eqB (some (.x 4,oM a b a2 b2 w v m))=qUw bE ck ad su mu ae se me cm ce fr eqB (lpF (zOb (OM bE ck ad su mu ae se me cm ce fr eqB) (loT [])) b2.length (iM a b a2 b2 w v b2 b2.length 0 m)):=by kernel_rfl
theorem qLr(a b a2 b2:List Wt)(w v:Raw)(m:Mp):qUw bE ck ad su mu ae se me cm ce fr eqB (some (.x 4,oM a b a2 b2 w v m))=gd (Nat.ble a.length 100000&&Nat.ble b.length 100000) (qUx (lpF (zJd (OM bE ck ad su mu ae se me cm ce fr eqB) (loT [])) (ptF a b).length (iM3 w v m (ptF a b) (ptF a b).length 0 []))):=by kernel_rfl
noncomputable abbrev zZu(s:List Wt⊕Int):Option (T×Bool):=match s with
 | .inl []=>erT 0
 | .inl (x::o)=>some (.tu [.ls .a wT (x::o).reverse,.v (.int .i64 0)],true)
 | .inr e=>erT e
theorem qLs(s:List Wt⊕Int):qUx (some (qGp s))=zZu s:=by
 cases s with
 | inr e=>rfl
 | inl o=>
  cases o with
  | nil=>rfl
  | cons x o=>
   show gd (Nat.beq (o.length+1) (o.length+1)) _=_;simp only[gd,jW,cond_true];rfl
theorem zFk:∀(k:Nat)(a b:List Wt),(mgP k a b).length≤k
 | 0,_,_=>Nat.le_refl _
 | k+1,a,b=>by
  simp only[mgP];split
  ·rename_i p a2 b2 _;have:=zFk k a2 b2;simp only[List.length_cons];omega
  ·exact Nat.zero_le _
noncomputable def mxS(a b:List Wt)(w:Raw):List Wt⊕Int:=bif !ieq (bE a) 0 then .inr (bE a)else(bif !ieq (bE b) 0 then .inr (bE b)else(bif !ieq (ck w) 0 then .inr (ck w)else(bif w.neg then .inr 1 else(bif ilt 0 (cm w (fr 1))then .inr 1 else(bif !ieq (se (fr 1) w) 0 then .inr (se (fr 1) w)else mxF ad mu ae me w (su (fr 1) w) (fm1 b (fm0 a [])) (ptF a b))))))
theorem qUv(a b:List Wt)(w:Raw)(ha:a.length≤100000)(hb:b.length≤100000):((yU Tryz.prog (evD Tryz.prog (OM bE ck ad su mu ae se me cm ce fr eqB) (LM bE ck ad su mu ae se me cm ce fr eqB) 60) 41 [.ls .a wT a,.ls .a wT b,.ag (rC w)] []).bind kM).run=zZu (mxS bE ck ad su mu ae se me cm fr a b w):=by
 rw[eMx];unfold mxS y1M;rw[lpM0 bE ck ad su mu ae se me cm ce fr eqB a b a b w (su (fr 1) w) a [] (by omega),qLq,lpM1 bE ck ad su mu ae se me cm ce fr eqB a b a b w (su (fr 1) w) b (fm0 a []) (by omega),qLr]
 have hp:(ptF a b).length<1000000000:=by
  have:=zFk (a.length+b.length) a b;unfold ptF;omega
 rw[lpM3 bE ck ad su mu ae se me cm ce fr eqB w (su (fr 1) w) (fm1 b (fm0 a [])) (ptF a b) hp,qLs,kL ha,kL hb];simp only[mxk0,gd,Bool.and_self,cond_true];cases ieq (bE a) 0<;>cases ieq (bE b) 0<;>cases ieq (ck w) 0<;>cases w.neg<;>cases ilt 0 (cm w (fr 1))<;>cases ieq (se (fr 1) w) 0<;>rfl
end
noncomputable abbrev adA(a b:Raw):Raw:=opR a b (a.rat+b.rat)
noncomputable abbrev suA(a b:Raw):Raw:=opR a b (a.rat-b.rat)
noncomputable abbrev muA(a b:Raw):Raw:=opR a b (a.rat*b.rat)
noncomputable abbrev aeA(a b:Raw):Int:=opE a b (a.rat+b.rat)
noncomputable abbrev seA(a b:Raw):Int:=opE a b (a.rat-b.rat)
noncomputable abbrev meA(a b:Raw):Int:=opE a b (a.rat*b.rat)
noncomputable abbrev frA(n:Int):Raw:=Raw.of (n:Rat)
noncomputable abbrev eqA(a b:Raw):Bool:=decide (a=b)
noncomputable abbrev numA:rrT:=qVa Raw.chk adA suA muA aeA seA meA vP mO frA eqA
theorem zWv:vS Tryz.prog (odT numA):=
 zX (zX (zX (zX (zX (zX (zX xU fun az tv nw h k=>vG kEq az tv h k) fun az tv nw h k=>vG qPv az tv h k) fun az tv nw h k=>vG kCmp az tv h k) fun az tv nw h k=>vG kMul az tv h k) fun az tv nw h k=>vG kSub az tv h k) fun az tv nw h k=>vG kAdd az tv h k) fun az tv nw h k=>vG kChk az tv h k
theorem qQd:vS Tryz.prog (OB Raw.chk adA suA muA aeA seA meA vP mO frA eqA):=zX (zX zWv (xK kCk)) (xK kCp)
theorem qHl:lQ Tryz.prog (evD Tryz.prog (OB Raw.chk adA suA muA aeA seA meA vP mO frA eqA) (loT []) 60):=wZ xA qQd jG 60
theorem qYx:rY Tryz.prog (LB Raw.chk adA suA muA aeA seA meA vP mO frA eqA):=yZ (yZ jG qHl qRh xQ) qHl qRg xQ
noncomputable abbrev bE(l:List Wt):Int:=bcE Raw.chk adA aeA vP frA l
theorem kBc:∀az tv nw,(oBc bE az).run=some (tv,nw)→∀k,KnP Tryz.prog k 46 az tv nw:=by
 intro az tv nw h k;unfold oBc at h;split at h
 ·rename_i l;cases h;exact xE (cz:=[.ls .a wT l]) xA qQd qYx (qSl Raw.chk adA suA muA aeA seA meA vP mO frA eqA l) rfl k
 ·cases h
theorem qFo:vS Tryz.prog (OM bE Raw.chk adA suA muA aeA seA meA vP mO frA eqA):=zX (zX zWv (xK kPt)) (xK kBc)
theorem qHn:lQ Tryz.prog (evD Tryz.prog (OM bE Raw.chk adA suA muA aeA seA meA vP mO frA eqA) (loT []) 60):=wZ xA qFo jG 60
theorem qPy:rY Tryz.prog (LM bE Raw.chk adA suA muA aeA seA meA vP mO frA eqA):=qZa (yZ jG qHn qRo xQ) qHn qRn xQ xQ
noncomputable def lsS:List Wt⊕Int→List Wt
 | .inl o=>o.reverse
 | .inr _=>[]
noncomputable def erS:List Wt⊕Int→Int
 | .inl _=>0
 | .inr e=>e
noncomputable abbrev mxA(a b:List Wt)(w:Raw):List Wt⊕Int:=mxS bE Raw.chk adA suA muA aeA seA meA vP frA a b w
theorem qIf{B:Bm}{r:Rd}{A:Ty}{t:T}{v:Value}(h:Rep B r (.tu [.v (.slice none 0 0),t]) v):Rep B r (.tu [.ls .a A [],t]) v:=by
 obtain⟨vs,rfl,hvs⟩:=h.tuI;match vs,hvs with
 | [a,b],⟨h1,h2,_⟩=>exact Rep.mkTu (vs:=[a,b]) ⟨zMs h1,h2,trivial⟩
noncomputable def oMx(mR:List Wt→List Wt→Raw→List Wt)(mE:List Wt→List Wt→Raw→Int):List T→DT (T×Bool)
 | [.ls .a (.prod (.prod (.int .i64) (.prod (.int .i64) (.int .i64))) jI) a,.ls .a (.prod (.prod (.int .i64) (.prod (.int .i64) (.int .i64))) jI) b,.ag [.v (.bool s),.ls .a .lim l,.ls .a .lim m]]=>grd (Nat.ble a.length 100000&&Nat.ble b.length 100000) (.ret (.tu [.ls .a wT (mR a b ⟨s,l,m⟩),.v (.int .i64 (mE a b ⟨s,l,m⟩))],true))
 | _=> .no
theorem kMx:∀az tv nw,(oMx (fun a b w=>lsS (mxA a b w)) (fun a b w=>erS (mxA a b w)) az).run=some (tv,nw)→∀k,KnP Tryz.prog k 41 az tv nw:=by
 intro az tv nw h k;unfold oMx at h;split at h
 ·rename_i a b s l m;obtain⟨h1,h2⟩:=qG h;cases h2;simp only[Bool.and_eq_true,Nat.ble_eq]at h1;have q:=qUv bE Raw.chk adA suA muA aeA seA meA vP mO frA eqA a b ⟨s,l,m⟩ h1.1 h1.2;show KnP Tryz.prog k 41 _ (.tu [.ls .a wT (lsS (mxA a b ⟨s,l,m⟩)),.v (.int .i64 (erS (mxA a b ⟨s,l,m⟩)))]) true;have er:∀{e:Int},zZu (mxA a b ⟨s,l,m⟩)=erT e→KnP Tryz.prog k 41 [.ls .a wT a,.ls .a wT b,.ag (rC ⟨s,l,m⟩)] (.tu [.ls .a wT [],.v (.int .i64 e)]) true:=fun{e}he=>
   (xE (cz:=[.ls .a wT a,.ls .a wT b,.ag (rC ⟨s,l,m⟩)]) xA qFo qPy (q.trans he) rfl k).res fun B r v h=>qIf h
  cases hs:mxA a b ⟨s,l,m⟩with
  | inr e=>exact er ((congrArg zZu hs).trans rfl)
  | inl o=>
   cases o with
   | nil=>exact er ((congrArg zZu hs).trans rfl)
   | cons x o=>exact xE (cz:=[.ls .a wT a,.ls .a wT b,.ag (rC ⟨s,l,m⟩)]) xA qFo qPy (q.trans ((congrArg zZu hs).trans rfl)) rfl k
 ·cases h
noncomputable def Llg:Lp:=⟨0,
 ⟨[.h,.u,.u,.h,.h]++(us' 45),[]⟩,
 ⟨[.h,.u,.u,.h]++(us' 46),[]⟩,
 ⟨[.u,.u,.h]++(us' 47),[]⟩⟩
noncomputable abbrev qOn:Code:=lpc Tryz.prog 38 [false,true,false,true,true]
theorem qRm:cAt Tryz.prog 38 [false,true,false,true,true]=some (.loop qOn):=by kernel_rfl
noncomputable abbrev zVi(OD:Od)(LO:Lo):Hs→Option (Hs⊕(Ex×Hs)):=Llg.stp (evD Tryz.prog OD LO 60) 38 [false,true,false,true,true] qOn
noncomputable def Lsm:Lp:=⟨0,
 ⟨[.h,.h]++(us' 3++([.h]++(us' 36))),[]⟩,
 ⟨us' 42,[]⟩,
 ⟨us' 4++([.h]++(us' 37)),[]⟩⟩
noncomputable abbrev qOw:Code:=lpc Tryz.prog 26 [false,true,false,true,true]
theorem qRu:cAt Tryz.prog 26 [false,true,false,true,true]=some (.loop qOw):=by kernel_rfl
noncomputable abbrev zVk(OD:Od)(LO:Lo):Hs→Option (Hs⊕(Ex×Hs)):=Lsm.stp (evD Tryz.prog OD LO 60) 26 [false,true,false,true,true] qOw
noncomputable def Lwd:Lp:=⟨0,
 ⟨[.h,.u,.u,.h]++(us' 25),[]⟩,
 ⟨[.h]++(us' 28),[]⟩,
 ⟨[.u,.u,.h]++(us' 26),[]⟩⟩
noncomputable abbrev qOx:Code:=lpc Tryz.prog 65 [false,true,false,true]
theorem qRv:cAt Tryz.prog 65 [false,true,false,true]=some (.loop qOx):=by kernel_rfl
noncomputable abbrev zVl(OD:Od)(LO:Lo):Hs→Option (Hs⊕(Ex×Hs)):=Lwd.stp (evD Tryz.prog OD LO 60) 65 [false,true,false,true] qOx
noncomputable def iLg(l:List Wt)(c:Int)(i:Nat):Hs:=⟨[.ls .a wT l,.v (.int .i64 c),.v (.int .i64 (.ofNat i))],[],[]⟩
noncomputable def iSm(a b:List Wt)(i:Nat):Hs:=⟨[.ls .a wT a,.ls .a wT b,.v (.int .i64 (.ofNat i))],[],[]⟩
noncomputable def iWd(l:List Rt)(i:Nat):Hs:=⟨[.ls .a jI l,.v (.int .i64 (.ofNat i))],[],[]⟩
noncomputable abbrev wrS(c:Int)(x:Wt):Int:=bif inW (Int.add c (.ofNat x.2.2.2.length))then Int.add c (.ofNat x.2.2.2.length)else wr .i64 (Int.add c (.ofNat x.2.2.2.length))
theorem sLg(l:List Wt)(c:Int)(i:Nat):zVi (odT []) (loT []) (iLg l c i)=bif Nat.blt i l.length then(bif Nat.blt i l.length then(bif ilt 4 (.ofNat (wA l i).2.2.1.length)then some (.inr (.r,⟨[.v (.bool true)],[],[]⟩))else(bif Nat.blt i l.length then(bif inW (Int.add c (.ofNat (wA l i).2.2.2.length))then nx i (.inl (iLg l (Int.add c (.ofNat (wA l i).2.2.2.length)) (i+1)))else nx i (.inl (iLg l (wr .i64 (Int.add c (.ofNat (wA l i).2.2.2.length))) (i+1))))else none))else none)else some (.inr (.x 0,⟨[.ls .a wT l,.v (.int .i64 c)],[],[]⟩)):=by kernel_rfl
noncomputable def gLg(l:List Wt)(i:Nat)(c:Int):Int⊕Option Int:=bif ilt 4 (.ofNat (wA l i).2.2.1.length)then .inr none else .inl (wrS c (wA l i))
noncomputable def lgF(l:List Wt):Option Int:=fol (gLg l) some l.length 0 0
noncomputable def qQg(l:List Wt):Option Int→Ex×Hs
 | some c=>(.x 0,⟨[.ls .a wT l,.v (.int .i64 c)],[],[]⟩)
 | none=>(.r,⟨[.v (.bool true)],[],[]⟩)
theorem lpLg(l:List Wt)(h9:l.length<9223372036854775807):lpF (zVi (odT []) (loT [])) l.length (iLg l 0 0)=some (qQg l (lgF l)):=
 kS (iv:=fun i c=>iLg l c i) (g:=gLg l) (d:=some) (out:=qQg l) (n:=l.length) (fun _ _=>True)
  (fun i c hi _=>by
   rw[sLg];unfold gLg;simp only[zW hi,cond_true,sP (show i+1<9223372036854775808 by omega),wrS]
   cases ilt 4 (.ofNat (wA l i).2.2.1.length)<;>cases inW (Int.add c (.ofNat (wA l i).2.2.2.length))<;>rfl)
  (fun _ _ _ _ _ _=>trivial)
  (fun _ _=>by rw[sLg];simp only[yF (Nat.le_refl _),cond_false];rfl) l.length 0 0 (by omega) trivial
noncomputable abbrev zYy(p q:Pt):Bool:=ieq p.1 q.1&&(ieq p.2.1 q.2.1&&ieq p.2.2 q.2.2)
theorem sSm(eqB:Raw→Raw→Bool)(a b:List Wt)(i:Nat):zVk (odT [(37,kcD (pB eqB) true)]) (loT []) (iSm a b i)=bif Nat.blt i a.length then(bif Nat.blt i a.length then(bif Nat.blt i b.length then(bif !zYy (wA a i).1 (wA b i).1 then(bif !zYy (wA a i).1 (wA b i).1 then some (.inr (.r,⟨[.v (.bool false)],[],[]⟩))else none)else(bif Nat.blt i a.length then(bif Nat.blt i b.length then(bif !zYy (wA a i).1 (wA b i).1 then some (.inr (.r,⟨[.v (.bool false)],[],[]⟩))else(bif !eqB (rw' (wA a i).2) (rw' (wA b i).2)then some (.inr (.r,⟨[.v (.bool false)],[],[]⟩))else nx i (.inl (iSm a b (i+1)))))else none)else none))else none)else none)else some (.inr (.x 0,⟨[],[],[]⟩)):=by kernel_rfl
noncomputable def gSm(eqB:Raw→Raw→Bool)(a b:List Wt)(i:Nat)(_:Unit):Unit⊕Bool:=bif zYy (wA a i).1 (wA b i).1&&eqB (rw' (wA a i).2) (rw' (wA b i).2)then .inl ()else .inr false
noncomputable def smL(eqB:Raw→Raw→Bool)(a b:List Wt):Bool:=fol (gSm eqB a b) (fun _=>true) a.length 0 ()
noncomputable def qQh:Bool→Ex×Hs
 | true=>(.x 0,⟨[],[],[]⟩)
 | false=>(.r,⟨[.v (.bool false)],[],[]⟩)
theorem lpSm(eqB:Raw→Raw→Bool)(a b:List Wt)(he:a.length=b.length)(h9:a.length<9223372036854775807):lpF (zVk (odT [(37,kcD (pB eqB) true)]) (loT [])) a.length (iSm a b 0)=some (qQh (smL eqB a b)):=
 kS (iv:=fun i(_:Unit)=>iSm a b i) (g:=gSm eqB a b) (d:=fun _=>true) (out:=qQh) (n:=a.length) (fun _ _=>True)
  (fun i _ hi _=>by
   rw[sSm];unfold gSm;simp only[zW hi,zW (show i<b.length by omega),cond_true,sP (show i+1<9223372036854775808 by omega)]
   cases zYy (wA a i).1 (wA b i).1<;>cases eqB (rw' (wA a i).2) (rw' (wA b i).2)<;>rfl)
  (fun _ _ _ _ _ _=>trivial)
  (fun _ _=>by rw[sSm];simp only[yF (Nat.le_refl _),cond_false];rfl) a.length 0 () (by omega) trivial
noncomputable abbrev rA(l:List Rt)(i:Nat):Rt:=nth jI.zero l i
theorem sWd(l:List Rt)(i:Nat):zVl (odT []) (loT []) (iWd l i)=bif Nat.blt i l.length then(bif Nat.blt i l.length then(bif ilt 20 (.ofNat (rA l i).2.1.length)then some (.inr (.r,⟨[.v (.bool true)],[],[]⟩))else(bif Nat.blt i l.length then(bif ilt 20 (.ofNat (rA l i).2.2.length)then some (.inr (.r,⟨[.v (.bool true)],[],[]⟩))else nx i (.inl (iWd l (i+1))))else none))else none)else some (.inr (.x 0,⟨[.ls .a jI l],[],[]⟩)):=by kernel_rfl
noncomputable def gWd(l:List Rt)(i:Nat)(_:Unit):Unit⊕Bool:=bif ilt 20 (.ofNat (rA l i).2.1.length)||ilt 20 (.ofNat (rA l i).2.2.length)then .inr true else .inl ()
noncomputable def wdF(l:List Rt):Bool:=fol (gWd l) (fun _=>false) l.length 0 ()
noncomputable def qQi(l:List Rt):Bool→Ex×Hs
 | false=>(.x 0,⟨[.ls .a jI l],[],[]⟩)
 | true=>(.r,⟨[.v (.bool true)],[],[]⟩)
theorem lpWd(l:List Rt)(h9:l.length<9223372036854775807):lpF (zVl (odT []) (loT [])) l.length (iWd l 0)=some (qQi l (wdF l)):=
 kS (iv:=fun i(_:Unit)=>iWd l i) (g:=gWd l) (d:=fun _=>false) (out:=qQi l) (n:=l.length) (fun _ _=>True)
  (fun i _ hi _=>by
   rw[sWd];unfold gWd;simp only[zW hi,cond_true,sP (show i+1<9223372036854775808 by omega)]
   cases ilt 20 (.ofNat (rA l i).2.1.length)<;>cases ilt 20 (.ofNat (rA l i).2.2.length)<;>rfl)
  (fun _ _ _ _ _ _=>trivial)
  (fun _ _=>by rw[sWd];simp only[yF (Nat.le_refl _),cond_false];rfl) l.length 0 () (by omega) trivial
noncomputable def shLx:Sh:=⟨.x 0,[.l .a wT,.i .i64],[],[]⟩
noncomputable def qAf:Sh:=⟨.r,[.b],[],[]⟩
noncomputable def shSx:Sh:=⟨.x 0,[],[],[]⟩
noncomputable def shWx:Sh:=⟨.x 0,[.l .a jI],[],[]⟩
noncomputable abbrev LL7:Lo:=loT [(38,[false,true,false,true,true],Llg.row (lpR (zVi (odT []) (loT [])) (fun q=>lnO (nth .u q.hs 0)) [shLx,qAf])),(65,[false,true,false,true],Lwd.row (lpR (zVl (odT []) (loT [])) (fun q=>lnO (nth .u q.hs 0)) [shWx,qAf]))]
noncomputable abbrev LS7(eqB:Raw→Raw→Bool):Lo:=loT [(26,[false,true,false,true,true],Lsm.row (lpR (zVk (odT [(37,kcD (pB eqB) true)]) (loT [])) (fun q=>lnO (nth .u q.hs 0)) [shSx,qAf]))]
noncomputable def lgB(n:Nat)(c:Int):Bool:=bif ilt 110 (.ofNat n)then(bif !ilt 4096 (.ofNat n)then true else(bif ilt 5000 (.ofNat n)then true else(bif !ilt 110 (.ofNat n)then ilt 110 c else false)))else(bif ilt 5000 (.ofNat n)then true else(bif !ilt 110 (.ofNat n)then ilt 110 c else false))
noncomputable abbrev lgW(n:Nat)(c:Int):Option (T×Bool):=bif ilt 110 (.ofNat n)then(bif !ilt 4096 (.ofNat n)then yB true else(bif ilt 5000 (.ofNat n)then yB true else(bif !ilt 110 (.ofNat n)then yB (ilt 110 c)else yB false)))else(bif ilt 5000 (.ofNat n)then yB true else(bif !ilt 110 (.ofNat n)then yB (ilt 110 c)else yB false))
theorem qUj(n:Nat)(c:Int):lgW n c=yB (lgB n c):=by
 unfold lgB;simp only[lgW];cases ilt 110 (.ofNat n)<;>cases ilt 4096 (.ofNat n)<;>cases ilt 5000 (.ofNat n)<;>rfl
noncomputable abbrev lgY(y:Option (Ex×Hs)):Option (T×Bool):=bif shT shLx y then lgW (lOf wT (hdT (hsO y).hs)).length (iOf (hdT (hsO y).hs.tail))else(bif shT qAf y then yB (bOf (hdT (hsO y).hs))else none)
theorem eLg(l:List Wt):((yU Tryz.prog (evD Tryz.prog (odT []) (LL7) 60) 38 [.ls .a wT l] []).bind kM).run=lgY (lpF (zVi (odT []) (loT [])) l.length (iLg l 0 0)):=by kernel_rfl
noncomputable def lgZ(l:List Wt):Bool:=match lgF l with
 | some c=>lgB l.length c
 | none=>true
theorem qHk:lQ Tryz.prog (evD Tryz.prog (odT []) (loT []) 60):=wZ xA xU jG 60
theorem qEr:rY Tryz.prog LL7:=yZ (yZ jG qHk qRv xQ) qHk qRm xQ
noncomputable def oLg(fL:List Wt→Bool):List T→DT (T×Bool)
 | [.ls .a (.prod (.prod (.int .i64) (.prod (.int .i64) (.int .i64))) jI) l]=>grd (Nat.blt l.length 9223372036854775807) (.ret (.v (.bool (fL l)),true))
 | _=> .no
theorem zLq{a b:Nat}(h:Nat.blt a b=true):a<b:=by
 rcases Nat.lt_or_ge a b with g | g
 ·exact g
 ·rw[yF g]at h;cases h
theorem kLg:∀az tv nw,(oLg lgZ az).run=some (tv,nw)→∀k,KnP Tryz.prog k 38 az tv nw:=by
 intro az tv nw h k;unfold oLg at h;split at h
 ·rename_i l;obtain⟨h1,h2⟩:=qG h;cases h2;have q:((yU Tryz.prog (evD Tryz.prog (odT []) (LL7) 60) 38 [.ls .a wT l] []).bind kM).run=yB (lgZ l):=by
   rw[eLg,lpLg l (zLq h1)];unfold lgZ;cases lgF l with
   | none=>rfl
   | some c=>exact qUj l.length c
  exact xE (cz:=[.ls .a wT l]) xA xU qEr q rfl k
 ·cases h
noncomputable abbrev wdY(y:Option (Ex×Hs)):Option (T×Bool):=bif shT shWx y then yB (ilt 20 (.ofNat (lOf jI (hdT (hsO y).hs)).length))else(bif shT qAf y then yB (bOf (hdT (hsO y).hs))else none)
theorem eWd(l:List Rt):((yU Tryz.prog (evD Tryz.prog (odT []) (LL7) 60) 65 [.ls .a jI l] []).bind kM).run=wdY (lpF (zVl (odT []) (loT [])) l.length (iWd l 0)):=by kernel_rfl
noncomputable def wdZ(l:List Rt):Bool:=bif wdF l then true else ilt 20 (.ofNat l.length)
noncomputable def oWd(fW:List Rt→Bool):List T→DT (T×Bool)
 | [.ls .a jI l]=>grd (Nat.blt l.length 9223372036854775807) (.ret (.v (.bool (fW l)),true))
 | _=> .no
theorem kWd:∀az tv nw,(oWd wdZ az).run=some (tv,nw)→∀k,KnP Tryz.prog k 65 az tv nw:=by
 intro az tv nw h k;unfold oWd at h;split at h
 ·rename_i l;obtain⟨h1,h2⟩:=qG h;cases h2;have q:((yU Tryz.prog (evD Tryz.prog (odT []) (LL7) 60) 65 [.ls .a jI l] []).bind kM).run=yB (wdZ l):=by
   rw[eWd,lpWd l (zLq h1)];unfold wdZ;cases wdF l<;>rfl
  exact xE (cz:=[.ls .a jI l]) xA xU qEr q rfl k
 ·cases h
noncomputable abbrev smY(y:Option (Ex×Hs)):Option (T×Bool):=bif shT shSx y then yB true else(bif shT qAf y then yB (bOf (hdT (hsO y).hs))else none)
theorem eSm(eqB:Raw→Raw→Bool)(a b:List Wt):((yU Tryz.prog (evD Tryz.prog (odT [(37,kcD (pB eqB) true)]) (LS7 eqB) 60) 26 [.ls .a wT a,.ls .a wT b] []).bind kM).run=bif !ieq (.ofNat a.length) (.ofNat b.length)then yB false else smY (lpF (zVk (odT [(37,kcD (pB eqB) true)]) (loT [])) a.length (iSm a b 0)):=by kernel_rfl
noncomputable def smZ(eqB:Raw→Raw→Bool)(a b:List Wt):Bool:=ieq (.ofNat a.length) (.ofNat b.length)&&smL eqB a b
noncomputable def oSm(sM:List Wt→List Wt→Bool):List T→DT (T×Bool)
 | [.ls .a (.prod (.prod (.int .i64) (.prod (.int .i64) (.int .i64))) jI) a,.ls .a (.prod (.prod (.int .i64) (.prod (.int .i64) (.int .i64))) jI) b]=>grd (Nat.blt a.length 9223372036854775807) (.ret (.v (.bool (sM a b)),true))
 | _=> .no
theorem kSm:∀az tv nw,(oSm (smZ eqA) az).run=some (tv,nw)→∀k,KnP Tryz.prog k 26 az tv nw:=by
 intro az tv nw h k;unfold oSm at h;split at h
 ·rename_i a b;obtain⟨h1,h2⟩:=qG h;cases h2;have q:((yU Tryz.prog (evD Tryz.prog (odT [(37,kcD (pB eqA) true)]) (LS7 eqA) 60) 26 [.ls .a wT a,.ls .a wT b] []).bind kM).run=yB (smZ eqA a b):=by
   rw[eSm];unfold smZ;cases he:ieq (.ofNat a.length) (.ofNat b.length)with
   | false=>rfl
   | true=>
    have he2:a.length=b.length:=Int.ofNat.inj (jH.1 he);rw[lpSm eqA a b he2 (zLq h1)];cases smL eqA a b<;>rfl
  have o1:vS Tryz.prog (odT [(37,kcD (pB eqA) true)]):=zX xU fun az tv nw h k=>vG kEq az tv h k;exact xE (cz:=[.ls .a wT a,.ls .a wT b]) xA o1 (yZ jG (wZ xA o1 jG 60) qRu xQ) q rfl k
 ·cases h
noncomputable def oAw:List T→DT (T×Bool)
 | []=> .ret (.v (.bool true),true)
 | _=> .no
section
variable (fL:List Wt→Bool)(fW:List Rt→Bool)(mR:List Wt→List Wt→Raw→List Wt)(mE:List Wt→List Wt→Raw→Int)(fr:Int→Raw)(cE:List Wt→Int)(sM:List Wt→List Wt→Bool)
noncomputable abbrev gw(a b:List Wt){α:Type}(x:Option α):Option α:=gd (Nat.ble a.length 100000&&Nat.ble b.length 100000) x
end
theorem qFk{a:Raw}(h:a.chk=0)(h1:∀y∈a.ln,y<4294967296)(h2:∀y∈a.ld,y<4294967296):Raw.of a.rat=a∧tH a.rat=0:=by
 obtain⟨l1,l2,c1,c2,e1,e2,e3⟩:=Raw.chk_ok h;have hn:(sgn a.neg (val a.ln)).natAbs=val a.ln:=by unfold sgn;split<;>omega
 have hg:Nat.gcd (val a.ln) a.d=1:=by
  unfold Raw.d;split
  ·exact Nat.gcd_one_right _
  ·rename_i h0;exact Classical.byContradiction fun hc=>e3 ⟨by omega,hc⟩
 have hd:=a.d_pos;have q1:a.rat.num=sgn a.neg (val a.ln):=by
  unfold Raw.rat;rw[Rat.num_mkRat,hn,Nat.gcd_comm,hg,if_neg (by omega)];simp
 have q2:a.rat.den=a.d:=by
  unfold Raw.rat;rw[Rat.den_mkRat,hn,Nat.gcd_comm,hg,if_neg (by omega)];simp
 have k1:val a.ln<qX:=Nat.lt_of_lt_of_le (jU h1) (Nat.pow_le_pow_right (by omega) l1)
 have k2:val a.ld<qX:=Nat.lt_of_lt_of_le (jU h2) (Nat.pow_le_pow_right (by omega) l2)
 have q3:wY a.rat.den=val a.ld:=by
  rw[q2];unfold wY Raw.d;by_cases h0:val a.ld=0
  ·rw[if_pos h0,if_pos rfl,h0]
  ·rw[if_neg h0,if_neg e1]
 have q4:decide (a.rat.num<0)=a.neg:=by
  rw[q1];cases hb:a.neg with
  | false=>exact decide_eq_false (by unfold sgn;simp)
  | true=>
   have:val a.ln≠0:=fun e=>e2 ⟨e,.inl hb⟩;exact decide_eq_true (by unfold sgn;simp;omega)
 constructor
 ·have e:Raw.of a.rat=⟨a.neg,kC (val a.ln),kC (val a.ld)⟩:=by unfold Raw.of;rw[q4,q1,hn,q3]
  rw[e,←zFz h1 c1,←zFz h2 c2]
 ·unfold tH;rw[q1,hn,q3,if_pos ⟨k1,k2⟩]
theorem qZi:tH 0=0:=by unfold tH;rw[if_pos];exact⟨by decide,by decide⟩
theorem qZj:tH 1=0:=by
 unfold tH;rw[if_pos];have:(1:Nat)<qX:=Nat.lt_of_lt_of_le (show 1<4294967296^1 by omega) (Nat.pow_le_pow_right (by omega) (by omega))
 exact⟨this,Nat.lt_of_le_of_lt (show wY 1≤1 by decide) this⟩
theorem fr1:frA 1=Raw.of 1:=by show Raw.of ((1:Int):Rat)=_;rw[Rat.intCast_one]
theorem fr0:frA 0=Raw.of 0:=by show Raw.of ((0:Int):Rat)=_;rw[Rat.intCast_zero]
theorem dL:(frA 1).chk=0:=by rw[fr1];exact Raw.of_chk qZj
theorem zWc:(frA 0).chk=0:=by rw[fr0];exact Raw.of_chk qZi
theorem zWd:(frA 1).rat=1:=by rw[fr1];exact Raw.of_rat 1
theorem qKk:(frA 0).rat=0:=by rw[fr0];exact Raw.of_rat 0
noncomputable abbrev m3A(w v:Raw)(g:Rt×Rt):Raw⊕Int:=m3F adA muA aeA meA w v g
theorem qUo{w v t:Raw}{g:Rt×Rt}(h:m3A w v g= .inl t):t=Raw.of (w.rat*(rw' g.1).rat+v.rat*(rw' g.2).rat):=by
 unfold m3A m3F at h;cases e1:ieq (meA w (rw' g.1)) 0 with
 | false=>rw[e1]at h;cases h
 | true=>
  cases e2:ieq (meA v (rw' g.2)) 0 with
  | false=>rw[e1,e2]at h;cases h
  | true=>
   cases e3:ieq (aeA (muA w (rw' g.1)) (muA v (rw' g.2))) 0 with
   | false=>rw[e1,e2,e3]at h;cases h
   | true=>
    rw[e1,e2,e3]at h;cases h;have g1:=(sQ (jH.1 e1)).2.2.2.1;have g2:=(sQ (jH.1 e2)).2.2.2.1;have g3:=(sQ (jH.1 e3)).2.2.1;refine g3.trans ?_;rw[g1,g2]
theorem dW{a b c a2 b2 c2:Int}:leP (a,b,c) (a2,b2,c2)=true↔a<a2∨a=a2∧(b<b2∨b=b2∧c<c2):=by
 show(bif !ieq a a2 then ilt a a2 else(bif !ieq b b2 then ilt b b2 else ilt c c2))=true↔_;by_cases h1:a=a2
 ·rw[kF h1,Bool.not_true,cond_false];by_cases h2:b=b2
  ·rw[kF h2,Bool.not_true,cond_false,dP];omega
  ·rw[bW h2,Bool.not_false,cond_true,dP];omega
 ·rw[bW h1,Bool.not_false,cond_true,dP];omega
theorem zZg{p q r:Pt}(h:leP p q=true)(h2:leP q r=true):leP p r=true:=by
 obtain⟨a,b,c⟩:=p;obtain⟨a2,b2,c2⟩:=q;obtain⟨a3,b3,c3⟩:=r;have g:=dW.1 h;have g2:=dW.1 h2;exact dW.2 (by omega)
theorem qEl{p q:Pt}(h:leP p q=true):p≠q:=by
 obtain⟨a,b,c⟩:=p;obtain⟨a2,b2,c2⟩:=q;have g:=dW.1 h;intro e;have e1: @Eq Int a a2:=congrArg Prod.fst e;have e2: @Eq Int b b2:=congrArg (fun x:Pt=>x.2.1) e;have e3: @Eq Int c c2:=congrArg (fun x:Pt=>x.2.2) e;omega
theorem qCi{p q:Pt}(h:ilt (cpP p q) 0=true):leP p q=true:=by
 obtain⟨a,b,c⟩:=p;obtain⟨a2,b2,c2⟩:=q;rw[dW];have hc:∀{a b:Int},(ieq (cmI a b) 0=true→a=b)∧(ilt (cmI a b) 0=true→a<b):=fun{a b}=>by
  unfold cmI;cases h1:ilt a b with
  | true=>exact⟨fun h=>(by cases h),fun _=>dP.1 h1⟩
  | false=>
   have k1:¬a<b:=fun k=>by rw[zBf k]at h1;cases h1
   cases h2:ilt b a with
   | true=>exact⟨fun h=>(by cases h),fun h=>(by cases h)⟩
   | false=>
    have k2:¬b<a:=fun k=>by rw[zBf k]at h2;cases h2
    exact⟨fun _=>(by omega),fun h=>(by cases h)⟩
 have h:ilt (bif !ieq (cmI a a2) 0 then cmI a a2 else(bif !ieq (cmI b b2) 0 then cmI b b2 else(bif !ieq (cmI c c2) 0 then cmI c c2 else 0))) 0=true:=h;cases h1:ieq (cmI a a2) 0 with
 | false=>rw[h1]at h;exact .inl (hc.2 h)
 | true=>
  have e1:=hc.1 h1;rw[h1]at h;cases h2:ieq (cmI b b2) 0 with
  | false=>rw[h2]at h;exact .inr ⟨e1,.inl (hc.2 h)⟩
  | true=>
   have e2:=hc.1 h2;rw[h2]at h;cases h3:ieq (cmI c c2) 0 with
   | false=>rw[h3]at h;exact .inr ⟨e1,.inr ⟨e2,hc.2 h⟩⟩
   | true=>rw[h3]at h;cases h
def Asc:List Wt→Prop
 | []=>True
 | x::l=>(∀y∈l,leP x.1 y.1=true)∧Asc l
theorem zMf{p q:Pt}:keq pT p q=true↔p=q:=by
 obtain⟨a,b,c⟩:=p;obtain⟨a2,b2,c2⟩:=q;have e:keq pT (a,b,c) (a2,b2,c2)=(ieq a a2&&(ieq b b2&&ieq c c2)):=rfl;rw[e];simp only[Bool.and_eq_true,jH,Prod.mk.injEq]
theorem zWj{p q:Pt}(h:p≠q):keq pT p q=false:=by
 cases e:keq pT p q with
 | false=>rfl
 | true=>exact absurd (zMf.1 e) h
theorem zBc(k k':Pt)(x:Rt×Rt):∀m:Mp,jY pT z0 k (bI pT k' x m)=bif keq pT k k' then x else jY pT z0 k m
 | []=>rfl
 | e::m=>by
  have e1:bI pT k' x (e::m)=(bif keq pT k' e.1 then(k',x)::m else e::bI pT k' x m):=rfl;have e2:∀(q:Pt)(f:Pt×(Rt×Rt))(m:Mp),jY pT z0 q (f::m)=(bif keq pT q f.1 then f.2 else jY pT z0 q m):=fun _ _ _=>rfl;rw[e1];cases h:keq pT k' e.1 with
  | true=>
   obtain rfl:=zMf.1 h;rw[cond_true,e2,e2];show(bif keq pT k e.1 then x else jY pT z0 k m)=_;cases keq pT k e.1<;>rfl
  | false=>
   rw[cond_false,e2,e2,zBc k k' x m];cases h1:keq pT k e.1 with
   | false=>rfl
   | true=>
    obtain rfl:=zMf.1 h1;rw[zWj fun e'=>by rw[e',zMf.2 rfl]at h;cases h]
    rfl
theorem qWc(p:Pt)(m:Mp)(x:Wt):(jY pT z0 p (zEw m x)).2=(jY pT z0 p m).2:=by
 unfold zEw;rw[zBc];cases h:keq pT p x.1 with
 | false=>rfl
 | true=>obtain rfl:=zMf.1 h;rfl
theorem qWd(p:Pt)(m:Mp)(x:Wt):(jY pT z0 p (zEx m x)).1=(jY pT z0 p m).1:=by
 unfold zEx;rw[zBc];cases h:keq pT p x.1 with
 | false=>rfl
 | true=>obtain rfl:=zMf.1 h;rfl
theorem zUo(p:Pt)(m:Mp)(x:Wt):(jY pT z0 p (zEw m x)).1=bif keq pT p x.1 then x.2 else(jY pT z0 p m).1:=by
 unfold zEw;rw[zBc];cases h:keq pT p x.1<;>rfl
theorem zUp(p:Pt)(m:Mp)(x:Wt):(jY pT z0 p (zEx m x)).2=bif keq pT p x.1 then x.2 else(jY pT z0 p m).2:=by
 unfold zEx;rw[zBc];cases h:keq pT p x.1<;>rfl
theorem zGn{β:Type}(f:β→Wt→β)(l:List Wt):∀(k i:Nat)(m:β),i+k=l.length→fol (fun i m=>(.inl (f m (wA l i)):β⊕β)) id k i m=(l.drop i).foldl f m
 | 0,i,m,h=>by
  obtain rfl:i=l.length:=by omega
  simp[fol]
 | k+1,i,m,h=>by
  have hi:i<l.length:=by omega
  simp only[fol];rw[zGn f l k (i+1) _ (by omega),List.drop_eq_getElem_cons hi,List.foldl_cons,wA,qP]
  simp[hi]
theorem qTl(l:List Wt)(m:Mp):fm0 l m=l.foldl zEw m:=by
 unfold fm0;rw[zGn zEw l l.length 0 m (by omega)];rfl
theorem qTm(l:List Wt)(m:Mp):fm1 l m=l.foldl zEx m:=by
 unfold fm1;rw[zGn zEx l l.length 0 m (by omega)];rfl
noncomputable def wt(p:Pt):List Wt→Rt
 | []=>(false,[],[])
 | x::l=>bif keq pT p x.1 then x.2 else wt p l
theorem zVa(p:Pt):∀(l:List Wt),wt p l=(false,[],[])∨∃x∈l,wt p l=x.2
 | []=> .inl rfl
 | y::l=>by
  unfold wt;cases keq pT p y.1 with
  | true=>exact .inr ⟨y,List.mem_cons_self,rfl⟩
  | false=>
   rcases zVa p l with h | ⟨x,hx,h⟩
   ·exact .inl h
   ·exact .inr ⟨x,List.mem_cons_of_mem _ hx,h⟩
theorem zWa(p:Pt):∀(l:List Wt)(m:Mp),(jY pT z0 p (l.foldl zEw m)).2=(jY pT z0 p m).2
 | [],_=>rfl
 | x::l,m=>by rw[List.foldl_cons,zWa p l,qWc]
theorem zWb(p:Pt):∀(l:List Wt)(m:Mp),(jY pT z0 p (l.foldl zEx m)).1=(jY pT z0 p m).1
 | [],_=>rfl
 | x::l,m=>by rw[List.foldl_cons,zWb p l,qWd]
theorem zJw(p:Pt):∀(l:List Wt)(m:Mp),(∀y∈l,p≠y.1)→(jY pT z0 p (l.foldl zEw m)).1=(jY pT z0 p m).1
 | [],_,_=>rfl
 | x::l,m,h=>by
  rw[List.foldl_cons,zJw p l _ fun y hy=>h y (List.mem_cons_of_mem _ hy),zUo,zWj (h x List.mem_cons_self)];rfl
theorem zJx(p:Pt):∀(l:List Wt)(m:Mp),(∀y∈l,p≠y.1)→(jY pT z0 p (l.foldl zEx m)).2=(jY pT z0 p m).2
 | [],_,_=>rfl
 | x::l,m,h=>by
  rw[List.foldl_cons,zJx p l _ fun y hy=>h y (List.mem_cons_of_mem _ hy),zUp,zWj (h x List.mem_cons_self)];rfl
theorem zPm(p:Pt):∀(l:List Wt)(m:Mp),Asc l→(jY pT z0 p m).1=(false,[],[])→(jY pT z0 p (l.foldl zEw m)).1=wt p l
 | [],m,_,h=>h
 | x::l,m,ha,h=>by
  rw[List.foldl_cons];unfold wt;cases hk:keq pT p x.1 with
  | true=>
   obtain rfl:=zMf.1 hk;rw[zJw x.1 l _ fun y hy=>qEl (ha.1 y hy),zUo,hk];rfl
  | false=>
   rw[zPm p l _ ha.2 (by rw[zUo,hk];exact h)]
   rfl
theorem zPn(p:Pt):∀(l:List Wt)(m:Mp),Asc l→(jY pT z0 p m).2=(false,[],[])→(jY pT z0 p (l.foldl zEx m)).2=wt p l
 | [],m,_,h=>h
 | x::l,m,ha,h=>by
  rw[List.foldl_cons];unfold wt;cases hk:keq pT p x.1 with
  | true=>
   obtain rfl:=zMf.1 hk;rw[zJx x.1 l _ fun y hy=>qEl (ha.1 y hy),zUp,hk];rfl
  | false=>
   rw[zPn p l _ ha.2 (by rw[zUp,hk];exact h)]
   rfl
theorem qUr{a b:List Wt}(ha:Asc a)(hb:Asc b)(p:Pt):jY pT z0 p (fm1 b (fm0 a []))=(wt p a,wt p b):=by
 rw[qTm,qTl];refine Prod.ext ?_ ?_
 ·rw[zWb];exact zPm p a [] ha rfl
 ·exact zPn p b _ hb (by rw[zWa];rfl)
noncomputable def mxL(g:Pt→Raw⊕Int):List Pt→List Wt→List Wt⊕Int
 | [],o=> .inl o
 | p::ps,o=>match g p with
  | .inl t=>mxL g ps (bif ilt 0 (.ofNat t.ln.length)then(p,toT t)::o else o)
  | .inr e=> .inr e
theorem zWs(w v:Raw)(m:Mp)(ps:List Pt):∀(k i:Nat)(o:List Wt),i+k=ps.length→fol (gM3 adA muA aeA meA w v m ps) .inl k i o=mxL (fun p=>m3F adA muA aeA meA w v (jY pT z0 p m)) (ps.drop i) o
 | 0,i,o,h=>by
  obtain rfl:i=ps.length:=by omega
  rw[List.drop_length];rfl
 | k+1,i,o,h=>by
  have hi:i<ps.length:=by omega
  have e:pA ps i=ps[i]:=by rw[pA,qP];simp[hi]
  rw[List.drop_eq_getElem_cons hi];simp only[fol,gM3,mxL,←e];cases m3F adA muA aeA meA w v (jY pT z0 (pA ps i) m)with
  | inl t=>exact zWs w v m ps k (i+1) _ (by omega)
  | inr e=>rfl
noncomputable abbrev gB(l:List Wt)(j:Nat):Unit⊕Option Int:=gB0 Raw.chk l j ()
theorem qDk{l:List Wt}{i:Nat}(h:gB l i= .inl ()):(0<i→leP (wA l (i-1)).1 (wA l i).1=true)∧(rw' (wA l i).2).chk=0∧(wA l i).2.2.1≠[]:=by
 unfold gB gB0 at h;cases h1:gU (wA l i).1 with
 | true=>rw[h1]at h;cases h
 | false=>
  rw[h1,cond_false]at h;cases h2:(ilt 0 (.ofNat i)&&!ilt (cpP (wA l (i-1)).1 (wA l i).1) 0)with
  | true=>rw[h2]at h;cases h
  | false=>
   rw[h2,cond_false]at h;cases h3:ieq (Raw.chk (rw' (wA l i).2)) 0 with
   | false=>rw[h3]at h;cases h
   | true=>
    rw[h3]at h;refine⟨fun hi=>?_,jH.1 h3,fun e=>?_⟩
    ·rw[zBf (show(0:Int)<.ofNat i by simpa using hi),Bool.true_and]at h2
     cases h4:ilt (cpP (wA l (i-1)).1 (wA l i).1) 0 with
     | true=>exact qCi h4
     | false=>rw[h4]at h2;cases h2
    ·rw[e]at h;cases h5:(wA l i).2.1<;>rw[h5]at h<;>cases h
theorem qDl{l:List Wt}{i:Nat}{y:Option Int}(h:gB l i= .inr y):∃e,e≠0∧y=some e:=by
 unfold gB gB0 at h;cases h1:gU (wA l i).1 with
 | true=>rw[h1]at h;cases h;exact⟨7,by decide,rfl⟩
 | false=>
  rw[h1,cond_false]at h;cases h2:(ilt 0 (.ofNat i)&&!ilt (cpP (wA l (i-1)).1 (wA l i).1) 0)with
  | true=>rw[h2]at h;cases h;exact⟨2,by decide,rfl⟩
  | false=>
   rw[h2,cond_false]at h;cases h3:ieq (Raw.chk (rw' (wA l i).2)) 0 with
   | false=>
    rw[h3]at h;cases h;exact⟨_,fun e=>(by rw[kF e]at h3;cases h3),rfl⟩
   | true=>
    rw[h3]at h;cases h4:((wA l i).2.1||ieq (.ofNat (wA l i).2.2.1.length) 0)with
    | true=>rw[h4]at h;cases h;exact⟨1,by decide,rfl⟩
    | false=>rw[h4]at h;cases h
theorem zPk{l:List Wt}:∀(k i:Nat),fol (gB0 Raw.chk l) (fun _=>none) k i ()=none→∀j,i≤j→j<i+k→gB l j= .inl ()
 | 0,i,_,j,h1,h2=>by omega
 | k+1,i,h,j,h1,h2=>by
  simp only[fol]at h;cases hg:gB l i with
  | inl u'=>
   have hg':gB0 Raw.chk l i ()= .inl u':=hg;rw[hg']at h;rcases Nat.eq_or_lt_of_le h1 with rfl | hlt
   ·exact hg
   ·exact zPk k (i+1) h j hlt (by omega)
  | inr y=>
   have hg':gB0 Raw.chk l i ()= .inr y:=hg;rw[hg']at h;obtain⟨e,_,rfl⟩:=qDl hg;cases h
theorem zPl{l:List Wt}{e:Int}:∀(k i:Nat),fol (gB0 Raw.chk l) (fun _=>none) k i ()=some e→e≠0
 | 0,i,h=>by cases h
 | k+1,i,h=>by
  simp only[fol]at h;cases hg:gB l i with
  | inl u'=>
   have hg':gB0 Raw.chk l i ()= .inl u':=hg;rw[hg']at h;exact zPl k (i+1) h
  | inr y=>
   have hg':gB0 Raw.chk l i ()= .inr y:=hg;rw[hg']at h;obtain⟨e',he,rfl⟩:=qDl hg;cases h;exact he
theorem qPi{l:List Wt}(h:bE l=0):∀j,j<l.length→gB l j= .inl ():=by
 unfold bE bcE at h;cases h1:Nat.beq l.length 0 with
 | true=>rw[h1]at h;cases h
 | false=>
  rw[h1,cond_false]at h;cases h2:Nat.blt 4096 l.length with
  | true=>rw[h2]at h;cases h
  | false=>
   rw[h2,cond_false]at h;cases h3:b0F Raw.chk l with
   | some e=>
    rw[h3]at h;exact absurd h (zPl l.length 0 h3)
   | none=>exact fun j hj=>zPk l.length 0 h3 j (Nat.zero_le _) (by omega)
theorem zIi{l:List Wt}{i:Nat}(hi:i<l.length):wA l i=l[i]:=by rw[wA,qP];simp[hi]
theorem zOr{l:List Wt}(h:∀j,j<l.length→gB l j= .inl ()):∀(k i:Nat),i+k=l.length→Asc (l.drop i)
 | 0,i,e=>by
  obtain rfl:i=l.length:=by omega
  rw[List.drop_length];trivial
 | 1,i,e=>by
  have hi:i<l.length:=by omega
  rw[List.drop_eq_getElem_cons hi,List.drop_eq_nil_of_le (by omega)]
  exact⟨fun y hy=>(by cases hy),trivial⟩
 | k+2,i,e=>by
  have hi:i<l.length:=by omega
  have hi2:i+1<l.length:=by omega
  have ih:=zOr h (k+1) (i+1) (by omega)
  have hq:=(qDk (h (i+1) hi2)).1 (Nat.succ_pos i);rw[Nat.add_sub_cancel,zIi hi,zIi hi2]at hq;rw[List.drop_eq_getElem_cons hi];refine⟨fun y hy=>?_,ih⟩;rw[List.drop_eq_getElem_cons hi2]at hy ih;rcases List.mem_cons.1 hy with rfl | hy
  ·exact hq
  ·exact zZg hq (ih.1 y hy)
def okW(l:List Wt):Prop:=∀x∈l,(∀y∈x.2.2.1,y<4294967296)∧(∀y∈x.2.2.2,y<4294967296)
structure Bel(l:List Wt):Prop where
 asc:Asc l
 ck:∀x∈l,(rw' x.2).chk=0∧x.2.2.1≠[]
 lim:okW l
theorem qBo{l:List Wt}(h:bE l=0)(hw:okW l):Bel l:=by
 have g:=qPi h;refine⟨zOr g l.length 0 (by omega),fun x hx=>?_,hw⟩
 obtain⟨j,hj⟩:=List.getElem?_of_mem hx;have hlt:=(List.getElem?_eq_some_iff.1 hj).1;have e:wA l j=x:=by rw[zIi hlt];exact(List.getElem?_eq_some_iff.1 hj).2
 have:=(qDk (g j hlt)).2;rwa[e]at this
def okR(x:Rt):Prop:=(rw' x).chk=0∧Raw.of (rw' x).rat=rw' x∧tH (rw' x).rat=0
theorem Bel.rat{l:List Wt}(h:Bel l){x:Wt}(hx:x∈l):okR x.2:=by
 have h1:=(h.ck x hx).1;obtain⟨h2,h3⟩:=qFk h1 (h.lim x hx).1 (h.lim x hx).2;exact⟨h1,h2,h3⟩
theorem qFm:okR (false,[],[]):=by
 obtain⟨h2,h3⟩:=qFk (a:=⟨false,[],[]⟩) zSb (fun y hy=>by cases hy) (fun y hy=>by cases hy)
 exact⟨zSb,h2,h3⟩
theorem Bel.wt{l:List Wt}(h:Bel l)(p:Pt):okR (wt p l):=by
 rcases zVa p l with e | ⟨x,hx,e⟩
 ·rw[e];exact qFm
 ·rw[e];exact h.rat hx
section
variable {a b:List Wt}{w v:Raw}
theorem qUt:mxF adA muA aeA meA w v (fm1 b (fm0 a [])) (ptF a b)=mxL (fun p=>m3A w v (jY pT z0 p (fm1 b (fm0 a [])))) (mgP (a.length+b.length) a b) []:=
 zWs w v (fm1 b (fm0 a [])) (ptF a b) (ptF a b).length 0 [] (Nat.zero_add _)
end
noncomputable def pOr(ck:Raw→Int)(om:Raw→Raw→Int):List Ar→DT Rs
 | [.r a,.r b]=>grd (ieq (ck a) 0&&ieq (ck b) 0) (.ret (.one (.i (om a b))))
 | _=> .no
noncomputable def qLu(ck:Raw→Int)(ad su mu:Raw→Raw→Raw)(ae se me:Raw→Raw→Int)(fr:Int→Raw)(om:Raw→Raw→Int):rrT:=[(73,kcD (pR ck) true),(74,kcD (pRR fun a b=>some (ad a b,ae a b)) false),(88,kcD (pRR fun a b=>some (su a b,se a b)) false),(90,kcD (pRR fun a b=>some (mu a b,me a b)) false),(51,kcD (pI fr) true),(87,kcT (pOr ck om) true)]
noncomputable def Lk0:Lp:=⟨1,
 ⟨[.h,.u,.u,.t (.op 0 0),.h]++(us' 107),[.r [.h,.h,.h] 28]⟩,
 ⟨[.h,.u,.u,.t (.op 0 0)]++(us' 108),[.r [.h,.h,.h] 28]⟩,
 ⟨[.u,.u,.h]++(us' 109),[.g]⟩⟩
noncomputable abbrev qOl:Code:=lpc Tryz.prog 67 [false,true,false,true,true,true,true]
theorem qRk:cAt Tryz.prog 67 [false,true,false,true,true,true,true]=some (.loop qOl):=by kernel_rfl
noncomputable abbrev zVg(OD:Od)(LO:Lo):Hs→Option (Hs⊕(Ex×Hs)):=Lk0.stp (evD Tryz.prog OD LO 60) 67 [false,true,false,true,true,true,true] qOl
noncomputable def Lk1:Lp:=⟨2,
 ⟨[.h]++(us' 6++([.t (.op 1 0),.h]++(us' 103))),[.g,.r [.h,.h,.h] 28]⟩,
 ⟨us' 7++([.t (.op 1 0)]++(us' 104)),[.g,.r [.h,.h,.h] 28]⟩,
 ⟨[.u,.u,.h]++(us' 109),[.g,.g]⟩⟩
noncomputable abbrev qOm:Code:=lpc Tryz.prog 67 [false,true,false,true,true,true,true,true,true]
theorem qRl:cAt Tryz.prog 67 [false,true,false,true,true,true,true,true,true]=some (.loop qOm):=by kernel_rfl
noncomputable abbrev zVh(OD:Od)(LO:Lo):Hs→Option (Hs⊕(Ex×Hs)):=Lk1.stp (evD Tryz.prog OD LO 60) 67 [false,true,false,true,true,true,true,true,true] qOm
noncomputable def Lmg:Lp:=⟨0,
 ⟨[.h,.h]++(us' 3++([.a .n pT 61,.h,.h]++(us' 57))),[]⟩,
 ⟨us' 5++([.a .n pT 61]++(us' 59)),[]⟩,
 ⟨us' 4++([.h]++(us' 60)),[]⟩⟩
noncomputable abbrev qOr:Code:=lpc Tryz.prog 89 [false,false,true,true,true]
theorem qRp:cAt Tryz.prog 89 [false,false,true,true,true]=some (.loop qOr):=by kernel_rfl
noncomputable abbrev zJe(OD:Od)(LO:Lo):Hs→Option (Hs⊕(Ex×Hs)):=Lmg.stp (evD Tryz.prog OD LO 60) 89 [false,false,true,true,true] qOr
noncomputable def Lwg:Lp:=⟨2,
 ⟨[.h,.u,.u,.t (.op 0 0),.t (.op 1 0),.h]++(us' 19),[.r [.h,.h,.h] 61,.r [.h,.h,.h] 28]⟩,
 ⟨us' 4++([.t (.op 1 0)]++(us' 20)),[.r [.h,.h,.h] 61,.r [.h,.h,.h] 28]⟩,
 ⟨us' 4++([.t (.op 1 0)]++(us' 20)),[.r [.h,.h,.h] 61,.r [.h,.h,.h] 28]⟩⟩
noncomputable abbrev qOy:Code:=lpc Tryz.prog 91 [false,true,false,true]
theorem qRw:cAt Tryz.prog 91 [false,true,false,true]=some (.loop qOy):=by kernel_rfl
noncomputable abbrev zVm(OD:Od)(LO:Lo):Hs→Option (Hs⊕(Ex×Hs)):=Lwg.stp (evD Tryz.prog OD LO 60) 91 [false,true,false,true] qOy
noncomputable abbrev rG(g:Tg)(a:Raw):List T:=[.v (.bool a.neg),.ls g .lim a.ln,.ls g .lim a.ld]
noncomputable def iK0(l:List Wt)(i:Nat)(g:Tg)(z:Raw):Hs:=⟨[.ls .a wT l,.v (.int .i64 (.ofNat i))],[],[rG g z]⟩
noncomputable def iK1(l:List Wt)(i:Nat)(g:Tg)(t:Raw):Hs:=⟨[.ls .a wT l,.v (.int .i64 (.ofNat i))],[],[[],rG g t]⟩
noncomputable def iMg(a b:List Wt)(i k:Nat)(o:List Pt):Hs:=⟨[.ls .a wT a,.ls .a wT b,.v (.int .i64 (.ofNat i)),.v (.int .i64 (.ofNat k))],[.ls .n pT o],[]⟩
noncomputable def cm3(p q:Pt):Int:=bif leP p q then -1 else(bif leP q p then 1 else 0)
theorem eC27(p q:Pt):((yU Tryz.prog (evD Tryz.prog (odT []) (loT []) 60) 140 [.ag (pC p),.ag (pC q)] []).bind kM).run=bif ilt p.1 q.1 then yI (-1)else(bif ilt q.1 p.1 then yI 1 else(bif ilt p.2.1 q.2.1 then yI (-1)else(bif ilt q.2.1 p.2.1 then yI 1 else(bif ilt p.2.2 q.2.2 then yI (-1)else(bif ilt q.2.2 p.2.2 then yI 1 else yI 0))))):=by kernel_rfl
noncomputable def qLv(cp:Pt→Pt→Int):List T→DT (T×Bool)
 | [.ag [.v (.int .i64 a),.v (.int .i64 b),.v (.int .i64 c)],.ag [.v (.int .i64 a2),.v (.int .i64 b2),.v (.int .i64 c2)]]=> .ret (.v (.int .i64 (cp (a,b,c) (a2,b2,c2))),true)
 | _=> .no
theorem qJp(p q:Pt):((yU Tryz.prog (evD Tryz.prog (odT []) (loT []) 60) 140 [.ag (pC p),.ag (pC q)] []).bind kM).run=yI (cm3 p q):=by
 rw[eC27];unfold cm3 leP;have e:∀x y:Int,(ilt x y=true∧ilt y x=false∧ieq x y=false∧ieq y x=false)∨(ilt x y=false∧ilt y x=true∧ieq x y=false∧ieq y x=false)∨(ilt x y=false∧ilt y x=false∧ieq x y=true∧ieq y x=true):=fun x y=>by
  rcases Int.lt_trichotomy x y with h | h | h
  ·exact .inl ⟨zBf h,zPt (by omega),bW (by omega),bW (by omega)⟩
  ·exact .inr (.inr ⟨zPt (by omega),zPt (by omega),kF h,kF h.symm⟩)
  ·exact .inr (.inl ⟨zPt (by omega),zBf h,bW (by omega),bW (by omega)⟩)
 rcases e p.1 q.1 with⟨a,b,c,d⟩ | ⟨a,b,c,d⟩ | ⟨a,b,c,d⟩<;>rw[a,b,c,d]<;>try rfl
 rcases e p.2.1 q.2.1 with⟨a,b,c,d⟩ | ⟨a,b,c,d⟩ | ⟨a,b,c,d⟩<;>rw[a,b,c,d]<;>try rfl
 rcases e p.2.2 q.2.2 with⟨a,b,c,d⟩ | ⟨a,b,c,d⟩ | ⟨a,b,c,d⟩<;>rw[a,b]<;>rfl
theorem kC27:∀az tv nw,(qLv cm3 az).run=some (tv,nw)→∀k,KnP Tryz.prog k 140 az tv nw:=by
 intro az tv nw h k;unfold qLv at h;split at h
 ·rename_i a b c a2 b2 c2;cases h;exact xE (cz:=[.ag (pC (a,b,c)),.ag (pC (a2,b2,c2))]) xA xU jG (qJp (a,b,c) (a2,b2,c2)) rfl k
 ·cases h
noncomputable abbrev oe(e:Int):St':=some (.inr (.r,⟨[.v (.int .i64 e)],[],[[]]⟩))
noncomputable abbrev oe2(e:Int):St':=some (.inr (.r,⟨[.v (.int .i64 e)],[],[[],[]]⟩))
noncomputable abbrev rtE(p:Pt)(k:St'):St':=bif ilt p.1 (-200000)then oe 7 else(bif ilt 200000 p.1 then oe 7 else(bif ilt p.2.1 (-100)then oe 7 else(bif ilt 100 p.2.1 then oe 7 else(bif ilt p.2.2 (-100)then oe 7 else(bif ilt 100 p.2.2 then oe 7 else k)))))
section
variable (cp:Pt→Pt→Int)(ck:Raw→Int)(ad su mu:Raw→Raw→Raw)(ae se me:Raw→Raw→Int)(fr:Int→Raw)(om:Raw→Raw→Int)
noncomputable abbrev OK:Od:=odT ((140,odR [pT,pT] (qLv cp))::qLu ck ad su mu ae se me fr om)
noncomputable abbrev k0K(l:List Wt)(i:Nat)(z:Raw)(k:St'):St':=gd (Nat.blt i l.length) (bif !ieq (ck (rw' (wA l i).2)) 0 then oe (ck (rw' (wA l i).2))else gd (Nat.blt i l.length) (gd (ieq (ck (rw' (wA l i).2)) 0&&ieq (ck z) 0) (bif !ilt 0 (om (rw' (wA l i).2) z)then oe 1 else k)))
theorem sK0(l:List Wt)(i:Nat)(g:Tg)(z:Raw):zVg (OK cp ck ad su mu ae se me fr om) (loT []) (iK0 l i g z)=bif Nat.blt i l.length then gd (Nat.blt i l.length) (rtE (wA l i).1 (bif ilt 0 (.ofNat i)then gd (inW (pr i)) (gd (nng (pr i)) (gd (Nat.blt (pr i).toNat l.length) (bif ilt 0 (.ofNat i)then(bif !ilt (cp (wA l (pr i).toNat).1 (wA l i).1) 0 then oe 2 else k0K ck om l i z (nx i (.inl (iK0 l (i+1) g z))))else k0K ck om l i z (nx i (.inl (iK0 l (i+1) g z))))))else(bif ilt 0 (.ofNat i)then none else k0K ck om l i z (nx i (.inl (iK0 l (i+1) g z))))))else some (.inr (.x 0,⟨[.ls .a wT l],[],[rG g z]⟩)):=by kernel_rfl
theorem sK1(l:List Wt)(i:Nat)(g:Tg)(t:Raw):zVh (OK cp ck ad su mu ae se me fr om) (loT []) (iK1 l i g t)=bif Nat.blt i l.length then gd (Nat.blt i l.length) (bif !ieq (ae t (rw' (wA l i).2)) 0 then oe2 (ae t (rw' (wA l i).2))else nx i (.inl (iK1 l (i+1) .a (ad t (rw' (wA l i).2)))))else some (.inr (.x 2,⟨[],[],[[],rG g t]⟩)):=by kernel_rfl
noncomputable def gK0(l:List Wt)(z:Raw)(i:Nat)(_:Unit):Unit⊕Option Int:=bif gU (wA l i).1 then .inr (some 7)else(bif ilt 0 (.ofNat i)&&!ilt (cp (wA l (i-1)).1 (wA l i).1) 0 then .inr (some 2)else(bif !ieq (ck (rw' (wA l i).2)) 0 then .inr (some (ck (rw' (wA l i).2)))else(bif !ilt 0 (om (rw' (wA l i).2) z)then .inr (some 1)else .inl ())))
noncomputable def k0F(l:List Wt)(z:Raw):Option Int:=fol (gK0 cp ck om l z) (fun _=>none) l.length 0 ()
noncomputable def qGo(l:List Wt)(g:Tg)(z:Raw):Option Int→Ex×Hs
 | none=>(.x 0,⟨[.ls .a wT l],[],[rG g z]⟩)
 | some e=>(.r,⟨[.v (.int .i64 e)],[],[[]]⟩)
theorem qWw(p:Pt)(k:St'):rtE p k=bif gU p then oe 7 else k:=by
 unfold gU;simp only[rtE];cases ilt p.1 (-200000)<;>cases ilt 200000 p.1<;>cases ilt p.2.1 (-100)<;>cases ilt 100 p.2.1<;>cases ilt p.2.2 (-100)<;>cases ilt 100 p.2.2<;>rfl
theorem lpK0(l:List Wt)(g:Tg)(z:Raw)(hz:ck z=0)(h9:l.length<9223372036854775807):lpF (zVg (OK cp ck ad su mu ae se me fr om) (loT [])) l.length (iK0 l 0 g z)=some (qGo l g z (k0F cp ck om l z)):=
 kS (iv:=fun i(_:Unit)=>iK0 l i g z) (g:=gK0 cp ck om l z) (d:=fun _=>none) (out:=qGo l g z) (n:=l.length) (fun _ _=>True)
  (fun i _ hi _=>by
   rw[sK0];unfold gK0;simp only[qWw,k0K,gd,zW hi,cond_true,sP (show i+1<9223372036854775808 by omega),kF hz,Bool.and_true]
   cases i with
   | zero=>
    have e:ilt 0 (.ofNat 0)=false:=rfl;rw[e];cases gU (wA l 0).1<;>cases ieq (ck (rw' (wA l 0).2)) 0<;>cases ilt 0 (om (rw' (wA l 0).2) z)<;>rfl
   | succ i=>
    have e:ilt 0 (.ofNat (i+1))=true:=rfl;have e2:pr (i+1)= .ofNat i:=by show((i+1:Nat):Int)-1=(i:Int);omega
    have e3:inW (.ofNat i)=true:=zW (show i<9223372036854775808 by omega)
    rw[e,e2,e3];have e4:(Int.ofNat i).toNat=i:=rfl;rw[e4];simp only[nng,zW (show i<l.length by omega),cond_true,Nat.add_sub_cancel]
    cases gU (wA l (i+1)).1<;>cases ilt (cp (wA l i).1 (wA l (i+1)).1) 0<;>cases ieq (ck (rw' (wA l (i+1)).2)) 0<;>cases ilt 0 (om (rw' (wA l (i+1)).2) z)<;>rfl)
  (fun _ _ _ _ _ _=>trivial)
  (fun _ _=>by rw[sK0];simp only[yF (Nat.le_refl _),cond_false];rfl) l.length 0 () (by omega) trivial
noncomputable def gK1(l:List Wt)(i:Nat)(a:Tg×Raw):(Tg×Raw)⊕((Tg×Raw)⊕Int):=bif !ieq (ae a.2 (rw' (wA l i).2)) 0 then .inr (.inr (ae a.2 (rw' (wA l i).2)))else .inl (.a,ad a.2 (rw' (wA l i).2))
noncomputable def k1F(l:List Wt)(g:Tg)(z:Raw):(Tg×Raw)⊕Int:=fol (gK1 ad ae l) .inl l.length 0 (g,z)
noncomputable def qQf:(Tg×Raw)⊕Int→Ex×Hs
 | .inl a=>(.x 2,⟨[],[],[[],rG a.1 a.2]⟩)
 | .inr e=>(.r,⟨[.v (.int .i64 e)],[],[[],[]]⟩)
theorem lpK1(l:List Wt)(g:Tg)(z:Raw)(h9:l.length<9223372036854775807):lpF (zVh (OK cp ck ad su mu ae se me fr om) (loT [])) l.length (iK1 l 0 g z)=some (qQf (k1F ad ae l g z)):=
 kS (iv:=fun i(a:Tg×Raw)=>iK1 l i a.1 a.2) (g:=gK1 ad ae l) (d:= .inl) (out:=qQf) (n:=l.length) (fun _ _=>True)
  (fun i a hi _=>by
   rw[sK1];unfold gK1;simp only[gd,zW hi,cond_true,sP (show i+1<9223372036854775808 by omega)]
   cases ieq (ae a.2 (rw' (wA l i).2)) 0<;>rfl)
  (fun _ _ _ _ _ _=>trivial)
  (fun _ _=>by rw[sK1];simp only[yF (Nat.le_refl _),cond_false];rfl) l.length 0 (g,z) (by omega) trivial
end
section
variable (cp:Pt→Pt→Int)(ck:Raw→Int)(ad su mu:Raw→Raw→Raw)(ae se me:Raw→Raw→Int)(fr:Int→Raw)(om:Raw→Raw→Int)
noncomputable def qQy:Sh:=⟨.x 0,[.l .a wT],[],[[.b,.l .n .lim,.l .n .lim]]⟩
noncomputable def qQx:Sh:=⟨.r,[.i .i64],[],[[]]⟩
noncomputable def qRa:Sh:=⟨.x 2,[],[],[[],[.b,.l .a .lim,.l .a .lim]]⟩
noncomputable def qQz:Sh:=⟨.r,[.i .i64],[],[[],[]]⟩
noncomputable abbrev LK:Lo:=loT [(67,[false,true,false,true,true,true,true],Lk0.row (lpR (zVg (OK cp ck ad su mu ae se me fr om) (loT [])) (fun q=>lnO (nth .u q.hs 0)) [qQy,qQx])),(67,[false,true,false,true,true,true,true,true,true],Lk1.row (lpR (zVh (OK cp ck ad su mu ae se me fr om) (loT [])) (fun q=>lnO (nth .u q.hs 0)) [qRa,qQz]))]
noncomputable abbrev qUc(y:Option (Ex×Hs)):Option (T×Bool):=bif shT qRa y then gd (ieq (ck (rOf ((hsO y).ks.tail.headD []))) 0&&ieq (ck (fr 1)) 0) (bif !ieq (om (rOf ((hsO y).ks.tail.headD [])) (fr 1)) 0 then yI 16 else yI 0)else(bif shT qQz y then yI (iOf (hdT (hsO y).hs))else none)
noncomputable abbrev y27(l:List Wt)(z:Raw):Option (Ex×Hs):=lpF (zVh (OK cp ck ad su mu ae se me fr om) (loT [])) l.length (iK1 l 0 .n z)
noncomputable abbrev k27a(y:Option (Ex×Hs)):Option (T×Bool):=bif shT qQy y then qUc ck fr om (y27 cp ck ad su mu ae se me fr om (lOf wT (hdT (hsO y).hs)) (rOf ((hsO y).ks.headD [])))else(bif shT qQx y then yI (iOf (hdT (hsO y).hs))else none)
theorem eK27(l:List Wt):((yU Tryz.prog (evD Tryz.prog (OK cp ck ad su mu ae se me fr om) (LK cp ck ad su mu ae se me fr om) 60) 67 [.ls .a wT l] []).bind kM).run=bif ieq (.ofNat l.length) 0 then yI 3 else(bif ilt 4096 (.ofNat l.length)then yI 4 else k27a cp ck ad su mu ae se me fr om (lpF (zVg (OK cp ck ad su mu ae se me fr om) (loT [])) l.length (iK0 l 0 .n (fr 0)))):=by kernel_rfl
noncomputable def qKz(l:List Wt):Int:=bif ieq (.ofNat l.length) 0 then 3 else(bif ilt 4096 (.ofNat l.length)then 4 else(match k0F cp ck om l (fr 0)with
 | some e=>e
 | none=>(match k1F ad ae l .n (fr 0)with
  | .inr e=>e
  | .inl a=>bif !ieq (om a.2 (fr 1)) 0 then 16 else 0)))
end
section
variable {ck:Raw→Int}{ad:Raw→Raw→Raw}{ae:Raw→Raw→Int}
theorem k1_a{l:List Wt}(had:∀t x,ae t x=0→ck (ad t x)=0):∀(k i:Nat)(t:Raw)(a:Tg×Raw),ck t=0→fol (gK1 ad ae l) .inl k i (.a,t)= .inl a→a.1= .a∧ck a.2=0
 | 0,i,t,a,ht,h=>by cases h;exact⟨rfl,ht⟩
 | k+1,i,t,a,ht,h=>by
  simp only[fol,gK1]at h;cases he:ieq (ae t (rw' (wA l i).2)) 0 with
  | false=>rw[he]at h;cases h
  | true=>
   rw[he]at h;exact k1_a had k (i+1) _ a (had _ _ (jH.1 he)) h
theorem qPs{l:List Wt}{z:Raw}{a:Tg×Raw}(had:∀t x,ae t x=0→ck (ad t x)=0)(hl:l.length≠0)(h:k1F ad ae l .n z= .inl a):a.1= .a∧ck a.2=0:=by
 unfold k1F at h;obtain⟨k,hk⟩:=Nat.exists_eq_succ_of_ne_zero hl;rw[hk]at h;simp only[fol,gK1]at h;cases he:ieq (ae z (rw' (wA l 0).2)) 0 with
 | false=>rw[he]at h;cases h
 | true=>
  rw[he]at h;exact k1_a had k (0+1) _ a (had _ _ (jH.1 he)) h
end
section
variable (cp:Pt→Pt→Int)(ck:Raw→Int)(ad su mu:Raw→Raw→Raw)(ae se me:Raw→Raw→Int)(fr:Int→Raw)(om:Raw→Raw→Int)
theorem qLa(hz:ck (fr 0)=0)(h1:ck (fr 1)=0)(had:∀t x,ae t x=0→ck (ad t x)=0)(l:List Wt):((yU Tryz.prog (evD Tryz.prog (OK cp ck ad su mu ae se me fr om) (LK cp ck ad su mu ae se me fr om) 60) 67 [.ls .a wT l] []).bind kM).run=yI (qKz cp ck ad ae fr om l):=by
 rw[eK27];unfold qKz;cases e1:ieq (.ofNat l.length) 0 with
 | true=>rfl
 | false=>
  cases e2:ilt 4096 (.ofNat l.length)with
  | true=>rfl
  | false=>
   have hl:l.length≠0:=fun e=>by rw[kF (show Int.ofNat l.length=0 by rw[e];rfl)]at e1;cases e1
   have h9:l.length<9223372036854775807:=by
    rcases Nat.lt_or_ge 4096 l.length with g | g
    ·rw[zBf (show(4096:Int)<.ofNat l.length by show(4096:Int)<(l.length:Int);omega)]at e2;cases e2
    ·omega
   simp only[cond_false];rw[lpK0 cp ck ad su mu ae se me fr om l .n (fr 0) hz h9];cases k0F cp ck om l (fr 0)with
   | some e=>rfl
   | none=>
    have e3:k27a cp ck ad su mu ae se me fr om (some (qGo l .n (fr 0) none))=qUc ck fr om (y27 cp ck ad su mu ae se me fr om l (fr 0)):=rfl;rw[e3];show qUc ck fr om (y27 cp ck ad su mu ae se me fr om l (fr 0))=_;unfold y27;rw[lpK1 cp ck ad su mu ae se me fr om l .n (fr 0) h9];cases hk:k1F ad ae l .n (fr 0)with
    | inr e=>rfl
    | inl a=>
     obtain⟨g,t⟩:=a;obtain⟨hg,ht⟩:=qPs had hl hk;have hg:g= .a:=hg;have ht:ck t=0:=ht;subst hg;show gd (ieq (ck t) 0&&ieq (ck (fr 1)) 0) (bif !ieq (om t (fr 1)) 0 then yI 16 else yI 0)=yI (bif !ieq (om t (fr 1)) 0 then 16 else 0);rw[kF ht,kF h1];cases ieq (om t (fr 1)) 0<;>rfl
end
noncomputable abbrev ni(i:Nat)(x:St'):St':=gd (Nat.blt (i+1) 9223372036854775808) x
noncomputable abbrev p1(o:List Pt)(x:St'):St':=gd (Nat.ble (o.length+1+1) 9382499223534) (gd (Nat.beq (o.length+1) (o.length+1)) x)
noncomputable abbrev p2(o:List Pt)(x:St'):St':=gd (Nat.beq (o.length+1+1) (o.length+1+1)) x
noncomputable abbrev jM(a b:List Wt)(i k:Nat)(o:List Pt):St':=some (.inl (iMg a b i k o))
section
variable (cp:Pt→Pt→Int)
noncomputable abbrev OG:Od:=odT [(140,odR [pT,pT] (qLv cp))]
noncomputable abbrev mgT(P1 P2:St'→St')(a b:List Wt)(i k:Nat)(o:List Pt):St':=bif ieq (.ofNat i) (.ofNat a.length)then gd (Nat.blt k b.length) (P1 (ni k (P2 (jM a b i (k+1) ((wA b k).1::o)))))else(bif ieq (.ofNat k) (.ofNat b.length)then gd (Nat.blt i a.length) (P1 (ni i (P2 (jM a b (i+1) k ((wA a i).1::o)))))else gd (Nat.blt i a.length) (gd (Nat.blt k b.length) (bif !ilt 0 (cp (wA a i).1 (wA b k).1)then gd (Nat.blt i a.length) (P1 (ni i (bif !ilt (cp (wA a i).1 (wA b k).1) 0 then ni k (P2 (jM a b (i+1) (k+1) ((wA a i).1::o)))else P2 (jM a b (i+1) k ((wA a i).1::o)))))else gd (Nat.blt k b.length) (P1 (bif !ilt (cp (wA a i).1 (wA b k).1) 0 then ni k (P2 (jM a b i (k+1) ((wA b k).1::o)))else P2 (jM a b i k ((wA b k).1::o)))))))
theorem qZm(a b:List Wt)(i k:Nat):zJe (OG cp) (loT []) (iMg a b i k [])=bif ilt (.ofNat i) (.ofNat a.length)then mgT cp id id a b i k []else(bif ilt (.ofNat k) (.ofNat b.length)then mgT cp id id a b i k []else some (.inr (.x 0,⟨[],[.ls .n pT []],[]⟩))):=by kernel_rfl
theorem qZl(a b:List Wt)(i k:Nat)(p:Pt)(o:List Pt):zJe (OG cp) (loT []) (iMg a b i k (p::o))=bif ilt (.ofNat i) (.ofNat a.length)then mgT cp (p1 o) (p2 o) a b i k (p::o)else(bif ilt (.ofNat k) (.ofNat b.length)then mgT cp (p1 o) (p2 o) a b i k (p::o)else gd (Nat.beq (o.length+1) (o.length+1)) (some (.inr (.x 0,⟨[],[.ls .n pT (p::o)],[]⟩)))):=by kernel_rfl
end
noncomputable abbrev mgJ(a b:List Wt)(i k:Nat)(o:List Pt):St':=bif ieq (.ofNat i) (.ofNat a.length)then jM a b i (k+1) ((wA b k).1::o)else(bif ieq (.ofNat k) (.ofNat b.length)then jM a b (i+1) k ((wA a i).1::o)else(bif leP (wA a i).1 (wA b k).1 then jM a b (i+1) k ((wA a i).1::o)else(bif leP (wA b k).1 (wA a i).1 then jM a b i (k+1) ((wA b k).1::o)else jM a b (i+1) (k+1) ((wA a i).1::o))))
theorem qEy{P1 P2:St'→St'}{a b:List Wt}{i k:Nat}{o:List Pt}(h1:∀x,P1 x=x)(h2:∀x,P2 x=x)(hi:i≤a.length)(hk:k≤b.length)(ha:a.length<9223372036854775807)(hb:b.length<9223372036854775807)(h:i<a.length∨k<b.length):mgT cm3 P1 P2 a b i k o=mgJ a b i k o:=by
 have n1:i<a.length→Nat.blt (i+1) 9223372036854775808=true:=fun _=>zW (by omega)
 have n2:k<b.length→Nat.blt (k+1) 9223372036854775808=true:=fun _=>zW (by omega)
 simp only[mgT,mgJ,h1,h2,ni];cases e1:ieq (.ofNat i) (.ofNat a.length)with
 | true=>
  have:i=a.length:=Int.ofNat.inj (jH.1 e1);have hk':k<b.length:=by omega
  simp only[cond_true,gd,zW hk',n2 hk']
 | false=>
  have hi':i<a.length:=by
   rcases Nat.eq_or_lt_of_le hi with e | e
   ·rw[e,kF rfl]at e1;cases e1
   ·exact e
  cases e2:ieq (.ofNat k) (.ofNat b.length)with
  | true=>simp only[cond_true,cond_false,gd,zW hi',n1 hi']
  | false=>
   have hk':k<b.length:=by
    rcases Nat.eq_or_lt_of_le hk with e | e
    ·rw[e,kF rfl]at e2;cases e2
    ·exact e
   simp only[cond_false,gd,zW hi',zW hk',n1 hi',n2 hk',cond_true];unfold cm3;cases e3:leP (wA a i).1 (wA b k).1 with
   | true=>rfl
   | false=>cases leP (wA b k).1 (wA a i).1<;>rfl
theorem sMg(a b:List Wt)(i k:Nat)(o:List Pt)(hi:i≤a.length)(hk:k≤b.length)(ha:a.length<9223372036854775807)(hb:b.length<9223372036854775807)(ho:o.length<9000000000000):zJe (OG cm3) (loT []) (iMg a b i k o)=bif Nat.blt i a.length||Nat.blt k b.length then mgJ a b i k o else some (.inr (.x 0,⟨[],[.ls .n pT o],[]⟩)):=by
 have go:∀{P1 P2:St'→St'}{y:St'},(∀x,P1 x=x)→(∀x,P2 x=x)→(bif ilt (.ofNat i) (.ofNat a.length)then mgT cm3 P1 P2 a b i k o else(bif ilt (.ofNat k) (.ofNat b.length)then mgT cm3 P1 P2 a b i k o else y))=bif Nat.blt i a.length||Nat.blt k b.length then mgJ a b i k o else y:=fun{P1 P2 y}h1 h2=>by
  show(bif Nat.blt i a.length then _ else(bif Nat.blt k b.length then _ else y))=_;cases e1:Nat.blt i a.length with
  | true=>
   have:i<a.length:=by have e:=e1;rw[Nat.blt_eq]at e;exact e
   rw[qEy h1 h2 hi hk ha hb (.inl this)];rfl
  | false=>
   cases e2:Nat.blt k b.length with
   | true=>
    have:k<b.length:=by have e:=e2;rw[Nat.blt_eq]at e;exact e
    rw[qEy h1 h2 hi hk ha hb (.inr this)];rfl
   | false=>rfl
 cases o with
 | nil=>rw[qZm];exact go (fun _=>rfl) (fun _=>rfl)
 | cons p o=>
  simp only[List.length_cons]at ho;rw[qZl,show ∀x:St',gd (Nat.beq (o.length+1) (o.length+1)) x=x from fun x=>by simp only[gd,jW,cond_true]]
  exact go (fun x=>by simp only[p1,gd,jW,kL (show o.length+1+1≤9382499223534 by omega),cond_true]) (fun x=>by simp only[p2,gd,jW,cond_true])
noncomputable abbrev rZ:List T:=[.v (.bool false),.v (.slice none 0 0),.v (.slice none 0 0)]
noncomputable def iWh(l:List Wt)(i:Nat)(p:Pt):Hs:=⟨[.ls .a wT l,.v (.int .i64 (.ofNat i))],[],[pC p,rZ]⟩
noncomputable abbrev eqQ(p q:Pt):Bool:=ieq p.1 q.1&&(ieq p.2.1 q.2.1&&ieq p.2.2 q.2.2)
section
variable (ck:Raw→Int)(ad su mu:Raw→Raw→Raw)(ae se me:Raw→Raw→Int)(fr:Int→Raw)(om:Raw→Raw→Int)
noncomputable abbrev ON:Od:=odT (qLu ck ad su mu ae se me fr om)
theorem sWg(l:List Wt)(i:Nat)(p:Pt):zVm (ON ck ad su mu ae se me fr om) (loT []) (iWh l i p)=bif Nat.blt i l.length then gd (Nat.blt i l.length) (bif eqQ (wA l i).1 p then gd (Nat.blt i l.length) (some (.inr (.r,⟨[],[],[pC p,rC (rw' (wA l i).2)]⟩)))else nx i (.inl (iWh l (i+1) p)))else some (.inr (.x 0,⟨[],[],[pC p,rZ]⟩)):=by kernel_rfl
noncomputable def gWg(l:List Wt)(p:Pt)(i:Nat)(_:Unit):Unit⊕Option Raw:=bif eqQ (wA l i).1 p then .inr (some (rw' (wA l i).2))else .inl ()
noncomputable def wgF(l:List Wt)(p:Pt):Option Raw:=fol (gWg l p) (fun _=>none) l.length 0 ()
noncomputable def qQj(p:Pt):Option Raw→Ex×Hs
 | none=>(.x 0,⟨[],[],[pC p,rZ]⟩)
 | some a=>(.r,⟨[],[],[pC p,rC a]⟩)
theorem lpWg(l:List Wt)(p:Pt)(h9:l.length<9223372036854775807):lpF (zVm (ON ck ad su mu ae se me fr om) (loT [])) l.length (iWh l 0 p)=some (qQj p (wgF l p)):=
 kS (iv:=fun i(_:Unit)=>iWh l i p) (g:=gWg l p) (d:=fun _=>none) (out:=qQj p) (n:=l.length) (fun _ _=>True)
  (fun i _ hi _=>by
   rw[sWg];unfold gWg;simp only[gd,zW hi,cond_true,sP (show i+1<9223372036854775808 by omega)]
   cases eqQ (wA l i).1 p<;>rfl)
  (fun _ _ _ _ _ _=>trivial)
  (fun _ _=>by rw[sWg];simp only[yF (Nat.le_refl _),cond_false];rfl) l.length 0 () (by omega) trivial
noncomputable def qRc:Sh:=⟨.x 0,[],[],[[.i .i64,.i .i64,.i .i64],[.c (.v (.bool false)),.c (.v (.slice none 0 0)),.c (.v (.slice none 0 0))]]⟩
noncomputable def qRb:Sh:=⟨.r,[],[],[[.i .i64,.i .i64,.i .i64],[.b,.l .a .lim,.l .a .lim]]⟩
noncomputable abbrev LW:Lo:=loT [(91,[false,true,false,true],Lwg.row (lpR (zVm (ON ck ad su mu ae se me fr om) (loT [])) (fun q=>lnO (nth .u q.hs 0)) [qRc,qRb]))]
noncomputable abbrev wgY(y:Option (Ex×Hs)):Option (T×Bool):=bif shT qRc y then some (.ag (rC (fr 0)),true)else(bif shT qRb y then some (.ag (rC (rOf ((hsO y).ks.tail.headD []))),false)else none)
theorem eWg(l:List Wt)(p:Pt):((yU Tryz.prog (evD Tryz.prog (ON ck ad su mu ae se me fr om) (LW ck ad su mu ae se me fr om) 60) 91 [.ls .a wT l,.ag (pC p)] []).bind kM).run=wgY fr (lpF (zVm (ON ck ad su mu ae se me fr om) (loT [])) l.length (iWh l 0 p)):=by kernel_rfl
noncomputable def wgE(l:List Wt)(p:Pt):Raw:=match wgF l p with
 | none=>fr 0
 | some a=>a
theorem qXu(l:List Wt)(p:Pt)(h9:l.length<9223372036854775807):∃nw,((yU Tryz.prog (evD Tryz.prog (ON ck ad su mu ae se me fr om) (LW ck ad su mu ae se me fr om) 60) 91 [.ls .a wT l,.ag (pC p)] []).bind kM).run=some (.ag (rC (wgE fr l p)),nw):=by
 rw[eWg,lpWg ck ad su mu ae se me fr om l p h9];unfold wgE;cases wgF l p with
 | none=>exact⟨true,rfl⟩
 | some a=>exact⟨false,rfl⟩
end
theorem mP{l:List Wt}{i:Nat}(h:i<l.length):l.drop i=wA l i::l.drop (i+1):=by
 rw[List.drop_eq_getElem_cons h,wA,qP];simp[h]
theorem zTk{i n:Nat}(h:i<n):ieq (.ofNat i) (.ofNat n)=false:=bW fun e=>by have:=Int.ofNat.inj e;omega
theorem lpMg{a b:List Wt}(ha:a.length<9223372036854775807)(hb:b.length<9223372036854775807):∀(n i k:Nat)(o:List Pt),i≤a.length→k≤b.length→(a.length-i)+(b.length-k)≤n→o.length+n<9000000000000→lpF (zJe (OG cm3) (loT [])) n (iMg a b i k o)=some (.x 0,⟨[],[.ls .n pT ((mgP n (a.drop i) (b.drop k)).reverse++o)],[]⟩)
 | 0,i,k,o,hi,hk,hn,ho=>by
  obtain rfl:i=a.length:=by omega
  obtain rfl:k=b.length:=by omega
  simp only[lpF,sMg a b a.length b.length o hi hk ha hb (by omega),yF (Nat.le_refl _),Bool.or_self,cond_false,mgP,List.reverse_nil,List.nil_append]
 | n+1,i,k,o,hi,hk,hn,ho=>by
  simp only[lpF,sMg a b i k o hi hk ha hb (by omega),mgP]
  have IH:=fun i' k' p h1 h2 h3=>lpMg ha hb n i' k' (p::o) h1 h2 h3 (by simp only[List.length_cons];omega)
  rcases Nat.lt_or_ge i a.length with h1 | h1<;>rcases Nat.lt_or_ge k b.length with h2 | h2
  ·rw[mP h1,mP h2];simp only[zW h1,Bool.true_or,cond_true,mgJ,zTk h1,zTk h2,cond_false,mg1];cases e1:leP (wA a i).1 (wA b k).1 with
   | true=>simp only[cond_true];rw[IH (i+1) k _ (by omega) hk (by omega),←mP h2];simp
   | false=>
    cases e2:leP (wA b k).1 (wA a i).1 with
    | true=>simp only[cond_true,cond_false];rw[IH i (k+1) _ hi (by omega) (by omega),←mP h1];simp
    | false=>simp only[cond_false];rw[IH (i+1) (k+1) _ (by omega) (by omega) (by omega)];simp
  ·obtain rfl:k=b.length:=by omega
   rw[mP h1,List.drop_length];simp only[zW h1,Bool.true_or,cond_true,mgJ,zTk h1,kF rfl,cond_false,mg1];rw[IH (i+1) b.length _ (by omega) hk (by omega),List.drop_length];simp
  ·obtain rfl:i=a.length:=by omega
   rw[mP h2,List.drop_length];simp only[zW h2,Bool.or_true,cond_true,mgJ,kF rfl,mg1];rw[IH a.length (k+1) _ hi (by omega) (by omega),List.drop_length];simp
  ·obtain rfl:i=a.length:=by omega
   obtain rfl:k=b.length:=by omega
   simp only[yF (Nat.le_refl _),Bool.or_self,cond_false,List.drop_length,mg1,List.reverse_nil,List.nil_append]
noncomputable def shMg:Sh:=⟨.x 0,[],[(.n,pT)],[]⟩
noncomputable abbrev LG:Lo:=loT [(89,[false,false,true,true,true],Lmg.row (lpR (zJe (OG cm3) (loT [])) (fun q=>lnO (nth .u q.hs 0)+lnO (nth .u q.hs 1)) [shMg]))]
noncomputable abbrev yMg(a b:List Wt):Option (Ex×Hs):=lpF (zJe (OG cm3) (loT [])) (a.length+b.length) (iMg a b 0 0 [])
theorem eMg(a b:List Wt):((yU Tryz.prog (evD Tryz.prog (OG cm3) (LG) 60) 89 [.ls .a wT a,.ls .a wT b] []).bind kM).run=bif shT shMg (yMg a b)then(bif emp (zQm (yMg a b))then some (.v (.slice none 0 0),true)else gd (Nat.beq ((zQm (yMg a b)).tail.length+1) ((zQm (yMg a b)).tail.length+1)) (some (.ls .a pT (cnP (zQm (yMg a b))).reverse,true)))else none:=by kernel_rfl
theorem qFl:vS Tryz.prog (OG cm3):=zX xU (xK kC27)
theorem qPx:rY Tryz.prog LG:=yZ jG (wZ xA qFl jG 60) qRp xQ
theorem kMg:∀az tv nw,(oPt az).run=some (tv,nw)→∀k,KnP Tryz.prog k 89 az tv nw:=by
 intro az tv nw h k;unfold oPt at h;split at h
 ·rename_i a b;obtain⟨h1,h2⟩:=qG h;cases h2;simp only[Bool.and_eq_true,Nat.ble_eq]at h1;have q:=eMg a b;have hy:yMg a b=some (.x 0,⟨[],[.ls .n pT (ptF a b).reverse],[]⟩):=by
   unfold yMg ptF;have:=lpMg (a:=a) (b:=b) (by omega) (by omega) (a.length+b.length) 0 0 [] (Nat.zero_le _) (Nat.zero_le _) (by omega) (by simp only[List.length_nil];omega)
   rw[this,List.append_nil];rfl
  rw[hy]at q;have q2:((yU Tryz.prog (evD Tryz.prog (OG cm3) (LG) 60) 89 [.ls .a wT a,.ls .a wT b] []).bind kM).run=bif emp (ptF a b).reverse then some (.v (.slice none 0 0),true)else gd (Nat.beq ((ptF a b).reverse.tail.length+1) ((ptF a b).reverse.tail.length+1)) (some (.ls .a pT (cnP (ptF a b).reverse).reverse,true)):=q;cases hp:(ptF a b).reverse with
  | nil=>
   rw[hp]at q2;have e:ptF a b=[]:=List.reverse_eq_nil_iff.1 hp;rw[e];exact(xE (cz:=[.ls .a wT a,.ls .a wT b]) xA qFl qPx q2 rfl k).res fun B r v h=>zMs h
  | cons x l=>
   rw[hp]at q2;simp only[emp,cond_false,gd,jW,cond_true,cnP,List.headD_cons,List.tail_cons]at q2;rw[←hp,List.reverse_reverse]at q2;exact xE (cz:=[.ls .a wT a,.ls .a wT b]) xA qFl qPx q2 rfl k
 ·cases h
noncomputable def oWg(wv:List Wt→Pt→Raw):List T→DT (T×Bool)
 | [.ls .a (.prod (.prod (.int .i64) (.prod (.int .i64) (.int .i64))) jI) l,.ag [.v (.int .i64 a),.v (.int .i64 b),.v (.int .i64 c)]]=>grd (Nat.blt l.length 9223372036854775807) (.ret (.ag (rC (wv l (a,b,c))),false))
 | _=> .no
noncomputable def Lrm:Lp:=⟨3,
 ⟨[.h,.h]++(us' 3++([.t (.op 0 0)]++(us' 4++([.t (.op 2 0),.h,.a .a wT 63,.h]++(us' 95))))),[.r [.h,.h,.h] 28,.g,.r [.h,.h,.h] 28]⟩,
 ⟨us' 12++([.a .a wT 63]++(us' 96)),[.g,.g,.g]⟩,
 ⟨us' 6++([.h,.h]++(us' 101)),[.g,.g,.g]⟩⟩
noncomputable abbrev qOv:Code:=lpc Tryz.prog 40 [false,true,false,true,true,true,true,true,true,true,true,true,true,true]
theorem qRt:cAt Tryz.prog 40 [false,true,false,true,true,true,true,true,true,true,true,true,true,true]=some (.loop qOv):=by kernel_rfl
noncomputable abbrev zOc(OD:Od)(LO:Lo):Hs→Option (Hs⊕(Ex×Hs)):=Lrm.stp (evD Tryz.prog OD LO 60) 40 [false,true,false,true,true,true,true,true,true,true,true,true,true,true] qOv
noncomputable def iRm(a b:List Wt)(w v:Raw)(ps:List Pt)(i:Nat)(o:List Wt):Hs:=⟨[.ls .a wT a,.ls .a wT b,.ls .n pT ps,.v (.int .i64 (.ofNat i))],[.ls .a wT o],[rC w,[],rC v]⟩
noncomputable abbrev k3:List (List T):=[[],[],[]]
noncomputable abbrev erR(e:Int):St':=some (.inr (.r,⟨[.v (.slice none 0 0),.v (.int .i64 e)],[],k3⟩))
section
variable (bE:List Wt→Int)(wv:List Wt→Pt→Raw)(ck:Raw→Int)(ad su mu:Raw→Raw→Raw)(ae se me:Raw→Raw→Int)(fr:Int→Raw)(om:Raw→Raw→Int)
noncomputable abbrev OR:Od:=odT ((67,odR [.list wT] (oBc bE))::(89,odR [.list wT,.list wT] oPt)::(91,odR [.list wT,pT] (oWg wv))::qLu ck ad su mu ae se me fr om)
noncomputable abbrev m4(a b:List Wt)(w v x y:Raw)(n i:Nat)(k:Raw→St'):St':=gd (Nat.blt i n) (gd (Nat.blt a.length 9223372036854775807) (bif !ieq (me w x) 0 then erR (me w x)else gd (Nat.blt i n) (gd (Nat.blt b.length 9223372036854775807) (bif !ieq (me v y) 0 then erR (me v y)else(bif !ieq (ae (mu w x) (mu v y)) 0 then erR (ae (mu w x) (mu v y))else gd (ieq (ck (ad (mu w x) (mu v y))) 0&&ieq (ck (fr 0)) 0) (k (ad (mu w x) (mu v y))))))))
theorem qQu(a b:List Wt)(w v:Raw)(ps:List Pt)(i:Nat):zOc (OR bE wv ck ad su mu ae se me fr om) (loT []) (iRm a b w v ps i [])=bif Nat.blt i ps.length then m4 ck ad mu ae me fr a b w v (wv a (pA ps i)) (wv b (pA ps i)) ps.length i (fun t=>bif ilt 0 (om t (fr 0))then gd (Nat.blt i ps.length) (nx i (.inl (iRm a b w v ps (i+1) [(pA ps i,toT t)])))else nx i (.inl (iRm a b w v ps (i+1) [])))else some (.inr (.x 0,⟨[],[.ls .a wT []],k3⟩)):=by kernel_rfl
theorem qQt(a b:List Wt)(w v:Raw)(ps:List Pt)(i:Nat)(y:Wt)(o:List Wt):zOc (OR bE wv ck ad su mu ae se me fr om) (loT []) (iRm a b w v ps i (y::o))=bif Nat.blt i ps.length then m4 ck ad mu ae me fr a b w v (wv a (pA ps i)) (wv b (pA ps i)) ps.length i (fun t=>bif ilt 0 (om t (fr 0))then gd (Nat.blt i ps.length) (wap i o (iRm a b w v ps (i+1) ((pA ps i,toT t)::y::o)))else wsm i o (iRm a b w v ps (i+1) (y::o)))else gd (Nat.beq (o.length+1) (o.length+1)) (some (.inr (.x 0,⟨[],[.ls .a wT (y::o)],k3⟩))):=by kernel_rfl
end
section
variable (bE:List Wt→Int)(wv:List Wt→Pt→Raw)(ck:Raw→Int)(ad su mu:Raw→Raw→Raw)(ae se me:Raw→Raw→Int)(fr:Int→Raw)(om:Raw→Raw→Int)
noncomputable def m4F(w v x y:Raw):Raw⊕Int:=bif !ieq (me w x) 0 then .inr (me w x)else(bif !ieq (me v y) 0 then .inr (me v y)else(bif !ieq (ae (mu w x) (mu v y)) 0 then .inr (ae (mu w x) (mu v y))else .inl (ad (mu w x) (mu v y))))
noncomputable def qTi(k:Raw→St'):Raw⊕Int→St'
 | .inl t=>k t
 | .inr e=>erR e
theorem qQc{a b:List Wt}{w v x y:Raw}{n i:Nat}{k:Raw→St'}(hz:ck (fr 0)=0)(had:∀t x,ae t x=0→ck (ad t x)=0)(ha:a.length<9223372036854775807)(hb:b.length<9223372036854775807)(hi:i<n):m4 ck ad mu ae me fr a b w v x y n i k=qTi k (m4F ad mu ae me w v x y):=by
 unfold m4F;simp only[m4,gd,zW ha,zW hb,zW hi,cond_true,kF hz,Bool.and_true];cases ieq (me w x) 0 with
 | false=>rfl
 | true=>
  cases ieq (me v y) 0 with
  | false=>rfl
  | true=>
   cases h3:ieq (ae (mu w x) (mu v y)) 0 with
   | false=>rfl
   | true=>
    rw[kF (had _ _ (jH.1 h3))];rfl
noncomputable def gRm(a b:List Wt)(w v:Raw)(ps:List Pt)(i:Nat)(o:List Wt):List Wt⊕(List Wt⊕Int):=match m4F ad mu ae me w v (wv a (pA ps i)) (wv b (pA ps i))with
 | .inl t=> .inl (bif ilt 0 (om t (fr 0))then(pA ps i,toT t)::o else o)
 | .inr e=> .inr (.inr e)
noncomputable def rmF(a b:List Wt)(w v:Raw)(ps:List Pt):List Wt⊕Int:=fol (gRm wv ad mu ae me fr om a b w v ps) .inl ps.length 0 []
noncomputable def qGq:List Wt⊕Int→Ex×Hs
 | .inl o=>(.x 0,⟨[],[.ls .a wT o],k3⟩)
 | .inr e=>(.r,⟨[.v (.slice none 0 0),.v (.int .i64 e)],[],k3⟩)
theorem lpRm(hz:ck (fr 0)=0)(had:∀t x,ae t x=0→ck (ad t x)=0)(a b:List Wt)(ha:a.length<9223372036854775807)(hb:b.length<9223372036854775807)(w v:Raw)(ps:List Pt)(h9:ps.length<1000000000):lpF (zOc (OR bE wv ck ad su mu ae se me fr om) (loT [])) ps.length (iRm a b w v ps 0 [])=some (qGq (rmF wv ad mu ae me fr om a b w v ps)):=
 kS (iv:=fun i o=>iRm a b w v ps i o) (g:=gRm wv ad mu ae me fr om a b w v ps) (d:= .inl) (out:=qGq) (n:=ps.length) (fun i o=>o.length≤i)
  (fun i o hi hJ=>by
   unfold gRm;cases o with
   | nil=>
    rw[qQu];simp only[zW hi,cond_true,qQc ck ad mu ae me fr hz had ha hb hi];cases m4F ad mu ae me w v (wv a (pA ps i)) (wv b (pA ps i))with
    | inl t=>simp only[qTi,gd,cond_true,sP (show i+1<9223372036854775808 by omega)];cases ilt 0 (om t (fr 0))<;>rfl
    | inr e=>rfl
   | cons y o=>
    rw[qQt];simp only[List.length_cons]at hJ;simp only[zW hi,cond_true,qQc ck ad mu ae me fr hz had ha hb hi];cases m4F ad mu ae me w v (wv a (pA ps i)) (wv b (pA ps i))with
    | inl t=>simp only[qTi,wap,wsm,gd,jW,zW (show i+1<9223372036854775808 by omega),kL (show o.length+1+1≤2814749766952 by omega),cond_true];cases ilt 0 (om t (fr 0))<;>rfl
    | inr e=>rfl)
  (fun i o o2 hi hJ hg=>by
   unfold gRm at hg;split at hg
   ·rename_i t _;cases hg;cases ilt 0 (om t (fr 0))with
    | true=>simp only[cond_true,List.length_cons];omega
    | false=>simp only[cond_false];omega
   ·cases hg)
  (fun o _=>by
   cases o with
   | nil=>rw[qQu];simp only[yF (Nat.le_refl _),cond_false];rfl
   | cons y o=>rw[qQt];simp only[yF (Nat.le_refl _),cond_false,gd,jW,cond_true];rfl) ps.length 0 [] (by omega) (Nat.le_refl _)
end
section
variable (bE:List Wt→Int)(wv:List Wt→Pt→Raw)(ck:Raw→Int)(ad su mu:Raw→Raw→Raw)(ae se me:Raw→Raw→Int)(fr:Int→Raw)(om:Raw→Raw→Int)
noncomputable def shRx:Sh:=⟨.x 0,[],[(.a,wT)],[[],[],[]]⟩
noncomputable def shRr:Sh:=⟨.r,[.c (.v (.slice none 0 0)),.i .i64],[],[[],[],[]]⟩
noncomputable abbrev LR:Lo:=loT [(40,[false,true,false,true,true,true,true,true,true,true,true,true,true,true],Lrm.row (lpR (zOc (OR bE wv ck ad su mu ae se me fr om) (loT [])) (fun q=>lnO (nth .u q.hs 2)) [shRx,shRr]))]
noncomputable abbrev rmK(y:Option (Ex×Hs)):Option (T×Bool):=bif shT shRx y then(bif emp (wOf y)then erT 0 else gd (Nat.beq ((wOf y).tail.length+1) ((wOf y).tail.length+1)) (some (.tu [.ls .a wT (cnW (wOf y)).reverse,.v (.int .i64 0)],false)))else(bif shT shRr y then erT (iOf (hdT (hsO y).hs.tail))else none)
noncomputable abbrev yRm(a b:List Wt)(w:Raw):Option (Ex×Hs):=lpF (zOc (OR bE wv ck ad su mu ae se me fr om) (loT [])) (ptF a b).length (iRm a b w (su (fr 1) w) (ptF a b) 0 [])
noncomputable abbrev rmT(a b:List Wt)(w:Raw)(k:Option (T×Bool)):Option (T×Bool):=bif w.neg then erT 1 else gd (ieq (ck w) 0&&ieq (ck (fr 1)) 0) (bif ilt 0 (om w (fr 1))then erT 1 else(bif !ieq (se (fr 1) w) 0 then erT (se (fr 1) w)else gd (Nat.ble a.length 100000&&Nat.ble b.length 100000) k))
noncomputable abbrev rmC(a b:List Wt)(w:Raw)(k:Option (T×Bool)):Option (T×Bool):=bif !ieq (ck w) 0 then erT (ck w)else rmT ck se fr om a b w k
theorem eRm(a b:List Wt)(w:Raw):((yU Tryz.prog (evD Tryz.prog (OR bE wv ck ad su mu ae se me fr om) (LR bE wv ck ad su mu ae se me fr om) 60) 40 [.ls .a wT a,.ls .a wT b,.ag (rC w)] []).bind kM).run=bif ieq (bE a) 0 then(bif ieq (bE b) 0 then rmC ck se fr om a b w (rmK (yRm bE wv ck ad su mu ae se me fr om a b w))else(bif !ieq (bE b) 0 then erT (bE b)else rmT ck se fr om a b w (rmK (yRm bE wv ck ad su mu ae se me fr om a b w))))else(bif ieq (bE a) 0 then rmC ck se fr om a b w (rmK (yRm bE wv ck ad su mu ae se me fr om a b w))else(bif !ieq (bE a) 0 then erT (bE a)else rmT ck se fr om a b w (rmK (yRm bE wv ck ad su mu ae se me fr om a b w)))):=by kernel_rfl
noncomputable def rmS(a b:List Wt)(w:Raw):List Wt⊕Int:=bif !ieq (bE a) 0 then .inr (bE a)else(bif !ieq (bE b) 0 then .inr (bE b)else(bif !ieq (ck w) 0 then .inr (ck w)else(bif w.neg then .inr 1 else(bif ilt 0 (om w (fr 1))then .inr 1 else(bif !ieq (se (fr 1) w) 0 then .inr (se (fr 1) w)else rmF wv ad mu ae me fr om a b w (su (fr 1) w) (ptF a b))))))
noncomputable abbrev zZt(s:List Wt⊕Int):Option (T×Bool):=match s with
 | .inl []=>erT 0
 | .inl (x::o)=>some (.tu [.ls .a wT (x::o).reverse,.v (.int .i64 0)],false)
 | .inr e=>erT e
theorem qWl(s:List Wt⊕Int):rmK (some (qGq s))=zZt s:=by
 cases s with
 | inr e=>rfl
 | inl o=>
  cases o with
  | nil=>rfl
  | cons x o=>
   show gd (Nat.beq (o.length+1) (o.length+1)) _=_;simp only[gd,jW,cond_true];rfl
theorem qWm(hz:ck (fr 0)=0)(h1:ck (fr 1)=0)(had:∀t x,ae t x=0→ck (ad t x)=0)(a b:List Wt)(w:Raw)(ha:a.length≤100000)(hb:b.length≤100000):((yU Tryz.prog (evD Tryz.prog (OR bE wv ck ad su mu ae se me fr om) (LR bE wv ck ad su mu ae se me fr om) 60) 40 [.ls .a wT a,.ls .a wT b,.ag (rC w)] []).bind kM).run=zZt (rmS bE wv ck ad su mu ae se me fr om a b w):=by
 rw[eRm];unfold rmS yRm;have hp:(ptF a b).length<1000000000:=by
  have:=zFk (a.length+b.length) a b;unfold ptF;omega
 rw[lpRm bE wv ck ad su mu ae se me fr om hz had a b (by omega) (by omega) w (su (fr 1) w) (ptF a b) hp,qWl]
 simp only[rmC,rmT,gd,kL ha,kL hb,Bool.and_self,cond_true,kF h1,Bool.and_true];cases ieq (bE a) 0<;>cases ieq (bE b) 0<;>cases ieq (ck w) 0<;>cases w.neg<;>cases ilt 0 (om w (fr 1))<;>cases ieq (se (fr 1) w) 0<;>rfl
end
theorem kc6{f:Nat}{q:Raw→Raw→Rat}(h:∀(w:World)(X:Hid)(_:∀k o,X k o→k<w.heap.size)(a:Raw)(ad₁:Option Addr)(len₁ cap₁:Nat)(_:zL (rd w X) ad₁ len₁ cap₁ a.ln)(ae₁:Option Addr)(le₁ ce₁:Nat)(_:zL (rd w X) ae₁ le₁ ce₁ a.ld)(b:Raw)(ad₂:Option Addr)(len₂ cap₂:Nat)(_:zL (rd w X) ad₂ len₂ cap₂ b.ln)(ae₂:Option Addr)(le₂ ce₂:Nat)(_:zL (rd w X) ae₂ le₂ ce₂ b.ld),
  Calls Tryz.prog f #[.agg #[.bool a.neg,.slice ad₁ len₁ cap₁,.slice ae₁ le₁ ce₁],.agg #[.bool b.neg,.slice ad₂ len₂ cap₂,.slice ae₂ le₂ ce₂]] w (Ret E0 w fun w' v=>∃u,v= .tuple #[u,.int .i64 (Gv.opE a b (q a b))]∧xH X w' u (opR a b (q a b)))):KC Tryz.prog f (pRR fun a b=>some (opR a b (q a b),Gv.opE a b (q a b))) false:=by
 intro w X hX az vs hv y hp;unfold pRR at hp;split at hp
 ·rename_i a b;cases hp;match vs,hv with
  | [va,vb],⟨hva,hvb,_⟩=>
   obtain⟨a1,a2,a3,a4,a5,a6,rfl,k1,k2⟩:=hva;obtain⟨b1,b2,b3,b4,b5,b6,rfl,k3,k4⟩:=hvb;refine(h w X hX a _ _ _ k1 _ _ _ k2 b _ _ _ k3 _ _ _ k4).mono ?_;rintro e w' ⟨hu,v,rfl,u',rfl,h⟩;exact⟨hu,_,rfl,[u',.int .i64 _],rfl,h,rfl,trivial⟩
 ·cases hp
theorem qYs:KC Tryz.prog 74 (pRR fun a b=>some (adA a b,aeA a b)) false:=kc6 (q:=fun a b=>a.rat+b.rat) qNe
theorem qYu:KC Tryz.prog 88 (pRR fun a b=>some (suA a b,seA a b)) false:=kc6 (q:=fun a b=>a.rat-b.rat) qNh
theorem qYt:KC Tryz.prog 90 (pRR fun a b=>some (muA a b,meA a b)) false:=kc6 (q:=fun a b=>a.rat*b.rat) qNg
noncomputable abbrev omA(a b:Raw):Int:=pF a.rat b.rat
theorem kOrd:KC Tryz.prog 87 (fun az=>(pOr Raw.chk omA az).run) true:=by
 intro w X hX az vs hv y hp;unfold pOr at hp;simp only at hp;split at hp
 ·rename_i a b;obtain⟨h1,h2⟩:=qG hp;cases h2;match vs,hv with
  | [va,vb],⟨hva,hvb,_⟩=>
   obtain⟨a1,a2,a3,a4,a5,a6,rfl,k1,k2⟩:=hva;obtain⟨b1,b2,b3,b4,b5,b6,rfl,k3,k4⟩:=hvb;simp only[Bool.and_eq_true,jH]at h1;refine(qGk w X hX a _ _ _ k1 _ _ _ k2 b _ _ _ k3 _ _ _ k4 (zEo h1.1) (zEo h1.2)).mono ?_;rintro e w' ⟨hu,v,rfl,h⟩;exact⟨hu,v,rfl,h⟩
 ·cases hp
theorem zWt:vS Tryz.prog (odT (qLu Raw.chk adA suA muA aeA seA meA frA omA)):=
 zX (zX (zX (zX (zX (zX xU fun az tv nw h k=>zTl kOrd az tv nw h k) fun az tv nw h k=>vG qEb az tv h k) fun az tv nw h k=>vG qYt az tv h k) fun az tv nw h k=>vG qYu az tv h k) fun az tv nw h k=>vG qYs az tv h k) fun az tv nw h k=>vG qPt az tv h k
theorem had:∀t x,aeA t x=0→(adA t x).chk=0:=fun t x h=>(sQ h).2.2.2.2
theorem qQe:vS Tryz.prog (OK cm3 Raw.chk adA suA muA aeA seA meA frA omA):=zX zWt (xK kC27)
theorem qHm:lQ Tryz.prog (evD Tryz.prog (OK cm3 Raw.chk adA suA muA aeA seA meA frA omA) (loT []) 60):=wZ xA qQe jG 60
theorem qYy:rY Tryz.prog (LK cm3 Raw.chk adA suA muA aeA seA meA frA omA):=yZ (yZ jG qHm qRl xQ) qHm qRk xQ
noncomputable abbrev bR(l:List Wt):Int:=qKz cm3 Raw.chk adA aeA frA omA l
theorem kK27:∀az tv nw,(oBc bR az).run=some (tv,nw)→∀k,KnP Tryz.prog k 67 az tv nw:=by
 intro az tv nw h k;unfold oBc at h;split at h
 ·rename_i l;cases h;exact xE (cz:=[.ls .a wT l]) xA qQe qYy (qLa cm3 Raw.chk adA suA muA aeA seA meA frA omA zWc dL had l) rfl k
 ·cases h
theorem qWn:lQ Tryz.prog (evD Tryz.prog (ON Raw.chk adA suA muA aeA seA meA frA omA) (loT []) 60):=wZ xA zWt jG 60
theorem qZb:rY Tryz.prog (LW Raw.chk adA suA muA aeA seA meA frA omA):=yZ jG qWn qRw xQ
noncomputable abbrev wR(l:List Wt)(p:Pt):Raw:=wgE frA l p
theorem kWg:∀az tv nw,(oWg wR az).run=some (tv,nw)→∀k,KnP Tryz.prog k 91 az tv nw:=by
 intro az tv nw h k;unfold oWg at h;split at h
 ·rename_i l a b c;obtain⟨h1,h2⟩:=qG h;cases h2;have h9:l.length<9223372036854775807:=by rw[Nat.blt_eq]at h1;exact h1
  obtain⟨nw,hq⟩:=qXu Raw.chk adA suA muA aeA seA meA frA omA l (a,b,c) h9;have:=xE (cz:=[.ls .a wT l,.ag (pC (a,b,c))]) xA zWt qZb hq rfl k;cases nw with
  | true=>exact this.old
  | false=>exact this
 ·cases h
theorem qGi:vS Tryz.prog (OR bR wR Raw.chk adA suA muA aeA seA meA frA omA):=zX (zX (zX zWt (xK kWg)) (xK kMg)) (xK kK27)
theorem qWp:lQ Tryz.prog (evD Tryz.prog (OR bR wR Raw.chk adA suA muA aeA seA meA frA omA) (loT []) 60):=wZ xA qGi jG 60
theorem qQa:rY Tryz.prog (LR bR wR Raw.chk adA suA muA aeA seA meA frA omA):=yZ jG qWp qRt xQ
noncomputable abbrev rmA(a b:List Wt)(w:Raw):List Wt⊕Int:=rmS bR wR Raw.chk adA suA muA aeA seA meA frA omA a b w
noncomputable def oRm(mR:List Wt→List Wt→Raw→List Wt)(mE:List Wt→List Wt→Raw→Int):List T→DT (T×Bool)
 | [.ls .a (.prod (.prod (.int .i64) (.prod (.int .i64) (.int .i64))) jI) a,.ls .a (.prod (.prod (.int .i64) (.prod (.int .i64) (.int .i64))) jI) b,.ag [.v (.bool s),.ls .a .lim l,.ls .a .lim m]]=>grd (Nat.ble a.length 100000&&Nat.ble b.length 100000) (.ret (.tu [.ls .a wT (mR a b ⟨s,l,m⟩),.v (.int .i64 (mE a b ⟨s,l,m⟩))],false))
 | _=> .no
theorem kRm:∀az tv nw,(oRm (fun a b w=>lsS (rmA a b w)) (fun a b w=>erS (rmA a b w)) az).run=some (tv,nw)→∀k,KnP Tryz.prog k 40 az tv nw:=by
 intro az tv nw h k;unfold oRm at h;split at h
 ·rename_i a b s l m;obtain⟨h1,h2⟩:=qG h;cases h2;simp only[Bool.and_eq_true,Nat.ble_eq]at h1;have q:=qWm bR wR Raw.chk adA suA muA aeA seA meA frA omA zWc dL had a b ⟨s,l,m⟩ h1.1 h1.2;show KnP Tryz.prog k 40 _ (.tu [.ls .a wT (lsS (rmA a b ⟨s,l,m⟩)),.v (.int .i64 (erS (rmA a b ⟨s,l,m⟩)))]) false;have er:∀{e:Int},zZt (rmA a b ⟨s,l,m⟩)=erT e→KnP Tryz.prog k 40 [.ls .a wT a,.ls .a wT b,.ag (rC ⟨s,l,m⟩)] (.tu [.ls .a wT [],.v (.int .i64 e)]) false:=fun{e}he=>
   ((xE (cz:=[.ls .a wT a,.ls .a wT b,.ag (rC ⟨s,l,m⟩)]) xA qGi qQa (q.trans he) rfl k).old).res fun B r v h=>qIf h
  cases hs:rmA a b ⟨s,l,m⟩with
  | inr e=>exact er ((congrArg zZt hs).trans rfl)
  | inl o=>
   cases o with
   | nil=>exact er ((congrArg zZt hs).trans rfl)
   | cons x o=>exact xE (cz:=[.ls .a wT a,.ls .a wT b,.ag (rC ⟨s,l,m⟩)]) xA qGi qQa (q.trans ((congrArg zZt hs).trans rfl)) rfl k
 ·cases h
theorem qYl:frA 0=rw' (false,[],[]):=by rw[fr0];rfl
theorem zVy{p q:Pt}:eqQ p q=true↔p=q:=by
 obtain⟨a,b,c⟩:=p;obtain⟨a2,b2,c2⟩:=q;show(ieq a a2&&(ieq b b2&&ieq c c2))=true↔_;simp only[Bool.and_eq_true,jH,Prod.mk.injEq]
theorem zYc{l:List Wt}{p:Pt}:∀(k i:Nat),i+k=l.length→(match fol (gWg l p) (fun _=>none) k i ()with | none=>frA 0 | some a=>a)=rw' (wt p (l.drop i))
 | 0,i,h=>by
  obtain rfl:i=l.length:=by omega
  rw[List.drop_length];exact qYl
 | k+1,i,h=>by
  have hi:i<l.length:=by omega
  rw[mP hi];simp only[fol,gWg];unfold wt;cases e:eqQ (wA l i).1 p with
  | true=>
   have e2:=zVy.1 e;rw[zMf.2 e2.symm];rfl
  | false=>
   have e2:keq pT p (wA l i).1=false:=zWj fun k=>by rw[k,zVy.2 rfl]at e;cases e
   rw[e2];exact zYc k (i+1) (by omega)
theorem qRe(l:List Wt)(p:Pt):wR l p=rw' (wt p l):=zYc l.length 0 (Nat.zero_add _)
section
variable {ad:Raw→Raw→Raw}{ae:Raw→Raw→Int}{l:List Wt}
theorem zVp:∀(k i:Nat)(t:Raw)(e:Int),e≠0→fol (gB1 ad ae l) id k i (t,e)=(t,e)
 | 0,_,_,_,_=>rfl
 | k+1,i,t,e,h=>by
  simp only[fol,gB1,bW h,cond_false];exact zVp k (i+1) t e h
theorem sums:∀(k i:Nat)(g:Tg)(t:Raw),(∀a,fol (gK1 ad ae l) .inl k i (g,t)= .inl a→fol (gB1 ad ae l) id k i (t,0)=(a.2,0))∧(∀e,fol (gK1 ad ae l) .inl k i (g,t)= .inr e→e≠0∧(fol (gB1 ad ae l) id k i (t,0)).2=e)
 | 0,i,g,t=>⟨fun a h=>(by cases h;rfl),fun e h=>(by cases h)⟩
 | k+1,i,g,t=>by
  have z:ieq (0:Int) 0=true:=rfl;simp only[fol,gK1,gB1,z,cond_true];cases he:ieq (ae t (rw' (wA l i).2)) 0 with
  | true=>
   have e0:=jH.1 he;rw[e0];exact sums k (i+1) .a (ad t (rw' (wA l i).2))
  | false=>
   have ne:ae t (rw' (wA l i).2)≠0:=fun e=>by rw[kF e]at he;cases he
   refine⟨fun a h=>(by cases h),fun e h=>?_⟩
   cases h;exact⟨ne,by rw[zVp k (i+1) _ _ ne]⟩
end
theorem qYj(p q:Pt):ilt (cm3 p q) 0=leP p q:=by
 unfold cm3;cases leP p q with
 | true=>rfl
 | false=>cases leP q p<;>rfl
theorem zSs{a b:Int}(h:a<b):cmI a b= -1:=by unfold cmI;rw[zBf h];rfl
theorem zSr{a:Int}:cmI a a=0:=by unfold cmI;rw[zPt (Int.le_refl a)];rfl
theorem qYk(p q:Pt):ilt (cpP p q) 0=leP p q:=by
 cases e:leP p q with
 | false=>
  cases e2:ilt (cpP p q) 0 with
  | false=>rfl
  | true=>rw[qCi e2]at e;cases e
 | true=>
  obtain⟨a,b,c⟩:=p;obtain⟨a2,b2,c2⟩:=q;show ilt (bif !ieq (cmI a a2) 0 then cmI a a2 else(bif !ieq (cmI b b2) 0 then cmI b b2 else(bif !ieq (cmI c c2) 0 then cmI c c2 else 0))) 0=true;rcases dW.1 e with h | ⟨rfl,h | ⟨rfl,h⟩⟩
  ·rw[zSs h];rfl
  ·rw[zSr,zSs h];rfl
  ·rw[zSr,zSr,zSs h];rfl
theorem cmq{a b:Raw}(ha:a.chk=0)(hb:b.chk=0):vP a b=omA a b:=by
 unfold vP;rw[if_pos (qCd ha hb)]
theorem qHj{x:Raw}(h:x.neg=true):x.rat≤0:=by
 have h2:(0:Rat)≤(⟨false,x.ln,x.ld⟩:Raw).rat:=wB rfl;have e:x.rat= -(⟨false,x.ln,x.ld⟩:Raw).rat:=by
  show mkRat (sgn x.neg (val x.ln)) x.d= -mkRat (sgn false (val x.ln)) x.d;rw[h,Rat.neg_mkRat];rfl
 rw[e];grind
theorem qVe{x:Rat}(h:0<x):ilt 0 (pF x 0)=true:=by
 unfold pF;rw[if_neg (by grind),if_neg (by grind)];rfl
theorem qMa{x:Rat}(h:x≤0):ilt 0 (pF x 0)=false:=by
 unfold pF;by_cases e:x=0
 ·rw[if_pos e];rfl
 ·rw[if_neg e,if_pos (by grind)];rfl
theorem pos{a:Raw}(h:a.chk=0):ilt 0 (omA a (frA 0))=!(a.neg||ieq (.ofNat a.ln.length) 0):=by
 show ilt 0 (pF a.rat (frA 0).rat)=_;rw[qKk];cases hn:a.neg with
 | true=>exact qMa (qHj hn)
 | false=>
  obtain⟨_,_,c1,_⟩:=Raw.chk_ok h;have h0:=wB hn;by_cases hl:a.ln=[]
  ·have e:a.rat=0:=by
    unfold Raw.rat;rw[hl,hn,show sgn false (val [])=0 from rfl,Rat.zero_mkRat]
   rw[hl,e];rfl
  ·have e:a.rat≠0:=by
    unfold Raw.rat;rw[hn,Rat.mkRat_ne_zero (Nat.pos_iff_ne_zero.1 a.d_pos)];have:=vV c1 (List.length_pos_iff.2 hl);unfold sgn;simp only[Bool.false_eq_true,if_false];omega
   rw[qVe (by grind)]
   have:a.ln.length≠0:=fun k=>hl (List.eq_nil_of_length_eq_zero k);rw[bW (show Int.ofNat a.ln.length≠0 from fun k=>this (Int.ofNat.inj k))];rfl
theorem qYn(l:List Wt)(i:Nat)(x:Unit):gK0 cm3 Raw.chk omA l (frA 0) i x=gB0 Raw.chk l i x:=by
 unfold gK0 gB0;rw[qYj,qYk];cases gU (wA l i).1 with
 | true=>rfl
 | false=>
  cases(ilt 0 (.ofNat i)&&!leP (wA l (i-1)).1 (wA l i).1)with
  | true=>rfl
  | false=>
   cases h:ieq (Raw.chk (rw' (wA l i).2)) 0 with
   | false=>rfl
   | true=>
    have e:ilt 0 (omA (rw' (wA l i).2) (frA 0))=!((wA l i).2.1||ieq (.ofNat (wA l i).2.2.1.length) 0):=pos (jH.1 h);rw[e];cases(wA l i).2.1<;>cases ieq (.ofNat (wA l i).2.2.1.length) 0<;>rfl
theorem qYr(l:List Wt):k0F cm3 Raw.chk omA l (frA 0)=b0F Raw.chk l:=by
 unfold k0F b0F;rw[show gK0 cm3 Raw.chk omA l (frA 0)=gB0 Raw.chk l from funext fun i=>funext fun x=>qYn l i x]
theorem qYi(l:List Wt):bR l=bE l:=by
 unfold bR bE qKz bcE;show(bif Nat.beq l.length 0 then(3:Int)else _)=_;cases h1:Nat.beq l.length 0 with
 | true=>rfl
 | false=>
  rw[cond_false,cond_false];show(bif Nat.blt 4096 l.length then(4:Int)else _)=_;cases Nat.blt 4096 l.length with
  | true=>rfl
  | false=>
   rw[cond_false,cond_false,qYr];cases b0F Raw.chk l with
   | some e=>rfl
   | none=>
    have hl:l.length≠0:=fun e=>by rw[e]at h1;cases h1
    have hs:=sums (ad:=adA) (ae:=aeA) (l:=l) l.length 0 .n (frA 0);show(match k1F adA aeA l .n (frA 0)with | .inr e=>e | .inl a=>bif !ieq (omA a.2 (frA 1)) 0 then 16 else 0)=bif !ieq (b1F adA aeA frA l).2 0 then(b1F adA aeA frA l).2 else bif !ieq (vP (b1F adA aeA frA l).1 (frA 1)) 0 then 16 else 0
    cases hk:k1F adA aeA l .n (frA 0)with
    | inr e=>
     obtain⟨ne,h2⟩:=hs.2 e hk;have h2:(b1F adA aeA frA l).2=e:=h2;rw[h2,bW ne];rfl
    | inl a=>
     have h2:b1F adA aeA frA l=(a.2,0):=hs.1 a hk;have hc:=(qPs had hl hk).2;rw[h2,cmq hc dL];rfl
theorem qSi:bR=bE:=funext qYi
theorem qTp{l:List Wt}{i:Nat}(h:gB l i= .inl ()):(wA l i).2.1=false:=by
 unfold gB gB0 at h;cases h1:gU (wA l i).1 with
 | true=>rw[h1]at h;cases h
 | false=>
  rw[h1,cond_false]at h;cases h2:(ilt 0 (.ofNat i)&&!ilt (cpP (wA l (i-1)).1 (wA l i).1) 0)with
  | true=>rw[h2]at h;cases h
  | false=>
   rw[h2,cond_false]at h;cases h3:ieq (Raw.chk (rw' (wA l i).2)) 0 with
   | false=>rw[h3]at h;cases h
   | true=>
    rw[h3]at h;cases h5:(wA l i).2.1 with
    | false=>rfl
    | true=>rw[h5]at h;cases h
theorem qIq{l:List Wt}(h:bE l=0)(p:Pt):(wt p l).1=false:=by
 rcases zVa p l with e | ⟨x,hx,e⟩
 ·rw[e]
 ·rw[e];obtain⟨j,hj⟩:=List.getElem?_of_mem hx;have hlt:=(List.getElem?_eq_some_iff.1 hj).1;have e2:wA l j=x:=by rw[zIi hlt];exact(List.getElem?_eq_some_iff.1 hj).2
  rw[←e2];exact qTp (qPi h j hlt)
theorem qEx{w v t:Raw}{g:Rt×Rt}(h:m3A w v g= .inl t):t.chk=0:=by
 unfold m3A m3F at h;cases e1:ieq (meA w (rw' g.1)) 0 with
 | false=>rw[e1]at h;cases h
 | true=>
  cases e2:ieq (meA v (rw' g.2)) 0 with
  | false=>rw[e1,e2]at h;cases h
  | true=>
   cases e3:ieq (aeA (muA w (rw' g.1)) (muA v (rw' g.2))) 0 with
   | false=>rw[e1,e2,e3]at h;cases h
   | true=>
    rw[e1,e2,e3]at h;cases h;exact(sQ (jH.1 e3)).2.2.2.2
theorem qYp{a b:List Wt}{w v:Raw}(ha:Bel a)(hb:Bel b)(na:∀p,(wt p a).1=false)(nb:∀p,(wt p b).1=false)(hw:0≤w.rat)(hv:0≤v.rat)(ps:List Pt)(i:Nat)(o:List Wt):
  gRm wR adA muA aeA meA frA omA a b w v ps i o=gM3 adA muA aeA meA w v (fm1 b (fm0 a [])) ps i o:=by
 unfold gRm gM3;rw[qRe,qRe,qUr ha.asc hb.asc];show(match m3A w v (wt (pA ps i) a,wt (pA ps i) b)with
  | .inl t=> .inl (bif ilt 0 (omA t (frA 0))then(pA ps i,toT t)::o else o)
  | .inr e=> .inr (.inr e))=(match m3A w v (wt (pA ps i) a,wt (pA ps i) b)with
  | .inl t=>(.inl (bif ilt 0 (.ofNat t.ln.length)then(pA ps i,toT t)::o else o):List Wt⊕(List Wt⊕Int))
  | .inr e=> .inr (.inr e))
 cases h:m3A w v (wt (pA ps i) a,wt (pA ps i) b)with
 | inr e=>rfl
 | inl t=>
  have hc:=qEx h;have ht:=qUo h;have h1:0≤(rw' (wt (pA ps i) a)).rat:=wB (na _);have h2:0≤(rw' (wt (pA ps i) b)).rat:=wB (nb _);have h3:0≤w.rat*(rw' (wt (pA ps i) a)).rat+v.rat*(rw' (wt (pA ps i) b)).rat:=by
   have g1:=Rat.mul_nonneg hw h1;have g2:=Rat.mul_nonneg hv h2
   grind
  have hn:t.neg=false:=by
   rw[ht];show decide (_<0)=false;have:=Rat.num_nonneg.2 h3;exact decide_eq_false (by show¬(w.rat*(rw' (wt (pA ps i) a)).rat+v.rat*(rw' (wt (pA ps i) b)).rat).num<0;omega)
  have e:ilt 0 (omA t (frA 0))=ilt 0 (.ofNat t.ln.length):=by
   rw[pos hc,hn];show(!Nat.beq t.ln.length 0)=Nat.blt 0 t.ln.length;cases t.ln.length<;>rfl
  show Sum.inl (bif ilt 0 (omA t (frA 0))then _ else _)=_;rw[e]
theorem qQo{a b:List Wt}{w:Raw}(wa:okW a)(wb:okW b):rmA a b w=mxA a b w:=by
 unfold rmA mxA rmS mxS;rw[qSi];cases h1:ieq (bE a) 0 with
 | false=>rfl
 | true=>
  cases h2:ieq (bE b) 0 with
  | false=>rfl
  | true=>
   cases h3:ieq (Raw.chk w) 0 with
   | false=>rfl
   | true=>
    cases h4:w.neg with
    | true=>rfl
    | false=>
     have hw:=jH.1 h3;rw[cmq hw dL];cases h5:ilt 0 (omA w (frA 1))with
     | true=>rfl
     | false=>
      cases h6:ieq (seA (frA 1) w) 0 with
      | false=>rfl
      | true=>
       simp only[Bool.not_true,cond_false];have h7:vP w (frA 1)≤0:=by
        rw[cmq hw dL];exact Int.not_lt.1 fun k=>by rw[zBf k]at h5;cases h5
       have h8:w.rat≤1:=by
        have:=(qCc hw dL).1 h7;rwa[zWd]at this
       have h9:=(sQ (jH.1 h6)).2.2.2.1;have hv:0≤(suA (frA 1) w).rat:=by
        have h9:(suA (frA 1) w).rat=(frA 1).rat-w.rat:=h9;rw[h9,zWd];grind
       have ea:=jH.1 h1;have eb:=jH.1 h2;unfold rmF mxF;rw[show gRm wR adA muA aeA meA frA omA a b w (suA (frA 1) w) (ptF a b)=gM3 adA muA aeA meA w (suA (frA 1) w) (fm1 b (fm0 a [])) (ptF a b)from funext fun i=>funext fun o=>qYp (qBo ea wa) (qBo eb wb) (qIq ea) (qIq eb) (wB h4) hv (ptF a b) i o]
def yY(a:Raw):Bool:=Nat.ble a.ln.length 35184372087808&&Nat.ble a.ld.length 35184372087808
noncomputable def pCp(lB:Raw→Bool):List Ar→DT Rs
 | [.r a]=>grd (lB a) (.ret (.one (.r a)))
 | _=> .no
noncomputable abbrev OC(lB:Raw→Bool):Od:=odT [(39,kcT (pCp lB) false)]
noncomputable def Low:Lp:=⟨0,
 ⟨[.h,.u,.u,.a .a wT 63,.h]++(us' 22),[]⟩,
 ⟨us' 3++([.a .a wT 63]++(us' 23)),[]⟩,
 ⟨[.u,.u,.h]++(us' 24),[]⟩⟩
noncomputable abbrev qOt:Code:=lpc Tryz.prog 18 [false,true,false,true,true]
theorem qRr:cAt Tryz.prog 18 [false,true,false,true,true]=some (.loop qOt):=by kernel_rfl
noncomputable abbrev zJf(OD:Od)(LO:Lo):Hs→Option (Hs⊕(Ex×Hs)):=Low.stp (evD Tryz.prog OD LO 60) 18 [false,true,false,true,true] qOt
noncomputable def iOw(l:List Wt)(i:Nat)(o:List Wt):Hs:=⟨[.ls .a wT l,.v (.int .i64 (.ofNat i))],[.ls .a wT o],[]⟩
section
variable (lB:Raw→Bool)
theorem qQs(l:List Wt)(i:Nat):zJf (OC lB) (loT []) (iOw l i [])=bif Nat.blt i l.length then gd (Nat.blt i l.length) (gd (Nat.blt i l.length) (gd (lB (rw' (wA l i).2)) (nx i (.inl (iOw l (i+1) [wA l i])))))else some (.inr (.x 0,⟨[],[.ls .a wT []],[]⟩)):=by kernel_rfl
theorem qQr(l:List Wt)(i:Nat)(y:Wt)(o:List Wt):zJf (OC lB) (loT []) (iOw l i (y::o))=bif Nat.blt i l.length then gd (Nat.blt i l.length) (gd (Nat.blt i l.length) (gd (lB (rw' (wA l i).2)) (wap i o (iOw l (i+1) (wA l i::y::o)))))else gd (Nat.beq (o.length+1) (o.length+1)) (some (.inr (.x 0,⟨[],[.ls .a wT (y::o)],[]⟩))):=by kernel_rfl
def okO(l:List Wt):Bool:=Nat.ble l.length 100000&&l.all fun x=>lB (rw' x.2)
variable {lB}
theorem qVd{l:List Wt}(h:okO lB l=true):l.length≤100000∧∀i,i<l.length→lB (rw' (wA l i).2)=true:=by
 simp only[okO,Bool.and_eq_true,Nat.ble_eq,List.all_eq_true]at h;refine⟨h.1,fun i hi=>h.2 _ ?_⟩;rw[zIi hi];exact List.getElem_mem hi
theorem lpOw{l:List Wt}(h:okO lB l=true):lpF (zJf (OC lB) (loT [])) l.length (iOw l 0 [])=some (.x 0,⟨[],[.ls .a wT l.reverse],[]⟩):=by
 obtain⟨h1,h2⟩:=qVd h;have:=kS (st:=zJf (OC lB) (loT [])) (iv:=iOw l) (g:=fun i(a:List Wt)=>(.inl (nth wT.zero l i::a):List Wt⊕List Wt)) (d:=id) (out:=fun a=>(.x 0,⟨[],[.ls .a wT a],[]⟩)) (n:=l.length) (fun i a=>a.length=i)
  (fun i o hi hJ=>by
   cases o with
   | nil=>rw[qQs];simp only[gd,zW hi,h2 i hi,cond_true,sP (show i+1<9223372036854775808 by omega)]
   | cons y o=>
    rw[qQr];simp only[List.length_cons]at hJ;simp only[wap,gd,jW,zW hi,h2 i hi,zW (show i+1<9223372036854775808 by omega),kL (show o.length+1+1≤2814749766952 by omega),cond_true])
  (fun i o b hi hJ hg=>by cases hg;simp only[List.length_cons,hJ])
  (fun o hJ=>by
   cases o with
   | nil=>rw[qQs];simp only[yF (Nat.le_refl _),cond_false];rfl
   | cons y o=>rw[qQr];simp only[yF (Nat.le_refl _),cond_false,gd,jW,cond_true];rfl) l.length 0 [] (by omega) rfl
 have e:=zPj l wT.zero l.length 0 (by omega)
 simp only[List.take_zero,List.reverse_nil]at e;rwa[e]at this
variable (lB)
noncomputable def shOw:Sh:=⟨.x 0,[],[(.a,wT)],[]⟩
noncomputable abbrev LOw:Lo:=loT [(18,[false,true,false,true,true],Low.row (lpR (zJf (OC lB) (loT [])) (fun q=>lnO (nth .u q.hs 0)) [shOw]))]
noncomputable abbrev yOw(l:List Wt):Option (Ex×Hs):=lpF (zJf (OC lB) (loT [])) l.length (iOw l 0 [])
theorem eOw(l:List Wt):((yU Tryz.prog (evD Tryz.prog (OC lB) (LOw lB) 60) 18 [.ls .a wT l] []).bind kM).run=bif shT shOw (yOw lB l)then(bif emp (wOf (yOw lB l))then some (.v (.slice none 0 0),true)else gd (Nat.beq ((wOf (yOw lB l)).tail.length+1) ((wOf (yOw lB l)).tail.length+1)) (some (.ls .a wT (cnW (wOf (yOw lB l))).reverse,false)))else none:=by kernel_rfl
end
noncomputable def oOw(okB:List Wt→Bool):List T→DT (T×Bool)
 | [.ls .a (.prod (.prod (.int .i64) (.prod (.int .i64) (.int .i64))) jI) l]=>grd (okB l) (.ret (.ls .a wT l,false))
 | _=> .no
theorem qPu:KC Tryz.prog 39 (fun az=>(pCp yY az).run) false:=by
 intro w X hX az vs hv y hp;unfold pCp at hp;simp only at hp;split at hp
 ·rename_i a;obtain⟨h1,h2⟩:=qG hp;cases h2;match vs,hv with
  | [va],⟨hva,_⟩=>
   obtain⟨a1,a2,a3,a4,a5,a6,rfl,k1,k2⟩:=hva;simp only[yY,Bool.and_eq_true,Nat.ble_eq]at h1;refine(zYh w X hX a _ _ _ k1 _ _ _ k2 (by rw[k1.hlen];omega) (by rw[k2.hlen];omega)).mono ?_
   rintro e w' ⟨hu,v,rfl,h⟩;exact⟨hu,v,rfl,h⟩
 ·cases hp
theorem qFj:vS Tryz.prog (OC yY):=zX xU fun az tv nw h k=>zTl qPu az tv nw h k
theorem kOw:∀az tv nw,(oOw (okO yY) az).run=some (tv,nw)→∀k,KnP Tryz.prog k 18 az tv nw:=by
 intro az tv nw h k;unfold oOw at h;split at h
 ·rename_i l;obtain⟨h1,h2⟩:=qG h;cases h2;have lo1:rY Tryz.prog (LOw yY):=yZ jG (wZ xA qFj jG 60) qRr xQ;have q:=eOw yY l;have hy:yOw yY l=some (.x 0,⟨[],[.ls .a wT l.reverse],[]⟩):=lpOw h1;rw[hy]at q;have q2:((yU Tryz.prog (evD Tryz.prog (OC yY) (LOw yY) 60) 18 [.ls .a wT l] []).bind kM).run=bif emp l.reverse then some (.v (.slice none 0 0),true)else gd (Nat.beq (l.reverse.tail.length+1) (l.reverse.tail.length+1)) (some (.ls .a wT (cnW l.reverse).reverse,false)):=q;cases hp:l.reverse with
  | nil=>
   rw[hp]at q2;have e:l=[]:=List.reverse_eq_nil_iff.1 hp;rw[e]at q2 ⊢;exact((xE (cz:=[.ls .a wT []]) xA qFj lo1 q2 rfl k).old).res fun B r v h=>zMs h
  | cons x m=>
   rw[hp]at q2;simp only[emp,cond_false,gd,jW,cond_true,cnW,List.headD_cons,List.tail_cons]at q2;rw[←hp,List.reverse_reverse]at q2;exact xE (cz:=[.ls .a wT l]) xA qFj lo1 q2 rfl k
 ·cases h
noncomputable abbrev OL(fL:List Wt→Bool)(fW:List Rt→Bool)(okB:List Wt→Bool)(lB:Raw→Bool)(mR:List Wt→List Wt→Raw→List Wt)(mE:List Wt→List Wt→Raw→Int)(pR:List Wt→List Wt→Raw→List Wt)(pE:List Wt→List Wt→Raw→Int)(sM:List Wt→List Wt→Bool)(eqB:Raw→Raw→Bool):Od:=odT [(38,odR [.list wT] (oLg fL)),(65,odR [.list jI] (oWd fW)),(16,oAw),(18,odR [.list wT] (oOw okB)),(39,kcT (pCp lB) false),(40,odR [.list wT,.list wT,jI] (oRm mR mE)),(41,odR [.list wT,.list wT,jI] (oMx pR pE)),(26,odR [.list wT,.list wT] (oSm sM)),(37,kcD (pB eqB) true)]
noncomputable def Lov:Lp:=⟨3,
 ⟨[.h,.h]++(us' 3++([.t (.op 0 0),.u,.h,.h,.t (.op 2 0),.h,.h,.h,.h,.u,.h]++(us' 78))),[.r [.h,.h,.h] 28,.g,.r [.h,.h,.h] 28]⟩,
 ⟨[.h,.h]++(us' 3++([.t (.op 0 0),.u,.h,.h,.t (.op 2 0),.h,.h,.h]++(us' 81))),[.r [.h,.h,.h] 28,.g,.r [.h,.h,.h] 28]⟩,
 ⟨us' 6++([.h]++(us' 87)),[.g,.g,.g]⟩⟩
noncomputable abbrev qOs:Code:=lpc Tryz.prog 7 [false,true,true,true,false,false,true,false,false,true,false,true,true,true,true,true]
theorem qRq:cAt Tryz.prog 7 [false,true,true,true,false,false,true,false,false,true,false,true,true,true,true,true]=some (.loop qOs):=by kernel_rfl
noncomputable abbrev rO(a:Raw):List T:=[.v (.bool a.neg),.ls .o .lim a.ln,.ls .o .lim a.ld]
noncomputable def iOv(a b x y want:List Wt)(e r:Int)(w v:Raw)(l:T)(i:Nat):Hs:=⟨[.ls .o wT a,.ls .o wT b,.ls .o wT x,.ls .o wT y,.ls .o wT want,.v (.int .i64 e),.v (.int .i64 r),l,.v (.int .i64 (.ofNat i))],[],[rO w,[],rO v]⟩
noncomputable def OV:OvF:=fun k=>bif Nat.beq k 42 then some jI else none
noncomputable abbrev H1:List TO:=[.row [] 0,.gone,.row [] 0]
noncomputable abbrev Rov(OD:Od):Rd':=ovD Tryz.prog OV H1 OD (loT []) (lvT H1 []) 60
noncomputable abbrev sOv(OD:Od):Hs→Option (Hs⊕(Ex×Hs)):=Lov.stp (Rov OD) 7 [false,true,true,true,false,false,true,false,false,true,false,true,true,true,true,true] qOs
noncomputable def oOv(a b x y want:List Wt)(e r:Int)(w v:Raw):Ex×Hs:=(.x 2,⟨[.ls .o wT a,.ls .o wT b,.ls .o wT x,.ls .o wT y,.ls .o wT want,.v (.int .i64 e),.v (.int .i64 r)],[],[rO w,[],rO v]⟩)
noncomputable def hOv:Hs→DT (Ex×Hs)
 | ⟨[.ls .o (.prod (.prod (.int .i64) (.prod (.int .i64) (.int .i64))) jI) a,.ls .o (.prod (.prod (.int .i64) (.prod (.int .i64) (.int .i64))) jI) b,.ls .o (.prod (.prod (.int .i64) (.prod (.int .i64) (.int .i64))) jI) x,.ls .o (.prod (.prod (.int .i64) (.prod (.int .i64) (.int .i64))) jI) y,.ls .o (.prod (.prod (.int .i64) (.prod (.int .i64) (.int .i64))) jI) want,.v (.int .i64 e),.v (.int .i64 r),.ls .n (.prod (.prod (.int .i64) (.prod (.int .i64) (.int .i64))) jI) l,.v (.int .i64 (.ofNat 0))],[],[[.v (.bool s),.ls .o .lim l1,.ls .o .lim l2],[],[.v (.bool s'),.ls .o .lim l3,.ls .o .lim l4]]⟩=>grd (Nat.blt l.length 9223372036854775807) (.ret (oOv a b x y want e r ⟨s,l1,l2⟩ ⟨s',l3,l4⟩))
 | _=> .no
noncomputable abbrev LVw:Lv:=lvT H1 [(7,[false,true,true,true,false,false,true,false,false,true,false,true,true,true,true,true],Lov.row hOv)]
noncomputable abbrev bod:Code:=lpc Tryz.prog 7 [false,true,false,true,true,true,true,true]
noncomputable abbrev LLw(OD:Od):Lo:=loO Tryz.prog OV OD (loT []) LVw 60 3 7 [false,true,false,true,true,true,true,true] bod
section
variable (fL:List Wt→Bool)(fW:List Rt→Bool)(okB:List Wt→Bool)(lB:Raw→Bool)(mR:List Wt→List Wt→Raw→List Wt)(mE:List Wt→List Wt→Raw→Int)(pR:List Wt→List Wt→Raw→List Wt)(pE:List Wt→List Wt→Raw→Int)(sM:List Wt→List Wt→Bool)(eqB:Raw→Raw→Bool)
variable (a b x y want l:List Wt)(e r:Int)(w v:Raw)(i:Nat)
theorem qQq:sOv (OL fL fW okB lB mR mE pR pE sM eqB) (iOv a b x y want e r w v (.ls .n wT l) i)=bif Nat.blt i l.length then gd (Nat.blt i l.length) (nx i (.inl (iOv a b x y want e r w v (.hv wT l) (i+1))))else some (.inr (oOv a b x y want e r w v)):=by kernel_rfl
theorem qQp:sOv (OL fL fW okB lB mR mE pR pE sM eqB) (iOv a b x y want e r w v (.hv wT l) i)=bif Nat.blt i l.length then gd (Nat.blt i l.length) (nx i (.inl (iOv a b x y want e r w v (.hv wT l) (i+1))))else some (.inr (oOv a b x y want e r w v)):=by kernel_rfl
end
section
variable (fL:List Wt→Bool)(fW:List Rt→Bool)(okB:List Wt→Bool)(lB:Raw→Bool)(mR:List Wt→List Wt→Raw→List Wt)(mE:List Wt→List Wt→Raw→Int)(pR:List Wt→List Wt→Raw→List Wt)(pE:List Wt→List Wt→Raw→Int)(sM:List Wt→List Wt→Bool)(eqB:Raw→Raw→Bool)
theorem itOv{a b x y want l:List Wt}{e r:Int}{w v:Raw}(h9:l.length<9223372036854775807):∀(k i:Nat),i+k=l.length→It (sOv (OL fL fW okB lB mR mE pR pE sM eqB)) k (iOv a b x y want e r w v (.hv wT l) i) (oOv a b x y want e r w v)
 | 0,i,h=> .out (by rw[qQp,yF (by omega),cond_false])
 | k+1,i,h=> .go (by rw[qQp,zW (by omega)];simp only[gd,cond_true,sP (show i+1<9223372036854775808 by omega)]) (itOv h9 k (i+1) (by omega))
theorem qTs:∀q y,(hOv q).run=some y→∃n,It (sOv (OL fL fW okB lB mR mE pR pE sM eqB)) n q y:=fun q y h=>by
 unfold hOv at h;split at h
 ·rename_i a b x y want e r l s l1 l2 s' l3 l4;obtain⟨h1,h2⟩:=qG h;cases h2;have h9:=zLq h1;show ∃n,It (sOv (OL fL fW okB lB mR mE pR pE sM eqB)) n (iOv a b x y want e r ⟨s,l1,l2⟩ ⟨s',l3,l4⟩ (.ls .n wT l) 0) _;rcases Nat.eq_zero_or_pos l.length with h0 | h0
  ·exact⟨0,.out (by rw[qQq,yF (by omega),cond_false])⟩
  ·exact⟨l.length-1+1,.go (by rw[qQq,zW h0];simp only[gd,cond_true,sP (show 0+1<9223372036854775808 by omega)]) (itOv fL fW okB lB mR mE pR pE sM eqB h9 (l.length-1) (0+1) (by omega))⟩
 ·cases h
noncomputable abbrev nay:Option (T×Bool):=yB false
noncomputable abbrev qHo(a b:List Wt)(w:Raw)(k:Option (T×Bool)):Option (T×Bool):=gd (Nat.ble a.length 100000&&Nat.ble b.length 100000) (bif !ieq (pE a b w) (mE a b w)then nay else gd (Nat.blt (pR a b w).length 9223372036854775807) (bif !sM (pR a b w) (mR a b w)then nay else gd (Nat.blt a.length 9223372036854775807) (bif !sM a a then nay else gd (Nat.blt b.length 9223372036854775807) (bif !sM b b then nay else(bif !eqB w w then nay else gd (Nat.blt (pR a b w).length 9223372036854775807) k)))))
noncomputable abbrev qEj(a b:List Wt)(w:Raw):Option (T×Bool):=gd (okB a) (gd (okB b) (gd (lB w) (gd (Nat.ble a.length 100000&&Nat.ble b.length 100000) (gd (okB (mR a b w)) (qHo mR mE pR pE sM eqB a b w (qHo mR mE pR pE sM eqB a b w (yB true)))))))
set_option maxHeartbeats 0 in
theorem qTb(a b:List Wt)(w:Raw):((yU Tryz.prog (evD Tryz.prog (OL fL fW okB lB mR mE pR pE sM eqB) (LLw (OL fL fW okB lB mR mE pR pE sM eqB)) 60) 7 [.ls .a wT a,.ls .a wT b,.ag (rC w)] []).bind kM).run=gd (Nat.blt a.length 9223372036854775807) (bif fL a then yB true else gd (Nat.blt b.length 9223372036854775807) (bif fL b then yB true else(bif fW [toT w]then yB true else qEj okB lB mR mE pR pE sM eqB a b w))):=by kernel_rfl
end
theorem qNp(a:List Wt):smZ eqA a a=true:=by
 have g:∀k i,fol (gSm eqA a a) (fun _=>true) k i ()=true:=fun k=>by
  induction k with
  | zero=>intro i;rfl
  | succ k ih=>
   intro i;have e:gSm eqA a a i ()= .inl ():=by unfold gSm zYy eqA;rw[kF rfl,kF rfl,kF rfl,decide_eq_true rfl];rfl
   simp only[fol,e];exact ih (i+1)
 unfold smZ smL;rw[kF rfl,g];rfl
theorem qEp{l:List Wt}(h:lgZ l=false):l.length≤5000:=by
 unfold lgZ at h;cases hl:lgF l with
 | none=>rw[hl]at h;cases h
 | some c=>
  rw[hl]at h;have h:lgB l.length c=false:=h;unfold lgB at h;cases h1:ilt 5000 (.ofNat l.length)with
  | false=>
   rcases Nat.lt_or_ge 5000 l.length with g | g
   ·rw[zBf (show(5000:Int)<.ofNat l.length by show(5000:Int)<(l.length:Int);omega)]at h1;cases h1
   ·exact g
  | true=>
   rw[h1]at h;cases h2:ilt 110 (.ofNat l.length)<;>cases h3:ilt 4096 (.ofNat l.length)<;>rw[h2]at h<;>(try rw[h3]at h)<;>cases h
noncomputable abbrev mRA(a b:List Wt)(w:Raw):List Wt:=lsS (mxA a b w)
noncomputable abbrev mEA(a b:List Wt)(w:Raw):Int:=erS (mxA a b w)
theorem qEn{t:Raw}(h:t.chk=0):yY t=true:=by
 obtain⟨h1,h2,_⟩:=Raw.chk_ok h;simp only[yY,Bool.and_eq_true];exact⟨kL (by omega),kL (by omega)⟩
theorem qFd{g:Pt→Raw⊕Int}(hg:∀p t,g p= .inl t→yY t=true):∀(ps:List Pt)(o o':List Wt),(∀x∈o,yY (rw' x.2)=true)→mxL g ps o= .inl o'→(∀x∈o',yY (rw' x.2)=true)∧o'.length≤o.length+ps.length
 | [],o,o',h,e=>by cases e;exact⟨h,by simp⟩
 | p::ps,o,o',h,e=>by
  simp only[mxL]at e;cases hp:g p with
  | inr y=>rw[hp]at e;cases e
  | inl t=>
   rw[hp]at e;have:=qFd hg ps _ o' (fun x hx=>by
    cases ht:ilt 0 (.ofNat t.ln.length)with
    | false=>rw[ht]at hx;exact h x hx
    | true=>
     rw[ht]at hx;rcases List.mem_cons.1 hx with rfl | hx
     ·exact hg p t hp
     ·exact h x hx) e
   refine⟨this.1,Nat.le_trans this.2 ?_⟩;cases ilt 0 (.ofNat t.ln.length)<;>simp only[cond_true,cond_false,List.length_cons]<;>omega
theorem qUu{a b:List Wt}{w:Raw}(ha:a.length≤5000)(hb:b.length≤5000):okO yY (mRA a b w)=true:=by
 have nil:okO yY []=true:=by kernel_rfl
 have key:∀s:List Wt⊕Int,(∀o,s= .inl o→(∀x∈o,yY (rw' x.2)=true)∧o.length≤10000)→okO yY (lsS s)=true:=fun s hs=>by
  cases s with
  | inr e=>exact nil
  | inl o=>
   obtain⟨h1,h2⟩:=hs o rfl;show okO yY o.reverse=true;simp only[okO,Bool.and_eq_true,List.length_reverse,List.all_eq_true,List.mem_reverse];exact⟨kL (by omega),h1⟩
 refine key _ fun o ho=>?_;unfold mxA mxS at ho;cases h1:ieq (bE a) 0 with
 | false=>rw[h1]at ho;cases ho
 | true=>
  cases h2:ieq (bE b) 0 with
  | false=>rw[h1,h2]at ho;cases ho
  | true=>
   cases h3:ieq (Raw.chk w) 0 with
   | false=>rw[h1,h2,h3]at ho;cases ho
   | true=>
    cases h4:w.neg with
    | true=>rw[h1,h2,h3,h4]at ho;cases ho
    | false=>
     cases h5:ilt 0 (vP w (frA 1))with
     | true=>rw[h1,h2,h3,h4,h5]at ho;cases ho
     | false=>
      cases h6:ieq (seA (frA 1) w) 0 with
      | false=>rw[h1,h2,h3,h4,h5,h6]at ho;cases ho
      | true=>
       rw[h1,h2,h3,h4,h5,h6]at ho;have ho:mxF adA muA aeA meA w (suA (frA 1) w) (fm1 b (fm0 a [])) (ptF a b)= .inl o:=ho;rw[qUt]at ho;have h7:=qFd (fun p t h=>qEn (qEx h)) _ [] o (fun x hx=>by cases hx) ho
       have h8:=zFk (a.length+b.length) a b;refine⟨h7.1,Nat.le_trans h7.2 ?_⟩;simp only[List.length_nil];omega
noncomputable abbrev rRA(a b:List Wt)(w:Raw):List Wt:=lsS (rmA a b w)
noncomputable abbrev rEA(a b:List Wt)(w:Raw):Int:=erS (rmA a b w)
theorem zQa{a b:List Wt}{w:Raw}(wa:okW a)(wb:okW b)(ha:a.length≤5000)(hb:b.length≤5000)(la:okO yY a=true)(lb:okO yY b=true)(lw:yY w=true):qEj (okO yY) yY rRA rEA mRA mEA (smZ eqA) eqA a b w=yB true:=by
 have e1:rRA a b w=mRA a b w:=by unfold rRA mRA;rw[qQo wa wb]
 have e2:rEA a b w=mEA a b w:=by unfold rEA mEA;rw[qQo wa wb]
 have hm:=qUu (w:=w) ha hb;have hl:(mRA a b w).length≤100000:=by
  simp only[okO,Bool.and_eq_true,Nat.ble_eq]at hm;exact hm.1
 have q:eqA w w=true:=decide_eq_true rfl;simp only[qEj,qHo,e1,e2,la,lb,lw,hm,gd,cond_true,kL (show a.length≤100000 by omega),kL (show b.length≤100000 by omega),Bool.and_self,kF rfl,Bool.not_true,cond_false,zW (show(mRA a b w).length<9223372036854775807 by omega),zW (show a.length<9223372036854775807 by omega),zW (show b.length<9223372036854775807 by omega),qNp,q]
theorem zZf{a b:List Wt}{w:Raw}(wa:okW a)(wb:okW b)(ha:a.length<9223372036854775807)(hb:b.length<9223372036854775807)(la:∀x∈a,yY (rw' x.2)=true)(lb:∀x∈b,yY (rw' x.2)=true)(lw:yY w=true):((yU Tryz.prog (evD Tryz.prog (OL lgZ wdZ (okO yY) yY rRA rEA mRA mEA (smZ eqA) eqA) (LLw (OL lgZ wdZ (okO yY) yY rRA rEA mRA mEA (smZ eqA) eqA)) 60) 7 [.ls .a wT a,.ls .a wT b,.ag (rC w)] []).bind kM).run=yB true:=by
 rw[qTb,zW ha,zW hb];have ok:∀{l:List Wt},l.length≤5000→(∀x∈l,yY (rw' x.2)=true)→okO yY l=true:=fun{l}h1 h2=>by
  simp only[okO,Bool.and_eq_true,List.all_eq_true];exact⟨kL (by omega),h2⟩
 cases h1:lgZ a with
 | true=>rfl
 | false=>
  cases h2:lgZ b with
  | true=>rfl
  | false=>
   have l1:=qEp h1;have l2:=qEp h2;cases h3:wdZ [toT w]with
   | true=>simp only[gd,cond_true,cond_false]
   | false=>
    have:=zQa wa wb l1 l2 (ok l1 la) (ok l2 lb) lw;simp only[gd,cond_true,cond_false];exact this
theorem kAw(ha:KnP Tryz.prog 0 16 [] (.v (.bool true)) true)(k:Nat):KnP Tryz.prog k 16 [] (.v (.bool true)) true:=ha.clean rfl rfl k
noncomputable abbrev OLA:Od:=OL lgZ wdZ (okO yY) yY rRA rEA mRA mEA (smZ eqA) eqA
theorem qFn(ha:KnP Tryz.prog 0 16 [] (.v (.bool true)) true):vS Tryz.prog OLA:=
 zX (zX (zX (zX (zX (zX (zX (zX (zX xU fun az tv nw h k=>vG kEq az tv h k) (xK kSm)) (xK kMx)) (xK kRm)) fun az tv nw h k=>zTl qPu az tv nw h k) (xK kOw)) (fun az tv nw h k=>by
  unfold oAw at h;split at h
  ·cases h;exact kAw ha k
  ·cases h)) (xK kWd)) (xK kLg)
theorem qQk:zSg Tryz.prog OV:=by
 intro k A h N w Y v x vs hN hR hav;unfold OV at h;cases hk:Nat.beq k 42 with
 | false=>rw[hk]at h;cases h
 | true=>
  rw[hk]at h;obtain rfl:=qB hk;cases h;obtain⟨a1,n1,c1,a2,n2,c2,rfl,k1,k2,k3,k4⟩:=hR.rt;have hav:v= .agg #[.bool x.1,.slice a1 n1 c1,.slice a2 n2 c2]:=hav;rw[hav];exact zYi w N hN x.1 a1 n1 c1 a2 n2 c2 k1 k2 k3 k4
theorem qSo:cAt Tryz.prog 7 [false,true,false,true,true,true,true,true]=some (.loop bod):=by kernel_rfl
theorem qJm:noR bod=true:=by kernel_rfl
theorem qUn(ha:KnP Tryz.prog 0 16 [] (.v (.bool true)) true):zOd Tryz.prog LVw:=qLl qEw (qVs qQk xA (qFn ha) jG qEw H1 60) qRq (qTs lgZ wdZ (okO yY) yY rRA rEA mRA mEA (smZ eqA) eqA)
theorem zMw{l:List Wt}(h:fP (.list wT) l):okW l∧l.length<9223372036854775807:=by
 refine⟨fun x hx=>?_,?_⟩
 ·obtain⟨_,_,⟨_,h1⟩,_,h2⟩:=h.2 x hx;exact⟨h1,h2⟩
 ·have h1:l.length*Ty.bts wT≤140737488351232:=h.1;have h2:1≤Ty.bts wT:=by decide
  have:=Nat.le_trans (Nat.mul_le_mul_left l.length h2) h1;omega
theorem zMk{x:Rt}(h:fP jI x):yY (rw' x)=true:=by
 obtain⟨_,⟨h1,_⟩,h2,_⟩:=h;have h1:x.2.1.length*4≤140737488351232:=h1;have h2:x.2.2.length*4≤140737488351232:=h2;simp only[yY,Bool.and_eq_true];exact⟨kL (by show x.2.1.length≤_;omega),kL (by show x.2.2.length≤_;omega)⟩
theorem qLe(ha:KnP Tryz.prog 0 16 [] (.v (.bool true)) true)(x0 x1:List Wt)(x2:Rt)(w0:fP (.list wT) x0)(w1:fP (.list wT) x1)(w2:fP jI x2):KnP Tryz.prog 0 7 [.ls .a wT x0,.ls .a wT x1,.ag (cellsD .a jI x2)] (.v (.bool true)) true:=by
 have lw:=zMk w2;obtain⟨b,l,m⟩:=x2;exact xE (cz:=[.ls .a wT x0,.ls .a wT x1,.ag (rC ⟨b,l,m⟩)]) xA (qFn ha) (qUk qQk xA (qFn ha) jG (qUn ha) qJm qSo) (zZf (zMw w0).1 (zMw w1).1 (zMw w0).2 (zMw w1).2 (fun x hx=>zMk (w0.2 x hx).2) (fun x hx=>zMk (w1.2 x hx).2) lw) rfl 0
theorem qLf(x0 x1:List Wt)(x2:Rt)(w0:fP (.list wT) x0)(w1:fP (.list wT) x1)(w2:fP jI x2):KnP Tryz.prog 0 7 [.ls .a wT x0,.ls .a wT x1,.ag (cellsD .a jI x2)] (.v (.bool true)) true:=qLe qYw x0 x1 x2 w0 w1 w2
end Go.Proofs.YtdfmdiakjdggbaaGreatDoor

import Derived.Test.YtdfmdiakjdggbaaGreatDoorRows
import Derived.Test.YtdfmdiakjdggbaaGreatDoorBaseA
import Derived.Test.YtdfmdiakjdggbaaGreatDoorBaseB
import Derived.Test.YtdfmdiakjdggbaaGreatDoorBaseC
import Derived.Test.YtdfmdiakjdggbaaGreatDoorBaseD
import Derived.Test.YtdfmdiakjdggbaaGreatDoorBaseE
import Derived.Test.YtdfmdiakjdggbaaGreatDoorBaseF
set_option linter.unusedVariables false
set_option linter.unusedSimpArgs false
set_option linter.unnecessarySimpa false
namespace Go.Proofs.YtdfmdiakjdggbaaGreatDoor
open Go Go.Gv Go.Ev IntKind
set_option maxRecDepth 1000000
noncomputable def pfs:List Nat:=[16,22,23,24,30,31,32,35,36,43,44,45,46,61,70,76,77,78,79,94,95,119,134,146,156,157,158,169,170,171,183,184,185,186,187,228,234,240,241,242,269]
noncomputable def i(n:Int):T:= .v (.int .i64 n)
noncomputable def w(n:Int):T:= .v (.int .u32 n)
noncomputable def tt:T:= .v (.bool true)
noncomputable def ff:T:= .v (.bool false)
noncomputable def nl:T:= .v (.slice none 0 0)
noncomputable def sL(l:List T):T:= .sl l l.length
noncomputable def ea1:List T:=[(.sl [(i 50),(i 5),(i 0),ff,(sL [(w 1)]),(sL [(w 2)]),(i 100),(i 10),(i 0),ff,(sL [(w 1)]),(sL [(w 2)])] 2)]
noncomputable def et1:T:=(i 0)
theorem er1:yC Tryz.prog (evC Tryz.prog noS (orF Tryz.prog (kK tb0) pfs) 1000) 0 46 ea1=some (et1,true):=by kernel_rfl
noncomputable def eb1:List (Nat×(List T→Option (T×Bool))):=(46,aR ea1 (et1,true))::tb0
theorem eo1:qF Tryz.prog (kK eb1):=qF.cons qEh (vV (by kernel_rfl) vX qEh pfs er1) (by kernel_rfl)
noncomputable def ea2:List T:=[(.ag [(sL [(i (-100)),(i 0),(i 100)]),(sL [(i 0),(i 10)]),(sL [(i 0)]),(.sl [(.v (.int .u8 0)),(i 0),(i 0),(.v (.int .u8 1)),(i 10),(i 20)] 2),(i 5),(i 50),(i 1),(.sl [(i 0),ff,(sL [(w 1)]),(sL [])] 1),(.sl [(i 0),ff,(sL [(w 1)]),(sL [])] 1),ff,(sL [(w 1)]),(sL [(w 10)]),ff,nl,nl,ff,nl,nl])]
noncomputable def et2:T:=(i 0)
theorem er2:yC Tryz.prog (evC Tryz.prog noS (orF Tryz.prog (kK eb1) pfs) 1000) 0 119 ea2=some (et2,true):=by kernel_rfl
noncomputable def eb2:List (Nat×(List T→Option (T×Bool))):=(119,aR ea2 (et2,true))::eb1
theorem eo2:qF Tryz.prog (kK eb2):=qF.cons eo1 (vV (by kernel_rfl) vX eo1 pfs er2) (by kernel_rfl)
noncomputable def ea3:List T:=[(.ag [(sL [(i (-100)),(i 0),(i 100)]),(sL [(i 0),(i 10)]),(sL [(i 0)]),(.sl [(.v (.int .u8 0)),(i 0),(i 0),(.v (.int .u8 1)),(i 10),(i 20)] 2),(i 5),(i 50),(i 1),(.sl [(i 0),ff,(sL [(w 1)]),(sL [])] 1),(.sl [(i 0),ff,(sL [(w 1)]),(sL [])] 1),ff,(sL [(w 1)]),(sL [(w 10)]),ff,nl,nl,ff,nl,nl,(i 10),(sL [(sL [(i 0),(i 1)]),(sL [(i 10),(i 11)]),(sL [(i 9),(i 10)]),(sL [(i 1),(i 2)])]),(sL [(sL [(i 0),(i 0),(i 0),(i 0),(i 1),(i 1),(i 2),(i 2),(i 0),(i 0),(i 3),(i 3)])])])]
noncomputable def et3:T:=(i 0)
theorem er3:yC Tryz.prog (evC Tryz.prog noS (orF Tryz.prog (kK eb2) pfs) 1000) 0 61 ea3=some (et3,true):=by kernel_rfl
noncomputable def eb3:List (Nat×(List T→Option (T×Bool))):=(61,aR ea3 (et3,true))::eb2
theorem eo3:qF Tryz.prog (kK eb3):=qF.cons eo2 (vV (by kernel_rfl) vX eo2 pfs er3) (by kernel_rfl)
noncomputable def ea4:List T:=[(sL [(sL [(i (-100)),(i 0),(i 100)]),(sL [(i 0),(i 10)]),(sL [(i 0)])]),(sL [(i 50),(i 5),(i 0)])]
noncomputable def et4:T:=(.tu [(.sl [(i 2),ff,(sL [(w 1)]),(sL [(w 4)]),(i 3),ff,(sL [(w 1)]),(sL [(w 4)]),(i 4),ff,(sL [(w 1)]),(sL [(w 4)]),(i 5),ff,(sL [(w 1)]),(sL [(w 4)])] 4),(i 0)])
theorem er4:yC Tryz.prog (evC Tryz.prog noS (orF Tryz.prog (kK eb3) pfs) 1000) 0 78 ea4=some (et4,true):=by kernel_rfl
noncomputable def eb4:List (Nat×(List T→Option (T×Bool))):=(78,aR ea4 (et4,true))::eb3
theorem eo4:qF Tryz.prog (kK eb4):=qF.cons eo3 (vV (by kernel_rfl) vX eo3 pfs er4) (by kernel_rfl)
noncomputable def ea5:List T:=[(.sl [ff,(sL [(w 1)]),(sL [(w 4)]),ff,(sL [(w 1)]),(sL [(w 4)]),ff,(sL [(w 1)]),(sL [(w 4)]),ff,(sL [(w 1)]),(sL [(w 4)])] 4),(.sl [ff,(sL [(w 10)]),(sL []),ff,(sL [(w 9)]),(sL []),ff,(sL []),(sL []),ff,(sL [(w 1)]),(sL [])] 4)]
noncomputable def et5:T:=(.tu [(.ag [ff,(sL [(w 5)]),(sL [])]),(i 0)])
theorem er5:yC Tryz.prog (evC Tryz.prog noS (orF Tryz.prog (kK eb4) pfs) 1000) 0 70 ea5=some (et5,true):=by kernel_rfl
noncomputable def eb5:List (Nat×(List T→Option (T×Bool))):=(70,aR ea5 (et5,true))::eb4
theorem eo5:qF Tryz.prog (kK eb5):=qF.cons eo4 (vV (by kernel_rfl) vX eo4 pfs er5) (by kernel_rfl)
noncomputable def ea6:List T:=[(.sl [ff,(sL [(w 1)]),(sL [(w 4)]),ff,(sL [(w 1)]),(sL [(w 4)]),ff,(sL [(w 1)]),(sL [(w 4)]),ff,(sL [(w 1)]),(sL [(w 4)])] 4),(.sl [ff,(sL [(w 11)]),(sL []),ff,(sL [(w 10)]),(sL []),ff,(sL [(w 1)]),(sL []),ff,(sL [(w 2)]),(sL [])] 4)]
noncomputable def et6:T:=(.tu [(.ag [ff,(sL [(w 6)]),(sL [])]),(i 0)])
theorem er6:yC Tryz.prog (evC Tryz.prog noS (orF Tryz.prog (kK eb5) pfs) 1000) 0 70 ea6=some (et6,true):=by kernel_rfl
noncomputable def eb6:List (Nat×(List T→Option (T×Bool))):=(70,aR ea6 (et6,true))::eb5
theorem eo6:qF Tryz.prog (kK eb6):=qF.cons eo5 (vV (by kernel_rfl) vX eo5 pfs er6) (by kernel_rfl)
noncomputable def ea7:List T:=[(.ag [(sL [(i (-100)),(i 0),(i 100)]),(sL [(i 0),(i 10)]),(sL [(i 0)]),(.sl [(.v (.int .u8 0)),(i 0),(i 0),(.v (.int .u8 1)),(i 10),(i 20)] 2),(i 5),(i 50),(i 1),(.sl [(i 0),ff,(sL [(w 1)]),(sL [])] 1),(.sl [(i 0),ff,(sL [(w 1)]),(sL [])] 1),ff,(sL [(w 1)]),(sL [(w 10)]),ff,nl,nl,ff,nl,nl,(i 10),(sL [(sL [(i 0),(i 1)]),(sL [(i 10),(i 11)]),(sL [(i 9),(i 10)]),(sL [(i 1),(i 2)])]),(sL [(sL [(i 0),(i 0),(i 0),(i 0),(i 1),(i 1),(i 2),(i 2),(i 0),(i 0),(i 3),(i 3)])])]),(i 1),(i 50),(i 5),(i 0),(i 0)]
noncomputable def et7:T:=(.tu [(.sl [ff,(sL [(w 1)]),(sL [(w 2)]),ff,(sL [(w 3)]),(sL [(w 5)])] 2),(i 0)])
theorem er7:yC Tryz.prog (evC Tryz.prog noS (orF Tryz.prog (kK eb6) pfs) 1000) 0 32 ea7=some (et7,true):=by kernel_rfl
noncomputable def eb7:List (Nat×(List T→Option (T×Bool))):=(32,aR ea7 (et7,true))::eb6
theorem eo7:qF Tryz.prog (kK eb7):=qF.cons eo6 (vV (by kernel_rfl) vX eo6 pfs er7) (by kernel_rfl)
noncomputable def ea8:List T:=[(sL [(sL [(i (-100)),(i 0),(i 100)]),(sL [(i 0),(i 10)]),(sL [(i 0)])]),(sL [(i 100),(i 10),(i 0)])]
noncomputable def et8:T:=(.tu [(.sl [(i 5),ff,(sL [(w 1)]),(sL [])] 1),(i 0)])
theorem er8:yC Tryz.prog (evC Tryz.prog noS (orF Tryz.prog (kK eb7) pfs) 1000) 0 78 ea8=some (et8,true):=by kernel_rfl
noncomputable def eb8:List (Nat×(List T→Option (T×Bool))):=(78,aR ea8 (et8,true))::eb7
theorem eo8:qF Tryz.prog (kK eb8):=qF.cons eo7 (vV (by kernel_rfl) vX eo7 pfs er8) (by kernel_rfl)
noncomputable def ea9:List T:=[(.ag [(sL [(i (-100)),(i 0),(i 100)]),(sL [(i 0),(i 10)]),(sL [(i 0)]),(.sl [(.v (.int .u8 0)),(i 0),(i 0),(.v (.int .u8 1)),(i 10),(i 20)] 2),(i 5),(i 50),(i 1),(.sl [(i 0),ff,(sL [(w 1)]),(sL [])] 1),(.sl [(i 0),ff,(sL [(w 1)]),(sL [])] 1),ff,(sL [(w 1)]),(sL [(w 10)]),ff,nl,nl,ff,nl,nl,(i 10),(sL [(sL [(i 0),(i 1)]),(sL [(i 10),(i 11)]),(sL [(i 9),(i 10)]),(sL [(i 1),(i 2)])]),(sL [(sL [(i 0),(i 0),(i 0),(i 0),(i 1),(i 1),(i 2),(i 2),(i 0),(i 0),(i 3),(i 3)])])]),(i 1),(i 100),(i 10),(i 0),(i 0)]
noncomputable def et9:T:=(.tu [(.sl [ff,(sL [(w 1)]),(sL [(w 10)]),ff,(sL [(w 1)]),(sL [(w 5)])] 2),(i 0)])
theorem er9:yC Tryz.prog (evC Tryz.prog noS (orF Tryz.prog (kK eb8) pfs) 1000) 0 32 ea9=some (et9,true):=by kernel_rfl
noncomputable def eb9:List (Nat×(List T→Option (T×Bool))):=(32,aR ea9 (et9,true))::eb8
theorem eo9:qF Tryz.prog (kK eb9):=qF.cons eo8 (vV (by kernel_rfl) vX eo8 pfs er9) (by kernel_rfl)
noncomputable def ea10:List T:=[(.ag [(sL [(i (-100)),(i 0),(i 100)]),(sL [(i 0),(i 10)]),(sL [(i 0)]),(.sl [(.v (.int .u8 0)),(i 0),(i 0),(.v (.int .u8 1)),(i 10),(i 20)] 2),(i 5),(i 50),(i 1),(.sl [(i 0),ff,(sL [(w 1)]),(sL [])] 1),(.sl [(i 0),ff,(sL [(w 1)]),(sL [])] 1),ff,(sL [(w 1)]),(sL [(w 10)]),ff,nl,nl,ff,nl,nl,(i 10),(sL [(sL [(i 0),(i 1)]),(sL [(i 10),(i 11)]),(sL [(i 9),(i 10)]),(sL [(i 1),(i 2)])]),(sL [(sL [(i 0),(i 0),(i 0),(i 0),(i 1),(i 1),(i 2),(i 2),(i 0),(i 0),(i 3),(i 3)])])]),(i 1),(.sl [(i 50),(i 5),(i 0),ff,(sL [(w 1)]),(sL [(w 2)]),(i 100),(i 10),(i 0),ff,(sL [(w 1)]),(sL [(w 2)])] 2),(i 0)]
noncomputable def et10:T:=(.tu [(.sl [ff,(sL [(w 3)]),(sL [(w 10)]),ff,(sL [(w 2)]),(sL [(w 5)])] 2),(i 0)])
theorem er10:yC Tryz.prog (evC Tryz.prog noS (orF Tryz.prog (kK eb9) pfs) 1000) 0 22 ea10=some (et10,true):=by kernel_rfl
noncomputable def qMz:List (Nat×(List T→Option (T×Bool))):=(22,aR ea10 (et10,true))::eb9
theorem eo10:qF Tryz.prog (kK qMz):=qF.cons eo9 (vV (by kernel_rfl) vX eo9 pfs er10) (by kernel_rfl)
noncomputable def ea11:List T:=[(.ag [(sL [(i (-100)),(i 0),(i 100)]),(sL [(i 0),(i 10)]),(sL [(i 0)]),(.sl [(.v (.int .u8 0)),(i 0),(i 0),(.v (.int .u8 1)),(i 10),(i 20)] 2),(i 5),(i 50),(i 1),(.sl [(i 0),ff,(sL [(w 1)]),(sL [])] 1),(.sl [(i 0),ff,(sL [(w 1)]),(sL [])] 1),ff,(sL [(w 1)]),(sL [(w 10)]),ff,nl,nl,ff,nl,nl,(i 10),(sL [(sL [(i 0),(i 1)]),(sL [(i 10),(i 11)]),(sL [(i 9),(i 10)]),(sL [(i 1),(i 2)])]),(sL [(sL [(i 0),(i 0),(i 0),(i 0),(i 1),(i 1),(i 2),(i 2),(i 0),(i 0),(i 3),(i 3)])])]),(i 1),(.sl [(i 50),(i 5),(i 0),ff,(sL [(w 1)]),(sL [(w 2)]),(i 100),(i 10),(i 0),ff,(sL [(w 1)]),(sL [(w 2)])] 2),(i 0),(.ag [ff,(sL [(w 1)]),(sL [(w 100)]),ff,(sL [(w 1)]),(sL [(w 20)]),ff,(sL [(w 1)]),(sL [(w 50)])]),(.v (.int .u8 1))]
noncomputable def et11:T:=(.tu [(.sl [ff,(sL [(w 3)]),(sL [(w 10)]),ff,(sL [(w 23)]),(sL [(w 50)])] 2),(i 0)])
theorem er11:yC Tryz.prog (evC Tryz.prog noS (orF Tryz.prog (kK qMz) pfs) 1000) 0 23 ea11=some (et11,true):=by kernel_rfl
noncomputable def eb11:List (Nat×(List T→Option (T×Bool))):=(23,aR ea11 (et11,true))::qMz
theorem eo11:qF Tryz.prog (kK eb11):=qF.cons eo10 (vV (by kernel_rfl) vX eo10 pfs er11) (by kernel_rfl)
noncomputable def ea12:List T:=[]
noncomputable def et12:T:=tt
theorem er12:yC Tryz.prog (evC Tryz.prog noS (orF Tryz.prog (kK eb11) pfs) 1000) 0 16 ea12=some (et12,true):=by kernel_rfl
theorem qRw:KnP Tryz.prog 0 16 [] (.v (.bool true)) true:=vV (by kernel_rfl) vX eo11 pfs er12
end Go.Proofs.YtdfmdiakjdggbaaGreatDoor
namespace Go.Proofs.YtdfmdiakjdggbaaGreatDoor
open Go Go.Gv Go.Ev Go.RowKit IntKind
noncomputable abbrev pT:Ty:= .prod (.int .i64) (.prod (.int .i64) (.int .i64))
noncomputable abbrev wT:Ty:= .prod pT yF
abbrev Rt:=Ty.den yF
abbrev Pt:=Ty.den pT
abbrev Wt:=Ty.den wT
abbrev rw'(x:Rt):Raw:=⟨x.1,x.2.1,x.2.2⟩
noncomputable abbrev toT(a:Raw):Rt:=(a.neg,a.ln,a.ld)
noncomputable abbrev pC(p:Pt):List T:=[.v (.int .i64 p.1),.v (.int .i64 p.2.1),.v (.int .i64 p.2.2)]
noncomputable abbrev rC(a:Raw):List T:=[.v (.bool a.neg),.ls .a .lim a.ln,.ls .a .lim a.ld]
abbrev rrT:=List (Nat×(List T→DT (T×Bool)))
theorem mF:Tryz.prog.follows .mixedOrders=true:=by kernel_rfl
noncomputable abbrev yI(n:Int):Option (T×Bool):=some (.v (.int .i64 n),true)
noncomputable abbrev yB(b:Bool):Option (T×Bool):=some (.v (.bool b),true)
noncomputable def cmI(a b:Int):Int:=bif ilt a b then -1 else(bif ilt b a then 1 else 0)
theorem eCc(a b:Int):((xQ Tryz.prog (evD Tryz.prog (odT []) (loT []) 60) 171 [.v (.int .i64 a),.v (.int .i64 b)] []).bind vW).run=bif !ieq a a then(bif !ieq b b then yI 0 else yI (-1))else(bif !ieq b b then yI 1 else(bif ilt a b then yI (-1)else(bif ilt b a then yI 1 else yI 0))):=by kernel_rfl
noncomputable def oCc:List T→DT (T×Bool)
 | [.v (.int .i64 a),.v (.int .i64 b)]=> .ret (.v (.int .i64 (cmI a b)),true)
 | _=> .no
theorem kCc:∀az tv nw,(oCc az).run=some (tv,nw)→∀k,KnP Tryz.prog k 171 az tv nw:=by
 intro az tv nw h k;unfold oCc at h;split at h
 ·rename_i a b;cases h;have q:((xQ Tryz.prog (evD Tryz.prog (odT []) (loT []) 60) 171 [.v (.int .i64 a),.v (.int .i64 b)] []).bind vW).run=yI (cmI a b):=by
   rw[eCc,yJ rfl,yJ rfl];unfold cmI;cases ilt a b<;>cases ilt b a<;>rfl
  exact rO (cz:=[.v (.int .i64 a),.v (.int .i64 b)]) mF wV kW q rfl k
 ·cases h
noncomputable abbrev O1':Od:=odT [(171,oCc)]
theorem qOs:mH Tryz.prog O1':=jG wV kCc
noncomputable def cpP(p q:Pt):Int:=bif !ieq (cmI p.1 q.1) 0 then cmI p.1 q.1 else(bif !ieq (cmI p.2.1 q.2.1) 0 then cmI p.2.1 q.2.1 else(bif !ieq (cmI p.2.2 q.2.2) 0 then cmI p.2.2 q.2.2 else 0))
theorem eCp(p q:Pt):((xQ Tryz.prog (evD Tryz.prog (O1') (loT []) 60) 95 [.ag (pC p),.ag (pC q)] []).bind vW).run=bif !ieq (cmI p.1 q.1) 0 then yI (cmI p.1 q.1)else(bif !ieq (cmI p.2.1 q.2.1) 0 then yI (cmI p.2.1 q.2.1)else(bif !ieq (cmI p.2.2 q.2.2) 0 then yI (cmI p.2.2 q.2.2)else yI 0)):=by kernel_rfl
noncomputable def oCp:List T→DT (T×Bool)
 | [.ag [.v (.int .i64 a),.v (.int .i64 b),.v (.int .i64 c)],.ag [.v (.int .i64 a2),.v (.int .i64 b2),.v (.int .i64 c2)]]=> .ret (.v (.int .i64 (cpP (a,b,c) (a2,b2,c2))),true)
 | _=> .no
theorem kCp:∀az tv nw,(oCp az).run=some (tv,nw)→∀k,KnP Tryz.prog k 95 az tv nw:=by
 intro az tv nw h k;unfold oCp at h;split at h
 ·rename_i a b c a2 b2 c2;cases h;have g:∀p q:Pt,((xQ Tryz.prog (evD Tryz.prog (O1') (loT []) 60) 95 [.ag (pC p),.ag (pC q)] []).bind vW).run=yI (cpP p q):=fun p q=>by
   rw[eCp];unfold cpP;cases ieq (cmI p.1 q.1) 0<;>cases ieq (cmI p.2.1 q.2.1) 0<;>cases ieq (cmI p.2.2 q.2.2) 0<;>rfl
  exact rO (cz:=[.ag (pC (a,b,c)),.ag (pC (a2,b2,c2))]) mF qOs kW (g (a,b,c) (a2,b2,c2)) rfl k
 ·cases h
noncomputable def zGo(p:Pt):Bool:=ilt p.1 (-200000)||(ilt 200000 p.1||(ilt p.2.1 (-100)||(ilt 100 p.2.1||(ilt p.2.2 (-100)||ilt 100 p.2.2))))
theorem eCk(p:Pt)(b:Bool)(l m:List Nat):((xQ Tryz.prog (evD Tryz.prog (odT []) (loT []) 60) 94 [.ag (pC p++rC ⟨b,l,m⟩)] []).bind vW).run=bif ilt p.1 (-200000)then yI 7 else(bif ilt 200000 p.1 then yI 7 else(bif ilt p.2.1 (-100)then yI 7 else(bif ilt 100 p.2.1 then yI 7 else(bif ilt p.2.2 (-100)then yI 7 else(bif ilt 100 p.2.2 then yI 7 else yI 0))))):=by kernel_rfl
noncomputable def oCk:List T→DT (T×Bool)
 | [.ag [.v (.int .i64 a),.v (.int .i64 b),.v (.int .i64 c),.v (.bool s),.ls .a .lim l,.ls .a .lim m]]=> .ret (.v (.int .i64 (bif zGo (a,b,c)then 7 else 0)),true)
 | _=> .no
theorem kCk:∀az tv nw,(oCk az).run=some (tv,nw)→∀k,KnP Tryz.prog k 94 az tv nw:=by
 intro az tv nw h k;unfold oCk at h;split at h
 ·rename_i a b' c b l m;cases h;have g:∀p:Pt,((xQ Tryz.prog (evD Tryz.prog (odT []) (loT []) 60) 94 [.ag (pC p++rC ⟨b,l,m⟩)] []).bind vW).run=yI (bif zGo p then 7 else 0):=fun p=>by
   rw[eCk];unfold zGo;cases ilt p.1 (-200000)<;>cases ilt 200000 p.1<;>cases ilt p.2.1 (-100)<;>cases ilt 100 p.2.1<;>cases ilt p.2.2 (-100)<;>cases ilt 100 p.2.2<;>rfl
  exact rO (cz:=[.ag (pC (a,b',c)++rC ⟨b,l,m⟩)]) mF wV kW (g (a,b',c)) rfl k
 ·cases h
noncomputable def leP(p q:Pt):Bool:=bif !ieq p.1 q.1 then ilt p.1 q.1 else(bif !ieq p.2.1 q.2.1 then ilt p.2.1 q.2.1 else ilt p.2.2 q.2.2)
theorem eLs(p q:Pt):((xQ Tryz.prog (evD Tryz.prog (odT []) (loT []) 60) 167 [.ag (pC p),.ag (pC q)] []).bind vW).run=bif !ieq p.1 q.1 then yB (ilt p.1 q.1)else(bif !ieq p.2.1 q.2.1 then yB (ilt p.2.1 q.2.1)else yB (ilt p.2.2 q.2.2)):=by kernel_rfl
noncomputable def oLs:List T→DT (T×Bool)
 | [.ag [.v (.int .i64 a),.v (.int .i64 b),.v (.int .i64 c)],.ag [.v (.int .i64 a2),.v (.int .i64 b2),.v (.int .i64 c2)]]=> .ret (.v (.bool (leP (a,b,c) (a2,b2,c2))),true)
 | _=> .no
theorem kLs:∀az tv nw,(oLs az).run=some (tv,nw)→∀k,KnP Tryz.prog k 167 az tv nw:=by
 intro az tv nw h k;unfold oLs at h;split at h
 ·rename_i a b c a2 b2 c2;cases h;have g:∀p q:Pt,((xQ Tryz.prog (evD Tryz.prog (odT []) (loT []) 60) 167 [.ag (pC p),.ag (pC q)] []).bind vW).run=yB (leP p q):=fun p q=>by
   rw[eLs];unfold leP;cases ieq p.1 q.1<;>cases ieq p.2.1 q.2.1<;>rfl
  exact rO (cz:=[.ag (pC (a,b,c)),.ag (pC (a2,b2,c2))]) mF wV kW (g (a,b,c) (a2,b2,c2)) rfl k
 ·cases h
noncomputable def qOq(ck:Raw→Int)(ad su mu:Raw→Raw→Raw)(ae se me:Raw→Raw→Int)(cm ce:Raw→Raw→Int)(fr:Int→Raw)(eqB:Raw→Raw→Bool):rrT:=[(75,kcD (pR ck) true),(34,kcD (pRR fun a b=>some (ad a b,ae a b)) true),(48,kcD (pRR fun a b=>some (su a b,se a b)) true),(49,kcD (pRR fun a b=>some (mu a b,me a b)) true),(33,kcD (pRI fun a b=>(cm a b,ce a b)) true),(47,kcD (pI fr) true),(37,kcD (pB eqB) true)]
noncomputable def Lb0:Lp:=⟨0,
 ⟨[.h]++(us' 22++([.h,.h,.h]++(us' 71))),[]⟩,
 ⟨[.h]++(us' 96),[]⟩,
 ⟨[.u,.u,.h]++(us' 94),[]⟩⟩
noncomputable abbrev qJq:Code:=lpc Tryz.prog 46 [false,true,false,true,true]
theorem qLk:cAt Tryz.prog 46 [false,true,false,true,true]=some (.loop qJq):=by kernel_rfl
noncomputable abbrev zSg(OD:Od)(LO:Lo):Hs→Option (Hs⊕(Ex×Hs)):=Lb0.stp (evD Tryz.prog OD LO 60) 46 [false,true,false,true,true] qJq
noncomputable def Lb1:Lp:=⟨2,
 ⟨us' 7++([.t (.fn 172 [.op 1 0,.op 0 0]),.t (.fn 173 [.op 1 0,.op 0 0])]++(us' 61++([.h,.h,.h]++(us' 24)))),[.r [.h,.h,.h] 28,.r [.h] 46]⟩,
 ⟨us' 8++([.t (.fn 173 [.op 1 0,.op 0 0])]++(us' 88)),[.r [.h,.h,.h] 28,.r [.h] 46]⟩,
 ⟨[.u,.u,.h]++(us' 94),[.g,.g]⟩⟩
noncomputable abbrev qJr:Code:=lpc Tryz.prog 46 [false,true,false,true,true,true,true]
theorem qLl:cAt Tryz.prog 46 [false,true,false,true,true,true,true]=some (.loop qJr):=by kernel_rfl
noncomputable abbrev zSh(OD:Od)(LO:Lo):Hs→Option (Hs⊕(Ex×Hs)):=Lb1.stp (evD Tryz.prog OD LO 60) 46 [false,true,false,true,true,true,true] qJr
noncomputable def iB0(l:List Wt)(k i:Nat):Hs:=⟨[.ls .a wT l,.ls .a wT l,.v (.int .i64 (.ofNat k)),.v (.int .i64 (.ofNat i))],[],[]⟩
noncomputable abbrev rN(a:Raw):List T:=[.v (.bool a.neg),.ls .n .lim a.ln,.ls .n .lim a.ld]
noncomputable def iB1(l:List Wt)(k i:Nat)(t:Raw)(e:Int):Hs:=⟨[.ls .a wT l,.v (.int .i64 (.ofNat k)),.v (.int .i64 (.ofNat i))],[],[rN t,[.v (.int .i64 e)]]⟩
noncomputable abbrev St':=Option (Hs⊕(Ex×Hs))
noncomputable def nx{α:Type}(i:Nat)(x:α):Option α:=bif Nat.blt (i+1) 9223372036854775808 then some x else none
theorem zCc{α:Type}{i:Nat}{x:α}(h:i+1<9223372036854775808):nx i x=some x:=by
 unfold nx;rw[yP h];rfl
noncomputable abbrev wA(l:List Wt)(i:Nat):Wt:=nth wT.zero l i
noncomputable abbrev qCw(e:Int):St':=some (.inr (.r,⟨[.v (.int .i64 e)],[],[]⟩))
section
variable (ck:Raw→Int)(ad su mu:Raw→Raw→Raw)(ae se me:Raw→Raw→Int)(cm ce:Raw→Raw→Int)(fr:Int→Raw)(eqB:Raw→Raw→Bool)
noncomputable abbrev OB:Od:=odT ((95,odR [pT,pT] oCp)::(94,odR [wT] oCk)::qOq ck ad su mu ae se me cm ce fr eqB)
noncomputable abbrev b0K(x:Wt)(k:St'):St':=bif !ieq (ck (rw' x.2)) 0 then qCw (ck (rw' x.2))else(bif x.2.1 then qCw 1 else(bif ieq (.ofNat x.2.2.1.length) 0 then qCw 1 else k))
noncomputable abbrev pr(i:Nat):Int:=Int.sub (.ofNat i) 1
theorem sB0(l:List Wt)(k i:Nat):zSg (OB ck ad su mu ae se me cm ce fr eqB) (loT []) (iB0 l k i)=bif Nat.blt i k then(bif Nat.blt i l.length then(bif !ieq (bif zGo (wA l i).1 then 7 else 0) 0 then qCw (bif zGo (wA l i).1 then 7 else 0)else(bif ilt 0 (.ofNat i)then(bif inW (pr i)then(bif nng (pr i)then(bif Nat.blt (pr i).toNat l.length then(bif ilt 0 (.ofNat i)then(bif !ilt (cpP (wA l (pr i).toNat).1 (wA l i).1) 0 then qCw 2 else b0K ck (wA l i) (nx i (.inl (iB0 l k (i+1)))))else b0K ck (wA l i) (nx i (.inl (iB0 l k (i+1)))))else none)else none)else none)else(bif ilt 0 (.ofNat i)then none else b0K ck (wA l i) (nx i (.inl (iB0 l k (i+1)))))))else none)else some (.inr (.x 1,⟨[.ls .a wT l],[],[]⟩)):=by kernel_rfl
noncomputable def gB0(l:List Wt)(i:Nat)(_:Unit):Unit⊕Option Int:=bif zGo (wA l i).1 then .inr (some 7)else(bif ilt 0 (.ofNat i)&&!ilt (cpP (wA l (i-1)).1 (wA l i).1) 0 then .inr (some 2)else(bif !ieq (ck (rw' (wA l i).2)) 0 then .inr (some (ck (rw' (wA l i).2)))else(bif(wA l i).2.1||ieq (.ofNat (wA l i).2.2.1.length) 0 then .inr (some 1)else .inl ())))
noncomputable def b0F(l:List Wt):Option Int:=fol (gB0 ck l) (fun _=>none) l.length 0 ()
noncomputable def qCv(l:List Wt):Option Int→Ex×Hs
 | none=>(.x 1,⟨[.ls .a wT l],[],[]⟩)
 | some e=>(.r,⟨[.v (.int .i64 e)],[],[]⟩)
theorem lpB0(l:List Wt)(h9:l.length<9223372036854775807):lpF (zSg (OB ck ad su mu ae se me cm ce fr eqB) (loT [])) l.length (iB0 l l.length 0)=some (qCv l (b0F ck l)):=
 wH (iv:=fun i(_:Unit)=>iB0 l l.length i) (g:=gB0 ck l) (d:=fun _=>none) (out:=qCv l) (n:=l.length) (fun _ _=>True)
  (fun i _ hi _=>by
   rw[sB0];unfold gB0;simp only[b0K,yP hi,cond_true,zCc (show i+1<9223372036854775808 by omega)]
   cases i with
   | zero=>
    have e:ilt 0 (.ofNat 0)=false:=rfl;rw[e];cases zGo (wA l 0).1<;>cases ieq (ck (rw' (wA l 0).2)) 0<;>cases(wA l 0).2.1<;>cases ieq (.ofNat (wA l 0).2.2.1.length) 0<;>rfl
   | succ i=>
    have e:ilt 0 (.ofNat (i+1))=true:=rfl;have e2:pr (i+1)= .ofNat i:=by show((i+1:Nat):Int)-1=(i:Int);omega
    have e3:inW (.ofNat i)=true:=yP (show i<9223372036854775808 by omega)
    rw[e,e2,e3];have e4:(Int.ofNat i).toNat=i:=rfl;rw[e4];simp only[nng,yP (show i<l.length by omega),cond_true,Nat.add_sub_cancel]
    cases zGo (wA l (i+1)).1<;>cases ilt (cpP (wA l i).1 (wA l (i+1)).1) 0<;>cases ieq (ck (rw' (wA l (i+1)).2)) 0<;>cases(wA l (i+1)).2.1<;>cases ieq (.ofNat (wA l (i+1)).2.2.1.length) 0<;>rfl)
  (fun _ _ _ _ _ _=>trivial)
  (fun _ _=>by rw[sB0];simp only[sI (Nat.le_refl _),cond_false];rfl) l.length 0 () (by omega) trivial
theorem sB1(l:List Wt)(k i:Nat)(t:Raw)(e:Int):zSh (OB ck ad su mu ae se me cm ce fr eqB) (loT []) (iB1 l k i t e)=bif Nat.blt i k then(bif Nat.blt i l.length then(bif ieq e 0 then(bif ieq e 0 then nx i (.inl (iB1 l k (i+1) (ad t (rw' (wA l i).2)) (ae t (rw' (wA l i).2))))else nx i (.inl (iB1 l k (i+1) t e)))else(bif ieq e 0 then nx i (.inl (iB1 l k (i+1) (ad t (rw' (wA l i).2)) (ae t (rw' (wA l i).2))))else nx i (.inl (iB1 l k (i+1) t e))))else none)else some (.inr (.x 3,⟨[],[],[rN t,[.v (.int .i64 e)]]⟩)):=by kernel_rfl
noncomputable def gB1(l:List Wt)(i:Nat)(a:Raw×Int):(Raw×Int)⊕(Raw×Int):= .inl (bif ieq a.2 0 then(ad a.1 (rw' (wA l i).2),ae a.1 (rw' (wA l i).2))else a)
noncomputable def b1F(l:List Wt):Raw×Int:=fol (gB1 ad ae l) id l.length 0 (fr 0,0)
theorem lpB1(l:List Wt)(h9:l.length<9223372036854775807):lpF (zSh (OB ck ad su mu ae se me cm ce fr eqB) (loT [])) l.length (iB1 l l.length 0 (fr 0) 0)=some (.x 3,⟨[],[],[rN (b1F ad ae fr l).1,[.v (.int .i64 (b1F ad ae fr l).2)]]⟩):=
 wH (iv:=fun i(a:Raw×Int)=>iB1 l l.length i a.1 a.2) (g:=gB1 ad ae l) (d:=id) (out:=fun a=>(.x 3,⟨[],[],[rN a.1,[.v (.int .i64 a.2)]]⟩)) (n:=l.length) (fun _ _=>True)
  (fun i a hi _=>by
   rw[sB1];unfold gB1;simp only[yP hi,cond_true,zCc (show i+1<9223372036854775808 by omega)]
   cases ieq a.2 0<;>rfl)
  (fun _ _ _ _ _ _=>trivial)
  (fun _ _=>by rw[sB1];simp only[sI (Nat.le_refl _),cond_false];rfl) l.length 0 (fr 0,0) (by omega) trivial
noncomputable def qLg:Sh:=⟨.x 1,[.l .a wT],[],[]⟩
noncomputable def qLf:Sh:=⟨.r,[.i .i64],[],[]⟩
noncomputable def shB1:Sh:=⟨.x 3,[],[],[[.b,.l .n .lim,.l .n .lim],[.i .i64]]⟩
noncomputable abbrev LB:Lo:=loT [(46,[false,true,false,true,true],Lb0.row (lpR (zSg (OB ck ad su mu ae se me cm ce fr eqB) (loT [])) (fun q=>lnO (nth .u q.hs 2)) [qLg,qLf])),(46,[false,true,false,true,true,true,true],Lb1.row (lpR (zSh (OB ck ad su mu ae se me cm ce fr eqB) (loT [])) (fun q=>lnO (nth .u q.hs 1)) [shB1]))]
noncomputable abbrev qMp(t:Raw):Option (T×Bool):=bif !ieq (cm t (fr 1)) 0 then yI 16 else yI 0
noncomputable abbrev gd{α:Type}(b:Bool)(x:Option α):Option α:=bif b then x else none
noncomputable abbrev bcT(t:Raw)(e:Int):Option (T×Bool):=bif !ieq e 0 then gd (ieq e e&&true) (gd (ieq e e&&true) (gd (ieq e e&&true) (bif !ieq e 0 then yI e else qMp cm fr ⟨false,[],[]⟩)))else qMp cm fr t
noncomputable abbrev bc1(y:Option (Ex×Hs)):Option (T×Bool):=bif shT shB1 y then bcT cm fr ⟨bOf (hdT ((hsO y).ks.headD [])),lOf .lim (hdT ((hsO y).ks.headD []).tail),lOf .lim (hdT ((hsO y).ks.headD []).tail.tail)⟩ (iOf (hdT ((hsO y).ks.tail.headD [])))else none
noncomputable abbrev y1B(l:List Wt):Option (Ex×Hs):=lpF (zSh (OB ck ad su mu ae se me cm ce fr eqB) (loT [])) l.length (iB1 l l.length 0 (fr 0) 0)
noncomputable abbrev bc0(y:Option (Ex×Hs)):Option (T×Bool):=bif shT qLg y then bc1 cm fr (y1B ck ad su mu ae se me cm ce fr eqB (lOf wT (hdT (hsO y).hs)))else(bif shT qLf y then yI (iOf (hdT (hsO y).hs))else none)
theorem eBc(l:List Wt):((xQ Tryz.prog (evD Tryz.prog (OB ck ad su mu ae se me cm ce fr eqB) (LB ck ad su mu ae se me cm ce fr eqB) 60) 46 [.ls .a wT l] []).bind vW).run=bif Nat.beq l.length 0 then yI 3 else(bif Nat.blt 4096 l.length then yI 4 else bc0 ck ad su mu ae se me cm ce fr eqB (lpF (zSg (OB ck ad su mu ae se me cm ce fr eqB) (loT [])) l.length (iB0 l l.length 0))):=by kernel_rfl
noncomputable def bcE(l:List Wt):Int:=bif Nat.beq l.length 0 then 3 else(bif Nat.blt 4096 l.length then 4 else(match b0F ck l with
 | some e=>e
 | none=>bif !ieq (b1F ad ae fr l).2 0 then(b1F ad ae fr l).2 else(bif !ieq (cm (b1F ad ae fr l).1 (fr 1)) 0 then 16 else 0)))
theorem qMh(l:List Wt):((xQ Tryz.prog (evD Tryz.prog (OB ck ad su mu ae se me cm ce fr eqB) (LB ck ad su mu ae se me cm ce fr eqB) 60) 46 [.ls .a wT l] []).bind vW).run=yI (bcE ck ad ae cm fr l):=by
 rw[eBc];unfold bcE;cases h1:Nat.beq l.length 0 with
 | true=>rfl
 | false=>
  cases h2:Nat.blt 4096 l.length with
  | true=>rfl
  | false=>
   have h9:l.length<9223372036854775807:=by
    rcases Nat.lt_or_ge 4096 l.length with g | g
    ·rw[yP g]at h2;cases h2
    ·omega
   simp only[cond_false];rw[lpB0 ck ad su mu ae se me cm ce fr eqB l h9];cases b0F ck l with
   | some e=>rfl
   | none=>
    have e1:bc0 ck ad su mu ae se me cm ce fr eqB (some (qCv l none))=bc1 cm fr (y1B ck ad su mu ae se me cm ce fr eqB l):=rfl;rw[e1];show bc1 cm fr (y1B ck ad su mu ae se me cm ce fr eqB l)=_;unfold y1B;rw[lpB1 ck ad su mu ae se me cm ce fr eqB l h9];show bcT cm fr (b1F ad ae fr l).1 (b1F ad ae fr l).2=_;cases h3:ieq (b1F ad ae fr l).2 0 with
    | true=>simp only[bcT,qMp,h3,Bool.not_true,cond_false];cases ieq (cm (b1F ad ae fr l).1 (fr 1)) 0<;>rfl
    | false=>simp only[bcT,h3,yJ rfl,gd,Bool.and_self,Bool.not_false,cond_true]
end
noncomputable def Lpt:Lp:=⟨0,
 ⟨[.h,.h,.u,.u,.a .n pT 61]++(us' 73),[]⟩,
 ⟨us' 4++([.a .n pT 61]++(us' 73)),[]⟩,
 ⟨us' 4++([.h]++(us' 73)),[]⟩⟩
noncomputable abbrev qJv:Code:=lpc Tryz.prog 92 [false,false,true]
theorem qLr:cAt Tryz.prog 92 [false,false,true]=some (.loop qJv):=by kernel_rfl
noncomputable abbrev qRi(OD:Od)(LO:Lo):Hs→Option (Hs⊕(Ex×Hs)):=Lpt.stp (evD Tryz.prog OD LO 60) 92 [false,false,true] qJv
noncomputable def iPt(a b:List Wt)(o:List Pt):Hs:=⟨[.ls .a wT a,.ls .a wT b],[.ls .n pT o],[]⟩
noncomputable abbrev ap(o:List Pt)(x:St'):St':=gd (Nat.ble (o.length+1+1) 9382499223534) (gd (Nat.beq (o.length+1) (o.length+1)) x)
noncomputable abbrev aq(o:List Pt)(x:St'):St':=gd (Nat.beq (o.length+1+1) (o.length+1+1)) x
noncomputable abbrev lq{α:Type}(a:List α)(x:St'):St':=gd (Nat.ble (a.length+1) (a.length+1)) x
noncomputable abbrev OP:Od:=odT [(167,odR [pT,pT] oLs)]
theorem qCi:mH Tryz.prog OP:=jG wV (sN kLs)
noncomputable abbrev st3:=qRi OP (loT [])
noncomputable abbrev tk(a:List Wt):List Wt:=a.take a.length
theorem qQk:st3 (iPt [] [] [])=some (.inr (.x 0,⟨[],[.ls .n pT []],[]⟩)):=by kernel_rfl
theorem qQj(p:Pt)(o:List Pt):st3 (iPt [] [] (p::o))=gd (Nat.beq (o.length+1) (o.length+1)) (some (.inr (.x 0,⟨[],[.ls .n pT (p::o)],[]⟩))):=by kernel_rfl
theorem qQg(x:Wt)(a:List Wt):st3 (iPt (x::a) [] [])=lq a (some (.inl (iPt (tk a) [] [x.1]))):=by kernel_rfl
theorem qQf(x:Wt)(a:List Wt)(p:Pt)(o:List Pt):st3 (iPt (x::a) [] (p::o))=ap o (lq a (aq o (some (.inl (iPt (tk a) [] (x.1::p::o)))))):=by kernel_rfl
theorem qQi(y:Wt)(b:List Wt):st3 (iPt [] (y::b) [])=lq b (some (.inl (iPt [] (tk b) [y.1]))):=by kernel_rfl
theorem qQh(y:Wt)(b:List Wt)(p:Pt)(o:List Pt):st3 (iPt [] (y::b) (p::o))=ap o (lq b (aq o (some (.inl (iPt [] (tk b) (y.1::p::o)))))):=by kernel_rfl
theorem qSl(x y:Wt)(a b:List Wt):st3 (iPt (x::a) (y::b) [])=bif leP x.1 y.1 then lq a (some (.inl (iPt (tk a) (y::b) [x.1])))else(bif leP y.1 x.1 then lq b (some (.inl (iPt (x::a) (tk b) [y.1])))else lq a (lq b (some (.inl (iPt (tk a) (tk b) [x.1]))))):=by kernel_rfl
theorem qSk(x y:Wt)(a b:List Wt)(p:Pt)(o:List Pt):st3 (iPt (x::a) (y::b) (p::o))=bif leP x.1 y.1 then ap o (lq a (aq o (some (.inl (iPt (tk a) (y::b) (x.1::p::o))))))else(bif leP y.1 x.1 then ap o (lq b (aq o (some (.inl (iPt (x::a) (tk b) (y.1::p::o))))))else ap o (lq a (lq b (aq o (some (.inl (iPt (tk a) (tk b) (x.1::p::o)))))))):=by kernel_rfl
noncomputable def mg1:List Wt→List Wt→Option (Pt×List Wt×List Wt)
 | x::a,y::b=>some (bif leP x.1 y.1 then(x.1,a,y::b)else(bif leP y.1 x.1 then(y.1,x::a,b)else(x.1,a,b)))
 | x::a,[]=>some (x.1,a,[])
 | [],y::b=>some (y.1,[],b)
 | [],[]=>none
theorem zIg{α:Type}{a:List α}{x:St'}:lq a x=x:=by simp only[lq,gd,nD (Nat.le_refl _),cond_true]
theorem zYi{o:List Pt}{x:St'}:aq o x=x:=by simp only[aq,gd,nC,cond_true]
theorem zMg{o:List Pt}{x:St'}(h:o.length<9000000000000):ap o x=x:=by simp only[ap,gd,nC,nD (show o.length+1+1≤9382499223534 by omega),cond_true]
theorem sPt(a b:List Wt)(o:List Pt)(h:o.length<9000000000000):st3 (iPt a b o)=match mg1 a b with
  | some (p,a2,b2)=>some (.inl (iPt a2 b2 (p::o)))
  | none=>some (.inr (.x 0,⟨[],[.ls .n pT o],[]⟩)):=by
 have ht:∀a:List Wt,tk a=a:=fun a=>List.take_length;cases o with
 | nil=>cases a with
  | nil=>cases b with
   | nil=>rw[qQk];rfl
   | cons y b=>rw[qQi,zIg,ht];rfl
  | cons x a=>cases b with
   | nil=>rw[qQg,zIg,ht];rfl
   | cons y b=>
    rw[qSl];simp only[zIg,ht,mg1];cases leP x.1 y.1<;>cases leP y.1 x.1<;>rfl
 | cons p o=>
  have h2:o.length<9000000000000:=by simp only[List.length_cons]at h;omega
  cases a with
  | nil=>cases b with
   | nil=>rw[qQj];simp only[gd,nC,cond_true];rfl
   | cons y b=>rw[qQh,zMg h2,zIg,zYi,ht];rfl
  | cons x a=>cases b with
   | nil=>rw[qQf,zMg h2,zIg,zYi,ht];rfl
   | cons y b=>
    rw[qSk];simp only[zMg h2,zIg,zYi,ht,mg1];cases leP x.1 y.1<;>cases leP y.1 x.1<;>rfl
noncomputable def mgP:Nat→List Wt→List Wt→List Pt
 | 0,_,_=>[]
 | k+1,a,b=>match mg1 a b with
  | some (p,a2,b2)=>p::mgP k a2 b2
  | none=>[]
theorem qHj{a b:List Wt}{p:Pt}{a2 b2:List Wt}(h:mg1 a b=some (p,a2,b2)):a2.length+b2.length<a.length+b.length:=by
 unfold mg1 at h;split at h
 ·rename_i x a y b;cases h1:leP x.1 y.1<;>cases h2:leP y.1 x.1<;>simp only[h1,h2,cond_true,cond_false,Option.some.injEq,Prod.mk.injEq]at h<;>obtain⟨_,rfl,rfl⟩:=h<;>simp only[List.length_cons]<;>omega
 ·cases h;simp
 ·cases h;simp
 ·cases h
theorem lpPt:∀(k:Nat)(a b:List Wt)(o:List Pt),a.length+b.length≤k→o.length+k<9000000000000→lpF st3 k (iPt a b o)=some (.x 0,⟨[],[.ls .n pT ((mgP k a b).reverse++o)],[]⟩)
 | 0,a,b,o,h,h2=>by
  have ha:a=[]:=List.eq_nil_of_length_eq_zero (by omega)
  have hb:b=[]:=List.eq_nil_of_length_eq_zero (by omega)
  subst ha hb;simp only[lpF,sPt [] [] o (by omega),mg1,mgP,List.reverse_nil,List.nil_append]
 | k+1,a,b,o,h,h2=>by
  simp only[lpF,sPt a b o (by omega),mgP]
  cases hm:mg1 a b with
  | none=>simp
  | some x=>
   obtain⟨p,a2,b2⟩:=x;have:=qHj hm;simp only;rw[lpPt k a2 b2 (p::o) (by omega) (by simp only[List.length_cons];omega)]
   simp
noncomputable def shP:Sh:=⟨.x 0,[],[(.n,pT)],[]⟩
noncomputable abbrev yPt(a b:List Wt):Option (Ex×Hs):=lpF st3 (a.length+b.length) (iPt a b [])
noncomputable abbrev LP:Lo:=loT [(92,[false,false,true],Lpt.row (lpR st3 (fun q=>lnO (nth .u q.hs 0)+lnO (nth .u q.hs 1)) [shP]))]
noncomputable abbrev qHs(y:Option (Ex×Hs)):List Pt:=lOf pT (hdT (hsO y).az)
noncomputable abbrev cnP(l:List Pt):List Pt:=l.headD pT.zero::l.tail
theorem ePt(a b:List Wt):((xQ Tryz.prog (evD Tryz.prog (OP) (LP) 60) 92 [.ls .a wT a,.ls .a wT b] []).bind vW).run=bif shT shP (yPt a b)then(bif emp (qHs (yPt a b))then some (.v (.slice none 0 0),true)else gd (Nat.beq ((qHs (yPt a b)).tail.length+1) ((qHs (yPt a b)).tail.length+1)) (some (.ls .a pT (cnP (qHs (yPt a b))).reverse,true)))else none:=by kernel_rfl
theorem qPy:bF Tryz.prog (evD Tryz.prog OP (loT []) 60):=zAn mF qCi kW 60
theorem qKs:zDk Tryz.prog LP:=wG kW qPy qLr nK
noncomputable def ptF(a b:List Wt):List Pt:=mgP (a.length+b.length) a b
noncomputable def oPt:List T→DT (T×Bool)
 | [.ls .a (.prod (.prod (.int .i64) (.prod (.int .i64) (.int .i64))) yF) a,.ls .a (.prod (.prod (.int .i64) (.prod (.int .i64) (.int .i64))) yF) b]=>grd (Nat.ble a.length 100000&&Nat.ble b.length 100000) (.ret (.ls .a pT (ptF a b),true))
 | _=> .no
theorem kPt:∀az tv nw,(oPt az).run=some (tv,nw)→∀k,KnP Tryz.prog k 92 az tv nw:=by
 intro az tv nw h k;unfold oPt at h;split at h
 ·rename_i a b;obtain⟨h1,h2⟩:=qZ h;cases h2;simp only[Bool.and_eq_true,Nat.ble_eq]at h1;have q:=ePt a b;have hy:yPt a b=some (.x 0,⟨[],[.ls .n pT (ptF a b).reverse],[]⟩):=by
   unfold yPt ptF;rw[lpPt _ a b [] (Nat.le_refl _) (by simp only[List.length_nil];omega),List.append_nil]
  rw[hy]at q;have q2:((xQ Tryz.prog (evD Tryz.prog (OP) (LP) 60) 92 [.ls .a wT a,.ls .a wT b] []).bind vW).run=bif emp (ptF a b).reverse then some (.v (.slice none 0 0),true)else gd (Nat.beq ((ptF a b).reverse.tail.length+1) ((ptF a b).reverse.tail.length+1)) (some (.ls .a pT (cnP (ptF a b).reverse).reverse,true)):=q;cases hp:(ptF a b).reverse with
  | nil=>
   rw[hp]at q2;have e:ptF a b=[]:=List.reverse_eq_nil_iff.1 hp;rw[e];exact(rO (cz:=[.ls .a wT a,.ls .a wT b]) mF qCi qKs q2 rfl k).res fun B r v h=>qBr h
  | cons x l=>
   rw[hp]at q2;simp only[emp,cond_false,gd,nC,cond_true,cnP,List.headD_cons,List.tail_cons]at q2;rw[←hp,List.reverse_reverse]at q2;exact rO (cz:=[.ls .a wT a,.ls .a wT b]) mF qCi qKs q2 rfl k
 ·cases h
noncomputable def oBc(bE:List Wt→Int):List T→DT (T×Bool)
 | [.ls .a (.prod (.prod (.int .i64) (.prod (.int .i64) (.int .i64))) yF) l]=> .ret (.v (.int .i64 (bE l)),true)
 | _=> .no
noncomputable def Lm0:Lp:=⟨5,
 ⟨[.h,.h]++(us' 3++([.t (.op 0 0)]++(us' 9++([.t (.op 3 0),.u,.t (.om 4),.t (.v (.int .i64 0))]++(us' 55++([.h,.t (.v (.int .i64 0))]++(us' 3++([.h,.h,.h]++(us' 70))))))))),[.r [.h,.h,.h] 28,.g,.g,.r [.h,.h,.h] 28,.m .a pT (.prod yF yF)]⟩,
 ⟨[.h,.h]++(us' 3++([.t (.op 0 0)]++(us' 9++([.t (.op 3 0),.u,.t (.om 4)]++(us' 56++([.h,.t (.v (.int .i64 0))]++(us' 76))))))),[.r [.h,.h,.h] 28,.g,.g,.r [.h,.h,.h] 28,.m .a pT (.prod yF yF)]⟩,
 ⟨us' 6++([.h,.h]++(us' 144)),[.g,.g,.g,.g,.g]⟩⟩
noncomputable abbrev qJt:Code:=lpc Tryz.prog 41 [false,true,true,false,false,true,true,false,false,true,false,true,true,true,true,true,true,true,true]
theorem qLp:cAt Tryz.prog 41 [false,true,true,false,false,true,true,false,false,true,false,true,true,true,true,true,true,true,true]=some (.loop qJt):=by kernel_rfl
noncomputable abbrev zSj(OD:Od)(LO:Lo):Hs→Option (Hs⊕(Ex×Hs)):=Lm0.stp (evD Tryz.prog OD LO 60) 41 [false,true,true,false,false,true,true,false,false,true,false,true,true,true,true,true,true,true,true] qJt
noncomputable def Lm1:Lp:=⟨5,
 ⟨[.h,.h]++(us' 3++([.t (.op 0 0)]++(us' 9++([.t (.op 3 0),.u,.t (.om 4),.t (.v (.int .i64 1))]++(us' 55++([.h,.t (.v (.int .i64 1))]++(us' 3++([.h,.h,.h]++(us' 70))))))))),[.r [.h,.h,.h] 28,.g,.g,.r [.h,.h,.h] 28,.m .a pT (.prod yF yF)]⟩,
 ⟨[.h,.h]++(us' 3++([.t (.op 0 0)]++(us' 9++([.t (.op 3 0),.u,.t (.om 4)]++(us' 56++([.h,.t (.v (.int .i64 1))]++(us' 76))))))),[.r [.h,.h,.h] 28,.g,.g,.r [.h,.h,.h] 28,.m .a pT (.prod yF yF)]⟩,
 ⟨us' 6++([.h,.h]++(us' 144)),[.g,.g,.g,.g,.g]⟩⟩
noncomputable abbrev qRh:Code:=lpc Tryz.prog 41 [false,true,true,false,false,true,true,false,false,true,false,true,true,true,true,true,true,true,true]
noncomputable abbrev zLx(OD:Od)(LO:Lo):Hs→Option (Hs⊕(Ex×Hs)):=Lm1.stp (evD Tryz.prog OD LO 60) 41 [false,true,true,false,false,true,true,false,false,true,false,true,true,true,true,true,true,true,true] qRh
noncomputable def Lm3:Lp:=⟨5,
 ⟨us' 5++([.t (.op 0 0)]++(us' 9++([.t (.op 3 0),.u,.t (.om 4)]++(us' 5++([.a .n wT 63]++(us' 77++([.h,.h,.h]++(us' 48)))))))),[.r [.h,.h,.h] 28,.g,.g,.r [.h,.h,.h] 28,.m .a pT (.prod yF yF)]⟩,
 ⟨us' 23++([.a .n wT 63]++(us' 128)),[.g,.g,.g,.g,.g]⟩,
 ⟨us' 6++([.h,.h]++(us' 144)),[.g,.g,.g,.g,.g]⟩⟩
noncomputable abbrev qJu:Code:=lpc Tryz.prog 41 [false,true,false,true,true,true,true,true,true,true,true,true,true]
theorem qLq:cAt Tryz.prog 41 [false,true,false,true,true,true,true,true,true,true,true,true,true]=some (.loop qJu):=by kernel_rfl
noncomputable abbrev zHb(OD:Od)(LO:Lo):Hs→Option (Hs⊕(Ex×Hs)):=Lm3.stp (evD Tryz.prog OD LO 60) 41 [false,true,false,true,true,true,true,true,true,true,true,true,true] qJu
noncomputable abbrev vT:Ty:= .prod yF yF
abbrev Mp:=List (Pt×(Rt×Rt))
noncomputable abbrev mC(m:Mp):List T:=[.ls .a (.prod pT vT) m]
noncomputable def iM(a b a2 b2:List Wt)(w v:Raw)(l:List Wt)(k i:Nat)(m:Mp):Hs:=⟨[.ls .a wT a,.ls .a wT b,.ag [.ls .a wT a2,.ls .a wT b2],.ls .a wT l,.v (.int .i64 (.ofNat k)),.v (.int .i64 (.ofNat i))],[],[rC w,[],[],rN v,mC m]⟩
noncomputable def iM3(w v:Raw)(m:Mp)(ps:List Pt)(k i:Nat)(o:List Wt):Hs:=⟨[.ls .n pT ps,.v (.int .i64 (.ofNat k)),.v (.int .i64 (.ofNat i))],[.ls .n wT o],[rC w,[],[],rN v,mC m]⟩
noncomputable abbrev pA(l:List Pt)(i:Nat):Pt:=nth pT.zero l i
noncomputable abbrev z0:Rt×Rt:=((false,[],[]),(false,[],[]))
noncomputable def zCp(m:Mp)(x:Wt):Mp:=dC pT x.1 (x.2,(jJ pT z0 x.1 m).2) m
noncomputable def zCq(m:Mp)(x:Wt):Mp:=dC pT x.1 ((jJ pT z0 x.1 m).1,x.2) m
noncomputable abbrev oM(a b a2 b2:List Wt)(w v:Raw)(m:Mp):Hs:=⟨[.ls .a wT a,.ls .a wT b,.ag [.ls .a wT a2,.ls .a wT b2]],[],[rC w,[],[],rN v,mC m]⟩
section
variable (bE:List Wt→Int)(ck:Raw→Int)(ad su mu:Raw→Raw→Raw)(ae se me:Raw→Raw→Int)(cm ce:Raw→Raw→Int)(fr:Int→Raw)(eqB:Raw→Raw→Bool)
noncomputable abbrev OM:Od:=odT ((46,odR [.list wT] (oBc bE))::(92,odR [.list wT,.list wT] oPt)::qOq ck ad su mu ae se me cm ce fr eqB)
theorem sM0(a b a2 b2:List Wt)(w v:Raw)(l:List Wt)(k i:Nat)(m:Mp):zSj (OM bE ck ad su mu ae se me cm ce fr eqB) (loT []) (iM a b a2 b2 w v l k i m)=bif Nat.blt i k then(bif Nat.blt i l.length then nx i (.inl (iM a b a2 b2 w v l k (i+1) (zCp m (wA l i))))else none)else some (.inr (.x 4,oM a b a2 b2 w v m)):=by kernel_rfl
theorem sM1(a b a2 b2:List Wt)(w v:Raw)(l:List Wt)(k i:Nat)(m:Mp):zLx (OM bE ck ad su mu ae se me cm ce fr eqB) (loT []) (iM a b a2 b2 w v l k i m)=bif Nat.blt i k then(bif Nat.blt i l.length then nx i (.inl (iM a b a2 b2 w v l k (i+1) (zCq m (wA l i))))else none)else some (.inr (.x 4,oM a b a2 b2 w v m)):=by kernel_rfl
noncomputable def fm0(l:List Wt)(m:Mp):Mp:=fol (fun i m=>(.inl (zCp m (wA l i)):Mp⊕Mp)) id l.length 0 m
noncomputable def fm1(l:List Wt)(m:Mp):Mp:=fol (fun i m=>(.inl (zCq m (wA l i)):Mp⊕Mp)) id l.length 0 m
theorem lpM0(a b a2 b2:List Wt)(w v:Raw)(l:List Wt)(m:Mp)(h9:l.length<9223372036854775807):lpF (zSj (OM bE ck ad su mu ae se me cm ce fr eqB) (loT [])) l.length (iM a b a2 b2 w v l l.length 0 m)=some (.x 4,oM a b a2 b2 w v (fm0 l m)):=
 wH (iv:=fun i m=>iM a b a2 b2 w v l l.length i m) (g:=fun i m=>(.inl (zCp m (wA l i)):Mp⊕Mp)) (d:=id) (out:=fun m=>(.x 4,oM a b a2 b2 w v m)) (n:=l.length) (fun _ _=>True)
  (fun i m hi _=>by rw[sM0];simp only[yP hi,cond_true,zCc (show i+1<9223372036854775808 by omega)])
  (fun _ _ _ _ _ _=>trivial)
  (fun _ _=>by rw[sM0];simp only[sI (Nat.le_refl _),cond_false];rfl) l.length 0 m (by omega) trivial
theorem lpM1(a b a2 b2:List Wt)(w v:Raw)(l:List Wt)(m:Mp)(h9:l.length<9223372036854775807):lpF (zLx (OM bE ck ad su mu ae se me cm ce fr eqB) (loT [])) l.length (iM a b a2 b2 w v l l.length 0 m)=some (.x 4,oM a b a2 b2 w v (fm1 l m)):=
 wH (iv:=fun i m=>iM a b a2 b2 w v l l.length i m) (g:=fun i m=>(.inl (zCq m (wA l i)):Mp⊕Mp)) (d:=id) (out:=fun m=>(.x 4,oM a b a2 b2 w v m)) (n:=l.length) (fun _ _=>True)
  (fun i m hi _=>by rw[sM1];simp only[yP hi,cond_true,zCc (show i+1<9223372036854775808 by omega)])
  (fun _ _ _ _ _ _=>trivial)
  (fun _ _=>by rw[sM1];simp only[sI (Nat.le_refl _),cond_false];rfl) l.length 0 m (by omega) trivial
noncomputable abbrev k5:List (List T):=[[],[],[],[],[]]
noncomputable abbrev erM(e:Int):St':=some (.inr (.r,⟨[.v (.slice none 0 0),.v (.int .i64 e)],[],k5⟩))
noncomputable abbrev m3(w v:Raw)(g:Rt×Rt)(k:Raw→St'):St':=bif !ieq (me w (rw' g.1)) 0 then erM (me w (rw' g.1))else(bif !ieq (me v (rw' g.2)) 0 then erM (me v (rw' g.2))else(bif !ieq (ae (mu w (rw' g.1)) (mu v (rw' g.2))) 0 then erM (ae (mu w (rw' g.1)) (mu v (rw' g.2)))else k (ad (mu w (rw' g.1)) (mu v (rw' g.2)))))
noncomputable abbrev wap(i:Nat)(o:List Wt)(z:Hs):St':=gd (Nat.ble (o.length+1+1) 2814749766952) (gd (Nat.beq (o.length+1) (o.length+1)) (gd (Nat.blt (i+1) 9223372036854775808) (gd (Nat.beq (o.length+1+1) (o.length+1+1)) (some (.inl z)))))
noncomputable abbrev wsm(i:Nat)(o:List Wt)(z:Hs):St':=gd (Nat.blt (i+1) 9223372036854775808) (gd (Nat.beq (o.length+1) (o.length+1)) (some (.inl z)))
theorem sM3n(w v:Raw)(m:Mp)(ps:List Pt)(k i:Nat):zHb (OM bE ck ad su mu ae se me cm ce fr eqB) (loT []) (iM3 w v m ps k i [])=bif Nat.blt i k then(bif Nat.blt i ps.length then m3 ad mu ae me w v (jJ pT z0 (pA ps i) m) (fun t=>bif ilt 0 (.ofNat t.ln.length)then nx i (.inl (iM3 w v m ps k (i+1) [(pA ps i,toT t)]))else nx i (.inl (iM3 w v m ps k (i+1) [])))else none)else some (.inr (.x 6,⟨[],[.ls .n wT []],k5⟩)):=by kernel_rfl
theorem sM3c(w v:Raw)(m:Mp)(ps:List Pt)(k i:Nat)(y:Wt)(o:List Wt):zHb (OM bE ck ad su mu ae se me cm ce fr eqB) (loT []) (iM3 w v m ps k i (y::o))=bif Nat.blt i k then(bif Nat.blt i ps.length then m3 ad mu ae me w v (jJ pT z0 (pA ps i) m) (fun t=>bif ilt 0 (.ofNat t.ln.length)then wap i o (iM3 w v m ps k (i+1) ((pA ps i,toT t)::y::o))else wsm i o (iM3 w v m ps k (i+1) (y::o)))else none)else gd (Nat.beq (o.length+1) (o.length+1)) (some (.inr (.x 6,⟨[],[.ls .n wT (y::o)],k5⟩))):=by kernel_rfl
noncomputable def m3F(w v:Raw)(g:Rt×Rt):Raw⊕Int:=bif !ieq (me w (rw' g.1)) 0 then .inr (me w (rw' g.1))else(bif !ieq (me v (rw' g.2)) 0 then .inr (me v (rw' g.2))else(bif !ieq (ae (mu w (rw' g.1)) (mu v (rw' g.2))) 0 then .inr (ae (mu w (rw' g.1)) (mu v (rw' g.2)))else .inl (ad (mu w (rw' g.1)) (mu v (rw' g.2)))))
noncomputable def mY(k:Raw→St'):Raw⊕Int→St'
 | .inl t=>k t
 | .inr e=>erM e
theorem qKt(w v:Raw)(g:Rt×Rt)(k:Raw→St'):m3 ad mu ae me w v g k=mY k (m3F ad mu ae me w v g):=by
 unfold m3F;simp only[m3];cases ieq (me w (rw' g.1)) 0<;>cases ieq (me v (rw' g.2)) 0<;>cases ieq (ae (mu w (rw' g.1)) (mu v (rw' g.2))) 0<;>rfl
noncomputable def gM3(w v:Raw)(m:Mp)(ps:List Pt)(i:Nat)(o:List Wt):List Wt⊕(List Wt⊕Int):=match m3F ad mu ae me w v (jJ pT z0 (pA ps i) m)with
 | .inl t=> .inl (bif ilt 0 (.ofNat t.ln.length)then(pA ps i,toT t)::o else o)
 | .inr e=> .inr (.inr e)
noncomputable def mxF(w v:Raw)(m:Mp)(ps:List Pt):List Wt⊕Int:=fol (gM3 ad mu ae me w v m ps) .inl ps.length 0 []
noncomputable def qCx:List Wt⊕Int→Ex×Hs
 | .inl o=>(.x 6,⟨[],[.ls .n wT o],k5⟩)
 | .inr e=>(.r,⟨[.v (.slice none 0 0),.v (.int .i64 e)],[],k5⟩)
theorem lpM3(w v:Raw)(m:Mp)(ps:List Pt)(h9:ps.length<1000000000):lpF (zHb (OM bE ck ad su mu ae se me cm ce fr eqB) (loT [])) ps.length (iM3 w v m ps ps.length 0 [])=some (qCx (mxF ad mu ae me w v m ps)):=
 wH (iv:=fun i o=>iM3 w v m ps ps.length i o) (g:=gM3 ad mu ae me w v m ps) (d:= .inl) (out:=qCx) (n:=ps.length) (fun i o=>o.length≤i)
  (fun i o hi hJ=>by
   unfold gM3;cases o with
   | nil=>
    rw[sM3n];simp only[yP hi,cond_true,qKt];cases m3F ad mu ae me w v (jJ pT z0 (pA ps i) m)with
    | inl t=>simp only[mY,zCc (show i+1<9223372036854775808 by omega)];cases ilt 0 (.ofNat t.ln.length)<;>rfl
    | inr e=>rfl
   | cons y o=>
    rw[sM3c];simp only[List.length_cons]at hJ;simp only[yP hi,cond_true,qKt];cases m3F ad mu ae me w v (jJ pT z0 (pA ps i) m)with
    | inl t=>simp only[mY,wap,wsm,gd,nC,yP (show i+1<9223372036854775808 by omega),nD (show o.length+1+1≤2814749766952 by omega),cond_true];cases ilt 0 (.ofNat t.ln.length)<;>rfl
    | inr e=>rfl)
  (fun i o o2 hi hJ hg=>by
   unfold gM3 at hg;split at hg
   ·rename_i t _;cases hg;cases ilt 0 (.ofNat t.ln.length)with
    | true=>simp only[cond_true,List.length_cons];omega
    | false=>simp only[cond_false];omega
   ·cases hg)
  (fun o _=>by
   cases o with
   | nil=>rw[sM3n];simp only[sI (Nat.le_refl _),cond_false];rfl
   | cons y o=>rw[sM3c];simp only[sI (Nat.le_refl _),cond_false,gd,nC,cond_true];rfl) ps.length 0 [] (by omega) (Nat.le_refl _)
end
section
variable (bE:List Wt→Int)(ck:Raw→Int)(ad su mu:Raw→Raw→Raw)(ae se me:Raw→Raw→Int)(cm ce:Raw→Raw→Int)(fr:Int→Raw)(eqB:Raw→Raw→Bool)
noncomputable def shM:Sh:=⟨.x 4,[.l .a wT,.l .a wT,.p .a wT .a wT],[],[[.b,.l .a .lim,.l .a .lim],[],[],[.b,.l .n .lim,.l .n .lim],[.l .a (.prod pT vT)]]⟩
noncomputable def sh3x:Sh:=⟨.x 6,[],[(.n,wT)],[[],[],[],[],[]]⟩
noncomputable def sh3r:Sh:=⟨.r,[.c (.v (.slice none 0 0)),.i .i64],[],[[],[],[],[],[]]⟩
noncomputable abbrev LM:Lo:=loT [(41,[false,true,true,false,false,true,true,false,false,true,false,true,true,true,true,true,true,true,true],fun s=>orD (Lm0.row (lpR (zSj (OM bE ck ad su mu ae se me cm ce fr eqB) (loT [])) (fun q=>lnO (nth .u q.hs 4)) [shM]) s) (Lm1.row (lpR (zLx (OM bE ck ad su mu ae se me cm ce fr eqB) (loT [])) (fun q=>lnO (nth .u q.hs 4)) [shM]) s)),(41,[false,true,false,true,true,true,true,true,true,true,true,true,true],Lm3.row (lpR (zHb (OM bE ck ad su mu ae se me cm ce fr eqB) (loT [])) (fun q=>lnO (nth .u q.hs 1)) [sh3x,sh3r]))]
noncomputable abbrev erT(e:Int):Option (T×Bool):=some (.tu [.v (.slice none 0 0),.v (.int .i64 e)],true)
noncomputable abbrev pA1(q:Hs):List Wt:=lOf wT (hdT q.hs)
noncomputable abbrev pB1(q:Hs):List Wt:=lOf wT (hdT q.hs.tail)
noncomputable abbrev pA2(q:Hs):List Wt:=lOf wT (qNk (hdT q.hs.tail.tail))
noncomputable abbrev pB2(q:Hs):List Wt:=lOf wT (qQn (hdT q.hs.tail.tail))
noncomputable abbrev rOf(l:List T):Raw:=⟨bOf (hdT l),lOf .lim (hdT l.tail),lOf .lim (hdT l.tail.tail)⟩
noncomputable abbrev pW(q:Hs):Raw:=rOf (q.ks.headD [])
noncomputable abbrev pV(q:Hs):Raw:=rOf (q.ks.tail.tail.tail.headD [])
noncomputable abbrev pM(q:Hs):Mp:=lOf (.prod pT vT) (hdT (q.ks.tail.tail.tail.tail.headD []))
noncomputable abbrev wOf(y:Option (Ex×Hs)):List Wt:=lOf wT (hdT (hsO y).az)
noncomputable abbrev cnW(l:List Wt):List Wt:=l.headD wT.zero::l.tail
noncomputable abbrev qOn(y:Option (Ex×Hs)):Option (T×Bool):=bif shT sh3x y then(bif emp (wOf y)then erT 0 else gd (Nat.beq ((wOf y).tail.length+1) ((wOf y).tail.length+1)) (some (.tu [.ls .a wT (cnW (wOf y)).reverse,.v (.int .i64 0)],true)))else(bif shT sh3r y then erT (iOf (hdT (hsO y).hs.tail))else none)
noncomputable abbrev y3M(w v:Raw)(m:Mp)(ps:List Pt):Option (Ex×Hs):=lpF (zHb (OM bE ck ad su mu ae se me cm ce fr eqB) (loT [])) ps.length (iM3 w v m ps ps.length 0 [])
noncomputable abbrev qOm(y:Option (Ex×Hs)):Option (T×Bool):=gd (shT shM y) (gd (Nat.ble (pA1 (hsO y)).length 100000&&Nat.ble (pB1 (hsO y)).length 100000) (qOn (y3M bE ck ad su mu ae se me cm ce fr eqB (pW (hsO y)) (pV (hsO y)) (pM (hsO y)) (ptF (pA1 (hsO y)) (pB1 (hsO y))))))
noncomputable abbrev y2M(q:Hs):Option (Ex×Hs):=lpF (zLx (OM bE ck ad su mu ae se me cm ce fr eqB) (loT [])) (pB2 q).length (iM (pA1 q) (pB1 q) (pA2 q) (pB2 q) (pW q) (pV q) (pB2 q) (pB2 q).length 0 (pM q))
noncomputable abbrev mxk1(y:Option (Ex×Hs)):Option (T×Bool):=gd (shT shM y) (qOm bE ck ad su mu ae se me cm ce fr eqB (y2M bE ck ad su mu ae se me cm ce fr eqB (hsO y)))
noncomputable abbrev y1M(a b:List Wt)(w v:Raw):Option (Ex×Hs):=lpF (zSj (OM bE ck ad su mu ae se me cm ce fr eqB) (loT [])) a.length (iM a b a b w v a a.length 0 [])
noncomputable abbrev mxk0(a b:List Wt)(w:Raw)(k:Option (T×Bool)):Option (T×Bool):=bif !ieq (bE a) 0 then erT (bE a)else(bif !ieq (bE b) 0 then erT (bE b)else(bif !ieq (ck w) 0 then erT (ck w)else(bif w.neg then erT 1 else(bif ilt 0 (cm w (fr 1))then erT 1 else(bif !ieq (se (fr 1) w) 0 then erT (se (fr 1) w)else k)))))
theorem eMx(a b:List Wt)(w:Raw):((xQ Tryz.prog (evD Tryz.prog (OM bE ck ad su mu ae se me cm ce fr eqB) (LM bE ck ad su mu ae se me cm ce fr eqB) 60) 41 [.ls .a wT a,.ls .a wT b,.ag (rC w)] []).bind vW).run=mxk0 bE ck se cm fr a b w (mxk1 bE ck ad su mu ae se me cm ce fr eqB (y1M bE ck ad su mu ae se me cm ce fr eqB a b w (su (fr 1) w))):=by kernel_rfl
theorem qHo(a b a2 b2:List Wt)(w v:Raw)(m:Mp):mxk1 bE ck ad su mu ae se me cm ce fr eqB (some (.x 4,oM a b a2 b2 w v m))=qOm bE ck ad su mu ae se me cm ce fr eqB (lpF (zLx (OM bE ck ad su mu ae se me cm ce fr eqB) (loT [])) b2.length (iM a b a2 b2 w v b2 b2.length 0 m)):=by kernel_rfl
theorem qHp(a b a2 b2:List Wt)(w v:Raw)(m:Mp):qOm bE ck ad su mu ae se me cm ce fr eqB (some (.x 4,oM a b a2 b2 w v m))=gd (Nat.ble a.length 100000&&Nat.ble b.length 100000) (qOn (lpF (zHb (OM bE ck ad su mu ae se me cm ce fr eqB) (loT [])) (ptF a b).length (iM3 w v m (ptF a b) (ptF a b).length 0 []))):=by kernel_rfl
noncomputable abbrev zWq(s:List Wt⊕Int):Option (T×Bool):=match s with
 | .inl []=>erT 0
 | .inl (x::o)=>some (.tu [.ls .a wT (x::o).reverse,.v (.int .i64 0)],true)
 | .inr e=>erT e
theorem qHq(s:List Wt⊕Int):qOn (some (qCx s))=zWq s:=by
 cases s with
 | inr e=>rfl
 | inl o=>
  cases o with
  | nil=>rfl
  | cons x o=>
   show gd (Nat.beq (o.length+1) (o.length+1)) _=_;simp only[gd,nC,cond_true];rfl
theorem zTr:∀(k:Nat)(a b:List Wt),(mgP k a b).length≤k
 | 0,_,_=>Nat.le_refl _
 | k+1,a,b=>by
  simp only[mgP];split
  ·rename_i p a2 b2 _;have:=zTr k a2 b2;simp only[List.length_cons];omega
  ·exact Nat.zero_le _
noncomputable def mxS(a b:List Wt)(w:Raw):List Wt⊕Int:=bif !ieq (bE a) 0 then .inr (bE a)else(bif !ieq (bE b) 0 then .inr (bE b)else(bif !ieq (ck w) 0 then .inr (ck w)else(bif w.neg then .inr 1 else(bif ilt 0 (cm w (fr 1))then .inr 1 else(bif !ieq (se (fr 1) w) 0 then .inr (se (fr 1) w)else mxF ad mu ae me w (su (fr 1) w) (fm1 b (fm0 a [])) (ptF a b))))))
theorem qOl(a b:List Wt)(w:Raw)(ha:a.length≤100000)(hb:b.length≤100000):((xQ Tryz.prog (evD Tryz.prog (OM bE ck ad su mu ae se me cm ce fr eqB) (LM bE ck ad su mu ae se me cm ce fr eqB) 60) 41 [.ls .a wT a,.ls .a wT b,.ag (rC w)] []).bind vW).run=zWq (mxS bE ck ad su mu ae se me cm fr a b w):=by
 rw[eMx];unfold mxS y1M;rw[lpM0 bE ck ad su mu ae se me cm ce fr eqB a b a b w (su (fr 1) w) a [] (by omega),qHo,lpM1 bE ck ad su mu ae se me cm ce fr eqB a b a b w (su (fr 1) w) b (fm0 a []) (by omega),qHp]
 have hp:(ptF a b).length<1000000000:=by
  have:=zTr (a.length+b.length) a b;unfold ptF;omega
 rw[lpM3 bE ck ad su mu ae se me cm ce fr eqB w (su (fr 1) w) (fm1 b (fm0 a [])) (ptF a b) hp,qHq,nD ha,nD hb];simp only[mxk0,gd,Bool.and_self,cond_true];cases ieq (bE a) 0<;>cases ieq (bE b) 0<;>cases ieq (ck w) 0<;>cases w.neg<;>cases ilt 0 (cm w (fr 1))<;>cases ieq (se (fr 1) w) 0<;>rfl
end
noncomputable abbrev adA(a b:Raw):Raw:=opR a b (a.rat+b.rat)
noncomputable abbrev suA(a b:Raw):Raw:=opR a b (a.rat-b.rat)
noncomputable abbrev muA(a b:Raw):Raw:=opR a b (a.rat*b.rat)
noncomputable abbrev aeA(a b:Raw):Int:=opE a b (a.rat+b.rat)
noncomputable abbrev seA(a b:Raw):Int:=opE a b (a.rat-b.rat)
noncomputable abbrev meA(a b:Raw):Int:=opE a b (a.rat*b.rat)
noncomputable abbrev frA(n:Int):Raw:=Raw.of (n:Rat)
noncomputable abbrev eqA(a b:Raw):Bool:=decide (a=b)
noncomputable abbrev numA:rrT:=qOq Raw.chk adA suA muA aeA seA meA vU nE frA eqA
theorem zTu:mH Tryz.prog (odT numA):=
 jG (jG (jG (jG (jG (jG (jG wV fun az tv nw h k=>nH kEq az tv h k) fun az tv nw h k=>nH qAt az tv h k) fun az tv nw h k=>nH kCmp az tv h k) fun az tv nw h k=>nH kMul az tv h k) fun az tv nw h k=>nH kSub az tv h k) fun az tv nw h k=>nH kAdd az tv h k) fun az tv nw h k=>nH kChk az tv h k
theorem qKy:mH Tryz.prog (OB Raw.chk adA suA muA aeA seA meA vU nE frA eqA):=jG (jG zTu (sN kCk)) (sN kCp)
theorem qDq:bF Tryz.prog (evD Tryz.prog (OB Raw.chk adA suA muA aeA seA meA vU nE frA eqA) (loT []) 60):=zAn mF qKy kW 60
theorem qRx:zDk Tryz.prog (LB Raw.chk adA suA muA aeA seA meA vU nE frA eqA):=wG (wG kW qDq qLl nK) qDq qLk nK
noncomputable abbrev bE(l:List Wt):Int:=bcE Raw.chk adA aeA vU frA l
theorem kBc:∀az tv nw,(oBc bE az).run=some (tv,nw)→∀k,KnP Tryz.prog k 46 az tv nw:=by
 intro az tv nw h k;unfold oBc at h;split at h
 ·rename_i l;cases h;exact rO (cz:=[.ls .a wT l]) mF qKy qRx (qMh Raw.chk adA suA muA aeA seA meA vU nE frA eqA l) rfl k
 ·cases h
theorem qBz:mH Tryz.prog (OM bE Raw.chk adA suA muA aeA seA meA vU nE frA eqA):=jG (jG zTu (sN kPt)) (sN kBc)
theorem qDr:bF Tryz.prog (evD Tryz.prog (OM bE Raw.chk adA suA muA aeA seA meA vU nE frA eqA) (loT []) 60):=zAn mF qBz kW 60
theorem qKr:zDk Tryz.prog (LM bE Raw.chk adA suA muA aeA seA meA vU nE frA eqA):=qRz (wG kW qDr qLq nK) qDr qLp nK nK
noncomputable def lsS:List Wt⊕Int→List Wt
 | .inl o=>o.reverse
 | .inr _=>[]
noncomputable def erS:List Wt⊕Int→Int
 | .inl _=>0
 | .inr e=>e
noncomputable abbrev mxA(a b:List Wt)(w:Raw):List Wt⊕Int:=mxS bE Raw.chk adA suA muA aeA seA meA vU frA a b w
theorem qQu{B:Bm}{r:Rd}{A:Ty}{t:T}{v:Value}(h:Rep B r (.tu [.v (.slice none 0 0),t]) v):Rep B r (.tu [.ls .a A [],t]) v:=by
 obtain⟨vs,rfl,hvs⟩:=h.tuI;match vs,hvs with
 | [a,b],⟨h1,h2,_⟩=>exact Rep.mkTu (vs:=[a,b]) ⟨qBr h1,h2,trivial⟩
noncomputable def oMx(mR:List Wt→List Wt→Raw→List Wt)(mE:List Wt→List Wt→Raw→Int):List T→DT (T×Bool)
 | [.ls .a (.prod (.prod (.int .i64) (.prod (.int .i64) (.int .i64))) yF) a,.ls .a (.prod (.prod (.int .i64) (.prod (.int .i64) (.int .i64))) yF) b,.ag [.v (.bool s),.ls .a .lim l,.ls .a .lim m]]=>grd (Nat.ble a.length 100000&&Nat.ble b.length 100000) (.ret (.tu [.ls .a wT (mR a b ⟨s,l,m⟩),.v (.int .i64 (mE a b ⟨s,l,m⟩))],true))
 | _=> .no
theorem kMx:∀az tv nw,(oMx (fun a b w=>lsS (mxA a b w)) (fun a b w=>erS (mxA a b w)) az).run=some (tv,nw)→∀k,KnP Tryz.prog k 41 az tv nw:=by
 intro az tv nw h k;unfold oMx at h;split at h
 ·rename_i a b s l m;obtain⟨h1,h2⟩:=qZ h;cases h2;simp only[Bool.and_eq_true,Nat.ble_eq]at h1;have q:=qOl bE Raw.chk adA suA muA aeA seA meA vU nE frA eqA a b ⟨s,l,m⟩ h1.1 h1.2;show KnP Tryz.prog k 41 _ (.tu [.ls .a wT (lsS (mxA a b ⟨s,l,m⟩)),.v (.int .i64 (erS (mxA a b ⟨s,l,m⟩)))]) true;have er:∀{e:Int},zWq (mxA a b ⟨s,l,m⟩)=erT e→KnP Tryz.prog k 41 [.ls .a wT a,.ls .a wT b,.ag (rC ⟨s,l,m⟩)] (.tu [.ls .a wT [],.v (.int .i64 e)]) true:=fun{e}he=>
   (rO (cz:=[.ls .a wT a,.ls .a wT b,.ag (rC ⟨s,l,m⟩)]) mF qBz qKr (q.trans he) rfl k).res fun B r v h=>qQu h
  cases hs:mxA a b ⟨s,l,m⟩with
  | inr e=>exact er ((congrArg zWq hs).trans rfl)
  | inl o=>
   cases o with
   | nil=>exact er ((congrArg zWq hs).trans rfl)
   | cons x o=>exact rO (cz:=[.ls .a wT a,.ls .a wT b,.ag (rC ⟨s,l,m⟩)]) mF qBz qKr (q.trans ((congrArg zWq hs).trans rfl)) rfl k
 ·cases h
noncomputable def Llg:Lp:=⟨0,
 ⟨[.h,.u,.u,.h,.h]++(us' 45),[]⟩,
 ⟨[.h,.u,.u,.h]++(us' 46),[]⟩,
 ⟨[.u,.u,.h]++(us' 47),[]⟩⟩
noncomputable abbrev qJs:Code:=lpc Tryz.prog 38 [false,true,false,true,true]
theorem qLo:cAt Tryz.prog 38 [false,true,false,true,true]=some (.loop qJs):=by kernel_rfl
noncomputable abbrev zSi(OD:Od)(LO:Lo):Hs→Option (Hs⊕(Ex×Hs)):=Llg.stp (evD Tryz.prog OD LO 60) 38 [false,true,false,true,true] qJs
noncomputable def Lsm:Lp:=⟨0,
 ⟨[.h,.h]++(us' 3++([.h]++(us' 36))),[]⟩,
 ⟨us' 42,[]⟩,
 ⟨us' 4++([.h]++(us' 37)),[]⟩⟩
noncomputable abbrev qJw:Code:=lpc Tryz.prog 26 [false,true,false,true,true]
theorem qLs:cAt Tryz.prog 26 [false,true,false,true,true]=some (.loop qJw):=by kernel_rfl
noncomputable abbrev zSk(OD:Od)(LO:Lo):Hs→Option (Hs⊕(Ex×Hs)):=Lsm.stp (evD Tryz.prog OD LO 60) 26 [false,true,false,true,true] qJw
noncomputable def Lwd:Lp:=⟨0,
 ⟨[.h,.u,.u,.h]++(us' 25),[]⟩,
 ⟨[.h]++(us' 28),[]⟩,
 ⟨[.u,.u,.h]++(us' 26),[]⟩⟩
noncomputable abbrev qJx:Code:=lpc Tryz.prog 65 [false,true,false,true]
theorem qLt:cAt Tryz.prog 65 [false,true,false,true]=some (.loop qJx):=by kernel_rfl
noncomputable abbrev zSl(OD:Od)(LO:Lo):Hs→Option (Hs⊕(Ex×Hs)):=Lwd.stp (evD Tryz.prog OD LO 60) 65 [false,true,false,true] qJx
noncomputable def iLg(l:List Wt)(c:Int)(i:Nat):Hs:=⟨[.ls .a wT l,.v (.int .i64 c),.v (.int .i64 (.ofNat i))],[],[]⟩
noncomputable def iSm(a b:List Wt)(i:Nat):Hs:=⟨[.ls .a wT a,.ls .a wT b,.v (.int .i64 (.ofNat i))],[],[]⟩
noncomputable def iWd(l:List Rt)(i:Nat):Hs:=⟨[.ls .a yF l,.v (.int .i64 (.ofNat i))],[],[]⟩
noncomputable abbrev wrS(c:Int)(x:Wt):Int:=bif inW (Int.add c (.ofNat x.2.2.2.length))then Int.add c (.ofNat x.2.2.2.length)else wr .i64 (Int.add c (.ofNat x.2.2.2.length))
theorem sLg(l:List Wt)(c:Int)(i:Nat):zSi (odT []) (loT []) (iLg l c i)=bif Nat.blt i l.length then(bif Nat.blt i l.length then(bif ilt 4 (.ofNat (wA l i).2.2.1.length)then some (.inr (.r,⟨[.v (.bool true)],[],[]⟩))else(bif Nat.blt i l.length then(bif inW (Int.add c (.ofNat (wA l i).2.2.2.length))then nx i (.inl (iLg l (Int.add c (.ofNat (wA l i).2.2.2.length)) (i+1)))else nx i (.inl (iLg l (wr .i64 (Int.add c (.ofNat (wA l i).2.2.2.length))) (i+1))))else none))else none)else some (.inr (.x 0,⟨[.ls .a wT l,.v (.int .i64 c)],[],[]⟩)):=by kernel_rfl
noncomputable def gLg(l:List Wt)(i:Nat)(c:Int):Int⊕Option Int:=bif ilt 4 (.ofNat (wA l i).2.2.1.length)then .inr none else .inl (wrS c (wA l i))
noncomputable def lgF(l:List Wt):Option Int:=fol (gLg l) some l.length 0 0
noncomputable def qKz(l:List Wt):Option Int→Ex×Hs
 | some c=>(.x 0,⟨[.ls .a wT l,.v (.int .i64 c)],[],[]⟩)
 | none=>(.r,⟨[.v (.bool true)],[],[]⟩)
theorem lpLg(l:List Wt)(h9:l.length<9223372036854775807):lpF (zSi (odT []) (loT [])) l.length (iLg l 0 0)=some (qKz l (lgF l)):=
 wH (iv:=fun i c=>iLg l c i) (g:=gLg l) (d:=some) (out:=qKz l) (n:=l.length) (fun _ _=>True)
  (fun i c hi _=>by
   rw[sLg];unfold gLg;simp only[yP hi,cond_true,zCc (show i+1<9223372036854775808 by omega),wrS]
   cases ilt 4 (.ofNat (wA l i).2.2.1.length)<;>cases inW (Int.add c (.ofNat (wA l i).2.2.2.length))<;>rfl)
  (fun _ _ _ _ _ _=>trivial)
  (fun _ _=>by rw[sLg];simp only[sI (Nat.le_refl _),cond_false];rfl) l.length 0 0 (by omega) trivial
noncomputable abbrev zVv(p q:Pt):Bool:=ieq p.1 q.1&&(ieq p.2.1 q.2.1&&ieq p.2.2 q.2.2)
theorem sSm(eqB:Raw→Raw→Bool)(a b:List Wt)(i:Nat):zSk (odT [(37,kcD (pB eqB) true)]) (loT []) (iSm a b i)=bif Nat.blt i a.length then(bif Nat.blt i a.length then(bif Nat.blt i b.length then(bif !zVv (wA a i).1 (wA b i).1 then(bif !zVv (wA a i).1 (wA b i).1 then some (.inr (.r,⟨[.v (.bool false)],[],[]⟩))else none)else(bif Nat.blt i a.length then(bif Nat.blt i b.length then(bif !zVv (wA a i).1 (wA b i).1 then some (.inr (.r,⟨[.v (.bool false)],[],[]⟩))else(bif !eqB (rw' (wA a i).2) (rw' (wA b i).2)then some (.inr (.r,⟨[.v (.bool false)],[],[]⟩))else nx i (.inl (iSm a b (i+1)))))else none)else none))else none)else none)else some (.inr (.x 0,⟨[],[],[]⟩)):=by kernel_rfl
noncomputable def gSm(eqB:Raw→Raw→Bool)(a b:List Wt)(i:Nat)(_:Unit):Unit⊕Bool:=bif zVv (wA a i).1 (wA b i).1&&eqB (rw' (wA a i).2) (rw' (wA b i).2)then .inl ()else .inr false
noncomputable def smL(eqB:Raw→Raw→Bool)(a b:List Wt):Bool:=fol (gSm eqB a b) (fun _=>true) a.length 0 ()
noncomputable def qLa:Bool→Ex×Hs
 | true=>(.x 0,⟨[],[],[]⟩)
 | false=>(.r,⟨[.v (.bool false)],[],[]⟩)
theorem lpSm(eqB:Raw→Raw→Bool)(a b:List Wt)(he:a.length=b.length)(h9:a.length<9223372036854775807):lpF (zSk (odT [(37,kcD (pB eqB) true)]) (loT [])) a.length (iSm a b 0)=some (qLa (smL eqB a b)):=
 wH (iv:=fun i(_:Unit)=>iSm a b i) (g:=gSm eqB a b) (d:=fun _=>true) (out:=qLa) (n:=a.length) (fun _ _=>True)
  (fun i _ hi _=>by
   rw[sSm];unfold gSm;simp only[yP hi,yP (show i<b.length by omega),cond_true,zCc (show i+1<9223372036854775808 by omega)]
   cases zVv (wA a i).1 (wA b i).1<;>cases eqB (rw' (wA a i).2) (rw' (wA b i).2)<;>rfl)
  (fun _ _ _ _ _ _=>trivial)
  (fun _ _=>by rw[sSm];simp only[sI (Nat.le_refl _),cond_false];rfl) a.length 0 () (by omega) trivial
noncomputable abbrev rA(l:List Rt)(i:Nat):Rt:=nth yF.zero l i
theorem sWd(l:List Rt)(i:Nat):zSl (odT []) (loT []) (iWd l i)=bif Nat.blt i l.length then(bif Nat.blt i l.length then(bif ilt 20 (.ofNat (rA l i).2.1.length)then some (.inr (.r,⟨[.v (.bool true)],[],[]⟩))else(bif Nat.blt i l.length then(bif ilt 20 (.ofNat (rA l i).2.2.length)then some (.inr (.r,⟨[.v (.bool true)],[],[]⟩))else nx i (.inl (iWd l (i+1))))else none))else none)else some (.inr (.x 0,⟨[.ls .a yF l],[],[]⟩)):=by kernel_rfl
noncomputable def gWd(l:List Rt)(i:Nat)(_:Unit):Unit⊕Bool:=bif ilt 20 (.ofNat (rA l i).2.1.length)||ilt 20 (.ofNat (rA l i).2.2.length)then .inr true else .inl ()
noncomputable def wdF(l:List Rt):Bool:=fol (gWd l) (fun _=>false) l.length 0 ()
noncomputable def qLb(l:List Rt):Bool→Ex×Hs
 | false=>(.x 0,⟨[.ls .a yF l],[],[]⟩)
 | true=>(.r,⟨[.v (.bool true)],[],[]⟩)
theorem lpWd(l:List Rt)(h9:l.length<9223372036854775807):lpF (zSl (odT []) (loT [])) l.length (iWd l 0)=some (qLb l (wdF l)):=
 wH (iv:=fun i(_:Unit)=>iWd l i) (g:=gWd l) (d:=fun _=>false) (out:=qLb l) (n:=l.length) (fun _ _=>True)
  (fun i _ hi _=>by
   rw[sWd];unfold gWd;simp only[yP hi,cond_true,zCc (show i+1<9223372036854775808 by omega)]
   cases ilt 20 (.ofNat (rA l i).2.1.length)<;>cases ilt 20 (.ofNat (rA l i).2.2.length)<;>rfl)
  (fun _ _ _ _ _ _=>trivial)
  (fun _ _=>by rw[sWd];simp only[sI (Nat.le_refl _),cond_false];rfl) l.length 0 () (by omega) trivial
noncomputable def shLx:Sh:=⟨.x 0,[.l .a wT,.i .i64],[],[]⟩
noncomputable def zXd:Sh:=⟨.r,[.b],[],[]⟩
noncomputable def shSx:Sh:=⟨.x 0,[],[],[]⟩
noncomputable def shWx:Sh:=⟨.x 0,[.l .a yF],[],[]⟩
noncomputable abbrev LL7:Lo:=loT [(38,[false,true,false,true,true],Llg.row (lpR (zSi (odT []) (loT [])) (fun q=>lnO (nth .u q.hs 0)) [shLx,zXd])),(65,[false,true,false,true],Lwd.row (lpR (zSl (odT []) (loT [])) (fun q=>lnO (nth .u q.hs 0)) [shWx,zXd]))]
noncomputable abbrev LS7(eqB:Raw→Raw→Bool):Lo:=loT [(26,[false,true,false,true,true],Lsm.row (lpR (zSk (odT [(37,kcD (pB eqB) true)]) (loT [])) (fun q=>lnO (nth .u q.hs 0)) [shSx,zXd]))]
noncomputable def lgB(n:Nat)(c:Int):Bool:=bif ilt 110 (.ofNat n)then(bif !ilt 4096 (.ofNat n)then true else(bif ilt 5000 (.ofNat n)then true else(bif !ilt 110 (.ofNat n)then ilt 110 c else false)))else(bif ilt 5000 (.ofNat n)then true else(bif !ilt 110 (.ofNat n)then ilt 110 c else false))
noncomputable abbrev lgW(n:Nat)(c:Int):Option (T×Bool):=bif ilt 110 (.ofNat n)then(bif !ilt 4096 (.ofNat n)then yB true else(bif ilt 5000 (.ofNat n)then yB true else(bif !ilt 110 (.ofNat n)then yB (ilt 110 c)else yB false)))else(bif ilt 5000 (.ofNat n)then yB true else(bif !ilt 110 (.ofNat n)then yB (ilt 110 c)else yB false))
theorem qOd(n:Nat)(c:Int):lgW n c=yB (lgB n c):=by
 unfold lgB;simp only[lgW];cases ilt 110 (.ofNat n)<;>cases ilt 4096 (.ofNat n)<;>cases ilt 5000 (.ofNat n)<;>rfl
noncomputable abbrev lgY(y:Option (Ex×Hs)):Option (T×Bool):=bif shT shLx y then lgW (lOf wT (hdT (hsO y).hs)).length (iOf (hdT (hsO y).hs.tail))else(bif shT zXd y then yB (bOf (hdT (hsO y).hs))else none)
theorem eLg(l:List Wt):((xQ Tryz.prog (evD Tryz.prog (odT []) (LL7) 60) 38 [.ls .a wT l] []).bind vW).run=lgY (lpF (zSi (odT []) (loT [])) l.length (iLg l 0 0)):=by kernel_rfl
noncomputable def lgZ(l:List Wt):Bool:=match lgF l with
 | some c=>lgB l.length c
 | none=>true
theorem qDp:bF Tryz.prog (evD Tryz.prog (odT []) (loT []) 60):=zAn mF wV kW 60
theorem qBh:zDk Tryz.prog LL7:=wG (wG kW qDp qLt nK) qDp qLo nK
noncomputable def oLg(fL:List Wt→Bool):List T→DT (T×Bool)
 | [.ls .a (.prod (.prod (.int .i64) (.prod (.int .i64) (.int .i64))) yF) l]=>grd (Nat.blt l.length 9223372036854775807) (.ret (.v (.bool (fL l)),true))
 | _=> .no
theorem zQd{a b:Nat}(h:Nat.blt a b=true):a<b:=by
 rcases Nat.lt_or_ge a b with g | g
 ·exact g
 ·rw[sI g]at h;cases h
theorem kLg:∀az tv nw,(oLg lgZ az).run=some (tv,nw)→∀k,KnP Tryz.prog k 38 az tv nw:=by
 intro az tv nw h k;unfold oLg at h;split at h
 ·rename_i l;obtain⟨h1,h2⟩:=qZ h;cases h2;have q:((xQ Tryz.prog (evD Tryz.prog (odT []) (LL7) 60) 38 [.ls .a wT l] []).bind vW).run=yB (lgZ l):=by
   rw[eLg,lpLg l (zQd h1)];unfold lgZ;cases lgF l with
   | none=>rfl
   | some c=>exact qOd l.length c
  exact rO (cz:=[.ls .a wT l]) mF wV qBh q rfl k
 ·cases h
noncomputable abbrev wdY(y:Option (Ex×Hs)):Option (T×Bool):=bif shT shWx y then yB (ilt 20 (.ofNat (lOf yF (hdT (hsO y).hs)).length))else(bif shT zXd y then yB (bOf (hdT (hsO y).hs))else none)
theorem eWd(l:List Rt):((xQ Tryz.prog (evD Tryz.prog (odT []) (LL7) 60) 65 [.ls .a yF l] []).bind vW).run=wdY (lpF (zSl (odT []) (loT [])) l.length (iWd l 0)):=by kernel_rfl
noncomputable def wdZ(l:List Rt):Bool:=bif wdF l then true else ilt 20 (.ofNat l.length)
noncomputable def oWd(fW:List Rt→Bool):List T→DT (T×Bool)
 | [.ls .a yF l]=>grd (Nat.blt l.length 9223372036854775807) (.ret (.v (.bool (fW l)),true))
 | _=> .no
theorem kWd:∀az tv nw,(oWd wdZ az).run=some (tv,nw)→∀k,KnP Tryz.prog k 65 az tv nw:=by
 intro az tv nw h k;unfold oWd at h;split at h
 ·rename_i l;obtain⟨h1,h2⟩:=qZ h;cases h2;have q:((xQ Tryz.prog (evD Tryz.prog (odT []) (LL7) 60) 65 [.ls .a yF l] []).bind vW).run=yB (wdZ l):=by
   rw[eWd,lpWd l (zQd h1)];unfold wdZ;cases wdF l<;>rfl
  exact rO (cz:=[.ls .a yF l]) mF wV qBh q rfl k
 ·cases h
noncomputable abbrev smY(y:Option (Ex×Hs)):Option (T×Bool):=bif shT shSx y then yB true else(bif shT zXd y then yB (bOf (hdT (hsO y).hs))else none)
theorem eSm(eqB:Raw→Raw→Bool)(a b:List Wt):((xQ Tryz.prog (evD Tryz.prog (odT [(37,kcD (pB eqB) true)]) (LS7 eqB) 60) 26 [.ls .a wT a,.ls .a wT b] []).bind vW).run=bif !ieq (.ofNat a.length) (.ofNat b.length)then yB false else smY (lpF (zSk (odT [(37,kcD (pB eqB) true)]) (loT [])) a.length (iSm a b 0)):=by kernel_rfl
noncomputable def smZ(eqB:Raw→Raw→Bool)(a b:List Wt):Bool:=ieq (.ofNat a.length) (.ofNat b.length)&&smL eqB a b
noncomputable def oSm(sM:List Wt→List Wt→Bool):List T→DT (T×Bool)
 | [.ls .a (.prod (.prod (.int .i64) (.prod (.int .i64) (.int .i64))) yF) a,.ls .a (.prod (.prod (.int .i64) (.prod (.int .i64) (.int .i64))) yF) b]=>grd (Nat.blt a.length 9223372036854775807) (.ret (.v (.bool (sM a b)),true))
 | _=> .no
theorem kSm:∀az tv nw,(oSm (smZ eqA) az).run=some (tv,nw)→∀k,KnP Tryz.prog k 26 az tv nw:=by
 intro az tv nw h k;unfold oSm at h;split at h
 ·rename_i a b;obtain⟨h1,h2⟩:=qZ h;cases h2;have q:((xQ Tryz.prog (evD Tryz.prog (odT [(37,kcD (pB eqA) true)]) (LS7 eqA) 60) 26 [.ls .a wT a,.ls .a wT b] []).bind vW).run=yB (smZ eqA a b):=by
   rw[eSm];unfold smZ;cases he:ieq (.ofNat a.length) (.ofNat b.length)with
   | false=>rfl
   | true=>
    have he2:a.length=b.length:=Int.ofNat.inj (wF.1 he);rw[lpSm eqA a b he2 (zQd h1)];cases smL eqA a b<;>rfl
  have o1:mH Tryz.prog (odT [(37,kcD (pB eqA) true)]):=jG wV fun az tv nw h k=>nH kEq az tv h k;exact rO (cz:=[.ls .a wT a,.ls .a wT b]) mF o1 (wG kW (zAn mF o1 kW 60) qLs nK) q rfl k
 ·cases h
noncomputable def oAw:List T→DT (T×Bool)
 | []=> .ret (.v (.bool true),true)
 | _=> .no
section
variable (fL:List Wt→Bool)(fW:List Rt→Bool)(mR:List Wt→List Wt→Raw→List Wt)(mE:List Wt→List Wt→Raw→Int)(fr:Int→Raw)(cE:List Wt→Int)(sM:List Wt→List Wt→Bool)
noncomputable abbrev OS:Od:=odT [(38,odR [.list wT] (oLg fL)),(65,odR [.list yF] (oWd fW)),(16,oAw),(41,odR [.list wT,.list wT,yF] (oMx mR mE)),(47,kcD (pI fr) true),(46,odR [.list wT] (oBc cE)),(26,odR [.list wT,.list wT] (oSm sM))]
noncomputable abbrev gw(a b:List Wt){α:Type}(x:Option α):Option α:=gd (Nat.ble a.length 100000&&Nat.ble b.length 100000) x
noncomputable abbrev g9(a:List Wt){α:Type}(x:Option α):Option α:=gd (Nat.blt a.length 9223372036854775807) x
noncomputable abbrev qOa(z a:List Wt)(g:Int):Option (T×Bool):=bif ieq g 0 then g9 z (yB (sM z a))else yB false
noncomputable abbrev qGy(x y:Int)(a b:List Wt):Option (T×Bool):=bif ieq x y then(bif ieq x (cE a)then yB true else yB (ieq x (cE b)))else yB false
noncomputable abbrev zWc(x y z a b:List Wt)(e f g:Int):Option (T×Bool):=bif !ieq e 0 then qGy cE e f a b else(bif !ieq f 0 then qGy cE e f a b else gw a a (g9 x (bif sM x a then g9 y (bif sM y b then(bif !ieq g 0 then(bif ieq (.ofNat z.length) 0 then yB true else qOa sM z a g)else qOa sM z a g)else yB false)else yB false)))
theorem eLaw(a b:List Wt)(w:Raw):((xQ Tryz.prog (evD Tryz.prog (OS fL fW mR mE fr cE sM) (loT []) 60) 10 [.ls .a wT a,.ls .a wT b,.ag (rC w)] []).bind vW).run=gd (Nat.blt a.length 9223372036854775807) (bif fL a then yB true else gd (Nat.blt b.length 9223372036854775807) (bif fL b then yB true else(bif fW [toT w]then yB true else gw a b (gw a b (zWc cE sM (mR a b (fr 1)) (mR a b (fr 0)) (mR a a w) a b (mE a b (fr 1)) (mE a b (fr 0)) (mE a a w)))))):=by kernel_rfl
end
theorem qBx{a:Raw}(h:a.chk=0)(h1:∀y∈a.ln,y<4294967296)(h2:∀y∈a.ld,y<4294967296):Raw.of a.rat=a∧nS a.rat=0:=by
 obtain⟨l1,l2,c1,c2,e1,e2,e3⟩:=Raw.chk_ok h;have hn:(sgn a.neg (val a.ln)).natAbs=val a.ln:=by unfold sgn;split<;>omega
 have hg:Nat.gcd (val a.ln) a.d=1:=by
  unfold Raw.d;split
  ·exact Nat.gcd_one_right _
  ·rename_i h0;exact Classical.byContradiction fun hc=>e3 ⟨by omega,hc⟩
 have hd:=a.d_pos;have q1:a.rat.num=sgn a.neg (val a.ln):=by
  unfold Raw.rat;rw[Rat.num_mkRat,hn,Nat.gcd_comm,hg,if_neg (by omega)];simp
 have q2:a.rat.den=a.d:=by
  unfold Raw.rat;rw[Rat.den_mkRat,hn,Nat.gcd_comm,hg,if_neg (by omega)];simp
 have k1:val a.ln<qW:=Nat.lt_of_lt_of_le (yH h1) (Nat.pow_le_pow_right (by omega) l1)
 have k2:val a.ld<qW:=Nat.lt_of_lt_of_le (yH h2) (Nat.pow_le_pow_right (by omega) l2)
 have q3:wR a.rat.den=val a.ld:=by
  rw[q2];unfold wR Raw.d;by_cases h0:val a.ld=0
  ·rw[if_pos h0,if_pos rfl,h0]
  ·rw[if_neg h0,if_neg e1]
 have q4:decide (a.rat.num<0)=a.neg:=by
  rw[q1];cases hb:a.neg with
  | false=>exact decide_eq_false (by unfold sgn;simp)
  | true=>
   have:val a.ln≠0:=fun e=>e2 ⟨e,.inl hb⟩;exact decide_eq_true (by unfold sgn;simp;omega)
 constructor
 ·have e:Raw.of a.rat=⟨a.neg,yE (val a.ln),yE (val a.ld)⟩:=by unfold Raw.of;rw[q4,q1,hn,q3]
  rw[e,←zDq h1 c1,←zDq h2 c2]
 ·unfold nS;rw[q1,hn,q3,if_pos ⟨k1,k2⟩]
theorem zBi{a b:Raw}{q:Rat}(ha:a.chk=0)(hb:b.chk=0)(h:nS q=0):Gv.opE a b q=0∧opR a b q=Raw.of q:=by
 have e:Gv.opE a b q=0:=by unfold Gv.opE;rw[ha,hb,h];rfl
 exact⟨e,if_pos e⟩
theorem zOx:nS 0=0:=by unfold nS;rw[if_pos];exact⟨by decide,by decide⟩
theorem qDn:nS 1=0:=by
 unfold nS;rw[if_pos];have:(1:Nat)<qW:=Nat.lt_of_lt_of_le (show 1<4294967296^1 by omega) (Nat.pow_le_pow_right (by omega) (by omega))
 exact⟨this,Nat.lt_of_le_of_lt (show wR 1≤1 by decide) this⟩
theorem fr1:frA 1=Raw.of 1:=by show Raw.of ((1:Int):Rat)=_;rw[Rat.intCast_one]
theorem fr0:frA 0=Raw.of 0:=by show Raw.of ((0:Int):Rat)=_;rw[Rat.intCast_zero]
theorem gT:(frA 1).chk=0:=by rw[fr1];exact Raw.of_chk qDn
theorem zJn:(frA 0).chk=0:=by rw[fr0];exact Raw.of_chk zOx
theorem gU:(frA 1).rat=1:=by rw[fr1];exact Raw.of_rat 1
theorem zJo:(frA 0).rat=0:=by rw[fr0];exact Raw.of_rat 0
noncomputable abbrev m3A(w v:Raw)(g:Rt×Rt):Raw⊕Int:=m3F adA muA aeA meA w v g
theorem zTp{w v:Raw}{g:Rt×Rt}(hw:w.chk=0)(hv:v.chk=0)(h1:(rw' g.1).chk=0)(h2:(rw' g.2).chk=0)(r1:nS (w.rat*(rw' g.1).rat)=0)(r2:nS (v.rat*(rw' g.2).rat)=0)(r3:nS (w.rat*(rw' g.1).rat+v.rat*(rw' g.2).rat)=0):m3A w v g= .inl (Raw.of (w.rat*(rw' g.1).rat+v.rat*(rw' g.2).rat)):=by
 obtain⟨e1,f1⟩:=zBi hw h1 r1;obtain⟨e2,f2⟩:=zBi hv h2 r2;have e3:aeA (muA w (rw' g.1)) (muA v (rw' g.2))=0:=by
  show Gv.opE (opR _ _ _) (opR _ _ _) (Raw.rat (opR _ _ _)+Raw.rat (opR _ _ _))=0;rw[f1,f2,Raw.of_rat,Raw.of_rat];exact(zBi (Raw.of_chk r1) (Raw.of_chk r2) r3).1
 have e4:adA (muA w (rw' g.1)) (muA v (rw' g.2))=Raw.of (w.rat*(rw' g.1).rat+v.rat*(rw' g.2).rat):=by
  show opR (opR _ _ _) (opR _ _ _) (Raw.rat (opR _ _ _)+Raw.rat (opR _ _ _))=_;rw[f1,f2,Raw.of_rat,Raw.of_rat];exact(zBi (Raw.of_chk r1) (Raw.of_chk r2) r3).2
 have e1':meA w (rw' g.1)=0:=e1;have e2':meA v (rw' g.2)=0:=e2;unfold m3A m3F;rw[yJ e1',yJ e2',yJ e3,e4];rfl
theorem qOf{w v t:Raw}{g:Rt×Rt}(h:m3A w v g= .inl t):t=Raw.of (w.rat*(rw' g.1).rat+v.rat*(rw' g.2).rat):=by
 unfold m3A m3F at h;cases e1:ieq (meA w (rw' g.1)) 0 with
 | false=>rw[e1]at h;cases h
 | true=>
  cases e2:ieq (meA v (rw' g.2)) 0 with
  | false=>rw[e1,e2]at h;cases h
  | true=>
   cases e3:ieq (aeA (muA w (rw' g.1)) (muA v (rw' g.2))) 0 with
   | false=>rw[e1,e2,e3]at h;cases h
   | true=>
    rw[e1,e2,e3]at h;cases h;have g1:=(lK (wF.1 e1)).2.2.2.1;have g2:=(lK (wF.1 e2)).2.2.2.1;have g3:=(lK (wF.1 e3)).2.2.1;refine g3.trans ?_;rw[g1,g2]
theorem qOg{w v:Raw}{g:Rt×Rt}{e:Int}(h:m3A w v g= .inr e):e≠0:=by
 unfold m3A m3F at h;intro h0;subst h0;cases e1:ieq (meA w (rw' g.1)) 0 with
 | false=>
  rw[e1]at h;have:meA w (rw' g.1)=0:=Sum.inr.inj h;rw[yJ this]at e1;cases e1
 | true=>
  cases e2:ieq (meA v (rw' g.2)) 0 with
  | false=>
   rw[e1,e2]at h;have:meA v (rw' g.2)=0:=Sum.inr.inj h;rw[yJ this]at e2;cases e2
  | true=>
   cases e3:ieq (aeA (muA w (rw' g.1)) (muA v (rw' g.2))) 0 with
   | false=>
    rw[e1,e2,e3]at h;have:aeA (muA w (rw' g.1)) (muA v (rw' g.2))=0:=Sum.inr.inj h;rw[yJ this]at e3;cases e3
   | true=>rw[e1,e2,e3]at h;cases h
theorem nI{a b c a2 b2 c2:Int}:leP (a,b,c) (a2,b2,c2)=true↔a<a2∨a=a2∧(b<b2∨b=b2∧c<c2):=by
 show(bif !ieq a a2 then ilt a a2 else(bif !ieq b b2 then ilt b b2 else ilt c c2))=true↔_;by_cases h1:a=a2
 ·rw[yJ h1,Bool.not_true,cond_false];by_cases h2:b=b2
  ·rw[yJ h2,Bool.not_true,cond_false,fA];omega
  ·rw[zEk h2,Bool.not_false,cond_true,fA];omega
 ·rw[zEk h1,Bool.not_false,cond_true,fA];omega
theorem fG{p q r:Pt}(h:leP p q=true)(h2:leP q r=true):leP p r=true:=by
 obtain⟨a,b,c⟩:=p;obtain⟨a2,b2,c2⟩:=q;obtain⟨a3,b3,c3⟩:=r;have g:=nI.1 h;have g2:=nI.1 h2;exact nI.2 (by omega)
theorem nJ{p q:Pt}(h:leP p q=true):p≠q:=by
 obtain⟨a,b,c⟩:=p;obtain⟨a2,b2,c2⟩:=q;have g:=nI.1 h;intro e;have e1: @Eq Int a a2:=congrArg Prod.fst e;have e2: @Eq Int b b2:=congrArg (fun x:Pt=>x.2.1) e;have e3: @Eq Int c c2:=congrArg (fun x:Pt=>x.2.2) e;omega
theorem qBb{p q:Pt}(h:leP p q=true):leP q p=false:=by
 cases e:leP q p with
 | false=>rfl
 | true=>exact absurd rfl (nJ (fG h e))
theorem qBc{a b c a2 b2 c2:Int}(h:leP (a,b,c) (a2,b2,c2)=false)(h2:leP (a2,b2,c2) (a,b,c)=false):a=a2∧b=b2∧c=c2:=by
 have g:¬(a<a2∨a=a2∧(b<b2∨b=b2∧c<c2)):=fun k=>by rw[nI.2 k]at h;cases h
 have g2:¬(a2<a∨a2=a∧(b2<b∨b2=b∧c2<c)):=fun k=>by rw[nI.2 k]at h2;cases h2
 omega
theorem zTl{p q:Pt}(h:leP p q=false)(h2:leP q p=false):p=q:=by
 obtain⟨a,b,c⟩:=p;obtain⟨a2,b2,c2⟩:=q;obtain⟨e1,e2,e3⟩:=qBc h h2;rw[e1,e2,e3]
theorem qMs{p q:Pt}(h:ilt (cpP p q) 0=true):leP p q=true:=by
 obtain⟨a,b,c⟩:=p;obtain⟨a2,b2,c2⟩:=q;rw[nI];have hc:∀{a b:Int},(ieq (cmI a b) 0=true→a=b)∧(ilt (cmI a b) 0=true→a<b):=fun{a b}=>by
  unfold cmI;cases h1:ilt a b with
  | true=>exact⟨fun h=>(by cases h),fun _=>fA.1 h1⟩
  | false=>
   have k1:¬a<b:=fun k=>by rw[zNn k]at h1;cases h1
   cases h2:ilt b a with
   | true=>exact⟨fun h=>(by cases h),fun h=>(by cases h)⟩
   | false=>
    have k2:¬b<a:=fun k=>by rw[zNn k]at h2;cases h2
    exact⟨fun _=>(by omega),fun h=>(by cases h)⟩
 have h:ilt (bif !ieq (cmI a a2) 0 then cmI a a2 else(bif !ieq (cmI b b2) 0 then cmI b b2 else(bif !ieq (cmI c c2) 0 then cmI c c2 else 0))) 0=true:=h;cases h1:ieq (cmI a a2) 0 with
 | false=>rw[h1]at h;exact .inl (hc.2 h)
 | true=>
  have e1:=hc.1 h1;rw[h1]at h;cases h2:ieq (cmI b b2) 0 with
  | false=>rw[h2]at h;exact .inr ⟨e1,.inl (hc.2 h)⟩
  | true=>
   have e2:=hc.1 h2;rw[h2]at h;cases h3:ieq (cmI c c2) 0 with
   | false=>rw[h3]at h;exact .inr ⟨e1,.inr ⟨e2,hc.2 h⟩⟩
   | true=>rw[h3]at h;cases h
def Asc:List Wt→Prop
 | []=>True
 | x::l=>(∀y∈l,leP x.1 y.1=true)∧Asc l
theorem zJv{p q:Pt}:keq pT p q=true↔p=q:=by
 obtain⟨a,b,c⟩:=p;obtain⟨a2,b2,c2⟩:=q;have e:keq pT (a,b,c) (a2,b2,c2)=(ieq a a2&&(ieq b b2&&ieq c c2)):=rfl;rw[e];simp only[Bool.and_eq_true,wF,Prod.mk.injEq]
theorem zNs{p q:Pt}(h:p≠q):keq pT p q=false:=by
 cases e:keq pT p q with
 | false=>rfl
 | true=>exact absurd (zJv.1 e) h
theorem bW(k k':Pt)(x:Rt×Rt):∀m:Mp,jJ pT z0 k (dC pT k' x m)=bif keq pT k k' then x else jJ pT z0 k m
 | []=>rfl
 | e::m=>by
  have e1:dC pT k' x (e::m)=(bif keq pT k' e.1 then(k',x)::m else e::dC pT k' x m):=rfl;have e2:∀(q:Pt)(f:Pt×(Rt×Rt))(m:Mp),jJ pT z0 q (f::m)=(bif keq pT q f.1 then f.2 else jJ pT z0 q m):=fun _ _ _=>rfl;rw[e1];cases h:keq pT k' e.1 with
  | true=>
   obtain rfl:=zJv.1 h;rw[cond_true,e2,e2];show(bif keq pT k e.1 then x else jJ pT z0 k m)=_;cases keq pT k e.1<;>rfl
  | false=>
   rw[cond_false,e2,e2,bW k k' x m];cases h1:keq pT k e.1 with
   | false=>rfl
   | true=>
    obtain rfl:=zJv.1 h1;rw[zNs fun e'=>by rw[e',zJv.2 rfl]at h;cases h]
    rfl
theorem qPp(p:Pt)(m:Mp)(x:Wt):(jJ pT z0 p (zCp m x)).2=(jJ pT z0 p m).2:=by
 unfold zCp;rw[bW];cases h:keq pT p x.1 with
 | false=>rfl
 | true=>obtain rfl:=zJv.1 h;rfl
theorem qPq(p:Pt)(m:Mp)(x:Wt):(jJ pT z0 p (zCq m x)).1=(jJ pT z0 p m).1:=by
 unfold zCq;rw[bW];cases h:keq pT p x.1 with
 | false=>rfl
 | true=>obtain rfl:=zJv.1 h;rfl
theorem zRq(p:Pt)(m:Mp)(x:Wt):(jJ pT z0 p (zCp m x)).1=bif keq pT p x.1 then x.2 else(jJ pT z0 p m).1:=by
 unfold zCp;rw[bW];cases h:keq pT p x.1<;>rfl
theorem zRr(p:Pt)(m:Mp)(x:Wt):(jJ pT z0 p (zCq m x)).2=bif keq pT p x.1 then x.2 else(jJ pT z0 p m).2:=by
 unfold zCq;rw[bW];cases h:keq pT p x.1<;>rfl
theorem zEf{β:Type}(f:β→Wt→β)(l:List Wt):∀(k i:Nat)(m:β),i+k=l.length→fol (fun i m=>(.inl (f m (wA l i)):β⊕β)) id k i m=(l.drop i).foldl f m
 | 0,i,m,h=>by
  obtain rfl:i=l.length:=by omega
  simp[fol]
 | k+1,i,m,h=>by
  have hi:i<l.length:=by omega
  simp only[fol];rw[zEf f l k (i+1) _ (by omega),List.drop_eq_getElem_cons hi,List.foldl_cons,wA,qR]
  simp[hi]
theorem qNh(l:List Wt)(m:Mp):fm0 l m=l.foldl zCp m:=by
 unfold fm0;rw[zEf zCp l l.length 0 m (by omega)];rfl
theorem qNi(l:List Wt)(m:Mp):fm1 l m=l.foldl zCq m:=by
 unfold fm1;rw[zEf zCq l l.length 0 m (by omega)];rfl
noncomputable def wt(p:Pt):List Wt→Rt
 | []=>(false,[],[])
 | x::l=>bif keq pT p x.1 then x.2 else wt p l
theorem zSd{p:Pt}:∀{l:List Wt},(∀y∈l,p≠y.1)→wt p l=(false,[],[])
 | [],_=>rfl
 | x::l,h=>by
  unfold wt;rw[zNs (h x List.mem_cons_self)];exact zSd fun y hy=>h y (List.mem_cons_of_mem _ hy)
theorem zVb{x:Wt}:∀{l:List Wt},Asc l→x∈l→wt x.1 l=x.2
 | y::l,ha,hx=>by
  unfold wt;rcases List.mem_cons.1 hx with rfl | hx
  ·rw[zJv.2 rfl];rfl
  ·rw[zNs (Ne.symm (nJ (ha.1 x hx)))];exact zVb ha.2 hx
theorem qEr(p:Pt):∀(l:List Wt),wt p l=(false,[],[])∨∃x∈l,wt p l=x.2
 | []=> .inl rfl
 | y::l=>by
  unfold wt;cases keq pT p y.1 with
  | true=>exact .inr ⟨y,List.mem_cons_self,rfl⟩
  | false=>
   rcases qEr p l with h | ⟨x,hx,h⟩
   ·exact .inl h
   ·exact .inr ⟨x,List.mem_cons_of_mem _ hx,h⟩
theorem zTa(p:Pt):∀(l:List Wt)(m:Mp),(jJ pT z0 p (l.foldl zCp m)).2=(jJ pT z0 p m).2
 | [],_=>rfl
 | x::l,m=>by rw[List.foldl_cons,zTa p l,qPp]
theorem zTb(p:Pt):∀(l:List Wt)(m:Mp),(jJ pT z0 p (l.foldl zCq m)).1=(jJ pT z0 p m).1
 | [],_=>rfl
 | x::l,m=>by rw[List.foldl_cons,zTb p l,qPq]
theorem zHq(p:Pt):∀(l:List Wt)(m:Mp),(∀y∈l,p≠y.1)→(jJ pT z0 p (l.foldl zCp m)).1=(jJ pT z0 p m).1
 | [],_,_=>rfl
 | x::l,m,h=>by
  rw[List.foldl_cons,zHq p l _ fun y hy=>h y (List.mem_cons_of_mem _ hy),zRq,zNs (h x List.mem_cons_self)];rfl
theorem zHr(p:Pt):∀(l:List Wt)(m:Mp),(∀y∈l,p≠y.1)→(jJ pT z0 p (l.foldl zCq m)).2=(jJ pT z0 p m).2
 | [],_,_=>rfl
 | x::l,m,h=>by
  rw[List.foldl_cons,zHr p l _ fun y hy=>h y (List.mem_cons_of_mem _ hy),zRr,zNs (h x List.mem_cons_self)];rfl
theorem zNg(p:Pt):∀(l:List Wt)(m:Mp),Asc l→(jJ pT z0 p m).1=(false,[],[])→(jJ pT z0 p (l.foldl zCp m)).1=wt p l
 | [],m,_,h=>h
 | x::l,m,ha,h=>by
  rw[List.foldl_cons];unfold wt;cases hk:keq pT p x.1 with
  | true=>
   obtain rfl:=zJv.1 hk;rw[zHq x.1 l _ fun y hy=>nJ (ha.1 y hy),zRq,hk];rfl
  | false=>
   rw[zNg p l _ ha.2 (by rw[zRq,hk];exact h)]
   rfl
theorem zNh(p:Pt):∀(l:List Wt)(m:Mp),Asc l→(jJ pT z0 p m).2=(false,[],[])→(jJ pT z0 p (l.foldl zCq m)).2=wt p l
 | [],m,_,h=>h
 | x::l,m,ha,h=>by
  rw[List.foldl_cons];unfold wt;cases hk:keq pT p x.1 with
  | true=>
   obtain rfl:=zJv.1 hk;rw[zHr x.1 l _ fun y hy=>nJ (ha.1 y hy),zRr,hk];rfl
  | false=>
   rw[zNh p l _ ha.2 (by rw[zRr,hk];exact h)]
   rfl
theorem zQz{a b:List Wt}(ha:Asc a)(hb:Asc b)(p:Pt):jJ pT z0 p (fm1 b (fm0 a []))=(wt p a,wt p b):=by
 rw[qNi,qNh];refine Prod.ext ?_ ?_
 ·rw[zTb];exact zNg p a [] ha rfl
 ·exact zNh p b _ hb (by rw[zTa];rfl)
noncomputable def mxL(g:Pt→Raw⊕Int):List Pt→List Wt→List Wt⊕Int
 | [],o=> .inl o
 | p::ps,o=>match g p with
  | .inl t=>mxL g ps (bif ilt 0 (.ofNat t.ln.length)then(p,toT t)::o else o)
  | .inr e=> .inr e
theorem zTs(w v:Raw)(m:Mp)(ps:List Pt):∀(k i:Nat)(o:List Wt),i+k=ps.length→fol (gM3 adA muA aeA meA w v m ps) .inl k i o=mxL (fun p=>m3F adA muA aeA meA w v (jJ pT z0 p m)) (ps.drop i) o
 | 0,i,o,h=>by
  obtain rfl:i=ps.length:=by omega
  rw[List.drop_length];rfl
 | k+1,i,o,h=>by
  have hi:i<ps.length:=by omega
  have e:pA ps i=ps[i]:=by rw[pA,qR];simp[hi]
  rw[List.drop_eq_getElem_cons hi];simp only[fol,gM3,mxL,←e];cases m3F adA muA aeA meA w v (jJ pT z0 (pA ps i) m)with
  | inl t=>exact zTs w v m ps k (i+1) _ (by omega)
  | inr e=>rfl
theorem fK:∀(k:Nat)(a b:List Wt),mgP k a b=mgP k b a
 | 0,_,_=>rfl
 | k+1,a,b=>by
  simp only[mgP];cases a with
  | nil=>cases b with
   | nil=>rfl
   | cons y b=>simp only[mg1];rw[fK k [] b]
  | cons x a=>cases b with
   | nil=>simp only[mg1];rw[fK k a []]
   | cons y b=>
    simp only[mg1];cases h1:leP x.1 y.1 with
    | true=>simp only[cond_true,qBb h1,cond_false];rw[fK k a (y::b)]
    | false=>
     cases h2:leP y.1 x.1 with
     | true=>simp only[cond_true,cond_false];rw[fK k (x::a) b]
     | false=>simp only[cond_false,zTl h1 h2];rw[fK k a b]
theorem qSh{x:Wt}(o:List Wt)(h:x.2.2.1≠[]):(bif ilt 0 (.ofNat (rw' x.2).ln.length)then(x.1,toT (rw' x.2))::o else o)=x::o:=by
 have:0<(rw' x.2).ln.length:=List.length_pos_iff.2 h;rw[zNn (show(0:Int)<.ofNat (rw' x.2).ln.length by simpa using this)]
 rfl
theorem aF {g : Pt → Raw ⊕ Int} : ∀ (k : Nat) (a b o : List Wt), a.length + b.length ≤ k → Asc a → Asc b →
  (∀ x ∈ a, x.2.2.1 ≠ [] ∧ (g x.1 = .inl (rw' x.2) ∨ ∃ e, e ≠ 0 ∧ g x.1 = .inr e)) → (∀ y ∈ b, (∀ x ∈ a, y.1 ≠ x.1) → ∃ t, g y.1 = .inl t ∧ t.ln = []) →
  mxL g (mgP k a b) o = .inl (a.reverse ++ o) ∨ ((∃ x ∈ a, ∃ e, g x.1 = .inr e) ∧ ∃ e, e ≠ 0 ∧ mxL g (mgP k a b) o = .inr e)
 | 0, a, b, o, hk, _, _, _, _ => by
  have ha : a = [] := List.eq_nil_of_length_eq_zero (by omega)
  subst ha
  exact .inl rfl
 | k + 1, a, b, o, hk, ha, hb, hg, hh => by
  have step : ∀ (x : Wt) (a' b' : List Wt), a = x :: a' → a'.length + b'.length ≤ k → Asc b' → (∀ y ∈ b', y ∈ b ∧ x.1 ≠ y.1) → mgP (k + 1) a b = x.1 :: mgP k a' b' → mxL g (mgP (k + 1) a b) o = .inl (a.reverse ++ o) ∨ ((∃ x ∈ a, ∃ e, g x.1 = .inr e) ∧ ∃ e, e ≠ 0 ∧ mxL g (mgP (k + 1) a b) o = .inr e) := by
   intro x a' b' e hl hb' hs hm
   subst e
   rw [hm]
   obtain ⟨h1, h2⟩ := hg x List.mem_cons_self
   simp only [mxL]
   rcases h2 with h2 | ⟨e, he, h2⟩
   ·rw [h2]
    simp only [qSh o h1]
    rcases aF k a' b' (x :: o) hl ha.2 hb' (fun z hz => hg z (List.mem_cons_of_mem _ hz)) (fun y hy hn => hh y (hs y hy).1 fun z hz => by
     rcases List.mem_cons.1 hz with rfl | hz
     ·exact Ne.symm (hs y hy).2
     ·exact hn z hz) with h | ⟨⟨z, hz, h⟩, h3⟩
    ·exact .inl (by rw [h]; simp)
    ·exact .inr ⟨⟨z, List.mem_cons_of_mem _ hz, h⟩, h3⟩
   ·rw [h2]
    exact .inr ⟨⟨x, List.mem_cons_self, e, h2⟩, e, he, rfl⟩
  have skip : ∀ (y : Wt) (b' : List Wt), b = y :: b' → a.length + b'.length ≤ k → (∀ x ∈ a, y.1 ≠ x.1) → mgP (k + 1) a b = y.1 :: mgP k a b' → mxL g (mgP (k + 1) a b) o = .inl (a.reverse ++ o) ∨ ((∃ x ∈ a, ∃ e, g x.1 = .inr e) ∧ ∃ e, e ≠ 0 ∧ mxL g (mgP (k + 1) a b) o = .inr e) := by
   intro y b' e hl hn hm
   subst e
   rw [hm]
   obtain ⟨t, h1, h2⟩ := hh y List.mem_cons_self hn
   simp only [mxL]
   rw [h1]
   simp only [h2]
   exact aF k a b' o hl ha hb.2 hg fun z hz => hh z (List.mem_cons_of_mem _ hz)
  cases a with
  | nil => cases b with
   | nil => exact .inl rfl
   | cons y b => exact skip y b rfl (by simp only [List.length_cons, List.length_nil] at hk ⊢; omega) (fun x hx => by cases hx) rfl
  | cons x a => cases b with
   | nil => exact step x a [] rfl (by simp only [List.length_cons, List.length_nil] at hk ⊢; omega) trivial (fun y hy => by cases hy) rfl
   | cons y b =>
    simp only [List.length_cons] at hk
    cases h1 : leP x.1 y.1 with
    | true => exact step x a (y :: b) rfl (by simp only [List.length_cons]; omega) hb (fun z hz => ⟨hz, by
      rcases List.mem_cons.1 hz with rfl | hz
      ·exact nJ h1
      ·exact nJ (fG h1 (hb.1 z hz))⟩) (by simp only [mgP, mg1, h1, cond_true])
    | false =>
     cases h2 : leP y.1 x.1 with
     | true => exact skip y b rfl (by simp only [List.length_cons]; omega) (fun z hz => by
       rcases List.mem_cons.1 hz with rfl | hz
       ·exact nJ h2
       ·exact nJ (fG h2 (ha.1 z hz))) (by simp only [mgP, mg1, h1, h2, cond_true, cond_false])
     | false =>
      have e := zTl h1 h2
      exact step x a b rfl (by omega) hb.2 (fun z hz => ⟨List.mem_cons_of_mem _ hz, by rw [e]; exact nJ (hb.1 z hz)⟩) (by simp only [mgP, mg1, h1, h2, cond_false])
noncomputable abbrev gB(l:List Wt)(j:Nat):Unit⊕Option Int:=gB0 Raw.chk l j ()
theorem qAd{l:List Wt}{i:Nat}(h:gB l i= .inl ()):(0<i→leP (wA l (i-1)).1 (wA l i).1=true)∧(rw' (wA l i).2).chk=0∧(wA l i).2.2.1≠[]:=by
 unfold gB gB0 at h;cases h1:zGo (wA l i).1 with
 | true=>rw[h1]at h;cases h
 | false=>
  rw[h1,cond_false]at h;cases h2:(ilt 0 (.ofNat i)&&!ilt (cpP (wA l (i-1)).1 (wA l i).1) 0)with
  | true=>rw[h2]at h;cases h
  | false=>
   rw[h2,cond_false]at h;cases h3:ieq (Raw.chk (rw' (wA l i).2)) 0 with
   | false=>rw[h3]at h;cases h
   | true=>
    rw[h3]at h;refine⟨fun hi=>?_,wF.1 h3,fun e=>?_⟩
    ·rw[zNn (show(0:Int)<.ofNat i by simpa using hi),Bool.true_and]at h2
     cases h4:ilt (cpP (wA l (i-1)).1 (wA l i).1) 0 with
     | true=>exact qMs h4
     | false=>rw[h4]at h2;cases h2
    ·rw[e]at h;cases h5:(wA l i).2.1<;>rw[h5]at h<;>cases h
theorem qAe{l:List Wt}{i:Nat}{y:Option Int}(h:gB l i= .inr y):∃e,e≠0∧y=some e:=by
 unfold gB gB0 at h;cases h1:zGo (wA l i).1 with
 | true=>rw[h1]at h;cases h;exact⟨7,by decide,rfl⟩
 | false=>
  rw[h1,cond_false]at h;cases h2:(ilt 0 (.ofNat i)&&!ilt (cpP (wA l (i-1)).1 (wA l i).1) 0)with
  | true=>rw[h2]at h;cases h;exact⟨2,by decide,rfl⟩
  | false=>
   rw[h2,cond_false]at h;cases h3:ieq (Raw.chk (rw' (wA l i).2)) 0 with
   | false=>
    rw[h3]at h;cases h;exact⟨_,fun e=>(by rw[yJ e]at h3;cases h3),rfl⟩
   | true=>
    rw[h3]at h;cases h4:((wA l i).2.1||ieq (.ofNat (wA l i).2.2.1.length) 0)with
    | true=>rw[h4]at h;cases h;exact⟨1,by decide,rfl⟩
    | false=>rw[h4]at h;cases h
theorem zNe{l:List Wt}:∀(k i:Nat),fol (gB0 Raw.chk l) (fun _=>none) k i ()=none→∀j,i≤j→j<i+k→gB l j= .inl ()
 | 0,i,_,j,h1,h2=>by omega
 | k+1,i,h,j,h1,h2=>by
  simp only[fol]at h;cases hg:gB l i with
  | inl u'=>
   have hg':gB0 Raw.chk l i ()= .inl u':=hg;rw[hg']at h;rcases Nat.eq_or_lt_of_le h1 with rfl | hlt
   ·exact hg
   ·exact zNe k (i+1) h j hlt (by omega)
  | inr y=>
   have hg':gB0 Raw.chk l i ()= .inr y:=hg;rw[hg']at h;obtain⟨e,_,rfl⟩:=qAe hg;cases h
theorem zNf{l:List Wt}{e:Int}:∀(k i:Nat),fol (gB0 Raw.chk l) (fun _=>none) k i ()=some e→e≠0
 | 0,i,h=>by cases h
 | k+1,i,h=>by
  simp only[fol]at h;cases hg:gB l i with
  | inl u'=>
   have hg':gB0 Raw.chk l i ()= .inl u':=hg;rw[hg']at h;exact zNf k (i+1) h
  | inr y=>
   have hg':gB0 Raw.chk l i ()= .inr y:=hg;rw[hg']at h;obtain⟨e',he,rfl⟩:=qAe hg;cases h;exact he
theorem qRo{l:List Wt}(h:bE l=0):∀j,j<l.length→gB l j= .inl ():=by
 unfold bE bcE at h;cases h1:Nat.beq l.length 0 with
 | true=>rw[h1]at h;cases h
 | false=>
  rw[h1,cond_false]at h;cases h2:Nat.blt 4096 l.length with
  | true=>rw[h2]at h;cases h
  | false=>
   rw[h2,cond_false]at h;cases h3:b0F Raw.chk l with
   | some e=>
    rw[h3]at h;exact absurd h (zNf l.length 0 h3)
   | none=>exact fun j hj=>zNe l.length 0 h3 j (Nat.zero_le _) (by omega)
theorem zSb{l:List Wt}{i:Nat}(hi:i<l.length):wA l i=l[i]:=by rw[wA,qR];simp[hi]
theorem zMl{l:List Wt}(h:∀j,j<l.length→gB l j= .inl ()):∀(k i:Nat),i+k=l.length→Asc (l.drop i)
 | 0,i,e=>by
  obtain rfl:i=l.length:=by omega
  rw[List.drop_length];trivial
 | 1,i,e=>by
  have hi:i<l.length:=by omega
  rw[List.drop_eq_getElem_cons hi,List.drop_eq_nil_of_le (by omega)]
  exact⟨fun y hy=>(by cases hy),trivial⟩
 | k+2,i,e=>by
  have hi:i<l.length:=by omega
  have hi2:i+1<l.length:=by omega
  have ih:=zMl h (k+1) (i+1) (by omega)
  have hq:=(qAd (h (i+1) hi2)).1 (Nat.succ_pos i);rw[Nat.add_sub_cancel,zSb hi,zSb hi2]at hq;rw[List.drop_eq_getElem_cons hi];refine⟨fun y hy=>?_,ih⟩;rw[List.drop_eq_getElem_cons hi2]at hy ih;rcases List.mem_cons.1 hy with rfl | hy
  ·exact hq
  ·exact fG hq (ih.1 y hy)
def okW(l:List Wt):Prop:=∀x∈l,(∀y∈x.2.2.1,y<4294967296)∧(∀y∈x.2.2.2,y<4294967296)
structure Bel(l:List Wt):Prop where
 asc:Asc l
 ck:∀x∈l,(rw' x.2).chk=0∧x.2.2.1≠[]
 lim:okW l
theorem zYm{l:List Wt}(h:bE l=0)(hw:okW l):Bel l:=by
 have g:=qRo h;refine⟨zMl g l.length 0 (by omega),fun x hx=>?_,hw⟩
 obtain⟨j,hj⟩:=List.getElem?_of_mem hx;have hlt:=(List.getElem?_eq_some_iff.1 hj).1;have e:wA l j=x:=by rw[zSb hlt];exact(List.getElem?_eq_some_iff.1 hj).2
 have:=(qAd (g j hlt)).2;rwa[e]at this
def okR(x:Rt):Prop:=(rw' x).chk=0∧Raw.of (rw' x).rat=rw' x∧nS (rw' x).rat=0
theorem Bel.rat{l:List Wt}(h:Bel l){x:Wt}(hx:x∈l):okR x.2:=by
 have h1:=(h.ck x hx).1;obtain⟨h2,h3⟩:=qBx h1 (h.lim x hx).1 (h.lim x hx).2;exact⟨h1,h2,h3⟩
theorem qBy:okR (false,[],[]):=by
 obtain⟨h2,h3⟩:=qBx (a:=⟨false,[],[]⟩) zPs (fun y hy=>by cases hy) (fun y hy=>by cases hy)
 exact⟨zPs,h2,h3⟩
theorem Bel.wt{l:List Wt}(h:Bel l)(p:Pt):okR (wt p l):=by
 rcases qEr p l with e | ⟨x,hx,e⟩
 ·rw[e];exact qBy
 ·rw[e];exact h.rat hx
section
variable {a b:List Wt}{w v:Raw}
theorem zRb:mxF adA muA aeA meA w v (fm1 b (fm0 a [])) (ptF a b)=mxL (fun p=>m3A w v (jJ pT z0 p (fm1 b (fm0 a [])))) (mgP (a.length+b.length) a b) []:=
 zTs w v (fm1 b (fm0 a [])) (ptF a b) (ptF a b).length 0 [] (Nat.zero_add _)
theorem qSa(ha:Bel a)(hb:Bel b)(hw:w.chk=0)(hv:v.chk=0)(rw1:w.rat=1)(rv:v.rat=0):mxF adA muA aeA meA w v (fm1 b (fm0 a [])) (ptF a b)= .inl a.reverse:=by
 have hg:∀p,m3A w v (jJ pT z0 p (fm1 b (fm0 a [])))= .inl (rw' (wt p a)):=fun p=>by
  rw[zQz ha.asc hb.asc];obtain⟨a1,a2,a3⟩:=ha.wt p;obtain⟨b1,b2,b3⟩:=hb.wt p;have e1:w.rat*(rw' (wt p a)).rat=(rw' (wt p a)).rat:=by rw[rw1,Rat.one_mul]
  have e2:v.rat*(rw' (wt p b)).rat=0:=by rw[rv,Rat.zero_mul]
  have e3:w.rat*(rw' (wt p a)).rat+v.rat*(rw' (wt p b)).rat=(rw' (wt p a)).rat:=by rw[e1,e2,Rat.add_zero]
  have:=zTp (g:=(wt p a,wt p b)) hw hv a1 b1 (by rw[e1];exact a3) (by rw[e2];exact zOx) (by rw[e3];exact a3)
  rw[this,e3,a2]
 rw[zRb];rcases aF (g:=fun p=>m3A w v (jJ pT z0 p (fm1 b (fm0 a [])))) (a.length+b.length) a b [] (Nat.le_refl _) ha.asc hb.asc (fun x hx=>⟨(ha.ck x hx).2,.inl (by rw[hg,zVb ha.asc hx])⟩) (fun y hy hn=>⟨_,hg y.1,by rw[zSd hn]⟩)with h | ⟨⟨x,_,e,h⟩,_⟩
 ·rw[h,List.append_nil]
 ·rw[hg]at h;cases h
theorem qSb(ha:Bel a)(hb:Bel b)(hw:w.chk=0)(hv:v.chk=0)(rw1:w.rat=0)(rv:v.rat=1):mxF adA muA aeA meA w v (fm1 b (fm0 a [])) (ptF a b)= .inl b.reverse:=by
 have hg:∀p,m3A w v (jJ pT z0 p (fm1 b (fm0 a [])))= .inl (rw' (wt p b)):=fun p=>by
  rw[zQz ha.asc hb.asc];obtain⟨a1,a2,a3⟩:=ha.wt p;obtain⟨b1,b2,b3⟩:=hb.wt p;have e1:w.rat*(rw' (wt p a)).rat=0:=by rw[rw1,Rat.zero_mul]
  have e2:v.rat*(rw' (wt p b)).rat=(rw' (wt p b)).rat:=by rw[rv,Rat.one_mul]
  have e3:w.rat*(rw' (wt p a)).rat+v.rat*(rw' (wt p b)).rat=(rw' (wt p b)).rat:=by rw[e1,e2,Rat.zero_add]
  have:=zTp (g:=(wt p a,wt p b)) hw hv a1 b1 (by rw[e1];exact zOx) (by rw[e2];exact b3) (by rw[e3];exact b3)
  rw[this,e3,b2]
 rw[zRb,fK];rcases aF (g:=fun p=>m3A w v (jJ pT z0 p (fm1 b (fm0 a [])))) (a.length+b.length) b a [] (by omega) hb.asc ha.asc (fun x hx=>⟨(hb.ck x hx).2,.inl (by rw[hg,zVb hb.asc hx])⟩) (fun y hy hn=>⟨_,hg y.1,by rw[zSd hn]⟩)with h | ⟨⟨x,_,e,h⟩,_⟩
 ·rw[h,List.append_nil]
 ·rw[hg]at h;cases h
theorem qSc(ha:Bel a)(rv:v.rat=1-w.rat):mxF adA muA aeA meA w v (fm1 a (fm0 a [])) (ptF a a)= .inl a.reverse∨∃e,e≠0∧mxF adA muA aeA meA w v (fm1 a (fm0 a [])) (ptF a a)= .inr e:=by
 rw[zRb];rcases aF (g:=fun p=>m3A w v (jJ pT z0 p (fm1 a (fm0 a [])))) (a.length+a.length) a a [] (Nat.le_refl _) ha.asc ha.asc (fun x hx=>⟨(ha.ck x hx).2,by
  show m3A w v (jJ pT z0 x.1 (fm1 a (fm0 a [])))=_∨_;rw[zQz ha.asc ha.asc,zVb ha.asc hx];cases hm:m3A w v (x.2,x.2)with
  | inl t=>
   have e:=qOf hm;have e2:w.rat*(rw' x.2).rat+v.rat*(rw' x.2).rat=(rw' x.2).rat:=by rw[rv];grind
   have e3:t=rw' x.2:=by rw[e];show Raw.of (w.rat*(rw' x.2).rat+v.rat*(rw' x.2).rat)=_;rw[e2];exact(ha.rat hx).2.1
   exact .inl (by rw[e3])
  | inr e=>exact .inr ⟨e,qOg hm,rfl⟩⟩) (fun y hy hn=>absurd rfl (hn y hy))with h | ⟨_,h⟩
 ·exact .inl (by rw[h,List.append_nil])
 ·exact .inr h
end
section
variable {a b:List Wt}{w:Raw}
theorem qKv(h:bE a≠0):mxA a b w= .inr (bE a):=by
 unfold mxA mxS;rw[zEk h];rfl
theorem qKw(ha:bE a=0)(h:bE b≠0):mxA a b w= .inr (bE b):=by
 unfold mxA mxS;rw[yJ ha,zEk h];rfl
theorem qRp(hw:w.chk=0)(h:w.rat≤1):ilt 0 (vU w (frA 1))=false:=qRt ((zZa hw gT).2 (by rw[gU];exact h))
theorem qKx(ha:bE a=0)(hb:bE b=0)(hw:w.chk=0)(hn:w.neg=false)(h1:w.rat≤1)(hs:seA (frA 1) w=0):mxA a b w=mxF adA muA aeA meA w (suA (frA 1) w) (fm1 b (fm0 a [])) (ptF a b):=by
 unfold mxA mxS;rw[yJ ha,yJ hb,yJ hw,hn,qRp hw h1,yJ hs];rfl
theorem qOk(ha:bE a=0)(hb:bE b=0)(ka:Bel a)(kb:Bel b):mxA a b (frA 1)= .inl a.reverse:=by
 have e:(frA 1).rat-(frA 1).rat=0:=by rw[gU];grind
 obtain⟨h1,h2⟩:=zBi (q:=(frA 1).rat-(frA 1).rat) gT gT (by rw[e];exact zOx)
 have h3:suA (frA 1) (frA 1)=Raw.of 0:=h2.trans (by rw[e])
 rw[qKx ha hb gT (by rw[fr1];rfl) (by rw[gU];exact Rat.le_refl) h1,h3]
 exact qSa ka kb gT (Raw.of_chk zOx) gU (Raw.of_rat 0)
theorem qHn(ha:bE a=0)(hb:bE b=0)(ka:Bel a)(kb:Bel b):mxA a b (frA 0)= .inl b.reverse:=by
 have e:(frA 1).rat-(frA 0).rat=1:=by rw[gU,zJo];grind
 obtain⟨h1,h2⟩:=zBi (q:=(frA 1).rat-(frA 0).rat) gT zJn (by rw[e];exact qDn)
 have h3:suA (frA 1) (frA 0)=Raw.of 1:=h2.trans (by rw[e])
 rw[qKx ha hb zJn (by rw[fr0];rfl) (by rw[zJo];decide) h1,h3]
 exact qSb ka kb zJn (Raw.of_chk qDn) zJo (Raw.of_rat 1)
theorem qHm(ha:bE a=0)(ka:Bel a):mxA a a w= .inl a.reverse∨∃e,e≠0∧mxA a a w= .inr e:=by
 have ne:∀{x:Int},ieq x 0=false→x≠0:=fun{x}h e=>by rw[yJ e]at h;cases h
 unfold mxA mxS;rw[yJ ha];cases h1:ieq w.chk 0 with
 | false=>exact .inr ⟨_,ne h1,rfl⟩
 | true=>
  cases h2:w.neg with
  | true=>exact .inr ⟨1,by decide,rfl⟩
  | false=>
   cases h3:ilt 0 (vU w (frA 1))with
   | true=>exact .inr ⟨1,by decide,rfl⟩
   | false=>
    cases h4:ieq (seA (frA 1) w) 0 with
    | false=>exact .inr ⟨_,ne h4,rfl⟩
    | true=>
     have h5:=(lK (wF.1 h4)).2.2.2.1;exact qSc (v:=suA (frA 1) w) ka (h5.trans (by rw[gU]))
end
theorem zUr(a:List Wt):smZ eqA a a=true:=by
 have g:∀k i,fol (gSm eqA a a) (fun _=>true) k i ()=true:=fun k=>by
  induction k with
  | zero=>intro i;rfl
  | succ k ih=>
   intro i;have e:gSm eqA a a i ()= .inl ():=by unfold gSm zVv eqA;rw[yJ rfl,yJ rfl,yJ rfl,decide_eq_true rfl];rfl
   simp only[fol,e];exact ih (i+1)
 unfold smZ smL;rw[yJ rfl,g];rfl
theorem qBf{l:List Wt}(h:lgZ l=false):l.length≤5000:=by
 unfold lgZ at h;cases hl:lgF l with
 | none=>rw[hl]at h;cases h
 | some c=>
  rw[hl]at h;have h:lgB l.length c=false:=h;unfold lgB at h;cases h1:ilt 5000 (.ofNat l.length)with
  | false=>
   rcases Nat.lt_or_ge 5000 l.length with g | g
   ·rw[zNn (show(5000:Int)<.ofNat l.length by show(5000:Int)<(l.length:Int);omega)]at h1;cases h1
   ·exact g
  | true=>
   rw[h1]at h;cases h2:ilt 110 (.ofNat l.length)<;>cases h3:ilt 4096 (.ofNat l.length)<;>rw[h2]at h<;>(try rw[h3]at h)<;>cases h
noncomputable abbrev mRA(a b:List Wt)(w:Raw):List Wt:=lsS (mxA a b w)
noncomputable abbrev mEA(a b:List Wt)(w:Raw):Int:=erS (mxA a b w)
theorem zWd{a b:List Wt}{w:Raw}(wa:okW a)(wb:okW b)(ha:a.length≤5000)(hb:b.length≤5000):zWc bE (smZ eqA) (mRA a b (frA 1)) (mRA a b (frA 0)) (mRA a a w) a b (mEA a b (frA 1)) (mEA a b (frA 0)) (mEA a a w)=yB true:=by
 by_cases h1:bE a=0
 ·by_cases h2:bE b=0
  ·have ka:=zYm h1 wa;have kb:=zYm h2 wb;unfold mRA mEA;rw[qOk h1 h2 ka kb,qHn h1 h2 ka kb];have e1:lsS (.inl a.reverse)=a:=List.reverse_reverse a;have e2:lsS (.inl b.reverse)=b:=List.reverse_reverse b;rw[e1,e2];have g9a:∀{l:List Wt},l.length≤5000→Nat.blt l.length 9223372036854775807=true:=fun{l}h=>yP (by omega)
   have q0:ieq (erS (.inl a.reverse)) 0=true:=rfl;have q1:ieq (erS (.inl b.reverse)) 0=true:=rfl;rcases qHm (w:=w) h1 ka with h | ⟨e,he,h⟩
   ·rw[h,e1];simp only[zWc,q0,q1,gw,g9,gd,qOa,g9a ha,g9a hb,nD (show a.length≤100000 by omega),zUr,Bool.not_true,cond_false,cond_true,Bool.and_self]
   ·rw[h];have q2:ieq (erS (.inr e)) 0=false:=zEk he;have q3:ieq (.ofNat (lsS (.inr e:List Wt⊕Int)).length) 0=true:=rfl;simp only[zWc,q0,q1,q2,q3,gw,g9,gd,g9a ha,g9a hb,nD (show a.length≤100000 by omega),zUr,Bool.not_true,Bool.not_false,cond_false,cond_true,Bool.and_self]
  ·unfold mRA mEA;rw[qKw (w:=frA 1) h1 h2,qKw (w:=frA 0) h1 h2];have q1:erS (.inr (bE b))=bE b:=rfl;simp only[zWc,qGy,q1,zEk h2,Bool.not_false,cond_true,yJ rfl];cases ieq (bE b) (bE a)<;>rfl
 ·unfold mRA mEA;rw[qKv (b:=b) (w:=frA 1) h1,qKv (b:=b) (w:=frA 0) h1];have q1:erS (.inr (bE a))=bE a:=rfl;simp only[zWc,qGy,q1,zEk h1,Bool.not_false,cond_true,yJ rfl]
theorem qHb{a b:List Wt}{w:Raw}(wa:okW a)(wb:okW b)(ha:a.length<9223372036854775807)(hb:b.length<9223372036854775807):((xQ Tryz.prog (evD Tryz.prog (OS lgZ wdZ mRA mEA frA bE (smZ eqA)) (loT []) 60) 10 [.ls .a wT a,.ls .a wT b,.ag (rC w)] []).bind vW).run=yB true:=by
 rw[eLaw,yP ha,yP hb];cases h1:lgZ a with
 | true=>rfl
 | false=>
  cases h2:lgZ b with
  | true=>rfl
  | false=>
   have l1:=qBf h1;have l2:=qBf h2;cases h3:wdZ [toT w]with
   | true=>simp only[gd,cond_true,cond_false]
   | false=>
    simp only[gd,gw,cond_true,cond_false,nD (show a.length≤100000 by omega),nD (show b.length≤100000 by omega),Bool.and_self]
    exact zWd wa wb l1 l2
theorem kAw(ha:KnP Tryz.prog 0 16 [] (.v (.bool true)) true)(k:Nat):KnP Tryz.prog k 16 [] (.v (.bool true)) true:=ha.clean rfl rfl k
noncomputable abbrev OSA:Od:=OS lgZ wdZ mRA mEA frA bE (smZ eqA)
theorem qSg(ha:KnP Tryz.prog 0 16 [] (.v (.bool true)) true):mH Tryz.prog OSA:=
 jG (jG (jG (jG (jG (jG (jG wV (sN kSm)) (sN kBc)) fun az tv nw h k=>nH qAt az tv h k) (sN kMx)) (fun az tv nw h k=>by
  unfold oAw at h;split at h
  ·cases h;exact kAw ha k
  ·cases h)) (sN kWd)) (sN kLg)
theorem zKj{l:List Wt}(h:dD (.list wT) l):okW l∧l.length<9223372036854775807:=by
 refine⟨fun x hx=>?_,?_⟩
 ·obtain⟨_,_,⟨_,h1⟩,_,h2⟩:=h.2 x hx;exact⟨h1,h2⟩
 ·have h1:l.length*Ty.bts wT≤140737488355328:=h.1;have h2:1≤Ty.bts wT:=by decide
  have:=Nat.le_trans (Nat.mul_le_mul_left l.length h2) h1;omega
theorem qGz(ha:KnP Tryz.prog 0 16 [] (.v (.bool true)) true)(x0 x1:List Wt)(x2:Rt)(w0:dD (.list wT) x0)(w1:dD (.list wT) x1)(w2:dD yF x2):KnP Tryz.prog 0 10 [.ls .a wT x0,.ls .a wT x1,.ag (qB .a yF x2)] (.v (.bool true)) true:=by
 obtain⟨b,l,m⟩:=x2;exact rO (cz:=[.ls .a wT x0,.ls .a wT x1,.ag (rC ⟨b,l,m⟩)]) mF (qSg ha) kW (qHb (zKj w0).1 (zKj w1).1 (zKj w0).2 (zKj w1).2) rfl 0
theorem qHa(x0 x1:List Wt)(x2:Rt)(w0:dD (.list wT) x0)(w1:dD (.list wT) x1)(w2:dD yF x2):KnP Tryz.prog 0 10 [.ls .a wT x0,.ls .a wT x1,.ag (qB .a yF x2)] (.v (.bool true)) true:=qGz qRw x0 x1 x2 w0 w1 w2
end Go.Proofs.YtdfmdiakjdggbaaGreatDoor

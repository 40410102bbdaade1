import Derived.Test.YtdfmdiakjdggbaaGreatDoorBaseF
set_option linter.unusedVariables false
set_option linter.unusedSimpArgs false
set_option linter.unnecessarySimpa false
namespace Go
abbrev j7:=@Int.natCast_nonneg
abbrev x9:=@Nat.add_sub_cancel
abbrev yb:=@Int.le_of_lt
abbrev uV:=@List.drop_length
abbrev ub:=@Int.le_trans
abbrev ud:=@Int.ofNat_lt
abbrev uz:=@Bool.not_eq_false'
abbrev gA:=@Int.ofNat.inj
abbrev dm:=@Int.not_lt
end Go
namespace Go.Proofs.YtdfmdiakjdggbaaGreatDoor
open Go Go.Gv Go.Ev IntKind
noncomputable section
set_option maxRecDepth 1000000
def pfs:List Nat:=[16,22,23,24,30,31,32,35,36,43,44,45,46,61,70,76,77,78,79,94,95,119,134,146,156,157,158,169,170,171,183,184,185,186,187,228,234,240,241,242,269]
def i(n:Int):T:= .v (.int .i64 n)
def w(n:Int):T:= .v (.int .u32 n)
def tt:T:= .v (.bool true)
def ff:T:= .v (.bool false)
def nl:T:= .v (.slice none 0 0)
def sL(l:List T):T:= .sl l l.length
def ea1:List T:=[(.sl [(i 50),(i 5),(i 0),ff,(sL [(w 1)]),(sL [(w 2)]),(i 100),(i 10),(i 0),ff,(sL [(w 1)]),(sL [(w 2)])] 2)]
def et1:T:=(i 0)
theorem er1:kN Tryz.prog (evC Tryz.prog noS (orF Tryz.prog (xZ tb0) pfs) 1000) 0 46 ea1=some (et1,true):=by kernel_rfl
def eb1:List (Nat×(List T→Option (T×Bool))):=(46,zCh ea1 (et1,true))::tb0
theorem eo1:qR Tryz.prog (xZ eb1):=qR.cons qLs (sZ (by kernel_rfl) rD qLs pfs er1) (by kernel_rfl)
def ea2:List T:=[(.ag [(sL [(i (-100)),(i 0),(i 100)]),(sL [(i 0),(i 10)]),(sL [(i 0)]),(.sl [(.v (.int .u8 0)),(i 0),(i 0),(.v (.int .u8 1)),(i 10),(i 20)] 2),(i 5),(i 50),(i 1),(.sl [(i 0),ff,(sL [(w 1)]),(sL [])] 1),(.sl [(i 0),ff,(sL [(w 1)]),(sL [])] 1),ff,(sL [(w 1)]),(sL [(w 10)]),ff,nl,nl,ff,nl,nl])]
def et2:T:=(i 0)
theorem er2:kN Tryz.prog (evC Tryz.prog noS (orF Tryz.prog (xZ eb1) pfs) 1000) 0 119 ea2=some (et2,true):=by kernel_rfl
def eb2:List (Nat×(List T→Option (T×Bool))):=(119,zCh ea2 (et2,true))::eb1
theorem eo2:qR Tryz.prog (xZ eb2):=qR.cons eo1 (sZ (by kernel_rfl) rD eo1 pfs er2) (by kernel_rfl)
def ea3:List T:=[(.ag [(sL [(i (-100)),(i 0),(i 100)]),(sL [(i 0),(i 10)]),(sL [(i 0)]),(.sl [(.v (.int .u8 0)),(i 0),(i 0),(.v (.int .u8 1)),(i 10),(i 20)] 2),(i 5),(i 50),(i 1),(.sl [(i 0),ff,(sL [(w 1)]),(sL [])] 1),(.sl [(i 0),ff,(sL [(w 1)]),(sL [])] 1),ff,(sL [(w 1)]),(sL [(w 10)]),ff,nl,nl,ff,nl,nl,(i 10),(sL [(sL [(i 0),(i 1)]),(sL [(i 10),(i 11)]),(sL [(i 9),(i 10)]),(sL [(i 1),(i 2)])]),(sL [(sL [(i 0),(i 0),(i 0),(i 0),(i 1),(i 1),(i 2),(i 2),(i 0),(i 0),(i 3),(i 3)])])])]
def et3:T:=(i 0)
theorem er3:kN Tryz.prog (evC Tryz.prog noS (orF Tryz.prog (xZ eb2) pfs) 1000) 0 61 ea3=some (et3,true):=by kernel_rfl
def eb3:List (Nat×(List T→Option (T×Bool))):=(61,zCh ea3 (et3,true))::eb2
theorem eo3:qR Tryz.prog (xZ eb3):=qR.cons eo2 (sZ (by kernel_rfl) rD eo2 pfs er3) (by kernel_rfl)
def ea4:List T:=[(sL [(sL [(i (-100)),(i 0),(i 100)]),(sL [(i 0),(i 10)]),(sL [(i 0)])]),(sL [(i 50),(i 5),(i 0)])]
def et4:T:=(.tu [(.sl [(i 2),ff,(sL [(w 1)]),(sL [(w 4)]),(i 3),ff,(sL [(w 1)]),(sL [(w 4)]),(i 4),ff,(sL [(w 1)]),(sL [(w 4)]),(i 5),ff,(sL [(w 1)]),(sL [(w 4)])] 4),(i 0)])
theorem er4:kN Tryz.prog (evC Tryz.prog noS (orF Tryz.prog (xZ eb3) pfs) 1000) 0 78 ea4=some (et4,true):=by kernel_rfl
def eb4:List (Nat×(List T→Option (T×Bool))):=(78,zCh ea4 (et4,true))::eb3
theorem eo4:qR Tryz.prog (xZ eb4):=qR.cons eo3 (sZ (by kernel_rfl) rD eo3 pfs er4) (by kernel_rfl)
def ea5:List T:=[(.sl [ff,(sL [(w 1)]),(sL [(w 4)]),ff,(sL [(w 1)]),(sL [(w 4)]),ff,(sL [(w 1)]),(sL [(w 4)]),ff,(sL [(w 1)]),(sL [(w 4)])] 4),(.sl [ff,(sL [(w 10)]),(sL []),ff,(sL [(w 9)]),(sL []),ff,(sL []),(sL []),ff,(sL [(w 1)]),(sL [])] 4)]
def et5:T:=(.tu [(.ag [ff,(sL [(w 5)]),(sL [])]),(i 0)])
theorem er5:kN Tryz.prog (evC Tryz.prog noS (orF Tryz.prog (xZ eb4) pfs) 1000) 0 70 ea5=some (et5,true):=by kernel_rfl
def eb5:List (Nat×(List T→Option (T×Bool))):=(70,zCh ea5 (et5,true))::eb4
theorem eo5:qR Tryz.prog (xZ eb5):=qR.cons eo4 (sZ (by kernel_rfl) rD eo4 pfs er5) (by kernel_rfl)
def ea6:List T:=[(.sl [ff,(sL [(w 1)]),(sL [(w 4)]),ff,(sL [(w 1)]),(sL [(w 4)]),ff,(sL [(w 1)]),(sL [(w 4)]),ff,(sL [(w 1)]),(sL [(w 4)])] 4),(.sl [ff,(sL [(w 11)]),(sL []),ff,(sL [(w 10)]),(sL []),ff,(sL [(w 1)]),(sL []),ff,(sL [(w 2)]),(sL [])] 4)]
def et6:T:=(.tu [(.ag [ff,(sL [(w 6)]),(sL [])]),(i 0)])
theorem er6:kN Tryz.prog (evC Tryz.prog noS (orF Tryz.prog (xZ eb5) pfs) 1000) 0 70 ea6=some (et6,true):=by kernel_rfl
def eb6:List (Nat×(List T→Option (T×Bool))):=(70,zCh ea6 (et6,true))::eb5
theorem eo6:qR Tryz.prog (xZ eb6):=qR.cons eo5 (sZ (by kernel_rfl) rD eo5 pfs er6) (by kernel_rfl)
def ea7:List T:=[(.ag [(sL [(i (-100)),(i 0),(i 100)]),(sL [(i 0),(i 10)]),(sL [(i 0)]),(.sl [(.v (.int .u8 0)),(i 0),(i 0),(.v (.int .u8 1)),(i 10),(i 20)] 2),(i 5),(i 50),(i 1),(.sl [(i 0),ff,(sL [(w 1)]),(sL [])] 1),(.sl [(i 0),ff,(sL [(w 1)]),(sL [])] 1),ff,(sL [(w 1)]),(sL [(w 10)]),ff,nl,nl,ff,nl,nl,(i 10),(sL [(sL [(i 0),(i 1)]),(sL [(i 10),(i 11)]),(sL [(i 9),(i 10)]),(sL [(i 1),(i 2)])]),(sL [(sL [(i 0),(i 0),(i 0),(i 0),(i 1),(i 1),(i 2),(i 2),(i 0),(i 0),(i 3),(i 3)])])]),(i 1),(i 50),(i 5),(i 0),(i 0)]
def et7:T:=(.tu [(.sl [ff,(sL [(w 1)]),(sL [(w 2)]),ff,(sL [(w 3)]),(sL [(w 5)])] 2),(i 0)])
theorem er7:kN Tryz.prog (evC Tryz.prog noS (orF Tryz.prog (xZ eb6) pfs) 1000) 0 32 ea7=some (et7,true):=by kernel_rfl
def eb7:List (Nat×(List T→Option (T×Bool))):=(32,zCh ea7 (et7,true))::eb6
theorem eo7:qR Tryz.prog (xZ eb7):=qR.cons eo6 (sZ (by kernel_rfl) rD eo6 pfs er7) (by kernel_rfl)
def ea8:List T:=[(sL [(sL [(i (-100)),(i 0),(i 100)]),(sL [(i 0),(i 10)]),(sL [(i 0)])]),(sL [(i 100),(i 10),(i 0)])]
def et8:T:=(.tu [(.sl [(i 5),ff,(sL [(w 1)]),(sL [])] 1),(i 0)])
theorem er8:kN Tryz.prog (evC Tryz.prog noS (orF Tryz.prog (xZ eb7) pfs) 1000) 0 78 ea8=some (et8,true):=by kernel_rfl
def eb8:List (Nat×(List T→Option (T×Bool))):=(78,zCh ea8 (et8,true))::eb7
theorem eo8:qR Tryz.prog (xZ eb8):=qR.cons eo7 (sZ (by kernel_rfl) rD eo7 pfs er8) (by kernel_rfl)
def ea9:List T:=[(.ag [(sL [(i (-100)),(i 0),(i 100)]),(sL [(i 0),(i 10)]),(sL [(i 0)]),(.sl [(.v (.int .u8 0)),(i 0),(i 0),(.v (.int .u8 1)),(i 10),(i 20)] 2),(i 5),(i 50),(i 1),(.sl [(i 0),ff,(sL [(w 1)]),(sL [])] 1),(.sl [(i 0),ff,(sL [(w 1)]),(sL [])] 1),ff,(sL [(w 1)]),(sL [(w 10)]),ff,nl,nl,ff,nl,nl,(i 10),(sL [(sL [(i 0),(i 1)]),(sL [(i 10),(i 11)]),(sL [(i 9),(i 10)]),(sL [(i 1),(i 2)])]),(sL [(sL [(i 0),(i 0),(i 0),(i 0),(i 1),(i 1),(i 2),(i 2),(i 0),(i 0),(i 3),(i 3)])])]),(i 1),(i 100),(i 10),(i 0),(i 0)]
def et9:T:=(.tu [(.sl [ff,(sL [(w 1)]),(sL [(w 10)]),ff,(sL [(w 1)]),(sL [(w 5)])] 2),(i 0)])
theorem er9:kN Tryz.prog (evC Tryz.prog noS (orF Tryz.prog (xZ eb8) pfs) 1000) 0 32 ea9=some (et9,true):=by kernel_rfl
def eb9:List (Nat×(List T→Option (T×Bool))):=(32,zCh ea9 (et9,true))::eb8
theorem eo9:qR Tryz.prog (xZ eb9):=qR.cons eo8 (sZ (by kernel_rfl) rD eo8 pfs er9) (by kernel_rfl)
def ea10:List T:=[(.ag [(sL [(i (-100)),(i 0),(i 100)]),(sL [(i 0),(i 10)]),(sL [(i 0)]),(.sl [(.v (.int .u8 0)),(i 0),(i 0),(.v (.int .u8 1)),(i 10),(i 20)] 2),(i 5),(i 50),(i 1),(.sl [(i 0),ff,(sL [(w 1)]),(sL [])] 1),(.sl [(i 0),ff,(sL [(w 1)]),(sL [])] 1),ff,(sL [(w 1)]),(sL [(w 10)]),ff,nl,nl,ff,nl,nl,(i 10),(sL [(sL [(i 0),(i 1)]),(sL [(i 10),(i 11)]),(sL [(i 9),(i 10)]),(sL [(i 1),(i 2)])]),(sL [(sL [(i 0),(i 0),(i 0),(i 0),(i 1),(i 1),(i 2),(i 2),(i 0),(i 0),(i 3),(i 3)])])]),(i 1),(.sl [(i 50),(i 5),(i 0),ff,(sL [(w 1)]),(sL [(w 2)]),(i 100),(i 10),(i 0),ff,(sL [(w 1)]),(sL [(w 2)])] 2),(i 0)]
def et10:T:=(.tu [(.sl [ff,(sL [(w 3)]),(sL [(w 10)]),ff,(sL [(w 2)]),(sL [(w 5)])] 2),(i 0)])
theorem er10:kN Tryz.prog (evC Tryz.prog noS (orF Tryz.prog (xZ eb9) pfs) 1000) 0 22 ea10=some (et10,true):=by kernel_rfl
def qYz:List (Nat×(List T→Option (T×Bool))):=(22,zCh ea10 (et10,true))::eb9
theorem eo10:qR Tryz.prog (xZ qYz):=qR.cons eo9 (sZ (by kernel_rfl) rD eo9 pfs er10) (by kernel_rfl)
def ea11:List T:=[(.ag [(sL [(i (-100)),(i 0),(i 100)]),(sL [(i 0),(i 10)]),(sL [(i 0)]),(.sl [(.v (.int .u8 0)),(i 0),(i 0),(.v (.int .u8 1)),(i 10),(i 20)] 2),(i 5),(i 50),(i 1),(.sl [(i 0),ff,(sL [(w 1)]),(sL [])] 1),(.sl [(i 0),ff,(sL [(w 1)]),(sL [])] 1),ff,(sL [(w 1)]),(sL [(w 10)]),ff,nl,nl,ff,nl,nl,(i 10),(sL [(sL [(i 0),(i 1)]),(sL [(i 10),(i 11)]),(sL [(i 9),(i 10)]),(sL [(i 1),(i 2)])]),(sL [(sL [(i 0),(i 0),(i 0),(i 0),(i 1),(i 1),(i 2),(i 2),(i 0),(i 0),(i 3),(i 3)])])]),(i 1),(.sl [(i 50),(i 5),(i 0),ff,(sL [(w 1)]),(sL [(w 2)]),(i 100),(i 10),(i 0),ff,(sL [(w 1)]),(sL [(w 2)])] 2),(i 0),(.ag [ff,(sL [(w 1)]),(sL [(w 100)]),ff,(sL [(w 1)]),(sL [(w 20)]),ff,(sL [(w 1)]),(sL [(w 50)])]),(.v (.int .u8 1))]
def et11:T:=(.tu [(.sl [ff,(sL [(w 3)]),(sL [(w 10)]),ff,(sL [(w 23)]),(sL [(w 50)])] 2),(i 0)])
theorem er11:kN Tryz.prog (evC Tryz.prog noS (orF Tryz.prog (xZ qYz) pfs) 1000) 0 23 ea11=some (et11,true):=by kernel_rfl
def eb11:List (Nat×(List T→Option (T×Bool))):=(23,zCh ea11 (et11,true))::qYz
theorem eo11:qR Tryz.prog (xZ eb11):=qR.cons eo10 (sZ (by kernel_rfl) rD eo10 pfs er11) (by kernel_rfl)
def ea12:List T:=[]
def et12:T:=tt
theorem er12:kN Tryz.prog (evC Tryz.prog noS (orF Tryz.prog (xZ eb11) pfs) 1000) 0 16 ea12=some (et12,true):=by kernel_rfl
theorem jGp:KnP Tryz.prog 0 16 [] (.v (.bool true)) true:=sZ (by kernel_rfl) rD eo11 pfs er12
end
end Go.Proofs.YtdfmdiakjdggbaaGreatDoor
namespace Go.Proofs.YtdfmdiakjdggbaaGreatDoor
open Go Go.Gv Go.Ev Go.RowKit IntKind
noncomputable section
abbrev pT:Ty:= .prod (.int .i64) (.prod (.int .i64) (.int .i64))
abbrev wT:Ty:= .prod pT zL
abbrev Rt:=Ty.den zL
abbrev Pt:=Ty.den pT
abbrev Wt:=Ty.den wT
abbrev rw'(x:Rt):Raw:=⟨x.1,x.2.1,x.2.2⟩
abbrev toT(a:Raw):Rt:=(a.neg,a.ln,a.ld)
abbrev pC(p:Pt):List T:=[.v (.int .i64 p.1),.v (.int .i64 p.2.1),.v (.int .i64 p.2.2)]
abbrev rC(a:Raw):List T:=[.v (.bool a.neg),.ls .a .lim a.ln,.ls .a .lim a.ld]
abbrev rrT:=List (Nat×(List T→DT (T×Bool)))
theorem yL:Tryz.prog.follows .mixedOrders=true:=by kernel_rfl
abbrev yI(n:Int):Option (T×Bool):=some (.v (.int .i64 n),true)
abbrev yB(b:Bool):Option (T×Bool):=some (.v (.bool b),true)
def cmI(a b:Int):Int:=bif ilt a b then -1 else(bif ilt b a then 1 else 0)
theorem eCc(a b:Int):((qF Tryz.prog (evD Tryz.prog (odT []) (loT []) 60) 171 [.v (.int .i64 a),.v (.int .i64 b)] []).bind qJ).run=bif !ieq a a then(bif !ieq b b then yI 0 else yI (-1))else(bif !ieq b b then yI 1 else(bif ilt a b then yI (-1)else(bif ilt b a then yI 1 else yI 0))):=by kernel_rfl
def oCc:List T→DT (T×Bool)
 | [.v (.int .i64 a),.v (.int .i64 b)]=> .ret (.v (.int .i64 (cmI a b)),true)
 | _=> .no
theorem kCc:∀e j f,(oCc e).run=some (j,f)→∀k,KnP Tryz.prog k 171 e j f:=by
 intro e j f h k;unfold oCc at h;split at h
 ·rename_i a b;cases h;have q:((qF Tryz.prog (evD Tryz.prog (odT []) (loT []) 60) 171 [.v (.int .i64 a),.v (.int .i64 b)] []).bind qJ).run=yI (cmI a b):=by
   rw[eCc,yS rfl,yS rfl];unfold cmI;cases ilt a b<;>cases ilt b a<;>rfl
  exact yN (cz:=[.v (.int .i64 a),.v (.int .i64 b)]) yL jZ qA q rfl k
 ·cases h
abbrev O1':Od:=odT [(171,oCc)]
theorem jCh:wC Tryz.prog O1':=zS jZ kCc
def cpP(p q:Pt):Int:=bif !ieq (cmI p.1 q.1) 0 then cmI p.1 q.1 else(bif !ieq (cmI p.2.1 q.2.1) 0 then cmI p.2.1 q.2.1 else(bif !ieq (cmI p.2.2 q.2.2) 0 then cmI p.2.2 q.2.2 else 0))
theorem eCp(p q:Pt):((qF Tryz.prog (evD Tryz.prog (O1') (loT []) 60) 95 [.ag (pC p),.ag (pC q)] []).bind qJ).run=bif !ieq (cmI p.1 q.1) 0 then yI (cmI p.1 q.1)else(bif !ieq (cmI p.2.1 q.2.1) 0 then yI (cmI p.2.1 q.2.1)else(bif !ieq (cmI p.2.2 q.2.2) 0 then yI (cmI p.2.2 q.2.2)else yI 0)):=by kernel_rfl
def oCp:List T→DT (T×Bool)
 | [.ag [.v (.int .i64 a),.v (.int .i64 b),.v (.int .i64 c)],.ag [.v (.int .i64 e),.v (.int .i64 f),.v (.int .i64 j)]]=> .ret (.v (.int .i64 (cpP (a,b,c) (e,f,j))),true)
 | _=> .no
theorem kCp:∀e j f,(oCp e).run=some (j,f)→∀k,KnP Tryz.prog k 95 e j f:=by
 intro e j f h k;unfold oCp at h;split at h
 ·rename_i a b c y z A;cases h;have g:∀p q:Pt,((qF Tryz.prog (evD Tryz.prog (O1') (loT []) 60) 95 [.ag (pC p),.ag (pC q)] []).bind qJ).run=yI (cpP p q):=fun p q=>by
   rw[eCp];unfold cpP;cases ieq (cmI p.1 q.1) 0<;>cases ieq (cmI p.2.1 q.2.1) 0<;>cases ieq (cmI p.2.2 q.2.2) 0<;>rfl
  exact yN (cz:=[.ag (pC (a,b,c)),.ag (pC (y,z,A))]) yL jCh qA (g (a,b,c) (y,z,A)) rfl k
 ·cases h
def aO(p:Pt):Bool:=ilt p.1 (-200000)||(ilt 200000 p.1||(ilt p.2.1 (-100)||(ilt 100 p.2.1||(ilt p.2.2 (-100)||ilt 100 p.2.2))))
theorem eCk(p:Pt)(b:Bool)(l m:List Nat):((qF Tryz.prog (evD Tryz.prog (odT []) (loT []) 60) 94 [.ag (pC p++rC ⟨b,l,m⟩)] []).bind qJ).run=bif ilt p.1 (-200000)then yI 7 else(bif ilt 200000 p.1 then yI 7 else(bif ilt p.2.1 (-100)then yI 7 else(bif ilt 100 p.2.1 then yI 7 else(bif ilt p.2.2 (-100)then yI 7 else(bif ilt 100 p.2.2 then yI 7 else yI 0))))):=by kernel_rfl
def oCk:List T→DT (T×Bool)
 | [.ag [.v (.int .i64 a),.v (.int .i64 b),.v (.int .i64 c),.v (.bool s),.ls .a .lim l,.ls .a .lim m]]=> .ret (.v (.int .i64 (bif aO (a,b,c)then 7 else 0)),true)
 | _=> .no
theorem kCk:∀e j f,(oCk e).run=some (j,f)→∀k,KnP Tryz.prog k 94 e j f:=by
 intro e j f h k;unfold oCk at h;split at h
 ·rename_i a q c b l m;cases h;have g:∀p:Pt,((qF Tryz.prog (evD Tryz.prog (odT []) (loT []) 60) 94 [.ag (pC p++rC ⟨b,l,m⟩)] []).bind qJ).run=yI (bif aO p then 7 else 0):=fun p=>by
   rw[eCk];unfold aO;cases ilt p.1 (-200000)<;>cases ilt 200000 p.1<;>cases ilt p.2.1 (-100)<;>cases ilt 100 p.2.1<;>cases ilt p.2.2 (-100)<;>cases ilt 100 p.2.2<;>rfl
  exact yN (cz:=[.ag (pC (a,q,c)++rC ⟨b,l,m⟩)]) yL jZ qA (g (a,q,c)) rfl k
 ·cases h
def leP(p q:Pt):Bool:=bif !ieq p.1 q.1 then ilt p.1 q.1 else(bif !ieq p.2.1 q.2.1 then ilt p.2.1 q.2.1 else ilt p.2.2 q.2.2)
theorem eLs(p q:Pt):((qF Tryz.prog (evD Tryz.prog (odT []) (loT []) 60) 167 [.ag (pC p),.ag (pC q)] []).bind qJ).run=bif !ieq p.1 q.1 then yB (ilt p.1 q.1)else(bif !ieq p.2.1 q.2.1 then yB (ilt p.2.1 q.2.1)else yB (ilt p.2.2 q.2.2)):=by kernel_rfl
def oLs:List T→DT (T×Bool)
 | [.ag [.v (.int .i64 a),.v (.int .i64 b),.v (.int .i64 c)],.ag [.v (.int .i64 e),.v (.int .i64 f),.v (.int .i64 j)]]=> .ret (.v (.bool (leP (a,b,c) (e,f,j))),true)
 | _=> .no
theorem kLs:∀e j f,(oLs e).run=some (j,f)→∀k,KnP Tryz.prog k 167 e j f:=by
 intro e j f h k;unfold oLs at h;split at h
 ·rename_i a b c y z A;cases h;have g:∀p q:Pt,((qF Tryz.prog (evD Tryz.prog (odT []) (loT []) 60) 167 [.ag (pC p),.ag (pC q)] []).bind qJ).run=yB (leP p q):=fun p q=>by
   rw[eLs];unfold leP;cases ieq p.1 q.1<;>cases ieq p.2.1 q.2.1<;>rfl
  exact yN (cz:=[.ag (pC (a,b,c)),.ag (pC (y,z,A))]) yL jZ qA (g (a,b,c) (y,z,A)) rfl k
 ·cases h
def qCb(ck:Raw→Int)(ad su mu:Raw→Raw→Raw)(ae se me:Raw→Raw→Int)(cm ce:Raw→Raw→Int)(fr:Int→Raw)(eqB:Raw→Raw→Bool):rrT:=[(75,kcD (pR ck) true),(34,kcD (pRR fun a b=>some (ad a b,ae a b)) true),(48,kcD (pRR fun a b=>some (su a b,se a b)) true),(49,kcD (pRR fun a b=>some (mu a b,me a b)) true),(33,kcD (pRI fun a b=>(cm a b,ce a b)) true),(47,kcD (pI fr) true),(37,kcD (pB eqB) true)]
def Lb0:Lp:=⟨0,
 ⟨[.h]++(us' 22++([.h,.h,.h]++(us' 71))),[]⟩,
 ⟨[.h]++(us' 96),[]⟩,
 ⟨[.u,.u,.h]++(us' 94),[]⟩⟩
abbrev qSr:Code:=lpc Tryz.prog 46 [false,true,false,true,true]
theorem qVq:cAt Tryz.prog 46 [false,true,false,true,true]=some (.loop qSr):=by kernel_rfl
abbrev zWx(f:Od)(e:Lo):Hs→Option (Hs⊕(Ex×Hs)):=Lb0.stp (evD Tryz.prog f e 60) 46 [false,true,false,true,true] qSr
def Lb1:Lp:=⟨2,
 ⟨us' 7++([.t (.fn 172 [.op 1 0,.op 0 0]),.t (.fn 173 [.op 1 0,.op 0 0])]++(us' 61++([.h,.h,.h]++(us' 24)))),[.r [.h,.h,.h] 28,.r [.h] 46]⟩,
 ⟨us' 8++([.t (.fn 173 [.op 1 0,.op 0 0])]++(us' 88)),[.r [.h,.h,.h] 28,.r [.h] 46]⟩,
 ⟨[.u,.u,.h]++(us' 94),[.g,.g]⟩⟩
abbrev qSs:Code:=lpc Tryz.prog 46 [false,true,false,true,true,true,true]
theorem qVr:cAt Tryz.prog 46 [false,true,false,true,true,true,true]=some (.loop qSs):=by kernel_rfl
abbrev zWy(f:Od)(e:Lo):Hs→Option (Hs⊕(Ex×Hs)):=Lb1.stp (evD Tryz.prog f e 60) 46 [false,true,false,true,true,true,true] qSs
def iB0(l:List Wt)(k i:Nat):Hs:=⟨[.ls .a wT l,.ls .a wT l,.v (.int .i64 (.ofNat k)),.v (.int .i64 (.ofNat i))],[],[]⟩
abbrev rN(a:Raw):List T:=[.v (.bool a.neg),.ls .n .lim a.ln,.ls .n .lim a.ld]
def iB1(l:List Wt)(k i:Nat)(t:Raw)(e:Int):Hs:=⟨[.ls .a wT l,.v (.int .i64 (.ofNat k)),.v (.int .i64 (.ofNat i))],[],[rN t,[.v (.int .i64 e)]]⟩
abbrev St':=Option (Hs⊕(Ex×Hs))
def nx{α:Type}(i:Nat)(x:α):Option α:=bif Nat.blt (i+1) 9223372036854775808 then some x else none
theorem xC{α:Type}{i:Nat}{x:α}(h:i+1<9223372036854775808):nx i x=some x:=by
 unfold nx;rw[zP h];rfl
abbrev wA(l:List Wt)(i:Nat):Wt:=nth wT.zero l i
abbrev qJy(e:Int):St':=some (.inr (.r,⟨[.v (.int .i64 e)],[],[]⟩))
section
variable (ck:Raw→Int)(ad su mu:Raw→Raw→Raw)(ae se me:Raw→Raw→Int)(cm ce:Raw→Raw→Int)(fr:Int→Raw)(eqB:Raw→Raw→Bool)
abbrev OB:Od:=odT ((95,odR [pT,pT] oCp)::(94,odR [wT] oCk)::qCb ck ad su mu ae se me cm ce fr eqB)
abbrev b0K(x:Wt)(k:St'):St':=bif !ieq (ck (rw' x.2)) 0 then qJy (ck (rw' x.2))else(bif x.2.1 then qJy 1 else(bif ieq (.ofNat x.2.2.1.length) 0 then qJy 1 else k))
abbrev pr(i:Nat):Int:=Int.sub (.ofNat i) 1
theorem sB0(l:List Wt)(k i:Nat):zWx (OB ck ad su mu ae se me cm ce fr eqB) (loT []) (iB0 l k i)=bif Nat.blt i k then(bif Nat.blt i l.length then(bif !ieq (bif aO (wA l i).1 then 7 else 0) 0 then qJy (bif aO (wA l i).1 then 7 else 0)else(bif ilt 0 (.ofNat i)then(bif inW (pr i)then(bif nng (pr i)then(bif Nat.blt (pr i).toNat l.length then(bif ilt 0 (.ofNat i)then(bif !ilt (cpP (wA l (pr i).toNat).1 (wA l i).1) 0 then qJy 2 else b0K ck (wA l i) (nx i (.inl (iB0 l k (i+1)))))else b0K ck (wA l i) (nx i (.inl (iB0 l k (i+1)))))else none)else none)else none)else(bif ilt 0 (.ofNat i)then none else b0K ck (wA l i) (nx i (.inl (iB0 l k (i+1)))))))else none)else some (.inr (.x 1,⟨[.ls .a wT l],[],[]⟩)):=by kernel_rfl
def gB0(l:List Wt)(i:Nat)(_:Unit):Unit⊕Option Int:=bif aO (wA l i).1 then .inr (some 7)else(bif ilt 0 (.ofNat i)&&!ilt (cpP (wA l (i-1)).1 (wA l i).1) 0 then .inr (some 2)else(bif !ieq (ck (rw' (wA l i).2)) 0 then .inr (some (ck (rw' (wA l i).2)))else(bif(wA l i).2.1||ieq (.ofNat (wA l i).2.2.1.length) 0 then .inr (some 1)else .inl ())))
def b0F(l:List Wt):Option Int:=fol (gB0 ck l) (fun _=>none) l.length 0 ()
def qJx(l:List Wt):Option Int→Ex×Hs
 | none=>(.x 1,⟨[.ls .a wT l],[],[]⟩)
 | some e=>(.r,⟨[.v (.int .i64 e)],[],[]⟩)
theorem lpB0(l:List Wt)(y:l.length<9223372036854775807):lpF (zWx (OB ck ad su mu ae se me cm ce fr eqB) (loT [])) l.length (iB0 l l.length 0)=some (qJx l (b0F ck l)):=
 jM (iv:=fun i(_:Unit)=>iB0 l l.length i) (g:=gB0 ck l) (d:=fun _=>none) (out:=qJx l) (n:=l.length) (fun _ _=>True)
  (fun i _ q _=>by
   rw[sB0];unfold gB0;simp only[b0K,zP q,ze,xC (show i+1<9223372036854775808 by omega)]
   cases i with
   | zero=>
    have e:ilt 0 (.ofNat 0)=false:=rfl;rw[e];cases aO (wA l 0).1<;>cases ieq (ck (rw' (wA l 0).2)) 0<;>cases(wA l 0).2.1<;>cases ieq (.ofNat (wA l 0).2.2.1.length) 0<;>rfl
   | succ i=>
    have e:ilt 0 (.ofNat (i+1))=true:=rfl;have f:pr (i+1)= .ofNat i:=by show((i+1:Nat):Int)-1=(i:Int);omega
    have j:inW (.ofNat i)=true:=zP (show i<9223372036854775808 by omega)
    rw[e,f,j];have k:(Int.ofNat i).toNat=i:=rfl;rw[k];simp only[nng,zP (show i<l.length by omega),ze,x9]
    cases aO (wA l (i+1)).1<;>cases ilt (cpP (wA l i).1 (wA l (i+1)).1) 0<;>cases ieq (ck (rw' (wA l (i+1)).2)) 0<;>cases(wA l (i+1)).2.1<;>cases ieq (.ofNat (wA l (i+1)).2.2.1.length) 0<;>rfl)
  (fun _ _ _ _ _ _=>trivial)
  (fun _ _=>by rw[sB0];simp only[yC (z6 _),zf];rfl) l.length 0 () (by omega) trivial
theorem sB1(l:List Wt)(k i:Nat)(t:Raw)(e:Int):zWy (OB ck ad su mu ae se me cm ce fr eqB) (loT []) (iB1 l k i t e)=bif Nat.blt i k then(bif Nat.blt i l.length then(bif ieq e 0 then(bif ieq e 0 then nx i (.inl (iB1 l k (i+1) (ad t (rw' (wA l i).2)) (ae t (rw' (wA l i).2))))else nx i (.inl (iB1 l k (i+1) t e)))else(bif ieq e 0 then nx i (.inl (iB1 l k (i+1) (ad t (rw' (wA l i).2)) (ae t (rw' (wA l i).2))))else nx i (.inl (iB1 l k (i+1) t e))))else none)else some (.inr (.x 3,⟨[],[],[rN t,[.v (.int .i64 e)]]⟩)):=by kernel_rfl
def gB1(l:List Wt)(i:Nat)(a:Raw×Int):(Raw×Int)⊕(Raw×Int):= .inl (bif ieq a.2 0 then(ad a.1 (rw' (wA l i).2),ae a.1 (rw' (wA l i).2))else a)
def b1F(l:List Wt):Raw×Int:=fol (gB1 ad ae l) id l.length 0 (fr 0,0)
theorem lpB1(l:List Wt)(f:l.length<9223372036854775807):lpF (zWy (OB ck ad su mu ae se me cm ce fr eqB) (loT [])) l.length (iB1 l l.length 0 (fr 0) 0)=some (.x 3,⟨[],[],[rN (b1F ad ae fr l).1,[.v (.int .i64 (b1F ad ae fr l).2)]]⟩):=
 jM (iv:=fun i(a:Raw×Int)=>iB1 l l.length i a.1 a.2) (g:=gB1 ad ae l) (d:=id) (out:=fun a=>(.x 3,⟨[],[],[rN a.1,[.v (.int .i64 a.2)]]⟩)) (n:=l.length) (fun _ _=>True)
  (fun i a e _=>by
   rw[sB1];unfold gB1;simp only[zP e,ze,xC (show i+1<9223372036854775808 by omega)]
   cases ieq a.2 0<;>rfl)
  (fun _ _ _ _ _ _=>trivial)
  (fun _ _=>by rw[sB1];simp only[yC (z6 _),zf];rfl) l.length 0 (fr 0,0) (by omega) trivial
def qVg:Sh:=⟨.x 1,[.l .a wT],[],[]⟩
def qVf:Sh:=⟨.r,[.i .i64],[],[]⟩
def shB1:Sh:=⟨.x 3,[],[],[[.b,.l .n .lim,.l .n .lim],[.i .i64]]⟩
abbrev LB:Lo:=loT [(46,[false,true,false,true,true],Lb0.row (lpR (zWx (OB ck ad su mu ae se me cm ce fr eqB) (loT [])) (fun q=>lnO (nth .u q.hs 2)) [qVg,qVf])),(46,[false,true,false,true,true,true,true],Lb1.row (lpR (zWy (OB ck ad su mu ae se me cm ce fr eqB) (loT [])) (fun q=>lnO (nth .u q.hs 1)) [shB1]))]
abbrev qXi(t:Raw):Option (T×Bool):=bif !ieq (cm t (fr 1)) 0 then yI 16 else yI 0
abbrev gd{α:Type}(b:Bool)(x:Option α):Option α:=bif b then x else none
abbrev bcT(t:Raw)(e:Int):Option (T×Bool):=bif !ieq e 0 then gd (ieq e e&&true) (gd (ieq e e&&true) (gd (ieq e e&&true) (bif !ieq e 0 then yI e else qXi cm fr ⟨false,[],[]⟩)))else qXi cm fr t
abbrev bc1(y:Option (Ex×Hs)):Option (T×Bool):=bif shT shB1 y then bcT cm fr ⟨bOf (hdT ((hsO y).ks.headD [])),lOf .lim (hdT ((hsO y).ks.headD []).tail),lOf .lim (hdT ((hsO y).ks.headD []).tail.tail)⟩ (iOf (hdT ((hsO y).ks.tail.headD [])))else none
abbrev y1B(l:List Wt):Option (Ex×Hs):=lpF (zWy (OB ck ad su mu ae se me cm ce fr eqB) (loT [])) l.length (iB1 l l.length 0 (fr 0) 0)
abbrev bc0(y:Option (Ex×Hs)):Option (T×Bool):=bif shT qVg y then bc1 cm fr (y1B ck ad su mu ae se me cm ce fr eqB (lOf wT (hdT (hsO y).hs)))else(bif shT qVf y then yI (iOf (hdT (hsO y).hs))else none)
theorem eBc(l:List Wt):((qF Tryz.prog (evD Tryz.prog (OB ck ad su mu ae se me cm ce fr eqB) (LB ck ad su mu ae se me cm ce fr eqB) 60) 46 [.ls .a wT l] []).bind qJ).run=bif Nat.beq l.length 0 then yI 3 else(bif Nat.blt 4096 l.length then yI 4 else bc0 ck ad su mu ae se me cm ce fr eqB (lpF (zWx (OB ck ad su mu ae se me cm ce fr eqB) (loT [])) l.length (iB0 l l.length 0))):=by kernel_rfl
def bcE(l:List Wt):Int:=bif Nat.beq l.length 0 then 3 else(bif Nat.blt 4096 l.length then 4 else(match b0F ck l with
 | some e=>e
 | none=>bif !ieq (b1F ad ae fr l).2 0 then(b1F ad ae fr l).2 else(bif !ieq (cm (b1F ad ae fr l).1 (fr 1)) 0 then 16 else 0)))
theorem qWz(l:List Wt):((qF Tryz.prog (evD Tryz.prog (OB ck ad su mu ae se me cm ce fr eqB) (LB ck ad su mu ae se me cm ce fr eqB) 60) 46 [.ls .a wT l] []).bind qJ).run=yI (bcE ck ad ae cm fr l):=by
 rw[eBc];unfold bcE;cases y:Nat.beq l.length 0 with
 | true=>rfl
 | false=>
  cases f:Nat.blt 4096 l.length with
  | true=>rfl
  | false=>
   have k:l.length<9223372036854775807:=by
    rcases qi 4096 l.length with g | g
    ·rw[zP g]at f;cases f
    ·omega
   simp only[zf];rw[lpB0 ck ad su mu ae se me cm ce fr eqB l k];cases b0F ck l with
   | some e=>rfl
   | none=>
    have q:bc0 ck ad su mu ae se me cm ce fr eqB (some (qJx l none))=bc1 cm fr (y1B ck ad su mu ae se me cm ce fr eqB l):=rfl;rw[q];show bc1 cm fr (y1B ck ad su mu ae se me cm ce fr eqB l)=_;unfold y1B;rw[lpB1 ck ad su mu ae se me cm ce fr eqB l k];show bcT cm fr (b1F ad ae fr l).1 (b1F ad ae fr l).2=_;cases j:ieq (b1F ad ae fr l).2 0 with
    | true=>simp only[bcT,qXi,j,qb,zf];cases ieq (cm (b1F ad ae fr l).1 (fr 1)) 0<;>rfl
    | false=>simp only[bcT,j,yS rfl,gd,q9,jr,ze]
end
def Lpt:Lp:=⟨0,
 ⟨[.h,.h,.u,.u,.a .n pT 61]++(us' 73),[]⟩,
 ⟨us' 4++([.a .n pT 61]++(us' 73)),[]⟩,
 ⟨us' 4++([.h]++(us' 73)),[]⟩⟩
abbrev qTi:Code:=lpc Tryz.prog 92 [false,false,true]
theorem qWh:cAt Tryz.prog 92 [false,false,true]=some (.loop qTi):=by kernel_rfl
abbrev jFw(f:Od)(e:Lo):Hs→Option (Hs⊕(Ex×Hs)):=Lpt.stp (evD Tryz.prog f e 60) 92 [false,false,true] qTi
def iPt(a b:List Wt)(o:List Pt):Hs:=⟨[.ls .a wT a,.ls .a wT b],[.ls .n pT o],[]⟩
abbrev ap(o:List Pt)(x:St'):St':=gd (Nat.ble (o.length+1+1) 9382499223534) (gd (Nat.beq (o.length+1) (o.length+1)) x)
abbrev aq(o:List Pt)(x:St'):St':=gd (Nat.beq (o.length+1+1) (o.length+1+1)) x
abbrev lq{α:Type}(a:List α)(x:St'):St':=gd (Nat.ble (a.length+1) (a.length+1)) x
abbrev OP:Od:=odT [(167,odR [pT,pT] oLs)]
theorem qJi:wC Tryz.prog OP:=zS jZ (jI kLs)
abbrev st3:=jFw OP (loT [])
abbrev tk(a:List Wt):List Wt:=a.take a.length
theorem jEo:st3 (iPt [] [] [])=some (.inr (.x 0,⟨[],[.ls .n pT []],[]⟩)):=by kernel_rfl
theorem jEn(p:Pt)(o:List Pt):st3 (iPt [] [] (p::o))=gd (Nat.beq (o.length+1) (o.length+1)) (some (.inr (.x 0,⟨[],[.ls .n pT (p::o)],[]⟩))):=by kernel_rfl
theorem jEk(x:Wt)(a:List Wt):st3 (iPt (x::a) [] [])=lq a (some (.inl (iPt (tk a) [] [x.1]))):=by kernel_rfl
theorem jEj(x:Wt)(a:List Wt)(p:Pt)(o:List Pt):st3 (iPt (x::a) [] (p::o))=ap o (lq a (aq o (some (.inl (iPt (tk a) [] (x.1::p::o)))))):=by kernel_rfl
theorem jEm(y:Wt)(b:List Wt):st3 (iPt [] (y::b) [])=lq b (some (.inl (iPt [] (tk b) [y.1]))):=by kernel_rfl
theorem jEl(y:Wt)(b:List Wt)(p:Pt)(o:List Pt):st3 (iPt [] (y::b) (p::o))=ap o (lq b (aq o (some (.inl (iPt [] (tk b) (y.1::p::o)))))):=by kernel_rfl
theorem jHm(x y:Wt)(a b:List Wt):st3 (iPt (x::a) (y::b) [])=bif leP x.1 y.1 then lq a (some (.inl (iPt (tk a) (y::b) [x.1])))else(bif leP y.1 x.1 then lq b (some (.inl (iPt (x::a) (tk b) [y.1])))else lq a (lq b (some (.inl (iPt (tk a) (tk b) [x.1]))))):=by kernel_rfl
theorem jHl(x y:Wt)(a b:List Wt)(p:Pt)(o:List Pt):st3 (iPt (x::a) (y::b) (p::o))=bif leP x.1 y.1 then ap o (lq a (aq o (some (.inl (iPt (tk a) (y::b) (x.1::p::o))))))else(bif leP y.1 x.1 then ap o (lq b (aq o (some (.inl (iPt (x::a) (tk b) (y.1::p::o))))))else ap o (lq a (lq b (aq o (some (.inl (iPt (tk a) (tk b) (x.1::p::o)))))))):=by kernel_rfl
def mg1:List Wt→List Wt→Option (Pt×List Wt×List Wt)
 | x::a,y::b=>some (bif leP x.1 y.1 then(x.1,a,y::b)else(bif leP y.1 x.1 then(y.1,x::a,b)else(x.1,a,b)))
 | x::a,[]=>some (x.1,a,[])
 | [],y::b=>some (y.1,[],b)
 | [],[]=>none
theorem zLv{α:Type}{a:List α}{x:St'}:lq a x=x:=by simp only[lq,gd,yJ (z6 _),ze]
theorem qEp{o:List Pt}{x:St'}:aq o x=x:=by simp only[aq,gd,jL,ze]
theorem zQc{o:List Pt}{x:St'}(h:o.length<9000000000000):ap o x=x:=by simp only[ap,gd,jL,yJ (show o.length+1+1≤9382499223534 by omega),ze]
theorem sPt(a b:List Wt)(o:List Pt)(h:o.length<9000000000000):st3 (iPt a b o)=match mg1 a b with
  | some (p,f,j)=>some (.inl (iPt f j (p::o)))
  | none=>some (.inr (.x 0,⟨[],[.ls .n pT o],[]⟩)):=by
 have ht:∀a:List Wt,tk a=a:=fun a=>jt;cases o with
 | nil=>cases a with
  | nil=>cases b with
   | nil=>rw[jEo];rfl
   | cons y b=>rw[jEm,zLv,ht];rfl
  | cons x a=>cases b with
   | nil=>rw[jEk,zLv,ht];rfl
   | cons y b=>
    rw[jHm];simp only[zLv,ht,mg1];cases leP x.1 y.1<;>cases leP y.1 x.1<;>rfl
 | cons p o=>
  have e:o.length<9000000000000:=by simp only[z8]at h;omega
  cases a with
  | nil=>cases b with
   | nil=>rw[jEn];simp only[gd,jL,ze];rfl
   | cons y b=>rw[jEl,zQc e,zLv,qEp,ht];rfl
  | cons x a=>cases b with
   | nil=>rw[jEj,zQc e,zLv,qEp,ht];rfl
   | cons y b=>
    rw[jHl];simp only[zQc e,zLv,qEp,ht,mg1];cases leP x.1 y.1<;>cases leP y.1 x.1<;>rfl
def mgP:Nat→List Wt→List Wt→List Pt
 | 0,_,_=>[]
 | k+1,a,b=>match mg1 a b with
  | some (p,e,f)=>p::mgP k e f
  | none=>[]
theorem qQc{a b:List Wt}{p:Pt}{e f:List Wt}(h:mg1 a b=some (p,e,f)):e.length+f.length<a.length+b.length:=by
 unfold mg1 at h;split at h
 ·rename_i x a y b;cases j:leP x.1 y.1<;>cases k:leP y.1 x.1<;>simp only[j,k,ze,zf,za,qT]at h<;>obtain⟨_,rfl,rfl⟩:=h<;>simp only[z8]<;>omega
 ·cases h;simp
 ·cases h;simp
 ·cases h
theorem lpPt:∀(k:Nat)(a b:List Wt)(o:List Pt),a.length+b.length≤k→o.length+k<9000000000000→lpF st3 k (iPt a b o)=some (.x 0,⟨[],[.ls .n pT ((mgP k a b).reverse++o)],[]⟩)
 | 0,a,b,o,h,j=>by
  have ha:a=[]:=zy (by omega)
  have hb:b=[]:=zy (by omega)
  subst ha hb;simp only[lpF,sPt [] [] o (by omega),mg1,mgP,y3,j3]
 | k+1,a,b,o,h,j=>by
  simp only[lpF,sPt a b o (by omega),mgP]
  cases hm:mg1 a b with
  | none=>simp
  | some x=>
   obtain⟨p,e,f⟩:=x;have:=qQc hm;simp only;rw[lpPt k e f (p::o) (by omega) (by simp only[z8];omega)]
   simp
def shP:Sh:=⟨.x 0,[],[(.n,pT)],[]⟩
abbrev yPt(a b:List Wt):Option (Ex×Hs):=lpF st3 (a.length+b.length) (iPt a b [])
abbrev LP:Lo:=loT [(92,[false,false,true],Lpt.row (lpR st3 (fun q=>lnO (nth .u q.hs 0)+lnO (nth .u q.hs 1)) [shP]))]
abbrev qQn(y:Option (Ex×Hs)):List Pt:=lOf pT (hdT (hsO y).az)
abbrev cnP(l:List Pt):List Pt:=l.headD pT.zero::l.tail
theorem ePt(a b:List Wt):((qF Tryz.prog (evD Tryz.prog (OP) (LP) 60) 92 [.ls .a wT a,.ls .a wT b] []).bind qJ).run=bif shT shP (yPt a b)then(bif emp (qQn (yPt a b))then some (.v (.slice none 0 0),true)else gd (Nat.beq ((qQn (yPt a b)).tail.length+1) ((qQn (yPt a b)).tail.length+1)) (some (.ls .a pT (cnP (qQn (yPt a b))).reverse,true)))else none:=by kernel_rfl
theorem jEc:mM Tryz.prog (evD Tryz.prog OP (loT []) 60):=kM yL qJi qA 60
theorem qUk:vJ Tryz.prog LP:=jP qA jEc qWh gD
def ptF(a b:List Wt):List Pt:=mgP (a.length+b.length) a b
def oPt:List T→DT (T×Bool)
 | [.ls .a (.prod (.prod (.int .i64) (.prod (.int .i64) (.int .i64))) zL) a,.ls .a (.prod (.prod (.int .i64) (.prod (.int .i64) (.int .i64))) zL) b]=>grd (Nat.ble a.length 100000&&Nat.ble b.length 100000) (.ret (.ls .a pT (ptF a b),true))
 | _=> .no
theorem kPt:∀j z y,(oPt j).run=some (z,y)→∀k,KnP Tryz.prog k 92 j z y:=by
 intro j z y h k;unfold oPt at h;split at h
 ·rename_i a b;obtain⟨A,E⟩:=zT h;cases E;simp only[zd,qp]at A;have q:=ePt a b;have G:yPt a b=some (.x 0,⟨[],[.ls .n pT (ptF a b).reverse],[]⟩):=by
   unfold yPt ptF;rw[lpPt _ a b [] (z6 _) (by simp only[j9];omega),jw]
  rw[G]at q;have f:((qF Tryz.prog (evD Tryz.prog (OP) (LP) 60) 92 [.ls .a wT a,.ls .a wT b] []).bind qJ).run=bif emp (ptF a b).reverse then some (.v (.slice none 0 0),true)else gd (Nat.beq ((ptF a b).reverse.tail.length+1) ((ptF a b).reverse.tail.length+1)) (some (.ls .a pT (cnP (ptF a b).reverse).reverse,true)):=q;cases hp:(ptF a b).reverse with
  | nil=>
   rw[hp]at f;have e:ptF a b=[]:=List.reverse_eq_nil_iff.1 hp;rw[e];exact(yN (cz:=[.ls .a wT a,.ls .a wT b]) yL qJi qUk f rfl k).res fun B r v h=>zDw h
  | cons x l=>
   rw[hp]at f;simp only[emp,zf,gd,jL,ze,cnP,List.headD_cons,uu]at f;rw[←hp,kf]at f;exact yN (cz:=[.ls .a wT a,.ls .a wT b]) yL qJi qUk f rfl k
 ·cases h
def oBc(bE:List Wt→Int):List T→DT (T×Bool)
 | [.ls .a (.prod (.prod (.int .i64) (.prod (.int .i64) (.int .i64))) zL) l]=> .ret (.v (.int .i64 (bE l)),true)
 | _=> .no
def Lm0:Lp:=⟨5,
 ⟨[.h,.h]++(us' 3++([.t (.op 0 0)]++(us' 9++([.t (.op 3 0),.u,.t (.om 4),.t (.v (.int .i64 0))]++(us' 55++([.h,.t (.v (.int .i64 0))]++(us' 3++([.h,.h,.h]++(us' 70))))))))),[.r [.h,.h,.h] 28,.g,.g,.r [.h,.h,.h] 28,.m .a pT (.prod zL zL)]⟩,
 ⟨[.h,.h]++(us' 3++([.t (.op 0 0)]++(us' 9++([.t (.op 3 0),.u,.t (.om 4)]++(us' 56++([.h,.t (.v (.int .i64 0))]++(us' 76))))))),[.r [.h,.h,.h] 28,.g,.g,.r [.h,.h,.h] 28,.m .a pT (.prod zL zL)]⟩,
 ⟨us' 6++([.h,.h]++(us' 144)),[.g,.g,.g,.g,.g]⟩⟩
abbrev qTa:Code:=lpc Tryz.prog 41 [false,true,true,false,false,true,true,false,false,true,false,true,true,true,true,true,true,true,true]
theorem qWa:cAt Tryz.prog 41 [false,true,true,false,false,true,true,false,false,true,false,true,true,true,true,true,true,true,true]=some (.loop qTa):=by kernel_rfl
abbrev zXb(f:Od)(e:Lo):Hs→Option (Hs⊕(Ex×Hs)):=Lm0.stp (evD Tryz.prog f e 60) 41 [false,true,true,false,false,true,true,false,false,true,false,true,true,true,true,true,true,true,true] qTa
def Lm1:Lp:=⟨5,
 ⟨[.h,.h]++(us' 3++([.t (.op 0 0)]++(us' 9++([.t (.op 3 0),.u,.t (.om 4),.t (.v (.int .i64 1))]++(us' 55++([.h,.t (.v (.int .i64 1))]++(us' 3++([.h,.h,.h]++(us' 70))))))))),[.r [.h,.h,.h] 28,.g,.g,.r [.h,.h,.h] 28,.m .a pT (.prod zL zL)]⟩,
 ⟨[.h,.h]++(us' 3++([.t (.op 0 0)]++(us' 9++([.t (.op 3 0),.u,.t (.om 4)]++(us' 56++([.h,.t (.v (.int .i64 1))]++(us' 76))))))),[.r [.h,.h,.h] 28,.g,.g,.r [.h,.h,.h] 28,.m .a pT (.prod zL zL)]⟩,
 ⟨us' 6++([.h,.h]++(us' 144)),[.g,.g,.g,.g,.g]⟩⟩
abbrev jFv:Code:=lpc Tryz.prog 41 [false,true,true,false,false,true,true,false,false,true,false,true,true,true,true,true,true,true,true]
abbrev zPx(f:Od)(e:Lo):Hs→Option (Hs⊕(Ex×Hs)):=Lm1.stp (evD Tryz.prog f e 60) 41 [false,true,true,false,false,true,true,false,false,true,false,true,true,true,true,true,true,true,true] jFv
def Lm3:Lp:=⟨5,
 ⟨us' 5++([.t (.op 0 0)]++(us' 9++([.t (.op 3 0),.u,.t (.om 4)]++(us' 5++([.a .n wT 63]++(us' 77++([.h,.h,.h]++(us' 48)))))))),[.r [.h,.h,.h] 28,.g,.g,.r [.h,.h,.h] 28,.m .a pT (.prod zL zL)]⟩,
 ⟨us' 23++([.a .n wT 63]++(us' 128)),[.g,.g,.g,.g,.g]⟩,
 ⟨us' 6++([.h,.h]++(us' 144)),[.g,.g,.g,.g,.g]⟩⟩
abbrev qTb:Code:=lpc Tryz.prog 41 [false,true,false,true,true,true,true,true,true,true,true,true,true]
theorem qWb:cAt Tryz.prog 41 [false,true,false,true,true,true,true,true,true,true,true,true,true]=some (.loop qTb):=by kernel_rfl
abbrev zKn(f:Od)(e:Lo):Hs→Option (Hs⊕(Ex×Hs)):=Lm3.stp (evD Tryz.prog f e 60) 41 [false,true,false,true,true,true,true,true,true,true,true,true,true] qTb
abbrev vT:Ty:= .prod zL zL
abbrev Mp:=List (Pt×(Rt×Rt))
abbrev mC(m:Mp):List T:=[.ls .a (.prod pT vT) m]
def iM(a b e f:List Wt)(w v:Raw)(l:List Wt)(k i:Nat)(m:Mp):Hs:=⟨[.ls .a wT a,.ls .a wT b,.ag [.ls .a wT e,.ls .a wT f],.ls .a wT l,.v (.int .i64 (.ofNat k)),.v (.int .i64 (.ofNat i))],[],[rC w,[],[],rN v,mC m]⟩
def iM3(w v:Raw)(m:Mp)(e:List Pt)(k i:Nat)(o:List Wt):Hs:=⟨[.ls .n pT e,.v (.int .i64 (.ofNat k)),.v (.int .i64 (.ofNat i))],[.ls .n wT o],[rC w,[],[],rN v,mC m]⟩
abbrev pA(l:List Pt)(i:Nat):Pt:=nth pT.zero l i
abbrev z0:Rt×Rt:=((false,[],[]),(false,[],[]))
def zFi(m:Mp)(x:Wt):Mp:=mD pT x.1 (x.2,(jN pT z0 x.1 m).2) m
def zFj(m:Mp)(x:Wt):Mp:=mD pT x.1 ((jN pT z0 x.1 m).1,x.2) m
abbrev oM(a b e f:List Wt)(w v:Raw)(m:Mp):Hs:=⟨[.ls .a wT a,.ls .a wT b,.ag [.ls .a wT e,.ls .a wT f]],[],[rC w,[],[],rN v,mC m]⟩
section
variable (bE:List Wt→Int)(ck:Raw→Int)(ad su mu:Raw→Raw→Raw)(ae se me:Raw→Raw→Int)(cm ce:Raw→Raw→Int)(fr:Int→Raw)(eqB:Raw→Raw→Bool)
abbrev OM:Od:=odT ((46,odR [.list wT] (oBc bE))::(92,odR [.list wT,.list wT] oPt)::qCb ck ad su mu ae se me cm ce fr eqB)
theorem sM0(a b e f:List Wt)(w v:Raw)(l:List Wt)(k i:Nat)(m:Mp):zXb (OM bE ck ad su mu ae se me cm ce fr eqB) (loT []) (iM a b e f w v l k i m)=bif Nat.blt i k then(bif Nat.blt i l.length then nx i (.inl (iM a b e f w v l k (i+1) (zFi m (wA l i))))else none)else some (.inr (.x 4,oM a b e f w v m)):=by kernel_rfl
theorem sM1(a b e f:List Wt)(w v:Raw)(l:List Wt)(k i:Nat)(m:Mp):zPx (OM bE ck ad su mu ae se me cm ce fr eqB) (loT []) (iM a b e f w v l k i m)=bif Nat.blt i k then(bif Nat.blt i l.length then nx i (.inl (iM a b e f w v l k (i+1) (zFj m (wA l i))))else none)else some (.inr (.x 4,oM a b e f w v m)):=by kernel_rfl
def fm0(l:List Wt)(m:Mp):Mp:=fol (fun i m=>(.inl (zFi m (wA l i)):Mp⊕Mp)) id l.length 0 m
def fm1(l:List Wt)(m:Mp):Mp:=fol (fun i m=>(.inl (zFj m (wA l i)):Mp⊕Mp)) id l.length 0 m
theorem lpM0(a b e f:List Wt)(w v:Raw)(l:List Wt)(m:Mp)(k:l.length<9223372036854775807):lpF (zXb (OM bE ck ad su mu ae se me cm ce fr eqB) (loT [])) l.length (iM a b e f w v l l.length 0 m)=some (.x 4,oM a b e f w v (fm0 l m)):=
 jM (iv:=fun i m=>iM a b e f w v l l.length i m) (g:=fun i m=>(.inl (zFi m (wA l i)):Mp⊕Mp)) (d:=id) (out:=fun m=>(.x 4,oM a b e f w v m)) (n:=l.length) (fun _ _=>True)
  (fun i m j _=>by rw[sM0];simp only[zP j,ze,xC (show i+1<9223372036854775808 by omega)])
  (fun _ _ _ _ _ _=>trivial)
  (fun _ _=>by rw[sM0];simp only[yC (z6 _),zf];rfl) l.length 0 m (by omega) trivial
theorem lpM1(a b e f:List Wt)(w v:Raw)(l:List Wt)(m:Mp)(k:l.length<9223372036854775807):lpF (zPx (OM bE ck ad su mu ae se me cm ce fr eqB) (loT [])) l.length (iM a b e f w v l l.length 0 m)=some (.x 4,oM a b e f w v (fm1 l m)):=
 jM (iv:=fun i m=>iM a b e f w v l l.length i m) (g:=fun i m=>(.inl (zFj m (wA l i)):Mp⊕Mp)) (d:=id) (out:=fun m=>(.x 4,oM a b e f w v m)) (n:=l.length) (fun _ _=>True)
  (fun i m j _=>by rw[sM1];simp only[zP j,ze,xC (show i+1<9223372036854775808 by omega)])
  (fun _ _ _ _ _ _=>trivial)
  (fun _ _=>by rw[sM1];simp only[yC (z6 _),zf];rfl) l.length 0 m (by omega) trivial
abbrev k5:List (List T):=[[],[],[],[],[]]
abbrev erM(e:Int):St':=some (.inr (.r,⟨[.v (.slice none 0 0),.v (.int .i64 e)],[],k5⟩))
abbrev m3(w v:Raw)(g:Rt×Rt)(k:Raw→St'):St':=bif !ieq (me w (rw' g.1)) 0 then erM (me w (rw' g.1))else(bif !ieq (me v (rw' g.2)) 0 then erM (me v (rw' g.2))else(bif !ieq (ae (mu w (rw' g.1)) (mu v (rw' g.2))) 0 then erM (ae (mu w (rw' g.1)) (mu v (rw' g.2)))else k (ad (mu w (rw' g.1)) (mu v (rw' g.2)))))
abbrev wap(i:Nat)(o:List Wt)(z:Hs):St':=gd (Nat.ble (o.length+1+1) 2814749766952) (gd (Nat.beq (o.length+1) (o.length+1)) (gd (Nat.blt (i+1) 9223372036854775808) (gd (Nat.beq (o.length+1+1) (o.length+1+1)) (some (.inl z)))))
abbrev wsm(i:Nat)(o:List Wt)(z:Hs):St':=gd (Nat.blt (i+1) 9223372036854775808) (gd (Nat.beq (o.length+1) (o.length+1)) (some (.inl z)))
theorem sM3n(w v:Raw)(m:Mp)(e:List Pt)(k i:Nat):zKn (OM bE ck ad su mu ae se me cm ce fr eqB) (loT []) (iM3 w v m e k i [])=bif Nat.blt i k then(bif Nat.blt i e.length then m3 ad mu ae me w v (jN pT z0 (pA e i) m) (fun t=>bif ilt 0 (.ofNat t.ln.length)then nx i (.inl (iM3 w v m e k (i+1) [(pA e i,toT t)]))else nx i (.inl (iM3 w v m e k (i+1) [])))else none)else some (.inr (.x 6,⟨[],[.ls .n wT []],k5⟩)):=by kernel_rfl
theorem sM3c(w v:Raw)(m:Mp)(e:List Pt)(k i:Nat)(y:Wt)(o:List Wt):zKn (OM bE ck ad su mu ae se me cm ce fr eqB) (loT []) (iM3 w v m e k i (y::o))=bif Nat.blt i k then(bif Nat.blt i e.length then m3 ad mu ae me w v (jN pT z0 (pA e i) m) (fun t=>bif ilt 0 (.ofNat t.ln.length)then wap i o (iM3 w v m e k (i+1) ((pA e i,toT t)::y::o))else wsm i o (iM3 w v m e k (i+1) (y::o)))else none)else gd (Nat.beq (o.length+1) (o.length+1)) (some (.inr (.x 6,⟨[],[.ls .n wT (y::o)],k5⟩))):=by kernel_rfl
def m3F(w v:Raw)(g:Rt×Rt):Raw⊕Int:=bif !ieq (me w (rw' g.1)) 0 then .inr (me w (rw' g.1))else(bif !ieq (me v (rw' g.2)) 0 then .inr (me v (rw' g.2))else(bif !ieq (ae (mu w (rw' g.1)) (mu v (rw' g.2))) 0 then .inr (ae (mu w (rw' g.1)) (mu v (rw' g.2)))else .inl (ad (mu w (rw' g.1)) (mu v (rw' g.2)))))
def dH(k:Raw→St'):Raw⊕Int→St'
 | .inl t=>k t
 | .inr e=>erM e
theorem qUl(w v:Raw)(g:Rt×Rt)(k:Raw→St'):m3 ad mu ae me w v g k=dH k (m3F ad mu ae me w v g):=by
 unfold m3F;simp only[m3];cases ieq (me w (rw' g.1)) 0<;>cases ieq (me v (rw' g.2)) 0<;>cases ieq (ae (mu w (rw' g.1)) (mu v (rw' g.2))) 0<;>rfl
def gM3(w v:Raw)(m:Mp)(f:List Pt)(i:Nat)(o:List Wt):List Wt⊕(List Wt⊕Int):=match m3F ad mu ae me w v (jN pT z0 (pA f i) m)with
 | .inl t=> .inl (bif ilt 0 (.ofNat t.ln.length)then(pA f i,toT t)::o else o)
 | .inr e=> .inr (.inr e)
def mxF(w v:Raw)(m:Mp)(e:List Pt):List Wt⊕Int:=fol (gM3 ad mu ae me w v m e) .inl e.length 0 []
def qJz:List Wt⊕Int→Ex×Hs
 | .inl o=>(.x 6,⟨[],[.ls .n wT o],k5⟩)
 | .inr e=>(.r,⟨[.v (.slice none 0 0),.v (.int .i64 e)],[],k5⟩)
theorem lpM3(w v:Raw)(m:Mp)(f:List Pt)(z:f.length<1000000000):lpF (zKn (OM bE ck ad su mu ae se me cm ce fr eqB) (loT [])) f.length (iM3 w v m f f.length 0 [])=some (qJz (mxF ad mu ae me w v m f)):=
 jM (iv:=fun i o=>iM3 w v m f f.length i o) (g:=gM3 ad mu ae me w v m f) (d:= .inl) (out:=qJz) (n:=f.length) (fun i o=>o.length≤i)
  (fun i o k q=>by
   unfold gM3;cases o with
   | nil=>
    rw[sM3n];simp only[zP k,ze,qUl];cases m3F ad mu ae me w v (jN pT z0 (pA f i) m)with
    | inl t=>simp only[dH,xC (show i+1<9223372036854775808 by omega)];cases ilt 0 (.ofNat t.ln.length)<;>rfl
    | inr e=>rfl
   | cons y o=>
    rw[sM3c];simp only[z8]at q;simp only[zP k,ze,qUl];cases m3F ad mu ae me w v (jN pT z0 (pA f i) m)with
    | inl t=>simp only[dH,wap,wsm,gd,jL,zP (show i+1<9223372036854775808 by omega),yJ (show o.length+1+1≤2814749766952 by omega),ze];cases ilt 0 (.ofNat t.ln.length)<;>rfl
    | inr e=>rfl)
  (fun i o A k q j=>by
   unfold gM3 at j;split at j
   ·rename_i t _;cases j;cases ilt 0 (.ofNat t.ln.length)with
    | true=>simp only[ze,z8];omega
    | false=>simp only[zf];omega
   ·cases j)
  (fun o _=>by
   cases o with
   | nil=>rw[sM3n];simp only[yC (z6 _),zf];rfl
   | cons y o=>rw[sM3c];simp only[yC (z6 _),zf,gd,jL,ze];rfl) f.length 0 [] (by omega) (z6 _)
end
section
variable (bE:List Wt→Int)(ck:Raw→Int)(ad su mu:Raw→Raw→Raw)(ae se me:Raw→Raw→Int)(cm ce:Raw→Raw→Int)(fr:Int→Raw)(eqB:Raw→Raw→Bool)
def shM:Sh:=⟨.x 4,[.l .a wT,.l .a wT,.p .a wT .a wT],[],[[.b,.l .a .lim,.l .a .lim],[],[],[.b,.l .n .lim,.l .n .lim],[.l .a (.prod pT vT)]]⟩
def sh3x:Sh:=⟨.x 6,[],[(.n,wT)],[[],[],[],[],[]]⟩
def sh3r:Sh:=⟨.r,[.c (.v (.slice none 0 0)),.i .i64],[],[[],[],[],[],[]]⟩
abbrev LM:Lo:=loT [(41,[false,true,true,false,false,true,true,false,false,true,false,true,true,true,true,true,true,true,true],fun s=>orD (Lm0.row (lpR (zXb (OM bE ck ad su mu ae se me cm ce fr eqB) (loT [])) (fun q=>lnO (nth .u q.hs 4)) [shM]) s) (Lm1.row (lpR (zPx (OM bE ck ad su mu ae se me cm ce fr eqB) (loT [])) (fun q=>lnO (nth .u q.hs 4)) [shM]) s)),(41,[false,true,false,true,true,true,true,true,true,true,true,true,true],Lm3.row (lpR (zKn (OM bE ck ad su mu ae se me cm ce fr eqB) (loT [])) (fun q=>lnO (nth .u q.hs 1)) [sh3x,sh3r]))]
abbrev erT(e:Int):Option (T×Bool):=some (.tu [.v (.slice none 0 0),.v (.int .i64 e)],true)
abbrev pA1(q:Hs):List Wt:=lOf wT (hdT q.hs)
abbrev pB1(q:Hs):List Wt:=lOf wT (hdT q.hs.tail)
abbrev pA2(q:Hs):List Wt:=lOf wT (qZj (hdT q.hs.tail.tail))
abbrev pB2(q:Hs):List Wt:=lOf wT (jEv (hdT q.hs.tail.tail))
abbrev rOf(l:List T):Raw:=⟨bOf (hdT l),lOf .lim (hdT l.tail),lOf .lim (hdT l.tail.tail)⟩
abbrev pW(q:Hs):Raw:=rOf (q.ks.headD [])
abbrev pV(q:Hs):Raw:=rOf (q.ks.tail.tail.tail.headD [])
abbrev pM(q:Hs):Mp:=lOf (.prod pT vT) (hdT (q.ks.tail.tail.tail.tail.headD []))
abbrev wOf(y:Option (Ex×Hs)):List Wt:=lOf wT (hdT (hsO y).az)
abbrev cnW(l:List Wt):List Wt:=l.headD wT.zero::l.tail
abbrev jCd(y:Option (Ex×Hs)):Option (T×Bool):=bif shT sh3x y then(bif emp (wOf y)then erT 0 else gd (Nat.beq ((wOf y).tail.length+1) ((wOf y).tail.length+1)) (some (.tu [.ls .a wT (cnW (wOf y)).reverse,.v (.int .i64 0)],true)))else(bif shT sh3r y then erT (iOf (hdT (hsO y).hs.tail))else none)
abbrev y3M(w v:Raw)(m:Mp)(e:List Pt):Option (Ex×Hs):=lpF (zKn (OM bE ck ad su mu ae se me cm ce fr eqB) (loT [])) e.length (iM3 w v m e e.length 0 [])
abbrev jCc(y:Option (Ex×Hs)):Option (T×Bool):=gd (shT shM y) (gd (Nat.ble (pA1 (hsO y)).length 100000&&Nat.ble (pB1 (hsO y)).length 100000) (jCd (y3M bE ck ad su mu ae se me cm ce fr eqB (pW (hsO y)) (pV (hsO y)) (pM (hsO y)) (ptF (pA1 (hsO y)) (pB1 (hsO y))))))
abbrev y2M(q:Hs):Option (Ex×Hs):=lpF (zPx (OM bE ck ad su mu ae se me cm ce fr eqB) (loT [])) (pB2 q).length (iM (pA1 q) (pB1 q) (pA2 q) (pB2 q) (pW q) (pV q) (pB2 q) (pB2 q).length 0 (pM q))
abbrev mxk1(y:Option (Ex×Hs)):Option (T×Bool):=gd (shT shM y) (jCc bE ck ad su mu ae se me cm ce fr eqB (y2M bE ck ad su mu ae se me cm ce fr eqB (hsO y)))
abbrev y1M(a b:List Wt)(w v:Raw):Option (Ex×Hs):=lpF (zXb (OM bE ck ad su mu ae se me cm ce fr eqB) (loT [])) a.length (iM a b a b w v a a.length 0 [])
abbrev mxk0(a b:List Wt)(w:Raw)(k:Option (T×Bool)):Option (T×Bool):=bif !ieq (bE a) 0 then erT (bE a)else(bif !ieq (bE b) 0 then erT (bE b)else(bif !ieq (ck w) 0 then erT (ck w)else(bif w.neg then erT 1 else(bif ilt 0 (cm w (fr 1))then erT 1 else(bif !ieq (se (fr 1) w) 0 then erT (se (fr 1) w)else k)))))
theorem eMx(a b:List Wt)(w:Raw):((qF Tryz.prog (evD Tryz.prog (OM bE ck ad su mu ae se me cm ce fr eqB) (LM bE ck ad su mu ae se me cm ce fr eqB) 60) 41 [.ls .a wT a,.ls .a wT b,.ag (rC w)] []).bind qJ).run=mxk0 bE ck se cm fr a b w (mxk1 bE ck ad su mu ae se me cm ce fr eqB (y1M bE ck ad su mu ae se me cm ce fr eqB a b w (su (fr 1) w))):=by kernel_rfl
theorem qQi(a b f e:List Wt)(w v:Raw)(m:Mp):mxk1 bE ck ad su mu ae se me cm ce fr eqB (some (.x 4,oM a b f e w v m))=jCc bE ck ad su mu ae se me cm ce fr eqB (lpF (zPx (OM bE ck ad su mu ae se me cm ce fr eqB) (loT [])) e.length (iM a b f e w v e e.length 0 m)):=by kernel_rfl
theorem qQj(a b e f:List Wt)(w v:Raw)(m:Mp):jCc bE ck ad su mu ae se me cm ce fr eqB (some (.x 4,oM a b e f w v m))=gd (Nat.ble a.length 100000&&Nat.ble b.length 100000) (jCd (lpF (zKn (OM bE ck ad su mu ae se me cm ce fr eqB) (loT [])) (ptF a b).length (iM3 w v m (ptF a b) (ptF a b).length 0 []))):=by kernel_rfl
abbrev qCj(s:List Wt⊕Int):Option (T×Bool):=match s with
 | .inl []=>erT 0
 | .inl (x::o)=>some (.tu [.ls .a wT (x::o).reverse,.v (.int .i64 0)],true)
 | .inr e=>erT e
theorem qQk(s:List Wt⊕Int):jCd (some (qJz s))=qCj s:=by
 cases s with
 | inr e=>rfl
 | inl o=>
  cases o with
  | nil=>rfl
  | cons x o=>
   show gd (Nat.beq (o.length+1) (o.length+1)) _=_;simp only[gd,jL,ze];rfl
theorem zYt:∀(k:Nat)(a b:List Wt),(mgP k a b).length≤k
 | 0,_,_=>z6 _
 | k+1,a,b=>by
  simp only[mgP];split
  ·rename_i p e f _;have:=zYt k e f;simp only[z8];omega
  ·exact qq _
def mxS(a b:List Wt)(w:Raw):List Wt⊕Int:=bif !ieq (bE a) 0 then .inr (bE a)else(bif !ieq (bE b) 0 then .inr (bE b)else(bif !ieq (ck w) 0 then .inr (ck w)else(bif w.neg then .inr 1 else(bif ilt 0 (cm w (fr 1))then .inr 1 else(bif !ieq (se (fr 1) w) 0 then .inr (se (fr 1) w)else mxF ad mu ae me w (su (fr 1) w) (fm1 b (fm0 a [])) (ptF a b))))))
theorem jCb(a b:List Wt)(w:Raw)(ha:a.length≤100000)(hb:b.length≤100000):((qF Tryz.prog (evD Tryz.prog (OM bE ck ad su mu ae se me cm ce fr eqB) (LM bE ck ad su mu ae se me cm ce fr eqB) 60) 41 [.ls .a wT a,.ls .a wT b,.ag (rC w)] []).bind qJ).run=qCj (mxS bE ck ad su mu ae se me cm fr a b w):=by
 rw[eMx];unfold mxS y1M;rw[lpM0 bE ck ad su mu ae se me cm ce fr eqB a b a b w (su (fr 1) w) a [] (by omega),qQi,lpM1 bE ck ad su mu ae se me cm ce fr eqB a b a b w (su (fr 1) w) b (fm0 a []) (by omega),qQj]
 have hp:(ptF a b).length<1000000000:=by
  have:=zYt (a.length+b.length) a b;unfold ptF;omega
 rw[lpM3 bE ck ad su mu ae se me cm ce fr eqB w (su (fr 1) w) (fm1 b (fm0 a [])) (ptF a b) hp,qQk,yJ ha,yJ hb];simp only[mxk0,gd,q9,ze];cases ieq (bE a) 0<;>cases ieq (bE b) 0<;>cases ieq (ck w) 0<;>cases w.neg<;>cases ilt 0 (cm w (fr 1))<;>cases ieq (se (fr 1) w) 0<;>rfl
end
abbrev adA(a b:Raw):Raw:=opR a b (a.rat+b.rat)
abbrev suA(a b:Raw):Raw:=opR a b (a.rat-b.rat)
abbrev muA(a b:Raw):Raw:=opR a b (a.rat*b.rat)
abbrev aeA(a b:Raw):Int:=opE a b (a.rat+b.rat)
abbrev seA(a b:Raw):Int:=opE a b (a.rat-b.rat)
abbrev meA(a b:Raw):Int:=opE a b (a.rat*b.rat)
abbrev frA(n:Int):Raw:=Raw.of (n:Rat)
abbrev eqA(a b:Raw):Bool:=decide (a=b)
abbrev numA:rrT:=qCb Raw.chk adA suA muA aeA seA meA yZ wW frA eqA
theorem zGa:wC Tryz.prog (odT numA):=
 zS (zS (zS (zS (zS (zS (zS jZ fun e f j h k=>xK kEq e f h k) fun e f j h k=>xK zRl e f h k) fun e f j h k=>xK kCmp e f h k) fun e f j h k=>xK qHp e f h k) fun e f j h k=>xK jAu e f h k) fun e f j h k=>xK qPh e f h k) fun e f j h k=>xK kChk e f h k
theorem qUn:wC Tryz.prog (OB Raw.chk adA suA muA aeA seA meA yZ wW frA eqA):=zS (zS zGa (jI kCk)) (jI kCp)
theorem qKu:mM Tryz.prog (evD Tryz.prog (OB Raw.chk adA suA muA aeA seA meA yZ wW frA eqA) (loT []) 60):=kM yL qUn qA 60
theorem jGq:vJ Tryz.prog (LB Raw.chk adA suA muA aeA seA meA yZ wW frA eqA):=jP (jP qA qKu qVr gD) qKu qVq gD
abbrev bE(l:List Wt):Int:=bcE Raw.chk adA aeA yZ frA l
theorem kBc:∀e j f,(oBc bE e).run=some (j,f)→∀k,KnP Tryz.prog k 46 e j f:=by
 intro e j f h k;unfold oBc at h;split at h
 ·rename_i l;cases h;exact yN (cz:=[.ls .a wT l]) yL qUn jGq (qWz Raw.chk adA suA muA aeA seA meA yZ wW frA eqA l) rfl k
 ·cases h
theorem qIz:wC Tryz.prog (OM bE Raw.chk adA suA muA aeA seA meA yZ wW frA eqA):=zS (zS zGa (jI kPt)) (jI kBc)
theorem qKv:mM Tryz.prog (evD Tryz.prog (OM bE Raw.chk adA suA muA aeA seA meA yZ wW frA eqA) (loT []) 60):=kM yL qIz qA 60
theorem qUj:vJ Tryz.prog (LM bE Raw.chk adA suA muA aeA seA meA yZ wW frA eqA):=jGt (jP qA qKv qWb gD) qKv qWa gD gD
def lsS:List Wt⊕Int→List Wt
 | .inl o=>o.reverse
 | .inr _=>[]
def erS:List Wt⊕Int→Int
 | .inl _=>0
 | .inr e=>e
abbrev mxA(a b:List Wt)(w:Raw):List Wt⊕Int:=mxS bE Raw.chk adA suA muA aeA seA meA yZ frA a b w
theorem zJf{B:Bm}{r:Rd}{A:Ty}{t:T}{v:Value}(h:Rep B r (.tu [.v (.slice none 0 0),t]) v):Rep B r (.tu [.ls .a A [],t]) v:=by
 obtain⟨vs,rfl,e⟩:=h.tuI;match vs,e with
 | [a,b],⟨f,j,_⟩=>exact Rep.mkTu (vs:=[a,b]) ⟨zDw f,j,trivial⟩
def oMx(mR:List Wt→List Wt→Raw→List Wt)(mE:List Wt→List Wt→Raw→Int):List T→DT (T×Bool)
 | [.ls .a (.prod (.prod (.int .i64) (.prod (.int .i64) (.int .i64))) zL) a,.ls .a (.prod (.prod (.int .i64) (.prod (.int .i64) (.int .i64))) zL) b,.ag [.v (.bool s),.ls .a .lim l,.ls .a .lim m]]=>grd (Nat.ble a.length 100000&&Nat.ble b.length 100000) (.ret (.tu [.ls .a wT (mR a b ⟨s,l,m⟩),.v (.int .i64 (mE a b ⟨s,l,m⟩))],true))
 | _=> .no
theorem kMx:∀f A z,(oMx (fun a b w=>lsS (mxA a b w)) (fun a b w=>erS (mxA a b w)) f).run=some (A,z)→∀k,KnP Tryz.prog k 41 f A z:=by
 intro f A z h k;unfold oMx at h;split at h
 ·rename_i a b s l m;obtain⟨j,E⟩:=zT h;cases E;simp only[zd,qp]at j;have q:=jCb bE Raw.chk adA suA muA aeA seA meA yZ wW frA eqA a b ⟨s,l,m⟩ j.1 j.2;show KnP Tryz.prog k 41 _ (.tu [.ls .a wT (lsS (mxA a b ⟨s,l,m⟩)),.v (.int .i64 (erS (mxA a b ⟨s,l,m⟩)))]) true;have er:∀{e:Int},qCj (mxA a b ⟨s,l,m⟩)=erT e→KnP Tryz.prog k 41 [.ls .a wT a,.ls .a wT b,.ag (rC ⟨s,l,m⟩)] (.tu [.ls .a wT [],.v (.int .i64 e)]) true:=fun{e}he=>
   (yN (cz:=[.ls .a wT a,.ls .a wT b,.ag (rC ⟨s,l,m⟩)]) yL qIz qUj (q.trans he) rfl k).res fun B r v h=>zJf h
  cases y:mxA a b ⟨s,l,m⟩with
  | inr e=>exact er ((jh qCj y).trans rfl)
  | inl o=>
   cases o with
   | nil=>exact er ((jh qCj y).trans rfl)
   | cons x o=>exact yN (cz:=[.ls .a wT a,.ls .a wT b,.ag (rC ⟨s,l,m⟩)]) yL qIz qUj (q.trans ((jh qCj y).trans rfl)) rfl k
 ·cases h
def Llg:Lp:=⟨0,
 ⟨[.h,.u,.u,.h,.h]++(us' 45),[]⟩,
 ⟨[.h,.u,.u,.h]++(us' 46),[]⟩,
 ⟨[.u,.u,.h]++(us' 47),[]⟩⟩
abbrev qSz:Code:=lpc Tryz.prog 38 [false,true,false,true,true]
theorem qVz:cAt Tryz.prog 38 [false,true,false,true,true]=some (.loop qSz):=by kernel_rfl
abbrev zXa(f:Od)(e:Lo):Hs→Option (Hs⊕(Ex×Hs)):=Llg.stp (evD Tryz.prog f e 60) 38 [false,true,false,true,true] qSz
def Lwd:Lp:=⟨0,
 ⟨[.h,.u,.u,.h]++(us' 25),[]⟩,
 ⟨[.h]++(us' 28),[]⟩,
 ⟨[.u,.u,.h]++(us' 26),[]⟩⟩
abbrev qTl:Code:=lpc Tryz.prog 65 [false,true,false,true]
theorem qWk:cAt Tryz.prog 65 [false,true,false,true]=some (.loop qTl):=by kernel_rfl
abbrev zXe(f:Od)(e:Lo):Hs→Option (Hs⊕(Ex×Hs)):=Lwd.stp (evD Tryz.prog f e 60) 65 [false,true,false,true] qTl
def iLg(l:List Wt)(c:Int)(i:Nat):Hs:=⟨[.ls .a wT l,.v (.int .i64 c),.v (.int .i64 (.ofNat i))],[],[]⟩
def iWd(l:List Rt)(i:Nat):Hs:=⟨[.ls .a zL l,.v (.int .i64 (.ofNat i))],[],[]⟩
abbrev wrS(c:Int)(x:Wt):Int:=wq (Int.add c (.ofNat x.2.2.2.length))
theorem sLg(l:List Wt)(c:Int)(i:Nat):zXa (odT []) (loT []) (iLg l c i)=bif Nat.blt i l.length then(bif Nat.blt i l.length then(bif ilt 4 (.ofNat (wA l i).2.2.1.length)then some (.inr (.r,⟨[.v (.bool true)],[],[]⟩))else(bif Nat.blt i l.length then nx i (.inl (iLg l (wrS c (wA l i)) (i+1)))else none))else none)else some (.inr (.x 0,⟨[.ls .a wT l,.v (.int .i64 c)],[],[]⟩)):=by kernel_rfl
def gLg(l:List Wt)(i:Nat)(c:Int):Int⊕Option Int:=bif ilt 4 (.ofNat (wA l i).2.2.1.length)then .inr none else .inl (wrS c (wA l i))
def lgF(l:List Wt):Option Int:=fol (gLg l) some l.length 0 0
def qUs(l:List Wt):Option Int→Ex×Hs
 | some c=>(.x 0,⟨[.ls .a wT l,.v (.int .i64 c)],[],[]⟩)
 | none=>(.r,⟨[.v (.bool true)],[],[]⟩)
theorem lpLg(l:List Wt)(f:l.length<9223372036854775807):lpF (zXa (odT []) (loT [])) l.length (iLg l 0 0)=some (qUs l (lgF l)):=
 jM (iv:=fun i c=>iLg l c i) (g:=gLg l) (d:=some) (out:=qUs l) (n:=l.length) (fun _ _=>True)
  (fun i c e _=>by
   rw[sLg];unfold gLg;simp only[zP e,ze,xC (show i+1<9223372036854775808 by omega),wrS]
   cases ilt 4 (.ofNat (wA l i).2.2.1.length)<;>cases inW (Int.add c (.ofNat (wA l i).2.2.2.length))<;>rfl)
  (fun _ _ _ _ _ _=>trivial)
  (fun _ _=>by rw[sLg];simp only[yC (z6 _),zf];rfl) l.length 0 0 (by omega) trivial
abbrev rA(l:List Rt)(i:Nat):Rt:=nth zL.zero l i
theorem sWd(l:List Rt)(i:Nat):zXe (odT []) (loT []) (iWd l i)=bif Nat.blt i l.length then(bif Nat.blt i l.length then(bif ilt 20 (.ofNat (rA l i).2.1.length)then some (.inr (.r,⟨[.v (.bool true)],[],[]⟩))else(bif Nat.blt i l.length then(bif ilt 20 (.ofNat (rA l i).2.2.length)then some (.inr (.r,⟨[.v (.bool true)],[],[]⟩))else nx i (.inl (iWd l (i+1))))else none))else none)else some (.inr (.x 0,⟨[.ls .a zL l],[],[]⟩)):=by kernel_rfl
def gWd(l:List Rt)(i:Nat)(_:Unit):Unit⊕Bool:=bif ilt 20 (.ofNat (rA l i).2.1.length)||ilt 20 (.ofNat (rA l i).2.2.length)then .inr true else .inl ()
def wdF(l:List Rt):Bool:=fol (gWd l) (fun _=>false) l.length 0 ()
def qUy(l:List Rt):Bool→Ex×Hs
 | false=>(.x 0,⟨[.ls .a zL l],[],[]⟩)
 | true=>(.r,⟨[.v (.bool true)],[],[]⟩)
theorem lpWd(l:List Rt)(f:l.length<9223372036854775807):lpF (zXe (odT []) (loT [])) l.length (iWd l 0)=some (qUy l (wdF l)):=
 jM (iv:=fun i(_:Unit)=>iWd l i) (g:=gWd l) (d:=fun _=>false) (out:=qUy l) (n:=l.length) (fun _ _=>True)
  (fun i _ e _=>by
   rw[sWd];unfold gWd;simp only[zP e,ze,xC (show i+1<9223372036854775808 by omega)]
   cases ilt 20 (.ofNat (rA l i).2.1.length)<;>cases ilt 20 (.ofNat (rA l i).2.2.length)<;>rfl)
  (fun _ _ _ _ _ _=>trivial)
  (fun _ _=>by rw[sWd];simp only[yC (z6 _),zf];rfl) l.length 0 () (by omega) trivial
def shLx:Sh:=⟨.x 0,[.l .a wT,.i .i64],[],[]⟩
def qSc:Sh:=⟨.r,[.b],[],[]⟩
def shWx:Sh:=⟨.x 0,[.l .a zL],[],[]⟩
abbrev LL7:Lo:=loT [(38,[false,true,false,true,true],Llg.row (lpR (zXa (odT []) (loT [])) (fun q=>lnO (nth .u q.hs 0)) [shLx,qSc])),(65,[false,true,false,true],Lwd.row (lpR (zXe (odT []) (loT [])) (fun q=>lnO (nth .u q.hs 0)) [shWx,qSc]))]
def lgB(n:Nat)(c:Int):Bool:=bif ilt 110 (.ofNat n)then(bif !ilt 4096 (.ofNat n)then true else(bif ilt 5000 (.ofNat n)then true else(bif !ilt 110 (.ofNat n)then ilt 110 c else false)))else(bif ilt 5000 (.ofNat n)then true else(bif !ilt 110 (.ofNat n)then ilt 110 c else false))
abbrev lgW(n:Nat)(c:Int):Option (T×Bool):=bif ilt 110 (.ofNat n)then(bif !ilt 4096 (.ofNat n)then yB true else(bif ilt 5000 (.ofNat n)then yB true else(bif !ilt 110 (.ofNat n)then yB (ilt 110 c)else yB false)))else(bif ilt 5000 (.ofNat n)then yB true else(bif !ilt 110 (.ofNat n)then yB (ilt 110 c)else yB false))
theorem jBg(n:Nat)(c:Int):lgW n c=yB (lgB n c):=by
 unfold lgB;simp only[lgW];cases ilt 110 (.ofNat n)<;>cases ilt 4096 (.ofNat n)<;>cases ilt 5000 (.ofNat n)<;>rfl
abbrev lgY(y:Option (Ex×Hs)):Option (T×Bool):=bif shT shLx y then lgW (lOf wT (hdT (hsO y).hs)).length (iOf (hdT (hsO y).hs.tail))else(bif shT qSc y then yB (bOf (hdT (hsO y).hs))else none)
theorem eLg(l:List Wt):((qF Tryz.prog (evD Tryz.prog (odT []) (LL7) 60) 38 [.ls .a wT l] []).bind qJ).run=lgY (lpF (zXa (odT []) (loT [])) l.length (iLg l 0 0)):=by kernel_rfl
def lgZ(l:List Wt):Bool:=match lgF l with
 | some c=>lgB l.length c
 | none=>true
theorem gP:mM Tryz.prog (evD Tryz.prog (odT []) (loT []) 60):=kM yL jZ qA 60
theorem qIb:vJ Tryz.prog LL7:=jP (jP qA gP qWk gD) gP qVz gD
def oLg(fL:List Wt→Bool):List T→DT (T×Bool)
 | [.ls .a (.prod (.prod (.int .i64) (.prod (.int .i64) (.int .i64))) zL) l]=>grd (Nat.blt l.length 9223372036854775807) (.ret (.v (.bool (fL l)),true))
 | _=> .no
theorem jV{a b:Nat}(h:Nat.blt a b=true):a<b:=by
 rcases qi a b with g | g
 ·exact g
 ·rw[yC g]at h;cases h
theorem kLg:∀e j f,(oLg lgZ e).run=some (j,f)→∀k,KnP Tryz.prog k 38 e j f:=by
 intro e j f h k;unfold oLg at h;split at h
 ·rename_i l;obtain⟨y,z⟩:=zT h;cases z;have q:((qF Tryz.prog (evD Tryz.prog (odT []) (LL7) 60) 38 [.ls .a wT l] []).bind qJ).run=yB (lgZ l):=by
   rw[eLg,lpLg l (jV y)];unfold lgZ;cases lgF l with
   | none=>rfl
   | some c=>exact jBg l.length c
  exact yN (cz:=[.ls .a wT l]) yL jZ qIb q rfl k
 ·cases h
abbrev wdY(y:Option (Ex×Hs)):Option (T×Bool):=bif shT shWx y then yB (ilt 20 (.ofNat (lOf zL (hdT (hsO y).hs)).length))else(bif shT qSc y then yB (bOf (hdT (hsO y).hs))else none)
theorem eWd(l:List Rt):((qF Tryz.prog (evD Tryz.prog (odT []) (LL7) 60) 65 [.ls .a zL l] []).bind qJ).run=wdY (lpF (zXe (odT []) (loT [])) l.length (iWd l 0)):=by kernel_rfl
def wdZ(l:List Rt):Bool:=bif wdF l then true else ilt 20 (.ofNat l.length)
def oWd(fW:List Rt→Bool):List T→DT (T×Bool)
 | [.ls .a zL l]=>grd (Nat.blt l.length 9223372036854775807) (.ret (.v (.bool (fW l)),true))
 | _=> .no
theorem kWd:∀e j f,(oWd wdZ e).run=some (j,f)→∀k,KnP Tryz.prog k 65 e j f:=by
 intro e j f h k;unfold oWd at h;split at h
 ·rename_i l;obtain⟨y,z⟩:=zT h;cases z;have q:((qF Tryz.prog (evD Tryz.prog (odT []) (LL7) 60) 65 [.ls .a zL l] []).bind qJ).run=yB (wdZ l):=by
   rw[eWd,lpWd l (jV y)];unfold wdZ;cases wdF l<;>rfl
  exact yN (cz:=[.ls .a zL l]) yL jZ qIb q rfl k
 ·cases h
def oAw:List T→DT (T×Bool)
 | []=> .ret (.v (.bool true),true)
 | _=> .no
section
variable (fL:List Wt→Bool)(fW:List Rt→Bool)(mR:List Wt→List Wt→Raw→List Wt)(mE:List Wt→List Wt→Raw→Int)(fr:Int→Raw)(cE:List Wt→Int)(sM:List Wt→List Wt→Bool)
abbrev gw(a b:List Wt){α:Type}(x:Option α):Option α:=gd (Nat.ble a.length 100000&&Nat.ble b.length 100000) x
end
theorem qIy{a:Raw}(h:a.chk=0)(q:∀y∈a.ln,y<4294967296)(z:∀y∈a.ld,y<4294967296):Raw.of a.rat=a∧zAk a.rat=0:=by
 obtain⟨T,X,E,G,J,K,M⟩:=Raw.chk_ok h;have j:(sgn a.neg (val a.ln)).natAbs=val a.ln:=by unfold sgn;split<;>omega
 have A:Nat.gcd (val a.ln) a.d=1:=by
  unfold Raw.d;split
  ·exact Nat.gcd_one_right _
  ·rename_i f;exact ko fun N=>M ⟨by omega,N⟩
 have hd:=a.d_pos;have k:a.rat.num=sgn a.neg (val a.ln):=by
  unfold Raw.rat;rw[d5,j,wh,A,ql (by omega)];simp
 have q2:a.rat.den=a.d:=by
  unfold Raw.rat;rw[Rat.den_mkRat,j,wh,A,ql (by omega)];simp
 have Q:val a.ln<jR:=qd (kR q) (js (by omega) T)
 have R:val a.ld<jR:=qd (kR z) (js (by omega) X)
 have B:pY a.rat.den=val a.ld:=by
  rw[q2];unfold pY Raw.d;by_cases f:val a.ld=0
  ·rw[qj f,qj rfl,f]
  ·rw[ql f,ql J]
 have q4:decide (a.rat.num<0)=a.neg:=by
  rw[k];cases hb:a.neg with
  | false=>exact wn (by unfold sgn;simp)
  | true=>
   have:val a.ln≠0:=fun e=>K ⟨e,.inl hb⟩;exact xe (by unfold sgn;simp;omega)
 constructor
 ·have e:Raw.of a.rat=⟨a.neg,kL (val a.ln),kL (val a.ld)⟩:=by unfold Raw.of;rw[q4,k,j,B]
  rw[e,←zGp q E,←zGp z G]
 ·unfold zAk;rw[k,j,B,qj ⟨Q,R⟩]
theorem jHh:zAk 0=0:=by unfold zAk;rw[qj];exact⟨by decide,by decide⟩
theorem jHi:zAk 1=0:=by
 unfold zAk;rw[qj];have:(1:Nat)<jR:=qd (show 1<4294967296^1 by omega) (js (by omega) (by omega))
 exact⟨this,ju (show pY 1≤1 by decide) this⟩
theorem fr1:frA 1=Raw.of 1:=by show Raw.of ((1:Int):Rat)=_;rw[Rat.intCast_one]
theorem fr0:frA 0=Raw.of 0:=by show Raw.of ((0:Int):Rat)=_;rw[Rat.intCast_zero]
theorem zNq:(frA 1).chk=0:=by rw[fr1];exact Raw.of_chk jHi
theorem zNp:(frA 0).chk=0:=by rw[fr0];exact Raw.of_chk jHh
theorem zBj:(frA 1).rat=1:=by rw[fr1];exact Raw.of_rat 1
theorem zXz:(frA 0).rat=0:=by rw[fr0];exact Raw.of_rat 0
abbrev m3A(w v:Raw)(g:Rt×Rt):Raw⊕Int:=m3F adA muA aeA meA w v g
theorem jBs{w v t:Raw}{g:Rt×Rt}(h:m3A w v g= .inl t):t=Raw.of (w.rat*(rw' g.1).rat+v.rat*(rw' g.2).rat):=by
 unfold m3A m3F at h;cases e:ieq (meA w (rw' g.1)) 0 with
 | false=>rw[e]at h;cases h
 | true=>
  cases f:ieq (meA v (rw' g.2)) 0 with
  | false=>rw[e,f]at h;cases h
  | true=>
   cases j:ieq (aeA (muA w (rw' g.1)) (muA v (rw' g.2))) 0 with
   | false=>rw[e,f,j]at h;cases h
   | true=>
    rw[e,f,j]at h;cases h;have g1:=(yO (zV.1 e)).2.2.2.1;have g2:=(yO (zV.1 f)).2.2.2.1;have g3:=(yO (zV.1 j)).2.2.1;refine g3.trans ?_;rw[g1,g2]
theorem jBt{w v:Raw}{g:Rt×Rt}{e:Int}(h:m3A w v g= .inr e):e≠0:=by
 unfold m3A m3F at h;intro q;subst q;cases f:ieq (meA w (rw' g.1)) 0 with
 | false=>
  rw[f]at h;have:meA w (rw' g.1)=0:=Sum.inr.inj h;rw[yS this]at f;cases f
 | true=>
  cases j:ieq (meA v (rw' g.2)) 0 with
  | false=>
   rw[f,j]at h;have:meA v (rw' g.2)=0:=Sum.inr.inj h;rw[yS this]at j;cases j
  | true=>
   cases k:ieq (aeA (muA w (rw' g.1)) (muA v (rw' g.2))) 0 with
   | false=>
    rw[f,j,k]at h;have:aeA (muA w (rw' g.1)) (muA v (rw' g.2))=0:=Sum.inr.inj h;rw[yS this]at k;cases k
   | true=>rw[f,j,k]at h;cases h
theorem nR{a b c e f j:Int}:leP (a,b,c) (e,f,j)=true↔a<e∨a=e∧(b<f∨b=f∧c<j):=by
 show(bif !ieq a e then ilt a e else(bif !ieq b f then ilt b f else ilt c j))=true↔_;by_cases k:a=e
 ·rw[yS k,qb,zf];by_cases q:b=f
  ·rw[yS q,qb,zf,xV];omega
  ·rw[zHi q,jr,ze,xV];omega
 ·rw[zHi k,jr,ze,xV];omega
theorem zDo{p q r:Pt}(h:leP p q=true)(e:leP q r=true):leP p r=true:=by
 obtain⟨a,b,c⟩:=p;obtain⟨f,k,z⟩:=q;obtain⟨j,y,A⟩:=r;have g:=nR.1 h;have g2:=nR.1 e;exact nR.2 (by omega)
theorem pF{p q:Pt}(h:leP p q=true):p≠q:=by
 obtain⟨a,b,c⟩:=p;obtain⟨f,j,k⟩:=q;have g:=nR.1 h;intro e;have y: @Eq Int a f:=jh Prod.fst e;have z: @Eq Int b j:=jh (fun x:Pt=>x.2.1) e;have A: @Eq Int c k:=jh (fun x:Pt=>x.2.2) e;omega
theorem qHw{a b c e f j:Int}(h:leP (a,b,c) (e,f,j)=false)(q:leP (e,f,j) (a,b,c)=false):a=e∧b=f∧c=j:=by
 have g:¬(a<e∨a=e∧(b<f∨b=f∧c<j)):=fun k=>by rw[nR.2 k]at h;cases h
 have g2:¬(e<a∨e=a∧(f<b∨f=b∧j<c)):=fun k=>by rw[nR.2 k]at q;cases q
 omega
theorem qPo{p q:Pt}(h:leP p q=false)(k:leP q p=false):p=q:=by
 obtain⟨a,b,c⟩:=p;obtain⟨y,z,A⟩:=q;obtain⟨e,f,j⟩:=qHw h k;rw[e,f,j]
theorem qXl{p q:Pt}(h:ilt (cpP p q) 0=true):leP p q=true:=by
 obtain⟨a,b,c⟩:=p;obtain⟨y,z,A⟩:=q;rw[nR];have j:∀{a b:Int},(ieq (cmI a b) 0=true→a=b)∧(ilt (cmI a b) 0=true→a<b):=fun{a b}=>by
  unfold cmI;cases e:ilt a b with
  | true=>exact⟨fun h=>(by cases h),fun _=>xV.1 e⟩
  | false=>
   have J:¬a<b:=fun k=>by rw[mZ k]at e;cases e
   cases f:ilt b a with
   | true=>exact⟨fun h=>(by cases h),fun h=>(by cases h)⟩
   | false=>
    have K:¬b<a:=fun k=>by rw[mZ k]at f;cases f
    exact⟨fun _=>(by omega),fun h=>(by cases h)⟩
 have h:ilt (bif !ieq (cmI a y) 0 then cmI a y else(bif !ieq (cmI b z) 0 then cmI b z else(bif !ieq (cmI c A) 0 then cmI c A else 0))) 0=true:=h;cases e:ieq (cmI a y) 0 with
 | false=>rw[e]at h;exact .inl (j.2 h)
 | true=>
  have B:=j.1 e;rw[e]at h;cases f:ieq (cmI b z) 0 with
  | false=>rw[f]at h;exact .inr ⟨B,.inl (j.2 h)⟩
  | true=>
   have G:=j.1 f;rw[f]at h;cases E:ieq (cmI c A) 0 with
   | false=>rw[E]at h;exact .inr ⟨B,.inr ⟨G,j.2 h⟩⟩
   | true=>rw[E]at h;cases h
def Asc:List Wt→Prop
 | []=>True
 | x::l=>(∀y∈l,leP x.1 y.1=true)∧Asc l
theorem zNx{p q:Pt}:keq pT p q=true↔p=q:=by
 obtain⟨a,b,c⟩:=p;obtain⟨f,j,k⟩:=q;have e:keq pT (a,b,c) (f,j,k)=(ieq a f&&(ieq b j&&ieq c k)):=rfl;rw[e];simp only[zd,zV,qT]
theorem zLn{p q:Pt}(h:p≠q):keq pT p q=false:=by
 cases e:keq pT p q with
 | false=>rfl
 | true=>exact absurd (zNx.1 e) h
theorem zBm(k j:Pt)(x:Rt×Rt):∀m:Mp,jN pT z0 k (mD pT j x m)=bif keq pT k j then x else jN pT z0 k m
 | []=>rfl
 | e::m=>by
  have A:mD pT j x (e::m)=(bif keq pT j e.1 then(j,x)::m else e::mD pT j x m):=rfl;have y:∀(q:Pt)(f:Pt×(Rt×Rt))(m:Mp),jN pT z0 q (f::m)=(bif keq pT q f.1 then f.2 else jN pT z0 q m):=fun _ _ _=>rfl;rw[A];cases h:keq pT j e.1 with
  | true=>
   obtain rfl:=zNx.1 h;rw[ze,y,y];show(bif keq pT k e.1 then x else jN pT z0 k m)=_;cases keq pT k e.1<;>rfl
  | false=>
   rw[zf,y,y,zBm k j x m];cases B:keq pT k e.1 with
   | false=>rfl
   | true=>
    obtain rfl:=zNx.1 B;rw[zLn fun z=>by rw[z,zNx.2 rfl]at h;cases h]
    rfl
theorem jDq(p:Pt)(m:Mp)(x:Wt):(jN pT z0 p (zFi m x)).2=(jN pT z0 p m).2:=by
 unfold zFi;rw[zBm];cases h:keq pT p x.1 with
 | false=>rfl
 | true=>obtain rfl:=zNx.1 h;rfl
theorem jDr(p:Pt)(m:Mp)(x:Wt):(jN pT z0 p (zFj m x)).1=(jN pT z0 p m).1:=by
 unfold zFj;rw[zBm];cases h:keq pT p x.1 with
 | false=>rfl
 | true=>obtain rfl:=zNx.1 h;rfl
theorem zWg(p:Pt)(m:Mp)(x:Wt):(jN pT z0 p (zFi m x)).1=bif keq pT p x.1 then x.2 else(jN pT z0 p m).1:=by
 unfold zFi;rw[zBm];cases h:keq pT p x.1<;>rfl
theorem zWh(p:Pt)(m:Mp)(x:Wt):(jN pT z0 p (zFj m x)).2=bif keq pT p x.1 then x.2 else(jN pT z0 p m).2:=by
 unfold zFj;rw[zBm];cases h:keq pT p x.1<;>rfl
theorem zHb{β:Type}(f:β→Wt→β)(l:List Wt):∀(k i:Nat)(m:β),i+k=l.length→fol (fun i m=>(.inl (f m (wA l i)):β⊕β)) id k i m=(l.drop i).foldl f m
 | 0,i,m,h=>by
  obtain rfl:i=l.length:=by omega
  simp[fol]
 | k+1,i,m,h=>by
  have e:i<l.length:=by omega
  simp only[fol];rw[zHb f l k (i+1) _ (by omega),ji e,xh,wA,qU]
  simp[e]
theorem qZg(l:List Wt)(m:Mp):fm0 l m=l.foldl zFi m:=by
 unfold fm0;rw[zHb zFi l l.length 0 m (by omega)];rfl
theorem qZh(l:List Wt)(m:Mp):fm1 l m=l.foldl zFj m:=by
 unfold fm1;rw[zHb zFj l l.length 0 m (by omega)];rfl
def wt(p:Pt):List Wt→Rt
 | []=>(false,[],[])
 | x::l=>bif keq pT p x.1 then x.2 else wt p l
theorem qMg{p:Pt}:∀{l:List Wt},(∀y∈l,p≠y.1)→wt p l=(false,[],[])
 | [],_=>rfl
 | x::l,h=>by
  unfold wt;rw[zLn (h x zq)];exact qMg fun y e=>h y (zu _ e)
theorem zMq{x:Wt}:∀{l:List Wt},Asc l→x∈l→wt x.1 l=x.2
 | y::l,ha,e=>by
  unfold wt;rcases qS.1 e with rfl | e
  ·rw[zNx.2 rfl];rfl
  ·rw[zLn (cX (pF (ha.1 x e)))];exact zMq ha.2 e
theorem qMf(p:Pt):∀(l:List Wt),wt p l=(false,[],[])∨∃x∈l,wt p l=x.2
 | []=> .inl rfl
 | y::l=>by
  unfold wt;cases keq pT p y.1 with
  | true=>exact .inr ⟨y,zq,rfl⟩
  | false=>
   rcases qMf p l with h | ⟨x,e,h⟩
   ·exact .inl h
   ·exact .inr ⟨x,zu _ e,h⟩
theorem zXx(p:Pt):∀(l:List Wt)(m:Mp),(jN pT z0 p (l.foldl zFi m)).2=(jN pT z0 p m).2
 | [],_=>rfl
 | x::l,m=>by rw[xh,zXx p l,jDq]
theorem zXy(p:Pt):∀(l:List Wt)(m:Mp),(jN pT z0 p (l.foldl zFj m)).1=(jN pT z0 p m).1
 | [],_=>rfl
 | x::l,m=>by rw[xh,zXy p l,jDr]
theorem zLe(p:Pt):∀(l:List Wt)(m:Mp),(∀y∈l,p≠y.1)→(jN pT z0 p (l.foldl zFi m)).1=(jN pT z0 p m).1
 | [],_,_=>rfl
 | x::l,m,h=>by
  rw[xh,zLe p l _ fun y e=>h y (zu _ e),zWg,zLn (h x zq)];rfl
theorem zLf(p:Pt):∀(l:List Wt)(m:Mp),(∀y∈l,p≠y.1)→(jN pT z0 p (l.foldl zFj m)).2=(jN pT z0 p m).2
 | [],_,_=>rfl
 | x::l,m,h=>by
  rw[xh,zLf p l _ fun y e=>h y (zu _ e),zWh,zLn (h x zq)];rfl
theorem zQz(p:Pt):∀(l:List Wt)(m:Mp),Asc l→(jN pT z0 p m).1=(false,[],[])→(jN pT z0 p (l.foldl zFi m)).1=wt p l
 | [],m,_,h=>h
 | x::l,m,ha,h=>by
  rw[xh];unfold wt;cases e:keq pT p x.1 with
  | true=>
   obtain rfl:=zNx.1 e;rw[zLe x.1 l _ fun y f=>pF (ha.1 y f),zWg,e];rfl
  | false=>
   rw[zQz p l _ ha.2 (by rw[zWg,e];exact h)]
   rfl
theorem zRa(p:Pt):∀(l:List Wt)(m:Mp),Asc l→(jN pT z0 p m).2=(false,[],[])→(jN pT z0 p (l.foldl zFj m)).2=wt p l
 | [],m,_,h=>h
 | x::l,m,ha,h=>by
  rw[xh];unfold wt;cases e:keq pT p x.1 with
  | true=>
   obtain rfl:=zNx.1 e;rw[zLf x.1 l _ fun y f=>pF (ha.1 y f),zWh,e];rfl
  | false=>
   rw[zRa p l _ ha.2 (by rw[zWh,e];exact h)]
   rfl
theorem jBw{a b:List Wt}(ha:Asc a)(hb:Asc b)(p:Pt):jN pT z0 p (fm1 b (fm0 a []))=(wt p a,wt p b):=by
 rw[qZh,qZg];refine Prod.ext ?_ ?_
 ·rw[zXy];exact zQz p a [] ha rfl
 ·exact zRa p b _ hb (by rw[zXx];rfl)
def mxL(g:Pt→Raw⊕Int):List Pt→List Wt→List Wt⊕Int
 | [],o=> .inl o
 | p::f,o=>match g p with
  | .inl t=>mxL g f (bif ilt 0 (.ofNat t.ln.length)then(p,toT t)::o else o)
  | .inr e=> .inr e
theorem zYw(w v:Raw)(m:Mp)(f:List Pt):∀(k i:Nat)(o:List Wt),i+k=f.length→fol (gM3 adA muA aeA meA w v m f) .inl k i o=mxL (fun p=>m3F adA muA aeA meA w v (jN pT z0 p m)) (f.drop i) o
 | 0,i,o,h=>by
  obtain rfl:i=f.length:=by omega
  rw[uV];rfl
 | k+1,i,o,h=>by
  have j:i<f.length:=by omega
  have e:pA f i=f[i]:=by rw[pA,qU];simp[j]
  rw[ji j];simp only[fol,gM3,mxL,←e];cases m3F adA muA aeA meA w v (jN pT z0 (pA f i) m)with
  | inl t=>exact zYw w v m f k (i+1) _ (by omega)
  | inr e=>rfl
abbrev gB(l:List Wt)(j:Nat):Unit⊕Option Int:=gB0 Raw.chk l j ()
theorem zHe{l:List Wt}{i:Nat}(h:gB l i= .inl ()):(0<i→leP (wA l (i-1)).1 (wA l i).1=true)∧(rw' (wA l i).2).chk=0∧(wA l i).2.2.1≠[]:=by
 unfold gB gB0 at h;cases k:aO (wA l i).1 with
 | true=>rw[k]at h;cases h
 | false=>
  rw[k,zf]at h;cases f:(ilt 0 (.ofNat i)&&!ilt (cpP (wA l (i-1)).1 (wA l i).1) 0)with
  | true=>rw[f]at h;cases h
  | false=>
   rw[f,zf]at h;cases j:ieq (Raw.chk (rw' (wA l i).2)) 0 with
   | false=>rw[j]at h;cases h
   | true=>
    rw[j]at h;refine⟨fun z=>?_,zV.1 j,fun e=>?_⟩
    ·rw[mZ (show(0:Int)<.ofNat i by simpa using z),kx]at f
     cases q:ilt (cpP (wA l (i-1)).1 (wA l i).1) 0 with
     | true=>exact qXl q
     | false=>rw[q]at f;cases f
    ·rw[e]at h;cases y:(wA l i).2.1<;>rw[y]at h<;>cases h
theorem qGy{l:List Wt}{i:Nat}{y:Option Int}(h:gB l i= .inr y):∃e,e≠0∧y=some e:=by
 unfold gB gB0 at h;cases j:aO (wA l i).1 with
 | true=>rw[j]at h;cases h;exact⟨7,by decide,rfl⟩
 | false=>
  rw[j,zf]at h;cases k:(ilt 0 (.ofNat i)&&!ilt (cpP (wA l (i-1)).1 (wA l i).1) 0)with
  | true=>rw[k]at h;cases h;exact⟨2,by decide,rfl⟩
  | false=>
   rw[k,zf]at h;cases f:ieq (Raw.chk (rw' (wA l i).2)) 0 with
   | false=>
    rw[f]at h;cases h;exact⟨_,fun e=>(by rw[yS e]at f;cases f),rfl⟩
   | true=>
    rw[f]at h;cases q:((wA l i).2.1||ieq (.ofNat (wA l i).2.2.1.length) 0)with
    | true=>rw[q]at h;cases h;exact⟨1,by decide,rfl⟩
    | false=>rw[q]at h;cases h
theorem zQy{l:List Wt}:∀(k i:Nat),fol (gB0 Raw.chk l) (fun _=>none) k i ()=none→∀j,i≤j→j<i+k→gB l j= .inl ()
 | 0,i,_,j,z,A=>by omega
 | k+1,i,h,j,z,A=>by
  simp only[fol]at h;cases q:gB l i with
  | inl B=>
   have f:gB0 Raw.chk l i ()= .inl B:=q;rw[f]at h;rcases xo z with rfl | hlt
   ·exact q
   ·exact zQy k (i+1) h j hlt (by omega)
  | inr y=>
   have f:gB0 Raw.chk l i ()= .inr y:=q;rw[f]at h;obtain⟨e,_,rfl⟩:=qGy q;cases h
theorem zHc{l:List Wt}{e:Int}:∀(k i:Nat),fol (gB0 Raw.chk l) (fun _=>none) k i ()=some e→e≠0
 | 0,i,h=>by cases h
 | k+1,i,h=>by
  simp only[fol]at h;cases j:gB l i with
  | inl q=>
   have f:gB0 Raw.chk l i ()= .inl q:=j;rw[f]at h;exact zHc k (i+1) h
  | inr y=>
   have f:gB0 Raw.chk l i ()= .inr y:=j;rw[f]at h;obtain⟨z,he,rfl⟩:=qGy j;cases h;exact he
theorem zXk{l:List Wt}(h:bE l=0):∀j,j<l.length→gB l j= .inl ():=by
 unfold bE bcE at h;cases k:Nat.beq l.length 0 with
 | true=>rw[k]at h;cases h
 | false=>
  rw[k,zf]at h;cases q:Nat.blt 4096 l.length with
  | true=>rw[q]at h;cases h
  | false=>
   rw[q,zf]at h;cases f:b0F Raw.chk l with
   | some e=>
    rw[f]at h;exact absurd h (zHc l.length 0 f)
   | none=>exact fun j y=>zQy l.length 0 f j (qq _) (by omega)
theorem gZ{l:List Wt}{i:Nat}(e:i<l.length):wA l i=l[i]:=by rw[wA,qU];simp[e]
theorem zQg{l:List Wt}(h:∀j,j<l.length→gB l j= .inl ()):∀(k i:Nat),i+k=l.length→Asc (l.drop i)
 | 0,i,e=>by
  obtain rfl:i=l.length:=by omega
  rw[uV];trivial
 | 1,i,e=>by
  have z:i<l.length:=by omega
  rw[ji z,yo (by omega)]
  exact⟨fun y q=>(by cases q),trivial⟩
 | k+2,i,e=>by
  have z:i<l.length:=by omega
  have f:i+1<l.length:=by omega
  have B:=zQg h (k+1) (i+1) (by omega)
  have A:=(zHe (h (i+1) f)).1 (uo i);rw[x9,gZ z,gZ f]at A;rw[ji z];refine⟨fun y q=>?_,B⟩;rw[ji f]at q B;rcases qS.1 q with rfl | q
  ·exact A
  ·exact zDo A (B.1 y q)
def okW(l:List Wt):Prop:=∀x∈l,(∀y∈x.2.2.1,y<4294967296)∧(∀y∈x.2.2.2,y<4294967296)
structure Bel(l:List Wt):Prop where
 asc:Asc l
 ck:∀x∈l,(rw' x.2).chk=0∧x.2.2.1≠[]
 lim:okW l
theorem qEw{l:List Wt}(h:bE l=0)(k:okW l):Bel l:=by
 have g:=zXk h;refine⟨zQg g l.length 0 (by omega),fun x q=>?_,k⟩
 obtain⟨j,f⟩:=qz q;have hlt:=(zh.1 f).1;have e:wA l j=x:=by rw[gZ hlt];exact(zh.1 f).2
 have:=(zHe (g j hlt)).2;rwa[e]at this
section
variable {a b:List Wt}{w v:Raw}
theorem qIl:mxF adA muA aeA meA w v (fm1 b (fm0 a [])) (ptF a b)=mxL (fun p=>m3A w v (jN pT z0 p (fm1 b (fm0 a [])))) (mgP (a.length+b.length) a b) []:=
 zYw w v (fm1 b (fm0 a [])) (ptF a b) (ptF a b).length 0 [] (qc _)
end
abbrev nT:Ty:= .int .i64
abbrev spT:Ty:= .prod nT nT
abbrev vi(n:Int):T:= .v (.int .i64 n)
abbrev vn(n:Nat):T:= .v (.int .i64 (.ofNat n))
abbrev nI(l:List Int)(i:Nat):Int:=nth nT.zero l i
def iIx(f e:Int)(l:List Int)(n i:Nat):Hs:=⟨[.ls .a nT l,vn n,vn i],[],[[vi f,vi e]]⟩
def Lix:Lp:=⟨1,
 ⟨[.h,.t (.fn 242 [.op 0 0])]++(us' 5++([.h,.h]++(us' 10))),[.r [.h,.h] 239]⟩,
 ⟨us' 19,[.g]⟩,
 ⟨us' 4++([.h]++(us' 14)),[.g]⟩⟩
abbrev qSy:Code:=lpc Tryz.prog 269 [false,true,false,true]
theorem qVy:cAt Tryz.prog 269 [false,true,false,true]=some (.loop qSy):=by kernel_rfl
abbrev zWz(f:Od)(e:Lo):Hs→Option (Hs⊕(Ex×Hs)):=Lix.stp (evD Tryz.prog f e 60) 269 [false,true,false,true] qSy
theorem sIx(f e:Int)(l:List Int)(n i:Nat):zWz (odT []) (loT []) (iIx f e l n i)=bif ilt (.ofNat i) (.ofNat n)then gd (Nat.blt i l.length) (bif ilt (nth nT.zero l i) f then some (.inr (.r,⟨[vn i],[],[[]]⟩))else(bif ilt e (nth nT.zero l i)then some (.inr (.r,⟨[vn i],[],[[]]⟩))else nx i (.inl (iIx f e l n (i+1)))))else some (.inr (.x 0,⟨[],[],[[]]⟩)):=by kernel_rfl
def oI(f e x:Int):Bool:=ilt x f||ilt e x
def gIx(f e:Int)(l:List Int)(i:Nat)(_:Unit):Unit⊕Option Nat:=bif oI f e (nI l i)then .inr (some i)else .inl ()
def ixF(f e:Int)(l:List Int):Option Nat:=fol (gIx f e l) (fun _=>none) l.length 0 ()
def qUr:Option Nat→Ex×Hs
 | none=>(.x 0,⟨[],[],[[]]⟩)
 | some i=>(.r,⟨[vn i],[],[[]]⟩)
theorem lpIx(f e:Int)(l:List Int)(k:l.length<9223372036854775807):lpF (zWz (odT []) (loT [])) l.length (iIx f e l l.length 0)=some (qUr (ixF f e l)):=
 jM (iv:=fun i(_:Unit)=>iIx f e l l.length i) (g:=gIx f e l) (d:=fun _=>none) (out:=qUr) (n:=l.length) (fun _ _=>True)
  (fun i _ j _=>by
   rw[sIx];show(bif Nat.blt i l.length then _ else _)=_;unfold gIx oI nI;simp only[gd,zP j,ze,xC (show i+1<9223372036854775808 by omega)]
   cases ilt (nth nT.zero l i) f<;>cases ilt e (nth nT.zero l i)<;>rfl)
  (fun _ _ _ _ _ _=>trivial)
  (fun _ _=>by rw[sIx];show(bif Nat.blt l.length l.length then _ else _)=_;rw[yC (z6 _),zf];rfl) l.length 0 () (by omega) trivial
def qVi:Sh:=⟨.x 0,[],[],[[]]⟩
def qVh:Sh:=⟨.r,[.i .i64],[],[[]]⟩
abbrev LIx:Lo:=loT [(269,[false,true,false,true],Lix.row (lpR (zWz (odT []) (loT [])) (fun q=>lnO (nth .u q.hs 0)) [qVi,qVh]))]
abbrev yIx(f e:Int)(l:List Int):Option (Ex×Hs):=lpF (zWz (odT []) (loT [])) l.length (iIx f e l l.length 0)
theorem eHas(f e:Int)(l:List Int):((qF Tryz.prog (evD Tryz.prog (odT []) (LIx) 60) 184 [.ag [vi f,vi e],.ls .a nT l] []).bind qJ).run=bif shT qVi ((yIx f e l))then some (.v (.bool true),true)else gd (shT qVh ((yIx f e l))) (some (.v (.bool (bif !(ilt (iOf (hdT ((hsO ((yIx f e l))).hs))) 0)then false else true)),true)):=by kernel_rfl
theorem jBi:vJ Tryz.prog LIx:=jP qA gP qVy gD
def yK(f e:Int)(l:List Int):Bool:=match ixF f e l with
 | none=>true
 | some _=>false
def qQm:List T→DT (T×Bool)
 | [.ag [.v (.int .i64 f),.v (.int .i64 e)],.ls .a (.int .i64) l]=>grd (Nat.blt l.length 9223372036854775807) (.ret (.v (.bool (yK f e l)),true))
 | _=> .no
theorem kHas:∀y A z,(qQm y).run=some (A,z)→∀k,KnP Tryz.prog k 184 y A z:=by
 intro y A z h k;unfold qQm at h;split at h
 ·rename_i j f l;obtain⟨B,E⟩:=zT h;cases E;have q:=eHas j f l;rw[show yIx j f l=_ from lpIx j f l (jV B)]at q;have e:((qF Tryz.prog (evD Tryz.prog (odT []) (LIx) 60) 184 [.ag [vi j,vi f],.ls .a nT l] []).bind qJ).run=yB (yK j f l):=by
   rw[q];unfold yK;cases ixF j f l<;>rfl
  exact yN (cz:=[.ag [vi j,vi f],.ls .a nT l]) yL jZ jBi e rfl k
 ·cases h
theorem qOk{q j:Int}{l:List Int}{i:Nat}(h:oI q j (nI l i)=false):q≤nI l i∧nI l i≤j:=by
 unfold oI at h;simp only[xr]at h;obtain⟨e,f⟩:=h;exact⟨dm.1 fun k=>(by rw[mZ k]at e;cases e),dm.1 fun k=>(by rw[mZ k]at f;cases f)⟩
theorem zYg{q f:Int}{l:List Int}:∀(k i:Nat),fol (gIx q f l) (fun _=>none) k i ()=none→∀j,i≤j→j<i+k→q≤nI l j∧nI l j≤f
 | 0,i,_,j,y,z=>by omega
 | k+1,i,h,j,y,z=>by
  simp only[fol,gIx]at h;cases e:oI q f (nI l i)with
  | true=>rw[e]at h;cases h
  | false=>
   rw[e]at h;rcases xo y with rfl | hlt
   ·exact qOk e
   ·exact zYg k (i+1) h j hlt (by omega)
theorem jCe{l:List Int}{i:Nat}(e:i<l.length):nI l i=l[i]:=by rw[nI,qU];simp[e]
theorem jAg{f e:Int}{l:List Int}(h:yK f e l=true){j:Nat}(q:j<l.length):f≤nI l j∧nI l j≤e:=by
 unfold yK at h;cases k:ixF f e l with
 | some i=>rw[k]at h;cases h
 | none=>exact zYg l.length 0 k j (qq _) (by omega)
def iC1(g:List (List Int))(c:List Int)(g2:List (List Int))(n k:Nat)(e:List Int)(m i:Nat):Hs:=⟨[.ls .a nT.list g,.ls .a nT c,.ls .a nT.list g2,vn n,vn k,.ls .a nT e,vn m,vn i],[],[]⟩
def Lc1:Lp:=⟨0,
 ⟨[.h]++(us' 3++([.h]++(us' 10++([.h,.h,.h]++(us' 11++([.h,.h,.h]++(us' 28))))))),[]⟩,
 ⟨[.h]++(us' 14++([.h,.h,.h]++(us' 42))),[]⟩,
 ⟨[.u,.u,.h]++(us' 57),[]⟩⟩
abbrev qSu:Code:=lpc Tryz.prog 157 [false,true,true,true,false,false,true,true,false,false,true,false,true,true]
theorem qVt:cAt Tryz.prog 157 [false,true,true,true,false,false,true,true,false,false,true,false,true,true]=some (.loop qSu):=by kernel_rfl
abbrev qDk(f:Od)(e:Lo):Hs→Option (Hs⊕(Ex×Hs)):=Lc1.stp (evD Tryz.prog f e 60) 157 [false,true,true,true,false,false,true,true,false,false,true,false,true,true] qSu
theorem sC1(g g2:List (List Int))(c e:List Int)(n k m i:Nat):qDk (odT []) (loT []) (iC1 g c g2 n k e m i)=bif ilt (.ofNat i) (.ofNat m)then gd (Nat.blt i e.length) (bif ilt (nth nT.zero e i) (Int.negSucc 1073741823)then some (.inr (.r,⟨[vn 1],[],[]⟩))else(bif ilt (.ofNat 1073741824) (nth nT.zero e i)then some (.inr (.r,⟨[vn 1],[],[]⟩))else(bif ilt (.ofNat 0) (.ofNat i)then gd (inW (pr i)) (gd (nng (pr i)) (gd (Nat.blt ((pr i).toNat) c.length) (bif !(ilt (nth nT.zero c ((pr i).toNat)) (nth nT.zero e i))then some (.inr (.r,⟨[vn 1],[],[]⟩))else nx i (.inl (iC1 g c g2 n k e m (i+1))))))else nx i (.inl (iC1 g c g2 n k e m (i+1))))))else some (.inr (.x 4,⟨[.ls .a nT.list g,.ls .a nT.list g2,vn n,vn k],[],[]⟩)):=by kernel_rfl
def qFq(c e:List Int)(i:Nat):Bool:=ilt (nI e i) (Int.negSucc 1073741823)||(ilt (.ofNat 1073741824) (nI e i)||(ilt (.ofNat 0) (.ofNat i)&&!ilt (nI c (i-1)) (nI e i)))
def gC1(c e:List Int)(i:Nat)(_:Unit):Unit⊕Bool:=bif qFq c e i then .inr true else .inl ()
def c1F(c e:List Int):Bool:=fol (gC1 c e) (fun _=>false) e.length 0 ()
def zZl(g g2:List (List Int))(n k:Nat):Bool→Ex×Hs
 | false=>(.x 4,⟨[.ls .a nT.list g,.ls .a nT.list g2,vn n,vn k],[],[]⟩)
 | true=>(.r,⟨[vn 1],[],[]⟩)
theorem prS(i:Nat):pr (i+1)= .ofNat i:=by show((i+1:Nat):Int)-1=(i:Int);omega
theorem yV{i:Nat}(h:i<9223372036854775808):inW (.ofNat i)=true:=zP h
theorem lpC1(g g2:List (List Int))(c f:List Int)(n k:Nat)(y:f.length<9223372036854775807)(z:f.length≤c.length):lpF (qDk (odT []) (loT [])) f.length (iC1 g c g2 n k f f.length 0)=some (zZl g g2 n k (c1F c f)):=
 jM (iv:=fun i(_:Unit)=>iC1 g c g2 n k f f.length i) (g:=gC1 c f) (d:=fun _=>false) (out:=zZl g g2 n k) (n:=f.length) (fun _ _=>True)
  (fun i _ j _=>by
   rw[sC1];show(bif Nat.blt i f.length then _ else _)=_;unfold gC1 qFq nI;simp only[gd,zP j,ze,xC (show i+1<9223372036854775808 by omega)]
   cases i with
   | zero=>
    have e:ilt (.ofNat 0) (.ofNat 0)=false:=rfl;rw[e];cases ilt (nth nT.zero f 0) (Int.negSucc 1073741823)<;>cases ilt (.ofNat 1073741824) (nth nT.zero f 0)<;>rfl
   | succ i=>
    have e:ilt (.ofNat 0) (.ofNat (i+1))=true:=rfl;rw[e,prS,yV (show i<9223372036854775808 by omega)]
    have q:(Int.ofNat i).toNat=i:=rfl;rw[q];simp only[nng,zP (show i<c.length by omega),ze,x9]
    cases ilt (nth nT.zero f (i+1)) (Int.negSucc 1073741823)<;>cases ilt (.ofNat 1073741824) (nth nT.zero f (i+1))<;>cases ilt (nth nT.zero c i) (nth nT.zero f (i+1))<;>rfl)
  (fun _ _ _ _ _ _=>trivial)
  (fun _ _=>by rw[sC1];show(bif Nat.blt f.length f.length then _ else _)=_;rw[yC (z6 _),zf];rfl) f.length 0 () (by omega) trivial
def hC1:Hs→DT (Ex×Hs)
 | ⟨[.ls .a (.list (.int .i64)) g,.ls .a (.int .i64) c,.ls .a (.list (.int .i64)) g2,.v (.int .i64 (.ofNat n)),.v (.int .i64 (.ofNat k)),.ls .a (.int .i64) e,.v (.int .i64 (.ofNat m)),.v (.int .i64 (.ofNat 0))],[],[]⟩=>grd (Nat.beq m e.length&&(Nat.ble e.length c.length&&Nat.blt e.length 9223372036854775807)) (.ite (c1F c e) (.ret (zZl g g2 n k true)) (.ret (zZl g g2 n k false)))
 | _=> .no
theorem qZr:∀q y,(hC1 q).run=some y→∃n,It (qDk (odT []) (loT [])) n q y:=fun q y h=>by
 unfold hC1 at h;split at h
 ·rename_i g c g2 n k e m;obtain⟨f,j⟩:=zT h;simp only[zd,qp]at f;obtain⟨z,A,B⟩:=f;obtain rfl:=zY z;have:=xM _ _ (lpC1 g g2 c e n k (jV B) A);cases hb:c1F c e<;>rw[hb]at j this<;>cases j<;>exact this
 ·cases h
abbrev LC1:Lo:=loT [(157,[false,true,true,true,false,false,true,true,false,false,true,false,true,true],Lc1.row hC1)]
theorem jBa:vJ Tryz.prog LC1:=jP qA gP qVt qZr
def iC0(q g:List (List Int))(n k:Nat):Hs:=⟨[.ls .a nT.list q,.ls .a nT.list g,vn n,vn k],[],[]⟩
def iSz(v:Int)(g:List (List Int))(n k:Nat):Hs:=⟨[vi v,.ls .a nT.list g,vn n,vn k],[],[]⟩
abbrev gI(g:List (List Int))(k:Nat):List Int:=nth nT.list.zero g k
def Lc0:Lp:=⟨0,
 ⟨[.h]++(us' 14++([.h,.h,.h]++(us' 42))),[]⟩,
 ⟨[.h]++(us' 59),[]⟩,
 ⟨[.u,.u,.h]++(us' 57),[]⟩⟩
abbrev qSt:Code:=lpc Tryz.prog 157 [false,true,false,true,true]
theorem qVs:cAt Tryz.prog 157 [false,true,false,true,true]=some (.loop qSt):=by kernel_rfl
abbrev qDj(f:Od)(e:Lo):Hs→Option (Hs⊕(Ex×Hs)):=Lc0.stp (evD Tryz.prog f e 60) 157 [false,true,false,true,true] qSt
def Lsz:Lp:=⟨0,
 ⟨us' 3++([.h,.u,.u,.h,.h,.h]++(us' 9)),[]⟩,
 ⟨us' 3++([.h]++(us' 14)),[]⟩,
 ⟨[.u,.u,.h]++(us' 15),[]⟩⟩
abbrev qTk:Code:=lpc Tryz.prog 228 [false,true,false,true,true]
theorem qWj:cAt Tryz.prog 228 [false,true,false,true,true]=some (.loop qTk):=by kernel_rfl
abbrev zXd(f:Od)(e:Lo):Hs→Option (Hs⊕(Ex×Hs)):=Lsz.stp (evD Tryz.prog f e 60) 228 [false,true,false,true,true] qTk
theorem sC0(q g:List (List Int))(n k:Nat):qDj (odT []) LC1 (iC0 q g n k)=bif ilt (.ofNat k) (.ofNat n)then gd (Nat.blt k g.length) (bif ieq (.ofNat ((gI g k).length)) (.ofNat 0)then some (.inr (.r,⟨[vn 3],[],[]⟩))else(bif ilt (.ofNat 32) (.ofNat ((gI g k).length))then some (.inr (.r,⟨[vn 4],[],[]⟩))else gd ((Nat.beq ((gI g k).length) ((gI g k).length))&&((Nat.ble ((gI g k).length) ((gI g k).length))&&(Nat.blt ((gI g k).length) 9223372036854775807))) (bif c1F (gI g k) (gI g k)then some (.inr (.r,⟨[vn 1],[],[]⟩))else nx k (.inl (iC0 q g n (k+1))))))else some (.inr (.x 1,⟨[.ls .a nT.list q],[],[]⟩)):=by kernel_rfl
theorem sSz(v:Int)(g:List (List Int))(n k:Nat):zXd (odT []) (loT []) (iSz v g n k)=bif ilt (.ofNat k) (.ofNat n)then gd (Nat.blt k g.length) (gd (inW (v.mul (.ofNat ((gI g k).length)))) (nx k (.inl (iSz (v.mul (.ofNat ((gI g k).length))) g n (k+1)))))else some (.inr (.x 0,⟨[vi v],[],[]⟩)):=by kernel_rfl
def gC0(g:List (List Int))(k:Nat)(_:Unit):Unit⊕Option Int:=bif ieq (.ofNat (gI g k).length) (.ofNat 0)then .inr (some 3)else(bif ilt (.ofNat 32) (.ofNat (gI g k).length)then .inr (some 4)else(bif c1F (gI g k) (gI g k)then .inr (some 1)else .inl ()))
def c0F(g:List (List Int)):Option Int:=fol (gC0 g) (fun _=>none) g.length 0 ()
def zZk(q:List (List Int)):Option Int→Ex×Hs
 | none=>(.x 1,⟨[.ls .a nT.list q],[],[]⟩)
 | some e=>(.r,⟨[vi e],[],[]⟩)
theorem zHl{c:List Int}(h:ilt (.ofNat 32) (.ofNat c.length)=false):c.length≤32:=by
 have h:Nat.blt 32 c.length=false:=h;rcases qi 32 c.length with g | g
 ·rw[zP g]at h;cases h
 ·exact g
theorem lpC0(q g:List (List Int))(j:g.length<9223372036854775807):lpF (qDj (odT []) LC1) g.length (iC0 q g g.length 0)=some (zZk q (c0F g)):=
 jM (iv:=fun k(_:Unit)=>iC0 q g g.length k) (g:=gC0 g) (d:=fun _=>none) (out:=zZk q) (n:=g.length) (fun _ _=>True)
  (fun k _ e _=>by
   rw[sC0];show(bif Nat.blt k g.length then _ else _)=_;unfold gC0;cases f:ilt (.ofNat 32) (.ofNat (gI g k).length)with
   | true=>simp only[gd,zP e,ze];cases ieq (.ofNat (gI g k).length) (.ofNat 0)<;>rfl
   | false=>
    have:=zHl f;simp only[gd,zP e,ze,zf,xC (show k+1<9223372036854775808 by omega),jL,yJ (z6 (gI g k).length),zP (show(gI g k).length<9223372036854775807 by omega),q9]
    cases ieq (.ofNat (gI g k).length) (.ofNat 0)<;>cases c1F (gI g k) (gI g k)<;>rfl)
  (fun _ _ _ _ _ _=>trivial)
  (fun _ _=>by rw[sC0];show(bif Nat.blt g.length g.length then _ else _)=_;rw[yC (z6 _),zf];rfl) g.length 0 () (by omega) trivial
def isN{α:Type}:Option α→Bool
 | none=>true
 | some _=>false
def eN:Option Int→Int
 | none=>0
 | some e=>e
def hC0:Hs→DT (Ex×Hs)
 | ⟨[.ls .a (.list (.int .i64)) q,.ls .a (.list (.int .i64)) g,.v (.int .i64 (.ofNat n)),.v (.int .i64 (.ofNat 0))],[],[]⟩=>grd (Nat.beq n g.length&&Nat.blt g.length 9223372036854775807) (.ite (isN (c0F g)) (.ret (zZk q none)) (.ret (zZk q (some (eN (c0F g))))))
 | _=> .no
theorem jEb:mM Tryz.prog (evD Tryz.prog (odT []) LC1 60):=kM yL jZ jBa 60
theorem qZq:∀q y,(hC0 q).run=some y→∃n,It (qDj (odT []) LC1) n q y:=fun q y h=>by
 unfold hC0 at h;split at h
 ·rename_i q g n;obtain⟨e,f⟩:=zT h;simp only[zd]at e;obtain rfl:=zY e.1;have:=xM _ _ (lpC0 q g (jV e.2));cases hb:c0F g<;>rw[hb]at f this<;>cases f<;>exact this
 ·cases h
def smG(g:List (List Int)):Bool:=Nat.ble g.length 4&&g.all fun c=>Nat.ble c.length 32
def szF(g:List (List Int)):Int:=fol (fun k(v:Int)=>(.inl (v.mul (.ofNat (gI g k).length)):Int⊕Int)) id g.length 0 1
theorem qGz{g:List (List Int)}{k:Nat}(h:k<g.length):gI g k=g[k]:=by rw[gI,qU];simp[h]
theorem jEt{g:List (List Int)}(h:smG g=true):g.length≤4∧∀k,k<g.length→(gI g k).length≤32:=by
 simp only[smG,zd,qp,qa]at h;exact⟨h.1,fun k e=>h.2 _ (by rw[qGz e];exact jo e)⟩
theorem zDi{v:Int}(h:0≤v)(e:v<9223372036854775808):inW v=true:=by
 obtain⟨m,rfl⟩:=jj h;exact yV (show m<9223372036854775808 by omega)
theorem lpSz{g:List (List Int)}(h:smG g=true):lpF (zXd (odT []) (loT [])) g.length (iSz 1 g g.length 0)=some (.x 0,⟨[vi (szF g)],[],[]⟩):=by
 obtain⟨B,q⟩:=jEt h;exact jM (st:=zXd (odT []) (loT [])) (iv:=fun k v=>iSz v g g.length k) (g:=fun k(v:Int)=>(.inl (v.mul (.ofNat (gI g k).length)):Int⊕Int)) (d:=id) (out:=fun v=>(.x 0,⟨[vi v],[],[]⟩)) (n:=g.length) (fun k v=>0≤v∧v≤32^k)
  (fun k v f e=>by
   rw[sSz];show(bif Nat.blt k g.length then _ else _)=_;have hp:(32:Int)^k≤32^4:=by rcases(show k=0∨k=1∨k=2∨k=3 by omega)with rfl | rfl | rfl | rfl<;>decide
   have j:=q k f;have y:0≤v.mul (.ofNat (gI g k).length):=Int.mul_nonneg e.1 (j7 _);have A:v.mul (.ofNat (gI g k).length)≤32^4*32:=Int.mul_le_mul (ub e.2 hp) (show((gI g k).length:Int)≤32 by omega) (j7 _) (by decide)
   simp only[gd,zP f,ze,zDi y (by have:(32:Int)^4*32=33554432:=rfl;omega),xC (show k+1<9223372036854775808 by omega)])
  (fun k v E f e z=>by
   cases z;have j:=q k f;refine⟨Int.mul_nonneg e.1 (j7 _),?_⟩;rw[Int.pow_succ];exact Int.mul_le_mul e.2 (show((gI g k).length:Int)≤32 by omega) (j7 _) (ub e.1 e.2))
  (fun v e=>by rw[sSz];show(bif Nat.blt g.length g.length then _ else _)=_;rw[yC (z6 _),zf];rfl) g.length 0 1 (by omega) ⟨by decide,by decide⟩
def hSz:Hs→DT (Ex×Hs)
 | ⟨[.v (.int .i64 (.ofNat 1)),.ls .a (.list (.int .i64)) g,.v (.int .i64 (.ofNat n)),.v (.int .i64 (.ofNat 0))],[],[]⟩=>grd (Nat.beq n g.length&&smG g) (.ret (.x 0,⟨[vi (szF g)],[],[]⟩))
 | _=> .no
theorem jAe:∀q y,(hSz q).run=some y→∃n,It (zXd (odT []) (loT [])) n q y:=fun q y h=>by
 unfold hSz at h;split at h
 ·rename_i g n;obtain⟨e,f⟩:=zT h;simp only[zd]at e;obtain rfl:=zY e.1;have:=xM _ _ (lpSz e.2);cases f;exact this
 ·cases h
abbrev LC:Lo:=loT [(157,[false,true,false,true,true],Lc0.row hC0),(228,[false,true,false,true,true],Lsz.row hSz)]
theorem jGr:vJ Tryz.prog LC:=jP (jP qA gP qWj jAe) jEb qVs qZq
theorem eIc(g:List (List Int)):((qF Tryz.prog (evD Tryz.prog (odT []) (LC) 60) 157 [.ls .a nT.list g] []).bind qJ).run=bif ieq (.ofNat g.length) (.ofNat 0)then some (vn 3,true)else(bif ilt (.ofNat 4) (.ofNat g.length)then some (vn 4,true)else gd ((Nat.beq g.length g.length)&&(Nat.blt g.length 9223372036854775807)) (bif isN (c0F g)then gd ((Nat.beq g.length g.length)&&(smG g)) (bif ilt (.ofNat 256) (szF g)then some (vn 10,true)else some (vn 0,true))else some (vi (eN (c0F g)),true))):=by kernel_rfl
def icE(g:List (List Int)):Int:=bif ieq (.ofNat g.length) (.ofNat 0)then 3 else(bif ilt (.ofNat 4) (.ofNat g.length)then 4 else(bif isN (c0F g)then(bif ilt (.ofNat 256) (szF g)then 10 else 0)else eN (c0F g)))
theorem zBh{γ:Type}{g:Nat→Unit→Unit⊕γ}{d:γ}(f:∀i y,g i ()= .inr y→y≠d):∀(k i:Nat),fol g (fun _=>d) k i ()=d→∀j,i≤j→j<i+k→g j ()= .inl ()
 | 0,i,_,j,e,q=>by omega
 | k+1,i,h,j,e,q=>by
  simp only[fol]at h;cases H:g i ()with
  | inr y=>rw[H]at h;exact absurd h (f i y H)
  | inl x=>
   rw[H]at h;rcases xo e with rfl | hlt
   ·exact H
   ·exact zBh f k (i+1) h j hlt (by omega)
theorem zYb{g:List (List Int)}{i:Nat}{y:Option Int}(h:gC0 g i ()= .inr y):∃e,y=some e∧e≠0:=by
 unfold gC0 at h;cases f:ieq (.ofNat (gI g i).length) (.ofNat 0)with
 | true=>rw[f]at h;cases h;exact⟨3,rfl,by decide⟩
 | false=>
  rw[f]at h;cases j:ilt (.ofNat 32) (.ofNat (gI g i).length)with
  | true=>rw[j]at h;cases h;exact⟨4,rfl,by decide⟩
  | false=>
   rw[j]at h;cases k:c1F (gI g i) (gI g i)with
   | true=>rw[k]at h;cases h;exact⟨1,rfl,by decide⟩
   | false=>rw[k]at h;cases h
theorem zXl{g:List (List Int)}(h:c0F g=none){k:Nat}(B:k<g.length):1≤(gI g k).length∧(gI g k).length≤32∧c1F (gI g k) (gI g k)=false:=by
 have H:=zBh (g:=gC0 g) (d:=none) (fun i y z e=>by obtain⟨A,f,_⟩:=zYb z;rw[e]at f;cases f) g.length 0 h k (qq _) (by omega)
 unfold gC0 at H;cases f:ieq (.ofNat (gI g k).length) (.ofNat 0)with
 | true=>rw[f]at H;cases H
 | false=>
  rw[f]at H;cases j:ilt (.ofNat 32) (.ofNat (gI g k).length)with
  | true=>rw[j]at H;cases H
  | false=>
   rw[j]at H;cases q:c1F (gI g k) (gI g k)with
   | true=>rw[q]at H;cases H
   | false=>
    refine⟨?_,zHl j,rfl⟩;rcases jg (gI g k).length with e | e
    ·rw[e]at f;cases f
    ·exact e
theorem jEu{g:List (List Int)}(j:g.length≤4)(h:c0F g=none):smG g=true:=by
 simp only[smG,zd,qa];refine⟨yJ j,fun c q=>?_⟩;obtain⟨k,f⟩:=qz q;have hlt:=(zh.1 f).1;have e:gI g k=c:=by rw[qGz hlt];exact(zh.1 f).2
 have:=(zXl h hlt).2.1;rw[e]at this;exact yJ this
theorem bS{n:Nat}{c:Nat}(h:ilt (.ofNat n) (.ofNat c)=false):c≤n:=by
 have h:Nat.blt n c=false:=h;rcases qi n c with g | g
 ·rw[zP g]at h;cases h
 ·exact g
def oIc:List T→DT (T×Bool)
 | [.ls .a (.list (.int .i64)) g]=> .ret (.v (.int .i64 (icE g)),true)
 | _=> .no
theorem jAj(g:List (List Int)):((qF Tryz.prog (evD Tryz.prog (odT []) (LC) 60) 157 [.ls .a nT.list g] []).bind qJ).run=yI (icE g):=by
 rw[eIc];unfold icE;cases q:ieq (.ofNat g.length) (.ofNat 0)with
 | true=>rfl
 | false=>
  cases f:ilt (.ofNat 4) (.ofNat g.length)with
  | true=>rfl
  | false=>
   have k:=bS f;simp only[zf,gd,jL,zP (show g.length<9223372036854775807 by omega),q9,ze]
   cases j:c0F g with
   | some e=>rfl
   | none=>
    rw[jEu k j];simp only[isN,ze,q9];cases ilt (.ofNat 256) (szF g)<;>rfl
theorem kIc:∀e j f,(oIc e).run=some (j,f)→∀k,KnP Tryz.prog k 157 e j f:=by
 intro e j f h k;unfold oIc at h;split at h
 ·rename_i g;cases h;exact yN (cz:=[.ls .a nT.list g]) yL jZ jGr (jAj g) rfl k
 ·cases h
theorem vF{a b:Int}(h:ilt a b=false):b≤a:=dm.1 fun k=>by rw[mZ k]at h;cases h
structure Grid(g:List (List Int)):Prop where
 le4:g.length≤4
 pos:1≤g.length
 cut:∀k,k<g.length→1≤(gI g k).length∧(gI g k).length≤32∧c1F (gI g k) (gI g k)=false
 size:szF g≤256
theorem zYd{g:List (List Int)}(h:icE g=0):Grid g:=by
 unfold icE at h;cases j:ieq (.ofNat g.length) (.ofNat 0)with
 | true=>rw[j]at h;cases h
 | false=>
  rw[j,zf]at h;cases z:ilt (.ofNat 4) (.ofNat g.length)with
  | true=>rw[z]at h;cases h
  | false=>
   rw[z,zf]at h;have hp:1≤g.length:=by
    rcases jg g.length with e | e
    ·rw[e]at j;cases j
    ·exact e
   cases q:c0F g with
   | some e=>
    rw[q]at h;exfalso;have:∀(k i:Nat),fol (gC0 g) (fun _=>none) k i ()=some e→e≠0:=fun k=>by
     induction k with
     | zero=>intro i f;cases f
     | succ k J=>
      intro i f;simp only[fol]at f;cases H:gC0 g i ()with
      | inl x=>rw[H]at f;exact J (i+1) f
      | inr y=>
       rw[H]at f;obtain⟨K,B,E⟩:=zYb H;rw[B]at f;cases f;exact E
    exact this _ _ q h
   | none=>
    rw[q]at h;refine⟨bS z,hp,fun k G=>zXl q G,?_⟩;cases A:ilt (.ofNat 256) (szF g)with
    | true=>rw[A]at h;cases h
    | false=>exact vF A
theorem zGu{c:List Int}(h:c1F c c=false){i:Nat}(B:i<c.length): -1073741824≤nI c i∧nI c i≤1073741824∧(0<i→nI c (i-1)<nI c i):=by
 have H:=zBh (g:=gC1 c c) (d:=false) (fun i y f e=>by unfold gC1 at f;cases hb:qFq c c i<;>rw[hb]at f<;>cases f;cases e) c.length 0 h i (qq _) (by omega)
 unfold gC1 at H;cases hb:qFq c c i with
 | true=>rw[hb]at H;cases H
 | false=>
  unfold qFq at hb;simp only[xr]at hb;obtain⟨z,A,j⟩:=hb;refine⟨vF z,vF A,fun q=>?_⟩;have k:ilt (.ofNat 0) (.ofNat i)=true:=zP q;rw[k,kx,uz]at j;exact xV.1 j
abbrev ON0(ck:Raw→Int)(ad su mu:Raw→Raw→Raw)(ae se me:Raw→Raw→Int)(cm ce:Raw→Raw→Int)(fr:Int→Raw)(eqB:Raw→Raw→Bool):Od:=odT (qCb ck ad su mu ae se me cm ce fr eqB)
theorem eCr(ck:Raw→Int)(ad su mu:Raw→Raw→Raw)(ae se me:Raw→Raw→Int)(cm ce:Raw→Raw→Int)(fr:Int→Raw)(eqB:Raw→Raw→Bool)(x:Raw):((qF Tryz.prog (evD Tryz.prog (ON0 ck ad su mu ae se me cm ce fr eqB) (loT []) 60) 186 [.ag (rC x)] []).bind qJ).run=bif !(ieq (ck x) 0)then some (vi (ck x),true)else(bif ilt (.ofNat 8) (.ofNat x.ln.length)then some (vn 4,true)else(bif ilt (.ofNat 8) (.ofNat x.ld.length)then some (vn 4,true)else some (vn 0,true))):=by kernel_rfl
section
variable (ck:Raw→Int)
def crE(x:Raw):Int:=bif !ieq (ck x) 0 then ck x else(bif ilt (.ofNat 8) (.ofNat x.ln.length)then 4 else(bif ilt (.ofNat 8) (.ofNat x.ld.length)then 4 else 0))
end
def oCr(cr:Raw→Int):List T→DT (T×Bool)
 | [.ag [.v (.bool s),.ls .a .lim l,.ls .a .lim m]]=> .ret (.v (.int .i64 (cr ⟨s,l,m⟩)),true)
 | _=> .no
theorem qXm(ck:Raw→Int)(ad su mu:Raw→Raw→Raw)(ae se me:Raw→Raw→Int)(cm ce:Raw→Raw→Int)(fr:Int→Raw)(eqB:Raw→Raw→Bool)(x:Raw):((qF Tryz.prog (evD Tryz.prog (ON0 ck ad su mu ae se me cm ce fr eqB) (loT []) 60) 186 [.ag (rC x)] []).bind qJ).run=yI (crE ck x):=by
 rw[eCr];unfold crE;cases ieq (ck x) 0<;>cases ilt (.ofNat 8) (.ofNat x.ln.length)<;>cases ilt (.ofNat 8) (.ofNat x.ld.length)<;>rfl
theorem kCr:∀e j f,(oCr (crE Raw.chk) e).run=some (j,f)→∀k,KnP Tryz.prog k 186 e j f:=by
 intro e j f h k;unfold oCr at h;split at h
 ·rename_i s l m;cases h;exact yN (cz:=[.ag (rC ⟨s,l,m⟩)]) yL zGa qA (qXm Raw.chk adA suA muA aeA seA meA yZ wW frA eqA ⟨s,l,m⟩) rfl k
 ·cases h
abbrev nzT:Ty:= .prod nT zL
abbrev Nz:=Ty.den nzT
abbrev zI(l:List Nz)(i:Nat):Nz:=nth nzT.zero l i
def iCn(q l:List Nz)(n i:Nat)(t:Raw):Hs:=⟨[.ls .a nzT q,.ls .a nzT l,vn n,vn i],[],[rN t]⟩
def iCz(q l:List Nz)(n i:Nat):Hs:=⟨[.ls .a nzT q,.ls .a nzT l,vn n,vn i],[],[[.v (.bool false),.v (.slice none 0 0),.v (.slice none 0 0)]]⟩
def Lcn:Lp:=⟨1,
 ⟨[.h,.u,.u,.t (.op 0 0)]++(us' 14++([.h,.h,.h]++(us' 57))),[.r [.h,.h,.h] 28]⟩,
 ⟨us' 3++([.t (.op 0 0)]++(us' 74)),[.r [.h,.h,.h] 28]⟩,
 ⟨[.u,.u,.h]++(us' 75),[.g]⟩⟩
abbrev qSv:Code:=lpc Tryz.prog 185 [false,true,false,true,true,true]
theorem qVu:cAt Tryz.prog 185 [false,true,false,true,true,true]=some (.loop qSv):=by kernel_rfl
abbrev zEn(f:Od)(e:Lo):Hs→Option (Hs⊕(Ex×Hs)):=Lcn.stp (evD Tryz.prog f e 60) 185 [false,true,false,true,true,true] qSv
abbrev OD1(cr:Raw→Int)(ck:Raw→Int)(ad su mu:Raw→Raw→Raw)(ae se me:Raw→Raw→Int)(cm ce:Raw→Raw→Int)(fr:Int→Raw)(eqB:Raw→Raw→Bool):Od:=odT ((184,odR [spT,.list nT] qQm)::(157,odR [.list (.list nT)] oIc)::(186,odR [zL] (oCr cr))::qCb ck ad su mu ae se me cm ce fr eqB)
theorem sCz(cr:Raw→Int)(ck:Raw→Int)(ad su mu:Raw→Raw→Raw)(ae se me:Raw→Raw→Int)(cm ce:Raw→Raw→Int)(fr:Int→Raw)(eqB:Raw→Raw→Bool)(q l:List Nz)(n i:Nat):zEn (OD1 cr ck ad su mu ae se me cm ce fr eqB) (loT []) (iCz q l n i)=bif ilt (.ofNat i) (.ofNat n)then gd (Nat.blt i l.length) (bif !(yK ((-100)) 100 ([(zI l i).1].reverse))then some (.inr (.r,⟨[vn 1],[],[[]]⟩))else(bif ilt (.ofNat 0) (.ofNat i)then gd (inW (pr i)) (gd (nng (pr i)) (gd (Nat.blt ((pr i).toNat) q.length) (bif !(ilt ((zI q ((pr i).toNat)).1) ((zI l i).1))then some (.inr (.r,⟨[vn 16],[],[[]]⟩))else(bif !(ieq (cr (rw' ((zI l i).2))) 0)then some (.inr (.r,⟨[vi (cr (rw' ((zI l i).2)))],[],[[]]⟩))else(bif((zI l i).2).1 then some (.inr (.r,⟨[vn 1],[],[[]]⟩))else(bif ieq (.ofNat (((((zI l i).2).2).1).length)) (.ofNat 0)then some (.inr (.r,⟨[vn 1],[],[[]]⟩))else nx i (.inl ⟨[.ls .a nzT q,.ls .a nzT l,vn n,vn (i+1)],[],[(rN (ad ⟨false,[],[]⟩ (rw' ((zI l i).2))))]⟩)))))))else(bif !(ieq (cr (rw' ((zI l i).2))) 0)then some (.inr (.r,⟨[vi (cr (rw' ((zI l i).2)))],[],[[]]⟩))else(bif((zI l i).2).1 then some (.inr (.r,⟨[vn 1],[],[[]]⟩))else(bif ieq (.ofNat (((((zI l i).2).2).1).length)) (.ofNat 0)then some (.inr (.r,⟨[vn 1],[],[[]]⟩))else nx i (.inl ⟨[.ls .a nzT q,.ls .a nzT l,vn n,vn (i+1)],[],[(rN (ad ⟨false,[],[]⟩ (rw' ((zI l i).2))))]⟩))))))else some (.inr (.x 1,⟨[],[],[[.v (.bool false),.v (Value.slice none 0 0),.v (Value.slice none 0 0)]]⟩)):=by kernel_rfl
theorem sCn(cr:Raw→Int)(ck:Raw→Int)(ad su mu:Raw→Raw→Raw)(ae se me:Raw→Raw→Int)(cm ce:Raw→Raw→Int)(fr:Int→Raw)(eqB:Raw→Raw→Bool)(q l:List Nz)(n i:Nat)(t:Raw):zEn (OD1 cr ck ad su mu ae se me cm ce fr eqB) (loT []) (iCn q l n i t)=bif ilt (.ofNat i) (.ofNat n)then gd (Nat.blt i l.length) (bif !(yK ((-100)) 100 ([(zI l i).1].reverse))then some (.inr (.r,⟨[vn 1],[],[[]]⟩))else(bif ilt (.ofNat 0) (.ofNat i)then gd (inW (pr i)) (gd (nng (pr i)) (gd (Nat.blt ((pr i).toNat) q.length) (bif !(ilt ((zI q ((pr i).toNat)).1) ((zI l i).1))then some (.inr (.r,⟨[vn 16],[],[[]]⟩))else(bif !(ieq (cr (rw' ((zI l i).2))) 0)then some (.inr (.r,⟨[vi (cr (rw' ((zI l i).2)))],[],[[]]⟩))else(bif((zI l i).2).1 then some (.inr (.r,⟨[vn 1],[],[[]]⟩))else(bif ieq (.ofNat (((((zI l i).2).2).1).length)) (.ofNat 0)then some (.inr (.r,⟨[vn 1],[],[[]]⟩))else nx i (.inl ⟨[.ls .a nzT q,.ls .a nzT l,vn n,vn (i+1)],[],[(rN (ad t (rw' ((zI l i).2))))]⟩)))))))else(bif !(ieq (cr (rw' ((zI l i).2))) 0)then some (.inr (.r,⟨[vi (cr (rw' ((zI l i).2)))],[],[[]]⟩))else(bif((zI l i).2).1 then some (.inr (.r,⟨[vn 1],[],[[]]⟩))else(bif ieq (.ofNat (((((zI l i).2).2).1).length)) (.ofNat 0)then some (.inr (.r,⟨[vn 1],[],[[]]⟩))else nx i (.inl ⟨[.ls .a nzT q,.ls .a nzT l,vn n,vn (i+1)],[],[(rN (ad t (rw' ((zI l i).2))))]⟩))))))else some (.inr (.x 1,⟨[],[],[(rN t)]⟩)):=by kernel_rfl
section
variable (cr:Raw→Int)(ck:Raw→Int)(ad su mu:Raw→Raw→Raw)(ae se me:Raw→Raw→Int)(cm ce:Raw→Raw→Int)(fr:Int→Raw)(eqB:Raw→Raw→Bool)
abbrev r0:Raw:=⟨false,[],[]⟩
def gCn(q l:List Nz)(i:Nat)(t:Raw):Raw⊕(Raw⊕Int):=bif !yK (-100) 100 [(zI l i).1]then .inr (.inr 1)else(bif ilt (.ofNat 0) (.ofNat i)&&!ilt (zI q (i-1)).1 (zI l i).1 then .inr (.inr 16)else(bif !ieq (cr (rw' (zI l i).2)) 0 then .inr (.inr (cr (rw' (zI l i).2)))else(bif(zI l i).2.1 then .inr (.inr 1)else(bif ieq (.ofNat (zI l i).2.2.1.length) (.ofNat 0)then .inr (.inr 1)else .inl (ad t (rw' (zI l i).2))))))
def cnF(q l:List Nz):Raw⊕Int:=fol (gCn cr ad q l) .inl l.length 0 r0
def jAp(q l:List Nz):Nat→Raw→Hs
 | 0,_=>iCz q l l.length 0
 | i+1,t=>iCn q l l.length (i+1) t
def qUp:Raw⊕Int→Ex×Hs
 | .inl t=>(.x 1,⟨[],[],[rN t]⟩)
 | .inr e=>(.r,⟨[vi e],[],[[]]⟩)
theorem lpCn{q l:List Nz}(A:0<l.length)(B:l.length<9223372036854775807)(H:l.length≤q.length):lpF (zEn (OD1 cr ck ad su mu ae se me cm ce fr eqB) (loT [])) l.length (iCz q l l.length 0)=some (qUp (cnF cr ad q l)):=
 jM (st:=zEn (OD1 cr ck ad su mu ae se me cm ce fr eqB) (loT [])) (iv:=jAp q l) (g:=gCn cr ad q l) (d:= .inl) (out:=qUp) (n:=l.length) (fun i t=>i=0→t=r0)
  (fun i t f y=>by
   cases i with
   | zero=>
    obtain rfl:=y rfl;show zEn (OD1 cr ck ad su mu ae se me cm ce fr eqB) (loT []) (iCz q l l.length 0)=_;rw[sCz];unfold gCn;have j:ilt (.ofNat 0) (.ofNat l.length)=true:=zP A;have e:ilt (.ofNat 0) (.ofNat 0)=false:=rfl;have k:[(zI l 0).1].reverse=[(zI l 0).1]:=rfl;rw[j,e,k];simp only[gd,zP f,ze,zf,uL,xC (show 0+1<9223372036854775808 by omega)]
    cases yK (-100) 100 [(zI l 0).1]<;>cases ieq (cr (rw' (zI l 0).2)) 0<;>cases(zI l 0).2.1<;>cases ieq (.ofNat (zI l 0).2.2.1.length) (.ofNat 0)<;>rfl
   | succ i=>
    show zEn (OD1 cr ck ad su mu ae se me cm ce fr eqB) (loT []) (iCn q l l.length (i+1) t)=_;rw[sCn];unfold gCn;have j:ilt (.ofNat (i+1)) (.ofNat l.length)=true:=zP f;have e:ilt (.ofNat 0) (.ofNat (i+1))=true:=rfl;have z:(Int.ofNat i).toNat=i:=rfl;have k:[(zI l (i+1)).1].reverse=[(zI l (i+1)).1]:=rfl;rw[j,e,k,prS,yV (show i<9223372036854775808 by omega),z]
    simp only[gd,nng,zP f,zP (show i<q.length by omega),ze,kx,x9,xC (show i+1+1<9223372036854775808 by omega)]
    cases yK (-100) 100 [(zI l (i+1)).1]<;>cases ilt (zI q i).1 (zI l (i+1)).1<;>cases ieq (cr (rw' (zI l (i+1)).2)) 0<;>cases(zI l (i+1)).2.1<;>cases ieq (.ofNat (zI l (i+1)).2.2.1.length) (.ofNat 0)<;>rfl)
  (fun i t G f y E e=>by omega)
  (fun t y=>by
   obtain⟨m,hm⟩:∃m,l.length=m+1:=⟨l.length-1,by omega⟩
   show zEn (OD1 cr ck ad su mu ae se me cm ce fr eqB) (loT []) (jAp q l l.length t)=_;have e:jAp q l l.length t=iCn q l l.length l.length t:=by
    rw[hm];show iCn q l l.length (m+1) t=_;rw[hm]
   rw[e,sCn];show(bif Nat.blt l.length l.length then _ else _)=_;rw[yC (z6 _),zf];rfl) l.length 0 r0 (by omega) (fun _=>rfl)
def isL:Raw⊕Int→Bool
 | .inl _=>true
 | .inr _=>false
def rL:Raw⊕Int→Raw
 | .inl t=>t
 | .inr _=>r0
def eL:Raw⊕Int→Int
 | .inl _=>0
 | .inr e=>e
def hCn:Hs→DT (Ex×Hs)
 | ⟨[.ls .a (.prod (.int .i64) zL) q,.ls .a (.prod (.int .i64) zL) l,.v (.int .i64 (.ofNat n)),.v (.int .i64 (.ofNat 0))],[],[[.v (.bool false),.v (.slice none 0 0),.v (.slice none 0 0)]]⟩=>grd (Nat.beq n l.length&&(Nat.blt 0 l.length&&(Nat.ble l.length q.length&&Nat.blt l.length 9223372036854775807))) (.ite (isL (cnF cr ad q l)) (.ret (.x 1,⟨[],[],[rN (rL (cnF cr ad q l))]⟩)) (.ret (.r,⟨[vi (eL (cnF cr ad q l))],[],[[]]⟩)))
 | _=> .no
theorem qZs:∀q y,(hCn cr ad q).run=some y→∃n,It (zEn (OD1 cr ck ad su mu ae se me cm ce fr eqB) (loT [])) n q y:=fun q y h=>by
 unfold hCn at h;split at h
 ·rename_i q l n;obtain⟨e,f⟩:=zT h;simp only[zd,qp]at e;obtain⟨j,k,z,A⟩:=e;obtain rfl:=zY j;have:=xM _ _ (lpCn cr ck ad su mu ae se me cm ce fr eqB (jV k) (jV A) z);cases hb:cnF cr ad q l<;>rw[hb]at f this<;>cases f<;>exact this
 ·cases h
abbrev LCn:Lo:=loT [(185,[false,true,false,true,true,true],Lcn.row (hCn cr ad))]
end
theorem eCn(cr:Raw→Int)(ck:Raw→Int)(ad su mu:Raw→Raw→Raw)(ae se me:Raw→Raw→Int)(cm ce:Raw→Raw→Int)(fr:Int→Raw)(eqB:Raw→Raw→Bool)(l:List Nz):((qF Tryz.prog (evD Tryz.prog (OD1 cr ck ad su mu ae se me cm ce fr eqB) (LCn cr ad) 60) 185 [.ls .a nzT l] []).bind qJ).run=bif ieq (.ofNat l.length) (.ofNat 0)then some (vn 3,true)else(bif ilt (.ofNat 5) (.ofNat l.length)then some (vn 4,true)else gd ((Nat.beq l.length l.length)&&((Nat.blt 0 l.length)&&((Nat.ble l.length l.length)&&(Nat.blt l.length 9223372036854775807)))) (bif isL (cnF cr ad l l)then(bif !(ieq (cm (rL (cnF cr ad l l)) (fr 1)) 0)then some (vn 2,true)else some (vn 0,true))else some (vi (eL (cnF cr ad l l)),true))):=by kernel_rfl
section
variable (cr:Raw→Int)(ck:Raw→Int)(ad su mu:Raw→Raw→Raw)(ae se me:Raw→Raw→Int)(cm ce:Raw→Raw→Int)(fr:Int→Raw)(eqB:Raw→Raw→Bool)
def cnE(l:List Nz):Int:=bif ieq (.ofNat l.length) (.ofNat 0)then 3 else(bif ilt (.ofNat 5) (.ofNat l.length)then 4 else(bif isL (cnF cr ad l l)then(bif !ieq (cm (rL (cnF cr ad l l)) (fr 1)) 0 then 2 else 0)else eL (cnF cr ad l l)))
theorem qXj(l:List Nz):((qF Tryz.prog (evD Tryz.prog (OD1 cr ck ad su mu ae se me cm ce fr eqB) (LCn cr ad) 60) 185 [.ls .a nzT l] []).bind qJ).run=yI (cnE cr ad cm fr l):=by
 rw[eCn];unfold cnE;cases f:ieq (.ofNat l.length) (.ofNat 0)with
 | true=>rfl
 | false=>
  cases k:ilt (.ofNat 5) (.ofNat l.length)with
  | true=>rfl
  | false=>
   have q:=bS k;have j:0<l.length:=by
    rcases jg l.length with e | e
    ·rw[e]at f;cases f
    ·exact e
   simp only[zf,gd,jL,zP j,yJ (z6 l.length),zP (show l.length<9223372036854775807 by omega),q9,ze]
   cases isL (cnF cr ad l l)<;>cases ieq (cm (rL (cnF cr ad l l)) (fr 1)) 0<;>rfl
end
def oCn(cn:List Nz→Int):List T→DT (T×Bool)
 | [.ls .a (.prod (.int .i64) zL) l]=> .ret (.v (.int .i64 (cn l)),true)
 | _=> .no
abbrev crA:Raw→Int:=crE Raw.chk
theorem zVs:wC Tryz.prog (OD1 crA Raw.chk adA suA muA aeA seA meA yZ wW frA eqA):=zS (zS (zS zGa (jI kCr)) (jI kIc)) (jI kHas)
theorem jDy:mM Tryz.prog (evD Tryz.prog (OD1 crA Raw.chk adA suA muA aeA seA meA yZ wW frA eqA) (loT []) 60):=kM yL zVs qA 60
theorem jBb:vJ Tryz.prog (LCn crA adA):=jP qA jDy qVu (qZs crA Raw.chk adA suA muA aeA seA meA yZ wW frA eqA)
abbrev cnA(l:List Nz):Int:=cnE crA adA yZ frA l
theorem kCn:∀e j f,(oCn cnA e).run=some (j,f)→∀k,KnP Tryz.prog k 185 e j f:=by
 intro e j f h k;unfold oCn at h;split at h
 ·rename_i l;cases h;exact yN (cz:=[.ls .a nzT l]) yL zVs jBb (qXj crA Raw.chk adA suA muA aeA seA meA yZ wW frA eqA l) rfl k
 ·cases h
abbrev bT:Ty:= .prod (.int .u8) (.prod nT nT)
abbrev Bd:=Ty.den bT
abbrev MF(α:Type):=List Int→List Int→List Int→List Bd→Int→Int→Int→List Nz→List Nz→Raw→Raw→Raw→α
abbrev TF(α:Type):=MF (Int→List (List Int)→List (List Int)→α)
abbrev LF(α:Type):=TF (Int→Int→Int→Int→Int→α)
abbrev bI(l:List Bd)(i:Nat):Bd:=nth bT.zero l i
abbrev mdC(h o t:List Int)(G:List Bd)(P D S:Int)(O U:List Nz)(C st V:Raw):List T:=[.ls .a nT h,.ls .a nT o,.ls .a nT t,.ls .a bT G,vi P,vi D,vi S,.ls .a nzT O,.ls .a nzT U,.v (.bool C.1),.ls .a .lim C.2,.ls .a .lim C.3,.v (.bool st.1),.ls .a .lim st.2,.ls .a .lim st.3,.v (.bool V.1),.ls .a .lim V.2,.ls .a .lim V.3]
abbrev OX(cn:List Nz→Int)(cr:Raw→Int)(ck:Raw→Int)(ad su mu:Raw→Raw→Raw)(ae se me:Raw→Raw→Int)(cm ce:Raw→Raw→Int)(fr:Int→Raw)(eqB:Raw→Raw→Bool):Od:=odT ((185,odR [.list nzT] (oCn cn))::(184,odR [spT,.list nT] qQm)::(157,odR [.list (.list nT)] oIc)::(186,odR [zL] (oCr cr))::qCb ck ad su mu ae se me cm ce fr eqB)
def iDc(l:List Bd)(n i:Nat)(h o t:List Int)(G:List Bd)(P D S:Int)(O U:List Nz)(C st V:Raw):Hs:=⟨[.ls .a bT l,vn n,vn i],[],[[.ls .a nT h,.ls .a nT o,.ls .a nT t,.ls .a bT G,vi P,vi D,vi S,.ls .a nzT O,.ls .a nzT U,.v (.bool C.1),.ls .a .lim C.2,.ls .a .lim C.3,.v (.bool st.1),.ls .a .lim st.2,.ls .a .lim st.3,.v (.bool V.1),.ls .a .lim V.2,.ls .a .lim V.3],[],[],[],[]]⟩
def Ldc:Lp:=⟨5,
 ⟨[.u,.t (.op 0 0),.u,.t (.fn 240 [.op 2 0,.op 1 0])]++(us' 49++([.h,.h,.h]++(us' 90))),[.r [.h,.h,.h,.h,.h,.h,.h,.h,.h,.h,.h,.h,.h,.h,.h,.h,.h,.h] 30,.r [.t (.v (.int .i64 (.ofNat 100)))] 3,.r [.t (.fn 184 [])] 292,.g,.g]⟩,
 ⟨[.u,.t (.op 0 0)]++(us' 144),[.r [.h,.h,.h,.h,.h,.h,.h,.h,.h,.h,.h,.h,.h,.h,.h,.h,.h,.h] 30,.g,.g,.g,.g]⟩,
 ⟨[.u,.u,.h]++(us' 143),[.g,.g,.g,.g,.g]⟩⟩
abbrev qSw:Code:=lpc Tryz.prog 119 [false,true,false,true,true,true]
theorem qVv:cAt Tryz.prog 119 [false,true,false,true,true,true]=some (.loop qSw):=by kernel_rfl
abbrev qDl(f:Od)(e:Lo):Hs→Option (Hs⊕(Ex×Hs)):=Ldc.stp (evD Tryz.prog f e 60) 119 [false,true,false,true,true,true] qSw
theorem sDc(cn:List Nz→Int)(cr:Raw→Int)(ck:Raw→Int)(ad su mu:Raw→Raw→Raw)(ae se me:Raw→Raw→Int)(cm ce:Raw→Raw→Int)(fr:Int→Raw)(eqB:Raw→Raw→Bool)(l:List Bd)(n i:Nat)(h o t:List Int)(G:List Bd)(P D S:Int)(O U:List Nz)(C st V:Raw):qDl (OX cn cr ck ad su mu ae se me cm ce fr eqB) (loT []) (iDc l n i h o t G P D S O U C st V)=bif ilt (.ofNat i) (.ofNat n)then gd (Nat.blt i l.length) (bif !(ieq ((bI l i).1) 1)then(bif !(ieq ((bI l i).1) 2)then some (.inr (.r,⟨[vn 6],[],[[],[],[],[],[]]⟩))else(bif ilt (((bI l i).2).2) (((bI l i).2).1)then some (.inr (.r,⟨[vn 1],[],[[],[],[],[],[]]⟩))else(bif !(yK ((-100)) (.ofNat 100) ([((bI l i).2).2,((bI l i).2).1].reverse))then some (.inr (.r,⟨[vn 1],[],[[],[],[],[],[]]⟩))else nx i (.inl (iDc l n (i+1) h o t G P D S O U C st V)))))else(bif ilt (((bI l i).2).2) (((bI l i).2).1)then some (.inr (.r,⟨[vn 1],[],[[],[],[],[],[]]⟩))else(bif !(yK ((-100)) (.ofNat 100) ([((bI l i).2).2,((bI l i).2).1].reverse))then some (.inr (.r,⟨[vn 1],[],[[],[],[],[],[]]⟩))else nx i (.inl (iDc l n (i+1) h o t G P D S O U C st V)))))else some (.inr (.x 1,⟨[],[],[[.ls .a nT h,.ls .a nT o,.ls .a nT t,.ls .a bT G,vi P,vi D,vi S,.ls .a nzT O,.ls .a nzT U,.v (.bool C.1),.ls .a .lim C.2,.ls .a .lim C.3,.v (.bool st.1),.ls .a .lim st.2,.ls .a .lim st.3,.v (.bool V.1),.ls .a .lim V.2,.ls .a .lim V.3],[],[],[],[]]⟩)):=by kernel_rfl
def gDc(l:List Bd)(i:Nat)(_:Unit):Unit⊕Option Int:=bif !ieq (bI l i).1 1&&!ieq (bI l i).1 2 then .inr (some 6)else(bif ilt (bI l i).2.2 (bI l i).2.1 then .inr (some 1)else(bif !yK (-100) 100 [(bI l i).2.1,(bI l i).2.2]then .inr (some 1)else .inl ()))
def dvF(l:List Bd):Option Int:=fol (gDc l) (fun _=>none) l.length 0 ()
def zZm(h o t:List Int)(G:List Bd)(P D S:Int)(O U:List Nz)(C st V:Raw):Option Int→Ex×Hs
 | none=>(.x 1,⟨[],[],[mdC h o t G P D S O U C st V,[],[],[],[]]⟩)
 | some e=>(.r,⟨[vi e],[],[[],[],[],[],[]]⟩)
section
variable (cn:List Nz→Int)(cr:Raw→Int)(ck:Raw→Int)(ad su mu:Raw→Raw→Raw)(ae se me:Raw→Raw→Int)(cm ce:Raw→Raw→Int)(fr:Int→Raw)(eqB:Raw→Raw→Bool)
theorem lpDc(h o t:List Int)(G:List Bd)(P D S:Int)(O U:List Nz)(C st V:Raw)(l:List Bd)(k:l.length<9223372036854775807):lpF (qDl (OX cn cr ck ad su mu ae se me cm ce fr eqB) (loT [])) l.length (iDc l l.length 0 h o t G P D S O U C st V)=some (zZm h o t G P D S O U C st V (dvF l)):=
 jM (iv:=fun i(_:Unit)=>iDc l l.length i h o t G P D S O U C st V) (g:=gDc l) (d:=fun _=>none) (out:=zZm h o t G P D S O U C st V) (n:=l.length) (fun _ _=>True)
  (fun i _ e _=>by
   rw[sDc];show(bif Nat.blt i l.length then _ else _)=_;unfold gDc;have f:[(bI l i).2.2,(bI l i).2.1].reverse=[(bI l i).2.1,(bI l i).2.2]:=rfl;rw[f];simp only[gd,zP e,ze,xC (show i+1<9223372036854775808 by omega)]
   have j:yK (-100) (.ofNat 100) [(bI l i).2.1,(bI l i).2.2]=yK (-100) 100 [(bI l i).2.1,(bI l i).2.2]:=rfl;rw[j];cases ieq (bI l i).1 1<;>cases ieq (bI l i).1 2<;>cases ilt (bI l i).2.2 (bI l i).2.1<;>cases yK (-100) 100 [(bI l i).2.1,(bI l i).2.2]<;>rfl)
  (fun _ _ _ _ _ _=>trivial)
  (fun _ _=>by rw[sDc];show(bif Nat.blt l.length l.length then _ else _)=_;rw[yC (z6 _),zf];rfl) l.length 0 () (by omega) trivial
def hDc:Hs→DT (Ex×Hs)
 | ⟨[.ls .a (.prod (.int .u8) (.prod (.int .i64) (.int .i64))) l,.v (.int .i64 (.ofNat n)),.v (.int .i64 (.ofNat 0))],[],[[.ls .a (.int .i64) h,.ls .a (.int .i64) o,.ls .a (.int .i64) t,.ls .a (.prod (.int .u8) (.prod (.int .i64) (.int .i64))) G,.v (.int .i64 P),.v (.int .i64 D),.v (.int .i64 S),.ls .a (.prod (.int .i64) zL) O,.ls .a (.prod (.int .i64) zL) U,.v (.bool e),.ls .a .lim C,.ls .a .lim f,.v (.bool y),.ls .a .lim sl,.ls .a .lim z,.v (.bool j),.ls .a .lim k,.ls .a .lim q],[],[],[],[]]⟩=>grd (Nat.beq n l.length&&Nat.blt l.length 9223372036854775807) (.ite (isN (dvF l)) (.ret (zZm h o t G P D S O U ⟨e,C,f⟩ ⟨y,sl,z⟩ ⟨j,k,q⟩ none)) (.ret (zZm h o t G P D S O U ⟨e,C,f⟩ ⟨y,sl,z⟩ ⟨j,k,q⟩ (some (eN (dvF l))))))
 | _=> .no
theorem qZt:∀q y,(hDc q).run=some y→∃n,It (qDl (OX cn cr ck ad su mu ae se me cm ce fr eqB) (loT [])) n q y:=fun q y hh=>by
 unfold hDc at hh;split at hh
 ·rename_i l n h o t G P D S O U j C k E sl J z A B;obtain⟨e,f⟩:=zT hh;simp only[zd]at e;obtain rfl:=zY e.1;have:=xM _ _ (lpDc cn cr ck ad su mu ae se me cm ce fr eqB h o t G P D S O U ⟨j,C,k⟩ ⟨E,sl,J⟩ ⟨z,A,B⟩ l (jV e.2));cases hb:dvF l<;>rw[hb]at f this<;>cases f<;>exact this
 ·cases hh
end
abbrev LDc:Lo:=loT [(119,[false,true,false,true,true,true],Ldc.row hDc)]
abbrev dr1(l:List Bd):List Bd:=List.take (l.length-1) (List.drop 1 l)
theorem eDc(cn:List Nz→Int)(cr:Raw→Int)(ck:Raw→Int)(ad su mu:Raw→Raw→Raw)(ae se me:Raw→Raw→Int)(cm ce:Raw→Raw→Int)(fr:Int→Raw)(eqB:Raw→Raw→Bool)(h o t:List Int)(G:List Bd)(P D S:Int)(O U:List Nz)(C st V:Raw):((qF Tryz.prog (evD Tryz.prog (OX cn cr ck ad su mu ae se me cm ce fr eqB) (LDc) 60) 119 [.ag (mdC h o t G P D S O U C st V)] []).bind qJ).run=bif !(ieq (icE [h,o,t]) 0)then some (vi (icE [h,o,t]),true)else gd (Nat.blt h.length 9223372036854775807) (bif !(yK ((-50000)) 50000 h)then some (vn 1,true)else gd (Nat.blt o.length 9223372036854775807) (bif !(yK ((-100)) 100 o)then gd (!(yK ((-100)) 100 o)) (some (vn 1,true))else(bif !(yK ((-100)) 100 o)then some (vn 1,true)else gd (Nat.blt t.length 9223372036854775807) (bif !(yK ((-100)) 100 t)then some (vn 1,true)else(bif ieq (.ofNat G.length) (.ofNat 0)then some (vn 3,true)else(bif ilt (.ofNat 6) (.ofNat G.length)then some (vn 4,true)else gd (Nat.ble 1 G.length) (gd (Nat.ble G.length G.length) (gd ((Nat.beq ((dr1 G).length) ((dr1 G).length))&&(Nat.blt ((dr1 G).length) 9223372036854775807)) (bif isN (dvF (dr1 G))then(bif !(yK 0 100 [P])then some (vn 1,true)else(bif !(yK 0 50000 [D])then some (vn 1,true)else(bif !(yK 0 24 [S])then some (vn 1,true)else(bif !(ieq (cn O) 0)then some (vi (cn O),true)else(bif !(ieq (cn U) 0)then some (vi (cn U),true)else(bif !(ieq (cr C) 0)then some (vi (cr C),true)else(bif C.neg then some (vn 1,true)else(bif !(ieq (cr st) 0)then some (vi (cr st),true)else(bif st.neg then some (vn 1,true)else(bif !(ieq (cr V) 0)then some (vi (cr V),true)else(bif V.neg then some (vn 1,true)else gd (inW (.ofNat (h.length*o.length))) (gd (inW (.ofNat ((h.length*o.length)*t.length))) (gd (inW (.ofNat (((h.length*o.length)*t.length)*G.length))) (bif ilt (.ofNat 200) (.ofNat (((h.length*o.length)*t.length)*G.length))then some (vn 10,true)else some (vn 0,true)))))))))))))))else some (vi (eN (dvF (dr1 G))),true)))))))))):=by kernel_rfl
section
variable (cn:List Nz→Int)(cr:Raw→Int)(ck:Raw→Int)(ad su mu:Raw→Raw→Raw)(ae se me:Raw→Raw→Int)(cm ce:Raw→Raw→Int)(fr:Int→Raw)(eqB:Raw→Raw→Bool)
def dcE(h o t:List Int)(G:List Bd)(P D S:Int)(O U:List Nz)(C st V:Raw):Int:=bif !ieq (icE [h,o,t]) 0 then icE [h,o,t]else(bif !yK (-50000) 50000 h then 1 else(bif !yK (-100) 100 o then 1 else(bif !yK (-100) 100 t then 1 else(bif ieq (.ofNat G.length) (.ofNat 0)then 3 else(bif ilt (.ofNat 6) (.ofNat G.length)then 4 else(bif isN (dvF (dr1 G))then(bif !yK 0 100 [P]then 1 else(bif !yK 0 50000 [D]then 1 else(bif !yK 0 24 [S]then 1 else(bif !ieq (cn O) 0 then cn O else(bif !ieq (cn U) 0 then cn U else(bif !ieq (cr C) 0 then cr C else(bif C.neg then 1 else(bif !ieq (cr st) 0 then cr st else(bif st.neg then 1 else(bif !ieq (cr V) 0 then cr V else(bif V.neg then 1 else(bif ilt (.ofNat 200) (.ofNat (h.length*o.length*t.length*G.length))then 10 else 0))))))))))))else eN (dvF (dr1 G))))))))
theorem zYc{h o t:List Int}(e:icE [h,o,t]=0):(1≤h.length∧h.length≤32)∧(1≤o.length∧o.length≤32)∧(1≤t.length∧t.length≤32):=by
 have g:=zYd e;have a:=g.cut 0 (show 0<3 by omega)
 have b:=g.cut 1 (show 1<3 by omega)
 have c:=g.cut 2 (show 2<3 by omega)
 exact⟨⟨a.1,a.2.1⟩,⟨b.1,b.2.1⟩,⟨c.1,c.2.1⟩⟩
theorem zYu{a b c d:Nat}(ha:a≤32)(hb:b≤32)(j:c≤32)(hd:d≤6):a*b≤1024∧a*b*c≤32768∧a*b*c*d≤196608:=by
 have e:=vp ha hb;have f:=vp e j;exact⟨e,f,vp f hd⟩
theorem qXp(h o t:List Int)(G:List Bd)(P D S:Int)(O U:List Nz)(C st V:Raw):((qF Tryz.prog (evD Tryz.prog (OX cn cr ck ad su mu ae se me cm ce fr eqB) (LDc) 60) 119 [.ag (mdC h o t G P D S O U C st V)] []).bind qJ).run=yI (dcE cn cr h o t G P D S O U C st V):=by
 rw[eDc];unfold dcE;cases j:ieq (icE [h,o,t]) 0 with
 | false=>rfl
 | true=>
  obtain⟨⟨_,y⟩,⟨_,z⟩,⟨_,A⟩⟩:=zYc (zV.1 j);simp only[qb,zf,gd,zP (show h.length<9223372036854775807 by omega),zP (show o.length<9223372036854775807 by omega),zP (show t.length<9223372036854775807 by omega),ze]
  cases yK (-50000) 50000 h with
  | false=>rfl
  | true=>
   cases yK (-100) 100 o with
   | false=>rfl
   | true=>
    cases yK (-100) 100 t with
    | false=>rfl
    | true=>
     simp only[qb,zf];cases f:ieq (.ofNat G.length) (.ofNat 0)with
     | true=>rfl
     | false=>
      cases k:ilt (.ofNat 6) (.ofNat G.length)with
      | true=>rfl
      | false=>
       have B:=bS k;have q:1≤G.length:=by
        rcases jg G.length with e | e
        ·rw[e]at f;cases f
        ·exact e
       obtain⟨J,K,m3⟩:=zYu y z A B;have E:(dr1 G).length≤6:=by simp only[dr1,jl,xj];omega
       simp only[zf,ze,yJ q,yJ (z6 G.length),jL,zP (show(dr1 G).length<9223372036854775807 by omega),q9,yV (show h.length*o.length<9223372036854775808 by omega),yV (show h.length*o.length*t.length<9223372036854775808 by omega),yV (show h.length*o.length*t.length*G.length<9223372036854775808 by omega)]
       cases dvF (dr1 G)with
       | some e=>rfl
       | none=>
        simp only[isN,ze];cases yK 0 100 [P]with
        | false=>rfl
        | true=>
         simp only[qb,zf];cases yK 0 50000 [D]with
         | false=>rfl
         | true=>
          simp only[qb,zf];cases yK 0 24 [S]with
          | false=>rfl
          | true=>
           simp only[qb,zf];cases ieq (cn O) 0 with
           | false=>rfl
           | true=>
            simp only[qb,zf];cases ieq (cn U) 0 with
            | false=>rfl
            | true=>
             simp only[qb,zf];cases ieq (cr C) 0 with
             | false=>rfl
             | true=>
              simp only[qb,zf];cases C.neg with
              | true=>rfl
              | false=>
               simp only[zf];cases ieq (cr st) 0 with
               | false=>rfl
               | true=>
                simp only[qb,zf];cases st.neg with
                | true=>rfl
                | false=>
                 simp only[zf];cases ieq (cr V) 0 with
                 | false=>rfl
                 | true=>
                  simp only[qb,zf];cases V.neg with
                  | true=>rfl
                  | false=>
                   simp only[zf];cases ilt (.ofNat 200) (.ofNat (h.length*o.length*t.length*G.length))<;>rfl
end
abbrev mdT:Ty:= .prod (.list nT) (.prod (.list nT) (.prod (.list nT) (.prod (.list bT) (.prod nT (.prod nT (.prod nT (.prod (.list nzT) (.prod (.list nzT) (.prod zL (.prod zL zL))))))))))
def oDc(j:MF Int):List T→DT (T×Bool)
 | [.ag [.ls .a (.int .i64) h,.ls .a (.int .i64) o,.ls .a (.int .i64) t,.ls .a (.prod (.int .u8) (.prod (.int .i64) (.int .i64))) G,.v (.int .i64 P),.v (.int .i64 D),.v (.int .i64 S),.ls .a (.prod (.int .i64) zL) O,.ls .a (.prod (.int .i64) zL) U,.v (.bool e),.ls .a .lim C,.ls .a .lim f,.v (.bool z),.ls .a .lim sl,.ls .a .lim A,.v (.bool k),.ls .a .lim q,.ls .a .lim y]]=> .ret (.v (.int .i64 (j h o t G P D S O U ⟨e,C,f⟩ ⟨z,sl,A⟩ ⟨k,q,y⟩)),true)
 | _=> .no
abbrev ODs(e:MF Int):Od:=odT [(119,odR [mdT] (oDc e))]
theorem eSz(e:MF Int)(h o t:List Int)(G:List Bd)(P D S:Int)(O U:List Nz)(C st V:Raw):((qF Tryz.prog (evD Tryz.prog (ODs e) (loT []) 60) 134 [.ag (mdC h o t G P D S O U C st V)] []).bind qJ).run=bif !(ieq (e h o t G P D S O U C st V) 0)then some (.tu [vn 0,vi (e h o t G P D S O U C st V)],true)else gd (inW (.ofNat (h.length*o.length))) (gd (inW (.ofNat ((h.length*o.length)*t.length))) (gd (inW (.ofNat (((h.length*o.length)*t.length)*G.length))) (some (.tu [vn (((h.length*o.length)*t.length)*G.length),vn 0],true)))):=by kernel_rfl
abbrev dcA(h o t:List Int)(G:List Bd)(P D S:Int)(O U:List Nz)(C st V:Raw):Int:=dcE cnA crA h o t G P D S O U C st V
theorem qVa:wC Tryz.prog (OX cnA crA Raw.chk adA suA muA aeA seA meA yZ wW frA eqA):=zS zVs (jI kCn)
theorem jDz:mM Tryz.prog (evD Tryz.prog (OX cnA crA Raw.chk adA suA muA aeA seA meA yZ wW frA eqA) (loT []) 60):=kM yL qVa qA 60
theorem jBd:vJ Tryz.prog LDc:=jP qA jDz qVv (qZt cnA crA Raw.chk adA suA muA aeA seA meA yZ wW frA eqA)
theorem kDc:∀e j f,(oDc dcA e).run=some (j,f)→∀k,KnP Tryz.prog k 119 e j f:=by
 intro e j f hh k;unfold oDc at hh;split at hh
 ·rename_i h o t G P D S O U q C y E sl J z A B;cases hh;exact yN (cz:=[.ag (mdC h o t G P D S O U ⟨q,C,y⟩ ⟨E,sl,J⟩ ⟨z,A,B⟩)]) yL qVa jBd (qXp cnA crA Raw.chk adA suA muA aeA seA meA yZ wW frA eqA h o t G P D S O U ⟨q,C,y⟩ ⟨E,sl,J⟩ ⟨z,A,B⟩) rfl k
 ·cases hh
theorem jCl:wC Tryz.prog (ODs dcA):=zS jZ (jI kDc)
def oSz(B A:MF Int):List T→DT (T×Bool)
 | [.ag [.ls .a (.int .i64) h,.ls .a (.int .i64) o,.ls .a (.int .i64) t,.ls .a (.prod (.int .u8) (.prod (.int .i64) (.int .i64))) G,.v (.int .i64 P),.v (.int .i64 D),.v (.int .i64 S),.ls .a (.prod (.int .i64) zL) O,.ls .a (.prod (.int .i64) zL) U,.v (.bool e),.ls .a .lim C,.ls .a .lim f,.v (.bool y),.ls .a .lim sl,.ls .a .lim z,.v (.bool j),.ls .a .lim k,.ls .a .lim q]]=> .ret (.tu [.v (.int .i64 (B h o t G P D S O U ⟨e,C,f⟩ ⟨y,sl,z⟩ ⟨j,k,q⟩)),.v (.int .i64 (A h o t G P D S O U ⟨e,C,f⟩ ⟨y,sl,z⟩ ⟨j,k,q⟩))],true)
 | _=> .no
structure Mod(h o t:List Int)(G:List Bd)(S:Int):Prop where
 grid:icE [h,o,t]=0
 hh:yK (-50000) 50000 h=true
 ho:yK (-100) 100 o=true
 ht:yK (-100) 100 t=true
 av1:1≤G.length
 av6:G.length≤6
 dv:dvF (dr1 G)=none
 st:yK 0 24 [S]=true
 sz:h.length*o.length*t.length*G.length≤200
theorem qTz{l:List Bd}{e:Int}:∀(k i:Nat),fol (gDc l) (fun _=>none) k i ()=some e→e≠0
 | 0,i,h=>by cases h
 | k+1,i,h=>by
  simp only[fol]at h;cases H:gDc l i ()with
  | inl x=>rw[H]at h;exact qTz k (i+1) h
  | inr y=>
   rw[H]at h;unfold gDc at H;cases f:(!ieq (bI l i).1 1&&!ieq (bI l i).1 2)<;>rw[f]at H
   ·cases j:ilt (bI l i).2.2 (bI l i).2.1<;>rw[j]at H
    ·cases q:yK (-100) 100 [(bI l i).2.1,(bI l i).2.2]<;>rw[q]at H<;>cases H<;>cases h<;>decide
    ·cases H;cases h;decide
   ·cases H;cases h;decide
theorem zVp(h o t:List Int)(G:List Bd)(P D S:Int)(O U:List Nz)(C st V:Raw)(hd:dcA h o t G P D S O U C st V=0):Mod h o t G S:=by
 have k:∀{x:Int},ieq x 0=false→x≠0:=fun{x}h e=>by rw[yS e]at h;cases h
 unfold dcA dcE at hd;cases A:ieq (icE [h,o,t]) 0 with
 | false=>rw[A]at hd;exact absurd hd (k A)
 | true=>
  rw[A]at hd;cases q:yK (-50000) 50000 h with
  | false=>rw[q]at hd;cases hd
  | true=>
   cases B:yK (-100) 100 o with
   | false=>rw[q,B]at hd;cases hd
   | true=>
    cases J:yK (-100) 100 t with
    | false=>rw[q,B,J]at hd;cases hd
    | true=>
     rw[q,B,J]at hd;simp only[qb,zf]at hd;cases y:ieq (.ofNat G.length) (.ofNat 0)with
     | true=>rw[y]at hd;cases hd
     | false=>
      cases K:ilt (.ofNat 6) (.ofNat G.length)with
      | true=>rw[y,K]at hd;cases hd
      | false=>
       rw[y,K]at hd;simp only[zf]at hd;cases E:dvF (dr1 G)with
       | some e=>rw[E]at hd;exact absurd hd (qTz _ _ E)
       | none=>
        rw[E]at hd;simp only[isN,ze]at hd;have l0:1≤G.length:=by
         rcases jg G.length with e | e
         ·rw[e]at y;cases y
         ·exact e
        cases X:yK 0 100 [P]with
        | false=>rw[X]at hd;cases hd
        | true=>
         rw[X]at hd;simp only[qb,zf]at hd;cases s2:yK 0 50000 [D]with
         | false=>rw[s2]at hd;cases hd
         | true=>
          rw[s2]at hd;simp only[qb,zf]at hd;cases M:yK 0 24 [S]with
          | false=>rw[M]at hd;cases hd
          | true=>
           rw[M]at hd;simp only[qb,zf]at hd;cases N:ieq (cnA O) 0 with
           | false=>rw[N]at hd;exact absurd hd (k N)
           | true=>
            rw[N]at hd;simp only[qb,zf]at hd;cases Q:ieq (cnA U) 0 with
            | false=>rw[Q]at hd;exact absurd hd (k Q)
            | true=>
             rw[Q]at hd;simp only[qb,zf]at hd;cases R:ieq (crA C) 0 with
             | false=>rw[R]at hd;exact absurd hd (k R)
             | true=>
              rw[R]at hd;simp only[qb,zf]at hd;cases s7:C.neg with
              | true=>rw[s7]at hd;cases hd
              | false=>
               rw[s7]at hd;simp only[zf]at hd;cases T:ieq (crA st) 0 with
               | false=>rw[T]at hd;exact absurd hd (k T)
               | true=>
                rw[T]at hd;simp only[qb,zf]at hd;cases s9:st.neg with
                | true=>rw[s9]at hd;cases hd
                | false=>
                 rw[s9]at hd;simp only[zf]at hd;cases f:ieq (crA V) 0 with
                 | false=>rw[f]at hd;exact absurd hd (k f)
                 | true=>
                  rw[f]at hd;simp only[qb,zf]at hd;cases z:V.neg with
                  | true=>rw[z]at hd;cases hd
                  | false=>
                   rw[z]at hd;simp only[zf]at hd;cases j:ilt (.ofNat 200) (.ofNat (h.length*o.length*t.length*G.length))with
                   | true=>rw[j]at hd;cases hd
                   | false=>
                    rw[j]at hd;simp only[zf]at hd;exact⟨zV.1 A,q,B,J,l0,bS K,E,M,bS j⟩
def szA(h o t:List Int)(G:List Bd)(P D S:Int)(O U:List Nz)(C st V:Raw):Int:=bif ieq (dcA h o t G P D S O U C st V) 0 then .ofNat (h.length*o.length*t.length*G.length)else 0
theorem jFb(h o t:List Int)(G:List Bd)(P D S:Int)(O U:List Nz)(C st V:Raw):((qF Tryz.prog (evD Tryz.prog (ODs dcA) (loT []) 60) 134 [.ag (mdC h o t G P D S O U C st V)] []).bind qJ).run=some (.tu [vi (szA h o t G P D S O U C st V),vi (dcA h o t G P D S O U C st V)],true):=by
 rw[eSz];unfold szA;cases e:ieq (dcA h o t G P D S O U C st V) 0 with
 | false=>rfl
 | true=>
  have m:=zVp h o t G P D S O U C st V (zV.1 e);obtain⟨⟨_,j⟩,⟨_,k⟩,⟨_,q⟩⟩:=zYc m.grid;obtain⟨y,z,m3⟩:=zYu j k q m.av6;have f:dcA h o t G P D S O U C st V=0:=zV.1 e;simp only[qb,zf,ze,gd,yV (show h.length*o.length<9223372036854775808 by omega),yV (show h.length*o.length*t.length<9223372036854775808 by omega),yV (show h.length*o.length*t.length*G.length<9223372036854775808 by omega)]
  rw[f];rfl
theorem kSz:∀e j f,(oSz szA dcA e).run=some (j,f)→∀k,KnP Tryz.prog k 134 e j f:=by
 intro e j f hh k;unfold oSz at hh;split at hh
 ·rename_i h o t G P D S O U q C y E sl J z A B;cases hh;exact yN (cz:=[.ag (mdC h o t G P D S O U ⟨q,C,y⟩ ⟨E,sl,J⟩ ⟨z,A,B⟩)]) yL jCl qA (jFb h o t G P D S O U ⟨q,C,y⟩ ⟨E,sl,J⟩ ⟨z,A,B⟩) rfl k
 ·cases hh
def kyF(l:List Int):ByteArray:=⟨(zDk (l.map Int.toNat)).toArray⟩
def kyG(l:List Int):Bool:=Nat.blt 0 l.length&&(Nat.blt l.length 1000&&l.all fun x=>nng x&&ilt x 9223372036854775808)
def oKy(ky:List Int→ByteArray):List T→DT (T×Bool)
 | [.ls .a (.int .i64) l]=>grd (kyG l) (.ret (.v (.string (ky l)),true))
 | _=> .no
theorem kKy:∀z G E,(oKy kyF z).run=some (G,E)→∀k,KnP Tryz.prog k 130 z G E:=by
 intro z G E h k;unfold oKy at h;split at h
 ·rename_i l;obtain⟨J,f⟩:=zT h;cases f;simp only[kyG,zd,qa]at J;obtain⟨g1,g2,g3⟩:=J;have g1:=jV g1;have g2:=jV g2;intro B w X qQ R hI _ hX hR hK;match qQ,hR with
  | [v],⟨hv,_⟩=>
   cases hv with
   | ls hv=>
    obtain⟨ad,c,Q,hD⟩:=hv;cases Q;rcases hD.2.2 with rfl | ⟨b,o,rfl,hb,H⟩
    ·exact absurd g1 (d4 _)
    ·have N:∀x∈l,∃m:Nat,x= .ofNat m∧m≤9223372036854775807:=fun x A=>by
      have:=g3 x A;cases x with
      | ofNat m=>exact⟨m,rfl,by have f:=xV.1 this.2;have f:(m:Int)<9223372036854775808:=f;omega⟩
      | negSucc m=>cases this.1
     have M:l.length=(l.map Int.toNat).length:=(xi _).symm;show Calls Tryz.prog 130 #[.slice (some ⟨b,o,none⟩) l.length c] w R;rw[M];refine(zRn b o c (l.map Int.toNat) w (by rw[←M];omega) (fun x A=>?_) (hI (by rw[qKs];exact fun h=>by cases h)) fun j x K=>?_).mono ?_
     ·obtain⟨y,q,rfl⟩:=vz.1 A;obtain⟨m,rfl,hm⟩:=N y q;exact hm
     ·rw[qt]at K;obtain⟨y,q,rfl⟩:=j8.1 K;obtain⟨m,rfl,hm⟩:=N y (qg q);obtain⟨vs,h3,T,h5⟩:=H j _ q;obtain rfl:vs=[.int .i64 (.ofNat m)]:=T;have:=h5 0 _ rfl;rw[show o+(j*Ty.size nT+0)=o+j by simp[Ty.size]]at this
      exact yQ this
     ·rintro e w' ⟨rfl,hb⟩;exact hK _ w' (Upd.of_below hb) (.v rfl)
 ·cases h
def iP1(f us:Int)(od:Bool)(e:List (List Int))(n k:Nat)(c:List Int)(m i:Nat)(G:List Bd)(F:List (List Int)):Hs:=⟨[vi f,vi us,.v (.bool od),.ls .a (.list nT) e,vn n,vn k,.ls .a nT c,vn m,vn i],[],[[.ls .a bT G,.ls .a (.list nT) F]]⟩
def xP1(f us:Int)(od:Bool)(e:List (List Int))(n k:Nat)(G:List Bd)(F:List (List Int)):Hs:=⟨[vi f,vi us,.v (.bool od),.ls .a (.list nT) e,vn n,vn k],[],[[.ls .a bT G,.ls .a (.list nT) F]]⟩
def Lp1:Lp:=⟨1,
 ⟨[.u,.t (.op 0 0),.u,.h,.u,.h,.h]++(us' 37++([.h,.h,.h]++(us' 7++([.h,.h,.h]++(us' 76))))),[.r [.u,.u,.u,.h,.u,.u,.u,.u,.u,.u,.u,.u,.u,.u,.u,.u,.u,.u,.u,.h,.u] 33]⟩,
 ⟨[.u,.t (.op 0 0),.u,.h,.u,.h,.h]++(us' 37++([.h,.h,.h]++(us' 86))),[.r [.u,.u,.u,.h,.u,.u,.u,.u,.u,.u,.u,.u,.u,.u,.u,.u,.u,.u,.u,.h,.u] 33]⟩,
 ⟨[.u,.u,.h]++(us' 130),[.g]⟩⟩
abbrev qTf:Code:=lpc Tryz.prog 61 [false,true,true,true,false,false,true,true,false,false,true,false,true,true,true,true]
theorem qWe:cAt Tryz.prog 61 [false,true,true,true,false,false,true,true,false,false,true,false,true,true,true,true]=some (.loop qTf):=by kernel_rfl
abbrev qDv(f:Od)(e:Lo):Hs→Option (Hs⊕(Ex×Hs)):=Lp1.stp (evD Tryz.prog f e 60) 61 [false,true,true,true,false,false,true,true,false,false,true,false,true,true,true,true] qTf
theorem sP1(f us:Int)(od:Bool)(e:List (List Int))(n k:Nat)(c:List Int)(m i:Nat)(G:List Bd)(F:List (List Int)):qDv (odT []) (loT []) (iP1 f us od e n k c m i G F)=bif ilt (.ofNat i) (.ofNat m)then gd (Nat.blt i c.length) (bif ilt (nth nT.zero c i) (.ofNat 0)then some (.inr (.r,⟨[vn 8],[],[[]]⟩))else(bif !(ilt (nth nT.zero c i) (.ofNat F.length))then some (.inr (.r,⟨[vn 8],[],[[]]⟩))else(bif ilt us (nth nT.zero c i)then nx i (.inl (iP1 f us false e n k c m (i+1) G F))else(bif ieq (nth nT.zero c i) us then gd (inW (us.add 1)) (nx i (.inl (iP1 f (us.add (.ofNat 1)) od e n k c m (i+1) G F)))else nx i (.inl (iP1 f us od e n k c m (i+1) G F))))))else some (.inr (.x 3,(xP1 f us od e n k G F))):=by kernel_rfl
abbrev UO:=Int×Bool
def gP1(F:List (List Int))(c:List Int)(i:Nat)(s:UO):UO⊕Option UO:=bif ilt (nI c i) (.ofNat 0)||!ilt (nI c i) (.ofNat F.length)then .inr none else .inl (bif ilt s.1 (nI c i)then(s.1,false)else(bif ieq (nI c i) s.1 then(s.1.add 1,s.2)else s))
def p1F(F:List (List Int))(c:List Int)(s:UO):Option UO:=fol (gP1 F c) some c.length 0 s
def qUv(f:Int)(e:List (List Int))(n k:Nat)(G:List Bd)(F:List (List Int)):Option UO→Ex×Hs
 | none=>(.r,⟨[vn 8],[],[[]]⟩)
 | some s=>(.x 3,xP1 f s.1 s.2 e n k G F)
def okU(F:List (List Int))(s:UO):Prop:=0≤s.1∧s.1≤F.length
theorem qHa{F:List (List Int)}{c:List Int}{i:Nat}{s y:UO}(h:okU F s)(f:gP1 F c i s= .inl y):okU F y:=by
 unfold gP1 at f;cases j:ilt (nI c i) (.ofNat 0)||!ilt (nI c i) (.ofNat F.length)with
 | true=>rw[j]at f;cases f
 | false=>
  rw[j]at f;simp only[xr,uz]at j;have z:nI c i<(F.length:Int):=xV.1 j.2;cases k:ilt s.1 (nI c i)with
  | true=>rw[k]at f;cases f;exact h
  | false=>
   cases q:ieq (nI c i) s.1 with
   | false=>rw[k,q]at f;cases f;exact h
   | true=>
    rw[k,q]at f;cases f;have e:=zV.1 q;exact⟨ub h.1 (show s.1≤s.1+1 by omega),show s.1+1≤(F.length:Int)by omega⟩
theorem lpP1(q:Int)(j:List (List Int))(n k:Nat)(c:List Int)(G:List Bd)(F:List (List Int))(s:UO)(z:okU F s)(B:c.length<9223372036854775807)(E:F.length<9223372036854775807):lpF (qDv (odT []) (loT [])) c.length (iP1 q s.1 s.2 j n k c c.length 0 G F)=some (qUv q j n k G F (p1F F c s)):=
 jM (iv:=fun i(s:UO)=>iP1 q s.1 s.2 j n k c c.length i G F) (g:=gP1 F c) (d:=some) (out:=qUv q j n k G F) (n:=c.length) (fun _ s=>okU F s)
  (fun i s e f=>by
   rw[sP1];show(bif Nat.blt i c.length then _ else _)=_;unfold gP1 nI;have A:inW (s.1.add 1)=true:=zDi (show(0:Int)≤s.1+1 from by have:=f.1;omega) (show s.1+1<9223372036854775808 from by have:=f.2;omega)
   simp only[gd,zP e,ze,xC (show i+1<9223372036854775808 by omega),A]
   cases ilt (nth nT.zero c i) (.ofNat 0)<;>cases ilt (nth nT.zero c i) (.ofNat F.length)<;>cases ilt s.1 (nth nT.zero c i)<;>cases ieq (nth nT.zero c i) s.1<;>rfl)
  (fun i s J e f y=>qHa f y)
  (fun s _=>by rw[sP1];show(bif Nat.blt c.length c.length then _ else _)=_;rw[yC (z6 _),zf];rfl) c.length 0 s (by omega) z
def isS{α:Type}:Option α→Bool
 | some _=>true
 | none=>false
def gS:Option UO→UO
 | some s=>s
 | none=>(0,false)
def zSb(F:List (List Int))(us:Int):Bool:=nng us&&!ilt (.ofNat F.length) us
theorem zGc{F:List (List Int)}{us:Int}{od:Bool}:zSb F us=true↔okU F (us,od):=by
 unfold zSb okU;simp only[zd,qn];constructor
 ·rintro⟨e,f⟩;cases us with
  | ofNat m=>exact⟨j7 _,vF f⟩
  | negSucc m=>cases e
 ·rintro⟨e,f⟩;cases us with
  | ofNat m=>exact⟨rfl,zYe f⟩
  | negSucc m=>exact absurd e (by show¬(0:Int)≤Int.negSucc m;omega)
def hP1:Hs→DT (Ex×Hs)
 | ⟨[.v (.int .i64 f),.v (.int .i64 us),.v (.bool od),.ls .a (.list (.int .i64)) e,.v (.int .i64 (.ofNat n)),.v (.int .i64 (.ofNat k)),.ls .a (.int .i64) c,.v (.int .i64 (.ofNat m)),.v (.int .i64 (.ofNat 0))],[],[[.ls .a (.prod (.int .u8) (.prod (.int .i64) (.int .i64))) G,.ls .a (.list (.int .i64)) F]]⟩=>grd (Nat.beq m c.length&&(Nat.blt c.length 9223372036854775807&&(Nat.blt F.length 9223372036854775807&&zSb F us))) (.ite (isS (p1F F c (us,od))) (.ret (.x 3,xP1 f (gS (p1F F c (us,od))).1 (gS (p1F F c (us,od))).2 e n k G F)) (.ret (.r,⟨[vn 8],[],[[]]⟩)))
 | _=> .no
theorem jAa:∀q y,(hP1 q).run=some y→∃n,It (qDv (odT []) (loT [])) n q y:=fun q y hh=>by
 unfold hP1 at hh;split at hh
 ·rename_i A us od z n k c m G F;obtain⟨e,f⟩:=zT hh;simp only[zd]at e;obtain⟨g1,g2,g3,j⟩:=e;obtain rfl:=zY g1;have:=xM _ _ (lpP1 A z n k c G F (us,od) (zGc.1 j) (jV g2) (jV g3));cases hb:p1F F c (us,od)<;>rw[hb]at f this<;>cases f<;>exact this
 ·cases hh
abbrev LP1:Lo:=loT [(61,[false,true,true,true,false,false,true,true,false,false,true,false,true,true,true,true],Lp1.row hP1)]
theorem jBn:vJ Tryz.prog LP1:=jP qA gP qWe jAa
def iP0(f us:Int)(od:Bool)(e:List (List Int))(n k:Nat)(G:List Bd)(F:List (List Int)):Hs:=⟨[vi f,vi us,.v (.bool od),.ls .a (.list nT) e,vn n,vn k],[],[[.ls .a bT G,.ls .a (.list nT) F]]⟩
def xP0(us:Int)(od:Bool)(G:List Bd)(F:List (List Int)):Hs:=⟨[vi us,.v (.bool od)],[],[[.ls .a bT G,.ls .a (.list nT) F]]⟩
def Lp0:Lp:=⟨1,
 ⟨[.u,.t (.op 0 0),.u,.h,.u,.h,.h]++(us' 37++([.h,.h,.h]++(us' 86))),[.r [.u,.u,.u,.h,.u,.u,.u,.u,.u,.u,.u,.u,.u,.u,.u,.u,.u,.u,.u,.h,.u] 33]⟩,
 ⟨[.u,.t (.op 0 0)]++(us' 3++([.h,.h]++(us' 126))),[.r [.u,.u,.u,.h,.u,.u,.u,.u,.u,.u,.u,.u,.u,.u,.u,.u,.u,.u,.u,.h,.u] 33]⟩,
 ⟨[.u,.u,.h]++(us' 130),[.g]⟩⟩
abbrev qTe:Code:=lpc Tryz.prog 61 [false,true,false,true,true,true,true]
theorem qWd:cAt Tryz.prog 61 [false,true,false,true,true,true,true]=some (.loop qTe):=by kernel_rfl
abbrev qDu(f:Od)(e:Lo):Hs→Option (Hs⊕(Ex×Hs)):=Lp0.stp (evD Tryz.prog f e 60) 61 [false,true,false,true,true,true,true] qTe
theorem sP0(f us:Int)(od:Bool)(e:List (List Int))(n k:Nat)(G:List Bd)(F:List (List Int)):qDu (odT []) LP1 (iP0 f us od e n k G F)=bif ilt (.ofNat k) (.ofNat n)then gd (Nat.blt k e.length) (bif !(ieq (.ofNat ((gI e k).length)) f)then some (.inr (.r,⟨[vn 16],[],[[]]⟩))else gd ((Nat.beq ((gI e k).length) ((gI e k).length))&&((Nat.blt ((gI e k).length) 9223372036854775807)&&((Nat.blt F.length 9223372036854775807)&&(zSb F us)))) (bif isS (p1F F (gI e k) (us,od))then nx k (.inl (iP0 f ((gS (p1F F (gI e k) (us,od))).1) ((gS (p1F F (gI e k) (us,od))).2) e n (k+1) G F))else some (.inr (.r,⟨[vn 8],[],[[]]⟩))))else some (.inr (.x 1,(xP0 us od G F))):=by kernel_rfl
def gP0(f:Int)(F e:List (List Int))(k:Nat)(s:UO):UO⊕(UO⊕Int):=bif !ieq (.ofNat (gI e k).length) f then .inr (.inr 16)else(bif isS (p1F F (gI e k) s)then .inl (gS (p1F F (gI e k) s))else .inr (.inr 8))
def p0F(f:Int)(F e:List (List Int))(s:UO):UO⊕Int:=fol (gP0 f F e) .inl e.length 0 s
def qUu(G:List Bd)(F:List (List Int)):UO⊕Int→Ex×Hs
 | .inl s=>(.x 1,xP0 s.1 s.2 G F)
 | .inr e=>(.r,⟨[vi e],[],[[]]⟩)
theorem xG{α β:Type}{g:Nat→α→α⊕β}{d:α→β}{J:α→Prop}{R:β→Prop}(e:∀i a b,J a→g i a= .inl b→J b)(f:∀i a y,J a→g i a= .inr y→R y)(j:∀a,J a→R (d a)):∀(k i:Nat)(a:α),J a→R (fol g d k i a)
 | 0,i,a,h=>j a h
 | k+1,i,a,h=>by
  simp only[fol];cases H:g i a with
  | inl b=>exact xG e f j k (i+1) b (e i a b h H)
  | inr y=>exact f i a y h H
theorem jHe{F:List (List Int)}{c:List Int}{s:UO}(h:okU F s)(k:isS (p1F F c s)=true):okU F (gS (p1F F c s)):=by
 have:=xG (g:=gP1 F c) (d:=some) (J:=okU F) (R:=fun y=>∀j,y=some j→okU F j) (fun i a b ha f=>qHa ha f) (fun i a y ha f j e=>by
  unfold gP1 at f;cases q:ilt (nI c i) (.ofNat 0)||!ilt (nI c i) (.ofNat F.length)<;>rw[q]at f
  ·cases f
  ·cases f;cases e) (fun a ha j e=>by cases e;exact ha) c.length 0 s h
 cases hp:p1F F c s with
 | none=>rw[hp]at k;cases k
 | some j=>exact this j hp
theorem qZm{y:Int}{F q:List (List Int)}{k:Nat}{s z:UO}(h:okU F s)(e:gP0 y F q k s= .inl z):okU F z:=by
 unfold gP0 at e;cases f:ieq (.ofNat (gI q k).length) y with
 | false=>rw[f]at e;cases e
 | true=>
  cases j:isS (p1F F (gI q k) s)with
  | false=>rw[f,j]at e;cases e
  | true=>rw[f,j]at e;cases e;exact jHe h j
theorem lpP0(k:Int)(f:List (List Int))(G:List Bd)(F:List (List Int))(s:UO)(B:okU F s)(J:k<9223372036854775807)(E:f.length<9223372036854775807)(A:F.length<9223372036854775807):lpF (qDu (odT []) LP1) f.length (iP0 k s.1 s.2 f f.length 0 G F)=some (qUu G F (p0F k F f s)):=
 jM (iv:=fun i(s:UO)=>iP0 k s.1 s.2 f f.length i G F) (g:=gP0 k F f) (d:= .inl) (out:=qUu G F) (n:=f.length) (fun _ s=>okU F s)
  (fun i s j q=>by
   rw[sP0];show(bif Nat.blt i f.length then _ else _)=_;unfold gP0;cases y:ieq (.ofNat (gI f i).length) k with
   | false=>simp only[gd,zP j,ze];rfl
   | true=>
    have e:((gI f i).length:Int)=k:=zV.1 y;have hb:zSb F s.1=true:=zGc.2 q;simp only[gd,zP j,ze,qb,zf,jL,zP (show(gI f i).length<9223372036854775807 by omega),zP A,hb,q9,xC (show i+1<9223372036854775808 by omega)]
    cases isS (p1F F (gI f i) s)<;>rfl)
  (fun i s K j q z=>qZm q z)
  (fun s _=>by rw[sP0];show(bif Nat.blt f.length f.length then _ else _)=_;rw[yC (z6 _),zf];rfl) f.length 0 s (by omega) B
def isU:UO⊕Int→Bool
 | .inl _=>true
 | .inr _=>false
def gU:UO⊕Int→UO
 | .inl s=>s
 | .inr _=>(0,false)
def eU:UO⊕Int→Int
 | .inl _=>0
 | .inr e=>e
def hP0:Hs→DT (Ex×Hs)
 | ⟨[.v (.int .i64 f),.v (.int .i64 us),.v (.bool od),.ls .a (.list (.int .i64)) e,.v (.int .i64 (.ofNat n)),.v (.int .i64 (.ofNat 0))],[],[[.ls .a (.prod (.int .u8) (.prod (.int .i64) (.int .i64))) G,.ls .a (.list (.int .i64)) F]]⟩=>grd (Nat.beq n e.length&&(Nat.blt e.length 9223372036854775807&&(Nat.blt F.length 9223372036854775807&&(zSb F us&&ilt f 9223372036854775807)))) (.ite (isU (p0F f F e (us,od))) (.ret (.x 1,xP0 (gU (p0F f F e (us,od))).1 (gU (p0F f F e (us,od))).2 G F)) (.ret (.r,⟨[vi (eU (p0F f F e (us,od)))],[],[[]]⟩)))
 | _=> .no
theorem qRt:mM Tryz.prog (evD Tryz.prog (odT []) LP1 60):=kM yL jZ jBn 60
theorem qZz:∀q y,(hP0 q).run=some y→∃n,It (qDu (odT []) LP1) n q y:=fun q y hh=>by
 unfold hP0 at hh;split at hh
 ·rename_i k us od j n G F;obtain⟨e,f⟩:=zT hh;simp only[zd]at e;obtain⟨g1,g2,g3,z,g5⟩:=e;obtain rfl:=zY g1;have:=xM _ _ (lpP0 k j G F (us,od) (zGc.1 z) (xV.1 g5) (jV g2) (jV g3));cases hb:p0F k F j (us,od)<;>rw[hb]at f this<;>cases f<;>exact this
 ·cases hh
def iP3(us:Int)(od:Bool)(d:List Int)(f:List (List Int))(n k:Nat)(c:List Int)(m i:Nat)(e:List (ByteArray×Int))(G:List Bd)(F:List (List Int)):Hs:=⟨[vi us,.v (.bool od),.ls .a nT d,.ls .a (.list nT) f,vn n,vn k,.ls .a nT c,vn m,vn i],[],[[.ls .a bT G,.ls .a (.list nT) F],[.ls .a (.prod .str nT) e]]⟩
def xP3(us:Int)(od:Bool)(d:List Int)(f:List (List Int))(n k:Nat)(e:List (ByteArray×Int))(G:List Bd)(F:List (List Int)):Hs:=⟨[vi us,.v (.bool od),.ls .a nT d,.ls .a (.list nT) f,vn n,vn k],[],[[.ls .a bT G,.ls .a (.list nT) F],[.ls .a (.prod .str nT) e]]⟩
def Lp3:Lp:=⟨2,
 ⟨[.u,.t (.op 0 0)]++(us' 3++([.h,.h]++(us' 4++([.t (.om 1),.u,.h]++(us' 70++([.h,.h,.h]++(us' 10++([.h,.h,.h]++(us' 33))))))))),[.r [.u,.u,.u,.h,.u,.u,.u,.u,.u,.u,.u,.u,.u,.u,.u,.u,.u,.u,.u,.h,.u] 33,.m .a .str nT]⟩,
 ⟨[.u,.t (.op 0 0)]++(us' 3++([.h,.h]++(us' 4++([.t (.om 1),.u,.h]++(us' 70++([.h,.h,.h]++(us' 46))))))),[.r [.u,.u,.u,.h,.u,.u,.u,.u,.u,.u,.u,.u,.u,.u,.u,.u,.u,.u,.u,.h,.u] 33,.m .a .str nT]⟩,
 ⟨[.u,.u,.h]++(us' 130),[.g,.g]⟩⟩
abbrev qTh:Code:=lpc Tryz.prog 61 [false,true,false,true,true,false,false,true,true,false,false,true,false,true,true,true,true,true,true]
theorem qWg:cAt Tryz.prog 61 [false,true,false,true,true,false,false,true,true,false,false,true,false,true,true,true,true,true,true]=some (.loop qTh):=by kernel_rfl
abbrev qDx(f:Od)(e:Lo):Hs→Option (Hs⊕(Ex×Hs)):=Lp3.stp (evD Tryz.prog f e 60) 61 [false,true,false,true,true,false,false,true,true,false,false,true,false,true,true,true,true,true,true] qTh
theorem sP3(us:Int)(od:Bool)(d:List Int)(f:List (List Int))(n k:Nat)(c:List Int)(m i:Nat)(e:List (ByteArray×Int))(G:List Bd)(F:List (List Int)):qDx (odT []) (loT []) (iP3 us od d f n k c m i e G F)=bif ilt (.ofNat i) (.ofNat m)then gd (Nat.blt i c.length) (bif ilt (nth nT.zero c i) (.ofNat 0)then some (.inr (.r,⟨[vn 1],[],[[],[]]⟩))else(bif ilt (.ofNat 1099511627776) (nth nT.zero c i)then some (.inr (.r,⟨[vn 1],[],[[],[]]⟩))else nx i (.inl (iP3 us od d f n k c m (i+1) e G F))))else some (.inr (.x 8,(xP3 us od d f n k e G F))):=by kernel_rfl
def gP3(c:List Int)(i:Nat)(_:Unit):Unit⊕Bool:=bif ilt (nI c i) (.ofNat 0)||ilt (.ofNat 1099511627776) (nI c i)then .inr true else .inl ()
def p3F(c:List Int):Bool:=fol (gP3 c) (fun _=>false) c.length 0 ()
def zZp(us:Int)(od:Bool)(d:List Int)(f:List (List Int))(n k:Nat)(e:List (ByteArray×Int))(G:List Bd)(F:List (List Int)):Bool→Ex×Hs
 | true=>(.r,⟨[vn 1],[],[[],[]]⟩)
 | false=>(.x 8,xP3 us od d f n k e G F)
theorem lpP3(us:Int)(od:Bool)(d:List Int)(f:List (List Int))(n k:Nat)(e:List (ByteArray×Int))(c:List Int)(G:List Bd)(F:List (List Int))(q:c.length<9223372036854775807):lpF (qDx (odT []) (loT [])) c.length (iP3 us od d f n k c c.length 0 e G F)=some (zZp us od d f n k e G F (p3F c)):=
 jM (iv:=fun i(_:Unit)=>iP3 us od d f n k c c.length i e G F) (g:=gP3 c) (d:=fun _=>false) (out:=zZp us od d f n k e G F) (n:=c.length) (fun _ _=>True)
  (fun i s j _=>by
   rw[sP3];show(bif Nat.blt i c.length then _ else _)=_;unfold gP3 nI;rw[zP j,ze];simp only[gd,ze,xC (show i+1<9223372036854775808 by omega)]
   cases ilt (nth nT.zero c i) (.ofNat 0)<;>cases ilt (.ofNat 1099511627776) (nth nT.zero c i)<;>rfl)
  (fun _ _ _ _ _ _=>trivial)
  (fun s _=>by rw[sP3];show(bif Nat.blt c.length c.length then _ else _)=_;rw[yC (z6 _),zf];rfl) c.length 0 () (by omega) trivial
def hP3:Hs→DT (Ex×Hs)
 | ⟨[.v (.int .i64 us),.v (.bool od),.ls .a (.int .i64) d,.ls .a (.list (.int .i64)) f,.v (.int .i64 (.ofNat n)),.v (.int .i64 (.ofNat k)),.ls .a (.int .i64) c,.v (.int .i64 (.ofNat m)),.v (.int .i64 (.ofNat 0))],[],[[.ls .a (.prod (.int .u8) (.prod (.int .i64) (.int .i64))) G,.ls .a (.list (.int .i64)) F],[.ls .a (.prod .str (.int .i64)) e]]⟩=>grd (Nat.beq m c.length&&Nat.blt c.length 9223372036854775807) (.ite (p3F c) (.ret (zZp us od d f n k e G F true)) (.ret (zZp us od d f n k e G F false)))
 | _=> .no
theorem jAc:∀q y,(hP3 q).run=some y→∃n,It (qDx (odT []) (loT [])) n q y:=fun q y hh=>by
 unfold hP3 at hh;split at hh
 ·rename_i us od d z n k c m G F j;obtain⟨e,f⟩:=zT hh;simp only[zd]at e;obtain rfl:=zY e.1;have:=xM _ _ (lpP3 us od d z n k j c G F (jV e.2));cases hb:p3F c<;>rw[hb]at f this<;>cases f<;>exact this
 ·cases hh
abbrev LP3:Lo:=loT [(61,[false,true,false,true,true,false,false,true,true,false,false,true,false,true,true,true,true,true,true],Lp3.row hP3)]
theorem jBo:vJ Tryz.prog LP3:=jP qA gP qWg jAc
theorem qVb{c:List Int}(h:p3F c=false){i:Nat}(j:i<c.length):0≤nI c i∧nI c i≤1099511627776:=by
 have H:=zBh (g:=gP3 c) (d:=false) (fun i y f e=>by unfold gP3 at f;cases hb:ilt (nI c i) (.ofNat 0)||ilt (.ofNat 1099511627776) (nI c i)<;>rw[hb]at f<;>cases f;cases e) c.length 0 h i (qq _) (by omega)
 unfold gP3 at H;cases hb:ilt (nI c i) (.ofNat 0)||ilt (.ofNat 1099511627776) (nI c i)with
 | true=>rw[hb]at H;cases H
 | false=>
  simp only[xr]at hb;exact⟨vF hb.1,vF hb.2⟩
theorem jAz{c:List Int}(y:1≤c.length)(z:c.length≤900)(h:p3F c=false):kyG c=true:=by
 simp only[kyG,zd,qa];refine⟨zP (by omega),zP (by omega),fun x q=>?_⟩
 obtain⟨i,j⟩:=qz q;have hlt:=(zh.1 j).1;have e:nI c i=x:=by rw[jCe hlt];exact(zh.1 j).2
 obtain⟨f,k⟩:=qVb h hlt;rw[e]at f k;refine⟨?_,mZ (by omega)⟩
 cases x with
 | ofNat m=>rfl
 | negSucc m=>exact absurd f (by omega)
def iP2(us:Int)(od:Bool)(f:List (List Int))(n k:Nat)(e:List (ByteArray×Int))(G:List Bd)(F:List (List Int)):Hs:=⟨[vi us,.v (.bool od),.ls .a (.list nT) f,vn n,vn k],[],[[.ls .a bT G,.ls .a (.list nT) F],[.ls .a (.prod .str nT) e]]⟩
def xP2(us:Int)(od:Bool)(e:List (ByteArray×Int))(G:List Bd)(F:List (List Int)):Hs:=⟨[vi us,.v (.bool od)],[],[[.ls .a bT G,.ls .a (.list nT) F],[.ls .a (.prod .str nT) e]]⟩
def Lp2:Lp:=⟨2,
 ⟨[.u,.t (.op 0 0)]++(us' 3++([.h,.h]++(us' 4++([.t (.om 1)]++(us' 72++([.h,.h,.h]++(us' 46))))))),[.r [.u,.u,.u,.h,.u,.u,.u,.u,.u,.u,.u,.u,.u,.u,.u,.u,.u,.u,.u,.h,.u] 33,.m .a .str nT]⟩,
 ⟨[.u,.t (.op 0 0)]++(us' 3++([.h,.h]++(us' 4++([.t (.om 1)]++(us' 121))))),[.r [.u,.u,.u,.h,.u,.u,.u,.u,.u,.u,.u,.u,.u,.u,.u,.u,.u,.u,.u,.h,.u] 33,.m .a .str nT]⟩,
 ⟨[.u,.u,.h]++(us' 130),[.g,.g]⟩⟩
abbrev qTg:Code:=lpc Tryz.prog 61 [false,true,false,true,true,true,true,true,true]
theorem qWf:cAt Tryz.prog 61 [false,true,false,true,true,true,true,true,true]=some (.loop qTg):=by kernel_rfl
abbrev qDw(f:Od)(e:Lo):Hs→Option (Hs⊕(Ex×Hs)):=Lp2.stp (evD Tryz.prog f e 60) 61 [false,true,false,true,true,true,true,true,true] qTg
abbrev OKy(ky:List Int→ByteArray):Od:=odT [(130,odR [.list nT] (oKy ky))]
theorem sP2(ky:List Int→ByteArray)(us:Int)(od:Bool)(e:List (List Int))(n k:Nat)(f:List (ByteArray×Int))(G:List Bd)(F:List (List Int)):qDw (OKy ky) LP3 (iP2 us od e n k f G F)=bif ilt (.ofNat k) (.ofNat n)then gd (Nat.blt k e.length) (bif !(ieq (.ofNat ((gI e k).length)) (.ofNat G.length))then some (.inr (.r,⟨[vn 16],[],[[],[]]⟩))else gd ((Nat.beq ((gI e k).length) ((gI e k).length))&&(Nat.blt ((gI e k).length) 9223372036854775807)) (bif p3F (gI e k)then some (.inr (.r,⟨[vn 1],[],[[],[]]⟩))else gd (kyG (gI e k)) (gd (inW (Int.add (jN .str 0 (ky (gI e k)) f) 1)) (nx k (.inl (iP2 us od e n (k+1) (mD .str (ky (gI e k)) (Int.add (jN .str 0 (ky (gI e k)) f) 1) f) G F))))))else some (.inr (.x 6,(xP2 us od f G F))):=by kernel_rfl
abbrev Km:=List (ByteArray×Int)
theorem zRe(k j:ByteArray)(x:Int):∀m:Km,jN .str 0 k (mD .str j x m)=x∨jN .str 0 k (mD .str j x m)=jN .str 0 k m
 | []=>by
  show(bif keq .str k j then x else(0:Int))=x∨(bif keq .str k j then x else(0:Int))=0;cases keq .str k j
  ·exact .inr rfl
  ·exact .inl rfl
 | e::m=>by
  have z:mD .str j x (e::m)=(bif keq .str j e.1 then(j,x)::m else e::mD .str j x m):=rfl;have y:∀(q:ByteArray)(f:ByteArray×Int)(m:Km),jN .str 0 q (f::m)=(bif keq .str q f.1 then f.2 else jN .str 0 q m):=fun _ _ _=>rfl;rw[z];cases h:keq .str j e.1 with
  | true=>
   rw[ze,y,y];have A:j=e.1:=qu h;rw[←A];cases keq .str k j
   ·exact .inr rfl
   ·exact .inl rfl
  | false=>
   rw[zf,y,y];cases keq .str k e.1
   ·exact zRe k j x m
   ·exact .inr rfl
def okK(k:Nat)(e:Km):Prop:=∀q,0≤jN .str 0 q e∧jN .str 0 q e≤k
theorem qQp{k:Nat}{f:Km}(h:okK k f)(q:ByteArray):okK (k+1) (mD .str q (Int.add (jN .str 0 q f) 1) f):=fun p=>by
 have y:=h q;have j:=h p;rcases zRe p q (Int.add (jN .str 0 q f) 1) f with e | e<;>rw[e]
 ·exact⟨show(0:Int)≤jN .str 0 q f+1 by omega,show jN .str 0 q f+1≤((k+1:Nat):Int)by omega⟩
 ·exact⟨j.1,by omega⟩
section
variable (ky:List Int→ByteArray)
def gP2(e:List (List Int))(G:List Bd)(k:Nat)(f:Km):Km⊕(Km⊕Int):=bif !ieq (.ofNat (gI e k).length) (.ofNat G.length)then .inr (.inr 16)else(bif p3F (gI e k)then .inr (.inr 1)else .inl (mD .str (ky (gI e k)) (Int.add (jN .str 0 (ky (gI e k)) f) 1) f))
def p2F(e:List (List Int))(G:List Bd):Km⊕Int:=fol (gP2 ky e G) .inl e.length 0 []
def qUw(us:Int)(od:Bool)(G:List Bd)(F:List (List Int)):Km⊕Int→Ex×Hs
 | .inl f=>(.x 6,xP2 us od f G F)
 | .inr e=>(.r,⟨[vi e],[],[[],[]]⟩)
theorem lpP2(us:Int)(od:Bool)(f:List (List Int))(G:List Bd)(F:List (List Int))(N:f.length<9223372036854775807)(ha:1≤G.length)(hb:G.length≤900):lpF (qDw (OKy ky) LP3) f.length (iP2 us od f f.length 0 [] G F)=some (qUw us od G F (p2F ky f G)):=
 jM (iv:=fun k(j:Km)=>iP2 us od f f.length k j G F) (g:=gP2 ky f G) (d:= .inl) (out:=qUw us od G F) (n:=f.length) (fun k j=>okK k j)
  (fun k j E B=>by
   rw[sP2];show(bif Nat.blt k f.length then _ else _)=_;unfold gP2;rw[zP E,ze];cases z:ieq (.ofNat (gI f k).length) (.ofNat G.length)with
   | false=>rfl
   | true=>
    have e:(gI f k).length=G.length:=gA (zV.1 z);simp only[gd,qb,zf,ze,jL,zP (show(gI f k).length<9223372036854775807 by omega),q9]
    cases A:p3F (gI f k)with
    | true=>rfl
    | false=>
     have J:=B (ky (gI f k));have K:inW (Int.add (jN .str 0 (ky (gI f k)) j) 1)=true:=zDi (show(0:Int)≤jN .str 0 (ky (gI f k)) j+1 by omega) (show jN .str 0 (ky (gI f k)) j+1<9223372036854775808 by omega)
     simp only[zf,jAz (show 1≤(gI f k).length by omega) (show(gI f k).length≤900 by omega) A,ze,K,xC (show k+1<9223372036854775808 by omega)])
  (fun k j M E B y=>by
   unfold gP2 at y;cases z:ieq (.ofNat (gI f k).length) (.ofNat G.length)<;>rw[z]at y
   ·cases y
   ·cases A:p3F (gI f k)<;>rw[A]at y<;>cases y;exact qQp B _)
  (fun j _=>by rw[sP2];show(bif Nat.blt f.length f.length then _ else _)=_;rw[yC (z6 _),zf];rfl) f.length 0 [] (by omega) (fun q=>⟨ki _,ki _⟩)
def isM:Km⊕Int→Bool
 | .inl _=>true
 | .inr _=>false
def gM':Km⊕Int→Km
 | .inl s=>s
 | .inr _=>[]
def eM:Km⊕Int→Int
 | .inl _=>0
 | .inr e=>e
def hP2:Hs→DT (Ex×Hs)
 | ⟨[.v (.int .i64 us),.v (.bool od),.ls .a (.list (.int .i64)) e,.v (.int .i64 (.ofNat n)),.v (.int .i64 (.ofNat 0))],[],[[.ls .a (.prod (.int .u8) (.prod (.int .i64) (.int .i64))) G,.ls .a (.list (.int .i64)) F],[.ls .a (.prod .str (.int .i64)) []]]⟩=>grd (Nat.beq n e.length&&(Nat.blt e.length 9223372036854775807&&(Nat.ble 1 G.length&&Nat.ble G.length 900))) (.ite (isM (p2F ky e G)) (.ret (.x 6,xP2 us od (gM' (p2F ky e G)) G F)) (.ret (.r,⟨[vi (eM (p2F ky e G))],[],[[],[]]⟩)))
 | _=> .no
theorem jAb:∀q y,(hP2 ky q).run=some y→∃n,It (qDw (OKy ky) LP3) n q y:=fun q y hh=>by
 unfold hP2 at hh;split at hh
 ·rename_i us od j n G F;obtain⟨e,f⟩:=zT hh;simp only[zd,qp]at e;obtain⟨g1,g2,g3,k⟩:=e;obtain rfl:=zY g1;have:=xM _ _ (lpP2 ky us od j G F (jV g2) g3 k);cases hb:p2F ky j G<;>rw[hb]at f this<;>cases f<;>exact this
 ·cases hh
abbrev LPc:Lo:=loT [(61,[false,true,false,true,true,true,true],Lp0.row hP0),(61,[false,true,false,true,true,true,true,true,true],Lp2.row (hP2 ky))]
end
abbrev tbC(h o t:List Int)(G:List Bd)(P D S:Int)(O U:List Nz)(C st V:Raw)(Z:Int)(F I:List (List Int)):List T:=[.ls .a nT h,.ls .a nT o,.ls .a nT t,.ls .a bT G,vi P,vi D,vi S,.ls .a nzT O,.ls .a nzT U,.v (.bool C.1),.ls .a .lim C.2,.ls .a .lim C.3,.v (.bool st.1),.ls .a .lim st.2,.ls .a .lim st.3,.v (.bool V.1),.ls .a .lim V.2,.ls .a .lim V.3,vi Z,.ls .a (.list nT) F,.ls .a (.list nT) I]
abbrev OPc(ky:List Int→ByteArray)(f e:MF Int):Od:=odT [(134,odR [mdT] (oSz f e)),(130,odR [.list nT] (oKy ky))]
theorem ePc(ky:List Int→ByteArray)(e f:MF Int)(h o t:List Int)(G:List Bd)(P D S:Int)(O U:List Nz)(C st V:Raw)(Z:Int)(F I:List (List Int)):((qF Tryz.prog (evD Tryz.prog (OPc ky e f) (LPc ky) 60) 61 [.ag (tbC h o t G P D S O U C st V Z F I)] []).bind qJ).run=bif !(ieq (f h o t G P D S O U C st V) 0)then some (vi (f h o t G P D S O U C st V),true)else(bif ilt Z (.ofNat 1)then some (vn 1,true)else(bif ilt (.ofNat 1048576) Z then some (vn 1,true)else(bif !(ieq (.ofNat I.length) S)then some (vn 16,true)else gd ((Nat.beq I.length I.length)&&((Nat.blt I.length 9223372036854775807)&&((Nat.blt F.length 9223372036854775807)&&((zSb F 0)&&(ilt (e h o t G P D S O U C st V) 9223372036854775807))))) (bif isU (p0F (e h o t G P D S O U C st V) F I (0,true))then gd ((Nat.beq F.length F.length)&&((Nat.blt F.length 9223372036854775807)&&((Nat.ble 1 G.length)&&(Nat.ble G.length 900)))) (bif isM (p2F ky F G)then(bif !((gU (p0F (e h o t G P D S O U C st V) F I (0,true))).2)then some (vn 2,true)else(bif !(ieq ((gU (p0F (e h o t G P D S O U C st V) F I (0,true))).1) (.ofNat F.length))then some (vn 2,true)else(bif !(ieq (.ofNat ((gM' (p2F ky F G)).length)) (.ofNat F.length))then some (vn 2,true)else some (vn 0,true))))else some (vi (eM (p2F ky F G)),true))else some (vi (eU (p0F (e h o t G P D S O U C st V) F I (0,true))),true))))):=by kernel_rfl
section
variable (ky:List Int→ByteArray)
def pcE(h o t:List Int)(G:List Bd)(P D S:Int)(O U:List Nz)(C st V:Raw)(Z:Int)(F I:List (List Int)):Int:=bif !ieq (dcA h o t G P D S O U C st V) 0 then dcA h o t G P D S O U C st V else(bif ilt Z (.ofNat 1)then 1 else(bif ilt (.ofNat 1048576) Z then 1 else(bif !ieq (.ofNat I.length) S then 16 else(bif isU (p0F (szA h o t G P D S O U C st V) F I (0,true))then(bif isM (p2F ky F G)then(bif !(gU (p0F (szA h o t G P D S O U C st V) F I (0,true))).2 then 2 else(bif !ieq (gU (p0F (szA h o t G P D S O U C st V) F I (0,true))).1 (.ofNat F.length)then 2 else(bif !ieq (.ofNat (gM' (p2F ky F G)).length) (.ofNat F.length)then 2 else 0)))else eM (p2F ky F G))else eU (p0F (szA h o t G P D S O U C st V) F I (0,true))))))
theorem zTl{h o t:List Int}{G:List Bd}{S:Int}(m:Mod h o t G S):0≤S∧S≤24:=jAg m.st (show 0<1 by omega)
theorem jHo(h o t:List Int)(G:List Bd)(P D S:Int)(O U:List Nz)(C st V:Raw)(m:Mod h o t G S):0≤szA h o t G P D S O U C st V∧szA h o t G P D S O U C st V≤200:=by
 unfold szA;have:=m.sz;cases ieq (dcA h o t G P D S O U C st V) 0 with
 | true=>exact⟨j7 _,show((h.length*o.length*t.length*G.length:Nat):Int)≤200 by omega⟩
 | false=>exact⟨ki 0,show(0:Int)≤200 by decide⟩
theorem jDk(h o t:List Int)(G:List Bd)(P D S:Int)(O U:List Nz)(C st V:Raw)(Z:Int)(F I:List (List Int))(y:F.length<9223372036854775807):((qF Tryz.prog (evD Tryz.prog (OPc ky szA dcA) (LPc ky) 60) 61 [.ag (tbC h o t G P D S O U C st V Z F I)] []).bind qJ).run=yI (pcE ky h o t G P D S O U C st V Z F I):=by
 rw[ePc];unfold pcE;cases k:ieq (dcA h o t G P D S O U C st V) 0 with
 | false=>rfl
 | true=>
  have m:=zVp h o t G P D S O U C st V (zV.1 k);obtain⟨E,J⟩:=zTl m;obtain⟨K,M⟩:=jHo h o t G P D S O U C st V m;simp only[qb,zf];cases ilt Z (.ofNat 1)with
  | true=>rfl
  | false=>
   cases ilt (.ofNat 1048576) Z with
   | true=>rfl
   | false=>
    cases q:ieq (.ofNat I.length) S with
    | false=>rfl
    | true=>
     have B:(I.length:Int)=S:=zV.1 q;have f:zSb F 0=true:=zGc (od:=true).2 ⟨ki _,j7 _⟩;have j:=m.av1;have A:=m.av6;simp only[qb,zf,gd,jL,zP y,zP (show I.length<9223372036854775807 by omega),f,mZ (show szA h o t G P D S O U C st V<9223372036854775807 by omega),yJ j,yJ (show G.length≤900 by omega),q9,ze]
     cases p0F (szA h o t G P D S O U C st V) F I (0,true)with
     | inr e=>rfl
     | inl s=>
      simp only[isU,gU,ze];cases p2F ky F G with
      | inr e=>rfl
      | inl z=>
       simp only[isM,gM',ze];cases s.2<;>cases ieq s.1 (.ofNat F.length)<;>cases ieq (.ofNat z.length) (.ofNat F.length)<;>rfl
end
theorem zBi{α β:Type}{g:Nat→α→α⊕β}{d:α→β}{Q:β→Prop}(f:∀i a y,g i a= .inr y→¬Q y):∀(k i:Nat)(a:α),Q (fol g d k i a)→∀j,i≤j→j<i+k→∃a b,g j a= .inl b
 | 0,i,a,_,j,e,q=>by omega
 | k+1,i,a,h,j,e,q=>by
  simp only[fol]at h;cases H:g i a with
  | inr y=>rw[H]at h;exact absurd h (f i a y H)
  | inl b=>
   rw[H]at h;rcases xo e with rfl | hlt
   ·exact⟨a,b,H⟩
   ·exact zBi f k (i+1) b h j hlt (by omega)
theorem jHd{F:List (List Int)}{c:List Int}{s:UO}(h:isS (p1F F c s)=true){i:Nat}(k:i<c.length):0≤nI c i∧nI c i<(F.length:Int):=by
 obtain⟨a,b,j⟩:=zBi (g:=gP1 F c) (d:=some) (Q:=fun y=>isS y=true) (fun i a y f H=>by
  unfold gP1 at f;cases e:ilt (nI c i) (.ofNat 0)||!ilt (nI c i) (.ofNat F.length)<;>rw[e]at f
  ·cases f
  ·cases f;cases H) c.length 0 s h i (qq _) (by omega)
 unfold gP1 at j;cases e:ilt (nI c i) (.ofNat 0)||!ilt (nI c i) (.ofNat F.length)with
 | true=>rw[e]at j;cases j
 | false=>
  simp only[xr,uz]at e;exact⟨vF e.1,xV.1 e.2⟩
theorem jHc{ns:Int}{F e:List (List Int)}{s:UO}(h:isU (p0F ns F e s)=true){k:Nat}(B:k<e.length):((gI e k).length:Int)=ns∧∀i,i<(gI e k).length→0≤nI (gI e k) i∧nI (gI e k) i<(F.length:Int):=by
 obtain⟨a,b,j⟩:=zBi (g:=gP0 ns F e) (d:= .inl) (Q:=fun y=>isU y=true) (fun i a y q H=>by
  unfold gP0 at q;cases f:ieq (.ofNat (gI e i).length) ns<;>rw[f]at q
  ·cases q;cases H
  ·cases z:isS (p1F F (gI e i) a)<;>rw[z]at q<;>cases q;cases H) e.length 0 s h k (qq _) (by omega)
 unfold gP0 at j;cases f:ieq (.ofNat (gI e k).length) ns with
 | false=>rw[f]at j;cases j
 | true=>
  cases z:isS (p1F F (gI e k) a)with
  | false=>rw[f,z]at j;cases j
  | true=>exact⟨zV.1 f,fun i A=>jHd z A⟩
theorem jHf{ky:List Int→ByteArray}{e:List (List Int)}{G:List Bd}(h:isM (p2F ky e G)=true){k:Nat}(B:k<e.length):(gI e k).length=G.length∧∀i,i<(gI e k).length→0≤nI (gI e k) i∧nI (gI e k) i≤1099511627776:=by
 obtain⟨a,b,j⟩:=zBi (g:=gP2 ky e G) (d:= .inl) (Q:=fun y=>isM y=true) (fun i a y q H=>by
  unfold gP2 at q;cases f:ieq (.ofNat (gI e i).length) (.ofNat G.length)<;>rw[f]at q
  ·cases q;cases H
  ·cases z:p3F (gI e i)<;>rw[z]at q<;>cases q;cases H) e.length 0 [] h k (qq _) (by omega)
 unfold gP2 at j;cases f:ieq (.ofNat (gI e k).length) (.ofNat G.length)with
 | false=>rw[f]at j;cases j
 | true=>
  cases z:p3F (gI e k)with
  | true=>rw[f,z]at j;cases j
  | false=>exact⟨gA (zV.1 f),fun i A=>qVb z A⟩
structure Tab(h o t:List Int)(G:List Bd)(S Z:Int)(F I:List (List Int)):Prop where
 mod:Mod h o t G S
 sc1:1≤Z
 sc2:Z≤1048576
 ixl:(I.length:Int)=S
 row:∀k,k<I.length→(gI I k).length=h.length*o.length*t.length*G.length∧∀i,i<(gI I k).length→0≤nI (gI I k) i∧nI (gI I k) i<(F.length:Int)
 num:∀j,j<F.length→(gI F j).length=G.length∧∀i,i<(gI F j).length→0≤nI (gI F j) i∧nI (gI F j) i≤1099511627776
theorem qLp(ky:List Int→ByteArray)(h o t:List Int)(G:List Bd)(P D S:Int)(O U:List Nz)(C st V:Raw)(Z:Int)(F I:List (List Int))(hp:pcE ky h o t G P D S O U C st V Z F I=0):Tab h o t G S Z F I:=by
 have X:∀{x:Int},ieq x 0=false→x≠0:=fun{x}h e=>by rw[yS e]at h;cases h
 unfold pcE at hp;cases z:ieq (dcA h o t G P D S O U C st V) 0 with
 | false=>rw[z]at hp;exact absurd hp (X z)
 | true=>
  have m:=zVp h o t G P D S O U C st V (zV.1 z);rw[z]at hp;cases A:ilt Z (.ofNat 1)with
  | true=>rw[A]at hp;cases hp
  | false=>
   cases E:ilt (.ofNat 1048576) Z with
   | true=>rw[A,E]at hp;cases hp
   | false=>
    cases M:ieq (.ofNat I.length) S with
    | false=>rw[A,E,M]at hp;cases hp
    | true=>
     rw[A,E,M]at hp;simp only[qb,zf]at hp;have es:szA h o t G P D S O U C st V= .ofNat (h.length*o.length*t.length*G.length):=by unfold szA;rw[z];rfl
     cases K:p0F (szA h o t G P D S O U C st V) F I (0,true)with
     | inr e=>
      rw[K]at hp;exfalso;have hp:e=0:=hp;have:=xG (g:=gP0 (szA h o t G P D S O U C st V) F I) (d:= .inl) (J:=fun _=>True) (R:=fun y=>∀e,y= .inr e→e≠0) (fun _ _ _ _ _=>trivial) (fun i a y _ f e he=>by
       unfold gP0 at f;cases q:ieq (.ofNat (gI I i).length) (szA h o t G P D S O U C st V)<;>rw[q]at f
       ·cases f;cases he;decide
       ·cases B:isS (p1F F (gI I i) a)<;>rw[B]at f<;>cases f;cases he;decide) (fun a _ e h=>by cases h) I.length 0 (0,true) trivial
      exact this e K hp
     | inl s=>
      rw[K]at hp;simp only[isU,gU,ze]at hp;cases N:p2F ky F G with
      | inr e=>
       rw[N]at hp;exfalso;have hp:e=0:=hp;have:=xG (g:=gP2 ky F G) (d:= .inl) (J:=fun _=>True) (R:=fun y=>∀e,y= .inr e→e≠0) (fun _ _ _ _ _=>trivial) (fun i a y _ f e h=>by
        unfold gP2 at f;cases q:ieq (.ofNat (gI F i).length) (.ofNat G.length)<;>rw[q]at f
        ·cases f;cases h;decide
        ·cases B:p3F (gI F i)<;>rw[B]at f<;>cases f;cases h;decide) (fun a _ e h=>by cases h) F.length 0 [] trivial
       exact this e N hp
      | inl mp=>
       refine⟨m,vF A,vF E,zV.1 M,fun k T=>?_,fun j Q=>jHf (ky:=ky) (by rw[N];rfl) Q⟩
       obtain⟨q,B⟩:=jHc (ns:=szA h o t G P D S O U C st V) (F:=F) (s:=(0,true)) (by rw[K];rfl) T
       rw[es]at q;exact⟨gA q,B⟩
def oPc(j:TF Int):List T→DT (T×Bool)
 | [.ag [.ls .a (.int .i64) h,.ls .a (.int .i64) o,.ls .a (.int .i64) t,.ls .a (.prod (.int .u8) (.prod (.int .i64) (.int .i64))) G,.v (.int .i64 P),.v (.int .i64 D),.v (.int .i64 S),.ls .a (.prod (.int .i64) zL) O,.ls .a (.prod (.int .i64) zL) U,.v (.bool e),.ls .a .lim C,.ls .a .lim f,.v (.bool z),.ls .a .lim sl,.ls .a .lim A,.v (.bool k),.ls .a .lim q,.ls .a .lim y,.v (.int .i64 Z),.ls .a (.list (.int .i64)) F,.ls .a (.list (.int .i64)) I]]=>grd (Nat.blt F.length 9223372036854775807) (.ret (.v (.int .i64 (j h o t G P D S O U ⟨e,C,f⟩ ⟨z,sl,A⟩ ⟨k,q,y⟩ Z F I)),true))
 | _=> .no
abbrev pcA(h o t:List Int)(G:List Bd)(P D S:Int)(O U:List Nz)(C st V:Raw)(Z:Int)(F I:List (List Int)):Int:=pcE kyF h o t G P D S O U C st V Z F I
theorem jCx:wC Tryz.prog (OPc kyF szA dcA):=zS (zS jZ (jI kKy)) (jI kSz)
theorem jCp:wC Tryz.prog (OKy kyF):=zS jZ (jI kKy)
theorem jBp:vJ Tryz.prog (LPc kyF):=jP (jP qA (kM yL jCp jBo 60) qWf (jAb kyF)) qRt qWd qZz
theorem kPc:∀e j f,(oPc pcA e).run=some (j,f)→∀k,KnP Tryz.prog k 61 e j f:=by
 intro e j f hh k;unfold oPc at hh;split at hh
 ·rename_i h o t G P D S O U q C y E sl J z A B Z F I;obtain⟨K,M⟩:=zT hh;cases M;exact yN (cz:=[.ag (tbC h o t G P D S O U ⟨q,C,y⟩ ⟨E,sl,J⟩ ⟨z,A,B⟩ Z F I)]) yL jCx jBp (jDk kyF h o t G P D S O U ⟨q,C,y⟩ ⟨E,sl,J⟩ ⟨z,A,B⟩ Z F I (jV K)) rfl k
 ·cases hh
def iSh(c:List Int)(x:Int)(e:List Int)(n i:Nat):Hs:=⟨[.ls .a nT c,vi x,.ls .a nT e,vn n,vn i],[],[[]]⟩
def Lsh:Lp:=⟨1,
 ⟨[.h,.h,.u,.u,.t (.op 0 0),.t (.fn 229 [.op 0 0])]++(us' 16++([.h,.h,.h]++(us' 41))),[.r [.t (.v (.slice none 0 0))] 209]⟩,
 ⟨us' 4++([.t (.op 0 0)]++(us' 61)),[.r [.a .a nzT 212] 209]⟩,
 ⟨us' 4++([.h]++(us' 61)),[.g]⟩⟩
abbrev qTj:Code:=lpc Tryz.prog 158 [false,true,false,true,true,true,false,true]
theorem qWi:cAt Tryz.prog 158 [false,true,false,true,true,true,false,true]=some (.loop qTj):=by kernel_rfl
abbrev zXc(f:Od)(e:Lo):Hs→Option (Hs⊕(Ex×Hs)):=Lsh.stp (evD Tryz.prog f e 60) 158 [false,true,false,true,true,true,false,true] qTj
def qKk(g:Int→Int→Raw):List Ar→DT Rs
 | [.i n,.i m]=>grd ((rO n&&rO m)&&nz m) (.ret (.tup [.r (g n m),.i 0]))
 | _=> .no
abbrev OOf(of_:Int→Int→Raw):Od:=odT [(126,kcT (qKk of_) true)]
theorem sSh(of_:Int→Int→Raw)(c:List Int)(x:Int)(e:List Int)(n i:Nat):zXc (OOf of_) (loT []) (iSh c x e n i)=bif ilt (.ofNat i) (.ofNat n)then gd (Nat.blt i e.length) (bif ieq x (nth nT.zero e i)then some (.inr (.x 0,⟨[],[.ls .a nzT [(.ofNat i,(of_ 1 1).1,(of_ 1 1).2,(of_ 1 1).3)]],[[]]⟩))else(bif ilt x (nth nT.zero e i)then gd (inW (pr i)) (gd (nng (pr i)) (gd (Nat.blt ((pr i).toNat) c.length) (gd (inW (pr i)) (gd (inW (Int.sub (nth nT.zero e i) x)) (gd (inW (Int.sub (nth nT.zero e i) (nth nT.zero c ((pr i).toNat)))) (gd (((rO (Int.sub (nth nT.zero e i) x))&&(rO (Int.sub (nth nT.zero e i) (nth nT.zero c ((pr i).toNat)))))&&(nz (Int.sub (nth nT.zero e i) (nth nT.zero c ((pr i).toNat))))) (gd (inW (x.sub (nth nT.zero c ((pr i).toNat)))) (gd (inW (Int.sub (nth nT.zero e i) (nth nT.zero c ((pr i).toNat)))) (gd (((rO (x.sub (nth nT.zero c ((pr i).toNat))))&&(rO (Int.sub (nth nT.zero e i) (nth nT.zero c ((pr i).toNat)))))&&(nz (Int.sub (nth nT.zero e i) (nth nT.zero c ((pr i).toNat))))) (some (.inr (.x 0,⟨[],[.ls .a nzT [(.ofNat i,(of_ (x.sub (nth nT.zero c ((pr i).toNat))) (Int.sub (nth nT.zero e i) (nth nT.zero c ((pr i).toNat)))).1,(of_ (x.sub (nth nT.zero c ((pr i).toNat))) (Int.sub (nth nT.zero e i) (nth nT.zero c ((pr i).toNat)))).2,(of_ (x.sub (nth nT.zero c ((pr i).toNat))) (Int.sub (nth nT.zero e i) (nth nT.zero c ((pr i).toNat)))).3),(pr i,(of_ (Int.sub (nth nT.zero e i) x) (Int.sub (nth nT.zero e i) (nth nT.zero c ((pr i).toNat)))).1,(of_ (Int.sub (nth nT.zero e i) x) (Int.sub (nth nT.zero e i) (nth nT.zero c ((pr i).toNat)))).2,(of_ (Int.sub (nth nT.zero e i) x) (Int.sub (nth nT.zero e i) (nth nT.zero c ((pr i).toNat)))).3)]],[[]]⟩))))))))))))else nx i (.inl (iSh c x e n (i+1)))))else some (.inr (.x 0,⟨[],[.ls .a nzT []],[[]]⟩)):=by kernel_rfl
def gSh(c:List Int)(x:Int)(i:Nat)(_:Unit):Unit⊕Option (Nat×Bool):=bif ieq x (nI c i)then .inr (some (i,true))else(bif ilt x (nI c i)then .inr (some (i,false))else .inl ())
def sF(c:List Int)(x:Int):Option (Nat×Bool):=fol (gSh c x) (fun _=>none) c.length 0 ()
section
variable (of_:Int→Int→Raw)
def zTh(i:Nat):Nz:=(.ofNat i,toT (of_ 1 1))
def qLb(c:List Int)(x:Int)(i:Nat):Nz:=(.ofNat i,toT (of_ (Int.sub x (nI c (i-1))) (Int.sub (nI c i) (nI c (i-1)))))
def qLc(c:List Int)(x:Int)(i:Nat):Nz:=(.ofNat (i-1),toT (of_ (Int.sub (nI c i) x) (Int.sub (nI c i) (nI c (i-1)))))
def qUx(c:List Int)(x:Int):Option (Nat×Bool)→Ex×Hs
 | none=>(.x 0,⟨[],[.ls .a nzT []],[[]]⟩)
 | some (i,true)=>(.x 0,⟨[],[.ls .a nzT [zTh of_ i]],[[]]⟩)
 | some (i,false)=>(.x 0,⟨[],[.ls .a nzT [qLb of_ c x i,qLc of_ c x i]],[[]]⟩)
end
theorem zBp{v:Int}(h:0≤v)(e:v≤4611686018427387904):rO v=true:=by
 obtain⟨m,rfl⟩:=jj h;exact yJ (show m≤9223372036854775807 by omega)
theorem jHa{v:Int}(h:0<v):nz v=true:=by
 cases v with
 | ofNat m=>cases m with
  | zero=>exact absurd h (d3 _)
  | succ m=>rfl
 | negSucc m=>rfl
def shG(c:List Int)(x:Int):Bool:=!c1F c c&&(Nat.ble 1 c.length&&(Nat.ble c.length 32&&(!ilt x (nI c 0)&&!ilt (.ofNat 1073741824) x)))
theorem lpSh(of_:Int→Int→Raw){c:List Int}{x:Int}(f:shG c x=true):lpF (zXc (OOf of_) (loT [])) c.length (iSh c x c c.length 0)=some (qUx of_ c x (sF c x)):=by
 simp only[shG,zd,qp,qn]at f;obtain⟨z,h2,h3,A,B⟩:=f;have A:=vF A;have B:x≤1073741824:=vF B;exact jM (st:=zXc (OOf of_) (loT [])) (iv:=fun i(_:Unit)=>iSh c x c c.length i) (g:=gSh c x) (d:=fun _=>none) (out:=qUx of_ c x) (n:=c.length) (fun i _=>0<i→nI c (i-1)<x)
  (fun i _ q E=>by
   rw[sSh];show(bif Nat.blt i c.length then _ else _)=_;unfold gSh;rw[zP q,ze];simp only[gd,ze,xC (show i+1<9223372036854775808 by omega)]
   cases j:ieq x (nI c i)with
   | true=>rfl
   | false=>
    cases k:ilt x (nI c i)with
    | false=>rfl
    | true=>
     have J:=xV.1 k;cases i with
     | zero=>exact absurd J (by omega)
     | succ i=>
      have G:=E (uo i);rw[x9]at G;obtain⟨b1,b2,_⟩:=zGu z q;obtain⟨T,X,_⟩:=zGu z (show i<c.length by omega)
      have N:(Int.ofNat i).toNat=i:=rfl;have K:0<Int.sub (nI c (i+1)) x:=show(0:Int)<nI c (i+1)-x by omega
      have s2:Int.sub (nI c (i+1)) x≤2147483648:=show nI c (i+1)-x≤2147483648 by omega
      have y:0<Int.sub (nI c (i+1)) (nI c i):=show(0:Int)<nI c (i+1)-nI c i by omega
      have s4:Int.sub (nI c (i+1)) (nI c i)≤2147483648:=show nI c (i+1)-nI c i≤2147483648 by omega
      have M:0<Int.sub x (nI c i):=show(0:Int)<x-nI c i by omega
      have s6:Int.sub x (nI c i)≤2147483648:=show x-nI c i≤2147483648 by omega
      have Q:nI c i=nth nT.zero c i:=rfl;have R:nI c (i+1)=nth nT.zero c (i+1):=rfl;rw[prS,N,←Q,←R,yV (show i<9223372036854775808 by omega)]
      simp only[nng,zP (show i<c.length by omega),ze,zDi (yb K) (by omega),zDi (yb y) (by omega),zDi (yb M) (by omega),zBp (yb K) (by omega),zBp (yb y) (by omega),zBp (yb M) (by omega),jHa y,q9]
      rfl)
  (fun i _ _ q E f _=>by
   unfold gSh at f;cases j:ieq x (nI c i)with
   | true=>rw[j]at f;cases f
   | false=>
    cases k:ilt x (nI c i)with
    | true=>rw[j,k]at f;cases f
    | false=>
     have J:=vF k;have G:x≠nI c i:=fun e=>by rw[yS e]at j;cases j
     rw[x9];omega)
  (fun _ _=>by rw[sSh];show(bif Nat.blt c.length c.length then _ else _)=_;rw[yC (z6 _),zf];rfl) c.length 0 () (by omega) (fun h=>absurd h (d4 0))
def isF:Option (Nat×Bool)→Bool
 | none=>false
 | some _=>true
def exF:Option (Nat×Bool)→Bool
 | none=>false
 | some s=>s.2
def zHk:Option (Nat×Bool)→Nat
 | none=>0
 | some s=>s.1
def hSh(of_:Int→Int→Raw):Hs→DT (Ex×Hs)
 | ⟨[.ls .a (.int .i64) c,.v (.int .i64 x),.ls .a (.int .i64) e,.v (.int .i64 (.ofNat n)),.v (.int .i64 (.ofNat 0))],[],[[]]⟩=>grd (decide (c=e)&&(Nat.beq n e.length&&shG c x)) (.ite (isF (sF c x)) (.ite (exF (sF c x)) (.ret (.x 0,⟨[],[.ls .a nzT [zTh of_ (zHk (sF c x))]],[[]]⟩)) (.ret (.x 0,⟨[],[.ls .a nzT [qLb of_ c x (zHk (sF c x)),qLc of_ c x (zHk (sF c x))]],[[]]⟩))) (.ret (.x 0,⟨[],[.ls .a nzT []],[[]]⟩)))
 | _=> .no
theorem jAd(of_:Int→Int→Raw):∀q y,(hSh of_ q).run=some y→∃n,It (zXc (OOf of_) (loT [])) n q y:=fun q y hh=>by
 unfold hSh at hh;split at hh
 ·rename_i c x j n;obtain⟨f,e⟩:=zT hh;simp only[zd]at f;obtain⟨g1,g2,g3⟩:=f;obtain rfl:=qu g1;obtain rfl:=zY g2;have:=xM _ _ (lpSh of_ g3);cases hb:sF c x with
  | none=>rw[hb]at e this;cases e;exact this
  | some s=>
   obtain⟨i,b⟩:=s;cases b<;>rw[hb]at e this<;>cases e<;>exact this
 ·cases hh
abbrev LSh(of_:Int→Int→Raw):Lo:=loT [(158,[false,true,false,true,true,true,false,true],Lsh.row (hSh of_))]
abbrev clX(c:List Int)(x:Int):Int:=if(if nI c (pr c.length).toNat<x then nI c (pr c.length).toNat else x)>nI c 0 then(if nI c (pr c.length).toNat<x then nI c (pr c.length).toNat else x)else nI c 0
theorem eSh(of_:Int→Int→Raw)(c:List Int)(x:Int):((qF Tryz.prog (evD Tryz.prog (OOf of_) (LSh of_) 60) 158 [.ls .a nT c,vi x] []).bind qJ).run=gd (Nat.blt 0 c.length) (gd (inW (pr c.length)) (gd (nng (pr c.length)) (gd (Nat.blt (pr c.length).toNat c.length) (gd (decide (c=c)&&(Nat.beq c.length c.length&&shG c (clX c x))) (bif isF (sF c (clX c x))then(bif exF (sF c (clX c x))then some (.ls .a nzT [zTh of_ (zHk (sF c (clX c x)))],false)else some (.ls .a nzT [qLc of_ c (clX c x) (zHk (sF c (clX c x))),qLb of_ c (clX c x) (zHk (sF c (clX c x)))],false))else some (.v (.slice none 0 0),true)))))):=by kernel_rfl
def fM(c:List Int):Bool:=!c1F c c&&(Nat.ble 1 c.length&&Nat.ble c.length 32)
theorem jGf{c:List Int}{x:Int}:nI c 0≤clX c x:=by
 unfold clX;by_cases e:nI c (pr c.length).toNat<x
 ·simp only[qj e];split<;>omega
 ·simp only[ql e];split<;>omega
theorem jEq{c:List Int}{x:Int}(h:fM c=true):shG c (clX c x)=true:=by
 simp only[fM,zd,qp,qn]at h;obtain⟨f,j,k⟩:=h;obtain⟨m,hm⟩:∃m,c.length=m+1:=⟨c.length-1,by omega⟩
 have e:(pr c.length).toNat=m:=by rw[hm,prS];rfl
 obtain⟨_,y,_⟩:=zGu f (show m<c.length by omega)
 obtain⟨_,z,_⟩:=zGu f (show 0<c.length by omega)
 have q:clX c x≤1073741824:=by
  unfold clX;rw[e];by_cases f:nI c m<x
  ·simp only[qj f];split<;>omega
  ·simp only[ql f];split<;>omega
 simp only[shG,zd,qn];exact⟨f,yJ j,yJ k,zYe jGf,zYe (show clX c x≤1073741824 from q)⟩
section
variable (of_:Int→Int→Raw)
def oSh:List T→DT (T×Bool)
 | [.ls .a (.int .i64) c,.v (.int .i64 x)]=>grd (fM c) (.ite (isF (sF c (clX c x))) (.ite (exF (sF c (clX c x))) (.ret (.ls .a nzT [zTh of_ (zHk (sF c (clX c x)))],false)) (.ret (.ls .a nzT [qLc of_ c (clX c x) (zHk (sF c (clX c x))),qLb of_ c (clX c x) (zHk (sF c (clX c x)))],false))) (.ret (.ls .a nzT [],false)))
 | _=> .no
end
theorem jCn(g:Int→Int→Raw)(e:List Ar):(qKk g e).run=pII g e:=by
 unfold qKk pII;split
 ·rename_i n m;show(bif(rO n&&rO m)&&nz m then _ else _)=_;rfl
 ·rename_i h;split
  ·rename_i n m;exact absurd rfl (h n m)
  ·rfl
abbrev ofA(n m:Int):Raw:=Raw.of (mkRat (sgn (!(decide (n<0)==decide (m<0))) n.natAbs) m.natAbs)
theorem kOfT:KC Tryz.prog 126 (fun f=>(qKk ofA f).run) true:=by
 have e:(fun f=>(qKk ofA f).run)=pII ofA:=funext fun f=>jCn ofA f;rw[e];exact kOf
theorem zVu:wC Tryz.prog (OOf ofA):=zS jZ fun e j f h k=>zVh kOfT e j f h k
theorem qIe:vJ Tryz.prog (LSh ofA):=jP qA (kM yL zVu qA 60) qWi (jAd ofA)
theorem kSh:∀j E A,(oSh ofA j).run=some (E,A)→∀k,KnP Tryz.prog k 158 j E A:=by
 intro j E A hh k;unfold oSh at hh;split at hh
 ·rename_i c x;obtain⟨y,f⟩:=zT hh;have q:=eSh ofA c x;have z:=y;simp only[fM,zd,qp,qn]at y;obtain⟨_,g2,g3⟩:=y;obtain⟨m,hm⟩:∃m,c.length=m+1:=⟨c.length-1,by omega⟩
  have e:pr c.length= .ofNat m:=by rw[hm,prS]
  have K:(Int.ofNat m).toNat=m:=rfl;have M:nng (.ofNat m)=true:=rfl;rw[jEq z,e,M,K,yV (show m<9223372036854775808 by omega)]at q
  simp only[gd,zP (show 0<c.length by omega),zP (show m<c.length by omega),jL,decide_true,q9,ze]at q
  simp only[DT.run]at f;cases G:isF (sF c (clX c x))with
  | false=>
   rw[G]at q f;cases f;exact((yN (cz:=[.ls .a nT c,vi x]) yL zVu qIe q rfl k).old).res fun B r v h=>zDw h
  | true=>
   rw[G]at q f;cases J:exF (sF c (clX c x))<;>rw[J]at q f<;>cases f<;>exact yN (cz:=[.ls .a nT c,vi x]) yL zVu qIe q rfl k
 ·cases hh
theorem qRq{c:List Int}{m:Nat}(hm:c.length=m+1):(pr c.length).toNat=m:=by rw[hm,prS];rfl
theorem zZx{c:List Int}{x:Int}(h:fM c=true):isF (sF c (clX c x))=true:=by
 have K:=h;simp only[fM,zd,qp,qn]at h;obtain⟨A,N,Q⟩:=h;cases G:sF c (clX c x)with
 | some s=>rfl
 | none=>
  exfalso;obtain⟨m,hm⟩:∃m,c.length=m+1:=⟨c.length-1,by omega⟩
  have H:=zBh (g:=gSh c (clX c x)) (d:=none) (fun i y j e=>by
   unfold gSh at j;cases f:ieq (clX c x) (nI c i)<;>rw[f]at j
   ·cases q:ilt (clX c x) (nI c i)<;>rw[q]at j<;>cases j;cases e
   ·cases j;cases e) c.length 0 G m (qq _) (by omega)
  have k:∀i,i<c.length→nI c 0≤nI c i:=fun i=>by
   induction i with
   | zero=>intro _;exact ki _
   | succ i J=>
    intro B;have:=(zGu A B).2.2 (uo i);rw[x9]at this;have:=J (by omega)
    omega
  have E:clX c x≤nI c m:=by
   have M:=k m (by omega)
   unfold clX;rw[qRq hm];by_cases z:nI c m<x
   ·simp only[qj z];split<;>omega
   ·simp only[ql z];split<;>omega
  unfold gSh at H;cases f:ieq (clX c x) (nI c m)with
  | true=>rw[f]at H;cases H
  | false=>
   cases q:ilt (clX c x) (nI c m)with
   | true=>rw[f,q]at H;cases H
   | false=>
    have:=vF q;have R:clX c x≠nI c m:=fun e=>by rw[yS e]at f;cases f
    omega
section
variable (of_:Int→Int→Raw)
abbrev ixS(c:List Int)(x:Int):Nat:=zHk (sF c (clX c x))
abbrev zGx(c:List Int)(x:Int):Bool:=exF (sF c (clX c x))
abbrev qRz(c:List Int)(x:Int):Nz:=zTh of_ (ixS c x)
abbrev sLo(c:List Int)(x:Int):Nz:=qLc of_ c (clX c x) (ixS c x)
abbrev sHi(c:List Int)(x:Int):Nz:=qLb of_ c (clX c x) (ixS c x)
def jCj:List T→DT (T×Bool)
 | [.ls .a (.int .i64) c,.v (.int .i64 x)]=>grd (fM c) (.ite (zGx c x) (.ret (.ls .a nzT [qRz of_ c x],false)) (.ret (.ls .a nzT [sLo of_ c x,sHi of_ c x],false)))
 | _=> .no
end
theorem kSh2:∀e j f,(jCj ofA e).run=some (j,f)→∀k,KnP Tryz.prog k 158 e j f:=by
 intro e j f hh k;refine kSh e j f ?_ k;unfold jCj at hh;unfold oSh;split at hh
 ·rename_i c x;obtain⟨q,y⟩:=zT hh;simp only[grd,DT.run,q,ze,zZx q];exact y
 ·cases hh
def jCi(ic:List (List Int)→Int):List T→DT (T×Bool)
 | [.ls .a (.list (.int .i64)) g]=> .ret (.v (.int .i64 (ic g)),true)
 | _=> .no
abbrev OW(of_:Int→Int→Raw)(mu:Raw→Raw→Raw)(me:Raw→Raw→Int)(fr:Int→Raw)(ic:List (List Int)→Int):Od:=odT ((158,odR [.list nT,nT] (jCj of_))::(157,odR [.list (.list nT)] (jCi ic))::[(49,kcD (pRR fun a b=>some (mu a b,me a b)) true),(47,kcD (pI fr) true)])
section
variable (of_:Int→Int→Raw)(mu:Raw→Raw→Raw)(me:Raw→Raw→Int)(fr:Int→Raw)(ic:List (List Int)→Int)
def wN(c:List Int)(y s:Nz):Nz:=(wq (Int.add (Int.mul y.1 (.ofNat c.length)) s.1),toT (mu (rw' y.2) (rw' s.2)))
def zFc(c:List Int)(x:Int):List Nz→List Nz→(List Nz→Option (T×Bool))→Option (T×Bool)
 | [],e,K=>K e.reverse
 | y::l,e,K=>gd (fM c) (bif zGx c x then gd (inW (Int.mul y.1 (.ofNat c.length))) (zFc c x l (wN mu c y (qRz of_ c x)::e) K)else gd (inW (Int.mul y.1 (.ofNat c.length))) (gd (inW (Int.mul y.1 (.ofNat c.length))) (zFc c x l (wN mu c y (sHi of_ c x)::wN mu c y (sLo of_ c x)::e) K)))
def cN(y:Nz):List T:=[vi y.1,.v (.bool y.2.1),.ls .a .lim y.2.2.1,.ls .a .lim y.2.2.2]
def flN:List Nz→List T
 | []=>[]
 | y::l=>cN y++flN l
set_option maxHeartbeats 0 in
theorem eWg(h o t:List Int)(f j k:Int):((qF Tryz.prog (evD Tryz.prog (OW of_ mu me fr ic) (loT []) 60) 78 [.ls .a (.list nT) [h,o,t],.ls .a nT [f,j,k]] []).bind qJ).run=bif !ieq (ic [h,o,t]) 0 then some (.tu [.v (.slice none 0 0),vi (ic [h,o,t])],true)else zFc of_ mu h f [(0,toT (fr 1))] [] fun q=>zFc of_ mu o j q [] fun y=>zFc of_ mu t k y [] fun e=>some (.tu [.sl (flN e) e.length,vn 0],true):=by kernel_rfl
end
theorem qVe{c:List Int}{x:Int}:∀(k i:Nat){s:Nat×Bool},fol (gSh c x) (fun _=>none) k i ()=some s→i≤s.1∧s.1<i+k
 | 0,i,s,h=>by cases h
 | k+1,i,s,h=>by
  simp only[fol]at h;cases H:gSh c x i ()with
  | inl y=>
   rw[H]at h;have:=qVe k (i+1) h;omega
  | inr y=>
   rw[H]at h;unfold gSh at H;cases e:ieq x (nI c i)<;>rw[e]at H
   ·cases f:ilt x (nI c i)<;>rw[f]at H<;>cases H;cases h;exact⟨z6 _,by show i<i+(k+1);omega⟩
   ·cases H;cases h;exact⟨z6 _,by show i<i+(k+1);omega⟩
theorem jAs{c:List Int}{x:Int}(h:fM c=true):ixS c x<c.length:=by
 have e:=zZx (x:=x) h;cases H:sF c (clX c x)with
 | none=>rw[H]at e;cases e
 | some s=>
  have:=qVe c.length 0 H;show zHk (sF c (clX c x))<_;rw[H];show s.1<_;omega
section
variable (of_:Int→Int→Raw)(mu:Raw→Raw→Raw)(me:Raw→Raw→Int)(fr:Int→Raw)(ic:List (List Int)→Int)
def w1(c:List Int)(x:Int)(y:Nz):List Nz:=bif zGx c x then[wN mu c y (qRz of_ c x)]else[wN mu c y (sLo of_ c x),wN mu c y (sHi of_ c x)]
def wF(c:List Int)(x:Int):List Nz→List Nz
 | []=>[]
 | y::l=>w1 of_ mu c x y++wF c x l
def inV(M:Nat)(l:List Nz):Prop:=∀y∈l,0≤y.1∧y.1<M
theorem qMb{c:List Int}{M:Nat}{y s:Nz}(G:c.length≤32)(K:M≤1048576)(B:0≤y.1∧y.1<M)(A:0≤s.1∧s.1<c.length):inW (Int.mul y.1 (.ofNat c.length))=true∧0≤(wN mu c y s).1∧(wN mu c y s).1<((M*c.length:Nat):Int):=by
 obtain⟨v,hv⟩:∃v:Nat,y.1=(v:Int):=jj B.1;obtain⟨j,z⟩:∃j:Nat,s.1=(j:Int):=jj A.1;have k:v<M:=by
  have f:=B.2;rw[hv]at f;exact ud.1 f
 have J:j<c.length:=by
  have f:=A.2;rw[z]at f;exact ud.1 f
 have N:v*c.length≤1048576*32:=vp (by omega) G
 have Q:v*c.length+c.length≤M*c.length:=by
  rw[←yx];exact qw _ k
 have e:Int.mul y.1 (.ofNat c.length)=((v*c.length:Nat):Int):=by rw[hv];rfl
 have q:(wN mu c y s).1=((v*c.length+j:Nat):Int):=by
  show wq (Int.add (Int.mul y.1 (.ofNat c.length)) s.1)=_;have E:Int.add (Int.mul y.1 (.ofNat c.length)) s.1=((v*c.length+j:Nat):Int):=by rw[e,z];rfl
  rw[E];exact qVn (yV (show v*c.length+j<9223372036854775808 by omega))
 refine⟨?_,?_,?_⟩
 ·rw[e];exact yV (show v*c.length<9223372036854775808 by omega)
 ·rw[q];exact j7 _
 ·rw[q];exact ud.2 (by omega)
theorem qVm{c:List Int}{x:Int}{M:Nat}{y:Nz}(A:fM c=true)(j:M≤1048576)(q:0≤y.1∧y.1<M):inW (Int.mul y.1 (.ofNat c.length))=true∧inV (M*c.length) (w1 of_ mu c x y):=by
 have f:=A;simp only[fM,zd,qp]at f;have B:=jAs (x:=x) A;have k:=f.2.2;have a:=qMb (mu:=mu) (s:=qRz of_ c x) k j q ⟨j7 _,show((ixS c x:Nat):Int)<(c.length:Int)by omega⟩
 have b:=qMb (mu:=mu) (s:=sLo of_ c x) k j q ⟨j7 _,show((ixS c x-1:Nat):Int)<(c.length:Int)by omega⟩
 have d:=qMb (mu:=mu) (s:=sHi of_ c x) k j q ⟨j7 _,show((ixS c x:Nat):Int)<(c.length:Int)by omega⟩
 refine⟨a.1,fun z e=>?_⟩;unfold w1 at e;cases he:zGx c x<;>rw[he]at e
 ·rcases qS.1 e with rfl | e
  ·exact b.2
  ·rcases qS.1 e with rfl | e
   ·exact d.2
   ·cases e
 ·rcases qS.1 e with rfl | e
  ·exact a.2
  ·cases e
theorem zMo{c:List Int}{x:Int}{M:Nat}(j:fM c=true)(f:M≤1048576):∀{l:List Nz},inV M l→inV (M*c.length) (wF of_ mu c x l)
 | [],_,z,e=>by cases e
 | y::l,h,z,e=>by
  rcases wi.1 e with e | e
  ·exact(qVm of_ mu j f (h y zq)).2 z e
  ·exact zMo j f (fun y k=>h y (zu _ k)) z e
theorem zCt{c:List Int}{x:Int}{M:Nat}(f:fM c=true)(k:M≤1048576)(K:List Nz→Option (T×Bool)):∀(l e:List Nz),inV M l→zFc of_ mu c x l e K=K (e.reverse++wF of_ mu c x l)
 | [],e,_=>by simp only[zFc,wF,jw]
 | y::l,e,h=>by
  have q:=(qVm of_ mu (x:=x) f k (h y zq)).1;have j:=fun a=>zCt (x:=x) f k K l a (fun y z=>h y (zu _ z));simp only[zFc,wF,w1,gd,f,ze,q];cases zGx c x with
  | true=>simp only[ze];rw[j];simp
  | false=>simp only[zf];rw[j];simp
def wgF(h o t:List Int)(e f j:Int):List Nz:=wF of_ mu t j (wF of_ mu o f (wF of_ mu h e [(0,toT (fr 1))]))
def wgR(h o t:List Int)(e f j:Int):List Nz:=bif ieq (ic [h,o,t]) 0 then wgF of_ mu fr h o t e f j else[]
end
theorem zNt{g:List (List Int)}(q:Grid g){k:Nat}(y:k<g.length):fM (gI g k)=true:=by
 obtain⟨e,f,j⟩:=q.cut k y;simp only[fM,j,jr,kx,zd];exact⟨yJ e,yJ f⟩
theorem zRf{h o t:List Int}(e:icE [h,o,t]=0):fM h=true∧fM o=true∧fM t=true:=by
 have g:=zYd e;exact⟨zNt g (show 0<3 by omega),zNt g (show 1<3 by omega),zNt g (show 2<3 by omega)⟩
theorem zVt(fr:Int→Raw):inV 1 [((0:Int),toT (fr 1))]:=fun z e=>by
 rcases qS.1 e with rfl | e
 ·exact⟨ki _,show(0:Int)<1 by decide⟩
 ·cases e
theorem jHs(of_:Int→Int→Raw)(mu:Raw→Raw→Raw)(fr:Int→Raw){h o t:List Int}{f j k:Int}(e:icE [h,o,t]=0):inV (h.length*o.length*t.length) (wgF of_ mu fr h o t f j k):=by
 obtain⟨z,A,B⟩:=zRf e;obtain⟨⟨_,q⟩,⟨_,y⟩,⟨_,E⟩⟩:=zYc e;have G:h.length*o.length≤32*32:=vp q y;have a:=zMo of_ mu (x:=f) z (by decide) (zVt fr)
 have b:=zMo of_ mu (x:=j) A (show 1*h.length≤1048576 by omega) a
 rw[vx]at b;exact zMo of_ mu (x:=k) B (show h.length*o.length≤1048576 by omega) b
theorem jFm(of_:Int→Int→Raw)(mu:Raw→Raw→Raw)(me:Raw→Raw→Int)(fr:Int→Raw)(h o t:List Int)(f j q:Int):((qF Tryz.prog (evD Tryz.prog (OW of_ mu me fr icE) (loT []) 60) 78 [.ls .a (.list nT) [h,o,t],.ls .a nT [f,j,q]] []).bind qJ).run=bif ieq (icE [h,o,t]) 0 then some (.tu [.sl (flN (wgF of_ mu fr h o t f j q)) (wgF of_ mu fr h o t f j q).length,vi (icE [h,o,t])],true)else some (.tu [.v (.slice none 0 0),vi (icE [h,o,t])],true):=by
 rw[eWg];cases e:ieq (icE [h,o,t]) 0 with
 | false=>rfl
 | true=>
  have k:=zV.1 e;obtain⟨y,z,E⟩:=zRf k;obtain⟨⟨_,A⟩,⟨_,B⟩,⟨_,G⟩⟩:=zYc k;have J:h.length*o.length≤32*32:=vp A B;have a:=zMo of_ mu (x:=f) y (by decide) (zVt fr)
  have b:=zMo of_ mu (x:=j) z (show 1*h.length≤1048576 by omega) a
  rw[vx]at b;simp only[qb,zf,ze];rw[zCt of_ mu y (by decide) _ _ _ (zVt fr)]
  simp only[y3,j3];rw[zCt of_ mu z (show 1*h.length≤1048576 by omega) _ _ _ a]
  simp only[y3,j3];rw[zCt of_ mu E (show h.length*o.length≤1048576 by omega) _ _ _ b,k]
  rfl
theorem qAd{B:Bm}{r:Rd}{A:Ty}(Q:fH A=true){l:List A.den}{v:Value}(M:Rep B r (.sl (yA .a A l) l.length) v):Rep B r (.ls .a A l) v:=by
 obtain⟨ad,c,rfl,R,hh⟩:=M.slI;have hm:=M.slB;rcases hh with⟨K,_⟩ | ⟨b,o,rfl,E⟩
 ·have N:l=[]:=by
   cases l with
   | nil=>rfl
   | cons x l=>first | exact absurd K (by simp) | (exfalso;simp at K)
  subst N;exact .ls ⟨ad,c,rfl,qq _,hm,.inl rfl⟩
 ·obtain⟨fv,g1,g2⟩:=E.fun;have z:zO B r (yA .a A l) ((List.range (yA .a A l).length).map fv):=zO.of (by simp) fun j t v e J=>by
   rw[qt]at J;obtain⟨T,y,rfl⟩:=j8.1 J;obtain⟨q,f⟩:=zh.1 y;rw[uF]at f;subst f;exact g2 _ _ e
  have k:zO B r (qP .a A l.reverse) ((List.range (yA .a A l).length).map fv):=by rw[mW];exact z
  have:=zGk.of_flat (g:= .a) (A:=A) (x:=l.reverse) (b:=b) (o:=o) (c:=c) (p:=fun b=>Bm.In B .a b) (fun A l v h=>by cases h with | ls h=>exact h) Q k (fun j v hv=>by
   rw[qt]at hv;obtain⟨T,y,rfl⟩:=j8.1 hv;obtain⟨q,f⟩:=zh.1 y;rw[uF]at f;subst f;have G:j<(yA .a A l).length:=by simpa using q
   exact g1 j (yA .a A l)[j] (by simp[G])) Bm.In.any (by rw[xg];exact R) hm
  rw[kf]at this;exact .ls ⟨some ⟨b,o,none⟩,c,rfl,this⟩
theorem qGp:∀l:List Nz,flN l=yA .a nzT l
 | []=>rfl
 | y::l=>by
  show cN y++flN l=zZ .a nzT y++yA .a nzT l;rw[qGp l];rfl
theorem qFl(k:Nat):∀l:List Nz,(flN l).all (clean (k+1))=true
 | []=>rfl
 | y::l=>by
  show(cN y++flN l).all (clean (k+1))=true;rw[List.all_append,qFl k l];rfl
def oWg(wg:(List Int→List Int→List Int→Int→Int→Int→List Nz))(ic:List (List Int)→Int):List T→DT (T×Bool)
 | [.ls .a (.list (.int .i64)) [h,o,t],.ls .a (.int .i64) [e,f,j]]=> .ret (.tu [.ls .a nzT (wg h o t e f j),.v (.int .i64 (ic [h,o,t]))],true)
 | _=> .no
theorem kIc':∀e j f,(jCi icE e).run=some (j,f)→∀k,KnP Tryz.prog k 157 e j f:=by
 intro e j f h k;refine kIc e j f ?_ k;unfold jCi at h;unfold oIc;split at h
 ·exact h
 ·cases h
theorem qUz:wC Tryz.prog (OW ofA muA meA frA icE):=zS (zS (zS (zS jZ fun e f j h k=>xK zRl e f h k) fun e f j h k=>xK qHp e f h k) (jI kIc')) (jI kSh2)
abbrev wgA(h o t:List Int)(e f j:Int):List Nz:=wgR ofA muA frA icE h o t e f j
theorem kWg:∀E N M,(oWg wgA icE E).run=some (N,M)→∀k,KnP Tryz.prog k 78 E N M:=by
 intro E N M hh k;unfold oWg at hh;split at hh
 ·rename_i h o t f j y;cases hh;have q:=jFm ofA muA meA frA h o t f j y;show KnP Tryz.prog k 78 _ (.tu [.ls .a nzT (wgR ofA muA frA icE h o t f j y),_]) true;unfold wgR;cases e:ieq (icE [h,o,t]) 0 with
  | false=>
   rw[e]at q;exact(yN (cz:=[.ls .a (.list nT) [h,o,t],.ls .a nT [f,j,y]]) yL qUz qA q rfl k).res fun B r v hv=>by
    obtain⟨vs,rfl,z⟩:=hv.tuI;match vs,z with
    | [a,b],⟨J,K,_⟩=>exact Rep.mkTu (vs:=[a,b]) ⟨zDw J,K,trivial⟩
  | true=>
   rw[e]at q;have G:(([.ls .a (.list nT) [h,o,t],.ls .a nT [f,j,y]]:List T).all (clean 12)&&clean 12 (.tu [.sl (flN (wgF ofA muA frA h o t f j y)) (wgF ofA muA frA h o t f j y).length,vi (icE [h,o,t])]))=true:=by
    show(true&&((flN (wgF ofA muA frA h o t f j y)).all (clean 10)&&true))=true;rw[qFl 9];rfl
   exact(yN (cz:=[.ls .a (.list nT) [h,o,t],.ls .a nT [f,j,y]]) yL qUz qA q G k).res fun B r v hv=>by
    obtain⟨vs,rfl,z⟩:=hv.tuI;match vs,z with
    | [a,b],⟨J,K,_⟩=>exact Rep.mkTu (vs:=[a,b]) ⟨qAd (A:=nzT) (by kernel_rfl) (by rw[←qGp];exact J),K,trivial⟩
 ·cases hh
abbrev tbT:Ty:= .prod (.list nT) (.prod (.list nT) (.prod (.list nT) (.prod (.list bT) (.prod nT (.prod nT (.prod nT (.prod (.list nzT) (.prod (.list nzT) (.prod zL (.prod zL (.prod zL (.prod nT (.prod (.list (.list nT)) (.list (.list nT)))))))))))))))
def exL(l:List Nz):Nat→Nat→List Nz
 | 0,_=>[]
 | m+1,i=>zI l i::exL l m (i+1)
def xQ(okP:TF Bool)(pP:TF Nat):List T→DT (T×Bool)
 | [.ag [.ls .a (.int .i64) h,.ls .a (.int .i64) o,.ls .a (.int .i64) t,.ls .a (.prod (.int .u8) (.prod (.int .i64) (.int .i64))) G,.v (.int .i64 P),.v (.int .i64 D),.v (.int .i64 S),.ls .a (.prod (.int .i64) zL) O,.ls .a (.prod (.int .i64) zL) U,.v (.bool e),.ls .a .lim C,.ls .a .lim f,.v (.bool y),.ls .a .lim sl,.ls .a .lim z,.v (.bool j),.ls .a .lim k,.ls .a .lim q,.v (.int .i64 Z),.ls .a (.list (.int .i64)) F,.ls .a (.list (.int .i64)) I]]=>grd (Nat.blt F.length 9223372036854775807) (.ite (okP h o t G P D S O U ⟨e,C,f⟩ ⟨y,sl,z⟩ ⟨j,k,q⟩ Z F I) (.ret (.v (.int .i64 (.ofNat 0)),true)) (.ret (.v (.int .i64 (.ofNat (pP h o t G P D S O U ⟨e,C,f⟩ ⟨y,sl,z⟩ ⟨j,k,q⟩ Z F I+1))),true)))
 | _=> .no
def vL(m:Nat)(wg:List Int→List Int→List Int→Int→Int→Int→List Nz):List T→DT (T×Bool)
 | [.ls .a (.list (.int .i64)) [h,o,t],.ls .a (.int .i64) [e,f,j]]=>grd (Nat.beq (wg h o t e f j).length m&&ieq (icE [h,o,t]) 0) (.ret (.tu [.ls .a nzT (exL (wg h o t e f j) m 0),.v (.int .i64 (.ofNat 0))],true))
 | _=> .no
def qH(okD:List Rt→List Rt→Bool)(dR:List Rt→List Rt→Raw)(dP:List Rt→List Rt→Nat):List T→DT (T×Bool)
 | [.ls .a (.prod .bool (.prod (.list .lim) (.list .lim))) a,.ls .a (.prod .bool (.prod (.list .lim) (.list .lim))) b]=>grd (Nat.ble a.length 100000&&Nat.ble b.length 100000) (.ite (okD a b) (.ret (.tu [.ag (rC (dR a b)),.v (.int .i64 (.ofNat 0))],true)) (.ret (.tu [.ag (rC (dR a b)),.v (.int .i64 (.ofNat (dP a b+1)))],true)))
 | _=> .no
def vH(fr:Int→Raw):List Ar→DT Rs
 | [.i n]=>grd (rO n) (.ret (.one (.r (fr n))))
 | _=> .no
def yG(zb:Raw→Bool)(okV:Raw→Raw→Bool)(vR:Raw→Raw→Raw)(vP:Raw→Raw→Nat):List Ar→DT Rs
 | [.r a,.r b]=>grd (!zb b) (.ite (okV a b) (.ret (.tup [.r (vR a b),.i (.ofNat 0)])) (.ret (.tup [.r (vR a b),.i (.ofNat (vP a b+1))])))
 | _=> .no
section
variable (okP:TF Bool)(pP:TF Nat)(wg:List Int→List Int→List Int→Int→Int→Int→List Nz)(fr:Int→Raw)(okD:List Rt→List Rt→Bool)(dR:List Rt→List Rt→Raw)(dP:List Rt→List Rt→Nat)(zb:Raw→Bool)(okV:Raw→Raw→Bool)(vR:Raw→Raw→Raw)(vP:Raw→Raw→Nat)
abbrev er(e:Nat):Option (T×Bool):=some (.tu [.v (.slice none 0 0),vn e],true)
abbrev kS(L:Int):Nat:=(Int.sub L 1).toNat
def jS(e Y:Int)(y:Nz):Int:=wq (Int.add (Int.mul y.1 e) Y)
def rS(I:List (List Int))(L e Y:Int)(y:Nz):Nat:=(nI (gI I (kS L)) (jS e Y y).toNat).toNat
def vS(F I:List (List Int))(L e Y:Int)(b:Nat)(y:Nz):Int:=nI (gI F (rS I L e Y y)) b
def scG(F I:List (List Int))(L e Y:Int)(b:Nat)(y:Nz)(K:Option (T×Bool)):Option (T×Bool):=gd (inW (Int.sub L 1)) (gd (nng (Int.sub L 1)) (gd (Nat.blt (kS L) I.length) (gd (inW (Int.mul y.1 e)) (gd (nng (jS e Y y)) (gd (Nat.blt (jS e Y y).toNat (gI I (kS L)).length) (gd (nng (nI (gI I (kS L)) (jS e Y y).toNat)) (gd (Nat.blt (rS I L e Y y) F.length) (gd (Nat.blt b (gI F (rS I L e Y y)).length) (gd (rO (vS F I L e Y b y)) K)))))))))
def qSa(F I:List (List Int))(L e Y:Int)(b:Nat):List Nz→Option (T×Bool)→Option (T×Bool)
 | [],K=>K
 | y::l,K=>scG F I L e Y b y (qSa F I L e Y b l K)
def scW:List Nz→List Rt
 | []=>[]
 | y::l=>(y.2.1,y.2.2.1,y.2.2.2)::scW l
def scV(F I:List (List Int))(L e Y:Int)(b:Nat):List Nz→List Rt
 | []=>[]
 | y::l=>toT (fr (vS F I L e Y b y))::scV F I L e Y b l
def scB(Z:Int)(F I:List (List Int))(L f Y:Int)(b:Nat)(e:List Nz)(K:Raw→Option (T×Bool)):Option (T×Bool):=qSa F I L f Y b e (bif okD (scW e) (scV fr F I L f Y b e)then gd (rO Z) (gd (!zb (fr Z)) (bif okV (dR (scW e) (scV fr F I L f Y b e)) (fr Z)then K (vR (dR (scW e) (scV fr F I L f Y b e)) (fr Z))else er (vP (dR (scW e) (scV fr F I L f Y b e)) (fr Z)+1)))else er (dP (scW e) (scV fr F I L f Y b e)+1))
def flR:List Raw→List T
 | []=>[]
 | x::l=>[.v (.bool x.neg),.ls .a .lim x.ln,.ls .a .lim x.ld]++flR l
def scL(Z:Int)(F I:List (List Int))(L f Y:Int)(j:List Nz):Nat→Nat→List Raw→Option (T×Bool)
 | 0,_,e=>some (.tu [.sl (flR e.reverse) e.length,vn 0],true)
 | k+1,b,e=>scB fr okD dR dP zb okV vR vP Z F I L f Y b j fun x=>scL Z F I L f Y j k (b+1) (x::e)
abbrev wiK(x e:Int)(E K:Option (T×Bool)):Option (T×Bool):=bif !ilt x (-e)then(bif !(!ilt e x)then E else K)else E
def scA(m e:Nat)(h o t:List Int)(G:List Bd)(P D S:Int)(O U:List Nz)(C st V:Raw)(Z:Int)(F I:List (List Int))(L H W vq Y:Int):Option (T×Bool):=gd (Nat.blt F.length 9223372036854775807) (bif okP h o t G P D S O U C st V Z F I then(bif ilt L (.ofNat 1)then er 1 else(bif ilt S L then er 1 else wiK H 100000 (er 1) (wiK W 100 (er 1) (wiK vq 100 (er 1) (bif ilt Y (.ofNat 0)then er 8 else(bif !ilt Y (.ofNat e)then er 8 else gd (Nat.beq (wg h o t H W vq).length m&&ieq (icE [h,o,t]) 0) (scL fr okD dR dP zb okV vR vP Z F I L (.ofNat e) Y (exL (wg h o t H W vq) m 0) e 0 [])))))))else er (pP h o t G P D S O U C st V Z F I+1))
end
section
variable (okP:TF Bool)(pP:TF Nat)(wg:List Int→List Int→List Int→Int→Int→Int→List Nz)(fr:Int→Raw)(okD:List Rt→List Rt→Bool)(dR:List Rt→List Rt→Raw)(dP:List Rt→List Rt→Nat)(zb:Raw→Bool)(okV:Raw→Raw→Bool)(vR:Raw→Raw→Raw)(vP:Raw→Raw→Nat)(h o t:List Int)(P D S:Int)(O U:List Nz)(C st V:Raw)(Z:Int)(F I:List (List Int))(L H W vq Y:Int)
set_option maxHeartbeats 0 in
theorem qXx(a0:Bd):((qF Tryz.prog (evD Tryz.prog (odT [(61,odR [tbT] (xQ okP pP)),(78,odR [.list (.list nT),.list nT] (vL 1 wg)),(47,kcT (vH fr) true),(70,odR [.list zL,.list zL] (qH okD dR dP)),(80,kcT (yG zb okV vR vP) true)]) (loT []) 60) 32 [.ag (tbC h o t [a0] P D S O U C st V Z F I),vi L,vi H,vi W,vi vq,vi Y] []).bind qJ).run=scA okP pP wg fr okD dR dP zb okV vR vP 1 1 h o t [a0] P D S O U C st V Z F I L H W vq Y:=by kernel_rfl
set_option maxHeartbeats 0 in
theorem qXy(a0 e:Bd):((qF Tryz.prog (evD Tryz.prog (odT [(61,odR [tbT] (xQ okP pP)),(78,odR [.list (.list nT),.list nT] (vL 1 wg)),(47,kcT (vH fr) true),(70,odR [.list zL,.list zL] (qH okD dR dP)),(80,kcT (yG zb okV vR vP) true)]) (loT []) 60) 32 [.ag (tbC h o t [a0,e] P D S O U C st V Z F I),vi L,vi H,vi W,vi vq,vi Y] []).bind qJ).run=scA okP pP wg fr okD dR dP zb okV vR vP 1 2 h o t [a0,e] P D S O U C st V Z F I L H W vq Y:=by kernel_rfl
set_option maxHeartbeats 0 in
theorem qXz(a0 e f:Bd):((qF Tryz.prog (evD Tryz.prog (odT [(61,odR [tbT] (xQ okP pP)),(78,odR [.list (.list nT),.list nT] (vL 1 wg)),(47,kcT (vH fr) true),(70,odR [.list zL,.list zL] (qH okD dR dP)),(80,kcT (yG zb okV vR vP) true)]) (loT []) 60) 32 [.ag (tbC h o t [a0,e,f] P D S O U C st V Z F I),vi L,vi H,vi W,vi vq,vi Y] []).bind qJ).run=scA okP pP wg fr okD dR dP zb okV vR vP 1 3 h o t [a0,e,f] P D S O U C st V Z F I L H W vq Y:=by kernel_rfl
set_option maxHeartbeats 0 in
theorem qYa(a0 e f j:Bd):((qF Tryz.prog (evD Tryz.prog (odT [(61,odR [tbT] (xQ okP pP)),(78,odR [.list (.list nT),.list nT] (vL 1 wg)),(47,kcT (vH fr) true),(70,odR [.list zL,.list zL] (qH okD dR dP)),(80,kcT (yG zb okV vR vP) true)]) (loT []) 60) 32 [.ag (tbC h o t [a0,e,f,j] P D S O U C st V Z F I),vi L,vi H,vi W,vi vq,vi Y] []).bind qJ).run=scA okP pP wg fr okD dR dP zb okV vR vP 1 4 h o t [a0,e,f,j] P D S O U C st V Z F I L H W vq Y:=by kernel_rfl
set_option maxHeartbeats 0 in
theorem qYb(a0 e f j k:Bd):((qF Tryz.prog (evD Tryz.prog (odT [(61,odR [tbT] (xQ okP pP)),(78,odR [.list (.list nT),.list nT] (vL 1 wg)),(47,kcT (vH fr) true),(70,odR [.list zL,.list zL] (qH okD dR dP)),(80,kcT (yG zb okV vR vP) true)]) (loT []) 60) 32 [.ag (tbC h o t [a0,e,f,j,k] P D S O U C st V Z F I),vi L,vi H,vi W,vi vq,vi Y] []).bind qJ).run=scA okP pP wg fr okD dR dP zb okV vR vP 1 5 h o t [a0,e,f,j,k] P D S O U C st V Z F I L H W vq Y:=by kernel_rfl
set_option maxHeartbeats 0 in
theorem qYc(a0 e f j k q:Bd):((qF Tryz.prog (evD Tryz.prog (odT [(61,odR [tbT] (xQ okP pP)),(78,odR [.list (.list nT),.list nT] (vL 1 wg)),(47,kcT (vH fr) true),(70,odR [.list zL,.list zL] (qH okD dR dP)),(80,kcT (yG zb okV vR vP) true)]) (loT []) 60) 32 [.ag (tbC h o t [a0,e,f,j,k,q] P D S O U C st V Z F I),vi L,vi H,vi W,vi vq,vi Y] []).bind qJ).run=scA okP pP wg fr okD dR dP zb okV vR vP 1 6 h o t [a0,e,f,j,k,q] P D S O U C st V Z F I L H W vq Y:=by kernel_rfl
end
section
variable (okP:TF Bool)(pP:TF Nat)(wg:List Int→List Int→List Int→Int→Int→Int→List Nz)(fr:Int→Raw)(okD:List Rt→List Rt→Bool)(dR:List Rt→List Rt→Raw)(dP:List Rt→List Rt→Nat)(zb:Raw→Bool)(okV:Raw→Raw→Bool)(vR:Raw→Raw→Raw)(vP:Raw→Raw→Nat)(h o t:List Int)(P D S:Int)(O U:List Nz)(C st V:Raw)(Z:Int)(F I:List (List Int))(L H W vq Y:Int)
set_option maxHeartbeats 0 in
theorem qYd(a0:Bd):((qF Tryz.prog (evD Tryz.prog (odT [(61,odR [tbT] (xQ okP pP)),(78,odR [.list (.list nT),.list nT] (vL 2 wg)),(47,kcT (vH fr) true),(70,odR [.list zL,.list zL] (qH okD dR dP)),(80,kcT (yG zb okV vR vP) true)]) (loT []) 60) 32 [.ag (tbC h o t [a0] P D S O U C st V Z F I),vi L,vi H,vi W,vi vq,vi Y] []).bind qJ).run=scA okP pP wg fr okD dR dP zb okV vR vP 2 1 h o t [a0] P D S O U C st V Z F I L H W vq Y:=by kernel_rfl
set_option maxHeartbeats 0 in
theorem qYe(a0 e:Bd):((qF Tryz.prog (evD Tryz.prog (odT [(61,odR [tbT] (xQ okP pP)),(78,odR [.list (.list nT),.list nT] (vL 2 wg)),(47,kcT (vH fr) true),(70,odR [.list zL,.list zL] (qH okD dR dP)),(80,kcT (yG zb okV vR vP) true)]) (loT []) 60) 32 [.ag (tbC h o t [a0,e] P D S O U C st V Z F I),vi L,vi H,vi W,vi vq,vi Y] []).bind qJ).run=scA okP pP wg fr okD dR dP zb okV vR vP 2 2 h o t [a0,e] P D S O U C st V Z F I L H W vq Y:=by kernel_rfl
set_option maxHeartbeats 0 in
theorem qYf(a0 e f:Bd):((qF Tryz.prog (evD Tryz.prog (odT [(61,odR [tbT] (xQ okP pP)),(78,odR [.list (.list nT),.list nT] (vL 2 wg)),(47,kcT (vH fr) true),(70,odR [.list zL,.list zL] (qH okD dR dP)),(80,kcT (yG zb okV vR vP) true)]) (loT []) 60) 32 [.ag (tbC h o t [a0,e,f] P D S O U C st V Z F I),vi L,vi H,vi W,vi vq,vi Y] []).bind qJ).run=scA okP pP wg fr okD dR dP zb okV vR vP 2 3 h o t [a0,e,f] P D S O U C st V Z F I L H W vq Y:=by kernel_rfl
set_option maxHeartbeats 0 in
theorem qYg(a0 e f j:Bd):((qF Tryz.prog (evD Tryz.prog (odT [(61,odR [tbT] (xQ okP pP)),(78,odR [.list (.list nT),.list nT] (vL 2 wg)),(47,kcT (vH fr) true),(70,odR [.list zL,.list zL] (qH okD dR dP)),(80,kcT (yG zb okV vR vP) true)]) (loT []) 60) 32 [.ag (tbC h o t [a0,e,f,j] P D S O U C st V Z F I),vi L,vi H,vi W,vi vq,vi Y] []).bind qJ).run=scA okP pP wg fr okD dR dP zb okV vR vP 2 4 h o t [a0,e,f,j] P D S O U C st V Z F I L H W vq Y:=by kernel_rfl
set_option maxHeartbeats 0 in
theorem qYh(a0 e f j k:Bd):((qF Tryz.prog (evD Tryz.prog (odT [(61,odR [tbT] (xQ okP pP)),(78,odR [.list (.list nT),.list nT] (vL 2 wg)),(47,kcT (vH fr) true),(70,odR [.list zL,.list zL] (qH okD dR dP)),(80,kcT (yG zb okV vR vP) true)]) (loT []) 60) 32 [.ag (tbC h o t [a0,e,f,j,k] P D S O U C st V Z F I),vi L,vi H,vi W,vi vq,vi Y] []).bind qJ).run=scA okP pP wg fr okD dR dP zb okV vR vP 2 5 h o t [a0,e,f,j,k] P D S O U C st V Z F I L H W vq Y:=by kernel_rfl
set_option maxHeartbeats 0 in
theorem qYi(a0 e f j k q:Bd):((qF Tryz.prog (evD Tryz.prog (odT [(61,odR [tbT] (xQ okP pP)),(78,odR [.list (.list nT),.list nT] (vL 2 wg)),(47,kcT (vH fr) true),(70,odR [.list zL,.list zL] (qH okD dR dP)),(80,kcT (yG zb okV vR vP) true)]) (loT []) 60) 32 [.ag (tbC h o t [a0,e,f,j,k,q] P D S O U C st V Z F I),vi L,vi H,vi W,vi vq,vi Y] []).bind qJ).run=scA okP pP wg fr okD dR dP zb okV vR vP 2 6 h o t [a0,e,f,j,k,q] P D S O U C st V Z F I L H W vq Y:=by kernel_rfl
end
section
variable (okP:TF Bool)(pP:TF Nat)(wg:List Int→List Int→List Int→Int→Int→Int→List Nz)(fr:Int→Raw)(okD:List Rt→List Rt→Bool)(dR:List Rt→List Rt→Raw)(dP:List Rt→List Rt→Nat)(zb:Raw→Bool)(okV:Raw→Raw→Bool)(vR:Raw→Raw→Raw)(vP:Raw→Raw→Nat)(h o t:List Int)(P D S:Int)(O U:List Nz)(C st V:Raw)(Z:Int)(F I:List (List Int))(L H W vq Y:Int)
set_option maxHeartbeats 0 in
theorem qYj(a0:Bd):((qF Tryz.prog (evD Tryz.prog (odT [(61,odR [tbT] (xQ okP pP)),(78,odR [.list (.list nT),.list nT] (vL 4 wg)),(47,kcT (vH fr) true),(70,odR [.list zL,.list zL] (qH okD dR dP)),(80,kcT (yG zb okV vR vP) true)]) (loT []) 60) 32 [.ag (tbC h o t [a0] P D S O U C st V Z F I),vi L,vi H,vi W,vi vq,vi Y] []).bind qJ).run=scA okP pP wg fr okD dR dP zb okV vR vP 4 1 h o t [a0] P D S O U C st V Z F I L H W vq Y:=by kernel_rfl
set_option maxHeartbeats 0 in
theorem qYk(a0 e:Bd):((qF Tryz.prog (evD Tryz.prog (odT [(61,odR [tbT] (xQ okP pP)),(78,odR [.list (.list nT),.list nT] (vL 4 wg)),(47,kcT (vH fr) true),(70,odR [.list zL,.list zL] (qH okD dR dP)),(80,kcT (yG zb okV vR vP) true)]) (loT []) 60) 32 [.ag (tbC h o t [a0,e] P D S O U C st V Z F I),vi L,vi H,vi W,vi vq,vi Y] []).bind qJ).run=scA okP pP wg fr okD dR dP zb okV vR vP 4 2 h o t [a0,e] P D S O U C st V Z F I L H W vq Y:=by kernel_rfl
set_option maxHeartbeats 0 in
theorem qYl(a0 e f:Bd):((qF Tryz.prog (evD Tryz.prog (odT [(61,odR [tbT] (xQ okP pP)),(78,odR [.list (.list nT),.list nT] (vL 4 wg)),(47,kcT (vH fr) true),(70,odR [.list zL,.list zL] (qH okD dR dP)),(80,kcT (yG zb okV vR vP) true)]) (loT []) 60) 32 [.ag (tbC h o t [a0,e,f] P D S O U C st V Z F I),vi L,vi H,vi W,vi vq,vi Y] []).bind qJ).run=scA okP pP wg fr okD dR dP zb okV vR vP 4 3 h o t [a0,e,f] P D S O U C st V Z F I L H W vq Y:=by kernel_rfl
set_option maxHeartbeats 0 in
theorem qYm(a0 e f j:Bd):((qF Tryz.prog (evD Tryz.prog (odT [(61,odR [tbT] (xQ okP pP)),(78,odR [.list (.list nT),.list nT] (vL 4 wg)),(47,kcT (vH fr) true),(70,odR [.list zL,.list zL] (qH okD dR dP)),(80,kcT (yG zb okV vR vP) true)]) (loT []) 60) 32 [.ag (tbC h o t [a0,e,f,j] P D S O U C st V Z F I),vi L,vi H,vi W,vi vq,vi Y] []).bind qJ).run=scA okP pP wg fr okD dR dP zb okV vR vP 4 4 h o t [a0,e,f,j] P D S O U C st V Z F I L H W vq Y:=by kernel_rfl
set_option maxHeartbeats 0 in
theorem qYn(a0 e f j k:Bd):((qF Tryz.prog (evD Tryz.prog (odT [(61,odR [tbT] (xQ okP pP)),(78,odR [.list (.list nT),.list nT] (vL 4 wg)),(47,kcT (vH fr) true),(70,odR [.list zL,.list zL] (qH okD dR dP)),(80,kcT (yG zb okV vR vP) true)]) (loT []) 60) 32 [.ag (tbC h o t [a0,e,f,j,k] P D S O U C st V Z F I),vi L,vi H,vi W,vi vq,vi Y] []).bind qJ).run=scA okP pP wg fr okD dR dP zb okV vR vP 4 5 h o t [a0,e,f,j,k] P D S O U C st V Z F I L H W vq Y:=by kernel_rfl
set_option maxHeartbeats 0 in
theorem qYo(a0 e f j k q:Bd):((qF Tryz.prog (evD Tryz.prog (odT [(61,odR [tbT] (xQ okP pP)),(78,odR [.list (.list nT),.list nT] (vL 4 wg)),(47,kcT (vH fr) true),(70,odR [.list zL,.list zL] (qH okD dR dP)),(80,kcT (yG zb okV vR vP) true)]) (loT []) 60) 32 [.ag (tbC h o t [a0,e,f,j,k,q] P D S O U C st V Z F I),vi L,vi H,vi W,vi vq,vi Y] []).bind qJ).run=scA okP pP wg fr okD dR dP zb okV vR vP 4 6 h o t [a0,e,f,j,k,q] P D S O U C st V Z F I L H W vq Y:=by kernel_rfl
end
section
variable (okP:TF Bool)(pP:TF Nat)(wg:List Int→List Int→List Int→Int→Int→Int→List Nz)(fr:Int→Raw)(okD:List Rt→List Rt→Bool)(dR:List Rt→List Rt→Raw)(dP:List Rt→List Rt→Nat)(zb:Raw→Bool)(okV:Raw→Raw→Bool)(vR:Raw→Raw→Raw)(vP:Raw→Raw→Nat)(h o t:List Int)(P D S:Int)(O U:List Nz)(C st V:Raw)(Z:Int)(F I:List (List Int))(L H W vq Y:Int)
set_option maxHeartbeats 0 in
theorem qYp(a0:Bd):((qF Tryz.prog (evD Tryz.prog (odT [(61,odR [tbT] (xQ okP pP)),(78,odR [.list (.list nT),.list nT] (vL 8 wg)),(47,kcT (vH fr) true),(70,odR [.list zL,.list zL] (qH okD dR dP)),(80,kcT (yG zb okV vR vP) true)]) (loT []) 60) 32 [.ag (tbC h o t [a0] P D S O U C st V Z F I),vi L,vi H,vi W,vi vq,vi Y] []).bind qJ).run=scA okP pP wg fr okD dR dP zb okV vR vP 8 1 h o t [a0] P D S O U C st V Z F I L H W vq Y:=by kernel_rfl
set_option maxHeartbeats 0 in
theorem qYq(a0 e:Bd):((qF Tryz.prog (evD Tryz.prog (odT [(61,odR [tbT] (xQ okP pP)),(78,odR [.list (.list nT),.list nT] (vL 8 wg)),(47,kcT (vH fr) true),(70,odR [.list zL,.list zL] (qH okD dR dP)),(80,kcT (yG zb okV vR vP) true)]) (loT []) 60) 32 [.ag (tbC h o t [a0,e] P D S O U C st V Z F I),vi L,vi H,vi W,vi vq,vi Y] []).bind qJ).run=scA okP pP wg fr okD dR dP zb okV vR vP 8 2 h o t [a0,e] P D S O U C st V Z F I L H W vq Y:=by kernel_rfl
set_option maxHeartbeats 0 in
theorem qYr(a0 e f:Bd):((qF Tryz.prog (evD Tryz.prog (odT [(61,odR [tbT] (xQ okP pP)),(78,odR [.list (.list nT),.list nT] (vL 8 wg)),(47,kcT (vH fr) true),(70,odR [.list zL,.list zL] (qH okD dR dP)),(80,kcT (yG zb okV vR vP) true)]) (loT []) 60) 32 [.ag (tbC h o t [a0,e,f] P D S O U C st V Z F I),vi L,vi H,vi W,vi vq,vi Y] []).bind qJ).run=scA okP pP wg fr okD dR dP zb okV vR vP 8 3 h o t [a0,e,f] P D S O U C st V Z F I L H W vq Y:=by kernel_rfl
set_option maxHeartbeats 0 in
theorem qYs(a0 e f j:Bd):((qF Tryz.prog (evD Tryz.prog (odT [(61,odR [tbT] (xQ okP pP)),(78,odR [.list (.list nT),.list nT] (vL 8 wg)),(47,kcT (vH fr) true),(70,odR [.list zL,.list zL] (qH okD dR dP)),(80,kcT (yG zb okV vR vP) true)]) (loT []) 60) 32 [.ag (tbC h o t [a0,e,f,j] P D S O U C st V Z F I),vi L,vi H,vi W,vi vq,vi Y] []).bind qJ).run=scA okP pP wg fr okD dR dP zb okV vR vP 8 4 h o t [a0,e,f,j] P D S O U C st V Z F I L H W vq Y:=by kernel_rfl
set_option maxHeartbeats 0 in
theorem qYt(a0 e f j k:Bd):((qF Tryz.prog (evD Tryz.prog (odT [(61,odR [tbT] (xQ okP pP)),(78,odR [.list (.list nT),.list nT] (vL 8 wg)),(47,kcT (vH fr) true),(70,odR [.list zL,.list zL] (qH okD dR dP)),(80,kcT (yG zb okV vR vP) true)]) (loT []) 60) 32 [.ag (tbC h o t [a0,e,f,j,k] P D S O U C st V Z F I),vi L,vi H,vi W,vi vq,vi Y] []).bind qJ).run=scA okP pP wg fr okD dR dP zb okV vR vP 8 5 h o t [a0,e,f,j,k] P D S O U C st V Z F I L H W vq Y:=by kernel_rfl
set_option maxHeartbeats 0 in
theorem qYu(a0 e f j k q:Bd):((qF Tryz.prog (evD Tryz.prog (odT [(61,odR [tbT] (xQ okP pP)),(78,odR [.list (.list nT),.list nT] (vL 8 wg)),(47,kcT (vH fr) true),(70,odR [.list zL,.list zL] (qH okD dR dP)),(80,kcT (yG zb okV vR vP) true)]) (loT []) 60) 32 [.ag (tbC h o t [a0,e,f,j,k,q] P D S O U C st V Z F I),vi L,vi H,vi W,vi vq,vi Y] []).bind qJ).run=scA okP pP wg fr okD dR dP zb okV vR vP 8 6 h o t [a0,e,f,j,k,q] P D S O U C st V Z F I L H W vq Y:=by kernel_rfl
end
section
variable (okP:TF Bool)(pP:TF Nat)(wg:List Int→List Int→List Int→Int→Int→Int→List Nz)(fr:Int→Raw)(okD:List Rt→List Rt→Bool)(dR:List Rt→List Rt→Raw)(dP:List Rt→List Rt→Nat)(zb:Raw→Bool)(okV:Raw→Raw→Bool)(vR:Raw→Raw→Raw)(vP:Raw→Raw→Nat)
def sk1(Z:Int)(F I:List (List Int))(L f Y:Int)(e:List Nz)(b:Nat):Raw⊕Nat:=bif okD (scW e) (scV fr F I L f Y b e)then(bif okV (dR (scW e) (scV fr F I L f Y b e)) (fr Z)then .inl (vR (dR (scW e) (scV fr F I L f Y b e)) (fr Z))else .inr (vP (dR (scW e) (scV fr F I L f Y b e)) (fr Z)+1))else .inr (dP (scW e) (scV fr F I L f Y b e)+1)
def skL(Z:Int)(F I:List (List Int))(L j Y:Int)(q:List Nz):Nat→Nat→List Raw→List Raw⊕Nat
 | 0,_,f=> .inl f.reverse
 | k+1,b,f=>match sk1 fr okD dR dP okV vR vP Z F I L j Y q b with
  | .inl x=>skL Z F I L j Y q k (b+1) (x::f)
  | .inr e=> .inr e
def qKa:List Raw⊕Nat→Option (T×Bool)
 | .inl l=>some (.tu [.sl (flR l) l.length,vn 0],true)
 | .inr e=>er e
theorem jEp{h o t:List Int}{G:List Bd}{S Z:Int}{F I:List (List Int)}{L Y:Int}{b:Nat}{y:Nz}{K:Option (T×Bool)}(hT:Tab h o t G S Z F I)(k1:1≤L)(k2:L≤S)(p1:0≤Y)(p2:Y<(G.length:Int))(hb:b<G.length)(Q:0≤y.1∧y.1<((h.length*o.length*t.length:Nat):Int)):scG F I L (.ofNat G.length) Y b y K=K:=by
 obtain⟨v,hv⟩:∃v:Nat,y.1=(v:Int):=jj Q.1;obtain⟨q,H⟩:∃q:Nat,Y=(q:Int):=jj p1;have A:v<h.length*o.length*t.length:=by
  have M:=Q.2;rw[hv]at M;exact ud.1 M
 have hq2:q<G.length:=by omega
 have hix:=hT.ixl;have hst:=zTl hT.mod;obtain⟨j,hj⟩:∃j:Nat,L=((j+1:Nat):Int):=⟨L.toNat-1,by omega⟩
 have f:j<I.length:=by omega
 have J:Int.sub L 1= .ofNat j:=by rw[hj];show((j+1:Nat):Int)-1=(j:Int);omega
 have B:kS L=j:=by unfold kS;rw[J];rfl
 obtain⟨r1,r2⟩:=hT.row j f;have hsz:=hT.mod.sz;have m1:v*G.length+G.length≤h.length*o.length*t.length*G.length:=by
  rw[←yx];exact qw _ A
 have em:Int.mul y.1 (.ofNat G.length)= .ofNat (v*G.length):=by rw[hv];rfl
 have E:jS (.ofNat G.length) Y y= .ofNat (v*G.length+q):=by
  show wq (Int.add (Int.mul y.1 (.ofNat G.length)) Y)=_;rw[em,H];exact qVn (yV (show v*G.length+q<9223372036854775808 by omega))
 have e:(jS (.ofNat G.length) Y y).toNat=v*G.length+q:=by rw[E];rfl
 have N:v*G.length+q<(gI I j).length:=by rw[r1];omega
 obtain⟨n1,R⟩:=r2 _ N;obtain⟨r,z⟩:∃r:Nat,nI (gI I j) (v*G.length+q)=(r:Int):=jj n1;have k:r<F.length:=by rw[z]at R;exact ud.1 R
 have eR:rS I L (.ofNat G.length) Y y=r:=by unfold rS;rw[B,e,z];rfl
 obtain⟨g1,g2⟩:=hT.num r k;obtain⟨g3,g4⟩:=g2 b (by rw[g1];exact hb)
 have eV:rO (vS F I L (.ofNat G.length) Y b y)=true:=by unfold vS;rw[eR];exact zBp g3 (by omega)
 have X:inW (.ofNat j)=true:=yV (by omega)
 have a2:nng (.ofNat j)=true:=rfl;have a3:inW (.ofNat (v*G.length))=true:=yV (show v*G.length<9223372036854775808 by omega)
 have a4:nng (.ofNat (v*G.length+q))=true:=rfl;have a5:nng (nI (gI I j) (v*G.length+q))=true:=by rw[z];rfl
 unfold scG;rw[J,B,em,e,E,eR,eV,X,a2,a3,a4,a5,zP f,zP N,zP k,zP (show b<(gI F r).length by rw[g1];exact hb)]
 rfl
theorem zZy{h o t:List Int}{G:List Bd}{S Z:Int}{F I:List (List Int)}{L Y:Int}{b:Nat}{K:Option (T×Bool)}(hT:Tab h o t G S Z F I)(f:1≤L)(j:L≤S)(k:0≤Y)(q:Y<(G.length:Int))(hb:b<G.length):∀{ws:List Nz},inV (h.length*o.length*t.length) ws→qSa F I L (.ofNat G.length) Y b ws K=K
 | [],_=>rfl
 | y::l,e=>by
  show scG F I L (.ofNat G.length) Y b y (qSa F I L (.ofNat G.length) Y b l K)=K;rw[zZy hT f j k q hb (ws:=l) fun z A=>e z (zu _ A)];exact jEp hT f j k q hb (e y zq)
theorem qLa{h o t:List Int}{G:List Bd}{S Z:Int}{F I:List (List Int)}{L Y:Int}{j:List Nz}(hT:Tab h o t G S Z F I)(z:1≤L)(A:L≤S)(B:0≤Y)(E:Y<(G.length:Int))(q:inV (h.length*o.length*t.length) j)(y:zb (fr Z)=false):∀(k b:Nat)(f:List Raw),b+k=G.length→scL fr okD dR dP zb okV vR vP Z F I L (.ofNat G.length) Y j k b f=qKa (skL fr okD dR dP okV vR vP Z F I L (.ofNat G.length) Y j k b f)
 | 0,b,f,_=>by
  show(some (.tu [.sl (flR f.reverse) f.length,vn 0],true):Option (T×Bool))=some (.tu [.sl (flR f.reverse) f.reverse.length,vn 0],true);rw[xg]
 | k+1,b,f,e=>by
  have J:rO Z=true:=zBp (ub (by decide) hT.sc1) (ub hT.sc2 (by decide))
  simp only[scL,scB,skL,sk1];rw[zZy hT z A B E (show b<G.length by omega) q]
  cases okD (scW j) (scV fr F I L (.ofNat G.length) Y b j)with
  | false=>rfl
  | true=>
   simp only[gd,J,y,jr,ze];cases okV (dR (scW j) (scV fr F I L (.ofNat G.length) Y b j)) (fr Z)with
   | false=>rfl
   | true=>simp only[ze];exact qLa hT z A B E q y k (b+1) _ (by omega)
end
theorem zVa:∀(l:List Nz)(m i:Nat),i+m=l.length→exL l m i=l.drop i
 | l,0,i,h=>by
  obtain rfl:i=l.length:=by omega
  rw[uV];rfl
 | l,m+1,i,h=>by
  have f:i<l.length:=by omega
  have e:zI l i=l[i]:=by rw[zI,qU];simp[f]
  rw[ji f,←e];show zI l i::exL l m (i+1)=_;rw[zVa l m (i+1) (by omega)]
def iDt(a b:List Rt)(n i:Nat)(t:Raw):Hs:=⟨[.ls .a zL a,.ls .a zL b,vn n,vn i],[],[[.v (.bool t.1),.ls .n .lim t.2,.ls .n .lim t.3]]⟩
def iDz(a b:List Rt)(n i:Nat):Hs:=⟨[.ls .a zL a,.ls .a zL b,vn n,vn i],[],[[.v (.bool false),.v (.slice none 0 0),.v (.slice none 0 0)]]⟩
def Ldt:Lp:=⟨1,
 ⟨[.h,.h,.u,.u,.t (.op 0 0)]++(us' 11++([.h,.h]++(us' 31))),[.r [.h,.h,.h] 28]⟩,
 ⟨us' 4++([.t (.op 0 0)]++(us' 44)),[.r [.h,.h,.h] 28]⟩,
 ⟨us' 4++([.t (.op 0 0),.h]++(us' 43)),[.r [.h,.h,.h] 28]⟩⟩
abbrev qSx:Code:=lpc Tryz.prog 70 [false,true,false,true,true]
theorem qVw:cAt Tryz.prog 70 [false,true,false,true,true]=some (.loop qSx):=by kernel_rfl
abbrev zAt(f:Od)(e:Lo):Hs→Option (Hs⊕(Ex×Hs)):=Ldt.stp (evD Tryz.prog f e 60) 70 [false,true,false,true,true] qSx
abbrev ODt(ad mu:Raw→Raw→Raw)(ae me:Raw→Raw→Int):Od:=odT [(34,kcD (pRR fun a b=>some (ad a b,ae a b)) true),(49,kcD (pRR fun a b=>some (mu a b,me a b)) true)]
abbrev rI(l:List Rt)(i:Nat):Rt:=nth zL.zero l i
theorem sDz(ad mu:Raw→Raw→Raw)(ae me:Raw→Raw→Int)(a b:List Rt)(n i:Nat):zAt (ODt ad mu ae me) (loT []) (iDz a b n i)=bif ilt (.ofNat i) (.ofNat n)then gd (Nat.blt i a.length) (gd (Nat.blt i b.length) (bif !(ieq (me (rw' (rI a i)) (rw' (rI b i))) 0)then some (.inr (.r,⟨[vi (me (rw' (rI a i)) (rw' (rI b i)))],[],[[.v (.bool false),.v (Value.slice none 0 0),.v (Value.slice none 0 0)]]⟩))else(bif !(ieq (ae ⟨false,[],[]⟩ ⟨false,[],[]⟩) 0)then(bif !(ieq (ae ⟨false,[],[]⟩ ⟨false,[],[]⟩) 0)then some (.inr (.r,⟨[vi (ae ⟨false,[],[]⟩ ⟨false,[],[]⟩)],[],[[.v (.bool false),.v (Value.slice none 0 0),.v (Value.slice none 0 0)]]⟩))else nx i (.inl ⟨[.ls .a zL a,.ls .a zL b,vn n,vn (i+1)],[],[[.v (.bool false),.v (Value.slice none 0 0),.v (Value.slice none 0 0)]]⟩))else(bif !(ieq (ae (ad ⟨false,[],[]⟩ ⟨false,[],[]⟩) (mu (rw' (rI a i)) (rw' (rI b i)))) 0)then(bif !(ieq (ae (ad ⟨false,[],[]⟩ ⟨false,[],[]⟩) (mu (rw' (rI a i)) (rw' (rI b i)))) 0)then some (.inr (.r,⟨[vi (ae (ad ⟨false,[],[]⟩ ⟨false,[],[]⟩) (mu (rw' (rI a i)) (rw' (rI b i))))],[],[[.v (.bool false),.v (Value.slice none 0 0),.v (Value.slice none 0 0)]]⟩))else nx i (.inl ⟨[.ls .a zL a,.ls .a zL b,vn n,vn (i+1)],[],[[.v (.bool false),.v (Value.slice none 0 0),.v (Value.slice none 0 0)]]⟩))else nx i (.inl ⟨[.ls .a zL a,.ls .a zL b,vn n,vn (i+1)],[],[[.v (.bool ((ad (ad ⟨false,[],[]⟩ ⟨false,[],[]⟩) (mu (rw' (rI a i)) (rw' (rI b i)))).1)),.ls .n .lim ((ad (ad ⟨false,[],[]⟩ ⟨false,[],[]⟩) (mu (rw' (rI a i)) (rw' (rI b i)))).2),.ls .n .lim ((ad (ad ⟨false,[],[]⟩ ⟨false,[],[]⟩) (mu (rw' (rI a i)) (rw' (rI b i)))).3)]]⟩)))))else some (.inr (.x 0,⟨[],[],[[.v (.bool false),.v (Value.slice none 0 0),.v (Value.slice none 0 0)]]⟩)):=by kernel_rfl
theorem sDt(ad mu:Raw→Raw→Raw)(ae me:Raw→Raw→Int)(a b:List Rt)(n i:Nat)(t:Raw):zAt (ODt ad mu ae me) (loT []) (iDt a b n i t)=bif ilt (.ofNat i) (.ofNat n)then gd (Nat.blt i a.length) (gd (Nat.blt i b.length) (bif !(ieq (me (rw' (rI a i)) (rw' (rI b i))) 0)then some (.inr (.r,⟨[vi (me (rw' (rI a i)) (rw' (rI b i)))],[],[[.v (.bool false),.v (Value.slice none 0 0),.v (Value.slice none 0 0)]]⟩))else(bif !(ieq (ae ⟨false,[],[]⟩ t) 0)then(bif !(ieq (ae ⟨false,[],[]⟩ t) 0)then some (.inr (.r,⟨[vi (ae ⟨false,[],[]⟩ t)],[],[[.v (.bool false),.v (Value.slice none 0 0),.v (Value.slice none 0 0)]]⟩))else nx i (.inl ⟨[.ls .a zL a,.ls .a zL b,vn n,vn (i+1)],[],[[.v (.bool false),.v (Value.slice none 0 0),.v (Value.slice none 0 0)]]⟩))else(bif !(ieq (ae (ad ⟨false,[],[]⟩ t) (mu (rw' (rI a i)) (rw' (rI b i)))) 0)then(bif !(ieq (ae (ad ⟨false,[],[]⟩ t) (mu (rw' (rI a i)) (rw' (rI b i)))) 0)then some (.inr (.r,⟨[vi (ae (ad ⟨false,[],[]⟩ t) (mu (rw' (rI a i)) (rw' (rI b i))))],[],[[.v (.bool false),.v (Value.slice none 0 0),.v (Value.slice none 0 0)]]⟩))else nx i (.inl ⟨[.ls .a zL a,.ls .a zL b,vn n,vn (i+1)],[],[[.v (.bool false),.v (Value.slice none 0 0),.v (Value.slice none 0 0)]]⟩))else nx i (.inl ⟨[.ls .a zL a,.ls .a zL b,vn n,vn (i+1)],[],[[.v (.bool ((ad (ad ⟨false,[],[]⟩ t) (mu (rw' (rI a i)) (rw' (rI b i)))).1)),.ls .n .lim ((ad (ad ⟨false,[],[]⟩ t) (mu (rw' (rI a i)) (rw' (rI b i)))).2),.ls .n .lim ((ad (ad ⟨false,[],[]⟩ t) (mu (rw' (rI a i)) (rw' (rI b i)))).3)]]⟩)))))else some (.inr (.x 0,⟨[],[],[[.v (.bool t.1),.ls .n .lim t.2,.ls .n .lim t.3]]⟩)):=by kernel_rfl
section
variable (ad mu:Raw→Raw→Raw)(ae me:Raw→Raw→Int)
abbrev xI(l:List Rt)(i:Nat):Raw:=rw' (rI l i)
def gDt(a b:List Rt)(i:Nat)(t:Raw):Raw⊕(Raw⊕Int):=bif !ieq (me (xI a i) (xI b i)) 0 then .inr (.inr (me (xI a i) (xI b i)))else(bif !ieq (ae r0 t) 0 then .inr (.inr (ae r0 t))else(bif !ieq (ae (ad r0 t) (mu (xI a i) (xI b i))) 0 then .inr (.inr (ae (ad r0 t) (mu (xI a i) (xI b i))))else .inl (ad (ad r0 t) (mu (xI a i) (xI b i)))))
def dtF(a b:List Rt):Raw⊕Int:=fol (gDt ad mu ae me a b) .inl a.length 0 r0
def jAq(a b:List Rt):Nat→Raw→Hs
 | 0,_=>iDz a b a.length 0
 | i+1,t=>iDt a b a.length (i+1) t
abbrev z3:List T:=[.v (.bool false),.v (.slice none 0 0),.v (.slice none 0 0)]
abbrev n3(t:Raw):List T:=[.v (.bool t.1),.ls .n .lim t.2,.ls .n .lim t.3]
def qUq:Raw⊕Int→Ex×Hs
 | .inl t=>(.x 0,⟨[],[],[n3 t]⟩)
 | .inr e=>(.r,⟨[vi e],[],[z3]⟩)
theorem lpDt{a b:List Rt}(q:0<a.length)(y:a.length<9223372036854775807)(H:a.length≤b.length):lpF (zAt (ODt ad mu ae me) (loT [])) a.length (iDz a b a.length 0)=some (qUq (dtF ad mu ae me a b)):=
 jM (st:=zAt (ODt ad mu ae me) (loT [])) (iv:=jAq a b) (g:=gDt ad mu ae me a b) (d:= .inl) (out:=qUq) (n:=a.length) (fun i t=>i=0→t=r0)
  (fun i t k j=>by
   cases i with
   | zero=>
    obtain rfl:=j rfl;show zAt (ODt ad mu ae me) (loT []) (iDz a b a.length 0)=_;rw[sDz];unfold gDt;have f:ilt (.ofNat 0) (.ofNat a.length)=true:=zP q;rw[f];simp only[gd,zP q,zP (show 0<b.length by omega),ze,xC (show 0+1<9223372036854775808 by omega)]
    cases ieq (me (xI a 0) (xI b 0)) 0 with
    | false=>rfl
    | true=>
     simp only[qb,zf];cases ieq (ae r0 r0) 0 with
     | false=>rfl
     | true=>
      simp only[qb,zf];cases ieq (ae (ad r0 r0) (mu (xI a 0) (xI b 0))) 0<;>rfl
   | succ i=>
    show zAt (ODt ad mu ae me) (loT []) (iDt a b a.length (i+1) t)=_;rw[sDt];unfold gDt;have f:ilt (.ofNat (i+1)) (.ofNat a.length)=true:=zP k;rw[f];simp only[gd,zP k,zP (show i+1<b.length by omega),ze,xC (show i+1+1<9223372036854775808 by omega)]
    cases ieq (me (xI a (i+1)) (xI b (i+1))) 0 with
    | false=>rfl
    | true=>
     simp only[qb,zf];cases ieq (ae r0 t) 0 with
     | false=>rfl
     | true=>
      simp only[qb,zf];cases ieq (ae (ad r0 t) (mu (xI a (i+1)) (xI b (i+1)))) 0<;>rfl)
  (fun i t A k j z e=>by omega)
  (fun t j=>by
   obtain⟨m,hm⟩:∃m,a.length=m+1:=⟨a.length-1,by omega⟩
   show zAt (ODt ad mu ae me) (loT []) (jAq a b a.length t)=_;have e:jAq a b a.length t=iDt a b a.length a.length t:=by
    rw[hm];show iDt a b a.length (m+1) t=_;rw[hm]
   rw[e,sDt];show(bif Nat.blt a.length a.length then _ else _)=_;rw[yC (z6 _),zf];rfl) a.length 0 r0 (by omega) (fun _=>rfl)
def hDt:Hs→DT (Ex×Hs)
 | ⟨[.ls .a (.prod .bool (.prod (.list .lim) (.list .lim))) a,.ls .a (.prod .bool (.prod (.list .lim) (.list .lim))) b,.v (.int .i64 (.ofNat n)),.v (.int .i64 (.ofNat 0))],[],[[.v (.bool false),.v (.slice none 0 0),.v (.slice none 0 0)]]⟩=>grd (Nat.beq n a.length&&(Nat.ble a.length b.length&&Nat.blt a.length 9223372036854775807)) (.ite (Nat.blt 0 a.length) (.ite (isL (dtF ad mu ae me a b)) (.ret (.x 0,⟨[],[],[n3 (rL (dtF ad mu ae me a b))]⟩)) (.ret (.r,⟨[vi (eL (dtF ad mu ae me a b))],[],[z3]⟩))) (.ret (.x 0,⟨[],[],[z3]⟩)))
 | _=> .no
theorem qZu:∀q y,(hDt ad mu ae me q).run=some y→∃n,It (zAt (ODt ad mu ae me) (loT [])) n q y:=fun q y h=>by
 unfold hDt at h;split at h
 ·rename_i a b n;obtain⟨j,e⟩:=zT h;simp only[zd,qp]at j;obtain⟨z,A,B⟩:=j;obtain rfl:=zY z;cases f:Nat.blt 0 a.length with
  | true=>
   have:=xM _ _ (lpDt ad mu ae me (jV f) (jV B) A);simp only[DT.run,f,ze]at e;cases hb:dtF ad mu ae me a b<;>rw[hb]at e this<;>cases e<;>exact this
  | false=>
   simp only[DT.run,f,zf]at e;cases e;refine⟨0,.out ?_⟩;show zAt (ODt ad mu ae me) (loT []) (iDz a b a.length 0)=_;have k:ilt (.ofNat 0) (.ofNat a.length)=false:=f;rw[sDz,k];rfl
 ·cases h
abbrev LDt:Lo:=loT [(70,[false,true,false,true,true],Ldt.row (hDt ad mu ae me))]
end
end
end Go.Proofs.YtdfmdiakjdggbaaGreatDoor

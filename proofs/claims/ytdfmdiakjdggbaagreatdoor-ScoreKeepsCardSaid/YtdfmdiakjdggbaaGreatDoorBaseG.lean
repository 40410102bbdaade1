import Derived.Test.YtdfmdiakjdggbaaGreatDoorBaseF
set_option linter.unusedVariables false
set_option linter.unusedSimpArgs false
set_option linter.unnecessarySimpa false
namespace Go
abbrev j4:=@Int.natCast_nonneg
abbrev vy:=@Int.le_of_lt
abbrev vz:=@Nat.add_sub_cancel
abbrev y8:=@Int.lt_or_eq_of_le
abbrev uO:=@Int.ofNat.inj
abbrev uV:=@Int.le_trans
abbrev uW:=@Int.ofNat_lt
abbrev ul:=@Bool.not_eq_false'
abbrev u7:=@Int.not_lt
abbrev gf:=@List.drop_length
end Go
namespace Go.Proofs.YtdfmdiakjdggbaaGreatDoor
open Go Go.Gv Go.Ev IntKind
noncomputable section
set_option maxRecDepth 1000000
def pfs:List Nat:=[16,22,23,24,30,31,32,35,36,43,44,45,46,61,70,76,77,78,79,94,95,119,134,146,156,157,158,169,170,171,183,184,185,186,187,228,234,240,241,242,269]
def i(n:Int):T:= .v (.int .i64 n)
def w(n:Int):T:= .v (.int .u32 n)
def tt:T:= .v (.bool true)
def ff:T:= .v (.bool false)
def nl:T:= .v (.slice none 0 0)
def sL(l:List T):T:= .sl l l.length
def ea1:List T:=[(.sl [(i 50),(i 5),(i 0),ff,(sL [(w 1)]),(sL [(w 2)]),(i 100),(i 10),(i 0),ff,(sL [(w 1)]),(sL [(w 2)])] 2)]
def et1:T:=(i 0)
theorem er1:kM Tryz.prog (evC Tryz.prog noS (orF Tryz.prog (xY tb0) pfs) 1000) 0 46 ea1=some (et1,true):=by kernel_rfl
def eb1:List (Nat×(List T→Option (T×Bool))):=(46,zBr ea1 (et1,true))::tb0
theorem eo1:qR Tryz.prog (xY eb1):=qR.cons qJw (sP (by kernel_rfl) sS qJw pfs er1) (by kernel_rfl)
def ea2:List T:=[(.ag [(sL [(i (-100)),(i 0),(i 100)]),(sL [(i 0),(i 10)]),(sL [(i 0)]),(.sl [(.v (.int .u8 0)),(i 0),(i 0),(.v (.int .u8 1)),(i 10),(i 20)] 2),(i 5),(i 50),(i 1),(.sl [(i 0),ff,(sL [(w 1)]),(sL [])] 1),(.sl [(i 0),ff,(sL [(w 1)]),(sL [])] 1),ff,(sL [(w 1)]),(sL [(w 10)]),ff,nl,nl,ff,nl,nl])]
def et2:T:=(i 0)
theorem er2:kM Tryz.prog (evC Tryz.prog noS (orF Tryz.prog (xY eb1) pfs) 1000) 0 119 ea2=some (et2,true):=by kernel_rfl
def eb2:List (Nat×(List T→Option (T×Bool))):=(119,zBr ea2 (et2,true))::eb1
theorem eo2:qR Tryz.prog (xY eb2):=qR.cons eo1 (sP (by kernel_rfl) sS eo1 pfs er2) (by kernel_rfl)
def ea3:List T:=[(.ag [(sL [(i (-100)),(i 0),(i 100)]),(sL [(i 0),(i 10)]),(sL [(i 0)]),(.sl [(.v (.int .u8 0)),(i 0),(i 0),(.v (.int .u8 1)),(i 10),(i 20)] 2),(i 5),(i 50),(i 1),(.sl [(i 0),ff,(sL [(w 1)]),(sL [])] 1),(.sl [(i 0),ff,(sL [(w 1)]),(sL [])] 1),ff,(sL [(w 1)]),(sL [(w 10)]),ff,nl,nl,ff,nl,nl,(i 10),(sL [(sL [(i 0),(i 1)]),(sL [(i 10),(i 11)]),(sL [(i 9),(i 10)]),(sL [(i 1),(i 2)])]),(sL [(sL [(i 0),(i 0),(i 0),(i 0),(i 1),(i 1),(i 2),(i 2),(i 0),(i 0),(i 3),(i 3)])])])]
def et3:T:=(i 0)
theorem er3:kM Tryz.prog (evC Tryz.prog noS (orF Tryz.prog (xY eb2) pfs) 1000) 0 61 ea3=some (et3,true):=by kernel_rfl
def eb3:List (Nat×(List T→Option (T×Bool))):=(61,zBr ea3 (et3,true))::eb2
theorem eo3:qR Tryz.prog (xY eb3):=qR.cons eo2 (sP (by kernel_rfl) sS eo2 pfs er3) (by kernel_rfl)
def ea4:List T:=[(sL [(sL [(i (-100)),(i 0),(i 100)]),(sL [(i 0),(i 10)]),(sL [(i 0)])]),(sL [(i 50),(i 5),(i 0)])]
def et4:T:=(.tu [(.sl [(i 2),ff,(sL [(w 1)]),(sL [(w 4)]),(i 3),ff,(sL [(w 1)]),(sL [(w 4)]),(i 4),ff,(sL [(w 1)]),(sL [(w 4)]),(i 5),ff,(sL [(w 1)]),(sL [(w 4)])] 4),(i 0)])
theorem er4:kM Tryz.prog (evC Tryz.prog noS (orF Tryz.prog (xY eb3) pfs) 1000) 0 78 ea4=some (et4,true):=by kernel_rfl
def eb4:List (Nat×(List T→Option (T×Bool))):=(78,zBr ea4 (et4,true))::eb3
theorem eo4:qR Tryz.prog (xY eb4):=qR.cons eo3 (sP (by kernel_rfl) sS eo3 pfs er4) (by kernel_rfl)
def ea5:List T:=[(.sl [ff,(sL [(w 1)]),(sL [(w 4)]),ff,(sL [(w 1)]),(sL [(w 4)]),ff,(sL [(w 1)]),(sL [(w 4)]),ff,(sL [(w 1)]),(sL [(w 4)])] 4),(.sl [ff,(sL [(w 10)]),(sL []),ff,(sL [(w 9)]),(sL []),ff,(sL []),(sL []),ff,(sL [(w 1)]),(sL [])] 4)]
def et5:T:=(.tu [(.ag [ff,(sL [(w 5)]),(sL [])]),(i 0)])
theorem er5:kM Tryz.prog (evC Tryz.prog noS (orF Tryz.prog (xY eb4) pfs) 1000) 0 70 ea5=some (et5,true):=by kernel_rfl
def eb5:List (Nat×(List T→Option (T×Bool))):=(70,zBr ea5 (et5,true))::eb4
theorem eo5:qR Tryz.prog (xY eb5):=qR.cons eo4 (sP (by kernel_rfl) sS eo4 pfs er5) (by kernel_rfl)
def ea6:List T:=[(.sl [ff,(sL [(w 1)]),(sL [(w 4)]),ff,(sL [(w 1)]),(sL [(w 4)]),ff,(sL [(w 1)]),(sL [(w 4)]),ff,(sL [(w 1)]),(sL [(w 4)])] 4),(.sl [ff,(sL [(w 11)]),(sL []),ff,(sL [(w 10)]),(sL []),ff,(sL [(w 1)]),(sL []),ff,(sL [(w 2)]),(sL [])] 4)]
def et6:T:=(.tu [(.ag [ff,(sL [(w 6)]),(sL [])]),(i 0)])
theorem er6:kM Tryz.prog (evC Tryz.prog noS (orF Tryz.prog (xY eb5) pfs) 1000) 0 70 ea6=some (et6,true):=by kernel_rfl
def eb6:List (Nat×(List T→Option (T×Bool))):=(70,zBr ea6 (et6,true))::eb5
theorem eo6:qR Tryz.prog (xY eb6):=qR.cons eo5 (sP (by kernel_rfl) sS eo5 pfs er6) (by kernel_rfl)
def ea7:List T:=[(.ag [(sL [(i (-100)),(i 0),(i 100)]),(sL [(i 0),(i 10)]),(sL [(i 0)]),(.sl [(.v (.int .u8 0)),(i 0),(i 0),(.v (.int .u8 1)),(i 10),(i 20)] 2),(i 5),(i 50),(i 1),(.sl [(i 0),ff,(sL [(w 1)]),(sL [])] 1),(.sl [(i 0),ff,(sL [(w 1)]),(sL [])] 1),ff,(sL [(w 1)]),(sL [(w 10)]),ff,nl,nl,ff,nl,nl,(i 10),(sL [(sL [(i 0),(i 1)]),(sL [(i 10),(i 11)]),(sL [(i 9),(i 10)]),(sL [(i 1),(i 2)])]),(sL [(sL [(i 0),(i 0),(i 0),(i 0),(i 1),(i 1),(i 2),(i 2),(i 0),(i 0),(i 3),(i 3)])])]),(i 1),(i 50),(i 5),(i 0),(i 0)]
def et7:T:=(.tu [(.sl [ff,(sL [(w 1)]),(sL [(w 2)]),ff,(sL [(w 3)]),(sL [(w 5)])] 2),(i 0)])
theorem er7:kM Tryz.prog (evC Tryz.prog noS (orF Tryz.prog (xY eb6) pfs) 1000) 0 32 ea7=some (et7,true):=by kernel_rfl
def eb7:List (Nat×(List T→Option (T×Bool))):=(32,zBr ea7 (et7,true))::eb6
theorem eo7:qR Tryz.prog (xY eb7):=qR.cons eo6 (sP (by kernel_rfl) sS eo6 pfs er7) (by kernel_rfl)
def ea8:List T:=[(sL [(sL [(i (-100)),(i 0),(i 100)]),(sL [(i 0),(i 10)]),(sL [(i 0)])]),(sL [(i 100),(i 10),(i 0)])]
def et8:T:=(.tu [(.sl [(i 5),ff,(sL [(w 1)]),(sL [])] 1),(i 0)])
theorem er8:kM Tryz.prog (evC Tryz.prog noS (orF Tryz.prog (xY eb7) pfs) 1000) 0 78 ea8=some (et8,true):=by kernel_rfl
def eb8:List (Nat×(List T→Option (T×Bool))):=(78,zBr ea8 (et8,true))::eb7
theorem eo8:qR Tryz.prog (xY eb8):=qR.cons eo7 (sP (by kernel_rfl) sS eo7 pfs er8) (by kernel_rfl)
def ea9:List T:=[(.ag [(sL [(i (-100)),(i 0),(i 100)]),(sL [(i 0),(i 10)]),(sL [(i 0)]),(.sl [(.v (.int .u8 0)),(i 0),(i 0),(.v (.int .u8 1)),(i 10),(i 20)] 2),(i 5),(i 50),(i 1),(.sl [(i 0),ff,(sL [(w 1)]),(sL [])] 1),(.sl [(i 0),ff,(sL [(w 1)]),(sL [])] 1),ff,(sL [(w 1)]),(sL [(w 10)]),ff,nl,nl,ff,nl,nl,(i 10),(sL [(sL [(i 0),(i 1)]),(sL [(i 10),(i 11)]),(sL [(i 9),(i 10)]),(sL [(i 1),(i 2)])]),(sL [(sL [(i 0),(i 0),(i 0),(i 0),(i 1),(i 1),(i 2),(i 2),(i 0),(i 0),(i 3),(i 3)])])]),(i 1),(i 100),(i 10),(i 0),(i 0)]
def et9:T:=(.tu [(.sl [ff,(sL [(w 1)]),(sL [(w 10)]),ff,(sL [(w 1)]),(sL [(w 5)])] 2),(i 0)])
theorem er9:kM Tryz.prog (evC Tryz.prog noS (orF Tryz.prog (xY eb8) pfs) 1000) 0 32 ea9=some (et9,true):=by kernel_rfl
def eb9:List (Nat×(List T→Option (T×Bool))):=(32,zBr ea9 (et9,true))::eb8
theorem eo9:qR Tryz.prog (xY eb9):=qR.cons eo8 (sP (by kernel_rfl) sS eo8 pfs er9) (by kernel_rfl)
def ea10:List T:=[(.ag [(sL [(i (-100)),(i 0),(i 100)]),(sL [(i 0),(i 10)]),(sL [(i 0)]),(.sl [(.v (.int .u8 0)),(i 0),(i 0),(.v (.int .u8 1)),(i 10),(i 20)] 2),(i 5),(i 50),(i 1),(.sl [(i 0),ff,(sL [(w 1)]),(sL [])] 1),(.sl [(i 0),ff,(sL [(w 1)]),(sL [])] 1),ff,(sL [(w 1)]),(sL [(w 10)]),ff,nl,nl,ff,nl,nl,(i 10),(sL [(sL [(i 0),(i 1)]),(sL [(i 10),(i 11)]),(sL [(i 9),(i 10)]),(sL [(i 1),(i 2)])]),(sL [(sL [(i 0),(i 0),(i 0),(i 0),(i 1),(i 1),(i 2),(i 2),(i 0),(i 0),(i 3),(i 3)])])]),(i 1),(.sl [(i 50),(i 5),(i 0),ff,(sL [(w 1)]),(sL [(w 2)]),(i 100),(i 10),(i 0),ff,(sL [(w 1)]),(sL [(w 2)])] 2),(i 0)]
def et10:T:=(.tu [(.sl [ff,(sL [(w 3)]),(sL [(w 10)]),ff,(sL [(w 2)]),(sL [(w 5)])] 2),(i 0)])
theorem er10:kM Tryz.prog (evC Tryz.prog noS (orF Tryz.prog (xY eb9) pfs) 1000) 0 22 ea10=some (et10,true):=by kernel_rfl
def qXi:List (Nat×(List T→Option (T×Bool))):=(22,zBr ea10 (et10,true))::eb9
theorem eo10:qR Tryz.prog (xY qXi):=qR.cons eo9 (sP (by kernel_rfl) sS eo9 pfs er10) (by kernel_rfl)
def ea11:List T:=[(.ag [(sL [(i (-100)),(i 0),(i 100)]),(sL [(i 0),(i 10)]),(sL [(i 0)]),(.sl [(.v (.int .u8 0)),(i 0),(i 0),(.v (.int .u8 1)),(i 10),(i 20)] 2),(i 5),(i 50),(i 1),(.sl [(i 0),ff,(sL [(w 1)]),(sL [])] 1),(.sl [(i 0),ff,(sL [(w 1)]),(sL [])] 1),ff,(sL [(w 1)]),(sL [(w 10)]),ff,nl,nl,ff,nl,nl,(i 10),(sL [(sL [(i 0),(i 1)]),(sL [(i 10),(i 11)]),(sL [(i 9),(i 10)]),(sL [(i 1),(i 2)])]),(sL [(sL [(i 0),(i 0),(i 0),(i 0),(i 1),(i 1),(i 2),(i 2),(i 0),(i 0),(i 3),(i 3)])])]),(i 1),(.sl [(i 50),(i 5),(i 0),ff,(sL [(w 1)]),(sL [(w 2)]),(i 100),(i 10),(i 0),ff,(sL [(w 1)]),(sL [(w 2)])] 2),(i 0),(.ag [ff,(sL [(w 1)]),(sL [(w 100)]),ff,(sL [(w 1)]),(sL [(w 20)]),ff,(sL [(w 1)]),(sL [(w 50)])]),(.v (.int .u8 1))]
def et11:T:=(.tu [(.sl [ff,(sL [(w 3)]),(sL [(w 10)]),ff,(sL [(w 23)]),(sL [(w 50)])] 2),(i 0)])
theorem er11:kM Tryz.prog (evC Tryz.prog noS (orF Tryz.prog (xY qXi) pfs) 1000) 0 23 ea11=some (et11,true):=by kernel_rfl
def eb11:List (Nat×(List T→Option (T×Bool))):=(23,zBr ea11 (et11,true))::qXi
theorem eo11:qR Tryz.prog (xY eb11):=qR.cons eo10 (sP (by kernel_rfl) sS eo10 pfs er11) (by kernel_rfl)
def ea12:List T:=[]
def et12:T:=tt
theorem er12:kM Tryz.prog (evC Tryz.prog noS (orF Tryz.prog (xY eb11) pfs) 1000) 0 16 ea12=some (et12,true):=by kernel_rfl
theorem jEj:KnP Tryz.prog 0 16 [] (.v (.bool true)) true:=sP (by kernel_rfl) sS eo11 pfs er12
end
end Go.Proofs.YtdfmdiakjdggbaaGreatDoor
namespace Go.Proofs.YtdfmdiakjdggbaaGreatDoor
open Go Go.Gv Go.Ev Go.RowKit IntKind
noncomputable section
abbrev pT:Ty:= .prod (.int .i64) (.prod (.int .i64) (.int .i64))
abbrev wT:Ty:= .prod pT zL
abbrev Rt:=Ty.den zL
abbrev Pt:=Ty.den pT
abbrev Wt:=Ty.den wT
abbrev rw'(x:Rt):Raw:=⟨x.1,x.2.1,x.2.2⟩
abbrev toT(a:Raw):Rt:=(a.neg,a.ln,a.ld)
abbrev pC(p:Pt):List T:=[.v (.int .i64 p.1),.v (.int .i64 p.2.1),.v (.int .i64 p.2.2)]
abbrev rC(a:Raw):List T:=[.v (.bool a.neg),.ls .a .lim a.ln,.ls .a .lim a.ld]
abbrev rrT:=List (Nat×(List T→DT (T×Bool)))
theorem yE:Tryz.prog.follows .mixedOrders=true:=by kernel_rfl
abbrev yI(n:Int):Option (T×Bool):=some (.v (.int .i64 n),true)
abbrev yB(b:Bool):Option (T×Bool):=some (.v (.bool b),true)
def cmI(a b:Int):Int:=bif ilt a b then -1 else(bif ilt b a then 1 else 0)
theorem eCc(a b:Int):((qC Tryz.prog (evD Tryz.prog (odT []) (loT []) 60) 171 [.v (.int .i64 a),.v (.int .i64 b)] []).bind qF).run=bif !ieq a a then(bif !ieq b b then yI 0 else yI (-1))else(bif !ieq b b then yI 1 else(bif ilt a b then yI (-1)else(bif ilt b a then yI 1 else yI 0))):=by kernel_rfl
def oCc:List T→DT (T×Bool)
 | [.v (.int .i64 a),.v (.int .i64 b)]=> .ret (.v (.int .i64 (cmI a b)),true)
 | _=> .no
theorem kCc:∀e j f,(oCc e).run=some (j,f)→∀k,KnP Tryz.prog k 171 e j f:=by
 intro e j f h k;unfold oCc at h;split at h
 ·rename_i a b;cases h;have q:((qC Tryz.prog (evD Tryz.prog (odT []) (loT []) 60) 171 [.v (.int .i64 a),.v (.int .i64 b)] []).bind qF).run=yI (cmI a b):=by
   rw[eCc,xK rfl,xK rfl];unfold cmI;cases ilt a b<;>cases ilt b a<;>rfl
  exact yM (cz:=[.v (.int .i64 a),.v (.int .i64 b)]) yE jZ zZ q rfl k
 ·cases h
abbrev O1':Od:=odT [(171,oCc)]
theorem jAl:vD Tryz.prog O1':=zS jZ kCc
def cpP(p q:Pt):Int:=bif !ieq (cmI p.1 q.1) 0 then cmI p.1 q.1 else(bif !ieq (cmI p.2.1 q.2.1) 0 then cmI p.2.1 q.2.1 else(bif !ieq (cmI p.2.2 q.2.2) 0 then cmI p.2.2 q.2.2 else 0))
theorem eCp(p q:Pt):((qC Tryz.prog (evD Tryz.prog (O1') (loT []) 60) 95 [.ag (pC p),.ag (pC q)] []).bind qF).run=bif !ieq (cmI p.1 q.1) 0 then yI (cmI p.1 q.1)else(bif !ieq (cmI p.2.1 q.2.1) 0 then yI (cmI p.2.1 q.2.1)else(bif !ieq (cmI p.2.2 q.2.2) 0 then yI (cmI p.2.2 q.2.2)else yI 0)):=by kernel_rfl
def oCp:List T→DT (T×Bool)
 | [.ag [.v (.int .i64 a),.v (.int .i64 b),.v (.int .i64 c)],.ag [.v (.int .i64 e),.v (.int .i64 f),.v (.int .i64 j)]]=> .ret (.v (.int .i64 (cpP (a,b,c) (e,f,j))),true)
 | _=> .no
theorem kCp:∀e j f,(oCp e).run=some (j,f)→∀k,KnP Tryz.prog k 95 e j f:=by
 intro e j f h k;unfold oCp at h;split at h
 ·rename_i a b c w y z;cases h;have g:∀p q:Pt,((qC Tryz.prog (evD Tryz.prog (O1') (loT []) 60) 95 [.ag (pC p),.ag (pC q)] []).bind qF).run=yI (cpP p q):=fun p q=>by
   rw[eCp];unfold cpP;cases ieq (cmI p.1 q.1) 0<;>cases ieq (cmI p.2.1 q.2.1) 0<;>cases ieq (cmI p.2.2 q.2.2) 0<;>rfl
  exact yM (cz:=[.ag (pC (a,b,c)),.ag (pC (w,y,z))]) yE jAl zZ (g (a,b,c) (w,y,z)) rfl k
 ·cases h
def zNu(p:Pt):Bool:=ilt p.1 (-200000)||(ilt 200000 p.1||(ilt p.2.1 (-100)||(ilt 100 p.2.1||(ilt p.2.2 (-100)||ilt 100 p.2.2))))
theorem eCk(p:Pt)(b:Bool)(l m:List Nat):((qC Tryz.prog (evD Tryz.prog (odT []) (loT []) 60) 94 [.ag (pC p++rC ⟨b,l,m⟩)] []).bind qF).run=bif ilt p.1 (-200000)then yI 7 else(bif ilt 200000 p.1 then yI 7 else(bif ilt p.2.1 (-100)then yI 7 else(bif ilt 100 p.2.1 then yI 7 else(bif ilt p.2.2 (-100)then yI 7 else(bif ilt 100 p.2.2 then yI 7 else yI 0))))):=by kernel_rfl
def oCk:List T→DT (T×Bool)
 | [.ag [.v (.int .i64 a),.v (.int .i64 b),.v (.int .i64 c),.v (.bool s),.ls .a .lim l,.ls .a .lim m]]=> .ret (.v (.int .i64 (bif zNu (a,b,c)then 7 else 0)),true)
 | _=> .no
theorem kCk:∀e j f,(oCk e).run=some (j,f)→∀k,KnP Tryz.prog k 94 e j f:=by
 intro e j f h k;unfold oCk at h;split at h
 ·rename_i a q c b l m;cases h;have g:∀p:Pt,((qC Tryz.prog (evD Tryz.prog (odT []) (loT []) 60) 94 [.ag (pC p++rC ⟨b,l,m⟩)] []).bind qF).run=yI (bif zNu p then 7 else 0):=fun p=>by
   rw[eCk];unfold zNu;cases ilt p.1 (-200000)<;>cases ilt 200000 p.1<;>cases ilt p.2.1 (-100)<;>cases ilt 100 p.2.1<;>cases ilt p.2.2 (-100)<;>cases ilt 100 p.2.2<;>rfl
  exact yM (cz:=[.ag (pC (a,q,c)++rC ⟨b,l,m⟩)]) yE jZ zZ (g (a,q,c)) rfl k
 ·cases h
def qGx(ck:Raw→Int)(ad su mu:Raw→Raw→Raw)(ae se me:Raw→Raw→Int)(cm ce:Raw→Raw→Int)(fr:Int→Raw)(eqB:Raw→Raw→Bool):rrT:=[(75,kcD (pR ck) true),(34,kcD (pRR fun a b=>some (ad a b,ae a b)) true),(48,kcD (pRR fun a b=>some (su a b,se a b)) true),(49,kcD (pRR fun a b=>some (mu a b,me a b)) true),(33,kcD (pRI fun a b=>(cm a b,ce a b)) true),(47,kcD (pI fr) true),(37,kcD (pB eqB) true)]
def Lb0:Lp:=⟨0,
 ⟨[.h]++(us' 22++([.h,.h,.h]++(us' 71))),[]⟩,
 ⟨[.h]++(us' 96),[]⟩,
 ⟨[.u,.u,.h]++(us' 94),[]⟩⟩
abbrev qQw:Code:=lpc Tryz.prog 46 [false,true,false,true,true]
theorem qTz:cAt Tryz.prog 46 [false,true,false,true,true]=some (.loop qQw):=by kernel_rfl
abbrev zVu(f:Od)(e:Lo):Hs→Option (Hs⊕(Ex×Hs)):=Lb0.stp (evD Tryz.prog f e 60) 46 [false,true,false,true,true] qQw
def Lb1:Lp:=⟨2,
 ⟨us' 7++([.t (.fn 172 [.op 1 0,.op 0 0]),.t (.fn 173 [.op 1 0,.op 0 0])]++(us' 61++([.h,.h,.h]++(us' 24)))),[.r [.h,.h,.h] 28,.r [.h] 46]⟩,
 ⟨us' 8++([.t (.fn 173 [.op 1 0,.op 0 0])]++(us' 88)),[.r [.h,.h,.h] 28,.r [.h] 46]⟩,
 ⟨[.u,.u,.h]++(us' 94),[.g,.g]⟩⟩
abbrev qQx:Code:=lpc Tryz.prog 46 [false,true,false,true,true,true,true]
theorem qUa:cAt Tryz.prog 46 [false,true,false,true,true,true,true]=some (.loop qQx):=by kernel_rfl
abbrev zVv(f:Od)(e:Lo):Hs→Option (Hs⊕(Ex×Hs)):=Lb1.stp (evD Tryz.prog f e 60) 46 [false,true,false,true,true,true,true] qQx
def iB0(l:List Wt)(k i:Nat):Hs:=⟨[.ls .a wT l,.ls .a wT l,.v (.int .i64 (.ofNat k)),.v (.int .i64 (.ofNat i))],[],[]⟩
abbrev rN(a:Raw):List T:=[.v (.bool a.neg),.ls .n .lim a.ln,.ls .n .lim a.ld]
def iB1(l:List Wt)(k i:Nat)(t:Raw)(e:Int):Hs:=⟨[.ls .a wT l,.v (.int .i64 (.ofNat k)),.v (.int .i64 (.ofNat i))],[],[rN t,[.v (.int .i64 e)]]⟩
abbrev St':=Option (Hs⊕(Ex×Hs))
def nx{α:Type}(i:Nat)(x:α):Option α:=bif Nat.blt (i+1) 9223372036854775808 then some x else none
theorem kK{α:Type}{i:Nat}{x:α}(h:i+1<9223372036854775808):nx i x=some x:=by
 unfold nx;rw[zO h];rfl
abbrev wA(l:List Wt)(i:Nat):Wt:=nth wT.zero l i
abbrev zJe(e:Int):St':=some (.inr (.r,⟨[.v (.int .i64 e)],[],[]⟩))
section
variable (ck:Raw→Int)(ad su mu:Raw→Raw→Raw)(ae se me:Raw→Raw→Int)(cm ce:Raw→Raw→Int)(fr:Int→Raw)(eqB:Raw→Raw→Bool)
abbrev OB:Od:=odT ((95,odR [pT,pT] oCp)::(94,odR [wT] oCk)::qGx ck ad su mu ae se me cm ce fr eqB)
abbrev b0K(x:Wt)(k:St'):St':=bif !ieq (ck (rw' x.2)) 0 then zJe (ck (rw' x.2))else(bif x.2.1 then zJe 1 else(bif ieq (.ofNat x.2.2.1.length) 0 then zJe 1 else k))
abbrev pr(i:Nat):Int:=Int.sub (.ofNat i) 1
theorem sB0(l:List Wt)(k i:Nat):zVu (OB ck ad su mu ae se me cm ce fr eqB) (loT []) (iB0 l k i)=bif Nat.blt i k then(bif Nat.blt i l.length then(bif !ieq (bif zNu (wA l i).1 then 7 else 0) 0 then zJe (bif zNu (wA l i).1 then 7 else 0)else(bif ilt 0 (.ofNat i)then(bif inW (pr i)then(bif nng (pr i)then(bif Nat.blt (pr i).toNat l.length then(bif ilt 0 (.ofNat i)then(bif !ilt (cpP (wA l (pr i).toNat).1 (wA l i).1) 0 then zJe 2 else b0K ck (wA l i) (nx i (.inl (iB0 l k (i+1)))))else b0K ck (wA l i) (nx i (.inl (iB0 l k (i+1)))))else none)else none)else none)else(bif ilt 0 (.ofNat i)then none else b0K ck (wA l i) (nx i (.inl (iB0 l k (i+1)))))))else none)else some (.inr (.x 1,⟨[.ls .a wT l],[],[]⟩)):=by kernel_rfl
def gB0(l:List Wt)(i:Nat)(_:Unit):Unit⊕Option Int:=bif zNu (wA l i).1 then .inr (some 7)else(bif ilt 0 (.ofNat i)&&!ilt (cpP (wA l (i-1)).1 (wA l i).1) 0 then .inr (some 2)else(bif !ieq (ck (rw' (wA l i).2)) 0 then .inr (some (ck (rw' (wA l i).2)))else(bif(wA l i).2.1||ieq (.ofNat (wA l i).2.2.1.length) 0 then .inr (some 1)else .inl ())))
def b0F(l:List Wt):Option Int:=fol (gB0 ck l) (fun _=>none) l.length 0 ()
def qIc(l:List Wt):Option Int→Ex×Hs
 | none=>(.x 1,⟨[.ls .a wT l],[],[]⟩)
 | some e=>(.r,⟨[.v (.int .i64 e)],[],[]⟩)
theorem lpB0(l:List Wt)(w:l.length<9223372036854775807):lpF (zVu (OB ck ad su mu ae se me cm ce fr eqB) (loT [])) l.length (iB0 l l.length 0)=some (qIc l (b0F ck l)):=
 jV (iv:=fun i(_:Unit)=>iB0 l l.length i) (g:=gB0 ck l) (d:=fun _=>none) (out:=qIc l) (n:=l.length) (fun _ _=>True)
  (fun i _ q _=>by
   rw[sB0];unfold gB0;simp only[b0K,zO q,ze,kK (show i+1<9223372036854775808 by omega)]
   cases i with
   | zero=>
    have e:ilt 0 (.ofNat 0)=false:=rfl;rw[e];cases zNu (wA l 0).1<;>cases ieq (ck (rw' (wA l 0).2)) 0<;>cases(wA l 0).2.1<;>cases ieq (.ofNat (wA l 0).2.2.1.length) 0<;>rfl
   | succ i=>
    have e:ilt 0 (.ofNat (i+1))=true:=rfl;have f:pr (i+1)= .ofNat i:=by show((i+1:Nat):Int)-1=(i:Int);omega
    have j:inW (.ofNat i)=true:=zO (show i<9223372036854775808 by omega)
    rw[e,f,j];have k:(Int.ofNat i).toNat=i:=rfl;rw[k];simp only[nng,zO (show i<l.length by omega),ze,vz]
    cases zNu (wA l (i+1)).1<;>cases ilt (cpP (wA l i).1 (wA l (i+1)).1) 0<;>cases ieq (ck (rw' (wA l (i+1)).2)) 0<;>cases(wA l (i+1)).2.1<;>cases ieq (.ofNat (wA l (i+1)).2.2.1.length) 0<;>rfl)
  (fun _ _ _ _ _ _=>trivial)
  (fun _ _=>by rw[sB0];simp only[jU (zq _),zf];rfl) l.length 0 () (by omega) trivial
theorem sB1(l:List Wt)(k i:Nat)(t:Raw)(e:Int):zVv (OB ck ad su mu ae se me cm ce fr eqB) (loT []) (iB1 l k i t e)=bif Nat.blt i k then(bif Nat.blt i l.length then(bif ieq e 0 then(bif ieq e 0 then nx i (.inl (iB1 l k (i+1) (ad t (rw' (wA l i).2)) (ae t (rw' (wA l i).2))))else nx i (.inl (iB1 l k (i+1) t e)))else(bif ieq e 0 then nx i (.inl (iB1 l k (i+1) (ad t (rw' (wA l i).2)) (ae t (rw' (wA l i).2))))else nx i (.inl (iB1 l k (i+1) t e))))else none)else some (.inr (.x 3,⟨[],[],[rN t,[.v (.int .i64 e)]]⟩)):=by kernel_rfl
def gB1(l:List Wt)(i:Nat)(a:Raw×Int):(Raw×Int)⊕(Raw×Int):= .inl (bif ieq a.2 0 then(ad a.1 (rw' (wA l i).2),ae a.1 (rw' (wA l i).2))else a)
def b1F(l:List Wt):Raw×Int:=fol (gB1 ad ae l) id l.length 0 (fr 0,0)
theorem lpB1(l:List Wt)(f:l.length<9223372036854775807):lpF (zVv (OB ck ad su mu ae se me cm ce fr eqB) (loT [])) l.length (iB1 l l.length 0 (fr 0) 0)=some (.x 3,⟨[],[],[rN (b1F ad ae fr l).1,[.v (.int .i64 (b1F ad ae fr l).2)]]⟩):=
 jV (iv:=fun i(a:Raw×Int)=>iB1 l l.length i a.1 a.2) (g:=gB1 ad ae l) (d:=id) (out:=fun a=>(.x 3,⟨[],[],[rN a.1,[.v (.int .i64 a.2)]]⟩)) (n:=l.length) (fun _ _=>True)
  (fun i a e _=>by
   rw[sB1];unfold gB1;simp only[zO e,ze,kK (show i+1<9223372036854775808 by omega)]
   cases ieq a.2 0<;>rfl)
  (fun _ _ _ _ _ _=>trivial)
  (fun _ _=>by rw[sB1];simp only[jU (zq _),zf];rfl) l.length 0 (fr 0,0) (by omega) trivial
def qTo:Sh:=⟨.x 1,[.l .a wT],[],[]⟩
def qTn:Sh:=⟨.r,[.i .i64],[],[]⟩
def shB1:Sh:=⟨.x 3,[],[],[[.b,.l .n .lim,.l .n .lim],[.i .i64]]⟩
abbrev LB:Lo:=loT [(46,[false,true,false,true,true],Lb0.row (lpR (zVu (OB ck ad su mu ae se me cm ce fr eqB) (loT [])) (fun q=>lnO (nth .u q.hs 2)) [qTo,qTn])),(46,[false,true,false,true,true,true,true],Lb1.row (lpR (zVv (OB ck ad su mu ae se me cm ce fr eqB) (loT [])) (fun q=>lnO (nth .u q.hs 1)) [shB1]))]
abbrev qVt(t:Raw):Option (T×Bool):=bif !ieq (cm t (fr 1)) 0 then yI 16 else yI 0
abbrev gd{α:Type}(b:Bool)(x:Option α):Option α:=bif b then x else none
abbrev bcT(t:Raw)(e:Int):Option (T×Bool):=bif !ieq e 0 then gd (ieq e e&&true) (gd (ieq e e&&true) (gd (ieq e e&&true) (bif !ieq e 0 then yI e else qVt cm fr ⟨false,[],[]⟩)))else qVt cm fr t
abbrev bc1(y:Option (Ex×Hs)):Option (T×Bool):=bif shT shB1 y then bcT cm fr ⟨bOf (hdT ((hsO y).ks.headD [])),lOf .lim (hdT ((hsO y).ks.headD []).tail),lOf .lim (hdT ((hsO y).ks.headD []).tail.tail)⟩ (iOf (hdT ((hsO y).ks.tail.headD [])))else none
abbrev y1B(l:List Wt):Option (Ex×Hs):=lpF (zVv (OB ck ad su mu ae se me cm ce fr eqB) (loT [])) l.length (iB1 l l.length 0 (fr 0) 0)
abbrev bc0(y:Option (Ex×Hs)):Option (T×Bool):=bif shT qTo y then bc1 cm fr (y1B ck ad su mu ae se me cm ce fr eqB (lOf wT (hdT (hsO y).hs)))else(bif shT qTn y then yI (iOf (hdT (hsO y).hs))else none)
theorem eBc(l:List Wt):((qC Tryz.prog (evD Tryz.prog (OB ck ad su mu ae se me cm ce fr eqB) (LB ck ad su mu ae se me cm ce fr eqB) 60) 46 [.ls .a wT l] []).bind qF).run=bif Nat.beq l.length 0 then yI 3 else(bif Nat.blt 4096 l.length then yI 4 else bc0 ck ad su mu ae se me cm ce fr eqB (lpF (zVu (OB ck ad su mu ae se me cm ce fr eqB) (loT [])) l.length (iB0 l l.length 0))):=by kernel_rfl
def bcE(l:List Wt):Int:=bif Nat.beq l.length 0 then 3 else(bif Nat.blt 4096 l.length then 4 else(match b0F ck l with
 | some e=>e
 | none=>bif !ieq (b1F ad ae fr l).2 0 then(b1F ad ae fr l).2 else(bif !ieq (cm (b1F ad ae fr l).1 (fr 1)) 0 then 16 else 0)))
theorem qVk(l:List Wt):((qC Tryz.prog (evD Tryz.prog (OB ck ad su mu ae se me cm ce fr eqB) (LB ck ad su mu ae se me cm ce fr eqB) 60) 46 [.ls .a wT l] []).bind qF).run=yI (bcE ck ad ae cm fr l):=by
 rw[eBc];unfold bcE;cases w:Nat.beq l.length 0 with
 | true=>rfl
 | false=>
  cases f:Nat.blt 4096 l.length with
  | true=>rfl
  | false=>
   have k:l.length<9223372036854775807:=by
    rcases qg 4096 l.length with g | g
    ·rw[zO g]at f;cases f
    ·omega
   simp only[zf];rw[lpB0 ck ad su mu ae se me cm ce fr eqB l k];cases b0F ck l with
   | some e=>rfl
   | none=>
    have q:bc0 ck ad su mu ae se me cm ce fr eqB (some (qIc l none))=bc1 cm fr (y1B ck ad su mu ae se me cm ce fr eqB l):=rfl;rw[q];show bc1 cm fr (y1B ck ad su mu ae se me cm ce fr eqB l)=_;unfold y1B;rw[lpB1 ck ad su mu ae se me cm ce fr eqB l k];show bcT cm fr (b1F ad ae fr l).1 (b1F ad ae fr l).2=_;cases j:ieq (b1F ad ae fr l).2 0 with
    | true=>simp only[bcT,qVt,j,zu,zf];cases ieq (cm (b1F ad ae fr l).1 (fr 1)) 0<;>rfl
    | false=>simp only[bcT,j,xK rfl,gd,jf,qy,ze]
end
abbrev lq{α:Type}(a:List α)(x:St'):St':=gd (Nat.ble (a.length+1) (a.length+1)) x
def oBc(bE:List Wt→Int):List T→DT (T×Bool)
 | [.ls .a (.prod (.prod (.int .i64) (.prod (.int .i64) (.int .i64))) zL) l]=> .ret (.v (.int .i64 (bE l)),true)
 | _=> .no
abbrev z0:Rt×Rt:=((false,[],[]),(false,[],[]))
section
variable (bE:List Wt→Int)(ck:Raw→Int)(ad su mu:Raw→Raw→Raw)(ae se me:Raw→Raw→Int)(cm ce:Raw→Raw→Int)(fr:Int→Raw)(eqB:Raw→Raw→Bool)
abbrev k5:List (List T):=[[],[],[],[],[]]
abbrev erM(e:Int):St':=some (.inr (.r,⟨[.v (.slice none 0 0),.v (.int .i64 e)],[],k5⟩))
abbrev m3(w v:Raw)(g:Rt×Rt)(k:Raw→St'):St':=bif !ieq (me w (rw' g.1)) 0 then erM (me w (rw' g.1))else(bif !ieq (me v (rw' g.2)) 0 then erM (me v (rw' g.2))else(bif !ieq (ae (mu w (rw' g.1)) (mu v (rw' g.2))) 0 then erM (ae (mu w (rw' g.1)) (mu v (rw' g.2)))else k (ad (mu w (rw' g.1)) (mu v (rw' g.2)))))
end
section
variable (bE:List Wt→Int)(ck:Raw→Int)(ad su mu:Raw→Raw→Raw)(ae se me:Raw→Raw→Int)(cm ce:Raw→Raw→Int)(fr:Int→Raw)(eqB:Raw→Raw→Bool)
abbrev erT(e:Int):Option (T×Bool):=some (.tu [.v (.slice none 0 0),.v (.int .i64 e)],true)
end
abbrev adA(a b:Raw):Raw:=opR a b (a.rat+b.rat)
abbrev suA(a b:Raw):Raw:=opR a b (a.rat-b.rat)
abbrev muA(a b:Raw):Raw:=opR a b (a.rat*b.rat)
abbrev aeA(a b:Raw):Int:=opE a b (a.rat+b.rat)
abbrev seA(a b:Raw):Int:=opE a b (a.rat-b.rat)
abbrev meA(a b:Raw):Int:=opE a b (a.rat*b.rat)
abbrev frA(n:Int):Raw:=Raw.of (n:Rat)
abbrev eqA(a b:Raw):Bool:=decide (a=b)
abbrev numA:rrT:=qGx Raw.chk adA suA muA aeA seA meA yQ xB frA eqA
theorem zNo:vD Tryz.prog (odT numA):=
 zS (zS (zS (zS (zS (zS (zS jZ fun e f j h k=>kN kEq e f h k) fun e f j h k=>kN zQk e f h k) fun e f j h k=>kN qZc e f h k) fun e f j h k=>kN qNn e f h k) fun e f j h k=>kN kSub e f h k) fun e f j h k=>kN qFw e f h k) fun e f j h k=>kN qZb e f h k
theorem qSr:vD Tryz.prog (OB Raw.chk adA suA muA aeA seA meA yQ xB frA eqA):=zS (zS zNo (jI kCk)) (jI kCp)
theorem qIz:gQ Tryz.prog (evD Tryz.prog (OB Raw.chk adA suA muA aeA seA meA yQ xB frA eqA) (loT []) 60):=kL yE qSr zZ 60
theorem jEk:wC Tryz.prog (LB Raw.chk adA suA muA aeA seA meA yQ xB frA eqA):=jO (jO zZ qIz qUa zGu) qIz qTz zGu
abbrev bE(l:List Wt):Int:=bcE Raw.chk adA aeA yQ frA l
theorem kBc:∀e j f,(oBc bE e).run=some (j,f)→∀k,KnP Tryz.prog k 46 e j f:=by
 intro e j f h k;unfold oBc at h;split at h
 ·rename_i l;cases h;exact yM (cz:=[.ls .a wT l]) yE qSr jEk (qVk Raw.chk adA suA muA aeA seA meA yQ xB frA eqA l) rfl k
 ·cases h
theorem zAe{B:Bm}{r:Rd}{A:Ty}{t:T}{v:Value}(h:Rep B r (.tu [.v (.slice none 0 0),t]) v):Rep B r (.tu [.ls .a A [],t]) v:=by
 obtain⟨vs,rfl,e⟩:=h.tuI;match vs,e with
 | [a,b],⟨f,j,_⟩=>exact Rep.mkTu (vs:=[a,b]) ⟨zDg f,j,trivial⟩
def Llg:Lp:=⟨0,
 ⟨[.h,.u,.u,.h,.h]++(us' 45),[]⟩,
 ⟨[.h,.u,.u,.h]++(us' 46),[]⟩,
 ⟨[.u,.u,.h]++(us' 47),[]⟩⟩
abbrev qRi:Code:=lpc Tryz.prog 38 [false,true,false,true,true]
theorem qUk:cAt Tryz.prog 38 [false,true,false,true,true]=some (.loop qRi):=by kernel_rfl
abbrev zVx(f:Od)(e:Lo):Hs→Option (Hs⊕(Ex×Hs)):=Llg.stp (evD Tryz.prog f e 60) 38 [false,true,false,true,true] qRi
def Lwd:Lp:=⟨0,
 ⟨[.h,.u,.u,.h]++(us' 25),[]⟩,
 ⟨[.h]++(us' 28),[]⟩,
 ⟨[.u,.u,.h]++(us' 26),[]⟩⟩
abbrev qRr:Code:=lpc Tryz.prog 65 [false,true,false,true]
theorem qUt:cAt Tryz.prog 65 [false,true,false,true]=some (.loop qRr):=by kernel_rfl
abbrev zWa(f:Od)(e:Lo):Hs→Option (Hs⊕(Ex×Hs)):=Lwd.stp (evD Tryz.prog f e 60) 65 [false,true,false,true] qRr
def iLg(l:List Wt)(c:Int)(i:Nat):Hs:=⟨[.ls .a wT l,.v (.int .i64 c),.v (.int .i64 (.ofNat i))],[],[]⟩
def iWd(l:List Rt)(i:Nat):Hs:=⟨[.ls .a zL l,.v (.int .i64 (.ofNat i))],[],[]⟩
abbrev wrS(c:Int)(x:Wt):Int:=wq (Int.add c (.ofNat x.2.2.2.length))
theorem sLg(l:List Wt)(c:Int)(i:Nat):zVx (odT []) (loT []) (iLg l c i)=bif Nat.blt i l.length then(bif Nat.blt i l.length then(bif ilt 4 (.ofNat (wA l i).2.2.1.length)then some (.inr (.r,⟨[.v (.bool true)],[],[]⟩))else(bif Nat.blt i l.length then nx i (.inl (iLg l (wrS c (wA l i)) (i+1)))else none))else none)else some (.inr (.x 0,⟨[.ls .a wT l,.v (.int .i64 c)],[],[]⟩)):=by kernel_rfl
def gLg(l:List Wt)(i:Nat)(c:Int):Int⊕Option Int:=bif ilt 4 (.ofNat (wA l i).2.2.1.length)then .inr none else .inl (wrS c (wA l i))
def lgF(l:List Wt):Option Int:=fol (gLg l) some l.length 0 0
def qSx(l:List Wt):Option Int→Ex×Hs
 | some c=>(.x 0,⟨[.ls .a wT l,.v (.int .i64 c)],[],[]⟩)
 | none=>(.r,⟨[.v (.bool true)],[],[]⟩)
theorem lpLg(l:List Wt)(f:l.length<9223372036854775807):lpF (zVx (odT []) (loT [])) l.length (iLg l 0 0)=some (qSx l (lgF l)):=
 jV (iv:=fun i c=>iLg l c i) (g:=gLg l) (d:=some) (out:=qSx l) (n:=l.length) (fun _ _=>True)
  (fun i c e _=>by
   rw[sLg];unfold gLg;simp only[zO e,ze,kK (show i+1<9223372036854775808 by omega),wrS]
   cases ilt 4 (.ofNat (wA l i).2.2.1.length)<;>cases inW (Int.add c (.ofNat (wA l i).2.2.2.length))<;>rfl)
  (fun _ _ _ _ _ _=>trivial)
  (fun _ _=>by rw[sLg];simp only[jU (zq _),zf];rfl) l.length 0 0 (by omega) trivial
abbrev rA(l:List Rt)(i:Nat):Rt:=nth zL.zero l i
theorem sWd(l:List Rt)(i:Nat):zWa (odT []) (loT []) (iWd l i)=bif Nat.blt i l.length then(bif Nat.blt i l.length then(bif ilt 20 (.ofNat (rA l i).2.1.length)then some (.inr (.r,⟨[.v (.bool true)],[],[]⟩))else(bif Nat.blt i l.length then(bif ilt 20 (.ofNat (rA l i).2.2.length)then some (.inr (.r,⟨[.v (.bool true)],[],[]⟩))else nx i (.inl (iWd l (i+1))))else none))else none)else some (.inr (.x 0,⟨[.ls .a zL l],[],[]⟩)):=by kernel_rfl
def gWd(l:List Rt)(i:Nat)(_:Unit):Unit⊕Bool:=bif ilt 20 (.ofNat (rA l i).2.1.length)||ilt 20 (.ofNat (rA l i).2.2.length)then .inr true else .inl ()
def wdF(l:List Rt):Bool:=fol (gWd l) (fun _=>false) l.length 0 ()
def qTc(l:List Rt):Bool→Ex×Hs
 | false=>(.x 0,⟨[.ls .a zL l],[],[]⟩)
 | true=>(.r,⟨[.v (.bool true)],[],[]⟩)
theorem lpWd(l:List Rt)(f:l.length<9223372036854775807):lpF (zWa (odT []) (loT [])) l.length (iWd l 0)=some (qTc l (wdF l)):=
 jV (iv:=fun i(_:Unit)=>iWd l i) (g:=gWd l) (d:=fun _=>false) (out:=qTc l) (n:=l.length) (fun _ _=>True)
  (fun i _ e _=>by
   rw[sWd];unfold gWd;simp only[zO e,ze,kK (show i+1<9223372036854775808 by omega)]
   cases ilt 20 (.ofNat (rA l i).2.1.length)<;>cases ilt 20 (.ofNat (rA l i).2.2.length)<;>rfl)
  (fun _ _ _ _ _ _=>trivial)
  (fun _ _=>by rw[sWd];simp only[jU (zq _),zf];rfl) l.length 0 () (by omega) trivial
def shLx:Sh:=⟨.x 0,[.l .a wT,.i .i64],[],[]⟩
def qQg:Sh:=⟨.r,[.b],[],[]⟩
def shWx:Sh:=⟨.x 0,[.l .a zL],[],[]⟩
abbrev LL7:Lo:=loT [(38,[false,true,false,true,true],Llg.row (lpR (zVx (odT []) (loT [])) (fun q=>lnO (nth .u q.hs 0)) [shLx,qQg])),(65,[false,true,false,true],Lwd.row (lpR (zWa (odT []) (loT [])) (fun q=>lnO (nth .u q.hs 0)) [shWx,qQg]))]
def lgB(n:Nat)(c:Int):Bool:=bif ilt 110 (.ofNat n)then(bif !ilt 4096 (.ofNat n)then true else(bif ilt 5000 (.ofNat n)then true else(bif !ilt 110 (.ofNat n)then ilt 110 c else false)))else(bif ilt 5000 (.ofNat n)then true else(bif !ilt 110 (.ofNat n)then ilt 110 c else false))
abbrev lgW(n:Nat)(c:Int):Option (T×Bool):=bif ilt 110 (.ofNat n)then(bif !ilt 4096 (.ofNat n)then yB true else(bif ilt 5000 (.ofNat n)then yB true else(bif !ilt 110 (.ofNat n)then yB (ilt 110 c)else yB false)))else(bif ilt 5000 (.ofNat n)then yB true else(bif !ilt 110 (.ofNat n)then yB (ilt 110 c)else yB false))
theorem qZt(n:Nat)(c:Int):lgW n c=yB (lgB n c):=by
 unfold lgB;simp only[lgW];cases ilt 110 (.ofNat n)<;>cases ilt 4096 (.ofNat n)<;>cases ilt 5000 (.ofNat n)<;>rfl
abbrev lgY(y:Option (Ex×Hs)):Option (T×Bool):=bif shT shLx y then lgW (lOf wT (hdT (hsO y).hs)).length (iOf (hdT (hsO y).hs.tail))else(bif shT qQg y then yB (bOf (hdT (hsO y).hs))else none)
theorem eLg(l:List Wt):((qC Tryz.prog (evD Tryz.prog (odT []) (LL7) 60) 38 [.ls .a wT l] []).bind qF).run=lgY (lpF (zVx (odT []) (loT [])) l.length (iLg l 0 0)):=by kernel_rfl
def lgZ(l:List Wt):Bool:=match lgF l with
 | some c=>lgB l.length c
 | none=>true
theorem lY:gQ Tryz.prog (evD Tryz.prog (odT []) (loT []) 60):=kL yE jZ zZ 60
theorem qGj:wC Tryz.prog LL7:=jO (jO zZ lY qUt zGu) lY qUk zGu
def oLg(fL:List Wt→Bool):List T→DT (T×Bool)
 | [.ls .a (.prod (.prod (.int .i64) (.prod (.int .i64) (.int .i64))) zL) l]=>grd (Nat.blt l.length 9223372036854775807) (.ret (.v (.bool (fL l)),true))
 | _=> .no
theorem jL{a b:Nat}(h:Nat.blt a b=true):a<b:=by
 rcases qg a b with g | g
 ·exact g
 ·rw[jU g]at h;cases h
theorem kLg:∀e j f,(oLg lgZ e).run=some (j,f)→∀k,KnP Tryz.prog k 38 e j f:=by
 intro e j f h k;unfold oLg at h;split at h
 ·rename_i l;obtain⟨w,y⟩:=zR h;cases y;have q:((qC Tryz.prog (evD Tryz.prog (odT []) (LL7) 60) 38 [.ls .a wT l] []).bind qF).run=yB (lgZ l):=by
   rw[eLg,lpLg l (jL w)];unfold lgZ;cases lgF l with
   | none=>rfl
   | some c=>exact qZt l.length c
  exact yM (cz:=[.ls .a wT l]) yE jZ qGj q rfl k
 ·cases h
abbrev wdY(y:Option (Ex×Hs)):Option (T×Bool):=bif shT shWx y then yB (ilt 20 (.ofNat (lOf zL (hdT (hsO y).hs)).length))else(bif shT qQg y then yB (bOf (hdT (hsO y).hs))else none)
theorem eWd(l:List Rt):((qC Tryz.prog (evD Tryz.prog (odT []) (LL7) 60) 65 [.ls .a zL l] []).bind qF).run=wdY (lpF (zWa (odT []) (loT [])) l.length (iWd l 0)):=by kernel_rfl
def wdZ(l:List Rt):Bool:=bif wdF l then true else ilt 20 (.ofNat l.length)
def oWd(fW:List Rt→Bool):List T→DT (T×Bool)
 | [.ls .a zL l]=>grd (Nat.blt l.length 9223372036854775807) (.ret (.v (.bool (fW l)),true))
 | _=> .no
theorem kWd:∀e j f,(oWd wdZ e).run=some (j,f)→∀k,KnP Tryz.prog k 65 e j f:=by
 intro e j f h k;unfold oWd at h;split at h
 ·rename_i l;obtain⟨w,y⟩:=zR h;cases y;have q:((qC Tryz.prog (evD Tryz.prog (odT []) (LL7) 60) 65 [.ls .a zL l] []).bind qF).run=yB (wdZ l):=by
   rw[eWd,lpWd l (jL w)];unfold wdZ;cases wdF l<;>rfl
  exact yM (cz:=[.ls .a zL l]) yE jZ qGj q rfl k
 ·cases h
def oAw:List T→DT (T×Bool)
 | []=> .ret (.v (.bool true),true)
 | _=> .no
section
variable (fL:List Wt→Bool)(fW:List Rt→Bool)(mR:List Wt→List Wt→Raw→List Wt)(mE:List Wt→List Wt→Raw→Int)(fr:Int→Raw)(cE:List Wt→Int)(sM:List Wt→List Wt→Bool)
abbrev gw(a b:List Wt){α:Type}(x:Option α):Option α:=gd (Nat.ble a.length 100000&&Nat.ble b.length 100000) x
end
theorem qHf{a:Raw}(h:a.chk=0)(q:∀y∈a.ln,y<4294967296)(w:∀y∈a.ld,y<4294967296):Raw.of a.rat=a∧lX a.rat=0:=by
 obtain⟨T,X,B,E,G,J,K⟩:=Raw.chk_ok h;have j:(sgn a.neg (val a.ln)).natAbs=val a.ln:=by unfold sgn;split<;>omega
 have z:Nat.gcd (val a.ln) a.d=1:=by
  unfold Raw.d;split
  ·exact Nat.gcd_one_right _
  ·rename_i f;exact xg fun N=>K ⟨by omega,N⟩
 have hd:=a.d_pos;have k:a.rat.num=sgn a.neg (val a.ln):=by
  unfold Raw.rat;rw[ut,j,wa,z,qm (by omega)];simp
 have q2:a.rat.den=a.d:=by
  unfold Raw.rat;rw[dr,j,wa,z,qm (by omega)];simp
 have Q:val a.ln<jQ:=z8 (kJ q) (ji (by omega) T)
 have R:val a.ld<jQ:=z8 (kJ w) (ji (by omega) X)
 have A:rW a.rat.den=val a.ld:=by
  rw[q2];unfold rW Raw.d;by_cases f:val a.ld=0
  ·rw[qn f,qn rfl,f]
  ·rw[qm f,qm G]
 have q4:decide (a.rat.num<0)=a.neg:=by
  rw[k];cases M:a.neg with
  | false=>exact we (by unfold sgn;simp)
  | true=>
   have:val a.ln≠0:=fun e=>J ⟨e,.inl M⟩;exact kn (by unfold sgn;simp;omega)
 constructor
 ·have e:Raw.of a.rat=⟨a.neg,kI (val a.ln),kI (val a.ld)⟩:=by unfold Raw.of;rw[q4,k,j,A]
  rw[e,←zFw q B,←zFw w E]
 ·unfold lX;rw[k,j,A,qn ⟨Q,R⟩]
theorem zUt{a b:Raw}{q:Rat}(ha:a.chk=0)(f:b.chk=0)(h:lX q=0):Gv.opE a b q=0∧opR a b q=Raw.of q:=by
 have e:Gv.opE a b q=0:=by unfold Gv.opE;rw[ha,f,h];rfl
 exact⟨e,qn e⟩
theorem qTl:lX 0=0:=by unfold lX;rw[qn];exact⟨by decide,by decide⟩
theorem fr0:frA 0=Raw.of 0:=by show Raw.of ((0:Int):Rat)=_;rw[Rat.intCast_zero]
theorem qMl:(frA 0).chk=0:=by rw[fr0];exact Raw.of_chk qTl
theorem qMm:(frA 0).rat=0:=by rw[fr0];exact Raw.of_rat 0
abbrev nT:Ty:= .int .i64
abbrev spT:Ty:= .prod nT nT
abbrev vi(n:Int):T:= .v (.int .i64 n)
abbrev vn(n:Nat):T:= .v (.int .i64 (.ofNat n))
abbrev nI(l:List Int)(i:Nat):Int:=nth nT.zero l i
def iIx(f e:Int)(l:List Int)(n i:Nat):Hs:=⟨[.ls .a nT l,vn n,vn i],[],[[vi f,vi e]]⟩
def Lix:Lp:=⟨1,
 ⟨[.h,.t (.fn 242 [.op 0 0])]++(us' 5++([.h,.h]++(us' 10))),[.r [.h,.h] 239]⟩,
 ⟨us' 19,[.g]⟩,
 ⟨us' 4++([.h]++(us' 14)),[.g]⟩⟩
abbrev qRf:Code:=lpc Tryz.prog 269 [false,true,false,true]
theorem qUi:cAt Tryz.prog 269 [false,true,false,true]=some (.loop qRf):=by kernel_rfl
abbrev zVw(f:Od)(e:Lo):Hs→Option (Hs⊕(Ex×Hs)):=Lix.stp (evD Tryz.prog f e 60) 269 [false,true,false,true] qRf
theorem sIx(f e:Int)(l:List Int)(n i:Nat):zVw (odT []) (loT []) (iIx f e l n i)=bif ilt (.ofNat i) (.ofNat n)then gd (Nat.blt i l.length) (bif ilt (nth nT.zero l i) f then some (.inr (.r,⟨[vn i],[],[[]]⟩))else(bif ilt e (nth nT.zero l i)then some (.inr (.r,⟨[vn i],[],[[]]⟩))else nx i (.inl (iIx f e l n (i+1)))))else some (.inr (.x 0,⟨[],[],[[]]⟩)):=by kernel_rfl
def oI(f e x:Int):Bool:=ilt x f||ilt e x
def gIx(f e:Int)(l:List Int)(i:Nat)(_:Unit):Unit⊕Option Nat:=bif oI f e (nI l i)then .inr (some i)else .inl ()
def ixF(f e:Int)(l:List Int):Option Nat:=fol (gIx f e l) (fun _=>none) l.length 0 ()
def qSv:Option Nat→Ex×Hs
 | none=>(.x 0,⟨[],[],[[]]⟩)
 | some i=>(.r,⟨[vn i],[],[[]]⟩)
theorem lpIx(f e:Int)(l:List Int)(k:l.length<9223372036854775807):lpF (zVw (odT []) (loT [])) l.length (iIx f e l l.length 0)=some (qSv (ixF f e l)):=
 jV (iv:=fun i(_:Unit)=>iIx f e l l.length i) (g:=gIx f e l) (d:=fun _=>none) (out:=qSv) (n:=l.length) (fun _ _=>True)
  (fun i _ j _=>by
   rw[sIx];show(bif Nat.blt i l.length then _ else _)=_;unfold gIx oI nI;simp only[gd,zO j,ze,kK (show i+1<9223372036854775808 by omega)]
   cases ilt (nth nT.zero l i) f<;>cases ilt e (nth nT.zero l i)<;>rfl)
  (fun _ _ _ _ _ _=>trivial)
  (fun _ _=>by rw[sIx];show(bif Nat.blt l.length l.length then _ else _)=_;rw[jU (zq _),zf];rfl) l.length 0 () (by omega) trivial
def qTq:Sh:=⟨.x 0,[],[],[[]]⟩
def qTp:Sh:=⟨.r,[.i .i64],[],[[]]⟩
abbrev LIx:Lo:=loT [(269,[false,true,false,true],Lix.row (lpR (zVw (odT []) (loT [])) (fun q=>lnO (nth .u q.hs 0)) [qTq,qTp]))]
abbrev yIx(f e:Int)(l:List Int):Option (Ex×Hs):=lpF (zVw (odT []) (loT [])) l.length (iIx f e l l.length 0)
theorem eHas(f e:Int)(l:List Int):((qC Tryz.prog (evD Tryz.prog (odT []) (LIx) 60) 184 [.ag [vi f,vi e],.ls .a nT l] []).bind qF).run=bif shT qTq ((yIx f e l))then some (.v (.bool true),true)else gd (shT qTp ((yIx f e l))) (some (.v (.bool (bif !(ilt (iOf (hdT ((hsO ((yIx f e l))).hs))) 0)then false else true)),true)):=by kernel_rfl
theorem qZv:wC Tryz.prog LIx:=jO zZ lY qUi zGu
def yD(f e:Int)(l:List Int):Bool:=match ixF f e l with
 | none=>true
 | some _=>false
def qOl:List T→DT (T×Bool)
 | [.ag [.v (.int .i64 f),.v (.int .i64 e)],.ls .a (.int .i64) l]=>grd (Nat.blt l.length 9223372036854775807) (.ret (.v (.bool (yD f e l)),true))
 | _=> .no
theorem kHas:∀w z y,(qOl w).run=some (z,y)→∀k,KnP Tryz.prog k 184 w z y:=by
 intro w z y h k;unfold qOl at h;split at h
 ·rename_i j f l;obtain⟨A,B⟩:=zR h;cases B;have q:=eHas j f l;rw[show yIx j f l=_ from lpIx j f l (jL A)]at q;have e:((qC Tryz.prog (evD Tryz.prog (odT []) (LIx) 60) 184 [.ag [vi j,vi f],.ls .a nT l] []).bind qF).run=yB (yD j f l):=by
   rw[q];unfold yD;cases ixF j f l<;>rfl
  exact yM (cz:=[.ag [vi j,vi f],.ls .a nT l]) yE jZ qZv e rfl k
 ·cases h
theorem qMq{q j:Int}{l:List Int}{i:Nat}(h:oI q j (nI l i)=false):q≤nI l i∧nI l i≤j:=by
 unfold oI at h;simp only[xr]at h;obtain⟨e,f⟩:=h;exact⟨u7.1 fun k=>(by rw[gL k]at e;cases e),u7.1 fun k=>(by rw[gL k]at f;cases f)⟩
theorem zWz{q f:Int}{l:List Int}:∀(k i:Nat),fol (gIx q f l) (fun _=>none) k i ()=none→∀j,i≤j→j<i+k→q≤nI l j∧nI l j≤f
 | 0,i,_,j,w,y=>by omega
 | k+1,i,h,j,w,y=>by
  simp only[fol,gIx]at h;cases e:oI q f (nI l i)with
  | true=>rw[e]at h;cases h
  | false=>
   rw[e]at h;rcases kz w with rfl | hlt
   ·exact qMq e
   ·exact zWz k (i+1) h j hlt (by omega)
theorem jAg{l:List Int}{i:Nat}(e:i<l.length):nI l i=l[i]:=by rw[nI,qW];simp[e]
theorem zUc{f e:Int}{l:List Int}(h:yD f e l=true){j:Nat}(q:j<l.length):f≤nI l j∧nI l j≤e:=by
 unfold yD at h;cases k:ixF f e l with
 | some i=>rw[k]at h;cases h
 | none=>exact zWz l.length 0 k j (qu _) (by omega)
def iC1(g:List (List Int))(c:List Int)(g2:List (List Int))(n k:Nat)(e:List Int)(m i:Nat):Hs:=⟨[.ls .a nT.list g,.ls .a nT c,.ls .a nT.list g2,vn n,vn k,.ls .a nT e,vn m,vn i],[],[]⟩
def Lc1:Lp:=⟨0,
 ⟨[.h]++(us' 3++([.h]++(us' 10++([.h,.h,.h]++(us' 11++([.h,.h,.h]++(us' 28))))))),[]⟩,
 ⟨[.h]++(us' 14++([.h,.h,.h]++(us' 42))),[]⟩,
 ⟨[.u,.u,.h]++(us' 57),[]⟩⟩
abbrev qQz:Code:=lpc Tryz.prog 157 [false,true,true,true,false,false,true,true,false,false,true,false,true,true]
theorem qUc:cAt Tryz.prog 157 [false,true,true,true,false,false,true,true,false,false,true,false,true,true]=some (.loop qQz):=by kernel_rfl
abbrev qBv(f:Od)(e:Lo):Hs→Option (Hs⊕(Ex×Hs)):=Lc1.stp (evD Tryz.prog f e 60) 157 [false,true,true,true,false,false,true,true,false,false,true,false,true,true] qQz
theorem sC1(g g2:List (List Int))(c e:List Int)(n k m i:Nat):qBv (odT []) (loT []) (iC1 g c g2 n k e m i)=bif ilt (.ofNat i) (.ofNat m)then gd (Nat.blt i e.length) (bif ilt (nth nT.zero e i) (Int.negSucc 1073741823)then some (.inr (.r,⟨[vn 1],[],[]⟩))else(bif ilt (.ofNat 1073741824) (nth nT.zero e i)then some (.inr (.r,⟨[vn 1],[],[]⟩))else(bif ilt (.ofNat 0) (.ofNat i)then gd (inW (pr i)) (gd (nng (pr i)) (gd (Nat.blt ((pr i).toNat) c.length) (bif !(ilt (nth nT.zero c ((pr i).toNat)) (nth nT.zero e i))then some (.inr (.r,⟨[vn 1],[],[]⟩))else nx i (.inl (iC1 g c g2 n k e m (i+1))))))else nx i (.inl (iC1 g c g2 n k e m (i+1))))))else some (.inr (.x 4,⟨[.ls .a nT.list g,.ls .a nT.list g2,vn n,vn k],[],[]⟩)):=by kernel_rfl
def qDy(c e:List Int)(i:Nat):Bool:=ilt (nI e i) (Int.negSucc 1073741823)||(ilt (.ofNat 1073741824) (nI e i)||(ilt (.ofNat 0) (.ofNat i)&&!ilt (nI c (i-1)) (nI e i)))
def gC1(c e:List Int)(i:Nat)(_:Unit):Unit⊕Bool:=bif qDy c e i then .inr true else .inl ()
def c1F(c e:List Int):Bool:=fol (gC1 c e) (fun _=>false) e.length 0 ()
def zYc(g g2:List (List Int))(n k:Nat):Bool→Ex×Hs
 | false=>(.x 4,⟨[.ls .a nT.list g,.ls .a nT.list g2,vn n,vn k],[],[]⟩)
 | true=>(.r,⟨[vn 1],[],[]⟩)
theorem prS(i:Nat):pr (i+1)= .ofNat i:=by show((i+1:Nat):Int)-1=(i:Int);omega
theorem yT{i:Nat}(h:i<9223372036854775808):inW (.ofNat i)=true:=zO h
theorem lpC1(g g2:List (List Int))(c f:List Int)(n k:Nat)(w:f.length<9223372036854775807)(y:f.length≤c.length):lpF (qBv (odT []) (loT [])) f.length (iC1 g c g2 n k f f.length 0)=some (zYc g g2 n k (c1F c f)):=
 jV (iv:=fun i(_:Unit)=>iC1 g c g2 n k f f.length i) (g:=gC1 c f) (d:=fun _=>false) (out:=zYc g g2 n k) (n:=f.length) (fun _ _=>True)
  (fun i _ j _=>by
   rw[sC1];show(bif Nat.blt i f.length then _ else _)=_;unfold gC1 qDy nI;simp only[gd,zO j,ze,kK (show i+1<9223372036854775808 by omega)]
   cases i with
   | zero=>
    have e:ilt (.ofNat 0) (.ofNat 0)=false:=rfl;rw[e];cases ilt (nth nT.zero f 0) (Int.negSucc 1073741823)<;>cases ilt (.ofNat 1073741824) (nth nT.zero f 0)<;>rfl
   | succ i=>
    have e:ilt (.ofNat 0) (.ofNat (i+1))=true:=rfl;rw[e,prS,yT (show i<9223372036854775808 by omega)]
    have q:(Int.ofNat i).toNat=i:=rfl;rw[q];simp only[nng,zO (show i<c.length by omega),ze,vz]
    cases ilt (nth nT.zero f (i+1)) (Int.negSucc 1073741823)<;>cases ilt (.ofNat 1073741824) (nth nT.zero f (i+1))<;>cases ilt (nth nT.zero c i) (nth nT.zero f (i+1))<;>rfl)
  (fun _ _ _ _ _ _=>trivial)
  (fun _ _=>by rw[sC1];show(bif Nat.blt f.length f.length then _ else _)=_;rw[jU (zq _),zf];rfl) f.length 0 () (by omega) trivial
def hC1:Hs→DT (Ex×Hs)
 | ⟨[.ls .a (.list (.int .i64)) g,.ls .a (.int .i64) c,.ls .a (.list (.int .i64)) g2,.v (.int .i64 (.ofNat n)),.v (.int .i64 (.ofNat k)),.ls .a (.int .i64) e,.v (.int .i64 (.ofNat m)),.v (.int .i64 (.ofNat 0))],[],[]⟩=>grd (Nat.beq m e.length&&(Nat.ble e.length c.length&&Nat.blt e.length 9223372036854775807)) (.ite (c1F c e) (.ret (zYc g g2 n k true)) (.ret (zYc g g2 n k false)))
 | _=> .no
theorem qXx:∀q y,(hC1 q).run=some y→∃n,It (qBv (odT []) (loT [])) n q y:=fun q y h=>by
 unfold hC1 at h;split at h
 ·rename_i g c g2 n k e m;obtain⟨f,j⟩:=zR h;simp only[zd,qv]at f;obtain⟨w,z,A⟩:=f;obtain rfl:=zV w;have:=kY _ _ (lpC1 g g2 c e n k (jL A) z);cases B:c1F c e<;>rw[B]at j this<;>cases j<;>exact this
 ·cases h
abbrev LC1:Lo:=loT [(157,[false,true,true,true,false,false,true,true,false,false,true,false,true,true],Lc1.row hC1)]
theorem qZn:wC Tryz.prog LC1:=jO zZ lY qUc qXx
def iC0(q g:List (List Int))(n k:Nat):Hs:=⟨[.ls .a nT.list q,.ls .a nT.list g,vn n,vn k],[],[]⟩
def iSz(v:Int)(g:List (List Int))(n k:Nat):Hs:=⟨[vi v,.ls .a nT.list g,vn n,vn k],[],[]⟩
abbrev gI(g:List (List Int))(k:Nat):List Int:=nth nT.list.zero g k
def Lc0:Lp:=⟨0,
 ⟨[.h]++(us' 14++([.h,.h,.h]++(us' 42))),[]⟩,
 ⟨[.h]++(us' 59),[]⟩,
 ⟨[.u,.u,.h]++(us' 57),[]⟩⟩
abbrev qQy:Code:=lpc Tryz.prog 157 [false,true,false,true,true]
theorem qUb:cAt Tryz.prog 157 [false,true,false,true,true]=some (.loop qQy):=by kernel_rfl
abbrev qBu(f:Od)(e:Lo):Hs→Option (Hs⊕(Ex×Hs)):=Lc0.stp (evD Tryz.prog f e 60) 157 [false,true,false,true,true] qQy
def Lsz:Lp:=⟨0,
 ⟨us' 3++([.h,.u,.u,.h,.h,.h]++(us' 9)),[]⟩,
 ⟨us' 3++([.h]++(us' 14)),[]⟩,
 ⟨[.u,.u,.h]++(us' 15),[]⟩⟩
abbrev qRq:Code:=lpc Tryz.prog 228 [false,true,false,true,true]
theorem qUs:cAt Tryz.prog 228 [false,true,false,true,true]=some (.loop qRq):=by kernel_rfl
abbrev zVz(f:Od)(e:Lo):Hs→Option (Hs⊕(Ex×Hs)):=Lsz.stp (evD Tryz.prog f e 60) 228 [false,true,false,true,true] qRq
theorem sC0(q g:List (List Int))(n k:Nat):qBu (odT []) LC1 (iC0 q g n k)=bif ilt (.ofNat k) (.ofNat n)then gd (Nat.blt k g.length) (bif ieq (.ofNat ((gI g k).length)) (.ofNat 0)then some (.inr (.r,⟨[vn 3],[],[]⟩))else(bif ilt (.ofNat 32) (.ofNat ((gI g k).length))then some (.inr (.r,⟨[vn 4],[],[]⟩))else gd ((Nat.beq ((gI g k).length) ((gI g k).length))&&((Nat.ble ((gI g k).length) ((gI g k).length))&&(Nat.blt ((gI g k).length) 9223372036854775807))) (bif c1F (gI g k) (gI g k)then some (.inr (.r,⟨[vn 1],[],[]⟩))else nx k (.inl (iC0 q g n (k+1))))))else some (.inr (.x 1,⟨[.ls .a nT.list q],[],[]⟩)):=by kernel_rfl
theorem sSz(v:Int)(g:List (List Int))(n k:Nat):zVz (odT []) (loT []) (iSz v g n k)=bif ilt (.ofNat k) (.ofNat n)then gd (Nat.blt k g.length) (gd (inW (v.mul (.ofNat ((gI g k).length)))) (nx k (.inl (iSz (v.mul (.ofNat ((gI g k).length))) g n (k+1)))))else some (.inr (.x 0,⟨[vi v],[],[]⟩)):=by kernel_rfl
def gC0(g:List (List Int))(k:Nat)(_:Unit):Unit⊕Option Int:=bif ieq (.ofNat (gI g k).length) (.ofNat 0)then .inr (some 3)else(bif ilt (.ofNat 32) (.ofNat (gI g k).length)then .inr (some 4)else(bif c1F (gI g k) (gI g k)then .inr (some 1)else .inl ()))
def c0F(g:List (List Int)):Option Int:=fol (gC0 g) (fun _=>none) g.length 0 ()
def zYb(q:List (List Int)):Option Int→Ex×Hs
 | none=>(.x 1,⟨[.ls .a nT.list q],[],[]⟩)
 | some e=>(.r,⟨[vi e],[],[]⟩)
theorem zGr{c:List Int}(h:ilt (.ofNat 32) (.ofNat c.length)=false):c.length≤32:=by
 have h:Nat.blt 32 c.length=false:=h;rcases qg 32 c.length with g | g
 ·rw[zO g]at h;cases h
 ·exact g
theorem lpC0(q g:List (List Int))(j:g.length<9223372036854775807):lpF (qBu (odT []) LC1) g.length (iC0 q g g.length 0)=some (zYb q (c0F g)):=
 jV (iv:=fun k(_:Unit)=>iC0 q g g.length k) (g:=gC0 g) (d:=fun _=>none) (out:=zYb q) (n:=g.length) (fun _ _=>True)
  (fun k _ e _=>by
   rw[sC0];show(bif Nat.blt k g.length then _ else _)=_;unfold gC0;cases f:ilt (.ofNat 32) (.ofNat (gI g k).length)with
   | true=>simp only[gd,zO e,ze];cases ieq (.ofNat (gI g k).length) (.ofNat 0)<;>rfl
   | false=>
    have:=zGr f;simp only[gd,zO e,ze,zf,kK (show k+1<9223372036854775808 by omega),jD,yK (zq (gI g k).length),zO (show(gI g k).length<9223372036854775807 by omega),jf]
    cases ieq (.ofNat (gI g k).length) (.ofNat 0)<;>cases c1F (gI g k) (gI g k)<;>rfl)
  (fun _ _ _ _ _ _=>trivial)
  (fun _ _=>by rw[sC0];show(bif Nat.blt g.length g.length then _ else _)=_;rw[jU (zq _),zf];rfl) g.length 0 () (by omega) trivial
def isN{α:Type}:Option α→Bool
 | none=>true
 | some _=>false
def eN:Option Int→Int
 | none=>0
 | some e=>e
def hC0:Hs→DT (Ex×Hs)
 | ⟨[.ls .a (.list (.int .i64)) q,.ls .a (.list (.int .i64)) g,.v (.int .i64 (.ofNat n)),.v (.int .i64 (.ofNat 0))],[],[]⟩=>grd (Nat.beq n g.length&&Nat.blt g.length 9223372036854775807) (.ite (isN (c0F g)) (.ret (zYb q none)) (.ret (zYb q (some (eN (c0F g))))))
 | _=> .no
theorem jCd:gQ Tryz.prog (evD Tryz.prog (odT []) LC1 60):=kL yE jZ qZn 60
theorem qXw:∀q y,(hC0 q).run=some y→∃n,It (qBu (odT []) LC1) n q y:=fun q y h=>by
 unfold hC0 at h;split at h
 ·rename_i q g n;obtain⟨e,f⟩:=zR h;simp only[zd]at e;obtain rfl:=zV e.1;have:=kY _ _ (lpC0 q g (jL e.2));cases j:c0F g<;>rw[j]at f this<;>cases f<;>exact this
 ·cases h
def smG(g:List (List Int)):Bool:=Nat.ble g.length 4&&g.all fun c=>Nat.ble c.length 32
def szF(g:List (List Int)):Int:=fol (fun k(v:Int)=>(.inl (v.mul (.ofNat (gI g k).length)):Int⊕Int)) id g.length 0 1
theorem qFh{g:List (List Int)}{k:Nat}(h:k<g.length):gI g k=g[k]:=by rw[gI,qW];simp[h]
theorem jCp{g:List (List Int)}(h:smG g=true):g.length≤4∧∀k,k<g.length→(gI g k).length≤32:=by
 simp only[smG,zd,qv,qa]at h;exact⟨h.1,fun k e=>h.2 _ (by rw[qFh e];exact j3 e)⟩
theorem zCt{v:Int}(h:0≤v)(e:v<9223372036854775808):inW v=true:=by
 obtain⟨m,rfl⟩:=jh h;exact yT (show m<9223372036854775808 by omega)
theorem lpSz{g:List (List Int)}(h:smG g=true):lpF (zVz (odT []) (loT [])) g.length (iSz 1 g g.length 0)=some (.x 0,⟨[vi (szF g)],[],[]⟩):=by
 obtain⟨A,q⟩:=jCp h;exact jV (st:=zVz (odT []) (loT [])) (iv:=fun k v=>iSz v g g.length k) (g:=fun k(v:Int)=>(.inl (v.mul (.ofNat (gI g k).length)):Int⊕Int)) (d:=id) (out:=fun v=>(.x 0,⟨[vi v],[],[]⟩)) (n:=g.length) (fun k v=>0≤v∧v≤32^k)
  (fun k v f e=>by
   rw[sSz];show(bif Nat.blt k g.length then _ else _)=_;have hp:(32:Int)^k≤32^4:=by rcases(show k=0∨k=1∨k=2∨k=3 by omega)with rfl | rfl | rfl | rfl<;>decide
   have j:=q k f;have w:0≤v.mul (.ofNat (gI g k).length):=Int.mul_nonneg e.1 (j4 _);have z:v.mul (.ofNat (gI g k).length)≤32^4*32:=Int.mul_le_mul (uV e.2 hp) (show((gI g k).length:Int)≤32 by omega) (j4 _) (by decide)
   simp only[gd,zO f,ze,zCt w (by have:(32:Int)^4*32=33554432:=rfl;omega),kK (show k+1<9223372036854775808 by omega)])
  (fun k v B f e y=>by
   cases y;have j:=q k f;refine⟨Int.mul_nonneg e.1 (j4 _),?_⟩;rw[Int.pow_succ];exact Int.mul_le_mul e.2 (show((gI g k).length:Int)≤32 by omega) (j4 _) (uV e.1 e.2))
  (fun v e=>by rw[sSz];show(bif Nat.blt g.length g.length then _ else _)=_;rw[jU (zq _),zf];rfl) g.length 0 1 (by omega) ⟨by decide,by decide⟩
def hSz:Hs→DT (Ex×Hs)
 | ⟨[.v (.int .i64 (.ofNat 1)),.ls .a (.list (.int .i64)) g,.v (.int .i64 (.ofNat n)),.v (.int .i64 (.ofNat 0))],[],[]⟩=>grd (Nat.beq n g.length&&smG g) (.ret (.x 0,⟨[vi (szF g)],[],[]⟩))
 | _=> .no
theorem qYn:∀q y,(hSz q).run=some y→∃n,It (zVz (odT []) (loT [])) n q y:=fun q y h=>by
 unfold hSz at h;split at h
 ·rename_i g n;obtain⟨e,f⟩:=zR h;simp only[zd]at e;obtain rfl:=zV e.1;have:=kY _ _ (lpSz e.2);cases f;exact this
 ·cases h
abbrev LC:Lo:=loT [(157,[false,true,false,true,true],Lc0.row hC0),(228,[false,true,false,true,true],Lsz.row hSz)]
theorem jEl:wC Tryz.prog LC:=jO (jO zZ lY qUs qYn) jCd qUb qXw
theorem eIc(g:List (List Int)):((qC Tryz.prog (evD Tryz.prog (odT []) (LC) 60) 157 [.ls .a nT.list g] []).bind qF).run=bif ieq (.ofNat g.length) (.ofNat 0)then some (vn 3,true)else(bif ilt (.ofNat 4) (.ofNat g.length)then some (vn 4,true)else gd ((Nat.beq g.length g.length)&&(Nat.blt g.length 9223372036854775807)) (bif isN (c0F g)then gd ((Nat.beq g.length g.length)&&(smG g)) (bif ilt (.ofNat 256) (szF g)then some (vn 10,true)else some (vn 0,true))else some (vi (eN (c0F g)),true))):=by kernel_rfl
def icE(g:List (List Int)):Int:=bif ieq (.ofNat g.length) (.ofNat 0)then 3 else(bif ilt (.ofNat 4) (.ofNat g.length)then 4 else(bif isN (c0F g)then(bif ilt (.ofNat 256) (szF g)then 10 else 0)else eN (c0F g)))
theorem zAt{γ:Type}{g:Nat→Unit→Unit⊕γ}{d:γ}(f:∀i y,g i ()= .inr y→y≠d):∀(k i:Nat),fol g (fun _=>d) k i ()=d→∀j,i≤j→j<i+k→g j ()= .inl ()
 | 0,i,_,j,e,q=>by omega
 | k+1,i,h,j,e,q=>by
  simp only[fol]at h;cases H:g i ()with
  | inr y=>rw[H]at h;exact absurd h (f i y H)
  | inl x=>
   rw[H]at h;rcases kz e with rfl | hlt
   ·exact H
   ·exact zAt f k (i+1) h j hlt (by omega)
theorem zWu{g:List (List Int)}{i:Nat}{y:Option Int}(h:gC0 g i ()= .inr y):∃e,y=some e∧e≠0:=by
 unfold gC0 at h;cases f:ieq (.ofNat (gI g i).length) (.ofNat 0)with
 | true=>rw[f]at h;cases h;exact⟨3,rfl,by decide⟩
 | false=>
  rw[f]at h;cases j:ilt (.ofNat 32) (.ofNat (gI g i).length)with
  | true=>rw[j]at h;cases h;exact⟨4,rfl,by decide⟩
  | false=>
   rw[j]at h;cases k:c1F (gI g i) (gI g i)with
   | true=>rw[k]at h;cases h;exact⟨1,rfl,by decide⟩
   | false=>rw[k]at h;cases h
theorem zWg{g:List (List Int)}(h:c0F g=none){k:Nat}(A:k<g.length):1≤(gI g k).length∧(gI g k).length≤32∧c1F (gI g k) (gI g k)=false:=by
 have H:=zAt (g:=gC0 g) (d:=none) (fun i y w e=>by obtain⟨z,f,_⟩:=zWu w;rw[e]at f;cases f) g.length 0 h k (qu _) (by omega)
 unfold gC0 at H;cases f:ieq (.ofNat (gI g k).length) (.ofNat 0)with
 | true=>rw[f]at H;cases H
 | false=>
  rw[f]at H;cases j:ilt (.ofNat 32) (.ofNat (gI g k).length)with
  | true=>rw[j]at H;cases H
  | false=>
   rw[j]at H;cases q:c1F (gI g k) (gI g k)with
   | true=>rw[q]at H;cases H
   | false=>
    refine⟨?_,zGr j,rfl⟩;rcases jp (gI g k).length with e | e
    ·rw[e]at f;cases f
    ·exact e
theorem jCq{g:List (List Int)}(j:g.length≤4)(h:c0F g=none):smG g=true:=by
 simp only[smG,zd,qa];refine⟨yK j,fun c q=>?_⟩;obtain⟨k,f⟩:=jr q;have hlt:=(zh.1 f).1;have e:gI g k=c:=by rw[qFh hlt];exact(zh.1 f).2
 have:=(zWg h hlt).2.1;rw[e]at this;exact yK this
theorem bD{n:Nat}{c:Nat}(h:ilt (.ofNat n) (.ofNat c)=false):c≤n:=by
 have h:Nat.blt n c=false:=h;rcases qg n c with g | g
 ·rw[zO g]at h;cases h
 ·exact g
def oIc:List T→DT (T×Bool)
 | [.ls .a (.list (.int .i64)) g]=> .ret (.v (.int .i64 (icE g)),true)
 | _=> .no
theorem qYr(g:List (List Int)):((qC Tryz.prog (evD Tryz.prog (odT []) (LC) 60) 157 [.ls .a nT.list g] []).bind qF).run=yI (icE g):=by
 rw[eIc];unfold icE;cases q:ieq (.ofNat g.length) (.ofNat 0)with
 | true=>rfl
 | false=>
  cases f:ilt (.ofNat 4) (.ofNat g.length)with
  | true=>rfl
  | false=>
   have k:=bD f;simp only[zf,gd,jD,zO (show g.length<9223372036854775807 by omega),jf,ze]
   cases j:c0F g with
   | some e=>rfl
   | none=>
    rw[jCq k j];simp only[isN,ze,jf];cases ilt (.ofNat 256) (szF g)<;>rfl
theorem kIc:∀e j f,(oIc e).run=some (j,f)→∀k,KnP Tryz.prog k 157 e j f:=by
 intro e j f h k;unfold oIc at h;split at h
 ·rename_i g;cases h;exact yM (cz:=[.ls .a nT.list g]) yE jZ jEl (qYr g) rfl k
 ·cases h
theorem vF{a b:Int}(h:ilt a b=false):b≤a:=u7.1 fun k=>by rw[gL k]at h;cases h
structure Grid(g:List (List Int)):Prop where
 le4:g.length≤4
 pos:1≤g.length
 cut:∀k,k<g.length→1≤(gI g k).length∧(gI g k).length≤32∧c1F (gI g k) (gI g k)=false
 size:szF g≤256
theorem zWw{g:List (List Int)}(h:icE g=0):Grid g:=by
 unfold icE at h;cases j:ieq (.ofNat g.length) (.ofNat 0)with
 | true=>rw[j]at h;cases h
 | false=>
  rw[j,zf]at h;cases w:ilt (.ofNat 4) (.ofNat g.length)with
  | true=>rw[w]at h;cases h
  | false=>
   rw[w,zf]at h;have hp:1≤g.length:=by
    rcases jp g.length with e | e
    ·rw[e]at j;cases j
    ·exact e
   cases q:c0F g with
   | some e=>
    rw[q]at h;exfalso;have:∀(k i:Nat),fol (gC0 g) (fun _=>none) k i ()=some e→e≠0:=fun k=>by
     induction k with
     | zero=>intro i f;cases f
     | succ k G=>
      intro i f;simp only[fol]at f;cases H:gC0 g i ()with
      | inl x=>rw[H]at f;exact G (i+1) f
      | inr y=>
       rw[H]at f;obtain⟨J,A,B⟩:=zWu H;rw[A]at f;cases f;exact B
    exact this _ _ q h
   | none=>
    rw[q]at h;refine⟨bD w,hp,fun k E=>zWg q E,?_⟩;cases z:ilt (.ofNat 256) (szF g)with
    | true=>rw[z]at h;cases h
    | false=>exact vF z
theorem zGc{c:List Int}(h:c1F c c=false){i:Nat}(B:i<c.length): -1073741824≤nI c i∧nI c i≤1073741824∧(0<i→nI c (i-1)<nI c i):=by
 have H:=zAt (g:=gC1 c c) (d:=false) (fun i y j e=>by unfold gC1 at j;cases f:qDy c c i<;>rw[f]at j<;>cases j;cases e) c.length 0 h i (qu _) (by omega)
 unfold gC1 at H;cases f:qDy c c i with
 | true=>rw[f]at H;cases H
 | false=>
  unfold qDy at f;simp only[xr]at f;obtain⟨z,A,k⟩:=f;refine⟨vF z,vF A,fun w=>?_⟩;have q:ilt (.ofNat 0) (.ofNat i)=true:=zO w;rw[q,xp,ul]at k;exact tL.1 k
abbrev ON0(ck:Raw→Int)(ad su mu:Raw→Raw→Raw)(ae se me:Raw→Raw→Int)(cm ce:Raw→Raw→Int)(fr:Int→Raw)(eqB:Raw→Raw→Bool):Od:=odT (qGx ck ad su mu ae se me cm ce fr eqB)
theorem eCr(ck:Raw→Int)(ad su mu:Raw→Raw→Raw)(ae se me:Raw→Raw→Int)(cm ce:Raw→Raw→Int)(fr:Int→Raw)(eqB:Raw→Raw→Bool)(x:Raw):((qC Tryz.prog (evD Tryz.prog (ON0 ck ad su mu ae se me cm ce fr eqB) (loT []) 60) 186 [.ag (rC x)] []).bind qF).run=bif !(ieq (ck x) 0)then some (vi (ck x),true)else(bif ilt (.ofNat 8) (.ofNat x.ln.length)then some (vn 4,true)else(bif ilt (.ofNat 8) (.ofNat x.ld.length)then some (vn 4,true)else some (vn 0,true))):=by kernel_rfl
section
variable (ck:Raw→Int)
def crE(x:Raw):Int:=bif !ieq (ck x) 0 then ck x else(bif ilt (.ofNat 8) (.ofNat x.ln.length)then 4 else(bif ilt (.ofNat 8) (.ofNat x.ld.length)then 4 else 0))
end
def oCr(cr:Raw→Int):List T→DT (T×Bool)
 | [.ag [.v (.bool s),.ls .a .lim l,.ls .a .lim m]]=> .ret (.v (.int .i64 (cr ⟨s,l,m⟩)),true)
 | _=> .no
theorem qVw(ck:Raw→Int)(ad su mu:Raw→Raw→Raw)(ae se me:Raw→Raw→Int)(cm ce:Raw→Raw→Int)(fr:Int→Raw)(eqB:Raw→Raw→Bool)(x:Raw):((qC Tryz.prog (evD Tryz.prog (ON0 ck ad su mu ae se me cm ce fr eqB) (loT []) 60) 186 [.ag (rC x)] []).bind qF).run=yI (crE ck x):=by
 rw[eCr];unfold crE;cases ieq (ck x) 0<;>cases ilt (.ofNat 8) (.ofNat x.ln.length)<;>cases ilt (.ofNat 8) (.ofNat x.ld.length)<;>rfl
theorem kCr:∀e j f,(oCr (crE Raw.chk) e).run=some (j,f)→∀k,KnP Tryz.prog k 186 e j f:=by
 intro e j f h k;unfold oCr at h;split at h
 ·rename_i s l m;cases h;exact yM (cz:=[.ag (rC ⟨s,l,m⟩)]) yE zNo zZ (qVw Raw.chk adA suA muA aeA seA meA yQ xB frA eqA ⟨s,l,m⟩) rfl k
 ·cases h
abbrev nzT:Ty:= .prod nT zL
abbrev Nz:=Ty.den nzT
abbrev zI(l:List Nz)(i:Nat):Nz:=nth nzT.zero l i
def iCn(q l:List Nz)(n i:Nat)(t:Raw):Hs:=⟨[.ls .a nzT q,.ls .a nzT l,vn n,vn i],[],[rN t]⟩
def iCz(q l:List Nz)(n i:Nat):Hs:=⟨[.ls .a nzT q,.ls .a nzT l,vn n,vn i],[],[[.v (.bool false),.v (.slice none 0 0),.v (.slice none 0 0)]]⟩
def Lcn:Lp:=⟨1,
 ⟨[.h,.u,.u,.t (.op 0 0)]++(us' 14++([.h,.h,.h]++(us' 57))),[.r [.h,.h,.h] 28]⟩,
 ⟨us' 3++([.t (.op 0 0)]++(us' 74)),[.r [.h,.h,.h] 28]⟩,
 ⟨[.u,.u,.h]++(us' 75),[.g]⟩⟩
abbrev qRa:Code:=lpc Tryz.prog 185 [false,true,false,true,true,true]
theorem qUd:cAt Tryz.prog 185 [false,true,false,true,true,true]=some (.loop qRa):=by kernel_rfl
abbrev zDz(f:Od)(e:Lo):Hs→Option (Hs⊕(Ex×Hs)):=Lcn.stp (evD Tryz.prog f e 60) 185 [false,true,false,true,true,true] qRa
abbrev OD1(cr:Raw→Int)(ck:Raw→Int)(ad su mu:Raw→Raw→Raw)(ae se me:Raw→Raw→Int)(cm ce:Raw→Raw→Int)(fr:Int→Raw)(eqB:Raw→Raw→Bool):Od:=odT ((184,odR [spT,.list nT] qOl)::(157,odR [.list (.list nT)] oIc)::(186,odR [zL] (oCr cr))::qGx ck ad su mu ae se me cm ce fr eqB)
theorem sCz(cr:Raw→Int)(ck:Raw→Int)(ad su mu:Raw→Raw→Raw)(ae se me:Raw→Raw→Int)(cm ce:Raw→Raw→Int)(fr:Int→Raw)(eqB:Raw→Raw→Bool)(q l:List Nz)(n i:Nat):zDz (OD1 cr ck ad su mu ae se me cm ce fr eqB) (loT []) (iCz q l n i)=bif ilt (.ofNat i) (.ofNat n)then gd (Nat.blt i l.length) (bif !(yD ((-100)) 100 ([(zI l i).1].reverse))then some (.inr (.r,⟨[vn 1],[],[[]]⟩))else(bif ilt (.ofNat 0) (.ofNat i)then gd (inW (pr i)) (gd (nng (pr i)) (gd (Nat.blt ((pr i).toNat) q.length) (bif !(ilt ((zI q ((pr i).toNat)).1) ((zI l i).1))then some (.inr (.r,⟨[vn 16],[],[[]]⟩))else(bif !(ieq (cr (rw' ((zI l i).2))) 0)then some (.inr (.r,⟨[vi (cr (rw' ((zI l i).2)))],[],[[]]⟩))else(bif((zI l i).2).1 then some (.inr (.r,⟨[vn 1],[],[[]]⟩))else(bif ieq (.ofNat (((((zI l i).2).2).1).length)) (.ofNat 0)then some (.inr (.r,⟨[vn 1],[],[[]]⟩))else nx i (.inl ⟨[.ls .a nzT q,.ls .a nzT l,vn n,vn (i+1)],[],[(rN (ad ⟨false,[],[]⟩ (rw' ((zI l i).2))))]⟩)))))))else(bif !(ieq (cr (rw' ((zI l i).2))) 0)then some (.inr (.r,⟨[vi (cr (rw' ((zI l i).2)))],[],[[]]⟩))else(bif((zI l i).2).1 then some (.inr (.r,⟨[vn 1],[],[[]]⟩))else(bif ieq (.ofNat (((((zI l i).2).2).1).length)) (.ofNat 0)then some (.inr (.r,⟨[vn 1],[],[[]]⟩))else nx i (.inl ⟨[.ls .a nzT q,.ls .a nzT l,vn n,vn (i+1)],[],[(rN (ad ⟨false,[],[]⟩ (rw' ((zI l i).2))))]⟩))))))else some (.inr (.x 1,⟨[],[],[[.v (.bool false),.v (Value.slice none 0 0),.v (Value.slice none 0 0)]]⟩)):=by kernel_rfl
theorem sCn(cr:Raw→Int)(ck:Raw→Int)(ad su mu:Raw→Raw→Raw)(ae se me:Raw→Raw→Int)(cm ce:Raw→Raw→Int)(fr:Int→Raw)(eqB:Raw→Raw→Bool)(q l:List Nz)(n i:Nat)(t:Raw):zDz (OD1 cr ck ad su mu ae se me cm ce fr eqB) (loT []) (iCn q l n i t)=bif ilt (.ofNat i) (.ofNat n)then gd (Nat.blt i l.length) (bif !(yD ((-100)) 100 ([(zI l i).1].reverse))then some (.inr (.r,⟨[vn 1],[],[[]]⟩))else(bif ilt (.ofNat 0) (.ofNat i)then gd (inW (pr i)) (gd (nng (pr i)) (gd (Nat.blt ((pr i).toNat) q.length) (bif !(ilt ((zI q ((pr i).toNat)).1) ((zI l i).1))then some (.inr (.r,⟨[vn 16],[],[[]]⟩))else(bif !(ieq (cr (rw' ((zI l i).2))) 0)then some (.inr (.r,⟨[vi (cr (rw' ((zI l i).2)))],[],[[]]⟩))else(bif((zI l i).2).1 then some (.inr (.r,⟨[vn 1],[],[[]]⟩))else(bif ieq (.ofNat (((((zI l i).2).2).1).length)) (.ofNat 0)then some (.inr (.r,⟨[vn 1],[],[[]]⟩))else nx i (.inl ⟨[.ls .a nzT q,.ls .a nzT l,vn n,vn (i+1)],[],[(rN (ad t (rw' ((zI l i).2))))]⟩)))))))else(bif !(ieq (cr (rw' ((zI l i).2))) 0)then some (.inr (.r,⟨[vi (cr (rw' ((zI l i).2)))],[],[[]]⟩))else(bif((zI l i).2).1 then some (.inr (.r,⟨[vn 1],[],[[]]⟩))else(bif ieq (.ofNat (((((zI l i).2).2).1).length)) (.ofNat 0)then some (.inr (.r,⟨[vn 1],[],[[]]⟩))else nx i (.inl ⟨[.ls .a nzT q,.ls .a nzT l,vn n,vn (i+1)],[],[(rN (ad t (rw' ((zI l i).2))))]⟩))))))else some (.inr (.x 1,⟨[],[],[(rN t)]⟩)):=by kernel_rfl
section
variable (cr:Raw→Int)(ck:Raw→Int)(ad su mu:Raw→Raw→Raw)(ae se me:Raw→Raw→Int)(cm ce:Raw→Raw→Int)(fr:Int→Raw)(eqB:Raw→Raw→Bool)
abbrev r0:Raw:=⟨false,[],[]⟩
def gCn(q l:List Nz)(i:Nat)(t:Raw):Raw⊕(Raw⊕Int):=bif !yD (-100) 100 [(zI l i).1]then .inr (.inr 1)else(bif ilt (.ofNat 0) (.ofNat i)&&!ilt (zI q (i-1)).1 (zI l i).1 then .inr (.inr 16)else(bif !ieq (cr (rw' (zI l i).2)) 0 then .inr (.inr (cr (rw' (zI l i).2)))else(bif(zI l i).2.1 then .inr (.inr 1)else(bif ieq (.ofNat (zI l i).2.2.1.length) (.ofNat 0)then .inr (.inr 1)else .inl (ad t (rw' (zI l i).2))))))
def cnF(q l:List Nz):Raw⊕Int:=fol (gCn cr ad q l) .inl l.length 0 r0
def qYx(q l:List Nz):Nat→Raw→Hs
 | 0,_=>iCz q l l.length 0
 | i+1,t=>iCn q l l.length (i+1) t
def qSs:Raw⊕Int→Ex×Hs
 | .inl t=>(.x 1,⟨[],[],[rN t]⟩)
 | .inr e=>(.r,⟨[vi e],[],[[]]⟩)
theorem lpCn{q l:List Nz}(z:0<l.length)(A:l.length<9223372036854775807)(H:l.length≤q.length):lpF (zDz (OD1 cr ck ad su mu ae se me cm ce fr eqB) (loT [])) l.length (iCz q l l.length 0)=some (qSs (cnF cr ad q l)):=
 jV (st:=zDz (OD1 cr ck ad su mu ae se me cm ce fr eqB) (loT [])) (iv:=qYx q l) (g:=gCn cr ad q l) (d:= .inl) (out:=qSs) (n:=l.length) (fun i t=>i=0→t=r0)
  (fun i t f w=>by
   cases i with
   | zero=>
    obtain rfl:=w rfl;show zDz (OD1 cr ck ad su mu ae se me cm ce fr eqB) (loT []) (iCz q l l.length 0)=_;rw[sCz];unfold gCn;have j:ilt (.ofNat 0) (.ofNat l.length)=true:=zO z;have e:ilt (.ofNat 0) (.ofNat 0)=false:=rfl;have k:[(zI l 0).1].reverse=[(zI l 0).1]:=rfl;rw[j,e,k];simp only[gd,zO f,ze,zf,uF,kK (show 0+1<9223372036854775808 by omega)]
    cases yD (-100) 100 [(zI l 0).1]<;>cases ieq (cr (rw' (zI l 0).2)) 0<;>cases(zI l 0).2.1<;>cases ieq (.ofNat (zI l 0).2.2.1.length) (.ofNat 0)<;>rfl
   | succ i=>
    show zDz (OD1 cr ck ad su mu ae se me cm ce fr eqB) (loT []) (iCn q l l.length (i+1) t)=_;rw[sCn];unfold gCn;have j:ilt (.ofNat (i+1)) (.ofNat l.length)=true:=zO f;have e:ilt (.ofNat 0) (.ofNat (i+1))=true:=rfl;have y:(Int.ofNat i).toNat=i:=rfl;have k:[(zI l (i+1)).1].reverse=[(zI l (i+1)).1]:=rfl;rw[j,e,k,prS,yT (show i<9223372036854775808 by omega),y]
    simp only[gd,nng,zO f,zO (show i<q.length by omega),ze,xp,vz,kK (show i+1+1<9223372036854775808 by omega)]
    cases yD (-100) 100 [(zI l (i+1)).1]<;>cases ilt (zI q i).1 (zI l (i+1)).1<;>cases ieq (cr (rw' (zI l (i+1)).2)) 0<;>cases(zI l (i+1)).2.1<;>cases ieq (.ofNat (zI l (i+1)).2.2.1.length) (.ofNat 0)<;>rfl)
  (fun i t E f w B e=>by omega)
  (fun t w=>by
   obtain⟨m,hm⟩:∃m,l.length=m+1:=⟨l.length-1,by omega⟩
   show zDz (OD1 cr ck ad su mu ae se me cm ce fr eqB) (loT []) (qYx q l l.length t)=_;have e:qYx q l l.length t=iCn q l l.length l.length t:=by
    rw[hm];show iCn q l l.length (m+1) t=_;rw[hm]
   rw[e,sCn];show(bif Nat.blt l.length l.length then _ else _)=_;rw[jU (zq _),zf];rfl) l.length 0 r0 (by omega) (fun _=>rfl)
def isL:Raw⊕Int→Bool
 | .inl _=>true
 | .inr _=>false
def rL:Raw⊕Int→Raw
 | .inl t=>t
 | .inr _=>r0
def eL:Raw⊕Int→Int
 | .inl _=>0
 | .inr e=>e
def hCn:Hs→DT (Ex×Hs)
 | ⟨[.ls .a (.prod (.int .i64) zL) q,.ls .a (.prod (.int .i64) zL) l,.v (.int .i64 (.ofNat n)),.v (.int .i64 (.ofNat 0))],[],[[.v (.bool false),.v (.slice none 0 0),.v (.slice none 0 0)]]⟩=>grd (Nat.beq n l.length&&(Nat.blt 0 l.length&&(Nat.ble l.length q.length&&Nat.blt l.length 9223372036854775807))) (.ite (isL (cnF cr ad q l)) (.ret (.x 1,⟨[],[],[rN (rL (cnF cr ad q l))]⟩)) (.ret (.r,⟨[vi (eL (cnF cr ad q l))],[],[[]]⟩)))
 | _=> .no
theorem qXy:∀q y,(hCn cr ad q).run=some y→∃n,It (zDz (OD1 cr ck ad su mu ae se me cm ce fr eqB) (loT [])) n q y:=fun q y h=>by
 unfold hCn at h;split at h
 ·rename_i q l n;obtain⟨e,f⟩:=zR h;simp only[zd,qv]at e;obtain⟨j,k,w,z⟩:=e;obtain rfl:=zV j;have:=kY _ _ (lpCn cr ck ad su mu ae se me cm ce fr eqB (jL k) (jL z) w);cases A:cnF cr ad q l<;>rw[A]at f this<;>cases f<;>exact this
 ·cases h
abbrev LCn:Lo:=loT [(185,[false,true,false,true,true,true],Lcn.row (hCn cr ad))]
end
theorem eCn(cr:Raw→Int)(ck:Raw→Int)(ad su mu:Raw→Raw→Raw)(ae se me:Raw→Raw→Int)(cm ce:Raw→Raw→Int)(fr:Int→Raw)(eqB:Raw→Raw→Bool)(l:List Nz):((qC Tryz.prog (evD Tryz.prog (OD1 cr ck ad su mu ae se me cm ce fr eqB) (LCn cr ad) 60) 185 [.ls .a nzT l] []).bind qF).run=bif ieq (.ofNat l.length) (.ofNat 0)then some (vn 3,true)else(bif ilt (.ofNat 5) (.ofNat l.length)then some (vn 4,true)else gd ((Nat.beq l.length l.length)&&((Nat.blt 0 l.length)&&((Nat.ble l.length l.length)&&(Nat.blt l.length 9223372036854775807)))) (bif isL (cnF cr ad l l)then(bif !(ieq (cm (rL (cnF cr ad l l)) (fr 1)) 0)then some (vn 2,true)else some (vn 0,true))else some (vi (eL (cnF cr ad l l)),true))):=by kernel_rfl
section
variable (cr:Raw→Int)(ck:Raw→Int)(ad su mu:Raw→Raw→Raw)(ae se me:Raw→Raw→Int)(cm ce:Raw→Raw→Int)(fr:Int→Raw)(eqB:Raw→Raw→Bool)
def cnE(l:List Nz):Int:=bif ieq (.ofNat l.length) (.ofNat 0)then 3 else(bif ilt (.ofNat 5) (.ofNat l.length)then 4 else(bif isL (cnF cr ad l l)then(bif !ieq (cm (rL (cnF cr ad l l)) (fr 1)) 0 then 2 else 0)else eL (cnF cr ad l l)))
theorem qVu(l:List Nz):((qC Tryz.prog (evD Tryz.prog (OD1 cr ck ad su mu ae se me cm ce fr eqB) (LCn cr ad) 60) 185 [.ls .a nzT l] []).bind qF).run=yI (cnE cr ad cm fr l):=by
 rw[eCn];unfold cnE;cases f:ieq (.ofNat l.length) (.ofNat 0)with
 | true=>rfl
 | false=>
  cases k:ilt (.ofNat 5) (.ofNat l.length)with
  | true=>rfl
  | false=>
   have q:=bD k;have j:0<l.length:=by
    rcases jp l.length with e | e
    ·rw[e]at f;cases f
    ·exact e
   simp only[zf,gd,jD,zO j,yK (zq l.length),zO (show l.length<9223372036854775807 by omega),jf,ze]
   cases isL (cnF cr ad l l)<;>cases ieq (cm (rL (cnF cr ad l l)) (fr 1)) 0<;>rfl
end
def oCn(cn:List Nz→Int):List T→DT (T×Bool)
 | [.ls .a (.prod (.int .i64) zL) l]=> .ret (.v (.int .i64 (cn l)),true)
 | _=> .no
abbrev crA:Raw→Int:=crE Raw.chk
theorem zUp:vD Tryz.prog (OD1 crA Raw.chk adA suA muA aeA seA meA yQ xB frA eqA):=zS (zS (zS zNo (jI kCr)) (jI kIc)) (jI kHas)
theorem jCa:gQ Tryz.prog (evD Tryz.prog (OD1 crA Raw.chk adA suA muA aeA seA meA yQ xB frA eqA) (loT []) 60):=kL yE zUp zZ 60
theorem qZo:wC Tryz.prog (LCn crA adA):=jO zZ jCa qUd (qXy crA Raw.chk adA suA muA aeA seA meA yQ xB frA eqA)
abbrev cnA(l:List Nz):Int:=cnE crA adA yQ frA l
theorem kCn:∀e j f,(oCn cnA e).run=some (j,f)→∀k,KnP Tryz.prog k 185 e j f:=by
 intro e j f h k;unfold oCn at h;split at h
 ·rename_i l;cases h;exact yM (cz:=[.ls .a nzT l]) yE zUp qZo (qVu crA Raw.chk adA suA muA aeA seA meA yQ xB frA eqA l) rfl k
 ·cases h
abbrev bT:Ty:= .prod (.int .u8) (.prod nT nT)
abbrev Bd:=Ty.den bT
abbrev MF(α:Type):=List Int→List Int→List Int→List Bd→Int→Int→Int→List Nz→List Nz→Raw→Raw→Raw→α
abbrev TF(α:Type):=MF (Int→List (List Int)→List (List Int)→α)
abbrev LF(α:Type):=TF (Int→Int→Int→Int→Int→α)
abbrev bI(l:List Bd)(i:Nat):Bd:=nth bT.zero l i
abbrev mdC(h o t:List Int)(G:List Bd)(P D S:Int)(O U:List Nz)(C st V:Raw):List T:=[.ls .a nT h,.ls .a nT o,.ls .a nT t,.ls .a bT G,vi P,vi D,vi S,.ls .a nzT O,.ls .a nzT U,.v (.bool C.1),.ls .a .lim C.2,.ls .a .lim C.3,.v (.bool st.1),.ls .a .lim st.2,.ls .a .lim st.3,.v (.bool V.1),.ls .a .lim V.2,.ls .a .lim V.3]
abbrev OX(cn:List Nz→Int)(cr:Raw→Int)(ck:Raw→Int)(ad su mu:Raw→Raw→Raw)(ae se me:Raw→Raw→Int)(cm ce:Raw→Raw→Int)(fr:Int→Raw)(eqB:Raw→Raw→Bool):Od:=odT ((185,odR [.list nzT] (oCn cn))::(184,odR [spT,.list nT] qOl)::(157,odR [.list (.list nT)] oIc)::(186,odR [zL] (oCr cr))::qGx ck ad su mu ae se me cm ce fr eqB)
def iDc(l:List Bd)(n i:Nat)(h o t:List Int)(G:List Bd)(P D S:Int)(O U:List Nz)(C st V:Raw):Hs:=⟨[.ls .a bT l,vn n,vn i],[],[[.ls .a nT h,.ls .a nT o,.ls .a nT t,.ls .a bT G,vi P,vi D,vi S,.ls .a nzT O,.ls .a nzT U,.v (.bool C.1),.ls .a .lim C.2,.ls .a .lim C.3,.v (.bool st.1),.ls .a .lim st.2,.ls .a .lim st.3,.v (.bool V.1),.ls .a .lim V.2,.ls .a .lim V.3],[],[],[],[]]⟩
def Ldc:Lp:=⟨5,
 ⟨[.u,.t (.op 0 0),.u,.t (.fn 240 [.op 2 0,.op 1 0])]++(us' 49++([.h,.h,.h]++(us' 90))),[.r [.h,.h,.h,.h,.h,.h,.h,.h,.h,.h,.h,.h,.h,.h,.h,.h,.h,.h] 30,.r [.t (.v (.int .i64 (.ofNat 100)))] 3,.r [.t (.fn 184 [])] 292,.g,.g]⟩,
 ⟨[.u,.t (.op 0 0)]++(us' 144),[.r [.h,.h,.h,.h,.h,.h,.h,.h,.h,.h,.h,.h,.h,.h,.h,.h,.h,.h] 30,.g,.g,.g,.g]⟩,
 ⟨[.u,.u,.h]++(us' 143),[.g,.g,.g,.g,.g]⟩⟩
abbrev qRb:Code:=lpc Tryz.prog 119 [false,true,false,true,true,true]
theorem qUe:cAt Tryz.prog 119 [false,true,false,true,true,true]=some (.loop qRb):=by kernel_rfl
abbrev qBw(f:Od)(e:Lo):Hs→Option (Hs⊕(Ex×Hs)):=Ldc.stp (evD Tryz.prog f e 60) 119 [false,true,false,true,true,true] qRb
theorem sDc(cn:List Nz→Int)(cr:Raw→Int)(ck:Raw→Int)(ad su mu:Raw→Raw→Raw)(ae se me:Raw→Raw→Int)(cm ce:Raw→Raw→Int)(fr:Int→Raw)(eqB:Raw→Raw→Bool)(l:List Bd)(n i:Nat)(h o t:List Int)(G:List Bd)(P D S:Int)(O U:List Nz)(C st V:Raw):qBw (OX cn cr ck ad su mu ae se me cm ce fr eqB) (loT []) (iDc l n i h o t G P D S O U C st V)=bif ilt (.ofNat i) (.ofNat n)then gd (Nat.blt i l.length) (bif !(ieq ((bI l i).1) 1)then(bif !(ieq ((bI l i).1) 2)then some (.inr (.r,⟨[vn 6],[],[[],[],[],[],[]]⟩))else(bif ilt (((bI l i).2).2) (((bI l i).2).1)then some (.inr (.r,⟨[vn 1],[],[[],[],[],[],[]]⟩))else(bif !(yD ((-100)) (.ofNat 100) ([((bI l i).2).2,((bI l i).2).1].reverse))then some (.inr (.r,⟨[vn 1],[],[[],[],[],[],[]]⟩))else nx i (.inl (iDc l n (i+1) h o t G P D S O U C st V)))))else(bif ilt (((bI l i).2).2) (((bI l i).2).1)then some (.inr (.r,⟨[vn 1],[],[[],[],[],[],[]]⟩))else(bif !(yD ((-100)) (.ofNat 100) ([((bI l i).2).2,((bI l i).2).1].reverse))then some (.inr (.r,⟨[vn 1],[],[[],[],[],[],[]]⟩))else nx i (.inl (iDc l n (i+1) h o t G P D S O U C st V)))))else some (.inr (.x 1,⟨[],[],[[.ls .a nT h,.ls .a nT o,.ls .a nT t,.ls .a bT G,vi P,vi D,vi S,.ls .a nzT O,.ls .a nzT U,.v (.bool C.1),.ls .a .lim C.2,.ls .a .lim C.3,.v (.bool st.1),.ls .a .lim st.2,.ls .a .lim st.3,.v (.bool V.1),.ls .a .lim V.2,.ls .a .lim V.3],[],[],[],[]]⟩)):=by kernel_rfl
def gDc(l:List Bd)(i:Nat)(_:Unit):Unit⊕Option Int:=bif !ieq (bI l i).1 1&&!ieq (bI l i).1 2 then .inr (some 6)else(bif ilt (bI l i).2.2 (bI l i).2.1 then .inr (some 1)else(bif !yD (-100) 100 [(bI l i).2.1,(bI l i).2.2]then .inr (some 1)else .inl ()))
def dvF(l:List Bd):Option Int:=fol (gDc l) (fun _=>none) l.length 0 ()
def zYd(h o t:List Int)(G:List Bd)(P D S:Int)(O U:List Nz)(C st V:Raw):Option Int→Ex×Hs
 | none=>(.x 1,⟨[],[],[mdC h o t G P D S O U C st V,[],[],[],[]]⟩)
 | some e=>(.r,⟨[vi e],[],[[],[],[],[],[]]⟩)
section
variable (cn:List Nz→Int)(cr:Raw→Int)(ck:Raw→Int)(ad su mu:Raw→Raw→Raw)(ae se me:Raw→Raw→Int)(cm ce:Raw→Raw→Int)(fr:Int→Raw)(eqB:Raw→Raw→Bool)
theorem lpDc(h o t:List Int)(G:List Bd)(P D S:Int)(O U:List Nz)(C st V:Raw)(l:List Bd)(k:l.length<9223372036854775807):lpF (qBw (OX cn cr ck ad su mu ae se me cm ce fr eqB) (loT [])) l.length (iDc l l.length 0 h o t G P D S O U C st V)=some (zYd h o t G P D S O U C st V (dvF l)):=
 jV (iv:=fun i(_:Unit)=>iDc l l.length i h o t G P D S O U C st V) (g:=gDc l) (d:=fun _=>none) (out:=zYd h o t G P D S O U C st V) (n:=l.length) (fun _ _=>True)
  (fun i _ e _=>by
   rw[sDc];show(bif Nat.blt i l.length then _ else _)=_;unfold gDc;have f:[(bI l i).2.2,(bI l i).2.1].reverse=[(bI l i).2.1,(bI l i).2.2]:=rfl;rw[f];simp only[gd,zO e,ze,kK (show i+1<9223372036854775808 by omega)]
   have j:yD (-100) (.ofNat 100) [(bI l i).2.1,(bI l i).2.2]=yD (-100) 100 [(bI l i).2.1,(bI l i).2.2]:=rfl;rw[j];cases ieq (bI l i).1 1<;>cases ieq (bI l i).1 2<;>cases ilt (bI l i).2.2 (bI l i).2.1<;>cases yD (-100) 100 [(bI l i).2.1,(bI l i).2.2]<;>rfl)
  (fun _ _ _ _ _ _=>trivial)
  (fun _ _=>by rw[sDc];show(bif Nat.blt l.length l.length then _ else _)=_;rw[jU (zq _),zf];rfl) l.length 0 () (by omega) trivial
def hDc:Hs→DT (Ex×Hs)
 | ⟨[.ls .a (.prod (.int .u8) (.prod (.int .i64) (.int .i64))) l,.v (.int .i64 (.ofNat n)),.v (.int .i64 (.ofNat 0))],[],[[.ls .a (.int .i64) h,.ls .a (.int .i64) o,.ls .a (.int .i64) t,.ls .a (.prod (.int .u8) (.prod (.int .i64) (.int .i64))) G,.v (.int .i64 P),.v (.int .i64 D),.v (.int .i64 S),.ls .a (.prod (.int .i64) zL) O,.ls .a (.prod (.int .i64) zL) U,.v (.bool e),.ls .a .lim C,.ls .a .lim f,.v (.bool w),.ls .a .lim sl,.ls .a .lim y,.v (.bool j),.ls .a .lim k,.ls .a .lim q],[],[],[],[]]⟩=>grd (Nat.beq n l.length&&Nat.blt l.length 9223372036854775807) (.ite (isN (dvF l)) (.ret (zYd h o t G P D S O U ⟨e,C,f⟩ ⟨w,sl,y⟩ ⟨j,k,q⟩ none)) (.ret (zYd h o t G P D S O U ⟨e,C,f⟩ ⟨w,sl,y⟩ ⟨j,k,q⟩ (some (eN (dvF l))))))
 | _=> .no
theorem qXz:∀q y,(hDc q).run=some y→∃n,It (qBw (OX cn cr ck ad su mu ae se me cm ce fr eqB) (loT [])) n q y:=fun q y e=>by
 unfold hDc at e;split at e
 ·rename_i l n h o t G P D S O U k C w J sl K A B E;obtain⟨f,j⟩:=zR e;simp only[zd]at f;obtain rfl:=zV f.1;have:=kY _ _ (lpDc cn cr ck ad su mu ae se me cm ce fr eqB h o t G P D S O U ⟨k,C,w⟩ ⟨J,sl,K⟩ ⟨A,B,E⟩ l (jL f.2));cases z:dvF l<;>rw[z]at j this<;>cases j<;>exact this
 ·cases e
end
abbrev LDc:Lo:=loT [(119,[false,true,false,true,true,true],Ldc.row hDc)]
abbrev dr1(l:List Bd):List Bd:=List.take (l.length-1) (List.drop 1 l)
theorem eDc(cn:List Nz→Int)(cr:Raw→Int)(ck:Raw→Int)(ad su mu:Raw→Raw→Raw)(ae se me:Raw→Raw→Int)(cm ce:Raw→Raw→Int)(fr:Int→Raw)(eqB:Raw→Raw→Bool)(h o t:List Int)(G:List Bd)(P D S:Int)(O U:List Nz)(C st V:Raw):((qC Tryz.prog (evD Tryz.prog (OX cn cr ck ad su mu ae se me cm ce fr eqB) (LDc) 60) 119 [.ag (mdC h o t G P D S O U C st V)] []).bind qF).run=bif !(ieq (icE [h,o,t]) 0)then some (vi (icE [h,o,t]),true)else gd (Nat.blt h.length 9223372036854775807) (bif !(yD ((-50000)) 50000 h)then some (vn 1,true)else gd (Nat.blt o.length 9223372036854775807) (bif !(yD ((-100)) 100 o)then gd (!(yD ((-100)) 100 o)) (some (vn 1,true))else(bif !(yD ((-100)) 100 o)then some (vn 1,true)else gd (Nat.blt t.length 9223372036854775807) (bif !(yD ((-100)) 100 t)then some (vn 1,true)else(bif ieq (.ofNat G.length) (.ofNat 0)then some (vn 3,true)else(bif ilt (.ofNat 6) (.ofNat G.length)then some (vn 4,true)else gd (Nat.ble 1 G.length) (gd (Nat.ble G.length G.length) (gd ((Nat.beq ((dr1 G).length) ((dr1 G).length))&&(Nat.blt ((dr1 G).length) 9223372036854775807)) (bif isN (dvF (dr1 G))then(bif !(yD 0 100 [P])then some (vn 1,true)else(bif !(yD 0 50000 [D])then some (vn 1,true)else(bif !(yD 0 24 [S])then some (vn 1,true)else(bif !(ieq (cn O) 0)then some (vi (cn O),true)else(bif !(ieq (cn U) 0)then some (vi (cn U),true)else(bif !(ieq (cr C) 0)then some (vi (cr C),true)else(bif C.neg then some (vn 1,true)else(bif !(ieq (cr st) 0)then some (vi (cr st),true)else(bif st.neg then some (vn 1,true)else(bif !(ieq (cr V) 0)then some (vi (cr V),true)else(bif V.neg then some (vn 1,true)else gd (inW (.ofNat (h.length*o.length))) (gd (inW (.ofNat ((h.length*o.length)*t.length))) (gd (inW (.ofNat (((h.length*o.length)*t.length)*G.length))) (bif ilt (.ofNat 200) (.ofNat (((h.length*o.length)*t.length)*G.length))then some (vn 10,true)else some (vn 0,true)))))))))))))))else some (vi (eN (dvF (dr1 G))),true)))))))))):=by kernel_rfl
section
variable (cn:List Nz→Int)(cr:Raw→Int)(ck:Raw→Int)(ad su mu:Raw→Raw→Raw)(ae se me:Raw→Raw→Int)(cm ce:Raw→Raw→Int)(fr:Int→Raw)(eqB:Raw→Raw→Bool)
def dcE(h o t:List Int)(G:List Bd)(P D S:Int)(O U:List Nz)(C st V:Raw):Int:=bif !ieq (icE [h,o,t]) 0 then icE [h,o,t]else(bif !yD (-50000) 50000 h then 1 else(bif !yD (-100) 100 o then 1 else(bif !yD (-100) 100 t then 1 else(bif ieq (.ofNat G.length) (.ofNat 0)then 3 else(bif ilt (.ofNat 6) (.ofNat G.length)then 4 else(bif isN (dvF (dr1 G))then(bif !yD 0 100 [P]then 1 else(bif !yD 0 50000 [D]then 1 else(bif !yD 0 24 [S]then 1 else(bif !ieq (cn O) 0 then cn O else(bif !ieq (cn U) 0 then cn U else(bif !ieq (cr C) 0 then cr C else(bif C.neg then 1 else(bif !ieq (cr st) 0 then cr st else(bif st.neg then 1 else(bif !ieq (cr V) 0 then cr V else(bif V.neg then 1 else(bif ilt (.ofNat 200) (.ofNat (h.length*o.length*t.length*G.length))then 10 else 0))))))))))))else eN (dvF (dr1 G))))))))
theorem zWv{h o t:List Int}(e:icE [h,o,t]=0):(1≤h.length∧h.length≤32)∧(1≤o.length∧o.length≤32)∧(1≤t.length∧t.length≤32):=by
 have g:=zWw e;have a:=g.cut 0 (show 0<3 by omega)
 have b:=g.cut 1 (show 1<3 by omega)
 have c:=g.cut 2 (show 2<3 by omega)
 exact⟨⟨a.1,a.2.1⟩,⟨b.1,b.2.1⟩,⟨c.1,c.2.1⟩⟩
theorem zXn{a b c d:Nat}(ha:a≤32)(j:b≤32)(k:c≤32)(hd:d≤6):a*b≤1024∧a*b*c≤32768∧a*b*c*d≤196608:=by
 have e:=vp ha j;have f:=vp e k;exact⟨e,f,vp f hd⟩
theorem qWa(h o t:List Int)(G:List Bd)(P D S:Int)(O U:List Nz)(C st V:Raw):((qC Tryz.prog (evD Tryz.prog (OX cn cr ck ad su mu ae se me cm ce fr eqB) (LDc) 60) 119 [.ag (mdC h o t G P D S O U C st V)] []).bind qF).run=yI (dcE cn cr h o t G P D S O U C st V):=by
 rw[eDc];unfold dcE;cases j:ieq (icE [h,o,t]) 0 with
 | false=>rfl
 | true=>
  obtain⟨⟨_,w⟩,⟨_,y⟩,⟨_,z⟩⟩:=zWv (qH.1 j);simp only[zu,zf,gd,zO (show h.length<9223372036854775807 by omega),zO (show o.length<9223372036854775807 by omega),zO (show t.length<9223372036854775807 by omega),ze]
  cases yD (-50000) 50000 h with
  | false=>rfl
  | true=>
   cases yD (-100) 100 o with
   | false=>rfl
   | true=>
    cases yD (-100) 100 t with
    | false=>rfl
    | true=>
     simp only[zu,zf];cases f:ieq (.ofNat G.length) (.ofNat 0)with
     | true=>rfl
     | false=>
      cases k:ilt (.ofNat 6) (.ofNat G.length)with
      | true=>rfl
      | false=>
       have A:=bD k;have q:1≤G.length:=by
        rcases jp G.length with e | e
        ·rw[e]at f;cases f
        ·exact e
       obtain⟨E,J,m3⟩:=zXn w y z A;have B:(dr1 G).length≤6:=by simp only[dr1,jo,xj];omega
       simp only[zf,ze,yK q,yK (zq G.length),jD,zO (show(dr1 G).length<9223372036854775807 by omega),jf,yT (show h.length*o.length<9223372036854775808 by omega),yT (show h.length*o.length*t.length<9223372036854775808 by omega),yT (show h.length*o.length*t.length*G.length<9223372036854775808 by omega)]
       cases dvF (dr1 G)with
       | some e=>rfl
       | none=>
        simp only[isN,ze];cases yD 0 100 [P]with
        | false=>rfl
        | true=>
         simp only[zu,zf];cases yD 0 50000 [D]with
         | false=>rfl
         | true=>
          simp only[zu,zf];cases yD 0 24 [S]with
          | false=>rfl
          | true=>
           simp only[zu,zf];cases ieq (cn O) 0 with
           | false=>rfl
           | true=>
            simp only[zu,zf];cases ieq (cn U) 0 with
            | false=>rfl
            | true=>
             simp only[zu,zf];cases ieq (cr C) 0 with
             | false=>rfl
             | true=>
              simp only[zu,zf];cases C.neg with
              | true=>rfl
              | false=>
               simp only[zf];cases ieq (cr st) 0 with
               | false=>rfl
               | true=>
                simp only[zu,zf];cases st.neg with
                | true=>rfl
                | false=>
                 simp only[zf];cases ieq (cr V) 0 with
                 | false=>rfl
                 | true=>
                  simp only[zu,zf];cases V.neg with
                  | true=>rfl
                  | false=>
                   simp only[zf];cases ilt (.ofNat 200) (.ofNat (h.length*o.length*t.length*G.length))<;>rfl
end
abbrev mdT:Ty:= .prod (.list nT) (.prod (.list nT) (.prod (.list nT) (.prod (.list bT) (.prod nT (.prod nT (.prod nT (.prod (.list nzT) (.prod (.list nzT) (.prod zL (.prod zL zL))))))))))
def oDc(j:MF Int):List T→DT (T×Bool)
 | [.ag [.ls .a (.int .i64) h,.ls .a (.int .i64) o,.ls .a (.int .i64) t,.ls .a (.prod (.int .u8) (.prod (.int .i64) (.int .i64))) G,.v (.int .i64 P),.v (.int .i64 D),.v (.int .i64 S),.ls .a (.prod (.int .i64) zL) O,.ls .a (.prod (.int .i64) zL) U,.v (.bool e),.ls .a .lim C,.ls .a .lim f,.v (.bool y),.ls .a .lim sl,.ls .a .lim z,.v (.bool k),.ls .a .lim q,.ls .a .lim w]]=> .ret (.v (.int .i64 (j h o t G P D S O U ⟨e,C,f⟩ ⟨y,sl,z⟩ ⟨k,q,w⟩)),true)
 | _=> .no
abbrev ODs(e:MF Int):Od:=odT [(119,odR [mdT] (oDc e))]
theorem eSz(e:MF Int)(h o t:List Int)(G:List Bd)(P D S:Int)(O U:List Nz)(C st V:Raw):((qC Tryz.prog (evD Tryz.prog (ODs e) (loT []) 60) 134 [.ag (mdC h o t G P D S O U C st V)] []).bind qF).run=bif !(ieq (e h o t G P D S O U C st V) 0)then some (.tu [vn 0,vi (e h o t G P D S O U C st V)],true)else gd (inW (.ofNat (h.length*o.length))) (gd (inW (.ofNat ((h.length*o.length)*t.length))) (gd (inW (.ofNat (((h.length*o.length)*t.length)*G.length))) (some (.tu [vn (((h.length*o.length)*t.length)*G.length),vn 0],true)))):=by kernel_rfl
abbrev dcA(h o t:List Int)(G:List Bd)(P D S:Int)(O U:List Nz)(C st V:Raw):Int:=dcE cnA crA h o t G P D S O U C st V
theorem qTe:vD Tryz.prog (OX cnA crA Raw.chk adA suA muA aeA seA meA yQ xB frA eqA):=zS zUp (jI kCn)
theorem jCb:gQ Tryz.prog (evD Tryz.prog (OX cnA crA Raw.chk adA suA muA aeA seA meA yQ xB frA eqA) (loT []) 60):=kL yE qTe zZ 60
theorem qZq:wC Tryz.prog LDc:=jO zZ jCb qUe (qXz cnA crA Raw.chk adA suA muA aeA seA meA yQ xB frA eqA)
theorem kDc:∀f q j,(oDc dcA f).run=some (q,j)→∀k,KnP Tryz.prog k 119 f q j:=by
 intro f q j e k;unfold oDc at e;split at e
 ·rename_i h o t G P D S O U w C y E sl J z A B;cases e;exact yM (cz:=[.ag (mdC h o t G P D S O U ⟨w,C,y⟩ ⟨E,sl,J⟩ ⟨z,A,B⟩)]) yE qTe qZq (qWa cnA crA Raw.chk adA suA muA aeA seA meA yQ xB frA eqA h o t G P D S O U ⟨w,C,y⟩ ⟨E,sl,J⟩ ⟨z,A,B⟩) rfl k
 ·cases e
theorem jAp:vD Tryz.prog (ODs dcA):=zS jZ (jI kDc)
def oSz(A z:MF Int):List T→DT (T×Bool)
 | [.ag [.ls .a (.int .i64) h,.ls .a (.int .i64) o,.ls .a (.int .i64) t,.ls .a (.prod (.int .u8) (.prod (.int .i64) (.int .i64))) G,.v (.int .i64 P),.v (.int .i64 D),.v (.int .i64 S),.ls .a (.prod (.int .i64) zL) O,.ls .a (.prod (.int .i64) zL) U,.v (.bool e),.ls .a .lim C,.ls .a .lim f,.v (.bool w),.ls .a .lim sl,.ls .a .lim y,.v (.bool j),.ls .a .lim k,.ls .a .lim q]]=> .ret (.tu [.v (.int .i64 (A h o t G P D S O U ⟨e,C,f⟩ ⟨w,sl,y⟩ ⟨j,k,q⟩)),.v (.int .i64 (z h o t G P D S O U ⟨e,C,f⟩ ⟨w,sl,y⟩ ⟨j,k,q⟩))],true)
 | _=> .no
structure Mod(h o t:List Int)(G:List Bd)(S:Int):Prop where
 grid:icE [h,o,t]=0
 hh:yD (-50000) 50000 h=true
 ho:yD (-100) 100 o=true
 ht:yD (-100) 100 t=true
 av1:1≤G.length
 av6:G.length≤6
 dv:dvF (dr1 G)=none
 st:yD 0 24 [S]=true
 sz:h.length*o.length*t.length*G.length≤200
theorem qSf{l:List Bd}{e:Int}:∀(k i:Nat),fol (gDc l) (fun _=>none) k i ()=some e→e≠0
 | 0,i,h=>by cases h
 | k+1,i,h=>by
  simp only[fol]at h;cases H:gDc l i ()with
  | inl x=>rw[H]at h;exact qSf k (i+1) h
  | inr y=>
   rw[H]at h;unfold gDc at H;cases f:(!ieq (bI l i).1 1&&!ieq (bI l i).1 2)<;>rw[f]at H
   ·cases j:ilt (bI l i).2.2 (bI l i).2.1<;>rw[j]at H
    ·cases q:yD (-100) 100 [(bI l i).2.1,(bI l i).2.2]<;>rw[q]at H<;>cases H<;>cases h<;>decide
    ·cases H;cases h;decide
   ·cases H;cases h;decide
theorem zUm(h o t:List Int)(G:List Bd)(P D S:Int)(O U:List Nz)(C st V:Raw)(hd:dcA h o t G P D S O U C st V=0):Mod h o t G S:=by
 have k:∀{x:Int},ieq x 0=false→x≠0:=fun{x}h e=>by rw[xK e]at h;cases h
 unfold dcA dcE at hd;cases z:ieq (icE [h,o,t]) 0 with
 | false=>rw[z]at hd;exact absurd hd (k z)
 | true=>
  rw[z]at hd;cases q:yD (-50000) 50000 h with
  | false=>rw[q]at hd;cases hd
  | true=>
   cases A:yD (-100) 100 o with
   | false=>rw[q,A]at hd;cases hd
   | true=>
    cases E:yD (-100) 100 t with
    | false=>rw[q,A,E]at hd;cases hd
    | true=>
     rw[q,A,E]at hd;simp only[zu,zf]at hd;cases w:ieq (.ofNat G.length) (.ofNat 0)with
     | true=>rw[w]at hd;cases hd
     | false=>
      cases J:ilt (.ofNat 6) (.ofNat G.length)with
      | true=>rw[w,J]at hd;cases hd
      | false=>
       rw[w,J]at hd;simp only[zf]at hd;cases B:dvF (dr1 G)with
       | some e=>rw[B]at hd;exact absurd hd (qSf _ _ B)
       | none=>
        rw[B]at hd;simp only[isN,ze]at hd;have l0:1≤G.length:=by
         rcases jp G.length with e | e
         ·rw[e]at w;cases w
         ·exact e
        cases T:yD 0 100 [P]with
        | false=>rw[T]at hd;cases hd
        | true=>
         rw[T]at hd;simp only[zu,zf]at hd;cases X:yD 0 50000 [D]with
         | false=>rw[X]at hd;cases hd
         | true=>
          rw[X]at hd;simp only[zu,zf]at hd;cases K:yD 0 24 [S]with
          | false=>rw[K]at hd;cases hd
          | true=>
           rw[K]at hd;simp only[zu,zf]at hd;cases M:ieq (cnA O) 0 with
           | false=>rw[M]at hd;exact absurd hd (k M)
           | true=>
            rw[M]at hd;simp only[zu,zf]at hd;cases N:ieq (cnA U) 0 with
            | false=>rw[N]at hd;exact absurd hd (k N)
            | true=>
             rw[N]at hd;simp only[zu,zf]at hd;cases Q:ieq (crA C) 0 with
             | false=>rw[Q]at hd;exact absurd hd (k Q)
             | true=>
              rw[Q]at hd;simp only[zu,zf]at hd;cases s7:C.neg with
              | true=>rw[s7]at hd;cases hd
              | false=>
               rw[s7]at hd;simp only[zf]at hd;cases R:ieq (crA st) 0 with
               | false=>rw[R]at hd;exact absurd hd (k R)
               | true=>
                rw[R]at hd;simp only[zu,zf]at hd;cases s9:st.neg with
                | true=>rw[s9]at hd;cases hd
                | false=>
                 rw[s9]at hd;simp only[zf]at hd;cases f:ieq (crA V) 0 with
                 | false=>rw[f]at hd;exact absurd hd (k f)
                 | true=>
                  rw[f]at hd;simp only[zu,zf]at hd;cases y:V.neg with
                  | true=>rw[y]at hd;cases hd
                  | false=>
                   rw[y]at hd;simp only[zf]at hd;cases j:ilt (.ofNat 200) (.ofNat (h.length*o.length*t.length*G.length))with
                   | true=>rw[j]at hd;cases hd
                   | false=>
                    rw[j]at hd;simp only[zf]at hd;exact⟨qH.1 z,q,A,E,l0,bD J,B,K,bD j⟩
def szA(h o t:List Int)(G:List Bd)(P D S:Int)(O U:List Nz)(C st V:Raw):Int:=bif ieq (dcA h o t G P D S O U C st V) 0 then .ofNat (h.length*o.length*t.length*G.length)else 0
theorem jCw(h o t:List Int)(G:List Bd)(P D S:Int)(O U:List Nz)(C st V:Raw):((qC Tryz.prog (evD Tryz.prog (ODs dcA) (loT []) 60) 134 [.ag (mdC h o t G P D S O U C st V)] []).bind qF).run=some (.tu [vi (szA h o t G P D S O U C st V),vi (dcA h o t G P D S O U C st V)],true):=by
 rw[eSz];unfold szA;cases e:ieq (dcA h o t G P D S O U C st V) 0 with
 | false=>rfl
 | true=>
  have m:=zUm h o t G P D S O U C st V (qH.1 e);obtain⟨⟨_,j⟩,⟨_,k⟩,⟨_,q⟩⟩:=zWv m.grid;obtain⟨w,y,m3⟩:=zXn j k q m.av6;have f:dcA h o t G P D S O U C st V=0:=qH.1 e;simp only[zu,zf,ze,gd,yT (show h.length*o.length<9223372036854775808 by omega),yT (show h.length*o.length*t.length<9223372036854775808 by omega),yT (show h.length*o.length*t.length*G.length<9223372036854775808 by omega)]
  rw[f];rfl
theorem kSz:∀f q j,(oSz szA dcA f).run=some (q,j)→∀k,KnP Tryz.prog k 134 f q j:=by
 intro f q j e k;unfold oSz at e;split at e
 ·rename_i h o t G P D S O U w C y E sl J z A B;cases e;exact yM (cz:=[.ag (mdC h o t G P D S O U ⟨w,C,y⟩ ⟨E,sl,J⟩ ⟨z,A,B⟩)]) yE jAp zZ (jCw h o t G P D S O U ⟨w,C,y⟩ ⟨E,sl,J⟩ ⟨z,A,B⟩) rfl k
 ·cases e
def kyF(l:List Int):ByteArray:=⟨(zCv (l.map Int.toNat)).toArray⟩
def kyG(l:List Int):Bool:=Nat.blt 0 l.length&&(Nat.blt l.length 1000&&l.all fun x=>nng x&&ilt x 9223372036854775808)
def oKy(ky:List Int→ByteArray):List T→DT (T×Bool)
 | [.ls .a (.int .i64) l]=>grd (kyG l) (.ret (.v (.string (ky l)),true))
 | _=> .no
theorem kKy:∀z G E,(oKy kyF z).run=some (G,E)→∀k,KnP Tryz.prog k 130 z G E:=by
 intro z G E h k;unfold oKy at h;split at h
 ·rename_i l;obtain⟨J,f⟩:=zR h;cases f;simp only[kyG,zd,qa]at J;obtain⟨g1,g2,g3⟩:=J;have g1:=jL g1;have g2:=jL g2;intro B w X qQ R hI _ hX hR hK;match qQ,hR with
  | [v],⟨hv,_⟩=>
   cases hv with
   | ls hv=>
    obtain⟨ad,c,T,hD⟩:=hv;cases T;rcases hD.2.2 with rfl | ⟨b,o,rfl,K,H⟩
    ·exact absurd g1 (dq _)
    ·have Q:∀x∈l,∃m:Nat,x= .ofNat m∧m≤9223372036854775807:=fun x A=>by
      have:=g3 x A;cases x with
      | ofNat m=>exact⟨m,rfl,by have f:=tL.1 this.2;have f:(m:Int)<9223372036854775808:=f;omega⟩
      | negSucc m=>cases this.1
     have N:l.length=(l.map Int.toNat).length:=(ku _).symm;show Calls Tryz.prog 130 #[.slice (some ⟨b,o,none⟩) l.length c] w R;rw[N];refine(zQm b o c (l.map Int.toNat) w (by rw[←N];omega) (fun x A=>?_) (hI (by rw[qIv];exact fun h=>by cases h)) fun j x M=>?_).mono ?_
     ·obtain⟨y,q,rfl⟩:=wv.1 A;obtain⟨m,rfl,hm⟩:=Q y q;exact hm
     ·rw[qw]at M;obtain⟨y,q,rfl⟩:=kA.1 M;obtain⟨m,rfl,hm⟩:=Q y (qk q);obtain⟨vs,h3,h4,h5⟩:=H j _ q;obtain rfl:vs=[.int .i64 (.ofNat m)]:=h4;have:=h5 0 _ rfl;rw[show o+(j*Ty.size nT+0)=o+j by simp[Ty.size]]at this
      exact yO this
     ·rintro e w' ⟨rfl,K⟩;exact hK _ w' (Upd.of_below K) (.v rfl)
 ·cases h
def iP1(f us:Int)(od:Bool)(e:List (List Int))(n k:Nat)(c:List Int)(m i:Nat)(G:List Bd)(F:List (List Int)):Hs:=⟨[vi f,vi us,.v (.bool od),.ls .a (.list nT) e,vn n,vn k,.ls .a nT c,vn m,vn i],[],[[.ls .a bT G,.ls .a (.list nT) F]]⟩
def xP1(f us:Int)(od:Bool)(e:List (List Int))(n k:Nat)(G:List Bd)(F:List (List Int)):Hs:=⟨[vi f,vi us,.v (.bool od),.ls .a (.list nT) e,vn n,vn k],[],[[.ls .a bT G,.ls .a (.list nT) F]]⟩
def Lp1:Lp:=⟨1,
 ⟨[.u,.t (.op 0 0),.u,.h,.u,.h,.h]++(us' 37++([.h,.h,.h]++(us' 7++([.h,.h,.h]++(us' 76))))),[.r [.u,.u,.u,.h,.u,.u,.u,.u,.u,.u,.u,.u,.u,.u,.u,.u,.u,.u,.u,.h,.u] 33]⟩,
 ⟨[.u,.t (.op 0 0),.u,.h,.u,.h,.h]++(us' 37++([.h,.h,.h]++(us' 86))),[.r [.u,.u,.u,.h,.u,.u,.u,.u,.u,.u,.u,.u,.u,.u,.u,.u,.u,.u,.u,.h,.u] 33]⟩,
 ⟨[.u,.u,.h]++(us' 130),[.g]⟩⟩
abbrev qRk:Code:=lpc Tryz.prog 61 [false,true,true,true,false,false,true,true,false,false,true,false,true,true,true,true]
theorem qUm:cAt Tryz.prog 61 [false,true,true,true,false,false,true,true,false,false,true,false,true,true,true,true]=some (.loop qRk):=by kernel_rfl
abbrev qCg(f:Od)(e:Lo):Hs→Option (Hs⊕(Ex×Hs)):=Lp1.stp (evD Tryz.prog f e 60) 61 [false,true,true,true,false,false,true,true,false,false,true,false,true,true,true,true] qRk
theorem sP1(f us:Int)(od:Bool)(e:List (List Int))(n k:Nat)(c:List Int)(m i:Nat)(G:List Bd)(F:List (List Int)):qCg (odT []) (loT []) (iP1 f us od e n k c m i G F)=bif ilt (.ofNat i) (.ofNat m)then gd (Nat.blt i c.length) (bif ilt (nth nT.zero c i) (.ofNat 0)then some (.inr (.r,⟨[vn 8],[],[[]]⟩))else(bif !(ilt (nth nT.zero c i) (.ofNat F.length))then some (.inr (.r,⟨[vn 8],[],[[]]⟩))else(bif ilt us (nth nT.zero c i)then nx i (.inl (iP1 f us false e n k c m (i+1) G F))else(bif ieq (nth nT.zero c i) us then gd (inW (us.add 1)) (nx i (.inl (iP1 f (us.add (.ofNat 1)) od e n k c m (i+1) G F)))else nx i (.inl (iP1 f us od e n k c m (i+1) G F))))))else some (.inr (.x 3,(xP1 f us od e n k G F))):=by kernel_rfl
abbrev UO:=Int×Bool
def gP1(F:List (List Int))(c:List Int)(i:Nat)(s:UO):UO⊕Option UO:=bif ilt (nI c i) (.ofNat 0)||!ilt (nI c i) (.ofNat F.length)then .inr none else .inl (bif ilt s.1 (nI c i)then(s.1,false)else(bif ieq (nI c i) s.1 then(s.1.add 1,s.2)else s))
def p1F(F:List (List Int))(c:List Int)(s:UO):Option UO:=fol (gP1 F c) some c.length 0 s
def qSz(f:Int)(e:List (List Int))(n k:Nat)(G:List Bd)(F:List (List Int)):Option UO→Ex×Hs
 | none=>(.r,⟨[vn 8],[],[[]]⟩)
 | some s=>(.x 3,xP1 f s.1 s.2 e n k G F)
def okU(F:List (List Int))(s:UO):Prop:=0≤s.1∧s.1≤F.length
theorem qFi{F:List (List Int)}{c:List Int}{i:Nat}{s w:UO}(h:okU F s)(f:gP1 F c i s= .inl w):okU F w:=by
 unfold gP1 at f;cases j:ilt (nI c i) (.ofNat 0)||!ilt (nI c i) (.ofNat F.length)with
 | true=>rw[j]at f;cases f
 | false=>
  rw[j]at f;simp only[xr,ul]at j;have y:nI c i<(F.length:Int):=tL.1 j.2;cases k:ilt s.1 (nI c i)with
  | true=>rw[k]at f;cases f;exact h
  | false=>
   cases q:ieq (nI c i) s.1 with
   | false=>rw[k,q]at f;cases f;exact h
   | true=>
    rw[k,q]at f;cases f;have e:=qH.1 q;exact⟨uV h.1 (show s.1≤s.1+1 by omega),show s.1+1≤(F.length:Int)by omega⟩
theorem lpP1(q:Int)(j:List (List Int))(n k:Nat)(c:List Int)(G:List Bd)(F:List (List Int))(s:UO)(y:okU F s)(A:c.length<9223372036854775807)(B:F.length<9223372036854775807):lpF (qCg (odT []) (loT [])) c.length (iP1 q s.1 s.2 j n k c c.length 0 G F)=some (qSz q j n k G F (p1F F c s)):=
 jV (iv:=fun i(s:UO)=>iP1 q s.1 s.2 j n k c c.length i G F) (g:=gP1 F c) (d:=some) (out:=qSz q j n k G F) (n:=c.length) (fun _ s=>okU F s)
  (fun i s e f=>by
   rw[sP1];show(bif Nat.blt i c.length then _ else _)=_;unfold gP1 nI;have z:inW (s.1.add 1)=true:=zCt (show(0:Int)≤s.1+1 from by have:=f.1;omega) (show s.1+1<9223372036854775808 from by have:=f.2;omega)
   simp only[gd,zO e,ze,kK (show i+1<9223372036854775808 by omega),z]
   cases ilt (nth nT.zero c i) (.ofNat 0)<;>cases ilt (nth nT.zero c i) (.ofNat F.length)<;>cases ilt s.1 (nth nT.zero c i)<;>cases ieq (nth nT.zero c i) s.1<;>rfl)
  (fun i s E e f w=>qFi f w)
  (fun s _=>by rw[sP1];show(bif Nat.blt c.length c.length then _ else _)=_;rw[jU (zq _),zf];rfl) c.length 0 s (by omega) y
def isS{α:Type}:Option α→Bool
 | some _=>true
 | none=>false
def gS:Option UO→UO
 | some s=>s
 | none=>(0,false)
def zRa(F:List (List Int))(us:Int):Bool:=nng us&&!ilt (.ofNat F.length) us
theorem zFj{F:List (List Int)}{us:Int}{od:Bool}:zRa F us=true↔okU F (us,od):=by
 unfold zRa okU;simp only[zd,qq];constructor
 ·rintro⟨e,f⟩;cases us with
  | ofNat m=>exact⟨j4 _,vF f⟩
  | negSucc m=>cases e
 ·rintro⟨e,f⟩;cases us with
  | ofNat m=>exact⟨rfl,zBa f⟩
  | negSucc m=>exact absurd e (by show¬(0:Int)≤Int.negSucc m;omega)
def hP1:Hs→DT (Ex×Hs)
 | ⟨[.v (.int .i64 f),.v (.int .i64 us),.v (.bool od),.ls .a (.list (.int .i64)) e,.v (.int .i64 (.ofNat n)),.v (.int .i64 (.ofNat k)),.ls .a (.int .i64) c,.v (.int .i64 (.ofNat m)),.v (.int .i64 (.ofNat 0))],[],[[.ls .a (.prod (.int .u8) (.prod (.int .i64) (.int .i64))) G,.ls .a (.list (.int .i64)) F]]⟩=>grd (Nat.beq m c.length&&(Nat.blt c.length 9223372036854775807&&(Nat.blt F.length 9223372036854775807&&zRa F us))) (.ite (isS (p1F F c (us,od))) (.ret (.x 3,xP1 f (gS (p1F F c (us,od))).1 (gS (p1F F c (us,od))).2 e n k G F)) (.ret (.r,⟨[vn 8],[],[[]]⟩)))
 | _=> .no
theorem qYh:∀q y,(hP1 q).run=some y→∃n,It (qCg (odT []) (loT [])) n q y:=fun q y e=>by
 unfold hP1 at e;split at e
 ·rename_i E us od B n k c m G F;obtain⟨f,j⟩:=zR e;simp only[zd]at f;obtain⟨g1,g2,w,z⟩:=f;obtain rfl:=zV g1;have:=kY _ _ (lpP1 E B n k c G F (us,od) (zFj.1 z) (jL g2) (jL w));cases A:p1F F c (us,od)<;>rw[A]at j this<;>cases j<;>exact this
 ·cases e
abbrev LP1:Lo:=loT [(61,[false,true,true,true,false,false,true,true,false,false,true,false,true,true,true,true],Lp1.row hP1)]
theorem qZz:wC Tryz.prog LP1:=jO zZ lY qUm qYh
def iP0(f us:Int)(od:Bool)(e:List (List Int))(n k:Nat)(G:List Bd)(F:List (List Int)):Hs:=⟨[vi f,vi us,.v (.bool od),.ls .a (.list nT) e,vn n,vn k],[],[[.ls .a bT G,.ls .a (.list nT) F]]⟩
def xP0(us:Int)(od:Bool)(G:List Bd)(F:List (List Int)):Hs:=⟨[vi us,.v (.bool od)],[],[[.ls .a bT G,.ls .a (.list nT) F]]⟩
def Lp0:Lp:=⟨1,
 ⟨[.u,.t (.op 0 0),.u,.h,.u,.h,.h]++(us' 37++([.h,.h,.h]++(us' 86))),[.r [.u,.u,.u,.h,.u,.u,.u,.u,.u,.u,.u,.u,.u,.u,.u,.u,.u,.u,.u,.h,.u] 33]⟩,
 ⟨[.u,.t (.op 0 0)]++(us' 3++([.h,.h]++(us' 126))),[.r [.u,.u,.u,.h,.u,.u,.u,.u,.u,.u,.u,.u,.u,.u,.u,.u,.u,.u,.u,.h,.u] 33]⟩,
 ⟨[.u,.u,.h]++(us' 130),[.g]⟩⟩
abbrev qRj:Code:=lpc Tryz.prog 61 [false,true,false,true,true,true,true]
theorem qUl:cAt Tryz.prog 61 [false,true,false,true,true,true,true]=some (.loop qRj):=by kernel_rfl
abbrev qCf(f:Od)(e:Lo):Hs→Option (Hs⊕(Ex×Hs)):=Lp0.stp (evD Tryz.prog f e 60) 61 [false,true,false,true,true,true,true] qRj
theorem sP0(f us:Int)(od:Bool)(e:List (List Int))(n k:Nat)(G:List Bd)(F:List (List Int)):qCf (odT []) LP1 (iP0 f us od e n k G F)=bif ilt (.ofNat k) (.ofNat n)then gd (Nat.blt k e.length) (bif !(ieq (.ofNat ((gI e k).length)) f)then some (.inr (.r,⟨[vn 16],[],[[]]⟩))else gd ((Nat.beq ((gI e k).length) ((gI e k).length))&&((Nat.blt ((gI e k).length) 9223372036854775807)&&((Nat.blt F.length 9223372036854775807)&&(zRa F us)))) (bif isS (p1F F (gI e k) (us,od))then nx k (.inl (iP0 f ((gS (p1F F (gI e k) (us,od))).1) ((gS (p1F F (gI e k) (us,od))).2) e n (k+1) G F))else some (.inr (.r,⟨[vn 8],[],[[]]⟩))))else some (.inr (.x 1,(xP0 us od G F))):=by kernel_rfl
def gP0(f:Int)(F e:List (List Int))(k:Nat)(s:UO):UO⊕(UO⊕Int):=bif !ieq (.ofNat (gI e k).length) f then .inr (.inr 16)else(bif isS (p1F F (gI e k) s)then .inl (gS (p1F F (gI e k) s))else .inr (.inr 8))
def p0F(f:Int)(F e:List (List Int))(s:UO):UO⊕Int:=fol (gP0 f F e) .inl e.length 0 s
def qSy(G:List Bd)(F:List (List Int)):UO⊕Int→Ex×Hs
 | .inl s=>(.x 1,xP0 s.1 s.2 G F)
 | .inr e=>(.r,⟨[vi e],[],[[]]⟩)
theorem xG{α β:Type}{g:Nat→α→α⊕β}{d:α→β}{J:α→Prop}{R:β→Prop}(e:∀i a b,J a→g i a= .inl b→J b)(f:∀i a y,J a→g i a= .inr y→R y)(j:∀a,J a→R (d a)):∀(k i:Nat)(a:α),J a→R (fol g d k i a)
 | 0,i,a,h=>j a h
 | k+1,i,a,h=>by
  simp only[fol];cases H:g i a with
  | inl b=>exact xG e f j k (i+1) b (e i a b h H)
  | inr y=>exact f i a y h H
theorem jEx{F:List (List Int)}{c:List Int}{s:UO}(h:okU F s)(k:isS (p1F F c s)=true):okU F (gS (p1F F c s)):=by
 have:=xG (g:=gP1 F c) (d:=some) (J:=okU F) (R:=fun y=>∀j,y=some j→okU F j) (fun i a b ha f=>qFi ha f) (fun i a y ha f j e=>by
  unfold gP1 at f;cases q:ilt (nI c i) (.ofNat 0)||!ilt (nI c i) (.ofNat F.length)<;>rw[q]at f
  ·cases f
  ·cases f;cases e) (fun a ha j e=>by cases e;exact ha) c.length 0 s h
 cases hp:p1F F c s with
 | none=>rw[hp]at k;cases k
 | some j=>exact this j hp
theorem qXr{w:Int}{F q:List (List Int)}{k:Nat}{s y:UO}(h:okU F s)(e:gP0 w F q k s= .inl y):okU F y:=by
 unfold gP0 at e;cases f:ieq (.ofNat (gI q k).length) w with
 | false=>rw[f]at e;cases e
 | true=>
  cases j:isS (p1F F (gI q k) s)with
  | false=>rw[f,j]at e;cases e
  | true=>rw[f,j]at e;cases e;exact jEx h j
theorem lpP0(k:Int)(f:List (List Int))(G:List Bd)(F:List (List Int))(s:UO)(B:okU F s)(J:k<9223372036854775807)(E:f.length<9223372036854775807)(A:F.length<9223372036854775807):lpF (qCf (odT []) LP1) f.length (iP0 k s.1 s.2 f f.length 0 G F)=some (qSy G F (p0F k F f s)):=
 jV (iv:=fun i(s:UO)=>iP0 k s.1 s.2 f f.length i G F) (g:=gP0 k F f) (d:= .inl) (out:=qSy G F) (n:=f.length) (fun _ s=>okU F s)
  (fun i s j q=>by
   rw[sP0];show(bif Nat.blt i f.length then _ else _)=_;unfold gP0;cases w:ieq (.ofNat (gI f i).length) k with
   | false=>simp only[gd,zO j,ze];rfl
   | true=>
    have e:((gI f i).length:Int)=k:=qH.1 w;have y:zRa F s.1=true:=zFj.2 q;simp only[gd,zO j,ze,zu,zf,jD,zO (show(gI f i).length<9223372036854775807 by omega),zO A,y,jf,kK (show i+1<9223372036854775808 by omega)]
    cases isS (p1F F (gI f i) s)<;>rfl)
  (fun i s K j q z=>qXr q z)
  (fun s _=>by rw[sP0];show(bif Nat.blt f.length f.length then _ else _)=_;rw[jU (zq _),zf];rfl) f.length 0 s (by omega) B
def isU:UO⊕Int→Bool
 | .inl _=>true
 | .inr _=>false
def gU:UO⊕Int→UO
 | .inl s=>s
 | .inr _=>(0,false)
def eU:UO⊕Int→Int
 | .inl _=>0
 | .inr e=>e
def hP0:Hs→DT (Ex×Hs)
 | ⟨[.v (.int .i64 f),.v (.int .i64 us),.v (.bool od),.ls .a (.list (.int .i64)) e,.v (.int .i64 (.ofNat n)),.v (.int .i64 (.ofNat 0))],[],[[.ls .a (.prod (.int .u8) (.prod (.int .i64) (.int .i64))) G,.ls .a (.list (.int .i64)) F]]⟩=>grd (Nat.beq n e.length&&(Nat.blt e.length 9223372036854775807&&(Nat.blt F.length 9223372036854775807&&(zRa F us&&ilt f 9223372036854775807)))) (.ite (isU (p0F f F e (us,od))) (.ret (.x 1,xP0 (gU (p0F f F e (us,od))).1 (gU (p0F f F e (us,od))).2 G F)) (.ret (.r,⟨[vi (eU (p0F f F e (us,od)))],[],[[]]⟩)))
 | _=> .no
theorem qPx:gQ Tryz.prog (evD Tryz.prog (odT []) LP1 60):=kL yE jZ qZz 60
theorem qYg:∀q y,(hP0 q).run=some y→∃n,It (qCf (odT []) LP1) n q y:=fun q y e=>by
 unfold hP0 at e;split at e
 ·rename_i w us od k n G F;obtain⟨f,j⟩:=zR e;simp only[zd]at f;obtain⟨g1,g2,z,A,g5⟩:=f;obtain rfl:=zV g1;have:=kY _ _ (lpP0 w k G F (us,od) (zFj.1 A) (tL.1 g5) (jL g2) (jL z));cases B:p0F w F k (us,od)<;>rw[B]at j this<;>cases j<;>exact this
 ·cases e
def iP3(us:Int)(od:Bool)(d:List Int)(f:List (List Int))(n k:Nat)(c:List Int)(m i:Nat)(e:List (ByteArray×Int))(G:List Bd)(F:List (List Int)):Hs:=⟨[vi us,.v (.bool od),.ls .a nT d,.ls .a (.list nT) f,vn n,vn k,.ls .a nT c,vn m,vn i],[],[[.ls .a bT G,.ls .a (.list nT) F],[.ls .a (.prod .str nT) e]]⟩
def xP3(us:Int)(od:Bool)(d:List Int)(f:List (List Int))(n k:Nat)(e:List (ByteArray×Int))(G:List Bd)(F:List (List Int)):Hs:=⟨[vi us,.v (.bool od),.ls .a nT d,.ls .a (.list nT) f,vn n,vn k],[],[[.ls .a bT G,.ls .a (.list nT) F],[.ls .a (.prod .str nT) e]]⟩
def Lp3:Lp:=⟨2,
 ⟨[.u,.t (.op 0 0)]++(us' 3++([.h,.h]++(us' 4++([.t (.om 1),.u,.h]++(us' 70++([.h,.h,.h]++(us' 10++([.h,.h,.h]++(us' 33))))))))),[.r [.u,.u,.u,.h,.u,.u,.u,.u,.u,.u,.u,.u,.u,.u,.u,.u,.u,.u,.u,.h,.u] 33,.m .a .str nT]⟩,
 ⟨[.u,.t (.op 0 0)]++(us' 3++([.h,.h]++(us' 4++([.t (.om 1),.u,.h]++(us' 70++([.h,.h,.h]++(us' 46))))))),[.r [.u,.u,.u,.h,.u,.u,.u,.u,.u,.u,.u,.u,.u,.u,.u,.u,.u,.u,.u,.h,.u] 33,.m .a .str nT]⟩,
 ⟨[.u,.u,.h]++(us' 130),[.g,.g]⟩⟩
abbrev qRm:Code:=lpc Tryz.prog 61 [false,true,false,true,true,false,false,true,true,false,false,true,false,true,true,true,true,true,true]
theorem qUo:cAt Tryz.prog 61 [false,true,false,true,true,false,false,true,true,false,false,true,false,true,true,true,true,true,true]=some (.loop qRm):=by kernel_rfl
abbrev qCi(f:Od)(e:Lo):Hs→Option (Hs⊕(Ex×Hs)):=Lp3.stp (evD Tryz.prog f e 60) 61 [false,true,false,true,true,false,false,true,true,false,false,true,false,true,true,true,true,true,true] qRm
theorem sP3(us:Int)(od:Bool)(d:List Int)(f:List (List Int))(n k:Nat)(c:List Int)(m i:Nat)(e:List (ByteArray×Int))(G:List Bd)(F:List (List Int)):qCi (odT []) (loT []) (iP3 us od d f n k c m i e G F)=bif ilt (.ofNat i) (.ofNat m)then gd (Nat.blt i c.length) (bif ilt (nth nT.zero c i) (.ofNat 0)then some (.inr (.r,⟨[vn 1],[],[[],[]]⟩))else(bif ilt (.ofNat 1099511627776) (nth nT.zero c i)then some (.inr (.r,⟨[vn 1],[],[[],[]]⟩))else nx i (.inl (iP3 us od d f n k c m (i+1) e G F))))else some (.inr (.x 8,(xP3 us od d f n k e G F))):=by kernel_rfl
def gP3(c:List Int)(i:Nat)(_:Unit):Unit⊕Bool:=bif ilt (nI c i) (.ofNat 0)||ilt (.ofNat 1099511627776) (nI c i)then .inr true else .inl ()
def p3F(c:List Int):Bool:=fol (gP3 c) (fun _=>false) c.length 0 ()
def zYg(us:Int)(od:Bool)(d:List Int)(f:List (List Int))(n k:Nat)(e:List (ByteArray×Int))(G:List Bd)(F:List (List Int)):Bool→Ex×Hs
 | true=>(.r,⟨[vn 1],[],[[],[]]⟩)
 | false=>(.x 8,xP3 us od d f n k e G F)
theorem lpP3(us:Int)(od:Bool)(d:List Int)(f:List (List Int))(n k:Nat)(e:List (ByteArray×Int))(c:List Int)(G:List Bd)(F:List (List Int))(q:c.length<9223372036854775807):lpF (qCi (odT []) (loT [])) c.length (iP3 us od d f n k c c.length 0 e G F)=some (zYg us od d f n k e G F (p3F c)):=
 jV (iv:=fun i(_:Unit)=>iP3 us od d f n k c c.length i e G F) (g:=gP3 c) (d:=fun _=>false) (out:=zYg us od d f n k e G F) (n:=c.length) (fun _ _=>True)
  (fun i s j _=>by
   rw[sP3];show(bif Nat.blt i c.length then _ else _)=_;unfold gP3 nI;rw[zO j,ze];simp only[gd,ze,kK (show i+1<9223372036854775808 by omega)]
   cases ilt (nth nT.zero c i) (.ofNat 0)<;>cases ilt (.ofNat 1099511627776) (nth nT.zero c i)<;>rfl)
  (fun _ _ _ _ _ _=>trivial)
  (fun s _=>by rw[sP3];show(bif Nat.blt c.length c.length then _ else _)=_;rw[jU (zq _),zf];rfl) c.length 0 () (by omega) trivial
def hP3:Hs→DT (Ex×Hs)
 | ⟨[.v (.int .i64 us),.v (.bool od),.ls .a (.int .i64) d,.ls .a (.list (.int .i64)) f,.v (.int .i64 (.ofNat n)),.v (.int .i64 (.ofNat k)),.ls .a (.int .i64) c,.v (.int .i64 (.ofNat m)),.v (.int .i64 (.ofNat 0))],[],[[.ls .a (.prod (.int .u8) (.prod (.int .i64) (.int .i64))) G,.ls .a (.list (.int .i64)) F],[.ls .a (.prod .str (.int .i64)) e]]⟩=>grd (Nat.beq m c.length&&Nat.blt c.length 9223372036854775807) (.ite (p3F c) (.ret (zYg us od d f n k e G F true)) (.ret (zYg us od d f n k e G F false)))
 | _=> .no
theorem qYj:∀q y,(hP3 q).run=some y→∃n,It (qCi (odT []) (loT [])) n q y:=fun q y e=>by
 unfold hP3 at e;split at e
 ·rename_i us od d A n k c m G F z;obtain⟨f,j⟩:=zR e;simp only[zd]at f;obtain rfl:=zV f.1;have:=kY _ _ (lpP3 us od d A n k z c G F (jL f.2));cases w:p3F c<;>rw[w]at j this<;>cases j<;>exact this
 ·cases e
abbrev LP3:Lo:=loT [(61,[false,true,false,true,true,false,false,true,true,false,false,true,false,true,true,true,true,true,true],Lp3.row hP3)]
theorem jAa:wC Tryz.prog LP3:=jO zZ lY qUo qYj
theorem qTg{c:List Int}(h:p3F c=false){i:Nat}(k:i<c.length):0≤nI c i∧nI c i≤1099511627776:=by
 have H:=zAt (g:=gP3 c) (d:=false) (fun i y j e=>by unfold gP3 at j;cases f:ilt (nI c i) (.ofNat 0)||ilt (.ofNat 1099511627776) (nI c i)<;>rw[f]at j<;>cases j;cases e) c.length 0 h i (qu _) (by omega)
 unfold gP3 at H;cases f:ilt (nI c i) (.ofNat 0)||ilt (.ofNat 1099511627776) (nI c i)with
 | true=>rw[f]at H;cases H
 | false=>
  simp only[xr]at f;exact⟨vF f.1,vF f.2⟩
theorem qZm{c:List Int}(w:1≤c.length)(y:c.length≤900)(h:p3F c=false):kyG c=true:=by
 simp only[kyG,zd,qa];refine⟨zO (by omega),zO (by omega),fun x q=>?_⟩
 obtain⟨i,j⟩:=jr q;have hlt:=(zh.1 j).1;have e:nI c i=x:=by rw[jAg hlt];exact(zh.1 j).2
 obtain⟨f,k⟩:=qTg h hlt;rw[e]at f k;refine⟨?_,gL (by omega)⟩
 cases x with
 | ofNat m=>rfl
 | negSucc m=>exact absurd f (by omega)
def iP2(us:Int)(od:Bool)(f:List (List Int))(n k:Nat)(e:List (ByteArray×Int))(G:List Bd)(F:List (List Int)):Hs:=⟨[vi us,.v (.bool od),.ls .a (.list nT) f,vn n,vn k],[],[[.ls .a bT G,.ls .a (.list nT) F],[.ls .a (.prod .str nT) e]]⟩
def xP2(us:Int)(od:Bool)(e:List (ByteArray×Int))(G:List Bd)(F:List (List Int)):Hs:=⟨[vi us,.v (.bool od)],[],[[.ls .a bT G,.ls .a (.list nT) F],[.ls .a (.prod .str nT) e]]⟩
def Lp2:Lp:=⟨2,
 ⟨[.u,.t (.op 0 0)]++(us' 3++([.h,.h]++(us' 4++([.t (.om 1)]++(us' 72++([.h,.h,.h]++(us' 46))))))),[.r [.u,.u,.u,.h,.u,.u,.u,.u,.u,.u,.u,.u,.u,.u,.u,.u,.u,.u,.u,.h,.u] 33,.m .a .str nT]⟩,
 ⟨[.u,.t (.op 0 0)]++(us' 3++([.h,.h]++(us' 4++([.t (.om 1)]++(us' 121))))),[.r [.u,.u,.u,.h,.u,.u,.u,.u,.u,.u,.u,.u,.u,.u,.u,.u,.u,.u,.u,.h,.u] 33,.m .a .str nT]⟩,
 ⟨[.u,.u,.h]++(us' 130),[.g,.g]⟩⟩
abbrev qRl:Code:=lpc Tryz.prog 61 [false,true,false,true,true,true,true,true,true]
theorem qUn:cAt Tryz.prog 61 [false,true,false,true,true,true,true,true,true]=some (.loop qRl):=by kernel_rfl
abbrev qCh(f:Od)(e:Lo):Hs→Option (Hs⊕(Ex×Hs)):=Lp2.stp (evD Tryz.prog f e 60) 61 [false,true,false,true,true,true,true,true,true] qRl
abbrev OKy(ky:List Int→ByteArray):Od:=odT [(130,odR [.list nT] (oKy ky))]
theorem sP2(ky:List Int→ByteArray)(us:Int)(od:Bool)(e:List (List Int))(n k:Nat)(f:List (ByteArray×Int))(G:List Bd)(F:List (List Int)):qCh (OKy ky) LP3 (iP2 us od e n k f G F)=bif ilt (.ofNat k) (.ofNat n)then gd (Nat.blt k e.length) (bif !(ieq (.ofNat ((gI e k).length)) (.ofNat G.length))then some (.inr (.r,⟨[vn 16],[],[[],[]]⟩))else gd ((Nat.beq ((gI e k).length) ((gI e k).length))&&(Nat.blt ((gI e k).length) 9223372036854775807)) (bif p3F (gI e k)then some (.inr (.r,⟨[vn 1],[],[[],[]]⟩))else gd (kyG (gI e k)) (gd (inW (Int.add (rE .str 0 (ky (gI e k)) f) 1)) (nx k (.inl (iP2 us od e n (k+1) (aA .str (ky (gI e k)) (Int.add (rE .str 0 (ky (gI e k)) f) 1) f) G F))))))else some (.inr (.x 6,(xP2 us od f G F))):=by kernel_rfl
abbrev Km:=List (ByteArray×Int)
theorem zQc(k j:ByteArray)(x:Int):∀m:Km,rE .str 0 k (aA .str j x m)=x∨rE .str 0 k (aA .str j x m)=rE .str 0 k m
 | []=>by
  show(bif keq .str k j then x else(0:Int))=x∨(bif keq .str k j then x else(0:Int))=0;cases keq .str k j
  ·exact .inr rfl
  ·exact .inl rfl
 | e::m=>by
  have y:aA .str j x (e::m)=(bif keq .str j e.1 then(j,x)::m else e::aA .str j x m):=rfl;have w:∀(q:ByteArray)(f:ByteArray×Int)(m:Km),rE .str 0 q (f::m)=(bif keq .str q f.1 then f.2 else rE .str 0 q m):=fun _ _ _=>rfl;rw[y];cases h:keq .str j e.1 with
  | true=>
   rw[ze,w,w];have z:j=e.1:=jc h;rw[←z];cases keq .str k j
   ·exact .inr rfl
   ·exact .inl rfl
  | false=>
   rw[zf,w,w];cases keq .str k e.1
   ·exact zQc k j x m
   ·exact .inr rfl
def okK(k:Nat)(e:Km):Prop:=∀q,0≤rE .str 0 q e∧rE .str 0 q e≤k
theorem qOn{k:Nat}{f:Km}(h:okK k f)(q:ByteArray):okK (k+1) (aA .str q (Int.add (rE .str 0 q f) 1) f):=fun p=>by
 have w:=h q;have j:=h p;rcases zQc p q (Int.add (rE .str 0 q f) 1) f with e | e<;>rw[e]
 ·exact⟨show(0:Int)≤rE .str 0 q f+1 by omega,show rE .str 0 q f+1≤((k+1:Nat):Int)by omega⟩
 ·exact⟨j.1,by omega⟩
section
variable (ky:List Int→ByteArray)
def gP2(e:List (List Int))(G:List Bd)(k:Nat)(f:Km):Km⊕(Km⊕Int):=bif !ieq (.ofNat (gI e k).length) (.ofNat G.length)then .inr (.inr 16)else(bif p3F (gI e k)then .inr (.inr 1)else .inl (aA .str (ky (gI e k)) (Int.add (rE .str 0 (ky (gI e k)) f) 1) f))
def p2F(e:List (List Int))(G:List Bd):Km⊕Int:=fol (gP2 ky e G) .inl e.length 0 []
def qTa(us:Int)(od:Bool)(G:List Bd)(F:List (List Int)):Km⊕Int→Ex×Hs
 | .inl f=>(.x 6,xP2 us od f G F)
 | .inr e=>(.r,⟨[vi e],[],[[],[]]⟩)
theorem lpP2(us:Int)(od:Bool)(f:List (List Int))(G:List Bd)(F:List (List Int))(M:f.length<9223372036854775807)(ha:1≤G.length)(N:G.length≤900):lpF (qCh (OKy ky) LP3) f.length (iP2 us od f f.length 0 [] G F)=some (qTa us od G F (p2F ky f G)):=
 jV (iv:=fun k(j:Km)=>iP2 us od f f.length k j G F) (g:=gP2 ky f G) (d:= .inl) (out:=qTa us od G F) (n:=f.length) (fun k j=>okK k j)
  (fun k j B A=>by
   rw[sP2];show(bif Nat.blt k f.length then _ else _)=_;unfold gP2;rw[zO B,ze];cases y:ieq (.ofNat (gI f k).length) (.ofNat G.length)with
   | false=>rfl
   | true=>
    have e:(gI f k).length=G.length:=uO (qH.1 y);simp only[gd,zu,zf,ze,jD,zO (show(gI f k).length<9223372036854775807 by omega),jf]
    cases z:p3F (gI f k)with
    | true=>rfl
    | false=>
     have E:=A (ky (gI f k));have J:inW (Int.add (rE .str 0 (ky (gI f k)) j) 1)=true:=zCt (show(0:Int)≤rE .str 0 (ky (gI f k)) j+1 by omega) (show rE .str 0 (ky (gI f k)) j+1<9223372036854775808 by omega)
     simp only[zf,qZm (show 1≤(gI f k).length by omega) (show(gI f k).length≤900 by omega) z,ze,J,kK (show k+1<9223372036854775808 by omega)])
  (fun k j K B A w=>by
   unfold gP2 at w;cases y:ieq (.ofNat (gI f k).length) (.ofNat G.length)<;>rw[y]at w
   ·cases w
   ·cases z:p3F (gI f k)<;>rw[z]at w<;>cases w;exact qOn A _)
  (fun j _=>by rw[sP2];show(bif Nat.blt f.length f.length then _ else _)=_;rw[jU (zq _),zf];rfl) f.length 0 [] (by omega) (fun q=>⟨kp _,kp _⟩)
def isM:Km⊕Int→Bool
 | .inl _=>true
 | .inr _=>false
def gM':Km⊕Int→Km
 | .inl s=>s
 | .inr _=>[]
def eM:Km⊕Int→Int
 | .inl _=>0
 | .inr e=>e
def hP2:Hs→DT (Ex×Hs)
 | ⟨[.v (.int .i64 us),.v (.bool od),.ls .a (.list (.int .i64)) e,.v (.int .i64 (.ofNat n)),.v (.int .i64 (.ofNat 0))],[],[[.ls .a (.prod (.int .u8) (.prod (.int .i64) (.int .i64))) G,.ls .a (.list (.int .i64)) F],[.ls .a (.prod .str (.int .i64)) []]]⟩=>grd (Nat.beq n e.length&&(Nat.blt e.length 9223372036854775807&&(Nat.ble 1 G.length&&Nat.ble G.length 900))) (.ite (isM (p2F ky e G)) (.ret (.x 6,xP2 us od (gM' (p2F ky e G)) G F)) (.ret (.r,⟨[vi (eM (p2F ky e G))],[],[[],[]]⟩)))
 | _=> .no
theorem qYi:∀q y,(hP2 ky q).run=some y→∃n,It (qCh (OKy ky) LP3) n q y:=fun q y e=>by
 unfold hP2 at e;split at e
 ·rename_i us od k n G F;obtain⟨f,j⟩:=zR e;simp only[zd,qv]at f;obtain⟨g1,g2,w,z⟩:=f;obtain rfl:=zV g1;have:=kY _ _ (lpP2 ky us od k G F (jL g2) w z);cases A:p2F ky k G<;>rw[A]at j this<;>cases j<;>exact this
 ·cases e
abbrev LPc:Lo:=loT [(61,[false,true,false,true,true,true,true],Lp0.row hP0),(61,[false,true,false,true,true,true,true,true,true],Lp2.row (hP2 ky))]
end
abbrev tbC(h o t:List Int)(G:List Bd)(P D S:Int)(O U:List Nz)(C st V:Raw)(Z:Int)(F I:List (List Int)):List T:=[.ls .a nT h,.ls .a nT o,.ls .a nT t,.ls .a bT G,vi P,vi D,vi S,.ls .a nzT O,.ls .a nzT U,.v (.bool C.1),.ls .a .lim C.2,.ls .a .lim C.3,.v (.bool st.1),.ls .a .lim st.2,.ls .a .lim st.3,.v (.bool V.1),.ls .a .lim V.2,.ls .a .lim V.3,vi Z,.ls .a (.list nT) F,.ls .a (.list nT) I]
abbrev OPc(ky:List Int→ByteArray)(f e:MF Int):Od:=odT [(134,odR [mdT] (oSz f e)),(130,odR [.list nT] (oKy ky))]
theorem ePc(ky:List Int→ByteArray)(e f:MF Int)(h o t:List Int)(G:List Bd)(P D S:Int)(O U:List Nz)(C st V:Raw)(Z:Int)(F I:List (List Int)):((qC Tryz.prog (evD Tryz.prog (OPc ky e f) (LPc ky) 60) 61 [.ag (tbC h o t G P D S O U C st V Z F I)] []).bind qF).run=bif !(ieq (f h o t G P D S O U C st V) 0)then some (vi (f h o t G P D S O U C st V),true)else(bif ilt Z (.ofNat 1)then some (vn 1,true)else(bif ilt (.ofNat 1048576) Z then some (vn 1,true)else(bif !(ieq (.ofNat I.length) S)then some (vn 16,true)else gd ((Nat.beq I.length I.length)&&((Nat.blt I.length 9223372036854775807)&&((Nat.blt F.length 9223372036854775807)&&((zRa F 0)&&(ilt (e h o t G P D S O U C st V) 9223372036854775807))))) (bif isU (p0F (e h o t G P D S O U C st V) F I (0,true))then gd ((Nat.beq F.length F.length)&&((Nat.blt F.length 9223372036854775807)&&((Nat.ble 1 G.length)&&(Nat.ble G.length 900)))) (bif isM (p2F ky F G)then(bif !((gU (p0F (e h o t G P D S O U C st V) F I (0,true))).2)then some (vn 2,true)else(bif !(ieq ((gU (p0F (e h o t G P D S O U C st V) F I (0,true))).1) (.ofNat F.length))then some (vn 2,true)else(bif !(ieq (.ofNat ((gM' (p2F ky F G)).length)) (.ofNat F.length))then some (vn 2,true)else some (vn 0,true))))else some (vi (eM (p2F ky F G)),true))else some (vi (eU (p0F (e h o t G P D S O U C st V) F I (0,true))),true))))):=by kernel_rfl
section
variable (ky:List Int→ByteArray)
def pcE(h o t:List Int)(G:List Bd)(P D S:Int)(O U:List Nz)(C st V:Raw)(Z:Int)(F I:List (List Int)):Int:=bif !ieq (dcA h o t G P D S O U C st V) 0 then dcA h o t G P D S O U C st V else(bif ilt Z (.ofNat 1)then 1 else(bif ilt (.ofNat 1048576) Z then 1 else(bif !ieq (.ofNat I.length) S then 16 else(bif isU (p0F (szA h o t G P D S O U C st V) F I (0,true))then(bif isM (p2F ky F G)then(bif !(gU (p0F (szA h o t G P D S O U C st V) F I (0,true))).2 then 2 else(bif !ieq (gU (p0F (szA h o t G P D S O U C st V) F I (0,true))).1 (.ofNat F.length)then 2 else(bif !ieq (.ofNat (gM' (p2F ky F G)).length) (.ofNat F.length)then 2 else 0)))else eM (p2F ky F G))else eU (p0F (szA h o t G P D S O U C st V) F I (0,true))))))
theorem zSj{h o t:List Int}{G:List Bd}{S:Int}(m:Mod h o t G S):0≤S∧S≤24:=zUc m.st (show 0<1 by omega)
theorem jFe(h o t:List Int)(G:List Bd)(P D S:Int)(O U:List Nz)(C st V:Raw)(m:Mod h o t G S):0≤szA h o t G P D S O U C st V∧szA h o t G P D S O U C st V≤200:=by
 unfold szA;have:=m.sz;cases ieq (dcA h o t G P D S O U C st V) 0 with
 | true=>exact⟨j4 _,show((h.length*o.length*t.length*G.length:Nat):Int)≤200 by omega⟩
 | false=>exact⟨kp 0,show(0:Int)≤200 by decide⟩
theorem jBn(h o t:List Int)(G:List Bd)(P D S:Int)(O U:List Nz)(C st V:Raw)(Z:Int)(F I:List (List Int))(w:F.length<9223372036854775807):((qC Tryz.prog (evD Tryz.prog (OPc ky szA dcA) (LPc ky) 60) 61 [.ag (tbC h o t G P D S O U C st V Z F I)] []).bind qF).run=yI (pcE ky h o t G P D S O U C st V Z F I):=by
 rw[ePc];unfold pcE;cases k:ieq (dcA h o t G P D S O U C st V) 0 with
 | false=>rfl
 | true=>
  have m:=zUm h o t G P D S O U C st V (qH.1 k);obtain⟨B,E⟩:=zSj m;obtain⟨J,K⟩:=jFe h o t G P D S O U C st V m;simp only[zu,zf];cases ilt Z (.ofNat 1)with
  | true=>rfl
  | false=>
   cases ilt (.ofNat 1048576) Z with
   | true=>rfl
   | false=>
    cases q:ieq (.ofNat I.length) S with
    | false=>rfl
    | true=>
     have A:(I.length:Int)=S:=qH.1 q;have f:zRa F 0=true:=zFj (od:=true).2 ⟨kp _,j4 _⟩;have j:=m.av1;have z:=m.av6;simp only[zu,zf,gd,jD,zO w,zO (show I.length<9223372036854775807 by omega),f,gL (show szA h o t G P D S O U C st V<9223372036854775807 by omega),yK j,yK (show G.length≤900 by omega),jf,ze]
     cases p0F (szA h o t G P D S O U C st V) F I (0,true)with
     | inr e=>rfl
     | inl s=>
      simp only[isU,gU,ze];cases p2F ky F G with
      | inr e=>rfl
      | inl y=>
       simp only[isM,gM',ze];cases s.2<;>cases ieq s.1 (.ofNat F.length)<;>cases ieq (.ofNat y.length) (.ofNat F.length)<;>rfl
end
theorem zAu{α β:Type}{g:Nat→α→α⊕β}{d:α→β}{Q:β→Prop}(f:∀i a y,g i a= .inr y→¬Q y):∀(k i:Nat)(a:α),Q (fol g d k i a)→∀j,i≤j→j<i+k→∃a b,g j a= .inl b
 | 0,i,a,_,j,e,q=>by omega
 | k+1,i,a,h,j,e,q=>by
  simp only[fol]at h;cases H:g i a with
  | inr y=>rw[H]at h;exact absurd h (f i a y H)
  | inl b=>
   rw[H]at h;rcases kz e with rfl | hlt
   ·exact⟨a,b,H⟩
   ·exact zAu f k (i+1) b h j hlt (by omega)
theorem jEw{F:List (List Int)}{c:List Int}{s:UO}(h:isS (p1F F c s)=true){i:Nat}(k:i<c.length):0≤nI c i∧nI c i<(F.length:Int):=by
 obtain⟨a,b,j⟩:=zAu (g:=gP1 F c) (d:=some) (Q:=fun y=>isS y=true) (fun i a y f H=>by
  unfold gP1 at f;cases e:ilt (nI c i) (.ofNat 0)||!ilt (nI c i) (.ofNat F.length)<;>rw[e]at f
  ·cases f
  ·cases f;cases H) c.length 0 s h i (qu _) (by omega)
 unfold gP1 at j;cases e:ilt (nI c i) (.ofNat 0)||!ilt (nI c i) (.ofNat F.length)with
 | true=>rw[e]at j;cases j
 | false=>
  simp only[xr,ul]at e;exact⟨vF e.1,tL.1 e.2⟩
theorem jEv{ns:Int}{F e:List (List Int)}{s:UO}(h:isU (p0F ns F e s)=true){k:Nat}(A:k<e.length):((gI e k).length:Int)=ns∧∀i,i<(gI e k).length→0≤nI (gI e k) i∧nI (gI e k) i<(F.length:Int):=by
 obtain⟨a,b,j⟩:=zAu (g:=gP0 ns F e) (d:= .inl) (Q:=fun y=>isU y=true) (fun i a y q H=>by
  unfold gP0 at q;cases f:ieq (.ofNat (gI e i).length) ns<;>rw[f]at q
  ·cases q;cases H
  ·cases w:isS (p1F F (gI e i) a)<;>rw[w]at q<;>cases q;cases H) e.length 0 s h k (qu _) (by omega)
 unfold gP0 at j;cases f:ieq (.ofNat (gI e k).length) ns with
 | false=>rw[f]at j;cases j
 | true=>
  cases w:isS (p1F F (gI e k) a)with
  | false=>rw[f,w]at j;cases j
  | true=>exact⟨qH.1 f,fun i z=>jEw w z⟩
theorem jEy{ky:List Int→ByteArray}{e:List (List Int)}{G:List Bd}(h:isM (p2F ky e G)=true){k:Nat}(A:k<e.length):(gI e k).length=G.length∧∀i,i<(gI e k).length→0≤nI (gI e k) i∧nI (gI e k) i≤1099511627776:=by
 obtain⟨a,b,j⟩:=zAu (g:=gP2 ky e G) (d:= .inl) (Q:=fun y=>isM y=true) (fun i a y q H=>by
  unfold gP2 at q;cases f:ieq (.ofNat (gI e i).length) (.ofNat G.length)<;>rw[f]at q
  ·cases q;cases H
  ·cases w:p3F (gI e i)<;>rw[w]at q<;>cases q;cases H) e.length 0 [] h k (qu _) (by omega)
 unfold gP2 at j;cases f:ieq (.ofNat (gI e k).length) (.ofNat G.length)with
 | false=>rw[f]at j;cases j
 | true=>
  cases w:p3F (gI e k)with
  | true=>rw[f,w]at j;cases j
  | false=>exact⟨uO (qH.1 f),fun i z=>qTg w z⟩
structure Tab(h o t:List Int)(G:List Bd)(S Z:Int)(F I:List (List Int)):Prop where
 mod:Mod h o t G S
 sc1:1≤Z
 sc2:Z≤1048576
 ixl:(I.length:Int)=S
 row:∀k,k<I.length→(gI I k).length=h.length*o.length*t.length*G.length∧∀i,i<(gI I k).length→0≤nI (gI I k) i∧nI (gI I k) i<(F.length:Int)
 num:∀j,j<F.length→(gI F j).length=G.length∧∀i,i<(gI F j).length→0≤nI (gI F j) i∧nI (gI F j) i≤1099511627776
theorem qJt(ky:List Int→ByteArray)(h o t:List Int)(G:List Bd)(P D S:Int)(O U:List Nz)(C st V:Raw)(Z:Int)(F I:List (List Int))(hp:pcE ky h o t G P D S O U C st V Z F I=0):Tab h o t G S Z F I:=by
 have T:∀{x:Int},ieq x 0=false→x≠0:=fun{x}h e=>by rw[xK e]at h;cases h
 unfold pcE at hp;cases w:ieq (dcA h o t G P D S O U C st V) 0 with
 | false=>rw[w]at hp;exact absurd hp (T w)
 | true=>
  have m:=zUm h o t G P D S O U C st V (qH.1 w);rw[w]at hp;cases z:ilt Z (.ofNat 1)with
  | true=>rw[z]at hp;cases hp
  | false=>
   cases B:ilt (.ofNat 1048576) Z with
   | true=>rw[z,B]at hp;cases hp
   | false=>
    cases K:ieq (.ofNat I.length) S with
    | false=>rw[z,B,K]at hp;cases hp
    | true=>
     rw[z,B,K]at hp;simp only[zu,zf]at hp;have es:szA h o t G P D S O U C st V= .ofNat (h.length*o.length*t.length*G.length):=by unfold szA;rw[w];rfl
     cases E:p0F (szA h o t G P D S O U C st V) F I (0,true)with
     | inr e=>
      rw[E]at hp;exfalso;have hp:e=0:=hp;have:=xG (g:=gP0 (szA h o t G P D S O U C st V) F I) (d:= .inl) (J:=fun _=>True) (R:=fun y=>∀e,y= .inr e→e≠0) (fun _ _ _ _ _=>trivial) (fun i a y _ f e he=>by
       unfold gP0 at f;cases q:ieq (.ofNat (gI I i).length) (szA h o t G P D S O U C st V)<;>rw[q]at f
       ·cases f;cases he;decide
       ·cases A:isS (p1F F (gI I i) a)<;>rw[A]at f<;>cases f;cases he;decide) (fun a _ e h=>by cases h) I.length 0 (0,true) trivial
      exact this e E hp
     | inl s=>
      rw[E]at hp;simp only[isU,gU,ze]at hp;cases M:p2F ky F G with
      | inr e=>
       rw[M]at hp;exfalso;have hp:e=0:=hp;have:=xG (g:=gP2 ky F G) (d:= .inl) (J:=fun _=>True) (R:=fun y=>∀e,y= .inr e→e≠0) (fun _ _ _ _ _=>trivial) (fun i a y _ f e h=>by
        unfold gP2 at f;cases q:ieq (.ofNat (gI F i).length) (.ofNat G.length)<;>rw[q]at f
        ·cases f;cases h;decide
        ·cases A:p3F (gI F i)<;>rw[A]at f<;>cases f;cases h;decide) (fun a _ e h=>by cases h) F.length 0 [] trivial
       exact this e M hp
      | inl X=>
       refine⟨m,vF z,vF B,qH.1 K,fun k Q=>?_,fun j N=>jEy (ky:=ky) (by rw[M];rfl) N⟩
       obtain⟨q,A⟩:=jEv (ns:=szA h o t G P D S O U C st V) (F:=F) (s:=(0,true)) (by rw[E];rfl) Q
       rw[es]at q;exact⟨uO q,A⟩
def oPc(j:TF Int):List T→DT (T×Bool)
 | [.ag [.ls .a (.int .i64) h,.ls .a (.int .i64) o,.ls .a (.int .i64) t,.ls .a (.prod (.int .u8) (.prod (.int .i64) (.int .i64))) G,.v (.int .i64 P),.v (.int .i64 D),.v (.int .i64 S),.ls .a (.prod (.int .i64) zL) O,.ls .a (.prod (.int .i64) zL) U,.v (.bool e),.ls .a .lim C,.ls .a .lim f,.v (.bool y),.ls .a .lim sl,.ls .a .lim z,.v (.bool k),.ls .a .lim q,.ls .a .lim w,.v (.int .i64 Z),.ls .a (.list (.int .i64)) F,.ls .a (.list (.int .i64)) I]]=>grd (Nat.blt F.length 9223372036854775807) (.ret (.v (.int .i64 (j h o t G P D S O U ⟨e,C,f⟩ ⟨y,sl,z⟩ ⟨k,q,w⟩ Z F I)),true))
 | _=> .no
abbrev pcA(h o t:List Int)(G:List Bd)(P D S:Int)(O U:List Nz)(C st V:Raw)(Z:Int)(F I:List (List Int)):Int:=pcE kyF h o t G P D S O U C st V Z F I
theorem jBa:vD Tryz.prog (OPc kyF szA dcA):=zS (zS jZ (jI kKy)) (jI kSz)
theorem jAs:vD Tryz.prog (OKy kyF):=zS jZ (jI kKy)
theorem jAb:wC Tryz.prog (LPc kyF):=jO (jO zZ (kL yE jAs jAa 60) qUn (qYi kyF)) qPx qUl qYg
theorem kPc:∀f q j,(oPc pcA f).run=some (q,j)→∀k,KnP Tryz.prog k 61 f q j:=by
 intro f q j e k;unfold oPc at e;split at e
 ·rename_i h o t G P D S O U w C y E sl J z A B Z F I;obtain⟨K,M⟩:=zR e;cases M;exact yM (cz:=[.ag (tbC h o t G P D S O U ⟨w,C,y⟩ ⟨E,sl,J⟩ ⟨z,A,B⟩ Z F I)]) yE jBa jAb (jBn kyF h o t G P D S O U ⟨w,C,y⟩ ⟨E,sl,J⟩ ⟨z,A,B⟩ Z F I (jL K)) rfl k
 ·cases e
def iSh(c:List Int)(x:Int)(e:List Int)(n i:Nat):Hs:=⟨[.ls .a nT c,vi x,.ls .a nT e,vn n,vn i],[],[[]]⟩
def Lsh:Lp:=⟨1,
 ⟨[.h,.h,.u,.u,.t (.op 0 0),.t (.fn 229 [.op 0 0])]++(us' 16++([.h,.h,.h]++(us' 41))),[.r [.t (.v (.slice none 0 0))] 209]⟩,
 ⟨us' 4++([.t (.op 0 0)]++(us' 61)),[.r [.a .a nzT 212] 209]⟩,
 ⟨us' 4++([.h]++(us' 61)),[.g]⟩⟩
abbrev qRp:Code:=lpc Tryz.prog 158 [false,true,false,true,true,true,false,true]
theorem qUr:cAt Tryz.prog 158 [false,true,false,true,true,true,false,true]=some (.loop qRp):=by kernel_rfl
abbrev zVy(f:Od)(e:Lo):Hs→Option (Hs⊕(Ex×Hs)):=Lsh.stp (evD Tryz.prog f e 60) 158 [false,true,false,true,true,true,false,true] qRp
def qIn(g:Int→Int→Raw):List Ar→DT Rs
 | [.i n,.i m]=>grd ((rF n&&rF m)&&nz m) (.ret (.tup [.r (g n m),.i 0]))
 | _=> .no
abbrev OOf(of_:Int→Int→Raw):Od:=odT [(126,kcT (qIn of_) true)]
theorem sSh(of_:Int→Int→Raw)(c:List Int)(x:Int)(e:List Int)(n i:Nat):zVy (OOf of_) (loT []) (iSh c x e n i)=bif ilt (.ofNat i) (.ofNat n)then gd (Nat.blt i e.length) (bif ieq x (nth nT.zero e i)then some (.inr (.x 0,⟨[],[.ls .a nzT [(.ofNat i,(of_ 1 1).1,(of_ 1 1).2,(of_ 1 1).3)]],[[]]⟩))else(bif ilt x (nth nT.zero e i)then gd (inW (pr i)) (gd (nng (pr i)) (gd (Nat.blt ((pr i).toNat) c.length) (gd (inW (pr i)) (gd (inW (Int.sub (nth nT.zero e i) x)) (gd (inW (Int.sub (nth nT.zero e i) (nth nT.zero c ((pr i).toNat)))) (gd (((rF (Int.sub (nth nT.zero e i) x))&&(rF (Int.sub (nth nT.zero e i) (nth nT.zero c ((pr i).toNat)))))&&(nz (Int.sub (nth nT.zero e i) (nth nT.zero c ((pr i).toNat))))) (gd (inW (x.sub (nth nT.zero c ((pr i).toNat)))) (gd (inW (Int.sub (nth nT.zero e i) (nth nT.zero c ((pr i).toNat)))) (gd (((rF (x.sub (nth nT.zero c ((pr i).toNat))))&&(rF (Int.sub (nth nT.zero e i) (nth nT.zero c ((pr i).toNat)))))&&(nz (Int.sub (nth nT.zero e i) (nth nT.zero c ((pr i).toNat))))) (some (.inr (.x 0,⟨[],[.ls .a nzT [(.ofNat i,(of_ (x.sub (nth nT.zero c ((pr i).toNat))) (Int.sub (nth nT.zero e i) (nth nT.zero c ((pr i).toNat)))).1,(of_ (x.sub (nth nT.zero c ((pr i).toNat))) (Int.sub (nth nT.zero e i) (nth nT.zero c ((pr i).toNat)))).2,(of_ (x.sub (nth nT.zero c ((pr i).toNat))) (Int.sub (nth nT.zero e i) (nth nT.zero c ((pr i).toNat)))).3),(pr i,(of_ (Int.sub (nth nT.zero e i) x) (Int.sub (nth nT.zero e i) (nth nT.zero c ((pr i).toNat)))).1,(of_ (Int.sub (nth nT.zero e i) x) (Int.sub (nth nT.zero e i) (nth nT.zero c ((pr i).toNat)))).2,(of_ (Int.sub (nth nT.zero e i) x) (Int.sub (nth nT.zero e i) (nth nT.zero c ((pr i).toNat)))).3)]],[[]]⟩))))))))))))else nx i (.inl (iSh c x e n (i+1)))))else some (.inr (.x 0,⟨[],[.ls .a nzT []],[[]]⟩)):=by kernel_rfl
def gSh(c:List Int)(x:Int)(i:Nat)(_:Unit):Unit⊕Option (Nat×Bool):=bif ieq x (nI c i)then .inr (some (i,true))else(bif ilt x (nI c i)then .inr (some (i,false))else .inl ())
def sF(c:List Int)(x:Int):Option (Nat×Bool):=fol (gSh c x) (fun _=>none) c.length 0 ()
section
variable (of_:Int→Int→Raw)
def zSf(i:Nat):Nz:=(.ofNat i,toT (of_ 1 1))
def qJh(c:List Int)(x:Int)(i:Nat):Nz:=(.ofNat i,toT (of_ (Int.sub x (nI c (i-1))) (Int.sub (nI c i) (nI c (i-1)))))
def qJi(c:List Int)(x:Int)(i:Nat):Nz:=(.ofNat (i-1),toT (of_ (Int.sub (nI c i) x) (Int.sub (nI c i) (nI c (i-1)))))
def qTb(c:List Int)(x:Int):Option (Nat×Bool)→Ex×Hs
 | none=>(.x 0,⟨[],[.ls .a nzT []],[[]]⟩)
 | some (i,true)=>(.x 0,⟨[],[.ls .a nzT [zSf of_ i]],[[]]⟩)
 | some (i,false)=>(.x 0,⟨[],[.ls .a nzT [qJh of_ c x i,qJi of_ c x i]],[[]]⟩)
end
theorem zAz{v:Int}(h:0≤v)(e:v≤4611686018427387904):rF v=true:=by
 obtain⟨m,rfl⟩:=jh h;exact yK (show m≤9223372036854775807 by omega)
theorem jEs{v:Int}(h:0<v):nz v=true:=by
 cases v with
 | ofNat m=>cases m with
  | zero=>exact absurd h (dp _)
  | succ m=>rfl
 | negSucc m=>rfl
def shG(c:List Int)(x:Int):Bool:=!c1F c c&&(Nat.ble 1 c.length&&(Nat.ble c.length 32&&(!ilt x (nI c 0)&&!ilt (.ofNat 1073741824) x)))
theorem lpSh(of_:Int→Int→Raw){c:List Int}{x:Int}(f:shG c x=true):lpF (zVy (OOf of_) (loT [])) c.length (iSh c x c c.length 0)=some (qTb of_ c x (sF c x)):=by
 simp only[shG,zd,qv,qq]at f;obtain⟨y,h2,h3,z,A⟩:=f;have z:=vF z;have A:x≤1073741824:=vF A;exact jV (st:=zVy (OOf of_) (loT [])) (iv:=fun i(_:Unit)=>iSh c x c c.length i) (g:=gSh c x) (d:=fun _=>none) (out:=qTb of_ c x) (n:=c.length) (fun i _=>0<i→nI c (i-1)<x)
  (fun i _ q B=>by
   rw[sSh];show(bif Nat.blt i c.length then _ else _)=_;unfold gSh;rw[zO q,ze];simp only[gd,ze,kK (show i+1<9223372036854775808 by omega)]
   cases j:ieq x (nI c i)with
   | true=>rfl
   | false=>
    cases k:ilt x (nI c i)with
    | false=>rfl
    | true=>
     have G:=tL.1 k;cases i with
     | zero=>exact absurd G (by omega)
     | succ i=>
      have E:=B (cJ i);rw[vz]at E;obtain⟨X,b2,_⟩:=zGc y q;obtain⟨R,T,_⟩:=zGc y (show i<c.length by omega)
      have M:(Int.ofNat i).toNat=i:=rfl;have J:0<Int.sub (nI c (i+1)) x:=show(0:Int)<nI c (i+1)-x by omega
      have s2:Int.sub (nI c (i+1)) x≤2147483648:=show nI c (i+1)-x≤2147483648 by omega
      have w:0<Int.sub (nI c (i+1)) (nI c i):=show(0:Int)<nI c (i+1)-nI c i by omega
      have s4:Int.sub (nI c (i+1)) (nI c i)≤2147483648:=show nI c (i+1)-nI c i≤2147483648 by omega
      have K:0<Int.sub x (nI c i):=show(0:Int)<x-nI c i by omega
      have s6:Int.sub x (nI c i)≤2147483648:=show x-nI c i≤2147483648 by omega
      have N:nI c i=nth nT.zero c i:=rfl;have Q:nI c (i+1)=nth nT.zero c (i+1):=rfl;rw[prS,M,←N,←Q,yT (show i<9223372036854775808 by omega)]
      simp only[nng,zO (show i<c.length by omega),ze,zCt (vy J) (by omega),zCt (vy w) (by omega),zCt (vy K) (by omega),zAz (vy J) (by omega),zAz (vy w) (by omega),zAz (vy K) (by omega),jEs w,jf]
      rfl)
  (fun i _ _ q B f _=>by
   unfold gSh at f;cases j:ieq x (nI c i)with
   | true=>rw[j]at f;cases f
   | false=>
    cases k:ilt x (nI c i)with
    | true=>rw[j,k]at f;cases f
    | false=>
     have G:=vF k;have E:x≠nI c i:=fun e=>by rw[xK e]at j;cases j
     rw[vz];omega)
  (fun _ _=>by rw[sSh];show(bif Nat.blt c.length c.length then _ else _)=_;rw[jU (zq _),zf];rfl) c.length 0 () (by omega) (fun h=>absurd h (dq 0))
def isF:Option (Nat×Bool)→Bool
 | none=>false
 | some _=>true
def exF:Option (Nat×Bool)→Bool
 | none=>false
 | some s=>s.2
def zGq:Option (Nat×Bool)→Nat
 | none=>0
 | some s=>s.1
def hSh(of_:Int→Int→Raw):Hs→DT (Ex×Hs)
 | ⟨[.ls .a (.int .i64) c,.v (.int .i64 x),.ls .a (.int .i64) e,.v (.int .i64 (.ofNat n)),.v (.int .i64 (.ofNat 0))],[],[[]]⟩=>grd (decide (c=e)&&(Nat.beq n e.length&&shG c x)) (.ite (isF (sF c x)) (.ite (exF (sF c x)) (.ret (.x 0,⟨[],[.ls .a nzT [zSf of_ (zGq (sF c x))]],[[]]⟩)) (.ret (.x 0,⟨[],[.ls .a nzT [qJh of_ c x (zGq (sF c x)),qJi of_ c x (zGq (sF c x))]],[[]]⟩))) (.ret (.x 0,⟨[],[.ls .a nzT []],[[]]⟩)))
 | _=> .no
theorem qYm(of_:Int→Int→Raw):∀q y,(hSh of_ q).run=some y→∃n,It (zVy (OOf of_) (loT [])) n q y:=fun q y f=>by
 unfold hSh at f;split at f
 ·rename_i c x z n;obtain⟨j,e⟩:=zR f;simp only[zd]at j;obtain⟨g1,g2,w⟩:=j;obtain rfl:=jc g1;obtain rfl:=zV g2;have:=kY _ _ (lpSh of_ w);cases k:sF c x with
  | none=>rw[k]at e this;cases e;exact this
  | some s=>
   obtain⟨i,b⟩:=s;cases b<;>rw[k]at e this<;>cases e<;>exact this
 ·cases f
abbrev LSh(of_:Int→Int→Raw):Lo:=loT [(158,[false,true,false,true,true,true,false,true],Lsh.row (hSh of_))]
abbrev clX(c:List Int)(x:Int):Int:=if(if nI c (pr c.length).toNat<x then nI c (pr c.length).toNat else x)>nI c 0 then(if nI c (pr c.length).toNat<x then nI c (pr c.length).toNat else x)else nI c 0
theorem eSh(of_:Int→Int→Raw)(c:List Int)(x:Int):((qC Tryz.prog (evD Tryz.prog (OOf of_) (LSh of_) 60) 158 [.ls .a nT c,vi x] []).bind qF).run=gd (Nat.blt 0 c.length) (gd (inW (pr c.length)) (gd (nng (pr c.length)) (gd (Nat.blt (pr c.length).toNat c.length) (gd (decide (c=c)&&(Nat.beq c.length c.length&&shG c (clX c x))) (bif isF (sF c (clX c x))then(bif exF (sF c (clX c x))then some (.ls .a nzT [zSf of_ (zGq (sF c (clX c x)))],false)else some (.ls .a nzT [qJi of_ c (clX c x) (zGq (sF c (clX c x))),qJh of_ c (clX c x) (zGq (sF c (clX c x)))],false))else some (.v (.slice none 0 0),true)))))):=by kernel_rfl
def gY(c:List Int):Bool:=!c1F c c&&(Nat.ble 1 c.length&&Nat.ble c.length 32)
theorem jDy{c:List Int}{x:Int}:nI c 0≤clX c x:=by
 unfold clX;by_cases e:nI c (pr c.length).toNat<x
 ·simp only[qn e];split<;>omega
 ·simp only[qm e];split<;>omega
theorem jCm{c:List Int}{x:Int}(h:gY c=true):shG c (clX c x)=true:=by
 simp only[gY,zd,qv,qq]at h;obtain⟨f,j,k⟩:=h;obtain⟨m,hm⟩:∃m,c.length=m+1:=⟨c.length-1,by omega⟩
 have e:(pr c.length).toNat=m:=by rw[hm,prS];rfl
 obtain⟨_,w,_⟩:=zGc f (show m<c.length by omega)
 obtain⟨_,y,_⟩:=zGc f (show 0<c.length by omega)
 have q:clX c x≤1073741824:=by
  unfold clX;rw[e];by_cases f:nI c m<x
  ·simp only[qn f];split<;>omega
  ·simp only[qm f];split<;>omega
 simp only[shG,zd,qq];exact⟨f,yK j,yK k,zBa jDy,zBa (show clX c x≤1073741824 from q)⟩
section
variable (of_:Int→Int→Raw)
def oSh:List T→DT (T×Bool)
 | [.ls .a (.int .i64) c,.v (.int .i64 x)]=>grd (gY c) (.ite (isF (sF c (clX c x))) (.ite (exF (sF c (clX c x))) (.ret (.ls .a nzT [zSf of_ (zGq (sF c (clX c x)))],false)) (.ret (.ls .a nzT [qJi of_ c (clX c x) (zGq (sF c (clX c x))),qJh of_ c (clX c x) (zGq (sF c (clX c x)))],false))) (.ret (.ls .a nzT [],false)))
 | _=> .no
end
theorem jAr(g:Int→Int→Raw)(e:List Ar):(qIn g e).run=pII g e:=by
 unfold qIn pII;split
 ·rename_i n m;show(bif(rF n&&rF m)&&nz m then _ else _)=_;rfl
 ·rename_i h;split
  ·rename_i n m;exact absurd rfl (h n m)
  ·rfl
abbrev ofA(n m:Int):Raw:=Raw.of (mkRat (sgn (!(decide (n<0)==decide (m<0))) n.natAbs) m.natAbs)
theorem kOfT:KC Tryz.prog 126 (fun f=>(qIn ofA f).run) true:=by
 have e:(fun f=>(qIn ofA f).run)=pII ofA:=funext fun f=>jAr ofA f;rw[e];exact kOf
theorem zUr:vD Tryz.prog (OOf ofA):=zS jZ fun e j f h k=>zUe kOfT e j f h k
theorem qGm:wC Tryz.prog (LSh ofA):=jO zZ (kL yE zUr zZ 60) qUr (qYm ofA)
theorem kSh:∀w E A,(oSh ofA w).run=some (E,A)→∀k,KnP Tryz.prog k 158 w E A:=by
 intro w E A j k;unfold oSh at j;split at j
 ·rename_i c x;obtain⟨y,f⟩:=zR j;have q:=eSh ofA c x;have z:=y;simp only[gY,zd,qv,qq]at y;obtain⟨_,g2,N⟩:=y;obtain⟨m,hm⟩:∃m,c.length=m+1:=⟨c.length-1,by omega⟩
  have e:pr c.length= .ofNat m:=by rw[hm,prS]
  have K:(Int.ofNat m).toNat=m:=rfl;have M:nng (.ofNat m)=true:=rfl;rw[jCm z,e,M,K,yT (show m<9223372036854775808 by omega)]at q
  simp only[gd,zO (show 0<c.length by omega),zO (show m<c.length by omega),jD,decide_true,jf,ze]at q
  simp only[DT.run]at f;cases G:isF (sF c (clX c x))with
  | false=>
   rw[G]at q f;cases f;exact((yM (cz:=[.ls .a nT c,vi x]) yE zUr qGm q rfl k).old).res fun B r v h=>zDg h
  | true=>
   rw[G]at q f;cases J:exF (sF c (clX c x))<;>rw[J]at q f<;>cases f<;>exact yM (cz:=[.ls .a nT c,vi x]) yE zUr qGm q rfl k
 ·cases j
theorem qPs{c:List Int}{m:Nat}(hm:c.length=m+1):(pr c.length).toNat=m:=by rw[hm,prS];rfl
theorem zYm{c:List Int}{x:Int}(h:gY c=true):isF (sF c (clX c x))=true:=by
 have J:=h;simp only[gY,zd,qv,qq]at h;obtain⟨z,M,N⟩:=h;cases E:sF c (clX c x)with
 | some s=>rfl
 | none=>
  exfalso;obtain⟨m,hm⟩:∃m,c.length=m+1:=⟨c.length-1,by omega⟩
  have H:=zAt (g:=gSh c (clX c x)) (d:=none) (fun i y j e=>by
   unfold gSh at j;cases f:ieq (clX c x) (nI c i)<;>rw[f]at j
   ·cases q:ilt (clX c x) (nI c i)<;>rw[q]at j<;>cases j;cases e
   ·cases j;cases e) c.length 0 E m (qu _) (by omega)
  have k:∀i,i<c.length→nI c 0≤nI c i:=fun i=>by
   induction i with
   | zero=>intro _;exact kp _
   | succ i G=>
    intro A;have:=(zGc z A).2.2 (cJ i);rw[vz]at this;have:=G (by omega)
    omega
  have B:clX c x≤nI c m:=by
   have K:=k m (by omega)
   unfold clX;rw[qPs hm];by_cases w:nI c m<x
   ·simp only[qn w];split<;>omega
   ·simp only[qm w];split<;>omega
  unfold gSh at H;cases f:ieq (clX c x) (nI c m)with
  | true=>rw[f]at H;cases H
  | false=>
   cases q:ilt (clX c x) (nI c m)with
   | true=>rw[f,q]at H;cases H
   | false=>
    have:=vF q;have Q:clX c x≠nI c m:=fun e=>by rw[xK e]at f;cases f
    omega
section
variable (of_:Int→Int→Raw)
abbrev ixS(c:List Int)(x:Int):Nat:=zGq (sF c (clX c x))
abbrev zGg(c:List Int)(x:Int):Bool:=exF (sF c (clX c x))
abbrev qQd(c:List Int)(x:Int):Nz:=zSf of_ (ixS c x)
abbrev sLo(c:List Int)(x:Int):Nz:=qJi of_ c (clX c x) (ixS c x)
abbrev sHi(c:List Int)(x:Int):Nz:=qJh of_ c (clX c x) (ixS c x)
def jAn:List T→DT (T×Bool)
 | [.ls .a (.int .i64) c,.v (.int .i64 x)]=>grd (gY c) (.ite (zGg c x) (.ret (.ls .a nzT [qQd of_ c x],false)) (.ret (.ls .a nzT [sLo of_ c x,sHi of_ c x],false)))
 | _=> .no
end
theorem kSh2:∀e q j,(jAn ofA e).run=some (q,j)→∀k,KnP Tryz.prog k 158 e q j:=by
 intro e q j f k;refine kSh e q j ?_ k;unfold jAn at f;unfold oSh;split at f
 ·rename_i c x;obtain⟨w,y⟩:=zR f;simp only[grd,DT.run,w,ze,zYm w];exact y
 ·cases f
def jAm(ic:List (List Int)→Int):List T→DT (T×Bool)
 | [.ls .a (.list (.int .i64)) g]=> .ret (.v (.int .i64 (ic g)),true)
 | _=> .no
abbrev OW(of_:Int→Int→Raw)(mu:Raw→Raw→Raw)(me:Raw→Raw→Int)(fr:Int→Raw)(ic:List (List Int)→Int):Od:=odT ((158,odR [.list nT,nT] (jAn of_))::(157,odR [.list (.list nT)] (jAm ic))::[(49,kcD (pRR fun a b=>some (mu a b,me a b)) true),(47,kcD (pI fr) true)])
section
variable (of_:Int→Int→Raw)(mu:Raw→Raw→Raw)(me:Raw→Raw→Int)(fr:Int→Raw)(ic:List (List Int)→Int)
def wN(c:List Int)(y s:Nz):Nz:=(wq (Int.add (Int.mul y.1 (.ofNat c.length)) s.1),toT (mu (rw' y.2) (rw' s.2)))
def zEo(c:List Int)(x:Int):List Nz→List Nz→(List Nz→Option (T×Bool))→Option (T×Bool)
 | [],e,K=>K e.reverse
 | y::l,e,K=>gd (gY c) (bif zGg c x then gd (inW (Int.mul y.1 (.ofNat c.length))) (zEo c x l (wN mu c y (qQd of_ c x)::e) K)else gd (inW (Int.mul y.1 (.ofNat c.length))) (gd (inW (Int.mul y.1 (.ofNat c.length))) (zEo c x l (wN mu c y (sHi of_ c x)::wN mu c y (sLo of_ c x)::e) K)))
def cN(y:Nz):List T:=[vi y.1,.v (.bool y.2.1),.ls .a .lim y.2.2.1,.ls .a .lim y.2.2.2]
def flN:List Nz→List T
 | []=>[]
 | y::l=>cN y++flN l
set_option maxHeartbeats 0 in
theorem eWg(h o t:List Int)(f j k:Int):((qC Tryz.prog (evD Tryz.prog (OW of_ mu me fr ic) (loT []) 60) 78 [.ls .a (.list nT) [h,o,t],.ls .a nT [f,j,k]] []).bind qF).run=bif !ieq (ic [h,o,t]) 0 then some (.tu [.v (.slice none 0 0),vi (ic [h,o,t])],true)else zEo of_ mu h f [(0,toT (fr 1))] [] fun q=>zEo of_ mu o j q [] fun w=>zEo of_ mu t k w [] fun e=>some (.tu [.sl (flN e) e.length,vn 0],true):=by kernel_rfl
end
theorem qTm{c:List Int}{x:Int}:∀(k i:Nat){s:Nat×Bool},fol (gSh c x) (fun _=>none) k i ()=some s→i≤s.1∧s.1<i+k
 | 0,i,s,h=>by cases h
 | k+1,i,s,h=>by
  simp only[fol]at h;cases H:gSh c x i ()with
  | inl y=>
   rw[H]at h;have:=qTm k (i+1) h;omega
  | inr y=>
   rw[H]at h;unfold gSh at H;cases e:ieq x (nI c i)<;>rw[e]at H
   ·cases f:ilt x (nI c i)<;>rw[f]at H<;>cases H;cases h;exact⟨zq _,by show i<i+(k+1);omega⟩
   ·cases H;cases h;exact⟨zq _,by show i<i+(k+1);omega⟩
theorem qZa{c:List Int}{x:Int}(h:gY c=true):ixS c x<c.length:=by
 have e:=zYm (x:=x) h;cases H:sF c (clX c x)with
 | none=>rw[H]at e;cases e
 | some s=>
  have:=qTm c.length 0 H;show zGq (sF c (clX c x))<_;rw[H];show s.1<_;omega
section
variable (of_:Int→Int→Raw)(mu:Raw→Raw→Raw)(me:Raw→Raw→Int)(fr:Int→Raw)(ic:List (List Int)→Int)
def w1(c:List Int)(x:Int)(y:Nz):List Nz:=bif zGg c x then[wN mu c y (qQd of_ c x)]else[wN mu c y (sLo of_ c x),wN mu c y (sHi of_ c x)]
def wF(c:List Int)(x:Int):List Nz→List Nz
 | []=>[]
 | y::l=>w1 of_ mu c x y++wF c x l
def inV(M:Nat)(l:List Nz):Prop:=∀y∈l,0≤y.1∧y.1<M
theorem qKf{c:List Int}{M:Nat}{y s:Nz}(E:c.length≤32)(J:M≤1048576)(A:0≤y.1∧y.1<M)(z:0≤s.1∧s.1<c.length):inW (Int.mul y.1 (.ofNat c.length))=true∧0≤(wN mu c y s).1∧(wN mu c y s).1<((M*c.length:Nat):Int):=by
 obtain⟨v,hv⟩:∃v:Nat,y.1=(v:Int):=jh A.1;obtain⟨j,w⟩:∃j:Nat,s.1=(j:Int):=jh z.1;have k:v<M:=by
  have f:=A.2;rw[hv]at f;exact uW.1 f
 have G:j<c.length:=by
  have f:=z.2;rw[w]at f;exact uW.1 f
 have K:v*c.length≤1048576*32:=vp (by omega) E
 have N:v*c.length+c.length≤M*c.length:=by
  rw[←yo];exact q6 _ k
 have e:Int.mul y.1 (.ofNat c.length)=((v*c.length:Nat):Int):=by rw[hv];rfl
 have q:(wN mu c y s).1=((v*c.length+j:Nat):Int):=by
  show wq (Int.add (Int.mul y.1 (.ofNat c.length)) s.1)=_;have B:Int.add (Int.mul y.1 (.ofNat c.length)) s.1=((v*c.length+j:Nat):Int):=by rw[e,w];rfl
  rw[B];exact qTv (yT (show v*c.length+j<9223372036854775808 by omega))
 refine⟨?_,?_,?_⟩
 ·rw[e];exact yT (show v*c.length<9223372036854775808 by omega)
 ·rw[q];exact j4 _
 ·rw[q];exact uW.2 (by omega)
theorem qTu{c:List Int}{x:Int}{M:Nat}{y:Nz}(w:gY c=true)(j:M≤1048576)(q:0≤y.1∧y.1<M):inW (Int.mul y.1 (.ofNat c.length))=true∧inV (M*c.length) (w1 of_ mu c x y):=by
 have f:=w;simp only[gY,zd,qv]at f;have A:=qZa (x:=x) w;have k:=f.2.2;have a:=qKf (mu:=mu) (s:=qQd of_ c x) k j q ⟨j4 _,show((ixS c x:Nat):Int)<(c.length:Int)by omega⟩
 have b:=qKf (mu:=mu) (s:=sLo of_ c x) k j q ⟨j4 _,show((ixS c x-1:Nat):Int)<(c.length:Int)by omega⟩
 have d:=qKf (mu:=mu) (s:=sHi of_ c x) k j q ⟨j4 _,show((ixS c x:Nat):Int)<(c.length:Int)by omega⟩
 refine⟨a.1,fun z e=>?_⟩;unfold w1 at e;cases he:zGg c x<;>rw[he]at e
 ·rcases qj.1 e with rfl | e
  ·exact b.2
  ·rcases qj.1 e with rfl | e
   ·exact d.2
   ·cases e
 ·rcases qj.1 e with rfl | e
  ·exact a.2
  ·cases e
theorem zLr{c:List Int}{x:Int}{M:Nat}(j:gY c=true)(f:M≤1048576):∀{l:List Nz},inV M l→inV (M*c.length) (wF of_ mu c x l)
 | [],_,z,e=>by cases e
 | y::l,h,z,e=>by
  rcases wb.1 e with e | e
  ·exact(qTu of_ mu j f (h y qS)).2 z e
  ·exact zLr j f (fun y k=>h y (z6 _ k)) z e
theorem zCd{c:List Int}{x:Int}{M:Nat}(f:gY c=true)(k:M≤1048576)(K:List Nz→Option (T×Bool)):∀(l e:List Nz),inV M l→zEo of_ mu c x l e K=K (e.reverse++wF of_ mu c x l)
 | [],e,_=>by simp only[zEo,wF,jw]
 | y::l,e,h=>by
  have q:=(qTu of_ mu (x:=x) f k (h y qS)).1;have j:=fun a=>zCd (x:=x) f k K l a (fun y w=>h y (z6 _ w));simp only[zEo,wF,w1,gd,f,ze,q];cases zGg c x with
  | true=>simp only[ze];rw[j];simp
  | false=>simp only[zf];rw[j];simp
def wgF(h o t:List Int)(e f j:Int):List Nz:=wF of_ mu t j (wF of_ mu o f (wF of_ mu h e [(0,toT (fr 1))]))
def wgR(h o t:List Int)(e f j:Int):List Nz:=bif ieq (ic [h,o,t]) 0 then wgF of_ mu fr h o t e f j else[]
end
theorem zMv{g:List (List Int)}(q:Grid g){k:Nat}(w:k<g.length):gY (gI g k)=true:=by
 obtain⟨e,f,j⟩:=q.cut k w;simp only[gY,j,qy,xp,zd];exact⟨yK e,yK f⟩
theorem zQd{h o t:List Int}(e:icE [h,o,t]=0):gY h=true∧gY o=true∧gY t=true:=by
 have g:=zWw e;exact⟨zMv g (show 0<3 by omega),zMv g (show 1<3 by omega),zMv g (show 2<3 by omega)⟩
theorem zUq(fr:Int→Raw):inV 1 [((0:Int),toT (fr 1))]:=fun z e=>by
 rcases qj.1 e with rfl | e
 ·exact⟨kp _,show(0:Int)<1 by decide⟩
 ·cases e
theorem jFi(of_:Int→Int→Raw)(mu:Raw→Raw→Raw)(fr:Int→Raw){h o t:List Int}{f j k:Int}(e:icE [h,o,t]=0):inV (h.length*o.length*t.length) (wgF of_ mu fr h o t f j k):=by
 obtain⟨y,z,A⟩:=zQd e;obtain⟨⟨_,q⟩,⟨_,w⟩,⟨_,B⟩⟩:=zWv e;have E:h.length*o.length≤32*32:=vp q w;have a:=zLr of_ mu (x:=f) y (by decide) (zUq fr)
 have b:=zLr of_ mu (x:=j) z (show 1*h.length≤1048576 by omega) a
 rw[vw]at b;exact zLr of_ mu (x:=k) A (show h.length*o.length≤1048576 by omega) b
theorem jDg(of_:Int→Int→Raw)(mu:Raw→Raw→Raw)(me:Raw→Raw→Int)(fr:Int→Raw)(h o t:List Int)(f j q:Int):((qC Tryz.prog (evD Tryz.prog (OW of_ mu me fr icE) (loT []) 60) 78 [.ls .a (.list nT) [h,o,t],.ls .a nT [f,j,q]] []).bind qF).run=bif ieq (icE [h,o,t]) 0 then some (.tu [.sl (flN (wgF of_ mu fr h o t f j q)) (wgF of_ mu fr h o t f j q).length,vi (icE [h,o,t])],true)else some (.tu [.v (.slice none 0 0),vi (icE [h,o,t])],true):=by
 rw[eWg];cases e:ieq (icE [h,o,t]) 0 with
 | false=>rfl
 | true=>
  have k:=qH.1 e;obtain⟨w,y,B⟩:=zQd k;obtain⟨⟨_,z⟩,⟨_,A⟩,⟨_,E⟩⟩:=zWv k;have G:h.length*o.length≤32*32:=vp z A;have a:=zLr of_ mu (x:=f) w (by decide) (zUq fr)
  have b:=zLr of_ mu (x:=j) y (show 1*h.length≤1048576 by omega) a
  rw[vw]at b;simp only[zu,zf,ze];rw[zCd of_ mu w (by decide) _ _ _ (zUq fr)]
  simp only[uQ,kB];rw[zCd of_ mu y (show 1*h.length≤1048576 by omega) _ _ _ a]
  simp only[uQ,kB];rw[zCd of_ mu B (show h.length*o.length≤1048576 by omega) _ _ _ b,k]
  rfl
theorem zYs{B:Bm}{r:Rd}{A:Ty}(N:gN A=true){l:List A.den}{v:Value}(K:Rep B r (.sl (yA .a A l) l.length) v):Rep B r (.ls .a A l) v:=by
 obtain⟨ad,c,rfl,Q,R⟩:=K.slI;have hm:=K.slB;rcases R with⟨J,_⟩ | ⟨b,o,rfl,z⟩
 ·have M:l=[]:=by
   cases l with
   | nil=>rfl
   | cons x l=>first | exact absurd J (by simp) | (exfalso;simp at J)
  subst M;exact .ls ⟨ad,c,rfl,qu _,hm,.inl rfl⟩
 ·obtain⟨fv,g1,g2⟩:=z.fun;have y:zP B r (yA .a A l) ((List.range (yA .a A l).length).map fv):=zP.of (by simp) fun j t v e G=>by
   rw[qw]at G;obtain⟨T,w,rfl⟩:=kA.1 G;obtain⟨q,f⟩:=zh.1 w;rw[y9]at f;subst f;exact g2 _ _ e
  have k:zP B r (qP .a A l.reverse) ((List.range (yA .a A l).length).map fv):=by rw[mJ];exact y
  have:=zFs.of_flat (g:= .a) (A:=A) (x:=l.reverse) (b:=b) (o:=o) (c:=c) (p:=fun b=>Bm.In B .a b) (fun A l v h=>by cases h with | ls h=>exact h) N k (fun j v hv=>by
   rw[qw]at hv;obtain⟨T,w,rfl⟩:=kA.1 hv;obtain⟨q,f⟩:=zh.1 w;rw[y9]at f;subst f;have E:j<(yA .a A l).length:=by simpa using q
   exact g1 j (yA .a A l)[j] (by simp[E])) Bm.In.any (by rw[xf];exact Q) hm
  rw[ve]at this;exact .ls ⟨some ⟨b,o,none⟩,c,rfl,this⟩
theorem qEz:∀l:List Nz,flN l=yA .a nzT l
 | []=>rfl
 | y::l=>by
  show cN y++flN l=qE .a nzT y++yA .a nzT l;rw[qEz l];rfl
theorem qDu(k:Nat):∀l:List Nz,(flN l).all (clean (k+1))=true
 | []=>rfl
 | y::l=>by
  show(cN y++flN l).all (clean (k+1))=true;rw[List.all_append,qDu k l];rfl
def oWg(wg:(List Int→List Int→List Int→Int→Int→Int→List Nz))(ic:List (List Int)→Int):List T→DT (T×Bool)
 | [.ls .a (.list (.int .i64)) [h,o,t],.ls .a (.int .i64) [e,f,j]]=> .ret (.tu [.ls .a nzT (wg h o t e f j),.v (.int .i64 (ic [h,o,t]))],true)
 | _=> .no
theorem kIc':∀e j f,(jAm icE e).run=some (j,f)→∀k,KnP Tryz.prog k 157 e j f:=by
 intro e j f h k;refine kIc e j f ?_ k;unfold jAm at h;unfold oIc;split at h
 ·exact h
 ·cases h
theorem qTd:vD Tryz.prog (OW ofA muA meA frA icE):=zS (zS (zS (zS jZ fun e f j h k=>kN zQk e f h k) fun e f j h k=>kN qNn e f h k) (jI kIc')) (jI kSh2)
abbrev wgA(h o t:List Int)(e f j:Int):List Nz:=wgR ofA muA frA icE h o t e f j
theorem kWg:∀E N M,(oWg wgA icE E).run=some (N,M)→∀k,KnP Tryz.prog k 78 E N M:=by
 intro E N M z k;unfold oWg at z;split at z
 ·rename_i h o t f j w;cases z;have q:=jDg ofA muA meA frA h o t f j w;show KnP Tryz.prog k 78 _ (.tu [.ls .a nzT (wgR ofA muA frA icE h o t f j w),_]) true;unfold wgR;cases e:ieq (icE [h,o,t]) 0 with
  | false=>
   rw[e]at q;exact(yM (cz:=[.ls .a (.list nT) [h,o,t],.ls .a nT [f,j,w]]) yE qTd zZ q rfl k).res fun B r v hv=>by
    obtain⟨vs,rfl,y⟩:=hv.tuI;match vs,y with
    | [a,b],⟨J,K,_⟩=>exact Rep.mkTu (vs:=[a,b]) ⟨zDg J,K,trivial⟩
  | true=>
   rw[e]at q;have G:(([.ls .a (.list nT) [h,o,t],.ls .a nT [f,j,w]]:List T).all (clean 12)&&clean 12 (.tu [.sl (flN (wgF ofA muA frA h o t f j w)) (wgF ofA muA frA h o t f j w).length,vi (icE [h,o,t])]))=true:=by
    show(true&&((flN (wgF ofA muA frA h o t f j w)).all (clean 10)&&true))=true;rw[qDu 9];rfl
   exact(yM (cz:=[.ls .a (.list nT) [h,o,t],.ls .a nT [f,j,w]]) yE qTd zZ q G k).res fun B r v hv=>by
    obtain⟨vs,rfl,y⟩:=hv.tuI;match vs,y with
    | [a,b],⟨J,K,_⟩=>exact Rep.mkTu (vs:=[a,b]) ⟨zYs (A:=nzT) (by kernel_rfl) (by rw[←qEz];exact J),K,trivial⟩
 ·cases z
abbrev tbT:Ty:= .prod (.list nT) (.prod (.list nT) (.prod (.list nT) (.prod (.list bT) (.prod nT (.prod nT (.prod nT (.prod (.list nzT) (.prod (.list nzT) (.prod zL (.prod zL (.prod zL (.prod nT (.prod (.list (.list nT)) (.list (.list nT)))))))))))))))
def exL(l:List Nz):Nat→Nat→List Nz
 | 0,_=>[]
 | m+1,i=>zI l i::exL l m (i+1)
def xN(okP:TF Bool)(pP:TF Nat):List T→DT (T×Bool)
 | [.ag [.ls .a (.int .i64) h,.ls .a (.int .i64) o,.ls .a (.int .i64) t,.ls .a (.prod (.int .u8) (.prod (.int .i64) (.int .i64))) G,.v (.int .i64 P),.v (.int .i64 D),.v (.int .i64 S),.ls .a (.prod (.int .i64) zL) O,.ls .a (.prod (.int .i64) zL) U,.v (.bool e),.ls .a .lim C,.ls .a .lim f,.v (.bool w),.ls .a .lim sl,.ls .a .lim y,.v (.bool j),.ls .a .lim k,.ls .a .lim q,.v (.int .i64 Z),.ls .a (.list (.int .i64)) F,.ls .a (.list (.int .i64)) I]]=>grd (Nat.blt F.length 9223372036854775807) (.ite (okP h o t G P D S O U ⟨e,C,f⟩ ⟨w,sl,y⟩ ⟨j,k,q⟩ Z F I) (.ret (.v (.int .i64 (.ofNat 0)),true)) (.ret (.v (.int .i64 (.ofNat (pP h o t G P D S O U ⟨e,C,f⟩ ⟨w,sl,y⟩ ⟨j,k,q⟩ Z F I+1))),true)))
 | _=> .no
def vK(m:Nat)(wg:List Int→List Int→List Int→Int→Int→Int→List Nz):List T→DT (T×Bool)
 | [.ls .a (.list (.int .i64)) [h,o,t],.ls .a (.int .i64) [e,f,j]]=>grd (Nat.beq (wg h o t e f j).length m&&ieq (icE [h,o,t]) 0) (.ret (.tu [.ls .a nzT (exL (wg h o t e f j) m 0),.v (.int .i64 (.ofNat 0))],true))
 | _=> .no
def qI(okD:List Rt→List Rt→Bool)(dR:List Rt→List Rt→Raw)(dP:List Rt→List Rt→Nat):List T→DT (T×Bool)
 | [.ls .a (.prod .bool (.prod (.list .lim) (.list .lim))) a,.ls .a (.prod .bool (.prod (.list .lim) (.list .lim))) b]=>grd (Nat.ble a.length 100000&&Nat.ble b.length 100000) (.ite (okD a b) (.ret (.tu [.ag (rC (dR a b)),.v (.int .i64 (.ofNat 0))],true)) (.ret (.tu [.ag (rC (dR a b)),.v (.int .i64 (.ofNat (dP a b+1)))],true)))
 | _=> .no
def vH(fr:Int→Raw):List Ar→DT Rs
 | [.i n]=>grd (rF n) (.ret (.one (.r (fr n))))
 | _=> .no
def yH(zb:Raw→Bool)(okV:Raw→Raw→Bool)(vR:Raw→Raw→Raw)(vP:Raw→Raw→Nat):List Ar→DT Rs
 | [.r a,.r b]=>grd (!zb b) (.ite (okV a b) (.ret (.tup [.r (vR a b),.i (.ofNat 0)])) (.ret (.tup [.r (vR a b),.i (.ofNat (vP a b+1))])))
 | _=> .no
section
variable (okP:TF Bool)(pP:TF Nat)(wg:List Int→List Int→List Int→Int→Int→Int→List Nz)(fr:Int→Raw)(okD:List Rt→List Rt→Bool)(dR:List Rt→List Rt→Raw)(dP:List Rt→List Rt→Nat)(zb:Raw→Bool)(okV:Raw→Raw→Bool)(vR:Raw→Raw→Raw)(vP:Raw→Raw→Nat)
abbrev er(e:Nat):Option (T×Bool):=some (.tu [.v (.slice none 0 0),vn e],true)
abbrev kS(L:Int):Nat:=(Int.sub L 1).toNat
def jS(e Y:Int)(y:Nz):Int:=wq (Int.add (Int.mul y.1 e) Y)
def rS(I:List (List Int))(L e Y:Int)(y:Nz):Nat:=(nI (gI I (kS L)) (jS e Y y).toNat).toNat
def vS(F I:List (List Int))(L e Y:Int)(b:Nat)(y:Nz):Int:=nI (gI F (rS I L e Y y)) b
def scG(F I:List (List Int))(L e Y:Int)(b:Nat)(y:Nz)(K:Option (T×Bool)):Option (T×Bool):=gd (inW (Int.sub L 1)) (gd (nng (Int.sub L 1)) (gd (Nat.blt (kS L) I.length) (gd (inW (Int.mul y.1 e)) (gd (nng (jS e Y y)) (gd (Nat.blt (jS e Y y).toNat (gI I (kS L)).length) (gd (nng (nI (gI I (kS L)) (jS e Y y).toNat)) (gd (Nat.blt (rS I L e Y y) F.length) (gd (Nat.blt b (gI F (rS I L e Y y)).length) (gd (rF (vS F I L e Y b y)) K)))))))))
def qQe(F I:List (List Int))(L e Y:Int)(b:Nat):List Nz→Option (T×Bool)→Option (T×Bool)
 | [],K=>K
 | y::l,K=>scG F I L e Y b y (qQe F I L e Y b l K)
def scW:List Nz→List Rt
 | []=>[]
 | y::l=>(y.2.1,y.2.2.1,y.2.2.2)::scW l
def scV(F I:List (List Int))(L e Y:Int)(b:Nat):List Nz→List Rt
 | []=>[]
 | y::l=>toT (fr (vS F I L e Y b y))::scV F I L e Y b l
def scB(Z:Int)(F I:List (List Int))(L f Y:Int)(b:Nat)(e:List Nz)(K:Raw→Option (T×Bool)):Option (T×Bool):=qQe F I L f Y b e (bif okD (scW e) (scV fr F I L f Y b e)then gd (rF Z) (gd (!zb (fr Z)) (bif okV (dR (scW e) (scV fr F I L f Y b e)) (fr Z)then K (vR (dR (scW e) (scV fr F I L f Y b e)) (fr Z))else er (vP (dR (scW e) (scV fr F I L f Y b e)) (fr Z)+1)))else er (dP (scW e) (scV fr F I L f Y b e)+1))
def flR:List Raw→List T
 | []=>[]
 | x::l=>[.v (.bool x.neg),.ls .a .lim x.ln,.ls .a .lim x.ld]++flR l
def scL(Z:Int)(F I:List (List Int))(L f Y:Int)(j:List Nz):Nat→Nat→List Raw→Option (T×Bool)
 | 0,_,e=>some (.tu [.sl (flR e.reverse) e.length,vn 0],true)
 | k+1,b,e=>scB fr okD dR dP zb okV vR vP Z F I L f Y b j fun x=>scL Z F I L f Y j k (b+1) (x::e)
abbrev wiK(x e:Int)(E K:Option (T×Bool)):Option (T×Bool):=bif !ilt x (-e)then(bif !(!ilt e x)then E else K)else E
def scA(m e:Nat)(h o t:List Int)(G:List Bd)(P D S:Int)(O U:List Nz)(C st V:Raw)(Z:Int)(F I:List (List Int))(L H W vq Y:Int):Option (T×Bool):=gd (Nat.blt F.length 9223372036854775807) (bif okP h o t G P D S O U C st V Z F I then(bif ilt L (.ofNat 1)then er 1 else(bif ilt S L then er 1 else wiK H 100000 (er 1) (wiK W 100 (er 1) (wiK vq 100 (er 1) (bif ilt Y (.ofNat 0)then er 8 else(bif !ilt Y (.ofNat e)then er 8 else gd (Nat.beq (wg h o t H W vq).length m&&ieq (icE [h,o,t]) 0) (scL fr okD dR dP zb okV vR vP Z F I L (.ofNat e) Y (exL (wg h o t H W vq) m 0) e 0 [])))))))else er (pP h o t G P D S O U C st V Z F I+1))
end
section
variable (okP:TF Bool)(pP:TF Nat)(wg:List Int→List Int→List Int→Int→Int→Int→List Nz)(fr:Int→Raw)(okD:List Rt→List Rt→Bool)(dR:List Rt→List Rt→Raw)(dP:List Rt→List Rt→Nat)(zb:Raw→Bool)(okV:Raw→Raw→Bool)(vR:Raw→Raw→Raw)(vP:Raw→Raw→Nat)(h o t:List Int)(P D S:Int)(O U:List Nz)(C st V:Raw)(Z:Int)(F I:List (List Int))(L H W vq Y:Int)
set_option maxHeartbeats 0 in
theorem qWg(a0:Bd):((qC Tryz.prog (evD Tryz.prog (odT [(61,odR [tbT] (xN okP pP)),(78,odR [.list (.list nT),.list nT] (vK 1 wg)),(47,kcT (vH fr) true),(70,odR [.list zL,.list zL] (qI okD dR dP)),(80,kcT (yH zb okV vR vP) true)]) (loT []) 60) 32 [.ag (tbC h o t [a0] P D S O U C st V Z F I),vi L,vi H,vi W,vi vq,vi Y] []).bind qF).run=scA okP pP wg fr okD dR dP zb okV vR vP 1 1 h o t [a0] P D S O U C st V Z F I L H W vq Y:=by kernel_rfl
set_option maxHeartbeats 0 in
theorem qWh(a0 e:Bd):((qC Tryz.prog (evD Tryz.prog (odT [(61,odR [tbT] (xN okP pP)),(78,odR [.list (.list nT),.list nT] (vK 1 wg)),(47,kcT (vH fr) true),(70,odR [.list zL,.list zL] (qI okD dR dP)),(80,kcT (yH zb okV vR vP) true)]) (loT []) 60) 32 [.ag (tbC h o t [a0,e] P D S O U C st V Z F I),vi L,vi H,vi W,vi vq,vi Y] []).bind qF).run=scA okP pP wg fr okD dR dP zb okV vR vP 1 2 h o t [a0,e] P D S O U C st V Z F I L H W vq Y:=by kernel_rfl
set_option maxHeartbeats 0 in
theorem qWi(a0 e f:Bd):((qC Tryz.prog (evD Tryz.prog (odT [(61,odR [tbT] (xN okP pP)),(78,odR [.list (.list nT),.list nT] (vK 1 wg)),(47,kcT (vH fr) true),(70,odR [.list zL,.list zL] (qI okD dR dP)),(80,kcT (yH zb okV vR vP) true)]) (loT []) 60) 32 [.ag (tbC h o t [a0,e,f] P D S O U C st V Z F I),vi L,vi H,vi W,vi vq,vi Y] []).bind qF).run=scA okP pP wg fr okD dR dP zb okV vR vP 1 3 h o t [a0,e,f] P D S O U C st V Z F I L H W vq Y:=by kernel_rfl
set_option maxHeartbeats 0 in
theorem qWj(a0 e f j:Bd):((qC Tryz.prog (evD Tryz.prog (odT [(61,odR [tbT] (xN okP pP)),(78,odR [.list (.list nT),.list nT] (vK 1 wg)),(47,kcT (vH fr) true),(70,odR [.list zL,.list zL] (qI okD dR dP)),(80,kcT (yH zb okV vR vP) true)]) (loT []) 60) 32 [.ag (tbC h o t [a0,e,f,j] P D S O U C st V Z F I),vi L,vi H,vi W,vi vq,vi Y] []).bind qF).run=scA okP pP wg fr okD dR dP zb okV vR vP 1 4 h o t [a0,e,f,j] P D S O U C st V Z F I L H W vq Y:=by kernel_rfl
set_option maxHeartbeats 0 in
theorem qWk(a0 e f j k:Bd):((qC Tryz.prog (evD Tryz.prog (odT [(61,odR [tbT] (xN okP pP)),(78,odR [.list (.list nT),.list nT] (vK 1 wg)),(47,kcT (vH fr) true),(70,odR [.list zL,.list zL] (qI okD dR dP)),(80,kcT (yH zb okV vR vP) true)]) (loT []) 60) 32 [.ag (tbC h o t [a0,e,f,j,k] P D S O U C st V Z F I),vi L,vi H,vi W,vi vq,vi Y] []).bind qF).run=scA okP pP wg fr okD dR dP zb okV vR vP 1 5 h o t [a0,e,f,j,k] P D S O U C st V Z F I L H W vq Y:=by kernel_rfl
set_option maxHeartbeats 0 in
theorem qWl(a0 e f j k q:Bd):((qC Tryz.prog (evD Tryz.prog (odT [(61,odR [tbT] (xN okP pP)),(78,odR [.list (.list nT),.list nT] (vK 1 wg)),(47,kcT (vH fr) true),(70,odR [.list zL,.list zL] (qI okD dR dP)),(80,kcT (yH zb okV vR vP) true)]) (loT []) 60) 32 [.ag (tbC h o t [a0,e,f,j,k,q] P D S O U C st V Z F I),vi L,vi H,vi W,vi vq,vi Y] []).bind qF).run=scA okP pP wg fr okD dR dP zb okV vR vP 1 6 h o t [a0,e,f,j,k,q] P D S O U C st V Z F I L H W vq Y:=by kernel_rfl
end
section
variable (okP:TF Bool)(pP:TF Nat)(wg:List Int→List Int→List Int→Int→Int→Int→List Nz)(fr:Int→Raw)(okD:List Rt→List Rt→Bool)(dR:List Rt→List Rt→Raw)(dP:List Rt→List Rt→Nat)(zb:Raw→Bool)(okV:Raw→Raw→Bool)(vR:Raw→Raw→Raw)(vP:Raw→Raw→Nat)(h o t:List Int)(P D S:Int)(O U:List Nz)(C st V:Raw)(Z:Int)(F I:List (List Int))(L H W vq Y:Int)
set_option maxHeartbeats 0 in
theorem qWm(a0:Bd):((qC Tryz.prog (evD Tryz.prog (odT [(61,odR [tbT] (xN okP pP)),(78,odR [.list (.list nT),.list nT] (vK 2 wg)),(47,kcT (vH fr) true),(70,odR [.list zL,.list zL] (qI okD dR dP)),(80,kcT (yH zb okV vR vP) true)]) (loT []) 60) 32 [.ag (tbC h o t [a0] P D S O U C st V Z F I),vi L,vi H,vi W,vi vq,vi Y] []).bind qF).run=scA okP pP wg fr okD dR dP zb okV vR vP 2 1 h o t [a0] P D S O U C st V Z F I L H W vq Y:=by kernel_rfl
set_option maxHeartbeats 0 in
theorem qWn(a0 e:Bd):((qC Tryz.prog (evD Tryz.prog (odT [(61,odR [tbT] (xN okP pP)),(78,odR [.list (.list nT),.list nT] (vK 2 wg)),(47,kcT (vH fr) true),(70,odR [.list zL,.list zL] (qI okD dR dP)),(80,kcT (yH zb okV vR vP) true)]) (loT []) 60) 32 [.ag (tbC h o t [a0,e] P D S O U C st V Z F I),vi L,vi H,vi W,vi vq,vi Y] []).bind qF).run=scA okP pP wg fr okD dR dP zb okV vR vP 2 2 h o t [a0,e] P D S O U C st V Z F I L H W vq Y:=by kernel_rfl
set_option maxHeartbeats 0 in
theorem qWo(a0 e f:Bd):((qC Tryz.prog (evD Tryz.prog (odT [(61,odR [tbT] (xN okP pP)),(78,odR [.list (.list nT),.list nT] (vK 2 wg)),(47,kcT (vH fr) true),(70,odR [.list zL,.list zL] (qI okD dR dP)),(80,kcT (yH zb okV vR vP) true)]) (loT []) 60) 32 [.ag (tbC h o t [a0,e,f] P D S O U C st V Z F I),vi L,vi H,vi W,vi vq,vi Y] []).bind qF).run=scA okP pP wg fr okD dR dP zb okV vR vP 2 3 h o t [a0,e,f] P D S O U C st V Z F I L H W vq Y:=by kernel_rfl
set_option maxHeartbeats 0 in
theorem qWp(a0 e f j:Bd):((qC Tryz.prog (evD Tryz.prog (odT [(61,odR [tbT] (xN okP pP)),(78,odR [.list (.list nT),.list nT] (vK 2 wg)),(47,kcT (vH fr) true),(70,odR [.list zL,.list zL] (qI okD dR dP)),(80,kcT (yH zb okV vR vP) true)]) (loT []) 60) 32 [.ag (tbC h o t [a0,e,f,j] P D S O U C st V Z F I),vi L,vi H,vi W,vi vq,vi Y] []).bind qF).run=scA okP pP wg fr okD dR dP zb okV vR vP 2 4 h o t [a0,e,f,j] P D S O U C st V Z F I L H W vq Y:=by kernel_rfl
set_option maxHeartbeats 0 in
theorem qWq(a0 e f j k:Bd):((qC Tryz.prog (evD Tryz.prog (odT [(61,odR [tbT] (xN okP pP)),(78,odR [.list (.list nT),.list nT] (vK 2 wg)),(47,kcT (vH fr) true),(70,odR [.list zL,.list zL] (qI okD dR dP)),(80,kcT (yH zb okV vR vP) true)]) (loT []) 60) 32 [.ag (tbC h o t [a0,e,f,j,k] P D S O U C st V Z F I),vi L,vi H,vi W,vi vq,vi Y] []).bind qF).run=scA okP pP wg fr okD dR dP zb okV vR vP 2 5 h o t [a0,e,f,j,k] P D S O U C st V Z F I L H W vq Y:=by kernel_rfl
set_option maxHeartbeats 0 in
theorem qWr(a0 e f j k q:Bd):((qC Tryz.prog (evD Tryz.prog (odT [(61,odR [tbT] (xN okP pP)),(78,odR [.list (.list nT),.list nT] (vK 2 wg)),(47,kcT (vH fr) true),(70,odR [.list zL,.list zL] (qI okD dR dP)),(80,kcT (yH zb okV vR vP) true)]) (loT []) 60) 32 [.ag (tbC h o t [a0,e,f,j,k,q] P D S O U C st V Z F I),vi L,vi H,vi W,vi vq,vi Y] []).bind qF).run=scA okP pP wg fr okD dR dP zb okV vR vP 2 6 h o t [a0,e,f,j,k,q] P D S O U C st V Z F I L H W vq Y:=by kernel_rfl
end
section
variable (okP:TF Bool)(pP:TF Nat)(wg:List Int→List Int→List Int→Int→Int→Int→List Nz)(fr:Int→Raw)(okD:List Rt→List Rt→Bool)(dR:List Rt→List Rt→Raw)(dP:List Rt→List Rt→Nat)(zb:Raw→Bool)(okV:Raw→Raw→Bool)(vR:Raw→Raw→Raw)(vP:Raw→Raw→Nat)(h o t:List Int)(P D S:Int)(O U:List Nz)(C st V:Raw)(Z:Int)(F I:List (List Int))(L H W vq Y:Int)
set_option maxHeartbeats 0 in
theorem qWs(a0:Bd):((qC Tryz.prog (evD Tryz.prog (odT [(61,odR [tbT] (xN okP pP)),(78,odR [.list (.list nT),.list nT] (vK 4 wg)),(47,kcT (vH fr) true),(70,odR [.list zL,.list zL] (qI okD dR dP)),(80,kcT (yH zb okV vR vP) true)]) (loT []) 60) 32 [.ag (tbC h o t [a0] P D S O U C st V Z F I),vi L,vi H,vi W,vi vq,vi Y] []).bind qF).run=scA okP pP wg fr okD dR dP zb okV vR vP 4 1 h o t [a0] P D S O U C st V Z F I L H W vq Y:=by kernel_rfl
set_option maxHeartbeats 0 in
theorem qWt(a0 e:Bd):((qC Tryz.prog (evD Tryz.prog (odT [(61,odR [tbT] (xN okP pP)),(78,odR [.list (.list nT),.list nT] (vK 4 wg)),(47,kcT (vH fr) true),(70,odR [.list zL,.list zL] (qI okD dR dP)),(80,kcT (yH zb okV vR vP) true)]) (loT []) 60) 32 [.ag (tbC h o t [a0,e] P D S O U C st V Z F I),vi L,vi H,vi W,vi vq,vi Y] []).bind qF).run=scA okP pP wg fr okD dR dP zb okV vR vP 4 2 h o t [a0,e] P D S O U C st V Z F I L H W vq Y:=by kernel_rfl
set_option maxHeartbeats 0 in
theorem qWu(a0 e f:Bd):((qC Tryz.prog (evD Tryz.prog (odT [(61,odR [tbT] (xN okP pP)),(78,odR [.list (.list nT),.list nT] (vK 4 wg)),(47,kcT (vH fr) true),(70,odR [.list zL,.list zL] (qI okD dR dP)),(80,kcT (yH zb okV vR vP) true)]) (loT []) 60) 32 [.ag (tbC h o t [a0,e,f] P D S O U C st V Z F I),vi L,vi H,vi W,vi vq,vi Y] []).bind qF).run=scA okP pP wg fr okD dR dP zb okV vR vP 4 3 h o t [a0,e,f] P D S O U C st V Z F I L H W vq Y:=by kernel_rfl
set_option maxHeartbeats 0 in
theorem qWv(a0 e f j:Bd):((qC Tryz.prog (evD Tryz.prog (odT [(61,odR [tbT] (xN okP pP)),(78,odR [.list (.list nT),.list nT] (vK 4 wg)),(47,kcT (vH fr) true),(70,odR [.list zL,.list zL] (qI okD dR dP)),(80,kcT (yH zb okV vR vP) true)]) (loT []) 60) 32 [.ag (tbC h o t [a0,e,f,j] P D S O U C st V Z F I),vi L,vi H,vi W,vi vq,vi Y] []).bind qF).run=scA okP pP wg fr okD dR dP zb okV vR vP 4 4 h o t [a0,e,f,j] P D S O U C st V Z F I L H W vq Y:=by kernel_rfl
set_option maxHeartbeats 0 in
theorem qWw(a0 e f j k:Bd):((qC Tryz.prog (evD Tryz.prog (odT [(61,odR [tbT] (xN okP pP)),(78,odR [.list (.list nT),.list nT] (vK 4 wg)),(47,kcT (vH fr) true),(70,odR [.list zL,.list zL] (qI okD dR dP)),(80,kcT (yH zb okV vR vP) true)]) (loT []) 60) 32 [.ag (tbC h o t [a0,e,f,j,k] P D S O U C st V Z F I),vi L,vi H,vi W,vi vq,vi Y] []).bind qF).run=scA okP pP wg fr okD dR dP zb okV vR vP 4 5 h o t [a0,e,f,j,k] P D S O U C st V Z F I L H W vq Y:=by kernel_rfl
set_option maxHeartbeats 0 in
theorem qWx(a0 e f j k q:Bd):((qC Tryz.prog (evD Tryz.prog (odT [(61,odR [tbT] (xN okP pP)),(78,odR [.list (.list nT),.list nT] (vK 4 wg)),(47,kcT (vH fr) true),(70,odR [.list zL,.list zL] (qI okD dR dP)),(80,kcT (yH zb okV vR vP) true)]) (loT []) 60) 32 [.ag (tbC h o t [a0,e,f,j,k,q] P D S O U C st V Z F I),vi L,vi H,vi W,vi vq,vi Y] []).bind qF).run=scA okP pP wg fr okD dR dP zb okV vR vP 4 6 h o t [a0,e,f,j,k,q] P D S O U C st V Z F I L H W vq Y:=by kernel_rfl
end
section
variable (okP:TF Bool)(pP:TF Nat)(wg:List Int→List Int→List Int→Int→Int→Int→List Nz)(fr:Int→Raw)(okD:List Rt→List Rt→Bool)(dR:List Rt→List Rt→Raw)(dP:List Rt→List Rt→Nat)(zb:Raw→Bool)(okV:Raw→Raw→Bool)(vR:Raw→Raw→Raw)(vP:Raw→Raw→Nat)(h o t:List Int)(P D S:Int)(O U:List Nz)(C st V:Raw)(Z:Int)(F I:List (List Int))(L H W vq Y:Int)
set_option maxHeartbeats 0 in
theorem qWy(a0:Bd):((qC Tryz.prog (evD Tryz.prog (odT [(61,odR [tbT] (xN okP pP)),(78,odR [.list (.list nT),.list nT] (vK 8 wg)),(47,kcT (vH fr) true),(70,odR [.list zL,.list zL] (qI okD dR dP)),(80,kcT (yH zb okV vR vP) true)]) (loT []) 60) 32 [.ag (tbC h o t [a0] P D S O U C st V Z F I),vi L,vi H,vi W,vi vq,vi Y] []).bind qF).run=scA okP pP wg fr okD dR dP zb okV vR vP 8 1 h o t [a0] P D S O U C st V Z F I L H W vq Y:=by kernel_rfl
set_option maxHeartbeats 0 in
theorem qWz(a0 e:Bd):((qC Tryz.prog (evD Tryz.prog (odT [(61,odR [tbT] (xN okP pP)),(78,odR [.list (.list nT),.list nT] (vK 8 wg)),(47,kcT (vH fr) true),(70,odR [.list zL,.list zL] (qI okD dR dP)),(80,kcT (yH zb okV vR vP) true)]) (loT []) 60) 32 [.ag (tbC h o t [a0,e] P D S O U C st V Z F I),vi L,vi H,vi W,vi vq,vi Y] []).bind qF).run=scA okP pP wg fr okD dR dP zb okV vR vP 8 2 h o t [a0,e] P D S O U C st V Z F I L H W vq Y:=by kernel_rfl
set_option maxHeartbeats 0 in
theorem qXa(a0 e f:Bd):((qC Tryz.prog (evD Tryz.prog (odT [(61,odR [tbT] (xN okP pP)),(78,odR [.list (.list nT),.list nT] (vK 8 wg)),(47,kcT (vH fr) true),(70,odR [.list zL,.list zL] (qI okD dR dP)),(80,kcT (yH zb okV vR vP) true)]) (loT []) 60) 32 [.ag (tbC h o t [a0,e,f] P D S O U C st V Z F I),vi L,vi H,vi W,vi vq,vi Y] []).bind qF).run=scA okP pP wg fr okD dR dP zb okV vR vP 8 3 h o t [a0,e,f] P D S O U C st V Z F I L H W vq Y:=by kernel_rfl
set_option maxHeartbeats 0 in
theorem qXb(a0 e f j:Bd):((qC Tryz.prog (evD Tryz.prog (odT [(61,odR [tbT] (xN okP pP)),(78,odR [.list (.list nT),.list nT] (vK 8 wg)),(47,kcT (vH fr) true),(70,odR [.list zL,.list zL] (qI okD dR dP)),(80,kcT (yH zb okV vR vP) true)]) (loT []) 60) 32 [.ag (tbC h o t [a0,e,f,j] P D S O U C st V Z F I),vi L,vi H,vi W,vi vq,vi Y] []).bind qF).run=scA okP pP wg fr okD dR dP zb okV vR vP 8 4 h o t [a0,e,f,j] P D S O U C st V Z F I L H W vq Y:=by kernel_rfl
set_option maxHeartbeats 0 in
theorem qXc(a0 e f j k:Bd):((qC Tryz.prog (evD Tryz.prog (odT [(61,odR [tbT] (xN okP pP)),(78,odR [.list (.list nT),.list nT] (vK 8 wg)),(47,kcT (vH fr) true),(70,odR [.list zL,.list zL] (qI okD dR dP)),(80,kcT (yH zb okV vR vP) true)]) (loT []) 60) 32 [.ag (tbC h o t [a0,e,f,j,k] P D S O U C st V Z F I),vi L,vi H,vi W,vi vq,vi Y] []).bind qF).run=scA okP pP wg fr okD dR dP zb okV vR vP 8 5 h o t [a0,e,f,j,k] P D S O U C st V Z F I L H W vq Y:=by kernel_rfl
set_option maxHeartbeats 0 in
theorem qXd(a0 e f j k q:Bd):((qC Tryz.prog (evD Tryz.prog (odT [(61,odR [tbT] (xN okP pP)),(78,odR [.list (.list nT),.list nT] (vK 8 wg)),(47,kcT (vH fr) true),(70,odR [.list zL,.list zL] (qI okD dR dP)),(80,kcT (yH zb okV vR vP) true)]) (loT []) 60) 32 [.ag (tbC h o t [a0,e,f,j,k,q] P D S O U C st V Z F I),vi L,vi H,vi W,vi vq,vi Y] []).bind qF).run=scA okP pP wg fr okD dR dP zb okV vR vP 8 6 h o t [a0,e,f,j,k,q] P D S O U C st V Z F I L H W vq Y:=by kernel_rfl
end
section
variable (okP:TF Bool)(pP:TF Nat)(wg:List Int→List Int→List Int→Int→Int→Int→List Nz)(fr:Int→Raw)(okD:List Rt→List Rt→Bool)(dR:List Rt→List Rt→Raw)(dP:List Rt→List Rt→Nat)(zb:Raw→Bool)(okV:Raw→Raw→Bool)(vR:Raw→Raw→Raw)(vP:Raw→Raw→Nat)
def sk1(Z:Int)(F I:List (List Int))(L f Y:Int)(e:List Nz)(b:Nat):Raw⊕Nat:=bif okD (scW e) (scV fr F I L f Y b e)then(bif okV (dR (scW e) (scV fr F I L f Y b e)) (fr Z)then .inl (vR (dR (scW e) (scV fr F I L f Y b e)) (fr Z))else .inr (vP (dR (scW e) (scV fr F I L f Y b e)) (fr Z)+1))else .inr (dP (scW e) (scV fr F I L f Y b e)+1)
def skL(Z:Int)(F I:List (List Int))(L j Y:Int)(q:List Nz):Nat→Nat→List Raw→List Raw⊕Nat
 | 0,_,f=> .inl f.reverse
 | k+1,b,f=>match sk1 fr okD dR dP okV vR vP Z F I L j Y q b with
  | .inl x=>skL Z F I L j Y q k (b+1) (x::f)
  | .inr e=> .inr e
def qId:List Raw⊕Nat→Option (T×Bool)
 | .inl l=>some (.tu [.sl (flR l) l.length,vn 0],true)
 | .inr e=>er e
theorem jCk{h o t:List Int}{G:List Bd}{S Z:Int}{F I:List (List Int)}{L Y:Int}{b:Nat}{y:Nz}{K:Option (T×Bool)}(hT:Tab h o t G S Z F I)(k1:1≤L)(k2:L≤S)(p1:0≤Y)(p2:Y<(G.length:Int))(M:b<G.length)(Q:0≤y.1∧y.1<((h.length*o.length*t.length:Nat):Int)):scG F I L (.ofNat G.length) Y b y K=K:=by
 obtain⟨v,hv⟩:∃v:Nat,y.1=(v:Int):=jh Q.1;obtain⟨q,H⟩:∃q:Nat,Y=(q:Int):=jh p1;have z:v<h.length*o.length*t.length:=by
  have J:=Q.2;rw[hv]at J;exact uW.1 J
 have hq2:q<G.length:=by omega
 have hix:=hT.ixl;have hst:=zSj hT.mod;obtain⟨j,hj⟩:∃j:Nat,L=((j+1:Nat):Int):=⟨L.toNat-1,by omega⟩
 have f:j<I.length:=by omega
 have E:Int.sub L 1= .ofNat j:=by rw[hj];show((j+1:Nat):Int)-1=(j:Int);omega
 have A:kS L=j:=by unfold kS;rw[E];rfl
 obtain⟨r1,r2⟩:=hT.row j f;have hsz:=hT.mod.sz;have m1:v*G.length+G.length≤h.length*o.length*t.length*G.length:=by
  rw[←yo];exact q6 _ z
 have em:Int.mul y.1 (.ofNat G.length)= .ofNat (v*G.length):=by rw[hv];rfl
 have B:jS (.ofNat G.length) Y y= .ofNat (v*G.length+q):=by
  show wq (Int.add (Int.mul y.1 (.ofNat G.length)) Y)=_;rw[em,H];exact qTv (yT (show v*G.length+q<9223372036854775808 by omega))
 have e:(jS (.ofNat G.length) Y y).toNat=v*G.length+q:=by rw[B];rfl
 have N:v*G.length+q<(gI I j).length:=by rw[r1];omega
 obtain⟨n1,R⟩:=r2 _ N;obtain⟨r,w⟩:∃r:Nat,nI (gI I j) (v*G.length+q)=(r:Int):=jh n1;have k:r<F.length:=by rw[w]at R;exact uW.1 R
 have eR:rS I L (.ofNat G.length) Y y=r:=by unfold rS;rw[A,e,w];rfl
 obtain⟨g1,g2⟩:=hT.num r k;obtain⟨g3,g4⟩:=g2 b (by rw[g1];exact M)
 have eV:rF (vS F I L (.ofNat G.length) Y b y)=true:=by unfold vS;rw[eR];exact zAz g3 (by omega)
 have X:inW (.ofNat j)=true:=yT (by omega)
 have a2:nng (.ofNat j)=true:=rfl;have a3:inW (.ofNat (v*G.length))=true:=yT (show v*G.length<9223372036854775808 by omega)
 have a4:nng (.ofNat (v*G.length+q))=true:=rfl;have a5:nng (nI (gI I j) (v*G.length+q))=true:=by rw[w];rfl
 unfold scG;rw[E,A,em,e,B,eR,eV,X,a2,a3,a4,a5,zO f,zO N,zO k,zO (show b<(gI F r).length by rw[g1];exact M)]
 rfl
theorem zYn{h o t:List Int}{G:List Bd}{S Z:Int}{F I:List (List Int)}{L Y:Int}{b:Nat}{K:Option (T×Bool)}(hT:Tab h o t G S Z F I)(j:1≤L)(k:L≤S)(q:0≤Y)(w:Y<(G.length:Int))(e:b<G.length):∀{ws:List Nz},inV (h.length*o.length*t.length) ws→qQe F I L (.ofNat G.length) Y b ws K=K
 | [],_=>rfl
 | y::l,f=>by
  show scG F I L (.ofNat G.length) Y b y (qQe F I L (.ofNat G.length) Y b l K)=K;rw[zYn hT j k q w e (ws:=l) fun z A=>f z (z6 _ A)];exact jCk hT j k q w e (f y qS)
theorem qJf{h o t:List Int}{G:List Bd}{S Z:Int}{F I:List (List Int)}{L Y:Int}{j:List Nz}(hT:Tab h o t G S Z F I)(y:1≤L)(z:L≤S)(A:0≤Y)(B:Y<(G.length:Int))(q:inV (h.length*o.length*t.length) j)(w:zb (fr Z)=false):∀(k b:Nat)(f:List Raw),b+k=G.length→scL fr okD dR dP zb okV vR vP Z F I L (.ofNat G.length) Y j k b f=qId (skL fr okD dR dP okV vR vP Z F I L (.ofNat G.length) Y j k b f)
 | 0,b,f,_=>by
  show(some (.tu [.sl (flR f.reverse) f.length,vn 0],true):Option (T×Bool))=some (.tu [.sl (flR f.reverse) f.reverse.length,vn 0],true);rw[xf]
 | k+1,b,f,e=>by
  have E:rF Z=true:=zAz (uV (by decide) hT.sc1) (uV hT.sc2 (by decide))
  simp only[scL,scB,skL,sk1];rw[zYn hT y z A B (show b<G.length by omega) q]
  cases okD (scW j) (scV fr F I L (.ofNat G.length) Y b j)with
  | false=>rfl
  | true=>
   simp only[gd,E,w,qy,ze];cases okV (dR (scW j) (scV fr F I L (.ofNat G.length) Y b j)) (fr Z)with
   | false=>rfl
   | true=>simp only[ze];exact qJf hT y z A B q w k (b+1) _ (by omega)
end
theorem zTw:∀(l:List Nz)(m i:Nat),i+m=l.length→exL l m i=l.drop i
 | l,0,i,h=>by
  obtain rfl:i=l.length:=by omega
  rw[gf];rfl
 | l,m+1,i,h=>by
  have f:i<l.length:=by omega
  have e:zI l i=l[i]:=by rw[zI,qW];simp[f]
  rw[j9 f,←e];show zI l i::exL l m (i+1)=_;rw[zTw l m (i+1) (by omega)]
def iDt(a b:List Rt)(n i:Nat)(t:Raw):Hs:=⟨[.ls .a zL a,.ls .a zL b,vn n,vn i],[],[[.v (.bool t.1),.ls .n .lim t.2,.ls .n .lim t.3]]⟩
def iDz(a b:List Rt)(n i:Nat):Hs:=⟨[.ls .a zL a,.ls .a zL b,vn n,vn i],[],[[.v (.bool false),.v (.slice none 0 0),.v (.slice none 0 0)]]⟩
def Ldt:Lp:=⟨1,
 ⟨[.h,.h,.u,.u,.t (.op 0 0)]++(us' 11++([.h,.h]++(us' 31))),[.r [.h,.h,.h] 28]⟩,
 ⟨us' 4++([.t (.op 0 0)]++(us' 44)),[.r [.h,.h,.h] 28]⟩,
 ⟨us' 4++([.t (.op 0 0),.h]++(us' 43)),[.r [.h,.h,.h] 28]⟩⟩
abbrev qRc:Code:=lpc Tryz.prog 70 [false,true,false,true,true]
theorem qUf:cAt Tryz.prog 70 [false,true,false,true,true]=some (.loop qRc):=by kernel_rfl
abbrev zAg(f:Od)(e:Lo):Hs→Option (Hs⊕(Ex×Hs)):=Ldt.stp (evD Tryz.prog f e 60) 70 [false,true,false,true,true] qRc
abbrev ODt(ad mu:Raw→Raw→Raw)(ae me:Raw→Raw→Int):Od:=odT [(34,kcD (pRR fun a b=>some (ad a b,ae a b)) true),(49,kcD (pRR fun a b=>some (mu a b,me a b)) true)]
abbrev rI(l:List Rt)(i:Nat):Rt:=nth zL.zero l i
theorem sDz(ad mu:Raw→Raw→Raw)(ae me:Raw→Raw→Int)(a b:List Rt)(n i:Nat):zAg (ODt ad mu ae me) (loT []) (iDz a b n i)=bif ilt (.ofNat i) (.ofNat n)then gd (Nat.blt i a.length) (gd (Nat.blt i b.length) (bif !(ieq (me (rw' (rI a i)) (rw' (rI b i))) 0)then some (.inr (.r,⟨[vi (me (rw' (rI a i)) (rw' (rI b i)))],[],[[.v (.bool false),.v (Value.slice none 0 0),.v (Value.slice none 0 0)]]⟩))else(bif !(ieq (ae ⟨false,[],[]⟩ ⟨false,[],[]⟩) 0)then(bif !(ieq (ae ⟨false,[],[]⟩ ⟨false,[],[]⟩) 0)then some (.inr (.r,⟨[vi (ae ⟨false,[],[]⟩ ⟨false,[],[]⟩)],[],[[.v (.bool false),.v (Value.slice none 0 0),.v (Value.slice none 0 0)]]⟩))else nx i (.inl ⟨[.ls .a zL a,.ls .a zL b,vn n,vn (i+1)],[],[[.v (.bool false),.v (Value.slice none 0 0),.v (Value.slice none 0 0)]]⟩))else(bif !(ieq (ae (ad ⟨false,[],[]⟩ ⟨false,[],[]⟩) (mu (rw' (rI a i)) (rw' (rI b i)))) 0)then(bif !(ieq (ae (ad ⟨false,[],[]⟩ ⟨false,[],[]⟩) (mu (rw' (rI a i)) (rw' (rI b i)))) 0)then some (.inr (.r,⟨[vi (ae (ad ⟨false,[],[]⟩ ⟨false,[],[]⟩) (mu (rw' (rI a i)) (rw' (rI b i))))],[],[[.v (.bool false),.v (Value.slice none 0 0),.v (Value.slice none 0 0)]]⟩))else nx i (.inl ⟨[.ls .a zL a,.ls .a zL b,vn n,vn (i+1)],[],[[.v (.bool false),.v (Value.slice none 0 0),.v (Value.slice none 0 0)]]⟩))else nx i (.inl ⟨[.ls .a zL a,.ls .a zL b,vn n,vn (i+1)],[],[[.v (.bool ((ad (ad ⟨false,[],[]⟩ ⟨false,[],[]⟩) (mu (rw' (rI a i)) (rw' (rI b i)))).1)),.ls .n .lim ((ad (ad ⟨false,[],[]⟩ ⟨false,[],[]⟩) (mu (rw' (rI a i)) (rw' (rI b i)))).2),.ls .n .lim ((ad (ad ⟨false,[],[]⟩ ⟨false,[],[]⟩) (mu (rw' (rI a i)) (rw' (rI b i)))).3)]]⟩)))))else some (.inr (.x 0,⟨[],[],[[.v (.bool false),.v (Value.slice none 0 0),.v (Value.slice none 0 0)]]⟩)):=by kernel_rfl
theorem sDt(ad mu:Raw→Raw→Raw)(ae me:Raw→Raw→Int)(a b:List Rt)(n i:Nat)(t:Raw):zAg (ODt ad mu ae me) (loT []) (iDt a b n i t)=bif ilt (.ofNat i) (.ofNat n)then gd (Nat.blt i a.length) (gd (Nat.blt i b.length) (bif !(ieq (me (rw' (rI a i)) (rw' (rI b i))) 0)then some (.inr (.r,⟨[vi (me (rw' (rI a i)) (rw' (rI b i)))],[],[[.v (.bool false),.v (Value.slice none 0 0),.v (Value.slice none 0 0)]]⟩))else(bif !(ieq (ae ⟨false,[],[]⟩ t) 0)then(bif !(ieq (ae ⟨false,[],[]⟩ t) 0)then some (.inr (.r,⟨[vi (ae ⟨false,[],[]⟩ t)],[],[[.v (.bool false),.v (Value.slice none 0 0),.v (Value.slice none 0 0)]]⟩))else nx i (.inl ⟨[.ls .a zL a,.ls .a zL b,vn n,vn (i+1)],[],[[.v (.bool false),.v (Value.slice none 0 0),.v (Value.slice none 0 0)]]⟩))else(bif !(ieq (ae (ad ⟨false,[],[]⟩ t) (mu (rw' (rI a i)) (rw' (rI b i)))) 0)then(bif !(ieq (ae (ad ⟨false,[],[]⟩ t) (mu (rw' (rI a i)) (rw' (rI b i)))) 0)then some (.inr (.r,⟨[vi (ae (ad ⟨false,[],[]⟩ t) (mu (rw' (rI a i)) (rw' (rI b i))))],[],[[.v (.bool false),.v (Value.slice none 0 0),.v (Value.slice none 0 0)]]⟩))else nx i (.inl ⟨[.ls .a zL a,.ls .a zL b,vn n,vn (i+1)],[],[[.v (.bool false),.v (Value.slice none 0 0),.v (Value.slice none 0 0)]]⟩))else nx i (.inl ⟨[.ls .a zL a,.ls .a zL b,vn n,vn (i+1)],[],[[.v (.bool ((ad (ad ⟨false,[],[]⟩ t) (mu (rw' (rI a i)) (rw' (rI b i)))).1)),.ls .n .lim ((ad (ad ⟨false,[],[]⟩ t) (mu (rw' (rI a i)) (rw' (rI b i)))).2),.ls .n .lim ((ad (ad ⟨false,[],[]⟩ t) (mu (rw' (rI a i)) (rw' (rI b i)))).3)]]⟩)))))else some (.inr (.x 0,⟨[],[],[[.v (.bool t.1),.ls .n .lim t.2,.ls .n .lim t.3]]⟩)):=by kernel_rfl
section
variable (ad mu:Raw→Raw→Raw)(ae me:Raw→Raw→Int)
abbrev xI(l:List Rt)(i:Nat):Raw:=rw' (rI l i)
def gDt(a b:List Rt)(i:Nat)(t:Raw):Raw⊕(Raw⊕Int):=bif !ieq (me (xI a i) (xI b i)) 0 then .inr (.inr (me (xI a i) (xI b i)))else(bif !ieq (ae r0 t) 0 then .inr (.inr (ae r0 t))else(bif !ieq (ae (ad r0 t) (mu (xI a i) (xI b i))) 0 then .inr (.inr (ae (ad r0 t) (mu (xI a i) (xI b i))))else .inl (ad (ad r0 t) (mu (xI a i) (xI b i)))))
def dtF(a b:List Rt):Raw⊕Int:=fol (gDt ad mu ae me a b) .inl a.length 0 r0
def qYy(a b:List Rt):Nat→Raw→Hs
 | 0,_=>iDz a b a.length 0
 | i+1,t=>iDt a b a.length (i+1) t
abbrev z3:List T:=[.v (.bool false),.v (.slice none 0 0),.v (.slice none 0 0)]
abbrev n3(t:Raw):List T:=[.v (.bool t.1),.ls .n .lim t.2,.ls .n .lim t.3]
def qSt:Raw⊕Int→Ex×Hs
 | .inl t=>(.x 0,⟨[],[],[n3 t]⟩)
 | .inr e=>(.r,⟨[vi e],[],[z3]⟩)
theorem lpDt{a b:List Rt}(q:0<a.length)(w:a.length<9223372036854775807)(H:a.length≤b.length):lpF (zAg (ODt ad mu ae me) (loT [])) a.length (iDz a b a.length 0)=some (qSt (dtF ad mu ae me a b)):=
 jV (st:=zAg (ODt ad mu ae me) (loT [])) (iv:=qYy a b) (g:=gDt ad mu ae me a b) (d:= .inl) (out:=qSt) (n:=a.length) (fun i t=>i=0→t=r0)
  (fun i t k j=>by
   cases i with
   | zero=>
    obtain rfl:=j rfl;show zAg (ODt ad mu ae me) (loT []) (iDz a b a.length 0)=_;rw[sDz];unfold gDt;have f:ilt (.ofNat 0) (.ofNat a.length)=true:=zO q;rw[f];simp only[gd,zO q,zO (show 0<b.length by omega),ze,kK (show 0+1<9223372036854775808 by omega)]
    cases ieq (me (xI a 0) (xI b 0)) 0 with
    | false=>rfl
    | true=>
     simp only[zu,zf];cases ieq (ae r0 r0) 0 with
     | false=>rfl
     | true=>
      simp only[zu,zf];cases ieq (ae (ad r0 r0) (mu (xI a 0) (xI b 0))) 0<;>rfl
   | succ i=>
    show zAg (ODt ad mu ae me) (loT []) (iDt a b a.length (i+1) t)=_;rw[sDt];unfold gDt;have f:ilt (.ofNat (i+1)) (.ofNat a.length)=true:=zO k;rw[f];simp only[gd,zO k,zO (show i+1<b.length by omega),ze,kK (show i+1+1<9223372036854775808 by omega)]
    cases ieq (me (xI a (i+1)) (xI b (i+1))) 0 with
    | false=>rfl
    | true=>
     simp only[zu,zf];cases ieq (ae r0 t) 0 with
     | false=>rfl
     | true=>
      simp only[zu,zf];cases ieq (ae (ad r0 t) (mu (xI a (i+1)) (xI b (i+1)))) 0<;>rfl)
  (fun i t z k j y e=>by omega)
  (fun t j=>by
   obtain⟨m,hm⟩:∃m,a.length=m+1:=⟨a.length-1,by omega⟩
   show zAg (ODt ad mu ae me) (loT []) (qYy a b a.length t)=_;have e:qYy a b a.length t=iDt a b a.length a.length t:=by
    rw[hm];show iDt a b a.length (m+1) t=_;rw[hm]
   rw[e,sDt];show(bif Nat.blt a.length a.length then _ else _)=_;rw[jU (zq _),zf];rfl) a.length 0 r0 (by omega) (fun _=>rfl)
def hDt:Hs→DT (Ex×Hs)
 | ⟨[.ls .a (.prod .bool (.prod (.list .lim) (.list .lim))) a,.ls .a (.prod .bool (.prod (.list .lim) (.list .lim))) b,.v (.int .i64 (.ofNat n)),.v (.int .i64 (.ofNat 0))],[],[[.v (.bool false),.v (.slice none 0 0),.v (.slice none 0 0)]]⟩=>grd (Nat.beq n a.length&&(Nat.ble a.length b.length&&Nat.blt a.length 9223372036854775807)) (.ite (Nat.blt 0 a.length) (.ite (isL (dtF ad mu ae me a b)) (.ret (.x 0,⟨[],[],[n3 (rL (dtF ad mu ae me a b))]⟩)) (.ret (.r,⟨[vi (eL (dtF ad mu ae me a b))],[],[z3]⟩))) (.ret (.x 0,⟨[],[],[z3]⟩)))
 | _=> .no
theorem qYa:∀q y,(hDt ad mu ae me q).run=some y→∃n,It (zAg (ODt ad mu ae me) (loT [])) n q y:=fun q y h=>by
 unfold hDt at h;split at h
 ·rename_i a b n;obtain⟨j,e⟩:=zR h;simp only[zd,qv]at j;obtain⟨w,z,A⟩:=j;obtain rfl:=zV w;cases f:Nat.blt 0 a.length with
  | true=>
   have:=kY _ _ (lpDt ad mu ae me (jL f) (jL A) z);simp only[DT.run,f,ze]at e;cases B:dtF ad mu ae me a b<;>rw[B]at e this<;>cases e<;>exact this
  | false=>
   simp only[DT.run,f,zf]at e;cases e;refine⟨0,.out ?_⟩;show zAg (ODt ad mu ae me) (loT []) (iDz a b a.length 0)=_;have k:ilt (.ofNat 0) (.ofNat a.length)=false:=f;rw[sDz,k];rfl
 ·cases h
abbrev LDt:Lo:=loT [(70,[false,true,false,true,true],Ldt.row (hDt ad mu ae me))]
end
theorem eDt(ad mu:Raw→Raw→Raw)(ae me:Raw→Raw→Int)(a b:List Rt):((qC Tryz.prog (evD Tryz.prog (ODt ad mu ae me) (LDt ad mu ae me) 60) 70 [.ls .a zL a,.ls .a zL b] []).bind qF).run=bif !(ieq (.ofNat a.length) (.ofNat b.length))then some (.tu [.ag [.v (.bool false),.v (Value.slice none 0 0),.v (Value.slice none 0 0)],vn 16],true)else gd ((Nat.beq a.length a.length)&&((Nat.ble a.length b.length)&&(Nat.blt a.length 9223372036854775807))) (bif Nat.blt 0 a.length then(bif isL (dtF ad mu ae me a b)then some (.tu [.ag [.v (.bool ((rL (dtF ad mu ae me a b)).1)),.ls .a .lim ((rL (dtF ad mu ae me a b)).2),.ls .a .lim ((rL (dtF ad mu ae me a b)).3)],vn 0],true)else some (.tu [.ag [.v (.bool false),.v (Value.slice none 0 0),.v (Value.slice none 0 0)],vi (eL (dtF ad mu ae me a b))],true))else some (.tu [.ag [.v (.bool false),.v (Value.slice none 0 0),.v (Value.slice none 0 0)],vn 0],true)):=by kernel_rfl
theorem zMk(a:Raw):0≤a.chk:=by unfold Raw.chk;split;decide;split;decide;split<;>decide
theorem qHx{x y:Int}(e:0≤x)(f:0≤y):0≤or2 x y:=by unfold or2;split<;>assumption
theorem zNr(a b:Raw)(x:Rat):0≤opE a b x:=qHx (qHx (zMk a) (zMk b)) (by unfold lX;split<;>decide)
abbrev pE(e:Int):Nat:=e.toNat-1
theorem qIh{e:Int}(h:0<e):Int.ofNat (pE e+1)=e:=by
 obtain⟨n,rfl⟩:=jh (vy h);show Int.ofNat ((n:Int).toNat-1+1)=_;rw[wj,yb (by omega)];rfl
theorem qJx{B:Bm}{r:Rd}{t:T}{v:Value}(h:Rep B r (.tu [.ag z3,t]) v):Rep B r (.tu [.ag (rC r0),t]) v:=by
 obtain⟨vs,rfl,j⟩:=h.tuI;match vs,j with
 | [a,b],⟨q,w,_⟩=>
  refine Rep.mkTu (vs:=[a,b]) ⟨?_,w,trivial⟩;obtain⟨us,rfl,f⟩:=q.agI;match us,f with
  | [c,d,e],⟨g1,g2,k,_⟩=>exact Rep.mkAg (vs:=[c,d,e]) ⟨g1,zDg g2,zDg k,trivial⟩
section
variable (ad mu:Raw→Raw→Raw)(ae me:Raw→Raw→Int)
def zGe(a b:List Rt):Bool:=Nat.beq a.length b.length&&isL (dtF ad mu ae me a b)
def dtR(a b:List Rt):Raw:=bif zGe ad mu ae me a b then rL (dtF ad mu ae me a b)else r0
def dtE(a b:List Rt):Int:=bif Nat.beq a.length b.length then eL (dtF ad mu ae me a b)else 16
def dtP(a b:List Rt):Nat:=pE (dtE ad mu ae me a b)
theorem qMe(j:∀x y,0≤ae x y)(w:∀x y,0≤me x y){a b:List Rt}:∀{e:Int},dtF ad mu ae me a b= .inr e→0<e:=by
 have:=xG (g:=gDt ad mu ae me a b) (d:= .inl) (J:=fun _=>True) (R:=fun y=>∀e,y= .inr e→0<e) (fun _ _ _ _ _=>trivial)
  (fun i t y _ f e he=>by
   subst he;unfold gDt at f;have pos:∀z:Int,0≤z→ieq z 0=false→0<z:=fun z k q=>by
    rcases y8 k with h | h
    ·exact h
    ·subst h;cases q
   cases k:ieq (me (xI a i) (xI b i)) 0<;>rw[k]at f
   ·cases f;exact pos _ (w _ _) k
   ·cases q:ieq (ae r0 t) 0<;>rw[q]at f
    ·cases f;exact pos _ (j _ _) q
    ·cases A:ieq (ae (ad r0 t) (mu (xI a i) (xI b i))) 0<;>rw[A]at f
     ·cases f;exact pos _ (j _ _) A
     ·cases f)
  (fun _ _ e he=>by cases he) a.length 0 r0 trivial
 intro e he;exact this e he
end
abbrev zU:List Rt→List Rt→Bool:=zGe adA muA aeA meA
abbrev qL:List Rt→List Rt→Raw:=dtR adA muA aeA meA
abbrev qZ:List Rt→List Rt→Nat:=dtP adA muA aeA meA
theorem qHd:vD Tryz.prog (ODt adA muA aeA meA):=zS (zS jZ fun e f j h k=>kN qNn e f h k) fun e f j h k=>kN qFw e f h k
theorem qZs:wC Tryz.prog (LDt adA muA aeA meA):=jO zZ (kL yE qHd zZ 60) qUf (qYa adA muA aeA meA)
theorem kDot:∀K R Q,(qI zU qL qZ K).run=some (R,Q)→∀k,KnP Tryz.prog k 70 K R Q:=by
 intro K R Q J k;unfold qI at J;split at J
 ·rename_i a b;obtain⟨h1,f⟩:=zR J;simp only[zd,qv]at h1;have q:=eDt adA muA aeA meA a b;have fin:∀{A:T}{E:Bool},((qC Tryz.prog (evD Tryz.prog (ODt adA muA aeA meA) (LDt adA muA aeA meA) 60) 70 [.ls .a zL a,.ls .a zL b] []).bind qF).run=some (A,E)→([T.ls .a zL a,.ls .a zL b].all (clean 12)&&clean 12 A)=true→KnP Tryz.prog k 70 [.ls .a zL a,.ls .a zL b] A E:=fun e hc=>yM (cz:=[.ls .a zL a,.ls .a zL b]) yE qHd qZs e hc k;simp only[DT.run]at f;cases z:Nat.beq a.length b.length with
  | false=>
   have M:ieq (.ofNat a.length) (.ofNat b.length)=false:=z;have j:zU a b=false:=by simp only[zU,zGe,z,uF]
   have y:qL a b=r0:=by unfold qL dtR;rw[show zGe adA muA aeA meA a b=false from j];rfl
   have N:Int.ofNat (qZ a b+1)=16:=by unfold qZ dtP dtE;rw[z];rfl
   rw[M]at q;rw[j,y,N]at f;cases f;exact(fin q rfl).res fun B r v h=>qJx h
  | true=>
   have M:ieq (.ofNat a.length) (.ofNat b.length)=true:=z;have hl':=zV z;have e5:Nat.beq a.length a.length=true:=jD _;rw[M,e5,yK (show a.length≤b.length by omega),zO (show a.length<9223372036854775807 by omega)]at q
   simp only[gd,zu,zf,jf,ze]at q;have j:zU a b=isL (dtF adA muA aeA meA a b):=by simp only[zU,zGe,z,xp]
   cases G:Nat.blt 0 a.length with
   | false=>
    rw[G]at q;have e0:a.length=0:=by
     rcases jp a.length with e | e
     ·exact e
     ·rw[zO e]at G;cases G
    have X:dtF adA muA aeA meA a b= .inl r0:=by unfold dtF;rw[e0];rfl
    have y:qL a b=r0:=by unfold qL dtR;rw[X];cases zGe adA muA aeA meA a b<;>rfl
    rw[j,y,X]at f;cases f;exact(fin q rfl).res fun B r v h=>qJx h
   | true=>
    rw[G]at q;cases w:dtF adA muA aeA meA a b with
    | inl t=>
     have y:qL a b=t:=by unfold qL dtR;rw[show zGe adA muA aeA meA a b=isL (dtF adA muA aeA meA a b)from j,w];rfl
     rw[w]at q;rw[j,y,w]at f;cases f;exact fin q rfl
    | inr e=>
     have y:qL a b=r0:=by unfold qL dtR;rw[show zGe adA muA aeA meA a b=isL (dtF adA muA aeA meA a b)from j,w];rfl
     have he:0<e:=qMe adA muA aeA meA (fun _ _=>zNr _ _ _) (fun _ _=>zNr _ _ _) w;have N:Int.ofNat (qZ a b+1)=e:=by
      unfold qZ dtP dtE;rw[z,w];exact qIh he
     rw[w]at q;rw[j,y,w,N]at f;cases f;exact(fin q rfl).res fun B r v h=>qJx h
 ·cases J
theorem kFrT:KC Tryz.prog 47 (fun f=>(vH frA f).run) true:=by
 have e:(fun f=>(vH frA f).run)=pI frA:=funext fun f=>by
  unfold vH pI;split
  ·rename_i n;show(bif rF n then _ else _)=_;rfl
  ·rename_i h;split
   ·rename_i n;exact absurd rfl (h n)
   ·rfl
 rw[e];exact zQk
abbrev zbA(b:Raw):Bool:=Nat.beq (val b.ln) 0
abbrev dvE(a b:Raw):Int:=opE a b (a.rat / b.rat)
abbrev dvR(a b:Raw):Raw:=opR a b (a.rat / b.rat)
abbrev yS(a b:Raw):Bool:=ieq (dvE a b) 0
abbrev dvP(a b:Raw):Nat:=pE (dvE a b)
theorem jEg:KC Tryz.prog 80 (fun f=>(yH zbA yS dvR dvP f).run) true:=by
 have e:(fun f=>(yH zbA yS dvR dvP f).run)=pRR fun a b=>bif Nat.beq (val b.ln) 0 then none else some (opR a b (a.rat / b.rat),opE a b (a.rat / b.rat)):=funext fun f=>by
  unfold yH pRR;split
  ·rename_i a b;cases k:Nat.beq (val b.ln) 0 with
   | true=>
    show(bif !(Nat.beq (val b.ln) 0)then _ else _)=match(bif Nat.beq (val b.ln) 0 then none else some (dvR a b,dvE a b))with | some (c,e)=>some (Rs.tup [.r c,.i e]) | none=>none
    rw[k];rfl
   | false=>
    show(bif !(Nat.beq (val b.ln) 0)then _ else _)=match(bif Nat.beq (val b.ln) 0 then none else some (dvR a b,dvE a b))with | some (c,e)=>some (Rs.tup [.r c,.i e]) | none=>none
    rw[k];simp only[qy,ze,zf,DT.run];cases h:yS a b with
    | true=>have j:dvE a b=0:=qH.1 h;rw[j];rfl
    | false=>
     have j:0<dvE a b:=by
      rcases y8 (zNr a b (a.rat / b.rat))with g | g
      ·exact g
      ·rw[show yS a b=true from xK g.symm]at h;cases h
     simp only[zf,dvP,qIh j]
  ·rename_i h;split
   ·rename_i a b;exact absurd rfl (h a b)
   ·rfl
 rw[e];exact kDiv
theorem bnn{b:Bool}{x y:Int}(e:0≤x)(f:0≤y):0≤(bif b then x else y):=by cases b<;>assumption
theorem qEo{β:Type}{g:Nat→Unit→Unit⊕Option Int}(f:∀i e,g i ()= .inr (some e)→0≤e)(k i:Nat):0≤eN (fol g (fun _=>none) k i ()):=by
 have:=xG (g:=g) (d:=fun _=>none) (J:=fun _=>True) (R:=fun y=>0≤eN y) (fun _ _ _ _ _=>trivial) (fun i a y _ j=>by
  cases y with
  | none=>exact kp 0
  | some e=>exact f i e j) (fun _ _=>kp 0) k i () trivial
 exact this
theorem qYq(g:List (List Int)):0≤icE g:=by
 have h:0≤eN (c0F g):=qEo (β:=Unit) (fun i e f=>by
  unfold gC0 at f;cases j:ieq (.ofNat (gI g i).length) (.ofNat 0)<;>rw[j]at f
  ·cases k:ilt (.ofNat 32) (.ofNat (gI g i).length)<;>rw[k]at f
   ·cases q:c1F (gI g i) (gI g i)<;>rw[q]at f<;>cases f;decide
   ·cases f;decide
  ·cases f;decide) g.length 0
 unfold icE
 repeat' first | assumption | exact bnn (by decide) (by decide) | apply bnn | decide
theorem zMn(x:Raw):0≤crA x:=by
 have h:=zMk x;unfold crA crE
 repeat' first | assumption | apply bnn | decide
theorem qDw(l:List Nz):0≤cnA l:=by
 have h:0≤eL (cnF crA adA l l):=by
  have:=xG (g:=gCn crA adA l l) (d:= .inl) (J:=fun _=>True) (R:=fun y=>0≤eL y) (fun _ _ _ _ _=>trivial) (fun i a y _ e=>by
   unfold gCn at e;cases f:yD (-100) 100 [(zI l i).1]<;>rw[f]at e
   ·cases e;decide
   ·cases j:(ilt (.ofNat 0) (.ofNat i)&&!ilt (zI l (i-1)).1 (zI l i).1)<;>rw[j]at e
    ·cases k:ieq (crA (rw' (zI l i).2)) 0<;>rw[k]at e
     ·cases e;exact zMn _
     ·cases q:(zI l i).2.1<;>rw[q]at e
      ·cases w:ieq (.ofNat (zI l i).2.2.1.length) (.ofNat 0)<;>rw[w]at e<;>cases e;decide
      ·cases e;decide
    ·cases e;decide) (fun _ _=>kp 0) l.length 0 r0 trivial
  exact this
 unfold cnA cnE
 repeat' first | assumption | apply bnn | decide
theorem qVz(h o t:List Int)(G:List Bd)(P D S:Int)(O U:List Nz)(C st V:Raw):0≤dcA h o t G P D S O U C st V:=by
 have j:=qYq [h,o,t];have k:=qDw O;have q:=qDw U;have w:=zMn C;have y:=zMn st;have z:=zMn V;have A:0≤eN (dvF (dr1 G)):=qEo (β:=Unit) (fun i e f=>by
  unfold gDc at f;cases j:(!ieq (bI (dr1 G) i).1 1&&!ieq (bI (dr1 G) i).1 2)<;>rw[j]at f
  ·cases k:ilt (bI (dr1 G) i).2.2 (bI (dr1 G) i).2.1<;>rw[k]at f
   ·cases q:yD (-100) 100 [(bI (dr1 G) i).2.1,(bI (dr1 G) i).2.2]<;>rw[q]at f<;>cases f;decide
   ·cases f;decide
  ·cases f;decide) _ 0
 unfold dcA dcE
 repeat' first | assumption | apply bnn | decide
theorem jBm(h o t:List Int)(G:List Bd)(P D S:Int)(O U:List Nz)(C st V:Raw)(Z:Int)(F I:List (List Int)):0≤pcA h o t G P D S O U C st V Z F I:=by
 have f:=qVz h o t G P D S O U C st V;have j:0≤eU (p0F (szA h o t G P D S O U C st V) F I (0,true)):=by
  have:=xG (g:=gP0 (szA h o t G P D S O U C st V) F I) (d:= .inl) (J:=fun _=>True) (R:=fun y=>0≤eU y) (fun _ _ _ _ _=>trivial) (fun i a y _ e=>by
   unfold gP0 at e;cases f:ieq (.ofNat (gI I i).length) (szA h o t G P D S O U C st V)<;>rw[f]at e
   ·cases e;decide
   ·cases j:isS (p1F F (gI I i) a)<;>rw[j]at e<;>cases e;decide) (fun _ _=>kp 0) I.length 0 (0,true) trivial
  exact this
 have k:0≤eM (p2F kyF F G):=by
  have:=xG (g:=gP2 kyF F G) (d:= .inl) (J:=fun _=>True) (R:=fun y=>0≤eM y) (fun _ _ _ _ _=>trivial) (fun i a y _ e=>by
   unfold gP2 at e;cases f:ieq (.ofNat (gI F i).length) (.ofNat G.length)<;>rw[f]at e
   ·cases e;decide
   ·cases j:p3F (gI F i)<;>rw[j]at e<;>cases e;decide) (fun _ _=>kp 0) F.length 0 [] trivial
  exact this
 unfold pcA pcE
 repeat' first | assumption | apply bnn | decide
abbrev yP(h o t:List Int)(G:List Bd)(P D S:Int)(O U:List Nz)(C st V:Raw)(Z:Int)(F I:List (List Int)):Bool:=ieq (pcA h o t G P D S O U C st V Z F I) 0
abbrev pPA(h o t:List Int)(G:List Bd)(P D S:Int)(O U:List Nz)(C st V:Raw)(Z:Int)(F I:List (List Int)):Nat:=pE (pcA h o t G P D S O U C st V Z F I)
theorem jBk(h o t:List Int)(G:List Bd)(P D S:Int)(O U:List Nz)(C st V:Raw)(Z:Int)(F I:List (List Int))(e:yP h o t G P D S O U C st V Z F I=false):Int.ofNat (pPA h o t G P D S O U C st V Z F I+1)=pcA h o t G P D S O U C st V Z F I:=by
 refine qIh ?_;rcases y8 (jBm h o t G P D S O U C st V Z F I)with g | g
 ·exact g
 ·rw[show yP h o t G P D S O U C st V Z F I=true from xK g.symm]at e;cases e
theorem kPcX:∀j y w,(xN yP pPA j).run=some (y,w)→∀k,KnP Tryz.prog k 61 j y w:=by
 intro j y w q k;refine kPc j y w ?_ k;unfold xN at q;unfold oPc;split at q
 ·rename_i h o t G P D S O U z C A K sl M B E J Z F I;obtain⟨N,f⟩:=zR q;simp only[grd,DT.run,N,ze];simp only[DT.run]at f;cases e:yP h o t G P D S O U ⟨z,C,A⟩ ⟨K,sl,M⟩ ⟨B,E,J⟩ Z F I with
  | true=>
   rw[e]at f;rw[show pcA h o t G P D S O U ⟨z,C,A⟩ ⟨K,sl,M⟩ ⟨B,E,J⟩ Z F I=0 from qH.1 e];exact f
  | false=>
   rw[e]at f;simp only[zf]at f;rw[←jBk h o t G P D S O U ⟨z,C,A⟩ ⟨K,sl,M⟩ ⟨B,E,J⟩ Z F I e];exact f
 ·cases q
theorem kWgX(m:Nat):∀f w q,(vK m wgA f).run=some (w,q)→∀k,KnP Tryz.prog k 78 f w q:=by
 intro f w q j k;refine kWg f w q ?_ k;unfold vK at j;unfold oWg;split at j
 ·rename_i h o t A B E;obtain⟨y,z⟩:=zR j;simp only[zd]at y;have e:=zTw (wgA h o t A B E) m 0 (by rw[←zV y.1];omega)
  rw[xd]at e;rw[e]at z;show some _=some _;rw[show icE [h,o,t]=0 from qH.1 y.2];exact z
 ·cases j
theorem qIb(m:Nat):vD Tryz.prog (odT [(61,odR [tbT] (xN yP pPA)),(78,odR [.list (.list nT),.list nT] (vK m wgA)),(47,kcT (vH frA) true),(70,odR [.list zL,.list zL] (qI zU qL qZ)),(80,kcT (yH zbA yS dvR dvP) true)]):=zS (zS (zS (zS (zS jZ fun e j f h k=>zUe jEg e j f h k) (jI kDot)) fun e j f h k=>zUe kFrT e j f h k) (jI (kWgX m))) (jI kPcX)
theorem eLk0(okP:TF Bool)(pP:TF Nat)(h o t:List Int)(G:List Bd)(P D S:Int)(O U:List Nz)(C st V:Raw)(Z:Int)(F I:List (List Int))(L H W vq Y:Int):((qC Tryz.prog (evD Tryz.prog (odT [(61,odR [tbT] (xN okP pP)),(78,fun _=> .no)]) (loT []) 60) 32 [.ag (tbC h o t G P D S O U C st V Z F I),vi L,vi H,vi W,vi vq,vi Y] []).bind qF).run=gd (Nat.blt F.length 9223372036854775807) (bif okP h o t G P D S O U C st V Z F I then(bif ilt L (.ofNat 1)then some (.tu [.v (Value.slice none 0 0),vn 1],true)else(bif ilt S L then some (.tu [.v (Value.slice none 0 0),vn 1],true)else(bif !(ilt H (i64.wrap (0-100000)))then(bif !(!(ilt 100000 H))then some (.tu [.v (Value.slice none 0 0),vn 1],true)else(bif !(ilt W ((-100)))then(bif !(!(ilt 100 W))then some (.tu [.v (Value.slice none 0 0),vn 1],true)else(bif !(ilt vq ((-100)))then(bif !(!(ilt 100 vq))then some (.tu [.v (Value.slice none 0 0),vn 1],true)else(bif ilt Y (.ofNat 0)then some (.tu [.v (Value.slice none 0 0),vn 8],true)else gd (!(ilt Y (.ofNat G.length))) (some (.tu [.v (Value.slice none 0 0),vn 8],true))))else some (.tu [.v (Value.slice none 0 0),vn 1],true)))else some (.tu [.v (Value.slice none 0 0),vn 1],true)))else some (.tu [.v (Value.slice none 0 0),vn 1],true))))else some (.tu [.v (Value.slice none 0 0),vn ((pP h o t G P D S O U C st V Z F I)+1)],true)):=by kernel_rfl
abbrev wiN(x e:Int)(E K:Nat):Nat:=bif !ilt x (-e)then(bif !(!ilt e x)then E else K)else E
section
variable (okP:TF Bool)(pP:TF Nat)
def lkC(h o t:List Int)(G:List Bd)(P D S:Int)(O U:List Nz)(C st V:Raw)(Z:Int)(F I:List (List Int))(L H W vq Y:Int):Nat:=bif okP h o t G P D S O U C st V Z F I then(bif ilt L (.ofNat 1)then 1 else(bif ilt S L then 1 else wiN H 100000 1 (wiN W 100 1 (wiN vq 100 1 (bif ilt Y (.ofNat 0)then 8 else(bif !ilt Y (.ofNat G.length)then 8 else 0))))))else pP h o t G P D S O U C st V Z F I+1
theorem qZw(h o t:List Int)(G:List Bd)(P D S:Int)(O U:List Nz)(C st V:Raw)(Z:Int)(F I:List (List Int))(L H W vq Y:Int)(K:F.length<9223372036854775807)(e:Nat.beq (lkC okP pP h o t G P D S O U C st V Z F I L H W vq Y) 0=false):((qC Tryz.prog (evD Tryz.prog (odT [(61,odR [tbT] (xN okP pP)),(78,fun _=> .no)]) (loT []) 60) 32 [.ag (tbC h o t G P D S O U C st V Z F I),vi L,vi H,vi W,vi vq,vi Y] []).bind qF).run=er (lkC okP pP h o t G P D S O U C st V Z F I L H W vq Y):=by
 have f:ilt H (i64.wrap (0-100000))=ilt H (-100000):=rfl;rw[eLk0,f];unfold lkC at e ⊢;simp only[gd,zO K,ze];cases j:okP h o t G P D S O U C st V Z F I with
 | false=>rfl
 | true=>
  rw[j]at e;simp only[ze]at e ⊢;cases k:ilt L (.ofNat 1)with
  | true=>rfl
  | false=>
   cases q:ilt S L with
   | true=>rfl
   | false=>
    rw[k,q]at e;simp only[zf,wiN]at e ⊢;cases w:ilt H (-100000)with
    | true=>rfl
    | false=>
     cases y:ilt 100000 H with
     | true=>rfl
     | false=>
      rw[w,y]at e;simp only[qy,zu,ze,zf]at e ⊢;cases z:ilt W (-100)with
      | true=>rfl
      | false=>
       cases A:ilt 100 W with
       | true=>rfl
       | false=>
        rw[z,A]at e;simp only[qy,zu,ze,zf]at e ⊢;cases B:ilt vq (-100)with
        | true=>rfl
        | false=>
         cases E:ilt 100 vq with
         | true=>rfl
         | false=>
          rw[B,E]at e;simp only[qy,zu,ze,zf]at e ⊢;cases J:ilt Y (.ofNat 0)with
          | true=>rfl
          | false=>
           rw[J]at e;cases ha:ilt Y (.ofNat G.length)with
           | false=>rfl
           | true=>rw[ha]at e;cases e
theorem zXk(h o t:List Int)(G:List Bd)(P D S:Int)(O U:List Nz)(C st V:Raw)(Z:Int)(F I:List (List Int))(L H W vq Y:Int)(e:Nat.beq (lkC okP pP h o t G P D S O U C st V Z F I L H W vq Y) 0=true):okP h o t G P D S O U C st V Z F I=true∧1≤L∧L≤S∧0≤Y∧Y<(G.length:Int)∧∀(wg:List Int→List Int→List Int→Int→Int→Int→List Nz)(fr:Int→Raw)(okD:List Rt→List Rt→Bool)(dR:List Rt→List Rt→Raw)(dP:List Rt→List Rt→Nat)(zb:Raw→Bool)(okV:Raw→Raw→Bool)(vR:Raw→Raw→Raw)(vP:Raw→Raw→Nat)(m:Nat),F.length<9223372036854775807→scA okP pP wg fr okD dR dP zb okV vR vP m G.length h o t G P D S O U C st V Z F I L H W vq Y=gd (Nat.beq (wg h o t H W vq).length m&&ieq (icE [h,o,t]) 0) (scL fr okD dR dP zb okV vR vP Z F I L (.ofNat G.length) Y (exL (wg h o t H W vq) m 0) G.length 0 []):=by
 unfold lkC at e;cases z:okP h o t G P D S O U C st V Z F I with
 | false=>rw[z]at e;cases e
 | true=>
  rw[z]at e;cases f:ilt L (.ofNat 1)with
  | true=>rw[f]at e;cases e
  | false=>
   cases j:ilt S L with
   | true=>rw[f,j]at e;cases e
   | false=>
    rw[f,j]at e;simp only[ze,zf,wiN]at e;cases k:ilt H (-100000)with
    | true=>rw[k]at e;cases e
    | false=>
     cases A:ilt 100000 H with
     | true=>rw[k,A]at e;cases e
     | false=>
      rw[k,A]at e;simp only[qy,zu,ze,zf]at e;cases q:ilt W (-100)with
      | true=>rw[q]at e;cases e
      | false=>
       cases B:ilt 100 W with
       | true=>rw[q,B]at e;cases e
       | false=>
        rw[q,B]at e;simp only[qy,zu,ze,zf]at e;cases w:ilt vq (-100)with
        | true=>rw[w]at e;cases e
        | false=>
         cases E:ilt 100 vq with
         | true=>rw[w,E]at e;cases e
         | false=>
          rw[w,E]at e;simp only[qy,zu,ze,zf]at e;cases y:ilt Y (.ofNat 0)with
          | true=>rw[y]at e;cases e
          | false=>
           rw[y]at e;cases ha:ilt Y (.ofNat G.length)with
           | false=>rw[ha]at e;cases e
           | true=>
            refine⟨rfl,vF f,vF j,vF y,tL.1 ha,fun wg fr okD dR dP zb okV vR vP m J=>?_⟩;unfold scA;simp only[gd,zO J,ze,z,f,j,wiK,k,A,q,B,w,E,y,ha,qy,zu,zf]
end
theorem qXe(h o t:List Int)(G:List Bd)(P D S:Int)(O U:List Nz)(C st V:Raw)(Z:Int)(F I:List (List Int))(L H W vq Y:Int)(w:1≤G.length)(y:G.length≤6):((qC Tryz.prog (evD Tryz.prog (odT [(61,odR [tbT] (xN yP pPA)),(78,odR [.list (.list nT),.list nT] (vK 1 wgA)),(47,kcT (vH frA) true),(70,odR [.list zL,.list zL] (qI zU qL qZ)),(80,kcT (yH zbA yS dvR dvP) true)]) (loT []) 60) 32 [.ag (tbC h o t G P D S O U C st V Z F I),vi L,vi H,vi W,vi vq,vi Y] []).bind qF).run=scA yP pPA wgA frA zU qL qZ zbA yS dvR dvP 1 G.length h o t G P D S O U C st V Z F I L H W vq Y:=by
 match G,w,y with
 | [a0],_,_=>exact qWg yP pPA wgA frA zU qL qZ zbA yS dvR dvP h o t P D S O U C st V Z F I L H W vq Y a0
 | [a0,e],_,_=>exact qWh yP pPA wgA frA zU qL qZ zbA yS dvR dvP h o t P D S O U C st V Z F I L H W vq Y a0 e
 | [a0,e,f],_,_=>exact qWi yP pPA wgA frA zU qL qZ zbA yS dvR dvP h o t P D S O U C st V Z F I L H W vq Y a0 e f
 | [a0,e,f,j],_,_=>exact qWj yP pPA wgA frA zU qL qZ zbA yS dvR dvP h o t P D S O U C st V Z F I L H W vq Y a0 e f j
 | [a0,e,f,j,k],_,_=>exact qWk yP pPA wgA frA zU qL qZ zbA yS dvR dvP h o t P D S O U C st V Z F I L H W vq Y a0 e f j k
 | [a0,e,f,j,k,q],_,_=>exact qWl yP pPA wgA frA zU qL qZ zbA yS dvR dvP h o t P D S O U C st V Z F I L H W vq Y a0 e f j k q
 | a0::e::f::j::k::q::z::l,_,h=>simp only[qf]at h;omega
theorem qXf(h o t:List Int)(G:List Bd)(P D S:Int)(O U:List Nz)(C st V:Raw)(Z:Int)(F I:List (List Int))(L H W vq Y:Int)(w:1≤G.length)(y:G.length≤6):((qC Tryz.prog (evD Tryz.prog (odT [(61,odR [tbT] (xN yP pPA)),(78,odR [.list (.list nT),.list nT] (vK 2 wgA)),(47,kcT (vH frA) true),(70,odR [.list zL,.list zL] (qI zU qL qZ)),(80,kcT (yH zbA yS dvR dvP) true)]) (loT []) 60) 32 [.ag (tbC h o t G P D S O U C st V Z F I),vi L,vi H,vi W,vi vq,vi Y] []).bind qF).run=scA yP pPA wgA frA zU qL qZ zbA yS dvR dvP 2 G.length h o t G P D S O U C st V Z F I L H W vq Y:=by
 match G,w,y with
 | [a0],_,_=>exact qWm yP pPA wgA frA zU qL qZ zbA yS dvR dvP h o t P D S O U C st V Z F I L H W vq Y a0
 | [a0,e],_,_=>exact qWn yP pPA wgA frA zU qL qZ zbA yS dvR dvP h o t P D S O U C st V Z F I L H W vq Y a0 e
 | [a0,e,f],_,_=>exact qWo yP pPA wgA frA zU qL qZ zbA yS dvR dvP h o t P D S O U C st V Z F I L H W vq Y a0 e f
 | [a0,e,f,j],_,_=>exact qWp yP pPA wgA frA zU qL qZ zbA yS dvR dvP h o t P D S O U C st V Z F I L H W vq Y a0 e f j
 | [a0,e,f,j,k],_,_=>exact qWq yP pPA wgA frA zU qL qZ zbA yS dvR dvP h o t P D S O U C st V Z F I L H W vq Y a0 e f j k
 | [a0,e,f,j,k,q],_,_=>exact qWr yP pPA wgA frA zU qL qZ zbA yS dvR dvP h o t P D S O U C st V Z F I L H W vq Y a0 e f j k q
 | a0::e::f::j::k::q::z::l,_,h=>simp only[qf]at h;omega
theorem qXg(h o t:List Int)(G:List Bd)(P D S:Int)(O U:List Nz)(C st V:Raw)(Z:Int)(F I:List (List Int))(L H W vq Y:Int)(w:1≤G.length)(y:G.length≤6):((qC Tryz.prog (evD Tryz.prog (odT [(61,odR [tbT] (xN yP pPA)),(78,odR [.list (.list nT),.list nT] (vK 4 wgA)),(47,kcT (vH frA) true),(70,odR [.list zL,.list zL] (qI zU qL qZ)),(80,kcT (yH zbA yS dvR dvP) true)]) (loT []) 60) 32 [.ag (tbC h o t G P D S O U C st V Z F I),vi L,vi H,vi W,vi vq,vi Y] []).bind qF).run=scA yP pPA wgA frA zU qL qZ zbA yS dvR dvP 4 G.length h o t G P D S O U C st V Z F I L H W vq Y:=by
 match G,w,y with
 | [a0],_,_=>exact qWs yP pPA wgA frA zU qL qZ zbA yS dvR dvP h o t P D S O U C st V Z F I L H W vq Y a0
 | [a0,e],_,_=>exact qWt yP pPA wgA frA zU qL qZ zbA yS dvR dvP h o t P D S O U C st V Z F I L H W vq Y a0 e
 | [a0,e,f],_,_=>exact qWu yP pPA wgA frA zU qL qZ zbA yS dvR dvP h o t P D S O U C st V Z F I L H W vq Y a0 e f
 | [a0,e,f,j],_,_=>exact qWv yP pPA wgA frA zU qL qZ zbA yS dvR dvP h o t P D S O U C st V Z F I L H W vq Y a0 e f j
 | [a0,e,f,j,k],_,_=>exact qWw yP pPA wgA frA zU qL qZ zbA yS dvR dvP h o t P D S O U C st V Z F I L H W vq Y a0 e f j k
 | [a0,e,f,j,k,q],_,_=>exact qWx yP pPA wgA frA zU qL qZ zbA yS dvR dvP h o t P D S O U C st V Z F I L H W vq Y a0 e f j k q
 | a0::e::f::j::k::q::z::l,_,h=>simp only[qf]at h;omega
theorem qXh(h o t:List Int)(G:List Bd)(P D S:Int)(O U:List Nz)(C st V:Raw)(Z:Int)(F I:List (List Int))(L H W vq Y:Int)(w:1≤G.length)(y:G.length≤6):((qC Tryz.prog (evD Tryz.prog (odT [(61,odR [tbT] (xN yP pPA)),(78,odR [.list (.list nT),.list nT] (vK 8 wgA)),(47,kcT (vH frA) true),(70,odR [.list zL,.list zL] (qI zU qL qZ)),(80,kcT (yH zbA yS dvR dvP) true)]) (loT []) 60) 32 [.ag (tbC h o t G P D S O U C st V Z F I),vi L,vi H,vi W,vi vq,vi Y] []).bind qF).run=scA yP pPA wgA frA zU qL qZ zbA yS dvR dvP 8 G.length h o t G P D S O U C st V Z F I L H W vq Y:=by
 match G,w,y with
 | [a0],_,_=>exact qWy yP pPA wgA frA zU qL qZ zbA yS dvR dvP h o t P D S O U C st V Z F I L H W vq Y a0
 | [a0,e],_,_=>exact qWz yP pPA wgA frA zU qL qZ zbA yS dvR dvP h o t P D S O U C st V Z F I L H W vq Y a0 e
 | [a0,e,f],_,_=>exact qXa yP pPA wgA frA zU qL qZ zbA yS dvR dvP h o t P D S O U C st V Z F I L H W vq Y a0 e f
 | [a0,e,f,j],_,_=>exact qXb yP pPA wgA frA zU qL qZ zbA yS dvR dvP h o t P D S O U C st V Z F I L H W vq Y a0 e f j
 | [a0,e,f,j,k],_,_=>exact qXc yP pPA wgA frA zU qL qZ zbA yS dvR dvP h o t P D S O U C st V Z F I L H W vq Y a0 e f j k
 | [a0,e,f,j,k,q],_,_=>exact qXd yP pPA wgA frA zU qL qZ zbA yS dvR dvP h o t P D S O U C st V Z F I L H W vq Y a0 e f j k q
 | a0::e::f::j::k::q::z::l,_,h=>simp only[qf]at h;omega
abbrev skA(Z:Int)(F I:List (List Int))(L f Y:Int)(j:List Nz)(k b:Nat)(e:List Raw):List Raw⊕Nat:=skL frA zU qL qZ yS dvR dvP Z F I L f Y j k b e
abbrev lkE(h o t:List Int)(G:List Bd)(P D S:Int)(O U:List Nz)(C st V:Raw)(Z:Int)(F I:List (List Int))(L H W vq Y:Int):Nat:=lkC yP pPA h o t G P D S O U C st V Z F I L H W vq Y
def lkR(h o t:List Int)(G:List Bd)(P D S:Int)(O U:List Nz)(C st V:Raw)(Z:Int)(F I:List (List Int))(L H W vq Y:Int):List Raw⊕Nat:=bif Nat.beq (lkE h o t G P D S O U C st V Z F I L H W vq Y) 0 then skA Z F I L (.ofNat G.length) Y (wgA h o t H W vq) G.length 0 []else .inr (lkE h o t G P D S O U C st V Z F I L H W vq Y)
def isR:List Raw⊕Nat→Bool
 | .inl _=>true
 | .inr _=>false
def lR:List Raw⊕Nat→List Rt
 | .inl l=>l.map toT
 | .inr _=>[]
def eR:List Raw⊕Nat→Nat
 | .inl _=>0
 | .inr e=>e
abbrev jN(h o t:List Int)(G:List Bd)(P D S:Int)(O U:List Nz)(C st V:Raw)(Z:Int)(F I:List (List Int))(L H W vq Y:Int):Bool:=isR (lkR h o t G P D S O U C st V Z F I L H W vq Y)
abbrev lkL(h o t:List Int)(G:List Bd)(P D S:Int)(O U:List Nz)(C st V:Raw)(Z:Int)(F I:List (List Int))(L H W vq Y:Int):List Rt:=lR (lkR h o t G P D S O U C st V Z F I L H W vq Y)
abbrev lkP(h o t:List Int)(G:List Bd)(P D S:Int)(O U:List Nz)(C st V:Raw)(Z:Int)(F I:List (List Int))(L H W vq Y:Int):Nat:=eR (lkR h o t G P D S O U C st V Z F I L H W vq Y)-1
def oLk(j:LF Bool)(A:LF (List Rt))(B:LF Nat):List T→DT (T×Bool)
 | [.ag [.ls .a (.int .i64) h,.ls .a (.int .i64) o,.ls .a (.int .i64) t,.ls .a (.prod (.int .u8) (.prod (.int .i64) (.int .i64))) G,.v (.int .i64 P),.v (.int .i64 D),.v (.int .i64 S),.ls .a (.prod (.int .i64) zL) O,.ls .a (.prod (.int .i64) zL) U,.v (.bool e),.ls .a .lim C,.ls .a .lim f,.v (.bool y),.ls .a .lim sl,.ls .a .lim z,.v (.bool k),.ls .a .lim q,.ls .a .lim w,.v (.int .i64 Z),.ls .a (.list (.int .i64)) F,.ls .a (.list (.int .i64)) I],.v (.int .i64 L),.v (.int .i64 H),.v (.int .i64 W),.v (.int .i64 vq),.v (.int .i64 Y)]=>grd (Nat.blt F.length 9223372036854775807) (.ite (j h o t G P D S O U ⟨e,C,f⟩ ⟨y,sl,z⟩ ⟨k,q,w⟩ Z F I L H W vq Y) (.ret (.tu [.ls .a zL (A h o t G P D S O U ⟨e,C,f⟩ ⟨y,sl,z⟩ ⟨k,q,w⟩ Z F I L H W vq Y),.v (.int .i64 (.ofNat 0))],true)) (.ret (.tu [.ls .a zL [],.v (.int .i64 (.ofNat (B h o t G P D S O U ⟨e,C,f⟩ ⟨y,sl,z⟩ ⟨k,q,w⟩ Z F I L H W vq Y+1)))],true)))
 | _=> .no
theorem qFa:∀l:List Raw,flR l=yA .a zL (l.map toT)
 | []=>rfl
 | x::l=>by
  show([.v (.bool x.neg),.ls .a .lim x.ln,.ls .a .lim x.ld]:List T)++flR l=qE .a zL (toT x)++yA .a zL (l.map toT);rw[qFa l];rfl
theorem zTi(k:Nat):∀l:List Raw,(flR l).all (clean (k+1))=true
 | []=>rfl
 | x::l=>by
  show(([.v (.bool x.neg),.ls .a .lim x.ln,.ls .a .lim x.ld]:List T)++flR l).all (clean (k+1))=true;rw[List.all_append,zTi k l];rfl
theorem zYr{okD:List Rt→List Rt→Bool}{dR:List Rt→List Rt→Raw}{dP:List Rt→List Rt→Nat}{okV:Raw→Raw→Bool}{vR:Raw→Raw→Raw}{vP:Raw→Raw→Nat}{fr:Int→Raw}{Z:Int}{F I:List (List Int)}{L q Y:Int}{f:List Nz}:∀(k b:Nat)(j:List Raw){e:Nat},skL fr okD dR dP okV vR vP Z F I L q Y f k b j= .inr e→1≤e
 | 0,_,_,_,h=>by cases h
 | k+1,b,j,e,h=>by
  simp only[skL]at h;cases H:sk1 fr okD dR dP okV vR vP Z F I L q Y f b with
  | inl x=>rw[H]at h;exact zYr k (b+1) _ h
  | inr y=>
   rw[H]at h;cases h;unfold sk1 at H;cases w:okD (scW f) (scV fr F I L q Y b f)<;>rw[w]at H
   ·cases H;omega
   ·cases z:okV (dR (scW f) (scV fr F I L q Y b f)) (fr Z)<;>rw[z]at H<;>cases H;omega
theorem jAq:vD Tryz.prog (odT [(61,odR [tbT] (xN yP pPA)),(78,fun _=> .no)]):=zS (zS jZ fun e j f h k=>by cases h) (jI kPcX)
theorem qQp{Z:Int}(h:1≤Z):zbA (frA Z)=false:=by
 have e:val (Raw.of (Z:Rat)).ln=Z.natAbs:=by
  show val (kI (Z:Rat).num.natAbs)=_;rw[vV,Rat.num_intCast]
 unfold zbA;rw[e];exact qDg (by omega)
theorem qTr{B:Bm}{r:Rd}{l:List Raw}{t:T}{v:Value}(hv:Rep B r (.tu [.sl (flR l) l.length,t]) v):Rep B r (.tu [.ls .a zL (l.map toT),t]) v:=by
 obtain⟨vs,rfl,e⟩:=hv.tuI;match vs,e with
 | [a,b],⟨f,j,_⟩=>exact Rep.mkTu (vs:=[a,b]) ⟨zYs (A:=zL) (by kernel_rfl) (by rw[←qFa,ku];exact f),j,trivial⟩
theorem zNe(h o t:List Int)(G:List Bd)(P D S:Int)(O U:List Nz)(C st V:Raw)(Z:Int)(F I:List (List Int))(L H W vq Y:Int)(k m:Nat)(M:F.length<9223372036854775807)(hT:Tab h o t G S Z F I)(E:Nat.beq (lkE h o t G P D S O U C st V Z F I L H W vq Y) 0=true)(hm:(wgA h o t H W vq).length=m)(K:((qC Tryz.prog (evD Tryz.prog (odT [(61,odR [tbT] (xN yP pPA)),(78,odR [.list (.list nT),.list nT] (vK m wgA)),(47,kcT (vH frA) true),(70,odR [.list zL,.list zL] (qI zU qL qZ)),(80,kcT (yH zbA yS dvR dvP) true)]) (loT []) 60) 32 [.ag (tbC h o t G P D S O U C st V Z F I),vi L,vi H,vi W,vi vq,vi Y] []).bind qF).run=scA yP pPA wgA frA zU qL qZ zbA yS dvR dvP m G.length h o t G P D S O U C st V Z F I L H W vq Y):KnP Tryz.prog k 32 [.ag (tbC h o t G P D S O U C st V Z F I),vi L,vi H,vi W,vi vq,vi Y] (bif jN h o t G P D S O U C st V Z F I L H W vq Y then .tu [.ls .a zL (lkL h o t G P D S O U C st V Z F I L H W vq Y),vn 0]else .tu [.ls .a zL [],vn (lkP h o t G P D S O U C st V Z F I L H W vq Y+1)]) true:=by
 obtain⟨_,Q,R,X,p2,sA⟩:=zXk yP pPA h o t G P D S O U C st V Z F I L H W vq Y E;have q:=K.trans (sA wgA frA zU qL qZ zbA yS dvR dvP m M);have A:=hT.mod.grid;have J:exL (wgA h o t H W vq) m 0=wgA h o t H W vq:=by rw[zTw _ m 0 (by omega)];rfl
 have N:inV (h.length*o.length*t.length) (wgA h o t H W vq):=by
  unfold wgA wgR;rw[xK A];exact jFi ofA muA frA A
 rw[J,qJf (h:=h) (o:=o) (t:=t) (S:=S) frA zU qL qZ zbA yS dvR dvP hT Q R X p2 N (qQp hT.sc1) G.length 0 [] (by omega),xK A,hm,jD]at q
 simp only[gd,jf,ze]at q;have f:lkR h o t G P D S O U C st V Z F I L H W vq Y=skA Z F I L (.ofNat G.length) Y (wgA h o t H W vq) G.length 0 []:=by unfold lkR;rw[E];rfl
 cases j:skA Z F I L (.ofNat G.length) Y (wgA h o t H W vq) G.length 0 []with
 | inl l=>
  rw[show skL frA zU qL qZ yS dvR dvP Z F I L (.ofNat G.length) Y (wgA h o t H W vq) G.length 0 []= .inl l from j]at q;have w:jN h o t G P D S O U C st V Z F I L H W vq Y=true:=by unfold jN;rw[f,j];rfl
  have y:lkL h o t G P D S O U C st V Z F I L H W vq Y=l.map toT:=by unfold lkL;rw[f,j];rfl
  rw[w,y];have z:(([.ag (tbC h o t G P D S O U C st V Z F I),vi L,vi H,vi W,vi vq,vi Y]:List T).all (clean 12)&&clean 12 (.tu [.sl (flR l) l.length,vn 0]))=true:=by
   show(true&&((flR l).all (clean 10)&&true))=true;rw[zTi 9];rfl
  exact(yM (cz:=[.ag (tbC h o t G P D S O U C st V Z F I),vi L,vi H,vi W,vi vq,vi Y]) yE (qIb m) zZ q z k).res fun B r v hv=>qTr hv
 | inr e=>
  rw[show skL frA zU qL qZ yS dvR dvP Z F I L (.ofNat G.length) Y (wgA h o t H W vq) G.length 0 []= .inr e from j]at q;have h1:=zYr G.length 0 [] j;have w:jN h o t G P D S O U C st V Z F I L H W vq Y=false:=by unfold jN;rw[f,j];rfl
  have y:lkP h o t G P D S O U C st V Z F I L H W vq Y+1=e:=by unfold lkP;rw[f,j];show e-1+1=e;omega
  rw[w,y];exact(yM (cz:=[.ag (tbC h o t G P D S O U C st V Z F I),vi L,vi H,vi W,vi vq,vi Y]) yE (qIb m) zZ q rfl k).res fun B r v hv=>zAe hv
theorem zOu{of_:Int→Int→Raw}{mu:Raw→Raw→Raw}{c:List Int}{x:Int}:∀l:List Nz,(wF of_ mu c x l).length=bif zGg c x then l.length else 2*l.length
 | []=>by cases zGg c x<;>rfl
 | y::l=>by
  show(w1 of_ mu c x y++wF of_ mu c x l).length=_;rw[qo,zOu l];unfold w1;cases zGg c x with
  | true=>simp only[ze,qf,xh];omega
  | false=>simp only[zf,qf,xh];omega
theorem jDf{h o t:List Int}{x0 x1 x2:Int}(j:icE [h,o,t]=0):(wgA h o t x0 x1 x2).length=1∨(wgA h o t x0 x1 x2).length=2∨(wgA h o t x0 x1 x2).length=4∨(wgA h o t x0 x1 x2).length=8:=by
 have e:wgA h o t x0 x1 x2=wgF ofA muA frA h o t x0 x1 x2:=by unfold wgA wgR;rw[xK j];rfl
 rw[e];unfold wgF;rw[zOu,zOu,zOu];have f:[((0:Int),toT (frA 1))].length=1:=rfl;rw[f];cases zGg h x0<;>cases zGg o x1<;>cases zGg t x2<;>simp
theorem kLk:∀T tv nw,(oLk jN lkL lkP T).run=some (tv,nw)→∀k,KnP Tryz.prog k 32 T tv nw:=by
 intro T tv nw R k;unfold oLk at R;split at R
 ·rename_i h o t G P D S O U f C j A sl E w y z Z F I L H W vq Y;obtain⟨h1,X⟩:=zR R;have M:=jL h1;have K:KnP Tryz.prog k 32 [.ag (tbC h o t G P D S O U ⟨f,C,j⟩ ⟨A,sl,E⟩ ⟨w,y,z⟩ Z F I),vi L,vi H,vi W,vi vq,vi Y] (bif jN h o t G P D S O U ⟨f,C,j⟩ ⟨A,sl,E⟩ ⟨w,y,z⟩ Z F I L H W vq Y then .tu [.ls .a zL (lkL h o t G P D S O U ⟨f,C,j⟩ ⟨A,sl,E⟩ ⟨w,y,z⟩ Z F I L H W vq Y),vn 0]else .tu [.ls .a zL [],vn (lkP h o t G P D S O U ⟨f,C,j⟩ ⟨A,sl,E⟩ ⟨w,y,z⟩ Z F I L H W vq Y+1)]) true:=by
   cases J:Nat.beq (lkE h o t G P D S O U ⟨f,C,j⟩ ⟨A,sl,E⟩ ⟨w,y,z⟩ Z F I L H W vq Y) 0 with
   | false=>
    have q:=qZw yP pPA h o t G P D S O U ⟨f,C,j⟩ ⟨A,sl,E⟩ ⟨w,y,z⟩ Z F I L H W vq Y M J;have e:lkR h o t G P D S O U ⟨f,C,j⟩ ⟨A,sl,E⟩ ⟨w,y,z⟩ Z F I L H W vq Y= .inr (lkE h o t G P D S O U ⟨f,C,j⟩ ⟨A,sl,E⟩ ⟨w,y,z⟩ Z F I L H W vq Y):=by unfold lkR;rw[J];rfl
    have e2:jN h o t G P D S O U ⟨f,C,j⟩ ⟨A,sl,E⟩ ⟨w,y,z⟩ Z F I L H W vq Y=false:=by unfold jN;rw[e];rfl
    have h0:lkE h o t G P D S O U ⟨f,C,j⟩ ⟨A,sl,E⟩ ⟨w,y,z⟩ Z F I L H W vq Y≠0:=fun h=>by rw[h]at J;cases J
    have e3:lkP h o t G P D S O U ⟨f,C,j⟩ ⟨A,sl,E⟩ ⟨w,y,z⟩ Z F I L H W vq Y+1=lkE h o t G P D S O U ⟨f,C,j⟩ ⟨A,sl,E⟩ ⟨w,y,z⟩ Z F I L H W vq Y:=by unfold lkP;rw[e];exact yb (fm.2 h0)
    rw[e2,e3];exact(yM (cz:=[.ag (tbC h o t G P D S O U ⟨f,C,j⟩ ⟨A,sl,E⟩ ⟨w,y,z⟩ Z F I),vi L,vi H,vi W,vi vq,vi Y]) yE jAq zZ q rfl k).res fun B r v hv=>zAe hv
   | true=>
    have ho:=(zXk yP pPA h o t G P D S O U ⟨f,C,j⟩ ⟨A,sl,E⟩ ⟨w,y,z⟩ Z F I L H W vq Y J).1;have hT:Tab h o t G S Z F I:=qJt kyF h o t G P D S O U ⟨f,C,j⟩ ⟨A,sl,E⟩ ⟨w,y,z⟩ Z F I (qH.1 ho);have N:=hT.mod.av1;have Q:=hT.mod.av6;rcases jDf (x0:=H) (x1:=W) (x2:=vq) hT.mod.grid with hm | hm | hm | hm
    ·exact zNe h o t G P D S O U ⟨f,C,j⟩ ⟨A,sl,E⟩ ⟨w,y,z⟩ Z F I L H W vq Y k 1 M hT J hm (qXe h o t G P D S O U ⟨f,C,j⟩ ⟨A,sl,E⟩ ⟨w,y,z⟩ Z F I L H W vq Y N Q)
    ·exact zNe h o t G P D S O U ⟨f,C,j⟩ ⟨A,sl,E⟩ ⟨w,y,z⟩ Z F I L H W vq Y k 2 M hT J hm (qXf h o t G P D S O U ⟨f,C,j⟩ ⟨A,sl,E⟩ ⟨w,y,z⟩ Z F I L H W vq Y N Q)
    ·exact zNe h o t G P D S O U ⟨f,C,j⟩ ⟨A,sl,E⟩ ⟨w,y,z⟩ Z F I L H W vq Y k 4 M hT J hm (qXg h o t G P D S O U ⟨f,C,j⟩ ⟨A,sl,E⟩ ⟨w,y,z⟩ Z F I L H W vq Y N Q)
    ·exact zNe h o t G P D S O U ⟨f,C,j⟩ ⟨A,sl,E⟩ ⟨w,y,z⟩ Z F I L H W vq Y k 8 M hT J hm (qXh h o t G P D S O U ⟨f,C,j⟩ ⟨A,sl,E⟩ ⟨w,y,z⟩ Z F I L H W vq Y N Q)
  simp only[DT.run]at X;cases e:jN h o t G P D S O U ⟨f,C,j⟩ ⟨A,sl,E⟩ ⟨w,y,z⟩ Z F I L H W vq Y<;>rw[e]at X K<;>cases X<;>exact K
 ·cases R
def exR(l:List Rt):Nat→Nat→List Rt
 | 0,_=>[]
 | m+1,i=>rI l i::exR l m (i+1)
def tC(n:Nat)(j:LF Bool)(A:LF (List Rt))(B:LF Nat):List T→DT (T×Bool)
 | [.ag [.ls .a (.int .i64) h,.ls .a (.int .i64) o,.ls .a (.int .i64) t,.ls .a (.prod (.int .u8) (.prod (.int .i64) (.int .i64))) G,.v (.int .i64 P),.v (.int .i64 D),.v (.int .i64 S),.ls .a (.prod (.int .i64) zL) O,.ls .a (.prod (.int .i64) zL) U,.v (.bool e),.ls .a .lim C,.ls .a .lim f,.v (.bool y),.ls .a .lim sl,.ls .a .lim z,.v (.bool k),.ls .a .lim q,.ls .a .lim w,.v (.int .i64 Z),.ls .a (.list (.int .i64)) F,.ls .a (.list (.int .i64)) I],.v (.int .i64 L),.v (.int .i64 H),.v (.int .i64 W),.v (.int .i64 vq),.v (.int .i64 Y)]=>grd (Nat.blt F.length 9223372036854775807) (.ite (j h o t G P D S O U ⟨e,C,f⟩ ⟨y,sl,z⟩ ⟨k,q,w⟩ Z F I L H W vq Y) (grd (Nat.beq G.length n) (.ret (.tu [.ls .a zL (exR (A h o t G P D S O U ⟨e,C,f⟩ ⟨y,sl,z⟩ ⟨k,q,w⟩ Z F I L H W vq Y) n 0),.v (.int .i64 (.ofNat 0))],true))) (.ret (.tu [.ls .a zL [],.v (.int .i64 (.ofNat (B h o t G P D S O U ⟨e,C,f⟩ ⟨y,sl,z⟩ ⟨k,q,w⟩ Z F I L H W vq Y+1)))],true)))
 | _=> .no
theorem qEu:∀(l:List Rt)(m i:Nat),i+m=l.length→exR l m i=l.drop i
 | l,0,i,h=>by
  obtain rfl:i=l.length:=by omega
  rw[gf];rfl
 | l,m+1,i,h=>by
  have f:i<l.length:=by omega
  have e:rI l i=l[i]:=by rw[rI,qW];simp[f]
  rw[j9 f,←e];show rI l i::exR l m (i+1)=_;rw[qEu l m (i+1) (by omega)]
theorem zYq{okD:List Rt→List Rt→Bool}{dR:List Rt→List Rt→Raw}{dP:List Rt→List Rt→Nat}{okV:Raw→Raw→Bool}{vR:Raw→Raw→Raw}{vP:Raw→Raw→Nat}{fr:Int→Raw}{Z:Int}{F I:List (List Int)}{L f Y:Int}{j:List Nz}:∀(k b:Nat)(e:List Raw){l:List Raw},skL fr okD dR dP okV vR vP Z F I L f Y j k b e= .inl l→l.length=e.length+k
 | 0,_,_,_,h=>by cases h;rw[xf];rfl
 | k+1,b,e,l,h=>by
  simp only[skL]at h;cases H:sk1 fr okD dR dP okV vR vP Z F I L f Y j b with
  | inl x=>rw[H]at h;have:=zYq k (b+1) _ h;rw[qf]at this;omega
  | inr y=>rw[H]at h;cases h
theorem qOc(h o t:List Int)(G:List Bd)(P D S:Int)(O U:List Nz)(C st V:Raw)(Z:Int)(F I:List (List Int))(L H W vq Y:Int)(f:jN h o t G P D S O U C st V Z F I L H W vq Y=true):(lkL h o t G P D S O U C st V Z F I L H W vq Y).length=G.length:=by
 unfold jN at f;unfold lkL;cases e:lkR h o t G P D S O U C st V Z F I L H W vq Y with
 | inr k=>rw[e]at f;cases f
 | inl l=>
  show(l.map toT).length=_;rw[ku];unfold lkR at e;cases j:Nat.beq (lkE h o t G P D S O U C st V Z F I L H W vq Y) 0 with
  | false=>rw[j]at e;cases e
  | true=>rw[j]at e;have:=zYq G.length 0 [] e;rw[this];exact ql _
theorem kLkX(n:Nat):∀w M z,(tC n jN lkL lkP w).run=some (M,z)→∀k,KnP Tryz.prog k 32 w M z:=by
 intro w M z y k;refine kLk w M z ?_ k;unfold tC at y;unfold oLk;split at y
 ·rename_i h o t G P D S O U j C q J sl K A B E Z F I L H W vq Y;obtain⟨Q,f⟩:=zR y;simp only[grd,DT.run,Q,ze];simp only[DT.run]at f;cases e:jN h o t G P D S O U ⟨j,C,q⟩ ⟨J,sl,K⟩ ⟨A,B,E⟩ Z F I L H W vq Y with
  | true=>
   rw[e]at f;simp only[ze]at f ⊢;obtain⟨g1,g2⟩:=zR f;have N:exR (lkL h o t G P D S O U ⟨j,C,q⟩ ⟨J,sl,K⟩ ⟨A,B,E⟩ Z F I L H W vq Y) n 0=lkL h o t G P D S O U ⟨j,C,q⟩ ⟨J,sl,K⟩ ⟨A,B,E⟩ Z F I L H W vq Y:=by
    have:=qOc h o t G P D S O U ⟨j,C,q⟩ ⟨J,sl,K⟩ ⟨A,B,E⟩ Z F I L H W vq Y e;rw[qEu _ n 0 (by rw[this,ql];exact(zV g1).symm),xd]
   rw[N]at g2;exact g2
  | false=>rw[e]at f;exact f
 ·cases y
end
end Go.Proofs.YtdfmdiakjdggbaaGreatDoor

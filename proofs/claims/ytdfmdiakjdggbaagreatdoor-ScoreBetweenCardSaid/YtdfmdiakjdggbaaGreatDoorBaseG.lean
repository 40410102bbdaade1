import Derived.Test.YtdfmdiakjdggbaaGreatDoorRows
import Derived.Test.YtdfmdiakjdggbaaGreatDoorBaseA
import Derived.Test.YtdfmdiakjdggbaaGreatDoorBaseB
import Derived.Test.YtdfmdiakjdggbaaGreatDoorBaseC
import Derived.Test.YtdfmdiakjdggbaaGreatDoorBaseD
import Derived.Test.YtdfmdiakjdggbaaGreatDoorBaseE
import Derived.Test.YtdfmdiakjdggbaaGreatDoorBaseF
set_option linter.unusedVariables false
set_option linter.unusedSimpArgs false
set_option linter.unnecessarySimpa false
namespace Go.Proofs.YtdfmdiakjdggbaaGreatDoor
open Go Go.Gv Go.Ev IntKind
set_option maxRecDepth 1000000
noncomputable def pfs:List Nat:=[16,22,23,24,30,31,32,35,36,43,44,45,46,61,70,76,77,78,79,94,95,119,134,146,156,157,158,169,170,171,183,184,185,186,187,228,234,240,241,242,269]
noncomputable def i(n:Int):T:= .v (.int .i64 n)
noncomputable def w(n:Int):T:= .v (.int .u32 n)
noncomputable def tt:T:= .v (.bool true)
noncomputable def ff:T:= .v (.bool false)
noncomputable def nl:T:= .v (.slice none 0 0)
noncomputable def sL(l:List T):T:= .sl l l.length
noncomputable def ea1:List T:=[(.sl [(i 50),(i 5),(i 0),ff,(sL [(w 1)]),(sL [(w 2)]),(i 100),(i 10),(i 0),ff,(sL [(w 1)]),(sL [(w 2)])] 2)]
noncomputable def et1:T:=(i 0)
theorem er1:kH Tryz.prog (evC Tryz.prog noS (orF Tryz.prog (xS tb0) pfs) 1000) 0 46 ea1=some (et1,true):=by kernel_rfl
noncomputable def eb1:List (Nat×(List T→Option (T×Bool))):=(46,zBl ea1 (et1,true))::tb0
theorem eo1:qR Tryz.prog (xS eb1):=qR.cons qIh (sO (by kernel_rfl) sS qIh pfs er1) (by kernel_rfl)
noncomputable def ea2:List T:=[(.ag [(sL [(i (-100)),(i 0),(i 100)]),(sL [(i 0),(i 10)]),(sL [(i 0)]),(.sl [(.v (.int .u8 0)),(i 0),(i 0),(.v (.int .u8 1)),(i 10),(i 20)] 2),(i 5),(i 50),(i 1),(.sl [(i 0),ff,(sL [(w 1)]),(sL [])] 1),(.sl [(i 0),ff,(sL [(w 1)]),(sL [])] 1),ff,(sL [(w 1)]),(sL [(w 10)]),ff,nl,nl,ff,nl,nl])]
noncomputable def et2:T:=(i 0)
theorem er2:kH Tryz.prog (evC Tryz.prog noS (orF Tryz.prog (xS eb1) pfs) 1000) 0 119 ea2=some (et2,true):=by kernel_rfl
noncomputable def eb2:List (Nat×(List T→Option (T×Bool))):=(119,zBl ea2 (et2,true))::eb1
theorem eo2:qR Tryz.prog (xS eb2):=qR.cons eo1 (sO (by kernel_rfl) sS eo1 pfs er2) (by kernel_rfl)
noncomputable def ea3:List T:=[(.ag [(sL [(i (-100)),(i 0),(i 100)]),(sL [(i 0),(i 10)]),(sL [(i 0)]),(.sl [(.v (.int .u8 0)),(i 0),(i 0),(.v (.int .u8 1)),(i 10),(i 20)] 2),(i 5),(i 50),(i 1),(.sl [(i 0),ff,(sL [(w 1)]),(sL [])] 1),(.sl [(i 0),ff,(sL [(w 1)]),(sL [])] 1),ff,(sL [(w 1)]),(sL [(w 10)]),ff,nl,nl,ff,nl,nl,(i 10),(sL [(sL [(i 0),(i 1)]),(sL [(i 10),(i 11)]),(sL [(i 9),(i 10)]),(sL [(i 1),(i 2)])]),(sL [(sL [(i 0),(i 0),(i 0),(i 0),(i 1),(i 1),(i 2),(i 2),(i 0),(i 0),(i 3),(i 3)])])])]
noncomputable def et3:T:=(i 0)
theorem er3:kH Tryz.prog (evC Tryz.prog noS (orF Tryz.prog (xS eb2) pfs) 1000) 0 61 ea3=some (et3,true):=by kernel_rfl
noncomputable def eb3:List (Nat×(List T→Option (T×Bool))):=(61,zBl ea3 (et3,true))::eb2
theorem eo3:qR Tryz.prog (xS eb3):=qR.cons eo2 (sO (by kernel_rfl) sS eo2 pfs er3) (by kernel_rfl)
noncomputable def ea4:List T:=[(sL [(sL [(i (-100)),(i 0),(i 100)]),(sL [(i 0),(i 10)]),(sL [(i 0)])]),(sL [(i 50),(i 5),(i 0)])]
noncomputable def et4:T:=(.tu [(.sl [(i 2),ff,(sL [(w 1)]),(sL [(w 4)]),(i 3),ff,(sL [(w 1)]),(sL [(w 4)]),(i 4),ff,(sL [(w 1)]),(sL [(w 4)]),(i 5),ff,(sL [(w 1)]),(sL [(w 4)])] 4),(i 0)])
theorem er4:kH Tryz.prog (evC Tryz.prog noS (orF Tryz.prog (xS eb3) pfs) 1000) 0 78 ea4=some (et4,true):=by kernel_rfl
noncomputable def eb4:List (Nat×(List T→Option (T×Bool))):=(78,zBl ea4 (et4,true))::eb3
theorem eo4:qR Tryz.prog (xS eb4):=qR.cons eo3 (sO (by kernel_rfl) sS eo3 pfs er4) (by kernel_rfl)
noncomputable def ea5:List T:=[(.sl [ff,(sL [(w 1)]),(sL [(w 4)]),ff,(sL [(w 1)]),(sL [(w 4)]),ff,(sL [(w 1)]),(sL [(w 4)]),ff,(sL [(w 1)]),(sL [(w 4)])] 4),(.sl [ff,(sL [(w 10)]),(sL []),ff,(sL [(w 9)]),(sL []),ff,(sL []),(sL []),ff,(sL [(w 1)]),(sL [])] 4)]
noncomputable def et5:T:=(.tu [(.ag [ff,(sL [(w 5)]),(sL [])]),(i 0)])
theorem er5:kH Tryz.prog (evC Tryz.prog noS (orF Tryz.prog (xS eb4) pfs) 1000) 0 70 ea5=some (et5,true):=by kernel_rfl
noncomputable def eb5:List (Nat×(List T→Option (T×Bool))):=(70,zBl ea5 (et5,true))::eb4
theorem eo5:qR Tryz.prog (xS eb5):=qR.cons eo4 (sO (by kernel_rfl) sS eo4 pfs er5) (by kernel_rfl)
noncomputable def ea6:List T:=[(.sl [ff,(sL [(w 1)]),(sL [(w 4)]),ff,(sL [(w 1)]),(sL [(w 4)]),ff,(sL [(w 1)]),(sL [(w 4)]),ff,(sL [(w 1)]),(sL [(w 4)])] 4),(.sl [ff,(sL [(w 11)]),(sL []),ff,(sL [(w 10)]),(sL []),ff,(sL [(w 1)]),(sL []),ff,(sL [(w 2)]),(sL [])] 4)]
noncomputable def et6:T:=(.tu [(.ag [ff,(sL [(w 6)]),(sL [])]),(i 0)])
theorem er6:kH Tryz.prog (evC Tryz.prog noS (orF Tryz.prog (xS eb5) pfs) 1000) 0 70 ea6=some (et6,true):=by kernel_rfl
noncomputable def eb6:List (Nat×(List T→Option (T×Bool))):=(70,zBl ea6 (et6,true))::eb5
theorem eo6:qR Tryz.prog (xS eb6):=qR.cons eo5 (sO (by kernel_rfl) sS eo5 pfs er6) (by kernel_rfl)
noncomputable def ea7:List T:=[(.ag [(sL [(i (-100)),(i 0),(i 100)]),(sL [(i 0),(i 10)]),(sL [(i 0)]),(.sl [(.v (.int .u8 0)),(i 0),(i 0),(.v (.int .u8 1)),(i 10),(i 20)] 2),(i 5),(i 50),(i 1),(.sl [(i 0),ff,(sL [(w 1)]),(sL [])] 1),(.sl [(i 0),ff,(sL [(w 1)]),(sL [])] 1),ff,(sL [(w 1)]),(sL [(w 10)]),ff,nl,nl,ff,nl,nl,(i 10),(sL [(sL [(i 0),(i 1)]),(sL [(i 10),(i 11)]),(sL [(i 9),(i 10)]),(sL [(i 1),(i 2)])]),(sL [(sL [(i 0),(i 0),(i 0),(i 0),(i 1),(i 1),(i 2),(i 2),(i 0),(i 0),(i 3),(i 3)])])]),(i 1),(i 50),(i 5),(i 0),(i 0)]
noncomputable def et7:T:=(.tu [(.sl [ff,(sL [(w 1)]),(sL [(w 2)]),ff,(sL [(w 3)]),(sL [(w 5)])] 2),(i 0)])
theorem er7:kH Tryz.prog (evC Tryz.prog noS (orF Tryz.prog (xS eb6) pfs) 1000) 0 32 ea7=some (et7,true):=by kernel_rfl
noncomputable def eb7:List (Nat×(List T→Option (T×Bool))):=(32,zBl ea7 (et7,true))::eb6
theorem eo7:qR Tryz.prog (xS eb7):=qR.cons eo6 (sO (by kernel_rfl) sS eo6 pfs er7) (by kernel_rfl)
noncomputable def ea8:List T:=[(sL [(sL [(i (-100)),(i 0),(i 100)]),(sL [(i 0),(i 10)]),(sL [(i 0)])]),(sL [(i 100),(i 10),(i 0)])]
noncomputable def et8:T:=(.tu [(.sl [(i 5),ff,(sL [(w 1)]),(sL [])] 1),(i 0)])
theorem er8:kH Tryz.prog (evC Tryz.prog noS (orF Tryz.prog (xS eb7) pfs) 1000) 0 78 ea8=some (et8,true):=by kernel_rfl
noncomputable def eb8:List (Nat×(List T→Option (T×Bool))):=(78,zBl ea8 (et8,true))::eb7
theorem eo8:qR Tryz.prog (xS eb8):=qR.cons eo7 (sO (by kernel_rfl) sS eo7 pfs er8) (by kernel_rfl)
noncomputable def ea9:List T:=[(.ag [(sL [(i (-100)),(i 0),(i 100)]),(sL [(i 0),(i 10)]),(sL [(i 0)]),(.sl [(.v (.int .u8 0)),(i 0),(i 0),(.v (.int .u8 1)),(i 10),(i 20)] 2),(i 5),(i 50),(i 1),(.sl [(i 0),ff,(sL [(w 1)]),(sL [])] 1),(.sl [(i 0),ff,(sL [(w 1)]),(sL [])] 1),ff,(sL [(w 1)]),(sL [(w 10)]),ff,nl,nl,ff,nl,nl,(i 10),(sL [(sL [(i 0),(i 1)]),(sL [(i 10),(i 11)]),(sL [(i 9),(i 10)]),(sL [(i 1),(i 2)])]),(sL [(sL [(i 0),(i 0),(i 0),(i 0),(i 1),(i 1),(i 2),(i 2),(i 0),(i 0),(i 3),(i 3)])])]),(i 1),(i 100),(i 10),(i 0),(i 0)]
noncomputable def et9:T:=(.tu [(.sl [ff,(sL [(w 1)]),(sL [(w 10)]),ff,(sL [(w 1)]),(sL [(w 5)])] 2),(i 0)])
theorem er9:kH Tryz.prog (evC Tryz.prog noS (orF Tryz.prog (xS eb8) pfs) 1000) 0 32 ea9=some (et9,true):=by kernel_rfl
noncomputable def eb9:List (Nat×(List T→Option (T×Bool))):=(32,zBl ea9 (et9,true))::eb8
theorem eo9:qR Tryz.prog (xS eb9):=qR.cons eo8 (sO (by kernel_rfl) sS eo8 pfs er9) (by kernel_rfl)
noncomputable def ea10:List T:=[(.ag [(sL [(i (-100)),(i 0),(i 100)]),(sL [(i 0),(i 10)]),(sL [(i 0)]),(.sl [(.v (.int .u8 0)),(i 0),(i 0),(.v (.int .u8 1)),(i 10),(i 20)] 2),(i 5),(i 50),(i 1),(.sl [(i 0),ff,(sL [(w 1)]),(sL [])] 1),(.sl [(i 0),ff,(sL [(w 1)]),(sL [])] 1),ff,(sL [(w 1)]),(sL [(w 10)]),ff,nl,nl,ff,nl,nl,(i 10),(sL [(sL [(i 0),(i 1)]),(sL [(i 10),(i 11)]),(sL [(i 9),(i 10)]),(sL [(i 1),(i 2)])]),(sL [(sL [(i 0),(i 0),(i 0),(i 0),(i 1),(i 1),(i 2),(i 2),(i 0),(i 0),(i 3),(i 3)])])]),(i 1),(.sl [(i 50),(i 5),(i 0),ff,(sL [(w 1)]),(sL [(w 2)]),(i 100),(i 10),(i 0),ff,(sL [(w 1)]),(sL [(w 2)])] 2),(i 0)]
noncomputable def et10:T:=(.tu [(.sl [ff,(sL [(w 3)]),(sL [(w 10)]),ff,(sL [(w 2)]),(sL [(w 5)])] 2),(i 0)])
theorem er10:kH Tryz.prog (evC Tryz.prog noS (orF Tryz.prog (xS eb9) pfs) 1000) 0 22 ea10=some (et10,true):=by kernel_rfl
noncomputable def qVb:List (Nat×(List T→Option (T×Bool))):=(22,zBl ea10 (et10,true))::eb9
theorem eo10:qR Tryz.prog (xS qVb):=qR.cons eo9 (sO (by kernel_rfl) sS eo9 pfs er10) (by kernel_rfl)
noncomputable def ea11:List T:=[(.ag [(sL [(i (-100)),(i 0),(i 100)]),(sL [(i 0),(i 10)]),(sL [(i 0)]),(.sl [(.v (.int .u8 0)),(i 0),(i 0),(.v (.int .u8 1)),(i 10),(i 20)] 2),(i 5),(i 50),(i 1),(.sl [(i 0),ff,(sL [(w 1)]),(sL [])] 1),(.sl [(i 0),ff,(sL [(w 1)]),(sL [])] 1),ff,(sL [(w 1)]),(sL [(w 10)]),ff,nl,nl,ff,nl,nl,(i 10),(sL [(sL [(i 0),(i 1)]),(sL [(i 10),(i 11)]),(sL [(i 9),(i 10)]),(sL [(i 1),(i 2)])]),(sL [(sL [(i 0),(i 0),(i 0),(i 0),(i 1),(i 1),(i 2),(i 2),(i 0),(i 0),(i 3),(i 3)])])]),(i 1),(.sl [(i 50),(i 5),(i 0),ff,(sL [(w 1)]),(sL [(w 2)]),(i 100),(i 10),(i 0),ff,(sL [(w 1)]),(sL [(w 2)])] 2),(i 0),(.ag [ff,(sL [(w 1)]),(sL [(w 100)]),ff,(sL [(w 1)]),(sL [(w 20)]),ff,(sL [(w 1)]),(sL [(w 50)])]),(.v (.int .u8 1))]
noncomputable def et11:T:=(.tu [(.sl [ff,(sL [(w 3)]),(sL [(w 10)]),ff,(sL [(w 23)]),(sL [(w 50)])] 2),(i 0)])
theorem er11:kH Tryz.prog (evC Tryz.prog noS (orF Tryz.prog (xS qVb) pfs) 1000) 0 23 ea11=some (et11,true):=by kernel_rfl
noncomputable def eb11:List (Nat×(List T→Option (T×Bool))):=(23,zBl ea11 (et11,true))::qVb
theorem eo11:qR Tryz.prog (xS eb11):=qR.cons eo10 (sO (by kernel_rfl) sS eo10 pfs er11) (by kernel_rfl)
noncomputable def ea12:List T:=[]
noncomputable def et12:T:=tt
theorem er12:kH Tryz.prog (evC Tryz.prog noS (orF Tryz.prog (xS eb11) pfs) 1000) 0 16 ea12=some (et12,true):=by kernel_rfl
theorem jBx:KnP Tryz.prog 0 16 [] (.v (.bool true)) true:=sO (by kernel_rfl) sS eo11 pfs er12
end Go.Proofs.YtdfmdiakjdggbaaGreatDoor
namespace Go.Proofs.YtdfmdiakjdggbaaGreatDoor
open Go Go.Gv Go.Ev Go.RowKit IntKind
noncomputable abbrev pT:Ty:= .prod (.int .i64) (.prod (.int .i64) (.int .i64))
noncomputable abbrev wT:Ty:= .prod pT zL
abbrev Rt:=Ty.den zL
abbrev Pt:=Ty.den pT
abbrev Wt:=Ty.den wT
abbrev rw'(x:Rt):Raw:=⟨x.1,x.2.1,x.2.2⟩
noncomputable abbrev toT(a:Raw):Rt:=(a.neg,a.ln,a.ld)
noncomputable abbrev pC(p:Pt):List T:=[.v (.int .i64 p.1),.v (.int .i64 p.2.1),.v (.int .i64 p.2.2)]
noncomputable abbrev rC(a:Raw):List T:=[.v (.bool a.neg),.ls .a .lim a.ln,.ls .a .lim a.ld]
abbrev rrT:=List (Nat×(List T→DT (T×Bool)))
theorem yT:Tryz.prog.follows .mixedOrders=true:=by kernel_rfl
noncomputable abbrev yI(n:Int):Option (T×Bool):=some (.v (.int .i64 n),true)
noncomputable abbrev yB(b:Bool):Option (T×Bool):=some (.v (.bool b),true)
noncomputable def cmI(a b:Int):Int:=bif ilt a b then -1 else(bif ilt b a then 1 else 0)
theorem eCc(a b:Int):((qK Tryz.prog (evD Tryz.prog (odT []) (loT []) 60) 171 [.v (.int .i64 a),.v (.int .i64 b)] []).bind qQ).run=bif !ieq a a then(bif !ieq b b then yI 0 else yI (-1))else(bif !ieq b b then yI 1 else(bif ilt a b then yI (-1)else(bif ilt b a then yI 1 else yI 0))):=by kernel_rfl
noncomputable def oCc:List T→DT (T×Bool)
 | [.v (.int .i64 a),.v (.int .i64 b)]=> .ret (.v (.int .i64 (cmI a b)),true)
 | _=> .no
theorem kCc:∀az e nw,(oCc az).run=some (e,nw)→∀k,KnP Tryz.prog k 171 az e nw:=by
 intro az e nw h k;unfold oCc at h;split at h
 ·rename_i a b;cases h;have q:((qK Tryz.prog (evD Tryz.prog (odT []) (loT []) 60) 171 [.v (.int .i64 a),.v (.int .i64 b)] []).bind qQ).run=yI (cmI a b):=by
   rw[eCc,xU rfl,xU rfl];unfold cmI;cases ilt a b<;>cases ilt b a<;>rfl
  exact kF (cz:=[.v (.int .i64 a),.v (.int .i64 b)]) yT yG qA q rfl k
 ·cases h
noncomputable abbrev O1':Od:=odT [(171,oCc)]
theorem qYa:wB Tryz.prog O1':=zT yG kCc
noncomputable def cpP(p q:Pt):Int:=bif !ieq (cmI p.1 q.1) 0 then cmI p.1 q.1 else(bif !ieq (cmI p.2.1 q.2.1) 0 then cmI p.2.1 q.2.1 else(bif !ieq (cmI p.2.2 q.2.2) 0 then cmI p.2.2 q.2.2 else 0))
theorem eCp(p q:Pt):((qK Tryz.prog (evD Tryz.prog (O1') (loT []) 60) 95 [.ag (pC p),.ag (pC q)] []).bind qQ).run=bif !ieq (cmI p.1 q.1) 0 then yI (cmI p.1 q.1)else(bif !ieq (cmI p.2.1 q.2.1) 0 then yI (cmI p.2.1 q.2.1)else(bif !ieq (cmI p.2.2 q.2.2) 0 then yI (cmI p.2.2 q.2.2)else yI 0)):=by kernel_rfl
noncomputable def oCp:List T→DT (T×Bool)
 | [.ag [.v (.int .i64 a),.v (.int .i64 b),.v (.int .i64 c)],.ag [.v (.int .i64 a2),.v (.int .i64 b2),.v (.int .i64 e)]]=> .ret (.v (.int .i64 (cpP (a,b,c) (a2,b2,e))),true)
 | _=> .no
theorem kCp:∀az e nw,(oCp az).run=some (e,nw)→∀k,KnP Tryz.prog k 95 az e nw:=by
 intro az e nw h k;unfold oCp at h;split at h
 ·rename_i a b c a2 b2 f;cases h;have g:∀p q:Pt,((qK Tryz.prog (evD Tryz.prog (O1') (loT []) 60) 95 [.ag (pC p),.ag (pC q)] []).bind qQ).run=yI (cpP p q):=fun p q=>by
   rw[eCp];unfold cpP;cases ieq (cmI p.1 q.1) 0<;>cases ieq (cmI p.2.1 q.2.1) 0<;>cases ieq (cmI p.2.2 q.2.2) 0<;>rfl
  exact kF (cz:=[.ag (pC (a,b,c)),.ag (pC (a2,b2,f))]) yT qYa qA (g (a,b,c) (a2,b2,f)) rfl k
 ·cases h
noncomputable def zEv(p:Pt):Bool:=ilt p.1 (-200000)||(ilt 200000 p.1||(ilt p.2.1 (-100)||(ilt 100 p.2.1||(ilt p.2.2 (-100)||ilt 100 p.2.2))))
theorem eCk(p:Pt)(b:Bool)(l m:List Nat):((qK Tryz.prog (evD Tryz.prog (odT []) (loT []) 60) 94 [.ag (pC p++rC ⟨b,l,m⟩)] []).bind qQ).run=bif ilt p.1 (-200000)then yI 7 else(bif ilt 200000 p.1 then yI 7 else(bif ilt p.2.1 (-100)then yI 7 else(bif ilt 100 p.2.1 then yI 7 else(bif ilt p.2.2 (-100)then yI 7 else(bif ilt 100 p.2.2 then yI 7 else yI 0))))):=by kernel_rfl
noncomputable def oCk:List T→DT (T×Bool)
 | [.ag [.v (.int .i64 a),.v (.int .i64 b),.v (.int .i64 c),.v (.bool s),.ls .a .lim l,.ls .a .lim m]]=> .ret (.v (.int .i64 (bif zEv (a,b,c)then 7 else 0)),true)
 | _=> .no
theorem kCk:∀az e nw,(oCk az).run=some (e,nw)→∀k,KnP Tryz.prog k 94 az e nw:=by
 intro az e nw h k;unfold oCk at h;split at h
 ·rename_i a f c b l m;cases h;have g:∀p:Pt,((qK Tryz.prog (evD Tryz.prog (odT []) (loT []) 60) 94 [.ag (pC p++rC ⟨b,l,m⟩)] []).bind qQ).run=yI (bif zEv p then 7 else 0):=fun p=>by
   rw[eCk];unfold zEv;cases ilt p.1 (-200000)<;>cases ilt 200000 p.1<;>cases ilt p.2.1 (-100)<;>cases ilt 100 p.2.1<;>cases ilt p.2.2 (-100)<;>cases ilt 100 p.2.2<;>rfl
  exact kF (cz:=[.ag (pC (a,f,c)++rC ⟨b,l,m⟩)]) yT yG qA (g (a,f,c)) rfl k
 ·cases h
noncomputable def leP(p q:Pt):Bool:=bif !ieq p.1 q.1 then ilt p.1 q.1 else(bif !ieq p.2.1 q.2.1 then ilt p.2.1 q.2.1 else ilt p.2.2 q.2.2)
noncomputable def qFn(ck:Raw→Int)(ad su mu:Raw→Raw→Raw)(ae se me:Raw→Raw→Int)(cm ce:Raw→Raw→Int)(fr:Int→Raw)(eqB:Raw→Raw→Bool):rrT:=[(75,kcD (pR ck) true),(34,kcD (pRR fun a b=>some (ad a b,ae a b)) true),(48,kcD (pRR fun a b=>some (su a b,se a b)) true),(49,kcD (pRR fun a b=>some (mu a b,me a b)) true),(33,kcD (pRI fun a b=>(cm a b,ce a b)) true),(47,kcD (pI fr) true),(37,kcD (pB eqB) true)]
noncomputable def Lb0:Lp:=⟨0,
 ⟨[.h]++(us' 22++([.h,.h,.h]++(us' 71))),[]⟩,
 ⟨[.h]++(us' 96),[]⟩,
 ⟨[.u,.u,.h]++(us' 94),[]⟩⟩
noncomputable abbrev qOz:Code:=lpc Tryz.prog 46 [false,true,false,true,true]
theorem qRu:cAt Tryz.prog 46 [false,true,false,true,true]=some (.loop qOz):=by kernel_rfl
noncomputable abbrev zUt(OD:Od)(e:Lo):Hs→Option (Hs⊕(Ex×Hs)):=Lb0.stp (evD Tryz.prog OD e 60) 46 [false,true,false,true,true] qOz
noncomputable def Lb1:Lp:=⟨2,
 ⟨us' 7++([.t (.fn 172 [.op 1 0,.op 0 0]),.t (.fn 173 [.op 1 0,.op 0 0])]++(us' 61++([.h,.h,.h]++(us' 24)))),[.r [.h,.h,.h] 28,.r [.h] 46]⟩,
 ⟨us' 8++([.t (.fn 173 [.op 1 0,.op 0 0])]++(us' 88)),[.r [.h,.h,.h] 28,.r [.h] 46]⟩,
 ⟨[.u,.u,.h]++(us' 94),[.g,.g]⟩⟩
noncomputable abbrev qPa:Code:=lpc Tryz.prog 46 [false,true,false,true,true,true,true]
theorem qRv:cAt Tryz.prog 46 [false,true,false,true,true,true,true]=some (.loop qPa):=by kernel_rfl
noncomputable abbrev zUu(OD:Od)(e:Lo):Hs→Option (Hs⊕(Ex×Hs)):=Lb1.stp (evD Tryz.prog OD e 60) 46 [false,true,false,true,true,true,true] qPa
noncomputable def iB0(l:List Wt)(k i:Nat):Hs:=⟨[.ls .a wT l,.ls .a wT l,.v (.int .i64 (.ofNat k)),.v (.int .i64 (.ofNat i))],[],[]⟩
noncomputable abbrev rN(a:Raw):List T:=[.v (.bool a.neg),.ls .n .lim a.ln,.ls .n .lim a.ld]
noncomputable def iB1(l:List Wt)(k i:Nat)(t:Raw)(e:Int):Hs:=⟨[.ls .a wT l,.v (.int .i64 (.ofNat k)),.v (.int .i64 (.ofNat i))],[],[rN t,[.v (.int .i64 e)]]⟩
noncomputable abbrev St':=Option (Hs⊕(Ex×Hs))
noncomputable def nx{α:Type}(i:Nat)(x:α):Option α:=bif Nat.blt (i+1) 9223372036854775808 then some x else none
theorem xZ{α:Type}{i:Nat}{x:α}(h:i+1<9223372036854775808):nx i x=some x:=by
 unfold nx;rw[zP h];rfl
noncomputable abbrev wA(l:List Wt)(i:Nat):Wt:=nth wT.zero l i
noncomputable abbrev qGp(e:Int):St':=some (.inr (.r,⟨[.v (.int .i64 e)],[],[]⟩))
section
variable (ck:Raw→Int)(ad su mu:Raw→Raw→Raw)(ae se me:Raw→Raw→Int)(cm ce:Raw→Raw→Int)(fr:Int→Raw)(eqB:Raw→Raw→Bool)
noncomputable abbrev OB:Od:=odT ((95,odR [pT,pT] oCp)::(94,odR [wT] oCk)::qFn ck ad su mu ae se me cm ce fr eqB)
noncomputable abbrev b0K(x:Wt)(k:St'):St':=bif !ieq (ck (rw' x.2)) 0 then qGp (ck (rw' x.2))else(bif x.2.1 then qGp 1 else(bif ieq (.ofNat x.2.2.1.length) 0 then qGp 1 else k))
noncomputable abbrev pr(i:Nat):Int:=Int.sub (.ofNat i) 1
theorem sB0(l:List Wt)(k i:Nat):zUt (OB ck ad su mu ae se me cm ce fr eqB) (loT []) (iB0 l k i)=bif Nat.blt i k then(bif Nat.blt i l.length then(bif !ieq (bif zEv (wA l i).1 then 7 else 0) 0 then qGp (bif zEv (wA l i).1 then 7 else 0)else(bif ilt 0 (.ofNat i)then(bif inW (pr i)then(bif nng (pr i)then(bif Nat.blt (pr i).toNat l.length then(bif ilt 0 (.ofNat i)then(bif !ilt (cpP (wA l (pr i).toNat).1 (wA l i).1) 0 then qGp 2 else b0K ck (wA l i) (nx i (.inl (iB0 l k (i+1)))))else b0K ck (wA l i) (nx i (.inl (iB0 l k (i+1)))))else none)else none)else none)else(bif ilt 0 (.ofNat i)then none else b0K ck (wA l i) (nx i (.inl (iB0 l k (i+1)))))))else none)else some (.inr (.x 1,⟨[.ls .a wT l],[],[]⟩)):=by kernel_rfl
noncomputable def gB0(l:List Wt)(i:Nat)(_:Unit):Unit⊕Option Int:=bif zEv (wA l i).1 then .inr (some 7)else(bif ilt 0 (.ofNat i)&&!ilt (cpP (wA l (i-1)).1 (wA l i).1) 0 then .inr (some 2)else(bif !ieq (ck (rw' (wA l i).2)) 0 then .inr (some (ck (rw' (wA l i).2)))else(bif(wA l i).2.1||ieq (.ofNat (wA l i).2.2.1.length) 0 then .inr (some 1)else .inl ())))
noncomputable def b0F(l:List Wt):Option Int:=fol (gB0 ck l) (fun _=>none) l.length 0 ()
noncomputable def qGo(l:List Wt):Option Int→Ex×Hs
 | none=>(.x 1,⟨[.ls .a wT l],[],[]⟩)
 | some e=>(.r,⟨[.v (.int .i64 e)],[],[]⟩)
theorem lpB0(l:List Wt)(y:l.length<9223372036854775807):lpF (zUt (OB ck ad su mu ae se me cm ce fr eqB) (loT [])) l.length (iB0 l l.length 0)=some (qGo l (b0F ck l)):=
 jP (iv:=fun i(_:Unit)=>iB0 l l.length i) (g:=gB0 ck l) (d:=fun _=>none) (out:=qGo l) (n:=l.length) (fun _ _=>True)
  (fun i _ q _=>by
   rw[sB0];unfold gB0;simp only[b0K,zP q,ze,xZ (show i+1<9223372036854775808 by omega)]
   cases i with
   | zero=>
    have e:ilt 0 (.ofNat 0)=false:=rfl;rw[e];cases zEv (wA l 0).1<;>cases ieq (ck (rw' (wA l 0).2)) 0<;>cases(wA l 0).2.1<;>cases ieq (.ofNat (wA l 0).2.2.1.length) 0<;>rfl
   | succ i=>
    have e:ilt 0 (.ofNat (i+1))=true:=rfl;have f:pr (i+1)= .ofNat i:=by show((i+1:Nat):Int)-1=(i:Int);omega
    have j:inW (.ofNat i)=true:=zP (show i<9223372036854775808 by omega)
    rw[e,f,j];have k:(Int.ofNat i).toNat=i:=rfl;rw[k];simp only[nng,zP (show i<l.length by omega),ze,Nat.add_sub_cancel]
    cases zEv (wA l (i+1)).1<;>cases ilt (cpP (wA l i).1 (wA l (i+1)).1) 0<;>cases ieq (ck (rw' (wA l (i+1)).2)) 0<;>cases(wA l (i+1)).2.1<;>cases ieq (.ofNat (wA l (i+1)).2.2.1.length) 0<;>rfl)
  (fun _ _ _ _ _ _=>trivial)
  (fun _ _=>by rw[sB0];simp only[yL (Nat.le_refl _),zf];rfl) l.length 0 () (by omega) trivial
theorem sB1(l:List Wt)(k i:Nat)(t:Raw)(e:Int):zUu (OB ck ad su mu ae se me cm ce fr eqB) (loT []) (iB1 l k i t e)=bif Nat.blt i k then(bif Nat.blt i l.length then(bif ieq e 0 then(bif ieq e 0 then nx i (.inl (iB1 l k (i+1) (ad t (rw' (wA l i).2)) (ae t (rw' (wA l i).2))))else nx i (.inl (iB1 l k (i+1) t e)))else(bif ieq e 0 then nx i (.inl (iB1 l k (i+1) (ad t (rw' (wA l i).2)) (ae t (rw' (wA l i).2))))else nx i (.inl (iB1 l k (i+1) t e))))else none)else some (.inr (.x 3,⟨[],[],[rN t,[.v (.int .i64 e)]]⟩)):=by kernel_rfl
noncomputable def gB1(l:List Wt)(i:Nat)(a:Raw×Int):(Raw×Int)⊕(Raw×Int):= .inl (bif ieq a.2 0 then(ad a.1 (rw' (wA l i).2),ae a.1 (rw' (wA l i).2))else a)
noncomputable def b1F(l:List Wt):Raw×Int:=fol (gB1 ad ae l) id l.length 0 (fr 0,0)
theorem lpB1(l:List Wt)(f:l.length<9223372036854775807):lpF (zUu (OB ck ad su mu ae se me cm ce fr eqB) (loT [])) l.length (iB1 l l.length 0 (fr 0) 0)=some (.x 3,⟨[],[],[rN (b1F ad ae fr l).1,[.v (.int .i64 (b1F ad ae fr l).2)]]⟩):=
 jP (iv:=fun i(a:Raw×Int)=>iB1 l l.length i a.1 a.2) (g:=gB1 ad ae l) (d:=id) (out:=fun a=>(.x 3,⟨[],[],[rN a.1,[.v (.int .i64 a.2)]]⟩)) (n:=l.length) (fun _ _=>True)
  (fun i a e _=>by
   rw[sB1];unfold gB1;simp only[zP e,ze,xZ (show i+1<9223372036854775808 by omega)]
   cases ieq a.2 0<;>rfl)
  (fun _ _ _ _ _ _=>trivial)
  (fun _ _=>by rw[sB1];simp only[yL (Nat.le_refl _),zf];rfl) l.length 0 (fr 0,0) (by omega) trivial
noncomputable def qRk:Sh:=⟨.x 1,[.l .a wT],[],[]⟩
noncomputable def qRj:Sh:=⟨.r,[.i .i64],[],[]⟩
noncomputable def shB1:Sh:=⟨.x 3,[],[],[[.b,.l .n .lim,.l .n .lim],[.i .i64]]⟩
noncomputable abbrev LB:Lo:=loT [(46,[false,true,false,true,true],Lb0.row (lpR (zUt (OB ck ad su mu ae se me cm ce fr eqB) (loT [])) (fun q=>lnO (nth .u q.hs 2)) [qRk,qRj])),(46,[false,true,false,true,true,true,true],Lb1.row (lpR (zUu (OB ck ad su mu ae se me cm ce fr eqB) (loT [])) (fun q=>lnO (nth .u q.hs 1)) [shB1]))]
noncomputable abbrev qTm(t:Raw):Option (T×Bool):=bif !ieq (cm t (fr 1)) 0 then yI 16 else yI 0
noncomputable abbrev gd{α:Type}(b:Bool)(x:Option α):Option α:=bif b then x else none
noncomputable abbrev bcT(t:Raw)(e:Int):Option (T×Bool):=bif !ieq e 0 then gd (ieq e e&&true) (gd (ieq e e&&true) (gd (ieq e e&&true) (bif !ieq e 0 then yI e else qTm cm fr ⟨false,[],[]⟩)))else qTm cm fr t
noncomputable abbrev bc1(y:Option (Ex×Hs)):Option (T×Bool):=bif shT shB1 y then bcT cm fr ⟨bOf (hdT ((hsO y).ks.headD [])),lOf .lim (hdT ((hsO y).ks.headD []).tail),lOf .lim (hdT ((hsO y).ks.headD []).tail.tail)⟩ (iOf (hdT ((hsO y).ks.tail.headD [])))else none
noncomputable abbrev y1B(l:List Wt):Option (Ex×Hs):=lpF (zUu (OB ck ad su mu ae se me cm ce fr eqB) (loT [])) l.length (iB1 l l.length 0 (fr 0) 0)
noncomputable abbrev bc0(y:Option (Ex×Hs)):Option (T×Bool):=bif shT qRk y then bc1 cm fr (y1B ck ad su mu ae se me cm ce fr eqB (lOf wT (hdT (hsO y).hs)))else(bif shT qRj y then yI (iOf (hdT (hsO y).hs))else none)
theorem eBc(l:List Wt):((qK Tryz.prog (evD Tryz.prog (OB ck ad su mu ae se me cm ce fr eqB) (LB ck ad su mu ae se me cm ce fr eqB) 60) 46 [.ls .a wT l] []).bind qQ).run=bif Nat.beq l.length 0 then yI 3 else(bif Nat.blt 4096 l.length then yI 4 else bc0 ck ad su mu ae se me cm ce fr eqB (lpF (zUt (OB ck ad su mu ae se me cm ce fr eqB) (loT [])) l.length (iB0 l l.length 0))):=by kernel_rfl
noncomputable def bcE(l:List Wt):Int:=bif Nat.beq l.length 0 then 3 else(bif Nat.blt 4096 l.length then 4 else(match b0F ck l with
 | some e=>e
 | none=>bif !ieq (b1F ad ae fr l).2 0 then(b1F ad ae fr l).2 else(bif !ieq (cm (b1F ad ae fr l).1 (fr 1)) 0 then 16 else 0)))
theorem qTb(l:List Wt):((qK Tryz.prog (evD Tryz.prog (OB ck ad su mu ae se me cm ce fr eqB) (LB ck ad su mu ae se me cm ce fr eqB) 60) 46 [.ls .a wT l] []).bind qQ).run=yI (bcE ck ad ae cm fr l):=by
 rw[eBc];unfold bcE;cases y:Nat.beq l.length 0 with
 | true=>rfl
 | false=>
  cases f:Nat.blt 4096 l.length with
  | true=>rfl
  | false=>
   have k:l.length<9223372036854775807:=by
    rcases Nat.lt_or_ge 4096 l.length with g | g
    ·rw[zP g]at f;cases f
    ·omega
   simp only[zf];rw[lpB0 ck ad su mu ae se me cm ce fr eqB l k];cases b0F ck l with
   | some e=>rfl
   | none=>
    have q:bc0 ck ad su mu ae se me cm ce fr eqB (some (qGo l none))=bc1 cm fr (y1B ck ad su mu ae se me cm ce fr eqB l):=rfl;rw[q];show bc1 cm fr (y1B ck ad su mu ae se me cm ce fr eqB l)=_;unfold y1B;rw[lpB1 ck ad su mu ae se me cm ce fr eqB l k];show bcT cm fr (b1F ad ae fr l).1 (b1F ad ae fr l).2=_;cases j:ieq (b1F ad ae fr l).2 0 with
    | true=>simp only[bcT,qTm,j,Bool.not_true,zf];cases ieq (cm (b1F ad ae fr l).1 (fr 1)) 0<;>rfl
    | false=>simp only[bcT,j,xU rfl,gd,Bool.and_self,Bool.not_false,ze]
end
noncomputable abbrev lq{α:Type}(a:List α)(x:St'):St':=gd (Nat.ble (a.length+1) (a.length+1)) x
noncomputable def oBc(bE:List Wt→Int):List T→DT (T×Bool)
 | [.ls .a (.prod (.prod (.int .i64) (.prod (.int .i64) (.int .i64))) zL) l]=> .ret (.v (.int .i64 (bE l)),true)
 | _=> .no
noncomputable abbrev z0:Rt×Rt:=((false,[],[]),(false,[],[]))
section
variable (bE:List Wt→Int)(ck:Raw→Int)(ad su mu:Raw→Raw→Raw)(ae se me:Raw→Raw→Int)(cm ce:Raw→Raw→Int)(fr:Int→Raw)(eqB:Raw→Raw→Bool)
noncomputable abbrev k5:List (List T):=[[],[],[],[],[]]
noncomputable abbrev erM(e:Int):St':=some (.inr (.r,⟨[.v (.slice none 0 0),.v (.int .i64 e)],[],k5⟩))
noncomputable abbrev m3(w v:Raw)(g:Rt×Rt)(k:Raw→St'):St':=bif !ieq (me w (rw' g.1)) 0 then erM (me w (rw' g.1))else(bif !ieq (me v (rw' g.2)) 0 then erM (me v (rw' g.2))else(bif !ieq (ae (mu w (rw' g.1)) (mu v (rw' g.2))) 0 then erM (ae (mu w (rw' g.1)) (mu v (rw' g.2)))else k (ad (mu w (rw' g.1)) (mu v (rw' g.2)))))
end
noncomputable abbrev adA(a b:Raw):Raw:=opR a b (a.rat+b.rat)
noncomputable abbrev suA(a b:Raw):Raw:=opR a b (a.rat-b.rat)
noncomputable abbrev muA(a b:Raw):Raw:=opR a b (a.rat*b.rat)
noncomputable abbrev aeA(a b:Raw):Int:=opE a b (a.rat+b.rat)
noncomputable abbrev seA(a b:Raw):Int:=opE a b (a.rat-b.rat)
noncomputable abbrev meA(a b:Raw):Int:=opE a b (a.rat*b.rat)
noncomputable abbrev frA(n:Int):Raw:=Raw.of (n:Rat)
noncomputable abbrev eqA(a b:Raw):Bool:=decide (a=b)
noncomputable abbrev numA:rrT:=qFn Raw.chk adA suA muA aeA seA meA yE xB frA eqA
theorem zMx:wB Tryz.prog (odT numA):=
 zT (zT (zT (zT (zT (zT (zT yG fun az e nw h k=>sP kEq az e h k) fun az e nw h k=>sP zVx az e h k) fun az e nw h k=>sP qWw az e h k) fun az e nw h k=>sP qLv az e h k) fun az e nw h k=>sP kSub az e h k) fun az e nw h k=>sP qWv az e h k) fun az e nw h k=>sP kChk az e h k
theorem qQr:wB Tryz.prog (OB Raw.chk adA suA muA aeA seA meA yE xB frA eqA):=zT (zT zMx (jV kCk)) (jV kCp)
theorem qHl:gT Tryz.prog (evD Tryz.prog (OB Raw.chk adA suA muA aeA seA meA yE xB frA eqA) (loT []) 60):=kQ yT qQr qA 60
theorem jBy:vY Tryz.prog (LB Raw.chk adA suA muA aeA seA meA yE xB frA eqA):=jX (jX qA qHl qRv zHd) qHl qRu zHd
noncomputable abbrev bE(l:List Wt):Int:=bcE Raw.chk adA aeA yE frA l
theorem kBc:∀az e nw,(oBc bE az).run=some (e,nw)→∀k,KnP Tryz.prog k 46 az e nw:=by
 intro az e nw h k;unfold oBc at h;split at h
 ·rename_i l;cases h;exact kF (cz:=[.ls .a wT l]) yT qQr jBy (qTb Raw.chk adA suA muA aeA seA meA yE xB frA eqA l) rfl k
 ·cases h
theorem zNx{B:Bm}{r:Rd}{A:Ty}{t:T}{v:Value}(h:Rep B r (.tu [.v (.slice none 0 0),t]) v):Rep B r (.tu [.ls .a A [],t]) v:=by
 obtain⟨vs,rfl,e⟩:=h.tuI;match vs,e with
 | [a,b],⟨f,j,_⟩=>exact Rep.mkTu (vs:=[a,b]) ⟨zHl f,j,trivial⟩
noncomputable def Llg:Lp:=⟨0,
 ⟨[.h,.u,.u,.h,.h]++(us' 45),[]⟩,
 ⟨[.h,.u,.u,.h]++(us' 46),[]⟩,
 ⟨[.u,.u,.h]++(us' 47),[]⟩⟩
noncomputable abbrev qPl:Code:=lpc Tryz.prog 38 [false,true,false,true,true]
theorem qSf:cAt Tryz.prog 38 [false,true,false,true,true]=some (.loop qPl):=by kernel_rfl
noncomputable abbrev zUw(OD:Od)(e:Lo):Hs→Option (Hs⊕(Ex×Hs)):=Llg.stp (evD Tryz.prog OD e 60) 38 [false,true,false,true,true] qPl
noncomputable def Lwd:Lp:=⟨0,
 ⟨[.h,.u,.u,.h]++(us' 25),[]⟩,
 ⟨[.h]++(us' 28),[]⟩,
 ⟨[.u,.u,.h]++(us' 26),[]⟩⟩
noncomputable abbrev qPs:Code:=lpc Tryz.prog 65 [false,true,false,true]
theorem qSm:cAt Tryz.prog 65 [false,true,false,true]=some (.loop qPs):=by kernel_rfl
noncomputable abbrev zUz(OD:Od)(e:Lo):Hs→Option (Hs⊕(Ex×Hs)):=Lwd.stp (evD Tryz.prog OD e 60) 65 [false,true,false,true] qPs
noncomputable def iLg(l:List Wt)(c:Int)(i:Nat):Hs:=⟨[.ls .a wT l,.v (.int .i64 c),.v (.int .i64 (.ofNat i))],[],[]⟩
noncomputable def iWd(l:List Rt)(i:Nat):Hs:=⟨[.ls .a zL l,.v (.int .i64 (.ofNat i))],[],[]⟩
noncomputable abbrev wrS(c:Int)(x:Wt):Int:=wq (Int.add c (.ofNat x.2.2.2.length))
theorem sLg(l:List Wt)(c:Int)(i:Nat):zUw (odT []) (loT []) (iLg l c i)=bif Nat.blt i l.length then(bif Nat.blt i l.length then(bif ilt 4 (.ofNat (wA l i).2.2.1.length)then some (.inr (.r,⟨[.v (.bool true)],[],[]⟩))else(bif Nat.blt i l.length then nx i (.inl (iLg l (wrS c (wA l i)) (i+1)))else none))else none)else some (.inr (.x 0,⟨[.ls .a wT l,.v (.int .i64 c)],[],[]⟩)):=by kernel_rfl
noncomputable def gLg(l:List Wt)(i:Nat)(c:Int):Int⊕Option Int:=bif ilt 4 (.ofNat (wA l i).2.2.1.length)then .inr none else .inl (wrS c (wA l i))
noncomputable def lgF(l:List Wt):Option Int:=fol (gLg l) some l.length 0 0
noncomputable def qQx(l:List Wt):Option Int→Ex×Hs
 | some c=>(.x 0,⟨[.ls .a wT l,.v (.int .i64 c)],[],[]⟩)
 | none=>(.r,⟨[.v (.bool true)],[],[]⟩)
theorem lpLg(l:List Wt)(f:l.length<9223372036854775807):lpF (zUw (odT []) (loT [])) l.length (iLg l 0 0)=some (qQx l (lgF l)):=
 jP (iv:=fun i c=>iLg l c i) (g:=gLg l) (d:=some) (out:=qQx l) (n:=l.length) (fun _ _=>True)
  (fun i c e _=>by
   rw[sLg];unfold gLg;simp only[zP e,ze,xZ (show i+1<9223372036854775808 by omega),wrS]
   cases ilt 4 (.ofNat (wA l i).2.2.1.length)<;>cases inW (Int.add c (.ofNat (wA l i).2.2.2.length))<;>rfl)
  (fun _ _ _ _ _ _=>trivial)
  (fun _ _=>by rw[sLg];simp only[yL (Nat.le_refl _),zf];rfl) l.length 0 0 (by omega) trivial
noncomputable abbrev rA(l:List Rt)(i:Nat):Rt:=nth zL.zero l i
theorem sWd(l:List Rt)(i:Nat):zUz (odT []) (loT []) (iWd l i)=bif Nat.blt i l.length then(bif Nat.blt i l.length then(bif ilt 20 (.ofNat (rA l i).2.1.length)then some (.inr (.r,⟨[.v (.bool true)],[],[]⟩))else(bif Nat.blt i l.length then(bif ilt 20 (.ofNat (rA l i).2.2.length)then some (.inr (.r,⟨[.v (.bool true)],[],[]⟩))else nx i (.inl (iWd l (i+1))))else none))else none)else some (.inr (.x 0,⟨[.ls .a zL l],[],[]⟩)):=by kernel_rfl
noncomputable def gWd(l:List Rt)(i:Nat)(_:Unit):Unit⊕Bool:=bif ilt 20 (.ofNat (rA l i).2.1.length)||ilt 20 (.ofNat (rA l i).2.2.length)then .inr true else .inl ()
noncomputable def wdF(l:List Rt):Bool:=fol (gWd l) (fun _=>false) l.length 0 ()
noncomputable def qRc(l:List Rt):Bool→Ex×Hs
 | false=>(.x 0,⟨[.ls .a zL l],[],[]⟩)
 | true=>(.r,⟨[.v (.bool true)],[],[]⟩)
theorem lpWd(l:List Rt)(f:l.length<9223372036854775807):lpF (zUz (odT []) (loT [])) l.length (iWd l 0)=some (qRc l (wdF l)):=
 jP (iv:=fun i(_:Unit)=>iWd l i) (g:=gWd l) (d:=fun _=>false) (out:=qRc l) (n:=l.length) (fun _ _=>True)
  (fun i _ e _=>by
   rw[sWd];unfold gWd;simp only[zP e,ze,xZ (show i+1<9223372036854775808 by omega)]
   cases ilt 20 (.ofNat (rA l i).2.1.length)<;>cases ilt 20 (.ofNat (rA l i).2.2.length)<;>rfl)
  (fun _ _ _ _ _ _=>trivial)
  (fun _ _=>by rw[sWd];simp only[yL (Nat.le_refl _),zf];rfl) l.length 0 () (by omega) trivial
noncomputable def shLx:Sh:=⟨.x 0,[.l .a wT,.i .i64],[],[]⟩
noncomputable def qOk:Sh:=⟨.r,[.b],[],[]⟩
noncomputable def shWx:Sh:=⟨.x 0,[.l .a zL],[],[]⟩
noncomputable abbrev LL7:Lo:=loT [(38,[false,true,false,true,true],Llg.row (lpR (zUw (odT []) (loT [])) (fun q=>lnO (nth .u q.hs 0)) [shLx,qOk])),(65,[false,true,false,true],Lwd.row (lpR (zUz (odT []) (loT [])) (fun q=>lnO (nth .u q.hs 0)) [shWx,qOk]))]
noncomputable def lgB(n:Nat)(c:Int):Bool:=bif ilt 110 (.ofNat n)then(bif !ilt 4096 (.ofNat n)then true else(bif ilt 5000 (.ofNat n)then true else(bif !ilt 110 (.ofNat n)then ilt 110 c else false)))else(bif ilt 5000 (.ofNat n)then true else(bif !ilt 110 (.ofNat n)then ilt 110 c else false))
noncomputable abbrev lgW(n:Nat)(c:Int):Option (T×Bool):=bif ilt 110 (.ofNat n)then(bif !ilt 4096 (.ofNat n)then yB true else(bif ilt 5000 (.ofNat n)then yB true else(bif !ilt 110 (.ofNat n)then yB (ilt 110 c)else yB false)))else(bif ilt 5000 (.ofNat n)then yB true else(bif !ilt 110 (.ofNat n)then yB (ilt 110 c)else yB false))
theorem qXl(n:Nat)(c:Int):lgW n c=yB (lgB n c):=by
 unfold lgB;simp only[lgW];cases ilt 110 (.ofNat n)<;>cases ilt 4096 (.ofNat n)<;>cases ilt 5000 (.ofNat n)<;>rfl
noncomputable abbrev lgY(y:Option (Ex×Hs)):Option (T×Bool):=bif shT shLx y then lgW (lOf wT (hdT (hsO y).hs)).length (iOf (hdT (hsO y).hs.tail))else(bif shT qOk y then yB (bOf (hdT (hsO y).hs))else none)
theorem eLg(l:List Wt):((qK Tryz.prog (evD Tryz.prog (odT []) (LL7) 60) 38 [.ls .a wT l] []).bind qQ).run=lgY (lpF (zUw (odT []) (loT [])) l.length (iLg l 0 0)):=by kernel_rfl
noncomputable def lgZ(l:List Wt):Bool:=match lgF l with
 | some c=>lgB l.length c
 | none=>true
theorem lV:gT Tryz.prog (evD Tryz.prog (odT []) (loT []) 60):=kQ yT yG qA 60
theorem qEz:vY Tryz.prog LL7:=jX (jX qA lV qSm zHd) lV qSf zHd
noncomputable def oLg(fL:List Wt→Bool):List T→DT (T×Bool)
 | [.ls .a (.prod (.prod (.int .i64) (.prod (.int .i64) (.int .i64))) zL) l]=>grd (Nat.blt l.length 9223372036854775807) (.ret (.v (.bool (fL l)),true))
 | _=> .no
theorem jC{a b:Nat}(h:Nat.blt a b=true):a<b:=by
 rcases Nat.lt_or_ge a b with g | g
 ·exact g
 ·rw[yL g]at h;cases h
theorem kLg:∀az e nw,(oLg lgZ az).run=some (e,nw)→∀k,KnP Tryz.prog k 38 az e nw:=by
 intro az e nw h k;unfold oLg at h;split at h
 ·rename_i l;obtain⟨f,j⟩:=zS h;cases j;have q:((qK Tryz.prog (evD Tryz.prog (odT []) (LL7) 60) 38 [.ls .a wT l] []).bind qQ).run=yB (lgZ l):=by
   rw[eLg,lpLg l (jC f)];unfold lgZ;cases lgF l with
   | none=>rfl
   | some c=>exact qXl l.length c
  exact kF (cz:=[.ls .a wT l]) yT yG qEz q rfl k
 ·cases h
noncomputable abbrev wdY(y:Option (Ex×Hs)):Option (T×Bool):=bif shT shWx y then yB (ilt 20 (.ofNat (lOf zL (hdT (hsO y).hs)).length))else(bif shT qOk y then yB (bOf (hdT (hsO y).hs))else none)
theorem eWd(l:List Rt):((qK Tryz.prog (evD Tryz.prog (odT []) (LL7) 60) 65 [.ls .a zL l] []).bind qQ).run=wdY (lpF (zUz (odT []) (loT [])) l.length (iWd l 0)):=by kernel_rfl
noncomputable def wdZ(l:List Rt):Bool:=bif wdF l then true else ilt 20 (.ofNat l.length)
noncomputable def oWd(fW:List Rt→Bool):List T→DT (T×Bool)
 | [.ls .a zL l]=>grd (Nat.blt l.length 9223372036854775807) (.ret (.v (.bool (fW l)),true))
 | _=> .no
theorem kWd:∀az e nw,(oWd wdZ az).run=some (e,nw)→∀k,KnP Tryz.prog k 65 az e nw:=by
 intro az e nw h k;unfold oWd at h;split at h
 ·rename_i l;obtain⟨f,j⟩:=zS h;cases j;have q:((qK Tryz.prog (evD Tryz.prog (odT []) (LL7) 60) 65 [.ls .a zL l] []).bind qQ).run=yB (wdZ l):=by
   rw[eWd,lpWd l (jC f)];unfold wdZ;cases wdF l<;>rfl
  exact kF (cz:=[.ls .a zL l]) yT yG qEz q rfl k
 ·cases h
noncomputable def oAw:List T→DT (T×Bool)
 | []=> .ret (.v (.bool true),true)
 | _=> .no
section
variable (fL:List Wt→Bool)(fW:List Rt→Bool)(mR:List Wt→List Wt→Raw→List Wt)(mE:List Wt→List Wt→Raw→Int)(fr:Int→Raw)(cE:List Wt→Int)(sM:List Wt→List Wt→Bool)
noncomputable abbrev gw(a b:List Wt){α:Type}(x:Option α):Option α:=gd (Nat.ble a.length 100000&&Nat.ble b.length 100000) x
end
theorem jCm:zJi 0=0:=by unfold zJi;rw[if_pos];exact⟨by decide,by decide⟩
theorem jCn:zJi 1=0:=by
 unfold zJi;rw[if_pos];have:(1:Nat)<jQ:=Nat.lt_of_lt_of_le (show 1<4294967296^1 by omega) (Nat.pow_le_pow_right (by omega) (by omega))
 exact⟨this,Nat.lt_of_le_of_lt (show mF 1≤1 by decide) this⟩
theorem fr1:frA 1=Raw.of 1:=by show Raw.of ((1:Int):Rat)=_;rw[Rat.intCast_one]
theorem fr0:frA 0=Raw.of 0:=by show Raw.of ((0:Int):Rat)=_;rw[Rat.intCast_zero]
theorem qKu:(frA 1).chk=0:=by rw[fr1];exact Raw.of_chk jCn
theorem qKs:(frA 0).chk=0:=by rw[fr0];exact Raw.of_chk jCm
theorem qKv:(frA 1).rat=1:=by rw[fr1];exact Raw.of_rat 1
theorem qKt:(frA 0).rat=0:=by rw[fr0];exact Raw.of_rat 0
theorem qMd{a b c a2 b2 e:Int}:leP (a,b,c) (a2,b2,e)=true↔a<a2∨a=a2∧(b<b2∨b=b2∧c<e):=by
 show(bif !ieq a a2 then ilt a a2 else(bif !ieq b b2 then ilt b b2 else ilt c e))=true↔_;by_cases f:a=a2
 ·rw[xU f,Bool.not_true,zf];by_cases j:b=b2
  ·rw[xU j,Bool.not_true,zf,xN];omega
  ·rw[qQm j,Bool.not_false,ze,xN];omega
 ·rw[qQm f,Bool.not_false,ze,xN];omega
theorem qTp{p q:Pt}(h:ilt (cpP p q) 0=true):leP p q=true:=by
 obtain⟨a,b,c⟩:=p;obtain⟨a2,b2,y⟩:=q;rw[qMd];have j:∀{a b:Int},(ieq (cmI a b) 0=true→a=b)∧(ilt (cmI a b) 0=true→a<b):=fun{a b}=>by
  unfold cmI;cases e:ilt a b with
  | true=>exact⟨fun h=>(by cases h),fun _=>xN.1 e⟩
  | false=>
   have k1:¬a<b:=fun k=>by rw[zEi k]at e;cases e
   cases f:ilt b a with
   | true=>exact⟨fun h=>(by cases h),fun h=>(by cases h)⟩
   | false=>
    have k2:¬b<a:=fun k=>by rw[zEi k]at f;cases f
    exact⟨fun _=>(by omega),fun h=>(by cases h)⟩
 have h:ilt (bif !ieq (cmI a a2) 0 then cmI a a2 else(bif !ieq (cmI b b2) 0 then cmI b b2 else(bif !ieq (cmI c y) 0 then cmI c y else 0))) 0=true:=h;cases e:ieq (cmI a a2) 0 with
 | false=>rw[e]at h;exact .inl (j.2 h)
 | true=>
  have z:=j.1 e;rw[e]at h;cases f:ieq (cmI b b2) 0 with
  | false=>rw[f]at h;exact .inr ⟨z,.inl (j.2 h)⟩
  | true=>
   have B:=j.1 f;rw[f]at h;cases A:ieq (cmI c y) 0 with
   | false=>rw[A]at h;exact .inr ⟨z,.inr ⟨B,j.2 h⟩⟩
   | true=>rw[A]at h;cases h
noncomputable abbrev gB(l:List Wt)(j:Nat):Unit⊕Option Int:=gB0 Raw.chk l j ()
theorem qVj{l:List Wt}{i:Nat}(h:gB l i= .inl ()):(0<i→leP (wA l (i-1)).1 (wA l i).1=true)∧(rw' (wA l i).2).chk=0∧(wA l i).2.2.1≠[]:=by
 unfold gB gB0 at h;cases k:zEv (wA l i).1 with
 | true=>rw[k]at h;cases h
 | false=>
  rw[k,zf]at h;cases f:(ilt 0 (.ofNat i)&&!ilt (cpP (wA l (i-1)).1 (wA l i).1) 0)with
  | true=>rw[f]at h;cases h
  | false=>
   rw[f,zf]at h;cases j:ieq (Raw.chk (rw' (wA l i).2)) 0 with
   | false=>rw[j]at h;cases h
   | true=>
    rw[j]at h;refine⟨fun z=>?_,qL.1 j,fun e=>?_⟩
    ·rw[zEi (show(0:Int)<.ofNat i by simpa using z),Bool.true_and]at f
     cases q:ilt (cpP (wA l (i-1)).1 (wA l i).1) 0 with
     | true=>exact qTp q
     | false=>rw[q]at f;cases f
    ·rw[e]at h;cases y:(wA l i).2.1<;>rw[y]at h<;>cases h
theorem qDy{l:List Wt}{i:Nat}{y:Option Int}(h:gB l i= .inr y):∃e,e≠0∧y=some e:=by
 unfold gB gB0 at h;cases j:zEv (wA l i).1 with
 | true=>rw[j]at h;cases h;exact⟨7,by decide,rfl⟩
 | false=>
  rw[j,zf]at h;cases k:(ilt 0 (.ofNat i)&&!ilt (cpP (wA l (i-1)).1 (wA l i).1) 0)with
  | true=>rw[k]at h;cases h;exact⟨2,by decide,rfl⟩
  | false=>
   rw[k,zf]at h;cases f:ieq (Raw.chk (rw' (wA l i).2)) 0 with
   | false=>
    rw[f]at h;cases h;exact⟨_,fun e=>(by rw[xU e]at f;cases f),rfl⟩
   | true=>
    rw[f]at h;cases q:((wA l i).2.1||ieq (.ofNat (wA l i).2.2.1.length) 0)with
    | true=>rw[q]at h;cases h;exact⟨1,by decide,rfl⟩
    | false=>rw[q]at h;cases h
theorem zPc{l:List Wt}:∀(k i:Nat),fol (gB0 Raw.chk l) (fun _=>none) k i ()=none→∀j,i≤j→j<i+k→gB l j= .inl ()
 | 0,i,_,j,z,A=>by omega
 | k+1,i,h,j,z,A=>by
  simp only[fol]at h;cases q:gB l i with
  | inl B=>
   have f:gB0 Raw.chk l i ()= .inl B:=q;rw[f]at h;rcases Nat.eq_or_lt_of_le z with rfl | hlt
   ·exact q
   ·exact zPc k (i+1) h j hlt (by omega)
  | inr y=>
   have f:gB0 Raw.chk l i ()= .inr y:=q;rw[f]at h;obtain⟨e,_,rfl⟩:=qDy q;cases h
theorem zGt{l:List Wt}{e:Int}:∀(k i:Nat),fol (gB0 Raw.chk l) (fun _=>none) k i ()=some e→e≠0
 | 0,i,h=>by cases h
 | k+1,i,h=>by
  simp only[fol]at h;cases j:gB l i with
  | inl z=>
   have f:gB0 Raw.chk l i ()= .inl z:=j;rw[f]at h;exact zGt k (i+1) h
  | inr y=>
   have f:gB0 Raw.chk l i ()= .inr y:=j;rw[f]at h;obtain⟨A,q,rfl⟩:=qDy j;cases h;exact q
theorem jBm{l:List Wt}(h:bE l=0):∀j,j<l.length→gB l j= .inl ():=by
 unfold bE bcE at h;cases k:Nat.beq l.length 0 with
 | true=>rw[k]at h;cases h
 | false=>
  rw[k,zf]at h;cases q:Nat.blt 4096 l.length with
  | true=>rw[q]at h;cases h
  | false=>
   rw[q,zf]at h;cases f:b0F Raw.chk l with
   | some e=>
    rw[f]at h;exact absurd h (zGt l.length 0 f)
   | none=>exact fun j y=>zPc l.length 0 f j (Nat.zero_le _) (by omega)
section
variable {a b:List Wt}{w v:Raw}
end
noncomputable abbrev nT:Ty:= .int .i64
noncomputable abbrev spT:Ty:= .prod nT nT
noncomputable abbrev vi(n:Int):T:= .v (.int .i64 n)
noncomputable abbrev vn(n:Nat):T:= .v (.int .i64 (.ofNat n))
noncomputable abbrev nI(l:List Int)(i:Nat):Int:=nth nT.zero l i
noncomputable def iIx(f e:Int)(l:List Int)(n i:Nat):Hs:=⟨[.ls .a nT l,vn n,vn i],[],[[vi f,vi e]]⟩
noncomputable def Lix:Lp:=⟨1,
 ⟨[.h,.t (.fn 242 [.op 0 0])]++(us' 5++([.h,.h]++(us' 10))),[.r [.h,.h] 239]⟩,
 ⟨us' 19,[.g]⟩,
 ⟨us' 4++([.h]++(us' 14)),[.g]⟩⟩
noncomputable abbrev qPk:Code:=lpc Tryz.prog 269 [false,true,false,true]
theorem qSe:cAt Tryz.prog 269 [false,true,false,true]=some (.loop qPk):=by kernel_rfl
noncomputable abbrev zUv(OD:Od)(e:Lo):Hs→Option (Hs⊕(Ex×Hs)):=Lix.stp (evD Tryz.prog OD e 60) 269 [false,true,false,true] qPk
theorem sIx(f e:Int)(l:List Int)(n i:Nat):zUv (odT []) (loT []) (iIx f e l n i)=bif ilt (.ofNat i) (.ofNat n)then gd (Nat.blt i l.length) (bif ilt (nth nT.zero l i) f then some (.inr (.r,⟨[vn i],[],[[]]⟩))else(bif ilt e (nth nT.zero l i)then some (.inr (.r,⟨[vn i],[],[[]]⟩))else nx i (.inl (iIx f e l n (i+1)))))else some (.inr (.x 0,⟨[],[],[[]]⟩)):=by kernel_rfl
noncomputable def oI(f e x:Int):Bool:=ilt x f||ilt e x
noncomputable def gIx(f e:Int)(l:List Int)(i:Nat)(_:Unit):Unit⊕Option Nat:=bif oI f e (nI l i)then .inr (some i)else .inl ()
noncomputable def ixF(f e:Int)(l:List Int):Option Nat:=fol (gIx f e l) (fun _=>none) l.length 0 ()
noncomputable def qQw:Option Nat→Ex×Hs
 | none=>(.x 0,⟨[],[],[[]]⟩)
 | some i=>(.r,⟨[vn i],[],[[]]⟩)
theorem lpIx(f e:Int)(l:List Int)(k:l.length<9223372036854775807):lpF (zUv (odT []) (loT [])) l.length (iIx f e l l.length 0)=some (qQw (ixF f e l)):=
 jP (iv:=fun i(_:Unit)=>iIx f e l l.length i) (g:=gIx f e l) (d:=fun _=>none) (out:=qQw) (n:=l.length) (fun _ _=>True)
  (fun i _ j _=>by
   rw[sIx];show(bif Nat.blt i l.length then _ else _)=_;unfold gIx oI nI;simp only[gd,zP j,ze,xZ (show i+1<9223372036854775808 by omega)]
   cases ilt (nth nT.zero l i) f<;>cases ilt e (nth nT.zero l i)<;>rfl)
  (fun _ _ _ _ _ _=>trivial)
  (fun _ _=>by rw[sIx];show(bif Nat.blt l.length l.length then _ else _)=_;rw[yL (Nat.le_refl _),zf];rfl) l.length 0 () (by omega) trivial
noncomputable def qRm:Sh:=⟨.x 0,[],[],[[]]⟩
noncomputable def qRl:Sh:=⟨.r,[.i .i64],[],[[]]⟩
noncomputable abbrev LIx:Lo:=loT [(269,[false,true,false,true],Lix.row (lpR (zUv (odT []) (loT [])) (fun q=>lnO (nth .u q.hs 0)) [qRm,qRl]))]
noncomputable abbrev yIx(f e:Int)(l:List Int):Option (Ex×Hs):=lpF (zUv (odT []) (loT [])) l.length (iIx f e l l.length 0)
theorem eHas(f e:Int)(l:List Int):((qK Tryz.prog (evD Tryz.prog (odT []) (LIx) 60) 184 [.ag [vi f,vi e],.ls .a nT l] []).bind qQ).run=bif shT qRm ((yIx f e l))then some (.v (.bool true),true)else gd (shT qRl ((yIx f e l))) (some (.v (.bool (bif !(ilt (iOf (hdT ((hsO ((yIx f e l))).hs))) 0)then false else true)),true)):=by kernel_rfl
theorem qXn:vY Tryz.prog LIx:=jX qA lV qSe zHd
noncomputable def yF(f e:Int)(l:List Int):Bool:=match ixF f e l with
 | none=>true
 | some _=>false
noncomputable def qMu:List T→DT (T×Bool)
 | [.ag [.v (.int .i64 f),.v (.int .i64 e)],.ls .a (.int .i64) l]=>grd (Nat.blt l.length 9223372036854775807) (.ret (.v (.bool (yF f e l)),true))
 | _=> .no
theorem kHas:∀az y nw,(qMu az).run=some (y,nw)→∀k,KnP Tryz.prog k 184 az y nw:=by
 intro az y nw h k;unfold qMu at h;split at h
 ·rename_i j f l;obtain⟨z,A⟩:=zS h;cases A;have q:=eHas j f l;rw[show yIx j f l=_ from lpIx j f l (jC z)]at q;have e:((qK Tryz.prog (evD Tryz.prog (odT []) (LIx) 60) 184 [.ag [vi j,vi f],.ls .a nT l] []).bind qQ).run=yB (yF j f l):=by
   rw[q];unfold yF;cases ixF j f l<;>rfl
  exact kF (cz:=[.ag [vi j,vi f],.ls .a nT l]) yT yG qXn e rfl k
 ·cases h
theorem qKx{q j:Int}{l:List Int}{i:Nat}(h:oI q j (nI l i)=false):q≤nI l i∧nI l i≤j:=by
 unfold oI at h;simp only[Bool.or_eq_false_iff]at h;obtain⟨e,f⟩:=h;exact⟨Int.not_lt.1 fun k=>(by rw[zEi k]at e;cases e),Int.not_lt.1 fun k=>(by rw[zEi k]at f;cases f)⟩
theorem zVv{q f:Int}{l:List Int}:∀(k i:Nat),fol (gIx q f l) (fun _=>none) k i ()=none→∀j,i≤j→j<i+k→q≤nI l j∧nI l j≤f
 | 0,i,_,j,y,z=>by omega
 | k+1,i,h,j,y,z=>by
  simp only[fol,gIx]at h;cases e:oI q f (nI l i)with
  | true=>rw[e]at h;cases h
  | false=>
   rw[e]at h;rcases Nat.eq_or_lt_of_le y with rfl | hlt
   ·exact qKx e
   ·exact zVv k (i+1) h j hlt (by omega)
theorem qXx{l:List Int}{i:Nat}(e:i<l.length):nI l i=l[i]:=by rw[nI,qX];simp[e]
theorem qWi{f e:Int}{l:List Int}(h:yF f e l=true){j:Nat}(q:j<l.length):f≤nI l j∧nI l j≤e:=by
 unfold yF at h;cases k:ixF f e l with
 | some i=>rw[k]at h;cases h
 | none=>exact zVv l.length 0 k j (Nat.zero_le _) (by omega)
noncomputable def iC1(g:List (List Int))(c:List Int)(f:List (List Int))(n k:Nat)(e:List Int)(m i:Nat):Hs:=⟨[.ls .a nT.list g,.ls .a nT c,.ls .a nT.list f,vn n,vn k,.ls .a nT e,vn m,vn i],[],[]⟩
noncomputable def Lc1:Lp:=⟨0,
 ⟨[.h]++(us' 3++([.h]++(us' 10++([.h,.h,.h]++(us' 11++([.h,.h,.h]++(us' 28))))))),[]⟩,
 ⟨[.h]++(us' 14++([.h,.h,.h]++(us' 42))),[]⟩,
 ⟨[.u,.u,.h]++(us' 57),[]⟩⟩
noncomputable abbrev qPg:Code:=lpc Tryz.prog 157 [false,true,true,true,false,false,true,true,false,false,true,false,true,true]
theorem qRz:cAt Tryz.prog 157 [false,true,true,true,false,false,true,true,false,false,true,false,true,true]=some (.loop qPg):=by kernel_rfl
noncomputable abbrev qAq(OD:Od)(e:Lo):Hs→Option (Hs⊕(Ex×Hs)):=Lc1.stp (evD Tryz.prog OD e 60) 157 [false,true,true,true,false,false,true,true,false,false,true,false,true,true] qPg
theorem sC1(g f:List (List Int))(c e:List Int)(n k m i:Nat):qAq (odT []) (loT []) (iC1 g c f n k e m i)=bif ilt (.ofNat i) (.ofNat m)then gd (Nat.blt i e.length) (bif ilt (nth nT.zero e i) (Int.negSucc 1073741823)then some (.inr (.r,⟨[vn 1],[],[]⟩))else(bif ilt (.ofNat 1073741824) (nth nT.zero e i)then some (.inr (.r,⟨[vn 1],[],[]⟩))else(bif ilt (.ofNat 0) (.ofNat i)then gd (inW (pr i)) (gd (nng (pr i)) (gd (Nat.blt ((pr i).toNat) c.length) (bif !(ilt (nth nT.zero c ((pr i).toNat)) (nth nT.zero e i))then some (.inr (.r,⟨[vn 1],[],[]⟩))else nx i (.inl (iC1 g c f n k e m (i+1))))))else nx i (.inl (iC1 g c f n k e m (i+1))))))else some (.inr (.x 4,⟨[.ls .a nT.list g,.ls .a nT.list f,vn n,vn k],[],[]⟩)):=by kernel_rfl
noncomputable def qCt(c e:List Int)(i:Nat):Bool:=ilt (nI e i) (Int.negSucc 1073741823)||(ilt (.ofNat 1073741824) (nI e i)||(ilt (.ofNat 0) (.ofNat i)&&!ilt (nI c (i-1)) (nI e i)))
noncomputable def gC1(c e:List Int)(i:Nat)(_:Unit):Unit⊕Bool:=bif qCt c e i then .inr true else .inl ()
noncomputable def c1F(c e:List Int):Bool:=fol (gC1 c e) (fun _=>false) e.length 0 ()
noncomputable def zXa(g e:List (List Int))(n k:Nat):Bool→Ex×Hs
 | false=>(.x 4,⟨[.ls .a nT.list g,.ls .a nT.list e,vn n,vn k],[],[]⟩)
 | true=>(.r,⟨[vn 1],[],[]⟩)
theorem prS(i:Nat):pr (i+1)= .ofNat i:=by show((i+1:Nat):Int)-1=(i:Int);omega
theorem yP{i:Nat}(h:i<9223372036854775808):inW (.ofNat i)=true:=zP h
theorem lpC1(g j:List (List Int))(c f:List Int)(n k:Nat)(z:f.length<9223372036854775807)(A:f.length≤c.length):lpF (qAq (odT []) (loT [])) f.length (iC1 g c j n k f f.length 0)=some (zXa g j n k (c1F c f)):=
 jP (iv:=fun i(_:Unit)=>iC1 g c j n k f f.length i) (g:=gC1 c f) (d:=fun _=>false) (out:=zXa g j n k) (n:=f.length) (fun _ _=>True)
  (fun i _ q _=>by
   rw[sC1];show(bif Nat.blt i f.length then _ else _)=_;unfold gC1 qCt nI;simp only[gd,zP q,ze,xZ (show i+1<9223372036854775808 by omega)]
   cases i with
   | zero=>
    have e:ilt (.ofNat 0) (.ofNat 0)=false:=rfl;rw[e];cases ilt (nth nT.zero f 0) (Int.negSucc 1073741823)<;>cases ilt (.ofNat 1073741824) (nth nT.zero f 0)<;>rfl
   | succ i=>
    have e:ilt (.ofNat 0) (.ofNat (i+1))=true:=rfl;rw[e,prS,yP (show i<9223372036854775808 by omega)]
    have y:(Int.ofNat i).toNat=i:=rfl;rw[y];simp only[nng,zP (show i<c.length by omega),ze,Nat.add_sub_cancel]
    cases ilt (nth nT.zero f (i+1)) (Int.negSucc 1073741823)<;>cases ilt (.ofNat 1073741824) (nth nT.zero f (i+1))<;>cases ilt (nth nT.zero c i) (nth nT.zero f (i+1))<;>rfl)
  (fun _ _ _ _ _ _=>trivial)
  (fun _ _=>by rw[sC1];show(bif Nat.blt f.length f.length then _ else _)=_;rw[yL (Nat.le_refl _),zf];rfl) f.length 0 () (by omega) trivial
noncomputable def hC1:Hs→DT (Ex×Hs)
 | ⟨[.ls .a (.list (.int .i64)) g,.ls .a (.int .i64) c,.ls .a (.list (.int .i64)) f,.v (.int .i64 (.ofNat n)),.v (.int .i64 (.ofNat k)),.ls .a (.int .i64) e,.v (.int .i64 (.ofNat m)),.v (.int .i64 (.ofNat 0))],[],[]⟩=>grd (Nat.beq m e.length&&(Nat.ble e.length c.length&&Nat.blt e.length 9223372036854775807)) (.ite (c1F c e) (.ret (zXa g f n k true)) (.ret (zXa g f n k false)))
 | _=> .no
theorem qVu:∀q y,(hC1 q).run=some y→∃n,It (qAq (odT []) (loT [])) n q y:=fun q y h=>by
 unfold hC1 at h;split at h
 ·rename_i g c z n k e m;obtain⟨f,j⟩:=zS h;simp only[zd,Nat.ble_eq]at f;obtain⟨A,B,E⟩:=f;obtain rfl:=zY A;have:=kT _ _ (lpC1 g z c e n k (jC E) B);cases hb:c1F c e<;>rw[hb]at j this<;>cases j<;>exact this
 ·cases h
noncomputable abbrev LC1:Lo:=loT [(157,[false,true,true,true,false,false,true,true,false,false,true,false,true,true],Lc1.row hC1)]
theorem qXf:vY Tryz.prog LC1:=jX qA lV qRz qVu
noncomputable def iC0(q g:List (List Int))(n k:Nat):Hs:=⟨[.ls .a nT.list q,.ls .a nT.list g,vn n,vn k],[],[]⟩
noncomputable def iSz(v:Int)(g:List (List Int))(n k:Nat):Hs:=⟨[vi v,.ls .a nT.list g,vn n,vn k],[],[]⟩
noncomputable abbrev gI(g:List (List Int))(k:Nat):List Int:=nth nT.list.zero g k
noncomputable def Lc0:Lp:=⟨0,
 ⟨[.h]++(us' 14++([.h,.h,.h]++(us' 42))),[]⟩,
 ⟨[.h]++(us' 59),[]⟩,
 ⟨[.u,.u,.h]++(us' 57),[]⟩⟩
noncomputable abbrev qPf:Code:=lpc Tryz.prog 157 [false,true,false,true,true]
theorem qRy:cAt Tryz.prog 157 [false,true,false,true,true]=some (.loop qPf):=by kernel_rfl
noncomputable abbrev qAp(OD:Od)(e:Lo):Hs→Option (Hs⊕(Ex×Hs)):=Lc0.stp (evD Tryz.prog OD e 60) 157 [false,true,false,true,true] qPf
noncomputable def Lsz:Lp:=⟨0,
 ⟨us' 3++([.h,.u,.u,.h,.h,.h]++(us' 9)),[]⟩,
 ⟨us' 3++([.h]++(us' 14)),[]⟩,
 ⟨[.u,.u,.h]++(us' 15),[]⟩⟩
noncomputable abbrev qPr:Code:=lpc Tryz.prog 228 [false,true,false,true,true]
theorem qSl:cAt Tryz.prog 228 [false,true,false,true,true]=some (.loop qPr):=by kernel_rfl
noncomputable abbrev zUy(OD:Od)(e:Lo):Hs→Option (Hs⊕(Ex×Hs)):=Lsz.stp (evD Tryz.prog OD e 60) 228 [false,true,false,true,true] qPr
theorem sC0(q g:List (List Int))(n k:Nat):qAp (odT []) LC1 (iC0 q g n k)=bif ilt (.ofNat k) (.ofNat n)then gd (Nat.blt k g.length) (bif ieq (.ofNat ((gI g k).length)) (.ofNat 0)then some (.inr (.r,⟨[vn 3],[],[]⟩))else(bif ilt (.ofNat 32) (.ofNat ((gI g k).length))then some (.inr (.r,⟨[vn 4],[],[]⟩))else gd ((Nat.beq ((gI g k).length) ((gI g k).length))&&((Nat.ble ((gI g k).length) ((gI g k).length))&&(Nat.blt ((gI g k).length) 9223372036854775807))) (bif c1F (gI g k) (gI g k)then some (.inr (.r,⟨[vn 1],[],[]⟩))else nx k (.inl (iC0 q g n (k+1))))))else some (.inr (.x 1,⟨[.ls .a nT.list q],[],[]⟩)):=by kernel_rfl
theorem sSz(v:Int)(g:List (List Int))(n k:Nat):zUy (odT []) (loT []) (iSz v g n k)=bif ilt (.ofNat k) (.ofNat n)then gd (Nat.blt k g.length) (gd (inW (v.mul (.ofNat ((gI g k).length)))) (nx k (.inl (iSz (v.mul (.ofNat ((gI g k).length))) g n (k+1)))))else some (.inr (.x 0,⟨[vi v],[],[]⟩)):=by kernel_rfl
noncomputable def gC0(g:List (List Int))(k:Nat)(_:Unit):Unit⊕Option Int:=bif ieq (.ofNat (gI g k).length) (.ofNat 0)then .inr (some 3)else(bif ilt (.ofNat 32) (.ofNat (gI g k).length)then .inr (some 4)else(bif c1F (gI g k) (gI g k)then .inr (some 1)else .inl ()))
noncomputable def c0F(g:List (List Int)):Option Int:=fol (gC0 g) (fun _=>none) g.length 0 ()
noncomputable def zWz(q:List (List Int)):Option Int→Ex×Hs
 | none=>(.x 1,⟨[.ls .a nT.list q],[],[]⟩)
 | some e=>(.r,⟨[vi e],[],[]⟩)
theorem zHa{c:List Int}(h:ilt (.ofNat 32) (.ofNat c.length)=false):c.length≤32:=by
 have h:Nat.blt 32 c.length=false:=h;rcases Nat.lt_or_ge 32 c.length with g | g
 ·rw[zP g]at h;cases h
 ·exact g
theorem lpC0(q g:List (List Int))(j:g.length<9223372036854775807):lpF (qAp (odT []) LC1) g.length (iC0 q g g.length 0)=some (zWz q (c0F g)):=
 jP (iv:=fun k(_:Unit)=>iC0 q g g.length k) (g:=gC0 g) (d:=fun _=>none) (out:=zWz q) (n:=g.length) (fun _ _=>True)
  (fun k _ e _=>by
   rw[sC0];show(bif Nat.blt k g.length then _ else _)=_;unfold gC0;cases f:ilt (.ofNat 32) (.ofNat (gI g k).length)with
   | true=>simp only[gd,zP e,ze];cases ieq (.ofNat (gI g k).length) (.ofNat 0)<;>rfl
   | false=>
    have:=zHa f;simp only[gd,zP e,ze,zf,xZ (show k+1<9223372036854775808 by omega),kG,kZ (Nat.le_refl (gI g k).length),zP (show(gI g k).length<9223372036854775807 by omega),Bool.and_self]
    cases ieq (.ofNat (gI g k).length) (.ofNat 0)<;>cases c1F (gI g k) (gI g k)<;>rfl)
  (fun _ _ _ _ _ _=>trivial)
  (fun _ _=>by rw[sC0];show(bif Nat.blt g.length g.length then _ else _)=_;rw[yL (Nat.le_refl _),zf];rfl) g.length 0 () (by omega) trivial
noncomputable def isN{α:Type}:Option α→Bool
 | none=>true
 | some _=>false
noncomputable def eN:Option Int→Int
 | none=>0
 | some e=>e
noncomputable def hC0:Hs→DT (Ex×Hs)
 | ⟨[.ls .a (.list (.int .i64)) q,.ls .a (.list (.int .i64)) g,.v (.int .i64 (.ofNat n)),.v (.int .i64 (.ofNat 0))],[],[]⟩=>grd (Nat.beq n g.length&&Nat.blt g.length 9223372036854775807) (.ite (isN (c0F g)) (.ret (zWz q none)) (.ret (zWz q (some (eN (c0F g))))))
 | _=> .no
theorem qZs:gT Tryz.prog (evD Tryz.prog (odT []) LC1 60):=kQ yT yG qXf 60
theorem qVt:∀q y,(hC0 q).run=some y→∃n,It (qAp (odT []) LC1) n q y:=fun q y h=>by
 unfold hC0 at h;split at h
 ·rename_i q g n;obtain⟨e,f⟩:=zS h;simp only[zd]at e;obtain rfl:=zY e.1;have:=kT _ _ (lpC0 q g (jC e.2));cases hb:c0F g<;>rw[hb]at f this<;>cases f<;>exact this
 ·cases h
noncomputable def smG(g:List (List Int)):Bool:=Nat.ble g.length 4&&g.all fun c=>Nat.ble c.length 32
noncomputable def szF(g:List (List Int)):Int:=fol (fun k(v:Int)=>(.inl (v.mul (.ofNat (gI g k).length)):Int⊕Int)) id g.length 0 1
theorem qDz{g:List (List Int)}{k:Nat}(h:k<g.length):gI g k=g[k]:=by rw[gI,qX];simp[h]
theorem jAd{g:List (List Int)}(h:smG g=true):g.length≤4∧∀k,k<g.length→(gI g k).length≤32:=by
 simp only[smG,zd,Nat.ble_eq,List.all_eq_true]at h;exact⟨h.1,fun k e=>h.2 _ (by rw[qDz e];exact List.getElem_mem e)⟩
theorem zCq{v:Int}(h:0≤v)(e:v<9223372036854775808):inW v=true:=by
 obtain⟨m,rfl⟩:=Int.eq_ofNat_of_zero_le h;exact yP (show m<9223372036854775808 by omega)
theorem lpSz{g:List (List Int)}(h:smG g=true):lpF (zUy (odT []) (loT [])) g.length (iSz 1 g g.length 0)=some (.x 0,⟨[vi (szF g)],[],[]⟩):=by
 obtain⟨B,q⟩:=jAd h;exact jP (st:=zUy (odT []) (loT [])) (iv:=fun k v=>iSz v g g.length k) (g:=fun k(v:Int)=>(.inl (v.mul (.ofNat (gI g k).length)):Int⊕Int)) (d:=id) (out:=fun v=>(.x 0,⟨[vi v],[],[]⟩)) (n:=g.length) (fun k v=>0≤v∧v≤32^k)
  (fun k v f e=>by
   rw[sSz];show(bif Nat.blt k g.length then _ else _)=_;have hp:(32:Int)^k≤32^4:=by rcases(show k=0∨k=1∨k=2∨k=3 by omega)with rfl | rfl | rfl | rfl<;>decide
   have j:=q k f;have y:0≤v.mul (.ofNat (gI g k).length):=Int.mul_nonneg e.1 (Int.natCast_nonneg _);have A:v.mul (.ofNat (gI g k).length)≤32^4*32:=Int.mul_le_mul (Int.le_trans e.2 hp) (show((gI g k).length:Int)≤32 by omega) (Int.natCast_nonneg _) (by decide)
   simp only[gd,zP f,ze,zCq y (by have:(32:Int)^4*32=33554432:=rfl;omega),xZ (show k+1<9223372036854775808 by omega)])
  (fun k v E f e z=>by
   cases z;have j:=q k f;refine⟨Int.mul_nonneg e.1 (Int.natCast_nonneg _),?_⟩;rw[Int.pow_succ];exact Int.mul_le_mul e.2 (show((gI g k).length:Int)≤32 by omega) (Int.natCast_nonneg _) (Int.le_trans e.1 e.2))
  (fun v e=>by rw[sSz];show(bif Nat.blt g.length g.length then _ else _)=_;rw[yL (Nat.le_refl _),zf];rfl) g.length 0 1 (by omega) ⟨by decide,by decide⟩
noncomputable def hSz:Hs→DT (Ex×Hs)
 | ⟨[.v (.int .i64 (.ofNat 1)),.ls .a (.list (.int .i64)) g,.v (.int .i64 (.ofNat n)),.v (.int .i64 (.ofNat 0))],[],[]⟩=>grd (Nat.beq n g.length&&smG g) (.ret (.x 0,⟨[vi (szF g)],[],[]⟩))
 | _=> .no
theorem qWg:∀q y,(hSz q).run=some y→∃n,It (zUy (odT []) (loT [])) n q y:=fun q y h=>by
 unfold hSz at h;split at h
 ·rename_i g n;obtain⟨e,f⟩:=zS h;simp only[zd]at e;obtain rfl:=zY e.1;have:=kT _ _ (lpSz e.2);cases f;exact this
 ·cases h
noncomputable abbrev LC:Lo:=loT [(157,[false,true,false,true,true],Lc0.row hC0),(228,[false,true,false,true,true],Lsz.row hSz)]
theorem jBz:vY Tryz.prog LC:=jX (jX qA lV qSl qWg) qZs qRy qVt
theorem eIc(g:List (List Int)):((qK Tryz.prog (evD Tryz.prog (odT []) (LC) 60) 157 [.ls .a nT.list g] []).bind qQ).run=bif ieq (.ofNat g.length) (.ofNat 0)then some (vn 3,true)else(bif ilt (.ofNat 4) (.ofNat g.length)then some (vn 4,true)else gd ((Nat.beq g.length g.length)&&(Nat.blt g.length 9223372036854775807)) (bif isN (c0F g)then gd ((Nat.beq g.length g.length)&&(smG g)) (bif ilt (.ofNat 256) (szF g)then some (vn 10,true)else some (vn 0,true))else some (vi (eN (c0F g)),true))):=by kernel_rfl
noncomputable def icE(g:List (List Int)):Int:=bif ieq (.ofNat g.length) (.ofNat 0)then 3 else(bif ilt (.ofNat 4) (.ofNat g.length)then 4 else(bif isN (c0F g)then(bif ilt (.ofNat 256) (szF g)then 10 else 0)else eN (c0F g)))
theorem zAo{γ:Type}{g:Nat→Unit→Unit⊕γ}{d:γ}(f:∀i y,g i ()= .inr y→y≠d):∀(k i:Nat),fol g (fun _=>d) k i ()=d→∀j,i≤j→j<i+k→g j ()= .inl ()
 | 0,i,_,j,e,q=>by omega
 | k+1,i,h,j,e,q=>by
  simp only[fol]at h;cases H:g i ()with
  | inr y=>rw[H]at h;exact absurd h (f i y H)
  | inl x=>
   rw[H]at h;rcases Nat.eq_or_lt_of_le e with rfl | hlt
   ·exact H
   ·exact zAo f k (i+1) h j hlt (by omega)
theorem zVr{g:List (List Int)}{i:Nat}{y:Option Int}(h:gC0 g i ()= .inr y):∃e,y=some e∧e≠0:=by
 unfold gC0 at h;cases f:ieq (.ofNat (gI g i).length) (.ofNat 0)with
 | true=>rw[f]at h;cases h;exact⟨3,rfl,by decide⟩
 | false=>
  rw[f]at h;cases j:ilt (.ofNat 32) (.ofNat (gI g i).length)with
  | true=>rw[j]at h;cases h;exact⟨4,rfl,by decide⟩
  | false=>
   rw[j]at h;cases k:c1F (gI g i) (gI g i)with
   | true=>rw[k]at h;cases h;exact⟨1,rfl,by decide⟩
   | false=>rw[k]at h;cases h
theorem zVe{g:List (List Int)}(h:c0F g=none){k:Nat}(B:k<g.length):1≤(gI g k).length∧(gI g k).length≤32∧c1F (gI g k) (gI g k)=false:=by
 have H:=zAo (g:=gC0 g) (d:=none) (fun i y z e=>by obtain⟨A,f,_⟩:=zVr z;rw[e]at f;cases f) g.length 0 h k (Nat.zero_le _) (by omega)
 unfold gC0 at H;cases f:ieq (.ofNat (gI g k).length) (.ofNat 0)with
 | true=>rw[f]at H;cases H
 | false=>
  rw[f]at H;cases j:ilt (.ofNat 32) (.ofNat (gI g k).length)with
  | true=>rw[j]at H;cases H
  | false=>
   rw[j]at H;cases q:c1F (gI g k) (gI g k)with
   | true=>rw[q]at H;cases H
   | false=>
    refine⟨?_,zHa j,rfl⟩;rcases Nat.eq_zero_or_pos (gI g k).length with e | e
    ·rw[e]at f;cases f
    ·exact e
theorem jAe{g:List (List Int)}(j:g.length≤4)(h:c0F g=none):smG g=true:=by
 simp only[smG,zd,List.all_eq_true];refine⟨kZ j,fun c q=>?_⟩;obtain⟨k,f⟩:=List.getElem?_of_mem q;have hlt:=(List.getElem?_eq_some_iff.1 f).1;have e:gI g k=c:=by rw[qDz hlt];exact(List.getElem?_eq_some_iff.1 f).2
 have:=(zVe h hlt).2.1;rw[e]at this;exact kZ this
theorem cZ{n:Nat}{c:Nat}(h:ilt (.ofNat n) (.ofNat c)=false):c≤n:=by
 have h:Nat.blt n c=false:=h;rcases Nat.lt_or_ge n c with g | g
 ·rw[zP g]at h;cases h
 ·exact g
noncomputable def oIc:List T→DT (T×Bool)
 | [.ls .a (.list (.int .i64)) g]=> .ret (.v (.int .i64 (icE g)),true)
 | _=> .no
theorem qWl(g:List (List Int)):((qK Tryz.prog (evD Tryz.prog (odT []) (LC) 60) 157 [.ls .a nT.list g] []).bind qQ).run=yI (icE g):=by
 rw[eIc];unfold icE;cases q:ieq (.ofNat g.length) (.ofNat 0)with
 | true=>rfl
 | false=>
  cases f:ilt (.ofNat 4) (.ofNat g.length)with
  | true=>rfl
  | false=>
   have k:=cZ f;simp only[zf,gd,kG,zP (show g.length<9223372036854775807 by omega),Bool.and_self,ze]
   cases j:c0F g with
   | some e=>rfl
   | none=>
    rw[jAe k j];simp only[isN,ze,Bool.and_self];cases ilt (.ofNat 256) (szF g)<;>rfl
theorem kIc:∀az e nw,(oIc az).run=some (e,nw)→∀k,KnP Tryz.prog k 157 az e nw:=by
 intro az e nw h k;unfold oIc at h;split at h
 ·rename_i g;cases h;exact kF (cz:=[.ls .a nT.list g]) yT yG jBz (qWl g) rfl k
 ·cases h
theorem vC{a b:Int}(h:ilt a b=false):b≤a:=Int.not_lt.1 fun k=>by rw[zEi k]at h;cases h
structure Grid(g:List (List Int)):Prop where
 le4:g.length≤4
 pos:1≤g.length
 cut:∀k,k<g.length→1≤(gI g k).length∧(gI g k).length≤32∧c1F (gI g k) (gI g k)=false
 size:szF g≤256
theorem zVt{g:List (List Int)}(h:icE g=0):Grid g:=by
 unfold icE at h;cases j:ieq (.ofNat g.length) (.ofNat 0)with
 | true=>rw[j]at h;cases h
 | false=>
  rw[j,zf]at h;cases z:ilt (.ofNat 4) (.ofNat g.length)with
  | true=>rw[z]at h;cases h
  | false=>
   rw[z,zf]at h;have hp:1≤g.length:=by
    rcases Nat.eq_zero_or_pos g.length with e | e
    ·rw[e]at j;cases j
    ·exact e
   cases q:c0F g with
   | some e=>
    rw[q]at h;exfalso;have:∀(k i:Nat),fol (gC0 g) (fun _=>none) k i ()=some e→e≠0:=fun k=>by
     induction k with
     | zero=>intro i f;cases f
     | succ k J=>
      intro i f;simp only[fol]at f;cases H:gC0 g i ()with
      | inl x=>rw[H]at f;exact J (i+1) f
      | inr y=>
       rw[H]at f;obtain⟨K,B,E⟩:=zVr H;rw[B]at f;cases f;exact E
    exact this _ _ q h
   | none=>
    rw[q]at h;refine⟨cZ z,hp,fun k G=>zVe q G,?_⟩;cases A:ilt (.ofNat 256) (szF g)with
    | true=>rw[A]at h;cases h
    | false=>exact vC A
theorem zGm{c:List Int}(h:c1F c c=false){i:Nat}(B:i<c.length): -1073741824≤nI c i∧nI c i≤1073741824∧(0<i→nI c (i-1)<nI c i):=by
 have H:=zAo (g:=gC1 c c) (d:=false) (fun i y f e=>by unfold gC1 at f;cases hb:qCt c c i<;>rw[hb]at f<;>cases f;cases e) c.length 0 h i (Nat.zero_le _) (by omega)
 unfold gC1 at H;cases hb:qCt c c i with
 | true=>rw[hb]at H;cases H
 | false=>
  unfold qCt at hb;simp only[Bool.or_eq_false_iff]at hb;obtain⟨z,A,j⟩:=hb;refine⟨vC z,vC A,fun q=>?_⟩;have k:ilt (.ofNat 0) (.ofNat i)=true:=zP q;rw[k,Bool.true_and,Bool.not_eq_false']at j;exact xN.1 j
noncomputable abbrev ON0(ck:Raw→Int)(ad su mu:Raw→Raw→Raw)(ae se me:Raw→Raw→Int)(cm ce:Raw→Raw→Int)(fr:Int→Raw)(eqB:Raw→Raw→Bool):Od:=odT (qFn ck ad su mu ae se me cm ce fr eqB)
theorem eCr(ck:Raw→Int)(ad su mu:Raw→Raw→Raw)(ae se me:Raw→Raw→Int)(cm ce:Raw→Raw→Int)(fr:Int→Raw)(eqB:Raw→Raw→Bool)(x:Raw):((qK Tryz.prog (evD Tryz.prog (ON0 ck ad su mu ae se me cm ce fr eqB) (loT []) 60) 186 [.ag (rC x)] []).bind qQ).run=bif !(ieq (ck x) 0)then some (vi (ck x),true)else(bif ilt (.ofNat 8) (.ofNat x.ln.length)then some (vn 4,true)else(bif ilt (.ofNat 8) (.ofNat x.ld.length)then some (vn 4,true)else some (vn 0,true))):=by kernel_rfl
section
variable (ck:Raw→Int)
noncomputable def crE(x:Raw):Int:=bif !ieq (ck x) 0 then ck x else(bif ilt (.ofNat 8) (.ofNat x.ln.length)then 4 else(bif ilt (.ofNat 8) (.ofNat x.ld.length)then 4 else 0))
end
noncomputable def oCr(cr:Raw→Int):List T→DT (T×Bool)
 | [.ag [.v (.bool s),.ls .a .lim l,.ls .a .lim m]]=> .ret (.v (.int .i64 (cr ⟨s,l,m⟩)),true)
 | _=> .no
theorem qTq(ck:Raw→Int)(ad su mu:Raw→Raw→Raw)(ae se me:Raw→Raw→Int)(cm ce:Raw→Raw→Int)(fr:Int→Raw)(eqB:Raw→Raw→Bool)(x:Raw):((qK Tryz.prog (evD Tryz.prog (ON0 ck ad su mu ae se me cm ce fr eqB) (loT []) 60) 186 [.ag (rC x)] []).bind qQ).run=yI (crE ck x):=by
 rw[eCr];unfold crE;cases ieq (ck x) 0<;>cases ilt (.ofNat 8) (.ofNat x.ln.length)<;>cases ilt (.ofNat 8) (.ofNat x.ld.length)<;>rfl
theorem kCr:∀az e nw,(oCr (crE Raw.chk) az).run=some (e,nw)→∀k,KnP Tryz.prog k 186 az e nw:=by
 intro az e nw h k;unfold oCr at h;split at h
 ·rename_i s l m;cases h;exact kF (cz:=[.ag (rC ⟨s,l,m⟩)]) yT zMx qA (qTq Raw.chk adA suA muA aeA seA meA yE xB frA eqA ⟨s,l,m⟩) rfl k
 ·cases h
noncomputable abbrev nzT:Ty:= .prod nT zL
abbrev Nz:=Ty.den nzT
noncomputable abbrev zI(l:List Nz)(i:Nat):Nz:=nth nzT.zero l i
noncomputable def iCn(q l:List Nz)(n i:Nat)(t:Raw):Hs:=⟨[.ls .a nzT q,.ls .a nzT l,vn n,vn i],[],[rN t]⟩
noncomputable def iCz(q l:List Nz)(n i:Nat):Hs:=⟨[.ls .a nzT q,.ls .a nzT l,vn n,vn i],[],[[.v (.bool false),.v (.slice none 0 0),.v (.slice none 0 0)]]⟩
noncomputable def Lcn:Lp:=⟨1,
 ⟨[.h,.u,.u,.t (.op 0 0)]++(us' 14++([.h,.h,.h]++(us' 57))),[.r [.h,.h,.h] 28]⟩,
 ⟨us' 3++([.t (.op 0 0)]++(us' 74)),[.r [.h,.h,.h] 28]⟩,
 ⟨[.u,.u,.h]++(us' 75),[.g]⟩⟩
noncomputable abbrev qPh:Code:=lpc Tryz.prog 185 [false,true,false,true,true,true]
theorem qSa:cAt Tryz.prog 185 [false,true,false,true,true,true]=some (.loop qPh):=by kernel_rfl
noncomputable abbrev zEa(OD:Od)(e:Lo):Hs→Option (Hs⊕(Ex×Hs)):=Lcn.stp (evD Tryz.prog OD e 60) 185 [false,true,false,true,true,true] qPh
noncomputable abbrev OD1(cr:Raw→Int)(ck:Raw→Int)(ad su mu:Raw→Raw→Raw)(ae se me:Raw→Raw→Int)(cm ce:Raw→Raw→Int)(fr:Int→Raw)(eqB:Raw→Raw→Bool):Od:=odT ((184,odR [spT,.list nT] qMu)::(157,odR [.list (.list nT)] oIc)::(186,odR [zL] (oCr cr))::qFn ck ad su mu ae se me cm ce fr eqB)
theorem sCz(cr:Raw→Int)(ck:Raw→Int)(ad su mu:Raw→Raw→Raw)(ae se me:Raw→Raw→Int)(cm ce:Raw→Raw→Int)(fr:Int→Raw)(eqB:Raw→Raw→Bool)(q l:List Nz)(n i:Nat):zEa (OD1 cr ck ad su mu ae se me cm ce fr eqB) (loT []) (iCz q l n i)=bif ilt (.ofNat i) (.ofNat n)then gd (Nat.blt i l.length) (bif !(yF ((-100)) 100 ([(zI l i).1].reverse))then some (.inr (.r,⟨[vn 1],[],[[]]⟩))else(bif ilt (.ofNat 0) (.ofNat i)then gd (inW (pr i)) (gd (nng (pr i)) (gd (Nat.blt ((pr i).toNat) q.length) (bif !(ilt ((zI q ((pr i).toNat)).1) ((zI l i).1))then some (.inr (.r,⟨[vn 16],[],[[]]⟩))else(bif !(ieq (cr (rw' ((zI l i).2))) 0)then some (.inr (.r,⟨[vi (cr (rw' ((zI l i).2)))],[],[[]]⟩))else(bif((zI l i).2).1 then some (.inr (.r,⟨[vn 1],[],[[]]⟩))else(bif ieq (.ofNat (((((zI l i).2).2).1).length)) (.ofNat 0)then some (.inr (.r,⟨[vn 1],[],[[]]⟩))else nx i (.inl ⟨[.ls .a nzT q,.ls .a nzT l,vn n,vn (i+1)],[],[(rN (ad ⟨false,[],[]⟩ (rw' ((zI l i).2))))]⟩)))))))else(bif !(ieq (cr (rw' ((zI l i).2))) 0)then some (.inr (.r,⟨[vi (cr (rw' ((zI l i).2)))],[],[[]]⟩))else(bif((zI l i).2).1 then some (.inr (.r,⟨[vn 1],[],[[]]⟩))else(bif ieq (.ofNat (((((zI l i).2).2).1).length)) (.ofNat 0)then some (.inr (.r,⟨[vn 1],[],[[]]⟩))else nx i (.inl ⟨[.ls .a nzT q,.ls .a nzT l,vn n,vn (i+1)],[],[(rN (ad ⟨false,[],[]⟩ (rw' ((zI l i).2))))]⟩))))))else some (.inr (.x 1,⟨[],[],[[.v (.bool false),.v (Value.slice none 0 0),.v (Value.slice none 0 0)]]⟩)):=by kernel_rfl
theorem sCn(cr:Raw→Int)(ck:Raw→Int)(ad su mu:Raw→Raw→Raw)(ae se me:Raw→Raw→Int)(cm ce:Raw→Raw→Int)(fr:Int→Raw)(eqB:Raw→Raw→Bool)(q l:List Nz)(n i:Nat)(t:Raw):zEa (OD1 cr ck ad su mu ae se me cm ce fr eqB) (loT []) (iCn q l n i t)=bif ilt (.ofNat i) (.ofNat n)then gd (Nat.blt i l.length) (bif !(yF ((-100)) 100 ([(zI l i).1].reverse))then some (.inr (.r,⟨[vn 1],[],[[]]⟩))else(bif ilt (.ofNat 0) (.ofNat i)then gd (inW (pr i)) (gd (nng (pr i)) (gd (Nat.blt ((pr i).toNat) q.length) (bif !(ilt ((zI q ((pr i).toNat)).1) ((zI l i).1))then some (.inr (.r,⟨[vn 16],[],[[]]⟩))else(bif !(ieq (cr (rw' ((zI l i).2))) 0)then some (.inr (.r,⟨[vi (cr (rw' ((zI l i).2)))],[],[[]]⟩))else(bif((zI l i).2).1 then some (.inr (.r,⟨[vn 1],[],[[]]⟩))else(bif ieq (.ofNat (((((zI l i).2).2).1).length)) (.ofNat 0)then some (.inr (.r,⟨[vn 1],[],[[]]⟩))else nx i (.inl ⟨[.ls .a nzT q,.ls .a nzT l,vn n,vn (i+1)],[],[(rN (ad t (rw' ((zI l i).2))))]⟩)))))))else(bif !(ieq (cr (rw' ((zI l i).2))) 0)then some (.inr (.r,⟨[vi (cr (rw' ((zI l i).2)))],[],[[]]⟩))else(bif((zI l i).2).1 then some (.inr (.r,⟨[vn 1],[],[[]]⟩))else(bif ieq (.ofNat (((((zI l i).2).2).1).length)) (.ofNat 0)then some (.inr (.r,⟨[vn 1],[],[[]]⟩))else nx i (.inl ⟨[.ls .a nzT q,.ls .a nzT l,vn n,vn (i+1)],[],[(rN (ad t (rw' ((zI l i).2))))]⟩))))))else some (.inr (.x 1,⟨[],[],[(rN t)]⟩)):=by kernel_rfl
section
variable (cr:Raw→Int)(ck:Raw→Int)(ad su mu:Raw→Raw→Raw)(ae se me:Raw→Raw→Int)(cm ce:Raw→Raw→Int)(fr:Int→Raw)(eqB:Raw→Raw→Bool)
noncomputable abbrev r0:Raw:=⟨false,[],[]⟩
noncomputable def gCn(q l:List Nz)(i:Nat)(t:Raw):Raw⊕(Raw⊕Int):=bif !yF (-100) 100 [(zI l i).1]then .inr (.inr 1)else(bif ilt (.ofNat 0) (.ofNat i)&&!ilt (zI q (i-1)).1 (zI l i).1 then .inr (.inr 16)else(bif !ieq (cr (rw' (zI l i).2)) 0 then .inr (.inr (cr (rw' (zI l i).2)))else(bif(zI l i).2.1 then .inr (.inr 1)else(bif ieq (.ofNat (zI l i).2.2.1.length) (.ofNat 0)then .inr (.inr 1)else .inl (ad t (rw' (zI l i).2))))))
noncomputable def cnF(q l:List Nz):Raw⊕Int:=fol (gCn cr ad q l) .inl l.length 0 r0
noncomputable def qWr(q l:List Nz):Nat→Raw→Hs
 | 0,_=>iCz q l l.length 0
 | i+1,t=>iCn q l l.length (i+1) t
noncomputable def qQu:Raw⊕Int→Ex×Hs
 | .inl t=>(.x 1,⟨[],[],[rN t]⟩)
 | .inr e=>(.r,⟨[vi e],[],[[]]⟩)
theorem lpCn{q l:List Nz}(B:0<l.length)(E:l.length<9223372036854775807)(H:l.length≤q.length):lpF (zEa (OD1 cr ck ad su mu ae se me cm ce fr eqB) (loT [])) l.length (iCz q l l.length 0)=some (qQu (cnF cr ad q l)):=
 jP (st:=zEa (OD1 cr ck ad su mu ae se me cm ce fr eqB) (loT [])) (iv:=qWr q l) (g:=gCn cr ad q l) (d:= .inl) (out:=qQu) (n:=l.length) (fun i t=>i=0→t=r0)
  (fun i t f y=>by
   cases i with
   | zero=>
    obtain rfl:=y rfl;show zEa (OD1 cr ck ad su mu ae se me cm ce fr eqB) (loT []) (iCz q l l.length 0)=_;rw[sCz];unfold gCn;have j:ilt (.ofNat 0) (.ofNat l.length)=true:=zP B;have e:ilt (.ofNat 0) (.ofNat 0)=false:=rfl;have k:[(zI l 0).1].reverse=[(zI l 0).1]:=rfl;rw[j,e,k];simp only[gd,zP f,ze,zf,Bool.false_and,xZ (show 0+1<9223372036854775808 by omega)]
    cases yF (-100) 100 [(zI l 0).1]<;>cases ieq (cr (rw' (zI l 0).2)) 0<;>cases(zI l 0).2.1<;>cases ieq (.ofNat (zI l 0).2.2.1.length) (.ofNat 0)<;>rfl
   | succ i=>
    show zEa (OD1 cr ck ad su mu ae se me cm ce fr eqB) (loT []) (iCn q l l.length (i+1) t)=_;rw[sCn];unfold gCn;have j:ilt (.ofNat (i+1)) (.ofNat l.length)=true:=zP f;have e:ilt (.ofNat 0) (.ofNat (i+1))=true:=rfl;have A:(Int.ofNat i).toNat=i:=rfl;have k:[(zI l (i+1)).1].reverse=[(zI l (i+1)).1]:=rfl;rw[j,e,k,prS,yP (show i<9223372036854775808 by omega),A]
    simp only[gd,nng,zP f,zP (show i<q.length by omega),ze,Bool.true_and,Nat.add_sub_cancel,xZ (show i+1+1<9223372036854775808 by omega)]
    cases yF (-100) 100 [(zI l (i+1)).1]<;>cases ilt (zI q i).1 (zI l (i+1)).1<;>cases ieq (cr (rw' (zI l (i+1)).2)) 0<;>cases(zI l (i+1)).2.1<;>cases ieq (.ofNat (zI l (i+1)).2.2.1.length) (.ofNat 0)<;>rfl)
  (fun i t J f y G e=>by omega)
  (fun t y=>by
   obtain⟨m,z⟩:∃m,l.length=m+1:=⟨l.length-1,by omega⟩
   show zEa (OD1 cr ck ad su mu ae se me cm ce fr eqB) (loT []) (qWr q l l.length t)=_;have e:qWr q l l.length t=iCn q l l.length l.length t:=by
    rw[z];show iCn q l l.length (m+1) t=_;rw[z]
   rw[e,sCn];show(bif Nat.blt l.length l.length then _ else _)=_;rw[yL (Nat.le_refl _),zf];rfl) l.length 0 r0 (by omega) (fun _=>rfl)
noncomputable def isL:Raw⊕Int→Bool
 | .inl _=>true
 | .inr _=>false
noncomputable def rL:Raw⊕Int→Raw
 | .inl t=>t
 | .inr _=>r0
noncomputable def eL:Raw⊕Int→Int
 | .inl _=>0
 | .inr e=>e
noncomputable def hCn:Hs→DT (Ex×Hs)
 | ⟨[.ls .a (.prod (.int .i64) zL) q,.ls .a (.prod (.int .i64) zL) l,.v (.int .i64 (.ofNat n)),.v (.int .i64 (.ofNat 0))],[],[[.v (.bool false),.v (.slice none 0 0),.v (.slice none 0 0)]]⟩=>grd (Nat.beq n l.length&&(Nat.blt 0 l.length&&(Nat.ble l.length q.length&&Nat.blt l.length 9223372036854775807))) (.ite (isL (cnF cr ad q l)) (.ret (.x 1,⟨[],[],[rN (rL (cnF cr ad q l))]⟩)) (.ret (.r,⟨[vi (eL (cnF cr ad q l))],[],[[]]⟩)))
 | _=> .no
theorem qVv:∀q y,(hCn cr ad q).run=some y→∃n,It (zEa (OD1 cr ck ad su mu ae se me cm ce fr eqB) (loT [])) n q y:=fun q y h=>by
 unfold hCn at h;split at h
 ·rename_i q l n;obtain⟨e,f⟩:=zS h;simp only[zd,Nat.ble_eq]at e;obtain⟨j,k,z,A⟩:=e;obtain rfl:=zY j;have:=kT _ _ (lpCn cr ck ad su mu ae se me cm ce fr eqB (jC k) (jC A) z);cases hb:cnF cr ad q l<;>rw[hb]at f this<;>cases f<;>exact this
 ·cases h
noncomputable abbrev LCn:Lo:=loT [(185,[false,true,false,true,true,true],Lcn.row (hCn cr ad))]
end
theorem eCn(cr:Raw→Int)(ck:Raw→Int)(ad su mu:Raw→Raw→Raw)(ae se me:Raw→Raw→Int)(cm ce:Raw→Raw→Int)(fr:Int→Raw)(eqB:Raw→Raw→Bool)(l:List Nz):((qK Tryz.prog (evD Tryz.prog (OD1 cr ck ad su mu ae se me cm ce fr eqB) (LCn cr ad) 60) 185 [.ls .a nzT l] []).bind qQ).run=bif ieq (.ofNat l.length) (.ofNat 0)then some (vn 3,true)else(bif ilt (.ofNat 5) (.ofNat l.length)then some (vn 4,true)else gd ((Nat.beq l.length l.length)&&((Nat.blt 0 l.length)&&((Nat.ble l.length l.length)&&(Nat.blt l.length 9223372036854775807)))) (bif isL (cnF cr ad l l)then(bif !(ieq (cm (rL (cnF cr ad l l)) (fr 1)) 0)then some (vn 2,true)else some (vn 0,true))else some (vi (eL (cnF cr ad l l)),true))):=by kernel_rfl
section
variable (cr:Raw→Int)(ck:Raw→Int)(ad su mu:Raw→Raw→Raw)(ae se me:Raw→Raw→Int)(cm ce:Raw→Raw→Int)(fr:Int→Raw)(eqB:Raw→Raw→Bool)
noncomputable def cnE(l:List Nz):Int:=bif ieq (.ofNat l.length) (.ofNat 0)then 3 else(bif ilt (.ofNat 5) (.ofNat l.length)then 4 else(bif isL (cnF cr ad l l)then(bif !ieq (cm (rL (cnF cr ad l l)) (fr 1)) 0 then 2 else 0)else eL (cnF cr ad l l)))
theorem qTn(l:List Nz):((qK Tryz.prog (evD Tryz.prog (OD1 cr ck ad su mu ae se me cm ce fr eqB) (LCn cr ad) 60) 185 [.ls .a nzT l] []).bind qQ).run=yI (cnE cr ad cm fr l):=by
 rw[eCn];unfold cnE;cases f:ieq (.ofNat l.length) (.ofNat 0)with
 | true=>rfl
 | false=>
  cases k:ilt (.ofNat 5) (.ofNat l.length)with
  | true=>rfl
  | false=>
   have q:=cZ k;have j:0<l.length:=by
    rcases Nat.eq_zero_or_pos l.length with e | e
    ·rw[e]at f;cases f
    ·exact e
   simp only[zf,gd,kG,zP j,kZ (Nat.le_refl l.length),zP (show l.length<9223372036854775807 by omega),Bool.and_self,ze]
   cases isL (cnF cr ad l l)<;>cases ieq (cm (rL (cnF cr ad l l)) (fr 1)) 0<;>rfl
end
noncomputable def oCn(cn:List Nz→Int):List T→DT (T×Bool)
 | [.ls .a (.prod (.int .i64) zL) l]=> .ret (.v (.int .i64 (cn l)),true)
 | _=> .no
noncomputable abbrev crA:Raw→Int:=crE Raw.chk
theorem zTs:wB Tryz.prog (OD1 crA Raw.chk adA suA muA aeA seA meA yE xB frA eqA):=zT (zT (zT zMx (jV kCr)) (jV kIc)) (jV kHas)
theorem qZp:gT Tryz.prog (evD Tryz.prog (OD1 crA Raw.chk adA suA muA aeA seA meA yE xB frA eqA) (loT []) 60):=kQ yT zTs qA 60
theorem qXg:vY Tryz.prog (LCn crA adA):=jX qA qZp qSa (qVv crA Raw.chk adA suA muA aeA seA meA yE xB frA eqA)
noncomputable abbrev cnA(l:List Nz):Int:=cnE crA adA yE frA l
theorem kCn:∀az e nw,(oCn cnA az).run=some (e,nw)→∀k,KnP Tryz.prog k 185 az e nw:=by
 intro az e nw h k;unfold oCn at h;split at h
 ·rename_i l;cases h;exact kF (cz:=[.ls .a nzT l]) yT zTs qXg (qTn crA Raw.chk adA suA muA aeA seA meA yE xB frA eqA l) rfl k
 ·cases h
noncomputable abbrev bT:Ty:= .prod (.int .u8) (.prod nT nT)
abbrev Bd:=Ty.den bT
abbrev MF(α:Type):=List Int→List Int→List Int→List Bd→Int→Int→Int→List Nz→List Nz→Raw→Raw→Raw→α
abbrev TF(α:Type):=MF (Int→List (List Int)→List (List Int)→α)
abbrev LF(α:Type):=TF (Int→Int→Int→Int→Int→α)
noncomputable abbrev bI(l:List Bd)(i:Nat):Bd:=nth bT.zero l i
noncomputable abbrev mdC(h o t:List Int)(G:List Bd)(P D S:Int)(O U:List Nz)(C st V:Raw):List T:=[.ls .a nT h,.ls .a nT o,.ls .a nT t,.ls .a bT G,vi P,vi D,vi S,.ls .a nzT O,.ls .a nzT U,.v (.bool C.1),.ls .a .lim C.2,.ls .a .lim C.3,.v (.bool st.1),.ls .a .lim st.2,.ls .a .lim st.3,.v (.bool V.1),.ls .a .lim V.2,.ls .a .lim V.3]
noncomputable abbrev OX(cn:List Nz→Int)(cr:Raw→Int)(ck:Raw→Int)(ad su mu:Raw→Raw→Raw)(ae se me:Raw→Raw→Int)(cm ce:Raw→Raw→Int)(fr:Int→Raw)(eqB:Raw→Raw→Bool):Od:=odT ((185,odR [.list nzT] (oCn cn))::(184,odR [spT,.list nT] qMu)::(157,odR [.list (.list nT)] oIc)::(186,odR [zL] (oCr cr))::qFn ck ad su mu ae se me cm ce fr eqB)
noncomputable def iDc(l:List Bd)(n i:Nat)(h o t:List Int)(G:List Bd)(P D S:Int)(O U:List Nz)(C st V:Raw):Hs:=⟨[.ls .a bT l,vn n,vn i],[],[[.ls .a nT h,.ls .a nT o,.ls .a nT t,.ls .a bT G,vi P,vi D,vi S,.ls .a nzT O,.ls .a nzT U,.v (.bool C.1),.ls .a .lim C.2,.ls .a .lim C.3,.v (.bool st.1),.ls .a .lim st.2,.ls .a .lim st.3,.v (.bool V.1),.ls .a .lim V.2,.ls .a .lim V.3],[],[],[],[]]⟩
noncomputable def Ldc:Lp:=⟨5,
 ⟨[.u,.t (.op 0 0),.u,.t (.fn 240 [.op 2 0,.op 1 0])]++(us' 49++([.h,.h,.h]++(us' 90))),[.r [.h,.h,.h,.h,.h,.h,.h,.h,.h,.h,.h,.h,.h,.h,.h,.h,.h,.h] 30,.r [.t (.v (.int .i64 (.ofNat 100)))] 3,.r [.t (.fn 184 [])] 292,.g,.g]⟩,
 ⟨[.u,.t (.op 0 0)]++(us' 144),[.r [.h,.h,.h,.h,.h,.h,.h,.h,.h,.h,.h,.h,.h,.h,.h,.h,.h,.h] 30,.g,.g,.g,.g]⟩,
 ⟨[.u,.u,.h]++(us' 143),[.g,.g,.g,.g,.g]⟩⟩
noncomputable abbrev qPi:Code:=lpc Tryz.prog 119 [false,true,false,true,true,true]
theorem qSb:cAt Tryz.prog 119 [false,true,false,true,true,true]=some (.loop qPi):=by kernel_rfl
noncomputable abbrev qAr(OD:Od)(e:Lo):Hs→Option (Hs⊕(Ex×Hs)):=Ldc.stp (evD Tryz.prog OD e 60) 119 [false,true,false,true,true,true] qPi
theorem sDc(cn:List Nz→Int)(cr:Raw→Int)(ck:Raw→Int)(ad su mu:Raw→Raw→Raw)(ae se me:Raw→Raw→Int)(cm ce:Raw→Raw→Int)(fr:Int→Raw)(eqB:Raw→Raw→Bool)(l:List Bd)(n i:Nat)(h o t:List Int)(G:List Bd)(P D S:Int)(O U:List Nz)(C st V:Raw):qAr (OX cn cr ck ad su mu ae se me cm ce fr eqB) (loT []) (iDc l n i h o t G P D S O U C st V)=bif ilt (.ofNat i) (.ofNat n)then gd (Nat.blt i l.length) (bif !(ieq ((bI l i).1) 1)then(bif !(ieq ((bI l i).1) 2)then some (.inr (.r,⟨[vn 6],[],[[],[],[],[],[]]⟩))else(bif ilt (((bI l i).2).2) (((bI l i).2).1)then some (.inr (.r,⟨[vn 1],[],[[],[],[],[],[]]⟩))else(bif !(yF ((-100)) (.ofNat 100) ([((bI l i).2).2,((bI l i).2).1].reverse))then some (.inr (.r,⟨[vn 1],[],[[],[],[],[],[]]⟩))else nx i (.inl (iDc l n (i+1) h o t G P D S O U C st V)))))else(bif ilt (((bI l i).2).2) (((bI l i).2).1)then some (.inr (.r,⟨[vn 1],[],[[],[],[],[],[]]⟩))else(bif !(yF ((-100)) (.ofNat 100) ([((bI l i).2).2,((bI l i).2).1].reverse))then some (.inr (.r,⟨[vn 1],[],[[],[],[],[],[]]⟩))else nx i (.inl (iDc l n (i+1) h o t G P D S O U C st V)))))else some (.inr (.x 1,⟨[],[],[[.ls .a nT h,.ls .a nT o,.ls .a nT t,.ls .a bT G,vi P,vi D,vi S,.ls .a nzT O,.ls .a nzT U,.v (.bool C.1),.ls .a .lim C.2,.ls .a .lim C.3,.v (.bool st.1),.ls .a .lim st.2,.ls .a .lim st.3,.v (.bool V.1),.ls .a .lim V.2,.ls .a .lim V.3],[],[],[],[]]⟩)):=by kernel_rfl
noncomputable def gDc(l:List Bd)(i:Nat)(_:Unit):Unit⊕Option Int:=bif !ieq (bI l i).1 1&&!ieq (bI l i).1 2 then .inr (some 6)else(bif ilt (bI l i).2.2 (bI l i).2.1 then .inr (some 1)else(bif !yF (-100) 100 [(bI l i).2.1,(bI l i).2.2]then .inr (some 1)else .inl ()))
noncomputable def dvF(l:List Bd):Option Int:=fol (gDc l) (fun _=>none) l.length 0 ()
noncomputable def zXb(h o t:List Int)(G:List Bd)(P D S:Int)(O U:List Nz)(C st V:Raw):Option Int→Ex×Hs
 | none=>(.x 1,⟨[],[],[mdC h o t G P D S O U C st V,[],[],[],[]]⟩)
 | some e=>(.r,⟨[vi e],[],[[],[],[],[],[]]⟩)
section
variable (cn:List Nz→Int)(cr:Raw→Int)(ck:Raw→Int)(ad su mu:Raw→Raw→Raw)(ae se me:Raw→Raw→Int)(cm ce:Raw→Raw→Int)(fr:Int→Raw)(eqB:Raw→Raw→Bool)
theorem lpDc(h o t:List Int)(G:List Bd)(P D S:Int)(O U:List Nz)(C st V:Raw)(l:List Bd)(k:l.length<9223372036854775807):lpF (qAr (OX cn cr ck ad su mu ae se me cm ce fr eqB) (loT [])) l.length (iDc l l.length 0 h o t G P D S O U C st V)=some (zXb h o t G P D S O U C st V (dvF l)):=
 jP (iv:=fun i(_:Unit)=>iDc l l.length i h o t G P D S O U C st V) (g:=gDc l) (d:=fun _=>none) (out:=zXb h o t G P D S O U C st V) (n:=l.length) (fun _ _=>True)
  (fun i _ e _=>by
   rw[sDc];show(bif Nat.blt i l.length then _ else _)=_;unfold gDc;have f:[(bI l i).2.2,(bI l i).2.1].reverse=[(bI l i).2.1,(bI l i).2.2]:=rfl;rw[f];simp only[gd,zP e,ze,xZ (show i+1<9223372036854775808 by omega)]
   have j:yF (-100) (.ofNat 100) [(bI l i).2.1,(bI l i).2.2]=yF (-100) 100 [(bI l i).2.1,(bI l i).2.2]:=rfl;rw[j];cases ieq (bI l i).1 1<;>cases ieq (bI l i).1 2<;>cases ilt (bI l i).2.2 (bI l i).2.1<;>cases yF (-100) 100 [(bI l i).2.1,(bI l i).2.2]<;>rfl)
  (fun _ _ _ _ _ _=>trivial)
  (fun _ _=>by rw[sDc];show(bif Nat.blt l.length l.length then _ else _)=_;rw[yL (Nat.le_refl _),zf];rfl) l.length 0 () (by omega) trivial
noncomputable def hDc:Hs→DT (Ex×Hs)
 | ⟨[.ls .a (.prod (.int .u8) (.prod (.int .i64) (.int .i64))) l,.v (.int .i64 (.ofNat n)),.v (.int .i64 (.ofNat 0))],[],[[.ls .a (.int .i64) h,.ls .a (.int .i64) o,.ls .a (.int .i64) t,.ls .a (.prod (.int .u8) (.prod (.int .i64) (.int .i64))) G,.v (.int .i64 P),.v (.int .i64 D),.v (.int .i64 S),.ls .a (.prod (.int .i64) zL) O,.ls .a (.prod (.int .i64) zL) U,.v (.bool e),.ls .a .lim C,.ls .a .lim am,.v (.bool q),.ls .a .lim sl,.ls .a .lim sm,.v (.bool f),.ls .a .lim j,.ls .a .lim k],[],[],[],[]]⟩=>grd (Nat.beq n l.length&&Nat.blt l.length 9223372036854775807) (.ite (isN (dvF l)) (.ret (zXb h o t G P D S O U ⟨e,C,am⟩ ⟨q,sl,sm⟩ ⟨f,j,k⟩ none)) (.ret (zXb h o t G P D S O U ⟨e,C,am⟩ ⟨q,sl,sm⟩ ⟨f,j,k⟩ (some (eN (dvF l))))))
 | _=> .no
theorem qVw:∀q y,(hDc q).run=some y→∃n,It (qAr (OX cn cr ck ad su mu ae se me cm ce fr eqB) (loT [])) n q y:=fun q y hh=>by
 unfold hDc at hh;split at hh
 ·rename_i l n h o t G P D S O U j C am B sl sm k z A;obtain⟨e,f⟩:=zS hh;simp only[zd]at e;obtain rfl:=zY e.1;have:=kT _ _ (lpDc cn cr ck ad su mu ae se me cm ce fr eqB h o t G P D S O U ⟨j,C,am⟩ ⟨B,sl,sm⟩ ⟨k,z,A⟩ l (jC e.2));cases hb:dvF l<;>rw[hb]at f this<;>cases f<;>exact this
 ·cases hh
end
noncomputable abbrev LDc:Lo:=loT [(119,[false,true,false,true,true,true],Ldc.row hDc)]
noncomputable abbrev dr1(l:List Bd):List Bd:=List.take (l.length-1) (List.drop 1 l)
theorem eDc(cn:List Nz→Int)(cr:Raw→Int)(ck:Raw→Int)(ad su mu:Raw→Raw→Raw)(ae se me:Raw→Raw→Int)(cm ce:Raw→Raw→Int)(fr:Int→Raw)(eqB:Raw→Raw→Bool)(h o t:List Int)(G:List Bd)(P D S:Int)(O U:List Nz)(C st V:Raw):((qK Tryz.prog (evD Tryz.prog (OX cn cr ck ad su mu ae se me cm ce fr eqB) (LDc) 60) 119 [.ag (mdC h o t G P D S O U C st V)] []).bind qQ).run=bif !(ieq (icE [h,o,t]) 0)then some (vi (icE [h,o,t]),true)else gd (Nat.blt h.length 9223372036854775807) (bif !(yF ((-50000)) 50000 h)then some (vn 1,true)else gd (Nat.blt o.length 9223372036854775807) (bif !(yF ((-100)) 100 o)then gd (!(yF ((-100)) 100 o)) (some (vn 1,true))else(bif !(yF ((-100)) 100 o)then some (vn 1,true)else gd (Nat.blt t.length 9223372036854775807) (bif !(yF ((-100)) 100 t)then some (vn 1,true)else(bif ieq (.ofNat G.length) (.ofNat 0)then some (vn 3,true)else(bif ilt (.ofNat 6) (.ofNat G.length)then some (vn 4,true)else gd (Nat.ble 1 G.length) (gd (Nat.ble G.length G.length) (gd ((Nat.beq ((dr1 G).length) ((dr1 G).length))&&(Nat.blt ((dr1 G).length) 9223372036854775807)) (bif isN (dvF (dr1 G))then(bif !(yF 0 100 [P])then some (vn 1,true)else(bif !(yF 0 50000 [D])then some (vn 1,true)else(bif !(yF 0 24 [S])then some (vn 1,true)else(bif !(ieq (cn O) 0)then some (vi (cn O),true)else(bif !(ieq (cn U) 0)then some (vi (cn U),true)else(bif !(ieq (cr C) 0)then some (vi (cr C),true)else(bif C.neg then some (vn 1,true)else(bif !(ieq (cr st) 0)then some (vi (cr st),true)else(bif st.neg then some (vn 1,true)else(bif !(ieq (cr V) 0)then some (vi (cr V),true)else(bif V.neg then some (vn 1,true)else gd (inW (.ofNat (h.length*o.length))) (gd (inW (.ofNat ((h.length*o.length)*t.length))) (gd (inW (.ofNat (((h.length*o.length)*t.length)*G.length))) (bif ilt (.ofNat 200) (.ofNat (((h.length*o.length)*t.length)*G.length))then some (vn 10,true)else some (vn 0,true)))))))))))))))else some (vi (eN (dvF (dr1 G))),true)))))))))):=by kernel_rfl
section
variable (cn:List Nz→Int)(cr:Raw→Int)(ck:Raw→Int)(ad su mu:Raw→Raw→Raw)(ae se me:Raw→Raw→Int)(cm ce:Raw→Raw→Int)(fr:Int→Raw)(eqB:Raw→Raw→Bool)
noncomputable def dcE(h o t:List Int)(G:List Bd)(P D S:Int)(O U:List Nz)(C st V:Raw):Int:=bif !ieq (icE [h,o,t]) 0 then icE [h,o,t]else(bif !yF (-50000) 50000 h then 1 else(bif !yF (-100) 100 o then 1 else(bif !yF (-100) 100 t then 1 else(bif ieq (.ofNat G.length) (.ofNat 0)then 3 else(bif ilt (.ofNat 6) (.ofNat G.length)then 4 else(bif isN (dvF (dr1 G))then(bif !yF 0 100 [P]then 1 else(bif !yF 0 50000 [D]then 1 else(bif !yF 0 24 [S]then 1 else(bif !ieq (cn O) 0 then cn O else(bif !ieq (cn U) 0 then cn U else(bif !ieq (cr C) 0 then cr C else(bif C.neg then 1 else(bif !ieq (cr st) 0 then cr st else(bif st.neg then 1 else(bif !ieq (cr V) 0 then cr V else(bif V.neg then 1 else(bif ilt (.ofNat 200) (.ofNat (h.length*o.length*t.length*G.length))then 10 else 0))))))))))))else eN (dvF (dr1 G))))))))
theorem zVs{h o t:List Int}(e:icE [h,o,t]=0):(1≤h.length∧h.length≤32)∧(1≤o.length∧o.length≤32)∧(1≤t.length∧t.length≤32):=by
 have g:=zVt e;have a:=g.cut 0 (show 0<3 by omega)
 have b:=g.cut 1 (show 1<3 by omega)
 have c:=g.cut 2 (show 2<3 by omega)
 exact⟨⟨a.1,a.2.1⟩,⟨b.1,b.2.1⟩,⟨c.1,c.2.1⟩⟩
theorem zWl{a b c d:Nat}(ha:a≤32)(hb:b≤32)(j:c≤32)(hd:d≤6):a*b≤1024∧a*b*c≤32768∧a*b*c*d≤196608:=by
 have e:=Nat.mul_le_mul ha hb;have f:=Nat.mul_le_mul e j;exact⟨e,f,Nat.mul_le_mul f hd⟩
theorem qTt(h o t:List Int)(G:List Bd)(P D S:Int)(O U:List Nz)(C st V:Raw):((qK Tryz.prog (evD Tryz.prog (OX cn cr ck ad su mu ae se me cm ce fr eqB) (LDc) 60) 119 [.ag (mdC h o t G P D S O U C st V)] []).bind qQ).run=yI (dcE cn cr h o t G P D S O U C st V):=by
 rw[eDc];unfold dcE;cases j:ieq (icE [h,o,t]) 0 with
 | false=>rfl
 | true=>
  obtain⟨⟨_,y⟩,⟨_,l2⟩,⟨_,z⟩⟩:=zVs (qL.1 j);simp only[Bool.not_true,zf,gd,zP (show h.length<9223372036854775807 by omega),zP (show o.length<9223372036854775807 by omega),zP (show t.length<9223372036854775807 by omega),ze]
  cases yF (-50000) 50000 h with
  | false=>rfl
  | true=>
   cases yF (-100) 100 o with
   | false=>rfl
   | true=>
    cases yF (-100) 100 t with
    | false=>rfl
    | true=>
     simp only[Bool.not_true,zf];cases f:ieq (.ofNat G.length) (.ofNat 0)with
     | true=>rfl
     | false=>
      cases k:ilt (.ofNat 6) (.ofNat G.length)with
      | true=>rfl
      | false=>
       have A:=cZ k;have q:1≤G.length:=by
        rcases Nat.eq_zero_or_pos G.length with e | e
        ·rw[e]at f;cases f
        ·exact e
       obtain⟨B,E,m3⟩:=zWl y l2 z A;have ld:(dr1 G).length≤6:=by simp only[dr1,List.length_take,List.length_drop];omega
       simp only[zf,ze,kZ q,kZ (Nat.le_refl G.length),kG,zP (show(dr1 G).length<9223372036854775807 by omega),Bool.and_self,yP (show h.length*o.length<9223372036854775808 by omega),yP (show h.length*o.length*t.length<9223372036854775808 by omega),yP (show h.length*o.length*t.length*G.length<9223372036854775808 by omega)]
       cases dvF (dr1 G)with
       | some e=>rfl
       | none=>
        simp only[isN,ze];cases yF 0 100 [P]with
        | false=>rfl
        | true=>
         simp only[Bool.not_true,zf];cases yF 0 50000 [D]with
         | false=>rfl
         | true=>
          simp only[Bool.not_true,zf];cases yF 0 24 [S]with
          | false=>rfl
          | true=>
           simp only[Bool.not_true,zf];cases ieq (cn O) 0 with
           | false=>rfl
           | true=>
            simp only[Bool.not_true,zf];cases ieq (cn U) 0 with
            | false=>rfl
            | true=>
             simp only[Bool.not_true,zf];cases ieq (cr C) 0 with
             | false=>rfl
             | true=>
              simp only[Bool.not_true,zf];cases C.neg with
              | true=>rfl
              | false=>
               simp only[zf];cases ieq (cr st) 0 with
               | false=>rfl
               | true=>
                simp only[Bool.not_true,zf];cases st.neg with
                | true=>rfl
                | false=>
                 simp only[zf];cases ieq (cr V) 0 with
                 | false=>rfl
                 | true=>
                  simp only[Bool.not_true,zf];cases V.neg with
                  | true=>rfl
                  | false=>
                   simp only[zf];cases ilt (.ofNat 200) (.ofNat (h.length*o.length*t.length*G.length))<;>rfl
end
noncomputable abbrev mdT:Ty:= .prod (.list nT) (.prod (.list nT) (.prod (.list nT) (.prod (.list bT) (.prod nT (.prod nT (.prod nT (.prod (.list nzT) (.prod (.list nzT) (.prod zL (.prod zL zL))))))))))
noncomputable def oDc(f:MF Int):List T→DT (T×Bool)
 | [.ag [.ls .a (.int .i64) h,.ls .a (.int .i64) o,.ls .a (.int .i64) t,.ls .a (.prod (.int .u8) (.prod (.int .i64) (.int .i64))) G,.v (.int .i64 P),.v (.int .i64 D),.v (.int .i64 S),.ls .a (.prod (.int .i64) zL) O,.ls .a (.prod (.int .i64) zL) U,.v (.bool e),.ls .a .lim C,.ls .a .lim am,.v (.bool y),.ls .a .lim sl,.ls .a .lim sm,.v (.bool j),.ls .a .lim k,.ls .a .lim q]]=> .ret (.v (.int .i64 (f h o t G P D S O U ⟨e,C,am⟩ ⟨y,sl,sm⟩ ⟨j,k,q⟩)),true)
 | _=> .no
noncomputable abbrev ODs(e:MF Int):Od:=odT [(119,odR [mdT] (oDc e))]
theorem eSz(e:MF Int)(h o t:List Int)(G:List Bd)(P D S:Int)(O U:List Nz)(C st V:Raw):((qK Tryz.prog (evD Tryz.prog (ODs e) (loT []) 60) 134 [.ag (mdC h o t G P D S O U C st V)] []).bind qQ).run=bif !(ieq (e h o t G P D S O U C st V) 0)then some (.tu [vn 0,vi (e h o t G P D S O U C st V)],true)else gd (inW (.ofNat (h.length*o.length))) (gd (inW (.ofNat ((h.length*o.length)*t.length))) (gd (inW (.ofNat (((h.length*o.length)*t.length)*G.length))) (some (.tu [vn (((h.length*o.length)*t.length)*G.length),vn 0],true)))):=by kernel_rfl
noncomputable abbrev dcA(h o t:List Int)(G:List Bd)(P D S:Int)(O U:List Nz)(C st V:Raw):Int:=dcE cnA crA h o t G P D S O U C st V
theorem qRe:wB Tryz.prog (OX cnA crA Raw.chk adA suA muA aeA seA meA yE xB frA eqA):=zT zTs (jV kCn)
theorem qZq:gT Tryz.prog (evD Tryz.prog (OX cnA crA Raw.chk adA suA muA aeA seA meA yE xB frA eqA) (loT []) 60):=kQ yT qRe qA 60
theorem qXi:vY Tryz.prog LDc:=jX qA qZq qSb (qVw cnA crA Raw.chk adA suA muA aeA seA meA yE xB frA eqA)
theorem kDc:∀az e nw,(oDc dcA az).run=some (e,nw)→∀k,KnP Tryz.prog k 119 az e nw:=by
 intro az e nw hh k;unfold oDc at hh;split at hh
 ·rename_i h o t G P D S O U f C am z sl sm j q y;cases hh;exact kF (cz:=[.ag (mdC h o t G P D S O U ⟨f,C,am⟩ ⟨z,sl,sm⟩ ⟨j,q,y⟩)]) yT qRe qXi (qTt cnA crA Raw.chk adA suA muA aeA seA meA yE xB frA eqA h o t G P D S O U ⟨f,C,am⟩ ⟨z,sl,sm⟩ ⟨j,q,y⟩) rfl k
 ·cases hh
theorem qYf:wB Tryz.prog (ODs dcA):=zT yG (jV kDc)
noncomputable def oSz(sz y:MF Int):List T→DT (T×Bool)
 | [.ag [.ls .a (.int .i64) h,.ls .a (.int .i64) o,.ls .a (.int .i64) t,.ls .a (.prod (.int .u8) (.prod (.int .i64) (.int .i64))) G,.v (.int .i64 P),.v (.int .i64 D),.v (.int .i64 S),.ls .a (.prod (.int .i64) zL) O,.ls .a (.prod (.int .i64) zL) U,.v (.bool e),.ls .a .lim C,.ls .a .lim am,.v (.bool q),.ls .a .lim sl,.ls .a .lim sm,.v (.bool f),.ls .a .lim j,.ls .a .lim k]]=> .ret (.tu [.v (.int .i64 (sz h o t G P D S O U ⟨e,C,am⟩ ⟨q,sl,sm⟩ ⟨f,j,k⟩)),.v (.int .i64 (y h o t G P D S O U ⟨e,C,am⟩ ⟨q,sl,sm⟩ ⟨f,j,k⟩))],true)
 | _=> .no
structure Mod(h o t:List Int)(G:List Bd)(S:Int):Prop where
 grid:icE [h,o,t]=0
 hh:yF (-50000) 50000 h=true
 ho:yF (-100) 100 o=true
 ht:yF (-100) 100 t=true
 av1:1≤G.length
 av6:G.length≤6
 dv:dvF (dr1 G)=none
 st:yF 0 24 [S]=true
 sz:h.length*o.length*t.length*G.length≤200
theorem qQf{l:List Bd}{e:Int}:∀(k i:Nat),fol (gDc l) (fun _=>none) k i ()=some e→e≠0
 | 0,i,h=>by cases h
 | k+1,i,h=>by
  simp only[fol]at h;cases H:gDc l i ()with
  | inl x=>rw[H]at h;exact qQf k (i+1) h
  | inr y=>
   rw[H]at h;unfold gDc at H;cases f:(!ieq (bI l i).1 1&&!ieq (bI l i).1 2)<;>rw[f]at H
   ·cases j:ilt (bI l i).2.2 (bI l i).2.1<;>rw[j]at H
    ·cases q:yF (-100) 100 [(bI l i).2.1,(bI l i).2.2]<;>rw[q]at H<;>cases H<;>cases h<;>decide
    ·cases H;cases h;decide
   ·cases H;cases h;decide
theorem zTp(h o t:List Int)(G:List Bd)(P D S:Int)(O U:List Nz)(C st V:Raw)(hd:dcA h o t G P D S O U C st V=0):Mod h o t G S:=by
 have ne:∀{x:Int},ieq x 0=false→x≠0:=fun{x}h e=>by rw[xU e]at h;cases h
 unfold dcA dcE at hd;cases z:ieq (icE [h,o,t]) 0 with
 | false=>rw[z]at hd;exact absurd hd (ne z)
 | true=>
  rw[z]at hd;cases k:yF (-50000) 50000 h with
  | false=>rw[k]at hd;cases hd
  | true=>
   cases A:yF (-100) 100 o with
   | false=>rw[k,A]at hd;cases hd
   | true=>
    cases E:yF (-100) 100 t with
    | false=>rw[k,A,E]at hd;cases hd
    | true=>
     rw[k,A,E]at hd;simp only[Bool.not_true,zf]at hd;cases q:ieq (.ofNat G.length) (.ofNat 0)with
     | true=>rw[q]at hd;cases hd
     | false=>
      cases J:ilt (.ofNat 6) (.ofNat G.length)with
      | true=>rw[q,J]at hd;cases hd
      | false=>
       rw[q,J]at hd;simp only[zf]at hd;cases B:dvF (dr1 G)with
       | some e=>rw[B]at hd;exact absurd hd (qQf _ _ B)
       | none=>
        rw[B]at hd;simp only[isN,ze]at hd;have l0:1≤G.length:=by
         rcases Nat.eq_zero_or_pos G.length with e | e
         ·rw[e]at q;cases q
         ·exact e
        cases T:yF 0 100 [P]with
        | false=>rw[T]at hd;cases hd
        | true=>
         rw[T]at hd;simp only[Bool.not_true,zf]at hd;cases X:yF 0 50000 [D]with
         | false=>rw[X]at hd;cases hd
         | true=>
          rw[X]at hd;simp only[Bool.not_true,zf]at hd;cases K:yF 0 24 [S]with
          | false=>rw[K]at hd;cases hd
          | true=>
           rw[K]at hd;simp only[Bool.not_true,zf]at hd;cases M:ieq (cnA O) 0 with
           | false=>rw[M]at hd;exact absurd hd (ne M)
           | true=>
            rw[M]at hd;simp only[Bool.not_true,zf]at hd;cases N:ieq (cnA U) 0 with
            | false=>rw[N]at hd;exact absurd hd (ne N)
            | true=>
             rw[N]at hd;simp only[Bool.not_true,zf]at hd;cases Q:ieq (crA C) 0 with
             | false=>rw[Q]at hd;exact absurd hd (ne Q)
             | true=>
              rw[Q]at hd;simp only[Bool.not_true,zf]at hd;cases s7:C.neg with
              | true=>rw[s7]at hd;cases hd
              | false=>
               rw[s7]at hd;simp only[zf]at hd;cases R:ieq (crA st) 0 with
               | false=>rw[R]at hd;exact absurd hd (ne R)
               | true=>
                rw[R]at hd;simp only[Bool.not_true,zf]at hd;cases s9:st.neg with
                | true=>rw[s9]at hd;cases hd
                | false=>
                 rw[s9]at hd;simp only[zf]at hd;cases f:ieq (crA V) 0 with
                 | false=>rw[f]at hd;exact absurd hd (ne f)
                 | true=>
                  rw[f]at hd;simp only[Bool.not_true,zf]at hd;cases y:V.neg with
                  | true=>rw[y]at hd;cases hd
                  | false=>
                   rw[y]at hd;simp only[zf]at hd;cases j:ilt (.ofNat 200) (.ofNat (h.length*o.length*t.length*G.length))with
                   | true=>rw[j]at hd;cases hd
                   | false=>
                    rw[j]at hd;simp only[zf]at hd;exact⟨qL.1 z,k,A,E,l0,cZ J,B,K,cZ j⟩
noncomputable def szA(h o t:List Int)(G:List Bd)(P D S:Int)(O U:List Nz)(C st V:Raw):Int:=bif ieq (dcA h o t G P D S O U C st V) 0 then .ofNat (h.length*o.length*t.length*G.length)else 0
theorem jAk(h o t:List Int)(G:List Bd)(P D S:Int)(O U:List Nz)(C st V:Raw):((qK Tryz.prog (evD Tryz.prog (ODs dcA) (loT []) 60) 134 [.ag (mdC h o t G P D S O U C st V)] []).bind qQ).run=some (.tu [vi (szA h o t G P D S O U C st V),vi (dcA h o t G P D S O U C st V)],true):=by
 rw[eSz];unfold szA;cases e:ieq (dcA h o t G P D S O U C st V) 0 with
 | false=>rfl
 | true=>
  have m:=zTp h o t G P D S O U C st V (qL.1 e);obtain⟨⟨_,j⟩,⟨_,l2⟩,⟨_,k⟩⟩:=zVs m.grid;obtain⟨q,y,m3⟩:=zWl j l2 k m.av6;have f:dcA h o t G P D S O U C st V=0:=qL.1 e;simp only[Bool.not_true,zf,ze,gd,yP (show h.length*o.length<9223372036854775808 by omega),yP (show h.length*o.length*t.length<9223372036854775808 by omega),yP (show h.length*o.length*t.length*G.length<9223372036854775808 by omega)]
  rw[f];rfl
theorem kSz:∀az e nw,(oSz szA dcA az).run=some (e,nw)→∀k,KnP Tryz.prog k 134 az e nw:=by
 intro az e nw hh k;unfold oSz at hh;split at hh
 ·rename_i h o t G P D S O U f C am z sl sm j q y;cases hh;exact kF (cz:=[.ag (mdC h o t G P D S O U ⟨f,C,am⟩ ⟨z,sl,sm⟩ ⟨j,q,y⟩)]) yT qYf qA (jAk h o t G P D S O U ⟨f,C,am⟩ ⟨z,sl,sm⟩ ⟨j,q,y⟩) rfl k
 ·cases hh
noncomputable def kyF(l:List Int):ByteArray:=⟨(zCs (l.map Int.toNat)).toArray⟩
noncomputable def kyG(l:List Int):Bool:=Nat.blt 0 l.length&&(Nat.blt l.length 1000&&l.all fun x=>nng x&&ilt x 9223372036854775808)
noncomputable def oKy(ky:List Int→ByteArray):List T→DT (T×Bool)
 | [.ls .a (.int .i64) l]=>grd (kyG l) (.ret (.v (.string (ky l)),true))
 | _=> .no
theorem kKy:∀az A nw,(oKy kyF az).run=some (A,nw)→∀k,KnP Tryz.prog k 130 az A nw:=by
 intro az A nw h k;unfold oKy at h;split at h
 ·rename_i l;obtain⟨G,f⟩:=zS h;cases f;simp only[kyG,zd,List.all_eq_true]at G;obtain⟨g1,E,Q⟩:=G;have g1:=jC g1;have E:=jC E;intro B w X qO R hI _ hX hR hK;match qO,hR with
  | [v],⟨hv,_⟩=>
   cases hv with
   | ls hv=>
    obtain⟨ad,c,N,hD⟩:=hv;cases N;rcases hD.2.2 with rfl | ⟨b,o,rfl,hb,H⟩
    ·exact absurd g1 (Nat.lt_irrefl _)
    ·have nn:∀x∈l,∃m:Nat,x= .ofNat m∧m≤9223372036854775807:=fun x z=>by
      have:=Q x z;cases x with
      | ofNat m=>exact⟨m,rfl,by have f:=xN.1 this.2;have f:(m:Int)<9223372036854775808:=f;omega⟩
      | negSucc m=>cases this.1
     have K:l.length=(l.map Int.toNat).length:=(List.length_map _).symm;show Calls Tryz.prog 130 #[.slice (some ⟨b,o,none⟩) l.length c] w R;rw[K];refine(zPp b o c (l.map Int.toNat) w (by rw[←K];omega) (fun x z=>?_) (hI (by rw[qHh];exact fun h=>by cases h)) fun j x J=>?_).mono ?_
     ·obtain⟨y,q,rfl⟩:=List.mem_map.1 z;obtain⟨m,rfl,M⟩:=nn y q;exact M
     ·rw[List.getElem?_map]at J;obtain⟨y,q,rfl⟩:=Option.map_eq_some_iff.1 J;obtain⟨m,rfl,M⟩:=nn y (List.mem_of_getElem? q);obtain⟨vs,h3,T,h5⟩:=H j _ q;obtain rfl:vs=[.int .i64 (.ofNat m)]:=T;have:=h5 0 _ rfl;rw[show o+(j*Ty.size nT+0)=o+j by simp[Ty.size]]at this
      exact yK this
     ·rintro e w' ⟨rfl,hb⟩;exact hK _ w' (Upd.of_below hb) (.v rfl)
 ·cases h
noncomputable def iP1(ns us:Int)(od:Bool)(e:List (List Int))(n k:Nat)(c:List Int)(m i:Nat)(G:List Bd)(F:List (List Int)):Hs:=⟨[vi ns,vi us,.v (.bool od),.ls .a (.list nT) e,vn n,vn k,.ls .a nT c,vn m,vn i],[],[[.ls .a bT G,.ls .a (.list nT) F]]⟩
noncomputable def xP1(ns us:Int)(od:Bool)(e:List (List Int))(n k:Nat)(G:List Bd)(F:List (List Int)):Hs:=⟨[vi ns,vi us,.v (.bool od),.ls .a (.list nT) e,vn n,vn k],[],[[.ls .a bT G,.ls .a (.list nT) F]]⟩
noncomputable def Lp1:Lp:=⟨1,
 ⟨[.u,.t (.op 0 0),.u,.h,.u,.h,.h]++(us' 37++([.h,.h,.h]++(us' 7++([.h,.h,.h]++(us' 76))))),[.r [.u,.u,.u,.h,.u,.u,.u,.u,.u,.u,.u,.u,.u,.u,.u,.u,.u,.u,.u,.h,.u] 33]⟩,
 ⟨[.u,.t (.op 0 0),.u,.h,.u,.h,.h]++(us' 37++([.h,.h,.h]++(us' 86))),[.r [.u,.u,.u,.h,.u,.u,.u,.u,.u,.u,.u,.u,.u,.u,.u,.u,.u,.u,.u,.h,.u] 33]⟩,
 ⟨[.u,.u,.h]++(us' 130),[.g]⟩⟩
noncomputable abbrev qPn:Code:=lpc Tryz.prog 61 [false,true,true,true,false,false,true,true,false,false,true,false,true,true,true,true]
theorem qSh:cAt Tryz.prog 61 [false,true,true,true,false,false,true,true,false,false,true,false,true,true,true,true]=some (.loop qPn):=by kernel_rfl
noncomputable abbrev qBb(OD:Od)(e:Lo):Hs→Option (Hs⊕(Ex×Hs)):=Lp1.stp (evD Tryz.prog OD e 60) 61 [false,true,true,true,false,false,true,true,false,false,true,false,true,true,true,true] qPn
theorem sP1(ns us:Int)(od:Bool)(e:List (List Int))(n k:Nat)(c:List Int)(m i:Nat)(G:List Bd)(F:List (List Int)):qBb (odT []) (loT []) (iP1 ns us od e n k c m i G F)=bif ilt (.ofNat i) (.ofNat m)then gd (Nat.blt i c.length) (bif ilt (nth nT.zero c i) (.ofNat 0)then some (.inr (.r,⟨[vn 8],[],[[]]⟩))else(bif !(ilt (nth nT.zero c i) (.ofNat F.length))then some (.inr (.r,⟨[vn 8],[],[[]]⟩))else(bif ilt us (nth nT.zero c i)then nx i (.inl (iP1 ns us false e n k c m (i+1) G F))else(bif ieq (nth nT.zero c i) us then gd (inW (us.add 1)) (nx i (.inl (iP1 ns (us.add (.ofNat 1)) od e n k c m (i+1) G F)))else nx i (.inl (iP1 ns us od e n k c m (i+1) G F))))))else some (.inr (.x 3,(xP1 ns us od e n k G F))):=by kernel_rfl
abbrev UO:=Int×Bool
noncomputable def gP1(F:List (List Int))(c:List Int)(i:Nat)(s:UO):UO⊕Option UO:=bif ilt (nI c i) (.ofNat 0)||!ilt (nI c i) (.ofNat F.length)then .inr none else .inl (bif ilt s.1 (nI c i)then(s.1,false)else(bif ieq (nI c i) s.1 then(s.1.add 1,s.2)else s))
noncomputable def p1F(F:List (List Int))(c:List Int)(s:UO):Option UO:=fol (gP1 F c) some c.length 0 s
noncomputable def qQz(ns:Int)(e:List (List Int))(n k:Nat)(G:List Bd)(F:List (List Int)):Option UO→Ex×Hs
 | none=>(.r,⟨[vn 8],[],[[]]⟩)
 | some s=>(.x 3,xP1 ns s.1 s.2 e n k G F)
def okU(F:List (List Int))(s:UO):Prop:=0≤s.1∧s.1≤F.length
theorem qEa{F:List (List Int)}{c:List Int}{i:Nat}{s y:UO}(h:okU F s)(f:gP1 F c i s= .inl y):okU F y:=by
 unfold gP1 at f;cases j:ilt (nI c i) (.ofNat 0)||!ilt (nI c i) (.ofNat F.length)with
 | true=>rw[j]at f;cases f
 | false=>
  rw[j]at f;simp only[Bool.or_eq_false_iff,Bool.not_eq_false']at j;have z:nI c i<(F.length:Int):=xN.1 j.2;cases k:ilt s.1 (nI c i)with
  | true=>rw[k]at f;cases f;exact h
  | false=>
   cases q:ieq (nI c i) s.1 with
   | false=>rw[k,q]at f;cases f;exact h
   | true=>
    rw[k,q]at f;cases f;have e:=qL.1 q;exact⟨Int.le_trans h.1 (show s.1≤s.1+1 by omega),show s.1+1≤(F.length:Int)by omega⟩
theorem lpP1(ns:Int)(j:List (List Int))(n k:Nat)(c:List Int)(G:List Bd)(F:List (List Int))(s:UO)(hs:okU F s)(z:c.length<9223372036854775807)(hr:F.length<9223372036854775807):lpF (qBb (odT []) (loT [])) c.length (iP1 ns s.1 s.2 j n k c c.length 0 G F)=some (qQz ns j n k G F (p1F F c s)):=
 jP (iv:=fun i(s:UO)=>iP1 ns s.1 s.2 j n k c c.length i G F) (g:=gP1 F c) (d:=some) (out:=qQz ns j n k G F) (n:=c.length) (fun _ s=>okU F s)
  (fun i s e f=>by
   rw[sP1];show(bif Nat.blt i c.length then _ else _)=_;unfold gP1 nI;have y:inW (s.1.add 1)=true:=zCq (show(0:Int)≤s.1+1 from by have:=f.1;omega) (show s.1+1<9223372036854775808 from by have:=f.2;omega)
   simp only[gd,zP e,ze,xZ (show i+1<9223372036854775808 by omega),y]
   cases ilt (nth nT.zero c i) (.ofNat 0)<;>cases ilt (nth nT.zero c i) (.ofNat F.length)<;>cases ilt s.1 (nth nT.zero c i)<;>cases ieq (nth nT.zero c i) s.1<;>rfl)
  (fun i s A e f q=>qEa f q)
  (fun s _=>by rw[sP1];show(bif Nat.blt c.length c.length then _ else _)=_;rw[yL (Nat.le_refl _),zf];rfl) c.length 0 s (by omega) hs
noncomputable def isS{α:Type}:Option α→Bool
 | some _=>true
 | none=>false
noncomputable def gS:Option UO→UO
 | some s=>s
 | none=>(0,false)
noncomputable def zQd(F:List (List Int))(us:Int):Bool:=nng us&&!ilt (.ofNat F.length) us
theorem zFu{F:List (List Int)}{us:Int}{od:Bool}:zQd F us=true↔okU F (us,od):=by
 unfold zQd okU;simp only[zd,Bool.not_eq_true'];constructor
 ·rintro⟨e,f⟩;cases us with
  | ofNat m=>exact⟨Int.natCast_nonneg _,vC f⟩
  | negSucc m=>cases e
 ·rintro⟨e,f⟩;cases us with
  | ofNat m=>exact⟨rfl,zPk f⟩
  | negSucc m=>exact absurd e (by show¬(0:Int)≤Int.negSucc m;omega)
noncomputable def hP1:Hs→DT (Ex×Hs)
 | ⟨[.v (.int .i64 ns),.v (.int .i64 us),.v (.bool od),.ls .a (.list (.int .i64)) e,.v (.int .i64 (.ofNat n)),.v (.int .i64 (.ofNat k)),.ls .a (.int .i64) c,.v (.int .i64 (.ofNat m)),.v (.int .i64 (.ofNat 0))],[],[[.ls .a (.prod (.int .u8) (.prod (.int .i64) (.int .i64))) G,.ls .a (.list (.int .i64)) F]]⟩=>grd (Nat.beq m c.length&&(Nat.blt c.length 9223372036854775807&&(Nat.blt F.length 9223372036854775807&&zQd F us))) (.ite (isS (p1F F c (us,od))) (.ret (.x 3,xP1 ns (gS (p1F F c (us,od))).1 (gS (p1F F c (us,od))).2 e n k G F)) (.ret (.r,⟨[vn 8],[],[[]]⟩)))
 | _=> .no
theorem qWc:∀q y,(hP1 q).run=some y→∃n,It (qBb (odT []) (loT [])) n q y:=fun q y hh=>by
 unfold hP1 at hh;split at hh
 ·rename_i ns us od B n k c m G F;obtain⟨e,f⟩:=zS hh;simp only[zd]at e;obtain⟨g1,j,z,A⟩:=e;obtain rfl:=zY g1;have:=kT _ _ (lpP1 ns B n k c G F (us,od) (zFu.1 A) (jC j) (jC z));cases hb:p1F F c (us,od)<;>rw[hb]at f this<;>cases f<;>exact this
 ·cases hh
noncomputable abbrev LP1:Lo:=loT [(61,[false,true,true,true,false,false,true,true,false,false,true,false,true,true,true,true],Lp1.row hP1)]
theorem qXq:vY Tryz.prog LP1:=jX qA lV qSh qWc
noncomputable def iP0(ns us:Int)(od:Bool)(e:List (List Int))(n k:Nat)(G:List Bd)(F:List (List Int)):Hs:=⟨[vi ns,vi us,.v (.bool od),.ls .a (.list nT) e,vn n,vn k],[],[[.ls .a bT G,.ls .a (.list nT) F]]⟩
noncomputable def xP0(us:Int)(od:Bool)(G:List Bd)(F:List (List Int)):Hs:=⟨[vi us,.v (.bool od)],[],[[.ls .a bT G,.ls .a (.list nT) F]]⟩
noncomputable def Lp0:Lp:=⟨1,
 ⟨[.u,.t (.op 0 0),.u,.h,.u,.h,.h]++(us' 37++([.h,.h,.h]++(us' 86))),[.r [.u,.u,.u,.h,.u,.u,.u,.u,.u,.u,.u,.u,.u,.u,.u,.u,.u,.u,.u,.h,.u] 33]⟩,
 ⟨[.u,.t (.op 0 0)]++(us' 3++([.h,.h]++(us' 126))),[.r [.u,.u,.u,.h,.u,.u,.u,.u,.u,.u,.u,.u,.u,.u,.u,.u,.u,.u,.u,.h,.u] 33]⟩,
 ⟨[.u,.u,.h]++(us' 130),[.g]⟩⟩
noncomputable abbrev qPm:Code:=lpc Tryz.prog 61 [false,true,false,true,true,true,true]
theorem qSg:cAt Tryz.prog 61 [false,true,false,true,true,true,true]=some (.loop qPm):=by kernel_rfl
noncomputable abbrev qBa(OD:Od)(e:Lo):Hs→Option (Hs⊕(Ex×Hs)):=Lp0.stp (evD Tryz.prog OD e 60) 61 [false,true,false,true,true,true,true] qPm
theorem sP0(ns us:Int)(od:Bool)(e:List (List Int))(n k:Nat)(G:List Bd)(F:List (List Int)):qBa (odT []) LP1 (iP0 ns us od e n k G F)=bif ilt (.ofNat k) (.ofNat n)then gd (Nat.blt k e.length) (bif !(ieq (.ofNat ((gI e k).length)) ns)then some (.inr (.r,⟨[vn 16],[],[[]]⟩))else gd ((Nat.beq ((gI e k).length) ((gI e k).length))&&((Nat.blt ((gI e k).length) 9223372036854775807)&&((Nat.blt F.length 9223372036854775807)&&(zQd F us)))) (bif isS (p1F F (gI e k) (us,od))then nx k (.inl (iP0 ns ((gS (p1F F (gI e k) (us,od))).1) ((gS (p1F F (gI e k) (us,od))).2) e n (k+1) G F))else some (.inr (.r,⟨[vn 8],[],[[]]⟩))))else some (.inr (.x 1,(xP0 us od G F))):=by kernel_rfl
noncomputable def gP0(ns:Int)(F e:List (List Int))(k:Nat)(s:UO):UO⊕(UO⊕Int):=bif !ieq (.ofNat (gI e k).length) ns then .inr (.inr 16)else(bif isS (p1F F (gI e k) s)then .inl (gS (p1F F (gI e k) s))else .inr (.inr 8))
noncomputable def p0F(ns:Int)(F e:List (List Int))(s:UO):UO⊕Int:=fol (gP0 ns F e) .inl e.length 0 s
noncomputable def qQy(G:List Bd)(F:List (List Int)):UO⊕Int→Ex×Hs
 | .inl s=>(.x 1,xP0 s.1 s.2 G F)
 | .inr e=>(.r,⟨[vi e],[],[[]]⟩)
theorem xC{α β:Type}{g:Nat→α→α⊕β}{d:α→β}{J:α→Prop}{R:β→Prop}(e:∀i a b,J a→g i a= .inl b→J b)(f:∀i a y,J a→g i a= .inr y→R y)(j:∀a,J a→R (d a)):∀(k i:Nat)(a:α),J a→R (fol g d k i a)
 | 0,i,a,h=>j a h
 | k+1,i,a,h=>by
  simp only[fol];cases H:g i a with
  | inl b=>exact xC e f j k (i+1) b (e i a b h H)
  | inr y=>exact f i a y h H
theorem jCj{F:List (List Int)}{c:List Int}{s:UO}(h:okU F s)(hs:isS (p1F F c s)=true):okU F (gS (p1F F c s)):=by
 have:=xC (g:=gP1 F c) (d:=some) (J:=okU F) (R:=fun y=>∀j,y=some j→okU F j) (fun i a b ha f=>qEa ha f) (fun i a y ha f j e=>by
  unfold gP1 at f;cases k:ilt (nI c i) (.ofNat 0)||!ilt (nI c i) (.ofNat F.length)<;>rw[k]at f
  ·cases f
  ·cases f;cases e) (fun a ha j e=>by cases e;exact ha) c.length 0 s h
 cases hp:p1F F c s with
 | none=>rw[hp]at hs;cases hs
 | some j=>exact this j hp
theorem qVl{ns:Int}{F q:List (List Int)}{k:Nat}{s y:UO}(h:okU F s)(e:gP0 ns F q k s= .inl y):okU F y:=by
 unfold gP0 at e;cases f:ieq (.ofNat (gI q k).length) ns with
 | false=>rw[f]at e;cases e
 | true=>
  cases j:isS (p1F F (gI q k) s)with
  | false=>rw[f,j]at e;cases e
  | true=>rw[f,j]at e;cases e;exact jCj h j
theorem lpP0(ns:Int)(f:List (List Int))(G:List Bd)(F:List (List Int))(s:UO)(hs:okU F s)(hn:ns<9223372036854775807)(z:f.length<9223372036854775807)(hr:F.length<9223372036854775807):lpF (qBa (odT []) LP1) f.length (iP0 ns s.1 s.2 f f.length 0 G F)=some (qQy G F (p0F ns F f s)):=
 jP (iv:=fun i(s:UO)=>iP0 ns s.1 s.2 f f.length i G F) (g:=gP0 ns F f) (d:= .inl) (out:=qQy G F) (n:=f.length) (fun _ s=>okU F s)
  (fun i s j k=>by
   rw[sP0];show(bif Nat.blt i f.length then _ else _)=_;unfold gP0;cases q:ieq (.ofNat (gI f i).length) ns with
   | false=>simp only[gd,zP j,ze];rfl
   | true=>
    have e:((gI f i).length:Int)=ns:=qL.1 q;have hb:zQd F s.1=true:=zFu.2 k;simp only[gd,zP j,ze,Bool.not_true,zf,kG,zP (show(gI f i).length<9223372036854775807 by omega),zP hr,hb,Bool.and_self,xZ (show i+1<9223372036854775808 by omega)]
    cases isS (p1F F (gI f i) s)<;>rfl)
  (fun i s A j k y=>qVl k y)
  (fun s _=>by rw[sP0];show(bif Nat.blt f.length f.length then _ else _)=_;rw[yL (Nat.le_refl _),zf];rfl) f.length 0 s (by omega) hs
noncomputable def isU:UO⊕Int→Bool
 | .inl _=>true
 | .inr _=>false
noncomputable def gU:UO⊕Int→UO
 | .inl s=>s
 | .inr _=>(0,false)
noncomputable def eU:UO⊕Int→Int
 | .inl _=>0
 | .inr e=>e
noncomputable def hP0:Hs→DT (Ex×Hs)
 | ⟨[.v (.int .i64 ns),.v (.int .i64 us),.v (.bool od),.ls .a (.list (.int .i64)) e,.v (.int .i64 (.ofNat n)),.v (.int .i64 (.ofNat 0))],[],[[.ls .a (.prod (.int .u8) (.prod (.int .i64) (.int .i64))) G,.ls .a (.list (.int .i64)) F]]⟩=>grd (Nat.beq n e.length&&(Nat.blt e.length 9223372036854775807&&(Nat.blt F.length 9223372036854775807&&(zQd F us&&ilt ns 9223372036854775807)))) (.ite (isU (p0F ns F e (us,od))) (.ret (.x 1,xP0 (gU (p0F ns F e (us,od))).1 (gU (p0F ns F e (us,od))).2 G F)) (.ret (.r,⟨[vi (eU (p0F ns F e (us,od)))],[],[[]]⟩)))
 | _=> .no
theorem qOb:gT Tryz.prog (evD Tryz.prog (odT []) LP1 60):=kQ yT yG qXq 60
theorem qWb:∀q y,(hP0 q).run=some y→∃n,It (qBa (odT []) LP1) n q y:=fun q y hh=>by
 unfold hP0 at hh;split at hh
 ·rename_i ns us od j n G F;obtain⟨e,f⟩:=zS hh;simp only[zd]at e;obtain⟨g1,k,z,A,B⟩:=e;obtain rfl:=zY g1;have:=kT _ _ (lpP0 ns j G F (us,od) (zFu.1 A) (xN.1 B) (jC k) (jC z));cases hb:p0F ns F j (us,od)<;>rw[hb]at f this<;>cases f<;>exact this
 ·cases hh
noncomputable def iP3(us:Int)(od:Bool)(d:List Int)(e:List (List Int))(n k:Nat)(c:List Int)(m i:Nat)(mp:List (ByteArray×Int))(G:List Bd)(F:List (List Int)):Hs:=⟨[vi us,.v (.bool od),.ls .a nT d,.ls .a (.list nT) e,vn n,vn k,.ls .a nT c,vn m,vn i],[],[[.ls .a bT G,.ls .a (.list nT) F],[.ls .a (.prod .str nT) mp]]⟩
noncomputable def xP3(us:Int)(od:Bool)(d:List Int)(e:List (List Int))(n k:Nat)(mp:List (ByteArray×Int))(G:List Bd)(F:List (List Int)):Hs:=⟨[vi us,.v (.bool od),.ls .a nT d,.ls .a (.list nT) e,vn n,vn k],[],[[.ls .a bT G,.ls .a (.list nT) F],[.ls .a (.prod .str nT) mp]]⟩
noncomputable def Lp3:Lp:=⟨2,
 ⟨[.u,.t (.op 0 0)]++(us' 3++([.h,.h]++(us' 4++([.t (.om 1),.u,.h]++(us' 70++([.h,.h,.h]++(us' 10++([.h,.h,.h]++(us' 33))))))))),[.r [.u,.u,.u,.h,.u,.u,.u,.u,.u,.u,.u,.u,.u,.u,.u,.u,.u,.u,.u,.h,.u] 33,.m .a .str nT]⟩,
 ⟨[.u,.t (.op 0 0)]++(us' 3++([.h,.h]++(us' 4++([.t (.om 1),.u,.h]++(us' 70++([.h,.h,.h]++(us' 46))))))),[.r [.u,.u,.u,.h,.u,.u,.u,.u,.u,.u,.u,.u,.u,.u,.u,.u,.u,.u,.u,.h,.u] 33,.m .a .str nT]⟩,
 ⟨[.u,.u,.h]++(us' 130),[.g,.g]⟩⟩
noncomputable abbrev qPp:Code:=lpc Tryz.prog 61 [false,true,false,true,true,false,false,true,true,false,false,true,false,true,true,true,true,true,true]
theorem qSj:cAt Tryz.prog 61 [false,true,false,true,true,false,false,true,true,false,false,true,false,true,true,true,true,true,true]=some (.loop qPp):=by kernel_rfl
noncomputable abbrev qBd(OD:Od)(e:Lo):Hs→Option (Hs⊕(Ex×Hs)):=Lp3.stp (evD Tryz.prog OD e 60) 61 [false,true,false,true,true,false,false,true,true,false,false,true,false,true,true,true,true,true,true] qPp
theorem sP3(us:Int)(od:Bool)(d:List Int)(e:List (List Int))(n k:Nat)(c:List Int)(m i:Nat)(mp:List (ByteArray×Int))(G:List Bd)(F:List (List Int)):qBd (odT []) (loT []) (iP3 us od d e n k c m i mp G F)=bif ilt (.ofNat i) (.ofNat m)then gd (Nat.blt i c.length) (bif ilt (nth nT.zero c i) (.ofNat 0)then some (.inr (.r,⟨[vn 1],[],[[],[]]⟩))else(bif ilt (.ofNat 1099511627776) (nth nT.zero c i)then some (.inr (.r,⟨[vn 1],[],[[],[]]⟩))else nx i (.inl (iP3 us od d e n k c m (i+1) mp G F))))else some (.inr (.x 8,(xP3 us od d e n k mp G F))):=by kernel_rfl
noncomputable def gP3(c:List Int)(i:Nat)(_:Unit):Unit⊕Bool:=bif ilt (nI c i) (.ofNat 0)||ilt (.ofNat 1099511627776) (nI c i)then .inr true else .inl ()
noncomputable def p3F(c:List Int):Bool:=fol (gP3 c) (fun _=>false) c.length 0 ()
noncomputable def zXe(us:Int)(od:Bool)(d:List Int)(e:List (List Int))(n k:Nat)(mp:List (ByteArray×Int))(G:List Bd)(F:List (List Int)):Bool→Ex×Hs
 | true=>(.r,⟨[vn 1],[],[[],[]]⟩)
 | false=>(.x 8,xP3 us od d e n k mp G F)
theorem lpP3(us:Int)(od:Bool)(d:List Int)(e:List (List Int))(n k:Nat)(mp:List (ByteArray×Int))(c:List Int)(G:List Bd)(F:List (List Int))(j:c.length<9223372036854775807):lpF (qBd (odT []) (loT [])) c.length (iP3 us od d e n k c c.length 0 mp G F)=some (zXe us od d e n k mp G F (p3F c)):=
 jP (iv:=fun i(_:Unit)=>iP3 us od d e n k c c.length i mp G F) (g:=gP3 c) (d:=fun _=>false) (out:=zXe us od d e n k mp G F) (n:=c.length) (fun _ _=>True)
  (fun i s f _=>by
   rw[sP3];show(bif Nat.blt i c.length then _ else _)=_;unfold gP3 nI;rw[zP f,ze];simp only[gd,ze,xZ (show i+1<9223372036854775808 by omega)]
   cases ilt (nth nT.zero c i) (.ofNat 0)<;>cases ilt (.ofNat 1099511627776) (nth nT.zero c i)<;>rfl)
  (fun _ _ _ _ _ _=>trivial)
  (fun s _=>by rw[sP3];show(bif Nat.blt c.length c.length then _ else _)=_;rw[yL (Nat.le_refl _),zf];rfl) c.length 0 () (by omega) trivial
noncomputable def hP3:Hs→DT (Ex×Hs)
 | ⟨[.v (.int .i64 us),.v (.bool od),.ls .a (.int .i64) d,.ls .a (.list (.int .i64)) e,.v (.int .i64 (.ofNat n)),.v (.int .i64 (.ofNat k)),.ls .a (.int .i64) c,.v (.int .i64 (.ofNat m)),.v (.int .i64 (.ofNat 0))],[],[[.ls .a (.prod (.int .u8) (.prod (.int .i64) (.int .i64))) G,.ls .a (.list (.int .i64)) F],[.ls .a (.prod .str (.int .i64)) mp]]⟩=>grd (Nat.beq m c.length&&Nat.blt c.length 9223372036854775807) (.ite (p3F c) (.ret (zXe us od d e n k mp G F true)) (.ret (zXe us od d e n k mp G F false)))
 | _=> .no
theorem qWe:∀q y,(hP3 q).run=some y→∃n,It (qBd (odT []) (loT [])) n q y:=fun q y hh=>by
 unfold hP3 at hh;split at hh
 ·rename_i us od d j n k c m G F mp;obtain⟨e,f⟩:=zS hh;simp only[zd]at e;obtain rfl:=zY e.1;have:=kT _ _ (lpP3 us od d j n k mp c G F (jC e.2));cases hb:p3F c<;>rw[hb]at f this<;>cases f<;>exact this
 ·cases hh
noncomputable abbrev LP3:Lo:=loT [(61,[false,true,false,true,true,false,false,true,true,false,false,true,false,true,true,true,true,true,true],Lp3.row hP3)]
theorem qXr:vY Tryz.prog LP3:=jX qA lV qSj qWe
theorem qRf{c:List Int}(h:p3F c=false){i:Nat}(j:i<c.length):0≤nI c i∧nI c i≤1099511627776:=by
 have H:=zAo (g:=gP3 c) (d:=false) (fun i y f e=>by unfold gP3 at f;cases hb:ilt (nI c i) (.ofNat 0)||ilt (.ofNat 1099511627776) (nI c i)<;>rw[hb]at f<;>cases f;cases e) c.length 0 h i (Nat.zero_le _) (by omega)
 unfold gP3 at H;cases hb:ilt (nI c i) (.ofNat 0)||ilt (.ofNat 1099511627776) (nI c i)with
 | true=>rw[hb]at H;cases H
 | false=>
  simp only[Bool.or_eq_false_iff]at hb;exact⟨vC hb.1,vC hb.2⟩
theorem qXc{c:List Int}(y:1≤c.length)(z:c.length≤900)(h:p3F c=false):kyG c=true:=by
 simp only[kyG,zd,List.all_eq_true];refine⟨zP (by omega),zP (by omega),fun x q=>?_⟩
 obtain⟨i,j⟩:=List.getElem?_of_mem q;have hlt:=(List.getElem?_eq_some_iff.1 j).1;have e:nI c i=x:=by rw[qXx hlt];exact(List.getElem?_eq_some_iff.1 j).2
 obtain⟨f,k⟩:=qRf h hlt;rw[e]at f k;refine⟨?_,zEi (by omega)⟩
 cases x with
 | ofNat m=>rfl
 | negSucc m=>exact absurd f (by omega)
noncomputable def iP2(us:Int)(od:Bool)(e:List (List Int))(n k:Nat)(mp:List (ByteArray×Int))(G:List Bd)(F:List (List Int)):Hs:=⟨[vi us,.v (.bool od),.ls .a (.list nT) e,vn n,vn k],[],[[.ls .a bT G,.ls .a (.list nT) F],[.ls .a (.prod .str nT) mp]]⟩
noncomputable def xP2(us:Int)(od:Bool)(mp:List (ByteArray×Int))(G:List Bd)(F:List (List Int)):Hs:=⟨[vi us,.v (.bool od)],[],[[.ls .a bT G,.ls .a (.list nT) F],[.ls .a (.prod .str nT) mp]]⟩
noncomputable def Lp2:Lp:=⟨2,
 ⟨[.u,.t (.op 0 0)]++(us' 3++([.h,.h]++(us' 4++([.t (.om 1)]++(us' 72++([.h,.h,.h]++(us' 46))))))),[.r [.u,.u,.u,.h,.u,.u,.u,.u,.u,.u,.u,.u,.u,.u,.u,.u,.u,.u,.u,.h,.u] 33,.m .a .str nT]⟩,
 ⟨[.u,.t (.op 0 0)]++(us' 3++([.h,.h]++(us' 4++([.t (.om 1)]++(us' 121))))),[.r [.u,.u,.u,.h,.u,.u,.u,.u,.u,.u,.u,.u,.u,.u,.u,.u,.u,.u,.u,.h,.u] 33,.m .a .str nT]⟩,
 ⟨[.u,.u,.h]++(us' 130),[.g,.g]⟩⟩
noncomputable abbrev qPo:Code:=lpc Tryz.prog 61 [false,true,false,true,true,true,true,true,true]
theorem qSi:cAt Tryz.prog 61 [false,true,false,true,true,true,true,true,true]=some (.loop qPo):=by kernel_rfl
noncomputable abbrev qBc(OD:Od)(e:Lo):Hs→Option (Hs⊕(Ex×Hs)):=Lp2.stp (evD Tryz.prog OD e 60) 61 [false,true,false,true,true,true,true,true,true] qPo
noncomputable abbrev OKy(ky:List Int→ByteArray):Od:=odT [(130,odR [.list nT] (oKy ky))]
theorem sP2(ky:List Int→ByteArray)(us:Int)(od:Bool)(e:List (List Int))(n k:Nat)(mp:List (ByteArray×Int))(G:List Bd)(F:List (List Int)):qBc (OKy ky) LP3 (iP2 us od e n k mp G F)=bif ilt (.ofNat k) (.ofNat n)then gd (Nat.blt k e.length) (bif !(ieq (.ofNat ((gI e k).length)) (.ofNat G.length))then some (.inr (.r,⟨[vn 16],[],[[],[]]⟩))else gd ((Nat.beq ((gI e k).length) ((gI e k).length))&&(Nat.blt ((gI e k).length) 9223372036854775807)) (bif p3F (gI e k)then some (.inr (.r,⟨[vn 1],[],[[],[]]⟩))else gd (kyG (gI e k)) (gd (inW (Int.add (rE .str 0 (ky (gI e k)) mp) 1)) (nx k (.inl (iP2 us od e n (k+1) (bW .str (ky (gI e k)) (Int.add (rE .str 0 (ky (gI e k)) mp) 1) mp) G F))))))else some (.inr (.x 6,(xP2 us od mp G F))):=by kernel_rfl
abbrev Km:=List (ByteArray×Int)
theorem zPg(k j:ByteArray)(x:Int):∀m:Km,rE .str 0 k (bW .str j x m)=x∨rE .str 0 k (bW .str j x m)=rE .str 0 k m
 | []=>by
  show(bif keq .str k j then x else(0:Int))=x∨(bif keq .str k j then x else(0:Int))=0;cases keq .str k j
  ·exact .inr rfl
  ·exact .inl rfl
 | e::m=>by
  have z:bW .str j x (e::m)=(bif keq .str j e.1 then(j,x)::m else e::bW .str j x m):=rfl;have y:∀(q:ByteArray)(f:ByteArray×Int)(m:Km),rE .str 0 q (f::m)=(bif keq .str q f.1 then f.2 else rE .str 0 q m):=fun _ _ _=>rfl;rw[z];cases h:keq .str j e.1 with
  | true=>
   rw[ze,y,y];have A:j=e.1:=of_decide_eq_true h;rw[←A];cases keq .str k j
   ·exact .inr rfl
   ·exact .inl rfl
  | false=>
   rw[zf,y,y];cases keq .str k e.1
   ·exact zPg k j x m
   ·exact .inr rfl
def okK(k:Nat)(mp:Km):Prop:=∀q,0≤rE .str 0 q mp∧rE .str 0 q mp≤k
theorem qMw{k:Nat}{mp:Km}(h:okK k mp)(q:ByteArray):okK (k+1) (bW .str q (Int.add (rE .str 0 q mp) 1) mp):=fun p=>by
 have j:=h q;have f:=h p;rcases zPg p q (Int.add (rE .str 0 q mp) 1) mp with e | e<;>rw[e]
 ·exact⟨show(0:Int)≤rE .str 0 q mp+1 by omega,show rE .str 0 q mp+1≤((k+1:Nat):Int)by omega⟩
 ·exact⟨f.1,by omega⟩
section
variable (ky:List Int→ByteArray)
noncomputable def gP2(e:List (List Int))(G:List Bd)(k:Nat)(mp:Km):Km⊕(Km⊕Int):=bif !ieq (.ofNat (gI e k).length) (.ofNat G.length)then .inr (.inr 16)else(bif p3F (gI e k)then .inr (.inr 1)else .inl (bW .str (ky (gI e k)) (Int.add (rE .str 0 (ky (gI e k)) mp) 1) mp))
noncomputable def p2F(e:List (List Int))(G:List Bd):Km⊕Int:=fol (gP2 ky e G) .inl e.length 0 []
noncomputable def qRa(us:Int)(od:Bool)(G:List Bd)(F:List (List Int)):Km⊕Int→Ex×Hs
 | .inl mp=>(.x 6,xP2 us od mp G F)
 | .inr e=>(.r,⟨[vi e],[],[[],[]]⟩)
theorem lpP2(us:Int)(od:Bool)(f:List (List Int))(G:List Bd)(F:List (List Int))(M:f.length<9223372036854775807)(ha:1≤G.length)(hb:G.length≤900):lpF (qBc (OKy ky) LP3) f.length (iP2 us od f f.length 0 [] G F)=some (qRa us od G F (p2F ky f G)):=
 jP (iv:=fun k(mp:Km)=>iP2 us od f f.length k mp G F) (g:=gP2 ky f G) (d:= .inl) (out:=qRa us od G F) (n:=f.length) (fun k mp=>okK k mp)
  (fun k mp B A=>by
   rw[sP2];show(bif Nat.blt k f.length then _ else _)=_;unfold gP2;rw[zP B,ze];cases y:ieq (.ofNat (gI f k).length) (.ofNat G.length)with
   | false=>rfl
   | true=>
    have e:(gI f k).length=G.length:=Int.ofNat.inj (qL.1 y);simp only[gd,Bool.not_true,zf,ze,kG,zP (show(gI f k).length<9223372036854775807 by omega),Bool.and_self]
    cases z:p3F (gI f k)with
    | true=>rfl
    | false=>
     have E:=A (ky (gI f k));have J:inW (Int.add (rE .str 0 (ky (gI f k)) mp) 1)=true:=zCq (show(0:Int)≤rE .str 0 (ky (gI f k)) mp+1 by omega) (show rE .str 0 (ky (gI f k)) mp+1<9223372036854775808 by omega)
     simp only[zf,qXc (show 1≤(gI f k).length by omega) (show(gI f k).length≤900 by omega) z,ze,J,xZ (show k+1<9223372036854775808 by omega)])
  (fun k mp K B A j=>by
   unfold gP2 at j;cases y:ieq (.ofNat (gI f k).length) (.ofNat G.length)<;>rw[y]at j
   ·cases j
   ·cases z:p3F (gI f k)<;>rw[z]at j<;>cases j;exact qMw A _)
  (fun mp _=>by rw[sP2];show(bif Nat.blt f.length f.length then _ else _)=_;rw[yL (Nat.le_refl _),zf];rfl) f.length 0 [] (by omega) (fun q=>⟨Int.le_refl _,Int.le_refl _⟩)
noncomputable def isM:Km⊕Int→Bool
 | .inl _=>true
 | .inr _=>false
noncomputable def gM':Km⊕Int→Km
 | .inl s=>s
 | .inr _=>[]
noncomputable def eM:Km⊕Int→Int
 | .inl _=>0
 | .inr e=>e
noncomputable def hP2:Hs→DT (Ex×Hs)
 | ⟨[.v (.int .i64 us),.v (.bool od),.ls .a (.list (.int .i64)) e,.v (.int .i64 (.ofNat n)),.v (.int .i64 (.ofNat 0))],[],[[.ls .a (.prod (.int .u8) (.prod (.int .i64) (.int .i64))) G,.ls .a (.list (.int .i64)) F],[.ls .a (.prod .str (.int .i64)) []]]⟩=>grd (Nat.beq n e.length&&(Nat.blt e.length 9223372036854775807&&(Nat.ble 1 G.length&&Nat.ble G.length 900))) (.ite (isM (p2F ky e G)) (.ret (.x 6,xP2 us od (gM' (p2F ky e G)) G F)) (.ret (.r,⟨[vi (eM (p2F ky e G))],[],[[],[]]⟩)))
 | _=> .no
theorem qWd:∀q y,(hP2 ky q).run=some y→∃n,It (qBc (OKy ky) LP3) n q y:=fun q y hh=>by
 unfold hP2 at hh;split at hh
 ·rename_i us od j n G F;obtain⟨e,f⟩:=zS hh;simp only[zd,Nat.ble_eq]at e;obtain⟨g1,k,z,A⟩:=e;obtain rfl:=zY g1;have:=kT _ _ (lpP2 ky us od j G F (jC k) z A);cases hb:p2F ky j G<;>rw[hb]at f this<;>cases f<;>exact this
 ·cases hh
noncomputable abbrev LPc:Lo:=loT [(61,[false,true,false,true,true,true,true],Lp0.row hP0),(61,[false,true,false,true,true,true,true,true,true],Lp2.row (hP2 ky))]
end
noncomputable abbrev tbC(h o t:List Int)(G:List Bd)(P D S:Int)(O U:List Nz)(C st V:Raw)(Z:Int)(F I:List (List Int)):List T:=[.ls .a nT h,.ls .a nT o,.ls .a nT t,.ls .a bT G,vi P,vi D,vi S,.ls .a nzT O,.ls .a nzT U,.v (.bool C.1),.ls .a .lim C.2,.ls .a .lim C.3,.v (.bool st.1),.ls .a .lim st.2,.ls .a .lim st.3,.v (.bool V.1),.ls .a .lim V.2,.ls .a .lim V.3,vi Z,.ls .a (.list nT) F,.ls .a (.list nT) I]
noncomputable abbrev OPc(ky:List Int→ByteArray)(sz e:MF Int):Od:=odT [(134,odR [mdT] (oSz sz e)),(130,odR [.list nT] (oKy ky))]
theorem ePc(ky:List Int→ByteArray)(sz e:MF Int)(h o t:List Int)(G:List Bd)(P D S:Int)(O U:List Nz)(C st V:Raw)(Z:Int)(F I:List (List Int)):((qK Tryz.prog (evD Tryz.prog (OPc ky sz e) (LPc ky) 60) 61 [.ag (tbC h o t G P D S O U C st V Z F I)] []).bind qQ).run=bif !(ieq (e h o t G P D S O U C st V) 0)then some (vi (e h o t G P D S O U C st V),true)else(bif ilt Z (.ofNat 1)then some (vn 1,true)else(bif ilt (.ofNat 1048576) Z then some (vn 1,true)else(bif !(ieq (.ofNat I.length) S)then some (vn 16,true)else gd ((Nat.beq I.length I.length)&&((Nat.blt I.length 9223372036854775807)&&((Nat.blt F.length 9223372036854775807)&&((zQd F 0)&&(ilt (sz h o t G P D S O U C st V) 9223372036854775807))))) (bif isU (p0F (sz h o t G P D S O U C st V) F I (0,true))then gd ((Nat.beq F.length F.length)&&((Nat.blt F.length 9223372036854775807)&&((Nat.ble 1 G.length)&&(Nat.ble G.length 900)))) (bif isM (p2F ky F G)then(bif !((gU (p0F (sz h o t G P D S O U C st V) F I (0,true))).2)then some (vn 2,true)else(bif !(ieq ((gU (p0F (sz h o t G P D S O U C st V) F I (0,true))).1) (.ofNat F.length))then some (vn 2,true)else(bif !(ieq (.ofNat ((gM' (p2F ky F G)).length)) (.ofNat F.length))then some (vn 2,true)else some (vn 0,true))))else some (vi (eM (p2F ky F G)),true))else some (vi (eU (p0F (sz h o t G P D S O U C st V) F I (0,true))),true))))):=by kernel_rfl
section
variable (ky:List Int→ByteArray)
noncomputable def pcE(h o t:List Int)(G:List Bd)(P D S:Int)(O U:List Nz)(C st V:Raw)(Z:Int)(F I:List (List Int)):Int:=bif !ieq (dcA h o t G P D S O U C st V) 0 then dcA h o t G P D S O U C st V else(bif ilt Z (.ofNat 1)then 1 else(bif ilt (.ofNat 1048576) Z then 1 else(bif !ieq (.ofNat I.length) S then 16 else(bif isU (p0F (szA h o t G P D S O U C st V) F I (0,true))then(bif isM (p2F ky F G)then(bif !(gU (p0F (szA h o t G P D S O U C st V) F I (0,true))).2 then 2 else(bif !ieq (gU (p0F (szA h o t G P D S O U C st V) F I (0,true))).1 (.ofNat F.length)then 2 else(bif !ieq (.ofNat (gM' (p2F ky F G)).length) (.ofNat F.length)then 2 else 0)))else eM (p2F ky F G))else eU (p0F (szA h o t G P D S O U C st V) F I (0,true))))))
theorem zRm{h o t:List Int}{G:List Bd}{S:Int}(m:Mod h o t G S):0≤S∧S≤24:=qWi m.st (show 0<1 by omega)
theorem jCr(h o t:List Int)(G:List Bd)(P D S:Int)(O U:List Nz)(C st V:Raw)(m:Mod h o t G S):0≤szA h o t G P D S O U C st V∧szA h o t G P D S O U C st V≤200:=by
 unfold szA;have:=m.sz;cases ieq (dcA h o t G P D S O U C st V) 0 with
 | true=>exact⟨Int.natCast_nonneg _,show((h.length*o.length*t.length*G.length:Nat):Int)≤200 by omega⟩
 | false=>exact⟨Int.le_refl 0,show(0:Int)≤200 by decide⟩
theorem qZc(h o t:List Int)(G:List Bd)(P D S:Int)(O U:List Nz)(C st V:Raw)(Z:Int)(F I:List (List Int))(hr:F.length<9223372036854775807):((qK Tryz.prog (evD Tryz.prog (OPc ky szA dcA) (LPc ky) 60) 61 [.ag (tbC h o t G P D S O U C st V Z F I)] []).bind qQ).run=yI (pcE ky h o t G P D S O U C st V Z F I):=by
 rw[ePc];unfold pcE;cases j:ieq (dcA h o t G P D S O U C st V) 0 with
 | false=>rfl
 | true=>
  have m:=zTp h o t G P D S O U C st V (qL.1 j);obtain⟨z,A⟩:=zRm m;obtain⟨B,E⟩:=jCr h o t G P D S O U C st V m;simp only[Bool.not_true,zf];cases ilt Z (.ofNat 1)with
  | true=>rfl
  | false=>
   cases ilt (.ofNat 1048576) Z with
   | true=>rfl
   | false=>
    cases k:ieq (.ofNat I.length) S with
    | false=>rfl
    | true=>
     have y:(I.length:Int)=S:=qL.1 k;have f:zQd F 0=true:=zFu (od:=true).2 ⟨Int.le_refl _,Int.natCast_nonneg _⟩;have a1:=m.av1;have q:=m.av6;simp only[Bool.not_true,zf,gd,kG,zP hr,zP (show I.length<9223372036854775807 by omega),f,zEi (show szA h o t G P D S O U C st V<9223372036854775807 by omega),kZ a1,kZ (show G.length≤900 by omega),Bool.and_self,ze]
     cases p0F (szA h o t G P D S O U C st V) F I (0,true)with
     | inr e=>rfl
     | inl s=>
      simp only[isU,gU,ze];cases p2F ky F G with
      | inr e=>rfl
      | inl mp=>
       simp only[isM,gM',ze];cases s.2<;>cases ieq s.1 (.ofNat F.length)<;>cases ieq (.ofNat mp.length) (.ofNat F.length)<;>rfl
end
theorem zAp{α β:Type}{g:Nat→α→α⊕β}{d:α→β}{Q:β→Prop}(hr:∀i a y,g i a= .inr y→¬Q y):∀(k i:Nat)(a:α),Q (fol g d k i a)→∀j,i≤j→j<i+k→∃a b,g j a= .inl b
 | 0,i,a,_,j,e,f=>by omega
 | k+1,i,a,h,j,e,f=>by
  simp only[fol]at h;cases H:g i a with
  | inr y=>rw[H]at h;exact absurd h (hr i a y H)
  | inl b=>
   rw[H]at h;rcases Nat.eq_or_lt_of_le e with rfl | hlt
   ·exact⟨a,b,H⟩
   ·exact zAp hr k (i+1) b h j hlt (by omega)
theorem jCi{F:List (List Int)}{c:List Int}{s:UO}(h:isS (p1F F c s)=true){i:Nat}(k:i<c.length):0≤nI c i∧nI c i<(F.length:Int):=by
 obtain⟨a,b,j⟩:=zAp (g:=gP1 F c) (d:=some) (Q:=fun y=>isS y=true) (fun i a y f H=>by
  unfold gP1 at f;cases e:ilt (nI c i) (.ofNat 0)||!ilt (nI c i) (.ofNat F.length)<;>rw[e]at f
  ·cases f
  ·cases f;cases H) c.length 0 s h i (Nat.zero_le _) (by omega)
 unfold gP1 at j;cases e:ilt (nI c i) (.ofNat 0)||!ilt (nI c i) (.ofNat F.length)with
 | true=>rw[e]at j;cases j
 | false=>
  simp only[Bool.or_eq_false_iff,Bool.not_eq_false']at e;exact⟨vC e.1,xN.1 e.2⟩
theorem jCh{ns:Int}{F e:List (List Int)}{s:UO}(h:isU (p0F ns F e s)=true){k:Nat}(B:k<e.length):((gI e k).length:Int)=ns∧∀i,i<(gI e k).length→0≤nI (gI e k) i∧nI (gI e k) i<(F.length:Int):=by
 obtain⟨a,b,j⟩:=zAp (g:=gP0 ns F e) (d:= .inl) (Q:=fun y=>isU y=true) (fun i a y q H=>by
  unfold gP0 at q;cases f:ieq (.ofNat (gI e i).length) ns<;>rw[f]at q
  ·cases q;cases H
  ·cases z:isS (p1F F (gI e i) a)<;>rw[z]at q<;>cases q;cases H) e.length 0 s h k (Nat.zero_le _) (by omega)
 unfold gP0 at j;cases f:ieq (.ofNat (gI e k).length) ns with
 | false=>rw[f]at j;cases j
 | true=>
  cases z:isS (p1F F (gI e k) a)with
  | false=>rw[f,z]at j;cases j
  | true=>exact⟨qL.1 f,fun i A=>jCi z A⟩
theorem jCk{ky:List Int→ByteArray}{e:List (List Int)}{G:List Bd}(h:isM (p2F ky e G)=true){k:Nat}(B:k<e.length):(gI e k).length=G.length∧∀i,i<(gI e k).length→0≤nI (gI e k) i∧nI (gI e k) i≤1099511627776:=by
 obtain⟨a,b,j⟩:=zAp (g:=gP2 ky e G) (d:= .inl) (Q:=fun y=>isM y=true) (fun i a y q H=>by
  unfold gP2 at q;cases f:ieq (.ofNat (gI e i).length) (.ofNat G.length)<;>rw[f]at q
  ·cases q;cases H
  ·cases z:p3F (gI e i)<;>rw[z]at q<;>cases q;cases H) e.length 0 [] h k (Nat.zero_le _) (by omega)
 unfold gP2 at j;cases f:ieq (.ofNat (gI e k).length) (.ofNat G.length)with
 | false=>rw[f]at j;cases j
 | true=>
  cases z:p3F (gI e k)with
  | true=>rw[f,z]at j;cases j
  | false=>exact⟨Int.ofNat.inj (qL.1 f),fun i A=>qRf z A⟩
structure Tab(h o t:List Int)(G:List Bd)(S Z:Int)(F I:List (List Int)):Prop where
 mod:Mod h o t G S
 sc1:1≤Z
 sc2:Z≤1048576
 ixl:(I.length:Int)=S
 row:∀k,k<I.length→(gI I k).length=h.length*o.length*t.length*G.length∧∀i,i<(gI I k).length→0≤nI (gI I k) i∧nI (gI I k) i<(F.length:Int)
 num:∀j,j<F.length→(gI F j).length=G.length∧∀i,i<(gI F j).length→0≤nI (gI F j) i∧nI (gI F j) i≤1099511627776
theorem qIe(ky:List Int→ByteArray)(h o t:List Int)(G:List Bd)(P D S:Int)(O U:List Nz)(C st V:Raw)(Z:Int)(F I:List (List Int))(hp:pcE ky h o t G P D S O U C st V Z F I=0):Tab h o t G S Z F I:=by
 have ne:∀{x:Int},ieq x 0=false→x≠0:=fun{x}h e=>by rw[xU e]at h;cases h
 unfold pcE at hp;cases z:ieq (dcA h o t G P D S O U C st V) 0 with
 | false=>rw[z]at hp;exact absurd hp (ne z)
 | true=>
  have m:=zTp h o t G P D S O U C st V (qL.1 z);rw[z]at hp;cases A:ilt Z (.ofNat 1)with
  | true=>rw[A]at hp;cases hp
  | false=>
   cases E:ilt (.ofNat 1048576) Z with
   | true=>rw[A,E]at hp;cases hp
   | false=>
    cases M:ieq (.ofNat I.length) S with
    | false=>rw[A,E,M]at hp;cases hp
    | true=>
     rw[A,E,M]at hp;simp only[Bool.not_true,zf]at hp;have es:szA h o t G P D S O U C st V= .ofNat (h.length*o.length*t.length*G.length):=by unfold szA;rw[z];rfl
     cases K:p0F (szA h o t G P D S O U C st V) F I (0,true)with
     | inr e=>
      rw[K]at hp;exfalso;have hp:e=0:=hp;have:=xC (g:=gP0 (szA h o t G P D S O U C st V) F I) (d:= .inl) (J:=fun _=>True) (R:=fun y=>∀e,y= .inr e→e≠0) (fun _ _ _ _ _=>trivial) (fun i a y _ f e Q=>by
       unfold gP0 at f;cases q:ieq (.ofNat (gI I i).length) (szA h o t G P D S O U C st V)<;>rw[q]at f
       ·cases f;cases Q;decide
       ·cases B:isS (p1F F (gI I i) a)<;>rw[B]at f<;>cases f;cases Q;decide) (fun a _ e h=>by cases h) I.length 0 (0,true) trivial
      exact this e K hp
     | inl s=>
      rw[K]at hp;simp only[isU,gU,ze]at hp;cases N:p2F ky F G with
      | inr e=>
       rw[N]at hp;exfalso;have hp:e=0:=hp;have:=xC (g:=gP2 ky F G) (d:= .inl) (J:=fun _=>True) (R:=fun y=>∀e,y= .inr e→e≠0) (fun _ _ _ _ _=>trivial) (fun i a y _ f e h=>by
        unfold gP2 at f;cases q:ieq (.ofNat (gI F i).length) (.ofNat G.length)<;>rw[q]at f
        ·cases f;cases h;decide
        ·cases B:p3F (gI F i)<;>rw[B]at f<;>cases f;cases h;decide) (fun a _ e h=>by cases h) F.length 0 [] trivial
       exact this e N hp
      | inl mp=>
       refine⟨m,vC A,vC E,qL.1 M,fun k X=>?_,fun j T=>jCk (ky:=ky) (by rw[N];rfl) T⟩
       obtain⟨q,B⟩:=jCh (ns:=szA h o t G P D S O U C st V) (F:=F) (s:=(0,true)) (by rw[K];rfl) X
       rw[es]at q;exact⟨Int.ofNat.inj q,B⟩
noncomputable def oPc(f:TF Int):List T→DT (T×Bool)
 | [.ag [.ls .a (.int .i64) h,.ls .a (.int .i64) o,.ls .a (.int .i64) t,.ls .a (.prod (.int .u8) (.prod (.int .i64) (.int .i64))) G,.v (.int .i64 P),.v (.int .i64 D),.v (.int .i64 S),.ls .a (.prod (.int .i64) zL) O,.ls .a (.prod (.int .i64) zL) U,.v (.bool e),.ls .a .lim C,.ls .a .lim am,.v (.bool y),.ls .a .lim sl,.ls .a .lim sm,.v (.bool j),.ls .a .lim k,.ls .a .lim q,.v (.int .i64 Z),.ls .a (.list (.int .i64)) F,.ls .a (.list (.int .i64)) I]]=>grd (Nat.blt F.length 9223372036854775807) (.ret (.v (.int .i64 (f h o t G P D S O U ⟨e,C,am⟩ ⟨y,sl,sm⟩ ⟨j,k,q⟩ Z F I)),true))
 | _=> .no
noncomputable abbrev pcA(h o t:List Int)(G:List Bd)(P D S:Int)(O U:List Nz)(C st V:Raw)(Z:Int)(F I:List (List Int)):Int:=pcE kyF h o t G P D S O U C st V Z F I
theorem qYq:wB Tryz.prog (OPc kyF szA dcA):=zT (zT yG (jV kKy)) (jV kSz)
theorem qYi:wB Tryz.prog (OKy kyF):=zT yG (jV kKy)
theorem qXs:vY Tryz.prog (LPc kyF):=jX (jX qA (kQ yT qYi qXr 60) qSi (qWd kyF)) qOb qSg qWb
theorem kPc:∀az e nw,(oPc pcA az).run=some (e,nw)→∀k,KnP Tryz.prog k 61 az e nw:=by
 intro az e nw hh k;unfold oPc at hh;split at hh
 ·rename_i h o t G P D S O U f C am z sl sm j q y Z F I;obtain⟨A,B⟩:=zS hh;cases B;exact kF (cz:=[.ag (tbC h o t G P D S O U ⟨f,C,am⟩ ⟨z,sl,sm⟩ ⟨j,q,y⟩ Z F I)]) yT qYq qXs (qZc kyF h o t G P D S O U ⟨f,C,am⟩ ⟨z,sl,sm⟩ ⟨j,q,y⟩ Z F I (jC A)) rfl k
 ·cases hh
noncomputable def iSh(c:List Int)(x:Int)(e:List Int)(n i:Nat):Hs:=⟨[.ls .a nT c,vi x,.ls .a nT e,vn n,vn i],[],[[]]⟩
noncomputable def Lsh:Lp:=⟨1,
 ⟨[.h,.h,.u,.u,.t (.op 0 0),.t (.fn 229 [.op 0 0])]++(us' 16++([.h,.h,.h]++(us' 41))),[.r [.t (.v (.slice none 0 0))] 209]⟩,
 ⟨us' 4++([.t (.op 0 0)]++(us' 61)),[.r [.a .a nzT 212] 209]⟩,
 ⟨us' 4++([.h]++(us' 61)),[.g]⟩⟩
noncomputable abbrev qPq:Code:=lpc Tryz.prog 158 [false,true,false,true,true,true,false,true]
theorem qSk:cAt Tryz.prog 158 [false,true,false,true,true,true,false,true]=some (.loop qPq):=by kernel_rfl
noncomputable abbrev zUx(OD:Od)(e:Lo):Hs→Option (Hs⊕(Ex×Hs)):=Lsh.stp (evD Tryz.prog OD e 60) 158 [false,true,false,true,true,true,false,true] qPq
noncomputable def qGz(g:Int→Int→Raw):List Ar→DT Rs
 | [.i n,.i m]=>grd ((rF n&&rF m)&&nz m) (.ret (.tup [.r (g n m),.i 0]))
 | _=> .no
noncomputable abbrev OOf(of_:Int→Int→Raw):Od:=odT [(126,kcT (qGz of_) true)]
theorem sSh(of_:Int→Int→Raw)(c:List Int)(x:Int)(e:List Int)(n i:Nat):zUx (OOf of_) (loT []) (iSh c x e n i)=bif ilt (.ofNat i) (.ofNat n)then gd (Nat.blt i e.length) (bif ieq x (nth nT.zero e i)then some (.inr (.x 0,⟨[],[.ls .a nzT [(.ofNat i,(of_ 1 1).1,(of_ 1 1).2,(of_ 1 1).3)]],[[]]⟩))else(bif ilt x (nth nT.zero e i)then gd (inW (pr i)) (gd (nng (pr i)) (gd (Nat.blt ((pr i).toNat) c.length) (gd (inW (pr i)) (gd (inW (Int.sub (nth nT.zero e i) x)) (gd (inW (Int.sub (nth nT.zero e i) (nth nT.zero c ((pr i).toNat)))) (gd (((rF (Int.sub (nth nT.zero e i) x))&&(rF (Int.sub (nth nT.zero e i) (nth nT.zero c ((pr i).toNat)))))&&(nz (Int.sub (nth nT.zero e i) (nth nT.zero c ((pr i).toNat))))) (gd (inW (x.sub (nth nT.zero c ((pr i).toNat)))) (gd (inW (Int.sub (nth nT.zero e i) (nth nT.zero c ((pr i).toNat)))) (gd (((rF (x.sub (nth nT.zero c ((pr i).toNat))))&&(rF (Int.sub (nth nT.zero e i) (nth nT.zero c ((pr i).toNat)))))&&(nz (Int.sub (nth nT.zero e i) (nth nT.zero c ((pr i).toNat))))) (some (.inr (.x 0,⟨[],[.ls .a nzT [(.ofNat i,(of_ (x.sub (nth nT.zero c ((pr i).toNat))) (Int.sub (nth nT.zero e i) (nth nT.zero c ((pr i).toNat)))).1,(of_ (x.sub (nth nT.zero c ((pr i).toNat))) (Int.sub (nth nT.zero e i) (nth nT.zero c ((pr i).toNat)))).2,(of_ (x.sub (nth nT.zero c ((pr i).toNat))) (Int.sub (nth nT.zero e i) (nth nT.zero c ((pr i).toNat)))).3),(pr i,(of_ (Int.sub (nth nT.zero e i) x) (Int.sub (nth nT.zero e i) (nth nT.zero c ((pr i).toNat)))).1,(of_ (Int.sub (nth nT.zero e i) x) (Int.sub (nth nT.zero e i) (nth nT.zero c ((pr i).toNat)))).2,(of_ (Int.sub (nth nT.zero e i) x) (Int.sub (nth nT.zero e i) (nth nT.zero c ((pr i).toNat)))).3)]],[[]]⟩))))))))))))else nx i (.inl (iSh c x e n (i+1)))))else some (.inr (.x 0,⟨[],[.ls .a nzT []],[[]]⟩)):=by kernel_rfl
noncomputable def gSh(c:List Int)(x:Int)(i:Nat)(_:Unit):Unit⊕Option (Nat×Bool):=bif ieq x (nI c i)then .inr (some (i,true))else(bif ilt x (nI c i)then .inr (some (i,false))else .inl ())
noncomputable def sF(c:List Int)(x:Int):Option (Nat×Bool):=fol (gSh c x) (fun _=>none) c.length 0 ()
section
variable (of_:Int→Int→Raw)
noncomputable def zRi(i:Nat):Nz:=(.ofNat i,toT (of_ 1 1))
noncomputable def qHs(c:List Int)(x:Int)(i:Nat):Nz:=(.ofNat i,toT (of_ (Int.sub x (nI c (i-1))) (Int.sub (nI c i) (nI c (i-1)))))
noncomputable def qHt(c:List Int)(x:Int)(i:Nat):Nz:=(.ofNat (i-1),toT (of_ (Int.sub (nI c i) x) (Int.sub (nI c i) (nI c (i-1)))))
noncomputable def qRb(c:List Int)(x:Int):Option (Nat×Bool)→Ex×Hs
 | none=>(.x 0,⟨[],[.ls .a nzT []],[[]]⟩)
 | some (i,true)=>(.x 0,⟨[],[.ls .a nzT [zRi of_ i]],[[]]⟩)
 | some (i,false)=>(.x 0,⟨[],[.ls .a nzT [qHs of_ c x i,qHt of_ c x i]],[[]]⟩)
end
theorem zAu{v:Int}(h:0≤v)(e:v≤4611686018427387904):rF v=true:=by
 obtain⟨m,rfl⟩:=Int.eq_ofNat_of_zero_le h;exact kZ (show m≤9223372036854775807 by omega)
theorem jCf{v:Int}(h:0<v):nz v=true:=by
 cases v with
 | ofNat m=>cases m with
  | zero=>exact absurd h (Int.lt_irrefl _)
  | succ m=>rfl
 | negSucc m=>rfl
noncomputable def shG(c:List Int)(x:Int):Bool:=!c1F c c&&(Nat.ble 1 c.length&&(Nat.ble c.length 32&&(!ilt x (nI c 0)&&!ilt (.ofNat 1073741824) x)))
theorem lpSh(of_:Int→Int→Raw){c:List Int}{x:Int}(f:shG c x=true):lpF (zUx (OOf of_) (loT [])) c.length (iSh c x c c.length 0)=some (qRb of_ c x (sF c x)):=by
 simp only[shG,zd,Nat.ble_eq,Bool.not_eq_true']at f;obtain⟨z,Q,R,A,B⟩:=f;have A:=vC A;have B:x≤1073741824:=vC B;exact jP (st:=zUx (OOf of_) (loT [])) (iv:=fun i(_:Unit)=>iSh c x c c.length i) (g:=gSh c x) (d:=fun _=>none) (out:=qRb of_ c x) (n:=c.length) (fun i _=>0<i→nI c (i-1)<x)
  (fun i _ q E=>by
   rw[sSh];show(bif Nat.blt i c.length then _ else _)=_;unfold gSh;rw[zP q,ze];simp only[gd,ze,xZ (show i+1<9223372036854775808 by omega)]
   cases j:ieq x (nI c i)with
   | true=>rfl
   | false=>
    cases k:ilt x (nI c i)with
    | false=>rfl
    | true=>
     have k2:=xN.1 k;cases i with
     | zero=>exact absurd k2 (by omega)
     | succ i=>
      have k1:=E (Nat.succ_pos i);rw[Nat.add_sub_cancel]at k1;obtain⟨b1,b2,_⟩:=zGm z q;obtain⟨a1,a2,_⟩:=zGm z (show i<c.length by omega)
      have K:(Int.ofNat i).toNat=i:=rfl;have G:0<Int.sub (nI c (i+1)) x:=show(0:Int)<nI c (i+1)-x by omega
      have T:Int.sub (nI c (i+1)) x≤2147483648:=show nI c (i+1)-x≤2147483648 by omega
      have y:0<Int.sub (nI c (i+1)) (nI c i):=show(0:Int)<nI c (i+1)-nI c i by omega
      have X:Int.sub (nI c (i+1)) (nI c i)≤2147483648:=show nI c (i+1)-nI c i≤2147483648 by omega
      have J:0<Int.sub x (nI c i):=show(0:Int)<x-nI c i by omega
      have s6:Int.sub x (nI c i)≤2147483648:=show x-nI c i≤2147483648 by omega
      have M:nI c i=nth nT.zero c i:=rfl;have N:nI c (i+1)=nth nT.zero c (i+1):=rfl;rw[prS,K,←M,←N,yP (show i<9223372036854775808 by omega)]
      simp only[nng,zP (show i<c.length by omega),ze,zCq (Int.le_of_lt G) (by omega),zCq (Int.le_of_lt y) (by omega),zCq (Int.le_of_lt J) (by omega),zAu (Int.le_of_lt G) (by omega),zAu (Int.le_of_lt y) (by omega),zAu (Int.le_of_lt J) (by omega),jCf y,Bool.and_self]
      rfl)
  (fun i _ _ q E f _=>by
   unfold gSh at f;cases j:ieq x (nI c i)with
   | true=>rw[j]at f;cases f
   | false=>
    cases k:ilt x (nI c i)with
    | true=>rw[j,k]at f;cases f
    | false=>
     have k2:=vC k;have k1:x≠nI c i:=fun e=>by rw[xU e]at j;cases j
     rw[Nat.add_sub_cancel];omega)
  (fun _ _=>by rw[sSh];show(bif Nat.blt c.length c.length then _ else _)=_;rw[yL (Nat.le_refl _),zf];rfl) c.length 0 () (by omega) (fun h=>absurd h (Nat.lt_irrefl 0))
noncomputable def isF:Option (Nat×Bool)→Bool
 | none=>false
 | some _=>true
noncomputable def exF:Option (Nat×Bool)→Bool
 | none=>false
 | some s=>s.2
noncomputable def zGz:Option (Nat×Bool)→Nat
 | none=>0
 | some s=>s.1
noncomputable def hSh(of_:Int→Int→Raw):Hs→DT (Ex×Hs)
 | ⟨[.ls .a (.int .i64) c,.v (.int .i64 x),.ls .a (.int .i64) e,.v (.int .i64 (.ofNat n)),.v (.int .i64 (.ofNat 0))],[],[[]]⟩=>grd (decide (c=e)&&(Nat.beq n e.length&&shG c x)) (.ite (isF (sF c x)) (.ite (exF (sF c x)) (.ret (.x 0,⟨[],[.ls .a nzT [zRi of_ (zGz (sF c x))]],[[]]⟩)) (.ret (.x 0,⟨[],[.ls .a nzT [qHs of_ c x (zGz (sF c x)),qHt of_ c x (zGz (sF c x))]],[[]]⟩))) (.ret (.x 0,⟨[],[.ls .a nzT []],[[]]⟩)))
 | _=> .no
theorem qWf(of_:Int→Int→Raw):∀q y,(hSh of_ q).run=some y→∃n,It (zUx (OOf of_) (loT [])) n q y:=fun q y hh=>by
 unfold hSh at hh;split at hh
 ·rename_i c x z n;obtain⟨f,e⟩:=zS hh;simp only[zd]at f;obtain⟨g1,j,k⟩:=f;obtain rfl:=of_decide_eq_true g1;obtain rfl:=zY j;have:=kT _ _ (lpSh of_ k);cases hb:sF c x with
  | none=>rw[hb]at e this;cases e;exact this
  | some s=>
   obtain⟨i,b⟩:=s;cases b<;>rw[hb]at e this<;>cases e<;>exact this
 ·cases hh
noncomputable abbrev LSh(of_:Int→Int→Raw):Lo:=loT [(158,[false,true,false,true,true,true,false,true],Lsh.row (hSh of_))]
noncomputable abbrev clX(c:List Int)(x:Int):Int:=if(if nI c (pr c.length).toNat<x then nI c (pr c.length).toNat else x)>nI c 0 then(if nI c (pr c.length).toNat<x then nI c (pr c.length).toNat else x)else nI c 0
theorem eSh(of_:Int→Int→Raw)(c:List Int)(x:Int):((qK Tryz.prog (evD Tryz.prog (OOf of_) (LSh of_) 60) 158 [.ls .a nT c,vi x] []).bind qQ).run=gd (Nat.blt 0 c.length) (gd (inW (pr c.length)) (gd (nng (pr c.length)) (gd (Nat.blt (pr c.length).toNat c.length) (gd (decide (c=c)&&(Nat.beq c.length c.length&&shG c (clX c x))) (bif isF (sF c (clX c x))then(bif exF (sF c (clX c x))then some (.ls .a nzT [zRi of_ (zGz (sF c (clX c x)))],false)else some (.ls .a nzT [qHt of_ c (clX c x) (zGz (sF c (clX c x))),qHs of_ c (clX c x) (zGz (sF c (clX c x)))],false))else some (.v (.slice none 0 0),true)))))):=by kernel_rfl
noncomputable def gP(c:List Int):Bool:=!c1F c c&&(Nat.ble 1 c.length&&Nat.ble c.length 32)
theorem jBo{c:List Int}{x:Int}:nI c 0≤clX c x:=by
 unfold clX;by_cases e:nI c (pr c.length).toNat<x
 ·simp only[if_pos e];split<;>omega
 ·simp only[if_neg e];split<;>omega
theorem jAa{c:List Int}{x:Int}(h:gP c=true):shG c (clX c x)=true:=by
 simp only[gP,zd,Nat.ble_eq,Bool.not_eq_true']at h;obtain⟨f,j,k⟩:=h;obtain⟨m,y⟩:∃m,c.length=m+1:=⟨c.length-1,by omega⟩
 have e:(pr c.length).toNat=m:=by rw[y,prS];rfl
 obtain⟨_,b1,_⟩:=zGm f (show m<c.length by omega)
 obtain⟨_,b2,_⟩:=zGm f (show 0<c.length by omega)
 have q:clX c x≤1073741824:=by
  unfold clX;rw[e];by_cases f:nI c m<x
  ·simp only[if_pos f];split<;>omega
  ·simp only[if_neg f];split<;>omega
 simp only[shG,zd,Bool.not_eq_true'];exact⟨f,kZ j,kZ k,zPk jBo,zPk (show clX c x≤1073741824 from q)⟩
section
variable (of_:Int→Int→Raw)
noncomputable def oSh:List T→DT (T×Bool)
 | [.ls .a (.int .i64) c,.v (.int .i64 x)]=>grd (gP c) (.ite (isF (sF c (clX c x))) (.ite (exF (sF c (clX c x))) (.ret (.ls .a nzT [zRi of_ (zGz (sF c (clX c x)))],false)) (.ret (.ls .a nzT [qHt of_ c (clX c x) (zGz (sF c (clX c x))),qHs of_ c (clX c x) (zGz (sF c (clX c x)))],false))) (.ret (.ls .a nzT [],false)))
 | _=> .no
end
theorem qYh(g:Int→Int→Raw)(az:List Ar):(qGz g az).run=pII g az:=by
 unfold qGz pII;split
 ·rename_i n m;show(bif(rF n&&rF m)&&nz m then _ else _)=_;rfl
 ·rename_i h;split
  ·rename_i n m;exact absurd rfl (h n m)
  ·rfl
noncomputable abbrev ofA(n m:Int):Raw:=Raw.of (mkRat (sgn (!(decide (n<0)==decide (m<0))) n.natAbs) m.natAbs)
theorem kOfT:KC Tryz.prog 126 (fun az=>(qGz ofA az).run) true:=by
 have e:(fun az=>(qGz ofA az).run)=pII ofA:=funext fun az=>qYh ofA az;rw[e];exact kOf
theorem zTu:wB Tryz.prog (OOf ofA):=zT yG fun az e nw h k=>zTh kOfT az e nw h k
theorem qFc:vY Tryz.prog (LSh ofA):=jX qA (kQ yT zTu qA 60) qSk (qWf ofA)
theorem kSh:∀az z nw,(oSh ofA az).run=some (z,nw)→∀k,KnP Tryz.prog k 158 az z nw:=by
 intro az z nw hh k;unfold oSh at hh;split at hh
 ·rename_i c x;obtain⟨j,f⟩:=zS hh;have q:=eSh ofA c x;have y:=j;simp only[gP,zd,Nat.ble_eq,Bool.not_eq_true']at j;obtain⟨_,G,J⟩:=j;obtain⟨m,E⟩:∃m,c.length=m+1:=⟨c.length-1,by omega⟩
  have e:pr c.length= .ofNat m:=by rw[E,prS]
  have A:(Int.ofNat m).toNat=m:=rfl;have hn:nng (.ofNat m)=true:=rfl;rw[jAa y,e,hn,A,yP (show m<9223372036854775808 by omega)]at q
  simp only[gd,zP (show 0<c.length by omega),zP (show m<c.length by omega),kG,decide_true,Bool.and_self,ze]at q
  simp only[DT.run]at f;cases b1:isF (sF c (clX c x))with
  | false=>
   rw[b1]at q f;cases f;exact((kF (cz:=[.ls .a nT c,vi x]) yT zTu qFc q rfl k).old).res fun B r v h=>zHl h
  | true=>
   rw[b1]at q f;cases b2:exF (sF c (clX c x))<;>rw[b2]at q f<;>cases f<;>exact kF (cz:=[.ls .a nT c,vi x]) yT zTu qFc q rfl k
 ·cases hh
theorem qNy{c:List Int}{m:Nat}(e:c.length=m+1):(pr c.length).toNat=m:=by rw[e,prS];rfl
theorem zXk{c:List Int}{x:Int}(h:gP c=true):isF (sF c (clX c x))=true:=by
 have h':=h;simp only[gP,zd,Nat.ble_eq,Bool.not_eq_true']at h;obtain⟨z,K,M⟩:=h;cases hs:sF c (clX c x)with
 | some s=>rfl
 | none=>
  exfalso;obtain⟨m,E⟩:∃m,c.length=m+1:=⟨c.length-1,by omega⟩
  have H:=zAo (g:=gSh c (clX c x)) (d:=none) (fun i y j e=>by
   unfold gSh at j;cases f:ieq (clX c x) (nI c i)<;>rw[f]at j
   ·cases k:ilt (clX c x) (nI c i)<;>rw[k]at j<;>cases j;cases e
   ·cases j;cases e) c.length 0 hs m (Nat.zero_le _) (by omega)
  have mono:∀i,i<c.length→nI c 0≤nI c i:=fun i=>by
   induction i with
   | zero=>intro _;exact Int.le_refl _
   | succ i G=>
    intro A;have:=(zGm z A).2.2 (Nat.succ_pos i);rw[Nat.add_sub_cancel]at this;have:=G (by omega)
    omega
  have B:clX c x≤nI c m:=by
   have J:=mono m (by omega)
   unfold clX;rw[qNy E];by_cases q:nI c m<x
   ·simp only[if_pos q];split<;>omega
   ·simp only[if_neg q];split<;>omega
  unfold gSh at H;cases f:ieq (clX c x) (nI c m)with
  | true=>rw[f]at H;cases H
  | false=>
   cases k:ilt (clX c x) (nI c m)with
   | true=>rw[f,k]at H;cases H
   | false=>
    have:=vC k;have hn:clX c x≠nI c m:=fun e=>by rw[xU e]at f;cases f
    omega
section
variable (of_:Int→Int→Raw)
noncomputable abbrev ixS(c:List Int)(x:Int):Nat:=zGz (sF c (clX c x))
noncomputable abbrev zGp(c:List Int)(x:Int):Bool:=exF (sF c (clX c x))
noncomputable abbrev qOh(c:List Int)(x:Int):Nz:=zRi of_ (ixS c x)
noncomputable abbrev sLo(c:List Int)(x:Int):Nz:=qHt of_ c (clX c x) (ixS c x)
noncomputable abbrev sHi(c:List Int)(x:Int):Nz:=qHs of_ c (clX c x) (ixS c x)
noncomputable def qYc:List T→DT (T×Bool)
 | [.ls .a (.int .i64) c,.v (.int .i64 x)]=>grd (gP c) (.ite (zGp c x) (.ret (.ls .a nzT [qOh of_ c x],false)) (.ret (.ls .a nzT [sLo of_ c x,sHi of_ c x],false)))
 | _=> .no
end
theorem kSh2:∀az e nw,(qYc ofA az).run=some (e,nw)→∀k,KnP Tryz.prog k 158 az e nw:=by
 intro az e nw hh k;refine kSh az e nw ?_ k;unfold qYc at hh;unfold oSh;split at hh
 ·rename_i c x;obtain⟨f,j⟩:=zS hh;simp only[grd,DT.run,f,ze,zXk f];exact j
 ·cases hh
noncomputable def qYb(ic:List (List Int)→Int):List T→DT (T×Bool)
 | [.ls .a (.list (.int .i64)) g]=> .ret (.v (.int .i64 (ic g)),true)
 | _=> .no
noncomputable abbrev OW(of_:Int→Int→Raw)(mu:Raw→Raw→Raw)(me:Raw→Raw→Int)(fr:Int→Raw)(ic:List (List Int)→Int):Od:=odT ((158,odR [.list nT,nT] (qYc of_))::(157,odR [.list (.list nT)] (qYb ic))::[(49,kcD (pRR fun a b=>some (mu a b,me a b)) true),(47,kcD (pI fr) true)])
section
variable (of_:Int→Int→Raw)(mu:Raw→Raw→Raw)(me:Raw→Raw→Int)(fr:Int→Raw)(ic:List (List Int)→Int)
noncomputable def wN(c:List Int)(y s:Nz):Nz:=(wq (Int.add (Int.mul y.1 (.ofNat c.length)) s.1),toT (mu (rw' y.2) (rw' s.2)))
noncomputable def zEq(c:List Int)(x:Int):List Nz→List Nz→(List Nz→Option (T×Bool))→Option (T×Bool)
 | [],acc,K=>K acc.reverse
 | y::l,acc,K=>gd (gP c) (bif zGp c x then gd (inW (Int.mul y.1 (.ofNat c.length))) (zEq c x l (wN mu c y (qOh of_ c x)::acc) K)else gd (inW (Int.mul y.1 (.ofNat c.length))) (gd (inW (Int.mul y.1 (.ofNat c.length))) (zEq c x l (wN mu c y (sHi of_ c x)::wN mu c y (sLo of_ c x)::acc) K)))
noncomputable def cN(y:Nz):List T:=[vi y.1,.v (.bool y.2.1),.ls .a .lim y.2.2.1,.ls .a .lim y.2.2.2]
noncomputable def flN:List Nz→List T
 | []=>[]
 | y::l=>cN y++flN l
set_option maxHeartbeats 0 in
theorem eWg(h o t:List Int)(x0 x1 x2:Int):((qK Tryz.prog (evD Tryz.prog (OW of_ mu me fr ic) (loT []) 60) 78 [.ls .a (.list nT) [h,o,t],.ls .a nT [x0,x1,x2]] []).bind qQ).run=bif !ieq (ic [h,o,t]) 0 then some (.tu [.v (.slice none 0 0),vi (ic [h,o,t])],true)else zEq of_ mu h x0 [(0,toT (fr 1))] [] fun f=>zEq of_ mu o x1 f [] fun l2=>zEq of_ mu t x2 l2 [] fun e=>some (.tu [.sl (flN e) e.length,vn 0],true):=by kernel_rfl
end
theorem qRi{c:List Int}{x:Int}:∀(k i:Nat){s:Nat×Bool},fol (gSh c x) (fun _=>none) k i ()=some s→i≤s.1∧s.1<i+k
 | 0,i,s,h=>by cases h
 | k+1,i,s,h=>by
  simp only[fol]at h;cases H:gSh c x i ()with
  | inl y=>
   rw[H]at h;have:=qRi k (i+1) h;omega
  | inr y=>
   rw[H]at h;unfold gSh at H;cases e:ieq x (nI c i)<;>rw[e]at H
   ·cases f:ilt x (nI c i)<;>rw[f]at H<;>cases H;cases h;exact⟨Nat.le_refl _,by show i<i+(k+1);omega⟩
   ·cases H;cases h;exact⟨Nat.le_refl _,by show i<i+(k+1);omega⟩
theorem qWu{c:List Int}{x:Int}(h:gP c=true):ixS c x<c.length:=by
 have hs:=zXk (x:=x) h;cases H:sF c (clX c x)with
 | none=>rw[H]at hs;cases hs
 | some s=>
  have:=qRi c.length 0 H;show zGz (sF c (clX c x))<_;rw[H];show s.1<_;omega
section
variable (of_:Int→Int→Raw)(mu:Raw→Raw→Raw)(me:Raw→Raw→Int)(fr:Int→Raw)(ic:List (List Int)→Int)
noncomputable def w1(c:List Int)(x:Int)(y:Nz):List Nz:=bif zGp c x then[wN mu c y (qOh of_ c x)]else[wN mu c y (sLo of_ c x),wN mu c y (sHi of_ c x)]
noncomputable def wF(c:List Int)(x:Int):List Nz→List Nz
 | []=>[]
 | y::l=>w1 of_ mu c x y++wF c x l
def inV(M:Nat)(l:List Nz):Prop:=∀y∈l,0≤y.1∧y.1<M
theorem qIq{c:List Int}{M:Nat}{y s:Nz}(E:c.length≤32)(J:M≤1048576)(A:0≤y.1∧y.1<M)(hs:0≤s.1∧s.1<c.length):inW (Int.mul y.1 (.ofNat c.length))=true∧0≤(wN mu c y s).1∧(wN mu c y s).1<((M*c.length:Nat):Int):=by
 obtain⟨v,hv⟩:∃v:Nat,y.1=(v:Int):=Int.eq_ofNat_of_zero_le A.1;obtain⟨j,z⟩:∃j:Nat,s.1=(j:Int):=Int.eq_ofNat_of_zero_le hs.1;have k:v<M:=by
  have f:=A.2;rw[hv]at f;exact Int.ofNat_lt.1 f
 have G:j<c.length:=by
  have f:=hs.2;rw[z]at f;exact Int.ofNat_lt.1 f
 have K:v*c.length≤1048576*32:=Nat.mul_le_mul (by omega) E
 have N:v*c.length+c.length≤M*c.length:=by
  rw[←Nat.succ_mul];exact Nat.mul_le_mul_right _ k
 have e:Int.mul y.1 (.ofNat c.length)=((v*c.length:Nat):Int):=by rw[hv];rfl
 have q:(wN mu c y s).1=((v*c.length+j:Nat):Int):=by
  show wq (Int.add (Int.mul y.1 (.ofNat c.length)) s.1)=_;have B:Int.add (Int.mul y.1 (.ofNat c.length)) s.1=((v*c.length+j:Nat):Int):=by rw[e,z];rfl
  rw[B];exact qRr (yP (show v*c.length+j<9223372036854775808 by omega))
 refine⟨?_,?_,?_⟩
 ·rw[e];exact yP (show v*c.length<9223372036854775808 by omega)
 ·rw[q];exact Int.natCast_nonneg _
 ·rw[q];exact Int.ofNat_lt.2 (by omega)
theorem qRq{c:List Int}{x:Int}{M:Nat}{y:Nz}(A:gP c=true)(j:M≤1048576)(q:0≤y.1∧y.1<M):inW (Int.mul y.1 (.ofNat c.length))=true∧inV (M*c.length) (w1 of_ mu c x y):=by
 have f:=A;simp only[gP,zd,Nat.ble_eq]at f;have E:=qWu (x:=x) A;have k:=f.2.2;have a:=qIq (mu:=mu) (s:=qOh of_ c x) k j q ⟨Int.natCast_nonneg _,show((ixS c x:Nat):Int)<(c.length:Int)by omega⟩
 have b:=qIq (mu:=mu) (s:=sLo of_ c x) k j q ⟨Int.natCast_nonneg _,show((ixS c x-1:Nat):Int)<(c.length:Int)by omega⟩
 have d:=qIq (mu:=mu) (s:=sHi of_ c x) k j q ⟨Int.natCast_nonneg _,show((ixS c x:Nat):Int)<(c.length:Int)by omega⟩
 refine⟨a.1,fun z e=>?_⟩;unfold w1 at e;cases B:zGp c x<;>rw[B]at e
 ·rcases List.mem_cons.1 e with rfl | e
  ·exact b.2
  ·rcases List.mem_cons.1 e with rfl | e
   ·exact d.2
   ·cases e
 ·rcases List.mem_cons.1 e with rfl | e
  ·exact a.2
  ·cases e
theorem zLg{c:List Int}{x:Int}{M:Nat}(j:gP c=true)(f:M≤1048576):∀{l:List Nz},inV M l→inV (M*c.length) (wF of_ mu c x l)
 | [],_,z,e=>by cases e
 | y::l,h,z,e=>by
  rcases List.mem_append.1 e with e | e
  ·exact(qRq of_ mu j f (h y List.mem_cons_self)).2 z e
  ·exact zLg j f (fun y k=>h y (List.mem_cons_of_mem _ k)) z e
theorem zCa{c:List Int}{x:Int}{M:Nat}(e:gP c=true)(j:M≤1048576)(K:List Nz→Option (T×Bool)):∀(l acc:List Nz),inV M l→zEq of_ mu c x l acc K=K (acc.reverse++wF of_ mu c x l)
 | [],acc,_=>by simp only[zEq,wF,List.append_nil]
 | y::l,acc,h=>by
  have k:=(qRq of_ mu (x:=x) e j (h y List.mem_cons_self)).1;have f:=fun a=>zCa (x:=x) e j K l a (fun y q=>h y (List.mem_cons_of_mem _ q));simp only[zEq,wF,w1,gd,e,ze,k];cases zGp c x with
  | true=>simp only[ze];rw[f];simp
  | false=>simp only[zf];rw[f];simp
noncomputable def wgF(h o t:List Int)(x0 x1 x2:Int):List Nz:=wF of_ mu t x2 (wF of_ mu o x1 (wF of_ mu h x0 [(0,toT (fr 1))]))
noncomputable def wgR(h o t:List Int)(x0 x1 x2:Int):List Nz:=bif ieq (ic [h,o,t]) 0 then wgF of_ mu fr h o t x0 x1 x2 else[]
end
theorem zMh{g:List (List Int)}(q:Grid g){k:Nat}(y:k<g.length):gP (gI g k)=true:=by
 obtain⟨e,f,j⟩:=q.cut k y;simp only[gP,j,Bool.not_false,Bool.true_and,zd];exact⟨kZ e,kZ f⟩
theorem zPh{h o t:List Int}(e:icE [h,o,t]=0):gP h=true∧gP o=true∧gP t=true:=by
 have g:=zVt e;exact⟨zMh g (show 0<3 by omega),zMh g (show 1<3 by omega),zMh g (show 2<3 by omega)⟩
theorem zTt(fr:Int→Raw):inV 1 [((0:Int),toT (fr 1))]:=fun z e=>by
 rcases List.mem_cons.1 e with rfl | e
 ·exact⟨Int.le_refl _,show(0:Int)<1 by decide⟩
 ·cases e
theorem jCv(of_:Int→Int→Raw)(mu:Raw→Raw→Raw)(fr:Int→Raw){h o t:List Int}{x0 x1 x2:Int}(e:icE [h,o,t]=0):inV (h.length*o.length*t.length) (wgF of_ mu fr h o t x0 x1 x2):=by
 obtain⟨j,k,q⟩:=zPh e;obtain⟨⟨_,f⟩,⟨_,l2⟩,⟨_,y⟩⟩:=zVs e;have z:h.length*o.length≤32*32:=Nat.mul_le_mul f l2;have a:=zLg of_ mu (x:=x0) j (by decide) (zTt fr)
 have b:=zLg of_ mu (x:=x1) k (show 1*h.length≤1048576 by omega) a
 rw[Nat.one_mul]at b;exact zLg of_ mu (x:=x2) q (show h.length*o.length≤1048576 by omega) b
theorem jAv(of_:Int→Int→Raw)(mu:Raw→Raw→Raw)(me:Raw→Raw→Int)(fr:Int→Raw)(h o t:List Int)(x0 x1 x2:Int):((qK Tryz.prog (evD Tryz.prog (OW of_ mu me fr icE) (loT []) 60) 78 [.ls .a (.list nT) [h,o,t],.ls .a nT [x0,x1,x2]] []).bind qQ).run=bif ieq (icE [h,o,t]) 0 then some (.tu [.sl (flN (wgF of_ mu fr h o t x0 x1 x2)) (wgF of_ mu fr h o t x0 x1 x2).length,vi (icE [h,o,t])],true)else some (.tu [.v (.slice none 0 0),vi (icE [h,o,t])],true):=by
 rw[eWg];cases e:ieq (icE [h,o,t]) 0 with
 | false=>rfl
 | true=>
  have f:=qL.1 e;obtain⟨j,k,y⟩:=zPh f;obtain⟨⟨_,q⟩,⟨_,l2⟩,⟨_,z⟩⟩:=zVs f;have A:h.length*o.length≤32*32:=Nat.mul_le_mul q l2;have a:=zLg of_ mu (x:=x0) j (by decide) (zTt fr)
  have b:=zLg of_ mu (x:=x1) k (show 1*h.length≤1048576 by omega) a
  rw[Nat.one_mul]at b;simp only[Bool.not_true,zf,ze];rw[zCa of_ mu j (by decide) _ _ _ (zTt fr)]
  simp only[List.reverse_nil,List.nil_append];rw[zCa of_ mu k (show 1*h.length≤1048576 by omega) _ _ _ a]
  simp only[List.reverse_nil,List.nil_append];rw[zCa of_ mu y (show h.length*o.length≤1048576 by omega) _ _ _ b,f]
  rfl
theorem zXq{B:Bm}{r:Rd}{A:Ty}(T:gK A=true){l:List A.den}{v:Value}(M:Rep B r (.sl (jW .a A l) l.length) v):Rep B r (.ls .a A l) v:=by
 obtain⟨ad,c,rfl,X,hh⟩:=M.slI;have N:=M.slB;rcases hh with⟨K,_⟩ | ⟨b,o,rfl,E⟩
 ·have R:l=[]:=by
   cases l with
   | nil=>rfl
   | cons x l=>first | exact absurd K (by simp) | (exfalso;simp at K)
  subst R;exact .ls ⟨ad,c,rfl,Nat.zero_le _,N,.inl rfl⟩
 ·obtain⟨fv,g1,Q⟩:=E.fun;have z:zO B r (jW .a A l) ((List.range (jW .a A l).length).map fv):=zO.of (by simp) fun j t v e J=>by
   rw[List.getElem?_map]at J;obtain⟨j',y,rfl⟩:=Option.map_eq_some_iff.1 J;obtain⟨q,f⟩:=List.getElem?_eq_some_iff.1 y;rw[List.getElem_range]at f;subst f;exact Q _ _ e
  have k:zO B r (qN .a A l.reverse) ((List.range (jW .a A l).length).map fv):=by rw[mG];exact z
  have:=zGd.of_flat (g:= .a) (A:=A) (x:=l.reverse) (b:=b) (o:=o) (c:=c) (p:=fun b=>Bm.In B .a b) (fun A l v h=>by cases h with | ls h=>exact h) T k (fun j v hv=>by
   rw[List.getElem?_map]at hv;obtain⟨j',y,rfl⟩:=Option.map_eq_some_iff.1 hv;obtain⟨q,f⟩:=List.getElem?_eq_some_iff.1 y;rw[List.getElem_range]at f;subst f;have G:j<(jW .a A l).length:=by simpa using q
   exact g1 j (jW .a A l)[j] (by simp[G])) Bm.In.any (by rw[List.length_reverse];exact X) N
  rw[List.reverse_reverse]at this;exact .ls ⟨some ⟨b,o,none⟩,c,rfl,this⟩
theorem qDq:∀l:List Nz,flN l=jW .a nzT l
 | []=>rfl
 | y::l=>by
  show cN y++flN l=qD .a nzT y++jW .a nzT l;rw[qDq l];rfl
theorem qCq(k:Nat):∀l:List Nz,(flN l).all (clean (k+1))=true
 | []=>rfl
 | y::l=>by
  show(cN y++flN l).all (clean (k+1))=true;rw[List.all_append,qCq k l];rfl
noncomputable def oWg(wg:(List Int→List Int→List Int→Int→Int→Int→List Nz))(ic:List (List Int)→Int):List T→DT (T×Bool)
 | [.ls .a (.list (.int .i64)) [h,o,t],.ls .a (.int .i64) [x0,x1,x2]]=> .ret (.tu [.ls .a nzT (wg h o t x0 x1 x2),.v (.int .i64 (ic [h,o,t]))],true)
 | _=> .no
theorem kIc':∀az e nw,(qYb icE az).run=some (e,nw)→∀k,KnP Tryz.prog k 157 az e nw:=by
 intro az e nw h k;refine kIc az e nw ?_ k;unfold qYb at h;unfold oIc;split at h
 ·exact h
 ·cases h
theorem qRd:wB Tryz.prog (OW ofA muA meA frA icE):=zT (zT (zT (zT yG fun az e nw h k=>sP zVx az e h k) fun az e nw h k=>sP qLv az e h k) (jV kIc')) (jV kSh2)
noncomputable abbrev wgA(h o t:List Int)(x0 x1 x2:Int):List Nz:=wgR ofA muA frA icE h o t x0 x1 x2
theorem kWg:∀az y nw,(oWg wgA icE az).run=some (y,nw)→∀k,KnP Tryz.prog k 78 az y nw:=by
 intro az y nw hh k;unfold oWg at hh;split at hh
 ·rename_i h o t x0 x1 x2;cases hh;have q:=jAv ofA muA meA frA h o t x0 x1 x2;show KnP Tryz.prog k 78 _ (.tu [.ls .a nzT (wgR ofA muA frA icE h o t x0 x1 x2),_]) true;unfold wgR;cases e:ieq (icE [h,o,t]) 0 with
  | false=>
   rw[e]at q;exact(kF (cz:=[.ls .a (.list nT) [h,o,t],.ls .a nT [x0,x1,x2]]) yT qRd qA q rfl k).res fun B r v hv=>by
    obtain⟨vs,rfl,f⟩:=hv.tuI;match vs,f with
    | [a,b],⟨k1,k2,_⟩=>exact Rep.mkTu (vs:=[a,b]) ⟨zHl k1,k2,trivial⟩
  | true=>
   rw[e]at q;have j:(([.ls .a (.list nT) [h,o,t],.ls .a nT [x0,x1,x2]]:List T).all (clean 12)&&clean 12 (.tu [.sl (flN (wgF ofA muA frA h o t x0 x1 x2)) (wgF ofA muA frA h o t x0 x1 x2).length,vi (icE [h,o,t])]))=true:=by
    show(true&&((flN (wgF ofA muA frA h o t x0 x1 x2)).all (clean 10)&&true))=true;rw[qCq 9];rfl
   exact(kF (cz:=[.ls .a (.list nT) [h,o,t],.ls .a nT [x0,x1,x2]]) yT qRd qA q j k).res fun B r v hv=>by
    obtain⟨vs,rfl,f⟩:=hv.tuI;match vs,f with
    | [a,b],⟨k1,k2,_⟩=>exact Rep.mkTu (vs:=[a,b]) ⟨zXq (A:=nzT) (by kernel_rfl) (by rw[←qDq];exact k1),k2,trivial⟩
 ·cases hh
noncomputable abbrev tbT:Ty:= .prod (.list nT) (.prod (.list nT) (.prod (.list nT) (.prod (.list bT) (.prod nT (.prod nT (.prod nT (.prod (.list nzT) (.prod (.list nzT) (.prod zL (.prod zL (.prod zL (.prod nT (.prod (.list (.list nT)) (.list (.list nT)))))))))))))))
noncomputable def exL(l:List Nz):Nat→Nat→List Nz
 | 0,_=>[]
 | m+1,i=>zI l i::exL l m (i+1)
noncomputable def xG(okP:TF Bool)(pP:TF Nat):List T→DT (T×Bool)
 | [.ag [.ls .a (.int .i64) h,.ls .a (.int .i64) o,.ls .a (.int .i64) t,.ls .a (.prod (.int .u8) (.prod (.int .i64) (.int .i64))) G,.v (.int .i64 P),.v (.int .i64 D),.v (.int .i64 S),.ls .a (.prod (.int .i64) zL) O,.ls .a (.prod (.int .i64) zL) U,.v (.bool e),.ls .a .lim C,.ls .a .lim am,.v (.bool q),.ls .a .lim sl,.ls .a .lim sm,.v (.bool f),.ls .a .lim j,.ls .a .lim k,.v (.int .i64 Z),.ls .a (.list (.int .i64)) F,.ls .a (.list (.int .i64)) I]]=>grd (Nat.blt F.length 9223372036854775807) (.ite (okP h o t G P D S O U ⟨e,C,am⟩ ⟨q,sl,sm⟩ ⟨f,j,k⟩ Z F I) (.ret (.v (.int .i64 (.ofNat 0)),true)) (.ret (.v (.int .i64 (.ofNat (pP h o t G P D S O U ⟨e,C,am⟩ ⟨q,sl,sm⟩ ⟨f,j,k⟩ Z F I+1))),true)))
 | _=> .no
noncomputable def vG(m:Nat)(wg:List Int→List Int→List Int→Int→Int→Int→List Nz):List T→DT (T×Bool)
 | [.ls .a (.list (.int .i64)) [h,o,t],.ls .a (.int .i64) [x0,x1,x2]]=>grd (Nat.beq (wg h o t x0 x1 x2).length m&&ieq (icE [h,o,t]) 0) (.ret (.tu [.ls .a nzT (exL (wg h o t x0 x1 x2) m 0),.v (.int .i64 (.ofNat 0))],true))
 | _=> .no
noncomputable def qF(okD:List Rt→List Rt→Bool)(dR:List Rt→List Rt→Raw)(dP:List Rt→List Rt→Nat):List T→DT (T×Bool)
 | [.ls .a (.prod .bool (.prod (.list .lim) (.list .lim))) a,.ls .a (.prod .bool (.prod (.list .lim) (.list .lim))) b]=>grd (Nat.ble a.length 100000&&Nat.ble b.length 100000) (.ite (okD a b) (.ret (.tu [.ag (rC (dR a b)),.v (.int .i64 (.ofNat 0))],true)) (.ret (.tu [.ag (rC (dR a b)),.v (.int .i64 (.ofNat (dP a b+1)))],true)))
 | _=> .no
noncomputable def vE(fr:Int→Raw):List Ar→DT Rs
 | [.i n]=>grd (rF n) (.ret (.one (.r (fr n))))
 | _=> .no
noncomputable def yC(zb:Raw→Bool)(okV:Raw→Raw→Bool)(vR:Raw→Raw→Raw)(vP:Raw→Raw→Nat):List Ar→DT Rs
 | [.r a,.r b]=>grd (!zb b) (.ite (okV a b) (.ret (.tup [.r (vR a b),.i (.ofNat 0)])) (.ret (.tup [.r (vR a b),.i (.ofNat (vP a b+1))])))
 | _=> .no
section
variable (okP:TF Bool)(pP:TF Nat)(wg:List Int→List Int→List Int→Int→Int→Int→List Nz)(fr:Int→Raw)(okD:List Rt→List Rt→Bool)(dR:List Rt→List Rt→Raw)(dP:List Rt→List Rt→Nat)(zb:Raw→Bool)(okV:Raw→Raw→Bool)(vR:Raw→Raw→Raw)(vP:Raw→Raw→Nat)
noncomputable abbrev er(e:Nat):Option (T×Bool):=some (.tu [.v (.slice none 0 0),vn e],true)
noncomputable abbrev kS(L:Int):Nat:=(Int.sub L 1).toNat
noncomputable def jS(nn Y:Int)(y:Nz):Int:=wq (Int.add (Int.mul y.1 nn) Y)
noncomputable def rS(I:List (List Int))(L nn Y:Int)(y:Nz):Nat:=(nI (gI I (kS L)) (jS nn Y y).toNat).toNat
noncomputable def vS(F I:List (List Int))(L nn Y:Int)(b:Nat)(y:Nz):Int:=nI (gI F (rS I L nn Y y)) b
noncomputable def scG(F I:List (List Int))(L nn Y:Int)(b:Nat)(y:Nz)(K:Option (T×Bool)):Option (T×Bool):=gd (inW (Int.sub L 1)) (gd (nng (Int.sub L 1)) (gd (Nat.blt (kS L) I.length) (gd (inW (Int.mul y.1 nn)) (gd (nng (jS nn Y y)) (gd (Nat.blt (jS nn Y y).toNat (gI I (kS L)).length) (gd (nng (nI (gI I (kS L)) (jS nn Y y).toNat)) (gd (Nat.blt (rS I L nn Y y) F.length) (gd (Nat.blt b (gI F (rS I L nn Y y)).length) (gd (rF (vS F I L nn Y b y)) K)))))))))
noncomputable def qOi(F I:List (List Int))(L nn Y:Int)(b:Nat):List Nz→Option (T×Bool)→Option (T×Bool)
 | [],K=>K
 | y::l,K=>scG F I L nn Y b y (qOi F I L nn Y b l K)
noncomputable def scW:List Nz→List Rt
 | []=>[]
 | y::l=>(y.2.1,y.2.2.1,y.2.2.2)::scW l
noncomputable def scV(F I:List (List Int))(L nn Y:Int)(b:Nat):List Nz→List Rt
 | []=>[]
 | y::l=>toT (fr (vS F I L nn Y b y))::scV F I L nn Y b l
noncomputable def scB(Z:Int)(F I:List (List Int))(L nn Y:Int)(b:Nat)(ws:List Nz)(K:Raw→Option (T×Bool)):Option (T×Bool):=qOi F I L nn Y b ws (bif okD (scW ws) (scV fr F I L nn Y b ws)then gd (rF Z) (gd (!zb (fr Z)) (bif okV (dR (scW ws) (scV fr F I L nn Y b ws)) (fr Z)then K (vR (dR (scW ws) (scV fr F I L nn Y b ws)) (fr Z))else er (vP (dR (scW ws) (scV fr F I L nn Y b ws)) (fr Z)+1)))else er (dP (scW ws) (scV fr F I L nn Y b ws)+1))
noncomputable def flR:List Raw→List T
 | []=>[]
 | x::l=>[.v (.bool x.neg),.ls .a .lim x.ln,.ls .a .lim x.ld]++flR l
noncomputable def scL(Z:Int)(F I:List (List Int))(L nn Y:Int)(ws:List Nz):Nat→Nat→List Raw→Option (T×Bool)
 | 0,_,acc=>some (.tu [.sl (flR acc.reverse) acc.length,vn 0],true)
 | k+1,b,acc=>scB fr okD dR dP zb okV vR vP Z F I L nn Y b ws fun x=>scL Z F I L nn Y ws k (b+1) (x::acc)
noncomputable abbrev wiK(x e:Int)(E K:Option (T×Bool)):Option (T×Bool):=bif !ilt x (-e)then(bif !(!ilt e x)then E else K)else E
noncomputable def scA(m nn:Nat)(h o t:List Int)(G:List Bd)(P D S:Int)(O U:List Nz)(C st V:Raw)(Z:Int)(F I:List (List Int))(L H W vq Y:Int):Option (T×Bool):=gd (Nat.blt F.length 9223372036854775807) (bif okP h o t G P D S O U C st V Z F I then(bif ilt L (.ofNat 1)then er 1 else(bif ilt S L then er 1 else wiK H 100000 (er 1) (wiK W 100 (er 1) (wiK vq 100 (er 1) (bif ilt Y (.ofNat 0)then er 8 else(bif !ilt Y (.ofNat nn)then er 8 else gd (Nat.beq (wg h o t H W vq).length m&&ieq (icE [h,o,t]) 0) (scL fr okD dR dP zb okV vR vP Z F I L (.ofNat nn) Y (exL (wg h o t H W vq) m 0) nn 0 [])))))))else er (pP h o t G P D S O U C st V Z F I+1))
end
section
variable (okP:TF Bool)(pP:TF Nat)(wg:List Int→List Int→List Int→Int→Int→Int→List Nz)(fr:Int→Raw)(okD:List Rt→List Rt→Bool)(dR:List Rt→List Rt→Raw)(dP:List Rt→List Rt→Nat)(zb:Raw→Bool)(okV:Raw→Raw→Bool)(vR:Raw→Raw→Raw)(vP:Raw→Raw→Nat)(h o t:List Int)(P D S:Int)(O U:List Nz)(C st V:Raw)(Z:Int)(F I:List (List Int))(L H W vq Y:Int)
set_option maxHeartbeats 0 in
theorem qTz(e:Bd):((qK Tryz.prog (evD Tryz.prog (odT [(61,odR [tbT] (xG okP pP)),(78,odR [.list (.list nT),.list nT] (vG 1 wg)),(47,kcT (vE fr) true),(70,odR [.list zL,.list zL] (qF okD dR dP)),(80,kcT (yC zb okV vR vP) true)]) (loT []) 60) 32 [.ag (tbC h o t [e] P D S O U C st V Z F I),vi L,vi H,vi W,vi vq,vi Y] []).bind qQ).run=scA okP pP wg fr okD dR dP zb okV vR vP 1 1 h o t [e] P D S O U C st V Z F I L H W vq Y:=by kernel_rfl
set_option maxHeartbeats 0 in
theorem qUa(e a1:Bd):((qK Tryz.prog (evD Tryz.prog (odT [(61,odR [tbT] (xG okP pP)),(78,odR [.list (.list nT),.list nT] (vG 1 wg)),(47,kcT (vE fr) true),(70,odR [.list zL,.list zL] (qF okD dR dP)),(80,kcT (yC zb okV vR vP) true)]) (loT []) 60) 32 [.ag (tbC h o t [e,a1] P D S O U C st V Z F I),vi L,vi H,vi W,vi vq,vi Y] []).bind qQ).run=scA okP pP wg fr okD dR dP zb okV vR vP 1 2 h o t [e,a1] P D S O U C st V Z F I L H W vq Y:=by kernel_rfl
set_option maxHeartbeats 0 in
theorem qUb(e a1 a2:Bd):((qK Tryz.prog (evD Tryz.prog (odT [(61,odR [tbT] (xG okP pP)),(78,odR [.list (.list nT),.list nT] (vG 1 wg)),(47,kcT (vE fr) true),(70,odR [.list zL,.list zL] (qF okD dR dP)),(80,kcT (yC zb okV vR vP) true)]) (loT []) 60) 32 [.ag (tbC h o t [e,a1,a2] P D S O U C st V Z F I),vi L,vi H,vi W,vi vq,vi Y] []).bind qQ).run=scA okP pP wg fr okD dR dP zb okV vR vP 1 3 h o t [e,a1,a2] P D S O U C st V Z F I L H W vq Y:=by kernel_rfl
set_option maxHeartbeats 0 in
theorem qUc(e a1 a2 a3:Bd):((qK Tryz.prog (evD Tryz.prog (odT [(61,odR [tbT] (xG okP pP)),(78,odR [.list (.list nT),.list nT] (vG 1 wg)),(47,kcT (vE fr) true),(70,odR [.list zL,.list zL] (qF okD dR dP)),(80,kcT (yC zb okV vR vP) true)]) (loT []) 60) 32 [.ag (tbC h o t [e,a1,a2,a3] P D S O U C st V Z F I),vi L,vi H,vi W,vi vq,vi Y] []).bind qQ).run=scA okP pP wg fr okD dR dP zb okV vR vP 1 4 h o t [e,a1,a2,a3] P D S O U C st V Z F I L H W vq Y:=by kernel_rfl
set_option maxHeartbeats 0 in
theorem qUd(e a1 a2 a3 f:Bd):((qK Tryz.prog (evD Tryz.prog (odT [(61,odR [tbT] (xG okP pP)),(78,odR [.list (.list nT),.list nT] (vG 1 wg)),(47,kcT (vE fr) true),(70,odR [.list zL,.list zL] (qF okD dR dP)),(80,kcT (yC zb okV vR vP) true)]) (loT []) 60) 32 [.ag (tbC h o t [e,a1,a2,a3,f] P D S O U C st V Z F I),vi L,vi H,vi W,vi vq,vi Y] []).bind qQ).run=scA okP pP wg fr okD dR dP zb okV vR vP 1 5 h o t [e,a1,a2,a3,f] P D S O U C st V Z F I L H W vq Y:=by kernel_rfl
set_option maxHeartbeats 0 in
theorem qUe(e a1 a2 a3 f j:Bd):((qK Tryz.prog (evD Tryz.prog (odT [(61,odR [tbT] (xG okP pP)),(78,odR [.list (.list nT),.list nT] (vG 1 wg)),(47,kcT (vE fr) true),(70,odR [.list zL,.list zL] (qF okD dR dP)),(80,kcT (yC zb okV vR vP) true)]) (loT []) 60) 32 [.ag (tbC h o t [e,a1,a2,a3,f,j] P D S O U C st V Z F I),vi L,vi H,vi W,vi vq,vi Y] []).bind qQ).run=scA okP pP wg fr okD dR dP zb okV vR vP 1 6 h o t [e,a1,a2,a3,f,j] P D S O U C st V Z F I L H W vq Y:=by kernel_rfl
end
section
variable (okP:TF Bool)(pP:TF Nat)(wg:List Int→List Int→List Int→Int→Int→Int→List Nz)(fr:Int→Raw)(okD:List Rt→List Rt→Bool)(dR:List Rt→List Rt→Raw)(dP:List Rt→List Rt→Nat)(zb:Raw→Bool)(okV:Raw→Raw→Bool)(vR:Raw→Raw→Raw)(vP:Raw→Raw→Nat)(h o t:List Int)(P D S:Int)(O U:List Nz)(C st V:Raw)(Z:Int)(F I:List (List Int))(L H W vq Y:Int)
set_option maxHeartbeats 0 in
theorem qUf(e:Bd):((qK Tryz.prog (evD Tryz.prog (odT [(61,odR [tbT] (xG okP pP)),(78,odR [.list (.list nT),.list nT] (vG 2 wg)),(47,kcT (vE fr) true),(70,odR [.list zL,.list zL] (qF okD dR dP)),(80,kcT (yC zb okV vR vP) true)]) (loT []) 60) 32 [.ag (tbC h o t [e] P D S O U C st V Z F I),vi L,vi H,vi W,vi vq,vi Y] []).bind qQ).run=scA okP pP wg fr okD dR dP zb okV vR vP 2 1 h o t [e] P D S O U C st V Z F I L H W vq Y:=by kernel_rfl
set_option maxHeartbeats 0 in
theorem qUg(e a1:Bd):((qK Tryz.prog (evD Tryz.prog (odT [(61,odR [tbT] (xG okP pP)),(78,odR [.list (.list nT),.list nT] (vG 2 wg)),(47,kcT (vE fr) true),(70,odR [.list zL,.list zL] (qF okD dR dP)),(80,kcT (yC zb okV vR vP) true)]) (loT []) 60) 32 [.ag (tbC h o t [e,a1] P D S O U C st V Z F I),vi L,vi H,vi W,vi vq,vi Y] []).bind qQ).run=scA okP pP wg fr okD dR dP zb okV vR vP 2 2 h o t [e,a1] P D S O U C st V Z F I L H W vq Y:=by kernel_rfl
set_option maxHeartbeats 0 in
theorem qUh(e a1 a2:Bd):((qK Tryz.prog (evD Tryz.prog (odT [(61,odR [tbT] (xG okP pP)),(78,odR [.list (.list nT),.list nT] (vG 2 wg)),(47,kcT (vE fr) true),(70,odR [.list zL,.list zL] (qF okD dR dP)),(80,kcT (yC zb okV vR vP) true)]) (loT []) 60) 32 [.ag (tbC h o t [e,a1,a2] P D S O U C st V Z F I),vi L,vi H,vi W,vi vq,vi Y] []).bind qQ).run=scA okP pP wg fr okD dR dP zb okV vR vP 2 3 h o t [e,a1,a2] P D S O U C st V Z F I L H W vq Y:=by kernel_rfl
set_option maxHeartbeats 0 in
theorem qUi(e a1 a2 a3:Bd):((qK Tryz.prog (evD Tryz.prog (odT [(61,odR [tbT] (xG okP pP)),(78,odR [.list (.list nT),.list nT] (vG 2 wg)),(47,kcT (vE fr) true),(70,odR [.list zL,.list zL] (qF okD dR dP)),(80,kcT (yC zb okV vR vP) true)]) (loT []) 60) 32 [.ag (tbC h o t [e,a1,a2,a3] P D S O U C st V Z F I),vi L,vi H,vi W,vi vq,vi Y] []).bind qQ).run=scA okP pP wg fr okD dR dP zb okV vR vP 2 4 h o t [e,a1,a2,a3] P D S O U C st V Z F I L H W vq Y:=by kernel_rfl
set_option maxHeartbeats 0 in
theorem qUj(e a1 a2 a3 f:Bd):((qK Tryz.prog (evD Tryz.prog (odT [(61,odR [tbT] (xG okP pP)),(78,odR [.list (.list nT),.list nT] (vG 2 wg)),(47,kcT (vE fr) true),(70,odR [.list zL,.list zL] (qF okD dR dP)),(80,kcT (yC zb okV vR vP) true)]) (loT []) 60) 32 [.ag (tbC h o t [e,a1,a2,a3,f] P D S O U C st V Z F I),vi L,vi H,vi W,vi vq,vi Y] []).bind qQ).run=scA okP pP wg fr okD dR dP zb okV vR vP 2 5 h o t [e,a1,a2,a3,f] P D S O U C st V Z F I L H W vq Y:=by kernel_rfl
set_option maxHeartbeats 0 in
theorem qUk(e a1 a2 a3 f j:Bd):((qK Tryz.prog (evD Tryz.prog (odT [(61,odR [tbT] (xG okP pP)),(78,odR [.list (.list nT),.list nT] (vG 2 wg)),(47,kcT (vE fr) true),(70,odR [.list zL,.list zL] (qF okD dR dP)),(80,kcT (yC zb okV vR vP) true)]) (loT []) 60) 32 [.ag (tbC h o t [e,a1,a2,a3,f,j] P D S O U C st V Z F I),vi L,vi H,vi W,vi vq,vi Y] []).bind qQ).run=scA okP pP wg fr okD dR dP zb okV vR vP 2 6 h o t [e,a1,a2,a3,f,j] P D S O U C st V Z F I L H W vq Y:=by kernel_rfl
end
section
variable (okP:TF Bool)(pP:TF Nat)(wg:List Int→List Int→List Int→Int→Int→Int→List Nz)(fr:Int→Raw)(okD:List Rt→List Rt→Bool)(dR:List Rt→List Rt→Raw)(dP:List Rt→List Rt→Nat)(zb:Raw→Bool)(okV:Raw→Raw→Bool)(vR:Raw→Raw→Raw)(vP:Raw→Raw→Nat)(h o t:List Int)(P D S:Int)(O U:List Nz)(C st V:Raw)(Z:Int)(F I:List (List Int))(L H W vq Y:Int)
set_option maxHeartbeats 0 in
theorem qUl(e:Bd):((qK Tryz.prog (evD Tryz.prog (odT [(61,odR [tbT] (xG okP pP)),(78,odR [.list (.list nT),.list nT] (vG 4 wg)),(47,kcT (vE fr) true),(70,odR [.list zL,.list zL] (qF okD dR dP)),(80,kcT (yC zb okV vR vP) true)]) (loT []) 60) 32 [.ag (tbC h o t [e] P D S O U C st V Z F I),vi L,vi H,vi W,vi vq,vi Y] []).bind qQ).run=scA okP pP wg fr okD dR dP zb okV vR vP 4 1 h o t [e] P D S O U C st V Z F I L H W vq Y:=by kernel_rfl
set_option maxHeartbeats 0 in
theorem qUm(e a1:Bd):((qK Tryz.prog (evD Tryz.prog (odT [(61,odR [tbT] (xG okP pP)),(78,odR [.list (.list nT),.list nT] (vG 4 wg)),(47,kcT (vE fr) true),(70,odR [.list zL,.list zL] (qF okD dR dP)),(80,kcT (yC zb okV vR vP) true)]) (loT []) 60) 32 [.ag (tbC h o t [e,a1] P D S O U C st V Z F I),vi L,vi H,vi W,vi vq,vi Y] []).bind qQ).run=scA okP pP wg fr okD dR dP zb okV vR vP 4 2 h o t [e,a1] P D S O U C st V Z F I L H W vq Y:=by kernel_rfl
set_option maxHeartbeats 0 in
theorem qUn(e a1 a2:Bd):((qK Tryz.prog (evD Tryz.prog (odT [(61,odR [tbT] (xG okP pP)),(78,odR [.list (.list nT),.list nT] (vG 4 wg)),(47,kcT (vE fr) true),(70,odR [.list zL,.list zL] (qF okD dR dP)),(80,kcT (yC zb okV vR vP) true)]) (loT []) 60) 32 [.ag (tbC h o t [e,a1,a2] P D S O U C st V Z F I),vi L,vi H,vi W,vi vq,vi Y] []).bind qQ).run=scA okP pP wg fr okD dR dP zb okV vR vP 4 3 h o t [e,a1,a2] P D S O U C st V Z F I L H W vq Y:=by kernel_rfl
set_option maxHeartbeats 0 in
theorem qUo(e a1 a2 a3:Bd):((qK Tryz.prog (evD Tryz.prog (odT [(61,odR [tbT] (xG okP pP)),(78,odR [.list (.list nT),.list nT] (vG 4 wg)),(47,kcT (vE fr) true),(70,odR [.list zL,.list zL] (qF okD dR dP)),(80,kcT (yC zb okV vR vP) true)]) (loT []) 60) 32 [.ag (tbC h o t [e,a1,a2,a3] P D S O U C st V Z F I),vi L,vi H,vi W,vi vq,vi Y] []).bind qQ).run=scA okP pP wg fr okD dR dP zb okV vR vP 4 4 h o t [e,a1,a2,a3] P D S O U C st V Z F I L H W vq Y:=by kernel_rfl
set_option maxHeartbeats 0 in
theorem qUp(e a1 a2 a3 f:Bd):((qK Tryz.prog (evD Tryz.prog (odT [(61,odR [tbT] (xG okP pP)),(78,odR [.list (.list nT),.list nT] (vG 4 wg)),(47,kcT (vE fr) true),(70,odR [.list zL,.list zL] (qF okD dR dP)),(80,kcT (yC zb okV vR vP) true)]) (loT []) 60) 32 [.ag (tbC h o t [e,a1,a2,a3,f] P D S O U C st V Z F I),vi L,vi H,vi W,vi vq,vi Y] []).bind qQ).run=scA okP pP wg fr okD dR dP zb okV vR vP 4 5 h o t [e,a1,a2,a3,f] P D S O U C st V Z F I L H W vq Y:=by kernel_rfl
set_option maxHeartbeats 0 in
theorem qUq(e a1 a2 a3 f j:Bd):((qK Tryz.prog (evD Tryz.prog (odT [(61,odR [tbT] (xG okP pP)),(78,odR [.list (.list nT),.list nT] (vG 4 wg)),(47,kcT (vE fr) true),(70,odR [.list zL,.list zL] (qF okD dR dP)),(80,kcT (yC zb okV vR vP) true)]) (loT []) 60) 32 [.ag (tbC h o t [e,a1,a2,a3,f,j] P D S O U C st V Z F I),vi L,vi H,vi W,vi vq,vi Y] []).bind qQ).run=scA okP pP wg fr okD dR dP zb okV vR vP 4 6 h o t [e,a1,a2,a3,f,j] P D S O U C st V Z F I L H W vq Y:=by kernel_rfl
end
section
variable (okP:TF Bool)(pP:TF Nat)(wg:List Int→List Int→List Int→Int→Int→Int→List Nz)(fr:Int→Raw)(okD:List Rt→List Rt→Bool)(dR:List Rt→List Rt→Raw)(dP:List Rt→List Rt→Nat)(zb:Raw→Bool)(okV:Raw→Raw→Bool)(vR:Raw→Raw→Raw)(vP:Raw→Raw→Nat)(h o t:List Int)(P D S:Int)(O U:List Nz)(C st V:Raw)(Z:Int)(F I:List (List Int))(L H W vq Y:Int)
set_option maxHeartbeats 0 in
theorem qUr(e:Bd):((qK Tryz.prog (evD Tryz.prog (odT [(61,odR [tbT] (xG okP pP)),(78,odR [.list (.list nT),.list nT] (vG 8 wg)),(47,kcT (vE fr) true),(70,odR [.list zL,.list zL] (qF okD dR dP)),(80,kcT (yC zb okV vR vP) true)]) (loT []) 60) 32 [.ag (tbC h o t [e] P D S O U C st V Z F I),vi L,vi H,vi W,vi vq,vi Y] []).bind qQ).run=scA okP pP wg fr okD dR dP zb okV vR vP 8 1 h o t [e] P D S O U C st V Z F I L H W vq Y:=by kernel_rfl
set_option maxHeartbeats 0 in
theorem qUs(e a1:Bd):((qK Tryz.prog (evD Tryz.prog (odT [(61,odR [tbT] (xG okP pP)),(78,odR [.list (.list nT),.list nT] (vG 8 wg)),(47,kcT (vE fr) true),(70,odR [.list zL,.list zL] (qF okD dR dP)),(80,kcT (yC zb okV vR vP) true)]) (loT []) 60) 32 [.ag (tbC h o t [e,a1] P D S O U C st V Z F I),vi L,vi H,vi W,vi vq,vi Y] []).bind qQ).run=scA okP pP wg fr okD dR dP zb okV vR vP 8 2 h o t [e,a1] P D S O U C st V Z F I L H W vq Y:=by kernel_rfl
set_option maxHeartbeats 0 in
theorem qUt(e a1 a2:Bd):((qK Tryz.prog (evD Tryz.prog (odT [(61,odR [tbT] (xG okP pP)),(78,odR [.list (.list nT),.list nT] (vG 8 wg)),(47,kcT (vE fr) true),(70,odR [.list zL,.list zL] (qF okD dR dP)),(80,kcT (yC zb okV vR vP) true)]) (loT []) 60) 32 [.ag (tbC h o t [e,a1,a2] P D S O U C st V Z F I),vi L,vi H,vi W,vi vq,vi Y] []).bind qQ).run=scA okP pP wg fr okD dR dP zb okV vR vP 8 3 h o t [e,a1,a2] P D S O U C st V Z F I L H W vq Y:=by kernel_rfl
set_option maxHeartbeats 0 in
theorem qUu(e a1 a2 a3:Bd):((qK Tryz.prog (evD Tryz.prog (odT [(61,odR [tbT] (xG okP pP)),(78,odR [.list (.list nT),.list nT] (vG 8 wg)),(47,kcT (vE fr) true),(70,odR [.list zL,.list zL] (qF okD dR dP)),(80,kcT (yC zb okV vR vP) true)]) (loT []) 60) 32 [.ag (tbC h o t [e,a1,a2,a3] P D S O U C st V Z F I),vi L,vi H,vi W,vi vq,vi Y] []).bind qQ).run=scA okP pP wg fr okD dR dP zb okV vR vP 8 4 h o t [e,a1,a2,a3] P D S O U C st V Z F I L H W vq Y:=by kernel_rfl
set_option maxHeartbeats 0 in
theorem qUv(e a1 a2 a3 f:Bd):((qK Tryz.prog (evD Tryz.prog (odT [(61,odR [tbT] (xG okP pP)),(78,odR [.list (.list nT),.list nT] (vG 8 wg)),(47,kcT (vE fr) true),(70,odR [.list zL,.list zL] (qF okD dR dP)),(80,kcT (yC zb okV vR vP) true)]) (loT []) 60) 32 [.ag (tbC h o t [e,a1,a2,a3,f] P D S O U C st V Z F I),vi L,vi H,vi W,vi vq,vi Y] []).bind qQ).run=scA okP pP wg fr okD dR dP zb okV vR vP 8 5 h o t [e,a1,a2,a3,f] P D S O U C st V Z F I L H W vq Y:=by kernel_rfl
set_option maxHeartbeats 0 in
theorem qUw(e a1 a2 a3 f j:Bd):((qK Tryz.prog (evD Tryz.prog (odT [(61,odR [tbT] (xG okP pP)),(78,odR [.list (.list nT),.list nT] (vG 8 wg)),(47,kcT (vE fr) true),(70,odR [.list zL,.list zL] (qF okD dR dP)),(80,kcT (yC zb okV vR vP) true)]) (loT []) 60) 32 [.ag (tbC h o t [e,a1,a2,a3,f,j] P D S O U C st V Z F I),vi L,vi H,vi W,vi vq,vi Y] []).bind qQ).run=scA okP pP wg fr okD dR dP zb okV vR vP 8 6 h o t [e,a1,a2,a3,f,j] P D S O U C st V Z F I L H W vq Y:=by kernel_rfl
end
section
variable (okP:TF Bool)(pP:TF Nat)(wg:List Int→List Int→List Int→Int→Int→Int→List Nz)(fr:Int→Raw)(okD:List Rt→List Rt→Bool)(dR:List Rt→List Rt→Raw)(dP:List Rt→List Rt→Nat)(zb:Raw→Bool)(okV:Raw→Raw→Bool)(vR:Raw→Raw→Raw)(vP:Raw→Raw→Nat)
noncomputable def sk1(Z:Int)(F I:List (List Int))(L nn Y:Int)(ws:List Nz)(b:Nat):Raw⊕Nat:=bif okD (scW ws) (scV fr F I L nn Y b ws)then(bif okV (dR (scW ws) (scV fr F I L nn Y b ws)) (fr Z)then .inl (vR (dR (scW ws) (scV fr F I L nn Y b ws)) (fr Z))else .inr (vP (dR (scW ws) (scV fr F I L nn Y b ws)) (fr Z)+1))else .inr (dP (scW ws) (scV fr F I L nn Y b ws)+1)
noncomputable def skL(Z:Int)(F I:List (List Int))(L nn Y:Int)(ws:List Nz):Nat→Nat→List Raw→List Raw⊕Nat
 | 0,_,acc=> .inl acc.reverse
 | k+1,b,acc=>match sk1 fr okD dR dP okV vR vP Z F I L nn Y ws b with
  | .inl x=>skL Z F I L nn Y ws k (b+1) (x::acc)
  | .inr e=> .inr e
noncomputable def qGq:List Raw⊕Nat→Option (T×Bool)
 | .inl l=>some (.tu [.sl (flR l) l.length,vn 0],true)
 | .inr e=>er e
theorem qZz{h o t:List Int}{G:List Bd}{S Z:Int}{F I:List (List Int)}{L Y:Int}{b:Nat}{y:Nz}{K:Option (T×Bool)}(hT:Tab h o t G S Z F I)(k1:1≤L)(k2:L≤S)(p1:0≤Y)(p2:Y<(G.length:Int))(hb:b<G.length)(N:0≤y.1∧y.1<((h.length*o.length*t.length:Nat):Int)):scG F I L (.ofNat G.length) Y b y K=K:=by
 obtain⟨v,hv⟩:∃v:Nat,y.1=(v:Int):=Int.eq_ofNat_of_zero_le N.1;obtain⟨q,H⟩:∃q:Nat,Y=(q:Int):=Int.eq_ofNat_of_zero_le p1;have z:v<h.length*o.length*t.length:=by
  have J:=N.2;rw[hv]at J;exact Int.ofNat_lt.1 J
 have hq2:q<G.length:=by omega
 have hix:=hT.ixl;have hst:=zRm hT.mod;obtain⟨j,hj⟩:∃j:Nat,L=((j+1:Nat):Int):=⟨L.toNat-1,by omega⟩
 have f:j<I.length:=by omega
 have E:Int.sub L 1= .ofNat j:=by rw[hj];show((j+1:Nat):Int)-1=(j:Int);omega
 have A:kS L=j:=by unfold kS;rw[E];rfl
 obtain⟨r1,r2⟩:=hT.row j f;have hsz:=hT.mod.sz;have m1:v*G.length+G.length≤h.length*o.length*t.length*G.length:=by
  rw[←Nat.succ_mul];exact Nat.mul_le_mul_right _ z
 have em:Int.mul y.1 (.ofNat G.length)= .ofNat (v*G.length):=by rw[hv];rfl
 have B:jS (.ofNat G.length) Y y= .ofNat (v*G.length+q):=by
  show wq (Int.add (Int.mul y.1 (.ofNat G.length)) Y)=_;rw[em,H];exact qRr (yP (show v*G.length+q<9223372036854775808 by omega))
 have e:(jS (.ofNat G.length) Y y).toNat=v*G.length+q:=by rw[B];rfl
 have M:v*G.length+q<(gI I j).length:=by rw[r1];omega
 obtain⟨n1,Q⟩:=r2 _ M;obtain⟨r,hr⟩:∃r:Nat,nI (gI I j) (v*G.length+q)=(r:Int):=Int.eq_ofNat_of_zero_le n1;have k:r<F.length:=by rw[hr]at Q;exact Int.ofNat_lt.1 Q
 have eR:rS I L (.ofNat G.length) Y y=r:=by unfold rS;rw[A,e,hr];rfl
 obtain⟨g1,g2⟩:=hT.num r k;obtain⟨g3,g4⟩:=g2 b (by rw[g1];exact hb)
 have eV:rF (vS F I L (.ofNat G.length) Y b y)=true:=by unfold vS;rw[eR];exact zAu g3 (by omega)
 have a1:inW (.ofNat j)=true:=yP (by omega)
 have a2:nng (.ofNat j)=true:=rfl;have a3:inW (.ofNat (v*G.length))=true:=yP (show v*G.length<9223372036854775808 by omega)
 have R:nng (.ofNat (v*G.length+q))=true:=rfl;have X:nng (nI (gI I j) (v*G.length+q))=true:=by rw[hr];rfl
 unfold scG;rw[E,A,em,e,B,eR,eV,a1,a2,a3,R,X,zP f,zP M,zP k,zP (show b<(gI F r).length by rw[g1];exact hb)]
 rfl
theorem zXl{h o t:List Int}{G:List Bd}{S Z:Int}{F I:List (List Int)}{L Y:Int}{b:Nat}{K:Option (T×Bool)}(hT:Tab h o t G S Z F I)(k1:1≤L)(k2:L≤S)(f:0≤Y)(j:Y<(G.length:Int))(hb:b<G.length):∀{ws:List Nz},inV (h.length*o.length*t.length) ws→qOi F I L (.ofNat G.length) Y b ws K=K
 | [],_=>rfl
 | y::l,e=>by
  show scG F I L (.ofNat G.length) Y b y (qOi F I L (.ofNat G.length) Y b l K)=K;rw[zXl hT k1 k2 f j hb (ws:=l) fun z k=>e z (List.mem_cons_of_mem _ k)];exact qZz hT k1 k2 f j hb (e y List.mem_cons_self)
theorem qHr{h o t:List Int}{G:List Bd}{S Z:Int}{F I:List (List Int)}{L Y:Int}{ws:List Nz}(hT:Tab h o t G S Z F I)(k1:1≤L)(k2:L≤S)(q:0≤Y)(y:Y<(G.length:Int))(f:inV (h.length*o.length*t.length) ws)(j:zb (fr Z)=false):∀(k b:Nat)(acc:List Raw),b+k=G.length→scL fr okD dR dP zb okV vR vP Z F I L (.ofNat G.length) Y ws k b acc=qGq (skL fr okD dR dP okV vR vP Z F I L (.ofNat G.length) Y ws k b acc)
 | 0,b,acc,_=>by
  show(some (.tu [.sl (flR acc.reverse) acc.length,vn 0],true):Option (T×Bool))=some (.tu [.sl (flR acc.reverse) acc.reverse.length,vn 0],true);rw[List.length_reverse]
 | k+1,b,acc,e=>by
  have hs:rF Z=true:=zAu (Int.le_trans (by decide) hT.sc1) (Int.le_trans hT.sc2 (by decide))
  simp only[scL,scB,skL,sk1];rw[zXl hT k1 k2 q y (show b<G.length by omega) f]
  cases okD (scW ws) (scV fr F I L (.ofNat G.length) Y b ws)with
  | false=>rfl
  | true=>
   simp only[gd,hs,j,Bool.not_false,ze];cases okV (dR (scW ws) (scV fr F I L (.ofNat G.length) Y b ws)) (fr Z)with
   | false=>rfl
   | true=>simp only[ze];exact qHr hT k1 k2 q y f j k (b+1) _ (by omega)
end
theorem zTa:∀(l:List Nz)(m i:Nat),i+m=l.length→exL l m i=l.drop i
 | l,0,i,h=>by
  obtain rfl:i=l.length:=by omega
  rw[List.drop_length];rfl
 | l,m+1,i,h=>by
  have f:i<l.length:=by omega
  have e:zI l i=l[i]:=by rw[zI,qX];simp[f]
  rw[List.drop_eq_getElem_cons f,←e];show zI l i::exL l m (i+1)=_;rw[zTa l m (i+1) (by omega)]
noncomputable def iDt(a b:List Rt)(n i:Nat)(t:Raw):Hs:=⟨[.ls .a zL a,.ls .a zL b,vn n,vn i],[],[[.v (.bool t.1),.ls .n .lim t.2,.ls .n .lim t.3]]⟩
noncomputable def iDz(a b:List Rt)(n i:Nat):Hs:=⟨[.ls .a zL a,.ls .a zL b,vn n,vn i],[],[[.v (.bool false),.v (.slice none 0 0),.v (.slice none 0 0)]]⟩
noncomputable def Ldt:Lp:=⟨1,
 ⟨[.h,.h,.u,.u,.t (.op 0 0)]++(us' 11++([.h,.h]++(us' 31))),[.r [.h,.h,.h] 28]⟩,
 ⟨us' 4++([.t (.op 0 0)]++(us' 44)),[.r [.h,.h,.h] 28]⟩,
 ⟨us' 4++([.t (.op 0 0),.h]++(us' 43)),[.r [.h,.h,.h] 28]⟩⟩
noncomputable abbrev qPj:Code:=lpc Tryz.prog 70 [false,true,false,true,true]
theorem qSc:cAt Tryz.prog 70 [false,true,false,true,true]=some (.loop qPj):=by kernel_rfl
noncomputable abbrev zAa(OD:Od)(e:Lo):Hs→Option (Hs⊕(Ex×Hs)):=Ldt.stp (evD Tryz.prog OD e 60) 70 [false,true,false,true,true] qPj
noncomputable abbrev ODt(ad mu:Raw→Raw→Raw)(ae me:Raw→Raw→Int):Od:=odT [(34,kcD (pRR fun a b=>some (ad a b,ae a b)) true),(49,kcD (pRR fun a b=>some (mu a b,me a b)) true)]
noncomputable abbrev rI(l:List Rt)(i:Nat):Rt:=nth zL.zero l i
theorem sDz(ad mu:Raw→Raw→Raw)(ae me:Raw→Raw→Int)(a b:List Rt)(n i:Nat):zAa (ODt ad mu ae me) (loT []) (iDz a b n i)=bif ilt (.ofNat i) (.ofNat n)then gd (Nat.blt i a.length) (gd (Nat.blt i b.length) (bif !(ieq (me (rw' (rI a i)) (rw' (rI b i))) 0)then some (.inr (.r,⟨[vi (me (rw' (rI a i)) (rw' (rI b i)))],[],[[.v (.bool false),.v (Value.slice none 0 0),.v (Value.slice none 0 0)]]⟩))else(bif !(ieq (ae ⟨false,[],[]⟩ ⟨false,[],[]⟩) 0)then(bif !(ieq (ae ⟨false,[],[]⟩ ⟨false,[],[]⟩) 0)then some (.inr (.r,⟨[vi (ae ⟨false,[],[]⟩ ⟨false,[],[]⟩)],[],[[.v (.bool false),.v (Value.slice none 0 0),.v (Value.slice none 0 0)]]⟩))else nx i (.inl ⟨[.ls .a zL a,.ls .a zL b,vn n,vn (i+1)],[],[[.v (.bool false),.v (Value.slice none 0 0),.v (Value.slice none 0 0)]]⟩))else(bif !(ieq (ae (ad ⟨false,[],[]⟩ ⟨false,[],[]⟩) (mu (rw' (rI a i)) (rw' (rI b i)))) 0)then(bif !(ieq (ae (ad ⟨false,[],[]⟩ ⟨false,[],[]⟩) (mu (rw' (rI a i)) (rw' (rI b i)))) 0)then some (.inr (.r,⟨[vi (ae (ad ⟨false,[],[]⟩ ⟨false,[],[]⟩) (mu (rw' (rI a i)) (rw' (rI b i))))],[],[[.v (.bool false),.v (Value.slice none 0 0),.v (Value.slice none 0 0)]]⟩))else nx i (.inl ⟨[.ls .a zL a,.ls .a zL b,vn n,vn (i+1)],[],[[.v (.bool false),.v (Value.slice none 0 0),.v (Value.slice none 0 0)]]⟩))else nx i (.inl ⟨[.ls .a zL a,.ls .a zL b,vn n,vn (i+1)],[],[[.v (.bool ((ad (ad ⟨false,[],[]⟩ ⟨false,[],[]⟩) (mu (rw' (rI a i)) (rw' (rI b i)))).1)),.ls .n .lim ((ad (ad ⟨false,[],[]⟩ ⟨false,[],[]⟩) (mu (rw' (rI a i)) (rw' (rI b i)))).2),.ls .n .lim ((ad (ad ⟨false,[],[]⟩ ⟨false,[],[]⟩) (mu (rw' (rI a i)) (rw' (rI b i)))).3)]]⟩)))))else some (.inr (.x 0,⟨[],[],[[.v (.bool false),.v (Value.slice none 0 0),.v (Value.slice none 0 0)]]⟩)):=by kernel_rfl
theorem sDt(ad mu:Raw→Raw→Raw)(ae me:Raw→Raw→Int)(a b:List Rt)(n i:Nat)(t:Raw):zAa (ODt ad mu ae me) (loT []) (iDt a b n i t)=bif ilt (.ofNat i) (.ofNat n)then gd (Nat.blt i a.length) (gd (Nat.blt i b.length) (bif !(ieq (me (rw' (rI a i)) (rw' (rI b i))) 0)then some (.inr (.r,⟨[vi (me (rw' (rI a i)) (rw' (rI b i)))],[],[[.v (.bool false),.v (Value.slice none 0 0),.v (Value.slice none 0 0)]]⟩))else(bif !(ieq (ae ⟨false,[],[]⟩ t) 0)then(bif !(ieq (ae ⟨false,[],[]⟩ t) 0)then some (.inr (.r,⟨[vi (ae ⟨false,[],[]⟩ t)],[],[[.v (.bool false),.v (Value.slice none 0 0),.v (Value.slice none 0 0)]]⟩))else nx i (.inl ⟨[.ls .a zL a,.ls .a zL b,vn n,vn (i+1)],[],[[.v (.bool false),.v (Value.slice none 0 0),.v (Value.slice none 0 0)]]⟩))else(bif !(ieq (ae (ad ⟨false,[],[]⟩ t) (mu (rw' (rI a i)) (rw' (rI b i)))) 0)then(bif !(ieq (ae (ad ⟨false,[],[]⟩ t) (mu (rw' (rI a i)) (rw' (rI b i)))) 0)then some (.inr (.r,⟨[vi (ae (ad ⟨false,[],[]⟩ t) (mu (rw' (rI a i)) (rw' (rI b i))))],[],[[.v (.bool false),.v (Value.slice none 0 0),.v (Value.slice none 0 0)]]⟩))else nx i (.inl ⟨[.ls .a zL a,.ls .a zL b,vn n,vn (i+1)],[],[[.v (.bool false),.v (Value.slice none 0 0),.v (Value.slice none 0 0)]]⟩))else nx i (.inl ⟨[.ls .a zL a,.ls .a zL b,vn n,vn (i+1)],[],[[.v (.bool ((ad (ad ⟨false,[],[]⟩ t) (mu (rw' (rI a i)) (rw' (rI b i)))).1)),.ls .n .lim ((ad (ad ⟨false,[],[]⟩ t) (mu (rw' (rI a i)) (rw' (rI b i)))).2),.ls .n .lim ((ad (ad ⟨false,[],[]⟩ t) (mu (rw' (rI a i)) (rw' (rI b i)))).3)]]⟩)))))else some (.inr (.x 0,⟨[],[],[[.v (.bool t.1),.ls .n .lim t.2,.ls .n .lim t.3]]⟩)):=by kernel_rfl
section
variable (ad mu:Raw→Raw→Raw)(ae me:Raw→Raw→Int)
noncomputable abbrev xI(l:List Rt)(i:Nat):Raw:=rw' (rI l i)
noncomputable def gDt(a b:List Rt)(i:Nat)(t:Raw):Raw⊕(Raw⊕Int):=bif !ieq (me (xI a i) (xI b i)) 0 then .inr (.inr (me (xI a i) (xI b i)))else(bif !ieq (ae r0 t) 0 then .inr (.inr (ae r0 t))else(bif !ieq (ae (ad r0 t) (mu (xI a i) (xI b i))) 0 then .inr (.inr (ae (ad r0 t) (mu (xI a i) (xI b i))))else .inl (ad (ad r0 t) (mu (xI a i) (xI b i)))))
noncomputable def dtF(a b:List Rt):Raw⊕Int:=fol (gDt ad mu ae me a b) .inl a.length 0 r0
noncomputable def qWs(a b:List Rt):Nat→Raw→Hs
 | 0,_=>iDz a b a.length 0
 | i+1,t=>iDt a b a.length (i+1) t
noncomputable abbrev z3:List T:=[.v (.bool false),.v (.slice none 0 0),.v (.slice none 0 0)]
noncomputable abbrev n3(t:Raw):List T:=[.v (.bool t.1),.ls .n .lim t.2,.ls .n .lim t.3]
noncomputable def qQv:Raw⊕Int→Ex×Hs
 | .inl t=>(.x 0,⟨[],[],[n3 t]⟩)
 | .inr e=>(.r,⟨[vi e],[],[z3]⟩)
theorem lpDt{a b:List Rt}(q:0<a.length)(z:a.length<9223372036854775807)(H:a.length≤b.length):lpF (zAa (ODt ad mu ae me) (loT [])) a.length (iDz a b a.length 0)=some (qQv (dtF ad mu ae me a b)):=
 jP (st:=zAa (ODt ad mu ae me) (loT [])) (iv:=qWs a b) (g:=gDt ad mu ae me a b) (d:= .inl) (out:=qQv) (n:=a.length) (fun i t=>i=0→t=r0)
  (fun i t k j=>by
   cases i with
   | zero=>
    obtain rfl:=j rfl;show zAa (ODt ad mu ae me) (loT []) (iDz a b a.length 0)=_;rw[sDz];unfold gDt;have f:ilt (.ofNat 0) (.ofNat a.length)=true:=zP q;rw[f];simp only[gd,zP q,zP (show 0<b.length by omega),ze,xZ (show 0+1<9223372036854775808 by omega)]
    cases ieq (me (xI a 0) (xI b 0)) 0 with
    | false=>rfl
    | true=>
     simp only[Bool.not_true,zf];cases ieq (ae r0 r0) 0 with
     | false=>rfl
     | true=>
      simp only[Bool.not_true,zf];cases ieq (ae (ad r0 r0) (mu (xI a 0) (xI b 0))) 0<;>rfl
   | succ i=>
    show zAa (ODt ad mu ae me) (loT []) (iDt a b a.length (i+1) t)=_;rw[sDt];unfold gDt;have f:ilt (.ofNat (i+1)) (.ofNat a.length)=true:=zP k;rw[f];simp only[gd,zP k,zP (show i+1<b.length by omega),ze,xZ (show i+1+1<9223372036854775808 by omega)]
    cases ieq (me (xI a (i+1)) (xI b (i+1))) 0 with
    | false=>rfl
    | true=>
     simp only[Bool.not_true,zf];cases ieq (ae r0 t) 0 with
     | false=>rfl
     | true=>
      simp only[Bool.not_true,zf];cases ieq (ae (ad r0 t) (mu (xI a (i+1)) (xI b (i+1)))) 0<;>rfl)
  (fun i t B k j A e=>by omega)
  (fun t j=>by
   obtain⟨m,y⟩:∃m,a.length=m+1:=⟨a.length-1,by omega⟩
   show zAa (ODt ad mu ae me) (loT []) (qWs a b a.length t)=_;have e:qWs a b a.length t=iDt a b a.length a.length t:=by
    rw[y];show iDt a b a.length (m+1) t=_;rw[y]
   rw[e,sDt];show(bif Nat.blt a.length a.length then _ else _)=_;rw[yL (Nat.le_refl _),zf];rfl) a.length 0 r0 (by omega) (fun _=>rfl)
noncomputable def hDt:Hs→DT (Ex×Hs)
 | ⟨[.ls .a (.prod .bool (.prod (.list .lim) (.list .lim))) a,.ls .a (.prod .bool (.prod (.list .lim) (.list .lim))) b,.v (.int .i64 (.ofNat n)),.v (.int .i64 (.ofNat 0))],[],[[.v (.bool false),.v (.slice none 0 0),.v (.slice none 0 0)]]⟩=>grd (Nat.beq n a.length&&(Nat.ble a.length b.length&&Nat.blt a.length 9223372036854775807)) (.ite (Nat.blt 0 a.length) (.ite (isL (dtF ad mu ae me a b)) (.ret (.x 0,⟨[],[],[n3 (rL (dtF ad mu ae me a b))]⟩)) (.ret (.r,⟨[vi (eL (dtF ad mu ae me a b))],[],[z3]⟩))) (.ret (.x 0,⟨[],[],[z3]⟩)))
 | _=> .no
theorem qVx:∀q y,(hDt ad mu ae me q).run=some y→∃n,It (zAa (ODt ad mu ae me) (loT [])) n q y:=fun q y h=>by
 unfold hDt at h;split at h
 ·rename_i a b n;obtain⟨j,e⟩:=zS h;simp only[zd,Nat.ble_eq]at j;obtain⟨z,A,B⟩:=j;obtain rfl:=zY z;cases f:Nat.blt 0 a.length with
  | true=>
   have:=kT _ _ (lpDt ad mu ae me (jC f) (jC B) A);simp only[DT.run,f,ze]at e;cases hb:dtF ad mu ae me a b<;>rw[hb]at e this<;>cases e<;>exact this
  | false=>
   simp only[DT.run,f,zf]at e;cases e;refine⟨0,.out ?_⟩;show zAa (ODt ad mu ae me) (loT []) (iDz a b a.length 0)=_;have k:ilt (.ofNat 0) (.ofNat a.length)=false:=f;rw[sDz,k];rfl
 ·cases h
noncomputable abbrev LDt:Lo:=loT [(70,[false,true,false,true,true],Ldt.row (hDt ad mu ae me))]
end
theorem eDt(ad mu:Raw→Raw→Raw)(ae me:Raw→Raw→Int)(a b:List Rt):((qK Tryz.prog (evD Tryz.prog (ODt ad mu ae me) (LDt ad mu ae me) 60) 70 [.ls .a zL a,.ls .a zL b] []).bind qQ).run=bif !(ieq (.ofNat a.length) (.ofNat b.length))then some (.tu [.ag [.v (.bool false),.v (Value.slice none 0 0),.v (Value.slice none 0 0)],vn 16],true)else gd ((Nat.beq a.length a.length)&&((Nat.ble a.length b.length)&&(Nat.blt a.length 9223372036854775807))) (bif Nat.blt 0 a.length then(bif isL (dtF ad mu ae me a b)then some (.tu [.ag [.v (.bool ((rL (dtF ad mu ae me a b)).1)),.ls .a .lim ((rL (dtF ad mu ae me a b)).2),.ls .a .lim ((rL (dtF ad mu ae me a b)).3)],vn 0],true)else some (.tu [.ag [.v (.bool false),.v (Value.slice none 0 0),.v (Value.slice none 0 0)],vi (eL (dtF ad mu ae me a b))],true))else some (.tu [.ag [.v (.bool false),.v (Value.slice none 0 0),.v (Value.slice none 0 0)],vn 0],true)):=by kernel_rfl
theorem zLy(a:Raw):0≤a.chk:=by unfold Raw.chk;split;decide;split;decide;split<;>decide
theorem qGj{x y:Int}(e:0≤x)(f:0≤y):0≤or2 x y:=by unfold or2;split<;>assumption
theorem zNa(a b:Raw)(x:Rat):0≤opE a b x:=qGj (qGj (zLy a) (zLy b)) (by unfold zJi;split<;>decide)
noncomputable abbrev pE(e:Int):Nat:=e.toNat-1
theorem qGt{e:Int}(h:0<e):Int.ofNat (pE e+1)=e:=by
 obtain⟨n,rfl⟩:=Int.eq_ofNat_of_zero_le (Int.le_of_lt h);show Int.ofNat ((n:Int).toNat-1+1)=_;rw[Int.toNat_natCast,Nat.sub_add_cancel (by omega)];rfl
theorem qIi{B:Bm}{r:Rd}{t:T}{v:Value}(h:Rep B r (.tu [.ag z3,t]) v):Rep B r (.tu [.ag (rC r0),t]) v:=by
 obtain⟨vs,rfl,j⟩:=h.tuI;match vs,j with
 | [a,b],⟨y,z,_⟩=>
  refine Rep.mkTu (vs:=[a,b]) ⟨?_,z,trivial⟩;obtain⟨us,rfl,f⟩:=y.agI;match us,f with
  | [c,d,e],⟨g1,k,q,_⟩=>exact Rep.mkAg (vs:=[c,d,e]) ⟨g1,zHl k,zHl q,trivial⟩
section
variable (ad mu:Raw→Raw→Raw)(ae me:Raw→Raw→Int)
noncomputable def zJb(a b:List Rt):Bool:=Nat.beq a.length b.length&&isL (dtF ad mu ae me a b)
noncomputable def dtR(a b:List Rt):Raw:=bif zJb ad mu ae me a b then rL (dtF ad mu ae me a b)else r0
noncomputable def dtE(a b:List Rt):Int:=bif Nat.beq a.length b.length then eL (dtF ad mu ae me a b)else 16
noncomputable def dtP(a b:List Rt):Nat:=pE (dtE ad mu ae me a b)
theorem qKl(j:∀x y,0≤ae x y)(B:∀x y,0≤me x y){a b:List Rt}:∀{e:Int},dtF ad mu ae me a b= .inr e→0<e:=by
 have:=xC (g:=gDt ad mu ae me a b) (d:= .inl) (J:=fun _=>True) (R:=fun y=>∀e,y= .inr e→0<e) (fun _ _ _ _ _=>trivial)
  (fun i t y _ f e k=>by
   subst k;unfold gDt at f;have pos:∀z:Int,0≤z→ieq z 0=false→0<z:=fun z q A=>by
    rcases Int.lt_or_eq_of_le q with h | h
    ·exact h
    ·subst h;cases A
   cases q:ieq (me (xI a i) (xI b i)) 0<;>rw[q]at f
   ·cases f;exact pos _ (B _ _) q
   ·cases A:ieq (ae r0 t) 0<;>rw[A]at f
    ·cases f;exact pos _ (j _ _) A
    ·cases E:ieq (ae (ad r0 t) (mu (xI a i) (xI b i))) 0<;>rw[E]at f
     ·cases f;exact pos _ (j _ _) E
     ·cases f)
  (fun _ _ e k=>by cases k) a.length 0 r0 trivial
 intro e k;exact this e k
end
noncomputable abbrev zU:List Rt→List Rt→Bool:=zJb adA muA aeA meA
noncomputable abbrev qP:List Rt→List Rt→Raw:=dtR adA muA aeA meA
noncomputable abbrev qZ:List Rt→List Rt→Nat:=dtP adA muA aeA meA
theorem qFr:wB Tryz.prog (ODt adA muA aeA meA):=zT (zT yG fun az e nw h k=>sP qLv az e h k) fun az e nw h k=>sP qWv az e h k
theorem qXk:vY Tryz.prog (LDt adA muA aeA meA):=jX qA (kQ yT qFr qA 60) qSc (qVx adA muA aeA meA)
theorem kDot:∀az N nw,(qF zU qP qZ az).run=some (N,nw)→∀k,KnP Tryz.prog k 70 az N nw:=by
 intro az N nw hh k;unfold qF at hh;split at hh
 ·rename_i a b;obtain⟨h1,f⟩:=zS hh;simp only[zd,Nat.ble_eq]at h1;have q:=eDt adA muA aeA meA a b;have fin:∀{E:T}{G:Bool},((qK Tryz.prog (evD Tryz.prog (ODt adA muA aeA meA) (LDt adA muA aeA meA) 60) 70 [.ls .a zL a,.ls .a zL b] []).bind qQ).run=some (E,G)→([T.ls .a zL a,.ls .a zL b].all (clean 12)&&clean 12 E)=true→KnP Tryz.prog k 70 [.ls .a zL a,.ls .a zL b] E G:=fun e hc=>kF (cz:=[.ls .a zL a,.ls .a zL b]) yT qFr qXk e hc k;simp only[DT.run]at f;cases A:Nat.beq a.length b.length with
  | false=>
   have K:ieq (.ofNat a.length) (.ofNat b.length)=false:=A;have j:zU a b=false:=by simp only[zU,zJb,A,Bool.false_and]
   have z:qP a b=r0:=by unfold qP dtR;rw[show zJb adA muA aeA meA a b=false from j];rfl
   have M:Int.ofNat (qZ a b+1)=16:=by unfold qZ dtP dtE;rw[A];rfl
   rw[K]at q;rw[j,z,M]at f;cases f;exact(fin q rfl).res fun B r v h=>qIi h
  | true=>
   have K:ieq (.ofNat a.length) (.ofNat b.length)=true:=A;have hl':=zY A;have X:Nat.beq a.length a.length=true:=kG _;rw[K,X,kZ (show a.length≤b.length by omega),zP (show a.length<9223372036854775807 by omega)]at q
   simp only[gd,Bool.not_true,zf,Bool.and_self,ze]at q;have j:zU a b=isL (dtF adA muA aeA meA a b):=by simp only[zU,zJb,A,Bool.true_and]
   cases J:Nat.blt 0 a.length with
   | false=>
    rw[J]at q;have R:a.length=0:=by
     rcases Nat.eq_zero_or_pos a.length with e | e
     ·exact e
     ·rw[zP e]at J;cases J
    have Q:dtF adA muA aeA meA a b= .inl r0:=by unfold dtF;rw[R];rfl
    have z:qP a b=r0:=by unfold qP dtR;rw[Q];cases zJb adA muA aeA meA a b<;>rfl
    rw[j,z,Q]at f;cases f;exact(fin q rfl).res fun B r v h=>qIi h
   | true=>
    rw[J]at q;cases y:dtF adA muA aeA meA a b with
    | inl t=>
     have z:qP a b=t:=by unfold qP dtR;rw[show zJb adA muA aeA meA a b=isL (dtF adA muA aeA meA a b)from j,y];rfl
     rw[y]at q;rw[j,z,y]at f;cases f;exact fin q rfl
    | inr e=>
     have z:qP a b=r0:=by unfold qP dtR;rw[show zJb adA muA aeA meA a b=isL (dtF adA muA aeA meA a b)from j,y];rfl
     have he:0<e:=qKl adA muA aeA meA (fun _ _=>zNa _ _ _) (fun _ _=>zNa _ _ _) y;have M:Int.ofNat (qZ a b+1)=e:=by
      unfold qZ dtP dtE;rw[A,y];exact qGt he
     rw[y]at q;rw[j,z,y,M]at f;cases f;exact(fin q rfl).res fun B r v h=>qIi h
 ·cases hh
theorem kFrT:KC Tryz.prog 47 (fun az=>(vE frA az).run) true:=by
 have e:(fun az=>(vE frA az).run)=pI frA:=funext fun az=>by
  unfold vE pI;split
  ·rename_i n;show(bif rF n then _ else _)=_;rfl
  ·rename_i h;split
   ·rename_i n;exact absurd rfl (h n)
   ·rfl
 rw[e];exact zVx
noncomputable abbrev zbA(b:Raw):Bool:=Nat.beq (val b.ln) 0
noncomputable abbrev dvE(a b:Raw):Int:=opE a b (a.rat / b.rat)
noncomputable abbrev dvR(a b:Raw):Raw:=opR a b (a.rat / b.rat)
noncomputable abbrev yO(a b:Raw):Bool:=ieq (dvE a b) 0
noncomputable abbrev dvP(a b:Raw):Nat:=pE (dvE a b)
theorem jBv:KC Tryz.prog 80 (fun az=>(yC zbA yO dvR dvP az).run) true:=by
 have e:(fun az=>(yC zbA yO dvR dvP az).run)=pRR fun a b=>bif Nat.beq (val b.ln) 0 then none else some (opR a b (a.rat / b.rat),opE a b (a.rat / b.rat)):=funext fun az=>by
  unfold yC pRR;split
  ·rename_i a b;cases j:Nat.beq (val b.ln) 0 with
   | true=>
    show(bif !(Nat.beq (val b.ln) 0)then _ else _)=match(bif Nat.beq (val b.ln) 0 then none else some (dvR a b,dvE a b))with | some (c,e)=>some (Rs.tup [.r c,.i e]) | none=>none
    rw[j];rfl
   | false=>
    show(bif !(Nat.beq (val b.ln) 0)then _ else _)=match(bif Nat.beq (val b.ln) 0 then none else some (dvR a b,dvE a b))with | some (c,e)=>some (Rs.tup [.r c,.i e]) | none=>none
    rw[j];simp only[Bool.not_false,ze,zf,DT.run];cases h:yO a b with
    | true=>have f:dvE a b=0:=qL.1 h;rw[f];rfl
    | false=>
     have f:0<dvE a b:=by
      rcases Int.lt_or_eq_of_le (zNa a b (a.rat / b.rat))with g | g
      ·exact g
      ·rw[show yO a b=true from xU g.symm]at h;cases h
     simp only[zf,dvP,qGt f]
  ·rename_i h;split
   ·rename_i a b;exact absurd rfl (h a b)
   ·rfl
 rw[e];exact kDiv
theorem bnn{b:Bool}{x y:Int}(e:0≤x)(f:0≤y):0≤(bif b then x else y):=by cases b<;>assumption
theorem qDg{β:Type}{g:Nat→Unit→Unit⊕Option Int}(f:∀i e,g i ()= .inr (some e)→0≤e)(k i:Nat):0≤eN (fol g (fun _=>none) k i ()):=by
 have:=xC (g:=g) (d:=fun _=>none) (J:=fun _=>True) (R:=fun y=>0≤eN y) (fun _ _ _ _ _=>trivial) (fun i a y _ j=>by
  cases y with
  | none=>exact Int.le_refl 0
  | some e=>exact f i e j) (fun _ _=>Int.le_refl 0) k i () trivial
 exact this
theorem qWk(g:List (List Int)):0≤icE g:=by
 have h:0≤eN (c0F g):=qDg (β:=Unit) (fun i e f=>by
  unfold gC0 at f;cases j:ieq (.ofNat (gI g i).length) (.ofNat 0)<;>rw[j]at f
  ·cases k:ilt (.ofNat 32) (.ofNat (gI g i).length)<;>rw[k]at f
   ·cases q:c1F (gI g i) (gI g i)<;>rw[q]at f<;>cases f;decide
   ·cases f;decide
  ·cases f;decide) g.length 0
 unfold icE
 repeat' first | assumption | exact bnn (by decide) (by decide) | apply bnn | decide
theorem zMb(x:Raw):0≤crA x:=by
 have h:=zLy x;unfold crA crE
 repeat' first | assumption | apply bnn | decide
theorem qCr(l:List Nz):0≤cnA l:=by
 have h:0≤eL (cnF crA adA l l):=by
  have:=xC (g:=gCn crA adA l l) (d:= .inl) (J:=fun _=>True) (R:=fun y=>0≤eL y) (fun _ _ _ _ _=>trivial) (fun i a y _ e=>by
   unfold gCn at e;cases f:yF (-100) 100 [(zI l i).1]<;>rw[f]at e
   ·cases e;decide
   ·cases j:(ilt (.ofNat 0) (.ofNat i)&&!ilt (zI l (i-1)).1 (zI l i).1)<;>rw[j]at e
    ·cases k:ieq (crA (rw' (zI l i).2)) 0<;>rw[k]at e
     ·cases e;exact zMb _
     ·cases q:(zI l i).2.1<;>rw[q]at e
      ·cases z:ieq (.ofNat (zI l i).2.2.1.length) (.ofNat 0)<;>rw[z]at e<;>cases e;decide
      ·cases e;decide
    ·cases e;decide) (fun _ _=>Int.le_refl 0) l.length 0 r0 trivial
  exact this
 unfold cnA cnE
 repeat' first | assumption | apply bnn | decide
theorem qTs(h o t:List Int)(G:List Bd)(P D S:Int)(O U:List Nz)(C st V:Raw):0≤dcA h o t G P D S O U C st V:=by
 have j:=qWk [h,o,t];have k:=qCr O;have q:=qCr U;have y:=zMb C;have z:=zMb st;have A:=zMb V;have B:0≤eN (dvF (dr1 G)):=qDg (β:=Unit) (fun i e f=>by
  unfold gDc at f;cases j:(!ieq (bI (dr1 G) i).1 1&&!ieq (bI (dr1 G) i).1 2)<;>rw[j]at f
  ·cases k:ilt (bI (dr1 G) i).2.2 (bI (dr1 G) i).2.1<;>rw[k]at f
   ·cases q:yF (-100) 100 [(bI (dr1 G) i).2.1,(bI (dr1 G) i).2.2]<;>rw[q]at f<;>cases f;decide
   ·cases f;decide
  ·cases f;decide) _ 0
 unfold dcA dcE
 repeat' first | assumption | apply bnn | decide
theorem qZb(h o t:List Int)(G:List Bd)(P D S:Int)(O U:List Nz)(C st V:Raw)(Z:Int)(F I:List (List Int)):0≤pcA h o t G P D S O U C st V Z F I:=by
 have f:=qTs h o t G P D S O U C st V;have j:0≤eU (p0F (szA h o t G P D S O U C st V) F I (0,true)):=by
  have:=xC (g:=gP0 (szA h o t G P D S O U C st V) F I) (d:= .inl) (J:=fun _=>True) (R:=fun y=>0≤eU y) (fun _ _ _ _ _=>trivial) (fun i a y _ e=>by
   unfold gP0 at e;cases f:ieq (.ofNat (gI I i).length) (szA h o t G P D S O U C st V)<;>rw[f]at e
   ·cases e;decide
   ·cases j:isS (p1F F (gI I i) a)<;>rw[j]at e<;>cases e;decide) (fun _ _=>Int.le_refl 0) I.length 0 (0,true) trivial
  exact this
 have k:0≤eM (p2F kyF F G):=by
  have:=xC (g:=gP2 kyF F G) (d:= .inl) (J:=fun _=>True) (R:=fun y=>0≤eM y) (fun _ _ _ _ _=>trivial) (fun i a y _ e=>by
   unfold gP2 at e;cases f:ieq (.ofNat (gI F i).length) (.ofNat G.length)<;>rw[f]at e
   ·cases e;decide
   ·cases j:p3F (gI F i)<;>rw[j]at e<;>cases e;decide) (fun _ _=>Int.le_refl 0) F.length 0 [] trivial
  exact this
 unfold pcA pcE
 repeat' first | assumption | apply bnn | decide
noncomputable abbrev yM(h o t:List Int)(G:List Bd)(P D S:Int)(O U:List Nz)(C st V:Raw)(Z:Int)(F I:List (List Int)):Bool:=ieq (pcA h o t G P D S O U C st V Z F I) 0
noncomputable abbrev pPA(h o t:List Int)(G:List Bd)(P D S:Int)(O U:List Nz)(C st V:Raw)(Z:Int)(F I:List (List Int)):Nat:=pE (pcA h o t G P D S O U C st V Z F I)
theorem qYz(h o t:List Int)(G:List Bd)(P D S:Int)(O U:List Nz)(C st V:Raw)(Z:Int)(F I:List (List Int))(e:yM h o t G P D S O U C st V Z F I=false):Int.ofNat (pPA h o t G P D S O U C st V Z F I+1)=pcA h o t G P D S O U C st V Z F I:=by
 refine qGt ?_;rcases Int.lt_or_eq_of_le (qZb h o t G P D S O U C st V Z F I)with g | g
 ·exact g
 ·rw[show yM h o t G P D S O U C st V Z F I=true from xU g.symm]at e;cases e
theorem kPcX:∀az j nw,(xG yM pPA az).run=some (j,nw)→∀k,KnP Tryz.prog k 61 az j nw:=by
 intro az j nw hh k;refine kPc az j nw ?_ k;unfold xG at hh;unfold oPc;split at hh
 ·rename_i h o t G P D S O U q C am B sl sm y z A Z F I;obtain⟨E,f⟩:=zS hh;simp only[grd,DT.run,E,ze];simp only[DT.run]at f;cases e:yM h o t G P D S O U ⟨q,C,am⟩ ⟨B,sl,sm⟩ ⟨y,z,A⟩ Z F I with
  | true=>
   rw[e]at f;rw[show pcA h o t G P D S O U ⟨q,C,am⟩ ⟨B,sl,sm⟩ ⟨y,z,A⟩ Z F I=0 from qL.1 e];exact f
  | false=>
   rw[e]at f;simp only[zf]at f;rw[←qYz h o t G P D S O U ⟨q,C,am⟩ ⟨B,sl,sm⟩ ⟨y,z,A⟩ Z F I e];exact f
 ·cases hh
theorem kWgX(m:Nat):∀az f nw,(vG m wgA az).run=some (f,nw)→∀k,KnP Tryz.prog k 78 az f nw:=by
 intro az f nw hh k;refine kWg az f nw ?_ k;unfold vG at hh;unfold oWg;split at hh
 ·rename_i h o t x0 x1 x2;obtain⟨j,q⟩:=zS hh;simp only[zd]at j;have e:=zTa (wgA h o t x0 x1 x2) m 0 (by rw[←zY j.1];omega)
  rw[List.drop_zero]at e;rw[e]at q;show some _=some _;rw[show icE [h,o,t]=0 from qL.1 j.2];exact q
 ·cases hh
theorem qGn(m:Nat):wB Tryz.prog (odT [(61,odR [tbT] (xG yM pPA)),(78,odR [.list (.list nT),.list nT] (vG m wgA)),(47,kcT (vE frA) true),(70,odR [.list zL,.list zL] (qF zU qP qZ)),(80,kcT (yC zbA yO dvR dvP) true)]):=zT (zT (zT (zT (zT yG fun az e nw h k=>zTh jBv az e nw h k) (jV kDot)) fun az e nw h k=>zTh kFrT az e nw h k) (jV (kWgX m))) (jV kPcX)
theorem eLk0(okP:TF Bool)(pP:TF Nat)(h o t:List Int)(G:List Bd)(P D S:Int)(O U:List Nz)(C st V:Raw)(Z:Int)(F I:List (List Int))(L H W vq Y:Int):((qK Tryz.prog (evD Tryz.prog (odT [(61,odR [tbT] (xG okP pP)),(78,fun _=> .no)]) (loT []) 60) 32 [.ag (tbC h o t G P D S O U C st V Z F I),vi L,vi H,vi W,vi vq,vi Y] []).bind qQ).run=gd (Nat.blt F.length 9223372036854775807) (bif okP h o t G P D S O U C st V Z F I then(bif ilt L (.ofNat 1)then some (.tu [.v (Value.slice none 0 0),vn 1],true)else(bif ilt S L then some (.tu [.v (Value.slice none 0 0),vn 1],true)else(bif !(ilt H (i64.wrap (0-100000)))then(bif !(!(ilt 100000 H))then some (.tu [.v (Value.slice none 0 0),vn 1],true)else(bif !(ilt W ((-100)))then(bif !(!(ilt 100 W))then some (.tu [.v (Value.slice none 0 0),vn 1],true)else(bif !(ilt vq ((-100)))then(bif !(!(ilt 100 vq))then some (.tu [.v (Value.slice none 0 0),vn 1],true)else(bif ilt Y (.ofNat 0)then some (.tu [.v (Value.slice none 0 0),vn 8],true)else gd (!(ilt Y (.ofNat G.length))) (some (.tu [.v (Value.slice none 0 0),vn 8],true))))else some (.tu [.v (Value.slice none 0 0),vn 1],true)))else some (.tu [.v (Value.slice none 0 0),vn 1],true)))else some (.tu [.v (Value.slice none 0 0),vn 1],true))))else some (.tu [.v (Value.slice none 0 0),vn ((pP h o t G P D S O U C st V Z F I)+1)],true)):=by kernel_rfl
noncomputable abbrev wiN(x e:Int)(E K:Nat):Nat:=bif !ilt x (-e)then(bif !(!ilt e x)then E else K)else E
section
variable (okP:TF Bool)(pP:TF Nat)
noncomputable def lkC(h o t:List Int)(G:List Bd)(P D S:Int)(O U:List Nz)(C st V:Raw)(Z:Int)(F I:List (List Int))(L H W vq Y:Int):Nat:=bif okP h o t G P D S O U C st V Z F I then(bif ilt L (.ofNat 1)then 1 else(bif ilt S L then 1 else wiN H 100000 1 (wiN W 100 1 (wiN vq 100 1 (bif ilt Y (.ofNat 0)then 8 else(bif !ilt Y (.ofNat G.length)then 8 else 0))))))else pP h o t G P D S O U C st V Z F I+1
theorem qXo(h o t:List Int)(G:List Bd)(P D S:Int)(O U:List Nz)(C st V:Raw)(Z:Int)(F I:List (List Int))(L H W vq Y:Int)(hr:F.length<9223372036854775807)(e:Nat.beq (lkC okP pP h o t G P D S O U C st V Z F I L H W vq Y) 0=false):((qK Tryz.prog (evD Tryz.prog (odT [(61,odR [tbT] (xG okP pP)),(78,fun _=> .no)]) (loT []) 60) 32 [.ag (tbC h o t G P D S O U C st V Z F I),vi L,vi H,vi W,vi vq,vi Y] []).bind qQ).run=er (lkC okP pP h o t G P D S O U C st V Z F I L H W vq Y):=by
 have f:ilt H (i64.wrap (0-100000))=ilt H (-100000):=rfl;rw[eLk0,f];unfold lkC at e ⊢;simp only[gd,zP hr,ze];cases j:okP h o t G P D S O U C st V Z F I with
 | false=>rfl
 | true=>
  rw[j]at e;simp only[ze]at e ⊢;cases k:ilt L (.ofNat 1)with
  | true=>rfl
  | false=>
   cases q:ilt S L with
   | true=>rfl
   | false=>
    rw[k,q]at e;simp only[zf,wiN]at e ⊢;cases y:ilt H (-100000)with
    | true=>rfl
    | false=>
     cases z:ilt 100000 H with
     | true=>rfl
     | false=>
      rw[y,z]at e;simp only[Bool.not_false,Bool.not_true,ze,zf]at e ⊢;cases A:ilt W (-100)with
      | true=>rfl
      | false=>
       cases B:ilt 100 W with
       | true=>rfl
       | false=>
        rw[A,B]at e;simp only[Bool.not_false,Bool.not_true,ze,zf]at e ⊢;cases E:ilt vq (-100)with
        | true=>rfl
        | false=>
         cases J:ilt 100 vq with
         | true=>rfl
         | false=>
          rw[E,J]at e;simp only[Bool.not_false,Bool.not_true,ze,zf]at e ⊢;cases K:ilt Y (.ofNat 0)with
          | true=>rfl
          | false=>
           rw[K]at e;cases ha:ilt Y (.ofNat G.length)with
           | false=>rfl
           | true=>rw[ha]at e;cases e
theorem qEy(h o t:List Int)(G:List Bd)(P D S:Int)(O U:List Nz)(C st V:Raw)(Z:Int)(F I:List (List Int))(L H W vq Y:Int)(e:Nat.beq (lkC okP pP h o t G P D S O U C st V Z F I L H W vq Y) 0=true):okP h o t G P D S O U C st V Z F I=true∧1≤L∧L≤S∧0≤Y∧Y<(G.length:Int)∧∀(wg:List Int→List Int→List Int→Int→Int→Int→List Nz)(fr:Int→Raw)(okD:List Rt→List Rt→Bool)(dR:List Rt→List Rt→Raw)(dP:List Rt→List Rt→Nat)(zb:Raw→Bool)(okV:Raw→Raw→Bool)(vR:Raw→Raw→Raw)(vP:Raw→Raw→Nat)(m:Nat),F.length<9223372036854775807→scA okP pP wg fr okD dR dP zb okV vR vP m G.length h o t G P D S O U C st V Z F I L H W vq Y=gd (Nat.beq (wg h o t H W vq).length m&&ieq (icE [h,o,t]) 0) (scL fr okD dR dP zb okV vR vP Z F I L (.ofNat G.length) Y (exL (wg h o t H W vq) m 0) G.length 0 []):=by
 unfold lkC at e;cases A:okP h o t G P D S O U C st V Z F I with
 | false=>rw[A]at e;cases e
 | true=>
  rw[A]at e;cases f:ilt L (.ofNat 1)with
  | true=>rw[f]at e;cases e
  | false=>
   cases j:ilt S L with
   | true=>rw[f,j]at e;cases e
   | false=>
    rw[f,j]at e;simp only[ze,zf,wiN]at e;cases k:ilt H (-100000)with
    | true=>rw[k]at e;cases e
    | false=>
     cases B:ilt 100000 H with
     | true=>rw[k,B]at e;cases e
     | false=>
      rw[k,B]at e;simp only[Bool.not_false,Bool.not_true,ze,zf]at e;cases q:ilt W (-100)with
      | true=>rw[q]at e;cases e
      | false=>
       cases E:ilt 100 W with
       | true=>rw[q,E]at e;cases e
       | false=>
        rw[q,E]at e;simp only[Bool.not_false,Bool.not_true,ze,zf]at e;cases y:ilt vq (-100)with
        | true=>rw[y]at e;cases e
        | false=>
         cases J:ilt 100 vq with
         | true=>rw[y,J]at e;cases e
         | false=>
          rw[y,J]at e;simp only[Bool.not_false,Bool.not_true,ze,zf]at e;cases z:ilt Y (.ofNat 0)with
          | true=>rw[z]at e;cases e
          | false=>
           rw[z]at e;cases ha:ilt Y (.ofNat G.length)with
           | false=>rw[ha]at e;cases e
           | true=>
            refine⟨rfl,vC f,vC j,vC z,xN.1 ha,fun wg fr okD dR dP zb okV vR vP m hr=>?_⟩;unfold scA;simp only[gd,zP hr,ze,A,f,j,wiK,k,B,q,E,y,J,z,ha,Bool.not_false,Bool.not_true,zf]
end
theorem qUx(h o t:List Int)(G:List Bd)(P D S:Int)(O U:List Nz)(C st V:Raw)(Z:Int)(F I:List (List Int))(L H W vq Y:Int)(k:1≤G.length)(q:G.length≤6):((qK Tryz.prog (evD Tryz.prog (odT [(61,odR [tbT] (xG yM pPA)),(78,odR [.list (.list nT),.list nT] (vG 1 wgA)),(47,kcT (vE frA) true),(70,odR [.list zL,.list zL] (qF zU qP qZ)),(80,kcT (yC zbA yO dvR dvP) true)]) (loT []) 60) 32 [.ag (tbC h o t G P D S O U C st V Z F I),vi L,vi H,vi W,vi vq,vi Y] []).bind qQ).run=scA yM pPA wgA frA zU qP qZ zbA yO dvR dvP 1 G.length h o t G P D S O U C st V Z F I L H W vq Y:=by
 match G,k,q with
 | [e],_,_=>exact qTz yM pPA wgA frA zU qP qZ zbA yO dvR dvP h o t P D S O U C st V Z F I L H W vq Y e
 | [e,a1],_,_=>exact qUa yM pPA wgA frA zU qP qZ zbA yO dvR dvP h o t P D S O U C st V Z F I L H W vq Y e a1
 | [e,a1,a2],_,_=>exact qUb yM pPA wgA frA zU qP qZ zbA yO dvR dvP h o t P D S O U C st V Z F I L H W vq Y e a1 a2
 | [e,a1,a2,a3],_,_=>exact qUc yM pPA wgA frA zU qP qZ zbA yO dvR dvP h o t P D S O U C st V Z F I L H W vq Y e a1 a2 a3
 | [e,a1,a2,a3,f],_,_=>exact qUd yM pPA wgA frA zU qP qZ zbA yO dvR dvP h o t P D S O U C st V Z F I L H W vq Y e a1 a2 a3 f
 | [e,a1,a2,a3,f,j],_,_=>exact qUe yM pPA wgA frA zU qP qZ zbA yO dvR dvP h o t P D S O U C st V Z F I L H W vq Y e a1 a2 a3 f j
 | e::a1::a2::a3::f::j::y::l,_,h=>simp only[List.length_cons]at h;omega
theorem qUy(h o t:List Int)(G:List Bd)(P D S:Int)(O U:List Nz)(C st V:Raw)(Z:Int)(F I:List (List Int))(L H W vq Y:Int)(k:1≤G.length)(q:G.length≤6):((qK Tryz.prog (evD Tryz.prog (odT [(61,odR [tbT] (xG yM pPA)),(78,odR [.list (.list nT),.list nT] (vG 2 wgA)),(47,kcT (vE frA) true),(70,odR [.list zL,.list zL] (qF zU qP qZ)),(80,kcT (yC zbA yO dvR dvP) true)]) (loT []) 60) 32 [.ag (tbC h o t G P D S O U C st V Z F I),vi L,vi H,vi W,vi vq,vi Y] []).bind qQ).run=scA yM pPA wgA frA zU qP qZ zbA yO dvR dvP 2 G.length h o t G P D S O U C st V Z F I L H W vq Y:=by
 match G,k,q with
 | [e],_,_=>exact qUf yM pPA wgA frA zU qP qZ zbA yO dvR dvP h o t P D S O U C st V Z F I L H W vq Y e
 | [e,a1],_,_=>exact qUg yM pPA wgA frA zU qP qZ zbA yO dvR dvP h o t P D S O U C st V Z F I L H W vq Y e a1
 | [e,a1,a2],_,_=>exact qUh yM pPA wgA frA zU qP qZ zbA yO dvR dvP h o t P D S O U C st V Z F I L H W vq Y e a1 a2
 | [e,a1,a2,a3],_,_=>exact qUi yM pPA wgA frA zU qP qZ zbA yO dvR dvP h o t P D S O U C st V Z F I L H W vq Y e a1 a2 a3
 | [e,a1,a2,a3,f],_,_=>exact qUj yM pPA wgA frA zU qP qZ zbA yO dvR dvP h o t P D S O U C st V Z F I L H W vq Y e a1 a2 a3 f
 | [e,a1,a2,a3,f,j],_,_=>exact qUk yM pPA wgA frA zU qP qZ zbA yO dvR dvP h o t P D S O U C st V Z F I L H W vq Y e a1 a2 a3 f j
 | e::a1::a2::a3::f::j::y::l,_,h=>simp only[List.length_cons]at h;omega
theorem qUz(h o t:List Int)(G:List Bd)(P D S:Int)(O U:List Nz)(C st V:Raw)(Z:Int)(F I:List (List Int))(L H W vq Y:Int)(k:1≤G.length)(q:G.length≤6):((qK Tryz.prog (evD Tryz.prog (odT [(61,odR [tbT] (xG yM pPA)),(78,odR [.list (.list nT),.list nT] (vG 4 wgA)),(47,kcT (vE frA) true),(70,odR [.list zL,.list zL] (qF zU qP qZ)),(80,kcT (yC zbA yO dvR dvP) true)]) (loT []) 60) 32 [.ag (tbC h o t G P D S O U C st V Z F I),vi L,vi H,vi W,vi vq,vi Y] []).bind qQ).run=scA yM pPA wgA frA zU qP qZ zbA yO dvR dvP 4 G.length h o t G P D S O U C st V Z F I L H W vq Y:=by
 match G,k,q with
 | [e],_,_=>exact qUl yM pPA wgA frA zU qP qZ zbA yO dvR dvP h o t P D S O U C st V Z F I L H W vq Y e
 | [e,a1],_,_=>exact qUm yM pPA wgA frA zU qP qZ zbA yO dvR dvP h o t P D S O U C st V Z F I L H W vq Y e a1
 | [e,a1,a2],_,_=>exact qUn yM pPA wgA frA zU qP qZ zbA yO dvR dvP h o t P D S O U C st V Z F I L H W vq Y e a1 a2
 | [e,a1,a2,a3],_,_=>exact qUo yM pPA wgA frA zU qP qZ zbA yO dvR dvP h o t P D S O U C st V Z F I L H W vq Y e a1 a2 a3
 | [e,a1,a2,a3,f],_,_=>exact qUp yM pPA wgA frA zU qP qZ zbA yO dvR dvP h o t P D S O U C st V Z F I L H W vq Y e a1 a2 a3 f
 | [e,a1,a2,a3,f,j],_,_=>exact qUq yM pPA wgA frA zU qP qZ zbA yO dvR dvP h o t P D S O U C st V Z F I L H W vq Y e a1 a2 a3 f j
 | e::a1::a2::a3::f::j::y::l,_,h=>simp only[List.length_cons]at h;omega
theorem qVa(h o t:List Int)(G:List Bd)(P D S:Int)(O U:List Nz)(C st V:Raw)(Z:Int)(F I:List (List Int))(L H W vq Y:Int)(k:1≤G.length)(q:G.length≤6):((qK Tryz.prog (evD Tryz.prog (odT [(61,odR [tbT] (xG yM pPA)),(78,odR [.list (.list nT),.list nT] (vG 8 wgA)),(47,kcT (vE frA) true),(70,odR [.list zL,.list zL] (qF zU qP qZ)),(80,kcT (yC zbA yO dvR dvP) true)]) (loT []) 60) 32 [.ag (tbC h o t G P D S O U C st V Z F I),vi L,vi H,vi W,vi vq,vi Y] []).bind qQ).run=scA yM pPA wgA frA zU qP qZ zbA yO dvR dvP 8 G.length h o t G P D S O U C st V Z F I L H W vq Y:=by
 match G,k,q with
 | [e],_,_=>exact qUr yM pPA wgA frA zU qP qZ zbA yO dvR dvP h o t P D S O U C st V Z F I L H W vq Y e
 | [e,a1],_,_=>exact qUs yM pPA wgA frA zU qP qZ zbA yO dvR dvP h o t P D S O U C st V Z F I L H W vq Y e a1
 | [e,a1,a2],_,_=>exact qUt yM pPA wgA frA zU qP qZ zbA yO dvR dvP h o t P D S O U C st V Z F I L H W vq Y e a1 a2
 | [e,a1,a2,a3],_,_=>exact qUu yM pPA wgA frA zU qP qZ zbA yO dvR dvP h o t P D S O U C st V Z F I L H W vq Y e a1 a2 a3
 | [e,a1,a2,a3,f],_,_=>exact qUv yM pPA wgA frA zU qP qZ zbA yO dvR dvP h o t P D S O U C st V Z F I L H W vq Y e a1 a2 a3 f
 | [e,a1,a2,a3,f,j],_,_=>exact qUw yM pPA wgA frA zU qP qZ zbA yO dvR dvP h o t P D S O U C st V Z F I L H W vq Y e a1 a2 a3 f j
 | e::a1::a2::a3::f::j::y::l,_,h=>simp only[List.length_cons]at h;omega
noncomputable abbrev skA(Z:Int)(F I:List (List Int))(L nn Y:Int)(ws:List Nz)(k b:Nat)(acc:List Raw):List Raw⊕Nat:=skL frA zU qP qZ yO dvR dvP Z F I L nn Y ws k b acc
noncomputable abbrev lkE(h o t:List Int)(G:List Bd)(P D S:Int)(O U:List Nz)(C st V:Raw)(Z:Int)(F I:List (List Int))(L H W vq Y:Int):Nat:=lkC yM pPA h o t G P D S O U C st V Z F I L H W vq Y
noncomputable def lkR(h o t:List Int)(G:List Bd)(P D S:Int)(O U:List Nz)(C st V:Raw)(Z:Int)(F I:List (List Int))(L H W vq Y:Int):List Raw⊕Nat:=bif Nat.beq (lkE h o t G P D S O U C st V Z F I L H W vq Y) 0 then skA Z F I L (.ofNat G.length) Y (wgA h o t H W vq) G.length 0 []else .inr (lkE h o t G P D S O U C st V Z F I L H W vq Y)
noncomputable def isR:List Raw⊕Nat→Bool
 | .inl _=>true
 | .inr _=>false
noncomputable def lR:List Raw⊕Nat→List Rt
 | .inl l=>l.map toT
 | .inr _=>[]
noncomputable def eR:List Raw⊕Nat→Nat
 | .inl _=>0
 | .inr e=>e
noncomputable abbrev jD(h o t:List Int)(G:List Bd)(P D S:Int)(O U:List Nz)(C st V:Raw)(Z:Int)(F I:List (List Int))(L H W vq Y:Int):Bool:=isR (lkR h o t G P D S O U C st V Z F I L H W vq Y)
noncomputable abbrev lkL(h o t:List Int)(G:List Bd)(P D S:Int)(O U:List Nz)(C st V:Raw)(Z:Int)(F I:List (List Int))(L H W vq Y:Int):List Rt:=lR (lkR h o t G P D S O U C st V Z F I L H W vq Y)
noncomputable abbrev lkP(h o t:List Int)(G:List Bd)(P D S:Int)(O U:List Nz)(C st V:Raw)(Z:Int)(F I:List (List Int))(L H W vq Y:Int):Nat:=eR (lkR h o t G P D S O U C st V Z F I L H W vq Y)-1
noncomputable def oLk(f:LF Bool)(z:LF (List Rt))(A:LF Nat):List T→DT (T×Bool)
 | [.ag [.ls .a (.int .i64) h,.ls .a (.int .i64) o,.ls .a (.int .i64) t,.ls .a (.prod (.int .u8) (.prod (.int .i64) (.int .i64))) G,.v (.int .i64 P),.v (.int .i64 D),.v (.int .i64 S),.ls .a (.prod (.int .i64) zL) O,.ls .a (.prod (.int .i64) zL) U,.v (.bool e),.ls .a .lim C,.ls .a .lim am,.v (.bool y),.ls .a .lim sl,.ls .a .lim sm,.v (.bool j),.ls .a .lim k,.ls .a .lim q,.v (.int .i64 Z),.ls .a (.list (.int .i64)) F,.ls .a (.list (.int .i64)) I],.v (.int .i64 L),.v (.int .i64 H),.v (.int .i64 W),.v (.int .i64 vq),.v (.int .i64 Y)]=>grd (Nat.blt F.length 9223372036854775807) (.ite (f h o t G P D S O U ⟨e,C,am⟩ ⟨y,sl,sm⟩ ⟨j,k,q⟩ Z F I L H W vq Y) (.ret (.tu [.ls .a zL (z h o t G P D S O U ⟨e,C,am⟩ ⟨y,sl,sm⟩ ⟨j,k,q⟩ Z F I L H W vq Y),.v (.int .i64 (.ofNat 0))],true)) (.ret (.tu [.ls .a zL [],.v (.int .i64 (.ofNat (A h o t G P D S O U ⟨e,C,am⟩ ⟨y,sl,sm⟩ ⟨j,k,q⟩ Z F I L H W vq Y+1)))],true)))
 | _=> .no
theorem qDr:∀l:List Raw,flR l=jW .a zL (l.map toT)
 | []=>rfl
 | x::l=>by
  show([.v (.bool x.neg),.ls .a .lim x.ln,.ls .a .lim x.ld]:List T)++flR l=qD .a zL (toT x)++jW .a zL (l.map toT);rw[qDr l];rfl
theorem zSl(k:Nat):∀l:List Raw,(flR l).all (clean (k+1))=true
 | []=>rfl
 | x::l=>by
  show(([.v (.bool x.neg),.ls .a .lim x.ln,.ls .a .lim x.ld]:List T)++flR l).all (clean (k+1))=true;rw[List.all_append,zSl k l];rfl
theorem zXp{okD:List Rt→List Rt→Bool}{dR:List Rt→List Rt→Raw}{dP:List Rt→List Rt→Nat}{okV:Raw→Raw→Bool}{vR:Raw→Raw→Raw}{vP:Raw→Raw→Nat}{fr:Int→Raw}{Z:Int}{F I:List (List Int)}{L nn Y:Int}{ws:List Nz}:∀(k b:Nat)(acc:List Raw){e:Nat},skL fr okD dR dP okV vR vP Z F I L nn Y ws k b acc= .inr e→1≤e
 | 0,_,_,_,h=>by cases h
 | k+1,b,acc,e,h=>by
  simp only[skL]at h;cases H:sk1 fr okD dR dP okV vR vP Z F I L nn Y ws b with
  | inl x=>rw[H]at h;exact zXp k (b+1) _ h
  | inr y=>
   rw[H]at h;cases h;unfold sk1 at H;cases f:okD (scW ws) (scV fr F I L nn Y b ws)<;>rw[f]at H
   ·cases H;omega
   ·cases j:okV (dR (scW ws) (scV fr F I L nn Y b ws)) (fr Z)<;>rw[j]at H<;>cases H;omega
theorem qYg:wB Tryz.prog (odT [(61,odR [tbT] (xG yM pPA)),(78,fun _=> .no)]):=zT (zT yG fun az e nw h k=>by cases h) (jV kPcX)
theorem qOt{Z:Int}(h:1≤Z):zbA (frA Z)=false:=by
 have e:val (Raw.of (Z:Rat)).ln=Z.natAbs:=by
  show val (kU (Z:Rat).num.natAbs)=_;rw[vQ,Rat.num_intCast]
 unfold zbA;rw[e];exact qTc (by omega)
theorem qRn{B:Bm}{r:Rd}{l:List Raw}{t:T}{v:Value}(hv:Rep B r (.tu [.sl (flR l) l.length,t]) v):Rep B r (.tu [.ls .a zL (l.map toT),t]) v:=by
 obtain⟨vs,rfl,e⟩:=hv.tuI;match vs,e with
 | [a,b],⟨k1,k2,_⟩=>exact Rep.mkTu (vs:=[a,b]) ⟨zXq (A:=zL) (by kernel_rfl) (by rw[←qDr,List.length_map];exact k1),k2,trivial⟩
theorem zMp(h o t:List Int)(G:List Bd)(P D S:Int)(O U:List Nz)(C st V:Raw)(Z:Int)(F I:List (List Int))(L H W vq Y:Int)(k m:Nat)(hr:F.length<9223372036854775807)(hT:Tab h o t G S Z F I)(E:Nat.beq (lkE h o t G P D S O U C st V Z F I L H W vq Y) 0=true)(M:(wgA h o t H W vq).length=m)(K:((qK Tryz.prog (evD Tryz.prog (odT [(61,odR [tbT] (xG yM pPA)),(78,odR [.list (.list nT),.list nT] (vG m wgA)),(47,kcT (vE frA) true),(70,odR [.list zL,.list zL] (qF zU qP qZ)),(80,kcT (yC zbA yO dvR dvP) true)]) (loT []) 60) 32 [.ag (tbC h o t G P D S O U C st V Z F I),vi L,vi H,vi W,vi vq,vi Y] []).bind qQ).run=scA yM pPA wgA frA zU qP qZ zbA yO dvR dvP m G.length h o t G P D S O U C st V Z F I L H W vq Y):KnP Tryz.prog k 32 [.ag (tbC h o t G P D S O U C st V Z F I),vi L,vi H,vi W,vi vq,vi Y] (bif jD h o t G P D S O U C st V Z F I L H W vq Y then .tu [.ls .a zL (lkL h o t G P D S O U C st V Z F I L H W vq Y),vn 0]else .tu [.ls .a zL [],vn (lkP h o t G P D S O U C st V Z F I L H W vq Y+1)]) true:=by
 obtain⟨_,k1,k2,Q,R,X⟩:=qEy yM pPA h o t G P D S O U C st V Z F I L H W vq Y E;have q:=K.trans (X wgA frA zU qP qZ zbA yO dvR dvP m hr);have A:=hT.mod.grid;have J:exL (wgA h o t H W vq) m 0=wgA h o t H W vq:=by rw[zTa _ m 0 (by omega)];rfl
 have N:inV (h.length*o.length*t.length) (wgA h o t H W vq):=by
  unfold wgA wgR;rw[xU A];exact jCv ofA muA frA A
 rw[J,qHr (h:=h) (o:=o) (t:=t) (S:=S) frA zU qP qZ zbA yO dvR dvP hT k1 k2 Q R N (qOt hT.sc1) G.length 0 [] (by omega),xU A,M,kG]at q
 simp only[gd,Bool.and_self,ze]at q;have f:lkR h o t G P D S O U C st V Z F I L H W vq Y=skA Z F I L (.ofNat G.length) Y (wgA h o t H W vq) G.length 0 []:=by unfold lkR;rw[E];rfl
 cases hs:skA Z F I L (.ofNat G.length) Y (wgA h o t H W vq) G.length 0 []with
 | inl l=>
  rw[show skL frA zU qP qZ yO dvR dvP Z F I L (.ofNat G.length) Y (wgA h o t H W vq) G.length 0 []= .inl l from hs]at q;have j:jD h o t G P D S O U C st V Z F I L H W vq Y=true:=by unfold jD;rw[f,hs];rfl
  have y:lkL h o t G P D S O U C st V Z F I L H W vq Y=l.map toT:=by unfold lkL;rw[f,hs];rfl
  rw[j,y];have z:(([.ag (tbC h o t G P D S O U C st V Z F I),vi L,vi H,vi W,vi vq,vi Y]:List T).all (clean 12)&&clean 12 (.tu [.sl (flR l) l.length,vn 0]))=true:=by
   show(true&&((flR l).all (clean 10)&&true))=true;rw[zSl 9];rfl
  exact(kF (cz:=[.ag (tbC h o t G P D S O U C st V Z F I),vi L,vi H,vi W,vi vq,vi Y]) yT (qGn m) qA q z k).res fun B r v hv=>qRn hv
 | inr e=>
  rw[show skL frA zU qP qZ yO dvR dvP Z F I L (.ofNat G.length) Y (wgA h o t H W vq) G.length 0 []= .inr e from hs]at q;have h1:=zXp G.length 0 [] hs;have j:jD h o t G P D S O U C st V Z F I L H W vq Y=false:=by unfold jD;rw[f,hs];rfl
  have y:lkP h o t G P D S O U C st V Z F I L H W vq Y+1=e:=by unfold lkP;rw[f,hs];show e-1+1=e;omega
  rw[j,y];exact(kF (cz:=[.ag (tbC h o t G P D S O U C st V Z F I),vi L,vi H,vi W,vi vq,vi Y]) yT (qGn m) qA q rfl k).res fun B r v hv=>zNx hv
theorem zOb{of_:Int→Int→Raw}{mu:Raw→Raw→Raw}{c:List Int}{x:Int}:∀l:List Nz,(wF of_ mu c x l).length=bif zGp c x then l.length else 2*l.length
 | []=>by cases zGp c x<;>rfl
 | y::l=>by
  show(w1 of_ mu c x y++wF of_ mu c x l).length=_;rw[List.length_append,zOb l];unfold w1;cases zGp c x with
  | true=>simp only[ze,List.length_cons,List.length_nil];omega
  | false=>simp only[zf,List.length_cons,List.length_nil];omega
theorem jAu{h o t:List Int}{x0 x1 x2:Int}(j:icE [h,o,t]=0):(wgA h o t x0 x1 x2).length=1∨(wgA h o t x0 x1 x2).length=2∨(wgA h o t x0 x1 x2).length=4∨(wgA h o t x0 x1 x2).length=8:=by
 have e:wgA h o t x0 x1 x2=wgF ofA muA frA h o t x0 x1 x2:=by unfold wgA wgR;rw[xU j];rfl
 rw[e];unfold wgF;rw[zOb,zOb,zOb];have f:[((0:Int),toT (frA 1))].length=1:=rfl;rw[f];cases zGp h x0<;>cases zGp o x1<;>cases zGp t x2<;>simp
theorem kLk:∀az N nw,(oLk jD lkL lkP az).run=some (N,nw)→∀k,KnP Tryz.prog k 32 az N nw:=by
 intro az N nw hh k;unfold oLk at hh;split at hh
 ·rename_i h o t G P D S O U f C am A sl sm j y z Z F I L H W vq Y;obtain⟨X,M⟩:=zS hh;have hr:=jC X;have main:KnP Tryz.prog k 32 [.ag (tbC h o t G P D S O U ⟨f,C,am⟩ ⟨A,sl,sm⟩ ⟨j,y,z⟩ Z F I),vi L,vi H,vi W,vi vq,vi Y] (bif jD h o t G P D S O U ⟨f,C,am⟩ ⟨A,sl,sm⟩ ⟨j,y,z⟩ Z F I L H W vq Y then .tu [.ls .a zL (lkL h o t G P D S O U ⟨f,C,am⟩ ⟨A,sl,sm⟩ ⟨j,y,z⟩ Z F I L H W vq Y),vn 0]else .tu [.ls .a zL [],vn (lkP h o t G P D S O U ⟨f,C,am⟩ ⟨A,sl,sm⟩ ⟨j,y,z⟩ Z F I L H W vq Y+1)]) true:=by
   cases E:Nat.beq (lkE h o t G P D S O U ⟨f,C,am⟩ ⟨A,sl,sm⟩ ⟨j,y,z⟩ Z F I L H W vq Y) 0 with
   | false=>
    have q:=qXo yM pPA h o t G P D S O U ⟨f,C,am⟩ ⟨A,sl,sm⟩ ⟨j,y,z⟩ Z F I L H W vq Y hr E;have e:lkR h o t G P D S O U ⟨f,C,am⟩ ⟨A,sl,sm⟩ ⟨j,y,z⟩ Z F I L H W vq Y= .inr (lkE h o t G P D S O U ⟨f,C,am⟩ ⟨A,sl,sm⟩ ⟨j,y,z⟩ Z F I L H W vq Y):=by unfold lkR;rw[E];rfl
    have Q:jD h o t G P D S O U ⟨f,C,am⟩ ⟨A,sl,sm⟩ ⟨j,y,z⟩ Z F I L H W vq Y=false:=by unfold jD;rw[e];rfl
    have T:lkE h o t G P D S O U ⟨f,C,am⟩ ⟨A,sl,sm⟩ ⟨j,y,z⟩ Z F I L H W vq Y≠0:=fun h=>by rw[h]at E;cases E
    have R:lkP h o t G P D S O U ⟨f,C,am⟩ ⟨A,sl,sm⟩ ⟨j,y,z⟩ Z F I L H W vq Y+1=lkE h o t G P D S O U ⟨f,C,am⟩ ⟨A,sl,sm⟩ ⟨j,y,z⟩ Z F I L H W vq Y:=by unfold lkP;rw[e];exact Nat.sub_add_cancel (Nat.one_le_iff_ne_zero.2 T)
    rw[Q,R];exact(kF (cz:=[.ag (tbC h o t G P D S O U ⟨f,C,am⟩ ⟨A,sl,sm⟩ ⟨j,y,z⟩ Z F I),vi L,vi H,vi W,vi vq,vi Y]) yT qYg qA q rfl k).res fun B r v hv=>zNx hv
   | true=>
    have ho:=(qEy yM pPA h o t G P D S O U ⟨f,C,am⟩ ⟨A,sl,sm⟩ ⟨j,y,z⟩ Z F I L H W vq Y E).1;have hT:Tab h o t G S Z F I:=qIe kyF h o t G P D S O U ⟨f,C,am⟩ ⟨A,sl,sm⟩ ⟨j,y,z⟩ Z F I (qL.1 ho);have a1:=hT.mod.av1;have K:=hT.mod.av6;rcases jAu (x0:=H) (x1:=W) (x2:=vq) hT.mod.grid with J | J | J | J
    ·exact zMp h o t G P D S O U ⟨f,C,am⟩ ⟨A,sl,sm⟩ ⟨j,y,z⟩ Z F I L H W vq Y k 1 hr hT E J (qUx h o t G P D S O U ⟨f,C,am⟩ ⟨A,sl,sm⟩ ⟨j,y,z⟩ Z F I L H W vq Y a1 K)
    ·exact zMp h o t G P D S O U ⟨f,C,am⟩ ⟨A,sl,sm⟩ ⟨j,y,z⟩ Z F I L H W vq Y k 2 hr hT E J (qUy h o t G P D S O U ⟨f,C,am⟩ ⟨A,sl,sm⟩ ⟨j,y,z⟩ Z F I L H W vq Y a1 K)
    ·exact zMp h o t G P D S O U ⟨f,C,am⟩ ⟨A,sl,sm⟩ ⟨j,y,z⟩ Z F I L H W vq Y k 4 hr hT E J (qUz h o t G P D S O U ⟨f,C,am⟩ ⟨A,sl,sm⟩ ⟨j,y,z⟩ Z F I L H W vq Y a1 K)
    ·exact zMp h o t G P D S O U ⟨f,C,am⟩ ⟨A,sl,sm⟩ ⟨j,y,z⟩ Z F I L H W vq Y k 8 hr hT E J (qVa h o t G P D S O U ⟨f,C,am⟩ ⟨A,sl,sm⟩ ⟨j,y,z⟩ Z F I L H W vq Y a1 K)
  simp only[DT.run]at M;cases e:jD h o t G P D S O U ⟨f,C,am⟩ ⟨A,sl,sm⟩ ⟨j,y,z⟩ Z F I L H W vq Y<;>rw[e]at M main<;>cases M<;>exact main
 ·cases hh
noncomputable def exR(l:List Rt):Nat→Nat→List Rt
 | 0,_=>[]
 | m+1,i=>rI l i::exR l m (i+1)
noncomputable def wZ(n:Nat)(f:LF Bool)(z:LF (List Rt))(A:LF Nat):List T→DT (T×Bool)
 | [.ag [.ls .a (.int .i64) h,.ls .a (.int .i64) o,.ls .a (.int .i64) t,.ls .a (.prod (.int .u8) (.prod (.int .i64) (.int .i64))) G,.v (.int .i64 P),.v (.int .i64 D),.v (.int .i64 S),.ls .a (.prod (.int .i64) zL) O,.ls .a (.prod (.int .i64) zL) U,.v (.bool e),.ls .a .lim C,.ls .a .lim am,.v (.bool y),.ls .a .lim sl,.ls .a .lim sm,.v (.bool j),.ls .a .lim k,.ls .a .lim q,.v (.int .i64 Z),.ls .a (.list (.int .i64)) F,.ls .a (.list (.int .i64)) I],.v (.int .i64 L),.v (.int .i64 H),.v (.int .i64 W),.v (.int .i64 vq),.v (.int .i64 Y)]=>grd (Nat.blt F.length 9223372036854775807) (.ite (f h o t G P D S O U ⟨e,C,am⟩ ⟨y,sl,sm⟩ ⟨j,k,q⟩ Z F I L H W vq Y) (grd (Nat.beq G.length n) (.ret (.tu [.ls .a zL (exR (z h o t G P D S O U ⟨e,C,am⟩ ⟨y,sl,sm⟩ ⟨j,k,q⟩ Z F I L H W vq Y) n 0),.v (.int .i64 (.ofNat 0))],true))) (.ret (.tu [.ls .a zL [],.v (.int .i64 (.ofNat (A h o t G P D S O U ⟨e,C,am⟩ ⟨y,sl,sm⟩ ⟨j,k,q⟩ Z F I L H W vq Y+1)))],true)))
 | _=> .no
theorem qDl:∀(l:List Rt)(m i:Nat),i+m=l.length→exR l m i=l.drop i
 | l,0,i,h=>by
  obtain rfl:i=l.length:=by omega
  rw[List.drop_length];rfl
 | l,m+1,i,h=>by
  have f:i<l.length:=by omega
  have e:rI l i=l[i]:=by rw[rI,qX];simp[f]
  rw[List.drop_eq_getElem_cons f,←e];show rI l i::exR l m (i+1)=_;rw[qDl l m (i+1) (by omega)]
theorem zXo{okD:List Rt→List Rt→Bool}{dR:List Rt→List Rt→Raw}{dP:List Rt→List Rt→Nat}{okV:Raw→Raw→Bool}{vR:Raw→Raw→Raw}{vP:Raw→Raw→Nat}{fr:Int→Raw}{Z:Int}{F I:List (List Int)}{L nn Y:Int}{ws:List Nz}:∀(k b:Nat)(acc:List Raw){l:List Raw},skL fr okD dR dP okV vR vP Z F I L nn Y ws k b acc= .inl l→l.length=acc.length+k
 | 0,_,_,_,h=>by cases h;rw[List.length_reverse];rfl
 | k+1,b,acc,l,h=>by
  simp only[skL]at h;cases H:sk1 fr okD dR dP okV vR vP Z F I L nn Y ws b with
  | inl x=>rw[H]at h;have:=zXo k (b+1) _ h;rw[List.length_cons]at this;omega
  | inr y=>rw[H]at h;cases h
theorem zWg(h o t:List Int)(G:List Bd)(P D S:Int)(O U:List Nz)(C st V:Raw)(Z:Int)(F I:List (List Int))(L H W vq Y:Int)(f:jD h o t G P D S O U C st V Z F I L H W vq Y=true):(lkL h o t G P D S O U C st V Z F I L H W vq Y).length=G.length:=by
 unfold jD at f;unfold lkL;cases e:lkR h o t G P D S O U C st V Z F I L H W vq Y with
 | inr k=>rw[e]at f;cases f
 | inl l=>
  show(l.map toT).length=_;rw[List.length_map];unfold lkR at e;cases j:Nat.beq (lkE h o t G P D S O U C st V Z F I L H W vq Y) 0 with
  | false=>rw[j]at e;cases e
  | true=>rw[j]at e;have:=zXo G.length 0 [] e;rw[this];exact Nat.zero_add _
theorem kLkX(n:Nat):∀az B nw,(wZ n jD lkL lkP az).run=some (B,nw)→∀k,KnP Tryz.prog k 32 az B nw:=by
 intro az B nw hh k;refine kLk az B nw ?_ k;unfold wZ at hh;unfold oLk;split at hh
 ·rename_i h o t G P D S O U j C am A sl sm q y z Z F I L H W vq Y;obtain⟨K,f⟩:=zS hh;simp only[grd,DT.run,K,ze];simp only[DT.run]at f;cases e:jD h o t G P D S O U ⟨j,C,am⟩ ⟨A,sl,sm⟩ ⟨q,y,z⟩ Z F I L H W vq Y with
  | true=>
   rw[e]at f;simp only[ze]at f ⊢;obtain⟨g1,E⟩:=zS f;have J:exR (lkL h o t G P D S O U ⟨j,C,am⟩ ⟨A,sl,sm⟩ ⟨q,y,z⟩ Z F I L H W vq Y) n 0=lkL h o t G P D S O U ⟨j,C,am⟩ ⟨A,sl,sm⟩ ⟨q,y,z⟩ Z F I L H W vq Y:=by
    have:=zWg h o t G P D S O U ⟨j,C,am⟩ ⟨A,sl,sm⟩ ⟨q,y,z⟩ Z F I L H W vq Y e;rw[qDl _ n 0 (by rw[this,Nat.zero_add];exact(zY g1).symm),List.drop_zero]
   rw[J]at E;exact E
  | false=>rw[e]at f;exact f
 ·cases hh
end Go.Proofs.YtdfmdiakjdggbaaGreatDoor

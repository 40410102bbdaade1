import Derived.Test.YtjnpoeilfdbaaaaGreatDoorBaseH
set_option linter.unusedVariables false
set_option linter.unusedSimpArgs false
set_option linter.unnecessarySimpa false
namespace Go.Proofs.YtjnpoeilfdbaaaaGreatDoor
open Go Go.Gv Go.Ev IntKind
set_option maxRecDepth 1000000
noncomputable def la66:List T:=[(.ag [(sL [(i (-100)),(i 0),(i 100)]),(sL [(i 0),(i 10)]),(sL [(i 0)]),(.sl [(.v (.int .u8 0)),(i 0),(i 0),(.v (.int .u8 1)),(i 10),(i 20)] 2),(i 5),(i 50),(i 1),(.sl [(i 0),ff,(sL [(w 1)]),(sL [])] 1),(.sl [(i 0),ff,(sL [(w 1)]),(sL [])] 1),ff,(sL [(w 1)]),(sL [(w 10)]),ff,nl,nl,ff,nl,nl]),(i 10)]
noncomputable def lt66:T:=(.tu [(.ag [(sL [(i (-100)),(i 0),(i 100)]),(sL [(i 0),(i 10)]),(sL [(i 0)]),(.sl [(.v (.int .u8 0)),(i 0),(i 0),(.v (.int .u8 1)),(i 10),(i 20)] 2),(i 5),(i 50),(i 1),(.sl [(i 0),ff,(sL [(w 1)]),(sL [])] 1),(.sl [(i 0),ff,(sL [(w 1)]),(sL [])] 1),ff,(sL [(w 1)]),(sL [(w 10)]),ff,nl,nl,ff,nl,nl,(i 10),(sL [(sL [(i 0),(i 1)]),(sL [(i 10),(i 11)]),(sL [(i 9),(i 10)]),(sL [(i 1),(i 2)])]),(sL [(sL [(i 0),(i 0),(i 0),(i 0),(i 1),(i 1),(i 2),(i 2),(i 0),(i 0),(i 3),(i 3)])])]),(i 0)])
theorem lr66:zQ Tryz.prog (evC Tryz.prog skE (orF Tryz.prog (zR qWs) pfs) 1000) 0 19 la66=some (lt66,true):=by kernel_rfl
noncomputable def qWt:List (Nat×(List T→Option (T×Bool))):=(19,qM la66 (lt66,true))::qWs
theorem lo66:zL Tryz.prog (zR qWt):=zL.cons lo65 (zS (by kernel_rfl) zW lo65 pfs lr66) (by kernel_rfl)
noncomputable def la67:List T:=[(.ag [(sL [(i (-100)),(i 0),(i 100)]),(sL [(i 0),(i 10)]),(sL [(i 0)]),(.sl [(.v (.int .u8 0)),(i 0),(i 0),(.v (.int .u8 1)),(i 10),(i 20)] 2),(i 5),(i 50),(i 1),(.sl [(i 0),ff,(sL [(w 1)]),(sL [])] 1),(.sl [(i 0),ff,(sL [(w 1)]),(sL [])] 1),ff,(sL [(w 1)]),(sL [(w 10)]),ff,nl,nl,ff,nl,nl,(i 10),(sL [(sL [(i 0),(i 1)]),(sL [(i 10),(i 11)]),(sL [(i 9),(i 10)]),(sL [(i 1),(i 2)])]),(sL [(sL [(i 0),(i 0),(i 0),(i 0),(i 1),(i 1),(i 2),(i 2),(i 0),(i 0),(i 3),(i 3)])])])]
noncomputable def lt67:T:=(i 0)
theorem lr67:zQ Tryz.prog (evC Tryz.prog skE (orF Tryz.prog (zR qWt) pfs) 1000) 0 22 la67=some (lt67,true):=by kernel_rfl
noncomputable def qWu:List (Nat×(List T→Option (T×Bool))):=(22,qM la67 (lt67,true))::qWt
theorem lo67:zL Tryz.prog (zR qWu):=zL.cons lo66 (zS (by kernel_rfl) zW lo66 pfs lr67) (by kernel_rfl)
noncomputable def la68:List T:=[(sL [(sL [(i (-100)),(i 0),(i 100)]),(sL [(i 0),(i 10)]),(sL [(i 0)])]),(sL [(i 100),(i 10),(i 0)])]
noncomputable def lt68:T:=(.tu [(.sl [(i 5),ff,(sL [(w 1)]),(sL [])] 1),(i 0)])
theorem lr68:zQ Tryz.prog (evC Tryz.prog skE (orF Tryz.prog (zR qWu) pfs) 1000) 0 28 la68=some (lt68,true):=by kernel_rfl
noncomputable def qWv:List (Nat×(List T→Option (T×Bool))):=(28,qM la68 (lt68,true))::qWu
theorem lo68:zL Tryz.prog (zR qWv):=zL.cons lo67 (zS (by kernel_rfl) zW lo67 pfs lr68) (by kernel_rfl)
noncomputable def la69:List T:=[(i 0),(.fp [(.sl [(i 5),ff,(sL [(w 1)]),(sL [])] 1)]),(.fp [(sL [(i (-100)),(i 0),(i 100)]),(sL [(i 0),(i 10)]),(sL [(i 0)]),(.sl [(.v (.int .u8 0)),(i 0),(i 0),(.v (.int .u8 1)),(i 10),(i 20)] 2),(i 5),(i 50),(i 1),(.sl [(i 0),ff,(sL [(w 1)]),(sL [])] 1),(.sl [(i 0),ff,(sL [(w 1)]),(sL [])] 1),ff,(sL [(w 1)]),(sL [(w 10)]),ff,nl,nl,ff,nl,nl,(i 10),(sL [(sL [(i 0),(i 1)]),(sL [(i 10),(i 11)]),(sL [(i 9),(i 10)]),(sL [(i 1),(i 2)])]),(sL [(sL [(i 0),(i 0),(i 0),(i 0),(i 1),(i 1),(i 2),(i 2),(i 0),(i 0),(i 3),(i 3)])])]),(.fp [(i 1)]),(.fp [(i 2)]),(.fp [(i 0)])]
noncomputable def lt69:T:=(.tu [(.ag [ff,(sL [(w 1)]),(sL [(w 10)])]),(i 0)])
theorem lr69:zQ Tryz.prog (evC Tryz.prog skE (orF Tryz.prog (zR qWv) pfs) 1000) 0 29 la69=some (lt69,true):=by kernel_rfl
noncomputable def qWw:List (Nat×(List T→Option (T×Bool))):=(29,qM la69 (lt69,true))::qWv
theorem lo69:zL Tryz.prog (zR qWw):=zL.cons lo68 (zS (by kernel_rfl) zW lo68 pfs lr69) (by kernel_rfl)
noncomputable def la70:List T:=[(i 1),(.fp [(.sl [(i 5),ff,(sL [(w 1)]),(sL [])] 1)]),(.fp [(sL [(i (-100)),(i 0),(i 100)]),(sL [(i 0),(i 10)]),(sL [(i 0)]),(.sl [(.v (.int .u8 0)),(i 0),(i 0),(.v (.int .u8 1)),(i 10),(i 20)] 2),(i 5),(i 50),(i 1),(.sl [(i 0),ff,(sL [(w 1)]),(sL [])] 1),(.sl [(i 0),ff,(sL [(w 1)]),(sL [])] 1),ff,(sL [(w 1)]),(sL [(w 10)]),ff,nl,nl,ff,nl,nl,(i 10),(sL [(sL [(i 0),(i 1)]),(sL [(i 10),(i 11)]),(sL [(i 9),(i 10)]),(sL [(i 1),(i 2)])]),(sL [(sL [(i 0),(i 0),(i 0),(i 0),(i 1),(i 1),(i 2),(i 2),(i 0),(i 0),(i 3),(i 3)])])]),(.fp [(i 1)]),(.fp [(i 2)]),(.fp [(i 0)])]
noncomputable def lt70:T:=(.tu [(.ag [ff,(sL [(w 1)]),(sL [(w 5)])]),(i 0)])
theorem lr70:zQ Tryz.prog (evC Tryz.prog skE (orF Tryz.prog (zR qWw) pfs) 1000) 0 29 la70=some (lt70,true):=by kernel_rfl
noncomputable def qWx:List (Nat×(List T→Option (T×Bool))):=(29,qM la70 (lt70,true))::qWw
theorem lo70:zL Tryz.prog (zR qWx):=zL.cons lo69 (zS (by kernel_rfl) zW lo69 pfs lr70) (by kernel_rfl)
noncomputable def la71:List T:=[(.ag [(sL [(i (-100)),(i 0),(i 100)]),(sL [(i 0),(i 10)]),(sL [(i 0)]),(.sl [(.v (.int .u8 0)),(i 0),(i 0),(.v (.int .u8 1)),(i 10),(i 20)] 2),(i 5),(i 50),(i 1),(.sl [(i 0),ff,(sL [(w 1)]),(sL [])] 1),(.sl [(i 0),ff,(sL [(w 1)]),(sL [])] 1),ff,(sL [(w 1)]),(sL [(w 10)]),ff,nl,nl,ff,nl,nl,(i 10),(sL [(sL [(i 0),(i 1)]),(sL [(i 10),(i 11)]),(sL [(i 9),(i 10)]),(sL [(i 1),(i 2)])]),(sL [(sL [(i 0),(i 0),(i 0),(i 0),(i 1),(i 1),(i 2),(i 2),(i 0),(i 0),(i 3),(i 3)])])]),(i 1),(i 100),(i 10),(i 0),(i 0)]
noncomputable def lt71:T:=(.tu [(.sl [ff,(sL [(w 1)]),(sL [(w 10)]),ff,(sL [(w 1)]),(sL [(w 5)])] 2),(i 0)])
theorem lr71:zQ Tryz.prog (evC Tryz.prog skE (orF Tryz.prog (zR qWx) pfs) 1000) 0 10 la71=some (lt71,true):=by kernel_rfl
noncomputable def qWy:List (Nat×(List T→Option (T×Bool))):=(10,qM la71 (lt71,true))::qWx
theorem lo71:zL Tryz.prog (zR qWy):=zL.cons lo70 (zS (by kernel_rfl) zW lo70 pfs lr71) (by kernel_rfl)
noncomputable def la72:List T:=[(.sl [ff,(sL [(w 1)]),(sL [(w 10)]),ff,(sL [(w 1)]),(sL [(w 5)])] 2),(sL [tt,tt])]
noncomputable def lt72:T:=(.tu [(i 0),(i 0)])
theorem lr72:zQ Tryz.prog (evC Tryz.prog skE (orF Tryz.prog (zR qWy) pfs) 1000) 0 56 la72=some (lt72,true):=by kernel_rfl
noncomputable def qWz:List (Nat×(List T→Option (T×Bool))):=(56,qM la72 (lt72,true))::qWy
theorem lo72:zL Tryz.prog (zR qWz):=zL.cons lo71 (zS (by kernel_rfl) zW lo71 pfs lr72) (by kernel_rfl)
noncomputable def la73:List T:=[(sL [(sL [(i (-100)),(i 0),(i 100)]),(sL [(i 0),(i 10)]),(sL [(i 0)])]),(sL [(i 50),(i 5),(i 0)])]
noncomputable def lt73:T:=(.tu [(.sl [(i 2),ff,(sL [(w 1)]),(sL [(w 4)]),(i 3),ff,(sL [(w 1)]),(sL [(w 4)]),(i 4),ff,(sL [(w 1)]),(sL [(w 4)]),(i 5),ff,(sL [(w 1)]),(sL [(w 4)])] 4),(i 0)])
theorem lr73:zQ Tryz.prog (evC Tryz.prog skE (orF Tryz.prog (zR qWz) pfs) 1000) 0 28 la73=some (lt73,true):=by kernel_rfl
noncomputable def qXa:List (Nat×(List T→Option (T×Bool))):=(28,qM la73 (lt73,true))::qWz
theorem lo73:zL Tryz.prog (zR qXa):=zL.cons lo72 (zS (by kernel_rfl) zW lo72 pfs lr73) (by kernel_rfl)
noncomputable def la74:List T:=[(.sl [ff,(sL [(w 1)]),(sL [(w 4)]),ff,(sL [(w 1)]),(sL [(w 4)]),ff,(sL [(w 1)]),(sL [(w 4)]),ff,(sL [(w 1)]),(sL [(w 4)])] 4),(.sl [ff,(sL [(w 10)]),(sL []),ff,(sL [(w 9)]),(sL []),ff,(sL []),(sL []),ff,(sL [(w 1)]),(sL [])] 4)]
noncomputable def lt74:T:=(.tu [(.ag [ff,(sL [(w 5)]),(sL [])]),(i 0)])
theorem lr74:zQ Tryz.prog (evC Tryz.prog skE (orF Tryz.prog (zR qXa) pfs) 1000) 0 30 la74=some (lt74,true):=by kernel_rfl
noncomputable def qXb:List (Nat×(List T→Option (T×Bool))):=(30,qM la74 (lt74,true))::qXa
theorem lo74:zL Tryz.prog (zR qXb):=zL.cons lo73 (zS (by kernel_rfl) zW lo73 pfs lr74) (by kernel_rfl)
noncomputable def la75:List T:=[(i 0),(.fp [(.sl [(i 2),ff,(sL [(w 1)]),(sL [(w 4)]),(i 3),ff,(sL [(w 1)]),(sL [(w 4)]),(i 4),ff,(sL [(w 1)]),(sL [(w 4)]),(i 5),ff,(sL [(w 1)]),(sL [(w 4)])] 4)]),(.fp [(sL [(i (-100)),(i 0),(i 100)]),(sL [(i 0),(i 10)]),(sL [(i 0)]),(.sl [(.v (.int .u8 0)),(i 0),(i 0),(.v (.int .u8 1)),(i 10),(i 20)] 2),(i 5),(i 50),(i 1),(.sl [(i 0),ff,(sL [(w 1)]),(sL [])] 1),(.sl [(i 0),ff,(sL [(w 1)]),(sL [])] 1),ff,(sL [(w 1)]),(sL [(w 10)]),ff,nl,nl,ff,nl,nl,(i 10),(sL [(sL [(i 0),(i 1)]),(sL [(i 10),(i 11)]),(sL [(i 9),(i 10)]),(sL [(i 1),(i 2)])]),(sL [(sL [(i 0),(i 0),(i 0),(i 0),(i 1),(i 1),(i 2),(i 2),(i 0),(i 0),(i 3),(i 3)])])]),(.fp [(i 1)]),(.fp [(i 2)]),(.fp [(i 0)])]
noncomputable def lt75:T:=(.tu [(.ag [ff,(sL [(w 1)]),(sL [(w 2)])]),(i 0)])
theorem lr75:zQ Tryz.prog (evC Tryz.prog skE (orF Tryz.prog (zR qXb) pfs) 1000) 0 29 la75=some (lt75,true):=by kernel_rfl
noncomputable def qXc:List (Nat×(List T→Option (T×Bool))):=(29,qM la75 (lt75,true))::qXb
theorem lo75:zL Tryz.prog (zR qXc):=zL.cons lo74 (zS (by kernel_rfl) zW lo74 pfs lr75) (by kernel_rfl)
noncomputable def la76:List T:=[(.sl [ff,(sL [(w 1)]),(sL [(w 4)]),ff,(sL [(w 1)]),(sL [(w 4)]),ff,(sL [(w 1)]),(sL [(w 4)]),ff,(sL [(w 1)]),(sL [(w 4)])] 4),(.sl [ff,(sL [(w 11)]),(sL []),ff,(sL [(w 10)]),(sL []),ff,(sL [(w 1)]),(sL []),ff,(sL [(w 2)]),(sL [])] 4)]
noncomputable def lt76:T:=(.tu [(.ag [ff,(sL [(w 6)]),(sL [])]),(i 0)])
theorem lr76:zQ Tryz.prog (evC Tryz.prog skE (orF Tryz.prog (zR qXc) pfs) 1000) 0 30 la76=some (lt76,true):=by kernel_rfl
noncomputable def qXd:List (Nat×(List T→Option (T×Bool))):=(30,qM la76 (lt76,true))::qXc
theorem lo76:zL Tryz.prog (zR qXd):=zL.cons lo75 (zS (by kernel_rfl) zW lo75 pfs lr76) (by kernel_rfl)
noncomputable def la77:List T:=[(i 1),(.fp [(.sl [(i 2),ff,(sL [(w 1)]),(sL [(w 4)]),(i 3),ff,(sL [(w 1)]),(sL [(w 4)]),(i 4),ff,(sL [(w 1)]),(sL [(w 4)]),(i 5),ff,(sL [(w 1)]),(sL [(w 4)])] 4)]),(.fp [(sL [(i (-100)),(i 0),(i 100)]),(sL [(i 0),(i 10)]),(sL [(i 0)]),(.sl [(.v (.int .u8 0)),(i 0),(i 0),(.v (.int .u8 1)),(i 10),(i 20)] 2),(i 5),(i 50),(i 1),(.sl [(i 0),ff,(sL [(w 1)]),(sL [])] 1),(.sl [(i 0),ff,(sL [(w 1)]),(sL [])] 1),ff,(sL [(w 1)]),(sL [(w 10)]),ff,nl,nl,ff,nl,nl,(i 10),(sL [(sL [(i 0),(i 1)]),(sL [(i 10),(i 11)]),(sL [(i 9),(i 10)]),(sL [(i 1),(i 2)])]),(sL [(sL [(i 0),(i 0),(i 0),(i 0),(i 1),(i 1),(i 2),(i 2),(i 0),(i 0),(i 3),(i 3)])])]),(.fp [(i 1)]),(.fp [(i 2)]),(.fp [(i 0)])]
noncomputable def lt77:T:=(.tu [(.ag [ff,(sL [(w 3)]),(sL [(w 5)])]),(i 0)])
theorem lr77:zQ Tryz.prog (evC Tryz.prog skE (orF Tryz.prog (zR qXd) pfs) 1000) 0 29 la77=some (lt77,true):=by kernel_rfl
noncomputable def qXe:List (Nat×(List T→Option (T×Bool))):=(29,qM la77 (lt77,true))::qXd
theorem lo77:zL Tryz.prog (zR qXe):=zL.cons lo76 (zS (by kernel_rfl) zW lo76 pfs lr77) (by kernel_rfl)
noncomputable def la78:List T:=[(.ag [(sL [(i (-100)),(i 0),(i 100)]),(sL [(i 0),(i 10)]),(sL [(i 0)]),(.sl [(.v (.int .u8 0)),(i 0),(i 0),(.v (.int .u8 1)),(i 10),(i 20)] 2),(i 5),(i 50),(i 1),(.sl [(i 0),ff,(sL [(w 1)]),(sL [])] 1),(.sl [(i 0),ff,(sL [(w 1)]),(sL [])] 1),ff,(sL [(w 1)]),(sL [(w 10)]),ff,nl,nl,ff,nl,nl,(i 10),(sL [(sL [(i 0),(i 1)]),(sL [(i 10),(i 11)]),(sL [(i 9),(i 10)]),(sL [(i 1),(i 2)])]),(sL [(sL [(i 0),(i 0),(i 0),(i 0),(i 1),(i 1),(i 2),(i 2),(i 0),(i 0),(i 3),(i 3)])])]),(i 1),(i 50),(i 5),(i 0),(i 0)]
noncomputable def lt78:T:=(.tu [(.sl [ff,(sL [(w 1)]),(sL [(w 2)]),ff,(sL [(w 3)]),(sL [(w 5)])] 2),(i 0)])
theorem lr78:zQ Tryz.prog (evC Tryz.prog skE (orF Tryz.prog (zR qXe) pfs) 1000) 0 10 la78=some (lt78,true):=by kernel_rfl
noncomputable def lb78:List (Nat×(List T→Option (T×Bool))):=(10,qM la78 (lt78,true))::qXe
theorem lo78:zL Tryz.prog (zR lb78):=zL.cons lo77 (zS (by kernel_rfl) zW lo77 pfs lr78) (by kernel_rfl)
noncomputable def la79:List T:=[]
noncomputable def lt79:T:=tt
theorem lr79:zQ Tryz.prog (evC Tryz.prog skE (orF Tryz.prog (zR lb78) pfs) 1000) 0 6 la79=some (lt79,true):=by kernel_rfl
theorem jBu:KnP Tryz.prog 0 6 [] (.v (.bool true)) true:=zS (by kernel_rfl) zW lo78 pfs lr79
end Go.Proofs.YtjnpoeilfdbaaaaGreatDoor
namespace Go.Ev
open Go Go.Gv Go.RowKit IntKind
theorem xM{a b:Int}:ilt a b=true↔a<b:=by
 cases a with
 | ofNat a=>cases b with
  | ofNat b=>simp only[ilt,Nat.blt_eq,Int.ofNat_eq_natCast];omega
  | negSucc b=>simp only[ilt,Int.ofNat_eq_natCast,Int.negSucc_eq];constructor<;>intro h<;>first | cases h;done | omega
 | negSucc a=>cases b with
  | ofNat b=>simp only[ilt,Int.ofNat_eq_natCast,Int.negSucc_eq];constructor<;>intro h<;>first | omega | trivial
  | negSucc b=>simp only[ilt,Nat.blt_eq,Int.negSucc_eq];omega
theorem zXb{a:Int}(h:inW a=true):wq a=a:=by unfold wq;rw[h];rfl
theorem xU{a b:Int}(h:b≤a):ilt a b=false:=by
 cases e:ilt a b with
 | false=>rfl
 | true=>rw[xM]at e;omega
theorem wZ{a b:Int}(h:a<b):ilt a b=true:=xM.2 h
theorem qP{a b:Int}:ieq a b=true↔a=b:=by
 cases a with
 | ofNat a=>cases b with
  | ofNat b=>simp only[ieq,Nat.beq_eq,Int.ofNat_eq_natCast];omega
  | negSucc b=>simp only[ieq,Int.ofNat_eq_natCast,Int.negSucc_eq];constructor<;>intro h<;>first | (cases h;done) | omega
 | negSucc a=>cases b with
  | ofNat b=>simp only[ieq,Int.ofNat_eq_natCast,Int.negSucc_eq];constructor<;>intro h<;>first | (cases h;done) | omega
  | negSucc b=>simp only[ieq,Nat.beq_eq,Int.negSucc_eq];omega
theorem vY{a b:Int}(h:a=b):ieq a b=true:=qP.2 h
theorem qQu{a b:Nat}(h:a≠b):Nat.beq a b=false:=by
 cases e:Nat.beq a b with
 | false=>rfl
 | true=>exact absurd (zY e) h
theorem qJc{α:Type}{l:List α}:emp l=true↔l=[]:=by cases l<;>simp[emp]
section
variable {P:Program}{f k:Nat}{az:List T}{tv tv':T}{nw:Bool}
theorem KnP.res(h:KnP P k f az tv nw)(ht:∀(B:Bm)(r:Rd)(v:Value),Rep B r tv v→Rep B r tv' v):KnP P k f az tv' nw:=fun B w X qC R hI hk hX hR hK=>h B w X qC R hI hk hX hR fun v w' hu hv=>hK v w' hu (ht B _ v hv)
theorem KnP.old(h:KnP P k f az tv true):KnP P k f az tv false:=fun B w X qC R hI hk hX hR hK=>h B w X qC R hI hk hX hR fun v w' hu hv=>hK v w' hu (hv.mono (BLe.refl B) (Le.new hX))
theorem zDn{B:Bm}{r:Rd}{A:Ty}{v:Value}(h:Rep B r (.v (.slice none 0 0)) v):Rep B r (.ls .a A []) v:=by
 obtain⟨rfl,_⟩:=h.vI;exact .ls ⟨none,0,rfl,Nat.le_refl _,Nat.zero_le _,.inl rfl⟩
end
noncomputable def lpF(st:Hs→Option (Hs⊕(Ex×Hs))):Nat→Hs→Option (Ex×Hs)
 | 0,q=>match st q with
  | some (.inr y)=>some y
  | _=>none
 | n+1,q=>match st q with
  | some (.inl q')=>lpF st n q'
  | some (.inr y)=>some y
  | none=>none
theorem kF{st:Hs→Option (Hs⊕(Ex×Hs))}:∀(n:Nat)(q:Hs){y:Ex×Hs},lpF st n q=some y→∃m,It st m q y
 | 0,q,y,h=>by
  simp only[lpF]at h;split at h
  ·rename_i z hz;cases h;exact⟨0,.out hz⟩
  ·cases h
 | n+1,q,y,h=>by
  simp only[lpF]at h;split at h
  ·rename_i q' hq;obtain⟨m,hm⟩:=kF n q' h;exact⟨m+1,.go hq hm⟩
  ·rename_i z hz;cases h;exact⟨0,.out hz⟩
  ·cases h
inductive Sk where
  | i (k:IntKind)
  | b
  | l (g:Tg) (A:Ty)
  | p (g:Tg) (A:Ty) (g2:Tg) (A2:Ty)
  | c (t:T)
structure Sh where
 e:Ex
 hs:List Sk
 az:List (Tg×Ty)
 ks:List (List Sk)
noncomputable def iOf:T→Int
 | .v (.int _ a)=>a
 | _=>0
noncomputable def bOf:T→Bool
 | .v (.bool b)=>b
 | _=>false
noncomputable def lOf(A:Ty):T→List A.den
 | .ls _ B l=>(wY B A l).getD []
 | _=>[]
noncomputable def lnO:T→Nat
 | .ls _ _ l=>l.length
 | .v (.int _ (.ofNat n))=>n
 | _=>0
noncomputable def Tg.beq:Tg→Tg→Bool
 | .a,.a=>true
 | .n,.n=>true
 | .o,.o=>true
 | _,_=>false
noncomputable def fstT:T→T
 | .ag (t::_)=>t
 | _=> .u
noncomputable def sndT:T→T
 | .ag (_::t::_)=>t
 | _=> .u
noncomputable def skG:Sk→T→T
 | .i k,t=> .v (.int k (iOf t))
 | .b,t=> .v (.bool (bOf t))
 | .l g A,t=> .ls g A (lOf A t)
 | .p g A g2 A2,t=> .ag [.ls g A (lOf A (fstT t)),.ls g2 A2 (lOf A2 (sndT t))]
 | .c x,_=>x
noncomputable def skT:Sk→T→Bool
 | .i k,.v (.int k' _)=>Nat.beq (kind k) (kind k')
 | .b,.v (.bool _)=>true
 | .l g A,.ls g' B _=>g.beq g'&&B.beq A
 | .p g A g2 A2,.ag [.ls h B _,.ls h2 B2 _]=>(g.beq h&&B.beq A)&&(g2.beq h2&&B2.beq A2)
 | .c x,t=>eqU 12 x t
 | _,_=>false
theorem zSq{g:Tg}{A B:Ty}{l:List B.den}(h:B.beq A=true):T.ls g A (lOf A (.ls g B l))= .ls g B l:=by
 obtain rfl:=Ty.beq_eq h;have e:wY B B l=some l:=by unfold wY;rw[dif_pos h]
 show T.ls g B ((wY B B l).getD [])=_;rw[e];rfl
theorem Tg.beq_eq{g g':Tg}(h:g.beq g'=true):g=g':=by cases g<;>cases g'<;>first | rfl | cases h
theorem qGw:∀{s:Sk}{t:T},skT s t=true→skG s t=t:=by
 intro s t h;unfold skT at h;split at h
 ·rename_i k k' a;obtain rfl:=tH h;rfl
 ·rfl
 ·rename_i g A g' B l;simp only[Bool.and_eq_true]at h;obtain rfl:=Tg.beq_eq h.1;exact zSq h.2
 ·rename_i g A g2 A2 h' B l h2 B2 l2;simp only[Bool.and_eq_true]at h;obtain rfl:=Tg.beq_eq h.1.1;obtain rfl:=Tg.beq_eq h.2.1;simp only[skG,fstT,sndT,zSq h.1.2,zSq h.2.2]
 ·exact mV 12 _ _ h
 ·cases h
noncomputable def hdT:List T→T
 | t::_=>t
 | []=> .u
noncomputable def qGy:List Sk→List T→List T
 | [],_=>[]
 | s::ss,ts=>skG s (hdT ts)::qGy ss ts.tail
noncomputable def qGz:List Sk→List T→Bool
 | [],[]=>true
 | s::ss,t::ts=>skT s t&&qGz ss ts
 | _,_=>false
theorem zNe:∀{ss:List Sk}{ts:List T},qGz ss ts=true→qGy ss ts=ts
 | [],[],_=>rfl
 | s::ss,t::ts,h=>by
  simp only[qGz,Bool.and_eq_true]at h;simp only[qGy,hdT,List.tail_cons,qGw h.1,zNe h.2]
 | [],_::_,h=>by cases h
 | _::_,[],h=>by cases h
noncomputable def qKd:List (List Sk)→List (List T)→List (List T)
 | [],_=>[]
 | s::ss,ts=>qGy s (ts.headD [])::qKd ss ts.tail
noncomputable def qKe:List (List Sk)→List (List T)→Bool
 | [],[]=>true
 | s::ss,t::ts=>qGz s t&&qKe ss ts
 | _,_=>false
theorem zVg:∀{ss:List (List Sk)}{ts:List (List T)},qKe ss ts=true→qKd ss ts=ts
 | [],[],_=>rfl
 | s::ss,t::ts,h=>by
  simp only[qKe,Bool.and_eq_true]at h;simp only[qKd,List.headD_cons,List.tail_cons,zNe h.1,zVg h.2]
 | [],_::_,h=>by cases h
 | _::_,[],h=>by cases h
noncomputable def azT:List (Tg×Ty)→List T→Bool
 | [],[]=>true
 | s::ss,t::ts=>skT (.l s.1 s.2) t&&azT ss ts
 | _,_=>false
noncomputable def azD{α:Type}(k:List T→DT α):List (Tg×Ty)→List T→List T→DT α
 | [],_,u=>k u.reverse
 | s::ss,ts,u=> .ite (emp (lOf s.2 (hdT ts))) (azD k ss ts.tail (.ls s.1 s.2 []::u)) (azD k ss ts.tail (.ls s.1 s.2 ((lOf s.2 (hdT ts)).headD s.2.zero::(lOf s.2 (hdT ts)).tail)::u))
theorem zRv{α:Type}{k:List T→DT α}{z:α}:∀{ss:List (Tg×Ty)}{ts u:List T},azT ss ts=true→(azD k ss ts u).run=some z→(k (u.reverse++ts)).run=some z
 | [],[],u,_,h=>by simpa[azD]using h
 | s::ss,t::ts,u,h,h2=>by
  simp only[azT,Bool.and_eq_true]at h;have e:T.ls s.1 s.2 (lOf s.2 t)=t:=qGw (s:= .l s.1 s.2) h.1;simp only[azD,hdT,List.tail_cons,DT.run]at h2;cases he:emp (lOf s.2 t)with
  | true=>
   rw[he,cond_true]at h2;have e2:lOf s.2 t=[]:=qJc.1 he;rw[e2]at e;rw[e]at h2;have:=zRv h.2 h2;simpa using this
  | false=>
   rw[he,cond_false]at h2;have e2:(lOf s.2 t).headD s.2.zero::(lOf s.2 t).tail=lOf s.2 t:=by
    cases hl:lOf s.2 t with
    | nil=>rw[hl]at he;cases he
    | cons a l=>rfl
   rw[e2,e]at h2;have:=zRv h.2 h2;simpa using this
 | [],_::_,_,h,_=>by cases h
 | _::_,[],_,h,_=>by cases h
noncomputable def exT:Ex→Ex→Bool
 | .x i,.x j=>Nat.beq i j
 | .r,.r=>true
 | _,_=>false
noncomputable def shT(sh:Sh):Option (Ex×Hs)→Bool
 | some (e,q)=>exT sh.e e&&(qGz sh.hs q.hs&&(azT sh.az q.az&&qKe sh.ks q.ks))
 | none=>false
noncomputable def hsO:Option (Ex×Hs)→Hs
 | some (_,q)=>q
 | none=>⟨[],[],[]⟩
noncomputable def vwD(y:Option (Ex×Hs)):List Sh→DT (Ex×Hs)
 | []=> .no
 | sh::r=> .ite (shT sh y) (azD (fun u=> .ret (sh.e,⟨qGy sh.hs (hsO y).hs,u,qKd sh.ks (hsO y).ks⟩)) sh.az (hsO y).az []) (vwD y r)
theorem qHn{y:Option (Ex×Hs)}{z:Ex×Hs}:∀{shs:List Sh},(vwD y shs).run=some z→y=some z
 | [],h=>by cases h
 | sh::r,h=>by
  simp only[vwD,DT.run]at h;cases hs:shT sh y with
  | false=>rw[hs,cond_false]at h;exact qHn h
  | true=>
   rw[hs,cond_true]at h;match y,hs with
   | some (e,q),hs=>
    simp only[shT,Bool.and_eq_true]at hs;obtain⟨h1,h2,h3,h4⟩:=hs;have h5:=zRv h3 h;simp only[hsO,List.reverse_nil,List.nil_append,zNe h2,zVg h4]at h5;cases h5;have:sh.e=e:=by
     revert h1;cases sh.e<;>cases e<;>intro h1<;>first | rfl | (cases h1;done) | (obtain rfl:=zY h1;rfl)
    rw[this]
noncomputable def lpR(st:Hs→Option (Hs⊕(Ex×Hs)))(fu:Hs→Nat)(shs:List Sh)(q:Hs):DT (Ex×Hs):=vwD (lpF st (fu q) q) shs
theorem qXu{st:Hs→Option (Hs⊕(Ex×Hs))}{fu:Hs→Nat}{shs:List Sh}:∀q y,(lpR st fu shs q).run=some y→∃n,It st n q y:=fun _ _ h=>kF _ _ (qHn h)
theorem yZ{st:Hs→Option (Hs⊕(Ex×Hs))}{α γ:Type}{iv:Nat→α→Hs}{g:Nat→α→α⊕γ}{d:α→γ}{out:γ→Ex×Hs}{n:Nat}(J:Nat→α→Prop)
  (h1:∀i a,i<n→J i a→st (iv i a)=some (match g i a with | .inl b=> .inl (iv (i+1) b) | .inr y=> .inr (out y)))
  (h2:∀i a b,i<n→J i a→g i a= .inl b→J (i+1) b) (h3:∀a,J n a→st (iv n a)=some (.inr (out (d a)))):∀k i a,i+k=n→J i a→lpF st k (iv i a)=some (out (fol g d k i a))
 | 0,i,a,e,hJ=>by
  obtain rfl:i=n:=by omega
  simp only[lpF,h3 a hJ,fol]
 | k+1,i,a,e,hJ=>by
  have hi:i<n:=by omega
  simp only[lpF,h1 i a hi hJ,fol];cases hg:g i a with
  | inl b=>exact yZ J h1 h2 h3 k (i+1) b (by omega) (h2 i a b hi hJ hg)
  | inr y=>rfl
end Go.Ev
namespace Go.Proofs.YtjnpoeilfdbaaaaGreatDoor
open Go Go.Gv Go.Ev Go.RowKit IntKind
noncomputable abbrev pT:Ty:= .prod (.int .i64) (.prod (.int .i64) (.int .i64))
noncomputable abbrev wT:Ty:= .prod pT zP
abbrev Rt:=Ty.den zP
abbrev Pt:=Ty.den pT
abbrev Wt:=Ty.den wT
abbrev rw'(x:Rt):Raw:=⟨x.1,x.2.1,x.2.2⟩
noncomputable abbrev toT(a:Raw):Rt:=(a.neg,a.ln,a.ld)
noncomputable abbrev rC(a:Raw):List T:=[.v (.bool a.neg),.ls .a .lim a.ln,.ls .a .lim a.ld]
abbrev rrT:=List (Nat×(List T→DT (T×Bool)))
theorem xA:Tryz.prog.follows .mixedOrders=true:=by kernel_rfl
noncomputable abbrev yI(n:Int):Option (T×Bool):=some (.v (.int .i64 n),true)
noncomputable abbrev yB(b:Bool):Option (T×Bool):=some (.v (.bool b),true)
noncomputable def cmI(a b:Int):Int:=bif ilt a b then -1 else(bif ilt b a then 1 else 0)
noncomputable def cpP(p q:Pt):Int:=bif !ieq (cmI p.1 q.1) 0 then cmI p.1 q.1 else(bif !ieq (cmI p.2.1 q.2.1) 0 then cmI p.2.1 q.2.1 else(bif !ieq (cmI p.2.2 q.2.2) 0 then cmI p.2.2 q.2.2 else 0))
noncomputable def outP(p:Pt):Bool:=ilt p.1 (-200000)||(ilt 200000 p.1||(ilt p.2.1 (-100)||(ilt 100 p.2.1||(ilt p.2.2 (-100)||ilt 100 p.2.2))))
noncomputable def qKw(ck:Raw→Int)(ad su mu:Raw→Raw→Raw)(ae se me:Raw→Raw→Int)(cm ce:Raw→Raw→Int)(fr:Int→Raw)(eqB:Raw→Raw→Bool):rrT:=[(32,kcD (pR ck) true),(91,kcD (pRR fun a b=>some (ad a b,ae a b)) true),(68,kcD (pRR fun a b=>some (mu a b,me a b)) true),(16,kcD (pRI fun a b=>(cm a b,ce a b)) true),(12,kcD (pI fr) true),(13,kcD (pB eqB) true)]
noncomputable abbrev rN(a:Raw):List T:=[.v (.bool a.neg),.ls .n .lim a.ln,.ls .n .lim a.ld]
noncomputable abbrev St':=Option (Hs⊕(Ex×Hs))
noncomputable def nx{α:Type}(i:Nat)(x:α):Option α:=bif Nat.blt (i+1) 9223372036854775808 then some x else none
theorem xV{α:Type}{i:Nat}{x:α}(h:i+1<9223372036854775808):nx i x=some x:=by
 unfold nx;rw[zO h];rfl
noncomputable abbrev wA(l:List Wt)(i:Nat):Wt:=nth wT.zero l i
section
variable (ck:Raw→Int)(ad su mu:Raw→Raw→Raw)(ae se me:Raw→Raw→Int)(cm ce:Raw→Raw→Int)(fr:Int→Raw)(eqB:Raw→Raw→Bool)
noncomputable abbrev pr(i:Nat):Int:=Int.sub (.ofNat i) 1
noncomputable def gB0(l:List Wt)(i:Nat)(_:Unit):Unit⊕Option Int:=bif outP (wA l i).1 then .inr (some 7)else(bif ilt 0 (.ofNat i)&&!ilt (cpP (wA l (i-1)).1 (wA l i).1) 0 then .inr (some 2)else(bif !ieq (ck (rw' (wA l i).2)) 0 then .inr (some (ck (rw' (wA l i).2)))else(bif(wA l i).2.1||ieq (.ofNat (wA l i).2.2.1.length) 0 then .inr (some 1)else .inl ())))
noncomputable def b0F(l:List Wt):Option Int:=fol (gB0 ck l) (fun _=>none) l.length 0 ()
noncomputable def gB1(l:List Wt)(i:Nat)(a:Raw×Int):(Raw×Int)⊕(Raw×Int):= .inl (bif ieq a.2 0 then(ad a.1 (rw' (wA l i).2),ae a.1 (rw' (wA l i).2))else a)
noncomputable def b1F(l:List Wt):Raw×Int:=fol (gB1 ad ae l) id l.length 0 (fr 0,0)
noncomputable abbrev gd{α:Type}(b:Bool)(x:Option α):Option α:=bif b then x else none
noncomputable def bcE(l:List Wt):Int:=bif Nat.beq l.length 0 then 3 else(bif Nat.blt 4096 l.length then 4 else(match b0F ck l with
 | some e=>e
 | none=>bif !ieq (b1F ad ae fr l).2 0 then(b1F ad ae fr l).2 else(bif !ieq (cm (b1F ad ae fr l).1 (fr 1)) 0 then 16 else 0)))
end
noncomputable abbrev lq{α:Type}(a:List α)(x:St'):St':=gd (Nat.ble (a.length+1) (a.length+1)) x
noncomputable abbrev z0:Rt×Rt:=((false,[],[]),(false,[],[]))
section
variable (bE:List Wt→Int)(ck:Raw→Int)(ad su mu:Raw→Raw→Raw)(ae se me:Raw→Raw→Int)(cm ce:Raw→Raw→Int)(fr:Int→Raw)(eqB:Raw→Raw→Bool)
noncomputable abbrev k5:List (List T):=[[],[],[],[],[]]
noncomputable abbrev erM(e:Int):St':=some (.inr (.r,⟨[.v (.slice none 0 0),.v (.int .i64 e)],[],k5⟩))
noncomputable abbrev m3(w v:Raw)(g:Rt×Rt)(k:Raw→St'):St':=bif !ieq (me w (rw' g.1)) 0 then erM (me w (rw' g.1))else(bif !ieq (me v (rw' g.2)) 0 then erM (me v (rw' g.2))else(bif !ieq (ae (mu w (rw' g.1)) (mu v (rw' g.2))) 0 then erM (ae (mu w (rw' g.1)) (mu v (rw' g.2)))else k (ad (mu w (rw' g.1)) (mu v (rw' g.2)))))
end
noncomputable abbrev adA(a b:Raw):Raw:=opR a b (a.rat+b.rat)
noncomputable abbrev suA(a b:Raw):Raw:=opR a b (a.rat-b.rat)
noncomputable abbrev muA(a b:Raw):Raw:=opR a b (a.rat*b.rat)
noncomputable abbrev aeA(a b:Raw):Int:=opE a b (a.rat+b.rat)
noncomputable abbrev seA(a b:Raw):Int:=opE a b (a.rat-b.rat)
noncomputable abbrev meA(a b:Raw):Int:=opE a b (a.rat*b.rat)
noncomputable abbrev frA(n:Int):Raw:=Raw.of (n:Rat)
noncomputable abbrev eqA(a b:Raw):Bool:=decide (a=b)
noncomputable abbrev numA:rrT:=qKw Raw.chk adA suA muA aeA seA meA vU nO frA eqA
theorem zVr:vL Tryz.prog (odT numA):=
 zX (zX (zX (zX (zX (zX yO fun az tv nw h k=>tX kEq az tv h k) fun az tv nw h k=>tX zVb az tv h k) fun az tv nw h k=>tX kCmp az tv h k) fun az tv nw h k=>tX qKc az tv h k) fun az tv nw h k=>tX qUi az tv h k) fun az tv nw h k=>tX kChk az tv h k
noncomputable abbrev bE(l:List Wt):Int:=bcE Raw.chk adA aeA vU frA l
theorem zTv{B:Bm}{r:Rd}{A:Ty}{t:T}{v:Value}(h:Rep B r (.tu [.v (.slice none 0 0),t]) v):Rep B r (.tu [.ls .a A [],t]) v:=by
 obtain⟨vs,rfl,hvs⟩:=h.tuI;match vs,hvs with
 | [a,b],⟨h1,h2,_⟩=>exact Rep.mkTu (vs:=[a,b]) ⟨zDn h1,h2,trivial⟩
noncomputable abbrev rA(l:List Rt)(i:Nat):Rt:=nth zP.zero l i
theorem fC:dY Tryz.prog (evD Tryz.prog (odT []) (loT []) 60):=tT xA yO qZ 60
theorem qY{a b:Nat}(h:Nat.blt a b=true):a<b:=by
 rcases Nat.lt_or_ge a b with g | g
 ·exact g
 ·rw[kE g]at h;cases h
noncomputable def oWd(fW:List Rt→Bool):List T→DT (T×Bool)
 | [.ls .a zP l]=>grd (Nat.blt l.length 9223372036854775807) (.ret (.v (.bool (fW l)),true))
 | _=> .no
noncomputable def oAw:List T→DT (T×Bool)
 | []=> .ret (.v (.bool true),true)
 | _=> .no
section
variable (fL:List Wt→Bool)(fW:List Rt→Bool)(mR:List Wt→List Wt→Raw→List Wt)(mE:List Wt→List Wt→Raw→Int)(fr:Int→Raw)(cE:List Wt→Int)(sM:List Wt→List Wt→Bool)
noncomputable abbrev gw(a b:List Wt){α:Type}(x:Option α):Option α:=gd (Nat.ble a.length 100000&&Nat.ble b.length 100000) x
end
theorem zHf{a b:Raw}{q:Rat}(ha:a.chk=0)(hb:b.chk=0)(h:zBv q=0):Gv.opE a b q=0∧opR a b q=Raw.of q:=by
 have e:Gv.opE a b q=0:=by unfold Gv.opE;rw[ha,hb,h];rfl
 exact⟨e,if_pos e⟩
theorem qPg:zBv 0=0:=by unfold zBv;rw[if_pos];exact⟨by decide,by decide⟩
theorem qGl:zBv 1=0:=by
 unfold zBv;rw[if_pos];have:(1:Nat)<jZ:=Nat.lt_of_lt_of_le (show 1<4294967296^1 by omega) (Nat.pow_le_pow_right (by omega) (by omega))
 exact⟨this,Nat.lt_of_le_of_lt (show pF 1≤1 by decide) this⟩
theorem fr1:frA 1=Raw.of 1:=by show Raw.of ((1:Int):Rat)=_;rw[Rat.intCast_one]
noncomputable abbrev nT:Ty:= .int .i64
noncomputable abbrev spT:Ty:= .prod nT nT
noncomputable abbrev vi(n:Int):T:= .v (.int .i64 n)
noncomputable abbrev vn(n:Nat):T:= .v (.int .i64 (.ofNat n))
noncomputable abbrev nI(l:List Int)(i:Nat):Int:=nth nT.zero l i
noncomputable def iIx(lo hi:Int)(l:List Int)(n i:Nat):Hs:=⟨[.ls .a nT l,vn n,vn i],[],[[vi lo,vi hi]]⟩
noncomputable def Lix:Lp:=⟨1,
 ⟨[.h,.t (.fn 107 [.op 0 0])]++(us' 5++([.h,.h]++(us' 10))),[.r [.h,.h] 120]⟩,
 ⟨us' 19,[.g]⟩,
 ⟨us' 4++([.h]++(us' 14)),[.g]⟩⟩
noncomputable abbrev qNj:Code:=lpc Tryz.prog 143 [false,true,false,true]
theorem qPy:cAt Tryz.prog 143 [false,true,false,true]=some (.loop qNj):=by kernel_rfl
noncomputable abbrev zUd(OD:Od)(LO:Lo):Hs→Option (Hs⊕(Ex×Hs)):=Lix.stp (evD Tryz.prog OD LO 60) 143 [false,true,false,true] qNj
theorem sIx(lo hi:Int)(l:List Int)(n i:Nat):zUd (odT []) (loT []) (iIx lo hi l n i)=bif ilt (.ofNat i) (.ofNat n)then gd (Nat.blt i l.length) (bif ilt (nth nT.zero l i) lo then some (.inr (.r,⟨[vn i],[],[[]]⟩))else(bif ilt hi (nth nT.zero l i)then some (.inr (.r,⟨[vn i],[],[[]]⟩))else nx i (.inl (iIx lo hi l n (i+1)))))else some (.inr (.x 0,⟨[],[],[[]]⟩)):=by kernel_rfl
noncomputable def oI(lo hi x:Int):Bool:=ilt x lo||ilt hi x
noncomputable def gIx(lo hi:Int)(l:List Int)(i:Nat)(_:Unit):Unit⊕Option Nat:=bif oI lo hi (nI l i)then .inr (some i)else .inl ()
noncomputable def ixF(lo hi:Int)(l:List Int):Option Nat:=fol (gIx lo hi l) (fun _=>none) l.length 0 ()
noncomputable def qOw:Option Nat→Ex×Hs
 | none=>(.x 0,⟨[],[],[[]]⟩)
 | some i=>(.r,⟨[vn i],[],[[]]⟩)
theorem lpIx(lo hi:Int)(l:List Int)(h9:l.length<9223372036854775807):lpF (zUd (odT []) (loT [])) l.length (iIx lo hi l l.length 0)=some (qOw (ixF lo hi l)):=
 yZ (iv:=fun i(_:Unit)=>iIx lo hi l l.length i) (g:=gIx lo hi l) (d:=fun _=>none) (out:=qOw) (n:=l.length) (fun _ _=>True)
  (fun i _ hi' _=>by
   rw[sIx];show(bif Nat.blt i l.length then _ else _)=_;unfold gIx oI nI;simp only[gd,zO hi',cond_true,xV (show i+1<9223372036854775808 by omega)]
   cases ilt (nth nT.zero l i) lo<;>cases ilt hi (nth nT.zero l i)<;>rfl)
  (fun _ _ _ _ _ _=>trivial)
  (fun _ _=>by rw[sIx];show(bif Nat.blt l.length l.length then _ else _)=_;rw[kE (Nat.le_refl _),cond_false];rfl) l.length 0 () (by omega) trivial
noncomputable def qPj:Sh:=⟨.x 0,[],[],[[]]⟩
noncomputable def qPi:Sh:=⟨.r,[.i .i64],[],[[]]⟩
noncomputable abbrev LIx:Lo:=loT [(143,[false,true,false,true],Lix.row (lpR (zUd (odT []) (loT [])) (fun q=>lnO (nth .u q.hs 0)) [qPj,qPi]))]
noncomputable abbrev yIx(lo hi:Int)(l:List Int):Option (Ex×Hs):=lpF (zUd (odT []) (loT [])) l.length (iIx lo hi l l.length 0)
theorem eHas(lo hi:Int)(l:List Int):((qW Tryz.prog (evD Tryz.prog (odT []) (LIx) 60) 61 [.ag [vi lo,vi hi],.ls .a nT l] []).bind jB).run=bif shT qPj ((yIx lo hi l))then some (.v (.bool true),true)else gd (shT qPi ((yIx lo hi l))) (some (.v (.bool (bif !(ilt (iOf (hdT ((hsO ((yIx lo hi l))).hs))) 0)then false else true)),true)):=by kernel_rfl
theorem qXl:mQ Tryz.prog LIx:=yK qZ fC qPy qXu
noncomputable def yJ(lo hi:Int)(l:List Int):Bool:=match ixF lo hi l with
 | none=>true
 | some _=>false
noncomputable def qKx:List T→DT (T×Bool)
 | [.ag [.v (.int .i64 lo),.v (.int .i64 hi)],.ls .a (.int .i64) l]=>grd (Nat.blt l.length 9223372036854775807) (.ret (.v (.bool (yJ lo hi l)),true))
 | _=> .no
theorem kHas:∀az tv nw,(qKx az).run=some (tv,nw)→∀k,KnP Tryz.prog k 61 az tv nw:=by
 intro az tv nw h k;unfold qKx at h;split at h
 ·rename_i lo hi l;obtain⟨h1,h2⟩:=zV h;cases h2;have q:=eHas lo hi l;rw[show yIx lo hi l=_ from lpIx lo hi l (qY h1)]at q;have e:((qW Tryz.prog (evD Tryz.prog (odT []) (LIx) 60) 61 [.ag [vi lo,vi hi],.ls .a nT l] []).bind jB).run=yB (yJ lo hi l):=by
   rw[q];unfold yJ;cases ixF lo hi l<;>rfl
  exact kQ (cz:=[.ag [vi lo,vi hi],.ls .a nT l]) xA yO qXl e rfl k
 ·cases h
theorem qJk{lo hi:Int}{l:List Int}{i:Nat}(h:oI lo hi (nI l i)=false):lo≤nI l i∧nI l i≤hi:=by
 unfold oI at h;simp only[Bool.or_eq_false_iff]at h;obtain⟨h1,h2⟩:=h;exact⟨Int.not_lt.1 fun k=>(by rw[wZ k]at h1;cases h1),Int.not_lt.1 fun k=>(by rw[wZ k]at h2;cases h2)⟩
theorem zUz{lo hi:Int}{l:List Int}:∀(k i:Nat),fol (gIx lo hi l) (fun _=>none) k i ()=none→∀j,i≤j→j<i+k→lo≤nI l j∧nI l j≤hi
 | 0,i,_,j,h1,h2=>by omega
 | k+1,i,h,j,h1,h2=>by
  simp only[fol,gIx]at h;cases hg:oI lo hi (nI l i)with
  | true=>rw[hg]at h;cases h
  | false=>
   rw[hg]at h;rcases Nat.eq_or_lt_of_le h1 with rfl | hlt
   ·exact qJk hg
   ·exact zUz k (i+1) h j hlt (by omega)
theorem qYb{l:List Int}{i:Nat}(hi:i<l.length):nI l i=l[i]:=by rw[nI,jA];simp[hi]
theorem pJ{lo hi:Int}{l:List Int}(h:yJ lo hi l=true){j:Nat}(hj:j<l.length):lo≤nI l j∧nI l j≤hi:=by
 unfold yJ at h;cases hx:ixF lo hi l with
 | some i=>rw[hx]at h;cases h
 | none=>exact zUz l.length 0 hx j (Nat.zero_le _) (by omega)
noncomputable def iC1(g:List (List Int))(c:List Int)(g2:List (List Int))(n k:Nat)(c2:List Int)(m i:Nat):Hs:=⟨[.ls .a nT.list g,.ls .a nT c,.ls .a nT.list g2,vn n,vn k,.ls .a nT c2,vn m,vn i],[],[]⟩
noncomputable def Lc1:Lp:=⟨0,
 ⟨[.h]++(us' 3++([.h]++(us' 10++([.h,.h,.h]++(us' 11++([.h,.h,.h]++(us' 28))))))),[]⟩,
 ⟨[.h]++(us' 14++([.h,.h,.h]++(us' 42))),[]⟩,
 ⟨[.u,.u,.h]++(us' 57),[]⟩⟩
noncomputable abbrev qNd:Code:=lpc Tryz.prog 59 [false,true,true,true,false,false,true,true,false,false,true,false,true,true]
theorem qPs:cAt Tryz.prog 59 [false,true,true,true,false,false,true,true,false,false,true,false,true,true]=some (.loop qNd):=by kernel_rfl
noncomputable abbrev zZt(OD:Od)(LO:Lo):Hs→Option (Hs⊕(Ex×Hs)):=Lc1.stp (evD Tryz.prog OD LO 60) 59 [false,true,true,true,false,false,true,true,false,false,true,false,true,true] qNd
theorem sC1(g g2:List (List Int))(c c2:List Int)(n k m i:Nat):zZt (odT []) (loT []) (iC1 g c g2 n k c2 m i)=bif ilt (.ofNat i) (.ofNat m)then gd (Nat.blt i c2.length) (bif ilt (nth nT.zero c2 i) (Int.negSucc 1073741823)then some (.inr (.r,⟨[vn 1],[],[]⟩))else(bif ilt (.ofNat 1073741824) (nth nT.zero c2 i)then some (.inr (.r,⟨[vn 1],[],[]⟩))else(bif ilt (.ofNat 0) (.ofNat i)then gd (inW (pr i)) (gd (nng (pr i)) (gd (Nat.blt ((pr i).toNat) c.length) (bif !(ilt (nth nT.zero c ((pr i).toNat)) (nth nT.zero c2 i))then some (.inr (.r,⟨[vn 1],[],[]⟩))else nx i (.inl (iC1 g c g2 n k c2 m (i+1))))))else nx i (.inl (iC1 g c g2 n k c2 m (i+1))))))else some (.inr (.x 4,⟨[.ls .a nT.list g,.ls .a nT.list g2,vn n,vn k],[],[]⟩)):=by kernel_rfl
noncomputable def qBy(c c2:List Int)(i:Nat):Bool:=ilt (nI c2 i) (Int.negSucc 1073741823)||(ilt (.ofNat 1073741824) (nI c2 i)||(ilt (.ofNat 0) (.ofNat i)&&!ilt (nI c (i-1)) (nI c2 i)))
noncomputable def gC1(c c2:List Int)(i:Nat)(_:Unit):Unit⊕Bool:=bif qBy c c2 i then .inr true else .inl ()
noncomputable def c1F(c c2:List Int):Bool:=fol (gC1 c c2) (fun _=>false) c2.length 0 ()
noncomputable def zWe(g g2:List (List Int))(n k:Nat):Bool→Ex×Hs
 | false=>(.x 4,⟨[.ls .a nT.list g,.ls .a nT.list g2,vn n,vn k],[],[]⟩)
 | true=>(.r,⟨[vn 1],[],[]⟩)
theorem prS(i:Nat):pr (i+1)= .ofNat i:=by show((i+1:Nat):Int)-1=(i:Int);omega
theorem qK{i:Nat}(h:i<9223372036854775808):inW (.ofNat i)=true:=zO h
theorem lpC1(g g2:List (List Int))(c c2:List Int)(n k:Nat)(h9:c2.length<9223372036854775807)(hc:c2.length≤c.length):lpF (zZt (odT []) (loT [])) c2.length (iC1 g c g2 n k c2 c2.length 0)=some (zWe g g2 n k (c1F c c2)):=
 yZ (iv:=fun i(_:Unit)=>iC1 g c g2 n k c2 c2.length i) (g:=gC1 c c2) (d:=fun _=>false) (out:=zWe g g2 n k) (n:=c2.length) (fun _ _=>True)
  (fun i _ hi' _=>by
   rw[sC1];show(bif Nat.blt i c2.length then _ else _)=_;unfold gC1 qBy nI;simp only[gd,zO hi',cond_true,xV (show i+1<9223372036854775808 by omega)]
   cases i with
   | zero=>
    have e:ilt (.ofNat 0) (.ofNat 0)=false:=rfl;rw[e];cases ilt (nth nT.zero c2 0) (Int.negSucc 1073741823)<;>cases ilt (.ofNat 1073741824) (nth nT.zero c2 0)<;>rfl
   | succ i=>
    have e:ilt (.ofNat 0) (.ofNat (i+1))=true:=rfl;rw[e,prS,qK (show i<9223372036854775808 by omega)]
    have e4:(Int.ofNat i).toNat=i:=rfl;rw[e4];simp only[nng,zO (show i<c.length by omega),cond_true,Nat.add_sub_cancel]
    cases ilt (nth nT.zero c2 (i+1)) (Int.negSucc 1073741823)<;>cases ilt (.ofNat 1073741824) (nth nT.zero c2 (i+1))<;>cases ilt (nth nT.zero c i) (nth nT.zero c2 (i+1))<;>rfl)
  (fun _ _ _ _ _ _=>trivial)
  (fun _ _=>by rw[sC1];show(bif Nat.blt c2.length c2.length then _ else _)=_;rw[kE (Nat.le_refl _),cond_false];rfl) c2.length 0 () (by omega) trivial
noncomputable def hC1:Hs→DT (Ex×Hs)
 | ⟨[.ls .a (.list (.int .i64)) g,.ls .a (.int .i64) c,.ls .a (.list (.int .i64)) g2,.v (.int .i64 (.ofNat n)),.v (.int .i64 (.ofNat k)),.ls .a (.int .i64) c2,.v (.int .i64 (.ofNat m)),.v (.int .i64 (.ofNat 0))],[],[]⟩=>grd (Nat.beq m c2.length&&(Nat.ble c2.length c.length&&Nat.blt c2.length 9223372036854775807)) (.ite (c1F c c2) (.ret (zWe g g2 n k true)) (.ret (zWe g g2 n k false)))
 | _=> .no
theorem qTg:∀q y,(hC1 q).run=some y→∃n,It (zZt (odT []) (loT [])) n q y:=fun q y h=>by
 unfold hC1 at h;split at h
 ·rename_i g c g2 n k c2 m;obtain⟨h1,h2⟩:=zV h;simp only[Bool.and_eq_true,Nat.ble_eq]at h1;obtain⟨h3,h4,h5⟩:=h1;obtain rfl:=zY h3;have:=kF _ _ (lpC1 g g2 c c2 n k (qY h5) h4);cases hb:c1F c c2<;>rw[hb]at h2 this<;>cases h2<;>exact this
 ·cases h
noncomputable abbrev LC1:Lo:=loT [(59,[false,true,true,true,false,false,true,true,false,false,true,false,true,true],Lc1.row hC1)]
theorem qXf:mQ Tryz.prog LC1:=yK qZ fC qPs qTg
noncomputable def iC0(q g:List (List Int))(n k:Nat):Hs:=⟨[.ls .a nT.list q,.ls .a nT.list g,vn n,vn k],[],[]⟩
noncomputable def iSz(v:Int)(g:List (List Int))(n k:Nat):Hs:=⟨[vi v,.ls .a nT.list g,vn n,vn k],[],[]⟩
noncomputable abbrev gI(g:List (List Int))(k:Nat):List Int:=nth nT.list.zero g k
noncomputable def Lc0:Lp:=⟨0,
 ⟨[.h]++(us' 14++([.h,.h,.h]++(us' 42))),[]⟩,
 ⟨[.h]++(us' 59),[]⟩,
 ⟨[.u,.u,.h]++(us' 57),[]⟩⟩
noncomputable abbrev qNc:Code:=lpc Tryz.prog 59 [false,true,false,true,true]
theorem qPr:cAt Tryz.prog 59 [false,true,false,true,true]=some (.loop qNc):=by kernel_rfl
noncomputable abbrev zZs(OD:Od)(LO:Lo):Hs→Option (Hs⊕(Ex×Hs)):=Lc0.stp (evD Tryz.prog OD LO 60) 59 [false,true,false,true,true] qNc
noncomputable def Lsz:Lp:=⟨0,
 ⟨us' 3++([.h,.u,.u,.h,.h,.h]++(us' 9)),[]⟩,
 ⟨us' 3++([.h]++(us' 14)),[]⟩,
 ⟨[.u,.u,.h]++(us' 15),[]⟩⟩
noncomputable abbrev qNq:Code:=lpc Tryz.prog 64 [false,true,false,true,true]
theorem qQf:cAt Tryz.prog 64 [false,true,false,true,true]=some (.loop qNq):=by kernel_rfl
noncomputable abbrev zUf(OD:Od)(LO:Lo):Hs→Option (Hs⊕(Ex×Hs)):=Lsz.stp (evD Tryz.prog OD LO 60) 64 [false,true,false,true,true] qNq
theorem sC0(q g:List (List Int))(n k:Nat):zZs (odT []) LC1 (iC0 q g n k)=bif ilt (.ofNat k) (.ofNat n)then gd (Nat.blt k g.length) (bif ieq (.ofNat ((gI g k).length)) (.ofNat 0)then some (.inr (.r,⟨[vn 3],[],[]⟩))else(bif ilt (.ofNat 32) (.ofNat ((gI g k).length))then some (.inr (.r,⟨[vn 4],[],[]⟩))else gd ((Nat.beq ((gI g k).length) ((gI g k).length))&&((Nat.ble ((gI g k).length) ((gI g k).length))&&(Nat.blt ((gI g k).length) 9223372036854775807))) (bif c1F (gI g k) (gI g k)then some (.inr (.r,⟨[vn 1],[],[]⟩))else nx k (.inl (iC0 q g n (k+1))))))else some (.inr (.x 1,⟨[.ls .a nT.list q],[],[]⟩)):=by kernel_rfl
theorem sSz(v:Int)(g:List (List Int))(n k:Nat):zUf (odT []) (loT []) (iSz v g n k)=bif ilt (.ofNat k) (.ofNat n)then gd (Nat.blt k g.length) (gd (inW (v.mul (.ofNat ((gI g k).length)))) (nx k (.inl (iSz (v.mul (.ofNat ((gI g k).length))) g n (k+1)))))else some (.inr (.x 0,⟨[vi v],[],[]⟩)):=by kernel_rfl
noncomputable def gC0(g:List (List Int))(k:Nat)(_:Unit):Unit⊕Option Int:=bif ieq (.ofNat (gI g k).length) (.ofNat 0)then .inr (some 3)else(bif ilt (.ofNat 32) (.ofNat (gI g k).length)then .inr (some 4)else(bif c1F (gI g k) (gI g k)then .inr (some 1)else .inl ()))
noncomputable def c0F(g:List (List Int)):Option Int:=fol (gC0 g) (fun _=>none) g.length 0 ()
noncomputable def zWd(q:List (List Int)):Option Int→Ex×Hs
 | none=>(.x 1,⟨[.ls .a nT.list q],[],[]⟩)
 | some e=>(.r,⟨[vi e],[],[]⟩)
theorem zGm{c:List Int}(h:ilt (.ofNat 32) (.ofNat c.length)=false):c.length≤32:=by
 have h:Nat.blt 32 c.length=false:=h;rcases Nat.lt_or_ge 32 c.length with g | g
 ·rw[zO g]at h;cases h
 ·exact g
theorem lpC0(q g:List (List Int))(h9:g.length<9223372036854775807):lpF (zZs (odT []) LC1) g.length (iC0 q g g.length 0)=some (zWd q (c0F g)):=
 yZ (iv:=fun k(_:Unit)=>iC0 q g g.length k) (g:=gC0 g) (d:=fun _=>none) (out:=zWd q) (n:=g.length) (fun _ _=>True)
  (fun k _ hi' _=>by
   rw[sC0];show(bif Nat.blt k g.length then _ else _)=_;unfold gC0;cases h2:ilt (.ofNat 32) (.ofNat (gI g k).length)with
   | true=>simp only[gd,zO hi',cond_true];cases ieq (.ofNat (gI g k).length) (.ofNat 0)<;>rfl
   | false=>
    have:=zGm h2;simp only[gd,zO hi',cond_true,cond_false,xV (show k+1<9223372036854775808 by omega),vN,vO (Nat.le_refl (gI g k).length),zO (show(gI g k).length<9223372036854775807 by omega),Bool.and_self]
    cases ieq (.ofNat (gI g k).length) (.ofNat 0)<;>cases c1F (gI g k) (gI g k)<;>rfl)
  (fun _ _ _ _ _ _=>trivial)
  (fun _ _=>by rw[sC0];show(bif Nat.blt g.length g.length then _ else _)=_;rw[kE (Nat.le_refl _),cond_false];rfl) g.length 0 () (by omega) trivial
noncomputable def isN{α:Type}:Option α→Bool
 | none=>true
 | some _=>false
noncomputable def eN:Option Int→Int
 | none=>0
 | some e=>e
noncomputable def hC0:Hs→DT (Ex×Hs)
 | ⟨[.ls .a (.list (.int .i64)) q,.ls .a (.list (.int .i64)) g,.v (.int .i64 (.ofNat n)),.v (.int .i64 (.ofNat 0))],[],[]⟩=>grd (Nat.beq n g.length&&Nat.blt g.length 9223372036854775807) (.ite (isN (c0F g)) (.ret (zWd q none)) (.ret (zWd q (some (eN (c0F g))))))
 | _=> .no
theorem qZt:dY Tryz.prog (evD Tryz.prog (odT []) LC1 60):=tT xA yO qXf 60
theorem qTf:∀q y,(hC0 q).run=some y→∃n,It (zZs (odT []) LC1) n q y:=fun q y h=>by
 unfold hC0 at h;split at h
 ·rename_i q g n;obtain⟨h1,h2⟩:=zV h;simp only[Bool.and_eq_true]at h1;obtain rfl:=zY h1.1;have:=kF _ _ (lpC0 q g (qY h1.2));cases hb:c0F g<;>rw[hb]at h2 this<;>cases h2<;>exact this
 ·cases h
noncomputable def smG(g:List (List Int)):Bool:=Nat.ble g.length 4&&g.all fun c=>Nat.ble c.length 32
noncomputable def szF(g:List (List Int)):Int:=fol (fun k(v:Int)=>(.inl (v.mul (.ofNat (gI g k).length)):Int⊕Int)) id g.length 0 1
theorem qDa{g:List (List Int)}{k:Nat}(h:k<g.length):gI g k=g[k]:=by rw[gI,jA];simp[h]
theorem jAg{g:List (List Int)}(h:smG g=true):g.length≤4∧∀k,k<g.length→(gI g k).length≤32:=by
 simp only[smG,Bool.and_eq_true,Nat.ble_eq,List.all_eq_true]at h;exact⟨h.1,fun k hk=>h.2 _ (by rw[qDa hk];exact List.getElem_mem hk)⟩
theorem zCz{v:Int}(h:0≤v)(h2:v<9223372036854775808):inW v=true:=by
 obtain⟨m,rfl⟩:=Int.eq_ofNat_of_zero_le h;exact qK (show m<9223372036854775808 by omega)
theorem lpSz{g:List (List Int)}(h:smG g=true):lpF (zUf (odT []) (loT [])) g.length (iSz 1 g g.length 0)=some (.x 0,⟨[vi (szF g)],[],[]⟩):=by
 obtain⟨h1,h2⟩:=jAg h;exact yZ (st:=zUf (odT []) (loT [])) (iv:=fun k v=>iSz v g g.length k) (g:=fun k(v:Int)=>(.inl (v.mul (.ofNat (gI g k).length)):Int⊕Int)) (d:=id) (out:=fun v=>(.x 0,⟨[vi v],[],[]⟩)) (n:=g.length) (fun k v=>0≤v∧v≤32^k)
  (fun k v hk hJ=>by
   rw[sSz];show(bif Nat.blt k g.length then _ else _)=_;have hp:(32:Int)^k≤32^4:=by rcases(show k=0∨k=1∨k=2∨k=3 by omega)with rfl | rfl | rfl | rfl<;>decide
   have h32:=h2 k hk;have e1:0≤v.mul (.ofNat (gI g k).length):=Int.mul_nonneg hJ.1 (Int.natCast_nonneg _);have e2:v.mul (.ofNat (gI g k).length)≤32^4*32:=Int.mul_le_mul (Int.le_trans hJ.2 hp) (show((gI g k).length:Int)≤32 by omega) (Int.natCast_nonneg _) (by decide)
   simp only[gd,zO hk,cond_true,zCz e1 (by have:(32:Int)^4*32=33554432:=rfl;omega),xV (show k+1<9223372036854775808 by omega)])
  (fun k v v2 hk hJ hg=>by
   cases hg;have h32:=h2 k hk;refine⟨Int.mul_nonneg hJ.1 (Int.natCast_nonneg _),?_⟩;rw[Int.pow_succ];exact Int.mul_le_mul hJ.2 (show((gI g k).length:Int)≤32 by omega) (Int.natCast_nonneg _) (Int.le_trans hJ.1 hJ.2))
  (fun v hJ=>by rw[sSz];show(bif Nat.blt g.length g.length then _ else _)=_;rw[kE (Nat.le_refl _),cond_false];rfl) g.length 0 1 (by omega) ⟨by decide,by decide⟩
noncomputable def hSz:Hs→DT (Ex×Hs)
 | ⟨[.v (.int .i64 (.ofNat 1)),.ls .a (.list (.int .i64)) g,.v (.int .i64 (.ofNat n)),.v (.int .i64 (.ofNat 0))],[],[]⟩=>grd (Nat.beq n g.length&&smG g) (.ret (.x 0,⟨[vi (szF g)],[],[]⟩))
 | _=> .no
theorem qTv:∀q y,(hSz q).run=some y→∃n,It (zUf (odT []) (loT [])) n q y:=fun q y h=>by
 unfold hSz at h;split at h
 ·rename_i g n;obtain⟨h1,h2⟩:=zV h;simp only[Bool.and_eq_true]at h1;obtain rfl:=zY h1.1;have:=kF _ _ (lpSz h1.2);cases h2;exact this
 ·cases h
noncomputable abbrev LC:Lo:=loT [(59,[false,true,false,true,true],Lc0.row hC0),(64,[false,true,false,true,true],Lsz.row hSz)]
theorem jBv:mQ Tryz.prog LC:=yK (yK qZ fC qQf qTv) qZt qPr qTf
theorem eIc(g:List (List Int)):((qW Tryz.prog (evD Tryz.prog (odT []) (LC) 60) 59 [.ls .a nT.list g] []).bind jB).run=bif ieq (.ofNat g.length) (.ofNat 0)then some (vn 3,true)else(bif ilt (.ofNat 4) (.ofNat g.length)then some (vn 4,true)else gd ((Nat.beq g.length g.length)&&(Nat.blt g.length 9223372036854775807)) (bif isN (c0F g)then gd ((Nat.beq g.length g.length)&&(smG g)) (bif ilt (.ofNat 256) (szF g)then some (vn 10,true)else some (vn 0,true))else some (vi (eN (c0F g)),true))):=by kernel_rfl
noncomputable def icE(g:List (List Int)):Int:=bif ieq (.ofNat g.length) (.ofNat 0)then 3 else(bif ilt (.ofNat 4) (.ofNat g.length)then 4 else(bif isN (c0F g)then(bif ilt (.ofNat 256) (szF g)then 10 else 0)else eN (c0F g)))
theorem zAj{γ:Type}{g:Nat→Unit→Unit⊕γ}{d:γ}(hg:∀i y,g i ()= .inr y→y≠d):∀(k i:Nat),fol g (fun _=>d) k i ()=d→∀j,i≤j→j<i+k→g j ()= .inl ()
 | 0,i,_,j,h1,h2=>by omega
 | k+1,i,h,j,h1,h2=>by
  simp only[fol]at h;cases H:g i ()with
  | inr y=>rw[H]at h;exact absurd h (hg i y H)
  | inl x=>
   rw[H]at h;rcases Nat.eq_or_lt_of_le h1 with rfl | hlt
   ·exact H
   ·exact zAj hg k (i+1) h j hlt (by omega)
theorem zUv{g:List (List Int)}{i:Nat}{y:Option Int}(h:gC0 g i ()= .inr y):∃e,y=some e∧e≠0:=by
 unfold gC0 at h;cases h1:ieq (.ofNat (gI g i).length) (.ofNat 0)with
 | true=>rw[h1]at h;cases h;exact⟨3,rfl,by decide⟩
 | false=>
  rw[h1]at h;cases h2:ilt (.ofNat 32) (.ofNat (gI g i).length)with
  | true=>rw[h2]at h;cases h;exact⟨4,rfl,by decide⟩
  | false=>
   rw[h2]at h;cases h3:c1F (gI g i) (gI g i)with
   | true=>rw[h3]at h;cases h;exact⟨1,rfl,by decide⟩
   | false=>rw[h3]at h;cases h
theorem zUk{g:List (List Int)}(h:c0F g=none){k:Nat}(hk:k<g.length):1≤(gI g k).length∧(gI g k).length≤32∧c1F (gI g k) (gI g k)=false:=by
 have H:=zAj (g:=gC0 g) (d:=none) (fun i y hy e=>by obtain⟨e',h1,_⟩:=zUv hy;rw[e]at h1;cases h1) g.length 0 h k (Nat.zero_le _) (by omega)
 unfold gC0 at H;cases h1:ieq (.ofNat (gI g k).length) (.ofNat 0)with
 | true=>rw[h1]at H;cases H
 | false=>
  rw[h1]at H;cases h2:ilt (.ofNat 32) (.ofNat (gI g k).length)with
  | true=>rw[h2]at H;cases H
  | false=>
   rw[h2]at H;cases h3:c1F (gI g k) (gI g k)with
   | true=>rw[h3]at H;cases H
   | false=>
    refine⟨?_,zGm h2,rfl⟩;rcases Nat.eq_zero_or_pos (gI g k).length with e | e
    ·rw[e]at h1;cases h1
    ·exact e
theorem jAh{g:List (List Int)}(h4:g.length≤4)(h:c0F g=none):smG g=true:=by
 simp only[smG,Bool.and_eq_true,List.all_eq_true];refine⟨vO h4,fun c hc=>?_⟩;obtain⟨k,hk⟩:=List.getElem?_of_mem hc;have hlt:=(List.getElem?_eq_some_iff.1 hk).1;have e:gI g k=c:=by rw[qDa hlt];exact(List.getElem?_eq_some_iff.1 hk).2
 have:=(zUk h hlt).2.1;rw[e]at this;exact vO this
theorem dH{n:Nat}{c:Nat}(h:ilt (.ofNat n) (.ofNat c)=false):c≤n:=by
 have h:Nat.blt n c=false:=h;rcases Nat.lt_or_ge n c with g | g
 ·rw[zO g]at h;cases h
 ·exact g
noncomputable def oIc:List T→DT (T×Bool)
 | [.ls .a (.list (.int .i64)) g]=> .ret (.v (.int .i64 (icE g)),true)
 | _=> .no
theorem qUa(g:List (List Int)):((qW Tryz.prog (evD Tryz.prog (odT []) (LC) 60) 59 [.ls .a nT.list g] []).bind jB).run=yI (icE g):=by
 rw[eIc];unfold icE;cases h1:ieq (.ofNat g.length) (.ofNat 0)with
 | true=>rfl
 | false=>
  cases h2:ilt (.ofNat 4) (.ofNat g.length)with
  | true=>rfl
  | false=>
   have h4:=dH h2;simp only[cond_false,gd,vN,zO (show g.length<9223372036854775807 by omega),Bool.and_self,cond_true]
   cases h3:c0F g with
   | some e=>rfl
   | none=>
    rw[jAh h4 h3];simp only[isN,cond_true,Bool.and_self];cases ilt (.ofNat 256) (szF g)<;>rfl
theorem kIc:∀az tv nw,(oIc az).run=some (tv,nw)→∀k,KnP Tryz.prog k 59 az tv nw:=by
 intro az tv nw h k;unfold oIc at h;split at h
 ·rename_i g;cases h;exact kQ (cz:=[.ls .a nT.list g]) xA yO jBv (qUa g) rfl k
 ·cases h
theorem kX{a b:Int}(h:ilt a b=false):b≤a:=Int.not_lt.1 fun k=>by rw[wZ k]at h;cases h
structure Grid(g:List (List Int)):Prop where
 le4:g.length≤4
 pos:1≤g.length
 cut:∀k,k<g.length→1≤(gI g k).length∧(gI g k).length≤32∧c1F (gI g k) (gI g k)=false
 size:szF g≤256
theorem zUw{g:List (List Int)}(h:icE g=0):Grid g:=by
 unfold icE at h;cases h1:ieq (.ofNat g.length) (.ofNat 0)with
 | true=>rw[h1]at h;cases h
 | false=>
  rw[h1,cond_false]at h;cases h2:ilt (.ofNat 4) (.ofNat g.length)with
  | true=>rw[h2]at h;cases h
  | false=>
   rw[h2,cond_false]at h;have hp:1≤g.length:=by
    rcases Nat.eq_zero_or_pos g.length with e | e
    ·rw[e]at h1;cases h1
    ·exact e
   cases h3:c0F g with
   | some e=>
    rw[h3]at h;exfalso;have:∀(k i:Nat),fol (gC0 g) (fun _=>none) k i ()=some e→e≠0:=fun k=>by
     induction k with
     | zero=>intro i hf;cases hf
     | succ k ih=>
      intro i hf;simp only[fol]at hf;cases H:gC0 g i ()with
      | inl x=>rw[H]at hf;exact ih (i+1) hf
      | inr y=>
       rw[H]at hf;obtain⟨e',h5,h6⟩:=zUv H;rw[h5]at hf;cases hf;exact h6
    exact this _ _ h3 h
   | none=>
    rw[h3]at h;refine⟨dH h2,hp,fun k hk=>zUk h3 hk,?_⟩;cases h4:ilt (.ofNat 256) (szF g)with
    | true=>rw[h4]at h;cases h
    | false=>exact kX h4
theorem zCp{c:List Int}(h:c1F c c=false){i:Nat}(hi:i<c.length): -1073741824≤nI c i∧nI c i≤1073741824∧(0<i→nI c (i-1)<nI c i):=by
 have H:=zAj (g:=gC1 c c) (d:=false) (fun i y hy e=>by unfold gC1 at hy;cases hb:qBy c c i<;>rw[hb]at hy<;>cases hy;cases e) c.length 0 h i (Nat.zero_le _) (by omega)
 unfold gC1 at H;cases hb:qBy c c i with
 | true=>rw[hb]at H;cases H
 | false=>
  unfold qBy at hb;simp only[Bool.or_eq_false_iff]at hb;obtain⟨h1,h2,h3⟩:=hb;refine⟨kX h1,kX h2,fun h0=>?_⟩;have e0:ilt (.ofNat 0) (.ofNat i)=true:=zO h0;rw[e0,Bool.true_and,Bool.not_eq_false']at h3;exact xM.1 h3
noncomputable abbrev ON0(ck:Raw→Int)(ad su mu:Raw→Raw→Raw)(ae se me:Raw→Raw→Int)(cm ce:Raw→Raw→Int)(fr:Int→Raw)(eqB:Raw→Raw→Bool):Od:=odT (qKw ck ad su mu ae se me cm ce fr eqB)
theorem eCr(ck:Raw→Int)(ad su mu:Raw→Raw→Raw)(ae se me:Raw→Raw→Int)(cm ce:Raw→Raw→Int)(fr:Int→Raw)(eqB:Raw→Raw→Bool)(x:Raw):((qW Tryz.prog (evD Tryz.prog (ON0 ck ad su mu ae se me cm ce fr eqB) (loT []) 60) 63 [.ag (rC x)] []).bind jB).run=bif !(ieq (ck x) 0)then some (vi (ck x),true)else(bif ilt (.ofNat 8) (.ofNat x.ln.length)then some (vn 4,true)else(bif ilt (.ofNat 8) (.ofNat x.ld.length)then some (vn 4,true)else some (vn 0,true))):=by kernel_rfl
section
variable (ck:Raw→Int)
noncomputable def crE(x:Raw):Int:=bif !ieq (ck x) 0 then ck x else(bif ilt (.ofNat 8) (.ofNat x.ln.length)then 4 else(bif ilt (.ofNat 8) (.ofNat x.ld.length)then 4 else 0))
end
noncomputable def oCr(cr:Raw→Int):List T→DT (T×Bool)
 | [.ag [.v (.bool s),.ls .a .lim l,.ls .a .lim m]]=> .ret (.v (.int .i64 (cr ⟨s,l,m⟩)),true)
 | _=> .no
theorem qRg(ck:Raw→Int)(ad su mu:Raw→Raw→Raw)(ae se me:Raw→Raw→Int)(cm ce:Raw→Raw→Int)(fr:Int→Raw)(eqB:Raw→Raw→Bool)(x:Raw):((qW Tryz.prog (evD Tryz.prog (ON0 ck ad su mu ae se me cm ce fr eqB) (loT []) 60) 63 [.ag (rC x)] []).bind jB).run=yI (crE ck x):=by
 rw[eCr];unfold crE;cases ieq (ck x) 0<;>cases ilt (.ofNat 8) (.ofNat x.ln.length)<;>cases ilt (.ofNat 8) (.ofNat x.ld.length)<;>rfl
theorem kCr:∀az tv nw,(oCr (crE Raw.chk) az).run=some (tv,nw)→∀k,KnP Tryz.prog k 63 az tv nw:=by
 intro az tv nw h k;unfold oCr at h;split at h
 ·rename_i s l m;cases h;exact kQ (cz:=[.ag (rC ⟨s,l,m⟩)]) xA zVr qZ (qRg Raw.chk adA suA muA aeA seA meA vU nO frA eqA ⟨s,l,m⟩) rfl k
 ·cases h
noncomputable abbrev nzT:Ty:= .prod nT zP
abbrev Nz:=Ty.den nzT
noncomputable abbrev zI(l:List Nz)(i:Nat):Nz:=nth nzT.zero l i
noncomputable def iCn(q l:List Nz)(n i:Nat)(t:Raw):Hs:=⟨[.ls .a nzT q,.ls .a nzT l,vn n,vn i],[],[rN t]⟩
noncomputable def iCz(q l:List Nz)(n i:Nat):Hs:=⟨[.ls .a nzT q,.ls .a nzT l,vn n,vn i],[],[[.v (.bool false),.v (.slice none 0 0),.v (.slice none 0 0)]]⟩
noncomputable def Lcn:Lp:=⟨1,
 ⟨[.h,.u,.u,.t (.op 0 0)]++(us' 14++([.h,.h,.h]++(us' 57))),[.r [.h,.h,.h] 28]⟩,
 ⟨us' 3++([.t (.op 0 0)]++(us' 74)),[.r [.h,.h,.h] 28]⟩,
 ⟨[.u,.u,.h]++(us' 75),[.g]⟩⟩
noncomputable abbrev qNe:Code:=lpc Tryz.prog 62 [false,true,false,true,true,true]
theorem qPt:cAt Tryz.prog 62 [false,true,false,true,true,true]=some (.loop qNe):=by kernel_rfl
noncomputable abbrev zEb(OD:Od)(LO:Lo):Hs→Option (Hs⊕(Ex×Hs)):=Lcn.stp (evD Tryz.prog OD LO 60) 62 [false,true,false,true,true,true] qNe
noncomputable abbrev OD1(cr:Raw→Int)(ck:Raw→Int)(ad su mu:Raw→Raw→Raw)(ae se me:Raw→Raw→Int)(cm ce:Raw→Raw→Int)(fr:Int→Raw)(eqB:Raw→Raw→Bool):Od:=odT ((61,odR [spT,.list nT] qKx)::(59,odR [.list (.list nT)] oIc)::(63,odR [zP] (oCr cr))::qKw ck ad su mu ae se me cm ce fr eqB)
theorem sCz(cr:Raw→Int)(ck:Raw→Int)(ad su mu:Raw→Raw→Raw)(ae se me:Raw→Raw→Int)(cm ce:Raw→Raw→Int)(fr:Int→Raw)(eqB:Raw→Raw→Bool)(q l:List Nz)(n i:Nat):zEb (OD1 cr ck ad su mu ae se me cm ce fr eqB) (loT []) (iCz q l n i)=bif ilt (.ofNat i) (.ofNat n)then gd (Nat.blt i l.length) (bif !(yJ ((-100)) 100 ([(zI l i).1].reverse))then some (.inr (.r,⟨[vn 1],[],[[]]⟩))else(bif ilt (.ofNat 0) (.ofNat i)then gd (inW (pr i)) (gd (nng (pr i)) (gd (Nat.blt ((pr i).toNat) q.length) (bif !(ilt ((zI q ((pr i).toNat)).1) ((zI l i).1))then some (.inr (.r,⟨[vn 16],[],[[]]⟩))else(bif !(ieq (cr (rw' ((zI l i).2))) 0)then some (.inr (.r,⟨[vi (cr (rw' ((zI l i).2)))],[],[[]]⟩))else(bif((zI l i).2).1 then some (.inr (.r,⟨[vn 1],[],[[]]⟩))else(bif ieq (.ofNat (((((zI l i).2).2).1).length)) (.ofNat 0)then some (.inr (.r,⟨[vn 1],[],[[]]⟩))else nx i (.inl ⟨[.ls .a nzT q,.ls .a nzT l,vn n,vn (i+1)],[],[(rN (ad ⟨false,[],[]⟩ (rw' ((zI l i).2))))]⟩)))))))else(bif !(ieq (cr (rw' ((zI l i).2))) 0)then some (.inr (.r,⟨[vi (cr (rw' ((zI l i).2)))],[],[[]]⟩))else(bif((zI l i).2).1 then some (.inr (.r,⟨[vn 1],[],[[]]⟩))else(bif ieq (.ofNat (((((zI l i).2).2).1).length)) (.ofNat 0)then some (.inr (.r,⟨[vn 1],[],[[]]⟩))else nx i (.inl ⟨[.ls .a nzT q,.ls .a nzT l,vn n,vn (i+1)],[],[(rN (ad ⟨false,[],[]⟩ (rw' ((zI l i).2))))]⟩))))))else some (.inr (.x 1,⟨[],[],[[.v (.bool false),.v (Value.slice none 0 0),.v (Value.slice none 0 0)]]⟩)):=by kernel_rfl
theorem sCn(cr:Raw→Int)(ck:Raw→Int)(ad su mu:Raw→Raw→Raw)(ae se me:Raw→Raw→Int)(cm ce:Raw→Raw→Int)(fr:Int→Raw)(eqB:Raw→Raw→Bool)(q l:List Nz)(n i:Nat)(t:Raw):zEb (OD1 cr ck ad su mu ae se me cm ce fr eqB) (loT []) (iCn q l n i t)=bif ilt (.ofNat i) (.ofNat n)then gd (Nat.blt i l.length) (bif !(yJ ((-100)) 100 ([(zI l i).1].reverse))then some (.inr (.r,⟨[vn 1],[],[[]]⟩))else(bif ilt (.ofNat 0) (.ofNat i)then gd (inW (pr i)) (gd (nng (pr i)) (gd (Nat.blt ((pr i).toNat) q.length) (bif !(ilt ((zI q ((pr i).toNat)).1) ((zI l i).1))then some (.inr (.r,⟨[vn 16],[],[[]]⟩))else(bif !(ieq (cr (rw' ((zI l i).2))) 0)then some (.inr (.r,⟨[vi (cr (rw' ((zI l i).2)))],[],[[]]⟩))else(bif((zI l i).2).1 then some (.inr (.r,⟨[vn 1],[],[[]]⟩))else(bif ieq (.ofNat (((((zI l i).2).2).1).length)) (.ofNat 0)then some (.inr (.r,⟨[vn 1],[],[[]]⟩))else nx i (.inl ⟨[.ls .a nzT q,.ls .a nzT l,vn n,vn (i+1)],[],[(rN (ad t (rw' ((zI l i).2))))]⟩)))))))else(bif !(ieq (cr (rw' ((zI l i).2))) 0)then some (.inr (.r,⟨[vi (cr (rw' ((zI l i).2)))],[],[[]]⟩))else(bif((zI l i).2).1 then some (.inr (.r,⟨[vn 1],[],[[]]⟩))else(bif ieq (.ofNat (((((zI l i).2).2).1).length)) (.ofNat 0)then some (.inr (.r,⟨[vn 1],[],[[]]⟩))else nx i (.inl ⟨[.ls .a nzT q,.ls .a nzT l,vn n,vn (i+1)],[],[(rN (ad t (rw' ((zI l i).2))))]⟩))))))else some (.inr (.x 1,⟨[],[],[(rN t)]⟩)):=by kernel_rfl
section
variable (cr:Raw→Int)(ck:Raw→Int)(ad su mu:Raw→Raw→Raw)(ae se me:Raw→Raw→Int)(cm ce:Raw→Raw→Int)(fr:Int→Raw)(eqB:Raw→Raw→Bool)
noncomputable abbrev r0:Raw:=⟨false,[],[]⟩
noncomputable def gCn(q l:List Nz)(i:Nat)(t:Raw):Raw⊕(Raw⊕Int):=bif !yJ (-100) 100 [(zI l i).1]then .inr (.inr 1)else(bif ilt (.ofNat 0) (.ofNat i)&&!ilt (zI q (i-1)).1 (zI l i).1 then .inr (.inr 16)else(bif !ieq (cr (rw' (zI l i).2)) 0 then .inr (.inr (cr (rw' (zI l i).2)))else(bif(zI l i).2.1 then .inr (.inr 1)else(bif ieq (.ofNat (zI l i).2.2.1.length) (.ofNat 0)then .inr (.inr 1)else .inl (ad t (rw' (zI l i).2))))))
noncomputable def cnF(q l:List Nz):Raw⊕Int:=fol (gCn cr ad q l) .inl l.length 0 r0
noncomputable def qUg(q l:List Nz):Nat→Raw→Hs
 | 0,_=>iCz q l l.length 0
 | i+1,t=>iCn q l l.length (i+1) t
noncomputable def qOt:Raw⊕Int→Ex×Hs
 | .inl t=>(.x 1,⟨[],[],[rN t]⟩)
 | .inr e=>(.r,⟨[vi e],[],[[]]⟩)
theorem lpCn{q l:List Nz}(h0:0<l.length)(h9:l.length<9223372036854775807)(H:l.length≤q.length):lpF (zEb (OD1 cr ck ad su mu ae se me cm ce fr eqB) (loT [])) l.length (iCz q l l.length 0)=some (qOt (cnF cr ad q l)):=
 yZ (st:=zEb (OD1 cr ck ad su mu ae se me cm ce fr eqB) (loT [])) (iv:=qUg q l) (g:=gCn cr ad q l) (d:= .inl) (out:=qOt) (n:=l.length) (fun i t=>i=0→t=r0)
  (fun i t hi hJ=>by
   cases i with
   | zero=>
    obtain rfl:=hJ rfl;show zEb (OD1 cr ck ad su mu ae se me cm ce fr eqB) (loT []) (iCz q l l.length 0)=_;rw[sCz];unfold gCn;have e1:ilt (.ofNat 0) (.ofNat l.length)=true:=zO h0;have e:ilt (.ofNat 0) (.ofNat 0)=false:=rfl;have e5:[(zI l 0).1].reverse=[(zI l 0).1]:=rfl;rw[e1,e,e5];simp only[gd,zO hi,cond_true,cond_false,Bool.false_and,xV (show 0+1<9223372036854775808 by omega)]
    cases yJ (-100) 100 [(zI l 0).1]<;>cases ieq (cr (rw' (zI l 0).2)) 0<;>cases(zI l 0).2.1<;>cases ieq (.ofNat (zI l 0).2.2.1.length) (.ofNat 0)<;>rfl
   | succ i=>
    show zEb (OD1 cr ck ad su mu ae se me cm ce fr eqB) (loT []) (iCn q l l.length (i+1) t)=_;rw[sCn];unfold gCn;have e1:ilt (.ofNat (i+1)) (.ofNat l.length)=true:=zO hi;have e:ilt (.ofNat 0) (.ofNat (i+1))=true:=rfl;have e4:(Int.ofNat i).toNat=i:=rfl;have e5:[(zI l (i+1)).1].reverse=[(zI l (i+1)).1]:=rfl;rw[e1,e,e5,prS,qK (show i<9223372036854775808 by omega),e4]
    simp only[gd,nng,zO hi,zO (show i<q.length by omega),cond_true,Bool.true_and,Nat.add_sub_cancel,xV (show i+1+1<9223372036854775808 by omega)]
    cases yJ (-100) 100 [(zI l (i+1)).1]<;>cases ilt (zI q i).1 (zI l (i+1)).1<;>cases ieq (cr (rw' (zI l (i+1)).2)) 0<;>cases(zI l (i+1)).2.1<;>cases ieq (.ofNat (zI l (i+1)).2.2.1.length) (.ofNat 0)<;>rfl)
  (fun i t t2 hi hJ hg e=>by omega)
  (fun t hJ=>by
   obtain⟨m,hm⟩:∃m,l.length=m+1:=⟨l.length-1,by omega⟩
   show zEb (OD1 cr ck ad su mu ae se me cm ce fr eqB) (loT []) (qUg q l l.length t)=_;have e:qUg q l l.length t=iCn q l l.length l.length t:=by
    rw[hm];show iCn q l l.length (m+1) t=_;rw[hm]
   rw[e,sCn];show(bif Nat.blt l.length l.length then _ else _)=_;rw[kE (Nat.le_refl _),cond_false];rfl) l.length 0 r0 (by omega) (fun _=>rfl)
noncomputable def isL:Raw⊕Int→Bool
 | .inl _=>true
 | .inr _=>false
noncomputable def rL:Raw⊕Int→Raw
 | .inl t=>t
 | .inr _=>r0
noncomputable def eL:Raw⊕Int→Int
 | .inl _=>0
 | .inr e=>e
noncomputable def hCn:Hs→DT (Ex×Hs)
 | ⟨[.ls .a (.prod (.int .i64) zP) q,.ls .a (.prod (.int .i64) zP) l,.v (.int .i64 (.ofNat n)),.v (.int .i64 (.ofNat 0))],[],[[.v (.bool false),.v (.slice none 0 0),.v (.slice none 0 0)]]⟩=>grd (Nat.beq n l.length&&(Nat.blt 0 l.length&&(Nat.ble l.length q.length&&Nat.blt l.length 9223372036854775807))) (.ite (isL (cnF cr ad q l)) (.ret (.x 1,⟨[],[],[rN (rL (cnF cr ad q l))]⟩)) (.ret (.r,⟨[vi (eL (cnF cr ad q l))],[],[[]]⟩)))
 | _=> .no
theorem qTh:∀q y,(hCn cr ad q).run=some y→∃n,It (zEb (OD1 cr ck ad su mu ae se me cm ce fr eqB) (loT [])) n q y:=fun q y h=>by
 unfold hCn at h;split at h
 ·rename_i q l n;obtain⟨h1,h2⟩:=zV h;simp only[Bool.and_eq_true,Nat.ble_eq]at h1;obtain⟨h3,h4,h5,h6⟩:=h1;obtain rfl:=zY h3;have:=kF _ _ (lpCn cr ck ad su mu ae se me cm ce fr eqB (qY h4) (qY h6) h5);cases hb:cnF cr ad q l<;>rw[hb]at h2 this<;>cases h2<;>exact this
 ·cases h
noncomputable abbrev LCn:Lo:=loT [(62,[false,true,false,true,true,true],Lcn.row (hCn cr ad))]
end
theorem eCn(cr:Raw→Int)(ck:Raw→Int)(ad su mu:Raw→Raw→Raw)(ae se me:Raw→Raw→Int)(cm ce:Raw→Raw→Int)(fr:Int→Raw)(eqB:Raw→Raw→Bool)(l:List Nz):((qW Tryz.prog (evD Tryz.prog (OD1 cr ck ad su mu ae se me cm ce fr eqB) (LCn cr ad) 60) 62 [.ls .a nzT l] []).bind jB).run=bif ieq (.ofNat l.length) (.ofNat 0)then some (vn 3,true)else(bif ilt (.ofNat 5) (.ofNat l.length)then some (vn 4,true)else gd ((Nat.beq l.length l.length)&&((Nat.blt 0 l.length)&&((Nat.ble l.length l.length)&&(Nat.blt l.length 9223372036854775807)))) (bif isL (cnF cr ad l l)then(bif !(ieq (cm (rL (cnF cr ad l l)) (fr 1)) 0)then some (vn 2,true)else some (vn 0,true))else some (vi (eL (cnF cr ad l l)),true))):=by kernel_rfl
section
variable (cr:Raw→Int)(ck:Raw→Int)(ad su mu:Raw→Raw→Raw)(ae se me:Raw→Raw→Int)(cm ce:Raw→Raw→Int)(fr:Int→Raw)(eqB:Raw→Raw→Bool)
noncomputable def cnE(l:List Nz):Int:=bif ieq (.ofNat l.length) (.ofNat 0)then 3 else(bif ilt (.ofNat 5) (.ofNat l.length)then 4 else(bif isL (cnF cr ad l l)then(bif !ieq (cm (rL (cnF cr ad l l)) (fr 1)) 0 then 2 else 0)else eL (cnF cr ad l l)))
theorem qRe(l:List Nz):((qW Tryz.prog (evD Tryz.prog (OD1 cr ck ad su mu ae se me cm ce fr eqB) (LCn cr ad) 60) 62 [.ls .a nzT l] []).bind jB).run=yI (cnE cr ad cm fr l):=by
 rw[eCn];unfold cnE;cases h1:ieq (.ofNat l.length) (.ofNat 0)with
 | true=>rfl
 | false=>
  cases h2:ilt (.ofNat 5) (.ofNat l.length)with
  | true=>rfl
  | false=>
   have h5:=dH h2;have h0:0<l.length:=by
    rcases Nat.eq_zero_or_pos l.length with e | e
    ·rw[e]at h1;cases h1
    ·exact e
   simp only[cond_false,gd,vN,zO h0,vO (Nat.le_refl l.length),zO (show l.length<9223372036854775807 by omega),Bool.and_self,cond_true]
   cases isL (cnF cr ad l l)<;>cases ieq (cm (rL (cnF cr ad l l)) (fr 1)) 0<;>rfl
end
noncomputable def oCn(cn:List Nz→Int):List T→DT (T×Bool)
 | [.ls .a (.prod (.int .i64) zP) l]=> .ret (.v (.int .i64 (cn l)),true)
 | _=> .no
noncomputable abbrev crA:Raw→Int:=crE Raw.chk
theorem zSw:vL Tryz.prog (OD1 crA Raw.chk adA suA muA aeA seA meA vU nO frA eqA):=zX (zX (zX zVr (jY kCr)) (jY kIc)) (jY kHas)
theorem qZq:dY Tryz.prog (evD Tryz.prog (OD1 crA Raw.chk adA suA muA aeA seA meA vU nO frA eqA) (loT []) 60):=tT xA zSw qZ 60
theorem qXg:mQ Tryz.prog (LCn crA adA):=yK qZ qZq qPt (qTh crA Raw.chk adA suA muA aeA seA meA vU nO frA eqA)
noncomputable abbrev cnA(l:List Nz):Int:=cnE crA adA vU frA l
theorem kCn:∀az tv nw,(oCn cnA az).run=some (tv,nw)→∀k,KnP Tryz.prog k 62 az tv nw:=by
 intro az tv nw h k;unfold oCn at h;split at h
 ·rename_i l;cases h;exact kQ (cz:=[.ls .a nzT l]) xA zSw qXg (qRe crA Raw.chk adA suA muA aeA seA meA vU nO frA eqA l) rfl k
 ·cases h
noncomputable abbrev bT:Ty:= .prod (.int .u8) (.prod nT nT)
abbrev Bd:=Ty.den bT
abbrev MF(α:Type):=List Int→List Int→List Int→List Bd→Int→Int→Int→List Nz→List Nz→Raw→Raw→Raw→α
abbrev TF(α:Type):=MF (Int→List (List Int)→List (List Int)→α)
abbrev LF(α:Type):=TF (Int→Int→Int→Int→Int→α)
noncomputable abbrev bI(l:List Bd)(i:Nat):Bd:=nth bT.zero l i
noncomputable abbrev mdC(h o t:List Int)(G:List Bd)(P D S:Int)(O U:List Nz)(C st V:Raw):List T:=[.ls .a nT h,.ls .a nT o,.ls .a nT t,.ls .a bT G,vi P,vi D,vi S,.ls .a nzT O,.ls .a nzT U,.v (.bool C.1),.ls .a .lim C.2,.ls .a .lim C.3,.v (.bool st.1),.ls .a .lim st.2,.ls .a .lim st.3,.v (.bool V.1),.ls .a .lim V.2,.ls .a .lim V.3]
noncomputable abbrev OX(cn:List Nz→Int)(cr:Raw→Int)(ck:Raw→Int)(ad su mu:Raw→Raw→Raw)(ae se me:Raw→Raw→Int)(cm ce:Raw→Raw→Int)(fr:Int→Raw)(eqB:Raw→Raw→Bool):Od:=odT ((62,odR [.list nzT] (oCn cn))::(61,odR [spT,.list nT] qKx)::(59,odR [.list (.list nT)] oIc)::(63,odR [zP] (oCr cr))::qKw ck ad su mu ae se me cm ce fr eqB)
noncomputable def iDc(l:List Bd)(n i:Nat)(h o t:List Int)(G:List Bd)(P D S:Int)(O U:List Nz)(C st V:Raw):Hs:=⟨[.ls .a bT l,vn n,vn i],[],[[.ls .a nT h,.ls .a nT o,.ls .a nT t,.ls .a bT G,vi P,vi D,vi S,.ls .a nzT O,.ls .a nzT U,.v (.bool C.1),.ls .a .lim C.2,.ls .a .lim C.3,.v (.bool st.1),.ls .a .lim st.2,.ls .a .lim st.3,.v (.bool V.1),.ls .a .lim V.2,.ls .a .lim V.3],[],[],[],[]]⟩
noncomputable def Ldc:Lp:=⟨5,
 ⟨[.u,.t (.op 0 0),.u,.t (.fn 105 [.op 2 0,.op 1 0])]++(us' 49++([.h,.h,.h]++(us' 90))),[.r [.h,.h,.h,.h,.h,.h,.h,.h,.h,.h,.h,.h,.h,.h,.h,.h,.h,.h] 30,.r [.t (.v (.int .i64 (.ofNat 100)))] 3,.r [.t (.fn 61 [])] 184,.g,.g]⟩,
 ⟨[.u,.t (.op 0 0)]++(us' 144),[.r [.h,.h,.h,.h,.h,.h,.h,.h,.h,.h,.h,.h,.h,.h,.h,.h,.h,.h] 30,.g,.g,.g,.g]⟩,
 ⟨[.u,.u,.h]++(us' 143),[.g,.g,.g,.g,.g]⟩⟩
noncomputable abbrev qNf:Code:=lpc Tryz.prog 24 [false,true,false,true,true,true]
theorem qPu:cAt Tryz.prog 24 [false,true,false,true,true,true]=some (.loop qNf):=by kernel_rfl
noncomputable abbrev zZu(OD:Od)(LO:Lo):Hs→Option (Hs⊕(Ex×Hs)):=Ldc.stp (evD Tryz.prog OD LO 60) 24 [false,true,false,true,true,true] qNf
theorem sDc(cn:List Nz→Int)(cr:Raw→Int)(ck:Raw→Int)(ad su mu:Raw→Raw→Raw)(ae se me:Raw→Raw→Int)(cm ce:Raw→Raw→Int)(fr:Int→Raw)(eqB:Raw→Raw→Bool)(l:List Bd)(n i:Nat)(h o t:List Int)(G:List Bd)(P D S:Int)(O U:List Nz)(C st V:Raw):zZu (OX cn cr ck ad su mu ae se me cm ce fr eqB) (loT []) (iDc l n i h o t G P D S O U C st V)=bif ilt (.ofNat i) (.ofNat n)then gd (Nat.blt i l.length) (bif !(ieq ((bI l i).1) 1)then(bif !(ieq ((bI l i).1) 2)then some (.inr (.r,⟨[vn 6],[],[[],[],[],[],[]]⟩))else(bif ilt (((bI l i).2).2) (((bI l i).2).1)then some (.inr (.r,⟨[vn 1],[],[[],[],[],[],[]]⟩))else(bif !(yJ ((-100)) (.ofNat 100) ([((bI l i).2).2,((bI l i).2).1].reverse))then some (.inr (.r,⟨[vn 1],[],[[],[],[],[],[]]⟩))else nx i (.inl (iDc l n (i+1) h o t G P D S O U C st V)))))else(bif ilt (((bI l i).2).2) (((bI l i).2).1)then some (.inr (.r,⟨[vn 1],[],[[],[],[],[],[]]⟩))else(bif !(yJ ((-100)) (.ofNat 100) ([((bI l i).2).2,((bI l i).2).1].reverse))then some (.inr (.r,⟨[vn 1],[],[[],[],[],[],[]]⟩))else nx i (.inl (iDc l n (i+1) h o t G P D S O U C st V)))))else some (.inr (.x 1,⟨[],[],[[.ls .a nT h,.ls .a nT o,.ls .a nT t,.ls .a bT G,vi P,vi D,vi S,.ls .a nzT O,.ls .a nzT U,.v (.bool C.1),.ls .a .lim C.2,.ls .a .lim C.3,.v (.bool st.1),.ls .a .lim st.2,.ls .a .lim st.3,.v (.bool V.1),.ls .a .lim V.2,.ls .a .lim V.3],[],[],[],[]]⟩)):=by kernel_rfl
noncomputable def gDc(l:List Bd)(i:Nat)(_:Unit):Unit⊕Option Int:=bif !ieq (bI l i).1 1&&!ieq (bI l i).1 2 then .inr (some 6)else(bif ilt (bI l i).2.2 (bI l i).2.1 then .inr (some 1)else(bif !yJ (-100) 100 [(bI l i).2.1,(bI l i).2.2]then .inr (some 1)else .inl ()))
noncomputable def dvF(l:List Bd):Option Int:=fol (gDc l) (fun _=>none) l.length 0 ()
noncomputable def zWf(h o t:List Int)(G:List Bd)(P D S:Int)(O U:List Nz)(C st V:Raw):Option Int→Ex×Hs
 | none=>(.x 1,⟨[],[],[mdC h o t G P D S O U C st V,[],[],[],[]]⟩)
 | some e=>(.r,⟨[vi e],[],[[],[],[],[],[]]⟩)
section
variable (cn:List Nz→Int)(cr:Raw→Int)(ck:Raw→Int)(ad su mu:Raw→Raw→Raw)(ae se me:Raw→Raw→Int)(cm ce:Raw→Raw→Int)(fr:Int→Raw)(eqB:Raw→Raw→Bool)
theorem lpDc(h o t:List Int)(G:List Bd)(P D S:Int)(O U:List Nz)(C st V:Raw)(l:List Bd)(h9:l.length<9223372036854775807):lpF (zZu (OX cn cr ck ad su mu ae se me cm ce fr eqB) (loT [])) l.length (iDc l l.length 0 h o t G P D S O U C st V)=some (zWf h o t G P D S O U C st V (dvF l)):=
 yZ (iv:=fun i(_:Unit)=>iDc l l.length i h o t G P D S O U C st V) (g:=gDc l) (d:=fun _=>none) (out:=zWf h o t G P D S O U C st V) (n:=l.length) (fun _ _=>True)
  (fun i _ hi' _=>by
   rw[sDc];show(bif Nat.blt i l.length then _ else _)=_;unfold gDc;have e5:[(bI l i).2.2,(bI l i).2.1].reverse=[(bI l i).2.1,(bI l i).2.2]:=rfl;rw[e5];simp only[gd,zO hi',cond_true,xV (show i+1<9223372036854775808 by omega)]
   have e6:yJ (-100) (.ofNat 100) [(bI l i).2.1,(bI l i).2.2]=yJ (-100) 100 [(bI l i).2.1,(bI l i).2.2]:=rfl;rw[e6];cases ieq (bI l i).1 1<;>cases ieq (bI l i).1 2<;>cases ilt (bI l i).2.2 (bI l i).2.1<;>cases yJ (-100) 100 [(bI l i).2.1,(bI l i).2.2]<;>rfl)
  (fun _ _ _ _ _ _=>trivial)
  (fun _ _=>by rw[sDc];show(bif Nat.blt l.length l.length then _ else _)=_;rw[kE (Nat.le_refl _),cond_false];rfl) l.length 0 () (by omega) trivial
noncomputable def hDc:Hs→DT (Ex×Hs)
 | ⟨[.ls .a (.prod (.int .u8) (.prod (.int .i64) (.int .i64))) l,.v (.int .i64 (.ofNat n)),.v (.int .i64 (.ofNat 0))],[],[[.ls .a (.int .i64) h,.ls .a (.int .i64) o,.ls .a (.int .i64) t,.ls .a (.prod (.int .u8) (.prod (.int .i64) (.int .i64))) G,.v (.int .i64 P),.v (.int .i64 D),.v (.int .i64 S),.ls .a (.prod (.int .i64) zP) O,.ls .a (.prod (.int .i64) zP) U,.v (.bool ab),.ls .a .lim C,.ls .a .lim am,.v (.bool sb),.ls .a .lim sl,.ls .a .lim sm,.v (.bool rb),.ls .a .lim rl,.ls .a .lim rm],[],[],[],[]]⟩=>grd (Nat.beq n l.length&&Nat.blt l.length 9223372036854775807) (.ite (isN (dvF l)) (.ret (zWf h o t G P D S O U ⟨ab,C,am⟩ ⟨sb,sl,sm⟩ ⟨rb,rl,rm⟩ none)) (.ret (zWf h o t G P D S O U ⟨ab,C,am⟩ ⟨sb,sl,sm⟩ ⟨rb,rl,rm⟩ (some (eN (dvF l))))))
 | _=> .no
theorem qTi:∀q y,(hDc q).run=some y→∃n,It (zZu (OX cn cr ck ad su mu ae se me cm ce fr eqB) (loT [])) n q y:=fun q y hh=>by
 unfold hDc at hh;split at hh
 ·rename_i l n h o t G P D S O U ab C am sb sl sm rb rl rm;obtain⟨h1,h2⟩:=zV hh;simp only[Bool.and_eq_true]at h1;obtain rfl:=zY h1.1;have:=kF _ _ (lpDc cn cr ck ad su mu ae se me cm ce fr eqB h o t G P D S O U ⟨ab,C,am⟩ ⟨sb,sl,sm⟩ ⟨rb,rl,rm⟩ l (qY h1.2));cases hb:dvF l<;>rw[hb]at h2 this<;>cases h2<;>exact this
 ·cases hh
end
noncomputable abbrev LDc:Lo:=loT [(24,[false,true,false,true,true,true],Ldc.row hDc)]
noncomputable abbrev dr1(l:List Bd):List Bd:=List.take (l.length-1) (List.drop 1 l)
theorem eDc(cn:List Nz→Int)(cr:Raw→Int)(ck:Raw→Int)(ad su mu:Raw→Raw→Raw)(ae se me:Raw→Raw→Int)(cm ce:Raw→Raw→Int)(fr:Int→Raw)(eqB:Raw→Raw→Bool)(h o t:List Int)(G:List Bd)(P D S:Int)(O U:List Nz)(C st V:Raw):((qW Tryz.prog (evD Tryz.prog (OX cn cr ck ad su mu ae se me cm ce fr eqB) (LDc) 60) 24 [.ag (mdC h o t G P D S O U C st V)] []).bind jB).run=bif !(ieq (icE [h,o,t]) 0)then some (vi (icE [h,o,t]),true)else gd (Nat.blt h.length 9223372036854775807) (bif !(yJ ((-50000)) 50000 h)then some (vn 1,true)else gd (Nat.blt o.length 9223372036854775807) (bif !(yJ ((-100)) 100 o)then gd (!(yJ ((-100)) 100 o)) (some (vn 1,true))else(bif !(yJ ((-100)) 100 o)then some (vn 1,true)else gd (Nat.blt t.length 9223372036854775807) (bif !(yJ ((-100)) 100 t)then some (vn 1,true)else(bif ieq (.ofNat G.length) (.ofNat 0)then some (vn 3,true)else(bif ilt (.ofNat 6) (.ofNat G.length)then some (vn 4,true)else gd (Nat.ble 1 G.length) (gd (Nat.ble G.length G.length) (gd ((Nat.beq ((dr1 G).length) ((dr1 G).length))&&(Nat.blt ((dr1 G).length) 9223372036854775807)) (bif isN (dvF (dr1 G))then(bif !(yJ 0 100 [P])then some (vn 1,true)else(bif !(yJ 0 50000 [D])then some (vn 1,true)else(bif !(yJ 0 24 [S])then some (vn 1,true)else(bif !(ieq (cn O) 0)then some (vi (cn O),true)else(bif !(ieq (cn U) 0)then some (vi (cn U),true)else(bif !(ieq (cr C) 0)then some (vi (cr C),true)else(bif C.neg then some (vn 1,true)else(bif !(ieq (cr st) 0)then some (vi (cr st),true)else(bif st.neg then some (vn 1,true)else(bif !(ieq (cr V) 0)then some (vi (cr V),true)else(bif V.neg then some (vn 1,true)else gd (inW (.ofNat (h.length*o.length))) (gd (inW (.ofNat ((h.length*o.length)*t.length))) (gd (inW (.ofNat (((h.length*o.length)*t.length)*G.length))) (bif ilt (.ofNat 200) (.ofNat (((h.length*o.length)*t.length)*G.length))then some (vn 10,true)else some (vn 0,true)))))))))))))))else some (vi (eN (dvF (dr1 G))),true)))))))))):=by kernel_rfl
section
variable (cn:List Nz→Int)(cr:Raw→Int)(ck:Raw→Int)(ad su mu:Raw→Raw→Raw)(ae se me:Raw→Raw→Int)(cm ce:Raw→Raw→Int)(fr:Int→Raw)(eqB:Raw→Raw→Bool)
noncomputable def dcE(h o t:List Int)(G:List Bd)(P D S:Int)(O U:List Nz)(C st V:Raw):Int:=bif !ieq (icE [h,o,t]) 0 then icE [h,o,t]else(bif !yJ (-50000) 50000 h then 1 else(bif !yJ (-100) 100 o then 1 else(bif !yJ (-100) 100 t then 1 else(bif ieq (.ofNat G.length) (.ofNat 0)then 3 else(bif ilt (.ofNat 6) (.ofNat G.length)then 4 else(bif isN (dvF (dr1 G))then(bif !yJ 0 100 [P]then 1 else(bif !yJ 0 50000 [D]then 1 else(bif !yJ 0 24 [S]then 1 else(bif !ieq (cn O) 0 then cn O else(bif !ieq (cn U) 0 then cn U else(bif !ieq (cr C) 0 then cr C else(bif C.neg then 1 else(bif !ieq (cr st) 0 then cr st else(bif st.neg then 1 else(bif !ieq (cr V) 0 then cr V else(bif V.neg then 1 else(bif ilt (.ofNat 200) (.ofNat (h.length*o.length*t.length*G.length))then 10 else 0))))))))))))else eN (dvF (dr1 G))))))))
theorem zAn{h o t:List Int}(hi:icE [h,o,t]=0):(1≤h.length∧h.length≤32)∧(1≤o.length∧o.length≤32)∧(1≤t.length∧t.length≤32):=by
 have g:=zUw hi;have a:=g.cut 0 (show 0<3 by omega)
 have b:=g.cut 1 (show 1<3 by omega)
 have c:=g.cut 2 (show 2<3 by omega)
 exact⟨⟨a.1,a.2.1⟩,⟨b.1,b.2.1⟩,⟨c.1,c.2.1⟩⟩
theorem zFf{a b c d:Nat}(ha:a≤32)(hb:b≤32)(hc:c≤32)(hd:d≤6):a*b≤1024∧a*b*c≤32768∧a*b*c*d≤196608:=by
 have h1:=Nat.mul_le_mul ha hb;have h2:=Nat.mul_le_mul h1 hc;exact⟨h1,h2,Nat.mul_le_mul h2 hd⟩
theorem qRk(h o t:List Int)(G:List Bd)(P D S:Int)(O U:List Nz)(C st V:Raw):((qW Tryz.prog (evD Tryz.prog (OX cn cr ck ad su mu ae se me cm ce fr eqB) (LDc) 60) 24 [.ag (mdC h o t G P D S O U C st V)] []).bind jB).run=yI (dcE cn cr h o t G P D S O U C st V):=by
 rw[eDc];unfold dcE;cases e1:ieq (icE [h,o,t]) 0 with
 | false=>rfl
 | true=>
  obtain⟨⟨_,l1⟩,⟨_,l2⟩,⟨_,l3⟩⟩:=zAn (qP.1 e1);simp only[Bool.not_true,cond_false,gd,zO (show h.length<9223372036854775807 by omega),zO (show o.length<9223372036854775807 by omega),zO (show t.length<9223372036854775807 by omega),cond_true]
  cases yJ (-50000) 50000 h with
  | false=>rfl
  | true=>
   cases yJ (-100) 100 o with
   | false=>rfl
   | true=>
    cases yJ (-100) 100 t with
    | false=>rfl
    | true=>
     simp only[Bool.not_true,cond_false];cases e2:ieq (.ofNat G.length) (.ofNat 0)with
     | true=>rfl
     | false=>
      cases e3:ilt (.ofNat 6) (.ofNat G.length)with
      | true=>rfl
      | false=>
       have l4:=dH e3;have l0:1≤G.length:=by
        rcases Nat.eq_zero_or_pos G.length with e | e
        ·rw[e]at e2;cases e2
        ·exact e
       obtain⟨m1,m2,m3⟩:=zFf l1 l2 l3 l4;have ld:(dr1 G).length≤6:=by simp only[dr1,List.length_take,List.length_drop];omega
       simp only[cond_false,cond_true,vO l0,vO (Nat.le_refl G.length),vN,zO (show(dr1 G).length<9223372036854775807 by omega),Bool.and_self,qK (show h.length*o.length<9223372036854775808 by omega),qK (show h.length*o.length*t.length<9223372036854775808 by omega),qK (show h.length*o.length*t.length*G.length<9223372036854775808 by omega)]
       cases dvF (dr1 G)with
       | some e=>rfl
       | none=>
        simp only[isN,cond_true];cases yJ 0 100 [P]with
        | false=>rfl
        | true=>
         simp only[Bool.not_true,cond_false];cases yJ 0 50000 [D]with
         | false=>rfl
         | true=>
          simp only[Bool.not_true,cond_false];cases yJ 0 24 [S]with
          | false=>rfl
          | true=>
           simp only[Bool.not_true,cond_false];cases ieq (cn O) 0 with
           | false=>rfl
           | true=>
            simp only[Bool.not_true,cond_false];cases ieq (cn U) 0 with
            | false=>rfl
            | true=>
             simp only[Bool.not_true,cond_false];cases ieq (cr C) 0 with
             | false=>rfl
             | true=>
              simp only[Bool.not_true,cond_false];cases C.neg with
              | true=>rfl
              | false=>
               simp only[cond_false];cases ieq (cr st) 0 with
               | false=>rfl
               | true=>
                simp only[Bool.not_true,cond_false];cases st.neg with
                | true=>rfl
                | false=>
                 simp only[cond_false];cases ieq (cr V) 0 with
                 | false=>rfl
                 | true=>
                  simp only[Bool.not_true,cond_false];cases V.neg with
                  | true=>rfl
                  | false=>
                   simp only[cond_false];cases ilt (.ofNat 200) (.ofNat (h.length*o.length*t.length*G.length))<;>rfl
end
noncomputable abbrev mdT:Ty:= .prod (.list nT) (.prod (.list nT) (.prod (.list nT) (.prod (.list bT) (.prod nT (.prod nT (.prod nT (.prod (.list nzT) (.prod (.list nzT) (.prod zP (.prod zP zP))))))))))
noncomputable def oDc(dc:MF Int):List T→DT (T×Bool)
 | [.ag [.ls .a (.int .i64) h,.ls .a (.int .i64) o,.ls .a (.int .i64) t,.ls .a (.prod (.int .u8) (.prod (.int .i64) (.int .i64))) G,.v (.int .i64 P),.v (.int .i64 D),.v (.int .i64 S),.ls .a (.prod (.int .i64) zP) O,.ls .a (.prod (.int .i64) zP) U,.v (.bool ab),.ls .a .lim C,.ls .a .lim am,.v (.bool sb),.ls .a .lim sl,.ls .a .lim sm,.v (.bool rb),.ls .a .lim rl,.ls .a .lim rm]]=> .ret (.v (.int .i64 (dc h o t G P D S O U ⟨ab,C,am⟩ ⟨sb,sl,sm⟩ ⟨rb,rl,rm⟩)),true)
 | _=> .no
noncomputable abbrev ODs(dc:MF Int):Od:=odT [(24,odR [mdT] (oDc dc))]
theorem eSz(dc:MF Int)(h o t:List Int)(G:List Bd)(P D S:Int)(O U:List Nz)(C st V:Raw):((qW Tryz.prog (evD Tryz.prog (ODs dc) (loT []) 60) 15 [.ag (mdC h o t G P D S O U C st V)] []).bind jB).run=bif !(ieq (dc h o t G P D S O U C st V) 0)then some (.tu [vn 0,vi (dc h o t G P D S O U C st V)],true)else gd (inW (.ofNat (h.length*o.length))) (gd (inW (.ofNat ((h.length*o.length)*t.length))) (gd (inW (.ofNat (((h.length*o.length)*t.length)*G.length))) (some (.tu [vn (((h.length*o.length)*t.length)*G.length),vn 0],true)))):=by kernel_rfl
noncomputable abbrev dcA(h o t:List Int)(G:List Bd)(P D S:Int)(O U:List Nz)(C st V:Raw):Int:=dcE cnA crA h o t G P D S O U C st V
theorem qPc:vL Tryz.prog (OX cnA crA Raw.chk adA suA muA aeA seA meA vU nO frA eqA):=zX zSw (jY kCn)
theorem qZr:dY Tryz.prog (evD Tryz.prog (OX cnA crA Raw.chk adA suA muA aeA seA meA vU nO frA eqA) (loT []) 60):=tT xA qPc qZ 60
theorem qXi:mQ Tryz.prog LDc:=yK qZ qZr qPu (qTi cnA crA Raw.chk adA suA muA aeA seA meA vU nO frA eqA)
theorem kDc:∀az tv nw,(oDc dcA az).run=some (tv,nw)→∀k,KnP Tryz.prog k 24 az tv nw:=by
 intro az tv nw hh k;unfold oDc at hh;split at hh
 ·rename_i h o t G P D S O U ab C am sb sl sm rb rl rm;cases hh;exact kQ (cz:=[.ag (mdC h o t G P D S O U ⟨ab,C,am⟩ ⟨sb,sl,sm⟩ ⟨rb,rl,rm⟩)]) xA qPc qXi (qRk cnA crA Raw.chk adA suA muA aeA seA meA vU nO frA eqA h o t G P D S O U ⟨ab,C,am⟩ ⟨sb,sl,sm⟩ ⟨rb,rl,rm⟩) rfl k
 ·cases hh
theorem qYg:vL Tryz.prog (ODs dcA):=zX yO (jY kDc)
noncomputable def oSz(sz dc:MF Int):List T→DT (T×Bool)
 | [.ag [.ls .a (.int .i64) h,.ls .a (.int .i64) o,.ls .a (.int .i64) t,.ls .a (.prod (.int .u8) (.prod (.int .i64) (.int .i64))) G,.v (.int .i64 P),.v (.int .i64 D),.v (.int .i64 S),.ls .a (.prod (.int .i64) zP) O,.ls .a (.prod (.int .i64) zP) U,.v (.bool ab),.ls .a .lim C,.ls .a .lim am,.v (.bool sb),.ls .a .lim sl,.ls .a .lim sm,.v (.bool rb),.ls .a .lim rl,.ls .a .lim rm]]=> .ret (.tu [.v (.int .i64 (sz h o t G P D S O U ⟨ab,C,am⟩ ⟨sb,sl,sm⟩ ⟨rb,rl,rm⟩)),.v (.int .i64 (dc h o t G P D S O U ⟨ab,C,am⟩ ⟨sb,sl,sm⟩ ⟨rb,rl,rm⟩))],true)
 | _=> .no
structure Mod(h o t:List Int)(G:List Bd)(S:Int):Prop where
 grid:icE [h,o,t]=0
 hh:yJ (-50000) 50000 h=true
 ho:yJ (-100) 100 o=true
 ht:yJ (-100) 100 t=true
 av1:1≤G.length
 av6:G.length≤6
 dv:dvF (dr1 G)=none
 st:yJ 0 24 [S]=true
 sz:h.length*o.length*t.length*G.length≤200
theorem qOf{l:List Bd}{e:Int}:∀(k i:Nat),fol (gDc l) (fun _=>none) k i ()=some e→e≠0
 | 0,i,h=>by cases h
 | k+1,i,h=>by
  simp only[fol]at h;cases H:gDc l i ()with
  | inl x=>rw[H]at h;exact qOf k (i+1) h
  | inr y=>
   rw[H]at h;unfold gDc at H;cases h1:(!ieq (bI l i).1 1&&!ieq (bI l i).1 2)<;>rw[h1]at H
   ·cases h2:ilt (bI l i).2.2 (bI l i).2.1<;>rw[h2]at H
    ·cases h3:yJ (-100) 100 [(bI l i).2.1,(bI l i).2.2]<;>rw[h3]at H<;>cases H<;>cases h<;>decide
    ·cases H;cases h;decide
   ·cases H;cases h;decide
theorem zMi(h o t:List Int)(G:List Bd)(P D S:Int)(O U:List Nz)(C st V:Raw)(hd:dcA h o t G P D S O U C st V=0):Mod h o t G S:=by
 have ne:∀{x:Int},ieq x 0=false→x≠0:=fun{x}h e=>by rw[vY e]at h;cases h
 unfold dcA dcE at hd;cases e1:ieq (icE [h,o,t]) 0 with
 | false=>rw[e1]at hd;exact absurd hd (ne e1)
 | true=>
  rw[e1]at hd;cases e2:yJ (-50000) 50000 h with
  | false=>rw[e2]at hd;cases hd
  | true=>
   cases e3:yJ (-100) 100 o with
   | false=>rw[e2,e3]at hd;cases hd
   | true=>
    cases e4:yJ (-100) 100 t with
    | false=>rw[e2,e3,e4]at hd;cases hd
    | true=>
     rw[e2,e3,e4]at hd;simp only[Bool.not_true,cond_false]at hd;cases e5:ieq (.ofNat G.length) (.ofNat 0)with
     | true=>rw[e5]at hd;cases hd
     | false=>
      cases e6:ilt (.ofNat 6) (.ofNat G.length)with
      | true=>rw[e5,e6]at hd;cases hd
      | false=>
       rw[e5,e6]at hd;simp only[cond_false]at hd;cases e7:dvF (dr1 G)with
       | some e=>rw[e7]at hd;exact absurd hd (qOf _ _ e7)
       | none=>
        rw[e7]at hd;simp only[isN,cond_true]at hd;have l0:1≤G.length:=by
         rcases Nat.eq_zero_or_pos G.length with e | e
         ·rw[e]at e5;cases e5
         ·exact e
        cases s1:yJ 0 100 [P]with
        | false=>rw[s1]at hd;cases hd
        | true=>
         rw[s1]at hd;simp only[Bool.not_true,cond_false]at hd;cases s2:yJ 0 50000 [D]with
         | false=>rw[s2]at hd;cases hd
         | true=>
          rw[s2]at hd;simp only[Bool.not_true,cond_false]at hd;cases s3:yJ 0 24 [S]with
          | false=>rw[s3]at hd;cases hd
          | true=>
           rw[s3]at hd;simp only[Bool.not_true,cond_false]at hd;cases s4:ieq (cnA O) 0 with
           | false=>rw[s4]at hd;exact absurd hd (ne s4)
           | true=>
            rw[s4]at hd;simp only[Bool.not_true,cond_false]at hd;cases s5:ieq (cnA U) 0 with
            | false=>rw[s5]at hd;exact absurd hd (ne s5)
            | true=>
             rw[s5]at hd;simp only[Bool.not_true,cond_false]at hd;cases s6:ieq (crA C) 0 with
             | false=>rw[s6]at hd;exact absurd hd (ne s6)
             | true=>
              rw[s6]at hd;simp only[Bool.not_true,cond_false]at hd;cases s7:C.neg with
              | true=>rw[s7]at hd;cases hd
              | false=>
               rw[s7]at hd;simp only[cond_false]at hd;cases s8:ieq (crA st) 0 with
               | false=>rw[s8]at hd;exact absurd hd (ne s8)
               | true=>
                rw[s8]at hd;simp only[Bool.not_true,cond_false]at hd;cases s9:st.neg with
                | true=>rw[s9]at hd;cases hd
                | false=>
                 rw[s9]at hd;simp only[cond_false]at hd;cases s10:ieq (crA V) 0 with
                 | false=>rw[s10]at hd;exact absurd hd (ne s10)
                 | true=>
                  rw[s10]at hd;simp only[Bool.not_true,cond_false]at hd;cases s11:V.neg with
                  | true=>rw[s11]at hd;cases hd
                  | false=>
                   rw[s11]at hd;simp only[cond_false]at hd;cases s12:ilt (.ofNat 200) (.ofNat (h.length*o.length*t.length*G.length))with
                   | true=>rw[s12]at hd;cases hd
                   | false=>
                    rw[s12]at hd;simp only[cond_false]at hd;exact⟨qP.1 e1,e2,e3,e4,l0,dH e6,e7,s3,dH s12⟩
noncomputable def szA(h o t:List Int)(G:List Bd)(P D S:Int)(O U:List Nz)(C st V:Raw):Int:=bif ieq (dcA h o t G P D S O U C st V) 0 then .ofNat (h.length*o.length*t.length*G.length)else 0
theorem jAm(h o t:List Int)(G:List Bd)(P D S:Int)(O U:List Nz)(C st V:Raw):((qW Tryz.prog (evD Tryz.prog (ODs dcA) (loT []) 60) 15 [.ag (mdC h o t G P D S O U C st V)] []).bind jB).run=some (.tu [vi (szA h o t G P D S O U C st V),vi (dcA h o t G P D S O U C st V)],true):=by
 rw[eSz];unfold szA;cases e:ieq (dcA h o t G P D S O U C st V) 0 with
 | false=>rfl
 | true=>
  have m:=zMi h o t G P D S O U C st V (qP.1 e);obtain⟨⟨_,l1⟩,⟨_,l2⟩,⟨_,l3⟩⟩:=zAn m.grid;obtain⟨m1,m2,m3⟩:=zFf l1 l2 l3 m.av6;have e0:dcA h o t G P D S O U C st V=0:=qP.1 e;simp only[Bool.not_true,cond_false,cond_true,gd,qK (show h.length*o.length<9223372036854775808 by omega),qK (show h.length*o.length*t.length<9223372036854775808 by omega),qK (show h.length*o.length*t.length*G.length<9223372036854775808 by omega)]
  rw[e0];rfl
theorem kSz:∀az tv nw,(oSz szA dcA az).run=some (tv,nw)→∀k,KnP Tryz.prog k 15 az tv nw:=by
 intro az tv nw hh k;unfold oSz at hh;split at hh
 ·rename_i h o t G P D S O U ab C am sb sl sm rb rl rm;cases hh;exact kQ (cz:=[.ag (mdC h o t G P D S O U ⟨ab,C,am⟩ ⟨sb,sl,sm⟩ ⟨rb,rl,rm⟩)]) xA qYg qZ (jAm h o t G P D S O U ⟨ab,C,am⟩ ⟨sb,sl,sm⟩ ⟨rb,rl,rm⟩) rfl k
 ·cases hh
noncomputable def kyF(l:List Int):ByteArray:=⟨(zDc (l.map Int.toNat)).toArray⟩
noncomputable def kyG(l:List Int):Bool:=Nat.blt 0 l.length&&(Nat.blt l.length 1000&&l.all fun x=>nng x&&ilt x 9223372036854775808)
noncomputable def oKy(ky:List Int→ByteArray):List T→DT (T×Bool)
 | [.ls .a (.int .i64) l]=>grd (kyG l) (.ret (.v (.string (ky l)),true))
 | _=> .no
theorem kKy:∀az tv nw,(oKy kyF az).run=some (tv,nw)→∀k,KnP Tryz.prog k 54 az tv nw:=by
 intro az tv nw h k;unfold oKy at h;split at h
 ·rename_i l;obtain⟨h1,h2⟩:=zV h;cases h2;simp only[kyG,Bool.and_eq_true,List.all_eq_true]at h1;obtain⟨g1,g2,g3⟩:=h1;have g1:=qY g1;have g2:=qY g2;intro B w X qC R hI _ hX hR hK;match qC,hR with
  | [v],⟨hv,_⟩=>
   cases hv with
   | ls hv=>
    obtain⟨ad,c,ev,hD⟩:=hv;cases ev;rcases hD.2.2 with rfl | ⟨b,o,rfl,hb,H⟩
    ·exact absurd g1 (Nat.lt_irrefl _)
    ·have nn:∀x∈l,∃m:Nat,x= .ofNat m∧m≤9223372036854775807:=fun x hx=>by
      have:=g3 x hx;cases x with
      | ofNat m=>exact⟨m,rfl,by have h2:=xM.1 this.2;have h2:(m:Int)<9223372036854775808:=h2;omega⟩
      | negSucc m=>cases this.1
     have hl:l.length=(l.map Int.toNat).length:=(List.length_map _).symm;show Calls Tryz.prog 54 #[.slice (some ⟨b,o,none⟩) l.length c] w R;rw[hl];refine(zPg b o c (l.map Int.toNat) w (by rw[←hl];omega) (fun x hx=>?_) (hI (by rw[qGi];exact fun h=>by cases h)) fun j x hj=>?_).mono ?_
     ·obtain⟨y,hy,rfl⟩:=List.mem_map.1 hx;obtain⟨m,rfl,hm⟩:=nn y hy;exact hm
     ·rw[List.getElem?_map]at hj;obtain⟨y,hy,rfl⟩:=Option.map_eq_some_iff.1 hj;obtain⟨m,rfl,hm⟩:=nn y (List.mem_of_getElem? hy);obtain⟨vs,h3,h4,h5⟩:=H j _ hy;obtain rfl:vs=[.int .i64 (.ofNat m)]:=h4;have:=h5 0 _ rfl;rw[show o+(j*Ty.size nT+0)=o+j by simp[Ty.size]]at this
      exact yQ this
     ·rintro e w' ⟨rfl,hb⟩;exact hK _ w' (Upd.of_below hb) (.v rfl)
 ·cases h
noncomputable def iP1(ns us:Int)(od:Bool)(jx:List (List Int))(n k:Nat)(c:List Int)(m i:Nat)(G:List Bd)(F:List (List Int)):Hs:=⟨[vi ns,vi us,.v (.bool od),.ls .a (.list nT) jx,vn n,vn k,.ls .a nT c,vn m,vn i],[],[[.ls .a bT G,.ls .a (.list nT) F]]⟩
noncomputable def xP1(ns us:Int)(od:Bool)(jx:List (List Int))(n k:Nat)(G:List Bd)(F:List (List Int)):Hs:=⟨[vi ns,vi us,.v (.bool od),.ls .a (.list nT) jx,vn n,vn k],[],[[.ls .a bT G,.ls .a (.list nT) F]]⟩
noncomputable def Lp1:Lp:=⟨1,
 ⟨[.u,.t (.op 0 0),.u,.h,.u,.h,.h]++(us' 37++([.h,.h,.h]++(us' 7++([.h,.h,.h]++(us' 76))))),[.r [.u,.u,.u,.h,.u,.u,.u,.u,.u,.u,.u,.u,.u,.u,.u,.u,.u,.u,.u,.h,.u] 33]⟩,
 ⟨[.u,.t (.op 0 0),.u,.h,.u,.h,.h]++(us' 37++([.h,.h,.h]++(us' 86))),[.r [.u,.u,.u,.h,.u,.u,.u,.u,.u,.u,.u,.u,.u,.u,.u,.u,.u,.u,.u,.h,.u] 33]⟩,
 ⟨[.u,.u,.h]++(us' 130),[.g]⟩⟩
noncomputable abbrev qNm:Code:=lpc Tryz.prog 22 [false,true,true,true,false,false,true,true,false,false,true,false,true,true,true,true]
theorem qQb:cAt Tryz.prog 22 [false,true,true,true,false,false,true,true,false,false,true,false,true,true,true,true]=some (.loop qNm):=by kernel_rfl
noncomputable abbrev qAb(OD:Od)(LO:Lo):Hs→Option (Hs⊕(Ex×Hs)):=Lp1.stp (evD Tryz.prog OD LO 60) 22 [false,true,true,true,false,false,true,true,false,false,true,false,true,true,true,true] qNm
theorem sP1(ns us:Int)(od:Bool)(jx:List (List Int))(n k:Nat)(c:List Int)(m i:Nat)(G:List Bd)(F:List (List Int)):qAb (odT []) (loT []) (iP1 ns us od jx n k c m i G F)=bif ilt (.ofNat i) (.ofNat m)then gd (Nat.blt i c.length) (bif ilt (nth nT.zero c i) (.ofNat 0)then some (.inr (.r,⟨[vn 8],[],[[]]⟩))else(bif !(ilt (nth nT.zero c i) (.ofNat F.length))then some (.inr (.r,⟨[vn 8],[],[[]]⟩))else(bif ilt us (nth nT.zero c i)then nx i (.inl (iP1 ns us false jx n k c m (i+1) G F))else(bif ieq (nth nT.zero c i) us then gd (inW (us.add 1)) (nx i (.inl (iP1 ns (us.add (.ofNat 1)) od jx n k c m (i+1) G F)))else nx i (.inl (iP1 ns us od jx n k c m (i+1) G F))))))else some (.inr (.x 3,(xP1 ns us od jx n k G F))):=by kernel_rfl
abbrev UO:=Int×Bool
noncomputable def gP1(F:List (List Int))(c:List Int)(i:Nat)(s:UO):UO⊕Option UO:=bif ilt (nI c i) (.ofNat 0)||!ilt (nI c i) (.ofNat F.length)then .inr none else .inl (bif ilt s.1 (nI c i)then(s.1,false)else(bif ieq (nI c i) s.1 then(s.1.add 1,s.2)else s))
noncomputable def p1F(F:List (List Int))(c:List Int)(s:UO):Option UO:=fol (gP1 F c) some c.length 0 s
noncomputable def qOy(ns:Int)(jx:List (List Int))(n k:Nat)(G:List Bd)(F:List (List Int)):Option UO→Ex×Hs
 | none=>(.r,⟨[vn 8],[],[[]]⟩)
 | some s=>(.x 3,xP1 ns s.1 s.2 jx n k G F)
def okU(F:List (List Int))(s:UO):Prop:=0≤s.1∧s.1≤F.length
theorem qDb{F:List (List Int)}{c:List Int}{i:Nat}{s s2:UO}(h:okU F s)(hg:gP1 F c i s= .inl s2):okU F s2:=by
 unfold gP1 at hg;cases h1:ilt (nI c i) (.ofNat 0)||!ilt (nI c i) (.ofNat F.length)with
 | true=>rw[h1]at hg;cases hg
 | false=>
  rw[h1]at hg;simp only[Bool.or_eq_false_iff,Bool.not_eq_false']at h1;have hl:nI c i<(F.length:Int):=xM.1 h1.2;cases h2:ilt s.1 (nI c i)with
  | true=>rw[h2]at hg;cases hg;exact h
  | false=>
   cases h3:ieq (nI c i) s.1 with
   | false=>rw[h2,h3]at hg;cases hg;exact h
   | true=>
    rw[h2,h3]at hg;cases hg;have e:=qP.1 h3;exact⟨Int.le_trans h.1 (show s.1≤s.1+1 by omega),show s.1+1≤(F.length:Int)by omega⟩
theorem lpP1(ns:Int)(jx:List (List Int))(n k:Nat)(c:List Int)(G:List Bd)(F:List (List Int))(s:UO)(hs:okU F s)(h9:c.length<9223372036854775807)(hr:F.length<9223372036854775807):lpF (qAb (odT []) (loT [])) c.length (iP1 ns s.1 s.2 jx n k c c.length 0 G F)=some (qOy ns jx n k G F (p1F F c s)):=
 yZ (iv:=fun i(s:UO)=>iP1 ns s.1 s.2 jx n k c c.length i G F) (g:=gP1 F c) (d:=some) (out:=qOy ns jx n k G F) (n:=c.length) (fun _ s=>okU F s)
  (fun i s hi' hJ=>by
   rw[sP1];show(bif Nat.blt i c.length then _ else _)=_;unfold gP1 nI;have hw:inW (s.1.add 1)=true:=zCz (show(0:Int)≤s.1+1 from by have:=hJ.1;omega) (show s.1+1<9223372036854775808 from by have:=hJ.2;omega)
   simp only[gd,zO hi',cond_true,xV (show i+1<9223372036854775808 by omega),hw]
   cases ilt (nth nT.zero c i) (.ofNat 0)<;>cases ilt (nth nT.zero c i) (.ofNat F.length)<;>cases ilt s.1 (nth nT.zero c i)<;>cases ieq (nth nT.zero c i) s.1<;>rfl)
  (fun i s s2 hi' hJ hg=>qDb hJ hg)
  (fun s _=>by rw[sP1];show(bif Nat.blt c.length c.length then _ else _)=_;rw[kE (Nat.le_refl _),cond_false];rfl) c.length 0 s (by omega) hs
noncomputable def isS{α:Type}:Option α→Bool
 | some _=>true
 | none=>false
noncomputable def gS:Option UO→UO
 | some s=>s
 | none=>(0,false)
noncomputable def zPw(F:List (List Int))(us:Int):Bool:=nng us&&!ilt (.ofNat F.length) us
theorem zFi{F:List (List Int)}{us:Int}{od:Bool}:zPw F us=true↔okU F (us,od):=by
 unfold zPw okU;simp only[Bool.and_eq_true,Bool.not_eq_true'];constructor
 ·rintro⟨h1,h2⟩;cases us with
  | ofNat m=>exact⟨Int.natCast_nonneg _,kX h2⟩
  | negSucc m=>cases h1
 ·rintro⟨h1,h2⟩;cases us with
  | ofNat m=>exact⟨rfl,xU h2⟩
  | negSucc m=>exact absurd h1 (by show¬(0:Int)≤Int.negSucc m;omega)
noncomputable def hP1:Hs→DT (Ex×Hs)
 | ⟨[.v (.int .i64 ns),.v (.int .i64 us),.v (.bool od),.ls .a (.list (.int .i64)) jx,.v (.int .i64 (.ofNat n)),.v (.int .i64 (.ofNat k)),.ls .a (.int .i64) c,.v (.int .i64 (.ofNat m)),.v (.int .i64 (.ofNat 0))],[],[[.ls .a (.prod (.int .u8) (.prod (.int .i64) (.int .i64))) G,.ls .a (.list (.int .i64)) F]]⟩=>grd (Nat.beq m c.length&&(Nat.blt c.length 9223372036854775807&&(Nat.blt F.length 9223372036854775807&&zPw F us))) (.ite (isS (p1F F c (us,od))) (.ret (.x 3,xP1 ns (gS (p1F F c (us,od))).1 (gS (p1F F c (us,od))).2 jx n k G F)) (.ret (.r,⟨[vn 8],[],[[]]⟩)))
 | _=> .no
theorem qTr:∀q y,(hP1 q).run=some y→∃n,It (qAb (odT []) (loT [])) n q y:=fun q y hh=>by
 unfold hP1 at hh;split at hh
 ·rename_i ns us od jx n k c m G F;obtain⟨h1,h2⟩:=zV hh;simp only[Bool.and_eq_true]at h1;obtain⟨g1,g2,g3,g4⟩:=h1;obtain rfl:=zY g1;have:=kF _ _ (lpP1 ns jx n k c G F (us,od) (zFi.1 g4) (qY g2) (qY g3));cases hb:p1F F c (us,od)<;>rw[hb]at h2 this<;>cases h2<;>exact this
 ·cases hh
noncomputable abbrev LP1:Lo:=loT [(22,[false,true,true,true,false,false,true,true,false,false,true,false,true,true,true,true],Lp1.row hP1)]
theorem qXs:mQ Tryz.prog LP1:=yK qZ fC qQb qTr
noncomputable def iP0(ns us:Int)(od:Bool)(jx:List (List Int))(n k:Nat)(G:List Bd)(F:List (List Int)):Hs:=⟨[vi ns,vi us,.v (.bool od),.ls .a (.list nT) jx,vn n,vn k],[],[[.ls .a bT G,.ls .a (.list nT) F]]⟩
noncomputable def xP0(us:Int)(od:Bool)(G:List Bd)(F:List (List Int)):Hs:=⟨[vi us,.v (.bool od)],[],[[.ls .a bT G,.ls .a (.list nT) F]]⟩
noncomputable def Lp0:Lp:=⟨1,
 ⟨[.u,.t (.op 0 0),.u,.h,.u,.h,.h]++(us' 37++([.h,.h,.h]++(us' 86))),[.r [.u,.u,.u,.h,.u,.u,.u,.u,.u,.u,.u,.u,.u,.u,.u,.u,.u,.u,.u,.h,.u] 33]⟩,
 ⟨[.u,.t (.op 0 0)]++(us' 3++([.h,.h]++(us' 126))),[.r [.u,.u,.u,.h,.u,.u,.u,.u,.u,.u,.u,.u,.u,.u,.u,.u,.u,.u,.u,.h,.u] 33]⟩,
 ⟨[.u,.u,.h]++(us' 130),[.g]⟩⟩
noncomputable abbrev qNl:Code:=lpc Tryz.prog 22 [false,true,false,true,true,true,true]
theorem qQa:cAt Tryz.prog 22 [false,true,false,true,true,true,true]=some (.loop qNl):=by kernel_rfl
noncomputable abbrev qAa(OD:Od)(LO:Lo):Hs→Option (Hs⊕(Ex×Hs)):=Lp0.stp (evD Tryz.prog OD LO 60) 22 [false,true,false,true,true,true,true] qNl
theorem sP0(ns us:Int)(od:Bool)(jx:List (List Int))(n k:Nat)(G:List Bd)(F:List (List Int)):qAa (odT []) LP1 (iP0 ns us od jx n k G F)=bif ilt (.ofNat k) (.ofNat n)then gd (Nat.blt k jx.length) (bif !(ieq (.ofNat ((gI jx k).length)) ns)then some (.inr (.r,⟨[vn 16],[],[[]]⟩))else gd ((Nat.beq ((gI jx k).length) ((gI jx k).length))&&((Nat.blt ((gI jx k).length) 9223372036854775807)&&((Nat.blt F.length 9223372036854775807)&&(zPw F us)))) (bif isS (p1F F (gI jx k) (us,od))then nx k (.inl (iP0 ns ((gS (p1F F (gI jx k) (us,od))).1) ((gS (p1F F (gI jx k) (us,od))).2) jx n (k+1) G F))else some (.inr (.r,⟨[vn 8],[],[[]]⟩))))else some (.inr (.x 1,(xP0 us od G F))):=by kernel_rfl
noncomputable def gP0(ns:Int)(F jx:List (List Int))(k:Nat)(s:UO):UO⊕(UO⊕Int):=bif !ieq (.ofNat (gI jx k).length) ns then .inr (.inr 16)else(bif isS (p1F F (gI jx k) s)then .inl (gS (p1F F (gI jx k) s))else .inr (.inr 8))
noncomputable def p0F(ns:Int)(F jx:List (List Int))(s:UO):UO⊕Int:=fol (gP0 ns F jx) .inl jx.length 0 s
noncomputable def qOx(G:List Bd)(F:List (List Int)):UO⊕Int→Ex×Hs
 | .inl s=>(.x 1,xP0 s.1 s.2 G F)
 | .inr e=>(.r,⟨[vi e],[],[[]]⟩)
theorem vX{α β:Type}{g:Nat→α→α⊕β}{d:α→β}{J:α→Prop}{R:β→Prop}(h1:∀i a b,J a→g i a= .inl b→J b)(h2:∀i a y,J a→g i a= .inr y→R y)(h3:∀a,J a→R (d a)):∀(k i:Nat)(a:α),J a→R (fol g d k i a)
 | 0,i,a,h=>h3 a h
 | k+1,i,a,h=>by
  simp only[fol];cases H:g i a with
  | inl b=>exact vX h1 h2 h3 k (i+1) b (h1 i a b h H)
  | inr y=>exact h2 i a y h H
theorem jCi{F:List (List Int)}{c:List Int}{s:UO}(h:okU F s)(hs:isS (p1F F c s)=true):okU F (gS (p1F F c s)):=by
 have:=vX (g:=gP1 F c) (d:=some) (J:=okU F) (R:=fun y=>∀s2,y=some s2→okU F s2) (fun i a b ha hg=>qDb ha hg) (fun i a y ha hg s2 e=>by
  unfold gP1 at hg;cases h1:ilt (nI c i) (.ofNat 0)||!ilt (nI c i) (.ofNat F.length)<;>rw[h1]at hg
  ·cases hg
  ·cases hg;cases e) (fun a ha s2 e=>by cases e;exact ha) c.length 0 s h
 cases hp:p1F F c s with
 | none=>rw[hp]at hs;cases hs
 | some s2=>exact this s2 hp
theorem qTb{ns:Int}{F jx:List (List Int)}{k:Nat}{s s2:UO}(h:okU F s)(hg:gP0 ns F jx k s= .inl s2):okU F s2:=by
 unfold gP0 at hg;cases h1:ieq (.ofNat (gI jx k).length) ns with
 | false=>rw[h1]at hg;cases hg
 | true=>
  cases h2:isS (p1F F (gI jx k) s)with
  | false=>rw[h1,h2]at hg;cases hg
  | true=>rw[h1,h2]at hg;cases hg;exact jCi h h2
theorem lpP0(ns:Int)(jx:List (List Int))(G:List Bd)(F:List (List Int))(s:UO)(hs:okU F s)(hn:ns<9223372036854775807)(h9:jx.length<9223372036854775807)(hr:F.length<9223372036854775807):lpF (qAa (odT []) LP1) jx.length (iP0 ns s.1 s.2 jx jx.length 0 G F)=some (qOx G F (p0F ns F jx s)):=
 yZ (iv:=fun i(s:UO)=>iP0 ns s.1 s.2 jx jx.length i G F) (g:=gP0 ns F jx) (d:= .inl) (out:=qOx G F) (n:=jx.length) (fun _ s=>okU F s)
  (fun i s hi' hJ=>by
   rw[sP0];show(bif Nat.blt i jx.length then _ else _)=_;unfold gP0;cases h1:ieq (.ofNat (gI jx i).length) ns with
   | false=>simp only[gd,zO hi',cond_true];rfl
   | true=>
    have e:((gI jx i).length:Int)=ns:=qP.1 h1;have hb:zPw F s.1=true:=zFi.2 hJ;simp only[gd,zO hi',cond_true,Bool.not_true,cond_false,vN,zO (show(gI jx i).length<9223372036854775807 by omega),zO hr,hb,Bool.and_self,xV (show i+1<9223372036854775808 by omega)]
    cases isS (p1F F (gI jx i) s)<;>rfl)
  (fun i s s2 hi' hJ hg=>qTb hJ hg)
  (fun s _=>by rw[sP0];show(bif Nat.blt jx.length jx.length then _ else _)=_;rw[kE (Nat.le_refl _),cond_false];rfl) jx.length 0 s (by omega) hs
noncomputable def isU:UO⊕Int→Bool
 | .inl _=>true
 | .inr _=>false
noncomputable def gU:UO⊕Int→UO
 | .inl s=>s
 | .inr _=>(0,false)
noncomputable def eU:UO⊕Int→Int
 | .inl _=>0
 | .inr e=>e
noncomputable def hP0:Hs→DT (Ex×Hs)
 | ⟨[.v (.int .i64 ns),.v (.int .i64 us),.v (.bool od),.ls .a (.list (.int .i64)) jx,.v (.int .i64 (.ofNat n)),.v (.int .i64 (.ofNat 0))],[],[[.ls .a (.prod (.int .u8) (.prod (.int .i64) (.int .i64))) G,.ls .a (.list (.int .i64)) F]]⟩=>grd (Nat.beq n jx.length&&(Nat.blt jx.length 9223372036854775807&&(Nat.blt F.length 9223372036854775807&&(zPw F us&&ilt ns 9223372036854775807)))) (.ite (isU (p0F ns F jx (us,od))) (.ret (.x 1,xP0 (gU (p0F ns F jx (us,od))).1 (gU (p0F ns F jx (us,od))).2 G F)) (.ret (.r,⟨[vi (eU (p0F ns F jx (us,od)))],[],[[]]⟩)))
 | _=> .no
theorem qMc:dY Tryz.prog (evD Tryz.prog (odT []) LP1 60):=tT xA yO qXs 60
theorem qTq:∀q y,(hP0 q).run=some y→∃n,It (qAa (odT []) LP1) n q y:=fun q y hh=>by
 unfold hP0 at hh;split at hh
 ·rename_i ns us od jx n G F;obtain⟨h1,h2⟩:=zV hh;simp only[Bool.and_eq_true]at h1;obtain⟨g1,g2,g3,g4,g5⟩:=h1;obtain rfl:=zY g1;have:=kF _ _ (lpP0 ns jx G F (us,od) (zFi.1 g4) (xM.1 g5) (qY g2) (qY g3));cases hb:p0F ns F jx (us,od)<;>rw[hb]at h2 this<;>cases h2<;>exact this
 ·cases hh
noncomputable def iP3(us:Int)(od:Bool)(d:List Int)(qs:List (List Int))(n k:Nat)(c:List Int)(m i:Nat)(mp:List (ByteArray×Int))(G:List Bd)(F:List (List Int)):Hs:=⟨[vi us,.v (.bool od),.ls .a nT d,.ls .a (.list nT) qs,vn n,vn k,.ls .a nT c,vn m,vn i],[],[[.ls .a bT G,.ls .a (.list nT) F],[.ls .a (.prod .str nT) mp]]⟩
noncomputable def xP3(us:Int)(od:Bool)(d:List Int)(qs:List (List Int))(n k:Nat)(mp:List (ByteArray×Int))(G:List Bd)(F:List (List Int)):Hs:=⟨[vi us,.v (.bool od),.ls .a nT d,.ls .a (.list nT) qs,vn n,vn k],[],[[.ls .a bT G,.ls .a (.list nT) F],[.ls .a (.prod .str nT) mp]]⟩
noncomputable def Lp3:Lp:=⟨2,
 ⟨[.u,.t (.op 0 0)]++(us' 3++([.h,.h]++(us' 4++([.t (.om 1),.u,.h]++(us' 70++([.h,.h,.h]++(us' 10++([.h,.h,.h]++(us' 33))))))))),[.r [.u,.u,.u,.h,.u,.u,.u,.u,.u,.u,.u,.u,.u,.u,.u,.u,.u,.u,.u,.h,.u] 33,.m .a .str nT]⟩,
 ⟨[.u,.t (.op 0 0)]++(us' 3++([.h,.h]++(us' 4++([.t (.om 1),.u,.h]++(us' 70++([.h,.h,.h]++(us' 46))))))),[.r [.u,.u,.u,.h,.u,.u,.u,.u,.u,.u,.u,.u,.u,.u,.u,.u,.u,.u,.u,.h,.u] 33,.m .a .str nT]⟩,
 ⟨[.u,.u,.h]++(us' 130),[.g,.g]⟩⟩
noncomputable abbrev qNo:Code:=lpc Tryz.prog 22 [false,true,false,true,true,false,false,true,true,false,false,true,false,true,true,true,true,true,true]
theorem qQd:cAt Tryz.prog 22 [false,true,false,true,true,false,false,true,true,false,false,true,false,true,true,true,true,true,true]=some (.loop qNo):=by kernel_rfl
noncomputable abbrev qAd(OD:Od)(LO:Lo):Hs→Option (Hs⊕(Ex×Hs)):=Lp3.stp (evD Tryz.prog OD LO 60) 22 [false,true,false,true,true,false,false,true,true,false,false,true,false,true,true,true,true,true,true] qNo
theorem sP3(us:Int)(od:Bool)(d:List Int)(qs:List (List Int))(n k:Nat)(c:List Int)(m i:Nat)(mp:List (ByteArray×Int))(G:List Bd)(F:List (List Int)):qAd (odT []) (loT []) (iP3 us od d qs n k c m i mp G F)=bif ilt (.ofNat i) (.ofNat m)then gd (Nat.blt i c.length) (bif ilt (nth nT.zero c i) (.ofNat 0)then some (.inr (.r,⟨[vn 1],[],[[],[]]⟩))else(bif ilt (.ofNat 1099511627776) (nth nT.zero c i)then some (.inr (.r,⟨[vn 1],[],[[],[]]⟩))else nx i (.inl (iP3 us od d qs n k c m (i+1) mp G F))))else some (.inr (.x 8,(xP3 us od d qs n k mp G F))):=by kernel_rfl
noncomputable def gP3(c:List Int)(i:Nat)(_:Unit):Unit⊕Bool:=bif ilt (nI c i) (.ofNat 0)||ilt (.ofNat 1099511627776) (nI c i)then .inr true else .inl ()
noncomputable def p3F(c:List Int):Bool:=fol (gP3 c) (fun _=>false) c.length 0 ()
noncomputable def zWg(us:Int)(od:Bool)(d:List Int)(qs:List (List Int))(n k:Nat)(mp:List (ByteArray×Int))(G:List Bd)(F:List (List Int)):Bool→Ex×Hs
 | true=>(.r,⟨[vn 1],[],[[],[]]⟩)
 | false=>(.x 8,xP3 us od d qs n k mp G F)
theorem lpP3(us:Int)(od:Bool)(d:List Int)(qs:List (List Int))(n k:Nat)(mp:List (ByteArray×Int))(c:List Int)(G:List Bd)(F:List (List Int))(h9:c.length<9223372036854775807):lpF (qAd (odT []) (loT [])) c.length (iP3 us od d qs n k c c.length 0 mp G F)=some (zWg us od d qs n k mp G F (p3F c)):=
 yZ (iv:=fun i(_:Unit)=>iP3 us od d qs n k c c.length i mp G F) (g:=gP3 c) (d:=fun _=>false) (out:=zWg us od d qs n k mp G F) (n:=c.length) (fun _ _=>True)
  (fun i s hi' _=>by
   rw[sP3];show(bif Nat.blt i c.length then _ else _)=_;unfold gP3 nI;rw[zO hi',cond_true];simp only[gd,cond_true,xV (show i+1<9223372036854775808 by omega)]
   cases ilt (nth nT.zero c i) (.ofNat 0)<;>cases ilt (.ofNat 1099511627776) (nth nT.zero c i)<;>rfl)
  (fun _ _ _ _ _ _=>trivial)
  (fun s _=>by rw[sP3];show(bif Nat.blt c.length c.length then _ else _)=_;rw[kE (Nat.le_refl _),cond_false];rfl) c.length 0 () (by omega) trivial
noncomputable def hP3:Hs→DT (Ex×Hs)
 | ⟨[.v (.int .i64 us),.v (.bool od),.ls .a (.int .i64) d,.ls .a (.list (.int .i64)) qs,.v (.int .i64 (.ofNat n)),.v (.int .i64 (.ofNat k)),.ls .a (.int .i64) c,.v (.int .i64 (.ofNat m)),.v (.int .i64 (.ofNat 0))],[],[[.ls .a (.prod (.int .u8) (.prod (.int .i64) (.int .i64))) G,.ls .a (.list (.int .i64)) F],[.ls .a (.prod .str (.int .i64)) mp]]⟩=>grd (Nat.beq m c.length&&Nat.blt c.length 9223372036854775807) (.ite (p3F c) (.ret (zWg us od d qs n k mp G F true)) (.ret (zWg us od d qs n k mp G F false)))
 | _=> .no
theorem qTt:∀q y,(hP3 q).run=some y→∃n,It (qAd (odT []) (loT [])) n q y:=fun q y hh=>by
 unfold hP3 at hh;split at hh
 ·rename_i us od d qs n k c m G F mp;obtain⟨h1,h2⟩:=zV hh;simp only[Bool.and_eq_true]at h1;obtain rfl:=zY h1.1;have:=kF _ _ (lpP3 us od d qs n k mp c G F (qY h1.2));cases hb:p3F c<;>rw[hb]at h2 this<;>cases h2<;>exact this
 ·cases hh
noncomputable abbrev LP3:Lo:=loT [(22,[false,true,false,true,true,false,false,true,true,false,false,true,false,true,true,true,true,true,true],Lp3.row hP3)]
theorem qXt:mQ Tryz.prog LP3:=yK qZ fC qQd qTt
theorem qPd{c:List Int}(h:p3F c=false){i:Nat}(hi:i<c.length):0≤nI c i∧nI c i≤1099511627776:=by
 have H:=zAj (g:=gP3 c) (d:=false) (fun i y hy e=>by unfold gP3 at hy;cases hb:ilt (nI c i) (.ofNat 0)||ilt (.ofNat 1099511627776) (nI c i)<;>rw[hb]at hy<;>cases hy;cases e) c.length 0 h i (Nat.zero_le _) (by omega)
 unfold gP3 at H;cases hb:ilt (nI c i) (.ofNat 0)||ilt (.ofNat 1099511627776) (nI c i)with
 | true=>rw[hb]at H;cases H
 | false=>
  simp only[Bool.or_eq_false_iff]at hb;exact⟨kX hb.1,kX hb.2⟩
theorem qUo{c:List Int}(h0:1≤c.length)(h9:c.length≤900)(h:p3F c=false):kyG c=true:=by
 simp only[kyG,Bool.and_eq_true,List.all_eq_true];refine⟨zO (by omega),zO (by omega),fun x hx=>?_⟩
 obtain⟨i,hi⟩:=List.getElem?_of_mem hx;have hlt:=(List.getElem?_eq_some_iff.1 hi).1;have e:nI c i=x:=by rw[qYb hlt];exact(List.getElem?_eq_some_iff.1 hi).2
 obtain⟨h1,h2⟩:=qPd h hlt;rw[e]at h1 h2;refine⟨?_,wZ (by omega)⟩
 cases x with
 | ofNat m=>rfl
 | negSucc m=>exact absurd h1 (by omega)
noncomputable def iP2(us:Int)(od:Bool)(qs:List (List Int))(n k:Nat)(mp:List (ByteArray×Int))(G:List Bd)(F:List (List Int)):Hs:=⟨[vi us,.v (.bool od),.ls .a (.list nT) qs,vn n,vn k],[],[[.ls .a bT G,.ls .a (.list nT) F],[.ls .a (.prod .str nT) mp]]⟩
noncomputable def xP2(us:Int)(od:Bool)(mp:List (ByteArray×Int))(G:List Bd)(F:List (List Int)):Hs:=⟨[vi us,.v (.bool od)],[],[[.ls .a bT G,.ls .a (.list nT) F],[.ls .a (.prod .str nT) mp]]⟩
noncomputable def Lp2:Lp:=⟨2,
 ⟨[.u,.t (.op 0 0)]++(us' 3++([.h,.h]++(us' 4++([.t (.om 1)]++(us' 72++([.h,.h,.h]++(us' 46))))))),[.r [.u,.u,.u,.h,.u,.u,.u,.u,.u,.u,.u,.u,.u,.u,.u,.u,.u,.u,.u,.h,.u] 33,.m .a .str nT]⟩,
 ⟨[.u,.t (.op 0 0)]++(us' 3++([.h,.h]++(us' 4++([.t (.om 1)]++(us' 121))))),[.r [.u,.u,.u,.h,.u,.u,.u,.u,.u,.u,.u,.u,.u,.u,.u,.u,.u,.u,.u,.h,.u] 33,.m .a .str nT]⟩,
 ⟨[.u,.u,.h]++(us' 130),[.g,.g]⟩⟩
noncomputable abbrev qNn:Code:=lpc Tryz.prog 22 [false,true,false,true,true,true,true,true,true]
theorem qQc:cAt Tryz.prog 22 [false,true,false,true,true,true,true,true,true]=some (.loop qNn):=by kernel_rfl
noncomputable abbrev qAc(OD:Od)(LO:Lo):Hs→Option (Hs⊕(Ex×Hs)):=Lp2.stp (evD Tryz.prog OD LO 60) 22 [false,true,false,true,true,true,true,true,true] qNn
noncomputable abbrev OKy(ky:List Int→ByteArray):Od:=odT [(54,odR [.list nT] (oKy ky))]
theorem sP2(ky:List Int→ByteArray)(us:Int)(od:Bool)(qs:List (List Int))(n k:Nat)(mp:List (ByteArray×Int))(G:List Bd)(F:List (List Int)):qAc (OKy ky) LP3 (iP2 us od qs n k mp G F)=bif ilt (.ofNat k) (.ofNat n)then gd (Nat.blt k qs.length) (bif !(ieq (.ofNat ((gI qs k).length)) (.ofNat G.length))then some (.inr (.r,⟨[vn 16],[],[[],[]]⟩))else gd ((Nat.beq ((gI qs k).length) ((gI qs k).length))&&(Nat.blt ((gI qs k).length) 9223372036854775807)) (bif p3F (gI qs k)then some (.inr (.r,⟨[vn 1],[],[[],[]]⟩))else gd (kyG (gI qs k)) (gd (inW (Int.add (tV .str 0 (ky (gI qs k)) mp) 1)) (nx k (.inl (iP2 us od qs n (k+1) (lT .str (ky (gI qs k)) (Int.add (tV .str 0 (ky (gI qs k)) mp) 1) mp) G F))))))else some (.inr (.x 6,(xP2 us od mp G F))):=by kernel_rfl
abbrev Km:=List (ByteArray×Int)
theorem zOz(k k':ByteArray)(x:Int):∀m:Km,tV .str 0 k (lT .str k' x m)=x∨tV .str 0 k (lT .str k' x m)=tV .str 0 k m
 | []=>by
  show(bif keq .str k k' then x else(0:Int))=x∨(bif keq .str k k' then x else(0:Int))=0;cases keq .str k k'
  ·exact .inr rfl
  ·exact .inl rfl
 | e::m=>by
  have e1:lT .str k' x (e::m)=(bif keq .str k' e.1 then(k',x)::m else e::lT .str k' x m):=rfl;have e2:∀(q:ByteArray)(f:ByteArray×Int)(m:Km),tV .str 0 q (f::m)=(bif keq .str q f.1 then f.2 else tV .str 0 q m):=fun _ _ _=>rfl;rw[e1];cases h:keq .str k' e.1 with
  | true=>
   rw[cond_true,e2,e2];have hk:k'=e.1:=of_decide_eq_true h;rw[←hk];cases keq .str k k'
   ·exact .inr rfl
   ·exact .inl rfl
  | false=>
   rw[cond_false,e2,e2];cases keq .str k e.1
   ·exact zOz k k' x m
   ·exact .inr rfl
def okK(k:Nat)(mp:Km):Prop:=∀q,0≤tV .str 0 q mp∧tV .str 0 q mp≤k
theorem qLa{k:Nat}{mp:Km}(h:okK k mp)(q:ByteArray):okK (k+1) (lT .str q (Int.add (tV .str 0 q mp) 1) mp):=fun p=>by
 have h1:=h q;have h2:=h p;rcases zOz p q (Int.add (tV .str 0 q mp) 1) mp with e | e<;>rw[e]
 ·exact⟨show(0:Int)≤tV .str 0 q mp+1 by omega,show tV .str 0 q mp+1≤((k+1:Nat):Int)by omega⟩
 ·exact⟨h2.1,by omega⟩
section
variable (ky:List Int→ByteArray)
noncomputable def gP2(qs:List (List Int))(G:List Bd)(k:Nat)(mp:Km):Km⊕(Km⊕Int):=bif !ieq (.ofNat (gI qs k).length) (.ofNat G.length)then .inr (.inr 16)else(bif p3F (gI qs k)then .inr (.inr 1)else .inl (lT .str (ky (gI qs k)) (Int.add (tV .str 0 (ky (gI qs k)) mp) 1) mp))
noncomputable def p2F(qs:List (List Int))(G:List Bd):Km⊕Int:=fol (gP2 ky qs G) .inl qs.length 0 []
noncomputable def qOz(us:Int)(od:Bool)(G:List Bd)(F:List (List Int)):Km⊕Int→Ex×Hs
 | .inl mp=>(.x 6,xP2 us od mp G F)
 | .inr e=>(.r,⟨[vi e],[],[[],[]]⟩)
theorem lpP2(us:Int)(od:Bool)(qs:List (List Int))(G:List Bd)(F:List (List Int))(h9:qs.length<9223372036854775807)(ha:1≤G.length)(hb:G.length≤900):lpF (qAc (OKy ky) LP3) qs.length (iP2 us od qs qs.length 0 [] G F)=some (qOz us od G F (p2F ky qs G)):=
 yZ (iv:=fun k(mp:Km)=>iP2 us od qs qs.length k mp G F) (g:=gP2 ky qs G) (d:= .inl) (out:=qOz us od G F) (n:=qs.length) (fun k mp=>okK k mp)
  (fun k mp hk hJ=>by
   rw[sP2];show(bif Nat.blt k qs.length then _ else _)=_;unfold gP2;rw[zO hk,cond_true];cases h1:ieq (.ofNat (gI qs k).length) (.ofNat G.length)with
   | false=>rfl
   | true=>
    have e:(gI qs k).length=G.length:=Int.ofNat.inj (qP.1 h1);simp only[gd,Bool.not_true,cond_false,cond_true,vN,zO (show(gI qs k).length<9223372036854775807 by omega),Bool.and_self]
    cases h2:p3F (gI qs k)with
    | true=>rfl
    | false=>
     have hJ2:=hJ (ky (gI qs k));have hw:inW (Int.add (tV .str 0 (ky (gI qs k)) mp) 1)=true:=zCz (show(0:Int)≤tV .str 0 (ky (gI qs k)) mp+1 by omega) (show tV .str 0 (ky (gI qs k)) mp+1<9223372036854775808 by omega)
     simp only[cond_false,qUo (show 1≤(gI qs k).length by omega) (show(gI qs k).length≤900 by omega) h2,cond_true,hw,xV (show k+1<9223372036854775808 by omega)])
  (fun k mp mp2 hk hJ hg=>by
   unfold gP2 at hg;cases h1:ieq (.ofNat (gI qs k).length) (.ofNat G.length)<;>rw[h1]at hg
   ·cases hg
   ·cases h2:p3F (gI qs k)<;>rw[h2]at hg<;>cases hg;exact qLa hJ _)
  (fun mp _=>by rw[sP2];show(bif Nat.blt qs.length qs.length then _ else _)=_;rw[kE (Nat.le_refl _),cond_false];rfl) qs.length 0 [] (by omega) (fun q=>⟨Int.le_refl _,Int.le_refl _⟩)
noncomputable def isM:Km⊕Int→Bool
 | .inl _=>true
 | .inr _=>false
noncomputable def gM':Km⊕Int→Km
 | .inl s=>s
 | .inr _=>[]
noncomputable def eM:Km⊕Int→Int
 | .inl _=>0
 | .inr e=>e
noncomputable def hP2:Hs→DT (Ex×Hs)
 | ⟨[.v (.int .i64 us),.v (.bool od),.ls .a (.list (.int .i64)) qs,.v (.int .i64 (.ofNat n)),.v (.int .i64 (.ofNat 0))],[],[[.ls .a (.prod (.int .u8) (.prod (.int .i64) (.int .i64))) G,.ls .a (.list (.int .i64)) F],[.ls .a (.prod .str (.int .i64)) []]]⟩=>grd (Nat.beq n qs.length&&(Nat.blt qs.length 9223372036854775807&&(Nat.ble 1 G.length&&Nat.ble G.length 900))) (.ite (isM (p2F ky qs G)) (.ret (.x 6,xP2 us od (gM' (p2F ky qs G)) G F)) (.ret (.r,⟨[vi (eM (p2F ky qs G))],[],[[],[]]⟩)))
 | _=> .no
theorem qTs:∀q y,(hP2 ky q).run=some y→∃n,It (qAc (OKy ky) LP3) n q y:=fun q y hh=>by
 unfold hP2 at hh;split at hh
 ·rename_i us od qs n G F;obtain⟨h1,h2⟩:=zV hh;simp only[Bool.and_eq_true,Nat.ble_eq]at h1;obtain⟨g1,g2,g3,g4⟩:=h1;obtain rfl:=zY g1;have:=kF _ _ (lpP2 ky us od qs G F (qY g2) g3 g4);cases hb:p2F ky qs G<;>rw[hb]at h2 this<;>cases h2<;>exact this
 ·cases hh
noncomputable abbrev LPc:Lo:=loT [(22,[false,true,false,true,true,true,true],Lp0.row hP0),(22,[false,true,false,true,true,true,true,true,true],Lp2.row (hP2 ky))]
end
noncomputable abbrev tbC(h o t:List Int)(G:List Bd)(P D S:Int)(O U:List Nz)(C st V:Raw)(Z:Int)(F I:List (List Int)):List T:=[.ls .a nT h,.ls .a nT o,.ls .a nT t,.ls .a bT G,vi P,vi D,vi S,.ls .a nzT O,.ls .a nzT U,.v (.bool C.1),.ls .a .lim C.2,.ls .a .lim C.3,.v (.bool st.1),.ls .a .lim st.2,.ls .a .lim st.3,.v (.bool V.1),.ls .a .lim V.2,.ls .a .lim V.3,vi Z,.ls .a (.list nT) F,.ls .a (.list nT) I]
noncomputable abbrev OPc(ky:List Int→ByteArray)(sz dc:MF Int):Od:=odT [(15,odR [mdT] (oSz sz dc)),(54,odR [.list nT] (oKy ky))]
theorem ePc(ky:List Int→ByteArray)(sz dc:MF Int)(h o t:List Int)(G:List Bd)(P D S:Int)(O U:List Nz)(C st V:Raw)(Z:Int)(F I:List (List Int)):((qW Tryz.prog (evD Tryz.prog (OPc ky sz dc) (LPc ky) 60) 22 [.ag (tbC h o t G P D S O U C st V Z F I)] []).bind jB).run=bif !(ieq (dc h o t G P D S O U C st V) 0)then some (vi (dc h o t G P D S O U C st V),true)else(bif ilt Z (.ofNat 1)then some (vn 1,true)else(bif ilt (.ofNat 1048576) Z then some (vn 1,true)else(bif !(ieq (.ofNat I.length) S)then some (vn 16,true)else gd ((Nat.beq I.length I.length)&&((Nat.blt I.length 9223372036854775807)&&((Nat.blt F.length 9223372036854775807)&&((zPw F 0)&&(ilt (sz h o t G P D S O U C st V) 9223372036854775807))))) (bif isU (p0F (sz h o t G P D S O U C st V) F I (0,true))then gd ((Nat.beq F.length F.length)&&((Nat.blt F.length 9223372036854775807)&&((Nat.ble 1 G.length)&&(Nat.ble G.length 900)))) (bif isM (p2F ky F G)then(bif !((gU (p0F (sz h o t G P D S O U C st V) F I (0,true))).2)then some (vn 2,true)else(bif !(ieq ((gU (p0F (sz h o t G P D S O U C st V) F I (0,true))).1) (.ofNat F.length))then some (vn 2,true)else(bif !(ieq (.ofNat ((gM' (p2F ky F G)).length)) (.ofNat F.length))then some (vn 2,true)else some (vn 0,true))))else some (vi (eM (p2F ky F G)),true))else some (vi (eU (p0F (sz h o t G P D S O U C st V) F I (0,true))),true))))):=by kernel_rfl
section
variable (ky:List Int→ByteArray)
noncomputable def pcE(h o t:List Int)(G:List Bd)(P D S:Int)(O U:List Nz)(C st V:Raw)(Z:Int)(F I:List (List Int)):Int:=bif !ieq (dcA h o t G P D S O U C st V) 0 then dcA h o t G P D S O U C st V else(bif ilt Z (.ofNat 1)then 1 else(bif ilt (.ofNat 1048576) Z then 1 else(bif !ieq (.ofNat I.length) S then 16 else(bif isU (p0F (szA h o t G P D S O U C st V) F I (0,true))then(bif isM (p2F ky F G)then(bif !(gU (p0F (szA h o t G P D S O U C st V) F I (0,true))).2 then 2 else(bif !ieq (gU (p0F (szA h o t G P D S O U C st V) F I (0,true))).1 (.ofNat F.length)then 2 else(bif !ieq (.ofNat (gM' (p2F ky F G)).length) (.ofNat F.length)then 2 else 0)))else eM (p2F ky F G))else eU (p0F (szA h o t G P D S O U C st V) F I (0,true))))))
theorem zCa{h o t:List Int}{G:List Bd}{S:Int}(m:Mod h o t G S):0≤S∧S≤24:=pJ m.st (show 0<1 by omega)
theorem jCs(h o t:List Int)(G:List Bd)(P D S:Int)(O U:List Nz)(C st V:Raw)(m:Mod h o t G S):0≤szA h o t G P D S O U C st V∧szA h o t G P D S O U C st V≤200:=by
 unfold szA;have:=m.sz;cases ieq (dcA h o t G P D S O U C st V) 0 with
 | true=>exact⟨Int.natCast_nonneg _,show((h.length*o.length*t.length*G.length:Nat):Int)≤200 by omega⟩
 | false=>exact⟨Int.le_refl 0,show(0:Int)≤200 by decide⟩
theorem qZe(h o t:List Int)(G:List Bd)(P D S:Int)(O U:List Nz)(C st V:Raw)(Z:Int)(F I:List (List Int))(hr:F.length<9223372036854775807):((qW Tryz.prog (evD Tryz.prog (OPc ky szA dcA) (LPc ky) 60) 22 [.ag (tbC h o t G P D S O U C st V Z F I)] []).bind jB).run=yI (pcE ky h o t G P D S O U C st V Z F I):=by
 rw[ePc];unfold pcE;cases e1:ieq (dcA h o t G P D S O U C st V) 0 with
 | false=>rfl
 | true=>
  have m:=zMi h o t G P D S O U C st V (qP.1 e1);obtain⟨q1,q2⟩:=zCa m;obtain⟨z1,z2⟩:=jCs h o t G P D S O U C st V m;simp only[Bool.not_true,cond_false];cases ilt Z (.ofNat 1)with
  | true=>rfl
  | false=>
   cases ilt (.ofNat 1048576) Z with
   | true=>rfl
   | false=>
    cases e4:ieq (.ofNat I.length) S with
    | false=>rfl
    | true=>
     have e5:(I.length:Int)=S:=qP.1 e4;have ok0:zPw F 0=true:=zFi (od:=true).2 ⟨Int.le_refl _,Int.natCast_nonneg _⟩;have a1:=m.av1;have a6:=m.av6;simp only[Bool.not_true,cond_false,gd,vN,zO hr,zO (show I.length<9223372036854775807 by omega),ok0,wZ (show szA h o t G P D S O U C st V<9223372036854775807 by omega),vO a1,vO (show G.length≤900 by omega),Bool.and_self,cond_true]
     cases p0F (szA h o t G P D S O U C st V) F I (0,true)with
     | inr e=>rfl
     | inl s=>
      simp only[isU,gU,cond_true];cases p2F ky F G with
      | inr e=>rfl
      | inl mp=>
       simp only[isM,gM',cond_true];cases s.2<;>cases ieq s.1 (.ofNat F.length)<;>cases ieq (.ofNat mp.length) (.ofNat F.length)<;>rfl
end
theorem zAk{α β:Type}{g:Nat→α→α⊕β}{d:α→β}{Q:β→Prop}(hr:∀i a y,g i a= .inr y→¬Q y):∀(k i:Nat)(a:α),Q (fol g d k i a)→∀j,i≤j→j<i+k→∃a b,g j a= .inl b
 | 0,i,a,_,j,h1,h2=>by omega
 | k+1,i,a,h,j,h1,h2=>by
  simp only[fol]at h;cases H:g i a with
  | inr y=>rw[H]at h;exact absurd h (hr i a y H)
  | inl b=>
   rw[H]at h;rcases Nat.eq_or_lt_of_le h1 with rfl | hlt
   ·exact⟨a,b,H⟩
   ·exact zAk hr k (i+1) b h j hlt (by omega)
theorem jCh{F:List (List Int)}{c:List Int}{s:UO}(h:isS (p1F F c s)=true){i:Nat}(hi:i<c.length):0≤nI c i∧nI c i<(F.length:Int):=by
 obtain⟨a,b,hg⟩:=zAk (g:=gP1 F c) (d:=some) (Q:=fun y=>isS y=true) (fun i a y hy H=>by
  unfold gP1 at hy;cases h1:ilt (nI c i) (.ofNat 0)||!ilt (nI c i) (.ofNat F.length)<;>rw[h1]at hy
  ·cases hy
  ·cases hy;cases H) c.length 0 s h i (Nat.zero_le _) (by omega)
 unfold gP1 at hg;cases h1:ilt (nI c i) (.ofNat 0)||!ilt (nI c i) (.ofNat F.length)with
 | true=>rw[h1]at hg;cases hg
 | false=>
  simp only[Bool.or_eq_false_iff,Bool.not_eq_false']at h1;exact⟨kX h1.1,xM.1 h1.2⟩
theorem jCg{ns:Int}{F jx:List (List Int)}{s:UO}(h:isU (p0F ns F jx s)=true){k:Nat}(hk:k<jx.length):((gI jx k).length:Int)=ns∧∀i,i<(gI jx k).length→0≤nI (gI jx k) i∧nI (gI jx k) i<(F.length:Int):=by
 obtain⟨a,b,hg⟩:=zAk (g:=gP0 ns F jx) (d:= .inl) (Q:=fun y=>isU y=true) (fun i a y hy H=>by
  unfold gP0 at hy;cases h1:ieq (.ofNat (gI jx i).length) ns<;>rw[h1]at hy
  ·cases hy;cases H
  ·cases h2:isS (p1F F (gI jx i) a)<;>rw[h2]at hy<;>cases hy;cases H) jx.length 0 s h k (Nat.zero_le _) (by omega)
 unfold gP0 at hg;cases h1:ieq (.ofNat (gI jx k).length) ns with
 | false=>rw[h1]at hg;cases hg
 | true=>
  cases h2:isS (p1F F (gI jx k) a)with
  | false=>rw[h1,h2]at hg;cases hg
  | true=>exact⟨qP.1 h1,fun i hi=>jCh h2 hi⟩
theorem jCj{ky:List Int→ByteArray}{qs:List (List Int)}{G:List Bd}(h:isM (p2F ky qs G)=true){k:Nat}(hk:k<qs.length):(gI qs k).length=G.length∧∀i,i<(gI qs k).length→0≤nI (gI qs k) i∧nI (gI qs k) i≤1099511627776:=by
 obtain⟨a,b,hg⟩:=zAk (g:=gP2 ky qs G) (d:= .inl) (Q:=fun y=>isM y=true) (fun i a y hy H=>by
  unfold gP2 at hy;cases h1:ieq (.ofNat (gI qs i).length) (.ofNat G.length)<;>rw[h1]at hy
  ·cases hy;cases H
  ·cases h2:p3F (gI qs i)<;>rw[h2]at hy<;>cases hy;cases H) qs.length 0 [] h k (Nat.zero_le _) (by omega)
 unfold gP2 at hg;cases h1:ieq (.ofNat (gI qs k).length) (.ofNat G.length)with
 | false=>rw[h1]at hg;cases hg
 | true=>
  cases h2:p3F (gI qs k)with
  | true=>rw[h1,h2]at hg;cases hg
  | false=>exact⟨Int.ofNat.inj (qP.1 h1),fun i hi=>qPd h2 hi⟩
structure Tab(h o t:List Int)(G:List Bd)(S Z:Int)(F I:List (List Int)):Prop where
 mod:Mod h o t G S
 sc1:1≤Z
 sc2:Z≤1048576
 ixl:(I.length:Int)=S
 row:∀k,k<I.length→(gI I k).length=h.length*o.length*t.length*G.length∧∀i,i<(gI I k).length→0≤nI (gI I k) i∧nI (gI I k) i<(F.length:Int)
 num:∀j,j<F.length→(gI F j).length=G.length∧∀i,i<(gI F j).length→0≤nI (gI F j) i∧nI (gI F j) i≤1099511627776
theorem zDw(ky:List Int→ByteArray)(h o t:List Int)(G:List Bd)(P D S:Int)(O U:List Nz)(C st V:Raw)(Z:Int)(F I:List (List Int))(hp:pcE ky h o t G P D S O U C st V Z F I=0):Tab h o t G S Z F I:=by
 have ne:∀{x:Int},ieq x 0=false→x≠0:=fun{x}h e=>by rw[vY e]at h;cases h
 unfold pcE at hp;cases e1:ieq (dcA h o t G P D S O U C st V) 0 with
 | false=>rw[e1]at hp;exact absurd hp (ne e1)
 | true=>
  have m:=zMi h o t G P D S O U C st V (qP.1 e1);rw[e1]at hp;cases e2:ilt Z (.ofNat 1)with
  | true=>rw[e2]at hp;cases hp
  | false=>
   cases e3:ilt (.ofNat 1048576) Z with
   | true=>rw[e2,e3]at hp;cases hp
   | false=>
    cases e4:ieq (.ofNat I.length) S with
    | false=>rw[e2,e3,e4]at hp;cases hp
    | true=>
     rw[e2,e3,e4]at hp;simp only[Bool.not_true,cond_false]at hp;have es:szA h o t G P D S O U C st V= .ofNat (h.length*o.length*t.length*G.length):=by unfold szA;rw[e1];rfl
     cases e5:p0F (szA h o t G P D S O U C st V) F I (0,true)with
     | inr e=>
      rw[e5]at hp;exfalso;have hp:e=0:=hp;have:=vX (g:=gP0 (szA h o t G P D S O U C st V) F I) (d:= .inl) (J:=fun _=>True) (R:=fun y=>∀e,y= .inr e→e≠0) (fun _ _ _ _ _=>trivial) (fun i a y _ hy e he=>by
       unfold gP0 at hy;cases h1:ieq (.ofNat (gI I i).length) (szA h o t G P D S O U C st V)<;>rw[h1]at hy
       ·cases hy;cases he;decide
       ·cases h2:isS (p1F F (gI I i) a)<;>rw[h2]at hy<;>cases hy;cases he;decide) (fun a _ e h=>by cases h) I.length 0 (0,true) trivial
      exact this e e5 hp
     | inl s=>
      rw[e5]at hp;simp only[isU,gU,cond_true]at hp;cases e6:p2F ky F G with
      | inr e=>
       rw[e6]at hp;exfalso;have hp:e=0:=hp;have:=vX (g:=gP2 ky F G) (d:= .inl) (J:=fun _=>True) (R:=fun y=>∀e,y= .inr e→e≠0) (fun _ _ _ _ _=>trivial) (fun i a y _ hy e h=>by
        unfold gP2 at hy;cases h1:ieq (.ofNat (gI F i).length) (.ofNat G.length)<;>rw[h1]at hy
        ·cases hy;cases h;decide
        ·cases h2:p3F (gI F i)<;>rw[h2]at hy<;>cases hy;cases h;decide) (fun a _ e h=>by cases h) F.length 0 [] trivial
       exact this e e6 hp
      | inl mp=>
       refine⟨m,kX e2,kX e3,qP.1 e4,fun k hk=>?_,fun j hj=>jCj (ky:=ky) (by rw[e6];rfl) hj⟩
       obtain⟨h1,h2⟩:=jCg (ns:=szA h o t G P D S O U C st V) (F:=F) (s:=(0,true)) (by rw[e5];rfl) hk
       rw[es]at h1;exact⟨Int.ofNat.inj h1,h2⟩
noncomputable def oPc(pc:TF Int):List T→DT (T×Bool)
 | [.ag [.ls .a (.int .i64) h,.ls .a (.int .i64) o,.ls .a (.int .i64) t,.ls .a (.prod (.int .u8) (.prod (.int .i64) (.int .i64))) G,.v (.int .i64 P),.v (.int .i64 D),.v (.int .i64 S),.ls .a (.prod (.int .i64) zP) O,.ls .a (.prod (.int .i64) zP) U,.v (.bool ab),.ls .a .lim C,.ls .a .lim am,.v (.bool sb),.ls .a .lim sl,.ls .a .lim sm,.v (.bool rb),.ls .a .lim rl,.ls .a .lim rm,.v (.int .i64 Z),.ls .a (.list (.int .i64)) F,.ls .a (.list (.int .i64)) I]]=>grd (Nat.blt F.length 9223372036854775807) (.ret (.v (.int .i64 (pc h o t G P D S O U ⟨ab,C,am⟩ ⟨sb,sl,sm⟩ ⟨rb,rl,rm⟩ Z F I)),true))
 | _=> .no
noncomputable abbrev pcA(h o t:List Int)(G:List Bd)(P D S:Int)(O U:List Nz)(C st V:Raw)(Z:Int)(F I:List (List Int)):Int:=pcE kyF h o t G P D S O U C st V Z F I
theorem qYr:vL Tryz.prog (OPc kyF szA dcA):=zX (zX yO (jY kKy)) (jY kSz)
theorem qYk:vL Tryz.prog (OKy kyF):=zX yO (jY kKy)
theorem qXv:mQ Tryz.prog (LPc kyF):=yK (yK qZ (tT xA qYk qXt 60) qQc (qTs kyF)) qMc qQa qTq
theorem kPc:∀az tv nw,(oPc pcA az).run=some (tv,nw)→∀k,KnP Tryz.prog k 22 az tv nw:=by
 intro az tv nw hh k;unfold oPc at hh;split at hh
 ·rename_i h o t G P D S O U ab C am sb sl sm rb rl rm Z F I;obtain⟨h1,h2⟩:=zV hh;cases h2;exact kQ (cz:=[.ag (tbC h o t G P D S O U ⟨ab,C,am⟩ ⟨sb,sl,sm⟩ ⟨rb,rl,rm⟩ Z F I)]) xA qYr qXv (qZe kyF h o t G P D S O U ⟨ab,C,am⟩ ⟨sb,sl,sm⟩ ⟨rb,rl,rm⟩ Z F I (qY h1)) rfl k
 ·cases hh
noncomputable def iSh(c:List Int)(x:Int)(c2:List Int)(n i:Nat):Hs:=⟨[.ls .a nT c,vi x,.ls .a nT c2,vn n,vn i],[],[[]]⟩
noncomputable def Lsh:Lp:=⟨1,
 ⟨[.h,.h,.u,.u,.t (.op 0 0),.t (.fn 110 [.op 0 0])]++(us' 16++([.h,.h,.h]++(us' 41))),[.r [.t (.v (.slice none 0 0))] 128]⟩,
 ⟨us' 4++([.t (.op 0 0)]++(us' 61)),[.r [.a .a nzT 131] 128]⟩,
 ⟨us' 4++([.h]++(us' 61)),[.g]⟩⟩
noncomputable abbrev qNp:Code:=lpc Tryz.prog 67 [false,true,false,true,true,true,false,true]
theorem qQe:cAt Tryz.prog 67 [false,true,false,true,true,true,false,true]=some (.loop qNp):=by kernel_rfl
noncomputable abbrev zUe(OD:Od)(LO:Lo):Hs→Option (Hs⊕(Ex×Hs)):=Lsh.stp (evD Tryz.prog OD LO 60) 67 [false,true,false,true,true,true,false,true] qNp
noncomputable def qGa(g:Int→Int→Raw):List Ar→DT Rs
 | [.i n,.i m]=>grd ((xZ n&&xZ m)&&nz m) (.ret (.tup [.r (g n m),.i 0]))
 | _=> .no
noncomputable abbrev OOf(of_:Int→Int→Raw):Od:=odT [(40,kcT (qGa of_) true)]
theorem sSh(of_:Int→Int→Raw)(c:List Int)(x:Int)(c2:List Int)(n i:Nat):zUe (OOf of_) (loT []) (iSh c x c2 n i)=bif ilt (.ofNat i) (.ofNat n)then gd (Nat.blt i c2.length) (bif ieq x (nth nT.zero c2 i)then some (.inr (.x 0,⟨[],[.ls .a nzT [(.ofNat i,(of_ 1 1).1,(of_ 1 1).2,(of_ 1 1).3)]],[[]]⟩))else(bif ilt x (nth nT.zero c2 i)then gd (inW (pr i)) (gd (nng (pr i)) (gd (Nat.blt ((pr i).toNat) c.length) (gd (inW (pr i)) (gd (inW (Int.sub (nth nT.zero c2 i) x)) (gd (inW (Int.sub (nth nT.zero c2 i) (nth nT.zero c ((pr i).toNat)))) (gd (((xZ (Int.sub (nth nT.zero c2 i) x))&&(xZ (Int.sub (nth nT.zero c2 i) (nth nT.zero c ((pr i).toNat)))))&&(nz (Int.sub (nth nT.zero c2 i) (nth nT.zero c ((pr i).toNat))))) (gd (inW (x.sub (nth nT.zero c ((pr i).toNat)))) (gd (inW (Int.sub (nth nT.zero c2 i) (nth nT.zero c ((pr i).toNat)))) (gd (((xZ (x.sub (nth nT.zero c ((pr i).toNat))))&&(xZ (Int.sub (nth nT.zero c2 i) (nth nT.zero c ((pr i).toNat)))))&&(nz (Int.sub (nth nT.zero c2 i) (nth nT.zero c ((pr i).toNat))))) (some (.inr (.x 0,⟨[],[.ls .a nzT [(.ofNat i,(of_ (x.sub (nth nT.zero c ((pr i).toNat))) (Int.sub (nth nT.zero c2 i) (nth nT.zero c ((pr i).toNat)))).1,(of_ (x.sub (nth nT.zero c ((pr i).toNat))) (Int.sub (nth nT.zero c2 i) (nth nT.zero c ((pr i).toNat)))).2,(of_ (x.sub (nth nT.zero c ((pr i).toNat))) (Int.sub (nth nT.zero c2 i) (nth nT.zero c ((pr i).toNat)))).3),(pr i,(of_ (Int.sub (nth nT.zero c2 i) x) (Int.sub (nth nT.zero c2 i) (nth nT.zero c ((pr i).toNat)))).1,(of_ (Int.sub (nth nT.zero c2 i) x) (Int.sub (nth nT.zero c2 i) (nth nT.zero c ((pr i).toNat)))).2,(of_ (Int.sub (nth nT.zero c2 i) x) (Int.sub (nth nT.zero c2 i) (nth nT.zero c ((pr i).toNat)))).3)]],[[]]⟩))))))))))))else nx i (.inl (iSh c x c2 n (i+1)))))else some (.inr (.x 0,⟨[],[.ls .a nzT []],[[]]⟩)):=by kernel_rfl
noncomputable def gSh(c:List Int)(x:Int)(i:Nat)(_:Unit):Unit⊕Option (Nat×Bool):=bif ieq x (nI c i)then .inr (some (i,true))else(bif ilt x (nI c i)then .inr (some (i,false))else .inl ())
noncomputable def sF(c:List Int)(x:Int):Option (Nat×Bool):=fol (gSh c x) (fun _=>none) c.length 0 ()
section
variable (of_:Int→Int→Raw)
noncomputable def zBy(i:Nat):Nz:=(.ofNat i,toT (of_ 1 1))
noncomputable def zZe(c:List Int)(x:Int)(i:Nat):Nz:=(.ofNat i,toT (of_ (Int.sub x (nI c (i-1))) (Int.sub (nI c i) (nI c (i-1)))))
noncomputable def zZf(c:List Int)(x:Int)(i:Nat):Nz:=(.ofNat (i-1),toT (of_ (Int.sub (nI c i) x) (Int.sub (nI c i) (nI c (i-1)))))
noncomputable def qPa(c:List Int)(x:Int):Option (Nat×Bool)→Ex×Hs
 | none=>(.x 0,⟨[],[.ls .a nzT []],[[]]⟩)
 | some (i,true)=>(.x 0,⟨[],[.ls .a nzT [zBy of_ i]],[[]]⟩)
 | some (i,false)=>(.x 0,⟨[],[.ls .a nzT [zZe of_ c x i,zZf of_ c x i]],[[]]⟩)
end
theorem zAp{v:Int}(h:0≤v)(h2:v≤4611686018427387904):xZ v=true:=by
 obtain⟨m,rfl⟩:=Int.eq_ofNat_of_zero_le h;exact vO (show m≤9223372036854775807 by omega)
theorem jCd{v:Int}(h:0<v):nz v=true:=by
 cases v with
 | ofNat m=>cases m with
  | zero=>exact absurd h (Int.lt_irrefl _)
  | succ m=>rfl
 | negSucc m=>rfl
noncomputable def shG(c:List Int)(x:Int):Bool:=!c1F c c&&(Nat.ble 1 c.length&&(Nat.ble c.length 32&&(!ilt x (nI c 0)&&!ilt (.ofNat 1073741824) x)))
theorem lpSh(of_:Int→Int→Raw){c:List Int}{x:Int}(hg:shG c x=true):lpF (zUe (OOf of_) (loT [])) c.length (iSh c x c c.length 0)=some (qPa of_ c x (sF c x)):=by
 simp only[shG,Bool.and_eq_true,Nat.ble_eq,Bool.not_eq_true']at hg;obtain⟨h1,h2,h3,h4,h5⟩:=hg;have h4:=kX h4;have h5:x≤1073741824:=kX h5;exact yZ (st:=zUe (OOf of_) (loT [])) (iv:=fun i(_:Unit)=>iSh c x c c.length i) (g:=gSh c x) (d:=fun _=>none) (out:=qPa of_ c x) (n:=c.length) (fun i _=>0<i→nI c (i-1)<x)
  (fun i _ hi hJ=>by
   rw[sSh];show(bif Nat.blt i c.length then _ else _)=_;unfold gSh;rw[zO hi,cond_true];simp only[gd,cond_true,xV (show i+1<9223372036854775808 by omega)]
   cases e1:ieq x (nI c i)with
   | true=>rfl
   | false=>
    cases e2:ilt x (nI c i)with
    | false=>rfl
    | true=>
     have k2:=xM.1 e2;cases i with
     | zero=>exact absurd k2 (by omega)
     | succ i=>
      have k1:=hJ (Nat.succ_pos i);rw[Nat.add_sub_cancel]at k1;obtain⟨b1,b2,_⟩:=zCp h1 hi;obtain⟨a1,a2,_⟩:=zCp h1 (show i<c.length by omega)
      have e4:(Int.ofNat i).toNat=i:=rfl;have s1:0<Int.sub (nI c (i+1)) x:=show(0:Int)<nI c (i+1)-x by omega
      have s2:Int.sub (nI c (i+1)) x≤2147483648:=show nI c (i+1)-x≤2147483648 by omega
      have s3:0<Int.sub (nI c (i+1)) (nI c i):=show(0:Int)<nI c (i+1)-nI c i by omega
      have s4:Int.sub (nI c (i+1)) (nI c i)≤2147483648:=show nI c (i+1)-nI c i≤2147483648 by omega
      have s5:0<Int.sub x (nI c i):=show(0:Int)<x-nI c i by omega
      have s6:Int.sub x (nI c i)≤2147483648:=show x-nI c i≤2147483648 by omega
      have q1:nI c i=nth nT.zero c i:=rfl;have q2:nI c (i+1)=nth nT.zero c (i+1):=rfl;rw[prS,e4,←q1,←q2,qK (show i<9223372036854775808 by omega)]
      simp only[nng,zO (show i<c.length by omega),cond_true,zCz (Int.le_of_lt s1) (by omega),zCz (Int.le_of_lt s3) (by omega),zCz (Int.le_of_lt s5) (by omega),zAp (Int.le_of_lt s1) (by omega),zAp (Int.le_of_lt s3) (by omega),zAp (Int.le_of_lt s5) (by omega),jCd s3,Bool.and_self]
      rfl)
  (fun i _ _ hi hJ hg _=>by
   unfold gSh at hg;cases e1:ieq x (nI c i)with
   | true=>rw[e1]at hg;cases hg
   | false=>
    cases e2:ilt x (nI c i)with
    | true=>rw[e1,e2]at hg;cases hg
    | false=>
     have k2:=kX e2;have k1:x≠nI c i:=fun e=>by rw[vY e]at e1;cases e1
     rw[Nat.add_sub_cancel];omega)
  (fun _ _=>by rw[sSh];show(bif Nat.blt c.length c.length then _ else _)=_;rw[kE (Nat.le_refl _),cond_false];rfl) c.length 0 () (by omega) (fun h=>absurd h (Nat.lt_irrefl 0))
noncomputable def isF:Option (Nat×Bool)→Bool
 | none=>false
 | some _=>true
noncomputable def exF:Option (Nat×Bool)→Bool
 | none=>false
 | some s=>s.2
noncomputable def bX:Option (Nat×Bool)→Nat
 | none=>0
 | some s=>s.1
noncomputable def hSh(of_:Int→Int→Raw):Hs→DT (Ex×Hs)
 | ⟨[.ls .a (.int .i64) c,.v (.int .i64 x),.ls .a (.int .i64) c2,.v (.int .i64 (.ofNat n)),.v (.int .i64 (.ofNat 0))],[],[[]]⟩=>grd (decide (c=c2)&&(Nat.beq n c2.length&&shG c x)) (.ite (isF (sF c x)) (.ite (exF (sF c x)) (.ret (.x 0,⟨[],[.ls .a nzT [zBy of_ (bX (sF c x))]],[[]]⟩)) (.ret (.x 0,⟨[],[.ls .a nzT [zZe of_ c x (bX (sF c x)),zZf of_ c x (bX (sF c x))]],[[]]⟩))) (.ret (.x 0,⟨[],[.ls .a nzT []],[[]]⟩)))
 | _=> .no
theorem qTu(of_:Int→Int→Raw):∀q y,(hSh of_ q).run=some y→∃n,It (zUe (OOf of_) (loT [])) n q y:=fun q y hh=>by
 unfold hSh at hh;split at hh
 ·rename_i c x c2 n;obtain⟨h1,h2⟩:=zV hh;simp only[Bool.and_eq_true]at h1;obtain⟨g1,g2,g3⟩:=h1;obtain rfl:=of_decide_eq_true g1;obtain rfl:=zY g2;have:=kF _ _ (lpSh of_ g3);cases hb:sF c x with
  | none=>rw[hb]at h2 this;cases h2;exact this
  | some s=>
   obtain⟨i,b⟩:=s;cases b<;>rw[hb]at h2 this<;>cases h2<;>exact this
 ·cases hh
noncomputable abbrev LSh(of_:Int→Int→Raw):Lo:=loT [(67,[false,true,false,true,true,true,false,true],Lsh.row (hSh of_))]
noncomputable def mnI(a b:Int):Int:=bif ilt b a then b else a
noncomputable def mxI(a b:Int):Int:=bif ilt a b then b else a
theorem zDh(a b:Int):mnI a b≤a∧mnI a b≤b∧(mnI a b=a∨mnI a b=b):=by
 unfold mnI;rcases Int.lt_or_le b a with g | g
 ·rw[wZ g];exact⟨Int.le_of_lt g,Int.le_refl _,.inr rfl⟩
 ·rw[xU g];exact⟨Int.le_refl _,g,.inl rfl⟩
theorem zGw(a b:Int):a≤mxI a b∧b≤mxI a b∧(mxI a b=a∨mxI a b=b):=by
 unfold mxI;rcases Int.lt_or_le a b with g | g
 ·rw[wZ g];exact⟨Int.le_of_lt g,Int.le_refl _,.inr rfl⟩
 ·rw[xU g];exact⟨Int.le_refl _,g,.inl rfl⟩
noncomputable abbrev clX(c:List Int)(x:Int):Int:=mxI (nI c 0) (mnI x (nI c (pr c.length).toNat))
theorem eSh(of_:Int→Int→Raw)(c:List Int)(x:Int):((qW Tryz.prog (evD Tryz.prog (OOf of_) (LSh of_) 60) 67 [.ls .a nT c,vi x] []).bind jB).run=gd (Nat.blt 0 c.length) (gd (inW (pr c.length)) (gd (nng (pr c.length)) (gd (Nat.blt (pr c.length).toNat c.length) (gd (decide (c=c)&&(Nat.beq c.length c.length&&shG c (clX c x))) (bif isF (sF c (clX c x))then(bif exF (sF c (clX c x))then some (.ls .a nzT [zBy of_ (bX (sF c (clX c x)))],false)else some (.ls .a nzT [zZf of_ c (clX c x) (bX (sF c (clX c x))),zZe of_ c (clX c x) (bX (sF c (clX c x)))],false))else some (.v (.slice none 0 0),true)))))):=by kernel_rfl
noncomputable def wI(c:List Int):Bool:=!c1F c c&&(Nat.ble 1 c.length&&Nat.ble c.length 32)
theorem qOd{c:List Int}{x:Int}:nI c 0≤clX c x:=(zGw _ _).1
theorem jAd{c:List Int}{x:Int}(h:wI c=true):shG c (clX c x)=true:=by
 simp only[wI,Bool.and_eq_true,Nat.ble_eq,Bool.not_eq_true']at h;obtain⟨h1,h2,h3⟩:=h;obtain⟨m,hm⟩:∃m,c.length=m+1:=⟨c.length-1,by omega⟩
 have e:(pr c.length).toNat=m:=by rw[hm,prS];rfl
 obtain⟨_,b1,_⟩:=zCp h1 (show m<c.length by omega)
 obtain⟨_,b2,_⟩:=zCp h1 (show 0<c.length by omega)
 have hi:clX c x≤1073741824:=by
  unfold clX;rw[e];have q1:=zGw (nI c 0) (mnI x (nI c m));have q2:=zDh x (nI c m);rcases q1.2.2 with g | g<;>omega
 simp only[shG,Bool.and_eq_true,Bool.not_eq_true'];exact⟨h1,vO h2,vO h3,xU qOd,xU (show clX c x≤1073741824 from hi)⟩
section
variable (of_:Int→Int→Raw)
noncomputable def oSh:List T→DT (T×Bool)
 | [.ls .a (.int .i64) c,.v (.int .i64 x)]=>grd (wI c) (.ite (isF (sF c (clX c x))) (.ite (exF (sF c (clX c x))) (.ret (.ls .a nzT [zBy of_ (bX (sF c (clX c x)))],false)) (.ret (.ls .a nzT [zZf of_ c (clX c x) (bX (sF c (clX c x))),zZe of_ c (clX c x) (bX (sF c (clX c x)))],false))) (.ret (.ls .a nzT [],false)))
 | _=> .no
end
theorem qYi(g:Int→Int→Raw)(az:List Ar):(qGa g az).run=pII g az:=by
 unfold qGa pII;split
 ·rename_i n m;show(bif(xZ n&&xZ m)&&nz m then _ else _)=_;rfl
 ·rename_i h;split
  ·rename_i n m;exact absurd rfl (h n m)
  ·rfl
noncomputable abbrev ofA(n m:Int):Raw:=Raw.of (mkRat (sgn (!(decide (n<0)==decide (m<0))) n.natAbs) m.natAbs)
theorem kOfT:KC Tryz.prog 40 (fun az=>(qGa ofA az).run) true:=by
 have e:(fun az=>(qGa ofA az).run)=pII ofA:=funext fun az=>qYi ofA az;rw[e];exact kOf
theorem zSy:vL Tryz.prog (OOf ofA):=zX yO fun az tv nw h k=>zGk kOfT az tv nw h k
theorem qEa:mQ Tryz.prog (LSh ofA):=yK qZ (tT xA zSy qZ 60) qQe (qTu ofA)
theorem kSh:∀az tv nw,(oSh ofA az).run=some (tv,nw)→∀k,KnP Tryz.prog k 67 az tv nw:=by
 intro az tv nw hh k;unfold oSh at hh;split at hh
 ·rename_i c x;obtain⟨h1,h2⟩:=zV hh;have q:=eSh ofA c x;have h1':=h1;simp only[wI,Bool.and_eq_true,Nat.ble_eq,Bool.not_eq_true']at h1;obtain⟨_,g2,g3⟩:=h1;obtain⟨m,hm⟩:∃m,c.length=m+1:=⟨c.length-1,by omega⟩
  have e:pr c.length= .ofNat m:=by rw[hm,prS]
  have e4:(Int.ofNat m).toNat=m:=rfl;have hn:nng (.ofNat m)=true:=rfl;rw[jAd h1',e,hn,e4,qK (show m<9223372036854775808 by omega)]at q
  simp only[gd,zO (show 0<c.length by omega),zO (show m<c.length by omega),vN,decide_true,Bool.and_self,cond_true]at q
  simp only[DT.run]at h2;cases b1:isF (sF c (clX c x))with
  | false=>
   rw[b1]at q h2;cases h2;exact((kQ (cz:=[.ls .a nT c,vi x]) xA zSy qEa q rfl k).old).res fun B r v h=>zDn h
  | true=>
   rw[b1]at q h2;cases b2:exF (sF c (clX c x))<;>rw[b2]at q h2<;>cases h2<;>exact kQ (cz:=[.ls .a nT c,vi x]) xA zSy qEa q rfl k
 ·cases hh
theorem zMw{c:List Int}{m:Nat}(hm:c.length=m+1):(pr c.length).toNat=m:=by rw[hm,prS];rfl
theorem zNb{c:List Int}{x:Int}(h:wI c=true):isF (sF c (clX c x))=true:=by
 have h':=h;simp only[wI,Bool.and_eq_true,Nat.ble_eq,Bool.not_eq_true']at h;obtain⟨h1,h2,h3⟩:=h;cases hs:sF c (clX c x)with
 | some s=>rfl
 | none=>
  exfalso;obtain⟨m,hm⟩:∃m,c.length=m+1:=⟨c.length-1,by omega⟩
  have H:=zAj (g:=gSh c (clX c x)) (d:=none) (fun i y hy e=>by
   unfold gSh at hy;cases e1:ieq (clX c x) (nI c i)<;>rw[e1]at hy
   ·cases e2:ilt (clX c x) (nI c i)<;>rw[e2]at hy<;>cases hy;cases e
   ·cases hy;cases e) c.length 0 hs m (Nat.zero_le _) (by omega)
  have mono:∀i,i<c.length→nI c 0≤nI c i:=fun i=>by
   induction i with
   | zero=>intro _;exact Int.le_refl _
   | succ i ih=>
    intro hi;have:=(zCp h1 hi).2.2 (Nat.succ_pos i);rw[Nat.add_sub_cancel]at this;have:=ih (by omega)
    omega
  have hle:clX c x≤nI c m:=by
   have h0:=mono m (by omega)
   unfold clX;rw[zMw hm];have q1:=zGw (nI c 0) (mnI x (nI c m));have q2:=zDh x (nI c m);rcases q1.2.2 with g | g<;>omega
  unfold gSh at H;cases e1:ieq (clX c x) (nI c m)with
  | true=>rw[e1]at H;cases H
  | false=>
   cases e2:ilt (clX c x) (nI c m)with
   | true=>rw[e1,e2]at H;cases H
   | false=>
    have:=kX e2;have hn:clX c x≠nI c m:=fun e=>by rw[vY e]at e1;cases e1
    omega
section
variable (of_:Int→Int→Raw)
noncomputable abbrev ixS(c:List Int)(x:Int):Nat:=bX (sF c (clX c x))
noncomputable abbrev zAh(c:List Int)(x:Int):Bool:=exF (sF c (clX c x))
noncomputable abbrev qMk(c:List Int)(x:Int):Nz:=zBy of_ (ixS c x)
noncomputable abbrev sLo(c:List Int)(x:Int):Nz:=zZf of_ c (clX c x) (ixS c x)
noncomputable abbrev sHi(c:List Int)(x:Int):Nz:=zZe of_ c (clX c x) (ixS c x)
noncomputable def qYf:List T→DT (T×Bool)
 | [.ls .a (.int .i64) c,.v (.int .i64 x)]=>grd (wI c) (.ite (zAh c x) (.ret (.ls .a nzT [qMk of_ c x],false)) (.ret (.ls .a nzT [sLo of_ c x,sHi of_ c x],false)))
 | _=> .no
end
theorem kSh2:∀az tv nw,(qYf ofA az).run=some (tv,nw)→∀k,KnP Tryz.prog k 67 az tv nw:=by
 intro az tv nw hh k;refine kSh az tv nw ?_ k;unfold qYf at hh;unfold oSh;split at hh
 ·rename_i c x;obtain⟨h1,h2⟩:=zV hh;simp only[grd,DT.run,h1,cond_true,zNb h1];exact h2
 ·cases hh
noncomputable def zYl(ic:List (List Int)→Int):List T→DT (T×Bool)
 | [.ls .a (.list (.int .i64)) g]=> .ret (.v (.int .i64 (ic g)),true)
 | _=> .no
noncomputable abbrev OW(of_:Int→Int→Raw)(mu:Raw→Raw→Raw)(me:Raw→Raw→Int)(fr:Int→Raw)(ic:List (List Int)→Int):Od:=odT ((67,odR [.list nT,nT] (qYf of_))::(59,odR [.list (.list nT)] (zYl ic))::[(68,kcD (pRR fun a b=>some (mu a b,me a b)) true),(12,kcD (pI fr) true)])
section
variable (of_:Int→Int→Raw)(mu:Raw→Raw→Raw)(me:Raw→Raw→Int)(fr:Int→Raw)(ic:List (List Int)→Int)
noncomputable def wN(c:List Int)(y s:Nz):Nz:=(wq (Int.add (Int.mul y.1 (.ofNat c.length)) s.1),toT (mu (rw' y.2) (rw' s.2)))
noncomputable def zEn(c:List Int)(x:Int):List Nz→List Nz→(List Nz→Option (T×Bool))→Option (T×Bool)
 | [],acc,K=>K acc.reverse
 | y::l,acc,K=>gd (wI c) (bif zAh c x then gd (inW (Int.mul y.1 (.ofNat c.length))) (zEn c x l (wN mu c y (qMk of_ c x)::acc) K)else gd (inW (Int.mul y.1 (.ofNat c.length))) (gd (inW (Int.mul y.1 (.ofNat c.length))) (zEn c x l (wN mu c y (sHi of_ c x)::wN mu c y (sLo of_ c x)::acc) K)))
noncomputable def cN(y:Nz):List T:=[vi y.1,.v (.bool y.2.1),.ls .a .lim y.2.2.1,.ls .a .lim y.2.2.2]
noncomputable def flN:List Nz→List T
 | []=>[]
 | y::l=>cN y++flN l
set_option maxHeartbeats 0 in
theorem eWg(h o t:List Int)(x0 x1 x2:Int):((qW Tryz.prog (evD Tryz.prog (OW of_ mu me fr ic) (loT []) 60) 28 [.ls .a (.list nT) [h,o,t],.ls .a nT [x0,x1,x2]] []).bind jB).run=bif !ieq (ic [h,o,t]) 0 then some (.tu [.v (.slice none 0 0),vi (ic [h,o,t])],true)else zEn of_ mu h x0 [(0,toT (fr 1))] [] fun l1=>zEn of_ mu o x1 l1 [] fun l2=>zEn of_ mu t x2 l2 [] fun l3=>some (.tu [.sl (flN l3) l3.length,vn 0],true):=by kernel_rfl
end
theorem qPh{c:List Int}{x:Int}:∀(k i:Nat){s:Nat×Bool},fol (gSh c x) (fun _=>none) k i ()=some s→i≤s.1∧s.1<i+k
 | 0,i,s,h=>by cases h
 | k+1,i,s,h=>by
  simp only[fol]at h;cases H:gSh c x i ()with
  | inl y=>
   rw[H]at h;have:=qPh k (i+1) h;omega
  | inr y=>
   rw[H]at h;unfold gSh at H;cases e1:ieq x (nI c i)<;>rw[e1]at H
   ·cases e2:ilt x (nI c i)<;>rw[e2]at H<;>cases H;cases h;exact⟨Nat.le_refl _,by show i<i+(k+1);omega⟩
   ·cases H;cases h;exact⟨Nat.le_refl _,by show i<i+(k+1);omega⟩
theorem qDm{c:List Int}{x:Int}(h:wI c=true):ixS c x<c.length:=by
 have hs:=zNb (x:=x) h;cases H:sF c (clX c x)with
 | none=>rw[H]at hs;cases hs
 | some s=>
  have:=qPh c.length 0 H;show bX (sF c (clX c x))<_;rw[H];show s.1<_;omega
section
variable (of_:Int→Int→Raw)(mu:Raw→Raw→Raw)(me:Raw→Raw→Int)(fr:Int→Raw)(ic:List (List Int)→Int)
noncomputable def w1(c:List Int)(x:Int)(y:Nz):List Nz:=bif zAh c x then[wN mu c y (qMk of_ c x)]else[wN mu c y (sLo of_ c x),wN mu c y (sHi of_ c x)]
noncomputable def wF(c:List Int)(x:Int):List Nz→List Nz
 | []=>[]
 | y::l=>w1 of_ mu c x y++wF c x l
def inV(M:Nat)(l:List Nz):Prop:=∀y∈l,0≤y.1∧y.1<M
theorem qHo{c:List Int}{M:Nat}{y s:Nz}(hc:c.length≤32)(hM:M≤1048576)(hy:0≤y.1∧y.1<M)(hs:0≤s.1∧s.1<c.length):inW (Int.mul y.1 (.ofNat c.length))=true∧0≤(wN mu c y s).1∧(wN mu c y s).1<((M*c.length:Nat):Int):=by
 obtain⟨v,hv⟩:∃v:Nat,y.1=(v:Int):=Int.eq_ofNat_of_zero_le hy.1;obtain⟨j,hj⟩:∃j:Nat,s.1=(j:Int):=Int.eq_ofNat_of_zero_le hs.1;have hv2:v<M:=by
  have h2:=hy.2;rw[hv]at h2;exact Int.ofNat_lt.1 h2
 have hj2:j<c.length:=by
  have h2:=hs.2;rw[hj]at h2;exact Int.ofNat_lt.1 h2
 have q1:v*c.length≤1048576*32:=Nat.mul_le_mul (by omega) hc
 have q2:v*c.length+c.length≤M*c.length:=by
  rw[←Nat.succ_mul];exact Nat.mul_le_mul_right _ hv2
 have e:Int.mul y.1 (.ofNat c.length)=((v*c.length:Nat):Int):=by rw[hv];rfl
 have e2:(wN mu c y s).1=((v*c.length+j:Nat):Int):=by
  show wq (Int.add (Int.mul y.1 (.ofNat c.length)) s.1)=_;have e3:Int.add (Int.mul y.1 (.ofNat c.length)) s.1=((v*c.length+j:Nat):Int):=by rw[e,hj];rfl
  rw[e3];exact zXb (qK (show v*c.length+j<9223372036854775808 by omega))
 refine⟨?_,?_,?_⟩
 ·rw[e];exact qK (show v*c.length<9223372036854775808 by omega)
 ·rw[e2];exact Int.natCast_nonneg _
 ·rw[e2];exact Int.ofNat_lt.2 (by omega)
theorem qPn{c:List Int}{x:Int}{M:Nat}{y:Nz}(hg:wI c=true)(hM:M≤1048576)(hy:0≤y.1∧y.1<M):inW (Int.mul y.1 (.ofNat c.length))=true∧inV (M*c.length) (w1 of_ mu c x y):=by
 have hg':=hg;simp only[wI,Bool.and_eq_true,Nat.ble_eq]at hg';have hl:=qDm (x:=x) hg;have hc:=hg'.2.2;have a:=qHo (mu:=mu) (s:=qMk of_ c x) hc hM hy ⟨Int.natCast_nonneg _,show((ixS c x:Nat):Int)<(c.length:Int)by omega⟩
 have b:=qHo (mu:=mu) (s:=sLo of_ c x) hc hM hy ⟨Int.natCast_nonneg _,show((ixS c x-1:Nat):Int)<(c.length:Int)by omega⟩
 have d:=qHo (mu:=mu) (s:=sHi of_ c x) hc hM hy ⟨Int.natCast_nonneg _,show((ixS c x:Nat):Int)<(c.length:Int)by omega⟩
 refine⟨a.1,fun z hz=>?_⟩;unfold w1 at hz;cases he:zAh c x<;>rw[he]at hz
 ·rcases List.mem_cons.1 hz with rfl | hz
  ·exact b.2
  ·rcases List.mem_cons.1 hz with rfl | hz
   ·exact d.2
   ·cases hz
 ·rcases List.mem_cons.1 hz with rfl | hz
  ·exact a.2
  ·cases hz
theorem zKq{c:List Int}{x:Int}{M:Nat}(hg:wI c=true)(hM:M≤1048576):∀{l:List Nz},inV M l→inV (M*c.length) (wF of_ mu c x l)
 | [],_,z,hz=>by cases hz
 | y::l,h,z,hz=>by
  rcases List.mem_append.1 hz with hz | hz
  ·exact(qPn of_ mu hg hM (h y List.mem_cons_self)).2 z hz
  ·exact zKq hg hM (fun y hy=>h y (List.mem_cons_of_mem _ hy)) z hz
theorem zCj{c:List Int}{x:Int}{M:Nat}(hg:wI c=true)(hM:M≤1048576)(K:List Nz→Option (T×Bool)):∀(l acc:List Nz),inV M l→zEn of_ mu c x l acc K=K (acc.reverse++wF of_ mu c x l)
 | [],acc,_=>by simp only[zEn,wF,List.append_nil]
 | y::l,acc,h=>by
  have hi:=(qPn of_ mu (x:=x) hg hM (h y List.mem_cons_self)).1;have IH:=fun a=>zCj (x:=x) hg hM K l a (fun y hy=>h y (List.mem_cons_of_mem _ hy));simp only[zEn,wF,w1,gd,hg,cond_true,hi];cases zAh c x with
  | true=>simp only[cond_true];rw[IH];simp
  | false=>simp only[cond_false];rw[IH];simp
noncomputable def wgF(h o t:List Int)(x0 x1 x2:Int):List Nz:=wF of_ mu t x2 (wF of_ mu o x1 (wF of_ mu h x0 [(0,toT (fr 1))]))
noncomputable def wgR(h o t:List Int)(x0 x1 x2:Int):List Nz:=bif ieq (ic [h,o,t]) 0 then wgF of_ mu fr h o t x0 x1 x2 else[]
end
theorem zLu{g:List (List Int)}(hg:Grid g){k:Nat}(hk:k<g.length):wI (gI g k)=true:=by
 obtain⟨h1,h2,h3⟩:=hg.cut k hk;simp only[wI,h3,Bool.not_false,Bool.true_and,Bool.and_eq_true];exact⟨vO h1,vO h2⟩
theorem gJ{h o t:List Int}(hg:icE [h,o,t]=0):wI h=true∧wI o=true∧wI t=true:=by
 have g:=zUw hg;exact⟨zLu g (show 0<3 by omega),zLu g (show 1<3 by omega),zLu g (show 2<3 by omega)⟩
theorem zSx(fr:Int→Raw):inV 1 [((0:Int),toT (fr 1))]:=fun z hz=>by
 rcases List.mem_cons.1 hz with rfl | hz
 ·exact⟨Int.le_refl _,show(0:Int)<1 by decide⟩
 ·cases hz
theorem jCy(of_:Int→Int→Raw)(mu:Raw→Raw→Raw)(fr:Int→Raw){h o t:List Int}{x0 x1 x2:Int}(hg:icE [h,o,t]=0):inV (h.length*o.length*t.length) (wgF of_ mu fr h o t x0 x1 x2):=by
 obtain⟨s1,s2,s3⟩:=gJ hg;obtain⟨⟨_,l1⟩,⟨_,l2⟩,⟨_,l3⟩⟩:=zAn hg;have q1:h.length*o.length≤32*32:=Nat.mul_le_mul l1 l2;have a:=zKq of_ mu (x:=x0) s1 (by decide) (zSx fr)
 have b:=zKq of_ mu (x:=x1) s2 (show 1*h.length≤1048576 by omega) a
 rw[Nat.one_mul]at b;exact zKq of_ mu (x:=x2) s3 (show h.length*o.length≤1048576 by omega) b
theorem jAy(of_:Int→Int→Raw)(mu:Raw→Raw→Raw)(me:Raw→Raw→Int)(fr:Int→Raw)(h o t:List Int)(x0 x1 x2:Int):((qW Tryz.prog (evD Tryz.prog (OW of_ mu me fr icE) (loT []) 60) 28 [.ls .a (.list nT) [h,o,t],.ls .a nT [x0,x1,x2]] []).bind jB).run=bif ieq (icE [h,o,t]) 0 then some (.tu [.sl (flN (wgF of_ mu fr h o t x0 x1 x2)) (wgF of_ mu fr h o t x0 x1 x2).length,vi (icE [h,o,t])],true)else some (.tu [.v (.slice none 0 0),vi (icE [h,o,t])],true):=by
 rw[eWg];cases e:ieq (icE [h,o,t]) 0 with
 | false=>rfl
 | true=>
  have hg:=qP.1 e;obtain⟨s1,s2,s3⟩:=gJ hg;obtain⟨⟨_,l1⟩,⟨_,l2⟩,⟨_,l3⟩⟩:=zAn hg;have q1:h.length*o.length≤32*32:=Nat.mul_le_mul l1 l2;have a:=zKq of_ mu (x:=x0) s1 (by decide) (zSx fr)
  have b:=zKq of_ mu (x:=x1) s2 (show 1*h.length≤1048576 by omega) a
  rw[Nat.one_mul]at b;simp only[Bool.not_true,cond_false,cond_true];rw[zCj of_ mu s1 (by decide) _ _ _ (zSx fr)]
  simp only[List.reverse_nil,List.nil_append];rw[zCj of_ mu s2 (show 1*h.length≤1048576 by omega) _ _ _ a]
  simp only[List.reverse_nil,List.nil_append];rw[zCj of_ mu s3 (show h.length*o.length≤1048576 by omega) _ _ _ b,hg]
  rfl
theorem zNf{B:Bm}{r:Rd}{A:Ty}(hA:lQ A=true){l:List A.den}{v:Value}(hR:Rep B r (.sl (yA .a A l) l.length) v):Rep B r (.ls .a A l) v:=by
 obtain⟨ad,c,rfl,hc,hh⟩:=hR.slI;have hm:=hR.slB;rcases hh with⟨h0,_⟩ | ⟨b,o,rfl,hcl⟩
 ·have h1:l=[]:=by
   cases l with
   | nil=>rfl
   | cons x l=>first | exact absurd h0 (by simp) | (exfalso;simp at h0)
  subst h1;exact .ls ⟨ad,c,rfl,Nat.zero_le _,hm,.inl rfl⟩
 ·obtain⟨fv,g1,g2⟩:=hcl.fun;have hRs:zN B r (yA .a A l) ((List.range (yA .a A l).length).map fv):=zN.of (by simp) fun j t v e e'=>by
   rw[List.getElem?_map]at e';obtain⟨j',e1,rfl⟩:=Option.map_eq_some_iff.1 e';obtain⟨hj1,hj2⟩:=List.getElem?_eq_some_iff.1 e1;rw[List.getElem_range]at hj2;subst hj2;exact g2 _ _ e
  have hRs2:zN B r (qN .a A l.reverse) ((List.range (yA .a A l).length).map fv):=by rw[nP];exact hRs
  have:=zFq.of_flat (g:= .a) (A:=A) (x:=l.reverse) (b:=b) (o:=o) (c:=c) (p:=fun b=>Bm.In B .a b) (fun A l v h=>by cases h with | ls h=>exact h) hA hRs2 (fun j v hv=>by
   rw[List.getElem?_map]at hv;obtain⟨j',e1,rfl⟩:=Option.map_eq_some_iff.1 hv;obtain⟨hj1,hj2⟩:=List.getElem?_eq_some_iff.1 e1;rw[List.getElem_range]at hj2;subst hj2;have hj3:j<(yA .a A l).length:=by simpa using hj1
   exact g1 j (yA .a A l)[j] (by simp[hj3])) Bm.In.any (by rw[List.length_reverse];exact hc) hm
  rw[List.reverse_reverse]at this;exact .ls ⟨some ⟨b,o,none⟩,c,rfl,this⟩
theorem qCt:∀l:List Nz,flN l=yA .a nzT l
 | []=>rfl
 | y::l=>by
  show cN y++flN l=qF .a nzT y++yA .a nzT l;rw[qCt l];rfl
theorem qBq(k:Nat):∀l:List Nz,(flN l).all (clean (k+1))=true
 | []=>rfl
 | y::l=>by
  show(cN y++flN l).all (clean (k+1))=true;rw[List.all_append,qBq k l];rfl
noncomputable def oWg(wg:(List Int→List Int→List Int→Int→Int→Int→List Nz))(ic:List (List Int)→Int):List T→DT (T×Bool)
 | [.ls .a (.list (.int .i64)) [h,o,t],.ls .a (.int .i64) [x0,x1,x2]]=> .ret (.tu [.ls .a nzT (wg h o t x0 x1 x2),.v (.int .i64 (ic [h,o,t]))],true)
 | _=> .no
theorem kIc':∀az tv nw,(zYl icE az).run=some (tv,nw)→∀k,KnP Tryz.prog k 59 az tv nw:=by
 intro az tv nw h k;refine kIc az tv nw ?_ k;unfold zYl at h;unfold oIc;split at h
 ·exact h
 ·cases h
theorem qPb:vL Tryz.prog (OW ofA muA meA frA icE):=zX (zX (zX (zX yO fun az tv nw h k=>tX zVb az tv h k) fun az tv nw h k=>tX qKc az tv h k) (jY kIc')) (jY kSh2)
noncomputable abbrev wgA(h o t:List Int)(x0 x1 x2:Int):List Nz:=wgR ofA muA frA icE h o t x0 x1 x2
theorem kWg:∀az tv nw,(oWg wgA icE az).run=some (tv,nw)→∀k,KnP Tryz.prog k 28 az tv nw:=by
 intro az tv nw hh k;unfold oWg at hh;split at hh
 ·rename_i h o t x0 x1 x2;cases hh;have q:=jAy ofA muA meA frA h o t x0 x1 x2;show KnP Tryz.prog k 28 _ (.tu [.ls .a nzT (wgR ofA muA frA icE h o t x0 x1 x2),_]) true;unfold wgR;cases e:ieq (icE [h,o,t]) 0 with
  | false=>
   rw[e]at q;exact(kQ (cz:=[.ls .a (.list nT) [h,o,t],.ls .a nT [x0,x1,x2]]) xA qPb qZ q rfl k).res fun B r v hv=>by
    obtain⟨vs,rfl,hvs⟩:=hv.tuI;match vs,hvs with
    | [a,b],⟨k1,k2,_⟩=>exact Rep.mkTu (vs:=[a,b]) ⟨zDn k1,k2,trivial⟩
  | true=>
   rw[e]at q;have hcl:(([.ls .a (.list nT) [h,o,t],.ls .a nT [x0,x1,x2]]:List T).all (clean 12)&&clean 12 (.tu [.sl (flN (wgF ofA muA frA h o t x0 x1 x2)) (wgF ofA muA frA h o t x0 x1 x2).length,vi (icE [h,o,t])]))=true:=by
    show(true&&((flN (wgF ofA muA frA h o t x0 x1 x2)).all (clean 10)&&true))=true;rw[qBq 9];rfl
   exact(kQ (cz:=[.ls .a (.list nT) [h,o,t],.ls .a nT [x0,x1,x2]]) xA qPb qZ q hcl k).res fun B r v hv=>by
    obtain⟨vs,rfl,hvs⟩:=hv.tuI;match vs,hvs with
    | [a,b],⟨k1,k2,_⟩=>exact Rep.mkTu (vs:=[a,b]) ⟨zNf (A:=nzT) (by kernel_rfl) (by rw[←qCt];exact k1),k2,trivial⟩
 ·cases hh
noncomputable abbrev tbT:Ty:= .prod (.list nT) (.prod (.list nT) (.prod (.list nT) (.prod (.list bT) (.prod nT (.prod nT (.prod nT (.prod (.list nzT) (.prod (.list nzT) (.prod zP (.prod zP (.prod zP (.prod nT (.prod (.list (.list nT)) (.list (.list nT)))))))))))))))
noncomputable def exL(l:List Nz):Nat→Nat→List Nz
 | 0,_=>[]
 | m+1,i=>zI l i::exL l m (i+1)
noncomputable def kL(okP:TF Bool)(pP:TF Nat):List T→DT (T×Bool)
 | [.ag [.ls .a (.int .i64) h,.ls .a (.int .i64) o,.ls .a (.int .i64) t,.ls .a (.prod (.int .u8) (.prod (.int .i64) (.int .i64))) G,.v (.int .i64 P),.v (.int .i64 D),.v (.int .i64 S),.ls .a (.prod (.int .i64) zP) O,.ls .a (.prod (.int .i64) zP) U,.v (.bool ab),.ls .a .lim C,.ls .a .lim am,.v (.bool sb),.ls .a .lim sl,.ls .a .lim sm,.v (.bool rb),.ls .a .lim rl,.ls .a .lim rm,.v (.int .i64 Z),.ls .a (.list (.int .i64)) F,.ls .a (.list (.int .i64)) I]]=>grd (Nat.blt F.length 9223372036854775807) (.ite (okP h o t G P D S O U ⟨ab,C,am⟩ ⟨sb,sl,sm⟩ ⟨rb,rl,rm⟩ Z F I) (.ret (.v (.int .i64 (.ofNat 0)),true)) (.ret (.v (.int .i64 (.ofNat (pP h o t G P D S O U ⟨ab,C,am⟩ ⟨sb,sl,sm⟩ ⟨rb,rl,rm⟩ Z F I+1))),true)))
 | _=> .no
noncomputable def xW(m:Nat)(wg:List Int→List Int→List Int→Int→Int→Int→List Nz):List T→DT (T×Bool)
 | [.ls .a (.list (.int .i64)) [h,o,t],.ls .a (.int .i64) [x0,x1,x2]]=>grd (Nat.beq (wg h o t x0 x1 x2).length m&&ieq (icE [h,o,t]) 0) (.ret (.tu [.ls .a nzT (exL (wg h o t x0 x1 x2) m 0),.v (.int .i64 (.ofNat 0))],true))
 | _=> .no
noncomputable def yM(okD:List Rt→List Rt→Bool)(dR:List Rt→List Rt→Raw)(dP:List Rt→List Rt→Nat):List T→DT (T×Bool)
 | [.ls .a (.prod .bool (.prod (.list .lim) (.list .lim))) a,.ls .a (.prod .bool (.prod (.list .lim) (.list .lim))) b]=>grd (Nat.ble a.length 100000&&Nat.ble b.length 100000) (.ite (okD a b) (.ret (.tu [.ag (rC (dR a b)),.v (.int .i64 (.ofNat 0))],true)) (.ret (.tu [.ag (rC (dR a b)),.v (.int .i64 (.ofNat (dP a b+1)))],true)))
 | _=> .no
noncomputable def kR(fr:Int→Raw):List Ar→DT Rs
 | [.i n]=>grd (xZ n) (.ret (.one (.r (fr n))))
 | _=> .no
noncomputable def jR(zb:Raw→Bool)(okV:Raw→Raw→Bool)(vR:Raw→Raw→Raw)(vP:Raw→Raw→Nat):List Ar→DT Rs
 | [.r a,.r b]=>grd (!zb b) (.ite (okV a b) (.ret (.tup [.r (vR a b),.i (.ofNat 0)])) (.ret (.tup [.r (vR a b),.i (.ofNat (vP a b+1))])))
 | _=> .no
section
variable (okP:TF Bool)(pP:TF Nat)(wg:List Int→List Int→List Int→Int→Int→Int→List Nz)(fr:Int→Raw)(okD:List Rt→List Rt→Bool)(dR:List Rt→List Rt→Raw)(dP:List Rt→List Rt→Nat)(zb:Raw→Bool)(okV:Raw→Raw→Bool)(vR:Raw→Raw→Raw)(vP:Raw→Raw→Nat)
noncomputable abbrev er(e:Nat):Option (T×Bool):=some (.tu [.v (.slice none 0 0),vn e],true)
noncomputable abbrev kS(L:Int):Nat:=(Int.sub L 1).toNat
noncomputable def jS(nn Y:Int)(y:Nz):Int:=wq (Int.add (Int.mul y.1 nn) Y)
noncomputable def rS(I:List (List Int))(L nn Y:Int)(y:Nz):Nat:=(nI (gI I (kS L)) (jS nn Y y).toNat).toNat
noncomputable def vS(F I:List (List Int))(L nn Y:Int)(b:Nat)(y:Nz):Int:=nI (gI F (rS I L nn Y y)) b
noncomputable def scG(F I:List (List Int))(L nn Y:Int)(b:Nat)(y:Nz)(K:Option (T×Bool)):Option (T×Bool):=gd (inW (Int.sub L 1)) (gd (nng (Int.sub L 1)) (gd (Nat.blt (kS L) I.length) (gd (inW (Int.mul y.1 nn)) (gd (nng (jS nn Y y)) (gd (Nat.blt (jS nn Y y).toNat (gI I (kS L)).length) (gd (nng (nI (gI I (kS L)) (jS nn Y y).toNat)) (gd (Nat.blt (rS I L nn Y y) F.length) (gd (Nat.blt b (gI F (rS I L nn Y y)).length) (gd (xZ (vS F I L nn Y b y)) K)))))))))
noncomputable def qMl(F I:List (List Int))(L nn Y:Int)(b:Nat):List Nz→Option (T×Bool)→Option (T×Bool)
 | [],K=>K
 | y::l,K=>scG F I L nn Y b y (qMl F I L nn Y b l K)
noncomputable def scW:List Nz→List Rt
 | []=>[]
 | y::l=>(y.2.1,y.2.2.1,y.2.2.2)::scW l
noncomputable def scV(F I:List (List Int))(L nn Y:Int)(b:Nat):List Nz→List Rt
 | []=>[]
 | y::l=>toT (fr (vS F I L nn Y b y))::scV F I L nn Y b l
noncomputable def scB(Z:Int)(F I:List (List Int))(L nn Y:Int)(b:Nat)(ws:List Nz)(K:Raw→Option (T×Bool)):Option (T×Bool):=qMl F I L nn Y b ws (bif okD (scW ws) (scV fr F I L nn Y b ws)then gd (xZ Z) (gd (!zb (fr Z)) (bif okV (dR (scW ws) (scV fr F I L nn Y b ws)) (fr Z)then K (vR (dR (scW ws) (scV fr F I L nn Y b ws)) (fr Z))else er (vP (dR (scW ws) (scV fr F I L nn Y b ws)) (fr Z)+1)))else er (dP (scW ws) (scV fr F I L nn Y b ws)+1))
noncomputable def flR:List Raw→List T
 | []=>[]
 | x::l=>[.v (.bool x.neg),.ls .a .lim x.ln,.ls .a .lim x.ld]++flR l
noncomputable def scL(Z:Int)(F I:List (List Int))(L nn Y:Int)(ws:List Nz):Nat→Nat→List Raw→Option (T×Bool)
 | 0,_,acc=>some (.tu [.sl (flR acc.reverse) acc.length,vn 0],true)
 | k+1,b,acc=>scB fr okD dR dP zb okV vR vP Z F I L nn Y b ws fun x=>scL Z F I L nn Y ws k (b+1) (x::acc)
noncomputable abbrev wiK(x most:Int)(E K:Option (T×Bool)):Option (T×Bool):=bif !ilt x (-most)then(bif !(!ilt most x)then E else K)else E
noncomputable def scA(m nn:Nat)(h o t:List Int)(G:List Bd)(P D S:Int)(O U:List Nz)(C st V:Raw)(Z:Int)(F I:List (List Int))(L H W vq Y:Int):Option (T×Bool):=gd (Nat.blt F.length 9223372036854775807) (bif okP h o t G P D S O U C st V Z F I then(bif ilt L (.ofNat 1)then er 1 else(bif ilt S L then er 1 else wiK H 100000 (er 1) (wiK W 100 (er 1) (wiK vq 100 (er 1) (bif ilt Y (.ofNat 0)then er 8 else(bif !ilt Y (.ofNat nn)then er 8 else gd (Nat.beq (wg h o t H W vq).length m&&ieq (icE [h,o,t]) 0) (scL fr okD dR dP zb okV vR vP Z F I L (.ofNat nn) Y (exL (wg h o t H W vq) m 0) nn 0 [])))))))else er (pP h o t G P D S O U C st V Z F I+1))
end
section
variable (okP:TF Bool)(pP:TF Nat)(wg:List Int→List Int→List Int→Int→Int→Int→List Nz)(fr:Int→Raw)(okD:List Rt→List Rt→Bool)(dR:List Rt→List Rt→Raw)(dP:List Rt→List Rt→Nat)(zb:Raw→Bool)(okV:Raw→Raw→Bool)(vR:Raw→Raw→Raw)(vP:Raw→Raw→Nat)(h o t:List Int)(P D S:Int)(O U:List Nz)(C st V:Raw)(Z:Int)(F I:List (List Int))(L H W vq Y:Int)
set_option maxHeartbeats 0 in
theorem qRs(a0:Bd):((qW Tryz.prog (evD Tryz.prog (odT [(22,odR [tbT] (kL okP pP)),(28,odR [.list (.list nT),.list nT] (xW 1 wg)),(12,kcT (kR fr) true),(30,odR [.list zP,.list zP] (yM okD dR dP)),(11,kcT (jR zb okV vR vP) true)]) (loT []) 60) 10 [.ag (tbC h o t [a0] P D S O U C st V Z F I),vi L,vi H,vi W,vi vq,vi Y] []).bind jB).run=scA okP pP wg fr okD dR dP zb okV vR vP 1 1 h o t [a0] P D S O U C st V Z F I L H W vq Y:=by kernel_rfl
set_option maxHeartbeats 0 in
theorem qRt(a0 a1:Bd):((qW Tryz.prog (evD Tryz.prog (odT [(22,odR [tbT] (kL okP pP)),(28,odR [.list (.list nT),.list nT] (xW 1 wg)),(12,kcT (kR fr) true),(30,odR [.list zP,.list zP] (yM okD dR dP)),(11,kcT (jR zb okV vR vP) true)]) (loT []) 60) 10 [.ag (tbC h o t [a0,a1] P D S O U C st V Z F I),vi L,vi H,vi W,vi vq,vi Y] []).bind jB).run=scA okP pP wg fr okD dR dP zb okV vR vP 1 2 h o t [a0,a1] P D S O U C st V Z F I L H W vq Y:=by kernel_rfl
set_option maxHeartbeats 0 in
theorem qRu(a0 a1 a2:Bd):((qW Tryz.prog (evD Tryz.prog (odT [(22,odR [tbT] (kL okP pP)),(28,odR [.list (.list nT),.list nT] (xW 1 wg)),(12,kcT (kR fr) true),(30,odR [.list zP,.list zP] (yM okD dR dP)),(11,kcT (jR zb okV vR vP) true)]) (loT []) 60) 10 [.ag (tbC h o t [a0,a1,a2] P D S O U C st V Z F I),vi L,vi H,vi W,vi vq,vi Y] []).bind jB).run=scA okP pP wg fr okD dR dP zb okV vR vP 1 3 h o t [a0,a1,a2] P D S O U C st V Z F I L H W vq Y:=by kernel_rfl
set_option maxHeartbeats 0 in
theorem qRv(a0 a1 a2 a3:Bd):((qW Tryz.prog (evD Tryz.prog (odT [(22,odR [tbT] (kL okP pP)),(28,odR [.list (.list nT),.list nT] (xW 1 wg)),(12,kcT (kR fr) true),(30,odR [.list zP,.list zP] (yM okD dR dP)),(11,kcT (jR zb okV vR vP) true)]) (loT []) 60) 10 [.ag (tbC h o t [a0,a1,a2,a3] P D S O U C st V Z F I),vi L,vi H,vi W,vi vq,vi Y] []).bind jB).run=scA okP pP wg fr okD dR dP zb okV vR vP 1 4 h o t [a0,a1,a2,a3] P D S O U C st V Z F I L H W vq Y:=by kernel_rfl
set_option maxHeartbeats 0 in
theorem qRw(a0 a1 a2 a3 a4:Bd):((qW Tryz.prog (evD Tryz.prog (odT [(22,odR [tbT] (kL okP pP)),(28,odR [.list (.list nT),.list nT] (xW 1 wg)),(12,kcT (kR fr) true),(30,odR [.list zP,.list zP] (yM okD dR dP)),(11,kcT (jR zb okV vR vP) true)]) (loT []) 60) 10 [.ag (tbC h o t [a0,a1,a2,a3,a4] P D S O U C st V Z F I),vi L,vi H,vi W,vi vq,vi Y] []).bind jB).run=scA okP pP wg fr okD dR dP zb okV vR vP 1 5 h o t [a0,a1,a2,a3,a4] P D S O U C st V Z F I L H W vq Y:=by kernel_rfl
set_option maxHeartbeats 0 in
theorem qRx(a0 a1 a2 a3 a4 a5:Bd):((qW Tryz.prog (evD Tryz.prog (odT [(22,odR [tbT] (kL okP pP)),(28,odR [.list (.list nT),.list nT] (xW 1 wg)),(12,kcT (kR fr) true),(30,odR [.list zP,.list zP] (yM okD dR dP)),(11,kcT (jR zb okV vR vP) true)]) (loT []) 60) 10 [.ag (tbC h o t [a0,a1,a2,a3,a4,a5] P D S O U C st V Z F I),vi L,vi H,vi W,vi vq,vi Y] []).bind jB).run=scA okP pP wg fr okD dR dP zb okV vR vP 1 6 h o t [a0,a1,a2,a3,a4,a5] P D S O U C st V Z F I L H W vq Y:=by kernel_rfl
end
section
variable (okP:TF Bool)(pP:TF Nat)(wg:List Int→List Int→List Int→Int→Int→Int→List Nz)(fr:Int→Raw)(okD:List Rt→List Rt→Bool)(dR:List Rt→List Rt→Raw)(dP:List Rt→List Rt→Nat)(zb:Raw→Bool)(okV:Raw→Raw→Bool)(vR:Raw→Raw→Raw)(vP:Raw→Raw→Nat)(h o t:List Int)(P D S:Int)(O U:List Nz)(C st V:Raw)(Z:Int)(F I:List (List Int))(L H W vq Y:Int)
set_option maxHeartbeats 0 in
theorem qRy(a0:Bd):((qW Tryz.prog (evD Tryz.prog (odT [(22,odR [tbT] (kL okP pP)),(28,odR [.list (.list nT),.list nT] (xW 2 wg)),(12,kcT (kR fr) true),(30,odR [.list zP,.list zP] (yM okD dR dP)),(11,kcT (jR zb okV vR vP) true)]) (loT []) 60) 10 [.ag (tbC h o t [a0] P D S O U C st V Z F I),vi L,vi H,vi W,vi vq,vi Y] []).bind jB).run=scA okP pP wg fr okD dR dP zb okV vR vP 2 1 h o t [a0] P D S O U C st V Z F I L H W vq Y:=by kernel_rfl
set_option maxHeartbeats 0 in
theorem qRz(a0 a1:Bd):((qW Tryz.prog (evD Tryz.prog (odT [(22,odR [tbT] (kL okP pP)),(28,odR [.list (.list nT),.list nT] (xW 2 wg)),(12,kcT (kR fr) true),(30,odR [.list zP,.list zP] (yM okD dR dP)),(11,kcT (jR zb okV vR vP) true)]) (loT []) 60) 10 [.ag (tbC h o t [a0,a1] P D S O U C st V Z F I),vi L,vi H,vi W,vi vq,vi Y] []).bind jB).run=scA okP pP wg fr okD dR dP zb okV vR vP 2 2 h o t [a0,a1] P D S O U C st V Z F I L H W vq Y:=by kernel_rfl
set_option maxHeartbeats 0 in
theorem qSa(a0 a1 a2:Bd):((qW Tryz.prog (evD Tryz.prog (odT [(22,odR [tbT] (kL okP pP)),(28,odR [.list (.list nT),.list nT] (xW 2 wg)),(12,kcT (kR fr) true),(30,odR [.list zP,.list zP] (yM okD dR dP)),(11,kcT (jR zb okV vR vP) true)]) (loT []) 60) 10 [.ag (tbC h o t [a0,a1,a2] P D S O U C st V Z F I),vi L,vi H,vi W,vi vq,vi Y] []).bind jB).run=scA okP pP wg fr okD dR dP zb okV vR vP 2 3 h o t [a0,a1,a2] P D S O U C st V Z F I L H W vq Y:=by kernel_rfl
set_option maxHeartbeats 0 in
theorem qSb(a0 a1 a2 a3:Bd):((qW Tryz.prog (evD Tryz.prog (odT [(22,odR [tbT] (kL okP pP)),(28,odR [.list (.list nT),.list nT] (xW 2 wg)),(12,kcT (kR fr) true),(30,odR [.list zP,.list zP] (yM okD dR dP)),(11,kcT (jR zb okV vR vP) true)]) (loT []) 60) 10 [.ag (tbC h o t [a0,a1,a2,a3] P D S O U C st V Z F I),vi L,vi H,vi W,vi vq,vi Y] []).bind jB).run=scA okP pP wg fr okD dR dP zb okV vR vP 2 4 h o t [a0,a1,a2,a3] P D S O U C st V Z F I L H W vq Y:=by kernel_rfl
set_option maxHeartbeats 0 in
theorem qSc(a0 a1 a2 a3 a4:Bd):((qW Tryz.prog (evD Tryz.prog (odT [(22,odR [tbT] (kL okP pP)),(28,odR [.list (.list nT),.list nT] (xW 2 wg)),(12,kcT (kR fr) true),(30,odR [.list zP,.list zP] (yM okD dR dP)),(11,kcT (jR zb okV vR vP) true)]) (loT []) 60) 10 [.ag (tbC h o t [a0,a1,a2,a3,a4] P D S O U C st V Z F I),vi L,vi H,vi W,vi vq,vi Y] []).bind jB).run=scA okP pP wg fr okD dR dP zb okV vR vP 2 5 h o t [a0,a1,a2,a3,a4] P D S O U C st V Z F I L H W vq Y:=by kernel_rfl
set_option maxHeartbeats 0 in
theorem qSd(a0 a1 a2 a3 a4 a5:Bd):((qW Tryz.prog (evD Tryz.prog (odT [(22,odR [tbT] (kL okP pP)),(28,odR [.list (.list nT),.list nT] (xW 2 wg)),(12,kcT (kR fr) true),(30,odR [.list zP,.list zP] (yM okD dR dP)),(11,kcT (jR zb okV vR vP) true)]) (loT []) 60) 10 [.ag (tbC h o t [a0,a1,a2,a3,a4,a5] P D S O U C st V Z F I),vi L,vi H,vi W,vi vq,vi Y] []).bind jB).run=scA okP pP wg fr okD dR dP zb okV vR vP 2 6 h o t [a0,a1,a2,a3,a4,a5] P D S O U C st V Z F I L H W vq Y:=by kernel_rfl
end
section
variable (okP:TF Bool)(pP:TF Nat)(wg:List Int→List Int→List Int→Int→Int→Int→List Nz)(fr:Int→Raw)(okD:List Rt→List Rt→Bool)(dR:List Rt→List Rt→Raw)(dP:List Rt→List Rt→Nat)(zb:Raw→Bool)(okV:Raw→Raw→Bool)(vR:Raw→Raw→Raw)(vP:Raw→Raw→Nat)(h o t:List Int)(P D S:Int)(O U:List Nz)(C st V:Raw)(Z:Int)(F I:List (List Int))(L H W vq Y:Int)
set_option maxHeartbeats 0 in
theorem qSe(a0:Bd):((qW Tryz.prog (evD Tryz.prog (odT [(22,odR [tbT] (kL okP pP)),(28,odR [.list (.list nT),.list nT] (xW 4 wg)),(12,kcT (kR fr) true),(30,odR [.list zP,.list zP] (yM okD dR dP)),(11,kcT (jR zb okV vR vP) true)]) (loT []) 60) 10 [.ag (tbC h o t [a0] P D S O U C st V Z F I),vi L,vi H,vi W,vi vq,vi Y] []).bind jB).run=scA okP pP wg fr okD dR dP zb okV vR vP 4 1 h o t [a0] P D S O U C st V Z F I L H W vq Y:=by kernel_rfl
set_option maxHeartbeats 0 in
theorem qSf(a0 a1:Bd):((qW Tryz.prog (evD Tryz.prog (odT [(22,odR [tbT] (kL okP pP)),(28,odR [.list (.list nT),.list nT] (xW 4 wg)),(12,kcT (kR fr) true),(30,odR [.list zP,.list zP] (yM okD dR dP)),(11,kcT (jR zb okV vR vP) true)]) (loT []) 60) 10 [.ag (tbC h o t [a0,a1] P D S O U C st V Z F I),vi L,vi H,vi W,vi vq,vi Y] []).bind jB).run=scA okP pP wg fr okD dR dP zb okV vR vP 4 2 h o t [a0,a1] P D S O U C st V Z F I L H W vq Y:=by kernel_rfl
set_option maxHeartbeats 0 in
theorem qSg(a0 a1 a2:Bd):((qW Tryz.prog (evD Tryz.prog (odT [(22,odR [tbT] (kL okP pP)),(28,odR [.list (.list nT),.list nT] (xW 4 wg)),(12,kcT (kR fr) true),(30,odR [.list zP,.list zP] (yM okD dR dP)),(11,kcT (jR zb okV vR vP) true)]) (loT []) 60) 10 [.ag (tbC h o t [a0,a1,a2] P D S O U C st V Z F I),vi L,vi H,vi W,vi vq,vi Y] []).bind jB).run=scA okP pP wg fr okD dR dP zb okV vR vP 4 3 h o t [a0,a1,a2] P D S O U C st V Z F I L H W vq Y:=by kernel_rfl
set_option maxHeartbeats 0 in
theorem qSh(a0 a1 a2 a3:Bd):((qW Tryz.prog (evD Tryz.prog (odT [(22,odR [tbT] (kL okP pP)),(28,odR [.list (.list nT),.list nT] (xW 4 wg)),(12,kcT (kR fr) true),(30,odR [.list zP,.list zP] (yM okD dR dP)),(11,kcT (jR zb okV vR vP) true)]) (loT []) 60) 10 [.ag (tbC h o t [a0,a1,a2,a3] P D S O U C st V Z F I),vi L,vi H,vi W,vi vq,vi Y] []).bind jB).run=scA okP pP wg fr okD dR dP zb okV vR vP 4 4 h o t [a0,a1,a2,a3] P D S O U C st V Z F I L H W vq Y:=by kernel_rfl
set_option maxHeartbeats 0 in
theorem qSi(a0 a1 a2 a3 a4:Bd):((qW Tryz.prog (evD Tryz.prog (odT [(22,odR [tbT] (kL okP pP)),(28,odR [.list (.list nT),.list nT] (xW 4 wg)),(12,kcT (kR fr) true),(30,odR [.list zP,.list zP] (yM okD dR dP)),(11,kcT (jR zb okV vR vP) true)]) (loT []) 60) 10 [.ag (tbC h o t [a0,a1,a2,a3,a4] P D S O U C st V Z F I),vi L,vi H,vi W,vi vq,vi Y] []).bind jB).run=scA okP pP wg fr okD dR dP zb okV vR vP 4 5 h o t [a0,a1,a2,a3,a4] P D S O U C st V Z F I L H W vq Y:=by kernel_rfl
set_option maxHeartbeats 0 in
theorem qSj(a0 a1 a2 a3 a4 a5:Bd):((qW Tryz.prog (evD Tryz.prog (odT [(22,odR [tbT] (kL okP pP)),(28,odR [.list (.list nT),.list nT] (xW 4 wg)),(12,kcT (kR fr) true),(30,odR [.list zP,.list zP] (yM okD dR dP)),(11,kcT (jR zb okV vR vP) true)]) (loT []) 60) 10 [.ag (tbC h o t [a0,a1,a2,a3,a4,a5] P D S O U C st V Z F I),vi L,vi H,vi W,vi vq,vi Y] []).bind jB).run=scA okP pP wg fr okD dR dP zb okV vR vP 4 6 h o t [a0,a1,a2,a3,a4,a5] P D S O U C st V Z F I L H W vq Y:=by kernel_rfl
end
section
variable (okP:TF Bool)(pP:TF Nat)(wg:List Int→List Int→List Int→Int→Int→Int→List Nz)(fr:Int→Raw)(okD:List Rt→List Rt→Bool)(dR:List Rt→List Rt→Raw)(dP:List Rt→List Rt→Nat)(zb:Raw→Bool)(okV:Raw→Raw→Bool)(vR:Raw→Raw→Raw)(vP:Raw→Raw→Nat)(h o t:List Int)(P D S:Int)(O U:List Nz)(C st V:Raw)(Z:Int)(F I:List (List Int))(L H W vq Y:Int)
set_option maxHeartbeats 0 in
theorem qSk(a0:Bd):((qW Tryz.prog (evD Tryz.prog (odT [(22,odR [tbT] (kL okP pP)),(28,odR [.list (.list nT),.list nT] (xW 8 wg)),(12,kcT (kR fr) true),(30,odR [.list zP,.list zP] (yM okD dR dP)),(11,kcT (jR zb okV vR vP) true)]) (loT []) 60) 10 [.ag (tbC h o t [a0] P D S O U C st V Z F I),vi L,vi H,vi W,vi vq,vi Y] []).bind jB).run=scA okP pP wg fr okD dR dP zb okV vR vP 8 1 h o t [a0] P D S O U C st V Z F I L H W vq Y:=by kernel_rfl
set_option maxHeartbeats 0 in
theorem qSl(a0 a1:Bd):((qW Tryz.prog (evD Tryz.prog (odT [(22,odR [tbT] (kL okP pP)),(28,odR [.list (.list nT),.list nT] (xW 8 wg)),(12,kcT (kR fr) true),(30,odR [.list zP,.list zP] (yM okD dR dP)),(11,kcT (jR zb okV vR vP) true)]) (loT []) 60) 10 [.ag (tbC h o t [a0,a1] P D S O U C st V Z F I),vi L,vi H,vi W,vi vq,vi Y] []).bind jB).run=scA okP pP wg fr okD dR dP zb okV vR vP 8 2 h o t [a0,a1] P D S O U C st V Z F I L H W vq Y:=by kernel_rfl
set_option maxHeartbeats 0 in
theorem qSm(a0 a1 a2:Bd):((qW Tryz.prog (evD Tryz.prog (odT [(22,odR [tbT] (kL okP pP)),(28,odR [.list (.list nT),.list nT] (xW 8 wg)),(12,kcT (kR fr) true),(30,odR [.list zP,.list zP] (yM okD dR dP)),(11,kcT (jR zb okV vR vP) true)]) (loT []) 60) 10 [.ag (tbC h o t [a0,a1,a2] P D S O U C st V Z F I),vi L,vi H,vi W,vi vq,vi Y] []).bind jB).run=scA okP pP wg fr okD dR dP zb okV vR vP 8 3 h o t [a0,a1,a2] P D S O U C st V Z F I L H W vq Y:=by kernel_rfl
set_option maxHeartbeats 0 in
theorem qSn(a0 a1 a2 a3:Bd):((qW Tryz.prog (evD Tryz.prog (odT [(22,odR [tbT] (kL okP pP)),(28,odR [.list (.list nT),.list nT] (xW 8 wg)),(12,kcT (kR fr) true),(30,odR [.list zP,.list zP] (yM okD dR dP)),(11,kcT (jR zb okV vR vP) true)]) (loT []) 60) 10 [.ag (tbC h o t [a0,a1,a2,a3] P D S O U C st V Z F I),vi L,vi H,vi W,vi vq,vi Y] []).bind jB).run=scA okP pP wg fr okD dR dP zb okV vR vP 8 4 h o t [a0,a1,a2,a3] P D S O U C st V Z F I L H W vq Y:=by kernel_rfl
set_option maxHeartbeats 0 in
theorem qSo(a0 a1 a2 a3 a4:Bd):((qW Tryz.prog (evD Tryz.prog (odT [(22,odR [tbT] (kL okP pP)),(28,odR [.list (.list nT),.list nT] (xW 8 wg)),(12,kcT (kR fr) true),(30,odR [.list zP,.list zP] (yM okD dR dP)),(11,kcT (jR zb okV vR vP) true)]) (loT []) 60) 10 [.ag (tbC h o t [a0,a1,a2,a3,a4] P D S O U C st V Z F I),vi L,vi H,vi W,vi vq,vi Y] []).bind jB).run=scA okP pP wg fr okD dR dP zb okV vR vP 8 5 h o t [a0,a1,a2,a3,a4] P D S O U C st V Z F I L H W vq Y:=by kernel_rfl
set_option maxHeartbeats 0 in
theorem qSp(a0 a1 a2 a3 a4 a5:Bd):((qW Tryz.prog (evD Tryz.prog (odT [(22,odR [tbT] (kL okP pP)),(28,odR [.list (.list nT),.list nT] (xW 8 wg)),(12,kcT (kR fr) true),(30,odR [.list zP,.list zP] (yM okD dR dP)),(11,kcT (jR zb okV vR vP) true)]) (loT []) 60) 10 [.ag (tbC h o t [a0,a1,a2,a3,a4,a5] P D S O U C st V Z F I),vi L,vi H,vi W,vi vq,vi Y] []).bind jB).run=scA okP pP wg fr okD dR dP zb okV vR vP 8 6 h o t [a0,a1,a2,a3,a4,a5] P D S O U C st V Z F I L H W vq Y:=by kernel_rfl
end
section
variable (okP:TF Bool)(pP:TF Nat)(wg:List Int→List Int→List Int→Int→Int→Int→List Nz)(fr:Int→Raw)(okD:List Rt→List Rt→Bool)(dR:List Rt→List Rt→Raw)(dP:List Rt→List Rt→Nat)(zb:Raw→Bool)(okV:Raw→Raw→Bool)(vR:Raw→Raw→Raw)(vP:Raw→Raw→Nat)
noncomputable def sk1(Z:Int)(F I:List (List Int))(L nn Y:Int)(ws:List Nz)(b:Nat):Raw⊕Nat:=bif okD (scW ws) (scV fr F I L nn Y b ws)then(bif okV (dR (scW ws) (scV fr F I L nn Y b ws)) (fr Z)then .inl (vR (dR (scW ws) (scV fr F I L nn Y b ws)) (fr Z))else .inr (vP (dR (scW ws) (scV fr F I L nn Y b ws)) (fr Z)+1))else .inr (dP (scW ws) (scV fr F I L nn Y b ws)+1)
noncomputable def skL(Z:Int)(F I:List (List Int))(L nn Y:Int)(ws:List Nz):Nat→Nat→List Raw→List Raw⊕Nat
 | 0,_,acc=> .inl acc.reverse
 | k+1,b,acc=>match sk1 fr okD dR dP okV vR vP Z F I L nn Y ws b with
  | .inl x=>skL Z F I L nn Y ws k (b+1) (x::acc)
  | .inr e=> .inr e
noncomputable def jCf:List Raw⊕Nat→Option (T×Bool)
 | .inl l=>some (.tu [.sl (flR l) l.length,vn 0],true)
 | .inr e=>er e
theorem jAc{h o t:List Int}{G:List Bd}{S Z:Int}{F I:List (List Int)}{L Y:Int}{b:Nat}{y:Nz}{K:Option (T×Bool)}(hT:Tab h o t G S Z F I)(k1:1≤L)(k2:L≤S)(p1:0≤Y)(p2:Y<(G.length:Int))(hb:b<G.length)(hy:0≤y.1∧y.1<((h.length*o.length*t.length:Nat):Int)):scG F I L (.ofNat G.length) Y b y K=K:=by
 obtain⟨v,hv⟩:∃v:Nat,y.1=(v:Int):=Int.eq_ofNat_of_zero_le hy.1;obtain⟨q,H⟩:∃q:Nat,Y=(q:Int):=Int.eq_ofNat_of_zero_le p1;have hv2:v<h.length*o.length*t.length:=by
  have h2:=hy.2;rw[hv]at h2;exact Int.ofNat_lt.1 h2
 have hq2:q<G.length:=by omega
 have hix:=hT.ixl;have hst:=zCa hT.mod;obtain⟨j,hj⟩:∃j:Nat,L=((j+1:Nat):Int):=⟨L.toNat-1,by omega⟩
 have hj2:j<I.length:=by omega
 have ek:Int.sub L 1= .ofNat j:=by rw[hj];show((j+1:Nat):Int)-1=(j:Int);omega
 have eS:kS L=j:=by unfold kS;rw[ek];rfl
 obtain⟨r1,r2⟩:=hT.row j hj2;have hsz:=hT.mod.sz;have m1:v*G.length+G.length≤h.length*o.length*t.length*G.length:=by
  rw[←Nat.succ_mul];exact Nat.mul_le_mul_right _ hv2
 have em:Int.mul y.1 (.ofNat G.length)= .ofNat (v*G.length):=by rw[hv];rfl
 have ej:jS (.ofNat G.length) Y y= .ofNat (v*G.length+q):=by
  show wq (Int.add (Int.mul y.1 (.ofNat G.length)) Y)=_;rw[em,H];exact zXb (qK (show v*G.length+q<9223372036854775808 by omega))
 have ej2:(jS (.ofNat G.length) Y y).toNat=v*G.length+q:=by rw[ej];rfl
 have hl:v*G.length+q<(gI I j).length:=by rw[r1];omega
 obtain⟨n1,n2⟩:=r2 _ hl;obtain⟨r,hr⟩:∃r:Nat,nI (gI I j) (v*G.length+q)=(r:Int):=Int.eq_ofNat_of_zero_le n1;have hr2:r<F.length:=by rw[hr]at n2;exact Int.ofNat_lt.1 n2
 have eR:rS I L (.ofNat G.length) Y y=r:=by unfold rS;rw[eS,ej2,hr];rfl
 obtain⟨g1,g2⟩:=hT.num r hr2;obtain⟨g3,g4⟩:=g2 b (by rw[g1];exact hb)
 have eV:xZ (vS F I L (.ofNat G.length) Y b y)=true:=by unfold vS;rw[eR];exact zAp g3 (by omega)
 have a1:inW (.ofNat j)=true:=qK (by omega)
 have a2:nng (.ofNat j)=true:=rfl;have a3:inW (.ofNat (v*G.length))=true:=qK (show v*G.length<9223372036854775808 by omega)
 have a4:nng (.ofNat (v*G.length+q))=true:=rfl;have a5:nng (nI (gI I j) (v*G.length+q))=true:=by rw[hr];rfl
 unfold scG;rw[ek,eS,em,ej2,ej,eR,eV,a1,a2,a3,a4,a5,zO hj2,zO hl,zO hr2,zO (show b<(gI F r).length by rw[g1];exact hb)]
 rfl
theorem zWl{h o t:List Int}{G:List Bd}{S Z:Int}{F I:List (List Int)}{L Y:Int}{b:Nat}{K:Option (T×Bool)}(hT:Tab h o t G S Z F I)(k1:1≤L)(k2:L≤S)(p1:0≤Y)(p2:Y<(G.length:Int))(hb:b<G.length):∀{ws:List Nz},inV (h.length*o.length*t.length) ws→qMl F I L (.ofNat G.length) Y b ws K=K
 | [],_=>rfl
 | y::l,hw=>by
  show scG F I L (.ofNat G.length) Y b y (qMl F I L (.ofNat G.length) Y b l K)=K;rw[zWl hT k1 k2 p1 p2 hb (ws:=l) fun z hz=>hw z (List.mem_cons_of_mem _ hz)];exact jAc hT k1 k2 p1 p2 hb (hw y List.mem_cons_self)
theorem qGt{h o t:List Int}{G:List Bd}{S Z:Int}{F I:List (List Int)}{L Y:Int}{ws:List Nz}(hT:Tab h o t G S Z F I)(k1:1≤L)(k2:L≤S)(p1:0≤Y)(p2:Y<(G.length:Int))(hw:inV (h.length*o.length*t.length) ws)(hz:zb (fr Z)=false):∀(k b:Nat)(acc:List Raw),b+k=G.length→scL fr okD dR dP zb okV vR vP Z F I L (.ofNat G.length) Y ws k b acc=jCf (skL fr okD dR dP okV vR vP Z F I L (.ofNat G.length) Y ws k b acc)
 | 0,b,acc,_=>by
  show(some (.tu [.sl (flR acc.reverse) acc.length,vn 0],true):Option (T×Bool))=some (.tu [.sl (flR acc.reverse) acc.reverse.length,vn 0],true);rw[List.length_reverse]
 | k+1,b,acc,e=>by
  have hs:xZ Z=true:=zAp (Int.le_trans (by decide) hT.sc1) (Int.le_trans hT.sc2 (by decide))
  simp only[scL,scB,skL,sk1];rw[zWl hT k1 k2 p1 p2 (show b<G.length by omega) hw]
  cases okD (scW ws) (scV fr F I L (.ofNat G.length) Y b ws)with
  | false=>rfl
  | true=>
   simp only[gd,hs,hz,Bool.not_false,cond_true];cases okV (dR (scW ws) (scV fr F I L (.ofNat G.length) Y b ws)) (fr Z)with
   | false=>rfl
   | true=>simp only[cond_true];exact qGt hT k1 k2 p1 p2 hw hz k (b+1) _ (by omega)
end
theorem zSi:∀(l:List Nz)(m i:Nat),i+m=l.length→exL l m i=l.drop i
 | l,0,i,h=>by
  obtain rfl:i=l.length:=by omega
  rw[List.drop_length];rfl
 | l,m+1,i,h=>by
  have hi:i<l.length:=by omega
  have e:zI l i=l[i]:=by rw[zI,jA];simp[hi]
  rw[List.drop_eq_getElem_cons hi,←e];show zI l i::exL l m (i+1)=_;rw[zSi l m (i+1) (by omega)]
noncomputable def iDt(a b:List Rt)(n i:Nat)(t:Raw):Hs:=⟨[.ls .a zP a,.ls .a zP b,vn n,vn i],[],[[.v (.bool t.1),.ls .n .lim t.2,.ls .n .lim t.3]]⟩
noncomputable def iDz(a b:List Rt)(n i:Nat):Hs:=⟨[.ls .a zP a,.ls .a zP b,vn n,vn i],[],[[.v (.bool false),.v (.slice none 0 0),.v (.slice none 0 0)]]⟩
noncomputable def Ldt:Lp:=⟨1,
 ⟨[.h,.h,.u,.u,.t (.op 0 0)]++(us' 11++([.h,.h]++(us' 31))),[.r [.h,.h,.h] 28]⟩,
 ⟨us' 4++([.t (.op 0 0)]++(us' 44)),[.r [.h,.h,.h] 28]⟩,
 ⟨us' 4++([.t (.op 0 0),.h]++(us' 43)),[.r [.h,.h,.h] 28]⟩⟩
noncomputable abbrev qNg:Code:=lpc Tryz.prog 30 [false,true,false,true,true]
theorem qPv:cAt Tryz.prog 30 [false,true,false,true,true]=some (.loop qNg):=by kernel_rfl
noncomputable abbrev aU(OD:Od)(LO:Lo):Hs→Option (Hs⊕(Ex×Hs)):=Ldt.stp (evD Tryz.prog OD LO 60) 30 [false,true,false,true,true] qNg
noncomputable abbrev ODt(ad mu:Raw→Raw→Raw)(ae me:Raw→Raw→Int):Od:=odT [(91,kcD (pRR fun a b=>some (ad a b,ae a b)) true),(68,kcD (pRR fun a b=>some (mu a b,me a b)) true)]
noncomputable abbrev rI(l:List Rt)(i:Nat):Rt:=nth zP.zero l i
theorem sDz(ad mu:Raw→Raw→Raw)(ae me:Raw→Raw→Int)(a b:List Rt)(n i:Nat):aU (ODt ad mu ae me) (loT []) (iDz a b n i)=bif ilt (.ofNat i) (.ofNat n)then gd (Nat.blt i a.length) (gd (Nat.blt i b.length) (bif !(ieq (me (rw' (rI a i)) (rw' (rI b i))) 0)then some (.inr (.r,⟨[vi (me (rw' (rI a i)) (rw' (rI b i)))],[],[[.v (.bool false),.v (Value.slice none 0 0),.v (Value.slice none 0 0)]]⟩))else(bif !(ieq (ae ⟨false,[],[]⟩ ⟨false,[],[]⟩) 0)then(bif !(ieq (ae ⟨false,[],[]⟩ ⟨false,[],[]⟩) 0)then some (.inr (.r,⟨[vi (ae ⟨false,[],[]⟩ ⟨false,[],[]⟩)],[],[[.v (.bool false),.v (Value.slice none 0 0),.v (Value.slice none 0 0)]]⟩))else nx i (.inl ⟨[.ls .a zP a,.ls .a zP b,vn n,vn (i+1)],[],[[.v (.bool false),.v (Value.slice none 0 0),.v (Value.slice none 0 0)]]⟩))else(bif !(ieq (ae (ad ⟨false,[],[]⟩ ⟨false,[],[]⟩) (mu (rw' (rI a i)) (rw' (rI b i)))) 0)then(bif !(ieq (ae (ad ⟨false,[],[]⟩ ⟨false,[],[]⟩) (mu (rw' (rI a i)) (rw' (rI b i)))) 0)then some (.inr (.r,⟨[vi (ae (ad ⟨false,[],[]⟩ ⟨false,[],[]⟩) (mu (rw' (rI a i)) (rw' (rI b i))))],[],[[.v (.bool false),.v (Value.slice none 0 0),.v (Value.slice none 0 0)]]⟩))else nx i (.inl ⟨[.ls .a zP a,.ls .a zP b,vn n,vn (i+1)],[],[[.v (.bool false),.v (Value.slice none 0 0),.v (Value.slice none 0 0)]]⟩))else nx i (.inl ⟨[.ls .a zP a,.ls .a zP b,vn n,vn (i+1)],[],[[.v (.bool ((ad (ad ⟨false,[],[]⟩ ⟨false,[],[]⟩) (mu (rw' (rI a i)) (rw' (rI b i)))).1)),.ls .n .lim ((ad (ad ⟨false,[],[]⟩ ⟨false,[],[]⟩) (mu (rw' (rI a i)) (rw' (rI b i)))).2),.ls .n .lim ((ad (ad ⟨false,[],[]⟩ ⟨false,[],[]⟩) (mu (rw' (rI a i)) (rw' (rI b i)))).3)]]⟩)))))else some (.inr (.x 0,⟨[],[],[[.v (.bool false),.v (Value.slice none 0 0),.v (Value.slice none 0 0)]]⟩)):=by kernel_rfl
theorem sDt(ad mu:Raw→Raw→Raw)(ae me:Raw→Raw→Int)(a b:List Rt)(n i:Nat)(t:Raw):aU (ODt ad mu ae me) (loT []) (iDt a b n i t)=bif ilt (.ofNat i) (.ofNat n)then gd (Nat.blt i a.length) (gd (Nat.blt i b.length) (bif !(ieq (me (rw' (rI a i)) (rw' (rI b i))) 0)then some (.inr (.r,⟨[vi (me (rw' (rI a i)) (rw' (rI b i)))],[],[[.v (.bool false),.v (Value.slice none 0 0),.v (Value.slice none 0 0)]]⟩))else(bif !(ieq (ae ⟨false,[],[]⟩ t) 0)then(bif !(ieq (ae ⟨false,[],[]⟩ t) 0)then some (.inr (.r,⟨[vi (ae ⟨false,[],[]⟩ t)],[],[[.v (.bool false),.v (Value.slice none 0 0),.v (Value.slice none 0 0)]]⟩))else nx i (.inl ⟨[.ls .a zP a,.ls .a zP b,vn n,vn (i+1)],[],[[.v (.bool false),.v (Value.slice none 0 0),.v (Value.slice none 0 0)]]⟩))else(bif !(ieq (ae (ad ⟨false,[],[]⟩ t) (mu (rw' (rI a i)) (rw' (rI b i)))) 0)then(bif !(ieq (ae (ad ⟨false,[],[]⟩ t) (mu (rw' (rI a i)) (rw' (rI b i)))) 0)then some (.inr (.r,⟨[vi (ae (ad ⟨false,[],[]⟩ t) (mu (rw' (rI a i)) (rw' (rI b i))))],[],[[.v (.bool false),.v (Value.slice none 0 0),.v (Value.slice none 0 0)]]⟩))else nx i (.inl ⟨[.ls .a zP a,.ls .a zP b,vn n,vn (i+1)],[],[[.v (.bool false),.v (Value.slice none 0 0),.v (Value.slice none 0 0)]]⟩))else nx i (.inl ⟨[.ls .a zP a,.ls .a zP b,vn n,vn (i+1)],[],[[.v (.bool ((ad (ad ⟨false,[],[]⟩ t) (mu (rw' (rI a i)) (rw' (rI b i)))).1)),.ls .n .lim ((ad (ad ⟨false,[],[]⟩ t) (mu (rw' (rI a i)) (rw' (rI b i)))).2),.ls .n .lim ((ad (ad ⟨false,[],[]⟩ t) (mu (rw' (rI a i)) (rw' (rI b i)))).3)]]⟩)))))else some (.inr (.x 0,⟨[],[],[[.v (.bool t.1),.ls .n .lim t.2,.ls .n .lim t.3]]⟩)):=by kernel_rfl
section
variable (ad mu:Raw→Raw→Raw)(ae me:Raw→Raw→Int)
noncomputable abbrev xI(l:List Rt)(i:Nat):Raw:=rw' (rI l i)
noncomputable def gDt(a b:List Rt)(i:Nat)(t:Raw):Raw⊕(Raw⊕Int):=bif !ieq (me (xI a i) (xI b i)) 0 then .inr (.inr (me (xI a i) (xI b i)))else(bif !ieq (ae r0 t) 0 then .inr (.inr (ae r0 t))else(bif !ieq (ae (ad r0 t) (mu (xI a i) (xI b i))) 0 then .inr (.inr (ae (ad r0 t) (mu (xI a i) (xI b i))))else .inl (ad (ad r0 t) (mu (xI a i) (xI b i)))))
noncomputable def dtF(a b:List Rt):Raw⊕Int:=fol (gDt ad mu ae me a b) .inl a.length 0 r0
noncomputable def qUh(a b:List Rt):Nat→Raw→Hs
 | 0,_=>iDz a b a.length 0
 | i+1,t=>iDt a b a.length (i+1) t
noncomputable abbrev z3:List T:=[.v (.bool false),.v (.slice none 0 0),.v (.slice none 0 0)]
noncomputable abbrev n3(t:Raw):List T:=[.v (.bool t.1),.ls .n .lim t.2,.ls .n .lim t.3]
noncomputable def qOu:Raw⊕Int→Ex×Hs
 | .inl t=>(.x 0,⟨[],[],[n3 t]⟩)
 | .inr e=>(.r,⟨[vi e],[],[z3]⟩)
theorem lpDt{a b:List Rt}(h0:0<a.length)(h9:a.length<9223372036854775807)(H:a.length≤b.length):lpF (aU (ODt ad mu ae me) (loT [])) a.length (iDz a b a.length 0)=some (qOu (dtF ad mu ae me a b)):=
 yZ (st:=aU (ODt ad mu ae me) (loT [])) (iv:=qUh a b) (g:=gDt ad mu ae me a b) (d:= .inl) (out:=qOu) (n:=a.length) (fun i t=>i=0→t=r0)
  (fun i t hi hJ=>by
   cases i with
   | zero=>
    obtain rfl:=hJ rfl;show aU (ODt ad mu ae me) (loT []) (iDz a b a.length 0)=_;rw[sDz];unfold gDt;have e1:ilt (.ofNat 0) (.ofNat a.length)=true:=zO h0;rw[e1];simp only[gd,zO h0,zO (show 0<b.length by omega),cond_true,xV (show 0+1<9223372036854775808 by omega)]
    cases ieq (me (xI a 0) (xI b 0)) 0 with
    | false=>rfl
    | true=>
     simp only[Bool.not_true,cond_false];cases ieq (ae r0 r0) 0 with
     | false=>rfl
     | true=>
      simp only[Bool.not_true,cond_false];cases ieq (ae (ad r0 r0) (mu (xI a 0) (xI b 0))) 0<;>rfl
   | succ i=>
    show aU (ODt ad mu ae me) (loT []) (iDt a b a.length (i+1) t)=_;rw[sDt];unfold gDt;have e1:ilt (.ofNat (i+1)) (.ofNat a.length)=true:=zO hi;rw[e1];simp only[gd,zO hi,zO (show i+1<b.length by omega),cond_true,xV (show i+1+1<9223372036854775808 by omega)]
    cases ieq (me (xI a (i+1)) (xI b (i+1))) 0 with
    | false=>rfl
    | true=>
     simp only[Bool.not_true,cond_false];cases ieq (ae r0 t) 0 with
     | false=>rfl
     | true=>
      simp only[Bool.not_true,cond_false];cases ieq (ae (ad r0 t) (mu (xI a (i+1)) (xI b (i+1)))) 0<;>rfl)
  (fun i t t2 hi hJ hg e=>by omega)
  (fun t hJ=>by
   obtain⟨m,hm⟩:∃m,a.length=m+1:=⟨a.length-1,by omega⟩
   show aU (ODt ad mu ae me) (loT []) (qUh a b a.length t)=_;have e:qUh a b a.length t=iDt a b a.length a.length t:=by
    rw[hm];show iDt a b a.length (m+1) t=_;rw[hm]
   rw[e,sDt];show(bif Nat.blt a.length a.length then _ else _)=_;rw[kE (Nat.le_refl _),cond_false];rfl) a.length 0 r0 (by omega) (fun _=>rfl)
noncomputable def hDt:Hs→DT (Ex×Hs)
 | ⟨[.ls .a (.prod .bool (.prod (.list .lim) (.list .lim))) a,.ls .a (.prod .bool (.prod (.list .lim) (.list .lim))) b,.v (.int .i64 (.ofNat n)),.v (.int .i64 (.ofNat 0))],[],[[.v (.bool false),.v (.slice none 0 0),.v (.slice none 0 0)]]⟩=>grd (Nat.beq n a.length&&(Nat.ble a.length b.length&&Nat.blt a.length 9223372036854775807)) (.ite (Nat.blt 0 a.length) (.ite (isL (dtF ad mu ae me a b)) (.ret (.x 0,⟨[],[],[n3 (rL (dtF ad mu ae me a b))]⟩)) (.ret (.r,⟨[vi (eL (dtF ad mu ae me a b))],[],[z3]⟩))) (.ret (.x 0,⟨[],[],[z3]⟩)))
 | _=> .no
theorem qTj:∀q y,(hDt ad mu ae me q).run=some y→∃n,It (aU (ODt ad mu ae me) (loT [])) n q y:=fun q y h=>by
 unfold hDt at h;split at h
 ·rename_i a b n;obtain⟨h1,h2⟩:=zV h;simp only[Bool.and_eq_true,Nat.ble_eq]at h1;obtain⟨h3,h4,h5⟩:=h1;obtain rfl:=zY h3;cases h0:Nat.blt 0 a.length with
  | true=>
   have:=kF _ _ (lpDt ad mu ae me (qY h0) (qY h5) h4);simp only[DT.run,h0,cond_true]at h2;cases hb:dtF ad mu ae me a b<;>rw[hb]at h2 this<;>cases h2<;>exact this
  | false=>
   simp only[DT.run,h0,cond_false]at h2;cases h2;refine⟨0,.out ?_⟩;show aU (ODt ad mu ae me) (loT []) (iDz a b a.length 0)=_;have e1:ilt (.ofNat 0) (.ofNat a.length)=false:=h0;rw[sDz,e1];rfl
 ·cases h
noncomputable abbrev LDt:Lo:=loT [(30,[false,true,false,true,true],Ldt.row (hDt ad mu ae me))]
end
theorem eDt(ad mu:Raw→Raw→Raw)(ae me:Raw→Raw→Int)(a b:List Rt):((qW Tryz.prog (evD Tryz.prog (ODt ad mu ae me) (LDt ad mu ae me) 60) 30 [.ls .a zP a,.ls .a zP b] []).bind jB).run=bif !(ieq (.ofNat a.length) (.ofNat b.length))then some (.tu [.ag [.v (.bool false),.v (Value.slice none 0 0),.v (Value.slice none 0 0)],vn 16],true)else gd ((Nat.beq a.length a.length)&&((Nat.ble a.length b.length)&&(Nat.blt a.length 9223372036854775807))) (bif Nat.blt 0 a.length then(bif isL (dtF ad mu ae me a b)then some (.tu [.ag [.v (.bool ((rL (dtF ad mu ae me a b)).1)),.ls .a .lim ((rL (dtF ad mu ae me a b)).2),.ls .a .lim ((rL (dtF ad mu ae me a b)).3)],vn 0],true)else some (.tu [.ag [.v (.bool false),.v (Value.slice none 0 0),.v (Value.slice none 0 0)],vi (eL (dtF ad mu ae me a b))],true))else some (.tu [.ag [.v (.bool false),.v (Value.slice none 0 0),.v (Value.slice none 0 0)],vn 0],true)):=by kernel_rfl
theorem zRx(a:Raw):0≤a.chk:=by unfold Raw.chk;split;decide;split;decide;split<;>decide
theorem qFn{x y:Int}(hx:0≤x)(hy:0≤y):0≤or2 x y:=by unfold or2;split<;>assumption
theorem zSz(a b:Raw)(x:Rat):0≤opE a b x:=qFn (qFn (zRx a) (zRx b)) (by unfold zBv;split<;>decide)
noncomputable abbrev pE(e:Int):Nat:=e.toNat-1
theorem qFu{e:Int}(h:0<e):Int.ofNat (pE e+1)=e:=by
 obtain⟨n,rfl⟩:=Int.eq_ofNat_of_zero_le (Int.le_of_lt h);show Int.ofNat ((n:Int).toNat-1+1)=_;rw[Int.toNat_natCast,Nat.sub_add_cancel (by omega)];rfl
theorem qHi{B:Bm}{r:Rd}{t:T}{v:Value}(h:Rep B r (.tu [.ag z3,t]) v):Rep B r (.tu [.ag (rC r0),t]) v:=by
 obtain⟨vs,rfl,hvs⟩:=h.tuI;match vs,hvs with
 | [a,b],⟨h1,h2,_⟩=>
  refine Rep.mkTu (vs:=[a,b]) ⟨?_,h2,trivial⟩;obtain⟨us,rfl,hus⟩:=h1.agI;match us,hus with
  | [c,d,e],⟨g1,g2,g3,_⟩=>exact Rep.mkAg (vs:=[c,d,e]) ⟨g1,zDn g2,zDn g3,trivial⟩
section
variable (ad mu:Raw→Raw→Raw)(ae me:Raw→Raw→Int)
noncomputable def zLo(a b:List Rt):Bool:=Nat.beq a.length b.length&&isL (dtF ad mu ae me a b)
noncomputable def dtR(a b:List Rt):Raw:=bif zLo ad mu ae me a b then rL (dtF ad mu ae me a b)else r0
noncomputable def dtE(a b:List Rt):Int:=bif Nat.beq a.length b.length then eL (dtF ad mu ae me a b)else 16
noncomputable def dtP(a b:List Rt):Nat:=pE (dtE ad mu ae me a b)
theorem qJb(hae:∀x y,0≤ae x y)(hme:∀x y,0≤me x y){a b:List Rt}:∀{e:Int},dtF ad mu ae me a b= .inr e→0<e:=by
 have:=vX (g:=gDt ad mu ae me a b) (d:= .inl) (J:=fun _=>True) (R:=fun y=>∀e,y= .inr e→0<e) (fun _ _ _ _ _=>trivial)
  (fun i t y _ hy e he=>by
   subst he;unfold gDt at hy;have pos:∀z:Int,0≤z→ieq z 0=false→0<z:=fun z h1 h2=>by
    rcases Int.lt_or_eq_of_le h1 with h | h
    ·exact h
    ·subst h;cases h2
   cases h1:ieq (me (xI a i) (xI b i)) 0<;>rw[h1]at hy
   ·cases hy;exact pos _ (hme _ _) h1
   ·cases h2:ieq (ae r0 t) 0<;>rw[h2]at hy
    ·cases hy;exact pos _ (hae _ _) h2
    ·cases h3:ieq (ae (ad r0 t) (mu (xI a i) (xI b i))) 0<;>rw[h3]at hy
     ·cases hy;exact pos _ (hae _ _) h3
     ·cases hy)
  (fun _ _ e he=>by cases he) a.length 0 r0 trivial
 intro e he;exact this e he
end
noncomputable abbrev qQ:List Rt→List Rt→Bool:=zLo adA muA aeA meA
noncomputable abbrev jW:List Rt→List Rt→Raw:=dtR adA muA aeA meA
noncomputable abbrev yE:List Rt→List Rt→Nat:=dtP adA muA aeA meA
theorem qEu:vL Tryz.prog (ODt adA muA aeA meA):=zX (zX yO fun az tv nw h k=>tX qKc az tv h k) fun az tv nw h k=>tX qUi az tv h k
theorem qXk:mQ Tryz.prog (LDt adA muA aeA meA):=yK qZ (tT xA qEu qZ 60) qPv (qTj adA muA aeA meA)
theorem kDot:∀az tv nw,(yM qQ jW yE az).run=some (tv,nw)→∀k,KnP Tryz.prog k 30 az tv nw:=by
 intro az tv nw hh k;unfold yM at hh;split at hh
 ·rename_i a b;obtain⟨h1,h2⟩:=zV hh;simp only[Bool.and_eq_true,Nat.ble_eq]at h1;have q:=eDt adA muA aeA meA a b;have fin:∀{tv':T}{nw':Bool},((qW Tryz.prog (evD Tryz.prog (ODt adA muA aeA meA) (LDt adA muA aeA meA) 60) 30 [.ls .a zP a,.ls .a zP b] []).bind jB).run=some (tv',nw')→([T.ls .a zP a,.ls .a zP b].all (clean 12)&&clean 12 tv')=true→KnP Tryz.prog k 30 [.ls .a zP a,.ls .a zP b] tv' nw':=fun e hc=>kQ (cz:=[.ls .a zP a,.ls .a zP b]) xA qEu qXk e hc k;simp only[DT.run]at h2;cases hl:Nat.beq a.length b.length with
  | false=>
   have e1:ieq (.ofNat a.length) (.ofNat b.length)=false:=hl;have e2:qQ a b=false:=by simp only[qQ,zLo,hl,Bool.false_and]
   have e3:jW a b=r0:=by unfold jW dtR;rw[show zLo adA muA aeA meA a b=false from e2];rfl
   have e4:Int.ofNat (yE a b+1)=16:=by unfold yE dtP dtE;rw[hl];rfl
   rw[e1]at q;rw[e2,e3,e4]at h2;cases h2;exact(fin q rfl).res fun B r v h=>qHi h
  | true=>
   have e1:ieq (.ofNat a.length) (.ofNat b.length)=true:=hl;have hl':=zY hl;have e5:Nat.beq a.length a.length=true:=vN _;rw[e1,e5,vO (show a.length≤b.length by omega),zO (show a.length<9223372036854775807 by omega)]at q
   simp only[gd,Bool.not_true,cond_false,Bool.and_self,cond_true]at q;have e2:qQ a b=isL (dtF adA muA aeA meA a b):=by simp only[qQ,zLo,hl,Bool.true_and]
   cases h0:Nat.blt 0 a.length with
   | false=>
    rw[h0]at q;have e0:a.length=0:=by
     rcases Nat.eq_zero_or_pos a.length with e | e
     ·exact e
     ·rw[zO e]at h0;cases h0
    have e6:dtF adA muA aeA meA a b= .inl r0:=by unfold dtF;rw[e0];rfl
    have e3:jW a b=r0:=by unfold jW dtR;rw[e6];cases zLo adA muA aeA meA a b<;>rfl
    rw[e2,e3,e6]at h2;cases h2;exact(fin q rfl).res fun B r v h=>qHi h
   | true=>
    rw[h0]at q;cases hF:dtF adA muA aeA meA a b with
    | inl t=>
     have e3:jW a b=t:=by unfold jW dtR;rw[show zLo adA muA aeA meA a b=isL (dtF adA muA aeA meA a b)from e2,hF];rfl
     rw[hF]at q;rw[e2,e3,hF]at h2;cases h2;exact fin q rfl
    | inr e=>
     have e3:jW a b=r0:=by unfold jW dtR;rw[show zLo adA muA aeA meA a b=isL (dtF adA muA aeA meA a b)from e2,hF];rfl
     have he:0<e:=qJb adA muA aeA meA (fun _ _=>zSz _ _ _) (fun _ _=>zSz _ _ _) hF;have e4:Int.ofNat (yE a b+1)=e:=by
      unfold yE dtP dtE;rw[hl,hF];exact qFu he
     rw[hF]at q;rw[e2,e3,hF,e4]at h2;cases h2;exact(fin q rfl).res fun B r v h=>qHi h
 ·cases hh
theorem kFrT:KC Tryz.prog 12 (fun az=>(kR frA az).run) true:=by
 have e:(fun az=>(kR frA az).run)=pI frA:=funext fun az=>by
  unfold kR pI;split
  ·rename_i n;show(bif xZ n then _ else _)=_;rfl
  ·rename_i h;split
   ·rename_i n;exact absurd rfl (h n)
   ·rfl
 rw[e];exact zVb
noncomputable abbrev zbA(b:Raw):Bool:=Nat.beq (val b.ln) 0
noncomputable abbrev dvE(a b:Raw):Int:=opE a b (a.rat / b.rat)
noncomputable abbrev dvR(a b:Raw):Raw:=opR a b (a.rat / b.rat)
noncomputable abbrev jU(a b:Raw):Bool:=ieq (dvE a b) 0
noncomputable abbrev dvP(a b:Raw):Nat:=pE (dvE a b)
theorem qOr:KC Tryz.prog 11 (fun az=>(jR zbA jU dvR dvP az).run) true:=by
 have e:(fun az=>(jR zbA jU dvR dvP az).run)=pRR fun a b=>bif Nat.beq (val b.ln) 0 then none else some (opR a b (a.rat / b.rat),opE a b (a.rat / b.rat)):=funext fun az=>by
  unfold jR pRR;split
  ·rename_i a b;cases hz:Nat.beq (val b.ln) 0 with
   | true=>
    show(bif !(Nat.beq (val b.ln) 0)then _ else _)=match(bif Nat.beq (val b.ln) 0 then none else some (dvR a b,dvE a b))with | some (c,e)=>some (Rs.tup [.r c,.i e]) | none=>none
    rw[hz];rfl
   | false=>
    show(bif !(Nat.beq (val b.ln) 0)then _ else _)=match(bif Nat.beq (val b.ln) 0 then none else some (dvR a b,dvE a b))with | some (c,e)=>some (Rs.tup [.r c,.i e]) | none=>none
    rw[hz];simp only[Bool.not_false,cond_true,cond_false,DT.run];cases h:jU a b with
    | true=>have h2:dvE a b=0:=qP.1 h;rw[h2];rfl
    | false=>
     have h2:0<dvE a b:=by
      rcases Int.lt_or_eq_of_le (zSz a b (a.rat / b.rat))with g | g
      ·exact g
      ·rw[show jU a b=true from vY g.symm]at h;cases h
     simp only[cond_false,dvP,qFu h2]
  ·rename_i h;split
   ·rename_i a b;exact absurd rfl (h a b)
   ·rfl
 rw[e];exact kDiv
theorem bnn{b:Bool}{x y:Int}(hx:0≤x)(hy:0≤y):0≤(bif b then x else y):=by cases b<;>assumption
theorem qOg{β:Type}{g:Nat→Unit→Unit⊕Option Int}(hg:∀i e,g i ()= .inr (some e)→0≤e)(k i:Nat):0≤eN (fol g (fun _=>none) k i ()):=by
 have:=vX (g:=g) (d:=fun _=>none) (J:=fun _=>True) (R:=fun y=>0≤eN y) (fun _ _ _ _ _=>trivial) (fun i a y _ hy=>by
  cases y with
  | none=>exact Int.le_refl 0
  | some e=>exact hg i e hy) (fun _ _=>Int.le_refl 0) k i () trivial
 exact this
theorem qTz(g:List (List Int)):0≤icE g:=by
 have h:0≤eN (c0F g):=qOg (β:=Unit) (fun i e hy=>by
  unfold gC0 at hy;cases h1:ieq (.ofNat (gI g i).length) (.ofNat 0)<;>rw[h1]at hy
  ·cases h2:ilt (.ofNat 32) (.ofNat (gI g i).length)<;>rw[h2]at hy
   ·cases h3:c1F (gI g i) (gI g i)<;>rw[h3]at hy<;>cases hy;decide
   ·cases hy;decide
  ·cases hy;decide) g.length 0
 unfold icE
 repeat' first | assumption | exact bnn (by decide) (by decide) | apply bnn | decide
theorem zLk(x:Raw):0≤crA x:=by
 have h:=zRx x;unfold crA crE
 repeat' first | assumption | apply bnn | decide
theorem qBw(l:List Nz):0≤cnA l:=by
 have h:0≤eL (cnF crA adA l l):=by
  have:=vX (g:=gCn crA adA l l) (d:= .inl) (J:=fun _=>True) (R:=fun y=>0≤eL y) (fun _ _ _ _ _=>trivial) (fun i a y _ hy=>by
   unfold gCn at hy;cases h1:yJ (-100) 100 [(zI l i).1]<;>rw[h1]at hy
   ·cases hy;decide
   ·cases h2:(ilt (.ofNat 0) (.ofNat i)&&!ilt (zI l (i-1)).1 (zI l i).1)<;>rw[h2]at hy
    ·cases h3:ieq (crA (rw' (zI l i).2)) 0<;>rw[h3]at hy
     ·cases hy;exact zLk _
     ·cases h4:(zI l i).2.1<;>rw[h4]at hy
      ·cases h5:ieq (.ofNat (zI l i).2.2.1.length) (.ofNat 0)<;>rw[h5]at hy<;>cases hy;decide
      ·cases hy;decide
    ·cases hy;decide) (fun _ _=>Int.le_refl 0) l.length 0 r0 trivial
  exact this
 unfold cnA cnE
 repeat' first | assumption | apply bnn | decide
theorem qRj(h o t:List Int)(G:List Bd)(P D S:Int)(O U:List Nz)(C st V:Raw):0≤dcA h o t G P D S O U C st V:=by
 have h1:=qTz [h,o,t];have h2:=qBw O;have h3:=qBw U;have h4:=zLk C;have h5:=zLk st;have h6:=zLk V;have h7:0≤eN (dvF (dr1 G)):=qOg (β:=Unit) (fun i e hy=>by
  unfold gDc at hy;cases h1:(!ieq (bI (dr1 G) i).1 1&&!ieq (bI (dr1 G) i).1 2)<;>rw[h1]at hy
  ·cases h2:ilt (bI (dr1 G) i).2.2 (bI (dr1 G) i).2.1<;>rw[h2]at hy
   ·cases h3:yJ (-100) 100 [(bI (dr1 G) i).2.1,(bI (dr1 G) i).2.2]<;>rw[h3]at hy<;>cases hy;decide
   ·cases hy;decide
  ·cases hy;decide) _ 0
 unfold dcA dcE
 repeat' first | assumption | apply bnn | decide
theorem qZd(h o t:List Int)(G:List Bd)(P D S:Int)(O U:List Nz)(C st V:Raw)(Z:Int)(F I:List (List Int)):0≤pcA h o t G P D S O U C st V Z F I:=by
 have h1:=qRj h o t G P D S O U C st V;have h2:0≤eU (p0F (szA h o t G P D S O U C st V) F I (0,true)):=by
  have:=vX (g:=gP0 (szA h o t G P D S O U C st V) F I) (d:= .inl) (J:=fun _=>True) (R:=fun y=>0≤eU y) (fun _ _ _ _ _=>trivial) (fun i a y _ hy=>by
   unfold gP0 at hy;cases h1:ieq (.ofNat (gI I i).length) (szA h o t G P D S O U C st V)<;>rw[h1]at hy
   ·cases hy;decide
   ·cases h2:isS (p1F F (gI I i) a)<;>rw[h2]at hy<;>cases hy;decide) (fun _ _=>Int.le_refl 0) I.length 0 (0,true) trivial
  exact this
 have h3:0≤eM (p2F kyF F G):=by
  have:=vX (g:=gP2 kyF F G) (d:= .inl) (J:=fun _=>True) (R:=fun y=>0≤eM y) (fun _ _ _ _ _=>trivial) (fun i a y _ hy=>by
   unfold gP2 at hy;cases h1:ieq (.ofNat (gI F i).length) (.ofNat G.length)<;>rw[h1]at hy
   ·cases hy;decide
   ·cases h2:p3F (gI F i)<;>rw[h2]at hy<;>cases hy;decide) (fun _ _=>Int.le_refl 0) F.length 0 [] trivial
  exact this
 unfold pcA pcE
 repeat' first | assumption | apply bnn | decide
noncomputable abbrev jL(h o t:List Int)(G:List Bd)(P D S:Int)(O U:List Nz)(C st V:Raw)(Z:Int)(F I:List (List Int)):Bool:=ieq (pcA h o t G P D S O U C st V Z F I) 0
noncomputable abbrev pPA(h o t:List Int)(G:List Bd)(P D S:Int)(O U:List Nz)(C st V:Raw)(Z:Int)(F I:List (List Int)):Nat:=pE (pcA h o t G P D S O U C st V Z F I)
theorem qZb(h o t:List Int)(G:List Bd)(P D S:Int)(O U:List Nz)(C st V:Raw)(Z:Int)(F I:List (List Int))(hk:jL h o t G P D S O U C st V Z F I=false):Int.ofNat (pPA h o t G P D S O U C st V Z F I+1)=pcA h o t G P D S O U C st V Z F I:=by
 refine qFu ?_;rcases Int.lt_or_eq_of_le (qZd h o t G P D S O U C st V Z F I)with g | g
 ·exact g
 ·rw[show jL h o t G P D S O U C st V Z F I=true from vY g.symm]at hk;cases hk
theorem qUj:∀az tv nw,(kL jL pPA az).run=some (tv,nw)→∀k,KnP Tryz.prog k 22 az tv nw:=by
 intro az tv nw hh k;refine kPc az tv nw ?_ k;unfold kL at hh;unfold oPc;split at hh
 ·rename_i h o t G P D S O U ab C am sb sl sm rb rl rm Z F I;obtain⟨h1,h2⟩:=zV hh;simp only[grd,DT.run,h1,cond_true];simp only[DT.run]at h2;cases e:jL h o t G P D S O U ⟨ab,C,am⟩ ⟨sb,sl,sm⟩ ⟨rb,rl,rm⟩ Z F I with
  | true=>
   rw[e]at h2;rw[show pcA h o t G P D S O U ⟨ab,C,am⟩ ⟨sb,sl,sm⟩ ⟨rb,rl,rm⟩ Z F I=0 from qP.1 e];exact h2
  | false=>
   rw[e]at h2;simp only[cond_false]at h2;rw[←qZb h o t G P D S O U ⟨ab,C,am⟩ ⟨sb,sl,sm⟩ ⟨rb,rl,rm⟩ Z F I e];exact h2
 ·cases hh
theorem kWgX(m:Nat):∀az tv nw,(xW m wgA az).run=some (tv,nw)→∀k,KnP Tryz.prog k 28 az tv nw:=by
 intro az tv nw hh k;refine kWg az tv nw ?_ k;unfold xW at hh;unfold oWg;split at hh
 ·rename_i h o t x0 x1 x2;obtain⟨h1,h2⟩:=zV hh;simp only[Bool.and_eq_true]at h1;have e:=zSi (wgA h o t x0 x1 x2) m 0 (by rw[←zY h1.1];omega)
  rw[List.drop_zero]at e;rw[e]at h2;show some _=some _;rw[show icE [h,o,t]=0 from qP.1 h1.2];exact h2
 ·cases hh
theorem qFr(m:Nat):vL Tryz.prog (odT [(22,odR [tbT] (kL jL pPA)),(28,odR [.list (.list nT),.list nT] (xW m wgA)),(12,kcT (kR frA) true),(30,odR [.list zP,.list zP] (yM qQ jW yE)),(11,kcT (jR zbA jU dvR dvP) true)]):=zX (zX (zX (zX (zX yO fun az tv nw h k=>zGk qOr az tv nw h k) (jY kDot)) fun az tv nw h k=>zGk kFrT az tv nw h k) (jY (kWgX m))) (jY qUj)
theorem eLk0(okP:TF Bool)(pP:TF Nat)(h o t:List Int)(G:List Bd)(P D S:Int)(O U:List Nz)(C st V:Raw)(Z:Int)(F I:List (List Int))(L H W vq Y:Int):((qW Tryz.prog (evD Tryz.prog (odT [(22,odR [tbT] (kL okP pP)),(28,fun _=> .no)]) (loT []) 60) 10 [.ag (tbC h o t G P D S O U C st V Z F I),vi L,vi H,vi W,vi vq,vi Y] []).bind jB).run=gd (Nat.blt F.length 9223372036854775807) (bif okP h o t G P D S O U C st V Z F I then(bif ilt L (.ofNat 1)then some (.tu [.v (Value.slice none 0 0),vn 1],true)else(bif ilt S L then some (.tu [.v (Value.slice none 0 0),vn 1],true)else(bif !(ilt H (i64.wrap (0-100000)))then(bif !(!(ilt 100000 H))then some (.tu [.v (Value.slice none 0 0),vn 1],true)else(bif !(ilt W ((-100)))then(bif !(!(ilt 100 W))then some (.tu [.v (Value.slice none 0 0),vn 1],true)else(bif !(ilt vq ((-100)))then(bif !(!(ilt 100 vq))then some (.tu [.v (Value.slice none 0 0),vn 1],true)else(bif ilt Y (.ofNat 0)then some (.tu [.v (Value.slice none 0 0),vn 8],true)else gd (!(ilt Y (.ofNat G.length))) (some (.tu [.v (Value.slice none 0 0),vn 8],true))))else some (.tu [.v (Value.slice none 0 0),vn 1],true)))else some (.tu [.v (Value.slice none 0 0),vn 1],true)))else some (.tu [.v (Value.slice none 0 0),vn 1],true))))else some (.tu [.v (Value.slice none 0 0),vn ((pP h o t G P D S O U C st V Z F I)+1)],true)):=by kernel_rfl
noncomputable abbrev wiN(x most:Int)(E K:Nat):Nat:=bif !ilt x (-most)then(bif !(!ilt most x)then E else K)else E
section
variable (okP:TF Bool)(pP:TF Nat)
noncomputable def lkC(h o t:List Int)(G:List Bd)(P D S:Int)(O U:List Nz)(C st V:Raw)(Z:Int)(F I:List (List Int))(L H W vq Y:Int):Nat:=bif okP h o t G P D S O U C st V Z F I then(bif ilt L (.ofNat 1)then 1 else(bif ilt S L then 1 else wiN H 100000 1 (wiN W 100 1 (wiN vq 100 1 (bif ilt Y (.ofNat 0)then 8 else(bif !ilt Y (.ofNat G.length)then 8 else 0))))))else pP h o t G P D S O U C st V Z F I+1
theorem qXm(h o t:List Int)(G:List Bd)(P D S:Int)(O U:List Nz)(C st V:Raw)(Z:Int)(F I:List (List Int))(L H W vq Y:Int)(hr:F.length<9223372036854775807)(hc:Nat.beq (lkC okP pP h o t G P D S O U C st V Z F I L H W vq Y) 0=false):((qW Tryz.prog (evD Tryz.prog (odT [(22,odR [tbT] (kL okP pP)),(28,fun _=> .no)]) (loT []) 60) 10 [.ag (tbC h o t G P D S O U C st V Z F I),vi L,vi H,vi W,vi vq,vi Y] []).bind jB).run=er (lkC okP pP h o t G P D S O U C st V Z F I L H W vq Y):=by
 have e1:ilt H (i64.wrap (0-100000))=ilt H (-100000):=rfl;rw[eLk0,e1];unfold lkC at hc ⊢;simp only[gd,zO hr,cond_true];cases h0:okP h o t G P D S O U C st V Z F I with
 | false=>rfl
 | true=>
  rw[h0]at hc;simp only[cond_true]at hc ⊢;cases h1:ilt L (.ofNat 1)with
  | true=>rfl
  | false=>
   cases h2:ilt S L with
   | true=>rfl
   | false=>
    rw[h1,h2]at hc;simp only[cond_false,wiN]at hc ⊢;cases h3:ilt H (-100000)with
    | true=>rfl
    | false=>
     cases h4:ilt 100000 H with
     | true=>rfl
     | false=>
      rw[h3,h4]at hc;simp only[Bool.not_false,Bool.not_true,cond_true,cond_false]at hc ⊢;cases h5:ilt W (-100)with
      | true=>rfl
      | false=>
       cases h6:ilt 100 W with
       | true=>rfl
       | false=>
        rw[h5,h6]at hc;simp only[Bool.not_false,Bool.not_true,cond_true,cond_false]at hc ⊢;cases h7:ilt vq (-100)with
        | true=>rfl
        | false=>
         cases h8:ilt 100 vq with
         | true=>rfl
         | false=>
          rw[h7,h8]at hc;simp only[Bool.not_false,Bool.not_true,cond_true,cond_false]at hc ⊢;cases h9:ilt Y (.ofNat 0)with
          | true=>rfl
          | false=>
           rw[h9]at hc;cases ha:ilt Y (.ofNat G.length)with
           | false=>rfl
           | true=>rw[ha]at hc;cases hc
theorem zVk(h o t:List Int)(G:List Bd)(P D S:Int)(O U:List Nz)(C st V:Raw)(Z:Int)(F I:List (List Int))(L H W vq Y:Int)(hc:Nat.beq (lkC okP pP h o t G P D S O U C st V Z F I L H W vq Y) 0=true):okP h o t G P D S O U C st V Z F I=true∧1≤L∧L≤S∧0≤Y∧Y<(G.length:Int)∧∀(wg:List Int→List Int→List Int→Int→Int→Int→List Nz)(fr:Int→Raw)(okD:List Rt→List Rt→Bool)(dR:List Rt→List Rt→Raw)(dP:List Rt→List Rt→Nat)(zb:Raw→Bool)(okV:Raw→Raw→Bool)(vR:Raw→Raw→Raw)(vP:Raw→Raw→Nat)(m:Nat),F.length<9223372036854775807→scA okP pP wg fr okD dR dP zb okV vR vP m G.length h o t G P D S O U C st V Z F I L H W vq Y=gd (Nat.beq (wg h o t H W vq).length m&&ieq (icE [h,o,t]) 0) (scL fr okD dR dP zb okV vR vP Z F I L (.ofNat G.length) Y (exL (wg h o t H W vq) m 0) G.length 0 []):=by
 unfold lkC at hc;cases h0:okP h o t G P D S O U C st V Z F I with
 | false=>rw[h0]at hc;cases hc
 | true=>
  rw[h0]at hc;cases h1:ilt L (.ofNat 1)with
  | true=>rw[h1]at hc;cases hc
  | false=>
   cases h2:ilt S L with
   | true=>rw[h1,h2]at hc;cases hc
   | false=>
    rw[h1,h2]at hc;simp only[cond_true,cond_false,wiN]at hc;cases h3:ilt H (-100000)with
    | true=>rw[h3]at hc;cases hc
    | false=>
     cases h4:ilt 100000 H with
     | true=>rw[h3,h4]at hc;cases hc
     | false=>
      rw[h3,h4]at hc;simp only[Bool.not_false,Bool.not_true,cond_true,cond_false]at hc;cases h5:ilt W (-100)with
      | true=>rw[h5]at hc;cases hc
      | false=>
       cases h6:ilt 100 W with
       | true=>rw[h5,h6]at hc;cases hc
       | false=>
        rw[h5,h6]at hc;simp only[Bool.not_false,Bool.not_true,cond_true,cond_false]at hc;cases h7:ilt vq (-100)with
        | true=>rw[h7]at hc;cases hc
        | false=>
         cases h8:ilt 100 vq with
         | true=>rw[h7,h8]at hc;cases hc
         | false=>
          rw[h7,h8]at hc;simp only[Bool.not_false,Bool.not_true,cond_true,cond_false]at hc;cases h9:ilt Y (.ofNat 0)with
          | true=>rw[h9]at hc;cases hc
          | false=>
           rw[h9]at hc;cases ha:ilt Y (.ofNat G.length)with
           | false=>rw[ha]at hc;cases hc
           | true=>
            refine⟨rfl,kX h1,kX h2,kX h9,xM.1 ha,fun wg fr okD dR dP zb okV vR vP m hr=>?_⟩;unfold scA;simp only[gd,zO hr,cond_true,h0,h1,h2,wiK,h3,h4,h5,h6,h7,h8,h9,ha,Bool.not_false,Bool.not_true,cond_false]
end
theorem qSq(h o t:List Int)(G:List Bd)(P D S:Int)(O U:List Nz)(C st V:Raw)(Z:Int)(F I:List (List Int))(L H W vq Y:Int)(h1:1≤G.length)(h6:G.length≤6):((qW Tryz.prog (evD Tryz.prog (odT [(22,odR [tbT] (kL jL pPA)),(28,odR [.list (.list nT),.list nT] (xW 1 wgA)),(12,kcT (kR frA) true),(30,odR [.list zP,.list zP] (yM qQ jW yE)),(11,kcT (jR zbA jU dvR dvP) true)]) (loT []) 60) 10 [.ag (tbC h o t G P D S O U C st V Z F I),vi L,vi H,vi W,vi vq,vi Y] []).bind jB).run=scA jL pPA wgA frA qQ jW yE zbA jU dvR dvP 1 G.length h o t G P D S O U C st V Z F I L H W vq Y:=by
 match G,h1,h6 with
 | [a0],_,_=>exact qRs jL pPA wgA frA qQ jW yE zbA jU dvR dvP h o t P D S O U C st V Z F I L H W vq Y a0
 | [a0,a1],_,_=>exact qRt jL pPA wgA frA qQ jW yE zbA jU dvR dvP h o t P D S O U C st V Z F I L H W vq Y a0 a1
 | [a0,a1,a2],_,_=>exact qRu jL pPA wgA frA qQ jW yE zbA jU dvR dvP h o t P D S O U C st V Z F I L H W vq Y a0 a1 a2
 | [a0,a1,a2,a3],_,_=>exact qRv jL pPA wgA frA qQ jW yE zbA jU dvR dvP h o t P D S O U C st V Z F I L H W vq Y a0 a1 a2 a3
 | [a0,a1,a2,a3,a4],_,_=>exact qRw jL pPA wgA frA qQ jW yE zbA jU dvR dvP h o t P D S O U C st V Z F I L H W vq Y a0 a1 a2 a3 a4
 | [a0,a1,a2,a3,a4,a5],_,_=>exact qRx jL pPA wgA frA qQ jW yE zbA jU dvR dvP h o t P D S O U C st V Z F I L H W vq Y a0 a1 a2 a3 a4 a5
 | a0::a1::a2::a3::a4::a5::a6::l,_,h=>simp only[List.length_cons]at h;omega
theorem qSr(h o t:List Int)(G:List Bd)(P D S:Int)(O U:List Nz)(C st V:Raw)(Z:Int)(F I:List (List Int))(L H W vq Y:Int)(h1:1≤G.length)(h6:G.length≤6):((qW Tryz.prog (evD Tryz.prog (odT [(22,odR [tbT] (kL jL pPA)),(28,odR [.list (.list nT),.list nT] (xW 2 wgA)),(12,kcT (kR frA) true),(30,odR [.list zP,.list zP] (yM qQ jW yE)),(11,kcT (jR zbA jU dvR dvP) true)]) (loT []) 60) 10 [.ag (tbC h o t G P D S O U C st V Z F I),vi L,vi H,vi W,vi vq,vi Y] []).bind jB).run=scA jL pPA wgA frA qQ jW yE zbA jU dvR dvP 2 G.length h o t G P D S O U C st V Z F I L H W vq Y:=by
 match G,h1,h6 with
 | [a0],_,_=>exact qRy jL pPA wgA frA qQ jW yE zbA jU dvR dvP h o t P D S O U C st V Z F I L H W vq Y a0
 | [a0,a1],_,_=>exact qRz jL pPA wgA frA qQ jW yE zbA jU dvR dvP h o t P D S O U C st V Z F I L H W vq Y a0 a1
 | [a0,a1,a2],_,_=>exact qSa jL pPA wgA frA qQ jW yE zbA jU dvR dvP h o t P D S O U C st V Z F I L H W vq Y a0 a1 a2
 | [a0,a1,a2,a3],_,_=>exact qSb jL pPA wgA frA qQ jW yE zbA jU dvR dvP h o t P D S O U C st V Z F I L H W vq Y a0 a1 a2 a3
 | [a0,a1,a2,a3,a4],_,_=>exact qSc jL pPA wgA frA qQ jW yE zbA jU dvR dvP h o t P D S O U C st V Z F I L H W vq Y a0 a1 a2 a3 a4
 | [a0,a1,a2,a3,a4,a5],_,_=>exact qSd jL pPA wgA frA qQ jW yE zbA jU dvR dvP h o t P D S O U C st V Z F I L H W vq Y a0 a1 a2 a3 a4 a5
 | a0::a1::a2::a3::a4::a5::a6::l,_,h=>simp only[List.length_cons]at h;omega
theorem qSs(h o t:List Int)(G:List Bd)(P D S:Int)(O U:List Nz)(C st V:Raw)(Z:Int)(F I:List (List Int))(L H W vq Y:Int)(h1:1≤G.length)(h6:G.length≤6):((qW Tryz.prog (evD Tryz.prog (odT [(22,odR [tbT] (kL jL pPA)),(28,odR [.list (.list nT),.list nT] (xW 4 wgA)),(12,kcT (kR frA) true),(30,odR [.list zP,.list zP] (yM qQ jW yE)),(11,kcT (jR zbA jU dvR dvP) true)]) (loT []) 60) 10 [.ag (tbC h o t G P D S O U C st V Z F I),vi L,vi H,vi W,vi vq,vi Y] []).bind jB).run=scA jL pPA wgA frA qQ jW yE zbA jU dvR dvP 4 G.length h o t G P D S O U C st V Z F I L H W vq Y:=by
 match G,h1,h6 with
 | [a0],_,_=>exact qSe jL pPA wgA frA qQ jW yE zbA jU dvR dvP h o t P D S O U C st V Z F I L H W vq Y a0
 | [a0,a1],_,_=>exact qSf jL pPA wgA frA qQ jW yE zbA jU dvR dvP h o t P D S O U C st V Z F I L H W vq Y a0 a1
 | [a0,a1,a2],_,_=>exact qSg jL pPA wgA frA qQ jW yE zbA jU dvR dvP h o t P D S O U C st V Z F I L H W vq Y a0 a1 a2
 | [a0,a1,a2,a3],_,_=>exact qSh jL pPA wgA frA qQ jW yE zbA jU dvR dvP h o t P D S O U C st V Z F I L H W vq Y a0 a1 a2 a3
 | [a0,a1,a2,a3,a4],_,_=>exact qSi jL pPA wgA frA qQ jW yE zbA jU dvR dvP h o t P D S O U C st V Z F I L H W vq Y a0 a1 a2 a3 a4
 | [a0,a1,a2,a3,a4,a5],_,_=>exact qSj jL pPA wgA frA qQ jW yE zbA jU dvR dvP h o t P D S O U C st V Z F I L H W vq Y a0 a1 a2 a3 a4 a5
 | a0::a1::a2::a3::a4::a5::a6::l,_,h=>simp only[List.length_cons]at h;omega
theorem qSt(h o t:List Int)(G:List Bd)(P D S:Int)(O U:List Nz)(C st V:Raw)(Z:Int)(F I:List (List Int))(L H W vq Y:Int)(h1:1≤G.length)(h6:G.length≤6):((qW Tryz.prog (evD Tryz.prog (odT [(22,odR [tbT] (kL jL pPA)),(28,odR [.list (.list nT),.list nT] (xW 8 wgA)),(12,kcT (kR frA) true),(30,odR [.list zP,.list zP] (yM qQ jW yE)),(11,kcT (jR zbA jU dvR dvP) true)]) (loT []) 60) 10 [.ag (tbC h o t G P D S O U C st V Z F I),vi L,vi H,vi W,vi vq,vi Y] []).bind jB).run=scA jL pPA wgA frA qQ jW yE zbA jU dvR dvP 8 G.length h o t G P D S O U C st V Z F I L H W vq Y:=by
 match G,h1,h6 with
 | [a0],_,_=>exact qSk jL pPA wgA frA qQ jW yE zbA jU dvR dvP h o t P D S O U C st V Z F I L H W vq Y a0
 | [a0,a1],_,_=>exact qSl jL pPA wgA frA qQ jW yE zbA jU dvR dvP h o t P D S O U C st V Z F I L H W vq Y a0 a1
 | [a0,a1,a2],_,_=>exact qSm jL pPA wgA frA qQ jW yE zbA jU dvR dvP h o t P D S O U C st V Z F I L H W vq Y a0 a1 a2
 | [a0,a1,a2,a3],_,_=>exact qSn jL pPA wgA frA qQ jW yE zbA jU dvR dvP h o t P D S O U C st V Z F I L H W vq Y a0 a1 a2 a3
 | [a0,a1,a2,a3,a4],_,_=>exact qSo jL pPA wgA frA qQ jW yE zbA jU dvR dvP h o t P D S O U C st V Z F I L H W vq Y a0 a1 a2 a3 a4
 | [a0,a1,a2,a3,a4,a5],_,_=>exact qSp jL pPA wgA frA qQ jW yE zbA jU dvR dvP h o t P D S O U C st V Z F I L H W vq Y a0 a1 a2 a3 a4 a5
 | a0::a1::a2::a3::a4::a5::a6::l,_,h=>simp only[List.length_cons]at h;omega
noncomputable abbrev skA(Z:Int)(F I:List (List Int))(L nn Y:Int)(ws:List Nz)(k b:Nat)(acc:List Raw):List Raw⊕Nat:=skL frA qQ jW yE jU dvR dvP Z F I L nn Y ws k b acc
noncomputable abbrev lkE(h o t:List Int)(G:List Bd)(P D S:Int)(O U:List Nz)(C st V:Raw)(Z:Int)(F I:List (List Int))(L H W vq Y:Int):Nat:=lkC jL pPA h o t G P D S O U C st V Z F I L H W vq Y
noncomputable def lkR(h o t:List Int)(G:List Bd)(P D S:Int)(O U:List Nz)(C st V:Raw)(Z:Int)(F I:List (List Int))(L H W vq Y:Int):List Raw⊕Nat:=bif Nat.beq (lkE h o t G P D S O U C st V Z F I L H W vq Y) 0 then skA Z F I L (.ofNat G.length) Y (wgA h o t H W vq) G.length 0 []else .inr (lkE h o t G P D S O U C st V Z F I L H W vq Y)
noncomputable def isR:List Raw⊕Nat→Bool
 | .inl _=>true
 | .inr _=>false
noncomputable def lR:List Raw⊕Nat→List Rt
 | .inl l=>l.map toT
 | .inr _=>[]
noncomputable def eR:List Raw⊕Nat→Nat
 | .inl _=>0
 | .inr e=>e
noncomputable abbrev tK(h o t:List Int)(G:List Bd)(P D S:Int)(O U:List Nz)(C st V:Raw)(Z:Int)(F I:List (List Int))(L H W vq Y:Int):Bool:=isR (lkR h o t G P D S O U C st V Z F I L H W vq Y)
noncomputable abbrev lkL(h o t:List Int)(G:List Bd)(P D S:Int)(O U:List Nz)(C st V:Raw)(Z:Int)(F I:List (List Int))(L H W vq Y:Int):List Rt:=lR (lkR h o t G P D S O U C st V Z F I L H W vq Y)
noncomputable abbrev lkP(h o t:List Int)(G:List Bd)(P D S:Int)(O U:List Nz)(C st V:Raw)(Z:Int)(F I:List (List Int))(L H W vq Y:Int):Nat:=eR (lkR h o t G P D S O U C st V Z F I L H W vq Y)-1
noncomputable def oLk(okL:LF Bool)(lL:LF (List Rt))(lP:LF Nat):List T→DT (T×Bool)
 | [.ag [.ls .a (.int .i64) h,.ls .a (.int .i64) o,.ls .a (.int .i64) t,.ls .a (.prod (.int .u8) (.prod (.int .i64) (.int .i64))) G,.v (.int .i64 P),.v (.int .i64 D),.v (.int .i64 S),.ls .a (.prod (.int .i64) zP) O,.ls .a (.prod (.int .i64) zP) U,.v (.bool ab),.ls .a .lim C,.ls .a .lim am,.v (.bool sb),.ls .a .lim sl,.ls .a .lim sm,.v (.bool rb),.ls .a .lim rl,.ls .a .lim rm,.v (.int .i64 Z),.ls .a (.list (.int .i64)) F,.ls .a (.list (.int .i64)) I],.v (.int .i64 L),.v (.int .i64 H),.v (.int .i64 W),.v (.int .i64 vq),.v (.int .i64 Y)]=>grd (Nat.blt F.length 9223372036854775807) (.ite (okL h o t G P D S O U ⟨ab,C,am⟩ ⟨sb,sl,sm⟩ ⟨rb,rl,rm⟩ Z F I L H W vq Y) (.ret (.tu [.ls .a zP (lL h o t G P D S O U ⟨ab,C,am⟩ ⟨sb,sl,sm⟩ ⟨rb,rl,rm⟩ Z F I L H W vq Y),.v (.int .i64 (.ofNat 0))],true)) (.ret (.tu [.ls .a zP [],.v (.int .i64 (.ofNat (lP h o t G P D S O U ⟨ab,C,am⟩ ⟨sb,sl,sm⟩ ⟨rb,rl,rm⟩ Z F I L H W vq Y+1)))],true)))
 | _=> .no
theorem qCu:∀l:List Raw,flR l=yA .a zP (l.map toT)
 | []=>rfl
 | x::l=>by
  show([.v (.bool x.neg),.ls .a .lim x.ln,.ls .a .lim x.ld]:List T)++flR l=qF .a zP (toT x)++yA .a zP (l.map toT);rw[qCu l];rfl
theorem qBr(k:Nat):∀l:List Raw,(flR l).all (clean (k+1))=true
 | []=>rfl
 | x::l=>by
  show(([.v (.bool x.neg),.ls .a .lim x.ln,.ls .a .lim x.ld]:List T)++flR l).all (clean (k+1))=true;rw[List.all_append,qBr k l];rfl
theorem zWo{okD:List Rt→List Rt→Bool}{dR:List Rt→List Rt→Raw}{dP:List Rt→List Rt→Nat}{okV:Raw→Raw→Bool}{vR:Raw→Raw→Raw}{vP:Raw→Raw→Nat}{fr:Int→Raw}{Z:Int}{F I:List (List Int)}{L nn Y:Int}{ws:List Nz}:∀(k b:Nat)(acc:List Raw){e:Nat},skL fr okD dR dP okV vR vP Z F I L nn Y ws k b acc= .inr e→1≤e
 | 0,_,_,_,h=>by cases h
 | k+1,b,acc,e,h=>by
  simp only[skL]at h;cases H:sk1 fr okD dR dP okV vR vP Z F I L nn Y ws b with
  | inl x=>rw[H]at h;exact zWo k (b+1) _ h
  | inr y=>
   rw[H]at h;cases h;unfold sk1 at H;cases h1:okD (scW ws) (scV fr F I L nn Y b ws)<;>rw[h1]at H
   ·cases H;omega
   ·cases h2:okV (dR (scW ws) (scV fr F I L nn Y b ws)) (fr Z)<;>rw[h2]at H<;>cases H;omega
theorem qYh:vL Tryz.prog (odT [(22,odR [tbT] (kL jL pPA)),(28,fun _=> .no)]):=zX (zX yO fun az tv nw h k=>by cases h) (jY qUj)
theorem qMx{Z:Int}(h:1≤Z):zbA (frA Z)=false:=by
 have e:val (Raw.of (Z:Rat)).ln=Z.natAbs:=by
  show val (kG (Z:Rat).num.natAbs)=_;rw[vD,Rat.num_intCast]
 unfold zbA;rw[e];exact qQu (by omega)
theorem jCr{B:Bm}{r:Rd}{l:List Raw}{t:T}{v:Value}(hv:Rep B r (.tu [.sl (flR l) l.length,t]) v):Rep B r (.tu [.ls .a zP (l.map toT),t]) v:=by
 obtain⟨vs,rfl,hvs⟩:=hv.tuI;match vs,hvs with
 | [a,b],⟨k1,k2,_⟩=>exact Rep.mkTu (vs:=[a,b]) ⟨zNf (A:=zP) (by kernel_rfl) (by rw[←qCu,List.length_map];exact k1),k2,trivial⟩
theorem zMd(h o t:List Int)(G:List Bd)(P D S:Int)(O U:List Nz)(C st V:Raw)(Z:Int)(F I:List (List Int))(L H W vq Y:Int)(k m:Nat)(hr:F.length<9223372036854775807)(hT:Tab h o t G S Z F I)(hc:Nat.beq (lkE h o t G P D S O U C st V Z F I L H W vq Y) 0=true)(hm:(wgA h o t H W vq).length=m)(hE:((qW Tryz.prog (evD Tryz.prog (odT [(22,odR [tbT] (kL jL pPA)),(28,odR [.list (.list nT),.list nT] (xW m wgA)),(12,kcT (kR frA) true),(30,odR [.list zP,.list zP] (yM qQ jW yE)),(11,kcT (jR zbA jU dvR dvP) true)]) (loT []) 60) 10 [.ag (tbC h o t G P D S O U C st V Z F I),vi L,vi H,vi W,vi vq,vi Y] []).bind jB).run=scA jL pPA wgA frA qQ jW yE zbA jU dvR dvP m G.length h o t G P D S O U C st V Z F I L H W vq Y):KnP Tryz.prog k 10 [.ag (tbC h o t G P D S O U C st V Z F I),vi L,vi H,vi W,vi vq,vi Y] (bif tK h o t G P D S O U C st V Z F I L H W vq Y then .tu [.ls .a zP (lkL h o t G P D S O U C st V Z F I L H W vq Y),vn 0]else .tu [.ls .a zP [],vn (lkP h o t G P D S O U C st V Z F I L H W vq Y+1)]) true:=by
 obtain⟨_,k1,k2,p1,p2,sA⟩:=zVk jL pPA h o t G P D S O U C st V Z F I L H W vq Y hc;have q:=hE.trans (sA wgA frA qQ jW yE zbA jU dvR dvP m hr);have hg:=hT.mod.grid;have e1:exL (wgA h o t H W vq) m 0=wgA h o t H W vq:=by rw[zSi _ m 0 (by omega)];rfl
 have hw:inV (h.length*o.length*t.length) (wgA h o t H W vq):=by
  unfold wgA wgR;rw[vY hg];exact jCy ofA muA frA hg
 rw[e1,qGt (h:=h) (o:=o) (t:=t) (S:=S) frA qQ jW yE zbA jU dvR dvP hT k1 k2 p1 p2 hw (qMx hT.sc1) G.length 0 [] (by omega),vY hg,hm,vN]at q
 simp only[gd,Bool.and_self,cond_true]at q;have eR':lkR h o t G P D S O U C st V Z F I L H W vq Y=skA Z F I L (.ofNat G.length) Y (wgA h o t H W vq) G.length 0 []:=by unfold lkR;rw[hc];rfl
 cases hs:skA Z F I L (.ofNat G.length) Y (wgA h o t H W vq) G.length 0 []with
 | inl l=>
  rw[show skL frA qQ jW yE jU dvR dvP Z F I L (.ofNat G.length) Y (wgA h o t H W vq) G.length 0 []= .inl l from hs]at q;have e2:tK h o t G P D S O U C st V Z F I L H W vq Y=true:=by unfold tK;rw[eR',hs];rfl
  have e3:lkL h o t G P D S O U C st V Z F I L H W vq Y=l.map toT:=by unfold lkL;rw[eR',hs];rfl
  rw[e2,e3];have hcl:(([.ag (tbC h o t G P D S O U C st V Z F I),vi L,vi H,vi W,vi vq,vi Y]:List T).all (clean 12)&&clean 12 (.tu [.sl (flR l) l.length,vn 0]))=true:=by
   show(true&&((flR l).all (clean 10)&&true))=true;rw[qBr 9];rfl
  exact(kQ (cz:=[.ag (tbC h o t G P D S O U C st V Z F I),vi L,vi H,vi W,vi vq,vi Y]) xA (qFr m) qZ q hcl k).res fun B r v hv=>jCr hv
 | inr e=>
  rw[show skL frA qQ jW yE jU dvR dvP Z F I L (.ofNat G.length) Y (wgA h o t H W vq) G.length 0 []= .inr e from hs]at q;have h1:=zWo G.length 0 [] hs;have e2:tK h o t G P D S O U C st V Z F I L H W vq Y=false:=by unfold tK;rw[eR',hs];rfl
  have e3:lkP h o t G P D S O U C st V Z F I L H W vq Y+1=e:=by unfold lkP;rw[eR',hs];show e-1+1=e;omega
  rw[e2,e3];exact(kQ (cz:=[.ag (tbC h o t G P D S O U C st V Z F I),vi L,vi H,vi W,vi vq,vi Y]) xA (qFr m) qZ q rfl k).res fun B r v hv=>zTv hv
theorem zNr{of_:Int→Int→Raw}{mu:Raw→Raw→Raw}{c:List Int}{x:Int}:∀l:List Nz,(wF of_ mu c x l).length=bif zAh c x then l.length else 2*l.length
 | []=>by cases zAh c x<;>rfl
 | y::l=>by
  show(w1 of_ mu c x y++wF of_ mu c x l).length=_;rw[List.length_append,zNr l];unfold w1;cases zAh c x with
  | true=>simp only[cond_true,List.length_cons,List.length_nil];omega
  | false=>simp only[cond_false,List.length_cons,List.length_nil];omega
theorem jAx{h o t:List Int}{x0 x1 x2:Int}(hg:icE [h,o,t]=0):(wgA h o t x0 x1 x2).length=1∨(wgA h o t x0 x1 x2).length=2∨(wgA h o t x0 x1 x2).length=4∨(wgA h o t x0 x1 x2).length=8:=by
 have e:wgA h o t x0 x1 x2=wgF ofA muA frA h o t x0 x1 x2:=by unfold wgA wgR;rw[vY hg];rfl
 rw[e];unfold wgF;rw[zNr,zNr,zNr];have e1:[((0:Int),toT (frA 1))].length=1:=rfl;rw[e1];cases zAh h x0<;>cases zAh o x1<;>cases zAh t x2<;>simp
theorem kLk:∀az tv nw,(oLk tK lkL lkP az).run=some (tv,nw)→∀k,KnP Tryz.prog k 10 az tv nw:=by
 intro az tv nw hh k;unfold oLk at hh;split at hh
 ·rename_i h o t G P D S O U ab C am sb sl sm rb rl rm Z F I L H W vq Y;obtain⟨h1,h2⟩:=zV hh;have hr:=qY h1;have main:KnP Tryz.prog k 10 [.ag (tbC h o t G P D S O U ⟨ab,C,am⟩ ⟨sb,sl,sm⟩ ⟨rb,rl,rm⟩ Z F I),vi L,vi H,vi W,vi vq,vi Y] (bif tK h o t G P D S O U ⟨ab,C,am⟩ ⟨sb,sl,sm⟩ ⟨rb,rl,rm⟩ Z F I L H W vq Y then .tu [.ls .a zP (lkL h o t G P D S O U ⟨ab,C,am⟩ ⟨sb,sl,sm⟩ ⟨rb,rl,rm⟩ Z F I L H W vq Y),vn 0]else .tu [.ls .a zP [],vn (lkP h o t G P D S O U ⟨ab,C,am⟩ ⟨sb,sl,sm⟩ ⟨rb,rl,rm⟩ Z F I L H W vq Y+1)]) true:=by
   cases hc:Nat.beq (lkE h o t G P D S O U ⟨ab,C,am⟩ ⟨sb,sl,sm⟩ ⟨rb,rl,rm⟩ Z F I L H W vq Y) 0 with
   | false=>
    have q:=qXm jL pPA h o t G P D S O U ⟨ab,C,am⟩ ⟨sb,sl,sm⟩ ⟨rb,rl,rm⟩ Z F I L H W vq Y hr hc;have e:lkR h o t G P D S O U ⟨ab,C,am⟩ ⟨sb,sl,sm⟩ ⟨rb,rl,rm⟩ Z F I L H W vq Y= .inr (lkE h o t G P D S O U ⟨ab,C,am⟩ ⟨sb,sl,sm⟩ ⟨rb,rl,rm⟩ Z F I L H W vq Y):=by unfold lkR;rw[hc];rfl
    have e2:tK h o t G P D S O U ⟨ab,C,am⟩ ⟨sb,sl,sm⟩ ⟨rb,rl,rm⟩ Z F I L H W vq Y=false:=by unfold tK;rw[e];rfl
    have h0:lkE h o t G P D S O U ⟨ab,C,am⟩ ⟨sb,sl,sm⟩ ⟨rb,rl,rm⟩ Z F I L H W vq Y≠0:=fun h=>by rw[h]at hc;cases hc
    have e3:lkP h o t G P D S O U ⟨ab,C,am⟩ ⟨sb,sl,sm⟩ ⟨rb,rl,rm⟩ Z F I L H W vq Y+1=lkE h o t G P D S O U ⟨ab,C,am⟩ ⟨sb,sl,sm⟩ ⟨rb,rl,rm⟩ Z F I L H W vq Y:=by unfold lkP;rw[e];exact Nat.sub_add_cancel (Nat.one_le_iff_ne_zero.2 h0)
    rw[e2,e3];exact(kQ (cz:=[.ag (tbC h o t G P D S O U ⟨ab,C,am⟩ ⟨sb,sl,sm⟩ ⟨rb,rl,rm⟩ Z F I),vi L,vi H,vi W,vi vq,vi Y]) xA qYh qZ q rfl k).res fun B r v hv=>zTv hv
   | true=>
    have ho:=(zVk jL pPA h o t G P D S O U ⟨ab,C,am⟩ ⟨sb,sl,sm⟩ ⟨rb,rl,rm⟩ Z F I L H W vq Y hc).1;have hT:Tab h o t G S Z F I:=zDw kyF h o t G P D S O U ⟨ab,C,am⟩ ⟨sb,sl,sm⟩ ⟨rb,rl,rm⟩ Z F I (qP.1 ho);have a1:=hT.mod.av1;have a6:=hT.mod.av6;rcases jAx (x0:=H) (x1:=W) (x2:=vq) hT.mod.grid with hm | hm | hm | hm
    ·exact zMd h o t G P D S O U ⟨ab,C,am⟩ ⟨sb,sl,sm⟩ ⟨rb,rl,rm⟩ Z F I L H W vq Y k 1 hr hT hc hm (qSq h o t G P D S O U ⟨ab,C,am⟩ ⟨sb,sl,sm⟩ ⟨rb,rl,rm⟩ Z F I L H W vq Y a1 a6)
    ·exact zMd h o t G P D S O U ⟨ab,C,am⟩ ⟨sb,sl,sm⟩ ⟨rb,rl,rm⟩ Z F I L H W vq Y k 2 hr hT hc hm (qSr h o t G P D S O U ⟨ab,C,am⟩ ⟨sb,sl,sm⟩ ⟨rb,rl,rm⟩ Z F I L H W vq Y a1 a6)
    ·exact zMd h o t G P D S O U ⟨ab,C,am⟩ ⟨sb,sl,sm⟩ ⟨rb,rl,rm⟩ Z F I L H W vq Y k 4 hr hT hc hm (qSs h o t G P D S O U ⟨ab,C,am⟩ ⟨sb,sl,sm⟩ ⟨rb,rl,rm⟩ Z F I L H W vq Y a1 a6)
    ·exact zMd h o t G P D S O U ⟨ab,C,am⟩ ⟨sb,sl,sm⟩ ⟨rb,rl,rm⟩ Z F I L H W vq Y k 8 hr hT hc hm (qSt h o t G P D S O U ⟨ab,C,am⟩ ⟨sb,sl,sm⟩ ⟨rb,rl,rm⟩ Z F I L H W vq Y a1 a6)
  simp only[DT.run]at h2;cases e:tK h o t G P D S O U ⟨ab,C,am⟩ ⟨sb,sl,sm⟩ ⟨rb,rl,rm⟩ Z F I L H W vq Y<;>rw[e]at h2 main<;>cases h2<;>exact main
 ·cases hh
theorem zWn{okD:List Rt→List Rt→Bool}{dR:List Rt→List Rt→Raw}{dP:List Rt→List Rt→Nat}{okV:Raw→Raw→Bool}{vR:Raw→Raw→Raw}{vP:Raw→Raw→Nat}{fr:Int→Raw}{Z:Int}{F I:List (List Int)}{L nn Y:Int}{ws:List Nz}:∀(k b:Nat)(acc:List Raw){l:List Raw},skL fr okD dR dP okV vR vP Z F I L nn Y ws k b acc= .inl l→l.length=acc.length+k
 | 0,_,_,_,h=>by cases h;rw[List.length_reverse];rfl
 | k+1,b,acc,l,h=>by
  simp only[skL]at h;cases H:sk1 fr okD dR dP okV vR vP Z F I L nn Y ws b with
  | inl x=>rw[H]at h;have:=zWn k (b+1) _ h;rw[List.length_cons]at this;omega
  | inr y=>rw[H]at h;cases h
theorem zVj(h o t:List Int)(G:List Bd)(P D S:Int)(O U:List Nz)(C st V:Raw)(Z:Int)(F I:List (List Int))(L H W vq Y:Int)(hk:tK h o t G P D S O U C st V Z F I L H W vq Y=true):(lkL h o t G P D S O U C st V Z F I L H W vq Y).length=G.length:=by
 unfold tK at hk;unfold lkL;cases e:lkR h o t G P D S O U C st V Z F I L H W vq Y with
 | inr e'=>rw[e]at hk;cases hk
 | inl l=>
  show(l.map toT).length=_;rw[List.length_map];unfold lkR at e;cases hc:Nat.beq (lkE h o t G P D S O U C st V Z F I L H W vq Y) 0 with
  | false=>rw[hc]at e;cases e
  | true=>rw[hc]at e;have:=zWn G.length 0 [] e;rw[this];exact Nat.zero_add _
noncomputable def hdF(f:Nat→Rt)(w0:Rt):Nat→Rt
 | 0=>w0
 | j+1=>f (j+1)
noncomputable def tlF(f:Nat→Rt)(w0:Rt):Nat→List Rt
 | 0=>[]
 | j+1=>hdF f w0 j::tlF f w0 j
noncomputable abbrev hT(f:Nat→Rt)(w0:Rt)(m:Nat):List Rt:=hdF f w0 m::tlF f w0 m
section
variable (okL:LF Bool)(lL:LF (List Rt))(lP:LF Nat)
end
section
variable (okL:LF Bool)(lL:LF (List Rt))(lP:LF Nat)
end
theorem jAn{h o t:List Int}{G:List Bd}{P D S:Int}{O U:List Nz}{C st V:Raw}{Z:Int}{F I:List (List Int)}{L H W vq Y:Int}(hk:tK h o t G P D S O U C st V Z F I L H W vq Y=true):Tab h o t G S Z F I:=by
 unfold tK lkR at hk;cases hc:Nat.beq (lkE h o t G P D S O U C st V Z F I L H W vq Y) 0 with
 | false=>rw[hc]at hk;cases hk
 | true=>exact zDw kyF h o t G P D S O U C st V Z F I (qP.1 (zVk jL pPA h o t G P D S O U C st V Z F I L H W vq Y hc).1)
theorem qGk:r0.rat=0:=zZn
theorem qGj:r0.chk=0:=qHr
theorem qZo{l:List Rt}{i:Nat}(hi:i<l.length):rI l i=l[i]:=by rw[rI,jA];simp[hi]
theorem zOm{x y:Raw}(hx:x.chk=0)(hy:y.chk=0):vU x y=0↔x.rat=y.rat:=
 ⟨fun h=>by
  have a:=(qBt hx hy).1 (show vU x y≤0 by omega)
  have b:¬x.rat<y.rat:=fun k=>by have:=(qBu hx hy).2 k;omega
  grind,fun h=>by
  have a:vU x y≤0:=(qBt hx hy).2 (by rw[h];exact Rat.le_refl)
  have b:¬vU x y<0:=fun k=>by have:=(qBu hx hy).1 k;rw[h]at this;exact Rat.lt_irrefl this
  omega⟩
section
variable {h o t:List Int}{G:List Bd}{P D S:Int}{O U:List Nz}{C st V:Raw}{Z:Int}{F I:List (List Int)}
end
def BQ(k:Nat)(q:Rat):Prop:=q.num.natAbs<2^k∧q.den<2^k
theorem qEd{n:Int}{d k:Nat}(hd:d≠0)(hn:n.natAbs<2^k)(hd2:d<2^k):BQ k (mkRat n d):=by
 constructor
 ·rw[Rat.num_mkRat,if_neg hd];exact Nat.lt_of_le_of_lt (Int.natAbs_ediv_le_natAbs _ _) hn
 ·rw[Rat.den_mkRat,if_neg hd];exact Nat.lt_of_le_of_lt (Nat.div_le_self _ _) hd2
theorem jCl(m:Nat):4294967296^m=2^(32*m):=by rw[Nat.pow_mul]
theorem jCm{k m:Nat}(h:k≤32*m):2^k≤4294967296^m:=by rw[jCl];exact Nat.pow_le_pow_right (by decide) h
theorem BQ.fit{k:Nat}{q:Rat}(h:BQ k q)(hk:k≤4096):zBv q=0:=by
 have e:2^k≤jZ:=jCm (m:=128) (by omega)
 unfold zBv;rw[if_pos];refine⟨Nat.lt_of_lt_of_le h.1 e,?_⟩;have:pF q.den≤q.den:=by unfold pF;split<;>omega
 exact Nat.lt_of_le_of_lt this (Nat.lt_of_lt_of_le h.2 e)
theorem qGv{c:List Int}{x:Int}:∀(k i:Nat){j:Nat}{e:Bool},fol (gSh c x) (fun _=>none) k i ()=some (j,e)→i≤j∧(e=true→x=nI c j)∧(e=false→x<nI c j∧∀m,i≤m→m<j→nI c m<x)
 | 0,_,_,_,hh=>by cases hh
 | k+1,i,j,e,hh=>by
  simp only[fol,gSh]at hh;cases e1:ieq x (nI c i)with
  | true=>rw[e1]at hh;cases hh;exact⟨Nat.le_refl _,fun _=>qP.1 e1,fun q=>by cases q⟩
  | false=>
   cases e2:ilt x (nI c i)with
   | true=>rw[e1,e2]at hh;cases hh;exact⟨Nat.le_refl _,fun q=>(by cases q),fun _=>⟨xM.1 e2,fun m h1 h2=>by omega⟩⟩
   | false=>
    rw[e1,e2]at hh;obtain⟨q1,q2,q3⟩:=qGv k (i+1) hh;refine⟨by omega,q2,fun q=>⟨(q3 q).1,fun m h1 h2=>?_⟩⟩
    rcases Nat.eq_or_lt_of_le h1 with rfl | hlt
    ·have n1:x≠nI c i:=fun k=>by rw[vY k]at e1;cases e1
     have n2:¬x<nI c i:=fun k=>by rw[wZ k]at e2;cases e2
     omega
    ·exact(q3 q).2 m hlt h2
theorem qYj{n m:Int}(hn:0<n)(hm:0<m):ofA n m=Raw.of (mkRat n m.toNat):=by
 obtain⟨a,rfl⟩:=Int.eq_ofNat_of_zero_le (Int.le_of_lt hn);obtain⟨b,rfl⟩:=Int.eq_ofNat_of_zero_le (Int.le_of_lt hm);have e1:decide ((a:Int)<0)=false:=decide_eq_false (by omega)
 have e2:decide ((b:Int)<0)=false:=decide_eq_false (by omega)
 unfold ofA;rw[e1,e2];rfl
theorem qKt{d:Nat}(hd:d≠0):mkRat (d:Int) d=1:=by
 rw[Rat.mkRat_eq_div];have:((d:Int):Rat)≠0:=by
  intro h;have:=Rat.intCast_eq_zero_iff.1 h;omega
 rw[show((d:Nat):Rat)=((d:Int):Rat)from rfl,Rat.div_def,Rat.mul_inv_cancel _ this]
theorem qGx{Z:Int}{F I:List (List Int)}{L nn Y:Int}{ws:List Nz}:∀(k b:Nat)(acc:List Raw){l:List Raw},skA Z F I L nn Y ws k b acc= .inl l→∃r,l=acc.reverse++r
 | 0,_,acc,l,hh=>by cases hh;exact⟨[],(List.append_nil _).symm⟩
 | k+1,b,acc,l,hh=>by
  simp only[skA,skL]at hh;cases H:sk1 frA qQ jW yE jU dvR dvP Z F I L nn Y ws b with
  | inr e=>rw[H]at hh;cases hh
  | inl y=>
   rw[H]at hh;obtain⟨r,hr⟩:=qGx k (b+1) (y::acc) hh;exact⟨y::r,by rw[hr];simp⟩
theorem qPk{Z:Int}{F I:List (List Int)}{L nn Y:Int}{ws:List Nz}:∀(k b:Nat)(acc:List Raw){l:List Raw},skA Z F I L nn Y ws k b acc= .inl l→∀j,b≤j→j<b+k→∃x,sk1 frA qQ jW yE jU dvR dvP Z F I L nn Y ws j= .inl x∧(l.map toT)[acc.length+(j-b)]?=some (toT x)
 | 0,b,acc,l,hh,j,h1,h2=>by omega
 | k+1,b,acc,l,hh,j,h1,h2=>by
  simp only[skA,skL]at hh;cases H:sk1 frA qQ jW yE jU dvR dvP Z F I L nn Y ws b with
  | inr e=>rw[H]at hh;cases hh
  | inl y=>
   rw[H]at hh;rcases Nat.eq_or_lt_of_le h1 with rfl | hlt
   ·refine⟨y,H,?_⟩;obtain⟨r,hr⟩:=qGx k (b+1) (y::acc) hh;rw[hr];simp
   ·obtain⟨x,x1,x2⟩:=qPk k (b+1) (y::acc) hh j hlt (by omega)
    refine⟨x,x1,?_⟩;rw[List.length_cons]at x2;rwa[show acc.length+(j-b)=acc.length+1+(j-(b+1))by omega]
noncomputable def zYk:List T→DT (T×Bool)
 | [.ls .a (.int .i64) l]=>grd (Nat.blt 0 l.length&&Nat.blt l.length 1000) (.ret (.ls .a (.int .i64) l,true))
 | _=> .no
theorem kClo:∀az tv nw,(zYk az).run=some (tv,nw)→∀k,KnP Tryz.prog k 23 az tv nw:=by
 intro az tv nw h k;unfold zYk at h;split at h
 ·rename_i l;obtain⟨h1,h2⟩:=zV h;cases h2;simp only[Bool.and_eq_true]at h1;have g1:=qY h1.1;have g2:=qY h1.2;intro B w X qC R hI _ hX hR hK;match qC,hR with
  | [v],⟨hv,_⟩=>
   cases hv with
   | ls hv=>
    obtain⟨ad,c,ev,hD⟩:=hv;cases ev;rcases hD.2.2 with rfl | ⟨b,o,rfl,hb,H⟩
    ·exact absurd g1 (Nat.lt_irrefl _)
    ·show Calls Tryz.prog 23 #[.slice (some ⟨b,o,none⟩) l.length c] w R;refine(Go.Proofs.Any.slices_Clone_int qIr b o l.length c l w (Nat.le_refl _) (by omega) fun j hj=>?_).mono ?_
     ·obtain⟨vs,h3,h4,h5⟩:=H j _ (List.getElem?_eq_getElem hj);obtain rfl:vs=[.int .i64 l[j]]:=h4;have h6:=h5 0 _ rfl;rw[show o+(j*Ty.size nT+0)=o+j by simp[Ty.size]]at h6
      rw[yQ h6];simp[List.getD,hj]
     ·rintro e w' ⟨v',rfl,⟨e1,e2⟩,hn,hb⟩;rcases e2 with⟨e3,_⟩ | ⟨g,cap,cur,rfl,hg,hc,hnc,hcm,hsz,ht⟩
      ·exact absurd e3 hn
      ·refine hK _ w' (Upd.of_below hb) (.ls ⟨some ⟨g,0,none⟩,cap,rfl,hnc,hcm,.inr ⟨g,0,rfl,Bm.In.any,fun i x hx=>⟨[.int .i64 x],rfl,rfl,fun j v hv=>?_⟩⟩⟩);match j,hv with
       | 0,hv=>
        cases hv;obtain⟨hi,rfl⟩:=List.getElem?_eq_some_iff.1 hx;have H:cur[i]?=some (.int .i64 l[i]):=by
         have h7:(cur.toList.take (l.length*1))[i]?=some (Value.int .i64 l[i]):=by rw[ht];simp[hi]
         rw[List.getElem?_take_of_lt (by omega)]at h7
         simpa using h7
        refine rD ?_ (fun h=>?_) ?_
        ·show World.cell? w' ⟨g,0+(i*Ty.size nT+0),none⟩=_;rw[show 0+(i*Ty.size nT+0)=i by simp[Ty.size]]
         simp[World.cell?,hc,H]
        ·exact absurd h (Nat.not_lt.2 hg)
        ·simp[World.frozen?,hc]
 ·cases h
noncomputable def rwK(I:List (List Int))(L sq:Int):Nat:=(nI (gI I (kS L)) sq.toNat).toNat
noncomputable def rwR(F I:List (List Int))(L sq:Int):List Int:=gI F (rwK I L sq)
noncomputable def rwB(S:Int)(I:List (List Int))(L sq:Int):Bool:=!ilt L (.ofNat 1)&&(!ilt S L&&(!ilt sq (.ofNat 0)&&ilt sq (.ofNat (gI I (kS L)).length)))
theorem eRw(okP:TF Bool)(pP:TF Nat)(h o t:List Int)(G:List Bd)(P D S:Int)(O U:List Nz)(C st V:Raw)(Z:Int)(F I:List (List Int))(L sq:Int):((qW Tryz.prog (evD Tryz.prog (odT [(22,odR [tbT] (kL okP pP)),(23,odR [.list nT] zYk)]) (loT []) 60) 7 [.ag (tbC h o t G P D S O U C st V Z F I),vi L,vi sq] []).bind jB).run=gd (Nat.blt F.length 9223372036854775807) (bif okP h o t G P D S O U C st V Z F I then(bif ilt L (.ofNat 1)then er 1 else(bif ilt S L then er 1 else(bif ilt sq (.ofNat 0)then er 8 else gd (inW (Int.sub L 1)) (gd (nng (Int.sub L 1)) (gd (Nat.blt (kS L) I.length) (bif !ilt sq (.ofNat (gI I (kS L)).length)then er 8 else gd (inW (Int.sub L 1)) (gd (nng (Int.sub L 1)) (gd (Nat.blt (kS L) I.length) (gd (nng sq) (gd (Nat.blt sq.toNat (gI I (kS L)).length) (gd (nng (nI (gI I (kS L)) sq.toNat)) (gd (Nat.blt (rwK I L sq) F.length) (gd (Nat.blt 0 (rwR F I L sq).length&&Nat.blt (rwR F I L sq).length 1000) (some (.tu [.ls .a nT (rwR F I L sq),vn 0],true)))))))))))))))else er (pP h o t G P D S O U C st V Z F I+1)):=by kernel_rfl
theorem zTo{S:Int}{I:List (List Int)}{L sq:Int}(h:rwB S I L sq=true):1≤L∧L≤S∧0≤sq∧sq<((gI I (kS L)).length:Int):=by
 simp only[rwB,Bool.and_eq_true,Bool.not_eq_true']at h;refine⟨?_,?_,?_,xM.1 h.2.2.2⟩
 ·rcases Int.lt_or_le L 1 with g | g
  ·rw[wZ (show L<(.ofNat 1:Int)from g)]at h;cases h.1
  ·exact g
 ·rcases Int.lt_or_le S L with g | g
  ·rw[wZ g]at h;cases h.2.1
  ·exact g
 ·rcases Int.lt_or_le sq 0 with g | g
  ·rw[wZ (show sq<(.ofNat 0:Int)from g)]at h;cases h.2.2.1
  ·exact g
theorem qGs{h o t:List Int}{G:List Bd}{S Z:Int}{F I:List (List Int)}{L sq:Int}(hT:Tab h o t G S Z F I)(hb:rwB S I L sq=true):rwK I L sq<F.length∧(rwR F I L sq).length=G.length∧∀i,i<G.length→0≤nI (rwR F I L sq) i∧nI (rwR F I L sq) i≤1099511627776:=by
 obtain⟨k1,k2,s1,s2⟩:=zTo hb;have hix:=hT.ixl;obtain⟨j,hj⟩:∃j:Nat,L=((j+1:Nat):Int):=⟨L.toNat-1,by omega⟩
 have hj2:j<I.length:=by omega
 have ek:Int.sub L 1= .ofNat j:=by rw[hj];show((j+1:Nat):Int)-1=(j:Int);omega
 have eS:kS L=j:=by unfold kS;rw[ek];rfl
 rw[eS]at s2;obtain⟨r1,r2⟩:=hT.row j hj2;obtain⟨n1,n2⟩:=r2 sq.toNat (by omega)
 have hK:rwK I L sq<F.length:=by unfold rwK;rw[eS];omega
 obtain⟨g1,g2⟩:=hT.num _ hK;exact⟨hK,g1,fun i hi=>g2 i (by rw[g1];exact hi)⟩
theorem jAa(h o t:List Int)(G:List Bd)(P D S:Int)(O U:List Nz)(C st V:Raw)(Z:Int)(F I:List (List Int))(L sq:Int)(hr:F.length<9223372036854775807)(ho:jL h o t G P D S O U C st V Z F I=true)(hb:rwB S I L sq=true):((qW Tryz.prog (evD Tryz.prog (odT [(22,odR [tbT] (kL jL pPA)),(23,odR [.list nT] zYk)]) (loT []) 60) 7 [.ag (tbC h o t G P D S O U C st V Z F I),vi L,vi sq] []).bind jB).run=some (.tu [.ls .a nT (rwR F I L sq),vn 0],true):=by
 have hT:Tab h o t G S Z F I:=zDw kyF h o t G P D S O U C st V Z F I (qP.1 ho);obtain⟨q1,q2,q3⟩:=qGs hT hb;obtain⟨k1,k2,s1,s2⟩:=zTo hb;have hix:=hT.ixl;have hst:=zCa hT.mod;obtain⟨j,hj⟩:∃j:Nat,L=((j+1:Nat):Int):=⟨L.toNat-1,by omega⟩
 obtain⟨p,hp⟩:∃p:Nat,sq=(p:Int):=Int.eq_ofNat_of_zero_le s1;have hj2:j<I.length:=by omega
 have ek:Int.sub L 1= .ofNat j:=by rw[hj];show((j+1:Nat):Int)-1=(j:Int);omega
 have eS:kS L=j:=by unfold kS;rw[ek];rfl
 rw[eS]at s2;obtain⟨r1,r2⟩:=hT.row j hj2;have hl:p<(gI I j).length:=by rw[hp]at s2;exact Int.ofNat_lt.1 s2
 obtain⟨n1,n2⟩:=r2 p hl;obtain⟨r,hr'⟩:∃r:Nat,nI (gI I j) p=(r:Int):=Int.eq_ofNat_of_zero_le n1;have a1:=hT.mod.av1;have a6:=hT.mod.av6;have e1:ilt L (.ofNat 1)=false:=xU (show(1:Int)≤L from k1);have e2:ilt S L=false:=xU k2;have e3:ilt sq (.ofNat 0)=false:=xU (show(0:Int)≤sq from s1);have e4:ilt sq (.ofNat (gI I (kS L)).length)=true:=wZ (by rw[eS];exact s2)
 have e5:nng sq=true:=by rw[hp];rfl
 have e6:nng (nI (gI I (kS L)) sq.toNat)=true:=by rw[eS,hp];show nng (nI (gI I j) p)=true;rw[hr'];rfl
 have e7:sq.toNat=p:=by rw[hp];rfl
 rw[eRw,zO hr,ho,e1,e2,e3,ek,eS,qK (show j<9223372036854775808 by omega)]
 rw[eS]at e4 e6;rw[e4,e5,e6,zO q1,zO hj2,q2,zO (show 0<G.length by omega),zO (show G.length<1000 by omega),e7,zO hl]
 rfl
theorem qFq:vL Tryz.prog (odT [(22,odR [tbT] (kL jL pPA)),(23,odR [.list nT] zYk)]):=zX (zX yO (jY kClo)) (jY qUj)
noncomputable def sB(y n i:Nat):Int:= .ofNat (y+i*n)
theorem qKm{h o t:List Int}{G:List Bd}{P D S:Int}{O U:List Nz}{C st V:Raw}{Z:Int}{F I:List (List Int)}{L H W vq Y:Int}(hk:tK h o t G P D S O U C st V Z F I L H W vq Y=true):jL h o t G P D S O U C st V Z F I=true∧1≤L∧L≤S∧0≤Y∧Y<(G.length:Int):=by
 have hc:Nat.beq (lkE h o t G P D S O U C st V Z F I L H W vq Y) 0=true:=by
  cases hc:Nat.beq (lkE h o t G P D S O U C st V Z F I L H W vq Y) 0 with
  | true=>rfl
  | false=>
   have e:lkR h o t G P D S O U C st V Z F I L H W vq Y= .inr (lkE h o t G P D S O U C st V Z F I L H W vq Y):=by unfold lkR;rw[hc];rfl
   unfold tK at hk;rw[e]at hk;cases hk
 obtain⟨h1,k1,k2,p1,p2,_⟩:=zVk jL pPA h o t G P D S O U C st V Z F I L H W vq Y hc;exact⟨h1,k1,k2,p1,p2⟩
theorem qZy{h o t:List Int}{G:List Bd}{S Z:Int}{F I:List (List Int)}(hT:Tab h o t G S Z F I){L:Int}(k1:1≤L)(k2:L≤S){y i:Nat}(hy:y<G.length)(hi:i<h.length*o.length*t.length):rwB S I L (sB y G.length i)=true:=by
 have hix:=hT.ixl;obtain⟨j,hj⟩:∃j:Nat,L=((j+1:Nat):Int):=⟨L.toNat-1,by omega⟩
 have hj2:j<I.length:=by omega
 have ek:Int.sub L 1= .ofNat j:=by rw[hj];show((j+1:Nat):Int)-1=(j:Int);omega
 have eS:kS L=j:=by unfold kS;rw[ek];rfl
 obtain⟨r1,r2⟩:=hT.row j hj2;have m1:i*G.length+G.length≤h.length*o.length*t.length*G.length:=by
  rw[←Nat.succ_mul];exact Nat.mul_le_mul_right _ hi
 unfold rwB sB;rw[eS,r1,show ilt L (.ofNat 1)=false from xU (show(1:Int)≤L from k1),xU k2,show ilt (.ofNat (y+i*G.length)) (.ofNat 0)=false from xU (Int.natCast_nonneg _),wZ (show(.ofNat (y+i*G.length):Int)<.ofNat (h.length*o.length*t.length*G.length)from Int.ofNat_lt.2 (by omega))]
 rfl
end Go.Proofs.YtjnpoeilfdbaaaaGreatDoor

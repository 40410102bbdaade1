import Derived.Test.YtfijdjigiapnbaaGreatDoorRows
import Derived.Test.YtfijdjigiapnbaaGreatDoorBaseA
import Derived.Test.YtfijdjigiapnbaaGreatDoorBaseB
import Derived.Test.YtfijdjigiapnbaaGreatDoorBaseC
import Derived.Test.YtfijdjigiapnbaaGreatDoorBaseD
import Derived.Test.YtfijdjigiapnbaaGreatDoorBaseE
import Derived.Test.YtfijdjigiapnbaaGreatDoorBaseF
import Derived.Test.YtfijdjigiapnbaaGreatDoorBaseG
import Derived.Test.YtfijdjigiapnbaaGreatDoorBaseH
set_option linter.unusedVariables false
set_option linter.unusedSimpArgs false
set_option linter.unnecessarySimpa false
namespace Go.Proofs.YtfijdjigiapnbaaGreatDoor
open Go Go.Gv Go.Ev IntKind
set_option maxRecDepth 1000000
noncomputable def la66 : List T := [(.ag [(sL [(i (-100)),(i 0),(i 100)]),(sL [(i 0),(i 10)]),(sL [(i 0)]),(.sl [(.v (.int .u8 0)),(i 0),(i 0),(.v (.int .u8 1)),(i 10),(i 20)] 2),(i 5),(i 50),(i 1),(.sl [(i 0),ff,(sL [(w 1)]),(sL [])] 1),(.sl [(i 0),ff,(sL [(w 1)]),(sL [])] 1),ff,(sL [(w 1)]),(sL [(w 10)]),ff,nl,nl,ff,nl,nl]),(i 10)]
noncomputable def lt66 : T := (.tu [(.ag [(sL [(i (-100)),(i 0),(i 100)]),(sL [(i 0),(i 10)]),(sL [(i 0)]),(.sl [(.v (.int .u8 0)),(i 0),(i 0),(.v (.int .u8 1)),(i 10),(i 20)] 2),(i 5),(i 50),(i 1),(.sl [(i 0),ff,(sL [(w 1)]),(sL [])] 1),(.sl [(i 0),ff,(sL [(w 1)]),(sL [])] 1),ff,(sL [(w 1)]),(sL [(w 10)]),ff,nl,nl,ff,nl,nl,(i 10),(sL [(sL [(i 0),(i 1)]),(sL [(i 10),(i 11)]),(sL [(i 9),(i 10)]),(sL [(i 1),(i 2)])]),(sL [(sL [(i 0),(i 0),(i 0),(i 0),(i 1),(i 1),(i 2),(i 2),(i 0),(i 0),(i 3),(i 3)])])]),(i 0)])
theorem lr66 : zQ Tryz.prog (evC Tryz.prog skE (orF Tryz.prog (zR qOa) pfs) 1000) 0 33 la66 = some (lt66,true) := by kernel_rfl
noncomputable def qOb : List (Nat × (List T → Option (T × Bool))) := (33,qJ la66 (lt66,true)) :: qOa
theorem lo66 : zL Tryz.prog (zR qOb) := zL.cons lo65 (zS (by kernel_rfl) zU lo65 pfs lr66) (by kernel_rfl)
noncomputable def la67 : List T := [(.ag [(sL [(i (-100)),(i 0),(i 100)]),(sL [(i 0),(i 10)]),(sL [(i 0)]),(.sl [(.v (.int .u8 0)),(i 0),(i 0),(.v (.int .u8 1)),(i 10),(i 20)] 2),(i 5),(i 50),(i 1),(.sl [(i 0),ff,(sL [(w 1)]),(sL [])] 1),(.sl [(i 0),ff,(sL [(w 1)]),(sL [])] 1),ff,(sL [(w 1)]),(sL [(w 10)]),ff,nl,nl,ff,nl,nl,(i 10),(sL [(sL [(i 0),(i 1)]),(sL [(i 10),(i 11)]),(sL [(i 9),(i 10)]),(sL [(i 1),(i 2)])]),(sL [(sL [(i 0),(i 0),(i 0),(i 0),(i 1),(i 1),(i 2),(i 2),(i 0),(i 0),(i 3),(i 3)])])])]
noncomputable def lt67 : T := (i 0)
theorem lr67 : zQ Tryz.prog (evC Tryz.prog skE (orF Tryz.prog (zR qOb) pfs) 1000) 0 13 la67 = some (lt67,true) := by kernel_rfl
noncomputable def qOc : List (Nat × (List T → Option (T × Bool))) := (13,qJ la67 (lt67,true)) :: qOb
theorem lo67 : zL Tryz.prog (zR qOc) := zL.cons lo66 (zS (by kernel_rfl) zU lo66 pfs lr67) (by kernel_rfl)
noncomputable def la68 : List T := [(sL [(sL [(i (-100)),(i 0),(i 100)]),(sL [(i 0),(i 10)]),(sL [(i 0)])]),(sL [(i 100),(i 10),(i 0)])]
noncomputable def lt68 : T := (.tu [(.sl [(i 5),ff,(sL [(w 1)]),(sL [])] 1),(i 0)])
theorem lr68 : zQ Tryz.prog (evC Tryz.prog skE (orF Tryz.prog (zR qOc) pfs) 1000) 0 65 la68 = some (lt68,true) := by kernel_rfl
noncomputable def qOd : List (Nat × (List T → Option (T × Bool))) := (65,qJ la68 (lt68,true)) :: qOc
theorem lo68 : zL Tryz.prog (zR qOd) := zL.cons lo67 (zS (by kernel_rfl) zU lo67 pfs lr68) (by kernel_rfl)
noncomputable def la69 : List T := [(i 0),(.fp [(.sl [(i 5),ff,(sL [(w 1)]),(sL [])] 1)]),(.fp [(sL [(i (-100)),(i 0),(i 100)]),(sL [(i 0),(i 10)]),(sL [(i 0)]),(.sl [(.v (.int .u8 0)),(i 0),(i 0),(.v (.int .u8 1)),(i 10),(i 20)] 2),(i 5),(i 50),(i 1),(.sl [(i 0),ff,(sL [(w 1)]),(sL [])] 1),(.sl [(i 0),ff,(sL [(w 1)]),(sL [])] 1),ff,(sL [(w 1)]),(sL [(w 10)]),ff,nl,nl,ff,nl,nl,(i 10),(sL [(sL [(i 0),(i 1)]),(sL [(i 10),(i 11)]),(sL [(i 9),(i 10)]),(sL [(i 1),(i 2)])]),(sL [(sL [(i 0),(i 0),(i 0),(i 0),(i 1),(i 1),(i 2),(i 2),(i 0),(i 0),(i 3),(i 3)])])]),(.fp [(i 1)]),(.fp [(i 2)]),(.fp [(i 0)])]
noncomputable def lt69 : T := (.tu [(.ag [ff,(sL [(w 1)]),(sL [(w 10)])]),(i 0)])
theorem lr69 : zQ Tryz.prog (evC Tryz.prog skE (orF Tryz.prog (zR qOd) pfs) 1000) 0 66 la69 = some (lt69,true) := by kernel_rfl
noncomputable def qOe : List (Nat × (List T → Option (T × Bool))) := (66,qJ la69 (lt69,true)) :: qOd
theorem lo69 : zL Tryz.prog (zR qOe) := zL.cons lo68 (zS (by kernel_rfl) zU lo68 pfs lr69) (by kernel_rfl)
noncomputable def la70 : List T := [(i 1),(.fp [(.sl [(i 5),ff,(sL [(w 1)]),(sL [])] 1)]),(.fp [(sL [(i (-100)),(i 0),(i 100)]),(sL [(i 0),(i 10)]),(sL [(i 0)]),(.sl [(.v (.int .u8 0)),(i 0),(i 0),(.v (.int .u8 1)),(i 10),(i 20)] 2),(i 5),(i 50),(i 1),(.sl [(i 0),ff,(sL [(w 1)]),(sL [])] 1),(.sl [(i 0),ff,(sL [(w 1)]),(sL [])] 1),ff,(sL [(w 1)]),(sL [(w 10)]),ff,nl,nl,ff,nl,nl,(i 10),(sL [(sL [(i 0),(i 1)]),(sL [(i 10),(i 11)]),(sL [(i 9),(i 10)]),(sL [(i 1),(i 2)])]),(sL [(sL [(i 0),(i 0),(i 0),(i 0),(i 1),(i 1),(i 2),(i 2),(i 0),(i 0),(i 3),(i 3)])])]),(.fp [(i 1)]),(.fp [(i 2)]),(.fp [(i 0)])]
noncomputable def lt70 : T := (.tu [(.ag [ff,(sL [(w 1)]),(sL [(w 5)])]),(i 0)])
theorem lr70 : zQ Tryz.prog (evC Tryz.prog skE (orF Tryz.prog (zR qOe) pfs) 1000) 0 66 la70 = some (lt70,true) := by kernel_rfl
noncomputable def qOf : List (Nat × (List T → Option (T × Bool))) := (66,qJ la70 (lt70,true)) :: qOe
theorem lo70 : zL Tryz.prog (zR qOf) := zL.cons lo69 (zS (by kernel_rfl) zU lo69 pfs lr70) (by kernel_rfl)
noncomputable def la71 : List T := [(.ag [(sL [(i (-100)),(i 0),(i 100)]),(sL [(i 0),(i 10)]),(sL [(i 0)]),(.sl [(.v (.int .u8 0)),(i 0),(i 0),(.v (.int .u8 1)),(i 10),(i 20)] 2),(i 5),(i 50),(i 1),(.sl [(i 0),ff,(sL [(w 1)]),(sL [])] 1),(.sl [(i 0),ff,(sL [(w 1)]),(sL [])] 1),ff,(sL [(w 1)]),(sL [(w 10)]),ff,nl,nl,ff,nl,nl,(i 10),(sL [(sL [(i 0),(i 1)]),(sL [(i 10),(i 11)]),(sL [(i 9),(i 10)]),(sL [(i 1),(i 2)])]),(sL [(sL [(i 0),(i 0),(i 0),(i 0),(i 1),(i 1),(i 2),(i 2),(i 0),(i 0),(i 3),(i 3)])])]),(i 1),(i 100),(i 10),(i 0),(i 0)]
noncomputable def lt71 : T := (.tu [(.sl [ff,(sL [(w 1)]),(sL [(w 10)]),ff,(sL [(w 1)]),(sL [(w 5)])] 2),(i 0)])
theorem lr71 : zQ Tryz.prog (evC Tryz.prog skE (orF Tryz.prog (zR qOf) pfs) 1000) 0 25 la71 = some (lt71,true) := by kernel_rfl
noncomputable def qOg : List (Nat × (List T → Option (T × Bool))) := (25,qJ la71 (lt71,true)) :: qOf
theorem lo71 : zL Tryz.prog (zR qOg) := zL.cons lo70 (zS (by kernel_rfl) zU lo70 pfs lr71) (by kernel_rfl)
noncomputable def la72 : List T := [(.sl [ff,(sL [(w 1)]),(sL [(w 10)]),ff,(sL [(w 1)]),(sL [(w 5)])] 2),(sL [tt,tt])]
noncomputable def lt72 : T := (.tu [(i 0),(i 0)])
theorem lr72 : zQ Tryz.prog (evC Tryz.prog skE (orF Tryz.prog (zR qOg) pfs) 1000) 0 19 la72 = some (lt72,true) := by kernel_rfl
noncomputable def qOh : List (Nat × (List T → Option (T × Bool))) := (19,qJ la72 (lt72,true)) :: qOg
theorem lo72 : zL Tryz.prog (zR qOh) := zL.cons lo71 (zS (by kernel_rfl) zU lo71 pfs lr72) (by kernel_rfl)
noncomputable def la73 : List T := [(sL [(sL [(i (-100)),(i 0),(i 100)]),(sL [(i 0),(i 10)]),(sL [(i 0)])]),(sL [(i 50),(i 5),(i 0)])]
noncomputable def lt73 : T := (.tu [(.sl [(i 2),ff,(sL [(w 1)]),(sL [(w 4)]),(i 3),ff,(sL [(w 1)]),(sL [(w 4)]),(i 4),ff,(sL [(w 1)]),(sL [(w 4)]),(i 5),ff,(sL [(w 1)]),(sL [(w 4)])] 4),(i 0)])
theorem lr73 : zQ Tryz.prog (evC Tryz.prog skE (orF Tryz.prog (zR qOh) pfs) 1000) 0 65 la73 = some (lt73,true) := by kernel_rfl
noncomputable def qOi : List (Nat × (List T → Option (T × Bool))) := (65,qJ la73 (lt73,true)) :: qOh
theorem lo73 : zL Tryz.prog (zR qOi) := zL.cons lo72 (zS (by kernel_rfl) zU lo72 pfs lr73) (by kernel_rfl)
noncomputable def la74 : List T := [(.sl [ff,(sL [(w 1)]),(sL [(w 4)]),ff,(sL [(w 1)]),(sL [(w 4)]),ff,(sL [(w 1)]),(sL [(w 4)]),ff,(sL [(w 1)]),(sL [(w 4)])] 4),(.sl [ff,(sL [(w 10)]),(sL []),ff,(sL [(w 9)]),(sL []),ff,(sL []),(sL []),ff,(sL [(w 1)]),(sL [])] 4)]
noncomputable def lt74 : T := (.tu [(.ag [ff,(sL [(w 5)]),(sL [])]),(i 0)])
theorem lr74 : zQ Tryz.prog (evC Tryz.prog skE (orF Tryz.prog (zR qOi) pfs) 1000) 0 67 la74 = some (lt74,true) := by kernel_rfl
noncomputable def qOj : List (Nat × (List T → Option (T × Bool))) := (67,qJ la74 (lt74,true)) :: qOi
theorem lo74 : zL Tryz.prog (zR qOj) := zL.cons lo73 (zS (by kernel_rfl) zU lo73 pfs lr74) (by kernel_rfl)
noncomputable def la75 : List T := [(i 0),(.fp [(.sl [(i 2),ff,(sL [(w 1)]),(sL [(w 4)]),(i 3),ff,(sL [(w 1)]),(sL [(w 4)]),(i 4),ff,(sL [(w 1)]),(sL [(w 4)]),(i 5),ff,(sL [(w 1)]),(sL [(w 4)])] 4)]),(.fp [(sL [(i (-100)),(i 0),(i 100)]),(sL [(i 0),(i 10)]),(sL [(i 0)]),(.sl [(.v (.int .u8 0)),(i 0),(i 0),(.v (.int .u8 1)),(i 10),(i 20)] 2),(i 5),(i 50),(i 1),(.sl [(i 0),ff,(sL [(w 1)]),(sL [])] 1),(.sl [(i 0),ff,(sL [(w 1)]),(sL [])] 1),ff,(sL [(w 1)]),(sL [(w 10)]),ff,nl,nl,ff,nl,nl,(i 10),(sL [(sL [(i 0),(i 1)]),(sL [(i 10),(i 11)]),(sL [(i 9),(i 10)]),(sL [(i 1),(i 2)])]),(sL [(sL [(i 0),(i 0),(i 0),(i 0),(i 1),(i 1),(i 2),(i 2),(i 0),(i 0),(i 3),(i 3)])])]),(.fp [(i 1)]),(.fp [(i 2)]),(.fp [(i 0)])]
noncomputable def lt75 : T := (.tu [(.ag [ff,(sL [(w 1)]),(sL [(w 2)])]),(i 0)])
theorem lr75 : zQ Tryz.prog (evC Tryz.prog skE (orF Tryz.prog (zR qOj) pfs) 1000) 0 66 la75 = some (lt75,true) := by kernel_rfl
noncomputable def qOk : List (Nat × (List T → Option (T × Bool))) := (66,qJ la75 (lt75,true)) :: qOj
theorem lo75 : zL Tryz.prog (zR qOk) := zL.cons lo74 (zS (by kernel_rfl) zU lo74 pfs lr75) (by kernel_rfl)
noncomputable def la76 : List T := [(.sl [ff,(sL [(w 1)]),(sL [(w 4)]),ff,(sL [(w 1)]),(sL [(w 4)]),ff,(sL [(w 1)]),(sL [(w 4)]),ff,(sL [(w 1)]),(sL [(w 4)])] 4),(.sl [ff,(sL [(w 11)]),(sL []),ff,(sL [(w 10)]),(sL []),ff,(sL [(w 1)]),(sL []),ff,(sL [(w 2)]),(sL [])] 4)]
noncomputable def lt76 : T := (.tu [(.ag [ff,(sL [(w 6)]),(sL [])]),(i 0)])
theorem lr76 : zQ Tryz.prog (evC Tryz.prog skE (orF Tryz.prog (zR qOk) pfs) 1000) 0 67 la76 = some (lt76,true) := by kernel_rfl
noncomputable def qOl : List (Nat × (List T → Option (T × Bool))) := (67,qJ la76 (lt76,true)) :: qOk
theorem lo76 : zL Tryz.prog (zR qOl) := zL.cons lo75 (zS (by kernel_rfl) zU lo75 pfs lr76) (by kernel_rfl)
noncomputable def la77 : List T := [(i 1),(.fp [(.sl [(i 2),ff,(sL [(w 1)]),(sL [(w 4)]),(i 3),ff,(sL [(w 1)]),(sL [(w 4)]),(i 4),ff,(sL [(w 1)]),(sL [(w 4)]),(i 5),ff,(sL [(w 1)]),(sL [(w 4)])] 4)]),(.fp [(sL [(i (-100)),(i 0),(i 100)]),(sL [(i 0),(i 10)]),(sL [(i 0)]),(.sl [(.v (.int .u8 0)),(i 0),(i 0),(.v (.int .u8 1)),(i 10),(i 20)] 2),(i 5),(i 50),(i 1),(.sl [(i 0),ff,(sL [(w 1)]),(sL [])] 1),(.sl [(i 0),ff,(sL [(w 1)]),(sL [])] 1),ff,(sL [(w 1)]),(sL [(w 10)]),ff,nl,nl,ff,nl,nl,(i 10),(sL [(sL [(i 0),(i 1)]),(sL [(i 10),(i 11)]),(sL [(i 9),(i 10)]),(sL [(i 1),(i 2)])]),(sL [(sL [(i 0),(i 0),(i 0),(i 0),(i 1),(i 1),(i 2),(i 2),(i 0),(i 0),(i 3),(i 3)])])]),(.fp [(i 1)]),(.fp [(i 2)]),(.fp [(i 0)])]
noncomputable def lt77 : T := (.tu [(.ag [ff,(sL [(w 3)]),(sL [(w 5)])]),(i 0)])
theorem lr77 : zQ Tryz.prog (evC Tryz.prog skE (orF Tryz.prog (zR qOl) pfs) 1000) 0 66 la77 = some (lt77,true) := by kernel_rfl
noncomputable def qOm : List (Nat × (List T → Option (T × Bool))) := (66,qJ la77 (lt77,true)) :: qOl
theorem lo77 : zL Tryz.prog (zR qOm) := zL.cons lo76 (zS (by kernel_rfl) zU lo76 pfs lr77) (by kernel_rfl)
noncomputable def la78 : List T := [(.ag [(sL [(i (-100)),(i 0),(i 100)]),(sL [(i 0),(i 10)]),(sL [(i 0)]),(.sl [(.v (.int .u8 0)),(i 0),(i 0),(.v (.int .u8 1)),(i 10),(i 20)] 2),(i 5),(i 50),(i 1),(.sl [(i 0),ff,(sL [(w 1)]),(sL [])] 1),(.sl [(i 0),ff,(sL [(w 1)]),(sL [])] 1),ff,(sL [(w 1)]),(sL [(w 10)]),ff,nl,nl,ff,nl,nl,(i 10),(sL [(sL [(i 0),(i 1)]),(sL [(i 10),(i 11)]),(sL [(i 9),(i 10)]),(sL [(i 1),(i 2)])]),(sL [(sL [(i 0),(i 0),(i 0),(i 0),(i 1),(i 1),(i 2),(i 2),(i 0),(i 0),(i 3),(i 3)])])]),(i 1),(i 50),(i 5),(i 0),(i 0)]
noncomputable def lt78 : T := (.tu [(.sl [ff,(sL [(w 1)]),(sL [(w 2)]),ff,(sL [(w 3)]),(sL [(w 5)])] 2),(i 0)])
theorem lr78 : zQ Tryz.prog (evC Tryz.prog skE (orF Tryz.prog (zR qOm) pfs) 1000) 0 25 la78 = some (lt78,true) := by kernel_rfl
noncomputable def lb78 : List (Nat × (List T → Option (T × Bool))) := (25,qJ la78 (lt78,true)) :: qOm
theorem lo78 : zL Tryz.prog (zR lb78) := zL.cons lo77 (zS (by kernel_rfl) zU lo77 pfs lr78) (by kernel_rfl)
noncomputable def la79 : List T := []
noncomputable def lt79 : T := tt
theorem lr79 : zQ Tryz.prog (evC Tryz.prog skE (orF Tryz.prog (zR lb78) pfs) 1000) 0 15 la79 = some (lt79,true) := by kernel_rfl
end Go.Proofs.YtfijdjigiapnbaaGreatDoor
namespace Go.Ev
noncomputable section
open Go Go.Gv Go.RowKit IntKind
abbrev Rt := Ty.den zZ
abbrev rw' (x : Rt) : Raw := ⟨x.1,x.2.1,x.2.2⟩
abbrev rAt (l : List Rt) (i : Nat) : Raw := rw' (nth zZ.zero l i)
abbrev bAt (l : List Bool) (i : Nat) : Bool := nth Ty.bool.zero l i
def gR0 (b : List Bool) (i : Nat) (e : Int) : Int ⊕ Int := .inl (bif bAt b i && ilt e 0 then .ofNat i else e)
def gCk (l : List Rt) (i : Nat) (_ : Unit) : Unit ⊕ Int := if (rAt l i).chk = 0 then .inl () else .inr (rAt l i).chk
def gR2 (l : List Rt) (b : List Bool) (i : Nat) (e : Int) : Int ⊕ Int := .inl (bif bAt b i && ilt (vE (rAt l i).rat (rAt l e.toNat).rat) 0 then .ofNat i else e)
def r0 (b : List Bool) : Int := fol (gR0 b) id b.length 0 (-1)
def ck (l : List Rt) : Int := fol (gCk l) (fun _ => 0) l.length 0 ()
def r2 (l : List Rt) (b : List Bool) : Int := fol (gR2 l b) id l.length 0 (r0 b)
def gIx (b : List Bool) (i : Nat) (_ : Unit) : Unit ⊕ Int := bif bAt b i then .inr (.ofNat i) else .inl ()
def gCe (l : List Rt) (i : Nat) (e : Int) : Int ⊕ Int := .inl (if e = 0 then (rAt l i).chk else e)
def gFt (l : List Rt) (b : List Bool) (i : Nat) (e : Int) : Int ⊕ Int := .inl (bif bAt b i then (bif ilt e 0 then .ofNat i else (bif ilt (rT (rAt l i) (rAt l e.toNat)) 0 then .ofNat i else e)) else e)
def ixB (b : List Bool) : Int := fol (gIx b) (fun _ => -1) b.length 0 ()
def ce (l : List Rt) : Int := fol (gCe l) id l.length 0 0
def ft (l : List Rt) (b : List Bool) : Int := fol (gFt l b) id l.length 0 (-1)
theorem zRt {a b : Int} : ilt a b = true ↔ a < b := by
 cases a with
 | ofNat a => cases b with
  | ofNat b => simp only [ilt,Nat.blt_eq,Int.ofNat_eq_natCast]; omega
  | negSucc b => simp only [ilt,Int.ofNat_eq_natCast,Int.negSucc_eq]; constructor <;> intro h <;> first | cases h; done | omega
 | negSucc a => cases b with
  | ofNat b => simp only [ilt,Int.ofNat_eq_natCast,Int.negSucc_eq]; constructor <;> intro h <;> first | omega | trivial
  | negSucc b => simp only [ilt,Nat.blt_eq,Int.negSucc_eq]; omega
theorem zRs {a b : Int} (h : b ≤ a) : ilt a b = false := by
 cases e : ilt a b with
 | false => rfl
 | true => rw [zRt] at e; omega
theorem qRn {a b : Int} (h : a < b) : ilt a b = true := zRt.2 h
theorem zSx (b : List Bool) : ∀ (k i : Nat),fol (gR0 b) id k i (-1) = fol (gIx b) (fun _ => -1) k i () ∧ ∀ e,0 ≤ e → fol (gR0 b) id k i e = e
 | 0,i => ⟨rfl,fun _ _ => rfl⟩
 | k + 1,i => by
  obtain ⟨h1,h2⟩ := zSx b k (i + 1)
  refine ⟨?_,fun e he => ?_⟩
  ·simp only [fol,gR0,gIx]
   cases hb : bAt b i with
   | false => simp only [Bool.false_and,cond_false]; exact h1
   | true =>
    have : ilt (-1) 0 = true := rfl
    simp only [this,Bool.and_self,cond_true]
    exact h2 _ (Int.natCast_nonneg i)
  ·simp only [fol,gR0,zRs he,Bool.and_false,cond_false]
   exact h2 e he
theorem qCd (b : List Bool) : r0 b = ixB b := (zSx b b.length 0).1
theorem zRc (l : List Rt) : ∀ (k i : Nat),fol (gCe l) id k i 0 = fol (gCk l) (fun _ => 0) k i () ∧ ∀ e,e ≠ 0 → fol (gCe l) id k i e = e
 | 0,i => ⟨rfl,fun _ _ => rfl⟩
 | k + 1,i => by
  obtain ⟨h1,h2⟩ := zRc l k (i + 1)
  refine ⟨?_,fun e he => ?_⟩
  ·simp only [fol,gCe,gCk,if_true]
   by_cases hc : (rAt l i).chk = 0
   ·simp only [hc,if_true]; exact h1
   ·rw [if_neg hc]; exact h2 _ hc
  ·simp only [fol,gCe,if_neg he]; exact h2 e he
theorem qRg (l : List Rt) : ce l = ck l := (zRc l l.length 0).1
theorem zPc (l : List Rt) : ∀ (k i : Nat),fol (gCk l) (fun _ => 0) k i () = 0 → ∀ j,i ≤ j → j < i + k → (rAt l j).chk = 0
 | 0,i,_,j,h1,h2 => by omega
 | k + 1,i,h,j,h1,h2 => by
  simp only [fol,gCk] at h
  by_cases hc : (rAt l i).chk = 0
  ·rw [if_pos hc] at h
   rcases Nat.eq_or_lt_of_le h1 with rfl | hlt
   ·exact hc
   ·exact zPc l k (i + 1) h j hlt (by omega)
  ·rw [if_neg hc] at h; exact absurd h hc
theorem zJe (b : List Bool) : ∀ (k i : Nat) (f : Nat),fol (gIx b) (fun _ => -1) k i () = .ofNat f → i ≤ f ∧ f < i + k ∧ bAt b f = true ∧ ∀ j,i ≤ j → j < f → bAt b j = false
 | 0,i,f,h => by cases h
 | k + 1,i,f,h => by
  simp only [fol,gIx] at h
  cases hb : bAt b i with
  | true =>
   simp only [hb,cond_true] at h
   cases h
   exact ⟨Nat.le_refl _,by omega,hb,fun j h1 h2 => by omega⟩
  | false =>
   simp only [hb,cond_false] at h
   obtain ⟨h1,h2,h3,h4⟩ := zJe b k (i + 1) f h
   refine ⟨by omega,by omega,h3,fun j g1 g2 => ?_⟩
   rcases Nat.eq_or_lt_of_le g1 with rfl | hlt
   ·exact hb
   ·exact h4 j hlt g2
theorem zUf (x : Rat) : vE x x = 0 := by simp [vE]
theorem qDx {a b : Raw} (ha : a.chk = 0) (hb : b.chk = 0) : rT a b = vE a.rat b.rat := by
 unfold rT zBg
 rw [ha,hb]
 simp [or2]
theorem zRo (l : List Rt) (b : List Bool) (hc : ∀ j,j < l.length → (rAt l j).chk = 0) : ∀ (k i e : Nat),i + k = l.length → e < l.length → fol (gFt l b) id k i (.ofNat e) = fol (gR2 l b) id k i (.ofNat e)
 | 0,i,e,_,_ => rfl
 | k + 1,i,e,h,he => by
  have hi : i < l.length := by omega
  have h0 : ilt (.ofNat e) 0 = false := zRs (Int.natCast_nonneg e)
  simp only [fol,gFt,gR2,h0,cond_false,qDx (hc i hi) (hc (Int.ofNat e).toNat he)]
  cases hb : bAt b i with
  | false => simp only [cond_false,Bool.false_and]; exact zRo l b hc k (i + 1) e (by omega) he
  | true =>
   simp only [cond_true,Bool.true_and]
   cases hx : ilt (vE (rAt l i).rat (rAt l (Int.ofNat e).toNat).rat) 0 with
   | true => simp only [cond_true]; exact zRo l b hc k (i + 1) i (by omega) hi
   | false => simp only [cond_false]; exact zRo l b hc k (i + 1) e (by omega) he
theorem zMh (l : List Rt) (b : List Bool) (hc : ∀ j,j < l.length → (rAt l j).chk = 0) (f : Nat) (hf : f < l.length) (hb : bAt b f = true) (hn : ∀ j,j < f → bAt b j = false) : ∀ (k i : Nat),i + k = l.length → i ≤ f → fol (gFt l b) id k i (-1) = fol (gR2 l b) id k i (.ofNat f)
 | 0,i,h,h2 => by omega
 | k + 1,i,h,h2 => by
  rcases Nat.eq_or_lt_of_le h2 with rfl | hlt
  ·have h1 : ilt (-1) 0 = true := rfl
   have hx : ilt (vE (rAt l i).rat (rAt l (Int.ofNat i).toNat).rat) 0 = false := by
    have : vE (rAt l i).rat (rAt l (Int.ofNat i).toNat).rat = 0 := zUf _
    rw [this]; rfl
   simp only [fol,gFt,gR2,hb,h1,hx,cond_true,Bool.true_and,cond_false]
   exact zRo l b hc k (i + 1) i (by omega) hf
  ·simp only [fol,gFt,gR2,hn i hlt,cond_false,Bool.false_and]
   exact zMh l b hc f hf hb hn k (i + 1) (by omega) hlt
theorem zYz {l : List Rt} {b : List Bool} (hl : b.length = l.length) (h0 : ilt (r0 b) 0 = false) (hc : ck l = 0) : ft l b = r2 l b := by
 have hr := qCd b
 cases hx : ixB b with
 | negSucc n => rw [hr,hx] at h0; cases h0
 | ofNat f =>
  obtain ⟨h1,h2,h3,h4⟩ := zJe b b.length 0 f hx
  unfold ft r2
  rw [hr,hx]
  exact zMh l b (fun j hj => zPc l l.length 0 hc j (Nat.zero_le _) (by omega)) f (by omega) h3 (fun j hj => h4 j (Nat.zero_le _) hj) l.length 0 (by omega) (Nat.zero_le _)
theorem qRz (b : List Bool) : ilt (r0 b) 0 = false → ∃ f,f < b.length ∧ r0 b = .ofNat f := fun h0 => by
 have hr := qCd b
 cases hx : ixB b with
 | negSucc n => rw [hr,hx] at h0; cases h0
 | ofNat f => exact ⟨f,by have := zJe b b.length 0 f hx; omega,by rw [hr,hx]⟩
theorem zDg {α : Type} (l : List α) (z : α) : ∀ (k i : Nat),i + k = l.length → fol (fun i (a : List α) => (.inl (nth z l i :: a) : List α ⊕ List α)) id k i (l.take i).reverse = l.reverse
 | 0,i,e => by
  obtain rfl : i = l.length := by omega
  simp [fol]
 | k + 1,i,e => by
  have hi : i < l.length := by omega
  have h : nth z l i :: (l.take i).reverse = (l.take (i + 1)).reverse := by
   rw [List.take_add_one,List.reverse_append,qV]
   simp [hi]
  simp only [fol,h]
  exact zDg l z k (i + 1) (by omega)
theorem zRq {a b : Int} : ieq a b = true ↔ a = b := by
 cases a with
 | ofNat a => cases b with
  | ofNat b => simp only [ieq,Nat.beq_eq,Int.ofNat_eq_natCast]; omega
  | negSucc b => simp only [ieq,Int.ofNat_eq_natCast,Int.negSucc_eq]; constructor <;> intro h <;> first | (cases h; done) | omega
 | negSucc a => cases b with
  | ofNat b => simp only [ieq,Int.ofNat_eq_natCast,Int.negSucc_eq]; constructor <;> intro h <;> first | (cases h; done) | omega
  | negSucc b => simp only [ieq,Nat.beq_eq,Int.negSucc_eq]; omega
theorem zRr {a b : Int} (h : a = b) : ieq a b = true := zRq.2 h
theorem zRp {a b : Int} (h : a ≠ b) : ieq a b = false := by
 cases e : ieq a b with
 | false => rfl
 | true => exact absurd (zRq.1 e) h
theorem zIq {a b : Nat} (h : a ≠ b) : Nat.beq a b = false := by
 cases e : Nat.beq a b with
 | false => rfl
 | true => exact absurd (qD e) h
def cns {α : Type} (z : α) (l : List α) : List α := l.reverse.headD z :: l.reverse.tail
theorem zIt {α : Type} (z : α) {l : List α} (h : l ≠ []) : cns z l = l.reverse := by
 unfold cns
 cases hr : l.reverse with
 | nil => exact absurd (List.reverse_eq_nil_iff.1 hr) h
 | cons a t => rfl
theorem tJ {α : Type} {l : List α} : emp l = true ↔ l = [] := by cases l <;> simp [emp]
def lsE (l : List Rt) (b : List Bool) : Int := if l.length = 0 then 9 else if b.length ≠ l.length then 16 else if ilt (r0 b) 0 = true then 9 else ck l
def lsB (l : List Rt) (b : List Bool) : Int := if l.length = 0 then 0 else if b.length ≠ l.length then 0 else if ilt (r0 b) 0 = true then 0 else if ck l = 0 then r2 l b else 0
end
section
open Go Go.Gv Go.RowKit IntKind
variable {P : Program} {f k : Nat} {az : List T} {tv tv' : T} {nw : Bool}
theorem KnP.res (h : KnP P k f az tv nw) (ht : ∀ (B : Bm) (r : Rd) (v : Value),Rep B r tv v → Rep B r tv' v) : KnP P k f az tv' nw := fun B w X qK R hI hk hX hR hK => h B w X qK R hI hk hX hR fun v w' hu hv => hK v w' hu (ht B _ v hv)
theorem KnP.old (h : KnP P k f az tv true) : KnP P k f az tv false := fun B w X qK R hI hk hX hR hK => h B w X qK R hI hk hX hR fun v w' hu hv => hK v w' hu (hv.mono (BLe.refl B) (Le.new hX))
theorem qAi {B : Bm} {r : Rd} {A : Ty} {v : Value} (h : Rep B r (.v (.slice none 0 0)) v) : Rep B r (.ls false A []) v := by
 obtain ⟨rfl,_⟩ := h.vI
 exact .ls ⟨none,0,rfl,Nat.le_refl _,Nat.zero_le _,.inl rfl⟩
end
end Go.Ev
namespace Go.Proofs.YtfijdjigiapnbaaGreatDoor
open Go Go.Gv Go.Ev Go.RowKit IntKind
def zMv (a : Raw) : Bool := Nat.ble a.ln.length 1000 && Nat.ble a.ld.length 1000
def zUd (a b : Raw) : Bool := decide (a.chk = 0) && decide (b.chk = 0)
noncomputable def qBo : List Ar → DT Rs
 | [.r a] => grd (zMv a) (.ret (.one (.r a)))
 | _ => .no
noncomputable def qPq : List Ar → DT Rs
 | [.r a,.r b] => grd (zUd a b) (.ret (.one (.i (vE a.rat b.rat))))
 | _ => .no
noncomputable def qOy : List (Nat × (List T → DT (T × Bool))) := [(51,kcT qBo false),(53,kcT qPq true),(28,kcD (pB fun a b => decide (a = b)) true),(56,kcD (pR Raw.chk) true),(52,kcD (pR Raw.chk) true),(30,kcD (pRI fun a b => (rT a b,zBg a b)) true)]
noncomputable def Lcr : Lp := ⟨0,
 ⟨[.h,.u,.u,.a false zZ 28,.h] ++ (us' 15),[]⟩,
 ⟨us' 3 ++ ([.a false zZ 28] ++ (us' 16)),[]⟩,
 ⟨us' 20,[]⟩⟩
noncomputable abbrev qHw : Code := lpc Tryz.prog 16 [false,true,false,true,true]
theorem qJf : cAt Tryz.prog 16 [false,true,false,true,true] = some (.loop qHw) := by kernel_rfl
noncomputable abbrev zLd (OD : Od) (LO : Lo) : Hs → Option (Hs ⊕ (Ex × Hs)) := Lcr.stp (evD Tryz.prog OD LO 60) 16 [false,true,false,true,true] qHw
noncomputable def Lcb : Lp := ⟨0,
 ⟨[.h,.u,.u,.a false .bool 4,.h] ++ (us' 14),[]⟩,
 ⟨us' 3 ++ ([.a false .bool 4] ++ (us' 15)),[]⟩,
 ⟨us' 19,[]⟩⟩
noncomputable abbrev qHv : Code := lpc Tryz.prog 17 [false,true,false,true,true]
theorem qJe : cAt Tryz.prog 17 [false,true,false,true,true] = some (.loop qHv) := by kernel_rfl
noncomputable abbrev zLc (OD : Od) (LO : Lo) : Hs → Option (Hs ⊕ (Ex × Hs)) := Lcb.stp (evD Tryz.prog OD LO 60) 17 [false,true,false,true,true] qHv
noncomputable def Ler : Lp := ⟨0,
 ⟨[.h,.h] ++ (us' 3 ++ ([.h] ++ (us' 21))),[]⟩,
 ⟨us' 27,[]⟩,
 ⟨us' 4 ++ ([.h] ++ (us' 22)),[]⟩⟩
noncomputable abbrev qHy : Code := lpc Tryz.prog 20 [false,true,false,true,true]
theorem qJi : cAt Tryz.prog 20 [false,true,false,true,true] = some (.loop qHy) := by kernel_rfl
noncomputable abbrev zWk (OD : Od) (LO : Lo) : Hs → Option (Hs ⊕ (Ex × Hs)) := Ler.stp (evD Tryz.prog OD LO 60) 20 [false,true,false,true,true] qHy
noncomputable def Leb : Lp := ⟨0,
 ⟨[.h,.h] ++ (us' 3 ++ ([.h] ++ (us' 20))),[]⟩,
 ⟨us' 26,[]⟩,
 ⟨us' 4 ++ ([.h] ++ (us' 21)),[]⟩⟩
noncomputable abbrev qHx : Code := lpc Tryz.prog 21 [false,true,false,true,true]
theorem qJh : cAt Tryz.prog 21 [false,true,false,true,true] = some (.loop qHx) := by kernel_rfl
noncomputable abbrev zWj (OD : Od) (LO : Lo) : Hs → Option (Hs ⊕ (Ex × Hs)) := Leb.stp (evD Tryz.prog OD LO 60) 21 [false,true,false,true,true] qHx
noncomputable def Llg : Lp := ⟨0,
 ⟨[.h,.u,.u,.h] ++ (us' 42),[]⟩,
 ⟨us' 46,[]⟩,
 ⟨[.u,.u,.h] ++ (us' 43),[]⟩⟩
noncomputable abbrev qIb : Code := lpc Tryz.prog 14 [false,true,false,true]
theorem qJm : cAt Tryz.prog 14 [false,true,false,true] = some (.loop qIb) := by kernel_rfl
noncomputable abbrev zQz (OD : Od) (LO : Lo) : Hs → Option (Hs ⊕ (Ex × Hs)) := Llg.stp (evD Tryz.prog OD LO 60) 14 [false,true,false,true] qIb
noncomputable def Lix : Lp := ⟨0,
 ⟨[.h,.h] ++ (us' 5 ++ ([.h,.h] ++ (us' 10))),[]⟩,
 ⟨us' 19,[]⟩,
 ⟨us' 4 ++ ([.h] ++ (us' 14)),[]⟩⟩
noncomputable abbrev qIa : Code := lpc Tryz.prog 105 [false,true,false,true]
theorem qJl : cAt Tryz.prog 105 [false,true,false,true] = some (.loop qIa) := by kernel_rfl
noncomputable abbrev zWm (OD : Od) (LO : Lo) : Hs → Option (Hs ⊕ (Ex × Hs)) := Lix.stp (evD Tryz.prog OD LO 60) 105 [false,true,false,true] qIa
noncomputable def Lr0 : Lp := ⟨0,
 ⟨[.h,.h] ++ (us' 4 ++ ([.h,.h] ++ (us' 66))),[]⟩,
 ⟨[.h,.h] ++ (us' 4 ++ ([.h] ++ (us' 67))),[]⟩,
 ⟨us' 74,[]⟩⟩
noncomputable abbrev qId : Code := lpc Tryz.prog 18 [false,true,false,true,true,true,true]
theorem qJo : cAt Tryz.prog 18 [false,true,false,true,true,true,true] = some (.loop qId) := by kernel_rfl
noncomputable abbrev zWo (OD : Od) (LO : Lo) : Hs → Option (Hs ⊕ (Ex × Hs)) := Lr0.stp (evD Tryz.prog OD LO 60) 18 [false,true,false,true,true,true,true] qId
noncomputable def Lr1 : Lp := ⟨0,
 ⟨[.h,.h] ++ (us' 4 ++ ([.h,.u,.h] ++ (us' 65))),[]⟩,
 ⟨[.h,.h] ++ (us' 4 ++ ([.h] ++ (us' 67))),[]⟩,
 ⟨us' 4 ++ ([.h,.h] ++ (us' 68)),[]⟩⟩
noncomputable abbrev qIe : Code := lpc Tryz.prog 18 [false,true,false,true,true,true,true,true,true]
theorem qJp : cAt Tryz.prog 18 [false,true,false,true,true,true,true,true,true] = some (.loop qIe) := by kernel_rfl
noncomputable abbrev zWp (OD : Od) (LO : Lo) : Hs → Option (Hs ⊕ (Ex × Hs)) := Lr1.stp (evD Tryz.prog OD LO 60) 18 [false,true,false,true,true,true,true,true,true] qIe
noncomputable def Lr2 : Lp := ⟨0,
 ⟨[.h,.h] ++ (us' 4 ++ ([.h] ++ (us' 3 ++ ([.h] ++ (us' 63))))),[]⟩,
 ⟨us' 6 ++ ([.h] ++ (us' 67)),[]⟩,
 ⟨us' 74,[]⟩⟩
noncomputable abbrev qIf : Code := lpc Tryz.prog 18 [false,true,false,true,true,true,true,true,true,true]
theorem qJq : cAt Tryz.prog 18 [false,true,false,true,true,true,true,true,true,true] = some (.loop qIf) := by kernel_rfl
noncomputable abbrev zWq (OD : Od) (LO : Lo) : Hs → Option (Hs ⊕ (Ex × Hs)) := Lr2.stp (evD Tryz.prog OD LO 60) 18 [false,true,false,true,true,true,true,true,true,true] qIf
noncomputable def Lll : Lp := ⟨1,
 ⟨[.h,.u,.u,.t (.op 0 0),.u,.u,.h] ++ (us' 17 ++ ([.h,.h,.h] ++ (us' 17))),[.r [.h] 47]⟩,
 ⟨[.h,.u,.u,.t (.op 0 0),.u,.u,.h] ++ (us' 37),[.r [.h] 47]⟩,
 ⟨us' 44,[]⟩⟩
noncomputable abbrev qIc : Code := lpc Tryz.prog 19 [false,true,false,true,true,true]
theorem qJn : cAt Tryz.prog 19 [false,true,false,true,true,true] = some (.loop qIc) := by kernel_rfl
noncomputable abbrev zWn (OD : Od) (LO : Lo) : Hs → Option (Hs ⊕ (Ex × Hs)) := Lll.stp (evD Tryz.prog OD LO 60) 19 [false,true,false,true,true,true] qIc
noncomputable def Lft : Lp := ⟨2,
 ⟨[.h,.t (.fn 57 []),.t (.os 1 0 1 1)] ++ (us' 4 ++ ([.h,.u,.u,.h,.h] ++ (us' 23))),[.r [.h] 47,.r [.t (.fn 59 [.op 0 0])] 100]⟩,
 ⟨us' 7 ++ ([.h] ++ (us' 27)),[.g,.g]⟩,
 ⟨us' 35,[]⟩⟩
noncomputable abbrev qHz : Code := lpc Tryz.prog 58 [false,true,false,true,true]
theorem qJj : cAt Tryz.prog 58 [false,true,false,true,true] = some (.loop qHz) := by kernel_rfl
noncomputable abbrev zWl (OD : Od) (LO : Lo) : Hs → Option (Hs ⊕ (Ex × Hs)) := Lft.stp (evD Tryz.prog OD LO 60) 58 [false,true,false,true,true] qHz
noncomputable def nx {α : Type} (i : Nat) (x : α) : Option α := bif Nat.blt (i + 1) 9223372036854775808 then some x else none
theorem nT {α : Type} {i : Nat} {x : α} (h : i < 1000) : nx i x = some x := by
 unfold nx; rw [jR (by omega)]; rfl
noncomputable abbrev OX : Od := odT qOy
noncomputable abbrev LX : Lo := loT []
noncomputable def iCr (l : List Rt) (i : Nat) (a : List Rt) : Hs := ⟨[.ls false zZ l,.v (.int .i64 (.ofNat i))],[.ls false zZ a],[]⟩
theorem sCr0 (l : List Rt) (i : Nat) : zLd OX LX (iCr l i []) = bif Nat.blt i l.length then (bif Nat.blt i l.length then (bif zMv (rAt l i) then nx i (.inl (iCr l (i + 1) [nth zZ.zero l i])) else none) else none) else some (.inr (.x 0,⟨[],[.ls false zZ []],[]⟩)) := by kernel_rfl
theorem sCr1 (l : List Rt) (i : Nat) (x : Rt) (a : List Rt) : zLd OX LX (iCr l i (x :: a)) = bif Nat.blt i l.length then (bif Nat.blt i l.length then (bif zMv (rAt l i) then (bif Nat.ble (a.length + 1 + 1) 1000000 then (bif Nat.beq (a.length + 1) (a.length + 1) then (bif Nat.blt (i + 1) 9223372036854775808 then (bif Nat.beq (a.length + 1 + 1) (a.length + 1 + 1) then some (.inl (iCr l (i + 1) (nth zZ.zero l i :: x :: a))) else none) else none) else none) else none) else none) else none) else (bif Nat.beq (a.length + 1) (a.length + 1) then some (.inr (.x 0,⟨[],[.ls false zZ (x :: a)],[]⟩)) else none) := by kernel_rfl
noncomputable def iCb (l : List Bool) (i : Nat) (a : List Bool) : Hs := ⟨[.ls false .bool l,.v (.int .i64 (.ofNat i))],[.ls false .bool a],[]⟩
theorem sCb0 (l : List Bool) (i : Nat) : zLc OX LX (iCb l i []) = bif Nat.blt i l.length then (bif Nat.blt i l.length then nx i (.inl (iCb l (i + 1) [bAt l i])) else none) else some (.inr (.x 0,⟨[],[.ls false .bool []],[]⟩)) := by kernel_rfl
theorem sCb1 (l : List Bool) (i : Nat) (x : Bool) (a : List Bool) : zLc OX LX (iCb l i (x :: a)) = bif Nat.blt i l.length then (bif Nat.blt i l.length then (bif Nat.ble (a.length + 1 + 1) 1000000 then (bif Nat.beq (a.length + 1) (a.length + 1) then (bif Nat.blt (i + 1) 9223372036854775808 then (bif Nat.beq (a.length + 1 + 1) (a.length + 1 + 1) then some (.inl (iCb l (i + 1) (bAt l i :: x :: a))) else none) else none) else none) else none) else none) else (bif Nat.beq (a.length + 1) (a.length + 1) then some (.inr (.x 0,⟨[],[.ls false .bool (x :: a)],[]⟩)) else none) := by kernel_rfl
noncomputable def iEr (l m : List Rt) (i : Nat) : Hs := ⟨[.ls false zZ l,.ls false zZ m,.v (.int .i64 (.ofNat i))],[],[]⟩
theorem sEr (l m : List Rt) (i : Nat) : zWk OX LX (iEr l m i) = bif Nat.blt i l.length then (bif Nat.blt i l.length then (bif Nat.blt i m.length then (bif !decide (rAt l i = rAt m i) then some (.inr (.r,⟨[.v (.bool false)],[],[]⟩)) else nx i (.inl (iEr l m (i + 1)))) else none) else none) else some (.inr (.x 0,⟨[],[],[]⟩)) := by kernel_rfl
noncomputable def iEb (l m : List Bool) (i : Nat) : Hs := ⟨[.ls false .bool l,.ls false .bool m,.v (.int .i64 (.ofNat i))],[],[]⟩
theorem sEb (l m : List Bool) (i : Nat) : zWj OX LX (iEb l m i) = bif Nat.blt i l.length then (bif Nat.blt i l.length then (bif Nat.blt i m.length then (bif !(bAt l i == bAt m i) then some (.inr (.r,⟨[.v (.bool false)],[],[]⟩)) else nx i (.inl (iEb l m (i + 1)))) else none) else none) else some (.inr (.x 0,⟨[],[],[]⟩)) := by kernel_rfl
noncomputable def iLg (l : List Rt) (i : Nat) : Hs := ⟨[.ls false zZ l,.v (.int .i64 (.ofNat i))],[],[]⟩
noncomputable abbrev qBl : Option (Hs ⊕ (Ex × Hs)) := some (.inr (.r,⟨[.v (.bool true)],[],[]⟩))
noncomputable abbrev lgC (x : Rt) (k : Option (Hs ⊕ (Ex × Hs))) : Option (Hs ⊕ (Ex × Hs)) := bif ilt (.ofNat 200) (.ofNat x.2.1.length) then qBl else (bif ilt (.ofNat 200) (.ofNat x.2.2.length) then qBl else k)
noncomputable abbrev qOq (x : Rt) (k : Option (Hs ⊕ (Ex × Hs))) : Option (Hs ⊕ (Ex × Hs)) := bif ilt (.ofNat 6) (.ofNat x.2.2.length) then (bif !ilt (.ofNat 128) (.ofNat x.2.2.length) then qBl else lgC x k) else lgC x k
theorem sLg (l : List Rt) (i : Nat) : zQz OX LX (iLg l i) = bif Nat.blt i l.length then (bif Nat.blt i l.length then (bif Nat.blt i l.length then (bif ilt (.ofNat 6) (.ofNat (nth zZ.zero l i).2.1.length) then (bif !ilt (.ofNat 128) (.ofNat (nth zZ.zero l i).2.1.length) then qBl else qOq (nth zZ.zero l i) (nx i (.inl (iLg l (i + 1))))) else qOq (nth zZ.zero l i) (nx i (.inl (iLg l (i + 1))))) else none) else none) else some (.inr (.x 0,⟨[],[],[]⟩)) := by kernel_rfl
noncomputable def iIx (b : List Bool) (n i : Nat) : Hs := ⟨[.ls false .bool b,.v (.bool true),.v (.int .i64 (.ofNat n)),.v (.int .i64 (.ofNat i))],[],[]⟩
theorem sIx (b : List Bool) (n i : Nat) : zWm OX LX (iIx b n i) = bif Nat.blt i n then (bif Nat.blt i b.length then (bif true == bAt b i then some (.inr (.r,⟨[.v (.int .i64 (.ofNat i))],[],[]⟩)) else nx i (.inl (iIx b n (i + 1)))) else none) else some (.inr (.x 0,⟨[],[],[]⟩)) := by kernel_rfl
noncomputable def iR (l : List Rt) (b : List Bool) (e : Int) (i : Nat) : Hs := ⟨[.ls false zZ l,.ls false .bool b,.v (.int .i64 e),.v (.int .i64 (.ofNat i))],[],[]⟩
noncomputable def oR (l : List Rt) (b : List Bool) (e : Int) : Hs := ⟨[.ls false zZ l,.ls false .bool b,.v (.int .i64 e)],[],[]⟩
theorem sR0 (l : List Rt) (b : List Bool) (e : Int) (i : Nat) : zWo OX LX (iR l b e i) = bif Nat.blt i b.length then (bif Nat.blt i b.length then (bif bAt b i then (bif ilt e 0 then nx i (.inl (iR l b (.ofNat i) (i + 1))) else nx i (.inl (iR l b e (i + 1)))) else nx i (.inl (iR l b e (i + 1)))) else none) else some (.inr (.x 0,oR l b e)) := by kernel_rfl
theorem sR1 (l : List Rt) (b : List Bool) (e : Int) (i : Nat) : zWp OX LX (iR l b e i) = bif Nat.blt i l.length then (bif Nat.blt i l.length then (bif !ieq (rAt l i).chk 0 then some (.inr (.r,⟨[.v (.int .i64 0),.v (.int .i64 (rAt l i).chk)],[],[]⟩)) else nx i (.inl (iR l b e (i + 1)))) else none) else some (.inr (.x 2,oR l b e)) := by kernel_rfl
theorem sR2 (l : List Rt) (b : List Bool) (e : Int) (i : Nat) : zWq OX LX (iR l b e i) = bif Nat.blt i l.length then (bif Nat.blt i b.length then (bif bAt b i then (bif Nat.blt i l.length then (bif nng e then (bif Nat.blt e.toNat l.length then (bif bAt b i then (bif zUd (rAt l i) (rAt l e.toNat) then (bif ilt (vE (rAt l i).rat (rAt l e.toNat).rat) 0 then nx i (.inl (iR l b (.ofNat i) (i + 1))) else nx i (.inl (iR l b e (i + 1)))) else none) else nx i (.inl (iR l b e (i + 1)))) else none) else none) else none) else (bif bAt b i then none else nx i (.inl (iR l b e (i + 1))))) else none) else some (.inr (.x 4,⟨[.v (.int .i64 e)],[],[]⟩)) := by kernel_rfl
noncomputable def iP (l m : List Rt) (b : List Bool) (e : Int) (n i : Nat) : Hs := ⟨[.ls false zZ l,.v (.int .i64 e),.ls false zZ m,.v (.int .i64 (.ofNat n)),.v (.int .i64 (.ofNat i))],[],[[.ls false .bool b]]⟩
theorem sP (l m : List Rt) (b : List Bool) (e : Int) (n i : Nat) : zWn OX LX (iP l m b e n i) = bif Nat.blt i n then (bif Nat.blt i m.length then (bif !ieq e 0 then nx i (.inl (iP l m b e n (i + 1))) else (bif !ieq (rAt m i).chk 0 then nx i (.inl (iP l m b (rAt m i).chk n (i + 1))) else nx i (.inl (iP l m b 0 n (i + 1))))) else none) else some (.inr (.x 1,⟨[.ls false zZ l,.v (.int .i64 e)],[],[[.ls false .bool b]]⟩)) := by kernel_rfl
noncomputable def iF (l : List Rt) (b : List Bool) (e : Int) (n i : Nat) : Hs := ⟨[.ls false zZ l,.v (.int .i64 e),.v (.int .i64 (.ofNat n)),.v (.int .i64 (.ofNat i))],[],[[.ls false .bool b],[]]⟩
theorem sF (l : List Rt) (b : List Bool) (e : Int) (n i : Nat) : zWl OX LX (iF l b e n i) = bif Nat.blt i n then (bif Nat.blt i b.length then (bif !bAt b i then nx i (.inl (iF l b e n (i + 1))) else (bif ilt e 0 then (bif ilt e 0 then nx i (.inl (iF l b (.ofNat i) n (i + 1))) else none) else (bif Nat.blt i l.length then (bif nng e then (bif Nat.blt e.toNat l.length then (bif ilt e 0 then nx i (.inl (iF l b (.ofNat i) n (i + 1))) else (bif ilt (rT (rAt l i) (rAt l e.toNat)) 0 then nx i (.inl (iF l b (.ofNat i) n (i + 1))) else nx i (.inl (iF l b e n (i + 1))))) else none) else none) else none))) else none) else some (.inr (.x 0,⟨[.v (.int .i64 e)],[],[[],[]]⟩)) := by kernel_rfl
theorem aM : Tryz.prog.follows .mixedOrders = true := by kernel_rfl
theorem dF {az : List T} {tv : T} {nw : Bool} {p : List Ar → Option Rs} (h : (kcD p true az).run = some (tv,nw)) : nw = true := by
 unfold kcD at h
 split at h
 ·obtain ⟨y,_,h3⟩ := zN h; cases h3; rfl
 ·cases h
theorem qRo : KC Tryz.prog 51 (fun az => (qBo az).run) false := by
 intro w X hX az vs hv y hp
 unfold qBo at hp
 simp only at hp
 split at hp
 ·rename_i a
  obtain ⟨h1,h2⟩ := zY hp
  cases h2
  match vs,hv with
  | [va],⟨hva,_⟩ =>
   obtain ⟨a1,a2,a3,a4,a5,a6,rfl,k1,k2⟩ := hva
   simp only [zMv,Bool.and_eq_true,Nat.ble_eq] at h1
   refine (zTs w X hX a _ _ _ k1 _ _ _ k2 (by rw [k1.hlen]; omega) (by rw [k2.hlen]; omega)).mono ?_
   rintro e w' ⟨hu,v,rfl,h⟩
   exact ⟨hu,v,rfl,h⟩
 ·cases hp
theorem kOrd : KC Tryz.prog 53 (fun az => (qPq az).run) true := by
 intro w X hX az vs hv y hp
 unfold qPq at hp
 simp only at hp
 split at hp
 ·rename_i a b
  obtain ⟨h1,h2⟩ := zY hp
  cases h2
  match vs,hv with
  | [va,vb],⟨hva,hvb,_⟩ =>
   obtain ⟨a1,a2,a3,a4,a5,a6,rfl,k1,k2⟩ := hva
   obtain ⟨b1,b2,b3,b4,b5,b6,rfl,k3,k4⟩ := hvb
   simp only [zUd,Bool.and_eq_true,decide_eq_true_eq] at h1
   refine (qBj w X hX a _ _ _ k1 _ _ _ k2 b _ _ _ k3 _ _ _ k4 (qJb h1.1) (qJb h1.2)).mono ?_
   rintro e w' ⟨hu,v,rfl,h⟩
   exact ⟨hu,v,rfl,h⟩
 ·cases hp
theorem vR : bU Tryz.prog (odT qOy) :=
 yL (yL (yL (yL (yL (yL qAq fun az tv nw h k => by obtain rfl := dF h; exact zJg kCmp az tv h k) fun az tv nw h k => by obtain rfl := dF h; exact zJg qIv az tv h k) fun az tv nw h k => by obtain rfl := dF h; exact zJg kChk az tv h k) fun az tv nw h k => by obtain rfl := dF h; exact zJg kEq az tv h k) fun az tv nw h k => zZn kOrd az tv nw h k) fun az tv nw h k => zZn qRo az tv nw h k
theorem wN : zFy Tryz.prog (evD Tryz.prog OX LX 60) := zYp aM vR zPv 60
def okL (l : List Rt) : Bool := Nat.ble l.length 900 && l.all fun x => zMv (rw' x)
theorem qPa {l : List Rt} (h : okL l = true) : l.length ≤ 900 ∧ ∀ i,i < l.length → zMv (rAt l i) = true := by
 simp only [okL,Bool.and_eq_true,Nat.ble_eq,List.all_eq_true] at h
 refine ⟨h.1,fun i hi => h.2 _ ?_⟩
 rw [qV]
 have : l.getD i zZ.zero = l[i] := by simp [hi]
 rw [this]
 exact List.getElem_mem hi
theorem itCr {l : List Rt} (h : okL l = true) : ∃ m,It (zLd OX LX) m (iCr l 0 []) (.x 0,⟨[],[.ls false zZ l.reverse],[]⟩) := by
 obtain ⟨h1,h2⟩ := qPa h
 have hlen : ∀ i (a : List Rt),i ≤ l.length → a = (l.take i).reverse → a.length = i := fun i a hi e => by subst e; simp; omega
 have := vQ (st := zLd OX LX) (iv := iCr l) (g := fun i (a : List Rt) => (.inl (nth zZ.zero l i :: a) : List Rt ⊕ List Rt)) (d := id) (out := fun a => (.x 0,⟨[],[.ls false zZ a],[]⟩)) (n := l.length) (fun i a => a = (l.take i).reverse)
  (fun i a hi hJ => by
   have hl := hlen i a (by omega) hJ
   cases a with
   | nil => rw [sCr0]; simp only [jR hi,h2 i hi,cond_true,nT (show i < 1000 by omega)]
   | cons x a =>
    rw [sCr1]
    simp only [List.length_cons] at hl
    simp only [jR hi,h2 i hi,cond_true,kS (show a.length + 1 + 1 ≤ 1000000 by omega),kG,jR (show i + 1 < 9223372036854775808 by omega)])
  (fun i a b hi hJ hg => by
   cases hg
   rw [hJ,List.take_add_one,List.reverse_append,qV]
   simp [hi])
  (fun a hJ => by
   cases a with
   | nil => rw [sCr0]; simp only [xO (Nat.le_refl _),cond_false]; rfl
   | cons x a => rw [sCr1]; simp only [xO (Nat.le_refl _),cond_false,kG,cond_true]; rfl) l.length 0 [] (by omega) (by simp)
 have e := zDg l zZ.zero l.length 0 (by omega)
 simp only [List.take_zero,List.reverse_nil] at e
 rwa [e] at this
noncomputable def hCr : Hs → DT (Ex × Hs)
 | ⟨[.ls false zZ l,.v (.int .i64 (.ofNat 0))],[.ls false zZ []],[]⟩ => grd (okL l) (.ite (emp l) (.ret (.x 0,⟨[],[.ls false zZ []],[]⟩)) (.ret (.x 0,⟨[],[.ls false zZ (cns zZ.zero l)],[]⟩)))
 | _ => .no
theorem qLd : ∀ q y,(hCr q).run = some y → ∃ n,It (zLd OX LX) n q y := fun q y h => by
 unfold hCr at h
 split at h
 ·rename_i l
  obtain ⟨h1,h2⟩ := zY h
  have hi := itCr h1
  cases he : emp l with
  | true =>
   simp only [he,DT.run,cond_true,Option.some.injEq] at h2
   subst h2
   rw [tJ.1 he] at hi ⊢
   exact hi
  | false =>
   simp only [he,DT.run,cond_false,Option.some.injEq] at h2
   subst h2
   rw [zIt zZ.zero (fun e => by rw [tJ.2 e] at he; cases he)]
   exact hi
 ·cases h
def okB (l : List Bool) : Bool := Nat.ble l.length 900
theorem itCb {l : List Bool} (h : okB l = true) : ∃ m,It (zLc OX LX) m (iCb l 0 []) (.x 0,⟨[],[.ls false .bool l.reverse],[]⟩) := by
 have h1 : l.length ≤ 900 := by simpa [okB] using h
 have hlen : ∀ i (a : List Bool),i ≤ l.length → a = (l.take i).reverse → a.length = i := fun i a hi e => by subst e; simp; omega
 have := vQ (st := zLc OX LX) (iv := iCb l) (g := fun i (a : List Bool) => (.inl (nth Ty.bool.zero l i :: a) : List Bool ⊕ List Bool)) (d := id) (out := fun a => (.x 0,⟨[],[.ls false .bool a],[]⟩)) (n := l.length) (fun i a => a = (l.take i).reverse)
  (fun i a hi hJ => by
   have hl := hlen i a (by omega) hJ
   cases a with
   | nil => rw [sCb0]; simp only [jR hi,cond_true,nT (show i < 1000 by omega)]
   | cons x a =>
    rw [sCb1]
    simp only [List.length_cons] at hl
    simp only [jR hi,cond_true,kS (show a.length + 1 + 1 ≤ 1000000 by omega),kG,jR (show i + 1 < 9223372036854775808 by omega)])
  (fun i a b hi hJ hg => by
   cases hg
   rw [hJ,List.take_add_one,List.reverse_append,qV]
   simp [hi])
  (fun a hJ => by
   cases a with
   | nil => rw [sCb0]; simp only [xO (Nat.le_refl _),cond_false]; rfl
   | cons x a => rw [sCb1]; simp only [xO (Nat.le_refl _),cond_false,kG,cond_true]; rfl) l.length 0 [] (by omega) (by simp)
 have e := zDg l Ty.bool.zero l.length 0 (by omega)
 simp only [List.take_zero,List.reverse_nil] at e
 rwa [e] at this
noncomputable def hCb : Hs → DT (Ex × Hs)
 | ⟨[.ls false .bool l,.v (.int .i64 (.ofNat 0))],[.ls false .bool []],[]⟩ => grd (okB l) (.ite (emp l) (.ret (.x 0,⟨[],[.ls false .bool []],[]⟩)) (.ret (.x 0,⟨[],[.ls false .bool (cns Ty.bool.zero l)],[]⟩)))
 | _ => .no
theorem qLc : ∀ q y,(hCb q).run = some y → ∃ n,It (zLc OX LX) n q y := fun q y h => by
 unfold hCb at h
 split at h
 ·rename_i l
  obtain ⟨h1,h2⟩ := zY h
  have hi := itCb h1
  cases he : emp l with
  | true =>
   simp only [he,DT.run,cond_true,Option.some.injEq] at h2
   subst h2
   rw [tJ.1 he] at hi ⊢
   exact hi
  | false =>
   simp only [he,DT.run,cond_false,Option.some.injEq] at h2
   subst h2
   rw [zIt Ty.bool.zero (fun e => by rw [tJ.2 e] at he; cases he)]
   exact hi
 ·cases h
def zJu (a b : List Rt) : Bool := decide (a = b) && Nat.ble a.length 900
def zJt (a b : List Bool) : Bool := decide (a = b) && Nat.ble a.length 900
noncomputable def hEr : Hs → DT (Ex × Hs)
 | ⟨[.ls false zZ a,.ls false zZ b,.v (.int .i64 (.ofNat 0))],[],[]⟩ => grd (zJu a b) (.ret (.x 0,⟨[],[],[]⟩))
 | _ => .no
noncomputable def hEb : Hs → DT (Ex × Hs)
 | ⟨[.ls false .bool a,.ls false .bool b,.v (.int .i64 (.ofNat 0))],[],[]⟩ => grd (zJt a b) (.ret (.x 0,⟨[],[],[]⟩))
 | _ => .no
theorem qLf : ∀ q y,(hEr q).run = some y → ∃ n,It (zWk OX LX) n q y := fun q y h => by
 unfold hEr at h
 split at h
 ·rename_i a b
  obtain ⟨h1,h2⟩ := zY h
  cases h2
  simp only [zJu,Bool.and_eq_true,decide_eq_true_eq,Nat.ble_eq] at h1
  obtain ⟨rfl,h1⟩ := h1
  have := vQ (st := zWk OX LX) (iv := fun i (_ : Unit) => iEr a a i) (g := fun _ _ => (.inl () : Unit ⊕ Unit)) (d := fun _ => ()) (out := fun _ => (.x 0,⟨[],[],[]⟩)) (n := a.length) (fun _ _ => True)
   (fun i _ hi _ => by rw [sEr]; simp only [jR hi,cond_true,decide_true,Bool.not_true,cond_false,nT (show i < 1000 by omega)]) (fun _ _ _ _ _ _ => trivial)
   (fun _ _ => by rw [sEr]; simp only [xO (Nat.le_refl _),cond_false]) a.length 0 () (by omega) trivial
  exact this
 ·cases h
theorem qLe : ∀ q y,(hEb q).run = some y → ∃ n,It (zWj OX LX) n q y := fun q y h => by
 unfold hEb at h
 split at h
 ·rename_i a b
  obtain ⟨h1,h2⟩ := zY h
  cases h2
  simp only [zJt,Bool.and_eq_true,decide_eq_true_eq,Nat.ble_eq] at h1
  obtain ⟨rfl,h1⟩ := h1
  have := vQ (st := zWj OX LX) (iv := fun i (_ : Unit) => iEb a a i) (g := fun _ _ => (.inl () : Unit ⊕ Unit)) (d := fun _ => ()) (out := fun _ => (.x 0,⟨[],[],[]⟩)) (n := a.length) (fun _ _ => True)
   (fun i _ hi _ => by rw [sEb]; simp only [jR hi,cond_true,beq_self_eq_true,Bool.not_true,cond_false,nT (show i < 1000 by omega)]) (fun _ _ _ _ _ _ => trivial)
   (fun _ _ => by rw [sEb]; simp only [xO (Nat.le_refl _),cond_false]) a.length 0 () (by omega) trivial
  exact this
 ·cases h
noncomputable def lgX (x : Rt) : Bool := (ilt (.ofNat 6) (.ofNat x.2.1.length) && !ilt (.ofNat 128) (.ofNat x.2.1.length)) || ((ilt (.ofNat 6) (.ofNat x.2.2.length) && !ilt (.ofNat 128) (.ofNat x.2.2.length)) || (ilt (.ofNat 200) (.ofNat x.2.1.length) || ilt (.ofNat 200) (.ofNat x.2.2.length)))
noncomputable def gLg (l : List Rt) (i : Nat) (_ : Unit) : Unit ⊕ Bool := bif lgX (nth zZ.zero l i) then .inr true else .inl ()
noncomputable def lgF (l : List Rt) : Bool := fol (gLg l) (fun _ => false) l.length 0 ()
noncomputable def qGi (y : Bool) : Ex × Hs := bif y then (.r,⟨[.v (.bool true)],[],[]⟩) else (.x 0,⟨[],[],[]⟩)
theorem sLg2 (l : List Rt) (i : Nat) (hi : i < l.length) (h9 : l.length ≤ 900) : zQz OX LX (iLg l i) = bif lgX (nth zZ.zero l i) then qBl else some (.inl (iLg l (i + 1))) := by
 rw [sLg]
 simp only [jR hi,cond_true,qOq,lgC,nT (show i < 1000 by omega)]
 unfold lgX
 cases ilt (.ofNat 6) (.ofNat (nth zZ.zero l i).2.1.length) <;> cases ilt (.ofNat 128) (.ofNat (nth zZ.zero l i).2.1.length) <;> cases ilt (.ofNat 6) (.ofNat (nth zZ.zero l i).2.2.length) <;> cases ilt (.ofNat 128) (.ofNat (nth zZ.zero l i).2.2.length) <;> cases ilt (.ofNat 200) (.ofNat (nth zZ.zero l i).2.1.length) <;> cases ilt (.ofNat 200) (.ofNat (nth zZ.zero l i).2.2.length) <;> rfl
noncomputable def hLg : Hs → DT (Ex × Hs)
 | ⟨[.ls false zZ l,.v (.int .i64 (.ofNat 0))],[],[]⟩ => grd (Nat.ble l.length 900) (.ite (lgF l) (.ret (.r,⟨[.v (.bool true)],[],[]⟩)) (.ret (.x 0,⟨[],[],[]⟩)))
 | _ => .no
theorem qLh : ∀ q y,(hLg q).run = some y → ∃ n,It (zQz OX LX) n q y := fun q y h => by
 unfold hLg at h
 split at h
 ·rename_i l
  obtain ⟨h1,h2⟩ := zY h
  rw [Nat.ble_eq] at h1
  have := vQ (st := zQz OX LX) (iv := fun i (_ : Unit) => iLg l i) (g := gLg l) (d := fun _ => false) (out := qGi) (n := l.length) (fun _ _ => True)
   (fun i _ hi _ => by
    rw [sLg2 l i hi h1]
    unfold gLg
    cases lgX (nth zZ.zero l i) <;> rfl) (fun _ _ _ _ _ _ => trivial)
   (fun _ _ => by rw [sLg]; simp only [xO (Nat.le_refl _),cond_false]; rfl) l.length 0 () (by omega) trivial
  have e : qGi (lgF l) = y := by
   unfold qGi
   cases hf : lgF l with
   | true => simp only [hf,DT.run,cond_true,Option.some.injEq] at h2 ⊢; exact h2
   | false => simp only [hf,DT.run,cond_false,Option.some.injEq] at h2 ⊢; exact h2
  rw [← e]
  exact this
 ·cases h
noncomputable def outI : Int → Ex × Hs
 | .ofNat i => (.r,⟨[.v (.int .i64 (.ofNat i))],[],[]⟩)
 | .negSucc _ => (.x 0,⟨[],[],[]⟩)
noncomputable def hIx : Hs → DT (Ex × Hs)
 | ⟨[.ls false .bool b,.v (.bool true),.v (.int .i64 (.ofNat n)),.v (.int .i64 (.ofNat 0))],[],[]⟩ => grd (Nat.beq n b.length && Nat.ble b.length 900) (.ite (nng (ixB b)) (.ret (.r,⟨[.v (.int .i64 (ixB b))],[],[]⟩)) (.ret (.x 0,⟨[],[],[]⟩)))
 | _ => .no
theorem qLg : ∀ q y,(hIx q).run = some y → ∃ n,It (zWm OX LX) n q y := fun q y h => by
 unfold hIx at h
 split at h
 ·rename_i b n
  obtain ⟨h1,h2⟩ := zY h
  simp only [Bool.and_eq_true,Nat.ble_eq] at h1
  obtain ⟨hn,h1⟩ := h1
  obtain rfl := qD hn
  have := vQ (st := zWm OX LX) (iv := fun i (_ : Unit) => iIx b b.length i) (g := gIx b) (d := fun _ => -1) (out := outI) (n := b.length) (fun _ _ => True)
   (fun i _ hi _ => by
    rw [sIx]
    simp only [jR hi,cond_true,nT (show i < 1000 by omega),gIx]
    cases bAt b i <;> rfl) (fun _ _ _ _ _ _ => trivial)
   (fun _ _ => by rw [sIx]; simp only [xO (Nat.le_refl _),cond_false]; rfl) b.length 0 () (by omega) trivial
  have e : outI (ixB b) = y := by
   cases hf : ixB b with
   | ofNat i => simp only [hf,nng,DT.run,cond_true,Option.some.injEq] at h2; exact h2
   | negSucc i => simp only [hf,nng,DT.run,cond_false,Option.some.injEq] at h2; exact h2
  rw [← e]
  exact this
 ·cases h
noncomputable def hR0 : Hs → DT (Ex × Hs)
 | ⟨[.ls false zZ l,.ls false .bool b,.v (.int .i64 (.negSucc 0)),.v (.int .i64 (.ofNat 0))],[],[]⟩ => grd (Nat.ble b.length 900) (.ret (.x 0,oR l b (r0 b)))
 | _ => .no
theorem qLi : ∀ q y,(hR0 q).run = some y → ∃ n,It (zWo OX LX) n q y := fun q y h => by
 unfold hR0 at h
 split at h
 ·rename_i l b
  obtain ⟨h1,h2⟩ := zY h
  rw [Nat.ble_eq] at h1
  cases h2
  exact vQ (st := zWo OX LX) (iv := fun i e => iR l b e i) (g := gR0 b) (d := id) (out := fun e => (.x 0,oR l b e)) (n := b.length) (fun _ _ => True)
   (fun i e hi _ => by
    rw [sR0]
    simp only [jR hi,cond_true,nT (show i < 1000 by omega),gR0]
    cases bAt b i <;> cases ilt e 0 <;> rfl) (fun _ _ _ _ _ _ => trivial)
   (fun e _ => by rw [sR0]; simp only [xO (Nat.le_refl _),cond_false]; rfl) b.length 0 (-1) (by omega) trivial
 ·cases h
noncomputable def hR1 : Hs → DT (Ex × Hs)
 | ⟨[.ls false zZ l,.ls false .bool b,.v (.int .i64 e),.v (.int .i64 (.ofNat 0))],[],[]⟩ => grd (Nat.ble l.length 900) (.ite (decide (ck l = 0)) (.ret (.x 2,oR l b e)) (.ret (.r,⟨[.v (.int .i64 0),.v (.int .i64 (ck l))],[],[]⟩)))
 | _ => .no
theorem qLj : ∀ q y,(hR1 q).run = some y → ∃ n,It (zWp OX LX) n q y := fun q y h => by
 unfold hR1 at h
 split at h
 ·rename_i l b e
  obtain ⟨h1,h2⟩ := zY h
  rw [Nat.ble_eq] at h1
  have := vQ (st := zWp OX LX) (iv := fun i (_ : Unit) => iR l b e i) (g := gCk l) (d := fun _ => (0 : Int)) (out := fun c => if c = 0 then (.x 2,oR l b e) else (.r,⟨[.v (.int .i64 0),.v (.int .i64 c)],[],[]⟩)) (n := l.length) (fun _ _ => True)
   (fun i _ hi _ => by
    rw [sR1]
    simp only [jR hi,cond_true,nT (show i < 1000 by omega),gCk]
    by_cases hc : (rAt l i).chk = 0
    ·simp only [zRr hc,Bool.not_true,cond_false,if_pos hc]
    ·simp only [zRp hc,Bool.not_false,cond_true,if_neg hc]) (fun _ _ _ _ _ _ => trivial)
   (fun _ _ => by rw [sR1]; simp only [xO (Nat.le_refl _),cond_false,if_true]) l.length 0 () (by omega) trivial
  have e2 : (if ck l = 0 then (Ex.x 2,oR l b e) else (Ex.r,⟨[.v (.int .i64 0),.v (.int .i64 (ck l))],[],[]⟩)) = y := by
   by_cases hc : ck l = 0
   ·simp only [hc,decide_true,DT.run,cond_true,Option.some.injEq] at h2; rw [if_pos hc]; exact h2
   ·simp only [hc,decide_false,DT.run,cond_false,Option.some.injEq] at h2; rw [if_neg hc]; exact h2
  rw [← e2]
  exact this
 ·cases h
noncomputable def zVc (l : List Rt) (b : List Bool) (e : Int) : Bool := nng e && (Nat.blt e.toNat l.length && (decide (ck l = 0) && (Nat.beq b.length l.length && Nat.ble l.length 900)))
noncomputable def hR2 : Hs → DT (Ex × Hs)
 | ⟨[.ls false zZ l,.ls false .bool b,.v (.int .i64 e),.v (.int .i64 (.ofNat 0))],[],[]⟩ => grd (zVc l b e) (.ret (.x 4,⟨[.v (.int .i64 (fol (gR2 l b) id l.length 0 e))],[],[]⟩))
 | _ => .no
theorem qLk : ∀ q y,(hR2 q).run = some y → ∃ n,It (zWq OX LX) n q y := fun q y h => by
 unfold hR2 at h
 split at h
 ·rename_i l b e
  obtain ⟨h1,h2⟩ := zY h
  simp only [zVc,Bool.and_eq_true,Nat.ble_eq,Nat.blt_eq,decide_eq_true_eq] at h1
  obtain ⟨g1,g2,g3,g4,g5⟩ := h1
  have g4 := qD g4
  cases h2
  have hc : ∀ j,j < l.length → (rAt l j).chk = 0 := fun j hj => zPc l l.length 0 g3 j (Nat.zero_le _) (by omega)
  exact vQ (st := zWq OX LX) (iv := fun i e => iR l b e i) (g := gR2 l b) (d := id) (out := fun e => (.x 4,⟨[.v (.int .i64 e)],[],[]⟩)) (n := l.length) (fun _ e => nng e = true ∧ e.toNat < l.length)
   (fun i e hi hJ => by
    rw [sR2]
    have hk : zUd (rAt l i) (rAt l e.toNat) = true := by simp [zUd,hc i hi,hc _ hJ.2]
    simp only [jR hi,jR (show i < b.length by omega),hJ.1,jR hJ.2,hk,cond_true,nT (show i < 1000 by omega),gR2]
    cases bAt b i with
    | false => rfl
    | true => cases ilt (vE (rAt l i).rat (rAt l e.toNat).rat) 0 <;> rfl)
   (fun i e e' hi hJ hg => by
    simp only [gR2,Sum.inl.injEq] at hg
    subst hg
    cases bAt b i && ilt (vE (rAt l i).rat (rAt l e.toNat).rat) 0 with
    | true => exact ⟨rfl,hi⟩
    | false => exact hJ)
   (fun e _ => by rw [sR2]; simp only [xO (Nat.le_refl _),cond_false]; rfl) l.length 0 e (by omega) ⟨g1,g2⟩
 ·cases h
noncomputable def hP : Hs → DT (Ex × Hs)
 | ⟨[.ls false zZ l,.v (.int .i64 (.ofNat 0)),.ls false zZ m,.v (.int .i64 (.ofNat n)),.v (.int .i64 (.ofNat 0))],[],[[.ls false .bool b]]⟩ => grd (Nat.beq n m.length && Nat.ble n 900) (.ret (.x 1,⟨[.ls false zZ l,.v (.int .i64 (ce m))],[],[[.ls false .bool b]]⟩))
 | _ => .no
theorem qRl : ∀ q y,(hP q).run = some y → ∃ n,It (zWn OX LX) n q y := fun q y h => by
 unfold hP at h
 split at h
 ·rename_i l m n b
  obtain ⟨h1,h2⟩ := zY h
  simp only [Bool.and_eq_true,Nat.ble_eq] at h1
  obtain ⟨hn,h1⟩ := h1
  obtain rfl := qD hn
  cases h2
  exact vQ (st := zWn OX LX) (iv := fun i e => iP l m b e m.length i) (g := gCe m) (d := id) (out := fun e => (.x 1,⟨[.ls false zZ l,.v (.int .i64 e)],[],[[.ls false .bool b]]⟩)) (n := m.length) (fun _ _ => True)
   (fun i e hi _ => by
    rw [sP]
    simp only [jR hi,cond_true,nT (show i < 1000 by omega),gCe]
    by_cases he : e = 0
    ·subst he
     simp only [zRr rfl,Bool.not_true,cond_false,if_true]
     by_cases hc : (rAt m i).chk = 0
     ·rw [hc]; rfl
     ·simp only [zRp hc,Bool.not_false,cond_true]
    ·simp only [zRp he,Bool.not_false,cond_true,if_neg he]) (fun _ _ _ _ _ _ => trivial)
   (fun e _ => by rw [sP]; simp only [xO (Nat.le_refl _),cond_false]; rfl) m.length 0 0 (by omega) trivial
 ·cases h
noncomputable def hF : Hs → DT (Ex × Hs)
 | ⟨[.ls false zZ l,.v (.int .i64 (.negSucc 0)),.v (.int .i64 (.ofNat n)),.v (.int .i64 (.ofNat 0))],[],[[.ls false .bool b],[]]⟩ => grd (Nat.beq n l.length && (Nat.beq b.length l.length && Nat.ble n 900)) (.ret (.x 0,⟨[.v (.int .i64 (ft l b))],[],[[],[]]⟩))
 | _ => .no
theorem qRk : ∀ q y,(hF q).run = some y → ∃ n,It (zWl OX LX) n q y := fun q y h => by
 unfold hF at h
 split at h
 ·rename_i l n b
  obtain ⟨h1,h2⟩ := zY h
  simp only [Bool.and_eq_true,Nat.ble_eq] at h1
  obtain ⟨hn,hb,h1⟩ := h1
  obtain rfl := qD hn
  have hb := qD hb
  cases h2
  exact vQ (st := zWl OX LX) (iv := fun i e => iF l b e l.length i) (g := gFt l b) (d := id) (out := fun e => (.x 0,⟨[.v (.int .i64 e)],[],[[],[]]⟩)) (n := l.length) (fun i e => e < i ∧ i ≤ l.length)
   (fun i e hi hJ => by
    rw [sF]
    simp only [jR hi,jR (show i < b.length by omega),cond_true,nT (show i < 1000 by omega),gFt]
    cases bAt b i with
    | false => rfl
    | true =>
     simp only [Bool.not_true,cond_false,cond_true]
     cases he : ilt e 0 with
     | true => simp only [cond_true]
     | false =>
      have h0 : 0 ≤ e := Int.not_lt.1 fun hlt => by rw [qRn hlt] at he; cases he
      have hnn : nng e = true := by cases e with | ofNat _ => rfl | negSucc _ => exact absurd h0 (by omega)
      simp only [hnn,jR (show e.toNat < l.length by omega),cond_false,cond_true]
      cases ilt (rT (rAt l i) (rAt l e.toNat)) 0 <;> rfl)
   (fun i e e' hi hJ hg => by
    simp only [gFt,Sum.inl.injEq] at hg
    subst hg
    cases bAt b i with
    | false => simp only [cond_false]; omega
    | true =>
     simp only [cond_true]
     cases ilt e 0 with
     | true => simp only [cond_true]; exact ⟨Int.ofNat_lt.2 (Nat.lt_succ_self i),by omega⟩
     | false =>
      simp only [cond_false]
      cases ilt (rT (rAt l i) (rAt l e.toNat)) 0 with
      | true => simp only [cond_true]; exact ⟨Int.ofNat_lt.2 (Nat.lt_succ_self i),by omega⟩
      | false => simp only [cond_false]; omega)
   (fun e _ => by rw [sF]; simp only [xO (Nat.le_refl _),cond_false]; rfl) l.length 0 (-1) (by omega) ⟨by decide,by omega⟩
 ·cases h
noncomputable abbrev LT : Lo := loT [(16,[false,true,false,true,true],Lcr.row hCr),(17,[false,true,false,true,true],Lcb.row hCb),(20,[false,true,false,true,true],Ler.row hEr),(21,[false,true,false,true,true],Leb.row hEb),(14,[false,true,false,true],Llg.row hLg),(105,[false,true,false,true],Lix.row hIx),(18,[false,true,false,true,true,true,true],Lr0.row hR0),(18,[false,true,false,true,true,true,true,true,true],Lr1.row hR1),(18,[false,true,false,true,true,true,true,true,true,true],Lr2.row hR2),(19,[false,true,false,true,true,true],Lll.row hP),(58,[false,true,false,true,true],Lft.row hF)]
theorem nP : zTt Tryz.prog LT := xF (xF (xF (xF (xF (xF (xF (xF (xF (xF (xF (zPv) wN qJj qRk) wN qJn qRl) wN qJq qLk) wN qJp qLj) wN qJo qLi) wN qJl qLg) wN qJm qLh) wN qJh qLe) wN qJi qLf) wN qJe qLc) wN qJf qLd
theorem eCr (l : List Rt) : ((gF Tryz.prog (evD Tryz.prog OX LT 60) 16 [.ls false zZ l] []).bind aK).run = bif okL l then (bif emp l then some (.v (.slice none 0 0),true) else (bif Nat.beq (l.reverse.tail.length + 1) (l.reverse.tail.length + 1) then some (.ls false zZ (cns zZ.zero l).reverse,false) else none)) else none := by kernel_rfl
theorem kCr {l : List Rt} (h : okL l = true) (k : Nat) : KnP Tryz.prog k 16 [.ls false zZ l] (.ls false zZ l) false := by
 have e := eCr l
 rw [h] at e
 cases he : emp l with
 | true =>
  rw [he] at e
  obtain rfl := tJ.1 he
  exact (pQ (cz := [.ls false zZ []]) aM vR nP e rfl k).old.res fun B r v h => qAi h
 | false =>
  rw [he] at e
  simp only [cond_true,cond_false,kG] at e
  rw [zIt zZ.zero (fun e => by rw [tJ.2 e] at he; cases he),List.reverse_reverse] at e
  exact pQ (cz := [.ls false zZ l]) aM vR nP e rfl k
theorem eCb (l : List Bool) : ((gF Tryz.prog (evD Tryz.prog OX LT 60) 17 [.ls false .bool l] []).bind aK).run = bif okB l then (bif emp l then some (.v (.slice none 0 0),true) else (bif Nat.beq (l.reverse.tail.length + 1) (l.reverse.tail.length + 1) then some (.ls false .bool (cns Ty.bool.zero l).reverse,false) else none)) else none := by kernel_rfl
theorem kCb {l : List Bool} (h : okB l = true) (k : Nat) : KnP Tryz.prog k 17 [.ls false .bool l] (.ls false .bool l) false := by
 have e := eCb l
 rw [h] at e
 cases he : emp l with
 | true =>
  rw [he] at e
  obtain rfl := tJ.1 he
  exact (pQ (cz := [.ls false .bool []]) aM vR nP e rfl k).old.res fun B r v h => qAi h
 | false =>
  rw [he] at e
  simp only [cond_true,cond_false,kG] at e
  rw [zIt Ty.bool.zero (fun e => by rw [tJ.2 e] at he; cases he),List.reverse_reverse] at e
  exact pQ (cz := [.ls false .bool l]) aM vR nP e rfl k
theorem eEr (l m : List Rt) : ((gF Tryz.prog (evD Tryz.prog OX LT 60) 20 [.ls false zZ l,.ls false zZ m] []).bind aK).run = bif !Nat.beq l.length m.length then some (.v (.bool false),true) else (bif zJu l m then some (.v (.bool true),true) else none) := by kernel_rfl
theorem kEr {l m : List Rt} (h : zJu l m = true) (k : Nat) : KnP Tryz.prog k 20 [.ls false zZ l,.ls false zZ m] (.v (.bool true)) true := by
 have e := eEr l m
 have h2 := h
 simp only [zJu,Bool.and_eq_true,decide_eq_true_eq] at h2
 obtain ⟨rfl,_⟩ := h2
 simp only [kG,Bool.not_true,cond_false,h,cond_true] at e
 exact pQ (cz := [.ls false zZ l,.ls false zZ l]) aM vR nP e rfl k
theorem eEb (l m : List Bool) : ((gF Tryz.prog (evD Tryz.prog OX LT 60) 21 [.ls false .bool l,.ls false .bool m] []).bind aK).run = bif !Nat.beq l.length m.length then some (.v (.bool false),true) else (bif zJt l m then some (.v (.bool true),true) else none) := by kernel_rfl
theorem kEb {l m : List Bool} (h : zJt l m = true) (k : Nat) : KnP Tryz.prog k 21 [.ls false .bool l,.ls false .bool m] (.v (.bool true)) true := by
 have e := eEb l m
 have h2 := h
 simp only [zJt,Bool.and_eq_true,decide_eq_true_eq] at h2
 obtain ⟨rfl,_⟩ := h2
 simp only [kG,Bool.not_true,cond_false,h,cond_true] at e
 exact pQ (cz := [.ls false .bool l,.ls false .bool l]) aM vR nP e rfl k
theorem eLg (l : List Rt) : ((gF Tryz.prog (evD Tryz.prog OX LT 60) 14 [.ls false zZ l] []).bind aK).run = bif Nat.ble l.length 900 then (bif lgF l then some (.v (.bool true),true) else some (.v (.bool false),true)) else none := by kernel_rfl
theorem kLg {l : List Rt} (h : Nat.ble l.length 900 = true) (k : Nat) : KnP Tryz.prog k 14 [.ls false zZ l] (.v (.bool (lgF l))) true := by
 have e := eLg l
 rw [h,cond_true] at e
 cases hl : lgF l <;> rw [hl] at e <;> exact pQ (cz := [.ls false zZ l]) aM vR nP e rfl k
noncomputable abbrev two (a b : Int) : Option (T × Bool) := some (.tu [.v (.int .i64 a),.v (.int .i64 b)],true)
theorem eRl (l : List Rt) (b : List Bool) : ((gF Tryz.prog (evD Tryz.prog OX LT 60) 18 [.ls false zZ l,.ls false .bool b] []).bind aK).run = bif Nat.beq l.length 0 then two 0 9 else (bif !Nat.beq b.length l.length then two 0 16 else (bif Nat.ble b.length 900 then (bif ilt (r0 b) 0 then two 0 9 else (bif Nat.ble l.length 900 then (bif decide (ck l = 0) then (bif zVc l b (r0 b) then two (r2 l b) 0 else none) else two 0 (ck l)) else none)) else none)) := by kernel_rfl
theorem qOu {l : List Rt} {b : List Bool} (h1 : l.length ≤ 900) (h2 : b.length ≤ 900) : (bif Nat.beq l.length 0 then two 0 9 else (bif !Nat.beq b.length l.length then two 0 16 else (bif Nat.ble b.length 900 then (bif ilt (r0 b) 0 then two 0 9 else (bif Nat.ble l.length 900 then (bif decide (ck l = 0) then (bif zVc l b (r0 b) then two (r2 l b) 0 else none) else two 0 (ck l)) else none)) else none))) = two (lsB l b) (lsE l b) := by
 unfold lsB lsE
 by_cases e1 : l.length = 0
 ·simp [e1]
 ·rw [zIq e1,cond_false,if_neg e1,if_neg e1]
  by_cases e2 : b.length = l.length
  ·have e2' : ¬ (b.length ≠ l.length) := fun h => h e2
   rw [show Nat.beq b.length l.length = true by rw [e2]; exact kG _,Bool.not_true,cond_false,if_neg e2',if_neg e2',kS h2,cond_true,kS h1,cond_true]
   cases e3 : ilt (r0 b) 0 with
   | true => rfl
   | false =>
    simp only [cond_false,Bool.false_eq_true,if_false]
    by_cases e4 : ck l = 0
    ·obtain ⟨f,hf,hr⟩ := qRz b e3
     have : zVc l b (r0 b) = true := by
      simp only [zVc,hr,e4,decide_true,e2,kG,kS h1,Bool.and_true]
      have : Nat.blt (Int.ofNat f).toNat l.length = true := jR (by simpa using (by omega : f < l.length))
      rw [this]; rfl
     simp only [this,e4,decide_true,cond_true,if_true]
    ·simp only [e4,decide_false,cond_false,if_false]
  ·rw [zIq e2,Bool.not_false,cond_true,if_pos e2,if_pos e2]
theorem kRl {l : List Rt} {b : List Bool} (h1 : l.length ≤ 900) (h2 : b.length ≤ 900) (k : Nat) : KnP Tryz.prog k 18 [.ls false zZ l,.ls false .bool b] (.tu [.v (.int .i64 (lsB l b)),.v (.int .i64 (lsE l b))]) true := by
 have e := eRl l b
 rw [qOu h1 h2] at e
 exact pQ (cz := [.ls false zZ l,.ls false .bool b]) aM vR nP e rfl k
theorem eCt (b : List Bool) : ((gF Tryz.prog (evD Tryz.prog OX LT 60) 54 [.ls false .bool b,.v (.bool true)] []).bind aK).run = bif Nat.beq b.length b.length && Nat.ble b.length 900 then (bif nng (ixB b) then some (.v (.bool (!ilt (ixB b) 0)),true) else some (.v (.bool false),true)) else none := by kernel_rfl
noncomputable def oCt : List T → DT (T × Bool)
 | [.ls false .bool b,.v (.bool true)] => grd (Nat.ble b.length 900) (.ret (.v (.bool (nng (ixB b))),true))
 | _ => .no
theorem kCt {b : List Bool} (h : Nat.ble b.length 900 = true) (k : Nat) : KnP Tryz.prog k 54 [.ls false .bool b,.v (.bool true)] (.v (.bool (nng (ixB b)))) true := by
 have e := eCt b
 simp only [kG,h,Bool.and_self,cond_true] at e
 cases hx : ixB b with
 | ofNat f =>
  have h0 : ilt (Int.ofNat f) 0 = false := zRs (Int.natCast_nonneg f)
  simp only [hx,nng,h0,cond_true,Bool.not_false] at e
  exact pQ (cz := [.ls false .bool b,.v (.bool true)]) aM vR nP e rfl k
 | negSucc f =>
  simp only [hx,nng,cond_false] at e
  exact pQ (cz := [.ls false .bool b,.v (.bool true)]) aM vR nP e rfl k
noncomputable abbrev OZ : Od := odT ((54,odR [.list .bool,.bool] oCt) :: qOy)
theorem qRy : bU Tryz.prog OZ := yL vR (nU fun cz tv nw h k => by
 unfold oCt at h; split at h
 ·obtain ⟨h1,h2⟩ := zY h; cases h2; exact kCt h1 k
 ·cases h)
theorem eLl (l : List Rt) (b : List Bool) : ((gF Tryz.prog (evD Tryz.prog OZ LT 60) 19 [.ls false zZ l,.ls false .bool b] []).bind aK).run = bif Nat.beq l.length 0 then two 0 9 else (bif !Nat.beq b.length l.length then two 0 16 else (bif Nat.ble b.length 900 then (bif !nng (ixB b) then two 0 9 else (bif Nat.beq l.length l.length && Nat.ble l.length 900 then (bif !ieq (ce l) 0 then two 0 (ce l) else (bif Nat.beq l.length l.length && (Nat.beq b.length l.length && Nat.ble l.length 900) then two (ft l b) 0 else none)) else none)) else none)) := by kernel_rfl
theorem qOt {l : List Rt} {b : List Bool} (h1 : l.length ≤ 900) (h2 : b.length ≤ 900) : (bif Nat.beq l.length 0 then two 0 9 else (bif !Nat.beq b.length l.length then two 0 16 else (bif Nat.ble b.length 900 then (bif !nng (ixB b) then two 0 9 else (bif Nat.beq l.length l.length && Nat.ble l.length 900 then (bif !ieq (ce l) 0 then two 0 (ce l) else (bif Nat.beq l.length l.length && (Nat.beq b.length l.length && Nat.ble l.length 900) then two (ft l b) 0 else none)) else none)) else none))) = two (lsB l b) (lsE l b) := by
 unfold lsB lsE
 by_cases e1 : l.length = 0
 ·simp [e1]
 ·rw [zIq e1,cond_false,if_neg e1,if_neg e1]
  by_cases e2 : b.length = l.length
  ·have e2' : ¬ (b.length ≠ l.length) := fun h => h e2
   have e2b : Nat.beq b.length l.length = true := by rw [e2]; exact kG _
   rw [e2b,Bool.not_true,cond_false,if_neg e2',if_neg e2']
   simp only [kG,kS h1,kS h2,Bool.and_self,cond_true,← qCd]
   cases hx : r0 b with
   | negSucc m => simp [nng,ilt]
   | ofNat f =>
    have h0 : ilt (Int.ofNat f) 0 = false := zRs (Int.natCast_nonneg f)
    simp only [nng,h0,Bool.not_true,cond_false,Bool.false_eq_true,if_false,qRg]
    by_cases e4 : ck l = 0
    ·have := zYz e2 (by rw [hx]; exact h0) e4
     rw [zRr e4,if_pos e4,e4,this]; rfl
    ·simp only [zRp e4,Bool.not_false,cond_true,if_neg e4]
  ·rw [zIq e2,Bool.not_false,cond_true,if_pos e2,if_pos e2]
theorem kLl {l : List Rt} {b : List Bool} (h1 : l.length ≤ 900) (h2 : b.length ≤ 900) (k : Nat) : KnP Tryz.prog k 19 [.ls false zZ l,.ls false .bool b] (.tu [.v (.int .i64 (lsB l b)),.v (.int .i64 (lsE l b))]) true := by
 have e := eLl l b
 rw [qOt h1 h2] at e
 exact pQ (cz := [.ls false zZ l,.ls false .bool b]) aM qRy nP e rfl k
noncomputable def oCr : List T → DT (T × Bool)
 | [.ls false zZ l] => grd (okL l) (.ret (.ls false zZ l,false))
 | _ => .no
noncomputable def oCb : List T → DT (T × Bool)
 | [.ls false .bool l] => grd (okB l) (.ret (.ls false .bool l,false))
 | _ => .no
noncomputable def oEr : List T → DT (T × Bool)
 | [.ls false zZ l,.ls false zZ m] => grd (zJu l m) (.ret (.v (.bool true),true))
 | _ => .no
noncomputable def oEb : List T → DT (T × Bool)
 | [.ls false .bool l,.ls false .bool m] => grd (zJt l m) (.ret (.v (.bool true),true))
 | _ => .no
noncomputable def oLg : List T → DT (T × Bool)
 | [.ls false zZ l] => grd (Nat.ble l.length 900) (.ret (.v (.bool (lgF l)),true))
 | _ => .no
noncomputable def oLs : List T → DT (T × Bool)
 | [.ls false zZ l,.ls false .bool b] => grd (Nat.ble l.length 900 && Nat.ble b.length 900) (.ret (.tu [.v (.int .i64 (lsB l b)),.v (.int .i64 (lsE l b))],true))
 | _ => .no
noncomputable def oAw : List T → DT (T × Bool)
 | [] => .ret (.v (.bool true),true)
 | _ => .no
noncomputable abbrev OY : Od := odT [(16,odR [.list zZ] oCr),(17,odR [.list .bool] oCb),(20,odR [.list zZ,.list zZ] oEr),(21,odR [.list .bool,.list .bool] oEb),(14,odR [.list zZ] oLg),(18,odR [.list zZ,.list .bool] oLs),(19,odR [.list zZ,.list .bool] oLs),(15,oAw)]
theorem qRx (ha : KnP Tryz.prog 0 15 [] (.v (.bool true)) true) : bU Tryz.prog OY := by
 refine yL (yL (yL (yL (yL (yL (yL (yL qAq ?_) (nU ?_)) (nU ?_)) (nU ?_)) (nU ?_)) (nU ?_)) (nU ?_)) (nU ?_) <;> intro cz tv nw h k
 ·unfold oAw at h; split at h
  ·cases h; exact ha.clean rfl rfl k
  ·cases h
 ·unfold oLs at h; split at h
  ·obtain ⟨h1,h2⟩ := zY h; cases h2
   simp only [Bool.and_eq_true,Nat.ble_eq] at h1
   exact kLl h1.1 h1.2 k
  ·cases h
 ·unfold oLs at h; split at h
  ·obtain ⟨h1,h2⟩ := zY h; cases h2
   simp only [Bool.and_eq_true,Nat.ble_eq] at h1
   exact kRl h1.1 h1.2 k
  ·cases h
 ·unfold oLg at h; split at h
  ·obtain ⟨h1,h2⟩ := zY h; cases h2; exact kLg h1 k
  ·cases h
 ·unfold oEb at h; split at h
  ·obtain ⟨h1,h2⟩ := zY h; cases h2; exact kEb h1 k
  ·cases h
 ·unfold oEr at h; split at h
  ·obtain ⟨h1,h2⟩ := zY h; cases h2; exact kEr h1 k
  ·cases h
 ·unfold oCb at h; split at h
  ·obtain ⟨h1,h2⟩ := zY h; cases h2; exact kCb h1 k
  ·cases h
 ·unfold oCr at h; split at h
  ·obtain ⟨h1,h2⟩ := zY h; cases h2; exact kCr h1 k
  ·cases h
noncomputable abbrev yes : Option (T × Bool) := some (.v (.bool true),true)
noncomputable abbrev nay : Option (T × Bool) := some (.v (.bool false),true)
theorem eLaw (l : List Rt) (b : List Bool) : ((gF Tryz.prog (evD Tryz.prog OY (loT []) 60) 4 [.ls false zZ l,.ls false .bool b] []).bind aK).run = bif ilt (.ofNat 20) (.ofNat l.length) then yes else (bif ilt (.ofNat 20) (.ofNat b.length) then yes else (bif Nat.ble l.length 900 then (bif lgF l then yes else (bif okL l then (bif okB b then (bif Nat.ble l.length 900 && Nat.ble b.length 900 then (bif Nat.ble l.length 900 && Nat.ble b.length 900 then (bif ieq (lsB l b) (lsB l b) then (bif ieq (lsE l b) (lsE l b) then (bif zJu l l then (bif zJt b b then yes else none) else none) else nay) else nay) else none) else none) else none) else none)) else none)) := by kernel_rfl
theorem zRz (l : List Rt) : ∀ (k i : Nat),fol (gLg l) (fun _ => false) k i () = false → ∀ j,i ≤ j → j < i + k → lgX (nth zZ.zero l j) = false
 | 0,i,_,j,h1,h2 => by omega
 | k + 1,i,h,j,h1,h2 => by
  simp only [fol,gLg] at h
  cases hc : lgX (nth zZ.zero l i) with
  | true => simp [hc] at h
  | false =>
   simp only [hc,cond_false] at h
   rcases Nat.eq_or_lt_of_le h1 with rfl | hlt
   ·exact hc
   ·exact zRz l k (i + 1) h j hlt (by omega)
theorem qFk {x : Rt} (h : lgX x = false) : zMv (rw' x) = true := by
 simp only [lgX,Bool.or_eq_false_iff] at h
 have h1 := h.2.2.1
 have h2 := h.2.2.2
 have g : ∀ {n : Nat},ilt (.ofNat 200) (.ofNat n) = false → n ≤ 1000 := fun {n} e => by
  have : Nat.blt 200 n = false := e
  rcases Nat.lt_or_ge 200 n with hlt | hge
  ·rw [jR hlt] at this; cases this
  ·omega
 simp only [zMv,Bool.and_eq_true]
 exact ⟨kS (g h1),kS (g h2)⟩
theorem qFg (l : List Rt) (b : List Bool) : ((gF Tryz.prog (evD Tryz.prog OY (loT []) 60) 4 [.ls false zZ l,.ls false .bool b] []).bind aK).run = yes := by
 rw [eLaw]
 have g : ∀ {n : Nat},ilt (.ofNat 20) (.ofNat n) = false → n ≤ 20 := fun {n} e => by
  have : Nat.blt 20 n = false := e
  rcases Nat.lt_or_ge 20 n with hlt | hge
  ·rw [jR hlt] at this; cases this
  ·exact hge
 cases h1 : ilt (.ofNat 20) (.ofNat l.length) with
 | true => rfl
 | false =>
  cases h2 : ilt (.ofNat 20) (.ofNat b.length) with
  | true => rfl
  | false =>
   have g1 := g h1
   have g2 := g h2
   simp only [cond_false,kS (show l.length ≤ 900 by omega),kS (show b.length ≤ 900 by omega),cond_true,Bool.and_self]
   cases h3 : lgF l with
   | true => rfl
   | false =>
    have h4 : okL l = true := by
     simp only [okL,kS (show l.length ≤ 900 by omega),Bool.true_and,List.all_eq_true]
     intro x hx
     obtain ⟨j,hj⟩ := List.getElem?_of_mem hx
     have hlt := (List.getElem?_eq_some_iff.1 hj).1
     have := zRz l l.length 0 h3 j (Nat.zero_le _) (by omega)
     have e : nth zZ.zero l j = x := by rw [qV,List.getD_eq_getElem?_getD,hj]; rfl
     rw [e] at this
     exact qFk this
    have h5 : okB b = true := kS (by omega)
    have h6 : zJu l l = true := by simp [zJu,kS (show l.length ≤ 900 by omega)]
    have h7 : zJt b b = true := by simp [zJt,kS (show b.length ≤ 900 by omega)]
    simp only [cond_false,h4,h5,h6,h7,cond_true,zRr rfl]
theorem qLw (ha : KnP Tryz.prog 0 15 [] (.v (.bool true)) true) (l : List Rt) (b : List Bool) : KnP Tryz.prog 0 4 [.ls false zZ l,.ls false .bool b] (.v (.bool true)) true :=
 pQ (cz := [.ls false zZ l,.ls false .bool b]) aM (qRx ha) zPv (qFg l b) rfl 0
end Go.Proofs.YtfijdjigiapnbaaGreatDoor
namespace Go.Proofs.YtfijdjigiapnbaaGreatDoor
open Go Go.Gv Go.Ev IntKind
theorem qRs : KnP Tryz.prog 0 15 [] (.v (.bool true)) true := zS (by kernel_rfl) zU lo78 pfs lr79
theorem qFf (l : List Rt) (b : List Bool) : KnP Tryz.prog 0 4 [.ls false zZ l,.ls false .bool b] (.v (.bool true)) true := qLw qRs l b
end Go.Proofs.YtfijdjigiapnbaaGreatDoor

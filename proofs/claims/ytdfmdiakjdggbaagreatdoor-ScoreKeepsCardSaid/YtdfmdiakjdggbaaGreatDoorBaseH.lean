import Derived.Test.YtdfmdiakjdggbaaGreatDoorBaseG
set_option linter.unusedVariables false
set_option linter.unusedSimpArgs false
set_option linter.unnecessarySimpa false
namespace Go.Proofs.YtdfmdiakjdggbaaGreatDoor
open Go Go.Gv Go.Ev Go.RowKit IntKind
noncomputable section
abbrev xW(l:List Wt)(i:Nat):Rt:=(wA l i).2
def apG{α:Type}(l:List Rt)(K:Option α):Option α:=gd (Nat.ble (l.length+2) 4021071095712) (gd (Nat.beq (l.length+1) (l.length+1)) K)
def beG{α:Type}(n:Nat)(l:List Rt)(K:Option α):Option α:=gd (Nat.beq (l.length+n) (l.length+n)) K
theorem qVa{α:Type}{l:List Rt}{K:Option α}(h:l.length≤100000):apG l K=K:=by
 unfold apG;rw[yK (show l.length+2≤4021071095712 by omega),jD];rfl
theorem zTg{α:Type}{n:Nat}{l:List Rt}{K:Option α}:beG n l K=K:=by
 unfold beG;rw[jD];rfl
def hdF(f:Nat→Rt)(e:Rt):Nat→Rt
 | 0=>e
 | j+1=>f (j+1)
def tlF(f:Nat→Rt)(e:Rt):Nat→List Rt
 | 0=>[]
 | j+1=>hdF f e j::tlF f e j
abbrev hT(f:Nat→Rt)(e:Rt)(m:Nat):List Rt:=hdF f e m::tlF f e m
theorem zFq(f:Nat→Rt)(e:Rt):∀j,(tlF f e j).length=j
 | 0=>rfl
 | j+1=>by show(hdF f e j::tlF f e j).length=_;rw[qf,zFq f e j]
section
variable (okL:LF Bool)(lL:LF (List Rt))(lP:LF Nat)
abbrev ptO(h o t:List Int)(G:List Bd)(P D S:Int)(O U:List Nz)(C st V:Raw)(Z:Int)(F I:List (List Int))(L Y:Int)(l:List Wt)(i:Nat):Bool:=okL h o t G P D S O U C st V Z F I L (wA l i).1.1 (wA l i).1.2.1 (wA l i).1.2.2 Y
abbrev ptL(h o t:List Int)(G:List Bd)(P D S:Int)(O U:List Nz)(C st V:Raw)(Z:Int)(F I:List (List Int))(L Y:Int)(l:List Wt)(i:Nat):List Rt:=lL h o t G P D S O U C st V Z F I L (wA l i).1.1 (wA l i).1.2.1 (wA l i).1.2.2 Y
abbrev ptP(h o t:List Int)(G:List Bd)(P D S:Int)(O U:List Nz)(C st V:Raw)(Z:Int)(F I:List (List Int))(L Y:Int)(l:List Wt)(i:Nat):Nat:=lP h o t G P D S O U C st V Z F I L (wA l i).1.1 (wA l i).1.2.1 (wA l i).1.2.2 Y
abbrev aL(h o t:List Int)(G:List Bd)(P D S:Int)(O U:List Nz)(C st V:Raw)(Z:Int)(F I:List (List Int))(L Y:Int)(l:List Wt)(b i:Nat):Rt:=rI (ptL lL h o t G P D S O U C st V Z F I L Y l i) b
def gEx(h o t:List Int)(G:List Bd)(P D S:Int)(O U:List Nz)(C st V:Raw)(Z:Int)(F I:List (List Int))(L Y:Int)(l:List Wt)(j:Nat)(_:Unit):Unit⊕Option Nat:=bif ptO okL h o t G P D S O U C st V Z F I L Y l (j+1)then .inl ()else .inr (some (ptP lP h o t G P D S O U C st V Z F I L Y l (j+1)+1))
def xpF(h o t:List Int)(G:List Bd)(P D S:Int)(O U:List Nz)(C st V:Raw)(Z:Int)(F I:List (List Int))(L Y:Int)(l:List Wt):Option Nat:=fol (gEx okL lP h o t G P D S O U C st V Z F I L Y l) (fun _=>none) (l.length-1) 0 ()
end
def isO:Option Nat→Bool
 | none=>true
 | some _=>false
def eO:Option Nat→Nat
 | none=>0
 | some e=>e
abbrev zQv:T:= .v (.slice none 0 0)
abbrev Cl:=Rt×List Rt
def qLc{α:Type}:List Cl→Option α→Option α
 | [],K=>K
 | c::e,K=>apG c.2 (qLc e K)
def qDf{α:Type}(n:Nat):List Cl→Option α→Option α
 | [],K=>K
 | c::e,K=>beG n c.2 (qDf n e K)
theorem zMf{α:Type}{n:Nat}{K:Option α}:∀{e:List Cl},qDf n e K=K
 | []=>rfl
 | c::e=>by show beG n c.2 (qDf n e K)=K;rw[zMf,zTg]
theorem zWd{α:Type}{K:Option α}:∀{e:List Cl},(∀c∈e,c.2.length≤100000)→qLc e K=K
 | [],_=>rfl
 | c::e,h=>by show apG c.2 (qLc e K)=K;rw[zWd fun d hd=>h d (z6 _ hd),qVa (h c qS)]
def rwC:List Cl→List T
 | []=>[]
 | c::e=> .ls .a zL (c.1::c.2)::rwC e
def iEx(L Y:Int)(l:List Wt)(n i:Nat)(w:Cl)(e:List Cl)(h o t:List Int)(G:List Bd)(P D S:Int)(O U:List Nz)(C st V:Raw)(Z:Int)(F I:List (List Int)):Hs:=⟨[vi L,vi Y,zQv,.ls .a wT l,vn n,vn i],rwC (w::e),[tbC h o t G P D S O U C st V Z F I,[],[],[],[]]⟩
section
variable (okL:LF Bool)(lL:LF (List Rt))(lP:LF Nat)
def psC(h o t:List Int)(G:List Bd)(P D S:Int)(O U:List Nz)(C st V:Raw)(Z:Int)(F I:List (List Int))(L Y:Int)(l:List Wt)(i:Nat):Nat→List Cl→List Cl
 | _,[]=>[]
 | b,c::e=>(aL lL h o t G P D S O U C st V Z F I L Y l b i,c.1::c.2)::psC h o t G P D S O U C st V Z F I L Y l i (b+1) e
def dF(k:Nat)(h o t:List Int)(G:List Bd)(P D S:Int)(O U:List Nz)(C st V:Raw)(Z:Int)(F I:List (List Int))(L Y:Int)(l:List Wt)(n i:Nat)(w:Cl)(e:List Cl):Option (Hs⊕(Ex×Hs)):=bif ilt (.ofNat i) (.ofNat n)then gd (Nat.blt i l.length) (gd (Nat.blt F.length 9223372036854775807) (bif ptO okL h o t G P D S O U C st V Z F I L Y l i then gd (Nat.beq G.length k) (qLc (w::e) (gd (inW (.ofNat (i+1))) (qDf 2 (w::e) (some (.inl (iEx L Y l n (i+1) (xW l i,w.1::w.2) (psC lL h o t G P D S O U C st V Z F I L Y l i 0 e) h o t G P D S O U C st V Z F I))))))else some (.inr (.r,⟨[zQv,vn (ptP lP h o t G P D S O U C st V Z F I L Y l i+1)],[],[[],[],[],[],[]]⟩))))else qDf 1 (w::e) (some (.inr (.x 0,⟨[zQv],rwC (w::e),[[],[],[],[],[]]⟩)))
def coF(h o t:List Int)(G:List Bd)(P D S:Int)(O U:List Nz)(C st V:Raw)(Z:Int)(F I:List (List Int))(L Y:Int)(l:List Wt)(j:Nat):Nat→List Rt→List Cl
 | _,[]=>[]
 | b,c::e=>(hdF (aL lL h o t G P D S O U C st V Z F I L Y l b) c j,tlF (aL lL h o t G P D S O U C st V Z F I L Y l b) c j)::coF h o t G P D S O U C st V Z F I L Y l j (b+1) e
theorem qSb(h o t:List Int)(G:List Bd)(P D S:Int)(O U:List Nz)(C st V:Raw)(Z:Int)(F I:List (List Int))(L Y:Int)(l:List Wt)(j:Nat):∀(b:Nat)(e:List Rt),psC lL h o t G P D S O U C st V Z F I L Y l (j+1) b (coF lL h o t G P D S O U C st V Z F I L Y l j b e)=coF lL h o t G P D S O U C st V Z F I L Y l (j+1) b e
 | _,[]=>rfl
 | b,c::e=>by
  show _::psC lL h o t G P D S O U C st V Z F I L Y l (j+1) (b+1) (coF lL h o t G P D S O U C st V Z F I L Y l j (b+1) e)=_;rw[qSb h o t G P D S O U C st V Z F I L Y l j (b+1) e];rfl
theorem zTn(h o t:List Int)(G:List Bd)(P D S:Int)(O U:List Nz)(C st V:Raw)(Z:Int)(F I:List (List Int))(L Y:Int)(l:List Wt)(j:Nat):∀(b:Nat)(e:List Rt),(coF lL h o t G P D S O U C st V Z F I L Y l j b e).length=e.length∧∀c∈coF lL h o t G P D S O U C st V Z F I L Y l j b e,c.2.length=j
 | _,[]=>⟨rfl,fun c w=>(by cases w)⟩
 | b,c::e=>by
  obtain⟨k,q⟩:=zTn h o t G P D S O U C st V Z F I L Y l j (b+1) e;refine⟨ju (·+1) k,fun d hd=>?_⟩;rcases qj.1 hd with rfl | hd
  ·exact zFq _ _ j
  ·exact q d hd
theorem qSc(h o t:List Int)(G:List Bd)(P D S:Int)(O U:List Nz)(C st V:Raw)(Z:Int)(F I:List (List Int))(L Y:Int)(l:List Wt):∀(b:Nat)(e:List Rt),rwC (coF lL h o t G P D S O U C st V Z F I L Y l 0 b e)=e.map fun c=> .ls .a zL [c]
 | _,[]=>rfl
 | b,c::e=>ju (T.ls .a zL [c]::·) (qSc h o t G P D S O U C st V Z F I L Y l (b+1) e)
def zYe(h o t:List Int)(G:List Bd)(P D S:Int)(O U:List Nz)(C st V:Raw)(Z:Int)(F I:List (List Int))(L Y:Int)(l:List Wt)(j:Rt)(k:List Rt):Option Nat→Ex×Hs
 | none=>(.x 0,⟨[zQv],rwC ((hdF (xW l) j (l.length-1),tlF (xW l) j (l.length-1))::coF lL h o t G P D S O U C st V Z F I L Y l (l.length-1) 0 k),[[],[],[],[],[]]⟩)
 | some e=>(.r,⟨[zQv,vn e],[],[[],[],[],[],[]]⟩)
def qYz(h o t:List Int)(G:List Bd)(P D S:Int)(O U:List Nz)(C st V:Raw)(Z:Int)(F I:List (List Int))(L Y:Int)(l:List Wt)(e:Rt)(k:List Rt)(j:Nat):Hs:=iEx L Y l l.length (j+1) (hdF (xW l) e j,tlF (xW l) e j) (coF lL h o t G P D S O U C st V Z F I L Y l j 0 k) h o t G P D S O U C st V Z F I
theorem lpEx{q:Hs→Option (Hs⊕(Ex×Hs))}{k:Nat}(h o t:List Int)(G:List Bd)(P D S:Int)(O U:List Nz)(C st V:Raw)(Z:Int)(F I:List (List Int))(L Y:Int)(l:List Wt)(z:Rt)(e:List Rt)(H:∀i w A,A.length=k→q (iEx L Y l l.length i w A h o t G P D S O U C st V Z F I)=dF okL lL lP k h o t G P D S O U C st V Z F I L Y l l.length i w A)(y:e.length=k)(J:0<l.length)(K:l.length≤100000)(E:F.length<9223372036854775807)(ha:G.length=k):lpF q (l.length-1) (qYz lL h o t G P D S O U C st V Z F I L Y l z e 0)=some (zYe lL h o t G P D S O U C st V Z F I L Y l z e (xpF okL lP h o t G P D S O U C st V Z F I L Y l)):=
 jV (st:=q) (iv:=fun j(_:Unit)=>qYz lL h o t G P D S O U C st V Z F I L Y l z e j) (g:=gEx okL lP h o t G P D S O U C st V Z F I L Y l) (d:=fun _=>none) (out:=zYe lL h o t G P D S O U C st V Z F I L Y l z e) (n:=l.length-1) (fun _ _=>True)
  (fun j _ M _=>by
   obtain⟨c1,c2⟩:=zTn lL h o t G P D S O U C st V Z F I L Y l j 0 e;refine(H _ _ _ (c1.trans y)).trans ?_;unfold dF gEx;have B:ilt (.ofNat (j+1)) (.ofNat l.length)=true:=zO (show j+1<l.length by omega)
   rw[B,ze,zO (show j+1<l.length by omega),zO E,ha]
   cases ptO okL h o t G P D S O U C st V Z F I L Y l (j+1)with
   | false=>rfl
   | true=>
    rw[ze,zWd (fun c y=>by
     rcases qj.1 y with rfl | y
     ·show(tlF _ _ j).length≤_;rw[zFq];omega
     ·rw[c2 c y];omega),yT (show j+1+1<9223372036854775808 by omega)]
    simp only[gd,ze,jD];rw[zMf,qSb];rfl)
  (fun _ _ _ _ _ _=>trivial)
  (fun _ _=>by
   refine(H _ _ _ ((zTn lL h o t G P D S O U C st V Z F I L Y l (l.length-1) 0 e).1.trans y)).trans ?_;unfold dF;have B:ilt (.ofNat (l.length-1+1)) (.ofNat l.length)=false:=jU (show l.length≤l.length-1+1 by omega)
   rw[B,zf,zMf];rfl) (l.length-1) 0 () (by omega) trivial
def hdS:List T→Option (List Rt)
 | []=>some []
 | .ls .a (.prod .bool (.prod (.list .lim) (.list .lim))) [c]::r=>match hdS r with
  | some e=>some (c::e)
  | none=>none
 | _=>none
theorem qFn:∀{r:List T}{j:List Rt},hdS r=some j→r=j.map fun c=> .ls .a zL [c]
 | [],j,h=>by cases h;rfl
 | x::r,j,h=>by
  unfold hdS at h;split at h
  ·rename_i heq;cases heq
  ·rename_i c q heq;cases heq;cases e:hdS r with
   | none=>rw[e]at h;cases h
   | some k=>rw[e]at h;cases h;rw[qFn e];rfl
  ·cases h
def qYc(k:Nat)(L Y:Int)(l:List Wt)(n:Nat)(E:Rt)(B:List Rt):List T→DT (Ex×Hs)
 | [.ls .a (.int .i64) h,.ls .a (.int .i64) o,.ls .a (.int .i64) t,.ls .a (.prod (.int .u8) (.prod (.int .i64) (.int .i64))) G,.v (.int .i64 P),.v (.int .i64 D),.v (.int .i64 S),.ls .a (.prod (.int .i64) zL) O,.ls .a (.prod (.int .i64) zL) U,.v (.bool e),.ls .a .lim C,.ls .a .lim j,.v (.bool z),.ls .a .lim sl,.ls .a .lim A,.v (.bool q),.ls .a .lim w,.ls .a .lim y,.v (.int .i64 Z),.ls .a (.list (.int .i64)) F,.ls .a (.list (.int .i64)) I]=>grd (Nat.beq n l.length&&(Nat.beq B.length k&&(Nat.blt 0 l.length&&(Nat.ble l.length 100000&&(Nat.blt F.length 9223372036854775807&&Nat.beq G.length k))))) (.ite (isO (xpF okL lP h o t G P D S O U ⟨e,C,j⟩ ⟨z,sl,A⟩ ⟨q,w,y⟩ Z F I L Y l)) (.ret (zYe lL h o t G P D S O U ⟨e,C,j⟩ ⟨z,sl,A⟩ ⟨q,w,y⟩ Z F I L Y l E B none)) (.ret (zYe lL h o t G P D S O U ⟨e,C,j⟩ ⟨z,sl,A⟩ ⟨q,w,y⟩ Z F I L Y l E B (some (eO (xpF okL lP h o t G P D S O U ⟨e,C,j⟩ ⟨z,sl,A⟩ ⟨q,w,y⟩ Z F I L Y l))))))
 | _=> .no
def hEx(k:Nat):Hs→DT (Ex×Hs)
 | ⟨[.v (.int .i64 L),.v (.int .i64 Y),.v (.slice none 0 0),.ls .a (.prod (.prod (.int .i64) (.prod (.int .i64) (.int .i64))) zL) l,.v (.int .i64 (.ofNat n)),.v (.int .i64 (.ofNat 1))],.ls .a (.prod .bool (.prod (.list .lim) (.list .lim))) [q]::r,[j,[],[],[],[]]⟩=>match hdS r with
  | some e=>qYc okL lL lP k L Y l n q e j
  | none=> .no
 | _=> .no
theorem qMu{M:Hs→Option (Hs⊕(Ex×Hs))}{k:Nat}(H:∀(h o t:List Int)(G:List Bd)(P D S:Int)(O U:List Nz)(C st V:Raw)(Z:Int)(F I:List (List Int))(L Y:Int)(l:List Wt)(i:Nat)(w:Cl)(R:List Cl),R.length=k→M (iEx L Y l l.length i w R h o t G P D S O U C st V Z F I)=dF okL lL lP k h o t G P D S O U C st V Z F I L Y l l.length i w R){L Y:Int}{l:List Wt}{n:Nat}{N:Rt}{z:List Rt}{ks:List T}:∀y,(qYc okL lL lP k L Y l n N z ks).run=some y→∃j,It M j ⟨[vi L,vi Y,zQv,.ls .a wT l,vn n,vn 1],.ls .a zL [N]::z.map (fun c=> .ls .a zL [c]),[ks,[],[],[],[]]⟩ y:=fun y Q=>by
 unfold qYc at Q;split at Q
 ·rename_i h o t G P D S O U e C q J sl K A B E Z F I;obtain⟨W,X⟩:=zR Q;simp only[zd,qv]at W;obtain⟨g1,g6,g2,g3,g4,g5⟩:=W;obtain rfl:=zV g1;have:=kY _ _ (lpEx okL lL lP h o t G P D S O U ⟨e,C,q⟩ ⟨J,sl,K⟩ ⟨A,B,E⟩ Z F I L Y l N z (H h o t G P D S O U ⟨e,C,q⟩ ⟨J,sl,K⟩ ⟨A,B,E⟩ Z F I L Y l) (zV g6) (jL g2) g3 (jL g4) (zV g5));rw[show qYz lL h o t G P D S O U ⟨e,C,q⟩ ⟨J,sl,K⟩ ⟨A,B,E⟩ Z F I L Y l N z 0=⟨[vi L,vi Y,zQv,.ls .a wT l,vn l.length,vn 1],.ls .a zL [N]::z.map (fun c=> .ls .a zL [c]),[tbC h o t G P D S O U ⟨e,C,q⟩ ⟨J,sl,K⟩ ⟨A,B,E⟩ Z F I,[],[],[],[]]⟩by rw[←qSc lL h o t G P D S O U ⟨e,C,q⟩ ⟨J,sl,K⟩ ⟨A,B,E⟩ Z F I L Y l 0 z];rfl]at this
  cases hb:xpF okL lP h o t G P D S O U ⟨e,C,q⟩ ⟨J,sl,K⟩ ⟨A,B,E⟩ Z F I L Y l<;>rw[hb]at X this<;>cases X<;>exact this
 ·cases Q
theorem zCs{z:Hs→Option (Hs⊕(Ex×Hs))}(k:Nat)(H:∀(h o t:List Int)(G:List Bd)(P D S:Int)(O U:List Nz)(C st V:Raw)(Z:Int)(F I:List (List Int))(L Y:Int)(l:List Wt)(i:Nat)(w:Cl)(A:List Cl),A.length=k→z (iEx L Y l l.length i w A h o t G P D S O U C st V Z F I)=dF okL lL lP k h o t G P D S O U C st V Z F I L Y l l.length i w A):∀q y,(hEx okL lL lP k q).run=some y→∃n,It z n q y:=fun q y j=>by
 unfold hEx at j;split at j
 ·rename_i L Y l n J r E;cases e:hdS r with
  | none=>rw[e]at j;cases j
  | some B=>
   rw[e]at j;rw[qFn e];exact qMu okL lL lP H y j
 ·cases j
end
def Lex1:Lp:=⟨5,
 ⟨[.u,.h,.u,.h,.t (.op 0 0)]++(us' 3++([.h,.u,.u,.a .a zL 28,.t (.os 4 0 1 1)]++(us' 15++([.h,.h,.h]++(us' 72))))),[.r [.h,.h,.h,.h,.h,.h,.h,.h,.h,.h,.h,.h,.h,.h,.h,.h,.h,.h,.h,.h,.h] 33,.g,.g,.g,.r [.a .a zL 28] 45]⟩,
 ⟨us' 8++([.h,.u,.u,.a .a zL 28,.t (.os 4 0 1 1)]++(us' 90)),[.g,.g,.g,.g,.r [.a .a zL 28] 45]⟩,
 ⟨us' 8++([.h,.h]++(us' 93)),[.g,.g,.g,.g,.g]⟩⟩
abbrev zSt:Code:=lpc Tryz.prog 22 [false,true,false,true,true,true,true]
theorem qKr:cAt Tryz.prog 22 [false,true,false,true,true,true,true]=some (.loop zSt):=by kernel_rfl
abbrev qBx(OD:Od)(e:Lo):Hs→Option (Hs⊕(Ex×Hs)):=Lex1.stp (evD Tryz.prog OD e 60) 22 [false,true,false,true,true,true,true] zSt
theorem sEx1(bc:List Wt→Int)(okL:LF Bool)(lL:LF (List Rt))(lP:LF Nat)(okD:List Rt→List Rt→Bool)(dR:List Rt→List Rt→Raw)(dP:List Rt→List Rt→Nat)(L Y:Int)(l:List Wt)(n i:Nat)(w e:Cl)(h o t:List Int)(G:List Bd)(P D S:Int)(O U:List Nz)(C st V:Raw)(Z:Int)(F I:List (List Int)):qBx (odT [(46,odR [.list wT] (oBc bc)),(32,odR [tbT,nT,nT,nT,nT,nT] (tC 1 okL lL lP)),(70,odR [.list zL,.list zL] (qI okD dR dP))]) (loT []) (iEx L Y l n i w [e] h o t G P D S O U C st V Z F I)=dF okL lL lP 1 h o t G P D S O U C st V Z F I L Y l n i w [e]:=by kernel_rfl
section
variable (bc:List Wt→Int)(okL:LF Bool)(lL:LF (List Rt))(lP:LF Nat)(okD:List Rt→List Rt→Bool)(dR:List Rt→List Rt→Raw)(dP:List Rt→List Rt→Nat)
theorem qMv:∀q y,(hEx okL lL lP 1 q).run=some y→∃n,It (qBx (odT [(46,odR [.list wT] (oBc bc)),(32,odR [tbT,nT,nT,nT,nT,nT] (tC 1 okL lL lP)),(70,odR [.list zL,.list zL] (qI okD dR dP))]) (loT [])) n q y:=zCs okL lL lP 1 fun h o t G P D S O U C st V Z F I L Y l i w e H=>match e,H with
 | [j],_=>sEx1 bc okL lL lP okD dR dP L Y l l.length i w j h o t G P D S O U C st V Z F I
abbrev LEx1:Lo:=loT [(22,[false,true,false,true,true,true,true],Lex1.rowP (evD Tryz.prog (odT [(46,odR [.list wT] (oBc bc)),(32,odR [tbT,nT,nT,nT,nT,nT] (tC 1 okL lL lP)),(70,odR [.list zL,.list zL] (qI okD dR dP))]) (loT []) 60) 22 [false,true,false,true,true,true,true] zSt (hEx okL lL lP 1))]
end
def Lex2:Lp:=⟨5,
 ⟨[.u,.h,.u,.h,.t (.op 0 0)]++(us' 3++([.h,.u,.u,.a .a zL 28,.t (.os 4 0 2 2)]++(us' 15++([.h,.h,.h]++(us' 72))))),[.r [.h,.h,.h,.h,.h,.h,.h,.h,.h,.h,.h,.h,.h,.h,.h,.h,.h,.h,.h,.h,.h] 33,.g,.g,.g,.r [.a .a zL 28,.a .a zL 28] 45]⟩,
 ⟨us' 8++([.h,.u,.u,.a .a zL 28,.t (.os 4 0 2 2)]++(us' 90)),[.g,.g,.g,.g,.r [.a .a zL 28,.a .a zL 28] 45]⟩,
 ⟨us' 8++([.h,.h]++(us' 93)),[.g,.g,.g,.g,.g]⟩⟩
abbrev zSu:Code:=lpc Tryz.prog 22 [false,true,false,true,true,true,true]
theorem qKs:cAt Tryz.prog 22 [false,true,false,true,true,true,true]=some (.loop zSu):=by kernel_rfl
abbrev qBy(OD:Od)(e:Lo):Hs→Option (Hs⊕(Ex×Hs)):=Lex2.stp (evD Tryz.prog OD e 60) 22 [false,true,false,true,true,true,true] zSu
theorem sEx2(bc:List Wt→Int)(okL:LF Bool)(lL:LF (List Rt))(lP:LF Nat)(okD:List Rt→List Rt→Bool)(dR:List Rt→List Rt→Raw)(dP:List Rt→List Rt→Nat)(L Y:Int)(l:List Wt)(n i:Nat)(w e j:Cl)(h o t:List Int)(G:List Bd)(P D S:Int)(O U:List Nz)(C st V:Raw)(Z:Int)(F I:List (List Int)):qBy (odT [(46,odR [.list wT] (oBc bc)),(32,odR [tbT,nT,nT,nT,nT,nT] (tC 2 okL lL lP)),(70,odR [.list zL,.list zL] (qI okD dR dP))]) (loT []) (iEx L Y l n i w [e,j] h o t G P D S O U C st V Z F I)=dF okL lL lP 2 h o t G P D S O U C st V Z F I L Y l n i w [e,j]:=by kernel_rfl
section
variable (bc:List Wt→Int)(okL:LF Bool)(lL:LF (List Rt))(lP:LF Nat)(okD:List Rt→List Rt→Bool)(dR:List Rt→List Rt→Raw)(dP:List Rt→List Rt→Nat)
theorem qMw:∀q y,(hEx okL lL lP 2 q).run=some y→∃n,It (qBy (odT [(46,odR [.list wT] (oBc bc)),(32,odR [tbT,nT,nT,nT,nT,nT] (tC 2 okL lL lP)),(70,odR [.list zL,.list zL] (qI okD dR dP))]) (loT [])) n q y:=zCs okL lL lP 2 fun h o t G P D S O U C st V Z F I L Y l i w e H=>match e,H with
 | [j,k],_=>sEx2 bc okL lL lP okD dR dP L Y l l.length i w j k h o t G P D S O U C st V Z F I
abbrev LEx2:Lo:=loT [(22,[false,true,false,true,true,true,true],Lex2.rowP (evD Tryz.prog (odT [(46,odR [.list wT] (oBc bc)),(32,odR [tbT,nT,nT,nT,nT,nT] (tC 2 okL lL lP)),(70,odR [.list zL,.list zL] (qI okD dR dP))]) (loT []) 60) 22 [false,true,false,true,true,true,true] zSu (hEx okL lL lP 2))]
end
def Lex3:Lp:=⟨5,
 ⟨[.u,.h,.u,.h,.t (.op 0 0)]++(us' 3++([.h,.u,.u,.a .a zL 28,.t (.os 4 0 3 3)]++(us' 15++([.h,.h,.h]++(us' 72))))),[.r [.h,.h,.h,.h,.h,.h,.h,.h,.h,.h,.h,.h,.h,.h,.h,.h,.h,.h,.h,.h,.h] 33,.g,.g,.g,.r [.a .a zL 28,.a .a zL 28,.a .a zL 28] 45]⟩,
 ⟨us' 8++([.h,.u,.u,.a .a zL 28,.t (.os 4 0 3 3)]++(us' 90)),[.g,.g,.g,.g,.r [.a .a zL 28,.a .a zL 28,.a .a zL 28] 45]⟩,
 ⟨us' 8++([.h,.h]++(us' 93)),[.g,.g,.g,.g,.g]⟩⟩
abbrev zSv:Code:=lpc Tryz.prog 22 [false,true,false,true,true,true,true]
theorem qKt:cAt Tryz.prog 22 [false,true,false,true,true,true,true]=some (.loop zSv):=by kernel_rfl
abbrev qBz(OD:Od)(e:Lo):Hs→Option (Hs⊕(Ex×Hs)):=Lex3.stp (evD Tryz.prog OD e 60) 22 [false,true,false,true,true,true,true] zSv
theorem sEx3(bc:List Wt→Int)(okL:LF Bool)(lL:LF (List Rt))(lP:LF Nat)(okD:List Rt→List Rt→Bool)(dR:List Rt→List Rt→Raw)(dP:List Rt→List Rt→Nat)(L Y:Int)(l:List Wt)(n i:Nat)(w e j k:Cl)(h o t:List Int)(G:List Bd)(P D S:Int)(O U:List Nz)(C st V:Raw)(Z:Int)(F I:List (List Int)):qBz (odT [(46,odR [.list wT] (oBc bc)),(32,odR [tbT,nT,nT,nT,nT,nT] (tC 3 okL lL lP)),(70,odR [.list zL,.list zL] (qI okD dR dP))]) (loT []) (iEx L Y l n i w [e,j,k] h o t G P D S O U C st V Z F I)=dF okL lL lP 3 h o t G P D S O U C st V Z F I L Y l n i w [e,j,k]:=by kernel_rfl
section
variable (bc:List Wt→Int)(okL:LF Bool)(lL:LF (List Rt))(lP:LF Nat)(okD:List Rt→List Rt→Bool)(dR:List Rt→List Rt→Raw)(dP:List Rt→List Rt→Nat)
theorem qMx:∀q y,(hEx okL lL lP 3 q).run=some y→∃n,It (qBz (odT [(46,odR [.list wT] (oBc bc)),(32,odR [tbT,nT,nT,nT,nT,nT] (tC 3 okL lL lP)),(70,odR [.list zL,.list zL] (qI okD dR dP))]) (loT [])) n q y:=zCs okL lL lP 3 fun h o t G P D S O U C st V Z F I L Y l i w e H=>match e,H with
 | [j,k,z],_=>sEx3 bc okL lL lP okD dR dP L Y l l.length i w j k z h o t G P D S O U C st V Z F I
abbrev LEx3:Lo:=loT [(22,[false,true,false,true,true,true,true],Lex3.rowP (evD Tryz.prog (odT [(46,odR [.list wT] (oBc bc)),(32,odR [tbT,nT,nT,nT,nT,nT] (tC 3 okL lL lP)),(70,odR [.list zL,.list zL] (qI okD dR dP))]) (loT []) 60) 22 [false,true,false,true,true,true,true] zSv (hEx okL lL lP 3))]
end
def Lex4:Lp:=⟨5,
 ⟨[.u,.h,.u,.h,.t (.op 0 0)]++(us' 3++([.h,.u,.u,.a .a zL 28,.t (.os 4 0 4 4)]++(us' 15++([.h,.h,.h]++(us' 72))))),[.r [.h,.h,.h,.h,.h,.h,.h,.h,.h,.h,.h,.h,.h,.h,.h,.h,.h,.h,.h,.h,.h] 33,.g,.g,.g,.r [.a .a zL 28,.a .a zL 28,.a .a zL 28,.a .a zL 28] 45]⟩,
 ⟨us' 8++([.h,.u,.u,.a .a zL 28,.t (.os 4 0 4 4)]++(us' 90)),[.g,.g,.g,.g,.r [.a .a zL 28,.a .a zL 28,.a .a zL 28,.a .a zL 28] 45]⟩,
 ⟨us' 8++([.h,.h]++(us' 93)),[.g,.g,.g,.g,.g]⟩⟩
abbrev zSw:Code:=lpc Tryz.prog 22 [false,true,false,true,true,true,true]
theorem qKu:cAt Tryz.prog 22 [false,true,false,true,true,true,true]=some (.loop zSw):=by kernel_rfl
abbrev qCa(OD:Od)(e:Lo):Hs→Option (Hs⊕(Ex×Hs)):=Lex4.stp (evD Tryz.prog OD e 60) 22 [false,true,false,true,true,true,true] zSw
theorem sEx4(bc:List Wt→Int)(okL:LF Bool)(lL:LF (List Rt))(lP:LF Nat)(okD:List Rt→List Rt→Bool)(dR:List Rt→List Rt→Raw)(dP:List Rt→List Rt→Nat)(L Y:Int)(l:List Wt)(n i:Nat)(w e j k q:Cl)(h o t:List Int)(G:List Bd)(P D S:Int)(O U:List Nz)(C st V:Raw)(Z:Int)(F I:List (List Int)):qCa (odT [(46,odR [.list wT] (oBc bc)),(32,odR [tbT,nT,nT,nT,nT,nT] (tC 4 okL lL lP)),(70,odR [.list zL,.list zL] (qI okD dR dP))]) (loT []) (iEx L Y l n i w [e,j,k,q] h o t G P D S O U C st V Z F I)=dF okL lL lP 4 h o t G P D S O U C st V Z F I L Y l n i w [e,j,k,q]:=by kernel_rfl
section
variable (bc:List Wt→Int)(okL:LF Bool)(lL:LF (List Rt))(lP:LF Nat)(okD:List Rt→List Rt→Bool)(dR:List Rt→List Rt→Raw)(dP:List Rt→List Rt→Nat)
theorem qMy:∀q y,(hEx okL lL lP 4 q).run=some y→∃n,It (qCa (odT [(46,odR [.list wT] (oBc bc)),(32,odR [tbT,nT,nT,nT,nT,nT] (tC 4 okL lL lP)),(70,odR [.list zL,.list zL] (qI okD dR dP))]) (loT [])) n q y:=zCs okL lL lP 4 fun h o t G P D S O U C st V Z F I L Y l i w e H=>match e,H with
 | [j,k,z,A],_=>sEx4 bc okL lL lP okD dR dP L Y l l.length i w j k z A h o t G P D S O U C st V Z F I
abbrev LEx4:Lo:=loT [(22,[false,true,false,true,true,true,true],Lex4.rowP (evD Tryz.prog (odT [(46,odR [.list wT] (oBc bc)),(32,odR [tbT,nT,nT,nT,nT,nT] (tC 4 okL lL lP)),(70,odR [.list zL,.list zL] (qI okD dR dP))]) (loT []) 60) 22 [false,true,false,true,true,true,true] zSw (hEx okL lL lP 4))]
end
def Lex5:Lp:=⟨5,
 ⟨[.u,.h,.u,.h,.t (.op 0 0)]++(us' 3++([.h,.u,.u,.a .a zL 28,.t (.os 4 0 5 5)]++(us' 15++([.h,.h,.h]++(us' 72))))),[.r [.h,.h,.h,.h,.h,.h,.h,.h,.h,.h,.h,.h,.h,.h,.h,.h,.h,.h,.h,.h,.h] 33,.g,.g,.g,.r [.a .a zL 28,.a .a zL 28,.a .a zL 28,.a .a zL 28,.a .a zL 28] 45]⟩,
 ⟨us' 8++([.h,.u,.u,.a .a zL 28,.t (.os 4 0 5 5)]++(us' 90)),[.g,.g,.g,.g,.r [.a .a zL 28,.a .a zL 28,.a .a zL 28,.a .a zL 28,.a .a zL 28] 45]⟩,
 ⟨us' 8++([.h,.h]++(us' 93)),[.g,.g,.g,.g,.g]⟩⟩
abbrev zSx:Code:=lpc Tryz.prog 22 [false,true,false,true,true,true,true]
theorem qKv:cAt Tryz.prog 22 [false,true,false,true,true,true,true]=some (.loop zSx):=by kernel_rfl
abbrev qCb(OD:Od)(e:Lo):Hs→Option (Hs⊕(Ex×Hs)):=Lex5.stp (evD Tryz.prog OD e 60) 22 [false,true,false,true,true,true,true] zSx
theorem sEx5(bc:List Wt→Int)(okL:LF Bool)(lL:LF (List Rt))(lP:LF Nat)(okD:List Rt→List Rt→Bool)(dR:List Rt→List Rt→Raw)(dP:List Rt→List Rt→Nat)(L Y:Int)(l:List Wt)(n i:Nat)(w e j k q y:Cl)(h o t:List Int)(G:List Bd)(P D S:Int)(O U:List Nz)(C st V:Raw)(Z:Int)(F I:List (List Int)):qCb (odT [(46,odR [.list wT] (oBc bc)),(32,odR [tbT,nT,nT,nT,nT,nT] (tC 5 okL lL lP)),(70,odR [.list zL,.list zL] (qI okD dR dP))]) (loT []) (iEx L Y l n i w [e,j,k,q,y] h o t G P D S O U C st V Z F I)=dF okL lL lP 5 h o t G P D S O U C st V Z F I L Y l n i w [e,j,k,q,y]:=by kernel_rfl
section
variable (bc:List Wt→Int)(okL:LF Bool)(lL:LF (List Rt))(lP:LF Nat)(okD:List Rt→List Rt→Bool)(dR:List Rt→List Rt→Raw)(dP:List Rt→List Rt→Nat)
theorem qMz:∀q y,(hEx okL lL lP 5 q).run=some y→∃n,It (qCb (odT [(46,odR [.list wT] (oBc bc)),(32,odR [tbT,nT,nT,nT,nT,nT] (tC 5 okL lL lP)),(70,odR [.list zL,.list zL] (qI okD dR dP))]) (loT [])) n q y:=zCs okL lL lP 5 fun h o t G P D S O U C st V Z F I L Y l i w e H=>match e,H with
 | [j,k,z,A,B],_=>sEx5 bc okL lL lP okD dR dP L Y l l.length i w j k z A B h o t G P D S O U C st V Z F I
abbrev LEx5:Lo:=loT [(22,[false,true,false,true,true,true,true],Lex5.rowP (evD Tryz.prog (odT [(46,odR [.list wT] (oBc bc)),(32,odR [tbT,nT,nT,nT,nT,nT] (tC 5 okL lL lP)),(70,odR [.list zL,.list zL] (qI okD dR dP))]) (loT []) 60) 22 [false,true,false,true,true,true,true] zSx (hEx okL lL lP 5))]
end
def Lex6:Lp:=⟨5,
 ⟨[.u,.h,.u,.h,.t (.op 0 0)]++(us' 3++([.h,.u,.u,.a .a zL 28,.t (.os 4 0 6 6)]++(us' 15++([.h,.h,.h]++(us' 72))))),[.r [.h,.h,.h,.h,.h,.h,.h,.h,.h,.h,.h,.h,.h,.h,.h,.h,.h,.h,.h,.h,.h] 33,.g,.g,.g,.r [.a .a zL 28,.a .a zL 28,.a .a zL 28,.a .a zL 28,.a .a zL 28,.a .a zL 28] 45]⟩,
 ⟨us' 8++([.h,.u,.u,.a .a zL 28,.t (.os 4 0 6 6)]++(us' 90)),[.g,.g,.g,.g,.r [.a .a zL 28,.a .a zL 28,.a .a zL 28,.a .a zL 28,.a .a zL 28,.a .a zL 28] 45]⟩,
 ⟨us' 8++([.h,.h]++(us' 93)),[.g,.g,.g,.g,.g]⟩⟩
abbrev zSy:Code:=lpc Tryz.prog 22 [false,true,false,true,true,true,true]
theorem qKw:cAt Tryz.prog 22 [false,true,false,true,true,true,true]=some (.loop zSy):=by kernel_rfl
abbrev qCc(OD:Od)(e:Lo):Hs→Option (Hs⊕(Ex×Hs)):=Lex6.stp (evD Tryz.prog OD e 60) 22 [false,true,false,true,true,true,true] zSy
theorem sEx6(bc:List Wt→Int)(okL:LF Bool)(lL:LF (List Rt))(lP:LF Nat)(okD:List Rt→List Rt→Bool)(dR:List Rt→List Rt→Raw)(dP:List Rt→List Rt→Nat)(L Y:Int)(l:List Wt)(n i:Nat)(w e j k q y z:Cl)(h o t:List Int)(G:List Bd)(P D S:Int)(O U:List Nz)(C st V:Raw)(Z:Int)(F I:List (List Int)):qCc (odT [(46,odR [.list wT] (oBc bc)),(32,odR [tbT,nT,nT,nT,nT,nT] (tC 6 okL lL lP)),(70,odR [.list zL,.list zL] (qI okD dR dP))]) (loT []) (iEx L Y l n i w [e,j,k,q,y,z] h o t G P D S O U C st V Z F I)=dF okL lL lP 6 h o t G P D S O U C st V Z F I L Y l n i w [e,j,k,q,y,z]:=by kernel_rfl
section
variable (bc:List Wt→Int)(okL:LF Bool)(lL:LF (List Rt))(lP:LF Nat)(okD:List Rt→List Rt→Bool)(dR:List Rt→List Rt→Raw)(dP:List Rt→List Rt→Nat)
theorem qNa:∀q y,(hEx okL lL lP 6 q).run=some y→∃n,It (qCc (odT [(46,odR [.list wT] (oBc bc)),(32,odR [tbT,nT,nT,nT,nT,nT] (tC 6 okL lL lP)),(70,odR [.list zL,.list zL] (qI okD dR dP))]) (loT [])) n q y:=zCs okL lL lP 6 fun h o t G P D S O U C st V Z F I L Y l i w e H=>match e,H with
 | [j,k,z,A,B,E],_=>sEx6 bc okL lL lP okD dR dP L Y l l.length i w j k z A B E h o t G P D S O U C st V Z F I
abbrev LEx6:Lo:=loT [(22,[false,true,false,true,true,true,true],Lex6.rowP (evD Tryz.prog (odT [(46,odR [.list wT] (oBc bc)),(32,odR [tbT,nT,nT,nT,nT,nT] (tC 6 okL lL lP)),(70,odR [.list zL,.list zL] (qI okD dR dP))]) (loT []) 60) 22 [false,true,false,true,true,true,true] zSy (hEx okL lL lP 6))]
end
def rvF(f:Nat→Rt)(m:Nat):List Rt:=(hdF f (f 0) m::tlF f (f 0) m).reverse
theorem zFp(f:Nat→Rt)(m:Nat):(rvF f m).length=m+1:=by
 unfold rvF;rw[xf,qf,zFq]
theorem qSl(f:Nat→Rt):∀m,hdF f (f 0) m=f m
 | 0=>rfl
 | _+1=>rfl
theorem qTt(f:Nat→Rt):∀m,tlF f (f 0) m=((List.range m).map f).reverse
 | 0=>rfl
 | m+1=>by
  show hdF f (f 0) m::tlF f (f 0) m=_;rw[qSl,qTt f m,uZ,xu,List.reverse_append];rfl
theorem jFc(f:Nat→Rt)(m:Nat):rvF f m=(List.range (m+1)).map f:=by
 unfold rvF;rw[qSl,qTt,ye,ve,uZ,xu];rfl
section
variable (okD:List Rt→List Rt→Bool)(dR:List Rt→List Rt→Raw)(dP:List Rt→List Rt→Nat)
def xpD(w e:Nat→Nat→Rt)(m:Nat):Nat→Nat→List Raw→Option (T×Bool)
 | 0,_,j=>some (.tu [.sl (flR j.reverse) j.length,vn 0],true)
 | k+1,b,j=>beG 1 (tlF (w 0) (w 0 0) m) (beG 1 (tlF (e b) (e b 0) m) (gd (Nat.ble (rvF (w 0) m).length 100000&&Nat.ble (rvF (e b) m).length 100000) (bif okD (rvF (w 0) m) (rvF (e b) m)then xpD w e m k (b+1) (dR (rvF (w 0) m) (rvF (e b) m)::j)else er (dP (rvF (w 0) m) (rvF (e b) m)+1))))
def xpL(w e:Nat→Nat→Rt)(m:Nat):Nat→Nat→List Raw→List Raw⊕Nat
 | 0,_,j=> .inl j.reverse
 | k+1,b,j=>bif okD (rvF (w 0) m) (rvF (e b) m)then xpL w e m k (b+1) (dR (rvF (w 0) m) (rvF (e b) m)::j)else .inr (dP (rvF (w 0) m) (rvF (e b) m)+1)
theorem qKl(w j:Nat→Nat→Rt)(m:Nat)(hm:m+1≤100000):∀(k b:Nat)(e:List Raw),xpD okD dR dP w j m k b e=qId (xpL okD dR dP w j m k b e)
 | 0,b,e=>by
  show(some (.tu [.sl (flR e.reverse) e.length,vn 0],true):Option (T×Bool))=some (.tu [.sl (flR e.reverse) e.reverse.length,vn 0],true);rw[xf]
 | k+1,b,e=>by
  simp only[xpD,xpL];rw[zTg,zTg,zFp,zFp,yK hm];simp only[gd,jf,ze];cases okD (rvF (w 0) m) (rvF (j b) m)with
  | false=>rfl
  | true=>exact qKl w j m hm k (b+1) _
end
section
variable (bc:List Wt→Int)(okL:LF Bool)(lL:LF (List Rt))(lP:LF Nat)(okD:List Rt→List Rt→Bool)(dR:List Rt→List Rt→Raw)(dP:List Rt→List Rt→Nat)
def xpG(k:Nat)(h o t:List Int)(G:List Bd)(P D S:Int)(O U:List Nz)(C st V:Raw)(Z:Int)(F I:List (List Int))(L:Int)(l:List Wt)(Y:Int):Option (T×Bool):=bif !ieq (bc l) 0 then some (.tu [zQv,vi (bc l)],true)else gd (ilt (.ofNat 0) (.ofNat l.length)) (gd (Nat.blt 0 l.length) (gd (Nat.blt F.length 9223372036854775807) (gd (ptO okL h o t G P D S O U C st V Z F I L Y l 0) (gd (Nat.beq G.length k) (gd (Nat.beq l.length l.length&&(Nat.blt 0 l.length&&(Nat.ble l.length 100000&&(Nat.blt F.length 9223372036854775807&&Nat.beq G.length k)))) (bif isO (xpF okL lP h o t G P D S O U C st V Z F I L Y l)then xpD okD dR dP (fun _=>xW l) (aL lL h o t G P D S O U C st V Z F I L Y l) (l.length-1) k 0 []else er (eO (xpF okL lP h o t G P D S O U C st V Z F I L Y l))))))))
theorem jDh(h o t:List Int)(G:List Bd)(P D S:Int)(O U:List Nz)(C st V:Raw)(Z:Int)(F I:List (List Int))(L:Int)(l:List Wt)(Y:Int)(k:bc l=0)(e:0<l.length)(j:l.length≤100000)(q:F.length<9223372036854775807)(hp:ptO okL h o t G P D S O U C st V Z F I L Y l 0=true):xpG bc okL lL lP okD dR dP G.length h o t G P D S O U C st V Z F I L l Y=bif isO (xpF okL lP h o t G P D S O U C st V Z F I L Y l)then qId (xpL okD dR dP (fun _=>xW l) (aL lL h o t G P D S O U C st V Z F I L Y l) (l.length-1) G.length 0 [])else er (eO (xpF okL lP h o t G P D S O U C st V Z F I L Y l)):=by
 unfold xpG;rw[k,zO e,zO q,hp,jD,jD,yK j,show ilt (.ofNat 0) (.ofNat l.length)=true from zO e,qKl okD dR dP _ _ _ (show l.length-1+1≤100000 by omega)]
 rfl
end
set_option maxHeartbeats 0 in
theorem eEx1(bc:List Wt→Int)(okL:LF Bool)(lL:LF (List Rt))(lP:LF Nat)(okD:List Rt→List Rt→Bool)(dR:List Rt→List Rt→Raw)(dP:List Rt→List Rt→Nat)(h o t:List Int)(G:List Bd)(P D S:Int)(O U:List Nz)(C st V:Raw)(Z:Int)(F I:List (List Int))(L:Int)(l:List Wt)(Y:Int):((qC Tryz.prog (evD Tryz.prog (odT [(46,odR [.list wT] (oBc bc)),(32,odR [tbT,nT,nT,nT,nT,nT] (tC 1 okL lL lP)),(70,odR [.list zL,.list zL] (qI okD dR dP))]) (LEx1 bc okL lL lP okD dR dP) 60) 22 [.ag (tbC h o t G P D S O U C st V Z F I),vi L,.ls .a wT l,vi Y] []).bind qF).run=xpG bc okL lL lP okD dR dP 1 h o t G P D S O U C st V Z F I L l Y:=by kernel_rfl
set_option maxHeartbeats 0 in
theorem eEx2(bc:List Wt→Int)(okL:LF Bool)(lL:LF (List Rt))(lP:LF Nat)(okD:List Rt→List Rt→Bool)(dR:List Rt→List Rt→Raw)(dP:List Rt→List Rt→Nat)(h o t:List Int)(G:List Bd)(P D S:Int)(O U:List Nz)(C st V:Raw)(Z:Int)(F I:List (List Int))(L:Int)(l:List Wt)(Y:Int):((qC Tryz.prog (evD Tryz.prog (odT [(46,odR [.list wT] (oBc bc)),(32,odR [tbT,nT,nT,nT,nT,nT] (tC 2 okL lL lP)),(70,odR [.list zL,.list zL] (qI okD dR dP))]) (LEx2 bc okL lL lP okD dR dP) 60) 22 [.ag (tbC h o t G P D S O U C st V Z F I),vi L,.ls .a wT l,vi Y] []).bind qF).run=xpG bc okL lL lP okD dR dP 2 h o t G P D S O U C st V Z F I L l Y:=by kernel_rfl
set_option maxHeartbeats 0 in
theorem eEx3(bc:List Wt→Int)(okL:LF Bool)(lL:LF (List Rt))(lP:LF Nat)(okD:List Rt→List Rt→Bool)(dR:List Rt→List Rt→Raw)(dP:List Rt→List Rt→Nat)(h o t:List Int)(G:List Bd)(P D S:Int)(O U:List Nz)(C st V:Raw)(Z:Int)(F I:List (List Int))(L:Int)(l:List Wt)(Y:Int):((qC Tryz.prog (evD Tryz.prog (odT [(46,odR [.list wT] (oBc bc)),(32,odR [tbT,nT,nT,nT,nT,nT] (tC 3 okL lL lP)),(70,odR [.list zL,.list zL] (qI okD dR dP))]) (LEx3 bc okL lL lP okD dR dP) 60) 22 [.ag (tbC h o t G P D S O U C st V Z F I),vi L,.ls .a wT l,vi Y] []).bind qF).run=xpG bc okL lL lP okD dR dP 3 h o t G P D S O U C st V Z F I L l Y:=by kernel_rfl
set_option maxHeartbeats 0 in
theorem eEx4(bc:List Wt→Int)(okL:LF Bool)(lL:LF (List Rt))(lP:LF Nat)(okD:List Rt→List Rt→Bool)(dR:List Rt→List Rt→Raw)(dP:List Rt→List Rt→Nat)(h o t:List Int)(G:List Bd)(P D S:Int)(O U:List Nz)(C st V:Raw)(Z:Int)(F I:List (List Int))(L:Int)(l:List Wt)(Y:Int):((qC Tryz.prog (evD Tryz.prog (odT [(46,odR [.list wT] (oBc bc)),(32,odR [tbT,nT,nT,nT,nT,nT] (tC 4 okL lL lP)),(70,odR [.list zL,.list zL] (qI okD dR dP))]) (LEx4 bc okL lL lP okD dR dP) 60) 22 [.ag (tbC h o t G P D S O U C st V Z F I),vi L,.ls .a wT l,vi Y] []).bind qF).run=xpG bc okL lL lP okD dR dP 4 h o t G P D S O U C st V Z F I L l Y:=by kernel_rfl
set_option maxHeartbeats 0 in
theorem eEx5(bc:List Wt→Int)(okL:LF Bool)(lL:LF (List Rt))(lP:LF Nat)(okD:List Rt→List Rt→Bool)(dR:List Rt→List Rt→Raw)(dP:List Rt→List Rt→Nat)(h o t:List Int)(G:List Bd)(P D S:Int)(O U:List Nz)(C st V:Raw)(Z:Int)(F I:List (List Int))(L:Int)(l:List Wt)(Y:Int):((qC Tryz.prog (evD Tryz.prog (odT [(46,odR [.list wT] (oBc bc)),(32,odR [tbT,nT,nT,nT,nT,nT] (tC 5 okL lL lP)),(70,odR [.list zL,.list zL] (qI okD dR dP))]) (LEx5 bc okL lL lP okD dR dP) 60) 22 [.ag (tbC h o t G P D S O U C st V Z F I),vi L,.ls .a wT l,vi Y] []).bind qF).run=xpG bc okL lL lP okD dR dP 5 h o t G P D S O U C st V Z F I L l Y:=by kernel_rfl
set_option maxHeartbeats 0 in
theorem eEx6(bc:List Wt→Int)(okL:LF Bool)(lL:LF (List Rt))(lP:LF Nat)(okD:List Rt→List Rt→Bool)(dR:List Rt→List Rt→Raw)(dP:List Rt→List Rt→Nat)(h o t:List Int)(G:List Bd)(P D S:Int)(O U:List Nz)(C st V:Raw)(Z:Int)(F I:List (List Int))(L:Int)(l:List Wt)(Y:Int):((qC Tryz.prog (evD Tryz.prog (odT [(46,odR [.list wT] (oBc bc)),(32,odR [tbT,nT,nT,nT,nT,nT] (tC 6 okL lL lP)),(70,odR [.list zL,.list zL] (qI okD dR dP))]) (LEx6 bc okL lL lP okD dR dP) 60) 22 [.ag (tbC h o t G P D S O U C st V Z F I),vi L,.ls .a wT l,vi Y] []).bind qF).run=xpG bc okL lL lP okD dR dP 6 h o t G P D S O U C st V Z F I L l Y:=by kernel_rfl
def qHc(okL:LF Bool)(lP:LF Nat):List T→DT (T×Bool)
 | [.ag [.ls .a (.int .i64) h,.ls .a (.int .i64) o,.ls .a (.int .i64) t,.ls .a (.prod (.int .u8) (.prod (.int .i64) (.int .i64))) G,.v (.int .i64 P),.v (.int .i64 D),.v (.int .i64 S),.ls .a (.prod (.int .i64) zL) O,.ls .a (.prod (.int .i64) zL) U,.v (.bool e),.ls .a .lim C,.ls .a .lim j,.v (.bool y),.ls .a .lim sl,.ls .a .lim z,.v (.bool k),.ls .a .lim q,.ls .a .lim w,.v (.int .i64 Z),.ls .a (.list (.int .i64)) F,.ls .a (.list (.int .i64)) I],.v (.int .i64 L),.v (.int .i64 H),.v (.int .i64 W),.v (.int .i64 A),.v (.int .i64 Y)]=>grd (Nat.blt F.length 9223372036854775807) (.ite (okL h o t G P D S O U ⟨e,C,j⟩ ⟨y,sl,z⟩ ⟨k,q,w⟩ Z F I L H W A Y) .no (.ret (.tu [.ls .a zL [],.v (.int .i64 (.ofNat (lP h o t G P D S O U ⟨e,C,j⟩ ⟨y,sl,z⟩ ⟨k,q,w⟩ Z F I L H W A Y+1)))],true)))
 | _=> .no
theorem kLkE:∀az w nw,(qHc jN lkP az).run=some (w,nw)→∀k,KnP Tryz.prog k 32 az w nw:=by
 intro az w nw q k;refine kLk az w nw ?_ k;unfold qHc at q;unfold oLk;split at q
 ·rename_i h o t G P D S O U y C z K sl M B E J Z F I L H W N Y;obtain⟨A,j⟩:=zR q;simp only[grd,DT.run,A,ze];simp only[DT.run]at j;cases e:jN h o t G P D S O U ⟨y,C,z⟩ ⟨K,sl,M⟩ ⟨B,E,J⟩ Z F I L H W N Y with
  | true=>rw[e]at j;cases j
  | false=>rw[e]at j;exact j
 ·cases q
theorem eEx0(bc:List Wt→Int)(okL:LF Bool)(lP:LF Nat)(h o t:List Int)(G:List Bd)(P D S:Int)(O U:List Nz)(C st V:Raw)(Z:Int)(F I:List (List Int))(L:Int)(l:List Wt)(Y:Int):((qC Tryz.prog (evD Tryz.prog (odT [(46,odR [.list wT] (oBc bc)),(32,odR [tbT,nT,nT,nT,nT,nT] (qHc okL lP))]) (loT []) 60) 22 [.ag (tbC h o t G P D S O U C st V Z F I),vi L,.ls .a wT l,vi Y] []).bind qF).run=bif !(ieq (bc l) 0)then some (.tu [.v (Value.slice none 0 0),vi (bc l)],true)else(bif ilt (.ofNat 0) (.ofNat l.length)then gd (Nat.blt 0 l.length) (gd (Nat.blt F.length 9223372036854775807) (bif okL h o t G P D S O U C st V Z F I L (((wA l 0).1).1) ((((wA l 0).1).2).1) ((((wA l 0).1).2).2) Y then none else some (.tu [.v (Value.slice none 0 0),vn ((lP h o t G P D S O U C st V Z F I L (((wA l 0).1).1) ((((wA l 0).1).2).1) ((((wA l 0).1).2).2) Y)+1)],true)))else some (.tu [.v (Value.slice none 0 0),vn 0],true)):=by kernel_rfl
theorem jDv(l:List Wt):0≤bE l:=by
 unfold bE bcE;refine bnn (by decide) (bnn (by decide) ?_)
 have w:0≤eN (b0F Raw.chk l):=qEo (β:=Unit) (g:=gB0 Raw.chk l) (fun i e j=>by
  unfold gB0 at j;cases z:zNu (wA l i).1<;>rw[z]at j
  ·cases q:(ilt 0 (.ofNat i)&&!ilt (cpP (wA l (i-1)).1 (wA l i).1) 0)<;>rw[q]at j
   ·cases A:ieq (Raw.chk (rw' (wA l i).2)) 0<;>rw[A]at j
    ·cases j;exact zMk _
    ·cases B:((wA l i).2.1||ieq (.ofNat (wA l i).2.2.1.length) 0)<;>rw[B]at j<;>cases j;decide
   ·cases j;decide
  ·cases j;decide) l.length 0
 cases h:b0F Raw.chk l with
 | some e=>rw[h]at w;exact w
 | none=>
  have q:0≤(b1F adA aeA frA l).2:=by
   have:=xG (g:=gB1 adA aeA l) (d:=id) (J:=fun a=>0≤a.2) (R:=fun a=>0≤a.2) (fun i a b E k=>by
    unfold gB1 at k;cases e:ieq a.2 0<;>rw[e]at k<;>cases k
    ·exact E
    ·exact zNr _ _ _) (fun i a y _ k=>by unfold gB1 at k;cases k) (fun a h=>h) l.length 0 (frA 0,0) (kp 0)
   exact this
  exact bnn q (bnn (by decide) (by decide))
theorem zMd{l:List Wt}(h:bE l=0):0<l.length∧l.length≤4096:=by
 unfold bE bcE at h;cases e:Nat.beq l.length 0 with
 | true=>rw[e]at h;cases h
 | false=>
  cases j:Nat.blt 4096 l.length with
  | true=>rw[e,j]at h;cases h
  | false=>
   refine⟨?_,?_⟩
   ·rcases jp l.length with g | g
    ·rw[g]at e;cases e
    ·exact g
   ·rcases qg 4096 l.length with g | g
    ·rw[zO g]at j;cases j
    ·exact g
def xpR(h o t:List Int)(G:List Bd)(P D S:Int)(O U:List Nz)(C st V:Raw)(Z:Int)(F I:List (List Int))(L:Int)(l:List Wt)(Y:Int):List Raw⊕Nat:=bif !ieq (bE l) 0 then .inr (bE l).toNat else(bif ptO jN h o t G P D S O U C st V Z F I L Y l 0 then(bif isO (xpF jN lkP h o t G P D S O U C st V Z F I L Y l)then xpL zU qL qZ (fun _=>xW l) (aL lkL h o t G P D S O U C st V Z F I L Y l) (l.length-1) G.length 0 []else .inr (eO (xpF jN lkP h o t G P D S O U C st V Z F I L Y l)))else .inr (ptP lkP h o t G P D S O U C st V Z F I L Y l 0+1))
abbrev xpO(h o t:List Int)(G:List Bd)(P D S:Int)(O U:List Nz)(C st V:Raw)(Z:Int)(F I:List (List Int))(L:Int)(l:List Wt)(Y:Int):Bool:=isR (xpR h o t G P D S O U C st V Z F I L l Y)
abbrev xpV(h o t:List Int)(G:List Bd)(P D S:Int)(O U:List Nz)(C st V:Raw)(Z:Int)(F I:List (List Int))(L:Int)(l:List Wt)(Y:Int):List Rt:=lR (xpR h o t G P D S O U C st V Z F I L l Y)
abbrev xpP(h o t:List Int)(G:List Bd)(P D S:Int)(O U:List Nz)(C st V:Raw)(Z:Int)(F I:List (List Int))(L:Int)(l:List Wt)(Y:Int):Nat:=eR (xpR h o t G P D S O U C st V Z F I L l Y)-1
def oEx(xO:List Int→List Int→List Int→List Bd→Int→Int→Int→List Nz→List Nz→Raw→Raw→Raw→Int→List (List Int)→List (List Int)→Int→List Wt→Int→Bool)(xL:List Int→List Int→List Int→List Bd→Int→Int→Int→List Nz→List Nz→Raw→Raw→Raw→Int→List (List Int)→List (List Int)→Int→List Wt→Int→List Rt)(xP:List Int→List Int→List Int→List Bd→Int→Int→Int→List Nz→List Nz→Raw→Raw→Raw→Int→List (List Int)→List (List Int)→Int→List Wt→Int→Nat):List T→DT (T×Bool)
 | [.ag [.ls .a (.int .i64) h,.ls .a (.int .i64) o,.ls .a (.int .i64) t,.ls .a (.prod (.int .u8) (.prod (.int .i64) (.int .i64))) G,.v (.int .i64 P),.v (.int .i64 D),.v (.int .i64 S),.ls .a (.prod (.int .i64) zL) O,.ls .a (.prod (.int .i64) zL) U,.v (.bool e),.ls .a .lim C,.ls .a .lim j,.v (.bool y),.ls .a .lim sl,.ls .a .lim z,.v (.bool k),.ls .a .lim q,.ls .a .lim w,.v (.int .i64 Z),.ls .a (.list (.int .i64)) F,.ls .a (.list (.int .i64)) I],.v (.int .i64 L),.ls .a (.prod (.prod (.int .i64) (.prod (.int .i64) (.int .i64))) zL) l,.v (.int .i64 Y)]=>grd (Nat.blt F.length 9223372036854775807) (.ite (xO h o t G P D S O U ⟨e,C,j⟩ ⟨y,sl,z⟩ ⟨k,q,w⟩ Z F I L l Y) (.ret (.tu [.ls .a zL (xL h o t G P D S O U ⟨e,C,j⟩ ⟨y,sl,z⟩ ⟨k,q,w⟩ Z F I L l Y),.v (.int .i64 (.ofNat 0))],true)) (.ret (.tu [.ls .a zL [],.v (.int .i64 (.ofNat (xP h o t G P D S O U ⟨e,C,j⟩ ⟨y,sl,z⟩ ⟨k,q,w⟩ Z F I L l Y+1)))],true)))
 | _=> .no
theorem sU(k:Nat):vD Tryz.prog (odT [(46,odR [.list wT] (oBc bE)),(32,odR [tbT,nT,nT,nT,nT,nT] (tC k jN lkL lkP)),(70,odR [.list zL,.list zL] (qI zU qL qZ))]):=zS (zS (zS jZ (jI kDot)) (jI (kLkX k))) (jI kBc)
theorem qOm:vD Tryz.prog (odT [(46,odR [.list wT] (oBc bE)),(32,odR [tbT,nT,nT,nT,nT,nT] (qHc jN lkP))]):=zS (zS jZ (jI kLkE)) (jI kBc)
theorem qNw:wC Tryz.prog (LEx1 bE jN lkL lkP zU qL qZ):=bL zZ (kL yE (sU 1) zZ 60) qKr (qMv bE jN lkL lkP zU qL qZ)
theorem qNx:wC Tryz.prog (LEx2 bE jN lkL lkP zU qL qZ):=bL zZ (kL yE (sU 2) zZ 60) qKs (qMw bE jN lkL lkP zU qL qZ)
theorem qNy:wC Tryz.prog (LEx3 bE jN lkL lkP zU qL qZ):=bL zZ (kL yE (sU 3) zZ 60) qKt (qMx bE jN lkL lkP zU qL qZ)
theorem qNz:wC Tryz.prog (LEx4 bE jN lkL lkP zU qL qZ):=bL zZ (kL yE (sU 4) zZ 60) qKu (qMy bE jN lkL lkP zU qL qZ)
theorem qOa:wC Tryz.prog (LEx5 bE jN lkL lkP zU qL qZ):=bL zZ (kL yE (sU 5) zZ 60) qKv (qMz bE jN lkL lkP zU qL qZ)
theorem qOb:wC Tryz.prog (LEx6 bE jN lkL lkP zU qL qZ):=bL zZ (kL yE (sU 6) zZ 60) qKw (qNa bE jN lkL lkP zU qL qZ)
theorem qJs{h o t:List Int}{G:List Bd}{P D S:Int}{O U:List Nz}{C st V:Raw}{Z:Int}{F I:List (List Int)}{L H W j Y:Int}(e:jN h o t G P D S O U C st V Z F I L H W j Y=true):Tab h o t G S Z F I:=by
 unfold jN lkR at e;cases k:Nat.beq (lkE h o t G P D S O U C st V Z F I L H W j Y) 0 with
 | false=>rw[k]at e;cases e
 | true=>exact qJt kyF h o t G P D S O U C st V Z F I (qH.1 (zXk yP pPA h o t G P D S O U C st V Z F I L H W j Y k).1)
theorem zZh{okD:List Rt→List Rt→Bool}{dR:List Rt→List Rt→Raw}{dP:List Rt→List Rt→Nat}{w q:Nat→Nat→Rt}{m:Nat}:∀(k b:Nat)(j:List Raw){e:Nat},xpL okD dR dP w q m k b j= .inr e→1≤e
 | 0,_,_,_,h=>by cases h
 | k+1,b,j,e,h=>by
  simp only[xpL]at h;cases H:okD (rvF (w 0) m) (rvF (q b) m)with
  | true=>rw[H]at h;exact zZh k (b+1) _ h
  | false=>rw[H]at h;cases h;omega
theorem qQs{okL:List Int→List Int→List Int→List Bd→Int→Int→Int→List Nz→List Nz→Raw→Raw→Raw→Int→List (List Int)→List (List Int)→Int→Int→Int→Int→Int→Bool}{lP:List Int→List Int→List Int→List Bd→Int→Int→Int→List Nz→List Nz→Raw→Raw→Raw→Int→List (List Int)→List (List Int)→Int→Int→Int→Int→Int→Nat}(h o t:List Int)(G:List Bd)(P D S:Int)(O U:List Nz)(C st V:Raw)(Z:Int)(F I:List (List Int)){L Y:Int}{l:List Wt}{e:Nat}(j:xpF okL lP h o t G P D S O U C st V Z F I L Y l=some e):1≤e:=by
 have:=xG (g:=gEx okL lP h o t G P D S O U C st V Z F I L Y l) (d:=fun _=>none) (J:=fun _=>True) (R:=fun y=>∀e,y=some e→1≤e) (fun _ _ _ _ _=>trivial) (fun i a y _ k e he=>by
  unfold gEx at k;cases j:ptO okL h o t G P D S O U C st V Z F I L Y l (i+1)<;>rw[j]at k<;>cases k;cases he;omega) (fun _ _ e he=>by cases he) (l.length-1) 0 () trivial
 exact this e j
theorem zDy(h o t:List Int)(G:List Bd)(P D S:Int)(O U:List Nz)(C st V:Raw)(Z:Int)(F I:List (List Int))(L:Int)(l:List Wt)(Y:Int)(k:Nat){od:Od}{M:Lo}(Q:vD Tryz.prog od)(N:wC Tryz.prog M)(hr:F.length<9223372036854775807)(E:bE l=0)(hp:ptO jN h o t G P D S O U C st V Z F I L Y l 0=true)(X:((qC Tryz.prog (evD Tryz.prog (od) (M) 60) 22 [.ag (tbC h o t G P D S O U C st V Z F I),vi L,.ls .a wT l,vi Y] []).bind qF).run=xpG bE jN lkL lkP zU qL qZ G.length h o t G P D S O U C st V Z F I L l Y):KnP Tryz.prog k 22 [.ag (tbC h o t G P D S O U C st V Z F I),vi L,.ls .a wT l,vi Y] (bif xpO h o t G P D S O U C st V Z F I L l Y then .tu [.ls .a zL (xpV h o t G P D S O U C st V Z F I L l Y),vn 0]else .tu [.ls .a zL [],vn (xpP h o t G P D S O U C st V Z F I L l Y+1)]) true:=by
 obtain⟨R,h9⟩:=zMd E;have q:=X.trans (jDh bE jN lkL lkP zU qL qZ h o t G P D S O U C st V Z F I L l Y E R (by omega) hr hp)
 have w:∀{e:Nat},xpR h o t G P D S O U C st V Z F I L l Y= .inr e→1≤e→((qC Tryz.prog (evD Tryz.prog (od) (M) 60) 22 [.ag (tbC h o t G P D S O U C st V Z F I),vi L,.ls .a wT l,vi Y] []).bind qF).run=er e→KnP Tryz.prog k 22 [.ag (tbC h o t G P D S O U C st V Z F I),vi L,.ls .a wT l,vi Y] (bif xpO h o t G P D S O U C st V Z F I L l Y then .tu [.ls .a zL (xpV h o t G P D S O U C st V Z F I L l Y),vn 0]else .tu [.ls .a zL [],vn (xpP h o t G P D S O U C st V Z F I L l Y+1)]) true:=fun{e}he W H=>by
  have y:xpO h o t G P D S O U C st V Z F I L l Y=false:=by unfold xpO;rw[he];rfl
  have z:xpP h o t G P D S O U C st V Z F I L l Y+1=e:=by unfold xpP;rw[he];exact yb W
  rw[y,z];exact(yM (cz:=[.ag (tbC h o t G P D S O U C st V Z F I),vi L,.ls .a wT l,vi Y]) yE Q N H rfl k).res fun B r v hv=>zAe hv
 have j:xpR h o t G P D S O U C st V Z F I L l Y=bif isO (xpF jN lkP h o t G P D S O U C st V Z F I L Y l)then xpL zU qL qZ (fun _=>xW l) (aL lkL h o t G P D S O U C st V Z F I L Y l) (l.length-1) G.length 0 []else .inr (eO (xpF jN lkP h o t G P D S O U C st V Z F I L Y l)):=by
  unfold xpR;rw[E,hp];rfl
 cases A:xpF jN lkP h o t G P D S O U C st V Z F I L Y l with
 | some e=>
  rw[A]at q j;exact w j (qQs h o t G P D S O U C st V Z F I A) q
 | none=>
  rw[A]at q j;simp only[isO,ze]at q j;cases K:xpL zU qL qZ (fun _=>xW l) (aL lkL h o t G P D S O U C st V Z F I L Y l) (l.length-1) G.length 0 []with
  | inr e=>
   rw[K]at q j;exact w j (zZh G.length 0 [] K) q
  | inl x=>
   rw[K]at q j;have y:xpO h o t G P D S O U C st V Z F I L l Y=true:=by unfold xpO;rw[j];rfl
   have z:xpV h o t G P D S O U C st V Z F I L l Y=x.map toT:=by unfold xpV;rw[j];rfl
   rw[y,z];have J:(([.ag (tbC h o t G P D S O U C st V Z F I),vi L,.ls .a wT l,vi Y]:List T).all (clean 12)&&clean 12 (.tu [.sl (flR x) x.length,vn 0]))=true:=by
    show(true&&((flR x).all (clean 10)&&true))=true;rw[zTi 9];rfl
   exact(yM (cz:=[.ag (tbC h o t G P D S O U C st V Z F I),vi L,.ls .a wT l,vi Y]) yE Q N q J k).res fun B r v hv=>qTr hv
theorem kEx:∀az tv nw,(oEx xpO xpV xpP az).run=some (tv,nw)→∀k,KnP Tryz.prog k 22 az tv nw:=by
 intro az tv nw W k;unfold oEx at W;split at W
 ·rename_i h o t G P D S O U j C w E sl J y z A Z F I L l Y;obtain⟨X,h2⟩:=zR W;have Q:=jL X;have R:∀{e:Nat},xpR h o t G P D S O U ⟨j,C,w⟩ ⟨E,sl,J⟩ ⟨y,z,A⟩ Z F I L l Y= .inr e→1≤e→((qC Tryz.prog (evD Tryz.prog (odT [(46,odR [.list wT] (oBc bE)),(32,odR [tbT,nT,nT,nT,nT,nT] (qHc jN lkP))]) (loT []) 60) 22 [.ag (tbC h o t G P D S O U ⟨j,C,w⟩ ⟨E,sl,J⟩ ⟨y,z,A⟩ Z F I),vi L,.ls .a wT l,vi Y] []).bind qF).run=er e→KnP Tryz.prog k 22 [.ag (tbC h o t G P D S O U ⟨j,C,w⟩ ⟨E,sl,J⟩ ⟨y,z,A⟩ Z F I),vi L,.ls .a wT l,vi Y] (bif xpO h o t G P D S O U ⟨j,C,w⟩ ⟨E,sl,J⟩ ⟨y,z,A⟩ Z F I L l Y then .tu [.ls .a zL (xpV h o t G P D S O U ⟨j,C,w⟩ ⟨E,sl,J⟩ ⟨y,z,A⟩ Z F I L l Y),vn 0]else .tu [.ls .a zL [],vn (xpP h o t G P D S O U ⟨j,C,w⟩ ⟨E,sl,J⟩ ⟨y,z,A⟩ Z F I L l Y+1)]) true:=fun{e}he X H=>by
   have e2:xpO h o t G P D S O U ⟨j,C,w⟩ ⟨E,sl,J⟩ ⟨y,z,A⟩ Z F I L l Y=false:=by unfold xpO;rw[he];rfl
   have e3:xpP h o t G P D S O U ⟨j,C,w⟩ ⟨E,sl,J⟩ ⟨y,z,A⟩ Z F I L l Y+1=e:=by unfold xpP;rw[he];exact yb X
   rw[e2,e3];exact(yM (cz:=[.ag (tbC h o t G P D S O U ⟨j,C,w⟩ ⟨E,sl,J⟩ ⟨y,z,A⟩ Z F I),vi L,.ls .a wT l,vi Y]) yE qOm zZ H rfl k).res fun B r v hv=>zAe hv
  have M:KnP Tryz.prog k 22 [.ag (tbC h o t G P D S O U ⟨j,C,w⟩ ⟨E,sl,J⟩ ⟨y,z,A⟩ Z F I),vi L,.ls .a wT l,vi Y] (bif xpO h o t G P D S O U ⟨j,C,w⟩ ⟨E,sl,J⟩ ⟨y,z,A⟩ Z F I L l Y then .tu [.ls .a zL (xpV h o t G P D S O U ⟨j,C,w⟩ ⟨E,sl,J⟩ ⟨y,z,A⟩ Z F I L l Y),vn 0]else .tu [.ls .a zL [],vn (xpP h o t G P D S O U ⟨j,C,w⟩ ⟨E,sl,J⟩ ⟨y,z,A⟩ Z F I L l Y+1)]) true:=by
   have q:=eEx0 bE jN lkP h o t G P D S O U ⟨j,C,w⟩ ⟨E,sl,J⟩ ⟨y,z,A⟩ Z F I L l Y;cases N:ieq (bE l) 0 with
   | false=>
    rw[N]at q;have hp:0<bE l:=by
     rcases y8 (jDv l)with g | g
     ·exact g
     ·rw[xK g.symm]at N;cases N
    obtain⟨e,he⟩:=jh (vy hp);refine R (e:=e) (by unfold xpR;rw[N,he];rfl) (by omega) (q.trans ?_)
    rw[he];rfl
   | true=>
    have K:=qH.1 N;obtain⟨h0,h9⟩:=zMd K;cases hp:ptO jN h o t G P D S O U ⟨j,C,w⟩ ⟨E,sl,J⟩ ⟨y,z,A⟩ Z F I L Y l 0 with
    | false=>
     rw[N,show ilt (.ofNat 0) (.ofNat l.length)=true from zO h0,zO h0,zO Q,show jN h o t G P D S O U ⟨j,C,w⟩ ⟨E,sl,J⟩ ⟨y,z,A⟩ Z F I L (wA l 0).1.1 (wA l 0).1.2.1 (wA l 0).1.2.2 Y=false from hp]at q;exact R (by unfold xpR;rw[N,hp];rfl) (Nat.le_add_left 1 _) q
    | true=>
     have hT:Tab h o t G S Z F I:=qJs hp;have a1:=hT.mod.av1;have a6:=hT.mod.av6;rcases(show G.length=1∨G.length=2∨G.length=3∨G.length=4∨G.length=5∨G.length=6 by omega)with ha | ha | ha | ha | ha | ha
     ·exact zDy h o t G P D S O U ⟨j,C,w⟩ ⟨E,sl,J⟩ ⟨y,z,A⟩ Z F I L l Y k (sU 1) qNw Q K hp (by rw[ha];exact eEx1 bE jN lkL lkP zU qL qZ h o t G P D S O U ⟨j,C,w⟩ ⟨E,sl,J⟩ ⟨y,z,A⟩ Z F I L l Y)
     ·exact zDy h o t G P D S O U ⟨j,C,w⟩ ⟨E,sl,J⟩ ⟨y,z,A⟩ Z F I L l Y k (sU 2) qNx Q K hp (by rw[ha];exact eEx2 bE jN lkL lkP zU qL qZ h o t G P D S O U ⟨j,C,w⟩ ⟨E,sl,J⟩ ⟨y,z,A⟩ Z F I L l Y)
     ·exact zDy h o t G P D S O U ⟨j,C,w⟩ ⟨E,sl,J⟩ ⟨y,z,A⟩ Z F I L l Y k (sU 3) qNy Q K hp (by rw[ha];exact eEx3 bE jN lkL lkP zU qL qZ h o t G P D S O U ⟨j,C,w⟩ ⟨E,sl,J⟩ ⟨y,z,A⟩ Z F I L l Y)
     ·exact zDy h o t G P D S O U ⟨j,C,w⟩ ⟨E,sl,J⟩ ⟨y,z,A⟩ Z F I L l Y k (sU 4) qNz Q K hp (by rw[ha];exact eEx4 bE jN lkL lkP zU qL qZ h o t G P D S O U ⟨j,C,w⟩ ⟨E,sl,J⟩ ⟨y,z,A⟩ Z F I L l Y)
     ·exact zDy h o t G P D S O U ⟨j,C,w⟩ ⟨E,sl,J⟩ ⟨y,z,A⟩ Z F I L l Y k (sU 5) qOa Q K hp (by rw[ha];exact eEx5 bE jN lkL lkP zU qL qZ h o t G P D S O U ⟨j,C,w⟩ ⟨E,sl,J⟩ ⟨y,z,A⟩ Z F I L l Y)
     ·exact zDy h o t G P D S O U ⟨j,C,w⟩ ⟨E,sl,J⟩ ⟨y,z,A⟩ Z F I L l Y k (sU 6) qOb Q K hp (by rw[ha];exact eEx6 bE jN lkL lkP zU qL qZ h o t G P D S O U ⟨j,C,w⟩ ⟨E,sl,J⟩ ⟨y,z,A⟩ Z F I L l Y)
  simp only[DT.run]at h2;cases e:xpO h o t G P D S O U ⟨j,C,w⟩ ⟨E,sl,J⟩ ⟨y,z,A⟩ Z F I L l Y<;>rw[e]at h2 M<;>cases h2<;>exact M
 ·cases W
end
end Go.Proofs.YtdfmdiakjdggbaaGreatDoor
namespace Go.Proofs.YtdfmdiakjdggbaaGreatDoor.Kp
open Go Go.Gv Go.Ev Go.RowKit IntKind
noncomputable section
abbrev bT:Ty:= .prod (.int .u8) (.prod (.int .i64) (.int .i64))
abbrev Rt:=Ty.den zL
abbrev rw'(x:Rt):Raw:=⟨x.1,x.2.1,x.2.2⟩
def pAdd:List Ar→Option Rs:=pRR fun a b=>some (opR a b (a.rat+b.rat),opE a b (a.rat+b.rat))
def jAj:List (Nat×(List T→DT (T×Bool))):=[(75,kcD (pR Raw.chk) true),(34,kcD pAdd true),(47,kcD (pI fun n=>Raw.of (n:Rat)) true)]
def Lac:Lp:=⟨0,
 ⟨us' 14++([.h,.h,.h]++(us' 29)),[]⟩,
 ⟨us' 46,[]⟩,
 ⟨[.u,.u,.h]++(us' 43),[]⟩⟩
abbrev qQv:Code:=lpc Tryz.prog 36 [false,true,false,true,true]
theorem qTy:cAt Tryz.prog 36 [false,true,false,true,true]=some (.loop qQv):=by kernel_rfl
abbrev zVt(OD:Od)(e:Lo):Hs→Option (Hs⊕(Ex×Hs)):=Lac.stp (evD Tryz.prog OD e 60) 36 [false,true,false,true,true] qQv
def Lsa:Lp:=⟨0,
 ⟨[.h,.h,.u,.u,.a .n zL 28]++(us' 10++([.h,.h]++(us' 23))),[]⟩,
 ⟨us' 4++([.a .n zL 28]++(us' 35)),[]⟩,
 ⟨us' 4++([.h,.h]++(us' 34)),[]⟩⟩
abbrev qRn:Code:=lpc Tryz.prog 31 [false,true,false,true,true]
theorem qUp:cAt Tryz.prog 31 [false,true,false,true,true]=some (.loop qRn):=by kernel_rfl
abbrev zOx(OD:Od)(e:Lo):Hs→Option (Hs⊕(Ex×Hs)):=Lsa.stp (evD Tryz.prog OD e 60) 31 [false,true,false,true,true] qRn
def Lse:Lp:=⟨5,
 ⟨[.u,.u,.h,.h,.u,.t (.op 0 0),.u,.u,.a .n zL 28]++(us' 47++([.h,.h,.h]++(us' 54))),[.r [.h,.h,.h,.h,.h,.h,.h,.h,.h] 35,.g,.g,.g,.g]⟩,
 ⟨us' 8++([.a .n zL 28]++(us' 104)),[.g,.g,.g,.g,.g]⟩,
 ⟨us' 8++([.h,.h]++(us' 103)),[.g,.g,.g,.g,.g]⟩⟩
abbrev qRo:Code:=lpc Tryz.prog 30 [false,true,false,true,true,true,true]
theorem qUq:cAt Tryz.prog 30 [false,true,false,true,true,true,true]=some (.loop qRo):=by kernel_rfl
abbrev zOy(OD:Od)(e:Lo):Hs→Option (Hs⊕(Ex×Hs)):=Lse.stp (evD Tryz.prog OD e 60) 30 [false,true,false,true,true,true,true] qRo
def nx{α:Type}(i:Nat)(x:α):Option α:=bif Nat.blt (i+1) 9223372036854775808 then some x else none
theorem kK{α:Type}{i:Nat}{x:α}(h:i+1<9223372036854775808):nx i x=some x:=by
 unfold nx;rw[zO h];rfl
abbrev OX:Od:=odT jAj
abbrev LX:Lo:=loT []
abbrev rAt(l:List Rt)(i:Nat):Raw:=rw' (nth zL.zero l i)
abbrev bAt(l:List bT.den)(i:Nat):bT.den:=nth bT.zero l i
abbrev St':=Option (Hs⊕(Ex×Hs))
abbrev zJe(e:Nat):St':=some (.inr (.r,⟨[.v (.int .i64 (.ofNat e))],[],[]⟩))
abbrev acB(x:bT.den)(k:St'):St':=bif ilt x.2.2 x.2.1 then zJe 1 else(bif ilt x.2.1 (.negSucc 99)then zJe 1 else(bif ilt (.ofNat 100) x.2.2 then zJe 1 else k))
def iAc(l:List bT.den)(n i:Nat):Hs:=⟨[.ls .a bT l,.v (.int .i64 (.ofNat n)),.v (.int .i64 (.ofNat i))],[],[]⟩
theorem sAc(l:List bT.den)(n i:Nat):zVt OX LX (iAc l n i)=bif Nat.blt i n then(bif Nat.blt i l.length then(bif !ieq (bAt l i).1 1 then(bif !ieq (bAt l i).1 2 then zJe 6 else acB (bAt l i) (nx i (.inl (iAc l n (i+1)))))else acB (bAt l i) (nx i (.inl (iAc l n (i+1)))))else none)else some (.inr (.x 1,⟨[],[],[]⟩)):=by kernel_rfl
abbrev adR(a b:Raw):Raw:=opR a b (a.rat+b.rat)
abbrev adE(a b:Raw):Int:=opE a b (a.rat+b.rat)
abbrev toT(a:Raw):Rt:=(a.neg,a.ln,a.ld)
def iSa(l m:List Rt)(n i:Nat)(a:List Rt):Hs:=⟨[.ls .a zL l,.ls .a zL m,.v (.int .i64 (.ofNat n)),.v (.int .i64 (.ofNat i))],[.ls .n zL a],[]⟩
theorem sSa0(l m:List Rt)(n i:Nat):zOx OX LX (iSa l m n i [])=bif Nat.blt i n then(bif Nat.blt i l.length then(bif Nat.blt i m.length then(bif !ieq (adE (rAt l i) (rAt m i)) 0 then some (.inr (.r,⟨[.v (.slice none 0 0),.v (.int .i64 (adE (rAt l i) (rAt m i)))],[],[]⟩))else nx i (.inl (iSa l m n (i+1) [toT (adR (rAt l i) (rAt m i))])))else none)else none)else some (.inr (.x 0,⟨[],[.ls .n zL []],[]⟩)):=by kernel_rfl
abbrev z0:Raw:=Raw.of ((0:Int):Rat)
abbrev erY(e:Int):St':=some (.inr (.r,⟨[.v (.slice none 0 0),.v (.int .i64 e)],[],[[],[],[],[],[]]⟩))
abbrev erW(k:Raw→St')(e:Int):St':=bif !ieq e 0 then erY e else k ⟨false,[],[]⟩
abbrev cA(er:Int→St')(v:Bool)(a c:Raw)(k:Raw→St'):St':=bif !v then k a else(bif !ieq (adE a c) 0 then er (adE a c)else k (adR a c))
abbrev on9(c d e:Raw):List T:=[.v (.bool c.neg),.ls .a .lim c.ln,.ls .a .lim c.ld,.v (.bool d.neg),.ls .a .lim d.ln,.ls .a .lim d.ld,.v (.bool e.neg),.ls .a .lim e.ln,.ls .a .lim e.ld]
def iSe(m:List bT.den)(n:Nat)(p h:Int)(c d e:Raw)(i:Nat)(a:List Rt):Hs:=⟨[.v (.int .i64 p),.v (.int .u8 h),.ls .a bT m,.v (.int .i64 (.ofNat n)),.v (.int .i64 (.ofNat i))],[.ls .n zL a],[on9 c d e,[],[],[],[]]⟩
abbrev seS(c d e:Raw)(j q w:Bool)(k:Raw→St'):St':=cA (erW k) j z0 c fun a=>cA (erW k) q a d fun a=>cA (erW k) w a e k
abbrev seC(c d e:Raw)(p:Int)(i:Nat)(j q:Bool)(k:Raw→St'):St':=bif ieq (.ofNat i) 0 then(bif !ieq p 0 then seS c d e j q true k else seS c d e j q false k)else seS c d e j q false k
abbrev seA(x:bT.den)(p h:Int)(c d e:Raw)(i:Nat)(j:Bool)(k:Raw→St'):St':=bif !ieq (.ofNat i) 0 then(bif !ieq h 0 then(bif ieq x.1 h then seC c d e p i j true k else seC c d e p i j false k)else seC c d e p i j false k)else seC c d e p i j false k
abbrev seB(x:bT.den)(p h:Int)(c d e:Raw)(i:Nat)(k:Raw→St'):St':=bif !ieq (.ofNat i) p then seA x p h c d e i true k else seA x p h c d e i false k
theorem sSe0(m:List bT.den)(n:Nat)(p h:Int)(c d e:Raw)(i:Nat):zOy OX LX (iSe m n p h c d e i [])=bif Nat.blt i n then(bif Nat.blt i m.length then seB (bAt m i) p h c d e i (fun s=>nx i (.inl (iSe m n p h c d e (i+1) [toT s])))else none)else some (.inr (.x 3,⟨[],[.ls .n zL []],[[],[],[],[],[]]⟩)):=by kernel_rfl
def ad(v:Bool)(a c:Raw):Raw⊕Int:=bif !v then .inl a else(bif !ieq (adE a c) 0 then .inr (adE a c)else .inl (adR a c))
def bi{α:Type}(s:Raw⊕Int)(f:Raw→α⊕Int):α⊕Int:=match s with | .inl a=>f a | .inr e=> .inr e
def zMs(er:Int→St')(k:Raw→St')(s:Raw⊕Int):St':=match s with | .inl a=>k a | .inr e=>er e
theorem qVn(er:Int→St')(v:Bool)(a c:Raw)(k:Raw→St'):cA er v a c k=zMs er k (ad v a c):=by
 unfold ad;cases v with
 | false=>rfl
 | true=>cases h:ieq (adE a c) 0<;>simp only[cA,h,zu,qy,ze,zf,zMs]
theorem jDx(er:Int→St')(v:Bool)(a c:Raw)(k:Raw→St')(f:Raw→Raw⊕Int):cA er v a c (fun x=>zMs er k (f x))=zMs er k (bi (ad v a c) f):=by
 unfold ad;cases v with
 | false=>rfl
 | true=>cases h:ieq (adE a c) 0<;>simp only[cA,h,zu,qy,ze,zf,zMs,bi]
theorem cA_w(k:Raw→St')(v:Bool)(a c:Raw)(e:Raw→St'):cA (erW k) v a c e=cA erY v a c e:=by
 cases v with
 | false=>rfl
 | true=>cases h:ieq (adE a c) 0<;>simp only[cA,erW,h,zu,qy,ze,zf]
def exS(c d e:Raw)(j k q:Bool):Raw⊕Int:=bi (ad j z0 c) fun a=>bi (ad k a d) fun a=>ad q a e
theorem jCl(c d e:Raw)(q w j:Bool)(k:Raw→St'):seS c d e q w j k=zMs erY k (exS c d e q w j):=by
 unfold exS;simp only[seS,cA_w,qVn erY j,jDx erY]
def exX(x:bT.den)(p h:Int)(c d e:Raw)(i:Nat):Raw⊕Int:=exS c d e (!ieq (.ofNat i) p) (ilt 0 (.ofNat i)&&(!ieq h 0&&ieq x.1 h)) (ieq (.ofNat i) 0&&ilt 0 p)
theorem zQg(i:Nat):(!ieq (.ofNat i) 0)=ilt 0 (.ofNat i):=by cases i<;>rfl
theorem qNj{p:Int}(hp:0≤p):(!ieq p 0)=ilt 0 p:=by
 cases p with
 | ofNat n=>exact zQg n
 | negSucc n=>omega
theorem qJg(x:bT.den)(p h:Int)(c d e:Raw)(i:Nat)(hp:0≤p)(k:Raw→St'):seB x p h c d e i k=zMs erY k (exX x p h c d e i):=by
 unfold exX;simp only[seB,seA,seC,jCl,qNj hp,zQg];cases ieq (.ofNat i) p<;>cases ilt 0 (.ofNat i)<;>cases ieq h 0<;>cases ieq x.1 h<;>cases ieq (.ofNat i) 0<;>cases ilt 0 p<;>rfl
abbrev pu(i:Nat)(a:List Rt)(z:Hs):St':=bif Nat.ble (a.length+1+1) 4021071095712 then(bif Nat.beq (a.length+1) (a.length+1)then(bif Nat.blt (i+1) 9223372036854775808 then(bif Nat.beq (a.length+1+1) (a.length+1+1)then some (.inl z)else none)else none)else none)else none
theorem qTj{i:Nat}{a:List Rt}{z:Hs}(h:i<4000000000000)(ha:a.length<4000000000000):pu i a z=some (.inl z):=by
 simp only[pu,yK (show a.length+1+1≤4021071095712 by omega),jD,zO (show i+1<9223372036854775808 by omega),ze]
theorem sSa1(l m:List Rt)(n i:Nat)(x:Rt)(a:List Rt):zOx OX LX (iSa l m n i (x::a))=bif Nat.blt i n then(bif Nat.blt i l.length then(bif Nat.blt i m.length then(bif !ieq (adE (rAt l i) (rAt m i)) 0 then some (.inr (.r,⟨[.v (.slice none 0 0),.v (.int .i64 (adE (rAt l i) (rAt m i)))],[],[]⟩))else pu i a (iSa l m n (i+1) (toT (adR (rAt l i) (rAt m i))::x::a)))else none)else none)else(bif Nat.beq (a.length+1) (a.length+1)then some (.inr (.x 0,⟨[],[.ls .n zL (x::a)],[]⟩))else none):=by kernel_rfl
theorem sSe1(m:List bT.den)(n:Nat)(p h:Int)(c d e:Raw)(i:Nat)(x:Rt)(a:List Rt):zOy OX LX (iSe m n p h c d e i (x::a))=bif Nat.blt i n then(bif Nat.blt i m.length then seB (bAt m i) p h c d e i (fun s=>pu i a (iSe m n p h c d e (i+1) (toT s::x::a)))else none)else(bif Nat.beq (a.length+1) (a.length+1)then some (.inr (.x 3,⟨[],[.ls .n zL (x::a)],[[],[],[],[],[]]⟩))else none):=by kernel_rfl
def gEx(l:List bT.den)(p h:Int)(c d e:Raw)(i:Nat)(a:List Rt):List Rt⊕(List Rt⊕Int):=match exX (bAt l i) p h c d e i with | .inl s=> .inl (toT s::a) | .inr y=> .inr (.inr y)
def exF(l:List bT.den)(p h:Int)(c d e:Raw):List Rt⊕Int:=fol (gEx l p h c d e) .inl l.length 0 []
def gAd(l m:List Rt)(i:Nat)(a:List Rt):List Rt⊕(List Rt⊕Int):=bif !ieq (adE (rAt l i) (rAt m i)) 0 then .inr (.inr (adE (rAt l i) (rAt m i)))else .inl (toT (adR (rAt l i) (rAt m i))::a)
def adF(l m:List Rt):List Rt⊕Int:=fol (gAd l m) .inl l.length 0 []
def qIe(id:Nat)(g:Tg)(e:List (List T)):List Rt⊕Int→Ex×Hs
 | .inl a=>(.x id,⟨[],[.ls g zL a],e⟩)
 | .inr y=>(.r,⟨[.v (.slice none 0 0),.v (.int .i64 y)],[],e⟩)
theorem qMp{l:List bT.den}{p h:Int}{c d e:Raw}{i:Nat}{a b:List Rt}(k:a.length=i)(j:gEx l p h c d e i a= .inl b):b.length=i+1:=by
 unfold gEx at j;split at j
 ·cases j;simp[k]
 ·cases j
theorem qMo{l m:List Rt}{i:Nat}{a b:List Rt}(k:a.length=i)(e:gAd l m i a= .inl b):b.length=i+1:=by
 unfold gAd at e;cases j:ieq (adE (rAt l i) (rAt m i)) 0 with
 | false=>simp only[j,qy,ze]at e;cases e
 | true=>simp only[j,zu,zf]at e;cases e;simp[k]
theorem itSe(l:List bT.den)(p h:Int)(c d e:Raw)(hp:0≤p)(w:l.length≤900):∃m,It (zOy OX LX) m (iSe l l.length p h c d e 0 []) (qIe 3 .n [[],[],[],[],[]] (exF l p h c d e)):=
 zMy (st:=zOy OX LX) (iv:=iSe l l.length p h c d e) (g:=gEx l p h c d e) (d:= .inl) (out:=qIe 3 .n [[],[],[],[],[]]) (n:=l.length) (fun i a=>a.length=i)
  (fun i a k j=>by
   unfold gEx;cases a with
   | nil=>
    rw[sSe0];simp only[zO k,ze,qJg (bAt l i) p h c d e i hp];cases exX (bAt l i) p h c d e i with
    | inl s=>simp only[zMs,kK (show i+1<9223372036854775808 by omega)]
    | inr y=>rfl
   | cons x a=>
    rw[sSe1];simp only[qf]at j;simp only[zO k,ze,qJg (bAt l i) p h c d e i hp];cases exX (bAt l i) p h c d e i with
    | inl s=>simp only[zMs,qTj (show i<4000000000000 by omega) (show a.length<4000000000000 by omega)]
    | inr y=>rfl)
  (fun i a b _ j q=>qMp j q)
  (fun a _=>by
   cases a with
   | nil=>rw[sSe0];simp only[jU (zq _),zf];rfl
   | cons x a=>rw[sSe1];simp only[jU (zq _),zf,jD,ze];rfl) l.length 0 [] (by omega) rfl
theorem itSa(l m:List Rt)(hm:m.length=l.length)(y:l.length≤3000000000000):∃k,It (zOx OX LX) k (iSa l m l.length 0 []) (qIe 0 .n [] (adF l m)):=
 zMy (st:=zOx OX LX) (iv:=iSa l m l.length) (g:=gAd l m) (d:= .inl) (out:=qIe 0 .n []) (n:=l.length) (fun i a=>a.length=i)
  (fun i a q j=>by
   unfold gAd;have e:i<m.length:=by omega
   cases a with
   | nil=>
    rw[sSa0];simp only[zO q,zO e,ze];cases ieq (adE (rAt l i) (rAt m i)) 0 with
    | true=>simp only[zu,zf,kK (show i+1<9223372036854775808 by omega)]
    | false=>rfl
   | cons x a=>
    rw[sSa1];simp only[qf]at j;simp only[zO q,zO e,ze];cases ieq (adE (rAt l i) (rAt m i)) 0 with
    | true=>simp only[zu,zf,qTj (show i<4000000000000 by omega) (show a.length<4000000000000 by omega)]
    | false=>rfl)
  (fun i a b _ j w=>qMo j w)
  (fun a _=>by
   cases a with
   | nil=>rw[sSa0];simp only[jU (zq _),zf];rfl
   | cons x a=>rw[sSa1];simp only[jU (zq _),zf,jD,ze];rfl) l.length 0 [] (by omega) rfl
def chX(x:bT.den):Nat:=bif !ieq x.1 1&&!ieq x.1 2 then 6 else(bif ilt x.2.2 x.2.1||(ilt x.2.1 (.negSucc 99)||ilt (.ofNat 100) x.2.2)then 1 else 0)
def gCh(l:List bT.den)(i:Nat)(_:Unit):Unit⊕Nat:=match chX (bAt l i)with | 0=> .inl () | e+1=> .inr (e+1)
def jBg(id:Nat):Nat→Ex×Hs
 | 0=>(.x id,⟨[],[],[]⟩)
 | e+1=>(.r,⟨[.v (.int .i64 (.ofNat (e+1)))],[],[]⟩)
def rcF(l:List bT.den):Nat:=fol (gCh l) (fun _=>0) (l.length-1) 1 ()
def acF(l:List bT.den):Nat:=fol (gCh l) (fun _=>0) l.length 0 ()
theorem itAc(l:List bT.den)(j:l.length≤900):∃m,It (zVt OX LX) m (iAc l l.length 0) (jBg 1 (acF l)):=
 zMy (st:=zVt OX LX) (iv:=fun i(_:Unit)=>iAc l l.length i) (g:=gCh l) (d:=fun _=>0) (out:=jBg 1) (n:=l.length) (fun _ _=>True)
  (fun i _ e _=>by
   rw[sAc];unfold gCh chX;simp only[zO e,ze,acB,kK (show i+1<9223372036854775808 by omega)]
   cases ieq (bAt l i).1 1<;>cases ieq (bAt l i).1 2<;>cases ilt (bAt l i).2.2 (bAt l i).2.1<;>cases ilt (bAt l i).2.1 (.negSucc 99)<;>cases ilt (.ofNat 100) (bAt l i).2.2<;>rfl)
  (fun _ _ _ _ _ _=>trivial)
  (fun _ _=>by rw[sAc];simp only[jU (zq _),zf];rfl) l.length 0 () (by omega) trivial
theorem zPm(x:bT.den)(l:List bT.den):∀(k i:Nat),fol (gCh (x::l)) (fun _=>0) k (i+1) ()=fol (gCh l) (fun _=>0) k i ()
 | 0,_=>rfl
 | k+1,i=>by
  have e:gCh (x::l) (i+1) ()=gCh l i ():=rfl;simp only[fol,e];cases gCh l i ()with
  | inl u=>exact zPm x l k (i+1)
  | inr y=>rfl
theorem qUw(x:bT.den)(l:List bT.den):rcF (x::l)=acF l:=zPm x l _ 0
def isL(s:List Rt⊕Int):Bool:=match s with | .inl _=>true | .inr _=>false
def rws(s:List Rt⊕Int):List Rt:=match s with | .inl a=>a | .inr _=>[]
def erI(s:List Rt⊕Int):Int:=match s with | .inl _=>0 | .inr e=>e
def cn(l:List Rt):List Rt:=l.headD zL.zero::l.tail
def dX(id:Nat)(g:Tg)(e:List (List T))(s:List Rt⊕Int):DT (Ex×Hs):= .ite (isL s) (.ite (emp (rws s)) (.ret (.x id,⟨[],[.ls g zL []],e⟩)) (.ret (.x id,⟨[],[.ls g zL (cn (rws s))],e⟩))) (.ret (.r,⟨[.v (.slice none 0 0),.v (.int .i64 (erI s))],[],e⟩))
theorem qEa(id:Nat)(g:Tg)(j:List (List T))(s:List Rt⊕Int):(dX id g j s).run=some (qIe id g j s):=by
 cases s with
 | inr e=>rfl
 | inl a=>cases a<;>rfl
def hSe:Hs→DT (Ex×Hs)
 | ⟨[.v (.int .i64 p),.v (.int .u8 h),.ls .a (.prod (.int .u8) (.prod (.int .i64) (.int .i64))) l,.v (.int .i64 (.ofNat n)),.v (.int .i64 (.ofNat 0))],[.ls .n zL []],[[.v (.bool e),.ls .a .lim q,.ls .a .lim w,.v (.bool j),.ls .a .lim y,.ls .a .lim z,.v (.bool k),.ls .a .lim A,.ls .a .lim B],[],[],[],[]]⟩=>grd (Nat.beq n l.length&&(Nat.ble l.length 900&&nng p)) (dX 3 .n [[],[],[],[],[]] (exF l p h ⟨e,q,w⟩ ⟨j,y,z⟩ ⟨k,A,B⟩))
 | _=> .no
theorem jAh{p:Int}(h:nng p=true):0≤p:=by
 cases p with
 | ofNat n=>exact j4 n
 | negSucc n=>cases h
theorem qYl:∀q y,(hSe q).run=some y→∃n,It (zOy OX LX) n q y:=fun q y h=>by
 unfold hSe at h;split at h
 ·rename_i p A l n k B E w H J z K M;obtain⟨e,j⟩:=zR h;rw[qEa]at j;cases j;simp only[zd]at e;obtain rfl:=zV e.1;exact itSe l p A ⟨k,B,E⟩ ⟨w,H,J⟩ ⟨z,K,M⟩ (jAh e.2.2) (je e.2.1)
 ·cases h
def hSa:Hs→DT (Ex×Hs)
 | ⟨[.ls .a zL l,.ls .a zL m,.v (.int .i64 (.ofNat n)),.v (.int .i64 (.ofNat 0))],[.ls .n zL []],[]⟩=>grd (Nat.beq n l.length&&(Nat.beq m.length l.length&&Nat.ble l.length 3000000000000)) (dX 0 .n [] (adF l m))
 | _=> .no
theorem qYk:∀q y,(hSa q).run=some y→∃n,It (zOx OX LX) n q y:=fun q y h=>by
 unfold hSa at h;split at h
 ·obtain⟨e,j⟩:=zR h;rw[qEa]at j;cases j;simp only[zd]at e;obtain rfl:=zV e.1;exact itSa _ _ (zV e.2.1) (je e.2.2)
 ·cases h
def dC(id:Nat)(e:Nat):DT (Ex×Hs):= .ite (Nat.beq e 0) (.ret (.x id,⟨[],[],[]⟩)) (.ret (.r,⟨[.v (.int .i64 (.ofNat e))],[],[]⟩))
theorem qVy(id e:Nat):(dC id e).run=some (jBg id e):=by cases e<;>rfl
def hAc:Hs→DT (Ex×Hs)
 | ⟨[.ls .a (.prod (.int .u8) (.prod (.int .i64) (.int .i64))) l,.v (.int .i64 (.ofNat n)),.v (.int .i64 (.ofNat 0))],[],[]⟩=>grd (Nat.beq n l.length&&Nat.ble l.length 900) (dC 1 (acF l))
 | _=> .no
theorem qXv:∀q y,(hAc q).run=some y→∃n,It (zVt OX LX) n q y:=fun q y h=>by
 unfold hAc at h;split at h
 ·obtain⟨e,j⟩:=zR h;rw[qVy]at j;cases j;simp only[zd]at e;obtain rfl:=zV e.1;exact itAc _ (je e.2)
 ·cases h
theorem yE:Tryz.prog.follows .mixedOrders=true:=by kernel_rfl
theorem num_od:vD Tryz.prog (odT jAj):=
 zS (zS (zS jZ fun az e nw h k=>kN zQk az e h k) fun az e nw h k=>kN qFw az e h k) fun az e nw h k=>kN qZb az e h k
theorem zVi:gQ Tryz.prog (evD Tryz.prog OX LX 60):=kL yE num_od zZ 60
abbrev LT:Lo:=loT [(36,[false,true,false,true,true],Lac.row hAc),(30,[false,true,false,true,true,true,true],Lse.row hSe),(31,[false,true,false,true,true],Lsa.row hSa)]
theorem lt_ok:wC Tryz.prog LT:=jO (jO (jO zZ zVi qUp qYk) zVi qUq qYl) zVi qTy qXv
def ckN(l:List bT.den):Nat:=bif Nat.beq l.length 0 then 3 else(bif Nat.blt 6 l.length then 4 else rcF l)
theorem jBz{e:Nat}{b:Bool}:(bif b then(bif Nat.beq e 0 then some (T.v (.int .i64 (.ofNat 0)),true)else some (T.v (.int .i64 (.ofNat e)),true))else none)=bif b then some (T.v (.int .i64 (.ofNat e)),true)else(none:Option (T×Bool)):=by
 cases b with
 | false=>rfl
 | true=>cases e<;>rfl
abbrev tlB(l:List bT.den):List bT.den:=(l.drop 1).take (l.length-1)
theorem eAc(l:List bT.den):((qC Tryz.prog (evD Tryz.prog OX LT 60) 36 [.ls .a bT l] []).bind qF).run=bif Nat.beq l.length 0 then some (.v (.int .i64 3),true)else(bif Nat.blt 6 l.length then some (.v (.int .i64 4),true)else(bif Nat.ble 1 l.length then(bif Nat.ble l.length l.length then(bif Nat.beq (tlB l).length (tlB l).length&&Nat.ble (tlB l).length 900 then(bif Nat.beq (acF (tlB l)) 0 then some (.v (.int .i64 (.ofNat 0)),true)else some (.v (.int .i64 (.ofNat (acF (tlB l)))),true))else none)else none)else none)):=by kernel_rfl
theorem ck_pro(l:List bT.den):((qC Tryz.prog (evD Tryz.prog OX LT 60) 36 [.ls .a bT l] []).bind qF).run=some (.v (.int .i64 (.ofNat (ckN l))),true):=by
 rw[eAc,jBz];unfold ckN;cases l with
 | nil=>rfl
 | cons x l=>
  rw[show Nat.beq (x::l).length 0=false from rfl,zf,zf];cases h:Nat.blt 6 (x::l).length with
  | true=>rfl
  | false=>
   have:(x::l).length≤6:=by
    rcases qg 6 (x::l).length with g | g
    ·rw[zO g]at h;cases h
    ·exact g
   have e:tlB (x::l)=l:=by simp[tlB]
   simp only[qf]at this;simp only[zf,yK (show 1≤(x::l).length by simp),yK (zq _),e,jD,yK (show l.length≤900 by omega),jf,ze]
   rw[qUw x l]
def oCk:List T→DT (T×Bool)
 | [.ls .a (.prod (.int .u8) (.prod (.int .i64) (.int .i64))) l]=> .ret (.v (.int .i64 (.ofNat (ckN l))),true)
 | _=> .no
abbrev OZ:Od:=odT ((36,odR [.list bT] oCk)::jAj)
theorem qTf:vD Tryz.prog OZ:=zS num_od (jI fun cz e nw h k=>by
 unfold oCk at h;split at h
 ·rename_i l;cases h;exact yM (cz:=[.ls .a bT l]) yE num_od lt_ok (ck_pro l) rfl k
 ·cases h)
abbrev erT(e:Int):Option (T×Bool):=some (.tu [.v (.slice none 0 0),.v (.int .i64 e)],true)
abbrev zOb(l:List bT.den)(p h:Int)(c d e:Raw)(k:Option (T×Bool)):Option (T×Bool):=bif !ieq (.ofNat (ckN l)) 0 then erT (.ofNat (ckN l))else(bif !ieq c.chk 0 then erT c.chk else(bif c.neg then erT 1 else(bif !ieq d.chk 0 then erT d.chk else(bif d.neg then erT 1 else(bif !ieq e.chk 0 then erT e.chk else(bif e.neg then erT 1 else(bif ilt p 0 then erT 8 else(bif !ilt p (.ofNat l.length)then erT 8 else(bif ilt 2 h then erT 6 else k)))))))))
def preE(l:List bT.den)(p h:Int)(c d e:Raw):Int:=bif !ieq (.ofNat (ckN l)) 0 then .ofNat (ckN l)else(bif !ieq c.chk 0 then c.chk else(bif c.neg then 1 else(bif !ieq d.chk 0 then d.chk else(bif d.neg then 1 else(bif !ieq e.chk 0 then e.chk else(bif e.neg then 1 else(bif ilt p 0 then 8 else(bif !ilt p (.ofNat l.length)then 8 else(bif ilt 2 h then 6 else 0)))))))))
theorem qPu(l:List bT.den)(p h:Int)(c d e:Raw)(k:Option (T×Bool)):zOb l p h c d e k=bif !ieq (preE l p h c d e) 0 then erT (preE l p h c d e)else k:=by
 unfold preE;cases j:ieq (.ofNat (ckN l)) 0 with
 | false=>simp only[zOb,j,qy,ze]
 | true=>
  cases q:ieq c.chk 0 with
  | false=>simp only[zOb,j,q,qy,zu,ze,zf]
  | true=>
   cases w:c.neg with
   | true=>simp only[zOb,j,q,w,zu,ze,zf];rfl
   | false=>
    cases y:ieq d.chk 0 with
    | false=>simp only[zOb,j,q,w,y,qy,zu,ze,zf]
    | true=>
     cases z:d.neg with
     | true=>simp only[zOb,j,q,w,y,z,zu,ze,zf];rfl
     | false=>
      cases A:ieq e.chk 0 with
      | false=>simp only[zOb,j,q,w,y,z,A,qy,zu,ze,zf]
      | true=>
       simp only[zOb,j,q,w,y,z,A,zu,zf];cases e.neg<;>cases ilt p 0<;>cases ilt p (.ofNat l.length)<;>cases ilt 2 h<;>rfl
theorem qPt{l:List bT.den}{p h:Int}{c d e:Raw}(j:ieq (preE l p h c d e) 0=true):ilt p 0=false∧l.length≤6:=by
 unfold preE at j;cases k:ieq (.ofNat (ckN l)) 0 with
 | false=>simp only[k,qy,ze]at j;cases j
 | true=>
  have J:l.length≤6:=by
   rcases qg 6 l.length with g | g
   ·exfalso;have w:ckN l=3∨ckN l=4:=by
     unfold ckN;rw[zO g];cases Nat.beq l.length 0
     ·exact .inr rfl
     ·exact .inl rfl
    rcases w with w | w<;>(rw[w]at k;cases k)
   ·exact g
  refine⟨?_,J⟩;cases y:ieq c.chk 0 with
  | false=>simp only[k,y,qy,zu,ze,zf]at j;cases j
  | true=>
   cases z:ieq d.chk 0 with
   | false=>cases q:c.neg<;>simp only[k,y,q,z,qy,zu,ze,zf]at j<;>cases j
   | true=>
    cases B:ieq e.chk 0 with
    | false=>cases q:c.neg<;>cases A:d.neg<;>simp only[k,y,q,z,A,B,qy,zu,ze,zf]at j<;>cases j
    | true=>
     cases E:ilt p 0 with
     | false=>rfl
     | true=>cases q:c.neg<;>cases A:d.neg<;>cases H:e.neg<;>simp only[k,y,q,z,A,B,E,H,zu,ze,zf]at j<;>cases j
abbrev qPg(nw:Bool)(s:List Rt⊕Int):Option (T×Bool):=bif isL s then(bif emp (rws s)then erT 0 else(bif Nat.beq ((rws s).tail.length+1) ((rws s).tail.length+1)then some (.tu [.ls .a zL (cn (rws s)).reverse,.v (.int .i64 0)],nw)else none))else erT (erI s)
theorem eSe(l:List bT.den)(p h:Int)(c d e:Raw):((qC Tryz.prog (evD Tryz.prog OZ LT 60) 30 [.ls .a bT l,.ag (on9 c d e),.v (.int .i64 p),.v (.int .u8 h)] []).bind qF).run=zOb l p h c d e (bif Nat.beq l.length l.length&&(Nat.ble l.length 900&&nng p)then qPg true (exF l p h c d e)else none):=by kernel_rfl
theorem eSa(l m:List Rt):((qC Tryz.prog (evD Tryz.prog OX LT 60) 31 [.ls .a zL l,.ls .a zL m] []).bind qF).run=bif !Nat.beq l.length m.length then erT 16 else(bif Nat.beq l.length l.length&&(Nat.beq m.length l.length&&Nat.ble l.length 3000000000000)then qPg true (adF l m)else none):=by kernel_rfl
def xE(l:List bT.den)(p h:Int)(c d e:Raw):Int:=bif !ieq (preE l p h c d e) 0 then preE l p h c d e else erI (exF l p h c d e)
def xR(l:List bT.den)(p h:Int)(c d e:Raw):List Rt:=bif !ieq (preE l p h c d e) 0 then[]else(rws (exF l p h c d e)).reverse
def aE(l m:List Rt):Int:=bif !Nat.beq l.length m.length then 16 else erI (adF l m)
def aR(l m:List Rt):List Rt:=bif !Nat.beq l.length m.length then[]else(rws (adF l m)).reverse
section
variable {f:Nat}{az:List T}{OD:Od}{nw:Bool}
theorem zAe{B:Bm}{r:Rd}{A:Ty}{t:T}{v:Value}(h:Rep B r (.tu [.v (.slice none 0 0),t]) v):Rep B r (.tu [.ls .a A [],t]) v:=by
 obtain⟨vs,rfl,e⟩:=h.tuI;match vs,e with
 | [a,b],⟨j,k,_⟩=>exact Rep.mkTu (vs:=[a,b]) ⟨zDg j,k,trivial⟩
theorem zXg(q:vD Tryz.prog OD){e:Int}(h:((qC Tryz.prog (evD Tryz.prog OD LT 60) f (az.map (unN 12)) []).bind qF).run=erT e)(w:az.all (clean 12)=true)(k:Nat)(nw:Bool):KnP Tryz.prog k f az (.tu [.ls .a zL [],.v (.int .i64 e)]) nw:=by
 have j:KnP Tryz.prog k f az (.tu [.v (.slice none 0 0),.v (.int .i64 e)]) true:=yM yE q lt_ok h (by rw[w];rfl) k
 cases nw with
 | true=>exact j.res fun B r v h=>zAe h
 | false=>exact j.old.res fun B r v h=>zAe h
theorem qGd(j:vD Tryz.prog OD){s:List Rt⊕Int}(h:((qC Tryz.prog (evD Tryz.prog OD LT 60) f (az.map (unN 12)) []).bind qF).run=qPg nw s)(q:az.all (clean 12)=true)(k:Nat):KnP Tryz.prog k f az (.tu [.ls .a zL (rws s).reverse,.v (.int .i64 (erI s))]) nw:=by
 cases s with
 | inr e=>exact zXg j h q k nw
 | inl a=>
  cases a with
  | nil=>exact zXg j h q k nw
  | cons x a=>
   simp only[qPg,isL,rws,ze,emp,zf,jD]at h;exact yM yE j lt_ok h (by rw[q];rfl) k
end
theorem kSe{l:List bT.den}{p h:Int}{c d e:Raw}(k:Nat):KnP Tryz.prog k 30 [.ls .a bT l,.ag (on9 c d e),.v (.int .i64 p),.v (.int .u8 h)] (.tu [.ls .a zL (xR l p h c d e),.v (.int .i64 (xE l p h c d e))]) true:=by
 have q:=eSe l p h c d e;rw[qPu]at q;unfold xR xE;cases j:ieq (preE l p h c d e) 0 with
 | false=>rw[j]at q;exact zXg (az:=[.ls .a bT l,.ag (on9 c d e),.v (.int .i64 p),.v (.int .u8 h)]) qTf q rfl k true
 | true=>
  obtain⟨hp,y⟩:=qPt j;have w:nng p=true:=by
   cases p with
   | ofNat n=>rfl
   | negSucc n=>cases hp
  rw[j,yK (show l.length≤900 by omega),jD,w]at q
  exact qGd (az:=[.ls .a bT l,.ag (on9 c d e),.v (.int .i64 p),.v (.int .u8 h)]) qTf q rfl k
theorem qLi{a b:Nat}(h:Nat.beq a b=true):Nat.beq b a=true:=by rw[zV h];exact jD _
theorem kSa{l m:List Rt}(j:l.length≤3000000000000)(k:Nat):KnP Tryz.prog k 31 [.ls .a zL l,.ls .a zL m] (.tu [.ls .a zL (aR l m),.v (.int .i64 (aE l m))]) true:=by
 have q:=eSa l m;unfold aR aE;cases e:Nat.beq l.length m.length with
 | false=>rw[e]at q;exact zXg (az:=[.ls .a zL l,.ls .a zL m]) num_od q rfl k true
 | true=>
  rw[e,qLi e,jD,yK j]at q;exact qGd (az:=[.ls .a zL l,.ls .a zL m]) num_od q rfl k
end
end Go.Proofs.YtdfmdiakjdggbaaGreatDoor.Kp
namespace Go.Proofs.YtdfmdiakjdggbaaGreatDoor
open Go Go.Gv Go.Ev Go.RowKit IntKind
noncomputable section
def iLo(i:Nat)(C st V:Raw)(F I:List (List Int)):Hs:=⟨[vn i],[],[[.ls .a (.list nT) F,.ls .a (.list nT) I],[.v (.bool C.1),.ls .a .lim C.2,.ls .a .lim C.3,.v (.bool st.1),.ls .a .lim st.2,.ls .a .lim st.3,.v (.bool V.1),.ls .a .lim V.2,.ls .a .lim V.3]]⟩
def xLo(C st V:Raw)(F I:List (List Int)):Hs:=⟨[],[],[[.ls .a (.list nT) F,.ls .a (.list nT) I],[.v (.bool C.1),.ls .a .lim C.2,.ls .a .lim C.3,.v (.bool st.1),.ls .a .lim st.2,.ls .a .lim st.3,.v (.bool V.1),.ls .a .lim V.2,.ls .a .lim V.3]]⟩
def Llo0:Lp:=⟨2,
 ⟨[.u,.t (.op 0 0),.u,.t (.op 1 0),.h]++(us' 85),[.r [.u,.u,.u,.u,.u,.u,.u,.u,.u,.u,.u,.u,.u,.u,.u,.u,.u,.u,.u,.h,.h] 33,.r [.u,.u,.u,.u,.u,.u,.u,.u,.u,.h,.h,.h,.h,.h,.h,.h,.h,.h] 30]⟩,
 ⟨[.u,.t (.op 0 0),.u,.t (.op 1 0)]++(us' 86),[.r [.u,.u,.u,.u,.u,.u,.u,.u,.u,.u,.u,.u,.u,.u,.u,.u,.u,.u,.u,.h,.h] 33,.r [.u,.u,.u,.u,.u,.u,.u,.u,.u,.h,.h,.h,.h,.h,.h,.h,.h,.h] 30]⟩,
 ⟨[.u,.u,.h]++(us' 87),[.g,.g]⟩⟩
abbrev qCd:Code:=lpc Tryz.prog 13 [false,true,false,true,true,true]
theorem qKx:cAt Tryz.prog 13 [false,true,false,true,true,true]=some (.loop qCd):=by kernel_rfl
abbrev zLw(OD:Od)(e:Lo):Hs→Option (Hs⊕(Ex×Hs)):=Llo0.stp (evD Tryz.prog OD e 60) 13 [false,true,false,true,true,true] qCd
def Llo1:Lp:=⟨2,
 ⟨[.u,.t (.op 0 0),.u,.t (.op 1 0),.u,.h]++(us' 84),[.r [.u,.u,.u,.u,.u,.u,.u,.u,.u,.u,.u,.u,.u,.u,.u,.u,.u,.u,.u,.h,.h] 33,.r [.u,.u,.u,.u,.u,.u,.u,.u,.u,.h,.h,.h,.h,.h,.h,.h,.h,.h] 30]⟩,
 ⟨us' 3++([.t (.op 1 0)]++(us' 86)),[.r [.u,.u,.u,.u,.u,.u,.u,.u,.u,.u,.u,.u,.u,.u,.u,.u,.u,.u,.u,.h,.h] 33,.r [.u,.u,.u,.u,.u,.u,.u,.u,.u,.h,.h,.h,.h,.h,.h,.h,.h,.h] 30]⟩,
 ⟨[.u,.u,.h]++(us' 87),[.g,.g]⟩⟩
abbrev qCe:Code:=lpc Tryz.prog 13 [false,true,false,true,true,true,true]
theorem qKy:cAt Tryz.prog 13 [false,true,false,true,true,true,true]=some (.loop qCe):=by kernel_rfl
abbrev zLx(OD:Od)(e:Lo):Hs→Option (Hs⊕(Ex×Hs)):=Llo1.stp (evD Tryz.prog OD e 60) 13 [false,true,false,true,true,true,true] qCe
theorem sLo0(i:Nat)(C st V:Raw)(F I:List (List Int)):zLw (odT []) (loT []) (iLo i C st V F I)=bif ilt (.ofNat i) (.ofNat F.length)then gd (Nat.blt i F.length) (bif ilt (.ofNat 10) (.ofNat ((nth nT.list.zero F i).length))then some (.inr (.r,⟨[.v (.bool true)],[],[[],[]]⟩))else nx i (.inl (iLo (i+1) C st V F I)))else some (.inr (.x 0,(xLo C st V F I))):=by kernel_rfl
theorem sLo1(i:Nat)(C st V:Raw)(F I:List (List Int)):zLx (odT []) (loT []) (iLo i C st V F I)=bif ilt (.ofNat i) (.ofNat I.length)then gd (Nat.blt i I.length) (bif ilt (.ofNat 300) (.ofNat ((nth nT.list.zero I i).length))then some (.inr (.r,⟨[.v (.bool true)],[],[[],[]]⟩))else nx i (.inl (iLo (i+1) C st V F I)))else some (.inr (.x 2,(xLo C st V F I))):=by kernel_rfl
theorem zHw:r0.rat=0:=qBo
theorem zDl:r0.chk=0:=qKn
def zJu(f:Nat→Rat):Nat→Rat
 | 0=>0
 | m+1=>zJu f m+f m
theorem zIi{f g:Nat→Rat}:∀m,(∀i,i<m→f i=g i)→zJu f m=zJu g m
 | 0,_=>rfl
 | m+1,h=>by show zJu f m+f m=zJu g m+g m;rw[zIi m fun i e=>h i (by omega),h m (by omega)]
abbrev dtQ(a b:List Rt)(j:Nat):Rat:=(xI a j).rat*(xI b j).rat
theorem qEm{a b:List Rt}:∀(k i:Nat){t q:Raw},fol (gDt adA muA aeA meA a b) Sum.inl k i t=Sum.inl q→t.chk=0→t.rat=zJu (dtQ a b) i→q.chk=0∧q.rat=zJu (dtQ a b) (i+k)∧∀j,i≤j→j<i+k→(xI a j).chk=0∧(xI b j).chk=0
 | 0,i,t,q,h,E,z=>by cases h;exact⟨E,z,fun j _ _=>by omega⟩
 | k+1,i,t,q,h,E,z=>by
  simp only[fol,gDt]at h;cases e:ieq (meA (xI a i) (xI b i)) 0 with
  | false=>rw[e]at h;cases h
  | true=>
   cases w:ieq (aeA r0 t) 0 with
   | false=>rw[e,w]at h;cases h
   | true=>
    cases y:ieq (aeA (adA r0 t) (muA (xI a i) (xI b i))) 0 with
    | false=>rw[e,w,y]at h;cases h
    | true=>
     rw[e,w,y]at h;have g1:=dA (qH.1 e);have g2:=dA (qH.1 w);have B:=dA (qH.1 y);have r:(adA (adA r0 t) (muA (xI a i) (xI b i))).rat=zJu (dtQ a b) (i+1):=by
      refine B.2.2.2.1.trans ?_;rw[show(adA r0 t).rat=_ from g2.2.2.2.1,show(muA (xI a i) (xI b i)).rat=_ from g1.2.2.2.1,zHw,z,Rat.zero_add];rfl
     obtain⟨J,K,M⟩:=qEm k (i+1) h B.2.2.2.2 r;refine⟨J,by rw[K,show i+1+k=i+(k+1)by omega],fun j A H=>?_⟩
     rcases kz A with rfl | hlt
     ·exact⟨g1.1,g1.2.1⟩
     ·exact M j hlt (by omega)
theorem jEa{a b:List Rt}(h:zU a b=true):(qL a b).chk=0∧(qL a b).rat=zJu (dtQ a b) a.length∧∀j,j<a.length→(xI a j).chk=0∧(xI b j).chk=0:=by
 have k:=h;simp only[zU,zGe,zd]at k;cases q:dtF adA muA aeA meA a b with
 | inr e=>rw[q]at k;cases k.2
 | inl t=>
  have y:qL a b=t:=by unfold qL dtR;rw[show zGe adA muA aeA meA a b=true from h,q];rfl
  obtain⟨z,w,A⟩:=qEm a.length 0 q zDl zHw;rw[y];rw[ql]at w;exact⟨z,w,fun j B=>A j (qu _) (by omega)⟩
theorem zOc{l:List Rt}{i:Nat}(e:i<l.length):rI l i=l[i]:=by rw[rI,qW];simp[e]
theorem qJe{f:Nat→Rt}{m j:Nat}(e:j<m+1):rI (rvF f m) j=f j:=by
 rw[zOc (by rw[zFp];exact e)]
 simp[jFc]
abbrev wQ(l:List Wt)(i:Nat):Rat:=(rw' (xW l i)).rat
theorem zFz{x y:Raw}(e:x.chk=0)(j:y.chk=0):yQ x y=0↔x.rat=y.rat:=
 ⟨fun h=>by
  have a:=(qDv e j).1 (show yQ x y≤0 by omega)
  have b:¬x.rat<y.rat:=fun k=>by have:=(zTl e j).2 k;omega
  grind,fun h=>by
  have a:yQ x y≤0:=(qDv e j).2 (by rw[h];exact Rat.le_refl)
  have b:¬yQ x y<0:=fun k=>by have:=(zTl e j).1 k;rw[h]at this;exact Rat.lt_irrefl this
  omega⟩
theorem zZf(h o t:List Int)(G:List Bd)(P D S:Int)(O U:List Nz)(C st V:Raw)(Z:Int)(F I:List (List Int)){L Y:Int}{l:List Wt}:∀(k i:Nat),fol (gEx jN lkP h o t G P D S O U C st V Z F I L Y l) (fun _=>none) k i ()=none→∀j,i≤j→j<i+k→ptO jN h o t G P D S O U C st V Z F I L Y l (j+1)=true
 | 0,i,_,j,w,y=>by omega
 | k+1,i,q,j,w,y=>by
  simp only[fol,gEx]at q;cases e:ptO jN h o t G P D S O U C st V Z F I L Y l (i+1)with
  | false=>rw[e]at q;cases q
  | true=>
   rw[e]at q;rcases kz w with rfl | hlt
   ·exact e
   ·exact zZf h o t G P D S O U C st V Z F I k (i+1) q j hlt (by omega)
theorem zZg{okD:List Rt→List Rt→Bool}{dR:List Rt→List Rt→Raw}{dP:List Rt→List Rt→Nat}{w q:Nat→Nat→Rt}{m:Nat}:∀(k b:Nat)(e:List Raw){x:List Raw},xpL okD dR dP w q m k b e= .inl x→x=e.reverse++(List.range' b k).map (fun j=>dR (rvF (w 0) m) (rvF (q j) m))∧∀j,b≤j→j<b+k→okD (rvF (w 0) m) (rvF (q j) m)=true
 | 0,b,e,x,h=>by cases h;exact⟨(jw _).symm,fun j _ _=>by omega⟩
 | k+1,b,e,x,h=>by
  simp only[xpL]at h;cases H:okD (rvF (w 0) m) (rvF (q b) m)with
  | false=>rw[H]at h;cases h
  | true=>
   rw[H]at h;obtain⟨y,z⟩:=zZg k (b+1) _ h;refine⟨by rw[y,ye,qt,List.range'_succ];rfl,fun j A B=>?_⟩
   rcases kz A with rfl | hlt
   ·exact H
   ·exact z j hlt (by omega)
abbrev xDt(h o t:List Int)(G:List Bd)(P D S:Int)(O U:List Nz)(C st V:Raw)(Z:Int)(F I:List (List Int))(L:Int)(l:List Wt)(Y:Int)(b:Nat):Raw:=qL (rvF (xW l) (l.length-1)) (rvF (aL lkL h o t G P D S O U C st V Z F I L Y l b) (l.length-1))
structure zPb(h o t:List Int)(G:List Bd)(P D S:Int)(O U:List Nz)(C st V:Raw)(Z:Int)(F I:List (List Int))(L:Int)(l:List Wt)(Y:Int):Prop where
 be:bE l=0
 pt:∀i,i<l.length→ptO jN h o t G P D S O U C st V Z F I L Y l i=true
 v:xpV h o t G P D S O U C st V Z F I L l Y=(List.range G.length).map fun b=>toT (xDt h o t G P D S O U C st V Z F I L l Y b)
 dt:∀b,b<G.length→zU (rvF (xW l) (l.length-1)) (rvF (aL lkL h o t G P D S O U C st V Z F I L Y l b) (l.length-1))=true
theorem jFj(h o t:List Int)(G:List Bd)(P D S:Int)(O U:List Nz)(C st V:Raw)(Z:Int)(F I:List (List Int)){L:Int}{l:List Wt}{Y:Int}(B:xpO h o t G P D S O U C st V Z F I L l Y=true):zPb h o t G P D S O U C st V Z F I L l Y:=by
 have A:∀{r},xpR h o t G P D S O U C st V Z F I L l Y=r→isR r=true→zPb h o t G P D S O U C st V Z F I L l Y:=fun{r}j w=>by
  have z:=j;unfold xpR at j;cases k:ieq (bE l) 0 with
  | false=>rw[k]at j;subst j;cases w
  | true=>
   cases q:ptO jN h o t G P D S O U C st V Z F I L Y l 0 with
   | false=>rw[k,q]at j;subst j;cases w
   | true=>
    cases y:xpF jN lkP h o t G P D S O U C st V Z F I L Y l with
    | some e=>rw[k,q,y]at j;subst j;cases w
    | none=>
     rw[k,q,y]at j;have j:xpL zU qL qZ (fun _=>xW l) (aL lkL h o t G P D S O U C st V Z F I L Y l) (l.length-1) G.length 0 []=r:=j;cases r with
     | inr e=>cases w
     | inl x=>
      obtain⟨g1,g2⟩:=zZg G.length 0 [] j;refine⟨qH.1 k,fun i H=>?_,?_,fun b E=>g2 b (qu _) (by omega)⟩
      ·cases i with
       | zero=>exact q
       | succ i=>exact zZf h o t G P D S O U C st V Z F I (l.length-1) 0 y i (qu _) (by omega)
      ·unfold xpV;rw[z];show x.map toT=_;rw[g1,uQ,kB,List.map_map,←List.range_eq_range'];rfl
 exact A rfl B
section
variable {h o t:List Int}{G:List Bd}{P D S:Int}{O U:List Nz}{C st V:Raw}{Z:Int}{F I:List (List Int)}
theorem zPb.len{L:Int}{l:List Wt}{Y:Int}(e:zPb h o t G P D S O U C st V Z F I L l Y):(xpV h o t G P D S O U C st V Z F I L l Y).length=G.length:=by rw[e.v,ku,uv]
theorem zPb.get{L:Int}{l:List Wt}{Y:Int}(e:zPb h o t G P D S O U C st V Z F I L l Y){b:Nat}(j:b<G.length):rI (xpV h o t G P D S O U C st V Z F I L l Y) b=toT (xDt h o t G P D S O U C st V Z F I L l Y b):=by
 rw[zOc (by rw[e.len];exact j)]
 simp[e.v]
abbrev sQ(h o t:List Int)(G:List Bd)(P D S:Int)(O U:List Nz)(C st V:Raw)(Z:Int)(F I:List (List Int))(L:Int)(l:List Wt)(Y:Int)(b i:Nat):Rat:=(rw' (aL lkL h o t G P D S O U C st V Z F I L Y l b i)).rat
theorem zPb.sum{L:Int}{l:List Wt}{Y:Int}(j:zPb h o t G P D S O U C st V Z F I L l Y){b:Nat}(w:b<G.length):(xDt h o t G P D S O U C st V Z F I L l Y b).chk=0∧(xDt h o t G P D S O U C st V Z F I L l Y b).rat=zJu (fun i=>wQ l i*sQ h o t G P D S O U C st V Z F I L l Y b i) l.length∧∀i,i<l.length→(rw' (aL lkL h o t G P D S O U C st V Z F I L Y l b i)).chk=0:=by
 have z:=(zMd j.be).1;obtain⟨y,k,q⟩:=jEa (j.dt b w);have em:l.length-1+1=l.length:=by omega
 rw[zFp,em]at k q;refine⟨y,k.trans (zIi _ fun i e=>?_),fun i e=>?_⟩
 ·show(rw' (rI _ i)).rat*(rw' (rI _ i)).rat=_;rw[qJe (by omega),qJe (by omega)]
 ·have:=(q i e).2;rwa[show xI (rvF (aL lkL h o t G P D S O U C st V Z F I L Y l b) (l.length-1)) i=rw' (rI (rvF (aL lkL h o t G P D S O U C st V Z F I L Y l b) (l.length-1)) i)from rfl,qJe (by omega)]at this
end
def gLo(m:Nat)(q:List (List Int))(i:Nat)(_:Unit):Unit⊕Bool:=bif ilt (.ofNat m) (.ofNat (gI q i).length)then .inr true else .inl ()
def loF(m:Nat)(q:List (List Int)):Bool:=fol (gLo m q) (fun _=>false) q.length 0 ()
def zYf(x:Nat)(C st V:Raw)(F I:List (List Int)):Bool→Ex×Hs
 | true=>(.r,⟨[.v (.bool true)],[],[[],[]]⟩)
 | false=>(.x x,xLo C st V F I)
theorem jEo(C st V:Raw)(F I:List (List Int))(k:F.length<9223372036854775807):lpF (zLw (odT []) (loT [])) F.length (iLo 0 C st V F I)=some (zYf 0 C st V F I (loF 10 F)):=
 jV (st:=zLw (odT []) (loT [])) (iv:=fun i(_:Unit)=>iLo i C st V F I) (g:=gLo 10 F) (d:=fun _=>false) (out:=zYf 0 C st V F I) (n:=F.length) (fun _ _=>True)
  (fun i _ j _=>by
   refine(sLo0 ..).trans ?_;unfold gLo;have e:ilt (.ofNat i) (.ofNat F.length)=true:=zO j;rw[e,ze,zO j,kK (show i+1<9223372036854775808 by omega)]
   cases ilt (.ofNat 10) (.ofNat (gI F i).length)<;>rfl)
  (fun _ _ _ _ _ _=>trivial)
  (fun _ _=>by
   refine(sLo0 ..).trans ?_;have e:ilt (.ofNat F.length) (.ofNat F.length)=false:=jU (zq _);rw[e];rfl) F.length 0 () (by omega) trivial
def qSj(F I:List (List Int)):List T→DT (Ex×Hs)
 | [.v (.bool e),.ls .a .lim C,.ls .a .lim j,.v (.bool y),.ls .a .lim sl,.ls .a .lim z,.v (.bool k),.ls .a .lim q,.ls .a .lim w]=>grd (Nat.blt F.length 9223372036854775807) (.ite (loF 10 F) (.ret (.r,⟨[.v (.bool true)],[],[[],[]]⟩)) (.ret (.x 0,xLo ⟨e,C,j⟩ ⟨y,sl,z⟩ ⟨k,q,w⟩ F I)))
 | _=> .no
def qYe:Hs→DT (Ex×Hs)
 | ⟨[.v (.int .i64 (.ofNat 0))],[],[[.ls .a (.list (.int .i64)) F,.ls .a (.list (.int .i64)) I],e]⟩=>qSj F I e
 | _=> .no
theorem qNb:∀q y,(qYe q).run=some y→∃n,It (zLw (odT []) (loT [])) n q y:=fun q y e=>by
 unfold qYe at e;split at e
 ·rename_i F I M;unfold qSj at e;split at e
  ·rename_i w C z J sl K B E H;obtain⟨A,j⟩:=zR e;have:=kY _ _ (jEo ⟨w,C,z⟩ ⟨J,sl,K⟩ ⟨B,E,H⟩ F I (jL A));cases k:loF 10 F<;>rw[k]at this<;>simp only[DT.run,k,ze,zf]at j<;>cases j<;>exact this
  ·cases e
 ·cases e
theorem jEp(C st V:Raw)(F I:List (List Int))(k:I.length<9223372036854775807):lpF (zLx (odT []) (loT [])) I.length (iLo 0 C st V F I)=some (zYf 2 C st V F I (loF 300 I)):=
 jV (st:=zLx (odT []) (loT [])) (iv:=fun i(_:Unit)=>iLo i C st V F I) (g:=gLo 300 I) (d:=fun _=>false) (out:=zYf 2 C st V F I) (n:=I.length) (fun _ _=>True)
  (fun i _ j _=>by
   refine(sLo1 ..).trans ?_;unfold gLo;have e:ilt (.ofNat i) (.ofNat I.length)=true:=zO j;rw[e,ze,zO j,kK (show i+1<9223372036854775808 by omega)]
   cases ilt (.ofNat 300) (.ofNat (gI I i).length)<;>rfl)
  (fun _ _ _ _ _ _=>trivial)
  (fun _ _=>by
   refine(sLo1 ..).trans ?_;have e:ilt (.ofNat I.length) (.ofNat I.length)=false:=jU (zq _);rw[e];rfl) I.length 0 () (by omega) trivial
def qSk(F I:List (List Int)):List T→DT (Ex×Hs)
 | [.v (.bool e),.ls .a .lim C,.ls .a .lim j,.v (.bool y),.ls .a .lim sl,.ls .a .lim z,.v (.bool k),.ls .a .lim q,.ls .a .lim w]=>grd (Nat.blt I.length 9223372036854775807) (.ite (loF 300 I) (.ret (.r,⟨[.v (.bool true)],[],[[],[]]⟩)) (.ret (.x 2,xLo ⟨e,C,j⟩ ⟨y,sl,z⟩ ⟨k,q,w⟩ F I)))
 | _=> .no
def qYf:Hs→DT (Ex×Hs)
 | ⟨[.v (.int .i64 (.ofNat 0))],[],[[.ls .a (.list (.int .i64)) F,.ls .a (.list (.int .i64)) I],e]⟩=>qSk F I e
 | _=> .no
theorem qNc:∀q y,(qYf q).run=some y→∃n,It (zLx (odT []) (loT [])) n q y:=fun q y e=>by
 unfold qYf at e;split at e
 ·rename_i F I M;unfold qSk at e;split at e
  ·rename_i w C z J sl K B E H;obtain⟨A,j⟩:=zR e;have:=kY _ _ (jEp ⟨w,C,z⟩ ⟨J,sl,K⟩ ⟨B,E,H⟩ F I (jL A));cases k:loF 300 I<;>rw[k]at this<;>simp only[DT.run,k,ze,zf]at j<;>cases j<;>exact this
  ·cases e
 ·cases e
abbrev LLo:Lo:=loT [(13,[false,true,false,true,true,true],Llo0.row qYe),(13,[false,true,false,true,true,true,true],Llo1.row qYf)]
theorem qZy:wC Tryz.prog LLo:=jO (jO zZ lY qKy qNc) lY qKx qNb
theorem jEb(fW:List Rt→Bool)(h o t:List Int)(G:List Bd)(P D S:Int)(O U:List Nz)(C st V:Raw)(Z:Int)(F I:List (List Int)):((qC Tryz.prog (evD Tryz.prog (odT [(65,odR [.list zL] (oWd fW))]) (LLo) 60) 13 [.ag (tbC h o t G P D S O U C st V Z F I)] []).bind qF).run=bif ilt (.ofNat 40) (.ofNat h.length)then yB true else(bif ilt (.ofNat 40) (.ofNat o.length)then yB true else(bif ilt (.ofNat 40) (.ofNat t.length)then yB true else(bif ilt (.ofNat 10) (.ofNat G.length)then yB true else(bif ilt (.ofNat 8) (.ofNat O.length)then yB true else(bif ilt (.ofNat 8) (.ofNat U.length)then yB true else(bif ilt (.ofNat 5000) (.ofNat F.length)then yB true else(bif ilt (.ofNat 30) (.ofNat I.length)then yB true else(gd (Nat.blt F.length 9223372036854775807) (bif loF 10 F then yB true else gd (Nat.blt I.length 9223372036854775807) (bif loF 300 I then yB true else yB (fW [toT C,toT st,toT V]))))))))))):=by kernel_rfl
def lgT(h o t:List Int)(G:List Bd)(P D S:Int)(O U:List Nz)(C st V:Raw)(Z:Int)(F I:List (List Int)):Bool:=bif ilt (.ofNat 40) (.ofNat h.length)then true else(bif ilt (.ofNat 40) (.ofNat o.length)then true else(bif ilt (.ofNat 40) (.ofNat t.length)then true else(bif ilt (.ofNat 10) (.ofNat G.length)then true else(bif ilt (.ofNat 8) (.ofNat O.length)then true else(bif ilt (.ofNat 8) (.ofNat U.length)then true else(bif ilt (.ofNat 5000) (.ofNat F.length)then true else(bif ilt (.ofNat 30) (.ofNat I.length)then true else(bif loF 10 F then true else(bif loF 300 I then true else wdZ [toT C,toT st,toT V])))))))))
theorem qZu(h o t:List Int)(G:List Bd)(P D S:Int)(O U:List Nz)(C st V:Raw)(Z:Int)(F I:List (List Int))(j:F.length<9223372036854775807)(e:I.length<9223372036854775807):((qC Tryz.prog (evD Tryz.prog (odT [(65,odR [.list zL] (oWd wdZ))]) (LLo) 60) 13 [.ag (tbC h o t G P D S O U C st V Z F I)] []).bind qF).run=yB (lgT h o t G P D S O U C st V Z F I):=by
 rw[jEb,zO j,zO e];unfold lgT;cases ilt (.ofNat 40) (.ofNat h.length)
 rotate_left
 ·rfl
 cases ilt (.ofNat 40) (.ofNat o.length)
 rotate_left
 ·rfl
 cases ilt (.ofNat 40) (.ofNat t.length)
 rotate_left
 ·rfl
 cases ilt (.ofNat 10) (.ofNat G.length)
 rotate_left
 ·rfl
 cases ilt (.ofNat 8) (.ofNat O.length)
 rotate_left
 ·rfl
 cases ilt (.ofNat 8) (.ofNat U.length)
 rotate_left
 ·rfl
 cases ilt (.ofNat 5000) (.ofNat F.length)
 rotate_left
 ·rfl
 cases ilt (.ofNat 30) (.ofNat I.length)
 rotate_left
 ·rfl
 cases loF 10 F
 rotate_left
 ·rfl
 cases loF 300 I<;>rfl
def qHb(fT:TF Bool):List T→DT (T×Bool)
 | [.ag [.ls .a (.int .i64) h,.ls .a (.int .i64) o,.ls .a (.int .i64) t,.ls .a (.prod (.int .u8) (.prod (.int .i64) (.int .i64))) G,.v (.int .i64 P),.v (.int .i64 D),.v (.int .i64 S),.ls .a (.prod (.int .i64) zL) O,.ls .a (.prod (.int .i64) zL) U,.v (.bool e),.ls .a .lim C,.ls .a .lim j,.v (.bool y),.ls .a .lim sl,.ls .a .lim z,.v (.bool k),.ls .a .lim q,.ls .a .lim w,.v (.int .i64 Z),.ls .a (.list (.int .i64)) F,.ls .a (.list (.int .i64)) I]]=>grd (Nat.blt F.length 9223372036854775807&&Nat.blt I.length 9223372036854775807) (.ret (.v (.bool (fT h o t G P D S O U ⟨e,C,j⟩ ⟨y,sl,z⟩ ⟨k,q,w⟩ Z F I)),true))
 | _=> .no
theorem jAo:vD Tryz.prog (odT [(65,odR [.list zL] (oWd wdZ))]):=zS jZ (jI kWd)
theorem kLgT:∀az q nw,(qHb lgT az).run=some (q,nw)→∀k,KnP Tryz.prog k 13 az q nw:=by
 intro az q nw e k;unfold qHb at e;split at e
 ·rename_i h o t G P D S O U w C y E sl H z A B Z F I;obtain⟨j,J⟩:=zR e;simp only[zd]at j;cases J;exact yM (cz:=[.ag (tbC h o t G P D S O U ⟨w,C,y⟩ ⟨E,sl,H⟩ ⟨z,A,B⟩ Z F I)]) yE jAo qZy (qZu h o t G P D S O U ⟨w,C,y⟩ ⟨E,sl,H⟩ ⟨z,A,B⟩ Z F I (jL j.1) (jL j.2)) rfl k
 ·cases e
def iEq(a b:List Rt)(i:Nat):Hs:=⟨[.ls .a zL a,.ls .a zL b,vn i],[],[]⟩
def Leq:Lp:=⟨0,
 ⟨[.h,.h]++(us' 3++([.h]++(us' 21))),[]⟩,
 ⟨us' 27,[]⟩,
 ⟨us' 4++([.h]++(us' 22)),[]⟩⟩
abbrev qRd:Code:=lpc Tryz.prog 24 [false,true,false,true,true]
theorem qUh:cAt Tryz.prog 24 [false,true,false,true,true]=some (.loop qRd):=by kernel_rfl
abbrev qRe(OD:Od)(e:Lo):Hs→Option (Hs⊕(Ex×Hs)):=Leq.stp (evD Tryz.prog OD e 60) 24 [false,true,false,true,true] qRd
theorem sEq(eqB:Raw→Raw→Bool)(a b:List Rt)(i:Nat):qRe (odT [(37,kcD (pB eqB) true)]) (loT []) (iEq a b i)=bif ilt (.ofNat i) (.ofNat a.length)then gd (Nat.blt i a.length) (gd (Nat.blt i b.length) (bif !(eqB (rw' (rI a i)) (rw' (rI b i)))then some (.inr (.r,⟨[.v (.bool false)],[],[]⟩))else nx i (.inl (iEq a b (i+1)))))else some (.inr (.x 0,⟨[],[],[]⟩)):=by kernel_rfl
section
variable (eqB:Raw→Raw→Bool)
abbrev sGe:Hs→Option (Hs⊕(Ex×Hs)):=qRe (odT [(37,kcD (pB eqB) true)]) (loT [])
def gEq(a b:List Rt)(i:Nat)(_:Unit):Unit⊕Bool:=bif eqB (xI a i) (xI b i)then .inl ()else .inr false
def eqF(a b:List Rt):Bool:=fol (gEq eqB a b) (fun _=>true) a.length 0 ()
def qSu:Bool→Ex×Hs
 | true=>(.x 0,⟨[],[],[]⟩)
 | false=>(.r,⟨[.v (.bool false)],[],[]⟩)
theorem lpEq{a b:List Rt}(k:b.length=a.length)(q:a.length<9223372036854775807):lpF (sGe eqB) a.length (iEq a b 0)=some (qSu (eqF eqB a b)):=
 jV (st:=sGe eqB) (iv:=fun i(_:Unit)=>iEq a b i) (g:=gEq eqB a b) (d:=fun _=>true) (out:=qSu) (n:=a.length) (fun _ _=>True)
  (fun i _ j _=>by
   refine(sEq ..).trans ?_;unfold gEq;have e:ilt (.ofNat i) (.ofNat a.length)=true:=zO j;rw[e,ze,k,zO j,kK (show i+1<9223372036854775808 by omega)]
   cases eqB (xI a i) (xI b i)<;>rfl)
  (fun _ _ _ _ _ _=>trivial)
  (fun _ _=>by
   refine(sEq ..).trans ?_;have e:ilt (.ofNat a.length) (.ofNat a.length)=false:=jU (zq _);rw[e];rfl) a.length 0 () (by omega) trivial
def hEq:Hs→DT (Ex×Hs)
 | ⟨[.ls .a (.prod .bool (.prod (.list .lim) (.list .lim))) a,.ls .a (.prod .bool (.prod (.list .lim) (.list .lim))) b,.v (.int .i64 (.ofNat 0))],[],[]⟩=>grd (Nat.beq b.length a.length&&Nat.blt a.length 9223372036854775807) (.ite (eqF eqB a b) (.ret (.x 0,⟨[],[],[]⟩)) (.ret (.r,⟨[.v (.bool false)],[],[]⟩)))
 | _=> .no
theorem qYb:∀q y,(hEq eqB q).run=some y→∃n,It (sGe eqB) n q y:=fun q y e=>by
 unfold hEq at e;split at e
 ·rename_i a b;obtain⟨j,k⟩:=zR e;simp only[zd]at j;have:=kY _ _ (lpEq eqB (zV j.1) (jL j.2));cases w:eqF eqB a b<;>rw[w]at k this<;>cases k<;>exact this
 ·cases e
abbrev LEq:Lo:=loT [(24,[false,true,false,true,true],Leq.row (hEq eqB))]
theorem eEqs(a b:List Rt):((qC Tryz.prog (evD Tryz.prog (odT [(37,kcD (pB eqB) true)]) (LEq eqB) 60) 24 [.ls .a zL a,.ls .a zL b] []).bind qF).run=bif !ieq (.ofNat a.length) (.ofNat b.length)then yB false else gd (Nat.beq b.length a.length&&Nat.blt a.length 9223372036854775807) (bif eqF eqB a b then yB true else yB false):=by kernel_rfl
def zIz(a b:List Rt):Bool:=ieq (.ofNat a.length) (.ofNat b.length)&&eqF eqB a b
def qHa(eqs:List Rt→List Rt→Bool):List T→DT (T×Bool)
 | [.ls .a (.prod .bool (.prod (.list .lim) (.list .lim))) a,.ls .a (.prod .bool (.prod (.list .lim) (.list .lim))) b]=>grd (Nat.blt a.length 9223372036854775807) (.ret (.v (.bool (eqs a b)),true))
 | _=> .no
end
theorem qHe:vD Tryz.prog (odT [(37,kcD (pB eqA) true)]):=zS jZ fun az e nw h k=>kN kEq az e h k
theorem kEqs:∀az w nw,(qHa (zIz eqA) az).run=some (w,nw)→∀k,KnP Tryz.prog k 24 az w nw:=by
 intro az w nw j k;unfold qHa at j;split at j
 ·rename_i a b;obtain⟨y,z⟩:=zR j;cases z;have q:((qC Tryz.prog (evD Tryz.prog (odT [(37,kcD (pB eqA) true)]) (LEq eqA) 60) 24 [.ls .a zL a,.ls .a zL b] []).bind qF).run=yB (zIz eqA a b):=by
   rw[eEqs];unfold zIz;cases he:ieq (.ofNat a.length) (.ofNat b.length)with
   | false=>rfl
   | true=>
    have e:a.length=b.length:=uO (qH.1 he);rw[←e,jD,zO (jL y)];cases eqF eqA a b<;>rfl
  exact yM (cz:=[.ls .a zL a,.ls .a zL b]) yE qHe (jO zZ (kL yE qHe zZ 60) qUh (qYb eqA)) q rfl k
 ·cases j
theorem qEt(a:List Rt):zIz eqA a a=true:=by
 have g:∀k i,fol (gEq eqA a a) (fun _=>true) k i ()=true:=fun k=>by
  induction k with
  | zero=>intro i;rfl
  | succ k j=>
   intro i;have e:gEq eqA a a i ()= .inl ():=by unfold gEq;rw[show eqA (xI a i) (xI a i)=true from kn rfl];rfl
   simp only[fol,e];exact j (i+1)
 unfold zIz eqF;rw[xK rfl,g];rfl
def iKl(l:List Bd)(x y:List Rt)(i:Nat)(Y:Int)(c2:Raw)(hd:Int):Hs:=⟨[.ls .a bT l,.ls .n zL x,.ls .n zL y,vn i],[],[[vi Y,.v (.bool c2.1),.ls .a .lim c2.2,.ls .a .lim c2.3,.v (.int .u8 hd)],[],[]]⟩
def xKl(l:List Bd)(x:List Rt)(Y:Int)(c2:Raw)(hd:Int):Hs:=⟨[.ls .a bT l,.ls .n zL x],[],[[vi Y,.v (.bool c2.1),.ls .a .lim c2.2,.ls .a .lim c2.3,.v (.int .u8 hd)],[],[]]⟩
def Lkl:Lp:=⟨3,
 ⟨[.u,.u,.t (.op 0 0)]++(us' 6++([.h,.h]++(us' 3++([.h,.u,.h]++(us' 215))))),[.r [.u,.u,.u,.u,.u,.u,.u,.u,.u,.u,.u,.u,.u,.u,.u,.u,.u,.u,.u,.u,.u,.u,.h,.u,.u,.u,.h,.h,.h,.u,.u,.u,.h] 37,.g,.g]⟩,
 ⟨[.u,.u,.t (.op 0 0)]++(us' 6++([.h,.h]++(us' 221))),[.r [.u,.u,.u,.u,.u,.u,.u,.u,.u,.u,.u,.u,.u,.u,.u,.u,.u,.u,.u,.u,.u,.u,.h,.u,.u,.u,.h,.h,.h,.u,.u,.u,.h] 37,.g,.g]⟩,
 ⟨us' 4++([.h]++(us' 227)),[.g,.g,.g]⟩⟩
abbrev qRg:Code:=lpc Tryz.prog 6 [false,true,false,true,true,true,true,true,true,true,true,true,true,true]
theorem qUj:cAt Tryz.prog 6 [false,true,false,true,true,true,true,true,true,true,true,true,true,true]=some (.loop qRg):=by kernel_rfl
abbrev qRh(OD:Od)(e:Lo):Hs→Option (Hs⊕(Ex×Hs)):=Lkl.stp (evD Tryz.prog OD e 60) 6 [false,true,false,true,true,true,true,true,true,true,true,true,true,true] qRg
theorem sKl(cm ce:Raw→Raw→Int)(l:List Bd)(x y:List Rt)(i:Nat)(Y:Int)(c2:Raw)(hd:Int):qRh (odT [(33,kcD (pRI fun a b=>(cm a b,ce a b)) true)]) (loT []) (iKl l x y i Y c2 hd)=bif ilt (.ofNat i) (.ofNat x.length)then gd (Nat.blt i x.length) (gd (Nat.blt i y.length) (bif !ieq (ce (xI x i) (xI y i)) 0 then some (.inr (.r,⟨[.v (.bool false)],[],[[],[],[]]⟩))else(bif ilt (.ofNat 0) (cm (xI x i) (xI y i))then some (.inr (.r,⟨[.v (.bool false)],[],[[],[],[]]⟩))else(bif !(ilt (cm (xI x i) (xI y i)) 0==!ieq (.ofNat i) Y)then some (.inr (.r,⟨[.v (.bool false)],[],[[],[],[]]⟩))else nx i (.inl (iKl l x y (i+1) Y c2 hd))))))else some (.inr (.x 0,xKl l x Y c2 hd)):=by kernel_rfl
section
variable (cm ce:Raw→Raw→Int)
abbrev sGk:Hs→Option (Hs⊕(Ex×Hs)):=qRh (odT [(33,kcD (pRI fun a b=>(cm a b,ce a b)) true)]) (loT [])
def gKl(x y:List Rt)(Y:Int)(i:Nat)(_:Unit):Unit⊕Bool:=bif ieq (ce (xI x i) (xI y i)) 0&&(!ilt 0 (cm (xI x i) (xI y i))&&(ilt (cm (xI x i) (xI y i)) 0==!ieq (.ofNat i) Y))then .inl ()else .inr false
def klF(x y:List Rt)(Y:Int):Bool:=fol (gKl cm ce x y Y) (fun _=>true) x.length 0 ()
def qSw(l:List Bd)(x:List Rt)(Y:Int)(c2:Raw)(hd:Int):Bool→Ex×Hs
 | true=>(.x 0,xKl l x Y c2 hd)
 | false=>(.r,⟨[.v (.bool false)],[],[[],[],[]]⟩)
theorem lpKl(l:List Bd){x y:List Rt}(Y:Int)(c2:Raw)(hd:Int)(k:y.length=x.length)(q:x.length<9223372036854775807):lpF (sGk cm ce) x.length (iKl l x y 0 Y c2 hd)=some (qSw l x Y c2 hd (klF cm ce x y Y)):=
 jV (st:=sGk cm ce) (iv:=fun i(_:Unit)=>iKl l x y i Y c2 hd) (g:=gKl cm ce x y Y) (d:=fun _=>true) (out:=qSw l x Y c2 hd) (n:=x.length) (fun _ _=>True)
  (fun i _ j _=>by
   refine(sKl ..).trans ?_;unfold gKl;have e:ilt (.ofNat i) (.ofNat x.length)=true:=zO j;rw[e,ze,k,zO j,kK (show i+1<9223372036854775808 by omega),show(Int.ofNat 0)=0 from rfl]
   cases ieq (ce (xI x i) (xI y i)) 0 with
   | false=>rfl
   | true=>cases ilt 0 (cm (xI x i) (xI y i))with
    | true=>rfl
    | false=>cases(ilt (cm (xI x i) (xI y i)) 0==!ieq (.ofNat i) Y)<;>rfl)
  (fun _ _ _ _ _ _=>trivial)
  (fun _ _=>by
   refine(sKl ..).trans ?_;have e:ilt (.ofNat x.length) (.ofNat x.length)=false:=jU (zq _);rw[e];rfl) x.length 0 () (by omega) trivial
def hKl:Hs→DT (Ex×Hs)
 | ⟨[.ls .a (.prod (.int .u8) (.prod (.int .i64) (.int .i64))) l,.ls .n (.prod .bool (.prod (.list .lim) (.list .lim))) x,.ls .n (.prod .bool (.prod (.list .lim) (.list .lim))) y,.v (.int .i64 (.ofNat 0))],[],[[.v (.int .i64 Y),.v (.bool j),.ls .a .lim k,.ls .a .lim e,.v (.int .u8 hd)],[],[]]⟩=>grd (Nat.beq y.length x.length&&Nat.blt x.length 9223372036854775807) (.ite (klF cm ce x y Y) (.ret (.x 0,xKl l x Y ⟨j,k,e⟩ hd)) (.ret (.r,⟨[.v (.bool false)],[],[[],[],[]]⟩)))
 | _=> .no
theorem qYd:∀q y,(hKl cm ce q).run=some y→∃n,It (sGk cm ce) n q y:=fun q y e=>by
 unfold hKl at e;split at e
 ·rename_i l x z Y A B j hd;obtain⟨k,w⟩:=zR e;simp only[zd]at k;have:=kY _ _ (lpKl cm ce l Y ⟨A,B,j⟩ hd (zV k.1) (jL k.2));cases E:klF cm ce x z Y<;>rw[E]at w this<;>cases w<;>exact this
 ·cases e
abbrev LKl:Lo:=loT [(6,[false,true,false,true,true,true,true,true,true,true,true,true,true,true],Lkl.row (hKl cm ce))]
end
abbrev onT:Ty:= .prod zL (.prod zL zL)
def oXt(eR:List Bd→Int→Int→Raw→Raw→Raw→List Rt)(eE:List Bd→Int→Int→Raw→Raw→Raw→Int):List T→DT (T×Bool)
 | [.ls .a (.prod (.int .u8) (.prod (.int .i64) (.int .i64))) l,.ag [.v (.bool e),.ls .a .lim q,.ls .a .lim y,.v (.bool j),.ls .a .lim w,.ls .a .lim z,.v (.bool k),.ls .a .lim m3,.ls .a .lim n3],.v (.int .i64 p),.v (.int .u8 hd)]=> .ret (.tu [.ls .a zL (eR l p hd ⟨e,q,y⟩ ⟨j,w,z⟩ ⟨k,m3,n3⟩),.v (.int .i64 (eE l p hd ⟨e,q,y⟩ ⟨j,w,z⟩ ⟨k,m3,n3⟩))],true)
 | _=> .no
def qGz(aR:List Rt→List Rt→List Rt)(aE:List Rt→List Rt→Int):List T→DT (T×Bool)
 | [.ls .a (.prod .bool (.prod (.list .lim) (.list .lim))) a,.ls .a (.prod .bool (.prod (.list .lim) (.list .lim))) b]=>grd (Nat.ble a.length 3000000000000) (.ret (.tu [.ls .a zL (aR a b),.v (.int .i64 (aE a b))],true))
 | _=> .no
def qGy(cK:List Bd→Nat):List T→DT (T×Bool)
 | [.ls .a (.prod (.int .u8) (.prod (.int .i64) (.int .i64))) l]=> .ret (.v (.int .i64 (.ofNat (cK l))),true)
 | _=> .no
section
variable (fT:TF Bool)(fL:List Wt→Bool)(fW:List Rt→Bool)(xO:List Int→List Int→List Int→List Bd→Int→Int→Int→List Nz→List Nz→Raw→Raw→Raw→Int→List (List Int)→List (List Int)→Int→List Wt→Int→Bool)(xL:List Int→List Int→List Int→List Bd→Int→Int→Int→List Nz→List Nz→Raw→Raw→Raw→Int→List (List Int)→List (List Int)→Int→List Wt→Int→List Rt)(xP:List Int→List Int→List Int→List Bd→Int→Int→Int→List Nz→List Nz→Raw→Raw→Raw→Int→List (List Int)→List (List Int)→Int→List Wt→Int→Nat)(eR:List Bd→Int→Int→Raw→Raw→Raw→List Rt)(eE:List Bd→Int→Int→Raw→Raw→Raw→Int)(aR:List Rt→List Rt→List Rt)(aE:List Rt→List Rt→Int)(eqs:List Rt→List Rt→Bool)(ad:Raw→Raw→Raw)(ae:Raw→Raw→Int)(of_:Int→Int→Raw)(cK:List Bd→Nat)(eqB:Raw→Raw→Bool)(cm ce:Raw→Raw→Int)(h o t:List Int)(G:List Bd)(P D S:Int)(O U:List Nz)(C st V:Raw)(Z:Int)(F I:List (List Int))(L Y:Int)(c1 c2 c3:Raw)(hd:Int)
abbrev smW(l:List Wt)(K:Option (T×Bool)):Option (T×Bool):=gd (Nat.blt l.length 9223372036854775807) (bif !fL l then(bif !ilt 12 (.ofNat l.length)then K else(bif !ilt 4096 (.ofNat l.length)then yB true else K))else yB true)
abbrev exW(l:List Wt)(K:Int→List Rt→Option (T×Bool)):Option (T×Bool):=gd (Nat.blt F.length 9223372036854775807) (bif xO h o t G P D S O U C st V Z F I L l Y then K 0 (xL h o t G P D S O U C st V Z F I L l Y)else K (.ofNat (xP h o t G P D S O U C st V Z F I L l Y+1)) [])
abbrev kpZ(e:List Rt):Option (T×Bool):=gd (nng Y) (gd (Nat.blt Y.toNat e.length) (yB (ieq (.ofNat (rI e Y.toNat).2.1.length) 0)))
abbrev kpH(e:List Rt):Option (T×Bool):=bif ilt (.ofNat 0) Y then(bif !ieq hd 0 then gd (nng Y) (gd (Nat.blt Y.toNat G.length) (bif ieq (bI G Y.toNat).1 hd then gd (nng Y) (gd (Nat.blt Y.toNat e.length) (yB (eqB (xI e Y.toNat) c2)))else kpZ Y e))else kpZ Y e)else kpZ Y e
abbrev kp4(e j:List Rt):Option (T×Bool):=bif !ieq (.ofNat e.length) (.ofNat G.length)then yB false else(bif !ieq (.ofNat j.length) (.ofNat G.length)then yB false else(bif ilt Y (.ofNat 0)then yB false else(bif !ilt Y (.ofNat G.length)then yB false else(bif !ieq (.ofNat (cK G)) 0 then yB false else gd (Nat.beq j.length e.length&&Nat.blt e.length 9223372036854775807) (bif klF cm ce e j Y then kpH eqB G Y c2 hd e else yB false)))))
abbrev kp3:Option (T×Bool):=bif !ieq (eE G Y hd c1 c2 c3) 0 then yB (ieq (.ofNat (eR G Y hd c1 c2 c3).length) 0)else(bif !ieq (ae c1 (of_ 1 7)) 0 then yB false else(bif !ieq (eE G Y hd (ad c1 (of_ 1 7)) c2 c3) 0 then yB false else kp4 cK eqB cm ce G Y c2 hd (eR G Y hd c1 c2 c3) (eR G Y hd (ad c1 (of_ 1 7)) c2 c3)))
abbrev kp2(e f:Int)(A B:List Rt):Option (T×Bool):=bif !ieq e f then yB false else gd (Nat.blt A.length 9223372036854775807) (bif !eqs A B then yB false else kp3 eR eE ad ae of_ cK eqB cm ce G Y c1 c2 c3 hd)
abbrev kpT(l:List Wt)(K:Int→List Rt→Option (T×Bool)):Option (T×Bool):=gd (Nat.blt F.length 9223372036854775807) (bif xO h o t G P D S O U C st V Z F I L l Y then(bif !ieq (eE G Y (hd.tmod 3) r0 r0 r0) 0 then K (eE G Y (hd.tmod 3) r0 r0 r0) []else gd (Nat.ble (xL h o t G P D S O U C st V Z F I L l Y).length 3000000000000) (K (aE (xL h o t G P D S O U C st V Z F I L l Y) (eR G Y (hd.tmod 3) r0 r0 r0)) (aR (xL h o t G P D S O U C st V Z F I L l Y) (eR G Y (hd.tmod 3) r0 r0 r0))))else K (.ofNat (xP h o t G P D S O U C st V Z F I L l Y+1)) [])
abbrev kpL(l:List Wt):Option (T×Bool):=exW xO xL xP h o t G P D S O U C st V Z F I L Y l fun e A=>kpT xO xL xP eR eE aR aE h o t G P D S O U C st V Z F I L Y hd l fun j B=>kp2 eR eE eqs ad ae of_ cK eqB cm ce G Y c1 c2 c3 hd e j A B
set_option maxHeartbeats 0 in
theorem eKps(l:List Wt):((qC Tryz.prog (evD Tryz.prog (odT [(13,odR [tbT] (qHb fT)),(38,odR [.list wT] (oLg fL)),(65,odR [.list zL] (oWd fW)),(16,oAw),(22,odR [tbT,nT,.list wT,nT] (oEx xO xL xP)),(30,odR [.list bT,onT,nT,.int .u8] (oXt eR eE)),(31,odR [.list zL,.list zL] (qGz aR aE)),(24,odR [.list zL,.list zL] (qHa eqs)),(34,kcD (pRR fun a b=>some (ad a b,ae a b)) true),(53,kcD (pII of_) true),(36,odR [.list bT] (qGy cK)),(37,kcD (pB eqB) true)]) (LKl cm ce) 60) 6 [.ag [.ls .a nT h,.ls .a nT o,.ls .a nT t,.ls .a bT G,vi P,vi D,vi S,.ls .a nzT O,.ls .a nzT U,.v (.bool C.1),.ls .a .lim C.2,.ls .a .lim C.3,.v (.bool st.1),.ls .a .lim st.2,.ls .a .lim st.3,.v (.bool V.1),.ls .a .lim V.2,.ls .a .lim V.3,vi Z,.ls .a (.list nT) F,.ls .a (.list nT) I,vi L,vi Y,.v (.bool c1.1),.ls .a .lim c1.2,.ls .a .lim c1.3,.v (.bool c2.1),.ls .a .lim c2.2,.ls .a .lim c2.3,.v (.bool c3.1),.ls .a .lim c3.2,.ls .a .lim c3.3,.v (.int .u8 hd)],.ls .a wT l] []).bind qF).run=gd (Nat.blt F.length 9223372036854775807&&Nat.blt I.length 9223372036854775807) (bif fT h o t G P D S O U C st V Z F I then yB true else smW fL l (bif fW [toT c1,toT c2,toT c3]then yB true else kpL xO xL xP eR eE aR aE eqs ad ae of_ cK eqB cm ce h o t G P D S O U C st V Z F I L Y c1 c2 c3 hd l)):=by kernel_rfl
end
def BQ(k:Nat)(q:Rat):Prop:=q.num.natAbs<2^k∧q.den<2^k
theorem zHa{n:Int}{d k:Nat}(hd:d≠0)(j:n.natAbs<2^k)(e:d<2^k):BQ k (mkRat n d):=by
 constructor
 ·rw[ut,qm hd];exact jq (Int.natAbs_ediv_le_natAbs _ _) j
 ·rw[dr,qm hd];exact jq (vg _ _) e
theorem zNk{x y k m:Nat}(e:x<2^k)(j:y<2^m):x*y<2^(k+m):=by rw[kf];exact Nat.mul_lt_mul'' e j
theorem BQ.add{k m:Nat}{a b:Rat}(ha:BQ k a)(e:BQ m b):BQ (k+m+1) (a+b):=by
 rw[Rat.add_def'];have q:=zNk ha.1 e.2;have j:=zNk e.1 ha.2;have w:=zNk ha.2 e.2;rw[xz m k]at j;have hp:2^(k+m+1)=2^(k+m)+2^(k+m):=by rw[jd];omega
 refine zHa (Nat.mul_ne_zero a.den_nz b.den_nz) ?_ (by omega)
 have t:=Int.natAbs_add_le (a.num*b.den) (b.num*a.den);rw[Int.natAbs_mul,Int.natAbs_mul,Int.natAbs_natCast,Int.natAbs_natCast]at t;omega
theorem qTk(m:Nat):4294967296^m=2^(32*m):=by rw[y0]
theorem jEz{k m:Nat}(h:k≤32*m):2^k≤4294967296^m:=by rw[qTk];exact ji (by decide) h
theorem BQ.fit{k:Nat}{q:Rat}(h:BQ k q)(j:k≤4096):lX q=0:=by
 have e:2^k≤jQ:=jEz (m:=128) (by omega)
 unfold lX;rw[qn];refine⟨z8 h.1 e,?_⟩;have:rW q.den≤q.den:=by unfold rW;split<;>omega
 exact jq this (z8 h.2 e)
theorem BQ.raw{c:Raw}{n:Nat}(j:∀y∈c.ln,y<4294967296)(k:∀y∈c.ld,y<4294967296)(w:c.ln.length≤n)(z:c.ld.length≤n):BQ (32*n+1) c.rat:=by
 have e:∀{l:List Nat},(∀y∈l,y<4294967296)→l.length≤n→val l<2^(32*n+1):=fun{l}q A=>by
  refine z8 (kJ q) ?_;rw[qTk];exact ji (by decide) (by omega)
 refine zHa (Nat.pos_iff_ne_zero.1 c.d_pos) ?_ ?_
 ·have:(sgn c.neg (val c.ln)).natAbs=val c.ln:=by unfold sgn;split<;>omega
  rw[this];exact e j w
 ·unfold Raw.d;split
  ·exact Nat.one_lt_two_pow (by omega)
  ·exact e k z
theorem zZk:Kp.z0.chk=0∧Kp.z0.rat=0:=⟨qMl,qMm⟩
theorem qCt{v:Bool}{a c:Raw}{k m:Nat}(ha:a.chk=0)(z:a=Raw.of a.rat)(A:c.chk=0)(j:BQ k a.rat)(B:BQ m c.rat)(q:k+m+1≤4096):∃t,Kp.ad v a c= .inl t∧t.chk=0∧t=Raw.of t.rat∧t.rat=a.rat+(bif v then c.rat else 0)∧BQ (k+m+1) t.rat:=by
 cases v with
 | false=>
  refine⟨a,rfl,ha,z,(Rat.add_zero _).symm,?_,?_⟩
  ·exact z8 j.1 (ji (by omega) (by omega))
  ·exact z8 j.2 (ji (by omega) (by omega))
 | true=>
  have kk:=j.add B;obtain⟨w,y⟩:=zUt ha A (kk.fit q);have e:Kp.adR a c=Raw.of (a.rat+c.rat):=y;refine⟨Kp.adR a c,?_,?_,?_,?_,?_⟩
  ·unfold Kp.ad;rw[show Kp.adE a c=0 from w];rfl
  ·rw[e];exact Raw.of_chk (kk.fit q)
  ·rw[e,Raw.of_rat]
  ·rw[e,Raw.of_rat];rfl
  ·rw[e,Raw.of_rat];exact kk
structure pO(c:Raw):Prop where
 chk:c.chk=0
 neg:c.neg=false
 bq:∃k,k≤660∧BQ k c.rat
abbrev vQ(c d e:Raw)(j k q:Bool):Rat:=(bif j then c.rat else 0)+(bif k then d.rat else 0)+(bif q then e.rat else 0)
theorem qXn{c d e:Raw}(w:pO c)(hd:pO d)(he:pO e)(k j q:Bool):∃t,Kp.exS c d e k j q= .inl t∧t.chk=0∧t=Raw.of t.rat∧t.rat=vQ c d e k j q:=by
 have z1:BQ 1 Kp.z0.rat:=by rw[zZk.2];exact⟨by decide,by decide⟩
 have z2:Kp.z0=Raw.of Kp.z0.rat:=by rw[zZk.2];exact fr0
 obtain⟨kc,lc,Q⟩:=w.bq;obtain⟨kd,ld,R⟩:=hd.bq;obtain⟨ke,le,W⟩:=he.bq;obtain⟨a,y,z,A,B,E⟩:=qCt (v:=k) zZk.1 z2 w.chk z1 Q (by omega)
 obtain⟨b,H,J,K,M,N⟩:=qCt (v:=j) z A hd.chk E R (by omega)
 obtain⟨t,X,t2,t3,t4,_⟩:=qCt (v:=q) J K he.chk N W (by omega)
 refine⟨t,?_,t2,t3,?_⟩
 ·unfold Kp.exS;rw[y];show Kp.bi (Kp.ad j a d) _=_;rw[H];exact X
 ·rw[t4,M,B,zZk.2,Rat.zero_add]
abbrev v1B(x:Bd)(hd:Int)(i:Nat):Bool:=ilt 0 (.ofNat i)&&(!ieq hd 0&&ieq x.1 hd)
def exV(l:List Bd)(p hd:Int)(c d e:Raw)(i:Nat):Raw:=match Kp.exX (bI l i) p hd c d e i with
 | .inl t=>t
 | .inr _=>Kp.z0
theorem zGh{l:List Bd}{p hd:Int}{c d e:Raw}(A:pO c)(j:pO d)(he:pO e)(i:Nat):Kp.exX (bI l i) p hd c d e i= .inl (exV l p hd c d e i)∧(exV l p hd c d e i).chk=0∧exV l p hd c d e i=Raw.of (exV l p hd c d e i).rat∧(exV l p hd c d e i).rat=vQ c d e (!ieq (.ofNat i) p) (v1B (bI l i) hd i) (ieq (.ofNat i) 0&&ilt 0 p):=by
 obtain⟨t,k,w,y,z⟩:=qXn A j he (!ieq (.ofNat i) p) (v1B (bI l i) hd i) (ieq (.ofNat i) 0&&ilt 0 p);have q:Kp.exX (bI l i) p hd c d e i= .inl t:=k;have B:exV l p hd c d e i=t:=by unfold exV;rw[q]
 rw[B];exact⟨q,w,y,z⟩
theorem zWr{l:List Bd}{p hd:Int}{c d e:Raw}(w:pO c)(q:pO d)(he:pO e):∀(k i:Nat)(a:List Rt),fol (Kp.gEx l p hd c d e) Sum.inl k i a= .inl (((List.range' i k).map fun j=>toT (exV l p hd c d e j)).reverse++a)
 | 0,i,a=>rfl
 | k+1,i,a=>by
  have g:Kp.gEx l p hd c d e i a= .inl (toT (exV l p hd c d e i)::a):=by
   unfold Kp.gEx;rw[show Kp.exX (Kp.bAt l i) p hd c d e i= .inl (exV l p hd c d e i)from(zGh w q he i).1]
  simp only[fol];rw[g];show fol (Kp.gEx l p hd c d e) Sum.inl k (i+1) _=_;rw[zWr w q he k (i+1) _,List.range'_succ];simp
theorem zMq{l:List Bd}{p hd:Int}{c d e:Raw}(w:pO c)(k:pO d)(he:pO e)(q:Kp.preE l p hd c d e=0):Kp.xE l p hd c d e=0∧Kp.xR l p hd c d e=(List.range l.length).map fun j=>toT (exV l p hd c d e j):=by
 have f:Kp.exF l p hd c d e= .inl (((List.range' 0 l.length).map fun j=>toT (exV l p hd c d e j)).reverse++[]):=zWr w k he l.length 0 [];unfold Kp.xE Kp.xR;rw[q,f];refine⟨rfl,?_⟩;show(((List.range' 0 l.length).map fun j=>toT (exV l p hd c d e j)).reverse++[]).reverse=_;rw[jw,ve,List.range_eq_range']
theorem zWx{x y:Int}(j:ieq x y=false):x≠y:=fun e=>by rw[xK e]at j;cases j
theorem jEu{q:Rat}(h:0≤q):(Raw.of q).neg=false:=we (by have:=Rat.num_nonneg.2 h;omega)
structure qCn(l:List Bd)(p hd:Int)(c d e:Raw):Prop where
 ck:Kp.ckN l=0
 c1:c.chk=0
 c2:c.neg=false
 d1:d.chk=0
 d2:d.neg=false
 e1:e.chk=0
 e2:e.neg=false
 p0:0≤p
 p1:p<l.length
 h2:hd≤2
theorem qIx{l:List Bd}{p hd:Int}{c d e:Raw}(j:Kp.preE l p hd c d e=0):qCn l p hd c d e:=by
 unfold Kp.preE at j;cases q:ieq (.ofNat (Kp.ckN l)) 0 with
 | false=>rw[q]at j;exact absurd j (zWx q)
 | true=>
 cases w:ieq c.chk 0 with
 | false=>rw[q,w]at j;exact absurd j (zWx w)
 | true=>
 cases y:c.neg with
 | true=>rw[q,w,y]at j;cases j
 | false=>
 cases z:ieq d.chk 0 with
 | false=>rw[q,w,y,z]at j;exact absurd j (zWx z)
 | true=>
 cases A:d.neg with
 | true=>rw[q,w,y,z,A]at j;cases j
 | false=>
 cases B:ieq e.chk 0 with
 | false=>rw[q,w,y,z,A,B]at j;exact absurd j (zWx B)
 | true=>
 cases E:e.neg with
 | true=>rw[q,w,y,z,A,B,E]at j;cases j
 | false=>
 cases H:ilt p 0 with
 | true=>rw[q,w,y,z,A,B,E,H]at j;cases j
 | false=>
 cases J:ilt p (.ofNat l.length)with
 | false=>rw[q,w,y,z,A,B,E,H,J]at j;cases j
 | true=>
 cases K:ilt 2 hd with
 | true=>rw[q,w,y,z,A,B,E,H,J,K]at j;cases j
 | false=>exact⟨uO (qH.1 q),qH.1 w,y,qH.1 z,A,qH.1 B,E,u7.1 fun k=>(by rw[gL k]at H;cases H),tL.1 J,u7.1 fun k=>(by rw[gL k]at K;cases K)⟩
theorem qIw{l:List Bd}{p hd:Int}{c d e:Raw}(h:qCn l p hd c d e):Kp.preE l p hd c d e=0:=by
 unfold Kp.preE;rw[h.ck,xK (show Int.ofNat 0=0 from rfl),h.c1,h.c2,h.d1,h.d2,h.e1,h.e2,xK rfl,zBa h.p0,gL (show p<.ofNat l.length from h.p1),zBa h.h2];rfl
theorem qEn{l:List Bd}:∀(k i:Nat),fol (gDc l) (fun _=>none) k i ()=none→∀j,i≤j→j<i+k→gDc l j ()= .inl ()
 | 0,i,_,j,w,E=>by omega
 | k+1,i,q,j,w,E=>by
  simp only[fol]at q;cases e:gDc l i ()with
  | inl u=>
   rw[e]at q;rcases kz w with rfl | hlt
   ·exact e
   ·exact qEn k (i+1) q j hlt (by omega)
  | inr y=>
   rw[e]at q;unfold gDc at e;cases z:(!ieq (bI l i).1 1&&!ieq (bI l i).1 2)<;>rw[z]at e
   ·cases A:ilt (bI l i).2.2 (bI l i).2.1<;>rw[A]at e
    ·cases B:yD (-100) 100 [(bI l i).2.1,(bI l i).2.2]<;>rw[B]at e<;>cases e;cases q
    ·cases e;cases q
   ·cases e;cases q
theorem qLp{l:List Bd}{j:Nat}(e:gDc l j ()= .inl ()):Kp.chX (bI l j)=0:=by
 unfold gDc at e;cases k:(!ieq (bI l j).1 1&&!ieq (bI l j).1 2)with
 | true=>rw[k]at e;cases e
 | false=>cases q:ilt (bI l j).2.2 (bI l j).2.1 with
  | true=>rw[k,q]at e;cases e
  | false=>cases w:yD (-100) 100 [(bI l j).2.1,(bI l j).2.2]with
   | false=>rw[k,q,w]at e;cases e
   | true=>
    have y:=(zUc w (j:=0) (show 0<2 by decide)).1
    have z:=(zUc w (j:=1) (show 1<2 by decide)).2
    have y: -100≤(bI l j).2.1:=y;have z:(bI l j).2.2≤100:=z;unfold Kp.chX;rw[k,q,zBa (show(Int.negSucc 99)≤(bI l j).2.1 from y),zBa (show(bI l j).2.2≤.ofNat 100 from z)];rfl
theorem jDz{l:List Bd}{j:Nat}(k:j<l.length-1):bI (dr1 l) j=bI l (j+1):=by
 rw[bI,bI,qW,qW];have e:j+1<l.length:=by omega
 simp[e,qi,jm,xz 1 j,k]
theorem qLq{l:List Bd}(y:1≤l.length)(z:l.length≤6)(hd:dvF (dr1 l)=none):Kp.ckN l=0:=by
 have B:(dr1 l).length=l.length-1:=by simp
 have g:=qEn (dr1 l).length 0 hd;have r:∀k i,1≤i→i+k=l.length→fol (Kp.gCh l) (fun _=>0) k i ()=0:=fun k=>by
  induction k with
  | zero=>intro i _ _;rfl
  | succ k w=>
   intro i A e;obtain⟨j,rfl⟩:∃j,i=j+1:=⟨i-1,by omega⟩
   have q:=qLp (g j (qu _) (by omega))
   rw[jDz (by omega)]at q
   have s:Kp.gCh l (j+1) ()= .inl ():=by
    unfold Kp.gCh;rw[show Kp.chX (Kp.bAt l (j+1))=0 from q]
   simp only[fol];rw[s];exact w (j+1+1) (by omega) (by omega)
 unfold Kp.ckN;rw[qDg (show l.length≠0 by omega),jU (show l.length≤6 by omega)]
 exact r (l.length-1) 1 (zq _) (by omega)
theorem qKh{l:List Rt}:∀(k i:Nat),fol (gWd l) (fun _=>false) k i ()=false→∀j,i≤j→j<i+k→(rA l j).2.1.length≤20∧(rA l j).2.2.length≤20
 | 0,i,_,j,w,y=>by omega
 | k+1,i,q,j,w,y=>by
  simp only[fol,gWd]at q;cases e:(ilt 20 (.ofNat (rA l i).2.1.length)||ilt 20 (.ofNat (rA l i).2.2.length))with
  | true=>rw[e]at q;cases q
  | false=>
   rw[e]at q;rcases kz w with rfl | hlt
   ·simp only[xr]at e;refine⟨?_,?_⟩
    ·rcases qg 20 (rA l i).2.1.length with g | g
     ·rw[gL (show(20:Int)<.ofNat (rA l i).2.1.length by show(20:Int)<((rA l i).2.1.length:Int);omega)]at e;cases e.1
     ·exact g
    ·rcases qg 20 (rA l i).2.2.length with g | g
     ·rw[gL (show(20:Int)<.ofNat (rA l i).2.2.length by show(20:Int)<((rA l i).2.2.length:Int);omega)]at e;cases e.2
     ·exact g
   ·exact qKh k (i+1) q j hlt (by omega)
theorem zVq{l:List Rt}(k:wdZ l=false){j:Nat}(q:j<l.length):(rA l j).2.1.length≤20∧(rA l j).2.2.length≤20:=by
 unfold wdZ at k;cases e:wdF l with
 | true=>rw[e]at k;cases k
 | false=>exact qKh l.length 0 e j (qu _) (by omega)
def lmB(c:Raw):Prop:=(∀y∈c.ln,y<4294967296)∧∀y∈c.ld,y<4294967296
theorem zLe{c:Raw}(k:c.chk=0)(q:c.neg=false)(e:lmB c)(j:c.ln.length≤20∧c.ld.length≤20):pO c:=⟨k,q,32*20+1,by omega,BQ.raw e.1 e.2 j.1 j.2⟩
theorem qAo:pO r0:=⟨zDl,rfl,1,by omega,by rw[zHw];exact⟨by decide,by decide⟩⟩
abbrev of6(n m:Int):Raw:=Raw.of (mkRat (sgn (decide (n<0)!=decide (m<0)) n.natAbs) m.natAbs)
theorem o17:of6 1 7=Raw.of (mkRat 1 7):=rfl
theorem b17:BQ 3 (mkRat 1 7):=zHa (by decide) (by decide) (by decide)
theorem p17:0<mkRat 1 7:=by decide
theorem qOi{c:Raw}(B:c.chk=0)(E:c.neg=false)(w:lmB c)(y:c.ln.length≤20∧c.ld.length≤20):aeA c (of6 1 7)=0∧pO (adA c (of6 1 7))∧(adA c (of6 1 7)).rat=c.rat+mkRat 1 7:=by
 have k:=(BQ.raw w.1 w.2 y.1 y.2).add b17;have z:(of6 1 7).chk=0:=by rw[o17];exact Raw.of_chk (b17.fit (by omega))
 have q:(of6 1 7).rat=mkRat 1 7:=by rw[o17];exact Raw.of_rat _
 have j:BQ (32*20+1+3+1) (c.rat+(of6 1 7).rat):=by rw[q];exact k
 obtain⟨A,e⟩:=zUt B z (j.fit (by omega))
 have e:adA c (of6 1 7)=Raw.of (c.rat+(of6 1 7).rat):=e;have H:=zVe E;have p:=p17;refine⟨A,⟨?_,?_,32*20+1+3+1,by omega,?_⟩,?_⟩
 ·rw[e];exact Raw.of_chk (j.fit (by omega))
 ·rw[e,q];exact jEu (by grind)
 ·rw[e,Raw.of_rat];exact j
 ·rw[e,Raw.of_rat,q]
theorem zNj{n:Nat}{f:Nat→Rt}{i:Nat}(e:i<n):rI ((List.range n).map f) i=f i:=by
 rw[zOc (by simpa using e)];simp
theorem qGc{x y:List Rt}{Y:Int}(j:∀i,i<x.length→gKl yQ xB x y Y i ()= .inl ()):∀k i,i+k=x.length→fol (gKl yQ xB x y Y) (fun _=>true) k i ()=true
 | 0,_,_=>rfl
 | k+1,i,e=>by simp only[fol];rw[j i (by omega)];exact qGc j k (i+1) (by omega)
theorem qSe{a b:List Rt}:∀(k i:Nat){t j:Raw},lX t.rat=0∧t=Raw.of t.rat→fol (gDt adA muA aeA meA a b) Sum.inl k i t=Sum.inl j→lX j.rat=0∧j=Raw.of j.rat
 | 0,i,t,j,B,e=>by cases e;exact B
 | k+1,i,t,j,B,e=>by
  simp only[fol,gDt]at e;cases w:ieq (meA (xI a i) (xI b i)) 0 with
  | false=>rw[w]at e;cases e
  | true=>
   cases z:ieq (aeA r0 t) 0 with
   | false=>rw[w,z]at e;cases e
   | true=>
    cases y:ieq (aeA (adA r0 t) (muA (xI a i) (xI b i))) 0 with
    | false=>rw[w,z,y]at e;cases e
    | true=>
     rw[w,z,y]at e;have E:Gv.opE (adA r0 t) (muA (xI a i) (xI b i)) ((adA r0 t).rat+(muA (xI a i) (xI b i)).rat)=0:=qH.1 y;have A:=dA (qH.1 y);have q:=(Gv.or2_zero E).2;exact qSe k (i+1) ⟨by rw[A.2.2.2.1];exact q,by rw[A.2.2.2.1];exact A.2.2.1⟩ e
theorem qEl{a b:List Rt}:lX (qL a b).rat=0∧qL a b=Raw.of (qL a b).rat:=by
 have z:lX r0.rat=0∧r0=Raw.of r0.rat:=⟨by rw[zHw];exact qTl,(qHf zDl (fun y j=>by cases j) (fun y j=>by cases j)).1.symm⟩
 unfold qL dtR;cases e:zGe adA muA aeA meA a b with
 | false=>exact z
 | true=>
  cases k:dtF adA muA aeA meA a b with
  | inr e=>exact z
  | inl t=>exact qSe a.length 0 z k
theorem zWc{A m:List Rt}(h:∀i,i<A.length→(xI A i).chk=0∧xI A i=Raw.of (xI A i).rat∧lX (xI A i).rat=0∧(xI m i).chk=0∧(xI m i).rat=0):∀(k i:Nat)(a:List Rt),i+k=A.length→fol (Kp.gAd A m) Sum.inl k i a= .inl ((A.drop i).reverse++a)
 | 0,i,a,e=>by
  obtain rfl:i=A.length:=by omega
  rw[gf];rfl
 | k+1,i,a,e=>by
  obtain⟨w,y,z,B,E⟩:=h i (by omega)
  have q:(xI A i).rat+(xI m i).rat=(xI A i).rat:=by rw[E,Rat.add_zero]
  obtain⟨H,J⟩:=zUt (q:=(xI A i).rat+(xI m i).rat) w B (by rw[q];exact z)
  have K:Kp.adR (Kp.rAt A i) (Kp.rAt m i)=xI A i:=by
   refine(show Kp.adR (Kp.rAt A i) (Kp.rAt m i)=_ from J).trans ?_;rw[q];exact y.symm
  have g:Kp.gAd A m i a= .inl (toT (xI A i)::a):=by
   unfold Kp.gAd;rw[show Kp.adE (Kp.rAt A i) (Kp.rAt m i)=0 from H,K];rfl
  have j:i<A.length:=by omega
  simp only[fol];rw[g];show fol (Kp.gAd A m) Sum.inl k (i+1) _=_;rw[zWc h k (i+1) _ (by omega),j9 j,←zOc j,ye,qt];rfl
theorem qUy{A m:List Rt}(e:m.length=A.length)(h:∀i,i<A.length→(xI A i).chk=0∧xI A i=Raw.of (xI A i).rat∧lX (xI A i).rat=0∧(xI m i).chk=0∧(xI m i).rat=0):Kp.aE A m=0∧Kp.aR A m=A:=by
 have f:Kp.adF A m= .inl ((A.drop 0).reverse++[]):=zWc h A.length 0 [] (ql _);unfold Kp.aE Kp.aR;rw[e,jD,f];refine⟨rfl,?_⟩;show((A.drop 0).reverse++[]).reverse=A;rw[jw,ve,xd]
section
variable {l:List Bd}{p:Nat}{hd:Int}{c1 c2 c3:Raw}
theorem qZl{j:List Rt}(k:p<j.length)(h:(rI j p).2.1=[]):kpZ (.ofNat p) j=yB true:=by
 have e:(Int.ofNat p).toNat=p:=rfl;simp only[kpZ];rw[e,zO k,h];rfl
theorem qZj(M:pO c1)(A:pO c2)(N:pO c3)(w:lmB c2)(hp:p<l.length):kpH eqA l (.ofNat p) c2 hd ((List.range l.length).map fun j=>toT (exV l (.ofNat p) hd c1 c2 c3 j))=yB true:=by
 have z:((List.range l.length).map fun j=>toT (exV l (.ofNat p) hd c1 c2 c3 j)).length=l.length:=by simp
 have E:rI ((List.range l.length).map fun j=>toT (exV l (.ofNat p) hd c1 c2 c3 j)) p=toT (exV l (.ofNat p) hd c1 c2 c3 p):=zNj hp;obtain⟨_,R,B,e⟩:=zGh (l:=l) (p:= .ofNat p) (hd:=hd) M A N p;have Q:(ieq (.ofNat p) 0&&ilt 0 (.ofNat p))=false:=by cases p<;>rfl
 rw[xK rfl,Q]at e;have e:(exV l (.ofNat p) hd c1 c2 c3 p).rat=(0:Rat)+(bif v1B (bI l p) hd p then c2.rat else 0)+0:=e;have zero:v1B (bI l p) hd p=false→kpZ (.ofNat p) ((List.range l.length).map fun j=>toT (exV l (.ofNat p) hd c1 c2 c3 j))=yB true:=fun hv=>by
  refine qZl (by rw[z];exact hp) ?_
  rw[E];show(exV l (.ofNat p) hd c1 c2 c3 p).ln=[];rw[B,e,hv,zf,show(0:Rat)+0+0=0 by grind];rfl
 have K:(Int.ofNat p).toNat=p:=rfl;have z0:(Int.ofNat 0)=0:=rfl;simp only[kpH];rw[K,z,z0];cases k:ilt 0 (.ofNat p)with
 | false=>exact zero (by unfold v1B;rw[k];rfl)
 | true=>cases q:ieq hd 0 with
  | true=>exact zero (by unfold v1B;rw[k,q];rfl)
  | false=>
   rw[zO hp];cases y:ieq (bI l p).1 hd with
   | false=>exact zero (by unfold v1B;rw[k,q,y];rfl)
   | true=>
    have hv:v1B (bI l p) hd p=true:=by unfold v1B;rw[k,q,y];rfl
    rw[hv,ze,show(0:Rat)+c2.rat+0=c2.rat by grind]at e
    have H:exV l (.ofNat p) hd c1 c2 c3 p=c2:=by rw[B,e];exact(qHf A.chk w.1 w.2).1
    have J:xI ((List.range l.length).map fun j=>toT (exV l (.ofNat p) hd c1 c2 c3 j)) p=c2:=by
     show rw' (rI _ p)=_;rw[E,H]
    rw[J,show eqA c2 c2=true from kn rfl];rfl
theorem jEi(K:pO c1)(B:pO c2)(E:pO c3){m:Raw}(om:pO m)(M:m.rat=c1.rat+mkRat 1 7)(Y:Int):klF yQ xB ((List.range l.length).map fun j=>toT (exV l Y hd c1 c2 c3 j)) ((List.range l.length).map fun j=>toT (exV l Y hd m c2 c3 j)) Y=true:=by
 unfold klF;refine qGc (fun i q=>?_) _ 0 (ql _);have q:i<l.length:=by simpa using q
 have ex:xI ((List.range l.length).map fun j=>toT (exV l Y hd c1 c2 c3 j)) i=exV l Y hd c1 c2 c3 i:=by show rw' (rI _ i)=_;rw[zNj q]
 have H:xI ((List.range l.length).map fun j=>toT (exV l Y hd m c2 c3 j)) i=exV l Y hd m c2 c3 i:=by show rw' (rI _ i)=_;rw[zNj q]
 obtain⟨_,z,_,w⟩:=zGh (l:=l) (p:=Y) (hd:=hd) K B E i;obtain⟨_,A,_,y⟩:=zGh (l:=l) (p:=Y) (hd:=hd) om B E i;have N:=p17;unfold gKl;rw[ex,H,show xB (exV l Y hd c1 c2 c3 i) (exV l Y hd m c2 c3 i)=0 from zTm z A,xK rfl];cases e:ieq (.ofNat i) Y with
 | true=>
  rw[e]at w y;have k:yQ (exV l Y hd c1 c2 c3 i) (exV l Y hd m c2 c3 i)=0:=(zFz z A).2 (w.trans y.symm);rw[k];rfl
 | false=>
  rw[e]at w y;have J:(exV l Y hd c1 c2 c3 i).rat<(exV l Y hd m c2 c3 i).rat:=by
   rw[w,y];show c1.rat+_+_<m.rat+_+_;rw[M];grind
  have k:=(zTl z A).2 J;rw[gL k,zBa (vy k)];rfl
theorem qZi{Y:Int}(z:lmB c1)(A:lmB c2)(M:lmB c3)(J:c1.ln.length≤20∧c1.ld.length≤20)(Q:c2.ln.length≤20∧c2.ld.length≤20)(R:c3.ln.length≤20∧c3.ld.length≤20)(W:l.length<9223372036854775807):kp3 Kp.xR Kp.xE adA aeA of6 Kp.ckN eqA yQ xB l Y c1 c2 c3 hd=yB true:=by
 simp only[kp3];cases e:ieq (Kp.xE l Y hd c1 c2 c3) 0 with
 | false=>
  have j:Kp.xR l Y hd c1 c2 c3=[]:=by
   by_cases hp:Kp.preE l Y hd c1 c2 c3=0
   ·have P:=qIx hp;have:=(zMq (zLe P.c1 P.c2 z J) (zLe P.d1 P.d2 A Q) (zLe P.e1 P.e2 M R) hp).1;rw[xK this]at e;cases e
   ·unfold Kp.xR;rw[qSm hp];rfl
  rw[j];rfl
 | true=>
  have j:=qH.1 e;have hp:Kp.preE l Y hd c1 c2 c3=0:=xg fun N=>by
   unfold Kp.xE at j;rw[qSm N]at j;exact N j
  have P:=qIx hp;have K:=zLe P.c1 P.c2 z J;have w:=zLe P.d1 P.d2 A Q;have y:=zLe P.e1 P.e2 M R;obtain⟨X,k,m3⟩:=qOi P.c1 P.c2 z J;have B:Kp.preE l Y hd (adA c1 (of6 1 7)) c2 c3=0:=qIw ⟨P.ck,k.chk,k.neg,P.d1,P.d2,P.e1,P.e2,P.p0,P.p1,P.h2⟩;obtain⟨x1,x2⟩:=zMq K w y hp;obtain⟨y1,y2⟩:=zMq k w y B;obtain⟨q,H⟩:=jh P.p0;have E:q<l.length:=by have:=P.p1;omega
  have z0:(Int.ofNat 0)=0:=rfl;rw[X,y1,x2,y2];simp only[kp4,ku,uv];rw[P.ck,z0,zBa P.p0,gL (show Y<.ofNat l.length from P.p1),jD,zO W,jEi K w y k m3 Y,xK rfl,xK rfl];subst H;exact qZj K w y A E
end
theorem jEm(h o t:List Int)(G:List Bd)(P D S:Int)(O U:List Nz)(C st V:Raw)(Z:Int)(F I:List (List Int)){L H W j Y:Int}(e:jN h o t G P D S O U C st V Z F I L H W j Y=true):0≤Y∧Y<G.length:=by
 unfold jN lkR at e;cases k:Nat.beq (lkE h o t G P D S O U C st V Z F I L H W j Y) 0 with
 | false=>rw[k]at e;cases e
 | true=>obtain⟨_,_,_,q,w,_⟩:=zXk yP pPA h o t G P D S O U C st V Z F I L H W j Y k;exact⟨q,w⟩
theorem qZk(h o t:List Int)(G:List Bd)(P D S:Int)(O U:List Nz)(C st V:Raw)(Z:Int)(F I:List (List Int))(L Y:Int){c1 c2 c3:Raw}(hd:Int)(l:List Wt)(N:F.length<9223372036854775807)(K:G.length<9223372036854775807)(Q:kp3 Kp.xR Kp.xE adA aeA of6 Kp.ckN eqA yQ xB G Y c1 c2 c3 hd=yB true):kpL xpO xpV xpP Kp.xR Kp.xE Kp.aR Kp.aE (zIz eqA) adA aeA of6 Kp.ckN eqA yQ xB h o t G P D S O U C st V Z F I L Y c1 c2 c3 hd l=yB true:=by
 have y:∀{x:Int}{A:List Rt},A.length<9223372036854775807→kp2 Kp.xR Kp.xE (zIz eqA) adA aeA of6 Kp.ckN eqA yQ xB G Y c1 c2 c3 hd x x A A=yB true:=fun{x A}ha=>by
  simp only[kp2];rw[xK rfl,zO ha,qEt,Q];rfl
 simp only[kpL,exW,kpT];rw[zO N];cases e:xpO h o t G P D S O U C st V Z F I L l Y with
 | false=>exact y (by decide)
 | true=>
  have j:=jFj h o t G P D S O U C st V Z F I e;have hp:=j.pt 0 (zMd j.be).1;have hT:Tab h o t G S Z F I:=qJs hp;obtain⟨R,W⟩:=jEm h o t G P D S O U C st V Z F I hp;have B:=hT.mod.av1;have E:=hT.mod.av6;have M:qCn G Y (hd.tmod 3) r0 r0 r0:=⟨qLq B E hT.mod.dv,zDl,rfl,zDl,rfl,zDl,rfl,R,W,by have:=Int.tmod_lt_of_pos hd (show(0:Int)<3 by decide);omega⟩
  obtain⟨X,z⟩:=zMq qAo qAo qAo (qIw M);have w:=j.len;obtain⟨H,J⟩:=qUy (A:=xpV h o t G P D S O U C st V Z F I L l Y) (m:=Kp.xR G Y (hd.tmod 3) r0 r0 r0) (by rw[z,w];simp) fun i k=>by
   rw[w]at k;have ex:xI (xpV h o t G P D S O U C st V Z F I L l Y) i=xDt h o t G P D S O U C st V Z F I L l Y i:=by show rw' (rI _ i)=_;rw[j.get k]
   have em:xI (Kp.xR G Y (hd.tmod 3) r0 r0 r0) i=exV G Y (hd.tmod 3) r0 r0 r0 i:=by show rw' (rI _ i)=_;rw[z,zNj k]
   obtain⟨_,z2,_,z4⟩:=zGh (l:=G) (p:=Y) (hd:=hd.tmod 3) qAo qAo qAo i;have zz:(exV G Y (hd.tmod 3) r0 r0 r0 i).rat=0:=by
    rw[z4];have q:∀v:Bool,(bif v then r0.rat else 0)=0:=fun v=>by cases v<;>simp[zHw]
    simp only[vQ,q];grind
   rw[ex,em];exact⟨(j.sum k).1,qEl.2,qEl.1,z2,zz⟩
  have z0:ieq 0 0=true:=rfl;simp only[ze];rw[X,z0,H,J,w,yK (show G.length≤3000000000000 by omega)]
  exact y (x:=0) (A:=xpV h o t G P D S O U C st V Z F I L l Y) (by rw[w];exact K)
theorem qAh(h o t:List Int)(G:List Bd)(P D S:Int)(O U:List Nz)(C st V:Raw)(Z:Int)(F I:List (List Int))(L Y:Int){c1 c2 c3:Raw}(hd:Int){l:List Wt}(q:lmB c1)(y:lmB c2)(z:lmB c3)(B:l.length<9223372036854775807)(k:F.length<9223372036854775807)(A:I.length<9223372036854775807)(ha:G.length<9223372036854775807):((qC Tryz.prog (evD Tryz.prog (odT [(13,odR [tbT] (qHb lgT)),(38,odR [.list wT] (oLg lgZ)),(65,odR [.list zL] (oWd wdZ)),(16,oAw),(22,odR [tbT,nT,.list wT,nT] (oEx xpO xpV xpP)),(30,odR [.list bT,onT,nT,.int .u8] (oXt Kp.xR Kp.xE)),(31,odR [.list zL,.list zL] (qGz Kp.aR Kp.aE)),(24,odR [.list zL,.list zL] (qHa (zIz eqA))),(34,kcD (pRR fun a b=>some (adA a b,aeA a b)) true),(53,kcD (pII of6) true),(36,odR [.list bT] (qGy Kp.ckN)),(37,kcD (pB eqA) true)]) (LKl yQ xB) 60) 6 [.ag [.ls .a nT h,.ls .a nT o,.ls .a nT t,.ls .a bT G,vi P,vi D,vi S,.ls .a nzT O,.ls .a nzT U,.v (.bool C.1),.ls .a .lim C.2,.ls .a .lim C.3,.v (.bool st.1),.ls .a .lim st.2,.ls .a .lim st.3,.v (.bool V.1),.ls .a .lim V.2,.ls .a .lim V.3,vi Z,.ls .a (.list nT) F,.ls .a (.list nT) I,vi L,vi Y,.v (.bool c1.1),.ls .a .lim c1.2,.ls .a .lim c1.3,.v (.bool c2.1),.ls .a .lim c2.2,.ls .a .lim c2.3,.v (.bool c3.1),.ls .a .lim c3.2,.ls .a .lim c3.3,.v (.int .u8 hd)],.ls .a wT l] []).bind qF).run=yB true:=by
 rw[eKps,zO k,zO A];cases lgT h o t G P D S O U C st V Z F I with
 | true=>rfl
 | false=>
  show smW lgZ l _=_;simp only[smW];rw[zO B];cases e:lgZ l with
  | true=>rfl
  | false=>
   have K:(bif wdZ [toT c1,toT c2,toT c3]then yB true else kpL xpO xpV xpP Kp.xR Kp.xE Kp.aR Kp.aE (zIz eqA) adA aeA of6 Kp.ckN eqA yQ xB h o t G P D S O U C st V Z F I L Y c1 c2 c3 hd l)=yB true:=by
    cases w:wdZ [toT c1,toT c2,toT c3]with
    | true=>rfl
    | false=>exact qZk h o t G P D S O U C st V Z F I L Y hd l k ha (qZi q y z (zVq w (j:=0) (show 0<3 by decide)) (zVq w (j:=1) (show 1<3 by decide)) (zVq w (j:=2) (show 2<3 by decide)) ha)
   rw[K];cases ilt 12 (.ofNat l.length)<;>cases ilt 4096 (.ofNat l.length)<;>rfl
theorem kXt:∀az q nw,(oXt Kp.xR Kp.xE az).run=some (q,nw)→∀k,KnP Tryz.prog k 30 az q nw:=by
 intro az q nw j k;unfold oXt at j;split at j
 ·rename_i l w A E y B H z m3 n3 p hd;cases j;exact Kp.kSe (c:=⟨w,A,E⟩) (d:=⟨y,B,H⟩) (e:=⟨z,m3,n3⟩) k
 ·cases j
theorem kSad:∀az j nw,(qGz Kp.aR Kp.aE az).run=some (j,nw)→∀k,KnP Tryz.prog k 31 az j nw:=by
 intro az j nw e k;unfold qGz at e;split at e
 ·obtain⟨q,w⟩:=zR e;cases w;exact Kp.kSa (je q) k
 ·cases e
theorem kAck:∀az j nw,(qGy Kp.ckN az).run=some (j,nw)→∀k,KnP Tryz.prog k 36 az j nw:=by
 intro az j nw e k;unfold qGy at e;split at e
 ·rename_i l;cases e;exact yM (cz:=[.ls .a bT l]) yE Kp.num_od Kp.lt_ok (Kp.ck_pro l) rfl k
 ·cases e
theorem qOo(ha:KnP Tryz.prog 0 16 [] (.v (.bool true)) true):vD Tryz.prog (odT [(13,odR [tbT] (qHb lgT)),(38,odR [.list wT] (oLg lgZ)),(65,odR [.list zL] (oWd wdZ)),(16,oAw),(22,odR [tbT,nT,.list wT,nT] (oEx xpO xpV xpP)),(30,odR [.list bT,onT,nT,.int .u8] (oXt Kp.xR Kp.xE)),(31,odR [.list zL,.list zL] (qGz Kp.aR Kp.aE)),(24,odR [.list zL,.list zL] (qHa (zIz eqA))),(34,kcD (pRR fun a b=>some (adA a b,aeA a b)) true),(53,kcD (pII of6) true),(36,odR [.list bT] (qGy Kp.ckN)),(37,kcD (pB eqA) true)]):=
 zS (zS (zS (zS (zS (zS (zS (zS (zS (zS (zS (zS jZ fun az e nw h k=>kN kEq az e h k) (jI kAck)) fun az e nw h k=>kN kOf6 az e h k) fun az e nw h k=>kN qFw az e h k) (jI kEqs)) (jI kSad)) (jI kXt)) (jI kEx)) (fun az e nw h k=>by
  unfold oAw at h;split at h
  ·cases h;exact ha.clean rfl rfl k
  ·cases h)) (jI kWd)) (jI kLg)) (jI kLgT)
theorem qZx:wC Tryz.prog (LKl yQ xB):=jO zZ (kL yE (zS jZ fun az e nw h k=>kN qZc az e h k) zZ 60) qUj (qYd yQ xB)
abbrev tbN:Ty:= .prod mdT (.prod nT (.prod (.list (.list nT)) (.list (.list nT))))
abbrev zEd:Ty:= .prod tbN (.prod nT (.prod nT (.prod (.prod zL (.prod zL zL)) (.int .u8))))
theorem qNr(ha:KnP Tryz.prog 0 16 [] (.v (.bool true)) true)(k:zEd.den)(j:List Wt)(e:zDu zEd k)(w1:zDu (.list wT) j):KnP Tryz.prog 0 6 [.ag (qE .a zEd k),.ls .a wT j] (.v (.bool true)) true:=by
 obtain⟨⟨⟨h,o,t,G,P,D,S,O,U,⟨q,C,w⟩,⟨X,sl,sm⟩,⟨Q,R,W⟩⟩,Z,F,I⟩,L,Y,⟨⟨y,E,H⟩,⟨z,J,K⟩,⟨A,M,N⟩⟩,hd⟩:=k;have q1:F.length*Ty.bts (.list nT)≤140737488351232:=e.1.2.2.1.1;have q2:I.length*Ty.bts (.list nT)≤140737488351232:=e.1.2.2.2.1;have q3:j.length*Ty.bts wT≤140737488351232:=w1.1;have q4:G.length*Ty.bts bT≤140737488351232:=e.1.1.2.2.2.1.1;have B:1≤Ty.bts (.list nT):=by decide
 have k2:1≤Ty.bts wT:=by decide
 have k4:1≤Ty.bts bT:=by decide
 have r1:=qx (xx F.length B) q1;have r2:=qx (xx I.length B) q2;have r3:=qx (xx j.length k2) q3;have r4:=qx (xx G.length k4) q4;exact yM (cz:=[.ag (qE .a zEd (((h,o,t,G,P,D,S,O,U,(q,C,w),(X,sl,sm),(Q,R,W)),Z,F,I),L,Y,((y,E,H),(z,J,K),(A,M,N)),hd)),.ls .a wT j]) yE (qOo ha) qZx (qAh h o t G P D S O U ⟨q,C,w⟩ ⟨X,sl,sm⟩ ⟨Q,R,W⟩ Z F I L Y (c1:=⟨y,E,H⟩) (c2:=⟨z,J,K⟩) (c3:=⟨A,M,N⟩) hd (l:=j) ⟨e.2.2.2.1.1.2.1.2,e.2.2.2.1.1.2.2.2⟩ ⟨e.2.2.2.1.2.1.2.1.2,e.2.2.2.1.2.1.2.2.2⟩ ⟨e.2.2.2.1.2.2.2.1.2,e.2.2.2.1.2.2.2.2.2⟩ (by omega) (by omega) (by omega) (by omega)) rfl 0
theorem qNs(e:zEd.den)(j:List Wt)(k:zDu zEd e)(w1:zDu (.list wT) j):KnP Tryz.prog 0 6 [.ag (qE .a zEd e),.ls .a wT j] (.v (.bool true)) true:=qNr jEj e j k w1
end
end Go.Proofs.YtdfmdiakjdggbaaGreatDoor

import Derived.Test.YtdfmdiakjdggbaaGreatDoorBaseA
import Derived.Test.YtdfmdiakjdggbaaGreatDoorBaseB
import Derived.Test.YtdfmdiakjdggbaaGreatDoorBaseC
import Derived.Test.YtdfmdiakjdggbaaGreatDoorBaseD
import Derived.Test.YtdfmdiakjdggbaaGreatDoorBaseE
import Derived.Test.YtdfmdiakjdggbaaGreatDoorBaseF
import Derived.Test.YtdfmdiakjdggbaaGreatDoorBaseG
set_option linter.unusedVariables false
set_option linter.unusedSimpArgs false
set_option linter.unnecessarySimpa false
namespace Go.Proofs.YtdfmdiakjdggbaaGreatDoor
open Go Go.Gv Go.Ev Go.RowKit IntKind
noncomputable abbrev xW(l:List Wt)(i:Nat):Rt:=(wA l i).2
noncomputable def apG{α:Type}(l:List Rt)(K:Option α):Option α:=gd (Nat.ble (l.length+2) 4021071095712) (gd (Nat.beq (l.length+1) (l.length+1)) K)
noncomputable def beG{α:Type}(n:Nat)(l:List Rt)(K:Option α):Option α:=gd (Nat.beq (l.length+n) (l.length+n)) K
theorem qSr{α:Type}{l:List Rt}{K:Option α}(h:l.length≤100000):apG l K=K:=by
 unfold apG;rw[kZ (show l.length+2≤4021071095712 by omega),kG];rfl
theorem zSj{α:Type}{n:Nat}{l:List Rt}{K:Option α}:beG n l K=K:=by
 unfold beG;rw[kG];rfl
noncomputable def hdF(f:Nat→Rt)(w0:Rt):Nat→Rt
 | 0=>w0
 | j+1=>f (j+1)
noncomputable def tlF(f:Nat→Rt)(w0:Rt):Nat→List Rt
 | 0=>[]
 | j+1=>hdF f w0 j::tlF f w0 j
noncomputable abbrev hT(f:Nat→Rt)(w0:Rt)(m:Nat):List Rt:=hdF f w0 m::tlF f w0 m
theorem zGb(f:Nat→Rt)(w0:Rt):∀j,(tlF f w0 j).length=j
 | 0=>rfl
 | j+1=>by show(hdF f w0 j::tlF f w0 j).length=_;rw[List.length_cons,zGb f w0 j]
section
variable (okL:LF Bool)(lL:LF (List Rt))(lP:LF Nat)
noncomputable abbrev ptO(h o t:List Int)(G:List Bd)(P D S:Int)(O U:List Nz)(C st V:Raw)(Z:Int)(F I:List (List Int))(L Y:Int)(l:List Wt)(i:Nat):Bool:=okL h o t G P D S O U C st V Z F I L (wA l i).1.1 (wA l i).1.2.1 (wA l i).1.2.2 Y
noncomputable abbrev ptL(h o t:List Int)(G:List Bd)(P D S:Int)(O U:List Nz)(C st V:Raw)(Z:Int)(F I:List (List Int))(L Y:Int)(l:List Wt)(i:Nat):List Rt:=lL h o t G P D S O U C st V Z F I L (wA l i).1.1 (wA l i).1.2.1 (wA l i).1.2.2 Y
noncomputable abbrev ptP(h o t:List Int)(G:List Bd)(P D S:Int)(O U:List Nz)(C st V:Raw)(Z:Int)(F I:List (List Int))(L Y:Int)(l:List Wt)(i:Nat):Nat:=lP h o t G P D S O U C st V Z F I L (wA l i).1.1 (wA l i).1.2.1 (wA l i).1.2.2 Y
noncomputable abbrev lH(h o t:List Int)(G:List Bd)(P D S:Int)(O U:List Nz)(C st V:Raw)(Z:Int)(F I:List (List Int))(L Y:Int)(l:List Wt)(b i:Nat):Rt:=rI (ptL lL h o t G P D S O U C st V Z F I L Y l i) b
noncomputable def gEx(h o t:List Int)(G:List Bd)(P D S:Int)(O U:List Nz)(C st V:Raw)(Z:Int)(F I:List (List Int))(L Y:Int)(l:List Wt)(j:Nat)(_:Unit):Unit⊕Option Nat:=bif ptO okL h o t G P D S O U C st V Z F I L Y l (j+1)then .inl ()else .inr (some (ptP lP h o t G P D S O U C st V Z F I L Y l (j+1)+1))
noncomputable def xpF(h o t:List Int)(G:List Bd)(P D S:Int)(O U:List Nz)(C st V:Raw)(Z:Int)(F I:List (List Int))(L Y:Int)(l:List Wt):Option Nat:=fol (gEx okL lP h o t G P D S O U C st V Z F I L Y l) (fun _=>none) (l.length-1) 0 ()
end
noncomputable def isO:Option Nat→Bool
 | none=>true
 | some _=>false
noncomputable def eO:Option Nat→Nat
 | none=>0
 | some e=>e
noncomputable abbrev zPy:T:= .v (.slice none 0 0)
abbrev Cl:=Rt×List Rt
noncomputable def qJm{α:Type}:List Cl→Option α→Option α
 | [],K=>K
 | c::cs,K=>apG c.2 (qJm cs K)
noncomputable def qBy{α:Type}(n:Nat):List Cl→Option α→Option α
 | [],K=>K
 | c::cs,K=>beG n c.2 (qBy n cs K)
theorem zLt{α:Type}{n:Nat}{K:Option α}:∀{cs:List Cl},qBy n cs K=K
 | []=>rfl
 | c::cs=>by show beG n c.2 (qBy n cs K)=K;rw[zLt,zSj]
theorem zVb{α:Type}{K:Option α}:∀{cs:List Cl},(∀c∈cs,c.2.length≤100000)→qJm cs K=K
 | [],_=>rfl
 | c::cs,h=>by show apG c.2 (qJm cs K)=K;rw[zVb fun d hd=>h d (List.mem_cons_of_mem _ hd),qSr (h c List.mem_cons_self)]
noncomputable def rwC:List Cl→List T
 | []=>[]
 | c::cs=> .ls .a zL (c.1::c.2)::rwC cs
noncomputable def iEx(L Y:Int)(l:List Wt)(n i:Nat)(w:Cl)(cs:List Cl)(h o t:List Int)(G:List Bd)(P D S:Int)(O U:List Nz)(C st V:Raw)(Z:Int)(F I:List (List Int)):Hs:=⟨[vi L,vi Y,zPy,.ls .a wT l,vn n,vn i],rwC (w::cs),[tbC h o t G P D S O U C st V Z F I,[],[],[],[]]⟩
section
variable (okL:LF Bool)(lL:LF (List Rt))(lP:LF Nat)
noncomputable def psC(h o t:List Int)(G:List Bd)(P D S:Int)(O U:List Nz)(C st V:Raw)(Z:Int)(F I:List (List Int))(L Y:Int)(l:List Wt)(i:Nat):Nat→List Cl→List Cl
 | _,[]=>[]
 | b,c::cs=>(lH lL h o t G P D S O U C st V Z F I L Y l b i,c.1::c.2)::psC h o t G P D S O U C st V Z F I L Y l i (b+1) cs
noncomputable def dD(k:Nat)(h o t:List Int)(G:List Bd)(P D S:Int)(O U:List Nz)(C st V:Raw)(Z:Int)(F I:List (List Int))(L Y:Int)(l:List Wt)(n i:Nat)(w:Cl)(cs:List Cl):Option (Hs⊕(Ex×Hs)):=bif ilt (.ofNat i) (.ofNat n)then gd (Nat.blt i l.length) (gd (Nat.blt F.length 9223372036854775807) (bif ptO okL h o t G P D S O U C st V Z F I L Y l i then gd (Nat.beq G.length k) (qJm (w::cs) (gd (inW (.ofNat (i+1))) (qBy 2 (w::cs) (some (.inl (iEx L Y l n (i+1) (xW l i,w.1::w.2) (psC lL h o t G P D S O U C st V Z F I L Y l i 0 cs) h o t G P D S O U C st V Z F I))))))else some (.inr (.r,⟨[zPy,vn (ptP lP h o t G P D S O U C st V Z F I L Y l i+1)],[],[[],[],[],[],[]]⟩))))else qBy 1 (w::cs) (some (.inr (.x 0,⟨[zPy],rwC (w::cs),[[],[],[],[],[]]⟩)))
noncomputable def coF(h o t:List Int)(G:List Bd)(P D S:Int)(O U:List Nz)(C st V:Raw)(Z:Int)(F I:List (List Int))(L Y:Int)(l:List Wt)(j:Nat):Nat→List Rt→List Cl
 | _,[]=>[]
 | b,c::cs=>(hdF (lH lL h o t G P D S O U C st V Z F I L Y l b) c j,tlF (lH lL h o t G P D S O U C st V Z F I L Y l b) c j)::coF h o t G P D S O U C st V Z F I L Y l j (b+1) cs
theorem qQc(h o t:List Int)(G:List Bd)(P D S:Int)(O U:List Nz)(C st V:Raw)(Z:Int)(F I:List (List Int))(L Y:Int)(l:List Wt)(j:Nat):∀(b:Nat)(cs:List Rt),psC lL h o t G P D S O U C st V Z F I L Y l (j+1) b (coF lL h o t G P D S O U C st V Z F I L Y l j b cs)=coF lL h o t G P D S O U C st V Z F I L Y l (j+1) b cs
 | _,[]=>rfl
 | b,c::cs=>by
  show _::psC lL h o t G P D S O U C st V Z F I L Y l (j+1) (b+1) (coF lL h o t G P D S O U C st V Z F I L Y l j (b+1) cs)=_;rw[qQc h o t G P D S O U C st V Z F I L Y l j (b+1) cs];rfl
theorem zSr(h o t:List Int)(G:List Bd)(P D S:Int)(O U:List Nz)(C st V:Raw)(Z:Int)(F I:List (List Int))(L Y:Int)(l:List Wt)(j:Nat):∀(b:Nat)(cs:List Rt),(coF lL h o t G P D S O U C st V Z F I L Y l j b cs).length=cs.length∧∀c∈coF lL h o t G P D S O U C st V Z F I L Y l j b cs,c.2.length=j
 | _,[]=>⟨rfl,fun c k=>(by cases k)⟩
 | b,c::cs=>by
  obtain⟨e,f⟩:=zSr h o t G P D S O U C st V Z F I L Y l j (b+1) cs;refine⟨congrArg (·+1) e,fun d hd=>?_⟩;rcases List.mem_cons.1 hd with rfl | hd
  ·exact zGb _ _ j
  ·exact f d hd
theorem qQd(h o t:List Int)(G:List Bd)(P D S:Int)(O U:List Nz)(C st V:Raw)(Z:Int)(F I:List (List Int))(L Y:Int)(l:List Wt):∀(b:Nat)(cs:List Rt),rwC (coF lL h o t G P D S O U C st V Z F I L Y l 0 b cs)=cs.map fun c=> .ls .a zL [c]
 | _,[]=>rfl
 | b,c::cs=>congrArg (T.ls .a zL [c]::·) (qQd h o t G P D S O U C st V Z F I L Y l (b+1) cs)
noncomputable def zXc(h o t:List Int)(G:List Bd)(P D S:Int)(O U:List Nz)(C st V:Raw)(Z:Int)(F I:List (List Int))(L Y:Int)(l:List Wt)(w0:Rt)(cs:List Rt):Option Nat→Ex×Hs
 | none=>(.x 0,⟨[zPy],rwC ((hdF (xW l) w0 (l.length-1),tlF (xW l) w0 (l.length-1))::coF lL h o t G P D S O U C st V Z F I L Y l (l.length-1) 0 cs),[[],[],[],[],[]]⟩)
 | some e=>(.r,⟨[zPy,vn e],[],[[],[],[],[],[]]⟩)
noncomputable def qWt(h o t:List Int)(G:List Bd)(P D S:Int)(O U:List Nz)(C st V:Raw)(Z:Int)(F I:List (List Int))(L Y:Int)(l:List Wt)(w0:Rt)(cs:List Rt)(j:Nat):Hs:=iEx L Y l l.length (j+1) (hdF (xW l) w0 j,tlF (xW l) w0 j) (coF lL h o t G P D S O U C st V Z F I L Y l j 0 cs) h o t G P D S O U C st V Z F I
theorem lpEx{e:Hs→Option (Hs⊕(Ex×Hs))}{k:Nat}(h o t:List Int)(G:List Bd)(P D S:Int)(O U:List Nz)(C st V:Raw)(Z:Int)(F I:List (List Int))(L Y:Int)(l:List Wt)(w0:Rt)(cs:List Rt)(H:∀i w ds,ds.length=k→e (iEx L Y l l.length i w ds h o t G P D S O U C st V Z F I)=dD okL lL lP k h o t G P D S O U C st V Z F I L Y l l.length i w ds)(f:cs.length=k)(A:0<l.length)(B:l.length≤100000)(hr:F.length<9223372036854775807)(ha:G.length=k):lpF e (l.length-1) (qWt lL h o t G P D S O U C st V Z F I L Y l w0 cs 0)=some (zXc lL h o t G P D S O U C st V Z F I L Y l w0 cs (xpF okL lP h o t G P D S O U C st V Z F I L Y l)):=
 jP (st:=e) (iv:=fun j(_:Unit)=>qWt lL h o t G P D S O U C st V Z F I L Y l w0 cs j) (g:=gEx okL lP h o t G P D S O U C st V Z F I L Y l) (d:=fun _=>none) (out:=zXc lL h o t G P D S O U C st V Z F I L Y l w0 cs) (n:=l.length-1) (fun _ _=>True)
  (fun j _ E _=>by
   obtain⟨y,z⟩:=zSr lL h o t G P D S O U C st V Z F I L Y l j 0 cs;refine(H _ _ _ (y.trans f)).trans ?_;unfold dD gEx;have q:ilt (.ofNat (j+1)) (.ofNat l.length)=true:=zP (show j+1<l.length by omega)
   rw[q,ze,zP (show j+1<l.length by omega),zP hr,ha]
   cases ptO okL h o t G P D S O U C st V Z F I L Y l (j+1)with
   | false=>rfl
   | true=>
    rw[ze,zVb (fun c f=>by
     rcases List.mem_cons.1 f with rfl | f
     ·show(tlF _ _ j).length≤_;rw[zGb];omega
     ·rw[z c f];omega),yP (show j+1+1<9223372036854775808 by omega)]
    simp only[gd,ze,kG];rw[zLt,qQc];rfl)
  (fun _ _ _ _ _ _=>trivial)
  (fun _ _=>by
   refine(H _ _ _ ((zSr lL h o t G P D S O U C st V Z F I L Y l (l.length-1) 0 cs).1.trans f)).trans ?_;unfold dD;have q:ilt (.ofNat (l.length-1+1)) (.ofNat l.length)=false:=yL (show l.length≤l.length-1+1 by omega)
   rw[q,zf,zLt];rfl) (l.length-1) 0 () (by omega) trivial
noncomputable def hdS:List T→Option (List Rt)
 | []=>some []
 | .ls .a (.prod .bool (.prod (.list .lim) (.list .lim))) [c]::r=>match hdS r with
  | some cs=>some (c::cs)
  | none=>none
 | _=>none
theorem qEf:∀{r:List T}{cs:List Rt},hdS r=some cs→r=cs.map fun c=> .ls .a zL [c]
 | [],cs,h=>by cases h;rfl
 | x::r,cs,h=>by
  unfold hdS at h;split at h
  ·rename_i f;cases f
  ·rename_i c r' f;cases f;cases e:hdS r with
   | none=>rw[e]at h;cases h
   | some ds=>rw[e]at h;cases h;rw[qEf e];rfl
  ·cases h
noncomputable def qVy(k:Nat)(L Y:Int)(l:List Wt)(n:Nat)(w0:Rt)(cs:List Rt):List T→DT (Ex×Hs)
 | [.ls .a (.int .i64) h,.ls .a (.int .i64) o,.ls .a (.int .i64) t,.ls .a (.prod (.int .u8) (.prod (.int .i64) (.int .i64))) G,.v (.int .i64 P),.v (.int .i64 D),.v (.int .i64 S),.ls .a (.prod (.int .i64) zL) O,.ls .a (.prod (.int .i64) zL) U,.v (.bool e),.ls .a .lim C,.ls .a .lim am,.v (.bool w),.ls .a .lim sl,.ls .a .lim sm,.v (.bool f),.ls .a .lim j,.ls .a .lim q,.v (.int .i64 Z),.ls .a (.list (.int .i64)) F,.ls .a (.list (.int .i64)) I]=>grd (Nat.beq n l.length&&(Nat.beq cs.length k&&(Nat.blt 0 l.length&&(Nat.ble l.length 100000&&(Nat.blt F.length 9223372036854775807&&Nat.beq G.length k))))) (.ite (isO (xpF okL lP h o t G P D S O U ⟨e,C,am⟩ ⟨w,sl,sm⟩ ⟨f,j,q⟩ Z F I L Y l)) (.ret (zXc lL h o t G P D S O U ⟨e,C,am⟩ ⟨w,sl,sm⟩ ⟨f,j,q⟩ Z F I L Y l w0 cs none)) (.ret (zXc lL h o t G P D S O U ⟨e,C,am⟩ ⟨w,sl,sm⟩ ⟨f,j,q⟩ Z F I L Y l w0 cs (some (eO (xpF okL lP h o t G P D S O U ⟨e,C,am⟩ ⟨w,sl,sm⟩ ⟨f,j,q⟩ Z F I L Y l))))))
 | _=> .no
noncomputable def hEx(k:Nat):Hs→DT (Ex×Hs)
 | ⟨[.v (.int .i64 L),.v (.int .i64 Y),.v (.slice none 0 0),.ls .a (.prod (.prod (.int .i64) (.prod (.int .i64) (.int .i64))) zL) l,.v (.int .i64 (.ofNat n)),.v (.int .i64 (.ofNat 1))],.ls .a (.prod .bool (.prod (.list .lim) (.list .lim))) [w0]::r,[ks,[],[],[],[]]⟩=>match hdS r with
  | some cs=>qVy okL lL lP k L Y l n w0 cs ks
  | none=> .no
 | _=> .no
theorem qLd{B:Hs→Option (Hs⊕(Ex×Hs))}{k:Nat}(H:∀(h o t:List Int)(G:List Bd)(P D S:Int)(O U:List Nz)(C st V:Raw)(Z:Int)(F I:List (List Int))(L Y:Int)(l:List Wt)(i:Nat)(w:Cl)(ds:List Cl),ds.length=k→B (iEx L Y l l.length i w ds h o t G P D S O U C st V Z F I)=dD okL lL lP k h o t G P D S O U C st V Z F I L Y l l.length i w ds){L Y:Int}{l:List Wt}{n:Nat}{w0:Rt}{cs:List Rt}{ks:List T}:∀y,(qVy okL lL lP k L Y l n w0 cs ks).run=some y→∃j,It B j ⟨[vi L,vi Y,zPy,.ls .a wT l,vn n,vn 1],.ls .a zL [w0]::cs.map (fun c=> .ls .a zL [c]),[ks,[],[],[],[]]⟩ y:=fun y hh=>by
 unfold qVy at hh;split at hh
 ·rename_i h o t G P D S O U e C am A sl sm f q z Z F I;obtain⟨E,J⟩:=zS hh;simp only[zd,Nat.ble_eq]at E;obtain⟨g1,R,K,M,N,Q⟩:=E;obtain rfl:=zY g1;have:=kT _ _ (lpEx okL lL lP h o t G P D S O U ⟨e,C,am⟩ ⟨A,sl,sm⟩ ⟨f,q,z⟩ Z F I L Y l w0 cs (H h o t G P D S O U ⟨e,C,am⟩ ⟨A,sl,sm⟩ ⟨f,q,z⟩ Z F I L Y l) (zY R) (jC K) M (jC N) (zY Q));rw[show qWt lL h o t G P D S O U ⟨e,C,am⟩ ⟨A,sl,sm⟩ ⟨f,q,z⟩ Z F I L Y l w0 cs 0=⟨[vi L,vi Y,zPy,.ls .a wT l,vn l.length,vn 1],.ls .a zL [w0]::cs.map (fun c=> .ls .a zL [c]),[tbC h o t G P D S O U ⟨e,C,am⟩ ⟨A,sl,sm⟩ ⟨f,q,z⟩ Z F I,[],[],[],[]]⟩by rw[←qQd lL h o t G P D S O U ⟨e,C,am⟩ ⟨A,sl,sm⟩ ⟨f,q,z⟩ Z F I L Y l 0 cs];rfl]at this
  cases hb:xpF okL lP h o t G P D S O U ⟨e,C,am⟩ ⟨A,sl,sm⟩ ⟨f,q,z⟩ Z F I L Y l<;>rw[hb]at J this<;>cases J<;>exact this
 ·cases hh
theorem zCp{f:Hs→Option (Hs⊕(Ex×Hs))}(k:Nat)(H:∀(h o t:List Int)(G:List Bd)(P D S:Int)(O U:List Nz)(C st V:Raw)(Z:Int)(F I:List (List Int))(L Y:Int)(l:List Wt)(i:Nat)(w:Cl)(ds:List Cl),ds.length=k→f (iEx L Y l l.length i w ds h o t G P D S O U C st V Z F I)=dD okL lL lP k h o t G P D S O U C st V Z F I L Y l l.length i w ds):∀q y,(hEx okL lL lP k q).run=some y→∃n,It f n q y:=fun q y hh=>by
 unfold hEx at hh;split at hh
 ·rename_i L Y l n w0 r ks;cases e:hdS r with
  | none=>rw[e]at hh;cases hh
  | some cs=>
   rw[e]at hh;rw[qEf e];exact qLd okL lL lP H y hh
 ·cases hh
end
noncomputable def Lex1:Lp:=⟨5,
 ⟨[.u,.h,.u,.h,.t (.op 0 0)]++(us' 3++([.h,.u,.u,.a .a zL 28,.t (.os 4 0 1 1)]++(us' 15++([.h,.h,.h]++(us' 72))))),[.r [.h,.h,.h,.h,.h,.h,.h,.h,.h,.h,.h,.h,.h,.h,.h,.h,.h,.h,.h,.h,.h] 33,.g,.g,.g,.r [.a .a zL 28] 45]⟩,
 ⟨us' 8++([.h,.u,.u,.a .a zL 28,.t (.os 4 0 1 1)]++(us' 90)),[.g,.g,.g,.g,.r [.a .a zL 28] 45]⟩,
 ⟨us' 8++([.h,.h]++(us' 93)),[.g,.g,.g,.g,.g]⟩⟩
noncomputable abbrev zRv:Code:=lpc Tryz.prog 22 [false,true,false,true,true,true,true]
theorem qJb:cAt Tryz.prog 22 [false,true,false,true,true,true,true]=some (.loop zRv):=by kernel_rfl
noncomputable abbrev qAs(OD:Od)(e:Lo):Hs→Option (Hs⊕(Ex×Hs)):=Lex1.stp (evD Tryz.prog OD e 60) 22 [false,true,false,true,true,true,true] zRv
theorem sEx1(bc:List Wt→Int)(okL:LF Bool)(lL:LF (List Rt))(lP:LF Nat)(okD:List Rt→List Rt→Bool)(dR:List Rt→List Rt→Raw)(dP:List Rt→List Rt→Nat)(L Y:Int)(l:List Wt)(n i:Nat)(w e:Cl)(h o t:List Int)(G:List Bd)(P D S:Int)(O U:List Nz)(C st V:Raw)(Z:Int)(F I:List (List Int)):qAs (odT [(46,odR [.list wT] (oBc bc)),(32,odR [tbT,nT,nT,nT,nT,nT] (wZ 1 okL lL lP)),(70,odR [.list zL,.list zL] (qF okD dR dP))]) (loT []) (iEx L Y l n i w [e] h o t G P D S O U C st V Z F I)=dD okL lL lP 1 h o t G P D S O U C st V Z F I L Y l n i w [e]:=by kernel_rfl
section
variable (bc:List Wt→Int)(okL:LF Bool)(lL:LF (List Rt))(lP:LF Nat)(okD:List Rt→List Rt→Bool)(dR:List Rt→List Rt→Raw)(dP:List Rt→List Rt→Nat)
theorem qLe:∀q y,(hEx okL lL lP 1 q).run=some y→∃n,It (qAs (odT [(46,odR [.list wT] (oBc bc)),(32,odR [tbT,nT,nT,nT,nT,nT] (wZ 1 okL lL lP)),(70,odR [.list zL,.list zL] (qF okD dR dP))]) (loT [])) n q y:=zCp okL lL lP 1 fun h o t G P D S O U C st V Z F I L Y l i w ds H=>match ds,H with
 | [e],_=>sEx1 bc okL lL lP okD dR dP L Y l l.length i w e h o t G P D S O U C st V Z F I
noncomputable abbrev LEx1:Lo:=loT [(22,[false,true,false,true,true,true,true],Lex1.rowP (evD Tryz.prog (odT [(46,odR [.list wT] (oBc bc)),(32,odR [tbT,nT,nT,nT,nT,nT] (wZ 1 okL lL lP)),(70,odR [.list zL,.list zL] (qF okD dR dP))]) (loT []) 60) 22 [false,true,false,true,true,true,true] zRv (hEx okL lL lP 1))]
end
noncomputable def Lex2:Lp:=⟨5,
 ⟨[.u,.h,.u,.h,.t (.op 0 0)]++(us' 3++([.h,.u,.u,.a .a zL 28,.t (.os 4 0 2 2)]++(us' 15++([.h,.h,.h]++(us' 72))))),[.r [.h,.h,.h,.h,.h,.h,.h,.h,.h,.h,.h,.h,.h,.h,.h,.h,.h,.h,.h,.h,.h] 33,.g,.g,.g,.r [.a .a zL 28,.a .a zL 28] 45]⟩,
 ⟨us' 8++([.h,.u,.u,.a .a zL 28,.t (.os 4 0 2 2)]++(us' 90)),[.g,.g,.g,.g,.r [.a .a zL 28,.a .a zL 28] 45]⟩,
 ⟨us' 8++([.h,.h]++(us' 93)),[.g,.g,.g,.g,.g]⟩⟩
noncomputable abbrev zRw:Code:=lpc Tryz.prog 22 [false,true,false,true,true,true,true]
theorem qJc:cAt Tryz.prog 22 [false,true,false,true,true,true,true]=some (.loop zRw):=by kernel_rfl
noncomputable abbrev qAt(OD:Od)(e:Lo):Hs→Option (Hs⊕(Ex×Hs)):=Lex2.stp (evD Tryz.prog OD e 60) 22 [false,true,false,true,true,true,true] zRw
theorem sEx2(bc:List Wt→Int)(okL:LF Bool)(lL:LF (List Rt))(lP:LF Nat)(okD:List Rt→List Rt→Bool)(dR:List Rt→List Rt→Raw)(dP:List Rt→List Rt→Nat)(L Y:Int)(l:List Wt)(n i:Nat)(w e f:Cl)(h o t:List Int)(G:List Bd)(P D S:Int)(O U:List Nz)(C st V:Raw)(Z:Int)(F I:List (List Int)):qAt (odT [(46,odR [.list wT] (oBc bc)),(32,odR [tbT,nT,nT,nT,nT,nT] (wZ 2 okL lL lP)),(70,odR [.list zL,.list zL] (qF okD dR dP))]) (loT []) (iEx L Y l n i w [e,f] h o t G P D S O U C st V Z F I)=dD okL lL lP 2 h o t G P D S O U C st V Z F I L Y l n i w [e,f]:=by kernel_rfl
section
variable (bc:List Wt→Int)(okL:LF Bool)(lL:LF (List Rt))(lP:LF Nat)(okD:List Rt→List Rt→Bool)(dR:List Rt→List Rt→Raw)(dP:List Rt→List Rt→Nat)
theorem qLf:∀q y,(hEx okL lL lP 2 q).run=some y→∃n,It (qAt (odT [(46,odR [.list wT] (oBc bc)),(32,odR [tbT,nT,nT,nT,nT,nT] (wZ 2 okL lL lP)),(70,odR [.list zL,.list zL] (qF okD dR dP))]) (loT [])) n q y:=zCp okL lL lP 2 fun h o t G P D S O U C st V Z F I L Y l i w ds H=>match ds,H with
 | [e,f],_=>sEx2 bc okL lL lP okD dR dP L Y l l.length i w e f h o t G P D S O U C st V Z F I
noncomputable abbrev LEx2:Lo:=loT [(22,[false,true,false,true,true,true,true],Lex2.rowP (evD Tryz.prog (odT [(46,odR [.list wT] (oBc bc)),(32,odR [tbT,nT,nT,nT,nT,nT] (wZ 2 okL lL lP)),(70,odR [.list zL,.list zL] (qF okD dR dP))]) (loT []) 60) 22 [false,true,false,true,true,true,true] zRw (hEx okL lL lP 2))]
end
noncomputable def Lex3:Lp:=⟨5,
 ⟨[.u,.h,.u,.h,.t (.op 0 0)]++(us' 3++([.h,.u,.u,.a .a zL 28,.t (.os 4 0 3 3)]++(us' 15++([.h,.h,.h]++(us' 72))))),[.r [.h,.h,.h,.h,.h,.h,.h,.h,.h,.h,.h,.h,.h,.h,.h,.h,.h,.h,.h,.h,.h] 33,.g,.g,.g,.r [.a .a zL 28,.a .a zL 28,.a .a zL 28] 45]⟩,
 ⟨us' 8++([.h,.u,.u,.a .a zL 28,.t (.os 4 0 3 3)]++(us' 90)),[.g,.g,.g,.g,.r [.a .a zL 28,.a .a zL 28,.a .a zL 28] 45]⟩,
 ⟨us' 8++([.h,.h]++(us' 93)),[.g,.g,.g,.g,.g]⟩⟩
noncomputable abbrev zRx:Code:=lpc Tryz.prog 22 [false,true,false,true,true,true,true]
theorem qJd:cAt Tryz.prog 22 [false,true,false,true,true,true,true]=some (.loop zRx):=by kernel_rfl
noncomputable abbrev qAu(OD:Od)(e:Lo):Hs→Option (Hs⊕(Ex×Hs)):=Lex3.stp (evD Tryz.prog OD e 60) 22 [false,true,false,true,true,true,true] zRx
theorem sEx3(bc:List Wt→Int)(okL:LF Bool)(lL:LF (List Rt))(lP:LF Nat)(okD:List Rt→List Rt→Bool)(dR:List Rt→List Rt→Raw)(dP:List Rt→List Rt→Nat)(L Y:Int)(l:List Wt)(n i:Nat)(w e f j:Cl)(h o t:List Int)(G:List Bd)(P D S:Int)(O U:List Nz)(C st V:Raw)(Z:Int)(F I:List (List Int)):qAu (odT [(46,odR [.list wT] (oBc bc)),(32,odR [tbT,nT,nT,nT,nT,nT] (wZ 3 okL lL lP)),(70,odR [.list zL,.list zL] (qF okD dR dP))]) (loT []) (iEx L Y l n i w [e,f,j] h o t G P D S O U C st V Z F I)=dD okL lL lP 3 h o t G P D S O U C st V Z F I L Y l n i w [e,f,j]:=by kernel_rfl
section
variable (bc:List Wt→Int)(okL:LF Bool)(lL:LF (List Rt))(lP:LF Nat)(okD:List Rt→List Rt→Bool)(dR:List Rt→List Rt→Raw)(dP:List Rt→List Rt→Nat)
theorem qLg:∀q y,(hEx okL lL lP 3 q).run=some y→∃n,It (qAu (odT [(46,odR [.list wT] (oBc bc)),(32,odR [tbT,nT,nT,nT,nT,nT] (wZ 3 okL lL lP)),(70,odR [.list zL,.list zL] (qF okD dR dP))]) (loT [])) n q y:=zCp okL lL lP 3 fun h o t G P D S O U C st V Z F I L Y l i w ds H=>match ds,H with
 | [e,f,j],_=>sEx3 bc okL lL lP okD dR dP L Y l l.length i w e f j h o t G P D S O U C st V Z F I
noncomputable abbrev LEx3:Lo:=loT [(22,[false,true,false,true,true,true,true],Lex3.rowP (evD Tryz.prog (odT [(46,odR [.list wT] (oBc bc)),(32,odR [tbT,nT,nT,nT,nT,nT] (wZ 3 okL lL lP)),(70,odR [.list zL,.list zL] (qF okD dR dP))]) (loT []) 60) 22 [false,true,false,true,true,true,true] zRx (hEx okL lL lP 3))]
end
noncomputable def Lex4:Lp:=⟨5,
 ⟨[.u,.h,.u,.h,.t (.op 0 0)]++(us' 3++([.h,.u,.u,.a .a zL 28,.t (.os 4 0 4 4)]++(us' 15++([.h,.h,.h]++(us' 72))))),[.r [.h,.h,.h,.h,.h,.h,.h,.h,.h,.h,.h,.h,.h,.h,.h,.h,.h,.h,.h,.h,.h] 33,.g,.g,.g,.r [.a .a zL 28,.a .a zL 28,.a .a zL 28,.a .a zL 28] 45]⟩,
 ⟨us' 8++([.h,.u,.u,.a .a zL 28,.t (.os 4 0 4 4)]++(us' 90)),[.g,.g,.g,.g,.r [.a .a zL 28,.a .a zL 28,.a .a zL 28,.a .a zL 28] 45]⟩,
 ⟨us' 8++([.h,.h]++(us' 93)),[.g,.g,.g,.g,.g]⟩⟩
noncomputable abbrev zRy:Code:=lpc Tryz.prog 22 [false,true,false,true,true,true,true]
theorem qJe:cAt Tryz.prog 22 [false,true,false,true,true,true,true]=some (.loop zRy):=by kernel_rfl
noncomputable abbrev qAv(OD:Od)(e:Lo):Hs→Option (Hs⊕(Ex×Hs)):=Lex4.stp (evD Tryz.prog OD e 60) 22 [false,true,false,true,true,true,true] zRy
theorem sEx4(bc:List Wt→Int)(okL:LF Bool)(lL:LF (List Rt))(lP:LF Nat)(okD:List Rt→List Rt→Bool)(dR:List Rt→List Rt→Raw)(dP:List Rt→List Rt→Nat)(L Y:Int)(l:List Wt)(n i:Nat)(w e f j k:Cl)(h o t:List Int)(G:List Bd)(P D S:Int)(O U:List Nz)(C st V:Raw)(Z:Int)(F I:List (List Int)):qAv (odT [(46,odR [.list wT] (oBc bc)),(32,odR [tbT,nT,nT,nT,nT,nT] (wZ 4 okL lL lP)),(70,odR [.list zL,.list zL] (qF okD dR dP))]) (loT []) (iEx L Y l n i w [e,f,j,k] h o t G P D S O U C st V Z F I)=dD okL lL lP 4 h o t G P D S O U C st V Z F I L Y l n i w [e,f,j,k]:=by kernel_rfl
section
variable (bc:List Wt→Int)(okL:LF Bool)(lL:LF (List Rt))(lP:LF Nat)(okD:List Rt→List Rt→Bool)(dR:List Rt→List Rt→Raw)(dP:List Rt→List Rt→Nat)
theorem qLh:∀q y,(hEx okL lL lP 4 q).run=some y→∃n,It (qAv (odT [(46,odR [.list wT] (oBc bc)),(32,odR [tbT,nT,nT,nT,nT,nT] (wZ 4 okL lL lP)),(70,odR [.list zL,.list zL] (qF okD dR dP))]) (loT [])) n q y:=zCp okL lL lP 4 fun h o t G P D S O U C st V Z F I L Y l i w ds H=>match ds,H with
 | [e,f,j,k],_=>sEx4 bc okL lL lP okD dR dP L Y l l.length i w e f j k h o t G P D S O U C st V Z F I
noncomputable abbrev LEx4:Lo:=loT [(22,[false,true,false,true,true,true,true],Lex4.rowP (evD Tryz.prog (odT [(46,odR [.list wT] (oBc bc)),(32,odR [tbT,nT,nT,nT,nT,nT] (wZ 4 okL lL lP)),(70,odR [.list zL,.list zL] (qF okD dR dP))]) (loT []) 60) 22 [false,true,false,true,true,true,true] zRy (hEx okL lL lP 4))]
end
noncomputable def Lex5:Lp:=⟨5,
 ⟨[.u,.h,.u,.h,.t (.op 0 0)]++(us' 3++([.h,.u,.u,.a .a zL 28,.t (.os 4 0 5 5)]++(us' 15++([.h,.h,.h]++(us' 72))))),[.r [.h,.h,.h,.h,.h,.h,.h,.h,.h,.h,.h,.h,.h,.h,.h,.h,.h,.h,.h,.h,.h] 33,.g,.g,.g,.r [.a .a zL 28,.a .a zL 28,.a .a zL 28,.a .a zL 28,.a .a zL 28] 45]⟩,
 ⟨us' 8++([.h,.u,.u,.a .a zL 28,.t (.os 4 0 5 5)]++(us' 90)),[.g,.g,.g,.g,.r [.a .a zL 28,.a .a zL 28,.a .a zL 28,.a .a zL 28,.a .a zL 28] 45]⟩,
 ⟨us' 8++([.h,.h]++(us' 93)),[.g,.g,.g,.g,.g]⟩⟩
noncomputable abbrev zRz:Code:=lpc Tryz.prog 22 [false,true,false,true,true,true,true]
theorem qJf:cAt Tryz.prog 22 [false,true,false,true,true,true,true]=some (.loop zRz):=by kernel_rfl
noncomputable abbrev qAw(OD:Od)(e:Lo):Hs→Option (Hs⊕(Ex×Hs)):=Lex5.stp (evD Tryz.prog OD e 60) 22 [false,true,false,true,true,true,true] zRz
theorem sEx5(bc:List Wt→Int)(okL:LF Bool)(lL:LF (List Rt))(lP:LF Nat)(okD:List Rt→List Rt→Bool)(dR:List Rt→List Rt→Raw)(dP:List Rt→List Rt→Nat)(L Y:Int)(l:List Wt)(n i:Nat)(w e f j k q:Cl)(h o t:List Int)(G:List Bd)(P D S:Int)(O U:List Nz)(C st V:Raw)(Z:Int)(F I:List (List Int)):qAw (odT [(46,odR [.list wT] (oBc bc)),(32,odR [tbT,nT,nT,nT,nT,nT] (wZ 5 okL lL lP)),(70,odR [.list zL,.list zL] (qF okD dR dP))]) (loT []) (iEx L Y l n i w [e,f,j,k,q] h o t G P D S O U C st V Z F I)=dD okL lL lP 5 h o t G P D S O U C st V Z F I L Y l n i w [e,f,j,k,q]:=by kernel_rfl
section
variable (bc:List Wt→Int)(okL:LF Bool)(lL:LF (List Rt))(lP:LF Nat)(okD:List Rt→List Rt→Bool)(dR:List Rt→List Rt→Raw)(dP:List Rt→List Rt→Nat)
theorem qLi:∀q y,(hEx okL lL lP 5 q).run=some y→∃n,It (qAw (odT [(46,odR [.list wT] (oBc bc)),(32,odR [tbT,nT,nT,nT,nT,nT] (wZ 5 okL lL lP)),(70,odR [.list zL,.list zL] (qF okD dR dP))]) (loT [])) n q y:=zCp okL lL lP 5 fun h o t G P D S O U C st V Z F I L Y l i w ds H=>match ds,H with
 | [e,f,j,k,z],_=>sEx5 bc okL lL lP okD dR dP L Y l l.length i w e f j k z h o t G P D S O U C st V Z F I
noncomputable abbrev LEx5:Lo:=loT [(22,[false,true,false,true,true,true,true],Lex5.rowP (evD Tryz.prog (odT [(46,odR [.list wT] (oBc bc)),(32,odR [tbT,nT,nT,nT,nT,nT] (wZ 5 okL lL lP)),(70,odR [.list zL,.list zL] (qF okD dR dP))]) (loT []) 60) 22 [false,true,false,true,true,true,true] zRz (hEx okL lL lP 5))]
end
noncomputable def Lex6:Lp:=⟨5,
 ⟨[.u,.h,.u,.h,.t (.op 0 0)]++(us' 3++([.h,.u,.u,.a .a zL 28,.t (.os 4 0 6 6)]++(us' 15++([.h,.h,.h]++(us' 72))))),[.r [.h,.h,.h,.h,.h,.h,.h,.h,.h,.h,.h,.h,.h,.h,.h,.h,.h,.h,.h,.h,.h] 33,.g,.g,.g,.r [.a .a zL 28,.a .a zL 28,.a .a zL 28,.a .a zL 28,.a .a zL 28,.a .a zL 28] 45]⟩,
 ⟨us' 8++([.h,.u,.u,.a .a zL 28,.t (.os 4 0 6 6)]++(us' 90)),[.g,.g,.g,.g,.r [.a .a zL 28,.a .a zL 28,.a .a zL 28,.a .a zL 28,.a .a zL 28,.a .a zL 28] 45]⟩,
 ⟨us' 8++([.h,.h]++(us' 93)),[.g,.g,.g,.g,.g]⟩⟩
noncomputable abbrev zSa:Code:=lpc Tryz.prog 22 [false,true,false,true,true,true,true]
theorem qJg:cAt Tryz.prog 22 [false,true,false,true,true,true,true]=some (.loop zSa):=by kernel_rfl
noncomputable abbrev qAx(OD:Od)(e:Lo):Hs→Option (Hs⊕(Ex×Hs)):=Lex6.stp (evD Tryz.prog OD e 60) 22 [false,true,false,true,true,true,true] zSa
theorem sEx6(bc:List Wt→Int)(okL:LF Bool)(lL:LF (List Rt))(lP:LF Nat)(okD:List Rt→List Rt→Bool)(dR:List Rt→List Rt→Raw)(dP:List Rt→List Rt→Nat)(L Y:Int)(l:List Wt)(n i:Nat)(w e f j k q y:Cl)(h o t:List Int)(G:List Bd)(P D S:Int)(O U:List Nz)(C st V:Raw)(Z:Int)(F I:List (List Int)):qAx (odT [(46,odR [.list wT] (oBc bc)),(32,odR [tbT,nT,nT,nT,nT,nT] (wZ 6 okL lL lP)),(70,odR [.list zL,.list zL] (qF okD dR dP))]) (loT []) (iEx L Y l n i w [e,f,j,k,q,y] h o t G P D S O U C st V Z F I)=dD okL lL lP 6 h o t G P D S O U C st V Z F I L Y l n i w [e,f,j,k,q,y]:=by kernel_rfl
section
variable (bc:List Wt→Int)(okL:LF Bool)(lL:LF (List Rt))(lP:LF Nat)(okD:List Rt→List Rt→Bool)(dR:List Rt→List Rt→Raw)(dP:List Rt→List Rt→Nat)
theorem qLj:∀q y,(hEx okL lL lP 6 q).run=some y→∃n,It (qAx (odT [(46,odR [.list wT] (oBc bc)),(32,odR [tbT,nT,nT,nT,nT,nT] (wZ 6 okL lL lP)),(70,odR [.list zL,.list zL] (qF okD dR dP))]) (loT [])) n q y:=zCp okL lL lP 6 fun h o t G P D S O U C st V Z F I L Y l i w ds H=>match ds,H with
 | [e,f,j,k,z,A],_=>sEx6 bc okL lL lP okD dR dP L Y l l.length i w e f j k z A h o t G P D S O U C st V Z F I
noncomputable abbrev LEx6:Lo:=loT [(22,[false,true,false,true,true,true,true],Lex6.rowP (evD Tryz.prog (odT [(46,odR [.list wT] (oBc bc)),(32,odR [tbT,nT,nT,nT,nT,nT] (wZ 6 okL lL lP)),(70,odR [.list zL,.list zL] (qF okD dR dP))]) (loT []) 60) 22 [false,true,false,true,true,true,true] zSa (hEx okL lL lP 6))]
end
noncomputable def rvF(f:Nat→Rt)(m:Nat):List Rt:=(hdF f (f 0) m::tlF f (f 0) m).reverse
theorem zGa(f:Nat→Rt)(m:Nat):(rvF f m).length=m+1:=by
 unfold rvF;rw[List.length_reverse,List.length_cons,zGb]
theorem qQl(f:Nat→Rt):∀m,hdF f (f 0) m=f m
 | 0=>rfl
 | _+1=>rfl
theorem qRp(f:Nat→Rt):∀m,tlF f (f 0) m=((List.range m).map f).reverse
 | 0=>rfl
 | m+1=>by
  show hdF f (f 0) m::tlF f (f 0) m=_;rw[qQl,qRp f m,List.range_succ,List.map_append,List.reverse_append];rfl
theorem jCp(f:Nat→Rt)(m:Nat):rvF f m=(List.range (m+1)).map f:=by
 unfold rvF;rw[qQl,qRp,List.reverse_cons,List.reverse_reverse,List.range_succ,List.map_append];rfl
section
variable (okD:List Rt→List Rt→Bool)(dR:List Rt→List Rt→Raw)(dP:List Rt→List Rt→Nat)
noncomputable def xpD(w e:Nat→Nat→Rt)(m:Nat):Nat→Nat→List Raw→Option (T×Bool)
 | 0,_,acc=>some (.tu [.sl (flR acc.reverse) acc.length,vn 0],true)
 | k+1,b,acc=>beG 1 (tlF (w 0) (w 0 0) m) (beG 1 (tlF (e b) (e b 0) m) (gd (Nat.ble (rvF (w 0) m).length 100000&&Nat.ble (rvF (e b) m).length 100000) (bif okD (rvF (w 0) m) (rvF (e b) m)then xpD w e m k (b+1) (dR (rvF (w 0) m) (rvF (e b) m)::acc)else er (dP (rvF (w 0) m) (rvF (e b) m)+1))))
noncomputable def xpL(w e:Nat→Nat→Rt)(m:Nat):Nat→Nat→List Raw→List Raw⊕Nat
 | 0,_,acc=> .inl acc.reverse
 | k+1,b,acc=>bif okD (rvF (w 0) m) (rvF (e b) m)then xpL w e m k (b+1) (dR (rvF (w 0) m) (rvF (e b) m)::acc)else .inr (dP (rvF (w 0) m) (rvF (e b) m)+1)
theorem qIv(w e:Nat→Nat→Rt)(m:Nat)(f:m+1≤100000):∀(k b:Nat)(acc:List Raw),xpD okD dR dP w e m k b acc=qGq (xpL okD dR dP w e m k b acc)
 | 0,b,acc=>by
  show(some (.tu [.sl (flR acc.reverse) acc.length,vn 0],true):Option (T×Bool))=some (.tu [.sl (flR acc.reverse) acc.reverse.length,vn 0],true);rw[List.length_reverse]
 | k+1,b,acc=>by
  simp only[xpD,xpL];rw[zSj,zSj,zGa,zGa,kZ f];simp only[gd,Bool.and_self,ze];cases okD (rvF (w 0) m) (rvF (e b) m)with
  | false=>rfl
  | true=>exact qIv w e m f k (b+1) _
end
section
variable (bc:List Wt→Int)(okL:LF Bool)(lL:LF (List Rt))(lP:LF Nat)(okD:List Rt→List Rt→Bool)(dR:List Rt→List Rt→Raw)(dP:List Rt→List Rt→Nat)
noncomputable def xpG(k:Nat)(h o t:List Int)(G:List Bd)(P D S:Int)(O U:List Nz)(C st V:Raw)(Z:Int)(F I:List (List Int))(L:Int)(l:List Wt)(Y:Int):Option (T×Bool):=bif !ieq (bc l) 0 then some (.tu [zPy,vi (bc l)],true)else gd (ilt (.ofNat 0) (.ofNat l.length)) (gd (Nat.blt 0 l.length) (gd (Nat.blt F.length 9223372036854775807) (gd (ptO okL h o t G P D S O U C st V Z F I L Y l 0) (gd (Nat.beq G.length k) (gd (Nat.beq l.length l.length&&(Nat.blt 0 l.length&&(Nat.ble l.length 100000&&(Nat.blt F.length 9223372036854775807&&Nat.beq G.length k)))) (bif isO (xpF okL lP h o t G P D S O U C st V Z F I L Y l)then xpD okD dR dP (fun _=>xW l) (lH lL h o t G P D S O U C st V Z F I L Y l) (l.length-1) k 0 []else er (eO (xpF okL lP h o t G P D S O U C st V Z F I L Y l))))))))
theorem jAw(h o t:List Int)(G:List Bd)(P D S:Int)(O U:List Nz)(C st V:Raw)(Z:Int)(F I:List (List Int))(L:Int)(l:List Wt)(Y:Int)(hb:bc l=0)(e:0<l.length)(f:l.length≤100000)(hr:F.length<9223372036854775807)(hp:ptO okL h o t G P D S O U C st V Z F I L Y l 0=true):xpG bc okL lL lP okD dR dP G.length h o t G P D S O U C st V Z F I L l Y=bif isO (xpF okL lP h o t G P D S O U C st V Z F I L Y l)then qGq (xpL okD dR dP (fun _=>xW l) (lH lL h o t G P D S O U C st V Z F I L Y l) (l.length-1) G.length 0 [])else er (eO (xpF okL lP h o t G P D S O U C st V Z F I L Y l)):=by
 unfold xpG;rw[hb,zP e,zP hr,hp,kG,kG,kZ f,show ilt (.ofNat 0) (.ofNat l.length)=true from zP e,qIv okD dR dP _ _ _ (show l.length-1+1≤100000 by omega)]
 rfl
end
set_option maxHeartbeats 0 in
theorem eEx1(bc:List Wt→Int)(okL:LF Bool)(lL:LF (List Rt))(lP:LF Nat)(okD:List Rt→List Rt→Bool)(dR:List Rt→List Rt→Raw)(dP:List Rt→List Rt→Nat)(h o t:List Int)(G:List Bd)(P D S:Int)(O U:List Nz)(C st V:Raw)(Z:Int)(F I:List (List Int))(L:Int)(l:List Wt)(Y:Int):((qK Tryz.prog (evD Tryz.prog (odT [(46,odR [.list wT] (oBc bc)),(32,odR [tbT,nT,nT,nT,nT,nT] (wZ 1 okL lL lP)),(70,odR [.list zL,.list zL] (qF okD dR dP))]) (LEx1 bc okL lL lP okD dR dP) 60) 22 [.ag (tbC h o t G P D S O U C st V Z F I),vi L,.ls .a wT l,vi Y] []).bind qQ).run=xpG bc okL lL lP okD dR dP 1 h o t G P D S O U C st V Z F I L l Y:=by kernel_rfl
set_option maxHeartbeats 0 in
theorem eEx2(bc:List Wt→Int)(okL:LF Bool)(lL:LF (List Rt))(lP:LF Nat)(okD:List Rt→List Rt→Bool)(dR:List Rt→List Rt→Raw)(dP:List Rt→List Rt→Nat)(h o t:List Int)(G:List Bd)(P D S:Int)(O U:List Nz)(C st V:Raw)(Z:Int)(F I:List (List Int))(L:Int)(l:List Wt)(Y:Int):((qK Tryz.prog (evD Tryz.prog (odT [(46,odR [.list wT] (oBc bc)),(32,odR [tbT,nT,nT,nT,nT,nT] (wZ 2 okL lL lP)),(70,odR [.list zL,.list zL] (qF okD dR dP))]) (LEx2 bc okL lL lP okD dR dP) 60) 22 [.ag (tbC h o t G P D S O U C st V Z F I),vi L,.ls .a wT l,vi Y] []).bind qQ).run=xpG bc okL lL lP okD dR dP 2 h o t G P D S O U C st V Z F I L l Y:=by kernel_rfl
set_option maxHeartbeats 0 in
theorem eEx3(bc:List Wt→Int)(okL:LF Bool)(lL:LF (List Rt))(lP:LF Nat)(okD:List Rt→List Rt→Bool)(dR:List Rt→List Rt→Raw)(dP:List Rt→List Rt→Nat)(h o t:List Int)(G:List Bd)(P D S:Int)(O U:List Nz)(C st V:Raw)(Z:Int)(F I:List (List Int))(L:Int)(l:List Wt)(Y:Int):((qK Tryz.prog (evD Tryz.prog (odT [(46,odR [.list wT] (oBc bc)),(32,odR [tbT,nT,nT,nT,nT,nT] (wZ 3 okL lL lP)),(70,odR [.list zL,.list zL] (qF okD dR dP))]) (LEx3 bc okL lL lP okD dR dP) 60) 22 [.ag (tbC h o t G P D S O U C st V Z F I),vi L,.ls .a wT l,vi Y] []).bind qQ).run=xpG bc okL lL lP okD dR dP 3 h o t G P D S O U C st V Z F I L l Y:=by kernel_rfl
set_option maxHeartbeats 0 in
theorem eEx4(bc:List Wt→Int)(okL:LF Bool)(lL:LF (List Rt))(lP:LF Nat)(okD:List Rt→List Rt→Bool)(dR:List Rt→List Rt→Raw)(dP:List Rt→List Rt→Nat)(h o t:List Int)(G:List Bd)(P D S:Int)(O U:List Nz)(C st V:Raw)(Z:Int)(F I:List (List Int))(L:Int)(l:List Wt)(Y:Int):((qK Tryz.prog (evD Tryz.prog (odT [(46,odR [.list wT] (oBc bc)),(32,odR [tbT,nT,nT,nT,nT,nT] (wZ 4 okL lL lP)),(70,odR [.list zL,.list zL] (qF okD dR dP))]) (LEx4 bc okL lL lP okD dR dP) 60) 22 [.ag (tbC h o t G P D S O U C st V Z F I),vi L,.ls .a wT l,vi Y] []).bind qQ).run=xpG bc okL lL lP okD dR dP 4 h o t G P D S O U C st V Z F I L l Y:=by kernel_rfl
set_option maxHeartbeats 0 in
theorem eEx5(bc:List Wt→Int)(okL:LF Bool)(lL:LF (List Rt))(lP:LF Nat)(okD:List Rt→List Rt→Bool)(dR:List Rt→List Rt→Raw)(dP:List Rt→List Rt→Nat)(h o t:List Int)(G:List Bd)(P D S:Int)(O U:List Nz)(C st V:Raw)(Z:Int)(F I:List (List Int))(L:Int)(l:List Wt)(Y:Int):((qK Tryz.prog (evD Tryz.prog (odT [(46,odR [.list wT] (oBc bc)),(32,odR [tbT,nT,nT,nT,nT,nT] (wZ 5 okL lL lP)),(70,odR [.list zL,.list zL] (qF okD dR dP))]) (LEx5 bc okL lL lP okD dR dP) 60) 22 [.ag (tbC h o t G P D S O U C st V Z F I),vi L,.ls .a wT l,vi Y] []).bind qQ).run=xpG bc okL lL lP okD dR dP 5 h o t G P D S O U C st V Z F I L l Y:=by kernel_rfl
set_option maxHeartbeats 0 in
theorem eEx6(bc:List Wt→Int)(okL:LF Bool)(lL:LF (List Rt))(lP:LF Nat)(okD:List Rt→List Rt→Bool)(dR:List Rt→List Rt→Raw)(dP:List Rt→List Rt→Nat)(h o t:List Int)(G:List Bd)(P D S:Int)(O U:List Nz)(C st V:Raw)(Z:Int)(F I:List (List Int))(L:Int)(l:List Wt)(Y:Int):((qK Tryz.prog (evD Tryz.prog (odT [(46,odR [.list wT] (oBc bc)),(32,odR [tbT,nT,nT,nT,nT,nT] (wZ 6 okL lL lP)),(70,odR [.list zL,.list zL] (qF okD dR dP))]) (LEx6 bc okL lL lP okD dR dP) 60) 22 [.ag (tbC h o t G P D S O U C st V Z F I),vi L,.ls .a wT l,vi Y] []).bind qQ).run=xpG bc okL lL lP okD dR dP 6 h o t G P D S O U C st V Z F I L l Y:=by kernel_rfl
noncomputable def qFp(okL:LF Bool)(lP:LF Nat):List T→DT (T×Bool)
 | [.ag [.ls .a (.int .i64) h,.ls .a (.int .i64) o,.ls .a (.int .i64) t,.ls .a (.prod (.int .u8) (.prod (.int .i64) (.int .i64))) G,.v (.int .i64 P),.v (.int .i64 D),.v (.int .i64 S),.ls .a (.prod (.int .i64) zL) O,.ls .a (.prod (.int .i64) zL) U,.v (.bool e),.ls .a .lim C,.ls .a .lim am,.v (.bool q),.ls .a .lim sl,.ls .a .lim sm,.v (.bool f),.ls .a .lim j,.ls .a .lim k,.v (.int .i64 Z),.ls .a (.list (.int .i64)) F,.ls .a (.list (.int .i64)) I],.v (.int .i64 L),.v (.int .i64 H),.v (.int .i64 W),.v (.int .i64 w),.v (.int .i64 Y)]=>grd (Nat.blt F.length 9223372036854775807) (.ite (okL h o t G P D S O U ⟨e,C,am⟩ ⟨q,sl,sm⟩ ⟨f,j,k⟩ Z F I L H W w Y) .no (.ret (.tu [.ls .a zL [],.v (.int .i64 (.ofNat (lP h o t G P D S O U ⟨e,C,am⟩ ⟨q,sl,sm⟩ ⟨f,j,k⟩ Z F I L H W w Y+1)))],true)))
 | _=> .no
theorem kLkE:∀az j nw,(qFp jD lkP az).run=some (j,nw)→∀k,KnP Tryz.prog k 32 az j nw:=by
 intro az j nw hh k;refine kLk az j nw ?_ k;unfold qFp at hh;unfold oLk;split at hh
 ·rename_i h o t G P D S O U q C am B sl sm y z A Z F I L H W E Y;obtain⟨w,f⟩:=zS hh;simp only[grd,DT.run,w,ze];simp only[DT.run]at f;cases e:jD h o t G P D S O U ⟨q,C,am⟩ ⟨B,sl,sm⟩ ⟨y,z,A⟩ Z F I L H W E Y with
  | true=>rw[e]at f;cases f
  | false=>rw[e]at f;exact f
 ·cases hh
theorem eEx0(bc:List Wt→Int)(okL:LF Bool)(lP:LF Nat)(h o t:List Int)(G:List Bd)(P D S:Int)(O U:List Nz)(C st V:Raw)(Z:Int)(F I:List (List Int))(L:Int)(l:List Wt)(Y:Int):((qK Tryz.prog (evD Tryz.prog (odT [(46,odR [.list wT] (oBc bc)),(32,odR [tbT,nT,nT,nT,nT,nT] (qFp okL lP))]) (loT []) 60) 22 [.ag (tbC h o t G P D S O U C st V Z F I),vi L,.ls .a wT l,vi Y] []).bind qQ).run=bif !(ieq (bc l) 0)then some (.tu [.v (Value.slice none 0 0),vi (bc l)],true)else(bif ilt (.ofNat 0) (.ofNat l.length)then gd (Nat.blt 0 l.length) (gd (Nat.blt F.length 9223372036854775807) (bif okL h o t G P D S O U C st V Z F I L (((wA l 0).1).1) ((((wA l 0).1).2).1) ((((wA l 0).1).2).2) Y then none else some (.tu [.v (Value.slice none 0 0),vn ((lP h o t G P D S O U C st V Z F I L (((wA l 0).1).1) ((((wA l 0).1).2).1) ((((wA l 0).1).2).2) Y)+1)],true)))else some (.tu [.v (Value.slice none 0 0),vn 0],true)):=by kernel_rfl
theorem jBk(l:List Wt):0≤bE l:=by
 unfold bE bcE;refine bnn (by decide) (bnn (by decide) ?_)
 have q:0≤eN (b0F Raw.chk l):=qDg (β:=Unit) (g:=gB0 Raw.chk l) (fun i e f=>by
  unfold gB0 at f;cases w:zEv (wA l i).1<;>rw[w]at f
  ·cases k:(ilt 0 (.ofNat i)&&!ilt (cpP (wA l (i-1)).1 (wA l i).1) 0)<;>rw[k]at f
   ·cases z:ieq (Raw.chk (rw' (wA l i).2)) 0<;>rw[z]at f
    ·cases f;exact zLy _
    ·cases A:((wA l i).2.1||ieq (.ofNat (wA l i).2.2.1.length) 0)<;>rw[A]at f<;>cases f;decide
   ·cases f;decide
  ·cases f;decide) l.length 0
 cases h:b0F Raw.chk l with
 | some e=>rw[h]at q;exact q
 | none=>
  have k:0≤(b1F adA aeA frA l).2:=by
   have:=xC (g:=gB1 adA aeA l) (d:=id) (J:=fun a=>0≤a.2) (R:=fun a=>0≤a.2) (fun i a b B j=>by
    unfold gB1 at j;cases e:ieq a.2 0<;>rw[e]at j<;>cases j
    ·exact B
    ·exact zNa _ _ _) (fun i a y _ j=>by unfold gB1 at j;cases j) (fun a h=>h) l.length 0 (frA 0,0) (Int.le_refl 0)
   exact this
  exact bnn k (bnn (by decide) (by decide))
theorem zGe{l:List Wt}(h:bE l=0):0<l.length∧l.length≤4096:=by
 unfold bE bcE at h;cases e:Nat.beq l.length 0 with
 | true=>rw[e]at h;cases h
 | false=>
  cases f:Nat.blt 4096 l.length with
  | true=>rw[e,f]at h;cases h
  | false=>
   refine⟨?_,?_⟩
   ·rcases Nat.eq_zero_or_pos l.length with g | g
    ·rw[g]at e;cases e
    ·exact g
   ·rcases Nat.lt_or_ge 4096 l.length with g | g
    ·rw[zP g]at f;cases f
    ·exact g
noncomputable def xpR(h o t:List Int)(G:List Bd)(P D S:Int)(O U:List Nz)(C st V:Raw)(Z:Int)(F I:List (List Int))(L:Int)(l:List Wt)(Y:Int):List Raw⊕Nat:=bif !ieq (bE l) 0 then .inr (bE l).toNat else(bif ptO jD h o t G P D S O U C st V Z F I L Y l 0 then(bif isO (xpF jD lkP h o t G P D S O U C st V Z F I L Y l)then xpL zU qP qZ (fun _=>xW l) (lH lkL h o t G P D S O U C st V Z F I L Y l) (l.length-1) G.length 0 []else .inr (eO (xpF jD lkP h o t G P D S O U C st V Z F I L Y l)))else .inr (ptP lkP h o t G P D S O U C st V Z F I L Y l 0+1))
noncomputable abbrev xpO(h o t:List Int)(G:List Bd)(P D S:Int)(O U:List Nz)(C st V:Raw)(Z:Int)(F I:List (List Int))(L:Int)(l:List Wt)(Y:Int):Bool:=isR (xpR h o t G P D S O U C st V Z F I L l Y)
noncomputable abbrev xpV(h o t:List Int)(G:List Bd)(P D S:Int)(O U:List Nz)(C st V:Raw)(Z:Int)(F I:List (List Int))(L:Int)(l:List Wt)(Y:Int):List Rt:=lR (xpR h o t G P D S O U C st V Z F I L l Y)
noncomputable abbrev xpP(h o t:List Int)(G:List Bd)(P D S:Int)(O U:List Nz)(C st V:Raw)(Z:Int)(F I:List (List Int))(L:Int)(l:List Wt)(Y:Int):Nat:=eR (xpR h o t G P D S O U C st V Z F I L l Y)-1
noncomputable def oEx(y:List Int→List Int→List Int→List Bd→Int→Int→Int→List Nz→List Nz→Raw→Raw→Raw→Int→List (List Int)→List (List Int)→Int→List Wt→Int→Bool)(w:List Int→List Int→List Int→List Bd→Int→Int→Int→List Nz→List Nz→Raw→Raw→Raw→Int→List (List Int)→List (List Int)→Int→List Wt→Int→List Rt)(z:List Int→List Int→List Int→List Bd→Int→Int→Int→List Nz→List Nz→Raw→Raw→Raw→Int→List (List Int)→List (List Int)→Int→List Wt→Int→Nat):List T→DT (T×Bool)
 | [.ag [.ls .a (.int .i64) h,.ls .a (.int .i64) o,.ls .a (.int .i64) t,.ls .a (.prod (.int .u8) (.prod (.int .i64) (.int .i64))) G,.v (.int .i64 P),.v (.int .i64 D),.v (.int .i64 S),.ls .a (.prod (.int .i64) zL) O,.ls .a (.prod (.int .i64) zL) U,.v (.bool e),.ls .a .lim C,.ls .a .lim am,.v (.bool q),.ls .a .lim sl,.ls .a .lim sm,.v (.bool f),.ls .a .lim j,.ls .a .lim k,.v (.int .i64 Z),.ls .a (.list (.int .i64)) F,.ls .a (.list (.int .i64)) I],.v (.int .i64 L),.ls .a (.prod (.prod (.int .i64) (.prod (.int .i64) (.int .i64))) zL) l,.v (.int .i64 Y)]=>grd (Nat.blt F.length 9223372036854775807) (.ite (y h o t G P D S O U ⟨e,C,am⟩ ⟨q,sl,sm⟩ ⟨f,j,k⟩ Z F I L l Y) (.ret (.tu [.ls .a zL (w h o t G P D S O U ⟨e,C,am⟩ ⟨q,sl,sm⟩ ⟨f,j,k⟩ Z F I L l Y),.v (.int .i64 (.ofNat 0))],true)) (.ret (.tu [.ls .a zL [],.v (.int .i64 (.ofNat (z h o t G P D S O U ⟨e,C,am⟩ ⟨q,sl,sm⟩ ⟨f,j,k⟩ Z F I L l Y+1)))],true)))
 | _=> .no
theorem sU(k:Nat):wB Tryz.prog (odT [(46,odR [.list wT] (oBc bE)),(32,odR [tbT,nT,nT,nT,nT,nT] (wZ k jD lkL lkP)),(70,odR [.list zL,.list zL] (qF zU qP qZ))]):=zT (zT (zT yG (jV kDot)) (jV (kLkX k))) (jV kBc)
theorem qMv:wB Tryz.prog (odT [(46,odR [.list wT] (oBc bE)),(32,odR [tbT,nT,nT,nT,nT,nT] (qFp jD lkP))]):=zT (zT yG (jV kLkE)) (jV kBc)
theorem qMg:vY Tryz.prog (LEx1 bE jD lkL lkP zU qP qZ):=bG qA (kQ yT (sU 1) qA 60) qJb (qLe bE jD lkL lkP zU qP qZ)
theorem qMh:vY Tryz.prog (LEx2 bE jD lkL lkP zU qP qZ):=bG qA (kQ yT (sU 2) qA 60) qJc (qLf bE jD lkL lkP zU qP qZ)
theorem qMi:vY Tryz.prog (LEx3 bE jD lkL lkP zU qP qZ):=bG qA (kQ yT (sU 3) qA 60) qJd (qLg bE jD lkL lkP zU qP qZ)
theorem qMj:vY Tryz.prog (LEx4 bE jD lkL lkP zU qP qZ):=bG qA (kQ yT (sU 4) qA 60) qJe (qLh bE jD lkL lkP zU qP qZ)
theorem qMk:vY Tryz.prog (LEx5 bE jD lkL lkP zU qP qZ):=bG qA (kQ yT (sU 5) qA 60) qJf (qLi bE jD lkL lkP zU qP qZ)
theorem qMl:vY Tryz.prog (LEx6 bE jD lkL lkP zU qP qZ):=bG qA (kQ yT (sU 6) qA 60) qJg (qLj bE jD lkL lkP zU qP qZ)
theorem qId{h o t:List Int}{G:List Bd}{P D S:Int}{O U:List Nz}{C st V:Raw}{Z:Int}{F I:List (List Int)}{L H W f Y:Int}(e:jD h o t G P D S O U C st V Z F I L H W f Y=true):Tab h o t G S Z F I:=by
 unfold jD lkR at e;cases j:Nat.beq (lkE h o t G P D S O U C st V Z F I L H W f Y) 0 with
 | false=>rw[j]at e;cases e
 | true=>exact qIe kyF h o t G P D S O U C st V Z F I (qL.1 (qEy yM pPA h o t G P D S O U C st V Z F I L H W f Y j).1)
theorem zYf{okD:List Rt→List Rt→Bool}{dR:List Rt→List Rt→Raw}{dP:List Rt→List Rt→Nat}{w f:Nat→Nat→Rt}{m:Nat}:∀(k b:Nat)(acc:List Raw){e:Nat},xpL okD dR dP w f m k b acc= .inr e→1≤e
 | 0,_,_,_,h=>by cases h
 | k+1,b,acc,e,h=>by
  simp only[xpL]at h;cases H:okD (rvF (w 0) m) (rvF (f b) m)with
  | true=>rw[H]at h;exact zYf k (b+1) _ h
  | false=>rw[H]at h;cases h;omega
theorem qOw{okL:List Int→List Int→List Int→List Bd→Int→Int→Int→List Nz→List Nz→Raw→Raw→Raw→Int→List (List Int)→List (List Int)→Int→Int→Int→Int→Int→Bool}{lP:List Int→List Int→List Int→List Bd→Int→Int→Int→List Nz→List Nz→Raw→Raw→Raw→Int→List (List Int)→List (List Int)→Int→Int→Int→Int→Int→Nat}(h o t:List Int)(G:List Bd)(P D S:Int)(O U:List Nz)(C st V:Raw)(Z:Int)(F I:List (List Int)){L Y:Int}{l:List Wt}{e:Nat}(f:xpF okL lP h o t G P D S O U C st V Z F I L Y l=some e):1≤e:=by
 have:=xC (g:=gEx okL lP h o t G P D S O U C st V Z F I L Y l) (d:=fun _=>none) (J:=fun _=>True) (R:=fun y=>∀e,y=some e→1≤e) (fun _ _ _ _ _=>trivial) (fun i a y _ k e j=>by
  unfold gEx at k;cases f:ptO okL h o t G P D S O U C st V Z F I L Y l (i+1)<;>rw[f]at k<;>cases k;cases j;omega) (fun _ _ e j=>by cases j) (l.length-1) 0 () trivial
 exact this e f
theorem zDz(h o t:List Int)(G:List Bd)(P D S:Int)(O U:List Nz)(C st V:Raw)(Z:Int)(F I:List (List Int))(L:Int)(l:List Wt)(Y:Int)(k:Nat){od:Od}{A:Lo}(J:wB Tryz.prog od)(E:vY Tryz.prog A)(hr:F.length<9223372036854775807)(hb:bE l=0)(hp:ptO jD h o t G P D S O U C st V Z F I L Y l 0=true)(Q:((qK Tryz.prog (evD Tryz.prog (od) (A) 60) 22 [.ag (tbC h o t G P D S O U C st V Z F I),vi L,.ls .a wT l,vi Y] []).bind qQ).run=xpG bE jD lkL lkP zU qP qZ G.length h o t G P D S O U C st V Z F I L l Y):KnP Tryz.prog k 22 [.ag (tbC h o t G P D S O U C st V Z F I),vi L,.ls .a wT l,vi Y] (bif xpO h o t G P D S O U C st V Z F I L l Y then .tu [.ls .a zL (xpV h o t G P D S O U C st V Z F I L l Y),vn 0]else .tu [.ls .a zL [],vn (xpP h o t G P D S O U C st V Z F I L l Y+1)]) true:=by
 obtain⟨M,R⟩:=zGe hb;have q:=Q.trans (jAw bE jD lkL lkP zU qP qZ h o t G P D S O U C st V Z F I L l Y hb M (by omega) hr hp)
 have bad:∀{e:Nat},xpR h o t G P D S O U C st V Z F I L l Y= .inr e→1≤e→((qK Tryz.prog (evD Tryz.prog (od) (A) 60) 22 [.ag (tbC h o t G P D S O U C st V Z F I),vi L,.ls .a wT l,vi Y] []).bind qQ).run=er e→KnP Tryz.prog k 22 [.ag (tbC h o t G P D S O U C st V Z F I),vi L,.ls .a wT l,vi Y] (bif xpO h o t G P D S O U C st V Z F I L l Y then .tu [.ls .a zL (xpV h o t G P D S O U C st V Z F I L l Y),vn 0]else .tu [.ls .a zL [],vn (xpP h o t G P D S O U C st V Z F I L l Y+1)]) true:=fun{e}K N H=>by
  have j:xpO h o t G P D S O U C st V Z F I L l Y=false:=by unfold xpO;rw[K];rfl
  have w:xpP h o t G P D S O U C st V Z F I L l Y+1=e:=by unfold xpP;rw[K];exact Nat.sub_add_cancel N
  rw[j,w];exact(kF (cz:=[.ag (tbC h o t G P D S O U C st V Z F I),vi L,.ls .a wT l,vi Y]) yT J E H rfl k).res fun B r v hv=>zNx hv
 have f:xpR h o t G P D S O U C st V Z F I L l Y=bif isO (xpF jD lkP h o t G P D S O U C st V Z F I L Y l)then xpL zU qP qZ (fun _=>xW l) (lH lkL h o t G P D S O U C st V Z F I L Y l) (l.length-1) G.length 0 []else .inr (eO (xpF jD lkP h o t G P D S O U C st V Z F I L Y l)):=by
  unfold xpR;rw[hb,hp];rfl
 cases y:xpF jD lkP h o t G P D S O U C st V Z F I L Y l with
 | some e=>
  rw[y]at q f;exact bad f (qOw h o t G P D S O U C st V Z F I y) q
 | none=>
  rw[y]at q f;simp only[isO,ze]at q f;cases hs:xpL zU qP qZ (fun _=>xW l) (lH lkL h o t G P D S O U C st V Z F I L Y l) (l.length-1) G.length 0 []with
  | inr e=>
   rw[hs]at q f;exact bad f (zYf G.length 0 [] hs) q
  | inl x=>
   rw[hs]at q f;have j:xpO h o t G P D S O U C st V Z F I L l Y=true:=by unfold xpO;rw[f];rfl
   have w:xpV h o t G P D S O U C st V Z F I L l Y=x.map toT:=by unfold xpV;rw[f];rfl
   rw[j,w];have z:(([.ag (tbC h o t G P D S O U C st V Z F I),vi L,.ls .a wT l,vi Y]:List T).all (clean 12)&&clean 12 (.tu [.sl (flR x) x.length,vn 0]))=true:=by
    show(true&&((flR x).all (clean 10)&&true))=true;rw[zSl 9];rfl
   exact(kF (cz:=[.ag (tbC h o t G P D S O U C st V Z F I),vi L,.ls .a wT l,vi Y]) yT J E q z k).res fun B r v hv=>qRn hv
theorem kEx:∀az M nw,(oEx xpO xpV xpP az).run=some (M,nw)→∀k,KnP Tryz.prog k 22 az M nw:=by
 intro az M nw hh k;unfold oEx at hh;split at hh
 ·rename_i h o t G P D S O U f C am z sl sm j w y Z F I L l Y;obtain⟨J,K⟩:=zS hh;have hr:=jC J;have bad:∀{e:Nat},xpR h o t G P D S O U ⟨f,C,am⟩ ⟨z,sl,sm⟩ ⟨j,w,y⟩ Z F I L l Y= .inr e→1≤e→((qK Tryz.prog (evD Tryz.prog (odT [(46,odR [.list wT] (oBc bE)),(32,odR [tbT,nT,nT,nT,nT,nT] (qFp jD lkP))]) (loT []) 60) 22 [.ag (tbC h o t G P D S O U ⟨f,C,am⟩ ⟨z,sl,sm⟩ ⟨j,w,y⟩ Z F I),vi L,.ls .a wT l,vi Y] []).bind qQ).run=er e→KnP Tryz.prog k 22 [.ag (tbC h o t G P D S O U ⟨f,C,am⟩ ⟨z,sl,sm⟩ ⟨j,w,y⟩ Z F I),vi L,.ls .a wT l,vi Y] (bif xpO h o t G P D S O U ⟨f,C,am⟩ ⟨z,sl,sm⟩ ⟨j,w,y⟩ Z F I L l Y then .tu [.ls .a zL (xpV h o t G P D S O U ⟨f,C,am⟩ ⟨z,sl,sm⟩ ⟨j,w,y⟩ Z F I L l Y),vn 0]else .tu [.ls .a zL [],vn (xpP h o t G P D S O U ⟨f,C,am⟩ ⟨z,sl,sm⟩ ⟨j,w,y⟩ Z F I L l Y+1)]) true:=fun{e}E J H=>by
   have Q:xpO h o t G P D S O U ⟨f,C,am⟩ ⟨z,sl,sm⟩ ⟨j,w,y⟩ Z F I L l Y=false:=by unfold xpO;rw[E];rfl
   have R:xpP h o t G P D S O U ⟨f,C,am⟩ ⟨z,sl,sm⟩ ⟨j,w,y⟩ Z F I L l Y+1=e:=by unfold xpP;rw[E];exact Nat.sub_add_cancel J
   rw[Q,R];exact(kF (cz:=[.ag (tbC h o t G P D S O U ⟨f,C,am⟩ ⟨z,sl,sm⟩ ⟨j,w,y⟩ Z F I),vi L,.ls .a wT l,vi Y]) yT qMv qA H rfl k).res fun B r v hv=>zNx hv
  have main:KnP Tryz.prog k 22 [.ag (tbC h o t G P D S O U ⟨f,C,am⟩ ⟨z,sl,sm⟩ ⟨j,w,y⟩ Z F I),vi L,.ls .a wT l,vi Y] (bif xpO h o t G P D S O U ⟨f,C,am⟩ ⟨z,sl,sm⟩ ⟨j,w,y⟩ Z F I L l Y then .tu [.ls .a zL (xpV h o t G P D S O U ⟨f,C,am⟩ ⟨z,sl,sm⟩ ⟨j,w,y⟩ Z F I L l Y),vn 0]else .tu [.ls .a zL [],vn (xpP h o t G P D S O U ⟨f,C,am⟩ ⟨z,sl,sm⟩ ⟨j,w,y⟩ Z F I L l Y+1)]) true:=by
   have q:=eEx0 bE jD lkP h o t G P D S O U ⟨f,C,am⟩ ⟨z,sl,sm⟩ ⟨j,w,y⟩ Z F I L l Y;cases hb:ieq (bE l) 0 with
   | false=>
    rw[hb]at q;have hp:0<bE l:=by
     rcases Int.lt_or_eq_of_le (jBk l)with g | g
     ·exact g
     ·rw[xU g.symm]at hb;cases hb
    obtain⟨e,E⟩:=Int.eq_ofNat_of_zero_le (Int.le_of_lt hp);refine bad (e:=e) (by unfold xpR;rw[hb,E];rfl) (by omega) (q.trans ?_)
    rw[E];rfl
   | true=>
    have A:=qL.1 hb;obtain⟨N,W⟩:=zGe A;cases hp:ptO jD h o t G P D S O U ⟨f,C,am⟩ ⟨z,sl,sm⟩ ⟨j,w,y⟩ Z F I L Y l 0 with
    | false=>
     rw[hb,show ilt (.ofNat 0) (.ofNat l.length)=true from zP N,zP N,zP hr,show jD h o t G P D S O U ⟨f,C,am⟩ ⟨z,sl,sm⟩ ⟨j,w,y⟩ Z F I L (wA l 0).1.1 (wA l 0).1.2.1 (wA l 0).1.2.2 Y=false from hp]at q;exact bad (by unfold xpR;rw[hb,hp];rfl) (Nat.le_add_left 1 _) q
    | true=>
     have hT:Tab h o t G S Z F I:=qId hp;have a1:=hT.mod.av1;have T:=hT.mod.av6;rcases(show G.length=1∨G.length=2∨G.length=3∨G.length=4∨G.length=5∨G.length=6 by omega)with ha | ha | ha | ha | ha | ha
     ·exact zDz h o t G P D S O U ⟨f,C,am⟩ ⟨z,sl,sm⟩ ⟨j,w,y⟩ Z F I L l Y k (sU 1) qMg hr A hp (by rw[ha];exact eEx1 bE jD lkL lkP zU qP qZ h o t G P D S O U ⟨f,C,am⟩ ⟨z,sl,sm⟩ ⟨j,w,y⟩ Z F I L l Y)
     ·exact zDz h o t G P D S O U ⟨f,C,am⟩ ⟨z,sl,sm⟩ ⟨j,w,y⟩ Z F I L l Y k (sU 2) qMh hr A hp (by rw[ha];exact eEx2 bE jD lkL lkP zU qP qZ h o t G P D S O U ⟨f,C,am⟩ ⟨z,sl,sm⟩ ⟨j,w,y⟩ Z F I L l Y)
     ·exact zDz h o t G P D S O U ⟨f,C,am⟩ ⟨z,sl,sm⟩ ⟨j,w,y⟩ Z F I L l Y k (sU 3) qMi hr A hp (by rw[ha];exact eEx3 bE jD lkL lkP zU qP qZ h o t G P D S O U ⟨f,C,am⟩ ⟨z,sl,sm⟩ ⟨j,w,y⟩ Z F I L l Y)
     ·exact zDz h o t G P D S O U ⟨f,C,am⟩ ⟨z,sl,sm⟩ ⟨j,w,y⟩ Z F I L l Y k (sU 4) qMj hr A hp (by rw[ha];exact eEx4 bE jD lkL lkP zU qP qZ h o t G P D S O U ⟨f,C,am⟩ ⟨z,sl,sm⟩ ⟨j,w,y⟩ Z F I L l Y)
     ·exact zDz h o t G P D S O U ⟨f,C,am⟩ ⟨z,sl,sm⟩ ⟨j,w,y⟩ Z F I L l Y k (sU 5) qMk hr A hp (by rw[ha];exact eEx5 bE jD lkL lkP zU qP qZ h o t G P D S O U ⟨f,C,am⟩ ⟨z,sl,sm⟩ ⟨j,w,y⟩ Z F I L l Y)
     ·exact zDz h o t G P D S O U ⟨f,C,am⟩ ⟨z,sl,sm⟩ ⟨j,w,y⟩ Z F I L l Y k (sU 6) qMl hr A hp (by rw[ha];exact eEx6 bE jD lkL lkP zU qP qZ h o t G P D S O U ⟨f,C,am⟩ ⟨z,sl,sm⟩ ⟨j,w,y⟩ Z F I L l Y)
  simp only[DT.run]at K;cases e:xpO h o t G P D S O U ⟨f,C,am⟩ ⟨z,sl,sm⟩ ⟨j,w,y⟩ Z F I L l Y<;>rw[e]at K main<;>cases K<;>exact main
 ·cases hh
noncomputable def iLo(i:Nat)(C st V:Raw)(F I:List (List Int)):Hs:=⟨[vn i],[],[[.ls .a (.list nT) F,.ls .a (.list nT) I],[.v (.bool C.1),.ls .a .lim C.2,.ls .a .lim C.3,.v (.bool st.1),.ls .a .lim st.2,.ls .a .lim st.3,.v (.bool V.1),.ls .a .lim V.2,.ls .a .lim V.3]]⟩
noncomputable def xLo(C st V:Raw)(F I:List (List Int)):Hs:=⟨[],[],[[.ls .a (.list nT) F,.ls .a (.list nT) I],[.v (.bool C.1),.ls .a .lim C.2,.ls .a .lim C.3,.v (.bool st.1),.ls .a .lim st.2,.ls .a .lim st.3,.v (.bool V.1),.ls .a .lim V.2,.ls .a .lim V.3]]⟩
noncomputable def Llo0:Lp:=⟨2,
 ⟨[.u,.t (.op 0 0),.u,.t (.op 1 0),.h]++(us' 85),[.r [.u,.u,.u,.u,.u,.u,.u,.u,.u,.u,.u,.u,.u,.u,.u,.u,.u,.u,.u,.h,.h] 33,.r [.u,.u,.u,.u,.u,.u,.u,.u,.u,.h,.h,.h,.h,.h,.h,.h,.h,.h] 30]⟩,
 ⟨[.u,.t (.op 0 0),.u,.t (.op 1 0)]++(us' 86),[.r [.u,.u,.u,.u,.u,.u,.u,.u,.u,.u,.u,.u,.u,.u,.u,.u,.u,.u,.u,.h,.h] 33,.r [.u,.u,.u,.u,.u,.u,.u,.u,.u,.h,.h,.h,.h,.h,.h,.h,.h,.h] 30]⟩,
 ⟨[.u,.u,.h]++(us' 87),[.g,.g]⟩⟩
noncomputable abbrev qAy:Code:=lpc Tryz.prog 13 [false,true,false,true,true,true]
theorem qJh:cAt Tryz.prog 13 [false,true,false,true,true,true]=some (.loop qAy):=by kernel_rfl
noncomputable abbrev zLl(OD:Od)(e:Lo):Hs→Option (Hs⊕(Ex×Hs)):=Llo0.stp (evD Tryz.prog OD e 60) 13 [false,true,false,true,true,true] qAy
noncomputable def Llo1:Lp:=⟨2,
 ⟨[.u,.t (.op 0 0),.u,.t (.op 1 0),.u,.h]++(us' 84),[.r [.u,.u,.u,.u,.u,.u,.u,.u,.u,.u,.u,.u,.u,.u,.u,.u,.u,.u,.u,.h,.h] 33,.r [.u,.u,.u,.u,.u,.u,.u,.u,.u,.h,.h,.h,.h,.h,.h,.h,.h,.h] 30]⟩,
 ⟨us' 3++([.t (.op 1 0)]++(us' 86)),[.r [.u,.u,.u,.u,.u,.u,.u,.u,.u,.u,.u,.u,.u,.u,.u,.u,.u,.u,.u,.h,.h] 33,.r [.u,.u,.u,.u,.u,.u,.u,.u,.u,.h,.h,.h,.h,.h,.h,.h,.h,.h] 30]⟩,
 ⟨[.u,.u,.h]++(us' 87),[.g,.g]⟩⟩
noncomputable abbrev qAz:Code:=lpc Tryz.prog 13 [false,true,false,true,true,true,true]
theorem qJi:cAt Tryz.prog 13 [false,true,false,true,true,true,true]=some (.loop qAz):=by kernel_rfl
noncomputable abbrev zLm(OD:Od)(e:Lo):Hs→Option (Hs⊕(Ex×Hs)):=Llo1.stp (evD Tryz.prog OD e 60) 13 [false,true,false,true,true,true,true] qAz
theorem sLo0(i:Nat)(C st V:Raw)(F I:List (List Int)):zLl (odT []) (loT []) (iLo i C st V F I)=bif ilt (.ofNat i) (.ofNat F.length)then gd (Nat.blt i F.length) (bif ilt (.ofNat 10) (.ofNat ((nth nT.list.zero F i).length))then some (.inr (.r,⟨[.v (.bool true)],[],[[],[]]⟩))else nx i (.inl (iLo (i+1) C st V F I)))else some (.inr (.x 0,(xLo C st V F I))):=by kernel_rfl
theorem sLo1(i:Nat)(C st V:Raw)(F I:List (List Int)):zLm (odT []) (loT []) (iLo i C st V F I)=bif ilt (.ofNat i) (.ofNat I.length)then gd (Nat.blt i I.length) (bif ilt (.ofNat 300) (.ofNat ((nth nT.list.zero I i).length))then some (.inr (.r,⟨[.v (.bool true)],[],[[],[]]⟩))else nx i (.inl (iLo (i+1) C st V F I)))else some (.inr (.x 2,(xLo C st V F I))):=by kernel_rfl
noncomputable def iBi(l:List Wt)(x:List Rt)(b:Nat)(be e:Bool)(i:Nat)(h o t:List Int)(G:List Bd)(P D S:Int)(O U:List Nz)(C st V:Raw)(Z:Int)(F I:List (List Int))(L Y:Int):Hs:=⟨[.ls .a wT l,.ls .n zL x,vn b,.v (.bool be),.v (.bool e),vn i],[],[[.ls .a nT h,.ls .a nT o,.ls .a nT t,.ls .a bT G,vi P,vi D,vi S,.ls .a nzT O,.ls .a nzT U,.v (.bool C.1),.ls .a .lim C.2,.ls .a .lim C.3,.v (.bool st.1),.ls .a .lim st.2,.ls .a .lim st.3,.v (.bool V.1),.ls .a .lim V.2,.ls .a .lim V.3,vi Z,.ls .a (.list nT) F,.ls .a (.list nT) I,vi L,vi Y]]⟩
noncomputable def xBi(l:List Wt)(x:List Rt)(b:Nat)(be e:Bool)(h o t:List Int)(G:List Bd)(P D S:Int)(O U:List Nz)(C st V:Raw)(Z:Int)(F I:List (List Int))(L Y:Int):Hs:=⟨[.ls .a wT l,.ls .n zL x,vn b,.v (.bool be),.v (.bool e)],[],[[.ls .a nT h,.ls .a nT o,.ls .a nT t,.ls .a bT G,vi P,vi D,vi S,.ls .a nzT O,.ls .a nzT U,.v (.bool C.1),.ls .a .lim C.2,.ls .a .lim C.3,.v (.bool st.1),.ls .a .lim st.2,.ls .a .lim st.3,.v (.bool V.1),.ls .a .lim V.2,.ls .a .lim V.3,vi Z,.ls .a (.list nT) F,.ls .a (.list nT) I,vi L,vi Y]]⟩
noncomputable def iBo(l:List Wt)(x:List Rt)(b:Nat)(h o t:List Int)(G:List Bd)(P D S:Int)(O U:List Nz)(C st V:Raw)(Z:Int)(F I:List (List Int))(L Y:Int):Hs:=⟨[.ls .a wT l,.ls .n zL x,vn b],[],[[.ls .a nT h,.ls .a nT o,.ls .a nT t,.ls .a bT G,vi P,vi D,vi S,.ls .a nzT O,.ls .a nzT U,.v (.bool C.1),.ls .a .lim C.2,.ls .a .lim C.3,.v (.bool st.1),.ls .a .lim st.2,.ls .a .lim st.3,.v (.bool V.1),.ls .a .lim V.2,.ls .a .lim V.3,vi Z,.ls .a (.list nT) F,.ls .a (.list nT) I,vi L,vi Y]]⟩
noncomputable def xBo(x:List Rt)(h o t:List Int)(G:List Bd)(P D S:Int)(O U:List Nz)(C st V:Raw)(Z:Int)(F I:List (List Int))(L Y:Int):Hs:=⟨[.ls .n zL x],[],[[.ls .a nT h,.ls .a nT o,.ls .a nT t,.ls .a bT G,vi P,vi D,vi S,.ls .a nzT O,.ls .a nzT U,.v (.bool C.1),.ls .a .lim C.2,.ls .a .lim C.3,.v (.bool st.1),.ls .a .lim st.2,.ls .a .lim st.3,.v (.bool V.1),.ls .a .lim V.2,.ls .a .lim V.3,vi Z,.ls .a (.list nT) F,.ls .a (.list nT) I,vi L,vi Y]]⟩
noncomputable def Lbi:Lp:=⟨1,
 ⟨[.u,.h,.t (.op 0 0),.u,.u,.h,.u,.h,.h,.h,.h]++(us' 123),[.r [.h,.h,.h,.h,.h,.h,.h,.h,.h,.h,.h,.h,.h,.h,.h,.h,.h,.h,.h,.h,.h,.h,.h,.u,.u,.u,.u,.u,.u,.u,.u,.u,.u] 37]⟩,
 ⟨[.u,.h,.t (.op 0 0),.u,.u,.h,.u,.h,.h,.h]++(us' 124),[.r [.h,.h,.h,.h,.h,.h,.h,.h,.h,.h,.h,.h,.h,.h,.h,.h,.h,.h,.h,.h,.h,.h,.h,.u,.u,.u,.u,.u,.u,.u,.u,.u,.u] 37]⟩,
 ⟨us' 4++([.h]++(us' 129)),[.g]⟩⟩
noncomputable abbrev qPb:Code:=lpc Tryz.prog 5 [false,true,false,true,false,false,true,false,false,true,false,true,true,true,true]
theorem qRw:cAt Tryz.prog 5 [false,true,false,true,false,false,true,false,false,true,false,true,true,true,true]=some (.loop qPb):=by kernel_rfl
noncomputable abbrev qPc(OD:Od)(e:Lo):Hs→Option (Hs⊕(Ex×Hs)):=Lbi.stp (evD Tryz.prog OD e 60) 5 [false,true,false,true,false,false,true,false,false,true,false,true,true,true,true] qPb
noncomputable def Lbo:Lp:=⟨1,
 ⟨[.u,.h,.t (.op 0 0),.u,.u,.h,.u,.h]++(us' 126),[.r [.h,.h,.h,.h,.h,.h,.h,.h,.h,.h,.h,.h,.h,.h,.h,.h,.h,.h,.h,.h,.h,.h,.h,.u,.u,.u,.u,.u,.u,.u,.u,.u,.u] 37]⟩,
 ⟨[.u,.u,.t (.op 0 0),.u,.u,.h]++(us' 128),[.r [.h,.h,.h,.h,.h,.h,.h,.h,.h,.h,.h,.h,.h,.h,.h,.h,.h,.h,.h,.h,.h,.h,.h,.u,.u,.u,.u,.u,.u,.u,.u,.u,.u] 37]⟩,
 ⟨us' 4++([.h]++(us' 129)),[.g]⟩⟩
noncomputable abbrev qPd:Code:=lpc Tryz.prog 5 [false,true,false,true,true,true,true]
theorem qRx:cAt Tryz.prog 5 [false,true,false,true,true,true,true]=some (.loop qPd):=by kernel_rfl
noncomputable abbrev qPe(OD:Od)(e:Lo):Hs→Option (Hs⊕(Ex×Hs)):=Lbo.stp (evD Tryz.prog OD e 60) 5 [false,true,false,true,true,true,true] qPd
theorem sBi(okL:LF Bool)(lL:LF (List Rt))(lP:LF Nat)(cm ce:Raw→Raw→Int)(l:List Wt)(x:List Rt)(b:Nat)(be e:Bool)(i:Nat)(h o t:List Int)(G:List Bd)(P D S:Int)(O U:List Nz)(C st V:Raw)(Z:Int)(F I:List (List Int))(L Y:Int):qPc (odT [(32,odR [tbT,nT,nT,nT,nT,nT] (oLk okL lL lP)),(33,kcD (pRI fun a b=>(cm a b,ce a b)) true)]) (loT []) (iBi l x b be e i h o t G P D S O U C st V Z F I L Y)=bif ilt (.ofNat i) (.ofNat l.length)then gd (Nat.blt i l.length) (gd (Nat.blt F.length 9223372036854775807) (bif ptO okL h o t G P D S O U C st V Z F I L Y l i then(bif !ieq (.ofNat (ptL lL h o t G P D S O U C st V Z F I L Y l i).length) (.ofNat x.length)then some (.inr (.r,⟨[.v (.bool false)],[],[[]]⟩))else gd (Nat.blt b (ptL lL h o t G P D S O U C st V Z F I L Y l i).length) (gd (Nat.blt b x.length) (bif !ieq (ce (xI (ptL lL h o t G P D S O U C st V Z F I L Y l i) b) (xI x b)) 0 then some (.inr (.r,⟨[.v (.bool false)],[],[[]]⟩))else(bif ieq (.ofNat l.length) (.ofNat 1)then(bif !ieq (cm (xI (ptL lL h o t G P D S O U C st V Z F I L Y l i) b) (xI x b)) 0 then some (.inr (.r,⟨[.v (.bool false)],[],[[]]⟩))else(bif be then(bif e then nx i (.inl (iBi l x b true true (i+1) h o t G P D S O U C st V Z F I L Y))else nx i (.inl (iBi l x b true (bif ilt (cm (xI (ptL lL h o t G P D S O U C st V Z F I L Y l i) b) (xI x b)) (.ofNat 0)then false else true) (i+1) h o t G P D S O U C st V Z F I L Y)))else(bif e then nx i (.inl (iBi l x b (bif ilt (.ofNat 0) (cm (xI (ptL lL h o t G P D S O U C st V Z F I L Y l i) b) (xI x b))then false else true) true (i+1) h o t G P D S O U C st V Z F I L Y))else nx i (.inl (iBi l x b (bif ilt (.ofNat 0) (cm (xI (ptL lL h o t G P D S O U C st V Z F I L Y l i) b) (xI x b))then false else true) (bif ilt (cm (xI (ptL lL h o t G P D S O U C st V Z F I L Y l i) b) (xI x b)) (.ofNat 0)then false else true) (i+1) h o t G P D S O U C st V Z F I L Y)))))else(bif be then(bif e then nx i (.inl (iBi l x b true true (i+1) h o t G P D S O U C st V Z F I L Y))else nx i (.inl (iBi l x b true (bif ilt (cm (xI (ptL lL h o t G P D S O U C st V Z F I L Y l i) b) (xI x b)) (.ofNat 0)then false else true) (i+1) h o t G P D S O U C st V Z F I L Y)))else(bif e then nx i (.inl (iBi l x b (bif ilt (.ofNat 0) (cm (xI (ptL lL h o t G P D S O U C st V Z F I L Y l i) b) (xI x b))then false else true) true (i+1) h o t G P D S O U C st V Z F I L Y))else nx i (.inl (iBi l x b (bif ilt (.ofNat 0) (cm (xI (ptL lL h o t G P D S O U C st V Z F I L Y l i) b) (xI x b))then false else true) (bif ilt (cm (xI (ptL lL h o t G P D S O U C st V Z F I L Y l i) b) (xI x b)) (.ofNat 0)then false else true) (i+1) h o t G P D S O U C st V Z F I L Y))))))))else some (.inr (.r,⟨[.v (.bool false)],[],[[]]⟩))))else some (.inr (.x 2,xBi l x b be e h o t G P D S O U C st V Z F I L Y)):=by kernel_rfl
section
variable (okL:LF Bool)(lL:LF (List Rt))(cm ce:Raw→Raw→Int)
noncomputable def gBi(h o t:List Int)(G:List Bd)(P D S:Int)(O U:List Nz)(C st V:Raw)(Z:Int)(F I:List (List Int))(L Y:Int)(l:List Wt)(x:List Rt)(b i:Nat)(s:Bool×Bool):(Bool×Bool)⊕Option (Bool×Bool):=bif ptO okL h o t G P D S O U C st V Z F I L Y l i&&ieq (.ofNat (ptL lL h o t G P D S O U C st V Z F I L Y l i).length) (.ofNat x.length)then(bif ieq (ce (xI (ptL lL h o t G P D S O U C st V Z F I L Y l i) b) (xI x b)) 0 then(bif ieq (.ofNat l.length) 1&&!ieq (cm (xI (ptL lL h o t G P D S O U C st V Z F I L Y l i) b) (xI x b)) 0 then .inr none else .inl (s.1||!ilt 0 (cm (xI (ptL lL h o t G P D S O U C st V Z F I L Y l i) b) (xI x b)),s.2||!ilt (cm (xI (ptL lL h o t G P D S O U C st V Z F I L Y l i) b) (xI x b)) 0))else .inr none)else .inr none
noncomputable def biF(h o t:List Int)(G:List Bd)(P D S:Int)(O U:List Nz)(C st V:Raw)(Z:Int)(F I:List (List Int))(L Y:Int)(l:List Wt)(x:List Rt)(b:Nat):Option (Bool×Bool):=fol (gBi okL lL cm ce h o t G P D S O U C st V Z F I L Y l x b) some l.length 0 (false,false)
noncomputable def gBo(h o t:List Int)(G:List Bd)(P D S:Int)(O U:List Nz)(C st V:Raw)(Z:Int)(F I:List (List Int))(L Y:Int)(l:List Wt)(x:List Rt)(b:Nat)(_:Unit):Unit⊕Bool:=match biF okL lL cm ce h o t G P D S O U C st V Z F I L Y l x b with
 | some s=>bif s.1&&s.2 then .inl ()else .inr false
 | none=> .inr false
noncomputable def boF(h o t:List Int)(G:List Bd)(P D S:Int)(O U:List Nz)(C st V:Raw)(Z:Int)(F I:List (List Int))(L Y:Int)(l:List Wt)(x:List Rt):Bool:=fol (gBo okL lL cm ce h o t G P D S O U C st V Z F I L Y l x) (fun _=>true) x.length 0 ()
noncomputable def qQs(h o t:List Int)(G:List Bd)(P D S:Int)(O U:List Nz)(C st V:Raw)(Z:Int)(F I:List (List Int))(L Y:Int)(l:List Wt)(x:List Rt)(b:Nat):Option (Bool×Bool)→Ex×Hs
 | some s=>(.x 2,xBi l x b s.1 s.2 h o t G P D S O U C st V Z F I L Y)
 | none=>(.r,⟨[.v (.bool false)],[],[[]]⟩)
noncomputable def qQt(h o t:List Int)(G:List Bd)(P D S:Int)(O U:List Nz)(C st V:Raw)(Z:Int)(F I:List (List Int))(L Y:Int)(x:List Rt):Bool→Ex×Hs
 | true=>(.x 0,xBo x h o t G P D S O U C st V Z F I L Y)
 | false=>(.r,⟨[.v (.bool false)],[],[[]]⟩)
end
theorem qHi:r0.rat=0:=qAj
theorem qZi:r0.chk=0:=qIx
noncomputable def vO(f:Nat→Rat):Nat→Rat
 | 0=>0
 | m+1=>vO f m+f m
theorem zIj{f g:Nat→Rat}:∀m,(∀i,i<m→f i=g i)→vO f m=vO g m
 | 0,_=>rfl
 | m+1,h=>by show vO f m+f m=vO g m+g m;rw[zIj m fun i e=>h i (by omega),h m (by omega)]
theorem zWk{w s:Nat→Rat}{x:Rat}:∀m,(∀i,i<m→0<w i)→(∀i,i<m→x<s i)→vO w m*x≤vO (fun i=>w i*s i) m∧(0<m→vO w m*x<vO (fun i=>w i*s i) m)
 | 0,_,_=>⟨by show(0:Rat)*x≤0;grind,fun h=>by omega⟩
 | m+1,f,hs=>by
  have q:=(zWk m (fun i j=>f i (by omega)) (fun i j=>hs i (by omega))).1
  have k:w m*x<w m*s m:=Rat.mul_lt_mul_of_pos_left (hs m (by omega)) (f m (by omega))
  have e:vO w (m+1)*x<vO (fun i=>w i*s i) (m+1):=by
   show(vO w m+w m)*x<vO (fun i=>w i*s i) m+w m*s m;rw[Rat.add_mul];grind
  exact⟨Rat.le_of_lt e,fun _=>e⟩
theorem zWj{w s:Nat→Rat}{x:Rat}:∀m,(∀i,i<m→0<w i)→(∀i,i<m→s i<x)→vO (fun i=>w i*s i) m≤vO w m*x∧(0<m→vO (fun i=>w i*s i) m<vO w m*x)
 | 0,_,_=>⟨by show(0:Rat)≤0*x;grind,fun h=>by omega⟩
 | m+1,f,hs=>by
  have q:=(zWj m (fun i j=>f i (by omega)) (fun i j=>hs i (by omega))).1
  have k:w m*s m<w m*x:=Rat.mul_lt_mul_of_pos_left (hs m (by omega)) (f m (by omega))
  have e:vO (fun i=>w i*s i) (m+1)<vO w (m+1)*x:=by
   show vO (fun i=>w i*s i) m+w m*s m<(vO w m+w m)*x;rw[Rat.add_mul];grind
  exact⟨Rat.le_of_lt e,fun _=>e⟩
theorem qMq{w s:Nat→Rat}{x:Rat}{m:Nat}(f:0<m)(k:∀i,i<m→0<w i)(j:vO w m=1)(q:x=vO (fun i=>w i*s i) m):(∃i,i<m∧s i≤x)∧∃i,i<m∧x≤s i:=by
 constructor
 ·refine Classical.byContradiction fun hn=>?_;have:=(zWk m k (fun i e=>Rat.not_le.1 fun h=>hn ⟨i,e,h⟩)).2 f;rw[j,←q]at this;grind
 ·refine Classical.byContradiction fun hn=>?_;have:=(zWj m k (fun i e=>Rat.not_le.1 fun h=>hn ⟨i,e,h⟩)).2 f;rw[j,←q]at this;grind
noncomputable abbrev dtQ(a b:List Rt)(j:Nat):Rat:=(xI a j).rat*(xI b j).rat
theorem qDf{a b:List Rt}:∀(k i:Nat){t f:Raw},fol (gDt adA muA aeA meA a b) Sum.inl k i t=Sum.inl f→t.chk=0→t.rat=vO (dtQ a b) i→f.chk=0∧f.rat=vO (dtQ a b) (i+k)∧∀j,i≤j→j<i+k→(xI a j).chk=0∧(xI b j).chk=0
 | 0,i,t,f,h,B,y=>by cases h;exact⟨B,y,fun j _ _=>by omega⟩
 | k+1,i,t,f,h,B,y=>by
  simp only[fol,gDt]at h;cases e:ieq (meA (xI a i) (xI b i)) 0 with
  | false=>rw[e]at h;cases h
  | true=>
   cases q:ieq (aeA r0 t) 0 with
   | false=>rw[e,q]at h;cases h
   | true=>
    cases w:ieq (aeA (adA r0 t) (muA (xI a i) (xI b i))) 0 with
    | false=>rw[e,q,w]at h;cases h
    | true=>
     rw[e,q,w]at h;have g1:=fV (qL.1 e);have E:=fV (qL.1 q);have A:=fV (qL.1 w);have r:(adA (adA r0 t) (muA (xI a i) (xI b i))).rat=vO (dtQ a b) (i+1):=by
      refine A.2.2.2.1.trans ?_;rw[show(adA r0 t).rat=_ from E.2.2.2.1,show(muA (xI a i) (xI b i)).rat=_ from g1.2.2.2.1,qHi,y,Rat.zero_add];rfl
     obtain⟨J,K,L⟩:=qDf k (i+1) h A.2.2.2.2 r;refine⟨J,by rw[K,show i+1+k=i+(k+1)by omega],fun j z H=>?_⟩
     rcases Nat.eq_or_lt_of_le z with rfl | hlt
     ·exact⟨g1.1,g1.2.1⟩
     ·exact L j hlt (by omega)
theorem jBp{a b:List Rt}(h:zU a b=true):(qP a b).chk=0∧(qP a b).rat=vO (dtQ a b) a.length∧∀j,j<a.length→(xI a j).chk=0∧(xI b j).chk=0:=by
 have h':=h;simp only[zU,zJb,zd]at h';cases f:dtF adA muA aeA meA a b with
 | inr e=>rw[f]at h';cases h'.2
 | inl t=>
  have q:qP a b=t:=by unfold qP dtR;rw[show zJb adA muA aeA meA a b=true from h,f];rfl
  obtain⟨w,k,y⟩:=qDf a.length 0 f qZi qHi;rw[q];rw[Nat.zero_add]at k;exact⟨w,k,fun j z=>y j (Nat.zero_le _) (by omega)⟩
theorem qHk{l:List Rt}{i:Nat}(e:i<l.length):rI l i=l[i]:=by rw[rI,qX];simp[e]
theorem qHq{f:Nat→Rt}{m j:Nat}(e:j<m+1):rI (rvF f m) j=f j:=by
 rw[qHk (by rw[zGa];exact e)]
 simp[jCp]
noncomputable abbrev wQ(l:List Wt)(i:Nat):Rat:=(rw' (xW l i)).rat
theorem zSi{l:List Wt}:∀(k i:Nat){t:Raw×Int},(fol (gB1 adA aeA l) id k i t).2=0→t.2=0∧(t.1.chk=0→t.1.rat=vO (wQ l) i→(fol (gB1 adA aeA l) id k i t).1.chk=0∧(fol (gB1 adA aeA l) id k i t).1.rat=vO (wQ l) (i+k))
 | 0,i,t,h=>⟨h,fun q j=>⟨q,j⟩⟩
 | k+1,i,t,h=>by
  have e:fol (gB1 adA aeA l) id (k+1) i t=fol (gB1 adA aeA l) id k (i+1) (bif ieq t.2 0 then(adA t.1 (rw' (wA l i).2),aeA t.1 (rw' (wA l i).2))else t):=rfl;rw[e]at h ⊢;cases f:ieq t.2 0 with
  | false=>
   rw[f]at h;have:=(zSi k (i+1) h).1;rw[zf]at this;rw[xU this]at f;cases f
  | true=>
   rw[f]at h;rw[ze]at h ⊢;obtain⟨g1,w⟩:=zSi k (i+1) h;refine⟨qL.1 f,fun q j=>?_⟩;have o:=fV (show aeA t.1 (rw' (wA l i).2)=0 from g1);have:=w o.2.2.2.2 (by refine o.2.2.2.1.trans ?_;rw[j];rfl)
   rwa[show i+1+k=i+(k+1)by omega]at this
theorem zAk{x y:Raw}(e:x.chk=0)(f:y.chk=0):yE x y=0↔x.rat=y.rat:=
 ⟨fun h=>by
  have a:=(zSo e f).1 (show yE x y≤0 by omega)
  have b:¬x.rat<y.rat:=fun k=>by have:=(zSp e f).2 k;omega
  grind,fun h=>by
  have a:yE x y≤0:=(zSo e f).2 (by rw[h];exact Rat.le_refl)
  have b:¬yE x y<0:=fun k=>by have:=(zSp e f).1 k;rw[h]at this;exact Rat.lt_irrefl this
  omega⟩
theorem qBz{l:List Wt}(h:bE l=0):vO (wQ l) l.length=1:=by
 unfold bE bcE at h;cases q:Nat.beq l.length 0 with
 | true=>rw[q]at h;cases h
 | false=>
  rw[q,zf]at h;cases w:Nat.blt 4096 l.length with
  | true=>rw[w]at h;cases h
  | false=>
   rw[w,zf]at h;cases j:b0F Raw.chk l with
   | some e=>rw[j]at h;exact absurd h (zGt l.length 0 j)
   | none=>
    rw[j]at h;cases f:ieq (b1F adA aeA frA l).2 0 with
    | false=>rw[f]at h;have h:(b1F adA aeA frA l).2=0:=h;rw[xU h]at f;cases f
    | true=>
     rw[f]at h;cases y:ieq (yE (b1F adA aeA frA l).1 (frA 1)) 0 with
     | false=>rw[y]at h;cases h
     | true=>
      obtain⟨_,g⟩:=zSi l.length 0 (t:=(frA 0,0)) (qL.1 f);obtain⟨g1,k⟩:=g qKs qKt;rw[Nat.zero_add]at k;rw[←k,←qKv];exact(zAk g1 qKu).1 (qL.1 y)
theorem qVk{l:List Wt}{i:Nat}(h:gB l i= .inl ()):(wA l i).2.1=false:=by
 cases k:(wA l i).2.1 with
 | false=>rfl
 | true=>
  unfold gB gB0 at h;cases e:zEv (wA l i).1 with
  | true=>rw[e]at h;cases h
  | false=>
   rw[e,zf]at h;cases f:(ilt 0 (.ofNat i)&&!ilt (cpP (wA l (i-1)).1 (wA l i).1) 0)with
   | true=>rw[f]at h;cases h
   | false=>
    rw[f,zf]at h;cases j:ieq (Raw.chk (rw' (wA l i).2)) 0 with
    | false=>rw[j]at h;cases h
    | true=>rw[j,k]at h;cases h
theorem jAt{l:List Wt}(h:bE l=0){i:Nat}(q:i<l.length):0<wQ l i:=by
 have g:=jBm h i q;obtain⟨_,j,k⟩:=qVj g;have hn:=qVk g;obtain⟨_,_,f,_⟩:=Raw.chk_ok j;have w:0≤wQ l i:=zUg (x:=rw' (xW l i)) hn;have e:wQ l i≠0:=by
  show(rw' (xW l i)).rat≠0;unfold Raw.rat;rw[show(rw' (xW l i)).neg=false from hn,Rat.mkRat_ne_zero (Nat.pos_iff_ne_zero.1 (rw' (xW l i)).d_pos)];have:0<val (xW l i).2.1:=wU f (List.length_pos_iff.2 k);unfold sgn;simp only[Bool.false_eq_true,if_false];omega
 grind
theorem zYd(h o t:List Int)(G:List Bd)(P D S:Int)(O U:List Nz)(C st V:Raw)(Z:Int)(F I:List (List Int)){L Y:Int}{l:List Wt}:∀(k i:Nat),fol (gEx jD lkP h o t G P D S O U C st V Z F I L Y l) (fun _=>none) k i ()=none→∀j,i≤j→j<i+k→ptO jD h o t G P D S O U C st V Z F I L Y l (j+1)=true
 | 0,i,_,j,f,q=>by omega
 | k+1,i,hh,j,f,q=>by
  simp only[fol,gEx]at hh;cases e:ptO jD h o t G P D S O U C st V Z F I L Y l (i+1)with
  | false=>rw[e]at hh;cases hh
  | true=>
   rw[e]at hh;rcases Nat.eq_or_lt_of_le f with rfl | hlt
   ·exact e
   ·exact zYd h o t G P D S O U C st V Z F I k (i+1) hh j hlt (by omega)
theorem zYe{okD:List Rt→List Rt→Bool}{dR:List Rt→List Rt→Raw}{dP:List Rt→List Rt→Nat}{w e:Nat→Nat→Rt}{m:Nat}:∀(k b:Nat)(acc:List Raw){x:List Raw},xpL okD dR dP w e m k b acc= .inl x→x=acc.reverse++(List.range' b k).map (fun j=>dR (rvF (w 0) m) (rvF (e j) m))∧∀j,b≤j→j<b+k→okD (rvF (w 0) m) (rvF (e j) m)=true
 | 0,b,acc,x,h=>by cases h;exact⟨(List.append_nil _).symm,fun j _ _=>by omega⟩
 | k+1,b,acc,x,h=>by
  simp only[xpL]at h;cases H:okD (rvF (w 0) m) (rvF (e b) m)with
  | false=>rw[H]at h;cases h
  | true=>
   rw[H]at h;obtain⟨f,q⟩:=zYe k (b+1) _ h;refine⟨by rw[f,List.reverse_cons,List.append_assoc,List.range'_succ];rfl,fun j y z=>?_⟩
   rcases Nat.eq_or_lt_of_le y with rfl | hlt
   ·exact H
   ·exact q j hlt (by omega)
noncomputable abbrev xDt(h o t:List Int)(G:List Bd)(P D S:Int)(O U:List Nz)(C st V:Raw)(Z:Int)(F I:List (List Int))(L:Int)(l:List Wt)(Y:Int)(b:Nat):Raw:=qP (rvF (xW l) (l.length-1)) (rvF (lH lkL h o t G P D S O U C st V Z F I L Y l b) (l.length-1))
structure zIz(h o t:List Int)(G:List Bd)(P D S:Int)(O U:List Nz)(C st V:Raw)(Z:Int)(F I:List (List Int))(L:Int)(l:List Wt)(Y:Int):Prop where
 be:bE l=0
 pt:∀i,i<l.length→ptO jD h o t G P D S O U C st V Z F I L Y l i=true
 v:xpV h o t G P D S O U C st V Z F I L l Y=(List.range G.length).map fun b=>toT (xDt h o t G P D S O U C st V Z F I L l Y b)
 dt:∀b,b<G.length→zU (rvF (xW l) (l.length-1)) (rvF (lH lkL h o t G P D S O U C st V Z F I L Y l b) (l.length-1))=true
theorem jCw(h o t:List Int)(G:List Bd)(P D S:Int)(O U:List Nz)(C st V:Raw)(Z:Int)(F I:List (List Int)){L:Int}{l:List Wt}{Y:Int}(y:xpO h o t G P D S O U C st V Z F I L l Y=true):zIz h o t G P D S O U C st V Z F I L l Y:=by
 have key:∀{r},xpR h o t G P D S O U C st V Z F I L l Y=r→isR r=true→zIz h o t G P D S O U C st V Z F I L l Y:=fun{r}hr hh=>by
  have q:=hr;unfold xpR at hr;cases f:ieq (bE l) 0 with
  | false=>rw[f]at hr;subst hr;cases hh
  | true=>
   cases j:ptO jD h o t G P D S O U C st V Z F I L Y l 0 with
   | false=>rw[f,j]at hr;subst hr;cases hh
   | true=>
    cases k:xpF jD lkP h o t G P D S O U C st V Z F I L Y l with
    | some e=>rw[f,j,k]at hr;subst hr;cases hh
    | none=>
     rw[f,j,k]at hr;have hr:xpL zU qP qZ (fun _=>xW l) (lH lkL h o t G P D S O U C st V Z F I L Y l) (l.length-1) G.length 0 []=r:=hr;cases r with
     | inr e=>cases hh
     | inl x=>
      obtain⟨g1,w⟩:=zYe G.length 0 [] hr;refine⟨qL.1 f,fun i z=>?_,?_,fun b hb=>w b (Nat.zero_le _) (by omega)⟩
      ·cases i with
       | zero=>exact j
       | succ i=>exact zYd h o t G P D S O U C st V Z F I (l.length-1) 0 k i (Nat.zero_le _) (by omega)
      ·unfold xpV;rw[q];show x.map toT=_;rw[g1,List.reverse_nil,List.nil_append,List.map_map,←List.range_eq_range'];rfl
 exact key rfl y
section
variable {h o t:List Int}{G:List Bd}{P D S:Int}{O U:List Nz}{C st V:Raw}{Z:Int}{F I:List (List Int)}
theorem zIz.len{L:Int}{l:List Wt}{Y:Int}(e:zIz h o t G P D S O U C st V Z F I L l Y):(xpV h o t G P D S O U C st V Z F I L l Y).length=G.length:=by rw[e.v,List.length_map,List.length_range]
theorem zIz.get{L:Int}{l:List Wt}{Y:Int}(e:zIz h o t G P D S O U C st V Z F I L l Y){b:Nat}(hb:b<G.length):rI (xpV h o t G P D S O U C st V Z F I L l Y) b=toT (xDt h o t G P D S O U C st V Z F I L l Y b):=by
 rw[qHk (by rw[e.len];exact hb)]
 simp[e.v]
noncomputable abbrev sQ(h o t:List Int)(G:List Bd)(P D S:Int)(O U:List Nz)(C st V:Raw)(Z:Int)(F I:List (List Int))(L:Int)(l:List Wt)(Y:Int)(b i:Nat):Rat:=(rw' (lH lkL h o t G P D S O U C st V Z F I L Y l b i)).rat
theorem zIz.sum{L:Int}{l:List Wt}{Y:Int}(f:zIz h o t G P D S O U C st V Z F I L l Y){b:Nat}(hb:b<G.length):(xDt h o t G P D S O U C st V Z F I L l Y b).chk=0∧(xDt h o t G P D S O U C st V Z F I L l Y b).rat=vO (fun i=>wQ l i*sQ h o t G P D S O U C st V Z F I L l Y b i) l.length∧∀i,i<l.length→(rw' (lH lkL h o t G P D S O U C st V Z F I L Y l b i)).chk=0:=by
 have w:=(zGe f.be).1;obtain⟨q,j,k⟩:=jBp (f.dt b hb);have em:l.length-1+1=l.length:=by omega
 rw[zGa,em]at j k;refine⟨q,j.trans (zIj _ fun i e=>?_),fun i e=>?_⟩
 ·show(rw' (rI _ i)).rat*(rw' (rI _ i)).rat=_;rw[qHq (by omega),qHq (by omega)]
 ·have:=(k i e).2;rwa[show xI (rvF (lH lkL h o t G P D S O U C st V Z F I L Y l b) (l.length-1)) i=rw' (rI (rvF (lH lkL h o t G P D S O U C st V Z F I L Y l b) (l.length-1)) i)from rfl,qHq (by omega)]at this
end
theorem jBn{l:List Wt}{x:List Rt}{b i:Nat}{be e:Bool}{h o t:List Int}{G:List Bd}{P D S:Int}{O U:List Nz}{C st V:Raw}{Z:Int}{F I:List (List Int)}{L Y:Int}{p q:Bool}:((bif be then(bif e then nx i (.inl (iBi l x b true true (i+1) h o t G P D S O U C st V Z F I L Y))else nx i (.inl (iBi l x b true (bif q then false else true) (i+1) h o t G P D S O U C st V Z F I L Y)))else(bif e then nx i (.inl (iBi l x b (bif p then false else true) true (i+1) h o t G P D S O U C st V Z F I L Y))else nx i (.inl (iBi l x b (bif p then false else true) (bif q then false else true) (i+1) h o t G P D S O U C st V Z F I L Y)))):Option (Hs⊕(Ex×Hs)))=nx i (.inl (iBi l x b (be||!p) (e||!q) (i+1) h o t G P D S O U C st V Z F I L Y)):=by
 cases be<;>cases e<;>cases p<;>cases q<;>rfl
section
variable (okL:LF Bool)(lL:LF (List Rt))(lP:LF Nat)(cm ce:Raw→Raw→Int)
noncomputable abbrev sGi:Hs→Option (Hs⊕(Ex×Hs)):=qPc (odT [(32,odR [tbT,nT,nT,nT,nT,nT] (oLk okL lL lP)),(33,kcD (pRI fun a b=>(cm a b,ce a b)) true)]) (loT [])
theorem lpBi(h o t:List Int)(G:List Bd)(P D S:Int)(O U:List Nz)(C st V:Raw)(Z:Int)(F I:List (List Int))(L Y:Int)(l:List Wt)(x:List Rt)(b:Nat)(q:l.length<9223372036854775807)(hr:F.length<9223372036854775807)(hb:b<x.length):lpF (sGi okL lL lP cm ce) l.length (iBi l x b false false 0 h o t G P D S O U C st V Z F I L Y)=some (qQs h o t G P D S O U C st V Z F I L Y l x b (biF okL lL cm ce h o t G P D S O U C st V Z F I L Y l x b)):=
 jP (st:=sGi okL lL lP cm ce) (iv:=fun i(s:Bool×Bool)=>iBi l x b s.1 s.2 i h o t G P D S O U C st V Z F I L Y) (g:=gBi okL lL cm ce h o t G P D S O U C st V Z F I L Y l x b) (d:=some) (out:=qQs h o t G P D S O U C st V Z F I L Y l x b) (n:=l.length) (fun _ _=>True)
  (fun i s f _=>by
   refine(sBi ..).trans ?_;unfold gBi;have e:ilt (.ofNat i) (.ofNat l.length)=true:=zP f;rw[e,ze,zP f,zP hr,jBn];cases ptO okL h o t G P D S O U C st V Z F I L Y l i with
   | false=>rfl
   | true=>
    cases j:ieq (.ofNat (ptL lL h o t G P D S O U C st V Z F I L Y l i).length) (.ofNat x.length)with
    | false=>rfl
    | true=>
     have k:(ptL lL h o t G P D S O U C st V Z F I L Y l i).length=x.length:=Int.ofNat.inj (qL.1 j);rw[k,zP hb,xZ (show i+1<9223372036854775808 by omega)]
     cases ieq (ce (xI (ptL lL h o t G P D S O U C st V Z F I L Y l i) b) (xI x b)) 0 with
     | false=>rfl
     | true=>cases ieq (.ofNat l.length) (.ofNat 1)with
      | false=>rfl
      | true=>cases ieq (cm (xI (ptL lL h o t G P D S O U C st V Z F I L Y l i) b) (xI x b)) 0<;>rfl)
  (fun _ _ _ _ _ _=>trivial)
  (fun s _=>by
   refine(sBi ..).trans ?_;have e:ilt (.ofNat l.length) (.ofNat l.length)=false:=yL (Nat.le_refl _);rw[e];rfl) l.length 0 (false,false) (by omega) trivial
noncomputable def isB:Option (Bool×Bool)→Bool
 | some _=>true
 | none=>false
noncomputable def fB:Option (Bool×Bool)→Bool×Bool
 | some s=>s
 | none=>(false,false)
noncomputable def qVp(l:List Wt)(x:List Rt)(b:Nat):List T→DT (Ex×Hs)
 | [.ls .a (.int .i64) h,.ls .a (.int .i64) o,.ls .a (.int .i64) t,.ls .a (.prod (.int .u8) (.prod (.int .i64) (.int .i64))) G,.v (.int .i64 P),.v (.int .i64 D),.v (.int .i64 S),.ls .a (.prod (.int .i64) zL) O,.ls .a (.prod (.int .i64) zL) U,.v (.bool e),.ls .a .lim C,.ls .a .lim am,.v (.bool q),.ls .a .lim sl,.ls .a .lim sm,.v (.bool f),.ls .a .lim j,.ls .a .lim k,.v (.int .i64 Z),.ls .a (.list (.int .i64)) F,.ls .a (.list (.int .i64)) I,.v (.int .i64 L),.v (.int .i64 Y)]=>grd (Nat.blt l.length 9223372036854775807&&(Nat.blt F.length 9223372036854775807&&Nat.blt b x.length)) (.ite (isB (biF okL lL cm ce h o t G P D S O U ⟨e,C,am⟩ ⟨q,sl,sm⟩ ⟨f,j,k⟩ Z F I L Y l x b)) (.ret (.x 2,xBi l x b (fB (biF okL lL cm ce h o t G P D S O U ⟨e,C,am⟩ ⟨q,sl,sm⟩ ⟨f,j,k⟩ Z F I L Y l x b)).1 (fB (biF okL lL cm ce h o t G P D S O U ⟨e,C,am⟩ ⟨q,sl,sm⟩ ⟨f,j,k⟩ Z F I L Y l x b)).2 h o t G P D S O U ⟨e,C,am⟩ ⟨q,sl,sm⟩ ⟨f,j,k⟩ Z F I L Y)) (.ret (.r,⟨[.v (.bool false)],[],[[]]⟩)))
 | _=> .no
noncomputable def hBi:Hs→DT (Ex×Hs)
 | ⟨[.ls .a (.prod (.prod (.int .i64) (.prod (.int .i64) (.int .i64))) zL) l,.ls .n (.prod .bool (.prod (.list .lim) (.list .lim))) x,.v (.int .i64 (.ofNat b)),.v (.bool false),.v (.bool false),.v (.int .i64 (.ofNat 0))],[],[ks]⟩=>qVp okL lL cm ce l x b ks
 | _=> .no
theorem qLb{l:List Wt}{x:List Rt}{b:Nat}{ks:List T}:∀y,(qVp okL lL cm ce l x b ks).run=some y→∃j,It (sGi okL lL lP cm ce) j ⟨[.ls .a wT l,.ls .n zL x,vn b,.v (.bool false),.v (.bool false),vn 0],[],[ks]⟩ y:=fun y hh=>by
 unfold qVp at hh;split at hh
 ·rename_i h o t G P D S O U e C am A sl sm q w z Z F I L Y;obtain⟨f,k⟩:=zS hh;simp only[zd]at f;obtain⟨g1,B,E⟩:=f;have:=kT _ _ (lpBi okL lL lP cm ce h o t G P D S O U ⟨e,C,am⟩ ⟨A,sl,sm⟩ ⟨q,w,z⟩ Z F I L Y l x b (jC g1) (jC B) (jC E));cases hb:biF okL lL cm ce h o t G P D S O U ⟨e,C,am⟩ ⟨A,sl,sm⟩ ⟨q,w,z⟩ Z F I L Y l x b<;>rw[hb]at k this<;>cases k<;>exact this
 ·cases hh
theorem qVq:∀q y,(hBi okL lL cm ce q).run=some y→∃n,It (sGi okL lL lP cm ce) n q y:=fun q y hh=>by
 unfold hBi at hh;split at hh
 ·exact qLb okL lL lP cm ce y hh
 ·cases hh
noncomputable abbrev LBi:Lo:=loT [(5,[false,true,false,true,false,false,true,false,false,true,false,true,true,true,true],Lbi.row (hBi okL lL cm ce))]
end
theorem qCa{c:Nat→Int}{g:Nat→Bool×Bool→(Bool×Bool)⊕Option (Bool×Bool)}{n:Nat}(h:∀i s,i<n→g i s= .inl (s.1||!ilt 0 (c i),s.2||!ilt (c i) 0)):∀(k i:Nat)(s:Bool×Bool),i+k=n→∃f,fol g some k i s=some f∧(s.1=true→f.1=true)∧(s.2=true→f.2=true)∧∀j,i≤j→j<n→(c j≤0→f.1=true)∧(0≤c j→f.2=true)
 | 0,i,s,e=>⟨s,rfl,id,id,fun j _ _=>by omega⟩
 | k+1,i,s,e=>by
  obtain⟨f,z,w,y,A⟩:=qCa h k (i+1) (s.1||!ilt 0 (c i),s.2||!ilt (c i) 0) (by omega)
  refine⟨f,by simp only[fol];rw[h i s (by omega)];exact z,fun q=>w (by show(s.1||_)=true;rw[q];rfl),fun q=>y (by show(s.2||_)=true;rw[q];rfl),fun j B E=>?_⟩
  rcases Nat.eq_or_lt_of_le B with rfl | hlt
  ·exact⟨fun q=>w (by show(s.1||!ilt 0 (c i))=true;rw[zPk q,Bool.not_false,Bool.or_true]),fun q=>y (by show(s.2||!ilt (c i) 0)=true;rw[zPk q,Bool.not_false,Bool.or_true])⟩
  ·exact A j hlt E
theorem qTd(h o t:List Int)(G:List Bd)(P D S:Int)(O U:List Nz)(C st V:Raw)(Z:Int)(F I:List (List Int)){L:Int}{l:List Wt}{Y:Int}(f:zIz h o t G P D S O U C st V Z F I L l Y){b:Nat}(hb:b<G.length):biF jD lkL yE xB h o t G P D S O U C st V Z F I L Y l (xpV h o t G P D S O U C st V Z F I L l Y) b=some (true,true):=by
 obtain⟨x1,x2,w⟩:=f.sum hb;have A:=(zGe f.be).1;have ex:xI (xpV h o t G P D S O U C st V Z F I L l Y) b=xDt h o t G P D S O U C st V Z F I L l Y b:=by show rw' (rI _ b)=_;rw[f.get hb]
 have stp:∀i s,i<l.length→gBi jD lkL yE xB h o t G P D S O U C st V Z F I L Y l (xpV h o t G P D S O U C st V Z F I L l Y) b i s= .inl (s.1||!ilt 0 (yE (rw' (lH lkL h o t G P D S O U C st V Z F I L Y l b i)) (xDt h o t G P D S O U C st V Z F I L l Y b)),s.2||!ilt (yE (rw' (lH lkL h o t G P D S O U C st V Z F I L Y l b i)) (xDt h o t G P D S O U C st V Z F I L l Y b)) 0):=fun i s q=>by
  unfold gBi;rw[f.pt i q,ex,xU (show Int.ofNat (ptL lkL h o t G P D S O U C st V Z F I L Y l i).length= .ofNat (xpV h o t G P D S O U C st V Z F I L l Y).length by rw[f.len,zWg h o t G P D S O U C st V Z F I L _ _ _ Y (f.pt i q)])]
  rw[show xB (xI (ptL lkL h o t G P D S O U C st V Z F I L Y l i) b) (xDt h o t G P D S O U C st V Z F I L l Y b)=0 from zSq (w i q) x1,xU rfl];have H:(ieq (.ofNat l.length) 1&&!ieq (yE (xI (ptL lkL h o t G P D S O U C st V Z F I L Y l i) b) (xDt h o t G P D S O U C st V Z F I L l Y b)) 0)=false:=by
   cases e:ieq (.ofNat l.length) 1 with
   | false=>rfl
   | true=>
    have K:l.length=1:=Int.ofNat.inj (qL.1 e);obtain rfl:i=0:=by omega
    have g1:=qBz f.be;rw[K]at g1 x2;have g1:0+wQ l 0=1:=g1;have x2:(xDt h o t G P D S O U C st V Z F I L l Y b).rat=0+wQ l 0*sQ h o t G P D S O U C st V Z F I L l Y b 0:=x2;have J:(rw' (lH lkL h o t G P D S O U C st V Z F I L Y l b 0)).rat=(xDt h o t G P D S O U C st V Z F I L l Y b).rat:=by rw[x2];rw[Rat.zero_add]at g1 ⊢;rw[g1,Rat.one_mul]
    rw[show yE (xI (ptL lkL h o t G P D S O U C st V Z F I L Y l 0) b) (xDt h o t G P D S O U C st V Z F I L l Y b)=0 from(zAk (w 0 A) x1).2 J,xU rfl];rfl
  rw[H];rfl
 obtain⟨N,y,_,_,z⟩:=qCa stp l.length 0 (false,false) (Nat.zero_add _);obtain⟨⟨i,B,M⟩,⟨j,E,Q⟩⟩:=qMq A (fun i q=>jAt f.be q) (qBz f.be) x2;have k1:=(z i (Nat.zero_le _) B).1 ((zSo (w i B) x1).2 M);have k2:=(z j (Nat.zero_le _) E).2 (by
  have:¬yE (rw' (lH lkL h o t G P D S O U C st V Z F I L Y l b j)) (xDt h o t G P D S O U C st V Z F I L l Y b)<0:=fun k=>by
   have:=(zSp (w j E) x1).1 k;have:sQ h o t G P D S O U C st V Z F I L l Y b j<(xDt h o t G P D S O U C st V Z F I L l Y b).rat:=this
   grind
  omega)
 obtain⟨a,c⟩:=N;have k1:a=true:=k1;have k2:c=true:=k2;rw[k1,k2]at y;exact y
theorem qCc{g:Nat→Unit→Unit⊕Bool}{n:Nat}(h:∀b,b<n→g b ()= .inl ()):∀(k i:Nat),i+k=n→fol g (fun _=>true) k i ()=true
 | 0,i,e=>rfl
 | k+1,i,e=>by simp only[fol];rw[h i (by omega)];exact qCc h k (i+1) (by omega)
theorem qTg(h o t:List Int)(G:List Bd)(P D S:Int)(O U:List Nz)(C st V:Raw)(Z:Int)(F I:List (List Int)){L:Int}{l:List Wt}{Y:Int}(e:zIz h o t G P D S O U C st V Z F I L l Y):boF jD lkL yE xB h o t G P D S O U C st V Z F I L Y l (xpV h o t G P D S O U C st V Z F I L l Y)=true:=by
 unfold boF;refine qCc (fun b hb=>?_) (xpV h o t G P D S O U C st V Z F I L l Y).length 0 (Nat.zero_add _);unfold gBo;rw[qTd h o t G P D S O U C st V Z F I e (by rwa[e.len]at hb)];rfl
theorem sBo(okL:LF Bool)(lL:LF (List Rt))(lP:LF Nat)(cm ce:Raw→Raw→Int)(h o t:List Int)(G:List Bd)(P D S:Int)(O U:List Nz)(C st V:Raw)(Z:Int)(F I:List (List Int))(L Y:Int)(l:List Wt)(x:List Rt)(b:Nat):qPe (odT [(32,odR [tbT,nT,nT,nT,nT,nT] (oLk okL lL lP)),(33,kcD (pRI fun a b=>(cm a b,ce a b)) true)]) (LBi okL lL cm ce) (iBo l x b h o t G P D S O U C st V Z F I L Y)=bif ilt (.ofNat b) (.ofNat x.length)then gd ((Nat.blt l.length 9223372036854775807)&&((Nat.blt F.length 9223372036854775807)&&(Nat.blt b x.length))) (bif isB (biF okL lL cm ce h o t G P D S O U C st V Z F I L Y l x b)then(bif !((fB (biF okL lL cm ce h o t G P D S O U C st V Z F I L Y l x b)).1)then some (.inr (.r,⟨[.v (.bool false)],[],[[]]⟩))else(bif !((fB (biF okL lL cm ce h o t G P D S O U C st V Z F I L Y l x b)).2)then some (.inr (.r,⟨[.v (.bool false)],[],[[]]⟩))else nx b (.inl (iBo l x (b+1) h o t G P D S O U C st V Z F I L Y))))else some (.inr (.r,⟨[.v (.bool false)],[],[[]]⟩)))else some (.inr (.x 0,(xBo x h o t G P D S O U C st V Z F I L Y))):=by kernel_rfl
section
variable (okL:LF Bool)(lL:LF (List Rt))(lP:LF Nat)(cm ce:Raw→Raw→Int)
noncomputable abbrev sGo:Hs→Option (Hs⊕(Ex×Hs)):=qPe (odT [(32,odR [tbT,nT,nT,nT,nT,nT] (oLk okL lL lP)),(33,kcD (pRI fun a b=>(cm a b,ce a b)) true)]) (LBi okL lL cm ce)
theorem lpBo(h o t:List Int)(G:List Bd)(P D S:Int)(O U:List Nz)(C st V:Raw)(Z:Int)(F I:List (List Int))(L Y:Int)(l:List Wt)(x:List Rt)(f:l.length<9223372036854775807)(hr:F.length<9223372036854775807)(j:x.length<9223372036854775807):lpF (sGo okL lL lP cm ce) x.length (iBo l x 0 h o t G P D S O U C st V Z F I L Y)=some (qQt h o t G P D S O U C st V Z F I L Y x (boF okL lL cm ce h o t G P D S O U C st V Z F I L Y l x)):=
 jP (st:=sGo okL lL lP cm ce) (iv:=fun b(_:Unit)=>iBo l x b h o t G P D S O U C st V Z F I L Y) (g:=gBo okL lL cm ce h o t G P D S O U C st V Z F I L Y l x) (d:=fun _=>true) (out:=qQt h o t G P D S O U C st V Z F I L Y x) (n:=x.length) (fun _ _=>True)
  (fun b _ hb _=>by
   refine(sBo ..).trans ?_;unfold gBo;have e:ilt (.ofNat b) (.ofNat x.length)=true:=zP hb;rw[e,ze,zP hb,zP hr,zP f,xZ (show b+1<9223372036854775808 by omega)]
   cases biF okL lL cm ce h o t G P D S O U C st V Z F I L Y l x b with
   | none=>rfl
   | some s=>obtain⟨p,q⟩:=s;cases p<;>cases q<;>rfl)
  (fun _ _ _ _ _ _=>trivial)
  (fun _ _=>by
   refine(sBo ..).trans ?_;have e:ilt (.ofNat x.length) (.ofNat x.length)=false:=yL (Nat.le_refl _);rw[e];rfl) x.length 0 () (by omega) trivial
noncomputable def qVr(l:List Wt)(x:List Rt):List T→DT (Ex×Hs)
 | [.ls .a (.int .i64) h,.ls .a (.int .i64) o,.ls .a (.int .i64) t,.ls .a (.prod (.int .u8) (.prod (.int .i64) (.int .i64))) G,.v (.int .i64 P),.v (.int .i64 D),.v (.int .i64 S),.ls .a (.prod (.int .i64) zL) O,.ls .a (.prod (.int .i64) zL) U,.v (.bool e),.ls .a .lim C,.ls .a .lim am,.v (.bool q),.ls .a .lim sl,.ls .a .lim sm,.v (.bool f),.ls .a .lim j,.ls .a .lim k,.v (.int .i64 Z),.ls .a (.list (.int .i64)) F,.ls .a (.list (.int .i64)) I,.v (.int .i64 L),.v (.int .i64 Y)]=>grd (Nat.blt l.length 9223372036854775807&&(Nat.blt F.length 9223372036854775807&&Nat.blt x.length 9223372036854775807)) (.ite (boF okL lL cm ce h o t G P D S O U ⟨e,C,am⟩ ⟨q,sl,sm⟩ ⟨f,j,k⟩ Z F I L Y l x) (.ret (.x 0,xBo x h o t G P D S O U ⟨e,C,am⟩ ⟨q,sl,sm⟩ ⟨f,j,k⟩ Z F I L Y)) (.ret (.r,⟨[.v (.bool false)],[],[[]]⟩)))
 | _=> .no
noncomputable def hBo:Hs→DT (Ex×Hs)
 | ⟨[.ls .a (.prod (.prod (.int .i64) (.prod (.int .i64) (.int .i64))) zL) l,.ls .n (.prod .bool (.prod (.list .lim) (.list .lim))) x,.v (.int .i64 (.ofNat 0))],[],[ks]⟩=>qVr okL lL cm ce l x ks
 | _=> .no
theorem qLc{l:List Wt}{x:List Rt}{ks:List T}:∀y,(qVr okL lL cm ce l x ks).run=some y→∃j,It (sGo okL lL lP cm ce) j ⟨[.ls .a wT l,.ls .n zL x,vn 0],[],[ks]⟩ y:=fun y hh=>by
 unfold qVr at hh;split at hh
 ·rename_i h o t G P D S O U e C am A sl sm q w z Z F I L Y;obtain⟨f,k⟩:=zS hh;simp only[zd]at f;obtain⟨g1,B,E⟩:=f;have:=kT _ _ (lpBo okL lL lP cm ce h o t G P D S O U ⟨e,C,am⟩ ⟨A,sl,sm⟩ ⟨q,w,z⟩ Z F I L Y l x (jC g1) (jC B) (jC E));cases hb:boF okL lL cm ce h o t G P D S O U ⟨e,C,am⟩ ⟨A,sl,sm⟩ ⟨q,w,z⟩ Z F I L Y l x<;>rw[hb]at k this<;>cases k<;>exact this
 ·cases hh
theorem qVs:∀q y,(hBo okL lL cm ce q).run=some y→∃n,It (sGo okL lL lP cm ce) n q y:=fun q y hh=>by
 unfold hBo at hh;split at hh
 ·exact qLc okL lL lP cm ce y hh
 ·cases hh
noncomputable abbrev LBo:Lo:=loT [(5,[false,true,false,true,true,true,true],Lbo.row (hBo okL lL cm ce))]
end
noncomputable def gLo(m:Nat)(q:List (List Int))(i:Nat)(_:Unit):Unit⊕Bool:=bif ilt (.ofNat m) (.ofNat (gI q i).length)then .inr true else .inl ()
noncomputable def loF(m:Nat)(q:List (List Int)):Bool:=fol (gLo m q) (fun _=>false) q.length 0 ()
noncomputable def zXd(x:Nat)(C st V:Raw)(F I:List (List Int)):Bool→Ex×Hs
 | true=>(.r,⟨[.v (.bool true)],[],[[],[]]⟩)
 | false=>(.x x,xLo C st V F I)
theorem jCb(C st V:Raw)(F I:List (List Int))(j:F.length<9223372036854775807):lpF (zLl (odT []) (loT [])) F.length (iLo 0 C st V F I)=some (zXd 0 C st V F I (loF 10 F)):=
 jP (st:=zLl (odT []) (loT [])) (iv:=fun i(_:Unit)=>iLo i C st V F I) (g:=gLo 10 F) (d:=fun _=>false) (out:=zXd 0 C st V F I) (n:=F.length) (fun _ _=>True)
  (fun i _ f _=>by
   refine(sLo0 ..).trans ?_;unfold gLo;have e:ilt (.ofNat i) (.ofNat F.length)=true:=zP f;rw[e,ze,zP f,xZ (show i+1<9223372036854775808 by omega)]
   cases ilt (.ofNat 10) (.ofNat (gI F i).length)<;>rfl)
  (fun _ _ _ _ _ _=>trivial)
  (fun _ _=>by
   refine(sLo0 ..).trans ?_;have e:ilt (.ofNat F.length) (.ofNat F.length)=false:=yL (Nat.le_refl _);rw[e];rfl) F.length 0 () (by omega) trivial
noncomputable def qQj(F I:List (List Int)):List T→DT (Ex×Hs)
 | [.v (.bool e),.ls .a .lim C,.ls .a .lim am,.v (.bool q),.ls .a .lim sl,.ls .a .lim sm,.v (.bool f),.ls .a .lim j,.ls .a .lim k]=>grd (Nat.blt F.length 9223372036854775807) (.ite (loF 10 F) (.ret (.r,⟨[.v (.bool true)],[],[[],[]]⟩)) (.ret (.x 0,xLo ⟨e,C,am⟩ ⟨q,sl,sm⟩ ⟨f,j,k⟩ F I)))
 | _=> .no
noncomputable def qVz:Hs→DT (Ex×Hs)
 | ⟨[.v (.int .i64 (.ofNat 0))],[],[[.ls .a (.list (.int .i64)) F,.ls .a (.list (.int .i64)) I],ks]⟩=>qQj F I ks
 | _=> .no
theorem qLk:∀q y,(qVz q).run=some y→∃n,It (zLl (odT []) (loT [])) n q y:=fun q y hh=>by
 unfold qVz at hh;split at hh
 ·rename_i F I ks;unfold qQj at hh;split at hh
  ·rename_i f C am A sl sm k w z;obtain⟨j,e⟩:=zS hh;have:=kT _ _ (jCb ⟨f,C,am⟩ ⟨A,sl,sm⟩ ⟨k,w,z⟩ F I (jC j));cases hb:loF 10 F<;>rw[hb]at this<;>simp only[DT.run,hb,ze,zf]at e<;>cases e<;>exact this
  ·cases hh
 ·cases hh
theorem jCc(C st V:Raw)(F I:List (List Int))(j:I.length<9223372036854775807):lpF (zLm (odT []) (loT [])) I.length (iLo 0 C st V F I)=some (zXd 2 C st V F I (loF 300 I)):=
 jP (st:=zLm (odT []) (loT [])) (iv:=fun i(_:Unit)=>iLo i C st V F I) (g:=gLo 300 I) (d:=fun _=>false) (out:=zXd 2 C st V F I) (n:=I.length) (fun _ _=>True)
  (fun i _ f _=>by
   refine(sLo1 ..).trans ?_;unfold gLo;have e:ilt (.ofNat i) (.ofNat I.length)=true:=zP f;rw[e,ze,zP f,xZ (show i+1<9223372036854775808 by omega)]
   cases ilt (.ofNat 300) (.ofNat (gI I i).length)<;>rfl)
  (fun _ _ _ _ _ _=>trivial)
  (fun _ _=>by
   refine(sLo1 ..).trans ?_;have e:ilt (.ofNat I.length) (.ofNat I.length)=false:=yL (Nat.le_refl _);rw[e];rfl) I.length 0 () (by omega) trivial
noncomputable def qQk(F I:List (List Int)):List T→DT (Ex×Hs)
 | [.v (.bool e),.ls .a .lim C,.ls .a .lim am,.v (.bool q),.ls .a .lim sl,.ls .a .lim sm,.v (.bool f),.ls .a .lim j,.ls .a .lim k]=>grd (Nat.blt I.length 9223372036854775807) (.ite (loF 300 I) (.ret (.r,⟨[.v (.bool true)],[],[[],[]]⟩)) (.ret (.x 2,xLo ⟨e,C,am⟩ ⟨q,sl,sm⟩ ⟨f,j,k⟩ F I)))
 | _=> .no
noncomputable def qWa:Hs→DT (Ex×Hs)
 | ⟨[.v (.int .i64 (.ofNat 0))],[],[[.ls .a (.list (.int .i64)) F,.ls .a (.list (.int .i64)) I],ks]⟩=>qQk F I ks
 | _=> .no
theorem qLl:∀q y,(qWa q).run=some y→∃n,It (zLm (odT []) (loT [])) n q y:=fun q y hh=>by
 unfold qWa at hh;split at hh
 ·rename_i F I ks;unfold qQk at hh;split at hh
  ·rename_i f C am A sl sm k w z;obtain⟨j,e⟩:=zS hh;have:=kT _ _ (jCc ⟨f,C,am⟩ ⟨A,sl,sm⟩ ⟨k,w,z⟩ F I (jC j));cases hb:loF 300 I<;>rw[hb]at this<;>simp only[DT.run,hb,ze,zf]at e<;>cases e<;>exact this
  ·cases hh
 ·cases hh
noncomputable abbrev LLo:Lo:=loT [(13,[false,true,false,true,true,true],Llo0.row qVz),(13,[false,true,false,true,true,true,true],Llo1.row qWa)]
theorem qXp:vY Tryz.prog LLo:=jX (jX qA lV qJi qLl) lV qJh qLk
theorem jBq(e:List Rt→Bool)(h o t:List Int)(G:List Bd)(P D S:Int)(O U:List Nz)(C st V:Raw)(Z:Int)(F I:List (List Int)):((qK Tryz.prog (evD Tryz.prog (odT [(65,odR [.list zL] (oWd e))]) (LLo) 60) 13 [.ag (tbC h o t G P D S O U C st V Z F I)] []).bind qQ).run=bif ilt (.ofNat 40) (.ofNat h.length)then yB true else(bif ilt (.ofNat 40) (.ofNat o.length)then yB true else(bif ilt (.ofNat 40) (.ofNat t.length)then yB true else(bif ilt (.ofNat 10) (.ofNat G.length)then yB true else(bif ilt (.ofNat 8) (.ofNat O.length)then yB true else(bif ilt (.ofNat 8) (.ofNat U.length)then yB true else(bif ilt (.ofNat 5000) (.ofNat F.length)then yB true else(bif ilt (.ofNat 30) (.ofNat I.length)then yB true else(gd (Nat.blt F.length 9223372036854775807) (bif loF 10 F then yB true else gd (Nat.blt I.length 9223372036854775807) (bif loF 300 I then yB true else yB (e [toT C,toT st,toT V]))))))))))):=by kernel_rfl
noncomputable def lgT(h o t:List Int)(G:List Bd)(P D S:Int)(O U:List Nz)(C st V:Raw)(Z:Int)(F I:List (List Int)):Bool:=bif ilt (.ofNat 40) (.ofNat h.length)then true else(bif ilt (.ofNat 40) (.ofNat o.length)then true else(bif ilt (.ofNat 40) (.ofNat t.length)then true else(bif ilt (.ofNat 10) (.ofNat G.length)then true else(bif ilt (.ofNat 8) (.ofNat O.length)then true else(bif ilt (.ofNat 8) (.ofNat U.length)then true else(bif ilt (.ofNat 5000) (.ofNat F.length)then true else(bif ilt (.ofNat 30) (.ofNat I.length)then true else(bif loF 10 F then true else(bif loF 300 I then true else wdZ [toT C,toT st,toT V])))))))))
theorem qXm(h o t:List Int)(G:List Bd)(P D S:Int)(O U:List Nz)(C st V:Raw)(Z:Int)(F I:List (List Int))(hr:F.length<9223372036854775807)(e:I.length<9223372036854775807):((qK Tryz.prog (evD Tryz.prog (odT [(65,odR [.list zL] (oWd wdZ))]) (LLo) 60) 13 [.ag (tbC h o t G P D S O U C st V Z F I)] []).bind qQ).run=yB (lgT h o t G P D S O U C st V Z F I):=by
 rw[jBq,zP hr,zP e];unfold lgT;cases ilt (.ofNat 40) (.ofNat h.length)
 rotate_left
 ·rfl
 cases ilt (.ofNat 40) (.ofNat o.length)
 rotate_left
 ·rfl
 cases ilt (.ofNat 40) (.ofNat t.length)
 rotate_left
 ·rfl
 cases ilt (.ofNat 10) (.ofNat G.length)
 rotate_left
 ·rfl
 cases ilt (.ofNat 8) (.ofNat O.length)
 rotate_left
 ·rfl
 cases ilt (.ofNat 8) (.ofNat U.length)
 rotate_left
 ·rfl
 cases ilt (.ofNat 5000) (.ofNat F.length)
 rotate_left
 ·rfl
 cases ilt (.ofNat 30) (.ofNat I.length)
 rotate_left
 ·rfl
 cases loF 10 F
 rotate_left
 ·rfl
 cases loF 300 I<;>rfl
noncomputable def qFo(f:TF Bool):List T→DT (T×Bool)
 | [.ag [.ls .a (.int .i64) h,.ls .a (.int .i64) o,.ls .a (.int .i64) t,.ls .a (.prod (.int .u8) (.prod (.int .i64) (.int .i64))) G,.v (.int .i64 P),.v (.int .i64 D),.v (.int .i64 S),.ls .a (.prod (.int .i64) zL) O,.ls .a (.prod (.int .i64) zL) U,.v (.bool e),.ls .a .lim C,.ls .a .lim am,.v (.bool w),.ls .a .lim sl,.ls .a .lim sm,.v (.bool j),.ls .a .lim k,.ls .a .lim q,.v (.int .i64 Z),.ls .a (.list (.int .i64)) F,.ls .a (.list (.int .i64)) I]]=>grd (Nat.blt F.length 9223372036854775807&&Nat.blt I.length 9223372036854775807) (.ret (.v (.bool (f h o t G P D S O U ⟨e,C,am⟩ ⟨w,sl,sm⟩ ⟨j,k,q⟩ Z F I)),true))
 | _=> .no
theorem qYe:wB Tryz.prog (odT [(65,odR [.list zL] (oWd wdZ))]):=zT yG (jV kWd)
theorem kLgT:∀az f nw,(qFo lgT az).run=some (f,nw)→∀k,KnP Tryz.prog k 13 az f nw:=by
 intro az f nw hh k;unfold qFo at hh;split at hh
 ·rename_i h o t G P D S O U j C am z sl sm q w y Z F I;obtain⟨e,A⟩:=zS hh;simp only[zd]at e;cases A;exact kF (cz:=[.ag (tbC h o t G P D S O U ⟨j,C,am⟩ ⟨z,sl,sm⟩ ⟨q,w,y⟩ Z F I)]) yT qYe qXp (qXm h o t G P D S O U ⟨j,C,am⟩ ⟨z,sl,sm⟩ ⟨q,w,y⟩ Z F I (jC e.1) (jC e.2)) rfl k
 ·cases hh
theorem eBt(y:TF Bool)(w:List Wt→Bool)(q:List Int→List Int→List Int→List Bd→Int→Int→Int→List Nz→List Nz→Raw→Raw→Raw→Int→List (List Int)→List (List Int)→Int→List Wt→Int→Bool)(e:List Int→List Int→List Int→List Bd→Int→Int→Int→List Nz→List Nz→Raw→Raw→Raw→Int→List (List Int)→List (List Int)→Int→List Wt→Int→List Rt)(z:List Int→List Int→List Int→List Bd→Int→Int→Int→List Nz→List Nz→Raw→Raw→Raw→Int→List (List Int)→List (List Int)→Int→List Wt→Int→Nat)(okL:LF Bool)(lL:LF (List Rt))(cm ce:Raw→Raw→Int)(h o t:List Int)(G:List Bd)(P D S:Int)(O U:List Nz)(C st V:Raw)(Z:Int)(F I:List (List Int))(L Y:Int)(f j k:Raw)(hd:Int)(l:List Wt):((qK Tryz.prog (evD Tryz.prog (odT [(13,odR [tbT] (qFo y)),(38,odR [.list wT] (oLg w)),(16,oAw),(22,odR [tbT,nT,.list wT,nT] (oEx q e z))]) (LBo okL lL cm ce) 60) 5 [.ag [.ls .a nT h,.ls .a nT o,.ls .a nT t,.ls .a bT G,vi P,vi D,vi S,.ls .a nzT O,.ls .a nzT U,.v (.bool C.1),.ls .a .lim C.2,.ls .a .lim C.3,.v (.bool st.1),.ls .a .lim st.2,.ls .a .lim st.3,.v (.bool V.1),.ls .a .lim V.2,.ls .a .lim V.3,vi Z,.ls .a (.list nT) F,.ls .a (.list nT) I,vi L,vi Y,.v (.bool f.1),.ls .a .lim f.2,.ls .a .lim f.3,.v (.bool j.1),.ls .a .lim j.2,.ls .a .lim j.3,.v (.bool k.1),.ls .a .lim k.2,.ls .a .lim k.3,.v (.int .u8 hd)],.ls .a wT l] []).bind qQ).run=gd (Nat.blt F.length 9223372036854775807&&Nat.blt I.length 9223372036854775807) (bif y h o t G P D S O U C st V Z F I then yB true else gd (Nat.blt l.length 9223372036854775807) (bif !w l then(bif !ilt 12 (.ofNat l.length)then gd (Nat.blt F.length 9223372036854775807) (bif q h o t G P D S O U C st V Z F I L l Y then gd (Nat.blt l.length 9223372036854775807&&(Nat.blt F.length 9223372036854775807&&Nat.blt (e h o t G P D S O U C st V Z F I L l Y).length 9223372036854775807)) (bif boF okL lL cm ce h o t G P D S O U C st V Z F I L Y l (e h o t G P D S O U C st V Z F I L l Y)then yB (ieq (.ofNat (e h o t G P D S O U C st V Z F I L l Y).length) (.ofNat G.length))else yB false)else yB true)else(bif !ilt 4096 (.ofNat l.length)then yB true else gd (Nat.blt F.length 9223372036854775807) (bif q h o t G P D S O U C st V Z F I L l Y then gd (Nat.blt l.length 9223372036854775807&&(Nat.blt F.length 9223372036854775807&&Nat.blt (e h o t G P D S O U C st V Z F I L l Y).length 9223372036854775807)) (bif boF okL lL cm ce h o t G P D S O U C st V Z F I L Y l (e h o t G P D S O U C st V Z F I L l Y)then yB (ieq (.ofNat (e h o t G P D S O U C st V Z F I L l Y).length) (.ofNat G.length))else yB false)else yB true)))else yB true)):=by kernel_rfl
theorem qFq:wB Tryz.prog (odT [(32,odR [tbT,nT,nT,nT,nT,nT] (oLk jD lkL lkP)),(33,kcD (pRI fun a b=>(yE a b,xB a b)) true)]):=zT (zT yG fun az e nw h k=>sP qWw az e h k) (jV kLk)
theorem qXd:vY Tryz.prog (LBi jD lkL yE xB):=jX qA (kQ yT qFq qA 60) qRw (qVq jD lkL lkP yE xB)
theorem qXe:vY Tryz.prog (LBo jD lkL yE xB):=jX qA (kQ yT qFq qXd 60) qRx (qVs jD lkL lkP yE xB)
theorem qMb(h o t:List Int)(G:List Bd)(P D S:Int)(O U:List Nz)(C st V:Raw)(Z:Int)(F I:List (List Int))(L Y:Int)(j k q:Raw)(hd:Int)(l:List Wt)(hr:F.length<9223372036854775807)(y:I.length<9223372036854775807)(w:l.length<9223372036854775807):((qK Tryz.prog (evD Tryz.prog (odT [(13,odR [tbT] (qFo lgT)),(38,odR [.list wT] (oLg lgZ)),(16,oAw),(22,odR [tbT,nT,.list wT,nT] (oEx xpO xpV xpP))]) (LBo jD lkL yE xB) 60) 5 [.ag [.ls .a nT h,.ls .a nT o,.ls .a nT t,.ls .a bT G,vi P,vi D,vi S,.ls .a nzT O,.ls .a nzT U,.v (.bool C.1),.ls .a .lim C.2,.ls .a .lim C.3,.v (.bool st.1),.ls .a .lim st.2,.ls .a .lim st.3,.v (.bool V.1),.ls .a .lim V.2,.ls .a .lim V.3,vi Z,.ls .a (.list nT) F,.ls .a (.list nT) I,vi L,vi Y,.v (.bool j.1),.ls .a .lim j.2,.ls .a .lim j.3,.v (.bool k.1),.ls .a .lim k.2,.ls .a .lim k.3,.v (.bool q.1),.ls .a .lim q.2,.ls .a .lim q.3,.v (.int .u8 hd)],.ls .a wT l] []).bind qQ).run=yB true:=by
 have law:gd (Nat.blt F.length 9223372036854775807) (bif xpO h o t G P D S O U C st V Z F I L l Y then gd (Nat.blt l.length 9223372036854775807&&(Nat.blt F.length 9223372036854775807&&Nat.blt (xpV h o t G P D S O U C st V Z F I L l Y).length 9223372036854775807)) (bif boF jD lkL yE xB h o t G P D S O U C st V Z F I L Y l (xpV h o t G P D S O U C st V Z F I L l Y)then yB (ieq (.ofNat (xpV h o t G P D S O U C st V Z F I L l Y).length) (.ofNat G.length))else yB false)else yB true)=yB true:=by
  rw[zP hr,zP w];cases e:xpO h o t G P D S O U C st V Z F I L l Y with
  | false=>rfl
  | true=>
   have f:=jCw h o t G P D S O U C st V Z F I e;have hT:Tab h o t G S Z F I:=qId (f.pt 0 (zGe f.be).1);have z:=hT.mod.av6;rw[f.len,zP (show G.length<9223372036854775807 by omega),qTg h o t G P D S O U C st V Z F I f,xU rfl];rfl
 rw[eBt,law,zP hr,zP y,zP w];cases lgT h o t G P D S O U C st V Z F I with
 | true=>rfl
 | false=>cases lgZ l with
  | true=>rfl
  | false=>cases ilt 12 (.ofNat l.length)<;>cases ilt 4096 (.ofNat l.length)<;>rfl
noncomputable abbrev tbN:Ty:= .prod mdT (.prod nT (.prod (.list (.list nT)) (.list (.list nT))))
noncomputable abbrev zEe:Ty:= .prod tbN (.prod nT (.prod nT (.prod (.prod zL (.prod zL zL)) (.int .u8))))
theorem kAw(ha:KnP Tryz.prog 0 16 [] (.v (.bool true)) true)(k:Nat):KnP Tryz.prog k 16 [] (.v (.bool true)) true:=ha.clean rfl rfl k
theorem qYd(ha:KnP Tryz.prog 0 16 [] (.v (.bool true)) true):wB Tryz.prog (odT [(13,odR [tbT] (qFo lgT)),(38,odR [.list wT] (oLg lgZ)),(16,oAw),(22,odR [tbT,nT,.list wT,nT] (oEx xpO xpV xpP))]):=
 zT (zT (zT (zT yG (jV kEx)) (fun az e nw h k=>by
  unfold oAw at h;split at h
  ·cases h;exact kAw ha k
  ·cases h)) (jV kLg)) (jV kLgT)
theorem qLz(ha:KnP Tryz.prog 0 16 [] (.v (.bool true)) true)(x0:zEe.den)(x1:List Wt)(w0:zDv zEe x0)(w1:zDv (.list wT) x1):KnP Tryz.prog 0 5 [.ag (qD .a zEe x0),.ls .a wT x1] (.v (.bool true)) true:=by
 obtain⟨⟨⟨h,o,t,G,P,D,S,O,U,⟨e,C,am⟩,⟨B,sl,sm⟩,⟨y,z,A⟩⟩,Z,F,I⟩,L,Y,⟨⟨b1,f,l2⟩,⟨b2,j,k⟩,⟨b3,q,w⟩⟩,hd⟩:=x0;have E:F.length*Ty.bts (.list nT)≤140737488351232:=w0.1.2.2.1.1;have H:I.length*Ty.bts (.list nT)≤140737488351232:=w0.1.2.2.2.1;have J:x1.length*Ty.bts wT≤140737488351232:=w1.1;have k1:1≤Ty.bts (.list nT):=by decide
 have k2:1≤Ty.bts wT:=by decide
 have K:=Nat.le_trans (Nat.mul_le_mul_left F.length k1) E;have M:=Nat.le_trans (Nat.mul_le_mul_left I.length k1) H;have N:=Nat.le_trans (Nat.mul_le_mul_left x1.length k2) J;exact kF (cz:=[.ag (qD .a zEe (((h,o,t,G,P,D,S,O,U,(e,C,am),(B,sl,sm),(y,z,A)),Z,F,I),L,Y,((b1,f,l2),(b2,j,k),(b3,q,w)),hd)),.ls .a wT x1]) yT (qYd ha) qXe (qMb h o t G P D S O U ⟨e,C,am⟩ ⟨B,sl,sm⟩ ⟨y,z,A⟩ Z F I L Y ⟨b1,f,l2⟩ ⟨b2,j,k⟩ ⟨b3,q,w⟩ hd x1 (by omega) (by omega) (by omega)) rfl 0
theorem qMa(x0:zEe.den)(x1:List Wt)(w0:zDv zEe x0)(w1:zDv (.list wT) x1):KnP Tryz.prog 0 5 [.ag (qD .a zEe x0),.ls .a wT x1] (.v (.bool true)) true:=qLz jBx x0 x1 w0 w1
end Go.Proofs.YtdfmdiakjdggbaaGreatDoor

import Derived.Test.YtjnpoeilfdbaaaaGreatDoorBaseI
set_option linter.unusedVariables false
set_option linter.unusedSimpArgs false
set_option linter.unnecessarySimpa false
namespace Go.Proofs.YtjnpoeilfdbaaaaGreatDoor
open Go Go.Gv Go.Ev Go.RowKit IntKind
noncomputable def qIe(p:Nat→Bool)(n:Nat):Bool:=fol (fun i(_:Unit)=>bif p i then .inr true else .inl ()) (fun _=>false) n 0 ()
theorem zGp{st:Hs→Option (Hs⊕(Ex×Hs))}{iv:Nat→Hs}{p:Nat→Bool}{n:Nat}{A B:Ex×Hs}(h1:∀i,i<n→st (iv i)=some (bif p i then .inr A else .inl (iv (i+1))))(h2:st (iv n)=some (.inr B)):lpF st n (iv 0)=some (bif qIe p n then A else B):=
 yZ (st:=st) (iv:=fun i(_:Unit)=>iv i) (g:=fun i(_:Unit)=>(bif p i then .inr true else .inl ():Unit⊕Bool)) (d:=fun _=>false) (out:=fun b=>bif b then A else B) (n:=n) (fun _ _=>True)
  (fun i _ hi _=>by rw[h1 i hi];cases p i<;>rfl) (fun _ _ _ _ _ _=>trivial) (fun _ _=>h2) n 0 () (by omega) trivial
theorem zBw{α:Type}{g b:Bool}{A B y:α}(h:(grd g (.ite b (.ret A) (.ret B))).run=some y):g=true∧y=bif b then A else B:=by
 obtain⟨h1,h2⟩:=zV h;refine⟨h1,?_⟩;cases b<;>cases h2<;>rfl
noncomputable abbrev rTT:Ex×Hs:=(.r,⟨[.v (.bool true)],[],[]⟩)
noncomputable def iL6(l:List Rt)(i:Nat):Hs:=⟨[.ls .a zP l,vn i],[],[]⟩
noncomputable def Ll6:Lp:=⟨0,
 ⟨[.h,.u,.u,.h]++(us' 42),[]⟩,
 ⟨us' 46,[]⟩,
 ⟨[.u,.u,.h]++(us' 43),[]⟩⟩
noncomputable abbrev qNk:Code:=lpc Tryz.prog 41 [false,true,false,true]
theorem qPz:cAt Tryz.prog 41 [false,true,false,true]=some (.loop qNk):=by kernel_rfl
noncomputable abbrev zZv(OD:Od)(LO:Lo):Hs→Option (Hs⊕(Ex×Hs)):=Ll6.stp (evD Tryz.prog OD LO 60) 41 [false,true,false,true] qNk
noncomputable def l6B(n d:Nat):Bool:=bif ilt (.ofNat 6) (.ofNat n)&&!ilt 128 (.ofNat n)then true else(bif ilt (.ofNat 6) (.ofNat d)&&!ilt 128 (.ofNat d)then true else(bif ilt (.ofNat 200) (.ofNat n)then true else ilt (.ofNat 200) (.ofNat d)))
noncomputable def l6F(l:List Rt):Bool:=qIe (fun i=>l6B (rA l i).2.1.length (rA l i).2.2.length) l.length
theorem sL6(l:List Rt)(i:Nat):zZv (odT []) (loT []) (iL6 l i)=bif ilt (.ofNat i) (.ofNat l.length)then gd (Nat.blt i l.length) (gd (Nat.blt i l.length) (bif ilt (.ofNat 6) (.ofNat ((((rA l i).2).1).length))then(bif !(ilt 128 (.ofNat ((((rA l i).2).1).length)))then some (.inr (.r,⟨[.v (.bool true)],[],[]⟩))else(bif ilt (.ofNat 6) (.ofNat ((((rA l i).2).2).length))then(bif !(ilt 128 (.ofNat ((((rA l i).2).2).length)))then some (.inr (.r,⟨[.v (.bool true)],[],[]⟩))else(bif ilt (.ofNat 200) (.ofNat ((((rA l i).2).1).length))then some (.inr (.r,⟨[.v (.bool true)],[],[]⟩))else(bif ilt (.ofNat 200) (.ofNat ((((rA l i).2).2).length))then some (.inr (.r,⟨[.v (.bool true)],[],[]⟩))else nx i (.inl (iL6 l (i+1))))))else(bif ilt (.ofNat 200) (.ofNat ((((rA l i).2).1).length))then some (.inr (.r,⟨[.v (.bool true)],[],[]⟩))else(bif ilt (.ofNat 200) (.ofNat ((((rA l i).2).2).length))then some (.inr (.r,⟨[.v (.bool true)],[],[]⟩))else nx i (.inl (iL6 l (i+1)))))))else(bif ilt (.ofNat 6) (.ofNat ((((rA l i).2).2).length))then(bif !(ilt 128 (.ofNat ((((rA l i).2).2).length)))then some (.inr (.r,⟨[.v (.bool true)],[],[]⟩))else(bif ilt (.ofNat 200) (.ofNat ((((rA l i).2).1).length))then some (.inr (.r,⟨[.v (.bool true)],[],[]⟩))else(bif ilt (.ofNat 200) (.ofNat ((((rA l i).2).2).length))then some (.inr (.r,⟨[.v (.bool true)],[],[]⟩))else nx i (.inl (iL6 l (i+1))))))else(bif ilt (.ofNat 200) (.ofNat ((((rA l i).2).1).length))then some (.inr (.r,⟨[.v (.bool true)],[],[]⟩))else(bif ilt (.ofNat 200) (.ofNat ((((rA l i).2).2).length))then some (.inr (.r,⟨[.v (.bool true)],[],[]⟩))else nx i (.inl (iL6 l (i+1))))))))else some (.inr (.x 0,⟨[],[],[]⟩)):=by kernel_rfl
theorem lpL6(l:List Rt)(h9:l.length<9223372036854775807):lpF (zZv (odT []) (loT [])) l.length (iL6 l 0)=some (bif l6F l then rTT else(.x 0,⟨[],[],[]⟩)):=
 zGp (iv:=iL6 l)
  (fun i hi=>by
   rw[sL6,show ilt (.ofNat i) (.ofNat l.length)=true from zO hi,zO hi,xV (show i+1<9223372036854775808 by omega)]
   unfold l6B;cases ilt (.ofNat 6) (.ofNat (rA l i).2.1.length)<;>cases ilt 128 (.ofNat (rA l i).2.1.length)<;>cases ilt (.ofNat 6) (.ofNat (rA l i).2.2.length)<;>cases ilt 128 (.ofNat (rA l i).2.2.length)<;>cases ilt (.ofNat 200) (.ofNat (rA l i).2.1.length)<;>cases ilt (.ofNat 200) (.ofNat (rA l i).2.2.length)<;>rfl)
  (by rw[sL6,show ilt (.ofNat l.length) (.ofNat l.length)=false from kE (Nat.le_refl _)];rfl)
noncomputable def hL6:Hs→DT (Ex×Hs)
 | ⟨[.ls .a (.prod .bool (.prod (.list .lim) (.list .lim))) l,.v (.int .i64 (.ofNat 0))],[],[]⟩=>grd (Nat.blt l.length 9223372036854775807) (.ite (l6F l) (.ret rTT) (.ret (.x 0,⟨[],[],[]⟩)))
 | _=> .no
theorem qTl:∀q y,(hL6 q).run=some y→∃n,It (zZv (odT []) (loT [])) n q y:=fun q y hh=>by
 unfold hL6 at hh;split at hh
 ·rename_i l;obtain⟨h1,rfl⟩:=zBw hh;exact kF _ _ (lpL6 l (qY h1))
 ·cases hh
noncomputable abbrev LL6:Lo:=loT [(41,[false,true,false,true],Ll6.row hL6)]
theorem qXn:mQ Tryz.prog LL6:=yK qZ fC qPz qTl
theorem eL6(l:List Rt):((qW Tryz.prog (evD Tryz.prog (odT []) (LL6) 60) 41 [.ls .a zP l] []).bind jB).run=gd (Nat.blt l.length 9223372036854775807) (bif l6F l then yB true else yB false):=by kernel_rfl
theorem kL6:∀az tv nw,(oWd l6F az).run=some (tv,nw)→∀k,KnP Tryz.prog k 41 az tv nw:=by
 intro az tv nw h k;unfold oWd at h;split at h
 ·rename_i l;obtain⟨h1,h2⟩:=zV h;cases h2;have q:((qW Tryz.prog (evD Tryz.prog (odT []) (LL6) 60) 41 [.ls .a zP l] []).bind jB).run=yB (l6F l):=by
   rw[eL6,h1];cases l6F l<;>rfl
  exact kQ (cz:=[.ls .a zP l]) xA yO qXn q rfl k
 ·cases h
noncomputable abbrev nN(l:List Nz)(i:Nat):Nz:=nth nzT.zero l i
noncomputable def iLn(i:Nat)(h o t:List Int)(G:List Bd)(P D S:Int)(O U:List Nz)(C st V:Raw):Hs:=⟨[vn i],[],[[.ls .a nT h,.ls .a nT o,.ls .a nT t,.ls .a bT G,vi P,vi D,vi S,.ls .a nzT O,.ls .a nzT U,.v (.bool C.1),.ls .a .lim C.2,.ls .a .lim C.3,.v (.bool st.1),.ls .a .lim st.2,.ls .a .lim st.3,.v (.bool V.1),.ls .a .lim V.2,.ls .a .lim V.3]]⟩
noncomputable def xLn(h o t:List Int)(G:List Bd)(P D S:Int)(O U:List Nz)(C st V:Raw):Hs:=⟨[],[],[[.ls .a nT h,.ls .a nT o,.ls .a nT t,.ls .a bT G,vi P,vi D,vi S,.ls .a nzT O,.ls .a nzT U,.v (.bool C.1),.ls .a .lim C.2,.ls .a .lim C.3,.v (.bool st.1),.ls .a .lim st.2,.ls .a .lim st.3,.v (.bool V.1),.ls .a .lim V.2,.ls .a .lim V.3]]⟩
noncomputable def Lln0:Lp:=⟨1,
 ⟨[.u,.t (.op 0 0),.u,.h]++(us' 73),[.r [.h,.h,.h,.h,.h,.h,.h,.h,.h,.h,.h,.h,.h,.h,.h,.h,.h,.h] 30]⟩,
 ⟨[.u,.t (.op 0 0)]++(us' 75),[.r [.h,.h,.h,.h,.h,.h,.h,.h,.h,.h,.h,.h,.h,.h,.h,.h,.h,.h] 30]⟩,
 ⟨[.u,.u,.h]++(us' 74),[.g]⟩⟩
noncomputable abbrev zZw:Code:=lpc Tryz.prog 18 [false,true,false,true,true]
theorem qHw:cAt Tryz.prog 18 [false,true,false,true,true]=some (.loop zZw):=by kernel_rfl
noncomputable abbrev zRm(OD:Od)(LO:Lo):Hs→Option (Hs⊕(Ex×Hs)):=Lln0.stp (evD Tryz.prog OD LO 60) 18 [false,true,false,true,true] zZw
noncomputable def Lln1:Lp:=⟨1,
 ⟨[.u,.t (.op 0 0),.u,.u,.h]++(us' 72),[.r [.h,.h,.h,.h,.h,.h,.h,.h,.h,.h,.h,.h,.h,.h,.h,.h,.h,.h] 30]⟩,
 ⟨[.u,.t (.op 0 0)]++(us' 75),[.r [.h,.h,.h,.h,.h,.h,.h,.h,.h,.h,.h,.h,.h,.h,.h,.h,.h,.h] 30]⟩,
 ⟨[.u,.u,.h]++(us' 74),[.g]⟩⟩
noncomputable abbrev zZx:Code:=lpc Tryz.prog 18 [false,true,false,true,true,true]
theorem qHx:cAt Tryz.prog 18 [false,true,false,true,true,true]=some (.loop zZx):=by kernel_rfl
noncomputable abbrev zRn(OD:Od)(LO:Lo):Hs→Option (Hs⊕(Ex×Hs)):=Lln1.stp (evD Tryz.prog OD LO 60) 18 [false,true,false,true,true,true] zZx
theorem sLn0(fW:List Rt→Bool)(i:Nat)(h o t:List Int)(G:List Bd)(P D S:Int)(O U:List Nz)(C st V:Raw):zRm (odT [(41,odR [.list zP] (oWd fW))]) (loT []) (iLn i h o t G P D S O U C st V)=bif ilt (.ofNat i) (.ofNat O.length)then gd (Nat.blt i O.length) (bif fW [(((nN O i).2).1,(((nN O i).2).2).1,(((nN O i).2).2).2)]then some (.inr (.r,⟨[.v (.bool true)],[],[[]]⟩))else nx i (.inl (iLn (i+1) h o t G P D S O U C st V)))else some (.inr (.x 0,(xLn h o t G P D S O U C st V))):=by kernel_rfl
theorem sLn1(fW:List Rt→Bool)(i:Nat)(h o t:List Int)(G:List Bd)(P D S:Int)(O U:List Nz)(C st V:Raw):zRn (odT [(41,odR [.list zP] (oWd fW))]) (loT []) (iLn i h o t G P D S O U C st V)=bif ilt (.ofNat i) (.ofNat U.length)then gd (Nat.blt i U.length) (bif fW [(((nN U i).2).1,(((nN U i).2).2).1,(((nN U i).2).2).2)]then some (.inr (.r,⟨[.v (.bool true)],[],[[]]⟩))else nx i (.inl (iLn (i+1) h o t G P D S O U C st V)))else some (.inr (.x 2,(xLn h o t G P D S O U C st V))):=by kernel_rfl
noncomputable def ln0(fW:List Rt→Bool)(l:List Nz):Bool:=qIe (fun i=>fW [(nN l i).2]) l.length
theorem jBy(fW:List Rt→Bool)(h o t:List Int)(G:List Bd)(P D S:Int)(O U:List Nz)(C st V:Raw)(h9:O.length<9223372036854775807):lpF (zRm (odT [(41,odR [.list zP] (oWd fW))]) (loT [])) O.length (iLn 0 h o t G P D S O U C st V)=some (bif ln0 fW O then(.r,⟨[.v (.bool true)],[],[[]]⟩)else(.x 0,xLn h o t G P D S O U C st V)):=
 zGp (iv:=fun i=>iLn i h o t G P D S O U C st V)
  (fun i hi=>by
   rw[sLn0,show ilt (.ofNat i) (.ofNat O.length)=true from zO hi,zO hi,xV (show i+1<9223372036854775808 by omega)]
   cases fW [(nN O i).2]<;>rfl)
  (by rw[sLn0,show ilt (.ofNat O.length) (.ofNat O.length)=false from kE (Nat.le_refl _)];rfl)
noncomputable def qOk(fW:List Rt→Bool):List T→DT (Ex×Hs)
 | [.ls .a (.int .i64) h,.ls .a (.int .i64) o,.ls .a (.int .i64) t,.ls .a (.prod (.int .u8) (.prod (.int .i64) (.int .i64))) G,.v (.int .i64 P),.v (.int .i64 D),.v (.int .i64 S),.ls .a (.prod (.int .i64) zP) O,.ls .a (.prod (.int .i64) zP) U,.v (.bool ab),.ls .a .lim C,.ls .a .lim am,.v (.bool sb),.ls .a .lim sl,.ls .a .lim sm,.v (.bool rb),.ls .a .lim rl,.ls .a .lim rm]=>grd (Nat.blt O.length 9223372036854775807) (.ite (ln0 fW O) (.ret (.r,⟨[.v (.bool true)],[],[[]]⟩)) (.ret (.x 0,xLn h o t G P D S O U ⟨ab,C,am⟩ ⟨sb,sl,sm⟩ ⟨rb,rl,rm⟩)))
 | _=> .no
noncomputable def qTm(fW:List Rt→Bool):Hs→DT (Ex×Hs)
 | ⟨[.v (.int .i64 (.ofNat 0))],[],[ks]⟩=>qOk fW ks
 | _=> .no
theorem qJn(fW:List Rt→Bool):∀q y,(qTm fW q).run=some y→∃n,It (zRm (odT [(41,odR [.list zP] (oWd fW))]) (loT [])) n q y:=fun q y hh=>by
 unfold qTm at hh;split at hh
 ·rename_i ks;unfold qOk at hh;split at hh
  ·rename_i h o t G P D S O U ab C am sb sl sm rb rl rm;obtain⟨h1,rfl⟩:=zBw hh;exact kF _ _ (jBy fW h o t G P D S O U ⟨ab,C,am⟩ ⟨sb,sl,sm⟩ ⟨rb,rl,rm⟩ (qY h1))
  ·cases hh
 ·cases hh
theorem jBz(fW:List Rt→Bool)(h o t:List Int)(G:List Bd)(P D S:Int)(O U:List Nz)(C st V:Raw)(h9:U.length<9223372036854775807):lpF (zRn (odT [(41,odR [.list zP] (oWd fW))]) (loT [])) U.length (iLn 0 h o t G P D S O U C st V)=some (bif ln0 fW U then(.r,⟨[.v (.bool true)],[],[[]]⟩)else(.x 2,xLn h o t G P D S O U C st V)):=
 zGp (iv:=fun i=>iLn i h o t G P D S O U C st V)
  (fun i hi=>by
   rw[sLn1,show ilt (.ofNat i) (.ofNat U.length)=true from zO hi,zO hi,xV (show i+1<9223372036854775808 by omega)]
   cases fW [(nN U i).2]<;>rfl)
  (by rw[sLn1,show ilt (.ofNat U.length) (.ofNat U.length)=false from kE (Nat.le_refl _)];rfl)
noncomputable def qOl(fW:List Rt→Bool):List T→DT (Ex×Hs)
 | [.ls .a (.int .i64) h,.ls .a (.int .i64) o,.ls .a (.int .i64) t,.ls .a (.prod (.int .u8) (.prod (.int .i64) (.int .i64))) G,.v (.int .i64 P),.v (.int .i64 D),.v (.int .i64 S),.ls .a (.prod (.int .i64) zP) O,.ls .a (.prod (.int .i64) zP) U,.v (.bool ab),.ls .a .lim C,.ls .a .lim am,.v (.bool sb),.ls .a .lim sl,.ls .a .lim sm,.v (.bool rb),.ls .a .lim rl,.ls .a .lim rm]=>grd (Nat.blt U.length 9223372036854775807) (.ite (ln0 fW U) (.ret (.r,⟨[.v (.bool true)],[],[[]]⟩)) (.ret (.x 2,xLn h o t G P D S O U ⟨ab,C,am⟩ ⟨sb,sl,sm⟩ ⟨rb,rl,rm⟩)))
 | _=> .no
noncomputable def qTn(fW:List Rt→Bool):Hs→DT (Ex×Hs)
 | ⟨[.v (.int .i64 (.ofNat 0))],[],[ks]⟩=>qOl fW ks
 | _=> .no
theorem qJo(fW:List Rt→Bool):∀q y,(qTn fW q).run=some y→∃n,It (zRn (odT [(41,odR [.list zP] (oWd fW))]) (loT [])) n q y:=fun q y hh=>by
 unfold qTn at hh;split at hh
 ·rename_i ks;unfold qOl at hh;split at hh
  ·rename_i h o t G P D S O U ab C am sb sl sm rb rl rm;obtain⟨h1,rfl⟩:=zBw hh;exact kF _ _ (jBz fW h o t G P D S O U ⟨ab,C,am⟩ ⟨sb,sl,sm⟩ ⟨rb,rl,rm⟩ (qY h1))
  ·cases hh
 ·cases hh
noncomputable abbrev LLn(fW:List Rt→Bool):Lo:=loT [(18,[false,true,false,true,true],Lln0.row (qTm fW)),(18,[false,true,false,true,true,true],Lln1.row (qTn fW))]
theorem eL24(fW:List Rt→Bool)(h o t:List Int)(G:List Bd)(P D S:Int)(O U:List Nz)(C st V:Raw):((qW Tryz.prog (evD Tryz.prog (odT [(41,odR [.list zP] (oWd fW))]) (LLn fW) 60) 18 [.ag (mdC h o t G P D S O U C st V)] []).bind jB).run=bif ilt (.ofNat 40) (.ofNat h.length)then yB true else(bif ilt (.ofNat 40) (.ofNat o.length)then yB true else(bif ilt (.ofNat 40) (.ofNat t.length)then yB true else(bif ilt (.ofNat 10) (.ofNat G.length)then yB true else(bif ilt (.ofNat 8) (.ofNat O.length)then yB true else(bif ilt (.ofNat 8) (.ofNat U.length)then yB true else(gd (Nat.blt O.length 9223372036854775807) (bif ln0 fW O then yB true else gd (Nat.blt U.length 9223372036854775807) (bif ln0 fW U then yB true else yB (fW [toT C,toT st,toT V]))))))))):=by kernel_rfl
noncomputable def lnM(h o t:List Int)(G:List Bd)(P D S:Int)(O U:List Nz)(C st V:Raw):Bool:=bif ilt (.ofNat 40) (.ofNat h.length)then true else(bif ilt (.ofNat 40) (.ofNat o.length)then true else(bif ilt (.ofNat 40) (.ofNat t.length)then true else(bif ilt (.ofNat 10) (.ofNat G.length)then true else(bif ilt (.ofNat 8) (.ofNat O.length)then true else(bif ilt (.ofNat 8) (.ofNat U.length)then true else(bif ln0 l6F O then true else(bif ln0 l6F U then true else l6F [toT C,toT st,toT V])))))))
theorem qXr(h o t:List Int)(G:List Bd)(P D S:Int)(O U:List Nz)(C st V:Raw)(h1:O.length<9223372036854775807)(h2:U.length<9223372036854775807):((qW Tryz.prog (evD Tryz.prog (odT [(41,odR [.list zP] (oWd l6F))]) (LLn l6F) 60) 18 [.ag (mdC h o t G P D S O U C st V)] []).bind jB).run=yB (lnM h o t G P D S O U C st V):=by
 rw[eL24,zO h1,zO h2];unfold lnM;cases ilt (.ofNat 40) (.ofNat h.length)
 rotate_left
 ·rfl
 cases ilt (.ofNat 40) (.ofNat o.length)
 rotate_left
 ·rfl
 cases ilt (.ofNat 40) (.ofNat t.length)
 rotate_left
 ·rfl
 cases ilt (.ofNat 10) (.ofNat G.length)
 rotate_left
 ·rfl
 cases ilt (.ofNat 8) (.ofNat O.length)
 rotate_left
 ·rfl
 cases ilt (.ofNat 8) (.ofNat U.length)
 rotate_left
 ·rfl
 cases ln0 l6F O
 rotate_left
 ·rfl
 cases ln0 l6F U<;>rfl
noncomputable def oLn(fM:MF Bool):List T→DT (T×Bool)
 | [.ag [.ls .a (.int .i64) h,.ls .a (.int .i64) o,.ls .a (.int .i64) t,.ls .a (.prod (.int .u8) (.prod (.int .i64) (.int .i64))) G,.v (.int .i64 P),.v (.int .i64 D),.v (.int .i64 S),.ls .a (.prod (.int .i64) zP) O,.ls .a (.prod (.int .i64) zP) U,.v (.bool ab),.ls .a .lim C,.ls .a .lim am,.v (.bool sb),.ls .a .lim sl,.ls .a .lim sm,.v (.bool rb),.ls .a .lim rl,.ls .a .lim rm]]=>grd (Nat.blt O.length 9223372036854775807&&Nat.blt U.length 9223372036854775807) (.ret (.v (.bool (fM h o t G P D S O U ⟨ab,C,am⟩ ⟨sb,sl,sm⟩ ⟨rb,rl,rm⟩)),true))
 | _=> .no
theorem qEs:vL Tryz.prog (odT [(41,odR [.list zP] (oWd l6F))]):=zX yO (jY kL6)
theorem qGm:dY Tryz.prog (evD Tryz.prog (odT [(41,odR [.list zP] (oWd l6F))]) (loT []) 60):=tT xA qEs qZ 60
theorem qXo:mQ Tryz.prog (LLn l6F):=yK (yK qZ qGm qHx (qJo l6F)) qGm qHw (qJn l6F)
theorem kLn:∀az tv nw,(oLn lnM az).run=some (tv,nw)→∀k,KnP Tryz.prog k 18 az tv nw:=by
 intro az tv nw hh k;unfold oLn at hh;split at hh
 ·rename_i h o t G P D S O U ab C am sb sl sm rb rl rm;obtain⟨h1,h2⟩:=zV hh;simp only[Bool.and_eq_true]at h1;cases h2;exact kQ (cz:=[.ag (mdC h o t G P D S O U ⟨ab,C,am⟩ ⟨sb,sl,sm⟩ ⟨rb,rl,rm⟩)]) xA qEs qXo (qXr h o t G P D S O U ⟨ab,C,am⟩ ⟨sb,sl,sm⟩ ⟨rb,rl,rm⟩ (qY h1.1) (qY h1.2)) rfl k
 ·cases hh
noncomputable def iLt(i:Nat)(h o t:List Int)(G:List Bd)(P D S:Int)(O U:List Nz)(C st V:Raw)(Z:Int)(F I:List (List Int)):Hs:=⟨[vn i],[],[[.ls .a nT h,.ls .a nT o,.ls .a nT t,.ls .a bT G,vi P,vi D,vi S,.ls .a nzT O,.ls .a nzT U,.v (.bool C.1),.ls .a .lim C.2,.ls .a .lim C.3,.v (.bool st.1),.ls .a .lim st.2,.ls .a .lim st.3,.v (.bool V.1),.ls .a .lim V.2,.ls .a .lim V.3,vi Z,.ls .a (.list nT) F,.ls .a (.list nT) I]]⟩
noncomputable def xLt(h o t:List Int)(G:List Bd)(P D S:Int)(O U:List Nz)(C st V:Raw)(Z:Int)(F I:List (List Int)):Hs:=⟨[],[],[[.ls .a nT h,.ls .a nT o,.ls .a nT t,.ls .a bT G,vi P,vi D,vi S,.ls .a nzT O,.ls .a nzT U,.v (.bool C.1),.ls .a .lim C.2,.ls .a .lim C.3,.v (.bool st.1),.ls .a .lim st.2,.ls .a .lim st.3,.v (.bool V.1),.ls .a .lim V.2,.ls .a .lim V.3,vi Z,.ls .a (.list nT) F,.ls .a (.list nT) I]]⟩
noncomputable def Llt0:Lp:=⟨1,
 ⟨[.u,.t (.op 0 0),.u,.h]++(us' 44),[.r [.h,.h,.h,.h,.h,.h,.h,.h,.h,.h,.h,.h,.h,.h,.h,.h,.h,.h,.h,.h,.h] 33]⟩,
 ⟨[.u,.t (.op 0 0)]++(us' 46),[.r [.h,.h,.h,.h,.h,.h,.h,.h,.h,.h,.h,.h,.h,.h,.h,.h,.h,.h,.h,.h,.h] 33]⟩,
 ⟨[.u,.u,.h]++(us' 45),[.g]⟩⟩
noncomputable abbrev zZy:Code:=lpc Tryz.prog 5 [false,true,false,true,true]
theorem qHy:cAt Tryz.prog 5 [false,true,false,true,true]=some (.loop zZy):=by kernel_rfl
noncomputable abbrev zRo(OD:Od)(LO:Lo):Hs→Option (Hs⊕(Ex×Hs)):=Llt0.stp (evD Tryz.prog OD LO 60) 5 [false,true,false,true,true] zZy
noncomputable def Llt1:Lp:=⟨1,
 ⟨[.u,.t (.op 0 0),.u,.u,.h]++(us' 43),[.r [.h,.h,.h,.h,.h,.h,.h,.h,.h,.h,.h,.h,.h,.h,.h,.h,.h,.h,.h,.h,.h] 33]⟩,
 ⟨us' 48,[.g]⟩,
 ⟨[.u,.u,.h]++(us' 45),[.g]⟩⟩
noncomputable abbrev zZz:Code:=lpc Tryz.prog 5 [false,true,false,true,true,true]
theorem qHz:cAt Tryz.prog 5 [false,true,false,true,true,true]=some (.loop zZz):=by kernel_rfl
noncomputable abbrev zRp(OD:Od)(LO:Lo):Hs→Option (Hs⊕(Ex×Hs)):=Llt1.stp (evD Tryz.prog OD LO 60) 5 [false,true,false,true,true,true] zZz
theorem sLt0(i:Nat)(h o t:List Int)(G:List Bd)(P D S:Int)(O U:List Nz)(C st V:Raw)(Z:Int)(F I:List (List Int)):zRo (odT []) (loT []) (iLt i h o t G P D S O U C st V Z F I)=bif ilt (.ofNat i) (.ofNat F.length)then gd (Nat.blt i F.length) (bif ilt (.ofNat 10) (.ofNat ((gI F i).length))then some (.inr (.r,⟨[.v (.bool true)],[],[[]]⟩))else nx i (.inl (iLt (i+1) h o t G P D S O U C st V Z F I)))else some (.inr (.x 0,(xLt h o t G P D S O U C st V Z F I))):=by kernel_rfl
theorem sLt1(i:Nat)(h o t:List Int)(G:List Bd)(P D S:Int)(O U:List Nz)(C st V:Raw)(Z:Int)(F I:List (List Int)):zRp (odT []) (loT []) (iLt i h o t G P D S O U C st V Z F I)=bif ilt (.ofNat i) (.ofNat I.length)then gd (Nat.blt i I.length) (bif ilt (.ofNat 220) (.ofNat ((gI I i).length))then some (.inr (.r,⟨[.v (.bool true)],[],[[]]⟩))else nx i (.inl (iLt (i+1) h o t G P D S O U C st V Z F I)))else some (.inr (.x 2,⟨[],[],[[]]⟩)):=by kernel_rfl
noncomputable def lt0(m:Nat)(q:List (List Int)):Bool:=qIe (fun i=>ilt (.ofNat m) (.ofNat (gI q i).length)) q.length
theorem jCa(h o t:List Int)(G:List Bd)(P D S:Int)(O U:List Nz)(C st V:Raw)(Z:Int)(F I:List (List Int))(h9:F.length<9223372036854775807):lpF (zRo (odT []) (loT [])) F.length (iLt 0 h o t G P D S O U C st V Z F I)=some (bif lt0 10 F then(.r,⟨[.v (.bool true)],[],[[]]⟩)else(.x 0,xLt h o t G P D S O U C st V Z F I)):=
 zGp (iv:=fun i=>iLt i h o t G P D S O U C st V Z F I)
  (fun i hi=>by
   rw[sLt0,show ilt (.ofNat i) (.ofNat F.length)=true from zO hi,zO hi,xV (show i+1<9223372036854775808 by omega)]
   cases ilt (.ofNat 10) (.ofNat (gI F i).length)<;>rfl)
  (by rw[sLt0,show ilt (.ofNat F.length) (.ofNat F.length)=false from kE (Nat.le_refl _)];rfl)
noncomputable def qOm:List T→DT (Ex×Hs)
 | [.ls .a (.int .i64) h,.ls .a (.int .i64) o,.ls .a (.int .i64) t,.ls .a (.prod (.int .u8) (.prod (.int .i64) (.int .i64))) G,.v (.int .i64 P),.v (.int .i64 D),.v (.int .i64 S),.ls .a (.prod (.int .i64) zP) O,.ls .a (.prod (.int .i64) zP) U,.v (.bool ab),.ls .a .lim C,.ls .a .lim am,.v (.bool sb),.ls .a .lim sl,.ls .a .lim sm,.v (.bool rb),.ls .a .lim rl,.ls .a .lim rm,.v (.int .i64 Z),.ls .a (.list (.int .i64)) F,.ls .a (.list (.int .i64)) I]=>grd (Nat.blt F.length 9223372036854775807) (.ite (lt0 10 F) (.ret (.r,⟨[.v (.bool true)],[],[[]]⟩)) (.ret (.x 0,xLt h o t G P D S O U ⟨ab,C,am⟩ ⟨sb,sl,sm⟩ ⟨rb,rl,rm⟩ Z F I)))
 | _=> .no
noncomputable def qTo:Hs→DT (Ex×Hs)
 | ⟨[.v (.int .i64 (.ofNat 0))],[],[ks]⟩=>qOm ks
 | _=> .no
theorem qJp:∀q y,(qTo q).run=some y→∃n,It (zRo (odT []) (loT [])) n q y:=fun q y hh=>by
 unfold qTo at hh;split at hh
 ·rename_i ks;unfold qOm at hh;split at hh
  ·rename_i h o t G P D S O U ab C am sb sl sm rb rl rm Z F I;obtain⟨h1,rfl⟩:=zBw hh;exact kF _ _ (jCa h o t G P D S O U ⟨ab,C,am⟩ ⟨sb,sl,sm⟩ ⟨rb,rl,rm⟩ Z F I (qY h1))
  ·cases hh
 ·cases hh
theorem jCb(h o t:List Int)(G:List Bd)(P D S:Int)(O U:List Nz)(C st V:Raw)(Z:Int)(F I:List (List Int))(h9:I.length<9223372036854775807):lpF (zRp (odT []) (loT [])) I.length (iLt 0 h o t G P D S O U C st V Z F I)=some (bif lt0 220 I then(.r,⟨[.v (.bool true)],[],[[]]⟩)else(.x 2,⟨[],[],[[]]⟩)):=
 zGp (iv:=fun i=>iLt i h o t G P D S O U C st V Z F I)
  (fun i hi=>by
   rw[sLt1,show ilt (.ofNat i) (.ofNat I.length)=true from zO hi,zO hi,xV (show i+1<9223372036854775808 by omega)]
   cases ilt (.ofNat 220) (.ofNat (gI I i).length)<;>rfl)
  (by rw[sLt1,show ilt (.ofNat I.length) (.ofNat I.length)=false from kE (Nat.le_refl _)];rfl)
noncomputable def qOn:List T→DT (Ex×Hs)
 | [.ls .a (.int .i64) h,.ls .a (.int .i64) o,.ls .a (.int .i64) t,.ls .a (.prod (.int .u8) (.prod (.int .i64) (.int .i64))) G,.v (.int .i64 P),.v (.int .i64 D),.v (.int .i64 S),.ls .a (.prod (.int .i64) zP) O,.ls .a (.prod (.int .i64) zP) U,.v (.bool ab),.ls .a .lim C,.ls .a .lim am,.v (.bool sb),.ls .a .lim sl,.ls .a .lim sm,.v (.bool rb),.ls .a .lim rl,.ls .a .lim rm,.v (.int .i64 Z),.ls .a (.list (.int .i64)) F,.ls .a (.list (.int .i64)) I]=>grd (Nat.blt I.length 9223372036854775807) (.ite (lt0 220 I) (.ret (.r,⟨[.v (.bool true)],[],[[]]⟩)) (.ret (.x 2,⟨[],[],[[]]⟩)))
 | _=> .no
noncomputable def qTp:Hs→DT (Ex×Hs)
 | ⟨[.v (.int .i64 (.ofNat 0))],[],[ks]⟩=>qOn ks
 | _=> .no
theorem qJq:∀q y,(qTp q).run=some y→∃n,It (zRp (odT []) (loT [])) n q y:=fun q y hh=>by
 unfold qTp at hh;split at hh
 ·rename_i ks;unfold qOn at hh;split at hh
  ·rename_i h o t G P D S O U ab C am sb sl sm rb rl rm Z F I;obtain⟨h1,rfl⟩:=zBw hh;exact kF _ _ (jCb h o t G P D S O U ⟨ab,C,am⟩ ⟨sb,sl,sm⟩ ⟨rb,rl,rm⟩ Z F I (qY h1))
  ·cases hh
 ·cases hh
noncomputable abbrev LLt:Lo:=loT [(5,[false,true,false,true,true],Llt0.row qTo),(5,[false,true,false,true,true,true],Llt1.row qTp)]
theorem eLtb(fM:MF Bool)(h o t:List Int)(G:List Bd)(P D S:Int)(O U:List Nz)(C st V:Raw)(Z:Int)(F I:List (List Int)):((qW Tryz.prog (evD Tryz.prog (odT [(18,odR [mdT] (oLn fM))]) (LLt) 60) 5 [.ag (tbC h o t G P D S O U C st V Z F I)] []).bind jB).run=gd (Nat.blt O.length 9223372036854775807&&Nat.blt U.length 9223372036854775807) (bif fM h o t G P D S O U C st V then yB true else(bif ilt (.ofNat 200) (.ofNat F.length)then yB true else(bif ilt (.ofNat 30) (.ofNat I.length)then yB true else gd (Nat.blt F.length 9223372036854775807) (bif lt0 10 F then yB true else gd (Nat.blt I.length 9223372036854775807) (bif lt0 220 I then yB true else yB false))))):=by kernel_rfl
noncomputable def lnT(h o t:List Int)(G:List Bd)(P D S:Int)(O U:List Nz)(C st V:Raw)(Z:Int)(F I:List (List Int)):Bool:=bif lnM h o t G P D S O U C st V then true else(bif ilt (.ofNat 200) (.ofNat F.length)then true else(bif ilt (.ofNat 30) (.ofNat I.length)then true else(bif lt0 10 F then true else lt0 220 I)))
theorem qXx(h o t:List Int)(G:List Bd)(P D S:Int)(O U:List Nz)(C st V:Raw)(Z:Int)(F I:List (List Int))(h1:O.length<9223372036854775807)(h2:U.length<9223372036854775807)(h3:F.length<9223372036854775807)(h4:I.length<9223372036854775807):((qW Tryz.prog (evD Tryz.prog (odT [(18,odR [mdT] (oLn lnM))]) (LLt) 60) 5 [.ag (tbC h o t G P D S O U C st V Z F I)] []).bind jB).run=yB (lnT h o t G P D S O U C st V Z F I):=by
 rw[eLtb,zO h1,zO h2,zO h3,zO h4];unfold lnT;cases lnM h o t G P D S O U C st V<;>cases ilt (.ofNat 200) (.ofNat F.length)<;>cases ilt (.ofNat 30) (.ofNat I.length)<;>cases lt0 10 F<;>cases lt0 220 I<;>rfl
noncomputable def qEp(fT:TF Bool):List T→DT (T×Bool)
 | [.ag [.ls .a (.int .i64) h,.ls .a (.int .i64) o,.ls .a (.int .i64) t,.ls .a (.prod (.int .u8) (.prod (.int .i64) (.int .i64))) G,.v (.int .i64 P),.v (.int .i64 D),.v (.int .i64 S),.ls .a (.prod (.int .i64) zP) O,.ls .a (.prod (.int .i64) zP) U,.v (.bool ab),.ls .a .lim C,.ls .a .lim am,.v (.bool sb),.ls .a .lim sl,.ls .a .lim sm,.v (.bool rb),.ls .a .lim rl,.ls .a .lim rm,.v (.int .i64 Z),.ls .a (.list (.int .i64)) F,.ls .a (.list (.int .i64)) I]]=>grd (Nat.blt O.length 9223372036854775807&&(Nat.blt U.length 9223372036854775807&&(Nat.blt F.length 9223372036854775807&&Nat.blt I.length 9223372036854775807))) (.ret (.v (.bool (fT h o t G P D S O U ⟨ab,C,am⟩ ⟨sb,sl,sm⟩ ⟨rb,rl,rm⟩ Z F I)),true))
 | _=> .no
theorem qKy:vL Tryz.prog (odT [(18,odR [mdT] (oLn lnM))]):=zX yO (jY kLn)
theorem qXp:mQ Tryz.prog LLt:=yK (yK qZ fC qHz qJq) fC qHy qJp
theorem kLtb:∀az tv nw,(qEp lnT az).run=some (tv,nw)→∀k,KnP Tryz.prog k 5 az tv nw:=by
 intro az tv nw hh k;unfold qEp at hh;split at hh
 ·rename_i h o t G P D S O U ab C am sb sl sm rb rl rm Z F I;obtain⟨h1,h2⟩:=zV hh;simp only[Bool.and_eq_true]at h1;cases h2;exact kQ (cz:=[.ag (tbC h o t G P D S O U ⟨ab,C,am⟩ ⟨sb,sl,sm⟩ ⟨rb,rl,rm⟩ Z F I)]) xA qKy qXp (qXx h o t G P D S O U ⟨ab,C,am⟩ ⟨sb,sl,sm⟩ ⟨rb,rl,rm⟩ Z F I (qY h1.1) (qY h1.2.1) (qY h1.2.2.1) (qY h1.2.2.2)) rfl k
 ·cases hh
noncomputable def zKx(p:Nat→Bool):Nat→Bool
 | 0=>true
 | m+1=>zKx p m&&p m
theorem qAr{p:Nat→Bool}:∀{m:Nat},zKx p m=true→∀i,i<m→p i=true
 | 0,_,i,hi=>by omega
 | m+1,h,i,hi=>by
  simp only[zKx,Bool.and_eq_true]at h;rcases Nat.eq_or_lt_of_le (Nat.le_of_lt_succ hi)with rfl | g
  ·exact h.2
  ·exact qAr h.1 i g
theorem qAs{p:Nat→Bool}:∀{m:Nat},(∀i,i<m→p i=true)→zKx p m=true
 | 0,_=>rfl
 | m+1,h=>by
  show(zKx p m&&p m)=true;rw[qAs fun i hi=>h i (by omega),h m (by omega)];rfl
theorem eSpl(dc:MF Int)(h o t:List Int)(G:List Bd)(P D S:Int)(O U:List Nz)(C st V:Raw)(s:Int):((qW Tryz.prog (evD Tryz.prog (odT [(24,odR [mdT] (oDc dc))]) (loT []) 60) 8 [.ag (mdC h o t G P D S O U C st V),vi s] []).bind jB).run=bif !(ieq (dc h o t G P D S O U C st V) 0)then some (.tu [vn 0,vn 0,vi (dc h o t G P D S O U C st V)],true)else(bif ilt s (.ofNat 0)then some (.tu [vn 0,vn 0,vn 8],true)else gd (inW (.ofNat (h.length*o.length))) (gd (inW (.ofNat ((h.length*o.length)*t.length))) (gd (inW (.ofNat (((h.length*o.length)*t.length)*G.length))) (bif !(ilt s (Int.mul (Int.mul (Int.mul (.ofNat h.length) (.ofNat o.length)) (.ofNat t.length)) (.ofNat G.length)))then some (.tu [vn 0,vn 0,vn 8],true)else gd (!(ieq (.ofNat G.length) 0)) (gd (inW (s.tdiv (.ofNat G.length))) (gd (!(ieq (.ofNat G.length) 0)) (some (.tu [vi (s.tdiv (.ofNat G.length)),vi (s.tmod (.ofNat G.length)),vn 0],true)))))))):=by kernel_rfl
theorem ne0{n:Nat}(h:1≤n):ieq (.ofNat n) 0=false:=by
 cases q:ieq (.ofNat n) 0 with
 | false=>rfl
 | true=>
  have:(n:Int)=0:=qP.1 q;omega
noncomputable def spG(h o t:List Int)(G:List Bd)(P D S:Int)(O U:List Nz)(C st V:Raw)(s:Int):Bool:=ieq (dcA h o t G P D S O U C st V) 0&&(!ilt s (.ofNat 0)&&ilt s (.ofNat (h.length*o.length*t.length*G.length)))
noncomputable def spW(h o t:List Int)(G:List Bd)(P D S:Int)(O U:List Nz)(C st V:Raw)(s:Int):Int:=bif spG h o t G P D S O U C st V s then s.tdiv (.ofNat G.length)else 0
noncomputable def spA(h o t:List Int)(G:List Bd)(P D S:Int)(O U:List Nz)(C st V:Raw)(s:Int):Int:=bif spG h o t G P D S O U C st V s then s.tmod (.ofNat G.length)else 0
noncomputable def spE(h o t:List Int)(G:List Bd)(P D S:Int)(O U:List Nz)(C st V:Raw)(s:Int):Int:=bif ieq (dcA h o t G P D S O U C st V) 0 then(bif !ilt s (.ofNat 0)&&ilt s (.ofNat (h.length*o.length*t.length*G.length))then 0 else 8)else dcA h o t G P D S O U C st V
theorem jAi(h o t:List Int)(G:List Bd)(P D S:Int)(O U:List Nz)(C st V:Raw)(s:Int):((qW Tryz.prog (evD Tryz.prog (odT [(24,odR [mdT] (oDc dcA))]) (loT []) 60) 8 [.ag (mdC h o t G P D S O U C st V),vi s] []).bind jB).run=some (.tu [vi (spW h o t G P D S O U C st V s),vi (spA h o t G P D S O U C st V s),vi (spE h o t G P D S O U C st V s)],true):=by
 rw[eSpl];unfold spW spA spE spG;cases e:ieq (dcA h o t G P D S O U C st V) 0 with
 | false=>rfl
 | true=>
  have m:=zMi h o t G P D S O U C st V (qP.1 e);obtain⟨g1,g2,g3⟩:=zAn m.grid;obtain⟨b1,b2,b3⟩:=zFf g1.2 g2.2 g3.2 m.av6;have e2:Int.mul (Int.mul (Int.mul (.ofNat h.length) (.ofNat o.length)) (.ofNat t.length)) (.ofNat G.length)= .ofNat (h.length*o.length*t.length*G.length):=rfl;rw[e2,qK (show h.length*o.length<9223372036854775808 by omega),qK (show h.length*o.length*t.length<9223372036854775808 by omega),qK (show h.length*o.length*t.length*G.length<9223372036854775808 by omega)]
  cases s with
  | negSucc p=>rfl
  | ofNat p=>
   have e3:ilt (.ofNat p) (.ofNat 0)=false:=xU (Int.natCast_nonneg p);rw[e3];cases e4:ilt (.ofNat p) (.ofNat (h.length*o.length*t.length*G.length))with
   | false=>rfl
   | true=>
    have hp:p<h.length*o.length*t.length*G.length:=Int.ofNat_lt.1 (xM.1 e4);have a1:=m.av1;have e5:ieq (.ofNat G.length) 0=false:=ne0 a1;have e6:Int.tdiv (.ofNat p) (.ofNat G.length)= .ofNat (p / G.length):=rfl;rw[e5,e6,qK (show p / G.length<9223372036854775808 from Nat.lt_of_le_of_lt (Nat.div_le_self p G.length) (show p<9223372036854775808 by omega))]
    rfl
noncomputable def oSp(w a e:MF (Int→Int)):List T→DT (T×Bool)
 | [.ag [.ls .a (.int .i64) h,.ls .a (.int .i64) o,.ls .a (.int .i64) t,.ls .a (.prod (.int .u8) (.prod (.int .i64) (.int .i64))) G,.v (.int .i64 P),.v (.int .i64 D),.v (.int .i64 S),.ls .a (.prod (.int .i64) zP) O,.ls .a (.prod (.int .i64) zP) U,.v (.bool ab),.ls .a .lim C,.ls .a .lim am,.v (.bool sb),.ls .a .lim sl,.ls .a .lim sm,.v (.bool rb),.ls .a .lim rl,.ls .a .lim rm],.v (.int .i64 s)]=> .ret (.tu [.v (.int .i64 (w h o t G P D S O U ⟨ab,C,am⟩ ⟨sb,sl,sm⟩ ⟨rb,rl,rm⟩ s)),.v (.int .i64 (a h o t G P D S O U ⟨ab,C,am⟩ ⟨sb,sl,sm⟩ ⟨rb,rl,rm⟩ s)),.v (.int .i64 (e h o t G P D S O U ⟨ab,C,am⟩ ⟨sb,sl,sm⟩ ⟨rb,rl,rm⟩ s))],true)
 | _=> .no
theorem qKz:vL Tryz.prog (odT [(24,odR [mdT] (oDc dcA))]):=zX yO (jY kDc)
theorem kSp:∀az tv nw,(oSp spW spA spE az).run=some (tv,nw)→∀k,KnP Tryz.prog k 8 az tv nw:=by
 intro az tv nw hh k;unfold oSp at hh;split at hh
 ·rename_i h o t G P D S O U ab C am sb sl sm rb rl rm s;cases hh;exact kQ (cz:=[.ag (mdC h o t G P D S O U ⟨ab,C,am⟩ ⟨sb,sl,sm⟩ ⟨rb,rl,rm⟩),vi s]) xA qKz qZ (jAi h o t G P D S O U ⟨ab,C,am⟩ ⟨sb,sl,sm⟩ ⟨rb,rl,rm⟩ s) rfl k
 ·cases hh
noncomputable abbrev dvN(v:Int)(c:List Int):Int:=v.tdiv (.ofNat c.length)
noncomputable abbrev mdN(v:Int)(c:List Int):Int:=v.tmod (.ofNat c.length)
theorem ePnt(ic:List (List Int)→Int)(h o t:List Int)(v:Int):((qW Tryz.prog (evD Tryz.prog (odT [(59,odR [.list (.list nT)] (zYl ic))]) (loT []) 60) 9 [.ls .a nT.list [h,o,t],vi v] []).bind jB).run=bif !ieq (ic [h,o,t]) 0 then some (.tu [.v (.slice none 0 0),vi (ic [h,o,t])],true)else(bif ilt v (.ofNat 0)then er 8 else gd (inW (.ofNat (1*h.length))) (gd (inW (.ofNat (1*h.length*o.length))) (gd (inW (.ofNat (1*h.length*o.length*t.length))) (bif !ilt v (.ofNat (1*h.length*o.length*t.length))then er 8 else gd (!ieq (.ofNat t.length) 0) (gd (!ieq (.ofNat t.length) 0) (gd (inW (dvN v t)) (gd (!ieq (.ofNat o.length) 0) (gd (!ieq (.ofNat o.length) 0) (gd (inW (dvN (dvN v t) o)) (gd (!ieq (.ofNat h.length) 0) (gd (!ieq (.ofNat h.length) 0) (gd (inW (dvN (dvN (dvN v t) o) h)) (gd (nng (mdN (dvN (dvN v t) o) h)) (gd (Nat.blt (mdN (dvN (dvN v t) o) h).toNat h.length) (gd (nng (mdN (dvN v t) o)) (gd (Nat.blt (mdN (dvN v t) o).toNat o.length) (gd (nng (mdN v t)) (gd (Nat.blt (mdN v t).toNat t.length) (some (.tu [.sl [vi (nI h (mdN (dvN (dvN v t) o) h).toNat),vi (nI o (mdN (dvN v t) o).toNat),vi (nI t (mdN v t).toNat)] 3,vn 0],true)))))))))))))))))))):=by kernel_rfl
noncomputable def pnG(h o t:List Int)(v:Int):Bool:=ieq (icE [h,o,t]) 0&&(!ilt v (.ofNat 0)&&ilt v (.ofNat (1*h.length*o.length*t.length)))
noncomputable def pnL(h o t:List Int)(v:Int):List Int:=bif pnG h o t v then[nI h (mdN (dvN (dvN v t) o) h).toNat,nI o (mdN (dvN v t) o).toNat,nI t (mdN v t).toNat]else[]
noncomputable def pnE(h o t:List Int)(v:Int):Int:=bif ieq (icE [h,o,t]) 0 then(bif !ilt v (.ofNat 0)&&ilt v (.ofNat (1*h.length*o.length*t.length))then 0 else 8)else icE [h,o,t]
theorem qZg(h o t:List Int)(v:Int):((qW Tryz.prog (evD Tryz.prog (odT [(59,odR [.list (.list nT)] (zYl icE))]) (loT []) 60) 9 [.ls .a nT.list [h,o,t],vi v] []).bind jB).run=bif pnG h o t v then some (.tu [.sl [vi (nI h (mdN (dvN (dvN v t) o) h).toNat),vi (nI o (mdN (dvN v t) o).toNat),vi (nI t (mdN v t).toNat)] 3,vn 0],true)else some (.tu [.v (.slice none 0 0),vi (pnE h o t v)],true):=by
 rw[ePnt];unfold pnG pnE;cases e:ieq (icE [h,o,t]) 0 with
 | false=>rfl
 | true=>
  obtain⟨g1,g2,g3⟩:=zAn (qP.1 e);obtain⟨b1,b2,b3⟩:=zFf g1.2 g2.2 g3.2 (show(1:Nat)≤6 by omega)
  rw[Nat.one_mul,qK (show h.length<9223372036854775808 by omega),qK (show h.length*o.length<9223372036854775808 by omega),qK (show h.length*o.length*t.length<9223372036854775808 by omega)]
  cases v with
  | negSucc p=>rfl
  | ofNat p=>
   have e3:ilt (.ofNat p) (.ofNat 0)=false:=xU (Int.natCast_nonneg p);rw[e3];cases e4:ilt (.ofNat p) (.ofNat (h.length*o.length*t.length))with
   | false=>rfl
   | true=>
    have hp:p<h.length*o.length*t.length:=Int.ofNat_lt.1 (xM.1 e4);have q1:p / t.length≤p:=Nat.div_le_self _ _;have q2:p / t.length / o.length≤p / t.length:=Nat.div_le_self _ _;have q3:p / t.length / o.length / h.length≤p / t.length / o.length:=Nat.div_le_self _ _;have i1:inW (dvN (.ofNat p) t)=true:=qK (show p / t.length<9223372036854775808 by omega)
    have i2:inW (dvN (dvN (.ofNat p) t) o)=true:=qK (show p / t.length / o.length<9223372036854775808 by omega)
    have i3:inW (dvN (dvN (dvN (.ofNat p) t) o) h)=true:=qK (show p / t.length / o.length / h.length<9223372036854775808 by omega)
    have j1:Nat.blt (mdN (dvN (dvN (.ofNat p) t) o) h).toNat h.length=true:=zO (show p / t.length / o.length % h.length<h.length from Nat.mod_lt _ (by omega))
    have j2:Nat.blt (mdN (dvN (.ofNat p) t) o).toNat o.length=true:=zO (show p / t.length % o.length<o.length from Nat.mod_lt _ (by omega))
    have j3:Nat.blt (mdN (.ofNat p) t).toNat t.length=true:=zO (show p % t.length<t.length from Nat.mod_lt _ (by omega))
    rw[i1,i2,i3,j1,j2,j3,ne0 g1.1,ne0 g2.1,ne0 g3.1];rfl
noncomputable def qEq(pl:List Int→List Int→List Int→Int→List Int)(pe:List Int→List Int→List Int→Int→Int):List T→DT (T×Bool)
 | [.ls .a (.list (.int .i64)) [h,o,t],.v (.int .i64 v)]=> .ret (.tu [.ls .a (.int .i64) (pl h o t v),.v (.int .i64 (pe h o t v))],true)
 | _=> .no
theorem qEt:vL Tryz.prog (odT [(59,odR [.list (.list nT)] (zYl icE))]):=zX yO (jY kIc')
theorem kPnt:∀az tv nw,(qEq pnL pnE az).run=some (tv,nw)→∀k,KnP Tryz.prog k 9 az tv nw:=by
 intro az tv nw hh k;unfold qEq at hh;split at hh
 ·rename_i h o t v;cases hh;have q:=qZg h o t v;have e0:pnG h o t v=true→pnE h o t v=0:=fun g=>by
   simp only[pnG,Bool.and_eq_true]at g;unfold pnE;rw[g.1,g.2.1,g.2.2];rfl
  show KnP Tryz.prog k 9 _ (.tu [.ls .a nT (pnL h o t v),_]) true;unfold pnL;cases e:pnG h o t v with
  | false=>
   rw[e]at q;exact(kQ (cz:=[.ls .a (.list nT) [h,o,t],vi v]) xA qEt qZ q rfl k).res fun B r v hv=>by
    obtain⟨vs,rfl,hvs⟩:=hv.tuI;match vs,hvs with
    | [a,b],⟨k1,k2,_⟩=>exact Rep.mkTu (vs:=[a,b]) ⟨zDn k1,k2,trivial⟩
  | true=>
   rw[e0 e];rw[e]at q;exact(kQ (cz:=[.ls .a (.list nT) [h,o,t],vi v]) xA qEt qZ q rfl k).res fun B r v hv=>by
    obtain⟨vs,rfl,hvs⟩:=hv.tuI;match vs,hvs with
    | [a,b],⟨k1,k2,_⟩=>exact Rep.mkTu (vs:=[a,b]) ⟨zNf rfl k1,k2,trivial⟩
 ·cases hh
noncomputable def iEq(a b:List Rt)(i:Nat):Hs:=⟨[.ls .a zP a,.ls .a zP b,vn i],[],[]⟩
noncomputable def Leq:Lp:=⟨0,
 ⟨[.h,.h]++(us' 3++([.h]++(us' 21))),[]⟩,
 ⟨us' 27,[]⟩,
 ⟨us' 4++([.h]++(us' 22)),[]⟩⟩
noncomputable abbrev qNh:Code:=lpc Tryz.prog 14 [false,true,false,true,true]
theorem qPx:cAt Tryz.prog 14 [false,true,false,true,true]=some (.loop qNh):=by kernel_rfl
noncomputable abbrev qNi(OD:Od)(LO:Lo):Hs→Option (Hs⊕(Ex×Hs)):=Leq.stp (evD Tryz.prog OD LO 60) 14 [false,true,false,true,true] qNh
theorem sEq(eqB:Raw→Raw→Bool)(a b:List Rt)(i:Nat):qNi (odT [(13,kcD (pB eqB) true)]) (loT []) (iEq a b i)=bif ilt (.ofNat i) (.ofNat a.length)then gd (Nat.blt i a.length) (gd (Nat.blt i b.length) (bif !(eqB (rw' (rI a i)) (rw' (rI b i)))then some (.inr (.r,⟨[.v (.bool false)],[],[]⟩))else nx i (.inl (iEq a b (i+1)))))else some (.inr (.x 0,⟨[],[],[]⟩)):=by kernel_rfl
section
variable (eqB:Raw→Raw→Bool)
noncomputable abbrev sGe:Hs→Option (Hs⊕(Ex×Hs)):=qNi (odT [(13,kcD (pB eqB) true)]) (loT [])
noncomputable def gEq(a b:List Rt)(i:Nat)(_:Unit):Unit⊕Bool:=bif eqB (xI a i) (xI b i)then .inl ()else .inr false
noncomputable def eqF(a b:List Rt):Bool:=fol (gEq eqB a b) (fun _=>true) a.length 0 ()
noncomputable def qOv:Bool→Ex×Hs
 | true=>(.x 0,⟨[],[],[]⟩)
 | false=>(.r,⟨[.v (.bool false)],[],[]⟩)
theorem lpEq{a b:List Rt}(hb:b.length=a.length)(h9:a.length<9223372036854775807):lpF (sGe eqB) a.length (iEq a b 0)=some (qOv (eqF eqB a b)):=
 yZ (st:=sGe eqB) (iv:=fun i(_:Unit)=>iEq a b i) (g:=gEq eqB a b) (d:=fun _=>true) (out:=qOv) (n:=a.length) (fun _ _=>True)
  (fun i _ hi _=>by
   refine(sEq ..).trans ?_;unfold gEq;have e1:ilt (.ofNat i) (.ofNat a.length)=true:=zO hi;rw[e1,cond_true,hb,zO hi,xV (show i+1<9223372036854775808 by omega)]
   cases eqB (xI a i) (xI b i)<;>rfl)
  (fun _ _ _ _ _ _=>trivial)
  (fun _ _=>by
   refine(sEq ..).trans ?_;have e1:ilt (.ofNat a.length) (.ofNat a.length)=false:=kE (Nat.le_refl _);rw[e1];rfl) a.length 0 () (by omega) trivial
noncomputable def hEq:Hs→DT (Ex×Hs)
 | ⟨[.ls .a (.prod .bool (.prod (.list .lim) (.list .lim))) a,.ls .a (.prod .bool (.prod (.list .lim) (.list .lim))) b,.v (.int .i64 (.ofNat 0))],[],[]⟩=>grd (Nat.beq b.length a.length&&Nat.blt a.length 9223372036854775807) (.ite (eqF eqB a b) (.ret (.x 0,⟨[],[],[]⟩)) (.ret (.r,⟨[.v (.bool false)],[],[]⟩)))
 | _=> .no
theorem qTk:∀q y,(hEq eqB q).run=some y→∃n,It (sGe eqB) n q y:=fun q y hh=>by
 unfold hEq at hh;split at hh
 ·rename_i a b;obtain⟨h1,h2⟩:=zV hh;simp only[Bool.and_eq_true]at h1;have:=kF _ _ (lpEq eqB (zY h1.1) (qY h1.2));cases hb:eqF eqB a b<;>rw[hb]at h2 this<;>cases h2<;>exact this
 ·cases hh
noncomputable abbrev LEq:Lo:=loT [(14,[false,true,false,true,true],Leq.row (hEq eqB))]
theorem eEqs(a b:List Rt):((qW Tryz.prog (evD Tryz.prog (odT [(13,kcD (pB eqB) true)]) (LEq eqB) 60) 14 [.ls .a zP a,.ls .a zP b] []).bind jB).run=bif !ieq (.ofNat a.length) (.ofNat b.length)then yB false else gd (Nat.beq b.length a.length&&Nat.blt a.length 9223372036854775807) (bif eqF eqB a b then yB true else yB false):=by kernel_rfl
noncomputable def zSh(a b:List Rt):Bool:=ieq (.ofNat a.length) (.ofNat b.length)&&eqF eqB a b
noncomputable def qEo(eqs:List Rt→List Rt→Bool):List T→DT (T×Bool)
 | [.ls .a (.prod .bool (.prod (.list .lim) (.list .lim))) a,.ls .a (.prod .bool (.prod (.list .lim) (.list .lim))) b]=>grd (Nat.blt a.length 9223372036854775807) (.ret (.v (.bool (eqs a b)),true))
 | _=> .no
end
theorem qEv:vL Tryz.prog (odT [(13,kcD (pB eqA) true)]):=zX yO fun az tv nw h k=>tX kEq az tv h k
theorem kEqs:∀az tv nw,(qEo (zSh eqA) az).run=some (tv,nw)→∀k,KnP Tryz.prog k 14 az tv nw:=by
 intro az tv nw hh k;unfold qEo at hh;split at hh
 ·rename_i a b;obtain⟨h1,h2⟩:=zV hh;cases h2;have q:((qW Tryz.prog (evD Tryz.prog (odT [(13,kcD (pB eqA) true)]) (LEq eqA) 60) 14 [.ls .a zP a,.ls .a zP b] []).bind jB).run=yB (zSh eqA a b):=by
   rw[eEqs];unfold zSh;cases he:ieq (.ofNat a.length) (.ofNat b.length)with
   | false=>rfl
   | true=>
    have e:a.length=b.length:=Int.ofNat.inj (qP.1 he);rw[←e,vN,zO (qY h1)];cases eqF eqA a b<;>rfl
  exact kQ (cz:=[.ls .a zP a,.ls .a zP b]) xA qEv (yK qZ (tT xA qEv qZ 60) qPx (qTk eqA)) q rfl k
 ·cases hh
theorem qCo(a:List Rt):zSh eqA a a=true:=by
 have g:∀k i,fol (gEq eqA a a) (fun _=>true) k i ()=true:=fun k=>by
  induction k with
  | zero=>intro i;rfl
  | succ k ih=>
   intro i;have e:gEq eqA a a i ()= .inl ():=by unfold gEq;rw[show eqA (xI a i) (xI a i)=true from decide_eq_true rfl];rfl
   simp only[fol,e];exact ih (i+1)
 unfold zSh eqF;rw[vY rfl,g];rfl
noncomputable def rwL(h o t:List Int)(G:List Bd)(P D S:Int)(O U:List Nz)(C st V:Raw)(Z:Int)(F I:List (List Int))(L sq:Int):List Int:=bif jL h o t G P D S O U C st V Z F I&&rwB S I L sq then rwR F I L sq else[]
noncomputable def rwN(h o t:List Int)(G:List Bd)(P D S:Int)(O U:List Nz)(C st V:Raw)(Z:Int)(F I:List (List Int))(L sq:Int):Nat:=bif jL h o t G P D S O U C st V Z F I then(bif ilt L (.ofNat 1)then 1 else(bif ilt S L then 1 else(bif rwB S I L sq then 0 else 8)))else pPA h o t G P D S O U C st V Z F I+1
theorem qZz(h o t:List Int)(G:List Bd)(P D S:Int)(O U:List Nz)(C st V:Raw)(Z:Int)(F I:List (List Int))(L sq:Int)(hr:F.length<9223372036854775807):((qW Tryz.prog (evD Tryz.prog (odT [(22,odR [tbT] (kL jL pPA)),(23,odR [.list nT] zYk)]) (loT []) 60) 7 [.ag (tbC h o t G P D S O U C st V Z F I),vi L,vi sq] []).bind jB).run=bif jL h o t G P D S O U C st V Z F I&&rwB S I L sq then some (.tu [.ls .a nT (rwR F I L sq),vn 0],true)else er (rwN h o t G P D S O U C st V Z F I L sq):=by
 unfold rwN;cases ho:jL h o t G P D S O U C st V Z F I with
 | false=>rw[eRw,zO hr,ho];rfl
 | true=>
  cases hb:rwB S I L sq with
  | true=>rw[jAa h o t G P D S O U C st V Z F I L sq hr ho hb];rfl
  | false=>
   rw[eRw,zO hr,ho];cases e1:ilt L (.ofNat 1)with
   | true=>rfl
   | false=>
    cases e2:ilt S L with
    | true=>rfl
    | false=>
     cases e3:ilt sq (.ofNat 0)with
     | true=>rfl
     | false=>
      have e4:ilt sq (.ofNat (gI I (kS L)).length)=false:=by
       unfold rwB at hb;rw[e1,e2,e3]at hb;exact hb
      have hT:Tab h o t G S Z F I:=zDw kyF h o t G P D S O U C st V Z F I (qP.1 ho);have k1:(1:Int)≤L:=kX e1;have k2:L≤S:=kX e2;have hix:=hT.ixl;have hst:=zCa hT.mod;obtain⟨j,hj⟩:∃j:Nat,L=((j+1:Nat):Int):=⟨L.toNat-1,by omega⟩
      have hj2:j<I.length:=by omega
      have ek:Int.sub L 1= .ofNat j:=by rw[hj];show((j+1:Nat):Int)-1=(j:Int);omega
      have eS:kS L=j:=by unfold kS;rw[ek];rfl
      rw[e4,ek,eS,qK (show j<9223372036854775808 by omega),zO hj2]
      rfl
noncomputable def qEr(qL:TF (Int→Int→List Int))(qE:TF (Int→Int→Nat)):List T→DT (T×Bool)
 | [.ag [.ls .a (.int .i64) h,.ls .a (.int .i64) o,.ls .a (.int .i64) t,.ls .a (.prod (.int .u8) (.prod (.int .i64) (.int .i64))) G,.v (.int .i64 P),.v (.int .i64 D),.v (.int .i64 S),.ls .a (.prod (.int .i64) zP) O,.ls .a (.prod (.int .i64) zP) U,.v (.bool ab),.ls .a .lim C,.ls .a .lim am,.v (.bool sb),.ls .a .lim sl,.ls .a .lim sm,.v (.bool rb),.ls .a .lim rl,.ls .a .lim rm,.v (.int .i64 Z),.ls .a (.list (.int .i64)) F,.ls .a (.list (.int .i64)) I],.v (.int .i64 L),.v (.int .i64 sq)]=>grd (Nat.blt F.length 9223372036854775807) (.ret (.tu [.ls .a (.int .i64) (qL h o t G P D S O U ⟨ab,C,am⟩ ⟨sb,sl,sm⟩ ⟨rb,rl,rm⟩ Z F I L sq),.v (.int .i64 (.ofNat (qE h o t G P D S O U ⟨ab,C,am⟩ ⟨sb,sl,sm⟩ ⟨rb,rl,rm⟩ Z F I L sq)))],true))
 | _=> .no
theorem kRw2:∀az tv nw,(qEr rwL rwN az).run=some (tv,nw)→∀k,KnP Tryz.prog k 7 az tv nw:=by
 intro az tv nw hh k;unfold qEr at hh;split at hh
 ·rename_i h o t G P D S O U ab C am sb sl sm rb rl rm Z F I L sq;obtain⟨h1,h2⟩:=zV hh;cases h2;have q:=qZz h o t G P D S O U ⟨ab,C,am⟩ ⟨sb,sl,sm⟩ ⟨rb,rl,rm⟩ Z F I L sq (qY h1);unfold rwL;cases e:jL h o t G P D S O U ⟨ab,C,am⟩ ⟨sb,sl,sm⟩ ⟨rb,rl,rm⟩ Z F I&&rwB S I L sq with
  | false=>
   rw[e]at q;exact(kQ (cz:=[.ag (tbC h o t G P D S O U ⟨ab,C,am⟩ ⟨sb,sl,sm⟩ ⟨rb,rl,rm⟩ Z F I),vi L,vi sq]) xA qFq qZ q rfl k).res fun B r v hv=>zTv hv
  | true=>
   rw[e]at q;simp only[Bool.and_eq_true]at e;have e0:rwN h o t G P D S O U ⟨ab,C,am⟩ ⟨sb,sl,sm⟩ ⟨rb,rl,rm⟩ Z F I L sq=0:=by
    have g:=e.2;simp only[rwB,Bool.and_eq_true,Bool.not_eq_true']at g;unfold rwN;rw[e.1,g.1,g.2.1,e.2];rfl
   rw[e0];exact kQ (cz:=[.ag (tbC h o t G P D S O U ⟨ab,C,am⟩ ⟨sb,sl,sm⟩ ⟨rb,rl,rm⟩ Z F I),vi L,vi sq]) xA qFq qZ q rfl k
 ·cases hh
noncomputable def iVv(x:List Rt)(q:List Int)(b:Nat)(h o t:List Int)(G:List Bd)(P D S:Int)(O U:List Nz)(C st V:Raw)(Z:Int)(F I:List (List Int))(L H W vq Y:Int)(g1 g2 g3:List Int):Hs:=⟨[vi L,vi H,vi W,vi vq,.ls .n nT q,vi Y,.ls .n zP x,vn b],[],[[.ls .a nT h,.ls .a nT o,.ls .a nT t,.ls .a bT G,vi P,vi D,vi S,.ls .a nzT O,.ls .a nzT U,.v (.bool C.1),.ls .a .lim C.2,.ls .a .lim C.3,.v (.bool st.1),.ls .a .lim st.2,.ls .a .lim st.3,.v (.bool V.1),.ls .a .lim V.2,.ls .a .lim V.3,vi Z,.ls .a (.list nT) F,.ls .a (.list nT) I],[.ls .a nT g1,.ls .a nT g2,.ls .a nT g3]]⟩
noncomputable def xVv(h o t:List Int)(G:List Bd)(P D S:Int)(O U:List Nz)(C st V:Raw)(Z:Int)(F I:List (List Int))(L H W vq Y:Int)(g1 g2 g3:List Int):Hs:=⟨[vi L,vi H,vi W,vi vq,vi Y],[],[[.ls .a nT h,.ls .a nT o,.ls .a nT t,.ls .a bT G,vi P,vi D,vi S,.ls .a nzT O,.ls .a nzT U,.v (.bool C.1),.ls .a .lim C.2,.ls .a .lim C.3,.v (.bool st.1),.ls .a .lim st.2,.ls .a .lim st.3,.v (.bool V.1),.ls .a .lim V.2,.ls .a .lim V.3,vi Z,.ls .a (.list nT) F,.ls .a (.list nT) I],[.ls .a nT g1,.ls .a nT g2,.ls .a nT g3]]⟩
noncomputable def Lvv:Lp:=⟨2,
 ⟨[.u,.h,.u,.h,.h,.h,.t (.op 0 0)]++(us' 6++([.h,.u,.u,.h,.u,.t (.os 1 0 3 3),.u,.u,.h,.u,.h]++(us' 189))),[.r [.h,.h,.h,.h,.h,.h,.h,.h,.h,.h,.h,.h,.h,.h,.h,.h,.h,.h,.h,.h,.h] 33,.r [.h,.h,.h] 22]⟩,
 ⟨[.u,.h,.u,.h,.h,.h,.t (.op 0 0)]++(us' 9++([.h,.u,.t (.os 1 0 3 3)]++(us' 194))),[.r [.h,.h,.h,.h,.h,.h,.h,.h,.h,.h,.h,.h,.h,.h,.h,.h,.h,.h,.h,.h,.h] 33,.r [.h,.h,.h] 22]⟩,
 ⟨us' 12++([.h]++(us' 200)),[.g,.g]⟩⟩
noncomputable abbrev qNr:Code:=lpc Tryz.prog 3 [false,true,false,true,true,true,true,true,true,true,true,true]
theorem qQg:cAt Tryz.prog 3 [false,true,false,true,true,true,true,true,true,true,true,true]=some (.loop qNr):=by kernel_rfl
noncomputable abbrev zUg(OD:Od)(LO:Lo):Hs→Option (Hs⊕(Ex×Hs)):=Lvv.stp (evD Tryz.prog OD LO 60) 3 [false,true,false,true,true,true,true,true,true,true,true,true] qNr
theorem sVv(fr:Int→Raw)(zb:Raw→Bool)(okV:Raw→Raw→Bool)(vR:Raw→Raw→Raw)(vP:Raw→Raw→Nat)(eqB:Raw→Raw→Bool)(x:List Rt)(q:List Int)(b:Nat)(h o t:List Int)(G:List Bd)(P D S:Int)(O U:List Nz)(C st V:Raw)(Z:Int)(F I:List (List Int))(L H W vq Y:Int)(g1 g2 g3:List Int):zUg (odT [(12,kcT (kR fr) true),(11,kcT (jR zb okV vR vP) true),(13,kcD (pB eqB) true)]) (loT []) (iVv x q b h o t G P D S O U C st V Z F I L H W vq Y g1 g2 g3)=bif ilt (.ofNat b) (.ofNat q.length)then gd (Nat.blt b q.length) (gd (xZ (nth nT.zero q b)) (gd (xZ Z) (gd (!(zb (fr Z))) (bif okV (fr (nth nT.zero q b)) (fr Z)then gd (Nat.blt b x.length) (bif !(eqB (rw' (nth zP.zero x b)) (vR (fr (nth nT.zero q b)) (fr Z)))then some (.inr (.r,⟨[.v (.bool false)],[],[[],[]]⟩))else nx b (.inl (iVv x q (b+1) h o t G P D S O U C st V Z F I L H W vq Y g1 g2 g3)))else some (.inr (.r,⟨[.v (.bool false)],[],[[],[]]⟩))))))else some (.inr (.x 0,(xVv h o t G P D S O U C st V Z F I L H W vq Y g1 g2 g3))):=by kernel_rfl
noncomputable def gVv(fr:Int→Raw)(zb:Raw→Bool)(okV:Raw→Raw→Bool)(vR:Raw→Raw→Raw)(eqB:Raw→Raw→Bool)(Z:Int)(x:List Rt)(q:List Int)(b:Nat):Bool:=xZ (nI q b)&&(xZ Z&&(!zb (fr Z)&&(okV (fr (nI q b)) (fr Z)&&(Nat.blt b x.length&&eqB (rw' (rI x b)) (vR (fr (nI q b)) (fr Z))))))
theorem lpVv(fr:Int→Raw)(zb:Raw→Bool)(okV:Raw→Raw→Bool)(vR:Raw→Raw→Raw)(vP:Raw→Raw→Nat)(eqB:Raw→Raw→Bool)(x:List Rt)(q:List Int)(h o t:List Int)(G:List Bd)(P D S:Int)(O U:List Nz)(C st V:Raw)(Z:Int)(F I:List (List Int))(L H W vq Y:Int)(g1 g2 g3:List Int)(h9:q.length<9223372036854775807)(hg:zKx (gVv fr zb okV vR eqB Z x q) q.length=true):lpF (zUg (odT [(12,kcT (kR fr) true),(11,kcT (jR zb okV vR vP) true),(13,kcD (pB eqB) true)]) (loT [])) q.length (iVv x q 0 h o t G P D S O U C st V Z F I L H W vq Y g1 g2 g3)=some (.x 0,xVv h o t G P D S O U C st V Z F I L H W vq Y g1 g2 g3):=
 yZ (st:=zUg (odT [(12,kcT (kR fr) true),(11,kcT (jR zb okV vR vP) true),(13,kcD (pB eqB) true)]) (loT [])) (iv:=fun b(_:Unit)=>iVv x q b h o t G P D S O U C st V Z F I L H W vq Y g1 g2 g3) (g:=fun _ _=>(.inl ():Unit⊕Unit)) (d:=fun _=>()) (out:=fun _=>(.x 0,xVv h o t G P D S O U C st V Z F I L H W vq Y g1 g2 g3)) (n:=q.length) (fun _ _=>True)
  (fun b _ hb _=>by
   have g:=qAr hg b hb;simp only[gVv,Bool.and_eq_true,Bool.not_eq_true']at g;obtain⟨g1,g2,g3,g4,g5,g6⟩:=g;rw[sVv,show ilt (.ofNat b) (.ofNat q.length)=true from zO hb,zO hb,g1,g2,g3,g4,g5,g6,xV (show b+1<9223372036854775808 by omega)]
   rfl)
  (fun _ _ _ _ _ _=>trivial)
  (fun _ _=>by rw[sVv,show ilt (.ofNat q.length) (.ofNat q.length)=false from kE (Nat.le_refl _)];rfl) q.length 0 () (by omega) trivial
noncomputable def hVv'(fr:Int→Raw)(zb:Raw→Bool)(okV:Raw→Raw→Bool)(vR:Raw→Raw→Raw)(eqB:Raw→Raw→Bool)(x:List Rt)(q:List Int)(L H W vq Y:Int)(g1 g2 g3:List Int):List T→DT (Ex×Hs)
 | [.ls .a (.int .i64) h,.ls .a (.int .i64) o,.ls .a (.int .i64) t,.ls .a (.prod (.int .u8) (.prod (.int .i64) (.int .i64))) G,.v (.int .i64 P),.v (.int .i64 D),.v (.int .i64 S),.ls .a (.prod (.int .i64) zP) O,.ls .a (.prod (.int .i64) zP) U,.v (.bool ab),.ls .a .lim C,.ls .a .lim am,.v (.bool sb),.ls .a .lim sl,.ls .a .lim sm,.v (.bool rb),.ls .a .lim rl,.ls .a .lim rm,.v (.int .i64 Z),.ls .a (.list (.int .i64)) F,.ls .a (.list (.int .i64)) I]=>grd (Nat.blt q.length 9223372036854775807&&zKx (gVv fr zb okV vR eqB Z x q) q.length) (.ret (.x 0,xVv h o t G P D S O U ⟨ab,C,am⟩ ⟨sb,sl,sm⟩ ⟨rb,rl,rm⟩ Z F I L H W vq Y g1 g2 g3))
 | _=> .no
noncomputable def hVv(fr:Int→Raw)(zb:Raw→Bool)(okV:Raw→Raw→Bool)(vR:Raw→Raw→Raw)(eqB:Raw→Raw→Bool):Hs→DT (Ex×Hs)
 | ⟨[.v (.int .i64 L),.v (.int .i64 H),.v (.int .i64 W),.v (.int .i64 vq),.ls .n (.int .i64) q,.v (.int .i64 Y),.ls .n (.prod .bool (.prod (.list .lim) (.list .lim))) x,.v (.int .i64 (.ofNat 0))],[],[ks,[.ls .a (.int .i64) g1,.ls .a (.int .i64) g2,.ls .a (.int .i64) g3]]⟩=>hVv' fr zb okV vR eqB x q L H W vq Y g1 g2 g3 ks
 | _=> .no
theorem qTw(fr:Int→Raw)(zb:Raw→Bool)(okV:Raw→Raw→Bool)(vR:Raw→Raw→Raw)(vP:Raw→Raw→Nat)(eqB:Raw→Raw→Bool):∀q y,(hVv fr zb okV vR eqB q).run=some y→∃n,It (zUg (odT [(12,kcT (kR fr) true),(11,kcT (jR zb okV vR vP) true),(13,kcD (pB eqB) true)]) (loT [])) n q y:=fun q y hh=>by
 unfold hVv at hh;split at hh
 ·rename_i L H W vq qs Y x ks g1 g2 g3;unfold hVv' at hh;split at hh
  ·rename_i h o t G P D S O U ab C am sb sl sm rb rl rm Z F I;obtain⟨h1,h2⟩:=zV hh;cases h2;simp only[Bool.and_eq_true]at h1;exact kF _ _ (lpVv fr zb okV vR vP eqB x qs h o t G P D S O U ⟨ab,C,am⟩ ⟨sb,sl,sm⟩ ⟨rb,rl,rm⟩ Z F I L H W vq Y g1 g2 g3 (qY h1.1) h1.2)
  ·cases hh
 ·cases hh
noncomputable abbrev LLv(fr:Int→Raw)(zb:Raw→Bool)(okV:Raw→Raw→Bool)(vR:Raw→Raw→Raw)(eqB:Raw→Raw→Bool):Lo:=loT [(3,[false,true,false,true,true,true,true,true,true,true,true,true],Lvv.row (hVv fr zb okV vR eqB))]
noncomputable abbrev cX(c:List Int)(x:Int):Int:=mxI (nI c 0) (mnI (nI c (pr c.length).toNat) x)
theorem eLvt(fT:TF Bool)(qL:TF (Int→Int→List Int))(qE:TF (Int→Int→Nat))(wS aS eS:MF (Int→Int))(pL:List Int→List Int→List Int→Int→List Int)(pE:List Int→List Int→List Int→Int→Int)(okL:LF Bool)(lL:LF (List Rt))(lP:LF Nat)(eqs:List Rt→List Rt→Bool)(fr:Int→Raw)(zb:Raw→Bool)(okV:Raw→Raw→Bool)(vR:Raw→Raw→Raw)(eqB:Raw→Raw→Bool)(h o t:List Int)(G:List Bd)(P D S:Int)(O U:List Nz)(C st V:Raw)(Z:Int)(F I:List (List Int))(L sq H W vq:Int):((qW Tryz.prog (evD Tryz.prog (odT [(5,odR [tbT] (qEp fT)),(6,oAw),(7,odR [tbT,nT,nT] (qEr qL qE)),(8,odR [mdT,nT] (oSp wS aS eS)),(9,odR [.list (.list nT),nT] (qEq pL pE)),(10,odR [tbT,nT,nT,nT,nT,nT] (oLk okL lL lP)),(14,odR [.list zP,.list zP] (qEo eqs))]) (LLv fr zb okV vR eqB) 60) 3 [.ag (tbC h o t G P D S O U C st V Z F I),vi L,vi sq,vi H,vi W,vi vq] []).bind jB).run=gd (Nat.blt O.length 9223372036854775807&&(Nat.blt U.length 9223372036854775807&&(Nat.blt F.length 9223372036854775807&&Nat.blt I.length 9223372036854775807))) (bif fT h o t G P D S O U C st V Z F I then yB true else gd (Nat.blt F.length 9223372036854775807) (bif !ieq (.ofNat (qE h o t G P D S O U C st V Z F I L sq)) 0 then(bif ieq (.ofNat (qL h o t G P D S O U C st V Z F I L sq).length) (.ofNat 0)then yB true else yB (bif ieq (eS h o t G P D S O U C st V sq) (.ofNat 0)then false else true))else(bif !ieq (eS h o t G P D S O U C st V sq) 0 then(bif ieq (.ofNat (qL h o t G P D S O U C st V Z F I L sq).length) (.ofNat 0)then yB true else yB (bif ieq (eS h o t G P D S O U C st V sq) (.ofNat 0)then false else true))else(bif !ieq (pE h o t (wS h o t G P D S O U C st V sq)) 0 then(bif ieq (.ofNat (qL h o t G P D S O U C st V Z F I L sq).length) (.ofNat 0)then yB true else yB (bif ieq (eS h o t G P D S O U C st V sq) (.ofNat 0)then false else true))else(bif !ieq (.ofNat (pL h o t (wS h o t G P D S O U C st V sq)).length) 3 then(bif ieq (.ofNat (qL h o t G P D S O U C st V Z F I L sq).length) (.ofNat 0)then yB true else yB (bif ieq (eS h o t G P D S O U C st V sq) (.ofNat 0)then false else true))else gd (Nat.blt 0 (pL h o t (wS h o t G P D S O U C st V sq)).length) (gd (Nat.blt 1 (pL h o t (wS h o t G P D S O U C st V sq)).length) (gd (Nat.blt 2 (pL h o t (wS h o t G P D S O U C st V sq)).length) (gd (Nat.blt F.length 9223372036854775807) (bif okL h o t G P D S O U C st V Z F I L (nI (pL h o t (wS h o t G P D S O U C st V sq)) 0) (nI (pL h o t (wS h o t G P D S O U C st V sq)) 1) (nI (pL h o t (wS h o t G P D S O U C st V sq)) 2) (aS h o t G P D S O U C st V sq)then(bif !ieq (.ofNat (lL h o t G P D S O U C st V Z F I L (nI (pL h o t (wS h o t G P D S O U C st V sq)) 0) (nI (pL h o t (wS h o t G P D S O U C st V sq)) 1) (nI (pL h o t (wS h o t G P D S O U C st V sq)) 2) (aS h o t G P D S O U C st V sq)).length) (.ofNat (qL h o t G P D S O U C st V Z F I L sq).length)then yB false else gd (Nat.blt (qL h o t G P D S O U C st V Z F I L sq).length 9223372036854775807&&zKx (gVv fr zb okV vR eqB Z (lL h o t G P D S O U C st V Z F I L (nI (pL h o t (wS h o t G P D S O U C st V sq)) 0) (nI (pL h o t (wS h o t G P D S O U C st V sq)) 1) (nI (pL h o t (wS h o t G P D S O U C st V sq)) 2) (aS h o t G P D S O U C st V sq)) (qL h o t G P D S O U C st V Z F I L sq)) (qL h o t G P D S O U C st V Z F I L sq).length) (gd (Nat.blt F.length 9223372036854775807) (bif okL h o t G P D S O U C st V Z F I L H W vq (aS h o t G P D S O U C st V sq)then gd (Nat.blt 0 h.length) (gd (inW (pr h.length)) (gd (nng (pr h.length)) (gd (Nat.blt (pr h.length).toNat h.length) (gd (Nat.blt 0 o.length) (gd (inW (pr o.length)) (gd (nng (pr o.length)) (gd (Nat.blt (pr o.length).toNat o.length) (gd (Nat.blt 0 t.length) (gd (inW (pr t.length)) (gd (nng (pr t.length)) (gd (Nat.blt (pr t.length).toNat t.length) (gd (Nat.blt F.length 9223372036854775807) (bif okL h o t G P D S O U C st V Z F I L (cX h H) (cX o W) (cX t vq) (aS h o t G P D S O U C st V sq)then gd (Nat.blt (lL h o t G P D S O U C st V Z F I L H W vq (aS h o t G P D S O U C st V sq)).length 9223372036854775807) (yB (eqs (lL h o t G P D S O U C st V Z F I L H W vq (aS h o t G P D S O U C st V sq)) (lL h o t G P D S O U C st V Z F I L (cX h H) (cX o W) (cX t vq) (aS h o t G P D S O U C st V sq))))else yB false)))))))))))))else yB true)))else yB false))))))))):=by kernel_rfl
theorem zDt{c:List Int}(h:wI c=true):c1F c c=false∧1≤c.length∧c.length≤32:=by
 simp only[wI,Bool.and_eq_true,Nat.ble_eq,Bool.not_eq_true']at h;exact h
theorem zLm{c:List Int}(h:wI c=true){i:Nat}:∀{j:Nat},i<j→j<c.length→nI c i<nI c j
 | 0,hij,_=>by omega
 | j+1,hij,hj=>by
  have q:=(zCp (zDt h).1 hj).2.2 (Nat.succ_pos j);rw[Nat.add_sub_cancel]at q;rcases Nat.eq_or_lt_of_le (Nat.le_of_lt_succ hij)with rfl | g
  ·exact q
  ·exact Int.lt_trans (zLm h g (by omega)) q
theorem zLl{c:List Int}(h:wI c=true){i j:Nat}(hij:i≤j)(hj:j<c.length):nI c i≤nI c j:=by
 rcases Nat.eq_or_lt_of_le hij with rfl | g
 ·exact Int.le_refl _
 ·exact Int.le_of_lt (zLm h g hj)
theorem zOj{c:List Int}(h:wI c=true)(x:Int):nI c 0≤clX c x∧clX c x≤nI c (c.length-1):=by
 obtain⟨_,h2,_⟩:=zDt h;refine⟨qOd,?_⟩;have m:=zLl h (Nat.zero_le (c.length-1)) (by omega)
 unfold clX;rw[zMw (show c.length=c.length-1+1 by omega)]
 have q1:=zGw (nI c 0) (mnI x (nI c (c.length-1)));have q2:=zDh x (nI c (c.length-1));rcases q1.2.2 with g | g<;>omega
theorem qOc{c:List Int}(h:wI c=true){x:Int}(h0:nI c 0≤x)(h1:x≤nI c (c.length-1)):clX c x=x:=by
 obtain⟨_,h2,_⟩:=zDt h;unfold clX;rw[zMw (show c.length=c.length-1+1 by omega)]
 have q1:=zGw (nI c 0) (mnI x (nI c (c.length-1)));have q2:=zDh x (nI c (c.length-1));rcases q1.2.2 with g | g<;>rcases q2.2.2 with k | k<;>omega
theorem jBo{c:List Int}(h:wI c=true)(x:Int):clX c (clX c x)=clX c x:=qOc h (zOj h x).1 (zOj h x).2
theorem jCq{c:List Int}(h:wI c=true){i:Nat}(hi:i<c.length):zAh c (nI c i)=true∧ixS c (nI c i)=i:=by
 have hc:clX c (nI c i)=nI c i:=qOc h (zLl h (Nat.zero_le i) hi) (zLl h (by omega) (by omega))
 have hs:=zNb (x:=nI c i) h;have hl:=qDm (x:=nI c i) h;cases H:sF c (clX c (nI c i))with
 | none=>rw[H]at hs;cases hs
 | some s=>
  obtain⟨j,e⟩:=s;obtain⟨_,q2,q3⟩:=qGv c.length 0 H;have ee:zAh c (nI c i)=e:=by unfold zAh;rw[H];rfl
  have ei:ixS c (nI c i)=j:=by show bX (sF c (clX c (nI c i)))=j;rw[H];rfl
  rw[ei]at hl;rw[hc]at q2 q3;rw[ee,ei];cases e with
  | true=>
   have q:=q2 rfl;refine⟨rfl,?_⟩;rcases Nat.lt_trichotomy j i with g | g | g
   ·have:=zLm h g hi;omega
   ·exact g
   ·have:=zLm h g hl;omega
  | false=>
   obtain⟨r1,r2⟩:=q3 rfl;rcases Nat.lt_or_ge i j with g | g
   ·have:=r2 i (Nat.zero_le _) g;omega
   ·have:=zLl h g hi;omega
theorem mu11:muA (Raw.of 1) (Raw.of 1)=Raw.of 1:=by
 have c1:(Raw.of 1).chk=0:=Raw.of_chk qGl;have r1:(Raw.of 1).rat=1:=Raw.of_rat 1;show opR _ _ ((Raw.of 1).rat*(Raw.of 1).rat)=_;rw[r1,Rat.mul_one];exact(zHf c1 c1 qGl).2
theorem of11:ofA 1 1=Raw.of 1:=by
 rw[qYj (by decide) (by decide)]
 exact congrArg Raw.of (qKt (d:=1) (by decide))
theorem zTy{c:List Int}(h:wI c=true){i v:Nat}(hi:i<c.length)(hv:v*c.length+i<9223372036854775808):wF ofA muA c (nI c i) [((.ofNat v:Int),toT (Raw.of 1))]=[((.ofNat (v*c.length+i):Int),toT (Raw.of 1))]:=by
 obtain⟨e1,e2⟩:=jCq h hi;show w1 ofA muA c (nI c i) (.ofNat v,toT (Raw.of 1))++[]=_;unfold w1;rw[e1,cond_true,List.append_nil];have e3:wN muA c (.ofNat v,toT (Raw.of 1)) (zBy ofA i)=(.ofNat (v*c.length+i),toT (Raw.of 1)):=by
  unfold wN zBy;rw[of11];show(wq (.ofNat (v*c.length+i)),toT (muA (Raw.of 1) (Raw.of 1)))=_;rw[zXb (qK hv),mu11]
 show[wN muA c (.ofNat v,toT (Raw.of 1)) (zBy ofA (ixS c (nI c i)))]=_;rw[e2,e3]
theorem jCw{h o t:List Int}(hg:icE [h,o,t]=0){i j k:Nat}(hi:i<h.length)(hj:j<o.length)(hk:k<t.length):wgA h o t (nI h i) (nI o j) (nI t k)=[((.ofNat ((i*o.length+j)*t.length+k):Int),toT (Raw.of 1))]:=by
 obtain⟨s1,s2,s3⟩:=gJ hg;obtain⟨g1,g2,g3⟩:=zAn hg;have m1:i*o.length≤32*32:=Nat.mul_le_mul (by omega) g2.2
 have m2:(i*o.length+j)*t.length≤1056*32:=Nat.mul_le_mul (by omega) g3.2
 have e:wgA h o t (nI h i) (nI o j) (nI t k)=wF ofA muA t (nI t k) (wF ofA muA o (nI o j) (wF ofA muA h (nI h i) [((.ofNat 0:Int),toT (frA 1))])):=by
  unfold wgA wgR;rw[vY hg];rfl
 rw[e,fr1,zTy s1 hi (v:=0) (by omega),Nat.zero_mul,Nat.zero_add,zTy s2 hj (by omega),zTy s3 hk (by omega)]
noncomputable def w1'(c:List Int)(z:Int)(y:Nz):List Nz:=bif exF (sF c z)then[wN muA c y (zBy ofA (bX (sF c z)))]else[wN muA c y (zZf ofA c z (bX (sF c z))),wN muA c y (zZe ofA c z (bX (sF c z)))]
theorem zWz{c:List Int}(h:wI c=true)(x:Int):∀l:List Nz,wF ofA muA c (clX c x) l=wF ofA muA c x l
 | []=>rfl
 | y::l=>by
  have e:w1 ofA muA c (clX c x) y=w1 ofA muA c x y:=by
   show w1' c (clX c (clX c x)) y=w1' c (clX c x) y;rw[jBo h x]
  show w1 ofA muA c (clX c x) y++wF ofA muA c (clX c x) l=w1 ofA muA c x y++wF ofA muA c x l;rw[e,zWz h x l]
theorem jCx{h o t:List Int}(x0 x1 x2:Int)(hg:icE [h,o,t]=0):wgA h o t (clX h x0) (clX o x1) (clX t x2)=wgA h o t x0 x1 x2:=by
 obtain⟨s1,s2,s3⟩:=gJ hg;have e:∀a b c:Int,wgA h o t a b c=wF ofA muA t c (wF ofA muA o b (wF ofA muA h a [((0:Int),toT (frA 1))])):=fun a b c=>by
  unfold wgA wgR;rw[vY hg];rfl
 rw[e,e,zWz s1,zWz s2,zWz s3]
theorem qRr{v:Rat}(hv:BQ 41 v):qQ [toT (Raw.of 1)] [toT (Raw.of v)]=true∧jW [toT (Raw.of 1)] [toT (Raw.of v)]=Raw.of v:=by
 have c1:(Raw.of 1).chk=0:=Raw.of_chk qGl;have r1:(Raw.of 1).rat=1:=Raw.of_rat 1;have cv:(Raw.of v).chk=0:=Raw.of_chk (hv.fit (by omega))
 have V:(Raw.of v).rat=v:=Raw.of_rat v;have hf:zBv v=0:=hv.fit (by omega)
 have m:=zHf (q:=v) c1 cv hf;have z:=zHf (q:=0) qGj qGj qPg;have c0:(Raw.of 0).chk=0:=Raw.of_chk qPg;have r00:(Raw.of 0).rat=0:=Raw.of_rat 0;have a:=zHf (q:=v) c0 cv hf;have em:meA (Raw.of 1) (Raw.of v)=0:=by show Gv.opE _ _ ((Raw.of 1).rat*(Raw.of v).rat)=0;rw[r1,V,Rat.one_mul];exact m.1
 have mm:muA (Raw.of 1) (Raw.of v)=Raw.of v:=by show opR _ _ ((Raw.of 1).rat*(Raw.of v).rat)=_;rw[r1,V,Rat.one_mul];exact m.2
 have ez:aeA r0 r0=0:=by show Gv.opE _ _ (r0.rat+r0.rat)=0;rw[qGk,Rat.zero_add];exact z.1
 have zz:adA r0 r0=Raw.of 0:=by show opR _ _ (r0.rat+r0.rat)=_;rw[qGk,Rat.zero_add];exact z.2
 have ea:aeA (Raw.of 0) (Raw.of v)=0:=by show Gv.opE _ _ ((Raw.of 0).rat+(Raw.of v).rat)=0;rw[r00,V,Rat.zero_add];exact a.1
 have aa:adA (Raw.of 0) (Raw.of v)=Raw.of v:=by show opR _ _ ((Raw.of 0).rat+(Raw.of v).rat)=_;rw[r00,V,Rat.zero_add];exact a.2
 have g:gDt adA muA aeA meA [toT (Raw.of 1)] [toT (Raw.of v)] 0 r0= .inl (Raw.of v):=by
  show(bif !ieq (meA (Raw.of 1) (Raw.of v)) 0 then _ else(bif !ieq (aeA r0 r0) 0 then _ else(bif !ieq (aeA (adA r0 r0) (muA (Raw.of 1) (Raw.of v))) 0 then _ else(Sum.inl (adA (adA r0 r0) (muA (Raw.of 1) (Raw.of v))):Raw⊕(Raw⊕Int)))))=_;rw[em,ez,zz,mm,ea,aa];rfl
 have hF:dtF adA muA aeA meA [toT (Raw.of 1)] [toT (Raw.of v)]= .inl (Raw.of v):=by
  show fol (gDt adA muA aeA meA [toT (Raw.of 1)] [toT (Raw.of v)]) .inl 1 0 r0=_;simp only[fol];rw[g]
 have ok:qQ [toT (Raw.of 1)] [toT (Raw.of v)]=true:=by
  show(true&&isL (dtF adA muA aeA meA [toT (Raw.of 1)] [toT (Raw.of v)]))=true;rw[hF];rfl
 refine⟨ok,?_⟩;show dtR adA muA aeA meA _ _=_;unfold dtR;rw[show zLo adA muA aeA meA [toT (Raw.of 1)] [toT (Raw.of v)]=true from ok,hF];rfl
theorem zRw{m:Int}{k:Nat}(hk:0<k)(h:m.natAbs<2^k):BQ k (m:Rat):=⟨h,(show 1<2^k from Nat.one_lt_two_pow (by omega))⟩
theorem qEe(a b:Int):mnI a b=mnI b a:=by
 have q1:=zDh a b;have q2:=zDh b a;rcases q1.2.2 with g | g<;>rcases q2.2.2 with k | k<;>omega
theorem qRi(h o t:List Int)(G:List Bd)(P D S:Int)(O U:List Nz)(C st V:Raw)(Z:Int)(F I:List (List Int))(ho:jL h o t G P D S O U C st V Z F I=true):dcA h o t G P D S O U C st V=0:=by
 have:=qP.1 ho;cases e:ieq (dcA h o t G P D S O U C st V) 0 with
 | true=>exact qP.1 e
 | false=>
  exfalso;unfold pcA pcE at this;rw[e]at this;have this:dcA h o t G P D S O U C st V=0:=this;rw[vY this]at e;cases e
theorem qCi{m Z:Int}(h0:0≤m)(h1:m≤1099511627776)(s1:1≤Z)(s2:Z≤1048576):jU (frA m) (frA Z)=true∧zbA (frA Z)=false:=by
 have bm:BQ 41 ((m:Int):Rat):=zRw (by omega) (by omega)
 have bs:BQ 21 ((Z:Int):Rat):=zRw (by omega) (by omega)
 have cm:(frA m).chk=0:=Raw.of_chk (bm.fit (by omega))
 have cs:(frA Z).chk=0:=Raw.of_chk (bs.fit (by omega))
 have rm:(frA m).rat=(m:Rat):=Raw.of_rat _;have rs_:(frA Z).rat=(Z:Rat):=Raw.of_rat _;have b:BQ 42 (mkRat m Z.toNat):=qEd (by omega) (by omega) (by omega)
 have e:(m:Rat) / (Z:Rat)=mkRat m Z.toNat:=by
  rw[Rat.mkRat_eq_div];obtain⟨q,rfl⟩:=Int.eq_ofNat_of_zero_le (show 0≤Z by omega)
  rfl
 refine⟨?_,?_⟩
 ·show ieq (Gv.opE _ _ ((frA m).rat / (frA Z).rat)) 0=true;rw[rm,rs_,e];exact vY (zHf cm cs (b.fit (by omega))).1
 ·cases q:zbA (frA Z)with
  | false=>rfl
  | true=>
   have h:=zY q;have z:(frA Z).rat=0:=by
    unfold Raw.rat;rw[h];show mkRat (sgn _ 0) _=0;simp[sgn]
   rw[rs_]at z;have:=Rat.intCast_eq_zero_iff.1 z;omega
theorem zWp{Z:Int}{F I:List (List Int)}{L nn Y:Int}{ws:List Nz}:∀(k b:Nat)(acc:List Raw),(∀j,b≤j→j<b+k→∃x,sk1 frA qQ jW yE jU dvR dvP Z F I L nn Y ws j= .inl x)→∃l,skA Z F I L nn Y ws k b acc= .inl l
 | 0,b,acc,_=>⟨_,rfl⟩
 | k+1,b,acc,hh=>by
  obtain⟨x,hx⟩:=hh b (Nat.le_refl _) (by omega)
  obtain⟨l,hl⟩:=zWp k (b+1) (x::acc) fun j h1 h2=>hh j (by omega) (by omega)
  refine⟨l,?_⟩;simp only[skA,skL];rw[hx];exact hl
theorem wi0{x most:Int}{E K:Nat}(h1: -most≤x)(h2:x≤most):wiN x most E K=K:=by
 unfold wiN;rw[xU h1,xU h2];rfl
theorem qOs(h o t:List Int)(G:List Bd)(P D S:Int)(O U:List Nz)(C st V:Raw)(Z:Int)(F I:List (List Int)){L H W vq Y:Int}(ho:jL h o t G P D S O U C st V Z F I=true)(k1:1≤L)(k2:L≤S)(h1: -100000≤H)(h2:H≤100000)(u1: -100≤W)(u2:W≤100)(v1: -100≤vq)(v2:vq≤100)(p1:0≤Y)(p2:Y<(G.length:Int)):lkE h o t G P D S O U C st V Z F I L H W vq Y=0:=by
 unfold lkE lkC;rw[ho,show ilt L (.ofNat 1)=false from xU (show(1:Int)≤L from k1),xU k2,wi0 (most:=100000) h1 h2,wi0 (most:=100) u1 u2,wi0 (most:=100) v1 v2,show ilt Y (.ofNat 0)=false from xU (show(0:Int)≤Y from p1),show ilt Y (.ofNat G.length)=true from wZ p2];rfl
theorem jBw(h o t:List Int)(G:List Bd)(P D S:Int)(O U:List Nz)(C st V:Raw)(Z:Int)(F I:List (List Int)){L:Int}{i j k a:Nat}(ho:jL h o t G P D S O U C st V Z F I=true)(k1:1≤L)(k2:L≤S)(hi:i<h.length)(hj:j<o.length)(hk:k<t.length)(ha:a<G.length):tK h o t G P D S O U C st V Z F I L (nI h i) (nI o j) (nI t k) (.ofNat a)=true∧∀b,b<G.length→rI (lkL h o t G P D S O U C st V Z F I L (nI h i) (nI o j) (nI t k) (.ofNat a)) b=toT (dvR (frA (nI (rwR F I L (sB a G.length ((i*o.length+j)*t.length+k))) b)) (frA Z)):=by
 have hT:Tab h o t G S Z F I:=zDw kyF h o t G P D S O U C st V Z F I (qP.1 ho);have x1:=pJ hT.mod.hh hi;have x2:=pJ hT.mod.ho hj;have x3:=pJ hT.mod.ht hk;have sc1:=hT.sc1;have sc2:=hT.sc2;have hsz:=hT.mod.sz;have hE:=qOs h o t G P D S O U C st V Z F I (H:=nI h i) (W:=nI o j) (vq:=nI t k) (Y:= .ofNat a) ho k1 k2 (by omega) (by omega) x2.1 x2.2 x3.1 x3.2 (Int.natCast_nonneg a) (Int.ofNat_lt.2 ha)
 have m0:i*o.length+o.length≤h.length*o.length:=by rw[←Nat.succ_mul];exact Nat.mul_le_mul_right _ hi
 have m1:(i*o.length+j)*t.length+t.length≤h.length*o.length*t.length:=by rw[←Nat.succ_mul];exact Nat.mul_le_mul_right _ (by omega)
 have hV:(i*o.length+j)*t.length+k<h.length*o.length*t.length:=by omega
 have hW:=jCw hT.mod.grid hi hj hk;generalize (i*o.length+j)*t.length+k=vx at hV hW;have m2:vx*G.length+G.length≤h.length*o.length*t.length*G.length:=by rw[←Nat.succ_mul];exact Nat.mul_le_mul_right _ hV
 have q2:=qZy hT k1 k2 ha hV;have q3:=(qGs hT q2).2.2;have ej:jS (.ofNat G.length) (.ofNat a) ((.ofNat vx:Int),toT (Raw.of 1))=sB a G.length vx:=by
  show wq (Int.add (Int.mul (.ofNat vx) (.ofNat G.length)) (.ofNat a))= .ofNat (a+vx*G.length);rw[show Int.add (Int.mul (.ofNat vx) (.ofNat G.length)) (.ofNat a)= .ofNat (vx*G.length+a)from rfl,Nat.add_comm a];exact zXb (qK (show vx*G.length+a<9223372036854775808 by omega))
 have ev:∀b,vS F I L (.ofNat G.length) (.ofNat a) b ((.ofNat vx:Int),toT (Raw.of 1))=nI (rwR F I L (sB a G.length vx)) b:=fun b=>by
  unfold vS rS;rw[ej];rfl
 have key:∀b,b<G.length→sk1 frA qQ jW yE jU dvR dvP Z F I L (.ofNat G.length) (.ofNat a) [((.ofNat vx:Int),toT (Raw.of 1))] b= .inl (dvR (frA (nI (rwR F I L (sB a G.length vx)) b)) (frA Z)):=fun b hb=>by
  obtain⟨b1,b2⟩:=q3 b hb;have bm:BQ 41 ((nI (rwR F I L (sB a G.length vx)) b:Int):Rat):=zRw (by omega) (by omega)
  obtain⟨d1,d2⟩:=qRr bm;have e:scV frA F I L (.ofNat G.length) (.ofNat a) b [((.ofNat vx:Int),toT (Raw.of 1))]=[toT (Raw.of ((nI (rwR F I L (sB a G.length vx)) b:Int):Rat))]:=by
   show[toT (frA (vS F I L (.ofNat G.length) (.ofNat a) b ((.ofNat vx:Int),toT (Raw.of 1))))]=_;rw[ev]
  unfold sk1;rw[e,show scW [((.ofNat vx:Int),toT (Raw.of 1))]=[toT (Raw.of 1)]from rfl,d1,d2];show(bif jU (frA _) (frA Z)then _ else _)=_;rw[(qCi b1 b2 sc1 sc2).1];rfl
 obtain⟨l,hl⟩:=zWp (Z:=Z) (F:=F) (I:=I) (L:=L) (nn:= .ofNat G.length) (Y:= .ofNat a) (ws:=[((.ofNat vx:Int),toT (Raw.of 1))]) G.length 0 [] fun b _ h2=>⟨_,key b (by omega)⟩
 have eR:lkR h o t G P D S O U C st V Z F I L (nI h i) (nI o j) (nI t k) (.ofNat a)= .inl l:=by
  unfold lkR;rw[hE,hW];exact hl
 refine⟨by unfold tK;rw[eR];rfl,fun b hb=>?_⟩
 obtain⟨x,x1,x2⟩:=qPk G.length 0 [] hl b (Nat.zero_le _) (by omega)
 rw[key b hb]at x1;cases x1;rw[show([]:List Raw).length+(b-0)=b from Nat.zero_add _]at x2;unfold lkL;rw[eR];show rI (l.map toT) b=_;rw[qZo (List.getElem?_eq_some_iff.1 x2).1];exact(List.getElem?_eq_some_iff.1 x2).2
theorem jBx(h o t:List Int)(G:List Bd)(P D S:Int)(O U:List Nz)(C st V:Raw)(Z:Int)(F I:List (List Int)){L H W vq Y:Int}(hk:tK h o t G P D S O U C st V Z F I L H W vq Y=true):tK h o t G P D S O U C st V Z F I L (clX h H) (clX o W) (clX t vq) Y=true∧lkL h o t G P D S O U C st V Z F I L (clX h H) (clX o W) (clX t vq) Y=lkL h o t G P D S O U C st V Z F I L H W vq Y:=by
 obtain⟨ho,k1,k2,p1,p2⟩:=qKm hk;have hT:Tab h o t G S Z F I:=jAn hk;obtain⟨s1,s2,s3⟩:=gJ hT.mod.grid;obtain⟨_,l1,_⟩:=zDt s1;obtain⟨_,l2,_⟩:=zDt s2;obtain⟨_,l3,_⟩:=zDt s3;have c1:=zOj s1 H;have c2:=zOj s2 W;have c3:=zOj s3 vq;have a1:=pJ hT.mod.hh (show 0<h.length by omega)
 have a2:=pJ hT.mod.hh (show h.length-1<h.length by omega)
 have b1:=pJ hT.mod.ho (show 0<o.length by omega)
 have b2:=pJ hT.mod.ho (show o.length-1<o.length by omega)
 have d1:=pJ hT.mod.ht (show 0<t.length by omega)
 have d2:=pJ hT.mod.ht (show t.length-1<t.length by omega)
 have hE:=qOs h o t G P D S O U C st V Z F I (H:=clX h H) (W:=clX o W) (vq:=clX t vq) (Y:=Y) ho k1 k2 (by omega) (by omega) (by omega) (by omega) (by omega) (by omega) p1 p2
 have hE0:lkE h o t G P D S O U C st V Z F I L H W vq Y=0:=by
  have hc:Nat.beq (lkE h o t G P D S O U C st V Z F I L H W vq Y) 0=true:=by
   cases hc:Nat.beq (lkE h o t G P D S O U C st V Z F I L H W vq Y) 0 with
   | true=>rfl
   | false=>
    have e:lkR h o t G P D S O U C st V Z F I L H W vq Y= .inr (lkE h o t G P D S O U C st V Z F I L H W vq Y):=by unfold lkR;rw[hc];rfl
    unfold tK at hk;rw[e]at hk;cases hk
  exact zY hc
 have e:lkR h o t G P D S O U C st V Z F I L (clX h H) (clX o W) (clX t vq) Y=lkR h o t G P D S O U C st V Z F I L H W vq Y:=by
  unfold lkR;rw[hE,hE0,jCx H W vq hT.mod.grid]
 unfold tK lkL;unfold tK at hk;rw[e];exact⟨hk,rfl⟩
def ptI(h o t:List Int)(v:Nat):Prop:=∃i j k,i<h.length∧j<o.length∧k<t.length∧(i*o.length+j)*t.length+k=v∧pnL h o t (.ofNat v)=[nI h i,nI o j,nI t k]∧pnE h o t (.ofNat v)=0
theorem jCk{h o t:List Int}{v:Nat}(hg:icE [h,o,t]=0)(hv:v<h.length*o.length*t.length):ptI h o t v:=by
 obtain⟨g1,g2,g3⟩:=zAn hg;have d1:v / t.length<h.length*o.length:=Nat.div_lt_of_lt_mul (by rw[Nat.mul_comm];exact hv)
 have d2:v / t.length / o.length<h.length:=Nat.div_lt_of_lt_mul (by rw[Nat.mul_comm];exact d1)
 have eG:pnG h o t (.ofNat v)=true:=by
  unfold pnG;rw[Nat.one_mul,vY hg,show ilt (.ofNat v) (.ofNat 0)=false from xU (Int.natCast_nonneg v),wZ (show(.ofNat v:Int)<.ofNat (h.length*o.length*t.length)from Int.ofNat_lt.2 hv)];rfl
 refine⟨v / t.length / o.length % h.length,v / t.length % o.length,v % t.length,Nat.mod_lt _ (by omega),Nat.mod_lt _ (by omega),Nat.mod_lt _ (by omega),?_,?_,?_⟩
 ·rw[Nat.mod_eq_of_lt d2,Nat.mul_comm (v / t.length / o.length),Nat.div_add_mod,Nat.mul_comm,Nat.div_add_mod]
 ·unfold pnL;rw[eG];rfl
 ·have g:=eG;simp only[pnG,Bool.and_eq_true]at g;unfold pnE;rw[g.1,g.2.1,g.2.2];rfl
theorem qMj(h o t:List Int)(G:List Bd)(P D S:Int)(O U:List Nz)(C st V:Raw)(Z:Int)(F I:List (List Int))(L sq:Int)(hb:(jL h o t G P D S O U C st V Z F I&&rwB S I L sq)=false):ieq (.ofNat (rwN h o t G P D S O U C st V Z F I L sq)) 0=false:=by
 unfold rwN;cases ho:jL h o t G P D S O U C st V Z F I with
 | false=>rfl
 | true=>
  rw[ho]at hb;have hb:rwB S I L sq=false:=hb;rw[hb];cases ilt L (.ofNat 1)<;>cases ilt S L<;>rfl
theorem jAb(p q:Nat):sB (p % q) q (p / q)= .ofNat p:=by
 unfold sB;exact congrArg Int.ofNat (by rw[Nat.mul_comm];exact Nat.mod_add_div p q)
theorem qBd(c:List Int)(x:Int):cX c x=clX c x:=by unfold cX clX;rw[qEe]
theorem qKi(h o t:List Int)(G:List Bd)(P D S:Int)(O U:List Nz)(C st V:Raw)(Z:Int)(F I:List (List Int))(L sq H W vq:Int)(h1:O.length<9223372036854775807)(h2:U.length<9223372036854775807)(hr:F.length<9223372036854775807)(hi:I.length<9223372036854775807):((qW Tryz.prog (evD Tryz.prog (odT [(5,odR [tbT] (qEp lnT)),(6,oAw),(7,odR [tbT,nT,nT] (qEr rwL rwN)),(8,odR [mdT,nT] (oSp spW spA spE)),(9,odR [.list (.list nT),nT] (qEq pnL pnE)),(10,odR [tbT,nT,nT,nT,nT,nT] (oLk tK lkL lkP)),(14,odR [.list zP,.list zP] (qEo (zSh eqA)))]) (LLv frA zbA jU dvR eqA) 60) 3 [.ag (tbC h o t G P D S O U C st V Z F I),vi L,vi sq,vi H,vi W,vi vq] []).bind jB).run=yB true:=by
 rw[eLvt,zO h1,zO h2,zO hr,zO hi];cases lnT h o t G P D S O U C st V Z F I with
 | true=>rfl
 | false=>
  cases hb:jL h o t G P D S O U C st V Z F I&&rwB S I L sq with
  | false=>
   rw[qMj h o t G P D S O U C st V Z F I L sq hb];unfold rwL;rw[hb];rfl
  | true=>
   have hb':=hb;simp only[Bool.and_eq_true]at hb';obtain⟨ho,hw⟩:=hb';have hT:Tab h o t G S Z F I:=zDw kyF h o t G P D S O U C st V Z F I (qP.1 ho);have hd:=qRi h o t G P D S O U C st V Z F I ho;obtain⟨k1,k2,s1,s2⟩:=zTo hw;have q3:=qGs hT hw;have hix:=hT.ixl;have a1:=hT.mod.av1;have a6:=hT.mod.av6;have hsz:=hT.mod.sz;obtain⟨g1,g2,g3⟩:=zAn hT.mod.grid;obtain⟨kj,hj⟩:∃j:Nat,L=((j+1:Nat):Int):=⟨L.toNat-1,by omega⟩
   have ek:Int.sub L 1= .ofNat kj:=by rw[hj];show((kj+1:Nat):Int)-1=(kj:Int);omega
   have eS:kS L=kj:=by unfold kS;rw[ek];rfl
   obtain⟨p,rfl⟩:∃p:Nat,sq= .ofNat p:=Int.eq_ofNat_of_zero_le s1;have hp:p<h.length*o.length*t.length*G.length:=by
    rw[eS,(hT.row kj (by omega)).1]at s2
    exact Int.ofNat_lt.1 s2
   have hv:p / G.length<h.length*o.length*t.length:=Nat.div_lt_of_lt_mul (by rw[Nat.mul_comm];exact hp)
   have ha:p % G.length<G.length:=Nat.mod_lt _ (by omega)
   have eG:spG h o t G P D S O U C st V (.ofNat p)=true:=by
    unfold spG;rw[vY hd,show ilt (.ofNat p) (.ofNat 0)=false from xU (Int.natCast_nonneg p),wZ (show(.ofNat p:Int)<.ofNat (h.length*o.length*t.length*G.length)from Int.ofNat_lt.2 hp)];rfl
   have eE:spE h o t G P D S O U C st V (.ofNat p)=0:=by
    unfold spE;rw[vY hd,show ilt (.ofNat p) (.ofNat 0)=false from xU (Int.natCast_nonneg p),wZ (show(.ofNat p:Int)<.ofNat (h.length*o.length*t.length*G.length)from Int.ofNat_lt.2 hp)];rfl
   have eW:spW h o t G P D S O U C st V (.ofNat p)= .ofNat (p / G.length):=by unfold spW;rw[eG];rfl
   have eA:spA h o t G P D S O U C st V (.ofNat p)= .ofNat (p % G.length):=by unfold spA;rw[eG];rfl
   have eN:rwN h o t G P D S O U C st V Z F I L (.ofNat p)=0:=by
    have g:=hw;simp only[rwB,Bool.and_eq_true,Bool.not_eq_true']at g;unfold rwN;rw[ho,g.1,g.2.1,hw];rfl
   have eL:rwL h o t G P D S O U C st V Z F I L (.ofNat p)=rwR F I L (.ofNat p):=by unfold rwL;rw[hb];rfl
   have hP:ptI h o t (p / G.length):=jCk hT.mod.grid hv;obtain⟨i,j,k,i1,i2,i3,i4,e1,e2⟩:=hP;have eP:pnL h o t (.ofNat (p / G.length))=[nI h i,nI o j,nI t k]:=e1;have ePE:pnE h o t (.ofNat (p / G.length))=0:=e2;obtain⟨v1,v2⟩:=jBw h o t G P D S O U C st V Z F I ho k1 k2 i1 i2 i3 ha;rw[i4,jAb]at v2;have hl:=zVj h o t G P D S O U C st V Z F I L (nI h i) (nI o j) (nI t k) (.ofNat (p % G.length)) v1;rw[eN,eE,eW,eA,eL,eP,ePE,show nI [nI h i,nI o j,nI t k] 0=nI h i from rfl,show nI [nI h i,nI o j,nI t k] 1=nI o j from rfl,show nI [nI h i,nI o j,nI t k] 2=nI t k from rfl,v1,hl,q3.2.1];have hall:zKx (gVv frA zbA jU dvR eqA Z (lkL h o t G P D S O U C st V Z F I L (nI h i) (nI o j) (nI t k) (.ofNat (p % G.length))) (rwR F I L (.ofNat p))) G.length=true:=by
    refine qAs fun b hb=>?_;obtain⟨b1,b2⟩:=q3.2.2 b hb;obtain⟨d1,d2⟩:=qCi b1 b2 hT.sc1 hT.sc2;have i64:∀{m:Int},0≤m→m≤1099511627776→xZ m=true:=fun{m}x y=>by
     obtain⟨z,rfl⟩:=Int.eq_ofNat_of_zero_le x;exact qK (show z<9223372036854775808 by omega)
    have s1:=hT.sc1;have s2:=hT.sc2;unfold gVv;rw[i64 b1 b2,i64 (show 0≤Z by omega) (by omega),d1,d2,hl,zO hb,v2 b hb]
    exact decide_eq_true rfl
   rw[hall,vY (a:= .ofNat G.length) rfl,zO (show G.length<9223372036854775807 by omega)]
   cases e:tK h o t G P D S O U C st V Z F I L H W vq (.ofNat (p % G.length))with
   | false=>rfl
   | true=>
    obtain⟨c1,c2⟩:=jBx h o t G P D S O U C st V Z F I e;have l2:=zVj h o t G P D S O U C st V Z F I L H W vq (.ofNat (p % G.length)) e;have cut:∀{c:List Int},1≤c.length→c.length≤32→Nat.blt 0 c.length=true∧inW (pr c.length)=true∧nng (pr c.length)=true∧Nat.blt (pr c.length).toNat c.length=true:=fun{c}x y=>by
     obtain⟨m,hm⟩:∃m,c.length=m+1:=⟨c.length-1,by omega⟩
     rw[hm,prS];exact⟨zO (by omega),qK (by omega),rfl,zO (show m<m+1 by omega)⟩
    obtain⟨x1,x2,x3,x4⟩:=cut g1.1 g1.2;obtain⟨y1,y2,y3,y4⟩:=cut g2.1 g2.2;obtain⟨z1,z2,z3,z4⟩:=cut g3.1 g3.2;rw[x1,x2,x3,x4,y1,y2,y3,y4,z1,z2,z3,z4,qBd,qBd,qBd,c1,c2,l2,zO (show G.length<9223372036854775807 by omega),qCo]
    rfl
noncomputable abbrev tbN:Ty:= .prod mdT (.prod nT (.prod (.list (.list nT)) (.list (.list nT))))
theorem kAw(ha:KnP Tryz.prog 0 6 [] (.v (.bool true)) true)(k:Nat):KnP Tryz.prog k 6 [] (.v (.bool true)) true:=ha.clean rfl rfl k
theorem qYe(ha:KnP Tryz.prog 0 6 [] (.v (.bool true)) true):vL Tryz.prog (odT [(5,odR [tbT] (qEp lnT)),(6,oAw),(7,odR [tbT,nT,nT] (qEr rwL rwN)),(8,odR [mdT,nT] (oSp spW spA spE)),(9,odR [.list (.list nT),nT] (qEq pnL pnE)),(10,odR [tbT,nT,nT,nT,nT,nT] (oLk tK lkL lkP)),(14,odR [.list zP,.list zP] (qEo (zSh eqA)))]):=
 zX (zX (zX (zX (zX (zX (zX yO (jY kEqs)) (jY kLk)) (jY kPnt)) (jY kSp)) (jY kRw2)) (fun az tv nw h k=>by
  unfold oAw at h;split at h
  ·cases h;exact kAw ha k
  ·cases h)) (jY kLtb)
theorem qYx:vL Tryz.prog (odT [(12,kcT (kR frA) true),(11,kcT (jR zbA jU dvR dvP) true),(13,kcD (pB eqA) true)]):=zX (zX (zX yO fun az tv nw h k=>tX kEq az tv h k) fun az tv nw h k=>zGk qOr az tv nw h k) fun az tv nw h k=>zGk kFrT az tv nw h k
theorem qXq:mQ Tryz.prog (LLv frA zbA jU dvR eqA):=yK qZ (tT xA qYx qZ 60) qQg (qTw frA zbA jU dvR dvP eqA)
theorem qKg(ha:KnP Tryz.prog 0 6 [] (.v (.bool true)) true)(x0:tbN.den)(L sq H W vq:Int)(w0:bC tbN x0):KnP Tryz.prog 0 3 [.ag (qF .a tbN x0),vi L,vi sq,vi H,vi W,vi vq] (.v (.bool true)) true:=by
 obtain⟨⟨h,o,t,G,P,D,S,O,U,⟨ab,C,am⟩,⟨sb,sl,sm⟩,⟨rb,rl,rm⟩⟩,Z,F,I⟩:=x0;have q1:F.length*Ty.bts (.list nT)≤140737488351232:=w0.2.2.1.1;have q2:I.length*Ty.bts (.list nT)≤140737488351232:=w0.2.2.2.1;have q3:O.length*Ty.bts nzT≤140737488351232:=w0.1.2.2.2.2.2.2.2.1.1;have q4:U.length*Ty.bts nzT≤140737488351232:=w0.1.2.2.2.2.2.2.2.2.1.1;have k1:1≤Ty.bts (.list nT):=by decide
 have k2:1≤Ty.bts nzT:=by decide
 have r1:=Nat.le_trans (Nat.mul_le_mul_left F.length k1) q1;have r2:=Nat.le_trans (Nat.mul_le_mul_left I.length k1) q2;have r3:=Nat.le_trans (Nat.mul_le_mul_left O.length k2) q3;have r4:=Nat.le_trans (Nat.mul_le_mul_left U.length k2) q4;exact kQ (cz:=[.ag (qF .a tbN ((h,o,t,G,P,D,S,O,U,(ab,C,am),(sb,sl,sm),(rb,rl,rm)),Z,F,I)),vi L,vi sq,vi H,vi W,vi vq]) xA (qYe ha) qXq (qKi h o t G P D S O U ⟨ab,C,am⟩ ⟨sb,sl,sm⟩ ⟨rb,rl,rm⟩ Z F I L sq H W vq (by omega) (by omega) (by omega) (by omega)) rfl 0
theorem qKh(x0:tbN.den)(L sq H W vq:Int)(w0:bC tbN x0)(_:bC nT L)(_:bC nT sq)(_:bC nT H)(_:bC nT W)(_:bC nT vq):KnP Tryz.prog 0 3 [.ag (qF .a tbN x0),.v (.int .i64 L),.v (.int .i64 sq),.v (.int .i64 H),.v (.int .i64 W),.v (.int .i64 vq)] (.v (.bool true)) true:=qKg jBu x0 L sq H W vq w0
end Go.Proofs.YtjnpoeilfdbaaaaGreatDoor

import Derived.OpenShut
import Derived.WideShapes
import Derived.Shelf.Strings.Builder1
import Derived.Shelf.Strconv.Itoa3
import Derived.LaidSub
import Derived.Lib.LaidTab
import Derived.LaidMore
import Derived.Lay
import Derived.Test.YtdfmdiakjdggbaaGreatDoorRows
import Derived.WalkKit
import Derived.BigCall
import Derived.LoopTactic
import Derived.Lib.AppendIntMem
import Derived.Lib.ItoaLen
import Derived.Test.YtdfmdiakjdggbaaGreatDoorBaseA
import Derived.Test.YtdfmdiakjdggbaaGreatDoorBaseB
import Derived.Test.YtdfmdiakjdggbaaGreatDoorBaseC
import Derived.Test.YtdfmdiakjdggbaaGreatDoorBaseD
import Derived.Test.YtdfmdiakjdggbaaGreatDoorBaseE
set_option linter.unusedVariables false
set_option linter.unusedSimpArgs false
set_option linter.unnecessarySimpa false
namespace Go.Ev
open Go Go.Gv Go.RowKit IntKind
inductive Sl where
  | u
  | h
  | t (x:T)
  | a (g:Tg) (A:Ty) (e:TypeId)
inductive Ob' where
  | g
  | r (cs:List Sl) (e:TypeId)
  | m (g:Tg) (K V:Ty)
structure Sp where
 ss:List Sl
 os:List Ob'
structure Hs where
 hs:List T
 az:List T
 ks:List (List T)
noncomputable def wU(m:Nat):Nat→T→Bool
 | 0,_=>false
 | k+1,t=>match t with
  | .sl cs _=>cs.all (wU m k)
  | .sn cs _=>cs.all (wU m k)
  | .st cs _=>cs.all (wU m k)
  | .fp cs=>cs.all (wU m k)
  | .ag cs=>cs.all (wU m k)
  | .tu cs=>cs.all (wU m k)
  | .fn _ cs=>cs.all (wU m k)
  | .fb _ cs=>cs.all (wU m k)
  | .os i _ _ _=>Nat.blt i m
  | .og i _ _=>Nat.blt i m
  | .op i _=>Nat.blt i m
  | .om i=>Nat.blt i m
  | .yl i=>Nat.blt i m
  | _=>true
noncomputable def chk(A:Ty):Nat→List T→Option (List (List T))
 | 0,_=>none
 | k+1,ts=>match ts with
  | []=>some []
  | _::_=>match lT A.size ts with
   | some u=>(match chk A k (zDy ts A.size)with
    | some r=>some (u::r)
    | none=>none)
   | none=>none
noncomputable def zMq(g:Tg)(A:Ty):List (List T)→List A.den→Option (List A.den)
 | [],r=>some r
 | u::l,r=>match rJ g A u with
  | some x=>zMq g A l (x::r)
  | none=>none
noncomputable def qEz(g:Tg)(A:Ty):Cs→Option (List A.den)
 | .d g' A' x=>bif g.le g' then vK A' A x else none
 | .l cs=>match chk A (ln cs+1) cs with
  | some l=>zMq g A l []
  | none=>none
noncomputable def qLw(g:Tg)(A:Ty)(e:TypeId)(n:Nat):TO→DT T
 | .gro c e'=>bif Nat.beq e e' then(match qEz g A c with
  | some (y::l)=>grd (Nat.beq n (y::l).length) (.ret (.ls g A (y::l)))
  | _=> .no)else .no
 | _=> .no
noncomputable def zAu:T→Bool
 | .v _=>true
 | .ls _ _ _=>true
 | _=>false
noncomputable def zBz:T→Option T
 | .v x=>some (.v x)
 | .ls g A l=>some (.ls g A l)
 | .ag cs=>bif cs.all zAu then some (.ag cs)else none
 | _=>none
noncomputable def pJ(m:Nat)(H:List TO):List Sl→List T→DT (List T×List T)
 | [],[]=> .ret ([],[])
 | .u::ss,_::ts=>pJ m H ss ts
 | .h::ss,t::ts=>(match zBz t with
  | some t=>(pJ m H ss ts).bind fun b=> .ret (t::b.1,b.2)
  | none=> .no)
 | .t x::ss,t::ts=>bif eqU 12 x t&&wU m 12 x then pJ m H ss ts else .no
 | .a g A e::ss,t::ts=>(match t with
  | .v (.slice none 0 0)=>(pJ m H ss ts).bind fun b=> .ret (b.1,.ls g A []::b.2)
  | .og i o n=>bif Nat.beq o 0 then(qLw g A e n (nth .gone H i)).bind fun x=>(pJ m H ss ts).bind fun b=> .ret (b.1,x::b.2)else .no
  | _=> .no)
 | _,_=> .no
noncomputable def tC:List Sl→List T→List (Option Nat)
 | .a .. ::ss,t::ts=>(match t with | .og i _ _=>some i | _=>none)::tC ss ts
 | _::ss,_::ts=>tC ss ts
 | _,_=>[]
noncomputable def mdE(g:Tg)(K V:Ty):TO→Option T
 | .mapd d=>bif g.le d.g then(match vK (.prod d.K d.V) (.prod K V) d.l with
  | some l=>some (.ls g (.prod K V) l)
  | none=>none)else none
 | .map []=>some (.ls g (.prod K V) [])
 | _=>none
noncomputable def moD(g:Tg)(K V:Ty):List T→TO
 | [.ls _ A l]=>(match vK A (.prod K V) l with
  | some l=> .mapd ⟨g,K,V,l⟩
  | none=> .gone)
 | _=> .gone
noncomputable def zRe(m:Nat)(H0:List TO):List Ob'→List TO→DT (List (List T))
 | [],_=> .ret []
 | .g::os,_::H=>(zRe m H0 os H).bind fun r=> .ret ([]::r)
 | .r cs e::os,.row ts e'::H=>bif Nat.beq e e' then(pJ m H0 cs ts).bind fun a=>bif emp a.2 then(zRe m H0 os H).bind fun r=> .ret (a.1::r)else .no else .no
 | .m g K V::os,o::H=>(match mdE g K V o with
  | some t=>(zRe m H0 os H).bind fun r=> .ret ([t]::r)
  | none=> .no)
 | _,_=> .no
noncomputable def isG:Ob'→Bool
 | .g=>true
 | _=>false
noncomputable def zIu(m:Nat)(os:List Ob'):List (Option Nat)→Bool
 | []=>true
 | none::l=>zIu m os l
 | some i::l=>(!zGl i l&&(!Nat.blt i m||isG (nth .g os i)))&&zIu m os l
noncomputable def zDp(m:Nat)(sp:Sp)(s:S):DT Hs:=bif zIu m sp.os (tC sp.ss s.L)&&(Nat.beq (ln sp.os) m&&Nat.ble m (ln s.H))then(pJ m s.H sp.ss s.L).bind fun a=>(zRe m s.H sp.os s.H).bind fun ks=> .ret ⟨a.1,a.2,ks⟩else .no
noncomputable def rowT(j:Nat):T→T
 | .ls _ _ []=> .v (.slice none 0 0)
 | .ls _ _ (x::l)=> .og j 0 (x::l).length
 | _=> .u
noncomputable def qQc(e:TypeId):T→TO
 | .ls _ _ []=> .gone
 | .ls g A (x::l)=> .gro (.d g A (x::l)) e
 | _=> .gone
noncomputable def buL:List Sl→Nat→List T→List T→List T
 | .u::ss,j,hs,az=> .u::buL ss j hs az
 | .h::ss,j,x::hs,az=>x::buL ss j hs az
 | .t x::ss,j,hs,az=>x::buL ss j hs az
 | .a _ _ _::ss,j,hs,x::az=>rowT j x::buL ss (j+1) hs az
 | _,_,_,_=>[]
noncomputable def buA:List Sl→List T→List TO
 | .a _ _ e::ss,x::az=>qQc e x::buA ss az
 | .a _ _ _::_,[]=>[]
 | _::ss,az=>buA ss az
 | [],_=>[]
noncomputable def buO:List Ob'→List (List T)→List TO
 | .g::os,_::ks=> .gone::buO os ks
 | .r cs e::os,k::ks=> .row (buL cs 0 k []) e::buO os ks
 | .m g K V::os,k::ks=>moD g K V k::buO os ks
 | _,_=>[]
noncomputable def bu(m:Nat)(sp:Sp)(q:Hs):S:=⟨buL sp.ss m q.hs q.az,buO sp.os q.ks++buA sp.ss q.az⟩
section
variable {P:Program}{E:Nat→Prop}{w0:World}{X:Hid}{F:List Nat}{H H':List TO}{B B':Bm}{w:World}{Y:Hid}{Mo:List (Nat×Obj)}{r:Rd}{m:Nat}
theorem Rep.low(hB:∀i,i<m→B' i=B i)(hN:B'.N=B.N):∀(k:Nat){t:T}{v:Value},wU m k t=true→Rep B r t v→Rep B' r t v
 | 0,_,_,h,_=>by cases h
 | k+1,t,y,h,hR=>by
  have all:∀{cs:List T},cs.all (wU m k)=true→∀(j:Nat)(t:T),cs[j]?=some t→wU m k t=true:=fun h j t e=>List.all_eq_true.1 h t (List.mem_of_getElem? e);have lt:∀{i:Nat},Nat.blt i m=true→i<m:=fun h=>by rwa[Nat.blt_eq]at h
  cases hR with
  | u=>exact .u
  | v hs=>exact .v hs
  | sl hn f h1 g hm=>simp only[wU]at h;exact .sl hn f h1 (fun j t e=>Rep.low hB hN k (all h j t e) (g j t e)) hm
  | sl0 hm=>exact .sl0 hm
  | sn hn f h1 g hm hb=>simp only[wU]at h;exact .sn hn f h1 (fun j t e=>Rep.low hB hN k (all h j t e) (g j t e)) hm (fun j t e=>hN▸hb j t e)
  | sn0 hm=>exact .sn0 hm
  | st f h1 g=>simp only[wU]at h;exact .st f h1 fun j t e=>Rep.low hB hN k (all h j t e) (g j t e)
  | st0=>exact .st0
  | fp f h1 g=>simp only[wU]at h;exact .fp f h1 fun j t e=>Rep.low hB hN k (all h j t e) (g j t e)
  | ag f hl h1 g=>simp only[wU]at h;exact .ag f hl h1 fun j t e=>Rep.low hB hN k (all h j t e) (g j t e)
  | tu f hl h1 g=>simp only[wU]at h;exact .tu f hl h1 fun j t e=>Rep.low hB hN k (all h j t e) (g j t e)
  | fn f hl h1 g=>simp only[wU]at h;exact .fn f hl h1 fun j t e=>Rep.low hB hN k (all h j t e) (g j t e)
  | fb f hl h1 g=>simp only[wU]at h;exact .fb f hl h1 fun j t e=>Rep.low hB hN k (all h j t e) (g j t e)
  | os h1=>exact .os (by rw[hB _ (lt h)];exact h1)
  | og h1 h2 h3 h4=>exact .og (by rw[hB _ (lt h)];exact h1) h2 h3 h4
  | op h1=>exact .op (by rw[hB _ (lt h)];exact h1)
  | om h1=>exact .om (by rw[hB _ (lt h)];exact h1)
  | yl h1=>exact .yl (by rw[hB _ (lt h)];exact h1)
  | ls h1=>exact .ls (qN.mono (Le.refl _) (fun b k=>k.eqN hN.symm) _ _ _ h1)
  | hv h1=>exact .hv (zAg.mono (Le.refl _) (fun b k=>k.eqN hN.symm) _ _ _ h1)
theorem dQ{t:T}(h:zAu t=true)(hN:B'.N=B.N){v:Value}(hR:Rep B r t v):Rep B' r t v:=by
 unfold zAu at h;split at h
 ·obtain⟨rfl,hs⟩:=hR.vI;exact .v hs
 ·cases hR with
  | ls h1=>exact .ls (qN.mono (Le.refl _) (fun b k=>k.eqN hN.symm) _ _ _ h1)
 ·cases h
theorem zCb(hN:B'.N=B.N):∀{ts:List T}{vs:List Value},ts.all zAu=true→zN B r ts vs→zN B' r ts vs
 | [],[],_,_=>trivial
 | t::ts,v::vs,h,hR=>by
  simp only[List.all_cons,Bool.and_eq_true]at h;exact⟨dQ h.1 hN hR.1,zCb hN h.2 hR.2⟩
 | [],_::_,_,hR=>hR.elim
 | _::_,[],_,hR=>hR.elim
theorem zMy{t t':T}(h:zBz t=some t'):t'=t:=by
 unfold zBz at h;split at h
 ·cases h;rfl
 ·cases h;rfl
 ·rename_i cs;cases hc:cs.all zAu with
  | false=>rw[hc]at h;cases h
  | true=>rw[hc]at h;cases h;rfl
 ·cases h
theorem zHk{t t':T}(h:zBz t=some t')(hN:B'.N=B.N){v:Value}(hR:Rep B r t v):Rep B' r t' v:=by
 obtain rfl:=zMy h;unfold zBz at h;split at h
 ·exact dQ rfl hN hR
 ·exact dQ rfl hN hR
 ·rename_i cs;cases hc:cs.all zAu with
  | false=>rw[hc]at h;cases h
  | true=>
   obtain⟨vs,rfl,hvs⟩:=hR.agI;exact Rep.mkAg (zCb hN hc hvs)
 ·cases h
theorem Wd.re(h:Wd P E w0 X F H B w Y Mo)(q:Nat→Option Nat)(hN:B'.N=B.N)(hn:∀i,H'.length≤i→B' i=none)
  (hq:∀(i:Nat)(o:TO),H'[i]?=some o→kV o=true→∃j o1,q i=some j∧B' i=B j∧H[j]?=some o1∧kV o1=true∧∀C ob,RO P B (rd w Y) C o1 ob→RO P B' (rd w Y) C o ob)
  (hf:∀(i:Nat)(cs:List T),H'[i]?≠some (.fz cs)) (hi:∀(i j k:Nat)(o1 o2:TO),H'[i]?=some o1→kV o1=true→H'[j]?=some o2→kV o2=true→q i=some k→q j=some k→i=j):Wd P E w0 X F H' B' w Y Mo:=
 ⟨h.st,fun i o ho hl=>by
  obtain⟨j,o1,_,e2,e3,e4,e5⟩:=hq i o ho hl;obtain⟨b,C,ob,g1,g2,g3⟩:=h.ob j o1 e3 e4;exact⟨b,C,ob,by rw[e2];exact g1,g2,e5 C ob g3⟩,fun i cs hc=>absurd hc (hf i cs),hn,fun i j oi oj p p' h1 l1 h2 l2 hp hp' e=>by
  obtain⟨a,o1,e1,e2,e3,e4,_⟩:=hq i oi h1 l1;obtain⟨a',o1',e1',e2',e3',e4',_⟩:=hq j oj h2 l2;rw[e2]at hp;rw[e2']at hp';have:=h.inj a a' o1 o1' p p' e3 e4 e3' e4' hp hp' e;subst this;exact hi i j a oi oj h1 l1 h2 l2 e1 e1',by rw[hN];exact h.bN,h.iv⟩
theorem chk_ok{A:Ty}:∀(k:Nat)(ts:List T){l:List (List T)},chk A k ts=some l→ts=l.flatten
 | 0,ts,l,h=>by cases h
 | k+1,[],l,h=>by cases h;rfl
 | k+1,t::ts,l,h=>by
  simp only[chk]at h;cases h1:lT A.size (t::ts)with
  | none=>simp[h1]at h
  | some u=>
   simp only[h1]at h;cases h2:chk A k (zDy (t::ts) A.size)with
   | none=>simp[h2]at h
   | some r'=>
    simp only[h2,Option.some.injEq]at h;subst h;obtain⟨_,rfl⟩:=aV _ _ _ h1;rw[List.flatten_cons,←chk_ok k _ h2,zDz,List.take_append_drop]
theorem zDr{g:Tg}{A:Ty}:∀(l:List (List T))(p:List A.den){x:List A.den}{vs:List Value},zMq g A l p=some x→zN B r (qE g A p++l.flatten) vs→zN B r (qE g A x) vs∧(qE g A x).length=(qE g A p++l.flatten).length
 | [],p,x,vs,h,hR=>by cases h;simpa using hR
 | u::l,p,x,vs,h,hR=>by
  simp only[zMq]at h;cases hc:rJ g A u with
  | none=>simp[hc]at h
  | some y=>
   simp only[hc]at h;rw[List.flatten_cons,←List.append_assoc]at hR;have hs:=zN.split (ts:=qE g A p++u) (us:=l.flatten) hR;have hs2:=zN.split (ts:=qE g A p) (us:=u) hs.1;obtain⟨k1,k2⟩:=mI A hc hs2.2;have hk:zN B r (qE g A (y::p)++l.flatten) vs:=by
    have:=(hs2.1.app k1).app hs.2;rw[List.take_append_drop,List.take_append_drop]at this;exact this
   obtain⟨g1,g2⟩:=zDr l (y::p) h hk;refine⟨g1,?_⟩;rw[g2];simp only[qE,List.flatten_cons,List.length_append,jA,k2,Nat.add_assoc]
theorem qFa{g:Tg}{A:Ty}{c:Cs}{x:List A.den}{vs:List Value}(h:qEz g A c=some x)(hR:zN B r c.list vs):zN B r (qE g A x) vs∧(qE g A x).length=c.list.length:=by
 unfold qEz at h;split at h
 ·rename_i g' A' x';cases hg:g.le g' with
  | false=>simp[hg]at h
  | true=>
   simp only[hg,cond_true]at h;obtain⟨rfl,he⟩:=mJ h;obtain rfl:=eq_of_heq he;have e:∀(l:List A'.den),qE g' A' l=yV g' A' l.reverse:=fun l=>by rw[←gQ,List.reverse_reverse]
   have e':∀(l:List A'.den),qE g A' l=yV g A' l.reverse:=fun l=>by rw[←gQ,List.reverse_reverse]
   refine⟨?_,?_⟩
   ·rw[e'];have hR:zN B r (qE g' A' x') vs:=hR;rw[e]at hR;exact zEd (by simpa using hg) A' _ hR
   ·show(qE g A' x').length=(qE g' A' x').length;rw[xB,xB]
 ·rename_i cs;cases hc:chk A (ln cs+1) cs with
  | none=>simp[hc]at h
  | some l=>
   simp only[hc]at h;have e:=chk_ok _ _ hc;have hR:zN B r cs vs:=hR;obtain⟨h1,h2⟩:=zDr l [] h (by simpa[qE,←e]using hR)
   refine⟨h1,?_⟩;rw[h2];show([]++l.flatten).length=cs.length;rw[List.nil_append,←e]
theorem zAr{g:Tg}{A:Ty}(hN:B'.N=B.N):∀{ts:List T}{vs:List Value},(∀t∈ts,∃t',zBz t=some t')→zN B r ts vs→zN B' r ts vs
 | [],[],_,_=>trivial
 | t::ts,v::vs,h,hR=>by
  obtain⟨t',ht⟩:=h t List.mem_cons_self;obtain rfl:=zMy ht;exact⟨zHk ht hN hR.1,zAr (g:=g) (A:=A) hN (fun t ht=>h t (List.mem_cons_of_mem _ ht)) hR.2⟩
 | [],_::_,_,hR=>hR.elim
 | _::_,[],_,hR=>hR.elim
theorem tK(g:Tg):∀(A:Ty)(x:A.den),∀t∈qB g A x,∃t',zBz t=some t'
 | .lim,_,t,h=>by simp only[qB,List.mem_singleton]at h;subst h;exact⟨_,rfl⟩
 | .int _,_,t,h=>by simp only[qB,List.mem_singleton]at h;subst h;exact⟨_,rfl⟩
 | .bool,_,t,h=>by simp only[qB,List.mem_singleton]at h;subst h;exact⟨_,rfl⟩
 | .str,_,t,h=>by simp only[qB,List.mem_singleton]at h;subst h;exact⟨_,rfl⟩
 | .list _,_,t,h=>by simp only[qB,List.mem_singleton]at h;subst h;exact⟨_,rfl⟩
 | .prod A C,x,t,h=>by
  rcases List.mem_append.1 h with h | h
  ·exact tK g A _ t h
  ·exact tK g C _ t h
theorem zEe(g:Tg)(A:Ty):∀(l:List A.den),∀t∈qE g A l,∃t',zBz t=some t'
 | [],t,h=>by cases h
 | x::l,t,h=>by
  rcases List.mem_append.1 h with h | h
  ·exact zEe g A l t h
  ·exact tK g A x t h
theorem pK{m:Nat}{H:List TO}:∀(ss:List Sl)(ts:List T){b:List T×List T},(pJ m H ss ts).run=some b→(tC ss ts).length=b.2.length
 | [],[],b,h=>by cases h;rfl
 | [],_::_,b,h=>by cases h
 | .u::ss,[],b,h=>by cases h
 | .h::ss,[],b,h=>by cases h
 | .t _::ss,[],b,h=>by cases h
 | .a .. ::ss,[],b,h=>by cases h
 | .u::ss,t::ts,b,h=>pK ss ts (b:=b) h
 | .h::ss,t::ts,b,h=>by
  simp only[pJ]at h;split at h
  ·obtain⟨b',h1,h2⟩:=zM h;cases h2;exact pK (b:=b') ss ts h1
  ·cases h
 | .t x::ss,t::ts,b,h=>by
  simp only[pJ]at h;cases hc:eqU 12 x t&&wU m 12 x with
  | false=>rw[hc]at h;cases h
  | true=>rw[hc]at h;exact pK ss ts h
 | .a g A e::ss,t::ts,b,h=>by
  simp only[pJ]at h;split at h
  ·obtain⟨b',h1,h2⟩:=zM h;cases h2;simp only[tC,List.length_cons,pK (b:=b') ss ts h1]
  ·rename_i i o n;cases ho:Nat.beq o 0 with
   | false=>rw[ho]at h;cases h
   | true=>
    rw[ho,cond_true]at h;obtain⟨x,_,h⟩:=zM h;obtain⟨b',h1,h2⟩:=zM h;cases h2;simp only[tC,List.length_cons,pK (b:=b') ss ts h1]
  ·cases h
theorem dZ(hB:∀i,i<m→B' i=B i)(hN:B'.N=B.N):∀(ss:List Sl)(ts:List T)(j:Nat){b:List T×List T}{vs:List Value},(pJ m H ss ts).run=some b→(∀(q i:Nat),(tC ss ts)[q]?=some (some i)→B' (j+q)=B i)→zN B r ts vs→zN B' r (buL ss j b.1 b.2) vs
 | [],[],j,b,vs,h,_,hR=>by
  cases h;cases vs with
  | nil=>trivial
  | cons=>exact hR.elim
 | [],_::_,j,b,vs,h,_,_=>by cases h
 | .u::ss,[],j,b,vs,h,_,_=>by cases h
 | .h::ss,[],j,b,vs,h,_,_=>by cases h
 | .t _::ss,[],j,b,vs,h,_,_=>by cases h
 | .a .. ::ss,[],j,b,vs,h,_,_=>by cases h
 | _::_,_::_,_,_,[],_,_,hR=>hR.elim
 | .u::ss,t::ts,j,b,v::vs,h,hq,hR=>⟨.u,dZ hB hN ss ts j (b:=b) h hq hR.2⟩
 | .h::ss,t::ts,j,b,v::vs,h,hq,hR=>by
  simp only[pJ]at h;split at h
  ·rename_i t' ht;obtain⟨b',h1,h2⟩:=zM h;cases h2;exact⟨zHk ht hN hR.1,dZ hB hN ss ts j h1 hq hR.2⟩
  ·cases h
 | .t x::ss,t::ts,j,b,v::vs,h,hq,hR=>by
  simp only[pJ]at h;cases hc:eqU 12 x t&&wU m 12 x with
  | false=>rw[hc]at h;cases h
  | true=>
   rw[hc]at h;simp only[Bool.and_eq_true]at hc;have e:=nG 12 x t hc.1;subst e;exact⟨Rep.low hB hN 12 hc.2 hR.1,dZ hB hN ss ts j (b:=b) h hq hR.2⟩
 | .a g A e::ss,t::ts,j,b,v::vs,h,hq,hR=>by
  have hq':∀(q i:Nat),(tC ss ts)[q]?=some (some i)→B' (j+1+q)=B i:=fun q i e=>by
   have:=hq (q+1) i (by simpa[tC]using e)
   rwa[show j+(q+1)=j+1+q by omega]at this
  simp only[pJ]at h;split at h
  ·obtain⟨b',h1,h2⟩:=zM h;cases h2;refine⟨?_,dZ hB hN ss ts (j+1) h1 hq' hR.2⟩;obtain⟨rfl,hs⟩:=hR.1.vI;exact .v hs
  ·rename_i i o n;cases ho:Nat.beq o 0 with
   | false=>rw[ho]at h;cases h
   | true=>
    rw[ho,cond_true]at h;obtain⟨x,hx,h⟩:=zM h;obtain⟨b',h1,h2⟩:=zM h;cases h2;refine⟨?_,dZ hB hN ss ts (j+1) h1 hq' hR.2⟩;obtain rfl:=qH ho;unfold qLw at hx;split at hx
    ·rename_i c e' hn;cases he:Nat.beq e e' with
     | false=>rw[he]at hx;cases hx
     | true=>
      rw[he,cond_true]at hx;split at hx
      ·rename_i y l hl;obtain⟨k1,k2⟩:=qZ hx;cases k2;obtain rfl:=qH k1;have hBj:B' j=B i:=by
        have:=hq 0 i rfl;simpa using this
       have hv:=hR.1;cases hv with
       | og g1 g2 g3 g4=>exact .og (by rw[hBj];exact g1) g2 g3 g4
      ·cases hx
    ·cases hx
  ·cases h
end
section
variable {P:Program}{E:Nat→Prop}{w0:World}{X:Hid}{F:List Nat}{H H':List TO}{B B':Bm}{w:World}{Y:Hid}{Mo:List (Nat×Obj)}{r:Rd}{m:Nat}{n:Nat}{a:Act}{D:List Deferred}{s:S}
def reB(B:Bm)(m:Nat)(src:List (Option Nat)):Bm:=⟨fun i=>if i<m then B i else match src[i-m]? with
 | some (some j)=>B j
 | _=>none,B.N⟩
theorem zDi{src:List (Option Nat)}{i:Nat}(h:i<m):reB B m src i=B i:=if_pos h
theorem zUl{src:List (Option Nat)}{q j:Nat}(h:src[q]?=some (some j)):reB B m src (m+q)=B j:=by
 show(if m+q<m then B (m+q)else _)=_
 rw[if_neg (by omega),Nat.add_sub_cancel_left,h]
theorem qDo{B0:Bm}{src:List (Option Nat)}(h:BLe B0 B)(hm:∀i,m≤i→B0 i=none):BLe B0 (reB B m src):=⟨fun i p e=>by
 have hi:i<m:=by
  rcases Nat.lt_or_ge i m with h | h
  ·exact h
  ·rw[hm i h]at e;cases e
 rw[zDi hi];exact h i p e,h.n⟩
theorem zAh:∀(ss:List Sl)(ts:List T){b:List T×List T},(pJ m H ss ts).run=some b→(buA ss b.2).length=(tC ss ts).length∧
  ∀(q:Nat)(o:TO),(buA ss b.2)[q]?=some o→o≠.gone→∃(i:Nat)(c:Cs)(g:Tg)(A:Ty)(x:List A.den)(e:TypeId),o= .gro (.d g A x) e∧(tC ss ts)[q]?=some (some i)∧nth .gone H i= .gro c e∧qEz g A c=some x
 | [],[],b,h=>by cases h;exact⟨rfl,fun q o e=>by simp[buA]at e⟩
 | [],_::_,b,h=>by cases h
 | .u::ss,[],b,h=>by cases h
 | .h::ss,[],b,h=>by cases h
 | .t _::ss,[],b,h=>by cases h
 | .a .. ::ss,[],b,h=>by cases h
 | .u::ss,t::ts,b,h=>zAh ss ts (b:=b) h
 | .h::ss,t::ts,b,h=>by
  simp only[pJ]at h;split at h
  ·obtain⟨b',h1,h2⟩:=zM h;cases h2;exact zAh (b:=b') ss ts h1
  ·cases h
 | .t x::ss,t::ts,b,h=>by
  simp only[pJ]at h;cases hc:eqU 12 x t&&wU m 12 x with
  | false=>rw[hc]at h;cases h
  | true=>rw[hc]at h;exact zAh (b:=b) ss ts h
 | .a g A e::ss,t::ts,b,h=>by
  simp only[pJ]at h;split at h
  ·obtain⟨b',h1,h2⟩:=zM h;cases h2;obtain⟨k1,k2⟩:=zAh (b:=b') ss ts h1;refine⟨by simp only[buA,tC,List.length_cons,k1],fun q o ho hne=>?_⟩
   cases q with
   | zero=>simp only[buA,qQc,List.getElem?_cons_zero,Option.some.injEq]at ho;exact absurd ho.symm hne
   | succ q=>
    obtain⟨i,c,g',A',x,e',r1,r2,r3⟩:=k2 q o (by simpa[buA]using ho) hne
    exact⟨i,c,g',A',x,e',r1,by simpa[tC]using r2,r3⟩
  ·rename_i i o n;cases ho:Nat.beq o 0 with
   | false=>rw[ho]at h;cases h
   | true=>
    rw[ho,cond_true]at h;obtain⟨x,hx,h⟩:=zM h;obtain⟨b',h1,h2⟩:=zM h;cases h2;obtain⟨k1,k2⟩:=zAh (b:=b') ss ts h1;refine⟨by simp only[buA,tC,List.length_cons,k1],fun q o ho hne=>?_⟩
    cases q with
    | succ q=>
     obtain⟨i,c,g',A',x,e',r1,r2,r3⟩:=k2 q o (by simpa[buA]using ho) hne
     exact⟨i,c,g',A',x,e',r1,by simpa[tC]using r2,r3⟩
    | zero=>
     unfold qLw at hx;split at hx
     ·rename_i c e' hn;cases he:Nat.beq e e' with
      | false=>rw[he]at hx;cases hx
      | true=>
       rw[he,cond_true]at hx;obtain rfl:=qH he;split at hx
       ·rename_i y l hl;obtain⟨q1,q2⟩:=qZ hx;cases q2;simp only[buA,qQc,List.getElem?_cons_zero,Option.some.injEq]at ho;subst ho;exact⟨i,c,g,A,y::l,e,rfl,rfl,hn,hl⟩
       ·cases hx
     ·cases hx
  ·cases h
def Obx(P:Program)(m:Nat)(o1 o:TO):Prop:=kV o1=true∧(∀cs,o≠.fz cs)∧∀(B B':Bm)(r:Rd)(C:Nat)(ob:Obj),(∀i,i<m→B' i=B i)→B'.N=B.N→RO P B r C o1 ob→RO P B' r C o ob
theorem qJh{g g':Tg}{V:Ty}{x:V.den}{v:Value}(h:g'.le g=true)(hN:B'.N=B.N)(hR:Rep B r (unT g V x) v):Rep B' r (unT g' V x) v:=by
 have l1:=jA g V x;have l2:=jA g' V x;have key:∀vs,zN B r (qB g V x) vs→zN B' r (qB g' V x) vs:=fun vs hv=>zAr (g:=g') (A:=V) hN (tK g' V x) (gK h V x hv);by_cases h1:V.size=1
 ·obtain⟨t,ht⟩:=List.length_eq_one_iff.1 (l1.trans h1);obtain⟨t',ht'⟩:=List.length_eq_one_iff.1 (l2.trans h1);unfold unT at hR ⊢;rw[ht]at hR;rw[ht'];have:=key [v] (by rw[ht];exact⟨hR,trivial⟩)
  rw[ht']at this;exact this.1
 ·have one:∀(g:Tg),unT g V x= .ag (qB g V x):=fun g=>by
   have l:=jA g V x;unfold unT;split
   ·rename_i t ht;rw[ht]at l;exact absurd l.symm h1
   ·rfl
  rw[one]at hR ⊢;obtain⟨vs,rfl,hvs⟩:=hR.agI;exact Rep.mkAg (key vs hvs)
theorem zNa{g g':Tg}{K V:Ty}(h:g'.le g=true)(hN:B'.N=B.N):∀(l:List (K.den×V.den))(es:List MapEntry),kF B r (l.map fun e=>(kQ K e.1,unT g V e.2)) es→kF B' r (l.map fun e=>(kQ K e.1,unT g' V e.2)) es
 | [],[],_=>trivial
 | _::l,_::es,k=>⟨k.1,qJh h hN k.2.1,zNa h hN l es k.2.2⟩
 | [],_::_,k=>k.elim
 | _::_,[],k=>k.elim
theorem qOj{g:Tg}{K V:Ty}{x:TO}{t:T}(h:mdE g K V x=some t):Obx P m x (moD g K V [t]):=by
 unfold mdE at h;split at h
 ·rename_i d;obtain⟨g0,K0,V0,l⟩:=d;cases hg:g.le g0 with
  | false=>simp[hg]at h
  | true=>
   simp only[hg,cond_true]at h;split at h
   ·rename_i l' hl;cases h;obtain⟨e,he⟩:=mJ hl;cases e;obtain rfl:=eq_of_heq he;have e2:vK (.prod K V) (.prod K V) l=some l:=hl;have e3:moD g K V [.ls g (.prod K V) l]= .mapd ⟨g,K,V,l⟩:=by
     show(match vK (.prod K V) (.prod K V) l with | some l=>TO.mapd ⟨g,K,V,l⟩ | none=> .gone)=_
     rw[e2]
    rw[e3];refine⟨rfl,fun cs e=>(by cases e),fun B B' r C ob _ hN hro=>?_⟩
    cases hro with
    | mapd h hc hb=>exact .mapd (zNa hg hN _ _ h) hc hb
   ·cases h
 ·cases h;have e2:vK (.prod K V) (.prod K V) ([]:List (Ty.prod K V).den)=some []:=by
   unfold vK;split
   ·rfl
   ·rename_i hn;exfalso;refine hn ?_;have self:∀A:Ty,A.beq A=true:=fun A=>by
     induction A with
     | int k=>simp[Ty.beq]
     | list A ih=>simpa[Ty.beq]using ih
     | prod A C ih1 ih2=>simp[Ty.beq,ih1,ih2]
     | _=>rfl
    exact self _
  have e3:moD g K V [.ls g (.prod K V) []]= .mapd ⟨g,K,V,[]⟩:=by
   show(match vK (.prod K V) (.prod K V) ([]:List (Ty.prod K V).den)with | some l=>TO.mapd ⟨g,K,V,l⟩ | none=> .gone)=_
   rw[e2]
  rw[e3];refine⟨rfl,fun cs e=>(by cases e),fun B B' r C ob _ hN hro=>?_⟩
  cases hro with
  | @map l es clk h hc hb=>
   refine .mapd ?_ hc hb;show kF B' r [] es.toList;match es.toList,h with
   | [],_=>trivial
 ·cases h
theorem zKh{H0:List TO}:∀(os:List Ob')(H:List TO){ks:List (List T)},(zRe m H0 os H).run=some ks→(buO os ks).length=os.length∧os.length≤H.length∧
  ∀(i:Nat)(o:TO),(buO os ks)[i]?=some o→o≠.gone→isG (nth .g os i)=false∧∃o1,H[i]?=some o1∧Obx P m o1 o
 | [],H,ks,h=>by cases h;exact⟨rfl,Nat.zero_le _,fun i o e=>by simp[buO]at e⟩
 | .g::os,[],ks,h=>by cases h
 | .r _ _::os,[],ks,h=>by cases h
 | .m _ _ _::os,[],ks,h=>by cases h
 | .g::os,_::H,ks,h=>by
  obtain⟨ks',h1,h2⟩:=zM h;cases h2;obtain⟨k1,k2,k3⟩:=zKh os H h1;refine⟨by simp only[buO,List.length_cons,k1],by simpa using k2,fun i o ho hne=>?_⟩
  cases i with
  | zero=>simp only[buO,List.getElem?_cons_zero,Option.some.injEq]at ho;exact absurd ho.symm hne
  | succ i=>simpa[rW]using k3 i o (by simpa[buO]using ho) hne
 | .m g K V::os,x::H,ks,h=>by
  simp only[zRe]at h;split at h
  ·rename_i t ht;obtain⟨ks',h1,h2⟩:=zM h;cases h2;obtain⟨k1,k2,k3⟩:=zKh os H h1;refine⟨by simp only[buO,List.length_cons,k1],by simpa using k2,fun i o ho hne=>?_⟩
   cases i with
   | succ i=>simpa[rW]using k3 i o (by simpa[buO]using ho) hne
   | zero=>
    simp only[buO,List.getElem?_cons_zero,Option.some.injEq]at ho;subst ho;exact⟨rfl,x,rfl,qOj ht⟩
  ·cases h
 | .r cs e::os,x::H,ks,h=>by
  cases x with
  | row ts e'=>
   simp only[zRe]at h;cases he:Nat.beq e e' with
   | false=>rw[he]at h;cases h
   | true=>
    rw[he,cond_true]at h;obtain rfl:=qH he;obtain⟨b,hb,h⟩:=zM h;cases hemp:emp b.2 with
    | false=>rw[hemp]at h;cases h
    | true=>
     rw[hemp,cond_true]at h;obtain⟨ks',h1,h2⟩:=zM h;cases h2;obtain⟨k1,k2,k3⟩:=zKh os H h1;refine⟨by simp only[buO,List.length_cons,k1],by simpa using k2,fun i o ho hne=>?_⟩
     cases i with
     | succ i=>simpa[rW]using k3 i o (by simpa[buO]using ho) hne
     | zero=>
      simp only[buO,List.getElem?_cons_zero,Option.some.injEq]at ho;subst ho;have e2:=qNa hemp;have hb2:(pJ m H0 cs ts).run=some (b.1,[]):=by rw[hb];obtain⟨b1,b2⟩:=b;simp only at e2;subst e2;rfl
      refine⟨rfl,_,rfl,rfl,fun cs e=>(by cases e),fun B B' r C ob hB hN hro=>?_⟩
      cases hro with
      | row hr=>
       refine .row ?_;exact dZ (H:=H0) hB hN cs ts 0 (b:=(b.1,[])) hb2 (fun q i e=>by
        have:=pK cs ts hb2;simp only[List.length_nil]at this;rw[List.eq_nil_of_length_eq_zero this]at e;simp at e) hr
  | _=>cases h
theorem zRw {os : List Ob'} : ∀ (l : List (Option Nat)), zIu m os l = true → (∀ (q i : Nat), l[q]? = some (some i) → m ≤ i ∨ isG (nth .g os i) = true) ∧ ∀ (q q' i : Nat), l[q]? = some (some i) → l[q']? = some (some i) → q = q'
  | [], _ => ⟨fun q i e => by simp at e, fun q q' i e => by simp at e⟩
  | none :: l, h => by
    obtain ⟨h1, h2⟩ := zRw l h
    refine ⟨fun q i e => ?_, fun q q' i e e' => ?_⟩
    · cases q with
      | zero => simp at e
      | succ q => exact h1 q i (by simpa using e)
    · cases q with
      | zero => simp at e
      | succ q => cases q' with
        | zero => simp at e'
        | succ q' => rw [h2 q q' i (by simpa using e) (by simpa using e')]
  | some j :: l, h => by
    simp only [zIu, Bool.and_eq_true] at h
    obtain ⟨⟨h0, h0'⟩, h⟩ := h
    obtain ⟨h1, h2⟩ := zRw l h
    have no : ∀ (q : Nat), l[q]? ≠ some (some j) := by
      have : ∀ (l : List (Option Nat)), zGl j l = false → ∀ q : Nat, l[q]? ≠ some (some j) := by
        intro l
        induction l with
        | nil => intro _ q e; simp at e
        | cons x l ih =>
          intro hk q e
          cases x with
          | none =>
            cases q with
            | zero => simp at e
            | succ q => exact ih hk q (by simpa using e)
          | some y =>
            simp only [zGl, Bool.or_eq_false_iff] at hk
            cases q with
            | zero => simp at e; subst e; simp at hk
            | succ q => exact ih hk.2 q (by simpa using e)
      exact this l (by simpa using h0)
    refine ⟨fun q i e => ?_, fun q q' i e e' => ?_⟩
    · cases q with
      | zero =>
        simp at e; subst e
        cases hb : Nat.blt j m with
        | false => left; have : ¬ j < m := fun hlt => by rw [← Nat.blt_eq] at hlt; rw [hb] at hlt; cases hlt
                   omega
        | true => right; simpa [hb] using h0'
      | succ q => exact h1 q i (by simpa using e)
    · cases q with
      | zero =>
        simp at e; subst e
        cases q' with
        | zero => rfl
        | succ q' => exact absurd (by simpa using e') (no q')
      | succ q => cases q' with
        | zero => simp at e'; subst e'; exact absurd (by simpa using e) (no q)
        | succ q' => rw [h2 q q' i (by simpa using e) (by simpa using e')]
theorem zYr{sp:Sp}{q:Hs}(h:(zDp m sp s).run=some q)(hW:Wd P E w0 X F s.H B w Y Mo)(hF:FrT n a s.L D B (rd w Y)):
  ∃src,Wd P E w0 X F (bu m sp q).H (reB B m src) w Y Mo∧FrT n a (bu m sp q).L D (reB B m src) (rd w Y)∧m≤s.H.length:=by
 unfold zDp at h;cases hc:zIu m sp.os (tC sp.ss s.L)&&(Nat.beq (ln sp.os) m&&Nat.ble m (ln s.H))with
 | false=>rw[hc]at h;cases h
 | true=>
  rw[hc,cond_true]at h;simp only[Bool.and_eq_true]at hc;obtain⟨c1,c2,c3⟩:=hc;obtain⟨b,h1,h⟩:=zM h;obtain⟨ks,h2,h3⟩:=zM h;cases h3;have c2:=qH c2;rw[qL]at c2;have c3:m≤s.H.length:=by rw[←qL];exact Nat.le_of_ble_eq_true c3
  obtain⟨s1,s2⟩:=zRw _ c1;obtain⟨a1,a2⟩:=zAh sp.ss s.L h1;obtain⟨o1,o2,o3⟩:=zKh (P:=P) sp.os s.H h2;refine⟨tC sp.ss s.L,?_,⟨hF.size,?_,hF.defers⟩,c3⟩
  ·have hgone:∀{o:TO},kV o=true→o≠.gone:=fun h e=>by subst e;cases h
   have get:∀(i:Nat)(o:TO),(bu m sp ⟨b.1,b.2,ks⟩).H[i]?=some o→kV o=true→(i<m∧(buO sp.os ks)[i]?=some o)∨(m≤i∧(buA sp.ss b.2)[i-m]?=some o):=fun i o ho hl=>by
    have ho:(buO sp.os ks++buA sp.ss b.2)[i]?=some o:=ho;rw[List.getElem?_append]at ho;split at ho
    ·rename_i hi;rw[o1,c2]at hi;exact .inl ⟨hi,ho⟩
    ·rename_i hi;rw[o1,c2]at hi ho;exact .inr ⟨by omega,ho⟩
   refine hW.re (fun i=>if i<m then some i else(match(tC sp.ss s.L)[i-m]? with | some x=>x | none=>none)) rfl (fun i hi=>?_) (fun i o ho hl=>?_) (fun i cs hf=>?_) (fun i j k p1 p2 g1 l1 g2 l2 e1 e2=>?_)
   ·have hlen:(bu m sp ⟨b.1,b.2,ks⟩).H.length=m+(tC sp.ss s.L).length:=by
     show(buO sp.os ks++buA sp.ss b.2).length=_;rw[List.length_append,o1,c2,a1]
    rw[hlen]at hi;show(if i<m then B i else _)=none
    rw[if_neg (by omega),List.getElem?_eq_none (by omega)]
   ·rcases get i o ho hl with⟨hi,ho⟩ | ⟨hi,ho⟩
    ·obtain⟨_,o1',r2,r3,_,r4⟩:=o3 i o ho (hgone hl);exact⟨i,o1',if_pos hi,zDi hi,r2,r3,fun C ob hro=>r4 _ _ _ C ob (fun i hi=>zDi hi) rfl hro⟩
    ·obtain⟨j,c,g,A,x,e,r1,r2,r3,r4⟩:=a2 (i-m) o ho (hgone hl);have hj:=nM r3 (by simp)
     refine⟨j,_,?_,?_,hj,rfl,fun C ob hro=>?_⟩
     ·simp only[if_neg (show¬i<m by omega),r2]
     ·have:=zUl (B:=B) (m:=m) r2;rwa[Nat.add_sub_cancel' hi]at this
     ·subst r1;cases hro with
      | gro hi' hs hC hr=>
       obtain⟨k1,k2⟩:=qFa r4 hr;refine .gro hi' hs hC ?_;show zN _ _ (qE g A x) (List.take (qE g A x).length _);rw[k2];exact zAr (g:=g) (A:=A) (B:=B) (B':=reB B m (tC sp.ss s.L)) rfl (zEe g A x) k1
   ·have hf:(buO sp.os ks++buA sp.ss b.2)[i]?=some (.fz cs):=hf;rw[List.getElem?_append]at hf;split at hf
    ·obtain⟨_,_,_,_,e,_⟩:=o3 i _ hf (by simp)
     exact e cs rfl
    ·obtain⟨_,_,_,_,_,_,e,_⟩:=a2 _ _ hf (by simp)
     cases e
   ·have G:∀(i:Nat)(o:TO),(bu m sp ⟨b.1,b.2,ks⟩).H[i]?=some o→kV o=true→i<m→isG (nth .g sp.os i)=false:=fun i o ho hl hi=>by
     rcases get i o ho hl with⟨_,ho⟩ | ⟨h,_⟩
     ·exact(o3 i o ho (hgone hl)).1
     ·omega
    have S:∀{i k:Nat},m≤i→(if i<m then some i else(match(tC sp.ss s.L)[i-m]? with | some x=>x | none=>none))=some k→(tC sp.ss s.L)[i-m]?=some (some k):=fun{i k}hi e=>by
     rw[if_neg (by omega)]at e
     split at e
     ·rename_i x hx;rw[hx,e]
     ·cases e
    rcases Nat.lt_or_ge i m with hi | hi<;>rcases Nat.lt_or_ge j m with hj | hj
    ·rw[if_pos hi]at e1;rw[if_pos hj]at e2;cases e1;cases e2;rfl
    ·rw[if_pos hi]at e1;cases e1;rcases s1 _ _ (S hj e2)with h | h
     ·omega
     ·rw[G i p1 g1 l1 hi]at h;cases h
    ·rw[if_pos hj]at e2;cases e2;rcases s1 _ _ (S hi e1)with h | h
     ·omega
     ·rw[G j p2 g2 l2 hj]at h;cases h
    ·have:=s2 _ _ _ (S hi e1) (S hj e2);omega
  ·exact dZ (H:=s.H) (fun i hi=>zDi hi) rfl sp.ss s.L m h1 (fun q i e=>zUl e) hF.reps
end
structure Lp where
 m:Nat
 sp:Sp
 sx:Sp
 sr:Sp
noncomputable def Lp.bx(l:Lp):Ex×Hs→Ex×S
 | (.r,q)=>(.r,bu l.m l.sr q)
 | (e,q)=>(e,bu l.m l.sx q)
noncomputable def Lp.end_(l:Lp):Ex×S→DT (Hs⊕(Ex×Hs))
 | (.n,s)=>(zDp l.m l.sp s).bind fun q=> .ret (.inl q)
 | (.x id,s)=>(zDp l.m l.sx s).bind fun q=> .ret (.inr (.x id,q))
 | (.r,s)=>(zDp l.m l.sr s).bind fun q=> .ret (.inr (.r,q))
 | _=> .no
noncomputable def Lp.stp(l:Lp)(rn:Rd')(f:Nat)(p:List Bool)(x:Code)(q:Hs):Option (Hs⊕(Ex×Hs)):=((rn f (false::p) x (bu l.m l.sp q)).bind l.end_).run
inductive It (st:Hs→Option (Hs⊕(Ex×Hs))):Nat→Hs→Ex×Hs→Prop
  | out {q:Hs} {y:Ex×Hs} (h:st q=some (.inr y)):It st 0 q y
  | go {n:Nat} {q q':Hs} {y:Ex×Hs} (h:st q=some (.inl q')) (k:It st n q' y):It st (n+1) q y
section
variable {P:Program}{OD:Od}{LO:Lo}{rn:Rd'}{l:Lp}{f:Nat}{p:List Bool}{x:Code}{s:S}
theorem qHf(hrn:bF P rn)(hc:cAt P f p=some (.loop x)){n:Nat}{q:Hs}{y:Ex×Hs}(hm:l.m=s.H.length)(h0:(zDp l.m l.sp s).run=some q)(h:It (l.stp rn f p x) n q y):Tr P (.loop x) s (l.bx y).1 (l.bx y).2:=by
 intro E w0 X F n0 a D B w Y Mo rr Q hr hW hF hA;have c1:cAt P f (false::p)=some x:=by simp[cAt,hc,bK]
 have hr1:rr=none∨noR x=true:=hr.imp id fun h=>by simpa[noR]using h
 have hBm:∀i,l.m≤i→B i=none:=fun i hi=>hW.nn i (by rw[←hm];exact hi)
 refine lC (γ:=Nat×Hs×List Nat) (fun g a2 w2=>It (l.stp rn f p x) g.1 g.2.1 y∧∃B' Y' Mo',(noR x=true→g.2.2=[])∧Wd P E w0 X (g.2.2++F) (bu l.m l.sp g.2.1).H B' w2 Y' Mo'∧FrT n0 a2 (bu l.m l.sp g.2.1).L (g.2.2.map Gv.mark++D) B' (rd w2 Y')∧BLe B B'∧Le (rd w Y) (rd w2 Y'))
  (fun g=>g.1) (n,q,[]) ?_ ?_
 ·obtain⟨src,k1,k2,_⟩:=zYr h0 hW hF;exact⟨h,_,Y,Mo,fun _=>rfl,k1,k2,qDo (BLe.refl B) hBm,Le.refl _⟩
 ·rintro⟨j,q0,bs0⟩ a0 w1 ⟨hit,B1,Y1,Mo1,hb1,g1,g2,g3,g4⟩;simp only at hit hb1 g1 g2;have st:∀{z:Hs⊕(Ex×Hs)},l.stp rn f p x q0=some z→∃e1 s1,(rn f (false::p) x (bu l.m l.sp q0)).run=some (e1,s1)∧(l.end_ (e1,s1)).run=some z:=fun h=>by
   obtain⟨⟨e1,s1⟩,h1,h2⟩:=zM h;exact⟨e1,s1,h1,h2⟩
  have fin:∀{s1:S}{a':Act}{w':World}{B':Bm}{Y':Hid}{Mo':List (Nat×Obj)}{bs:List Nat}{sp:Sp}{q1:Hs},(zDp l.m sp s1).run=some q1→Wd P E w0 X (bs++(bs0++F)) s1.H B' w' Y' Mo'→FrT n0 a' s1.L (bs.map Gv.mark++(bs0.map Gv.mark++D)) B' (rd w' Y')→BLe B B'→
    ∃B2,Wd P E w0 X (bs++bs0++F) (bu l.m sp q1).H B2 w' Y' Mo'∧FrT n0 a' (bu l.m sp q1).L ((bs++bs0).map Gv.mark++D) B2 (rd w' Y')∧BLe B B2:=fun hq k1 k2 k3=>by
   obtain⟨src,r1,r2,_⟩:=zYr hq k1 k2;exact⟨_,by rw[List.append_assoc];exact r1,by rw[List.map_append,List.append_assoc];exact r2,qDo k3 hBm⟩
  have out:∀{e1:Ex}{s1:S},(rn f (false::p) x (bu l.m l.sp q0)).run=some (e1,s1)→((∃q1,(zDp l.m l.sp s1).run=some q1∧e1= .n∧∃j',j=j'+1∧It (l.stp rn f p x) j' q1 y)∨(∃q1,(zDp l.m l.sx s1).run=some q1∧(∃id,e1= .x id)∧l.bx y=(e1,bu l.m l.sx q1))∨(∃q1,(zDp l.m l.sr s1).run=some q1∧e1= .r∧l.bx y=(e1,bu l.m l.sr q1)))→
    x.wpIn (FF rr) 0 P (Exit.then (fun a' w'=>∃g':Nat×Hs×List Nat,(It (l.stp rn f p x) g'.1 g'.2.1 y∧∃B' Y' Mo',(noR x=true→g'.2.2=[])∧Wd P E w0 X (g'.2.2++F) (bu l.m l.sp g'.2.1).H B' w' Y' Mo'∧FrT n0 a' (bu l.m l.sp g'.2.1).L (g'.2.2.map Gv.mark++D) B' (rd w' Y')∧BLe B B'∧Le (rd w Y) (rd w' Y'))∧g'.1<j) Q) a0 w1:=fun h1 hh=>by
   refine hrn _ _ _ _ _ _ c1 h1 E w0 X _ n0 a0 _ B1 w1 Y1 Mo1 rr _ hr1 g1 g2 fun a' w' B' Y' Mo' bs hbs k1 k2 k3 k4=>?_;have hbs':noR x=true→bs++bs0=[]:=fun e=>by rw[hbs e,hb1 e];rfl
   rcases hh with⟨q1,hq,rfl,j',rfl,hit'⟩ | ⟨q1,hq,⟨id,rfl⟩,hy⟩ | ⟨q1,hq,rfl,hy⟩
   ·obtain⟨B2,r1,r2,r3⟩:=fin hq k1 k2 (g3.trans k3);exact⟨(j',q1,bs++bs0),⟨hit',B2,Y',Mo',hbs',r1,r2,r3,g4.trans k4⟩,Nat.lt_succ_self j'⟩
   ·obtain⟨B2,r1,r2,r3⟩:=fin hq k1 k2 (g3.trans k3);rw[hy]at hA;exact hA a' w' B2 Y' Mo' (bs++bs0) (fun e=>hbs' (by simpa[noR]using e)) r1 r2 r3 (g4.trans k4)
   ·obtain⟨B2,r1,r2,r3⟩:=fin hq k1 k2 (g3.trans k3);rw[hy]at hA;exact hA a' w' B2 Y' Mo' (bs++bs0) (fun e=>hbs' (by simpa[noR]using e)) r1 r2 r3 (g4.trans k4)
  cases hit with
  | go h k=>
   obtain⟨e1,s1,h1,h2⟩:=st h;refine out h1 ?_;cases e1 with
   | n=>obtain⟨q1,r1,r2⟩:=zM h2;cases r2;exact .inl ⟨_,r1,rfl,_,rfl,k⟩
   | x id=>obtain⟨q1,r1,r2⟩:=zM h2;cases r2
   | r=>obtain⟨q1,r1,r2⟩:=zM h2;cases r2
   | p t=>cases h2
  | out h=>
   obtain⟨e1,s1,h1,h2⟩:=st h;refine out h1 ?_;cases e1 with
   | n=>obtain⟨q1,r1,r2⟩:=zM h2;cases r2
   | x id=>obtain⟨q1,r1,r2⟩:=zM h2;cases r2;exact .inr (.inl ⟨q1,r1,⟨id,rfl⟩,rfl⟩)
   | r=>obtain⟨q1,r1,r2⟩:=zM h2;cases r2;exact .inr (.inr ⟨q1,r1,rfl,rfl⟩)
   | p t=>cases h2
noncomputable def Lp.row(l:Lp)(h:Hs→DT (Ex×Hs))(s:S):DT (Ex×S):=bif Nat.beq l.m (ln s.H)then(zDp l.m l.sp s).bind fun q=>(h q).bind fun y=> .ret (l.bx y)else .no
noncomputable def eqP:List Bool→List Bool→Bool
 | [],[]=>true
 | a::p,b::q=>zVj a b&&eqP p q
 | _,_=>false
theorem zZr:∀{p q:List Bool},eqP p q=true→p=q
 | [],[],_=>rfl
 | a::p,b::q,h=>by
  simp only[eqP,Bool.and_eq_true]at h;rw[zZr h.2];congr 1;cases a<;>cases b<;>first | rfl | cases h.1
noncomputable def loT:List (Nat×List Bool×(S→DT (Ex×S)))→Lo
 | [],_,_,_=>none
 | (g,p',h)::l,f,p,s=>bif Nat.beq g f&&eqP p' p then some (h s)else loT l f p s
theorem kW:zDk P (loT []):=fun _ _ _ _ h=>by cases h
theorem wG{t:List (Nat×List Bool×(S→DT (Ex×S)))}(ht:zDk P (loT t)){h:Hs→DT (Ex×Hs)}(hrn:bF P rn)(hc:cAt P f p=some (.loop x))(hh:∀q y,(h q).run=some y→∃n,It (l.stp rn f p x) n q y):zDk P (loT ((f,p,l.row h)::t)):=by
 intro f' p' s d hd x' hx' e s' hrun;simp only[loT]at hd;cases hb:Nat.beq f f'&&eqP p p' with
 | false=>rw[hb,cond_false]at hd;exact ht f' p' s d hd x' hx' e s' hrun
 | true=>
  rw[hb,cond_true]at hd;cases hd;simp only[Bool.and_eq_true]at hb;obtain rfl:=qH hb.1;obtain rfl:=zZr hb.2;rw[hc]at hx';cases hx';unfold Lp.row at hrun;cases hm:Nat.beq l.m (ln s.H)with
  | false=>rw[hm]at hrun;cases hrun
  | true=>
   rw[hm,cond_true]at hrun;have hm:=qH hm;rw[qL]at hm;obtain⟨q,h1,h2⟩:=zM hrun;obtain⟨y,h3,h4⟩:=zM h2;obtain⟨n,hn⟩:=hh q y h3;have:=qHf hrn hc hm h1 hn;have e4:l.bx y=(e,s'):=Option.some.inj h4;rw[e4]at this;exact this
end
@[match_pattern] abbrev limsT:Ty:= .list .lim
@[match_pattern] abbrev yF:Ty:= .prod .bool (.prod (.list .lim) (.list .lim))
noncomputable def qQb(A:Ty):T→Option (List A.den)
 | .ls _ A' l=>vK A' A l
 | .v (.slice none 0 0)=>some []
 | .sl cs n=>bif lG A then(match lT (n*A.size) cs with
  | some us=>(match chk A (n+1) us with
   | some l=>(match zMq .a A l []with
    | some x=>bif Nat.beq (ln x) n then some x.reverse else none
    | none=>none)
   | none=>none)
  | none=>none)else none
 | _=>none
noncomputable def qFg:Ty→T→Option T
 | .list A,t=>(match qQb A t with
  | some l=>some (.ls .a A l)
  | none=>none)
 | .prod A B,.ag cs=>(match rJ .a (.prod A B) cs with
  | some x=>some (.ag (qB .a (.prod A B) x))
  | none=>none)
 | .int k,.v (.int k' a)=>bif Nat.beq (kind k) (kind k')then some (.v (.int k' a))else none
 | .bool,.v (.bool b)=>some (.v (.bool b))
 | .str,.v (.string b)=>some (.v (.string b))
 | _,_=>none
noncomputable def zMj:List Ty→List T→Option (List T)
 | [],[]=>some []
 | A::As,t::ts=>(match qFg A t,zMj As ts with
  | some x,some r=>some (x::r)
  | _,_=>none)
 | _,_=>none
section
variable {P:Program}{B:Bm}{r:Rd}{f k:Nat}{az cz:List T}{tv:T}{nw:Bool}
theorem zJc.of_flat{p:Nat→Prop}{g:Tg}{A:Ty}{x:List A.den}{vs:List Value}{b o c:Nat}(hg:∀(A:Ty)(l:List A.den)(v:Value),Rep B r (.ls g A l) v→qN r p (.list A) l [v])(hA:lG A=true)(h:zN B r (qE g A x) vs)(hr:∀(j:Nat)(v:Value),vs[j]?=some v→r ⟨b,o+j,none⟩=some v)(hp:p b)(hc:x.length≤c)(hm:c≤maxLen):
  zJc r p A.size (fun y us=>qN r p A y us) (some ⟨b,o,none⟩) c x.reverse:=by
 refine⟨by simpa using hc,hm,.inr ⟨b,o,rfl,hp,fun j y hy=>?_⟩⟩
 have hj:j<x.length:=by
  have:=(List.getElem?_eq_some_iff.1 hy).1;simpa using this
 have hlen:x.length*A.size=vs.length:=by
  have:=h.length;rwa[xB]at this
 have hj1:(j+1)*A.size≤x.length*A.size:=Nat.mul_le_mul_right _ hj;rw[Nat.add_mul,Nat.one_mul]at hj1;have hul:((vs.drop (j*A.size)).take A.size).length=A.size:=by
  rw[List.length_take,List.length_drop];omega
 have hget:∀(q:Nat)(v:Value),((vs.drop (j*A.size)).take A.size)[q]?=some v→vs[j*A.size+q]?=some v:=fun q v hq=>by
  rw[List.getElem?_take]at hq;split at hq
  ·rwa[List.getElem?_drop]at hq
  ·cases hq
 refine⟨(vs.drop (j*A.size)).take A.size,hul,?_,fun q v hq=>hr _ _ (hget q v hq)⟩;refine qN.of_reps (B2:=B) hg A hA y _ (zN.of (by rw[jA,hul]) fun q t v ht hv=>?_)
 have h4:=zAq g A x j y hy q t ht;obtain⟨v',h6,h7⟩:=h.get h4;rw[hget q v hv]at h6;cases h6;exact h7
theorem qJb{A:Ty}{t:T}{l:List A.den}{v:Value}(h:qQb A t=some l)(hR:Rep B r t v):Rep B r (.ls .a A l) v:=by
 unfold qQb at h;split at h
 ·obtain⟨rfl,he⟩:=mJ h;obtain rfl:=eq_of_heq he;cases hR with
  | ls h1=>exact .ls (qN.mono (Le.refl _) (fun b _=>Bm.In.any) _ _ _ h1)
 ·cases h;obtain⟨rfl,_⟩:=hR.vI;exact .ls ⟨none,0,rfl,Nat.le_refl _,Nat.zero_le _,.inl rfl⟩
 ·rename_i cs n;cases hA:lG A with
  | false=>rw[hA]at h;cases h
  | true=>
   rw[hA,cond_true]at h;split at h
   ·rename_i us hu;split at h
    ·rename_i ch hch;split at h
     ·rename_i x hx;cases hn:Nat.beq (ln x) n with
      | false=>rw[hn]at h;cases h
      | true=>
       rw[hn,cond_true]at h;cases h;have hn:=qH hn;rw[qL]at hn;subst hn;have hb:=hR.dn;obtain⟨ad,c,rfl,hc,hh⟩:=hR.slI;have hm:=hR.slB;obtain⟨_,rfl⟩:=aV _ _ _ hu;have he:=chk_ok _ _ hch;rcases hh with⟨h0,rfl⟩ | ⟨b,o,rfl,hcl⟩
       ·have:=List.eq_nil_of_length_eq_zero h0;subst this;exact .ls ⟨ad,c,rfl,Nat.zero_le _,hm,.inl rfl⟩
       ·obtain⟨fv,g1,g2⟩:=hcl.fun;have hRs:zN B r (cs.take (x.length*A.size)) ((List.range (cs.take (x.length*A.size)).length).map fv):=zN.of (by simp) fun j t v e e'=>by
         rw[List.getElem?_map]at e';obtain⟨j',e1,rfl⟩:=Option.map_eq_some_iff.1 e';have hj:=(List.getElem?_eq_some_iff.1 e1);obtain⟨hj1,hj2⟩:=hj;rw[List.getElem_range]at hj2;subst hj2;rw[List.getElem?_take]at e;split at e
         ·exact g2 _ _ e
         ·cases e
        have hk:=zDr ch [] hx (by simpa[qE,←he]using hRs)
        refine .ls ⟨some ⟨b,o,none⟩,c,by rw[List.length_reverse],zJc.of_flat (g:= .a) (fun A l v h=>by cases h with | ls h=>exact h) hA hk.1 (fun j v hv=>?_) Bm.In.any hc hm⟩
        rw[List.getElem?_map]at hv;obtain⟨j',e1,rfl⟩:=Option.map_eq_some_iff.1 hv;obtain⟨hj1,hj2⟩:=List.getElem?_eq_some_iff.1 e1;rw[List.getElem_range]at hj2;subst hj2;have hj3:j<cs.length:=by
         have:j<(cs.take (x.length*A.size)).length:=by simpa using hj1
         exact Nat.lt_of_lt_of_le this (List.length_take_le' _ _)
        exact g1 j cs[j] (by simp[hj3])
     ·cases h
    ·cases h
   ·cases h
 ·cases h
theorem qFh{A:Ty}{t t':T}{v:Value}(h:qFg A t=some t')(hR:Rep B r t v):Rep B r t' v:=by
 unfold qFg at h;split at h
 ·split at h
  ·rename_i l hl;cases h;exact qJb hl hR
  ·cases h
 ·split at h
  ·rename_i A C cs x hx;cases h;obtain⟨vs,rfl,hvs⟩:=hR.agI;exact Rep.mkAg (mI _ hx hvs).1
  ·cases h
 ·rename_i k k' a;cases hk:Nat.beq (kind k) (kind k')with
  | false=>rw[hk]at h;cases h
  | true=>rw[hk]at h;cases h;exact hR
 ·cases h;exact hR
 ·cases h;exact hR
 ·cases h
theorem zMk:∀{As:List Ty}{az cz:List T}{vs:List Value},zMj As az=some cz→zN B r az vs→zN B r cz vs
 | [],[],cz,vs,h,hR=>by cases h;exact hR
 | A::As,t::ts,cz,v::vs,h,hR=>by
  simp only[zMj]at h;cases h1:qFg A t with
  | none=>simp[h1]at h
  | some x=>
   cases h2:zMj As ts with
   | none=>simp[h1,h2]at h
   | some rr=>
    simp only[h1,h2,Option.some.injEq]at h;subst h;exact⟨qFh h1 hR.1,zMk h2 hR.2⟩
 | [],_::_,_,_,h,_=>by cases h
 | _::_,[],_,_,h,_=>by cases h
 | _::_,_::_,_,[],_,hR=>hR.elim
theorem KnP.arg(h:KnP P k f cz tv nw)(ha:∀(B:Bm)(r:Rd)(vs:List Value),zN B r az vs→zN B r cz vs):KnP P k f az tv nw:=fun B w X qJ R hI hk hX hR hK=>h B w X qJ R hI hk hX (ha B _ _ hR) hK
noncomputable def odR(As:List Ty)(h:List T→DT (T×Bool))(az:List T):DT (T×Bool):=match zMj As az with
 | some cz=>h cz
 | none=> .no
noncomputable def odT:List (Nat×(List T→DT (T×Bool)))→Od
 | [],_=>none
 | (g,h)::l,f=>bif Nat.beq g f then some h else odT l f
theorem wV:mH P (odT []):=fun _ _ h=>by cases h
theorem jG{t:List (Nat×(List T→DT (T×Bool)))}{h:List T→DT (T×Bool)}(ht:mH P (odT t))(hh:∀az tv nw,(h az).run=some (tv,nw)→∀k,KnP P k f az tv nw):mH P (odT ((f,h)::t)):=by
 intro g h' e;simp only[odT]at e;cases hb:Nat.beq f g with
 | false=>rw[hb,cond_false]at e;exact ht g h' e
 | true=>rw[hb,cond_true]at e;cases e;obtain rfl:=qH hb;exact hh
theorem sN{As:List Ty}{h:List T→DT (T×Bool)}(hh:∀cz tv nw,(h cz).run=some (tv,nw)→∀k,KnP P k f cz tv nw):∀az tv nw,(odR As h az).run=some (tv,nw)→∀k,KnP P k f az tv nw:=fun az tv nw e k=>by
 unfold odR at e;split at e
 ·rename_i cz hc;exact(hh cz tv nw e k).arg fun B r vs hR=>zMk hc hR
 ·cases e
theorem rO{OD:Od}{LO:Lo}(hm:P.follows .mixedOrders=true)(hO:mH P OD)(hL:zDk P LO){n:Nat}(h:((xQ P (evD P OD LO n) f (cz.map (unN 12)) []).bind vW).run=some (tv,nw))(hc:(cz.all (clean 12)&&clean 12 tv)=true)(k:Nat):KnP P k f cz tv nw:=by
 obtain⟨⟨t,H1⟩,h1,h2⟩:=zM h;simp only[Bool.and_eq_true]at hc;exact(zZx (k:=0) hm (zAn hm hO hL n) h1 h2).clean hc.1 hc.2 k
noncomputable def zWh:T→Option (List Nat)
 | .ls _ .lim l=>some l
 | t=>zQx t
noncomputable def arX:T→Option Ar
 | .ag [.v (.bool b),x,y]=>(match zWh x,zWh y with
  | some l,some l2=>some (.r ⟨b,l,l2⟩)
  | _,_=>none)
 | t=>arT t
noncomputable def zVi:List T→Option (List Ar)
 | []=>some []
 | t::l=>match arX t,zVi l with
  | some a,some r=>some (a::r)
  | _,_=>none
noncomputable def unX:Ar→T
 | .r a=> .ag [.v (.bool a.neg),.ls .a .lim a.ln,.ls .a .lim a.ld]
 | .i n=> .v (.int .i64 n)
 | .b b=> .v (.bool b)
 | .s s=> .v (.string s)
noncomputable def unXR:Rs→T
 | .one a=>unX a
 | .tup l=> .tu (l.map unX)
variable {X:Hid}{w:World}
theorem qOe{g:Tg}{l:List Nat}{v:Value}(h:Rep B (rd w X) (.ls g .lim l) v):∃ad n c,v= .slice ad n c∧zL (rd w X) ad n c l:=by
 obtain⟨ad,c,rfl,hn,hm,hh⟩:=h.lsI;refine⟨ad,_,c,rfl,rfl,hn,hm,?_,?_⟩
 ·rcases hh with rfl | ⟨b,o,rfl,_,k⟩
  ·intro x hx;cases hx
  ·intro x hx;obtain⟨i,hi⟩:=List.getElem?_of_mem hx;obtain⟨vs,_,g2,_⟩:=k i x hi;exact g2.2
 ·rcases hh with rfl | ⟨b,o,rfl,_,k⟩
  ·exact .inl rfl
  ·refine .inr ⟨b,o,rfl,fun j v hv=>?_⟩;simp only[U32,List.getElem?_map]at hv;cases hx:l[j]? with
   | none=>rw[hx]at hv;cases hv
   | some x=>
    rw[hx]at hv;cases hv;obtain⟨vs,g1,g2,g3⟩:=k j x hx;obtain⟨rfl,_⟩:=g2;have:=g3 0 _ rfl;rw[qG];have e:o+(j*Ty.lim.size+0)=o+j:=by show o+(j*1+0)=o+j;omega
    rwa[e]at this
theorem qBg{ad:Option Addr}{n c:Nat}{l:List Nat}(h:zL (rd w X) ad n c l):Rep B (rd w X) (.ls .a .lim l) (.slice ad n c):=by
 have e:=h.hlen;subst e;refine .ls ⟨ad,c,rfl,h.hcap,h.hbig,?_⟩;rcases h.hat with rfl | ⟨b,o,rfl,ha⟩
 ·exact .inl rfl
 ·refine .inr ⟨b,o,rfl,Bm.In.any,fun i x hx=>⟨[.int .u32 (.ofNat x)],rfl,⟨rfl,h.hlt x (List.mem_of_getElem? hx)⟩,fun j v hv=>?_⟩⟩;cases j with
  | succ j=>simp at hv
  | zero=>
   cases hv;have:=ha i (.int .u32 (.ofNat x)) (by simp only[U32,List.getElem?_map,hx];rfl)
   rw[qG]at this;have e:o+(i*Ty.lim.size+0)=o+i:=by show o+(i*1+0)=o+i;omega
   rwa[e]
theorem zTm{t:T}{l:List Nat}{v:Value}(h:zWh t=some l)(hR:Rep B (rd w X) t v):∃ad n c,v= .slice ad n c∧zL (rd w X) ad n c l:=by
 unfold zWh at h;split at h
 ·cases h;exact qOe hR
 ·exact zJz h hR
theorem qMb{t:T}{a:Ar}{v:Value}(h:arX t=some a)(hR:Rep B (rd w X) t v):ArV X w a v:=by
 unfold arX at h;split at h
 ·rename_i b x y;cases h1:zWh x with
  | none=>simp[h1]at h
  | some l=>
   cases h2:zWh y with
   | none=>simp[h1,h2]at h
   | some l2=>
    simp only[h1,h2,Option.some.injEq]at h;subst h;obtain⟨vs,rfl,hvs⟩:=hR.agI;match vs,hvs with
    | [v1,v2,v3],⟨g1,g2,g3,_⟩=>
     obtain⟨rfl,_⟩:=g1.vI;obtain⟨a1,n1,c1,rfl,k1⟩:=zTm h1 g2;obtain⟨a2,n2,c2,rfl,k2⟩:=zTm h2 g3;exact⟨_,_,_,_,_,_,rfl,k1,k2⟩
 ·exact zYj h hR
theorem zSn:∀{ts:List T}{az:List Ar}{vs:List Value},zVi ts=some az→zN B (rd w X) ts vs→zPu X w az vs
 | [],az,[],h,_=>by simp[zVi]at h;subst h;trivial
 | t::ts,az,v::vs,h,hR=>by
  simp only[zVi]at h;cases h1:arX t with
  | none=>simp[h1]at h
  | some a=>
   cases h2:zVi ts with
   | none=>simp[h1,h2]at h
   | some r=>
    simp only[h1,h2,Option.some.injEq]at h;subst h;exact⟨qMb h1 hR.1,zSn h2 hR.2⟩
 | [],_,_::_,_,hR=>hR.elim
 | _::_,_,[],_,hR=>hR.elim
theorem qEl{a:Ar}{v:Value}(h:ArV X w a v):Rep B (rd w X) (unX a) v:=by
 cases a with
 | r a=>
  obtain⟨_,_,_,_,_,_,rfl,h1,h2⟩:=h;exact Rep.mkAg (vs:=[.bool a.neg,_,_]) ⟨.v rfl,qBg h1,qBg h2,trivial⟩
 | i n=>cases h;exact .v rfl
 | b b=>cases h;exact .v rfl
 | s s=>cases h;exact .v rfl
theorem zUx:∀{az:List Ar}{vs:List Value},zPu X w az vs→zN B (rd w X) (az.map unX) vs
 | [],[],_=>trivial
 | _::_,_::_,h=>⟨qEl h.1,zUx h.2⟩
 | [],_::_,h=>h.elim
 | _::_,[],h=>h.elim
theorem qJi{y:Rs}{v:Value}(h:RsV X w y v):Rep B (rd w X) (unXR y) v:=by
 cases y with
 | one a=>exact qEl h
 | tup l=>
  obtain⟨vs,rfl,h⟩:=h;exact Rep.mkTu (zUx h)
noncomputable def kcD(p:List Ar→Option Rs)(nw:Bool)(az:List T):DT (T×Bool):=match zVi az with
 | some az=>(ofO (p az)).bind fun y=> .ret (unXR y,nw)
 | none=> .no
theorem nH{p:List Ar→Option Rs}{nw nw':Bool}(hc:KC P f p nw):∀az tv,(kcD p nw az).run=some (tv,nw')→∀k,KnP P k f az tv nw':=by
 intro az tv h k;unfold kcD at h;split at h
 ·rename_i az2 h1;obtain⟨y,h2,h3⟩:=zM h;rw[kJ]at h2;cases h3;intro B w X qJ R _ _ hX hR hk;refine(hc w X hX az2 qJ (zSn h1 hR) y h2).mono ?_;rintro e w' ⟨hu,v,rfl,hv⟩;exact hk v w' hu (qJi hv)
 ·cases h
end
noncomputable def us':Nat→List Sl
 | 0=>[]
 | n+1=> .u::us' n
noncomputable def lpc(P:Program)(f:Nat)(p:List Bool):Code:=match cAt P f p with
 | some (.loop x)=>x
 | _=> .skip
def fol{α γ:Type}(g:Nat→α→α⊕γ)(d:α→γ):Nat→Nat→α→γ
 | 0,_,a=>d a
 | k+1,i,a=>match g i a with
  | .inl b=>fol g d k (i+1) b
  | .inr y=>y
section
variable {P:Program}{f:Nat}
end
theorem yP{a b:Nat}(h:a<b):Nat.blt a b=true:=by rw[Nat.blt_eq];exact h
theorem sI{a b:Nat}(h:b≤a):Nat.blt a b=false:=by
 cases e:Nat.blt a b with
 | false=>rfl
 | true=>rw[Nat.blt_eq]at e;omega
theorem nD{a b:Nat}(h:a≤b):Nat.ble a b=true:=by rw[Nat.ble_eq];exact h
theorem nC(a:Nat):Nat.beq a a=true:=Nat.beq_refl a
end Go.Ev
namespace Go.Ev
open Go Go.Gv Go.RowKit Go.ChangeShapes IntKind
def Ty.bts:Ty→Nat
 | .lim=>4
 | .int .i64=>8
 | .int .u64=>8
 | .int .i32=>4
 | .int .u32=>4
 | .int .i16=>2
 | .int .u16=>2
 | .int _=>1
 | .bool=>1
 | .str=>1
 | .list _=>24
 | .prod A B=>A.bts+B.bts
def dD:(A:Ty)→A.den→Prop
 | .lim,a=>a<4294967296
 | .int .i64,a=> -9223372036854775808≤a∧a≤9223372036854775807
 | .int _,_=>True
 | .bool,_=>True
 | .str,_=>True
 | .list A,l=>l.length*A.bts≤140737488355328∧∀x∈l,dD A x
 | .prod A B,x=>dD A x.1∧dD B x.2
mutual
inductive TyF (P:Program):Ty→TypeId→Prop
  | lim {t:TypeId} (h:P.underlying t=some (.int .u32)):TyF P .lim t
  | int {t:TypeId} {k:IntKind} (h:P.underlying t=some (.int k)):TyF P (.int k) t
  | bool {t:TypeId} (h:P.underlying t=some .bool):TyF P .bool t
  | list {t e:TypeId} {A:Ty} (h:P.underlying t=some (.slice e)) (hs:P.cellsOf e=A.size) (hb:A.bts≤P.bytesOf e) (he:TyF P A e):TyF P (.list A) t
  | arr {t e:TypeId} {n:Nat} {A:Ty} (h:P.underlying t=some (.array n e)) (hs:P.cellsOf t=A.size) (hf:ArF P A e n):TyF P A t
  | struct {t:TypeId} {A:Ty} {fs:Array Field} (h:P.underlying t=some (.struct fs)) (hs:P.cellsOf t=A.size) (hf:FsF P A 0 fs.toList):TyF P A t
inductive ArF (P:Program):Ty→TypeId→Nat→Prop
  | one {A:Ty} {e:TypeId} (hs:P.cellsOf e=A.size) (h:TyF P A e):ArF P A e 1
  | cons {A B:Ty} {e:TypeId} {n:Nat} (hs:P.cellsOf e=A.size) (h:TyF P A e) (hl:ArF P B e n):ArF P (.prod A B) e (n+1)
inductive FsF (P:Program):Ty→Nat→List Field→Prop
  | one {A:Ty} {off:Nat} {f:Field} (ho:f.offset=off) (hs:P.cellsOf f.type=A.size) (h:TyF P A f.type):FsF P A off [f]
  | cons {A B:Ty} {off:Nat} {f:Field} {l:List Field} (ho:f.offset=off) (hs:P.cellsOf f.type=A.size) (h:TyF P A f.type) (hl:FsF P B (off+A.size) l):FsF P (.prod A B) off (f::l)
end
section
variable {H:Type}{enc:TypeId×Value→H}{P:Program}{w:World}{spare:Nat→Bool}{held:Bool}
def Opn(enc:TypeId×Value→H)(P:Program)(w:World)(spare:Nat→Bool)(held:Bool)(A:Ty)(t:TypeId):Prop:=∀(n:Nat)(cs:List Value)(y:DataW H×List MemPlace),rE enc P w spare held n t cs y→∃x:A.den,dD A x∧qN (rd w X0) (fun _=>True) A x cs
def zXw(enc:TypeId×Value→H)(P:Program)(w:World)(spare:Nat→Bool)(held:Bool)(A:Ty)(off:Nat)(l:List Field):Prop:=∀(cs:List Value),cs.length=off+A.size→(∀f∈l,∃n y,rE enc P w spare held n f.type ((cs.drop f.offset).take (P.cellsOf f.type)) y)→∃x:A.den,dD A x∧qN (rd w X0) (fun _=>True) A x (cs.drop off)
theorem qIh{t:TypeId}(h:P.underlying t=some (.int .u32)):Opn enc P w spare held .lim t:=by
 intro n cs y k;obtain⟨z,rfl,_,hw⟩:=DataW.trod_int h k.1;have hz:0≤z∧z<4294967296:=by
  simp[Lit.wf,IntKind.min,IntKind.max,IntKind.signed,IntKind.bits]at hw;omega
 refine⟨z.toNat,show z.toNat<4294967296 by omega,?_,show z.toNat<4294967296 by omega⟩
 rw[Int.ofNat_eq_natCast,Int.toNat_of_nonneg hz.1]
theorem qIg{t:TypeId}{kk:IntKind}(h:P.underlying t=some (.int kk)):Opn enc P w spare held (.int kk) t:=by
 intro n cs y k';obtain⟨z,rfl,_,hw⟩:=DataW.trod_int h k'.1;refine⟨z,?_,rfl⟩;cases kk<;>first | trivial | skip
 simp[Lit.wf,IntKind.min,IntKind.max,IntKind.signed,IntKind.bits]at hw;exact⟨show -9223372036854775808≤z by omega,show z≤9223372036854775807 by omega⟩
theorem qCk{t:TypeId}(h:P.underlying t=some .bool):Opn enc P w spare held .bool t:=by
 intro n cs y k;obtain⟨b,rfl,_⟩:=DataW.trod_bool h k.1;exact⟨b,trivial,rfl⟩
theorem qCm{t e:TypeId}{A:Ty}(h:P.underlying t=some (.slice e))(hs:P.cellsOf e=A.size)(hb:A.bts≤P.bytesOf e)(ih:Opn enc P w spare held A e):Opn enc P w spare held (.list A) t:=by
 intro n cs y k;obtain⟨ad,len,cap,xs,rfl,hx,hl⟩:=qIe (α:=A.den) (El:=fun r a x=>dD A x∧∃us,us.length=A.size∧qN r (fun _=>True) A x us∧At r a us) (bts:=P.bytesOf e) h hs A.size_pos rfl (fun n cs y b off hz hcl hat=>by
  obtain⟨x,hv,hR⟩:=ih n cs y hz;exact⟨x,hv,cs,hcl,hR,hat⟩) k
 refine⟨xs,⟨?_,?_⟩,ad,cap,?_,?_⟩
 ·have:xs.length*A.bts≤xs.length*P.bytesOf e:=Nat.mul_le_mul_left _ hb;omega
 ·intro x hx';rcases hx.hat with rfl | ⟨b,off,_,ha⟩
  ·cases hx'
  ·obtain⟨i,hi⟩:=List.getElem?_of_mem hx';exact(ha i x hi).1
 ·rw[hx.hlen]
 ·refine⟨by rw[←hx.hlen];exact hx.hcap,hx.hbig,hx.hat.imp id fun⟨b,off,e,ha⟩=>⟨b,off,e,trivial,fun i x hi=>?_⟩⟩
  obtain⟨_,us,h1,h2,h3⟩:=ha i x hi;refine⟨us,h1,h2,fun j v hv=>?_⟩;have:=h3 j v hv;rwa[qG,Nat.add_assoc]at this
theorem zRh{t:TypeId}{A:Ty}{fs:Array Field}(h:P.underlying t=some (.struct fs))(hs:P.cellsOf t=A.size)(ih:zXw enc P w spare held A 0 fs.toList):Opn enc P w spare held A t:=by
 intro n cs y k;have hl:=flen h k hs;obtain⟨x,hv,hR⟩:=ih cs (by rw[hl,Nat.zero_add]) fun f hf=>by
  obtain⟨i,hi⟩:=List.getElem?_of_mem hf;exact fld h k i (by simpa using hi) rfl
 exact⟨x,hv,by simpa using hR⟩
theorem qMc{t e:TypeId}{n fuel:Nat}{cs:List Value}{x:DataW H×List MemPlace}(ht:P.underlying t=some (.array n e))(h:rE enc P w spare held fuel t cs x)(i:Nat)(hi:i<n):
  ∃m y,rE enc P w spare held m e ((cs.drop (i*P.cellsOf e)).take (P.cellsOf e)) y:=by
 obtain⟨xs,m,_,hx,_,hl,hf⟩:=DataW.trod_array ht h.1;have:=hf i hi;refine⟨m,xs[i]'(by omega),this.trans (List.getElem?_eq_getElem _),fun b off hm=>h.2.1 b off ?_,fun k hk=>h.2.2 k ?_⟩
 ·rw[hx];exact List.mem_flatMap.2 ⟨_,List.getElem_mem _,hm⟩
 ·rw[hx];simp only[DataW.weights,ht];exact qRa (d:=(xs[i]'(by omega)).1) hk (List.mem_map.2 ⟨_,List.getElem_mem _,rfl⟩)
def zXv(enc:TypeId×Value→H)(P:Program)(w:World)(spare:Nat→Bool)(held:Bool)(A:Ty)(e:TypeId)(n:Nat):Prop:=∀(cs:List Value),cs.length=A.size→(∀i,i<n→∃m y,rE enc P w spare held m e ((cs.drop (i*P.cellsOf e)).take (P.cellsOf e)) y)→∃x:A.den,dD A x∧qN (rd w X0) (fun _=>True) A x cs
theorem qIf{t e:TypeId}{n:Nat}{A:Ty}(h:P.underlying t=some (.array n e))(hs:P.cellsOf t=A.size)(ih:zXv enc P w spare held A e n):Opn enc P w spare held A t:=by
 intro m cs y k;obtain⟨_,_,_,_,hl,_⟩:=DataW.trod_array h k.1;exact ih cs (hl.trans hs) fun i hi=>qMc h k i hi
theorem qCj{A:Ty}{e:TypeId}(hs:P.cellsOf e=A.size)(ih:Opn enc P w spare held A e):zXv enc P w spare held A e 1:=by
 intro cs hl hf;obtain⟨m,y,k⟩:=hf 0 Nat.one_pos;rw[Nat.zero_mul,List.drop_zero,hs,List.take_of_length_le (by omega)]at k
 exact ih m _ y k
theorem zWm{A1 B1:Ty}{e:TypeId}{n:Nat}(hs:P.cellsOf e=A1.size)(ih:Opn enc P w spare held A1 e)(ih2:zXv enc P w spare held B1 e n):zXv enc P w spare held (.prod A1 B1) e (n+1):=by
 intro cs hl hf;obtain⟨m,y,k⟩:=hf 0 (Nat.succ_pos n);rw[Nat.zero_mul,List.drop_zero,hs]at k;obtain⟨x,hv,hR⟩:=ih m _ y k;have hl':cs.length=A1.size+B1.size:=hl;obtain⟨x2,hv2,hR2⟩:=ih2 (cs.drop A1.size) (by rw[List.length_drop];omega) fun i hi=>by
  obtain⟨m,y,k⟩:=hf (i+1) (Nat.succ_lt_succ hi);rw[hs,Nat.add_mul,Nat.one_mul,Nat.add_comm]at k;exact⟨m,y,by rw[hs,List.drop_drop];exact k⟩
 exact⟨(x,x2),⟨hv,hv2⟩,cs.take A1.size,cs.drop A1.size,(List.take_append_drop _ _).symm,hR,hR2⟩
theorem qIi{A:Ty}{off:Nat}{f:Field}(ho:f.offset=off)(hs:P.cellsOf f.type=A.size)(ih:Opn enc P w spare held A f.type):zXw enc P w spare held A off [f]:=by
 intro cs hl hf;obtain⟨n,y,k⟩:=hf _ List.mem_cons_self;obtain⟨x,hv,hR⟩:=ih n _ y k;refine⟨x,hv,?_⟩;rw[ho,hs,List.take_of_length_le (by rw[List.length_drop];omega)]at hR
 exact hR
theorem qCl{A1 B1:Ty}{off:Nat}{f:Field}{l:List Field}(ho:f.offset=off)(hs:P.cellsOf f.type=A1.size)(ih:Opn enc P w spare held A1 f.type)(ih2:zXw enc P w spare held B1 (off+A1.size) l):zXw enc P w spare held (.prod A1 B1) off (f::l):=by
 intro cs hl hf;obtain⟨n,y,k⟩:=hf _ List.mem_cons_self;obtain⟨x,hv,hR⟩:=ih n _ y k;obtain⟨x2,hv2,hR2⟩:=ih2 cs (by rw[hl];show off+(A1.size+B1.size)=_;omega) fun f hf'=>hf f (List.mem_cons_of_mem _ hf')
 refine⟨(x,x2),⟨hv,hv2⟩,(cs.drop off).take A1.size,(cs.drop off).drop A1.size,(List.take_append_drop _ _).symm,?_,?_⟩
 ·rw[ho,hs]at hR;exact hR
 ·rw[List.drop_drop];exact hR2
theorem TyF.open{A:Ty}{t:TypeId}(h:TyF P A t):Opn enc P w spare held A t:=
 TyF.rec (motive_1:=fun A t _=>Opn enc P w spare held A t) (motive_2:=fun A e n _=>zXv enc P w spare held A e n) (motive_3:=fun A off l _=>zXw enc P w spare held A off l) (fun h=>qIh h) (fun h=>qIg h) (fun h=>qCk h) (fun h hs hb _ ih=>qCm h hs hb ih) (fun h hs _ ih=>qIf h hs ih) (fun h hs _ ih=>zRh h hs ih) (fun hs _ ih=>qCj hs ih) (fun hs _ _ ih ih2=>zWm hs ih ih2) (fun ho hs _ ih=>qIi ho hs ih) (fun ho hs _ _ ih ih2=>qCl ho hs ih ih2) h
end
section
variable {H:Type}{enc:TypeId×Value→H}{P:Program}{w:World}{spare:Nat→Bool}{held:Bool}
theorem zUd{t e:TypeId}{A:Ty}{v:Value}{d:DataW H}{ps:List MemPlace}{r:Reach}{base:Nat}(ht:P.underlying t=some (.slice e))(hF:TyF P (.list A) t)(hok:Value.okWide P w r base t v)(h:DataW.Trod enc P w 0 spare held t v d ps)(hz:w.noneFrozen ps)(hw:∀n∈d.weights P t,n≤140737488351232)(B:Bm):
  ∃x:List A.den,dD (.list A) x∧Rep B (rd w X0) (.ls .a A x) v:=by
 obtain⟨a,len,cap,rfl⟩:=Go.WideShapes.okWide_slice ht hok;obtain⟨n,h⟩:=h;have h:rE enc P w spare held n t _ _:=⟨h,hz,hw⟩;simp only[Value.cells]at h;obtain⟨x,hv,hR⟩:=TyF.open hF n _ _ h;exact⟨x,hv,.ls (qN.mono (Le.refl _) (fun _ _=>Bm.In.any) _ _ _ hR)⟩
theorem qId{t:TypeId}{A:Ty}{v:Value}{d:DataW H}{ps:List MemPlace}{r:Reach}{base:Nat}(ht:(∃fs,P.underlying t=some (.struct fs))∨∃n e,P.underlying t=some (.array n e))(hF:TyF P A t)(hok:Value.okWide P w r base t v)(h:DataW.Trod enc P w 0 spare held t v d ps)(hz:w.noneFrozen ps)(hw:∀n∈d.weights P t,n≤140737488351232)(B:Bm):
  ∃x:A.den,dD A x∧Rep B (rd w X0) (.ag (qB .a A x)) v:=by
 have hv:∃cs,v= .agg cs:=by
  rcases ht with⟨fs,ht⟩ | ⟨n,e,ht⟩<;>(simp only[Value.okWide,ht]at hok;obtain⟨cs,h1,_⟩:=hok;exact⟨cs,h1⟩)
 obtain⟨cs,rfl⟩:=hv;obtain⟨n,h⟩:=h;have h:rE enc P w spare held n t _ _:=⟨h,hz,hw⟩;simp only[Value.cells]at h;obtain⟨x,hv,hR⟩:=TyF.open hF n _ _ h;refine⟨x,hv,?_⟩;have:=Rep.mkAg (B:=B) (r:=rd w X0) (qN.reps (g:= .a) A x cs.toList (qN.mono (Le.refl _) (fun _ _=>Bm.In.any) _ _ _ hR));simpa using this
end
end Go.Ev
namespace Go.Proofs.YtdfmdiakjdggbaaGreatDoor
open Go Go.Gv Go.Ev Go.RowKit IntKind
theorem kAdd:KC Tryz.prog 34 (pRR fun a b=>some (opR a b (a.rat+b.rat),opE a b (a.rat+b.rat))) true:=zTg fun w X hX a va ha b vb hb y hy=>by
 obtain⟨_,_,_,_,_,_,rfl,h1,h2⟩:=ha;obtain⟨_,_,_,_,_,_,rfl,h3,h4⟩:=hb;cases hy;exact qPr w X hX a _ _ _ h1 _ _ _ h2 b _ _ _ h3 _ _ _ h4
theorem kMul:KC Tryz.prog 49 (pRR fun a b=>some (opR a b (a.rat*b.rat),opE a b (a.rat*b.rat))) true:=zTg fun w X hX a va ha b vb hb y hy=>by
 obtain⟨_,_,_,_,_,_,rfl,h1,h2⟩:=ha;obtain⟨_,_,_,_,_,_,rfl,h3,h4⟩:=hb;cases hy;exact qPu w X hX a _ _ _ h1 _ _ _ h2 b _ _ _ h3 _ _ _ h4
theorem kSub:KC Tryz.prog 48 (pRR fun a b=>some (opR a b (a.rat-b.rat),opE a b (a.rat-b.rat))) true:=zTg fun w X hX a va ha b vb hb y hy=>by
 obtain⟨_,_,_,_,_,_,rfl,h1,h2⟩:=ha;obtain⟨_,_,_,_,_,_,rfl,h3,h4⟩:=hb;cases hy;exact qPw w X hX a _ _ _ h1 _ _ _ h2 b _ _ _ h3 _ _ _ h4
theorem kDiv:KC Tryz.prog 80 (pRR fun a b=>bif Nat.beq (val b.ln) 0 then none else some (opR a b (a.rat / b.rat),opE a b (a.rat / b.rat))) true:=zTg fun w X hX a va ha b vb hb y hy=>by
 obtain⟨_,_,_,_,_,_,rfl,h1,h2⟩:=ha;obtain⟨_,_,_,_,_,_,rfl,h3,h4⟩:=hb;cases h0:Nat.beq (val b.ln) 0 with
 | true=>simp[h0]at hy
 | false=>
  simp only[h0,cond_false]at hy;cases hy;exact qPt w X hX a _ _ _ h1 _ _ _ h2 b _ _ _ h3 _ _ _ h4 (fun e=>by rw[e]at h0;cases h0)
theorem kCmp:KC Tryz.prog 33 (pRI fun a b=>(vU a b,nE a b)) true:=qRv fun w X hX a va ha b vb hb=>by
 obtain⟨_,_,_,_,_,_,rfl,h1,h2⟩:=ha;obtain⟨_,_,_,_,_,_,rfl,h3,h4⟩:=hb;exact qPs w X hX a _ _ _ h1 _ _ _ h2 b _ _ _ h3 _ _ _ h4
theorem kChk:KC Tryz.prog 75 (pR Raw.chk) true:=kc_r fun w X hX a va ha=>by
 obtain⟨_,_,_,_,_,_,rfl,h1,h2⟩:=ha;exact xN w X hX a _ _ _ h1 _ _ _ h2
theorem qRu:KC Tryz.prog 73 (pR Raw.chk) true:=kc_r fun w X hX a va ha=>by
 obtain⟨_,_,_,_,_,_,rfl,h1,h2⟩:=ha;exact zWz w X hX a _ _ _ h1 _ _ _ h2
theorem qAt:KC Tryz.prog 47 (pI fun n=>Raw.of (n:Rat)) true:=kc_i fun w n h1 h2=>qIw w (old w) (fun k _ h=>h) n h1 h2
theorem qNv:KC Tryz.prog 51 (pI fun n=>Raw.of (n:Rat)) true:=kc_i fun w n h1 h2=>qDm w (old w) (fun k _ h=>h) n h1 h2
theorem kOf:KC Tryz.prog 126 (pII fun n m=>Raw.of (mkRat (sgn (!(decide (n<0)==decide (m<0))) n.natAbs) m.natAbs)) true:=qKq fun w n m h1 h2 h3 h4 h5=>qSi w (old w) (fun k _ h=>h) n m h1 h2 h3 h4 h5
theorem kOf6:KC Tryz.prog 53 (pII fun n m=>Raw.of (mkRat (sgn (decide (n<0)!=decide (m<0)) n.natAbs) m.natAbs)) true:=qKq fun w n m h1 h2 h3 h4 h5=>qPv w (old w) (fun k _ h=>h) n m h1 h2 h3 h4 h5
theorem kEq:KC Tryz.prog 37 (pB fun a b=>decide (a=b)) true:=kc_b fun w X hX a va ha b vb hb=>by
 obtain⟨_,_,_,_,_,_,rfl,h1,h2⟩:=ha;obtain⟨_,_,_,_,_,_,rfl,h3,h4⟩:=hb;exact zPv w X hX a _ _ _ h1 _ _ _ h2 b _ _ _ h3 _ _ _ h4
noncomputable def zRd:List (Nat×(List T→Option (T×Bool))):=[(34,kcE (pRR fun a b=>some (opR a b (a.rat+b.rat),opE a b (a.rat+b.rat))) true),(49,kcE (pRR fun a b=>some (opR a b (a.rat*b.rat),opE a b (a.rat*b.rat))) true),(48,kcE (pRR fun a b=>some (opR a b (a.rat-b.rat),opE a b (a.rat-b.rat))) true),(80,kcE (pRR fun a b=>bif Nat.beq (val b.ln) 0 then none else some (opR a b (a.rat / b.rat),opE a b (a.rat / b.rat))) true),(33,kcE (pRI fun a b=>(vU a b,nE a b)) true),(75,kcE (pR Raw.chk) true),(73,kcE (pR Raw.chk) true),(47,kcE (pI fun n=>Raw.of (n:Rat)) true),(51,kcE (pI fun n=>Raw.of (n:Rat)) true),(126,kcE (pII fun n m=>Raw.of (mkRat (sgn (!(decide (n<0)==decide (m<0))) n.natAbs) m.natAbs)) true),(53,kcE (pII fun n m=>Raw.of (mkRat (sgn (decide (n<0)!=decide (m<0)) n.natAbs) m.natAbs)) true),(37,kcE (pB fun a b=>decide (a=b)) true)]
theorem qOr:qF Tryz.prog (kK zRd):=qEf fun g p hm ts tv nw h k=>by
 simp only[zRd,List.mem_cons,List.not_mem_nil,or_false,Prod.mk.injEq]at hm;rcases hm with⟨rfl,rfl⟩ | ⟨rfl,rfl⟩ | ⟨rfl,rfl⟩ | ⟨rfl,rfl⟩ | ⟨rfl,rfl⟩ | ⟨rfl,rfl⟩ | ⟨rfl,rfl⟩ | ⟨rfl,rfl⟩ | ⟨rfl,rfl⟩ | ⟨rfl,rfl⟩ | ⟨rfl,rfl⟩ | ⟨rfl,rfl⟩
 ·exact nZ kAdd h k
 ·exact nZ kMul h k
 ·exact nZ kSub h k
 ·exact nZ kDiv h k
 ·exact nZ kCmp h k
 ·exact nZ kChk h k
 ·exact nZ qRu h k
 ·exact nZ qAt h k
 ·exact nZ qNv h k
 ·exact nZ kOf h k
 ·exact nZ kOf6 h k
 ·exact nZ kEq h k
end Go.Proofs.YtdfmdiakjdggbaaGreatDoor
namespace Go.Proofs.YtdfmdiakjdggbaaGreatDoor
open Go Go.RowKit Go.Shelf IntKind
set_option maxRecDepth 100000
set_option maxHeartbeats 1000000
def qKf:Go.Shelf.Ren:=⟨fun | 166=>201 | 240=>257 | 276=>276 | n=>n,fun | 0=>0 | 3=>3 | 4=>4 | 5=>5 | 9=>9 | 20=>20 | 37=>99 | 70=>257 | 72=>259 | 75=>261 | 80=>266 | 164=>329 | n=>n,fun n=>n⟩
theorem qMf:Go.Proofs.Lays.n166 Tryz.prog qKf:={mixed:=by kernel_rfl,f166:=Tryz.func201.trans (congrArg some (by kernel_rfl)),f240:=Tryz.func257.trans (congrArg some (by kernel_rfl)),f276:=Tryz.func276.trans (congrArg some (by kernel_rfl)),t0:=Tryz.underlying0,a0:=Tryz.isAgg0,z0:=Tryz.sizeOf0,v0:=Tryz.zeroValue0,t3:=Tryz.underlying3,a3:=Tryz.isAgg3,z3:=Tryz.sizeOf3,v3:=Tryz.zeroValue3,t4:=Tryz.underlying4,a4:=Tryz.isAgg4,z4:=Tryz.sizeOf4,v4:=Tryz.zeroValue4,t9:=Tryz.underlying9,a9:=Tryz.isAgg9,z9:=Tryz.sizeOf9,v9:=Tryz.zeroValue9,t20:=Tryz.underlying20,a20:=Tryz.isAgg20,z20:=Tryz.sizeOf20,v20:=Tryz.zeroValue20,t37:=Tryz.underlying99,a37:=Tryz.isAgg99,z37:=Tryz.sizeOf99,v37:=Tryz.zeroValue99,t70:=Tryz.underlying257,a70:=Tryz.isAgg257,z70:=Tryz.sizeOf257,v70:=Tryz.zeroValue257,t72:=Tryz.underlying259,a72:=Tryz.isAgg259,z72:=Tryz.sizeOf259,v72:=Tryz.zeroValue259,t75:=Tryz.underlying261,a75:=Tryz.isAgg261,z75:=Tryz.sizeOf261,v75:=Tryz.zeroValue261,t164:=Tryz.underlying329,a164:=Tryz.isAgg329,z164:=Tryz.sizeOf329,v164:=Tryz.zeroValue329}
def qKe:Go.Shelf.Ren:=⟨fun | 167=>203 | 240=>257 | 276=>276 | n=>n,fun | 0=>0 | 3=>3 | 4=>4 | 5=>5 | 9=>9 | 20=>20 | 37=>99 | 70=>257 | 72=>259 | 75=>261 | 80=>266 | 164=>329 | n=>n,fun n=>n⟩
theorem qMd:Go.Proofs.Lays.n167 Tryz.prog qKe:={mixed:=by kernel_rfl,f167:=Tryz.func203.trans (congrArg some (by kernel_rfl)),f240:=Tryz.func257.trans (congrArg some (by kernel_rfl)),f276:=Tryz.func276.trans (congrArg some (by kernel_rfl)),t0:=Tryz.underlying0,a0:=Tryz.isAgg0,z0:=Tryz.sizeOf0,v0:=Tryz.zeroValue0,t4:=Tryz.underlying4,a4:=Tryz.isAgg4,z4:=Tryz.sizeOf4,v4:=Tryz.zeroValue4,t5:=Tryz.underlying5,a5:=Tryz.isAgg5,z5:=Tryz.sizeOf5,v5:=Tryz.zeroValue5,t9:=Tryz.underlying9,a9:=Tryz.isAgg9,z9:=Tryz.sizeOf9,v9:=Tryz.zeroValue9,t20:=Tryz.underlying20,a20:=Tryz.isAgg20,z20:=Tryz.sizeOf20,v20:=Tryz.zeroValue20,t37:=Tryz.underlying99,a37:=Tryz.isAgg99,z37:=Tryz.sizeOf99,v37:=Tryz.zeroValue99,t70:=Tryz.underlying257,a70:=Tryz.isAgg257,z70:=Tryz.sizeOf257,v70:=Tryz.zeroValue257,t72:=Tryz.underlying259,a72:=Tryz.isAgg259,z72:=Tryz.sizeOf259,v72:=Tryz.zeroValue259,t75:=Tryz.underlying261,a75:=Tryz.isAgg261,z75:=Tryz.sizeOf261,v75:=Tryz.zeroValue261,t164:=Tryz.underlying329,a164:=Tryz.isAgg329,z164:=Tryz.sizeOf329,v164:=Tryz.zeroValue329}
def qKg:Go.Shelf.Ren:=⟨fun | 169=>204 | n=>n,fun | 70=>257 | 9=>9 | 0=>0 | 72=>259 | 37=>99 | 127=>313 | 3=>3 | 5=>5 | n=>n,fun n=>n⟩
theorem qMg:Go.Proofs.Lays.n169 Tryz.prog qKg:={mixed:=by kernel_rfl,f169:=Tryz.func204.trans (congrArg some (by kernel_rfl)),t0:=Tryz.underlying0,a0:=Tryz.isAgg0,z0:=Tryz.sizeOf0,v0:=Tryz.zeroValue0,t3:=Tryz.underlying3,a3:=Tryz.isAgg3,z3:=Tryz.sizeOf3,v3:=Tryz.zeroValue3,t9:=Tryz.underlying9,a9:=Tryz.isAgg9,z9:=Tryz.sizeOf9,v9:=Tryz.zeroValue9,t37:=Tryz.underlying99,a37:=Tryz.isAgg99,z37:=Tryz.sizeOf99,v37:=Tryz.zeroValue99,t70:=Tryz.underlying257,a70:=Tryz.isAgg257,z70:=Tryz.sizeOf257,v70:=Tryz.zeroValue257,t72:=Tryz.underlying259,a72:=Tryz.isAgg259,z72:=Tryz.sizeOf259,v72:=Tryz.zeroValue259,t127:=Tryz.underlying313,a127:=Tryz.isAgg313,z127:=Tryz.sizeOf313,v127:=Tryz.zeroValue313}
def qRn:Go.Shelf.Ren:=⟨fun | 171=>202 | 243=>258 | 246=>277 | 283=>290 | 284=>291 | 285=>292 | 286=>293 | 129=>310 | 317=>311 | 318=>312 | 319=>313 | 320=>314 | 337=>320 | 338=>321 | n=>n,fun | 3=>3 | 9=>9 | 2=>2 | 4=>4 | 171=>341 | 0=>0 | 53=>226 | 37=>99 | 5=>5 | 173=>344 | 212=>358 | 51=>214 | 20=>20 | 213=>359 | 46=>185 | 232=>369 | 233=>370 | n=>n,fun | 17=>0 | 18=>1 | 19=>2 | n=>n⟩
theorem qMe:Go.Proofs.LaysM.n171 Tryz.prog qRn:={mixed:=by kernel_rfl,f129:=Tryz.func310.trans (congrArg some (by kernel_rfl)),f171:=Tryz.func202.trans (congrArg some (by kernel_rfl)),f243:=Tryz.func258.trans (congrArg some (by kernel_rfl)),f246:=Tryz.func277.trans (congrArg some (by kernel_rfl)),f283:=Tryz.func290.trans (congrArg some (by kernel_rfl)),f284:=Tryz.func291.trans (congrArg some (by kernel_rfl)),f285:=Tryz.func292.trans (congrArg some (by kernel_rfl)),f286:=Tryz.func293.trans (congrArg some (by kernel_rfl)),f317:=Tryz.func311.trans (congrArg some (by kernel_rfl)),f318:=Tryz.func312.trans (congrArg some (by kernel_rfl)),f319:=Tryz.func313.trans (congrArg some (by kernel_rfl)),f320:=Tryz.func314.trans (congrArg some (by kernel_rfl)),f337:=Tryz.func320.trans (congrArg some (by kernel_rfl)),f338:=Tryz.func321.trans (congrArg some (by kernel_rfl)),t0:=Tryz.underlying0,a0:=Tryz.isAgg0,z0:=Tryz.sizeOf0,v0:=Tryz.zeroValue0,t2:=Tryz.underlying2,a2:=Tryz.isAgg2,z2:=Tryz.sizeOf2,v2:=Tryz.zeroValue2,t3:=Tryz.underlying3,a3:=Tryz.isAgg3,z3:=Tryz.sizeOf3,v3:=Tryz.zeroValue3,t4:=Tryz.underlying4,a4:=Tryz.isAgg4,z4:=Tryz.sizeOf4,v4:=Tryz.zeroValue4,t5:=Tryz.underlying5,a5:=Tryz.isAgg5,z5:=Tryz.sizeOf5,v5:=Tryz.zeroValue5,t9:=Tryz.underlying9,a9:=Tryz.isAgg9,z9:=Tryz.sizeOf9,v9:=Tryz.zeroValue9,t20:=Tryz.underlying20,a20:=Tryz.isAgg20,z20:=Tryz.sizeOf20,v20:=Tryz.zeroValue20,t37:=Tryz.underlying99,a37:=Tryz.isAgg99,z37:=Tryz.sizeOf99,v37:=Tryz.zeroValue99,t46:=Tryz.underlying185,a46:=Tryz.isAgg185,z46:=Tryz.sizeOf185,v46:=Tryz.zeroValue185,t51:=Tryz.underlying214,a51:=Tryz.isAgg214,z51:=Tryz.sizeOf214,v51:=Tryz.zeroValue214,t53:=Tryz.underlying226,a53:=Tryz.isAgg226,z53:=Tryz.sizeOf226,v53:=Tryz.zeroValue226,t171:=Tryz.underlying341,a171:=Tryz.isAgg341,z171:=Tryz.sizeOf341,v171:=Tryz.zeroValue341,t173:=Tryz.underlying344,a173:=Tryz.isAgg344,z173:=Tryz.sizeOf344,v173:=Tryz.zeroValue344,t212:=Tryz.underlying358,a212:=Tryz.isAgg358,z212:=Tryz.sizeOf358,v212:=Tryz.zeroValue358,t213:=Tryz.underlying359,a213:=Tryz.isAgg359,z213:=Tryz.sizeOf359,t232:=Tryz.underlying369,a232:=Tryz.isAgg369,z232:=Tryz.sizeOf369,v232:=Tryz.zeroValue369,t233:=Tryz.underlying370,a233:=Tryz.isAgg370,z233:=Tryz.sizeOf370,v233:=Tryz.zeroValue370,g17:=by kernel_rfl,g18:=by kernel_rfl,g19:=by kernel_rfl,i0:=by kernel_rfl,i2:=by kernel_rfl,i3:=by kernel_rfl,i4:=by kernel_rfl,i5:=by kernel_rfl,i9:=by kernel_rfl,i20:=by kernel_rfl,i37:=by kernel_rfl,i46:=by kernel_rfl,i51:=by kernel_rfl,i53:=by kernel_rfl,i171:=by kernel_rfl,i173:=by kernel_rfl,i212:=by kernel_rfl,i232:=by kernel_rfl,i233:=by kernel_rfl,m17:=by kernel_rfl,m18:=by kernel_rfl,m19:=by kernel_rfl}
theorem bSX:Builder.Extra Tryz.prog qKf:={sizeBuilder:=by kernel_rfl,liesBuilder:=by kernel_rfl,t5:=Tryz.underlying5,a5:=Tryz.isAgg5,z5:=Tryz.sizeOf5,v5:=Tryz.zeroValue5,infoByte:=by kernel_rfl,cellsByte:=by kernel_rfl,sizeByte:=by kernel_rfl,neB5:=by decide}
theorem bBX:Builder.Extra Tryz.prog qKe:={sizeBuilder:=by kernel_rfl,liesBuilder:=by kernel_rfl,t5:=Tryz.underlying5,a5:=Tryz.isAgg5,z5:=Tryz.sizeOf5,v5:=Tryz.zeroValue5,infoByte:=by kernel_rfl,cellsByte:=by kernel_rfl,sizeByte:=by kernel_rfl,neB5:=by decide}
theorem bTX:Builder.Extra Tryz.prog qKg:={sizeBuilder:=by kernel_rfl,liesBuilder:=by kernel_rfl,t5:=Tryz.underlying5,a5:=Tryz.isAgg5,z5:=Tryz.sizeOf5,v5:=Tryz.zeroValue5,infoByte:=by kernel_rfl,cellsByte:=by kernel_rfl,sizeByte:=by kernel_rfl,neB5:=by decide}
theorem zHa(B b:Nat)(bs:List Value)(s:ByteArray)(w:World)(h:Lib.IsBuilder 259 5 B b bs w)(hlen:bs.length+s.size≤140737488355328)(hBw:B≤w.heap.size):
  Calls Tryz.prog 201 #[.pointer (some ⟨b,0,none⟩),.string s] w fun e w'=>e= .returned (.tuple #[.int .i64 s.size,.nilIface])∧(Lib.BuilderAt 259 5 B b (.pointer (some ⟨b,0,none⟩)) (bs++Lib.strCells s) w'∧Below B w w'):=Any.Builder_WriteString qMf bSX B b bs s w h hlen hBw
theorem zPq(B b:Nat)(bs:List Value)(c:Int)(w:World)(h:Lib.IsBuilder 259 5 B b bs w)(hlen:bs.length+1≤140737488355328)(hBw:B≤w.heap.size):
  Calls Tryz.prog 203 #[.pointer (some ⟨b,0,none⟩),.int .u8 c] w fun e w'=>e= .returned .nilIface∧(Lib.BuilderAt 259 5 B b (.pointer (some ⟨b,0,none⟩)) (bs++[.int .u8 c]) w'∧Below B w w'):=Any.Builder_WriteByte qMd bBX B b bs c w h hlen hBw
theorem qDz(B b:Nat)(l:List UInt8)(w:World)(h:Lib.IsBuilder 259 5 B b (Lib.byteCells l) w)(hBw:B≤w.heap.size):
  Calls Tryz.prog 204 #[.pointer (some ⟨b,0,none⟩)] w fun e w'=>e= .returned (.string ⟨l.toArray⟩)∧Below B w w':=Any.Builder_String_any qMg bTX B b l w h hBw
theorem qNu(i:Int)(h0: -9223372036854775808≤i)(h1:i≤9223372036854775807)(w:World)(ht:Lib.TabIs Tryz.prog w "internal/strconv.uint64pow10" .u64 Lib.pow10Tab):Calls Tryz.prog 202 #[.int .i64 i] w fun e w'=>e= .returned (.string ⟨(Lib.itoa i).toArray⟩)∧∃k os,w'=Sort.grow (w.drewN k) os:=Any.strconv_Itoa qMe i h0 h1 w ht
theorem qLe:Tryz.prog.globalNamed "internal/strconv.uint64pow10" =some 0:=by kernel_rfl
theorem qIu{l:List (String×DataW Unit)}{W:World}(h:laidMetH Tryz.prog l W)(hf:l.filter (fun x=>x.1== "internal/strconv.uint64pow10")=[("internal/strconv.uint64pow10",Lib.tabData .u64 Lib.pow10Tab)]):Lib.TabIs Tryz.prog W "internal/strconv.uint64pow10" .u64 Lib.pow10Tab:=by
 have h1:=h.filter fun x=>x.1== "internal/strconv.uint64pow10";rw[hf,MakeChecks.laidMetH_plain _ _ _ (by kernel_rfl)]at h1
 exact Lib.tabIs_of_head (rest:=[]) qLe (by kernel_rfl) Tryz.underlying358 Tryz.underlying185 (by kernel_rfl) (by kernel_rfl) h1
end Go.Proofs.YtdfmdiakjdggbaaGreatDoor
namespace Go.Proofs.YtdfmdiakjdggbaaGreatDoor
open Go Go.RowKit IntKind
def qFv:Nat→Nat→List UInt8
 | 0,_=>[]
 | n+1,x=>bif Nat.blt x 10 then[UInt8.ofNat (48+x)]else qFv n (x / 10)++[UInt8.ofNat (48+x % 10)]
theorem zSv:∀{n x:Nat},x<10^n→0<n→qFv n x=Lib.decDigits x
 | 0,_,_,h=>absurd h (by omega)
 | n+1,x,h,_=>by
  rw[Lib.decDigits,qFv];by_cases h1:x<10
  ·have:Nat.blt x 10=true:=by simpa[Nat.blt_eq]using h1
   simp[h1,this]
  ·have:Nat.blt x 10=false:=by
    cases hb:Nat.blt x 10
    ·rfl
    ·rw[Nat.blt_eq]at hb;exact absurd hb h1
   rw[Nat.pow_succ]at h;have hn:0<n:=by
    rcases Nat.eq_zero_or_pos n with rfl | h'
    ·simp at h;omega
    ·exact h'
   rw[zSv (n:=n) (x:=x / 10) (by omega) hn]
   simp[h1,this]
def zVs(x:Nat):List UInt8:=qFv 20 x
theorem zSw{x:Nat}(h:x≤9223372036854775807):Lib.itoa (x:Int)=zVs x:=by
 rw[Lib.itoa_nonneg];exact(zSv (by omega) (by omega)).symm
theorem zZj{x:Nat}(h:x≤9223372036854775807):(zVs x).length≤21:=by
 rw[←zSw h];exact Lib.itoa_length_le _ (by omega) (by omega)
def zCn:List Nat→List UInt8
 | []=>[]
 | x::l=>zVs x++(32::zCn l)
theorem zAv:∀(l:List Nat)(x:Nat),zCn (l++[x])=(zCn l++zVs x)++[32]
 | [],x=>by simp[zCn]
 | y::l,x=>by simp[zCn,zAv l x,List.append_assoc]
theorem qNw{T e:TypeId}{B b:Nat}{bs:List Value}{w:World}(h:Lib.IsBuilder T e B b bs w)(k:Nat)(os:Array Obj):Lib.IsBuilder T e B b bs (Sort.grow (w.drewN k) os):=by
 have q:∀p,Lib.BuilderAt T e B b p bs w→Lib.BuilderAt T e B b p bs (Sort.grow (w.drewN k) os):=fun p h=>by
  have hl:=h.lt;obtain⟨h1,v,h2,h3,h4⟩:=h;exact⟨h1,v,by rw[Lib.heap_grow_old w k os b hl];exact h2,Lib.ownsRow_grow h3 k os,h4⟩
 exact h.elim (fun h=> .inl (q _ h)) fun h=> .inr (q _ h)
set_option maxHeartbeats 4000000 in
set_option maxRecDepth 1000000 in
theorem qAv(b off c:Nat)(l:List Nat)(w:World)(hl:l.length*22≤140737488355328)(hx:∀x∈l,x≤9223372036854775807)(ht:Lib.TabIs Tryz.prog w "internal/strconv.uint64pow10" .u64 Lib.pow10Tab)(hc:∀(k x:Nat),l[k]?=some x→w.cell? ⟨b,off+k,none⟩=some (.int .i64 x)):
  Calls Tryz.prog 130 #[.slice (some ⟨b,off,none⟩) l.length c] w fun e w'=>e= .returned (.string ⟨(zCn l).toArray⟩)∧Below w.heap.size w w':=by
 go_enter Tryz.func130,Tryz.ntmps130
 go_wp2
 go_loopw [8] (fun i wr=>∃k:Nat,k≤l.length∧i= .int .i64 k∧Lib.IsBuilder 259 5 w.heap.size w.heap.size (Lib.byteCells (zCn (l.take k))) wr∧Below w.heap.size w wr∧(zCn (l.take k)).length≤22*k) (fun i _=>l.length-(intOf i).toNat)
 case atStart=>exact⟨0,Nat.zero_le _,rfl,Lib.fresh_isBuilder 259 5 w,(Below.refl _ w).alloc (Nat.le_refl _) _,by simp[zCn]⟩
 case round=>
  obtain⟨k,hk,rfl,hI,hbw,hle⟩:=hrel;have hsz:=hbw.size;by_cases hlt:k<l.length
  ·obtain⟨x,hx1⟩:∃x,l[k]?=some x:=⟨l[k],by simp[hlt]⟩
   have hxl:=hx x (List.mem_of_getElem? hx1);have hcw:=hc k x hx1;have hcx:wr.cell? ⟨b,off+k,none⟩=some (.int .i64 x):=(hbw.cell (p:=⟨b,off+k,none⟩) (World.block_lt_of_cell? _ _ hcw)).trans hcw
   go_wp2_with (go_at_call 202;refine(qNu x (by omega) (by omega) _ (Lib.tabBelow_of_tabIs ht _ hbw)).mono ?_;rintro e w1 ⟨rfl,kk,os,rfl⟩)
   rw[zSw hxl];have hI':=qNw hI kk os;have hbw':=hbw.trans (Lib.below_grow w.heap.size _ hsz kk os);have hsz':=hbw'.size;have hdl:=zZj hxl
   go_wp2_with (go_at_call 201;refine(zHa w.heap.size w.heap.size _ _ _ hI' (by rw[Lib.byteCells_length];show _+(zVs x).toArray.size≤_;simp;omega) hsz').mono ?_)
   rintro e w2 ⟨rfl,h2,b2⟩;have hI2:Lib.IsBuilder 259 5 w.heap.size w.heap.size (Lib.byteCells (zCn (l.take k)++zVs x)) w2:=by
    rw[Lib.byteCells_append];exact Or.inr h2
   have hsz2:w.heap.size≤w2.heap.size:=Nat.le_trans hsz' b2.size
   go_wp2_with (go_at_call 203;refine(zPq w.heap.size w.heap.size _ 32 _ hI2 (by rw[Lib.byteCells_length];simp;omega) hsz2).mono ?_)
   rintro e w3 ⟨rfl,h3,b3⟩
   go_wp2
   go_roundw
   case rel=>
    have ht:l.take (k+1)=l.take k++[x]:=by rw[List.take_add_one,hx1];rfl
    refine⟨k+1,by omega,by go_num,?_,(hbw'.trans b2).trans b3,?_⟩
    ·rw[ht,zAv,Lib.byteCells_append];exact Or.inr h3
    ·rw[ht,zAv];simp only[List.length_append,List.length_cons,List.length_nil];omega
   case measure=>simp[intOf];omega
  ·have:k=l.length:=by omega
   subst this;rw[List.take_length]at hI
   go_wp2_with (go_at_call 204;refine(qDz w.heap.size w.heap.size (zCn l) _ hI hsz).mono ?_)
   rintro e w1 ⟨rfl,b1⟩
   go_wp2
   go_ret
   exact⟨rfl,hbw.trans b1⟩
end Go.Proofs.YtdfmdiakjdggbaaGreatDoor
namespace Go.Proofs.YtdfmdiakjdggbaaGreatDoor
open Go Go.Gv Go.Ev IntKind
noncomputable def zQt:List T→Option (List Nat)
 | []=>some []
 | t::l=>match t with
  | .v (.int .i64 (.ofNat x))=>bif Nat.blt x 9223372036854775808 then(match zQt l with | some r=>some (x::r) | none=>none)else none
  | _=>none
noncomputable def qNy:List T→Option (T×Bool)
 | [.sl (t::cs) n]=>bif Nat.beq (ln (t::cs)) n&&Nat.blt n 1000 then(match zQt (t::cs)with | some l=>some (.v (.string ⟨(zCn l).toArray⟩),true) | none=>none)else none
 | _=>none
theorem zTi{B:Bm}{r:Rd}:∀{cs:List T}{l:List Nat},zQt cs=some l→l.length=cs.length∧(∀x∈l,x≤9223372036854775807)∧∀(k x:Nat),l[k]?=some x→∃t,cs[k]?=some t∧∀v,Rep B r t v→v= .int .i64 x
 | [],l,h=>by simp only[zQt,Option.some.injEq]at h;subst h;simp
 | t::cs,l,h=>by
  simp only[zQt]at h;split at h
  ·rename_i x;cases hb:Nat.blt x 9223372036854775808 with
   | false=>simp[hb]at h
   | true=>
    simp only[hb,cond_true]at h;cases hr:zQt cs with
    | none=>simp[hr]at h
    | some q=>
     simp only[hr,Option.some.injEq]at h;subst h;obtain⟨h1,h2,h3⟩:=zTi (B:=B) (r:=r) hr;rw[Nat.blt_eq]at hb;have hb:=Nat.le_of_lt_succ hb;refine⟨by simp[h1],fun y hy=>?_,fun k y hk=>?_⟩
     ·rcases List.mem_cons.1 hy with rfl | hy
      ·exact hb
      ·exact h2 y hy
     ·cases k with
      | zero=>simp at hk;subst hk;exact⟨_,rfl,fun v hv=>hv.vI.1⟩
      | succ k=>simpa using h3 k y (by simpa using hk)
  ·cases h
theorem qNz{ts:List T}{tv:T}{nw:Bool}(h:qNy ts=some (tv,nw))(k:Nat):KnP Tryz.prog k 130 ts tv nw:=by
 unfold qNy at h;split at h
 ·rename_i t cs n;cases hb:Nat.beq (ln (t::cs)) n&&Nat.blt n 1000 with
  | false=>simp[hb]at h
  | true=>
   simp only[hb,cond_true]at h;simp only[Bool.and_eq_true,Nat.blt_eq]at hb;have hn:=qH hb.1;rw[qL]at hn;cases hk:zQt (t::cs)with
   | none=>simp[hk]at h
   | some l=>
    simp only[hk,Option.some.injEq,Prod.mk.injEq]at h;obtain⟨rfl,rfl⟩:=h;intro B w X qJ R hI _ hX hR hK;obtain⟨h1,h2,h3⟩:=zTi (B:=B) (r:=rd w X) hk;match qJ,hR with
    | [v],⟨hv,_⟩=>
     cases hv with
     | @sl _ _ b o c hnc f hf hg hm=>
      have hlen:l.length=n:=by rw[h1,←hn]
      subst hlen;refine(qAv b o c l w (by omega) h2 (hI (by rw[qLe];exact fun h=>by cases h)) fun j x hj=>?_).mono ?_
      ·obtain⟨t',ht,hv⟩:=h3 j x hj;rw[←hv _ (hg j t' ht)];exact jD (hf j t' ht)
      ·rintro e w' ⟨rfl,hb⟩;exact hK _ w' (Upd.of_below hb) (.v rfl)
 ·cases h
noncomputable def tb0:List (Nat×(List T→Option (T×Bool))):=(130,qNy)::zRd
theorem qEh:qF Tryz.prog (kK tb0):=zFv (fun _ _ _ h k=>qNz h k) qOr
end Go.Proofs.YtdfmdiakjdggbaaGreatDoor
namespace Go.Ev
open Go Go.Gv Go.RowKit IntKind
theorem fA{a b:Int}:ilt a b=true↔a<b:=by
 cases a with
 | ofNat a=>cases b with
  | ofNat b=>simp only[ilt,Nat.blt_eq,Int.ofNat_eq_natCast];omega
  | negSucc b=>simp only[ilt,Int.ofNat_eq_natCast,Int.negSucc_eq];constructor<;>intro h<;>first | cases h;done | omega
 | negSucc a=>cases b with
  | ofNat b=>simp only[ilt,Int.ofNat_eq_natCast,Int.negSucc_eq];constructor<;>intro h<;>first | omega | trivial
  | negSucc b=>simp only[ilt,Nat.blt_eq,Int.negSucc_eq];omega
theorem qRt{a b:Int}(h:b≤a):ilt a b=false:=by
 cases e:ilt a b with
 | false=>rfl
 | true=>rw[fA]at e;omega
theorem zNn{a b:Int}(h:a<b):ilt a b=true:=fA.2 h
theorem wF{a b:Int}:ieq a b=true↔a=b:=by
 cases a with
 | ofNat a=>cases b with
  | ofNat b=>simp only[ieq,Nat.beq_eq,Int.ofNat_eq_natCast];omega
  | negSucc b=>simp only[ieq,Int.ofNat_eq_natCast,Int.negSucc_eq];constructor<;>intro h<;>first | (cases h;done) | omega
 | negSucc a=>cases b with
  | ofNat b=>simp only[ieq,Int.ofNat_eq_natCast,Int.negSucc_eq];constructor<;>intro h<;>first | (cases h;done) | omega
  | negSucc b=>simp only[ieq,Nat.beq_eq,Int.negSucc_eq];omega
theorem yJ{a b:Int}(h:a=b):ieq a b=true:=wF.2 h
theorem zEk{a b:Int}(h:a≠b):ieq a b=false:=by
 cases e:ieq a b with
 | false=>rfl
 | true=>exact absurd (wF.1 e) h
theorem qGb{α:Type}{l:List α}:emp l=true↔l=[]:=by cases l<;>simp[emp]
section
variable {P:Program}{f k:Nat}{az:List T}{tv tv':T}{nw:Bool}
theorem KnP.res(h:KnP P k f az tv nw)(ht:∀(B:Bm)(r:Rd)(v:Value),Rep B r tv v→Rep B r tv' v):KnP P k f az tv' nw:=fun B w X qJ R hI hk hX hR hK=>h B w X qJ R hI hk hX hR fun v w' hu hv=>hK v w' hu (ht B _ v hv)
theorem KnP.old(h:KnP P k f az tv true):KnP P k f az tv false:=fun B w X qJ R hI hk hX hR hK=>h B w X qJ R hI hk hX hR fun v w' hu hv=>hK v w' hu (hv.mono (BLe.refl B) (Le.new hX))
theorem qBr{B:Bm}{r:Rd}{A:Ty}{v:Value}(h:Rep B r (.v (.slice none 0 0)) v):Rep B r (.ls .a A []) v:=by
 obtain⟨rfl,_⟩:=h.vI;exact .ls ⟨none,0,rfl,Nat.le_refl _,Nat.zero_le _,.inl rfl⟩
end
noncomputable def lpF(st:Hs→Option (Hs⊕(Ex×Hs))):Nat→Hs→Option (Ex×Hs)
 | 0,q=>match st q with
  | some (.inr y)=>some y
  | _=>none
 | n+1,q=>match st q with
  | some (.inl q')=>lpF st n q'
  | some (.inr y)=>some y
  | none=>none
theorem qBk{st:Hs→Option (Hs⊕(Ex×Hs))}:∀(n:Nat)(q:Hs){y:Ex×Hs},lpF st n q=some y→∃m,It st m q y
 | 0,q,y,h=>by
  simp only[lpF]at h;split at h
  ·rename_i z hz;cases h;exact⟨0,.out hz⟩
  ·cases h
 | n+1,q,y,h=>by
  simp only[lpF]at h;split at h
  ·rename_i q' hq;obtain⟨m,hm⟩:=qBk n q' h;exact⟨m+1,.go hq hm⟩
  ·rename_i z hz;cases h;exact⟨0,.out hz⟩
  ·cases h
inductive Sk where
  | i (k:IntKind)
  | b
  | l (g:Tg) (A:Ty)
  | p (g:Tg) (A:Ty) (g2:Tg) (A2:Ty)
  | c (t:T)
structure Sh where
 e:Ex
 hs:List Sk
 az:List (Tg×Ty)
 ks:List (List Sk)
noncomputable def iOf:T→Int
 | .v (.int _ a)=>a
 | _=>0
noncomputable def bOf:T→Bool
 | .v (.bool b)=>b
 | _=>false
noncomputable def lOf(A:Ty):T→List A.den
 | .ls _ B l=>(vK B A l).getD []
 | _=>[]
noncomputable def lnO:T→Nat
 | .ls _ _ l=>l.length
 | .v (.int _ (.ofNat n))=>n
 | _=>0
noncomputable def Tg.beq:Tg→Tg→Bool
 | .a,.a=>true
 | .n,.n=>true
 | .o,.o=>true
 | _,_=>false
noncomputable def qNk:T→T
 | .ag (t::_)=>t
 | _=> .u
noncomputable def qQn:T→T
 | .ag (_::t::_)=>t
 | _=> .u
noncomputable def skG:Sk→T→T
 | .i k,t=> .v (.int k (iOf t))
 | .b,t=> .v (.bool (bOf t))
 | .l g A,t=> .ls g A (lOf A t)
 | .p g A g2 A2,t=> .ag [.ls g A (lOf A (qNk t)),.ls g2 A2 (lOf A2 (qQn t))]
 | .c x,_=>x
noncomputable def skT:Sk→T→Bool
 | .i k,.v (.int k' _)=>Nat.beq (kind k) (kind k')
 | .b,.v (.bool _)=>true
 | .l g A,.ls g' B _=>g.beq g'&&B.beq A
 | .p g A g2 A2,.ag [.ls h B _,.ls h2 B2 _]=>(g.beq h&&B.beq A)&&(g2.beq h2&&B2.beq A2)
 | .c x,t=>eqU 12 x t
 | _,_=>false
theorem zQu{g:Tg}{A B:Ty}{l:List B.den}(h:B.beq A=true):T.ls g A (lOf A (.ls g B l))= .ls g B l:=by
 obtain rfl:=Ty.beq_eq h;have e:vK B B l=some l:=by unfold vK;rw[dif_pos h]
 show T.ls g B ((vK B B l).getD [])=_;rw[e];rfl
theorem Tg.beq_eq{g g':Tg}(h:g.beq g'=true):g=g':=by cases g<;>cases g'<;>first | rfl | cases h
theorem qDw:∀{s:Sk}{t:T},skT s t=true→skG s t=t:=by
 intro s t h;unfold skT at h;split at h
 ·rename_i k k' a;obtain rfl:=vN h;rfl
 ·rfl
 ·rename_i g A g' B l;simp only[Bool.and_eq_true]at h;obtain rfl:=Tg.beq_eq h.1;exact zQu h.2
 ·rename_i g A g2 A2 h' B l h2 B2 l2;simp only[Bool.and_eq_true]at h;obtain rfl:=Tg.beq_eq h.1.1;obtain rfl:=Tg.beq_eq h.2.1;simp only[skG,qNk,qQn,zQu h.1.2,zQu h.2.2]
 ·exact nG 12 _ _ h
 ·cases h
noncomputable def hdT:List T→T
 | t::_=>t
 | []=> .u
noncomputable def qDx:List Sk→List T→List T
 | [],_=>[]
 | s::ss,ts=>skG s (hdT ts)::qDx ss ts.tail
noncomputable def qDy:List Sk→List T→Bool
 | [],[]=>true
 | s::ss,t::ts=>skT s t&&qDy ss ts
 | _,_=>false
theorem zLk:∀{ss:List Sk}{ts:List T},qDy ss ts=true→qDx ss ts=ts
 | [],[],_=>rfl
 | s::ss,t::ts,h=>by
  simp only[qDy,Bool.and_eq_true]at h;simp only[qDx,hdT,List.tail_cons,qDw h.1,zLk h.2]
 | [],_::_,h=>by cases h
 | _::_,[],h=>by cases h
noncomputable def qGv:List (List Sk)→List (List T)→List (List T)
 | [],_=>[]
 | s::ss,ts=>qDx s (ts.headD [])::qGv ss ts.tail
noncomputable def qGw:List (List Sk)→List (List T)→Bool
 | [],[]=>true
 | s::ss,t::ts=>qDy s t&&qGw ss ts
 | _,_=>false
theorem zTk:∀{ss:List (List Sk)}{ts:List (List T)},qGw ss ts=true→qGv ss ts=ts
 | [],[],_=>rfl
 | s::ss,t::ts,h=>by
  simp only[qGw,Bool.and_eq_true]at h;simp only[qGv,List.headD_cons,List.tail_cons,zLk h.1,zTk h.2]
 | [],_::_,h=>by cases h
 | _::_,[],h=>by cases h
noncomputable def azT:List (Tg×Ty)→List T→Bool
 | [],[]=>true
 | s::ss,t::ts=>skT (.l s.1 s.2) t&&azT ss ts
 | _,_=>false
noncomputable def azD{α:Type}(k:List T→DT α):List (Tg×Ty)→List T→List T→DT α
 | [],_,u=>k u.reverse
 | s::ss,ts,u=> .ite (emp (lOf s.2 (hdT ts))) (azD k ss ts.tail (.ls s.1 s.2 []::u)) (azD k ss ts.tail (.ls s.1 s.2 ((lOf s.2 (hdT ts)).headD s.2.zero::(lOf s.2 (hdT ts)).tail)::u))
theorem zQc{α:Type}{k:List T→DT α}{z:α}:∀{ss:List (Tg×Ty)}{ts u:List T},azT ss ts=true→(azD k ss ts u).run=some z→(k (u.reverse++ts)).run=some z
 | [],[],u,_,h=>by simpa[azD]using h
 | s::ss,t::ts,u,h,h2=>by
  simp only[azT,Bool.and_eq_true]at h;have e:T.ls s.1 s.2 (lOf s.2 t)=t:=qDw (s:= .l s.1 s.2) h.1;simp only[azD,hdT,List.tail_cons,DT.run]at h2;cases he:emp (lOf s.2 t)with
  | true=>
   rw[he,cond_true]at h2;have e2:lOf s.2 t=[]:=qGb.1 he;rw[e2]at e;rw[e]at h2;have:=zQc h.2 h2;simpa using this
  | false=>
   rw[he,cond_false]at h2;have e2:(lOf s.2 t).headD s.2.zero::(lOf s.2 t).tail=lOf s.2 t:=by
    cases hl:lOf s.2 t with
    | nil=>rw[hl]at he;cases he
    | cons a l=>rfl
   rw[e2,e]at h2;have:=zQc h.2 h2;simpa using this
 | [],_::_,_,h,_=>by cases h
 | _::_,[],_,h,_=>by cases h
noncomputable def exT:Ex→Ex→Bool
 | .x i,.x j=>Nat.beq i j
 | .r,.r=>true
 | _,_=>false
noncomputable def shT(sh:Sh):Option (Ex×Hs)→Bool
 | some (e,q)=>exT sh.e e&&(qDy sh.hs q.hs&&(azT sh.az q.az&&qGw sh.ks q.ks))
 | none=>false
noncomputable def hsO:Option (Ex×Hs)→Hs
 | some (_,q)=>q
 | none=>⟨[],[],[]⟩
noncomputable def vwD(y:Option (Ex×Hs)):List Sh→DT (Ex×Hs)
 | []=> .no
 | sh::r=> .ite (shT sh y) (azD (fun u=> .ret (sh.e,⟨qDx sh.hs (hsO y).hs,u,qGv sh.ks (hsO y).ks⟩)) sh.az (hsO y).az []) (vwD y r)
theorem qEo{y:Option (Ex×Hs)}{z:Ex×Hs}:∀{shs:List Sh},(vwD y shs).run=some z→y=some z
 | [],h=>by cases h
 | sh::r,h=>by
  simp only[vwD,DT.run]at h;cases hs:shT sh y with
  | false=>rw[hs,cond_false]at h;exact qEo h
  | true=>
   rw[hs,cond_true]at h;match y,hs with
   | some (e,q),hs=>
    simp only[shT,Bool.and_eq_true]at hs;obtain⟨h1,h2,h3,h4⟩:=hs;have h5:=zQc h3 h;simp only[hsO,List.reverse_nil,List.nil_append,zLk h2,zTk h4]at h5;cases h5;have:sh.e=e:=by
     revert h1;cases sh.e<;>cases e<;>intro h1<;>first | rfl | (cases h1;done) | (obtain rfl:=qH h1;rfl)
    rw[this]
noncomputable def lpR(st:Hs→Option (Hs⊕(Ex×Hs)))(fu:Hs→Nat)(shs:List Sh)(q:Hs):DT (Ex×Hs):=vwD (lpF st (fu q) q) shs
theorem nK{st:Hs→Option (Hs⊕(Ex×Hs))}{fu:Hs→Nat}{shs:List Sh}:∀q y,(lpR st fu shs q).run=some y→∃n,It st n q y:=fun _ _ h=>qBk _ _ (qEo h)
noncomputable def orD{α:Type}:DT α→DT α→DT α
 | .no,d=>d
 | d,_=>d
theorem qPb{α:Type}{a b:DT α}{y:α}(h:(orD a b).run=some y):a.run=some y∨b.run=some y:=by
 cases a with
 | no=>exact .inr h
 | ret x=>exact .inl h
 | ite c x z=>exact .inl h
theorem qRz{P:Program}{rn:Rd'}{f:Nat}{p:List Bool}{x:Code}{l1 l2:Lp}{t:List (Nat×List Bool×(S→DT (Ex×S)))}{h1 h2:Hs→DT (Ex×Hs)}(ht:zDk P (loT t))(hrn:bF P rn)(hc:cAt P f p=some (.loop x))(k1:∀q y,(h1 q).run=some y→∃n,It (l1.stp rn f p x) n q y)(k2:∀q y,(h2 q).run=some y→∃n,It (l2.stp rn f p x) n q y):zDk P (loT ((f,p,fun s=>orD (l1.row h1 s) (l2.row h2 s))::t)):=by
 have o1:=wG ht hrn hc k1;have o2:=wG ht hrn hc k2;intro f' p' s d hd x' hx' e s' hrun;simp only[loT]at hd;cases hb:Nat.beq f f'&&eqP p p' with
 | false=>rw[hb,cond_false]at hd;exact ht f' p' s d hd x' hx' e s' hrun
 | true=>
  rw[hb,cond_true]at hd;cases hd;rcases qPb hrun with h | h
  ·exact o1 f' p' s _ (by simp only[loT,hb,cond_true]) x' hx' e s' h
  ·exact o2 f' p' s _ (by simp only[loT,hb,cond_true]) x' hx' e s' h
theorem wH{st:Hs→Option (Hs⊕(Ex×Hs))}{α γ:Type}{iv:Nat→α→Hs}{g:Nat→α→α⊕γ}{d:α→γ}{out:γ→Ex×Hs}{n:Nat}(J:Nat→α→Prop)
  (h1:∀i a,i<n→J i a→st (iv i a)=some (match g i a with | .inl b=> .inl (iv (i+1) b) | .inr y=> .inr (out y)))
  (h2:∀i a b,i<n→J i a→g i a= .inl b→J (i+1) b) (h3:∀a,J n a→st (iv n a)=some (.inr (out (d a)))):∀k i a,i+k=n→J i a→lpF st k (iv i a)=some (out (fol g d k i a))
 | 0,i,a,e,hJ=>by
  obtain rfl:i=n:=by omega
  simp only[lpF,h3 a hJ,fol]
 | k+1,i,a,e,hJ=>by
  have hi:i<n:=by omega
  simp only[lpF,h1 i a hi hJ,fol];cases hg:g i a with
  | inl b=>exact wH J h1 h2 h3 k (i+1) b (by omega) (h2 i a b hi hJ hg)
  | inr y=>rfl
end Go.Ev

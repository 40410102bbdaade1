import Derived.Test.YtdfmdiakjdggbaaGreatDoorRows
import Derived.Test.YtdfmdiakjdggbaaGreatDoorBaseA
set_option linter.unusedVariables false
set_option linter.unusedSimpArgs false
set_option linter.unnecessarySimpa false
namespace Go.Gv
open Go.RowKit IntKind
attribute [local semireducible] Go
structure Pn where
 i:Nat
 d:Nat
 deps:List Nat
 vf:(Nat→Nat)→Value
 ob:Option ((Nat→Nat)→Obj)
def al(i d:Nat)(vf:Nat→Value)(ob:Obj):Pn:=⟨i,d,[i],fun e=>vf (e 0),some fun _=>ob⟩
def Pn.loc(p:Pn)(e:Nat→Nat):Nat→Nat:=fun k=>e (p.deps.getD k p.i)
def Pn.val(p:Pn)(e:Nat→Nat):Value:=p.vf (p.loc e)
def up{α:Type}(f:Nat→α)(j:Nat)(x:α):Nat→α:=fun k=>bif Nat.beq k j then x else f k
theorem vO{α:Type}(f:Nat→α)(j:Nat)(x:α):up f j x j=x:=by simp[up]
theorem tT{α:Type}(f:Nat→α){j k:Nat}(x:α)(h:k≠j):up f j x k=f k:=by
 unfold up;cases hb:Nat.beq k j with
 | false=>rfl
 | true=>exact absurd (Nat.eq_of_beq_eq_true hb) h
structure Rg where
 P:Program
 ops:Array Oper
 Q:Exit→Act→World→Prop
 T:List Nat
 n:Nat
 D:List Deferred
 E:Nat→Prop
 w0:World
 X:Hid
 M0:List (Nat×Obj)
 r0:Rd
def Rg.S(R:Rg)(w:World):Prop:=(∀p∈R.M0,w.heap[p.1]?=some p.2)∧∀a v,R.r0 a=some v→w.cell? a=some v
def sel(M:List (Nat×Obj)):List Nat→List (Nat×Obj)
 | []=>[]
 | i::is=>match M[i]? with
  | some p=>p::sel M is
  | none=>sel M is
theorem zBz{M:List (Nat×Obj)}:∀{is:List Nat},∀p∈sel M is,p∈M
 | i::is,p,h=>by
  unfold sel at h;split at h
  ·rename_i q hq;rcases List.mem_cons.1 h with rfl | h
   ·exact List.mem_of_getElem? hq
   ·exact zBz p h
  ·exact zBz p h
theorem selm{M M0:List (Nat×Obj)}(is:List Nat)(h:sel M is=M0:=by kernel_rfl):∀p∈M0,p∈M:=h▸zBz
def unl(l:Array Bool):Nat:=l.toList.countP (fun b=>!b)
def wpU(R:Rg)(l:Array Bool)(a:Act)(w:World):Prop:=∀fuel,unl l≤fuel→wpT R.P R.ops (xZ R.Q) R.S R.T fuel l a w
theorem qOa{l:Array Bool}{i:Nat}(h:l.getD i true=false):unl (l.setIfInBounds i true)+1=unl l:=by
 have hi:i<l.size:=by
  rcases Nat.lt_or_ge i l.size with h' | h'
  ·exact h'
  ·simp[Array.getElem?_eq_none h']at h
 have h1:l[i]=false:=by simpa[hi]using h
 have h2:i<l.toList.length:=by simpa using hi
 have h3:l.toList[i]'h2=false:=by simpa using h1
 unfold unl;rw[Array.toList_setIfInBounds,List.countP_set h2];have h4:0<l.toList.countP (fun b=>!b):=List.countP_pos_iff.2 ⟨_,List.getElem_mem h2,by simp[h3]⟩
 simp only[h3,Bool.not_false,if_true,Bool.not_true,Bool.false_eq_true,if_false];omega
section
variable {R:Rg}{l:Array Bool}{a:Act}{w:World}{o:Oper}{L:List (Nat×Value)}
theorem zNv{i:Nat}{fuel:Nat}(hr:i∈Region.ready .any R.ops l)(hf:unl l≤fuel):∃f,fuel=f+1∧unl (l.setIfInBounds i true)≤f:=by
 have:=qOa (mem_ready.1 hr).1;exact⟨fuel-1,by omega,by omega⟩
theorem qIg(hne:Region.ready .any R.ops l≠[])(h:∀i∈Region.ready .any R.ops l,wpOp R.P R.ops (xZ R.Q) i (fun a' w'=>(qQ R.T (l.setIfInBounds i true)=false→R.S w')∧wpU R (l.setIfInBounds i true) a' w') a w):wpU R l a w:=by
 intro fuel hf;obtain⟨i,hi⟩:=List.exists_mem_of_ne_nil _ hne;obtain⟨f,rfl,_⟩:=zNv hi hf;refine⟨fun h0=>absurd h0 hne,fun j hj=>wpOp_mono (fun a' w' h'=>⟨h'.1,h'.2 f ?_⟩) (h j hj)⟩;obtain⟨f',hf',h''⟩:=zNv hj hf;omega
theorem qZr{i d:Nat}{v:Value}(hi:R.ops[i]?=some o)(hc:zAi R.ops R.T l i=true)(hk:chk R.ops L o d R.n=true)(hF:Fr R.n a L R.D)
  (hrun:(∀w,(execOp (evL L) o).run R.P w= .ok (.value v) w)∨((zIj R.ops R.T i&&!qQ R.T l)=true∧∀w,R.S w→(execOp (evL L) o).run R.P w= .ok (.value v) w)) (hS:qQ R.T l=false→R.S w)
  (k:Fr R.n (a.put (some d) v) ((d,v)::L) R.D→wpU R (l.setIfInBounds i true) (a.put (some d) v) w):wpU R l a w:=by
 obtain⟨h1,h2,h3,h4⟩:=sD hc;simp only[chk,Bool.and_eq_true]at hk;obtain⟨hd,hlt⟩:=zY hk.2.2;intro fuel hf;obtain⟨f,rfl,hf'⟩:=zNv h3 hf;rcases hrun with hrun | ⟨hw,hrun⟩
 ·refine mF hi (Region.noSelect_spec h1) (fun _ _ _ h=>h) (fun _=>True) (.inl fun _=>trivial) h4 f l a w (Region.free_spec hi h2) h3 (.inl ⟨hF.wanted hk.1,fun w _=>by rw[hF.exec hk.2.1];exact hrun w⟩) (.inl fun _=>trivial) hS trivial ?_
  rw[hd];exact k (hF.put hlt v) f hf'
 ·simp only[Bool.and_eq_true,Bool.not_eq_true']at hw;refine mF hi (Region.noSelect_spec h1) (fun _ _ _ h=>h) R.S (.inr ⟨fun _ h=>h,zIk hw.1⟩) h4 f l a w (Region.free_spec hi h2) h3 (.inl ⟨hF.wanted hk.1,fun w hs=>by rw[hF.exec hk.2.1];exact hrun w hs⟩) (.inr hw.2) hS (hS hw.2) ?_
  rw[hd];exact k (hF.put hlt v) f hf'
theorem qXn{i d:Nat}(hi:R.ops[i]?=some o)(hc:zAi R.ops R.T l i=true)(hk:(yC R.ops L o false&&bT o d R.n)=true)(hF:Fr R.n a L R.D)(hS:qQ R.T l=false→R.S w)
  (k:Fr R.n (a.put (some d) undef) ((d,undef)::L) R.D→wpU R (l.setIfInBounds i true) (a.put (some d) undef) w):wpU R l a w:=by
 obtain⟨h1,h2,h3,h4⟩:=sD hc;simp only[Bool.and_eq_true]at hk;obtain⟨hd,hlt⟩:=zY hk.2;intro fuel hf;obtain⟨f,rfl,hf'⟩:=zNv h3 hf;refine mF hi (Region.noSelect_spec h1) (fun _ _ _ h=>h) (fun _=>True) (.inl fun _=>trivial) h4 f l a w (Region.free_spec hi h2) h3 (.inr ⟨hF.wanted hk.1,rfl⟩) (.inl fun _=>trivial) hS trivial ?_;rw[hd];exact k (hF.put hlt undef) f hf'
end
def pT:List Pn→(Nat→Bool)→Array Bool→Array Bool
 | [],_,l=>l
 | p::ps,f,l=>pT ps f (bif f p.i then l.setIfInBounds p.i true else l)
def pM:List Pn→(Nat→Bool)→(Nat→Nat)→List (Nat×Obj)
 | [],_,_=>[]
 | p::ps,f,e=>(bif f p.i then(match p.ob with
  | some o=>[(e p.i,o (p.loc e))]
  | none=>[])else[])++pM ps f e
def pOk(a:Act)(Pd:List Pn)(f:Nat→Bool)(e:Nat→Nat):Prop:=∀p∈Pd,f p.i=true→a.tmps[p.d]?=some (p.val e)
def pCl(Pd:List Pn)(f:Nat→Bool):Prop:=∀p∈Pd,f p.i=true→f p.i=true∧∀k,f (p.deps.getD k p.i)=true
def mY(Pd:List Pn)(l:Array Bool):Array Bool:=pT Pd (fun _=>true) l
theorem zHq:∀(Pd:List Pn)(f:Nat→Bool)(l:Array Bool)(i:Nat),pT Pd f (l.setIfInBounds i true)=(pT Pd f l).setIfInBounds i true
 | [],_,_,_=>rfl
 | p::ps,f,l,i=>by
  simp only[pT];rw[←zHq ps f _ i];cases f p.i
  ·rfl
  ·simp only[cond_true];by_cases h:i=p.i
   ·subst h;rfl
   ·rw[Array.setIfInBounds_comm _ _ h]
def bX(T:List Nat)(Pd:List Pn):Bool:=Pd.all fun p=>!T.contains p.i
@[irreducible] def Gt (R : Rg) (Pd : List Pn) (c : Array Bool × List (Nat × Value)) (M : List (Nat × Obj)) (r : Rd) : Prop :=
  bX R.T Pd = true → (qQ R.T c.1 = true ∨ ((∀ p ∈ R.M0, p ∈ M) ∧ Le R.r0 r)) →
  ∀ f e a w Y, pCl Pd f → Fr R.n a c.2 R.D → pOk a Pd f e → St R.E R.w0 R.X w Y (M ++ pM Pd f e) → Le r (rd w Y) → wpU R (pT Pd f c.1) a w
attribute [local semireducible] Gt
theorem zFy{T:List Nat}{l:Array Bool}{i:Nat}(h:qQ T l=true):qQ T (l.setIfInBounds i true)=true:=by
 unfold qQ at *;rw[List.any_eq_true]at *;obtain⟨t,ht,h⟩:=h;exact⟨t,ht,getD_set_true h⟩
theorem zAp{T:List Nat}:∀(Pd:List Pn)(f:Nat→Bool)(l:Array Bool),bX T Pd=true→qQ T (pT Pd f l)=qQ T l
 | [],_,_,_=>rfl
 | p::ps,f,l,h=>by
  simp only[bX,List.all_cons,Bool.and_eq_true]at h;simp only[pT];refine(zAp ps f _ (by simpa[bX]using h.2)).trans ?_
  cases f p.i
  ·rfl
  ·exact xW (fun e=>by have:=h.1;simp[e]at this)
def pNe(Pd:List Pn)(i:Nat)(d:Option Nat):Bool:=Pd.all fun p=>!(p.i==i)&&!(some p.d==d)
theorem qAk{ops:Array Oper}{T:List Nat}{l:Array Bool}{i j:Nat}(h:zAi ops T l i=true)(hne:i≠j):zAi ops T (l.setIfInBounds j true) i=true:=by
 simp only[zAi,Bool.and_eq_true]at *;refine⟨h.1,?_,?_,h.2.2.2⟩
 ·have h2:=h.2.1;unfold Region.free at *;cases ho:ops[i]? with
  | none=>simp[ho]at h2
  | some oi=>
   simp only[ho,List.all_eq_true]at h2 ⊢;intro k hk;have:=h2 k hk;simp only[Bool.or_eq_true]at this ⊢;rcases this with(h3 | h3) | h3
   ·exact .inl (.inl h3)
   ·refine .inl (.inr ?_);by_cases hkj:j=k
    ·subst hkj;rcases Nat.lt_or_ge j l.size with h' | h'
     ·simp[h']
     ·simp[Array.getElem?_eq_none,h']
    ·rw[getD_set_ne true hkj];exact h3
   ·exact .inr h3
 ·have h3:=h.2.2.1;rw[List.contains_iff_mem]at *;exact ready_mono h3 hne
theorem zNs{ops:Array Oper}{T:List Nat}{i:Nat}{d:Option Nat}:∀(Pd:List Pn)(f:Nat→Bool)(l:Array Bool),pNe Pd i d=true→zAi ops T l i=true→zAi ops T (pT Pd f l) i=true
 | [],_,_,_,h=>h
 | p::ps,f,l,hp,h=>by
  simp only[pNe,List.all_cons,Bool.and_eq_true]at hp;refine zNs (d:=d) ps f _ (by simpa[pNe]using hp.2) ?_
  cases f p.i
  ·exact h
  ·exact qAk h (fun e=>by have:=hp.1.1;simp[e]at this)
theorem zNb{i:Nat}{d:Option Nat}{a a':Act}{v:Value}{Pd:List Pn}{f:Nat→Bool}{e:Nat→Nat}(ha:a'.tmps=(a.put d v).tmps)(hp:pNe Pd i d=true)(h:pOk a Pd f e):pOk a' Pd f e:=fun p hm hf=>by
 have hne:=List.all_eq_true.1 hp p hm;simp only[Bool.and_eq_true,Bool.not_eq_true',beq_eq_false_iff_ne]at hne;rw[ha];cases d with
 | none=>exact h p hm hf
 | some d=>
  have:d≠p.d:=fun e=>hne.2 (by rw[e])
  show(a.tmps.setIfInBounds d v)[p.d]?=_;rw[Array.getElem?_setIfInBounds_ne this];exact h p hm hf
section
variable {R:Rg}{Pd:List Pn}{c:Array Bool×List (Nat×Value)}{M:List (Nat×Obj)}{r:Rd}
theorem hold{f:Nat→Bool}{e:Nat→Nat}{w:World}{Y:Hid}(hf:bX R.T Pd=true)(h0:qQ R.T c.1=true∨((∀p∈R.M0,p∈M)∧Le R.r0 r))(hS:St R.E R.w0 R.X w Y (M++pM Pd f e))(hle:Le r (rd w Y)):qQ R.T (pT Pd f c.1)=false→R.S w:=fun hb=>by
 rw[zAp Pd f _ hf]at hb;rcases h0 with h0 | ⟨h1,h2⟩
 ·rw[h0]at hb;cases hb
 ·exact⟨fun p hp=>(hS.own p (List.mem_append_left _ (h1 p hp))).1,fun a v hv=>qU (hle _ _ (h2 _ _ hv))⟩
def gv(R:Rg)(i:Nat)(v:Value)(c:Array Bool×List (Nat×Value)):Array Bool×List (Nat×Value):=
 (c.1.setIfInBounds i true,match(zP R.ops i).dst with
  | some d=>(d,v)::c.2
  | none=>c.2)
def gd(R:Rg)(i:Nat):Nat:=(zP R.ops i).dst.getD 0
def gok(R:Rg)(Pd:List Pn)(c:Array Bool×List (Nat×Value))(i:Nat):Bool:=zAi R.ops R.T c.1 i&&(chk R.ops c.2 (zP R.ops i) (gd R i) R.n&&pNe Pd i (zP R.ops i).dst)
theorem zPp(i:Nat){v:Value}(hrun:(∀w,(execOp (evL c.2) (zP R.ops i)).run R.P w= .ok (.value v) w)∨((zIj R.ops R.T i&&!qQ R.T c.1)=true∧∀w,R.S w→(execOp (evL c.2) (zP R.ops i)).run R.P w= .ok (.value v) w))
  (k:Gt R Pd (gv R i v c) M r) (hi:R.ops[i]?=some (zP R.ops i):=by kernel_rfl) (hc:gok R Pd c i=true:=by kernel_rfl):Gt R Pd c M r:=by
 intro hf h0 f e a w Y hb hF hp hS hle;simp only[gok,Bool.and_eq_true]at hc;have hk:=hc.2.1;simp only[chk,Bool.and_eq_true]at hk;obtain⟨hd,hlt⟩:=zY hk.2.2;have hT:i∉R.T:=(sD hc.1).2.2.2;refine qZr (i:=i) hi (zNs Pd f _ hc.2.2 hc.1) hc.2.1 hF (by rw[zAp Pd f _ hf];exact hrun) (hold hf h0 hS hle) (fun Z1=>?_)
 rw[←zHq];exact k hf (by
  show qQ R.T (c.1.setIfInBounds i true)=true∨_;rw[xW hT];exact h0) f e (a.put (some (gd R i)) v) w Y hb (by simp only[gv,hd];exact Z1) (zNb (v:=v) (by rw[hd]) hc.2.2 hp) hS hle
theorem qTq(i:Nat)(k:Gt R Pd (gv R i undef c) M r)(hi:R.ops[i]?=some (zP R.ops i):=by kernel_rfl)(hc:(zAi R.ops R.T c.1 i&&(yC R.ops c.2 (zP R.ops i) false&&bT (zP R.ops i) (gd R i) R.n&&pNe Pd i (zP R.ops i).dst))=true:=by kernel_rfl):Gt R Pd c M r:=by
 intro hf h0 f e a w Y hb hF hp hS hle;simp only[Bool.and_eq_true]at hc;obtain⟨hd,hlt⟩:=zY hc.2.1.2;have hT:i∉R.T:=(sD hc.1).2.2.2;refine qXn (i:=i) (d:=gd R i) hi (zNs Pd f _ hc.2.2 hc.1) (by simp only[hc.2.1.1,hc.2.1.2,Bool.and_self]) hF (hold hf h0 hS hle) (fun Z1=>?_)
 rw[←zHq];exact k hf (by
  show qQ R.T (c.1.setIfInBounds i true)=true∨_;rw[xW hT];exact h0) f e (a.put (some (gd R i)) undef) w Y hb (by simp only[gv,hd];exact Z1) (zNb (v:=undef) (by rw[hd]) hc.2.2 hp) hS hle
def g1(R:Rg)(Pd:List Pn)(w:World)(i:Nat)(c:Array Bool×List (Nat×Value)):Option ((Array Bool×List (Nat×Value))×World):=
 match R.ops[i]? with
 | none=>none
 | some o=>
  bif zAi R.ops R.T c.1 i&&pNe Pd i o.dst then
   match o.dst with
   | none=>none
   | some d=>
    bif Nat.blt d R.n then
     bif yC R.ops c.2 o true then
      bif pO c.2 o then
       match(execOp (evL c.2) o).run R.P w with
       | .ok (.value v) w'=>fv v fun v=>some ((c.1.setIfInBounds i true,(d,v)::c.2),w')
       | _=>none
      else none
     else bif yC R.ops c.2 o false then some ((c.1.setIfInBounds i true,(d,undef)::c.2),w)else none
    else none
  else none
def gc(R:Rg)(Pd:List Pn)(i:Nat)(c:Array Bool×List (Nat×Value)):Array Bool×List (Nat×Value):=match g1 R Pd R.w0 i c with
 | some (c,_)=>c
 | none=>c
def gk(R:Rg)(Pd:List Pn):List Nat→Array Bool×List (Nat×Value)→Array Bool×List (Nat×Value)
 | [],c=>c
 | i::is,c=>gk R Pd is (gc R Pd i c)
theorem qYm{i:Nat}(h:∀w,g1 R Pd w i c=some (gc R Pd i c,w))(k:Gt R Pd (gc R Pd i c) M r):Gt R Pd c M r:=by
 generalize hc':gc R Pd i c=c' at h k;clear hc';have h0:=h R.w0;unfold g1 at h h0;cases hi:R.ops[i]? with
 | none=>simp[hi]at h0
 | some o=>
  have hoA:zP R.ops i=o:=by simp[zP,hi]
  simp only[hi]at h h0;cases ht:zAi R.ops R.T c.1 i<;>simp only[ht,Bool.false_and,Bool.true_and,cond_false,cond_true]at h h0
  ·cases h0
  cases hn:pNe Pd i o.dst<;>simp only[hn,cond_false,cond_true]at h h0
  ·cases h0
  cases hd:o.dst with
  | none=>simp[hd]at h0
  | some d=>
   simp only[hd]at h h0;cases hlt:Nat.blt d R.n<;>simp only[hlt,cond_false,cond_true]at h h0
   ·cases h0
   have hds:bT o d R.n=true:=by simp[bT,hd,hlt]
   have hgd:gd R i=d:=by simp[gd,hoA,hd]
   cases hwt:yC R.ops c.2 o true<;>simp only[hwt,cond_false,cond_true]at h h0
   ·cases hwf:yC R.ops c.2 o false<;>simp only[hwf,cond_false,cond_true]at h h0
    ·cases h0
    cases h0;refine qTq i (by simpa[gv,hoA,hd]using k) (by rw[hoA];exact hi) ?_
    rw[hoA,hgd];simp only[ht,hwf,hds,hn,Bool.and_self]
   ·cases hok:pO c.2 o<;>simp only[hok,cond_false,cond_true]at h h0
    ·cases h0
    cases hx:(execOp (evL c.2) o).run R.P R.w0 with
    | halt e w1=>simp[hx]at h0
    | ok y w1=>
     cases y<;>simp only[hx,qDj]at h0<;>try cases h0
     rename_i v;refine zPp (v:=v) i (.inl fun w=>?_) (by simpa[gv,hoA,hd]using k) (by rw[hoA];exact hi) ?_
     ·rw[hoA];have hw:=h w;cases hy:(execOp (evL c.2) o).run R.P w with
      | halt e w1=>simp[hy]at hw
      | ok y w1=>
       cases y<;>simp only[hy,qDj]at hw<;>cases hw;rfl
     ·rw[gok,hoA,hgd];simp only[chk,ht,hwt,hds,hok,hn,Bool.and_self]
inductive GP (R:Rg) (Pd:List Pn):List Nat→Array Bool×List (Nat×Value)→Prop
  | nil {c:Array Bool×List (Nat×Value)}:GP R Pd [] c
  | cons {i:Nat} {is:List Nat} {c:Array Bool×List (Nat×Value)} (h:∀w,g1 R Pd w i c=some (gc R Pd i c,w)) (k:GP R Pd is (gc R Pd i c)):GP R Pd (i::is) c
theorem qDm:∀(is:List Nat){c:Array Bool×List (Nat×Value)},Gt R Pd (gk R Pd is c) M r→GP R Pd is c→Gt R Pd c M r
 | _,_,k,.nil=>k
 | _,_,k,.cons h hk=>qYm h (qDm _ k hk)
theorem gz(is:List Nat)(k:Gt R Pd (gk R Pd is c) M r)(h:GP R Pd is c:=by repeat (first | exact GP.nil | refine GP.cons (by intro w;kernel_rfl) ?_)):Gt R Pd c M r:=qDm is k h
theorem gl(i:Nat){vs:List Value}{ad:Addr}(hat:At R.r0 ad vs)(k:Gt R Pd (gv R i (ldV (ldG R.P (zP R.ops i)) vs) c) M r)(hi:R.ops[i]?=some (zP R.ops i):=by kernel_rfl)(hc:gok R Pd c i=true:=by kernel_rfl)
  (hT:(zIj R.ops R.T i&&!qQ R.T c.1)=true:=by kernel_rfl)
  (ho:(zP R.ops i).op= .load (zEv (zP R.ops i)) (ldX (zP R.ops i)):=by kernel_rfl) (hx:evL c.2 (ldX (zP R.ops i))= .pointer (some ad):=by kernel_rfl) (ht:ldT R.P (zEv (zP R.ops i))=some (ldG R.P (zP R.ops i),vs.length):=by kernel_rfl) (hg:(ldG R.P (zP R.ops i)||vs.length==1)=true:=by kernel_rfl):Gt R Pd c M r:=
 zPp i (.inr ⟨hT,fun _ hS=>zB ho hx ht (by simpa using hg) fun j v hj=>hS.2 _ _ (hat j v hj)⟩) k hi hc
def gow(R:Rg)(c:Array Bool×List (Nat×Value))(i j:Nat):List Value:=((cO R.M0 j).toList.drop (aS (evL c.2 (ldX (zP R.ops i))))).take (ldM R.P (zP R.ops i))
theorem gw(i j:Nat)(k:Gt R Pd (gv R i (ldV (ldG R.P (zP R.ops i)) (gow R c i j)) c) M r)(hi:R.ops[i]?=some (zP R.ops i):=by kernel_rfl)(hc:gok R Pd c i=true:=by kernel_rfl)
  (hT:(zIj R.ops R.T i&&!qQ R.T c.1)=true:=by kernel_rfl)
  (ho:(zP R.ops i).op= .load (zEv (zP R.ops i)) (ldX (zP R.ops i)):=by kernel_rfl) (hx:evL c.2 (ldX (zP R.ops i))= .pointer (some ⟨bO R.M0 j,aS (evL c.2 (ldX (zP R.ops i))),none⟩):=by kernel_rfl)
  (ht:ldT R.P (zEv (zP R.ops i))=some (ldG R.P (zP R.ops i),(gow R c i j).length):=by kernel_rfl) (hg:(ldG R.P (zP R.ops i)||(gow R c i j).length==1)=true:=by kernel_rfl)
  (hj:R.M0[j]?=some (bO R.M0 j,.cells (cO R.M0 j) (tO R.M0 j) (fO R.M0 j)):=by kernel_rfl):Gt R Pd c M r:=
 zPp i (.inr ⟨hT,fun w hS=>zB ho hx ht (by simpa using hg) (by
  have h1:=hS.1 _ (List.mem_of_getElem? hj);intro q v hq;rw[qJ,cell_of_row w _ _ _ _ _ h1];unfold gow at hq;rw[List.getElem?_take]at hq;split at hq
  ·rw[List.getElem?_drop]at hq;simpa using hq
  ·cases hq)⟩) k hi hc
theorem gH(i:Nat){v:Value}(hrun:∀w,(execOp (evL c.2) (zP R.ops i)).run R.P w= .ok (.value v) w)(k:Gt R Pd (gv R i v c) M r)(hi:R.ops[i]?=some (zP R.ops i):=by kernel_rfl)(hc:gok R Pd c i=true:=by kernel_rfl):Gt R Pd c M r:=zPp i (.inl hrun) k hi hc
theorem gi(j:Nat){b off len cap:Nat}{kd:IntKind}{i:Int}(m off':Nat)(k:Gt R Pd (gv R j (.pointer (some ⟨b,off',none⟩)) c) M r)(h0:0≤i:=by omega)(h1:i<len:=by omega)
  (hoff:off+i.toNat*m=off':=by first | rfl | omega | (simp;done) | (simp;omega)) (hm:ldS R.P (idE R.P (idT (zP R.ops j)))=m:=by kernel_rfl) (hx:evL c.2 (idX (zP R.ops j))= .slice (some ⟨b,off,none⟩) len cap:=by kernel_rfl) (hi:evL c.2 (idI (zP R.ops j))= .int kd i:=by kernel_rfl)
  (ho:(zP R.ops j).op= .indexAddr (idT (zP R.ops j)) (idX (zP R.ops j)) (idI (zP R.ops j)):=by kernel_rfl) (ht:R.P.underlying (idT (zP R.ops j))=some (.slice (idE R.P (idT (zP R.ops j)))):=by kernel_rfl)
  (he:ldT R.P (idE R.P (idT (zP R.ops j)))=some (zMj R.P (idE R.P (idT (zP R.ops j))),ldS R.P (idE R.P (idT (zP R.ops j)))):=by kernel_rfl) (hi':R.ops[j]?=some (zP R.ops j):=by kernel_rfl) (hc:gok R Pd c j=true:=by kernel_rfl):Gt R Pd c M r:=
 gH j (fun w=>qV ho ht hx hi he h0 h1 (by rw[hm];exact hoff) w) k hi' hc
def gst(c:Array Bool×List (Nat×Value))(t:Nat)(v:Value):Array Bool×List (Nat×Value):=(c.1,(t,v)::c.2)
def gsl(c:Array Bool×List (Nat×Value))(t:Nat):Option Value:=bif has c.2 t then some (wS c.2 t)else none
theorem zGp(t:Nat){v v':Value}(he:v=v')(h:Gt R Pd (gst c t v') M r)(hv:gsl c t=some v:=by kernel_rfl):Gt R Pd c M r:=by
 intro hf h0 f e a w Y hb hF hp hS hle;unfold gsl at hv;cases hh:has c.2 t<;>simp only[hh,cond_false,cond_true]at hv<;>cases hv;exact h hf h0 f e a w Y hb (hF.set t hh rfl he) hp hS hle
theorem gt(t:Nat){p:Prop}[Decidable p](ht:p→Gt R Pd (gst c t (.bool true)) M r)(hf:¬p→Gt R Pd (gst c t (.bool false)) M r)(hv:gsl c t=some (.bool (decide p)):=by kernel_rfl):Gt R Pd c M r:=by
 by_cases h:p
 ·exact zGp t (by rw[decide_eq_true h]) (ht h) hv
 ·exact zGp t (by rw[decide_eq_false h]) (hf h) hv
theorem gb(t:Nat){b:Bool}(ht:b=true→Gt R Pd (gst c t (.bool true)) M r)(hf:b=false→Gt R Pd (gst c t (.bool false)) M r)(hv:gsl c t=some (.bool b):=by kernel_rfl):Gt R Pd c M r:=by
 cases b
 ·exact zGp t rfl (hf rfl) hv
 ·exact zGp t rfl (ht rfl) hv
theorem qOd{P:Program}{o:Oper}{a:Act}{w:World}{K:Act→World→Prop}{Q:Exit→Act→World→Prop}(h:o.wp P a w K Q):o.wp P a w (fun a' w'=>K a' w'∧∃v,a'.tmps=(a.put o.dst v).tmps) Q:=by
 unfold Oper.wp at *;generalize (execOp a.eval o).run P w=r at *;cases r with
 | ok n w'=>
  cases n<;>simp only[Oper.upon]at h ⊢
  case value v=>exact⟨h,v,rfl⟩
  case skip=>exact⟨h,undef,rfl⟩
  case defer d=>exact⟨h,undef,by cases o.dst<;>rfl⟩
  case enter f args=>exact Calls.mono h (fun e w'' he=>by cases e<;>first | exact⟨he,_,rfl⟩ | exact he)
  case row row args=>exact Rows.mono h (fun v _ he=>⟨he,v,rfl⟩)
 | halt x w'=>cases x<;>simp only[Oper.upon]at h ⊢<;>exact h
def LeA(l l':Array Bool):Prop:=∀k,l.getD k false=true→l'.getD k false=true
theorem zHw{ops:Array Oper}{l l':Array Bool}{j:Nat}(hj:j∈Region.ready .any ops l)(hl:LeA l l')(hun:l'.getD j true=false):j∈Region.ready .any ops l':=by
 rw[mem_ready]at *;obtain⟨_,o,ho,hall⟩:=hj;exact⟨hun,o,ho,fun e he hb=>hl _ (hall e he hb)⟩
theorem LeA.set{l l':Array Bool}(h:LeA l l')(i:Nat)(hs:l.size=l'.size):LeA (l.setIfInBounds i true) (l'.setIfInBounds i true):=fun k hk=>by
 by_cases hik:i=k
 ·subst hik;rcases Nat.lt_or_ge i l.size with h' | h'
  ·simp[show i<l'.size by omega]
  ·simp[Array.getElem?_eq_none,h']at hk
 ·rw[getD_set_ne false hik]at hk ⊢;exact h k hk
theorem LeA.setr{l l':Array Bool}(h:LeA l l')(i:Nat):LeA l (l'.setIfInBounds i true):=fun k hk=>getD_set_true (h k hk)
theorem zXi:∀(Pd:List Pn)(f:Nat→Bool)(l l':Array Bool),l.size=l'.size→LeA l l'→LeA (pT Pd f l) (mY Pd l')
 | [],_,_,_,_,h=>h
 | p::ps,f,l,l',hs,h=>by
  simp only[pT,mY,cond_true];cases f p.i
  ·exact zXi ps f l _ (by simpa using hs) (h.setr p.i)
  ·exact zXi ps f _ _ (by simpa using hs) (h.set p.i hs)
def zKs(Pd:List Pn)(j:Nat):Prop:=∀p∈Pd,p.i≠j
theorem zHp:∀(Pd:List Pn)(f:Nat→Bool)(l:Array Bool)(j:Nat),zKs Pd j→(pT Pd f l).getD j true=l.getD j true
 | [],_,_,_,_=>rfl
 | p::ps,f,l,j,h=>by
  refine(zHp ps f _ j fun q hq=>h q (List.mem_cons_of_mem _ hq)).trans ?_;cases f p.i
  ·rfl
  ·exact getD_set_ne true (h p (List.mem_cons_self ..))
theorem qHa:∀(Pd:List Pn)(f:Nat→Bool)(l l':Array Bool),LeA l l'→LeA l (pT Pd f l')
 | [],_,_,_,h=>h
 | p::ps,f,l,l',h=>by
  refine qHa ps f l _ ?_;cases f p.i
  ·exact h
  ·exact h.setr p.i
theorem zNc:∀(Pd:List Pn)(f:Nat→Bool)(l:Array Bool)(j:Nat),(pT Pd f l).getD j false=true→l.getD j false=true∨f j=true
 | [],_,_,_,h=> .inl h
 | p::ps,f,l,j,h=>by
  rcases zNc ps f _ j h with h | h
  ·cases hp:f p.i
   ·rw[hp]at h;exact .inl h
   ·rw[hp]at h;by_cases hj:p.i=j
    ·exact .inr (hj▸hp)
    ·exact .inl (by rwa[cond_true,getD_set_ne false hj]at h)
  ·exact .inr h
theorem qHb:∀(Pd:List Pn)(f:Nat→Bool)(l:Array Bool),∀p∈Pd,f p.i=true→p.i<l.size→(pT Pd f l).getD p.i false=true
 | q::ps,f,l,p,hp,hf,hlt=>by
  rcases List.mem_cons.1 hp with rfl | hp'
  ·refine qHa ps f _ _ (fun _ h=>h) _ ?_;simp[hf,hlt]
  ·exact qHb ps f _ p hp' hf (by cases f q.i<;>simpa using hlt)
theorem gY:∀(Pd:List Pn)(f g:Nat→Bool)(l:Array Bool),(∀q∈Pd,f q.i=g q.i)→pT Pd f l=pT Pd g l
 | [],_,_,_,_=>rfl
 | p::ps,f,g,l,h=>by
  simp only[pT];rw[h p (List.mem_cons_self ..)];exact gY ps f g _ fun q hq=>h q (List.mem_cons_of_mem _ hq)
theorem zHo:∀(Pd:List Pn)(f g:Nat→Bool)(e e':Nat→Nat),(∀q∈Pd,f q.i=g q.i∧(f q.i=true→e q.i=e' q.i∧q.loc e=q.loc e'))→pM Pd f e=pM Pd g e'
 | [],_,_,_,_,_=>rfl
 | p::ps,f,g,e,e',h=>by
  simp only[pM];rw[zHo ps f g e e' fun q hq=>h q (List.mem_cons_of_mem _ hq)];obtain⟨h1,h2⟩:=h p (List.mem_cons_self ..);rw[←h1];cases hf:f p.i
  ·rfl
  ·obtain⟨h3,h4⟩:=h2 hf;rw[h3,h4]
def bH:List Pn→Bool
 | []=>true
 | p::ps=>pNe ps p.i (some p.d)&&bH ps
theorem xO{Pd:List Pn}{i d:Nat}(h:pNe Pd i (some d)=true):∀q∈Pd,q.i≠i∧q.d≠d:=fun q hq=>by
 have:=List.all_eq_true.1 h q hq;simpa using this
theorem zHm:∀{Pd:List Pn},bH Pd=true→∀p∈Pd,∀q∈Pd,p.i=q.i∨p.d=q.d→p=q
 | x::ps,h,p,hp,q,hq,he=>by
  simp only[bH,Bool.and_eq_true]at h;by_cases h1:p=x
  ·by_cases h2:q=x
   ·rw[h1,h2]
   ·have:=xO h.1 q ((List.mem_cons.1 hq).resolve_left h2);rw[h1]at he;rcases he with he | he
    ·exact absurd he.symm this.1
    ·exact absurd he.symm this.2
  ·have hp':=(List.mem_cons.1 hp).resolve_left h1;by_cases h2:q=x
   ·have:=xO h.1 p hp';rw[h2]at he;rcases he with he | he
    ·exact absurd he this.1
    ·exact absurd he this.2
   ·exact zHm h.2 p hp' q ((List.mem_cons.1 hq).resolve_left h2) he
def cnt(Pd:List Pn)(f:Nat→Bool):Nat:=Pd.countP fun p=>!f p.i
def nb(p:Pn)(e:Nat→Nat):List (Nat×Obj):=match p.ob with
 | some o=>[(e p.i,o (p.loc e))]
 | none=>[]
theorem zTr{q:Pn}{f:Nat→Bool}{e:Nat→Nat}{j b:Nat}(h:∀k,f (q.deps.getD k q.i)=true)(hj:f j=false):q.loc (up e j b)=q.loc e:=funext fun k=>tT e b fun he=>by rw[←he,h k]at hj;cases hj
theorem qQm{f:Nat→Bool}{p:Pn}:∀{Pd:List Pn}{l:Array Bool},bH Pd=true→p∈Pd→pT Pd (up f p.i true) l=(pT Pd f l).setIfInBounds p.i true
 | q::ps,l,hd,hp=>by
  simp only[bH,Bool.and_eq_true]at hd;simp only[pT];by_cases hq:p=q
  ·subst hq;rw[vO,cond_true,gY ps (up f p.i true) f _ fun x hx=>tT f true (xO hd.1 x hx).1,←zHq];cases f p.i
   ·rfl
   ·simp
  ·have hp':p∈ps:=(List.mem_cons.1 hp).resolve_left hq;rw[tT f true (fun e=>(xO hd.1 p hp').1 e.symm)];exact qQm hd.2 hp'
theorem qQl{f:Nat→Bool}{e:Nat→Nat}{p:Pn}{b:Nat}(hf:f p.i=false):∀{Pd:List Pn},bH Pd=true→pCl Pd f→p∈Pd→(pM Pd (up f p.i true) (up e p.i b)).Perm (nb p (up e p.i b)++pM Pd f e)
 | q::ps,hd,hcl,hp=>by
  simp only[bH,Bool.and_eq_true]at hd;simp only[pM];by_cases hq:p=q
  ·subst hq;rw[vO f,cond_true,hf,cond_false,List.nil_append,zHo ps (up f p.i true) f (up e p.i b) e fun x hx=>⟨tT f true (xO hd.1 x hx).1,fun h=>⟨tT e b (xO hd.1 x hx).1,zTr (hcl x (List.mem_cons_of_mem _ hx) (by rwa[tT f true (xO hd.1 x hx).1]at h)).2 hf⟩⟩]
   exact List.Perm.refl _
  ·have hp':p∈ps:=(List.mem_cons.1 hp).resolve_left hq;have hne:q.i≠p.i:=fun e=>(xO hd.1 p hp').1 e.symm;have ih:=qQl (e:=e) (b:=b) hf hd.2 (fun x hx=>hcl x (List.mem_cons_of_mem _ hx)) hp';rw[tT f true hne];cases hfq:f q.i
   ·simpa using ih
   ·rw[tT e b hne,zTr (hcl q (List.mem_cons_self ..) hfq).2 hf];refine(ih.append_left _).trans ?_;rw[←List.append_assoc,←List.append_assoc];exact List.perm_append_comm.append_right _
theorem qVv{a a':Act}{f:Nat→Bool}{e:Nat→Nat}{p:Pn}{b:Nat}{Pd:List Pn}(hd:bH Pd=true)(hcl:pCl Pd f)(hp:p∈Pd)(hf:f p.i=false)(hlt:p.d<a.tmps.size)(ha:a'.tmps=(a.put (some p.d) (p.val (up e p.i b))).tmps)(h:pOk a Pd f e):pOk a' Pd (up f p.i true) (up e p.i b):=fun q hq hfq=>by
 rw[ha];show(a.tmps.setIfInBounds p.d _)[q.d]?=_;by_cases hpq:p=q
 ·subst hpq;simp[hlt]
 ·have hne:¬(p.i=q.i∨p.d=q.d):=fun e=>hpq (zHm hd p hp q hq e);have hfq':f q.i=true:=by rwa[tT f true (fun e=>hne (.inl e.symm))]at hfq
  rw[Array.getElem?_setIfInBounds_ne (fun e=>hne (.inr e)),h q hq hfq'];unfold Pn.val;rw[zTr (hcl q hq hfq').2 hf]
theorem qCh{f:Nat→Bool}{p:Pn}:∀{Pd:List Pn},bH Pd=true→p∈Pd→f p.i=false→cnt Pd (up f p.i true)+1=cnt Pd f
 | q::ps,hd,hp,hf=>by
  simp only[bH,Bool.and_eq_true]at hd;unfold cnt;simp only[List.countP_cons];by_cases hq:p=q
  ·subst hq;have:ps.countP (fun x=>!up f p.i true x.i)=ps.countP (fun x=>!f x.i):=List.countP_congr fun x hx=>by rw[tT f true (xO hd.1 x hx).1]
   rw[this,vO,hf];simp
  ·have hp':p∈ps:=(List.mem_cons.1 hp).resolve_left hq;have ih:=qCh hd.2 hp' hf;unfold cnt at ih;rw[tT f true (fun e=>(xO hd.1 p hp').1 e.symm)];omega
theorem Fr.put_ne{n:Nat}{a:Act}{L:List (Nat×Value)}{D:List Deferred}(h:Fr n a L D){d:Nat}(hd:has L d=false)(v:Value):Fr n (a.put (some d) v) L D:=by
 refine⟨by simpa[Act.put]using h.size,h.defers,fun t ht=>?_⟩
 have hne:d≠t:=fun e=>by subst e;rw[hd]at ht;cases ht
 show(a.tmps.setIfInBounds d v)[t]?=_;rw[Array.getElem?_setIfInBounds_ne hne];exact h.get t ht
def pS(Pd:List Pn)(e:Nat→Nat):List (Nat×Value):=match Pd with
 | []=>[]
 | p::ps=>(p.d,p.val e)::pS ps e
def wto(o:Oper)(j:Nat):Bool:=o.after.any fun e=>Region.binds .any e&&e.on==j
def zMq(R:Rg)(c:Array Bool×List (Nat×Value))(Pd:List Pn)(p:Pn):Bool:=
 (yC R.ops c.2 (zP R.ops p.i) true&&(bT (zP R.ops p.i) p.d R.n&&(!has c.2 p.d&&!c.1.getD p.i true)))&&
 (p.deps.all (fun j=>j==p.i||((wto (zP R.ops p.i) j&&!c.1.getD j true)||Pd.any fun q=>wto (zP R.ops p.i) q.i&&q.deps.contains j))&&
 (zP R.ops p.i).op.operands.toList.all fun x=>match x with
  | .tmp t=>Pd.all fun q=>!(q.d==t)||wto (zP R.ops p.i) q.i
  | _=>true)
def zNt(R:Rg)(l:Array Bool):List Nat→List Pn→Bool
 | _,[]=>true
 | es,p::ps=>(zP R.ops p.i).after.all (fun e=>!Region.binds .any e||(l.getD e.on false||es.contains e.on))&&zNt R l (p.i::es) ps
inductive yT (R:Rg) (c:Array Bool×List (Nat×Value)) (Pd:List Pn):List Pn→Prop
  | nil:yT R c Pd []
  | cons {p:Pn} {ps:List Pn} (hb:zMq R c Pd p=true) (hi:R.ops[p.i]?=some (zP R.ops p.i)) (ho:∀e,pO (pS Pd e++c.2) (zP R.ops p.i)=true)
      (hr:∀e w,(execOp (evL (pS Pd e++c.2)) (zP R.ops p.i)).run R.P w= .ok (.value (p.val (up e p.i w.heap.size))) (match p.ob with
        | none=>w
        | some o=>w.alloc (o (p.loc (up e p.i w.heap.size))))) (k:yT R c Pd ps):yT R c Pd (p::ps)
theorem yT.k{Pd ps:List Pn}{p:Pn}(k:yT R c Pd ps)(hb:zMq R c Pd p=true:=by kernel_rfl)(hi:R.ops[p.i]?=some (zP R.ops p.i):=by kernel_rfl)(ho:∀e,pO (pS Pd e++c.2) (zP R.ops p.i)=true:=by intro e;kernel_rfl)
  (hr:∀e w,(execOp (evL (pS Pd e++c.2)) (zP R.ops p.i)).run R.P w= .ok (.value (p.val (up e p.i w.heap.size))) (match p.ob with
    | none=>w
    | some o=>w.alloc (o (p.loc (up e p.i w.heap.size)))):=by intro e w;kernel_rfl):yT R c Pd (p::ps):= .cons hb hi ho hr k
theorem yT.get{Pd:List Pn}:∀{ps:List Pn},yT R c Pd ps→∀p∈ps,zMq R c Pd p=true∧R.ops[p.i]?=some (zP R.ops p.i)∧(∀e,pO (pS Pd e++c.2) (zP R.ops p.i)=true)∧
  ∀e w,(execOp (evL (pS Pd e++c.2)) (zP R.ops p.i)).run R.P w= .ok (.value (p.val (up e p.i w.heap.size))) (match p.ob with
    | none=>w
    | some o=>w.alloc (o (p.loc (up e p.i w.heap.size))))
 | _,.cons hb hi ho hr k,p,hp=>by
  rcases List.mem_cons.1 hp with rfl | hp
  ·exact⟨hb,hi,ho,hr⟩
  ·exact k.get p hp
theorem zWq{n:Nat}{a:Act}{L:List (Nat×Value)}{D:List Deferred}(hF:Fr n a L D){e:Nat→Nat}{t:Nat}:∀{ps:List Pn},(∀q∈ps,q.d=t→a.tmps[t]?=some (q.val e))→has (pS ps e++L) t=true→a.tmps[t]?=some (wS (pS ps e++L) t)
 | [],_,hh=>hF.get t hh
 | p::ps,h,hh=>by
  simp only[pS,List.cons_append,has,wS]at hh ⊢;cases hb:Nat.beq p.d t with
  | true=>exact h p (List.mem_cons_self ..) (Nat.eq_of_beq_eq_true hb)
  | false=>
   rw[hb]at hh;exact zWq hF (fun q hq=>h q (List.mem_cons_of_mem _ hq)) hh
theorem qIr{ops:Array Oper}{l:Array Bool}{i j:Nat}{o:Oper}(ho:ops[i]?=some o)(hr:i∈Region.ready .any ops l)(h:wto o j=true):l.getD j false=true:=by
 obtain⟨_,o',ho',hall⟩:=mem_ready.1 hr;obtain rfl:o'=o:=Option.some.inj (ho'.symm.trans ho);obtain⟨e,he,hb⟩:=Array.any_eq_true'.1 h;simp only[Bool.and_eq_true,beq_iff_eq]at hb;exact hb.2▸hall e he hb.1
theorem zBa{l:Array Bool}{j:Nat}(h:l.getD j true=false):l.getD j false=false∧j<l.size:=by
 rcases Nat.lt_or_ge j l.size with h' | h'
 ·exact⟨by simpa[h']using h,h'⟩
 ·simp[Array.getElem?_eq_none h']at h
theorem nrun{f:Nat→Bool}{e:Nat→Nat}{a:Act}{w:World}{Pd:List Pn}{p:Pn}{K:Act→World→Prop}(hPd:yT R c Pd Pd)(hp:p∈Pd)(hcl:pCl Pd f)(hF:Fr R.n a c.2 R.D)(hok:pOk a Pd f e)(hr:p.i∈Region.ready .any R.ops (pT Pd f c.1))
  (hK:(∀k,up f p.i true (p.deps.getD k p.i)=true)→p.d<a.tmps.size→has c.2 p.d=false→K (a.put (some p.d) (p.val (up e p.i w.heap.size))) (match p.ob with
    | none=>w
    | some o=>w.alloc (o (p.loc (up e p.i w.heap.size))))):wpOp R.P R.ops (xZ R.Q) p.i K a w:=by
 obtain⟨q1,q2,q3,q4⟩:=hPd.get p hp;simp only[zMq,Bool.and_eq_true]at q1;obtain⟨⟨hw,hd,hno,hun⟩,hdep,hopd⟩:=q1;obtain⟨hd1,hlt⟩:=zY hd;have hdone:∀j,wto (zP R.ops p.i) j=true→c.1.getD j true=false→f j=true:=fun j h1 h2=>by
  rcases zNc Pd f c.1 j (qIr q2 hr h1)with h | h
  ·rw[(zBa h2).1]at h;cases h
  ·exact h
 have hcl2:∀k,up f p.i true (p.deps.getD k p.i)=true:=fun k=>by
  rcases Nat.lt_or_ge k p.deps.length with hk | hk
  ·have hm:p.deps.getD k p.i∈p.deps:=by rw[List.getD_eq_getElem?_getD,List.getElem?_eq_getElem hk];exact List.getElem_mem hk
   have:=List.all_eq_true.1 hdep _ hm;simp only[Bool.or_eq_true,beq_iff_eq,Bool.and_eq_true,Bool.not_eq_true']at this;by_cases he:p.deps.getD k p.i=p.i
   ·rw[he,vO]
   ·rw[tT f true he];rcases this with h | ⟨h1,h2⟩ | h
    ·exact absurd h he
    ·exact hdone _ h1 h2
    ·rw[List.any_eq_true]at h;obtain⟨q,hq,hqq⟩:=h;simp only[Bool.and_eq_true,List.contains_iff_mem]at hqq;have hqc:=(hPd.get q hq).1;simp only[zMq,Bool.and_eq_true,Bool.not_eq_true']at hqc;have hfq:=hdone q.i hqq.1 hqc.1.2.2.2;obtain⟨k',hk',he'⟩:=List.getElem_of_mem hqq.2;have:=(hcl q hq hfq).2 k';rwa[List.getD_eq_getElem?_getD,List.getElem?_eq_getElem hk',Option.getD_some,he']at this
  ·rw[List.getD_eq_getElem?_getD,List.getElem?_eq_none hk];exact vO ..
 unfold wpOp;simp only[q2];rw[if_pos (hF.wanted hw)];refine .inl ?_;have hok1:=q3 e;simp only[pO,Bool.and_eq_true]at hok1;have hex:execOp a.eval (zP R.ops p.i)=execOp (evL (pS Pd e++c.2)) (zP R.ops p.i):=execOp_congr _ (mU hok1.1) fun x hx=>by
  have hx':x∈(zP R.ops p.i).op.operands.toList:=by simpa using hx
  have hcv:=lZ hok1.2 x hx';cases x with
  | tmp t=>
   have h1:=List.all_eq_true.1 hopd _ hx';have h2:a.tmps[t]?=some (wS (pS Pd e++c.2) t):=zWq hF (fun q hq he=>by
    have h3:=List.all_eq_true.1 h1 q hq;simp only[Bool.or_eq_true,Bool.not_eq_true',beq_eq_false_iff_ne]at h3;have h4:=h3.resolve_left (fun h=>h he);have hqc:=(hPd.get q hq).1;simp only[zMq,Bool.and_eq_true,Bool.not_eq_true']at hqc;rw[←he];exact hok q hq (hdone q.i h4 hqc.1.2.2.2)) hcv
   show a.tmps.getD t undef=_;simp[h2,evL]
  | _=>rfl
 unfold Oper.wp;rw[hex,q4 e w];show K (a.put (zP R.ops p.i).dst _) _;rw[hd1];exact hK hcl2 (by rw[hF.size];exact hlt) (by simpa using hno)
theorem zMa(stop:(Nat→Bool)→Bool)(hstop:∀f,(∀p∈Pd,f p.i=true)→stop f=true)(hPd:yT R c Pd Pd)(hdis:(bH Pd&&zNt R c.1 [] Pd.reverse)=true)
  (hne:∀f e a w Y,pCl Pd f→Fr R.n a c.2 R.D→pOk a Pd f e→St R.E R.w0 R.X w Y (M++pM Pd f e)→Le r (rd w Y)→
   (stop f=false→∀j∈Region.ready .any R.ops (pT Pd f c.1),zKs Pd j→wpOp R.P R.ops (xZ R.Q) j (fun a' w'=>(qQ R.T ((pT Pd f c.1).setIfInBounds j true)=false→R.S w')∧wpU R ((pT Pd f c.1).setIfInBounds j true) a' w') a w)∧
   (stop f=true→wpU R (pT Pd f c.1) a w))
  (hf:bX R.T Pd=true) (h0:qQ R.T c.1=true∨((∀p∈R.M0,p∈M)∧Le R.r0 r)):
  ∀(m:Nat)(f:Nat→Bool)(e:Nat→Nat)(a:Act)(w:World)(Y:Hid),cnt Pd f=m→pCl Pd f→Fr R.n a c.2 R.D→pOk a Pd f e→St R.E R.w0 R.X w Y (M++pM Pd f e)→Le r (rd w Y)→wpU R (pT Pd f c.1) a w:=by
 simp only[Bool.and_eq_true]at hdis;intro m;induction m using Nat.strongRecOn with
 | _ m ih=>
  intro f e a w Y hm hcl hF hp hS hle;obtain⟨h1,h2⟩:=hne f e a w Y hcl hF hp hS hle;cases J0:stop f
  case true=>exact h2 J0
  have hr:Region.ready .any R.ops (pT Pd f c.1)≠[]:=by
   have key:∀(ps:List Pn)(es:List Nat),zNt R c.1 es ps=true→(∀x∈es,∃q∈Pd,q.i=x∧f x=true)→(∀p∈ps,p∈Pd)→(∃p∈ps,f p.i=false)→∃p∈Pd,p.i∈Region.ready .any R.ops (pT Pd f c.1):=by
    intro ps;induction ps with
    | nil=>rintro es _ _ _ ⟨p,hp,_⟩;cases hp
    | cons q ps ihp=>
     rintro es ht hes hsub ⟨p,hp,hfp⟩;simp only[zNt,Bool.and_eq_true]at ht;have hq:q∈Pd:=hsub q (List.mem_cons_self ..);cases hfq:f q.i with
     | true=>
      refine ihp (q.i::es) ht.2 (fun x hx=>?_) (fun p hp=>hsub p (List.mem_cons_of_mem _ hp)) ⟨p,?_,hfp⟩
      ·rcases List.mem_cons.1 hx with rfl | hx
       ·exact⟨q,hq,rfl,hfq⟩
       ·exact hes x hx
      ·refine(List.mem_cons.1 hp).resolve_left fun e=>?_;rw[e,hfq]at hfp;cases hfp
     | false=>
      refine⟨q,hq,mem_ready.2 ⟨?_,_,(hPd.get q hq).2.1,fun x hx hb=>?_⟩⟩
      ·have hqc:=(hPd.get q hq).1;simp only[zMq,Bool.and_eq_true,Bool.not_eq_true']at hqc;have hun:=zBa hqc.1.2.2.2;cases hg:(pT Pd f c.1).getD q.i false with
       | true=>
        rcases zNc Pd f c.1 q.i hg with h | h
        ·rw[hun.1]at h;cases h
        ·rw[hfq]at h;cases h
       | false=>
        have hsz:∀(ps:List Pn)(l:Array Bool),(pT ps f l).size=l.size:=by
         intro ps;induction ps with
         | nil=>intro l;rfl
         | cons y ps ihs=>intro l;simp only[pT];rw[ihs];cases f y.i<;>simp
        have hlt:q.i<(pT Pd f c.1).size:=by rw[hsz];exact hun.2
        simpa[hlt]using hg
      ·have:=Array.all_eq_true_iff_forall_mem.1 ht.1 x hx;simp only[hb,Bool.not_true,Bool.false_or,Bool.or_eq_true,List.contains_iff_mem]at this;rcases this with h | h
       ·exact qHa Pd f c.1 c.1 (fun _ h=>h) _ h
       ·obtain⟨y,hy,hyx,hfy⟩:=hes _ h;have hyc:=(hPd.get y hy).1;simp only[zMq,Bool.and_eq_true,Bool.not_eq_true']at hyc;rw[←hyx]at hfy ⊢;exact qHb Pd f c.1 y hy hfy (zBa hyc.1.2.2.2).2
   by_cases hex:∃p∈Pd,f p.i=false
   ·obtain⟨p,_,hpr⟩:=key Pd.reverse [] hdis.2 (fun x hx=>by cases hx) (fun p hp=>List.mem_reverse.1 hp) (hex.imp fun p h=>⟨List.mem_reverse.2 h.1,h.2⟩)
    intro h;rw[h]at hpr;cases hpr
   ·rw[hstop f fun p hp=>by
     cases hfp:f p.i
     ·exact absurd ⟨p,hp,hfp⟩ hex
     ·rfl]at J0
    cases J0
  refine qIg hr fun j hj=>?_;by_cases hin:zKs Pd j
  ·exact h1 J0 j hj hin
  ·obtain⟨p,hp',hpj⟩:∃p∈Pd,p.i=j:=by
    apply Classical.byContradiction;intro hno;exact hin fun p hp e=>hno ⟨p,hp,e⟩
   subst hpj;have hfp:f p.i=false:=by
    cases hfp:f p.i
    ·rfl
    ·have hpc:=(hPd.get p hp').1;simp only[zMq,Bool.and_eq_true,Bool.not_eq_true']at hpc;have:=qHb Pd f c.1 p hp' hfp (zBa hpc.1.2.2.2).2;have h9:=(zBa (mem_ready.1 hj).1).1;rw[this]at h9;cases h9
   refine nrun hPd hp' hcl hF hp hj fun hk hlt hno=>?_;have hcl2:pCl Pd (up f p.i true):=fun q hq hfq=>⟨hfq,by
    by_cases hqp:q.i=p.i
    ·obtain rfl:=zHm hdis.1 q hq p hp' (.inl hqp);exact hk
    ·have hfq':f q.i=true:=by rwa[tT f true hqp]at hfq
     intro k;have:=(hcl q hq hfq').2 k;by_cases he:q.deps.getD k q.i=p.i
     ·rw[he,vO]
     ·rw[tT f true he];exact this⟩
   have hp2:=qVv (e:=e) (b:=w.heap.size) hdis.1 hcl hp' hfp hlt (a':=a.put (some p.d) (p.val (up e p.i w.heap.size))) rfl hp;have Z2:=hF.put_ne hno (p.val (up e p.i w.heap.size));have hcnt:=qCh hdis.1 hp' hfp;have hperm:=qQl (e:=e) (b:=w.heap.size) hfp hdis.1 hcl hp';rw[←qQm hdis.1 hp'];have hgo:∀w' Y',St R.E R.w0 R.X w' Y' (M++pM Pd (up f p.i true) (up e p.i w.heap.size))→Le r (rd w' Y')→(qQ R.T (pT Pd (up f p.i true) c.1)=false→R.S w')∧wpU R (pT Pd (up f p.i true) c.1) (a.put (some p.d) (p.val (up e p.i w.heap.size))) w':=fun w' Y' hS' hle'=>⟨hold hf h0 hS' hle',ih _ (by omega) _ _ _ _ _ rfl hcl2 Z2 hp2 hS' hle'⟩
   cases A:p.ob with
   | none=>
    simp only;refine hgo w Y (hS.perm ?_) hle;simp only[nb,A,List.nil_append]at hperm;exact hperm.append_left M
   | some o=>
    simp only;refine hgo _ _ ((hS.alloc (o (p.loc (up e p.i w.heap.size)))).perm ?_) (hle.trans (Le.hide_new _));simp only[nb,A,vO]at hperm;exact(hperm.append_left M).trans List.perm_middle
theorem g_op(i:Nat)(h:∀a w Y B,Fr R.n a c.2 R.D→St R.E R.w0 R.X w Y (M++B)→Le r (rd w Y)→(zP R.ops i).wp R.P a w (fun a' w'=>∃L' M' r' Y',Fr R.n a' L' R.D∧St R.E R.w0 R.X w' Y' (M'++B)∧Le r' (rd w' Y')∧
   (qQ R.T (c.1.setIfInBounds i true)=true∨(((∀p∈R.M0,p∈M)→∀p∈R.M0,p∈M')∧Le r r'))∧Gt R Pd (c.1.setIfInBounds i true,L') M' r') (xZ R.Q))
  (hPd:yT R c Pd Pd) (hdis:(bH Pd&&zNt R c.1 [] Pd.reverse)=true:=by kernel_rfl) (hi:R.ops[i]?=some (zP R.ops i):=by kernel_rfl) (hr:Region.ready .any R.ops (mY Pd c.1)=[i]:=by kernel_rfl) (hw:(yC R.ops c.2 (zP R.ops i) true&&pNe Pd i (zP R.ops i).dst)=true:=by kernel_rfl):Gt R Pd c M r:=by
 intro hf h0 f e a w Y hb hF hp hS hle;simp only[Bool.and_eq_true]at hw;have hin:zKs Pd i:=fun p hp=>by
  have:=List.all_eq_true.1 hw.2 p hp;simp only[Bool.and_eq_true,Bool.not_eq_true',beq_eq_false_iff_ne]at this;exact this.1
 have main:∀f e a w Y,pCl Pd f→Fr R.n a c.2 R.D→pOk a Pd f e→St R.E R.w0 R.X w Y (M++pM Pd f e)→Le r (rd w Y)→∀j∈Region.ready .any R.ops (pT Pd f c.1),zKs Pd j→
   wpOp R.P R.ops (xZ R.Q) j (fun a' w'=>(qQ R.T ((pT Pd f c.1).setIfInBounds j true)=false→R.S w')∧wpU R ((pT Pd f c.1).setIfInBounds j true) a' w') a w:=by
  intro f e a w Y hb hF hp hS hle j hj hin;have hji:j=i:=by
   have:j∈Region.ready .any R.ops (mY Pd c.1):=zHw hj (zXi Pd f c.1 c.1 rfl (fun _ h=>h)) (by rw[mY,zHp Pd _ c.1 j hin,←zHp Pd f c.1 j hin];exact(mem_ready.1 hj).1)
   rw[hr]at this;simpa using this
  subst hji;unfold wpOp;simp only[hi];rw[if_pos (hF.wanted hw.1)];refine .inl (Oper.wp_mono ?_ (qOd (h a w Y (pM Pd f e) hF hS hle)));rintro a' w' ⟨⟨L',M',r',Y',hF',hS',hle',hst,hG⟩,v,hv⟩;have hp':=zNb (i:=j) hv hw.2 hp;have h0':qQ R.T (c.1.setIfInBounds j true)=true∨((∀p∈R.M0,p∈M')∧Le R.r0 r'):=by
   rcases hst with hst | ⟨h1,h2⟩
   ·exact .inl hst
   ·rcases h0 with h0 | ⟨h3,h4⟩
    ·exact .inl (zFy h0)
    ·exact .inr ⟨h1 h3,h4.trans h2⟩
  rw[←zHq];exact⟨hold (c:=(c.1.setIfInBounds j true,L')) hf h0' hS' hle',hG hf h0' f e a' w' Y' hb hF' hp' hS' hle'⟩
 refine zMa (fun f=>Pd.all fun p=>f p.i) (fun f h=>List.all_eq_true.2 h) hPd hdis (fun f e a w Y hb hF hp hS hle=>⟨fun _=>main f e a w Y hb hF hp hS hle,fun hc=>?_⟩) hf h0 (cnt Pd f) f e a w Y rfl hb hF hp hS hle;have heq:pT Pd f c.1=mY Pd c.1:=gY Pd f _ c.1 fun q hq=>List.all_eq_true.1 hc q hq;refine qIg (by rw[heq,hr];simp) fun j hj=>?_
 have hji:j=i:=by rw[heq,hr]at hj;simpa using hj
 exact main f e a w Y hb hF hp hS hle j hj (hji▸hin)
structure SzLe(w0 w:World):Prop where
 size:w0.heap.size≤w.heap.size
structure YLt(w0:World)(Y:Hid)(w:World):Prop where
 upd:SzLe w0 w
 lt:∀k o,Y k o→k<w.heap.size
def gV(R:Rg)(c:Array Bool×List (Nat×Value))(i:Nat):Option (FuncId×Array Value):=match evL c.2 (clF (zP R.ops i))with
 | .func (.func f) t cap=>bif t.isEmpty then some (f,(clA (zP R.ops i)).map (evL c.2)++cap)else none
 | _=>none
theorem qKm{i:Nat}{f:FuncId}{vs:Array Value}(h:gV R c i=some (f,vs)):∃cap,evL c.2 (clF (zP R.ops i))= .func (.func f) #[] cap∧(clA (zP R.ops i)).map (evL c.2)++cap=vs:=by
 unfold gV at h;split at h
 ·rename_i f' t cap he;cases ht:t.isEmpty<;>simp only[ht,cond_true,cond_false]at h<;>cases h;obtain rfl:t=#[]:=by simpa using ht
  exact⟨cap,he,rfl⟩
 ·cases h
theorem gC(i:Nat){f:FuncId}{vs:Array Value}{Φ:World→Hid→World→Value→Prop}(hcon:∀w Y B,St R.E R.w0 R.X w Y (M++B)→Le r (rd w Y)→Calls R.P f vs w (Ret E0 w (Φ w Y)))
  (k:∀v w Y w1,YLt R.w0 Y w→Le r (rd w1 Y)→Φ w Y w1 v→Gt R Pd (gv R i v c) M (rd w1 Y))
  (hPd:yT R c Pd Pd:=by exact yT.nil) (hv:gV R c i=some (f,vs):=by kernel_rfl) (hk:(opk c.2 (zP R.ops i) (gd R i) R.n&&!R.T.contains i)=true:=by kernel_rfl) (ho:(zP R.ops i).op= .call {callee:= .value (clF (zP R.ops i)),args:=clA (zP R.ops i),argTypes:=clT (zP R.ops i)}:=by kernel_rfl)
  (hcall:∀w,(callFunc f vs).run R.P w= .ok (.enter f vs) w:=by intro w;kernel_rfl) (hdis:(bH Pd&&zNt R c.1 [] Pd.reverse)=true:=by kernel_rfl) (hi:R.ops[i]?=some (zP R.ops i):=by kernel_rfl) (hr:Region.ready .any R.ops (mY Pd c.1)=[i]:=by kernel_rfl)
  (hw:(yC R.ops c.2 (zP R.ops i) true&&pNe Pd i (zP R.ops i).dst)=true:=by kernel_rfl):Gt R Pd c M r:=by
 obtain⟨cap,hf,ha⟩:=qKm hv;simp only[Bool.and_eq_true]at hk;have hd:(zP R.ops i).dst=some (gd R i):=by
  have:=hk.1;simp only[opk,Bool.and_eq_true]at this;exact(zY this.2).1
 refine g_op i (fun a w Y B hF hS hle=>?_) hPd hdis hi hr hw;refine yO hF hk.1 hS ho hf ha hcall (hcon w Y B hS hle) fun v w1 h1 h2 _ h4 a1 Z1=>?_;have:=k v w Y w1 ⟨⟨hS.upd.size⟩,hS.lt⟩ (hle.trans h2) h4;refine⟨_,M,rd w1 Y,Y,Z1,h1,Le.refl _,.inr ⟨fun h=>h,hle.trans h2⟩,?_⟩;simpa only[gv,hd]using this
theorem gp(p:Pn)(h:Gt R (p::Pd) c M r)(hp:(!R.T.contains p.i&&(!c.1.getD p.i true&&Pd.all fun q=>!(q.i==p.i)&&!q.deps.contains p.i))=true:=by kernel_rfl):Gt R Pd c M r:=by
 intro hf h0 f e a w Y hb hF hp' hS hle;simp only[Bool.and_eq_true,Bool.not_eq_true']at hp;have hne:∀q∈Pd,q.i≠p.i:=fun q hq=>by
  have:=List.all_eq_true.1 hp.2.2 q hq;simp only[Bool.and_eq_true,Bool.not_eq_true',beq_eq_false_iff_ne]at this;exact this.1
 have hnd:∀q∈Pd,∀k,q.deps.getD k q.i≠p.i:=fun q hq k=>by
  have:=List.all_eq_true.1 hp.2.2 q hq;simp only[Bool.and_eq_true,Bool.not_eq_true',beq_eq_false_iff_ne]at this;rcases Nat.lt_or_ge k q.deps.length with hk | hk
  ·rw[List.getD_eq_getElem?_getD,List.getElem?_eq_getElem hk];intro he;have hm:p.i∈q.deps:=by rw[←he];exact List.getElem_mem hk
   have h2:=this.2;rw[←Bool.not_eq_true,List.contains_iff_mem]at h2;exact h2 hm
  ·rw[List.getD_eq_getElem?_getD,List.getElem?_eq_none hk];exact this.1
 have e1:∀q∈Pd,f q.i=up f p.i false q.i:=fun q hq=>(tT f false (hne q hq)).symm;have:=h (by simp only[bX,List.all_cons,hp.1,Bool.not_false,Bool.true_and];exact hf) h0 (up f p.i false) e a w Y (fun q hq hfq=>by
  rcases List.mem_cons.1 hq with rfl | hq
  ·rw[vO]at hfq;cases hfq
  ·refine⟨hfq,fun k=>?_⟩;rw[tT f false (hnd q hq k)];exact(hb q hq (by rwa[e1 q hq])).2 k) hF (fun q hq hfq=>by
  rcases List.mem_cons.1 hq with rfl | hq
  ·rw[vO]at hfq;cases hfq
  ·exact hp' q hq (by rwa[e1 q hq])) (by
  simp only[pM,vO,cond_false,List.nil_append];rw[zHo Pd (up f p.i false) f e e fun q hq=>⟨(e1 q hq).symm,fun _=>⟨rfl,rfl⟩⟩];exact hS) hle
 simp only[pT,vO,cond_false]at this;rwa[gY Pd (up f p.i false) f c.1 fun q hq=>(e1 q hq).symm]at this
theorem Fr.cons{n:Nat}{a:Act}{L:List (Nat×Value)}{D:List Deferred}(h:Fr n a L D){d:Nat}{v:Value}(hd:a.tmps[d]?=some v):Fr n a ((d,v)::L) D:=by
 refine⟨h.size,h.defers,fun t ht=>?_⟩;simp only[has,wS]at *;cases hb:Nat.beq d t with
 | true=>obtain rfl:=Nat.eq_of_beq_eq_true hb;simpa using hd
 | false=>rw[hb]at ht;simpa using h.get t (by simpa using ht)
def pB:List Pn→(Nat→Nat)→List (Nat×Obj)
 | [],_=>[]
 | p::ps,e=>match p.ob with
  | some o=>(e p.i,o (p.loc e))::pB ps e
  | none=>pB ps e
theorem qGw:∀(Pd:List Pn)(f:Nat→Bool)(e:Nat→Nat),(∀p∈Pd,f p.i=true)→pM Pd f e=pB Pd e
 | [],_,_,_=>rfl
 | p::ps,f,e,h=>by
  simp only[pM,pB,h p (List.mem_cons_self ..),cond_true,qGw ps f e fun q hq=>h q (List.mem_cons_of_mem _ hq)];cases p.ob<;>rfl
def gfl(R:Rg)(Pd:List Pn)(l:Array Bool):Bool:=Pd.all fun p=>(Region.ready .any R.ops (mY (Pd.filter fun q=>!(q.i==p.i)) l)).all fun j=>Pd.any fun q=>q.i==j
theorem zNd{x:Nat}:∀(Pd:List Pn)(f:Nat→Bool)(l l':Array Bool),l.size=l'.size→f x=false→LeA l l'→LeA (pT Pd f l) (mY (Pd.filter fun q=>!(q.i==x)) l')
 | [],_,_,_,_,_,h=>h
 | p::ps,f,l,l',hs,hx,h=>by
  simp only[pT];by_cases hp:p.i=x
  ·simp only[List.filter_cons,hp,beq_self_eq_true,Bool.not_true,Bool.false_eq_true,if_false,hx,cond_false];exact zNd ps f l l' hs hx h
  ·simp only[List.filter_cons,show(p.i==x)=false by simpa using hp,Bool.not_false,if_true,mY,pT,cond_true]
   cases f p.i
   ·exact zNd ps f _ _ (by simpa using hs) hx (h.setr p.i)
   ·exact zNd ps f _ _ (by simpa using hs) hx (h.set p.i hs)
theorem ge(k:∀e:Nat→Nat,Gt R [] (mY Pd c.1,pS Pd e++c.2) (pB Pd e++M) r)(hPd:yT R c Pd Pd)(hc:(bH Pd&&zNt R c.1 [] Pd.reverse)=true:=by kernel_rfl)(hfl:gfl R Pd c.1=true:=by kernel_rfl):Gt R Pd c M r:=by
 intro hf h0 f e a w Y hb hF hp hS hle;refine zMa (fun f=>Pd.all fun p=>f p.i) (fun f h=>List.all_eq_true.2 h) hPd hc (fun f e a w Y hb hF hp hS hle=>⟨fun h1 j hj hin=>?_,fun h1=>?_⟩) hf h0 (cnt Pd f) f e a w Y rfl hb hF hp hS hle
 ·exfalso;obtain⟨p,hp',hfp⟩:∃p∈Pd,f p.i=false:=by
   apply Classical.byContradiction;intro hno;rw[List.all_eq_true.2 fun p hp=>by
    cases hfp:f p.i
    ·exact absurd ⟨p,hp,hfp⟩ hno
    ·rfl]at h1
   cases h1
  have hun:(mY (Pd.filter fun q=>!(q.i==p.i)) c.1).getD j true=false:=by
   rw[mY,zHp _ _ c.1 j (fun q hq=>hin q (List.mem_filter.1 hq).1),←zHp Pd f c.1 j hin];exact(mem_ready.1 hj).1
  have hjr:=zHw hj (zNd (x:=p.i) Pd f c.1 c.1 rfl hfp (fun _ h=>h)) hun;have:=List.all_eq_true.1 hfl p hp';have:=List.all_eq_true.1 this j hjr;rw[List.any_eq_true]at this;obtain⟨q,hq,he⟩:=this;exact hin q hq (by simpa using he)
 ·have hall:∀p∈Pd,f p.i=true:=fun p hp=>List.all_eq_true.1 h1 p hp;have heq:pT Pd f c.1=mY Pd c.1:=gY Pd f _ c.1 fun q hq=>hall q hq;rw[heq];rw[qGw Pd f e hall]at hS;have Z2:∀ps:List Pn,(∀p∈ps,p∈Pd)→Fr R.n a (pS ps e++c.2) R.D:=by
   intro ps;induction ps with
   | nil=>intro _;exact hF
   | cons p ps ihp=>intro h;exact(ihp fun q hq=>h q (List.mem_cons_of_mem _ hq)).cons (hp p (h p (List.mem_cons_self ..)) (hall p (h p (List.mem_cons_self ..))))
  have:=k e (by rfl) (by
   show qQ R.T (mY Pd c.1)=true∨_;rw[mY,zAp Pd _ _ hf];exact h0.imp id fun h=>⟨fun p hp=>List.mem_append_right _ (h.1 p hp),h.2⟩) f e a w Y (fun p hp=>by cases hp) (Z2 Pd fun _ h=>h) (fun p hp=>by cases hp) (by
   simp only[pM,List.append_nil];exact hS.perm List.perm_append_comm) hle
  exact this
theorem gs1{p:Pn}(k:∀b,Gt R Pd (c.1.setIfInBounds p.i true,(p.d,p.vf fun _=>b)::c.2) (nb p (fun _=>b)++M) r)(hPd:yT R c (p::Pd) (p::Pd))(hc:(bH (p::Pd)&&zNt R c.1 [] (p::Pd).reverse)=true:=by kernel_rfl)
  (hdp:(p.deps.all (fun j=>j==p.i)&&(Pd.all (fun q=>!q.deps.contains p.i)&&(Region.ready .any R.ops (mY Pd c.1)).all fun j=>(p::Pd).any fun q=>q.i==j))=true:=by kernel_rfl):Gt R (p::Pd) c M r:=by
 intro hf h0 f e a w Y hb hF hp hS hle;simp only[Bool.and_eq_true]at hdp;have hf2:bX R.T Pd=true:=by simp only[bX,List.all_cons,Bool.and_eq_true]at hf;exact hf.2
 have hpT:p.i∉R.T:=fun e=>by simp[bX,e]at hf
 refine zMa (fun f=>f p.i) (fun f h=>h p (List.mem_cons_self ..)) hPd hc (fun f e a w Y hb hF hp hS hle=>⟨fun h1 j hj hin=>?_,fun h1=>?_⟩) hf h0 (cnt (p::Pd) f) f e a w Y rfl hb hF hp hS hle
 ·exfalso;have hin2:zKs Pd j:=fun q hq=>hin q (List.mem_cons_of_mem _ hq);have hj':j∈Region.ready .any R.ops (pT Pd f c.1):=by simpa only[pT,h1,cond_false]using hj
  have hjr:j∈Region.ready .any R.ops (mY Pd c.1):=zHw hj' (zXi Pd f c.1 c.1 rfl (fun _ h=>h)) (by rw[mY,zHp Pd _ c.1 j hin2,←zHp Pd f c.1 j hin2];exact(mem_ready.1 hj').1)
  have:=List.all_eq_true.1 hdp.2.2 j hjr;rw[List.any_eq_true]at this;obtain⟨q,hq,he⟩:=this;exact hin q hq (by simpa using he)
 ·have hloc:p.loc e=fun _=>e p.i:=funext fun k=>by
   unfold Pn.loc;rcases Nat.lt_or_ge k p.deps.length with hk | hk
   ·rw[List.getD_eq_getElem?_getD,List.getElem?_eq_getElem hk];have:=List.all_eq_true.1 hdp.1 _ (List.getElem_mem hk);rw[Option.getD_some,eq_of_beq this]
   ·rw[List.getD_eq_getElem?_getD,List.getElem?_eq_none hk];rfl
  have hv:=hp p (List.mem_cons_self ..) h1;unfold Pn.val at hv;rw[hloc]at hv;have G2:St R.E R.w0 R.X w Y ((nb p (fun _=>e p.i)++M)++pM Pd f e):=hS.perm (by
   simp only[pM,h1,cond_true];unfold nb;rw[show p.loc (fun _=>e p.i)=p.loc e by rw[hloc];rfl]
   cases p.ob with
   | none=>exact List.Perm.refl _
   | some o=>exact List.perm_middle.symm)
  have:=k (e p.i) hf2 (by
   show qQ R.T (c.1.setIfInBounds p.i true)=true∨_;rw[xW hpT];exact h0.imp id fun h=>⟨fun q hq=>List.mem_append_right _ (h.1 q hq),h.2⟩) f e a w Y (fun q hq=>hb q (List.mem_cons_of_mem _ hq)) (hF.cons hv) (fun q hq=>hp q (List.mem_cons_of_mem _ hq)) G2 hle
  simpa only[pT,h1,cond_true]using this
theorem gp1(p:Pn)(k:∀b,Gt R [] (c.1.setIfInBounds p.i true,(p.d,p.vf fun _=>b)::c.2) (nb p (fun _=>b)++M) r)(hPd:yT R c [p] [p]:=by exact yT.cons (by kernel_rfl) (by kernel_rfl) (by intro e;kernel_rfl) (by intro e w;kernel_rfl) yT.nil)
  (hp:(!R.T.contains p.i&&(!c.1.getD p.i true&&true))=true:=by kernel_rfl) (hc:(bH [p]&&zNt R c.1 [] [p].reverse)=true:=by kernel_rfl) (hdp:(p.deps.all (fun j=>j==p.i)&&(true&&(Region.ready .any R.ops c.1).all fun j=>[p].any fun q=>q.i==j))=true:=by kernel_rfl):Gt R [] c M r:=
 gp p (gs1 k hPd hc hdp) hp
theorem gO(i:Nat)(h:∀a w Y,Fr R.n a c.2 R.D→St R.E R.w0 R.X w Y M→Le r (rd w Y)→(zP R.ops i).wp R.P a w (fun a' w'=>∃L' M' r' Y',Fr R.n a' L' R.D∧St R.E R.w0 R.X w' Y' M'∧Le r' (rd w' Y')∧
   (qQ R.T (c.1.setIfInBounds i true)=true∨(((∀p∈R.M0,p∈M)→∀p∈R.M0,p∈M')∧Le r r'))∧Gt R [] (c.1.setIfInBounds i true,L') M' r') (xZ R.Q))
  (hi:R.ops[i]?=some (zP R.ops i):=by kernel_rfl) (hr:Region.ready .any R.ops c.1=[i]:=by kernel_rfl) (hw:yC R.ops c.2 (zP R.ops i) true=true:=by kernel_rfl):Gt R [] c M r:=by
 intro hf h0 f e a w Y hb hF hp hS hle;have G0:St R.E R.w0 R.X w Y M:=by simpa only[pM,List.append_nil]using hS
 show wpU R c.1 a w;refine qIg (by rw[hr];simp) fun j hj=>?_
 obtain rfl:j=i:=by rw[hr]at hj;simpa using hj
 unfold wpOp;simp only[hi];rw[if_pos (hF.wanted hw)];refine .inl (Oper.wp_mono ?_ (h a w Y hF G0 hle));rintro a' w' ⟨L',M',r',Y',hF',hS',hle',hst,hG⟩;have h0':qQ R.T (c.1.setIfInBounds j true)=true∨((∀p∈R.M0,p∈M')∧Le R.r0 r'):=by
  rcases hst with hst | ⟨h1,h2⟩
  ·exact .inl hst
  ·rcases h0 with h0 | ⟨h3,h4⟩
   ·exact .inl (zFy h0)
   ·exact .inr ⟨h1 h3,h4.trans h2⟩
 have G2:St R.E R.w0 R.X w' Y' (M'++pM [] f e):=by simpa only[pM,List.append_nil]using hS'
 have hnil:pCl [] f:=fun p hp=>by cases hp
 have hok:pOk a' [] f e:=fun p hp=>by cases hp
 exact⟨hold (Pd:=[]) (f:=f) (e:=e) (c:=(c.1.setIfInBounds j true,L')) hf h0' G2 hle',hG hf h0' f e a' w' Y' hnil hF' hok G2 hle'⟩
theorem gX(i j:Nat)(c':Array Value)(k:∀w1 Y,Le r (rd w1 Y)→Gt R [] (gv R i undef c) (wrM M j c') (rd w1 Y))
  (hT:R.T.contains i=true:=by kernel_rfl) (hc:(pO c.2 (zP R.ops i)&&(zP R.ops i).dst.isNone)=true:=by kernel_rfl) (ho:(zP R.ops i).op= .store (stT (zP R.ops i)) (stA (zP R.ops i)) (stV (zP R.ops i)):=by kernel_rfl)
  (ha:evL c.2 (stA (zP R.ops i))= .pointer (some ⟨bO M j,aS (evL c.2 (stA (zP R.ops i))),none⟩):=by kernel_rfl)
  (ht:ldT R.P (stT (zP R.ops i))=some (zMj R.P (stT (zP R.ops i)),(evL c.2 (stV (zP R.ops i))).cells.size):=by kernel_rfl) (h1:(evL c.2 (stV (zP R.ops i))).cells.toList.all Value.oneCell'=true:=by kernel_rfl)
  (hM:M[j]?=some (bO M j,.cells (cO M j) (tO M j) (0,0)):=by kernel_rfl) (hle:Nat.ble (aS (evL c.2 (stA (zP R.ops i)))+(evL c.2 (stV (zP R.ops i))).cells.size) (cO M j).size=true:=by kernel_rfl)
  (hw:jQ (cO M j) (aS (evL c.2 (stA (zP R.ops i)))) (evL c.2 (stV (zP R.ops i))).cells.toList=c':=by kernel_rfl)
  (hi:R.ops[i]?=some (zP R.ops i):=by kernel_rfl) (hr:Region.ready .any R.ops c.1=[i]:=by kernel_rfl) (hwt:yC R.ops c.2 (zP R.ops i) true=true:=by kernel_rfl) (hb:qQ R.T (c.1.setIfInBounds i true)=true:=by kernel_rfl):Gt R [] c M r:=by
 refine gO i (fun a w Y hF hS hle'=>zE j _ hF hc hS ho ha rfl ht rfl h1 hM (Nat.le_of_ble_eq_true hle) hw rfl fun w1 h2 h3=>?_) hi hr hwt;refine⟨c.2,wrM M j c',rd w1 Y,Y,hF,(by rw[zNx hM];exact h2),Le.refl _,.inl hb,?_⟩
 have:=k w1 Y (hle'.trans h3);have hd:(zP R.ops i).dst=none:=by have h9:=hc;rw[Bool.and_eq_true]at h9;exact Option.isNone_iff_eq_none.1 h9.2
 simpa only[gv,hd]using this
theorem gXs(i j:Nat)(is:List Nat)(c':Array Value)(k:∀w1 Y,Le r (rd w1 Y)→Gt R [] (gv R i undef c) (wrM M j c') (rd w1 Y))
  (hst:sel (wrM M j c') is=R.M0:=by kernel_rfl) (hc:(pO c.2 (zP R.ops i)&&(zP R.ops i).dst.isNone)=true:=by kernel_rfl) (ho:(zP R.ops i).op= .store (stT (zP R.ops i)) (stA (zP R.ops i)) (stV (zP R.ops i)):=by kernel_rfl)
  (ha:evL c.2 (stA (zP R.ops i))= .pointer (some ⟨bO M j,aS (evL c.2 (stA (zP R.ops i))),none⟩):=by kernel_rfl)
  (ht:ldT R.P (stT (zP R.ops i))=some (zMj R.P (stT (zP R.ops i)),(evL c.2 (stV (zP R.ops i))).cells.size):=by kernel_rfl) (h1:(evL c.2 (stV (zP R.ops i))).cells.toList.all Value.oneCell'=true:=by kernel_rfl)
  (hM:M[j]?=some (bO M j,.cells (cO M j) (tO M j) (0,0)):=by kernel_rfl) (hle:Nat.ble (aS (evL c.2 (stA (zP R.ops i)))+(evL c.2 (stV (zP R.ops i))).cells.size) (cO M j).size=true:=by kernel_rfl)
  (hw:jQ (cO M j) (aS (evL c.2 (stA (zP R.ops i)))) (evL c.2 (stV (zP R.ops i))).cells.toList=c':=by kernel_rfl)
  (hi:R.ops[i]?=some (zP R.ops i):=by kernel_rfl) (hr:Region.ready .any R.ops c.1=[i]:=by kernel_rfl) (hwt:yC R.ops c.2 (zP R.ops i) true=true:=by kernel_rfl):Gt R [] c M r:=by
 refine gO i (fun a w Y hF hS hle'=>zE j _ hF hc hS ho ha rfl ht rfl h1 hM (Nat.le_of_ble_eq_true hle) hw rfl fun w1 h2 h3=>?_) hi hr hwt;refine⟨c.2,wrM M j c',rd w1 Y,Y,hF,(by rw[zNx hM];exact h2),Le.refl _,.inr ⟨fun _=>selm is hst,hle'.trans h3⟩,?_⟩
 have:=k w1 Y (hle'.trans h3);have hd:(zP R.ops i).dst=none:=by have h9:=hc;rw[Bool.and_eq_true]at h9;exact Option.isNone_iff_eq_none.1 h9.2
 simpa only[gv,hd]using this
end
def gD(c:Cf):Array Oper:=match c.cu with
 | .code (.region _ o _)=>o
 | _=>#[]
def did(c:Cf):Nat:=match c.cu with
 | .code (.region id _ _)=>id
 | _=>0
def isSt:Op→Bool
 | .store .. =>true
 | _=>false
def bF:Op→Bool
 | .load .. =>true
 | _=>false
def tOf(ops:Array Oper):List Nat:=(List.range ops.size).filter fun i=>isSt (zP ops i).op&&(List.range ops.size).all fun j=>!bF (zP ops j).op||(zP ops i).after.any fun e=>Region.binds .any e&&e.on==j
section
variable {r:Option Nat}{m:Nat}{P:Program}{Q:Exit→Act→World→Prop}{n:Nat}{D:List Deferred}{w:World}{c:Cf}{E:Nat→Prop}{w0:World}{X Y:Hid}{M:List (Nat×Obj)}
noncomputable def mkR(r:Option Nat)(m:Nat)(P:Program)(Q:Exit→Act→World→Prop)(n:Nat)(D:List Deferred)(w:World)(c:Cf)(E:Nat→Prop)(w0:World)(X Y:Hid)(M0:List (Nat×Obj))(T:List Nat):Rg:=
 {P:=P,ops:=gD c,Q:=QQ r m P Q c.k,T:=T,n:=n,D:=D,E:=E,w0:=w0,X:=X,M0:=M0,r0:=rd w Y}
theorem zVc(T:List Nat)(M0:List (Nat×Obj))(hS:St E w0 X w Y M)(k:Gt (mkR r m P Q n D w c E w0 X Y M0 T) [] (Array.replicate (gD c).size false,c.L) M (rd w Y))(hM0:∀p∈M0,p∈M)
  (hx:c.cu= .code (.region (did c) (gD c) true):=by kernel_rfl) (hm:P.follows .mixedOrders=true:=by kernel_rfl) (hd:(gD c).all (fun o=>kW o.op)=true:=by kernel_rfl):Go r m P Q n D w c:=by
 intro a hF;rw[hx];refine dO (mkR r m P Q n D w c E w0 X Y M0 T).S T hm rfl hd hS fun w1 G1 hle hu=>?_;have G2:St E w0 X w1 Y (M++pM [] (fun _=>false) (fun _=>0)):=by simpa only[pM,List.append_nil]using G1
 exact k (by rfl) (.inr ⟨hM0,Le.refl _⟩) (fun _=>false) (fun _=>0) a w1 Y (fun p hp=>by cases hp) hF (fun p hp=>by cases hp) G2 hle (gD c).size (Nat.le_trans List.countP_le_length (by simp[pT]))
theorem qIt(is:List Nat)(hS:St E w0 X w Y M)(k:Gt (mkR r m P Q n D w c E w0 X Y (sel M is) (tOf (gD c))) [] (Array.replicate (gD c).size false,c.L) M (rd w Y))
  (hx:c.cu= .code (.region (did c) (gD c) true):=by kernel_rfl) (hm:P.follows .mixedOrders=true:=by kernel_rfl) (hd:(gD c).all (fun o=>kW o.op)=true:=by kernel_rfl):Go r m P Q n D w c:=zVc _ _ hS k zBz hx hm hd
theorem zdrs(is:List Nat)(hS:St E w0 X w Y M)(k:Gt (mkR r m P Q n D w c E w0 X Y (sel M is) []) [] (Array.replicate (gD c).size false,c.L) M (rd w Y))
  (hx:c.cu= .code (.region (did c) (gD c) true):=by kernel_rfl) (hm:P.follows .mixedOrders=true:=by kernel_rfl) (hd:(gD c).all (fun o=>kW o.op)=true:=by kernel_rfl):Go r m P Q n D w c:=zVc _ _ hS k zBz hx hm hd
theorem zdr(hS:St E w0 X w Y M)(k:Gt (mkR r m P Q n D w c E w0 X Y M (tOf (gD c))) [] (Array.replicate (gD c).size false,c.L) M (rd w Y))
  (hx:c.cu= .code (.region (did c) (gD c) true):=by kernel_rfl) (hm:P.follows .mixedOrders=true:=by kernel_rfl) (hd:(gD c).all (fun o=>kW o.op)=true:=by kernel_rfl):Go r m P Q n D w c:=zVc _ M hS k (fun _ h=>h) hx hm hd
theorem xY{w':World}{Y':Hid}{M0 M':List (Nat×Obj)}{T:List Nat}{r':Rd}{c':Array Bool×List (Nat×Value)}(h:∀w1 Y1,St E w0 X w1 Y1 M'→Le r' (rd w1 Y1)→Go r m P Q n D w1 ⟨.ex .normal,c.k,c'.2⟩)(hr:Region.ready .any (gD c) c'.1=[]:=by kernel_rfl):Gt (mkR r m P Q n D w' c E w0 X Y' M0 T) [] c' M' r':=by
 intro hf h0 f e a w Y hb hF hp hS hle fuel _;have G2:St E w0 X w Y M':=by have h9:=hS;simp only[pM,List.append_nil]at h9;exact h9
 exact zDt hr (nrm (h w Y G2 hle a hF))
end
end Go.Gv
namespace Go.Gv
open Go.RowKit IntKind
def nD(o:Oper)(i:Nat):Operand:=match o.op with
 | .call c=>(c.args[i]?).getD (.tmp 0)
 | _=> .tmp 0
def bTy(o:Oper)(i:Nat):TypeId:=match o.op with
 | .call c=>(c.argTypes[i]?).getD 0
 | _=>0
def mkL(o:Oper):Operand:=match o.op with
 | .makeSlice _ x _=>x
 | _=> .tmp 0
def mkT(o:Oper):TypeId:=match o.op with
 | .makeSlice t _ _=>t
 | _=>0
def slE(P:Program)(t:TypeId):TypeId:=match P.underlying t with
 | some (.slice e)=>e
 | _=>0
def zI(i:TypeInfo):Value:=(i.zero).getD undef
def od(o:Oper):Nat:=o.dst.getD 0
section
variable {P:Program}{Q:Exit→Act→World→Prop}{K:Act→World→Prop}{a:Act}{o:Oper}{n:Nat}{L:List (Nat×Value)}{D:List Deferred}{E:Nat→Prop}{w0 w:World}{X Y:Hid}{M:List (Nat×Obj)}
theorem zKw{f:FuncId}{vs:Array Value}{ob1 ob2:Obj}{b1 b2:Nat}{Φ:World→Value→Prop}(i j:Nat)(hF:Fr n a L D)(hS:St E w0 X w Y M)(hM1:M[i]?=some (b1,ob1))(hM2:M[j]?=some (b2,ob2))(hcon:Calls P f vs w (Ret (fun k=>k=b1∨k=b2) w Φ))
  (k:∀v w1,Φ w1 v→(∀o1 o2,w1.heap[b1]?=some o1→w1.heap[b2]?=some o2→St E w0 X w1 Y ((M.set i (b1,o1)).set j (b2,o2)))→Le (rd w Y) (rd w1 Y)→∀a1,Fr n a1 ((od o,v)::L) D→K a1 w1)
  (hc:opk L o (od o) n=true:=by kernel_rfl) (ho:o.op= .call {callee:= .value (clF o),args:=clA o,argTypes:=clT o}:=by kernel_rfl) (hf:evL L (clF o)= .func (.func f) #[] (qJq (evL L (clF o))):=by kernel_rfl) (hargs:(clA o).map (evL L)++qJq (evL L (clF o))=vs:=by kernel_rfl)
  (hcall:∀w,(callFunc f vs).run P w= .ok (.enter f vs) w:=by intro w;kernel_rfl) (hij:(Nat.beq i j)=false:=by kernel_rfl):o.wp P a w K Q:=
 qFu i j hF hc hS ho hf hargs hcall hM1 hM2 (fun e=>by subst e;simp at hij) hcon k
theorem zZn{f:FuncId}{vs:Array Value}{ob:Obj}{b:Nat}{Ψ:Nat→Obj→Value→Prop}(i:Nat)(hF:Fr n a L D)(hS:St E w0 X w Y M)(hM:M[i]?=some (b,ob))
  (hcon:Calls P f vs w (Ret (·=b) w fun w1 v=>∃g' o',w1.heap[g']?=some o'∧(w.heap.size≤g'∨g'=b)∧Ψ g' o' v))
  (k:∀v w1 Y1 g' o',Ψ g' o' v→St E w0 X w1 Y1 (M.set i (g',o'))→Le (rd w Y) (rd w1 Y1)→∀a1,Fr n a1 ((od o,v)::L) D→K a1 w1)
  (hc:opk L o (od o) n=true:=by kernel_rfl) (ho:o.op= .call {callee:= .value (clF o),args:=clA o,argTypes:=clT o}:=by kernel_rfl) (hf:evL L (clF o)= .func (.func f) #[] (qJq (evL L (clF o))):=by kernel_rfl) (hargs:(clA o).map (evL L)++qJq (evL L (clF o))=vs:=by kernel_rfl)
  (hcall:∀w,(callFunc f vs).run P w= .ok (.enter f vs) w:=by intro w;kernel_rfl):o.wp P a w K Q:=
 zQq i hF hc hS ho hf hargs hcall hM hcon k
theorem kD{g k:Nat}{T:TypeId}{m cap:Nat}{cur:Array Value}{l:List Nat}{e:Int}{y:Nat}(i:Nat)(hF:Fr n a L D)(hS:St E w0 X w Y M)(he:e=(y:Int))(hM:M[i]?=some (g,.cells cur T (0,0)))(hrow:zR m cap cur l)(hk:k<l.length)(hy:y<4294967296)
  (kont:∀cur' w1,zR m cap cur' (l.set k y)→St E w0 X w1 Y (M.set i (g,.cells cur' T (0,0)))→Le (rd w Y) (rd w1 Y)→K a w1)
  (hc:(pO L o&&o.dst.isNone)=true:=by kernel_rfl) (ho:o.op= .store (stT o) (stA o) (stV o):=by kernel_rfl) (ha:evL L (stA o)= .pointer (some ⟨g,k,none⟩):=by kernel_rfl) (hv:evL L (stV o)= .int .u32 e:=by kernel_rfl) (ht:ldT P (stT o)=some (false,1):=by kernel_rfl):o.wp P a w K Q:=
 nT i hF hc hS ho ha hv he ht hM hrow hk hy kont
theorem gT{l:Int}{e:TypeId}{z:Value}{i0:TypeInfo}(m b:Nat)(hF:Fr n a L D)(hS:St E w0 X w Y M)
  (k:∀b w1 Y1,St E w0 X w1 Y1 ((b,.cells (List.replicate m z).toArray e (0,0))::M)→Le (rd w Y) (rd w1 Y1)→Upd E0 w w1→∀a1,Fr n a1 ((od o,.slice (some ⟨b,0,none⟩) m m)::L) D→K a1 w1)
  (hby:b*m≤281474976710656:=by omega) (h63:m≤140737488355328:=by omega) (hm:l=(m:Int):=by first | rfl | omega)
  (hb:i0.bytes=b:=by kernel_rfl) (hc:opk L o (od o) n=true:=by kernel_rfl) (ho:o.op= .makeSlice (mkT o) (mkL o) (mkL o):=by kernel_rfl) (hl:evL L (mkL o)= .int .i64 l:=by kernel_rfl)
  (ht:P.underlying (mkT o)=some (.slice e):=by kernel_rfl) (hi:P.info? e=some i0:=by kernel_rfl) (hz:i0.zero=some z:=by kernel_rfl) (hs:i0.size=1:=by kernel_rfl) (hzc:z.cells=#[z]:=by kernel_rfl):o.wp P a w K Q:=
 zXc hF hc hS ho hl hm ht hi hz hs hzc (by rw[hb];exact hby) h63 k
theorem zZo{g dl dc sl sc:Nat}{cur:Array Value}{T:TypeId}{ad:Option Addr}{l l2:List Nat}{Y2:Hid}(i:Nat)(hF:Fr n a L D)(hS:St E w0 X w Y M)(hM:M[i]?=some (g,.cells cur T (0,0)))(hrow:zR dl dc cur l)(h2:zL (rd w Y2) ad sl sc l2)(hle:l2.length≤dl)
  (k:∀cur' w1,zR dl dc cur' (l2++l.drop l2.length)→St E w0 X w1 Y (M.set i (g,.cells cur' T (0,0)))→Le (rd w Y) (rd w1 Y)→∀a1,Fr n a1 ((od o,.int .i64 (l2.length:Int))::L) D→K a1 w1)
  (hc:opk L o (od o) n=true:=by kernel_rfl) (ho:o.op= .call {callee:= .builtin .copy,args:=#[nD o 0,nD o 1],argTypes:=#[bTy o 0,bTy o 1]}:=by kernel_rfl) (hx:evL L (nD o 0)= .slice (some ⟨g,0,none⟩) dl dc:=by kernel_rfl) (hy:evL L (nD o 1)= .slice ad sl sc:=by kernel_rfl)
  (hu:P.underlying (bTy o 0)=some (.slice (slE P (bTy o 0))):=by kernel_rfl) (hs:(P.info? (slE P (bTy o 0))).map (·.size)=some 1:=by kernel_rfl):o.wp P a w K Q:=
 qFw i hF hc hS ho hx hy hu hs hM hrow h2 hle k
theorem zHh{e:TypeId}{g m nn cap c size b:Nat}{cur:Array Value}{xs news:List Value}{ad:Addr}{i0:TypeInfo}(i:Nat)(hF:Fr n a L D)(hS:St E w0 X w Y M)
  (hM:M[i]?=some (g,.cells cur e (0,0))) (hrow:Row nn cap size cur xs) (hnews:qH w ad news) (hl:news.length=m*size) (h1:news.all Value.oneCell'=true)
  (h63:nn+m≤maxLen) (hbytes:(nn+m)*b≤140737488355328)
  (k:∀g' cap' cur' w1 Y1,Row (nn+m) cap' size cur' (xs++news)→St E w0 X w1 Y1 (M.set i (g',.cells cur' e (0,0)))→Le (rd w Y) (rd w1 Y1)→∀a1,Fr n a1 ((od o,.slice (some ⟨g',0,none⟩) (nn+m) cap')::L) D→K a1 w1)
  (hb:i0.bytes=b:=by kernel_rfl) (hc:opk L o (od o) n=true:=by kernel_rfl) (ho:o.op= .call {callee:= .builtin .append,args:=#[nD o 0,nD o 1],argTypes:=#[bTy o 0,bTy o 0]}:=by kernel_rfl) (hs:evL L (nD o 0)= .slice (some ⟨g,0,none⟩) nn cap:=by kernel_rfl) (hx:evL L (nD o 1)= .slice (some ad) m c:=by kernel_rfl)
  (ht:P.underlying (bTy o 0)=some (.slice e):=by kernel_rfl) (hi:P.info? e=some i0:=by kernel_rfl) (hz:i0.zero=some (zI i0):=by kernel_rfl) (hsz:i0.size=size:=by kernel_rfl) (hzs:(zI i0).cells.size=size:=by kernel_rfl):o.wp P a w K Q:=
 zKv i hF hc hS ho hs hx ht hi hz hsz hzs hM hrow hnews hl h1 h63 (by rw[hb];exact hbytes) k
theorem zQp{m c size b:Nat}{e:TypeId}{news:List Value}{ad:Addr}{i0:TypeInfo}(hF:Fr n a L D)(hS:St E w0 X w Y M)(hnews:qH w ad news)(hl:news.length=m*size)(hm0:0<m)(h63:m≤maxLen)(hbytes:m*b≤140737488355328)
  (k:∀g' cap' cur' w1 Y1,Row m cap' size cur' news→St E w0 X w1 Y1 ((g',.cells cur' (e) (0,0))::M)→Le (rd w Y) (rd w1 Y1)→∀a1,Fr n a1 ((od o,.slice (some ⟨g',0,none⟩) m cap')::L) D→K a1 w1)
  (hb:i0.bytes=b:=by kernel_rfl) (hc:opk L o (od o) n=true:=by kernel_rfl) (ho:o.op= .call {callee:= .builtin .append,args:=#[nD o 0,nD o 1],argTypes:=#[bTy o 0,bTy o 0]}:=by kernel_rfl) (hs:evL L (nD o 0)= .slice none 0 0:=by kernel_rfl) (hx:evL L (nD o 1)= .slice (some ad) m c:=by kernel_rfl)
  (ht:P.underlying (bTy o 0)=some (.slice (e)):=by kernel_rfl) (hi:P.info? (e)=some i0:=by kernel_rfl) (hz:i0.zero=some (zI i0):=by kernel_rfl) (hsz:i0.size=size:=by kernel_rfl) (hzs:(zI i0).cells.size=size:=by kernel_rfl):o.wp P a w K Q:=
 zHg hF hc hS ho hs hx ht hi hz hsz hzs hnews hl hm0 h63 (by rw[hb];exact hbytes) k
theorem zHf{e:TypeId}{m c nn cap size b:Nat}{ad0:Option Addr}{xs news:List Value}{ad:Addr}{i0:TypeInfo}{rb R1 M:List (Nat×Obj)}(i:Nat)(hF:Fr n a L D)(hS:St E w0 X w Y M)(hM:M.drop i=R1++rb)
  (hrow:sI e size rb ad0 nn cap xs) (hnews:qH w ad news) (h63:nn+m≤1125899906842624) (hbytes:(nn+m)*b≤140737488355328)
  (k:∀rb' ad' cap' w1 Y1,sI e size rb' ad' (nn+m) cap' (xs++news)→St E w0 X w1 Y1 (M.take i++(R1++rb'))→Le (rd w Y) (rd w1 Y1)→∀a1,Fr n a1 ((od o,.slice ad' (nn+m) cap')::L) D→K a1 w1)
  (hl:news.length=m*size:=by kernel_rfl) (h1:news.all Value.oneCell'=true:=by kernel_rfl) (hm0:Nat.blt 0 m=true:=by kernel_rfl)
  (hb:i0.bytes=b:=by kernel_rfl) (hc:opk L o (od o) n=true:=by kernel_rfl) (ho:o.op= .call {callee:= .builtin .append,args:=#[nD o 0,nD o 1],argTypes:=#[bTy o 0,bTy o 0]}:=by kernel_rfl) (hs:evL L (nD o 0)= .slice ad0 nn cap:=by kernel_rfl) (hx:evL L (nD o 1)= .slice (some ad) m c:=by kernel_rfl)
  (ht:P.underlying (bTy o 0)=some (.slice e):=by kernel_rfl) (hi:P.info? e=some i0:=by kernel_rfl) (hz:i0.zero=some (zI i0):=by kernel_rfl) (hsz:i0.size=size:=by kernel_rfl) (hzs:(zI i0).cells.size=size:=by kernel_rfl):o.wp P a w K Q:=
 qMg i hF hc hS hM ho hs hx ht hi hz hsz hzs hrow hnews hl h1 (by simpa[Nat.blt_eq]using hm0) (by simp only[maxLen];omega) (by rw[hb];exact hbytes) k
end
theorem gr{R:Rg}{Pd:List Pn}{c:Array Bool×List (Nat×Value)}{M:List (Nat×Obj)}{r:Rd}(i j k:Nat){m cap:Nat}{cur:Array Value}{l:List Nat}(hrow:zR m cap cur l)(hk:k<l.length)(cont:Gt R Pd (gv R i (.int .u32 ((l.getD k 0:Nat):Int)) c) M r)
  (hj:R.M0[j]?=some (bO R.M0 j,.cells (cO R.M0 j) (tO R.M0 j) (fO R.M0 j)):=by kernel_rfl) (hcur:cO R.M0 j=cur:=by kernel_rfl)
  (hi:R.ops[i]?=some (zP R.ops i):=by kernel_rfl) (hc:gok R Pd c i=true:=by kernel_rfl) (hT:(zIj R.ops R.T i&&!qQ R.T c.1)=true:=by kernel_rfl)
  (ho:(zP R.ops i).op= .load (zEv (zP R.ops i)) (ldX (zP R.ops i)):=by kernel_rfl) (hx:evL c.2 (ldX (zP R.ops i))= .pointer (some ⟨bO R.M0 j,k,none⟩):=by kernel_rfl) (ht:ldT R.P (zEv (zP R.ops i))=some (false,1):=by kernel_rfl):Gt R Pd c M r:=
 zPp i (.inr ⟨hT,fun w hS=>zB (vs:=[.int .u32 ((l.getD k 0:Nat):Int)]) ho hx ht (.inr rfl) (by
  have h1:=hS.1 _ (List.mem_of_getElem? hj);intro q v hq;rcases q with _ | q
  ·simp at hq;subst hq;rw[qJ,cell_of_row w _ _ _ _ _ h1,hcur];exact hrow.get hk
  ·simp at hq)⟩) cont hi hc
def unp:Nat→Value→List Value
 | 1,v=>[v]
 | _,.tuple a=>a.toList
 | _,v=>[v]
section
variable {P:Program}{n:Nat}{D:List Deferred}{w:World}{c:Cf}{E:Nat→Prop}{w0:World}{X Y:Hid}{M:List (Nat×Obj)}{L:List (Nat×Value)}
theorem Res.tZ{t:Nat}{v:Value}{rs:List ResultVar}{vs:List Value}(k:Res P L w rs vs)(h:has L t=true:=by kernel_rfl)(e:wS L t=v:=by kernel_rfl):Res P L w (.tmp t::rs) (v::vs):=e▸Res.tmp h k
def rM(P:Program)(L:List (Nat×Value))(M:List (Nat×Obj))(i t:Nat)(T:TypeId):List Value:=((cO M i).toList.drop (aS (wS L t))).take (ldS P T)
theorem Res.cM{t:Nat}{T:TypeId}{v:Value}{rs:List ResultVar}{vs:List Value}(hS:St E w0 X w Y M)(i:Nat)(k:Res P L w rs vs)(h:has L t=true:=by kernel_rfl)(hl:wS L t= .pointer (some ⟨bO M i,aS (wS L t),none⟩):=by kernel_rfl)(ht:ldT P T=some (zMj P T,(rM P L M i t T).length):=by kernel_rfl)
  (hg:(zMj P T||(rM P L M i t T).length==1)=true:=by kernel_rfl) (hi:M[i]?=some (bO M i,.cells (cO M i) (tO M i) (fO M i)):=by kernel_rfl) (hm:(rM P L M i t T).length=ldS P T:=by kernel_rfl) (e:ldV (zMj P T) (rM P L M i t T)=v:=by kernel_rfl):Res P L w (.cell t T::rs) (v::vs):=
 e▸Res.cell h hl ht (by simpa using hg) (hS.cells i hi (by rw[hm];rfl)) k
theorem zrS(rs:List ResultVar){v:Value}{fn:Func}{R:Ending→World→Prop}(h:Res P c.L w rs (unp rs.length v))(hR:R (.returned v) w)(hr:fn.results=rs.toArray:=by kernel_rfl)(hv:zBt (unp rs.length v)=v:=by kernel_rfl)(hf:fin c=true:=by kernel_rfl):Go none 0 P (bodyPost P fn R) n [] w c:=zrR h hR hr hv hf
end
theorem zFw{l:List Nat}{x:Nat}:U32 l++[.int .u32 (x:Int)]=U32 (l++[x]):=by simp[U32]
section
variable {w0 w:World}{X Y:Hid}{rb A B:List (Nat×Obj)}{e:TypeId}{m cap:Nat}{ad:Option Addr}
theorem St.pubLimbs{ls:List Nat}(F:List (Nat×Obj)→List (Nat×Obj))(hS:St E0 w0 X w Y (F rb))(hM:∀rb,F rb=A++(rb++B))(hrow:sI e 1 rb ad m cap (U32 ls))(hm:m=ls.length)(hl:∀x∈ls,x<4294967296):
  ∃Y',St E0 w0 X w Y' (F [])∧Le (rd w Y) (rd w Y')∧zL (rd w Y') ad m cap ls:=by
 obtain⟨Y',h1,h2,h3⟩:=St.pubRow F hS hM hrow;refine⟨Y',h1,h2,?_⟩;rcases h3 with⟨hx,rfl,rfl,rfl⟩ | ⟨g,cur,rfl,hr,hat⟩
 ·have:ls=[]:=by
   cases ls with
   | nil=>rfl
   | cons a l=>simp[U32]at hx
  subst this;exact zL.nil none (by omega)
 ·subst hm;refine⟨rfl,hr.hn,?_,hl,.inr ⟨g,0,rfl,fun j v hj=>?_⟩⟩
  ·have:=hr.hcap;simp only[maxLen]at this;omega
  ·rw[←hr.hxs,List.getElem?_take]at hj;split at hj
   ·exact hat j v hj
   ·cases hj
end
theorem fT(l:List Nat)(k:Nat):val (l.take (k+1))=val (l.take k)+l.getD k 0*4294967296^k:=by
 rcases Nat.lt_or_ge k l.length with h | h
 ·exact yA l k h
 ·rw[List.take_of_length_le (by omega),List.take_of_length_le h,List.getD_eq_getElem?_getD,List.getElem?_eq_none h];simp
theorem qNw(l l2 ls:List Nat)(k c:Nat)(hk:ls.length=k)(h:val ls+c*4294967296^k=val (l.take k)+val (l2.take k)):
  val (ls++[(l.getD k 0+l2.getD k 0+c) % 4294967296])+(l.getD k 0+l2.getD k 0+c) / 4294967296*4294967296^(k+1)=val (l.take (k+1))+val (l2.take (k+1)):=by
 rw[fQ,fT,fT,hk];have h1:=Nat.div_add_mod (l.getD k 0+l2.getD k 0+c) 4294967296;have h2:(l.getD k 0+l2.getD k 0+c)*4294967296^k=(l.getD k 0+l2.getD k 0+c) % 4294967296*4294967296^k+(l.getD k 0+l2.getD k 0+c) / 4294967296*4294967296^(k+1):=by
  rw[Nat.pow_succ]
  calc (l.getD k 0+l2.getD k 0+c)*4294967296^k=(4294967296*((l.getD k 0+l2.getD k 0+c) / 4294967296)+(l.getD k 0+l2.getD k 0+c) % 4294967296)*4294967296^k:=by rw[h1]
   _=_:=by rw[Nat.add_mul,Nat.add_comm];congr 1;ac_rfl
 rw[Nat.add_mul,Nat.add_mul]at h2;omega
theorem zFt(a:Nat)(h:a<18446744073709551616):IntKind.u64.wrap (Int.tdiv (a:Int) 4294967296)=((a / 4294967296:Nat):Int):=wX (x:=((a / 4294967296:Nat):Int)) (by omega) (by omega)
theorem qCp(l l2 ls:List Nat)(k c:Nat)(hk:ls.length=k)(h1:l.getD k 0<4294967296)(h2:l2.getD k 0<4294967296)(hc:c≤1)(h:val ls+val (l2.take k)=val (l.take k)+c*4294967296^k):
  val (ls++[(4294967296+l.getD k 0-l2.getD k 0-c) % 4294967296])+val (l2.take (k+1))=val (l.take (k+1))+(1-(4294967296+l.getD k 0-l2.getD k 0-c) / 4294967296)*4294967296^(k+1):=by
 rw[fQ,fT,fT,hk,Nat.pow_succ,Nat.mul_comm (4294967296^k),←Nat.mul_assoc];have e:(4294967296+l.getD k 0-l2.getD k 0-c) % 4294967296+l2.getD k 0+c=l.getD k 0+(1-(4294967296+l.getD k 0-l2.getD k 0-c) / 4294967296)*4294967296:=by omega
 have e2:=congrArg (· * 4294967296^k) e;simp only[Nat.add_mul]at e2;omega
theorem qCo{l l2 ls:List Nat}{c k:Nat}(hk:ls.length=k)(hkl:k=l.length)(hlt:∀x∈ls,x<4294967296)(h2:l2.length≤l.length)(hle:val l2≤val l)(hc:c≤1)(h:val ls+val (l2.take k)=val (l.take k)+c*4294967296^k):val ls=val l-val l2:=by
 subst hkl;rw[List.take_of_length_le h2,List.take_length]at h;have h3:=jU hlt;rw[hk]at h3;have:c=0:=by
  rcases Nat.eq_zero_or_pos c with h | h'
  ·exact h
  ·obtain rfl:c=1:=by omega
   omega
 subst this;omega
theorem zCg:∀(l l2:List Nat),(∀j,l.getD j 0=l2.getD j 0)→val l=val l2
 | [],[],_=>rfl
 | [],b::l2,h=>by
  have h0:=h 0;have ih:=zCg [] l2 fun j=>by have:=h (j+1);simpa using this
  simp at h0;simp only[val]at ih ⊢;omega
 | a::l,[],h=>by
  have h0:=h 0;have ih:=zCg l [] fun j=>by have:=h (j+1);simpa using this
  simp at h0;simp only[val]at ih ⊢;omega
 | a::l,b::l2,h=>by
  have h0:=h 0;have ih:=zCg l l2 fun j=>by have:=h (j+1);simpa using this
  simp at h0;simp only[val];omega
theorem qGj{l l2:List Nat}{k:Nat}(hl:∀x∈l,x<4294967296)(h:∀j,k+1≤j→l.getD j 0=l2.getD j 0)(hlt:l.getD k 0<l2.getD k 0):val l<val l2:=by
 have e:val (l.drop (k+1))=val (l2.drop (k+1)):=zCg _ _ fun j=>by
  have:=h (k+1+j) (by omega)
  simpa[List.getD_eq_getElem?_getD,List.getElem?_drop]using this
 have h1:val (l.take k)<4294967296^k:=by
  have:=jU (l:=l.take k) fun x hx=>hl x (List.mem_of_mem_take hx);refine Nat.lt_of_lt_of_le this (Nat.pow_le_pow_right (by omega) (by rw[List.length_take];omega))
 rw[wF l (k+1),wF l2 (k+1),e,fT,fT];have h2:(l.getD k 0+1)*4294967296^k≤l2.getD k 0*4294967296^k:=Nat.mul_le_mul_right _ hlt;rw[Nat.add_mul,Nat.one_mul]at h2;omega
theorem qHh(ls:List Nat)(p c V x y:Nat)(hp:p<ls.length)(h:val ls+c*4294967296^p=V):
  val (ls.set p ((x*y+ls.getD p 0+c) % 4294967296))+(x*y+ls.getD p 0+c) / 4294967296*4294967296^(p+1)=V+x*y*4294967296^p:=by
 have h1:=wJ ls p ((x*y+ls.getD p 0+c) % 4294967296) hp;have h2:(x*y+ls.getD p 0+c)*4294967296^p=(x*y+ls.getD p 0+c) % 4294967296*4294967296^p+(x*y+ls.getD p 0+c) / 4294967296*4294967296^(p+1):=by
  have h3:=Nat.div_add_mod (x*y+ls.getD p 0+c) 4294967296;rw[Nat.pow_succ]
  calc (x*y+ls.getD p 0+c)*4294967296^p=(4294967296*((x*y+ls.getD p 0+c) / 4294967296)+(x*y+ls.getD p 0+c) % 4294967296)*4294967296^p:=by rw[h3]
   _=_:=by rw[Nat.add_mul,Nat.add_comm];congr 1;ac_rfl
 rw[Nat.add_mul,Nat.add_mul]at h2;omega
theorem qNb(l2:List Nat)(i k x W V:Nat)(h:V=W+x*4294967296^i*val (l2.take k)):V+x*l2.getD k 0*4294967296^(i+k)=W+x*4294967296^i*val (l2.take (k+1)):=by
 rw[h,fT,Nat.mul_add,Nat.pow_add];have:x*4294967296^i*(l2.getD k 0*4294967296^k)=x*l2.getD k 0*(4294967296^i*4294967296^k):=by ac_rfl
 omega
theorem qHg(l l2 ls:List Nat)(i c:Nat)(hp:i+l2.length<ls.length)(h0:ls.getD (i+l2.length) 0=0)(h:val ls+c*4294967296^(i+l2.length)=val (l.take i)*val l2+l.getD i 0*4294967296^i*val l2):
  val (ls.set (i+l2.length) c)=val (l.take (i+1))*val l2:=by
 have h1:=wJ ls (i+l2.length) c hp;rw[h0]at h1;rw[fT,Nat.add_mul];omega
theorem qNc{x y z c:Nat}(hx:x<4294967296)(hy:y<4294967296)(hz:z<4294967296)(hc:c<4294967296):x*y+z+c<18446744073709551616:=by
 have:x*y≤4294967295*4294967295:=Nat.mul_le_mul (by omega) (by omega)
 omega
theorem qNy{a b:Nat}(h:a*b<18446744073709551616):IntKind.u64.wrap ((a:Int)*(b:Int))=((a*b:Nat):Int):=by
 have e:(a:Int)*(b:Int)=((a*b:Nat):Int):=(Int.natCast_mul a b).symm;rw[e];exact wX (by omega) (by omega)
theorem zXv{a b:Nat}(h:a+b<18446744073709551616):IntKind.u64.wrap ((a:Int)+(b:Int))=((a+b:Nat):Int):=(wX (by omega) (by omega)).trans (by omega)
section
variable {P:Program}{w:World}
theorem zEy{t ty e:TypeId}{i:TypeInfo}(ht:P.underlying t=some (.slice e))(hi:P.info? e=some i)(ad:Option Addr)(c:Nat):
  (Builtin.append_ #[t,t] ty #[.slice none 0 0,.slice ad 0 c]).run P w= .ok (.slice none 0 0) w:=by
 cases ad<;>simp[Builtin.append_,run_underlying ht,sizeOf,typeInfo,hi,Builtin.lenOf,Builtin.firstCells,loadCells,loadCellsFrom]
end
section
variable {P:Program}{Q:Exit→Act→World→Prop}{K:Act→World→Prop}{a:Act}{o:Oper}{n:Nat}{L:List (Nat×Value)}{D:List Deferred}{E:Nat→Prop}{w0 w:World}{X Y Y2:Hid}{M:List (Nat×Obj)}
theorem zMy{e:TypeId}{ad:Option Addr}{sl sc:Nat}{l:List Nat}{i0:TypeInfo}(hF:Fr n a L D)(hS:St E w0 X w Y M)(h:zL (rd w Y2) ad sl sc l)(hb:sl≤1000000)
  (k:∀ad' cap' w1,St E w0 X w1 Y M→Le (rd w Y) (rd w1 Y)→zL (rd w1 Y) ad' l.length cap' l→∀a1,Fr n a1 ((od o,.slice ad' l.length cap')::L) D→K a1 w1)
  (hby:i0.bytes=4:=by kernel_rfl) (hc:opk L o (od o) n=true:=by kernel_rfl) (ho:o.op= .call {callee:= .builtin .append,args:=#[nD o 0,nD o 1],argTypes:=#[bTy o 0,bTy o 0]}:=by kernel_rfl) (hs:evL L (nD o 0)= .slice none 0 0:=by kernel_rfl) (hx:evL L (nD o 1)= .slice ad sl sc:=by kernel_rfl)
  (ht:P.underlying (bTy o 0)=some (.slice e):=by kernel_rfl) (hi:P.info? e=some i0:=by kernel_rfl) (hz:i0.zero=some (.int .u32 0):=by kernel_rfl) (hsz:i0.size=1:=by kernel_rfl):o.wp P a w K Q:=by
 obtain rfl:=h.hlen;have hck:=hc;simp only[opk,Bool.and_eq_true]at hck;obtain⟨hd,hlt⟩:=zY hck.2;rcases Nat.eq_zero_or_pos l.length with h0 | h0
 ·have hr:=zEy (P:=P) (w:=w) (ty:=o.type) ht hi ad sc;have hexec:(execOp (evL L) o).run P w= .ok (.value (.slice none 0 0)) w:=by
   unfold execOp;simp only[ho,resolve,invoke,builtin,Sem.run_bind,Sem.run_pure,Result.andThen_ok,List.map_toArray,List.map_cons,List.map_nil,hs,hx,h0,hr]
  refine zF hF hc hexec fun a1 Z1=>?_;have hl:l=[]:=List.eq_nil_of_length_eq_zero h0;refine k none 0 w hS (Le.refl _) ?_ a1 (by rw[h0];exact Z1)
  subst hl;exact zL.nil none (by omega)
 ·obtain⟨b,off,rfl,hat⟩:=h.addr h0;have hr:=run_append_nil (P:=P) w (bTy o 0) o.type e i0 (.int .u32 0) ht hi hz ⟨b,off,none⟩ l.length sc (U32 l) (by rw[hsz];simp) (fun j v hj=>qU (hat j v hj)) h0 (by omega) (by rw[hby];omega)
  have hexec:(execOp (evL L) o).run P w= .ok (.value (.slice (some ⟨w.heap.size,0,none⟩) l.length (grownCap w l.length 0 e))) (w.drew.alloc (.cells ((U32 l).toArray++Builtin.zeroCells (Value.int .u32 0).cells (grownCap w l.length 0 e-l.length)) e)):=by
   unfold execOp;simp only[ho,resolve,invoke,builtin,Sem.run_bind,Sem.run_pure,Result.andThen_ok,List.map_toArray,List.map_cons,List.map_nil,hs,hx,hr]
  unfold Oper.wp;rw[hF.exec hck.1,hexec];show K (a.put o.dst _) _;rw[hd];have hu:Upd E0 w (w.drew.alloc (.cells ((U32 l).toArray++Builtin.zeroCells (Value.int .u32 0).cells (grownCap w l.length 0 e-l.length)) e)):=(Upd.drew w).trans ((Upd.alloc w.drew _).weaken fun _ _ e=>e);have hge:=grownCap_ge w l.length 0 e;have hcm:=grownCap_le_maxLen w l.length 0 e (by simp only[maxLen];omega)
  refine k (some ⟨w.heap.size,0,none⟩) (grownCap w l.length 0 e) _ (hS.call hu) (hu.le Y) ⟨rfl,by omega,by simp only[maxLen]at hcm;omega,h.hlt,.inr ⟨w.heap.size,0,rfl,fun j v hj=>?_⟩⟩ _ (hF.put hlt _)
  rw[qJ];refine vR ?_ (fun hy=>Nat.lt_irrefl _ (hS.lt _ _ hy)) (frozen_of_row _ w.heap.size _ ((U32 l).toArray++Builtin.zeroCells (Value.int .u32 0).cells (grownCap w l.length 0 e-l.length)) e (by show(w.heap.push _)[w.heap.size]?=_;simp))
  have hjl:j<(U32 l).length:=(List.getElem?_eq_some_iff.1 hj).1;rw[cell_of_row _ w.heap.size _ ((U32 l).toArray++Builtin.zeroCells (Value.int .u32 0).cells (grownCap w l.length 0 e-l.length)) e (0,0) (by show(w.heap.push _)[w.heap.size]?=_;simp)]
  simp only[Nat.zero_add];rw[Array.getElem?_append_left (by simpa using hjl)]
  simpa using hj
end
section
variable {P:Program}{w:World}{ρ:Operand→Value}{o:Oper}
theorem qHs{kd:IntKind}{t t2:TypeId}{xa xb:Operand}{x k:Nat}(ho:o.op= .binOp .shr t xa xb t2)(hx:ρ xa= .int .u32 (x:Int))(hk:ρ xb= .int kd (k:Int))(h:k≤32):(execOp ρ o).run P w= .ok (.value (.int .u32 ((x / 2^k:Nat):Int))) w:=by
 unfold execOp;simp only[ho,hx,hk];have h1:=shift_shr_u32 (yk:=kd) (x:=(x:Int)) (y:=(k:Int)) (by omega) (by omega)
 simp[go_sem,h1]
theorem qHq{kd:IntKind}{t t2:TypeId}{xa xb:Operand}{x k:Nat}(ho:o.op= .binOp .shl t xa xb t2)(hx:ρ xa= .int .u32 (x:Int))(hk:ρ xb= .int kd (k:Int))(h:k≤32):(execOp ρ o).run P w= .ok (.value (.int .u32 ((x*2^k % 4294967296:Nat):Int))) w:=by
 unfold execOp;simp only[ho,hx,hk];have h1:=shift_shl_u32 (yk:=kd) (x:=(x:Int)) (y:=(k:Int)) (by omega) (by omega)
 simp[go_sem,h1,yD]
end
def adF(ad:Option Addr)(cap k:Nat):Option Addr:=if cap=k then ad else ad.map (·.add (k*1))
theorem zL.drop{r:Rd}{ad:Option Addr}{len cap:Nat}{l:List Nat}(h:zL r ad len cap l){k:Nat}(hk:k≤len):zL r (adF ad cap k) (len-k) (cap-k) (l.drop k):=by
 have h1:=h.hlen;have h2:=h.hcap;have h3:=h.hbig;refine⟨by simp;omega,by omega,by omega,fun x hx=>h.hlt x (List.mem_of_mem_drop hx),?_⟩
 unfold adF;split
 ·exact .inl (List.drop_eq_nil_of_le (by omega))
 ·rcases h.hat with h4 | ⟨b,off,e,ha⟩
  ·exact .inl (by rw[h4];simp)
  ·refine .inr ⟨b,off+k,by rw[e];simp[Addr.add],fun j v hj=>?_⟩
   rw[show U32 (l.drop k)=(U32 l).drop k by simp[U32],List.getElem?_drop]at hj
   have:=ha (k+j) v hj;simpa[qJ,Nat.add_assoc]using this
section
variable {P:Program}{ρ:Operand→Value}
theorem zJb{o:Oper}{t e:TypeId}{x lo:Operand}{ad:Option Addr}{len cap:Nat}{kd:IntKind}{k:Nat}{g:Bool}(ho:o.op= .slice t x (some lo) none none)(ht:P.underlying t=some (.slice e))(he:ldT P e=some (g,1))
  (hx:ρ x= .slice ad len cap) (hi':ρ lo= .int kd (k:Int)) (h1:k≤len) (w:World):
  (execOp ρ o).run P w= .ok (.value (.slice (adF ad cap k) (len-k) (cap-k))) w:=by
 unfold execOp;simp only[ho,hx,Instr.sliceAt,Instr.slice,Instr.sliceBounds,Instr.sliceBound,asIntOf,underlying,ht,Sem.run_bind,Sem.run_pure,run_program,Result.andThen_ok,Option.map_some,Option.map_none,hi',show(0:Int)≤(k:Int)by omega,show(k:Int)≤(len:Int)by omega,and_self,if_true,run_sizeOf he,Int.toNat_natCast]
 rfl
theorem zLd{o:Oper}{w:World}{kd:IntKind}{t t2:TypeId}{xa xb:Operand}{k:Nat}(ho:o.op= .binOp .shl t xa xb t2)(hx:ρ xa= .int .u32 1)(hk:ρ xb= .int kd (k:Int))(h:k<32):(execOp ρ o).run P w= .ok (.value (.int .u32 ((2^k:Nat):Int))) w:=by
 have h1:=qHq (P:=P) (w:=w) (x:=1) ho hx hk (by omega)
 have h2:(2:Nat)^k<4294967296:=Nat.lt_of_lt_of_le (Nat.pow_lt_pow_right (by omega) h) (by decide)
 rwa[Nat.one_mul,Nat.mod_eq_of_lt h2]at h1
end
theorem qVf{w:World}{Y:Hid}{b:Nat}{x:Nat}(h:At (rd w Y) ⟨b,0,none⟩ [.int .u32 (x:Int)])(hx:x<4294967296):zL (rd w Y) (some ⟨b,0,none⟩) 1 1 [x]:=
 ⟨rfl,Nat.le_refl _,by omega,by simpa using hx,.inr ⟨b,0,rfl,fun j v hj=>h j v (by simpa[U32]using hj)⟩⟩
theorem qIk(l:List Nat)(hl:∀x∈l,x<4294967296)(k:Nat)(hk:k≤l.length):val l / 2^(32*k)=val (l.drop k):=by
 have h1:(2:Nat)^(32*k)=4294967296^k:=by rw[Nat.pow_mul]
 have h2:val (l.take k)<4294967296^k:=by
  have:=jU (l:=l.take k) fun x hx=>hl x (List.mem_of_mem_take hx);rwa[List.length_take,Nat.min_eq_left hk]at this
 rw[h1,wF l k,Nat.add_mul_div_left _ _ (Nat.pow_pos (by omega)),Nat.div_eq_of_lt h2,Nat.zero_add]
theorem xX{l:List Nat}{k:Nat}(hc:zQ l)(h:val l<4294967296^k):l.length≤k:=by
 by_cases h0:l=[]
 ·simp[h0]
 ·have h1:=wM hc h0;have h2:=(Nat.pow_lt_pow_iff_right (by omega:1<4294967296)).1 (Nat.lt_of_le_of_lt h1 h)
  omega
theorem zJj{l l2:List Nat}{x:Nat}(hc:zQ l)(h2:∀x∈l2,x<4294967296)(hx:x<val l2)(h:val l≤x+x+1):l.length≤l2.length+1:=by
 refine xX hc ?_;have:=jU h2;rw[Nat.pow_succ];omega
theorem qKc{l l2:List Nat}{N:Nat}(hl:∀x∈l,x<4294967296)(hc:zQ l2)(h0:0<val l2)(hN:l.length+1=N+l2.length):val (l.drop N)<val l2:=by
 have hne:l2≠[]:=fun e=>by subst e;simp[val]at h0
 have h1:=wM hc hne;have h2:=jU (l:=l.drop N) fun x hx=>hl x (List.mem_of_mem_drop hx);rw[List.length_drop,show l.length-N=l2.length-1 by omega]at h2
 omega
theorem qMy{l:List Nat}(h:0<val l):0<l.length:=by
 cases l with
 | nil=>simp[val]at h
 | cons a b=>simp
theorem qYz{l l2:List Nat}(hl:∀x∈l,x<4294967296)(hc:zQ l2)(h:l.length<l2.length):val l<val l2:=by
 refine Nat.lt_of_not_le fun e=>?_;have:=zU hl hc e;omega
structure GE(α:Type)where
 x:α
 cs:List Value
section
variable {α:Type}{El:Rd→Addr→α→Prop}{size:Nat}
def GE.ok(El:Rd→Addr→α→Prop)(size:Nat)(r:Rd)(e:GE α):Prop:=e.cs.length=size∧∀r',Le r r'→∀b o,At r' ⟨b,o,none⟩ e.cs→El r' ⟨b,o,none⟩ e.x
theorem GE.ok.mono{r r':Rd}{e:GE α}(h:GE.ok El size r e)(k:Le r r'):GE.ok El size r' e:=⟨h.1,fun r2 h2=>h.2 r2 (k.trans h2)⟩
def qPo:List (GE α)→List Value
 | []=>[]
 | e::l=>e.cs++qPo l
end
section
variable {w0 w:World}{X Y:Hid}{rb A B:List (Nat×Obj)}{e:TypeId}{size m cap:Nat}{ad:Option Addr}{N:Nat}
theorem At.orN{b o:Nat}{vs:List Value}(h:At (rd w Y) ⟨b,o,none⟩ vs)(hb:N≤b):At (rd w (orN Y N)) ⟨b,o,none⟩ vs:=fun j v hj=>by
 have h1:=h j v hj;rw[qJ]at *;exact vR (qU h1) (fun hy=>hy.elim (yK h1) fun hy=>by simp only at hy;omega) (tJ h1)
end
def zOi(r:Rd)(a:Addr)(xs:List Raw):Prop:=∃a1 a2 a3,At r a [.slice a1 a2 a3]∧bZ r a1 a2 a3 xs
theorem zOi.mono(r r':Rd)(a:Addr)(x:List Raw)(k:Le r r')(h:zOi r a x):zOi r' a x:=by
 obtain⟨a1,a2,a3,h1,h2⟩:=h;exact⟨a1,a2,a3,h1.mono k,h2.mono k⟩
def zOj:=SlR zOi 1
theorem zOj.mono{r r':Rd}{ad:Option Addr}{len cap:Nat}{xs:List (List Raw)}(h:zOj r ad len cap xs)(k:Le r r'):zOj r' ad len cap xs:=SlR.mono zOi.mono h k
theorem zOj.at{r:Rd}{b off len cap:Nat}{xs:List (List Raw)}(h:zOj r (some ⟨b,off,none⟩) len cap xs){k:Nat}(hk:k<len):∃x a1 a2 a3,xs[k]?=some x∧At r ⟨b,off+k,none⟩ [.slice a1 a2 a3]∧bZ r a1 a2 a3 x:=by
 obtain⟨x,h1,a1,a2,a3,h2,h3⟩:=SlR.at h hk;exact⟨x,a1,a2,a3,h1,by simpa using h2,h3⟩
section
variable {d:Raw}{v:List Raw}{acc:List (List Raw)}{ss:List (List wK)}{s:List wK}{k:Nat}
end
def Raw.sh(x:Raw):Prop:=x.ln.length*4≤140737488351232∧x.ld.length*4≤140737488351232
def Out.sh(o:Out):Prop:=o.p.sh
def wK.sh(a:wK):Prop:=a.cost.sh∧a.next.length*64≤140737488351232∧∀o∈a.next,o.sh
def stSh(s:List wK):Prop:=s.length*80≤140737488351232∧∀a∈s,a.sh
def Mdp.sh(m:Mdp):Prop:=m.disc.sh∧m.states.length*24≤140737488351232∧∀s∈m.states,stSh s
theorem fV.cell{r:Rd}{b off len cap:Nat}{xs:List (List wK)}(h:fZ r (some ⟨b,off,none⟩) len cap xs){k:Nat}(hk:k<len):∃x a1 a2 a3,xs[k]?=some x∧At r ⟨b,off+k,none⟩ [.slice a1 a2 a3]∧zDz r a1 a2 a3 x:=by
 obtain⟨x,a1,a2,a3,h1,h2,h3⟩:=h.at hk;exact⟨x,a1,a2,a3,h1,by simpa using h2,h3⟩
end Go.Gv
namespace Go.Gv
open Go.RowKit IntKind
def zTw:Value→Bool
 | .int _ _=>false
 | _=>true
structure Ov(N:Nat)(a w:World):Prop where
 os:w.os=a.os
 tape:w.tape=a.tape
 output:w.output=a.output
 size:a.heap.size≤w.heap.size
 block:∀k,k<N→w.heap[k]?=a.heap[k]?
 keep:∀p v,a.cell? p=some v→zTw v=true→w.cell? p=some v
 ints:∀p kd x,a.cell? p=some (.int kd x)→∃y,w.cell? p=some (.int kd y)
 frz:∀p v,a.cell? p=some v→w.frozen? p=a.frozen? p
section
variable {N:Nat}{a b c w:World}
theorem Ov.refl(N:Nat)(a:World):Ov N a a:=⟨rfl,rfl,rfl,Nat.le_refl _,fun _ _=>rfl,fun _ _ h _=>h,fun _ _ x h=>⟨x,h⟩,fun _ _ _=>rfl⟩
theorem Ov.some(h:Ov N a b){p:Addr}{v:Value}(hp:a.cell? p=some v):∃u,b.cell? p=some u:=by
 cases v with
 | int kd x=>obtain⟨y,hy⟩:=h.ints p kd x hp;exact⟨_,hy⟩
 | _=>exact⟨_,h.keep p _ hp rfl⟩
theorem Ov.trans(h:Ov N a b)(k:Ov N b c):Ov N a c:=
 ⟨k.os.trans h.os,k.tape.trans h.tape,k.output.trans h.output,Nat.le_trans h.size k.size,fun i hi=>(k.block i hi).trans (h.block i hi),fun p v hp hv=>k.keep p v (h.keep p v hp hv) hv,
  fun p kd x hp=>by obtain⟨y,hy⟩:=h.ints p kd x hp;exact k.ints p kd y hy,fun p v hp=>by obtain⟨u,hu⟩:=h.some hp;exact(k.frz p u hu).trans (h.frz p v hp)⟩
theorem Ov.upd(h:Upd E0 a b)(hN:N≤a.heap.size):Ov N a b:=by
 have hb:∀p v,a.cell? p=Option.some v→b.heap[p.block]?=a.heap[p.block]?:=fun p v hp=>h.block _ (World.block_lt_of_cell? a p hp) (fun e=>e);exact⟨h.os,h.tape,h.output,h.size,fun k hk=>h.block k (by omega) (fun e=>e),fun p v hp _=>h.cell hp,fun p kd x hp=>⟨x,h.cell hp⟩,fun p v hp=>World.frozen?_of_block (hb p v hp)⟩
theorem Ov.cells(h:Ov N a b){p:Addr}{vs:List Value}(k:qH a p vs)(hv:vs.all zTw=true):qH b p vs:=fun j v hj=>h.keep _ _ (k j v hj) (List.all_eq_true.1 hv v (List.mem_of_getElem? hj))
def UC(kd:IntKind)(w:World)(N:Nat)(ad:Option Addr)(len:Nat):Prop:=∀j,j<len→∃blk off x,ad=Option.some ⟨blk,off,none⟩∧N≤blk∧w.cell? ⟨blk,off+j,none⟩=Option.some (.int kd x)∧w.frozen? ⟨blk,off+j,none⟩=false
theorem UC.up{kd:IntKind}{ad:Option Addr}{len:Nat}(h:UC kd a N ad len)(k:Ov N a b):UC kd b N ad len:=fun j hj=>by
 obtain⟨blk,off,x,e,h1,h2,h3⟩:=h j hj;obtain⟨y,hy⟩:=k.ints _ _ _ h2;exact⟨blk,off,y,e,h1,hy,(k.frz _ _ h2).trans h3⟩
theorem zL.uc{ad:Option Addr}{len cap:Nat}{l:List Nat}(h:zL (rd w (fun k _=>k<N)) ad len cap l):UC .u32 w N ad len:=fun j hj=>by
 have hl:=h.hlen;obtain⟨blk,off,rfl,hat⟩:=h.addr (by omega)
 have h1:=hat j _ (zFa (by omega))
 rw[qJ]at h1;exact⟨blk,off,_,rfl,Nat.not_lt.1 (yK h1),qU h1,tJ h1⟩
theorem qAu.uc{ad:Option Addr}{len cap:Nat}{l:List Int}(h:qAu (rd w (fun k _=>k<N)) ad len cap l):UC .i64 w N ad len:=fun j hj=>by
 obtain⟨blk,off,x,rfl,_,hat⟩:=SlR.cell h hj;have h1:=hat 0 _ rfl;rw[qJ,Nat.mul_one,Nat.add_zero]at h1;exact⟨blk,off,_,rfl,Nat.not_lt.1 (yK h1),qU h1,tJ h1⟩
def RC(w:World)(N:Nat)(ad:Option Addr)(len:Nat):Prop:=∀j,j<len→∃blk off s a1 a2 a3 a4 a5 a6,ad=Option.some ⟨blk,off,none⟩∧qH w ⟨blk,off+j*3,none⟩ [.bool s,.slice a1 a2 a3,.slice a4 a5 a6]∧UC .u32 w N a1 a2∧UC .u32 w N a4 a5∧a2≤9223372036854775807∧a5≤9223372036854775807
theorem RC.up{ad:Option Addr}{len:Nat}(h:RC a N ad len)(k:Ov N a b):RC b N ad len:=fun j hj=>by
 obtain⟨blk,off,s,a1,a2,a3,a4,a5,a6,e,h1,h2,h3,h4⟩:=h j hj;exact⟨blk,off,s,a1,a2,a3,a4,a5,a6,e,k.cells h1 rfl,h2.up k,h3.up k,h4⟩
theorem Ov.set{kd:IntKind}{blk o:Nat}{x y:Int}(h:w.cell? ⟨blk,o,none⟩=Option.some (.int kd x))(hN:N≤blk):Ov N w (w.setCell ⟨blk,o,none⟩ (.int kd y)):=by
 refine⟨rfl,rfl,rfl,by simp,fun k hk=>heap_setCell_other w _ k _ (by simp only;omega),fun p v hp hv=>?_,fun p kd' x' hp=>?_,fun p v _=>by simp⟩
 ·rw[World.cell?_setCell_other]
  ·exact hp
  ·rintro rfl;rw[h]at hp;cases hp;cases hv
 ·by_cases e:(⟨blk,o,none⟩:Addr)=p
  ·subst e;rw[h]at hp;cases hp;exact⟨y,World.cell?_setCell_same _ _ _ h⟩
  ·exact⟨x',by rw[World.cell?_setCell_other _ _ _ _ e];exact hp⟩
theorem Ov.le{Y:Hid}{w0:World}(h0:Upd E0 w0 a)(h:Ov w0.heap.size a b):Le (rd w0 Y) (rd b Y):=fun p v e=>by
 have hlt:=World.block_lt_of_cell? w0 p (qU e);exact lF e ((h.block p.block hlt).trans (h0.block p.block hlt (fun e=>e))) (yK e)
theorem Ov.upd0{w0:World}(h0:Upd E0 w0 a)(h:Ov N a b)(hN:w0.heap.size≤N):Upd E0 w0 b:=
 ⟨h.os.trans h0.os,h.tape.trans h0.tape,h.output.trans h0.output,Nat.le_trans h0.size h.size,fun k hk _=>(h.block k (by omega)).trans (h0.block k hk (fun e=>e))⟩
theorem St.over{w0 wr wc we:World}{X Y Yc:Hid}{M:List (Nat×Obj)}(hr:St E0 w0 X wr Y M)(hc:St E0 w0 X wc Yc M)(hle:Le (rd wr Y) (rd wc Yc))(hs:wr.heap.size≤wc.heap.size)(hO:Ov wr.heap.size wc we):St E0 w0 X we Y M∧Le (rd wr Y) (rd we Y):=by
 refine⟨⟨hO.upd0 hc.upd hr.upd.size,fun k o hy=>?_,hr.hid,fun p hp=>?_,hr.nd,hr.ltX⟩,fun p v e=>?_⟩
 ·exact Nat.lt_of_lt_of_le (hr.lt k o hy) (Nat.le_trans hs hO.size)
 ·obtain⟨h1,h2,h3⟩:=hr.own p hp;obtain⟨g1,_,_⟩:=hc.own p hp;have hlt:=(Array.getElem?_eq_some_iff.1 h1).1;exact⟨(hO.block p.1 hlt).trans g1,h2,h3⟩
 ·have hlt:=World.block_lt_of_cell? wr p (qU e);exact lF (hle p v e) (hO.block p.block hlt) (yK e)
end
attribute [local semireducible] Go
section
variable {r:Option Nat}{m:Nat}{P:Program}{Q:Exit→Act→World→Prop}{n:Nat}{D:List Deferred}{w:World}{c:Cf}
theorem zst{blk o:Nat}{x y:Value}(hx:w.cell? ⟨blk,o,none⟩=some x)(hf:w.frozen? ⟨blk,o,none⟩=false)(k:Go r m P Q n D (w.setCell ⟨blk,o,none⟩ y) (n0 c))
  (hc:qKy n c=true:=by kernel_rfl) (ho:(cop c).op= .store (stT (cop c)) (stA (cop c)) (stV (cop c)):=by kernel_rfl) (ha:evL c.L (stA (cop c))= .pointer (some ⟨blk,o,none⟩):=by kernel_rfl) (hv:evL c.L (stV (cop c))=y:=by kernel_rfl)
  (ht:ldT P (stT (cop c))=some (zMj P (stT (cop c)),1):=by kernel_rfl) (hy:y.cells.toList=[y]:=by kernel_rfl) (h1:y.oneCell'=true:=by kernel_rfl):Go r m P Q n D w c:=by
 simp only[qKy,Bool.and_eq_true]at hc;have J1:=hc.1;simp only[zEt,Bool.and_eq_true]at J1;have hsz:y.cells.size=1:=by rw[←Array.length_toList,hy];rfl
 refine zRz hc.1 fun a hF=>?_;have hd:(cop c).dst=none:=by have:=hc.2;cases h:(cop c).dst<;>simp_all
 have hr:(storeCells ⟨blk,o,none⟩ y.cells.toList 0).run P w= .ok () (w.setCell ⟨blk,o,none⟩ y):=by
  rw[hy];unfold storeCells;rw[add_zero,Sem.run_bind,run_store P w _ y .plain h1];simp only[hx,hf];rfl
 unfold Oper.wp;rw[hF.exec J1.2.2.2];unfold execOp;simp only[ho,ha,hv,Instr.storeAt,Instr.sureAddr,storeVar,Sem.run_bind,Sem.run_pure,Result.andThen_ok,run_sizeOf ht,hsz,ne_eq,not_true_eq_false,if_false,hr];show wpListIn (FF r) m P (zSt c) (QQ r m P Q c.k) (zPc c) (a.put (cop c).dst undef) _;rw[hd];exact k a hF
theorem zcF{f:FuncId}{vs:Array Value}{Φ:World→Value→Prop}(hcon:Calls P f vs w (fun e w'=>∃v,e= .returned v∧Φ w' v))(k:∀v w1,Φ w1 v→Go r m P Q n D w1 (nv c v))
  (hv:clV c=some (f,vs):=by kernel_rfl) (hc:isv n c=true:=by kernel_rfl) (ho:(cop c).op= .call {callee:= .value (clF (cop c)),args:=clA (cop c),argTypes:=clT (cop c)}:=by kernel_rfl)
  (hcall:∀w,(callFunc f vs).run P w= .ok (.enter f vs) w:=by intro w;kernel_rfl):Go r m P Q n D w c:=by
 obtain⟨cap,hf,ha⟩:=zGd hv;exact zRz (xN hc).1 fun _ hF=>qFv hF (xN hc).2 ho hf ha hcall hcon fun v w1 h1 a1 Z1=>(zQl c v▸k v w1 h1:Go r m P Q n D w1 (nv0 c v)) a1 Z1
end
end Go.Gv
namespace Go.Gv
open Go.RowKit IntKind
def far(m x:Raw):Raw:=if qKo x m=true then x else m
section
variable {r x y:Raw}{xs ys:List Raw}{k:Nat}
end
def inB(S:List Bool)(i:Nat):Prop:=S.getD i false=true
structure Rt(m:Mdp)(S0 S:List Bool)(t:Nat):Prop where
 len:S.length=m.states.length
 up:∀i,inB S0 i→inB S i
 done:∀u,u<t→inB S0 u→∀a∈m.states.getD u [],∀o∈a.next,inB S o.to.toNat
 min:∀C:Int→Prop,zCl m C→(∀i:Nat,inB S0 i→C i)→∀i:Nat,inB S i→C i
structure Rr(m:Mdp)(s:Int)(S:List Bool)(k:Nat):Prop where
 len:S.length=m.states.length
 self:inB S s.toNat
 min:∀C:Int→Prop,zCl m C→C s→∀i:Nat,inB S i→C i
 fin:(∀t,inB S t→∀a∈m.states.getD t [],∀o∈a.next,inB S o.to.toNat)∨kP S+k+1≤m.states.length
theorem qTz{S:List Bool}{i:Nat}(h:inB S i):i<S.length:=getD_lt h
theorem zLh:∀{l l':List Bool}{i:Nat},l.length=l'.length→(∀i:Nat,inB l i→inB l' i)→inB l' i→¬inB l i→kP l'<kP l
 | [],[],i,_,_,h,_=>by simp[inB]at h
 | [],_::_,_,h,_,_,_=>by simp at h
 | _::_,[],_,h,_,_,_=>by simp at h
 | b::l,b'::l',0,hl,hu,h1,h2=>by
  simp only[inB,List.getD_cons_zero]at h1 h2;have:=fM (l:=l) (l':=l') (by simpa using hl) (fun i hx=>by simpa[inB]using hu (i+1) (by simpa[inB]using hx))
  subst h1;cases b
  ·simp only[kP];simp;omega
  ·exact absurd rfl h2
 | b::l,b'::l',i+1,hl,hu,h1,h2=>by
  have ih:=zLh (l:=l) (l':=l') (i:=i) (by simpa using hl) (fun i hx=>by simpa[inB]using hu (i+1) (by simpa[inB]using hx)) (by simpa[inB]using h1) (by simpa[inB]using h2)
  have h0:=hu 0;simp only[inB,List.getD_cons_zero]at h0;simp only[kP];cases b
  ·cases b'<;>simp<;>omega
  ·rw[h0 rfl];simp;omega
section
variable {m:Mdp}{S0 S:List Bool}{s:Int}{t k:Nat}
theorem Rt.start(h:S.length=m.states.length):Rt m S S 0:=⟨h,fun _ h=>h,fun _ h=>absurd h (Nat.not_lt_zero _),fun _ _ h=>h⟩
theorem Rt.set{x:wK}{o:Out}(h:Rt m S0 S t)(ht:t<m.states.length)(hs:inB S t)(hx:x∈m.states.getD t [])(ho:o∈x.next)(h0:0≤o.to∧o.to<m.states.length):Rt m S0 (S.set o.to.toNat true) t:=by
 have hk:o.to.toNat<S.length:=by rw[h.len];omega
 have hset:∀i,inB (S.set o.to.toNat true) i↔inB S i∨i=o.to.toNat:=fun i=>nV hk;refine⟨by rw[List.length_set];exact h.len,fun i hi=>(hset i).2 (.inl (h.up i hi)),fun u hu hi a ha o' ho'=>(hset _).2 (.inl (h.done u hu hi a ha o' ho')),fun C hC hI i hi=>?_⟩
 rcases(hset i).1 hi with h1 | h1
 ·exact h.min C hC hI i h1
 ·subst h1;have hct:C (t:Int):=h.min C hC hI t hs;have:=hC t (by omega) (by omega) hct x (by simpa using hx) o ho
  rwa[Int.toNat_of_nonneg h0.1]
theorem qDu{j:Nat}(h:j<S.length):inB (S.set j true) j:=(nV h).2 (.inr rfl)
theorem Rt.next(h:Rt m S0 S t)(hd:inB S0 t→∀a∈m.states.getD t [],∀o∈a.next,inB S o.to.toNat):Rt m S0 S (t+1):=
 ⟨h.len,h.up,fun u hu hi=>by
  rcases Nat.lt_or_ge u t with h1 | h1
  ·exact h.done u h1 hi
  ·obtain rfl:u=t:=by omega
   exact hd hi,h.min⟩
theorem Rr.start(h0:0≤s)(h1:s<m.states.length):Rr m s ((List.replicate m.states.length false).set s.toNat true) 0:=by
 have hk:s.toNat<(List.replicate m.states.length false).length:=by simp;omega
 have hrep:∀i:Nat,¬inB (List.replicate m.states.length false) i:=fun i=>by
  unfold inB;rw[List.getD_eq_getElem?_getD,List.getElem?_replicate];split<;>simp
 have hset:∀i,inB ((List.replicate m.states.length false).set s.toNat true) i↔inB (List.replicate m.states.length false) i∨i=s.toNat:=fun i=>nV hk;have hu:kP (List.replicate m.states.length false)≤m.states.length:=by
  have:∀n,kP (List.replicate n false)≤n:=by
   intro n;induction n with
   | zero=>exact Nat.le_refl _
   | succ n ih=>rw[List.replicate_succ,kP];simp;omega
  exact this _
 have hlt:=zIf hk (by have:=hrep s.toNat;unfold inB at this;simpa using this)
 refine⟨by simp,qDu hk,fun C _ hs i hi=>?_,.inr (by omega)⟩
 rcases(hset i).1 hi with h2 | h2
 ·exact absurd h2 (hrep i)
 ·subst h2;rwa[Int.toNat_of_nonneg h0]
theorem Rr.round(h:Rr m s S0 k)(hto:∀t,t<m.states.length→∀a∈m.states.getD t [],∀o∈a.next,0≤o.to∧o.to<m.states.length)(h0:0≤s)(hr:Rt m S0 S m.states.length):Rr m s S (k+1):=by
 have hmin:∀C:Int→Prop,zCl m C→C s→∀i:Nat,inB S i→C i:=fun C hC hs=>hr.min C hC (h.min C hC hs);refine⟨hr.len,hr.up _ h.self,hmin,?_⟩;by_cases hsame:∀i,inB S i→inB S0 i
 ·exact .inl fun t ht a ha o ho=>hr.done t (by rw[←hr.len];exact qTz ht) (hsame t ht) a ha o ho
 ·obtain⟨i,hi⟩:=Classical.not_forall.1 hsame;obtain⟨h1,h2⟩:=Classical.not_imp.1 hi;rcases h.fin with hc | hc
  ·exfalso;refine h2 ?_;have hC:zCl m (fun x=>0≤x∧inB S0 x.toNat):=fun t F0 F1 ht a ha o ho=>by
    refine⟨(hto t.toNat (by omega) a ha o ho).1,hc t.toNat ht.2 a ha o ho⟩
   have:=hmin _ hC ⟨h0,h.self⟩ i h1;simpa using this.2
  ·have:=zLh (l:=S0) (l':=S) (by rw[h.len,hr.len]) hr.up h1 h2
   exact .inr (by omega)
end
attribute [local semireducible] Go
end Go.Gv
namespace Go.Gv
open Go Go.Instr IntKind
def ents:List (Int×Value)→Nat→List MapEntry
 | [],_=>[]
 | p::l,b=>{key:= .int .i64 p.1,val:=p.2,born:=b}::ents l (b+1)
def fnd(z:Int):List (Int×Value)→Nat→Option (Nat×Value)
 | [],_=>none
 | p::l,i=>bif z==p.1 then some (i,p.2)else fnd z l (i+1)
def bI(z:Int)(v:Value):List (Int×Value)→List (Int×Value)
 | []=>[(z,v)]
 | p::l=>bif z==p.1 then(z,v)::l else p::bI z v l
def xR(l:List (Int×Value)):Obj:= .map (ents l 0).toArray l.length
def jY(z:Int)(l:List (Int×Value))(zero:Value):Value:=match fnd z l 0 with
 | some (_,v)=>v
 | none=>zero
section
variable {P:Program}{w:World}{T K V:TypeId}{r:Nat}{l:List (Int×Value)}{z:Int}{zero:Value}
end
section
variable {P:Program}{K:Act→World→Prop}{a:Act}{w w0:World}{o:Oper}{n d:Nat}{L:List (Nat×Value)}{D:List Deferred}{E:Nat→Prop}{X Y:Hid}{M:List (Nat×Obj)}{Q:Exit→Act→World→Prop}
end
end Go.Gv
namespace Go.Gv
open Go.RowKit IntKind
def grd(p:Prop)[Decidable p]{α:Type}(x:Option α):Option α:=if p then x else none
def ix{α:Type}(l:List α)(i:Int):Option α:=if 0≤i then l[i.toNat]? else none
def lt{α β:Type}(a:α)(f:α→β):β:=f a
section
variable {A B C D E F G H R:Type}{y:R}
end
section
variable {α:Type}{El:Rd→Addr→α→Prop}{size:Nat}{r:Rd}{ad:Option Addr}{b off len cap:Nat}{xs:List α}{k:Nat}{x:α}
theorem bZ.sl{xs:List Raw}(h:bZ r ad len cap xs):SlR zOg 3 r ad len cap xs:=⟨h.hlen,h.hcap,h.hbig,h.hat⟩
def qPb(r:Rd)(a:Addr)(x:Nat):Prop:=At r a [.int .u32 (x:Int)]
theorem zL.sl{xs:List Nat}(h:zL r ad len cap xs):SlR qPb 1 r ad len cap xs:=by
 refine⟨h.hlen,h.hcap,h.hbig,h.hat.imp id fun⟨b,off,e,ha⟩=>⟨b,off,e,fun i x hi j v hj=>?_⟩⟩;rcases j with _ | j
 ·simp at hj;subst hj;have:=ha i (.int .u32 (x:Int)) (by simp[U32,hi])
  simpa[qJ]using this
 ·simp at hj
theorem At.sub{vs:List Value}(h:At r ⟨b,off,none⟩ vs)(n m:Nat):At r ⟨b,off+n,none⟩ ((vs.drop n).take m):=fun j v hj=>by
 rw[List.getElem?_take]at hj;split at hj
 ·rw[List.getElem?_drop]at hj;have:=h (n+j) v hj;rw[qJ]at *;rwa[←Nat.add_assoc]at this
 ·cases hj
end
def GE.okC{α:Type}(Cl:Rd→List Value→α→Prop)(size:Nat)(r:Rd)(e:GE α):Prop:=e.cs.length=size∧∀r',Le r r'→Cl r' e.cs e.x
theorem GE.okC.mono{α:Type}{Cl:Rd→List Value→α→Prop}{size:Nat}{r r':Rd}{e:GE α}(h:GE.okC Cl size r e)(k:Le r r'):GE.okC Cl size r' e:=⟨h.1,fun r2 h2=>h.2 r2 (k.trans h2)⟩
theorem GE.okC.ok{α:Type}{Cl:Rd→List Value→α→Prop}{El:Rd→Addr→α→Prop}{size:Nat}{r:Rd}{e:GE α}(h:GE.okC Cl size r e)(hE:∀r a cs x,Cl r cs x→At r a cs→El r a x):GE.ok El size r e:=⟨h.1,fun r2 h2 _ _ hat=>hE _ _ _ _ (h.2 r2 h2) hat⟩
def zSf{α:Type}(Cl:Rd→List Value→α→Prop)(T:TypeId)(size:Nat)(r:Rd)(rb:List (Nat×Obj))(ad:Option Addr)(m cap:Nat)(L:List α):Prop:=
 ∃es:List (GE α),sI T size rb ad m cap (qPo es)∧es.map (·.x)=L∧(∀e∈es,GE.okC Cl size r e)∧m=es.length
section
variable {α:Type}{Cl:Rd→List Value→α→Prop}{El:Rd→Addr→α→Prop}{T:TypeId}{size:Nat}{r r':Rd}{rb:List (Nat×Obj)}{ad:Option Addr}{m cap:Nat}{L:List α}
theorem zSf.nil:zSf Cl T size r [] none 0 0 []:=⟨[],sI.nil _ _,rfl,by simp,rfl⟩
theorem zSf.mono(h:zSf Cl T size r rb ad m cap L)(k:Le r r'):zSf Cl T size r' rb ad m cap L:=by
 obtain⟨es,h1,h2,h3,h4⟩:=h;exact⟨es,h1,h2,fun e he=>(h3 e he).mono k,h4⟩
theorem zSf.len(h:zSf Cl T size r rb ad m cap L):m=L.length:=by
 obtain⟨es,h1,h2,h3,h4⟩:=h;rw[←h2,List.length_map];exact h4
variable {w0 w:World}{X Y:Hid}{A B:List (Nat×Obj)}{N:Nat}
end
section
variable {α:Type}{El:Rd→Addr→α→Prop}{size:Nat}{r:Rd}{w0 w:World}{X Y:Hid}{M:List (Nat×Obj)}
theorem St.sub{E:Nat→Prop}{M':List (Nat×Obj)}(h:St E w0 X w Y M)(hs:M'.Sublist M):St E w0 X w Y M':=
 ⟨h.upd,h.lt,h.hid,fun p hp=>h.own p (hs.subset hp),(hs.map _).nodup h.nd,h.ltX⟩
end
def adM(ad:Option Addr)(cap k m:Nat):Option Addr:=if cap=k then ad else ad.map (·.add (k*m))
section
variable {α:Type}{El:Rd→Addr→α→Prop}{size:Nat}{r:Rd}{ad:Option Addr}{len cap:Nat}{xs:List α}
theorem SlR.cut(h:SlR El size r ad len cap xs){k n:Nat}(hk:k≤n)(hn:n≤len):SlR El size r (adM ad cap k size) (n-k) (cap-k) ((xs.take n).drop k):=by
 have h1:=h.hlen;have h2:=h.hcap;have h3:=h.hbig;refine⟨by simp;omega,by omega,by omega,?_⟩
 unfold adM;split
 ·exact .inl (List.drop_eq_nil_of_le (by simp;omega))
 ·rcases h.hat with h4 | ⟨b,off,e,ha⟩
  ·exact .inl (by rw[h4];simp)
  ·refine .inr ⟨b,off+k*size,by rw[e];simp[Addr.add],fun i x hi=>?_⟩
   rw[List.getElem?_drop,List.getElem?_take]at hi;split at hi
   ·have:=ha (k+i) x hi;rwa[Nat.add_mul,←Nat.add_assoc]at this
   ·cases hi
variable {P:Program}{ρ:Operand→Value}{o:Oper}{t e:TypeId}{x:Operand}{kd kd2:IntKind}{g:Bool}{i j:Int}{m:Nat}
end
def qOi(_:Rd)(cs:List Value)(x:Int):Prop:=cs=[.int .i64 x]
theorem qOi.at(r:Rd)(a:Addr)(cs:List Value)(x:Int)(h:qOi r cs x)(k:At r a cs):zEa r a x:=by subst h;exact k
def qPc(_:Rd)(cs:List Value)(x:Nat):Prop:=cs=[.int .u32 (x:Int)]
theorem qPc.at(r:Rd)(a:Addr)(cs:List Value)(x:Nat)(h:qPc r cs x)(k:At r a cs):qPb r a x:=by subst h;exact k
def qAp(_:Rd)(cs:List Value)(x:Bool):Prop:=cs=[.bool x]
theorem qAp.at(r:Rd)(a:Addr)(cs:List Value)(x:Bool)(h:qAp r cs x)(k:At r a cs):At r a [.bool x]:=by subst h;exact k
theorem zEa.at{r:Rd}{a:Addr}{x:Int}(h:zEa r a x):At r a [.int .i64 x]:=h
end Go.Gv
namespace Go.Proofs.YtdfmdiakjdggbaaGreatDoor
open Go Go.Gv Go.RowKit IntKind
set_option maxRecDepth 100000
set_option maxHeartbeats 1000000
theorem zAj(w:World)(X:Hid)(hX:∀k o,X k o→k<w.heap.size)(ad:Option Addr)(len cap:Nat)(l:List Nat)(h:zL (rd w X) ad len cap l):
    Calls Tryz.prog 235 #[.slice ad len cap] w (Ret E0 w fun _ v=>v= .slice ad (qK l) cap):=by
 obtain rfl:=h.hlen;have hl:=h.hlen;have hcap:=h.hcap;have hbig:=h.hbig;refine zen Tryz.func235 ?_;have G0:St E0 w X w X []:=St.start hX;refine zz 7<|zlp Tryz.f235 [] [1,0,0] (fun(k:Nat)=>[(0,.slice ad k cap)]) (fun(k:Nat)w1=>∃(Y1:Hid),St E0 w X w1 Y1 []∧Le (rd w X) (rd w1 Y1)∧(k≤l.length)∧(yM l k=yM l l.length)) (fun(k:Nat)=>k) l.length ?_ ?_
 ·
  refine⟨_,G0,Le.refl _,Nat.le_refl _,rfl⟩
 rintro k w2 K2 hK2 ⟨Y2,G2,C2,hp2_0,hp2_1⟩;have hk:=hp2_0;have ht:=hp2_1;refine zz 7<|zt 6 (p:=(k:Int)>0) (fun F3=>?_) (fun F3=>?_)
 ·
  obtain⟨bk4,of5,rfl,_⟩:=h.addr (by omega)
  have hcell:=(h.cell (i:=k-1) (by omega))
  refine zz 4<|zw 10 (x:=(k:Int)-1)<|zi (b:=bk4) (off:=of5) (len:=k) (cap:=cap) (kd:= .i64) (i:=(k:Int)-1) 1 (of5+(k-1)) ?_ (hoff:=(by first | omega | (simp;done) | (simp;omega)))
  refine zl ((hcell.mono C2)).cells<|zz 4<|zb 14 (b:=(((l.getD (k-1) 0:Nat):Int)==0)) (fun J6=>?_) (fun J6=>?_)
  ·
   have F7:((l.getD (k-1) 0:Nat):Int)=0:=by simpa using J6
   have hk2:=zEl (l:=l) (k:=k) (by omega) (by omega)
   refine zz 9<|zw 18 (x:=(k:Int)-1)<|zop (at1 [K2] Tryz.f235 [1,0,0,0,1,0]) 4 (fun a8 _ Z8 hz8=>zF (d:=19) (v:= .slice (some ⟨bk4,of5,none⟩) (k-1) cap) Z8 kr (zBy (t:=26) (e:=214) (ad:=(some ⟨bk4,of5,none⟩)) (len:=k) (cap:=cap) (kd:= .i64) (i:=(k:Int)-1) (h':=(k-1)) (g:=false) (m:=1) rfl kr kr kr kr (by omega) (by omega) (by first | omega | (simp;done) | (simp;omega)) _) ?_)
   intro a9 Z9;refine hz8 Z9<|zz 3 ?_;refine yE (fun a h=>hK2 (k-1) _ a h ⟨_,G2,C2,by omega,by omega⟩ ?_)
   first | omega | (simp<;>omega)
  have F10:((l.getD (k-1) 0:Nat):Int)≠0:=by simpa using J6
  have hk2:=zEk (l:=l) (k:=k) (by omega) (by omega)
  refine zz 13<|zr' (v:= .slice (some ⟨bk4,of5,none⟩) k cap) ?_;exact⟨G2.upd,_,rfl,by unfold qK;first | rw[←ht,hk2] | rw[←ht];rfl⟩
 obtain rfl:k=0:=by omega
 refine zz 23<|zr' (v:= .slice ad 0 cap) ?_;exact⟨G2.upd,_,rfl,by unfold qK;first | rw[←ht,hk2] | rw[←ht];rfl⟩
section
variable (w:World)(X:Hid)(hX:∀k o,X k o→k<w.heap.size)
set_option maxHeartbeats 1000000
include hX in
theorem zKc(x:Int):Calls Tryz.prog 234 #[.int .i64 x] w (Ret E0 w fun _ v=>v= .bool false):=by
 refine zen Tryz.func234 ?_;have G0:St E0 w X w X []:=St.start hX;refine zz 14<|zr' (v:= .bool ((x)!=x)) ?_;exact⟨G0.upd,_,rfl,by simp⟩
include hX in
theorem zBg(x:Int):Calls Tryz.prog 281 #[.int .u32 x] w (Ret E0 w fun _ v=>v= .bool false):=by
 refine zen Tryz.func281 ?_;have G0:St E0 w X w X []:=St.start hX;refine zz 14<|zr' (v:= .bool ((x)!=x)) ?_;exact⟨G0.upd,_,rfl,by simp⟩
def qF(x y:Int):Int:=if x<y then -1 else if x>y then 1 else 0
include hX in
theorem zPb(x y:Int):Calls Tryz.prog 171 #[.int .i64 x,.int .i64 y] w (Ret E0 w fun _ v=>v= .int .i64 (qF x y)):=by
 refine zen Tryz.func171 ?_;have G0:St E0 w X w X []:=St.start hX;refine zz 8<|zc G0 (zKc _ _ G0.lt x) ?_;rintro v3 w3 G3 C3 Q3 rfl;refine zz 6<|zc G3 (zKc _ _ G3.lt y) ?_;rintro v5 w5 G5 C5 Q5 rfl;refine zz 29<|zt 16 (p:=(x)<y) (fun F6=>?_) (fun F6=>?_);refine zz 8<|zr' (v:= .int .i64 (-1)) ?_;exact⟨G5.upd,_,rfl,zO (by unfold qF;(repeat' split)<;>omega)⟩
 refine zz 11<|zt 19 (p:=(x)>y) (fun F7=>?_) (fun F7=>?_);refine zz 8<|zr' (v:= .int .i64 1) ?_;exact⟨G5.upd,_,rfl,zO (by unfold qF;(repeat' split)<;>omega)⟩
 refine zz 9<|zr' (v:= .int .i64 0) ?_;exact⟨G5.upd,_,rfl,zO (by unfold qF;(repeat' split)<;>omega)⟩
include hX in
theorem zGf(x y:Int):Calls Tryz.prog 264 #[.int .u32 x,.int .u32 y] w (Ret E0 w fun _ v=>v= .int .i64 (qF x y)):=by
 refine zen Tryz.func264 ?_;have G0:St E0 w X w X []:=St.start hX;refine zz 8<|zc G0 (zBg _ _ G0.lt x) ?_;rintro v3 w3 G3 C3 Q3 rfl;refine zz 6<|zc G3 (zBg _ _ G3.lt y) ?_;rintro v5 w5 G5 C5 Q5 rfl;refine zz 29<|zt 16 (p:=(x)<y) (fun F6=>?_) (fun F6=>?_);refine zz 8<|zr' (v:= .int .i64 (-1)) ?_;exact⟨G5.upd,_,rfl,zO (by unfold qF;(repeat' split)<;>omega)⟩
 refine zz 11<|zt 19 (p:=(x)>y) (fun F7=>?_) (fun F7=>?_);refine zz 8<|zr' (v:= .int .i64 1) ?_;exact⟨G5.upd,_,rfl,zO (by unfold qF;(repeat' split)<;>omega)⟩
 refine zz 9<|zr' (v:= .int .i64 0) ?_;exact⟨G5.upd,_,rfl,zO (by unfold qF;(repeat' split)<;>omega)⟩
include hX in
theorem qYg(x y c:Int)(hx:0≤x∧x<4294967296)(hy:0≤y∧y<4294967296)(hc:0≤c∧c≤1):Calls Tryz.prog 283 #[.int .u32 x,.int .u32 y,.int .u32 c] w (Ret E0 w fun _ v=>v= .tuple #[.int .u32 ((x+y+c) % 4294967296),.int .u32 ((x+y+c) / 4294967296)]):=by
 refine zen Tryz.func283 ?_;have G0:St E0 w X w X []:=St.start hX;refine zz 10<|zs 10 (v:= .int .u64 (IntKind.u64.wrap (x))) (v':= .int .u64 x) (zO (wX (by omega) (by omega)))<|zz 2<|zs 12 (v:= .int .u64 (IntKind.u64.wrap (y))) (v':= .int .u64 y) (zO (wX (by omega) (by omega)))<|zz 1<|zs 13 (v:= .int .u64 (IntKind.u64.wrap ((x)+y))) (v':= .int .u64 ((x)+y)) (zO (wX (by omega) (by omega)))<|zz 2<|zs 15 (v:= .int .u64 (IntKind.u64.wrap (c))) (v':= .int .u64 c) (zO (wX (by omega) (by omega)))<|zz 1 ?_
 refine zs 16 (v:= .int .u64 (IntKind.u64.wrap (((x)+y)+c))) (v':= .int .u64 (((x)+y)+c)) (zO (wX (by omega) (by omega)))<|zz 7<|zs 18 (v:= .int .u32 (IntKind.u32.wrap (((x)+y)+c))) (v':= .int .u32 ((((x)+y)+c) % 4294967296)) (zO (yD _))<|zz 7<|zs 20 (v:= .int .u64 (Int.fdiv (((x)+y)+c) (2^32))) (v':= .int .u64 ((((x)+y)+c) / 4294967296)) (zO (vF _ 32 (by decide) (by decide)))<|zz 1<|zs 21 (v:= .int .u32 (IntKind.u32.wrap ((((x)+y)+c) / 4294967296))) (v':= .int .u32 (((x)+(y)+(c)) / 4294967296)) (zO (zVb (by omega) (by omega)))<|zz 4<|zr' (v:= .tuple #[.int .u32 ((((x)+y)+c) % 4294967296),.int .u32 (((x)+(y)+(c)) / 4294967296)]) ?_
 exact⟨G0.upd,_,rfl,by first | rfl | (congr 3;omega) | skip⟩
end
section
variable (w:World)(X:Hid)(hX:∀k o,X k o→k<w.heap.size)
set_option maxHeartbeats 1000000
include hX in
theorem qRd(x y c:Int)(hx:0≤x∧x<4294967296)(hy:0≤y∧y<4294967296)(hc:0≤c∧c≤1):Calls Tryz.prog 265 #[.int .u32 x,.int .u32 y,.int .u32 c] w (Ret E0 w fun _ v=>v= .tuple #[.int .u32 ((((x)-y) % 4294967296-c) % 4294967296),.int .u32 (if x<y+c then 1 else 0)]):=by
 refine zen Tryz.func265 ?_;have G0:St E0 w X w X []:=St.start hX;refine zz 11<|zs 10 (v:= .int .u32 (IntKind.u32.wrap ((x)-y))) (v':= .int .u32 (((x)-y) % 4294967296)) (zO (yD _))<|zz 2<|zs 12 (v:= .int .u32 (IntKind.u32.wrap ((((x)-y) % 4294967296)-c))) (v':= .int .u32 (((((x)-y) % 4294967296)-c) % 4294967296)) (zO (yD _))<|zz 17<|zs 24 (v:= .int .u32 (Int.fdiv (sK (vU (vC 4294967295 x) y) (vU (vC 4294967295 (vC x y)) (((((x)-y) % 4294967296)-c) % 4294967296))) (2^31))) (v':= .int .u32 ((sK (vU (vC 4294967295 x) y) (vU (vC 4294967295 (vC x y)) (((((x)-y) % 4294967296)-c) % 4294967296))) / 2147483648)) (zO (vF _ 31 (by decide) (by decide)))<|zz 4<|zr' (v:= .tuple #[.int .u32 (((((x)-y) % 4294967296)-c) % 4294967296),.int .u32 ((sK (vU (vC 4294967295 x) y) (vU (vC 4294967295 (vC x y)) (((((x)-y) % 4294967296)-c) % 4294967296))) / 2147483648)]) ?_
 exact⟨G0.upd,_,rfl,by
    obtain⟨xn,rfl⟩:=Int.eq_ofNat_of_zero_le hx.1;obtain⟨yn,rfl⟩:=Int.eq_ofNat_of_zero_le hy.1;obtain⟨cn,rfl⟩:=Int.eq_ofNat_of_zero_le hc.1;obtain⟨dn,hd⟩:=Int.eq_ofNat_of_zero_le (a:=(((xn:Int)-yn) % 4294967296-cn) % 4294967296) (by omega)
    have:=qAj xn yn cn dn (by omega) (by omega) (by omega) (by omega) hd.symm
    rw[hd,this]⟩
include hX in
theorem qGh(b off len cap:Nat)(es:List Int)(hlen:len=es.length)(hbig:es.length≤1000)(hat:At (rd w X) ⟨b,off,none⟩ (I64 es)):Calls Tryz.prog 81 #[.slice (some ⟨b,off,none⟩) len cap] w (Ret E0 w fun _ v=>v= .int .i64 (orL es)):=by
 refine zen Tryz.func81 ?_;have G0:St E0 w X w X []:=St.start hX;refine zz 19<|zlp Tryz.f81 [] [1,1,0,1,0] (fun(k:Nat)=>[(3,.int .i64 0),(6,.slice (some ⟨b,off,none⟩) len cap),(7,.int .i64 (len:Int)),(8,.int .i64 (k:Int))]) (fun(k:Nat)w1=>∃(Y1:Hid),St E0 w X w1 Y1 []∧Le (rd w X) (rd w1 Y1)∧(k≤es.length)∧(∀j,j<k→es.getD j 0=0)) (fun(k:Nat)=>es.length-k) 0 ?_ ?_;refine⟨_,G0,Le.refl _,Nat.zero_le _,fun j hj=>absurd hj (Nat.not_lt_zero j)⟩;rintro k w2 K2 hK2 ⟨Y2,G2,C2,hp2_0,hp2_1⟩;refine zz 6<|zt 9 (p:=(k:Int)<(len:Int)) (fun F3=>?_) (fun F3=>?_);have hcell:=(hat.one (qIv (l:=es) (i:=k) (by omega)))
 refine zz 7<|zi (b:=b) (off:=off) (len:=len) (cap:=cap) (kd:= .i64) (i:=(k:Int)) 1 (off+k)<|zl ((hcell.mono C2)).cells<|zz 10<|zb 14 (b:=((es.getD k 0)!=0)) (fun J4=>?_) (fun J4=>?_);have F5:(es.getD k 0)≠0:=by simpa using J4
 refine zz 13<|zr' (v:= .int .i64 (es.getD k 0)) ?_;exact⟨G2.upd,_,rfl,zO (by first | exact(zHi es (fun j hj=>hp2_1 j (by omega))).symm | exact(zUf es k (by omega) hp2_1 (by omega)).symm)⟩
 have F6:(es.getD k 0)=0:=by simpa using J4
 refine zz 6<|zw 16 (x:=(k:Int)+1)<|zz 2 ?_;refine yE (fun a h=>hK2 (k+1) _ a h ⟨_,G2,C2,by omega,fun j hj=>(by rcases Nat.lt_succ_iff_lt_or_eq.1 hj with h | h;exact hp2_1 j h;rw[h];omega)⟩ ?_)
 first | omega | (simp<;>omega)
 have hk:k=es.length:=by omega
 refine zz 13<|zr' (v:= .int .i64 0) ?_;exact⟨G2.upd,_,rfl,zO (by first | exact(zHi es (fun j hj=>hp2_1 j (by omega))).symm | exact(zUf es k (by omega) hp2_1 (by omega)).symm)⟩
include hX in
theorem zYr(len cap:Nat)(l:List Nat)(hl:len=l.length)(hlen:len≤35184372088831)(hlt:∀x∈l,x<4294967296)(hnil:l=[]):Calls Tryz.prog 223 #[.slice none len cap] w (Ret E0 w fun w' v=>∃ad' len' cap',zIr w w' 214 v l ad' len' cap'):=by
 refine zen Tryz.func223 ?_;have G0:St E0 w X w X []:=St.start hX;refine zz 20<|zr' (v:= .slice none 0 0) ?_;exact⟨G0.upd,_,rfl,_,_,_,⟨rfl,by rw[hnil];rfl,hlt,.inl ⟨rfl,rfl,rfl⟩⟩⟩
include hX in
theorem zGe(ad:Addr)(len cap:Nat)(l:List Nat)(hl:len=l.length)(hlen:len≤35184372088831)(hlt:∀x∈l,x<4294967296)(hat:At (rd w X) ad (U32 l)):Calls Tryz.prog 223 #[.slice (some ad) len cap] w (Ret E0 w fun w' v=>∃ad' len' cap',zIr w w' 214 v l ad' len' cap'):=by
 refine zen Tryz.func223 ?_;have G0:St E0 w X w X []:=St.start hX;refine zz 17<|zn (fun b=> .slice (some ⟨b,0,none⟩) 0 0) (.cells #[] 214 (0,0)) G0 fun b3 w3 Y3 G3 C3 Q3=>zz 1<|zop (at1 [] Tryz.f223 [1,1,0]) 2 (fun a4 _ Z4 hz4=>zHh (b:=4) (m:=len) (c:=cap) (size:=1) (ad:=ad) (xs:=[]) (news:=U32 l) (i0:=Tryz.t214) (cur:=#[]) (nn:=0) (cap:=0) (g:=b3) (e:=214) 0 Z4 G3 kr ⟨Nat.le_refl _,Nat.zero_le _,rfl,rfl⟩ (hat.mono C3).cells (by simp[hl]) (by simp[U32,Value.oneCell']) (by simp only[maxLen];omega) (by show(0+len)*4≤_;omega) ?_)
 intro g5 T5 cur5 w5 Y5 D5 G5 C5 a6 Z6;simp only[Nat.zero_add,List.nil_append]at Z6 D5;refine hz4 Z6<|zz 4<|zr' (v:= .slice (some ⟨g5,0,none⟩) len T5) ?_;exact⟨G5.upd,_,rfl,_,_,_,⟨rfl,hl,hlt,.inr ⟨_,_,rfl,G5.own_ge 0 rfl,G5.get 0 rfl,⟨D5,hlt⟩⟩⟩⟩
include hX in
theorem zAv(ad:Option Addr)(len cap:Nat)(l:List Nat)(h:zL (rd w X) ad len cap l)(hlen:len≤35184372088831):Calls Tryz.prog 223 #[.slice ad len cap] w (Ret E0 w fun w' v=>∃ad' len' cap',zIr w w' 214 v l ad' len' cap'):=by
 rcases h.hat with h0 | ⟨b,off,rfl,hat⟩
 ·cases ad with
  | none=>exact zYr w X hX len cap l h.hlen hlen h.hlt h0
  | some a=>exact zGe w X hX a len cap l h.hlen hlen h.hlt (h0▸fun j v hj=>by simp[U32]at hj)
 ·exact zGe w X hX _ len cap l h.hlen hlen h.hlt hat
end
section
variable (w:World)(X:Hid)(hX:∀k o,X k o→k<w.heap.size)
set_option maxHeartbeats 1000000
include hX in
theorem zLp(ad:Option Addr)(len cap:Nat)(l:List Nat)(h:zL (rd w X) ad len cap l):Calls Tryz.prog 153 #[.slice ad len cap] w (Ret E0 w fun _ v=>v= .int .i64 (qY l)):=by
 obtain rfl:=h.hlen;have hcap:=h.hcap;have hbig:=h.hbig;refine zen Tryz.func153 ?_;have G0:St E0 w X w X []:=St.start hX;refine zz 15<|zt 3 (p:=(l.length:Int)>512) (fun F2=>?_) (fun F2=>?_);refine zz 9<|zr' (v:= .int .i64 4) ?_;exact⟨G0.upd,_,rfl,zO (by unfold qY;(repeat' split)<;>first | rfl | omega)⟩
 refine zz 7<|zt 11 (p:=(l.length:Int)>0) (fun F3=>?_) (fun F3=>?_);obtain⟨bk4,of5,rfl,_⟩:=h.addr (by omega)
 refine zz 4<|zw 15 (x:=(l.length:Int)-1)<|zi (b:=bk4) (off:=of5) (len:=l.length) (cap:=cap) (kd:= .i64) (i:=(l.length:Int)-1) 1 (of5+(l.length-1)) ?_ (hoff:=(by first | omega | (simp;done) | (simp;omega)))
 refine zl ((h.cell (i:=(l.length-1)) (by omega)).mono (Le.refl _)).cells<|zz 5<|zb 7 (b:=(((l.getD (l.length-1) 0:Nat):Int)==0)) (fun J6=>?_) (fun J6=>?_)
 have F7:((l.getD (l.length-1) 0:Nat):Int)=0:=by simpa using J6
 refine zz 9<|zr' (v:= .int .i64 2) ?_;exact⟨G0.upd,_,rfl,zO (by unfold qY;(repeat' split)<;>first | rfl | omega)⟩
 have F8:((l.getD (l.length-1) 0:Nat):Int)≠0:=by simpa using J6
 refine zz 10<|zr' (v:= .int .i64 0) ?_;exact⟨G0.upd,_,rfl,zO (by unfold qY;(repeat' split)<;>first | rfl | omega)⟩
 refine zz 21<|zr' (v:= .int .i64 0) ?_;exact⟨G0.upd,_,rfl,zO (by unfold qY;(repeat' split)<;>first | rfl | omega)⟩
def xM(l l2:List Nat):Int:=orL [qY l,qY l2]
include hX in
theorem zAo(ad:Option Addr)(len cap:Nat)(l:List Nat)(h:zL (rd w X) ad len cap l)(ad2:Option Addr)(len2 T2:Nat)(l2:List Nat)(h2:zL (rd w X) ad2 len2 T2 l2):Calls Tryz.prog 222 #[.slice ad len cap,.slice ad2 len2 T2] w (Ret E0 w fun _ v=>v= .int .i64 (xM l l2)):=by
 refine zen Tryz.func222 ?_;have G0:St E0 w X w X []:=St.start hX;refine zz 8<|zc G0 (zLp _ X0 (zT _) _ _ _ l (h.mono Le.x0)) ?_;rintro v3 w3 G3 C3 Q3 rfl;refine zz 1<|zc G3 (zLp _ X0 (zT _) _ _ _ l2 ((h2.mono C3).mono Le.x0)) ?_;rintro v5 w5 G5 C5 Q5 rfl;refine zn (fun b=> .slice (some ⟨b,0,none⟩) 2 2) (.cells #[.int .i64 (qY l),.int .i64 (qY l2)] 46 (0,0)) G5 fun b7 w7 Y7 G7 C7 Q7=>zc G7 (qGh _ X0 (zT _) _ _ _ _ [qY l,qY l2] rfl (by simp) (G7.at0 0 rfl rfl)) ?_ (vs:=#[.slice (some ⟨b7,0,none⟩) 2 2])
 rintro v9 w9 G9 C9 Q9 rfl;refine zz 4<|zr' (v:= .int .i64 (orL [qY l,qY l2])) ?_;exact⟨G9.upd,_,rfl,zO (rfl)⟩
include hX in
theorem qPn(ad:Option Addr)(len cap:Nat)(l:List Nat)(h:zL (rd w X) ad len cap l):Calls Tryz.prog 267 #[.slice ad len cap] w (Ret E0 w fun _ v=>v=if 512<qK l then .tuple #[.slice none 0 0,.int .i64 4]else .tuple #[.slice ad (qK l) cap,.int .i64 0]):=by
 have hcap:=h.hcap;have hbig:=h.hbig;have hl:=h.hlen;have htr:=sG l l.length;rw[show yM l l.length=qK l from rfl]at htr;refine zen Tryz.func267 ?_;have G0:St E0 w X w X []:=St.start hX;refine zz 10<|zc G0 (zAj _ _ G0.lt _ _ _ l h) ?_;rintro v3 w3 G3 C3 Q3 rfl;refine zz 10<|zt 8 (p:=(qK l:Int)>512) (fun F4=>?_) (fun F4=>?_);refine zz 9<|zr' (v:= .tuple #[.slice none 0 0,.int .i64 4]) ?_;exact⟨G3.upd,_,rfl,by first | rw[if_pos (by omega)] | rw[if_neg (by omega)]⟩
 refine zz 11<|zr' (v:= .tuple #[.slice ad (qK l) cap,.int .i64 0]) ?_;exact⟨G3.upd,_,rfl,by first | rw[if_pos (by omega)] | rw[if_neg (by omega)]⟩
end
end Go.Proofs.YtdfmdiakjdggbaaGreatDoor
namespace Go.Proofs.YtdfmdiakjdggbaaGreatDoor
open Go Go.Gv Go.RowKit IntKind
set_option maxRecDepth 100000
set_option maxHeartbeats 1000000
abbrev Two(a b:Nat):Nat→Prop:=fun k=>k=a∨k=b
abbrev qIu(a b:Nat):Hid:=fun k _=>k=a∨k=b
theorem qBc(w:World)(g bc ba i m cap:Nat)(cur:Array Value)(l:List Nat)(x c:Nat)(hne:g≠bc)(hbg:ba≠g)(hbb:ba≠bc)(hg:w.heap[g]?=some (.cells cur 214 (0,0)))(hrow:zR m cap cur l)
    (hbc:w.heap[bc]?=some (.cells #[.int .u32 (c:Int)] 214 (0,0))) (hba:At (rd w (qIu g bc)) ⟨ba,0,none⟩ [.slice (some ⟨g,0,none⟩) m cap]) (hi:i<l.length) (hx:x<4294967296) (hc:c≤1) (hbig:m≤4611686018427387904):
    Calls Tryz.prog 282 #[.int .i64 (i:Int),.int .u32 (x:Int),.pointer (some ⟨ba,0,none⟩),.pointer (some ⟨bc,0,none⟩)] w (Ret (Two g bc) w fun w' v=>v= .tuple #[]∧∃cur',w'.heap[g]?=some (.cells cur' 214 (0,0))∧zR m cap cur' (l.set i ((l.getD i 0+x+c) % 4294967296))∧
      w'.heap[bc]?=some (.cells #[.int .u32 (((l.getD i 0+x+c) / 4294967296:Nat):Int)] 214 (0,0))):=by
 have hX:∀k o,qIu g bc k o→k<w.heap.size:=by
   rintro k o (rfl | rfl)
   ·exact(Array.getElem?_eq_some_iff.1 hg).1
   ·exact(Array.getElem?_eq_some_iff.1 hbc).1
 refine zFi (n:=19) (vs:=[.int .i64 (i:Int),.int .u32 (x:Int),.pointer (some ⟨ba,0,none⟩),.pointer (some ⟨bc,0,none⟩)]) Tryz.func282 rfl rfl rfl kr (fun a0 Z0=>?_);have Z0:Fr 19 a0 [(0,.int .i64 (i:Int)),(1,.int .u32 (x:Int)),(2,.pointer (some ⟨ba,0,none⟩)),(3,.pointer (some ⟨bc,0,none⟩))]:=Z0;have G0:St (Two g bc) w (qIu g bc) w (qIu g bc) [(g,.cells cur 214 (0,0)),(bc,.cells #[.int .u32 (c:Int)] 214 (0,0))]:=St.start2 hX hg hbc (fun _=> .inl rfl) (fun _=> .inr rfl) hne;have hlen:=hrow.len;have hlt:=hrow.getD_lt i;refine dO (N:=15) (yQ [(⟨ba,0,none⟩,[.slice (some ⟨g,0,none⟩) m cap]),(⟨g,i,none⟩,[.int .u32 ((l.getD i 0:Nat):Int)]),(⟨bc,0,none⟩,[.int .u32 (c:Int)])]) [13,14] kr kr kr G0 ?_;intro w1 G1 C1 Q1;refine mD (yQ.cons ((hba.mono C1)).cells (yQ.cons (G1.rowCells 0 rfl hrow (by have:=hrow.len;(try simp only[List.length_set]at *);omega)) (yQ.cons (G1.cells 1 rfl rfl) (yQ.nil _)))) (fun hH1=>?_)
 refine nA (d:=7) (v:= .slice (some ⟨g,0,none⟩) m cap) 0 Z0 rfl kr kr kr (fun w hw=>zB (t:=26) (g:=false) (vs:=[.slice (some ⟨g,0,none⟩) m cap]) (ad:=⟨ba,0,none⟩) rfl kr kr ir (hw.get 0 kr)) hH1 ?_;intro a2 Z2;refine zJ (d:=8) (v:= .int .i64 (i:Int)) 1 Z2 rfl kr kr kw (fun _=>hH1) fun a3 Z3=>?_;refine nA (d:=9) (v:= .slice (some ⟨g,0,none⟩) m cap) 2 Z3 rfl kr kr kr (fun w hw=>zB (t:=26) (g:=false) (vs:=[.slice (some ⟨g,0,none⟩) m cap]) (ad:=⟨ba,0,none⟩) rfl kr kr ir (hw.get 0 kr)) hH1 ?_;intro a4 Z4;refine zJ (d:=10) (v:= .int .i64 (i:Int)) 3 Z4 rfl kr kr kw (fun _=>hH1) fun a5 Z5=>zJ (d:=11) (v:= .pointer (some ⟨g,i,none⟩)) 4 Z5 rfl kr kr (fun w=>qV (t:=26) (e:=214) (b:=g) (off:=0) (len:=m) (cap:=cap) (kd:= .i64) (i:=(i:Int)) (g:=false) (m:=1) (off':=i) rfl kr kr kr kr (by omega) (by omega) (by first | rfl | omega | (simp;done) | (simp;omega)) w) (fun _=>hH1) fun a6 Z6=>?_
 refine nA (d:=12) (v:= .int .u32 ((l.getD i 0:Nat):Int)) 5 Z6 rfl kr kr kr (fun w hw=>zB (t:=214) (g:=false) (vs:=[.int .u32 ((l.getD i 0:Nat):Int)]) (ad:=⟨g,i,none⟩) rfl kr kr ir (hw.get 1 kr)) hH1 ?_;intro a7 Z7;refine zJ (d:=13) (v:= .int .u32 (x:Int)) 6 Z7 rfl kr kr kw (fun _=>hH1) fun a8 Z8=>?_;refine nA (d:=14) (v:= .int .u32 (c:Int)) 7 Z8 rfl kr kr kr (fun w hw=>zB (t:=214) (g:=false) (vs:=[.int .u32 (c:Int)]) (ad:=⟨bc,0,none⟩) rfl kr kr ir (hw.get 2 kr)) hH1 ?_;intro a9 Z9;refine wC [8] kr rfl ?_;refine jR.cons (i:=8) Z9 rfl kr (yO (d:=15) (f:=283) (cap:=#[]) (vs:=#[.int .u32 ((l.getD i 0:Nat):Int),.int .u32 (x:Int),.int .u32 (c:Int)]) Z9 kr G1 rfl kr kr (fun w=>Tryz.call283 _ w) (qYg _ _ G1.lt ((l.getD i 0:Nat):Int) (x:Int) (c:Int) ⟨by omega,by omega⟩ ⟨by omega,by omega⟩ ⟨by omega,by omega⟩) ?_) jR.nil
 rintro v10 w10 G10 C10 Q10 rfl a11 Z11;refine vW (hH1.up Q10) (fun hH10=>?_);refine zJ (d:=6) (v:= .tuple #[.int .u32 ((((l.getD i 0:Nat):Int)+(x:Int)+(c:Int)) % 4294967296),.int .u32 ((((l.getD i 0:Nat):Int)+(x:Int)+(c:Int)) / 4294967296)]) 9 Z11 rfl kr kr kw (fun _=>hH10) fun a12 Z12=>zJ (d:=16) (v:= .int .u32 ((((l.getD i 0:Nat):Int)+(x:Int)+(c:Int)) % 4294967296)) 10 Z12 rfl kr kr kw (fun _=>hH10) fun a13 Z13=>zJ (d:=17) (v:= .int .u32 ((((l.getD i 0:Nat):Int)+(x:Int)+(c:Int)) / 4294967296)) 11 Z13 rfl kr kr kw (fun _=>hH10) fun a14 Z14=>zJ (d:=18) (v:= .pointer (some ⟨g,i,none⟩)) 12 Z14 rfl kr kr (fun w=>qV (t:=26) (e:=214) (b:=g) (off:=0) (len:=m) (cap:=cap) (kd:= .i64) (i:=(i:Int)) (g:=false) (m:=1) (off':=i) rfl kr kr kr kr (by omega) (by omega) (by first | rfl | omega | (simp;done) | (simp;omega)) w) (fun _=>hH10) fun a15 Z15=>?_
 refine wC [13] kr rfl ?_;refine jR.cons (i:=13) Z15 rfl kr (nT (t:=214) (y:=((l.getD i 0+x+c) % 4294967296)) (k:=i) (e:=(((l.getD i 0:Nat):Int)+(x:Int)+(c:Int)) % 4294967296) 0 Z15 kr G10 rfl rfl rfl (by first | rfl | omega | (simp;omega)) kr rfl hrow (by have:=hrow.len;(try simp only[List.length_set]at *);omega) (by first | omega | (simp;omega)) ?_) jR.nil
 intro cur16 w16 D16 G16 C16;refine⟨nE kr,?_⟩;refine wC [14] kr rfl ?_;refine jR.cons (i:=14) Z15 rfl kr (zE (t:=214) (b:=bc) (off:=0) (c':=#[.int .u32 ((((l.getD i 0:Nat):Int)+(x:Int)+(c:Int)) / 4294967296)]) (g:=false) (m:=1) 1 _ Z15 kr G16 rfl kr rfl kr kr kr rfl (by first | decide | (simp;done)) kr rfl ?_) jR.nil
 intro w17 G17 C17;refine⟨nE kr,?_⟩;refine zDt kr (nrm ?_);refine zOu (v:= .tuple #[]) (rs:=[]) Z15 kr Res.nil kr ?_;refine⟨G17.upd,_,rfl,rfl,cur16,G17.get 0 rfl,?_,?_⟩
 ·
  exact D16
 ·
  rw[G17.get 1 rfl];congr 4
abbrev HG(g:Nat):Hid:=fun k _=>k=g
theorem qJb(l1 l2:List Nat)(j k c T:Nat)(hj:j<l2.length)(hk:j+k<l1.length)(h:val l1+c*4294967296^(j+k)=T+4294967296^k*val (l2.take j)):
  val (l1.set (j+k) ((l1.getD (j+k) 0+l2.getD j 0+c) % 4294967296))+(l1.getD (j+k) 0+l2.getD j 0+c) / 4294967296*4294967296^(j+1+k)=T+4294967296^k*val (l2.take (j+1)):=by
 have h1:=zCf l1 (j+k) (l2.getD j 0) c hk;rw[yA l2 j hj,Nat.mul_add,show 4294967296^k*(l2.getD j 0*4294967296^j)=l2.getD j 0*4294967296^(j+k)by rw[Nat.pow_add];ac_rfl,show j+1+k=j+k+1 by omega]
 omega
theorem qBe(l1:List Nat)(p c T:Nat)(hk:p<l1.length)(h:val l1+c*4294967296^p=T):
  val (l1.set p ((l1.getD p 0+0+c) % 4294967296))+(l1.getD p 0+0+c) / 4294967296*4294967296^(p+1)=T:=by
 have h1:=zCf l1 p 0 c hk;omega
theorem qPd(w:World)(g m cap:Nat)(cur:Array Value)(l:List Nat)(hg:w.heap[g]?=some (.cells cur 214 (0,0)))(hrow:zR m cap cur l)(hm:m≤1099511627776)
    (ad2:Option Addr) (len2 T2:Nat) (l2:List Nat) (h2:zL (rd w (HG g)) ad2 len2 T2 l2) (k:Nat) (hk:l2.length+k≤m) (hsum:val l+4294967296^k*val l2<4294967296^m):
    Calls Tryz.prog 266 #[.slice (some ⟨g,0,none⟩) m cap,.slice ad2 len2 T2,.int .i64 (k:Int)] w (Ret (·=g) w fun w' v=>v= .tuple #[]∧∃cur' l',w'.heap[g]?=some (.cells cur' 214 (0,0))∧zR m cap cur' l'∧val l'=val l+4294967296^k*val l2):=by
 obtain rfl:=h2.hlen;have hcap2:=h2.hcap;have hbig2:=h2.hbig;refine zen Tryz.func266 ?_;have hX:∀k o,HG g k o→k<w.heap.size:=by rintro k o rfl;exact(Array.getElem?_eq_some_iff.1 hg).1
 have G0:St (·=g) w (HG g) w (HG g) [(g,.cells cur 214 (0,0))]:=St.startE g _ hX hg (fun _=>rfl);refine zz 2<|zn pn (.cells #[.slice (some ⟨g,0,none⟩) m cap] 26 (0,0)) G0 fun b3 w3 Y3 G3 C3 Q3=>zz 4<|zn pn (.cells #[.int .u32 0] 214 (0,0)) G3 fun b5 w5 Y5 G5 C5 Q5=>zx 0 #[.int .u32 0] G5 fun w6 G6 C6=>zz 17<|zlp Tryz.f266 [] [1,1,1,0,1,0] (fun(j:Nat)=>[(1,.slice ad2 l2.length T2),(2,.int .i64 (k:Int)),(6,.pointer (some ⟨b5,0,none⟩)),(7,.func (.func 282) #[] #[.pointer (some ⟨b3,0,none⟩),.pointer (some ⟨b5,0,none⟩)]),(12,.slice ad2 l2.length T2),(13,.int .i64 (l2.length:Int)),(14,.int .i64 (j:Int))]) (fun(j:Nat)w1=>∃(Y1:Hid)(cur1:Array Value)(l1:List Nat)(c:Nat),St (·=g) w (HG g) w1 Y1 [(b5,.cells #[.int .u32 (c:Int)] 214 (0,0)),(b3,.cells #[.slice (some ⟨g,0,none⟩) m cap] 26 (0,0)),(g,.cells cur1 214 (0,0))]∧Le (rd w6 Y5) (rd w1 Y1)∧(zR m cap cur1 l1)∧(j≤l2.length)∧(c≤1)∧(val l1+c*4294967296^(j+k)=val l+4294967296^k*val (l2.take j))) (fun(j:Nat)=>l2.length-j) 0 ?_ ?_
 ·
  refine⟨_,cur,l,0,G6,Le.refl _,hrow,Nat.zero_le _,by omega,by simp[val]⟩
 rintro j w7 K7 hK7 ⟨Y7,cur1,l1,c,G7,C7,hp7_0,hp7_1,hp7_2,hp7_3⟩;have D1:=hp7_0;have hlen1:=D1.len;refine zz 6<|zt 15 (p:=(j:Int)<(l2.length:Int)) (fun F8=>?_) (fun F8=>?_)
 ·
  obtain⟨bk9,of10,rfl,_⟩:=h2.addr (by omega)
  refine zz 8<|zi (b:=bk9) (off:=of10) (len:=l2.length) (cap:=T2) (kd:= .i64) (i:=(j:Int)) 1 (of10+j) ?_;have J1_:=(Le3 C3 C5 C6).trans C7;refine zl ((h2.cell (i:=j) (by omega)).mono J1_).cells<|zz 9<|zw 22 (x:=((j+k:Nat):Int))<|zz 1<|zop (at1 [K7] Tryz.f266 [1,1,1,0,1,0,0,1,1,0,0,1]) 5 (fun a11 _ Z11 hz11=>zKw 2 0 Z11 G7 rfl rfl (qBc _ g b5 b3 (j+k) m cap cur1 l1 (l2.getD j 0) c (G7.ne (i:=2) (j:=0) rfl rfl (by decide)) (G7.ne (i:=1) (j:=2) rfl rfl (by decide)) (G7.ne (i:=1) (j:=0) rfl rfl (by decide)) (G7.get 2 rfl) D1 (G7.get 0 rfl) (G7.atX 1 rfl (fun _ hx=>hx.elim (G7.ne (i:=1) (j:=2) rfl rfl (by decide)) (G7.ne (i:=1) (j:=0) rfl rfl (by decide)))) (by omega) (by first | exact h2.getD_lt _ | omega) (by omega) (by omega)) ?_)
  rintro v12 w12 ⟨rfl,cur12,hg12,D12,hbc12⟩ hSf12 C12 a13 Z13;have G12:=hSf12 _ _ hg12 hbc12;refine hz11 Z13<|zz 5<|zw 25 (x:=(j:Int)+1)<|zz 2 ?_;refine yE (fun a h=>hK7 (j+1) _ a h ⟨_,cur12,(l1.set (j+k) ((l1.getD (j+k) 0+l2.getD j 0+c) % 4294967296)),((l1.getD (j+k) 0+l2.getD j 0+c) / 4294967296),G12,(Le2 C7 C12),D12,by omega,by have:=h2.getD_lt j;have:=D1.getD_lt (j+k);omega,qJb _ _ _ _ _ _ (by omega) (by omega) hp7_3⟩ ?_)
  first | omega | (simp<;>omega)
 refine zz 12<|zw 29 (x:=((l2.length+k:Nat):Int))<|zz 4 ?_;have htot:=hp7_3;have hj1:=hp7_1;obtain rfl:j=l2.length:=by omega
 rw[List.take_length]at htot;refine zlp Tryz.f266 [K7] [1,1,1,1,1,0] (fun(j:Nat)=>[(6,.pointer (some ⟨b5,0,none⟩)),(7,.func (.func 282) #[] #[.pointer (some ⟨b3,0,none⟩),.pointer (some ⟨b5,0,none⟩)]),(10,.int .i64 (j:Int))]) (fun j w1=>∃(Y1:Hid)(cur1:Array Value)(l1:List Nat)(c:Nat),St (·=g) w (HG g) w1 Y1 [(b5,.cells #[.int .u32 (c:Int)] 214 (0,0)),(b3,.cells #[.slice (some ⟨g,0,none⟩) m cap] 26 (0,0)),(g,.cells cur1 214 (0,0))]∧Le (rd w7 Y7) (rd w1 Y1)∧(zR m cap cur1 l1)∧(c≤1)∧(val l1+c*4294967296^j=val l+4294967296^k*val l2)) (fun j=>m-j) (l2.length+k) ?_ ?_
 ·
  refine⟨_,cur1,l1,c,G7,Le.refl _,D1,hp7_2,htot⟩
 rintro j w14 K14 hK14 ⟨Y14,cur1,l1,c,G14,C14,hp14_0,hp14_1,hp14_2⟩;have D1:=hp14_0;have hlen1:=D1.len;refine zz 3<|zo 0 G14<|zz 3<|zb 31 (b:=((c:Int)!=0)) (fun J15=>?_) (fun J15=>?_)
 ·
  have F16:(c:Int)≠0:=by simpa using J15
  have hjm:j<m:=zKy (i:=j) (len:=m) (v:=val l+4294967296^k*val l2) (by have h1:=hp14_2;obtain rfl:c=1:=(by have:=hp14_1;omega);omega) hsum
  refine zz 8<|zop (at1 [K7,K14] Tryz.f266 [1,1,1,1,1,0,0,1,0,0]) 2 (fun a17 _ Z17 hz17=>zKw 2 0 Z17 G14 rfl rfl (qBc _ g b5 b3 (j) m cap cur1 l1 (0) c (G14.ne (i:=2) (j:=0) rfl rfl (by decide)) (G14.ne (i:=1) (j:=2) rfl rfl (by decide)) (G14.ne (i:=1) (j:=0) rfl rfl (by decide)) (G14.get 2 rfl) D1 (G14.get 0 rfl) (G14.atX 1 rfl (fun _ hx=>hx.elim (G14.ne (i:=1) (j:=2) rfl rfl (by decide)) (G14.ne (i:=1) (j:=0) rfl rfl (by decide)))) (by omega) (by first | exact h2.getD_lt _ | omega) (by omega) (by omega)) ?_)
  rintro v18 w18 ⟨rfl,cur18,hg18,D18,hbc18⟩ hSf18 C18 a19 Z19;have G18:=hSf18 _ _ hg18 hbc18;refine hz17 Z19<|zz 6<|zw 33 (x:=(j:Int)+1)<|zz 2 ?_;refine yE (fun a h=>hK14 (j+1) _ a h ⟨_,cur18,(l1.set (j) ((l1.getD (j) 0+0+c) % 4294967296)),((l1.getD (j) 0+0+c) / 4294967296),G18,(Le2 C14 C18),D18,by have:=D1.getD_lt j;omega,qBe _ _ _ _ (by omega) hp14_2⟩ ?_)
  first | omega | (simp<;>omega)
 have F20:(c:Int)=0:=by simpa using J15
 obtain rfl:c=0:=by omega
 refine zz 5<|zr' (v:= .tuple #[]) ?_;exact⟨G14.upd,_,rfl,rfl,_,_,G14.get 2 rfl,D1,by have:=hp14_2;simpa using this⟩
end Go.Proofs.YtdfmdiakjdggbaaGreatDoor
namespace Go.Proofs.YtdfmdiakjdggbaaGreatDoor
open Go Go.Gv Go.RowKit IntKind
set_option maxRecDepth 100000
set_option maxHeartbeats 1000000
theorem qTn(w:World)(X:Hid)(hX:∀k o,X k o→k<w.heap.size)(x:Nat)(hx:x<18446744073709551616):Calls Tryz.prog 174 #[.int .u64 (x:Int)] w (Ret E0 w fun w' v=>∃l ad len cap,zIr w w' 214 v l ad len cap∧zQ l∧val l=x):=by
 refine zen Tryz.func174 ?_;have G0:St E0 w X w X []:=St.start hX;refine zz 9<|zs 4 (v:= .int .u32 (IntKind.u32.wrap ((x:Int)))) (v':= .int .u32 ((x % 4294967296:Nat):Int)) (zO (by rw[yD];omega))<|zz 2<|zs 6 (v:= .int .u64 (Int.fdiv ((x:Int)) (2^32))) (v':= .int .u64 ((x / 4294967296:Nat):Int)) (zO (by rw[vF _ 32 (c:=4294967296) (by decide) (by decide)];omega))<|zz 1<|zs 7 (v:= .int .u32 (IntKind.u32.wrap (((x / 4294967296:Nat):Int)))) (v':= .int .u32 ((x / 4294967296 % 4294967296:Nat):Int)) (zO (by rw[yD];omega))<|zn (fun b=> .slice (some ⟨b,0,none⟩) 2 2) (.cells #[.int .u32 ((x % 4294967296:Nat):Int),.int .u32 ((x / 4294967296 % 4294967296:Nat):Int)] 214 (0,0)) G0 fun b3 w3 Y3 G3 C3 Q3=>?_
 have D5:zR 2 2 #[.int .u32 ((x % 4294967296:Nat):Int),.int .u32 ((x / 4294967296 % 4294967296:Nat):Int)] [x % 4294967296,x / 4294967296 % 4294967296]:=zR.of [x % 4294967296,x / 4294967296 % 4294967296] (by intro y hy;simp at hy;omega) (by simp[maxLen]) (by simp[U32]) (by simp)
 refine zc G3 (zAj _ X0 (zT _) _ _ _ ([x % 4294967296,x / 4294967296 % 4294967296]) (zR.limbs (Y:=X0) D5 (G3.get 0 rfl) (fun _ h=>h.elim))) ?_ (vs:=#[.slice (some ⟨b3,0,none⟩) 2 2]);rintro v6 w6 G6 C6 Q6 rfl;refine zz 4<|zr' (v:= .slice (some ⟨b3,0,none⟩) (qK ([x % 4294967296,x / 4294967296 % 4294967296])) 2) ?_;exact⟨G6.upd,_,rfl,Go.Gv.trimmed [x % 4294967296,x / 4294967296 % 4294967296],_,_,_,⟨rfl,(jC _).symm,wD D5.lt,.inr ⟨_,_,rfl,G6.own_ge 0 rfl,G6.get 0 rfl,D5.trimmed⟩⟩,qL _,by rw[qW];simp only[val];omega⟩
theorem sU(w:World)(g m cap:Nat)(cur:Array Value)(l:List Nat)(hg:w.heap[g]?=some (.cells cur 214 (0,0)))(hrow:zR m cap cur l)(hm:m≤1099511627776)
    (ad2:Option Addr) (len2 T2:Nat) (l2:List Nat) (h2:zL (rd w (HG g)) ad2 len2 T2 l2) (hll:l2.length≤l.length) (hle:val l2≤val l):
    Calls Tryz.prog 226 #[.slice (some ⟨g,0,none⟩) m cap,.slice ad2 len2 T2] w (Ret (·=g) w fun w' v=>∃cur' l',v= .slice (some ⟨g,0,none⟩) l'.length cap∧w'.heap[g]?=some (.cells cur' 214 (0,0))∧zR l'.length cap cur' l'∧zQ l'∧val l'=val l-val l2):=by
 obtain rfl:=h2.hlen;have hcap2:=h2.hcap;have hbig2:=h2.hbig;refine zen Tryz.func226 ?_;have hX:∀k o,HG g k o→k<w.heap.size:=by rintro k o rfl;exact(Array.getElem?_eq_some_iff.1 hg).1
 have G0:St (·=g) w (HG g) w (HG g) [(g,.cells cur 214 (0,0))]:=St.startE g _ hX hg (fun _=>rfl);have hlen:=hrow.len;refine zz 19<|zlp Tryz.f226 [] [1,1,0,1,0] (fun((j,c):Nat×Nat)=>[(0,.slice (some ⟨g,0,none⟩) m cap),(1,.slice ad2 l2.length T2),(5,.int .u32 (c:Int)),(9,.slice ad2 l2.length T2),(10,.int .i64 (l2.length:Int)),(11,.int .i64 (j:Int))]) (fun((j,c):Nat×Nat)w1=>∃(Y1:Hid)(cur1:Array Value)(l1:List Nat),St (·=g) w (HG g) w1 Y1 [(g,.cells cur1 214 (0,0))]∧Le (rd w (HG g)) (rd w1 Y1)∧(zR m cap cur1 l1)∧(j≤l2.length)∧(c≤1)∧(val l1+val (l2.take j)=val l+c*4294967296^j)) (fun((j,c):Nat×Nat)=>l2.length-j) (0,0) ?_ ?_
 ·
  refine⟨_,cur,l,G0,Le.refl _,hrow,Nat.zero_le _,by omega,by simp[val]⟩
 rintro⟨j,c⟩ w2 K2 hK2 ⟨Y2,cur1,l1,G2,C2,hp2_0,hp2_1,hp2_2,hp2_3⟩;have D1:=hp2_0;have hlen1:=D1.len;have hlt1:=D1.getD_lt j;have hlt2:=h2.getD_lt j;have J1:=hp2_2;refine zz 6<|zt 12 (p:=(j:Int)<(l2.length:Int)) (fun F3=>?_) (fun F3=>?_)
 ·
  obtain⟨bk4,of5,rfl,_⟩:=h2.addr (by omega)
  refine zz 8<|zi (b:=bk4) (off:=of5) (len:=l2.length) (cap:=T2) (kd:= .i64) (i:=(j:Int)) 1 (of5+j)<|zl ((h2.cell (i:=j) (by omega)).mono C2).cells<|zz 9<|zi (b:=g) (off:=0) (len:=m) (cap:=cap) (kd:= .i64) (i:=(j:Int)) 1 j<|zl (ad:=⟨g,j,none⟩) (G2.rowCells 0 rfl D1 (by have:=D1.len;(try simp only[List.length_set]at *);omega))<|zz 2<|zc G2 (qRd _ _ G2.lt ((l1.getD j 0:Nat):Int) ((l2.getD j 0:Nat):Int) (c:Int) ⟨by omega,by omega⟩ ⟨by omega,by omega⟩ ⟨by omega,by omega⟩) ?_
  rintro v7 w7 G7 C7 Q7 rfl;refine zz 3<|zi (b:=g) (off:=0) (len:=m) (cap:=cap) (kd:= .i64) (i:=(j:Int)) 1 j<|zop (at1 [K2] Tryz.f226 [1,1,0,1,0,0,1,1,0,0,1]) 13 (fun a8 _ Z8 hz8=>kD (y:=(zCa (l1.getD j 0) (l2.getD j 0) c)) (k:=j) (e:=((((l1.getD j 0:Nat):Int)-((l2.getD j 0:Nat):Int)) % 4294967296-(c:Int)) % 4294967296) 0 Z8 G7 (by unfold zCa;omega) rfl D1 (by have:=D1.len;(try simp only[List.length_set]at *);omega) (zXt _ _ _) ?_)
  intro cur9 w9 D9 G9 C9;refine hz8 Z8<|zz 1<|zs 5 (v:= .int .u32 (if((l1.getD j 0:Nat):Int)<((l2.getD j 0:Nat):Int)+(c:Int)then 1 else 0)) (v':= .int .u32 ((brw (l1.getD j 0) (l2.getD j 0) c:Nat):Int)) (zO (by unfold brw;(repeat' split)<;>omega))<|zz 5<|zw 29 (x:=(j:Int)+1)<|zz 2 ?_
  refine yE (fun a h=>hK2 ((j+1,brw (l1.getD j 0) (l2.getD j 0) c)) _ a h ⟨_,cur9,(l1.set j (zCa (l1.getD j 0) (l2.getD j 0) c)),G9,(Le3 C2 C7 C9),D9,by omega,qBq _ _ _,qNs _ _ _ _ _ (by omega) (by omega) hlt1 hlt2 J1 hp2_3⟩ ?_)
  first | omega | (simp<;>omega)
 refine zz 15 ?_;have htot:=hp2_3;have hj1:=hp2_1;obtain rfl:j=l2.length:=by omega
 rw[List.take_length]at htot;refine zlp Tryz.f226 [K2] [1,1,1,0,1,0] (fun((j,c):Nat×Nat)=>[(0,.slice (some ⟨g,0,none⟩) m cap),(5,.int .u32 (c:Int)),(8,.int .i64 (j:Int))]) (fun(j,c)w1=>∃(Y1:Hid)(cur1:Array Value)(l1:List Nat),St (·=g) w (HG g) w1 Y1 [(g,.cells cur1 214 (0,0))]∧Le (rd w2 Y2) (rd w1 Y1)∧(zR m cap cur1 l1)∧(c≤1)∧(val l1+val l2=val l+c*4294967296^j)) (fun(j,c)=>m-j) (l2.length,c) ?_ ?_
 ·
  refine⟨_,cur1,l1,G2,Le.refl _,D1,hp2_2,htot⟩
 rintro⟨j,c⟩ w10 K10 hK10 ⟨Y10,cur1,l1,G10,C10,hp10_0,hp10_1,hp10_2⟩;have D1:=hp10_0;have hlen1:=D1.len;have hlt1:=D1.getD_lt j;have J1:=hp10_1;refine zz 7<|zb 33 (b:=((c:Int)!=0)) (fun J11=>?_) (fun J11=>?_)
 ·
  have F12:(c:Int)≠0:=by simpa using J11
  have hjm:j<m:=(by have h3:=jU D1.lt;rw[hlen1]at h3;refine zKy (i:=j) (len:=m) (v:=val l1) ?_ h3;have h1:=hp10_2;obtain rfl:c=1:=(by omega);omega)
  refine zz 10<|zi (b:=g) (off:=0) (len:=m) (cap:=cap) (kd:= .i64) (i:=(j:Int)) 1 j<|zl (ad:=⟨g,j,none⟩) (G10.rowCells 0 rfl D1 (by have:=D1.len;(try simp only[List.length_set]at *);omega))<|zz 1<|zc G10 (qRd _ _ G10.lt ((l1.getD j 0:Nat):Int) 0 (c:Int) ⟨by omega,by omega⟩ ⟨by omega,by omega⟩ ⟨by omega,by omega⟩) ?_
  rintro v14 w14 G14 C14 Q14 rfl;refine zz 3<|zi (b:=g) (off:=0) (len:=m) (cap:=cap) (kd:= .i64) (i:=(j:Int)) 1 j<|zop (at1 [K2,K10] Tryz.f226 [1,1,1,0,1,0,0,1,0,0]) 12 (fun a15 _ Z15 hz15=>kD (y:=(zCa (l1.getD j 0) 0 c)) (k:=j) (e:=((((l1.getD j 0:Nat):Int)-(0:Int)) % 4294967296-(c:Int)) % 4294967296) 0 Z15 G14 (by unfold zCa;omega) rfl D1 (by have:=D1.len;(try simp only[List.length_set]at *);omega) (zXt _ _ _) ?_)
  intro cur16 w16 D16 G16 C16;refine hz15 Z15<|zz 1<|zs 5 (v:= .int .u32 (if((l1.getD j 0:Nat):Int)<(0:Int)+(c:Int)then 1 else 0)) (v':= .int .u32 ((brw (l1.getD j 0) 0 c:Nat):Int)) (zO (by unfold brw;(repeat' split)<;>omega))<|zz 6<|zw 35 (x:=(j:Int)+1)<|zz 2 ?_
  refine yE (fun a h=>hK10 ((j+1,brw (l1.getD j 0) 0 c)) _ a h ⟨_,cur16,(l1.set j (zCa (l1.getD j 0) 0 c)),G16,(Le3 C10 C14 C16),D16,qBq _ _ _,qHz _ _ _ _ _ (by omega) hlt1 J1 hp10_2⟩ ?_)
  first | omega | (simp<;>omega)
 have F17:(c:Int)=0:=by simpa using J11
 have J0:c=0:=by omega
 refine zz 9<|zc G10 (zAj _ X0 (zT _) _ _ _ l1 (zR.limbs (Y:=X0) D1 (G10.get 0 rfl) (fun _ h=>h.elim))) ?_ (vs:=#[.slice (some ⟨g,0,none⟩) m cap]);rintro v19 w19 G19 C19 Q19 rfl;refine zz 4<|zr' (v:= .slice (some ⟨g,0,none⟩) (qK l1) cap) ?_;exact⟨G19.upd,_,rfl,cur1,Go.Gv.trimmed l1,by rw[jC],G19.get 0 rfl,by rw[jC];exact D1.trimmed,qL _,by rw[qW];have h9:=hp10_2;rw[J0]at h9;omega⟩
set_option maxHeartbeats 1000000
theorem zEc(l bx:Nat)(ad:Option Addr)(len cap:Nat)(xs:List Nat)(hlen:len=xs.length)(hbig:len≤1099511627776)(J:Nat→World→Prop)(R:World→Prop)
    (hread:∀k w,J k w→At (rd w X0) ⟨bx,0,none⟩ [.slice ad len cap])
    (hel:∀k w,J (k+1) w→k<len→∃b off,ad=some ⟨b,off,none⟩∧At (rd w X0) ⟨b,off+k,none⟩ [.int .u32 ((xs.getD k 0:Nat):Int)])
    (hY:∀k w,k<len→J (k+1) w→YieldAt (FF none) 0 Tryz.prog l #[.int .i64 (k:Int),.int .u32 ((xs.getD k 0:Nat):Int)] w (xI (J k) R))
    (h0:∀w,J 0 w→R w) (w:World) (hJ:J len w):Calls Tryz.prog 280 #[.func (.yield l) #[] #[],.pointer (some ⟨bx,0,none⟩)] w (fun e w'=>(∃v,e= .returned v)∧R w'):=by
 refine zFi (n:=19) (vs:=[.func (.yield l) #[] #[],.pointer (some ⟨bx,0,none⟩)]) Tryz.func280 rfl rfl rfl kr (fun a0 Z0=>?_);have Z0:Fr 19 a0 [(0,.func (.yield l) #[] #[]),(1,.pointer (some ⟨bx,0,none⟩))]:=Z0;have G0:St E0 w X0 w X0 []:=St.start (zT _);refine zG (fun K1 hK1=>?_);refine zC ?_;refine qO Z0 kr (zF (d:=4) (v:= .slice ad len cap) Z0 kr (zB (t:=26) (g:=false) (vs:=[.slice ad len cap]) (ad:=⟨bx,0,none⟩) rfl kr kr ir ((hread _ _ hJ)).cells) ?_);intro a2 Z2;refine zD 2 [(6,.int .i64 (i64.wrap ((len:Int)-1))),(5,.int .i64 (len:Int))] Z2 kr kr (fun a3 Z3=>?_);have Z4:=Z3.set 6 (v':= .int .i64 ((len:Int)-1)) kr rfl (zO (lI (by omega) (by omega)))
 refine zD 1 [(3,.int .i64 ((len:Int)-1))] Z4 kr kr (fun a5 Z5=>?_);refine zH<|zA (hK1 _ _ ?_);refine jZ ?_;refine pK (fun(k:Nat)a w1=>Fr 19 a [(0,.func (.yield l) #[] #[]),(1,.pointer (some ⟨bx,0,none⟩)),(3,.int .i64 ((k:Int)-1))]∧J k w1∧k≤len) (fun k=>k) len ?_ ?_
 ·
  exact⟨Z5.as [0,1,3] kr kr,hJ,Nat.le_refl _⟩
 rintro k a6 w6 ⟨Z6,hJ6,hk⟩;have G6:St E0 w6 X0 w6 X0 []:=St.start (zT _);refine zG (fun K7 hK7=>?_);refine zG (fun K8 hK8=>?_);refine zC<|zD 2 [(8,.bool (decide (((k:Int)-1)≥0))),(7,.int .i64 ((k:Int)-1))] Z6 kr kr (fun a9 Z9=>?_);refine zH<|zA (hK8 _ _ ?_);refine pJ (decide (((k:Int)-1)≥0)) Z9 kr kr (fun J10=>?_) (fun J10=>?_)
 ·
  have Z11:=Z9.set 8 (v':= .bool true) kr rfl (zK J10);have F12:((k:Int)-1)≥0:=of_decide_eq_true J10;obtain⟨j,rfl⟩:∃j,k=j+1:=⟨k-1,by omega⟩
  have Z13:=Z11.set 3 (v:= .int .i64 (((j+1:Nat):Int)-1)) (v':= .int .i64 (j:Int)) kr kr (zO (by omega))
  obtain⟨b,off,rfl,hel1⟩:=hel j _ hJ6 (by omega)
  refine vX<|zA (hK7 _ _ ?_);refine zG (fun K14 hK14=>?_);refine jZ<|zG (fun K15 hK15=>?_);refine zC<|zD 2 [(12,.int .i64 (j:Int)),(11,.func (.yield l) #[] #[])] Z13 kr kr (fun a16 Z16=>?_);refine qO Z16 kr (zF (d:=13) (v:= .slice (some ⟨b,off,none⟩) len cap) Z16 kr (zB (t:=26) (g:=false) (vs:=[.slice (some ⟨b,off,none⟩) len cap]) (ad:=⟨bx,0,none⟩) rfl kr kr ir ((hread _ _ hJ6)).cells) ?_);intro a17 Z17;refine zD 1 [(14,.int .i64 (j:Int))] Z17 kr kr (fun a18 Z18=>?_);refine qO Z18 kr (zF (d:=15) (v:= .pointer (some ⟨b,off+j,none⟩)) Z18 kr (qV (t:=26) (e:=214) (b:=b) (off:=off) (len:=len) (cap:=cap) (kd:= .i64) (i:=(j:Int)) (g:=false) (m:=1) (off':=off+j) rfl kr kr kr kr (by omega) (by omega) (by first | rfl | omega | (simp;done) | (simp;omega)) _) ?_)
  intro a19 Z19;refine qO Z19 kr (zF (d:=16) (v:= .int .u32 ((xs.getD j 0:Nat):Int)) Z19 kr (zB (t:=214) (g:=false) (vs:=[.int .u32 ((xs.getD j 0:Nat):Int)]) (ad:=⟨b,off+j,none⟩) rfl kr kr ir (hel1).cells) ?_);intro a20 Z20;refine zLi (d:=17) (l:=l) (vs:=#[.int .i64 (j:Int),.int .u32 ((xs.getD j 0:Nat):Int)]) Z20 kr rfl kr kr (hY j _ (by omega) hJ6) (fun _ _ h=>h.ret) ?_
  rintro v21 w21 ⟨bb21,hv21,hJ21,hR21⟩ a22 Z22;cases hv21;have G21:St E0 w21 X0 w21 X0 []:=St.start (zT _);refine zD 1 [(18,.bool (!bb21))] Z22 kr kr (fun a23 Z23=>?_);refine zH<|zA (hK15 _ _ ?_);refine pJ (!bb21) Z23 kr kr (fun J24=>?_) (fun J24=>?_)
  ·
   have Z25:=Z23.set 18 (v':= .bool true) kr rfl (zK J24);have F26:bb21=false:=by simpa using J24
   have hbb:=F26;refine nJ ?_;refine dA ?_;refine nZ ?_;refine nZ ?_;refine dA<|zVq (v:= .tuple #[]) (rs:=[]) Z25 kr Res.nil kr ?_;exact⟨⟨_,rfl⟩,(hR21 hbb)⟩
  have Z27:=Z23.set 18 (v':= .bool false) kr rfl (zK J24);have F28:bb21=true:=by simpa using J24
  have hbb:=F28;refine vX ?_;refine jX<|zA (hK14 _ _ ?_);refine zC<|zD 2 [(10,.int .i64 (i64.wrap ((j:Int)-1))),(9,.int .i64 (j:Int))] Z27 kr kr (fun a29 Z29=>?_);have Z30:=Z29.set 10 (v':= .int .i64 ((j:Int)-1)) kr rfl (zO (lI (by omega) (by omega)))
  refine zD 1 [(3,.int .i64 ((j:Int)-1))] Z30 kr kr (fun a31 Z31=>?_);refine zH<|zA ?_;exact⟨j,⟨Z31.as [0,1,3] kr kr,hJ21 hbb,by omega⟩,by show j<j+1;omega⟩
 have Z32:=Z9.set 8 (v':= .bool false) kr rfl (zK J10);have F33:¬(((k:Int)-1)≥0):=of_decide_eq_false J10;have hk0:k=0:=by omega
 refine aJ ?_;refine sF ?_;refine sF ?_;refine sJ<|zOu (v:= .tuple #[]) (rs:=[]) Z32 kr Res.nil kr ?_;exact⟨⟨_,rfl⟩,(h0 _ (hk0▸hJ6))⟩
set_option maxHeartbeats 1000000
theorem zFx(w:World)(X:Hid)(hX:∀k o,X k o→k<w.heap.size)(ad:Option Addr)(len cap:Nat):Calls Tryz.prog 263 #[.slice ad len cap] w (Ret E0 w fun w' v=>∃bx,v= .func (.func 280) #[] #[.pointer (some ⟨bx,0,none⟩)]∧w.heap.size≤bx∧w'.heap[bx]?=some (.cells #[.slice ad len cap] 26 (0,0))):=by
 refine zen Tryz.func263 ?_;have G0:St E0 w X w X []:=St.start hX;refine zz 2<|zn pn (.cells #[.slice ad len cap] 26 (0,0)) G0 fun b3 w3 Y3 G3 C3 Q3=>zz 10<|zr' (v:= .func (.func 280) #[] #[.pointer (some ⟨b3,0,none⟩)]) ?_;exact⟨G3.upd,_,rfl,_,rfl,G3.own_ge 0 rfl,G3.get 0 rfl⟩
theorem lY{x y:Nat}(h:qF (x:Int) (y:Int)=0):x=y:=by unfold qF at h;(repeat' split at h)<;>omega
theorem rP{x y:Nat}(h:x<y):qF (x:Int) (y:Int)= -1:=by unfold qF;rw[if_pos (by omega)]
theorem rJ{x y:Nat}(h:y<x):qF (x:Int) (y:Int)=1:=by unfold qF;rw[if_neg (by omega),if_pos (by omega)]
theorem zCp(x:Int):qF x x=0:=by unfold qF;rw[if_neg (by omega),if_neg (by omega)]
theorem zZr{l l2:List Nat}(h1:∀x∈l,x<4294967296)(h2:∀x∈l2,x<4294967296)(c1:zQ l)(c2:zQ l2)(h:qF (l.length:Int) (l2.length:Int)≠0):qF (l.length:Int) (l2.length:Int)=qF (val l) (val l2):=by
 rcases Nat.lt_trichotomy l.length l2.length with e | e | e
 ·rw[rP e,rP (zEm h1 c2 e)]
 ·rw[e,zCp]at h;exact absurd rfl h
 ·rw[rJ e,rJ (zEm h2 c1 e)]
theorem zZs{l l2:List Nat}(h1:∀x∈l,x<4294967296)(h2:∀x∈l2,x<4294967296)(hlen:l.length=l2.length)(k:Nat)(hk:k<l.length)(heq:∀j,k+1≤j→j<l.length→l.getD j 0=l2.getD j 0)
  (h:qF ((l.getD k 0:Nat):Int) ((l2.getD k 0:Nat):Int)≠0):qF ((l.getD k 0:Nat):Int) ((l2.getD k 0:Nat):Int)=qF (val l) (val l2):=by
 rcases Nat.lt_trichotomy (l.getD k 0) (l2.getD k 0)with e | e | e
 ·rw[rP e,rP (zXz h1 hlen k hk heq e)]
 ·rw[e,zCp]at h;exact absurd rfl h
 ·rw[rJ e,rJ (zXz h2 hlen.symm k (by omega) (fun j h1 h2=>(heq j h1 (by omega)).symm) e)]
theorem qGl{l l2:List Nat}(hlen:l.length=l2.length)(heq:∀j,0≤j→j<l.length→l.getD j 0=l2.getD j 0):(0:Int)=qF (val l) (val l2):=by rw[qXs hlen heq,zCp]
theorem zBq(w:World)(X:Hid)(hX:∀k o,X k o→k<w.heap.size)(ad:Option Addr)(len cap:Nat)(l:List Nat)(h:zL (rd w X) ad len cap l)(ad2:Option Addr)(len2 T2:Nat)(l2:List Nat)(h2:zL (rd w X) ad2 len2 T2 l2)(c1:zQ l)(c2:zQ l2)(hm:len≤1099511627776):Calls Tryz.prog 225 #[.slice ad len cap,.slice ad2 len2 T2] w (Ret E0 w fun _ v=>v= .int .i64 (qF (val l) (val l2))):=by
 obtain rfl:=h.hlen;obtain rfl:=h2.hlen;have hcap:=h.hcap;have hbig:=h.hbig;have hcap2:=h2.hcap;have hbig2:=h2.hbig;refine zMn (n:=30) (vs:=[.slice ad l.length cap,.slice ad2 l2.length T2]) Tryz.func225 rfl rfl rfl kr (fun a0 Z0=>?_);have Z0:Fr 30 a0 [(0,.slice ad l.length cap),(1,.slice ad2 l2.length T2)]:=Z0;have G0:St E0 w X w X []:=St.start hX;refine zG (fun K1 hK1=>?_);refine zC ?_;refine qO Z0 kr (mW (d:=3) (fun b=> .pointer (some ⟨b,0,none⟩)) (.cells #[.slice ad2 l2.length T2] 26 (0,0)) Z0 kr G0 kw ?_);intro b2 w2 Y2 G2 C2 Q2 a3 Z3;refine qO Z3 kr (mW (d:=4) (fun b=> .pointer (some ⟨b,0,none⟩)) (.cells #[.int .i64 0] 3 (0,0)) Z3 kr G2 kw ?_);intro b4 w4 Y4 G4 C4 Q4 a5 Z5;refine zH<|zA (hK1 _ _ ?_);refine zG (fun K6 hK6=>?_);refine zG (fun K7 hK7=>?_);refine zC<|zD 2 [(10,.int .i64 (l.length:Int)),(9,.slice ad l.length cap)] Z5 kr kr (fun a8 Z8=>?_);refine qO Z8 kr (zF (d:=11) (v:= .slice ad2 l2.length T2) Z8 kr (zB (t:=26) (g:=false) (vs:=[.slice ad2 l2.length T2]) (ad:=⟨b2,0,none⟩) rfl kr kr ir (G4.cells 1 rfl rfl)) ?_);intro a9 Z9;refine zD 1 [(12,.int .i64 (l2.length:Int))] Z9 kr kr (fun a10 Z10=>?_);refine qO Z10 kr (yO (d:=13) (f:=171) (cap:=#[]) (vs:=#[.int .i64 (l.length:Int),.int .i64 (l2.length:Int)]) Z10 kr G4 rfl kr kr (fun w=>Tryz.call171 _ w) (zPb _ _ G4.lt (l.length:Int) (l2.length:Int)) ?_);rintro v11 w11 G11 C11 Q11 rfl a12 Z12;refine zD 1 [(5,.int .i64 (qF (l.length:Int) (l2.length:Int)))] Z12 kr kr (fun a13 Z13=>?_);refine zH<|zA (hK7 _ _ ?_);refine zG (fun K14 hK14=>?_);refine zC<|zD 2 [(15,.bool ((qF (l.length:Int) (l2.length:Int))!=0)),(14,.int .i64 (qF (l.length:Int) (l2.length:Int)))] Z13 kr kr (fun a15 Z15=>?_);refine zH<|zA (hK14 _ _ ?_);refine pJ ((qF (l.length:Int) (l2.length:Int))!=0) Z15 kr kr (fun J16=>?_) (fun J16=>?_);have Z17:=Z15.set 15 (v':= .bool true) kr rfl (zK J16);have F18:(qF (l.length:Int) (l2.length:Int))≠0:=by simpa using J16
 refine zG (fun K19 hK19=>?_);refine zC<|zD 1 [(16,.int .i64 (qF (l.length:Int) (l2.length:Int)))] Z17 kr kr (fun a20 Z20=>?_);refine qO Z20 kr (zE (t:=3) (b:=b4) (off:=0) (c':=#[.int .i64 (qF (l.length:Int) (l2.length:Int))]) (g:=false) (m:=1) 0 _ Z20 kr G11 rfl kr rfl kr kr kr rfl (by first | decide | (simp;done)) kr rfl ?_)
 intro w21 G21 C21;refine zH<|zA (hK19 _ _ ?_);refine nJ ?_;refine nZ ?_;refine qUp (v:= .int .i64 (qF (l.length:Int) (l2.length:Int))) (rs:=[.cell 4 3]) Z20 kr (Res.cell (ad:=⟨b4,0,none⟩) (cs:=[.int .i64 (qF (l.length:Int) (l2.length:Int))]) (g:=false) kr kr kr ir (G21.cells 0 rfl rfl) Res.nil) kr ?_;exact⟨G21.upd,_,rfl,zO (zZr h.hlt h2.hlt c1 c2 F18)⟩;have Z22:=Z15.set 15 (v':= .bool false) kr rfl (zK J16);have F23:(qF (l.length:Int) (l2.length:Int))=0:=by simpa using J16
 have hlen2:=lY F23;refine vX<|zA (hK6 _ _ ?_);refine zG (fun K24 hK24=>?_);refine zG (fun K25 hK25=>?_);refine zC<|zD 1 [(17,.slice ad l.length cap)] Z22 kr kr (fun a26 Z26=>?_);refine qO Z26 kr (yO (d:=18) (f:=263) (cap:=#[]) (vs:=#[.slice ad l.length cap]) Z26 kr G11 rfl kr kr (fun w=>Tryz.call263 _ w) (zFx _ _ G11.lt ad l.length cap) ?_);rintro v27 w27 G27 C27 Q27 ⟨bx27,rfl,hge27,hget27⟩ a28 Z28;have G29:=St.adopt G27 (fun o h=>Nat.not_lt.2 hge27 (G11.lt _ _ h)) (Nat.le_trans G11.upd.size hge27) hget27;have C29:=Le.adopt C27 hge27;refine zH<|zA (hK25 _ _ ?_);refine jZ<|zGs (f:=280) (caps:=#[.pointer (some ⟨bx27,0,none⟩)]) Z28 G29 kr kr (fun args w=>Tryz.call280 args w) fun rec30 l30 b30 w30 Y30 hr30 G30 C30 Q30=>?_;have Z31:=zCy b30 Z28;refine zEc l30 bx27 ad l.length cap l rfl (by omega) (fun k w'=>∃(Y':Hid),St E0 w X w' Y' [(l30,.loop rec30),(b30,.deferred (some [])),(bx27,.cells #[.slice ad l.length cap] 26 (0,0)),(b4,.cells #[.int .i64 0] 3 (0,0)),(b2,.cells #[.slice ad2 l2.length T2] 26 (0,0))]∧Le (rd w30 Y30) (rd w' Y')∧(∀j,k≤j→j<l.length→l.getD j 0=l2.getD j 0)) _ ?_ ?_ ?_ ?_ _ ?_
 rintro k w32 ⟨Y32,G32,C32,hp32_0⟩;exact G32.at0 2 rfl rfl;rintro k w33 ⟨Y33,G33,C33,hp33_0⟩;intro hk;obtain⟨b,off,rfl,_⟩:=h.addr (by omega)
 exact⟨b,off,rfl,((h.cell (i:=k) (by omega)).mono (Le6 C2 C4 C11 C29 C30 C33)).mono Le.x0⟩
 intro k w34 hk;rintro⟨Y34,G34,C34,hp34_0⟩;refine zIo (p:=19) (q:=20) hr30 Z28 G34 kr kr (fun a35 Z35=>?_);obtain⟨bk36,of37,rfl,_⟩:=h2.addr (by omega)
 refine zG (fun K38 hK38=>?_);refine zC<|zD 1 [(6,.int .i64 (k:Int))] Z35 kr kr (fun a39 Z39=>?_);refine zH<|zA (hK38 _ _ ?_);refine zC<|zD 1 [(7,.int .u32 ((l.getD k 0:Nat):Int))] Z39 kr kr (fun a40 Z40=>?_);refine zH<|zA<|zCk hr30 G34 (fun w41 G41 C41=>?_);refine jZ<|zG (fun K42 hK42=>?_);refine zC<|zD 1 [(21,.int .u32 ((l.getD k 0:Nat):Int))] Z40 kr kr (fun a43 Z43=>?_);refine qO Z43 kr (zF (d:=22) (v:= .slice (some ⟨bk36,of37,none⟩) l2.length T2) Z43 kr (zB (t:=26) (g:=false) (vs:=[.slice (some ⟨bk36,of37,none⟩) l2.length T2]) (ad:=⟨b2,0,none⟩) rfl kr kr ir (G41.cells 4 rfl rfl)) ?_);intro a44 Z44;refine zD 1 [(23,.int .i64 (k:Int))] Z44 kr kr (fun a45 Z45=>?_);refine qO Z45 kr (zF (d:=24) (v:= .pointer (some ⟨bk36,of37+k,none⟩)) Z45 kr (qV (t:=26) (e:=214) (b:=bk36) (off:=of37) (len:=l2.length) (cap:=T2) (kd:= .i64) (i:=(k:Int)) (g:=false) (m:=1) (off':=of37+k) rfl kr kr kr kr (by omega) (by omega) (by first | rfl | omega | (simp;done) | (simp;omega)) _) ?_)
 intro a46 Z46;refine qO Z46 kr (zF (d:=25) (v:= .int .u32 ((l2.getD k 0:Nat):Int)) Z46 kr (zB (t:=214) (g:=false) (vs:=[.int .u32 ((l2.getD k 0:Nat):Int)]) (ad:=⟨bk36,of37+k,none⟩) rfl kr kr ir ((h2.cell (i:=k) (by omega)).mono (Le7 C2 C4 C11 C29 C30 C34 C41)).cells) ?_)
 intro a47 Z47;refine qO Z47 kr (yO (d:=26) (f:=264) (cap:=#[]) (vs:=#[.int .u32 ((l.getD k 0:Nat):Int),.int .u32 ((l2.getD k 0:Nat):Int)]) Z47 kr G41 rfl kr kr (fun w=>Tryz.call264 _ w) (zGf _ _ G41.lt ((l.getD k 0:Nat):Int) ((l2.getD k 0:Nat):Int)) ?_);rintro v48 w48 G48 C48 Q48 rfl a49 Z49;refine zD 1 [(8,.int .i64 (qF ((l.getD k 0:Nat):Int) ((l2.getD k 0:Nat):Int)))] Z49 kr kr (fun a50 Z50=>?_);refine zH<|zA (hK42 _ _ ?_);refine zG (fun K51 hK51=>?_);refine zC<|zD 2 [(28,.bool ((qF ((l.getD k 0:Nat):Int) ((l2.getD k 0:Nat):Int))!=0)),(27,.int .i64 (qF ((l.getD k 0:Nat):Int) ((l2.getD k 0:Nat):Int)))] Z50 kr kr (fun a52 Z52=>?_);refine zH<|zA (hK51 _ _ ?_);refine pJ ((qF ((l.getD k 0:Nat):Int) ((l2.getD k 0:Nat):Int))!=0) Z52 kr kr (fun J53=>?_) (fun J53=>?_);have Z54:=Z52.set 28 (v':= .bool true) kr rfl (zK J53);have F55:(qF ((l.getD k 0:Nat):Int) ((l2.getD k 0:Nat):Int))≠0:=by simpa using J53
 refine zG (fun K56 hK56=>?_);refine zC<|zD 1 [(29,.int .i64 (qF ((l.getD k 0:Nat):Int) ((l2.getD k 0:Nat):Int)))] Z54 kr kr (fun a57 Z57=>?_);refine qO Z57 kr (zE (t:=3) (b:=b4) (off:=0) (c':=#[.int .i64 (qF ((l.getD k 0:Nat):Int) ((l2.getD k 0:Nat):Int))]) (g:=false) (m:=1) 3 _ Z57 kr G48 rfl kr rfl kr kr kr rfl (by first | decide | (simp;done)) kr rfl ?_)
 intro w58 G58 C58;refine zH<|zA (hK56 _ _ ?_);refine nJ ?_;refine dA ?_;refine qXw G58 (fun w59 G59 C59=>xI.stop (vB.ret G59 (fun w60 G60 C60=>?_)));refine dA ?_;refine nZ<|zMo (v:= .int .i64 (qF ((l.getD k 0:Nat):Int) ((l2.getD k 0:Nat):Int))) (rs:=[.cell 4 3]) (vs:=[.int .i64 (qF ((l.getD k 0:Nat):Int) ((l2.getD k 0:Nat):Int))]) 1 Z31 G60 rfl kr kr (fun w61 G61 C61=>?_);refine⟨(Res.cell (ad:=⟨b4,0,none⟩) (cs:=[.int .i64 (qF ((l.getD k 0:Nat):Int) ((l2.getD k 0:Nat):Int))]) (g:=false) kr kr kr ir (G61.cells 3 rfl rfl) Res.nil),?_⟩;exact⟨G61.upd,_,rfl,zO (zZs h.hlt h2.hlt hlen2 k (by omega) hp34_0 F55)⟩
 have Z62:=Z52.set 28 (v':= .bool false) kr rfl (zK J53);have F63:(qF ((l.getD k 0:Nat):Int) ((l2.getD k 0:Nat):Int))=0:=by simpa using J53
 refine vX ?_;refine jX ?_;refine lJ hr30 G48 (fun w64 G64 C64=>xI.next ?_);exact⟨_,G64,(Le4 C34 C41 C48 C64),fun j hj hl=>(by rcases Nat.eq_or_lt_of_le hj with rfl | h9;exact lY F63;exact hp34_0 j h9 hl)⟩
 rintro w65 ⟨Y65,G65,C65,hp65_0⟩;refine vB.norm hr30 G65 (fun w66 G66 C66=>?_);refine jX<|zA (hK24 _ _ ?_);refine zG (fun K67 hK67=>?_);refine zC ?_;refine qO Z31 kr (zE (t:=3) (b:=b4) (off:=0) (c':=#[.int .i64 0]) (g:=false) (m:=1) 3 _ Z31 kr G66 rfl kr rfl kr kr kr rfl (by first | decide | (simp;done)) kr rfl ?_)
 intro w68 G68 C68;refine zH<|zA (hK67 _ _ ?_);refine nJ<|zMo (v:= .int .i64 0) (rs:=[.cell 4 3]) (vs:=[.int .i64 0]) 1 Z31 G68 rfl kr kr (fun w69 G69 C69=>?_);refine⟨(Res.cell (ad:=⟨b4,0,none⟩) (cs:=[.int .i64 0]) (g:=false) kr kr kr ir (G69.cells 3 rfl rfl) Res.nil),?_⟩;exact⟨G69.upd,_,rfl,zO (qGl hlen2 hp65_0)⟩;exact⟨_,G30,Le.refl _,fun j hj hl=>absurd hl (Nat.not_lt.2 hj)⟩
set_option maxHeartbeats 1000000
theorem zAs{l l2:List Nat}(h:xM l l2=0):(l.length≤512∧zQ l)∧(l2.length≤512∧zQ l2):=by
 have h1:qY l=0∧qY l2=0:=by
  unfold xM at h;simp only[orL]at h;split at h
  ·rename_i h1;split at h
   ·rename_i h2;exact⟨h1,h2⟩
   ·contradiction
  ·contradiction
 exact⟨rH h1.1,rH h1.2⟩
theorem qDd(ad:Option Addr)(cap:Nat)(l:List Nat):∃a1 a2 a3,(if 512<qK l then Value.tuple #[.slice none 0 0,.int .i64 4]else .tuple #[.slice ad (qK l) cap,.int .i64 0])= .tuple #[.slice a1 a2 a3,.int .i64 (qKg l)]:=by
 unfold qKg;split<;>exact⟨_,_,_,rfl⟩
theorem qXx(w:World)(X:Hid)(hX:∀k o,X k o→k<w.heap.size)(ad:Option Addr)(len cap:Nat)(l:List Nat)(h:zL (rd w X) ad len cap l)(ad2:Option Addr)(len2 T2:Nat)(l2:List Nat)(h2:zL (rd w X) ad2 len2 T2 l2):Calls Tryz.prog 231 #[.slice ad len cap,.slice ad2 len2 T2] w (Ret E0 w fun w' v=>zEr 214 w w' (or2 (xM l l2) (zZa (val l+val l2))) (val l+val l2) v):=by
 obtain rfl:=h.hlen;obtain rfl:=h2.hlen;have hcap:=h.hcap;have hbig:=h.hbig;have hcap2:=h2.hcap;have hbig2:=h2.hbig;refine zen Tryz.func231 ?_;have G0:St E0 w X w X []:=St.start hX;refine zz 11<|zc G0 (zAo _ X0 (zT _) _ _ _ l (h.mono Le.x0) _ _ _ l2 (h2.mono Le.x0)) ?_;rintro v3 w3 G3 C3 Q3 rfl;refine zz 9<|zb 12 (b:=((xM l l2)!=0)) (fun J4=>?_) (fun J4=>?_);have F5:(xM l l2)≠0:=by simpa using J4
 refine zz 10<|zr' (v:= .tuple #[.slice none 0 0,.int .i64 (xM l l2)]) ?_;exact⟨G3.upd,_,rfl,by rw[mX F5];exact .inl ⟨F5,rfl⟩⟩
 have F6:(xM l l2)=0:=by simpa using J4
 obtain⟨⟨hl1,c1⟩,hl2,c2⟩:=zAs F6;refine zz 10<|zs 18 (v:= .int .i64 (if(l2.length:Int)>(l.length:Int)then(l2.length:Int)else(l.length:Int))) (v':= .int .i64 ((max l.length l2.length:Nat):Int)) (zO (by split<;>omega))<|zz 1<|zw 19 (x:=((max l.length l2.length+1:Nat):Int))<|zop (at1 [] Tryz.f231 [1,1,0]) 6 (fun a7 _ Z7 hz7=>gT (l:=((max l.length l2.length+1:Nat):Int)) (e:=214) (z:= .int .u32 0) (i0:=Tryz.t214) (max l.length l2.length+1) 4 Z7 G3 ?_)
 intro b8 w8 Y8 G8 C8 Q8 a9 Z9;have D8:=zR.zeros (max l.length l2.length+1) (by simp only[maxLen];omega)
 refine hz7 Z9<|zz 7<|zop (at1 [] Tryz.f231 [1,1,1,0]) 2 (fun a10 _ Z10 hz10=>zZo (l2:=l) 0 Z10 G8 rfl D8 (h.mono (Le2 C3 C8)) (by omega) ?_)
 intro cur11 w11 D11 G11 C11 a12 Z12;refine hz10 Z12<|zz 6<|zcE 0 G11 rfl (qPd _ b8 (max l.length l2.length+1) (max l.length l2.length+1) _ (l++List.drop l.length (List.replicate (max l.length l2.length+1) 0)) (G11.get 0 rfl) D11 (by omega) _ _ _ l2 ((h2.mono (Le3 C3 C8 C11)).mono (G11.leHG 0 rfl)) 0 (by omega) (by rw[bY];exact qBd h.hlt h2.hlt)) ?_
 rintro v14 w14 ob14 ⟨rfl,cur14,ls14,hg14,D14,hval14⟩ hob14 G14 C14;obtain rfl:=Option.some.inj (hob14.symm.trans hg14);refine zz 5<|zc G14 (qPn _ X0 (zT _) _ _ _ ls14 (zR.limbs (Y:=X0) D14 (G14.get 0 rfl) (fun _ h=>h.elim))) ?_ (vs:=#[.slice (some ⟨b8,0,none⟩) (max l.length l2.length+1) (max l.length l2.length+1)]);rintro v16 w16 G16 C16 Q16 hfit16;obtain⟨af16,lf16,cf16,hfe16⟩:=qDd (some ⟨b8,0,none⟩) (max l.length l2.length+1) ls14;cases(hfit16.trans hfe16);refine zz 7<|zr' (v:= .tuple #[.slice af16 lf16 cf16,.int .i64 (qKg ls14)]) ?_;exact⟨G16.upd,_,rfl,by rw[xL F6];exact zEr.fit D14 (G16.get 0 rfl) (G16.own_ge 0 rfl) (by have h9:=hval14;rw[bY]at h9;omega) hfe16.symm⟩
set_option maxHeartbeats 1000000
theorem zNp(w:World)(X:Hid)(hX:∀k o,X k o→k<w.heap.size)(ad2:Option Addr)(len2 T2:Nat)(hl0:len2=0)(J2:T2≤9223372036854775807):Calls Tryz.prog 226 #[.slice none 0 0,.slice ad2 len2 T2] w (Ret E0 w fun _ v=>v= .slice none 0 0):=by
 subst hl0;refine zen Tryz.func226 ?_;have G0:St E0 w X w X []:=St.start hX;refine zz 19<|zVd<|zz 21<|zVd<|zz 16<|zc G0 (zAj _ _ G0.lt _ _ _ ([]) (zL.nil (r:=rd w X) (cap:=0) none (by omega))) ?_ (vs:=#[.slice none 0 0])
 rintro v3 w3 G3 C3 Q3 rfl;refine zz 4<|zr' (v:= .slice none (qK ([])) 0) ?_;exact⟨G3.upd,_,rfl,rfl⟩
def zUu(x y:Nat):Int:=if x<y then 7 else 0
theorem zOz{x y:Nat}(h:qF (x:Int) (y:Int)<0):x<y:=by unfold qF at h;(repeat' split at h)<;>omega
theorem zOy{x y:Nat}(h:¬qF (x:Int) (y:Int)<0):y≤x:=by unfold qF at h;(repeat' split at h)<;>omega
theorem qOz(w:World)(X:Hid)(hX:∀k o,X k o→k<w.heap.size)(ad:Option Addr)(len cap:Nat)(l:List Nat)(h:zL (rd w X) ad len cap l)(ad2:Option Addr)(len2 T2:Nat)(l2:List Nat)(h2:zL (rd w X) ad2 len2 T2 l2):Calls Tryz.prog 232 #[.slice ad len cap,.slice ad2 len2 T2] w (Ret E0 w fun w' v=>zEr 214 w w' (or2 (xM l l2) (zUu (val l) (val l2))) (val l-val l2) v):=by
 obtain rfl:=h.hlen;obtain rfl:=h2.hlen;have hcap:=h.hcap;have hbig:=h.hbig;have hcap2:=h2.hcap;have hbig2:=h2.hbig;have hbig2c:=h2.hbig;refine zen Tryz.func232 ?_;have G0:St E0 w X w X []:=St.start hX;refine zz 11<|zc G0 (zAo _ X0 (zT _) _ _ _ l (h.mono Le.x0) _ _ _ l2 (h2.mono Le.x0)) ?_;rintro v3 w3 G3 C3 Q3 rfl;refine zz 11<|zb 10 (b:=((xM l l2)!=0)) (fun J4=>?_) (fun J4=>?_);have F5:(xM l l2)≠0:=by simpa using J4
 refine zz 11<|zr' (v:= .tuple #[.slice none 0 0,.int .i64 (xM l l2)]) ?_;exact⟨G3.upd,_,rfl,by rw[mX F5];exact .inl ⟨F5,rfl⟩⟩
 have F6:(xM l l2)=0:=by simpa using J4
 obtain⟨⟨hl1,c1⟩,hl2,c2⟩:=zAs F6;refine zz 5<|zc G3 (zBq _ X0 (zT _) _ _ _ l ((h.mono C3).mono Le.x0) _ _ _ l2 ((h2.mono C3).mono Le.x0) c1 c2 (by omega)) ?_
 rintro v8 w8 G8 C8 Q8 rfl;refine zz 4<|zt 14 (p:=(qF (val l) (val l2))<0) (fun F9=>?_) (fun F9=>?_);have hcmp:=zOz F9;refine zz 10<|zr' (v:= .tuple #[.slice none 0 0,.int .i64 7]) ?_;exact⟨G8.upd,_,rfl,by rw[xL F6,zUu,if_pos hcmp];exact .inl ⟨by decide,rfl⟩⟩
 have hcmp:=zOy F9;refine zz 7<|zc G8 (zAv _ X0 (zT _) _ _ _ l ((h.mono (Le2 C3 C8)).mono Le.x0) (by omega)) ?_
 rintro v11 w11 G11 C11 Q11 ⟨ad11,len11,T11,how11⟩;rcases how11 with⟨rfl,hlen11,hlt11,⟨rfl,rfl,rfl⟩ | ⟨g11,cur11,rfl,hge11,hget11,D11⟩⟩
 have hnil11:l=[]:=List.eq_nil_of_length_eq_zero hlen11.symm;refine zz 1 ?_;have hnil2:l2=[]:=aF c2 (by have:=hcmp;rw[hnil11]at this;simp only[val]at this;omega)
 refine zc G11 (zNp _ X0 (zT _) _ _ _ (by rw[hnil2];rfl) hbig2c) ?_ (vs:=#[.slice none 0 0,.slice ad2 l2.length T2])
 rintro v14 w14 G14 C14 Q14 rfl;refine zz 5<|zr' (v:= .tuple #[.slice none 0 0,.int .i64 0]) ?_;exact⟨G14.upd,_,rfl,.inr ⟨by rw[xL F6,zUu,if_neg (by omega)],_,[],_,_,_,rfl,⟨⟨rfl,rfl,fun x hx=>by simp at hx,.inl ⟨rfl,rfl,rfl⟩⟩,.inl rfl,by rw[hnil11];simp[val]⟩,by simp⟩⟩
 subst hlen11;have G12:=St.adopt G11 (fun o h=>Nat.not_lt.2 hge11 (G8.lt _ _ h)) (Nat.le_trans G8.upd.size hge11) hget11;have C12:=Le.adopt C11 hge11;refine zz 1<|zcE 0 G12 rfl (sU _ g11 l.length T11 _ l (G12.get 0 rfl) D11 (by omega) _ _ _ l2 ((h2.mono (Le3 C3 C8 C12)).mono (G12.leHG 0 rfl)) (zU h.hlt c2 (by omega)) (by omega)) ?_
 rintro v16 w16 ob16 ⟨cur16,ls16,rfl,hg16,D16,hcan16,hval16⟩ hob16 G16 C16;obtain rfl:=Option.some.inj (hob16.symm.trans hg16);refine zz 5<|zr' (v:= .tuple #[.slice (some ⟨g11,0,none⟩) ls16.length T11,.int .i64 0]) ?_;exact⟨G16.upd,_,rfl,.inr ⟨by rw[xL F6,zUu,if_neg (by omega)],_,ls16,_,_,_,rfl,⟨⟨rfl,rfl,D16.lt,.inr ⟨_,_,rfl,G16.own_ge 0 rfl,G16.get 0 rfl,D16⟩⟩,hcan16,hval16⟩,Nat.le_trans (zU h.hlt hcan16 (by omega)) hl1⟩⟩
set_option maxHeartbeats 1000000
theorem qYd(w:World)(X:Hid)(hX:∀k o,X k o→k<w.heap.size)(ad:Option Addr)(len cap:Nat)(l:List Nat)(h:zL (rd w X) ad len cap l)(ad2:Option Addr)(len2 T2:Nat)(l2:List Nat)(h2:zL (rd w X) ad2 len2 T2 l2):Calls Tryz.prog 230 #[.slice ad len cap,.slice ad2 len2 T2] w (Ret E0 w fun w' v=>zEr 214 w w' (or2 (xM l l2) (zZa (val l*val l2))) (val l*val l2) v):=by
 obtain rfl:=h.hlen;obtain rfl:=h2.hlen;have hcap:=h.hcap;have hbig:=h.hbig;have hcap2:=h2.hcap;have hbig2:=h2.hbig;refine zen Tryz.func230 ?_;have G0:St E0 w X w X []:=St.start hX;refine zz 11<|zc G0 (zAo _ X0 (zT _) _ _ _ l (h.mono Le.x0) _ _ _ l2 (h2.mono Le.x0)) ?_;rintro v3 w3 G3 C3 Q3 rfl;refine zz 9<|zb 18 (b:=((xM l l2)!=0)) (fun J4=>?_) (fun J4=>?_);have F5:(xM l l2)≠0:=by simpa using J4
 refine zz 10<|zr' (v:= .tuple #[.slice none 0 0,.int .i64 (xM l l2)]) ?_;exact⟨G3.upd,_,rfl,by rw[mX F5];exact .inl ⟨F5,rfl⟩⟩
 have F6:(xM l l2)=0:=by simpa using J4
 obtain⟨⟨hl1,c1⟩,hl2,c2⟩:=zAs F6;refine zz 10<|zw 24 (x:=((l.length+l2.length:Nat):Int))<|zz 1<|zw 25 (x:=((l.length+l2.length+1:Nat):Int))<|zop (at1 [] Tryz.f230 [1,1,0]) 6 (fun a7 _ Z7 hz7=>gT (l:=((l.length+l2.length+1:Nat):Int)) (e:=214) (z:= .int .u32 0) (i0:=Tryz.t214) (l.length+l2.length+1) 4 Z7 G3 ?_);intro b8 w8 Y8 G8 C8 Q8 a9 Z9;have D8:=zR.zeros (l.length+l2.length+1) (by simp only[maxLen];omega)
 refine hz7 Z9<|zz 12<|zlp Tryz.f230 [] [1,1,1,0,1,0] (fun(i:Nat)=>[(1,.slice ad2 l2.length T2),(7,.slice (some ⟨b8,0,none⟩) (l.length+l2.length+1) (l.length+l2.length+1)),(27,.slice ad l.length cap),(28,.int .i64 (l.length:Int)),(29,.int .i64 (i:Int))]) (fun(i:Nat)w1=>∃(Y1:Hid)(cur1:Array Value)(l1:List Nat),St E0 w X w1 Y1 [(b8,.cells cur1 214 (0,0))]∧Le (rd w8 Y8) (rd w1 Y1)∧(zR (l.length+l2.length+1) (l.length+l2.length+1) cur1 l1)∧(i≤l.length)∧(val l1=val (l.take i)*val l2)) (fun(i:Nat)=>l.length-i) 0 ?_ ?_;refine⟨_,(List.replicate (l.length+l2.length+1) (Value.int .u32 0)).toArray,(List.replicate (l.length+l2.length+1) 0),G8,Le.refl _,D8,Nat.zero_le _,by simp[val,kJ]⟩
 rintro i w10 K10 hK10 ⟨Y10,cur1,l1,G10,C10,hp10_0,hp10_1,hp10_2⟩;have D1:=hp10_0;have hlen1:=D1.len;have hlti:=h.getD_lt i;refine zz 6<|zt 30 (p:=(i:Int)<(l.length:Int)) (fun F11=>?_) (fun F11=>?_);obtain⟨bk12,of13,rfl,_⟩:=h.addr (by omega)
 refine zz 8<|zi (b:=bk12) (off:=of13) (len:=l.length) (cap:=cap) (kd:= .i64) (i:=(i:Int)) 1 (of13+i)<|zl ((h.cell (i:=i) (by omega)).mono (Le3 C3 C8 C10)).cells<|zz 9<|zw 36 (x:=((l2.length+1:Nat):Int))<|zop (at1 [K10] Tryz.f230 [1,1,1,0,1,0,0,1,1,0,0,1,0]) 3 (fun a14 _ Z14 hz14=>gT (l:=((l2.length+1:Nat):Int)) (e:=214) (z:= .int .u32 0) (i0:=Tryz.t214) (l2.length+1) 4 Z14 G10 ?_)
 intro b15 w15 Y15 G15 C15 Q15 a16 Z16;have D15:=zR.zeros (l2.length+1) (by simp only[maxLen];omega)
 refine hz14 Z16<|zz 12<|zlp Tryz.f230 [K10] [1,1,1,0,1,0,0,1,1,0,0,1,1,0,1,0] (fun(j:Nat)=>[(1,.slice ad2 l2.length T2),(7,.slice (some ⟨b8,0,none⟩) (l.length+l2.length+1) (l.length+l2.length+1)),(8,.int .i64 (i:Int)),(9,.int .u32 ((l.getD i 0:Nat):Int)),(10,.slice (some ⟨b15,0,none⟩) (l2.length+1) (l2.length+1)),(27,.slice (some ⟨bk12,of13,none⟩) l.length cap),(28,.int .i64 (l.length:Int)),(29,.int .i64 (i:Int)),(38,.slice ad2 l2.length T2),(39,.int .i64 (l2.length:Int)),(40,.int .i64 (j:Int))]) (fun(j:Nat)w1=>∃(Y1:Hid)(cur2:Array Value)(lp:List Nat),St E0 w X w1 Y1 [(b15,.cells cur2 214 (0,0)),(b8,.cells cur1 214 (0,0))]∧Le (rd w15 Y15) (rd w1 Y1)∧(zR (l2.length+1) (l2.length+1) cur2 lp)∧(j≤l2.length)∧(val lp=l.getD i 0*val (l2.take j))∧(∀t,j<t→lp.getD t 0=0)) (fun(j:Nat)=>l2.length-j) 0 ?_ ?_;refine⟨_,(List.replicate (l2.length+1) (Value.int .u32 0)).toArray,(List.replicate (l2.length+1) 0),G15,Le.refl _,D15,Nat.zero_le _,by simp[val,kJ],fun t _=>by by_cases ht:t<l2.length+1<;>simp[List.getD_eq_getElem?_getD,ht]⟩
 rintro j w17 K17 hK17 ⟨Y17,cur2,lp,G17,C17,hp17_0,hp17_1,hp17_2,hp17_3⟩;have D2:=hp17_0;have hlen2:=D2.len;have hltj:=h2.getD_lt j;have hltp:=D2.getD_lt j;have hmul:l.getD i 0*l2.getD j 0≤4294967295*4294967295:=Nat.mul_le_mul (by omega) (by omega)
 refine zz 6<|zt 41 (p:=(j:Int)<(l2.length:Int)) (fun F18=>?_) (fun F18=>?_);obtain⟨bk19,of20,rfl,_⟩:=h2.addr (by omega)
 refine zz 8<|zi (b:=bk19) (off:=of20) (len:=l2.length) (cap:=T2) (kd:= .i64) (i:=(j:Int)) 1 (of20+j) ?_;have J1_:=(Le4 C3 C8 C10 C15).trans C17;refine zl ((h2.cell (i:=j) (by omega)).mono J1_).cells<|zz 8<|zs 46 (v:= .int .u64 (IntKind.u64.wrap (((l.getD i 0:Nat):Int)))) (v':= .int .u64 ((l.getD i 0:Nat):Int)) (zO (wX (by omega) (by omega)))<|zz 2<|zs 48 (v:= .int .u64 (IntKind.u64.wrap (((l2.getD j 0:Nat):Int)))) (v':= .int .u64 ((l2.getD j 0:Nat):Int)) (zO (wX (by omega) (by omega)))<|zz 1<|zs 49 (v:= .int .u64 (IntKind.u64.wrap (((l.getD i 0:Nat):Int)*((l2.getD j 0:Nat):Int)))) (v':= .int .u64 ((l.getD i 0*l2.getD j 0:Nat):Int)) (zO ((wX (by rw[←Int.natCast_mul];omega) (by rw[←Int.natCast_mul];omega)).trans (Int.natCast_mul _ _).symm))<|zz 2<|zi (b:=b15) (off:=0) (len:=(l2.length+1)) (cap:=(l2.length+1)) (kd:= .i64) (i:=(j:Int)) 1 j ?_
 refine zl (ad:=⟨b15,j,none⟩) (G17.rowCells 0 rfl D2 (by have:=D2.len;(try simp only[List.length_set]at *);omega))<|zz 1<|zs 54 (v:= .int .u64 (IntKind.u64.wrap (((lp.getD j 0:Nat):Int)))) (v':= .int .u64 ((lp.getD j 0:Nat):Int)) (zO (wX (by omega) (by omega)))<|zz 1<|zs 55 (v:= .int .u64 (IntKind.u64.wrap (((l.getD i 0*l2.getD j 0:Nat):Int)+((lp.getD j 0:Nat):Int)))) (v':= .int .u64 ((l.getD i 0*l2.getD j 0+lp.getD j 0:Nat):Int)) (zO (wX (by omega) (by omega)))<|zz 9<|zw 60 (x:=((j+1:Nat):Int))<|zz 2<|zs 62 (v:= .int .u32 (IntKind.u32.wrap (((l.getD i 0*l2.getD j 0+lp.getD j 0:Nat):Int)))) (v':= .int .u32 (((l.getD i 0*l2.getD j 0+lp.getD j 0) % 4294967296:Nat):Int)) (zO (by rw[yD];omega)) ?_
 refine zz 2<|zs 64 (v:= .int .u64 (Int.fdiv (((l.getD i 0*l2.getD j 0+lp.getD j 0:Nat):Int)) (2^32))) (v':= .int .u64 (((l.getD i 0*l2.getD j 0+lp.getD j 0) / 4294967296:Nat):Int)) (zO (by rw[vF _ 32 (c:=4294967296) (by decide) (by decide)];omega))<|zz 1<|zs 65 (v:= .int .u32 (IntKind.u32.wrap ((((l.getD i 0*l2.getD j 0+lp.getD j 0) / 4294967296:Nat):Int)))) (v':= .int .u32 (((l.getD i 0*l2.getD j 0+lp.getD j 0) / 4294967296:Nat):Int)) (zO (by rw[yD];omega))<|zi (b:=b15) (off:=0) (len:=(l2.length+1)) (cap:=(l2.length+1)) (kd:= .i64) (i:=(j:Int)) 1 j<|zop (at1 [K10,K17] Tryz.f230 [1,1,1,0,1,0,0,1,1,0,0,1,1,0,1,0,0,1,1,0,0,1,1]) 11 (fun a21 _ Z21 hz21=>kD (y:=((l.getD i 0*l2.getD j 0+lp.getD j 0) % 4294967296)) (k:=j) (e:=(((l.getD i 0*l2.getD j 0+lp.getD j 0) % 4294967296:Nat):Int)) 0 Z21 G17 (by first | rfl | omega | (simp;omega)) rfl D2 (by have:=D2.len;(try simp only[List.length_set]at *);omega) (by first | omega | (simp;omega)) ?_)
 intro cur22 w22 D22 G22 C22;refine hz21 Z21<|zi (b:=b15) (off:=0) (len:=(l2.length+1)) (cap:=(l2.length+1)) (kd:= .i64) (i:=((j+1:Nat):Int)) 1 ((((j+1:Nat):Int)).toNat)<|zop (at1 [K10,K17] Tryz.f230 [1,1,1,0,1,0,0,1,1,0,0,1,1,0,1,0,0,1,1,0,0,1,1]) 13 (fun a23 _ Z23 hz23=>kD (y:=((l.getD i 0*l2.getD j 0+lp.getD j 0) / 4294967296)) (k:=(((j+1:Nat):Int)).toNat) (e:=(((l.getD i 0*l2.getD j 0+lp.getD j 0) / 4294967296:Nat):Int)) 0 Z23 G22 (by first | rfl | omega | (simp;omega)) rfl D22 (by have:=D22.len;(try simp only[List.length_set]at *);omega) (by first | omega | (simp;omega)) ?_)
 intro cur24 w24 D24 G24 C24;refine hz23 Z23<|zz 5<|zw 68 (x:=(j:Int)+1)<|zz 2 ?_;refine yE (fun a h=>hK17 (j+1) _ a h ⟨_,cur24,((lp.set j ((l.getD i 0*l2.getD j 0+lp.getD j 0) % 4294967296)).set ((((j+1:Nat):Int)).toNat) ((l.getD i 0*l2.getD j 0+lp.getD j 0) / 4294967296)),G24,(Le3 C17 C22 C24),D24,by omega,by rw[yA l2 j (by omega),Nat.mul_add,←Nat.mul_assoc];exact qLp lp j _ _ _ (by omega) (hp17_3 _ (by omega)) hp17_2,fun t ht=>by rw[jS (by omega),jS (by omega)];exact hp17_3 t (by omega)⟩ ?_)
 first | omega | (simp<;>omega)
 have hpv:val lp=l.getD i 0*val l2:=by have h9:=hp17_2;rwa[show j=l2.length by omega,List.take_length]at h9
 refine zz 10<|zcE 1 G17 rfl (qPd _ b8 (l.length+l2.length+1) (l.length+l2.length+1) _ l1 (G17.get 1 rfl) D1 (by omega) _ _ _ lp (zR.limbs (Y:=HG b8) D2 (G17.get 0 rfl) (fun o h=>G17.ne (i:=0) (j:=1) rfl rfl (by decide) h)) i (by omega) (by have h8:=hp10_2;rw[hp10_2,hpv];have h9:=yA l i (by omega);have e:val (l.take i)*val l2+4294967296^i*(l.getD i 0*val l2)=val (l.take (i+1))*val l2:=(by rw[h9,Nat.add_mul];congr 1;ac_rfl);rw[e];exact zGz (Nat.lt_of_le_of_lt (zEn _ _) (jU h.hlt)) (jU h2.hlt) (by omega))) ?_ (vs:=#[.slice (some ⟨b8,0,none⟩) (l.length+l2.length+1) (l.length+l2.length+1),.slice (some ⟨b15,0,none⟩) (l2.length+1) (l2.length+1),.int .i64 (i:Int)])
 rintro v26 w26 ob26 ⟨rfl,cur26,ls26,hg26,D26,hval26⟩ hob26 G26 C26;obtain rfl:=Option.some.inj (hob26.symm.trans hg26);refine zz 5<|zw 73 (x:=(i:Int)+1)<|zz 2 ?_;have J2_:=(Le3 C10 C15 C17).trans C26;refine yE (fun a h=>hK10 (i+1) _ a h ⟨_,cur26,ls26,G26.tail,J2_,D26,by omega,by have h8:=hval26;have h9:=hpv;rw[yA l i (by omega),Nat.add_mul,h8,h9,←hp10_2];have e:l.getD i 0*4294967296^i*val l2=4294967296^i*(l.getD i 0*val l2):=(by ac_rfl);omega⟩ ?_)
 first | omega | (simp<;>omega)
 have hfin:val l1=val l*val l2:=by have h9:=hp10_2;rwa[show i=l.length by omega,List.take_length]at h9
 refine zz 9<|zc G10 (qPn _ X0 (zT _) _ _ _ l1 (zR.limbs (Y:=X0) D1 (G10.get 0 rfl) (fun _ h=>h.elim))) ?_ (vs:=#[.slice (some ⟨b8,0,none⟩) (l.length+l2.length+1) (l.length+l2.length+1)]);rintro v28 w28 G28 C28 Q28 hfit28;obtain⟨af28,lf28,cf28,hfe28⟩:=qDd (some ⟨b8,0,none⟩) (l.length+l2.length+1) l1;cases(hfit28.trans hfe28);refine zz 7<|zr' (v:= .tuple #[.slice af28 lf28 cf28,.int .i64 (qKg l1)]) ?_;exact⟨G28.upd,_,rfl,by rw[xL F6];exact zEr.fit D1 (G28.get 0 rfl) (G28.own_ge 0 rfl) (hfin) hfe28.symm⟩
set_option maxHeartbeats 1000000
def qRx(T:TypeId)(Φ:List Nat→Prop)(g':Nat)(o':Obj)(v:Value):Prop:=∃cur' cap' l',o'= .cells cur' T (0,0)∧v= .slice (some ⟨g',0,none⟩) l'.length cap'∧zR l'.length cap' cur' l'∧Φ l'
theorem zPe(w:World)(g m cap:Nat)(cur:Array Value)(l:List Nat)(hg:w.heap[g]?=some (.cells cur 214 (0,0)))(hrow:zR m cap cur l)(hm:m≤1099511627776)(hcan:zQ l)(c0:Nat)(hc:c0≤1):
    Calls Tryz.prog 227 #[.slice (some ⟨g,0,none⟩) m cap,.int .u32 (c0:Int)] w (Ret (·=g) w fun w1 v=>∃g' o',w1.heap[g']?=some o'∧(w.heap.size≤g'∨g'=g)∧qRx 214 (fun l'=>l'.length≤m+1∧zQ l'∧val l'=2*val l+c0) g' o' v):=by
 refine zen Tryz.func227 ?_;have hX:∀k o,HG g k o→k<w.heap.size:=by rintro k o rfl;exact(Array.getElem?_eq_some_iff.1 hg).1
 have G0:St (·=g) w (HG g) w (HG g) [(g,.cells cur 214 (0,0))]:=St.startE g _ hX hg (fun _=>rfl);have hlen:=hrow.len;refine zz 14<|zlp Tryz.f227 [] [1,0,1,0] (fun((j,c):Nat×Nat)=>[(0,.slice (some ⟨g,0,none⟩) m cap),(1,.int .u32 (c:Int)),(7,.slice (some ⟨g,0,none⟩) m cap),(8,.int .i64 (m:Int)),(9,.int .i64 (j:Int))]) (fun((j,c):Nat×Nat)w1=>∃(Y1:Hid)(cur1:Array Value)(l1:List Nat),St (·=g) w (HG g) w1 Y1 [(g,.cells cur1 214 (0,0))]∧Le (rd w (HG g)) (rd w1 Y1)∧(zR m cap cur1 l1)∧(j≤l.length)∧(c≤1)∧(val l1+c*4294967296^j=(val l+c0)+val (l.take j))∧(∀t,j≤t→l1.getD t 0=l.getD t 0)) (fun((j,c):Nat×Nat)=>l.length-j) (0,c0) ?_ ?_
 ·
  refine⟨_,cur,l,G0,Le.refl _,hrow,Nat.zero_le _,hc,by simp[val],fun _ _=>rfl⟩
 rintro⟨j,c⟩ w2 K2 hK2 ⟨Y2,cur1,l1,G2,C2,hp2_0,hp2_1,hp2_2,hp2_3,hp2_4⟩;have D1:=hp2_0;have hlen1:=D1.len;have hlt1:=hrow.getD_lt j;have J1:=hp2_2;have hpre:=hp2_4;refine zz 6<|zt 10 (p:=(j:Int)<(m:Int)) (fun F3=>?_) (fun F3=>?_)
 ·
  refine zz 8<|zi (b:=g) (off:=0) (len:=m) (cap:=cap) (kd:= .i64) (i:=(j:Int)) 1 j<|zl (ad:=⟨g,j,none⟩) (G2.rowCells 0 rfl D1 (by have:=D1.len;(try simp only[List.length_set]at *);omega))<|zz 9<|zs 17 (v:= .int .u32 (IntKind.u32.wrap (((l1.getD j 0:Nat):Int)*2^1))) (v':= .int .u32 ((l.getD j 0*2 % 4294967296:Nat):Int)) (zO (by rw[yD,hpre j (Nat.le_refl _)];omega))<|zz 2<|zs 19 (v:= .int .u32 (sK ((l.getD j 0*2 % 4294967296:Nat):Int) (c:Int))) (v':= .int .u32 ((l.getD j 0*2 % 4294967296+c:Nat):Int)) (zO (qJn _ _ J1))<|zz 2<|zs 21 (v:= .int .u32 (Int.fdiv (((l1.getD j 0:Nat):Int)) (2^31))) (v':= .int .u32 ((l.getD j 0 / 2147483648:Nat):Int)) (zO (by rw[vF _ 31 (c:=2147483648) (by decide) (by decide),hpre j (Nat.le_refl _)];omega)) ?_
  refine zi (b:=g) (off:=0) (len:=m) (cap:=cap) (kd:= .i64) (i:=(j:Int)) 1 j<|zop (at1 [K2] Tryz.f227 [1,0,1,0,0,1,1,0,0,1]) 9 (fun a4 _ Z4 hz4=>kD (y:=(l.getD j 0*2 % 4294967296+c)) (k:=j) (e:=((l.getD j 0*2 % 4294967296+c:Nat):Int)) 0 Z4 G2 (by first | rfl | omega | (simp;omega)) rfl D1 (by have:=D1.len;(try simp only[List.length_set]at *);omega) (by omega) ?_)
  intro cur5 w5 D5 G5 C5;refine hz4 Z4<|zz 6<|zw 23 (x:=(j:Int)+1)<|zz 2 ?_;refine yE (fun a h=>hK2 ((j+1,l.getD j 0 / 2147483648)) _ a h ⟨_,cur5,(l1.set j (l.getD j 0*2 % 4294967296+c)),G5,(Le2 C2 C5),D5,by omega,by omega,qJw l l1 j c _ (by omega) (by omega) (hpre j (Nat.le_refl _)) hp2_3,fun t ht=>by rw[jS (by omega)];exact hpre t (by omega)⟩ ?_)
  first | omega | (simp<;>omega)
 have htot:val l1+c*4294967296^m=val l+c0+val l:=by have h9:=hp2_3;rwa[show j=l.length by omega,List.take_length,hlen]at h9
 refine zz 13<|zb 25 (b:=((c:Int)!=0)) (fun J6=>?_) (fun J6=>?_)
 ·
  have F7:(c:Int)≠0:=by simpa using J6
  have hcz:c=1:=by omega
  refine zz 4<|zn (fun b=> .slice (some ⟨b,0,none⟩) 1 1) (.cells #[.int .u32 (c:Int)] 214 (0,0)) G2 fun b9 w9 Y9 G9 C9 Q9=>zop (at1 [K2] Tryz.f227 [1,1,0,1,0]) 3 (fun a10 _ Z10 hz10=>zHh (b:=4) (m:=1) (c:=1) (size:=1) (ad:=⟨b9,0,none⟩) (xs:=U32 l1) (news:=[.int .u32 (c:Int)]) (i0:=Tryz.t214) (cur:=cur1) (nn:=m) (cap:=cap) (g:=g) (e:=214) 1 Z10 G9 rfl D1.row (G9.cells 0 rfl rfl) kr kr (by simp only[maxLen];omega) (by show(_+1)*4≤_;omega) ?_)
  intro g11 T11 cur11 w11 Y11 D11 G11 C11 a12 Z12;have hrw11:=zR.app D11 D1.lt (by omega:c<4294967296)
  refine hz10 Z12<|zz 10<|zr' (v:= .slice (some ⟨g11,0,none⟩) (m+1) T11) ?_;exact⟨G11.upd,_,rfl,g11,_,G11.get 1 rfl,G11.own_or 1 rfl,_,_,(l1++[c]),rfl,by rw[List.length_append,hlen1];rfl,by rw[List.length_append,hlen1];exact hrw11,by simp only[List.length_append,List.length_singleton];omega,zJi (by omega),by rw[fQ,hlen1];omega⟩
 have F13:(c:Int)=0:=by simpa using J6
 have hcz:c=0:=by omega
 refine zz 10<|zr' (v:= .slice (some ⟨g,0,none⟩) m cap) ?_;exact⟨G2.upd,_,rfl,g,_,G2.get 0 rfl,G2.own_or 0 rfl,_,_,l1,rfl,by rw[hlen1],by rw[hlen1];exact D1,by omega,zOv D1.lt (fun h0=>by rw[hcz]at htot;have h8:=wM hcan (fun e=>by rw[e]at hlen;simp at hlen;omega);rw[hlen1];rw[hlen]at h8;omega),by rw[hcz]at htot;omega⟩
theorem zSx(w:World)(X:Hid)(hX:∀k o,X k o→k<w.heap.size)(c0:Nat)(hc:c0≤1):Calls Tryz.prog 227 #[.slice none 0 0,.int .u32 (c0:Int)] w (Ret E0 w fun w1 v=>∃l' ad' len' cap',zAm 214 w w1 v l' ad' len' cap' c0∧l'.length≤1):=by
 refine zen Tryz.func227 ?_;have G0:St E0 w X w X []:=St.start hX;refine zz 14<|zVd<|zz 19<|zb 25 (b:=((c0:Int)!=0)) (fun J2=>?_) (fun J2=>?_);have F3:(c0:Int)≠0:=by simpa using J2
 refine zz 4<|zn (fun b=> .slice (some ⟨b,0,none⟩) 1 1) (.cells #[.int .u32 (c0:Int)] 214 (0,0)) G0 fun b5 w5 Y5 G5 C5 Q5=>zop (at1 [] Tryz.f227 [1,1,0,1,0]) 3 (fun a6 _ Z6 hz6=>zQp (b:=4) (m:=1) (c:=1) (size:=1) (ad:=⟨b5,0,none⟩) (news:=[.int .u32 (c0:Int)]) (i0:=Tryz.t214) (e:=214) Z6 G5 (G5.cells 0 rfl rfl) kr (by omega) (by simp only[maxLen];omega) (by show 1*4≤_;omega) ?_)
 intro g7 T7 cur7 w7 Y7 D7 G7 C7 a8 Z8;have hrw7:zR 1 T7 cur7 [c0]:=zR.app (m:=0) (l:=[]) D7 (fun x hx=>by simp at hx) (by omega)
 refine hz6 Z8<|zz 10<|zr' (v:= .slice (some ⟨g7,0,none⟩) 1 T7) ?_;exact⟨G7.upd,_,rfl,[c0],_,_,_,⟨⟨rfl,rfl,hrw7.lt,.inr ⟨_,_,rfl,G7.own_ge 0 rfl,G7.get 0 rfl,hrw7⟩⟩,zJi (l:=[]) (by omega),by simp[val]⟩,by simp⟩
 have F9:(c0:Int)=0:=by simpa using J2
 refine zz 10<|zr' (v:= .slice none 0 0) ?_;exact⟨G0.upd,_,rfl,[],_,_,_,⟨⟨rfl,rfl,fun x hx=>by simp at hx,.inl ⟨rfl,rfl,rfl⟩⟩,.inl rfl,by simp[val];omega⟩,by simp⟩
set_option maxHeartbeats 1000000
theorem zRv(l:List Nat):val l % 2=l.getD 0 0 % 2:=by
 rcases l with _ | ⟨x,l⟩
 ·simp[val]
 ·simp only[val,List.getD_cons_zero];omega
theorem zIe{k m v V:Nat}(h:v*2^k=V)(hp:0<v)(hV:V<4294967296^m):k<V∧k<32*m:=by
 have h1:1*2^k≤v*2^k:=Nat.mul_le_mul_right _ hp;have h2:k<2^k:=Nat.lt_two_pow_self;refine⟨by omega,?_⟩
 have h3:(4294967296:Nat)^m=2^(32*m):=by rw[Nat.pow_mul]
 have h4:2^k<2^(32*m):=by omega
 exact(Nat.pow_lt_pow_iff_right (by omega:1<2)).1 h4
theorem zFh(w:World)(g m cap:Nat)(cur:Array Value)(l:List Nat)(hg:w.heap[g]?=some (.cells cur 214 (0,0)))(hrow:zR m cap cur l)(hm:m≤1099511627776)(hcan:zQ l)(hpos:0<val l):
    Calls Tryz.prog 224 #[.slice (some ⟨g,0,none⟩) m cap] w (Ret (·=g) w fun w1 v=>∃k cur' l',v= .tuple #[.slice (some ⟨g,0,none⟩) l'.length cap,.int .i64 ((k:Nat):Int)]∧w1.heap[g]?=some (.cells cur' 214 (0,0))∧zR l'.length cap cur' l'∧zQ l'∧val l'*2^k=val l∧val l' % 2=1):=by
 refine zMn (n:=37) (vs:=[.slice (some ⟨g,0,none⟩) m cap]) Tryz.func224 rfl rfl rfl kr (fun a0 Z0=>?_);have Z0:Fr 37 a0 [(0,.slice (some ⟨g,0,none⟩) m cap)]:=Z0;have hX:∀k o,HG g k o→k<w.heap.size:=by rintro k o rfl;exact(Array.getElem?_eq_some_iff.1 hg).1
 have G0:St (·=g) w (HG g) w (HG g) [(g,.cells cur 214 (0,0))]:=St.startE g _ hX hg (fun _=>rfl);have hlen:=hrow.len;refine zG (fun K1 hK1=>?_);refine zC ?_;refine qO Z0 kr (mW (d:=1) (fun b=> .pointer (some ⟨b,0,none⟩)) (.cells #[.slice (some ⟨g,0,none⟩) m cap] 26 (0,0)) Z0 kr G0 kw ?_);intro b2 w2 Y2 G2 C2 Q2 a3 Z3;refine zD 2 [(3,.int .i64 0),(2,.slice none 0 0)] Z3 kr kr (fun a4 Z4=>?_);refine zH<|zA (hK1 _ _ ?_);refine zG (fun K5 hK5=>?_);refine zC<|zD 1 [(4,.int .i64 0)] Z4 kr kr (fun a6 Z6=>?_);refine zH<|zA (hK5 _ _ ?_);refine zG (fun K7 hK7=>?_);refine jZ ?_;refine pK (fun(k:Nat)ac w1=>∃(Y1:Hid)(bs:List Nat)(m1:Nat)(cur1:Array Value)(l1:List Nat),Fr 37 ac [(1,.pointer (some ⟨b2,0,none⟩)),(4,.int .i64 (k:Int))] (bs.map Go.Gv.mark)∧St (·=g) w (HG g) w1 Y1 ((b2,.cells #[.slice (some ⟨g,0,none⟩) m1 cap] 26 (0,0))::(g,.cells cur1 214 (0,0))::jK bs)∧Le (rd w2 Y2) (rd w1 Y1)∧(zR m1 cap cur1 l1)∧(zQ l1)∧(val l1*2^k=val l)) (fun(k:Nat)=>val l-k) 0 ?_ ?_
 ·
  refine⟨_,[],m,cur,l,Z6.as [1,4] kr kr,G2,Le.refl _,hrow,hcan,by simp⟩
 rintro k a8 w8 ⟨Y8,bs,m1,cur1,l1,Z8,G8,C8,hp8_0,hp8_1,hp8_2⟩;have D1:=hp8_0;have hlen1:=D1.len;have hcan1:=hp8_1;have hval1:=hp8_2;have hp1:0<val l1:=Nat.pos_of_ne_zero (fun e=>by rw[e]at hval1;omega)
 obtain⟨hkv,hkm⟩:=zIe hval1 hp1 (jU hrow.lt);rw[hlen]at hkm;have hm0:0<m1:=by rcases Nat.eq_zero_or_pos m1 with e | e;rw[List.eq_nil_of_length_eq_zero (hlen1.trans e)]at hp1;simp[val]at hp1;exact e
 have hm1:m1≤m:=by have:=zU hrow.lt hcan1 (by have:=Nat.le_mul_of_pos_right (val l1) (Nat.two_pow_pos k);omega);omega
 have hlt0:=D1.getD_lt 0;refine zG (fun K9 hK9=>?_);refine zG (fun K10 hK10=>?_);refine zC ?_;refine qO Z8 kr (zF (d:=8) (v:= .slice (some ⟨g,0,none⟩) m1 cap) Z8 kr (zB (t:=26) (g:=false) (vs:=[.slice (some ⟨g,0,none⟩) m1 cap]) (ad:=⟨b2,0,none⟩) rfl kr kr ir (G8.cells 0 rfl rfl)) ?_);intro a11 Z11;refine zD 2 [(10,.bool (decide ((m1:Int)>0))),(9,.int .i64 (m1:Int))] Z11 kr kr (fun a12 Z12=>?_);have Z13:=Z12.set 10 (v':= .bool true) kr rfl (zK (decide_eq_true (by omega)))
 refine zD 1 [(11,.bool true)] Z13 kr kr (fun a14 Z14=>?_);refine qO Z14 kr (zF (d:=12) (v:= .slice (some ⟨g,0,none⟩) m1 cap) Z14 kr (zB (t:=26) (g:=false) (vs:=[.slice (some ⟨g,0,none⟩) m1 cap]) (ad:=⟨b2,0,none⟩) rfl kr kr ir (G8.cells 0 rfl rfl)) ?_);intro a15 Z15;refine qO Z15 kr (zF (d:=13) (v:= .pointer (some ⟨g,0,none⟩)) Z15 kr (qV (t:=26) (e:=214) (b:=g) (off:=0) (len:=m1) (cap:=cap) (kd:= .i64) (i:=0) (g:=false) (m:=1) (off':=0) rfl kr kr kr kr (by omega) (by omega) kr _) ?_)
 intro a16 Z16;refine qO Z16 kr (zF (d:=14) (v:= .int .u32 ((l1.getD 0 0:Nat):Int)) Z16 kr (zB (t:=214) (g:=false) (vs:=[.int .u32 ((l1.getD 0 0:Nat):Int)]) (ad:=⟨g,0,none⟩) rfl kr kr ir (G8.rowCells 1 rfl D1 (by have:=D1.len;(try simp only[List.length_set]at *);omega))) ?_)
 intro a17 Z17;refine zD 1 [(15,.int .u32 (vU ((l1.getD 0 0:Nat):Int) 1))] Z17 kr kr (fun a18 Z18=>?_);have Z19:=Z18.set 15 (v':= .int .u32 ((l1.getD 0 0 % 2:Nat):Int)) kr rfl (zO (zOs _ hlt0));refine zD 2 [(17,.bool (((l1.getD 0 0 % 2:Nat):Int)==0)),(16,.bool (((l1.getD 0 0 % 2:Nat):Int)==0))] Z19 kr kr (fun a20 Z20=>?_);refine zH<|zA (hK10 _ _ ?_);refine pJ (((l1.getD 0 0 % 2:Nat):Int)==0) Z20 kr kr (fun J21=>?_) (fun J21=>?_)
 ·
  have Z22:=Z20.set 17 (v':= .bool true) kr rfl (zK J21);have F23:((l1.getD 0 0 % 2:Nat):Int)=0:=by simpa using J21
  have heven:val l1 % 2=0:=by rw[zRv];omega
  refine vX<|zA (hK9 _ _ ?_);refine jZ<|zG (fun K24 hK24=>?_);refine zC ?_;refine qO Z22 kr (mW (d:=5) (fun b=> .pointer (some ⟨b,0,none⟩)) (.cells #[.int .u32 0] 214 (0,0)) Z22 kr G8 kw ?_);intro b25 w25 Y25 G25 C25 Q25 a26 Z26;refine qO Z26 kr (zE (t:=214) (b:=b25) (off:=0) (c':=#[.int .u32 0]) (g:=false) (m:=1) 0 _ Z26 kr G25 rfl kr rfl kr kr kr rfl (by first | decide | (simp;done)) kr rfl ?_)
  intro w27 G27 C27;refine zH<|zA (hK24 _ _ ?_);refine zG (fun K28 hK28=>?_);refine zG (fun K29 hK29=>?_);refine zC ?_;refine qO Z26 kr (zF (d:=18) (v:= .slice (some ⟨g,0,none⟩) m1 cap) Z26 kr (zB (t:=26) (g:=false) (vs:=[.slice (some ⟨g,0,none⟩) m1 cap]) (ad:=⟨b2,0,none⟩) rfl kr kr ir (G27.cells 1 rfl rfl)) ?_);intro a30 Z30;refine qO Z30 kr (yO (d:=19) (f:=263) (cap:=#[]) (vs:=#[.slice (some ⟨g,0,none⟩) m1 cap]) Z30 kr G27 rfl kr kr (fun w=>Tryz.call263 _ w) (zFx _ _ G27.lt (some ⟨g,0,none⟩) m1 cap) ?_);rintro v31 w31 G31 C31 Q31 ⟨bx31,rfl,hge31,hget31⟩ a32 Z32;have G33:=St.adopt G31 (fun o h=>Nat.not_lt.2 hge31 (G27.lt _ _ h)) (Nat.le_trans G27.upd.size hge31) hget31;have C33:=Le.adopt C31 hge31;refine zH<|zA (hK29 _ _ ?_);refine jZ<|zGs (f:=280) (caps:=#[.pointer (some ⟨bx31,0,none⟩)]) Z32 G33 kr kr (fun args w=>Tryz.call280 args w) fun rec34 l34 b34 w34 Y34 hr34 G34 C34 Q34=>?_;have Z35:=zCy b34 Z32;refine zEc l34 bx31 (some ⟨g,0,none⟩) m1 cap l1 hlen1.symm (by omega) (fun k1 w'=>∃(Y':Hid)(cur2:Array Value)(l2:List Nat)(r:Nat),St (·=g) w (HG g) w' Y' ((l34,.loop rec34)::(b34,.deferred (some []))::(bx31,.cells #[.slice (some ⟨g,0,none⟩) m1 cap] 26 (0,0))::(b25,.cells #[.int .u32 ((r*2147483648:Nat):Int)] 214 (0,0))::(b2,.cells #[.slice (some ⟨g,0,none⟩) m1 cap] 26 (0,0))::(g,.cells cur2 214 (0,0))::jK bs)∧Le (rd w34 Y34) (rd w' Y')∧(zR m1 cap cur2 l2)∧(r≤1)∧(2*val l2+r*4294967296^k1=val l1+val (l1.take k1))∧(∀i,i<k1→l2.getD i 0=l1.getD i 0)) _ ?_ ?_ ?_ ?_ _ ?_
  ·
   rintro k1 w36 ⟨Y36,cur2,l2,r,G36,C36,hp36_0,hp36_1,hp36_2,hp36_3⟩;exact G36.at0 2 rfl rfl
  ·
   rintro k1 w37 ⟨Y37,cur2,l2,r,G37,C37,hp37_0,hp37_1,hp37_2,hp37_3⟩;intro hk;refine⟨g,0,rfl,?_⟩;rw[←hp37_3 k1 (by omega)]
   exact zR.cellX0 hp37_0 (G37.get 5 rfl) (by have:=(hp37_0).len;omega)
  ·
   intro k1 w38 hk;rintro⟨Y38,cur2,l2,r,G38,C38,hp38_0,hp38_1,hp38_2,hp38_3⟩;refine zIo (p:=20) (q:=21) hr34 Z32 G38 kr kr (fun a39 Z39=>?_);have D2:=hp38_0;have hlen2:=D2.len;have hr1:=hp38_1;have hv2:=hp38_2;have heq2:=hp38_3;have hltk:=D1.getD_lt k1;refine zG (fun K40 hK40=>?_);refine zC<|zD 1 [(6,.int .i64 (k1:Int))] Z39 kr kr (fun a41 Z41=>?_);refine zH<|zA (hK40 _ _ ?_);refine zC<|zD 1 [(7,.int .u32 ((l1.getD k1 0:Nat):Int))] Z41 kr kr (fun a42 Z42=>?_);refine zH<|zA<|zCk hr34 G38 (fun w43 G43 C43=>?_);refine jZ<|zC ?_;refine qO Z42 kr (zF (d:=22) (v:= .slice (some ⟨g,0,none⟩) m1 cap) Z42 kr (zB (t:=26) (g:=false) (vs:=[.slice (some ⟨g,0,none⟩) m1 cap]) (ad:=⟨b2,0,none⟩) rfl kr kr ir (G43.cells 4 rfl rfl)) ?_);intro a44 Z44;refine zD 3 [(25,.int .u32 (Int.fdiv (((l1.getD k1 0:Nat):Int)) (2^1))),(24,.int .u32 ((l1.getD k1 0:Nat):Int)),(23,.int .i64 (k1:Int))] Z44 kr kr (fun a45 Z45=>?_);have Z46:=Z45.set 25 (v':= .int .u32 ((l1.getD k1 0 / 2:Nat):Int)) kr rfl (zO (by rw[vF _ 1 (c:=2) (by decide) (by decide)];omega))
   refine qO Z46 kr (zF (d:=26) (v:= .int .u32 ((r*2147483648:Nat):Int)) Z46 kr (zB (t:=214) (g:=false) (vs:=[.int .u32 ((r*2147483648:Nat):Int)]) (ad:=⟨b25,0,none⟩) rfl kr kr ir (G43.cells 3 rfl rfl)) ?_);intro a47 Z47;refine zD 1 [(27,.int .u32 (sK ((l1.getD k1 0 / 2:Nat):Int) ((r*2147483648:Nat):Int)))] Z47 kr kr (fun a48 Z48=>?_);have Z49:=Z48.set 27 (v':= .int .u32 ((l1.getD k1 0 / 2+r*2147483648:Nat):Int)) kr rfl (zO (qJo _ _ (by omega) hr1))
   refine zD 2 [(29,.int .u32 (IntKind.u32.wrap (((l1.getD k1 0:Nat):Int)*2^31))),(28,.int .u32 ((l1.getD k1 0:Nat):Int))] Z49 kr kr (fun a50 Z50=>?_);have Z51:=Z50.set 29 (v':= .int .u32 ((l1.getD k1 0 % 2*2147483648:Nat):Int)) kr rfl (zO (by rw[yD];omega))
   refine qO Z51 kr (zF (d:=30) (v:= .pointer (some ⟨g,k1,none⟩)) Z51 kr (qV (t:=26) (e:=214) (b:=g) (off:=0) (len:=m1) (cap:=cap) (kd:= .i64) (i:=(k1:Int)) (g:=false) (m:=1) (off':=k1) rfl kr kr kr kr (by omega) (by omega) (by first | rfl | omega | (simp;done) | (simp;omega)) _) ?_)
   intro a52 Z52;refine qO Z52 kr (nT (t:=214) (y:=(l1.getD k1 0 / 2+r*2147483648)) (k:=k1) (e:=((l1.getD k1 0 / 2+r*2147483648:Nat):Int)) 5 Z52 kr G43 rfl rfl rfl (by first | rfl | omega | (simp;omega)) kr rfl D2 (by have:=D2.len;(try simp only[List.length_set]at *);omega) (by omega) ?_)
   intro cur53 w53 D53 G53 C53;refine qO Z52 kr (zE (t:=214) (b:=b25) (off:=0) (c':=#[.int .u32 ((l1.getD k1 0 % 2*2147483648:Nat):Int)]) (g:=false) (m:=1) 3 _ Z52 kr G53 rfl kr rfl kr kr kr rfl (by first | decide | (simp;done)) kr rfl ?_)
   intro w54 G54 C54;refine zH ?_;refine jX ?_;refine lJ hr34 G54 (fun w55 G55 C55=>xI.next ?_);exact⟨_,cur53,(l2.set k1 (l1.getD k1 0 / 2+r*2147483648)),l1.getD k1 0 % 2,G55,(Le5 C38 C43 C53 C54 C55),D53,by omega,qKr l1 l2 k1 r (by omega) (by omega) (heq2 k1 (by omega)) hv2,fun i hi=>by rw[jS (by omega)];exact heq2 i (by omega)⟩
  ·
   rintro w56 ⟨Y56,cur2,l2,r,G56,C56,hp56_0,hp56_1,hp56_2,hp56_3⟩;refine vB.norm hr34 G56 (fun w57 G57 C57=>?_);have D2:=hp56_0;have hlen2:=D2.len;have hhalf:val l2*2=val l1:=by have h9:=hp56_2;have h8:=hp56_1;rw[List.take_zero]at h9;simp only[val,Nat.pow_zero]at h9;omega
   refine jX<|zA (hK28 _ _ ?_);refine zG (fun K58 hK58=>?_);refine zC ?_;refine qO Z35 kr (zF (d:=31) (v:= .slice (some ⟨g,0,none⟩) m1 cap) Z35 kr (zB (t:=26) (g:=false) (vs:=[.slice (some ⟨g,0,none⟩) m1 cap]) (ad:=⟨b2,0,none⟩) rfl kr kr ir (G57.cells 4 rfl rfl)) ?_);intro a59 Z59;refine qO Z59 kr (yO (d:=32) (f:=235) (cap:=#[]) (vs:=#[.slice (some ⟨g,0,none⟩) m1 cap]) Z59 kr G57 rfl kr kr (fun w=>Tryz.call235 _ w) (zAj _ X0 (zT _) _ _ _ l2 (zR.limbs (Y:=X0) D2 (G57.get 5 rfl) (fun _ h=>h.elim))) ?_);rintro v60 w60 G60 C60 Q60 rfl a61 Z61;have hrt:=D2.trimmed;refine qO Z61 kr (zE (t:=26) (b:=b2) (off:=0) (c':=#[.slice (some ⟨g,0,none⟩) (qK l2) cap]) (g:=false) (m:=1) 4 _ Z61 kr G60 rfl kr rfl kr kr kr rfl (by first | decide | (simp;done)) kr rfl ?_)
   intro w62 G62 C62;refine zH<|zA (hK58 _ _ ?_);refine zC<|zD 2 [(34,.int .i64 (i64.wrap ((k:Int)+1))),(33,.int .i64 (k:Int))] Z61 kr kr (fun a63 Z63=>?_);have Z64:=Z63.set 34 (v':= .int .i64 ((k+1:Nat):Int)) kr rfl (zO (lI (by omega) (by omega)))
   refine zD 1 [(4,.int .i64 ((k+1:Nat):Int))] Z64 kr kr (fun a65 Z65=>?_);refine zH ?_;refine jX<|zA ?_;refine⟨k+1,⟨_,(_::bs),qK l2,cur2,(Go.Gv.trimmed l2),Z65.as [1,4] kr kr,(St.mid [(b2,.cells #[.slice (some ⟨g,0,none⟩) (qK l2) cap] 26 (0,0)),(g,.cells cur2 214 (0,0))] G62.tail.swap.tail.swap.tail),(Le9 C8 C25 C27 C33 C34 C56 C57 C60 C62),hrt,qL _,by rw[qW,Nat.pow_succ,←hval1,←hhalf];ac_rfl⟩,?_⟩
   first | omega | (simp;omega)
  ·
   exact⟨_,cur1,l1,0,G34,Le.refl _,D1,by omega,by rw[←hlen1,List.take_length];omega,fun _ _=>rfl⟩
 have Z66:=Z20.set 17 (v':= .bool false) kr rfl (zK J21);have F67:((l1.getD 0 0 % 2:Nat):Int)≠0:=by simpa using J21
 have hodd:val l1 % 2=1:=by rw[zRv];omega
 refine aJ ?_;refine sF ?_;refine sF ?_;refine sJ<|zA (hK7 _ _ ?_);refine zG (fun K68 hK68=>?_);refine zC ?_;refine qO Z66 kr (zF (d:=35) (v:= .slice (some ⟨g,0,none⟩) m1 cap) Z66 kr (zB (t:=26) (g:=false) (vs:=[.slice (some ⟨g,0,none⟩) m1 cap]) (ad:=⟨b2,0,none⟩) rfl kr kr ir (G8.cells 0 rfl rfl)) ?_);intro a69 Z69;refine zD 3 [(3,.int .i64 (k:Int)),(2,.slice (some ⟨g,0,none⟩) m1 cap),(36,.int .i64 (k:Int))] Z69 kr kr (fun a70 Z70=>?_);refine zH<|zA (hK68 _ _ ?_);refine nJ ?_;refine qUq (bs:=bs) (N:=[(b2,.cells #[.slice (some ⟨g,0,none⟩) m1 cap] 26 (0,0)),(g,.cells cur1 214 (0,0))]) (v:= .tuple #[.slice (some ⟨g,0,none⟩) m1 cap,.int .i64 (k:Int)]) (rs:=[.tmp 2,.tmp 3]) (vs:=[.slice (some ⟨g,0,none⟩) m1 cap,.int .i64 (k:Int)]) Z70 G8 kr kr (fun w71 G71 C71=>?_);refine⟨(Res.tmp kr (Res.tmp kr Res.nil)),?_⟩;exact⟨G71.upd,_,rfl,k,cur1,l1,by rw[hlen1],G71.get 1 rfl,by rw[hlen1];exact D1,hcan1,hval1,hodd⟩
set_option maxHeartbeats 1000000
theorem qJr{x y:Nat}(h:qF (x:Int) (y:Int)= -1):x<y:=by unfold qF at h;(repeat' split at h)<;>omega
theorem qSt{x y:Nat}(h:qF (x:Int) (y:Int)≠0)(h2:qF (x:Int) (y:Int)≠ -1):y<x:=by unfold qF at h h2;(repeat' split at h)<;>(repeat' split at h2)<;>omega
theorem qYa(w:World)(X:Hid)(hX:∀k o,X k o→k<w.heap.size)(ad:Option Addr)(len cap:Nat)(l:List Nat)(h:zL (rd w X) ad len cap l)(ad2:Option Addr)(len2 T2:Nat)(l2:List Nat)(h2:zL (rd w X) ad2 len2 T2 l2):Calls Tryz.prog 155 #[.slice ad len cap,.slice ad2 len2 T2] w (Ret E0 w fun w' v=>zEr 214 w w' (xM l l2) (Nat.gcd (val l) (val l2)) v):=by
 obtain rfl:=h.hlen;obtain rfl:=h2.hlen;have hcap:=h.hcap;have hbig:=h.hbig;have hcap2:=h2.hcap;have hbig2:=h2.hbig;refine zen Tryz.func155 ?_;have G0:St E0 w X w X []:=St.start hX;refine zz 12<|zc G0 (zAo _ X0 (zT _) _ _ _ l (h.mono Le.x0) _ _ _ l2 (h2.mono Le.x0)) ?_;rintro v3 w3 G3 C3 Q3 rfl;refine zz 9<|zb 13 (b:=((xM l l2)!=0)) (fun J4=>?_) (fun J4=>?_);have F5:(xM l l2)≠0:=by simpa using J4
 refine zz 11<|zr' (v:= .tuple #[.slice none 0 0,.int .i64 (xM l l2)]) ?_;exact⟨G3.upd,_,rfl,.inl ⟨F5,rfl⟩⟩;have F6:(xM l l2)=0:=by simpa using J4
 obtain⟨⟨hl1,c1⟩,hl2,c2⟩:=zAs F6;refine zz 6<|zc G3 (zAv _ X0 (zT _) _ _ _ l ((h.mono C3).mono Le.x0) (by omega)) ?_
 rintro v8 w8 G8 C8 Q8 ⟨ad8,zDe,T8,how8⟩;rcases how8 with⟨rfl,hlen8,hlt8,⟨rfl,rfl,rfl⟩ | ⟨g8,cur8,rfl,hge8,hget8,D8⟩⟩
 have hnil8:l=[]:=List.eq_nil_of_length_eq_zero hlen8.symm;have hzA:val l=0:=by rw[hnil8];rfl
 refine zz 1<|zc G8 (zAv _ X0 (zT _) _ _ _ l2 ((h2.mono (Le2 C3 C8)).mono Le.x0) (by omega)) ?_
 rintro v11 w11 G11 C11 Q11 ⟨ad11,len11,T11,how11⟩;rcases how11 with⟨rfl,hlen11,hlt11,⟨rfl,rfl,rfl⟩ | ⟨g11,cur11,rfl,hge11,hget11,D11⟩⟩
 have hnil11:l2=[]:=List.eq_nil_of_length_eq_zero hlen11.symm;have hzB:val l2=0:=by rw[hnil11];rfl
 refine zz 23<|zr' (v:= .tuple #[.slice none 0 0,.int .i64 0]) ?_;exact⟨G11.upd,_,rfl,.inr ⟨F6,_,[],_,_,_,rfl,⟨⟨rfl,rfl,fun x hx=>by simp at hx,.inl ⟨rfl,rfl,rfl⟩⟩,.inl rfl,by rw[hzA,hzB];rfl⟩,by simp⟩⟩
 subst hlen11;have G12:=St.adopt G11 (fun o h=>Nat.not_lt.2 hge11 (G8.lt _ _ h)) (Nat.le_trans G8.upd.size hge11) hget11;have C12:=Le.adopt C11 hge11;refine zz 23<|zr' (v:= .tuple #[.slice (some ⟨g11,0,none⟩) l2.length T11,.int .i64 0]) ?_;exact⟨G12.upd,_,rfl,.inr ⟨F6,_,l2,_,_,_,rfl,⟨⟨rfl,rfl,D11.lt,.inr ⟨_,_,rfl,G12.own_ge 0 rfl,G12.get 0 rfl,D11⟩⟩,c2,by rw[hzA,Nat.gcd_zero_left]⟩,hl2⟩⟩
 subst hlen8;have G9:=St.adopt G8 (fun o h=>Nat.not_lt.2 hge8 (G3.lt _ _ h)) (Nat.le_trans G3.upd.size hge8) hget8;have C9:=Le.adopt C8 hge8;refine zz 1<|zc G9 (zAv _ X0 (zT _) _ _ _ l2 ((h2.mono (Le2 C3 C9)).mono Le.x0) (by omega)) ?_
 rintro v14 w14 G14 C14 Q14 ⟨ad14,len14,T14,how14⟩;rcases how14 with⟨rfl,hlen14,hlt14,⟨rfl,rfl,rfl⟩ | ⟨g14,cur14,rfl,hge14,hget14,D14⟩⟩
 have hnil14:l2=[]:=List.eq_nil_of_length_eq_zero hlen14.symm;have hzB:val l2=0:=by rw[hnil14];rfl
 refine zz 12<|zb 21 (b:=((l.length:Int)==0)) (fun J16=>?_) (fun J16=>?_);have F17:(l.length:Int)=0:=by simpa using J16
 have hzA:val l=0:=by rw[List.eq_nil_of_length_eq_zero (by omega:l.length=0)];rfl
 refine zz 11<|zr' (v:= .tuple #[.slice none 0 0,.int .i64 0]) ?_;exact⟨G14.upd,_,rfl,.inr ⟨F6,_,[],_,_,_,rfl,⟨⟨rfl,rfl,fun x hx=>by simp at hx,.inl ⟨rfl,rfl,rfl⟩⟩,.inl rfl,by rw[hzA,hzB];rfl⟩,by simp⟩⟩
 have F18:(l.length:Int)≠0:=by simpa using J16
 have hposA:0<val l:=vV c1 (by rintro rfl;simp at F18)
 refine zz 22<|zr' (v:= .tuple #[.slice (some ⟨g8,0,none⟩) l.length T8,.int .i64 0]) ?_;exact⟨G14.upd,_,rfl,.inr ⟨F6,_,l,_,_,_,rfl,⟨⟨rfl,rfl,D8.lt,.inr ⟨_,_,rfl,G14.own_ge 0 rfl,G14.get 0 rfl,D8⟩⟩,c1,by rw[hzB,Nat.gcd_zero_right]⟩,hl1⟩⟩
 subst hlen14;have G15:=St.adopt G14 (fun o h=>Nat.not_lt.2 hge14 (G9.lt _ _ h)) (Nat.le_trans G9.upd.size hge14) hget14;have C15:=Le.adopt C14 hge14;refine zz 12<|zb 21 (b:=((l.length:Int)==0)) (fun J19=>?_) (fun J19=>?_);have F20:(l.length:Int)=0:=by simpa using J19
 have hzA:val l=0:=by rw[List.eq_nil_of_length_eq_zero (by omega:l.length=0)];rfl
 refine zz 11<|zr' (v:= .tuple #[.slice (some ⟨g14,0,none⟩) l2.length T14,.int .i64 0]) ?_;exact⟨G15.upd,_,rfl,.inr ⟨F6,_,l2,_,_,_,rfl,⟨⟨rfl,rfl,D14.lt,.inr ⟨_,_,rfl,G15.own_ge 0 rfl,G15.get 0 rfl,D14⟩⟩,c2,by rw[hzA,Nat.gcd_zero_left]⟩,hl2⟩⟩
 have F21:(l.length:Int)≠0:=by simpa using J19
 have hposA:0<val l:=vV c1 (by rintro rfl;simp at F21)
 refine zz 11<|zb 25 (b:=((l2.length:Int)==0)) (fun J22=>?_) (fun J22=>?_);have F23:(l2.length:Int)=0:=by simpa using J22
 have hzB:val l2=0:=by rw[List.eq_nil_of_length_eq_zero (by omega:l2.length=0)];rfl
 refine zz 11<|zr' (v:= .tuple #[.slice (some ⟨g8,0,none⟩) l.length T8,.int .i64 0]) ?_;exact⟨G15.upd,_,rfl,.inr ⟨F6,_,l,_,_,_,rfl,⟨⟨rfl,rfl,D8.lt,.inr ⟨_,_,rfl,G15.own_ge 1 rfl,G15.get 1 rfl,D8⟩⟩,c1,by rw[hzB,Nat.gcd_zero_right]⟩,hl1⟩⟩
 have F24:(l2.length:Int)≠0:=by simpa using J22
 have hposB:0<val l2:=vV c2 (by rintro rfl;simp at F24)
 refine zz 6<|zcE 1 G15 rfl (zFh _ g8 l.length T8 _ l (G15.get 1 rfl) D8 (by omega) c1 hposA) ?_
 rintro v26 w26 ob26 ⟨k26,cur26,ls26,rfl,hg26,D26,hcan26,hval26,hodd26⟩ hob26 G26 C26;obtain rfl:=Option.some.inj (hob26.symm.trans hg26);refine zz 10<|zcE 0 G26 rfl (zFh _ g14 l2.length T14 _ l2 (G26.get 0 rfl) D14 (by omega) c2 hposB) ?_
 rintro v28 w28 ob28 ⟨k28,cur28,ls28,rfl,hg28,D28,hcan28,hval28,hodd28⟩ hob28 G28 C28;obtain rfl:=Option.some.inj (hob28.symm.trans hg28);refine zz 12<|zlp Tryz.f155 [] [1,0,1,1,1,1,1,1,1,0,0] (fun((N,gx,gy,capx,capy,lx,ly):Nat×Nat×Nat×Nat×Nat×(List Nat)×(List Nat))=>[(0,.slice (some ⟨gx,0,none⟩) lx.length capx),(1,.slice (some ⟨gy,0,none⟩) ly.length capy),(7,.int .i64 ((k26:Nat):Int)),(8,.int .i64 ((k28:Nat):Int))]) (fun((N,gx,gy,capx,capy,lx,ly):Nat×Nat×Nat×Nat×Nat×(List Nat)×(List Nat))w1=>∃(Y1:Hid)(curx:Array Value)(cury:Array Value),St E0 w X w1 Y1 [(gy,.cells cury 214 (0,0)),(gx,.cells curx 214 (0,0))]∧Le (rd w28 (zBe g14 (zBe g8 X))) (rd w1 Y1)∧(zR lx.length capx curx lx)∧(zR ly.length capy cury ly)∧(zQ lx)∧(zQ ly)∧(val lx % 2=1)∧(val ly % 2=1)∧(Nat.gcd (val lx) (val ly)=Nat.gcd (val ls26) (val ls28))∧(val lx+val ly=N)∧(lx.length≤512)∧(ly.length≤512)) (fun((N,gx,gy,capx,capy,lx,ly):Nat×Nat×Nat×Nat×Nat×(List Nat)×(List Nat))=>N) ((val ls26+val ls28),g8,g14,T8,T14,ls26,ls28) ?_ ?_;refine⟨_,cur26,cur28,G28,Le.refl _,D26,D28,hcan26,hcan28,hodd26,hodd28,rfl,rfl,Nat.le_trans (zU h.hlt hcan26 (by have:=Nat.le_mul_of_pos_right (val ls26) (Nat.two_pow_pos k26);omega)) hl1,Nat.le_trans (zU h2.hlt hcan28 (by have:=Nat.le_mul_of_pos_right (val ls28) (Nat.two_pow_pos k28);omega)) hl2⟩
 rintro⟨N,gx,gy,capx,capy,lx,ly⟩ w29 K29 hK29 ⟨Y29,curx,cury,G29,C29,hp29_0,hp29_1,hp29_2,hp29_3,hp29_4,hp29_5,hp29_6,hp29_7,hp29_8,hp29_9⟩;have hrowx:=hp29_0;have hrowy:=hp29_1;have hcanx:=hp29_2;have hcany:=hp29_3;have hoddx:=hp29_4;have hoddy:=hp29_5;have hg0:=hp29_6;have hN:=hp29_7;have hlx:=hp29_8;have hly:=hp29_9;refine zz 6<|zc G29 (zBq _ X0 (zT _) _ _ _ lx (zR.limbs (Y:=X0) hrowx (G29.get 1 rfl) (fun _ h=>h.elim)) _ _ _ ly (zR.limbs (Y:=X0) hrowy (G29.get 0 rfl) (fun _ h=>h.elim)) hcanx hcany (by omega)) ?_ (vs:=#[.slice (some ⟨gx,0,none⟩) lx.length capx,.slice (some ⟨gy,0,none⟩) ly.length capy])
 rintro v31 w31 G31 C31 Q31 rfl;refine zz 9<|zb 40 (b:=((qF (val lx) (val ly))==0)) (fun J32=>?_) (fun J32=>?_);have F33:(qF (val lx) (val ly))=0:=by simpa using J32
 have hxy:=lY F33;refine zz 14<|zs 56 (v:= .int .i64 (if((k28:Nat):Int)<((k26:Nat):Int)then((k28:Nat):Int)else((k26:Nat):Int))) (v':= .int .i64 ((min k26 k28:Nat):Int)) (zO (by split<;>omega))<|zz 4 ?_
 have hgab:=qDn hodd26 hodd28 hval26 hval28;rw[←hg0,←hxy,Nat.gcd_self]at hgab;have hgle:Nat.gcd (val l) (val l2)≤val l:=Nat.gcd_le_left _ hposA;refine zlp Tryz.f155 [K29] [1,0,1,1,1,1,1,1,1,1,0,1,0] (fun((i,gd,capd,ld):Nat×Nat×Nat×(List Nat))=>[(0,.slice (some ⟨gd,0,none⟩) ld.length capd),(56,.int .i64 ((min k26 k28:Nat):Int)),(57,.int .i64 (i:Int))]) (fun(i,gd,capd,ld)w1=>∃(Y1:Hid)(curd:Array Value),St E0 w X w1 Y1 [(gd,.cells curd 214 (0,0))]∧Le (rd w31 Y29) (rd w1 Y1)∧(zR ld.length capd curd ld)∧(zQ ld)∧(val ld=val lx*2^i)∧(i≤min k26 k28)) (fun(i,gd,capd,ld)=>min k26 k28-i) (0,gx,capx,lx) ?_ ?_;refine⟨_,curx,G31.tail,Le.refl _,hrowx,hcanx,by simp,Nat.zero_le _⟩
 rintro⟨i,gd,capd,ld⟩ w34 K34 hK34 ⟨Y34,curd,G34,C34,hp34_0,hp34_1,hp34_2,hp34_3⟩;have hrowd:=hp34_0;have hcand:=hp34_1;have hvald:=hp34_2;have hik:=hp34_3;have hb1:val lx*2^i≤val lx*2^(min k26 k28):=Nat.mul_le_mul_left _ (Nat.pow_le_pow_right (by omega) hik)
 have hb2:=zU h.hlt hcand (by omega:val ld≤val l)
 have hb3:0<ld.length:=by rcases Nat.eq_zero_or_pos ld.length with e | e;rw[List.eq_nil_of_length_eq_zero e]at hvald;have:=Nat.mul_pos (by omega:0<val lx) (Nat.two_pow_pos i);simp only[val]at hvald;omega;exact e
 obtain⟨_,hkb⟩:=zIe hval26 (by omega) (jU h.hlt)
 refine zz 6<|zt 58 (p:=(i:Int)<((min k26 k28:Nat):Int)) (fun F35=>?_) (fun F35=>?_);refine zz 7<|zop (at1 [K29,K34] Tryz.f155 [1,0,1,1,1,1,1,1,1,1,0,1,0,0,1,1,0,0]) 1 (fun a36 _ Z36 hz36=>zZn 0 Z36 G34 rfl (zPe _ gd ld.length capd _ ld (G34.get 0 rfl) hrowd (by omega) hcand 0 (by omega)) ?_)
 rintro v37 w37 Y37 g37 o37 ⟨cur37,T37,ls37,rfl,rfl,D37,hlen37,hcan37,hval37⟩ G37 C37 a38 Z38;refine hz36 Z38<|zz 6<|zw 61 (x:=(i:Int)+1)<|zz 2 ?_;refine yE (fun a h=>hK34 ((i+1,g37,T37,ls37)) _ a h ⟨_,cur37,G37,(Le2 C34 C37),D37,hcan37,by rw[hval37,hvald,Nat.pow_succ];simp only[Nat.add_zero];ac_rfl,by omega⟩ ?_)
 first | omega | (simp<;>omega)
 refine zz 15<|zr' (v:= .tuple #[.slice (some ⟨gd,0,none⟩) ld.length capd,.int .i64 0]) ?_;exact⟨G34.upd,_,rfl,.inr ⟨F6,_,ld,_,_,_,rfl,⟨⟨rfl,rfl,hrowd.lt,.inr ⟨_,_,rfl,G34.own_ge 0 rfl,G34.get 0 rfl,hrowd⟩⟩,hcand,by rw[hvald,←hgab];congr 2;omega⟩,by omega⟩⟩
 have F39:(qF (val lx) (val ly))≠0:=by simpa using J32
 refine zz 7<|zb 42 (b:=((qF (val lx) (val ly))==(-1))) (fun J40=>?_) (fun J40=>?_);have F41:(qF (val lx) (val ly))=(-1):=by simpa using J40
 have hcmp:=qJr F41;refine zz 13<|zcE 0 G31 rfl (sU _ gy ly.length capy _ ly (G31.get 0 rfl) hrowy (by omega) _ _ _ lx (zR.limbs (Y:=HG gy) hrowx (G31.get 1 rfl) (fun o h=>G31.ne (i:=1) (j:=0) rfl rfl (by decide) h)) (zU hrowy.lt hcanx (by omega)) (by omega)) ?_ (vs:=#[.slice (some ⟨gy,0,none⟩) ly.length capy,.slice (some ⟨gx,0,none⟩) lx.length capx])
 rintro v43 w43 ob43 ⟨cur43,ls43,rfl,hg43,D43,hcan43,hval43⟩ hob43 G43 C43;obtain rfl:=Option.some.inj (hob43.symm.trans hg43);refine zz 5 ?_;have hz0:=zU hrowy.lt hcan43 (by omega:val ls43≤val ly)
 refine zcE 0 G43 rfl (zFh _ gy ls43.length capy _ ls43 (G43.get 0 rfl) D43 (by omega) hcan43 (by omega)) ?_
 rintro v45 w45 ob45 ⟨k45,cur45,ls45,rfl,hg45,D45,hcan45,hval45,hodd45⟩ hob45 G45 C45;obtain rfl:=Option.some.inj (hob45.symm.trans hg45);refine zz 6 ?_;have hz1:val ls45*2^k45=val ly-val lx:=hval45.trans hval43;have hz2:val ls45≤val ls45*2^k45:=Nat.le_mul_of_pos_right _ (Nat.two_pow_pos _);have hz3:=zPq hoddx (by omega) hz1
 have hz4:=zU hrowy.lt hcan45 (by omega:val ls45≤val ly)
 have J1_:=(Le3 C29 C31 C43).trans C45;refine yE (fun a h=>hK29 (((val ls45+val lx),gy,gx,capy,capx,ls45,lx)) _ a h ⟨_,cur45,curx,G45.swap,J1_,D45,hrowx,hcan45,hcanx,hodd45,hoddx,by rw[hz3];rw[Nat.gcd_comm];exact hg0,rfl,by omega,by omega⟩ ?_)
 first | omega | (simp<;>omega)
 have F46:(qF (val lx) (val ly))≠(-1):=by simpa using J40
 have hcmp:=qSt F39 F46;refine zz 8<|zcE 1 G31 rfl (sU _ gx lx.length capx _ lx (G31.get 1 rfl) hrowx (by omega) _ _ _ ly (zR.limbs (Y:=HG gx) hrowy (G31.get 0 rfl) (fun o h=>G31.ne (i:=0) (j:=1) rfl rfl (by decide) h)) (zU hrowx.lt hcany (by omega)) (by omega)) ?_ (vs:=#[.slice (some ⟨gx,0,none⟩) lx.length capx,.slice (some ⟨gy,0,none⟩) ly.length capy])
 rintro v48 w48 ob48 ⟨cur48,ls48,rfl,hg48,D48,hcan48,hval48⟩ hob48 G48 C48;obtain rfl:=Option.some.inj (hob48.symm.trans hg48);refine zz 5 ?_;have hz0:=zU hrowx.lt hcan48 (by omega:val ls48≤val lx)
 refine zcE 1 G48 rfl (zFh _ gx ls48.length capx _ ls48 (G48.get 1 rfl) D48 (by omega) hcan48 (by omega)) ?_
 rintro v50 w50 ob50 ⟨k50,cur50,ls50,rfl,hg50,D50,hcan50,hval50,hodd50⟩ hob50 G50 C50;obtain rfl:=Option.some.inj (hob50.symm.trans hg50);refine zz 6 ?_;have hz1:val ls50*2^k50=val lx-val ly:=hval50.trans hval48;have hz2:val ls50≤val ls50*2^k50:=Nat.le_mul_of_pos_right _ (Nat.two_pow_pos _);have hz3:=zPq hoddy (by omega) hz1
 have hz4:=zU hrowx.lt hcan50 (by omega:val ls50≤val lx)
 have J2_:=(Le3 C29 C31 C48).trans C50;refine yE (fun a h=>hK29 (((val ls50+val ly),gx,gy,capx,capy,ls50,ly)) _ a h ⟨_,cur50,cury,G50,J2_,D50,hrowy,hcan50,hcany,hodd50,hoddy,by rw[hz3];exact hg0,rfl,by omega,by omega⟩ ?_)
 first | omega | (simp<;>omega)
section
variable (w:World)(X:Hid)(hX:∀k o,X k o→k<w.heap.size)
set_option maxHeartbeats 1000000
def zDe:ByteArray:=⟨#[0,1,2,2,3,3,3,3,4,4,4,4,4,4,4,4,5,5,5,5,5,5,5,5,5,5,5,5,5,5,5,5,6,6,6,6,6,6,6,6,6,6,6,6,6,6,6,6,6,6,6,6,6,6,6,6,6,6,6,6,6,6,6,6,7,7,7,7,7,7,7,7,7,7,7,7,7,7,7,7,7,7,7,7,7,7,7,7,7,7,7,7,7,7,7,7,7,7,7,7,7,7,7,7,7,7,7,7,7,7,7,7,7,7,7,7,7,7,7,7,7,7,7,7,7,7,7,7,8,8,8,8,8,8,8,8,8,8,8,8,8,8,8,8,8,8,8,8,8,8,8,8,8,8,8,8,8,8,8,8,8,8,8,8,8,8,8,8,8,8,8,8,8,8,8,8,8,8,8,8,8,8,8,8,8,8,8,8,8,8,8,8,8,8,8,8,8,8,8,8,8,8,8,8,8,8,8,8,8,8,8,8,8,8,8,8,8,8,8,8,8,8,8,8,8,8,8,8,8,8,8,8,8,8,8,8,8,8,8,8,8,8,8,8,8,8,8,8,8,8,8,8,8,8,8,8]⟩
theorem zZi:∀n,n<256→(zDe.data[n]?.isSome=true)∧n<2^(zDe.data[n]?.getD 0).toNat∧(zDe.data[n]?.getD 0).toNat≤8:=by decide+kernel
theorem zFj(n:Nat)(h:n<256):∃b:UInt8,zDe[n]?=some b∧n<2^b.toNat∧b.toNat≤8:=by
 obtain⟨h1,h2,h3⟩:=zZi n h;obtain⟨b,hb⟩:=Option.isSome_iff_exists.1 h1;rw[hb]at h2 h3;refine⟨b,?_,h2,h3⟩;obtain⟨h4,h5⟩:=Array.getElem?_eq_some_iff.1 hb;have h6:n<zDe.size:=h4;rw[getElem?_pos zDe n h6];exact congrArg some h5
include hX in
theorem qLh(x:Nat)(hx:x<4294967296):Calls Tryz.prog 309 #[.int .u32 (x:Int)] w (Ret E0 w fun _ v=>∃r:Nat,v= .int .i64 (r:Int)∧x<2^r∧r≤32):=by
 refine zen Tryz.func309 ?_;have G0:St E0 w X w X []:=St.start hX;refine zz 12<|zt 4 (p:=(x:Int)≥65536) (fun F2=>?_) (fun F2=>?_);refine zz 5<|zs 6 (v:= .int .u32 (Int.fdiv ((x:Int)) (2^16))) (v':= .int .u32 ((x / 65536:Nat):Int)) (zO (by rw[vF _ 16 (c:=65536) (by decide) (by decide)];omega))<|zz 14<|zt 8 (p:=((x / 65536:Nat):Int)≥256) (fun F3=>?_) (fun F3=>?_)
 refine zz 5<|zs 10 (v:= .int .u32 (Int.fdiv (((x / 65536:Nat):Int)) (2^8))) (v':= .int .u32 ((x / 65536 / 256:Nat):Int)) (zO (by rw[vF _ 8 (c:=256) (by decide) (by decide)];omega))<|zz 14<|zs 15 (v:= .int .u8 (IntKind.u8.wrap (((x / 65536 / 256:Nat):Int)))) (v':= .int .u8 ((x / 65536 / 256:Nat):Int)) (zO (wu8 (by omega) (by omega))) ?_
 obtain⟨b8,hb8,hb2,hb3⟩:=zFj (x / 65536 / 256) (by omega)
 refine zop (at1 [] Tryz.f309 [1,1,1,0]) 3 (fun a4 _ Z4 hz4=>zF (d:=16) (v:= .int .u8 ((b8.toNat:Nat):Int)) Z4 kr (bB (s:=zDe) (i:=(x / 65536 / 256)) rfl kr rfl rfl hb8) ?_);intro a5 Z5;refine hz4 Z5<|zz 1<|zw 17 (x:=((b8.toNat:Nat):Int))<|zz 1<|zw 18 (x:=(24:Int)+((b8.toNat:Nat):Int))<|zz 4<|zr' (v:= .int .i64 ((24:Int)+((b8.toNat:Nat):Int))) ?_;refine⟨G0.upd,_,rfl,24+b8.toNat,zO (by omega),?_,by omega⟩
 rw[Nat.pow_add];generalize 2^b8.toNat=t at *;omega;refine zz 8<|zs 15 (v:= .int .u8 (IntKind.u8.wrap (((x / 65536:Nat):Int)))) (v':= .int .u8 ((x / 65536:Nat):Int)) (zO (wu8 (by omega) (by omega))) ?_
 obtain⟨b8,hb8,hb2,hb3⟩:=zFj (x / 65536) (by omega)
 refine zop (at1 [] Tryz.f309 [1,1,1,0]) 3 (fun a6 _ Z6 hz6=>zF (d:=16) (v:= .int .u8 ((b8.toNat:Nat):Int)) Z6 kr (bB (s:=zDe) (i:=(x / 65536)) rfl kr rfl rfl hb8) ?_);intro a7 Z7;refine hz6 Z7<|zz 1<|zw 17 (x:=((b8.toNat:Nat):Int))<|zz 1<|zw 18 (x:=(16:Int)+((b8.toNat:Nat):Int))<|zz 4<|zr' (v:= .int .i64 ((16:Int)+((b8.toNat:Nat):Int))) ?_;refine⟨G0.upd,_,rfl,16+b8.toNat,zO (by omega),?_,by omega⟩
 rw[Nat.pow_add];generalize 2^b8.toNat=t at *;omega;refine zz 10<|zt 8 (p:=(x:Int)≥256) (fun F8=>?_) (fun F8=>?_);refine zz 5<|zs 10 (v:= .int .u32 (Int.fdiv ((x:Int)) (2^8))) (v':= .int .u32 ((x / 256:Nat):Int)) (zO (by rw[vF _ 8 (c:=256) (by decide) (by decide)];omega))<|zz 14<|zs 15 (v:= .int .u8 (IntKind.u8.wrap (((x / 256:Nat):Int)))) (v':= .int .u8 ((x / 256:Nat):Int)) (zO (wu8 (by omega) (by omega))) ?_
 obtain⟨b8,hb8,hb2,hb3⟩:=zFj (x / 256) (by omega)
 refine zop (at1 [] Tryz.f309 [1,1,1,0]) 3 (fun a9 _ Z9 hz9=>zF (d:=16) (v:= .int .u8 ((b8.toNat:Nat):Int)) Z9 kr (bB (s:=zDe) (i:=(x / 256)) rfl kr rfl rfl hb8) ?_);intro a10 Z10;refine hz9 Z10<|zz 1<|zw 17 (x:=((b8.toNat:Nat):Int))<|zz 1<|zw 18 (x:=(8:Int)+((b8.toNat:Nat):Int))<|zz 4<|zr' (v:= .int .i64 ((8:Int)+((b8.toNat:Nat):Int))) ?_;refine⟨G0.upd,_,rfl,8+b8.toNat,zO (by omega),?_,by omega⟩
 rw[Nat.pow_add];generalize 2^b8.toNat=t at *;omega;refine zz 8<|zs 15 (v:= .int .u8 (IntKind.u8.wrap ((x:Int)))) (v':= .int .u8 ((x:Nat):Int)) (zO (wu8 (by omega) (by omega))) ?_
 obtain⟨b8,hb8,hb2,hb3⟩:=zFj (x) (by omega)
 refine zop (at1 [] Tryz.f309 [1,1,1,0]) 3 (fun a11 _ Z11 hz11=>zF (d:=16) (v:= .int .u8 ((b8.toNat:Nat):Int)) Z11 kr (bB (s:=zDe) (i:=x) rfl kr rfl rfl hb8) ?_);intro a12 Z12;refine hz11 Z12<|zz 1<|zw 17 (x:=((b8.toNat:Nat):Int))<|zz 1<|zw 18 (x:=(0:Int)+((b8.toNat:Nat):Int))<|zz 4<|zr' (v:= .int .i64 ((0:Int)+((b8.toNat:Nat):Int))) ?_;refine⟨G0.upd,_,rfl,0+b8.toNat,zO (by omega),?_,by omega⟩
 rw[Nat.pow_add];generalize 2^b8.toNat=t at *;omega
include hX in
theorem qEo(ad:Option Addr)(len cap:Nat)(l:List Nat)(h:zL (rd w X) ad len cap l)(hm:len≤1099511627776):Calls Tryz.prog 298 #[.slice ad len cap] w (Ret E0 w fun _ v=>∃m:Nat,v= .int .i64 (m:Int)∧val l<2^m∧m≤32*l.length):=by
 obtain rfl:=h.hlen;have hcap:=h.hcap;have hbig:=h.hbig;refine zen Tryz.func298 ?_;have G0:St E0 w X w X []:=St.start hX;refine zz 13<|zb 5 (b:=((l.length:Int)==0)) (fun J2=>?_) (fun J2=>?_);have F3:(l.length:Int)=0:=by simpa using J2
 have hnil:l=[]:=List.eq_nil_of_length_eq_zero (by omega)
 refine zz 8<|zr' (v:= .int .i64 0) ?_;exact⟨G0.upd,_,rfl,0,rfl,by rw[hnil];simp[val],by omega⟩
 have F4:(l.length:Int)≠0:=by simpa using J2
 obtain⟨bk5,of6,rfl,_⟩:=h.addr (by omega)
 have htop:=h.getD_lt (l.length-1);refine zz 8<|zw 8 (x:=(l.length:Int)-1)<|zz 1<|zw 9 (x:=(32:Int)*((l.length:Int)-1))<|zz 4<|zw 13 (x:=(l.length:Int)-1)<|zi (b:=bk5) (off:=of6) (len:=l.length) (cap:=cap) (kd:= .i64) (i:=(l.length:Int)-1) 1 (of6+(l.length-1)) ?_ (hoff:=(by first | omega | (simp;done) | (simp;omega)))
 refine zl ((h.cell (i:=(l.length-1)) (by omega)).mono (Le.refl _)).cells<|zc G0 (qLh _ _ G0.lt (l.getD (l.length-1) 0) (by omega)) ?_
 rintro v8 w8 G8 C8 Q8 ⟨r8,rfl,hr8,hs8⟩;refine zz 1<|zw 17 (x:=((32:Int)*((l.length:Int)-1))+(r8:Int))<|zz 4<|zr' (v:= .int .i64 (((32:Int)*((l.length:Int)-1))+(r8:Int))) ?_;exact⟨G8.upd,_,rfl,32*(l.length-1)+r8,zO (by omega),qLi l h.hlt _ (by omega) hr8,by omega⟩
include hX in
theorem qCq(ad:Option Addr)(len cap:Nat):Calls Tryz.prog 284 #[.slice ad len cap] w (Ret E0 w fun w' v=>∃bx,v= .func (.func 297) #[] #[.pointer (some ⟨bx,0,none⟩)]∧w.heap.size≤bx∧w'.heap[bx]?=some (.cells #[.slice ad len cap] 26 (0,0))):=by
 refine zen Tryz.func284 ?_;have G0:St E0 w X w X []:=St.start hX;refine zz 2<|zn pn (.cells #[.slice ad len cap] 26 (0,0)) G0 fun b3 w3 Y3 G3 C3 Q3=>zz 10<|zr' (v:= .func (.func 297) #[] #[.pointer (some ⟨b3,0,none⟩)]) ?_;exact⟨G3.upd,_,rfl,_,rfl,G3.own_ge 0 rfl,G3.get 0 rfl⟩
theorem zYu(l bx:Nat)(ad:Option Addr)(len cap:Nat)(xs:List Nat)(hbig:len≤1099511627776)(J:Nat→World→Prop)(R:World→Prop)(w:World)(hlimbs:zL (rd w X0) ad len cap xs)
    (hread:∀k w,J k w→At (rd w X0) ⟨bx,0,none⟩ [.slice ad len cap])
    (hel:∀k w,J (k+1) w→k / 32<len→∃b off,ad=some ⟨b,off,none⟩∧At (rd w X0) ⟨b,off+k / 32,none⟩ [.int .u32 ((xs.getD (k / 32) 0:Nat):Int)])
    (hY:∀k w,k<32*len→J (k+1) w→YieldAt (FF none) 0 Tryz.prog l #[.int .i64 (k:Int),.int .u32 ((val xs / 2^k % 2:Nat):Int)] w (xI (J k) R))
    (h0:∀w,J 0 w→R w) (hbx:At (rd w X0) ⟨bx,0,none⟩ [.slice ad len cap]) (hJ:∀m w',Upd E0 w w'→val xs<2^m→m≤32*xs.length→J m w'):Calls Tryz.prog 297 #[.func (.yield l) #[] #[],.pointer (some ⟨bx,0,none⟩)] w (fun e w'=>(∃v,e= .returned v)∧R w'):=by
 obtain rfl:=hlimbs.hlen;refine zFi (n:=24) (vs:=[.func (.yield l) #[] #[],.pointer (some ⟨bx,0,none⟩)]) Tryz.func297 rfl rfl rfl kr (fun a0 Z0=>?_);have Z0:Fr 24 a0 [(0,.func (.yield l) #[] #[]),(1,.pointer (some ⟨bx,0,none⟩))]:=Z0;have G0:St E0 w X0 w X0 []:=St.start (zT _);refine zG (fun K1 hK1=>?_);refine zC ?_;refine qO Z0 kr (zF (d:=4) (v:= .slice ad xs.length cap) Z0 kr (zB (t:=26) (g:=false) (vs:=[.slice ad xs.length cap]) (ad:=⟨bx,0,none⟩) rfl kr kr ir (hbx).cells) ?_);intro a2 Z2;refine qO Z2 kr (yO (d:=5) (f:=298) (cap:=#[]) (vs:=#[.slice ad xs.length cap]) Z2 kr G0 rfl kr kr (fun w=>Tryz.call298 _ w) (qEo _ X0 (zT _) _ _ _ xs hlimbs (by omega)) ?_)
 rintro v3 w3 G3 C3 Q3 ⟨m,rfl,hm1,hm2⟩ a4 Z4;refine zD 1 [(6,.int .i64 (i64.wrap ((m:Int)-1)))] Z4 kr kr (fun a5 Z5=>?_);have Z6:=Z5.set 6 (v':= .int .i64 ((m:Int)-1)) kr rfl (zO (lI (by omega) (by omega)))
 refine zD 1 [(3,.int .i64 ((m:Int)-1))] Z6 kr kr (fun a7 Z7=>?_);refine zH<|zA (hK1 _ _ ?_);refine jZ ?_;refine pK (fun(k:Nat)a w1=>Fr 24 a [(0,.func (.yield l) #[] #[]),(1,.pointer (some ⟨bx,0,none⟩)),(3,.int .i64 ((k:Int)-1))]∧J k w1∧k≤32*xs.length) (fun k=>k) m ?_ ?_
 ·
  exact⟨Z7.as [0,1,3] kr kr,hJ m _ Q3 hm1 hm2,hm2⟩
 rintro k a8 w8 ⟨Z8,hJ8,hk⟩;have G8:St E0 w8 X0 w8 X0 []:=St.start (zT _);refine zG (fun K9 hK9=>?_);refine zG (fun K10 hK10=>?_);refine zC<|zD 2 [(8,.bool (decide (((k:Int)-1)≥0))),(7,.int .i64 ((k:Int)-1))] Z8 kr kr (fun a11 Z11=>?_);refine zH<|zA (hK10 _ _ ?_);refine pJ (decide (((k:Int)-1)≥0)) Z11 kr kr (fun J12=>?_) (fun J12=>?_)
 ·
  have Z13:=Z11.set 8 (v':= .bool true) kr rfl (zK J12);have F14:((k:Int)-1)≥0:=of_decide_eq_true J12;obtain⟨j,rfl⟩:∃j,k=j+1:=⟨k-1,by omega⟩
  have Z15:=Z13.set 3 (v:= .int .i64 (((j+1:Nat):Int)-1)) (v':= .int .i64 (j:Int)) kr kr (zO (by omega))
  obtain⟨b,off,rfl,hel1⟩:=hel j _ hJ8 (by omega)
  have hltj:xs.getD (j / 32) 0<4294967296:=hlimbs.getD_lt _;refine vX<|zA (hK9 _ _ ?_);refine zG (fun K16 hK16=>?_);refine jZ<|zG (fun K17 hK17=>?_);refine zC<|zD 2 [(12,.int .i64 (j:Int)),(11,.func (.yield l) #[] #[])] Z15 kr kr (fun a18 Z18=>?_);refine qO Z18 kr (zF (d:=13) (v:= .slice (some ⟨b,off,none⟩) xs.length cap) Z18 kr (zB (t:=26) (g:=false) (vs:=[.slice (some ⟨b,off,none⟩) xs.length cap]) (ad:=⟨bx,0,none⟩) rfl kr kr ir ((hread _ _ hJ8)).cells) ?_);intro a19 Z19;refine zD 2 [(15,.int .i64 (i64.wrap (Int.tdiv ((j:Int)) (32)))),(14,.int .i64 (j:Int))] Z19 kr kr (fun a20 Z20=>?_);have Z21:=Z20.set 15 (v':= .int .i64 ((j / 32:Nat):Int)) kr rfl (zO (fI _ (by omega)))
  refine qO Z21 kr (zF (d:=16) (v:= .pointer (some ⟨b,off+j / 32,none⟩)) Z21 kr (qV (t:=26) (e:=214) (b:=b) (off:=off) (len:=xs.length) (cap:=cap) (kd:= .i64) (i:=((j / 32:Nat):Int)) (g:=false) (m:=1) (off':=off+j / 32) rfl kr kr kr kr (by omega) (by omega) (by first | rfl | omega | (simp;done) | (simp;omega)) _) ?_)
  intro a22 Z22;refine qO Z22 kr (zF (d:=17) (v:= .int .u32 ((xs.getD (j / 32) 0:Nat):Int)) Z22 kr (zB (t:=214) (g:=false) (vs:=[.int .u32 ((xs.getD (j / 32) 0:Nat):Int)]) (ad:=⟨b,off+j / 32,none⟩) rfl kr kr ir (hel1).cells) ?_);intro a23 Z23;refine zD 2 [(19,.int .i64 (Int.tmod ((j:Int)) (32))),(18,.int .i64 (j:Int))] Z23 kr kr (fun a24 Z24=>?_);have Z25:=Z24.set 19 (v':= .int .i64 ((j % 32:Nat):Int)) kr rfl (zO (zDv _));refine qO Z25 kr (zF (d:=20) (v:= .int .u32 ((xs.getD (j / 32) 0 / 2^(j % 32):Nat):Int)) Z25 kr (qHt rfl rfl rfl (by omega)) ?_)
  intro a26 Z26;refine zD 1 [(21,.int .u32 (vU ((xs.getD (j / 32) 0 / 2^(j % 32):Nat):Int) 1))] Z26 kr kr (fun a27 Z27=>?_);have Z28:=Z27.set 21 (v':= .int .u32 ((val xs / 2^j % 2:Nat):Int)) kr rfl (zO ((zOs _ (Nat.lt_of_le_of_lt (Nat.div_le_self _ _) hltj)).trans (by rw[zGg xs hlimbs.hlt j (by omega)])))
  refine zLi (d:=22) (l:=l) (vs:=#[.int .i64 (j:Int),.int .u32 ((val xs / 2^j % 2:Nat):Int)]) Z28 kr rfl kr kr (hY j _ (by omega) hJ8) (fun _ _ h=>h.ret) ?_
  rintro v29 w29 ⟨bb29,hv29,hJ29,hR29⟩ a30 Z30;cases hv29;have G29:St E0 w29 X0 w29 X0 []:=St.start (zT _);refine zD 1 [(23,.bool (!bb29))] Z30 kr kr (fun a31 Z31=>?_);refine zH<|zA (hK17 _ _ ?_);refine pJ (!bb29) Z31 kr kr (fun J32=>?_) (fun J32=>?_)
  ·
   have Z33:=Z31.set 23 (v':= .bool true) kr rfl (zK J32);have F34:bb29=false:=by simpa using J32
   have hbb:=F34;refine nJ ?_;refine dA ?_;refine nZ ?_;refine nZ ?_;refine dA<|zVq (v:= .tuple #[]) (rs:=[]) Z33 kr Res.nil kr ?_;exact⟨⟨_,rfl⟩,(hR29 hbb)⟩
  have Z35:=Z31.set 23 (v':= .bool false) kr rfl (zK J32);have F36:bb29=true:=by simpa using J32
  have hbb:=F36;refine vX ?_;refine jX<|zA (hK16 _ _ ?_);refine zC<|zD 2 [(10,.int .i64 (i64.wrap ((j:Int)-1))),(9,.int .i64 (j:Int))] Z35 kr kr (fun a37 Z37=>?_);have Z38:=Z37.set 10 (v':= .int .i64 ((j:Int)-1)) kr rfl (zO (lI (by omega) (by omega)))
  refine zD 1 [(3,.int .i64 ((j:Int)-1))] Z38 kr kr (fun a39 Z39=>?_);refine zH<|zA ?_;exact⟨j,⟨Z39.as [0,1,3] kr kr,hJ29 hbb,by omega⟩,by show j<j+1;omega⟩
 have Z40:=Z11.set 8 (v':= .bool false) kr rfl (zK J12);have F41:¬(((k:Int)-1)≥0):=of_decide_eq_false J12;have hk0:k=0:=by omega
 refine aJ ?_;refine sF ?_;refine sF ?_;refine sJ<|zOu (v:= .tuple #[]) (rs:=[]) Z40 kr Res.nil kr ?_;exact⟨⟨_,rfl⟩,(h0 _ (hk0▸hJ8))⟩
end
end Go.Proofs.YtdfmdiakjdggbaaGreatDoor

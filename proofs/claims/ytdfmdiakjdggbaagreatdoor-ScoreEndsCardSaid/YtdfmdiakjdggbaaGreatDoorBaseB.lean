import Derived.Test.YtdfmdiakjdggbaaGreatDoorRows
import Derived.Test.YtdfmdiakjdggbaaGreatDoorBaseA
set_option linter.unusedVariables false
set_option linter.unusedSimpArgs false
set_option linter.unnecessarySimpa false
namespace Go.Gv
open Go.RowKit IntKind
attribute [local semireducible] Go
structure Pn where
 i:Nat
 d:Nat
 deps:List Nat
 vf:(Nat→Nat)→Value
 ob:Option ((Nat→Nat)→Obj)
def al(i d:Nat)(vf:Nat→Value)(ob:Obj):Pn:=⟨i,d,[i],fun e=>vf (e 0),some fun _=>ob⟩
def Pn.loc(p:Pn)(e:Nat→Nat):Nat→Nat:=fun k=>e (p.deps.getD k p.i)
def Pn.val(p:Pn)(e:Nat→Nat):Value:=p.vf (p.loc e)
def up{α:Type}(f:Nat→α)(j:Nat)(x:α):Nat→α:=fun k=>bif Nat.beq k j then x else f k
theorem xP{α:Type}(f:Nat→α)(j:Nat)(x:α):up f j x j=x:=by simp[up]
theorem wD{α:Type}(f:Nat→α){j k:Nat}(x:α)(h:k≠j):up f j x k=f k:=by
 unfold up;cases hb:Nat.beq k j with
 | false=>rfl
 | true=>exact absurd (Nat.eq_of_beq_eq_true hb) h
structure Rg where
 P:Program
 ops:Array Oper
 Q:Exit→Act→World→Prop
 T:List Nat
 n:Nat
 D:List Deferred
 E:Nat→Prop
 w0:World
 X:Hid
 M0:List (Nat×Obj)
 r0:Rd
def Rg.S(R:Rg)(w:World):Prop:=(∀p∈R.M0,w.heap[p.1]?=some p.2)∧∀a v,R.r0 a=some v→w.cell? a=some v
def sel(M:List (Nat×Obj)):List Nat→List (Nat×Obj)
 | []=>[]
 | i::is=>match M[i]? with
  | some p=>p::sel M is
  | none=>sel M is
theorem aT{M:List (Nat×Obj)}:∀{is:List Nat},∀p∈sel M is,p∈M
 | i::is,p,h=>by
  unfold sel at h;split at h
  ·rename_i q hq;rcases List.mem_cons.1 h with rfl | h
   ·exact List.mem_of_getElem? hq
   ·exact aT p h
  ·exact aT p h
theorem selm{M M0:List (Nat×Obj)}(is:List Nat)(h:sel M is=M0:=by kernel_rfl):∀p∈M0,p∈M:=h▸aT
def unl(l:Array Bool):Nat:=l.toList.countP (fun b=>!b)
def wpU(R:Rg)(l:Array Bool)(a:Act)(w:World):Prop:=∀fuel,unl l≤fuel→wpT R.P R.ops (xC R.Q) R.S R.T fuel l a w
theorem qJj{l:Array Bool}{i:Nat}(h:l.getD i true=false):unl (l.setIfInBounds i true)+1=unl l:=by
 have hi:i<l.size:=by
  rcases Nat.lt_or_ge i l.size with h' | h'
  ·exact h'
  ·simp[Array.getElem?_eq_none h']at h
 have h1:l[i]=false:=by simpa[hi]using h
 have h2:i<l.toList.length:=by simpa using hi
 have h3:l.toList[i]'h2=false:=by simpa using h1
 unfold unl;rw[Array.toList_setIfInBounds,List.countP_set h2];have h4:0<l.toList.countP (fun b=>!b):=List.countP_pos_iff.2 ⟨_,List.getElem_mem h2,by simp[h3]⟩
 simp only[h3,Bool.not_false,if_true,Bool.not_true,Bool.false_eq_true,if_false];omega
section
variable {R:Rg}{l:Array Bool}{a:Act}{w:World}{o:Oper}{L:List (Nat×Value)}
theorem zLs{i:Nat}{fuel:Nat}(hr:i∈Region.ready .any R.ops l)(hf:unl l≤fuel):∃f,fuel=f+1∧unl (l.setIfInBounds i true)≤f:=by
 have:=qJj (mem_ready.1 hr).1;exact⟨fuel-1,by omega,by omega⟩
theorem qEi(hne:Region.ready .any R.ops l≠[])(h:∀i∈Region.ready .any R.ops l,wpOp R.P R.ops (xC R.Q) i (fun a' w'=>(qO R.T (l.setIfInBounds i true)=false→R.S w')∧wpU R (l.setIfInBounds i true) a' w') a w):wpU R l a w:=by
 intro fuel hf;obtain⟨i,hi⟩:=List.exists_mem_of_ne_nil _ hne;obtain⟨f,rfl,_⟩:=zLs hi hf;refine⟨fun h0=>absurd h0 hne,fun j hj=>wpOp_mono (fun a' w' h'=>⟨h'.1,h'.2 f ?_⟩) (h j hj)⟩;obtain⟨f',hf',h''⟩:=zLs hj hf;omega
theorem qSo{i d:Nat}{v:Value}(hi:R.ops[i]?=some o)(hc:cK R.ops R.T l i=true)(hk:chk R.ops L o d R.n=true)(hF:Fr R.n a L R.D)
  (hrun:(∀w,(execOp (evL L) o).run R.P w= .ok (.value v) w)∨((zGc R.ops R.T i&&!qO R.T l)=true∧∀w,R.S w→(execOp (evL L) o).run R.P w= .ok (.value v) w)) (hS:qO R.T l=false→R.S w)
  (k:Fr R.n (a.put (some d) v) ((d,v)::L) R.D→wpU R (l.setIfInBounds i true) (a.put (some d) v) w):wpU R l a w:=by
 obtain⟨h1,h2,h3,h4⟩:=wM hc;simp only[chk,Bool.and_eq_true]at hk;obtain⟨hd,hlt⟩:=zY hk.2.2;intro fuel hf;obtain⟨f,rfl,hf'⟩:=zLs h3 hf;rcases hrun with hrun | ⟨hw,hrun⟩
 ·refine pU hi (Region.noSelect_spec h1) (fun _ _ _ h=>h) (fun _=>True) (.inl fun _=>trivial) h4 f l a w (Region.free_spec hi h2) h3 (.inl ⟨hF.wanted hk.1,fun w _=>by rw[hF.exec hk.2.1];exact hrun w⟩) (.inl fun _=>trivial) hS trivial ?_
  rw[hd];exact k (hF.put hlt v) f hf'
 ·simp only[Bool.and_eq_true,Bool.not_eq_true']at hw;refine pU hi (Region.noSelect_spec h1) (fun _ _ _ h=>h) R.S (.inr ⟨fun _ h=>h,zGd hw.1⟩) h4 f l a w (Region.free_spec hi h2) h3 (.inl ⟨hF.wanted hk.1,fun w hs=>by rw[hF.exec hk.2.1];exact hrun w hs⟩) (.inr hw.2) hS (hS hw.2) ?_
  rw[hd];exact k (hF.put hlt v) f hf'
theorem qQv{i d:Nat}(hi:R.ops[i]?=some o)(hc:cK R.ops R.T l i=true)(hk:(jR R.ops L o false&&dE o d R.n)=true)(hF:Fr R.n a L R.D)(hS:qO R.T l=false→R.S w)
  (k:Fr R.n (a.put (some d) undef) ((d,undef)::L) R.D→wpU R (l.setIfInBounds i true) (a.put (some d) undef) w):wpU R l a w:=by
 obtain⟨h1,h2,h3,h4⟩:=wM hc;simp only[Bool.and_eq_true]at hk;obtain⟨hd,hlt⟩:=zY hk.2;intro fuel hf;obtain⟨f,rfl,hf'⟩:=zLs h3 hf;refine pU hi (Region.noSelect_spec h1) (fun _ _ _ h=>h) (fun _=>True) (.inl fun _=>trivial) h4 f l a w (Region.free_spec hi h2) h3 (.inr ⟨hF.wanted hk.1,rfl⟩) (.inl fun _=>trivial) hS trivial ?_;rw[hd];exact k (hF.put hlt undef) f hf'
end
def pT:List Pn→(Nat→Bool)→Array Bool→Array Bool
 | [],_,l=>l
 | p::ps,f,l=>pT ps f (bif f p.i then l.setIfInBounds p.i true else l)
def pM:List Pn→(Nat→Bool)→(Nat→Nat)→List (Nat×Obj)
 | [],_,_=>[]
 | p::ps,f,e=>(bif f p.i then(match p.ob with
  | some o=>[(e p.i,o (p.loc e))]
  | none=>[])else[])++pM ps f e
def pOk(a:Act)(Pd:List Pn)(f:Nat→Bool)(e:Nat→Nat):Prop:=∀p∈Pd,f p.i=true→a.tmps[p.d]?=some (p.val e)
def pCl(Pd:List Pn)(f:Nat→Bool):Prop:=∀p∈Pd,f p.i=true→f p.i=true∧∀k,f (p.deps.getD k p.i)=true
def nO(Pd:List Pn)(l:Array Bool):Array Bool:=pT Pd (fun _=>true) l
theorem zFi:∀(Pd:List Pn)(f:Nat→Bool)(l:Array Bool)(i:Nat),pT Pd f (l.setIfInBounds i true)=(pT Pd f l).setIfInBounds i true
 | [],_,_,_=>rfl
 | p::ps,f,l,i=>by
  simp only[pT];rw[←zFi ps f _ i];cases f p.i
  ·rfl
  ·simp only[cond_true];by_cases h:i=p.i
   ·subst h;rfl
   ·rw[Array.setIfInBounds_comm _ _ h]
def dH(T:List Nat)(Pd:List Pn):Bool:=Pd.all fun p=>!T.contains p.i
@[irreducible] def Gt (R : Rg) (Pd : List Pn) (c : Array Bool × List (Nat × Value)) (M : List (Nat × Obj)) (r : Rd) : Prop :=
  dH R.T Pd = true → (qO R.T c.1 = true ∨ ((∀ p ∈ R.M0, p ∈ M) ∧ Le R.r0 r)) →
  ∀ f e a w Y, pCl Pd f → Fr R.n a c.2 R.D → pOk a Pd f e → St R.E R.w0 R.X w Y (M ++ pM Pd f e) → Le r (rd w Y) → wpU R (pT Pd f c.1) a w
attribute [local semireducible] Gt
theorem zDn{T:List Nat}{l:Array Bool}{i:Nat}(h:qO T l=true):qO T (l.setIfInBounds i true)=true:=by
 unfold qO at *;rw[List.any_eq_true]at *;obtain⟨t,ht,h⟩:=h;exact⟨t,ht,getD_set_true h⟩
theorem bI{T:List Nat}:∀(Pd:List Pn)(f:Nat→Bool)(l:Array Bool),dH T Pd=true→qO T (pT Pd f l)=qO T l
 | [],_,_,_=>rfl
 | p::ps,f,l,h=>by
  simp only[dH,List.all_cons,Bool.and_eq_true]at h;simp only[pT];refine(bI ps f _ (by simpa[dH]using h.2)).trans ?_
  cases f p.i
  ·rfl
  ·exact xA (fun e=>by have:=h.1;simp[e]at this)
def pNe(Pd:List Pn)(i:Nat)(d:Option Nat):Bool:=Pd.all fun p=>!(p.i==i)&&!(some p.d==d)
theorem zXi{ops:Array Oper}{T:List Nat}{l:Array Bool}{i j:Nat}(h:cK ops T l i=true)(hne:i≠j):cK ops T (l.setIfInBounds j true) i=true:=by
 simp only[cK,Bool.and_eq_true]at *;refine⟨h.1,?_,?_,h.2.2.2⟩
 ·have h2:=h.2.1;unfold Region.free at *;cases ho:ops[i]? with
  | none=>simp[ho]at h2
  | some oi=>
   simp only[ho,List.all_eq_true]at h2 ⊢;intro k hk;have:=h2 k hk;simp only[Bool.or_eq_true]at this ⊢;rcases this with(h3 | h3) | h3
   ·exact .inl (.inl h3)
   ·refine .inl (.inr ?_);by_cases hkj:j=k
    ·subst hkj;rcases Nat.lt_or_ge j l.size with h' | h'
     ·simp[h']
     ·simp[Array.getElem?_eq_none,h']
    ·rw[getD_set_ne true hkj];exact h3
   ·exact .inr h3
 ·have h3:=h.2.2.1;rw[List.contains_iff_mem]at *;exact ready_mono h3 hne
theorem zLo{ops:Array Oper}{T:List Nat}{i:Nat}{d:Option Nat}:∀(Pd:List Pn)(f:Nat→Bool)(l:Array Bool),pNe Pd i d=true→cK ops T l i=true→cK ops T (pT Pd f l) i=true
 | [],_,_,_,h=>h
 | p::ps,f,l,hp,h=>by
  simp only[pNe,List.all_cons,Bool.and_eq_true]at hp;refine zLo (d:=d) ps f _ (by simpa[pNe]using hp.2) ?_
  cases f p.i
  ·exact h
  ·exact zXi h (fun e=>by have:=hp.1.1;simp[e]at this)
theorem zKo{i:Nat}{d:Option Nat}{a a':Act}{v:Value}{Pd:List Pn}{f:Nat→Bool}{e:Nat→Nat}(ha:a'.tmps=(a.put d v).tmps)(hp:pNe Pd i d=true)(h:pOk a Pd f e):pOk a' Pd f e:=fun p hm hf=>by
 have hne:=List.all_eq_true.1 hp p hm;simp only[Bool.and_eq_true,Bool.not_eq_true',beq_eq_false_iff_ne]at hne;rw[ha];cases d with
 | none=>exact h p hm hf
 | some d=>
  have:d≠p.d:=fun e=>hne.2 (by rw[e])
  show(a.tmps.setIfInBounds d v)[p.d]?=_;rw[Array.getElem?_setIfInBounds_ne this];exact h p hm hf
section
variable {R:Rg}{Pd:List Pn}{c:Array Bool×List (Nat×Value)}{M:List (Nat×Obj)}{r:Rd}
theorem hold{f:Nat→Bool}{e:Nat→Nat}{w:World}{Y:Hid}(hf:dH R.T Pd=true)(h0:qO R.T c.1=true∨((∀p∈R.M0,p∈M)∧Le R.r0 r))(hS:St R.E R.w0 R.X w Y (M++pM Pd f e))(hle:Le r (rd w Y)):qO R.T (pT Pd f c.1)=false→R.S w:=fun hb=>by
 rw[bI Pd f _ hf]at hb;rcases h0 with h0 | ⟨h1,h2⟩
 ·rw[h0]at hb;cases hb
 ·exact⟨fun p hp=>(hS.own p (List.mem_append_left _ (h1 p hp))).1,fun a v hv=>jD (hle _ _ (h2 _ _ hv))⟩
def gv(R:Rg)(i:Nat)(v:Value)(c:Array Bool×List (Nat×Value)):Array Bool×List (Nat×Value):=
 (c.1.setIfInBounds i true,match(zP R.ops i).dst with
  | some d=>(d,v)::c.2
  | none=>c.2)
def gd(R:Rg)(i:Nat):Nat:=(zP R.ops i).dst.getD 0
def gok(R:Rg)(Pd:List Pn)(c:Array Bool×List (Nat×Value))(i:Nat):Bool:=cK R.ops R.T c.1 i&&(chk R.ops c.2 (zP R.ops i) (gd R i) R.n&&pNe Pd i (zP R.ops i).dst)
theorem zNj(i:Nat){v:Value}(hrun:(∀w,(execOp (evL c.2) (zP R.ops i)).run R.P w= .ok (.value v) w)∨((zGc R.ops R.T i&&!qO R.T c.1)=true∧∀w,R.S w→(execOp (evL c.2) (zP R.ops i)).run R.P w= .ok (.value v) w))
  (k:Gt R Pd (gv R i v c) M r) (hi:R.ops[i]?=some (zP R.ops i):=by kernel_rfl) (hc:gok R Pd c i=true:=by kernel_rfl):Gt R Pd c M r:=by
 intro hf h0 f e a w Y hb hF hp hS hle;simp only[gok,Bool.and_eq_true]at hc;have hk:=hc.2.1;simp only[chk,Bool.and_eq_true]at hk;obtain⟨hd,hlt⟩:=zY hk.2.2;have hT:i∉R.T:=(wM hc.1).2.2.2;refine qSo (i:=i) hi (zLo Pd f _ hc.2.2 hc.1) hc.2.1 hF (by rw[bI Pd f _ hf];exact hrun) (hold hf h0 hS hle) (fun G1=>?_)
 rw[←zFi];exact k hf (by
  show qO R.T (c.1.setIfInBounds i true)=true∨_;rw[xA hT];exact h0) f e (a.put (some (gd R i)) v) w Y hb (by simp only[gv,hd];exact G1) (zKo (v:=v) (by rw[hd]) hc.2.2 hp) hS hle
theorem qNl(i:Nat)(k:Gt R Pd (gv R i undef c) M r)(hi:R.ops[i]?=some (zP R.ops i):=by kernel_rfl)(hc:(cK R.ops R.T c.1 i&&(jR R.ops c.2 (zP R.ops i) false&&dE (zP R.ops i) (gd R i) R.n&&pNe Pd i (zP R.ops i).dst))=true:=by kernel_rfl):Gt R Pd c M r:=by
 intro hf h0 f e a w Y hb hF hp hS hle;simp only[Bool.and_eq_true]at hc;obtain⟨hd,hlt⟩:=zY hc.2.1.2;have hT:i∉R.T:=(wM hc.1).2.2.2;refine qQv (i:=i) (d:=gd R i) hi (zLo Pd f _ hc.2.2 hc.1) (by simp only[hc.2.1.1,hc.2.1.2,Bool.and_self]) hF (hold hf h0 hS hle) (fun G1=>?_)
 rw[←zFi];exact k hf (by
  show qO R.T (c.1.setIfInBounds i true)=true∨_;rw[xA hT];exact h0) f e (a.put (some (gd R i)) undef) w Y hb (by simp only[gv,hd];exact G1) (zKo (v:=undef) (by rw[hd]) hc.2.2 hp) hS hle
def g1(R:Rg)(Pd:List Pn)(w:World)(i:Nat)(c:Array Bool×List (Nat×Value)):Option ((Array Bool×List (Nat×Value))×World):=
 match R.ops[i]? with
 | none=>none
 | some o=>
  bif cK R.ops R.T c.1 i&&pNe Pd i o.dst then
   match o.dst with
   | none=>none
   | some d=>
    bif Nat.blt d R.n then
     bif jR R.ops c.2 o true then
      bif sO c.2 o then
       match(execOp (evL c.2) o).run R.P w with
       | .ok (.value v) w'=>fv v fun v=>some ((c.1.setIfInBounds i true,(d,v)::c.2),w')
       | _=>none
      else none
     else bif jR R.ops c.2 o false then some ((c.1.setIfInBounds i true,(d,undef)::c.2),w)else none
    else none
  else none
def gc(R:Rg)(Pd:List Pn)(i:Nat)(c:Array Bool×List (Nat×Value)):Array Bool×List (Nat×Value):=match g1 R Pd R.w0 i c with
 | some (c,_)=>c
 | none=>c
def gk(R:Rg)(Pd:List Pn):List Nat→Array Bool×List (Nat×Value)→Array Bool×List (Nat×Value)
 | [],c=>c
 | i::is,c=>gk R Pd is (gc R Pd i c)
theorem qRq{i:Nat}(h:∀w,g1 R Pd w i c=some (gc R Pd i c,w))(k:Gt R Pd (gc R Pd i c) M r):Gt R Pd c M r:=by
 generalize hc':gc R Pd i c=c' at h k;clear hc';have h0:=h R.w0;unfold g1 at h h0;cases hi:R.ops[i]? with
 | none=>simp[hi]at h0
 | some o=>
  have hoA:zP R.ops i=o:=by simp[zP,hi]
  simp only[hi]at h h0;cases ht:cK R.ops R.T c.1 i<;>simp only[ht,Bool.false_and,Bool.true_and,cond_false,cond_true]at h h0
  ·cases h0
  cases hn:pNe Pd i o.dst<;>simp only[hn,cond_false,cond_true]at h h0
  ·cases h0
  cases hd:o.dst with
  | none=>simp[hd]at h0
  | some d=>
   simp only[hd]at h h0;cases hlt:Nat.blt d R.n<;>simp only[hlt,cond_false,cond_true]at h h0
   ·cases h0
   have hds:dE o d R.n=true:=by simp[dE,hd,hlt]
   have hgd:gd R i=d:=by simp[gd,hoA,hd]
   cases hwt:jR R.ops c.2 o true<;>simp only[hwt,cond_false,cond_true]at h h0
   ·cases hwf:jR R.ops c.2 o false<;>simp only[hwf,cond_false,cond_true]at h h0
    ·cases h0
    cases h0;refine qNl i (by simpa[gv,hoA,hd]using k) (by rw[hoA];exact hi) ?_
    rw[hoA,hgd];simp only[ht,hwf,hds,hn,Bool.and_self]
   ·cases hok:sO c.2 o<;>simp only[hok,cond_false,cond_true]at h h0
    ·cases h0
    cases hx:(execOp (evL c.2) o).run R.P R.w0 with
    | halt e w1=>simp[hx]at h0
    | ok y w1=>
     cases y<;>simp only[hx,qAc]at h0<;>try cases h0
     rename_i v;refine zNj (v:=v) i (.inl fun w=>?_) (by simpa[gv,hoA,hd]using k) (by rw[hoA];exact hi) ?_
     ·rw[hoA];have hw:=h w;cases hy:(execOp (evL c.2) o).run R.P w with
      | halt e w1=>simp[hy]at hw
      | ok y w1=>
       cases y<;>simp only[hy,qAc]at hw<;>cases hw;rfl
     ·rw[gok,hoA,hgd];simp only[chk,ht,hwt,hds,hok,hn,Bool.and_self]
inductive GP (R:Rg) (Pd:List Pn):List Nat→Array Bool×List (Nat×Value)→Prop
  | nil {c:Array Bool×List (Nat×Value)}:GP R Pd [] c
  | cons {i:Nat} {is:List Nat} {c:Array Bool×List (Nat×Value)} (h:∀w,g1 R Pd w i c=some (gc R Pd i c,w)) (k:GP R Pd is (gc R Pd i c)):GP R Pd (i::is) c
theorem qAf:∀(is:List Nat){c:Array Bool×List (Nat×Value)},Gt R Pd (gk R Pd is c) M r→GP R Pd is c→Gt R Pd c M r
 | _,_,k,.nil=>k
 | _,_,k,.cons h hk=>qRq h (qAf _ k hk)
theorem gz(is:List Nat)(k:Gt R Pd (gk R Pd is c) M r)(h:GP R Pd is c:=by repeat (first | exact GP.nil | refine GP.cons (by intro w;kernel_rfl) ?_)):Gt R Pd c M r:=qAf is k h
theorem gl(i:Nat){vs:List Value}{ad:Addr}(hat:At R.r0 ad vs)(k:Gt R Pd (gv R i (ldV (ldG R.P (zP R.ops i)) vs) c) M r)(hi:R.ops[i]?=some (zP R.ops i):=by kernel_rfl)(hc:gok R Pd c i=true:=by kernel_rfl)
  (hT:(zGc R.ops R.T i&&!qO R.T c.1)=true:=by kernel_rfl)
  (ho:(zP R.ops i).op= .load (zCo (zP R.ops i)) (ldX (zP R.ops i)):=by kernel_rfl) (hx:evL c.2 (ldX (zP R.ops i))= .pointer (some ad):=by kernel_rfl) (ht:ldT R.P (zCo (zP R.ops i))=some (ldG R.P (zP R.ops i),vs.length):=by kernel_rfl) (hg:(ldG R.P (zP R.ops i)||vs.length==1)=true:=by kernel_rfl):Gt R Pd c M r:=
 zNj i (.inr ⟨hT,fun _ hS=>zB ho hx ht (by simpa using hg) fun j v hj=>hS.2 _ _ (hat j v hj)⟩) k hi hc
def gow(R:Rg)(c:Array Bool×List (Nat×Value))(i j:Nat):List Value:=((cO R.M0 j).toList.drop (dX (evL c.2 (ldX (zP R.ops i))))).take (ldM R.P (zP R.ops i))
theorem gw(i j:Nat)(k:Gt R Pd (gv R i (ldV (ldG R.P (zP R.ops i)) (gow R c i j)) c) M r)(hi:R.ops[i]?=some (zP R.ops i):=by kernel_rfl)(hc:gok R Pd c i=true:=by kernel_rfl)
  (hT:(zGc R.ops R.T i&&!qO R.T c.1)=true:=by kernel_rfl)
  (ho:(zP R.ops i).op= .load (zCo (zP R.ops i)) (ldX (zP R.ops i)):=by kernel_rfl) (hx:evL c.2 (ldX (zP R.ops i))= .pointer (some ⟨bO R.M0 j,dX (evL c.2 (ldX (zP R.ops i))),none⟩):=by kernel_rfl)
  (ht:ldT R.P (zCo (zP R.ops i))=some (ldG R.P (zP R.ops i),(gow R c i j).length):=by kernel_rfl) (hg:(ldG R.P (zP R.ops i)||(gow R c i j).length==1)=true:=by kernel_rfl)
  (hj:R.M0[j]?=some (bO R.M0 j,.cells (cO R.M0 j) (tO R.M0 j) (fO R.M0 j)):=by kernel_rfl):Gt R Pd c M r:=
 zNj i (.inr ⟨hT,fun w hS=>zB ho hx ht (by simpa using hg) (by
  have h1:=hS.1 _ (List.mem_of_getElem? hj);intro q v hq;rw[qG,cell_of_row w _ _ _ _ _ h1];unfold gow at hq;rw[List.getElem?_take]at hq;split at hq
  ·rw[List.getElem?_drop]at hq;simpa using hq
  ·cases hq)⟩) k hi hc
theorem gH(i:Nat){v:Value}(hrun:∀w,(execOp (evL c.2) (zP R.ops i)).run R.P w= .ok (.value v) w)(k:Gt R Pd (gv R i v c) M r)(hi:R.ops[i]?=some (zP R.ops i):=by kernel_rfl)(hc:gok R Pd c i=true:=by kernel_rfl):Gt R Pd c M r:=zNj i (.inl hrun) k hi hc
theorem gi(j:Nat){b off len cap:Nat}{kd:IntKind}{i:Int}(m off':Nat)(k:Gt R Pd (gv R j (.pointer (some ⟨b,off',none⟩)) c) M r)(h0:0≤i:=by omega)(h1:i<len:=by omega)
  (hoff:off+i.toNat*m=off':=by first | rfl | omega | (simp;done) | (simp;omega)) (hm:ldS R.P (idE R.P (idT (zP R.ops j)))=m:=by kernel_rfl) (hx:evL c.2 (idX (zP R.ops j))= .slice (some ⟨b,off,none⟩) len cap:=by kernel_rfl) (hi:evL c.2 (idI (zP R.ops j))= .int kd i:=by kernel_rfl)
  (ho:(zP R.ops j).op= .indexAddr (idT (zP R.ops j)) (idX (zP R.ops j)) (idI (zP R.ops j)):=by kernel_rfl) (ht:R.P.underlying (idT (zP R.ops j))=some (.slice (idE R.P (idT (zP R.ops j)))):=by kernel_rfl)
  (he:ldT R.P (idE R.P (idT (zP R.ops j)))=some (zNv R.P (idE R.P (idT (zP R.ops j))),ldS R.P (idE R.P (idT (zP R.ops j)))):=by kernel_rfl) (hi':R.ops[j]?=some (zP R.ops j):=by kernel_rfl) (hc:gok R Pd c j=true:=by kernel_rfl):Gt R Pd c M r:=
 gH j (fun w=>qQ ho ht hx hi he h0 h1 (by rw[hm];exact hoff) w) k hi' hc
def gst(c:Array Bool×List (Nat×Value))(t:Nat)(v:Value):Array Bool×List (Nat×Value):=(c.1,(t,v)::c.2)
def gsl(c:Array Bool×List (Nat×Value))(t:Nat):Option Value:=bif has c.2 t then some (vP c.2 t)else none
theorem qGl(t:Nat){v v':Value}(he:v=v')(h:Gt R Pd (gst c t v') M r)(hv:gsl c t=some v:=by kernel_rfl):Gt R Pd c M r:=by
 intro hf h0 f e a w Y hb hF hp hS hle;unfold gsl at hv;cases hh:has c.2 t<;>simp only[hh,cond_false,cond_true]at hv<;>cases hv;exact h hf h0 f e a w Y hb (hF.set t hh rfl he) hp hS hle
theorem gt(t:Nat){p:Prop}[Decidable p](ht:p→Gt R Pd (gst c t (.bool true)) M r)(hf:¬p→Gt R Pd (gst c t (.bool false)) M r)(hv:gsl c t=some (.bool (decide p)):=by kernel_rfl):Gt R Pd c M r:=by
 by_cases h:p
 ·exact qGl t (by rw[decide_eq_true h]) (ht h) hv
 ·exact qGl t (by rw[decide_eq_false h]) (hf h) hv
theorem gb(t:Nat){b:Bool}(ht:b=true→Gt R Pd (gst c t (.bool true)) M r)(hf:b=false→Gt R Pd (gst c t (.bool false)) M r)(hv:gsl c t=some (.bool b):=by kernel_rfl):Gt R Pd c M r:=by
 cases b
 ·exact qGl t rfl (hf rfl) hv
 ·exact qGl t rfl (ht rfl) hv
theorem qJm{P:Program}{o:Oper}{a:Act}{w:World}{K:Act→World→Prop}{Q:Exit→Act→World→Prop}(h:o.wp P a w K Q):o.wp P a w (fun a' w'=>K a' w'∧∃v,a'.tmps=(a.put o.dst v).tmps) Q:=by
 unfold Oper.wp at *;generalize (execOp a.eval o).run P w=r at *;cases r with
 | ok n w'=>
  cases n<;>simp only[Oper.upon]at h ⊢
  case value v=>exact⟨h,v,rfl⟩
  case skip=>exact⟨h,undef,rfl⟩
  case defer d=>exact⟨h,undef,by cases o.dst<;>rfl⟩
  case enter f args=>exact Calls.mono h (fun e w'' he=>by cases e<;>first | exact⟨he,_,rfl⟩ | exact he)
  case row row args=>exact Rows.mono h (fun v _ he=>⟨he,v,rfl⟩)
 | halt x w'=>cases x<;>simp only[Oper.upon]at h ⊢<;>exact h
def LeA(l l':Array Bool):Prop:=∀k,l.getD k false=true→l'.getD k false=true
theorem zFn{ops:Array Oper}{l l':Array Bool}{j:Nat}(hj:j∈Region.ready .any ops l)(hl:LeA l l')(hun:l'.getD j true=false):j∈Region.ready .any ops l':=by
 rw[mem_ready]at *;obtain⟨_,o,ho,hall⟩:=hj;exact⟨hun,o,ho,fun e he hb=>hl _ (hall e he hb)⟩
theorem LeA.set{l l':Array Bool}(h:LeA l l')(i:Nat)(hs:l.size=l'.size):LeA (l.setIfInBounds i true) (l'.setIfInBounds i true):=fun k hk=>by
 by_cases hik:i=k
 ·subst hik;rcases Nat.lt_or_ge i l.size with h' | h'
  ·simp[show i<l'.size by omega]
  ·simp[Array.getElem?_eq_none,h']at hk
 ·rw[getD_set_ne false hik]at hk ⊢;exact h k hk
theorem LeA.setr{l l':Array Bool}(h:LeA l l')(i:Nat):LeA l (l'.setIfInBounds i true):=fun k hk=>getD_set_true (h k hk)
theorem zUi:∀(Pd:List Pn)(f:Nat→Bool)(l l':Array Bool),l.size=l'.size→LeA l l'→LeA (pT Pd f l) (nO Pd l')
 | [],_,_,_,_,h=>h
 | p::ps,f,l,l',hs,h=>by
  simp only[pT,nO,cond_true];cases f p.i
  ·exact zUi ps f l _ (by simpa using hs) (h.setr p.i)
  ·exact zUi ps f _ _ (by simpa using hs) (h.set p.i hs)
def zIl(Pd:List Pn)(j:Nat):Prop:=∀p∈Pd,p.i≠j
theorem zFh:∀(Pd:List Pn)(f:Nat→Bool)(l:Array Bool)(j:Nat),zIl Pd j→(pT Pd f l).getD j true=l.getD j true
 | [],_,_,_,_=>rfl
 | p::ps,f,l,j,h=>by
  refine(zFh ps f _ j fun q hq=>h q (List.mem_cons_of_mem _ hq)).trans ?_;cases f p.i
  ·rfl
  ·exact getD_set_ne true (h p (List.mem_cons_self ..))
theorem qDg:∀(Pd:List Pn)(f:Nat→Bool)(l l':Array Bool),LeA l l'→LeA l (pT Pd f l')
 | [],_,_,_,h=>h
 | p::ps,f,l,l',h=>by
  refine qDg ps f l _ ?_;cases f p.i
  ·exact h
  ·exact h.setr p.i
theorem zKp:∀(Pd:List Pn)(f:Nat→Bool)(l:Array Bool)(j:Nat),(pT Pd f l).getD j false=true→l.getD j false=true∨f j=true
 | [],_,_,_,h=> .inl h
 | p::ps,f,l,j,h=>by
  rcases zKp ps f _ j h with h | h
  ·cases hp:f p.i
   ·rw[hp]at h;exact .inl h
   ·rw[hp]at h;by_cases hj:p.i=j
    ·exact .inr (hj▸hp)
    ·exact .inl (by rwa[cond_true,getD_set_ne false hj]at h)
  ·exact .inr h
theorem qDh:∀(Pd:List Pn)(f:Nat→Bool)(l:Array Bool),∀p∈Pd,f p.i=true→p.i<l.size→(pT Pd f l).getD p.i false=true
 | q::ps,f,l,p,hp,hf,hlt=>by
  rcases List.mem_cons.1 hp with rfl | hp'
  ·refine qDg ps f _ _ (fun _ h=>h) _ ?_;simp[hf,hlt]
  ·exact qDh ps f _ p hp' hf (by cases f q.i<;>simpa using hlt)
theorem lM:∀(Pd:List Pn)(f g:Nat→Bool)(l:Array Bool),(∀q∈Pd,f q.i=g q.i)→pT Pd f l=pT Pd g l
 | [],_,_,_,_=>rfl
 | p::ps,f,g,l,h=>by
  simp only[pT];rw[h p (List.mem_cons_self ..)];exact lM ps f g _ fun q hq=>h q (List.mem_cons_of_mem _ hq)
theorem zFg:∀(Pd:List Pn)(f g:Nat→Bool)(e e':Nat→Nat),(∀q∈Pd,f q.i=g q.i∧(f q.i=true→e q.i=e' q.i∧q.loc e=q.loc e'))→pM Pd f e=pM Pd g e'
 | [],_,_,_,_,_=>rfl
 | p::ps,f,g,e,e',h=>by
  simp only[pM];rw[zFg ps f g e e' fun q hq=>h q (List.mem_cons_of_mem _ hq)];obtain⟨h1,h2⟩:=h p (List.mem_cons_self ..);rw[←h1];cases hf:f p.i
  ·rfl
  ·obtain⟨h3,h4⟩:=h2 hf;rw[h3,h4]
def dB:List Pn→Bool
 | []=>true
 | p::ps=>pNe ps p.i (some p.d)&&dB ps
theorem kS{Pd:List Pn}{i d:Nat}(h:pNe Pd i (some d)=true):∀q∈Pd,q.i≠i∧q.d≠d:=fun q hq=>by
 have:=List.all_eq_true.1 h q hq;simpa using this
theorem zFe:∀{Pd:List Pn},dB Pd=true→∀p∈Pd,∀q∈Pd,p.i=q.i∨p.d=q.d→p=q
 | x::ps,h,p,hp,q,hq,he=>by
  simp only[dB,Bool.and_eq_true]at h;by_cases h1:p=x
  ·by_cases h2:q=x
   ·rw[h1,h2]
   ·have:=kS h.1 q ((List.mem_cons.1 hq).resolve_left h2);rw[h1]at he;rcases he with he | he
    ·exact absurd he.symm this.1
    ·exact absurd he.symm this.2
  ·have hp':=(List.mem_cons.1 hp).resolve_left h1;by_cases h2:q=x
   ·have:=kS h.1 p hp';rw[h2]at he;rcases he with he | he
    ·exact absurd he this.1
    ·exact absurd he this.2
   ·exact zFe h.2 p hp' q ((List.mem_cons.1 hq).resolve_left h2) he
def cnt(Pd:List Pn)(f:Nat→Bool):Nat:=Pd.countP fun p=>!f p.i
def nb(p:Pn)(e:Nat→Nat):List (Nat×Obj):=match p.ob with
 | some o=>[(e p.i,o (p.loc e))]
 | none=>[]
theorem zQy{q:Pn}{f:Nat→Bool}{e:Nat→Nat}{j b:Nat}(h:∀k,f (q.deps.getD k q.i)=true)(hj:f j=false):q.loc (up e j b)=q.loc e:=funext fun k=>wD e b fun he=>by rw[←he,h k]at hj;cases hj
theorem qLd{f:Nat→Bool}{p:Pn}:∀{Pd:List Pn}{l:Array Bool},dB Pd=true→p∈Pd→pT Pd (up f p.i true) l=(pT Pd f l).setIfInBounds p.i true
 | q::ps,l,hd,hp=>by
  simp only[dB,Bool.and_eq_true]at hd;simp only[pT];by_cases hq:p=q
  ·subst hq;rw[xP,cond_true,lM ps (up f p.i true) f _ fun x hx=>wD f true (kS hd.1 x hx).1,←zFi];cases f p.i
   ·rfl
   ·simp
  ·have hp':p∈ps:=(List.mem_cons.1 hp).resolve_left hq;rw[wD f true (fun e=>(kS hd.1 p hp').1 e.symm)];exact qLd hd.2 hp'
theorem qLc{f:Nat→Bool}{e:Nat→Nat}{p:Pn}{b:Nat}(hf:f p.i=false):∀{Pd:List Pn},dB Pd=true→pCl Pd f→p∈Pd→(pM Pd (up f p.i true) (up e p.i b)).Perm (nb p (up e p.i b)++pM Pd f e)
 | q::ps,hd,hcl,hp=>by
  simp only[dB,Bool.and_eq_true]at hd;simp only[pM];by_cases hq:p=q
  ·subst hq;rw[xP f,cond_true,hf,cond_false,List.nil_append,zFg ps (up f p.i true) f (up e p.i b) e fun x hx=>⟨wD f true (kS hd.1 x hx).1,fun h=>⟨wD e b (kS hd.1 x hx).1,zQy (hcl x (List.mem_cons_of_mem _ hx) (by rwa[wD f true (kS hd.1 x hx).1]at h)).2 hf⟩⟩]
   exact List.Perm.refl _
  ·have hp':p∈ps:=(List.mem_cons.1 hp).resolve_left hq;have hne:q.i≠p.i:=fun e=>(kS hd.1 p hp').1 e.symm;have ih:=qLc (e:=e) (b:=b) hf hd.2 (fun x hx=>hcl x (List.mem_cons_of_mem _ hx)) hp';rw[wD f true hne];cases hfq:f q.i
   ·simpa using ih
   ·rw[wD e b hne,zQy (hcl q (List.mem_cons_self ..) hfq).2 hf];refine(ih.append_left _).trans ?_;rw[←List.append_assoc,←List.append_assoc];exact List.perm_append_comm.append_right _
theorem qPi{a a':Act}{f:Nat→Bool}{e:Nat→Nat}{p:Pn}{b:Nat}{Pd:List Pn}(hd:dB Pd=true)(hcl:pCl Pd f)(hp:p∈Pd)(hf:f p.i=false)(hlt:p.d<a.tmps.size)(ha:a'.tmps=(a.put (some p.d) (p.val (up e p.i b))).tmps)(h:pOk a Pd f e):pOk a' Pd (up f p.i true) (up e p.i b):=fun q hq hfq=>by
 rw[ha];show(a.tmps.setIfInBounds p.d _)[q.d]?=_;by_cases hpq:p=q
 ·subst hpq;simp[hlt]
 ·have hne:¬(p.i=q.i∨p.d=q.d):=fun e=>hpq (zFe hd p hp q hq e);have hfq':f q.i=true:=by rwa[wD f true (fun e=>hne (.inl e.symm))]at hfq
  rw[Array.getElem?_setIfInBounds_ne (fun e=>hne (.inr e)),h q hq hfq'];unfold Pn.val;rw[zQy (hcl q hq hfq').2 hf]
theorem zZc{f:Nat→Bool}{p:Pn}:∀{Pd:List Pn},dB Pd=true→p∈Pd→f p.i=false→cnt Pd (up f p.i true)+1=cnt Pd f
 | q::ps,hd,hp,hf=>by
  simp only[dB,Bool.and_eq_true]at hd;unfold cnt;simp only[List.countP_cons];by_cases hq:p=q
  ·subst hq;have:ps.countP (fun x=>!up f p.i true x.i)=ps.countP (fun x=>!f x.i):=List.countP_congr fun x hx=>by rw[wD f true (kS hd.1 x hx).1]
   rw[this,xP,hf];simp
  ·have hp':p∈ps:=(List.mem_cons.1 hp).resolve_left hq;have ih:=zZc hd.2 hp' hf;unfold cnt at ih;rw[wD f true (fun e=>(kS hd.1 p hp').1 e.symm)];omega
theorem Fr.put_ne{n:Nat}{a:Act}{L:List (Nat×Value)}{D:List Deferred}(h:Fr n a L D){d:Nat}(hd:has L d=false)(v:Value):Fr n (a.put (some d) v) L D:=by
 refine⟨by simpa[Act.put]using h.size,h.defers,fun t ht=>?_⟩
 have hne:d≠t:=fun e=>by subst e;rw[hd]at ht;cases ht
 show(a.tmps.setIfInBounds d v)[t]?=_;rw[Array.getElem?_setIfInBounds_ne hne];exact h.get t ht
def pS(Pd:List Pn)(e:Nat→Nat):List (Nat×Value):=match Pd with
 | []=>[]
 | p::ps=>(p.d,p.val e)::pS ps e
def wto(o:Oper)(j:Nat):Bool:=o.after.any fun e=>Region.binds .any e&&e.on==j
def zKe(R:Rg)(c:Array Bool×List (Nat×Value))(Pd:List Pn)(p:Pn):Bool:=
 (jR R.ops c.2 (zP R.ops p.i) true&&(dE (zP R.ops p.i) p.d R.n&&(!has c.2 p.d&&!c.1.getD p.i true)))&&
 (p.deps.all (fun j=>j==p.i||((wto (zP R.ops p.i) j&&!c.1.getD j true)||Pd.any fun q=>wto (zP R.ops p.i) q.i&&q.deps.contains j))&&
 (zP R.ops p.i).op.operands.toList.all fun x=>match x with
  | .tmp t=>Pd.all fun q=>!(q.d==t)||wto (zP R.ops p.i) q.i
  | _=>true)
def zLp(R:Rg)(l:Array Bool):List Nat→List Pn→Bool
 | _,[]=>true
 | es,p::ps=>(zP R.ops p.i).after.all (fun e=>!Region.binds .any e||(l.getD e.on false||es.contains e.on))&&zLp R l (p.i::es) ps
inductive yO (R:Rg) (c:Array Bool×List (Nat×Value)) (Pd:List Pn):List Pn→Prop
  | nil:yO R c Pd []
  | cons {p:Pn} {ps:List Pn} (hb:zKe R c Pd p=true) (hi:R.ops[p.i]?=some (zP R.ops p.i)) (ho:∀e,sO (pS Pd e++c.2) (zP R.ops p.i)=true)
      (hr:∀e w,(execOp (evL (pS Pd e++c.2)) (zP R.ops p.i)).run R.P w= .ok (.value (p.val (up e p.i w.heap.size))) (match p.ob with
        | none=>w
        | some o=>w.alloc (o (p.loc (up e p.i w.heap.size))))) (k:yO R c Pd ps):yO R c Pd (p::ps)
theorem yO.k{Pd ps:List Pn}{p:Pn}(k:yO R c Pd ps)(hb:zKe R c Pd p=true:=by kernel_rfl)(hi:R.ops[p.i]?=some (zP R.ops p.i):=by kernel_rfl)(ho:∀e,sO (pS Pd e++c.2) (zP R.ops p.i)=true:=by intro e;kernel_rfl)
  (hr:∀e w,(execOp (evL (pS Pd e++c.2)) (zP R.ops p.i)).run R.P w= .ok (.value (p.val (up e p.i w.heap.size))) (match p.ob with
    | none=>w
    | some o=>w.alloc (o (p.loc (up e p.i w.heap.size)))):=by intro e w;kernel_rfl):yO R c Pd (p::ps):= .cons hb hi ho hr k
theorem yO.get{Pd:List Pn}:∀{ps:List Pn},yO R c Pd ps→∀p∈ps,zKe R c Pd p=true∧R.ops[p.i]?=some (zP R.ops p.i)∧(∀e,sO (pS Pd e++c.2) (zP R.ops p.i)=true)∧
  ∀e w,(execOp (evL (pS Pd e++c.2)) (zP R.ops p.i)).run R.P w= .ok (.value (p.val (up e p.i w.heap.size))) (match p.ob with
    | none=>w
    | some o=>w.alloc (o (p.loc (up e p.i w.heap.size))))
 | _,.cons hb hi ho hr k,p,hp=>by
  rcases List.mem_cons.1 hp with rfl | hp
  ·exact⟨hb,hi,ho,hr⟩
  ·exact k.get p hp
theorem zTo{n:Nat}{a:Act}{L:List (Nat×Value)}{D:List Deferred}(hF:Fr n a L D){e:Nat→Nat}{t:Nat}:∀{ps:List Pn},(∀q∈ps,q.d=t→a.tmps[t]?=some (q.val e))→has (pS ps e++L) t=true→a.tmps[t]?=some (vP (pS ps e++L) t)
 | [],_,hh=>hF.get t hh
 | p::ps,h,hh=>by
  simp only[pS,List.cons_append,has,vP]at hh ⊢;cases hb:Nat.beq p.d t with
  | true=>exact h p (List.mem_cons_self ..) (Nat.eq_of_beq_eq_true hb)
  | false=>
   rw[hb]at hh;exact zTo hF (fun q hq=>h q (List.mem_cons_of_mem _ hq)) hh
theorem qEs{ops:Array Oper}{l:Array Bool}{i j:Nat}{o:Oper}(ho:ops[i]?=some o)(hr:i∈Region.ready .any ops l)(h:wto o j=true):l.getD j false=true:=by
 obtain⟨_,o',ho',hall⟩:=mem_ready.1 hr;obtain rfl:o'=o:=Option.some.inj (ho'.symm.trans ho);obtain⟨e,he,hb⟩:=Array.any_eq_true'.1 h;simp only[Bool.and_eq_true,beq_iff_eq]at hb;exact hb.2▸hall e he hb.1
theorem bU{l:Array Bool}{j:Nat}(h:l.getD j true=false):l.getD j false=false∧j<l.size:=by
 rcases Nat.lt_or_ge j l.size with h' | h'
 ·exact⟨by simpa[h']using h,h'⟩
 ·simp[Array.getElem?_eq_none h']at h
theorem nrun{f:Nat→Bool}{e:Nat→Nat}{a:Act}{w:World}{Pd:List Pn}{p:Pn}{K:Act→World→Prop}(hPd:yO R c Pd Pd)(hp:p∈Pd)(hcl:pCl Pd f)(hF:Fr R.n a c.2 R.D)(hok:pOk a Pd f e)(hr:p.i∈Region.ready .any R.ops (pT Pd f c.1))
  (hK:(∀k,up f p.i true (p.deps.getD k p.i)=true)→p.d<a.tmps.size→has c.2 p.d=false→K (a.put (some p.d) (p.val (up e p.i w.heap.size))) (match p.ob with
    | none=>w
    | some o=>w.alloc (o (p.loc (up e p.i w.heap.size))))):wpOp R.P R.ops (xC R.Q) p.i K a w:=by
 obtain⟨q1,q2,q3,q4⟩:=hPd.get p hp;simp only[zKe,Bool.and_eq_true]at q1;obtain⟨⟨hw,hd,hno,hun⟩,hdep,hopd⟩:=q1;obtain⟨hd1,hlt⟩:=zY hd;have hdone:∀j,wto (zP R.ops p.i) j=true→c.1.getD j true=false→f j=true:=fun j h1 h2=>by
  rcases zKp Pd f c.1 j (qEs q2 hr h1)with h | h
  ·rw[(bU h2).1]at h;cases h
  ·exact h
 have hcl2:∀k,up f p.i true (p.deps.getD k p.i)=true:=fun k=>by
  rcases Nat.lt_or_ge k p.deps.length with hk | hk
  ·have hm:p.deps.getD k p.i∈p.deps:=by rw[List.getD_eq_getElem?_getD,List.getElem?_eq_getElem hk];exact List.getElem_mem hk
   have:=List.all_eq_true.1 hdep _ hm;simp only[Bool.or_eq_true,beq_iff_eq,Bool.and_eq_true,Bool.not_eq_true']at this;by_cases he:p.deps.getD k p.i=p.i
   ·rw[he,xP]
   ·rw[wD f true he];rcases this with h | ⟨h1,h2⟩ | h
    ·exact absurd h he
    ·exact hdone _ h1 h2
    ·rw[List.any_eq_true]at h;obtain⟨q,hq,hqq⟩:=h;simp only[Bool.and_eq_true,List.contains_iff_mem]at hqq;have hqc:=(hPd.get q hq).1;simp only[zKe,Bool.and_eq_true,Bool.not_eq_true']at hqc;have hfq:=hdone q.i hqq.1 hqc.1.2.2.2;obtain⟨k',hk',he'⟩:=List.getElem_of_mem hqq.2;have:=(hcl q hq hfq).2 k';rwa[List.getD_eq_getElem?_getD,List.getElem?_eq_getElem hk',Option.getD_some,he']at this
  ·rw[List.getD_eq_getElem?_getD,List.getElem?_eq_none hk];exact xP ..
 unfold wpOp;simp only[q2];rw[if_pos (hF.wanted hw)];refine .inl ?_;have hok1:=q3 e;simp only[sO,Bool.and_eq_true]at hok1;have hex:execOp a.eval (zP R.ops p.i)=execOp (evL (pS Pd e++c.2)) (zP R.ops p.i):=execOp_congr _ (nL hok1.1) fun x hx=>by
  have hx':x∈(zP R.ops p.i).op.operands.toList:=by simpa using hx
  have hcv:=mP hok1.2 x hx';cases x with
  | tmp t=>
   have h1:=List.all_eq_true.1 hopd _ hx';have h2:a.tmps[t]?=some (vP (pS Pd e++c.2) t):=zTo hF (fun q hq he=>by
    have h3:=List.all_eq_true.1 h1 q hq;simp only[Bool.or_eq_true,Bool.not_eq_true',beq_eq_false_iff_ne]at h3;have h4:=h3.resolve_left (fun h=>h he);have hqc:=(hPd.get q hq).1;simp only[zKe,Bool.and_eq_true,Bool.not_eq_true']at hqc;rw[←he];exact hok q hq (hdone q.i h4 hqc.1.2.2.2)) hcv
   show a.tmps.getD t undef=_;simp[h2,evL]
  | _=>rfl
 unfold Oper.wp;rw[hex,q4 e w];show K (a.put (zP R.ops p.i).dst _) _;rw[hd1];exact hK hcl2 (by rw[hF.size];exact hlt) (by simpa using hno)
theorem zJq(stop:(Nat→Bool)→Bool)(hstop:∀f,(∀p∈Pd,f p.i=true)→stop f=true)(hPd:yO R c Pd Pd)(hdis:(dB Pd&&zLp R c.1 [] Pd.reverse)=true)
  (hne:∀f e a w Y,pCl Pd f→Fr R.n a c.2 R.D→pOk a Pd f e→St R.E R.w0 R.X w Y (M++pM Pd f e)→Le r (rd w Y)→
   (stop f=false→∀j∈Region.ready .any R.ops (pT Pd f c.1),zIl Pd j→wpOp R.P R.ops (xC R.Q) j (fun a' w'=>(qO R.T ((pT Pd f c.1).setIfInBounds j true)=false→R.S w')∧wpU R ((pT Pd f c.1).setIfInBounds j true) a' w') a w)∧
   (stop f=true→wpU R (pT Pd f c.1) a w))
  (hf:dH R.T Pd=true) (h0:qO R.T c.1=true∨((∀p∈R.M0,p∈M)∧Le R.r0 r)):
  ∀(m:Nat)(f:Nat→Bool)(e:Nat→Nat)(a:Act)(w:World)(Y:Hid),cnt Pd f=m→pCl Pd f→Fr R.n a c.2 R.D→pOk a Pd f e→St R.E R.w0 R.X w Y (M++pM Pd f e)→Le r (rd w Y)→wpU R (pT Pd f c.1) a w:=by
 simp only[Bool.and_eq_true]at hdis;intro m;induction m using Nat.strongRecOn with
 | _ m ih=>
  intro f e a w Y hm hcl hF hp hS hle;obtain⟨h1,h2⟩:=hne f e a w Y hcl hF hp hS hle;cases J0:stop f
  case true=>exact h2 J0
  have hr:Region.ready .any R.ops (pT Pd f c.1)≠[]:=by
   have key:∀(ps:List Pn)(es:List Nat),zLp R c.1 es ps=true→(∀x∈es,∃q∈Pd,q.i=x∧f x=true)→(∀p∈ps,p∈Pd)→(∃p∈ps,f p.i=false)→∃p∈Pd,p.i∈Region.ready .any R.ops (pT Pd f c.1):=by
    intro ps;induction ps with
    | nil=>rintro es _ _ _ ⟨p,hp,_⟩;cases hp
    | cons q ps ihp=>
     rintro es ht hes hsub ⟨p,hp,hfp⟩;simp only[zLp,Bool.and_eq_true]at ht;have hq:q∈Pd:=hsub q (List.mem_cons_self ..);cases hfq:f q.i with
     | true=>
      refine ihp (q.i::es) ht.2 (fun x hx=>?_) (fun p hp=>hsub p (List.mem_cons_of_mem _ hp)) ⟨p,?_,hfp⟩
      ·rcases List.mem_cons.1 hx with rfl | hx
       ·exact⟨q,hq,rfl,hfq⟩
       ·exact hes x hx
      ·refine(List.mem_cons.1 hp).resolve_left fun e=>?_;rw[e,hfq]at hfp;cases hfp
     | false=>
      refine⟨q,hq,mem_ready.2 ⟨?_,_,(hPd.get q hq).2.1,fun x hx hb=>?_⟩⟩
      ·have hqc:=(hPd.get q hq).1;simp only[zKe,Bool.and_eq_true,Bool.not_eq_true']at hqc;have hun:=bU hqc.1.2.2.2;cases hg:(pT Pd f c.1).getD q.i false with
       | true=>
        rcases zKp Pd f c.1 q.i hg with h | h
        ·rw[hun.1]at h;cases h
        ·rw[hfq]at h;cases h
       | false=>
        have hsz:∀(ps:List Pn)(l:Array Bool),(pT ps f l).size=l.size:=by
         intro ps;induction ps with
         | nil=>intro l;rfl
         | cons y ps ihs=>intro l;simp only[pT];rw[ihs];cases f y.i<;>simp
        have hlt:q.i<(pT Pd f c.1).size:=by rw[hsz];exact hun.2
        simpa[hlt]using hg
      ·have:=Array.all_eq_true_iff_forall_mem.1 ht.1 x hx;simp only[hb,Bool.not_true,Bool.false_or,Bool.or_eq_true,List.contains_iff_mem]at this;rcases this with h | h
       ·exact qDg Pd f c.1 c.1 (fun _ h=>h) _ h
       ·obtain⟨y,hy,hyx,hfy⟩:=hes _ h;have hyc:=(hPd.get y hy).1;simp only[zKe,Bool.and_eq_true,Bool.not_eq_true']at hyc;rw[←hyx]at hfy ⊢;exact qDh Pd f c.1 y hy hfy (bU hyc.1.2.2.2).2
   by_cases hex:∃p∈Pd,f p.i=false
   ·obtain⟨p,_,hpr⟩:=key Pd.reverse [] hdis.2 (fun x hx=>by cases hx) (fun p hp=>List.mem_reverse.1 hp) (hex.imp fun p h=>⟨List.mem_reverse.2 h.1,h.2⟩)
    intro h;rw[h]at hpr;cases hpr
   ·rw[hstop f fun p hp=>by
     cases hfp:f p.i
     ·exact absurd ⟨p,hp,hfp⟩ hex
     ·rfl]at J0
    cases J0
  refine qEi hr fun j hj=>?_;by_cases hin:zIl Pd j
  ·exact h1 J0 j hj hin
  ·obtain⟨p,hp',hpj⟩:∃p∈Pd,p.i=j:=by
    apply Classical.byContradiction;intro hno;exact hin fun p hp e=>hno ⟨p,hp,e⟩
   subst hpj;have hfp:f p.i=false:=by
    cases hfp:f p.i
    ·rfl
    ·have hpc:=(hPd.get p hp').1;simp only[zKe,Bool.and_eq_true,Bool.not_eq_true']at hpc;have:=qDh Pd f c.1 p hp' hfp (bU hpc.1.2.2.2).2;have h9:=(bU (mem_ready.1 hj).1).1;rw[this]at h9;cases h9
   refine nrun hPd hp' hcl hF hp hj fun hk hlt hno=>?_;have hcl2:pCl Pd (up f p.i true):=fun q hq hfq=>⟨hfq,by
    by_cases hqp:q.i=p.i
    ·obtain rfl:=zFe hdis.1 q hq p hp' (.inl hqp);exact hk
    ·have hfq':f q.i=true:=by rwa[wD f true hqp]at hfq
     intro k;have:=(hcl q hq hfq').2 k;by_cases he:q.deps.getD k q.i=p.i
     ·rw[he,xP]
     ·rw[wD f true he];exact this⟩
   have hp2:=qPi (e:=e) (b:=w.heap.size) hdis.1 hcl hp' hfp hlt (a':=a.put (some p.d) (p.val (up e p.i w.heap.size))) rfl hp;have G2:=hF.put_ne hno (p.val (up e p.i w.heap.size));have hcnt:=zZc hdis.1 hp' hfp;have hperm:=qLc (e:=e) (b:=w.heap.size) hfp hdis.1 hcl hp';rw[←qLd hdis.1 hp'];have hgo:∀w' Y',St R.E R.w0 R.X w' Y' (M++pM Pd (up f p.i true) (up e p.i w.heap.size))→Le r (rd w' Y')→(qO R.T (pT Pd (up f p.i true) c.1)=false→R.S w')∧wpU R (pT Pd (up f p.i true) c.1) (a.put (some p.d) (p.val (up e p.i w.heap.size))) w':=fun w' Y' hS' hle'=>⟨hold hf h0 hS' hle',ih _ (by omega) _ _ _ _ _ rfl hcl2 G2 hp2 hS' hle'⟩
   cases A:p.ob with
   | none=>
    simp only;refine hgo w Y (hS.perm ?_) hle;simp only[nb,A,List.nil_append]at hperm;exact hperm.append_left M
   | some o=>
    simp only;refine hgo _ _ ((hS.alloc (o (p.loc (up e p.i w.heap.size)))).perm ?_) (hle.trans (Le.hide_new _));simp only[nb,A,xP]at hperm;exact(hperm.append_left M).trans List.perm_middle
theorem g_op(i:Nat)(h:∀a w Y B,Fr R.n a c.2 R.D→St R.E R.w0 R.X w Y (M++B)→Le r (rd w Y)→(zP R.ops i).wp R.P a w (fun a' w'=>∃L' M' r' Y',Fr R.n a' L' R.D∧St R.E R.w0 R.X w' Y' (M'++B)∧Le r' (rd w' Y')∧
   (qO R.T (c.1.setIfInBounds i true)=true∨(((∀p∈R.M0,p∈M)→∀p∈R.M0,p∈M')∧Le r r'))∧Gt R Pd (c.1.setIfInBounds i true,L') M' r') (xC R.Q))
  (hPd:yO R c Pd Pd) (hdis:(dB Pd&&zLp R c.1 [] Pd.reverse)=true:=by kernel_rfl) (hi:R.ops[i]?=some (zP R.ops i):=by kernel_rfl) (hr:Region.ready .any R.ops (nO Pd c.1)=[i]:=by kernel_rfl) (hw:(jR R.ops c.2 (zP R.ops i) true&&pNe Pd i (zP R.ops i).dst)=true:=by kernel_rfl):Gt R Pd c M r:=by
 intro hf h0 f e a w Y hb hF hp hS hle;simp only[Bool.and_eq_true]at hw;have hin:zIl Pd i:=fun p hp=>by
  have:=List.all_eq_true.1 hw.2 p hp;simp only[Bool.and_eq_true,Bool.not_eq_true',beq_eq_false_iff_ne]at this;exact this.1
 have main:∀f e a w Y,pCl Pd f→Fr R.n a c.2 R.D→pOk a Pd f e→St R.E R.w0 R.X w Y (M++pM Pd f e)→Le r (rd w Y)→∀j∈Region.ready .any R.ops (pT Pd f c.1),zIl Pd j→
   wpOp R.P R.ops (xC R.Q) j (fun a' w'=>(qO R.T ((pT Pd f c.1).setIfInBounds j true)=false→R.S w')∧wpU R ((pT Pd f c.1).setIfInBounds j true) a' w') a w:=by
  intro f e a w Y hb hF hp hS hle j hj hin;have hji:j=i:=by
   have:j∈Region.ready .any R.ops (nO Pd c.1):=zFn hj (zUi Pd f c.1 c.1 rfl (fun _ h=>h)) (by rw[nO,zFh Pd _ c.1 j hin,←zFh Pd f c.1 j hin];exact(mem_ready.1 hj).1)
   rw[hr]at this;simpa using this
  subst hji;unfold wpOp;simp only[hi];rw[if_pos (hF.wanted hw.1)];refine .inl (Oper.wp_mono ?_ (qJm (h a w Y (pM Pd f e) hF hS hle)));rintro a' w' ⟨⟨L',M',r',Y',hF',hS',hle',hst,hG⟩,v,hv⟩;have hp':=zKo (i:=j) hv hw.2 hp;have h0':qO R.T (c.1.setIfInBounds j true)=true∨((∀p∈R.M0,p∈M')∧Le R.r0 r'):=by
   rcases hst with hst | ⟨h1,h2⟩
   ·exact .inl hst
   ·rcases h0 with h0 | ⟨h3,h4⟩
    ·exact .inl (zDn h0)
    ·exact .inr ⟨h1 h3,h4.trans h2⟩
  rw[←zFi];exact⟨hold (c:=(c.1.setIfInBounds j true,L')) hf h0' hS' hle',hG hf h0' f e a' w' Y' hb hF' hp' hS' hle'⟩
 refine zJq (fun f=>Pd.all fun p=>f p.i) (fun f h=>List.all_eq_true.2 h) hPd hdis (fun f e a w Y hb hF hp hS hle=>⟨fun _=>main f e a w Y hb hF hp hS hle,fun hc=>?_⟩) hf h0 (cnt Pd f) f e a w Y rfl hb hF hp hS hle;have heq:pT Pd f c.1=nO Pd c.1:=lM Pd f _ c.1 fun q hq=>List.all_eq_true.1 hc q hq;refine qEi (by rw[heq,hr];simp) fun j hj=>?_
 have hji:j=i:=by rw[heq,hr]at hj;simpa using hj
 exact main f e a w Y hb hF hp hS hle j hj (hji▸hin)
structure SzLe(w0 w:World):Prop where
 size:w0.heap.size≤w.heap.size
structure YLt(w0:World)(Y:Hid)(w:World):Prop where
 upd:SzLe w0 w
 lt:∀k o,Y k o→k<w.heap.size
def gV(R:Rg)(c:Array Bool×List (Nat×Value))(i:Nat):Option (FuncId×Array Value):=match evL c.2 (clF (zP R.ops i))with
 | .func (.func f) t cap=>bif t.isEmpty then some (f,(clA (zP R.ops i)).map (evL c.2)++cap)else none
 | _=>none
theorem qGi{i:Nat}{f:FuncId}{vs:Array Value}(h:gV R c i=some (f,vs)):∃cap,evL c.2 (clF (zP R.ops i))= .func (.func f) #[] cap∧(clA (zP R.ops i)).map (evL c.2)++cap=vs:=by
 unfold gV at h;split at h
 ·rename_i f' t cap he;cases ht:t.isEmpty<;>simp only[ht,cond_true,cond_false]at h<;>cases h;obtain rfl:t=#[]:=by simpa using ht
  exact⟨cap,he,rfl⟩
 ·cases h
theorem gC(i:Nat){f:FuncId}{vs:Array Value}{Φ:World→Hid→World→Value→Prop}(hcon:∀w Y B,St R.E R.w0 R.X w Y (M++B)→Le r (rd w Y)→Calls R.P f vs w (Ret E0 w (Φ w Y)))
  (k:∀v w Y w1,YLt R.w0 Y w→Le r (rd w1 Y)→Φ w Y w1 v→Gt R Pd (gv R i v c) M (rd w1 Y))
  (hPd:yO R c Pd Pd:=by exact yO.nil) (hv:gV R c i=some (f,vs):=by kernel_rfl) (hk:(opk c.2 (zP R.ops i) (gd R i) R.n&&!R.T.contains i)=true:=by kernel_rfl) (ho:(zP R.ops i).op= .call {callee:= .value (clF (zP R.ops i)),args:=clA (zP R.ops i),argTypes:=clT (zP R.ops i)}:=by kernel_rfl)
  (hcall:∀w,(callFunc f vs).run R.P w= .ok (.enter f vs) w:=by intro w;kernel_rfl) (hdis:(dB Pd&&zLp R c.1 [] Pd.reverse)=true:=by kernel_rfl) (hi:R.ops[i]?=some (zP R.ops i):=by kernel_rfl) (hr:Region.ready .any R.ops (nO Pd c.1)=[i]:=by kernel_rfl)
  (hw:(jR R.ops c.2 (zP R.ops i) true&&pNe Pd i (zP R.ops i).dst)=true:=by kernel_rfl):Gt R Pd c M r:=by
 obtain⟨cap,hf,ha⟩:=qGi hv;simp only[Bool.and_eq_true]at hk;have hd:(zP R.ops i).dst=some (gd R i):=by
  have:=hk.1;simp only[opk,Bool.and_eq_true]at this;exact(zY this.2).1
 refine g_op i (fun a w Y B hF hS hle=>?_) hPd hdis hi hr hw;refine jY hF hk.1 hS ho hf ha hcall (hcon w Y B hS hle) fun v w1 h1 h2 _ h4 a1 G1=>?_;have:=k v w Y w1 ⟨⟨hS.upd.size⟩,hS.lt⟩ (hle.trans h2) h4;refine⟨_,M,rd w1 Y,Y,G1,h1,Le.refl _,.inr ⟨fun h=>h,hle.trans h2⟩,?_⟩;simpa only[gv,hd]using this
theorem gp(p:Pn)(h:Gt R (p::Pd) c M r)(hp:(!R.T.contains p.i&&(!c.1.getD p.i true&&Pd.all fun q=>!(q.i==p.i)&&!q.deps.contains p.i))=true:=by kernel_rfl):Gt R Pd c M r:=by
 intro hf h0 f e a w Y hb hF hp' hS hle;simp only[Bool.and_eq_true,Bool.not_eq_true']at hp;have hne:∀q∈Pd,q.i≠p.i:=fun q hq=>by
  have:=List.all_eq_true.1 hp.2.2 q hq;simp only[Bool.and_eq_true,Bool.not_eq_true',beq_eq_false_iff_ne]at this;exact this.1
 have hnd:∀q∈Pd,∀k,q.deps.getD k q.i≠p.i:=fun q hq k=>by
  have:=List.all_eq_true.1 hp.2.2 q hq;simp only[Bool.and_eq_true,Bool.not_eq_true',beq_eq_false_iff_ne]at this;rcases Nat.lt_or_ge k q.deps.length with hk | hk
  ·rw[List.getD_eq_getElem?_getD,List.getElem?_eq_getElem hk];intro he;have hm:p.i∈q.deps:=by rw[←he];exact List.getElem_mem hk
   have h2:=this.2;rw[←Bool.not_eq_true,List.contains_iff_mem]at h2;exact h2 hm
  ·rw[List.getD_eq_getElem?_getD,List.getElem?_eq_none hk];exact this.1
 have e1:∀q∈Pd,f q.i=up f p.i false q.i:=fun q hq=>(wD f false (hne q hq)).symm;have:=h (by simp only[dH,List.all_cons,hp.1,Bool.not_false,Bool.true_and];exact hf) h0 (up f p.i false) e a w Y (fun q hq hfq=>by
  rcases List.mem_cons.1 hq with rfl | hq
  ·rw[xP]at hfq;cases hfq
  ·refine⟨hfq,fun k=>?_⟩;rw[wD f false (hnd q hq k)];exact(hb q hq (by rwa[e1 q hq])).2 k) hF (fun q hq hfq=>by
  rcases List.mem_cons.1 hq with rfl | hq
  ·rw[xP]at hfq;cases hfq
  ·exact hp' q hq (by rwa[e1 q hq])) (by
  simp only[pM,xP,cond_false,List.nil_append];rw[zFg Pd (up f p.i false) f e e fun q hq=>⟨(e1 q hq).symm,fun _=>⟨rfl,rfl⟩⟩];exact hS) hle
 simp only[pT,xP,cond_false]at this;rwa[lM Pd (up f p.i false) f c.1 fun q hq=>(e1 q hq).symm]at this
theorem Fr.cons{n:Nat}{a:Act}{L:List (Nat×Value)}{D:List Deferred}(h:Fr n a L D){d:Nat}{v:Value}(hd:a.tmps[d]?=some v):Fr n a ((d,v)::L) D:=by
 refine⟨h.size,h.defers,fun t ht=>?_⟩;simp only[has,vP]at *;cases hb:Nat.beq d t with
 | true=>obtain rfl:=Nat.eq_of_beq_eq_true hb;simpa using hd
 | false=>rw[hb]at ht;simpa using h.get t (by simpa using ht)
def pB:List Pn→(Nat→Nat)→List (Nat×Obj)
 | [],_=>[]
 | p::ps,e=>match p.ob with
  | some o=>(e p.i,o (p.loc e))::pB ps e
  | none=>pB ps e
theorem qDc:∀(Pd:List Pn)(f:Nat→Bool)(e:Nat→Nat),(∀p∈Pd,f p.i=true)→pM Pd f e=pB Pd e
 | [],_,_,_=>rfl
 | p::ps,f,e,h=>by
  simp only[pM,pB,h p (List.mem_cons_self ..),cond_true,qDc ps f e fun q hq=>h q (List.mem_cons_of_mem _ hq)];cases p.ob<;>rfl
def gfl(R:Rg)(Pd:List Pn)(l:Array Bool):Bool:=Pd.all fun p=>(Region.ready .any R.ops (nO (Pd.filter fun q=>!(q.i==p.i)) l)).all fun j=>Pd.any fun q=>q.i==j
theorem zKq{x:Nat}:∀(Pd:List Pn)(f:Nat→Bool)(l l':Array Bool),l.size=l'.size→f x=false→LeA l l'→LeA (pT Pd f l) (nO (Pd.filter fun q=>!(q.i==x)) l')
 | [],_,_,_,_,_,h=>h
 | p::ps,f,l,l',hs,hx,h=>by
  simp only[pT];by_cases hp:p.i=x
  ·simp only[List.filter_cons,hp,beq_self_eq_true,Bool.not_true,Bool.false_eq_true,if_false,hx,cond_false];exact zKq ps f l l' hs hx h
  ·simp only[List.filter_cons,show(p.i==x)=false by simpa using hp,Bool.not_false,if_true,nO,pT,cond_true]
   cases f p.i
   ·exact zKq ps f _ _ (by simpa using hs) hx (h.setr p.i)
   ·exact zKq ps f _ _ (by simpa using hs) hx (h.set p.i hs)
theorem ge(k:∀e:Nat→Nat,Gt R [] (nO Pd c.1,pS Pd e++c.2) (pB Pd e++M) r)(hPd:yO R c Pd Pd)(hc:(dB Pd&&zLp R c.1 [] Pd.reverse)=true:=by kernel_rfl)(hfl:gfl R Pd c.1=true:=by kernel_rfl):Gt R Pd c M r:=by
 intro hf h0 f e a w Y hb hF hp hS hle;refine zJq (fun f=>Pd.all fun p=>f p.i) (fun f h=>List.all_eq_true.2 h) hPd hc (fun f e a w Y hb hF hp hS hle=>⟨fun h1 j hj hin=>?_,fun h1=>?_⟩) hf h0 (cnt Pd f) f e a w Y rfl hb hF hp hS hle
 ·exfalso;obtain⟨p,hp',hfp⟩:∃p∈Pd,f p.i=false:=by
   apply Classical.byContradiction;intro hno;rw[List.all_eq_true.2 fun p hp=>by
    cases hfp:f p.i
    ·exact absurd ⟨p,hp,hfp⟩ hno
    ·rfl]at h1
   cases h1
  have hun:(nO (Pd.filter fun q=>!(q.i==p.i)) c.1).getD j true=false:=by
   rw[nO,zFh _ _ c.1 j (fun q hq=>hin q (List.mem_filter.1 hq).1),←zFh Pd f c.1 j hin];exact(mem_ready.1 hj).1
  have hjr:=zFn hj (zKq (x:=p.i) Pd f c.1 c.1 rfl hfp (fun _ h=>h)) hun;have:=List.all_eq_true.1 hfl p hp';have:=List.all_eq_true.1 this j hjr;rw[List.any_eq_true]at this;obtain⟨q,hq,he⟩:=this;exact hin q hq (by simpa using he)
 ·have hall:∀p∈Pd,f p.i=true:=fun p hp=>List.all_eq_true.1 h1 p hp;have heq:pT Pd f c.1=nO Pd c.1:=lM Pd f _ c.1 fun q hq=>hall q hq;rw[heq];rw[qDc Pd f e hall]at hS;have G2:∀ps:List Pn,(∀p∈ps,p∈Pd)→Fr R.n a (pS ps e++c.2) R.D:=by
   intro ps;induction ps with
   | nil=>intro _;exact hF
   | cons p ps ihp=>intro h;exact(ihp fun q hq=>h q (List.mem_cons_of_mem _ hq)).cons (hp p (h p (List.mem_cons_self ..)) (hall p (h p (List.mem_cons_self ..))))
  have:=k e (by rfl) (by
   show qO R.T (nO Pd c.1)=true∨_;rw[nO,bI Pd _ _ hf];exact h0.imp id fun h=>⟨fun p hp=>List.mem_append_right _ (h.1 p hp),h.2⟩) f e a w Y (fun p hp=>by cases hp) (G2 Pd fun _ h=>h) (fun p hp=>by cases hp) (by
   simp only[pM,List.append_nil];exact hS.perm List.perm_append_comm) hle
  exact this
theorem gs1{p:Pn}(k:∀b,Gt R Pd (c.1.setIfInBounds p.i true,(p.d,p.vf fun _=>b)::c.2) (nb p (fun _=>b)++M) r)(hPd:yO R c (p::Pd) (p::Pd))(hc:(dB (p::Pd)&&zLp R c.1 [] (p::Pd).reverse)=true:=by kernel_rfl)
  (hdp:(p.deps.all (fun j=>j==p.i)&&(Pd.all (fun q=>!q.deps.contains p.i)&&(Region.ready .any R.ops (nO Pd c.1)).all fun j=>(p::Pd).any fun q=>q.i==j))=true:=by kernel_rfl):Gt R (p::Pd) c M r:=by
 intro hf h0 f e a w Y hb hF hp hS hle;simp only[Bool.and_eq_true]at hdp;have hf2:dH R.T Pd=true:=by simp only[dH,List.all_cons,Bool.and_eq_true]at hf;exact hf.2
 have hpT:p.i∉R.T:=fun e=>by simp[dH,e]at hf
 refine zJq (fun f=>f p.i) (fun f h=>h p (List.mem_cons_self ..)) hPd hc (fun f e a w Y hb hF hp hS hle=>⟨fun h1 j hj hin=>?_,fun h1=>?_⟩) hf h0 (cnt (p::Pd) f) f e a w Y rfl hb hF hp hS hle
 ·exfalso;have hin2:zIl Pd j:=fun q hq=>hin q (List.mem_cons_of_mem _ hq);have hj':j∈Region.ready .any R.ops (pT Pd f c.1):=by simpa only[pT,h1,cond_false]using hj
  have hjr:j∈Region.ready .any R.ops (nO Pd c.1):=zFn hj' (zUi Pd f c.1 c.1 rfl (fun _ h=>h)) (by rw[nO,zFh Pd _ c.1 j hin2,←zFh Pd f c.1 j hin2];exact(mem_ready.1 hj').1)
  have:=List.all_eq_true.1 hdp.2.2 j hjr;rw[List.any_eq_true]at this;obtain⟨q,hq,he⟩:=this;exact hin q hq (by simpa using he)
 ·have hloc:p.loc e=fun _=>e p.i:=funext fun k=>by
   unfold Pn.loc;rcases Nat.lt_or_ge k p.deps.length with hk | hk
   ·rw[List.getD_eq_getElem?_getD,List.getElem?_eq_getElem hk];have:=List.all_eq_true.1 hdp.1 _ (List.getElem_mem hk);rw[Option.getD_some,eq_of_beq this]
   ·rw[List.getD_eq_getElem?_getD,List.getElem?_eq_none hk];rfl
  have hv:=hp p (List.mem_cons_self ..) h1;unfold Pn.val at hv;rw[hloc]at hv;have C2:St R.E R.w0 R.X w Y ((nb p (fun _=>e p.i)++M)++pM Pd f e):=hS.perm (by
   simp only[pM,h1,cond_true];unfold nb;rw[show p.loc (fun _=>e p.i)=p.loc e by rw[hloc];rfl]
   cases p.ob with
   | none=>exact List.Perm.refl _
   | some o=>exact List.perm_middle.symm)
  have:=k (e p.i) hf2 (by
   show qO R.T (c.1.setIfInBounds p.i true)=true∨_;rw[xA hpT];exact h0.imp id fun h=>⟨fun q hq=>List.mem_append_right _ (h.1 q hq),h.2⟩) f e a w Y (fun q hq=>hb q (List.mem_cons_of_mem _ hq)) (hF.cons hv) (fun q hq=>hp q (List.mem_cons_of_mem _ hq)) C2 hle
  simpa only[pT,h1,cond_true]using this
theorem gp1(p:Pn)(k:∀b,Gt R [] (c.1.setIfInBounds p.i true,(p.d,p.vf fun _=>b)::c.2) (nb p (fun _=>b)++M) r)(hPd:yO R c [p] [p]:=by exact yO.cons (by kernel_rfl) (by kernel_rfl) (by intro e;kernel_rfl) (by intro e w;kernel_rfl) yO.nil)
  (hp:(!R.T.contains p.i&&(!c.1.getD p.i true&&true))=true:=by kernel_rfl) (hc:(dB [p]&&zLp R c.1 [] [p].reverse)=true:=by kernel_rfl) (hdp:(p.deps.all (fun j=>j==p.i)&&(true&&(Region.ready .any R.ops c.1).all fun j=>[p].any fun q=>q.i==j))=true:=by kernel_rfl):Gt R [] c M r:=
 gp p (gs1 k hPd hc hdp) hp
theorem gO(i:Nat)(h:∀a w Y,Fr R.n a c.2 R.D→St R.E R.w0 R.X w Y M→Le r (rd w Y)→(zP R.ops i).wp R.P a w (fun a' w'=>∃L' M' r' Y',Fr R.n a' L' R.D∧St R.E R.w0 R.X w' Y' M'∧Le r' (rd w' Y')∧
   (qO R.T (c.1.setIfInBounds i true)=true∨(((∀p∈R.M0,p∈M)→∀p∈R.M0,p∈M')∧Le r r'))∧Gt R [] (c.1.setIfInBounds i true,L') M' r') (xC R.Q))
  (hi:R.ops[i]?=some (zP R.ops i):=by kernel_rfl) (hr:Region.ready .any R.ops c.1=[i]:=by kernel_rfl) (hw:jR R.ops c.2 (zP R.ops i) true=true:=by kernel_rfl):Gt R [] c M r:=by
 intro hf h0 f e a w Y hb hF hp hS hle;have C0:St R.E R.w0 R.X w Y M:=by simpa only[pM,List.append_nil]using hS
 show wpU R c.1 a w;refine qEi (by rw[hr];simp) fun j hj=>?_
 obtain rfl:j=i:=by rw[hr]at hj;simpa using hj
 unfold wpOp;simp only[hi];rw[if_pos (hF.wanted hw)];refine .inl (Oper.wp_mono ?_ (h a w Y hF C0 hle));rintro a' w' ⟨L',M',r',Y',hF',hS',hle',hst,hG⟩;have h0':qO R.T (c.1.setIfInBounds j true)=true∨((∀p∈R.M0,p∈M')∧Le R.r0 r'):=by
  rcases hst with hst | ⟨h1,h2⟩
  ·exact .inl hst
  ·rcases h0 with h0 | ⟨h3,h4⟩
   ·exact .inl (zDn h0)
   ·exact .inr ⟨h1 h3,h4.trans h2⟩
 have C2:St R.E R.w0 R.X w' Y' (M'++pM [] f e):=by simpa only[pM,List.append_nil]using hS'
 have hnil:pCl [] f:=fun p hp=>by cases hp
 have hok:pOk a' [] f e:=fun p hp=>by cases hp
 exact⟨hold (Pd:=[]) (f:=f) (e:=e) (c:=(c.1.setIfInBounds j true,L')) hf h0' C2 hle',hG hf h0' f e a' w' Y' hnil hF' hok C2 hle'⟩
theorem gX(i j:Nat)(c':Array Value)(k:∀w1 Y,Le r (rd w1 Y)→Gt R [] (gv R i undef c) (wrM M j c') (rd w1 Y))
  (hT:R.T.contains i=true:=by kernel_rfl) (hc:(sO c.2 (zP R.ops i)&&(zP R.ops i).dst.isNone)=true:=by kernel_rfl) (ho:(zP R.ops i).op= .store (stT (zP R.ops i)) (stA (zP R.ops i)) (stV (zP R.ops i)):=by kernel_rfl)
  (ha:evL c.2 (stA (zP R.ops i))= .pointer (some ⟨bO M j,dX (evL c.2 (stA (zP R.ops i))),none⟩):=by kernel_rfl)
  (ht:ldT R.P (stT (zP R.ops i))=some (zNv R.P (stT (zP R.ops i)),(evL c.2 (stV (zP R.ops i))).cells.size):=by kernel_rfl) (h1:(evL c.2 (stV (zP R.ops i))).cells.toList.all Value.oneCell'=true:=by kernel_rfl)
  (hM:M[j]?=some (bO M j,.cells (cO M j) (tO M j) (0,0)):=by kernel_rfl) (hle:Nat.ble (dX (evL c.2 (stA (zP R.ops i)))+(evL c.2 (stV (zP R.ops i))).cells.size) (cO M j).size=true:=by kernel_rfl)
  (hw:jM (cO M j) (dX (evL c.2 (stA (zP R.ops i)))) (evL c.2 (stV (zP R.ops i))).cells.toList=c':=by kernel_rfl)
  (hi:R.ops[i]?=some (zP R.ops i):=by kernel_rfl) (hr:Region.ready .any R.ops c.1=[i]:=by kernel_rfl) (hwt:jR R.ops c.2 (zP R.ops i) true=true:=by kernel_rfl) (hb:qO R.T (c.1.setIfInBounds i true)=true:=by kernel_rfl):Gt R [] c M r:=by
 refine gO i (fun a w Y hF hS hle'=>zF j _ hF hc hS ho ha rfl ht rfl h1 hM (Nat.le_of_ble_eq_true hle) hw rfl fun w1 h2 h3=>?_) hi hr hwt;refine⟨c.2,wrM M j c',rd w1 Y,Y,hF,(by rw[zLu hM];exact h2),Le.refl _,.inl hb,?_⟩
 have:=k w1 Y (hle'.trans h3);have hd:(zP R.ops i).dst=none:=by have h9:=hc;rw[Bool.and_eq_true]at h9;exact Option.isNone_iff_eq_none.1 h9.2
 simpa only[gv,hd]using this
theorem gXs(i j:Nat)(is:List Nat)(c':Array Value)(k:∀w1 Y,Le r (rd w1 Y)→Gt R [] (gv R i undef c) (wrM M j c') (rd w1 Y))
  (hst:sel (wrM M j c') is=R.M0:=by kernel_rfl) (hc:(sO c.2 (zP R.ops i)&&(zP R.ops i).dst.isNone)=true:=by kernel_rfl) (ho:(zP R.ops i).op= .store (stT (zP R.ops i)) (stA (zP R.ops i)) (stV (zP R.ops i)):=by kernel_rfl)
  (ha:evL c.2 (stA (zP R.ops i))= .pointer (some ⟨bO M j,dX (evL c.2 (stA (zP R.ops i))),none⟩):=by kernel_rfl)
  (ht:ldT R.P (stT (zP R.ops i))=some (zNv R.P (stT (zP R.ops i)),(evL c.2 (stV (zP R.ops i))).cells.size):=by kernel_rfl) (h1:(evL c.2 (stV (zP R.ops i))).cells.toList.all Value.oneCell'=true:=by kernel_rfl)
  (hM:M[j]?=some (bO M j,.cells (cO M j) (tO M j) (0,0)):=by kernel_rfl) (hle:Nat.ble (dX (evL c.2 (stA (zP R.ops i)))+(evL c.2 (stV (zP R.ops i))).cells.size) (cO M j).size=true:=by kernel_rfl)
  (hw:jM (cO M j) (dX (evL c.2 (stA (zP R.ops i)))) (evL c.2 (stV (zP R.ops i))).cells.toList=c':=by kernel_rfl)
  (hi:R.ops[i]?=some (zP R.ops i):=by kernel_rfl) (hr:Region.ready .any R.ops c.1=[i]:=by kernel_rfl) (hwt:jR R.ops c.2 (zP R.ops i) true=true:=by kernel_rfl):Gt R [] c M r:=by
 refine gO i (fun a w Y hF hS hle'=>zF j _ hF hc hS ho ha rfl ht rfl h1 hM (Nat.le_of_ble_eq_true hle) hw rfl fun w1 h2 h3=>?_) hi hr hwt;refine⟨c.2,wrM M j c',rd w1 Y,Y,hF,(by rw[zLu hM];exact h2),Le.refl _,.inr ⟨fun _=>selm is hst,hle'.trans h3⟩,?_⟩
 have:=k w1 Y (hle'.trans h3);have hd:(zP R.ops i).dst=none:=by have h9:=hc;rw[Bool.and_eq_true]at h9;exact Option.isNone_iff_eq_none.1 h9.2
 simpa only[gv,hd]using this
end
def mQ(c:Cf):Array Oper:=match c.cu with
 | .code (.region _ o _)=>o
 | _=>#[]
def did(c:Cf):Nat:=match c.cu with
 | .code (.region id _ _)=>id
 | _=>0
def isSt:Op→Bool
 | .store .. =>true
 | _=>false
def dA:Op→Bool
 | .load .. =>true
 | _=>false
def tOf(ops:Array Oper):List Nat:=(List.range ops.size).filter fun i=>isSt (zP ops i).op&&(List.range ops.size).all fun j=>!dA (zP ops j).op||(zP ops i).after.any fun e=>Region.binds .any e&&e.on==j
section
variable {r:Option Nat}{m:Nat}{P:Program}{Q:Exit→Act→World→Prop}{n:Nat}{D:List Deferred}{w:World}{c:Cf}{E:Nat→Prop}{w0:World}{X Y:Hid}{M:List (Nat×Obj)}
noncomputable def mkR(r:Option Nat)(m:Nat)(P:Program)(Q:Exit→Act→World→Prop)(n:Nat)(D:List Deferred)(w:World)(c:Cf)(E:Nat→Prop)(w0:World)(X Y:Hid)(M0:List (Nat×Obj))(T:List Nat):Rg:=
 {P:=P,ops:=mQ c,Q:=QQ r m P Q c.k,T:=T,n:=n,D:=D,E:=E,w0:=w0,X:=X,M0:=M0,r0:=rd w Y}
theorem zSe(T:List Nat)(M0:List (Nat×Obj))(hS:St E w0 X w Y M)(k:Gt (mkR r m P Q n D w c E w0 X Y M0 T) [] (Array.replicate (mQ c).size false,c.L) M (rd w Y))(hM0:∀p∈M0,p∈M)
  (hx:c.cu= .code (.region (did c) (mQ c) true):=by kernel_rfl) (hm:P.follows .mixedOrders=true:=by kernel_rfl) (hd:(mQ c).all (fun o=>kN o.op)=true:=by kernel_rfl):Go r m P Q n D w c:=by
 intro a hF;rw[hx];refine gZ (mkR r m P Q n D w c E w0 X Y M0 T).S T hm rfl hd hS fun w1 C1 hle hu=>?_;have C2:St E w0 X w1 Y (M++pM [] (fun _=>false) (fun _=>0)):=by simpa only[pM,List.append_nil]using C1
 exact k (by rfl) (.inr ⟨hM0,Le.refl _⟩) (fun _=>false) (fun _=>0) a w1 Y (fun p hp=>by cases hp) hF (fun p hp=>by cases hp) C2 hle (mQ c).size (Nat.le_trans List.countP_le_length (by simp[pT]))
theorem qLi(is:List Nat)(hS:St E w0 X w Y M)(k:Gt (mkR r m P Q n D w c E w0 X Y (sel M is) (tOf (mQ c))) [] (Array.replicate (mQ c).size false,c.L) M (rd w Y))
  (hx:c.cu= .code (.region (did c) (mQ c) true):=by kernel_rfl) (hm:P.follows .mixedOrders=true:=by kernel_rfl) (hd:(mQ c).all (fun o=>kN o.op)=true:=by kernel_rfl):Go r m P Q n D w c:=zSe _ _ hS k aT hx hm hd
theorem zdrs(is:List Nat)(hS:St E w0 X w Y M)(k:Gt (mkR r m P Q n D w c E w0 X Y (sel M is) []) [] (Array.replicate (mQ c).size false,c.L) M (rd w Y))
  (hx:c.cu= .code (.region (did c) (mQ c) true):=by kernel_rfl) (hm:P.follows .mixedOrders=true:=by kernel_rfl) (hd:(mQ c).all (fun o=>kN o.op)=true:=by kernel_rfl):Go r m P Q n D w c:=zSe _ _ hS k aT hx hm hd
theorem zdr(hS:St E w0 X w Y M)(k:Gt (mkR r m P Q n D w c E w0 X Y M (tOf (mQ c))) [] (Array.replicate (mQ c).size false,c.L) M (rd w Y))
  (hx:c.cu= .code (.region (did c) (mQ c) true):=by kernel_rfl) (hm:P.follows .mixedOrders=true:=by kernel_rfl) (hd:(mQ c).all (fun o=>kN o.op)=true:=by kernel_rfl):Go r m P Q n D w c:=zSe _ M hS k (fun _ h=>h) hx hm hd
theorem mZ{w':World}{Y':Hid}{M0 M':List (Nat×Obj)}{T:List Nat}{r':Rd}{c':Array Bool×List (Nat×Value)}(h:∀w1 Y1,St E w0 X w1 Y1 M'→Le r' (rd w1 Y1)→Go r m P Q n D w1 ⟨.ex .normal,c.k,c'.2⟩)(hr:Region.ready .any (mQ c) c'.1=[]:=by kernel_rfl):Gt (mkR r m P Q n D w' c E w0 X Y' M0 T) [] c' M' r':=by
 intro hf h0 f e a w Y hb hF hp hS hle fuel _;have C2:St E w0 X w Y M':=by have h9:=hS;simp only[pM,List.append_nil]at h9;exact h9
 exact zBn hr (nrm (h w Y C2 hle a hF))
end
end Go.Gv
namespace Go.Gv
open Go.RowKit IntKind
def rF(o:Oper)(i:Nat):Operand:=match o.op with
 | .call c=>(c.args[i]?).getD (.tmp 0)
 | _=> .tmp 0
def bTy(o:Oper)(i:Nat):TypeId:=match o.op with
 | .call c=>(c.argTypes[i]?).getD 0
 | _=>0
def mkL(o:Oper):Operand:=match o.op with
 | .makeSlice _ x _=>x
 | _=> .tmp 0
def mkT(o:Oper):TypeId:=match o.op with
 | .makeSlice t _ _=>t
 | _=>0
def slE(P:Program)(t:TypeId):TypeId:=match P.underlying t with
 | some (.slice e)=>e
 | _=>0
def zI(i:TypeInfo):Value:=(i.zero).getD undef
def od(o:Oper):Nat:=o.dst.getD 0
section
variable {P:Program}{Q:Exit→Act→World→Prop}{K:Act→World→Prop}{a:Act}{o:Oper}{n:Nat}{L:List (Nat×Value)}{D:List Deferred}{E:Nat→Prop}{w0 w:World}{X Y:Hid}{M:List (Nat×Obj)}
theorem zIo{f:FuncId}{vs:Array Value}{ob1 ob2:Obj}{b1 b2:Nat}{Φ:World→Value→Prop}(i j:Nat)(hF:Fr n a L D)(hS:St E w0 X w Y M)(hM1:M[i]?=some (b1,ob1))(hM2:M[j]?=some (b2,ob2))(hcon:Calls P f vs w (Ret (fun k=>k=b1∨k=b2) w Φ))
  (k:∀v w1,Φ w1 v→(∀o1 o2,w1.heap[b1]?=some o1→w1.heap[b2]?=some o2→St E w0 X w1 Y ((M.set i (b1,o1)).set j (b2,o2)))→Le (rd w Y) (rd w1 Y)→∀a1,Fr n a1 ((od o,v)::L) D→K a1 w1)
  (hc:opk L o (od o) n=true:=by kernel_rfl) (ho:o.op= .call {callee:= .value (clF o),args:=clA o,argTypes:=clT o}:=by kernel_rfl) (hf:evL L (clF o)= .func (.func f) #[] (qFn (evL L (clF o))):=by kernel_rfl) (hargs:(clA o).map (evL L)++qFn (evL L (clF o))=vs:=by kernel_rfl)
  (hcall:∀w,(callFunc f vs).run P w= .ok (.enter f vs) w:=by intro w;kernel_rfl) (hij:(Nat.beq i j)=false:=by kernel_rfl):o.wp P a w K Q:=
 qCg i j hF hc hS ho hf hargs hcall hM1 hM2 (fun e=>by subst e;simp at hij) hcon k
theorem zWk{f:FuncId}{vs:Array Value}{ob:Obj}{b:Nat}{Ψ:Nat→Obj→Value→Prop}(i:Nat)(hF:Fr n a L D)(hS:St E w0 X w Y M)(hM:M[i]?=some (b,ob))
  (hcon:Calls P f vs w (Ret (·=b) w fun w1 v=>∃g' o',w1.heap[g']?=some o'∧(w.heap.size≤g'∨g'=b)∧Ψ g' o' v))
  (k:∀v w1 Y1 g' o',Ψ g' o' v→St E w0 X w1 Y1 (M.set i (g',o'))→Le (rd w Y) (rd w1 Y1)→∀a1,Fr n a1 ((od o,v)::L) D→K a1 w1)
  (hc:opk L o (od o) n=true:=by kernel_rfl) (ho:o.op= .call {callee:= .value (clF o),args:=clA o,argTypes:=clT o}:=by kernel_rfl) (hf:evL L (clF o)= .func (.func f) #[] (qFn (evL L (clF o))):=by kernel_rfl) (hargs:(clA o).map (evL L)++qFn (evL L (clF o))=vs:=by kernel_rfl)
  (hcall:∀w,(callFunc f vs).run P w= .ok (.enter f vs) w:=by intro w;kernel_rfl):o.wp P a w K Q:=
 zOi i hF hc hS ho hf hargs hcall hM hcon k
theorem kZ{g k:Nat}{T:TypeId}{m cap:Nat}{cur:Array Value}{l:List Nat}{e:Int}{y:Nat}(i:Nat)(hF:Fr n a L D)(hS:St E w0 X w Y M)(he:e=(y:Int))(hM:M[i]?=some (g,.cells cur T (0,0)))(hrow:zS m cap cur l)(hk:k<l.length)(hy:y<4294967296)
  (kont:∀cur' w1,zS m cap cur' (l.set k y)→St E w0 X w1 Y (M.set i (g,.cells cur' T (0,0)))→Le (rd w Y) (rd w1 Y)→K a w1)
  (hc:(sO L o&&o.dst.isNone)=true:=by kernel_rfl) (ho:o.op= .store (stT o) (stA o) (stV o):=by kernel_rfl) (ha:evL L (stA o)= .pointer (some ⟨g,k,none⟩):=by kernel_rfl) (hv:evL L (stV o)= .int .u32 e:=by kernel_rfl) (ht:ldT P (stT o)=some (false,1):=by kernel_rfl):o.wp P a w K Q:=
 rZ i hF hc hS ho ha hv he ht hM hrow hk hy kont
theorem aJ{l:Int}{e:TypeId}{z:Value}{i0:TypeInfo}(m b:Nat)(hF:Fr n a L D)(hS:St E w0 X w Y M)
  (k:∀b w1 Y1,St E w0 X w1 Y1 ((b,.cells (List.replicate m z).toArray e (0,0))::M)→Le (rd w Y) (rd w1 Y1)→Upd E0 w w1→∀a1,Fr n a1 ((od o,.slice (some ⟨b,0,none⟩) m m)::L) D→K a1 w1)
  (hby:b*m≤281474976710656:=by omega) (h63:m≤140737488355328:=by omega) (hm:l=(m:Int):=by first | rfl | omega)
  (hb:i0.bytes=b:=by kernel_rfl) (hc:opk L o (od o) n=true:=by kernel_rfl) (ho:o.op= .makeSlice (mkT o) (mkL o) (mkL o):=by kernel_rfl) (hl:evL L (mkL o)= .int .i64 l:=by kernel_rfl)
  (ht:P.underlying (mkT o)=some (.slice e):=by kernel_rfl) (hi:P.info? e=some i0:=by kernel_rfl) (hz:i0.zero=some z:=by kernel_rfl) (hs:i0.size=1:=by kernel_rfl) (hzc:z.cells=#[z]:=by kernel_rfl):o.wp P a w K Q:=
 zUc hF hc hS ho hl hm ht hi hz hs hzc (by rw[hb];exact hby) h63 k
theorem zWl{g dl dc sl sc:Nat}{cur:Array Value}{T:TypeId}{ad:Option Addr}{l l2:List Nat}{Y2:Hid}(i:Nat)(hF:Fr n a L D)(hS:St E w0 X w Y M)(hM:M[i]?=some (g,.cells cur T (0,0)))(hrow:zS dl dc cur l)(h2:zL (rd w Y2) ad sl sc l2)(hle:l2.length≤dl)
  (k:∀cur' w1,zS dl dc cur' (l2++l.drop l2.length)→St E w0 X w1 Y (M.set i (g,.cells cur' T (0,0)))→Le (rd w Y) (rd w1 Y)→∀a1,Fr n a1 ((od o,.int .i64 (l2.length:Int))::L) D→K a1 w1)
  (hc:opk L o (od o) n=true:=by kernel_rfl) (ho:o.op= .call {callee:= .builtin .copy,args:=#[rF o 0,rF o 1],argTypes:=#[bTy o 0,bTy o 1]}:=by kernel_rfl) (hx:evL L (rF o 0)= .slice (some ⟨g,0,none⟩) dl dc:=by kernel_rfl) (hy:evL L (rF o 1)= .slice ad sl sc:=by kernel_rfl)
  (hu:P.underlying (bTy o 0)=some (.slice (slE P (bTy o 0))):=by kernel_rfl) (hs:(P.info? (slE P (bTy o 0))).map (·.size)=some 1:=by kernel_rfl):o.wp P a w K Q:=
 qCh i hF hc hS ho hx hy hu hs hM hrow h2 hle k
theorem zFb{e:TypeId}{g m nn cap c size b:Nat}{cur:Array Value}{xs news:List Value}{ad:Addr}{i0:TypeInfo}(i:Nat)(hF:Fr n a L D)(hS:St E w0 X w Y M)
  (hM:M[i]?=some (g,.cells cur e (0,0))) (hrow:Row nn cap size cur xs) (hnews:qD w ad news) (hl:news.length=m*size) (h1:news.all Value.oneCell'=true)
  (h63:nn+m≤maxLen) (hbytes:(nn+m)*b≤140737488355328)
  (k:∀g' cap' cur' w1 Y1,Row (nn+m) cap' size cur' (xs++news)→St E w0 X w1 Y1 (M.set i (g',.cells cur' e (0,0)))→Le (rd w Y) (rd w1 Y1)→∀a1,Fr n a1 ((od o,.slice (some ⟨g',0,none⟩) (nn+m) cap')::L) D→K a1 w1)
  (hb:i0.bytes=b:=by kernel_rfl) (hc:opk L o (od o) n=true:=by kernel_rfl) (ho:o.op= .call {callee:= .builtin .append,args:=#[rF o 0,rF o 1],argTypes:=#[bTy o 0,bTy o 0]}:=by kernel_rfl) (hs:evL L (rF o 0)= .slice (some ⟨g,0,none⟩) nn cap:=by kernel_rfl) (hx:evL L (rF o 1)= .slice (some ad) m c:=by kernel_rfl)
  (ht:P.underlying (bTy o 0)=some (.slice e):=by kernel_rfl) (hi:P.info? e=some i0:=by kernel_rfl) (hz:i0.zero=some (zI i0):=by kernel_rfl) (hsz:i0.size=size:=by kernel_rfl) (hzs:(zI i0).cells.size=size:=by kernel_rfl):o.wp P a w K Q:=
 zIn i hF hc hS ho hs hx ht hi hz hsz hzs hM hrow hnews hl h1 h63 (by rw[hb];exact hbytes) k
theorem zOh{m c size b:Nat}{e:TypeId}{news:List Value}{ad:Addr}{i0:TypeInfo}(hF:Fr n a L D)(hS:St E w0 X w Y M)(hnews:qD w ad news)(hl:news.length=m*size)(hm0:0<m)(h63:m≤maxLen)(hbytes:m*b≤140737488355328)
  (k:∀g' cap' cur' w1 Y1,Row m cap' size cur' news→St E w0 X w1 Y1 ((g',.cells cur' (e) (0,0))::M)→Le (rd w Y) (rd w1 Y1)→∀a1,Fr n a1 ((od o,.slice (some ⟨g',0,none⟩) m cap')::L) D→K a1 w1)
  (hb:i0.bytes=b:=by kernel_rfl) (hc:opk L o (od o) n=true:=by kernel_rfl) (ho:o.op= .call {callee:= .builtin .append,args:=#[rF o 0,rF o 1],argTypes:=#[bTy o 0,bTy o 0]}:=by kernel_rfl) (hs:evL L (rF o 0)= .slice none 0 0:=by kernel_rfl) (hx:evL L (rF o 1)= .slice (some ad) m c:=by kernel_rfl)
  (ht:P.underlying (bTy o 0)=some (.slice (e)):=by kernel_rfl) (hi:P.info? (e)=some i0:=by kernel_rfl) (hz:i0.zero=some (zI i0):=by kernel_rfl) (hsz:i0.size=size:=by kernel_rfl) (hzs:(zI i0).cells.size=size:=by kernel_rfl):o.wp P a w K Q:=
 zFa hF hc hS ho hs hx ht hi hz hsz hzs hnews hl hm0 h63 (by rw[hb];exact hbytes) k
theorem zOg{e:TypeId}{m c nn cap size b:Nat}{ad0:Option Addr}{xs news:List Value}{ad:Addr}{i0:TypeInfo}{rb R1 M:List (Nat×Obj)}(i:Nat)(hF:Fr n a L D)(hS:St E w0 X w Y M)(hM:M.drop i=R1++rb)
  (hrow:rD e size rb ad0 nn cap xs) (hnews:qD w ad news) (h63:nn+m≤1125899906842624) (hbytes:(nn+m)*b≤140737488355328)
  (k:∀rb' ad' cap' w1 Y1,rD e size rb' ad' (nn+m) cap' (xs++news)→St E w0 X w1 Y1 (M.take i++(R1++rb'))→Le (rd w Y) (rd w1 Y1)→∀a1,Fr n a1 ((od o,.slice ad' (nn+m) cap')::L) D→K a1 w1)
  (hl:news.length=m*size:=by kernel_rfl) (h1:news.all Value.oneCell'=true:=by kernel_rfl) (hm0:Nat.blt 0 m=true:=by kernel_rfl)
  (hb:i0.bytes=b:=by kernel_rfl) (hc:opk L o (od o) n=true:=by kernel_rfl) (ho:o.op= .call {callee:= .builtin .append,args:=#[rF o 0,rF o 1],argTypes:=#[bTy o 0,bTy o 0]}:=by kernel_rfl) (hs:evL L (rF o 0)= .slice ad0 nn cap:=by kernel_rfl) (hx:evL L (rF o 1)= .slice (some ad) m c:=by kernel_rfl)
  (ht:P.underlying (bTy o 0)=some (.slice e):=by kernel_rfl) (hi:P.info? e=some i0:=by kernel_rfl) (hz:i0.zero=some (zI i0):=by kernel_rfl) (hsz:i0.size=size:=by kernel_rfl) (hzs:(zI i0).cells.size=size:=by kernel_rfl):o.wp P a w K Q:=
 qIa i hF hc hS hM ho hs hx ht hi hz hsz hzs hrow hnews hl h1 (by simpa[Nat.blt_eq]using hm0) (by simp only[maxLen];omega) (by rw[hb];exact hbytes) k
end
theorem gr{R:Rg}{Pd:List Pn}{c:Array Bool×List (Nat×Value)}{M:List (Nat×Obj)}{r:Rd}(i j k:Nat){m cap:Nat}{cur:Array Value}{l:List Nat}(hrow:zS m cap cur l)(hk:k<l.length)(cont:Gt R Pd (gv R i (.int .u32 ((l.getD k 0:Nat):Int)) c) M r)
  (hj:R.M0[j]?=some (bO R.M0 j,.cells (cO R.M0 j) (tO R.M0 j) (fO R.M0 j)):=by kernel_rfl) (hcur:cO R.M0 j=cur:=by kernel_rfl)
  (hi:R.ops[i]?=some (zP R.ops i):=by kernel_rfl) (hc:gok R Pd c i=true:=by kernel_rfl) (hT:(zGc R.ops R.T i&&!qO R.T c.1)=true:=by kernel_rfl)
  (ho:(zP R.ops i).op= .load (zCo (zP R.ops i)) (ldX (zP R.ops i)):=by kernel_rfl) (hx:evL c.2 (ldX (zP R.ops i))= .pointer (some ⟨bO R.M0 j,k,none⟩):=by kernel_rfl) (ht:ldT R.P (zCo (zP R.ops i))=some (false,1):=by kernel_rfl):Gt R Pd c M r:=
 zNj i (.inr ⟨hT,fun w hS=>zB (vs:=[.int .u32 ((l.getD k 0:Nat):Int)]) ho hx ht (.inr rfl) (by
  have h1:=hS.1 _ (List.mem_of_getElem? hj);intro q v hq;rcases q with _ | q
  ·simp at hq;subst hq;rw[qG,cell_of_row w _ _ _ _ _ h1,hcur];exact hrow.get hk
  ·simp at hq)⟩) cont hi hc
def unp:Nat→Value→List Value
 | 1,v=>[v]
 | _,.tuple a=>a.toList
 | _,v=>[v]
section
variable {P:Program}{n:Nat}{D:List Deferred}{w:World}{c:Cf}{E:Nat→Prop}{w0:World}{X Y:Hid}{M:List (Nat×Obj)}{L:List (Nat×Value)}
theorem Res.tZ{t:Nat}{v:Value}{rs:List ResultVar}{vs:List Value}(k:Res P L w rs vs)(h:has L t=true:=by kernel_rfl)(e:vP L t=v:=by kernel_rfl):Res P L w (.tmp t::rs) (v::vs):=e▸Res.tmp h k
def rM(P:Program)(L:List (Nat×Value))(M:List (Nat×Obj))(i t:Nat)(T:TypeId):List Value:=((cO M i).toList.drop (dX (vP L t))).take (ldS P T)
theorem Res.cM{t:Nat}{T:TypeId}{v:Value}{rs:List ResultVar}{vs:List Value}(hS:St E w0 X w Y M)(i:Nat)(k:Res P L w rs vs)(h:has L t=true:=by kernel_rfl)(hl:vP L t= .pointer (some ⟨bO M i,dX (vP L t),none⟩):=by kernel_rfl)(ht:ldT P T=some (zNv P T,(rM P L M i t T).length):=by kernel_rfl)
  (hg:(zNv P T||(rM P L M i t T).length==1)=true:=by kernel_rfl) (hi:M[i]?=some (bO M i,.cells (cO M i) (tO M i) (fO M i)):=by kernel_rfl) (hm:(rM P L M i t T).length=ldS P T:=by kernel_rfl) (e:ldV (zNv P T) (rM P L M i t T)=v:=by kernel_rfl):Res P L w (.cell t T::rs) (v::vs):=
 e▸Res.cell h hl ht (by simpa using hg) (hS.cells i hi (by rw[hm];rfl)) k
theorem zrS(rs:List ResultVar){v:Value}{fn:Func}{R:Ending→World→Prop}(h:Res P c.L w rs (unp rs.length v))(hR:R (.returned v) w)(hr:fn.results=rs.toArray:=by kernel_rfl)(hv:aO (unp rs.length v)=v:=by kernel_rfl)(hf:fin c=true:=by kernel_rfl):Go none 0 P (bodyPost P fn R) n [] w c:=zrR h hR hr hv hf
end
theorem zMd{l:List Nat}{x:Nat}:U32 l++[.int .u32 (x:Int)]=U32 (l++[x]):=by simp[U32]
section
variable {w0 w:World}{X Y:Hid}{rb A B:List (Nat×Obj)}{e:TypeId}{m cap:Nat}{ad:Option Addr}
theorem St.pubLimbs{ls:List Nat}(F:List (Nat×Obj)→List (Nat×Obj))(hS:St E0 w0 X w Y (F rb))(hM:∀rb,F rb=A++(rb++B))(hrow:rD e 1 rb ad m cap (U32 ls))(hm:m=ls.length)(hl:∀x∈ls,x<4294967296):
  ∃Y',St E0 w0 X w Y' (F [])∧Le (rd w Y) (rd w Y')∧zL (rd w Y') ad m cap ls:=by
 obtain⟨Y',h1,h2,h3⟩:=St.pubRow F hS hM hrow;refine⟨Y',h1,h2,?_⟩;rcases h3 with⟨hx,rfl,rfl,rfl⟩ | ⟨g,cur,rfl,hr,hat⟩
 ·have:ls=[]:=by
   cases ls with
   | nil=>rfl
   | cons a l=>simp[U32]at hx
  subst this;exact zL.nil none (by omega)
 ·subst hm;refine⟨rfl,hr.hn,?_,hl,.inr ⟨g,0,rfl,fun j v hj=>?_⟩⟩
  ·have:=hr.hcap;simp only[maxLen]at this;omega
  ·rw[←hr.hxs,List.getElem?_take]at hj;split at hj
   ·exact hat j v hj
   ·cases hj
end
theorem zBq(l:List Nat)(k:Nat):val (l.take (k+1))=val (l.take k)+l.getD k 0*4294967296^k:=by
 rcases Nat.lt_or_ge k l.length with h | h
 ·exact jQ l k h
 ·rw[List.take_of_length_le (by omega),List.take_of_length_le h,List.getD_eq_getElem?_getD,List.getElem?_eq_none h];simp
theorem qJf(l l2 ls:List Nat)(k c:Nat)(hk:ls.length=k)(h:val ls+c*4294967296^k=val (l.take k)+val (l2.take k)):
  val (ls++[(l.getD k 0+l2.getD k 0+c) % 4294967296])+(l.getD k 0+l2.getD k 0+c) / 4294967296*4294967296^(k+1)=val (l.take (k+1))+val (l2.take (k+1)):=by
 rw[lZ,zBq,zBq,hk];have h1:=Nat.div_add_mod (l.getD k 0+l2.getD k 0+c) 4294967296;have h2:(l.getD k 0+l2.getD k 0+c)*4294967296^k=(l.getD k 0+l2.getD k 0+c) % 4294967296*4294967296^k+(l.getD k 0+l2.getD k 0+c) / 4294967296*4294967296^(k+1):=by
  rw[Nat.pow_succ]
  calc (l.getD k 0+l2.getD k 0+c)*4294967296^k=(4294967296*((l.getD k 0+l2.getD k 0+c) / 4294967296)+(l.getD k 0+l2.getD k 0+c) % 4294967296)*4294967296^k:=by rw[h1]
   _=_:=by rw[Nat.add_mul,Nat.add_comm];congr 1;ac_rfl
 rw[Nat.add_mul,Nat.add_mul]at h2;omega
theorem zLr(a:Nat)(h:a<18446744073709551616):IntKind.u64.wrap (Int.tdiv (a:Int) 4294967296)=((a / 4294967296:Nat):Int):=sZ (x:=((a / 4294967296:Nat):Int)) (by omega) (by omega)
theorem zZh(l l2 ls:List Nat)(k c:Nat)(hk:ls.length=k)(h1:l.getD k 0<4294967296)(h2:l2.getD k 0<4294967296)(hc:c≤1)(h:val ls+val (l2.take k)=val (l.take k)+c*4294967296^k):
  val (ls++[(4294967296+l.getD k 0-l2.getD k 0-c) % 4294967296])+val (l2.take (k+1))=val (l.take (k+1))+(1-(4294967296+l.getD k 0-l2.getD k 0-c) / 4294967296)*4294967296^(k+1):=by
 rw[lZ,zBq,zBq,hk,Nat.pow_succ,Nat.mul_comm (4294967296^k),←Nat.mul_assoc];have e:(4294967296+l.getD k 0-l2.getD k 0-c) % 4294967296+l2.getD k 0+c=l.getD k 0+(1-(4294967296+l.getD k 0-l2.getD k 0-c) / 4294967296)*4294967296:=by omega
 have e2:=congrArg (· * 4294967296^k) e;simp only[Nat.add_mul]at e2;omega
theorem zZg{l l2 ls:List Nat}{c k:Nat}(hk:ls.length=k)(hkl:k=l.length)(hlt:∀x∈ls,x<4294967296)(h2:l2.length≤l.length)(hle:val l2≤val l)(hc:c≤1)(h:val ls+val (l2.take k)=val (l.take k)+c*4294967296^k):val ls=val l-val l2:=by
 subst hkl;rw[List.take_of_length_le h2,List.take_length]at h;have h3:=yH hlt;rw[hk]at h3;have:c=0:=by
  rcases Nat.eq_zero_or_pos c with h | h'
  ·exact h
  ·obtain rfl:c=1:=by omega
   omega
 subst this;omega
theorem zAb:∀(l l2:List Nat),(∀j,l.getD j 0=l2.getD j 0)→val l=val l2
 | [],[],_=>rfl
 | [],b::l2,h=>by
  have h0:=h 0;have ih:=zAb [] l2 fun j=>by have:=h (j+1);simpa using this
  simp at h0;simp only[val]at ih ⊢;omega
 | a::l,[],h=>by
  have h0:=h 0;have ih:=zAb l [] fun j=>by have:=h (j+1);simpa using this
  simp at h0;simp only[val]at ih ⊢;omega
 | a::l,b::l2,h=>by
  have h0:=h 0;have ih:=zAb l l2 fun j=>by have:=h (j+1);simpa using this
  simp at h0;simp only[val];omega
theorem qCt{l l2:List Nat}{k:Nat}(hl:∀x∈l,x<4294967296)(h:∀j,k+1≤j→l.getD j 0=l2.getD j 0)(hlt:l.getD k 0<l2.getD k 0):val l<val l2:=by
 have e:val (l.drop (k+1))=val (l2.drop (k+1)):=zAb _ _ fun j=>by
  have:=h (k+1+j) (by omega)
  simpa[List.getD_eq_getElem?_getD,List.getElem?_drop]using this
 have h1:val (l.take k)<4294967296^k:=by
  have:=yH (l:=l.take k) fun x hx=>hl x (List.mem_of_mem_take hx);refine Nat.lt_of_lt_of_le this (Nat.pow_le_pow_right (by omega) (by rw[List.length_take];omega))
 rw[vC l (k+1),vC l2 (k+1),e,zBq,zBq];have h2:(l.getD k 0+1)*4294967296^k≤l2.getD k 0*4294967296^k:=Nat.mul_le_mul_right _ hlt;rw[Nat.add_mul,Nat.one_mul]at h2;omega
section
variable {P:Program}{w:World}
theorem zCs{t ty e:TypeId}{i:TypeInfo}(ht:P.underlying t=some (.slice e))(hi:P.info? e=some i)(ad:Option Addr)(c:Nat):
  (Builtin.append_ #[t,t] ty #[.slice none 0 0,.slice ad 0 c]).run P w= .ok (.slice none 0 0) w:=by
 cases ad<;>simp[Builtin.append_,run_underlying ht,sizeOf,typeInfo,hi,Builtin.lenOf,Builtin.firstCells,loadCells,loadCellsFrom]
end
section
variable {P:Program}{Q:Exit→Act→World→Prop}{K:Act→World→Prop}{a:Act}{o:Oper}{n:Nat}{L:List (Nat×Value)}{D:List Deferred}{E:Nat→Prop}{w0 w:World}{X Y Y2:Hid}{M:List (Nat×Obj)}
theorem zKl{e:TypeId}{ad:Option Addr}{sl sc:Nat}{l:List Nat}{i0:TypeInfo}(hF:Fr n a L D)(hS:St E w0 X w Y M)(h:zL (rd w Y2) ad sl sc l)(hb:sl≤1000000)
  (k:∀ad' cap' w1,St E w0 X w1 Y M→Le (rd w Y) (rd w1 Y)→zL (rd w1 Y) ad' l.length cap' l→∀a1,Fr n a1 ((od o,.slice ad' l.length cap')::L) D→K a1 w1)
  (hby:i0.bytes=4:=by kernel_rfl) (hc:opk L o (od o) n=true:=by kernel_rfl) (ho:o.op= .call {callee:= .builtin .append,args:=#[rF o 0,rF o 1],argTypes:=#[bTy o 0,bTy o 0]}:=by kernel_rfl) (hs:evL L (rF o 0)= .slice none 0 0:=by kernel_rfl) (hx:evL L (rF o 1)= .slice ad sl sc:=by kernel_rfl)
  (ht:P.underlying (bTy o 0)=some (.slice e):=by kernel_rfl) (hi:P.info? e=some i0:=by kernel_rfl) (hz:i0.zero=some (.int .u32 0):=by kernel_rfl) (hsz:i0.size=1:=by kernel_rfl):o.wp P a w K Q:=by
 obtain rfl:=h.hlen;have hck:=hc;simp only[opk,Bool.and_eq_true]at hck;obtain⟨hd,hlt⟩:=zY hck.2;rcases Nat.eq_zero_or_pos l.length with h0 | h0
 ·have hr:=zCs (P:=P) (w:=w) (ty:=o.type) ht hi ad sc;have hexec:(execOp (evL L) o).run P w= .ok (.value (.slice none 0 0)) w:=by
   unfold execOp;simp only[ho,resolve,invoke,builtin,Sem.run_bind,Sem.run_pure,Result.andThen_ok,List.map_toArray,List.map_cons,List.map_nil,hs,hx,h0,hr]
  refine zE hF hc hexec fun a1 G1=>?_;have hl:l=[]:=List.eq_nil_of_length_eq_zero h0;refine k none 0 w hS (Le.refl _) ?_ a1 (by rw[h0];exact G1)
  subst hl;exact zL.nil none (by omega)
 ·obtain⟨b,off,rfl,hat⟩:=h.addr h0;have hr:=run_append_nil (P:=P) w (bTy o 0) o.type e i0 (.int .u32 0) ht hi hz ⟨b,off,none⟩ l.length sc (U32 l) (by rw[hsz];simp) (fun j v hj=>jD (hat j v hj)) h0 (by omega) (by rw[hby];omega)
  have hexec:(execOp (evL L) o).run P w= .ok (.value (.slice (some ⟨w.heap.size,0,none⟩) l.length (grownCap w l.length 0 e))) (w.drew.alloc (.cells ((U32 l).toArray++Builtin.zeroCells (Value.int .u32 0).cells (grownCap w l.length 0 e-l.length)) e)):=by
   unfold execOp;simp only[ho,resolve,invoke,builtin,Sem.run_bind,Sem.run_pure,Result.andThen_ok,List.map_toArray,List.map_cons,List.map_nil,hs,hx,hr]
  unfold Oper.wp;rw[hF.exec hck.1,hexec];show K (a.put o.dst _) _;rw[hd];have hu:Upd E0 w (w.drew.alloc (.cells ((U32 l).toArray++Builtin.zeroCells (Value.int .u32 0).cells (grownCap w l.length 0 e-l.length)) e)):=(Upd.drew w).trans ((Upd.alloc w.drew _).weaken fun _ _ e=>e);have hge:=grownCap_ge w l.length 0 e;have hcm:=grownCap_le_maxLen w l.length 0 e (by simp only[maxLen];omega)
  refine k (some ⟨w.heap.size,0,none⟩) (grownCap w l.length 0 e) _ (hS.call hu) (hu.le Y) ⟨rfl,by omega,by simp only[maxLen]at hcm;omega,h.hlt,.inr ⟨w.heap.size,0,rfl,fun j v hj=>?_⟩⟩ _ (hF.put hlt _)
  rw[qG];refine wC ?_ (fun hy=>Nat.lt_irrefl _ (hS.lt _ _ hy)) (frozen_of_row _ w.heap.size _ ((U32 l).toArray++Builtin.zeroCells (Value.int .u32 0).cells (grownCap w l.length 0 e-l.length)) e (by show(w.heap.push _)[w.heap.size]?=_;simp))
  have hjl:j<(U32 l).length:=(List.getElem?_eq_some_iff.1 hj).1;rw[cell_of_row _ w.heap.size _ ((U32 l).toArray++Builtin.zeroCells (Value.int .u32 0).cells (grownCap w l.length 0 e-l.length)) e (0,0) (by show(w.heap.push _)[w.heap.size]?=_;simp)]
  simp only[Nat.zero_add];rw[Array.getElem?_append_left (by simpa using hjl)]
  simpa using hj
end
section
variable {P:Program}{w:World}{ρ:Operand→Value}{o:Oper}
theorem qDu{kd:IntKind}{t t2:TypeId}{xa xb:Operand}{x k:Nat}(ho:o.op= .binOp .shr t xa xb t2)(hx:ρ xa= .int .u32 (x:Int))(hk:ρ xb= .int kd (k:Int))(h:k≤32):(execOp ρ o).run P w= .ok (.value (.int .u32 ((x / 2^k:Nat):Int))) w:=by
 unfold execOp;simp only[ho,hx,hk];have h1:=shift_shr_u32 (yk:=kd) (x:=(x:Int)) (y:=(k:Int)) (by omega) (by omega)
 simp[go_sem,h1]
theorem qDs{kd:IntKind}{t t2:TypeId}{xa xb:Operand}{x k:Nat}(ho:o.op= .binOp .shl t xa xb t2)(hx:ρ xa= .int .u32 (x:Int))(hk:ρ xb= .int kd (k:Int))(h:k≤32):(execOp ρ o).run P w= .ok (.value (.int .u32 ((x*2^k % 4294967296:Nat):Int))) w:=by
 unfold execOp;simp only[ho,hx,hk];have h1:=shift_shl_u32 (yk:=kd) (x:=(x:Int)) (y:=(k:Int)) (by omega) (by omega)
 simp[go_sem,h1,jS]
end
def adF(ad:Option Addr)(cap k:Nat):Option Addr:=if cap=k then ad else ad.map (·.add (k*1))
theorem zL.drop{r:Rd}{ad:Option Addr}{len cap:Nat}{l:List Nat}(h:zL r ad len cap l){k:Nat}(hk:k≤len):zL r (adF ad cap k) (len-k) (cap-k) (l.drop k):=by
 have h1:=h.hlen;have h2:=h.hcap;have h3:=h.hbig;refine⟨by simp;omega,by omega,by omega,fun x hx=>h.hlt x (List.mem_of_mem_drop hx),?_⟩
 unfold adF;split
 ·exact .inl (List.drop_eq_nil_of_le (by omega))
 ·rcases h.hat with h4 | ⟨b,off,e,ha⟩
  ·exact .inl (by rw[h4];simp)
  ·refine .inr ⟨b,off+k,by rw[e];simp[Addr.add],fun j v hj=>?_⟩
   rw[show U32 (l.drop k)=(U32 l).drop k by simp[U32],List.getElem?_drop]at hj
   have:=ha (k+j) v hj;simpa[qG,Nat.add_assoc]using this
section
variable {P:Program}{ρ:Operand→Value}
theorem zGt{o:Oper}{t e:TypeId}{x lo:Operand}{ad:Option Addr}{len cap:Nat}{kd:IntKind}{k:Nat}{g:Bool}(ho:o.op= .slice t x (some lo) none none)(ht:P.underlying t=some (.slice e))(he:ldT P e=some (g,1))
  (hx:ρ x= .slice ad len cap) (hi':ρ lo= .int kd (k:Int)) (h1:k≤len) (w:World):
  (execOp ρ o).run P w= .ok (.value (.slice (adF ad cap k) (len-k) (cap-k))) w:=by
 unfold execOp;simp only[ho,hx,Instr.sliceAt,Instr.slice,Instr.sliceBounds,Instr.sliceBound,asIntOf,underlying,ht,Sem.run_bind,Sem.run_pure,run_program,Result.andThen_ok,Option.map_some,Option.map_none,hi',show(0:Int)≤(k:Int)by omega,show(k:Int)≤(len:Int)by omega,and_self,if_true,run_sizeOf he,Int.toNat_natCast]
 rfl
theorem zIt{o:Oper}{w:World}{kd:IntKind}{t t2:TypeId}{xa xb:Operand}{k:Nat}(ho:o.op= .binOp .shl t xa xb t2)(hx:ρ xa= .int .u32 1)(hk:ρ xb= .int kd (k:Int))(h:k<32):(execOp ρ o).run P w= .ok (.value (.int .u32 ((2^k:Nat):Int))) w:=by
 have h1:=qDs (P:=P) (w:=w) (x:=1) ho hx hk (by omega)
 have h2:(2:Nat)^k<4294967296:=Nat.lt_of_lt_of_le (Nat.pow_lt_pow_right (by omega) h) (by decide)
 rwa[Nat.one_mul,Nat.mod_eq_of_lt h2]at h1
end
theorem qOt{w:World}{Y:Hid}{b:Nat}{x:Nat}(h:At (rd w Y) ⟨b,0,none⟩ [.int .u32 (x:Int)])(hx:x<4294967296):zL (rd w Y) (some ⟨b,0,none⟩) 1 1 [x]:=
 ⟨rfl,Nat.le_refl _,by omega,by simpa using hx,.inr ⟨b,0,rfl,fun j v hj=>h j v (by simpa[U32]using hj)⟩⟩
theorem qEm(l:List Nat)(hl:∀x∈l,x<4294967296)(k:Nat)(hk:k≤l.length):val l / 2^(32*k)=val (l.drop k):=by
 have h1:(2:Nat)^(32*k)=4294967296^k:=by rw[Nat.pow_mul]
 have h2:val (l.take k)<4294967296^k:=by
  have:=yH (l:=l.take k) fun x hx=>hl x (List.mem_of_mem_take hx);rwa[List.length_take,Nat.min_eq_left hk]at this
 rw[h1,vC l k,Nat.add_mul_div_left _ _ (Nat.pow_pos (by omega)),Nat.div_eq_of_lt h2,Nat.zero_add]
theorem wL{l:List Nat}{k:Nat}(hc:zQ l)(h:val l<4294967296^k):l.length≤k:=by
 by_cases h0:l=[]
 ·simp[h0]
 ·have h1:=vJ hc h0;have h2:=(Nat.pow_lt_pow_iff_right (by omega:1<4294967296)).1 (Nat.lt_of_le_of_lt h1 h)
  omega
theorem zHe{l l2:List Nat}{x:Nat}(hc:zQ l)(h2:∀x∈l2,x<4294967296)(hx:x<val l2)(h:val l≤x+x+1):l.length≤l2.length+1:=by
 refine wL hc ?_;have:=yH h2;rw[Nat.pow_succ];omega
theorem qGa{l l2:List Nat}{N:Nat}(hl:∀x∈l,x<4294967296)(hc:zQ l2)(h0:0<val l2)(hN:l.length+1=N+l2.length):val (l.drop N)<val l2:=by
 have hne:l2≠[]:=fun e=>by subst e;simp[val]at h0
 have h1:=vJ hc hne;have h2:=yH (l:=l.drop N) fun x hx=>hl x (List.mem_of_mem_drop hx);rw[List.length_drop,show l.length-N=l2.length-1 by omega]at h2
 omega
theorem qIs{l:List Nat}(h:0<val l):0<l.length:=by
 cases l with
 | nil=>simp[val]at h
 | cons a b=>simp
theorem qRy{l l2:List Nat}(hl:∀x∈l,x<4294967296)(hc:zQ l2)(h:l.length<l2.length):val l<val l2:=by
 refine Nat.lt_of_not_le fun e=>?_;have:=zV hl hc e;omega
structure GE(α:Type)where
 x:α
 cs:List Value
section
variable {α:Type}{El:Rd→Addr→α→Prop}{size:Nat}
def GE.ok(El:Rd→Addr→α→Prop)(size:Nat)(r:Rd)(e:GE α):Prop:=e.cs.length=size∧∀r',Le r r'→∀b o,At r' ⟨b,o,none⟩ e.cs→El r' ⟨b,o,none⟩ e.x
theorem GE.ok.mono{r r':Rd}{e:GE α}(h:GE.ok El size r e)(k:Le r r'):GE.ok El size r' e:=⟨h.1,fun r2 h2=>h.2 r2 (k.trans h2)⟩
def qKm:List (GE α)→List Value
 | []=>[]
 | e::l=>e.cs++qKm l
end
section
variable {w0 w:World}{X Y:Hid}{rb A B:List (Nat×Obj)}{e:TypeId}{size m cap:Nat}{ad:Option Addr}{N:Nat}
theorem At.orN{b o:Nat}{vs:List Value}(h:At (rd w Y) ⟨b,o,none⟩ vs)(hb:N≤b):At (rd w (orN Y N)) ⟨b,o,none⟩ vs:=fun j v hj=>by
 have h1:=h j v hj;rw[qG]at *;exact wC (jD h1) (fun hy=>hy.elim (yS h1) fun hy=>by simp only at hy;omega) (sQ h1)
end
def zMb(r:Rd)(a:Addr)(xs:List Raw):Prop:=∃a1 a2 a3,At r a [.slice a1 a2 a3]∧dJ r a1 a2 a3 xs
theorem zMb.mono(r r':Rd)(a:Addr)(x:List Raw)(k:Le r r')(h:zMb r a x):zMb r' a x:=by
 obtain⟨a1,a2,a3,h1,h2⟩:=h;exact⟨a1,a2,a3,h1.mono k,h2.mono k⟩
def zMc:=SlR zMb 1
theorem zMc.mono{r r':Rd}{ad:Option Addr}{len cap:Nat}{xs:List (List Raw)}(h:zMc r ad len cap xs)(k:Le r r'):zMc r' ad len cap xs:=SlR.mono zMb.mono h k
theorem zMc.at{r:Rd}{b off len cap:Nat}{xs:List (List Raw)}(h:zMc r (some ⟨b,off,none⟩) len cap xs){k:Nat}(hk:k<len):∃x a1 a2 a3,xs[k]?=some x∧At r ⟨b,off+k,none⟩ [.slice a1 a2 a3]∧dJ r a1 a2 a3 x:=by
 obtain⟨x,h1,a1,a2,a3,h2,h3⟩:=SlR.at h hk;exact⟨x,a1,a2,a3,h1,by simpa using h2,h3⟩
section
variable {d:Raw}{v:List Raw}{acc:List (List Raw)}{ss:List (List vF)}{s:List vF}{k:Nat}
end
def Raw.sh(x:Raw):Prop:=x.ln.length*4≤140737488351232∧x.ld.length*4≤140737488351232
def Out.sh(o:Out):Prop:=o.p.sh
def vF.sh(a:vF):Prop:=a.cost.sh∧a.next.length*64≤140737488351232∧∀o∈a.next,o.sh
def stSh(s:List vF):Prop:=s.length*80≤140737488351232∧∀a∈s,a.sh
def Mdp.sh(m:Mdp):Prop:=m.disc.sh∧m.states.length*24≤140737488351232∧∀s∈m.states,stSh s
theorem gF.cell{r:Rd}{b off len cap:Nat}{xs:List (List vF)}(h:gG r (some ⟨b,off,none⟩) len cap xs){k:Nat}(hk:k<len):∃x a1 a2 a3,xs[k]?=some x∧At r ⟨b,off+k,none⟩ [.slice a1 a2 a3]∧zBt r a1 a2 a3 x:=by
 obtain⟨x,a1,a2,a3,h1,h2,h3⟩:=h.at hk;exact⟨x,a1,a2,a3,h1,by simpa using h2,h3⟩
end Go.Gv
namespace Go.Gv
open Go.RowKit IntKind
def qBw:Value→Bool
 | .int _ _=>false
 | _=>true
structure Ov(N:Nat)(a w:World):Prop where
 os:w.os=a.os
 tape:w.tape=a.tape
 output:w.output=a.output
 size:a.heap.size≤w.heap.size
 block:∀k,k<N→w.heap[k]?=a.heap[k]?
 keep:∀p v,a.cell? p=some v→qBw v=true→w.cell? p=some v
 ints:∀p kd x,a.cell? p=some (.int kd x)→∃y,w.cell? p=some (.int kd y)
 frz:∀p v,a.cell? p=some v→w.frozen? p=a.frozen? p
section
variable {N:Nat}{a b c w:World}
theorem Ov.refl(N:Nat)(a:World):Ov N a a:=⟨rfl,rfl,rfl,Nat.le_refl _,fun _ _=>rfl,fun _ _ h _=>h,fun _ _ x h=>⟨x,h⟩,fun _ _ _=>rfl⟩
theorem Ov.some(h:Ov N a b){p:Addr}{v:Value}(hp:a.cell? p=some v):∃u,b.cell? p=some u:=by
 cases v with
 | int kd x=>obtain⟨y,hy⟩:=h.ints p kd x hp;exact⟨_,hy⟩
 | _=>exact⟨_,h.keep p _ hp rfl⟩
theorem Ov.trans(h:Ov N a b)(k:Ov N b c):Ov N a c:=
 ⟨k.os.trans h.os,k.tape.trans h.tape,k.output.trans h.output,Nat.le_trans h.size k.size,fun i hi=>(k.block i hi).trans (h.block i hi),fun p v hp hv=>k.keep p v (h.keep p v hp hv) hv,
  fun p kd x hp=>by obtain⟨y,hy⟩:=h.ints p kd x hp;exact k.ints p kd y hy,fun p v hp=>by obtain⟨u,hu⟩:=h.some hp;exact(k.frz p u hu).trans (h.frz p v hp)⟩
theorem Ov.upd(h:Upd E0 a b)(hN:N≤a.heap.size):Ov N a b:=by
 have hb:∀p v,a.cell? p=Option.some v→b.heap[p.block]?=a.heap[p.block]?:=fun p v hp=>h.block _ (World.block_lt_of_cell? a p hp) (fun e=>e);exact⟨h.os,h.tape,h.output,h.size,fun k hk=>h.block k (by omega) (fun e=>e),fun p v hp _=>h.cell hp,fun p kd x hp=>⟨x,h.cell hp⟩,fun p v hp=>World.frozen?_of_block (hb p v hp)⟩
theorem Ov.cells(h:Ov N a b){p:Addr}{vs:List Value}(k:qD a p vs)(hv:vs.all qBw=true):qD b p vs:=fun j v hj=>h.keep _ _ (k j v hj) (List.all_eq_true.1 hv v (List.mem_of_getElem? hj))
def UC(kd:IntKind)(w:World)(N:Nat)(ad:Option Addr)(len:Nat):Prop:=∀j,j<len→∃blk off x,ad=Option.some ⟨blk,off,none⟩∧N≤blk∧w.cell? ⟨blk,off+j,none⟩=Option.some (.int kd x)∧w.frozen? ⟨blk,off+j,none⟩=false
theorem UC.up{kd:IntKind}{ad:Option Addr}{len:Nat}(h:UC kd a N ad len)(k:Ov N a b):UC kd b N ad len:=fun j hj=>by
 obtain⟨blk,off,x,e,h1,h2,h3⟩:=h j hj;obtain⟨y,hy⟩:=k.ints _ _ _ h2;exact⟨blk,off,y,e,h1,hy,(k.frz _ _ h2).trans h3⟩
theorem zL.uc{ad:Option Addr}{len cap:Nat}{l:List Nat}(h:zL (rd w (fun k _=>k<N)) ad len cap l):UC .u32 w N ad len:=fun j hj=>by
 have hl:=h.hlen;obtain⟨blk,off,rfl,hat⟩:=h.addr (by omega)
 have h1:=hat j _ (zCv (by omega))
 rw[qG]at h1;exact⟨blk,off,_,rfl,Nat.not_lt.1 (yS h1),jD h1,sQ h1⟩
theorem zXt.uc{ad:Option Addr}{len cap:Nat}{l:List Int}(h:zXt (rd w (fun k _=>k<N)) ad len cap l):UC .i64 w N ad len:=fun j hj=>by
 obtain⟨blk,off,x,rfl,_,hat⟩:=SlR.cell h hj;have h1:=hat 0 _ rfl;rw[qG,Nat.mul_one,Nat.add_zero]at h1;exact⟨blk,off,_,rfl,Nat.not_lt.1 (yS h1),jD h1,sQ h1⟩
def RC(w:World)(N:Nat)(ad:Option Addr)(len:Nat):Prop:=∀j,j<len→∃blk off s a1 a2 a3 a4 a5 a6,ad=Option.some ⟨blk,off,none⟩∧qD w ⟨blk,off+j*3,none⟩ [.bool s,.slice a1 a2 a3,.slice a4 a5 a6]∧UC .u32 w N a1 a2∧UC .u32 w N a4 a5∧a2≤9223372036854775807∧a5≤9223372036854775807
theorem RC.up{ad:Option Addr}{len:Nat}(h:RC a N ad len)(k:Ov N a b):RC b N ad len:=fun j hj=>by
 obtain⟨blk,off,s,a1,a2,a3,a4,a5,a6,e,h1,h2,h3,h4⟩:=h j hj;exact⟨blk,off,s,a1,a2,a3,a4,a5,a6,e,k.cells h1 rfl,h2.up k,h3.up k,h4⟩
theorem Ov.set{kd:IntKind}{blk o:Nat}{x y:Int}(h:w.cell? ⟨blk,o,none⟩=Option.some (.int kd x))(hN:N≤blk):Ov N w (w.setCell ⟨blk,o,none⟩ (.int kd y)):=by
 refine⟨rfl,rfl,rfl,by simp,fun k hk=>heap_setCell_other w _ k _ (by simp only;omega),fun p v hp hv=>?_,fun p kd' x' hp=>?_,fun p v _=>by simp⟩
 ·rw[World.cell?_setCell_other]
  ·exact hp
  ·rintro rfl;rw[h]at hp;cases hp;cases hv
 ·by_cases e:(⟨blk,o,none⟩:Addr)=p
  ·subst e;rw[h]at hp;cases hp;exact⟨y,World.cell?_setCell_same _ _ _ h⟩
  ·exact⟨x',by rw[World.cell?_setCell_other _ _ _ _ e];exact hp⟩
theorem Ov.le{Y:Hid}{w0:World}(h0:Upd E0 w0 a)(h:Ov w0.heap.size a b):Le (rd w0 Y) (rd b Y):=fun p v e=>by
 have hlt:=World.block_lt_of_cell? w0 p (jD e);exact fU e ((h.block p.block hlt).trans (h0.block p.block hlt (fun e=>e))) (yS e)
theorem Ov.upd0{w0:World}(h0:Upd E0 w0 a)(h:Ov N a b)(hN:w0.heap.size≤N):Upd E0 w0 b:=
 ⟨h.os.trans h0.os,h.tape.trans h0.tape,h.output.trans h0.output,Nat.le_trans h0.size h.size,fun k hk _=>(h.block k (by omega)).trans (h0.block k hk (fun e=>e))⟩
theorem St.over{w0 wr wc we:World}{X Y Yc:Hid}{M:List (Nat×Obj)}(hr:St E0 w0 X wr Y M)(hc:St E0 w0 X wc Yc M)(hle:Le (rd wr Y) (rd wc Yc))(hs:wr.heap.size≤wc.heap.size)(hO:Ov wr.heap.size wc we):St E0 w0 X we Y M∧Le (rd wr Y) (rd we Y):=by
 refine⟨⟨hO.upd0 hc.upd hr.upd.size,fun k o hy=>?_,hr.hid,fun p hp=>?_,hr.nd,hr.ltX⟩,fun p v e=>?_⟩
 ·exact Nat.lt_of_lt_of_le (hr.lt k o hy) (Nat.le_trans hs hO.size)
 ·obtain⟨h1,h2,h3⟩:=hr.own p hp;obtain⟨g1,_,_⟩:=hc.own p hp;have hlt:=(Array.getElem?_eq_some_iff.1 h1).1;exact⟨(hO.block p.1 hlt).trans g1,h2,h3⟩
 ·have hlt:=World.block_lt_of_cell? wr p (jD e);exact fU (hle p v e) (hO.block p.block hlt) (yS e)
end
attribute [local semireducible] Go
section
variable {r:Option Nat}{m:Nat}{P:Program}{Q:Exit→Act→World→Prop}{n:Nat}{D:List Deferred}{w:World}{c:Cf}
end
end Go.Gv
namespace Go.Gv
open Go.RowKit IntKind
def far(m x:Raw):Raw:=if qGk x m=true then x else m
section
variable {r x y:Raw}{xs ys:List Raw}{k:Nat}
end
def inB(S:List Bool)(i:Nat):Prop:=S.getD i false=true
structure Rt(m:Mdp)(S0 S:List Bool)(t:Nat):Prop where
 len:S.length=m.states.length
 up:∀i,inB S0 i→inB S i
 done:∀u,u<t→inB S0 u→∀a∈m.states.getD u [],∀o∈a.next,inB S o.to.toNat
 min:∀C:Int→Prop,zAf m C→(∀i:Nat,inB S0 i→C i)→∀i:Nat,inB S i→C i
structure Rr(m:Mdp)(s:Int)(S:List Bool)(k:Nat):Prop where
 len:S.length=m.states.length
 self:inB S s.toNat
 min:∀C:Int→Prop,zAf m C→C s→∀i:Nat,inB S i→C i
 fin:(∀t,inB S t→∀a∈m.states.getD t [],∀o∈a.next,inB S o.to.toNat)∨yT S+k+1≤m.states.length
theorem qNs{S:List Bool}{i:Nat}(h:inB S i):i<S.length:=getD_lt h
theorem zIy:∀{l l':List Bool}{i:Nat},l.length=l'.length→(∀i:Nat,inB l i→inB l' i)→inB l' i→¬inB l i→yT l'<yT l
 | [],[],i,_,_,h,_=>by simp[inB]at h
 | [],_::_,_,h,_,_,_=>by simp at h
 | _::_,[],_,h,_,_,_=>by simp at h
 | b::l,b'::l',0,hl,hu,h1,h2=>by
  simp only[inB,List.getD_cons_zero]at h1 h2;have:=lY (l:=l) (l':=l') (by simpa using hl) (fun i hx=>by simpa[inB]using hu (i+1) (by simpa[inB]using hx))
  subst h1;cases b
  ·simp only[yT];simp;omega
  ·exact absurd rfl h2
 | b::l,b'::l',i+1,hl,hu,h1,h2=>by
  have ih:=zIy (l:=l) (l':=l') (i:=i) (by simpa using hl) (fun i hx=>by simpa[inB]using hu (i+1) (by simpa[inB]using hx)) (by simpa[inB]using h1) (by simpa[inB]using h2)
  have h0:=hu 0;simp only[inB,List.getD_cons_zero]at h0;simp only[yT];cases b
  ·cases b'<;>simp<;>omega
  ·rw[h0 rfl];simp;omega
section
variable {m:Mdp}{S0 S:List Bool}{s:Int}{t k:Nat}
theorem Rt.start(h:S.length=m.states.length):Rt m S S 0:=⟨h,fun _ h=>h,fun _ h=>absurd h (Nat.not_lt_zero _),fun _ _ h=>h⟩
theorem Rt.set{x:vF}{o:Out}(h:Rt m S0 S t)(ht:t<m.states.length)(hs:inB S t)(hx:x∈m.states.getD t [])(ho:o∈x.next)(h0:0≤o.to∧o.to<m.states.length):Rt m S0 (S.set o.to.toNat true) t:=by
 have hk:o.to.toNat<S.length:=by rw[h.len];omega
 have hset:∀i,inB (S.set o.to.toNat true) i↔inB S i∨i=o.to.toNat:=fun i=>pG hk;refine⟨by rw[List.length_set];exact h.len,fun i hi=>(hset i).2 (.inl (h.up i hi)),fun u hu hi a ha o' ho'=>(hset _).2 (.inl (h.done u hu hi a ha o' ho')),fun C hC hI i hi=>?_⟩
 rcases(hset i).1 hi with h1 | h1
 ·exact h.min C hC hI i h1
 ·subst h1;have hct:C (t:Int):=h.min C hC hI t hs;have:=hC t (by omega) (by omega) hct x (by simpa using hx) o ho
  rwa[Int.toNat_of_nonneg h0.1]
theorem qAm{j:Nat}(h:j<S.length):inB (S.set j true) j:=(pG h).2 (.inr rfl)
theorem Rt.next(h:Rt m S0 S t)(hd:inB S0 t→∀a∈m.states.getD t [],∀o∈a.next,inB S o.to.toNat):Rt m S0 S (t+1):=
 ⟨h.len,h.up,fun u hu hi=>by
  rcases Nat.lt_or_ge u t with h1 | h1
  ·exact h.done u h1 hi
  ·obtain rfl:u=t:=by omega
   exact hd hi,h.min⟩
theorem Rr.start(h0:0≤s)(h1:s<m.states.length):Rr m s ((List.replicate m.states.length false).set s.toNat true) 0:=by
 have hk:s.toNat<(List.replicate m.states.length false).length:=by simp;omega
 have hrep:∀i:Nat,¬inB (List.replicate m.states.length false) i:=fun i=>by
  unfold inB;rw[List.getD_eq_getElem?_getD,List.getElem?_replicate];split<;>simp
 have hset:∀i,inB ((List.replicate m.states.length false).set s.toNat true) i↔inB (List.replicate m.states.length false) i∨i=s.toNat:=fun i=>pG hk;have hu:yT (List.replicate m.states.length false)≤m.states.length:=by
  have:∀n,yT (List.replicate n false)≤n:=by
   intro n;induction n with
   | zero=>exact Nat.le_refl _
   | succ n ih=>rw[List.replicate_succ,yT];simp;omega
  exact this _
 have hlt:=zFz hk (by have:=hrep s.toNat;unfold inB at this;simpa using this)
 refine⟨by simp,qAm hk,fun C _ hs i hi=>?_,.inr (by omega)⟩
 rcases(hset i).1 hi with h2 | h2
 ·exact absurd h2 (hrep i)
 ·subst h2;rwa[Int.toNat_of_nonneg h0]
theorem Rr.round(h:Rr m s S0 k)(hto:∀t,t<m.states.length→∀a∈m.states.getD t [],∀o∈a.next,0≤o.to∧o.to<m.states.length)(h0:0≤s)(hr:Rt m S0 S m.states.length):Rr m s S (k+1):=by
 have hmin:∀C:Int→Prop,zAf m C→C s→∀i:Nat,inB S i→C i:=fun C hC hs=>hr.min C hC (h.min C hC hs);refine⟨hr.len,hr.up _ h.self,hmin,?_⟩;by_cases hsame:∀i,inB S i→inB S0 i
 ·exact .inl fun t ht a ha o ho=>hr.done t (by rw[←hr.len];exact qNs ht) (hsame t ht) a ha o ho
 ·obtain⟨i,hi⟩:=Classical.not_forall.1 hsame;obtain⟨h1,h2⟩:=Classical.not_imp.1 hi;rcases h.fin with hc | hc
  ·exfalso;refine h2 ?_;have hC:zAf m (fun x=>0≤x∧inB S0 x.toNat):=fun t F0 F1 ht a ha o ho=>by
    refine⟨(hto t.toNat (by omega) a ha o ho).1,hc t.toNat ht.2 a ha o ho⟩
   have:=hmin _ hC ⟨h0,h.self⟩ i h1;simpa using this.2
  ·have:=zIy (l:=S0) (l':=S) (by rw[h.len,hr.len]) hr.up h1 h2
   exact .inr (by omega)
end
attribute [local semireducible] Go
end Go.Gv
namespace Go.Gv
open Go Go.Instr IntKind
def ents:List (Int×Value)→Nat→List MapEntry
 | [],_=>[]
 | p::l,b=>{key:= .int .i64 p.1,val:=p.2,born:=b}::ents l (b+1)
def fnd(z:Int):List (Int×Value)→Nat→Option (Nat×Value)
 | [],_=>none
 | p::l,i=>bif z==p.1 then some (i,p.2)else fnd z l (i+1)
def dC(z:Int)(v:Value):List (Int×Value)→List (Int×Value)
 | []=>[(z,v)]
 | p::l=>bif z==p.1 then(z,v)::l else p::dC z v l
def kX(l:List (Int×Value)):Obj:= .map (ents l 0).toArray l.length
def jJ(z:Int)(l:List (Int×Value))(zero:Value):Value:=match fnd z l 0 with
 | some (_,v)=>v
 | none=>zero
section
variable {P:Program}{w:World}{T K V:TypeId}{r:Nat}{l:List (Int×Value)}{z:Int}{zero:Value}
end
section
variable {P:Program}{K:Act→World→Prop}{a:Act}{w w0:World}{o:Oper}{n d:Nat}{L:List (Nat×Value)}{D:List Deferred}{E:Nat→Prop}{X Y:Hid}{M:List (Nat×Obj)}{Q:Exit→Act→World→Prop}
end
end Go.Gv
namespace Go.Gv
open Go.RowKit IntKind
def grd(p:Prop)[Decidable p]{α:Type}(x:Option α):Option α:=if p then x else none
def ix{α:Type}(l:List α)(i:Int):Option α:=if 0≤i then l[i.toNat]? else none
def lt{α β:Type}(a:α)(f:α→β):β:=f a
section
variable {A B C D E F G H R:Type}{y:R}
end
section
variable {α:Type}{El:Rd→Addr→α→Prop}{size:Nat}{r:Rd}{ad:Option Addr}{b off len cap:Nat}{xs:List α}{k:Nat}{x:α}
theorem dJ.sl{xs:List Raw}(h:dJ r ad len cap xs):SlR zLz 3 r ad len cap xs:=⟨h.hlen,h.hcap,h.hbig,h.hat⟩
def qKa(r:Rd)(a:Addr)(x:Nat):Prop:=At r a [.int .u32 (x:Int)]
theorem zL.sl{xs:List Nat}(h:zL r ad len cap xs):SlR qKa 1 r ad len cap xs:=by
 refine⟨h.hlen,h.hcap,h.hbig,h.hat.imp id fun⟨b,off,e,ha⟩=>⟨b,off,e,fun i x hi j v hj=>?_⟩⟩;rcases j with _ | j
 ·simp at hj;subst hj;have:=ha i (.int .u32 (x:Int)) (by simp[U32,hi])
  simpa[qG]using this
 ·simp at hj
theorem At.sub{vs:List Value}(h:At r ⟨b,off,none⟩ vs)(n m:Nat):At r ⟨b,off+n,none⟩ ((vs.drop n).take m):=fun j v hj=>by
 rw[List.getElem?_take]at hj;split at hj
 ·rw[List.getElem?_drop]at hj;have:=h (n+j) v hj;rw[qG]at *;rwa[←Nat.add_assoc]at this
 ·cases hj
end
def GE.okC{α:Type}(Cl:Rd→List Value→α→Prop)(size:Nat)(r:Rd)(e:GE α):Prop:=e.cs.length=size∧∀r',Le r r'→Cl r' e.cs e.x
theorem GE.okC.mono{α:Type}{Cl:Rd→List Value→α→Prop}{size:Nat}{r r':Rd}{e:GE α}(h:GE.okC Cl size r e)(k:Le r r'):GE.okC Cl size r' e:=⟨h.1,fun r2 h2=>h.2 r2 (k.trans h2)⟩
theorem GE.okC.ok{α:Type}{Cl:Rd→List Value→α→Prop}{El:Rd→Addr→α→Prop}{size:Nat}{r:Rd}{e:GE α}(h:GE.okC Cl size r e)(hE:∀r a cs x,Cl r cs x→At r a cs→El r a x):GE.ok El size r e:=⟨h.1,fun r2 h2 _ _ hat=>hE _ _ _ _ (h.2 r2 h2) hat⟩
def zPw{α:Type}(Cl:Rd→List Value→α→Prop)(T:TypeId)(size:Nat)(r:Rd)(rb:List (Nat×Obj))(ad:Option Addr)(m cap:Nat)(L:List α):Prop:=
 ∃es:List (GE α),rD T size rb ad m cap (qKm es)∧es.map (·.x)=L∧(∀e∈es,GE.okC Cl size r e)∧m=es.length
section
variable {α:Type}{Cl:Rd→List Value→α→Prop}{El:Rd→Addr→α→Prop}{T:TypeId}{size:Nat}{r r':Rd}{rb:List (Nat×Obj)}{ad:Option Addr}{m cap:Nat}{L:List α}
theorem zPw.nil:zPw Cl T size r [] none 0 0 []:=⟨[],rD.nil _ _,rfl,by simp,rfl⟩
theorem zPw.mono(h:zPw Cl T size r rb ad m cap L)(k:Le r r'):zPw Cl T size r' rb ad m cap L:=by
 obtain⟨es,h1,h2,h3,h4⟩:=h;exact⟨es,h1,h2,fun e he=>(h3 e he).mono k,h4⟩
theorem zPw.len(h:zPw Cl T size r rb ad m cap L):m=L.length:=by
 obtain⟨es,h1,h2,h3,h4⟩:=h;rw[←h2,List.length_map];exact h4
variable {w0 w:World}{X Y:Hid}{A B:List (Nat×Obj)}{N:Nat}
end
section
variable {α:Type}{El:Rd→Addr→α→Prop}{size:Nat}{r:Rd}{w0 w:World}{X Y:Hid}{M:List (Nat×Obj)}
theorem St.sub{E:Nat→Prop}{M':List (Nat×Obj)}(h:St E w0 X w Y M)(hs:M'.Sublist M):St E w0 X w Y M':=
 ⟨h.upd,h.lt,h.hid,fun p hp=>h.own p (hs.subset hp),(hs.map _).nodup h.nd,h.ltX⟩
end
def adM(ad:Option Addr)(cap k m:Nat):Option Addr:=if cap=k then ad else ad.map (·.add (k*m))
section
variable {α:Type}{El:Rd→Addr→α→Prop}{size:Nat}{r:Rd}{ad:Option Addr}{len cap:Nat}{xs:List α}
theorem SlR.cut(h:SlR El size r ad len cap xs){k n:Nat}(hk:k≤n)(hn:n≤len):SlR El size r (adM ad cap k size) (n-k) (cap-k) ((xs.take n).drop k):=by
 have h1:=h.hlen;have h2:=h.hcap;have h3:=h.hbig;refine⟨by simp;omega,by omega,by omega,?_⟩
 unfold adM;split
 ·exact .inl (List.drop_eq_nil_of_le (by simp;omega))
 ·rcases h.hat with h4 | ⟨b,off,e,ha⟩
  ·exact .inl (by rw[h4];simp)
  ·refine .inr ⟨b,off+k*size,by rw[e];simp[Addr.add],fun i x hi=>?_⟩
   rw[List.getElem?_drop,List.getElem?_take]at hi;split at hi
   ·have:=ha (k+i) x hi;rwa[Nat.add_mul,←Nat.add_assoc]at this
   ·cases hi
variable {P:Program}{ρ:Operand→Value}{o:Oper}{t e:TypeId}{x:Operand}{kd kd2:IntKind}{g:Bool}{i j:Int}{m:Nat}
end
def qJp(_:Rd)(cs:List Value)(x:Int):Prop:=cs=[.int .i64 x]
theorem qJp.at(r:Rd)(a:Addr)(cs:List Value)(x:Int)(h:qJp r cs x)(k:At r a cs):zBu r a x:=by subst h;exact k
def qKb(_:Rd)(cs:List Value)(x:Nat):Prop:=cs=[.int .u32 (x:Int)]
theorem qKb.at(r:Rd)(a:Addr)(cs:List Value)(x:Nat)(h:qKb r cs x)(k:At r a cs):qKa r a x:=by subst h;exact k
def zXo(_:Rd)(cs:List Value)(x:Bool):Prop:=cs=[.bool x]
theorem zXo.at(r:Rd)(a:Addr)(cs:List Value)(x:Bool)(h:zXo r cs x)(k:At r a cs):At r a [.bool x]:=by subst h;exact k
theorem zBu.at{r:Rd}{a:Addr}{x:Int}(h:zBu r a x):At r a [.int .i64 x]:=h
end Go.Gv
namespace Go.Proofs.YtdfmdiakjdggbaaGreatDoor
open Go Go.Gv Go.RowKit IntKind
set_option maxRecDepth 100000
set_option maxHeartbeats 1000000
theorem cZ(w:World)(X:Hid)(hX:∀k o,X k o→k<w.heap.size)(ad:Option Addr)(len cap:Nat)(l:List Nat)(h:zL (rd w X) ad len cap l):
    Calls Tryz.prog 235 #[.slice ad len cap] w (Ret E0 w fun _ v=>v= .slice ad (qI l) cap):=by
 obtain rfl:=h.hlen;have hl:=h.hlen;have hcap:=h.hcap;have hbig:=h.hbig;refine zen Tryz.func235 ?_;have C0:St E0 w X w X []:=St.start hX;refine zz 7 ?_;refine zlp Tryz.f235 [] [1,0,0] (fun(k:Nat)=>[(0,.slice ad k cap)]) (fun k w1=>∃(Y1:Hid),St E0 w X w1 Y1 []∧Le (rd w X) (rd w1 Y1)∧(k≤l.length)∧(jW l k=jW l l.length)) (fun k=>k) l.length ?_ ?_
 ·
  refine⟨_,C0,Le.refl _,Nat.le_refl _,rfl⟩
 rintro k w2 K2 Z2 ⟨Y2,C2,y2,hp2_0,hp2_1⟩;have hk:=hp2_0;have ht:=hp2_1;refine zz 7 ?_;refine zt 6 (p:=(k:Int)>0) (fun F3=>?_) (fun F3=>?_)
 ·
  obtain⟨bk4,of5,rfl,_⟩:=h.addr (by omega)
  have hcell:=(h.cell (i:=k-1) (by omega))
  refine zz 4 ?_;refine zw 10 (x:=(k:Int)-1) ?_;refine zi (b:=bk4) (off:=of5) (len:=k) (cap:=cap) (kd:= .i64) (i:=(k:Int)-1) 1 (of5+(k-1)) ?_ (hoff:=(by first | omega | (simp;done) | (simp;omega)))
  refine zl ((hcell.mono y2)).cells ?_;refine zz 4 ?_;refine zb 14 (b:=(((l.getD (k-1) 0:Nat):Int)==0)) (fun J6=>?_) (fun J6=>?_)
  ·
   have F7:((l.getD (k-1) 0:Nat):Int)=0:=by simpa using J6
   have hk2:=zCg (l:=l) (k:=k) (by omega) (by omega)
   refine zz 9 ?_;refine zw 18 (x:=(k:Int)-1) ?_;refine zop (at1 [K2] Tryz.f235 [1,0,0,0,1,0]) 4 (fun a8 _ G8 hz8=>zE (d:=19) (v:= .slice (some ⟨bk4,of5,none⟩) (k-1) cap) G8 kr (aS (t:=26) (e:=214) (ad:=(some ⟨bk4,of5,none⟩)) (len:=k) (cap:=cap) (kd:= .i64) (i:=(k:Int)-1) (h':=(k-1)) (g:=false) (m:=1) rfl kr kr kr kr (by omega) (by omega) (by first | omega | (simp;done) | (simp;omega)) _) ?_)
   intro a9 G9;refine hz8 G9 ?_;refine zz 3 ?_;refine yL (fun a h=>Z2 (k-1) _ a h ⟨_,C2,y2,by omega,by omega⟩ ?_)
   first | omega | (simp<;>omega)
  have F10:((l.getD (k-1) 0:Nat):Int)≠0:=by simpa using J6
  have hk2:=zCf (l:=l) (k:=k) (by omega) (by omega)
  refine zz 13 ?_;refine zr' (v:= .slice (some ⟨bk4,of5,none⟩) k cap) ?_;exact⟨C2.upd,_,rfl,by unfold qI;first | rw[←ht,hk2] | rw[←ht];rfl⟩
 obtain rfl:k=0:=by omega
 refine zz 23 ?_;refine zr' (v:= .slice ad 0 cap) ?_;exact⟨C2.upd,_,rfl,by unfold qI;first | rw[←ht,hk2] | rw[←ht];rfl⟩
section
variable (w:World)(X:Hid)(hX:∀k o,X k o→k<w.heap.size)
set_option maxHeartbeats 1000000
include hX in
theorem zHw(x:Int):Calls Tryz.prog 234 #[.int .i64 x] w (Ret E0 w fun _ v=>v= .bool false):=by
 refine zen Tryz.func234 ?_;have C0:St E0 w X w X []:=St.start hX;refine zz 14 ?_;refine zr' (v:= .bool ((x)!=x)) ?_;exact⟨C0.upd,_,rfl,by simp⟩
include hX in
theorem bZ(x:Int):Calls Tryz.prog 281 #[.int .u32 x] w (Ret E0 w fun _ v=>v= .bool false):=by
 refine zen Tryz.func281 ?_;have C0:St E0 w X w X []:=St.start hX;refine zz 14 ?_;refine zr' (v:= .bool ((x)!=x)) ?_;exact⟨C0.upd,_,rfl,by simp⟩
def qC(x y:Int):Int:=if x<y then -1 else if x>y then 1 else 0
include hX in
theorem zMx(x y:Int):Calls Tryz.prog 171 #[.int .i64 x,.int .i64 y] w (Ret E0 w fun _ v=>v= .int .i64 (qC x y)):=by
 refine zen Tryz.func171 ?_;have C0:St E0 w X w X []:=St.start hX;refine zz 8 ?_;refine zc C0 (zHw _ _ C0.lt x) ?_;rintro v3 w3 C3 y3 P3 rfl;refine zz 6 ?_;refine zc C3 (zHw _ _ C3.lt y) ?_;rintro v5 w5 C5 y5 P5 rfl;refine zz 29 ?_;refine zt 16 (p:=(x)<y) (fun F6=>?_) (fun F6=>?_);refine zz 8 ?_;refine zr' (v:= .int .i64 (-1)) ?_;exact⟨C5.upd,_,rfl,zO (by unfold qC;(repeat' split)<;>omega)⟩
 refine zz 11 ?_;refine zt 19 (p:=(x)>y) (fun F7=>?_) (fun F7=>?_);refine zz 8 ?_;refine zr' (v:= .int .i64 1) ?_;exact⟨C5.upd,_,rfl,zO (by unfold qC;(repeat' split)<;>omega)⟩
 refine zz 9 ?_;refine zr' (v:= .int .i64 0) ?_;exact⟨C5.upd,_,rfl,zO (by unfold qC;(repeat' split)<;>omega)⟩
include hX in
theorem zDv(x y:Int):Calls Tryz.prog 264 #[.int .u32 x,.int .u32 y] w (Ret E0 w fun _ v=>v= .int .i64 (qC x y)):=by
 refine zen Tryz.func264 ?_;have C0:St E0 w X w X []:=St.start hX;refine zz 8 ?_;refine zc C0 (bZ _ _ C0.lt x) ?_;rintro v3 w3 C3 y3 P3 rfl;refine zz 6 ?_;refine zc C3 (bZ _ _ C3.lt y) ?_;rintro v5 w5 C5 y5 P5 rfl;refine zz 29 ?_;refine zt 16 (p:=(x)<y) (fun F6=>?_) (fun F6=>?_);refine zz 8 ?_;refine zr' (v:= .int .i64 (-1)) ?_;exact⟨C5.upd,_,rfl,zO (by unfold qC;(repeat' split)<;>omega)⟩
 refine zz 11 ?_;refine zt 19 (p:=(x)>y) (fun F7=>?_) (fun F7=>?_);refine zz 8 ?_;refine zr' (v:= .int .i64 1) ?_;exact⟨C5.upd,_,rfl,zO (by unfold qC;(repeat' split)<;>omega)⟩
 refine zz 9 ?_;refine zr' (v:= .int .i64 0) ?_;exact⟨C5.upd,_,rfl,zO (by unfold qC;(repeat' split)<;>omega)⟩
include hX in
theorem qRm(x y c:Int)(hx:0≤x∧x<4294967296)(hy:0≤y∧y<4294967296)(hc:0≤c∧c≤1):Calls Tryz.prog 283 #[.int .u32 x,.int .u32 y,.int .u32 c] w (Ret E0 w fun _ v=>v= .tuple #[.int .u32 ((x+y+c) % 4294967296),.int .u32 ((x+y+c) / 4294967296)]):=by
 refine zen Tryz.func283 ?_;have C0:St E0 w X w X []:=St.start hX;refine zz 10 ?_;refine zs 10 (v:= .int .u64 (IntKind.u64.wrap (x))) (v':= .int .u64 x) (zO (sZ (by omega) (by omega))) ?_
 refine zz 2 ?_;refine zs 12 (v:= .int .u64 (IntKind.u64.wrap (y))) (v':= .int .u64 y) (zO (sZ (by omega) (by omega))) ?_
 refine zz 1 ?_;refine zs 13 (v:= .int .u64 (IntKind.u64.wrap ((x)+y))) (v':= .int .u64 ((x)+y)) (zO (sZ (by omega) (by omega))) ?_
 refine zz 2 ?_;refine zs 15 (v:= .int .u64 (IntKind.u64.wrap (c))) (v':= .int .u64 c) (zO (sZ (by omega) (by omega))) ?_
 refine zz 1 ?_;refine zs 16 (v:= .int .u64 (IntKind.u64.wrap (((x)+y)+c))) (v':= .int .u64 (((x)+y)+c)) (zO (sZ (by omega) (by omega))) ?_
 refine zz 7 ?_;refine zs 18 (v:= .int .u32 (IntKind.u32.wrap (((x)+y)+c))) (v':= .int .u32 ((((x)+y)+c) % 4294967296)) (zO (jS _)) ?_;refine zz 7 ?_;refine zs 20 (v:= .int .u64 (Int.fdiv (((x)+y)+c) (2^32))) (v':= .int .u64 ((((x)+y)+c) / 4294967296)) (zO (xH _ 32 (by decide) (by decide))) ?_
 refine zz 1 ?_;refine zs 21 (v:= .int .u32 (IntKind.u32.wrap ((((x)+y)+c) / 4294967296))) (v':= .int .u32 (((x)+(y)+(c)) / 4294967296)) (zO (qEt (by omega) (by omega))) ?_
 refine zz 4 ?_;refine zr' (v:= .tuple #[.int .u32 ((((x)+y)+c) % 4294967296),.int .u32 (((x)+(y)+(c)) / 4294967296)]) ?_;exact⟨C0.upd,_,rfl,by first | rfl | (congr 3;omega) | skip⟩
end
section
variable (w:World)(X:Hid)(hX:∀k o,X k o→k<w.heap.size)
set_option maxHeartbeats 1000000
include hX in
theorem qLh(x y c:Int)(hx:0≤x∧x<4294967296)(hy:0≤y∧y<4294967296)(hc:0≤c∧c≤1):Calls Tryz.prog 265 #[.int .u32 x,.int .u32 y,.int .u32 c] w (Ret E0 w fun _ v=>v= .tuple #[.int .u32 ((((x)-y) % 4294967296-c) % 4294967296),.int .u32 (if x<y+c then 1 else 0)]):=by
 refine zen Tryz.func265 ?_;have C0:St E0 w X w X []:=St.start hX;refine zz 11 ?_;refine zs 10 (v:= .int .u32 (IntKind.u32.wrap ((x)-y))) (v':= .int .u32 (((x)-y) % 4294967296)) (zO (jS _)) ?_;refine zz 2 ?_;refine zs 12 (v:= .int .u32 (IntKind.u32.wrap ((((x)-y) % 4294967296)-c))) (v':= .int .u32 (((((x)-y) % 4294967296)-c) % 4294967296)) (zO (jS _)) ?_;refine zz 17 ?_;refine zs 24 (v:= .int .u32 (Int.fdiv (wQ (xS (xE 4294967295 x) y) (xS (xE 4294967295 (xE x y)) (((((x)-y) % 4294967296)-c) % 4294967296))) (2^31))) (v':= .int .u32 ((wQ (xS (xE 4294967295 x) y) (xS (xE 4294967295 (xE x y)) (((((x)-y) % 4294967296)-c) % 4294967296))) / 2147483648)) (zO (xH _ 31 (by decide) (by decide))) ?_
 refine zz 4 ?_;refine zr' (v:= .tuple #[.int .u32 (((((x)-y) % 4294967296)-c) % 4294967296),.int .u32 ((wQ (xS (xE 4294967295 x) y) (xS (xE 4294967295 (xE x y)) (((((x)-y) % 4294967296)-c) % 4294967296))) / 2147483648)]) ?_;exact⟨C0.upd,_,rfl,by
    obtain⟨xn,rfl⟩:=Int.eq_ofNat_of_zero_le hx.1;obtain⟨yn,rfl⟩:=Int.eq_ofNat_of_zero_le hy.1;obtain⟨cn,rfl⟩:=Int.eq_ofNat_of_zero_le hc.1;obtain⟨dn,hd⟩:=Int.eq_ofNat_of_zero_le (a:=(((xn:Int)-yn) % 4294967296-cn) % 4294967296) (by omega)
    have:=zXh xn yn cn dn (by omega) (by omega) (by omega) (by omega) hd.symm
    rw[hd,this]⟩
include hX in
theorem qCs(b off len cap:Nat)(es:List Int)(hlen:len=es.length)(hbig:es.length≤1000)(hat:At (rd w X) ⟨b,off,none⟩ (I64 es)):Calls Tryz.prog 81 #[.slice (some ⟨b,off,none⟩) len cap] w (Ret E0 w fun _ v=>v= .int .i64 (orL es)):=by
 refine zen Tryz.func81 ?_;have C0:St E0 w X w X []:=St.start hX;refine zz 19 ?_;refine zlp Tryz.f81 [] [1,1,0,1,0] (fun(k:Nat)=>[(3,.int .i64 0),(6,.slice (some ⟨b,off,none⟩) len cap),(7,.int .i64 (len:Int)),(8,.int .i64 (k:Int))]) (fun k w1=>∃(Y1:Hid),St E0 w X w1 Y1 []∧Le (rd w X) (rd w1 Y1)∧(k≤es.length)∧(∀j,j<k→es.getD j 0=0)) (fun k=>es.length-k) 0 ?_ ?_;refine⟨_,C0,Le.refl _,Nat.zero_le _,fun j hj=>absurd hj (Nat.not_lt_zero j)⟩;rintro k w2 K2 Z2 ⟨Y2,C2,y2,hp2_0,hp2_1⟩;refine zz 6 ?_;refine zt 9 (p:=(k:Int)<(len:Int)) (fun F3=>?_) (fun F3=>?_);have hcell:=(hat.one (qEw (l:=es) (i:=k) (by omega)))
 refine zz 7 ?_;refine zi (b:=b) (off:=off) (len:=len) (cap:=cap) (kd:= .i64) (i:=(k:Int)) 1 (off+k) ?_;refine zl ((hcell.mono y2)).cells ?_;refine zz 10 ?_;refine zb 14 (b:=((es.getD k 0)!=0)) (fun J4=>?_) (fun J4=>?_);have F5:(es.getD k 0)≠0:=by simpa using J4
 refine zz 13 ?_;refine zr' (v:= .int .i64 (es.getD k 0)) ?_;exact⟨C2.upd,_,rfl,zO (by first | exact(zFc es (fun j hj=>hp2_1 j (by omega))).symm | exact(zRi es k (by omega) hp2_1 (by omega)).symm)⟩
 have F6:(es.getD k 0)=0:=by simpa using J4
 refine zz 6 ?_;refine zw 16 (x:=(k:Int)+1) ?_;refine zz 2 ?_;refine yL (fun a h=>Z2 (k+1) _ a h ⟨_,C2,y2,by omega,fun j hj=>(by rcases Nat.lt_succ_iff_lt_or_eq.1 hj with h | h;exact hp2_1 j h;rw[h];omega)⟩ ?_)
 first | omega | (simp<;>omega)
 have hk:k=es.length:=by omega
 refine zz 13 ?_;refine zr' (v:= .int .i64 0) ?_;exact⟨C2.upd,_,rfl,zO (by first | exact(zFc es (fun j hj=>hp2_1 j (by omega))).symm | exact(zRi es k (by omega) hp2_1 (by omega)).symm)⟩
include hX in
theorem zVo(len cap:Nat)(l:List Nat)(hl:len=l.length)(hlen:len≤35184372088831)(hlt:∀x∈l,x<4294967296)(hnil:l=[]):Calls Tryz.prog 223 #[.slice none len cap] w (Ret E0 w fun w' v=>∃ad' len' cap',zGi w w' 214 v l ad' len' cap'):=by
 refine zen Tryz.func223 ?_;have C0:St E0 w X w X []:=St.start hX;refine zz 20 ?_;refine zr' (v:= .slice none 0 0) ?_;exact⟨C0.upd,_,rfl,_,_,_,⟨rfl,by rw[hnil];rfl,hlt,.inl ⟨rfl,rfl,rfl⟩⟩⟩
include hX in
theorem zDu(ad:Addr)(len cap:Nat)(l:List Nat)(hl:len=l.length)(hlen:len≤35184372088831)(hlt:∀x∈l,x<4294967296)(hat:At (rd w X) ad (U32 l)):Calls Tryz.prog 223 #[.slice (some ad) len cap] w (Ret E0 w fun w' v=>∃ad' len' cap',zGi w w' 214 v l ad' len' cap'):=by
 refine zen Tryz.func223 ?_;have C0:St E0 w X w X []:=St.start hX;refine zz 17 ?_;refine zn (fun b=> .slice (some ⟨b,0,none⟩) 0 0) (.cells #[] 214 (0,0)) C0 fun b3 w3 Y3 C3 y3 P3=>?_;refine zz 1 ?_;refine zop (at1 [] Tryz.f223 [1,1,0]) 2 (fun a4 _ G4 hz4=>zFb (b:=4) (m:=len) (c:=cap) (size:=1) (ad:=ad) (xs:=[]) (news:=U32 l) (i0:=Tryz.t214) (cur:=#[]) (nn:=0) (cap:=0) (g:=b3) (e:=214) 0 G4 C3 kr ⟨Nat.le_refl _,Nat.zero_le _,rfl,rfl⟩ (hat.mono y3).cells (by simp[hl]) (by simp[U32,Value.oneCell']) (by simp only[maxLen];omega) (by show(0+len)*4≤_;omega) ?_)
 intro g5 Q5 T5 w5 Y5 D5 C5 y5 a6 G6;simp only[Nat.zero_add,List.nil_append]at G6 D5;refine hz4 G6 ?_;refine zz 4 ?_;refine zr' (v:= .slice (some ⟨g5,0,none⟩) len Q5) ?_;exact⟨C5.upd,_,rfl,_,_,_,⟨rfl,hl,hlt,.inr ⟨_,_,rfl,C5.own_ge 0 rfl,C5.get 0 rfl,⟨D5,hlt⟩⟩⟩⟩
include hX in
theorem bQ(ad:Option Addr)(len cap:Nat)(l:List Nat)(h:zL (rd w X) ad len cap l)(hlen:len≤35184372088831):Calls Tryz.prog 223 #[.slice ad len cap] w (Ret E0 w fun w' v=>∃ad' len' cap',zGi w w' 214 v l ad' len' cap'):=by
 rcases h.hat with h0 | ⟨b,off,rfl,hat⟩
 ·cases ad with
  | none=>exact zVo w X hX len cap l h.hlen hlen h.hlt h0
  | some a=>exact zDu w X hX a len cap l h.hlen hlen h.hlt (h0▸fun j v hj=>by simp[U32]at hj)
 ·exact zDu w X hX _ len cap l h.hlen hlen h.hlt hat
end
section
variable (w:World)(X:Hid)(hX:∀k o,X k o→k<w.heap.size)
set_option maxHeartbeats 1000000
include hX in
theorem zJf(ad:Option Addr)(len cap:Nat)(l:List Nat)(h:zL (rd w X) ad len cap l):Calls Tryz.prog 153 #[.slice ad len cap] w (Ret E0 w fun _ v=>v= .int .i64 (qU l)):=by
 obtain rfl:=h.hlen;have hcap:=h.hcap;have hbig:=h.hbig;refine zen Tryz.func153 ?_;have C0:St E0 w X w X []:=St.start hX;refine zz 15 ?_;refine zt 3 (p:=(l.length:Int)>512) (fun F2=>?_) (fun F2=>?_);refine zz 9 ?_;refine zr' (v:= .int .i64 4) ?_;exact⟨C0.upd,_,rfl,zO (by unfold qU;(repeat' split)<;>first | rfl | omega)⟩
 refine zz 7 ?_;refine zt 11 (p:=(l.length:Int)>0) (fun F3=>?_) (fun F3=>?_);obtain⟨bk4,of5,rfl,_⟩:=h.addr (by omega)
 refine zz 4 ?_;refine zw 15 (x:=(l.length:Int)-1) ?_;refine zi (b:=bk4) (off:=of5) (len:=l.length) (cap:=cap) (kd:= .i64) (i:=(l.length:Int)-1) 1 (of5+(l.length-1)) ?_ (hoff:=(by first | omega | (simp;done) | (simp;omega)))
 refine zl ((h.cell (i:=(l.length-1)) (by omega)).mono (Le.refl _)).cells ?_
 refine zz 5 ?_;refine zb 7 (b:=(((l.getD (l.length-1) 0:Nat):Int)==0)) (fun J6=>?_) (fun J6=>?_);have F7:((l.getD (l.length-1) 0:Nat):Int)=0:=by simpa using J6
 refine zz 9 ?_;refine zr' (v:= .int .i64 2) ?_;exact⟨C0.upd,_,rfl,zO (by unfold qU;(repeat' split)<;>first | rfl | omega)⟩
 have F8:((l.getD (l.length-1) 0:Nat):Int)≠0:=by simpa using J6
 refine zz 10 ?_;refine zr' (v:= .int .i64 0) ?_;exact⟨C0.upd,_,rfl,zO (by unfold qU;(repeat' split)<;>first | rfl | omega)⟩
 refine zz 21 ?_;refine zr' (v:= .int .i64 0) ?_;exact⟨C0.upd,_,rfl,zO (by unfold qU;(repeat' split)<;>first | rfl | omega)⟩
def kR(l l2:List Nat):Int:=orL [qU l,qU l2]
include hX in
theorem bH(ad:Option Addr)(len cap:Nat)(l:List Nat)(h:zL (rd w X) ad len cap l)(ad2:Option Addr)(len2 Q2:Nat)(l2:List Nat)(h2:zL (rd w X) ad2 len2 Q2 l2):Calls Tryz.prog 222 #[.slice ad len cap,.slice ad2 len2 Q2] w (Ret E0 w fun _ v=>v= .int .i64 (kR l l2)):=by
 refine zen Tryz.func222 ?_;have C0:St E0 w X w X []:=St.start hX;refine zz 8 ?_;refine zc C0 (zJf _ X0 (zT _) _ _ _ l (h.mono Le.x0)) ?_;rintro v3 w3 C3 y3 P3 rfl;refine zz 1 ?_;refine zc C3 (zJf _ X0 (zT _) _ _ _ l2 ((h2.mono y3).mono Le.x0)) ?_;rintro v5 w5 C5 y5 P5 rfl;refine zn (fun b=> .slice (some ⟨b,0,none⟩) 2 2) (.cells #[.int .i64 (qU l),.int .i64 (qU l2)] 46 (0,0)) C5 fun b7 w7 Y7 C7 y7 P7=>?_;refine zc C7 (qCs _ X0 (zT _) _ _ _ _ [qU l,qU l2] rfl (by simp) (C7.at0 0 rfl rfl)) ?_ (vs:=#[.slice (some ⟨b7,0,none⟩) 2 2])
 rintro v9 w9 C9 y9 P9 rfl;refine zz 4 ?_;refine zr' (v:= .int .i64 (orL [qU l,qU l2])) ?_;exact⟨C9.upd,_,rfl,zO (rfl)⟩
include hX in
theorem qKl(ad:Option Addr)(len cap:Nat)(l:List Nat)(h:zL (rd w X) ad len cap l):Calls Tryz.prog 267 #[.slice ad len cap] w (Ret E0 w fun _ v=>v=if 512<qI l then .tuple #[.slice none 0 0,.int .i64 4]else .tuple #[.slice ad (qI l) cap,.int .i64 0]):=by
 have hcap:=h.hcap;have hbig:=h.hbig;have hl:=h.hlen;have htr:=wO l l.length;rw[show jW l l.length=qI l from rfl]at htr;refine zen Tryz.func267 ?_;have C0:St E0 w X w X []:=St.start hX;refine zz 10 ?_;refine zc C0 (cZ _ _ C0.lt _ _ _ l h) ?_;rintro v3 w3 C3 y3 P3 rfl;refine zz 10 ?_;refine zt 8 (p:=(qI l:Int)>512) (fun F4=>?_) (fun F4=>?_);refine zz 9 ?_;refine zr' (v:= .tuple #[.slice none 0 0,.int .i64 4]) ?_;exact⟨C3.upd,_,rfl,by first | rw[if_pos (by omega)] | rw[if_neg (by omega)]⟩
 refine zz 11 ?_;refine zr' (v:= .tuple #[.slice ad (qI l) cap,.int .i64 0]) ?_;exact⟨C3.upd,_,rfl,by first | rw[if_pos (by omega)] | rw[if_neg (by omega)]⟩
end
end Go.Proofs.YtdfmdiakjdggbaaGreatDoor
namespace Go.Proofs.YtdfmdiakjdggbaaGreatDoor
open Go Go.Gv Go.RowKit IntKind
set_option maxRecDepth 100000
set_option maxHeartbeats 1000000
abbrev Two(a b:Nat):Nat→Prop:=fun k=>k=a∨k=b
abbrev qEv(a b:Nat):Hid:=fun k _=>k=a∨k=b
theorem zYb(w:World)(g bc ba i m cap:Nat)(cur:Array Value)(l:List Nat)(x c:Nat)(hne:g≠bc)(hbg:ba≠g)(hbb:ba≠bc)(hg:w.heap[g]?=some (.cells cur 214 (0,0)))(hrow:zS m cap cur l)
    (hbc:w.heap[bc]?=some (.cells #[.int .u32 (c:Int)] 214 (0,0))) (hba:At (rd w (qEv g bc)) ⟨ba,0,none⟩ [.slice (some ⟨g,0,none⟩) m cap]) (hi:i<l.length) (hx:x<4294967296) (hc:c≤1) (hbig:m≤4611686018427387904):
    Calls Tryz.prog 282 #[.int .i64 (i:Int),.int .u32 (x:Int),.pointer (some ⟨ba,0,none⟩),.pointer (some ⟨bc,0,none⟩)] w (Ret (Two g bc) w fun w' v=>v= .tuple #[]∧∃cur',w'.heap[g]?=some (.cells cur' 214 (0,0))∧zS m cap cur' (l.set i ((l.getD i 0+x+c) % 4294967296))∧
      w'.heap[bc]?=some (.cells #[.int .u32 (((l.getD i 0+x+c) / 4294967296:Nat):Int)] 214 (0,0))):=by
 have hX:∀k o,qEv g bc k o→k<w.heap.size:=by
   rintro k o (rfl | rfl)
   ·exact(Array.getElem?_eq_some_iff.1 hg).1
   ·exact(Array.getElem?_eq_some_iff.1 hbc).1
 refine zDb (n:=19) (vs:=[.int .i64 (i:Int),.int .u32 (x:Int),.pointer (some ⟨ba,0,none⟩),.pointer (some ⟨bc,0,none⟩)]) Tryz.func282 rfl rfl rfl kr (fun a0 G0=>?_);have G0:Fr 19 a0 [(0,.int .i64 (i:Int)),(1,.int .u32 (x:Int)),(2,.pointer (some ⟨ba,0,none⟩)),(3,.pointer (some ⟨bc,0,none⟩))]:=G0;have C0:St (Two g bc) w (qEv g bc) w (qEv g bc) [(g,.cells cur 214 (0,0)),(bc,.cells #[.int .u32 (c:Int)] 214 (0,0))]:=St.start2 hX hg hbc (fun _=> .inl rfl) (fun _=> .inr rfl) hne;have hlen:=hrow.len;have hlt:=hrow.getD_lt i;refine gZ (N:=15) (yA [(⟨ba,0,none⟩,[.slice (some ⟨g,0,none⟩) m cap]),(⟨g,i,none⟩,[.int .u32 ((l.getD i 0:Nat):Int)]),(⟨bc,0,none⟩,[.int .u32 (c:Int)])]) [13,14] kr kr kr C0 fun w1 C1 y1 P1=>?_;refine pQ (yA.cons ((hba.mono y1)).cells (yA.cons (C1.rowCells 0 rfl hrow (by have:=hrow.len;(try simp only[List.length_set]at *);omega)) (yA.cons (C1.cells 1 rfl rfl) (yA.nil _)))) (fun hH1=>?_)
 refine sW (d:=7) (v:= .slice (some ⟨g,0,none⟩) m cap) 0 G0 rfl kr kr kr (fun w hw=>zB (t:=26) (g:=false) (vs:=[.slice (some ⟨g,0,none⟩) m cap]) (ad:=⟨ba,0,none⟩) rfl kr kr ir (hw.get 0 kr)) hH1 ?_;intro a2 G2;refine zJ (d:=8) (v:= .int .i64 (i:Int)) 1 G2 rfl kr kr kw (fun _=>hH1) fun a3 G3=>?_;refine sW (d:=9) (v:= .slice (some ⟨g,0,none⟩) m cap) 2 G3 rfl kr kr kr (fun w hw=>zB (t:=26) (g:=false) (vs:=[.slice (some ⟨g,0,none⟩) m cap]) (ad:=⟨ba,0,none⟩) rfl kr kr ir (hw.get 0 kr)) hH1 ?_;intro a4 G4;refine zJ (d:=10) (v:= .int .i64 (i:Int)) 3 G4 rfl kr kr kw (fun _=>hH1) fun a5 G5=>?_;refine zJ (d:=11) (v:= .pointer (some ⟨g,i,none⟩)) 4 G5 rfl kr kr (fun w=>qQ (t:=26) (e:=214) (b:=g) (off:=0) (len:=m) (cap:=cap) (kd:= .i64) (i:=(i:Int)) (g:=false) (m:=1) (off':=i) rfl kr kr kr kr (by omega) (by omega) (by first | rfl | omega | (simp;done) | (simp;omega)) w) (fun _=>hH1) fun a6 G6=>?_
 refine sW (d:=12) (v:= .int .u32 ((l.getD i 0:Nat):Int)) 5 G6 rfl kr kr kr (fun w hw=>zB (t:=214) (g:=false) (vs:=[.int .u32 ((l.getD i 0:Nat):Int)]) (ad:=⟨g,i,none⟩) rfl kr kr ir (hw.get 1 kr)) hH1 ?_;intro a7 G7;refine zJ (d:=13) (v:= .int .u32 (x:Int)) 6 G7 rfl kr kr kw (fun _=>hH1) fun a8 G8=>?_;refine sW (d:=14) (v:= .int .u32 (c:Int)) 7 G8 rfl kr kr kr (fun w hw=>zB (t:=214) (g:=false) (vs:=[.int .u32 (c:Int)]) (ad:=⟨bc,0,none⟩) rfl kr kr ir (hw.get 2 kr)) hH1 ?_;intro a9 G9;refine xY [8] kr rfl ?_;refine jN.cons (i:=8) G9 rfl kr (jY (d:=15) (f:=283) (cap:=#[]) (vs:=#[.int .u32 ((l.getD i 0:Nat):Int),.int .u32 (x:Int),.int .u32 (c:Int)]) G9 kr C1 rfl kr kr (fun w=>Tryz.call283 _ w) (qRm _ _ C1.lt ((l.getD i 0:Nat):Int) (x:Int) (c:Int) ⟨by omega,by omega⟩ ⟨by omega,by omega⟩ ⟨by omega,by omega⟩) ?_) jN.nil
 rintro v10 w10 C10 y10 P10 rfl a11 G11;refine xU (hH1.up P10) (fun hH10=>?_);refine zJ (d:=6) (v:= .tuple #[.int .u32 ((((l.getD i 0:Nat):Int)+(x:Int)+(c:Int)) % 4294967296),.int .u32 ((((l.getD i 0:Nat):Int)+(x:Int)+(c:Int)) / 4294967296)]) 9 G11 rfl kr kr kw (fun _=>hH10) fun a12 G12=>?_;refine zJ (d:=16) (v:= .int .u32 ((((l.getD i 0:Nat):Int)+(x:Int)+(c:Int)) % 4294967296)) 10 G12 rfl kr kr kw (fun _=>hH10) fun a13 G13=>?_;refine zJ (d:=17) (v:= .int .u32 ((((l.getD i 0:Nat):Int)+(x:Int)+(c:Int)) / 4294967296)) 11 G13 rfl kr kr kw (fun _=>hH10) fun a14 G14=>?_;refine zJ (d:=18) (v:= .pointer (some ⟨g,i,none⟩)) 12 G14 rfl kr kr (fun w=>qQ (t:=26) (e:=214) (b:=g) (off:=0) (len:=m) (cap:=cap) (kd:= .i64) (i:=(i:Int)) (g:=false) (m:=1) (off':=i) rfl kr kr kr kr (by omega) (by omega) (by first | rfl | omega | (simp;done) | (simp;omega)) w) (fun _=>hH10) fun a15 G15=>?_
 refine xY [13] kr rfl ?_;refine jN.cons (i:=13) G15 rfl kr (rZ (t:=214) (y:=((l.getD i 0+x+c) % 4294967296)) (k:=i) (e:=(((l.getD i 0:Nat):Int)+(x:Int)+(c:Int)) % 4294967296) 0 G15 kr C10 rfl rfl rfl (by first | rfl | omega | (simp;omega)) kr rfl hrow (by have:=hrow.len;(try simp only[List.length_set]at *);omega) (by first | omega | (simp;omega)) ?_) jN.nil
 intro T16 w16 D16 C16 y16;refine⟨rG kr,?_⟩;refine xY [14] kr rfl ?_;refine jN.cons (i:=14) G15 rfl kr (zF (t:=214) (b:=bc) (off:=0) (c':=#[.int .u32 ((((l.getD i 0:Nat):Int)+(x:Int)+(c:Int)) / 4294967296)]) (g:=false) (m:=1) 1 _ G15 kr C16 rfl kr rfl kr kr kr rfl (by first | decide | (simp;done)) kr rfl ?_) jN.nil
 intro w17 C17 y17;refine⟨rG kr,?_⟩;refine zBn kr (nrm ?_);refine zMo (v:= .tuple #[]) (rs:=[]) G15 kr Res.nil kr ?_;refine⟨C17.upd,_,rfl,rfl,T16,C17.get 0 rfl,?_,?_⟩
 ·
  exact D16
 ·
  rw[C17.get 1 rfl];congr 4
abbrev HG(g:Nat):Hid:=fun k _=>k=g
theorem qFc(l1 l2:List Nat)(j k c T:Nat)(hj:j<l2.length)(hk:j+k<l1.length)(h:val l1+c*4294967296^(j+k)=T+4294967296^k*val (l2.take j)):
  val (l1.set (j+k) ((l1.getD (j+k) 0+l2.getD j 0+c) % 4294967296))+(l1.getD (j+k) 0+l2.getD j 0+c) / 4294967296*4294967296^(j+1+k)=T+4294967296^k*val (l2.take (j+1)):=by
 have h1:=zAa l1 (j+k) (l2.getD j 0) c hk;rw[jQ l2 j hj,Nat.mul_add,show 4294967296^k*(l2.getD j 0*4294967296^j)=l2.getD j 0*4294967296^(j+k)by rw[Nat.pow_add];ac_rfl,show j+1+k=j+k+1 by omega]
 omega
theorem zYd(l1:List Nat)(p c T:Nat)(hk:p<l1.length)(h:val l1+c*4294967296^p=T):
  val (l1.set p ((l1.getD p 0+0+c) % 4294967296))+(l1.getD p 0+0+c) / 4294967296*4294967296^(p+1)=T:=by
 have h1:=zAa l1 p 0 c hk;omega
theorem qKc(w:World)(g m cap:Nat)(cur:Array Value)(l:List Nat)(hg:w.heap[g]?=some (.cells cur 214 (0,0)))(hrow:zS m cap cur l)(hm:m≤1099511627776)
    (ad2:Option Addr) (len2 Q2:Nat) (l2:List Nat) (h2:zL (rd w (HG g)) ad2 len2 Q2 l2) (k:Nat) (hk:l2.length+k≤m) (hsum:val l+4294967296^k*val l2<4294967296^m):
    Calls Tryz.prog 266 #[.slice (some ⟨g,0,none⟩) m cap,.slice ad2 len2 Q2,.int .i64 (k:Int)] w (Ret (·=g) w fun w' v=>v= .tuple #[]∧∃cur' l',w'.heap[g]?=some (.cells cur' 214 (0,0))∧zS m cap cur' l'∧val l'=val l+4294967296^k*val l2):=by
 obtain rfl:=h2.hlen;have hcap2:=h2.hcap;have hbig2:=h2.hbig;refine zen Tryz.func266 ?_;have hX:∀k o,HG g k o→k<w.heap.size:=by rintro k o rfl;exact(Array.getElem?_eq_some_iff.1 hg).1
 have C0:St (·=g) w (HG g) w (HG g) [(g,.cells cur 214 (0,0))]:=St.startE g _ hX hg (fun _=>rfl);refine zz 2 ?_;refine zn pn (.cells #[.slice (some ⟨g,0,none⟩) m cap] 26 (0,0)) C0 fun b3 w3 Y3 C3 y3 P3=>?_;refine zz 4 ?_;refine zn pn (.cells #[.int .u32 0] 214 (0,0)) C3 fun b5 w5 Y5 C5 y5 P5=>?_;refine zx 0 #[.int .u32 0] C5 fun w6 C6 y6=>?_;refine zz 17 ?_;refine zlp Tryz.f266 [] [1,1,1,0,1,0] (fun(j:Nat)=>[(1,.slice ad2 l2.length Q2),(2,.int .i64 (k:Int)),(6,.pointer (some ⟨b5,0,none⟩)),(7,.func (.func 282) #[] #[.pointer (some ⟨b3,0,none⟩),.pointer (some ⟨b5,0,none⟩)]),(12,.slice ad2 l2.length Q2),(13,.int .i64 (l2.length:Int)),(14,.int .i64 (j:Int))]) (fun j w1=>∃(Y1:Hid)(T1:Array Value)(l1:List Nat)(c:Nat),St (·=g) w (HG g) w1 Y1 [(b5,.cells #[.int .u32 (c:Int)] 214 (0,0)),(b3,.cells #[.slice (some ⟨g,0,none⟩) m cap] 26 (0,0)),(g,.cells T1 214 (0,0))]∧Le (rd w6 Y5) (rd w1 Y1)∧(zS m cap T1 l1)∧(j≤l2.length)∧(c≤1)∧(val l1+c*4294967296^(j+k)=val l+4294967296^k*val (l2.take j))) (fun j=>l2.length-j) 0 ?_ ?_
 ·
  refine⟨_,cur,l,0,C6,Le.refl _,hrow,Nat.zero_le _,by omega,by simp[val]⟩
 rintro j w7 K7 Z7 ⟨Y7,T1,l1,c,C7,y7,hp7_0,hp7_1,hp7_2,hp7_3⟩;have D1:=hp7_0;have hlen1:=D1.len;refine zz 6 ?_;refine zt 15 (p:=(j:Int)<(l2.length:Int)) (fun F8=>?_) (fun F8=>?_)
 ·
  obtain⟨bk9,of10,rfl,_⟩:=h2.addr (by omega)
  refine zz 8 ?_;refine zi (b:=bk9) (off:=of10) (len:=l2.length) (cap:=Q2) (kd:= .i64) (i:=(j:Int)) 1 (of10+j) ?_;have J1_:=(Le3 y3 y5 y6).trans y7;refine zl ((h2.cell (i:=j) (by omega)).mono J1_).cells ?_
  refine zz 9 ?_;refine zw 22 (x:=((j+k:Nat):Int)) ?_;refine zz 1 ?_;refine zop (at1 [K7] Tryz.f266 [1,1,1,0,1,0,0,1,1,0,0,1]) 5 (fun a11 _ G11 hz11=>zIo 2 0 G11 C7 rfl rfl (zYb _ g b5 b3 (j+k) m cap T1 l1 (l2.getD j 0) c (C7.ne (i:=2) (j:=0) rfl rfl (by decide)) (C7.ne (i:=1) (j:=2) rfl rfl (by decide)) (C7.ne (i:=1) (j:=0) rfl rfl (by decide)) (C7.get 2 rfl) D1 (C7.get 0 rfl) (C7.atX 1 rfl (fun _ hx=>hx.elim (C7.ne (i:=1) (j:=2) rfl rfl (by decide)) (C7.ne (i:=1) (j:=0) rfl rfl (by decide)))) (by omega) (by first | exact h2.getD_lt _ | omega) (by omega) (by omega)) ?_)
  rintro v12 w12 ⟨rfl,T12,hg12,D12,hbc12⟩ hSf12 y12 a13 G13;have C12:=hSf12 _ _ hg12 hbc12;refine hz11 G13 ?_;refine zz 5 ?_;refine zw 25 (x:=(j:Int)+1) ?_;refine zz 2 ?_;refine yL (fun a h=>Z7 (j+1) _ a h ⟨_,T12,(l1.set (j+k) ((l1.getD (j+k) 0+l2.getD j 0+c) % 4294967296)),((l1.getD (j+k) 0+l2.getD j 0+c) / 4294967296),C12,(Le2 y7 y12),D12,by omega,by have:=h2.getD_lt j;have:=D1.getD_lt (j+k);omega,qFc _ _ _ _ _ _ (by omega) (by omega) hp7_3⟩ ?_)
  first | omega | (simp<;>omega)
 refine zz 12 ?_;refine zw 29 (x:=((l2.length+k:Nat):Int)) ?_;refine zz 4 ?_;have htot:=hp7_3;have hj1:=hp7_1;obtain rfl:j=l2.length:=by omega
 rw[List.take_length]at htot;refine zlp Tryz.f266 [K7] [1,1,1,1,1,0] (fun(j:Nat)=>[(6,.pointer (some ⟨b5,0,none⟩)),(7,.func (.func 282) #[] #[.pointer (some ⟨b3,0,none⟩),.pointer (some ⟨b5,0,none⟩)]),(10,.int .i64 (j:Int))]) (fun j w1=>∃(Y1:Hid)(T1:Array Value)(l1:List Nat)(c:Nat),St (·=g) w (HG g) w1 Y1 [(b5,.cells #[.int .u32 (c:Int)] 214 (0,0)),(b3,.cells #[.slice (some ⟨g,0,none⟩) m cap] 26 (0,0)),(g,.cells T1 214 (0,0))]∧Le (rd w7 Y7) (rd w1 Y1)∧(zS m cap T1 l1)∧(c≤1)∧(val l1+c*4294967296^j=val l+4294967296^k*val l2)) (fun j=>m-j) (l2.length+k) ?_ ?_
 ·
  refine⟨_,T1,l1,c,C7,Le.refl _,D1,hp7_2,htot⟩
 rintro j w14 K14 Z14 ⟨Y14,T1,l1,c,C14,y14,hp14_0,hp14_1,hp14_2⟩;have D1:=hp14_0;have hlen1:=D1.len;refine zz 3 ?_;refine zo 0 C14 ?_;refine zz 3 ?_;refine zb 31 (b:=((c:Int)!=0)) (fun J15=>?_) (fun J15=>?_)
 ·
  have F16:(c:Int)≠0:=by simpa using J15
  have hjm:j<m:=zIq (i:=j) (len:=m) (v:=val l+4294967296^k*val l2) (by have h1:=hp14_2;obtain rfl:c=1:=(by have:=hp14_1;omega);omega) hsum
  refine zz 8 ?_;refine zop (at1 [K7,K14] Tryz.f266 [1,1,1,1,1,0,0,1,0,0]) 2 (fun a17 _ G17 hz17=>zIo 2 0 G17 C14 rfl rfl (zYb _ g b5 b3 (j) m cap T1 l1 (0) c (C14.ne (i:=2) (j:=0) rfl rfl (by decide)) (C14.ne (i:=1) (j:=2) rfl rfl (by decide)) (C14.ne (i:=1) (j:=0) rfl rfl (by decide)) (C14.get 2 rfl) D1 (C14.get 0 rfl) (C14.atX 1 rfl (fun _ hx=>hx.elim (C14.ne (i:=1) (j:=2) rfl rfl (by decide)) (C14.ne (i:=1) (j:=0) rfl rfl (by decide)))) (by omega) (by first | exact h2.getD_lt _ | omega) (by omega) (by omega)) ?_)
  rintro v18 w18 ⟨rfl,T18,hg18,D18,hbc18⟩ hSf18 y18 a19 G19;have C18:=hSf18 _ _ hg18 hbc18;refine hz17 G19 ?_;refine zz 6 ?_;refine zw 33 (x:=(j:Int)+1) ?_;refine zz 2 ?_;refine yL (fun a h=>Z14 (j+1) _ a h ⟨_,T18,(l1.set (j) ((l1.getD (j) 0+0+c) % 4294967296)),((l1.getD (j) 0+0+c) / 4294967296),C18,(Le2 y14 y18),D18,by have:=D1.getD_lt j;omega,zYd _ _ _ _ (by omega) hp14_2⟩ ?_)
  first | omega | (simp<;>omega)
 have F20:(c:Int)=0:=by simpa using J15
 obtain rfl:c=0:=by omega
 refine zz 5 ?_;refine zr' (v:= .tuple #[]) ?_;exact⟨C14.upd,_,rfl,rfl,_,_,C14.get 2 rfl,D1,by have:=hp14_2;simpa using this⟩
end Go.Proofs.YtdfmdiakjdggbaaGreatDoor
namespace Go.Proofs.YtdfmdiakjdggbaaGreatDoor
open Go Go.Gv Go.RowKit IntKind
set_option maxRecDepth 100000
set_option maxHeartbeats 1000000
theorem qNj(w:World)(X:Hid)(hX:∀k o,X k o→k<w.heap.size)(x:Nat)(hx:x<18446744073709551616):Calls Tryz.prog 174 #[.int .u64 (x:Int)] w (Ret E0 w fun w' v=>∃l ad len cap,zGi w w' 214 v l ad len cap∧zQ l∧val l=x):=by
 refine zen Tryz.func174 ?_;have C0:St E0 w X w X []:=St.start hX;refine zz 9 ?_;refine zs 4 (v:= .int .u32 (IntKind.u32.wrap ((x:Int)))) (v':= .int .u32 ((x % 4294967296:Nat):Int)) (zO (by rw[jS];omega)) ?_
 refine zz 2 ?_;refine zs 6 (v:= .int .u64 (Int.fdiv ((x:Int)) (2^32))) (v':= .int .u64 ((x / 4294967296:Nat):Int)) (zO (by rw[xH _ 32 (c:=4294967296) (by decide) (by decide)];omega)) ?_
 refine zz 1 ?_;refine zs 7 (v:= .int .u32 (IntKind.u32.wrap (((x / 4294967296:Nat):Int)))) (v':= .int .u32 ((x / 4294967296 % 4294967296:Nat):Int)) (zO (by rw[jS];omega)) ?_
 refine zn (fun b=> .slice (some ⟨b,0,none⟩) 2 2) (.cells #[.int .u32 ((x % 4294967296:Nat):Int),.int .u32 ((x / 4294967296 % 4294967296:Nat):Int)] 214 (0,0)) C0 fun b3 w3 Y3 C3 y3 P3=>?_;have D5:zS 2 2 #[.int .u32 ((x % 4294967296:Nat):Int),.int .u32 ((x / 4294967296 % 4294967296:Nat):Int)] [x % 4294967296,x / 4294967296 % 4294967296]:=zS.of [x % 4294967296,x / 4294967296 % 4294967296] (by intro y hy;simp at hy;omega) (by simp[maxLen]) (by simp[U32]) (by simp)
 refine zc C3 (cZ _ X0 (zT _) _ _ _ ([x % 4294967296,x / 4294967296 % 4294967296]) (zS.limbs (Y:=X0) D5 (C3.get 0 rfl) (fun _ h=>h.elim))) ?_ (vs:=#[.slice (some ⟨b3,0,none⟩) 2 2]);rintro v6 w6 C6 y6 P6 rfl;refine zz 4 ?_;refine zr' (v:= .slice (some ⟨b3,0,none⟩) (qI ([x % 4294967296,x / 4294967296 % 4294967296])) 2) ?_;exact⟨C6.upd,_,rfl,Go.Gv.trimmed [x % 4294967296,x / 4294967296 % 4294967296],_,_,_,⟨rfl,(jB _).symm,xZ D5.lt,.inr ⟨_,_,rfl,C6.own_ge 0 rfl,C6.get 0 rfl,D5.trimmed⟩⟩,qM _,by rw[qY];simp only[val];omega⟩
theorem wY(w:World)(g m cap:Nat)(cur:Array Value)(l:List Nat)(hg:w.heap[g]?=some (.cells cur 214 (0,0)))(hrow:zS m cap cur l)(hm:m≤1099511627776)
    (ad2:Option Addr) (len2 Q2:Nat) (l2:List Nat) (h2:zL (rd w (HG g)) ad2 len2 Q2 l2) (hll:l2.length≤l.length) (hle:val l2≤val l):
    Calls Tryz.prog 226 #[.slice (some ⟨g,0,none⟩) m cap,.slice ad2 len2 Q2] w (Ret (·=g) w fun w' v=>∃cur' l',v= .slice (some ⟨g,0,none⟩) l'.length cap∧w'.heap[g]?=some (.cells cur' 214 (0,0))∧zS l'.length cap cur' l'∧zQ l'∧val l'=val l-val l2):=by
 obtain rfl:=h2.hlen;have hcap2:=h2.hcap;have hbig2:=h2.hbig;refine zen Tryz.func226 ?_;have hX:∀k o,HG g k o→k<w.heap.size:=by rintro k o rfl;exact(Array.getElem?_eq_some_iff.1 hg).1
 have C0:St (·=g) w (HG g) w (HG g) [(g,.cells cur 214 (0,0))]:=St.startE g _ hX hg (fun _=>rfl);have hlen:=hrow.len;refine zz 19 ?_;refine zlp Tryz.f226 [] [1,1,0,1,0] (fun((j,c):Nat×Nat)=>[(0,.slice (some ⟨g,0,none⟩) m cap),(1,.slice ad2 l2.length Q2),(5,.int .u32 (c:Int)),(9,.slice ad2 l2.length Q2),(10,.int .i64 (l2.length:Int)),(11,.int .i64 (j:Int))]) (fun(j,c)w1=>∃(Y1:Hid)(T1:Array Value)(l1:List Nat),St (·=g) w (HG g) w1 Y1 [(g,.cells T1 214 (0,0))]∧Le (rd w (HG g)) (rd w1 Y1)∧(zS m cap T1 l1)∧(j≤l2.length)∧(c≤1)∧(val l1+val (l2.take j)=val l+c*4294967296^j)) (fun(j,c)=>l2.length-j) (0,0) ?_ ?_
 ·
  refine⟨_,cur,l,C0,Le.refl _,hrow,Nat.zero_le _,by omega,by simp[val]⟩
 rintro⟨j,c⟩ w2 K2 Z2 ⟨Y2,T1,l1,C2,y2,hp2_0,hp2_1,hp2_2,hp2_3⟩;have D1:=hp2_0;have hlen1:=D1.len;have hlt1:=D1.getD_lt j;have hlt2:=h2.getD_lt j;have J1:=hp2_2;refine zz 6 ?_;refine zt 12 (p:=(j:Int)<(l2.length:Int)) (fun F3=>?_) (fun F3=>?_)
 ·
  obtain⟨bk4,of5,rfl,_⟩:=h2.addr (by omega)
  refine zz 8 ?_;refine zi (b:=bk4) (off:=of5) (len:=l2.length) (cap:=Q2) (kd:= .i64) (i:=(j:Int)) 1 (of5+j) ?_;refine zl ((h2.cell (i:=j) (by omega)).mono y2).cells ?_
  refine zz 9 ?_;refine zi (b:=g) (off:=0) (len:=m) (cap:=cap) (kd:= .i64) (i:=(j:Int)) 1 j ?_;refine zl (ad:=⟨g,j,none⟩) (C2.rowCells 0 rfl D1 (by have:=D1.len;(try simp only[List.length_set]at *);omega)) ?_
  refine zz 2 ?_;refine zc C2 (qLh _ _ C2.lt ((l1.getD j 0:Nat):Int) ((l2.getD j 0:Nat):Int) (c:Int) ⟨by omega,by omega⟩ ⟨by omega,by omega⟩ ⟨by omega,by omega⟩) ?_
  rintro v7 w7 C7 y7 P7 rfl;refine zz 3 ?_;refine zi (b:=g) (off:=0) (len:=m) (cap:=cap) (kd:= .i64) (i:=(j:Int)) 1 j ?_;refine zop (at1 [K2] Tryz.f226 [1,1,0,1,0,0,1,1,0,0,1]) 13 (fun a8 _ G8 hz8=>kZ (y:=(aU (l1.getD j 0) (l2.getD j 0) c)) (k:=j) (e:=((((l1.getD j 0:Nat):Int)-((l2.getD j 0:Nat):Int)) % 4294967296-(c:Int)) % 4294967296) 0 G8 C7 (by unfold aU;omega) rfl D1 (by have:=D1.len;(try simp only[List.length_set]at *);omega) (zUu _ _ _) ?_)
  intro T9 w9 D9 C9 y9;refine hz8 G8 ?_;refine zz 1 ?_;refine zs 5 (v:= .int .u32 (if((l1.getD j 0:Nat):Int)<((l2.getD j 0:Nat):Int)+(c:Int)then 1 else 0)) (v':= .int .u32 ((brw (l1.getD j 0) (l2.getD j 0) c:Nat):Int)) (zO (by unfold brw;(repeat' split)<;>omega)) ?_
  refine zz 5 ?_;refine zw 29 (x:=(j:Int)+1) ?_;refine zz 2 ?_;refine yL (fun a h=>Z2 ((j+1,brw (l1.getD j 0) (l2.getD j 0) c)) _ a h ⟨_,T9,(l1.set j (aU (l1.getD j 0) (l2.getD j 0) c)),C9,(Le3 y2 y7 y9),D9,by omega,zYo _ _ _,qJe _ _ _ _ _ (by omega) (by omega) hlt1 hlt2 J1 hp2_3⟩ ?_)
  first | omega | (simp<;>omega)
 refine zz 15 ?_;have htot:=hp2_3;have hj1:=hp2_1;obtain rfl:j=l2.length:=by omega
 rw[List.take_length]at htot;refine zlp Tryz.f226 [K2] [1,1,1,0,1,0] (fun((j,c):Nat×Nat)=>[(0,.slice (some ⟨g,0,none⟩) m cap),(5,.int .u32 (c:Int)),(8,.int .i64 (j:Int))]) (fun(j,c)w1=>∃(Y1:Hid)(T1:Array Value)(l1:List Nat),St (·=g) w (HG g) w1 Y1 [(g,.cells T1 214 (0,0))]∧Le (rd w2 Y2) (rd w1 Y1)∧(zS m cap T1 l1)∧(c≤1)∧(val l1+val l2=val l+c*4294967296^j)) (fun(j,c)=>m-j) (l2.length,c) ?_ ?_
 ·
  refine⟨_,T1,l1,C2,Le.refl _,D1,hp2_2,htot⟩
 rintro⟨j,c⟩ w10 K10 Z10 ⟨Y10,T1,l1,C10,y10,hp10_0,hp10_1,hp10_2⟩;have D1:=hp10_0;have hlen1:=D1.len;have hlt1:=D1.getD_lt j;have J1:=hp10_1;refine zz 7 ?_;refine zb 33 (b:=((c:Int)!=0)) (fun J11=>?_) (fun J11=>?_)
 ·
  have F12:(c:Int)≠0:=by simpa using J11
  have hjm:j<m:=(by have h3:=yH D1.lt;rw[hlen1]at h3;refine zIq (i:=j) (len:=m) (v:=val l1) ?_ h3;have h1:=hp10_2;obtain rfl:c=1:=(by omega);omega)
  refine zz 10 ?_;refine zi (b:=g) (off:=0) (len:=m) (cap:=cap) (kd:= .i64) (i:=(j:Int)) 1 j ?_;refine zl (ad:=⟨g,j,none⟩) (C10.rowCells 0 rfl D1 (by have:=D1.len;(try simp only[List.length_set]at *);omega)) ?_
  refine zz 1 ?_;refine zc C10 (qLh _ _ C10.lt ((l1.getD j 0:Nat):Int) 0 (c:Int) ⟨by omega,by omega⟩ ⟨by omega,by omega⟩ ⟨by omega,by omega⟩) ?_
  rintro v14 w14 C14 y14 P14 rfl;refine zz 3 ?_;refine zi (b:=g) (off:=0) (len:=m) (cap:=cap) (kd:= .i64) (i:=(j:Int)) 1 j ?_;refine zop (at1 [K2,K10] Tryz.f226 [1,1,1,0,1,0,0,1,0,0]) 12 (fun a15 _ G15 hz15=>kZ (y:=(aU (l1.getD j 0) 0 c)) (k:=j) (e:=((((l1.getD j 0:Nat):Int)-(0:Int)) % 4294967296-(c:Int)) % 4294967296) 0 G15 C14 (by unfold aU;omega) rfl D1 (by have:=D1.len;(try simp only[List.length_set]at *);omega) (zUu _ _ _) ?_)
  intro T16 w16 D16 C16 y16;refine hz15 G15 ?_;refine zz 1 ?_;refine zs 5 (v:= .int .u32 (if((l1.getD j 0:Nat):Int)<(0:Int)+(c:Int)then 1 else 0)) (v':= .int .u32 ((brw (l1.getD j 0) 0 c:Nat):Int)) (zO (by unfold brw;(repeat' split)<;>omega)) ?_
  refine zz 6 ?_;refine zw 35 (x:=(j:Int)+1) ?_;refine zz 2 ?_;refine yL (fun a h=>Z10 ((j+1,brw (l1.getD j 0) 0 c)) _ a h ⟨_,T16,(l1.set j (aU (l1.getD j 0) 0 c)),C16,(Le3 y10 y14 y16),D16,zYo _ _ _,qEb _ _ _ _ _ (by omega) hlt1 J1 hp10_2⟩ ?_)
  first | omega | (simp<;>omega)
 have F17:(c:Int)=0:=by simpa using J11
 have J0:c=0:=by omega
 refine zz 9 ?_;refine zc C10 (cZ _ X0 (zT _) _ _ _ l1 (zS.limbs (Y:=X0) D1 (C10.get 0 rfl) (fun _ h=>h.elim))) ?_ (vs:=#[.slice (some ⟨g,0,none⟩) m cap]);rintro v19 w19 C19 y19 P19 rfl;refine zz 4 ?_;refine zr' (v:= .slice (some ⟨g,0,none⟩) (qI l1) cap) ?_;exact⟨C19.upd,_,rfl,T1,Go.Gv.trimmed l1,by rw[jB],C19.get 0 rfl,by rw[jB];exact D1.trimmed,qM _,by rw[qY];have h9:=hp10_2;rw[J0]at h9;omega⟩
set_option maxHeartbeats 1000000
theorem zBw(l bx:Nat)(ad:Option Addr)(len cap:Nat)(xs:List Nat)(hlen:len=xs.length)(hbig:len≤1099511627776)(J:Nat→World→Prop)(R:World→Prop)
    (hread:∀k w,J k w→At (rd w X0) ⟨bx,0,none⟩ [.slice ad len cap])
    (hel:∀k w,J (k+1) w→k<len→∃b off,ad=some ⟨b,off,none⟩∧At (rd w X0) ⟨b,off+k,none⟩ [.int .u32 ((xs.getD k 0:Nat):Int)])
    (hY:∀k w,k<len→J (k+1) w→YieldAt (FF none) 0 Tryz.prog l #[.int .i64 (k:Int),.int .u32 ((xs.getD k 0:Nat):Int)] w (kP (J k) R))
    (h0:∀w,J 0 w→R w) (w:World) (hJ:J len w):Calls Tryz.prog 280 #[.func (.yield l) #[] #[],.pointer (some ⟨bx,0,none⟩)] w (fun e w'=>(∃v,e= .returned v)∧R w'):=by
 refine zDb (n:=19) (vs:=[.func (.yield l) #[] #[],.pointer (some ⟨bx,0,none⟩)]) Tryz.func280 rfl rfl rfl kr (fun a0 G0=>?_);have G0:Fr 19 a0 [(0,.func (.yield l) #[] #[]),(1,.pointer (some ⟨bx,0,none⟩))]:=G0;have C0:St E0 w X0 w X0 []:=St.start (zT _);refine zG (fun K1 Z1=>?_);refine zC ?_;refine qK G0 kr (zE (d:=4) (v:= .slice ad len cap) G0 kr (zB (t:=26) (g:=false) (vs:=[.slice ad len cap]) (ad:=⟨bx,0,none⟩) rfl kr kr ir ((hread _ _ hJ)).cells) ?_);intro a2 G2;refine zD 2 [(6,.int .i64 (i64.wrap ((len:Int)-1))),(5,.int .i64 (len:Int))] G2 kr kr (fun a3 G3=>?_);have G4:=G3.set 6 (v':= .int .i64 ((len:Int)-1)) kr rfl (zO (bA (by omega) (by omega)))
 refine zD 1 [(3,.int .i64 ((len:Int)-1))] G4 kr kr (fun a5 G5=>?_);refine zH ?_;refine zA (Z1 _ _ ?_);refine jX ?_;refine lC (fun(k:Nat)a w1=>Fr 19 a [(0,.func (.yield l) #[] #[]),(1,.pointer (some ⟨bx,0,none⟩)),(3,.int .i64 ((k:Int)-1))]∧J k w1∧k≤len) (fun k=>k) len ?_ ?_
 ·
  exact⟨G5.as [0,1,3] kr kr,hJ,Nat.le_refl _⟩
 rintro k a6 w6 ⟨G6,hJ6,hk⟩;have C6:St E0 w6 X0 w6 X0 []:=St.start (zT _);refine zG (fun K7 Z7=>?_);refine zG (fun K8 Z8=>?_);refine zC ?_;refine zD 2 [(8,.bool (decide (((k:Int)-1)≥0))),(7,.int .i64 ((k:Int)-1))] G6 kr kr (fun a9 G9=>?_);refine zH ?_;refine zA (Z8 _ _ ?_);refine sK (decide (((k:Int)-1)≥0)) G9 kr kr (fun J10=>?_) (fun J10=>?_)
 ·
  have G11:=G9.set 8 (v':= .bool true) kr rfl (zK J10);have F12:((k:Int)-1)≥0:=of_decide_eq_true J10;obtain⟨j,rfl⟩:∃j,k=j+1:=⟨k-1,by omega⟩
  have G13:=G11.set 3 (v:= .int .i64 (((j+1:Nat):Int)-1)) (v':= .int .i64 (j:Int)) kr kr (zO (by omega))
  obtain⟨b,off,rfl,hel1⟩:=hel j _ hJ6 (by omega)
  refine xV ?_;refine zA (Z7 _ _ ?_);refine zG (fun K14 Z14=>?_);refine jX ?_;refine zG (fun K15 Z15=>?_);refine zC ?_;refine zD 2 [(12,.int .i64 (j:Int)),(11,.func (.yield l) #[] #[])] G13 kr kr (fun a16 G16=>?_);refine qK G16 kr (zE (d:=13) (v:= .slice (some ⟨b,off,none⟩) len cap) G16 kr (zB (t:=26) (g:=false) (vs:=[.slice (some ⟨b,off,none⟩) len cap]) (ad:=⟨bx,0,none⟩) rfl kr kr ir ((hread _ _ hJ6)).cells) ?_);intro a17 G17;refine zD 1 [(14,.int .i64 (j:Int))] G17 kr kr (fun a18 G18=>?_);refine qK G18 kr (zE (d:=15) (v:= .pointer (some ⟨b,off+j,none⟩)) G18 kr (qQ (t:=26) (e:=214) (b:=b) (off:=off) (len:=len) (cap:=cap) (kd:= .i64) (i:=(j:Int)) (g:=false) (m:=1) (off':=off+j) rfl kr kr kr kr (by omega) (by omega) (by first | rfl | omega | (simp;done) | (simp;omega)) _) ?_)
  intro a19 G19;refine qK G19 kr (zE (d:=16) (v:= .int .u32 ((xs.getD j 0:Nat):Int)) G19 kr (zB (t:=214) (g:=false) (vs:=[.int .u32 ((xs.getD j 0:Nat):Int)]) (ad:=⟨b,off+j,none⟩) rfl kr kr ir (hel1).cells) ?_);intro a20 G20;refine zIz (d:=17) (l:=l) (vs:=#[.int .i64 (j:Int),.int .u32 ((xs.getD j 0:Nat):Int)]) G20 kr rfl kr kr (hY j _ (by omega) hJ6) (fun _ _ h=>h.ret) ?_
  rintro v21 w21 ⟨bb21,hv21,hJ21,hR21⟩ a22 G22;cases hv21;have C21:St E0 w21 X0 w21 X0 []:=St.start (zT _);refine zD 1 [(18,.bool (!bb21))] G22 kr kr (fun a23 G23=>?_);refine zH ?_;refine zA (Z15 _ _ ?_);refine sK (!bb21) G23 kr kr (fun J24=>?_) (fun J24=>?_)
  ·
   have G25:=G23.set 18 (v':= .bool true) kr rfl (zK J24);have F26:bb21=false:=by simpa using J24
   have hbb:=F26;refine rQ ?_;refine gI ?_;refine pO ?_;refine pO ?_;refine gI ?_;refine zSp (v:= .tuple #[]) (rs:=[]) G25 kr Res.nil kr ?_;exact⟨⟨_,rfl⟩,(hR21 hbb)⟩
  have G27:=G23.set 18 (v':= .bool false) kr rfl (zK J24);have F28:bb21=true:=by simpa using J24
  have hbb:=F28;refine xV ?_;refine jP ?_;refine zA (Z14 _ _ ?_);refine zC ?_;refine zD 2 [(10,.int .i64 (i64.wrap ((j:Int)-1))),(9,.int .i64 (j:Int))] G27 kr kr (fun a29 G29=>?_);have G30:=G29.set 10 (v':= .int .i64 ((j:Int)-1)) kr rfl (zO (bA (by omega) (by omega)))
  refine zD 1 [(3,.int .i64 ((j:Int)-1))] G30 kr kr (fun a31 G31=>?_);refine zH ?_;refine zA ?_;exact⟨j,⟨G31.as [0,1,3] kr kr,hJ21 hbb,by omega⟩,by show j<j+1;omega⟩
 have G32:=G9.set 8 (v':= .bool false) kr rfl (zK J10);have F33:¬(((k:Int)-1)≥0):=of_decide_eq_false J10;have hk0:k=0:=by omega
 refine dP ?_;refine wN ?_;refine wN ?_;refine rH ?_;refine zMo (v:= .tuple #[]) (rs:=[]) G32 kr Res.nil kr ?_;exact⟨⟨_,rfl⟩,(h0 _ (hk0▸hJ6))⟩
set_option maxHeartbeats 1000000
theorem zDm(w:World)(X:Hid)(hX:∀k o,X k o→k<w.heap.size)(ad:Option Addr)(len cap:Nat):Calls Tryz.prog 263 #[.slice ad len cap] w (Ret E0 w fun w' v=>∃bx,v= .func (.func 280) #[] #[.pointer (some ⟨bx,0,none⟩)]∧w.heap.size≤bx∧w'.heap[bx]?=some (.cells #[.slice ad len cap] 26 (0,0))):=by
 refine zen Tryz.func263 ?_;have C0:St E0 w X w X []:=St.start hX;refine zz 2 ?_;refine zn pn (.cells #[.slice ad len cap] 26 (0,0)) C0 fun b3 w3 Y3 C3 y3 P3=>?_;refine zz 10 ?_;refine zr' (v:= .func (.func 280) #[] #[.pointer (some ⟨b3,0,none⟩)]) ?_;exact⟨C3.upd,_,rfl,_,rfl,C3.own_ge 0 rfl,C3.get 0 rfl⟩
theorem mM{x y:Nat}(h:qC (x:Int) (y:Int)=0):x=y:=by unfold qC at h;(repeat' split at h)<;>omega
theorem tQ{x y:Nat}(h:x<y):qC (x:Int) (y:Int)= -1:=by unfold qC;rw[if_pos (by omega)]
theorem tN{x y:Nat}(h:y<x):qC (x:Int) (y:Int)=1:=by unfold qC;rw[if_neg (by omega),if_pos (by omega)]
theorem zAj(x:Int):qC x x=0:=by unfold qC;rw[if_neg (by omega),if_neg (by omega)]
theorem zWo{l l2:List Nat}(h1:∀x∈l,x<4294967296)(h2:∀x∈l2,x<4294967296)(c1:zQ l)(c2:zQ l2)(h:qC (l.length:Int) (l2.length:Int)≠0):qC (l.length:Int) (l2.length:Int)=qC (val l) (val l2):=by
 rcases Nat.lt_trichotomy l.length l2.length with e | e | e
 ·rw[tQ e,tQ (zCh h1 c2 e)]
 ·rw[e,zAj]at h;exact absurd rfl h
 ·rw[tN e,tN (zCh h2 c1 e)]
theorem zWp{l l2:List Nat}(h1:∀x∈l,x<4294967296)(h2:∀x∈l2,x<4294967296)(hlen:l.length=l2.length)(k:Nat)(hk:k<l.length)(heq:∀j,k+1≤j→j<l.length→l.getD j 0=l2.getD j 0)
  (h:qC ((l.getD k 0:Nat):Int) ((l2.getD k 0:Nat):Int)≠0):qC ((l.getD k 0:Nat):Int) ((l2.getD k 0:Nat):Int)=qC (val l) (val l2):=by
 rcases Nat.lt_trichotomy (l.getD k 0) (l2.getD k 0)with e | e | e
 ·rw[tQ e,tQ (zUy h1 hlen k hk heq e)]
 ·rw[e,zAj]at h;exact absurd rfl h
 ·rw[tN e,tN (zUy h2 hlen.symm k (by omega) (fun j h1 h2=>(heq j h1 (by omega)).symm) e)]
theorem qCu{l l2:List Nat}(hlen:l.length=l2.length)(heq:∀j,0≤j→j<l.length→l.getD j 0=l2.getD j 0):(0:Int)=qC (val l) (val l2):=by rw[qQz hlen heq,zAj]
theorem aL(w:World)(X:Hid)(hX:∀k o,X k o→k<w.heap.size)(ad:Option Addr)(len cap:Nat)(l:List Nat)(h:zL (rd w X) ad len cap l)(ad2:Option Addr)(len2 Q2:Nat)(l2:List Nat)(h2:zL (rd w X) ad2 len2 Q2 l2)(c1:zQ l)(c2:zQ l2)(hm:len≤1099511627776):Calls Tryz.prog 225 #[.slice ad len cap,.slice ad2 len2 Q2] w (Ret E0 w fun _ v=>v= .int .i64 (qC (val l) (val l2))):=by
 obtain rfl:=h.hlen;obtain rfl:=h2.hlen;have hcap:=h.hcap;have hbig:=h.hbig;have hcap2:=h2.hcap;have hbig2:=h2.hbig;refine zKb (n:=30) (vs:=[.slice ad l.length cap,.slice ad2 l2.length Q2]) Tryz.func225 rfl rfl rfl kr (fun a0 G0=>?_);have G0:Fr 30 a0 [(0,.slice ad l.length cap),(1,.slice ad2 l2.length Q2)]:=G0;have C0:St E0 w X w X []:=St.start hX;refine zG (fun K1 Z1=>?_);refine zC ?_;refine qK G0 kr (nN (d:=3) (fun b=> .pointer (some ⟨b,0,none⟩)) (.cells #[.slice ad2 l2.length Q2] 26 (0,0)) G0 kr C0 kw ?_);intro b2 w2 Y2 C2 y2 P2 a3 G3;refine qK G3 kr (nN (d:=4) (fun b=> .pointer (some ⟨b,0,none⟩)) (.cells #[.int .i64 0] 3 (0,0)) G3 kr C2 kw ?_);intro b4 w4 Y4 C4 y4 P4 a5 G5;refine zH ?_;refine zA (Z1 _ _ ?_);refine zG (fun K6 Z6=>?_);refine zG (fun K7 Z7=>?_);refine zC ?_;refine zD 2 [(10,.int .i64 (l.length:Int)),(9,.slice ad l.length cap)] G5 kr kr (fun a8 G8=>?_);refine qK G8 kr (zE (d:=11) (v:= .slice ad2 l2.length Q2) G8 kr (zB (t:=26) (g:=false) (vs:=[.slice ad2 l2.length Q2]) (ad:=⟨b2,0,none⟩) rfl kr kr ir (C4.cells 1 rfl rfl)) ?_);intro a9 G9;refine zD 1 [(12,.int .i64 (l2.length:Int))] G9 kr kr (fun a10 G10=>?_);refine qK G10 kr (jY (d:=13) (f:=171) (cap:=#[]) (vs:=#[.int .i64 (l.length:Int),.int .i64 (l2.length:Int)]) G10 kr C4 rfl kr kr (fun w=>Tryz.call171 _ w) (zMx _ _ C4.lt (l.length:Int) (l2.length:Int)) ?_);rintro v11 w11 C11 y11 P11 rfl a12 G12;refine zD 1 [(5,.int .i64 (qC (l.length:Int) (l2.length:Int)))] G12 kr kr (fun a13 G13=>?_);refine zH ?_;refine zA (Z7 _ _ ?_);refine zG (fun K14 Z14=>?_);refine zC ?_;refine zD 2 [(15,.bool ((qC (l.length:Int) (l2.length:Int))!=0)),(14,.int .i64 (qC (l.length:Int) (l2.length:Int)))] G13 kr kr (fun a15 G15=>?_);refine zH ?_;refine zA (Z14 _ _ ?_);refine sK ((qC (l.length:Int) (l2.length:Int))!=0) G15 kr kr (fun J16=>?_) (fun J16=>?_);have G17:=G15.set 15 (v':= .bool true) kr rfl (zK J16);have F18:(qC (l.length:Int) (l2.length:Int))≠0:=by simpa using J16
 refine zG (fun K19 Z19=>?_);refine zC ?_;refine zD 1 [(16,.int .i64 (qC (l.length:Int) (l2.length:Int)))] G17 kr kr (fun a20 G20=>?_);refine qK G20 kr (zF (t:=3) (b:=b4) (off:=0) (c':=#[.int .i64 (qC (l.length:Int) (l2.length:Int))]) (g:=false) (m:=1) 0 _ G20 kr C11 rfl kr rfl kr kr kr rfl (by first | decide | (simp;done)) kr rfl ?_)
 intro w21 C21 y21;refine zH ?_;refine zA (Z19 _ _ ?_);refine rQ ?_;refine pO ?_;refine qOh (v:= .int .i64 (qC (l.length:Int) (l2.length:Int))) (rs:=[.cell 4 3]) G20 kr (Res.cell (ad:=⟨b4,0,none⟩) (cs:=[.int .i64 (qC (l.length:Int) (l2.length:Int))]) (g:=false) kr kr kr ir (C21.cells 0 rfl rfl) Res.nil) kr ?_;exact⟨C21.upd,_,rfl,zO (zWo h.hlt h2.hlt c1 c2 F18)⟩;have G22:=G15.set 15 (v':= .bool false) kr rfl (zK J16);have F23:(qC (l.length:Int) (l2.length:Int))=0:=by simpa using J16
 have hlen2:=mM F23;refine xV ?_;refine zA (Z6 _ _ ?_);refine zG (fun K24 Z24=>?_);refine zG (fun K25 Z25=>?_);refine zC ?_;refine zD 1 [(17,.slice ad l.length cap)] G22 kr kr (fun a26 G26=>?_);refine qK G26 kr (jY (d:=18) (f:=263) (cap:=#[]) (vs:=#[.slice ad l.length cap]) G26 kr C11 rfl kr kr (fun w=>Tryz.call263 _ w) (zDm _ _ C11.lt ad l.length cap) ?_);rintro v27 w27 C27 y27 P27 ⟨bx27,rfl,hge27,hget27⟩ a28 G28;have C29:=St.adopt C27 (fun o h=>Nat.not_lt.2 hge27 (C11.lt _ _ h)) (Nat.le_trans C11.upd.size hge27) hget27;have y29:=Le.adopt y27 hge27;refine zH ?_;refine zA (Z25 _ _ ?_);refine jX ?_;refine zEj (f:=280) (caps:=#[.pointer (some ⟨bx27,0,none⟩)]) G28 C29 kr kr (fun args w=>Tryz.call280 args w) fun rec30 l30 b30 w30 Y30 hr30 C30 y30 P30=>?_;have G31:=zAs b30 G28;refine zBw l30 bx27 ad l.length cap l rfl (by omega) (fun k w'=>∃(Y':Hid),St E0 w X w' Y' [(l30,.loop rec30),(b30,.deferred (some [])),(bx27,.cells #[.slice ad l.length cap] 26 (0,0)),(b4,.cells #[.int .i64 0] 3 (0,0)),(b2,.cells #[.slice ad2 l2.length Q2] 26 (0,0))]∧Le (rd w30 Y30) (rd w' Y')∧(∀j,k≤j→j<l.length→l.getD j 0=l2.getD j 0)) _ ?_ ?_ ?_ ?_ _ ?_
 rintro k w32 ⟨Y32,C32,y32,hp32_0⟩;exact C32.at0 2 rfl rfl;rintro k w33 ⟨Y33,C33,y33,hp33_0⟩;intro hk;obtain⟨b,off,rfl,_⟩:=h.addr (by omega)
 exact⟨b,off,rfl,((h.cell (i:=k) (by omega)).mono (Le6 y2 y4 y11 y29 y30 y33)).mono Le.x0⟩
 intro k w34 hk;rintro⟨Y34,C34,y34,hp34_0⟩;refine zGf (p:=19) (q:=20) hr30 G28 C34 kr kr (fun a35 G35=>?_);obtain⟨bk36,of37,rfl,_⟩:=h2.addr (by omega)
 refine zG (fun K38 Z38=>?_);refine zC ?_;refine zD 1 [(6,.int .i64 (k:Int))] G35 kr kr (fun a39 G39=>?_);refine zH ?_;refine zA (Z38 _ _ ?_);refine zC ?_;refine zD 1 [(7,.int .u32 ((l.getD k 0:Nat):Int))] G39 kr kr (fun a40 G40=>?_);refine zH ?_;refine zA ?_;refine zAe hr30 C34 (fun w41 C41 y41=>?_);refine jX ?_;refine zG (fun K42 Z42=>?_);refine zC ?_;refine zD 1 [(21,.int .u32 ((l.getD k 0:Nat):Int))] G40 kr kr (fun a43 G43=>?_);refine qK G43 kr (zE (d:=22) (v:= .slice (some ⟨bk36,of37,none⟩) l2.length Q2) G43 kr (zB (t:=26) (g:=false) (vs:=[.slice (some ⟨bk36,of37,none⟩) l2.length Q2]) (ad:=⟨b2,0,none⟩) rfl kr kr ir (C41.cells 4 rfl rfl)) ?_);intro a44 G44;refine zD 1 [(23,.int .i64 (k:Int))] G44 kr kr (fun a45 G45=>?_);refine qK G45 kr (zE (d:=24) (v:= .pointer (some ⟨bk36,of37+k,none⟩)) G45 kr (qQ (t:=26) (e:=214) (b:=bk36) (off:=of37) (len:=l2.length) (cap:=Q2) (kd:= .i64) (i:=(k:Int)) (g:=false) (m:=1) (off':=of37+k) rfl kr kr kr kr (by omega) (by omega) (by first | rfl | omega | (simp;done) | (simp;omega)) _) ?_)
 intro a46 G46;refine qK G46 kr (zE (d:=25) (v:= .int .u32 ((l2.getD k 0:Nat):Int)) G46 kr (zB (t:=214) (g:=false) (vs:=[.int .u32 ((l2.getD k 0:Nat):Int)]) (ad:=⟨bk36,of37+k,none⟩) rfl kr kr ir ((h2.cell (i:=k) (by omega)).mono (Le7 y2 y4 y11 y29 y30 y34 y41)).cells) ?_)
 intro a47 G47;refine qK G47 kr (jY (d:=26) (f:=264) (cap:=#[]) (vs:=#[.int .u32 ((l.getD k 0:Nat):Int),.int .u32 ((l2.getD k 0:Nat):Int)]) G47 kr C41 rfl kr kr (fun w=>Tryz.call264 _ w) (zDv _ _ C41.lt ((l.getD k 0:Nat):Int) ((l2.getD k 0:Nat):Int)) ?_);rintro v48 w48 C48 y48 P48 rfl a49 G49;refine zD 1 [(8,.int .i64 (qC ((l.getD k 0:Nat):Int) ((l2.getD k 0:Nat):Int)))] G49 kr kr (fun a50 G50=>?_);refine zH ?_;refine zA (Z42 _ _ ?_);refine zG (fun K51 Z51=>?_);refine zC ?_;refine zD 2 [(28,.bool ((qC ((l.getD k 0:Nat):Int) ((l2.getD k 0:Nat):Int))!=0)),(27,.int .i64 (qC ((l.getD k 0:Nat):Int) ((l2.getD k 0:Nat):Int)))] G50 kr kr (fun a52 G52=>?_);refine zH ?_;refine zA (Z51 _ _ ?_);refine sK ((qC ((l.getD k 0:Nat):Int) ((l2.getD k 0:Nat):Int))!=0) G52 kr kr (fun J53=>?_) (fun J53=>?_);have G54:=G52.set 28 (v':= .bool true) kr rfl (zK J53);have F55:(qC ((l.getD k 0:Nat):Int) ((l2.getD k 0:Nat):Int))≠0:=by simpa using J53
 refine zG (fun K56 Z56=>?_);refine zC ?_;refine zD 1 [(29,.int .i64 (qC ((l.getD k 0:Nat):Int) ((l2.getD k 0:Nat):Int)))] G54 kr kr (fun a57 G57=>?_);refine qK G57 kr (zF (t:=3) (b:=b4) (off:=0) (c':=#[.int .i64 (qC ((l.getD k 0:Nat):Int) ((l2.getD k 0:Nat):Int))]) (g:=false) (m:=1) 3 _ G57 kr C48 rfl kr rfl kr kr kr rfl (by first | decide | (simp;done)) kr rfl ?_)
 intro w58 C58 y58;refine zH ?_;refine zA (Z56 _ _ ?_);refine rQ ?_;refine gI ?_;refine qRc C58 (fun w59 C59 y59=>kP.stop (xD.ret C59 (fun w60 C60 y60=>?_)));refine gI ?_;refine pO ?_;refine zKc (v:= .int .i64 (qC ((l.getD k 0:Nat):Int) ((l2.getD k 0:Nat):Int))) (rs:=[.cell 4 3]) (vs:=[.int .i64 (qC ((l.getD k 0:Nat):Int) ((l2.getD k 0:Nat):Int))]) 1 G31 C60 rfl kr kr (fun w61 C61 y61=>?_);refine⟨(Res.cell (ad:=⟨b4,0,none⟩) (cs:=[.int .i64 (qC ((l.getD k 0:Nat):Int) ((l2.getD k 0:Nat):Int))]) (g:=false) kr kr kr ir (C61.cells 3 rfl rfl) Res.nil),?_⟩;exact⟨C61.upd,_,rfl,zO (zWp h.hlt h2.hlt hlen2 k (by omega) hp34_0 F55)⟩
 have G62:=G52.set 28 (v':= .bool false) kr rfl (zK J53);have F63:(qC ((l.getD k 0:Nat):Int) ((l2.getD k 0:Nat):Int))=0:=by simpa using J53
 refine xV ?_;refine jP ?_;refine nV hr30 C48 (fun w64 C64 y64=>kP.next ?_);exact⟨_,C64,(Le4 y34 y41 y48 y64),fun j hj hl=>(by rcases Nat.eq_or_lt_of_le hj with rfl | h9;exact mM F63;exact hp34_0 j h9 hl)⟩
 rintro w65 ⟨Y65,C65,y65,hp65_0⟩;refine xD.norm hr30 C65 (fun w66 C66 y66=>?_);refine jP ?_;refine zA (Z24 _ _ ?_);refine zG (fun K67 Z67=>?_);refine zC ?_;refine qK G31 kr (zF (t:=3) (b:=b4) (off:=0) (c':=#[.int .i64 0]) (g:=false) (m:=1) 3 _ G31 kr C66 rfl kr rfl kr kr kr rfl (by first | decide | (simp;done)) kr rfl ?_)
 intro w68 C68 y68;refine zH ?_;refine zA (Z67 _ _ ?_);refine rQ ?_;refine zKc (v:= .int .i64 0) (rs:=[.cell 4 3]) (vs:=[.int .i64 0]) 1 G31 C68 rfl kr kr (fun w69 C69 y69=>?_);refine⟨(Res.cell (ad:=⟨b4,0,none⟩) (cs:=[.int .i64 0]) (g:=false) kr kr kr ir (C69.cells 3 rfl rfl) Res.nil),?_⟩;exact⟨C69.upd,_,rfl,zO (qCu hlen2 hp65_0)⟩;exact⟨_,C30,Le.refl _,fun j hj hl=>absurd hl (Nat.not_lt.2 hj)⟩
set_option maxHeartbeats 1000000
theorem bL{l l2:List Nat}(h:kR l l2=0):(l.length≤512∧zQ l)∧(l2.length≤512∧zQ l2):=by
 have h1:qU l=0∧qU l2=0:=by
  unfold kR at h;simp only[orL]at h;split at h
  ·rename_i h1;split at h
   ·rename_i h2;exact⟨h1,h2⟩
   ·contradiction
  ·contradiction
 exact⟨tL h1.1,tL h1.2⟩
theorem zZw(ad:Option Addr)(cap:Nat)(l:List Nat):∃a1 a2 a3,(if 512<qI l then Value.tuple #[.slice none 0 0,.int .i64 4]else .tuple #[.slice ad (qI l) cap,.int .i64 0])= .tuple #[.slice a1 a2 a3,.int .i64 (qGe l)]:=by
 unfold qGe;split<;>exact⟨_,_,_,rfl⟩
theorem qRd(w:World)(X:Hid)(hX:∀k o,X k o→k<w.heap.size)(ad:Option Addr)(len cap:Nat)(l:List Nat)(h:zL (rd w X) ad len cap l)(ad2:Option Addr)(len2 Q2:Nat)(l2:List Nat)(h2:zL (rd w X) ad2 len2 Q2 l2):Calls Tryz.prog 231 #[.slice ad len cap,.slice ad2 len2 Q2] w (Ret E0 w fun w' v=>zCl 214 w w' (or2 (kR l l2) (zVx (val l+val l2))) (val l+val l2) v):=by
 obtain rfl:=h.hlen;obtain rfl:=h2.hlen;have hcap:=h.hcap;have hbig:=h.hbig;have hcap2:=h2.hcap;have hbig2:=h2.hbig;refine zen Tryz.func231 ?_;have C0:St E0 w X w X []:=St.start hX;refine zz 11 ?_;refine zc C0 (bH _ X0 (zT _) _ _ _ l (h.mono Le.x0) _ _ _ l2 (h2.mono Le.x0)) ?_;rintro v3 w3 C3 y3 P3 rfl;refine zz 9 ?_;refine zb 12 (b:=((kR l l2)!=0)) (fun J4=>?_) (fun J4=>?_);have F5:(kR l l2)≠0:=by simpa using J4
 refine zz 10 ?_;refine zr' (v:= .tuple #[.slice none 0 0,.int .i64 (kR l l2)]) ?_;exact⟨C3.upd,_,rfl,by rw[aK F5];exact .inl ⟨F5,rfl⟩⟩
 have F6:(kR l l2)=0:=by simpa using J4
 obtain⟨⟨hl1,c1⟩,hl2,c2⟩:=bL F6;refine zz 10 ?_;refine zs 18 (v:= .int .i64 (if(l2.length:Int)>(l.length:Int)then(l2.length:Int)else(l.length:Int))) (v':= .int .i64 ((max l.length l2.length:Nat):Int)) (zO (by split<;>omega)) ?_
 refine zz 1 ?_;refine zw 19 (x:=((max l.length l2.length+1:Nat):Int)) ?_;refine zop (at1 [] Tryz.f231 [1,1,0]) 6 (fun a7 _ G7 hz7=>aJ (l:=((max l.length l2.length+1:Nat):Int)) (e:=214) (z:= .int .u32 0) (i0:=Tryz.t214) (max l.length l2.length+1) 4 G7 C3 ?_);intro b8 w8 Y8 C8 y8 P8 a9 G9;have D8:=zS.zeros (max l.length l2.length+1) (by simp only[maxLen];omega)
 refine hz7 G9 ?_;refine zz 7 ?_;refine zop (at1 [] Tryz.f231 [1,1,1,0]) 2 (fun a10 _ G10 hz10=>zWl (l2:=l) 0 G10 C8 rfl D8 (h.mono (Le2 y3 y8)) (by omega) ?_)
 intro T11 w11 D11 C11 y11 a12 G12;refine hz10 G12 ?_;refine zz 6 ?_;refine zcE 0 C11 rfl (qKc _ b8 (max l.length l2.length+1) (max l.length l2.length+1) _ (l++List.drop l.length (List.replicate (max l.length l2.length+1) 0)) (C11.get 0 rfl) D11 (by omega) _ _ _ l2 ((h2.mono (Le3 y3 y8 y11)).mono (C11.leHG 0 rfl)) 0 (by omega) (by rw[dI];exact zYc h.hlt h2.hlt)) ?_
 rintro v14 w14 ob14 ⟨rfl,T14,ls14,hg14,D14,hval14⟩ hob14 C14 y14;obtain rfl:=Option.some.inj (hob14.symm.trans hg14);refine zz 5 ?_;refine zc C14 (qKl _ X0 (zT _) _ _ _ ls14 (zS.limbs (Y:=X0) D14 (C14.get 0 rfl) (fun _ h=>h.elim))) ?_ (vs:=#[.slice (some ⟨b8,0,none⟩) (max l.length l2.length+1) (max l.length l2.length+1)]);rintro v16 w16 C16 y16 P16 hfit16;obtain⟨af16,lf16,cf16,hfe16⟩:=zZw (some ⟨b8,0,none⟩) (max l.length l2.length+1) ls14;cases(hfit16.trans hfe16);refine zz 7 ?_;refine zr' (v:= .tuple #[.slice af16 lf16 cf16,.int .i64 (qGe ls14)]) ?_;exact⟨C16.upd,_,rfl,by rw[xL F6];exact zCl.fit D14 (C16.get 0 rfl) (C16.own_ge 0 rfl) (by have h9:=hval14;rw[dI]at h9;omega) hfe16.symm⟩
set_option maxHeartbeats 1000000
theorem zLl(w:World)(X:Hid)(hX:∀k o,X k o→k<w.heap.size)(ad2:Option Addr)(len2 Q2:Nat)(hl0:len2=0)(J2:Q2≤9223372036854775807):Calls Tryz.prog 226 #[.slice none 0 0,.slice ad2 len2 Q2] w (Ret E0 w fun _ v=>v= .slice none 0 0):=by
 subst hl0;refine zen Tryz.func226 ?_;have C0:St E0 w X w X []:=St.start hX;refine zz 19 ?_;refine zSf ?_;refine zz 21 ?_;refine zSf ?_;refine zz 16 ?_;refine zc C0 (cZ _ _ C0.lt _ _ _ ([]) (zL.nil (r:=rd w X) (cap:=0) none (by omega))) ?_ (vs:=#[.slice none 0 0])
 rintro v3 w3 C3 y3 P3 rfl;refine zz 4 ?_;refine zr' (v:= .slice none (qI ([])) 0) ?_;exact⟨C3.upd,_,rfl,rfl⟩
def zRx(x y:Nat):Int:=if x<y then 7 else 0
theorem zMu{x y:Nat}(h:qC (x:Int) (y:Int)<0):x<y:=by unfold qC at h;(repeat' split at h)<;>omega
theorem zMt{x y:Nat}(h:¬qC (x:Int) (y:Int)<0):y≤x:=by unfold qC at h;(repeat' split at h)<;>omega
theorem qJy(w:World)(X:Hid)(hX:∀k o,X k o→k<w.heap.size)(ad:Option Addr)(len cap:Nat)(l:List Nat)(h:zL (rd w X) ad len cap l)(ad2:Option Addr)(len2 Q2:Nat)(l2:List Nat)(h2:zL (rd w X) ad2 len2 Q2 l2):Calls Tryz.prog 232 #[.slice ad len cap,.slice ad2 len2 Q2] w (Ret E0 w fun w' v=>zCl 214 w w' (or2 (kR l l2) (zRx (val l) (val l2))) (val l-val l2) v):=by
 obtain rfl:=h.hlen;obtain rfl:=h2.hlen;have hcap:=h.hcap;have hbig:=h.hbig;have hcap2:=h2.hcap;have hbig2:=h2.hbig;have hbig2c:=h2.hbig;refine zen Tryz.func232 ?_;have C0:St E0 w X w X []:=St.start hX;refine zz 11 ?_;refine zc C0 (bH _ X0 (zT _) _ _ _ l (h.mono Le.x0) _ _ _ l2 (h2.mono Le.x0)) ?_;rintro v3 w3 C3 y3 P3 rfl;refine zz 11 ?_;refine zb 10 (b:=((kR l l2)!=0)) (fun J4=>?_) (fun J4=>?_);have F5:(kR l l2)≠0:=by simpa using J4
 refine zz 11 ?_;refine zr' (v:= .tuple #[.slice none 0 0,.int .i64 (kR l l2)]) ?_;exact⟨C3.upd,_,rfl,by rw[aK F5];exact .inl ⟨F5,rfl⟩⟩
 have F6:(kR l l2)=0:=by simpa using J4
 obtain⟨⟨hl1,c1⟩,hl2,c2⟩:=bL F6;refine zz 5 ?_;refine zc C3 (aL _ X0 (zT _) _ _ _ l ((h.mono y3).mono Le.x0) _ _ _ l2 ((h2.mono y3).mono Le.x0) c1 c2 (by omega)) ?_
 rintro v8 w8 C8 y8 P8 rfl;refine zz 4 ?_;refine zt 14 (p:=(qC (val l) (val l2))<0) (fun F9=>?_) (fun F9=>?_);have hcmp:=zMu F9;refine zz 10 ?_;refine zr' (v:= .tuple #[.slice none 0 0,.int .i64 7]) ?_;exact⟨C8.upd,_,rfl,by rw[xL F6,zRx,if_pos hcmp];exact .inl ⟨by decide,rfl⟩⟩
 have hcmp:=zMt F9;refine zz 7 ?_;refine zc C8 (bQ _ X0 (zT _) _ _ _ l ((h.mono (Le2 y3 y8)).mono Le.x0) (by omega)) ?_
 rintro v11 w11 C11 y11 P11 ⟨ad11,len11,Q11,how11⟩;rcases how11 with⟨rfl,hlen11,hlt11,⟨rfl,rfl,rfl⟩ | ⟨g11,T11,rfl,hge11,hget11,D11⟩⟩
 have hnil11:l=[]:=List.eq_nil_of_length_eq_zero hlen11.symm;refine zz 1 ?_;have hnil2:l2=[]:=dM c2 (by have:=hcmp;rw[hnil11]at this;simp only[val]at this;omega)
 refine zc C11 (zLl _ X0 (zT _) _ _ _ (by rw[hnil2];rfl) hbig2c) ?_ (vs:=#[.slice none 0 0,.slice ad2 l2.length Q2])
 rintro v14 w14 C14 y14 P14 rfl;refine zz 5 ?_;refine zr' (v:= .tuple #[.slice none 0 0,.int .i64 0]) ?_;exact⟨C14.upd,_,rfl,.inr ⟨by rw[xL F6,zRx,if_neg (by omega)],_,[],_,_,_,rfl,⟨⟨rfl,rfl,fun x hx=>by simp at hx,.inl ⟨rfl,rfl,rfl⟩⟩,.inl rfl,by rw[hnil11];simp[val]⟩,by simp⟩⟩
 subst hlen11;have C12:=St.adopt C11 (fun o h=>Nat.not_lt.2 hge11 (C8.lt _ _ h)) (Nat.le_trans C8.upd.size hge11) hget11;have y12:=Le.adopt y11 hge11;refine zz 1 ?_;refine zcE 0 C12 rfl (wY _ g11 l.length Q11 _ l (C12.get 0 rfl) D11 (by omega) _ _ _ l2 ((h2.mono (Le3 y3 y8 y12)).mono (C12.leHG 0 rfl)) (zV h.hlt c2 (by omega)) (by omega)) ?_
 rintro v16 w16 ob16 ⟨T16,ls16,rfl,hg16,D16,hcan16,hval16⟩ hob16 C16 y16;obtain rfl:=Option.some.inj (hob16.symm.trans hg16);refine zz 5 ?_;refine zr' (v:= .tuple #[.slice (some ⟨g11,0,none⟩) ls16.length Q11,.int .i64 0]) ?_;exact⟨C16.upd,_,rfl,.inr ⟨by rw[xL F6,zRx,if_neg (by omega)],_,ls16,_,_,_,rfl,⟨⟨rfl,rfl,D16.lt,.inr ⟨_,_,rfl,C16.own_ge 0 rfl,C16.get 0 rfl,D16⟩⟩,hcan16,hval16⟩,Nat.le_trans (zV h.hlt hcan16 (by omega)) hl1⟩⟩
set_option maxHeartbeats 1000000
theorem qRj(w:World)(X:Hid)(hX:∀k o,X k o→k<w.heap.size)(ad:Option Addr)(len cap:Nat)(l:List Nat)(h:zL (rd w X) ad len cap l)(ad2:Option Addr)(len2 Q2:Nat)(l2:List Nat)(h2:zL (rd w X) ad2 len2 Q2 l2):Calls Tryz.prog 230 #[.slice ad len cap,.slice ad2 len2 Q2] w (Ret E0 w fun w' v=>zCl 214 w w' (or2 (kR l l2) (zVx (val l*val l2))) (val l*val l2) v):=by
 obtain rfl:=h.hlen;obtain rfl:=h2.hlen;have hcap:=h.hcap;have hbig:=h.hbig;have hcap2:=h2.hcap;have hbig2:=h2.hbig;refine zen Tryz.func230 ?_;have C0:St E0 w X w X []:=St.start hX;refine zz 11 ?_;refine zc C0 (bH _ X0 (zT _) _ _ _ l (h.mono Le.x0) _ _ _ l2 (h2.mono Le.x0)) ?_;rintro v3 w3 C3 y3 P3 rfl;refine zz 9 ?_;refine zb 18 (b:=((kR l l2)!=0)) (fun J4=>?_) (fun J4=>?_);have F5:(kR l l2)≠0:=by simpa using J4
 refine zz 10 ?_;refine zr' (v:= .tuple #[.slice none 0 0,.int .i64 (kR l l2)]) ?_;exact⟨C3.upd,_,rfl,by rw[aK F5];exact .inl ⟨F5,rfl⟩⟩
 have F6:(kR l l2)=0:=by simpa using J4
 obtain⟨⟨hl1,c1⟩,hl2,c2⟩:=bL F6;refine zz 10 ?_;refine zw 24 (x:=((l.length+l2.length:Nat):Int)) ?_;refine zz 1 ?_;refine zw 25 (x:=((l.length+l2.length+1:Nat):Int)) ?_;refine zop (at1 [] Tryz.f230 [1,1,0]) 6 (fun a7 _ G7 hz7=>aJ (l:=((l.length+l2.length+1:Nat):Int)) (e:=214) (z:= .int .u32 0) (i0:=Tryz.t214) (l.length+l2.length+1) 4 G7 C3 ?_);intro b8 w8 Y8 C8 y8 P8 a9 G9;have D8:=zS.zeros (l.length+l2.length+1) (by simp only[maxLen];omega)
 refine hz7 G9 ?_;refine zz 12 ?_;refine zlp Tryz.f230 [] [1,1,1,0,1,0] (fun(i:Nat)=>[(1,.slice ad2 l2.length Q2),(7,.slice (some ⟨b8,0,none⟩) (l.length+l2.length+1) (l.length+l2.length+1)),(27,.slice ad l.length cap),(28,.int .i64 (l.length:Int)),(29,.int .i64 (i:Int))]) (fun i w1=>∃(Y1:Hid)(T1:Array Value)(l1:List Nat),St E0 w X w1 Y1 [(b8,.cells T1 214 (0,0))]∧Le (rd w8 Y8) (rd w1 Y1)∧(zS (l.length+l2.length+1) (l.length+l2.length+1) T1 l1)∧(i≤l.length)∧(val l1=val (l.take i)*val l2)) (fun i=>l.length-i) 0 ?_ ?_;refine⟨_,(List.replicate (l.length+l2.length+1) (Value.int .u32 0)).toArray,(List.replicate (l.length+l2.length+1) 0),C8,Le.refl _,D8,Nat.zero_le _,by simp[val,kT]⟩
 rintro i w10 K10 Z10 ⟨Y10,T1,l1,C10,y10,hp10_0,hp10_1,hp10_2⟩;have D1:=hp10_0;have hlen1:=D1.len;have hlti:=h.getD_lt i;refine zz 6 ?_;refine zt 30 (p:=(i:Int)<(l.length:Int)) (fun F11=>?_) (fun F11=>?_);obtain⟨bk12,of13,rfl,_⟩:=h.addr (by omega)
 refine zz 8 ?_;refine zi (b:=bk12) (off:=of13) (len:=l.length) (cap:=cap) (kd:= .i64) (i:=(i:Int)) 1 (of13+i) ?_;refine zl ((h.cell (i:=i) (by omega)).mono (Le3 y3 y8 y10)).cells ?_
 refine zz 9 ?_;refine zw 36 (x:=((l2.length+1:Nat):Int)) ?_;refine zop (at1 [K10] Tryz.f230 [1,1,1,0,1,0,0,1,1,0,0,1,0]) 3 (fun a14 _ G14 hz14=>aJ (l:=((l2.length+1:Nat):Int)) (e:=214) (z:= .int .u32 0) (i0:=Tryz.t214) (l2.length+1) 4 G14 C10 ?_);intro b15 w15 Y15 C15 y15 P15 a16 G16;have D15:=zS.zeros (l2.length+1) (by simp only[maxLen];omega)
 refine hz14 G16 ?_;refine zz 12 ?_;refine zlp Tryz.f230 [K10] [1,1,1,0,1,0,0,1,1,0,0,1,1,0,1,0] (fun(j:Nat)=>[(1,.slice ad2 l2.length Q2),(7,.slice (some ⟨b8,0,none⟩) (l.length+l2.length+1) (l.length+l2.length+1)),(8,.int .i64 (i:Int)),(9,.int .u32 ((l.getD i 0:Nat):Int)),(10,.slice (some ⟨b15,0,none⟩) (l2.length+1) (l2.length+1)),(27,.slice (some ⟨bk12,of13,none⟩) l.length cap),(28,.int .i64 (l.length:Int)),(29,.int .i64 (i:Int)),(38,.slice ad2 l2.length Q2),(39,.int .i64 (l2.length:Int)),(40,.int .i64 (j:Int))]) (fun j w1=>∃(Y1:Hid)(T2:Array Value)(lp:List Nat),St E0 w X w1 Y1 [(b15,.cells T2 214 (0,0)),(b8,.cells T1 214 (0,0))]∧Le (rd w15 Y15) (rd w1 Y1)∧(zS (l2.length+1) (l2.length+1) T2 lp)∧(j≤l2.length)∧(val lp=l.getD i 0*val (l2.take j))∧(∀t,j<t→lp.getD t 0=0)) (fun j=>l2.length-j) 0 ?_ ?_;refine⟨_,(List.replicate (l2.length+1) (Value.int .u32 0)).toArray,(List.replicate (l2.length+1) 0),C15,Le.refl _,D15,Nat.zero_le _,by simp[val,kT],fun t _=>by by_cases ht:t<l2.length+1<;>simp[List.getD_eq_getElem?_getD,ht]⟩
 rintro j w17 K17 Z17 ⟨Y17,T2,lp,C17,y17,hp17_0,hp17_1,hp17_2,hp17_3⟩;have D2:=hp17_0;have hlen2:=D2.len;have hltj:=h2.getD_lt j;have hltp:=D2.getD_lt j;have hmul:l.getD i 0*l2.getD j 0≤4294967295*4294967295:=Nat.mul_le_mul (by omega) (by omega)
 refine zz 6 ?_;refine zt 41 (p:=(j:Int)<(l2.length:Int)) (fun F18=>?_) (fun F18=>?_);obtain⟨bk19,of20,rfl,_⟩:=h2.addr (by omega)
 refine zz 8 ?_;refine zi (b:=bk19) (off:=of20) (len:=l2.length) (cap:=Q2) (kd:= .i64) (i:=(j:Int)) 1 (of20+j) ?_;have J1_:=(Le4 y3 y8 y10 y15).trans y17;refine zl ((h2.cell (i:=j) (by omega)).mono J1_).cells ?_
 refine zz 8 ?_;refine zs 46 (v:= .int .u64 (IntKind.u64.wrap (((l.getD i 0:Nat):Int)))) (v':= .int .u64 ((l.getD i 0:Nat):Int)) (zO (sZ (by omega) (by omega))) ?_
 refine zz 2 ?_;refine zs 48 (v:= .int .u64 (IntKind.u64.wrap (((l2.getD j 0:Nat):Int)))) (v':= .int .u64 ((l2.getD j 0:Nat):Int)) (zO (sZ (by omega) (by omega))) ?_
 refine zz 1 ?_;refine zs 49 (v:= .int .u64 (IntKind.u64.wrap (((l.getD i 0:Nat):Int)*((l2.getD j 0:Nat):Int)))) (v':= .int .u64 ((l.getD i 0*l2.getD j 0:Nat):Int)) (zO ((sZ (by rw[←Int.natCast_mul];omega) (by rw[←Int.natCast_mul];omega)).trans (Int.natCast_mul _ _).symm)) ?_
 refine zz 2 ?_;refine zi (b:=b15) (off:=0) (len:=(l2.length+1)) (cap:=(l2.length+1)) (kd:= .i64) (i:=(j:Int)) 1 j ?_;refine zl (ad:=⟨b15,j,none⟩) (C17.rowCells 0 rfl D2 (by have:=D2.len;(try simp only[List.length_set]at *);omega)) ?_
 refine zz 1 ?_;refine zs 54 (v:= .int .u64 (IntKind.u64.wrap (((lp.getD j 0:Nat):Int)))) (v':= .int .u64 ((lp.getD j 0:Nat):Int)) (zO (sZ (by omega) (by omega))) ?_
 refine zz 1 ?_;refine zs 55 (v:= .int .u64 (IntKind.u64.wrap (((l.getD i 0*l2.getD j 0:Nat):Int)+((lp.getD j 0:Nat):Int)))) (v':= .int .u64 ((l.getD i 0*l2.getD j 0+lp.getD j 0:Nat):Int)) (zO (sZ (by omega) (by omega))) ?_
 refine zz 9 ?_;refine zw 60 (x:=((j+1:Nat):Int)) ?_;refine zz 2 ?_;refine zs 62 (v:= .int .u32 (IntKind.u32.wrap (((l.getD i 0*l2.getD j 0+lp.getD j 0:Nat):Int)))) (v':= .int .u32 (((l.getD i 0*l2.getD j 0+lp.getD j 0) % 4294967296:Nat):Int)) (zO (by rw[jS];omega)) ?_
 refine zz 2 ?_;refine zs 64 (v:= .int .u64 (Int.fdiv (((l.getD i 0*l2.getD j 0+lp.getD j 0:Nat):Int)) (2^32))) (v':= .int .u64 (((l.getD i 0*l2.getD j 0+lp.getD j 0) / 4294967296:Nat):Int)) (zO (by rw[xH _ 32 (c:=4294967296) (by decide) (by decide)];omega)) ?_
 refine zz 1 ?_;refine zs 65 (v:= .int .u32 (IntKind.u32.wrap ((((l.getD i 0*l2.getD j 0+lp.getD j 0) / 4294967296:Nat):Int)))) (v':= .int .u32 (((l.getD i 0*l2.getD j 0+lp.getD j 0) / 4294967296:Nat):Int)) (zO (by rw[jS];omega)) ?_
 refine zi (b:=b15) (off:=0) (len:=(l2.length+1)) (cap:=(l2.length+1)) (kd:= .i64) (i:=(j:Int)) 1 j ?_;refine zop (at1 [K10,K17] Tryz.f230 [1,1,1,0,1,0,0,1,1,0,0,1,1,0,1,0,0,1,1,0,0,1,1]) 11 (fun a21 _ G21 hz21=>kZ (y:=((l.getD i 0*l2.getD j 0+lp.getD j 0) % 4294967296)) (k:=j) (e:=(((l.getD i 0*l2.getD j 0+lp.getD j 0) % 4294967296:Nat):Int)) 0 G21 C17 (by first | rfl | omega | (simp;omega)) rfl D2 (by have:=D2.len;(try simp only[List.length_set]at *);omega) (by first | omega | (simp;omega)) ?_)
 intro T22 w22 D22 C22 y22;refine hz21 G21 ?_;refine zi (b:=b15) (off:=0) (len:=(l2.length+1)) (cap:=(l2.length+1)) (kd:= .i64) (i:=((j+1:Nat):Int)) 1 ((((j+1:Nat):Int)).toNat) ?_;refine zop (at1 [K10,K17] Tryz.f230 [1,1,1,0,1,0,0,1,1,0,0,1,1,0,1,0,0,1,1,0,0,1,1]) 13 (fun a23 _ G23 hz23=>kZ (y:=((l.getD i 0*l2.getD j 0+lp.getD j 0) / 4294967296)) (k:=(((j+1:Nat):Int)).toNat) (e:=(((l.getD i 0*l2.getD j 0+lp.getD j 0) / 4294967296:Nat):Int)) 0 G23 C22 (by first | rfl | omega | (simp;omega)) rfl D22 (by have:=D22.len;(try simp only[List.length_set]at *);omega) (by first | omega | (simp;omega)) ?_)
 intro T24 w24 D24 C24 y24;refine hz23 G23 ?_;refine zz 5 ?_;refine zw 68 (x:=(j:Int)+1) ?_;refine zz 2 ?_;refine yL (fun a h=>Z17 (j+1) _ a h ⟨_,T24,((lp.set j ((l.getD i 0*l2.getD j 0+lp.getD j 0) % 4294967296)).set ((((j+1:Nat):Int)).toNat) ((l.getD i 0*l2.getD j 0+lp.getD j 0) / 4294967296)),C24,(Le3 y17 y22 y24),D24,by omega,by rw[jQ l2 j (by omega),Nat.mul_add,←Nat.mul_assoc];exact qHl lp j _ _ _ (by omega) (hp17_3 _ (by omega)) hp17_2,fun t ht=>by rw[kC (by omega),kC (by omega)];exact hp17_3 t (by omega)⟩ ?_)
 first | omega | (simp<;>omega)
 have hpv:val lp=l.getD i 0*val l2:=by have h9:=hp17_2;rwa[show j=l2.length by omega,List.take_length]at h9
 refine zz 10 ?_;refine zcE 1 C17 rfl (qKc _ b8 (l.length+l2.length+1) (l.length+l2.length+1) _ l1 (C17.get 1 rfl) D1 (by omega) _ _ _ lp (zS.limbs (Y:=HG b8) D2 (C17.get 0 rfl) (fun o h=>C17.ne (i:=0) (j:=1) rfl rfl (by decide) h)) i (by omega) (by have h8:=hp10_2;rw[hp10_2,hpv];have h9:=jQ l i (by omega);have e:val (l.take i)*val l2+4294967296^i*(l.getD i 0*val l2)=val (l.take (i+1))*val l2:=(by rw[h9,Nat.add_mul];congr 1;ac_rfl);rw[e];exact zEt (Nat.lt_of_le_of_lt (zCi _ _) (yH h.hlt)) (yH h2.hlt) (by omega))) ?_ (vs:=#[.slice (some ⟨b8,0,none⟩) (l.length+l2.length+1) (l.length+l2.length+1),.slice (some ⟨b15,0,none⟩) (l2.length+1) (l2.length+1),.int .i64 (i:Int)])
 rintro v26 w26 ob26 ⟨rfl,T26,ls26,hg26,D26,hval26⟩ hob26 C26 y26;obtain rfl:=Option.some.inj (hob26.symm.trans hg26);refine zz 5 ?_;refine zw 73 (x:=(i:Int)+1) ?_;refine zz 2 ?_;have J2_:=(Le3 y10 y15 y17).trans y26;refine yL (fun a h=>Z10 (i+1) _ a h ⟨_,T26,ls26,C26.tail,J2_,D26,by omega,by have h8:=hval26;have h9:=hpv;rw[jQ l i (by omega),Nat.add_mul,h8,h9,←hp10_2];have e:l.getD i 0*4294967296^i*val l2=4294967296^i*(l.getD i 0*val l2):=(by ac_rfl);omega⟩ ?_)
 first | omega | (simp<;>omega)
 have hfin:val l1=val l*val l2:=by have h9:=hp10_2;rwa[show i=l.length by omega,List.take_length]at h9
 refine zz 9 ?_;refine zc C10 (qKl _ X0 (zT _) _ _ _ l1 (zS.limbs (Y:=X0) D1 (C10.get 0 rfl) (fun _ h=>h.elim))) ?_ (vs:=#[.slice (some ⟨b8,0,none⟩) (l.length+l2.length+1) (l.length+l2.length+1)]);rintro v28 w28 C28 y28 P28 hfit28;obtain⟨af28,lf28,cf28,hfe28⟩:=zZw (some ⟨b8,0,none⟩) (l.length+l2.length+1) l1;cases(hfit28.trans hfe28);refine zz 7 ?_;refine zr' (v:= .tuple #[.slice af28 lf28 cf28,.int .i64 (qGe l1)]) ?_;exact⟨C28.upd,_,rfl,by rw[xL F6];exact zCl.fit D1 (C28.get 0 rfl) (C28.own_ge 0 rfl) (hfin) hfe28.symm⟩
set_option maxHeartbeats 1000000
def qLu(T:TypeId)(Φ:List Nat→Prop)(g':Nat)(o':Obj)(v:Value):Prop:=∃cur' cap' l',o'= .cells cur' T (0,0)∧v= .slice (some ⟨g',0,none⟩) l'.length cap'∧zS l'.length cap' cur' l'∧Φ l'
theorem zMz(w:World)(g m cap:Nat)(cur:Array Value)(l:List Nat)(hg:w.heap[g]?=some (.cells cur 214 (0,0)))(hrow:zS m cap cur l)(hm:m≤1099511627776)(hcan:zQ l)(c0:Nat)(hc:c0≤1):
    Calls Tryz.prog 227 #[.slice (some ⟨g,0,none⟩) m cap,.int .u32 (c0:Int)] w (Ret (·=g) w fun w1 v=>∃g' o',w1.heap[g']?=some o'∧(w.heap.size≤g'∨g'=g)∧qLu 214 (fun l'=>l'.length≤m+1∧zQ l'∧val l'=2*val l+c0) g' o' v):=by
 refine zen Tryz.func227 ?_;have hX:∀k o,HG g k o→k<w.heap.size:=by rintro k o rfl;exact(Array.getElem?_eq_some_iff.1 hg).1
 have C0:St (·=g) w (HG g) w (HG g) [(g,.cells cur 214 (0,0))]:=St.startE g _ hX hg (fun _=>rfl);have hlen:=hrow.len;refine zz 14 ?_;refine zlp Tryz.f227 [] [1,0,1,0] (fun((j,c):Nat×Nat)=>[(0,.slice (some ⟨g,0,none⟩) m cap),(1,.int .u32 (c:Int)),(7,.slice (some ⟨g,0,none⟩) m cap),(8,.int .i64 (m:Int)),(9,.int .i64 (j:Int))]) (fun(j,c)w1=>∃(Y1:Hid)(T1:Array Value)(l1:List Nat),St (·=g) w (HG g) w1 Y1 [(g,.cells T1 214 (0,0))]∧Le (rd w (HG g)) (rd w1 Y1)∧(zS m cap T1 l1)∧(j≤l.length)∧(c≤1)∧(val l1+c*4294967296^j=(val l+c0)+val (l.take j))∧(∀t,j≤t→l1.getD t 0=l.getD t 0)) (fun(j,c)=>l.length-j) (0,c0) ?_ ?_
 ·
  refine⟨_,cur,l,C0,Le.refl _,hrow,Nat.zero_le _,hc,by simp[val],fun _ _=>rfl⟩
 rintro⟨j,c⟩ w2 K2 Z2 ⟨Y2,T1,l1,C2,y2,hp2_0,hp2_1,hp2_2,hp2_3,hp2_4⟩;have D1:=hp2_0;have hlen1:=D1.len;have hlt1:=hrow.getD_lt j;have J1:=hp2_2;have hpre:=hp2_4;refine zz 6 ?_;refine zt 10 (p:=(j:Int)<(m:Int)) (fun F3=>?_) (fun F3=>?_)
 ·
  refine zz 8 ?_;refine zi (b:=g) (off:=0) (len:=m) (cap:=cap) (kd:= .i64) (i:=(j:Int)) 1 j ?_;refine zl (ad:=⟨g,j,none⟩) (C2.rowCells 0 rfl D1 (by have:=D1.len;(try simp only[List.length_set]at *);omega)) ?_
  refine zz 9 ?_;refine zs 17 (v:= .int .u32 (IntKind.u32.wrap (((l1.getD j 0:Nat):Int)*2^1))) (v':= .int .u32 ((l.getD j 0*2 % 4294967296:Nat):Int)) (zO (by rw[jS,hpre j (Nat.le_refl _)];omega)) ?_
  refine zz 2 ?_;refine zs 19 (v:= .int .u32 (wQ ((l.getD j 0*2 % 4294967296:Nat):Int) (c:Int))) (v':= .int .u32 ((l.getD j 0*2 % 4294967296+c:Nat):Int)) (zO (qFl _ _ J1)) ?_;refine zz 2 ?_;refine zs 21 (v:= .int .u32 (Int.fdiv (((l1.getD j 0:Nat):Int)) (2^31))) (v':= .int .u32 ((l.getD j 0 / 2147483648:Nat):Int)) (zO (by rw[xH _ 31 (c:=2147483648) (by decide) (by decide),hpre j (Nat.le_refl _)];omega)) ?_
  refine zi (b:=g) (off:=0) (len:=m) (cap:=cap) (kd:= .i64) (i:=(j:Int)) 1 j ?_;refine zop (at1 [K2] Tryz.f227 [1,0,1,0,0,1,1,0,0,1]) 9 (fun a4 _ G4 hz4=>kZ (y:=(l.getD j 0*2 % 4294967296+c)) (k:=j) (e:=((l.getD j 0*2 % 4294967296+c:Nat):Int)) 0 G4 C2 (by first | rfl | omega | (simp;omega)) rfl D1 (by have:=D1.len;(try simp only[List.length_set]at *);omega) (by omega) ?_)
  intro T5 w5 D5 C5 y5;refine hz4 G4 ?_;refine zz 6 ?_;refine zw 23 (x:=(j:Int)+1) ?_;refine zz 2 ?_;refine yL (fun a h=>Z2 ((j+1,l.getD j 0 / 2147483648)) _ a h ⟨_,T5,(l1.set j (l.getD j 0*2 % 4294967296+c)),C5,(Le2 y2 y5),D5,by omega,by omega,qFu l l1 j c _ (by omega) (by omega) (hpre j (Nat.le_refl _)) hp2_3,fun t ht=>by rw[kC (by omega)];exact hpre t (by omega)⟩ ?_)
  first | omega | (simp<;>omega)
 have htot:val l1+c*4294967296^m=val l+c0+val l:=by have h9:=hp2_3;rwa[show j=l.length by omega,List.take_length,hlen]at h9
 refine zz 13 ?_;refine zb 25 (b:=((c:Int)!=0)) (fun J6=>?_) (fun J6=>?_)
 ·
  have F7:(c:Int)≠0:=by simpa using J6
  have hcz:c=1:=by omega
  refine zz 4 ?_;refine zn (fun b=> .slice (some ⟨b,0,none⟩) 1 1) (.cells #[.int .u32 (c:Int)] 214 (0,0)) C2 fun b9 w9 Y9 C9 y9 P9=>?_;refine zop (at1 [K2] Tryz.f227 [1,1,0,1,0]) 3 (fun a10 _ G10 hz10=>zFb (b:=4) (m:=1) (c:=1) (size:=1) (ad:=⟨b9,0,none⟩) (xs:=U32 l1) (news:=[.int .u32 (c:Int)]) (i0:=Tryz.t214) (cur:=T1) (nn:=m) (cap:=cap) (g:=g) (e:=214) 1 G10 C9 rfl D1.row (C9.cells 0 rfl rfl) kr kr (by simp only[maxLen];omega) (by show(_+1)*4≤_;omega) ?_)
  intro g11 Q11 T11 w11 Y11 D11 C11 y11 a12 G12;have hrw11:=zS.app D11 D1.lt (by omega:c<4294967296)
  refine hz10 G12 ?_;refine zz 10 ?_;refine zr' (v:= .slice (some ⟨g11,0,none⟩) (m+1) Q11) ?_;exact⟨C11.upd,_,rfl,g11,_,C11.get 1 rfl,C11.own_or 1 rfl,_,_,(l1++[c]),rfl,by rw[List.length_append,hlen1];rfl,by rw[List.length_append,hlen1];exact hrw11,by simp only[List.length_append,List.length_singleton];omega,zHd (by omega),by rw[lZ,hlen1];omega⟩
 have F13:(c:Int)=0:=by simpa using J6
 have hcz:c=0:=by omega
 refine zz 10 ?_;refine zr' (v:= .slice (some ⟨g,0,none⟩) m cap) ?_;exact⟨C2.upd,_,rfl,g,_,C2.get 0 rfl,C2.own_or 0 rfl,_,_,l1,rfl,by rw[hlen1],by rw[hlen1];exact D1,by omega,zMp D1.lt (fun h0=>by rw[hcz]at htot;have h8:=vJ hcan (fun e=>by rw[e]at hlen;simp at hlen;omega);rw[hlen1];rw[hlen]at h8;omega),by rw[hcz]at htot;omega⟩
theorem zQj(w:World)(X:Hid)(hX:∀k o,X k o→k<w.heap.size)(c0:Nat)(hc:c0≤1):Calls Tryz.prog 227 #[.slice none 0 0,.int .u32 (c0:Int)] w (Ret E0 w fun w1 v=>∃l' ad' len' cap',bC 214 w w1 v l' ad' len' cap' c0∧l'.length≤1):=by
 refine zen Tryz.func227 ?_;have C0:St E0 w X w X []:=St.start hX;refine zz 14 ?_;refine zSf ?_;refine zz 19 ?_;refine zb 25 (b:=((c0:Int)!=0)) (fun J2=>?_) (fun J2=>?_);have F3:(c0:Int)≠0:=by simpa using J2
 refine zz 4 ?_;refine zn (fun b=> .slice (some ⟨b,0,none⟩) 1 1) (.cells #[.int .u32 (c0:Int)] 214 (0,0)) C0 fun b5 w5 Y5 C5 y5 P5=>?_;refine zop (at1 [] Tryz.f227 [1,1,0,1,0]) 3 (fun a6 _ G6 hz6=>zOh (b:=4) (m:=1) (c:=1) (size:=1) (ad:=⟨b5,0,none⟩) (news:=[.int .u32 (c0:Int)]) (i0:=Tryz.t214) (e:=214) G6 C5 (C5.cells 0 rfl rfl) kr (by omega) (by simp only[maxLen];omega) (by show 1*4≤_;omega) ?_)
 intro g7 Q7 T7 w7 Y7 D7 C7 y7 a8 G8;have hrw7:zS 1 Q7 T7 [c0]:=zS.app (m:=0) (l:=[]) D7 (fun x hx=>by simp at hx) (by omega)
 refine hz6 G8 ?_;refine zz 10 ?_;refine zr' (v:= .slice (some ⟨g7,0,none⟩) 1 Q7) ?_;exact⟨C7.upd,_,rfl,[c0],_,_,_,⟨⟨rfl,rfl,hrw7.lt,.inr ⟨_,_,rfl,C7.own_ge 0 rfl,C7.get 0 rfl,hrw7⟩⟩,zHd (l:=[]) (by omega),by simp[val]⟩,by simp⟩
 have F9:(c0:Int)=0:=by simpa using J2
 refine zz 10 ?_;refine zr' (v:= .slice none 0 0) ?_;exact⟨C0.upd,_,rfl,[],_,_,_,⟨⟨rfl,rfl,fun x hx=>by simp at hx,.inl ⟨rfl,rfl,rfl⟩⟩,.inl rfl,by simp[val];omega⟩,by simp⟩
set_option maxHeartbeats 1000000
theorem zPn(l:List Nat):val l % 2=l.getD 0 0 % 2:=by
 rcases l with _ | ⟨x,l⟩
 ·simp[val]
 ·simp only[val,List.getD_cons_zero];omega
theorem zFy{k m v V:Nat}(h:v*2^k=V)(hp:0<v)(hV:V<4294967296^m):k<V∧k<32*m:=by
 have h1:1*2^k≤v*2^k:=Nat.mul_le_mul_right _ hp;have h2:k<2^k:=Nat.lt_two_pow_self;refine⟨by omega,?_⟩
 have h3:(4294967296:Nat)^m=2^(32*m):=by rw[Nat.pow_mul]
 have h4:2^k<2^(32*m):=by omega
 exact(Nat.pow_lt_pow_iff_right (by omega:1<2)).1 h4
theorem zDa(w:World)(g m cap:Nat)(cur:Array Value)(l:List Nat)(hg:w.heap[g]?=some (.cells cur 214 (0,0)))(hrow:zS m cap cur l)(hm:m≤1099511627776)(hcan:zQ l)(hpos:0<val l):
    Calls Tryz.prog 224 #[.slice (some ⟨g,0,none⟩) m cap] w (Ret (·=g) w fun w1 v=>∃k cur' l',v= .tuple #[.slice (some ⟨g,0,none⟩) l'.length cap,.int .i64 ((k:Nat):Int)]∧w1.heap[g]?=some (.cells cur' 214 (0,0))∧zS l'.length cap cur' l'∧zQ l'∧val l'*2^k=val l∧val l' % 2=1):=by
 refine zKb (n:=37) (vs:=[.slice (some ⟨g,0,none⟩) m cap]) Tryz.func224 rfl rfl rfl kr (fun a0 G0=>?_);have G0:Fr 37 a0 [(0,.slice (some ⟨g,0,none⟩) m cap)]:=G0;have hX:∀k o,HG g k o→k<w.heap.size:=by rintro k o rfl;exact(Array.getElem?_eq_some_iff.1 hg).1
 have C0:St (·=g) w (HG g) w (HG g) [(g,.cells cur 214 (0,0))]:=St.startE g _ hX hg (fun _=>rfl);have hlen:=hrow.len;refine zG (fun K1 Z1=>?_);refine zC ?_;refine qK G0 kr (nN (d:=1) (fun b=> .pointer (some ⟨b,0,none⟩)) (.cells #[.slice (some ⟨g,0,none⟩) m cap] 26 (0,0)) G0 kr C0 kw ?_);intro b2 w2 Y2 C2 y2 P2 a3 G3;refine zD 2 [(3,.int .i64 0),(2,.slice none 0 0)] G3 kr kr (fun a4 G4=>?_);refine zH ?_;refine zA (Z1 _ _ ?_);refine zG (fun K5 Z5=>?_);refine zC ?_;refine zD 1 [(4,.int .i64 0)] G4 kr kr (fun a6 G6=>?_);refine zH ?_;refine zA (Z5 _ _ ?_);refine zG (fun K7 Z7=>?_);refine jX ?_;refine lC (fun(k:Nat)ac w1=>∃(Y1:Hid)(bs:List Nat)(m1:Nat)(T1:Array Value)(l1:List Nat),Fr 37 ac [(1,.pointer (some ⟨b2,0,none⟩)),(4,.int .i64 (k:Int))] (bs.map Go.Gv.mark)∧St (·=g) w (HG g) w1 Y1 ((b2,.cells #[.slice (some ⟨g,0,none⟩) m1 cap] 26 (0,0))::(g,.cells T1 214 (0,0))::kE bs)∧Le (rd w2 Y2) (rd w1 Y1)∧(zS m1 cap T1 l1)∧(zQ l1)∧(val l1*2^k=val l)) (fun(k:Nat)=>val l-k) 0 ?_ ?_
 ·
  refine⟨_,[],m,cur,l,G6.as [1,4] kr kr,C2,Le.refl _,hrow,hcan,by simp⟩
 rintro k a8 w8 ⟨Y8,bs,m1,T1,l1,G8,C8,y8,hp8_0,hp8_1,hp8_2⟩;have D1:=hp8_0;have hlen1:=D1.len;have hcan1:=hp8_1;have hval1:=hp8_2;have hp1:0<val l1:=Nat.pos_of_ne_zero (fun e=>by rw[e]at hval1;omega)
 obtain⟨hkv,hkm⟩:=zFy hval1 hp1 (yH hrow.lt);rw[hlen]at hkm;have hm0:0<m1:=by rcases Nat.eq_zero_or_pos m1 with e | e;rw[List.eq_nil_of_length_eq_zero (hlen1.trans e)]at hp1;simp[val]at hp1;exact e
 have hm1:m1≤m:=by have:=zV hrow.lt hcan1 (by have:=Nat.le_mul_of_pos_right (val l1) (Nat.two_pow_pos k);omega);omega
 have hlt0:=D1.getD_lt 0;refine zG (fun K9 Z9=>?_);refine zG (fun K10 Z10=>?_);refine zC ?_;refine qK G8 kr (zE (d:=8) (v:= .slice (some ⟨g,0,none⟩) m1 cap) G8 kr (zB (t:=26) (g:=false) (vs:=[.slice (some ⟨g,0,none⟩) m1 cap]) (ad:=⟨b2,0,none⟩) rfl kr kr ir (C8.cells 0 rfl rfl)) ?_);intro a11 G11;refine zD 2 [(10,.bool (decide ((m1:Int)>0))),(9,.int .i64 (m1:Int))] G11 kr kr (fun a12 G12=>?_);have G13:=G12.set 10 (v':= .bool true) kr rfl (zK (decide_eq_true (by omega)))
 refine zD 1 [(11,.bool true)] G13 kr kr (fun a14 G14=>?_);refine qK G14 kr (zE (d:=12) (v:= .slice (some ⟨g,0,none⟩) m1 cap) G14 kr (zB (t:=26) (g:=false) (vs:=[.slice (some ⟨g,0,none⟩) m1 cap]) (ad:=⟨b2,0,none⟩) rfl kr kr ir (C8.cells 0 rfl rfl)) ?_);intro a15 G15;refine qK G15 kr (zE (d:=13) (v:= .pointer (some ⟨g,0,none⟩)) G15 kr (qQ (t:=26) (e:=214) (b:=g) (off:=0) (len:=m1) (cap:=cap) (kd:= .i64) (i:=0) (g:=false) (m:=1) (off':=0) rfl kr kr kr kr (by omega) (by omega) kr _) ?_)
 intro a16 G16;refine qK G16 kr (zE (d:=14) (v:= .int .u32 ((l1.getD 0 0:Nat):Int)) G16 kr (zB (t:=214) (g:=false) (vs:=[.int .u32 ((l1.getD 0 0:Nat):Int)]) (ad:=⟨g,0,none⟩) rfl kr kr ir (C8.rowCells 1 rfl D1 (by have:=D1.len;(try simp only[List.length_set]at *);omega))) ?_)
 intro a17 G17;refine zD 1 [(15,.int .u32 (xS ((l1.getD 0 0:Nat):Int) 1))] G17 kr kr (fun a18 G18=>?_);have G19:=G18.set 15 (v':= .int .u32 ((l1.getD 0 0 % 2:Nat):Int)) kr rfl (zO (zMm _ hlt0));refine zD 2 [(17,.bool (((l1.getD 0 0 % 2:Nat):Int)==0)),(16,.bool (((l1.getD 0 0 % 2:Nat):Int)==0))] G19 kr kr (fun a20 G20=>?_);refine zH ?_;refine zA (Z10 _ _ ?_);refine sK (((l1.getD 0 0 % 2:Nat):Int)==0) G20 kr kr (fun J21=>?_) (fun J21=>?_)
 ·
  have G22:=G20.set 17 (v':= .bool true) kr rfl (zK J21);have F23:((l1.getD 0 0 % 2:Nat):Int)=0:=by simpa using J21
  have heven:val l1 % 2=0:=by rw[zPn];omega
  refine xV ?_;refine zA (Z9 _ _ ?_);refine jX ?_;refine zG (fun K24 Z24=>?_);refine zC ?_;refine qK G22 kr (nN (d:=5) (fun b=> .pointer (some ⟨b,0,none⟩)) (.cells #[.int .u32 0] 214 (0,0)) G22 kr C8 kw ?_);intro b25 w25 Y25 C25 y25 P25 a26 G26;refine qK G26 kr (zF (t:=214) (b:=b25) (off:=0) (c':=#[.int .u32 0]) (g:=false) (m:=1) 0 _ G26 kr C25 rfl kr rfl kr kr kr rfl (by first | decide | (simp;done)) kr rfl ?_)
  intro w27 C27 y27;refine zH ?_;refine zA (Z24 _ _ ?_);refine zG (fun K28 Z28=>?_);refine zG (fun K29 Z29=>?_);refine zC ?_;refine qK G26 kr (zE (d:=18) (v:= .slice (some ⟨g,0,none⟩) m1 cap) G26 kr (zB (t:=26) (g:=false) (vs:=[.slice (some ⟨g,0,none⟩) m1 cap]) (ad:=⟨b2,0,none⟩) rfl kr kr ir (C27.cells 1 rfl rfl)) ?_);intro a30 G30;refine qK G30 kr (jY (d:=19) (f:=263) (cap:=#[]) (vs:=#[.slice (some ⟨g,0,none⟩) m1 cap]) G30 kr C27 rfl kr kr (fun w=>Tryz.call263 _ w) (zDm _ _ C27.lt (some ⟨g,0,none⟩) m1 cap) ?_);rintro v31 w31 C31 y31 P31 ⟨bx31,rfl,hge31,hget31⟩ a32 G32;have C33:=St.adopt C31 (fun o h=>Nat.not_lt.2 hge31 (C27.lt _ _ h)) (Nat.le_trans C27.upd.size hge31) hget31;have y33:=Le.adopt y31 hge31;refine zH ?_;refine zA (Z29 _ _ ?_);refine jX ?_;refine zEj (f:=280) (caps:=#[.pointer (some ⟨bx31,0,none⟩)]) G32 C33 kr kr (fun args w=>Tryz.call280 args w) fun rec34 l34 b34 w34 Y34 hr34 C34 y34 P34=>?_;have G35:=zAs b34 G32;refine zBw l34 bx31 (some ⟨g,0,none⟩) m1 cap l1 hlen1.symm (by omega) (fun k1 w'=>∃(Y':Hid)(T2:Array Value)(l2:List Nat)(r:Nat),St (·=g) w (HG g) w' Y' ((l34,.loop rec34)::(b34,.deferred (some []))::(bx31,.cells #[.slice (some ⟨g,0,none⟩) m1 cap] 26 (0,0))::(b25,.cells #[.int .u32 ((r*2147483648:Nat):Int)] 214 (0,0))::(b2,.cells #[.slice (some ⟨g,0,none⟩) m1 cap] 26 (0,0))::(g,.cells T2 214 (0,0))::kE bs)∧Le (rd w34 Y34) (rd w' Y')∧(zS m1 cap T2 l2)∧(r≤1)∧(2*val l2+r*4294967296^k1=val l1+val (l1.take k1))∧(∀i,i<k1→l2.getD i 0=l1.getD i 0)) _ ?_ ?_ ?_ ?_ _ ?_
  ·
   rintro k1 w36 ⟨Y36,T2,l2,r,C36,y36,hp36_0,hp36_1,hp36_2,hp36_3⟩;exact C36.at0 2 rfl rfl
  ·
   rintro k1 w37 ⟨Y37,T2,l2,r,C37,y37,hp37_0,hp37_1,hp37_2,hp37_3⟩;intro hk;refine⟨g,0,rfl,?_⟩;rw[←hp37_3 k1 (by omega)]
   exact zS.cellX0 hp37_0 (C37.get 5 rfl) (by have:=(hp37_0).len;omega)
  ·
   intro k1 w38 hk;rintro⟨Y38,T2,l2,r,C38,y38,hp38_0,hp38_1,hp38_2,hp38_3⟩;refine zGf (p:=20) (q:=21) hr34 G32 C38 kr kr (fun a39 G39=>?_);have D2:=hp38_0;have hlen2:=D2.len;have hr1:=hp38_1;have hv2:=hp38_2;have heq2:=hp38_3;have hltk:=D1.getD_lt k1;refine zG (fun K40 Z40=>?_);refine zC ?_;refine zD 1 [(6,.int .i64 (k1:Int))] G39 kr kr (fun a41 G41=>?_);refine zH ?_;refine zA (Z40 _ _ ?_);refine zC ?_;refine zD 1 [(7,.int .u32 ((l1.getD k1 0:Nat):Int))] G41 kr kr (fun a42 G42=>?_);refine zH ?_;refine zA ?_;refine zAe hr34 C38 (fun w43 C43 y43=>?_);refine jX ?_;refine zC ?_;refine qK G42 kr (zE (d:=22) (v:= .slice (some ⟨g,0,none⟩) m1 cap) G42 kr (zB (t:=26) (g:=false) (vs:=[.slice (some ⟨g,0,none⟩) m1 cap]) (ad:=⟨b2,0,none⟩) rfl kr kr ir (C43.cells 4 rfl rfl)) ?_);intro a44 G44;refine zD 3 [(25,.int .u32 (Int.fdiv (((l1.getD k1 0:Nat):Int)) (2^1))),(24,.int .u32 ((l1.getD k1 0:Nat):Int)),(23,.int .i64 (k1:Int))] G44 kr kr (fun a45 G45=>?_);have G46:=G45.set 25 (v':= .int .u32 ((l1.getD k1 0 / 2:Nat):Int)) kr rfl (zO (by rw[xH _ 1 (c:=2) (by decide) (by decide)];omega))
   refine qK G46 kr (zE (d:=26) (v:= .int .u32 ((r*2147483648:Nat):Int)) G46 kr (zB (t:=214) (g:=false) (vs:=[.int .u32 ((r*2147483648:Nat):Int)]) (ad:=⟨b25,0,none⟩) rfl kr kr ir (C43.cells 3 rfl rfl)) ?_);intro a47 G47;refine zD 1 [(27,.int .u32 (wQ ((l1.getD k1 0 / 2:Nat):Int) ((r*2147483648:Nat):Int)))] G47 kr kr (fun a48 G48=>?_);have G49:=G48.set 27 (v':= .int .u32 ((l1.getD k1 0 / 2+r*2147483648:Nat):Int)) kr rfl (zO (qFm _ _ (by omega) hr1))
   refine zD 2 [(29,.int .u32 (IntKind.u32.wrap (((l1.getD k1 0:Nat):Int)*2^31))),(28,.int .u32 ((l1.getD k1 0:Nat):Int))] G49 kr kr (fun a50 G50=>?_);have G51:=G50.set 29 (v':= .int .u32 ((l1.getD k1 0 % 2*2147483648:Nat):Int)) kr rfl (zO (by rw[jS];omega))
   refine qK G51 kr (zE (d:=30) (v:= .pointer (some ⟨g,k1,none⟩)) G51 kr (qQ (t:=26) (e:=214) (b:=g) (off:=0) (len:=m1) (cap:=cap) (kd:= .i64) (i:=(k1:Int)) (g:=false) (m:=1) (off':=k1) rfl kr kr kr kr (by omega) (by omega) (by first | rfl | omega | (simp;done) | (simp;omega)) _) ?_)
   intro a52 G52;refine qK G52 kr (rZ (t:=214) (y:=(l1.getD k1 0 / 2+r*2147483648)) (k:=k1) (e:=((l1.getD k1 0 / 2+r*2147483648:Nat):Int)) 5 G52 kr C43 rfl rfl rfl (by first | rfl | omega | (simp;omega)) kr rfl D2 (by have:=D2.len;(try simp only[List.length_set]at *);omega) (by omega) ?_)
   intro T53 w53 D53 C53 y53;refine qK G52 kr (zF (t:=214) (b:=b25) (off:=0) (c':=#[.int .u32 ((l1.getD k1 0 % 2*2147483648:Nat):Int)]) (g:=false) (m:=1) 3 _ G52 kr C53 rfl kr rfl kr kr kr rfl (by first | decide | (simp;done)) kr rfl ?_)
   intro w54 C54 y54;refine zH ?_;refine jP ?_;refine nV hr34 C54 (fun w55 C55 y55=>kP.next ?_);exact⟨_,T53,(l2.set k1 (l1.getD k1 0 / 2+r*2147483648)),l1.getD k1 0 % 2,C55,(Le5 y38 y43 y53 y54 y55),D53,by omega,qGo l1 l2 k1 r (by omega) (by omega) (heq2 k1 (by omega)) hv2,fun i hi=>by rw[kC (by omega)];exact heq2 i (by omega)⟩
  ·
   rintro w56 ⟨Y56,T2,l2,r,C56,y56,hp56_0,hp56_1,hp56_2,hp56_3⟩;refine xD.norm hr34 C56 (fun w57 C57 y57=>?_);have D2:=hp56_0;have hlen2:=D2.len;have hhalf:val l2*2=val l1:=by have h9:=hp56_2;have h8:=hp56_1;rw[List.take_zero]at h9;simp only[val,Nat.pow_zero]at h9;omega
   refine jP ?_;refine zA (Z28 _ _ ?_);refine zG (fun K58 Z58=>?_);refine zC ?_;refine qK G35 kr (zE (d:=31) (v:= .slice (some ⟨g,0,none⟩) m1 cap) G35 kr (zB (t:=26) (g:=false) (vs:=[.slice (some ⟨g,0,none⟩) m1 cap]) (ad:=⟨b2,0,none⟩) rfl kr kr ir (C57.cells 4 rfl rfl)) ?_);intro a59 G59;refine qK G59 kr (jY (d:=32) (f:=235) (cap:=#[]) (vs:=#[.slice (some ⟨g,0,none⟩) m1 cap]) G59 kr C57 rfl kr kr (fun w=>Tryz.call235 _ w) (cZ _ X0 (zT _) _ _ _ l2 (zS.limbs (Y:=X0) D2 (C57.get 5 rfl) (fun _ h=>h.elim))) ?_);rintro v60 w60 C60 y60 P60 rfl a61 G61;have hrt:=D2.trimmed;refine qK G61 kr (zF (t:=26) (b:=b2) (off:=0) (c':=#[.slice (some ⟨g,0,none⟩) (qI l2) cap]) (g:=false) (m:=1) 4 _ G61 kr C60 rfl kr rfl kr kr kr rfl (by first | decide | (simp;done)) kr rfl ?_)
   intro w62 C62 y62;refine zH ?_;refine zA (Z58 _ _ ?_);refine zC ?_;refine zD 2 [(34,.int .i64 (i64.wrap ((k:Int)+1))),(33,.int .i64 (k:Int))] G61 kr kr (fun a63 G63=>?_);have G64:=G63.set 34 (v':= .int .i64 ((k+1:Nat):Int)) kr rfl (zO (bA (by omega) (by omega)))
   refine zD 1 [(4,.int .i64 ((k+1:Nat):Int))] G64 kr kr (fun a65 G65=>?_);refine zH ?_;refine jP ?_;refine zA ?_;refine⟨k+1,⟨_,(_::bs),qI l2,T2,(Go.Gv.trimmed l2),G65.as [1,4] kr kr,(St.mid [(b2,.cells #[.slice (some ⟨g,0,none⟩) (qI l2) cap] 26 (0,0)),(g,.cells T2 214 (0,0))] C62.tail.swap.tail.swap.tail),(Le9 y8 y25 y27 y33 y34 y56 y57 y60 y62),hrt,qM _,by rw[qY,Nat.pow_succ,←hval1,←hhalf];ac_rfl⟩,?_⟩
   first | omega | (simp;omega)
  ·
   exact⟨_,T1,l1,0,C34,Le.refl _,D1,by omega,by rw[←hlen1,List.take_length];omega,fun _ _=>rfl⟩
 have G66:=G20.set 17 (v':= .bool false) kr rfl (zK J21);have F67:((l1.getD 0 0 % 2:Nat):Int)≠0:=by simpa using J21
 have hodd:val l1 % 2=1:=by rw[zPn];omega
 refine dP ?_;refine wN ?_;refine wN ?_;refine rH ?_;refine zA (Z7 _ _ ?_);refine zG (fun K68 Z68=>?_);refine zC ?_;refine qK G66 kr (zE (d:=35) (v:= .slice (some ⟨g,0,none⟩) m1 cap) G66 kr (zB (t:=26) (g:=false) (vs:=[.slice (some ⟨g,0,none⟩) m1 cap]) (ad:=⟨b2,0,none⟩) rfl kr kr ir (C8.cells 0 rfl rfl)) ?_);intro a69 G69;refine zD 3 [(3,.int .i64 (k:Int)),(2,.slice (some ⟨g,0,none⟩) m1 cap),(36,.int .i64 (k:Int))] G69 kr kr (fun a70 G70=>?_);refine zH ?_;refine zA (Z68 _ _ ?_);refine rQ ?_;refine qOi (bs:=bs) (N:=[(b2,.cells #[.slice (some ⟨g,0,none⟩) m1 cap] 26 (0,0)),(g,.cells T1 214 (0,0))]) (v:= .tuple #[.slice (some ⟨g,0,none⟩) m1 cap,.int .i64 (k:Int)]) (rs:=[.tmp 2,.tmp 3]) (vs:=[.slice (some ⟨g,0,none⟩) m1 cap,.int .i64 (k:Int)]) G70 C8 kr kr (fun w71 C71 y71=>?_);refine⟨(Res.tmp kr (Res.tmp kr Res.nil)),?_⟩;exact⟨C71.upd,_,rfl,k,T1,l1,by rw[hlen1],C71.get 1 rfl,by rw[hlen1];exact D1,hcan1,hval1,hodd⟩
set_option maxHeartbeats 1000000
theorem qFo{x y:Nat}(h:qC (x:Int) (y:Int)= -1):x<y:=by unfold qC at h;(repeat' split at h)<;>omega
theorem qMo{x y:Nat}(h:qC (x:Int) (y:Int)≠0)(h2:qC (x:Int) (y:Int)≠ -1):y<x:=by unfold qC at h h2;(repeat' split at h)<;>(repeat' split at h2)<;>omega
theorem qRg(w:World)(X:Hid)(hX:∀k o,X k o→k<w.heap.size)(ad:Option Addr)(len cap:Nat)(l:List Nat)(h:zL (rd w X) ad len cap l)(ad2:Option Addr)(len2 Q2:Nat)(l2:List Nat)(h2:zL (rd w X) ad2 len2 Q2 l2):Calls Tryz.prog 155 #[.slice ad len cap,.slice ad2 len2 Q2] w (Ret E0 w fun w' v=>zCl 214 w w' (kR l l2) (Nat.gcd (val l) (val l2)) v):=by
 obtain rfl:=h.hlen;obtain rfl:=h2.hlen;have hcap:=h.hcap;have hbig:=h.hbig;have hcap2:=h2.hcap;have hbig2:=h2.hbig;refine zen Tryz.func155 ?_;have C0:St E0 w X w X []:=St.start hX;refine zz 12 ?_;refine zc C0 (bH _ X0 (zT _) _ _ _ l (h.mono Le.x0) _ _ _ l2 (h2.mono Le.x0)) ?_;rintro v3 w3 C3 y3 P3 rfl;refine zz 9 ?_;refine zb 13 (b:=((kR l l2)!=0)) (fun J4=>?_) (fun J4=>?_);have F5:(kR l l2)≠0:=by simpa using J4
 refine zz 11 ?_;refine zr' (v:= .tuple #[.slice none 0 0,.int .i64 (kR l l2)]) ?_;exact⟨C3.upd,_,rfl,.inl ⟨F5,rfl⟩⟩;have F6:(kR l l2)=0:=by simpa using J4
 obtain⟨⟨hl1,c1⟩,hl2,c2⟩:=bL F6;refine zz 6 ?_;refine zc C3 (bQ _ X0 (zT _) _ _ _ l ((h.mono y3).mono Le.x0) (by omega)) ?_
 rintro v8 w8 C8 y8 P8 ⟨ad8,zAy,Q8,how8⟩;rcases how8 with⟨rfl,hlen8,hlt8,⟨rfl,rfl,rfl⟩ | ⟨g8,T8,rfl,hge8,hget8,D8⟩⟩
 have hnil8:l=[]:=List.eq_nil_of_length_eq_zero hlen8.symm;have hzA:val l=0:=by rw[hnil8];rfl
 refine zz 1 ?_;refine zc C8 (bQ _ X0 (zT _) _ _ _ l2 ((h2.mono (Le2 y3 y8)).mono Le.x0) (by omega)) ?_
 rintro v11 w11 C11 y11 P11 ⟨ad11,len11,Q11,how11⟩;rcases how11 with⟨rfl,hlen11,hlt11,⟨rfl,rfl,rfl⟩ | ⟨g11,T11,rfl,hge11,hget11,D11⟩⟩
 have hnil11:l2=[]:=List.eq_nil_of_length_eq_zero hlen11.symm;have hzB:val l2=0:=by rw[hnil11];rfl
 refine zz 23 ?_;refine zr' (v:= .tuple #[.slice none 0 0,.int .i64 0]) ?_;exact⟨C11.upd,_,rfl,.inr ⟨F6,_,[],_,_,_,rfl,⟨⟨rfl,rfl,fun x hx=>by simp at hx,.inl ⟨rfl,rfl,rfl⟩⟩,.inl rfl,by rw[hzA,hzB];rfl⟩,by simp⟩⟩
 subst hlen11;have C12:=St.adopt C11 (fun o h=>Nat.not_lt.2 hge11 (C8.lt _ _ h)) (Nat.le_trans C8.upd.size hge11) hget11;have y12:=Le.adopt y11 hge11;refine zz 23 ?_;refine zr' (v:= .tuple #[.slice (some ⟨g11,0,none⟩) l2.length Q11,.int .i64 0]) ?_;exact⟨C12.upd,_,rfl,.inr ⟨F6,_,l2,_,_,_,rfl,⟨⟨rfl,rfl,D11.lt,.inr ⟨_,_,rfl,C12.own_ge 0 rfl,C12.get 0 rfl,D11⟩⟩,c2,by rw[hzA,Nat.gcd_zero_left]⟩,hl2⟩⟩
 subst hlen8;have C9:=St.adopt C8 (fun o h=>Nat.not_lt.2 hge8 (C3.lt _ _ h)) (Nat.le_trans C3.upd.size hge8) hget8;have y9:=Le.adopt y8 hge8;refine zz 1 ?_;refine zc C9 (bQ _ X0 (zT _) _ _ _ l2 ((h2.mono (Le2 y3 y9)).mono Le.x0) (by omega)) ?_
 rintro v14 w14 C14 y14 P14 ⟨ad14,len14,Q14,how14⟩;rcases how14 with⟨rfl,hlen14,hlt14,⟨rfl,rfl,rfl⟩ | ⟨g14,T14,rfl,hge14,hget14,D14⟩⟩
 have hnil14:l2=[]:=List.eq_nil_of_length_eq_zero hlen14.symm;have hzB:val l2=0:=by rw[hnil14];rfl
 refine zz 12 ?_;refine zb 21 (b:=((l.length:Int)==0)) (fun J16=>?_) (fun J16=>?_);have F17:(l.length:Int)=0:=by simpa using J16
 have hzA:val l=0:=by rw[List.eq_nil_of_length_eq_zero (by omega:l.length=0)];rfl
 refine zz 11 ?_;refine zr' (v:= .tuple #[.slice none 0 0,.int .i64 0]) ?_;exact⟨C14.upd,_,rfl,.inr ⟨F6,_,[],_,_,_,rfl,⟨⟨rfl,rfl,fun x hx=>by simp at hx,.inl ⟨rfl,rfl,rfl⟩⟩,.inl rfl,by rw[hzA,hzB];rfl⟩,by simp⟩⟩
 have F18:(l.length:Int)≠0:=by simpa using J16
 have hposA:0<val l:=wK c1 (by rintro rfl;simp at F18)
 refine zz 22 ?_;refine zr' (v:= .tuple #[.slice (some ⟨g8,0,none⟩) l.length Q8,.int .i64 0]) ?_;exact⟨C14.upd,_,rfl,.inr ⟨F6,_,l,_,_,_,rfl,⟨⟨rfl,rfl,D8.lt,.inr ⟨_,_,rfl,C14.own_ge 0 rfl,C14.get 0 rfl,D8⟩⟩,c1,by rw[hzB,Nat.gcd_zero_right]⟩,hl1⟩⟩
 subst hlen14;have C15:=St.adopt C14 (fun o h=>Nat.not_lt.2 hge14 (C9.lt _ _ h)) (Nat.le_trans C9.upd.size hge14) hget14;have y15:=Le.adopt y14 hge14;refine zz 12 ?_;refine zb 21 (b:=((l.length:Int)==0)) (fun J19=>?_) (fun J19=>?_);have F20:(l.length:Int)=0:=by simpa using J19
 have hzA:val l=0:=by rw[List.eq_nil_of_length_eq_zero (by omega:l.length=0)];rfl
 refine zz 11 ?_;refine zr' (v:= .tuple #[.slice (some ⟨g14,0,none⟩) l2.length Q14,.int .i64 0]) ?_;exact⟨C15.upd,_,rfl,.inr ⟨F6,_,l2,_,_,_,rfl,⟨⟨rfl,rfl,D14.lt,.inr ⟨_,_,rfl,C15.own_ge 0 rfl,C15.get 0 rfl,D14⟩⟩,c2,by rw[hzA,Nat.gcd_zero_left]⟩,hl2⟩⟩
 have F21:(l.length:Int)≠0:=by simpa using J19
 have hposA:0<val l:=wK c1 (by rintro rfl;simp at F21)
 refine zz 11 ?_;refine zb 25 (b:=((l2.length:Int)==0)) (fun J22=>?_) (fun J22=>?_);have F23:(l2.length:Int)=0:=by simpa using J22
 have hzB:val l2=0:=by rw[List.eq_nil_of_length_eq_zero (by omega:l2.length=0)];rfl
 refine zz 11 ?_;refine zr' (v:= .tuple #[.slice (some ⟨g8,0,none⟩) l.length Q8,.int .i64 0]) ?_;exact⟨C15.upd,_,rfl,.inr ⟨F6,_,l,_,_,_,rfl,⟨⟨rfl,rfl,D8.lt,.inr ⟨_,_,rfl,C15.own_ge 1 rfl,C15.get 1 rfl,D8⟩⟩,c1,by rw[hzB,Nat.gcd_zero_right]⟩,hl1⟩⟩
 have F24:(l2.length:Int)≠0:=by simpa using J22
 have hposB:0<val l2:=wK c2 (by rintro rfl;simp at F24)
 refine zz 6 ?_;refine zcE 1 C15 rfl (zDa _ g8 l.length Q8 _ l (C15.get 1 rfl) D8 (by omega) c1 hposA) ?_
 rintro v26 w26 ob26 ⟨k26,T26,ls26,rfl,hg26,D26,hcan26,hval26,hodd26⟩ hob26 C26 y26;obtain rfl:=Option.some.inj (hob26.symm.trans hg26);refine zz 10 ?_;refine zcE 0 C26 rfl (zDa _ g14 l2.length Q14 _ l2 (C26.get 0 rfl) D14 (by omega) c2 hposB) ?_
 rintro v28 w28 ob28 ⟨k28,T28,ls28,rfl,hg28,D28,hcan28,hval28,hodd28⟩ hob28 C28 y28;obtain rfl:=Option.some.inj (hob28.symm.trans hg28);refine zz 12 ?_;refine zlp Tryz.f155 [] [1,0,1,1,1,1,1,1,1,0,0] (fun((N,gx,gy,capx,capy,lx,ly):Nat×Nat×Nat×Nat×Nat×(List Nat)×(List Nat))=>[(0,.slice (some ⟨gx,0,none⟩) lx.length capx),(1,.slice (some ⟨gy,0,none⟩) ly.length capy),(7,.int .i64 ((k26:Nat):Int)),(8,.int .i64 ((k28:Nat):Int))]) (fun(N,gx,gy,capx,capy,lx,ly)w1=>∃(Y1:Hid)(curx:Array Value)(cury:Array Value),St E0 w X w1 Y1 [(gy,.cells cury 214 (0,0)),(gx,.cells curx 214 (0,0))]∧Le (rd w28 (bY g14 (bY g8 X))) (rd w1 Y1)∧(zS lx.length capx curx lx)∧(zS ly.length capy cury ly)∧(zQ lx)∧(zQ ly)∧(val lx % 2=1)∧(val ly % 2=1)∧(Nat.gcd (val lx) (val ly)=Nat.gcd (val ls26) (val ls28))∧(val lx+val ly=N)∧(lx.length≤512)∧(ly.length≤512)) (fun(N,gx,gy,capx,capy,lx,ly)=>N) ((val ls26+val ls28),g8,g14,Q8,Q14,ls26,ls28) ?_ ?_;refine⟨_,T26,T28,C28,Le.refl _,D26,D28,hcan26,hcan28,hodd26,hodd28,rfl,rfl,Nat.le_trans (zV h.hlt hcan26 (by have:=Nat.le_mul_of_pos_right (val ls26) (Nat.two_pow_pos k26);omega)) hl1,Nat.le_trans (zV h2.hlt hcan28 (by have:=Nat.le_mul_of_pos_right (val ls28) (Nat.two_pow_pos k28);omega)) hl2⟩
 rintro⟨N,gx,gy,capx,capy,lx,ly⟩ w29 K29 Z29 ⟨Y29,curx,cury,C29,y29,hp29_0,hp29_1,hp29_2,hp29_3,hp29_4,hp29_5,hp29_6,hp29_7,hp29_8,hp29_9⟩;have hrowx:=hp29_0;have hrowy:=hp29_1;have hcanx:=hp29_2;have hcany:=hp29_3;have hoddx:=hp29_4;have hoddy:=hp29_5;have hg0:=hp29_6;have hN:=hp29_7;have hlx:=hp29_8;have hly:=hp29_9;refine zz 6 ?_;refine zc C29 (aL _ X0 (zT _) _ _ _ lx (zS.limbs (Y:=X0) hrowx (C29.get 1 rfl) (fun _ h=>h.elim)) _ _ _ ly (zS.limbs (Y:=X0) hrowy (C29.get 0 rfl) (fun _ h=>h.elim)) hcanx hcany (by omega)) ?_ (vs:=#[.slice (some ⟨gx,0,none⟩) lx.length capx,.slice (some ⟨gy,0,none⟩) ly.length capy])
 rintro v31 w31 C31 y31 P31 rfl;refine zz 9 ?_;refine zb 40 (b:=((qC (val lx) (val ly))==0)) (fun J32=>?_) (fun J32=>?_);have F33:(qC (val lx) (val ly))=0:=by simpa using J32
 have hxy:=mM F33;refine zz 14 ?_;refine zs 56 (v:= .int .i64 (if((k28:Nat):Int)<((k26:Nat):Int)then((k28:Nat):Int)else((k26:Nat):Int))) (v':= .int .i64 ((min k26 k28:Nat):Int)) (zO (by split<;>omega)) ?_
 refine zz 4 ?_;have hgab:=qAg hodd26 hodd28 hval26 hval28;rw[←hg0,←hxy,Nat.gcd_self]at hgab;have hgle:Nat.gcd (val l) (val l2)≤val l:=Nat.gcd_le_left _ hposA;refine zlp Tryz.f155 [K29] [1,0,1,1,1,1,1,1,1,1,0,1,0] (fun((i,gd,capd,ld):Nat×Nat×Nat×(List Nat))=>[(0,.slice (some ⟨gd,0,none⟩) ld.length capd),(56,.int .i64 ((min k26 k28:Nat):Int)),(57,.int .i64 (i:Int))]) (fun(i,gd,capd,ld)w1=>∃(Y1:Hid)(curd:Array Value),St E0 w X w1 Y1 [(gd,.cells curd 214 (0,0))]∧Le (rd w31 Y29) (rd w1 Y1)∧(zS ld.length capd curd ld)∧(zQ ld)∧(val ld=val lx*2^i)∧(i≤min k26 k28)) (fun(i,gd,capd,ld)=>min k26 k28-i) (0,gx,capx,lx) ?_ ?_;refine⟨_,curx,C31.tail,Le.refl _,hrowx,hcanx,by simp,Nat.zero_le _⟩
 rintro⟨i,gd,capd,ld⟩ w34 K34 Z34 ⟨Y34,curd,C34,y34,hp34_0,hp34_1,hp34_2,hp34_3⟩;have hrowd:=hp34_0;have hcand:=hp34_1;have hvald:=hp34_2;have hik:=hp34_3;have hb1:val lx*2^i≤val lx*2^(min k26 k28):=Nat.mul_le_mul_left _ (Nat.pow_le_pow_right (by omega) hik)
 have hb2:=zV h.hlt hcand (by omega:val ld≤val l)
 have hb3:0<ld.length:=by rcases Nat.eq_zero_or_pos ld.length with e | e;rw[List.eq_nil_of_length_eq_zero e]at hvald;have:=Nat.mul_pos (by omega:0<val lx) (Nat.two_pow_pos i);simp only[val]at hvald;omega;exact e
 obtain⟨_,hkb⟩:=zFy hval26 (by omega) (yH h.hlt)
 refine zz 6 ?_;refine zt 58 (p:=(i:Int)<((min k26 k28:Nat):Int)) (fun F35=>?_) (fun F35=>?_);refine zz 7 ?_;refine zop (at1 [K29,K34] Tryz.f155 [1,0,1,1,1,1,1,1,1,1,0,1,0,0,1,1,0,0]) 1 (fun a36 _ G36 hz36=>zWk 0 G36 C34 rfl (zMz _ gd ld.length capd _ ld (C34.get 0 rfl) hrowd (by omega) hcand 0 (by omega)) ?_)
 rintro v37 w37 Y37 g37 o37 ⟨T37,Q37,ls37,rfl,rfl,D37,hlen37,hcan37,hval37⟩ C37 y37 a38 G38;refine hz36 G38 ?_;refine zz 6 ?_;refine zw 61 (x:=(i:Int)+1) ?_;refine zz 2 ?_;refine yL (fun a h=>Z34 ((i+1,g37,Q37,ls37)) _ a h ⟨_,T37,C37,(Le2 y34 y37),D37,hcan37,by rw[hval37,hvald,Nat.pow_succ];simp only[Nat.add_zero];ac_rfl,by omega⟩ ?_)
 first | omega | (simp<;>omega)
 refine zz 15 ?_;refine zr' (v:= .tuple #[.slice (some ⟨gd,0,none⟩) ld.length capd,.int .i64 0]) ?_;exact⟨C34.upd,_,rfl,.inr ⟨F6,_,ld,_,_,_,rfl,⟨⟨rfl,rfl,hrowd.lt,.inr ⟨_,_,rfl,C34.own_ge 0 rfl,C34.get 0 rfl,hrowd⟩⟩,hcand,by rw[hvald,←hgab];congr 2;omega⟩,by omega⟩⟩
 have F39:(qC (val lx) (val ly))≠0:=by simpa using J32
 refine zz 7 ?_;refine zb 42 (b:=((qC (val lx) (val ly))==(-1))) (fun J40=>?_) (fun J40=>?_);have F41:(qC (val lx) (val ly))=(-1):=by simpa using J40
 have hcmp:=qFo F41;refine zz 13 ?_;refine zcE 0 C31 rfl (wY _ gy ly.length capy _ ly (C31.get 0 rfl) hrowy (by omega) _ _ _ lx (zS.limbs (Y:=HG gy) hrowx (C31.get 1 rfl) (fun o h=>C31.ne (i:=1) (j:=0) rfl rfl (by decide) h)) (zV hrowy.lt hcanx (by omega)) (by omega)) ?_ (vs:=#[.slice (some ⟨gy,0,none⟩) ly.length capy,.slice (some ⟨gx,0,none⟩) lx.length capx])
 rintro v43 w43 ob43 ⟨T43,ls43,rfl,hg43,D43,hcan43,hval43⟩ hob43 C43 y43;obtain rfl:=Option.some.inj (hob43.symm.trans hg43);refine zz 5 ?_;have hz0:=zV hrowy.lt hcan43 (by omega:val ls43≤val ly)
 refine zcE 0 C43 rfl (zDa _ gy ls43.length capy _ ls43 (C43.get 0 rfl) D43 (by omega) hcan43 (by omega)) ?_
 rintro v45 w45 ob45 ⟨k45,T45,ls45,rfl,hg45,D45,hcan45,hval45,hodd45⟩ hob45 C45 y45;obtain rfl:=Option.some.inj (hob45.symm.trans hg45);refine zz 6 ?_;have hz1:val ls45*2^k45=val ly-val lx:=hval45.trans hval43;have hz2:val ls45≤val ls45*2^k45:=Nat.le_mul_of_pos_right _ (Nat.two_pow_pos _);have hz3:=zNk hoddx (by omega) hz1
 have hz4:=zV hrowy.lt hcan45 (by omega:val ls45≤val ly)
 have J1_:=(Le3 y29 y31 y43).trans y45;refine yL (fun a h=>Z29 (((val ls45+val lx),gy,gx,capy,capx,ls45,lx)) _ a h ⟨_,T45,curx,C45.swap,J1_,D45,hrowx,hcan45,hcanx,hodd45,hoddx,by rw[hz3];rw[Nat.gcd_comm];exact hg0,rfl,by omega,by omega⟩ ?_)
 first | omega | (simp<;>omega)
 have F46:(qC (val lx) (val ly))≠(-1):=by simpa using J40
 have hcmp:=qMo F39 F46;refine zz 8 ?_;refine zcE 1 C31 rfl (wY _ gx lx.length capx _ lx (C31.get 1 rfl) hrowx (by omega) _ _ _ ly (zS.limbs (Y:=HG gx) hrowy (C31.get 0 rfl) (fun o h=>C31.ne (i:=0) (j:=1) rfl rfl (by decide) h)) (zV hrowx.lt hcany (by omega)) (by omega)) ?_ (vs:=#[.slice (some ⟨gx,0,none⟩) lx.length capx,.slice (some ⟨gy,0,none⟩) ly.length capy])
 rintro v48 w48 ob48 ⟨T48,ls48,rfl,hg48,D48,hcan48,hval48⟩ hob48 C48 y48;obtain rfl:=Option.some.inj (hob48.symm.trans hg48);refine zz 5 ?_;have hz0:=zV hrowx.lt hcan48 (by omega:val ls48≤val lx)
 refine zcE 1 C48 rfl (zDa _ gx ls48.length capx _ ls48 (C48.get 1 rfl) D48 (by omega) hcan48 (by omega)) ?_
 rintro v50 w50 ob50 ⟨k50,T50,ls50,rfl,hg50,D50,hcan50,hval50,hodd50⟩ hob50 C50 y50;obtain rfl:=Option.some.inj (hob50.symm.trans hg50);refine zz 6 ?_;have hz1:val ls50*2^k50=val lx-val ly:=hval50.trans hval48;have hz2:val ls50≤val ls50*2^k50:=Nat.le_mul_of_pos_right _ (Nat.two_pow_pos _);have hz3:=zNk hoddy (by omega) hz1
 have hz4:=zV hrowx.lt hcan50 (by omega:val ls50≤val lx)
 have J2_:=(Le3 y29 y31 y48).trans y50;refine yL (fun a h=>Z29 (((val ls50+val ly),gx,gy,capx,capy,ls50,ly)) _ a h ⟨_,T50,cury,C50,J2_,D50,hrowy,hcan50,hcany,hodd50,hoddy,by rw[hz3];exact hg0,rfl,by omega,by omega⟩ ?_)
 first | omega | (simp<;>omega)
section
variable (w:World)(X:Hid)(hX:∀k o,X k o→k<w.heap.size)
set_option maxHeartbeats 1000000
def zAy:ByteArray:=⟨#[0,1,2,2,3,3,3,3,4,4,4,4,4,4,4,4,5,5,5,5,5,5,5,5,5,5,5,5,5,5,5,5,6,6,6,6,6,6,6,6,6,6,6,6,6,6,6,6,6,6,6,6,6,6,6,6,6,6,6,6,6,6,6,6,7,7,7,7,7,7,7,7,7,7,7,7,7,7,7,7,7,7,7,7,7,7,7,7,7,7,7,7,7,7,7,7,7,7,7,7,7,7,7,7,7,7,7,7,7,7,7,7,7,7,7,7,7,7,7,7,7,7,7,7,7,7,7,7,8,8,8,8,8,8,8,8,8,8,8,8,8,8,8,8,8,8,8,8,8,8,8,8,8,8,8,8,8,8,8,8,8,8,8,8,8,8,8,8,8,8,8,8,8,8,8,8,8,8,8,8,8,8,8,8,8,8,8,8,8,8,8,8,8,8,8,8,8,8,8,8,8,8,8,8,8,8,8,8,8,8,8,8,8,8,8,8,8,8,8,8,8,8,8,8,8,8,8,8,8,8,8,8,8,8,8,8,8,8,8,8,8,8,8,8,8,8,8,8,8,8,8,8,8,8,8,8]⟩
theorem zWf:∀n,n<256→(zAy.data[n]?.isSome=true)∧n<2^(zAy.data[n]?.getD 0).toNat∧(zAy.data[n]?.getD 0).toNat≤8:=by decide+kernel
theorem zDc(n:Nat)(h:n<256):∃b:UInt8,zAy[n]?=some b∧n<2^b.toNat∧b.toNat≤8:=by
 obtain⟨h1,h2,h3⟩:=zWf n h;obtain⟨b,hb⟩:=Option.isSome_iff_exists.1 h1;rw[hb]at h2 h3;refine⟨b,?_,h2,h3⟩;obtain⟨h4,h5⟩:=Array.getElem?_eq_some_iff.1 hb;have h6:n<zAy.size:=h4;rw[getElem?_pos zAy n h6];exact congrArg some h5
include hX in
theorem qHd(x:Nat)(hx:x<4294967296):Calls Tryz.prog 309 #[.int .u32 (x:Int)] w (Ret E0 w fun _ v=>∃r:Nat,v= .int .i64 (r:Int)∧x<2^r∧r≤32):=by
 refine zen Tryz.func309 ?_;have C0:St E0 w X w X []:=St.start hX;refine zz 12 ?_;refine zt 4 (p:=(x:Int)≥65536) (fun F2=>?_) (fun F2=>?_);refine zz 5 ?_;refine zs 6 (v:= .int .u32 (Int.fdiv ((x:Int)) (2^16))) (v':= .int .u32 ((x / 65536:Nat):Int)) (zO (by rw[xH _ 16 (c:=65536) (by decide) (by decide)];omega)) ?_
 refine zz 14 ?_;refine zt 8 (p:=((x / 65536:Nat):Int)≥256) (fun F3=>?_) (fun F3=>?_);refine zz 5 ?_;refine zs 10 (v:= .int .u32 (Int.fdiv (((x / 65536:Nat):Int)) (2^8))) (v':= .int .u32 ((x / 65536 / 256:Nat):Int)) (zO (by rw[xH _ 8 (c:=256) (by decide) (by decide)];omega)) ?_
 refine zz 14 ?_;refine zs 15 (v:= .int .u8 (IntKind.u8.wrap (((x / 65536 / 256:Nat):Int)))) (v':= .int .u8 ((x / 65536 / 256:Nat):Int)) (zO (wu8 (by omega) (by omega))) ?_
 obtain⟨b8,hb8,hb2,hb3⟩:=zDc (x / 65536 / 256) (by omega)
 refine zop (at1 [] Tryz.f309 [1,1,1,0]) 3 (fun a4 _ G4 hz4=>zE (d:=16) (v:= .int .u8 ((b8.toNat:Nat):Int)) G4 kr (fV (s:=zAy) (i:=(x / 65536 / 256)) rfl kr rfl rfl hb8) ?_);intro a5 G5;refine hz4 G5 ?_;refine zz 1 ?_;refine zw 17 (x:=((b8.toNat:Nat):Int)) ?_;refine zz 1 ?_;refine zw 18 (x:=(24:Int)+((b8.toNat:Nat):Int)) ?_;refine zz 4 ?_;refine zr' (v:= .int .i64 ((24:Int)+((b8.toNat:Nat):Int))) ?_;refine⟨C0.upd,_,rfl,24+b8.toNat,zO (by omega),?_,by omega⟩
 rw[Nat.pow_add];generalize 2^b8.toNat=t at *;omega;refine zz 8 ?_;refine zs 15 (v:= .int .u8 (IntKind.u8.wrap (((x / 65536:Nat):Int)))) (v':= .int .u8 ((x / 65536:Nat):Int)) (zO (wu8 (by omega) (by omega))) ?_
 obtain⟨b8,hb8,hb2,hb3⟩:=zDc (x / 65536) (by omega)
 refine zop (at1 [] Tryz.f309 [1,1,1,0]) 3 (fun a6 _ G6 hz6=>zE (d:=16) (v:= .int .u8 ((b8.toNat:Nat):Int)) G6 kr (fV (s:=zAy) (i:=(x / 65536)) rfl kr rfl rfl hb8) ?_);intro a7 G7;refine hz6 G7 ?_;refine zz 1 ?_;refine zw 17 (x:=((b8.toNat:Nat):Int)) ?_;refine zz 1 ?_;refine zw 18 (x:=(16:Int)+((b8.toNat:Nat):Int)) ?_;refine zz 4 ?_;refine zr' (v:= .int .i64 ((16:Int)+((b8.toNat:Nat):Int))) ?_;refine⟨C0.upd,_,rfl,16+b8.toNat,zO (by omega),?_,by omega⟩
 rw[Nat.pow_add];generalize 2^b8.toNat=t at *;omega;refine zz 10 ?_;refine zt 8 (p:=(x:Int)≥256) (fun F8=>?_) (fun F8=>?_);refine zz 5 ?_;refine zs 10 (v:= .int .u32 (Int.fdiv ((x:Int)) (2^8))) (v':= .int .u32 ((x / 256:Nat):Int)) (zO (by rw[xH _ 8 (c:=256) (by decide) (by decide)];omega)) ?_
 refine zz 14 ?_;refine zs 15 (v:= .int .u8 (IntKind.u8.wrap (((x / 256:Nat):Int)))) (v':= .int .u8 ((x / 256:Nat):Int)) (zO (wu8 (by omega) (by omega))) ?_
 obtain⟨b8,hb8,hb2,hb3⟩:=zDc (x / 256) (by omega)
 refine zop (at1 [] Tryz.f309 [1,1,1,0]) 3 (fun a9 _ G9 hz9=>zE (d:=16) (v:= .int .u8 ((b8.toNat:Nat):Int)) G9 kr (fV (s:=zAy) (i:=(x / 256)) rfl kr rfl rfl hb8) ?_);intro a10 G10;refine hz9 G10 ?_;refine zz 1 ?_;refine zw 17 (x:=((b8.toNat:Nat):Int)) ?_;refine zz 1 ?_;refine zw 18 (x:=(8:Int)+((b8.toNat:Nat):Int)) ?_;refine zz 4 ?_;refine zr' (v:= .int .i64 ((8:Int)+((b8.toNat:Nat):Int))) ?_;refine⟨C0.upd,_,rfl,8+b8.toNat,zO (by omega),?_,by omega⟩
 rw[Nat.pow_add];generalize 2^b8.toNat=t at *;omega;refine zz 8 ?_;refine zs 15 (v:= .int .u8 (IntKind.u8.wrap ((x:Int)))) (v':= .int .u8 ((x:Nat):Int)) (zO (wu8 (by omega) (by omega))) ?_
 obtain⟨b8,hb8,hb2,hb3⟩:=zDc (x) (by omega)
 refine zop (at1 [] Tryz.f309 [1,1,1,0]) 3 (fun a11 _ G11 hz11=>zE (d:=16) (v:= .int .u8 ((b8.toNat:Nat):Int)) G11 kr (fV (s:=zAy) (i:=x) rfl kr rfl rfl hb8) ?_);intro a12 G12;refine hz11 G12 ?_;refine zz 1 ?_;refine zw 17 (x:=((b8.toNat:Nat):Int)) ?_;refine zz 1 ?_;refine zw 18 (x:=(0:Int)+((b8.toNat:Nat):Int)) ?_;refine zz 4 ?_;refine zr' (v:= .int .i64 ((0:Int)+((b8.toNat:Nat):Int))) ?_;refine⟨C0.upd,_,rfl,0+b8.toNat,zO (by omega),?_,by omega⟩
 rw[Nat.pow_add];generalize 2^b8.toNat=t at *;omega
include hX in
theorem qBe(ad:Option Addr)(len cap:Nat)(l:List Nat)(h:zL (rd w X) ad len cap l)(hm:len≤1099511627776):Calls Tryz.prog 298 #[.slice ad len cap] w (Ret E0 w fun _ v=>∃m:Nat,v= .int .i64 (m:Int)∧val l<2^m∧m≤32*l.length):=by
 obtain rfl:=h.hlen;have hcap:=h.hcap;have hbig:=h.hbig;refine zen Tryz.func298 ?_;have C0:St E0 w X w X []:=St.start hX;refine zz 13 ?_;refine zb 5 (b:=((l.length:Int)==0)) (fun J2=>?_) (fun J2=>?_);have F3:(l.length:Int)=0:=by simpa using J2
 have hnil:l=[]:=List.eq_nil_of_length_eq_zero (by omega)
 refine zz 8 ?_;refine zr' (v:= .int .i64 0) ?_;exact⟨C0.upd,_,rfl,0,rfl,by rw[hnil];simp[val],by omega⟩
 have F4:(l.length:Int)≠0:=by simpa using J2
 obtain⟨bk5,of6,rfl,_⟩:=h.addr (by omega)
 have htop:=h.getD_lt (l.length-1);refine zz 8 ?_;refine zw 8 (x:=(l.length:Int)-1) ?_;refine zz 1 ?_;refine zw 9 (x:=(32:Int)*((l.length:Int)-1)) ?_;refine zz 4 ?_;refine zw 13 (x:=(l.length:Int)-1) ?_;refine zi (b:=bk5) (off:=of6) (len:=l.length) (cap:=cap) (kd:= .i64) (i:=(l.length:Int)-1) 1 (of6+(l.length-1)) ?_ (hoff:=(by first | omega | (simp;done) | (simp;omega)))
 refine zl ((h.cell (i:=(l.length-1)) (by omega)).mono (Le.refl _)).cells ?_
 refine zc C0 (qHd _ _ C0.lt (l.getD (l.length-1) 0) (by omega)) ?_
 rintro v8 w8 C8 y8 P8 ⟨r8,rfl,hr8,hs8⟩;refine zz 1 ?_;refine zw 17 (x:=((32:Int)*((l.length:Int)-1))+(r8:Int)) ?_;refine zz 4 ?_;refine zr' (v:= .int .i64 (((32:Int)*((l.length:Int)-1))+(r8:Int))) ?_;exact⟨C8.upd,_,rfl,32*(l.length-1)+r8,zO (by omega),qHe l h.hlt _ (by omega) hr8,by omega⟩
include hX in
theorem zZi(ad:Option Addr)(len cap:Nat):Calls Tryz.prog 284 #[.slice ad len cap] w (Ret E0 w fun w' v=>∃bx,v= .func (.func 297) #[] #[.pointer (some ⟨bx,0,none⟩)]∧w.heap.size≤bx∧w'.heap[bx]?=some (.cells #[.slice ad len cap] 26 (0,0))):=by
 refine zen Tryz.func284 ?_;have C0:St E0 w X w X []:=St.start hX;refine zz 2 ?_;refine zn pn (.cells #[.slice ad len cap] 26 (0,0)) C0 fun b3 w3 Y3 C3 y3 P3=>?_;refine zz 10 ?_;refine zr' (v:= .func (.func 297) #[] #[.pointer (some ⟨b3,0,none⟩)]) ?_;exact⟨C3.upd,_,rfl,_,rfl,C3.own_ge 0 rfl,C3.get 0 rfl⟩
theorem zVr(l bx:Nat)(ad:Option Addr)(len cap:Nat)(xs:List Nat)(hbig:len≤1099511627776)(J:Nat→World→Prop)(R:World→Prop)(w:World)(hlimbs:zL (rd w X0) ad len cap xs)
    (hread:∀k w,J k w→At (rd w X0) ⟨bx,0,none⟩ [.slice ad len cap])
    (hel:∀k w,J (k+1) w→k / 32<len→∃b off,ad=some ⟨b,off,none⟩∧At (rd w X0) ⟨b,off+k / 32,none⟩ [.int .u32 ((xs.getD (k / 32) 0:Nat):Int)])
    (hY:∀k w,k<32*len→J (k+1) w→YieldAt (FF none) 0 Tryz.prog l #[.int .i64 (k:Int),.int .u32 ((val xs / 2^k % 2:Nat):Int)] w (kP (J k) R))
    (h0:∀w,J 0 w→R w) (hbx:At (rd w X0) ⟨bx,0,none⟩ [.slice ad len cap]) (hJ:∀m w',Upd E0 w w'→val xs<2^m→m≤32*xs.length→J m w'):Calls Tryz.prog 297 #[.func (.yield l) #[] #[],.pointer (some ⟨bx,0,none⟩)] w (fun e w'=>(∃v,e= .returned v)∧R w'):=by
 obtain rfl:=hlimbs.hlen;refine zDb (n:=24) (vs:=[.func (.yield l) #[] #[],.pointer (some ⟨bx,0,none⟩)]) Tryz.func297 rfl rfl rfl kr (fun a0 G0=>?_);have G0:Fr 24 a0 [(0,.func (.yield l) #[] #[]),(1,.pointer (some ⟨bx,0,none⟩))]:=G0;have C0:St E0 w X0 w X0 []:=St.start (zT _);refine zG (fun K1 Z1=>?_);refine zC ?_;refine qK G0 kr (zE (d:=4) (v:= .slice ad xs.length cap) G0 kr (zB (t:=26) (g:=false) (vs:=[.slice ad xs.length cap]) (ad:=⟨bx,0,none⟩) rfl kr kr ir (hbx).cells) ?_);intro a2 G2;refine qK G2 kr (jY (d:=5) (f:=298) (cap:=#[]) (vs:=#[.slice ad xs.length cap]) G2 kr C0 rfl kr kr (fun w=>Tryz.call298 _ w) (qBe _ X0 (zT _) _ _ _ xs hlimbs (by omega)) ?_)
 rintro v3 w3 C3 y3 P3 ⟨m,rfl,hm1,hm2⟩ a4 G4;refine zD 1 [(6,.int .i64 (i64.wrap ((m:Int)-1)))] G4 kr kr (fun a5 G5=>?_);have G6:=G5.set 6 (v':= .int .i64 ((m:Int)-1)) kr rfl (zO (bA (by omega) (by omega)))
 refine zD 1 [(3,.int .i64 ((m:Int)-1))] G6 kr kr (fun a7 G7=>?_);refine zH ?_;refine zA (Z1 _ _ ?_);refine jX ?_;refine lC (fun(k:Nat)a w1=>Fr 24 a [(0,.func (.yield l) #[] #[]),(1,.pointer (some ⟨bx,0,none⟩)),(3,.int .i64 ((k:Int)-1))]∧J k w1∧k≤32*xs.length) (fun k=>k) m ?_ ?_
 ·
  exact⟨G7.as [0,1,3] kr kr,hJ m _ P3 hm1 hm2,hm2⟩
 rintro k a8 w8 ⟨G8,hJ8,hk⟩;have C8:St E0 w8 X0 w8 X0 []:=St.start (zT _);refine zG (fun K9 Z9=>?_);refine zG (fun K10 Z10=>?_);refine zC ?_;refine zD 2 [(8,.bool (decide (((k:Int)-1)≥0))),(7,.int .i64 ((k:Int)-1))] G8 kr kr (fun a11 G11=>?_);refine zH ?_;refine zA (Z10 _ _ ?_);refine sK (decide (((k:Int)-1)≥0)) G11 kr kr (fun J12=>?_) (fun J12=>?_)
 ·
  have G13:=G11.set 8 (v':= .bool true) kr rfl (zK J12);have F14:((k:Int)-1)≥0:=of_decide_eq_true J12;obtain⟨j,rfl⟩:∃j,k=j+1:=⟨k-1,by omega⟩
  have G15:=G13.set 3 (v:= .int .i64 (((j+1:Nat):Int)-1)) (v':= .int .i64 (j:Int)) kr kr (zO (by omega))
  obtain⟨b,off,rfl,hel1⟩:=hel j _ hJ8 (by omega)
  have hltj:xs.getD (j / 32) 0<4294967296:=hlimbs.getD_lt _;refine xV ?_;refine zA (Z9 _ _ ?_);refine zG (fun K16 Z16=>?_);refine jX ?_;refine zG (fun K17 Z17=>?_);refine zC ?_;refine zD 2 [(12,.int .i64 (j:Int)),(11,.func (.yield l) #[] #[])] G15 kr kr (fun a18 G18=>?_);refine qK G18 kr (zE (d:=13) (v:= .slice (some ⟨b,off,none⟩) xs.length cap) G18 kr (zB (t:=26) (g:=false) (vs:=[.slice (some ⟨b,off,none⟩) xs.length cap]) (ad:=⟨bx,0,none⟩) rfl kr kr ir ((hread _ _ hJ8)).cells) ?_);intro a19 G19;refine zD 2 [(15,.int .i64 (i64.wrap (Int.tdiv ((j:Int)) (32)))),(14,.int .i64 (j:Int))] G19 kr kr (fun a20 G20=>?_);have G21:=G20.set 15 (v':= .int .i64 ((j / 32:Nat):Int)) kr rfl (zO (lV _ (by omega)))
  refine qK G21 kr (zE (d:=16) (v:= .pointer (some ⟨b,off+j / 32,none⟩)) G21 kr (qQ (t:=26) (e:=214) (b:=b) (off:=off) (len:=xs.length) (cap:=cap) (kd:= .i64) (i:=((j / 32:Nat):Int)) (g:=false) (m:=1) (off':=off+j / 32) rfl kr kr kr kr (by omega) (by omega) (by first | rfl | omega | (simp;done) | (simp;omega)) _) ?_)
  intro a22 G22;refine qK G22 kr (zE (d:=17) (v:= .int .u32 ((xs.getD (j / 32) 0:Nat):Int)) G22 kr (zB (t:=214) (g:=false) (vs:=[.int .u32 ((xs.getD (j / 32) 0:Nat):Int)]) (ad:=⟨b,off+j / 32,none⟩) rfl kr kr ir (hel1).cells) ?_);intro a23 G23;refine zD 2 [(19,.int .i64 (Int.tmod ((j:Int)) (32))),(18,.int .i64 (j:Int))] G23 kr kr (fun a24 G24=>?_);have G25:=G24.set 19 (v':= .int .i64 ((j % 32:Nat):Int)) kr rfl (zO (zBo _));refine qK G25 kr (zE (d:=20) (v:= .int .u32 ((xs.getD (j / 32) 0 / 2^(j % 32):Nat):Int)) G25 kr (qDv rfl rfl rfl (by omega)) ?_)
  intro a26 G26;refine zD 1 [(21,.int .u32 (xS ((xs.getD (j / 32) 0 / 2^(j % 32):Nat):Int) 1))] G26 kr kr (fun a27 G27=>?_);have G28:=G27.set 21 (v':= .int .u32 ((val xs / 2^j % 2:Nat):Int)) kr rfl (zO ((zMm _ (Nat.lt_of_le_of_lt (Nat.div_le_self _ _) hltj)).trans (by rw[zDx xs hlimbs.hlt j (by omega)])))
  refine zIz (d:=22) (l:=l) (vs:=#[.int .i64 (j:Int),.int .u32 ((val xs / 2^j % 2:Nat):Int)]) G28 kr rfl kr kr (hY j _ (by omega) hJ8) (fun _ _ h=>h.ret) ?_
  rintro v29 w29 ⟨bb29,hv29,hJ29,hR29⟩ a30 G30;cases hv29;have C29:St E0 w29 X0 w29 X0 []:=St.start (zT _);refine zD 1 [(23,.bool (!bb29))] G30 kr kr (fun a31 G31=>?_);refine zH ?_;refine zA (Z17 _ _ ?_);refine sK (!bb29) G31 kr kr (fun J32=>?_) (fun J32=>?_)
  ·
   have G33:=G31.set 23 (v':= .bool true) kr rfl (zK J32);have F34:bb29=false:=by simpa using J32
   have hbb:=F34;refine rQ ?_;refine gI ?_;refine pO ?_;refine pO ?_;refine gI ?_;refine zSp (v:= .tuple #[]) (rs:=[]) G33 kr Res.nil kr ?_;exact⟨⟨_,rfl⟩,(hR29 hbb)⟩
  have G35:=G31.set 23 (v':= .bool false) kr rfl (zK J32);have F36:bb29=true:=by simpa using J32
  have hbb:=F36;refine xV ?_;refine jP ?_;refine zA (Z16 _ _ ?_);refine zC ?_;refine zD 2 [(10,.int .i64 (i64.wrap ((j:Int)-1))),(9,.int .i64 (j:Int))] G35 kr kr (fun a37 G37=>?_);have G38:=G37.set 10 (v':= .int .i64 ((j:Int)-1)) kr rfl (zO (bA (by omega) (by omega)))
  refine zD 1 [(3,.int .i64 ((j:Int)-1))] G38 kr kr (fun a39 G39=>?_);refine zH ?_;refine zA ?_;exact⟨j,⟨G39.as [0,1,3] kr kr,hJ29 hbb,by omega⟩,by show j<j+1;omega⟩
 have G40:=G11.set 8 (v':= .bool false) kr rfl (zK J12);have F41:¬(((k:Int)-1)≥0):=of_decide_eq_false J12;have hk0:k=0:=by omega
 refine dP ?_;refine wN ?_;refine wN ?_;refine rH ?_;refine zMo (v:= .tuple #[]) (rs:=[]) G40 kr Res.nil kr ?_;exact⟨⟨_,rfl⟩,(h0 _ (hk0▸hJ8))⟩
end
end Go.Proofs.YtdfmdiakjdggbaaGreatDoor

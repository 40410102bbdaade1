import Derived.Test.YtjnpoeilfdbaaaaGreatDoorRows
import Derived.Test.YtjnpoeilfdbaaaaGreatDoorBaseA
set_option linter.unusedVariables false
set_option linter.unusedSimpArgs false
set_option linter.unnecessarySimpa false
namespace Go.Gv
open Go.RowKit IntKind
attribute [local semireducible] Go
structure Pn where
 i:Nat
 d:Nat
 deps:List Nat
 vf:(Nat→Nat)→Value
 ob:Option ((Nat→Nat)→Obj)
def al(i d:Nat)(vf:Nat→Value)(ob:Obj):Pn:=⟨i,d,[i],fun e=>vf (e 0),some fun _=>ob⟩
def Pn.loc(p:Pn)(e:Nat→Nat):Nat→Nat:=fun k=>e (p.deps.getD k p.i)
def Pn.val(p:Pn)(e:Nat→Nat):Value:=p.vf (p.loc e)
def up{α:Type}(f:Nat→α)(j:Nat)(x:α):Nat→α:=fun k=>bif Nat.beq k j then x else f k
theorem wH{α:Type}(f:Nat→α)(j:Nat)(x:α):up f j x j=x:=by simp[up]
theorem sI{α:Type}(f:Nat→α){j k:Nat}(x:α)(h:k≠j):up f j x k=f k:=by
 unfold up;cases hb:Nat.beq k j with
 | false=>rfl
 | true=>exact absurd (Nat.eq_of_beq_eq_true hb) h
structure Rg where
 P:Program
 ops:Array Oper
 Q:Exit→Act→World→Prop
 T:List Nat
 n:Nat
 D:List Deferred
 E:Nat→Prop
 w0:World
 X:Hid
 M0:List (Nat×Obj)
 r0:Rd
def Rg.S(R:Rg)(w:World):Prop:=(∀p∈R.M0,w.heap[p.1]?=some p.2)∧∀a v,R.r0 a=some v→w.cell? a=some v
def sel(M:List (Nat×Obj)):List Nat→List (Nat×Obj)
 | []=>[]
 | i::is=>match M[i]? with
  | some p=>p::sel M is
  | none=>sel M is
theorem zBx{M:List (Nat×Obj)}:∀{is:List Nat},∀p∈sel M is,p∈M
 | i::is,p,h=>by
  unfold sel at h;split at h
  ·rename_i q hq;rcases List.mem_cons.1 h with rfl | h
   ·exact List.mem_of_getElem? hq
   ·exact zBx p h
  ·exact zBx p h
theorem selm{M M0:List (Nat×Obj)}(is:List Nat)(h:sel M is=M0:=by kernel_rfl):∀p∈M0,p∈M:=h▸zBx
def unl(l:Array Bool):Nat:=l.toList.countP (fun b=>!b)
def wpU(R:Rg)(l:Array Bool)(a:Act)(w:World):Prop:=∀fuel,unl l≤fuel→wpT R.P R.ops (vK R.Q) R.S R.T fuel l a w
theorem qMv{l:Array Bool}{i:Nat}(h:l.getD i true=false):unl (l.setIfInBounds i true)+1=unl l:=by
 have hi:i<l.size:=by
  rcases Nat.lt_or_ge i l.size with h' | h'
  ·exact h'
  ·simp[Array.getElem?_eq_none h']at h
 have h1:l[i]=false:=by simpa[hi]using h
 have h2:i<l.toList.length:=by simpa using hi
 have h3:l.toList[i]'h2=false:=by simpa using h1
 unfold unl;rw[Array.toList_setIfInBounds,List.countP_set h2];have h4:0<l.toList.countP (fun b=>!b):=List.countP_pos_iff.2 ⟨_,List.getElem_mem h2,by simp[h3]⟩
 simp only[h3,Bool.not_false,if_true,Bool.not_true,Bool.false_eq_true,if_false];omega
section
variable {R:Rg}{l:Array Bool}{a:Act}{w:World}{o:Oper}{L:List (Nat×Value)}
theorem zNo{i:Nat}{fuel:Nat}(hr:i∈Region.ready .any R.ops l)(hf:unl l≤fuel):∃f,fuel=f+1∧unl (l.setIfInBounds i true)≤f:=by
 have:=qMv (mem_ready.1 hr).1;exact⟨fuel-1,by omega,by omega⟩
theorem qHj(hne:Region.ready .any R.ops l≠[])(h:∀i∈Region.ready .any R.ops l,wpOp R.P R.ops (vK R.Q) i (fun a' w'=>(jG R.T (l.setIfInBounds i true)=false→R.S w')∧wpU R (l.setIfInBounds i true) a' w') a w):wpU R l a w:=by
 intro fuel hf;obtain⟨i,hi⟩:=List.exists_mem_of_ne_nil _ hne;obtain⟨f,rfl,_⟩:=zNo hi hf;refine⟨fun h0=>absurd h0 hne,fun j hj=>wpOp_mono (fun a' w' h'=>⟨h'.1,h'.2 f ?_⟩) (h j hj)⟩;obtain⟨f',hf',h''⟩:=zNo hj hf;omega
theorem jCu{i d:Nat}{v:Value}(hi:R.ops[i]?=some o)(hc:aR R.ops R.T l i=true)(hk:chk R.ops L o d R.n=true)(hF:Fr R.n a L R.D)
  (hrun:(∀w,(execOp (evL L) o).run R.P w= .ok (.value v) w)∨((zIf R.ops R.T i&&!jG R.T l)=true∧∀w,R.S w→(execOp (evL L) o).run R.P w= .ok (.value v) w)) (hS:jG R.T l=false→R.S w)
  (k:Fr R.n (a.put (some d) v) ((d,v)::L) R.D→wpU R (l.setIfInBounds i true) (a.put (some d) v) w):wpU R l a w:=by
 obtain⟨h1,h2,h3,h4⟩:=sO hc;simp only[chk,Bool.and_eq_true]at hk;obtain⟨hd,hlt⟩:=qO hk.2.2;intro fuel hf;obtain⟨f,rfl,hf'⟩:=zNo h3 hf;rcases hrun with hrun | ⟨hw,hrun⟩
 ·refine mM hi (Region.noSelect_spec h1) (fun _ _ _ h=>h) (fun _=>True) (.inl fun _=>trivial) h4 f l a w (Region.free_spec hi h2) h3 (.inl ⟨hF.wanted hk.1,fun w _=>by rw[hF.exec hk.2.1];exact hrun w⟩) (.inl fun _=>trivial) hS trivial ?_
  rw[hd];exact k (hF.put hlt v) f hf'
 ·simp only[Bool.and_eq_true,Bool.not_eq_true']at hw;refine mM hi (Region.noSelect_spec h1) (fun _ _ _ h=>h) R.S (.inr ⟨fun _ h=>h,zIg hw.1⟩) h4 f l a w (Region.free_spec hi h2) h3 (.inl ⟨hF.wanted hk.1,fun w hs=>by rw[hF.exec hk.2.1];exact hrun w hs⟩) (.inr hw.2) hS (hS hw.2) ?_
  rw[hd];exact k (hF.put hlt v) f hf'
theorem jAq{i d:Nat}(hi:R.ops[i]?=some o)(hc:aR R.ops R.T l i=true)(hk:(yX R.ops L o false&&bD o d R.n)=true)(hF:Fr R.n a L R.D)(hS:jG R.T l=false→R.S w)
  (k:Fr R.n (a.put (some d) undef) ((d,undef)::L) R.D→wpU R (l.setIfInBounds i true) (a.put (some d) undef) w):wpU R l a w:=by
 obtain⟨h1,h2,h3,h4⟩:=sO hc;simp only[Bool.and_eq_true]at hk;obtain⟨hd,hlt⟩:=qO hk.2;intro fuel hf;obtain⟨f,rfl,hf'⟩:=zNo h3 hf;refine mM hi (Region.noSelect_spec h1) (fun _ _ _ h=>h) (fun _=>True) (.inl fun _=>trivial) h4 f l a w (Region.free_spec hi h2) h3 (.inr ⟨hF.wanted hk.1,rfl⟩) (.inl fun _=>trivial) hS trivial ?_;rw[hd];exact k (hF.put hlt undef) f hf'
end
def pT:List Pn→(Nat→Bool)→Array Bool→Array Bool
 | [],_,l=>l
 | p::ps,f,l=>pT ps f (bif f p.i then l.setIfInBounds p.i true else l)
def pM:List Pn→(Nat→Bool)→(Nat→Nat)→List (Nat×Obj)
 | [],_,_=>[]
 | p::ps,f,e=>(bif f p.i then(match p.ob with
  | some o=>[(e p.i,o (p.loc e))]
  | none=>[])else[])++pM ps f e
def pOk(a:Act)(Pd:List Pn)(f:Nat→Bool)(e:Nat→Nat):Prop:=∀p∈Pd,f p.i=true→a.tmps[p.d]?=some (p.val e)
def pCl(Pd:List Pn)(f:Nat→Bool):Prop:=∀p∈Pd,f p.i=true→f p.i=true∧∀k,f (p.deps.getD k p.i)=true
def lC(Pd:List Pn)(l:Array Bool):Array Bool:=pT Pd (fun _=>true) l
theorem zHn:∀(Pd:List Pn)(f:Nat→Bool)(l:Array Bool)(i:Nat),pT Pd f (l.setIfInBounds i true)=(pT Pd f l).setIfInBounds i true
 | [],_,_,_=>rfl
 | p::ps,f,l,i=>by
  simp only[pT];rw[←zHn ps f _ i];cases f p.i
  ·rfl
  ·simp only[cond_true];by_cases h:i=p.i
   ·subst h;rfl
   ·rw[Array.setIfInBounds_comm _ _ h]
def bH(T:List Nat)(Pd:List Pn):Bool:=Pd.all fun p=>!T.contains p.i
@[irreducible] def Gt (R : Rg) (Pd : List Pn) (c : Array Bool × List (Nat × Value)) (M : List (Nat × Obj)) (r : Rd) : Prop :=
  bH R.T Pd = true → (jG R.T c.1 = true ∨ ((∀ p ∈ R.M0, p ∈ M) ∧ Le R.r0 r)) →
  ∀ f e a w Y, pCl Pd f → Fr R.n a c.2 R.D → pOk a Pd f e → St R.E R.w0 R.X w Y (M ++ pM Pd f e) → Le r (rd w Y) → wpU R (pT Pd f c.1) a w
attribute [local semireducible] Gt
theorem zFt{T:List Nat}{l:Array Bool}{i:Nat}(h:jG T l=true):jG T (l.setIfInBounds i true)=true:=by
 unfold jG at *;rw[List.any_eq_true]at *;obtain⟨t,ht,h⟩:=h;exact⟨t,ht,getD_set_true h⟩
theorem aY{T:List Nat}:∀(Pd:List Pn)(f:Nat→Bool)(l:Array Bool),bH T Pd=true→jG T (pT Pd f l)=jG T l
 | [],_,_,_=>rfl
 | p::ps,f,l,h=>by
  simp only[bH,List.all_cons,Bool.and_eq_true]at h;simp only[pT];refine(aY ps f _ (by simpa[bH]using h.2)).trans ?_
  cases f p.i
  ·rfl
  ·exact vE (fun e=>by have:=h.1;simp[e]at this)
def pNe(Pd:List Pn)(i:Nat)(d:Option Nat):Bool:=Pd.all fun p=>!(p.i==i)&&!(some p.d==d)
theorem zZj{ops:Array Oper}{T:List Nat}{l:Array Bool}{i j:Nat}(h:aR ops T l i=true)(hne:i≠j):aR ops T (l.setIfInBounds j true) i=true:=by
 simp only[aR,Bool.and_eq_true]at *;refine⟨h.1,?_,?_,h.2.2.2⟩
 ·have h2:=h.2.1;unfold Region.free at *;cases ho:ops[i]? with
  | none=>simp[ho]at h2
  | some oi=>
   simp only[ho,List.all_eq_true]at h2 ⊢;intro k hk;have:=h2 k hk;simp only[Bool.or_eq_true]at this ⊢;rcases this with(h3 | h3) | h3
   ·exact .inl (.inl h3)
   ·refine .inl (.inr ?_);by_cases hkj:j=k
    ·subst hkj;rcases Nat.lt_or_ge j l.size with h' | h'
     ·simp[h']
     ·simp[Array.getElem?_eq_none,h']
    ·rw[getD_set_ne true hkj];exact h3
   ·exact .inr h3
 ·have h3:=h.2.2.1;rw[List.contains_iff_mem]at *;exact ready_mono h3 hne
theorem zNl{ops:Array Oper}{T:List Nat}{i:Nat}{d:Option Nat}:∀(Pd:List Pn)(f:Nat→Bool)(l:Array Bool),pNe Pd i d=true→aR ops T l i=true→aR ops T (pT Pd f l) i=true
 | [],_,_,_,h=>h
 | p::ps,f,l,hp,h=>by
  simp only[pNe,List.all_cons,Bool.and_eq_true]at hp;refine zNl (d:=d) ps f _ (by simpa[pNe]using hp.2) ?_
  cases f p.i
  ·exact h
  ·exact zZj h (fun e=>by have:=hp.1.1;simp[e]at this)
theorem zMs{i:Nat}{d:Option Nat}{a a':Act}{v:Value}{Pd:List Pn}{f:Nat→Bool}{e:Nat→Nat}(ha:a'.tmps=(a.put d v).tmps)(hp:pNe Pd i d=true)(h:pOk a Pd f e):pOk a' Pd f e:=fun p hm hf=>by
 have hne:=List.all_eq_true.1 hp p hm;simp only[Bool.and_eq_true,Bool.not_eq_true',beq_eq_false_iff_ne]at hne;rw[ha];cases d with
 | none=>exact h p hm hf
 | some d=>
  have:d≠p.d:=fun e=>hne.2 (by rw[e])
  show(a.tmps.setIfInBounds d v)[p.d]?=_;rw[Array.getElem?_setIfInBounds_ne this];exact h p hm hf
section
variable {R:Rg}{Pd:List Pn}{c:Array Bool×List (Nat×Value)}{M:List (Nat×Obj)}{r:Rd}
theorem hold{f:Nat→Bool}{e:Nat→Nat}{w:World}{Y:Hid}(hf:bH R.T Pd=true)(h0:jG R.T c.1=true∨((∀p∈R.M0,p∈M)∧Le R.r0 r))(hS:St R.E R.w0 R.X w Y (M++pM Pd f e))(hle:Le r (rd w Y)):jG R.T (pT Pd f c.1)=false→R.S w:=fun hb=>by
 rw[aY Pd f _ hf]at hb;rcases h0 with h0 | ⟨h1,h2⟩
 ·rw[h0]at hb;cases hb
 ·exact⟨fun p hp=>(hS.own p (List.mem_append_left _ (h1 p hp))).1,fun a v hv=>yQ (hle _ _ (h2 _ _ hv))⟩
def gv(R:Rg)(i:Nat)(v:Value)(c:Array Bool×List (Nat×Value)):Array Bool×List (Nat×Value):=
 (c.1.setIfInBounds i true,match(zU R.ops i).dst with
  | some d=>(d,v)::c.2
  | none=>c.2)
def gd(R:Rg)(i:Nat):Nat:=(zU R.ops i).dst.getD 0
def gok(R:Rg)(Pd:List Pn)(c:Array Bool×List (Nat×Value))(i:Nat):Bool:=aR R.ops R.T c.1 i&&(chk R.ops c.2 (zU R.ops i) (gd R i) R.n&&pNe Pd i (zU R.ops i).dst)
theorem zOx(i:Nat){v:Value}(hrun:(∀w,(execOp (evL c.2) (zU R.ops i)).run R.P w= .ok (.value v) w)∨((zIf R.ops R.T i&&!jG R.T c.1)=true∧∀w,R.S w→(execOp (evL c.2) (zU R.ops i)).run R.P w= .ok (.value v) w))
  (k:Gt R Pd (gv R i v c) M r) (hi:R.ops[i]?=some (zU R.ops i):=by kernel_rfl) (hc:gok R Pd c i=true:=by kernel_rfl):Gt R Pd c M r:=by
 intro hf h0 f e a w Y hb hF hp hS hle;simp only[gok,Bool.and_eq_true]at hc;have hk:=hc.2.1;simp only[chk,Bool.and_eq_true]at hk;obtain⟨hd,hlt⟩:=qO hk.2.2;have hT:i∉R.T:=(sO hc.1).2.2.2;refine jCu (i:=i) hi (zNl Pd f _ hc.2.2 hc.1) hc.2.1 hF (by rw[aY Pd f _ hf];exact hrun) (hold hf h0 hS hle) (fun hF1=>?_)
 rw[←zHn];exact k hf (by
  show jG R.T (c.1.setIfInBounds i true)=true∨_;rw[vE hT];exact h0) f e (a.put (some (gd R i)) v) w Y hb (by simp only[gv,hd];exact hF1) (zMs (v:=v) (by rw[hd]) hc.2.2 hp) hS hle
theorem qTc(i:Nat)(k:Gt R Pd (gv R i undef c) M r)(hi:R.ops[i]?=some (zU R.ops i):=by kernel_rfl)(hc:(aR R.ops R.T c.1 i&&(yX R.ops c.2 (zU R.ops i) false&&bD (zU R.ops i) (gd R i) R.n&&pNe Pd i (zU R.ops i).dst))=true:=by kernel_rfl):Gt R Pd c M r:=by
 intro hf h0 f e a w Y hb hF hp hS hle;simp only[Bool.and_eq_true]at hc;obtain⟨hd,hlt⟩:=qO hc.2.1.2;have hT:i∉R.T:=(sO hc.1).2.2.2;refine jAq (i:=i) (d:=gd R i) hi (zNl Pd f _ hc.2.2 hc.1) (by simp only[hc.2.1.1,hc.2.1.2,Bool.and_self]) hF (hold hf h0 hS hle) (fun hF1=>?_)
 rw[←zHn];exact k hf (by
  show jG R.T (c.1.setIfInBounds i true)=true∨_;rw[vE hT];exact h0) f e (a.put (some (gd R i)) undef) w Y hb (by simp only[gv,hd];exact hF1) (zMs (v:=undef) (by rw[hd]) hc.2.2 hp) hS hle
def g1(R:Rg)(Pd:List Pn)(w:World)(i:Nat)(c:Array Bool×List (Nat×Value)):Option ((Array Bool×List (Nat×Value))×World):=
 match R.ops[i]? with
 | none=>none
 | some o=>
  bif aR R.ops R.T c.1 i&&pNe Pd i o.dst then
   match o.dst with
   | none=>none
   | some d=>
    bif Nat.blt d R.n then
     bif yX R.ops c.2 o true then
      bif pO c.2 o then
       match(execOp (evL c.2) o).run R.P w with
       | .ok (.value v) w'=>fv v fun v=>some ((c.1.setIfInBounds i true,(d,v)::c.2),w')
       | _=>none
      else none
     else bif yX R.ops c.2 o false then some ((c.1.setIfInBounds i true,(d,undef)::c.2),w)else none
    else none
  else none
def gc(R:Rg)(Pd:List Pn)(i:Nat)(c:Array Bool×List (Nat×Value)):Array Bool×List (Nat×Value):=match g1 R Pd R.w0 i c with
 | some (c,_)=>c
 | none=>c
def gk(R:Rg)(Pd:List Pn):List Nat→Array Bool×List (Nat×Value)→Array Bool×List (Nat×Value)
 | [],c=>c
 | i::is,c=>gk R Pd is (gc R Pd i c)
theorem jBq{i:Nat}(h:∀w,g1 R Pd w i c=some (gc R Pd i c,w))(k:Gt R Pd (gc R Pd i c) M r):Gt R Pd c M r:=by
 generalize hc':gc R Pd i c=c' at h k;clear hc';have h0:=h R.w0;unfold g1 at h h0;cases hi:R.ops[i]? with
 | none=>simp[hi]at h0
 | some o=>
  have hoA:zU R.ops i=o:=by simp[zU,hi]
  simp only[hi]at h h0;cases ht:aR R.ops R.T c.1 i<;>simp only[ht,Bool.false_and,Bool.true_and,cond_false,cond_true]at h h0
  ·cases h0
  cases hn:pNe Pd i o.dst<;>simp only[hn,cond_false,cond_true]at h h0
  ·cases h0
  cases hd:o.dst with
  | none=>simp[hd]at h0
  | some d=>
   simp only[hd]at h h0;cases hlt:Nat.blt d R.n<;>simp only[hlt,cond_false,cond_true]at h h0
   ·cases h0
   have hds:bD o d R.n=true:=by simp[bD,hd,hlt]
   have hgd:gd R i=d:=by simp[gd,hoA,hd]
   cases hwt:yX R.ops c.2 o true<;>simp only[hwt,cond_false,cond_true]at h h0
   ·cases hwf:yX R.ops c.2 o false<;>simp only[hwf,cond_false,cond_true]at h h0
    ·cases h0
    cases h0;refine qTc i (by simpa[gv,hoA,hd]using k) (by rw[hoA];exact hi) ?_
    rw[hoA,hgd];simp only[ht,hwf,hds,hn,Bool.and_self]
   ·cases hok:pO c.2 o<;>simp only[hok,cond_false,cond_true]at h h0
    ·cases h0
    cases hx:(execOp (evL c.2) o).run R.P R.w0 with
    | halt e w1=>simp[hx]at h0
    | ok y w1=>
     cases y<;>simp only[hx,qCz]at h0<;>try cases h0
     rename_i v;refine zOx (v:=v) i (.inl fun w=>?_) (by simpa[gv,hoA,hd]using k) (by rw[hoA];exact hi) ?_
     ·rw[hoA];have hw:=h w;cases hy:(execOp (evL c.2) o).run R.P w with
      | halt e w1=>simp[hy]at hw
      | ok y w1=>
       cases y<;>simp only[hy,qCz]at hw<;>cases hw;rfl
     ·rw[gok,hoA,hgd];simp only[chk,ht,hwt,hds,hok,hn,Bool.and_self]
inductive GP (R:Rg) (Pd:List Pn):List Nat→Array Bool×List (Nat×Value)→Prop
  | nil {c:Array Bool×List (Nat×Value)}:GP R Pd [] c
  | cons {i:Nat} {is:List Nat} {c:Array Bool×List (Nat×Value)} (h:∀w,g1 R Pd w i c=some (gc R Pd i c,w)) (k:GP R Pd is (gc R Pd i c)):GP R Pd (i::is) c
theorem qDc:∀(is:List Nat){c:Array Bool×List (Nat×Value)},Gt R Pd (gk R Pd is c) M r→GP R Pd is c→Gt R Pd c M r
 | _,_,k,.nil=>k
 | _,_,k,.cons h hk=>jBq h (qDc _ k hk)
theorem gz(is:List Nat)(k:Gt R Pd (gk R Pd is c) M r)(h:GP R Pd is c:=by repeat (first | exact GP.nil | refine GP.cons (by intro w;kernel_rfl) ?_)):Gt R Pd c M r:=qDc is k h
theorem gl(i:Nat){vs:List Value}{ad:Addr}(hat:At R.r0 ad vs)(k:Gt R Pd (gv R i (ldV (ldG R.P (zU R.ops i)) vs) c) M r)(hi:R.ops[i]?=some (zU R.ops i):=by kernel_rfl)(hc:gok R Pd c i=true:=by kernel_rfl)
  (hT:(zIf R.ops R.T i&&!jG R.T c.1)=true:=by kernel_rfl)
  (ho:(zU R.ops i).op= .load (zEt (zU R.ops i)) (ldX (zU R.ops i)):=by kernel_rfl) (hx:evL c.2 (ldX (zU R.ops i))= .pointer (some ad):=by kernel_rfl) (ht:ldT R.P (zEt (zU R.ops i))=some (ldG R.P (zU R.ops i),vs.length):=by kernel_rfl) (hg:(ldG R.P (zU R.ops i)||vs.length==1)=true:=by kernel_rfl):Gt R Pd c M r:=
 zOx i (.inr ⟨hT,fun _ hS=>zB ho hx ht (by simpa using hg) fun j v hj=>hS.2 _ _ (hat j v hj)⟩) k hi hc
def gow(R:Rg)(c:Array Bool×List (Nat×Value))(i j:Nat):List Value:=((cO R.M0 j).toList.drop (aL (evL c.2 (ldX (zU R.ops i))))).take (ldM R.P (zU R.ops i))
theorem gw(i j:Nat)(k:Gt R Pd (gv R i (ldV (ldG R.P (zU R.ops i)) (gow R c i j)) c) M r)(hi:R.ops[i]?=some (zU R.ops i):=by kernel_rfl)(hc:gok R Pd c i=true:=by kernel_rfl)
  (hT:(zIf R.ops R.T i&&!jG R.T c.1)=true:=by kernel_rfl)
  (ho:(zU R.ops i).op= .load (zEt (zU R.ops i)) (ldX (zU R.ops i)):=by kernel_rfl) (hx:evL c.2 (ldX (zU R.ops i))= .pointer (some ⟨bO R.M0 j,aL (evL c.2 (ldX (zU R.ops i))),none⟩):=by kernel_rfl)
  (ht:ldT R.P (zEt (zU R.ops i))=some (ldG R.P (zU R.ops i),(gow R c i j).length):=by kernel_rfl) (hg:(ldG R.P (zU R.ops i)||(gow R c i j).length==1)=true:=by kernel_rfl)
  (hj:R.M0[j]?=some (bO R.M0 j,.cells (cO R.M0 j) (tO R.M0 j) (fO R.M0 j)):=by kernel_rfl):Gt R Pd c M r:=
 zOx i (.inr ⟨hT,fun w hS=>zB ho hx ht (by simpa using hg) (by
  have h1:=hS.1 _ (List.mem_of_getElem? hj);intro q v hq;rw[yC,cell_of_row w _ _ _ _ _ h1];unfold gow at hq;rw[List.getElem?_take]at hq;split at hq
  ·rw[List.getElem?_drop]at hq;simpa using hq
  ·cases hq)⟩) k hi hc
theorem gH(i:Nat){v:Value}(hrun:∀w,(execOp (evL c.2) (zU R.ops i)).run R.P w= .ok (.value v) w)(k:Gt R Pd (gv R i v c) M r)(hi:R.ops[i]?=some (zU R.ops i):=by kernel_rfl)(hc:gok R Pd c i=true:=by kernel_rfl):Gt R Pd c M r:=zOx i (.inl hrun) k hi hc
theorem gi(j:Nat){b off len cap:Nat}{kd:IntKind}{i:Int}(m off':Nat)(k:Gt R Pd (gv R j (.pointer (some ⟨b,off',none⟩)) c) M r)(h0:0≤i:=by omega)(h1:i<len:=by omega)
  (hoff:off+i.toNat*m=off':=by first | rfl | omega | (simp;done) | (simp;omega)) (hm:ldS R.P (idE R.P (idT (zU R.ops j)))=m:=by kernel_rfl) (hx:evL c.2 (idX (zU R.ops j))= .slice (some ⟨b,off,none⟩) len cap:=by kernel_rfl) (hi:evL c.2 (idI (zU R.ops j))= .int kd i:=by kernel_rfl)
  (ho:(zU R.ops j).op= .indexAddr (idT (zU R.ops j)) (idX (zU R.ops j)) (idI (zU R.ops j)):=by kernel_rfl) (ht:R.P.underlying (idT (zU R.ops j))=some (.slice (idE R.P (idT (zU R.ops j)))):=by kernel_rfl)
  (he:ldT R.P (idE R.P (idT (zU R.ops j)))=some (zPl R.P (idE R.P (idT (zU R.ops j))),ldS R.P (idE R.P (idT (zU R.ops j)))):=by kernel_rfl) (hi':R.ops[j]?=some (zU R.ops j):=by kernel_rfl) (hc:gok R Pd c j=true:=by kernel_rfl):Gt R Pd c M r:=
 gH j (fun w=>jH ho ht hx hi he h0 h1 (by rw[hm];exact hoff) w) k hi' hc
theorem qMz{P:Program}{o:Oper}{a:Act}{w:World}{K:Act→World→Prop}{Q:Exit→Act→World→Prop}(h:o.wp P a w K Q):o.wp P a w (fun a' w'=>K a' w'∧∃v,a'.tmps=(a.put o.dst v).tmps) Q:=by
 unfold Oper.wp at *;generalize (execOp a.eval o).run P w=r at *;cases r with
 | ok n w'=>
  cases n<;>simp only[Oper.upon]at h ⊢
  case value v=>exact⟨h,v,rfl⟩
  case skip=>exact⟨h,undef,rfl⟩
  case defer d=>exact⟨h,undef,by cases o.dst<;>rfl⟩
  case enter f args=>exact Calls.mono h (fun e w'' he=>by cases e<;>first | exact⟨he,_,rfl⟩ | exact he)
  case row row args=>exact Rows.mono h (fun v _ he=>⟨he,v,rfl⟩)
 | halt x w'=>cases x<;>simp only[Oper.upon]at h ⊢<;>exact h
def LeA(l l':Array Bool):Prop:=∀k,l.getD k false=true→l'.getD k false=true
theorem zHt{ops:Array Oper}{l l':Array Bool}{j:Nat}(hj:j∈Region.ready .any ops l)(hl:LeA l l')(hun:l'.getD j true=false):j∈Region.ready .any ops l':=by
 rw[mem_ready]at *;obtain⟨_,o,ho,hall⟩:=hj;exact⟨hun,o,ho,fun e he hb=>hl _ (hall e he hb)⟩
theorem LeA.set{l l':Array Bool}(h:LeA l l')(i:Nat)(hs:l.size=l'.size):LeA (l.setIfInBounds i true) (l'.setIfInBounds i true):=fun k hk=>by
 by_cases hik:i=k
 ·subst hik;rcases Nat.lt_or_ge i l.size with h' | h'
  ·simp[show i<l'.size by omega]
  ·simp[Array.getElem?_eq_none,h']at hk
 ·rw[getD_set_ne false hik]at hk ⊢;exact h k hk
theorem LeA.setr{l l':Array Bool}(h:LeA l l')(i:Nat):LeA l (l'.setIfInBounds i true):=fun k hk=>getD_set_true (h k hk)
theorem zWh:∀(Pd:List Pn)(f:Nat→Bool)(l l':Array Bool),l.size=l'.size→LeA l l'→LeA (pT Pd f l) (lC Pd l')
 | [],_,_,_,_,h=>h
 | p::ps,f,l,l',hs,h=>by
  simp only[pT,lC,cond_true];cases f p.i
  ·exact zWh ps f l _ (by simpa using hs) (h.setr p.i)
  ·exact zWh ps f _ _ (by simpa using hs) (h.set p.i hs)
def zKb(Pd:List Pn)(j:Nat):Prop:=∀p∈Pd,p.i≠j
theorem zHm:∀(Pd:List Pn)(f:Nat→Bool)(l:Array Bool)(j:Nat),zKb Pd j→(pT Pd f l).getD j true=l.getD j true
 | [],_,_,_,_=>rfl
 | p::ps,f,l,j,h=>by
  refine(zHm ps f _ j fun q hq=>h q (List.mem_cons_of_mem _ hq)).trans ?_;cases f p.i
  ·rfl
  ·exact getD_set_ne true (h p (List.mem_cons_self ..))
theorem qGc:∀(Pd:List Pn)(f:Nat→Bool)(l l':Array Bool),LeA l l'→LeA l (pT Pd f l')
 | [],_,_,_,h=>h
 | p::ps,f,l,l',h=>by
  refine qGc ps f l _ ?_;cases f p.i
  ·exact h
  ·exact h.setr p.i
theorem zMt:∀(Pd:List Pn)(f:Nat→Bool)(l:Array Bool)(j:Nat),(pT Pd f l).getD j false=true→l.getD j false=true∨f j=true
 | [],_,_,_,h=> .inl h
 | p::ps,f,l,j,h=>by
  rcases zMt ps f _ j h with h | h
  ·cases hp:f p.i
   ·rw[hp]at h;exact .inl h
   ·rw[hp]at h;by_cases hj:p.i=j
    ·exact .inr (hj▸hp)
    ·exact .inl (by rwa[cond_true,getD_set_ne false hj]at h)
  ·exact .inr h
theorem qGd:∀(Pd:List Pn)(f:Nat→Bool)(l:Array Bool),∀p∈Pd,f p.i=true→p.i<l.size→(pT Pd f l).getD p.i false=true
 | q::ps,f,l,p,hp,hf,hlt=>by
  rcases List.mem_cons.1 hp with rfl | hp'
  ·refine qGc ps f _ _ (fun _ h=>h) _ ?_;simp[hf,hlt]
  ·exact qGd ps f _ p hp' hf (by cases f q.i<;>simpa using hlt)
theorem fA:∀(Pd:List Pn)(f g:Nat→Bool)(l:Array Bool),(∀q∈Pd,f q.i=g q.i)→pT Pd f l=pT Pd g l
 | [],_,_,_,_=>rfl
 | p::ps,f,g,l,h=>by
  simp only[pT];rw[h p (List.mem_cons_self ..)];exact fA ps f g _ fun q hq=>h q (List.mem_cons_of_mem _ hq)
theorem zHl:∀(Pd:List Pn)(f g:Nat→Bool)(e e':Nat→Nat),(∀q∈Pd,f q.i=g q.i∧(f q.i=true→e q.i=e' q.i∧q.loc e=q.loc e'))→pM Pd f e=pM Pd g e'
 | [],_,_,_,_,_=>rfl
 | p::ps,f,g,e,e',h=>by
  simp only[pM];rw[zHl ps f g e e' fun q hq=>h q (List.mem_cons_of_mem _ hq)];obtain⟨h1,h2⟩:=h p (List.mem_cons_self ..);rw[←h1];cases hf:f p.i
  ·rfl
  ·obtain⟨h3,h4⟩:=h2 hf;rw[h3,h4]
def bB:List Pn→Bool
 | []=>true
 | p::ps=>pNe ps p.i (some p.d)&&bB ps
theorem xX{Pd:List Pn}{i d:Nat}(h:pNe Pd i (some d)=true):∀q∈Pd,q.i≠i∧q.d≠d:=fun q hq=>by
 have:=List.all_eq_true.1 h q hq;simpa using this
theorem zHj:∀{Pd:List Pn},bB Pd=true→∀p∈Pd,∀q∈Pd,p.i=q.i∨p.d=q.d→p=q
 | x::ps,h,p,hp,q,hq,he=>by
  simp only[bB,Bool.and_eq_true]at h;by_cases h1:p=x
  ·by_cases h2:q=x
   ·rw[h1,h2]
   ·have:=xX h.1 q ((List.mem_cons.1 hq).resolve_left h2);rw[h1]at he;rcases he with he | he
    ·exact absurd he.symm this.1
    ·exact absurd he.symm this.2
  ·have hp':=(List.mem_cons.1 hp).resolve_left h1;by_cases h2:q=x
   ·have:=xX h.1 p hp';rw[h2]at he;rcases he with he | he
    ·exact absurd he this.1
    ·exact absurd he this.2
   ·exact zHj h.2 p hp' q ((List.mem_cons.1 hq).resolve_left h2) he
def cnt(Pd:List Pn)(f:Nat→Bool):Nat:=Pd.countP fun p=>!f p.i
def nb(p:Pn)(e:Nat→Nat):List (Nat×Obj):=match p.ob with
 | some o=>[(e p.i,o (p.loc e))]
 | none=>[]
theorem zSt{q:Pn}{f:Nat→Bool}{e:Nat→Nat}{j b:Nat}(h:∀k,f (q.deps.getD k q.i)=true)(hj:f j=false):q.loc (up e j b)=q.loc e:=funext fun k=>sI e b fun he=>by rw[←he,h k]at hj;cases hj
theorem qPf{f:Nat→Bool}{p:Pn}:∀{Pd:List Pn}{l:Array Bool},bB Pd=true→p∈Pd→pT Pd (up f p.i true) l=(pT Pd f l).setIfInBounds p.i true
 | q::ps,l,hd,hp=>by
  simp only[bB,Bool.and_eq_true]at hd;simp only[pT];by_cases hq:p=q
  ·subst hq;rw[wH,cond_true,fA ps (up f p.i true) f _ fun x hx=>sI f true (xX hd.1 x hx).1,←zHn];cases f p.i
   ·rfl
   ·simp
  ·have hp':p∈ps:=(List.mem_cons.1 hp).resolve_left hq;rw[sI f true (fun e=>(xX hd.1 p hp').1 e.symm)];exact qPf hd.2 hp'
theorem qPe{f:Nat→Bool}{e:Nat→Nat}{p:Pn}{b:Nat}(hf:f p.i=false):∀{Pd:List Pn},bB Pd=true→pCl Pd f→p∈Pd→(pM Pd (up f p.i true) (up e p.i b)).Perm (nb p (up e p.i b)++pM Pd f e)
 | q::ps,hd,hcl,hp=>by
  simp only[bB,Bool.and_eq_true]at hd;simp only[pM];by_cases hq:p=q
  ·subst hq;rw[wH f,cond_true,hf,cond_false,List.nil_append,zHl ps (up f p.i true) f (up e p.i b) e fun x hx=>⟨sI f true (xX hd.1 x hx).1,fun h=>⟨sI e b (xX hd.1 x hx).1,zSt (hcl x (List.mem_cons_of_mem _ hx) (by rwa[sI f true (xX hd.1 x hx).1]at h)).2 hf⟩⟩]
   exact List.Perm.refl _
  ·have hp':p∈ps:=(List.mem_cons.1 hp).resolve_left hq;have hne:q.i≠p.i:=fun e=>(xX hd.1 p hp').1 e.symm;have ih:=qPe (e:=e) (b:=b) hf hd.2 (fun x hx=>hcl x (List.mem_cons_of_mem _ hx)) hp';rw[sI f true hne];cases hfq:f q.i
   ·simpa using ih
   ·rw[sI e b hne,zSt (hcl q (List.mem_cons_self ..) hfq).2 hf];refine(ih.append_left _).trans ?_;rw[←List.append_assoc,←List.append_assoc];exact List.perm_append_comm.append_right _
theorem qZa{a a':Act}{f:Nat→Bool}{e:Nat→Nat}{p:Pn}{b:Nat}{Pd:List Pn}(hd:bB Pd=true)(hcl:pCl Pd f)(hp:p∈Pd)(hf:f p.i=false)(hlt:p.d<a.tmps.size)(ha:a'.tmps=(a.put (some p.d) (p.val (up e p.i b))).tmps)(h:pOk a Pd f e):pOk a' Pd (up f p.i true) (up e p.i b):=fun q hq hfq=>by
 rw[ha];show(a.tmps.setIfInBounds p.d _)[q.d]?=_;by_cases hpq:p=q
 ·subst hpq;simp[hlt]
 ·have hne:¬(p.i=q.i∨p.d=q.d):=fun e=>hpq (zHj hd p hp q hq e);have hfq':f q.i=true:=by rwa[sI f true (fun e=>hne (.inl e.symm))]at hfq
  rw[Array.getElem?_setIfInBounds_ne (fun e=>hne (.inr e)),h q hq hfq'];unfold Pn.val;rw[zSt (hcl q hq hfq').2 hf]
theorem qBx{f:Nat→Bool}{p:Pn}:∀{Pd:List Pn},bB Pd=true→p∈Pd→f p.i=false→cnt Pd (up f p.i true)+1=cnt Pd f
 | q::ps,hd,hp,hf=>by
  simp only[bB,Bool.and_eq_true]at hd;unfold cnt;simp only[List.countP_cons];by_cases hq:p=q
  ·subst hq;have:ps.countP (fun x=>!up f p.i true x.i)=ps.countP (fun x=>!f x.i):=List.countP_congr fun x hx=>by rw[sI f true (xX hd.1 x hx).1]
   rw[this,wH,hf];simp
  ·have hp':p∈ps:=(List.mem_cons.1 hp).resolve_left hq;have ih:=qBx hd.2 hp' hf;unfold cnt at ih;rw[sI f true (fun e=>(xX hd.1 p hp').1 e.symm)];omega
theorem Fr.put_ne{n:Nat}{a:Act}{L:List (Nat×Value)}{D:List Deferred}(h:Fr n a L D){d:Nat}(hd:has L d=false)(v:Value):Fr n (a.put (some d) v) L D:=by
 refine⟨by simpa[Act.put]using h.size,h.defers,fun t ht=>?_⟩
 have hne:d≠t:=fun e=>by subst e;rw[hd]at ht;cases ht
 show(a.tmps.setIfInBounds d v)[t]?=_;rw[Array.getElem?_setIfInBounds_ne hne];exact h.get t ht
def pS(Pd:List Pn)(e:Nat→Nat):List (Nat×Value):=match Pd with
 | []=>[]
 | p::ps=>(p.d,p.val e)::pS ps e
def wto(o:Oper)(j:Nat):Bool:=o.after.any fun e=>Region.binds .any e&&e.on==j
def zMj(R:Rg)(c:Array Bool×List (Nat×Value))(Pd:List Pn)(p:Pn):Bool:=
 (yX R.ops c.2 (zU R.ops p.i) true&&(bD (zU R.ops p.i) p.d R.n&&(!has c.2 p.d&&!c.1.getD p.i true)))&&
 (p.deps.all (fun j=>j==p.i||((wto (zU R.ops p.i) j&&!c.1.getD j true)||Pd.any fun q=>wto (zU R.ops p.i) q.i&&q.deps.contains j))&&
 (zU R.ops p.i).op.operands.toList.all fun x=>match x with
  | .tmp t=>Pd.all fun q=>!(q.d==t)||wto (zU R.ops p.i) q.i
  | _=>true)
def zNm(R:Rg)(l:Array Bool):List Nat→List Pn→Bool
 | _,[]=>true
 | es,p::ps=>(zU R.ops p.i).after.all (fun e=>!Region.binds .any e||(l.getD e.on false||es.contains e.on))&&zNm R l (p.i::es) ps
inductive kW (R:Rg) (c:Array Bool×List (Nat×Value)) (Pd:List Pn):List Pn→Prop
  | nil:kW R c Pd []
  | cons {p:Pn} {ps:List Pn} (hb:zMj R c Pd p=true) (hi:R.ops[p.i]?=some (zU R.ops p.i)) (ho:∀e,pO (pS Pd e++c.2) (zU R.ops p.i)=true)
      (hr:∀e w,(execOp (evL (pS Pd e++c.2)) (zU R.ops p.i)).run R.P w= .ok (.value (p.val (up e p.i w.heap.size))) (match p.ob with
        | none=>w
        | some o=>w.alloc (o (p.loc (up e p.i w.heap.size))))) (k:kW R c Pd ps):kW R c Pd (p::ps)
theorem kW.k{Pd ps:List Pn}{p:Pn}(k:kW R c Pd ps)(hb:zMj R c Pd p=true:=by kernel_rfl)(hi:R.ops[p.i]?=some (zU R.ops p.i):=by kernel_rfl)(ho:∀e,pO (pS Pd e++c.2) (zU R.ops p.i)=true:=by intro e;kernel_rfl)
  (hr:∀e w,(execOp (evL (pS Pd e++c.2)) (zU R.ops p.i)).run R.P w= .ok (.value (p.val (up e p.i w.heap.size))) (match p.ob with
    | none=>w
    | some o=>w.alloc (o (p.loc (up e p.i w.heap.size)))):=by intro e w;kernel_rfl):kW R c Pd (p::ps):= .cons hb hi ho hr k
theorem kW.get{Pd:List Pn}:∀{ps:List Pn},kW R c Pd ps→∀p∈ps,zMj R c Pd p=true∧R.ops[p.i]?=some (zU R.ops p.i)∧(∀e,pO (pS Pd e++c.2) (zU R.ops p.i)=true)∧
  ∀e w,(execOp (evL (pS Pd e++c.2)) (zU R.ops p.i)).run R.P w= .ok (.value (p.val (up e p.i w.heap.size))) (match p.ob with
    | none=>w
    | some o=>w.alloc (o (p.loc (up e p.i w.heap.size))))
 | _,.cons hb hi ho hr k,p,hp=>by
  rcases List.mem_cons.1 hp with rfl | hp
  ·exact⟨hb,hi,ho,hr⟩
  ·exact k.get p hp
theorem zVl{n:Nat}{a:Act}{L:List (Nat×Value)}{D:List Deferred}(hF:Fr n a L D){e:Nat→Nat}{t:Nat}:∀{ps:List Pn},(∀q∈ps,q.d=t→a.tmps[t]?=some (q.val e))→has (pS ps e++L) t=true→a.tmps[t]?=some (tY (pS ps e++L) t)
 | [],_,hh=>hF.get t hh
 | p::ps,h,hh=>by
  simp only[pS,List.cons_append,has,tY]at hh ⊢;cases hb:Nat.beq p.d t with
  | true=>exact h p (List.mem_cons_self ..) (Nat.eq_of_beq_eq_true hb)
  | false=>
   rw[hb]at hh;exact zVl hF (fun q hq=>h q (List.mem_cons_of_mem _ hq)) hh
theorem qHq{ops:Array Oper}{l:Array Bool}{i j:Nat}{o:Oper}(ho:ops[i]?=some o)(hr:i∈Region.ready .any ops l)(h:wto o j=true):l.getD j false=true:=by
 obtain⟨_,o',ho',hall⟩:=mem_ready.1 hr;obtain rfl:o'=o:=Option.some.inj (ho'.symm.trans ho);obtain⟨e,he,hb⟩:=Array.any_eq_true'.1 h;simp only[Bool.and_eq_true,beq_iff_eq]at hb;exact hb.2▸hall e he hb.1
theorem zAl{l:Array Bool}{j:Nat}(h:l.getD j true=false):l.getD j false=false∧j<l.size:=by
 rcases Nat.lt_or_ge j l.size with h' | h'
 ·exact⟨by simpa[h']using h,h'⟩
 ·simp[Array.getElem?_eq_none h']at h
theorem nrun{f:Nat→Bool}{e:Nat→Nat}{a:Act}{w:World}{Pd:List Pn}{p:Pn}{K:Act→World→Prop}(hPd:kW R c Pd Pd)(hp:p∈Pd)(hcl:pCl Pd f)(hF:Fr R.n a c.2 R.D)(hok:pOk a Pd f e)(hr:p.i∈Region.ready .any R.ops (pT Pd f c.1))
  (hK:(∀k,up f p.i true (p.deps.getD k p.i)=true)→p.d<a.tmps.size→has c.2 p.d=false→K (a.put (some p.d) (p.val (up e p.i w.heap.size))) (match p.ob with
    | none=>w
    | some o=>w.alloc (o (p.loc (up e p.i w.heap.size))))):wpOp R.P R.ops (vK R.Q) p.i K a w:=by
 obtain⟨q1,q2,q3,q4⟩:=hPd.get p hp;simp only[zMj,Bool.and_eq_true]at q1;obtain⟨⟨hw,hd,hno,hun⟩,hdep,hopd⟩:=q1;obtain⟨hd1,hlt⟩:=qO hd;have hdone:∀j,wto (zU R.ops p.i) j=true→c.1.getD j true=false→f j=true:=fun j h1 h2=>by
  rcases zMt Pd f c.1 j (qHq q2 hr h1)with h | h
  ·rw[(zAl h2).1]at h;cases h
  ·exact h
 have hcl2:∀k,up f p.i true (p.deps.getD k p.i)=true:=fun k=>by
  rcases Nat.lt_or_ge k p.deps.length with hk | hk
  ·have hm:p.deps.getD k p.i∈p.deps:=by rw[List.getD_eq_getElem?_getD,List.getElem?_eq_getElem hk];exact List.getElem_mem hk
   have:=List.all_eq_true.1 hdep _ hm;simp only[Bool.or_eq_true,beq_iff_eq,Bool.and_eq_true,Bool.not_eq_true']at this;by_cases he:p.deps.getD k p.i=p.i
   ·rw[he,wH]
   ·rw[sI f true he];rcases this with h | ⟨h1,h2⟩ | h
    ·exact absurd h he
    ·exact hdone _ h1 h2
    ·rw[List.any_eq_true]at h;obtain⟨q,hq,hqq⟩:=h;simp only[Bool.and_eq_true,List.contains_iff_mem]at hqq;have hqc:=(hPd.get q hq).1;simp only[zMj,Bool.and_eq_true,Bool.not_eq_true']at hqc;have hfq:=hdone q.i hqq.1 hqc.1.2.2.2;obtain⟨k',hk',he'⟩:=List.getElem_of_mem hqq.2;have:=(hcl q hq hfq).2 k';rwa[List.getD_eq_getElem?_getD,List.getElem?_eq_getElem hk',Option.getD_some,he']at this
  ·rw[List.getD_eq_getElem?_getD,List.getElem?_eq_none hk];exact wH ..
 unfold wpOp;simp only[q2];rw[if_pos (hF.wanted hw)];refine .inl ?_;have hok1:=q3 e;simp only[pO,Bool.and_eq_true]at hok1;have hex:execOp a.eval (zU R.ops p.i)=execOp (evL (pS Pd e++c.2)) (zU R.ops p.i):=execOp_congr _ (mX hok1.1) fun x hx=>by
  have hx':x∈(zU R.ops p.i).op.operands.toList:=by simpa using hx
  have hcv:=lY hok1.2 x hx';cases x with
  | tmp t=>
   have h1:=List.all_eq_true.1 hopd _ hx';have h2:a.tmps[t]?=some (tY (pS Pd e++c.2) t):=zVl hF (fun q hq he=>by
    have h3:=List.all_eq_true.1 h1 q hq;simp only[Bool.or_eq_true,Bool.not_eq_true',beq_eq_false_iff_ne]at h3;have h4:=h3.resolve_left (fun h=>h he);have hqc:=(hPd.get q hq).1;simp only[zMj,Bool.and_eq_true,Bool.not_eq_true']at hqc;rw[←he];exact hok q hq (hdone q.i h4 hqc.1.2.2.2)) hcv
   show a.tmps.getD t undef=_;simp[h2,evL]
  | _=>rfl
 unfold Oper.wp;rw[hex,q4 e w];show K (a.put (zU R.ops p.i).dst _) _;rw[hd1];exact hK hcl2 (by rw[hF.size];exact hlt) (by simpa using hno)
theorem zLt(stop:(Nat→Bool)→Bool)(hstop:∀f,(∀p∈Pd,f p.i=true)→stop f=true)(hPd:kW R c Pd Pd)(hdis:(bB Pd&&zNm R c.1 [] Pd.reverse)=true)
  (hne:∀f e a w Y,pCl Pd f→Fr R.n a c.2 R.D→pOk a Pd f e→St R.E R.w0 R.X w Y (M++pM Pd f e)→Le r (rd w Y)→
   (stop f=false→∀j∈Region.ready .any R.ops (pT Pd f c.1),zKb Pd j→wpOp R.P R.ops (vK R.Q) j (fun a' w'=>(jG R.T ((pT Pd f c.1).setIfInBounds j true)=false→R.S w')∧wpU R ((pT Pd f c.1).setIfInBounds j true) a' w') a w)∧
   (stop f=true→wpU R (pT Pd f c.1) a w))
  (hf:bH R.T Pd=true) (h0:jG R.T c.1=true∨((∀p∈R.M0,p∈M)∧Le R.r0 r)):
  ∀(m:Nat)(f:Nat→Bool)(e:Nat→Nat)(a:Act)(w:World)(Y:Hid),cnt Pd f=m→pCl Pd f→Fr R.n a c.2 R.D→pOk a Pd f e→St R.E R.w0 R.X w Y (M++pM Pd f e)→Le r (rd w Y)→wpU R (pT Pd f c.1) a w:=by
 simp only[Bool.and_eq_true]at hdis;intro m;induction m using Nat.strongRecOn with
 | _ m ih=>
  intro f e a w Y hm hcl hF hp hS hle;obtain⟨h1,h2⟩:=hne f e a w Y hcl hF hp hS hle;cases J0:stop f
  case true=>exact h2 J0
  have hr:Region.ready .any R.ops (pT Pd f c.1)≠[]:=by
   have key:∀(ps:List Pn)(es:List Nat),zNm R c.1 es ps=true→(∀x∈es,∃q∈Pd,q.i=x∧f x=true)→(∀p∈ps,p∈Pd)→(∃p∈ps,f p.i=false)→∃p∈Pd,p.i∈Region.ready .any R.ops (pT Pd f c.1):=by
    intro ps;induction ps with
    | nil=>rintro es _ _ _ ⟨p,hp,_⟩;cases hp
    | cons q ps ihp=>
     rintro es ht hes hsub ⟨p,hp,hfp⟩;simp only[zNm,Bool.and_eq_true]at ht;have hq:q∈Pd:=hsub q (List.mem_cons_self ..);cases hfq:f q.i with
     | true=>
      refine ihp (q.i::es) ht.2 (fun x hx=>?_) (fun p hp=>hsub p (List.mem_cons_of_mem _ hp)) ⟨p,?_,hfp⟩
      ·rcases List.mem_cons.1 hx with rfl | hx
       ·exact⟨q,hq,rfl,hfq⟩
       ·exact hes x hx
      ·refine(List.mem_cons.1 hp).resolve_left fun e=>?_;rw[e,hfq]at hfp;cases hfp
     | false=>
      refine⟨q,hq,mem_ready.2 ⟨?_,_,(hPd.get q hq).2.1,fun x hx hb=>?_⟩⟩
      ·have hqc:=(hPd.get q hq).1;simp only[zMj,Bool.and_eq_true,Bool.not_eq_true']at hqc;have hun:=zAl hqc.1.2.2.2;cases hg:(pT Pd f c.1).getD q.i false with
       | true=>
        rcases zMt Pd f c.1 q.i hg with h | h
        ·rw[hun.1]at h;cases h
        ·rw[hfq]at h;cases h
       | false=>
        have hsz:∀(ps:List Pn)(l:Array Bool),(pT ps f l).size=l.size:=by
         intro ps;induction ps with
         | nil=>intro l;rfl
         | cons y ps ihs=>intro l;simp only[pT];rw[ihs];cases f y.i<;>simp
        have hlt:q.i<(pT Pd f c.1).size:=by rw[hsz];exact hun.2
        simpa[hlt]using hg
      ·have:=Array.all_eq_true_iff_forall_mem.1 ht.1 x hx;simp only[hb,Bool.not_true,Bool.false_or,Bool.or_eq_true,List.contains_iff_mem]at this;rcases this with h | h
       ·exact qGc Pd f c.1 c.1 (fun _ h=>h) _ h
       ·obtain⟨y,hy,hyx,hfy⟩:=hes _ h;have hyc:=(hPd.get y hy).1;simp only[zMj,Bool.and_eq_true,Bool.not_eq_true']at hyc;rw[←hyx]at hfy ⊢;exact qGd Pd f c.1 y hy hfy (zAl hyc.1.2.2.2).2
   by_cases hex:∃p∈Pd,f p.i=false
   ·obtain⟨p,_,hpr⟩:=key Pd.reverse [] hdis.2 (fun x hx=>by cases hx) (fun p hp=>List.mem_reverse.1 hp) (hex.imp fun p h=>⟨List.mem_reverse.2 h.1,h.2⟩)
    intro h;rw[h]at hpr;cases hpr
   ·rw[hstop f fun p hp=>by
     cases hfp:f p.i
     ·exact absurd ⟨p,hp,hfp⟩ hex
     ·rfl]at J0
    cases J0
  refine qHj hr fun j hj=>?_;by_cases hin:zKb Pd j
  ·exact h1 J0 j hj hin
  ·obtain⟨p,hp',hpj⟩:∃p∈Pd,p.i=j:=by
    apply Classical.byContradiction;intro hno;exact hin fun p hp e=>hno ⟨p,hp,e⟩
   subst hpj;have hfp:f p.i=false:=by
    cases hfp:f p.i
    ·rfl
    ·have hpc:=(hPd.get p hp').1;simp only[zMj,Bool.and_eq_true,Bool.not_eq_true']at hpc;have:=qGd Pd f c.1 p hp' hfp (zAl hpc.1.2.2.2).2;have h9:=(zAl (mem_ready.1 hj).1).1;rw[this]at h9;cases h9
   refine nrun hPd hp' hcl hF hp hj fun hk hlt hno=>?_;have hcl2:pCl Pd (up f p.i true):=fun q hq hfq=>⟨hfq,by
    by_cases hqp:q.i=p.i
    ·obtain rfl:=zHj hdis.1 q hq p hp' (.inl hqp);exact hk
    ·have hfq':f q.i=true:=by rwa[sI f true hqp]at hfq
     intro k;have:=(hcl q hq hfq').2 k;by_cases he:q.deps.getD k q.i=p.i
     ·rw[he,wH]
     ·rw[sI f true he];exact this⟩
   have hp2:=qZa (e:=e) (b:=w.heap.size) hdis.1 hcl hp' hfp hlt (a':=a.put (some p.d) (p.val (up e p.i w.heap.size))) rfl hp;have hF2:=hF.put_ne hno (p.val (up e p.i w.heap.size));have hcnt:=qBx hdis.1 hp' hfp;have hperm:=qPe (e:=e) (b:=w.heap.size) hfp hdis.1 hcl hp';rw[←qPf hdis.1 hp'];have hgo:∀w' Y',St R.E R.w0 R.X w' Y' (M++pM Pd (up f p.i true) (up e p.i w.heap.size))→Le r (rd w' Y')→(jG R.T (pT Pd (up f p.i true) c.1)=false→R.S w')∧wpU R (pT Pd (up f p.i true) c.1) (a.put (some p.d) (p.val (up e p.i w.heap.size))) w':=fun w' Y' hS' hle'=>⟨hold hf h0 hS' hle',ih _ (by omega) _ _ _ _ _ rfl hcl2 hF2 hp2 hS' hle'⟩
   cases A:p.ob with
   | none=>
    simp only;refine hgo w Y (hS.perm ?_) hle;simp only[nb,A,List.nil_append]at hperm;exact hperm.append_left M
   | some o=>
    simp only;refine hgo _ _ ((hS.alloc (o (p.loc (up e p.i w.heap.size)))).perm ?_) (hle.trans (Le.hide_new _));simp only[nb,A,wH]at hperm;exact(hperm.append_left M).trans List.perm_middle
theorem g_op(i:Nat)(h:∀a w Y B,Fr R.n a c.2 R.D→St R.E R.w0 R.X w Y (M++B)→Le r (rd w Y)→(zU R.ops i).wp R.P a w (fun a' w'=>∃L' M' r' Y',Fr R.n a' L' R.D∧St R.E R.w0 R.X w' Y' (M'++B)∧Le r' (rd w' Y')∧
   (jG R.T (c.1.setIfInBounds i true)=true∨(((∀p∈R.M0,p∈M)→∀p∈R.M0,p∈M')∧Le r r'))∧Gt R Pd (c.1.setIfInBounds i true,L') M' r') (vK R.Q))
  (hPd:kW R c Pd Pd) (hdis:(bB Pd&&zNm R c.1 [] Pd.reverse)=true:=by kernel_rfl) (hi:R.ops[i]?=some (zU R.ops i):=by kernel_rfl) (hr:Region.ready .any R.ops (lC Pd c.1)=[i]:=by kernel_rfl) (hw:(yX R.ops c.2 (zU R.ops i) true&&pNe Pd i (zU R.ops i).dst)=true:=by kernel_rfl):Gt R Pd c M r:=by
 intro hf h0 f e a w Y hb hF hp hS hle;simp only[Bool.and_eq_true]at hw;have hin:zKb Pd i:=fun p hp=>by
  have:=List.all_eq_true.1 hw.2 p hp;simp only[Bool.and_eq_true,Bool.not_eq_true',beq_eq_false_iff_ne]at this;exact this.1
 have main:∀f e a w Y,pCl Pd f→Fr R.n a c.2 R.D→pOk a Pd f e→St R.E R.w0 R.X w Y (M++pM Pd f e)→Le r (rd w Y)→∀j∈Region.ready .any R.ops (pT Pd f c.1),zKb Pd j→
   wpOp R.P R.ops (vK R.Q) j (fun a' w'=>(jG R.T ((pT Pd f c.1).setIfInBounds j true)=false→R.S w')∧wpU R ((pT Pd f c.1).setIfInBounds j true) a' w') a w:=by
  intro f e a w Y hb hF hp hS hle j hj hin;have hji:j=i:=by
   have:j∈Region.ready .any R.ops (lC Pd c.1):=zHt hj (zWh Pd f c.1 c.1 rfl (fun _ h=>h)) (by rw[lC,zHm Pd _ c.1 j hin,←zHm Pd f c.1 j hin];exact(mem_ready.1 hj).1)
   rw[hr]at this;simpa using this
  subst hji;unfold wpOp;simp only[hi];rw[if_pos (hF.wanted hw.1)];refine .inl (Oper.wp_mono ?_ (qMz (h a w Y (pM Pd f e) hF hS hle)));rintro a' w' ⟨⟨L',M',r',Y',hF',hS',hle',hst,hG⟩,v,hv⟩;have hp':=zMs (i:=j) hv hw.2 hp;have h0':jG R.T (c.1.setIfInBounds j true)=true∨((∀p∈R.M0,p∈M')∧Le R.r0 r'):=by
   rcases hst with hst | ⟨h1,h2⟩
   ·exact .inl hst
   ·rcases h0 with h0 | ⟨h3,h4⟩
    ·exact .inl (zFt h0)
    ·exact .inr ⟨h1 h3,h4.trans h2⟩
  rw[←zHn];exact⟨hold (c:=(c.1.setIfInBounds j true,L')) hf h0' hS' hle',hG hf h0' f e a' w' Y' hb hF' hp' hS' hle'⟩
 refine zLt (fun f=>Pd.all fun p=>f p.i) (fun f h=>List.all_eq_true.2 h) hPd hdis (fun f e a w Y hb hF hp hS hle=>⟨fun _=>main f e a w Y hb hF hp hS hle,fun hc=>?_⟩) hf h0 (cnt Pd f) f e a w Y rfl hb hF hp hS hle;have heq:pT Pd f c.1=lC Pd c.1:=fA Pd f _ c.1 fun q hq=>List.all_eq_true.1 hc q hq;refine qHj (by rw[heq,hr];simp) fun j hj=>?_
 have hji:j=i:=by rw[heq,hr]at hj;simpa using hj
 exact main f e a w Y hb hF hp hS hle j hj (hji▸hin)
structure SzLe(w0 w:World):Prop where
 size:w0.heap.size≤w.heap.size
structure YLt(w0:World)(Y:Hid)(w:World):Prop where
 upd:SzLe w0 w
 lt:∀k o,Y k o→k<w.heap.size
def gV(R:Rg)(c:Array Bool×List (Nat×Value))(i:Nat):Option (FuncId×Array Value):=match evL c.2 (clF (zU R.ops i))with
 | .func (.func f) t cap=>bif t.isEmpty then some (f,(clA (zU R.ops i)).map (evL c.2)++cap)else none
 | _=>none
theorem qJl{i:Nat}{f:FuncId}{vs:Array Value}(h:gV R c i=some (f,vs)):∃cap,evL c.2 (clF (zU R.ops i))= .func (.func f) #[] cap∧(clA (zU R.ops i)).map (evL c.2)++cap=vs:=by
 unfold gV at h;split at h
 ·rename_i f' t cap he;cases ht:t.isEmpty<;>simp only[ht,cond_true,cond_false]at h<;>cases h;obtain rfl:t=#[]:=by simpa using ht
  exact⟨cap,he,rfl⟩
 ·cases h
theorem gC(i:Nat){f:FuncId}{vs:Array Value}{Φ:World→Hid→World→Value→Prop}(hcon:∀w Y B,St R.E R.w0 R.X w Y (M++B)→Le r (rd w Y)→Calls R.P f vs w (Ret E0 w (Φ w Y)))
  (k:∀v w Y w1,YLt R.w0 Y w→Le r (rd w1 Y)→Φ w Y w1 v→Gt R Pd (gv R i v c) M (rd w1 Y))
  (hPd:kW R c Pd Pd:=by exact kW.nil) (hv:gV R c i=some (f,vs):=by kernel_rfl) (hk:(opk c.2 (zU R.ops i) (gd R i) R.n&&!R.T.contains i)=true:=by kernel_rfl) (ho:(zU R.ops i).op= .call {callee:= .value (clF (zU R.ops i)),args:=clA (zU R.ops i),argTypes:=clT (zU R.ops i)}:=by kernel_rfl)
  (hcall:∀w,(callFunc f vs).run R.P w= .ok (.enter f vs) w:=by intro w;kernel_rfl) (hdis:(bB Pd&&zNm R c.1 [] Pd.reverse)=true:=by kernel_rfl) (hi:R.ops[i]?=some (zU R.ops i):=by kernel_rfl) (hr:Region.ready .any R.ops (lC Pd c.1)=[i]:=by kernel_rfl)
  (hw:(yX R.ops c.2 (zU R.ops i) true&&pNe Pd i (zU R.ops i).dst)=true:=by kernel_rfl):Gt R Pd c M r:=by
 obtain⟨cap,hf,ha⟩:=qJl hv;simp only[Bool.and_eq_true]at hk;have hd:(zU R.ops i).dst=some (gd R i):=by
  have:=hk.1;simp only[opk,Bool.and_eq_true]at this;exact(qO this.2).1
 refine g_op i (fun a w Y B hF hS hle=>?_) hPd hdis hi hr hw;refine kC hF hk.1 hS ho hf ha hcall (hcon w Y B hS hle) fun v w1 h1 h2 _ h4 a1 hF1=>?_;have:=k v w Y w1 ⟨⟨hS.upd.size⟩,hS.lt⟩ (hle.trans h2) h4;refine⟨_,M,rd w1 Y,Y,hF1,h1,Le.refl _,.inr ⟨fun h=>h,hle.trans h2⟩,?_⟩;simpa only[gv,hd]using this
theorem gp(p:Pn)(h:Gt R (p::Pd) c M r)(hp:(!R.T.contains p.i&&(!c.1.getD p.i true&&Pd.all fun q=>!(q.i==p.i)&&!q.deps.contains p.i))=true:=by kernel_rfl):Gt R Pd c M r:=by
 intro hf h0 f e a w Y hb hF hp' hS hle;simp only[Bool.and_eq_true,Bool.not_eq_true']at hp;have hne:∀q∈Pd,q.i≠p.i:=fun q hq=>by
  have:=List.all_eq_true.1 hp.2.2 q hq;simp only[Bool.and_eq_true,Bool.not_eq_true',beq_eq_false_iff_ne]at this;exact this.1
 have hnd:∀q∈Pd,∀k,q.deps.getD k q.i≠p.i:=fun q hq k=>by
  have:=List.all_eq_true.1 hp.2.2 q hq;simp only[Bool.and_eq_true,Bool.not_eq_true',beq_eq_false_iff_ne]at this;rcases Nat.lt_or_ge k q.deps.length with hk | hk
  ·rw[List.getD_eq_getElem?_getD,List.getElem?_eq_getElem hk];intro he;have hm:p.i∈q.deps:=by rw[←he];exact List.getElem_mem hk
   have h2:=this.2;rw[←Bool.not_eq_true,List.contains_iff_mem]at h2;exact h2 hm
  ·rw[List.getD_eq_getElem?_getD,List.getElem?_eq_none hk];exact this.1
 have e1:∀q∈Pd,f q.i=up f p.i false q.i:=fun q hq=>(sI f false (hne q hq)).symm;have:=h (by simp only[bH,List.all_cons,hp.1,Bool.not_false,Bool.true_and];exact hf) h0 (up f p.i false) e a w Y (fun q hq hfq=>by
  rcases List.mem_cons.1 hq with rfl | hq
  ·rw[wH]at hfq;cases hfq
  ·refine⟨hfq,fun k=>?_⟩;rw[sI f false (hnd q hq k)];exact(hb q hq (by rwa[e1 q hq])).2 k) hF (fun q hq hfq=>by
  rcases List.mem_cons.1 hq with rfl | hq
  ·rw[wH]at hfq;cases hfq
  ·exact hp' q hq (by rwa[e1 q hq])) (by
  simp only[pM,wH,cond_false,List.nil_append];rw[zHl Pd (up f p.i false) f e e fun q hq=>⟨(e1 q hq).symm,fun _=>⟨rfl,rfl⟩⟩];exact hS) hle
 simp only[pT,wH,cond_false]at this;rwa[fA Pd (up f p.i false) f c.1 fun q hq=>(e1 q hq).symm]at this
theorem Fr.cons{n:Nat}{a:Act}{L:List (Nat×Value)}{D:List Deferred}(h:Fr n a L D){d:Nat}{v:Value}(hd:a.tmps[d]?=some v):Fr n a ((d,v)::L) D:=by
 refine⟨h.size,h.defers,fun t ht=>?_⟩;simp only[has,tY]at *;cases hb:Nat.beq d t with
 | true=>obtain rfl:=Nat.eq_of_beq_eq_true hb;simpa using hd
 | false=>rw[hb]at ht;simpa using h.get t (by simpa using ht)
def pB:List Pn→(Nat→Nat)→List (Nat×Obj)
 | [],_=>[]
 | p::ps,e=>match p.ob with
  | some o=>(e p.i,o (p.loc e))::pB ps e
  | none=>pB ps e
theorem qFx:∀(Pd:List Pn)(f:Nat→Bool)(e:Nat→Nat),(∀p∈Pd,f p.i=true)→pM Pd f e=pB Pd e
 | [],_,_,_=>rfl
 | p::ps,f,e,h=>by
  simp only[pM,pB,h p (List.mem_cons_self ..),cond_true,qFx ps f e fun q hq=>h q (List.mem_cons_of_mem _ hq)];cases p.ob<;>rfl
def gfl(R:Rg)(Pd:List Pn)(l:Array Bool):Bool:=Pd.all fun p=>(Region.ready .any R.ops (lC (Pd.filter fun q=>!(q.i==p.i)) l)).all fun j=>Pd.any fun q=>q.i==j
theorem zMu{x:Nat}:∀(Pd:List Pn)(f:Nat→Bool)(l l':Array Bool),l.size=l'.size→f x=false→LeA l l'→LeA (pT Pd f l) (lC (Pd.filter fun q=>!(q.i==x)) l')
 | [],_,_,_,_,_,h=>h
 | p::ps,f,l,l',hs,hx,h=>by
  simp only[pT];by_cases hp:p.i=x
  ·simp only[List.filter_cons,hp,beq_self_eq_true,Bool.not_true,Bool.false_eq_true,if_false,hx,cond_false];exact zMu ps f l l' hs hx h
  ·simp only[List.filter_cons,show(p.i==x)=false by simpa using hp,Bool.not_false,if_true,lC,pT,cond_true]
   cases f p.i
   ·exact zMu ps f _ _ (by simpa using hs) hx (h.setr p.i)
   ·exact zMu ps f _ _ (by simpa using hs) hx (h.set p.i hs)
theorem ge(k:∀e:Nat→Nat,Gt R [] (lC Pd c.1,pS Pd e++c.2) (pB Pd e++M) r)(hPd:kW R c Pd Pd)(hc:(bB Pd&&zNm R c.1 [] Pd.reverse)=true:=by kernel_rfl)(hfl:gfl R Pd c.1=true:=by kernel_rfl):Gt R Pd c M r:=by
 intro hf h0 f e a w Y hb hF hp hS hle;refine zLt (fun f=>Pd.all fun p=>f p.i) (fun f h=>List.all_eq_true.2 h) hPd hc (fun f e a w Y hb hF hp hS hle=>⟨fun h1 j hj hin=>?_,fun h1=>?_⟩) hf h0 (cnt Pd f) f e a w Y rfl hb hF hp hS hle
 ·exfalso;obtain⟨p,hp',hfp⟩:∃p∈Pd,f p.i=false:=by
   apply Classical.byContradiction;intro hno;rw[List.all_eq_true.2 fun p hp=>by
    cases hfp:f p.i
    ·exact absurd ⟨p,hp,hfp⟩ hno
    ·rfl]at h1
   cases h1
  have hun:(lC (Pd.filter fun q=>!(q.i==p.i)) c.1).getD j true=false:=by
   rw[lC,zHm _ _ c.1 j (fun q hq=>hin q (List.mem_filter.1 hq).1),←zHm Pd f c.1 j hin];exact(mem_ready.1 hj).1
  have hjr:=zHt hj (zMu (x:=p.i) Pd f c.1 c.1 rfl hfp (fun _ h=>h)) hun;have:=List.all_eq_true.1 hfl p hp';have:=List.all_eq_true.1 this j hjr;rw[List.any_eq_true]at this;obtain⟨q,hq,he⟩:=this;exact hin q hq (by simpa using he)
 ·have hall:∀p∈Pd,f p.i=true:=fun p hp=>List.all_eq_true.1 h1 p hp;have heq:pT Pd f c.1=lC Pd c.1:=fA Pd f _ c.1 fun q hq=>hall q hq;rw[heq];rw[qFx Pd f e hall]at hS;have hF2:∀ps:List Pn,(∀p∈ps,p∈Pd)→Fr R.n a (pS ps e++c.2) R.D:=by
   intro ps;induction ps with
   | nil=>intro _;exact hF
   | cons p ps ihp=>intro h;exact(ihp fun q hq=>h q (List.mem_cons_of_mem _ hq)).cons (hp p (h p (List.mem_cons_self ..)) (hall p (h p (List.mem_cons_self ..))))
  have:=k e (by rfl) (by
   show jG R.T (lC Pd c.1)=true∨_;rw[lC,aY Pd _ _ hf];exact h0.imp id fun h=>⟨fun p hp=>List.mem_append_right _ (h.1 p hp),h.2⟩) f e a w Y (fun p hp=>by cases hp) (hF2 Pd fun _ h=>h) (fun p hp=>by cases hp) (by
   simp only[pM,List.append_nil];exact hS.perm List.perm_append_comm) hle
  exact this
theorem gs1{p:Pn}(k:∀b,Gt R Pd (c.1.setIfInBounds p.i true,(p.d,p.vf fun _=>b)::c.2) (nb p (fun _=>b)++M) r)(hPd:kW R c (p::Pd) (p::Pd))(hc:(bB (p::Pd)&&zNm R c.1 [] (p::Pd).reverse)=true:=by kernel_rfl)
  (hdp:(p.deps.all (fun j=>j==p.i)&&(Pd.all (fun q=>!q.deps.contains p.i)&&(Region.ready .any R.ops (lC Pd c.1)).all fun j=>(p::Pd).any fun q=>q.i==j))=true:=by kernel_rfl):Gt R (p::Pd) c M r:=by
 intro hf h0 f e a w Y hb hF hp hS hle;simp only[Bool.and_eq_true]at hdp;have hf2:bH R.T Pd=true:=by simp only[bH,List.all_cons,Bool.and_eq_true]at hf;exact hf.2
 have hpT:p.i∉R.T:=fun e=>by simp[bH,e]at hf
 refine zLt (fun f=>f p.i) (fun f h=>h p (List.mem_cons_self ..)) hPd hc (fun f e a w Y hb hF hp hS hle=>⟨fun h1 j hj hin=>?_,fun h1=>?_⟩) hf h0 (cnt (p::Pd) f) f e a w Y rfl hb hF hp hS hle
 ·exfalso;have hin2:zKb Pd j:=fun q hq=>hin q (List.mem_cons_of_mem _ hq);have hj':j∈Region.ready .any R.ops (pT Pd f c.1):=by simpa only[pT,h1,cond_false]using hj
  have hjr:j∈Region.ready .any R.ops (lC Pd c.1):=zHt hj' (zWh Pd f c.1 c.1 rfl (fun _ h=>h)) (by rw[lC,zHm Pd _ c.1 j hin2,←zHm Pd f c.1 j hin2];exact(mem_ready.1 hj').1)
  have:=List.all_eq_true.1 hdp.2.2 j hjr;rw[List.any_eq_true]at this;obtain⟨q,hq,he⟩:=this;exact hin q hq (by simpa using he)
 ·have hloc:p.loc e=fun _=>e p.i:=funext fun k=>by
   unfold Pn.loc;rcases Nat.lt_or_ge k p.deps.length with hk | hk
   ·rw[List.getD_eq_getElem?_getD,List.getElem?_eq_getElem hk];have:=List.all_eq_true.1 hdp.1 _ (List.getElem_mem hk);rw[Option.getD_some,eq_of_beq this]
   ·rw[List.getD_eq_getElem?_getD,List.getElem?_eq_none hk];rfl
  have hv:=hp p (List.mem_cons_self ..) h1;unfold Pn.val at hv;rw[hloc]at hv;have Z2:St R.E R.w0 R.X w Y ((nb p (fun _=>e p.i)++M)++pM Pd f e):=hS.perm (by
   simp only[pM,h1,cond_true];unfold nb;rw[show p.loc (fun _=>e p.i)=p.loc e by rw[hloc];rfl]
   cases p.ob with
   | none=>exact List.Perm.refl _
   | some o=>exact List.perm_middle.symm)
  have:=k (e p.i) hf2 (by
   show jG R.T (c.1.setIfInBounds p.i true)=true∨_;rw[vE hpT];exact h0.imp id fun h=>⟨fun q hq=>List.mem_append_right _ (h.1 q hq),h.2⟩) f e a w Y (fun q hq=>hb q (List.mem_cons_of_mem _ hq)) (hF.cons hv) (fun q hq=>hp q (List.mem_cons_of_mem _ hq)) Z2 hle
  simpa only[pT,h1,cond_true]using this
theorem gp1(p:Pn)(k:∀b,Gt R [] (c.1.setIfInBounds p.i true,(p.d,p.vf fun _=>b)::c.2) (nb p (fun _=>b)++M) r)(hPd:kW R c [p] [p]:=by exact kW.cons (by kernel_rfl) (by kernel_rfl) (by intro e;kernel_rfl) (by intro e w;kernel_rfl) kW.nil)
  (hp:(!R.T.contains p.i&&(!c.1.getD p.i true&&true))=true:=by kernel_rfl) (hc:(bB [p]&&zNm R c.1 [] [p].reverse)=true:=by kernel_rfl) (hdp:(p.deps.all (fun j=>j==p.i)&&(true&&(Region.ready .any R.ops c.1).all fun j=>[p].any fun q=>q.i==j))=true:=by kernel_rfl):Gt R [] c M r:=
 gp p (gs1 k hPd hc hdp) hp
theorem gO(i:Nat)(h:∀a w Y,Fr R.n a c.2 R.D→St R.E R.w0 R.X w Y M→Le r (rd w Y)→(zU R.ops i).wp R.P a w (fun a' w'=>∃L' M' r' Y',Fr R.n a' L' R.D∧St R.E R.w0 R.X w' Y' M'∧Le r' (rd w' Y')∧
   (jG R.T (c.1.setIfInBounds i true)=true∨(((∀p∈R.M0,p∈M)→∀p∈R.M0,p∈M')∧Le r r'))∧Gt R [] (c.1.setIfInBounds i true,L') M' r') (vK R.Q))
  (hi:R.ops[i]?=some (zU R.ops i):=by kernel_rfl) (hr:Region.ready .any R.ops c.1=[i]:=by kernel_rfl) (hw:yX R.ops c.2 (zU R.ops i) true=true:=by kernel_rfl):Gt R [] c M r:=by
 intro hf h0 f e a w Y hb hF hp hS hle;have Z0:St R.E R.w0 R.X w Y M:=by simpa only[pM,List.append_nil]using hS
 show wpU R c.1 a w;refine qHj (by rw[hr];simp) fun j hj=>?_
 obtain rfl:j=i:=by rw[hr]at hj;simpa using hj
 unfold wpOp;simp only[hi];rw[if_pos (hF.wanted hw)];refine .inl (Oper.wp_mono ?_ (h a w Y hF Z0 hle));rintro a' w' ⟨L',M',r',Y',hF',hS',hle',hst,hG⟩;have h0':jG R.T (c.1.setIfInBounds j true)=true∨((∀p∈R.M0,p∈M')∧Le R.r0 r'):=by
  rcases hst with hst | ⟨h1,h2⟩
  ·exact .inl hst
  ·rcases h0 with h0 | ⟨h3,h4⟩
   ·exact .inl (zFt h0)
   ·exact .inr ⟨h1 h3,h4.trans h2⟩
 have Z2:St R.E R.w0 R.X w' Y' (M'++pM [] f e):=by simpa only[pM,List.append_nil]using hS'
 have hnil:pCl [] f:=fun p hp=>by cases hp
 have hok:pOk a' [] f e:=fun p hp=>by cases hp
 exact⟨hold (Pd:=[]) (f:=f) (e:=e) (c:=(c.1.setIfInBounds j true,L')) hf h0' Z2 hle',hG hf h0' f e a' w' Y' hnil hF' hok Z2 hle'⟩
theorem gX(i j:Nat)(c':Array Value)(k:∀w1 Y,Le r (rd w1 Y)→Gt R [] (gv R i undef c) (wrM M j c') (rd w1 Y))
  (hT:R.T.contains i=true:=by kernel_rfl) (hc:(pO c.2 (zU R.ops i)&&(zU R.ops i).dst.isNone)=true:=by kernel_rfl) (ho:(zU R.ops i).op= .store (stT (zU R.ops i)) (stA (zU R.ops i)) (stV (zU R.ops i)):=by kernel_rfl)
  (ha:evL c.2 (stA (zU R.ops i))= .pointer (some ⟨bO M j,aL (evL c.2 (stA (zU R.ops i))),none⟩):=by kernel_rfl)
  (ht:ldT R.P (stT (zU R.ops i))=some (zPl R.P (stT (zU R.ops i)),(evL c.2 (stV (zU R.ops i))).cells.size):=by kernel_rfl) (h1:(evL c.2 (stV (zU R.ops i))).cells.toList.all Value.oneCell'=true:=by kernel_rfl)
  (hM:M[j]?=some (bO M j,.cells (cO M j) (tO M j) (0,0)):=by kernel_rfl) (hle:Nat.ble (aL (evL c.2 (stA (zU R.ops i)))+(evL c.2 (stV (zU R.ops i))).cells.size) (cO M j).size=true:=by kernel_rfl)
  (hw:yH (cO M j) (aL (evL c.2 (stA (zU R.ops i)))) (evL c.2 (stV (zU R.ops i))).cells.toList=c':=by kernel_rfl)
  (hi:R.ops[i]?=some (zU R.ops i):=by kernel_rfl) (hr:Region.ready .any R.ops c.1=[i]:=by kernel_rfl) (hwt:yX R.ops c.2 (zU R.ops i) true=true:=by kernel_rfl) (hb:jG R.T (c.1.setIfInBounds i true)=true:=by kernel_rfl):Gt R [] c M r:=by
 refine gO i (fun a w Y hF hS hle'=>zE j _ hF hc hS ho ha rfl ht rfl h1 hM (Nat.le_of_ble_eq_true hle) hw rfl fun w1 h2 h3=>?_) hi hr hwt;refine⟨c.2,wrM M j c',rd w1 Y,Y,hF,(by rw[zNs hM];exact h2),Le.refl _,.inl hb,?_⟩
 have:=k w1 Y (hle'.trans h3);have hd:(zU R.ops i).dst=none:=by have h9:=hc;rw[Bool.and_eq_true]at h9;exact Option.isNone_iff_eq_none.1 h9.2
 simpa only[gv,hd]using this
theorem gXs(i j:Nat)(is:List Nat)(c':Array Value)(k:∀w1 Y,Le r (rd w1 Y)→Gt R [] (gv R i undef c) (wrM M j c') (rd w1 Y))
  (hst:sel (wrM M j c') is=R.M0:=by kernel_rfl) (hc:(pO c.2 (zU R.ops i)&&(zU R.ops i).dst.isNone)=true:=by kernel_rfl) (ho:(zU R.ops i).op= .store (stT (zU R.ops i)) (stA (zU R.ops i)) (stV (zU R.ops i)):=by kernel_rfl)
  (ha:evL c.2 (stA (zU R.ops i))= .pointer (some ⟨bO M j,aL (evL c.2 (stA (zU R.ops i))),none⟩):=by kernel_rfl)
  (ht:ldT R.P (stT (zU R.ops i))=some (zPl R.P (stT (zU R.ops i)),(evL c.2 (stV (zU R.ops i))).cells.size):=by kernel_rfl) (h1:(evL c.2 (stV (zU R.ops i))).cells.toList.all Value.oneCell'=true:=by kernel_rfl)
  (hM:M[j]?=some (bO M j,.cells (cO M j) (tO M j) (0,0)):=by kernel_rfl) (hle:Nat.ble (aL (evL c.2 (stA (zU R.ops i)))+(evL c.2 (stV (zU R.ops i))).cells.size) (cO M j).size=true:=by kernel_rfl)
  (hw:yH (cO M j) (aL (evL c.2 (stA (zU R.ops i)))) (evL c.2 (stV (zU R.ops i))).cells.toList=c':=by kernel_rfl)
  (hi:R.ops[i]?=some (zU R.ops i):=by kernel_rfl) (hr:Region.ready .any R.ops c.1=[i]:=by kernel_rfl) (hwt:yX R.ops c.2 (zU R.ops i) true=true:=by kernel_rfl):Gt R [] c M r:=by
 refine gO i (fun a w Y hF hS hle'=>zE j _ hF hc hS ho ha rfl ht rfl h1 hM (Nat.le_of_ble_eq_true hle) hw rfl fun w1 h2 h3=>?_) hi hr hwt;refine⟨c.2,wrM M j c',rd w1 Y,Y,hF,(by rw[zNs hM];exact h2),Le.refl _,.inr ⟨fun _=>selm is hst,hle'.trans h3⟩,?_⟩
 have:=k w1 Y (hle'.trans h3);have hd:(zU R.ops i).dst=none:=by have h9:=hc;rw[Bool.and_eq_true]at h9;exact Option.isNone_iff_eq_none.1 h9.2
 simpa only[gv,hd]using this
end
def lZ(c:Cf):Array Oper:=match c.cu with
 | .code (.region _ o _)=>o
 | _=>#[]
def did(c:Cf):Nat:=match c.cu with
 | .code (.region id _ _)=>id
 | _=>0
def isSt:Op→Bool
 | .store .. =>true
 | _=>false
def cB:Op→Bool
 | .load .. =>true
 | _=>false
def tOf(ops:Array Oper):List Nat:=(List.range ops.size).filter fun i=>isSt (zU ops i).op&&(List.range ops.size).all fun j=>!cB (zU ops j).op||(zU ops i).after.any fun e=>Region.binds .any e&&e.on==j
section
variable {r:Option Nat}{m:Nat}{P:Program}{Q:Exit→Act→World→Prop}{n:Nat}{D:List Deferred}{w:World}{c:Cf}{E:Nat→Prop}{w0:World}{X Y:Hid}{M:List (Nat×Obj)}
noncomputable def mkR(r:Option Nat)(m:Nat)(P:Program)(Q:Exit→Act→World→Prop)(n:Nat)(D:List Deferred)(w:World)(c:Cf)(E:Nat→Prop)(w0:World)(X Y:Hid)(M0:List (Nat×Obj))(T:List Nat):Rg:=
 {P:=P,ops:=lZ c,Q:=QQ r m P Q c.k,T:=T,n:=n,D:=D,E:=E,w0:=w0,X:=X,M0:=M0,r0:=rd w Y}
theorem zUb(T:List Nat)(M0:List (Nat×Obj))(hS:St E w0 X w Y M)(k:Gt (mkR r m P Q n D w c E w0 X Y M0 T) [] (Array.replicate (lZ c).size false,c.L) M (rd w Y))(hM0:∀p∈M0,p∈M)
  (hx:c.cu= .code (.region (did c) (lZ c) true):=by kernel_rfl) (hm:P.follows .mixedOrders=true:=by kernel_rfl) (hd:(lZ c).all (fun o=>xQ o.op)=true:=by kernel_rfl):Go r m P Q n D w c:=by
 intro a hF;rw[hx];refine dG (mkR r m P Q n D w c E w0 X Y M0 T).S T hm rfl hd hS fun w1 Z1 hle hu=>?_;have Z2:St E w0 X w1 Y (M++pM [] (fun _=>false) (fun _=>0)):=by simpa only[pM,List.append_nil]using Z1
 exact k (by rfl) (.inr ⟨hM0,Le.refl _⟩) (fun _=>false) (fun _=>0) a w1 Y (fun p hp=>by cases hp) hF (fun p hp=>by cases hp) Z2 hle (lZ c).size (Nat.le_trans List.countP_le_length (by simp[pT]))
theorem qPp(is:List Nat)(hS:St E w0 X w Y M)(k:Gt (mkR r m P Q n D w c E w0 X Y (sel M is) (tOf (lZ c))) [] (Array.replicate (lZ c).size false,c.L) M (rd w Y))
  (hx:c.cu= .code (.region (did c) (lZ c) true):=by kernel_rfl) (hm:P.follows .mixedOrders=true:=by kernel_rfl) (hd:(lZ c).all (fun o=>xQ o.op)=true:=by kernel_rfl):Go r m P Q n D w c:=zUb _ _ hS k zBx hx hm hd
theorem zdrs(is:List Nat)(hS:St E w0 X w Y M)(k:Gt (mkR r m P Q n D w c E w0 X Y (sel M is) []) [] (Array.replicate (lZ c).size false,c.L) M (rd w Y))
  (hx:c.cu= .code (.region (did c) (lZ c) true):=by kernel_rfl) (hm:P.follows .mixedOrders=true:=by kernel_rfl) (hd:(lZ c).all (fun o=>xQ o.op)=true:=by kernel_rfl):Go r m P Q n D w c:=zUb _ _ hS k zBx hx hm hd
theorem zdr(hS:St E w0 X w Y M)(k:Gt (mkR r m P Q n D w c E w0 X Y M (tOf (lZ c))) [] (Array.replicate (lZ c).size false,c.L) M (rd w Y))
  (hx:c.cu= .code (.region (did c) (lZ c) true):=by kernel_rfl) (hm:P.follows .mixedOrders=true:=by kernel_rfl) (hd:(lZ c).all (fun o=>xQ o.op)=true:=by kernel_rfl):Go r m P Q n D w c:=zUb _ M hS k (fun _ h=>h) hx hm hd
theorem zCy{w':World}{Y':Hid}{M0 M':List (Nat×Obj)}{T:List Nat}{r':Rd}{c':Array Bool×List (Nat×Value)}(h:∀w1 Y1,St E w0 X w1 Y1 M'→Le r' (rd w1 Y1)→Go r m P Q n D w1 ⟨.ex .normal,c.k,c'.2⟩)(hr:Region.ready .any (lZ c) c'.1=[]:=by kernel_rfl):Gt (mkR r m P Q n D w' c E w0 X Y' M0 T) [] c' M' r':=by
 intro hf h0 f e a w Y hb hF hp hS hle fuel _;have Z2:St E w0 X w Y M':=by have h9:=hS;simp only[pM,List.append_nil]at h9;exact h9
 exact zDv hr (nrm (h w Y Z2 hle a hF))
end
end Go.Gv
namespace Go.Gv
open Go.RowKit IntKind
def zEr(o:Oper)(i:Nat):Operand:=match o.op with
 | .call c=>(c.args[i]?).getD (.tmp 0)
 | _=> .tmp 0
def bTy(o:Oper)(i:Nat):TypeId:=match o.op with
 | .call c=>(c.argTypes[i]?).getD 0
 | _=>0
def mkL(o:Oper):Operand:=match o.op with
 | .makeSlice _ x _=>x
 | _=> .tmp 0
def mkT(o:Oper):TypeId:=match o.op with
 | .makeSlice t _ _=>t
 | _=>0
def slE(P:Program)(t:TypeId):TypeId:=match P.underlying t with
 | some (.slice e)=>e
 | _=>0
def zI(i:TypeInfo):Value:=(i.zero).getD undef
def od(o:Oper):Nat:=o.dst.getD 0
section
variable {P:Program}{Q:Exit→Act→World→Prop}{K:Act→World→Prop}{a:Act}{o:Oper}{n:Nat}{L:List (Nat×Value)}{D:List Deferred}{E:Nat→Prop}{w0 w:World}{X Y:Hid}{M:List (Nat×Obj)}
theorem zKe{f:FuncId}{vs:Array Value}{ob1 ob2:Obj}{b1 b2:Nat}{Φ:World→Value→Prop}(i j:Nat)(hF:Fr n a L D)(hS:St E w0 X w Y M)(hM1:M[i]?=some (b1,ob1))(hM2:M[j]?=some (b2,ob2))(hcon:Calls P f vs w (Ret (fun k=>k=b1∨k=b2) w Φ))
  (k:∀v w1,Φ w1 v→(∀o1 o2,w1.heap[b1]?=some o1→w1.heap[b2]?=some o2→St E w0 X w1 Y ((M.set i (b1,o1)).set j (b2,o2)))→Le (rd w Y) (rd w1 Y)→∀a1,Fr n a1 ((od o,v)::L) D→K a1 w1)
  (hc:opk L o (od o) n=true:=by kernel_rfl) (ho:o.op= .call {callee:= .value (clF o),args:=clA o,argTypes:=clT o}:=by kernel_rfl) (hf:evL L (clF o)= .func (.func f) #[] (qIp (evL L (clF o))):=by kernel_rfl) (hargs:(clA o).map (evL L)++qIp (evL L (clF o))=vs:=by kernel_rfl)
  (hcall:∀w,(callFunc f vs).run P w= .ok (.enter f vs) w:=by intro w;kernel_rfl) (hij:(Nat.beq i j)=false:=by kernel_rfl):o.wp P a w K Q:=
 qFc i j hF hc hS ho hf hargs hcall hM1 hM2 (fun e=>by subst e;simp at hij) hcon k
theorem zYn{f:FuncId}{vs:Array Value}{ob:Obj}{b:Nat}{Ψ:Nat→Obj→Value→Prop}(i:Nat)(hF:Fr n a L D)(hS:St E w0 X w Y M)(hM:M[i]?=some (b,ob))
  (hcon:Calls P f vs w (Ret (·=b) w fun w1 v=>∃g' o',w1.heap[g']?=some o'∧(w.heap.size≤g'∨g'=b)∧Ψ g' o' v))
  (k:∀v w1 Y1 g' o',Ψ g' o' v→St E w0 X w1 Y1 (M.set i (g',o'))→Le (rd w Y) (rd w1 Y1)→∀a1,Fr n a1 ((od o,v)::L) D→K a1 w1)
  (hc:opk L o (od o) n=true:=by kernel_rfl) (ho:o.op= .call {callee:= .value (clF o),args:=clA o,argTypes:=clT o}:=by kernel_rfl) (hf:evL L (clF o)= .func (.func f) #[] (qIp (evL L (clF o))):=by kernel_rfl) (hargs:(clA o).map (evL L)++qIp (evL L (clF o))=vs:=by kernel_rfl)
  (hcall:∀w,(callFunc f vs).run P w= .ok (.enter f vs) w:=by intro w;kernel_rfl):o.wp P a w K Q:=
 zPz i hF hc hS ho hf hargs hcall hM hcon k
theorem sW{g k:Nat}{T:TypeId}{m cap:Nat}{cur:Array Value}{l:List Nat}{e:Int}{y:Nat}(i:Nat)(hF:Fr n a L D)(hS:St E w0 X w Y M)(he:e=(y:Int))(hM:M[i]?=some (g,.cells cur T (0,0)))(hrow:qG m cap cur l)(hk:k<l.length)(hy:y<4294967296)
  (kont:∀cur' w1,qG m cap cur' (l.set k y)→St E w0 X w1 Y (M.set i (g,.cells cur' T (0,0)))→Le (rd w Y) (rd w1 Y)→K a w1)
  (hc:(pO L o&&o.dst.isNone)=true:=by kernel_rfl) (ho:o.op= .store (stT o) (stA o) (stV o):=by kernel_rfl) (ha:evL L (stA o)= .pointer (some ⟨g,k,none⟩):=by kernel_rfl) (hv:evL L (stV o)= .int .u32 e:=by kernel_rfl) (ht:ldT P (stT o)=some (false,1):=by kernel_rfl):o.wp P a w K Q:=
 mF i hF hc hS ho ha hv he ht hM hrow hk hy kont
theorem zHg{l:Int}{e:TypeId}{z:Value}{i0:TypeInfo}(m b:Nat)(hF:Fr n a L D)(hS:St E w0 X w Y M)
  (k:∀b w1 Y1,St E w0 X w1 Y1 ((b,.cells (List.replicate m z).toArray e (0,0))::M)→Le (rd w Y) (rd w1 Y1)→Upd E0 w w1→∀a1,Fr n a1 ((od o,.slice (some ⟨b,0,none⟩) m m)::L) D→K a1 w1)
  (hby:b*m≤281474976710656:=by omega) (h63:m≤140737488355328:=by omega) (hm:l=(m:Int):=by first | rfl | omega)
  (hb:i0.bytes=b:=by kernel_rfl) (hc:opk L o (od o) n=true:=by kernel_rfl) (ho:o.op= .makeSlice (mkT o) (mkL o) (mkL o):=by kernel_rfl) (hl:evL L (mkL o)= .int .i64 l:=by kernel_rfl)
  (ht:P.underlying (mkT o)=some (.slice e):=by kernel_rfl) (hi:P.info? e=some i0:=by kernel_rfl) (hz:i0.zero=some z:=by kernel_rfl) (hs:i0.size=1:=by kernel_rfl) (hzc:z.cells=#[z]:=by kernel_rfl):o.wp P a w K Q:=
 zVy hF hc hS ho hl hm ht hi hz hs hzc (by rw[hb];exact hby) h63 k
theorem zYo{g dl dc sl sc:Nat}{cur:Array Value}{T:TypeId}{ad:Option Addr}{l l2:List Nat}{Y2:Hid}(i:Nat)(hF:Fr n a L D)(hS:St E w0 X w Y M)(hM:M[i]?=some (g,.cells cur T (0,0)))(hrow:qG dl dc cur l)(h2:zT (rd w Y2) ad sl sc l2)(hle:l2.length≤dl)
  (k:∀cur' w1,qG dl dc cur' (l2++l.drop l2.length)→St E w0 X w1 Y (M.set i (g,.cells cur' T (0,0)))→Le (rd w Y) (rd w1 Y)→∀a1,Fr n a1 ((od o,.int .i64 (l2.length:Int))::L) D→K a1 w1)
  (hc:opk L o (od o) n=true:=by kernel_rfl) (ho:o.op= .call {callee:= .builtin .copy,args:=#[zEr o 0,zEr o 1],argTypes:=#[bTy o 0,bTy o 1]}:=by kernel_rfl) (hx:evL L (zEr o 0)= .slice (some ⟨g,0,none⟩) dl dc:=by kernel_rfl) (hy:evL L (zEr o 1)= .slice ad sl sc:=by kernel_rfl)
  (hu:P.underlying (bTy o 0)=some (.slice (slE P (bTy o 0))):=by kernel_rfl) (hs:(P.info? (slE P (bTy o 0))).map (·.size)=some 1:=by kernel_rfl):o.wp P a w K Q:=
 qFd i hF hc hS ho hx hy hu hs hM hrow h2 hle k
theorem zHe{e:TypeId}{g m nn cap c size b:Nat}{cur:Array Value}{xs news:List Value}{ad:Addr}{i0:TypeInfo}(i:Nat)(hF:Fr n a L D)(hS:St E w0 X w Y M)
  (hM:M[i]?=some (g,.cells cur e (0,0))) (hrow:Row nn cap size cur xs) (hnews:jM w ad news) (hl:news.length=m*size) (h1:news.all Value.oneCell'=true)
  (h63:nn+m≤maxLen) (hbytes:(nn+m)*b≤140737488355328)
  (k:∀g' cap' cur' w1 Y1,Row (nn+m) cap' size cur' (xs++news)→St E w0 X w1 Y1 (M.set i (g',.cells cur' e (0,0)))→Le (rd w Y) (rd w1 Y1)→∀a1,Fr n a1 ((od o,.slice (some ⟨g',0,none⟩) (nn+m) cap')::L) D→K a1 w1)
  (hb:i0.bytes=b:=by kernel_rfl) (hc:opk L o (od o) n=true:=by kernel_rfl) (ho:o.op= .call {callee:= .builtin .append,args:=#[zEr o 0,zEr o 1],argTypes:=#[bTy o 0,bTy o 0]}:=by kernel_rfl) (hs:evL L (zEr o 0)= .slice (some ⟨g,0,none⟩) nn cap:=by kernel_rfl) (hx:evL L (zEr o 1)= .slice (some ad) m c:=by kernel_rfl)
  (ht:P.underlying (bTy o 0)=some (.slice e):=by kernel_rfl) (hi:P.info? e=some i0:=by kernel_rfl) (hz:i0.zero=some (zI i0):=by kernel_rfl) (hsz:i0.size=size:=by kernel_rfl) (hzs:(zI i0).cells.size=size:=by kernel_rfl):o.wp P a w K Q:=
 zKd i hF hc hS ho hs hx ht hi hz hsz hzs hM hrow hnews hl h1 h63 (by rw[hb];exact hbytes) k
theorem zPy{m c size b:Nat}{e:TypeId}{news:List Value}{ad:Addr}{i0:TypeInfo}(hF:Fr n a L D)(hS:St E w0 X w Y M)(hnews:jM w ad news)(hl:news.length=m*size)(hm0:0<m)(h63:m≤maxLen)(hbytes:m*b≤140737488355328)
  (k:∀g' cap' cur' w1 Y1,Row m cap' size cur' news→St E w0 X w1 Y1 ((g',.cells cur' (e) (0,0))::M)→Le (rd w Y) (rd w1 Y1)→∀a1,Fr n a1 ((od o,.slice (some ⟨g',0,none⟩) m cap')::L) D→K a1 w1)
  (hb:i0.bytes=b:=by kernel_rfl) (hc:opk L o (od o) n=true:=by kernel_rfl) (ho:o.op= .call {callee:= .builtin .append,args:=#[zEr o 0,zEr o 1],argTypes:=#[bTy o 0,bTy o 0]}:=by kernel_rfl) (hs:evL L (zEr o 0)= .slice none 0 0:=by kernel_rfl) (hx:evL L (zEr o 1)= .slice (some ad) m c:=by kernel_rfl)
  (ht:P.underlying (bTy o 0)=some (.slice (e)):=by kernel_rfl) (hi:P.info? (e)=some i0:=by kernel_rfl) (hz:i0.zero=some (zI i0):=by kernel_rfl) (hsz:i0.size=size:=by kernel_rfl) (hzs:(zI i0).cells.size=size:=by kernel_rfl):o.wp P a w K Q:=
 zHd hF hc hS ho hs hx ht hi hz hsz hzs hnews hl hm0 h63 (by rw[hb];exact hbytes) k
end
theorem gr{R:Rg}{Pd:List Pn}{c:Array Bool×List (Nat×Value)}{M:List (Nat×Obj)}{r:Rd}(i j k:Nat){m cap:Nat}{cur:Array Value}{l:List Nat}(hrow:qG m cap cur l)(hk:k<l.length)(cont:Gt R Pd (gv R i (.int .u32 ((l.getD k 0:Nat):Int)) c) M r)
  (hj:R.M0[j]?=some (bO R.M0 j,.cells (cO R.M0 j) (tO R.M0 j) (fO R.M0 j)):=by kernel_rfl) (hcur:cO R.M0 j=cur:=by kernel_rfl)
  (hi:R.ops[i]?=some (zU R.ops i):=by kernel_rfl) (hc:gok R Pd c i=true:=by kernel_rfl) (hT:(zIf R.ops R.T i&&!jG R.T c.1)=true:=by kernel_rfl)
  (ho:(zU R.ops i).op= .load (zEt (zU R.ops i)) (ldX (zU R.ops i)):=by kernel_rfl) (hx:evL c.2 (ldX (zU R.ops i))= .pointer (some ⟨bO R.M0 j,k,none⟩):=by kernel_rfl) (ht:ldT R.P (zEt (zU R.ops i))=some (false,1):=by kernel_rfl):Gt R Pd c M r:=
 zOx i (.inr ⟨hT,fun w hS=>zB (vs:=[.int .u32 ((l.getD k 0:Nat):Int)]) ho hx ht (.inr rfl) (by
  have h1:=hS.1 _ (List.mem_of_getElem? hj);intro q v hq;rcases q with _ | q
  ·simp at hq;subst hq;rw[yC,cell_of_row w _ _ _ _ _ h1,hcur];exact hrow.get hk
  ·simp at hq)⟩) cont hi hc
def unp:Nat→Value→List Value
 | 1,v=>[v]
 | _,.tuple a=>a.toList
 | _,v=>[v]
section
variable {P:Program}{n:Nat}{D:List Deferred}{w:World}{c:Cf}{E:Nat→Prop}{w0:World}{X Y:Hid}{M:List (Nat×Obj)}{L:List (Nat×Value)}
theorem Res.tZ{t:Nat}{v:Value}{rs:List ResultVar}{vs:List Value}(k:Res P L w rs vs)(h:has L t=true:=by kernel_rfl)(e:tY L t=v:=by kernel_rfl):Res P L w (.tmp t::rs) (v::vs):=e▸Res.tmp h k
def rM(P:Program)(L:List (Nat×Value))(M:List (Nat×Obj))(i t:Nat)(T:TypeId):List Value:=((cO M i).toList.drop (aL (tY L t))).take (ldS P T)
theorem Res.cM{t:Nat}{T:TypeId}{v:Value}{rs:List ResultVar}{vs:List Value}(hS:St E w0 X w Y M)(i:Nat)(k:Res P L w rs vs)(h:has L t=true:=by kernel_rfl)(hl:tY L t= .pointer (some ⟨bO M i,aL (tY L t),none⟩):=by kernel_rfl)(ht:ldT P T=some (zPl P T,(rM P L M i t T).length):=by kernel_rfl)
  (hg:(zPl P T||(rM P L M i t T).length==1)=true:=by kernel_rfl) (hi:M[i]?=some (bO M i,.cells (cO M i) (tO M i) (fO M i)):=by kernel_rfl) (hm:(rM P L M i t T).length=ldS P T:=by kernel_rfl) (e:ldV (zPl P T) (rM P L M i t T)=v:=by kernel_rfl):Res P L w (.cell t T::rs) (v::vs):=
 e▸Res.cell h hl ht (by simpa using hg) (hS.cells i hi (by rw[hm];rfl)) k
theorem zrS(rs:List ResultVar){v:Value}{fn:Func}{R:Ending→World→Prop}(h:Res P c.L w rs (unp rs.length v))(hR:R (.returned v) w)(hr:fn.results=rs.toArray:=by kernel_rfl)(hv:zBs (unp rs.length v)=v:=by kernel_rfl)(hf:fin c=true:=by kernel_rfl):Go none 0 P (bodyPost P fn R) n [] w c:=zrR h hR hr hv hf
end
end Go.Gv
namespace Go.Gv
open Go Go.Instr IntKind
def ents:List (Int×Value)→Nat→List MapEntry
 | [],_=>[]
 | p::l,b=>{key:= .int .i64 p.1,val:=p.2,born:=b}::ents l (b+1)
def fnd(z:Int):List (Int×Value)→Nat→Option (Nat×Value)
 | [],_=>none
 | p::l,i=>bif z==p.1 then some (i,p.2)else fnd z l (i+1)
def lT(z:Int)(v:Value):List (Int×Value)→List (Int×Value)
 | []=>[(z,v)]
 | p::l=>bif z==p.1 then(z,v)::l else p::lT z v l
theorem rV:∀(l:List (Int×Value))(b:Nat),(ents l b).length=l.length
 | [],_=>rfl
 | _::l,b=>by simp[ents,rV l]
def mapO(l:List (Int×Value)):Obj:= .map (ents l 0).toArray l.length
def tV(z:Int)(l:List (Int×Value))(zero:Value):Value:=match fnd z l 0 with
 | some (_,v)=>v
 | none=>zero
section
variable {P:Program}{w:World}{T K V:TypeId}{r:Nat}{l:List (Int×Value)}{z:Int}{zero:Value}
end
section
variable {P:Program}{K:Act→World→Prop}{a:Act}{w w0:World}{o:Oper}{n d:Nat}{L:List (Nat×Value)}{D:List Deferred}{E:Nat→Prop}{X Y:Hid}{M:List (Nat×Obj)}{Q:Exit→Act→World→Prop}
end
end Go.Gv
namespace Go.Proofs.YtjnpoeilfdbaaaaGreatDoor
open Go Go.Gv Go.RowKit IntKind
set_option maxRecDepth 100000
set_option maxHeartbeats 1000000
theorem aT(w:World)(X:Hid)(hX:∀k o,X k o→k<w.heap.size)(ad:Option Addr)(len cap:Nat)(l:List Nat)(h:zT (rd w X) ad len cap l):
    Calls Tryz.prog 119 #[.slice ad len cap] w (Ret E0 w fun _ v=>v= .slice ad (jP l) cap):=by
 obtain rfl:=h.hlen;have hl:=h.hlen;have hcap:=h.hcap;have hbig:=h.hbig;refine zen Tryz.func119 ?_;have Z0:St E0 w X w X []:=St.start hX;refine zz 7<|zlp Tryz.f119 [] [1,0,0] (fun(k:Nat)=>[(0,.slice ad k cap)]) (fun(k:Nat)w1=>∃(Y1:Hid),St E0 w X w1 Y1 []∧Le (rd w X) (rd w1 Y1)∧(k≤l.length)∧(kP l k=kP l l.length)) (fun(k:Nat)=>k) l.length ?_ ?_
 ·
  refine⟨_,Z0,Le.refl _,Nat.le_refl _,rfl⟩
 rintro k w2 K2 hK2 ⟨Y2,Z2,G2,hp2_0,hp2_1⟩;have hk:=hp2_0;have ht:=hp2_1;refine zz 7<|zt 6 (p:=(k:Int)>0) (fun F3=>?_) (fun F3=>?_)
 ·
  obtain⟨bk4,of5,rfl,_⟩:=h.addr (by omega)
  have hcell:=(h.cell (i:=k-1) (by omega))
  refine zz 4<|zw 10 (x:=(k:Int)-1)<|zi (b:=bk4) (off:=of5) (len:=k) (cap:=cap) (kd:= .i64) (i:=(k:Int)-1) 1 (of5+(k-1)) ?_ (hoff:=(by first | omega | (simp;done) | (simp;omega)))
  refine zl ((hcell.mono G2)).cells<|zz 4<|zb 14 (b:=(((l.getD (k-1) 0:Nat):Int)==0)) (fun J6=>?_) (fun J6=>?_)
  ·
   have F7:((l.getD (k-1) 0:Nat):Int)=0:=by simpa using J6
   have hk2:=zRe (l:=l) (k:=k) (by omega) (by omega)
   refine zz 9<|zw 18 (x:=(k:Int)-1)<|zop (at1 [K2] Tryz.f119 [1,0,0,0,1,0]) 4 (fun a8 _ hF8 hz8=>zF (d:=19) (v:= .slice (some ⟨bk4,of5,none⟩) (k-1) cap) hF8 kr (zNa (t:=26) (e:=143) (ad:=(some ⟨bk4,of5,none⟩)) (len:=k) (cap:=cap) (kd:= .i64) (i:=(k:Int)-1) (h':=(k-1)) (g:=false) (m:=1) rfl kr kr kr kr (by omega) (by omega) (by first | omega | (simp;done) | (simp;omega)) _) ?_)
   intro a9 hF9;refine hz8 hF9<|zz 3 ?_;refine mP (fun a h=>hK2 (k-1) _ a h ⟨_,Z2,G2,by omega,by omega⟩ ?_)
   first | omega | (simp<;>omega)
  have F10:((l.getD (k-1) 0:Nat):Int)≠0:=by simpa using J6
  have hk2:=zRd (l:=l) (k:=k) (by omega) (by omega)
  refine zz 13<|zr' (v:= .slice (some ⟨bk4,of5,none⟩) k cap) ?_;exact⟨Z2.upd,_,rfl,by unfold jP;first | rw[←ht,hk2] | rw[←ht];rfl⟩
 obtain rfl:k=0:=by omega
 refine zz 23<|zr' (v:= .slice ad 0 cap) ?_;exact⟨Z2.upd,_,rfl,by unfold jP;first | rw[←ht,hk2] | rw[←ht];rfl⟩
section
variable (w:World)(X:Hid)(hX:∀k o,X k o→k<w.heap.size)
set_option maxHeartbeats 1000000
include hX in
theorem zJn(x:Int):Calls Tryz.prog 161 #[.int .i64 x] w (Ret E0 w fun _ v=>v= .bool false):=by
 refine zen Tryz.func161 ?_;have Z0:St E0 w X w X []:=St.start hX;refine zz 14<|zr' (v:= .bool ((x)!=x)) ?_;exact⟨Z0.upd,_,rfl,by simp⟩
include hX in
theorem zAq(x:Int):Calls Tryz.prog 162 #[.int .u32 x] w (Ret E0 w fun _ v=>v= .bool false):=by
 refine zen Tryz.func162 ?_;have Z0:St E0 w X w X []:=St.start hX;refine zz 14<|zr' (v:= .bool ((x)!=x)) ?_;exact⟨Z0.upd,_,rfl,by simp⟩
def qU(x y:Int):Int:=if x<y then -1 else if x>y then 1 else 0
include hX in
theorem zOo(x y:Int):Calls Tryz.prog 146 #[.int .i64 x,.int .i64 y] w (Ret E0 w fun _ v=>v= .int .i64 (qU x y)):=by
 refine zen Tryz.func146 ?_;have Z0:St E0 w X w X []:=St.start hX;refine zz 8<|zc Z0 (zJn _ _ Z0.lt x) ?_;rintro v3 w3 Z3 G3 N3 rfl;refine zz 6<|zc Z3 (zJn _ _ Z3.lt y) ?_;rintro v5 w5 Z5 G5 N5 rfl;refine zz 29<|zt 16 (p:=(x)<y) (fun F6=>?_) (fun F6=>?_);refine zz 8<|zr' (v:= .int .i64 (-1)) ?_;exact⟨Z5.upd,_,rfl,qA (by unfold qU;(repeat' split)<;>omega)⟩
 refine zz 11<|zt 19 (p:=(x)>y) (fun F7=>?_) (fun F7=>?_);refine zz 8<|zr' (v:= .int .i64 1) ?_;exact⟨Z5.upd,_,rfl,qA (by unfold qU;(repeat' split)<;>omega)⟩
 refine zz 9<|zr' (v:= .int .i64 0) ?_;exact⟨Z5.upd,_,rfl,qA (by unfold qU;(repeat' split)<;>omega)⟩
include hX in
theorem zFz(x y:Int):Calls Tryz.prog 147 #[.int .u32 x,.int .u32 y] w (Ret E0 w fun _ v=>v= .int .i64 (qU x y)):=by
 refine zen Tryz.func147 ?_;have Z0:St E0 w X w X []:=St.start hX;refine zz 8<|zc Z0 (zAq _ _ Z0.lt x) ?_;rintro v3 w3 Z3 G3 N3 rfl;refine zz 6<|zc Z3 (zAq _ _ Z3.lt y) ?_;rintro v5 w5 Z5 G5 N5 rfl;refine zz 29<|zt 16 (p:=(x)<y) (fun F6=>?_) (fun F6=>?_);refine zz 8<|zr' (v:= .int .i64 (-1)) ?_;exact⟨Z5.upd,_,rfl,qA (by unfold qU;(repeat' split)<;>omega)⟩
 refine zz 11<|zt 19 (p:=(x)>y) (fun F7=>?_) (fun F7=>?_);refine zz 8<|zr' (v:= .int .i64 1) ?_;exact⟨Z5.upd,_,rfl,qA (by unfold qU;(repeat' split)<;>omega)⟩
 refine zz 9<|zr' (v:= .int .i64 0) ?_;exact⟨Z5.upd,_,rfl,qA (by unfold qU;(repeat' split)<;>omega)⟩
include hX in
theorem jBl(x y c:Int)(hx:0≤x∧x<4294967296)(hy:0≤y∧y<4294967296)(hc:0≤c∧c≤1):Calls Tryz.prog 165 #[.int .u32 x,.int .u32 y,.int .u32 c] w (Ret E0 w fun _ v=>v= .tuple #[.int .u32 ((x+y+c) % 4294967296),.int .u32 ((x+y+c) / 4294967296)]):=by
 refine zen Tryz.func165 ?_;have Z0:St E0 w X w X []:=St.start hX;refine zz 10<|zs 10 (v:= .int .u64 (IntKind.u64.wrap (x))) (v':= .int .u64 x) (qA (zIw (by omega) (by omega)))<|zz 2<|zs 12 (v:= .int .u64 (IntKind.u64.wrap (y))) (v':= .int .u64 y) (qA (zIw (by omega) (by omega)))<|zz 1<|zs 13 (v:= .int .u64 (IntKind.u64.wrap ((x)+y))) (v':= .int .u64 ((x)+y)) (qA (zIw (by omega) (by omega)))<|zz 2<|zs 15 (v:= .int .u64 (IntKind.u64.wrap (c))) (v':= .int .u64 c) (qA (zIw (by omega) (by omega)))<|zz 1 ?_
 refine zs 16 (v:= .int .u64 (IntKind.u64.wrap (((x)+y)+c))) (v':= .int .u64 (((x)+y)+c)) (qA (zIw (by omega) (by omega)))<|zz 7<|zs 18 (v:= .int .u32 (IntKind.u32.wrap (((x)+y)+c))) (v':= .int .u32 ((((x)+y)+c) % 4294967296)) (qA (kI _))<|zz 7<|zs 20 (v:= .int .u64 (Int.fdiv (((x)+y)+c) (2^32))) (v':= .int .u64 ((((x)+y)+c) / 4294967296)) (qA (vW _ 32 (by decide) (by decide)))<|zz 1<|zs 21 (v:= .int .u32 (IntKind.u32.wrap ((((x)+y)+c) / 4294967296))) (v':= .int .u32 (((x)+(y)+(c)) / 4294967296)) (qA (wu32 (by omega) (by omega)))<|zz 4<|zr' (v:= .tuple #[.int .u32 ((((x)+y)+c) % 4294967296),.int .u32 (((x)+(y)+(c)) / 4294967296)]) ?_
 exact⟨Z0.upd,_,rfl,by first | rfl | (congr 3;omega) | skip⟩
end
section
variable (w:World)(X:Hid)(hX:∀k o,X k o→k<w.heap.size)
set_option maxHeartbeats 1000000
include hX in
theorem qPl(x y c:Int)(hx:0≤x∧x<4294967296)(hy:0≤y∧y<4294967296)(hc:0≤c∧c≤1):Calls Tryz.prog 148 #[.int .u32 x,.int .u32 y,.int .u32 c] w (Ret E0 w fun _ v=>v= .tuple #[.int .u32 ((((x)-y) % 4294967296-c) % 4294967296),.int .u32 (if x<y+c then 1 else 0)]):=by
 refine zen Tryz.func148 ?_;have Z0:St E0 w X w X []:=St.start hX;refine zz 11<|zs 10 (v:= .int .u32 (IntKind.u32.wrap ((x)-y))) (v':= .int .u32 (((x)-y) % 4294967296)) (qA (kI _))<|zz 2<|zs 12 (v:= .int .u32 (IntKind.u32.wrap ((((x)-y) % 4294967296)-c))) (v':= .int .u32 (((((x)-y) % 4294967296)-c) % 4294967296)) (qA (kI _))<|zz 17<|zs 24 (v:= .int .u32 (Int.fdiv (nJ (wK (vQ 4294967295 x) y) (wK (vQ 4294967295 (vQ x y)) (((((x)-y) % 4294967296)-c) % 4294967296))) (2^31))) (v':= .int .u32 ((nJ (wK (vQ 4294967295 x) y) (wK (vQ 4294967295 (vQ x y)) (((((x)-y) % 4294967296)-c) % 4294967296))) / 2147483648)) (qA (vW _ 31 (by decide) (by decide)))<|zz 4<|zr' (v:= .tuple #[.int .u32 (((((x)-y) % 4294967296)-c) % 4294967296),.int .u32 ((nJ (wK (vQ 4294967295 x) y) (wK (vQ 4294967295 (vQ x y)) (((((x)-y) % 4294967296)-c) % 4294967296))) / 2147483648)]) ?_
 exact⟨Z0.upd,_,rfl,by
    obtain⟨xn,rfl⟩:=Int.eq_ofNat_of_zero_le hx.1;obtain⟨yn,rfl⟩:=Int.eq_ofNat_of_zero_le hy.1;obtain⟨cn,rfl⟩:=Int.eq_ofNat_of_zero_le hc.1;obtain⟨dn,hd⟩:=Int.eq_ofNat_of_zero_le (a:=(((xn:Int)-yn) % 4294967296-cn) % 4294967296) (by omega)
    have:=zZi xn yn cn dn (by omega) (by omega) (by omega) (by omega) hd.symm
    rw[hd,this]⟩
include hX in
theorem qFo(b off len cap:Nat)(es:List Int)(hlen:len=es.length)(hbig:es.length≤1000)(hat:At (rd w X) ⟨b,off,none⟩ (I64 es)):Calls Tryz.prog 31 #[.slice (some ⟨b,off,none⟩) len cap] w (Ret E0 w fun _ v=>v= .int .i64 (orL es)):=by
 refine zen Tryz.func31 ?_;have Z0:St E0 w X w X []:=St.start hX;refine zz 19<|zlp Tryz.f31 [] [1,1,0,1,0] (fun(k:Nat)=>[(3,.int .i64 0),(6,.slice (some ⟨b,off,none⟩) len cap),(7,.int .i64 (len:Int)),(8,.int .i64 (k:Int))]) (fun(k:Nat)w1=>∃(Y1:Hid),St E0 w X w1 Y1 []∧Le (rd w X) (rd w1 Y1)∧(k≤es.length)∧(∀j,j<k→es.getD j 0=0)) (fun(k:Nat)=>es.length-k) 0 ?_ ?_;refine⟨_,Z0,Le.refl _,Nat.zero_le _,fun j hj=>absurd hj (Nat.not_lt_zero j)⟩;rintro k w2 K2 hK2 ⟨Y2,Z2,G2,hp2_0,hp2_1⟩;refine zz 6<|zt 9 (p:=(k:Int)<(len:Int)) (fun F3=>?_) (fun F3=>?_);have hcell:=(hat.one (qHu (l:=es) (i:=k) (by omega)))
 refine zz 7<|zi (b:=b) (off:=off) (len:=len) (cap:=cap) (kd:= .i64) (i:=(k:Int)) 1 (off+k)<|zl ((hcell.mono G2)).cells<|zz 10<|zb 14 (b:=((es.getD k 0)!=0)) (fun J4=>?_) (fun J4=>?_);have F5:(es.getD k 0)≠0:=by simpa using J4
 refine zz 13<|zr' (v:= .int .i64 (es.getD k 0)) ?_;exact⟨Z2.upd,_,rfl,qA (by first | exact(zHh es (fun j hj=>hp2_1 j (by omega))).symm | exact(zTd es k (by omega) hp2_1 (by omega)).symm)⟩
 have F6:(es.getD k 0)=0:=by simpa using J4
 refine zz 6<|zw 16 (x:=(k:Int)+1)<|zz 2 ?_;refine mP (fun a h=>hK2 (k+1) _ a h ⟨_,Z2,G2,by omega,fun j hj=>(by rcases Nat.lt_succ_iff_lt_or_eq.1 hj with h | h;exact hp2_1 j h;rw[h];omega)⟩ ?_)
 first | omega | (simp<;>omega)
 have hk:k=es.length:=by omega
 refine zz 13<|zr' (v:= .int .i64 0) ?_;exact⟨Z2.upd,_,rfl,qA (by first | exact(zHh es (fun j hj=>hp2_1 j (by omega))).symm | exact(zTd es k (by omega) hp2_1 (by omega)).symm)⟩
include hX in
theorem zXp(len cap:Nat)(l:List Nat)(hl:len=l.length)(hlen:len≤35184372088831)(hlt:∀x∈l,x<4294967296)(hnil:l=[]):Calls Tryz.prog 112 #[.slice none len cap] w (Ret E0 w fun w' v=>∃ad' len' cap',zIl w w' 143 v l ad' len' cap'):=by
 refine zen Tryz.func112 ?_;have Z0:St E0 w X w X []:=St.start hX;refine zz 20<|zr' (v:= .slice none 0 0) ?_;exact⟨Z0.upd,_,rfl,_,_,_,⟨rfl,by rw[hnil];rfl,hlt,.inl ⟨rfl,rfl,rfl⟩⟩⟩
include hX in
theorem zFx(ad:Addr)(len cap:Nat)(l:List Nat)(hl:len=l.length)(hlen:len≤35184372088831)(hlt:∀x∈l,x<4294967296)(hat:At (rd w X) ad (U32 l)):Calls Tryz.prog 112 #[.slice (some ad) len cap] w (Ret E0 w fun w' v=>∃ad' len' cap',zIl w w' 143 v l ad' len' cap'):=by
 refine zen Tryz.func112 ?_;have Z0:St E0 w X w X []:=St.start hX;refine zz 17<|zn (fun b=> .slice (some ⟨b,0,none⟩) 0 0) (.cells #[] 143 (0,0)) Z0 fun b3 w3 Y3 Z3 G3 N3=>zz 1<|zop (at1 [] Tryz.f112 [1,1,0]) 2 (fun a4 _ hF4 hz4=>zHe (b:=4) (m:=len) (c:=cap) (size:=1) (ad:=ad) (xs:=[]) (news:=U32 l) (i0:=Tryz.t143) (cur:=#[]) (nn:=0) (cap:=0) (g:=b3) (e:=143) 0 hF4 Z3 kr ⟨Nat.le_refl _,Nat.zero_le _,rfl,rfl⟩ (hat.mono G3).cells (by simp[hl]) (by simp[U32,Value.oneCell']) (by simp only[maxLen];omega) (by show(0+len)*4≤_;omega) ?_)
 intro g5 O5 P5 w5 Y5 D5 Z5 G5 a6 hF6;simp only[Nat.zero_add,List.nil_append]at hF6 D5;refine hz4 hF6<|zz 4<|zr' (v:= .slice (some ⟨g5,0,none⟩) len O5) ?_;exact⟨Z5.upd,_,rfl,_,_,_,⟨rfl,hl,hlt,.inr ⟨_,_,rfl,Z5.own_ge 0 rfl,Z5.get 0 rfl,⟨D5,hlt⟩⟩⟩⟩
include hX in
theorem zAc(ad:Option Addr)(len cap:Nat)(l:List Nat)(h:zT (rd w X) ad len cap l)(hlen:len≤35184372088831):Calls Tryz.prog 112 #[.slice ad len cap] w (Ret E0 w fun w' v=>∃ad' len' cap',zIl w w' 143 v l ad' len' cap'):=by
 rcases h.hat with h0 | ⟨b,off,rfl,hat⟩
 ·cases ad with
  | none=>exact zXp w X hX len cap l h.hlen hlen h.hlt h0
  | some a=>exact zFx w X hX a len cap l h.hlen hlen h.hlt (h0▸fun j v hj=>by simp[U32]at hj)
 ·exact zFx w X hX _ len cap l h.hlen hlen h.hlt hat
end
section
variable (w:World)(X:Hid)(hX:∀k o,X k o→k<w.heap.size)
set_option maxHeartbeats 1000000
include hX in
theorem zLc(ad:Option Addr)(len cap:Nat)(l:List Nat)(h:zT (rd w X) ad len cap l):Calls Tryz.prog 70 #[.slice ad len cap] w (Ret E0 w fun _ v=>v= .int .i64 (yN l)):=by
 obtain rfl:=h.hlen;have hcap:=h.hcap;have hbig:=h.hbig;refine zen Tryz.func70 ?_;have Z0:St E0 w X w X []:=St.start hX;refine zz 15<|zt 3 (p:=(l.length:Int)>512) (fun F2=>?_) (fun F2=>?_);refine zz 9<|zr' (v:= .int .i64 4) ?_;exact⟨Z0.upd,_,rfl,qA (by unfold yN;(repeat' split)<;>first | rfl | omega)⟩
 refine zz 7<|zt 11 (p:=(l.length:Int)>0) (fun F3=>?_) (fun F3=>?_);obtain⟨bk4,of5,rfl,_⟩:=h.addr (by omega)
 refine zz 4<|zw 15 (x:=(l.length:Int)-1)<|zi (b:=bk4) (off:=of5) (len:=l.length) (cap:=cap) (kd:= .i64) (i:=(l.length:Int)-1) 1 (of5+(l.length-1)) ?_ (hoff:=(by first | omega | (simp;done) | (simp;omega)))
 refine zl ((h.cell (i:=(l.length-1)) (by omega)).mono (Le.refl _)).cells<|zz 5<|zb 7 (b:=(((l.getD (l.length-1) 0:Nat):Int)==0)) (fun J6=>?_) (fun J6=>?_)
 have F7:((l.getD (l.length-1) 0:Nat):Int)=0:=by simpa using J6
 refine zz 9<|zr' (v:= .int .i64 2) ?_;exact⟨Z0.upd,_,rfl,qA (by unfold yN;(repeat' split)<;>first | rfl | omega)⟩
 have F8:((l.getD (l.length-1) 0:Nat):Int)≠0:=by simpa using J6
 refine zz 10<|zr' (v:= .int .i64 0) ?_;exact⟨Z0.upd,_,rfl,qA (by unfold yN;(repeat' split)<;>first | rfl | omega)⟩
 refine zz 21<|zr' (v:= .int .i64 0) ?_;exact⟨Z0.upd,_,rfl,qA (by unfold yN;(repeat' split)<;>first | rfl | omega)⟩
def xE(l l2:List Nat):Int:=orL [yN l,yN l2]
include hX in
theorem aX(ad:Option Addr)(len cap:Nat)(l:List Nat)(h:zT (rd w X) ad len cap l)(ad2:Option Addr)(len2 O2:Nat)(l2:List Nat)(h2:zT (rd w X) ad2 len2 O2 l2):Calls Tryz.prog 111 #[.slice ad len cap,.slice ad2 len2 O2] w (Ret E0 w fun _ v=>v= .int .i64 (xE l l2)):=by
 refine zen Tryz.func111 ?_;have Z0:St E0 w X w X []:=St.start hX;refine zz 8<|zc Z0 (zLc _ X0 (qV _) _ _ _ l (h.mono Le.x0)) ?_;rintro v3 w3 Z3 G3 N3 rfl;refine zz 1<|zc Z3 (zLc _ X0 (qV _) _ _ _ l2 ((h2.mono G3).mono Le.x0)) ?_;rintro v5 w5 Z5 G5 N5 rfl;refine zn (fun b=> .slice (some ⟨b,0,none⟩) 2 2) (.cells #[.int .i64 (yN l),.int .i64 (yN l2)] 36 (0,0)) Z5 fun b7 w7 Y7 Z7 G7 N7=>zc Z7 (qFo _ X0 (qV _) _ _ _ _ [yN l,yN l2] rfl (by simp) (Z7.at0 0 rfl rfl)) ?_ (vs:=#[.slice (some ⟨b7,0,none⟩) 2 2])
 rintro v9 w9 Z9 G9 N9 rfl;refine zz 4<|zr' (v:= .int .i64 (orL [yN l,yN l2])) ?_;exact⟨Z9.upd,_,rfl,qA (rfl)⟩
include hX in
theorem qOi(ad:Option Addr)(len cap:Nat)(l:List Nat)(h:zT (rd w X) ad len cap l):Calls Tryz.prog 151 #[.slice ad len cap] w (Ret E0 w fun _ v=>v=if 512<jP l then .tuple #[.slice none 0 0,.int .i64 4]else .tuple #[.slice ad (jP l) cap,.int .i64 0]):=by
 have hcap:=h.hcap;have hbig:=h.hbig;have hl:=h.hlen;have htr:=mJ l l.length;rw[show kP l l.length=jP l from rfl]at htr;refine zen Tryz.func151 ?_;have Z0:St E0 w X w X []:=St.start hX;refine zz 10<|zc Z0 (aT _ _ Z0.lt _ _ _ l h) ?_;rintro v3 w3 Z3 G3 N3 rfl;refine zz 10<|zt 8 (p:=(jP l:Int)>512) (fun F4=>?_) (fun F4=>?_);refine zz 9<|zr' (v:= .tuple #[.slice none 0 0,.int .i64 4]) ?_;exact⟨Z3.upd,_,rfl,by first | rw[if_pos (by omega)] | rw[if_neg (by omega)]⟩
 refine zz 11<|zr' (v:= .tuple #[.slice ad (jP l) cap,.int .i64 0]) ?_;exact⟨Z3.upd,_,rfl,by first | rw[if_pos (by omega)] | rw[if_neg (by omega)]⟩
end
end Go.Proofs.YtjnpoeilfdbaaaaGreatDoor
namespace Go.Proofs.YtjnpoeilfdbaaaaGreatDoor
open Go Go.Gv Go.RowKit IntKind
set_option maxRecDepth 100000
set_option maxHeartbeats 1000000
abbrev Two(a b:Nat):Nat→Prop:=fun k=>k=a∨k=b
abbrev qHt(a b:Nat):Hid:=fun k _=>k=a∨k=b
theorem qAn(w:World)(g bc ba i m cap:Nat)(cur:Array Value)(l:List Nat)(x c:Nat)(hne:g≠bc)(hbg:ba≠g)(hbb:ba≠bc)(hg:w.heap[g]?=some (.cells cur 143 (0,0)))(hrow:qG m cap cur l)
    (hbc:w.heap[bc]?=some (.cells #[.int .u32 (c:Int)] 143 (0,0))) (hba:At (rd w (qHt g bc)) ⟨ba,0,none⟩ [.slice (some ⟨g,0,none⟩) m cap]) (hi:i<l.length) (hx:x<4294967296) (hc:c≤1) (hbig:m≤4611686018427387904):
    Calls Tryz.prog 164 #[.int .i64 (i:Int),.int .u32 (x:Int),.pointer (some ⟨ba,0,none⟩),.pointer (some ⟨bc,0,none⟩)] w (Ret (Two g bc) w fun w' v=>v= .tuple #[]∧∃cur',w'.heap[g]?=some (.cells cur' 143 (0,0))∧qG m cap cur' (l.set i ((l.getD i 0+x+c) % 4294967296))∧
      w'.heap[bc]?=some (.cells #[.int .u32 (((l.getD i 0+x+c) / 4294967296:Nat):Int)] 143 (0,0))):=by
 have hX:∀k o,qHt g bc k o→k<w.heap.size:=by
   rintro k o (rfl | rfl)
   ·exact(Array.getElem?_eq_some_iff.1 hg).1
   ·exact(Array.getElem?_eq_some_iff.1 hbc).1
 refine zFb (n:=19) (vs:=[.int .i64 (i:Int),.int .u32 (x:Int),.pointer (some ⟨ba,0,none⟩),.pointer (some ⟨bc,0,none⟩)]) Tryz.func164 rfl rfl rfl kr (fun a0 hF0=>?_);have hF0:Fr 19 a0 [(0,.int .i64 (i:Int)),(1,.int .u32 (x:Int)),(2,.pointer (some ⟨ba,0,none⟩)),(3,.pointer (some ⟨bc,0,none⟩))]:=hF0;have Z0:St (Two g bc) w (qHt g bc) w (qHt g bc) [(g,.cells cur 143 (0,0)),(bc,.cells #[.int .u32 (c:Int)] 143 (0,0))]:=St.start2 hX hg hbc (fun _=> .inl rfl) (fun _=> .inr rfl) hne;have hlen:=hrow.len;have hlt:=hrow.getD_lt i;refine dG (N:=15) (kD [(⟨ba,0,none⟩,[.slice (some ⟨g,0,none⟩) m cap]),(⟨g,i,none⟩,[.int .u32 ((l.getD i 0:Nat):Int)]),(⟨bc,0,none⟩,[.int .u32 (c:Int)])]) [13,14] kr kr kr Z0 ?_;intro w1 Z1 G1 N1;refine mK (kD.cons ((hba.mono G1)).cells (kD.cons (Z1.rowCells 0 rfl hrow (by have:=hrow.len;(try simp only[List.length_set]at *);omega)) (kD.cons (Z1.cells 1 rfl rfl) (kD.nil _)))) (fun hH1=>?_)
 refine pX (d:=7) (v:= .slice (some ⟨g,0,none⟩) m cap) 0 hF0 rfl kr kr kr (fun w hw=>zB (t:=26) (g:=false) (vs:=[.slice (some ⟨g,0,none⟩) m cap]) (ad:=⟨ba,0,none⟩) rfl kr kr ir (hw.get 0 kr)) hH1 ?_;intro a2 hF2;refine zJ (d:=8) (v:= .int .i64 (i:Int)) 1 hF2 rfl kr kr kw (fun _=>hH1) fun a3 hF3=>?_;refine pX (d:=9) (v:= .slice (some ⟨g,0,none⟩) m cap) 2 hF3 rfl kr kr kr (fun w hw=>zB (t:=26) (g:=false) (vs:=[.slice (some ⟨g,0,none⟩) m cap]) (ad:=⟨ba,0,none⟩) rfl kr kr ir (hw.get 0 kr)) hH1 ?_;intro a4 hF4;refine zJ (d:=10) (v:= .int .i64 (i:Int)) 3 hF4 rfl kr kr kw (fun _=>hH1) fun a5 hF5=>zJ (d:=11) (v:= .pointer (some ⟨g,i,none⟩)) 4 hF5 rfl kr kr (fun w=>jH (t:=26) (e:=143) (b:=g) (off:=0) (len:=m) (cap:=cap) (kd:= .i64) (i:=(i:Int)) (g:=false) (m:=1) (off':=i) rfl kr kr kr kr (by omega) (by omega) (by first | rfl | omega | (simp;done) | (simp;omega)) w) (fun _=>hH1) fun a6 hF6=>?_
 refine pX (d:=12) (v:= .int .u32 ((l.getD i 0:Nat):Int)) 5 hF6 rfl kr kr kr (fun w hw=>zB (t:=143) (g:=false) (vs:=[.int .u32 ((l.getD i 0:Nat):Int)]) (ad:=⟨g,i,none⟩) rfl kr kr ir (hw.get 1 kr)) hH1 ?_;intro a7 hF7;refine zJ (d:=13) (v:= .int .u32 (x:Int)) 6 hF7 rfl kr kr kw (fun _=>hH1) fun a8 hF8=>?_;refine pX (d:=14) (v:= .int .u32 (c:Int)) 7 hF8 rfl kr kr kr (fun w hw=>zB (t:=143) (g:=false) (vs:=[.int .u32 (c:Int)]) (ad:=⟨bc,0,none⟩) rfl kr kr ir (hw.get 2 kr)) hH1 ?_;intro a9 hF9;refine wQ [8] kr rfl ?_;refine yL.cons (i:=8) hF9 rfl kr (kC (d:=15) (f:=165) (cap:=#[]) (vs:=#[.int .u32 ((l.getD i 0:Nat):Int),.int .u32 (x:Int),.int .u32 (c:Int)]) hF9 kr Z1 rfl kr kr (fun w=>Tryz.call165 _ w) (jBl _ _ Z1.lt ((l.getD i 0:Nat):Int) (x:Int) (c:Int) ⟨by omega,by omega⟩ ⟨by omega,by omega⟩ ⟨by omega,by omega⟩) ?_) yL.nil
 rintro v10 w10 Z10 G10 N10 rfl a11 hF11;refine wL (hH1.up N10) (fun hH10=>?_);refine zJ (d:=6) (v:= .tuple #[.int .u32 ((((l.getD i 0:Nat):Int)+(x:Int)+(c:Int)) % 4294967296),.int .u32 ((((l.getD i 0:Nat):Int)+(x:Int)+(c:Int)) / 4294967296)]) 9 hF11 rfl kr kr kw (fun _=>hH10) fun a12 hF12=>zJ (d:=16) (v:= .int .u32 ((((l.getD i 0:Nat):Int)+(x:Int)+(c:Int)) % 4294967296)) 10 hF12 rfl kr kr kw (fun _=>hH10) fun a13 hF13=>zJ (d:=17) (v:= .int .u32 ((((l.getD i 0:Nat):Int)+(x:Int)+(c:Int)) / 4294967296)) 11 hF13 rfl kr kr kw (fun _=>hH10) fun a14 hF14=>zJ (d:=18) (v:= .pointer (some ⟨g,i,none⟩)) 12 hF14 rfl kr kr (fun w=>jH (t:=26) (e:=143) (b:=g) (off:=0) (len:=m) (cap:=cap) (kd:= .i64) (i:=(i:Int)) (g:=false) (m:=1) (off':=i) rfl kr kr kr kr (by omega) (by omega) (by first | rfl | omega | (simp;done) | (simp;omega)) w) (fun _=>hH10) fun a15 hF15=>?_
 refine wQ [13] kr rfl ?_;refine yL.cons (i:=13) hF15 rfl kr (mF (t:=143) (y:=((l.getD i 0+x+c) % 4294967296)) (k:=i) (e:=(((l.getD i 0:Nat):Int)+(x:Int)+(c:Int)) % 4294967296) 0 hF15 kr Z10 rfl rfl rfl (by first | rfl | omega | (simp;omega)) kr rfl hrow (by have:=hrow.len;(try simp only[List.length_set]at *);omega) (by first | omega | (simp;omega)) ?_) yL.nil
 intro P16 w16 D16 Z16 G16;refine⟨nG kr,?_⟩;refine wQ [14] kr rfl ?_;refine yL.cons (i:=14) hF15 rfl kr (zE (t:=143) (b:=bc) (off:=0) (c':=#[.int .u32 ((((l.getD i 0:Nat):Int)+(x:Int)+(c:Int)) / 4294967296)]) (g:=false) (m:=1) 1 _ hF15 kr Z16 rfl kr rfl kr kr kr rfl (by first | decide | (simp;done)) kr rfl ?_) yL.nil
 intro w17 Z17 G17;refine⟨nG kr,?_⟩;refine zDv kr (nrm ?_);refine zOe (v:= .tuple #[]) (rs:=[]) hF15 kr Res.nil kr ?_;refine⟨Z17.upd,_,rfl,rfl,P16,Z17.get 0 rfl,?_,?_⟩
 ·
  exact D16
 ·
  rw[Z17.get 1 rfl];congr 4
abbrev HG(g:Nat):Hid:=fun k _=>k=g
theorem qId(l1 l2:List Nat)(j k c T:Nat)(hj:j<l2.length)(hk:j+k<l1.length)(h:val l1+c*4294967296^(j+k)=T+4294967296^k*val (l2.take j)):
  val (l1.set (j+k) ((l1.getD (j+k) 0+l2.getD j 0+c) % 4294967296))+(l1.getD (j+k) 0+l2.getD j 0+c) / 4294967296*4294967296^(j+1+k)=T+4294967296^k*val (l2.take (j+1)):=by
 have h1:=zCh l1 (j+k) (l2.getD j 0) c hk;rw[kH l2 j hj,Nat.mul_add,show 4294967296^k*(l2.getD j 0*4294967296^j)=l2.getD j 0*4294967296^(j+k)by rw[Nat.pow_add];ac_rfl,show j+1+k=j+k+1 by omega]
 omega
theorem qAp(l1:List Nat)(p c T:Nat)(hk:p<l1.length)(h:val l1+c*4294967296^p=T):
  val (l1.set p ((l1.getD p 0+0+c) % 4294967296))+(l1.getD p 0+0+c) / 4294967296*4294967296^(p+1)=T:=by
 have h1:=zCh l1 p 0 c hk;omega
theorem qNu(w:World)(g m cap:Nat)(cur:Array Value)(l:List Nat)(hg:w.heap[g]?=some (.cells cur 143 (0,0)))(hrow:qG m cap cur l)(hm:m≤1099511627776)
    (ad2:Option Addr) (len2 O2:Nat) (l2:List Nat) (h2:zT (rd w (HG g)) ad2 len2 O2 l2) (k:Nat) (hk:l2.length+k≤m) (hsum:val l+4294967296^k*val l2<4294967296^m):
    Calls Tryz.prog 150 #[.slice (some ⟨g,0,none⟩) m cap,.slice ad2 len2 O2,.int .i64 (k:Int)] w (Ret (·=g) w fun w' v=>v= .tuple #[]∧∃cur' l',w'.heap[g]?=some (.cells cur' 143 (0,0))∧qG m cap cur' l'∧val l'=val l+4294967296^k*val l2):=by
 obtain rfl:=h2.hlen;have hcap2:=h2.hcap;have hbig2:=h2.hbig;refine zen Tryz.func150 ?_;have hX:∀k o,HG g k o→k<w.heap.size:=by rintro k o rfl;exact(Array.getElem?_eq_some_iff.1 hg).1
 have Z0:St (·=g) w (HG g) w (HG g) [(g,.cells cur 143 (0,0))]:=St.startE g _ hX hg (fun _=>rfl);refine zz 2<|zn pn (.cells #[.slice (some ⟨g,0,none⟩) m cap] 26 (0,0)) Z0 fun b3 w3 Y3 Z3 G3 N3=>zz 4<|zn pn (.cells #[.int .u32 0] 143 (0,0)) Z3 fun b5 w5 Y5 Z5 G5 N5=>zx 0 #[.int .u32 0] Z5 fun w6 Z6 G6=>zz 17<|zlp Tryz.f150 [] [1,1,1,0,1,0] (fun(j:Nat)=>[(1,.slice ad2 l2.length O2),(2,.int .i64 (k:Int)),(6,.pointer (some ⟨b5,0,none⟩)),(7,.func (.func 164) #[] #[.pointer (some ⟨b3,0,none⟩),.pointer (some ⟨b5,0,none⟩)]),(12,.slice ad2 l2.length O2),(13,.int .i64 (l2.length:Int)),(14,.int .i64 (j:Int))]) (fun(j:Nat)w1=>∃(Y1:Hid)(P1:Array Value)(l1:List Nat)(c:Nat),St (·=g) w (HG g) w1 Y1 [(b5,.cells #[.int .u32 (c:Int)] 143 (0,0)),(b3,.cells #[.slice (some ⟨g,0,none⟩) m cap] 26 (0,0)),(g,.cells P1 143 (0,0))]∧Le (rd w6 Y5) (rd w1 Y1)∧(qG m cap P1 l1)∧(j≤l2.length)∧(c≤1)∧(val l1+c*4294967296^(j+k)=val l+4294967296^k*val (l2.take j))) (fun(j:Nat)=>l2.length-j) 0 ?_ ?_
 ·
  refine⟨_,cur,l,0,Z6,Le.refl _,hrow,Nat.zero_le _,by omega,by simp[val]⟩
 rintro j w7 K7 hK7 ⟨Y7,P1,l1,c,Z7,G7,hp7_0,hp7_1,hp7_2,hp7_3⟩;have D1:=hp7_0;have hlen1:=D1.len;refine zz 6<|zt 15 (p:=(j:Int)<(l2.length:Int)) (fun F8=>?_) (fun F8=>?_)
 ·
  obtain⟨bk9,of10,rfl,_⟩:=h2.addr (by omega)
  refine zz 8<|zi (b:=bk9) (off:=of10) (len:=l2.length) (cap:=O2) (kd:= .i64) (i:=(j:Int)) 1 (of10+j) ?_;have J1_:=(Le3 G3 G5 G6).trans G7;refine zl ((h2.cell (i:=j) (by omega)).mono J1_).cells<|zz 9<|zw 22 (x:=((j+k:Nat):Int))<|zz 1<|zop (at1 [K7] Tryz.f150 [1,1,1,0,1,0,0,1,1,0,0,1]) 5 (fun a11 _ hF11 hz11=>zKe 2 0 hF11 Z7 rfl rfl (qAn _ g b5 b3 (j+k) m cap P1 l1 (l2.getD j 0) c (Z7.ne (i:=2) (j:=0) rfl rfl (by decide)) (Z7.ne (i:=1) (j:=2) rfl rfl (by decide)) (Z7.ne (i:=1) (j:=0) rfl rfl (by decide)) (Z7.get 2 rfl) D1 (Z7.get 0 rfl) (Z7.atX 1 rfl (fun _ hx=>hx.elim (Z7.ne (i:=1) (j:=2) rfl rfl (by decide)) (Z7.ne (i:=1) (j:=0) rfl rfl (by decide)))) (by omega) (by first | exact h2.getD_lt _ | omega) (by omega) (by omega)) ?_)
  rintro v12 w12 ⟨rfl,P12,hg12,D12,hbc12⟩ hSf12 G12 a13 hF13;have Z12:=hSf12 _ _ hg12 hbc12;refine hz11 hF13<|zz 5<|zw 25 (x:=(j:Int)+1)<|zz 2 ?_;refine mP (fun a h=>hK7 (j+1) _ a h ⟨_,P12,(l1.set (j+k) ((l1.getD (j+k) 0+l2.getD j 0+c) % 4294967296)),((l1.getD (j+k) 0+l2.getD j 0+c) / 4294967296),Z12,(Le2 G7 G12),D12,by omega,by have:=h2.getD_lt j;have:=D1.getD_lt (j+k);omega,qId _ _ _ _ _ _ (by omega) (by omega) hp7_3⟩ ?_)
  first | omega | (simp<;>omega)
 refine zz 12<|zw 29 (x:=((l2.length+k:Nat):Int))<|zz 4 ?_;have htot:=hp7_3;have hj1:=hp7_1;obtain rfl:j=l2.length:=by omega
 rw[List.take_length]at htot;refine zlp Tryz.f150 [K7] [1,1,1,1,1,0] (fun(j:Nat)=>[(6,.pointer (some ⟨b5,0,none⟩)),(7,.func (.func 164) #[] #[.pointer (some ⟨b3,0,none⟩),.pointer (some ⟨b5,0,none⟩)]),(10,.int .i64 (j:Int))]) (fun j w1=>∃(Y1:Hid)(P1:Array Value)(l1:List Nat)(c:Nat),St (·=g) w (HG g) w1 Y1 [(b5,.cells #[.int .u32 (c:Int)] 143 (0,0)),(b3,.cells #[.slice (some ⟨g,0,none⟩) m cap] 26 (0,0)),(g,.cells P1 143 (0,0))]∧Le (rd w7 Y7) (rd w1 Y1)∧(qG m cap P1 l1)∧(c≤1)∧(val l1+c*4294967296^j=val l+4294967296^k*val l2)) (fun j=>m-j) (l2.length+k) ?_ ?_
 ·
  refine⟨_,P1,l1,c,Z7,Le.refl _,D1,hp7_2,htot⟩
 rintro j w14 K14 hK14 ⟨Y14,P1,l1,c,Z14,G14,hp14_0,hp14_1,hp14_2⟩;have D1:=hp14_0;have hlen1:=D1.len;refine zz 3<|zo 0 Z14<|zz 3<|zb 31 (b:=((c:Int)!=0)) (fun J15=>?_) (fun J15=>?_)
 ·
  have F16:(c:Int)≠0:=by simpa using J15
  have hjm:j<m:=zKh (i:=j) (len:=m) (v:=val l+4294967296^k*val l2) (by have h1:=hp14_2;obtain rfl:c=1:=(by have:=hp14_1;omega);omega) hsum
  refine zz 8<|zop (at1 [K7,K14] Tryz.f150 [1,1,1,1,1,0,0,1,0,0]) 2 (fun a17 _ hF17 hz17=>zKe 2 0 hF17 Z14 rfl rfl (qAn _ g b5 b3 (j) m cap P1 l1 (0) c (Z14.ne (i:=2) (j:=0) rfl rfl (by decide)) (Z14.ne (i:=1) (j:=2) rfl rfl (by decide)) (Z14.ne (i:=1) (j:=0) rfl rfl (by decide)) (Z14.get 2 rfl) D1 (Z14.get 0 rfl) (Z14.atX 1 rfl (fun _ hx=>hx.elim (Z14.ne (i:=1) (j:=2) rfl rfl (by decide)) (Z14.ne (i:=1) (j:=0) rfl rfl (by decide)))) (by omega) (by first | exact h2.getD_lt _ | omega) (by omega) (by omega)) ?_)
  rintro v18 w18 ⟨rfl,P18,hg18,D18,hbc18⟩ hSf18 G18 a19 hF19;have Z18:=hSf18 _ _ hg18 hbc18;refine hz17 hF19<|zz 6<|zw 33 (x:=(j:Int)+1)<|zz 2 ?_;refine mP (fun a h=>hK14 (j+1) _ a h ⟨_,P18,(l1.set (j) ((l1.getD (j) 0+0+c) % 4294967296)),((l1.getD (j) 0+0+c) / 4294967296),Z18,(Le2 G14 G18),D18,by have:=D1.getD_lt j;omega,qAp _ _ _ _ (by omega) hp14_2⟩ ?_)
  first | omega | (simp<;>omega)
 have F20:(c:Int)=0:=by simpa using J15
 obtain rfl:c=0:=by omega
 refine zz 5<|zr' (v:= .tuple #[]) ?_;exact⟨Z14.upd,_,rfl,rfl,_,_,Z14.get 2 rfl,D1,by have:=hp14_2;simpa using this⟩
end Go.Proofs.YtjnpoeilfdbaaaaGreatDoor
namespace Go.Proofs.YtjnpoeilfdbaaaaGreatDoor
open Go Go.Gv Go.RowKit IntKind
set_option maxRecDepth 100000
set_option maxHeartbeats 1000000
theorem qTa(w:World)(X:Hid)(hX:∀k o,X k o→k<w.heap.size)(x:Nat)(hx:x<18446744073709551616):Calls Tryz.prog 75 #[.int .u64 (x:Int)] w (Ret E0 w fun w' v=>∃l ad len cap,zIl w w' 143 v l ad len cap∧jC l∧val l=x):=by
 refine zen Tryz.func75 ?_;have Z0:St E0 w X w X []:=St.start hX;refine zz 9<|zs 4 (v:= .int .u32 (IntKind.u32.wrap ((x:Int)))) (v':= .int .u32 ((x % 4294967296:Nat):Int)) (qA (by rw[kI];omega))<|zz 2<|zs 6 (v:= .int .u64 (Int.fdiv ((x:Int)) (2^32))) (v':= .int .u64 ((x / 4294967296:Nat):Int)) (qA (by rw[vW _ 32 (c:=4294967296) (by decide) (by decide)];omega))<|zz 1<|zs 7 (v:= .int .u32 (IntKind.u32.wrap (((x / 4294967296:Nat):Int)))) (v':= .int .u32 ((x / 4294967296 % 4294967296:Nat):Int)) (qA (by rw[kI];omega))<|zn (fun b=> .slice (some ⟨b,0,none⟩) 2 2) (.cells #[.int .u32 ((x % 4294967296:Nat):Int),.int .u32 ((x / 4294967296 % 4294967296:Nat):Int)] 143 (0,0)) Z0 fun b3 w3 Y3 Z3 G3 N3=>?_
 have D5:qG 2 2 #[.int .u32 ((x % 4294967296:Nat):Int),.int .u32 ((x / 4294967296 % 4294967296:Nat):Int)] [x % 4294967296,x / 4294967296 % 4294967296]:=qG.of [x % 4294967296,x / 4294967296 % 4294967296] (by intro y hy;simp at hy;omega) (by simp[maxLen]) (by simp[U32]) (by simp)
 refine zc Z3 (aT _ X0 (qV _) _ _ _ ([x % 4294967296,x / 4294967296 % 4294967296]) (qG.limbs (Y:=X0) D5 (Z3.get 0 rfl) (fun _ h=>h.elim))) ?_ (vs:=#[.slice (some ⟨b3,0,none⟩) 2 2]);rintro v6 w6 Z6 G6 N6 rfl;refine zz 4<|zr' (v:= .slice (some ⟨b3,0,none⟩) (jP ([x % 4294967296,x / 4294967296 % 4294967296])) 2) ?_;exact⟨Z6.upd,_,rfl,Go.Gv.trimmed [x % 4294967296,x / 4294967296 % 4294967296],_,_,_,⟨rfl,(jQ _).symm,wR D5.lt,.inr ⟨_,_,rfl,Z6.own_ge 0 rfl,Z6.get 0 rfl,D5.trimmed⟩⟩,yS _,by rw[xJ];simp only[val];omega⟩
theorem rG(w:World)(g m cap:Nat)(cur:Array Value)(l:List Nat)(hg:w.heap[g]?=some (.cells cur 143 (0,0)))(hrow:qG m cap cur l)(hm:m≤1099511627776)
    (ad2:Option Addr) (len2 O2:Nat) (l2:List Nat) (h2:zT (rd w (HG g)) ad2 len2 O2 l2) (hll:l2.length≤l.length) (hle:val l2≤val l):
    Calls Tryz.prog 115 #[.slice (some ⟨g,0,none⟩) m cap,.slice ad2 len2 O2] w (Ret (·=g) w fun w' v=>∃cur' l',v= .slice (some ⟨g,0,none⟩) l'.length cap∧w'.heap[g]?=some (.cells cur' 143 (0,0))∧qG l'.length cap cur' l'∧jC l'∧val l'=val l-val l2):=by
 obtain rfl:=h2.hlen;have hcap2:=h2.hcap;have hbig2:=h2.hbig;refine zen Tryz.func115 ?_;have hX:∀k o,HG g k o→k<w.heap.size:=by rintro k o rfl;exact(Array.getElem?_eq_some_iff.1 hg).1
 have Z0:St (·=g) w (HG g) w (HG g) [(g,.cells cur 143 (0,0))]:=St.startE g _ hX hg (fun _=>rfl);have hlen:=hrow.len;refine zz 19<|zlp Tryz.f115 [] [1,1,0,1,0] (fun((j,c):Nat×Nat)=>[(0,.slice (some ⟨g,0,none⟩) m cap),(1,.slice ad2 l2.length O2),(5,.int .u32 (c:Int)),(9,.slice ad2 l2.length O2),(10,.int .i64 (l2.length:Int)),(11,.int .i64 (j:Int))]) (fun((j,c):Nat×Nat)w1=>∃(Y1:Hid)(P1:Array Value)(l1:List Nat),St (·=g) w (HG g) w1 Y1 [(g,.cells P1 143 (0,0))]∧Le (rd w (HG g)) (rd w1 Y1)∧(qG m cap P1 l1)∧(j≤l2.length)∧(c≤1)∧(val l1+val (l2.take j)=val l+c*4294967296^j)) (fun((j,c):Nat×Nat)=>l2.length-j) (0,0) ?_ ?_
 ·
  refine⟨_,cur,l,Z0,Le.refl _,hrow,Nat.zero_le _,by omega,by simp[val]⟩
 rintro⟨j,c⟩ w2 K2 hK2 ⟨Y2,P1,l1,Z2,G2,hp2_0,hp2_1,hp2_2,hp2_3⟩;have D1:=hp2_0;have hlen1:=D1.len;have hlt1:=D1.getD_lt j;have hlt2:=h2.getD_lt j;have J1:=hp2_2;refine zz 6<|zt 12 (p:=(j:Int)<(l2.length:Int)) (fun F3=>?_) (fun F3=>?_)
 ·
  obtain⟨bk4,of5,rfl,_⟩:=h2.addr (by omega)
  refine zz 8<|zi (b:=bk4) (off:=of5) (len:=l2.length) (cap:=O2) (kd:= .i64) (i:=(j:Int)) 1 (of5+j)<|zl ((h2.cell (i:=j) (by omega)).mono G2).cells<|zz 9<|zi (b:=g) (off:=0) (len:=m) (cap:=cap) (kd:= .i64) (i:=(j:Int)) 1 j<|zl (ad:=⟨g,j,none⟩) (Z2.rowCells 0 rfl D1 (by have:=D1.len;(try simp only[List.length_set]at *);omega))<|zz 2<|zc Z2 (qPl _ _ Z2.lt ((l1.getD j 0:Nat):Int) ((l2.getD j 0:Nat):Int) (c:Int) ⟨by omega,by omega⟩ ⟨by omega,by omega⟩ ⟨by omega,by omega⟩) ?_
  rintro v7 w7 Z7 G7 N7 rfl;refine zz 3<|zi (b:=g) (off:=0) (len:=m) (cap:=cap) (kd:= .i64) (i:=(j:Int)) 1 j<|zop (at1 [K2] Tryz.f115 [1,1,0,1,0,0,1,1,0,0,1]) 13 (fun a8 _ hF8 hz8=>sW (y:=(zCb (l1.getD j 0) (l2.getD j 0) c)) (k:=j) (e:=((((l1.getD j 0:Nat):Int)-((l2.getD j 0:Nat):Int)) % 4294967296-(c:Int)) % 4294967296) 0 hF8 Z7 (by unfold zCb;omega) rfl D1 (by have:=D1.len;(try simp only[List.length_set]at *);omega) (zWt _ _ _) ?_)
  intro P9 w9 D9 Z9 G9;refine hz8 hF8<|zz 1<|zs 5 (v:= .int .u32 (if((l1.getD j 0:Nat):Int)<((l2.getD j 0:Nat):Int)+(c:Int)then 1 else 0)) (v':= .int .u32 ((brw (l1.getD j 0) (l2.getD j 0) c:Nat):Int)) (qA (by unfold brw;(repeat' split)<;>omega))<|zz 5<|zw 29 (x:=(j:Int)+1)<|zz 2 ?_
  refine mP (fun a h=>hK2 ((j+1,brw (l1.getD j 0) (l2.getD j 0) c)) _ a h ⟨_,P9,(l1.set j (zCb (l1.getD j 0) (l2.getD j 0) c)),Z9,(Le3 G2 G7 G9),D9,by omega,qBc _ _ _,qMq _ _ _ _ _ (by omega) (by omega) hlt1 hlt2 J1 hp2_3⟩ ?_)
  first | omega | (simp<;>omega)
 refine zz 15 ?_;have htot:=hp2_3;have hj1:=hp2_1;obtain rfl:j=l2.length:=by omega
 rw[List.take_length]at htot;refine zlp Tryz.f115 [K2] [1,1,1,0,1,0] (fun((j,c):Nat×Nat)=>[(0,.slice (some ⟨g,0,none⟩) m cap),(5,.int .u32 (c:Int)),(8,.int .i64 (j:Int))]) (fun(j,c)w1=>∃(Y1:Hid)(P1:Array Value)(l1:List Nat),St (·=g) w (HG g) w1 Y1 [(g,.cells P1 143 (0,0))]∧Le (rd w2 Y2) (rd w1 Y1)∧(qG m cap P1 l1)∧(c≤1)∧(val l1+val l2=val l+c*4294967296^j)) (fun(j,c)=>m-j) (l2.length,c) ?_ ?_
 ·
  refine⟨_,P1,l1,Z2,Le.refl _,D1,hp2_2,htot⟩
 rintro⟨j,c⟩ w10 K10 hK10 ⟨Y10,P1,l1,Z10,G10,hp10_0,hp10_1,hp10_2⟩;have D1:=hp10_0;have hlen1:=D1.len;have hlt1:=D1.getD_lt j;have J1:=hp10_1;refine zz 7<|zb 33 (b:=((c:Int)!=0)) (fun J11=>?_) (fun J11=>?_)
 ·
  have F12:(c:Int)≠0:=by simpa using J11
  have hjm:j<m:=(by have h3:=sD D1.lt;rw[hlen1]at h3;refine zKh (i:=j) (len:=m) (v:=val l1) ?_ h3;have h1:=hp10_2;obtain rfl:c=1:=(by omega);omega)
  refine zz 10<|zi (b:=g) (off:=0) (len:=m) (cap:=cap) (kd:= .i64) (i:=(j:Int)) 1 j<|zl (ad:=⟨g,j,none⟩) (Z10.rowCells 0 rfl D1 (by have:=D1.len;(try simp only[List.length_set]at *);omega))<|zz 1<|zc Z10 (qPl _ _ Z10.lt ((l1.getD j 0:Nat):Int) 0 (c:Int) ⟨by omega,by omega⟩ ⟨by omega,by omega⟩ ⟨by omega,by omega⟩) ?_
  rintro v14 w14 Z14 G14 N14 rfl;refine zz 3<|zi (b:=g) (off:=0) (len:=m) (cap:=cap) (kd:= .i64) (i:=(j:Int)) 1 j<|zop (at1 [K2,K10] Tryz.f115 [1,1,1,0,1,0,0,1,0,0]) 12 (fun a15 _ hF15 hz15=>sW (y:=(zCb (l1.getD j 0) 0 c)) (k:=j) (e:=((((l1.getD j 0:Nat):Int)-(0:Int)) % 4294967296-(c:Int)) % 4294967296) 0 hF15 Z14 (by unfold zCb;omega) rfl D1 (by have:=D1.len;(try simp only[List.length_set]at *);omega) (zWt _ _ _) ?_)
  intro P16 w16 D16 Z16 G16;refine hz15 hF15<|zz 1<|zs 5 (v:= .int .u32 (if((l1.getD j 0:Nat):Int)<(0:Int)+(c:Int)then 1 else 0)) (v':= .int .u32 ((brw (l1.getD j 0) 0 c:Nat):Int)) (qA (by unfold brw;(repeat' split)<;>omega))<|zz 6<|zw 35 (x:=(j:Int)+1)<|zz 2 ?_
  refine mP (fun a h=>hK10 ((j+1,brw (l1.getD j 0) 0 c)) _ a h ⟨_,P16,(l1.set j (zCb (l1.getD j 0) 0 c)),Z16,(Le3 G10 G14 G16),D16,qBc _ _ _,qHd _ _ _ _ _ (by omega) hlt1 J1 hp10_2⟩ ?_)
  first | omega | (simp<;>omega)
 have F17:(c:Int)=0:=by simpa using J11
 have J0:c=0:=by omega
 refine zz 9<|zc Z10 (aT _ X0 (qV _) _ _ _ l1 (qG.limbs (Y:=X0) D1 (Z10.get 0 rfl) (fun _ h=>h.elim))) ?_ (vs:=#[.slice (some ⟨g,0,none⟩) m cap]);rintro v19 w19 Z19 G19 N19 rfl;refine zz 4<|zr' (v:= .slice (some ⟨g,0,none⟩) (jP l1) cap) ?_;exact⟨Z19.upd,_,rfl,P1,Go.Gv.trimmed l1,by rw[jQ],Z19.get 0 rfl,by rw[jQ];exact D1.trimmed,yS _,by rw[xJ];have h9:=hp10_2;rw[J0]at h9;omega⟩
set_option maxHeartbeats 1000000
theorem zEd(l bx:Nat)(ad:Option Addr)(len cap:Nat)(xs:List Nat)(hlen:len=xs.length)(hbig:len≤1099511627776)(J:Nat→World→Prop)(R:World→Prop)
    (hread:∀k w,J k w→At (rd w X0) ⟨bx,0,none⟩ [.slice ad len cap])
    (hel:∀k w,J (k+1) w→k<len→∃b off,ad=some ⟨b,off,none⟩∧At (rd w X0) ⟨b,off+k,none⟩ [.int .u32 ((xs.getD k 0:Nat):Int)])
    (hY:∀k w,k<len→J (k+1) w→YieldAt (FF none) 0 Tryz.prog l #[.int .i64 (k:Int),.int .u32 ((xs.getD k 0:Nat):Int)] w (xR (J k) R))
    (h0:∀w,J 0 w→R w) (w:World) (hJ:J len w):Calls Tryz.prog 160 #[.func (.yield l) #[] #[],.pointer (some ⟨bx,0,none⟩)] w (fun e w'=>(∃v,e= .returned v)∧R w'):=by
 refine zFb (n:=19) (vs:=[.func (.yield l) #[] #[],.pointer (some ⟨bx,0,none⟩)]) Tryz.func160 rfl rfl rfl kr (fun a0 hF0=>?_);have hF0:Fr 19 a0 [(0,.func (.yield l) #[] #[]),(1,.pointer (some ⟨bx,0,none⟩))]:=hF0;have Z0:St E0 w X0 w X0 []:=St.start (qV _);refine zG (fun K1 hK1=>?_);refine zC ?_;refine qX hF0 kr (zF (d:=4) (v:= .slice ad len cap) hF0 kr (zB (t:=26) (g:=false) (vs:=[.slice ad len cap]) (ad:=⟨bx,0,none⟩) rfl kr kr ir ((hread _ _ hJ)).cells) ?_);intro a2 hF2;refine zD 2 [(6,.int .i64 (i64.wrap ((len:Int)-1))),(5,.int .i64 (len:Int))] hF2 kr kr (fun a3 hF3=>?_);have hF4:=hF3.set 6 (v':= .int .i64 ((len:Int)-1)) kr rfl (qA (zUa (by omega) (by omega)))
 refine zD 1 [(3,.int .i64 ((len:Int)-1))] hF4 kr kr (fun a5 hF5=>?_);refine zH<|zA (hK1 _ _ ?_);refine yY<|gK (fun(k:Nat)a w1=>Fr 19 a [(0,.func (.yield l) #[] #[]),(1,.pointer (some ⟨bx,0,none⟩)),(3,.int .i64 ((k:Int)-1))]∧J k w1∧k≤len) (fun k=>k) len ?_ ?_
 ·
  exact⟨hF5.as [0,1,3] kr kr,hJ,Nat.le_refl _⟩
 rintro k a6 w6 ⟨hF6,hJ6,hk⟩;have Z6:St E0 w6 X0 w6 X0 []:=St.start (qV _);refine zG (fun K7 hK7=>?_);refine zG (fun K8 hK8=>?_);refine zC<|zD 2 [(8,.bool (decide (((k:Int)-1)≥0))),(7,.int .i64 ((k:Int)-1))] hF6 kr kr (fun a9 hF9=>?_);refine zH<|zA (hK8 _ _ ?_);refine pK (decide (((k:Int)-1)≥0)) hF9 kr kr (fun J10=>?_) (fun J10=>?_)
 ·
  have hF11:=hF9.set 8 (v':= .bool true) kr rfl (zK J10);have F12:((k:Int)-1)≥0:=of_decide_eq_true J10;obtain⟨j,rfl⟩:∃j,k=j+1:=⟨k-1,by omega⟩
  have hF13:=hF11.set 3 (v:= .int .i64 (((j+1:Nat):Int)-1)) (v':= .int .i64 (j:Int)) kr kr (qA (by omega))
  obtain⟨b,off,rfl,hel1⟩:=hel j _ hJ6 (by omega)
  refine wM<|zA (hK7 _ _ ?_);refine zG (fun K14 hK14=>?_);refine yY<|zG (fun K15 hK15=>?_);refine zC<|zD 2 [(12,.int .i64 (j:Int)),(11,.func (.yield l) #[] #[])] hF13 kr kr (fun a16 hF16=>?_);refine qX hF16 kr (zF (d:=13) (v:= .slice (some ⟨b,off,none⟩) len cap) hF16 kr (zB (t:=26) (g:=false) (vs:=[.slice (some ⟨b,off,none⟩) len cap]) (ad:=⟨bx,0,none⟩) rfl kr kr ir ((hread _ _ hJ6)).cells) ?_);intro a17 hF17;refine zD 1 [(14,.int .i64 (j:Int))] hF17 kr kr (fun a18 hF18=>?_);refine qX hF18 kr (zF (d:=15) (v:= .pointer (some ⟨b,off+j,none⟩)) hF18 kr (jH (t:=26) (e:=143) (b:=b) (off:=off) (len:=len) (cap:=cap) (kd:= .i64) (i:=(j:Int)) (g:=false) (m:=1) (off':=off+j) rfl kr kr kr kr (by omega) (by omega) (by first | rfl | omega | (simp;done) | (simp;omega)) _) ?_)
  intro a19 hF19;refine qX hF19 kr (zF (d:=16) (v:= .int .u32 ((xs.getD j 0:Nat):Int)) hF19 kr (zB (t:=143) (g:=false) (vs:=[.int .u32 ((xs.getD j 0:Nat):Int)]) (ad:=⟨b,off+j,none⟩) rfl kr kr ir (hel1).cells) ?_);intro a20 hF20;refine zKr (d:=17) (l:=l) (vs:=#[.int .i64 (j:Int),.int .u32 ((xs.getD j 0:Nat):Int)]) hF20 kr rfl kr kr (hY j _ (by omega) hJ6) (fun _ _ h=>h.ret) ?_
  rintro v21 w21 ⟨bb21,hv21,hJ21,hR21⟩ a22 hF22;cases hv21;have Z21:St E0 w21 X0 w21 X0 []:=St.start (qV _);refine zD 1 [(18,.bool (!bb21))] hF22 kr kr (fun a23 hF23=>?_);refine zH<|zA (hK15 _ _ ?_);refine pK (!bb21) hF23 kr kr (fun J24=>?_) (fun J24=>?_)
  ·
   have hF25:=hF23.set 18 (v':= .bool true) kr rfl (zK J24);have F26:bb21=false:=by simpa using J24
   have hbb:=F26;refine nS ?_;refine fU ?_;refine mI ?_;refine mI ?_;refine fU<|zUl (v:= .tuple #[]) (rs:=[]) hF25 kr Res.nil kr ?_;exact⟨⟨_,rfl⟩,(hR21 hbb)⟩
  have hF27:=hF23.set 18 (v':= .bool false) kr rfl (zK J24);have F28:bb21=true:=by simpa using J24
  have hbb:=F28;refine wM ?_;refine yR<|zA (hK14 _ _ ?_);refine zC<|zD 2 [(10,.int .i64 (i64.wrap ((j:Int)-1))),(9,.int .i64 (j:Int))] hF27 kr kr (fun a29 hF29=>?_);have hF30:=hF29.set 10 (v':= .int .i64 ((j:Int)-1)) kr rfl (qA (zUa (by omega) (by omega)))
  refine zD 1 [(3,.int .i64 ((j:Int)-1))] hF30 kr kr (fun a31 hF31=>?_);refine zH<|zA ?_;exact⟨j,⟨hF31.as [0,1,3] kr kr,hJ21 hbb,by omega⟩,by show j<j+1;omega⟩
 have hF32:=hF9.set 8 (v':= .bool false) kr rfl (zK J10);have F33:¬(((k:Int)-1)≥0):=of_decide_eq_false J10;have hk0:k=0:=by omega
 refine bV ?_;refine sP ?_;refine sP ?_;refine nH<|zOe (v:= .tuple #[]) (rs:=[]) hF32 kr Res.nil kr ?_;exact⟨⟨_,rfl⟩,(h0 _ (hk0▸hJ6))⟩
set_option maxHeartbeats 1000000
theorem zFs(w:World)(X:Hid)(hX:∀k o,X k o→k<w.heap.size)(ad:Option Addr)(len cap:Nat):Calls Tryz.prog 145 #[.slice ad len cap] w (Ret E0 w fun w' v=>∃bx,v= .func (.func 160) #[] #[.pointer (some ⟨bx,0,none⟩)]∧w.heap.size≤bx∧w'.heap[bx]?=some (.cells #[.slice ad len cap] 26 (0,0))):=by
 refine zen Tryz.func145 ?_;have Z0:St E0 w X w X []:=St.start hX;refine zz 2<|zn pn (.cells #[.slice ad len cap] 26 (0,0)) Z0 fun b3 w3 Y3 Z3 G3 N3=>zz 10<|zr' (v:= .func (.func 160) #[] #[.pointer (some ⟨b3,0,none⟩)]) ?_;exact⟨Z3.upd,_,rfl,_,rfl,Z3.own_ge 0 rfl,Z3.get 0 rfl⟩
theorem lX{x y:Nat}(h:qU (x:Int) (y:Int)=0):x=y:=by unfold qU at h;(repeat' split at h)<;>omega
theorem rQ{x y:Nat}(h:x<y):qU (x:Int) (y:Int)= -1:=by unfold qU;rw[if_pos (by omega)]
theorem rP{x y:Nat}(h:y<x):qU (x:Int) (y:Int)=1:=by unfold qU;rw[if_neg (by omega),if_pos (by omega)]
theorem zCo(x:Int):qU x x=0:=by unfold qU;rw[if_neg (by omega),if_neg (by omega)]
theorem zYr{l l2:List Nat}(h1:∀x∈l,x<4294967296)(h2:∀x∈l2,x<4294967296)(c1:jC l)(c2:jC l2)(h:qU (l.length:Int) (l2.length:Int)≠0):qU (l.length:Int) (l2.length:Int)=qU (val l) (val l2):=by
 rcases Nat.lt_trichotomy l.length l2.length with e | e | e
 ·rw[rQ e,rQ (zEl h1 c2 e)]
 ·rw[e,zCo]at h;exact absurd rfl h
 ·rw[rP e,rP (zEl h2 c1 e)]
theorem zYs{l l2:List Nat}(h1:∀x∈l,x<4294967296)(h2:∀x∈l2,x<4294967296)(hlen:l.length=l2.length)(k:Nat)(hk:k<l.length)(heq:∀j,k+1≤j→j<l.length→l.getD j 0=l2.getD j 0)
  (h:qU ((l.getD k 0:Nat):Int) ((l2.getD k 0:Nat):Int)≠0):qU ((l.getD k 0:Nat):Int) ((l2.getD k 0:Nat):Int)=qU (val l) (val l2):=by
 rcases Nat.lt_trichotomy (l.getD k 0) (l2.getD k 0)with e | e | e
 ·rw[rQ e,rQ (zWx h1 hlen k hk heq e)]
 ·rw[e,zCo]at h;exact absurd rfl h
 ·rw[rP e,rP (zWx h2 hlen.symm k (by omega) (fun j h1 h2=>(heq j h1 (by omega)).symm) e)]
theorem qFp{l l2:List Nat}(hlen:l.length=l2.length)(heq:∀j,0≤j→j<l.length→l.getD j 0=l2.getD j 0):(0:Int)=qU (val l) (val l2):=by rw[jAv hlen heq,zCo]
theorem zBp(w:World)(X:Hid)(hX:∀k o,X k o→k<w.heap.size)(ad:Option Addr)(len cap:Nat)(l:List Nat)(h:zT (rd w X) ad len cap l)(ad2:Option Addr)(len2 O2:Nat)(l2:List Nat)(h2:zT (rd w X) ad2 len2 O2 l2)(c1:jC l)(c2:jC l2)(hm:len≤1099511627776):Calls Tryz.prog 114 #[.slice ad len cap,.slice ad2 len2 O2] w (Ret E0 w fun _ v=>v= .int .i64 (qU (val l) (val l2))):=by
 obtain rfl:=h.hlen;obtain rfl:=h2.hlen;have hcap:=h.hcap;have hbig:=h.hbig;have hcap2:=h2.hcap;have hbig2:=h2.hbig;refine zMf (n:=30) (vs:=[.slice ad l.length cap,.slice ad2 l2.length O2]) Tryz.func114 rfl rfl rfl kr (fun a0 hF0=>?_);have hF0:Fr 30 a0 [(0,.slice ad l.length cap),(1,.slice ad2 l2.length O2)]:=hF0;have Z0:St E0 w X w X []:=St.start hX;refine zG (fun K1 hK1=>?_);refine zC ?_;refine qX hF0 kr (mZ (d:=3) (fun b=> .pointer (some ⟨b,0,none⟩)) (.cells #[.slice ad2 l2.length O2] 26 (0,0)) hF0 kr Z0 kw ?_);intro b2 w2 Y2 Z2 G2 N2 a3 hF3;refine qX hF3 kr (mZ (d:=4) (fun b=> .pointer (some ⟨b,0,none⟩)) (.cells #[.int .i64 0] 3 (0,0)) hF3 kr Z2 kw ?_);intro b4 w4 Y4 Z4 G4 N4 a5 hF5;refine zH<|zA (hK1 _ _ ?_);refine zG (fun K6 hK6=>?_);refine zG (fun K7 hK7=>?_);refine zC<|zD 2 [(10,.int .i64 (l.length:Int)),(9,.slice ad l.length cap)] hF5 kr kr (fun a8 hF8=>?_);refine qX hF8 kr (zF (d:=11) (v:= .slice ad2 l2.length O2) hF8 kr (zB (t:=26) (g:=false) (vs:=[.slice ad2 l2.length O2]) (ad:=⟨b2,0,none⟩) rfl kr kr ir (Z4.cells 1 rfl rfl)) ?_);intro a9 hF9;refine zD 1 [(12,.int .i64 (l2.length:Int))] hF9 kr kr (fun a10 hF10=>?_);refine qX hF10 kr (kC (d:=13) (f:=146) (cap:=#[]) (vs:=#[.int .i64 (l.length:Int),.int .i64 (l2.length:Int)]) hF10 kr Z4 rfl kr kr (fun w=>Tryz.call146 _ w) (zOo _ _ Z4.lt (l.length:Int) (l2.length:Int)) ?_);rintro v11 w11 Z11 G11 N11 rfl a12 hF12;refine zD 1 [(5,.int .i64 (qU (l.length:Int) (l2.length:Int)))] hF12 kr kr (fun a13 hF13=>?_);refine zH<|zA (hK7 _ _ ?_);refine zG (fun K14 hK14=>?_);refine zC<|zD 2 [(15,.bool ((qU (l.length:Int) (l2.length:Int))!=0)),(14,.int .i64 (qU (l.length:Int) (l2.length:Int)))] hF13 kr kr (fun a15 hF15=>?_);refine zH<|zA (hK14 _ _ ?_);refine pK ((qU (l.length:Int) (l2.length:Int))!=0) hF15 kr kr (fun J16=>?_) (fun J16=>?_);have hF17:=hF15.set 15 (v':= .bool true) kr rfl (zK J16);have F18:(qU (l.length:Int) (l2.length:Int))≠0:=by simpa using J16
 refine zG (fun K19 hK19=>?_);refine zC<|zD 1 [(16,.int .i64 (qU (l.length:Int) (l2.length:Int)))] hF17 kr kr (fun a20 hF20=>?_);refine qX hF20 kr (zE (t:=3) (b:=b4) (off:=0) (c':=#[.int .i64 (qU (l.length:Int) (l2.length:Int))]) (g:=false) (m:=1) 0 _ hF20 kr Z11 rfl kr rfl kr kr kr rfl (by first | decide | (simp;done)) kr rfl ?_)
 intro w21 Z21 G21;refine zH<|zA (hK19 _ _ ?_);refine nS ?_;refine mI ?_;refine qXy (v:= .int .i64 (qU (l.length:Int) (l2.length:Int))) (rs:=[.cell 4 3]) hF20 kr (Res.cell (ad:=⟨b4,0,none⟩) (cs:=[.int .i64 (qU (l.length:Int) (l2.length:Int))]) (g:=false) kr kr kr ir (Z21.cells 0 rfl rfl) Res.nil) kr ?_;exact⟨Z21.upd,_,rfl,qA (zYr h.hlt h2.hlt c1 c2 F18)⟩;have hF22:=hF15.set 15 (v':= .bool false) kr rfl (zK J16);have F23:(qU (l.length:Int) (l2.length:Int))=0:=by simpa using J16
 have hlen2:=lX F23;refine wM<|zA (hK6 _ _ ?_);refine zG (fun K24 hK24=>?_);refine zG (fun K25 hK25=>?_);refine zC<|zD 1 [(17,.slice ad l.length cap)] hF22 kr kr (fun a26 hF26=>?_);refine qX hF26 kr (kC (d:=18) (f:=145) (cap:=#[]) (vs:=#[.slice ad l.length cap]) hF26 kr Z11 rfl kr kr (fun w=>Tryz.call145 _ w) (zFs _ _ Z11.lt ad l.length cap) ?_);rintro v27 w27 Z27 G27 N27 ⟨bx27,rfl,hge27,hget27⟩ a28 hF28;have Z29:=St.adopt Z27 (fun o h=>Nat.not_lt.2 hge27 (Z11.lt _ _ h)) (Nat.le_trans Z11.upd.size hge27) hget27;have G29:=Le.adopt G27 hge27;refine zH<|zA (hK25 _ _ ?_);refine yY<|zGi (f:=160) (caps:=#[.pointer (some ⟨bx27,0,none⟩)]) hF28 Z29 kr kr (fun args w=>Tryz.call160 args w) fun rec30 l30 b30 w30 Y30 hr30 Z30 G30 N30=>?_;have hF31:=zCw b30 hF28;refine zEd l30 bx27 ad l.length cap l rfl (by omega) (fun k w'=>∃(Y':Hid),St E0 w X w' Y' [(l30,.loop rec30),(b30,.deferred (some [])),(bx27,.cells #[.slice ad l.length cap] 26 (0,0)),(b4,.cells #[.int .i64 0] 3 (0,0)),(b2,.cells #[.slice ad2 l2.length O2] 26 (0,0))]∧Le (rd w30 Y30) (rd w' Y')∧(∀j,k≤j→j<l.length→l.getD j 0=l2.getD j 0)) _ ?_ ?_ ?_ ?_ _ ?_
 rintro k w32 ⟨Y32,Z32,G32,hp32_0⟩;exact Z32.at0 2 rfl rfl;rintro k w33 ⟨Y33,Z33,G33,hp33_0⟩;intro hk;obtain⟨b,off,rfl,_⟩:=h.addr (by omega)
 exact⟨b,off,rfl,((h.cell (i:=k) (by omega)).mono (Le6 G2 G4 G11 G29 G30 G33)).mono Le.x0⟩
 intro k w34 hk;rintro⟨Y34,Z34,G34,hp34_0⟩;refine zIj (p:=19) (q:=20) hr30 hF28 Z34 kr kr (fun a35 hF35=>?_);obtain⟨bk36,of37,rfl,_⟩:=h2.addr (by omega)
 refine zG (fun K38 hK38=>?_);refine zC<|zD 1 [(6,.int .i64 (k:Int))] hF35 kr kr (fun a39 hF39=>?_);refine zH<|zA (hK38 _ _ ?_);refine zC<|zD 1 [(7,.int .u32 ((l.getD k 0:Nat):Int))] hF39 kr kr (fun a40 hF40=>?_);refine zH<|zA<|zCl hr30 Z34 (fun w41 Z41 G41=>?_);refine yY<|zG (fun K42 hK42=>?_);refine zC<|zD 1 [(21,.int .u32 ((l.getD k 0:Nat):Int))] hF40 kr kr (fun a43 hF43=>?_);refine qX hF43 kr (zF (d:=22) (v:= .slice (some ⟨bk36,of37,none⟩) l2.length O2) hF43 kr (zB (t:=26) (g:=false) (vs:=[.slice (some ⟨bk36,of37,none⟩) l2.length O2]) (ad:=⟨b2,0,none⟩) rfl kr kr ir (Z41.cells 4 rfl rfl)) ?_);intro a44 hF44;refine zD 1 [(23,.int .i64 (k:Int))] hF44 kr kr (fun a45 hF45=>?_);refine qX hF45 kr (zF (d:=24) (v:= .pointer (some ⟨bk36,of37+k,none⟩)) hF45 kr (jH (t:=26) (e:=143) (b:=bk36) (off:=of37) (len:=l2.length) (cap:=O2) (kd:= .i64) (i:=(k:Int)) (g:=false) (m:=1) (off':=of37+k) rfl kr kr kr kr (by omega) (by omega) (by first | rfl | omega | (simp;done) | (simp;omega)) _) ?_)
 intro a46 hF46;refine qX hF46 kr (zF (d:=25) (v:= .int .u32 ((l2.getD k 0:Nat):Int)) hF46 kr (zB (t:=143) (g:=false) (vs:=[.int .u32 ((l2.getD k 0:Nat):Int)]) (ad:=⟨bk36,of37+k,none⟩) rfl kr kr ir ((h2.cell (i:=k) (by omega)).mono (Le7 G2 G4 G11 G29 G30 G34 G41)).cells) ?_)
 intro a47 hF47;refine qX hF47 kr (kC (d:=26) (f:=147) (cap:=#[]) (vs:=#[.int .u32 ((l.getD k 0:Nat):Int),.int .u32 ((l2.getD k 0:Nat):Int)]) hF47 kr Z41 rfl kr kr (fun w=>Tryz.call147 _ w) (zFz _ _ Z41.lt ((l.getD k 0:Nat):Int) ((l2.getD k 0:Nat):Int)) ?_);rintro v48 w48 Z48 G48 N48 rfl a49 hF49;refine zD 1 [(8,.int .i64 (qU ((l.getD k 0:Nat):Int) ((l2.getD k 0:Nat):Int)))] hF49 kr kr (fun a50 hF50=>?_);refine zH<|zA (hK42 _ _ ?_);refine zG (fun K51 hK51=>?_);refine zC<|zD 2 [(28,.bool ((qU ((l.getD k 0:Nat):Int) ((l2.getD k 0:Nat):Int))!=0)),(27,.int .i64 (qU ((l.getD k 0:Nat):Int) ((l2.getD k 0:Nat):Int)))] hF50 kr kr (fun a52 hF52=>?_);refine zH<|zA (hK51 _ _ ?_);refine pK ((qU ((l.getD k 0:Nat):Int) ((l2.getD k 0:Nat):Int))!=0) hF52 kr kr (fun J53=>?_) (fun J53=>?_);have hF54:=hF52.set 28 (v':= .bool true) kr rfl (zK J53);have F55:(qU ((l.getD k 0:Nat):Int) ((l2.getD k 0:Nat):Int))≠0:=by simpa using J53
 refine zG (fun K56 hK56=>?_);refine zC<|zD 1 [(29,.int .i64 (qU ((l.getD k 0:Nat):Int) ((l2.getD k 0:Nat):Int)))] hF54 kr kr (fun a57 hF57=>?_);refine qX hF57 kr (zE (t:=3) (b:=b4) (off:=0) (c':=#[.int .i64 (qU ((l.getD k 0:Nat):Int) ((l2.getD k 0:Nat):Int))]) (g:=false) (m:=1) 3 _ hF57 kr Z48 rfl kr rfl kr kr kr rfl (by first | decide | (simp;done)) kr rfl ?_)
 intro w58 Z58 G58;refine zH<|zA (hK56 _ _ ?_);refine nS ?_;refine fU ?_;refine jBa Z58 (fun w59 Z59 G59=>xR.stop (vM.ret Z59 (fun w60 Z60 G60=>?_)));refine fU ?_;refine mI<|zMg (v:= .int .i64 (qU ((l.getD k 0:Nat):Int) ((l2.getD k 0:Nat):Int))) (rs:=[.cell 4 3]) (vs:=[.int .i64 (qU ((l.getD k 0:Nat):Int) ((l2.getD k 0:Nat):Int))]) 1 hF31 Z60 rfl kr kr (fun w61 Z61 G61=>?_);refine⟨(Res.cell (ad:=⟨b4,0,none⟩) (cs:=[.int .i64 (qU ((l.getD k 0:Nat):Int) ((l2.getD k 0:Nat):Int))]) (g:=false) kr kr kr ir (Z61.cells 3 rfl rfl) Res.nil),?_⟩;exact⟨Z61.upd,_,rfl,qA (zYs h.hlt h2.hlt hlen2 k (by omega) hp34_0 F55)⟩
 have hF62:=hF52.set 28 (v':= .bool false) kr rfl (zK J53);have F63:(qU ((l.getD k 0:Nat):Int) ((l2.getD k 0:Nat):Int))=0:=by simpa using J53
 refine wM ?_;refine yR ?_;refine lJ hr30 Z48 (fun w64 Z64 G64=>xR.next ?_);exact⟨_,Z64,(Le4 G34 G41 G48 G64),fun j hj hl=>(by rcases Nat.eq_or_lt_of_le hj with rfl | h9;exact lX F63;exact hp34_0 j h9 hl)⟩
 rintro w65 ⟨Y65,Z65,G65,hp65_0⟩;refine vM.norm hr30 Z65 (fun w66 Z66 G66=>?_);refine yR<|zA (hK24 _ _ ?_);refine zG (fun K67 hK67=>?_);refine zC ?_;refine qX hF31 kr (zE (t:=3) (b:=b4) (off:=0) (c':=#[.int .i64 0]) (g:=false) (m:=1) 3 _ hF31 kr Z66 rfl kr rfl kr kr kr rfl (by first | decide | (simp;done)) kr rfl ?_)
 intro w68 Z68 G68;refine zH<|zA (hK67 _ _ ?_);refine nS<|zMg (v:= .int .i64 0) (rs:=[.cell 4 3]) (vs:=[.int .i64 0]) 1 hF31 Z68 rfl kr kr (fun w69 Z69 G69=>?_);refine⟨(Res.cell (ad:=⟨b4,0,none⟩) (cs:=[.int .i64 0]) (g:=false) kr kr kr ir (Z69.cells 3 rfl rfl) Res.nil),?_⟩;exact⟨Z69.upd,_,rfl,qA (qFp hlen2 hp65_0)⟩;exact⟨_,Z30,Le.refl _,fun j hj hl=>absurd hl (Nat.not_lt.2 hj)⟩
set_option maxHeartbeats 1000000
theorem zAb{l l2:List Nat}(h:xE l l2=0):(l.length≤512∧jC l)∧(l2.length≤512∧jC l2):=by
 have h1:yN l=0∧yN l2=0:=by
  unfold xE at h;simp only[orL]at h;split at h
  ·rename_i h1;split at h
   ·rename_i h2;exact⟨h1,h2⟩
   ·contradiction
  ·contradiction
 exact⟨dB h1.1,dB h1.2⟩
theorem qCs(ad:Option Addr)(cap:Nat)(l:List Nat):∃a1 a2 a3,(if 512<jP l then Value.tuple #[.slice none 0 0,.int .i64 4]else .tuple #[.slice ad (jP l) cap,.int .i64 0])= .tuple #[.slice a1 a2 a3,.int .i64 (qJg l)]:=by
 unfold qJg;split<;>exact⟨_,_,_,rfl⟩
theorem jBc(w:World)(X:Hid)(hX:∀k o,X k o→k<w.heap.size)(ad:Option Addr)(len cap:Nat)(l:List Nat)(h:zT (rd w X) ad len cap l)(ad2:Option Addr)(len2 O2:Nat)(l2:List Nat)(h2:zT (rd w X) ad2 len2 O2 l2):Calls Tryz.prog 120 #[.slice ad len cap,.slice ad2 len2 O2] w (Ret E0 w fun w' v=>zEq 143 w w' (or2 (xE l l2) (zXx (val l+val l2))) (val l+val l2) v):=by
 obtain rfl:=h.hlen;obtain rfl:=h2.hlen;have hcap:=h.hcap;have hbig:=h.hbig;have hcap2:=h2.hcap;have hbig2:=h2.hbig;refine zen Tryz.func120 ?_;have Z0:St E0 w X w X []:=St.start hX;refine zz 11<|zc Z0 (aX _ X0 (qV _) _ _ _ l (h.mono Le.x0) _ _ _ l2 (h2.mono Le.x0)) ?_;rintro v3 w3 Z3 G3 N3 rfl;refine zz 9<|zb 12 (b:=((xE l l2)!=0)) (fun J4=>?_) (fun J4=>?_);have F5:(xE l l2)≠0:=by simpa using J4
 refine zz 10<|zr' (v:= .tuple #[.slice none 0 0,.int .i64 (xE l l2)]) ?_;exact⟨Z3.upd,_,rfl,by rw[zBo F5];exact .inl ⟨F5,rfl⟩⟩
 have F6:(xE l l2)=0:=by simpa using J4
 obtain⟨⟨hl1,c1⟩,hl2,c2⟩:=zAb F6;refine zz 10<|zs 18 (v:= .int .i64 (if(l2.length:Int)>(l.length:Int)then(l2.length:Int)else(l.length:Int))) (v':= .int .i64 ((max l.length l2.length:Nat):Int)) (qA (by split<;>omega))<|zz 1<|zw 19 (x:=((max l.length l2.length+1:Nat):Int))<|zop (at1 [] Tryz.f120 [1,1,0]) 6 (fun a7 _ hF7 hz7=>zHg (l:=((max l.length l2.length+1:Nat):Int)) (e:=143) (z:= .int .u32 0) (i0:=Tryz.t143) (max l.length l2.length+1) 4 hF7 Z3 ?_)
 intro b8 w8 Y8 Z8 G8 N8 a9 hF9;have D8:=qG.zeros (max l.length l2.length+1) (by simp only[maxLen];omega)
 refine hz7 hF9<|zz 7<|zop (at1 [] Tryz.f120 [1,1,1,0]) 2 (fun a10 _ hF10 hz10=>zYo (l2:=l) 0 hF10 Z8 rfl D8 (h.mono (Le2 G3 G8)) (by omega) ?_)
 intro P11 w11 D11 Z11 G11 a12 hF12;refine hz10 hF12<|zz 6<|zcE 0 Z11 rfl (qNu _ b8 (max l.length l2.length+1) (max l.length l2.length+1) _ (l++List.drop l.length (List.replicate (max l.length l2.length+1) 0)) (Z11.get 0 rfl) D11 (by omega) _ _ _ l2 ((h2.mono (Le3 G3 G8 G11)).mono (Z11.leHG 0 rfl)) 0 (by omega) (by rw[bK];exact qAo h.hlt h2.hlt)) ?_
 rintro v14 w14 ob14 ⟨rfl,P14,ls14,hg14,D14,hval14⟩ hob14 Z14 G14;obtain rfl:=Option.some.inj (hob14.symm.trans hg14);refine zz 5<|zc Z14 (qOi _ X0 (qV _) _ _ _ ls14 (qG.limbs (Y:=X0) D14 (Z14.get 0 rfl) (fun _ h=>h.elim))) ?_ (vs:=#[.slice (some ⟨b8,0,none⟩) (max l.length l2.length+1) (max l.length l2.length+1)]);rintro v16 w16 Z16 G16 N16 hfit16;obtain⟨af16,lf16,cf16,hfe16⟩:=qCs (some ⟨b8,0,none⟩) (max l.length l2.length+1) ls14;cases(hfit16.trans hfe16);refine zz 7<|zr' (v:= .tuple #[.slice af16 lf16 cf16,.int .i64 (qJg ls14)]) ?_;exact⟨Z16.upd,_,rfl,by rw[wB F6];exact zEq.fit D14 (Z16.get 0 rfl) (Z16.own_ge 0 rfl) (by have h9:=hval14;rw[bK]at h9;omega) hfe16.symm⟩
set_option maxHeartbeats 1000000
theorem zNi(w:World)(X:Hid)(hX:∀k o,X k o→k<w.heap.size)(ad2:Option Addr)(len2 O2:Nat)(hl0:len2=0)(J2:O2≤9223372036854775807):Calls Tryz.prog 115 #[.slice none 0 0,.slice ad2 len2 O2] w (Ret E0 w fun _ v=>v= .slice none 0 0):=by
 subst hl0;refine zen Tryz.func115 ?_;have Z0:St E0 w X w X []:=St.start hX;refine zz 19<|zUc<|zz 21<|zUc<|zz 16<|zc Z0 (aT _ _ Z0.lt _ _ _ ([]) (zT.nil (r:=rd w X) (cap:=0) none (by omega))) ?_ (vs:=#[.slice none 0 0])
 rintro v3 w3 Z3 G3 N3 rfl;refine zz 4<|zr' (v:= .slice none (jP ([])) 0) ?_;exact⟨Z3.upd,_,rfl,rfl⟩
def zTr(x y:Nat):Int:=if x<y then 7 else 0
theorem zOl{x y:Nat}(h:qU (x:Int) (y:Int)<0):x<y:=by unfold qU at h;(repeat' split at h)<;>omega
theorem zOk{x y:Nat}(h:¬qU (x:Int) (y:Int)<0):y≤x:=by unfold qU at h;(repeat' split at h)<;>omega
theorem qNs(w:World)(X:Hid)(hX:∀k o,X k o→k<w.heap.size)(ad:Option Addr)(len cap:Nat)(l:List Nat)(h:zT (rd w X) ad len cap l)(ad2:Option Addr)(len2 O2:Nat)(l2:List Nat)(h2:zT (rd w X) ad2 len2 O2 l2):Calls Tryz.prog 121 #[.slice ad len cap,.slice ad2 len2 O2] w (Ret E0 w fun w' v=>zEq 143 w w' (or2 (xE l l2) (zTr (val l) (val l2))) (val l-val l2) v):=by
 obtain rfl:=h.hlen;obtain rfl:=h2.hlen;have hcap:=h.hcap;have hbig:=h.hbig;have hcap2:=h2.hcap;have hbig2:=h2.hbig;have hbig2c:=h2.hbig;refine zen Tryz.func121 ?_;have Z0:St E0 w X w X []:=St.start hX;refine zz 11<|zc Z0 (aX _ X0 (qV _) _ _ _ l (h.mono Le.x0) _ _ _ l2 (h2.mono Le.x0)) ?_;rintro v3 w3 Z3 G3 N3 rfl;refine zz 11<|zb 10 (b:=((xE l l2)!=0)) (fun J4=>?_) (fun J4=>?_);have F5:(xE l l2)≠0:=by simpa using J4
 refine zz 11<|zr' (v:= .tuple #[.slice none 0 0,.int .i64 (xE l l2)]) ?_;exact⟨Z3.upd,_,rfl,by rw[zBo F5];exact .inl ⟨F5,rfl⟩⟩
 have F6:(xE l l2)=0:=by simpa using J4
 obtain⟨⟨hl1,c1⟩,hl2,c2⟩:=zAb F6;refine zz 5<|zc Z3 (zBp _ X0 (qV _) _ _ _ l ((h.mono G3).mono Le.x0) _ _ _ l2 ((h2.mono G3).mono Le.x0) c1 c2 (by omega)) ?_
 rintro v8 w8 Z8 G8 N8 rfl;refine zz 4<|zt 14 (p:=(qU (val l) (val l2))<0) (fun F9=>?_) (fun F9=>?_);have hcmp:=zOl F9;refine zz 10<|zr' (v:= .tuple #[.slice none 0 0,.int .i64 7]) ?_;exact⟨Z8.upd,_,rfl,by rw[wB F6,zTr,if_pos hcmp];exact .inl ⟨by decide,rfl⟩⟩
 have hcmp:=zOk F9;refine zz 7<|zc Z8 (zAc _ X0 (qV _) _ _ _ l ((h.mono (Le2 G3 G8)).mono Le.x0) (by omega)) ?_
 rintro v11 w11 Z11 G11 N11 ⟨ad11,len11,O11,how11⟩;rcases how11 with⟨rfl,hlen11,hlt11,⟨rfl,rfl,rfl⟩ | ⟨g11,P11,rfl,hge11,hget11,D11⟩⟩
 have hnil11:l=[]:=List.eq_nil_of_length_eq_zero hlen11.symm;refine zz 1 ?_;have hnil2:l2=[]:=bQ c2 (by have:=hcmp;rw[hnil11]at this;simp only[val]at this;omega)
 refine zc Z11 (zNi _ X0 (qV _) _ _ _ (by rw[hnil2];rfl) hbig2c) ?_ (vs:=#[.slice none 0 0,.slice ad2 l2.length O2])
 rintro v14 w14 Z14 G14 N14 rfl;refine zz 5<|zr' (v:= .tuple #[.slice none 0 0,.int .i64 0]) ?_;exact⟨Z14.upd,_,rfl,.inr ⟨by rw[wB F6,zTr,if_neg (by omega)],_,[],_,_,_,rfl,⟨⟨rfl,rfl,fun x hx=>by simp at hx,.inl ⟨rfl,rfl,rfl⟩⟩,.inl rfl,by rw[hnil11];simp[val]⟩,by simp⟩⟩
 subst hlen11;have Z12:=St.adopt Z11 (fun o h=>Nat.not_lt.2 hge11 (Z8.lt _ _ h)) (Nat.le_trans Z8.upd.size hge11) hget11;have G12:=Le.adopt G11 hge11;refine zz 1<|zcE 0 Z12 rfl (rG _ g11 l.length O11 _ l (Z12.get 0 rfl) D11 (by omega) _ _ _ l2 ((h2.mono (Le3 G3 G8 G12)).mono (Z12.leHG 0 rfl)) (jE h.hlt c2 (by omega)) (by omega)) ?_
 rintro v16 w16 ob16 ⟨P16,ls16,rfl,hg16,D16,hcan16,hval16⟩ hob16 Z16 G16;obtain rfl:=Option.some.inj (hob16.symm.trans hg16);refine zz 5<|zr' (v:= .tuple #[.slice (some ⟨g11,0,none⟩) ls16.length O11,.int .i64 0]) ?_;exact⟨Z16.upd,_,rfl,.inr ⟨by rw[wB F6,zTr,if_neg (by omega)],_,ls16,_,_,_,rfl,⟨⟨rfl,rfl,D16.lt,.inr ⟨_,_,rfl,Z16.own_ge 0 rfl,Z16.get 0 rfl,D16⟩⟩,hcan16,hval16⟩,Nat.le_trans (jE h.hlt hcan16 (by omega)) hl1⟩⟩
set_option maxHeartbeats 1000000
theorem jBh(w:World)(X:Hid)(hX:∀k o,X k o→k<w.heap.size)(ad:Option Addr)(len cap:Nat)(l:List Nat)(h:zT (rd w X) ad len cap l)(ad2:Option Addr)(len2 O2:Nat)(l2:List Nat)(h2:zT (rd w X) ad2 len2 O2 l2):Calls Tryz.prog 118 #[.slice ad len cap,.slice ad2 len2 O2] w (Ret E0 w fun w' v=>zEq 143 w w' (or2 (xE l l2) (zXx (val l*val l2))) (val l*val l2) v):=by
 obtain rfl:=h.hlen;obtain rfl:=h2.hlen;have hcap:=h.hcap;have hbig:=h.hbig;have hcap2:=h2.hcap;have hbig2:=h2.hbig;refine zen Tryz.func118 ?_;have Z0:St E0 w X w X []:=St.start hX;refine zz 11<|zc Z0 (aX _ X0 (qV _) _ _ _ l (h.mono Le.x0) _ _ _ l2 (h2.mono Le.x0)) ?_;rintro v3 w3 Z3 G3 N3 rfl;refine zz 9<|zb 18 (b:=((xE l l2)!=0)) (fun J4=>?_) (fun J4=>?_);have F5:(xE l l2)≠0:=by simpa using J4
 refine zz 10<|zr' (v:= .tuple #[.slice none 0 0,.int .i64 (xE l l2)]) ?_;exact⟨Z3.upd,_,rfl,by rw[zBo F5];exact .inl ⟨F5,rfl⟩⟩
 have F6:(xE l l2)=0:=by simpa using J4
 obtain⟨⟨hl1,c1⟩,hl2,c2⟩:=zAb F6;refine zz 10<|zw 24 (x:=((l.length+l2.length:Nat):Int))<|zz 1<|zw 25 (x:=((l.length+l2.length+1:Nat):Int))<|zop (at1 [] Tryz.f118 [1,1,0]) 6 (fun a7 _ hF7 hz7=>zHg (l:=((l.length+l2.length+1:Nat):Int)) (e:=143) (z:= .int .u32 0) (i0:=Tryz.t143) (l.length+l2.length+1) 4 hF7 Z3 ?_);intro b8 w8 Y8 Z8 G8 N8 a9 hF9;have D8:=qG.zeros (l.length+l2.length+1) (by simp only[maxLen];omega)
 refine hz7 hF9<|zz 12<|zlp Tryz.f118 [] [1,1,1,0,1,0] (fun(i:Nat)=>[(1,.slice ad2 l2.length O2),(7,.slice (some ⟨b8,0,none⟩) (l.length+l2.length+1) (l.length+l2.length+1)),(27,.slice ad l.length cap),(28,.int .i64 (l.length:Int)),(29,.int .i64 (i:Int))]) (fun(i:Nat)w1=>∃(Y1:Hid)(P1:Array Value)(l1:List Nat),St E0 w X w1 Y1 [(b8,.cells P1 143 (0,0))]∧Le (rd w8 Y8) (rd w1 Y1)∧(qG (l.length+l2.length+1) (l.length+l2.length+1) P1 l1)∧(i≤l.length)∧(val l1=val (l.take i)*val l2)) (fun(i:Nat)=>l.length-i) 0 ?_ ?_;refine⟨_,(List.replicate (l.length+l2.length+1) (Value.int .u32 0)).toArray,(List.replicate (l.length+l2.length+1) 0),Z8,Le.refl _,D8,Nat.zero_le _,by simp[val,wW]⟩
 rintro i w10 K10 hK10 ⟨Y10,P1,l1,Z10,G10,hp10_0,hp10_1,hp10_2⟩;have D1:=hp10_0;have hlen1:=D1.len;have hlti:=h.getD_lt i;refine zz 6<|zt 30 (p:=(i:Int)<(l.length:Int)) (fun F11=>?_) (fun F11=>?_);obtain⟨bk12,of13,rfl,_⟩:=h.addr (by omega)
 refine zz 8<|zi (b:=bk12) (off:=of13) (len:=l.length) (cap:=cap) (kd:= .i64) (i:=(i:Int)) 1 (of13+i)<|zl ((h.cell (i:=i) (by omega)).mono (Le3 G3 G8 G10)).cells<|zz 9<|zw 36 (x:=((l2.length+1:Nat):Int))<|zop (at1 [K10] Tryz.f118 [1,1,1,0,1,0,0,1,1,0,0,1,0]) 3 (fun a14 _ hF14 hz14=>zHg (l:=((l2.length+1:Nat):Int)) (e:=143) (z:= .int .u32 0) (i0:=Tryz.t143) (l2.length+1) 4 hF14 Z10 ?_)
 intro b15 w15 Y15 Z15 G15 N15 a16 hF16;have D15:=qG.zeros (l2.length+1) (by simp only[maxLen];omega)
 refine hz14 hF16<|zz 12<|zlp Tryz.f118 [K10] [1,1,1,0,1,0,0,1,1,0,0,1,1,0,1,0] (fun(j:Nat)=>[(1,.slice ad2 l2.length O2),(7,.slice (some ⟨b8,0,none⟩) (l.length+l2.length+1) (l.length+l2.length+1)),(8,.int .i64 (i:Int)),(9,.int .u32 ((l.getD i 0:Nat):Int)),(10,.slice (some ⟨b15,0,none⟩) (l2.length+1) (l2.length+1)),(27,.slice (some ⟨bk12,of13,none⟩) l.length cap),(28,.int .i64 (l.length:Int)),(29,.int .i64 (i:Int)),(38,.slice ad2 l2.length O2),(39,.int .i64 (l2.length:Int)),(40,.int .i64 (j:Int))]) (fun(j:Nat)w1=>∃(Y1:Hid)(P2:Array Value)(lp:List Nat),St E0 w X w1 Y1 [(b15,.cells P2 143 (0,0)),(b8,.cells P1 143 (0,0))]∧Le (rd w15 Y15) (rd w1 Y1)∧(qG (l2.length+1) (l2.length+1) P2 lp)∧(j≤l2.length)∧(val lp=l.getD i 0*val (l2.take j))∧(∀t,j<t→lp.getD t 0=0)) (fun(j:Nat)=>l2.length-j) 0 ?_ ?_;refine⟨_,(List.replicate (l2.length+1) (Value.int .u32 0)).toArray,(List.replicate (l2.length+1) 0),Z15,Le.refl _,D15,Nat.zero_le _,by simp[val,wW],fun t _=>by by_cases ht:t<l2.length+1<;>simp[List.getD_eq_getElem?_getD,ht]⟩
 rintro j w17 K17 hK17 ⟨Y17,P2,lp,Z17,G17,hp17_0,hp17_1,hp17_2,hp17_3⟩;have D2:=hp17_0;have hlen2:=D2.len;have hltj:=h2.getD_lt j;have hltp:=D2.getD_lt j;have hmul:l.getD i 0*l2.getD j 0≤4294967295*4294967295:=Nat.mul_le_mul (by omega) (by omega)
 refine zz 6<|zt 41 (p:=(j:Int)<(l2.length:Int)) (fun F18=>?_) (fun F18=>?_);obtain⟨bk19,of20,rfl,_⟩:=h2.addr (by omega)
 refine zz 8<|zi (b:=bk19) (off:=of20) (len:=l2.length) (cap:=O2) (kd:= .i64) (i:=(j:Int)) 1 (of20+j) ?_;have J1_:=(Le4 G3 G8 G10 G15).trans G17;refine zl ((h2.cell (i:=j) (by omega)).mono J1_).cells<|zz 8<|zs 46 (v:= .int .u64 (IntKind.u64.wrap (((l.getD i 0:Nat):Int)))) (v':= .int .u64 ((l.getD i 0:Nat):Int)) (qA (zIw (by omega) (by omega)))<|zz 2<|zs 48 (v:= .int .u64 (IntKind.u64.wrap (((l2.getD j 0:Nat):Int)))) (v':= .int .u64 ((l2.getD j 0:Nat):Int)) (qA (zIw (by omega) (by omega)))<|zz 1<|zs 49 (v:= .int .u64 (IntKind.u64.wrap (((l.getD i 0:Nat):Int)*((l2.getD j 0:Nat):Int)))) (v':= .int .u64 ((l.getD i 0*l2.getD j 0:Nat):Int)) (qA ((zIw (by rw[←Int.natCast_mul];omega) (by rw[←Int.natCast_mul];omega)).trans (Int.natCast_mul _ _).symm))<|zz 2<|zi (b:=b15) (off:=0) (len:=(l2.length+1)) (cap:=(l2.length+1)) (kd:= .i64) (i:=(j:Int)) 1 j ?_
 refine zl (ad:=⟨b15,j,none⟩) (Z17.rowCells 0 rfl D2 (by have:=D2.len;(try simp only[List.length_set]at *);omega))<|zz 1<|zs 54 (v:= .int .u64 (IntKind.u64.wrap (((lp.getD j 0:Nat):Int)))) (v':= .int .u64 ((lp.getD j 0:Nat):Int)) (qA (zIw (by omega) (by omega)))<|zz 1<|zs 55 (v:= .int .u64 (IntKind.u64.wrap (((l.getD i 0*l2.getD j 0:Nat):Int)+((lp.getD j 0:Nat):Int)))) (v':= .int .u64 ((l.getD i 0*l2.getD j 0+lp.getD j 0:Nat):Int)) (qA (zIw (by omega) (by omega)))<|zz 9<|zw 60 (x:=((j+1:Nat):Int))<|zz 2<|zs 62 (v:= .int .u32 (IntKind.u32.wrap (((l.getD i 0*l2.getD j 0+lp.getD j 0:Nat):Int)))) (v':= .int .u32 (((l.getD i 0*l2.getD j 0+lp.getD j 0) % 4294967296:Nat):Int)) (qA (by rw[kI];omega)) ?_
 refine zz 2<|zs 64 (v:= .int .u64 (Int.fdiv (((l.getD i 0*l2.getD j 0+lp.getD j 0:Nat):Int)) (2^32))) (v':= .int .u64 (((l.getD i 0*l2.getD j 0+lp.getD j 0) / 4294967296:Nat):Int)) (qA (by rw[vW _ 32 (c:=4294967296) (by decide) (by decide)];omega))<|zz 1<|zs 65 (v:= .int .u32 (IntKind.u32.wrap ((((l.getD i 0*l2.getD j 0+lp.getD j 0) / 4294967296:Nat):Int)))) (v':= .int .u32 (((l.getD i 0*l2.getD j 0+lp.getD j 0) / 4294967296:Nat):Int)) (qA (by rw[kI];omega))<|zi (b:=b15) (off:=0) (len:=(l2.length+1)) (cap:=(l2.length+1)) (kd:= .i64) (i:=(j:Int)) 1 j<|zop (at1 [K10,K17] Tryz.f118 [1,1,1,0,1,0,0,1,1,0,0,1,1,0,1,0,0,1,1,0,0,1,1]) 11 (fun a21 _ hF21 hz21=>sW (y:=((l.getD i 0*l2.getD j 0+lp.getD j 0) % 4294967296)) (k:=j) (e:=(((l.getD i 0*l2.getD j 0+lp.getD j 0) % 4294967296:Nat):Int)) 0 hF21 Z17 (by first | rfl | omega | (simp;omega)) rfl D2 (by have:=D2.len;(try simp only[List.length_set]at *);omega) (by first | omega | (simp;omega)) ?_)
 intro P22 w22 D22 Z22 G22;refine hz21 hF21<|zi (b:=b15) (off:=0) (len:=(l2.length+1)) (cap:=(l2.length+1)) (kd:= .i64) (i:=((j+1:Nat):Int)) 1 ((((j+1:Nat):Int)).toNat)<|zop (at1 [K10,K17] Tryz.f118 [1,1,1,0,1,0,0,1,1,0,0,1,1,0,1,0,0,1,1,0,0,1,1]) 13 (fun a23 _ hF23 hz23=>sW (y:=((l.getD i 0*l2.getD j 0+lp.getD j 0) / 4294967296)) (k:=(((j+1:Nat):Int)).toNat) (e:=(((l.getD i 0*l2.getD j 0+lp.getD j 0) / 4294967296:Nat):Int)) 0 hF23 Z22 (by first | rfl | omega | (simp;omega)) rfl D22 (by have:=D22.len;(try simp only[List.length_set]at *);omega) (by first | omega | (simp;omega)) ?_)
 intro P24 w24 D24 Z24 G24;refine hz23 hF23<|zz 5<|zw 68 (x:=(j:Int)+1)<|zz 2 ?_;refine mP (fun a h=>hK17 (j+1) _ a h ⟨_,P24,((lp.set j ((l.getD i 0*l2.getD j 0+lp.getD j 0) % 4294967296)).set ((((j+1:Nat):Int)).toNat) ((l.getD i 0*l2.getD j 0+lp.getD j 0) / 4294967296)),Z24,(Le3 G17 G22 G24),D24,by omega,by rw[kH l2 j (by omega),Nat.mul_add,←Nat.mul_assoc];exact qKu lp j _ _ _ (by omega) (hp17_3 _ (by omega)) hp17_2,fun t ht=>by rw[xF (by omega),xF (by omega)];exact hp17_3 t (by omega)⟩ ?_)
 first | omega | (simp<;>omega)
 have hpv:val lp=l.getD i 0*val l2:=by have h9:=hp17_2;rwa[show j=l2.length by omega,List.take_length]at h9
 refine zz 10<|zcE 1 Z17 rfl (qNu _ b8 (l.length+l2.length+1) (l.length+l2.length+1) _ l1 (Z17.get 1 rfl) D1 (by omega) _ _ _ lp (qG.limbs (Y:=HG b8) D2 (Z17.get 0 rfl) (fun o h=>Z17.ne (i:=0) (j:=1) rfl rfl (by decide) h)) i (by omega) (by have h8:=hp10_2;rw[hp10_2,hpv];have h9:=kH l i (by omega);have e:val (l.take i)*val l2+4294967296^i*(l.getD i 0*val l2)=val (l.take (i+1))*val l2:=(by rw[h9,Nat.add_mul];congr 1;ac_rfl);rw[e];exact zGv (Nat.lt_of_le_of_lt (zEm _ _) (sD h.hlt)) (sD h2.hlt) (by omega))) ?_ (vs:=#[.slice (some ⟨b8,0,none⟩) (l.length+l2.length+1) (l.length+l2.length+1),.slice (some ⟨b15,0,none⟩) (l2.length+1) (l2.length+1),.int .i64 (i:Int)])
 rintro v26 w26 ob26 ⟨rfl,P26,ls26,hg26,D26,hval26⟩ hob26 Z26 G26;obtain rfl:=Option.some.inj (hob26.symm.trans hg26);refine zz 5<|zw 73 (x:=(i:Int)+1)<|zz 2 ?_;have J2_:=(Le3 G10 G15 G17).trans G26;refine mP (fun a h=>hK10 (i+1) _ a h ⟨_,P26,ls26,Z26.tail,J2_,D26,by omega,by have h8:=hval26;have h9:=hpv;rw[kH l i (by omega),Nat.add_mul,h8,h9,←hp10_2];have e:l.getD i 0*4294967296^i*val l2=4294967296^i*(l.getD i 0*val l2):=(by ac_rfl);omega⟩ ?_)
 first | omega | (simp<;>omega)
 have hfin:val l1=val l*val l2:=by have h9:=hp10_2;rwa[show i=l.length by omega,List.take_length]at h9
 refine zz 9<|zc Z10 (qOi _ X0 (qV _) _ _ _ l1 (qG.limbs (Y:=X0) D1 (Z10.get 0 rfl) (fun _ h=>h.elim))) ?_ (vs:=#[.slice (some ⟨b8,0,none⟩) (l.length+l2.length+1) (l.length+l2.length+1)]);rintro v28 w28 Z28 G28 N28 hfit28;obtain⟨af28,lf28,cf28,hfe28⟩:=qCs (some ⟨b8,0,none⟩) (l.length+l2.length+1) l1;cases(hfit28.trans hfe28);refine zz 7<|zr' (v:= .tuple #[.slice af28 lf28 cf28,.int .i64 (qJg l1)]) ?_;exact⟨Z28.upd,_,rfl,by rw[wB F6];exact zEq.fit D1 (Z28.get 0 rfl) (Z28.own_ge 0 rfl) (hfin) hfe28.symm⟩
set_option maxHeartbeats 1000000
def qQh(T:TypeId)(Φ:List Nat→Prop)(g':Nat)(o':Obj)(v:Value):Prop:=∃cur' cap' l',o'= .cells cur' T (0,0)∧v= .slice (some ⟨g',0,none⟩) l'.length cap'∧qG l'.length cap' cur' l'∧Φ l'
theorem zOq(w:World)(g m cap:Nat)(cur:Array Value)(l:List Nat)(hg:w.heap[g]?=some (.cells cur 143 (0,0)))(hrow:qG m cap cur l)(hm:m≤1099511627776)(hcan:jC l)(c0:Nat)(hc:c0≤1):
    Calls Tryz.prog 116 #[.slice (some ⟨g,0,none⟩) m cap,.int .u32 (c0:Int)] w (Ret (·=g) w fun w1 v=>∃g' o',w1.heap[g']?=some o'∧(w.heap.size≤g'∨g'=g)∧qQh 143 (fun l'=>l'.length≤m+1∧jC l'∧val l'=2*val l+c0) g' o' v):=by
 refine zen Tryz.func116 ?_;have hX:∀k o,HG g k o→k<w.heap.size:=by rintro k o rfl;exact(Array.getElem?_eq_some_iff.1 hg).1
 have Z0:St (·=g) w (HG g) w (HG g) [(g,.cells cur 143 (0,0))]:=St.startE g _ hX hg (fun _=>rfl);have hlen:=hrow.len;refine zz 14<|zlp Tryz.f116 [] [1,0,1,0] (fun((j,c):Nat×Nat)=>[(0,.slice (some ⟨g,0,none⟩) m cap),(1,.int .u32 (c:Int)),(7,.slice (some ⟨g,0,none⟩) m cap),(8,.int .i64 (m:Int)),(9,.int .i64 (j:Int))]) (fun((j,c):Nat×Nat)w1=>∃(Y1:Hid)(P1:Array Value)(l1:List Nat),St (·=g) w (HG g) w1 Y1 [(g,.cells P1 143 (0,0))]∧Le (rd w (HG g)) (rd w1 Y1)∧(qG m cap P1 l1)∧(j≤l.length)∧(c≤1)∧(val l1+c*4294967296^j=(val l+c0)+val (l.take j))∧(∀t,j≤t→l1.getD t 0=l.getD t 0)) (fun((j,c):Nat×Nat)=>l.length-j) (0,c0) ?_ ?_
 ·
  refine⟨_,cur,l,Z0,Le.refl _,hrow,Nat.zero_le _,hc,by simp[val],fun _ _=>rfl⟩
 rintro⟨j,c⟩ w2 K2 hK2 ⟨Y2,P1,l1,Z2,G2,hp2_0,hp2_1,hp2_2,hp2_3,hp2_4⟩;have D1:=hp2_0;have hlen1:=D1.len;have hlt1:=hrow.getD_lt j;have J1:=hp2_2;have hpre:=hp2_4;refine zz 6<|zt 10 (p:=(j:Int)<(m:Int)) (fun F3=>?_) (fun F3=>?_)
 ·
  refine zz 8<|zi (b:=g) (off:=0) (len:=m) (cap:=cap) (kd:= .i64) (i:=(j:Int)) 1 j<|zl (ad:=⟨g,j,none⟩) (Z2.rowCells 0 rfl D1 (by have:=D1.len;(try simp only[List.length_set]at *);omega))<|zz 9<|zs 17 (v:= .int .u32 (IntKind.u32.wrap (((l1.getD j 0:Nat):Int)*2^1))) (v':= .int .u32 ((l.getD j 0*2 % 4294967296:Nat):Int)) (qA (by rw[kI,hpre j (Nat.le_refl _)];omega))<|zz 2<|zs 19 (v:= .int .u32 (nJ ((l.getD j 0*2 % 4294967296:Nat):Int) (c:Int))) (v':= .int .u32 ((l.getD j 0*2 % 4294967296+c:Nat):Int)) (qA (qIn _ _ J1))<|zz 2<|zs 21 (v:= .int .u32 (Int.fdiv (((l1.getD j 0:Nat):Int)) (2^31))) (v':= .int .u32 ((l.getD j 0 / 2147483648:Nat):Int)) (qA (by rw[vW _ 31 (c:=2147483648) (by decide) (by decide),hpre j (Nat.le_refl _)];omega)) ?_
  refine zi (b:=g) (off:=0) (len:=m) (cap:=cap) (kd:= .i64) (i:=(j:Int)) 1 j<|zop (at1 [K2] Tryz.f116 [1,0,1,0,0,1,1,0,0,1]) 9 (fun a4 _ hF4 hz4=>sW (y:=(l.getD j 0*2 % 4294967296+c)) (k:=j) (e:=((l.getD j 0*2 % 4294967296+c:Nat):Int)) 0 hF4 Z2 (by first | rfl | omega | (simp;omega)) rfl D1 (by have:=D1.len;(try simp only[List.length_set]at *);omega) (by omega) ?_)
  intro P5 w5 D5 Z5 G5;refine hz4 hF4<|zz 6<|zw 23 (x:=(j:Int)+1)<|zz 2 ?_;refine mP (fun a h=>hK2 ((j+1,l.getD j 0 / 2147483648)) _ a h ⟨_,P5,(l1.set j (l.getD j 0*2 % 4294967296+c)),Z5,(Le2 G2 G5),D5,by omega,by omega,qIy l l1 j c _ (by omega) (by omega) (hpre j (Nat.le_refl _)) hp2_3,fun t ht=>by rw[xF (by omega)];exact hpre t (by omega)⟩ ?_)
  first | omega | (simp<;>omega)
 have htot:val l1+c*4294967296^m=val l+c0+val l:=by have h9:=hp2_3;rwa[show j=l.length by omega,List.take_length,hlen]at h9
 refine zz 13<|zb 25 (b:=((c:Int)!=0)) (fun J6=>?_) (fun J6=>?_)
 ·
  have F7:(c:Int)≠0:=by simpa using J6
  have hcz:c=1:=by omega
  refine zz 4<|zn (fun b=> .slice (some ⟨b,0,none⟩) 1 1) (.cells #[.int .u32 (c:Int)] 143 (0,0)) Z2 fun b9 w9 Y9 Z9 G9 N9=>zop (at1 [K2] Tryz.f116 [1,1,0,1,0]) 3 (fun a10 _ hF10 hz10=>zHe (b:=4) (m:=1) (c:=1) (size:=1) (ad:=⟨b9,0,none⟩) (xs:=U32 l1) (news:=[.int .u32 (c:Int)]) (i0:=Tryz.t143) (cur:=P1) (nn:=m) (cap:=cap) (g:=g) (e:=143) 1 hF10 Z9 rfl D1.row (Z9.cells 0 rfl rfl) kr kr (by simp only[maxLen];omega) (by show(_+1)*4≤_;omega) ?_)
  intro g11 O11 P11 w11 Y11 D11 Z11 G11 a12 hF12;have hrw11:=qG.app D11 D1.lt (by omega:c<4294967296)
  refine hz10 hF12<|zz 10<|zr' (v:= .slice (some ⟨g11,0,none⟩) (m+1) O11) ?_;exact⟨Z11.upd,_,rfl,g11,_,Z11.get 1 rfl,Z11.own_or 1 rfl,_,_,(l1++[c]),rfl,by rw[List.length_append,hlen1];rfl,by rw[List.length_append,hlen1];exact hrw11,by simp only[List.length_append,List.length_singleton];omega,zIy (by omega),by rw[zId,hlen1];omega⟩
 have F13:(c:Int)=0:=by simpa using J6
 have hcz:c=0:=by omega
 refine zz 10<|zr' (v:= .slice (some ⟨g,0,none⟩) m cap) ?_;exact⟨Z2.upd,_,rfl,g,_,Z2.get 0 rfl,Z2.own_or 0 rfl,_,_,l1,rfl,by rw[hlen1],by rw[hlen1];exact D1,by omega,zOf D1.lt (fun h0=>by rw[hcz]at htot;have h8:=nK hcan (fun e=>by rw[e]at hlen;simp at hlen;omega);rw[hlen1];rw[hlen]at h8;omega),by rw[hcz]at htot;omega⟩
theorem zSd(w:World)(X:Hid)(hX:∀k o,X k o→k<w.heap.size)(c0:Nat)(hc:c0≤1):Calls Tryz.prog 116 #[.slice none 0 0,.int .u32 (c0:Int)] w (Ret E0 w fun w1 v=>∃l' ad' len' cap',aV 143 w w1 v l' ad' len' cap' c0∧l'.length≤1):=by
 refine zen Tryz.func116 ?_;have Z0:St E0 w X w X []:=St.start hX;refine zz 14<|zUc<|zz 19<|zb 25 (b:=((c0:Int)!=0)) (fun J2=>?_) (fun J2=>?_);have F3:(c0:Int)≠0:=by simpa using J2
 refine zz 4<|zn (fun b=> .slice (some ⟨b,0,none⟩) 1 1) (.cells #[.int .u32 (c0:Int)] 143 (0,0)) Z0 fun b5 w5 Y5 Z5 G5 N5=>zop (at1 [] Tryz.f116 [1,1,0,1,0]) 3 (fun a6 _ hF6 hz6=>zPy (b:=4) (m:=1) (c:=1) (size:=1) (ad:=⟨b5,0,none⟩) (news:=[.int .u32 (c0:Int)]) (i0:=Tryz.t143) (e:=143) hF6 Z5 (Z5.cells 0 rfl rfl) kr (by omega) (by simp only[maxLen];omega) (by show 1*4≤_;omega) ?_)
 intro g7 O7 P7 w7 Y7 D7 Z7 G7 a8 hF8;have hrw7:qG 1 O7 P7 [c0]:=qG.app (m:=0) (l:=[]) D7 (fun x hx=>by simp at hx) (by omega)
 refine hz6 hF8<|zz 10<|zr' (v:= .slice (some ⟨g7,0,none⟩) 1 O7) ?_;exact⟨Z7.upd,_,rfl,[c0],_,_,_,⟨⟨rfl,rfl,hrw7.lt,.inr ⟨_,_,rfl,Z7.own_ge 0 rfl,Z7.get 0 rfl,hrw7⟩⟩,zIy (l:=[]) (by omega),by simp[val]⟩,by simp⟩
 have F9:(c0:Int)=0:=by simpa using J2
 refine zz 10<|zr' (v:= .slice none 0 0) ?_;exact⟨Z0.upd,_,rfl,[],_,_,_,⟨⟨rfl,rfl,fun x hx=>by simp at hx,.inl ⟨rfl,rfl,rfl⟩⟩,.inl rfl,by simp[val];omega⟩,by simp⟩
set_option maxHeartbeats 1000000
theorem zRf(l:List Nat):val l % 2=l.getD 0 0 % 2:=by
 rcases l with _ | ⟨x,l⟩
 ·simp[val]
 ·simp only[val,List.getD_cons_zero];omega
theorem zIb{k m v V:Nat}(h:v*2^k=V)(hp:0<v)(hV:V<4294967296^m):k<V∧k<32*m:=by
 have h1:1*2^k≤v*2^k:=Nat.mul_le_mul_right _ hp;have h2:k<2^k:=Nat.lt_two_pow_self;refine⟨by omega,?_⟩
 have h3:(4294967296:Nat)^m=2^(32*m):=by rw[Nat.pow_mul]
 have h4:2^k<2^(32*m):=by omega
 exact(Nat.pow_lt_pow_iff_right (by omega:1<2)).1 h4
theorem zFa(w:World)(g m cap:Nat)(cur:Array Value)(l:List Nat)(hg:w.heap[g]?=some (.cells cur 143 (0,0)))(hrow:qG m cap cur l)(hm:m≤1099511627776)(hcan:jC l)(hpos:0<val l):
    Calls Tryz.prog 113 #[.slice (some ⟨g,0,none⟩) m cap] w (Ret (·=g) w fun w1 v=>∃k cur' l',v= .tuple #[.slice (some ⟨g,0,none⟩) l'.length cap,.int .i64 ((k:Nat):Int)]∧w1.heap[g]?=some (.cells cur' 143 (0,0))∧qG l'.length cap cur' l'∧jC l'∧val l'*2^k=val l∧val l' % 2=1):=by
 refine zMf (n:=37) (vs:=[.slice (some ⟨g,0,none⟩) m cap]) Tryz.func113 rfl rfl rfl kr (fun a0 hF0=>?_);have hF0:Fr 37 a0 [(0,.slice (some ⟨g,0,none⟩) m cap)]:=hF0;have hX:∀k o,HG g k o→k<w.heap.size:=by rintro k o rfl;exact(Array.getElem?_eq_some_iff.1 hg).1
 have Z0:St (·=g) w (HG g) w (HG g) [(g,.cells cur 143 (0,0))]:=St.startE g _ hX hg (fun _=>rfl);have hlen:=hrow.len;refine zG (fun K1 hK1=>?_);refine zC ?_;refine qX hF0 kr (mZ (d:=1) (fun b=> .pointer (some ⟨b,0,none⟩)) (.cells #[.slice (some ⟨g,0,none⟩) m cap] 26 (0,0)) hF0 kr Z0 kw ?_);intro b2 w2 Y2 Z2 G2 N2 a3 hF3;refine zD 2 [(3,.int .i64 0),(2,.slice none 0 0)] hF3 kr kr (fun a4 hF4=>?_);refine zH<|zA (hK1 _ _ ?_);refine zG (fun K5 hK5=>?_);refine zC<|zD 1 [(4,.int .i64 0)] hF4 kr kr (fun a6 hF6=>?_);refine zH<|zA (hK5 _ _ ?_);refine zG (fun K7 hK7=>?_);refine yY<|gK (fun(k:Nat)ac w1=>∃(Y1:Hid)(bs:List Nat)(m1:Nat)(P1:Array Value)(l1:List Nat),Fr 37 ac [(1,.pointer (some ⟨b2,0,none⟩)),(4,.int .i64 (k:Int))] (bs.map Go.Gv.mark)∧St (·=g) w (HG g) w1 Y1 ((b2,.cells #[.slice (some ⟨g,0,none⟩) m1 cap] 26 (0,0))::(g,.cells P1 143 (0,0))::xH bs)∧Le (rd w2 Y2) (rd w1 Y1)∧(qG m1 cap P1 l1)∧(jC l1)∧(val l1*2^k=val l)) (fun(k:Nat)=>val l-k) 0 ?_ ?_
 ·
  refine⟨_,[],m,cur,l,hF6.as [1,4] kr kr,Z2,Le.refl _,hrow,hcan,by simp⟩
 rintro k a8 w8 ⟨Y8,bs,m1,P1,l1,hF8,Z8,G8,hp8_0,hp8_1,hp8_2⟩;have D1:=hp8_0;have hlen1:=D1.len;have hcan1:=hp8_1;have hval1:=hp8_2;have hp1:0<val l1:=Nat.pos_of_ne_zero (fun e=>by rw[e]at hval1;omega)
 obtain⟨hkv,hkm⟩:=zIb hval1 hp1 (sD hrow.lt);rw[hlen]at hkm;have hm0:0<m1:=by rcases Nat.eq_zero_or_pos m1 with e | e;rw[List.eq_nil_of_length_eq_zero (hlen1.trans e)]at hp1;simp[val]at hp1;exact e
 have hm1:m1≤m:=by have:=jE hrow.lt hcan1 (by have:=Nat.le_mul_of_pos_right (val l1) (Nat.two_pow_pos k);omega);omega
 have hlt0:=D1.getD_lt 0;refine zG (fun K9 hK9=>?_);refine zG (fun K10 hK10=>?_);refine zC ?_;refine qX hF8 kr (zF (d:=8) (v:= .slice (some ⟨g,0,none⟩) m1 cap) hF8 kr (zB (t:=26) (g:=false) (vs:=[.slice (some ⟨g,0,none⟩) m1 cap]) (ad:=⟨b2,0,none⟩) rfl kr kr ir (Z8.cells 0 rfl rfl)) ?_);intro a11 hF11;refine zD 2 [(10,.bool (decide ((m1:Int)>0))),(9,.int .i64 (m1:Int))] hF11 kr kr (fun a12 hF12=>?_);have hF13:=hF12.set 10 (v':= .bool true) kr rfl (zK (decide_eq_true (by omega)))
 refine zD 1 [(11,.bool true)] hF13 kr kr (fun a14 hF14=>?_);refine qX hF14 kr (zF (d:=12) (v:= .slice (some ⟨g,0,none⟩) m1 cap) hF14 kr (zB (t:=26) (g:=false) (vs:=[.slice (some ⟨g,0,none⟩) m1 cap]) (ad:=⟨b2,0,none⟩) rfl kr kr ir (Z8.cells 0 rfl rfl)) ?_);intro a15 hF15;refine qX hF15 kr (zF (d:=13) (v:= .pointer (some ⟨g,0,none⟩)) hF15 kr (jH (t:=26) (e:=143) (b:=g) (off:=0) (len:=m1) (cap:=cap) (kd:= .i64) (i:=0) (g:=false) (m:=1) (off':=0) rfl kr kr kr kr (by omega) (by omega) kr _) ?_)
 intro a16 hF16;refine qX hF16 kr (zF (d:=14) (v:= .int .u32 ((l1.getD 0 0:Nat):Int)) hF16 kr (zB (t:=143) (g:=false) (vs:=[.int .u32 ((l1.getD 0 0:Nat):Int)]) (ad:=⟨g,0,none⟩) rfl kr kr ir (Z8.rowCells 1 rfl D1 (by have:=D1.len;(try simp only[List.length_set]at *);omega))) ?_)
 intro a17 hF17;refine zD 1 [(15,.int .u32 (wK ((l1.getD 0 0:Nat):Int) 1))] hF17 kr kr (fun a18 hF18=>?_);have hF19:=hF18.set 15 (v':= .int .u32 ((l1.getD 0 0 % 2:Nat):Int)) kr rfl (qA (zOb _ hlt0));refine zD 2 [(17,.bool (((l1.getD 0 0 % 2:Nat):Int)==0)),(16,.bool (((l1.getD 0 0 % 2:Nat):Int)==0))] hF19 kr kr (fun a20 hF20=>?_);refine zH<|zA (hK10 _ _ ?_);refine pK (((l1.getD 0 0 % 2:Nat):Int)==0) hF20 kr kr (fun J21=>?_) (fun J21=>?_)
 ·
  have hF22:=hF20.set 17 (v':= .bool true) kr rfl (zK J21);have F23:((l1.getD 0 0 % 2:Nat):Int)=0:=by simpa using J21
  have heven:val l1 % 2=0:=by rw[zRf];omega
  refine wM<|zA (hK9 _ _ ?_);refine yY<|zG (fun K24 hK24=>?_);refine zC ?_;refine qX hF22 kr (mZ (d:=5) (fun b=> .pointer (some ⟨b,0,none⟩)) (.cells #[.int .u32 0] 143 (0,0)) hF22 kr Z8 kw ?_);intro b25 w25 Y25 Z25 G25 N25 a26 hF26;refine qX hF26 kr (zE (t:=143) (b:=b25) (off:=0) (c':=#[.int .u32 0]) (g:=false) (m:=1) 0 _ hF26 kr Z25 rfl kr rfl kr kr kr rfl (by first | decide | (simp;done)) kr rfl ?_)
  intro w27 Z27 G27;refine zH<|zA (hK24 _ _ ?_);refine zG (fun K28 hK28=>?_);refine zG (fun K29 hK29=>?_);refine zC ?_;refine qX hF26 kr (zF (d:=18) (v:= .slice (some ⟨g,0,none⟩) m1 cap) hF26 kr (zB (t:=26) (g:=false) (vs:=[.slice (some ⟨g,0,none⟩) m1 cap]) (ad:=⟨b2,0,none⟩) rfl kr kr ir (Z27.cells 1 rfl rfl)) ?_);intro a30 hF30;refine qX hF30 kr (kC (d:=19) (f:=145) (cap:=#[]) (vs:=#[.slice (some ⟨g,0,none⟩) m1 cap]) hF30 kr Z27 rfl kr kr (fun w=>Tryz.call145 _ w) (zFs _ _ Z27.lt (some ⟨g,0,none⟩) m1 cap) ?_);rintro v31 w31 Z31 G31 N31 ⟨bx31,rfl,hge31,hget31⟩ a32 hF32;have Z33:=St.adopt Z31 (fun o h=>Nat.not_lt.2 hge31 (Z27.lt _ _ h)) (Nat.le_trans Z27.upd.size hge31) hget31;have G33:=Le.adopt G31 hge31;refine zH<|zA (hK29 _ _ ?_);refine yY<|zGi (f:=160) (caps:=#[.pointer (some ⟨bx31,0,none⟩)]) hF32 Z33 kr kr (fun args w=>Tryz.call160 args w) fun rec34 l34 b34 w34 Y34 hr34 Z34 G34 N34=>?_;have hF35:=zCw b34 hF32;refine zEd l34 bx31 (some ⟨g,0,none⟩) m1 cap l1 hlen1.symm (by omega) (fun k1 w'=>∃(Y':Hid)(P2:Array Value)(l2:List Nat)(r:Nat),St (·=g) w (HG g) w' Y' ((l34,.loop rec34)::(b34,.deferred (some []))::(bx31,.cells #[.slice (some ⟨g,0,none⟩) m1 cap] 26 (0,0))::(b25,.cells #[.int .u32 ((r*2147483648:Nat):Int)] 143 (0,0))::(b2,.cells #[.slice (some ⟨g,0,none⟩) m1 cap] 26 (0,0))::(g,.cells P2 143 (0,0))::xH bs)∧Le (rd w34 Y34) (rd w' Y')∧(qG m1 cap P2 l2)∧(r≤1)∧(2*val l2+r*4294967296^k1=val l1+val (l1.take k1))∧(∀i,i<k1→l2.getD i 0=l1.getD i 0)) _ ?_ ?_ ?_ ?_ _ ?_
  ·
   rintro k1 w36 ⟨Y36,P2,l2,r,Z36,G36,hp36_0,hp36_1,hp36_2,hp36_3⟩;exact Z36.at0 2 rfl rfl
  ·
   rintro k1 w37 ⟨Y37,P2,l2,r,Z37,G37,hp37_0,hp37_1,hp37_2,hp37_3⟩;intro hk;refine⟨g,0,rfl,?_⟩;rw[←hp37_3 k1 (by omega)]
   exact qG.cellX0 hp37_0 (Z37.get 5 rfl) (by have:=(hp37_0).len;omega)
  ·
   intro k1 w38 hk;rintro⟨Y38,P2,l2,r,Z38,G38,hp38_0,hp38_1,hp38_2,hp38_3⟩;refine zIj (p:=20) (q:=21) hr34 hF32 Z38 kr kr (fun a39 hF39=>?_);have D2:=hp38_0;have hlen2:=D2.len;have hr1:=hp38_1;have hv2:=hp38_2;have heq2:=hp38_3;have hltk:=D1.getD_lt k1;refine zG (fun K40 hK40=>?_);refine zC<|zD 1 [(6,.int .i64 (k1:Int))] hF39 kr kr (fun a41 hF41=>?_);refine zH<|zA (hK40 _ _ ?_);refine zC<|zD 1 [(7,.int .u32 ((l1.getD k1 0:Nat):Int))] hF41 kr kr (fun a42 hF42=>?_);refine zH<|zA<|zCl hr34 Z38 (fun w43 Z43 G43=>?_);refine yY<|zC ?_;refine qX hF42 kr (zF (d:=22) (v:= .slice (some ⟨g,0,none⟩) m1 cap) hF42 kr (zB (t:=26) (g:=false) (vs:=[.slice (some ⟨g,0,none⟩) m1 cap]) (ad:=⟨b2,0,none⟩) rfl kr kr ir (Z43.cells 4 rfl rfl)) ?_);intro a44 hF44;refine zD 3 [(25,.int .u32 (Int.fdiv (((l1.getD k1 0:Nat):Int)) (2^1))),(24,.int .u32 ((l1.getD k1 0:Nat):Int)),(23,.int .i64 (k1:Int))] hF44 kr kr (fun a45 hF45=>?_);have hF46:=hF45.set 25 (v':= .int .u32 ((l1.getD k1 0 / 2:Nat):Int)) kr rfl (qA (by rw[vW _ 1 (c:=2) (by decide) (by decide)];omega))
   refine qX hF46 kr (zF (d:=26) (v:= .int .u32 ((r*2147483648:Nat):Int)) hF46 kr (zB (t:=143) (g:=false) (vs:=[.int .u32 ((r*2147483648:Nat):Int)]) (ad:=⟨b25,0,none⟩) rfl kr kr ir (Z43.cells 3 rfl rfl)) ?_);intro a47 hF47;refine zD 1 [(27,.int .u32 (nJ ((l1.getD k1 0 / 2:Nat):Int) ((r*2147483648:Nat):Int)))] hF47 kr kr (fun a48 hF48=>?_);have hF49:=hF48.set 27 (v':= .int .u32 ((l1.getD k1 0 / 2+r*2147483648:Nat):Int)) kr rfl (qA (qIo _ _ (by omega) hr1))
   refine zD 2 [(29,.int .u32 (IntKind.u32.wrap (((l1.getD k1 0:Nat):Int)*2^31))),(28,.int .u32 ((l1.getD k1 0:Nat):Int))] hF49 kr kr (fun a50 hF50=>?_);have hF51:=hF50.set 29 (v':= .int .u32 ((l1.getD k1 0 % 2*2147483648:Nat):Int)) kr rfl (qA (by rw[kI];omega))
   refine qX hF51 kr (zF (d:=30) (v:= .pointer (some ⟨g,k1,none⟩)) hF51 kr (jH (t:=26) (e:=143) (b:=g) (off:=0) (len:=m1) (cap:=cap) (kd:= .i64) (i:=(k1:Int)) (g:=false) (m:=1) (off':=k1) rfl kr kr kr kr (by omega) (by omega) (by first | rfl | omega | (simp;done) | (simp;omega)) _) ?_)
   intro a52 hF52;refine qX hF52 kr (mF (t:=143) (y:=(l1.getD k1 0 / 2+r*2147483648)) (k:=k1) (e:=((l1.getD k1 0 / 2+r*2147483648:Nat):Int)) 5 hF52 kr Z43 rfl rfl rfl (by first | rfl | omega | (simp;omega)) kr rfl D2 (by have:=D2.len;(try simp only[List.length_set]at *);omega) (by omega) ?_)
   intro P53 w53 D53 Z53 G53;refine qX hF52 kr (zE (t:=143) (b:=b25) (off:=0) (c':=#[.int .u32 ((l1.getD k1 0 % 2*2147483648:Nat):Int)]) (g:=false) (m:=1) 3 _ hF52 kr Z53 rfl kr rfl kr kr kr rfl (by first | decide | (simp;done)) kr rfl ?_)
   intro w54 Z54 G54;refine zH ?_;refine yR ?_;refine lJ hr34 Z54 (fun w55 Z55 G55=>xR.next ?_);exact⟨_,P53,(l2.set k1 (l1.getD k1 0 / 2+r*2147483648)),l1.getD k1 0 % 2,Z55,(Le5 G38 G43 G53 G54 G55),D53,by omega,qJt l1 l2 k1 r (by omega) (by omega) (heq2 k1 (by omega)) hv2,fun i hi=>by rw[xF (by omega)];exact heq2 i (by omega)⟩
  ·
   rintro w56 ⟨Y56,P2,l2,r,Z56,G56,hp56_0,hp56_1,hp56_2,hp56_3⟩;refine vM.norm hr34 Z56 (fun w57 Z57 G57=>?_);have D2:=hp56_0;have hlen2:=D2.len;have hhalf:val l2*2=val l1:=by have h9:=hp56_2;have h8:=hp56_1;rw[List.take_zero]at h9;simp only[val,Nat.pow_zero]at h9;omega
   refine yR<|zA (hK28 _ _ ?_);refine zG (fun K58 hK58=>?_);refine zC ?_;refine qX hF35 kr (zF (d:=31) (v:= .slice (some ⟨g,0,none⟩) m1 cap) hF35 kr (zB (t:=26) (g:=false) (vs:=[.slice (some ⟨g,0,none⟩) m1 cap]) (ad:=⟨b2,0,none⟩) rfl kr kr ir (Z57.cells 4 rfl rfl)) ?_);intro a59 hF59;refine qX hF59 kr (kC (d:=32) (f:=119) (cap:=#[]) (vs:=#[.slice (some ⟨g,0,none⟩) m1 cap]) hF59 kr Z57 rfl kr kr (fun w=>Tryz.call119 _ w) (aT _ X0 (qV _) _ _ _ l2 (qG.limbs (Y:=X0) D2 (Z57.get 5 rfl) (fun _ h=>h.elim))) ?_);rintro v60 w60 Z60 G60 N60 rfl a61 hF61;have hrt:=D2.trimmed;refine qX hF61 kr (zE (t:=26) (b:=b2) (off:=0) (c':=#[.slice (some ⟨g,0,none⟩) (jP l2) cap]) (g:=false) (m:=1) 4 _ hF61 kr Z60 rfl kr rfl kr kr kr rfl (by first | decide | (simp;done)) kr rfl ?_)
   intro w62 Z62 G62;refine zH<|zA (hK58 _ _ ?_);refine zC<|zD 2 [(34,.int .i64 (i64.wrap ((k:Int)+1))),(33,.int .i64 (k:Int))] hF61 kr kr (fun a63 hF63=>?_);have hF64:=hF63.set 34 (v':= .int .i64 ((k+1:Nat):Int)) kr rfl (qA (zUa (by omega) (by omega)))
   refine zD 1 [(4,.int .i64 ((k+1:Nat):Int))] hF64 kr kr (fun a65 hF65=>?_);refine zH ?_;refine yR<|zA ?_;refine⟨k+1,⟨_,(_::bs),jP l2,P2,(Go.Gv.trimmed l2),hF65.as [1,4] kr kr,(St.mid [(b2,.cells #[.slice (some ⟨g,0,none⟩) (jP l2) cap] 26 (0,0)),(g,.cells P2 143 (0,0))] Z62.tail.swap.tail.swap.tail),(Le9 G8 G25 G27 G33 G34 G56 G57 G60 G62),hrt,yS _,by rw[xJ,Nat.pow_succ,←hval1,←hhalf];ac_rfl⟩,?_⟩
   first | omega | (simp;omega)
  ·
   exact⟨_,P1,l1,0,Z34,Le.refl _,D1,by omega,by rw[←hlen1,List.take_length];omega,fun _ _=>rfl⟩
 have hF66:=hF20.set 17 (v':= .bool false) kr rfl (zK J21);have F67:((l1.getD 0 0 % 2:Nat):Int)≠0:=by simpa using J21
 have hodd:val l1 % 2=1:=by rw[zRf];omega
 refine bV ?_;refine sP ?_;refine sP ?_;refine nH<|zA (hK7 _ _ ?_);refine zG (fun K68 hK68=>?_);refine zC ?_;refine qX hF66 kr (zF (d:=35) (v:= .slice (some ⟨g,0,none⟩) m1 cap) hF66 kr (zB (t:=26) (g:=false) (vs:=[.slice (some ⟨g,0,none⟩) m1 cap]) (ad:=⟨b2,0,none⟩) rfl kr kr ir (Z8.cells 0 rfl rfl)) ?_);intro a69 hF69;refine zD 3 [(3,.int .i64 (k:Int)),(2,.slice (some ⟨g,0,none⟩) m1 cap),(36,.int .i64 (k:Int))] hF69 kr kr (fun a70 hF70=>?_);refine zH<|zA (hK68 _ _ ?_);refine nS ?_;refine qXz (bs:=bs) (N:=[(b2,.cells #[.slice (some ⟨g,0,none⟩) m1 cap] 26 (0,0)),(g,.cells P1 143 (0,0))]) (v:= .tuple #[.slice (some ⟨g,0,none⟩) m1 cap,.int .i64 (k:Int)]) (rs:=[.tmp 2,.tmp 3]) (vs:=[.slice (some ⟨g,0,none⟩) m1 cap,.int .i64 (k:Int)]) hF70 Z8 kr kr (fun w71 Z71 G71=>?_);refine⟨(Res.tmp kr (Res.tmp kr Res.nil)),?_⟩;exact⟨Z71.upd,_,rfl,k,P1,l1,by rw[hlen1],Z71.get 1 rfl,by rw[hlen1];exact D1,hcan1,hval1,hodd⟩
set_option maxHeartbeats 1000000
theorem qIs{x y:Nat}(h:qU (x:Int) (y:Int)= -1):x<y:=by unfold qU at h;(repeat' split at h)<;>omega
theorem qRd{x y:Nat}(h:qU (x:Int) (y:Int)≠0)(h2:qU (x:Int) (y:Int)≠ -1):y<x:=by unfold qU at h h2;(repeat' split at h)<;>(repeat' split at h2)<;>omega
theorem jBf(w:World)(X:Hid)(hX:∀k o,X k o→k<w.heap.size)(ad:Option Addr)(len cap:Nat)(l:List Nat)(h:zT (rd w X) ad len cap l)(ad2:Option Addr)(len2 O2:Nat)(l2:List Nat)(h2:zT (rd w X) ad2 len2 O2 l2):Calls Tryz.prog 72 #[.slice ad len cap,.slice ad2 len2 O2] w (Ret E0 w fun w' v=>zEq 143 w w' (xE l l2) (Nat.gcd (val l) (val l2)) v):=by
 obtain rfl:=h.hlen;obtain rfl:=h2.hlen;have hcap:=h.hcap;have hbig:=h.hbig;have hcap2:=h2.hcap;have hbig2:=h2.hbig;refine zen Tryz.func72 ?_;have Z0:St E0 w X w X []:=St.start hX;refine zz 12<|zc Z0 (aX _ X0 (qV _) _ _ _ l (h.mono Le.x0) _ _ _ l2 (h2.mono Le.x0)) ?_;rintro v3 w3 Z3 G3 N3 rfl;refine zz 9<|zb 13 (b:=((xE l l2)!=0)) (fun J4=>?_) (fun J4=>?_);have F5:(xE l l2)≠0:=by simpa using J4
 refine zz 11<|zr' (v:= .tuple #[.slice none 0 0,.int .i64 (xE l l2)]) ?_;exact⟨Z3.upd,_,rfl,.inl ⟨F5,rfl⟩⟩;have F6:(xE l l2)=0:=by simpa using J4
 obtain⟨⟨hl1,c1⟩,hl2,c2⟩:=zAb F6;refine zz 6<|zc Z3 (zAc _ X0 (qV _) _ _ _ l ((h.mono G3).mono Le.x0) (by omega)) ?_
 rintro v8 w8 Z8 G8 N8 ⟨ad8,zEu,O8,how8⟩;rcases how8 with⟨rfl,hlen8,hlt8,⟨rfl,rfl,rfl⟩ | ⟨g8,P8,rfl,hge8,hget8,D8⟩⟩
 have hnil8:l=[]:=List.eq_nil_of_length_eq_zero hlen8.symm;have hzA:val l=0:=by rw[hnil8];rfl
 refine zz 1<|zc Z8 (zAc _ X0 (qV _) _ _ _ l2 ((h2.mono (Le2 G3 G8)).mono Le.x0) (by omega)) ?_
 rintro v11 w11 Z11 G11 N11 ⟨ad11,len11,O11,how11⟩;rcases how11 with⟨rfl,hlen11,hlt11,⟨rfl,rfl,rfl⟩ | ⟨g11,P11,rfl,hge11,hget11,D11⟩⟩
 have hnil11:l2=[]:=List.eq_nil_of_length_eq_zero hlen11.symm;have hzB:val l2=0:=by rw[hnil11];rfl
 refine zz 23<|zr' (v:= .tuple #[.slice none 0 0,.int .i64 0]) ?_;exact⟨Z11.upd,_,rfl,.inr ⟨F6,_,[],_,_,_,rfl,⟨⟨rfl,rfl,fun x hx=>by simp at hx,.inl ⟨rfl,rfl,rfl⟩⟩,.inl rfl,by rw[hzA,hzB];rfl⟩,by simp⟩⟩
 subst hlen11;have Z12:=St.adopt Z11 (fun o h=>Nat.not_lt.2 hge11 (Z8.lt _ _ h)) (Nat.le_trans Z8.upd.size hge11) hget11;have G12:=Le.adopt G11 hge11;refine zz 23<|zr' (v:= .tuple #[.slice (some ⟨g11,0,none⟩) l2.length O11,.int .i64 0]) ?_;exact⟨Z12.upd,_,rfl,.inr ⟨F6,_,l2,_,_,_,rfl,⟨⟨rfl,rfl,D11.lt,.inr ⟨_,_,rfl,Z12.own_ge 0 rfl,Z12.get 0 rfl,D11⟩⟩,c2,by rw[hzA,Nat.gcd_zero_left]⟩,hl2⟩⟩
 subst hlen8;have Z9:=St.adopt Z8 (fun o h=>Nat.not_lt.2 hge8 (Z3.lt _ _ h)) (Nat.le_trans Z3.upd.size hge8) hget8;have G9:=Le.adopt G8 hge8;refine zz 1<|zc Z9 (zAc _ X0 (qV _) _ _ _ l2 ((h2.mono (Le2 G3 G9)).mono Le.x0) (by omega)) ?_
 rintro v14 w14 Z14 G14 N14 ⟨ad14,len14,O14,how14⟩;rcases how14 with⟨rfl,hlen14,hlt14,⟨rfl,rfl,rfl⟩ | ⟨g14,P14,rfl,hge14,hget14,D14⟩⟩
 have hnil14:l2=[]:=List.eq_nil_of_length_eq_zero hlen14.symm;have hzB:val l2=0:=by rw[hnil14];rfl
 refine zz 12<|zb 21 (b:=((l.length:Int)==0)) (fun J16=>?_) (fun J16=>?_);have F17:(l.length:Int)=0:=by simpa using J16
 have hzA:val l=0:=by rw[List.eq_nil_of_length_eq_zero (by omega:l.length=0)];rfl
 refine zz 11<|zr' (v:= .tuple #[.slice none 0 0,.int .i64 0]) ?_;exact⟨Z14.upd,_,rfl,.inr ⟨F6,_,[],_,_,_,rfl,⟨⟨rfl,rfl,fun x hx=>by simp at hx,.inl ⟨rfl,rfl,rfl⟩⟩,.inl rfl,by rw[hzA,hzB];rfl⟩,by simp⟩⟩
 have F18:(l.length:Int)≠0:=by simpa using J16
 have hposA:0<val l:=nL c1 (by rintro rfl;simp at F18)
 refine zz 22<|zr' (v:= .tuple #[.slice (some ⟨g8,0,none⟩) l.length O8,.int .i64 0]) ?_;exact⟨Z14.upd,_,rfl,.inr ⟨F6,_,l,_,_,_,rfl,⟨⟨rfl,rfl,D8.lt,.inr ⟨_,_,rfl,Z14.own_ge 0 rfl,Z14.get 0 rfl,D8⟩⟩,c1,by rw[hzB,Nat.gcd_zero_right]⟩,hl1⟩⟩
 subst hlen14;have Z15:=St.adopt Z14 (fun o h=>Nat.not_lt.2 hge14 (Z9.lt _ _ h)) (Nat.le_trans Z9.upd.size hge14) hget14;have G15:=Le.adopt G14 hge14;refine zz 12<|zb 21 (b:=((l.length:Int)==0)) (fun J19=>?_) (fun J19=>?_);have F20:(l.length:Int)=0:=by simpa using J19
 have hzA:val l=0:=by rw[List.eq_nil_of_length_eq_zero (by omega:l.length=0)];rfl
 refine zz 11<|zr' (v:= .tuple #[.slice (some ⟨g14,0,none⟩) l2.length O14,.int .i64 0]) ?_;exact⟨Z15.upd,_,rfl,.inr ⟨F6,_,l2,_,_,_,rfl,⟨⟨rfl,rfl,D14.lt,.inr ⟨_,_,rfl,Z15.own_ge 0 rfl,Z15.get 0 rfl,D14⟩⟩,c2,by rw[hzA,Nat.gcd_zero_left]⟩,hl2⟩⟩
 have F21:(l.length:Int)≠0:=by simpa using J19
 have hposA:0<val l:=nL c1 (by rintro rfl;simp at F21)
 refine zz 11<|zb 25 (b:=((l2.length:Int)==0)) (fun J22=>?_) (fun J22=>?_);have F23:(l2.length:Int)=0:=by simpa using J22
 have hzB:val l2=0:=by rw[List.eq_nil_of_length_eq_zero (by omega:l2.length=0)];rfl
 refine zz 11<|zr' (v:= .tuple #[.slice (some ⟨g8,0,none⟩) l.length O8,.int .i64 0]) ?_;exact⟨Z15.upd,_,rfl,.inr ⟨F6,_,l,_,_,_,rfl,⟨⟨rfl,rfl,D8.lt,.inr ⟨_,_,rfl,Z15.own_ge 1 rfl,Z15.get 1 rfl,D8⟩⟩,c1,by rw[hzB,Nat.gcd_zero_right]⟩,hl1⟩⟩
 have F24:(l2.length:Int)≠0:=by simpa using J22
 have hposB:0<val l2:=nL c2 (by rintro rfl;simp at F24)
 refine zz 6<|zcE 1 Z15 rfl (zFa _ g8 l.length O8 _ l (Z15.get 1 rfl) D8 (by omega) c1 hposA) ?_
 rintro v26 w26 ob26 ⟨k26,P26,ls26,rfl,hg26,D26,hcan26,hval26,hodd26⟩ hob26 Z26 G26;obtain rfl:=Option.some.inj (hob26.symm.trans hg26);refine zz 10<|zcE 0 Z26 rfl (zFa _ g14 l2.length O14 _ l2 (Z26.get 0 rfl) D14 (by omega) c2 hposB) ?_
 rintro v28 w28 ob28 ⟨k28,P28,ls28,rfl,hg28,D28,hcan28,hval28,hodd28⟩ hob28 Z28 G28;obtain rfl:=Option.some.inj (hob28.symm.trans hg28);refine zz 12<|zlp Tryz.f72 [] [1,0,1,1,1,1,1,1,1,0,0] (fun((N,gx,gy,capx,capy,lx,ly):Nat×Nat×Nat×Nat×Nat×(List Nat)×(List Nat))=>[(0,.slice (some ⟨gx,0,none⟩) lx.length capx),(1,.slice (some ⟨gy,0,none⟩) ly.length capy),(7,.int .i64 ((k26:Nat):Int)),(8,.int .i64 ((k28:Nat):Int))]) (fun((N,gx,gy,capx,capy,lx,ly):Nat×Nat×Nat×Nat×Nat×(List Nat)×(List Nat))w1=>∃(Y1:Hid)(curx:Array Value)(cury:Array Value),St E0 w X w1 Y1 [(gy,.cells cury 143 (0,0)),(gx,.cells curx 143 (0,0))]∧Le (rd w28 (zAo g14 (zAo g8 X))) (rd w1 Y1)∧(qG lx.length capx curx lx)∧(qG ly.length capy cury ly)∧(jC lx)∧(jC ly)∧(val lx % 2=1)∧(val ly % 2=1)∧(Nat.gcd (val lx) (val ly)=Nat.gcd (val ls26) (val ls28))∧(val lx+val ly=N)∧(lx.length≤512)∧(ly.length≤512)) (fun((N,gx,gy,capx,capy,lx,ly):Nat×Nat×Nat×Nat×Nat×(List Nat)×(List Nat))=>N) ((val ls26+val ls28),g8,g14,O8,O14,ls26,ls28) ?_ ?_;refine⟨_,P26,P28,Z28,Le.refl _,D26,D28,hcan26,hcan28,hodd26,hodd28,rfl,rfl,Nat.le_trans (jE h.hlt hcan26 (by have:=Nat.le_mul_of_pos_right (val ls26) (Nat.two_pow_pos k26);omega)) hl1,Nat.le_trans (jE h2.hlt hcan28 (by have:=Nat.le_mul_of_pos_right (val ls28) (Nat.two_pow_pos k28);omega)) hl2⟩
 rintro⟨N,gx,gy,capx,capy,lx,ly⟩ w29 K29 hK29 ⟨Y29,curx,cury,Z29,G29,hp29_0,hp29_1,hp29_2,hp29_3,hp29_4,hp29_5,hp29_6,hp29_7,hp29_8,hp29_9⟩;have hrowx:=hp29_0;have hrowy:=hp29_1;have hcanx:=hp29_2;have hcany:=hp29_3;have hoddx:=hp29_4;have hoddy:=hp29_5;have hg0:=hp29_6;have hN:=hp29_7;have hlx:=hp29_8;have hly:=hp29_9;refine zz 6<|zc Z29 (zBp _ X0 (qV _) _ _ _ lx (qG.limbs (Y:=X0) hrowx (Z29.get 1 rfl) (fun _ h=>h.elim)) _ _ _ ly (qG.limbs (Y:=X0) hrowy (Z29.get 0 rfl) (fun _ h=>h.elim)) hcanx hcany (by omega)) ?_ (vs:=#[.slice (some ⟨gx,0,none⟩) lx.length capx,.slice (some ⟨gy,0,none⟩) ly.length capy])
 rintro v31 w31 Z31 G31 N31 rfl;refine zz 9<|zb 40 (b:=((qU (val lx) (val ly))==0)) (fun J32=>?_) (fun J32=>?_);have F33:(qU (val lx) (val ly))=0:=by simpa using J32
 have hxy:=lX F33;refine zz 14<|zs 56 (v:= .int .i64 (if((k28:Nat):Int)<((k26:Nat):Int)then((k28:Nat):Int)else((k26:Nat):Int))) (v':= .int .i64 ((min k26 k28:Nat):Int)) (qA (by split<;>omega))<|zz 4 ?_
 have hgab:=qDd hodd26 hodd28 hval26 hval28;rw[←hg0,←hxy,Nat.gcd_self]at hgab;have hgle:Nat.gcd (val l) (val l2)≤val l:=Nat.gcd_le_left _ hposA;refine zlp Tryz.f72 [K29] [1,0,1,1,1,1,1,1,1,1,0,1,0] (fun((i,gd,capd,ld):Nat×Nat×Nat×(List Nat))=>[(0,.slice (some ⟨gd,0,none⟩) ld.length capd),(56,.int .i64 ((min k26 k28:Nat):Int)),(57,.int .i64 (i:Int))]) (fun(i,gd,capd,ld)w1=>∃(Y1:Hid)(curd:Array Value),St E0 w X w1 Y1 [(gd,.cells curd 143 (0,0))]∧Le (rd w31 Y29) (rd w1 Y1)∧(qG ld.length capd curd ld)∧(jC ld)∧(val ld=val lx*2^i)∧(i≤min k26 k28)) (fun(i,gd,capd,ld)=>min k26 k28-i) (0,gx,capx,lx) ?_ ?_;refine⟨_,curx,Z31.tail,Le.refl _,hrowx,hcanx,by simp,Nat.zero_le _⟩
 rintro⟨i,gd,capd,ld⟩ w34 K34 hK34 ⟨Y34,curd,Z34,G34,hp34_0,hp34_1,hp34_2,hp34_3⟩;have hrowd:=hp34_0;have hcand:=hp34_1;have hvald:=hp34_2;have hik:=hp34_3;have hb1:val lx*2^i≤val lx*2^(min k26 k28):=Nat.mul_le_mul_left _ (Nat.pow_le_pow_right (by omega) hik)
 have hb2:=jE h.hlt hcand (by omega:val ld≤val l)
 have hb3:0<ld.length:=by rcases Nat.eq_zero_or_pos ld.length with e | e;rw[List.eq_nil_of_length_eq_zero e]at hvald;have:=Nat.mul_pos (by omega:0<val lx) (Nat.two_pow_pos i);simp only[val]at hvald;omega;exact e
 obtain⟨_,hkb⟩:=zIb hval26 (by omega) (sD h.hlt)
 refine zz 6<|zt 58 (p:=(i:Int)<((min k26 k28:Nat):Int)) (fun F35=>?_) (fun F35=>?_);refine zz 7<|zop (at1 [K29,K34] Tryz.f72 [1,0,1,1,1,1,1,1,1,1,0,1,0,0,1,1,0,0]) 1 (fun a36 _ hF36 hz36=>zYn 0 hF36 Z34 rfl (zOq _ gd ld.length capd _ ld (Z34.get 0 rfl) hrowd (by omega) hcand 0 (by omega)) ?_)
 rintro v37 w37 Y37 g37 o37 ⟨P37,O37,ls37,rfl,rfl,D37,hlen37,hcan37,hval37⟩ Z37 G37 a38 hF38;refine hz36 hF38<|zz 6<|zw 61 (x:=(i:Int)+1)<|zz 2 ?_;refine mP (fun a h=>hK34 ((i+1,g37,O37,ls37)) _ a h ⟨_,P37,Z37,(Le2 G34 G37),D37,hcan37,by rw[hval37,hvald,Nat.pow_succ];simp only[Nat.add_zero];ac_rfl,by omega⟩ ?_)
 first | omega | (simp<;>omega)
 refine zz 15<|zr' (v:= .tuple #[.slice (some ⟨gd,0,none⟩) ld.length capd,.int .i64 0]) ?_;exact⟨Z34.upd,_,rfl,.inr ⟨F6,_,ld,_,_,_,rfl,⟨⟨rfl,rfl,hrowd.lt,.inr ⟨_,_,rfl,Z34.own_ge 0 rfl,Z34.get 0 rfl,hrowd⟩⟩,hcand,by rw[hvald,←hgab];congr 2;omega⟩,by omega⟩⟩
 have F39:(qU (val lx) (val ly))≠0:=by simpa using J32
 refine zz 7<|zb 42 (b:=((qU (val lx) (val ly))==(-1))) (fun J40=>?_) (fun J40=>?_);have F41:(qU (val lx) (val ly))=(-1):=by simpa using J40
 have hcmp:=qIs F41;refine zz 13<|zcE 0 Z31 rfl (rG _ gy ly.length capy _ ly (Z31.get 0 rfl) hrowy (by omega) _ _ _ lx (qG.limbs (Y:=HG gy) hrowx (Z31.get 1 rfl) (fun o h=>Z31.ne (i:=1) (j:=0) rfl rfl (by decide) h)) (jE hrowy.lt hcanx (by omega)) (by omega)) ?_ (vs:=#[.slice (some ⟨gy,0,none⟩) ly.length capy,.slice (some ⟨gx,0,none⟩) lx.length capx])
 rintro v43 w43 ob43 ⟨P43,ls43,rfl,hg43,D43,hcan43,hval43⟩ hob43 Z43 G43;obtain rfl:=Option.some.inj (hob43.symm.trans hg43);refine zz 5 ?_;have hz0:=jE hrowy.lt hcan43 (by omega:val ls43≤val ly)
 refine zcE 0 Z43 rfl (zFa _ gy ls43.length capy _ ls43 (Z43.get 0 rfl) D43 (by omega) hcan43 (by omega)) ?_
 rintro v45 w45 ob45 ⟨k45,P45,ls45,rfl,hg45,D45,hcan45,hval45,hodd45⟩ hob45 Z45 G45;obtain rfl:=Option.some.inj (hob45.symm.trans hg45);refine zz 6 ?_;have hz1:val ls45*2^k45=val ly-val lx:=hval45.trans hval43;have hz2:val ls45≤val ls45*2^k45:=Nat.le_mul_of_pos_right _ (Nat.two_pow_pos _);have hz3:=zOy hoddx (by omega) hz1
 have hz4:=jE hrowy.lt hcan45 (by omega:val ls45≤val ly)
 have J1_:=(Le3 G29 G31 G43).trans G45;refine mP (fun a h=>hK29 (((val ls45+val lx),gy,gx,capy,capx,ls45,lx)) _ a h ⟨_,P45,curx,Z45.swap,J1_,D45,hrowx,hcan45,hcanx,hodd45,hoddx,by rw[hz3];rw[Nat.gcd_comm];exact hg0,rfl,by omega,by omega⟩ ?_)
 first | omega | (simp<;>omega)
 have F46:(qU (val lx) (val ly))≠(-1):=by simpa using J40
 have hcmp:=qRd F39 F46;refine zz 8<|zcE 1 Z31 rfl (rG _ gx lx.length capx _ lx (Z31.get 1 rfl) hrowx (by omega) _ _ _ ly (qG.limbs (Y:=HG gx) hrowy (Z31.get 0 rfl) (fun o h=>Z31.ne (i:=0) (j:=1) rfl rfl (by decide) h)) (jE hrowx.lt hcany (by omega)) (by omega)) ?_ (vs:=#[.slice (some ⟨gx,0,none⟩) lx.length capx,.slice (some ⟨gy,0,none⟩) ly.length capy])
 rintro v48 w48 ob48 ⟨P48,ls48,rfl,hg48,D48,hcan48,hval48⟩ hob48 Z48 G48;obtain rfl:=Option.some.inj (hob48.symm.trans hg48);refine zz 5 ?_;have hz0:=jE hrowx.lt hcan48 (by omega:val ls48≤val lx)
 refine zcE 1 Z48 rfl (zFa _ gx ls48.length capx _ ls48 (Z48.get 1 rfl) D48 (by omega) hcan48 (by omega)) ?_
 rintro v50 w50 ob50 ⟨k50,P50,ls50,rfl,hg50,D50,hcan50,hval50,hodd50⟩ hob50 Z50 G50;obtain rfl:=Option.some.inj (hob50.symm.trans hg50);refine zz 6 ?_;have hz1:val ls50*2^k50=val lx-val ly:=hval50.trans hval48;have hz2:val ls50≤val ls50*2^k50:=Nat.le_mul_of_pos_right _ (Nat.two_pow_pos _);have hz3:=zOy hoddy (by omega) hz1
 have hz4:=jE hrowx.lt hcan50 (by omega:val ls50≤val lx)
 have J2_:=(Le3 G29 G31 G48).trans G50;refine mP (fun a h=>hK29 (((val ls50+val ly),gx,gy,capx,capy,ls50,ly)) _ a h ⟨_,P50,cury,Z50,J2_,D50,hrowy,hcan50,hcany,hodd50,hoddy,by rw[hz3];exact hg0,rfl,by omega,by omega⟩ ?_)
 first | omega | (simp<;>omega)
section
variable (w:World)(X:Hid)(hX:∀k o,X k o→k<w.heap.size)
set_option maxHeartbeats 1000000
def zEu:ByteArray:=⟨#[0,1,2,2,3,3,3,3,4,4,4,4,4,4,4,4,5,5,5,5,5,5,5,5,5,5,5,5,5,5,5,5,6,6,6,6,6,6,6,6,6,6,6,6,6,6,6,6,6,6,6,6,6,6,6,6,6,6,6,6,6,6,6,6,7,7,7,7,7,7,7,7,7,7,7,7,7,7,7,7,7,7,7,7,7,7,7,7,7,7,7,7,7,7,7,7,7,7,7,7,7,7,7,7,7,7,7,7,7,7,7,7,7,7,7,7,7,7,7,7,7,7,7,7,7,7,7,7,8,8,8,8,8,8,8,8,8,8,8,8,8,8,8,8,8,8,8,8,8,8,8,8,8,8,8,8,8,8,8,8,8,8,8,8,8,8,8,8,8,8,8,8,8,8,8,8,8,8,8,8,8,8,8,8,8,8,8,8,8,8,8,8,8,8,8,8,8,8,8,8,8,8,8,8,8,8,8,8,8,8,8,8,8,8,8,8,8,8,8,8,8,8,8,8,8,8,8,8,8,8,8,8,8,8,8,8,8,8,8,8,8,8,8,8,8,8,8,8,8,8,8,8,8,8,8,8]⟩
theorem zYg:∀n,n<256→(zEu.data[n]?.isSome=true)∧n<2^(zEu.data[n]?.getD 0).toNat∧(zEu.data[n]?.getD 0).toNat≤8:=by decide+kernel
theorem zFc(n:Nat)(h:n<256):∃b:UInt8,zEu[n]?=some b∧n<2^b.toNat∧b.toNat≤8:=by
 obtain⟨h1,h2,h3⟩:=zYg n h;obtain⟨b,hb⟩:=Option.isSome_iff_exists.1 h1;rw[hb]at h2 h3;refine⟨b,?_,h2,h3⟩;obtain⟨h4,h5⟩:=Array.getElem?_eq_some_iff.1 hb;have h6:n<zEu.size:=h4;rw[getElem?_pos zEu n h6];exact congrArg some h5
include hX in
theorem qKk(x:Nat)(hx:x<4294967296):Calls Tryz.prog 184 #[.int .u32 (x:Int)] w (Ret E0 w fun _ v=>∃r:Nat,v= .int .i64 (r:Int)∧x<2^r∧r≤32):=by
 refine zen Tryz.func184 ?_;have Z0:St E0 w X w X []:=St.start hX;refine zz 12<|zt 4 (p:=(x:Int)≥65536) (fun F2=>?_) (fun F2=>?_);refine zz 5<|zs 6 (v:= .int .u32 (Int.fdiv ((x:Int)) (2^16))) (v':= .int .u32 ((x / 65536:Nat):Int)) (qA (by rw[vW _ 16 (c:=65536) (by decide) (by decide)];omega))<|zz 14<|zt 8 (p:=((x / 65536:Nat):Int)≥256) (fun F3=>?_) (fun F3=>?_)
 refine zz 5<|zs 10 (v:= .int .u32 (Int.fdiv (((x / 65536:Nat):Int)) (2^8))) (v':= .int .u32 ((x / 65536 / 256:Nat):Int)) (qA (by rw[vW _ 8 (c:=256) (by decide) (by decide)];omega))<|zz 14<|zs 15 (v:= .int .u8 (IntKind.u8.wrap (((x / 65536 / 256:Nat):Int)))) (v':= .int .u8 ((x / 65536 / 256:Nat):Int)) (qA (wu8 (by omega) (by omega))) ?_
 obtain⟨b8,hb8,hb2,hb3⟩:=zFc (x / 65536 / 256) (by omega)
 refine zop (at1 [] Tryz.f184 [1,1,1,0]) 3 (fun a4 _ hF4 hz4=>zF (d:=16) (v:= .int .u8 ((b8.toNat:Nat):Int)) hF4 kr (dW (s:=zEu) (i:=(x / 65536 / 256)) rfl kr rfl rfl hb8) ?_);intro a5 hF5;refine hz4 hF5<|zz 1<|zw 17 (x:=((b8.toNat:Nat):Int))<|zz 1<|zw 18 (x:=(24:Int)+((b8.toNat:Nat):Int))<|zz 4<|zr' (v:= .int .i64 ((24:Int)+((b8.toNat:Nat):Int))) ?_;refine⟨Z0.upd,_,rfl,24+b8.toNat,qA (by omega),?_,by omega⟩
 rw[Nat.pow_add];generalize 2^b8.toNat=t at *;omega;refine zz 8<|zs 15 (v:= .int .u8 (IntKind.u8.wrap (((x / 65536:Nat):Int)))) (v':= .int .u8 ((x / 65536:Nat):Int)) (qA (wu8 (by omega) (by omega))) ?_
 obtain⟨b8,hb8,hb2,hb3⟩:=zFc (x / 65536) (by omega)
 refine zop (at1 [] Tryz.f184 [1,1,1,0]) 3 (fun a6 _ hF6 hz6=>zF (d:=16) (v:= .int .u8 ((b8.toNat:Nat):Int)) hF6 kr (dW (s:=zEu) (i:=(x / 65536)) rfl kr rfl rfl hb8) ?_);intro a7 hF7;refine hz6 hF7<|zz 1<|zw 17 (x:=((b8.toNat:Nat):Int))<|zz 1<|zw 18 (x:=(16:Int)+((b8.toNat:Nat):Int))<|zz 4<|zr' (v:= .int .i64 ((16:Int)+((b8.toNat:Nat):Int))) ?_;refine⟨Z0.upd,_,rfl,16+b8.toNat,qA (by omega),?_,by omega⟩
 rw[Nat.pow_add];generalize 2^b8.toNat=t at *;omega;refine zz 10<|zt 8 (p:=(x:Int)≥256) (fun F8=>?_) (fun F8=>?_);refine zz 5<|zs 10 (v:= .int .u32 (Int.fdiv ((x:Int)) (2^8))) (v':= .int .u32 ((x / 256:Nat):Int)) (qA (by rw[vW _ 8 (c:=256) (by decide) (by decide)];omega))<|zz 14<|zs 15 (v:= .int .u8 (IntKind.u8.wrap (((x / 256:Nat):Int)))) (v':= .int .u8 ((x / 256:Nat):Int)) (qA (wu8 (by omega) (by omega))) ?_
 obtain⟨b8,hb8,hb2,hb3⟩:=zFc (x / 256) (by omega)
 refine zop (at1 [] Tryz.f184 [1,1,1,0]) 3 (fun a9 _ hF9 hz9=>zF (d:=16) (v:= .int .u8 ((b8.toNat:Nat):Int)) hF9 kr (dW (s:=zEu) (i:=(x / 256)) rfl kr rfl rfl hb8) ?_);intro a10 hF10;refine hz9 hF10<|zz 1<|zw 17 (x:=((b8.toNat:Nat):Int))<|zz 1<|zw 18 (x:=(8:Int)+((b8.toNat:Nat):Int))<|zz 4<|zr' (v:= .int .i64 ((8:Int)+((b8.toNat:Nat):Int))) ?_;refine⟨Z0.upd,_,rfl,8+b8.toNat,qA (by omega),?_,by omega⟩
 rw[Nat.pow_add];generalize 2^b8.toNat=t at *;omega;refine zz 8<|zs 15 (v:= .int .u8 (IntKind.u8.wrap ((x:Int)))) (v':= .int .u8 ((x:Nat):Int)) (qA (wu8 (by omega) (by omega))) ?_
 obtain⟨b8,hb8,hb2,hb3⟩:=zFc (x) (by omega)
 refine zop (at1 [] Tryz.f184 [1,1,1,0]) 3 (fun a11 _ hF11 hz11=>zF (d:=16) (v:= .int .u8 ((b8.toNat:Nat):Int)) hF11 kr (dW (s:=zEu) (i:=x) rfl kr rfl rfl hb8) ?_);intro a12 hF12;refine hz11 hF12<|zz 1<|zw 17 (x:=((b8.toNat:Nat):Int))<|zz 1<|zw 18 (x:=(0:Int)+((b8.toNat:Nat):Int))<|zz 4<|zr' (v:= .int .i64 ((0:Int)+((b8.toNat:Nat):Int))) ?_;refine⟨Z0.upd,_,rfl,0+b8.toNat,qA (by omega),?_,by omega⟩
 rw[Nat.pow_add];generalize 2^b8.toNat=t at *;omega
include hX in
theorem qDw(ad:Option Addr)(len cap:Nat)(l:List Nat)(h:zT (rd w X) ad len cap l)(hm:len≤1099511627776):Calls Tryz.prog 174 #[.slice ad len cap] w (Ret E0 w fun _ v=>∃m:Nat,v= .int .i64 (m:Int)∧val l<2^m∧m≤32*l.length):=by
 obtain rfl:=h.hlen;have hcap:=h.hcap;have hbig:=h.hbig;refine zen Tryz.func174 ?_;have Z0:St E0 w X w X []:=St.start hX;refine zz 13<|zb 5 (b:=((l.length:Int)==0)) (fun J2=>?_) (fun J2=>?_);have F3:(l.length:Int)=0:=by simpa using J2
 have hnil:l=[]:=List.eq_nil_of_length_eq_zero (by omega)
 refine zz 8<|zr' (v:= .int .i64 0) ?_;exact⟨Z0.upd,_,rfl,0,rfl,by rw[hnil];simp[val],by omega⟩
 have F4:(l.length:Int)≠0:=by simpa using J2
 obtain⟨bk5,of6,rfl,_⟩:=h.addr (by omega)
 have htop:=h.getD_lt (l.length-1);refine zz 8<|zw 8 (x:=(l.length:Int)-1)<|zz 1<|zw 9 (x:=(32:Int)*((l.length:Int)-1))<|zz 4<|zw 13 (x:=(l.length:Int)-1)<|zi (b:=bk5) (off:=of6) (len:=l.length) (cap:=cap) (kd:= .i64) (i:=(l.length:Int)-1) 1 (of6+(l.length-1)) ?_ (hoff:=(by first | omega | (simp;done) | (simp;omega)))
 refine zl ((h.cell (i:=(l.length-1)) (by omega)).mono (Le.refl _)).cells<|zc Z0 (qKk _ _ Z0.lt (l.getD (l.length-1) 0) (by omega)) ?_
 rintro v8 w8 Z8 G8 N8 ⟨r8,rfl,hr8,hs8⟩;refine zz 1<|zw 17 (x:=((32:Int)*((l.length:Int)-1))+(r8:Int))<|zz 4<|zr' (v:= .int .i64 (((32:Int)*((l.length:Int)-1))+(r8:Int))) ?_;exact⟨Z8.upd,_,rfl,32*(l.length-1)+r8,qA (by omega),qKl l h.hlt _ (by omega) hr8,by omega⟩
include hX in
theorem qCc(ad:Option Addr)(len cap:Nat):Calls Tryz.prog 163 #[.slice ad len cap] w (Ret E0 w fun w' v=>∃bx,v= .func (.func 173) #[] #[.pointer (some ⟨bx,0,none⟩)]∧w.heap.size≤bx∧w'.heap[bx]?=some (.cells #[.slice ad len cap] 26 (0,0))):=by
 refine zen Tryz.func163 ?_;have Z0:St E0 w X w X []:=St.start hX;refine zz 2<|zn pn (.cells #[.slice ad len cap] 26 (0,0)) Z0 fun b3 w3 Y3 Z3 G3 N3=>zz 10<|zr' (v:= .func (.func 173) #[] #[.pointer (some ⟨b3,0,none⟩)]) ?_;exact⟨Z3.upd,_,rfl,_,rfl,Z3.own_ge 0 rfl,Z3.get 0 rfl⟩
theorem zXs(l bx:Nat)(ad:Option Addr)(len cap:Nat)(xs:List Nat)(hbig:len≤1099511627776)(J:Nat→World→Prop)(R:World→Prop)(w:World)(hlimbs:zT (rd w X0) ad len cap xs)
    (hread:∀k w,J k w→At (rd w X0) ⟨bx,0,none⟩ [.slice ad len cap])
    (hel:∀k w,J (k+1) w→k / 32<len→∃b off,ad=some ⟨b,off,none⟩∧At (rd w X0) ⟨b,off+k / 32,none⟩ [.int .u32 ((xs.getD (k / 32) 0:Nat):Int)])
    (hY:∀k w,k<32*len→J (k+1) w→YieldAt (FF none) 0 Tryz.prog l #[.int .i64 (k:Int),.int .u32 ((val xs / 2^k % 2:Nat):Int)] w (xR (J k) R))
    (h0:∀w,J 0 w→R w) (hbx:At (rd w X0) ⟨bx,0,none⟩ [.slice ad len cap]) (hJ:∀m w',Upd E0 w w'→val xs<2^m→m≤32*xs.length→J m w'):Calls Tryz.prog 173 #[.func (.yield l) #[] #[],.pointer (some ⟨bx,0,none⟩)] w (fun e w'=>(∃v,e= .returned v)∧R w'):=by
 obtain rfl:=hlimbs.hlen;refine zFb (n:=24) (vs:=[.func (.yield l) #[] #[],.pointer (some ⟨bx,0,none⟩)]) Tryz.func173 rfl rfl rfl kr (fun a0 hF0=>?_);have hF0:Fr 24 a0 [(0,.func (.yield l) #[] #[]),(1,.pointer (some ⟨bx,0,none⟩))]:=hF0;have Z0:St E0 w X0 w X0 []:=St.start (qV _);refine zG (fun K1 hK1=>?_);refine zC ?_;refine qX hF0 kr (zF (d:=4) (v:= .slice ad xs.length cap) hF0 kr (zB (t:=26) (g:=false) (vs:=[.slice ad xs.length cap]) (ad:=⟨bx,0,none⟩) rfl kr kr ir (hbx).cells) ?_);intro a2 hF2;refine qX hF2 kr (kC (d:=5) (f:=174) (cap:=#[]) (vs:=#[.slice ad xs.length cap]) hF2 kr Z0 rfl kr kr (fun w=>Tryz.call174 _ w) (qDw _ X0 (qV _) _ _ _ xs hlimbs (by omega)) ?_)
 rintro v3 w3 Z3 G3 N3 ⟨m,rfl,hm1,hm2⟩ a4 hF4;refine zD 1 [(6,.int .i64 (i64.wrap ((m:Int)-1)))] hF4 kr kr (fun a5 hF5=>?_);have hF6:=hF5.set 6 (v':= .int .i64 ((m:Int)-1)) kr rfl (qA (zUa (by omega) (by omega)))
 refine zD 1 [(3,.int .i64 ((m:Int)-1))] hF6 kr kr (fun a7 hF7=>?_);refine zH<|zA (hK1 _ _ ?_);refine yY<|gK (fun(k:Nat)a w1=>Fr 24 a [(0,.func (.yield l) #[] #[]),(1,.pointer (some ⟨bx,0,none⟩)),(3,.int .i64 ((k:Int)-1))]∧J k w1∧k≤32*xs.length) (fun k=>k) m ?_ ?_
 ·
  exact⟨hF7.as [0,1,3] kr kr,hJ m _ N3 hm1 hm2,hm2⟩
 rintro k a8 w8 ⟨hF8,hJ8,hk⟩;have Z8:St E0 w8 X0 w8 X0 []:=St.start (qV _);refine zG (fun K9 hK9=>?_);refine zG (fun K10 hK10=>?_);refine zC<|zD 2 [(8,.bool (decide (((k:Int)-1)≥0))),(7,.int .i64 ((k:Int)-1))] hF8 kr kr (fun a11 hF11=>?_);refine zH<|zA (hK10 _ _ ?_);refine pK (decide (((k:Int)-1)≥0)) hF11 kr kr (fun J12=>?_) (fun J12=>?_)
 ·
  have hF13:=hF11.set 8 (v':= .bool true) kr rfl (zK J12);have F14:((k:Int)-1)≥0:=of_decide_eq_true J12;obtain⟨j,rfl⟩:∃j,k=j+1:=⟨k-1,by omega⟩
  have hF15:=hF13.set 3 (v:= .int .i64 (((j+1:Nat):Int)-1)) (v':= .int .i64 (j:Int)) kr kr (qA (by omega))
  obtain⟨b,off,rfl,hel1⟩:=hel j _ hJ8 (by omega)
  have hltj:xs.getD (j / 32) 0<4294967296:=hlimbs.getD_lt _;refine wM<|zA (hK9 _ _ ?_);refine zG (fun K16 hK16=>?_);refine yY<|zG (fun K17 hK17=>?_);refine zC<|zD 2 [(12,.int .i64 (j:Int)),(11,.func (.yield l) #[] #[])] hF15 kr kr (fun a18 hF18=>?_);refine qX hF18 kr (zF (d:=13) (v:= .slice (some ⟨b,off,none⟩) xs.length cap) hF18 kr (zB (t:=26) (g:=false) (vs:=[.slice (some ⟨b,off,none⟩) xs.length cap]) (ad:=⟨bx,0,none⟩) rfl kr kr ir ((hread _ _ hJ8)).cells) ?_);intro a19 hF19;refine zD 2 [(15,.int .i64 (i64.wrap (Int.tdiv ((j:Int)) (32)))),(14,.int .i64 (j:Int))] hF19 kr kr (fun a20 hF20=>?_);have hF21:=hF20.set 15 (v':= .int .i64 ((j / 32:Nat):Int)) kr rfl (qA (zTs _ (by omega)))
  refine qX hF21 kr (zF (d:=16) (v:= .pointer (some ⟨b,off+j / 32,none⟩)) hF21 kr (jH (t:=26) (e:=143) (b:=b) (off:=off) (len:=xs.length) (cap:=cap) (kd:= .i64) (i:=((j / 32:Nat):Int)) (g:=false) (m:=1) (off':=off+j / 32) rfl kr kr kr kr (by omega) (by omega) (by first | rfl | omega | (simp;done) | (simp;omega)) _) ?_)
  intro a22 hF22;refine qX hF22 kr (zF (d:=17) (v:= .int .u32 ((xs.getD (j / 32) 0:Nat):Int)) hF22 kr (zB (t:=143) (g:=false) (vs:=[.int .u32 ((xs.getD (j / 32) 0:Nat):Int)]) (ad:=⟨b,off+j / 32,none⟩) rfl kr kr ir (hel1).cells) ?_);intro a23 hF23;refine zD 2 [(19,.int .i64 (Int.tmod ((j:Int)) (32))),(18,.int .i64 (j:Int))] hF23 kr kr (fun a24 hF24=>?_);have hF25:=hF24.set 19 (v':= .int .i64 ((j % 32:Nat):Int)) kr rfl (qA (zTt _));refine qX hF25 kr (zF (d:=20) (v:= .int .u32 ((xs.getD (j / 32) 0 / 2^(j % 32):Nat):Int)) hF25 kr (qGr rfl rfl rfl (by omega)) ?_)
  intro a26 hF26;refine zD 1 [(21,.int .u32 (wK ((xs.getD (j / 32) 0 / 2^(j % 32):Nat):Int) 1))] hF26 kr kr (fun a27 hF27=>?_);have hF28:=hF27.set 21 (v':= .int .u32 ((val xs / 2^j % 2:Nat):Int)) kr rfl (qA ((zOb _ (Nat.lt_of_le_of_lt (Nat.div_le_self _ _) hltj)).trans (by rw[zSc xs hlimbs.hlt j (by omega)])))
  refine zKr (d:=22) (l:=l) (vs:=#[.int .i64 (j:Int),.int .u32 ((val xs / 2^j % 2:Nat):Int)]) hF28 kr rfl kr kr (hY j _ (by omega) hJ8) (fun _ _ h=>h.ret) ?_
  rintro v29 w29 ⟨bb29,hv29,hJ29,hR29⟩ a30 hF30;cases hv29;have Z29:St E0 w29 X0 w29 X0 []:=St.start (qV _);refine zD 1 [(23,.bool (!bb29))] hF30 kr kr (fun a31 hF31=>?_);refine zH<|zA (hK17 _ _ ?_);refine pK (!bb29) hF31 kr kr (fun J32=>?_) (fun J32=>?_)
  ·
   have hF33:=hF31.set 23 (v':= .bool true) kr rfl (zK J32);have F34:bb29=false:=by simpa using J32
   have hbb:=F34;refine nS ?_;refine fU ?_;refine mI ?_;refine mI ?_;refine fU<|zUl (v:= .tuple #[]) (rs:=[]) hF33 kr Res.nil kr ?_;exact⟨⟨_,rfl⟩,(hR29 hbb)⟩
  have hF35:=hF31.set 23 (v':= .bool false) kr rfl (zK J32);have F36:bb29=true:=by simpa using J32
  have hbb:=F36;refine wM ?_;refine yR<|zA (hK16 _ _ ?_);refine zC<|zD 2 [(10,.int .i64 (i64.wrap ((j:Int)-1))),(9,.int .i64 (j:Int))] hF35 kr kr (fun a37 hF37=>?_);have hF38:=hF37.set 10 (v':= .int .i64 ((j:Int)-1)) kr rfl (qA (zUa (by omega) (by omega)))
  refine zD 1 [(3,.int .i64 ((j:Int)-1))] hF38 kr kr (fun a39 hF39=>?_);refine zH<|zA ?_;exact⟨j,⟨hF39.as [0,1,3] kr kr,hJ29 hbb,by omega⟩,by show j<j+1;omega⟩
 have hF40:=hF11.set 8 (v':= .bool false) kr rfl (zK J12);have F41:¬(((k:Int)-1)≥0):=of_decide_eq_false J12;have hk0:k=0:=by omega
 refine bV ?_;refine sP ?_;refine sP ?_;refine nH<|zOe (v:= .tuple #[]) (rs:=[]) hF40 kr Res.nil kr ?_;exact⟨⟨_,rfl⟩,(h0 _ (hk0▸hJ8))⟩
end
set_option maxHeartbeats 1000000
theorem zLh{x y:Nat}(h:qU (x:Int) (y:Int)≥0):y≤x:=zOk (by omega)
theorem zFy{x y:Nat}(h:¬qU (x:Int) (y:Int)≥0):x<y:=zOl (by omega)
theorem qCf(w:World)(X:Hid)(hX:∀k o,X k o→k<w.heap.size)(ad:Option Addr)(len cap:Nat)(l:List Nat)(h:zT (rd w X) ad len cap l)(ad2:Option Addr)(len2 O2:Nat)(l2:List Nat)(h2:zT (rd w X) ad2 len2 O2 l2)(J1:jC l)(J2:jC l2)(hl1:len≤512)(hl2:len2≤512)(hd:0<val l2):Calls Tryz.prog 149 #[.slice ad len cap,.slice ad2 len2 O2] w (Ret E0 w fun w' v=>∃u u2 lq lr ad len cap ad2 len2 O2,v= .tuple #[u,u2]∧aV 143 w w' u lq ad len cap (val l / val l2)∧aV 143 w w' u2 lr ad2 len2 O2 (val l % val l2)):=by
 obtain rfl:=h.hlen;obtain rfl:=h2.hlen;have hcap:=h.hcap;have hbig:=h.hbig;have hcap2:=h2.hcap;have hbig2:=h2.hbig;refine zMf (n:=38) (vs:=[.slice ad l.length cap,.slice ad2 l2.length O2]) Tryz.func149 rfl rfl rfl kr (fun a0 hF0=>?_);have hF0:Fr 38 a0 [(0,.slice ad l.length cap),(1,.slice ad2 l2.length O2)]:=hF0;have Z0:St E0 w X w X []:=St.start hX;refine zG (fun K1 hK1=>?_);refine zC ?_;refine qX hF0 kr (mZ (d:=3) (fun b=> .pointer (some ⟨b,0,none⟩)) (.cells #[.slice ad2 l2.length O2] 26 (0,0)) hF0 kr Z0 kw ?_);intro b2 w2 Y2 Z2 G2 N2 a3 hF3;refine qX hF3 kr (mZ (d:=4) (fun b=> .pointer (some ⟨b,0,none⟩)) (.cells #[.slice none 0 0] 26 (0,0)) hF3 kr Z2 kw ?_);intro b4 w4 Y4 Z4 G4 N4 a5 hF5;refine qX hF5 kr (mZ (d:=5) (fun b=> .pointer (some ⟨b,0,none⟩)) (.cells #[.slice none 0 0] 26 (0,0)) hF5 kr Z4 kw ?_);intro b6 w6 Y6 Z6 G6 N6 a7 hF7;refine zH<|zA (hK1 _ _ ?_);refine zG (fun K8 hK8=>?_);refine zC<|zD 2 [(9,.int .i64 (l.length:Int)),(8,.slice ad l.length cap)] hF7 kr kr (fun a9 hF9=>?_);refine qX hF9 kr (zVy (d:=10) (t:=26) (e:=143) (m:=l.length) (l:=(l.length:Int)) (z:= .int .u32 0) (i0:=Tryz.t143) hF9 kr Z6 rfl kr (by first | rfl | omega) kr kr kr kr kr (by show 4*_≤_;omega) (by omega) ?_)
 intro b10 w10 Y10 Z10 G10 N10 a11 hF11;have D10:=qG.zeros l.length (by simp only[maxLen];omega)
 refine qX hF11 kr (zE (t:=26) (b:=b4) (off:=0) (c':=#[.slice (some ⟨b10,0,none⟩) l.length l.length]) (g:=false) (m:=1) 2 _ hF11 kr Z10 rfl kr rfl kr kr kr rfl (by first | decide | (simp;done)) kr rfl ?_)
 intro w12 Z12 G12;refine zH<|zA (hK8 _ _ ?_);refine zG (fun K13 hK13=>?_);refine zG (fun K14 hK14=>?_);refine zC<|zD 1 [(11,.slice ad l.length cap)] hF11 kr kr (fun a15 hF15=>?_);refine qX hF15 kr (kC (d:=12) (f:=163) (cap:=#[]) (vs:=#[.slice ad l.length cap]) hF15 kr Z12 rfl kr kr (fun w=>Tryz.call163 _ w) (qCc _ _ Z12.lt ad l.length cap) ?_);rintro v16 w16 Z16 G16 N16 ⟨bx16,rfl,hge16,hget16⟩ a17 hF17;have Z18:=St.adopt Z16 (fun o h=>Nat.not_lt.2 hge16 (Z12.lt _ _ h)) (Nat.le_trans Z12.upd.size hge16) hget16;have G18:=Le.adopt G16 hge16;refine zH<|zA (hK14 _ _ ?_);refine yY<|zGi (f:=173) (caps:=#[.pointer (some ⟨bx16,0,none⟩)]) hF17 Z18 kr kr (fun args w=>Tryz.call173 args w) fun rec19 l19 b19 w19 Y19 hr19 Z19 G19 N19=>?_;have hF20:=zCw b19 hF17;refine zXs l19 bx16 ad l.length cap l (by omega) (fun k w'=>∃(Y':Hid)(curq:Array Value)(lq:List Nat)(rb:List (Nat×Obj))(adr:Option Addr)(capr:Nat)(lr:List Nat)(q:Nat),St E0 w X w' Y' ((l19,.loop rec19)::(b19,.deferred (some []))::(bx16,.cells #[.slice ad l.length cap] 26 (0,0))::(b10,.cells curq 143 (0,0))::(b6,.cells #[.slice adr lr.length capr] 26 (0,0))::(b4,.cells #[.slice (some ⟨b10,0,none⟩) l.length l.length] 26 (0,0))::(b2,.cells #[.slice ad2 l2.length O2] 26 (0,0))::rb)∧Le (rd w19 Y19) (rd w' Y')∧(qG l.length l.length curq lq)∧(RSt 143 rb adr capr lr)∧(jC lr)∧(val lq=2^k*q)∧(val l / 2^k=q*val l2+val lr)∧(val lr<val l2)) _ _ ((h.mono (Le7 G2 G4 G6 G10 G12 G18 G19)).mono Le.x0) ?_ ?_ ?_ ?_ (Z19.at0 2 rfl rfl) ?_
 rintro k w21 ⟨Y21,curq,lq,rb,adr,capr,lr,q,Z21,G21,hp21_0,hp21_1,hp21_2,hp21_3,hp21_4,hp21_5⟩;exact Z21.at0 2 rfl rfl;rintro k w22 ⟨Y22,curq,lq,rb,adr,capr,lr,q,Z22,G22,hp22_0,hp22_1,hp22_2,hp22_3,hp22_4,hp22_5⟩;intro hk;obtain⟨b,off,rfl,_⟩:=h.addr (by omega)
 exact⟨b,off,rfl,((h.cell (i:=k / 32) (by omega)).mono (Le8 G2 G4 G6 G10 G12 G18 G19 G22)).mono Le.x0⟩
 intro k w23 hk;rintro⟨Y23,curq,lq,rb,adr,capr,lr,q,Z23,G23,hp23_0,hp23_1,hp23_2,hp23_3,hp23_4,hp23_5⟩;refine zIj (p:=13) (q:=14) hr19 hF17 Z23 kr kr (fun a24 hF24=>?_);have hkl:k / 32<l.length:=by omega
 have hrowq:=hp23_0;have hrst:=hp23_1;have hcanlr:=hp23_2;have hvq:=hp23_3;have hdiv:=hp23_4;have hlt:=hp23_5;rcases hrst with⟨rfl,rfl,rfl,rfl⟩ | ⟨gr,curr,rfl,rfl,hrowr⟩
 refine zG (fun K25 hK25=>?_);refine zC<|zD 1 [(6,.int .i64 (k:Int))] hF24 kr kr (fun a26 hF26=>?_);refine zH<|zA (hK25 _ _ ?_);refine zC<|zD 1 [(7,.int .u32 ((val l / 2^k % 2:Nat):Int))] hF26 kr kr (fun a27 hF27=>?_);refine zH<|zA<|zCl hr19 Z23 (fun w28 Z28 G28=>?_);refine yY<|zG (fun K29 hK29=>?_);refine zC ?_;refine qX hF27 kr (zF (d:=15) (v:= .slice none 0 0) hF27 kr (zB (t:=26) (g:=false) (vs:=[.slice none 0 0]) (ad:=⟨b6,0,none⟩) rfl kr kr ir (Z28.cells 4 rfl rfl)) ?_);intro a30 hF30;refine zD 1 [(16,.int .u32 ((val l / 2^k % 2:Nat):Int))] hF30 kr kr (fun a31 hF31=>?_);refine qX hF31 kr (kC (d:=17) (f:=116) (cap:=#[]) (vs:=#[.slice none 0 0,.int .u32 ((val l / 2^k % 2:Nat):Int)]) hF31 kr Z28 rfl kr kr (fun w=>Tryz.call116 _ w) (zSd _ X0 (qV _) (val l / 2^k % 2) (by omega)) ?_)
 rintro v32 w32 Z32 G32 N32 ⟨ls32,ad32,zGm,O32,⟨⟨rfl,hl32,hlt32,ho32⟩,hcan32,hval32⟩,hlen32⟩ a33 hF33;have hx32:val ls32=2*val ([]:List Nat)+val l / 2^k % 2:=by simp only[val];omega
 rcases ho32 with⟨rfl,rfl,rfl⟩ | ⟨g32,P32,rfl,hge32,hget32,D32⟩
 have hn32:ls32=[]:=List.eq_nil_of_length_eq_zero hl32.symm;subst hn32;refine qX hF33 kr (zE (t:=26) (b:=b6) (off:=0) (c':=#[.slice none 0 0]) (g:=false) (m:=1) 4 _ hF33 kr Z32 rfl kr rfl kr kr kr rfl (by first | decide | (simp;done)) kr rfl ?_)
 intro w36 Z36 G36;refine zH<|zA (hK29 _ _ ?_);refine zG (fun K37 hK37=>?_);refine zC ?_;refine qX hF33 kr (zF (d:=18) (v:= .slice none 0 0) hF33 kr (zB (t:=26) (g:=false) (vs:=[.slice none 0 0]) (ad:=⟨b6,0,none⟩) rfl kr kr ir (Z36.cells 4 rfl rfl)) ?_);intro a38 hF38;refine qX hF38 kr (zF (d:=19) (v:= .slice ad2 l2.length O2) hF38 kr (zB (t:=26) (g:=false) (vs:=[.slice ad2 l2.length O2]) (ad:=⟨b2,0,none⟩) rfl kr kr ir (Z36.cells 6 rfl rfl)) ?_);intro a39 hF39;refine qX hF39 kr (kC (d:=20) (f:=114) (cap:=#[]) (vs:=#[.slice none 0 0,.slice ad2 l2.length O2]) hF39 kr Z36 rfl kr kr (fun w=>Tryz.call114 _ w) (zBp _ X0 (qV _) _ _ _ ([]) (zT.nil none (by omega)) _ _ _ l2 ((h2.mono (qHv G2 G4 G6 G10 G12 G18 G19 G23 G28 G32 G36)).mono Le.x0) (.inl rfl) J2 (by omega)) ?_)
 rintro v40 w40 Z40 G40 N40 rfl a41 hF41;refine zD 1 [(21,.bool (decide ((qU (val ([])) (val l2))≥0)))] hF41 kr kr (fun a42 hF42=>?_);refine zH<|zA (hK37 _ _ ?_);refine pK (decide ((qU (val ([])) (val l2))≥0)) hF42 kr kr (fun J43=>?_) (fun J43=>?_);have hF44:=hF42.set 21 (v':= .bool true) kr rfl (zK J43);have F45:(qU (val ([])) (val l2))≥0:=of_decide_eq_true J43;have hcmp:=zLh F45;simp only[val]at hcmp;omega;have hF46:=hF42.set 21 (v':= .bool false) kr rfl (zK J43);have F47:¬((qU (val ([])) (val l2))≥0):=of_decide_eq_false J43;have hcmp:=zFy F47;refine wM ?_;refine yR ?_;refine lJ hr19 Z40 (fun w48 Z48 G48=>xR.next ?_);exact⟨_,curq,lq,[],none,0,[],(2*q),Z48,(Le6 G23 G28 G32 G36 G40 G48),hrowq,.inl ⟨rfl,rfl,rfl,rfl⟩,(.inl rfl),by rw[hvq,Nat.pow_succ];ac_rfl,qRn hdiv hx32,hcmp⟩
 subst hl32;have Z34:=St.adopt Z32 (fun o h=>Nat.not_lt.2 hge32 (Z28.lt _ _ h)) (Nat.le_trans Z28.upd.size hge32) hget32;have G34:=Le.adopt G32 hge32;have Z35:=St.mid (B:=[]) [(l19,.loop (zOd rec19)),(b19,.deferred (some [])),(bx16,.cells #[.slice ad l.length cap] 26 (0,0)),(b10,.cells curq 143 (0,0)),(b6,.cells #[.slice none 0 0] 26 (0,0)),(b4,.cells #[.slice (some ⟨b10,0,none⟩) l.length l.length] 26 (0,0)),(b2,.cells #[.slice ad2 l2.length O2] 26 (0,0))] Z34;have G35:Le (rd w32 (zAo g32 Y23)) (rd w32 (zAo g32 Y23)):=Le.refl _;refine qX hF33 kr (zE (t:=26) (b:=b6) (off:=0) (c':=#[.slice (some ⟨g32,0,none⟩) ls32.length O32]) (g:=false) (m:=1) 4 _ hF33 kr Z35 rfl kr rfl kr kr kr rfl (by first | decide | (simp;done)) kr rfl ?_)
 intro w49 Z49 G49;refine zH<|zA (hK29 _ _ ?_);refine zG (fun K50 hK50=>?_);refine zC ?_;refine qX hF33 kr (zF (d:=18) (v:= .slice (some ⟨g32,0,none⟩) ls32.length O32) hF33 kr (zB (t:=26) (g:=false) (vs:=[.slice (some ⟨g32,0,none⟩) ls32.length O32]) (ad:=⟨b6,0,none⟩) rfl kr kr ir (Z49.cells 4 rfl rfl)) ?_);intro a51 hF51;refine qX hF51 kr (zF (d:=19) (v:= .slice ad2 l2.length O2) hF51 kr (zB (t:=26) (g:=false) (vs:=[.slice ad2 l2.length O2]) (ad:=⟨b2,0,none⟩) rfl kr kr ir (Z49.cells 6 rfl rfl)) ?_);intro a52 hF52;refine qX hF52 kr (kC (d:=20) (f:=114) (cap:=#[]) (vs:=#[.slice (some ⟨g32,0,none⟩) ls32.length O32,.slice ad2 l2.length O2]) hF52 kr Z49 rfl kr kr (fun w=>Tryz.call114 _ w) (zBp _ X0 (qV _) _ _ _ ls32 (qG.limbs (Y:=X0) D32 (Z49.get 7 rfl) (fun _ h=>h.elim)) _ _ _ l2 ((h2.mono (qPw G2 G4 G6 G10 G12 G18 G19 G23 G28 G34 G35 G49)).mono Le.x0) hcan32 J2 (by omega)) ?_)
 rintro v53 w53 Z53 G53 N53 rfl a54 hF54;refine zD 1 [(21,.bool (decide ((qU (val ls32) (val l2))≥0)))] hF54 kr kr (fun a55 hF55=>?_);refine zH<|zA (hK50 _ _ ?_);refine pK (decide ((qU (val ls32) (val l2))≥0)) hF55 kr kr (fun J56=>?_) (fun J56=>?_);have hF57:=hF55.set 21 (v':= .bool true) kr rfl (zK J56);have F58:(qU (val ls32) (val l2))≥0:=of_decide_eq_true J56;have hcmp:=zLh F58;obtain⟨hset1,hset2,hset3⟩:=qGu lq hrowq.lt k q (by rw[hrowq.len];exact hkl) hvq
 refine zG (fun K59 hK59=>?_);refine zC ?_;refine qX hF57 kr (zF (d:=22) (v:= .slice (some ⟨g32,0,none⟩) ls32.length O32) hF57 kr (zB (t:=26) (g:=false) (vs:=[.slice (some ⟨g32,0,none⟩) ls32.length O32]) (ad:=⟨b6,0,none⟩) rfl kr kr ir (Z53.cells 4 rfl rfl)) ?_);intro a60 hF60;refine qX hF60 kr (zF (d:=23) (v:= .slice ad2 l2.length O2) hF60 kr (zB (t:=26) (g:=false) (vs:=[.slice ad2 l2.length O2]) (ad:=⟨b2,0,none⟩) rfl kr kr ir (Z53.cells 6 rfl rfl)) ?_);intro a61 hF61;refine qX hF61 kr (zBn (d:=24) (f:=115) (cap:=#[]) (vs:=#[.slice (some ⟨g32,0,none⟩) ls32.length O32,.slice ad2 l2.length O2]) 7 hF61 kr Z53 rfl kr kr (fun w=>Tryz.call115 _ w) rfl (rG _ g32 ls32.length O32 _ ls32 (Z53.get 7 rfl) D32 (by omega) _ _ _ l2 ((h2.mono (Le13 G2 G4 G6 G10 G12 G18 G19 G23 G28 G34 G35 G49 G53)).mono (Z53.leHG 7 rfl)) (jE D32.lt J2 (by omega)) (by omega)) ?_)
 rintro v62 w62 ob62 ⟨P62,ls62,rfl,hg62,D62,hcan62,hval62⟩ hob62 Z62 G62 a63 hF63;obtain rfl:=Option.some.inj (hob62.symm.trans hg62);refine qX hF63 kr (zE (t:=26) (b:=b6) (off:=0) (c':=#[.slice (some ⟨g32,0,none⟩) ls62.length O32]) (g:=false) (m:=1) 4 _ hF63 kr Z62 rfl kr rfl kr kr kr rfl (by first | decide | (simp;done)) kr rfl ?_)
 intro w64 Z64 G64;refine zH<|zA (hK59 _ _ ?_);refine dG (N:=11) (kD [(⟨b4,0,none⟩,[.slice (some ⟨b10,0,none⟩) l.length l.length]),(⟨b10,k / 32,none⟩,[.int .u32 ((lq.getD (k / 32) 0:Nat):Int)])]) [10] kr kr kr Z64 ?_;intro w65 Z65 G65 N65;refine mK (kD.cons (Z65.cells 5 rfl rfl) (kD.cons (Z65.rowCells 3 rfl hrowq (by have:=hrowq.len;(try simp only[List.length_set]at *);omega)) (kD.nil _))) (fun hH65=>?_)
 refine pX (d:=25) (v:= .slice (some ⟨b10,0,none⟩) l.length l.length) 0 hF63 rfl kr kr kr (fun w hw=>zB (t:=26) (g:=false) (vs:=[.slice (some ⟨b10,0,none⟩) l.length l.length]) (ad:=⟨b4,0,none⟩) rfl kr kr ir (hw.get 0 kr)) hH65 ?_;intro a66 hF66;refine zJ (d:=26) (v:= .int .i64 (k:Int)) 1 hF66 rfl kr kr kw (fun _=>hH65) fun a67 hF67=>zJ (d:=27) (v:= .int .i64 (i64.wrap (Int.tdiv ((k:Int)) (32)))) 2 hF67 rfl kr kr kw (fun _=>hH65) fun a68 hF68=>?_;have hF69:=hF68.set 27 (v':= .int .i64 ((k / 32:Nat):Int)) kr rfl (qA (zTs _ (by omega)))
 refine zJ (d:=28) (v:= .pointer (some ⟨b10,k / 32,none⟩)) 3 hF69 rfl kr kr (fun w=>jH (t:=26) (e:=143) (b:=b10) (off:=0) (len:=l.length) (cap:=l.length) (kd:= .i64) (i:=((k / 32:Nat):Int)) (g:=false) (m:=1) (off':=k / 32) rfl kr kr kr kr (by omega) (by omega) (by first | rfl | omega | (simp;done) | (simp;omega)) w) (fun _=>hH65) fun a70 hF70=>?_
 refine pX (d:=29) (v:= .int .u32 ((lq.getD (k / 32) 0:Nat):Int)) 4 hF70 rfl kr kr kr (fun w hw=>zB (t:=143) (g:=false) (vs:=[.int .u32 ((lq.getD (k / 32) 0:Nat):Int)]) (ad:=⟨b10,k / 32,none⟩) rfl kr kr ir (hw.get 1 kr)) hH65 ?_;intro a71 hF71;refine zJ (d:=30) (v:= .int .i64 (k:Int)) 5 hF71 rfl kr kr kw (fun _=>hH65) fun a72 hF72=>zJ (d:=31) (v:= .int .i64 (Int.tmod ((k:Int)) (32))) 6 hF72 rfl kr kr kw (fun _=>hH65) fun a73 hF73=>?_;have hF74:=hF73.set 31 (v':= .int .i64 ((k % 32:Nat):Int)) kr rfl (qA (zTt _));refine zJ (d:=32) (v:= .int .u32 ((2^(k % 32):Nat):Int)) 7 hF74 rfl kr kr (fun w=>zQu rfl rfl rfl (by omega)) (fun _=>hH65) fun a75 hF75=>zJ (d:=33) (v:= .int .u32 (nJ ((lq.getD (k / 32) 0:Nat):Int) ((2^(k % 32):Nat):Int))) 8 hF75 rfl kr kr kw (fun _=>hH65) fun a76 hF76=>?_
 have hF77:=hF76.set 33 (v':= .int .u32 ((lq.getD (k / 32) 0+2^(k % 32):Nat):Int)) kr rfl (qA hset1);refine zJ (d:=34) (v:= .pointer (some ⟨b10,k / 32,none⟩)) 9 hF77 rfl kr kr (fun w=>jH (t:=26) (e:=143) (b:=b10) (off:=0) (len:=l.length) (cap:=l.length) (kd:= .i64) (i:=((k / 32:Nat):Int)) (g:=false) (m:=1) (off':=k / 32) rfl kr kr kr kr (by omega) (by omega) (by first | rfl | omega | (simp;done) | (simp;omega)) w) (fun _=>hH65) fun a78 hF78=>?_
 refine wQ [10] kr rfl ?_;refine yL.cons (i:=10) hF78 rfl kr (mF (t:=143) (y:=(lq.getD (k / 32) 0+2^(k % 32))) (k:=k / 32) (e:=((lq.getD (k / 32) 0+2^(k % 32):Nat):Int)) 3 hF78 kr Z65 rfl rfl rfl (rfl) kr rfl hrowq (by have:=hrowq.len;(try simp only[List.length_set]at *);omega) (hset2) ?_) yL.nil
 intro P79 w79 D79 Z79 G79;refine⟨nG kr,?_⟩;refine zDv kr (nrm ?_);refine yR ?_;refine lJ hr19 Z79 (fun w80 Z80 G80=>xR.next ?_);exact⟨_,P79,(lq.set (k / 32) (lq.getD (k / 32) 0+2^(k % 32))),[(g32,.cells P62 143 (0,0))],(some ⟨g32,0,none⟩),O32,ls62,(2*q+1),Z80,(qHv G23 G28 G34 G35 G49 G53 G62 G64 G65 G79 G80),D79,.inr ⟨_,_,rfl,rfl,D62⟩,hcan62,by rw[hset3,hvq,Nat.pow_succ,Nat.mul_add,Nat.mul_one];congr 1;ac_rfl,divA hdiv (hval62.trans (by rw[hx32])) (by omega),by have:=hval62;omega⟩
 have hF81:=hF55.set 21 (v':= .bool false) kr rfl (zK J56);have F82:¬((qU (val ls32) (val l2))≥0):=of_decide_eq_false J56;have hcmp:=zFy F82;refine wM ?_;refine yR ?_;refine lJ hr19 Z53 (fun w83 Z83 G83=>xR.next ?_);exact⟨_,curq,lq,[(g32,.cells P32 143 (0,0))],(some ⟨g32,0,none⟩),O32,ls32,(2*q),Z83,(Le7 G23 G28 G34 G35 G49 G53 G83),hrowq,.inr ⟨_,_,rfl,rfl,D32⟩,hcan32,by rw[hvq,Nat.pow_succ];ac_rfl,qRn hdiv hx32,hcmp⟩
 refine zG (fun K84 hK84=>?_);refine zC<|zD 1 [(6,.int .i64 (k:Int))] hF24 kr kr (fun a85 hF85=>?_);refine zH<|zA (hK84 _ _ ?_);refine zC<|zD 1 [(7,.int .u32 ((val l / 2^k % 2:Nat):Int))] hF85 kr kr (fun a86 hF86=>?_);refine zH<|zA<|zCl hr19 Z23 (fun w87 Z87 G87=>?_);refine yY<|zG (fun K88 hK88=>?_);refine zC ?_;refine qX hF86 kr (zF (d:=15) (v:= .slice (some ⟨gr,0,none⟩) lr.length capr) hF86 kr (zB (t:=26) (g:=false) (vs:=[.slice (some ⟨gr,0,none⟩) lr.length capr]) (ad:=⟨b6,0,none⟩) rfl kr kr ir (Z87.cells 4 rfl rfl)) ?_);intro a89 hF89;refine zD 1 [(16,.int .u32 ((val l / 2^k % 2:Nat):Int))] hF89 kr kr (fun a90 hF90=>?_);have hlnr:=jE h2.hlt hcanlr (Nat.le_of_lt hlt);refine qX hF90 kr (zPz (d:=17) (f:=116) (cap:=#[]) (vs:=#[.slice (some ⟨gr,0,none⟩) lr.length capr,.int .u32 ((val l / 2^k % 2:Nat):Int)]) 7 hF90 kr Z87 rfl kr kr (fun w=>Tryz.call116 _ w) rfl (zOq _ gr lr.length capr _ lr (Z87.get 7 rfl) hrowr (by omega) hcanlr (val l / 2^k % 2) (by omega)) ?_)
 rintro v91 w91 Y91 g91 o91 ⟨P91,O91,ls91,rfl,rfl,D91,hlen91,hcan91,hval91⟩ Z91 G91 a92 hF92;refine qX hF92 kr (zE (t:=26) (b:=b6) (off:=0) (c':=#[.slice (some ⟨g91,0,none⟩) ls91.length O91]) (g:=false) (m:=1) 4 _ hF92 kr Z91 rfl kr rfl kr kr kr rfl (by first | decide | (simp;done)) kr rfl ?_)
 intro w93 Z93 G93;refine zH<|zA (hK88 _ _ ?_);refine zG (fun K94 hK94=>?_);refine zC ?_;refine qX hF92 kr (zF (d:=18) (v:= .slice (some ⟨g91,0,none⟩) ls91.length O91) hF92 kr (zB (t:=26) (g:=false) (vs:=[.slice (some ⟨g91,0,none⟩) ls91.length O91]) (ad:=⟨b6,0,none⟩) rfl kr kr ir (Z93.cells 4 rfl rfl)) ?_);intro a95 hF95;refine qX hF95 kr (zF (d:=19) (v:= .slice ad2 l2.length O2) hF95 kr (zB (t:=26) (g:=false) (vs:=[.slice ad2 l2.length O2]) (ad:=⟨b2,0,none⟩) rfl kr kr ir (Z93.cells 6 rfl rfl)) ?_);intro a96 hF96;refine qX hF96 kr (kC (d:=20) (f:=114) (cap:=#[]) (vs:=#[.slice (some ⟨g91,0,none⟩) ls91.length O91,.slice ad2 l2.length O2]) hF96 kr Z93 rfl kr kr (fun w=>Tryz.call114 _ w) (zBp _ X0 (qV _) _ _ _ ls91 (qG.limbs (Y:=X0) D91 (Z93.get 7 rfl) (fun _ h=>h.elim)) _ _ _ l2 ((h2.mono (qHv G2 G4 G6 G10 G12 G18 G19 G23 G87 G91 G93)).mono Le.x0) hcan91 J2 (by omega)) ?_)
 rintro v97 w97 Z97 G97 N97 rfl a98 hF98;refine zD 1 [(21,.bool (decide ((qU (val ls91) (val l2))≥0)))] hF98 kr kr (fun a99 hF99=>?_);refine zH<|zA (hK94 _ _ ?_);refine pK (decide ((qU (val ls91) (val l2))≥0)) hF99 kr kr (fun J100=>?_) (fun J100=>?_);have hF101:=hF99.set 21 (v':= .bool true) kr rfl (zK J100);have F102:(qU (val ls91) (val l2))≥0:=of_decide_eq_true J100;have hcmp:=zLh F102;obtain⟨hset1,hset2,hset3⟩:=qGu lq hrowq.lt k q (by rw[hrowq.len];exact hkl) hvq
 refine zG (fun K103 hK103=>?_);refine zC ?_;refine qX hF101 kr (zF (d:=22) (v:= .slice (some ⟨g91,0,none⟩) ls91.length O91) hF101 kr (zB (t:=26) (g:=false) (vs:=[.slice (some ⟨g91,0,none⟩) ls91.length O91]) (ad:=⟨b6,0,none⟩) rfl kr kr ir (Z97.cells 4 rfl rfl)) ?_);intro a104 hF104;refine qX hF104 kr (zF (d:=23) (v:= .slice ad2 l2.length O2) hF104 kr (zB (t:=26) (g:=false) (vs:=[.slice ad2 l2.length O2]) (ad:=⟨b2,0,none⟩) rfl kr kr ir (Z97.cells 6 rfl rfl)) ?_);intro a105 hF105;refine qX hF105 kr (zBn (d:=24) (f:=115) (cap:=#[]) (vs:=#[.slice (some ⟨g91,0,none⟩) ls91.length O91,.slice ad2 l2.length O2]) 7 hF105 kr Z97 rfl kr kr (fun w=>Tryz.call115 _ w) rfl (rG _ g91 ls91.length O91 _ ls91 (Z97.get 7 rfl) D91 (by omega) _ _ _ l2 ((h2.mono (qPw G2 G4 G6 G10 G12 G18 G19 G23 G87 G91 G93 G97)).mono (Z97.leHG 7 rfl)) (jE D91.lt J2 (by omega)) (by omega)) ?_)
 rintro v106 w106 ob106 ⟨P106,ls106,rfl,hg106,D106,hcan106,hval106⟩ hob106 Z106 G106 a107 hF107;obtain rfl:=Option.some.inj (hob106.symm.trans hg106);refine qX hF107 kr (zE (t:=26) (b:=b6) (off:=0) (c':=#[.slice (some ⟨g91,0,none⟩) ls106.length O91]) (g:=false) (m:=1) 4 _ hF107 kr Z106 rfl kr rfl kr kr kr rfl (by first | decide | (simp;done)) kr rfl ?_)
 intro w108 Z108 G108;refine zH<|zA (hK103 _ _ ?_);refine dG (N:=11) (kD [(⟨b4,0,none⟩,[.slice (some ⟨b10,0,none⟩) l.length l.length]),(⟨b10,k / 32,none⟩,[.int .u32 ((lq.getD (k / 32) 0:Nat):Int)])]) [10] kr kr kr Z108 ?_;intro w109 Z109 G109 N109;refine mK (kD.cons (Z109.cells 5 rfl rfl) (kD.cons (Z109.rowCells 3 rfl hrowq (by have:=hrowq.len;(try simp only[List.length_set]at *);omega)) (kD.nil _))) (fun hH109=>?_)
 refine pX (d:=25) (v:= .slice (some ⟨b10,0,none⟩) l.length l.length) 0 hF107 rfl kr kr kr (fun w hw=>zB (t:=26) (g:=false) (vs:=[.slice (some ⟨b10,0,none⟩) l.length l.length]) (ad:=⟨b4,0,none⟩) rfl kr kr ir (hw.get 0 kr)) hH109 ?_;intro a110 hF110;refine zJ (d:=26) (v:= .int .i64 (k:Int)) 1 hF110 rfl kr kr kw (fun _=>hH109) fun a111 hF111=>zJ (d:=27) (v:= .int .i64 (i64.wrap (Int.tdiv ((k:Int)) (32)))) 2 hF111 rfl kr kr kw (fun _=>hH109) fun a112 hF112=>?_;have hF113:=hF112.set 27 (v':= .int .i64 ((k / 32:Nat):Int)) kr rfl (qA (zTs _ (by omega)))
 refine zJ (d:=28) (v:= .pointer (some ⟨b10,k / 32,none⟩)) 3 hF113 rfl kr kr (fun w=>jH (t:=26) (e:=143) (b:=b10) (off:=0) (len:=l.length) (cap:=l.length) (kd:= .i64) (i:=((k / 32:Nat):Int)) (g:=false) (m:=1) (off':=k / 32) rfl kr kr kr kr (by omega) (by omega) (by first | rfl | omega | (simp;done) | (simp;omega)) w) (fun _=>hH109) fun a114 hF114=>?_
 refine pX (d:=29) (v:= .int .u32 ((lq.getD (k / 32) 0:Nat):Int)) 4 hF114 rfl kr kr kr (fun w hw=>zB (t:=143) (g:=false) (vs:=[.int .u32 ((lq.getD (k / 32) 0:Nat):Int)]) (ad:=⟨b10,k / 32,none⟩) rfl kr kr ir (hw.get 1 kr)) hH109 ?_;intro a115 hF115;refine zJ (d:=30) (v:= .int .i64 (k:Int)) 5 hF115 rfl kr kr kw (fun _=>hH109) fun a116 hF116=>zJ (d:=31) (v:= .int .i64 (Int.tmod ((k:Int)) (32))) 6 hF116 rfl kr kr kw (fun _=>hH109) fun a117 hF117=>?_;have hF118:=hF117.set 31 (v':= .int .i64 ((k % 32:Nat):Int)) kr rfl (qA (zTt _));refine zJ (d:=32) (v:= .int .u32 ((2^(k % 32):Nat):Int)) 7 hF118 rfl kr kr (fun w=>zQu rfl rfl rfl (by omega)) (fun _=>hH109) fun a119 hF119=>zJ (d:=33) (v:= .int .u32 (nJ ((lq.getD (k / 32) 0:Nat):Int) ((2^(k % 32):Nat):Int))) 8 hF119 rfl kr kr kw (fun _=>hH109) fun a120 hF120=>?_
 have hF121:=hF120.set 33 (v':= .int .u32 ((lq.getD (k / 32) 0+2^(k % 32):Nat):Int)) kr rfl (qA hset1);refine zJ (d:=34) (v:= .pointer (some ⟨b10,k / 32,none⟩)) 9 hF121 rfl kr kr (fun w=>jH (t:=26) (e:=143) (b:=b10) (off:=0) (len:=l.length) (cap:=l.length) (kd:= .i64) (i:=((k / 32:Nat):Int)) (g:=false) (m:=1) (off':=k / 32) rfl kr kr kr kr (by omega) (by omega) (by first | rfl | omega | (simp;done) | (simp;omega)) w) (fun _=>hH109) fun a122 hF122=>?_
 refine wQ [10] kr rfl ?_;refine yL.cons (i:=10) hF122 rfl kr (mF (t:=143) (y:=(lq.getD (k / 32) 0+2^(k % 32))) (k:=k / 32) (e:=((lq.getD (k / 32) 0+2^(k % 32):Nat):Int)) 3 hF122 kr Z109 rfl rfl rfl (rfl) kr rfl hrowq (by have:=hrowq.len;(try simp only[List.length_set]at *);omega) (hset2) ?_) yL.nil
 intro P123 w123 D123 Z123 G123;refine⟨nG kr,?_⟩;refine zDv kr (nrm ?_);refine yR ?_;refine lJ hr19 Z123 (fun w124 Z124 G124=>xR.next ?_);exact⟨_,P123,(lq.set (k / 32) (lq.getD (k / 32) 0+2^(k % 32))),[(g91,.cells P106 143 (0,0))],(some ⟨g91,0,none⟩),O91,ls106,(2*q+1),Z124,(Le10 G23 G87 G91 G93 G97 G106 G108 G109 G123 G124),D123,.inr ⟨_,_,rfl,rfl,D106⟩,hcan106,by rw[hset3,hvq,Nat.pow_succ,Nat.mul_add,Nat.mul_one];congr 1;ac_rfl,divA hdiv (hval106.trans (by rw[hval91])) (by omega),by have:=hval106;omega⟩
 have hF125:=hF99.set 21 (v':= .bool false) kr rfl (zK J100);have F126:¬((qU (val ls91) (val l2))≥0):=of_decide_eq_false J100;have hcmp:=zFy F126;refine wM ?_;refine yR ?_;refine lJ hr19 Z97 (fun w127 Z127 G127=>xR.next ?_);exact⟨_,curq,lq,[(g91,.cells P91 143 (0,0))],(some ⟨g91,0,none⟩),O91,ls91,(2*q),Z127,(Le6 G23 G87 G91 G93 G97 G127),hrowq,.inr ⟨_,_,rfl,rfl,D91⟩,hcan91,by rw[hvq,Nat.pow_succ];ac_rfl,qRn hdiv hval91,hcmp⟩
 rintro w128 ⟨Y128,curq,lq,rb,adr,capr,lr,q,Z128,G128,hp128_0,hp128_1,hp128_2,hp128_3,hp128_4,hp128_5⟩;refine vM.norm hr19 Z128 (fun w129 Z129 G129=>?_);have hrowq:=hp128_0;have hrst:=hp128_1;have hcanlr:=hp128_2;have hvq:=hp128_3;have hdiv:=hp128_4;have hlt:=hp128_5;rcases hrst with⟨rfl,rfl,rfl,rfl⟩ | ⟨gr,curr,rfl,rfl,hrowr⟩
 refine yR<|zA (hK13 _ _ ?_);refine zG (fun K130 hK130=>?_);refine dG (N:=5) (kD [(⟨b6,0,none⟩,[.slice none 0 0])]) [4] kr kr kr Z129 ?_;intro w131 Z131 G131 N131;refine mK (kD.cons (Z131.cells 4 rfl rfl) (kD.nil _)) (fun hH131=>?_);refine pX (d:=37) (v:= .slice none 0 0) 2 hF20 rfl kr kr kr (fun w hw=>zB (t:=26) (g:=false) (vs:=[.slice none 0 0]) (ad:=⟨b6,0,none⟩) rfl kr kr ir (hw.get 0 kr)) hH131 ?_;intro a132 hF132;refine wQ [0] kr rfl ?_;refine yL.cons (i:=0) hF132 rfl kr (zF (d:=35) (v:= .slice (some ⟨b10,0,none⟩) l.length l.length) hF132 kr (zB (t:=26) (g:=false) (vs:=[.slice (some ⟨b10,0,none⟩) l.length l.length]) (ad:=⟨b4,0,none⟩) rfl kr kr ir (Z131.cells 5 rfl rfl)) ?_) yL.nil;intro a133 hF133;refine wL (kD.cons (Z131.cells 4 rfl rfl) (kD.nil _)) (fun hH131=>?_);refine wQ [1] kr rfl ?_;refine yL.cons (i:=1) hF133 rfl kr (kC (d:=36) (f:=119) (cap:=#[]) (vs:=#[.slice (some ⟨b10,0,none⟩) l.length l.length]) hF133 kr Z131 rfl kr kr (fun w=>Tryz.call119 _ w) (aT _ X0 (qV _) _ _ _ lq (qG.limbs (Y:=X0) hrowq (Z131.get 3 rfl) (fun _ h=>h.elim))) ?_) yL.nil;rintro v134 w134 Z134 G134 N134 rfl a135 hF135;refine wL (kD.cons (Z134.cells 4 rfl rfl) (kD.nil _)) (fun hH134=>?_);refine wQ [3] kr rfl ?_;refine yL.cons (i:=3) hF135 rfl kr (zE (t:=26) (b:=b4) (off:=0) (c':=#[.slice (some ⟨b10,0,none⟩) (jP lq) l.length]) (g:=false) (m:=1) 5 _ hF135 kr Z134 rfl kr rfl kr kr kr rfl (by first | decide | (simp;done)) kr rfl ?_) yL.nil
 intro w136 Z136 G136;refine wL (kD.cons (Z136.cells 4 rfl rfl) (kD.nil _)) (fun hH136=>?_);refine wQ [4] kr rfl ?_;refine yL.cons (i:=4) hF135 rfl kr (zE (t:=26) (b:=b6) (off:=0) (c':=#[.slice none 0 0]) (g:=false) (m:=1) 4 _ hF135 kr Z136 rfl kr rfl kr kr kr rfl (by first | decide | (simp;done)) kr rfl ?_) yL.nil
 intro w137 Z137 G137;refine⟨nG kr,?_⟩;refine zDv kr (nrm ?_);refine zA (hK130 _ _ ?_);refine nS<|zMg (v:= .tuple #[.slice (some ⟨b10,0,none⟩) (jP lq) l.length,.slice none 0 0]) (rs:=[.cell 4 26,.cell 5 26]) (vs:=[.slice (some ⟨b10,0,none⟩) (jP lq) l.length,.slice none 0 0]) 1 hF135 Z137 rfl kr kr (fun w138 Z138 G138=>?_);refine⟨(Res.cell (ad:=⟨b4,0,none⟩) (cs:=[.slice (some ⟨b10,0,none⟩) (jP lq) l.length]) (g:=false) kr kr kr ir (Z138.cells 5 rfl rfl) (Res.cell (ad:=⟨b6,0,none⟩) (cs:=[.slice none 0 0]) (g:=false) kr kr kr ir (Z138.cells 4 rfl rfl) Res.nil)),?_⟩;obtain⟨he1,he2⟩:=qCe hdiv hlt hvq;exact⟨Z138.upd,_,rfl,_,_,Go.Gv.trimmed lq,[],_,_,_,_,_,_,rfl,⟨⟨rfl,(jQ _).symm,wR hrowq.lt,.inr ⟨_,_,rfl,Z138.own_ge 3 rfl,Z138.get 3 rfl,hrowq.trimmed⟩⟩,yS _,by rw[xJ];exact he1⟩,⟨⟨rfl,rfl,fun x hx=>by simp at hx,.inl ⟨rfl,rfl,rfl⟩⟩,.inl rfl,he2⟩⟩
 refine yR<|zA (hK13 _ _ ?_);refine zG (fun K139 hK139=>?_);refine dG (N:=5) (kD [(⟨b6,0,none⟩,[.slice (some ⟨gr,0,none⟩) lr.length capr])]) [4] kr kr kr Z129 ?_;intro w140 Z140 G140 N140;refine mK (kD.cons (Z140.cells 4 rfl rfl) (kD.nil _)) (fun hH140=>?_);refine pX (d:=37) (v:= .slice (some ⟨gr,0,none⟩) lr.length capr) 2 hF20 rfl kr kr kr (fun w hw=>zB (t:=26) (g:=false) (vs:=[.slice (some ⟨gr,0,none⟩) lr.length capr]) (ad:=⟨b6,0,none⟩) rfl kr kr ir (hw.get 0 kr)) hH140 ?_;intro a141 hF141;refine wQ [0] kr rfl ?_;refine yL.cons (i:=0) hF141 rfl kr (zF (d:=35) (v:= .slice (some ⟨b10,0,none⟩) l.length l.length) hF141 kr (zB (t:=26) (g:=false) (vs:=[.slice (some ⟨b10,0,none⟩) l.length l.length]) (ad:=⟨b4,0,none⟩) rfl kr kr ir (Z140.cells 5 rfl rfl)) ?_) yL.nil;intro a142 hF142;refine wL (kD.cons (Z140.cells 4 rfl rfl) (kD.nil _)) (fun hH140=>?_);refine wQ [1] kr rfl ?_;refine yL.cons (i:=1) hF142 rfl kr (kC (d:=36) (f:=119) (cap:=#[]) (vs:=#[.slice (some ⟨b10,0,none⟩) l.length l.length]) hF142 kr Z140 rfl kr kr (fun w=>Tryz.call119 _ w) (aT _ X0 (qV _) _ _ _ lq (qG.limbs (Y:=X0) hrowq (Z140.get 3 rfl) (fun _ h=>h.elim))) ?_) yL.nil;rintro v143 w143 Z143 G143 N143 rfl a144 hF144;refine wL (kD.cons (Z143.cells 4 rfl rfl) (kD.nil _)) (fun hH143=>?_);refine wQ [3] kr rfl ?_;refine yL.cons (i:=3) hF144 rfl kr (zE (t:=26) (b:=b4) (off:=0) (c':=#[.slice (some ⟨b10,0,none⟩) (jP lq) l.length]) (g:=false) (m:=1) 5 _ hF144 kr Z143 rfl kr rfl kr kr kr rfl (by first | decide | (simp;done)) kr rfl ?_) yL.nil
 intro w145 Z145 G145;refine wL (kD.cons (Z145.cells 4 rfl rfl) (kD.nil _)) (fun hH145=>?_);refine wQ [4] kr rfl ?_;refine yL.cons (i:=4) hF144 rfl kr (zE (t:=26) (b:=b6) (off:=0) (c':=#[.slice (some ⟨gr,0,none⟩) lr.length capr]) (g:=false) (m:=1) 4 _ hF144 kr Z145 rfl kr rfl kr kr kr rfl (by first | decide | (simp;done)) kr rfl ?_) yL.nil
 intro w146 Z146 G146;refine⟨nG kr,?_⟩;refine zDv kr (nrm ?_);refine zA (hK139 _ _ ?_);refine nS<|zMg (v:= .tuple #[.slice (some ⟨b10,0,none⟩) (jP lq) l.length,.slice (some ⟨gr,0,none⟩) lr.length capr]) (rs:=[.cell 4 26,.cell 5 26]) (vs:=[.slice (some ⟨b10,0,none⟩) (jP lq) l.length,.slice (some ⟨gr,0,none⟩) lr.length capr]) 1 hF144 Z146 rfl kr kr (fun w147 Z147 G147=>?_);refine⟨(Res.cell (ad:=⟨b4,0,none⟩) (cs:=[.slice (some ⟨b10,0,none⟩) (jP lq) l.length]) (g:=false) kr kr kr ir (Z147.cells 5 rfl rfl) (Res.cell (ad:=⟨b6,0,none⟩) (cs:=[.slice (some ⟨gr,0,none⟩) lr.length capr]) (g:=false) kr kr kr ir (Z147.cells 4 rfl rfl) Res.nil)),?_⟩;obtain⟨he1,he2⟩:=qCe hdiv hlt hvq;exact⟨Z147.upd,_,rfl,_,_,Go.Gv.trimmed lq,lr,_,_,_,_,_,_,rfl,⟨⟨rfl,(jQ _).symm,wR hrowq.lt,.inr ⟨_,_,rfl,Z147.own_ge 3 rfl,Z147.get 3 rfl,hrowq.trimmed⟩⟩,yS _,by rw[xJ];exact he1⟩,⟨⟨rfl,rfl,hrowr.lt,.inr ⟨_,_,rfl,Z147.own_ge 7 rfl,Z147.get 7 rfl,hrowr⟩⟩,hcanlr,he2⟩⟩
 intro k w9 N9 hm1 hm2;exact⟨_,(List.replicate l.length (Value.int .u32 0)).toArray,(List.replicate l.length 0),[],none,0,[],0,Z19.call N9,N9.le _,D10,.inl ⟨rfl,rfl,rfl,rfl⟩,.inl rfl,by rw[wW];rfl,by rw[Nat.div_eq_of_lt hm1];simp[val],hd⟩
set_option maxHeartbeats 1000000
def zEp(y:Nat):Int:=if y=0 then 14 else 0
theorem zNt(w:World)(X:Hid)(hX:∀k o,X k o→k<w.heap.size)(ad:Option Addr)(len cap:Nat)(l:List Nat)(h:zT (rd w X) ad len cap l)(ad2:Option Addr)(len2 O2:Nat)(l2:List Nat)(h2:zT (rd w X) ad2 len2 O2 l2):Calls Tryz.prog 117 #[.slice ad len cap,.slice ad2 len2 O2] w (Ret E0 w fun w' v=>DivV 143 w w' (or2 (xE l l2) (zEp (val l2))) (val l / val l2) (val l % val l2) v):=by
 obtain rfl:=h.hlen;obtain rfl:=h2.hlen;have hcap:=h.hcap;have hbig:=h.hbig;have hcap2:=h2.hcap;have hbig2:=h2.hbig;refine zen Tryz.func117 ?_;have Z0:St E0 w X w X []:=St.start hX;refine zz 12<|zc Z0 (aX _ X0 (qV _) _ _ _ l (h.mono Le.x0) _ _ _ l2 (h2.mono Le.x0)) ?_;rintro v3 w3 Z3 G3 N3 rfl;refine zz 11<|zb 11 (b:=((xE l l2)!=0)) (fun J4=>?_) (fun J4=>?_);have F5:(xE l l2)≠0:=by simpa using J4
 refine zz 12<|zr' (v:= .tuple #[.slice none 0 0,.slice none 0 0,.int .i64 (xE l l2)]) ?_;exact⟨Z3.upd,_,rfl,by rw[zBo F5];exact .inl ⟨F5,rfl⟩⟩
 have F6:(xE l l2)=0:=by simpa using J4
 obtain⟨⟨hl1,c1⟩,hl2,c2⟩:=zAb F6;refine zz 9<|zb 15 (b:=((l2.length:Int)==0)) (fun J7=>?_) (fun J7=>?_);have F8:(l2.length:Int)=0:=by simpa using J7
 have hz:val l2=0:=by rw[List.eq_nil_of_length_eq_zero (by omega:l2.length=0)];rfl
 refine zz 11<|zr' (v:= .tuple #[.slice none 0 0,.slice none 0 0,.int .i64 14]) ?_;exact⟨Z3.upd,_,rfl,by rw[wB F6,zEp,if_pos hz];exact .inl ⟨by decide,rfl⟩⟩
 have F9:(l2.length:Int)≠0:=by simpa using J7
 have hp:0<val l2:=nL c2 (by rintro rfl;simp at F9)
 refine zz 8<|zc Z3 (qCf _ X0 (qV _) _ _ _ l ((h.mono G3).mono Le.x0) _ _ _ l2 ((h2.mono G3).mono Le.x0) c1 c2 (by omega) (by omega) hp) ?_
 rintro v11 w11 Z11 G11 N11 ⟨u11,v211,lq11,lr11,adq11,lenq11,capq11,adr11,lenr11,capr11,rfl,hq11,hr11⟩;obtain rfl:=hq11.own.hv;obtain rfl:=hr11.own.hv;refine zz 17<|zr' (v:= .tuple #[.slice adq11 lenq11 capq11,.slice adr11 lenr11 capr11,.int .i64 0]) ?_;have hsz:=(Z3).upd.size;exact⟨Z11.upd,_,rfl,by rw[wB F6,zEp,if_neg (by omega)];exact .inr ⟨rfl,_,_,_,_,_,_,_,_,_,_,rfl,hq11.back hsz,Nat.le_trans (jE h.hlt hq11.canon (by rw[hq11.val];exact Nat.div_le_self _ _)) hl1,hr11.back hsz,Nat.le_trans (jE h.hlt hr11.canon (by rw[hr11.val];exact Nat.mod_le _ _)) hl1⟩⟩
set_option maxHeartbeats 1000000
theorem dA{l l2:List Nat}(h:l.length≤512)(hc:jC l)(h2:l2.length≤512)(J2:jC l2):xE l l2=0:=by
 unfold xE;rw[zEx h hc,zEx h2 J2];rfl
theorem jBi(w:World)(ad:Option Addr)(len cap x:Nat)(h:qH (rd w X0) ad len cap x)(ad2:Option Addr)(len2 O2 y:Nat)(h2:qH (rd w X0) ad2 len2 O2 y)(hx:x<4294967296^512)(hy:y<4294967296^512)(hf:x*y<4294967296^512):Calls Tryz.prog 118 #[.slice ad len cap,.slice ad2 len2 O2] w (Ret E0 w fun w' v=>∃u,v= .tuple #[u,.int .i64 0]∧zKv w w' u (x*y)):=by
 obtain⟨l,hl,hc,rfl,hn⟩:=h.limbs hx;obtain⟨l2,hl2,J2,rfl,hn2⟩:=h2.limbs hy;refine(jBh w X0 (qV _) ad len cap l hl ad2 len2 O2 l2 hl2).mono ?_;rintro e w' ⟨hu,v,rfl,hv⟩;obtain⟨u,lr,adr,lenr,capr,rfl,hown,_⟩:=hv.ok (by rw[wB (dA hn hc hn2 J2)];unfold zXx;rw[if_pos hf])
 exact⟨hu,_,rfl,u,rfl,hown.natV⟩
theorem jBd(w:World)(ad:Option Addr)(len cap x:Nat)(h:qH (rd w X0) ad len cap x)(ad2:Option Addr)(len2 O2 y:Nat)(h2:qH (rd w X0) ad2 len2 O2 y)(hx:x<4294967296^512)(hy:y<4294967296^512)(hf:x+y<4294967296^512):Calls Tryz.prog 120 #[.slice ad len cap,.slice ad2 len2 O2] w (Ret E0 w fun w' v=>∃u,v= .tuple #[u,.int .i64 0]∧zKv w w' u (x+y)):=by
 obtain⟨l,hl,hc,rfl,hn⟩:=h.limbs hx;obtain⟨l2,hl2,J2,rfl,hn2⟩:=h2.limbs hy;refine(jBc w X0 (qV _) ad len cap l hl ad2 len2 O2 l2 hl2).mono ?_;rintro e w' ⟨hu,v,rfl,hv⟩;obtain⟨u,lr,adr,lenr,capr,rfl,hown,_⟩:=hv.ok (by rw[wB (dA hn hc hn2 J2)];unfold zXx;rw[if_pos hf])
 exact⟨hu,_,rfl,u,rfl,hown.natV⟩
theorem qNt(w:World)(ad:Option Addr)(len cap x:Nat)(h:qH (rd w X0) ad len cap x)(ad2:Option Addr)(len2 O2 y:Nat)(h2:qH (rd w X0) ad2 len2 O2 y)(hx:x<4294967296^512)(hy:y<4294967296^512)(hf:y≤x):Calls Tryz.prog 121 #[.slice ad len cap,.slice ad2 len2 O2] w (Ret E0 w fun w' v=>∃u,v= .tuple #[u,.int .i64 0]∧zKv w w' u (x-y)):=by
 obtain⟨l,hl,hc,rfl,hn⟩:=h.limbs hx;obtain⟨l2,hl2,J2,rfl,hn2⟩:=h2.limbs hy;refine(qNs w X0 (qV _) ad len cap l hl ad2 len2 O2 l2 hl2).mono ?_;rintro e w' ⟨hu,v,rfl,hv⟩;obtain⟨u,lr,adr,lenr,capr,rfl,hown,_⟩:=hv.ok (by rw[wB (dA hn hc hn2 J2)];unfold zTr;rw[if_neg (by omega)])
 exact⟨hu,_,rfl,u,rfl,hown.natV⟩
theorem qAj(w:World)(ad:Option Addr)(len cap x:Nat)(h:qH (rd w X0) ad len cap x)(ad2:Option Addr)(len2 O2 y:Nat)(h2:qH (rd w X0) ad2 len2 O2 y)(hx:x<4294967296^512)(hy:y<4294967296^512)(hf:x<y):Calls Tryz.prog 121 #[.slice ad len cap,.slice ad2 len2 O2] w (Ret E0 w fun _ v=>v= .tuple #[.slice none 0 0,.int .i64 7]):=by
 obtain⟨l,hl,hc,rfl,hn⟩:=h.limbs hx;obtain⟨l2,hl2,J2,rfl,hn2⟩:=h2.limbs hy;refine(qNs w X0 (qV _) ad len cap l hl ad2 len2 O2 l2 hl2).mono ?_;rintro e w' ⟨hu,v,rfl,hv⟩;have he:or2 (xE l l2) (zTr (val l) (val l2))=7:=by rw[wB (dA hn hc hn2 J2)];unfold zTr;rw[if_pos hf]
 rw[he]at hv;exact⟨hu,_,rfl,hv.err (by decide)⟩
theorem zZr(w:World)(ad:Option Addr)(len cap x:Nat)(h:qH (rd w X0) ad len cap x)(ad2:Option Addr)(len2 O2 y:Nat)(h2:qH (rd w X0) ad2 len2 O2 y)(hx:x<4294967296^512)(hy:y<4294967296^512):Calls Tryz.prog 72 #[.slice ad len cap,.slice ad2 len2 O2] w (Ret E0 w fun w' v=>∃u,v= .tuple #[u,.int .i64 0]∧zKv w w' u (Nat.gcd x y)):=by
 obtain⟨l,hl,hc,rfl,hn⟩:=h.limbs hx;obtain⟨l2,hl2,J2,rfl,hn2⟩:=h2.limbs hy;refine(jBf w X0 (qV _) ad len cap l hl ad2 len2 O2 l2 hl2).mono ?_;rintro e w' ⟨hu,v,rfl,hv⟩;obtain⟨u,lr,adr,lenr,capr,rfl,hown,_⟩:=hv.ok (dA hn hc hn2 J2);exact⟨hu,_,rfl,u,rfl,hown.natV⟩
theorem zNu(w:World)(ad:Option Addr)(len cap x:Nat)(h:qH (rd w X0) ad len cap x)(ad2:Option Addr)(len2 O2 y:Nat)(h2:qH (rd w X0) ad2 len2 O2 y)(hx:x<4294967296^512)(hy:y<4294967296^512)(hd:0<y):Calls Tryz.prog 117 #[.slice ad len cap,.slice ad2 len2 O2] w (Ret E0 w fun w' v=>∃u u2,v= .tuple #[u,u2,.int .i64 0]∧zKv w w' u (x / y)∧zKv w w' u2 (x % y)):=by
 obtain⟨l,hl,hc,rfl,hn⟩:=h.limbs hx;obtain⟨l2,hl2,J2,rfl,hn2⟩:=h2.limbs hy;refine(zNt w X0 (qV _) ad len cap l hl ad2 len2 O2 l2 hl2).mono ?_;rintro e w' ⟨hu,v,rfl,hv⟩;have he:or2 (xE l l2) (zEp (val l2))=0:=by rw[wB (dA hn hc hn2 J2)];unfold zEp;rw[if_neg (by omega)]
 rcases hv with⟨h0,_⟩ | ⟨_,u,u2,a1,a2,a3,a4,a5,a6,a7,a8,rfl,hq,_,hr,_⟩
 ·exact absurd he h0
 ·exact⟨hu,_,rfl,u,u2,rfl,hq.natV,hr.natV⟩
theorem zEy(w:World)(ad:Option Addr)(len cap x:Nat)(h:qH (rd w X0) ad len cap x)(hx:x<4294967296^512):Calls Tryz.prog 112 #[.slice ad len cap] w (Ret E0 w fun w' v=>zKv w w' v x):=by
 obtain⟨l,hl,hc,rfl,hn⟩:=h.limbs hx;refine(zAc w X0 (qV _) ad len cap l hl (by rw[hl.hlen];omega)).mono ?_
 rintro e w' ⟨hu,v,rfl,ad',len',cap',hown⟩;exact⟨hu,_,rfl,aV.natV ⟨hown,hc,rfl⟩⟩
theorem qCy(w:World)(x:Nat)(hx:x<18446744073709551616):Calls Tryz.prog 75 #[.int .u64 (x:Int)] w (Ret E0 w fun w' v=>zKv w w' v x):=by
 refine(qTa w X0 (qV _) x hx).mono ?_;rintro e w' ⟨hu,v,rfl,l,ad,len,cap,h1,h2,h3⟩;exact⟨hu,_,rfl,aV.natV ⟨h1,h2,h3⟩⟩
section
variable (w:World)(X:Hid)(hX:∀k o,X k o→k<w.heap.size)
set_option maxHeartbeats 1000000
include hX in
theorem zCf(ad:Option Addr)(len cap x:Nat)(h:qH (rd w X) ad len cap x)(ad2:Option Addr)(len2 O2 y:Nat)(h2:qH (rd w X) ad2 len2 O2 y)(hx:x<4294967296^512)(hy:y<4294967296^512)(hf:x*y<4294967296^512):Calls Tryz.prog 74 #[.slice ad len cap,.slice ad2 len2 O2] w (Ret E0 w fun w' v=>zRq X w' v (x*y)):=by
 refine zen Tryz.func74 ?_;have Z0:St E0 w X w X []:=St.start hX;refine zz 9<|zc Z0 (jBi _ _ _ _ x (h.mono Le.x0) _ _ _ y (h2.mono Le.x0) (by first | assumption | omega) (by first | assumption | omega) (by first | assumption | omega)) ?_
 rintro v3 w3 Z3 G3 N3 ⟨u3,rfl,⟨ad3,len3,O3,rfl,hn3⟩⟩;have hN3:=hn3 _ Z0.lt;refine zz 14<|zr' (v:= .slice ad3 len3 O3) ?_;exact⟨Z3.upd,_,rfl,Z3.lastN hN3⟩
include hX in
theorem qZf(ad:Option Addr)(len cap x:Nat)(h:qH (rd w X) ad len cap x)(ad2:Option Addr)(len2 O2 y:Nat)(h2:qH (rd w X) ad2 len2 O2 y)(hx:x<4294967296^512)(hy:y<4294967296^512)(hf:x+y<4294967296^512):Calls Tryz.prog 77 #[.slice ad len cap,.slice ad2 len2 O2] w (Ret E0 w fun w' v=>zRq X w' v (x+y)):=by
 refine zen Tryz.func77 ?_;have Z0:St E0 w X w X []:=St.start hX;refine zz 9<|zc Z0 (jBd _ _ _ _ x (h.mono Le.x0) _ _ _ y (h2.mono Le.x0) (by first | assumption | omega) (by first | assumption | omega) (by first | assumption | omega)) ?_
 rintro v3 w3 Z3 G3 N3 ⟨u3,rfl,⟨ad3,len3,O3,rfl,hn3⟩⟩;have hN3:=hn3 _ Z0.lt;refine zz 14<|zr' (v:= .slice ad3 len3 O3) ?_;exact⟨Z3.upd,_,rfl,Z3.lastN hN3⟩
include hX in
theorem qEb(ad:Option Addr)(len cap x:Nat)(h:qH (rd w X) ad len cap x)(ad2:Option Addr)(len2 O2 y:Nat)(h2:qH (rd w X) ad2 len2 O2 y)(hx:x<4294967296^512)(hy:y<4294967296^512)(hf:y≤x):Calls Tryz.prog 78 #[.slice ad len cap,.slice ad2 len2 O2] w (Ret E0 w fun w' v=>∃u,v= .tuple #[u,.bool false]∧zRq X w' u (x-y)):=by
 refine zen Tryz.func78 ?_;have Z0:St E0 w X w X []:=St.start hX;refine zz 11<|zc Z0 (qNt _ _ _ _ x (h.mono Le.x0) _ _ _ y (h2.mono Le.x0) (by first | assumption | omega) (by first | assumption | omega) (by first | assumption | omega)) ?_
 rintro v3 w3 Z3 G3 N3 ⟨u3,rfl,⟨ad3,len3,O3,rfl,hn3⟩⟩;have hN3:=hn3 _ Z0.lt;refine zz 23<|zr' (v:= .tuple #[.slice ad3 len3 O3,.bool false]) ?_;exact⟨Z3.upd,_,rfl,_,rfl,Z3.lastN hN3⟩
include hX in
theorem qEc(ad:Option Addr)(len cap x:Nat)(h:qH (rd w X) ad len cap x)(ad2:Option Addr)(len2 O2 y:Nat)(h2:qH (rd w X) ad2 len2 O2 y)(hx:x<4294967296^512)(hy:y<4294967296^512)(hf:x<y):Calls Tryz.prog 78 #[.slice ad len cap,.slice ad2 len2 O2] w (Ret E0 w fun w' v=>∃u,v= .tuple #[u,.bool true]∧zRq X w' u (y-x)):=by
 refine zen Tryz.func78 ?_;have Z0:St E0 w X w X []:=St.start hX;refine zz 11<|zc Z0 (qAj _ _ _ _ x (h.mono Le.x0) _ _ _ y (h2.mono Le.x0) (by first | assumption | omega) (by first | assumption | omega) (by first | assumption | omega)) ?_
 rintro v3 w3 Z3 G3 N3 rfl;refine zz 20<|zc Z3 (qNt _ _ _ _ y ((h2.mono G3).mono Le.x0) _ _ _ x ((h.mono G3).mono Le.x0) (by first | assumption | omega) (by first | assumption | omega) (by first | assumption | omega)) ?_
 rintro v5 w5 Z5 G5 N5 ⟨u5,rfl,⟨ad5,len5,O5,rfl,hn5⟩⟩;have hN5:=hn5 _ Z3.lt;refine zz 15<|zr' (v:= .tuple #[.slice ad5 len5 O5,.bool true]) ?_;exact⟨Z5.upd,_,rfl,_,rfl,Z5.lastN hN5⟩
include hX in
theorem qKs(ad:Option Addr)(len cap x:Nat)(h:qH (rd w X) ad len cap x)(ad2:Option Addr)(len2 O2 y:Nat)(h2:qH (rd w X) ad2 len2 O2 y)(hx:x<4294967296^512)(hy:y<4294967296^512):Calls Tryz.prog 78 #[.slice ad len cap,.slice ad2 len2 O2] w (Ret E0 w fun w' v=>∃u,v= .tuple #[u,.bool (decide (x<y))]∧zRq X w' u (if x<y then y-x else x-y)):=by
 by_cases hf:x<y
 ·rw[if_pos hf,decide_eq_true hf];exact qEc w X hX ad len cap x h ad2 len2 O2 y h2 hx hy hf
 ·rw[if_neg hf,decide_eq_false hf];exact qEb w X hX ad len cap x h ad2 len2 O2 y h2 hx hy (by omega)
include hX in
theorem zDx(ad:Option Addr)(len cap x:Nat)(h:qH (rd w X) ad len cap x):Calls Tryz.prog 71 #[.slice ad len cap] w (Ret E0 w fun _ v=>v= .bool (decide (x=1))):=by
 refine zen Tryz.func71 ?_;have Z0:St E0 w X w X []:=St.start hX;refine zz 11<|zb 6 (b:=((len:Int)==1)) (fun J2=>?_) (fun J2=>?_);have F3:(len:Int)=1:=by simpa using J2
 obtain⟨bk,of,rfl,hx1,hat⟩:=h.one (by omega)
 refine zz 1<|zi (b:=bk) (off:=of) (len:=len) (cap:=cap) (kd:= .i64) (i:=0) 1 of ?_ (hoff:=kr);refine zl (hat).cells<|zz 6<|zr' (v:= .bool ((x:Int)==1)) ?_;exact⟨Z0.upd,_,rfl,zK (by rw[Bool.eq_iff_iff];simp;omega)⟩
 have F4:(len:Int)≠1:=by simpa using J2
 have hx1:x≠1:=fun e=>by subst e;exact absurd h.of_one (by omega)
 refine zz 9<|zr' (v:= .bool false) ?_;exact⟨Z0.upd,_,rfl,zK (by simp[hx1])⟩
end
set_option maxHeartbeats 1000000
theorem zDi(w:World)(X:Hid)(hX:∀k o,X k o→k<w.heap.size)(n:Int)(h1: -9223372036854775808≤n)(h2:n≤9223372036854775807):Calls Tryz.prog 36 #[.int .i64 n] w (Ret E0 w fun w' v=>zRq X w' v n.natAbs):=by
 refine zen Tryz.func36 ?_;have Z0:St E0 w X w X []:=St.start hX;refine zz 12<|zt 4 (p:=(n)<0) (fun F2=>?_) (fun F2=>?_);refine zz 5<|zs 6 (v:= .int .u64 (IntKind.u64.wrap (n))) (v':= .int .u64 (n+18446744073709551616)) (qA (by rw[zIi];omega))<|zz 1<|zs 7 (v:= .int .u64 (IntKind.u64.wrap ((0:Int)-(n+18446744073709551616)))) (v':= .int .u64 ((n.natAbs:Nat):Int)) (qA (by rw[zIi];omega))<|zc Z0 (qCy _ n.natAbs (by omega)) ?_
 rintro v4 w4 Z4 G4 N4 ⟨ad4,len4,O4,rfl,hn4⟩;have hN4:=hn4 _ Z0.lt;refine zz 5<|zr' (v:= .slice ad4 len4 O4) ?_;exact⟨Z4.upd,_,rfl,Z4.lastN hN4⟩;refine zz 7<|zs 10 (v:= .int .u64 (IntKind.u64.wrap (n))) (v':= .int .u64 ((n.natAbs:Nat):Int)) (qA (by rw[zIi];omega))<|zc Z0 (qCy _ n.natAbs (by omega)) ?_
 rintro v6 w6 Z6 G6 N6 ⟨ad6,len6,O6,rfl,hn6⟩;have hN6:=hn6 _ Z0.lt;refine zz 4<|zr' (v:= .slice ad6 len6 O6) ?_;exact⟨Z6.upd,_,rfl,Z6.lastN hN6⟩
theorem qDz(w:World)(X:Hid)(hX:∀k o,X k o→k<w.heap.size)(ad:Option Addr)(len cap x:Nat)(h:qH (rd w X) ad len cap x)(ad2:Option Addr)(len2 O2 y:Nat)(h2:qH (rd w X) ad2 len2 O2 y)(sg:Bool)(hx:x<4294967296^512)(hy:y<4294967296^512)(hd:0<y):Calls Tryz.prog 73 #[.agg #[.slice ad len cap,.slice ad2 len2 O2,.bool sg]] w (Ret E0 w fun w' v=>zIm (old w) w' v (mkRat (sgn sg x) y)):=by
 refine zen Tryz.func73 ?_;have Z0:St E0 w X w X []:=St.start hX;refine zz 2<|zn pn (.cells #[.slice ad len cap,.slice ad2 len2 O2,.bool sg] 79 (0,0)) Z0 fun b3 w3 Y3 Z3 G3 N3=>zn pn (.cells #[.bool false,.slice none 0 0,.slice none 0 0] 28 (0,0)) Z3 fun b5 w5 Y5 Z5 G5 N5=>zz 7<|zo 1 Z5<|zz 4<|zb 10 (b:=((len:Int)==0)) (fun J6=>?_) (fun J6=>?_);have F7:(len:Int)=0:=by simpa using J6
 have hx0:x=0:=h.len0.1 (by omega)
 refine zz 4<|zx 0 #[.bool false,.slice none 0 0,.slice none 0 0] Z5 fun w8 Z8 G8=>zz 4<|zrS [.cell 2 28] (v:= .agg #[.bool false,.slice none 0 0,.slice none 0 0]) (Res.cM Z8 0 Res.nil) ?_;exact⟨Z8.upd,_,rfl,by rw[hx0];exact qHs y⟩
 have F9:(len:Int)≠0:=by simpa using J6
 have hx0:x≠0:=fun e=>absurd (h.len0.2 e) (by omega)
 have hgp:0<Nat.gcd x y:=Nat.gcd_pos_of_pos_right _ hd;have hgb:Nat.gcd x y<4294967296^512:=Nat.lt_of_le_of_lt (Nat.gcd_le_right _ hd) hy;have hb1:x / Nat.gcd x y<4294967296^512:=Nat.lt_of_le_of_lt (Nat.div_le_self _ _) hx;have hb2:y / Nat.gcd x y<4294967296^512:=Nat.lt_of_le_of_lt (Nat.div_le_self _ _) hy;refine zz 8<|zo 1 Z5<|zz 2<|zo 1 Z5<|zc Z5 (zZr _ _ _ _ x ((h.mono (Le2 G3 G5)).mono Le.x0) _ _ _ y ((h2.mono (Le2 G3 G5)).mono Le.x0) (by first | assumption | omega) (by first | assumption | omega)) ?_
 rintro v11 w11 Z11 G11 N11 ⟨u11,rfl,⟨ad11,len11,O11,rfl,hn11⟩⟩;have hN11:=hn11 _ Z5.lt;refine zz 10<|zc Z11 (zDx _ _ Z11.lt _ _ _ (Nat.gcd x y) hN11) ?_;rintro v13 w13 Z13 G13 N13 rfl;refine zz 3<|zb 24 (b:=!(decide (Nat.gcd x y=1))) (fun J14=>?_) (fun J14=>?_);have F15:¬(Nat.gcd x y=1):=by simpa using J14
 refine zz 5<|zo 1 Z13<|zz 1 ?_;have J1_:=(Le3 G3 G5 G11).trans G13;refine zc Z13 (zNu _ _ _ _ x ((h.mono J1_).mono Le.x0) _ _ _ (Nat.gcd x y) ((hN11.mono G13).mono Le.x0) (by first | assumption | omega) (by first | assumption | omega) (by assumption)) ?_
 rintro v17 w17 Z17 G17 N17 ⟨u17,v217,rfl,⟨ad17,len17,O17,rfl,hn17⟩,⟨ae17,le17,ce17,rfl,hm17⟩⟩;have hN17:=hn17 _ Z13.lt;refine zz 6<|zx 1 #[.slice ad17 len17 O17,.slice ad2 len2 O2,.bool sg] Z17 fun w18 Z18 G18=>zz 5<|zo 1 Z18<|zz 1 ?_;have J2_:=(J1_.trans G17).trans G18;refine zc Z18 (zNu _ _ _ _ y ((h2.mono J2_).mono Le.x0) _ _ _ (Nat.gcd x y) ((hN11.mono (Le3 G13 G17 G18)).mono Le.x0) (by first | assumption | omega) (by first | assumption | omega) (by assumption)) ?_
 rintro v20 w20 Z20 G20 N20 ⟨u20,v220,rfl,⟨ad20,len20,O20,rfl,hn20⟩,⟨ae20,le20,ce20,rfl,hm20⟩⟩;have hN20:=hn20 _ Z18.lt;refine zz 6<|zx 1 #[.slice ad17 len17 O17,.slice ad20 len20 O20,.bool sg] Z20 fun w21 Z21 G21=>zz 3<|zdr Z21<|gz [0]<|gw 1 1<|gz [2,3]<|gw 4 1<|gp (al 7 5 pn (.cells #[.bool false,.slice none 0 0,.slice none 0 0] 28 (0,0))) ?_;have J3_:=(Le2 G18 G20).trans G21;refine gC 5 (fun w22 Y22 _ Z22 G22=>(zEy _ _ _ _ (x / (Nat.gcd x y)) ((hN17.mono (J3_.trans G22)).mono Le.x0) (by first | assumption | omega))) ?_ (hPd:=kW.nil.k)
 rintro v23 w22 Y23 w23 Z22 G23 ⟨ad23,len23,O23,rfl,hn23⟩;have hN23:=hn23 _ Z22.lt;refine gz [6]<|gs1 (fun b24=>?_) kW.nil.k;refine gX 8 0 #[.bool sg,.slice ad23 len23 O23,.slice none 0 0] fun w25 Y25 G25=>zCy (fun w26 Y26 Z26 G26=>?_);refine zz 6<|zo 2 Z26 ?_;have J4_:=(Le3 G21 G23 G25).trans G26;refine zc Z26 (zDx _ _ Z26.lt _ _ _ (y / (Nat.gcd x y)) (hN20.mono J4_)) ?_;rintro v28 w28 Z28 G28 N28 rfl;refine zz 3<|zb 58 (b:=!(decide (y / (Nat.gcd x y)=1))) (fun J29=>?_) (fun J29=>?_);have F30:¬(y / (Nat.gcd x y)=1):=by simpa using J29
 refine zz 4<|zo 2 Z28 ?_;have J5_:=J4_.trans G28;refine zc Z28 (zEy _ _ _ _ (y / (Nat.gcd x y)) ((hN20.mono J5_).mono Le.x0) (by first | assumption | omega)) ?_
 rintro v32 w32 Z32 G32 N32 ⟨ad32,zGm,O32,rfl,hn32⟩;have hN32:=hn32 _ Z28.lt;refine zz 1<|zx 0 #[.bool sg,.slice ad23 len23 O23,.slice ad32 zGm O32] Z32 fun w33 Z33 G33=>zz 4<|zo 0 Z33<|zx 1 #[.bool sg,.slice ad23 len23 O23,.slice ad32 zGm O32] Z33 fun w34 Z34 G34=>zz 3<|zrS [.cell 2 28] (v:= .agg #[.bool sg,.slice ad23 len23 O23,.slice ad32 zGm O32]) (Res.cM Z34 1 Res.nil) ?_;have J6_:=(Le5 G25 G26 G28 G32 G33).trans G34;refine⟨Z34.upd,_,rfl,zFd hx0 hd (by exact(((hn23 (old _) (fun _ _ h=>h)).mono (Le.own Z22.lt Z22.upd.size J6_)).mono Le.orr)) ?_⟩
 rw[pF,if_neg F30];exact(((hn32 (old _) (fun _ _ h=>h)).mono (Le.own Z28.lt Z28.upd.size (Le2 G33 G34))).mono Le.orr);have F35:y / (Nat.gcd x y)=1:=by simpa using J29
 refine zz 5<|zo 0 Z28<|zx 1 #[.bool sg,.slice ad23 len23 O23,.slice none 0 0] Z28 fun w36 Z36 G36=>zz 3<|zrS [.cell 2 28] (v:= .agg #[.bool sg,.slice ad23 len23 O23,.slice none 0 0]) (Res.cM Z36 1 Res.nil) ?_;have J7_:=(Le3 G25 G26 G28).trans G36;refine⟨Z36.upd,_,rfl,zFd hx0 hd (by exact(((hn23 (old _) (fun _ _ h=>h)).mono (Le.own Z22.lt Z22.upd.size J7_)).mono Le.orr)) ?_⟩
 rw[pF,if_pos F35];exact(qH.nil none (by omega))
 have F37:Nat.gcd x y=1:=by simpa using J14
 refine zz 4<|zdr Z13<|gz [0]<|gw 1 1<|gz [2,3]<|gw 4 1<|gp (al 7 5 pn (.cells #[.bool false,.slice none 0 0,.slice none 0 0] 28 (0,0))) ?_;have J8_:=(Le3 G3 G5 G11).trans G13;refine gC 5 (fun w38 Y38 _ Z38 G38=>(zEy _ _ _ _ x ((h.mono (J8_.trans G38)).mono Le.x0) (by first | assumption | omega))) ?_ (hPd:=kW.nil.k)
 rintro v39 w38 Y39 w39 Z38 G39 ⟨ad39,len39,O39,rfl,hn39⟩;have hN39:=hn39 _ Z38.lt;refine gz [6]<|gs1 (fun b40=>?_) kW.nil.k;refine gX 8 0 #[.bool sg,.slice ad39 len39 O39,.slice none 0 0] fun w41 Y41 G41=>zCy (fun w42 Y42 Z42 G42=>?_);refine zz 6<|zo 2 Z42 ?_;have J9_:=((J8_.trans G39).trans G41).trans G42;refine zc Z42 (zDx _ _ Z42.lt _ _ _ y (h2.mono J9_)) ?_;rintro v44 w44 Z44 G44 N44 rfl;refine zz 3<|zb 58 (b:=!(decide (y=1))) (fun J45=>?_) (fun J45=>?_);have F46:¬(y=1):=by simpa using J45
 refine zz 4<|zo 2 Z44 ?_;have J10_:=J9_.trans G44;refine zc Z44 (zEy _ _ _ _ y ((h2.mono J10_).mono Le.x0) (by first | assumption | omega)) ?_
 rintro v48 w48 Z48 G48 N48 ⟨ad48,len48,O48,rfl,hn48⟩;have hN48:=hn48 _ Z44.lt;refine zz 1<|zx 0 #[.bool sg,.slice ad39 len39 O39,.slice ad48 len48 O48] Z48 fun w49 Z49 G49=>zz 4<|zo 0 Z49<|zx 1 #[.bool sg,.slice ad39 len39 O39,.slice ad48 len48 O48] Z49 fun w50 Z50 G50=>zz 3<|zrS [.cell 2 28] (v:= .agg #[.bool sg,.slice ad39 len39 O39,.slice ad48 len48 O48]) (Res.cM Z50 1 Res.nil) ?_;have J11_:=(Le5 G41 G42 G44 G48 G49).trans G50;refine⟨Z50.upd,_,rfl,zFd hx0 hd (by rw[F37,Nat.div_one];exact(((hn39 (old _) (fun _ _ h=>h)).mono (Le.own Z38.lt Z38.upd.size J11_)).mono Le.orr)) ?_⟩
 rw[F37,Nat.div_one];rw[pF,if_neg F46];exact(((hn48 (old _) (fun _ _ h=>h)).mono (Le.own Z44.lt Z44.upd.size (Le2 G49 G50))).mono Le.orr);have F51:y=1:=by simpa using J45
 refine zz 5<|zo 0 Z44<|zx 1 #[.bool sg,.slice ad39 len39 O39,.slice none 0 0] Z44 fun w52 Z52 G52=>zz 3<|zrS [.cell 2 28] (v:= .agg #[.bool sg,.slice ad39 len39 O39,.slice none 0 0]) (Res.cM Z52 1 Res.nil) ?_;have J12_:=(Le3 G41 G42 G44).trans G52;refine⟨Z52.upd,_,rfl,zFd hx0 hd (by rw[F37,Nat.div_one];exact(((hn39 (old _) (fun _ _ h=>h)).mono (Le.own Z38.lt Z38.upd.size J12_)).mono Le.orr)) ?_⟩
 rw[F37,Nat.div_one];rw[pF,if_pos F51];exact(qH.nil none (by omega))
end Go.Proofs.YtjnpoeilfdbaaaaGreatDoor

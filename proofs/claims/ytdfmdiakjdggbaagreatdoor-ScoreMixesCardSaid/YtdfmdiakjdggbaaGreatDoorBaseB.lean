import Derived.Test.YtdfmdiakjdggbaaGreatDoorRows
import Derived.Test.YtdfmdiakjdggbaaGreatDoorBaseA
set_option linter.unusedVariables false
set_option linter.unusedSimpArgs false
set_option linter.unnecessarySimpa false
namespace Go
abbrev q6:=@List.length_set
abbrev jj:=@Int.eq_ofNat_of_zero_le
abbrev kh:=@of_decide_eq_false
abbrev ko:=@Classical.byContradiction
abbrev kz:=@Bool.or_eq_true
abbrev xo:=@Nat.eq_or_lt_of_le
abbrev xy:=@beq_eq_false_iff_ne
abbrev vd:=@Nat.lt_trichotomy
abbrev vg:=@Nat.le_mul_of_pos_right
abbrev vp:=@Nat.mul_le_mul
abbrev wj:=@Nat.div_le_self
abbrev yo:=@List.drop_eq_nil_of_le
abbrev yq:=@List.contains_iff_mem
abbrev yr:=@List.length_singleton
abbrev u4:=@Nat.gcd_zero_right
abbrev gu:=@Option.isNone_iff_eq_none
abbrev fS:=@List.mem_reverse
abbrev fY:=@Nat.lt_succ_iff_lt_or_eq
abbrev fc:=@Option.isSome_iff_exists
abbrev di:=@List.perm_append_comm
abbrev d4:=@Nat.lt_irrefl
end Go
namespace Go.Gv
open Go.RowKit IntKind
attribute [local semireducible] Go
structure Pn where
 i:Nat
 d:Nat
 deps:List Nat
 vf:(Nat→Nat)→Value
 ob:Option ((Nat→Nat)→Obj)
def al(i d:Nat)(j:Nat→Value)(f:Obj):Pn:=⟨i,d,[i],fun e=>j (e 0),some fun _=>f⟩
def Pn.loc(p:Pn)(e:Nat→Nat):Nat→Nat:=fun k=>e (p.deps.getD k p.i)
def Pn.val(p:Pn)(e:Nat→Nat):Value:=p.vf (p.loc e)
def up{α:Type}(f:Nat→α)(j:Nat)(x:α):Nat→α:=fun k=>bif Nat.beq k j then x else f k
theorem wV{α:Type}(f:Nat→α)(j:Nat)(x:α):up f j x j=x:=by simp[up]
theorem rH{α:Type}(f:Nat→α){j k:Nat}(x:α)(h:k≠j):up f j x k=f k:=by
 unfold up;cases hb:Nat.beq k j with
 | false=>rfl
 | true=>exact absurd (qm hb) h
structure Rg where
 P:Program
 ops:Array Oper
 Q:Exit→Act→World→Prop
 T:List Nat
 n:Nat
 D:List Deferred
 E:Nat→Prop
 w0:World
 X:Hid
 M0:List (Nat×Obj)
 r0:Rd
def Rg.S(R:Rg)(w:World):Prop:=(∀p∈R.M0,w.heap[p.1]?=some p.2)∧∀a v,R.r0 a=some v→w.cell? a=some v
def sel(M:List (Nat×Obj)):List Nat→List (Nat×Obj)
 | []=>[]
 | i::f=>match M[i]? with
  | some p=>p::sel M f
  | none=>sel M f
theorem zCj{M:List (Nat×Obj)}:∀{f:List Nat},∀p∈sel M f,p∈M
 | i::f,p,h=>by
  unfold sel at h;split at h
  ·rename_i q j;rcases qS.1 h with rfl | h
   ·exact qg j
   ·exact zCj p h
  ·exact zCj p h
theorem selm{M f:List (Nat×Obj)}(j:List Nat)(h:sel M j=f:=by kernel_rfl):∀p∈f,p∈M:=h▸zCj
def unl(l:Array Bool):Nat:=l.toList.countP (fun b=>!b)
def wpU(R:Rg)(l:Array Bool)(a:Act)(w:World):Prop:=∀fuel,unl l≤fuel→wpT R.P R.ops (wH R.Q) R.S R.T fuel l a w
theorem qSj{l:Array Bool}{i:Nat}(h:l.getD i true=false):unl (l.setIfInBounds i true)+1=unl l:=by
 have y:i<l.size:=by
  rcases qi i l.size with f | f
  ·exact f
  ·simp[vv f]at h
 have z:l[i]=false:=by simpa[y]using h
 have j:i<l.toList.length:=by simpa using y
 have q:l.toList[i]'j=false:=by simpa using z
 unfold unl;rw[y7,List.countP_set j];have C:0<l.toList.countP (fun b=>!b):=List.countP_pos_iff.2 ⟨_,jo j,by simp[q]⟩
 simp only[q,jr,j5,qb,k8,vu];omega
section
variable {R:Rg}{l:Array Bool}{a:Act}{w:World}{o:Oper}{L:List (Nat×Value)}
theorem zPr{i:Nat}{fuel:Nat}(j:i∈Region.ready .any R.ops l)(q:unl l≤fuel):∃f,fuel=f+1∧unl (l.setIfInBounds i true)≤f:=by
 have:=qSj (xp.1 j).1;exact⟨fuel-1,by omega,by omega⟩
theorem qLu(q:Region.ready .any R.ops l≠[])(h:∀i∈Region.ready .any R.ops l,wpOp R.P R.ops (wH R.Q) i (fun z y=>(jA R.T (l.setIfInBounds i true)=false→R.S y)∧wpU R (l.setIfInBounds i true) z y) a w):wpU R l a w:=by
 intro fuel F;obtain⟨i,N⟩:=List.exists_mem_of_ne_nil _ q;obtain⟨f,rfl,_⟩:=zPr N F;refine⟨fun I=>absurd I q,fun j G=>wpOp_mono (fun z y C=>⟨C.1,C.2 f ?_⟩) (h j G)⟩;obtain⟨O,J,H⟩:=zPr G F;omega
theorem jHq{i d:Nat}{v:Value}(C:R.ops[i]?=some o)(O:zAp R.ops R.T l i=true)(y:chk R.ops L o d R.n=true)(q:Fr R.n a L R.D)
  (j:(∀w,(execOp (evL L) o).run R.P w= .ok (.value v) w)∨((zJj R.ops R.T i&&!jA R.T l)=true∧∀w,R.S w→(execOp (evL L) o).run R.P w= .ok (.value v) w)) (H:jA R.T l=false→R.S w)
  (k:Fr R.n (a.put (some d) v) ((d,v)::L) R.D→wpU R (l.setIfInBounds i true) (a.put (some d) v) w):wpU R l a w:=by
 obtain⟨I,J,G,N⟩:=rT O;simp only[chk,zd]at y;obtain⟨hd,hlt⟩:=qL y.2.2;intro fuel U;obtain⟨f,rfl,z⟩:=zPr G U;rcases j with j | ⟨F,j⟩
 ·refine lU C (wy I) (fun _ _ _ h=>h) (fun _=>True) (.inl fun _=>trivial) N f l a w (y6 C J) G (.inl ⟨q.wanted y.1,fun w _=>by rw[q.exec y.2.1];exact j w⟩) (.inl fun _=>trivial) H trivial ?_
  rw[hd];exact k (q.put hlt v) f z
 ·simp only[zd,qn]at F;refine lU C (wy I) (fun _ _ _ h=>h) R.S (.inr ⟨fun _ h=>h,zJk F.1⟩) N f l a w (y6 C J) G (.inl ⟨q.wanted y.1,fun w V=>by rw[q.exec y.2.1];exact j w V⟩) (.inr F.2) H (H F.2) ?_
  rw[hd];exact k (q.put hlt v) f z
theorem jFd{i d:Nat}(C:R.ops[i]?=some o)(J:zAp R.ops R.T l i=true)(q:(kG R.ops L o false&&aR o d R.n)=true)(z:Fr R.n a L R.D)(I:jA R.T l=false→R.S w)
  (k:Fr R.n (a.put (some d) undef) ((d,undef)::L) R.D→wpU R (l.setIfInBounds i true) (a.put (some d) undef) w):wpU R l a w:=by
 obtain⟨F,G,y,H⟩:=rT J;simp only[zd]at q;obtain⟨hd,hlt⟩:=qL q.2;intro fuel N;obtain⟨f,rfl,j⟩:=zPr y N;refine lU C (wy F) (fun _ _ _ h=>h) (fun _=>True) (.inl fun _=>trivial) H f l a w (y6 C G) y (.inr ⟨z.wanted q.1,rfl⟩) (.inl fun _=>trivial) I trivial ?_;rw[hd];exact k (z.put hlt undef) f j
end
def pT:List Pn→(Nat→Bool)→Array Bool→Array Bool
 | [],_,l=>l
 | p::j,f,l=>pT j f (bif f p.i then l.setIfInBounds p.i true else l)
def pM:List Pn→(Nat→Bool)→(Nat→Nat)→List (Nat×Obj)
 | [],_,_=>[]
 | p::j,f,e=>(bif f p.i then(match p.ob with
  | some o=>[(e p.i,o (p.loc e))]
  | none=>[])else[])++pM j f e
def pOk(a:Act)(Pd:List Pn)(f:Nat→Bool)(e:Nat→Nat):Prop:=∀p∈Pd,f p.i=true→a.tmps[p.d]?=some (p.val e)
def pCl(Pd:List Pn)(f:Nat→Bool):Prop:=∀p∈Pd,f p.i=true→f p.i=true∧∀k,f (p.deps.getD k p.i)=true
def gK(Pd:List Pn)(l:Array Bool):Array Bool:=pT Pd (fun _=>true) l
theorem zIk:∀(Pd:List Pn)(f:Nat→Bool)(l:Array Bool)(i:Nat),pT Pd f (l.setIfInBounds i true)=(pT Pd f l).setIfInBounds i true
 | [],_,_,_=>rfl
 | p::j,f,l,i=>by
  simp only[pT];rw[←zIk j f _ i];cases f p.i
  ·rfl
  ·simp only[ze];by_cases h:i=p.i
   ·subst h;rfl
   ·rw[uD _ _ h]
def aU(T:List Nat)(Pd:List Pn):Bool:=Pd.all fun p=>!T.contains p.i
@[irreducible] def Gt (R : Rg) (Pd : List Pn) (c : Array Bool × List (Nat × Value)) (M : List (Nat × Obj)) (r : Rd) : Prop :=
  aU R.T Pd = true → (jA R.T c.1 = true ∨ ((∀ p ∈ R.M0, p ∈ M) ∧ Le R.r0 r)) →
  ∀ f e a w Y, pCl Pd f → Fr R.n a c.2 R.D → pOk a Pd f e → St R.E R.w0 R.X w Y (M ++ pM Pd f e) → Le r (rd w Y) → wpU R (pT Pd f c.1) a w
attribute [local semireducible] Gt
theorem zGn{T:List Nat}{l:Array Bool}{i:Nat}(h:jA T l=true):jA T (l.setIfInBounds i true)=true:=by
 unfold jA at *;rw[x5]at *;obtain⟨t,ht,h⟩:=h;exact⟨t,ht,getD_set_true h⟩
theorem zAy{T:List Nat}:∀(Pd:List Pn)(f:Nat→Bool)(l:Array Bool),aU T Pd=true→jA T (pT Pd f l)=jA T l
 | [],_,_,_=>rfl
 | p::j,f,l,h=>by
  simp only[aU,x3,zd]at h;simp only[pT];refine(zAy j f _ (by simpa[aU]using h.2)).trans ?_
  cases f p.i
  ·rfl
  ·exact vZ (fun e=>by have:=h.1;simp[e]at this)
def pNe(Pd:List Pn)(i:Nat)(d:Option Nat):Bool:=Pd.all fun p=>!(p.i==i)&&!(some p.d==d)
theorem qCz{ops:Array Oper}{T:List Nat}{l:Array Bool}{i j:Nat}(h:zAp ops T l i=true)(C:i≠j):zAp ops T (l.setIfInBounds j true) i=true:=by
 simp only[zAp,zd]at *;refine⟨h.1,?_,?_,h.2.2.2⟩
 ·have z:=h.2.1;unfold Region.free at *;cases ho:ops[i]? with
  | none=>simp[ho]at z
  | some G=>
   simp only[ho,qa]at z ⊢;intro k F;have:=z k F;simp only[kz]at this ⊢;rcases this with(f | f) | f
   ·exact .inl (.inl f)
   ·refine .inl (.inr ?_);by_cases q:j=k
    ·subst q;rcases qi j l.size with y | y
     ·simp[y]
     ·simp[vv,y]
    ·rw[jc true q];exact f
   ·exact .inr f
 ·have f:=h.2.2.1;rw[yq]at *;exact dy f C
theorem zPm{ops:Array Oper}{T:List Nat}{i:Nat}{d:Option Nat}:∀(Pd:List Pn)(f:Nat→Bool)(l:Array Bool),pNe Pd i d=true→zAp ops T l i=true→zAp ops T (pT Pd f l) i=true
 | [],_,_,_,h=>h
 | p::j,f,l,hp,h=>by
  simp only[pNe,x3,zd]at hp;refine zPm (d:=d) j f _ (by simpa[pNe]using hp.2) ?_
  cases f p.i
  ·exact h
  ·exact qCz h (fun e=>by have:=hp.1.1;simp[e]at this)
theorem zOv{i:Nat}{d:Option Nat}{a q:Act}{v:Value}{Pd:List Pn}{f:Nat→Bool}{e:Nat→Nat}(ha:q.tmps=(a.put d v).tmps)(hp:pNe Pd i d=true)(h:pOk a Pd f e):pOk q Pd f e:=fun p hm y=>by
 have j:=qa.1 hp p hm;simp only[zd,qn,xy]at j;rw[ha];cases d with
 | none=>exact h p hm y
 | some d=>
  have:d≠p.d:=fun e=>j.2 (by rw[e])
  show(a.tmps.setIfInBounds d v)[p.d]?=_;rw[xd this];exact h p hm y
section
variable {R:Rg}{Pd:List Pn}{c:Array Bool×List (Nat×Value)}{M:List (Nat×Obj)}{r:Rd}
theorem hold{f:Nat→Bool}{e:Nat→Nat}{w:World}{Y:Hid}(F:aU R.T Pd=true)(j:jA R.T c.1=true∨((∀p∈R.M0,p∈M)∧Le R.r0 r))(C:St R.E R.w0 R.X w Y (M++pM Pd f e))(q:Le r (rd w Y)):jA R.T (pT Pd f c.1)=false→R.S w:=fun hb=>by
 rw[zAy Pd f _ F]at hb;rcases j with j | ⟨y,z⟩
 ·rw[j]at hb;cases hb
 ·exact⟨fun p hp=>(C.own p (xT _ (y p hp))).1,fun a v hv=>yQ (q _ _ (z _ _ hv))⟩
def gv(R:Rg)(i:Nat)(v:Value)(c:Array Bool×List (Nat×Value)):Array Bool×List (Nat×Value):=
 (c.1.setIfInBounds i true,match(zR R.ops i).dst with
  | some d=>(d,v)::c.2
  | none=>c.2)
def gd(R:Rg)(i:Nat):Nat:=(zR R.ops i).dst.getD 0
def gok(R:Rg)(Pd:List Pn)(c:Array Bool×List (Nat×Value))(i:Nat):Bool:=zAp R.ops R.T c.1 i&&(chk R.ops c.2 (zR R.ops i) (gd R i) R.n&&pNe Pd i (zR R.ops i).dst)
theorem zRc(i:Nat){v:Value}(y:(∀w,(execOp (evL c.2) (zR R.ops i)).run R.P w= .ok (.value v) w)∨((zJj R.ops R.T i&&!jA R.T c.1)=true∧∀w,R.S w→(execOp (evL c.2) (zR R.ops i)).run R.P w= .ok (.value v) w))
  (k:Gt R Pd (gv R i v c) M r) (J:R.ops[i]?=some (zR R.ops i):=by kernel_rfl) (j:gok R Pd c i=true:=by kernel_rfl):Gt R Pd c M r:=by
 intro z C f e a w Y hb I hp F q;simp only[gok,zd]at j;have G:=j.2.1;simp only[chk,zd]at G;obtain⟨hd,hlt⟩:=qL G.2.2;have hT:i∉R.T:=(rT j.1).2.2.2;refine jHq (i:=i) J (zPm Pd f _ j.2.2 j.1) j.2.1 I (by rw[zAy Pd f _ z];exact y) (hold z C F q) (fun H=>?_)
 rw[←zIk];exact k z (by
  show jA R.T (c.1.setIfInBounds i true)=true∨_;rw[vZ hT];exact C) f e (a.put (some (gd R i)) v) w Y hb (by simp only[gv,hd];exact H) (zOv (v:=v) (by rw[hd]) j.2.2 hp) F q
theorem qZn(i:Nat)(k:Gt R Pd (gv R i undef c) M r)(H:R.ops[i]?=some (zR R.ops i):=by kernel_rfl)(j:(zAp R.ops R.T c.1 i&&(kG R.ops c.2 (zR R.ops i) false&&aR (zR R.ops i) (gd R i) R.n&&pNe Pd i (zR R.ops i).dst))=true:=by kernel_rfl):Gt R Pd c M r:=by
 intro C y f e a w Y hb G hp z q;simp only[zd]at j;obtain⟨hd,hlt⟩:=qL j.2.1.2;have hT:i∉R.T:=(rT j.1).2.2.2;refine jFd (i:=i) (d:=gd R i) H (zPm Pd f _ j.2.2 j.1) (by simp only[j.2.1.1,j.2.1.2,q9]) G (hold C y z q) (fun F=>?_)
 rw[←zIk];exact k C (by
  show jA R.T (c.1.setIfInBounds i true)=true∨_;rw[vZ hT];exact y) f e (a.put (some (gd R i)) undef) w Y hb (by simp only[gv,hd];exact F) (zOv (v:=undef) (by rw[hd]) j.2.2 hp) z q
def g1(R:Rg)(Pd:List Pn)(w:World)(i:Nat)(c:Array Bool×List (Nat×Value)):Option ((Array Bool×List (Nat×Value))×World):=
 match R.ops[i]? with
 | none=>none
 | some o=>
  bif zAp R.ops R.T c.1 i&&pNe Pd i o.dst then
   match o.dst with
   | none=>none
   | some d=>
    bif Nat.blt d R.n then
     bif kG R.ops c.2 o true then
      bif nY c.2 o then
       match(execOp (evL c.2) o).run R.P w with
       | .ok (.value v) f=>fv v fun v=>some ((c.1.setIfInBounds i true,(d,v)::c.2),f)
       | _=>none
      else none
     else bif kG R.ops c.2 o false then some ((c.1.setIfInBounds i true,(d,undef)::c.2),w)else none
    else none
  else none
def gc(R:Rg)(Pd:List Pn)(i:Nat)(c:Array Bool×List (Nat×Value)):Array Bool×List (Nat×Value):=match g1 R Pd R.w0 i c with
 | some (c,_)=>c
 | none=>c
def gk(R:Rg)(Pd:List Pn):List Nat→Array Bool×List (Nat×Value)→Array Bool×List (Nat×Value)
 | [],c=>c
 | i::f,c=>gk R Pd f (gc R Pd i c)
theorem jGj{i:Nat}(h:∀w,g1 R Pd w i c=some (gc R Pd i c,w))(k:Gt R Pd (gc R Pd i c) M r):Gt R Pd c M r:=by
 generalize I:gc R Pd i c=U at h k;clear I;have f:=h R.w0;unfold g1 at h f;cases C:R.ops[i]? with
 | none=>simp[C]at f
 | some o=>
  have j:zR R.ops i=o:=by simp[zR,C]
  simp only[C]at h f;cases ht:zAp R.ops R.T c.1 i<;>simp only[ht,uL,kx,zf,ze]at h f
  ·cases f
  cases J:pNe Pd i o.dst<;>simp only[J,zf,ze]at h f
  ·cases f
  cases hd:o.dst with
  | none=>simp[hd]at f
  | some d=>
   simp only[hd]at h f;cases hlt:Nat.blt d R.n<;>simp only[hlt,zf,ze]at h f
   ·cases f
   have q:aR o d R.n=true:=by simp[aR,hd,hlt]
   have z:gd R i=d:=by simp[gd,j,hd]
   cases H:kG R.ops c.2 o true<;>simp only[H,zf,ze]at h f
   ·cases G:kG R.ops c.2 o false<;>simp only[G,zf,ze]at h f
    ·cases f
    cases f;refine qZn i (by simpa[gv,j,hd]using k) (by rw[j];exact C) ?_
    rw[j,z];simp only[ht,G,q,J,q9]
   ·cases F:nY c.2 o<;>simp only[F,zf,ze]at h f
    ·cases f
    cases O:(execOp (evL c.2) o).run R.P R.w0 with
    | halt e w1=>simp[O]at f
    | ok y w1=>
     cases y<;>simp only[O,qGx]at f<;>try cases f
     rename_i v;refine zRc (v:=v) i (.inl fun w=>?_) (by simpa[gv,j,hd]using k) (by rw[j];exact C) ?_
     ·rw[j];have N:=h w;cases S:(execOp (evL c.2) o).run R.P w with
      | halt e w1=>simp[S]at N
      | ok y w1=>
       cases y<;>simp only[S,qGx]at N<;>cases N;rfl
     ·rw[gok,j,z];simp only[chk,ht,H,q,F,J,q9]
inductive GP (R:Rg) (Pd:List Pn):List Nat→Array Bool×List (Nat×Value)→Prop
  | nil {c:Array Bool×List (Nat×Value)}:GP R Pd [] c
  | cons {i:Nat} {is:List Nat} {c:Array Bool×List (Nat×Value)} (h:∀w,g1 R Pd w i c=some (gc R Pd i c,w)) (k:GP R Pd is (gc R Pd i c)):GP R Pd (i::is) c
theorem qHb:∀(f:List Nat){c:Array Bool×List (Nat×Value)},Gt R Pd (gk R Pd f c) M r→GP R Pd f c→Gt R Pd c M r
 | _,_,k,.nil=>k
 | _,_,k,.cons h j=>jGj h (qHb _ k j)
theorem gz(f:List Nat)(k:Gt R Pd (gk R Pd f c) M r)(h:GP R Pd f c:=by repeat (first | exact GP.nil | refine GP.cons (by intro w;kernel_rfl) ?_)):Gt R Pd c M r:=qHb f k h
theorem gl(i:Nat){f:List Value}{ad:Addr}(q:At R.r0 ad f)(k:Gt R Pd (gv R i (ldV (ldG R.P (zR R.ops i)) f) c) M r)(F:R.ops[i]?=some (zR R.ops i):=by kernel_rfl)(z:gok R Pd c i=true:=by kernel_rfl)
  (hT:(zJj R.ops R.T i&&!jA R.T c.1)=true:=by kernel_rfl)
  (ho:(zR R.ops i).op= .load (zFh (zR R.ops i)) (ldX (zR R.ops i)):=by kernel_rfl) (H:evL c.2 (ldX (zR R.ops i))= .pointer (some ad):=by kernel_rfl) (ht:ldT R.P (zFh (zR R.ops i))=some (ldG R.P (zR R.ops i),f.length):=by kernel_rfl) (C:(ldG R.P (zR R.ops i)||f.length==1)=true:=by kernel_rfl):Gt R Pd c M r:=
 zRc i (.inr ⟨hT,fun _ y=>zB ho H ht (by simpa using C) fun j v G=>y.2 _ _ (q j v G)⟩) k F z
def gow(R:Rg)(c:Array Bool×List (Nat×Value))(i j:Nat):List Value:=((cO R.M0 j).toList.drop (zAj (evL c.2 (ldX (zR R.ops i))))).take (ldM R.P (zR R.ops i))
theorem gw(i j:Nat)(k:Gt R Pd (gv R i (ldV (ldG R.P (zR R.ops i)) (gow R c i j)) c) M r)(G:R.ops[i]?=some (zR R.ops i):=by kernel_rfl)(C:gok R Pd c i=true:=by kernel_rfl)
  (hT:(zJj R.ops R.T i&&!jA R.T c.1)=true:=by kernel_rfl)
  (ho:(zR R.ops i).op= .load (zFh (zR R.ops i)) (ldX (zR R.ops i)):=by kernel_rfl) (I:evL c.2 (ldX (zR R.ops i))= .pointer (some ⟨bO R.M0 j,zAj (evL c.2 (ldX (zR R.ops i))),none⟩):=by kernel_rfl)
  (ht:ldT R.P (zFh (zR R.ops i))=some (ldG R.P (zR R.ops i),(gow R c i j).length):=by kernel_rfl) (F:(ldG R.P (zR R.ops i)||(gow R c i j).length==1)=true:=by kernel_rfl)
  (H:R.M0[j]?=some (bO R.M0 j,.cells (cO R.M0 j) (tO R.M0 j) (fO R.M0 j)):=by kernel_rfl):Gt R Pd c M r:=
 zRc i (.inr ⟨hT,fun w z=>zB ho I ht (by simpa using F) (by
  have y:=z.1 _ (qg H);intro q v f;rw[jU,k7 w _ _ _ _ _ y];unfold gow at f;rw[qh]at f;split at f
  ·rw[jq]at f;simpa using f
  ·cases f)⟩) k G C
theorem gH(i:Nat){v:Value}(f:∀w,(execOp (evL c.2) (zR R.ops i)).run R.P w= .ok (.value v) w)(k:Gt R Pd (gv R i v c) M r)(q:R.ops[i]?=some (zR R.ops i):=by kernel_rfl)(j:gok R Pd c i=true:=by kernel_rfl):Gt R Pd c M r:=zRc i (.inl f) k q j
theorem gi(j:Nat){b off len cap:Nat}{kd:IntKind}{i:Int}(m f:Nat)(k:Gt R Pd (gv R j (.pointer (some ⟨b,f,none⟩)) c) M r)(z:0≤i:=by omega)(C:i<len:=by omega)
  (q:off+i.toNat*m=f:=by first | rfl | omega | (simp;done) | (simp;omega)) (hm:ldS R.P (idE R.P (idT (zR R.ops j)))=m:=by kernel_rfl) (H:evL c.2 (idX (zR R.ops j))= .slice (some ⟨b,off,none⟩) len cap:=by kernel_rfl) (G:evL c.2 (idI (zR R.ops j))= .int kd i:=by kernel_rfl)
  (ho:(zR R.ops j).op= .indexAddr (idT (zR R.ops j)) (idX (zR R.ops j)) (idI (zR R.ops j)):=by kernel_rfl) (ht:R.P.underlying (idT (zR R.ops j))=some (.slice (idE R.P (idT (zR R.ops j)))):=by kernel_rfl)
  (he:ldT R.P (idE R.P (idT (zR R.ops j)))=some (zRq R.P (idE R.P (idT (zR R.ops j))),ldS R.P (idE R.P (idT (zR R.ops j)))):=by kernel_rfl) (y:R.ops[j]?=some (zR R.ops j):=by kernel_rfl) (F:gok R Pd c j=true:=by kernel_rfl):Gt R Pd c M r:=
 gH j (fun w=>jD ho ht H G he z C (by rw[hm];exact q) w) k y F
def gst(c:Array Bool×List (Nat×Value))(t:Nat)(v:Value):Array Bool×List (Nat×Value):=(c.1,(t,v)::c.2)
def gsl(c:Array Bool×List (Nat×Value))(t:Nat):Option Value:=bif has c.2 t then some (sS c.2 t)else none
theorem qOn(t:Nat){v q:Value}(he:v=q)(h:Gt R Pd (gst c t q) M r)(hv:gsl c t=some v:=by kernel_rfl):Gt R Pd c M r:=by
 intro F y f e a w Y hb z hp C j;unfold gsl at hv;cases hh:has c.2 t<;>simp only[hh,zf,ze]at hv<;>cases hv;exact h F y f e a w Y hb (z.set t hh rfl he) hp C j
theorem gt(t:Nat){p:Prop}[Decidable p](ht:p→Gt R Pd (gst c t (.bool true)) M r)(f:¬p→Gt R Pd (gst c t (.bool false)) M r)(hv:gsl c t=some (.bool (decide p)):=by kernel_rfl):Gt R Pd c M r:=by
 by_cases h:p
 ·exact qOn t (by rw[xe h]) (ht h) hv
 ·exact qOn t (by rw[wn h]) (f h) hv
theorem gb(t:Nat){b:Bool}(ht:b=true→Gt R Pd (gst c t (.bool true)) M r)(f:b=false→Gt R Pd (gst c t (.bool false)) M r)(hv:gsl c t=some (.bool b):=by kernel_rfl):Gt R Pd c M r:=by
 cases b
 ·exact qOn t rfl (f rfl) hv
 ·exact qOn t rfl (ht rfl) hv
theorem qSn{P:Program}{o:Oper}{a:Act}{w:World}{K:Act→World→Prop}{Q:Exit→Act→World→Prop}(h:o.wp P a w K Q):o.wp P a w (fun y q=>K y q∧∃v,y.tmps=(a.put o.dst v).tmps) Q:=by
 unfold Oper.wp at *;generalize (execOp a.eval o).run P w=r at *;cases r with
 | ok n q=>
  cases n<;>simp only[Oper.upon]at h ⊢
  case value v=>exact⟨h,v,rfl⟩
  case skip=>exact⟨h,undef,rfl⟩
  case defer d=>exact⟨h,undef,by cases o.dst<;>rfl⟩
  case enter f j=>exact Calls.mono h (fun e z he=>by cases e<;>first | exact⟨he,_,rfl⟩ | exact he)
  case row row j=>exact Rows.mono h (fun v _ he=>⟨he,v,rfl⟩)
 | halt x q=>cases x<;>simp only[Oper.upon]at h ⊢<;>exact h
def LeA(l f:Array Bool):Prop:=∀k,l.getD k false=true→f.getD k false=true
theorem zIq{ops:Array Oper}{l y:Array Bool}{j:Nat}(z:j∈Region.ready .any ops l)(C:LeA l y)(q:y.getD j true=false):j∈Region.ready .any ops y:=by
 rw[xp]at *;obtain⟨_,o,ho,f⟩:=z;exact⟨q,o,ho,fun e he hb=>C _ (f e he hb)⟩
theorem LeA.set{l j:Array Bool}(h:LeA l j)(i:Nat)(z:l.size=j.size):LeA (l.setIfInBounds i true) (j.setIfInBounds i true):=fun k q=>by
 by_cases f:i=k
 ·subst f;rcases qi i l.size with y | y
  ·simp[show i<j.size by omega]
  ·simp[vv,y]at q
 ·rw[jc false f]at q ⊢;exact h k q
theorem LeA.setr{l f:Array Bool}(h:LeA l f)(i:Nat):LeA l (f.setIfInBounds i true):=fun k j=>getD_set_true (h k j)
theorem zZr:∀(Pd:List Pn)(f:Nat→Bool)(l j:Array Bool),l.size=j.size→LeA l j→LeA (pT Pd f l) (gK Pd j)
 | [],_,_,_,_,h=>h
 | p::y,f,l,j,q,h=>by
  simp only[pT,gK,ze];cases f p.i
  ·exact zZr y f l _ (by simpa using q) (h.setr p.i)
  ·exact zZr y f _ _ (by simpa using q) (h.set p.i q)
def zMa(Pd:List Pn)(j:Nat):Prop:=∀p∈Pd,p.i≠j
theorem zIj:∀(Pd:List Pn)(f:Nat→Bool)(l:Array Bool)(j:Nat),zMa Pd j→(pT Pd f l).getD j true=l.getD j true
 | [],_,_,_,_=>rfl
 | p::z,f,l,j,h=>by
  refine(zIj z f _ j fun q y=>h q (zu _ y)).trans ?_;cases f p.i
  ·rfl
  ·exact jc true (h p (zq ..))
theorem qKm:∀(Pd:List Pn)(f:Nat→Bool)(l j:Array Bool),LeA l j→LeA l (pT Pd f j)
 | [],_,_,_,h=>h
 | p::q,f,l,j,h=>by
  refine qKm q f l _ ?_;cases f p.i
  ·exact h
  ·exact h.setr p.i
theorem zOw:∀(Pd:List Pn)(f:Nat→Bool)(l:Array Bool)(j:Nat),(pT Pd f l).getD j false=true→l.getD j false=true∨f j=true
 | [],_,_,_,h=> .inl h
 | p::y,f,l,j,h=>by
  rcases zOw y f _ j h with h | h
  ·cases hp:f p.i
   ·rw[hp]at h;exact .inl h
   ·rw[hp]at h;by_cases q:p.i=j
    ·exact .inr (q▸hp)
    ·exact .inl (by rwa[ze,jc false q]at h)
  ·exact .inr h
theorem qKn:∀(Pd:List Pn)(f:Nat→Bool)(l:Array Bool),∀p∈Pd,f p.i=true→p.i<l.size→(pT Pd f l).getD p.i false=true
 | q::z,f,l,p,hp,y,hlt=>by
  rcases qS.1 hp with rfl | j
  ·refine qKm z f _ _ (fun _ h=>h) _ ?_;simp[y,hlt]
  ·exact qKn z f _ p j y (by cases f q.i<;>simpa using hlt)
theorem dS:∀(Pd:List Pn)(f g:Nat→Bool)(l:Array Bool),(∀q∈Pd,f q.i=g q.i)→pT Pd f l=pT Pd g l
 | [],_,_,_,_=>rfl
 | p::y,f,g,l,h=>by
  simp only[pT];rw[h p (zq ..)];exact dS y f g _ fun q j=>h q (zu _ j)
theorem zIi:∀(Pd:List Pn)(f g:Nat→Bool)(e j:Nat→Nat),(∀q∈Pd,f q.i=g q.i∧(f q.i=true→e q.i=j q.i∧q.loc e=q.loc j))→pM Pd f e=pM Pd g j
 | [],_,_,_,_,_=>rfl
 | p::I,f,g,e,j,h=>by
  simp only[pM];rw[zIi I f g e j fun q H=>h q (zu _ H)];obtain⟨y,z⟩:=h p (zq ..);rw[←y];cases G:f p.i
  ·rfl
  ·obtain⟨C,F⟩:=z G;rw[C,F]
def aP:List Pn→Bool
 | []=>true
 | p::f=>pNe f p.i (some p.d)&&aP f
theorem vM{Pd:List Pn}{i d:Nat}(h:pNe Pd i (some d)=true):∀q∈Pd,q.i≠i∧q.d≠d:=fun q f=>by
 have:=qa.1 h q f;simpa using this
theorem zIg:∀{Pd:List Pn},aP Pd=true→∀p∈Pd,∀q∈Pd,p.i=q.i∨p.d=q.d→p=q
 | x::C,h,p,hp,q,z,he=>by
  simp only[aP,zd]at h;by_cases y:p=x
  ·by_cases f:q=x
   ·rw[y,f]
   ·have:=vM h.1 q ((qS.1 z).resolve_left f);rw[y]at he;rcases he with he | he
    ·exact absurd he.symm this.1
    ·exact absurd he.symm this.2
  ·have j:=(qS.1 hp).resolve_left y;by_cases f:q=x
   ·have:=vM h.1 p j;rw[f]at he;rcases he with he | he
    ·exact absurd he this.1
    ·exact absurd he this.2
   ·exact zIg h.2 p j q ((qS.1 z).resolve_left f) he
def cnt(Pd:List Pn)(f:Nat→Bool):Nat:=Pd.countP fun p=>!f p.i
def nb(p:Pn)(e:Nat→Nat):List (Nat×Obj):=match p.ob with
 | some o=>[(e p.i,o (p.loc e))]
 | none=>[]
theorem zVn{q:Pn}{f:Nat→Bool}{e:Nat→Nat}{j b:Nat}(h:∀k,f (q.deps.getD k q.i)=true)(y:f j=false):q.loc (up e j b)=q.loc e:=funext fun k=>rH e b fun he=>by rw[←he,h k]at y;cases y
theorem qVd{f:Nat→Bool}{p:Pn}:∀{Pd:List Pn}{l:Array Bool},aP Pd=true→p∈Pd→pT Pd (up f p.i true) l=(pT Pd f l).setIfInBounds p.i true
 | q::z,l,hd,hp=>by
  simp only[aP,zd]at hd;simp only[pT];by_cases y:p=q
  ·subst y;rw[wV,ze,dS z (up f p.i true) f _ fun x C=>rH f true (vM hd.1 x C).1,←zIk];cases f p.i
   ·rfl
   ·simp
  ·have j:p∈z:=(qS.1 hp).resolve_left y;rw[rH f true (fun e=>(vM hd.1 p j).1 e.symm)];exact qVd hd.2 j
theorem qVc{f:Nat→Bool}{e:Nat→Nat}{p:Pn}{b:Nat}(F:f p.i=false):∀{Pd:List Pn},aP Pd=true→pCl Pd f→p∈Pd→(pM Pd (up f p.i true) (up e p.i b)).Perm (nb p (up e p.i b)++pM Pd f e)
 | q::J,hd,j,hp=>by
  simp only[aP,zd]at hd;simp only[pM];by_cases H:p=q
  ·subst H;rw[wV f,ze,F,zf,j3,zIi J (up f p.i true) f (up e p.i b) e fun x y=>⟨rH f true (vM hd.1 x y).1,fun h=>⟨rH e b (vM hd.1 x y).1,zVn (j x (zu _ y) (by rwa[rH f true (vM hd.1 x y).1]at h)).2 F⟩⟩]
   exact List.Perm.refl _
  ·have C:p∈J:=(qS.1 hp).resolve_left H;have z:q.i≠p.i:=fun e=>(vM hd.1 p C).1 e.symm;have I:=qVc (e:=e) (b:=b) F hd.2 (fun x y=>j x (zu _ y)) C;rw[rH f true z];cases G:f q.i
   ·simpa using I
   ·rw[rH e b z,zVn (j q (zq ..) G).2 F];refine(I.append_left _).trans ?_;rw[←qr,←qr];exact di.append_right _
theorem jDg{a a':Act}{f:Nat→Bool}{e:Nat→Nat}{p:Pn}{b:Nat}{Pd:List Pn}(hd:aP Pd=true)(C:pCl Pd f)(hp:p∈Pd)(H:f p.i=false)(hlt:p.d<a.tmps.size)(ha:a'.tmps=(a.put (some p.d) (p.val (up e p.i b))).tmps)(h:pOk a Pd f e):pOk a' Pd (up f p.i true) (up e p.i b):=fun q G F=>by
 rw[ha];show(a.tmps.setIfInBounds p.d _)[q.d]?=_;by_cases z:p=q
 ·subst z;simp[hlt]
 ·have y:¬(p.i=q.i∨p.d=q.d):=fun e=>z (zIg hd p hp q G e);have j:f q.i=true:=by rwa[rH f true (fun e=>y (.inl e.symm))]at F
  rw[xd (fun e=>y (.inr e)),h q G j];unfold Pn.val;rw[zVn (C q G j).2 H]
theorem qFp{f:Nat→Bool}{p:Pn}:∀{Pd:List Pn},aP Pd=true→p∈Pd→f p.i=false→cnt Pd (up f p.i true)+1=cnt Pd f
 | q::y,hd,hp,z=>by
  simp only[aP,zd]at hd;unfold cnt;simp only[List.countP_cons];by_cases C:p=q
  ·subst C;have:y.countP (fun x=>!up f p.i true x.i)=y.countP (fun x=>!f x.i):=List.countP_congr fun x F=>by rw[rH f true (vM hd.1 x F).1]
   rw[this,wV,z];simp
  ·have j:p∈y:=(qS.1 hp).resolve_left C;have G:=qFp hd.2 j z;unfold cnt at G;rw[rH f true (fun e=>(vM hd.1 p j).1 e.symm)];omega
theorem Fr.put_ne{n:Nat}{a:Act}{L:List (Nat×Value)}{D:List Deferred}(h:Fr n a L D){d:Nat}(hd:has L d=false)(v:Value):Fr n (a.put (some d) v) L D:=by
 refine⟨by simpa[Act.put]using h.size,h.defers,fun t ht=>?_⟩
 have f:d≠t:=fun e=>by subst e;rw[hd]at ht;cases ht
 show(a.tmps.setIfInBounds d v)[t]?=_;rw[xd f];exact h.get t ht
def pS(Pd:List Pn)(e:Nat→Nat):List (Nat×Value):=match Pd with
 | []=>[]
 | p::f=>(p.d,p.val e)::pS f e
def wto(o:Oper)(j:Nat):Bool:=o.after.any fun e=>Region.binds .any e&&e.on==j
def zOk(R:Rg)(c:Array Bool×List (Nat×Value))(Pd:List Pn)(p:Pn):Bool:=
 (kG R.ops c.2 (zR R.ops p.i) true&&(aR (zR R.ops p.i) p.d R.n&&(!has c.2 p.d&&!c.1.getD p.i true)))&&
 (p.deps.all (fun j=>j==p.i||((wto (zR R.ops p.i) j&&!c.1.getD j true)||Pd.any fun q=>wto (zR R.ops p.i) q.i&&q.deps.contains j))&&
 (zR R.ops p.i).op.operands.toList.all fun x=>match x with
  | .tmp t=>Pd.all fun q=>!(q.d==t)||wto (zR R.ops p.i) q.i
  | _=>true)
def zPo(R:Rg)(l:Array Bool):List Nat→List Pn→Bool
 | _,[]=>true
 | es,p::f=>(zR R.ops p.i).after.all (fun e=>!Region.binds .any e||(l.getD e.on false||es.contains e.on))&&zPo R l (p.i::es) f
inductive kY (R:Rg) (c:Array Bool×List (Nat×Value)) (Pd:List Pn):List Pn→Prop
  | nil:kY R c Pd []
  | cons {p:Pn} {ps:List Pn} (hb:zOk R c Pd p=true) (hi:R.ops[p.i]?=some (zR R.ops p.i)) (ho:∀e,nY (pS Pd e++c.2) (zR R.ops p.i)=true)
      (hr:∀e w,(execOp (evL (pS Pd e++c.2)) (zR R.ops p.i)).run R.P w= .ok (.value (p.val (up e p.i w.heap.size))) (match p.ob with
        | none=>w
        | some o=>w.alloc (o (p.loc (up e p.i w.heap.size))))) (k:kY R c Pd ps):kY R c Pd (p::ps)
theorem kY.k{Pd f:List Pn}{p:Pn}(k:kY R c Pd f)(hb:zOk R c Pd p=true:=by kernel_rfl)(j:R.ops[p.i]?=some (zR R.ops p.i):=by kernel_rfl)(ho:∀e,nY (pS Pd e++c.2) (zR R.ops p.i)=true:=by intro e;kernel_rfl)
  (q:∀e w,(execOp (evL (pS Pd e++c.2)) (zR R.ops p.i)).run R.P w= .ok (.value (p.val (up e p.i w.heap.size))) (match p.ob with
    | none=>w
    | some o=>w.alloc (o (p.loc (up e p.i w.heap.size)))):=by intro e w;kernel_rfl):kY R c Pd (p::f):= .cons hb j ho q k
theorem kY.get{Pd:List Pn}:∀{f:List Pn},kY R c Pd f→∀p∈f,zOk R c Pd p=true∧R.ops[p.i]?=some (zR R.ops p.i)∧(∀e,nY (pS Pd e++c.2) (zR R.ops p.i)=true)∧
  ∀e w,(execOp (evL (pS Pd e++c.2)) (zR R.ops p.i)).run R.P w= .ok (.value (p.val (up e p.i w.heap.size))) (match p.ob with
    | none=>w
    | some o=>w.alloc (o (p.loc (up e p.i w.heap.size))))
 | _,.cons hb j ho q k,p,hp=>by
  rcases qS.1 hp with rfl | hp
  ·exact⟨hb,j,ho,q⟩
  ·exact k.get p hp
theorem zYr{n:Nat}{a:Act}{L:List (Nat×Value)}{D:List Deferred}(j:Fr n a L D){e:Nat→Nat}{t:Nat}:∀{f:List Pn},(∀q∈f,q.d=t→a.tmps[t]?=some (q.val e))→has (pS f e++L) t=true→a.tmps[t]?=some (sS (pS f e++L) t)
 | [],_,hh=>j.get t hh
 | p::f,h,hh=>by
  simp only[pS,x6,has,sS]at hh ⊢;cases hb:Nat.beq p.d t with
  | true=>exact h p (zq ..) (qm hb)
  | false=>
   rw[hb]at hh;exact zYr j (fun q y=>h q (zu _ y)) hh
theorem qMi{ops:Array Oper}{l:Array Bool}{i j:Nat}{o:Oper}(ho:ops[i]?=some o)(y:i∈Region.ready .any ops l)(h:wto o j=true):l.getD j false=true:=by
 obtain⟨_,z,q,f⟩:=xp.1 y;obtain rfl:z=o:=qy (q.symm.trans ho);obtain⟨e,he,hb⟩:=Array.any_eq_true'.1 h;simp only[zd,hP]at hb;exact hb.2▸f e he hb.1
theorem zBk{l:Array Bool}{j:Nat}(h:l.getD j true=false):l.getD j false=false∧j<l.size:=by
 rcases qi j l.size with f | f
 ·exact⟨by simpa[f]using h,f⟩
 ·simp[vv f]at h
theorem nrun{f:Nat→Bool}{e:Nat→Nat}{a:Act}{w:World}{Pd:List Pn}{p:Pn}{K:Act→World→Prop}(F:kY R c Pd Pd)(hp:p∈Pd)(W:pCl Pd f)(V:Fr R.n a c.2 R.D)(hok:pOk a Pd f e)(hr:p.i∈Region.ready .any R.ops (pT Pd f c.1))
  (hK:(∀k,up f p.i true (p.deps.getD k p.i)=true)→p.d<a.tmps.size→has c.2 p.d=false→K (a.put (some p.d) (p.val (up e p.i w.heap.size))) (match p.ob with
    | none=>w
    | some o=>w.alloc (o (p.loc (up e p.i w.heap.size))))):wpOp R.P R.ops (wH R.Q) p.i K a w:=by
 obtain⟨q1,q2,q3,q4⟩:=F.get p hp;simp only[zOk,zd]at q1;obtain⟨⟨hw,hd,hno,hun⟩,O,S⟩:=q1;obtain⟨hd1,hlt⟩:=qL hd;have y:∀j,wto (zR R.ops p.i) j=true→c.1.getD j true=false→f j=true:=fun j I J=>by
  rcases zOw Pd f c.1 j (qMi q2 hr I)with h | h
  ·rw[(zBk J).1]at h;cases h
  ·exact h
 have N:∀k,up f p.i true (p.deps.getD k p.i)=true:=fun k=>by
  rcases qi k p.deps.length with U | U
  ·have hm:p.deps.getD k p.i∈p.deps:=by rw[zp,jk U];exact jo U
   have:=qa.1 O _ hm;simp only[kz,hP,zd,qn]at this;by_cases he:p.deps.getD k p.i=p.i
   ·rw[he,wV]
   ·rw[rH f true he];rcases this with h | ⟨I,J⟩ | h
    ·exact absurd h he
    ·exact y _ I J
    ·rw[x5]at h;obtain⟨q,H,G⟩:=h;simp only[zd,yq]at G;have C:=(F.get q H).1;simp only[zOk,zd,qn]at C;have hfq:=y q.i G.1 C.1.2.2.2;obtain⟨k',hk',he'⟩:=List.getElem_of_mem G.2;have:=(W q H hfq).2 k';rwa[zp,jk hk',jp,he']at this
  ·rw[zp,qe U];exact wV ..
 unfold wpOp;simp only[q2];rw[qj (V.wanted hw)];refine .inl ?_;have z:=q3 e;simp only[nY,zd]at z;have hex:execOp a.eval (zR R.ops p.i)=execOp (evL (pS Pd e++c.2)) (zR R.ops p.i):=fd _ (gF z.1) fun x hx=>by
  have T:x∈(zR R.ops p.i).op.operands.toList:=by simpa using hx
  have Z:=dB z.2 x T;cases x with
  | tmp t=>
   have I:=qa.1 S _ T;have J:a.tmps[t]?=some (sS (pS Pd e++c.2) t):=zYr V (fun q H he=>by
    have h3:=qa.1 I q H;simp only[kz,qn,xy]at h3;have h4:=h3.resolve_left (fun h=>h he);have C:=(F.get q H).1;simp only[zOk,zd,qn]at C;rw[←he];exact hok q H (y q.i h4 C.1.2.2.2)) Z
   show a.tmps.getD t undef=_;simp[J,evL]
  | _=>rfl
 unfold Oper.wp;rw[hex,q4 e w];show K (a.put (zR R.ops p.i).dst _) _;rw[hd1];exact hK N (by rw[V.size];exact hlt) (by simpa using hno)
theorem zNs(H:(Nat→Bool)→Bool)(hstop:∀f,(∀p∈Pd,f p.i=true)→H f=true)(J:kY R c Pd Pd)(z:(aP Pd&&zPo R c.1 [] Pd.reverse)=true)
  (hne:∀f e a w Y,pCl Pd f→Fr R.n a c.2 R.D→pOk a Pd f e→St R.E R.w0 R.X w Y (M++pM Pd f e)→Le r (rd w Y)→
   (H f=false→∀j∈Region.ready .any R.ops (pT Pd f c.1),zMa Pd j→wpOp R.P R.ops (wH R.Q) j (fun a' W=>(jA R.T ((pT Pd f c.1).setIfInBounds j true)=false→R.S W)∧wpU R ((pT Pd f c.1).setIfInBounds j true) a' W) a w)∧
   (H f=true→wpU R (pT Pd f c.1) a w))
  (hf:aU R.T Pd=true) (h0:jA R.T c.1=true∨((∀p∈R.M0,p∈M)∧Le R.r0 r)):
  ∀(m:Nat)(f:Nat→Bool)(e:Nat→Nat)(a:Act)(w:World)(Y:Hid),cnt Pd f=m→pCl Pd f→Fr R.n a c.2 R.D→pOk a Pd f e→St R.E R.w0 R.X w Y (M++pM Pd f e)→Le r (rd w Y)→wpU R (pT Pd f c.1) a w:=by
 simp only[zd]at z;intro m;induction m using Nat.strongRecOn with
 | _ m ih=>
  intro f e a w Y hm N hF hp hS Z;obtain⟨h1,h2⟩:=hne f e a w Y N hF hp hS Z;cases J0:H f
  case true=>exact h2 J0
  have hr:Region.ready .any R.ops (pT Pd f c.1)≠[]:=by
   have key:∀(O:List Pn)(es:List Nat),zPo R c.1 es O=true→(∀x∈es,∃q∈Pd,q.i=x∧f x=true)→(∀p∈O,p∈Pd)→(∃p∈O,f p.i=false)→∃p∈Pd,p.i∈Region.ready .any R.ops (pT Pd f c.1):=by
    intro O;induction O with
    | nil=>rintro es _ _ _ ⟨p,hp,_⟩;cases hp
    | cons q O ihp=>
     rintro es ht hes V ⟨p,hp,C⟩;simp only[zPo,zd]at ht;have hq:q∈Pd:=V q (zq ..);cases I:f q.i with
     | true=>
      refine ihp (q.i::es) ht.2 (fun x hx=>?_) (fun p hp=>V p (zu _ hp)) ⟨p,?_,C⟩
      ·rcases qS.1 hx with rfl | hx
       ·exact⟨q,hq,rfl,I⟩
       ·exact hes x hx
      ·refine(qS.1 hp).resolve_left fun e=>?_;rw[e,I]at C;cases C
     | false=>
      refine⟨q,hq,xp.2 ⟨?_,_,(J.get q hq).2.1,fun x hx hb=>?_⟩⟩
      ·have hqc:=(J.get q hq).1;simp only[zOk,zd,qn]at hqc;have hun:=zBk hqc.1.2.2.2;cases hg:(pT Pd f c.1).getD q.i false with
       | true=>
        rcases zOw Pd f c.1 q.i hg with h | h
        ·rw[hun.1]at h;cases h
        ·rw[I]at h;cases h
       | false=>
        have hsz:∀(O:List Pn)(l:Array Bool),(pT O f l).size=l.size:=by
         intro O;induction O with
         | nil=>intro l;rfl
         | cons y O ihs=>intro l;simp only[pT];rw[ihs];cases f y.i<;>simp
        have hlt:q.i<(pT Pd f c.1).size:=by rw[hsz];exact hun.2
        simpa[hlt]using hg
      ·have:=uU.1 ht.1 x hx;simp only[hb,qb,dz,kz,yq]at this;rcases this with h | h
       ·exact qKm Pd f c.1 c.1 (fun _ h=>h) _ h
       ·obtain⟨y,hy,hyx,hfy⟩:=hes _ h;have hyc:=(J.get y hy).1;simp only[zOk,zd,qn]at hyc;rw[←hyx]at hfy ⊢;exact qKn Pd f c.1 y hy hfy (zBk hyc.1.2.2.2).2
   by_cases hex:∃p∈Pd,f p.i=false
   ·obtain⟨p,_,hpr⟩:=key Pd.reverse [] z.2 (fun x hx=>by cases hx) (fun p hp=>fS.1 hp) (hex.imp fun p h=>⟨fS.2 h.1,h.2⟩)
    intro h;rw[h]at hpr;cases hpr
   ·rw[hstop f fun p hp=>by
     cases C:f p.i
     ·exact absurd ⟨p,hp,C⟩ hex
     ·rfl]at J0
    cases J0
  refine qLu hr fun j hj=>?_;by_cases hin:zMa Pd j
  ·exact h1 J0 j hj hin
  ·obtain⟨p,G,hpj⟩:∃p∈Pd,p.i=j:=by
    apply ko;intro hno;exact hin fun p hp e=>hno ⟨p,hp,e⟩
   subst hpj;have C:f p.i=false:=by
    cases C:f p.i
    ·rfl
    ·have hpc:=(J.get p G).1;simp only[zOk,zd,qn]at hpc;have:=qKn Pd f c.1 p G C (zBk hpc.1.2.2.2).2;have h9:=(zBk (xp.1 hj).1).1;rw[this]at h9;cases h9
   refine nrun J G N hF hp hj fun hk hlt hno=>?_;have hcl2:pCl Pd (up f p.i true):=fun q hq I=>⟨I,by
    by_cases hqp:q.i=p.i
    ·obtain rfl:=zIg z.1 q hq p G (.inl hqp);exact hk
    ·have hfq':f q.i=true:=by rwa[rH f true hqp]at I
     intro k;have:=(N q hq hfq').2 k;by_cases he:q.deps.getD k q.i=p.i
     ·rw[he,wV]
     ·rw[rH f true he];exact this⟩
   have hp2:=jDg (e:=e) (b:=w.heap.size) z.1 N G C hlt (a':=a.put (some p.d) (p.val (up e p.i w.heap.size))) rfl hp;have Z2:=hF.put_ne hno (p.val (up e p.i w.heap.size));have hcnt:=qFp z.1 G C;have F:=qVc (e:=e) (b:=w.heap.size) C z.1 N G;rw[←qVd z.1 G];have hgo:∀W Y',St R.E R.w0 R.X W Y' (M++pM Pd (up f p.i true) (up e p.i w.heap.size))→Le r (rd W Y')→(jA R.T (pT Pd (up f p.i true) c.1)=false→R.S W)∧wpU R (pT Pd (up f p.i true) c.1) (a.put (some p.d) (p.val (up e p.i w.heap.size))) W:=fun W Y' hS' U=>⟨hold hf h0 hS' U,ih _ (by omega) _ _ _ _ _ rfl hcl2 Z2 hp2 hS' U⟩
   cases A:p.ob with
   | none=>
    simp only;refine hgo w Y (hS.perm ?_) Z;simp only[nb,A,j3]at F;exact F.append_left M
   | some o=>
    simp only;refine hgo _ _ ((hS.alloc (o (p.loc (up e p.i w.heap.size)))).perm ?_) (Z.trans (Le.hide_new _));simp only[nb,A,wV]at F;exact(F.append_left M).trans vk
theorem g_op(i:Nat)(h:∀a w Y B,Fr R.n a c.2 R.D→St R.E R.w0 R.X w Y (M++B)→Le r (rd w Y)→(zR R.ops i).wp R.P a w (fun V J=>∃L' U r' Y',Fr R.n V L' R.D∧St R.E R.w0 R.X J Y' (U++B)∧Le r' (rd J Y')∧
   (jA R.T (c.1.setIfInBounds i true)=true∨(((∀p∈R.M0,p∈M)→∀p∈R.M0,p∈U)∧Le r r'))∧Gt R Pd (c.1.setIfInBounds i true,L') U r') (wH R.Q))
  (hPd:kY R c Pd Pd) (hdis:(aP Pd&&zPo R c.1 [] Pd.reverse)=true:=by kernel_rfl) (hi:R.ops[i]?=some (zR R.ops i):=by kernel_rfl) (hr:Region.ready .any R.ops (gK Pd c.1)=[i]:=by kernel_rfl) (hw:(kG R.ops c.2 (zR R.ops i) true&&pNe Pd i (zR R.ops i).dst)=true:=by kernel_rfl):Gt R Pd c M r:=by
 intro hf h0 f e a w Y hb G hp N y;simp only[zd]at hw;have z:zMa Pd i:=fun p hp=>by
  have:=qa.1 hw.2 p hp;simp only[zd,qn,xy]at this;exact this.1
 have F:∀f e a w Y,pCl Pd f→Fr R.n a c.2 R.D→pOk a Pd f e→St R.E R.w0 R.X w Y (M++pM Pd f e)→Le r (rd w Y)→∀j∈Region.ready .any R.ops (pT Pd f c.1),zMa Pd j→
   wpOp R.P R.ops (wH R.Q) j (fun V J=>(jA R.T ((pT Pd f c.1).setIfInBounds j true)=false→R.S J)∧wpU R ((pT Pd f c.1).setIfInBounds j true) V J) a w:=by
  intro f e a w Y hb G hp N y j O z;have H:j=i:=by
   have:j∈Region.ready .any R.ops (gK Pd c.1):=zIq O (zZr Pd f c.1 c.1 rfl (fun _ h=>h)) (by rw[gK,zIj Pd _ c.1 j z,←zIj Pd f c.1 j z];exact(xp.1 O).1)
   rw[hr]at this;simpa using this
  subst H;unfold wpOp;simp only[hi];rw[qj (G.wanted hw.1)];refine .inl (Oper.wp_mono ?_ (qSn (h a w Y (pM Pd f e) G N y)));rintro V J ⟨⟨L',U,r',Y',hF',Z,C,I,hG⟩,v,hv⟩;have hp':=zOv (i:=j) hv hw.2 hp;have W:jA R.T (c.1.setIfInBounds j true)=true∨((∀p∈R.M0,p∈U)∧Le R.r0 r'):=by
   rcases I with I | ⟨h1,h2⟩
   ·exact .inl I
   ·rcases h0 with h0 | ⟨h3,h4⟩
    ·exact .inl (zGn h0)
    ·exact .inr ⟨h1 h3,h4.trans h2⟩
  rw[←zIk];exact⟨hold (c:=(c.1.setIfInBounds j true,L')) hf W Z C,hG hf W f e V J Y' hb hF' hp' Z C⟩
 refine zNs (fun f=>Pd.all fun p=>f p.i) (fun f h=>qa.2 h) hPd hdis (fun f e a w Y hb G hp N y=>⟨fun _=>F f e a w Y hb G hp N y,fun hc=>?_⟩) hf h0 (cnt Pd f) f e a w Y rfl hb G hp N y;have heq:pT Pd f c.1=gK Pd c.1:=dS Pd f _ c.1 fun q hq=>qa.1 hc q hq;refine qLu (by rw[heq,hr];simp) fun j O=>?_
 have H:j=i:=by rw[heq,hr]at O;simpa using O
 exact F f e a w Y hb G hp N y j O (H▸z)
structure SzLe(w0 w:World):Prop where
 size:w0.heap.size≤w.heap.size
structure YLt(w0:World)(Y:Hid)(w:World):Prop where
 upd:SzLe w0 w
 lt:∀k o,Y k o→k<w.heap.size
def gV(R:Rg)(c:Array Bool×List (Nat×Value))(i:Nat):Option (FuncId×Array Value):=match evL c.2 (clF (zR R.ops i))with
 | .func (.func f) t cap=>bif t.isEmpty then some (f,(clA (zR R.ops i)).map (evL c.2)++cap)else none
 | _=>none
theorem qOl{i:Nat}{f:FuncId}{j:Array Value}(h:gV R c i=some (f,j)):∃cap,evL c.2 (clF (zR R.ops i))= .func (.func f) #[] cap∧(clA (zR R.ops i)).map (evL c.2)++cap=j:=by
 unfold gV at h;split at h
 ·rename_i q t cap he;cases ht:t.isEmpty<;>simp only[ht,ze,zf]at h<;>cases h;obtain rfl:t=#[]:=by simpa using ht
  exact⟨cap,he,rfl⟩
 ·cases h
theorem gC(i:Nat){f:FuncId}{vs:Array Value}{Φ:World→Hid→World→Value→Prop}(q:∀w Y B,St R.E R.w0 R.X w Y (M++B)→Le r (rd w Y)→Calls R.P f vs w (Ret E0 w (Φ w Y)))
  (k:∀v w Y w1,YLt R.w0 Y w→Le r (rd w1 Y)→Φ w Y w1 v→Gt R Pd (gv R i v c) M (rd w1 Y))
  (hPd:kY R c Pd Pd:=by exact kY.nil) (hv:gV R c i=some (f,vs):=by kernel_rfl) (C:(opk c.2 (zR R.ops i) (gd R i) R.n&&!R.T.contains i)=true:=by kernel_rfl) (ho:(zR R.ops i).op= .call {callee:= .value (clF (zR R.ops i)),args:=clA (zR R.ops i),argTypes:=clT (zR R.ops i)}:=by kernel_rfl)
  (hcall:∀w,(callFunc f vs).run R.P w= .ok (.enter f vs) w:=by intro w;kernel_rfl) (y:(aP Pd&&zPo R c.1 [] Pd.reverse)=true:=by kernel_rfl) (O:R.ops[i]?=some (zR R.ops i):=by kernel_rfl) (S:Region.ready .any R.ops (gK Pd c.1)=[i]:=by kernel_rfl)
  (U:(kG R.ops c.2 (zR R.ops i) true&&pNe Pd i (zR R.ops i).dst)=true:=by kernel_rfl):Gt R Pd c M r:=by
 obtain⟨cap,N,ha⟩:=qOl hv;simp only[zd]at C;have hd:(zR R.ops i).dst=some (gd R i):=by
  have:=C.1;simp only[opk,zd]at this;exact(qL this.2).1
 refine g_op i (fun a w Y B J z j=>?_) hPd y O S U;refine kI J C.1 z ho N ha hcall (q w Y B z j) fun v w1 H F _ I V G=>?_;have:=k v w Y w1 ⟨⟨z.upd.size⟩,z.lt⟩ (j.trans F) I;refine⟨_,M,rd w1 Y,Y,G,H,Le.refl _,.inr ⟨fun h=>h,j.trans F⟩,?_⟩;simpa only[gv,hd]using this
theorem gp(p:Pn)(h:Gt R (p::Pd) c M r)(hp:(!R.T.contains p.i&&(!c.1.getD p.i true&&Pd.all fun q=>!(q.i==p.i)&&!q.deps.contains p.i))=true:=by kernel_rfl):Gt R Pd c M r:=by
 intro U N f e a w Y hb O I S F;simp only[zd,qn]at hp;have H:∀q∈Pd,q.i≠p.i:=fun q j=>by
  have:=qa.1 hp.2.2 q j;simp only[zd,qn,xy]at this;exact this.1
 have G:∀q∈Pd,∀k,q.deps.getD k q.i≠p.i:=fun q j k=>by
  have:=qa.1 hp.2.2 q j;simp only[zd,qn,xy]at this;rcases qi k q.deps.length with C | C
  ·rw[zp,jk C];intro he;have hm:p.i∈q.deps:=by rw[←he];exact jo C
   have J:=this.2;rw[←Bool.not_eq_true,yq]at J;exact J hm
  ·rw[zp,qe C];exact this.1
 have z:∀q∈Pd,f q.i=up f p.i false q.i:=fun q j=>(rH f false (H q j)).symm;have:=h (by simp only[aU,x3,hp.1,jr,kx];exact U) N (up f p.i false) e a w Y (fun q j y=>by
  rcases qS.1 j with rfl | j
  ·rw[wV]at y;cases y
  ·refine⟨y,fun k=>?_⟩;rw[rH f false (G q j k)];exact(hb q j (by rwa[z q j])).2 k) O (fun q j y=>by
  rcases qS.1 j with rfl | j
  ·rw[wV]at y;cases y
  ·exact I q j (by rwa[z q j])) (by
  simp only[pM,wV,zf,j3];rw[zIi Pd (up f p.i false) f e e fun q j=>⟨(z q j).symm,fun _=>⟨rfl,rfl⟩⟩];exact S) F
 simp only[pT,wV,zf]at this;rwa[dS Pd (up f p.i false) f c.1 fun q j=>(z q j).symm]at this
theorem Fr.cons{n:Nat}{a:Act}{L:List (Nat×Value)}{D:List Deferred}(h:Fr n a L D){d:Nat}{v:Value}(hd:a.tmps[d]?=some v):Fr n a ((d,v)::L) D:=by
 refine⟨h.size,h.defers,fun t ht=>?_⟩;simp only[has,sS]at *;cases hb:Nat.beq d t with
 | true=>obtain rfl:=qm hb;simpa using hd
 | false=>rw[hb]at ht;simpa using h.get t (by simpa using ht)
def pB:List Pn→(Nat→Nat)→List (Nat×Obj)
 | [],_=>[]
 | p::f,e=>match p.ob with
  | some o=>(e p.i,o (p.loc e))::pB f e
  | none=>pB f e
theorem qKg:∀(Pd:List Pn)(f:Nat→Bool)(e:Nat→Nat),(∀p∈Pd,f p.i=true)→pM Pd f e=pB Pd e
 | [],_,_,_=>rfl
 | p::y,f,e,h=>by
  simp only[pM,pB,h p (zq ..),ze,qKg y f e fun q j=>h q (zu _ j)];cases p.ob<;>rfl
def gfl(R:Rg)(Pd:List Pn)(l:Array Bool):Bool:=Pd.all fun p=>(Region.ready .any R.ops (gK (Pd.filter fun q=>!(q.i==p.i)) l)).all fun j=>Pd.any fun q=>q.i==j
theorem zOx{x:Nat}:∀(Pd:List Pn)(f:Nat→Bool)(l j:Array Bool),l.size=j.size→f x=false→LeA l j→LeA (pT Pd f l) (gK (Pd.filter fun q=>!(q.i==x)) j)
 | [],_,_,_,_,_,h=>h
 | p::C,f,l,j,y,z,h=>by
  simp only[pT];by_cases hp:p.i=x
  ·simp only[List.filter_cons,hp,beq_self_eq_true,qb,k8,vu,z,zf];exact zOx C f l j y z h
  ·simp only[List.filter_cons,show(p.i==x)=false by simpa using hp,jr,j5,gK,pT,ze]
   cases f p.i
   ·exact zOx C f _ _ (by simpa using y) z (h.setr p.i)
   ·exact zOx C f _ _ (by simpa using y) z (h.set p.i y)
theorem ge(k:∀e:Nat→Nat,Gt R [] (gK Pd c.1,pS Pd e++c.2) (pB Pd e++M) r)(O:kY R c Pd Pd)(hc:(aP Pd&&zPo R c.1 [] Pd.reverse)=true:=by kernel_rfl)(S:gfl R Pd c.1=true:=by kernel_rfl):Gt R Pd c M r:=by
 intro hf h0 f e a w Y hb N hp J F;refine zNs (fun f=>Pd.all fun p=>f p.i) (fun f h=>qa.2 h) O hc (fun f e a w Y hb N hp J F=>⟨fun I j hj C=>?_,fun I=>?_⟩) hf h0 (cnt Pd f) f e a w Y rfl hb N hp J F
 ·exfalso;obtain⟨p,W,z⟩:∃p∈Pd,f p.i=false:=by
   apply ko;intro V;rw[qa.2 fun p hp=>by
    cases z:f p.i
    ·exact absurd ⟨p,hp,z⟩ V
    ·rfl]at I
   cases I
  have Z:(gK (Pd.filter fun q=>!(q.i==p.i)) c.1).getD j true=false:=by
   rw[gK,zIj _ _ c.1 j (fun q G=>C q (List.mem_filter.1 G).1),←zIj Pd f c.1 j C];exact(xp.1 hj).1
  have U:=zIq hj (zOx (x:=p.i) Pd f c.1 c.1 rfl z (fun _ h=>h)) Z;have:=qa.1 S p W;have:=qa.1 this j U;rw[x5]at this;obtain⟨q,G,he⟩:=this;exact C q G (by simpa using he)
 ·have y:∀p∈Pd,f p.i=true:=fun p hp=>qa.1 I p hp;have heq:pT Pd f c.1=gK Pd c.1:=dS Pd f _ c.1 fun q G=>y q G;rw[heq];rw[qKg Pd f e y]at J;have Z2:∀H:List Pn,(∀p∈H,p∈Pd)→Fr R.n a (pS H e++c.2) R.D:=by
   intro H;induction H with
   | nil=>intro _;exact N
   | cons p H ihp=>intro h;exact(ihp fun q G=>h q (zu _ G)).cons (hp p (h p (zq ..)) (y p (h p (zq ..))))
  have:=k e (by rfl) (by
   show jA R.T (gK Pd c.1)=true∨_;rw[gK,zAy Pd _ _ hf];exact h0.imp id fun h=>⟨fun p hp=>uY _ (h.1 p hp),h.2⟩) f e a w Y (fun p hp=>by cases hp) (Z2 Pd fun _ h=>h) (fun p hp=>by cases hp) (by
   simp only[pM,jw];exact J.perm di) F
  exact this
theorem gs1{p:Pn}(k:∀b,Gt R Pd (c.1.setIfInBounds p.i true,(p.d,p.vf fun _=>b)::c.2) (nb p (fun _=>b)++M) r)(U:kY R c (p::Pd) (p::Pd))(hc:(aP (p::Pd)&&zPo R c.1 [] (p::Pd).reverse)=true:=by kernel_rfl)
  (F:(p.deps.all (fun j=>j==p.i)&&(Pd.all (fun q=>!q.deps.contains p.i)&&(Region.ready .any R.ops (gK Pd c.1)).all fun j=>(p::Pd).any fun q=>q.i==j))=true:=by kernel_rfl):Gt R (p::Pd) c M r:=by
 intro N h0 f e a w Y hb S hp V G;simp only[zd]at F;have W:aU R.T Pd=true:=by simp only[aU,x3,zd]at N;exact N.2
 have hpT:p.i∉R.T:=fun e=>by simp[aU,e]at N
 refine zNs (fun f=>f p.i) (fun f h=>h p (zq ..)) U hc (fun f e a w Y hb S hp V G=>⟨fun H j hj I=>?_,fun H=>?_⟩) N h0 (cnt (p::Pd) f) f e a w Y rfl hb S hp V G
 ·exfalso;have z:zMa Pd j:=fun q y=>I q (zu _ y);have J:j∈Region.ready .any R.ops (pT Pd f c.1):=by simpa only[pT,H,zf]using hj
  have Z:j∈Region.ready .any R.ops (gK Pd c.1):=zIq J (zZr Pd f c.1 c.1 rfl (fun _ h=>h)) (by rw[gK,zIj Pd _ c.1 j z,←zIj Pd f c.1 j z];exact(xp.1 J).1)
  have:=qa.1 F.2.2 j Z;rw[x5]at this;obtain⟨q,y,he⟩:=this;exact I q y (by simpa using he)
 ·have C:p.loc e=fun _=>e p.i:=funext fun k=>by
   unfold Pn.loc;rcases qi k p.deps.length with O | O
   ·rw[zp,jk O];have:=qa.1 F.1 _ (jo O);rw[jp,eq_of_beq this]
   ·rw[zp,qe O];rfl
  have hv:=hp p (zq ..) H;unfold Pn.val at hv;rw[C]at hv;have G2:St R.E R.w0 R.X w Y ((nb p (fun _=>e p.i)++M)++pM Pd f e):=V.perm (by
   simp only[pM,H,ze];unfold nb;rw[show p.loc (fun _=>e p.i)=p.loc e by rw[C];rfl]
   cases p.ob with
   | none=>exact List.Perm.refl _
   | some o=>exact vk.symm)
  have:=k (e p.i) W (by
   show jA R.T (c.1.setIfInBounds p.i true)=true∨_;rw[vZ hpT];exact h0.imp id fun h=>⟨fun q y=>uY _ (h.1 q y),h.2⟩) f e a w Y (fun q y=>hb q (zu _ y)) (S.cons hv) (fun q y=>hp q (zu _ y)) G2 G
  simpa only[pT,H,ze]using this
theorem gp1(p:Pn)(k:∀b,Gt R [] (c.1.setIfInBounds p.i true,(p.d,p.vf fun _=>b)::c.2) (nb p (fun _=>b)++M) r)(f:kY R c [p] [p]:=by exact kY.cons (by kernel_rfl) (by kernel_rfl) (by intro e;kernel_rfl) (by intro e w;kernel_rfl) kY.nil)
  (hp:(!R.T.contains p.i&&(!c.1.getD p.i true&&true))=true:=by kernel_rfl) (z:(aP [p]&&zPo R c.1 [] [p].reverse)=true:=by kernel_rfl) (y:(p.deps.all (fun j=>j==p.i)&&(true&&(Region.ready .any R.ops c.1).all fun j=>[p].any fun q=>q.i==j))=true:=by kernel_rfl):Gt R [] c M r:=
 gp p (gs1 k f z y) hp
theorem gO(i:Nat)(h:∀a w Y,Fr R.n a c.2 R.D→St R.E R.w0 R.X w Y M→Le r (rd w Y)→(zR R.ops i).wp R.P a w (fun N I=>∃J z H C,Fr R.n N J R.D∧St R.E R.w0 R.X I C z∧Le H (rd I C)∧
   (jA R.T (c.1.setIfInBounds i true)=true∨(((∀p∈R.M0,p∈M)→∀p∈R.M0,p∈z)∧Le r H))∧Gt R [] (c.1.setIfInBounds i true,J) z H) (wH R.Q))
  (hi:R.ops[i]?=some (zR R.ops i):=by kernel_rfl) (hr:Region.ready .any R.ops c.1=[i]:=by kernel_rfl) (hw:kG R.ops c.2 (zR R.ops i) true=true:=by kernel_rfl):Gt R [] c M r:=by
 intro hf O f e a w Y hb hF hp hS V;have G0:St R.E R.w0 R.X w Y M:=by simpa only[pM,jw]using hS
 show wpU R c.1 a w;refine qLu (by rw[hr];simp) fun j hj=>?_
 obtain rfl:j=i:=by rw[hr]at hj;simpa using hj
 unfold wpOp;simp only[hi];rw[qj (hF.wanted hw)];refine .inl (Oper.wp_mono ?_ (h a w Y hF G0 V));rintro N I ⟨J,z,H,C,S,U,q,y,hG⟩;have F:jA R.T (c.1.setIfInBounds j true)=true∨((∀p∈R.M0,p∈z)∧Le R.r0 H):=by
  rcases y with y | ⟨h1,h2⟩
  ·exact .inl y
  ·rcases O with O | ⟨h3,h4⟩
   ·exact .inl (zGn O)
   ·exact .inr ⟨h1 h3,h4.trans h2⟩
 have Z:St R.E R.w0 R.X I C (z++pM [] f e):=by simpa only[pM,jw]using U
 have G:pCl [] f:=fun p hp=>by cases hp
 have W:pOk N [] f e:=fun p hp=>by cases hp
 exact⟨hold (Pd:=[]) (f:=f) (e:=e) (c:=(c.1.setIfInBounds j true,J)) hf F Z q,hG hf F f e N I C G S W Z q⟩
theorem gX(i j:Nat)(q:Array Value)(k:∀w1 Y,Le r (rd w1 Y)→Gt R [] (gv R i undef c) (wrM M j q) (rd w1 Y))
  (hT:R.T.contains i=true:=by kernel_rfl) (H:(nY c.2 (zR R.ops i)&&(zR R.ops i).dst.isNone)=true:=by kernel_rfl) (ho:(zR R.ops i).op= .store (stT (zR R.ops i)) (stA (zR R.ops i)) (stV (zR R.ops i)):=by kernel_rfl)
  (ha:evL c.2 (stA (zR R.ops i))= .pointer (some ⟨bO M j,zAj (evL c.2 (stA (zR R.ops i))),none⟩):=by kernel_rfl)
  (ht:ldT R.P (stT (zR R.ops i))=some (zRq R.P (stT (zR R.ops i)),(evL c.2 (stV (zR R.ops i))).cells.size):=by kernel_rfl) (I:(evL c.2 (stV (zR R.ops i))).cells.toList.all Value.oneCell'=true:=by kernel_rfl)
  (G:M[j]?=some (bO M j,.cells (cO M j) (tO M j) (0,0)):=by kernel_rfl) (y:Nat.ble (zAj (evL c.2 (stA (zR R.ops i)))+(evL c.2 (stV (zR R.ops i))).cells.size) (cO M j).size=true:=by kernel_rfl)
  (V:yH (cO M j) (zAj (evL c.2 (stA (zR R.ops i)))) (evL c.2 (stV (zR R.ops i))).cells.toList=q:=by kernel_rfl)
  (S:R.ops[i]?=some (zR R.ops i):=by kernel_rfl) (U:Region.ready .any R.ops c.1=[i]:=by kernel_rfl) (z:kG R.ops c.2 (zR R.ops i) true=true:=by kernel_rfl) (hb:jA R.T (c.1.setIfInBounds i true)=true:=by kernel_rfl):Gt R [] c M r:=by
 refine gO i (fun a w Y F O f=>zF j _ F H O ho ha rfl ht rfl I G (jn y) V rfl fun w1 J N=>?_) S U z;refine⟨c.2,wrM M j q,rd w1 Y,Y,F,(by rw[zPu G];exact J),Le.refl _,.inl hb,?_⟩
 have:=k w1 Y (f.trans N);have hd:(zR R.ops i).dst=none:=by have C:=H;rw[zd]at C;exact gu.1 C.2
 simpa only[gv,hd]using this
theorem gXs(i j:Nat)(N:List Nat)(q:Array Value)(k:∀w1 Y,Le r (rd w1 Y)→Gt R [] (gv R i undef c) (wrM M j q) (rd w1 Y))
  (z:sel (wrM M j q) N=R.M0:=by kernel_rfl) (J:(nY c.2 (zR R.ops i)&&(zR R.ops i).dst.isNone)=true:=by kernel_rfl) (ho:(zR R.ops i).op= .store (stT (zR R.ops i)) (stA (zR R.ops i)) (stV (zR R.ops i)):=by kernel_rfl)
  (ha:evL c.2 (stA (zR R.ops i))= .pointer (some ⟨bO M j,zAj (evL c.2 (stA (zR R.ops i))),none⟩):=by kernel_rfl)
  (ht:ldT R.P (stT (zR R.ops i))=some (zRq R.P (stT (zR R.ops i)),(evL c.2 (stV (zR R.ops i))).cells.size):=by kernel_rfl) (O:(evL c.2 (stV (zR R.ops i))).cells.toList.all Value.oneCell'=true:=by kernel_rfl)
  (I:M[j]?=some (bO M j,.cells (cO M j) (tO M j) (0,0)):=by kernel_rfl) (y:Nat.ble (zAj (evL c.2 (stA (zR R.ops i)))+(evL c.2 (stV (zR R.ops i))).cells.size) (cO M j).size=true:=by kernel_rfl)
  (W:yH (cO M j) (zAj (evL c.2 (stA (zR R.ops i)))) (evL c.2 (stV (zR R.ops i))).cells.toList=q:=by kernel_rfl)
  (U:R.ops[i]?=some (zR R.ops i):=by kernel_rfl) (V:Region.ready .any R.ops c.1=[i]:=by kernel_rfl) (C:kG R.ops c.2 (zR R.ops i) true=true:=by kernel_rfl):Gt R [] c M r:=by
 refine gO i (fun a w Y H T f=>zF j _ H J T ho ha rfl ht rfl O I (jn y) W rfl fun w1 S F=>?_) U V C;refine⟨c.2,wrM M j q,rd w1 Y,Y,H,(by rw[zPu I];exact S),Le.refl _,.inr ⟨fun _=>selm N z,f.trans F⟩,?_⟩
 have:=k w1 Y (f.trans F);have hd:(zR R.ops i).dst=none:=by have G:=J;rw[zd]at G;exact gu.1 G.2
 simpa only[gv,hd]using this
end
def dC(c:Cf):Array Oper:=match c.cu with
 | .code (.region _ o _)=>o
 | _=>#[]
def did(c:Cf):Nat:=match c.cu with
 | .code (.region id _ _)=>id
 | _=>0
def isSt:Op→Bool
 | .store .. =>true
 | _=>false
def aN:Op→Bool
 | .load .. =>true
 | _=>false
def tOf(ops:Array Oper):List Nat:=(List.range ops.size).filter fun i=>isSt (zR ops i).op&&(List.range ops.size).all fun j=>!aN (zR ops j).op||(zR ops i).after.any fun e=>Region.binds .any e&&e.on==j
section
variable {r:Option Nat}{m:Nat}{P:Program}{Q:Exit→Act→World→Prop}{n:Nat}{D:List Deferred}{w:World}{c:Cf}{E:Nat→Prop}{w0:World}{X Y:Hid}{M:List (Nat×Obj)}
noncomputable def mkR(r:Option Nat)(m:Nat)(P:Program)(Q:Exit→Act→World→Prop)(n:Nat)(D:List Deferred)(w:World)(c:Cf)(E:Nat→Prop)(w0:World)(X Y:Hid)(M0:List (Nat×Obj))(T:List Nat):Rg:=
 {P:=P,ops:=dC c,Q:=QQ r m P Q c.k,T:=T,n:=n,D:=D,E:=E,w0:=w0,X:=X,M0:=M0,r0:=rd w Y}
theorem zWv(T:List Nat)(f:List (Nat×Obj))(F:St E w0 X w Y M)(k:Gt (mkR r m P Q n D w c E w0 X Y f T) [] (Array.replicate (dC c).size false,c.L) M (rd w Y))(j:∀p∈f,p∈M)
  (G:c.cu= .code (.region (did c) (dC c) true):=by kernel_rfl) (hm:P.follows .mixedOrders=true:=by kernel_rfl) (hd:(dC c).all (fun o=>vD o.op)=true:=by kernel_rfl):Go r m P Q n D w c:=by
 intro a C;rw[G];refine bR (mkR r m P Q n D w c E w0 X Y f T).S T hm rfl hd F fun w1 y q H=>?_;have z:St E w0 X w1 Y (M++pM [] (fun _=>false) (fun _=>0)):=by simpa only[pM,jw]using y
 exact k (by rfl) (.inr ⟨j,Le.refl _⟩) (fun _=>false) (fun _=>0) a w1 Y (fun p hp=>by cases hp) C (fun p hp=>by cases hp) z q (dC c).size (qx List.countP_le_length (by simp[pT]))
theorem qVo(q:List Nat)(f:St E w0 X w Y M)(k:Gt (mkR r m P Q n D w c E w0 X Y (sel M q) (tOf (dC c))) [] (Array.replicate (dC c).size false,c.L) M (rd w Y))
  (j:c.cu= .code (.region (did c) (dC c) true):=by kernel_rfl) (hm:P.follows .mixedOrders=true:=by kernel_rfl) (hd:(dC c).all (fun o=>vD o.op)=true:=by kernel_rfl):Go r m P Q n D w c:=zWv _ _ f k zCj j hm hd
theorem zdrs(q:List Nat)(f:St E w0 X w Y M)(k:Gt (mkR r m P Q n D w c E w0 X Y (sel M q) []) [] (Array.replicate (dC c).size false,c.L) M (rd w Y))
  (j:c.cu= .code (.region (did c) (dC c) true):=by kernel_rfl) (hm:P.follows .mixedOrders=true:=by kernel_rfl) (hd:(dC c).all (fun o=>vD o.op)=true:=by kernel_rfl):Go r m P Q n D w c:=zWv _ _ f k zCj j hm hd
theorem zdr(f:St E w0 X w Y M)(k:Gt (mkR r m P Q n D w c E w0 X Y M (tOf (dC c))) [] (Array.replicate (dC c).size false,c.L) M (rd w Y))
  (j:c.cu= .code (.region (did c) (dC c) true):=by kernel_rfl) (hm:P.follows .mixedOrders=true:=by kernel_rfl) (hd:(dC c).all (fun o=>vD o.op)=true:=by kernel_rfl):Go r m P Q n D w c:=zWv _ M f k (fun _ h=>h) j hm hd
theorem dI{S:World}{I:Hid}{H j:List (Nat×Obj)}{T:List Nat}{F:Rd}{q:Array Bool×List (Nat×Value)}(h:∀w1 z,St E w0 X w1 z j→Le F (rd w1 z)→Go r m P Q n D w1 ⟨.ex .normal,c.k,q.2⟩)(O:Region.ready .any (dC c) q.1=[]:=by kernel_rfl):Gt (mkR r m P Q n D S c E w0 X I H T) [] q j F:=by
 intro V U f e a w Y hb J hp N y fuel _;have G:St E w0 X w Y j:=by have C:=N;simp only[pM,jw]at C;exact C
 exact zEg O (nrm (h w Y G y a J))
end
end Go.Gv
namespace Go.Gv
open Go.RowKit IntKind
def mP(o:Oper)(i:Nat):Operand:=match o.op with
 | .call c=>(c.args[i]?).getD (.tmp 0)
 | _=> .tmp 0
def bTy(o:Oper)(i:Nat):TypeId:=match o.op with
 | .call c=>(c.argTypes[i]?).getD 0
 | _=>0
def mkL(o:Oper):Operand:=match o.op with
 | .makeSlice _ x _=>x
 | _=> .tmp 0
def mkT(o:Oper):TypeId:=match o.op with
 | .makeSlice t _ _=>t
 | _=>0
def slE(P:Program)(t:TypeId):TypeId:=match P.underlying t with
 | some (.slice e)=>e
 | _=>0
def zI(i:TypeInfo):Value:=(i.zero).getD undef
def od(o:Oper):Nat:=o.dst.getD 0
section
variable {P:Program}{Q:Exit→Act→World→Prop}{K:Act→World→Prop}{a:Act}{o:Oper}{n:Nat}{L:List (Nat×Value)}{D:List Deferred}{E:Nat→Prop}{w0 w:World}{X Y:Hid}{M:List (Nat×Obj)}
theorem zMd{f:FuncId}{G:Array Value}{N O:Obj}{C F:Nat}{Φ:World→Value→Prop}(i j:Nat)(V:Fr n a L D)(W:St E w0 X w Y M)(H:M[i]?=some (C,N))(I:M[j]?=some (F,O))(z:Calls P f G w (Ret (fun k=>k=C∨k=F) w Φ))
  (k:∀v w1,Φ w1 v→(∀T U,w1.heap[C]?=some T→w1.heap[F]?=some U→St E w0 X w1 Y ((M.set i (C,T)).set j (F,U)))→Le (rd w Y) (rd w1 Y)→∀S,Fr n S ((od o,v)::L) D→K S w1)
  (Z:opk L o (od o) n=true:=by kernel_rfl) (ho:o.op= .call {callee:= .value (clF o),args:=clA o,argTypes:=clT o}:=by kernel_rfl) (hf:evL L (clF o)= .func (.func f) #[] (qNm (evL L (clF o))):=by kernel_rfl) (q:(clA o).map (evL L)++qNm (evL L (clF o))=G:=by kernel_rfl)
  (y:∀w,(callFunc f G).run P w= .ok (.enter f G) w:=by intro w;kernel_rfl) (J:(Nat.beq i j)=false:=by kernel_rfl):o.wp P a w K Q:=
 qJg i j V Z W ho hf q y H I (fun e=>by subst e;simp at J) z k
theorem qCd{f:FuncId}{F:Array Value}{T:Obj}{b:Nat}{Ψ:Nat→Obj→Value→Prop}(i:Nat)(I:Fr n a L D)(N:St E w0 X w Y M)(J:M[i]?=some (b,T))
  (z:Calls P f F w (Ret (·=b) w fun w1 v=>∃j C,w1.heap[j]?=some C∧(w.heap.size≤j∨j=b)∧Ψ j C v))
  (k:∀v w1 G j C,Ψ j C v→St E w0 X w1 G (M.set i (j,C))→Le (rd w Y) (rd w1 G)→∀H,Fr n H ((od o,v)::L) D→K H w1)
  (O:opk L o (od o) n=true:=by kernel_rfl) (ho:o.op= .call {callee:= .value (clF o),args:=clA o,argTypes:=clT o}:=by kernel_rfl) (S:evL L (clF o)= .func (.func f) #[] (qNm (evL L (clF o))):=by kernel_rfl) (q:(clA o).map (evL L)++qNm (evL L (clF o))=F:=by kernel_rfl)
  (y:∀w,(callFunc f F).run P w= .ok (.enter f F) w:=by intro w;kernel_rfl):o.wp P a w K Q:=
 zSf i I O N ho S q y J z k
theorem vW{g k:Nat}{T:TypeId}{m cap:Nat}{j:Array Value}{l:List Nat}{e:Int}{y:Nat}(i:Nat)(C:Fr n a L D)(G:St E w0 X w Y M)(he:e=(y:Int))(F:M[i]?=some (g,.cells j T (0,0)))(q:qB m cap j l)(I:k<l.length)(J:y<4294967296)
  (z:∀f w1,qB m cap f (l.set k y)→St E w0 X w1 Y (M.set i (g,.cells f T (0,0)))→Le (rd w Y) (rd w1 Y)→K a w1)
  (H:(nY L o&&o.dst.isNone)=true:=by kernel_rfl) (ho:o.op= .store (stT o) (stA o) (stV o):=by kernel_rfl) (ha:evL L (stA o)= .pointer (some ⟨g,k,none⟩):=by kernel_rfl) (hv:evL L (stV o)= .int .u32 e:=by kernel_rfl) (ht:ldT P (stT o)=some (false,1):=by kernel_rfl):o.wp P a w K Q:=
 lK i C H G ho ha hv he ht F q I J z
theorem zBz{l:Int}{e:TypeId}{z:Value}{i0:TypeInfo}(m b:Nat)(F:Fr n a L D)(G:St E w0 X w Y M)
  (k:∀b w1 y,St E w0 X w1 y ((b,.cells (List.replicate m z).toArray e (0,0))::M)→Le (rd w Y) (rd w1 y)→Upd E0 w w1→∀C,Fr n C ((od o,.slice (some ⟨b,0,none⟩) m m)::L) D→K C w1)
  (j:b*m≤281474976710656:=by omega) (f:m≤140737488355328:=by omega) (hm:l=(m:Int):=by first | rfl | omega)
  (hb:i0.bytes=b:=by kernel_rfl) (H:opk L o (od o) n=true:=by kernel_rfl) (ho:o.op= .makeSlice (mkT o) (mkL o) (mkL o):=by kernel_rfl) (J:evL L (mkL o)= .int .i64 l:=by kernel_rfl)
  (ht:P.underlying (mkT o)=some (.slice e):=by kernel_rfl) (I:P.info? e=some i0:=by kernel_rfl) (O:i0.zero=some z:=by kernel_rfl) (N:i0.size=1:=by kernel_rfl) (q:z.cells=#[z]:=by kernel_rfl):o.wp P a w K Q:=
 zZf F H G ho J hm ht I O N q (by rw[hb];exact j) f k
theorem qCe{g y z sl sc:Nat}{j:Array Value}{T:TypeId}{ad:Option Addr}{l l2:List Nat}{Y2:Hid}(i:Nat)(H:Fr n a L D)(J:St E w0 X w Y M)(I:M[i]?=some (g,.cells j T (0,0)))(q:qB y z j l)(G:zN (rd w Y2) ad sl sc l2)(C:l2.length≤y)
  (k:∀f w1,qB y z f (l2++l.drop l2.length)→St E w0 X w1 Y (M.set i (g,.cells f T (0,0)))→Le (rd w Y) (rd w1 Y)→∀F,Fr n F ((od o,.int .i64 (l2.length:Int))::L) D→K F w1)
  (N:opk L o (od o) n=true:=by kernel_rfl) (ho:o.op= .call {callee:= .builtin .copy,args:=#[mP o 0,mP o 1],argTypes:=#[bTy o 0,bTy o 1]}:=by kernel_rfl) (U:evL L (mP o 0)= .slice (some ⟨g,0,none⟩) y z:=by kernel_rfl) (V:evL L (mP o 1)= .slice ad sl sc:=by kernel_rfl)
  (S:P.underlying (bTy o 0)=some (.slice (slE P (bTy o 0))):=by kernel_rfl) (O:(P.info? (slE P (bTy o 0))).map (·.size)=some 1:=by kernel_rfl):o.wp P a w K Q:=
 qJh i H N J ho U V S O I q G C k
theorem zIc{e:TypeId}{g m nn cap c size b:Nat}{cur:Array Value}{xs news:List Value}{ad:Addr}{i0:TypeInfo}(i:Nat)(O:Fr n a L D)(T:St E w0 X w Y M)
  (S:M[i]?=some (g,.cells cur e (0,0))) (z:Row nn cap size cur xs) (y:jC w ad news) (W:news.length=m*size) (N:news.all Value.oneCell'=true)
  (C:nn+m≤maxLen) (f:(nn+m)*b≤140737488355328)
  (k:∀J j q w1 H,Row (nn+m) j size q (xs++news)→St E w0 X w1 H (M.set i (J,.cells q e (0,0)))→Le (rd w Y) (rd w1 H)→∀I,Fr n I ((od o,.slice (some ⟨J,0,none⟩) (nn+m) j)::L) D→K I w1)
  (hb:i0.bytes=b:=by kernel_rfl) (U:opk L o (od o) n=true:=by kernel_rfl) (ho:o.op= .call {callee:= .builtin .append,args:=#[mP o 0,mP o 1],argTypes:=#[bTy o 0,bTy o 0]}:=by kernel_rfl) (Z:evL L (mP o 0)= .slice (some ⟨g,0,none⟩) nn cap:=by kernel_rfl) (hx:evL L (mP o 1)= .slice (some ad) m c:=by kernel_rfl)
  (ht:P.underlying (bTy o 0)=some (.slice e):=by kernel_rfl) (V:P.info? e=some i0:=by kernel_rfl) (hz:i0.zero=some (zI i0):=by kernel_rfl) (F:i0.size=size:=by kernel_rfl) (G:(zI i0).cells.size=size:=by kernel_rfl):o.wp P a w K Q:=
 zMc i O U T ho Z hx ht V hz F G S z y W N C (by rw[hb];exact f) k
theorem zSe{m c size b:Nat}{e:TypeId}{news:List Value}{ad:Addr}{i0:TypeInfo}(N:Fr n a L D)(O:St E w0 X w Y M)(y:jC w ad news)(U:news.length=m*size)(C:0<m)(z:m≤maxLen)(f:m*b≤140737488355328)
  (k:∀J j q w1 H,Row m j size q news→St E w0 X w1 H ((J,.cells q (e) (0,0))::M)→Le (rd w Y) (rd w1 H)→∀I,Fr n I ((od o,.slice (some ⟨J,0,none⟩) m j)::L) D→K I w1)
  (hb:i0.bytes=b:=by kernel_rfl) (S:opk L o (od o) n=true:=by kernel_rfl) (ho:o.op= .call {callee:= .builtin .append,args:=#[mP o 0,mP o 1],argTypes:=#[bTy o 0,bTy o 0]}:=by kernel_rfl) (V:evL L (mP o 0)= .slice none 0 0:=by kernel_rfl) (W:evL L (mP o 1)= .slice (some ad) m c:=by kernel_rfl)
  (ht:P.underlying (bTy o 0)=some (.slice (e)):=by kernel_rfl) (T:P.info? (e)=some i0:=by kernel_rfl) (Z:i0.zero=some (zI i0):=by kernel_rfl) (F:i0.size=size:=by kernel_rfl) (G:(zI i0).cells.size=size:=by kernel_rfl):o.wp P a w K Q:=
 zIb N S O ho V W ht T Z F G y U C z (by rw[hb];exact f) k
theorem zSd{e:TypeId}{m c z cap f b:Nat}{C:Option Addr}{S news:List Value}{ad:Addr}{i0:TypeInfo}{rb R1 M:List (Nat×Obj)}(i:Nat)(V:Fr n a L D)(Z:St E w0 X w Y M)(W:M.drop i=R1++rb)
  (F:fJ e f rb C z cap S) (y:jC w ad news) (U:z+m≤1125899906842624) (j:(z+m)*b≤140737488355328)
  (k:∀G ad' q w1 N,fJ e f G ad' (z+m) q (S++news)→St E w0 X w1 N (M.take i++(R1++G))→Le (rd w Y) (rd w1 N)→∀O,Fr n O ((od o,.slice ad' (z+m) q)::L) D→K O w1)
  (hl:news.length=m*f:=by kernel_rfl) (T:news.all Value.oneCell'=true:=by kernel_rfl) (H:Nat.blt 0 m=true:=by kernel_rfl)
  (hb:i0.bytes=b:=by kernel_rfl) (hc:opk L o (od o) n=true:=by kernel_rfl) (ho:o.op= .call {callee:= .builtin .append,args:=#[mP o 0,mP o 1],argTypes:=#[bTy o 0,bTy o 0]}:=by kernel_rfl) (hs:evL L (mP o 0)= .slice C z cap:=by kernel_rfl) (hx:evL L (mP o 1)= .slice (some ad) m c:=by kernel_rfl)
  (ht:P.underlying (bTy o 0)=some (.slice e):=by kernel_rfl) (hi:P.info? e=some i0:=by kernel_rfl) (hz:i0.zero=some (zI i0):=by kernel_rfl) (I:i0.size=f:=by kernel_rfl) (J:(zI i0).cells.size=f:=by kernel_rfl):o.wp P a w K Q:=
 qQw i V hc Z W ho hs hx ht hi hz I J F y hl T (by simpa[qv]using H) (by simp only[maxLen];omega) (by rw[hb];exact j) k
end
theorem gr{R:Rg}{Pd:List Pn}{c:Array Bool×List (Nat×Value)}{M:List (Nat×Obj)}{r:Rd}(i j k:Nat){m cap:Nat}{y:Array Value}{l:List Nat}(C:qB m cap y l)(O:k<l.length)(f:Gt R Pd (gv R i (.int .u32 ((l.getD k 0:Nat):Int)) c) M r)
  (N:R.M0[j]?=some (bO R.M0 j,.cells (cO R.M0 j) (tO R.M0 j) (fO R.M0 j)):=by kernel_rfl) (z:cO R.M0 j=y:=by kernel_rfl)
  (J:R.ops[i]?=some (zR R.ops i):=by kernel_rfl) (I:gok R Pd c i=true:=by kernel_rfl) (hT:(zJj R.ops R.T i&&!jA R.T c.1)=true:=by kernel_rfl)
  (ho:(zR R.ops i).op= .load (zFh (zR R.ops i)) (ldX (zR R.ops i)):=by kernel_rfl) (S:evL c.2 (ldX (zR R.ops i))= .pointer (some ⟨bO R.M0 j,k,none⟩):=by kernel_rfl) (ht:ldT R.P (zFh (zR R.ops i))=some (false,1):=by kernel_rfl):Gt R Pd c M r:=
 zRc i (.inr ⟨hT,fun w H=>zB (vs:=[.int .u32 ((l.getD k 0:Nat):Int)]) ho S ht (.inr rfl) (by
  have G:=H.1 _ (qg N);intro q v F;rcases q with _ | q
  ·simp at F;subst F;rw[jU,k7 w _ _ _ _ _ G,z];exact C.get O
  ·simp at F)⟩) f J I
def unp:Nat→Value→List Value
 | 1,v=>[v]
 | _,.tuple a=>a.toList
 | _,v=>[v]
section
variable {P:Program}{n:Nat}{D:List Deferred}{w:World}{c:Cf}{E:Nat→Prop}{w0:World}{X Y:Hid}{M:List (Nat×Obj)}{L:List (Nat×Value)}
theorem Res.tZ{t:Nat}{v:Value}{f:List ResultVar}{j:List Value}(k:Res P L w f j)(h:has L t=true:=by kernel_rfl)(e:sS L t=v:=by kernel_rfl):Res P L w (.tmp t::f) (v::j):=e▸Res.tmp h k
def rM(P:Program)(L:List (Nat×Value))(M:List (Nat×Obj))(i t:Nat)(T:TypeId):List Value:=((cO M i).toList.drop (zAj (sS L t))).take (ldS P T)
theorem Res.cM{t:Nat}{T:TypeId}{v:Value}{f:List ResultVar}{j:List Value}(q:St E w0 X w Y M)(i:Nat)(k:Res P L w f j)(h:has L t=true:=by kernel_rfl)(C:sS L t= .pointer (some ⟨bO M i,zAj (sS L t),none⟩):=by kernel_rfl)(ht:ldT P T=some (zRq P T,(rM P L M i t T).length):=by kernel_rfl)
  (y:(zRq P T||(rM P L M i t T).length==1)=true:=by kernel_rfl) (z:M[i]?=some (bO M i,.cells (cO M i) (tO M i) (fO M i)):=by kernel_rfl) (hm:(rM P L M i t T).length=ldS P T:=by kernel_rfl) (e:ldV (zRq P T) (rM P L M i t T)=v:=by kernel_rfl):Res P L w (.cell t T::f) (v::j):=
 e▸Res.cell h C ht (by simpa using y) (q.cells i z (by rw[hm];rfl)) k
theorem zrS(f:List ResultVar){v:Value}{fn:Func}{R:Ending→World→Prop}(h:Res P c.L w f (unp f.length v))(j:R (.returned v) w)(y:fn.results=f.toArray:=by kernel_rfl)(hv:zCe (unp f.length v)=v:=by kernel_rfl)(q:fin c=true:=by kernel_rfl):Go none 0 P (bodyPost P fn R) n [] w c:=zrR h j y hv q
end
theorem zPz{l:List Nat}{x:Nat}:U32 l++[.int .u32 (x:Int)]=U32 (l++[x]):=by simp[U32]
section
variable {w0 w:World}{X Y:Hid}{rb A B:List (Nat×Obj)}{e:TypeId}{m cap:Nat}{ad:Option Addr}
theorem St.pubLimbs{ls:List Nat}(F:List (Nat×Obj)→List (Nat×Obj))(O:St E0 w0 X w Y (F rb))(N:∀rb,F rb=A++(rb++B))(q:fJ e 1 rb ad m cap (U32 ls))(hm:m=ls.length)(S:∀x∈ls,x<4294967296):
  ∃f,St E0 w0 X w f (F [])∧Le (rd w Y) (rd w f)∧zN (rd w f) ad m cap ls:=by
 obtain⟨f,H,I,J⟩:=St.pubRow F O N q;refine⟨f,H,I,?_⟩;rcases J with⟨T,rfl,rfl,rfl⟩ | ⟨g,G,rfl,C,z⟩
 ·have:ls=[]:=by
   cases ls with
   | nil=>rfl
   | cons a l=>simp[U32]at T
  subst this;exact zN.nil none (by omega)
 ·subst hm;refine⟨rfl,C.hn,?_,S,.inr ⟨g,0,rfl,fun j v y=>?_⟩⟩
  ·have:=C.hcap;simp only[maxLen]at this;omega
  ·rw[←C.hxs,qh]at y;split at y
   ·exact z j v y
   ·cases y
end
theorem zEj(l:List Nat)(k:Nat):val (l.take (k+1))=val (l.take k)+l.getD k 0*4294967296^k:=by
 rcases qi k l.length with h | h
 ·exact yX l k h
 ·rw[jv (by omega),jv h,zp,qe h];simp
theorem qSf(l f ls:List Nat)(k c:Nat)(y:ls.length=k)(h:val ls+c*4294967296^k=val (l.take k)+val (f.take k)):
  val (ls++[(l.getD k 0+f.getD k 0+c) % 4294967296])+(l.getD k 0+f.getD k 0+c) / 4294967296*4294967296^(k+1)=val (l.take (k+1))+val (f.take (k+1)):=by
 rw[bB,zEj,zEj,y];have j:=ui (l.getD k 0+f.getD k 0+c) 4294967296;have q:(l.getD k 0+f.getD k 0+c)*4294967296^k=(l.getD k 0+f.getD k 0+c) % 4294967296*4294967296^k+(l.getD k 0+f.getD k 0+c) / 4294967296*4294967296^(k+1):=by
  rw[ja]
  calc (l.getD k 0+f.getD k 0+c)*4294967296^k=(4294967296*((l.getD k 0+f.getD k 0+c) / 4294967296)+(l.getD k 0+f.getD k 0+c) % 4294967296)*4294967296^k:=by rw[j]
   _=_:=by rw[q8,we];congr 1;ac_rfl
 rw[q8,q8]at q;omega
theorem zPq(a:Nat)(h:a<18446744073709551616):IntKind.u64.wrap (Int.tdiv (a:Int) 4294967296)=((a / 4294967296:Nat):Int):=mJ (x:=((a / 4294967296:Nat):Int)) (by omega) (by omega)
theorem qFv(l f ls:List Nat)(k c:Nat)(q:ls.length=k)(y:l.getD k 0<4294967296)(z:f.getD k 0<4294967296)(C:c≤1)(h:val ls+val (f.take k)=val (l.take k)+c*4294967296^k):
  val (ls++[(4294967296+l.getD k 0-f.getD k 0-c) % 4294967296])+val (f.take (k+1))=val (l.take (k+1))+(1-(4294967296+l.getD k 0-f.getD k 0-c) / 4294967296)*4294967296^(k+1):=by
 rw[bB,zEj,zEj,q,ja,uk (4294967296^k),←x4];have e:(4294967296+l.getD k 0-f.getD k 0-c) % 4294967296+f.getD k 0+c=l.getD k 0+(1-(4294967296+l.getD k 0-f.getD k 0-c) / 4294967296)*4294967296:=by omega
 have j:=jh (· * 4294967296^k) e;simp only[q8]at j;omega
theorem qFu{l f ls:List Nat}{c k:Nat}(z:ls.length=k)(j:k=l.length)(hlt:∀x∈ls,x<4294967296)(q:f.length≤l.length)(C:val f≤val l)(G:c≤1)(h:val ls+val (f.take k)=val (l.take k)+c*4294967296^k):val ls=val l-val f:=by
 subst j;rw[jv q,jt]at h;have y:=kR hlt;rw[z]at y;have:c=0:=by
  rcases jg c with h | F
  ·exact h
  ·obtain rfl:c=1:=by omega
   omega
 subst this;omega
theorem zCr:∀(l f:List Nat),(∀j,l.getD j 0=f.getD j 0)→val l=val f
 | [],[],_=>rfl
 | [],b::f,h=>by
  have q:=h 0;have y:=zCr [] f fun j=>by have:=h (j+1);simpa using this
  simp at q;simp only[val]at y ⊢;omega
 | a::l,[],h=>by
  have q:=h 0;have y:=zCr l [] fun j=>by have:=h (j+1);simpa using this
  simp at q;simp only[val]at y ⊢;omega
 | a::l,b::f,h=>by
  have q:=h 0;have y:=zCr l f fun j=>by have:=h (j+1);simpa using this
  simp at q;simp only[val];omega
theorem qJu{l f:List Nat}{k:Nat}(y:∀x∈l,x<4294967296)(h:∀j,k+1≤j→l.getD j 0=f.getD j 0)(hlt:l.getD k 0<f.getD k 0):val l<val f:=by
 have e:val (l.drop (k+1))=val (f.drop (k+1)):=zCr _ _ fun j=>by
  have:=h (k+1+j) (by omega)
  simpa[zp,jq]using this
 have C:val (l.take k)<4294967296^k:=by
  have:=kR (l:=l.take k) fun x z=>y x (wx z);refine qd this (js (by omega) (by rw[jl];omega))
 rw[tV l (k+1),tV f (k+1),e,zEj,zEj];have q:(l.getD k 0+1)*4294967296^k≤f.getD k 0*4294967296^k:=qw _ hlt;rw[q8,vx]at q;omega
section
variable {P:Program}{w:World}
theorem zFk{t ty e:TypeId}{i:TypeInfo}(ht:P.underlying t=some (.slice e))(f:P.info? e=some i)(ad:Option Addr)(c:Nat):
  (Builtin.append_ #[t,t] ty #[.slice none 0 0,.slice ad 0 c]).run P w= .ok (.slice none 0 0) w:=by
 cases ad<;>simp[Builtin.append_,yz ht,sizeOf,typeInfo,f,Builtin.lenOf,Builtin.firstCells,loadCells,loadCellsFrom]
end
section
variable {P:Program}{Q:Exit→Act→World→Prop}{K:Act→World→Prop}{a:Act}{o:Oper}{n:Nat}{L:List (Nat×Value)}{D:List Deferred}{E:Nat→Prop}{w0 w:World}{X Y Y2:Hid}{M:List (Nat×Obj)}
theorem zOr{e:TypeId}{ad:Option Addr}{sl sc:Nat}{l:List Nat}{i0:TypeInfo}(G:Fr n a L D)(H:St E w0 X w Y M)(h:zN (rd w Y2) ad sl sc l)(hb:sl≤1000000)
  (k:∀ad' q w1,St E w0 X w1 Y M→Le (rd w Y) (rd w1 Y)→zN (rd w1 Y) ad' l.length q l→∀C,Fr n C ((od o,.slice ad' l.length q)::L) D→K C w1)
  (J:i0.bytes=4:=by kernel_rfl) (V:opk L o (od o) n=true:=by kernel_rfl) (ho:o.op= .call {callee:= .builtin .append,args:=#[mP o 0,mP o 1],argTypes:=#[bTy o 0,bTy o 0]}:=by kernel_rfl) (Z:evL L (mP o 0)= .slice none 0 0:=by kernel_rfl) (hx:evL L (mP o 1)= .slice ad sl sc:=by kernel_rfl)
  (ht:P.underlying (bTy o 0)=some (.slice e):=by kernel_rfl) (W:P.info? e=some i0:=by kernel_rfl) (hz:i0.zero=some (.int .u32 0):=by kernel_rfl) (T:i0.size=1:=by kernel_rfl):o.wp P a w K Q:=by
 obtain rfl:=h.hlen;have y:=V;simp only[opk,zd]at y;obtain⟨hd,hlt⟩:=qL y.2;rcases jg l.length with z | z
 ·have S:=zFk (P:=P) (w:=w) (ty:=o.type) ht W ad sc;have f:(execOp (evL L) o).run P w= .ok (.value (.slice none 0 0)) w:=by
   unfold execOp;simp only[ho,resolve,invoke,builtin,zk,zm,zg,ke,jf,kO,Z,hx,z,S]
  refine zE G V f fun C Z1=>?_;have hl:l=[]:=zy z;refine k none 0 w H (Le.refl _) ?_ C (by rw[z];exact Z1)
  subst hl;exact zN.nil none (by omega)
 ·obtain⟨b,U,rfl,I⟩:=h.addr z;have S:=dj (P:=P) w (bTy o 0) o.type e i0 (.int .u32 0) ht W hz ⟨b,U,none⟩ l.length sc (U32 l) (by rw[T];simp) (fun j v F=>yQ (I j v F)) z (by omega) (by rw[J];omega)
  have f:(execOp (evL L) o).run P w= .ok (.value (.slice (some ⟨w.heap.size,0,none⟩) l.length (grownCap w l.length 0 e))) (w.drew.alloc (.cells ((U32 l).toArray++Builtin.zeroCells (Value.int .u32 0).cells (grownCap w l.length 0 e-l.length)) e)):=by
   unfold execOp;simp only[ho,resolve,invoke,builtin,zk,zm,zg,ke,jf,kO,Z,hx,S]
  unfold Oper.wp;rw[G.exec y.1,f];show K (a.put o.dst _) _;rw[hd];have hu:Upd E0 w (w.drew.alloc (.cells ((U32 l).toArray++Builtin.zeroCells (Value.int .u32 0).cells (grownCap w l.length 0 e-l.length)) e)):=(Upd.drew w).trans ((Upd.alloc w.drew _).weaken fun _ _ e=>e);have hge:=dd w l.length 0 e;have N:=uJ w l.length 0 e (by simp only[maxLen];omega)
  refine k (some ⟨w.heap.size,0,none⟩) (grownCap w l.length 0 e) _ (H.call hu) (hu.le Y) ⟨rfl,by omega,by simp only[maxLen]at N;omega,h.hlt,.inr ⟨w.heap.size,0,rfl,fun j v F=>?_⟩⟩ _ (G.put hlt _)
  rw[jU];refine pK ?_ (fun hy=>d4 _ (H.lt _ _ hy)) (wo _ w.heap.size _ ((U32 l).toArray++Builtin.zeroCells (Value.int .u32 0).cells (grownCap w l.length 0 e-l.length)) e (by show(w.heap.push _)[w.heap.size]?=_;simp))
  have O:j<(U32 l).length:=(zh.1 F).1;rw[k7 _ w.heap.size _ ((U32 l).toArray++Builtin.zeroCells (Value.int .u32 0).cells (grownCap w l.length 0 e-l.length)) e (0,0) (by show(w.heap.push _)[w.heap.size]?=_;simp)]
  simp only[qc];rw[Array.getElem?_append_left (by simpa using O)]
  simpa using F
end
section
variable {P:Program}{w:World}{ρ:Operand→Value}{o:Oper}
theorem qKy{kd:IntKind}{t t2:TypeId}{xa xb:Operand}{x k:Nat}(ho:o.op= .binOp .shr t xa xb t2)(hx:ρ xa= .int .u32 (x:Int))(hk:ρ xb= .int kd (k:Int))(h:k≤32):(execOp ρ o).run P w= .ok (.value (.int .u32 ((x / 2^k:Nat):Int))) w:=by
 unfold execOp;simp only[ho,hx,hk];have h1:=shift_shr_u32 (yk:=kd) (x:=(x:Int)) (y:=(k:Int)) (by omega) (by omega)
 simp[go_sem,h1]
theorem qKw{kd:IntKind}{t t2:TypeId}{xa xb:Operand}{x k:Nat}(ho:o.op= .binOp .shl t xa xb t2)(hx:ρ xa= .int .u32 (x:Int))(hk:ρ xb= .int kd (k:Int))(h:k≤32):(execOp ρ o).run P w= .ok (.value (.int .u32 ((x*2^k % 4294967296:Nat):Int))) w:=by
 unfold execOp;simp only[ho,hx,hk];have h1:=shift_shl_u32 (yk:=kd) (x:=(x:Int)) (y:=(k:Int)) (by omega) (by omega)
 simp[go_sem,h1,yY]
end
def adF(ad:Option Addr)(cap k:Nat):Option Addr:=if cap=k then ad else ad.map (·.add (k*1))
theorem zN.drop{r:Rd}{ad:Option Addr}{f cap:Nat}{l:List Nat}(h:zN r ad f cap l){k:Nat}(I:k≤f):zN r (adF ad cap k) (f-k) (cap-k) (l.drop k):=by
 have F:=h.hlen;have G:=h.hcap;have H:=h.hbig;refine⟨by simp;omega,by omega,by omega,fun x C=>h.hlt x (uf C),?_⟩
 unfold adF;split
 ·exact .inl (yo (by omega))
 ·rcases h.hat with z | ⟨b,q,e,ha⟩
  ·exact .inl (by rw[z];simp)
  ·refine .inr ⟨b,q+k,by rw[e];simp[Addr.add],fun j v y=>?_⟩
   rw[show U32 (l.drop k)=(U32 l).drop k by simp[U32],jq]at y
   have:=ha (k+j) v y;simpa[jU,xq]using this
section
variable {P:Program}{ρ:Operand→Value}
theorem zJz{o:Oper}{t e:TypeId}{x j:Operand}{ad:Option Addr}{len cap:Nat}{kd:IntKind}{k:Nat}{g:Bool}(ho:o.op= .slice t x (some j) none none)(ht:P.underlying t=some (.slice e))(he:ldT P e=some (g,1))
  (q:ρ x= .slice ad len cap) (f:ρ j= .int kd (k:Int)) (y:k≤len) (w:World):
  (execOp ρ o).run P w= .ok (.value (.slice (adF ad cap k) (len-k) (cap-k))) w:=by
 unfold execOp;simp only[ho,q,Instr.sliceAt,Instr.slice,Instr.sliceBounds,Instr.sliceBound,asIntOf,underlying,ht,zk,zm,qo,zg,Option.map_some,fq,f,show(0:Int)≤(k:Int)by omega,show(k:Int)≤(len:Int)by omega,dw,j5,run_sizeOf he,wu]
 rfl
theorem zMi{o:Oper}{w:World}{F:IntKind}{t G:TypeId}{f j:Operand}{k:Nat}(ho:o.op= .binOp .shl t f j G)(C:ρ f= .int .u32 1)(z:ρ j= .int F (k:Int))(h:k<32):(execOp ρ o).run P w= .ok (.value (.int .u32 ((2^k:Nat):Int))) w:=by
 have q:=qKw (P:=P) (w:=w) (x:=1) ho C z (by omega)
 have y:(2:Nat)^k<4294967296:=qd (y5 (by omega) h) (by decide)
 rwa[vx,km y]at q
end
theorem jCq{w:World}{Y:Hid}{b:Nat}{x:Nat}(h:At (rd w Y) ⟨b,0,none⟩ [.int .u32 (x:Int)])(q:x<4294967296):zN (rd w Y) (some ⟨b,0,none⟩) 1 1 [x]:=
 ⟨rfl,z6 _,by omega,by simpa using q,.inr ⟨b,0,rfl,fun j v f=>h j v (by simpa[U32]using f)⟩⟩
theorem qLy(l:List Nat)(y:∀x∈l,x<4294967296)(k:Nat)(q:k≤l.length):val l / 2^(32*k)=val (l.drop k):=by
 have f:(2:Nat)^(32*k)=4294967296^k:=by rw[uS]
 have j:val (l.take k)<4294967296^k:=by
  have:=kR (l:=l.take k) fun x z=>y x (wx z);rwa[jl,kg q]at this
 rw[f,tV l k,y4 _ _ (Nat.pow_pos (by omega)),yc j,qc]
theorem rR{l:List Nat}{k:Nat}(q:zX l)(h:val l<4294967296^k):l.length≤k:=by
 by_cases f:l=[]
 ·simp[f]
 ·have j:=sH q f;have y:=(yf (by omega:1<4294967296)).1 (ju j h)
  omega
theorem zKr{l f:List Nat}{x:Nat}(q:zX l)(j:∀x∈f,x<4294967296)(y:x<val f)(h:val l≤x+x+1):l.length≤f.length+1:=by
 refine rR q ?_;have:=kR j;rw[ja];omega
theorem qNz{l f:List Nat}{N:Nat}(C:∀x∈l,x<4294967296)(z:zX f)(q:0<val f)(H:l.length+1=N+f.length):val (l.drop N)<val f:=by
 have j:f≠[]:=fun e=>by subst e;simp[val]at q
 have G:=sH z j;have y:=kR (l:=l.drop N) fun x F=>C x (uf F);rw[xj,show l.length-N=f.length-1 by omega]at y
 omega
theorem qRn{l:List Nat}(h:0<val l):0<l.length:=by
 cases l with
 | nil=>simp[val]at h
 | cons a b=>simp
theorem jGs{l f:List Nat}(q:∀x∈l,x<4294967296)(j:zX f)(h:l.length<f.length):val l<val f:=by
 refine Nat.lt_of_not_le fun e=>?_;have:=qD q j e;omega
end Go.Gv
namespace Go.Proofs.YtdfmdiakjdggbaaGreatDoor
open Go Go.Gv Go.RowKit IntKind
set_option maxRecDepth 100000
set_option maxHeartbeats 1000000
theorem zAq(w:World)(X:Hid)(hX:∀k o,X k o→k<w.heap.size)(ad:Option Addr)(len cap:Nat)(l:List Nat)(h:zN (rd w X) ad len cap l):
    Calls Tryz.prog 235 #[.slice ad len cap] w (Ret E0 w fun _ v=>v= .slice ad (qW l) cap):=by
 obtain rfl:=h.hlen;have hl:=h.hlen;have S:=h.hcap;have O:=h.hbig;refine zen Tryz.func235 ?_;have V:St E0 w X w X []:=St.start hX;refine zz 7<|zlp Tryz.f235 [] [1,0,0] (fun(k:Nat)=>[(0,.slice ad k cap)]) (fun(k:Nat)w1=>∃(N:Hid),St E0 w X w1 N []∧Le (rd w X) (rd w1 N)∧(k≤l.length)∧(kF l k=kF l l.length)) (fun(k:Nat)=>k) l.length ?_ ?_
 ·
  refine⟨_,V,Le.refl _,z6 _,rfl⟩
 rintro k w2 W H ⟨Y2,F,J,z,C⟩;have hk:=z;have ht:=C;refine zz 7<|zt 6 (p:=(k:Int)>0) (fun U=>?_) (fun U=>?_)
 ·
  obtain⟨j,f,rfl,_⟩:=h.addr (by omega)
  have q:=(h.cell (i:=k-1) (by omega))
  refine zz 4<|zw 10 (x:=(k:Int)-1)<|zi (b:=j) (off:=f) (len:=k) (cap:=cap) (kd:= .i64) (i:=(k:Int)-1) 1 (f+(k-1)) ?_ (hoff:=(by first | omega | (simp;done) | (simp;omega)))
  refine zl ((q.mono J)).cells<|zz 4<|zb 14 (b:=(((l.getD (k-1) 0:Nat):Int)==0)) (fun G=>?_) (fun G=>?_)
  ·
   have F7:((l.getD (k-1) 0:Nat):Int)=0:=by simpa using G
   have y:=zEz (l:=l) (k:=k) (by omega) (by omega)
   refine zz 9<|zw 18 (x:=(k:Int)-1)<|zop (at1 [W] Tryz.f235 [1,0,0,0,1,0]) 4 (fun a8 _ Z I=>zE (d:=19) (v:= .slice (some ⟨j,f,none⟩) (k-1) cap) Z kr (zCi (t:=26) (e:=214) (ad:=(some ⟨j,f,none⟩)) (len:=k) (cap:=cap) (kd:= .i64) (i:=(k:Int)-1) (h':=(k-1)) (g:=false) (m:=1) rfl kr kr kr kr (by omega) (by omega) (by first | omega | (simp;done) | (simp;omega)) _) ?_)
   intro a9 Z9;refine I Z9<|zz 3 ?_;refine kU (fun a h=>H (k-1) _ a h ⟨_,F,J,by omega,by omega⟩ ?_)
   first | omega | (simp<;>omega)
  have T:((l.getD (k-1) 0:Nat):Int)≠0:=by simpa using G
  have y:=zEy (l:=l) (k:=k) (by omega) (by omega)
  refine zz 13<|zr' (v:= .slice (some ⟨j,f,none⟩) k cap) ?_;exact⟨F.upd,_,rfl,by unfold qW;first | rw[←ht,y] | rw[←ht];rfl⟩
 obtain rfl:k=0:=by omega
 refine zz 23<|zr' (v:= .slice ad 0 cap) ?_;exact⟨F.upd,_,rfl,by unfold qW;first | rw[←ht,y] | rw[←ht];rfl⟩
section
variable (w:World)(X:Hid)(hX:∀k o,X k o→k<w.heap.size)
set_option maxHeartbeats 1000000
include hX in
theorem zLk(x:Int):Calls Tryz.prog 234 #[.int .i64 x] w (Ret E0 w fun _ v=>v= .bool false):=by
 refine zen Tryz.func234 ?_;have f:St E0 w X w X []:=St.start hX;refine zz 14<|zr' (v:= .bool ((x)!=x)) ?_;exact⟨f.upd,_,rfl,by simp⟩
include hX in
theorem zBr(x:Int):Calls Tryz.prog 281 #[.int .u32 x] w (Ret E0 w fun _ v=>v= .bool false):=by
 refine zen Tryz.func281 ?_;have f:St E0 w X w X []:=St.start hX;refine zz 14<|zr' (v:= .bool ((x)!=x)) ?_;exact⟨f.upd,_,rfl,by simp⟩
def qO(x y:Int):Int:=if x<y then -1 else if x>y then 1 else 0
include hX in
theorem zQr(x y:Int):Calls Tryz.prog 171 #[.int .i64 x,.int .i64 y] w (Ret E0 w fun _ v=>v= .int .i64 (qO x y)):=by
 refine zen Tryz.func171 ?_;have j:St E0 w X w X []:=St.start hX;refine zz 8<|zc j (zLk _ _ j.lt x) ?_;rintro J O q F H rfl;refine zz 6<|zc q (zLk _ _ q.lt y) ?_;rintro N S f G I rfl;refine zz 29<|zt 16 (p:=(x)<y) (fun z=>?_) (fun z=>?_);refine zz 8<|zr' (v:= .int .i64 (-1)) ?_;exact⟨f.upd,_,rfl,zQ (by unfold qO;(repeat' split)<;>omega)⟩
 refine zz 11<|zt 19 (p:=(x)>y) (fun C=>?_) (fun C=>?_);refine zz 8<|zr' (v:= .int .i64 1) ?_;exact⟨f.upd,_,rfl,zQ (by unfold qO;(repeat' split)<;>omega)⟩
 refine zz 9<|zr' (v:= .int .i64 0) ?_;exact⟨f.upd,_,rfl,zQ (by unfold qO;(repeat' split)<;>omega)⟩
include hX in
theorem zGs(x y:Int):Calls Tryz.prog 264 #[.int .u32 x,.int .u32 y] w (Ret E0 w fun _ v=>v= .int .i64 (qO x y)):=by
 refine zen Tryz.func264 ?_;have j:St E0 w X w X []:=St.start hX;refine zz 8<|zc j (zBr _ _ j.lt x) ?_;rintro J O q F H rfl;refine zz 6<|zc q (zBr _ _ q.lt y) ?_;rintro N S f G I rfl;refine zz 29<|zt 16 (p:=(x)<y) (fun z=>?_) (fun z=>?_);refine zz 8<|zr' (v:= .int .i64 (-1)) ?_;exact⟨f.upd,_,rfl,zQ (by unfold qO;(repeat' split)<;>omega)⟩
 refine zz 11<|zt 19 (p:=(x)>y) (fun C=>?_) (fun C=>?_);refine zz 8<|zr' (v:= .int .i64 1) ?_;exact⟨f.upd,_,rfl,zQ (by unfold qO;(repeat' split)<;>omega)⟩
 refine zz 9<|zr' (v:= .int .i64 0) ?_;exact⟨f.upd,_,rfl,zQ (by unfold qO;(repeat' split)<;>omega)⟩
include hX in
theorem jGb(x y c:Int)(q:0≤x∧x<4294967296)(z:0≤y∧y<4294967296)(j:0≤c∧c≤1):Calls Tryz.prog 283 #[.int .u32 x,.int .u32 y,.int .u32 c] w (Ret E0 w fun _ v=>v= .tuple #[.int .u32 ((x+y+c) % 4294967296),.int .u32 ((x+y+c) / 4294967296)]):=by
 refine zen Tryz.func283 ?_;have f:St E0 w X w X []:=St.start hX;refine zz 10<|zs 10 (v:= .int .u64 (IntKind.u64.wrap (x))) (v':= .int .u64 x) (zQ (mJ (by omega) (by omega)))<|zz 2<|zs 12 (v:= .int .u64 (IntKind.u64.wrap (y))) (v':= .int .u64 y) (zQ (mJ (by omega) (by omega)))<|zz 1<|zs 13 (v:= .int .u64 (IntKind.u64.wrap ((x)+y))) (v':= .int .u64 ((x)+y)) (zQ (mJ (by omega) (by omega)))<|zz 2<|zs 15 (v:= .int .u64 (IntKind.u64.wrap (c))) (v':= .int .u64 c) (zQ (mJ (by omega) (by omega)))<|zz 1 ?_
 refine zs 16 (v:= .int .u64 (IntKind.u64.wrap (((x)+y)+c))) (v':= .int .u64 (((x)+y)+c)) (zQ (mJ (by omega) (by omega)))<|zz 7<|zs 18 (v:= .int .u32 (IntKind.u32.wrap (((x)+y)+c))) (v':= .int .u32 ((((x)+y)+c) % 4294967296)) (zQ (yY _))<|zz 7<|zs 20 (v:= .int .u64 (Int.fdiv (((x)+y)+c) (2^32))) (v':= .int .u64 ((((x)+y)+c) / 4294967296)) (zQ (wM _ 32 (by decide) (by decide)))<|zz 1<|zs 21 (v:= .int .u32 (IntKind.u32.wrap ((((x)+y)+c) / 4294967296))) (v':= .int .u32 (((x)+(y)+(c)) / 4294967296)) (zQ (qMj (by omega) (by omega)))<|zz 4<|zr' (v:= .tuple #[.int .u32 ((((x)+y)+c) % 4294967296),.int .u32 (((x)+(y)+(c)) / 4294967296)]) ?_
 exact⟨f.upd,_,rfl,by first | rfl | (congr 3;omega) | skip⟩
end
section
variable (w:World)(X:Hid)(hX:∀k o,X k o→k<w.heap.size)
set_option maxHeartbeats 1000000
include hX in
theorem qVk(x y c:Int)(F:0≤x∧x<4294967296)(G:0≤y∧y<4294967296)(C:0≤c∧c≤1):Calls Tryz.prog 265 #[.int .u32 x,.int .u32 y,.int .u32 c] w (Ret E0 w fun _ v=>v= .tuple #[.int .u32 ((((x)-y) % 4294967296-c) % 4294967296),.int .u32 (if x<y+c then 1 else 0)]):=by
 refine zen Tryz.func265 ?_;have z:St E0 w X w X []:=St.start hX;refine zz 11<|zs 10 (v:= .int .u32 (IntKind.u32.wrap ((x)-y))) (v':= .int .u32 (((x)-y) % 4294967296)) (zQ (yY _))<|zz 2<|zs 12 (v:= .int .u32 (IntKind.u32.wrap ((((x)-y) % 4294967296)-c))) (v':= .int .u32 (((((x)-y) % 4294967296)-c) % 4294967296)) (zQ (yY _))<|zz 17<|zs 24 (v:= .int .u32 (Int.fdiv (rY (wY (wJ 4294967295 x) y) (wY (wJ 4294967295 (wJ x y)) (((((x)-y) % 4294967296)-c) % 4294967296))) (2^31))) (v':= .int .u32 ((rY (wY (wJ 4294967295 x) y) (wY (wJ 4294967295 (wJ x y)) (((((x)-y) % 4294967296)-c) % 4294967296))) / 2147483648)) (zQ (wM _ 31 (by decide) (by decide)))<|zz 4<|zr' (v:= .tuple #[.int .u32 (((((x)-y) % 4294967296)-c) % 4294967296),.int .u32 ((rY (wY (wJ 4294967295 x) y) (wY (wJ 4294967295 (wJ x y)) (((((x)-y) % 4294967296)-c) % 4294967296))) / 2147483648)]) ?_
 exact⟨z.upd,_,rfl,by
    obtain⟨j,rfl⟩:=jj F.1;obtain⟨q,rfl⟩:=jj G.1;obtain⟨f,rfl⟩:=jj C.1;obtain⟨dn,hd⟩:=jj (a:=(((j:Int)-q) % 4294967296-f) % 4294967296) (by omega)
    have:=qCy j q f dn (by omega) (by omega) (by omega) (by omega) hd.symm
    rw[hd,this]⟩
include hX in
theorem qJt(b off len cap:Nat)(es:List Int)(O:len=es.length)(N:es.length≤1000)(G:At (rd w X) ⟨b,off,none⟩ (I64 es)):Calls Tryz.prog 81 #[.slice (some ⟨b,off,none⟩) len cap] w (Ret E0 w fun _ v=>v= .int .i64 (orL es)):=by
 refine zen Tryz.func81 ?_;have T:St E0 w X w X []:=St.start hX;refine zz 19<|zlp Tryz.f81 [] [1,1,0,1,0] (fun(k:Nat)=>[(3,.int .i64 0),(6,.slice (some ⟨b,off,none⟩) len cap),(7,.int .i64 (len:Int)),(8,.int .i64 (k:Int))]) (fun(k:Nat)w1=>∃(J:Hid),St E0 w X w1 J []∧Le (rd w X) (rd w1 J)∧(k≤es.length)∧(∀j,j<k→es.getD j 0=0)) (fun(k:Nat)=>es.length-k) 0 ?_ ?_;refine⟨_,T,Le.refl _,qq _,fun j y=>absurd y (Nat.not_lt_zero j)⟩;rintro k w2 W F ⟨Y2,z,I,H,f⟩;refine zz 6<|zt 9 (p:=(k:Int)<(len:Int)) (fun S=>?_) (fun S=>?_);have q:=(G.one (qMo (l:=es) (i:=k) (by omega)))
 refine zz 7<|zi (b:=b) (off:=off) (len:=len) (cap:=cap) (kd:= .i64) (i:=(k:Int)) 1 (off+k)<|zl ((q.mono I)).cells<|zz 10<|zb 14 (b:=((es.getD k 0)!=0)) (fun C=>?_) (fun C=>?_);have U:(es.getD k 0)≠0:=by simpa using C
 refine zz 13<|zr' (v:= .int .i64 (es.getD k 0)) ?_;exact⟨z.upd,_,rfl,zQ (by first | exact(zId es (fun j y=>f j (by omega))).symm | exact(zVy es k (by omega) f (by omega)).symm)⟩
 have V:(es.getD k 0)=0:=by simpa using C
 refine zz 6<|zw 16 (x:=(k:Int)+1)<|zz 2 ?_;refine kU (fun a h=>F (k+1) _ a h ⟨_,z,I,by omega,fun j y=>(by rcases fY.1 y with h | h;exact f j h;rw[h];omega)⟩ ?_)
 first | omega | (simp<;>omega)
 have Z:k=es.length:=by omega
 refine zz 13<|zr' (v:= .int .i64 0) ?_;exact⟨z.upd,_,rfl,zQ (by first | exact(zId es (fun j y=>f j (by omega))).symm | exact(zVy es k (by omega) f (by omega)).symm)⟩
include hX in
theorem qBi(f cap:Nat)(l:List Nat)(G:f=l.length)(z:f≤35184372088831)(hlt:∀x∈l,x<4294967296)(q:l=[]):Calls Tryz.prog 223 #[.slice none f cap] w (Ret E0 w fun F v=>∃ad' y j,zJp w F 214 v l ad' y j):=by
 refine zen Tryz.func223 ?_;have C:St E0 w X w X []:=St.start hX;refine zz 20<|zr' (v:= .slice none 0 0) ?_;exact⟨C.upd,_,rfl,_,_,_,⟨rfl,by rw[q];rfl,hlt,.inl ⟨rfl,rfl,rfl⟩⟩⟩
include hX in
theorem zGr(ad:Addr)(f cap:Nat)(l:List Nat)(H:f=l.length)(I:f≤35184372088831)(hlt:∀x∈l,x<4294967296)(z:At (rd w X) ad (U32 l)):Calls Tryz.prog 223 #[.slice (some ad) f cap] w (Ret E0 w fun V v=>∃ad' q j,zJp w V 214 v l ad' q j):=by
 refine zen Tryz.func223 ?_;have N:St E0 w X w X []:=St.start hX;refine zz 17<|zn (fun b=> .slice (some ⟨b,0,none⟩) 0 0) (.cells #[] 214 (0,0)) N fun U w3 Y3 O J Z=>zz 1<|zop (at1 [] Tryz.f223 [1,1,0]) 2 (fun a4 _ T C=>zIc (b:=4) (m:=f) (c:=cap) (size:=1) (ad:=ad) (xs:=[]) (news:=U32 l) (i0:=Tryz.t214) (cur:=#[]) (nn:=0) (cap:=0) (g:=U) (e:=214) 0 T O kr ⟨z6 _,qq _,rfl,rfl⟩ (z.mono J).cells (by simp[H]) (by simp[U32,Value.oneCell']) (by simp only[maxLen];omega) (by show(0+f)*4≤_;omega) ?_)
 intro g5 S Q5 w5 Y5 F y W a6 G;simp only[qc,j3]at G F;refine C G<|zz 4<|zr' (v:= .slice (some ⟨g5,0,none⟩) f S) ?_;exact⟨y.upd,_,rfl,_,_,_,⟨rfl,H,hlt,.inr ⟨_,_,rfl,y.own_ge 0 rfl,y.get 0 rfl,⟨F,hlt⟩⟩⟩⟩
include hX in
theorem zBb(ad:Option Addr)(f cap:Nat)(l:List Nat)(h:zN (rd w X) ad f cap l)(q:f≤35184372088831):Calls Tryz.prog 223 #[.slice ad f cap] w (Ret E0 w fun I v=>∃ad' z y,zJp w I 214 v l ad' z y):=by
 rcases h.hat with F | ⟨b,H,rfl,C⟩
 ·cases ad with
  | none=>exact qBi w X hX f cap l h.hlen q h.hlt F
  | some a=>exact zGr w X hX a f cap l h.hlen q h.hlt (F▸fun j v G=>by simp[U32]at G)
 ·exact zGr w X hX _ f cap l h.hlen q h.hlt C
end
section
variable (w:World)(X:Hid)(hX:∀k o,X k o→k<w.heap.size)
set_option maxHeartbeats 1000000
include hX in
theorem zNc(ad:Option Addr)(len cap:Nat)(l:List Nat)(h:zN (rd w X) ad len cap l):Calls Tryz.prog 153 #[.slice ad len cap] w (Ret E0 w fun _ v=>v= .int .i64 (jF l)):=by
 obtain rfl:=h.hlen;have C:=h.hcap;have z:=h.hbig;refine zen Tryz.func153 ?_;have j:St E0 w X w X []:=St.start hX;refine zz 15<|zt 3 (p:=(l.length:Int)>512) (fun F=>?_) (fun F=>?_);refine zz 9<|zr' (v:= .int .i64 4) ?_;exact⟨j.upd,_,rfl,zQ (by unfold jF;(repeat' split)<;>first | rfl | omega)⟩
 refine zz 7<|zt 11 (p:=(l.length:Int)>0) (fun G=>?_) (fun G=>?_);obtain⟨y,f,rfl,_⟩:=h.addr (by omega)
 refine zz 4<|zw 15 (x:=(l.length:Int)-1)<|zi (b:=y) (off:=f) (len:=l.length) (cap:=cap) (kd:= .i64) (i:=(l.length:Int)-1) 1 (f+(l.length-1)) ?_ (hoff:=(by first | omega | (simp;done) | (simp;omega)))
 refine zl ((h.cell (i:=(l.length-1)) (by omega)).mono (Le.refl _)).cells<|zz 5<|zb 7 (b:=(((l.getD (l.length-1) 0:Nat):Int)==0)) (fun q=>?_) (fun q=>?_)
 have H:((l.getD (l.length-1) 0:Nat):Int)=0:=by simpa using q
 refine zz 9<|zr' (v:= .int .i64 2) ?_;exact⟨j.upd,_,rfl,zQ (by unfold jF;(repeat' split)<;>first | rfl | omega)⟩
 have I:((l.getD (l.length-1) 0:Nat):Int)≠0:=by simpa using q
 refine zz 10<|zr' (v:= .int .i64 0) ?_;exact⟨j.upd,_,rfl,zQ (by unfold jF;(repeat' split)<;>first | rfl | omega)⟩
 refine zz 21<|zr' (v:= .int .i64 0) ?_;exact⟨j.upd,_,rfl,zQ (by unfold jF;(repeat' split)<;>first | rfl | omega)⟩
def vK(l f:List Nat):Int:=orL [jF l,jF f]
include hX in
theorem zAx(ad:Option Addr)(y cap:Nat)(l:List Nat)(h:zN (rd w X) ad y cap l)(q:Option Addr)(f C:Nat)(j:List Nat)(O:zN (rd w X) q f C j):Calls Tryz.prog 222 #[.slice ad y cap,.slice q f C] w (Ret E0 w fun _ v=>v= .int .i64 (vK l j)):=by
 refine zen Tryz.func222 ?_;have G:St E0 w X w X []:=St.start hX;refine zz 8<|zc G (zNc _ X0 (qC _) _ _ _ l (h.mono Le.x0)) ?_;rintro v3 w3 H F V rfl;refine zz 1<|zc H (zNc _ X0 (qC _) _ _ _ j ((O.mono F).mono Le.x0)) ?_;rintro v5 w5 I S W rfl;refine zn (fun b=> .slice (some ⟨b,0,none⟩) 2 2) (.cells #[.int .i64 (jF l),.int .i64 (jF j)] 46 (0,0)) I fun N w7 Y7 z T Z=>zc z (qJt _ X0 (qC _) _ _ _ _ [jF l,jF j] rfl (by simp) (z.at0 0 rfl rfl)) ?_ (vs:=#[.slice (some ⟨N,0,none⟩) 2 2])
 rintro v9 w9 J U N9 rfl;refine zz 4<|zr' (v:= .int .i64 (orL [jF l,jF j])) ?_;exact⟨J.upd,_,rfl,zQ (rfl)⟩
include hX in
theorem qUb(ad:Option Addr)(f cap:Nat)(l:List Nat)(h:zN (rd w X) ad f cap l):Calls Tryz.prog 267 #[.slice ad f cap] w (Ret E0 w fun _ v=>v=if 512<qW l then .tuple #[.slice none 0 0,.int .i64 4]else .tuple #[.slice ad (qW l) cap,.int .i64 0]):=by
 have C:=h.hcap;have z:=h.hbig;have I:=h.hlen;have j:=rV l l.length;rw[show kF l l.length=qW l from rfl]at j;refine zen Tryz.func267 ?_;have q:St E0 w X w X []:=St.start hX;refine zz 10<|zc q (zAq _ _ q.lt _ _ _ l h) ?_;rintro J N y G H rfl;refine zz 10<|zt 8 (p:=(qW l:Int)>512) (fun F=>?_) (fun F=>?_);refine zz 9<|zr' (v:= .tuple #[.slice none 0 0,.int .i64 4]) ?_;exact⟨y.upd,_,rfl,by first | rw[qj (by omega)] | rw[ql (by omega)]⟩
 refine zz 11<|zr' (v:= .tuple #[.slice ad (qW l) cap,.int .i64 0]) ?_;exact⟨y.upd,_,rfl,by first | rw[qj (by omega)] | rw[ql (by omega)]⟩
end
end Go.Proofs.YtdfmdiakjdggbaaGreatDoor
namespace Go.Proofs.YtdfmdiakjdggbaaGreatDoor
open Go Go.Gv Go.RowKit IntKind
set_option maxRecDepth 100000
set_option maxHeartbeats 1000000
abbrev Two(a b:Nat):Nat→Prop:=fun k=>k=a∨k=b
abbrev qMn(a b:Nat):Hid:=fun k _=>k=a∨k=b
theorem qEh(w:World)(g z G i m cap:Nat)(J:Array Value)(l:List Nat)(x c:Nat)(hne:g≠z)(hbg:G≠g)(hbb:G≠z)(hg:w.heap[g]?=some (.cells J 214 (0,0)))(j:qB m cap J l)
    (S:w.heap[z]?=some (.cells #[.int .u32 (c:Int)] 214 (0,0))) (hba:At (rd w (qMn g z)) ⟨G,0,none⟩ [.slice (some ⟨g,0,none⟩) m cap]) (hi:i<l.length) (hx:x<4294967296) (hc:c≤1) (hbig:m≤4611686018427387904):
    Calls Tryz.prog 282 #[.int .i64 (i:Int),.int .u32 (x:Int),.pointer (some ⟨G,0,none⟩),.pointer (some ⟨z,0,none⟩)] w (Ret (Two g z) w fun w' v=>v= .tuple #[]∧∃H,w'.heap[g]?=some (.cells H 214 (0,0))∧qB m cap H (l.set i ((l.getD i 0+x+c) % 4294967296))∧
      w'.heap[z]?=some (.cells #[.int .u32 (((l.getD i 0+x+c) / 4294967296:Nat):Int)] 214 (0,0))):=by
 have hX:∀k o,qMn g z k o→k<w.heap.size:=by
   rintro k o (rfl | rfl)
   ·exact(z7.1 hg).1
   ·exact(z7.1 S).1
 refine zFv (n:=19) (vs:=[.int .i64 (i:Int),.int .u32 (x:Int),.pointer (some ⟨G,0,none⟩),.pointer (some ⟨z,0,none⟩)]) Tryz.func282 rfl rfl rfl kr (fun a0 Z0=>?_);have Z0:Fr 19 a0 [(0,.int .i64 (i:Int)),(1,.int .u32 (x:Int)),(2,.pointer (some ⟨G,0,none⟩)),(3,.pointer (some ⟨z,0,none⟩))]:=Z0;have G0:St (Two g z) w (qMn g z) w (qMn g z) [(g,.cells J 214 (0,0)),(z,.cells #[.int .u32 (c:Int)] 214 (0,0))]:=St.start2 hX hg S (fun _=> .inl rfl) (fun _=> .inr rfl) hne;have hlen:=j.len;have hlt:=j.getD_lt i;refine bR (N:=15) (kK [(⟨G,0,none⟩,[.slice (some ⟨g,0,none⟩) m cap]),(⟨g,i,none⟩,[.int .u32 ((l.getD i 0:Nat):Int)]),(⟨z,0,none⟩,[.int .u32 (c:Int)])]) [13,14] kr kr kr G0 ?_;intro w1 T C1 N1;refine lT (kK.cons ((hba.mono C1)).cells (kK.cons (T.rowCells 0 rfl j (by have:=j.len;(try simp only[q6]at *);omega)) (kK.cons (T.cells 1 rfl rfl) (kK.nil _)))) (fun q=>?_)
 refine mI (d:=7) (v:= .slice (some ⟨g,0,none⟩) m cap) 0 Z0 rfl kr kr kr (fun w O=>zB (t:=26) (g:=false) (vs:=[.slice (some ⟨g,0,none⟩) m cap]) (ad:=⟨G,0,none⟩) rfl kr kr ir (O.get 0 kr)) q ?_;intro a2 Z2;refine zJ (d:=8) (v:= .int .i64 (i:Int)) 1 Z2 rfl kr kr kw (fun _=>q) fun a3 Z3=>?_;refine mI (d:=9) (v:= .slice (some ⟨g,0,none⟩) m cap) 2 Z3 rfl kr kr kr (fun w O=>zB (t:=26) (g:=false) (vs:=[.slice (some ⟨g,0,none⟩) m cap]) (ad:=⟨G,0,none⟩) rfl kr kr ir (O.get 0 kr)) q ?_;intro a4 Z4;refine zJ (d:=10) (v:= .int .i64 (i:Int)) 3 Z4 rfl kr kr kw (fun _=>q) fun a5 Z5=>zJ (d:=11) (v:= .pointer (some ⟨g,i,none⟩)) 4 Z5 rfl kr kr (fun w=>jD (t:=26) (e:=214) (b:=g) (off:=0) (len:=m) (cap:=cap) (kd:= .i64) (i:=(i:Int)) (g:=false) (m:=1) (off':=i) rfl kr kr kr kr (by omega) (by omega) (by first | rfl | omega | (simp;done) | (simp;omega)) w) (fun _=>q) fun a6 Z6=>?_
 refine mI (d:=12) (v:= .int .u32 ((l.getD i 0:Nat):Int)) 5 Z6 rfl kr kr kr (fun w O=>zB (t:=214) (g:=false) (vs:=[.int .u32 ((l.getD i 0:Nat):Int)]) (ad:=⟨g,i,none⟩) rfl kr kr ir (O.get 1 kr)) q ?_;intro a7 Z7;refine zJ (d:=13) (v:= .int .u32 (x:Int)) 6 Z7 rfl kr kr kw (fun _=>q) fun a8 Z8=>?_;refine mI (d:=14) (v:= .int .u32 (c:Int)) 7 Z8 rfl kr kr kr (fun w O=>zB (t:=214) (g:=false) (vs:=[.int .u32 (c:Int)]) (ad:=⟨z,0,none⟩) rfl kr kr ir (O.get 2 kr)) q ?_;intro a9 Z9;refine tQ [8] kr rfl ?_;refine yM.cons (i:=8) Z9 rfl kr (kI (d:=15) (f:=283) (cap:=#[]) (vs:=#[.int .u32 ((l.getD i 0:Nat):Int),.int .u32 (x:Int),.int .u32 (c:Int)]) Z9 kr T rfl kr kr (fun w=>Tryz.call283 _ w) (jGb _ _ T.lt ((l.getD i 0:Nat):Int) (x:Int) (c:Int) ⟨by omega,by omega⟩ ⟨by omega,by omega⟩ ⟨by omega,by omega⟩) ?_) yM.nil
 rintro v10 w10 V C10 Z rfl a11 Z11;refine tC (q.up Z) (fun C=>?_);refine zJ (d:=6) (v:= .tuple #[.int .u32 ((((l.getD i 0:Nat):Int)+(x:Int)+(c:Int)) % 4294967296),.int .u32 ((((l.getD i 0:Nat):Int)+(x:Int)+(c:Int)) / 4294967296)]) 9 Z11 rfl kr kr kw (fun _=>C) fun a12 Z12=>zJ (d:=16) (v:= .int .u32 ((((l.getD i 0:Nat):Int)+(x:Int)+(c:Int)) % 4294967296)) 10 Z12 rfl kr kr kw (fun _=>C) fun a13 Z13=>zJ (d:=17) (v:= .int .u32 ((((l.getD i 0:Nat):Int)+(x:Int)+(c:Int)) / 4294967296)) 11 Z13 rfl kr kr kw (fun _=>C) fun a14 Z14=>zJ (d:=18) (v:= .pointer (some ⟨g,i,none⟩)) 12 Z14 rfl kr kr (fun w=>jD (t:=26) (e:=214) (b:=g) (off:=0) (len:=m) (cap:=cap) (kd:= .i64) (i:=(i:Int)) (g:=false) (m:=1) (off':=i) rfl kr kr kr kr (by omega) (by omega) (by first | rfl | omega | (simp;done) | (simp;omega)) w) (fun _=>C) fun a15 F=>?_
 refine tQ [13] kr rfl ?_;refine yM.cons (i:=13) F rfl kr (lK (t:=214) (y:=((l.getD i 0+x+c) % 4294967296)) (k:=i) (e:=(((l.getD i 0:Nat):Int)+(x:Int)+(c:Int)) % 4294967296) 0 F kr V rfl rfl rfl (by first | rfl | omega | (simp;omega)) kr rfl j (by have:=j.len;(try simp only[q6]at *);omega) (by first | omega | (simp;omega)) ?_) yM.nil
 intro Q16 w16 U W C16;refine⟨mQ kr,?_⟩;refine tQ [14] kr rfl ?_;refine yM.cons (i:=14) F rfl kr (zF (t:=214) (b:=z) (off:=0) (c':=#[.int .u32 ((((l.getD i 0:Nat):Int)+(x:Int)+(c:Int)) / 4294967296)]) (g:=false) (m:=1) 1 _ F kr W rfl kr rfl kr kr kr rfl (by first | decide | (simp;done)) kr rfl ?_) yM.nil
 intro w17 I C17;refine⟨mQ kr,?_⟩;refine zEg kr (nrm ?_);refine zQj (v:= .tuple #[]) (rs:=[]) F kr Res.nil kr ?_;refine⟨I.upd,_,rfl,rfl,Q16,I.get 0 rfl,?_,?_⟩
 ·
  exact U
 ·
  rw[I.get 1 rfl];congr 4
abbrev HG(g:Nat):Hid:=fun k _=>k=g
theorem qNa(q f:List Nat)(j k c T:Nat)(y:j<f.length)(z:j+k<q.length)(h:val q+c*4294967296^(j+k)=T+4294967296^k*val (f.take j)):
  val (q.set (j+k) ((q.getD (j+k) 0+f.getD j 0+c) % 4294967296))+(q.getD (j+k) 0+f.getD j 0+c) / 4294967296*4294967296^(j+1+k)=T+4294967296^k*val (f.take (j+1)):=by
 have C:=zCq q (j+k) (f.getD j 0) c z;rw[yX f j y,yp,show 4294967296^k*(f.getD j 0*4294967296^j)=f.getD j 0*4294967296^(j+k)by rw[kn];ac_rfl,show j+1+k=j+k+1 by omega]
 omega
theorem qEj(f:List Nat)(p c T:Nat)(j:p<f.length)(h:val f+c*4294967296^p=T):
  val (f.set p ((f.getD p 0+0+c) % 4294967296))+(f.getD p 0+0+c) / 4294967296*4294967296^(p+1)=T:=by
 have q:=zCq f p 0 c j;omega
theorem qTo(w:World)(g m cap:Nat)(J:Array Value)(l:List Nat)(hg:w.heap[g]?=some (.cells J 214 (0,0)))(hrow:qB m cap J l)(hm:m≤1099511627776)
    (I:Option Addr) (W P2:Nat) (q:List Nat) (U:zN (rd w (HG g)) I W P2 q) (k:Nat) (hk:q.length+k≤m) (hsum:val l+4294967296^k*val q<4294967296^m):
    Calls Tryz.prog 266 #[.slice (some ⟨g,0,none⟩) m cap,.slice I W P2,.int .i64 (k:Int)] w (Ret (·=g) w fun w' v=>v= .tuple #[]∧∃T l',w'.heap[g]?=some (.cells T 214 (0,0))∧qB m cap T l'∧val l'=val l+4294967296^k*val q):=by
 obtain rfl:=U.hlen;have hcap2:=U.hcap;have hbig2:=U.hbig;refine zen Tryz.func266 ?_;have hX:∀k o,HG g k o→k<w.heap.size:=by rintro k o rfl;exact(z7.1 hg).1
 have G0:St (·=g) w (HG g) w (HG g) [(g,.cells J 214 (0,0))]:=St.startE g _ hX hg (fun _=>rfl);refine zz 2<|zn pn (.cells #[.slice (some ⟨g,0,none⟩) m cap] 26 (0,0)) G0 fun b3 w3 Y3 G3 C3 N3=>zz 4<|zn pn (.cells #[.int .u32 0] 214 (0,0)) G3 fun S w5 Y5 G5 C5 N5=>zx 0 #[.int .u32 0] G5 fun w6 G6 C6=>zz 17<|zlp Tryz.f266 [] [1,1,1,0,1,0] (fun(j:Nat)=>[(1,.slice I q.length P2),(2,.int .i64 (k:Int)),(6,.pointer (some ⟨S,0,none⟩)),(7,.func (.func 282) #[] #[.pointer (some ⟨b3,0,none⟩),.pointer (some ⟨S,0,none⟩)]),(12,.slice I q.length P2),(13,.int .i64 (q.length:Int)),(14,.int .i64 (j:Int))]) (fun(j:Nat)w1=>∃(Y1:Hid)(G:Array Value)(z:List Nat)(c:Nat),St (·=g) w (HG g) w1 Y1 [(S,.cells #[.int .u32 (c:Int)] 214 (0,0)),(b3,.cells #[.slice (some ⟨g,0,none⟩) m cap] 26 (0,0)),(g,.cells G 214 (0,0))]∧Le (rd w6 Y5) (rd w1 Y1)∧(qB m cap G z)∧(j≤q.length)∧(c≤1)∧(val z+c*4294967296^(j+k)=val l+4294967296^k*val (q.take j))) (fun(j:Nat)=>q.length-j) 0 ?_ ?_
 ·
  refine⟨_,J,l,0,G6,Le.refl _,hrow,qq _,by omega,by simp[val]⟩
 rintro j w7 K7 hK7 ⟨Y7,G,z,c,F,C7,hp7_0,hp7_1,hp7_2,C⟩;have H:=hp7_0;have hlen1:=H.len;refine zz 6<|zt 15 (p:=(j:Int)<(q.length:Int)) (fun F8=>?_) (fun F8=>?_)
 ·
  obtain⟨bk9,Z,rfl,_⟩:=U.addr (by omega)
  refine zz 8<|zi (b:=bk9) (off:=Z) (len:=q.length) (cap:=P2) (kd:= .i64) (i:=(j:Int)) 1 (Z+j) ?_;have J1_:=(Le3 C3 C5 C6).trans C7;refine zl ((U.cell (i:=j) (by omega)).mono J1_).cells<|zz 9<|zw 22 (x:=((j+k:Nat):Int))<|zz 1<|zop (at1 [K7] Tryz.f266 [1,1,1,0,1,0,0,1,1,0,0,1]) 5 (fun a11 _ Z11 hz11=>zMd 2 0 Z11 F rfl rfl (qEh _ g S b3 (j+k) m cap G z (q.getD j 0) c (F.ne (i:=2) (j:=0) rfl rfl (by decide)) (F.ne (i:=1) (j:=2) rfl rfl (by decide)) (F.ne (i:=1) (j:=0) rfl rfl (by decide)) (F.get 2 rfl) H (F.get 0 rfl) (F.atX 1 rfl (fun _ hx=>hx.elim (F.ne (i:=1) (j:=2) rfl rfl (by decide)) (F.ne (i:=1) (j:=0) rfl rfl (by decide)))) (by omega) (by first | exact U.getD_lt _ | omega) (by omega) (by omega)) ?_)
  rintro v12 w12 ⟨rfl,Q12,hg12,D12,hbc12⟩ hSf12 C12 a13 Z13;have G12:=hSf12 _ _ hg12 hbc12;refine hz11 Z13<|zz 5<|zw 25 (x:=(j:Int)+1)<|zz 2 ?_;refine kU (fun a h=>hK7 (j+1) _ a h ⟨_,Q12,(z.set (j+k) ((z.getD (j+k) 0+q.getD j 0+c) % 4294967296)),((z.getD (j+k) 0+q.getD j 0+c) / 4294967296),G12,(Le2 C7 C12),D12,by omega,by have:=U.getD_lt j;have:=H.getD_lt (j+k);omega,qNa _ _ _ _ _ _ (by omega) (by omega) C⟩ ?_)
  first | omega | (simp<;>omega)
 refine zz 12<|zw 29 (x:=((q.length+k:Nat):Int))<|zz 4 ?_;have V:=C;have hj1:=hp7_1;obtain rfl:j=q.length:=by omega
 rw[jt]at V;refine zlp Tryz.f266 [K7] [1,1,1,1,1,0] (fun(j:Nat)=>[(6,.pointer (some ⟨S,0,none⟩)),(7,.func (.func 282) #[] #[.pointer (some ⟨b3,0,none⟩),.pointer (some ⟨S,0,none⟩)]),(10,.int .i64 (j:Int))]) (fun j w1=>∃(Y1:Hid)(G:Array Value)(z:List Nat)(c:Nat),St (·=g) w (HG g) w1 Y1 [(S,.cells #[.int .u32 (c:Int)] 214 (0,0)),(b3,.cells #[.slice (some ⟨g,0,none⟩) m cap] 26 (0,0)),(g,.cells G 214 (0,0))]∧Le (rd w7 Y7) (rd w1 Y1)∧(qB m cap G z)∧(c≤1)∧(val z+c*4294967296^j=val l+4294967296^k*val q)) (fun j=>m-j) (q.length+k) ?_ ?_
 ·
  refine⟨_,G,z,c,F,Le.refl _,H,hp7_2,V⟩
 rintro j w14 K14 hK14 ⟨Y14,G,z,c,f,C14,N,O,y⟩;have H:=N;have hlen1:=H.len;refine zz 3<|zo 0 f<|zz 3<|zb 31 (b:=((c:Int)!=0)) (fun J15=>?_) (fun J15=>?_)
 ·
  have F16:(c:Int)≠0:=by simpa using J15
  have hjm:j<m:=zMf (i:=j) (len:=m) (v:=val l+4294967296^k*val q) (by have h1:=y;obtain rfl:c=1:=(by have:=O;omega);omega) hsum
  refine zz 8<|zop (at1 [K7,K14] Tryz.f266 [1,1,1,1,1,0,0,1,0,0]) 2 (fun a17 _ Z17 hz17=>zMd 2 0 Z17 f rfl rfl (qEh _ g S b3 (j) m cap G z (0) c (f.ne (i:=2) (j:=0) rfl rfl (by decide)) (f.ne (i:=1) (j:=2) rfl rfl (by decide)) (f.ne (i:=1) (j:=0) rfl rfl (by decide)) (f.get 2 rfl) H (f.get 0 rfl) (f.atX 1 rfl (fun _ hx=>hx.elim (f.ne (i:=1) (j:=2) rfl rfl (by decide)) (f.ne (i:=1) (j:=0) rfl rfl (by decide)))) (by omega) (by first | exact U.getD_lt _ | omega) (by omega) (by omega)) ?_)
  rintro v18 w18 ⟨rfl,Q18,hg18,D18,hbc18⟩ hSf18 C18 a19 Z19;have G18:=hSf18 _ _ hg18 hbc18;refine hz17 Z19<|zz 6<|zw 33 (x:=(j:Int)+1)<|zz 2 ?_;refine kU (fun a h=>hK14 (j+1) _ a h ⟨_,Q18,(z.set (j) ((z.getD (j) 0+0+c) % 4294967296)),((z.getD (j) 0+0+c) / 4294967296),G18,(Le2 C14 C18),D18,by have:=H.getD_lt j;omega,qEj _ _ _ _ (by omega) y⟩ ?_)
  first | omega | (simp<;>omega)
 have F20:(c:Int)=0:=by simpa using J15
 obtain rfl:c=0:=by omega
 refine zz 5<|zr' (v:= .tuple #[]) ?_;exact⟨f.upd,_,rfl,rfl,_,_,f.get 2 rfl,H,by have:=y;simpa using this⟩
end Go.Proofs.YtdfmdiakjdggbaaGreatDoor
namespace Go.Proofs.YtdfmdiakjdggbaaGreatDoor
open Go Go.Gv Go.RowKit IntKind
set_option maxRecDepth 100000
set_option maxHeartbeats 1000000
theorem qZi(w:World)(X:Hid)(hX:∀k o,X k o→k<w.heap.size)(x:Nat)(T:x<18446744073709551616):Calls Tryz.prog 174 #[.int .u64 (x:Int)] w (Ret E0 w fun H v=>∃l ad q cap,zJp w H 214 v l ad q cap∧zX l∧val l=x):=by
 refine zen Tryz.func174 ?_;have F:St E0 w X w X []:=St.start hX;refine zz 9<|zs 4 (v:= .int .u32 (IntKind.u32.wrap ((x:Int)))) (v':= .int .u32 ((x % 4294967296:Nat):Int)) (zQ (by rw[yY];omega))<|zz 2<|zs 6 (v:= .int .u64 (Int.fdiv ((x:Int)) (2^32))) (v':= .int .u64 ((x / 4294967296:Nat):Int)) (zQ (by rw[wM _ 32 (c:=4294967296) (by decide) (by decide)];omega))<|zz 1<|zs 7 (v:= .int .u32 (IntKind.u32.wrap (((x / 4294967296:Nat):Int)))) (v':= .int .u32 ((x / 4294967296 % 4294967296:Nat):Int)) (zQ (by rw[yY];omega))<|zn (fun b=> .slice (some ⟨b,0,none⟩) 2 2) (.cells #[.int .u32 ((x % 4294967296:Nat):Int),.int .u32 ((x / 4294967296 % 4294967296:Nat):Int)] 214 (0,0)) F fun C V S z I N=>?_
 have f:qB 2 2 #[.int .u32 ((x % 4294967296:Nat):Int),.int .u32 ((x / 4294967296 % 4294967296:Nat):Int)] [x % 4294967296,x / 4294967296 % 4294967296]:=qB.of [x % 4294967296,x / 4294967296 % 4294967296] (by intro y G;simp at G;omega) (by simp[maxLen]) (by simp[U32]) (by simp)
 refine zc z (zAq _ X0 (qC _) _ _ _ ([x % 4294967296,x / 4294967296 % 4294967296]) (qB.limbs (Y:=X0) f (z.get 0 rfl) (fun _ h=>h.elim))) ?_ (vs:=#[.slice (some ⟨C,0,none⟩) 2 2]);rintro U W j J O rfl;refine zz 4<|zr' (v:= .slice (some ⟨C,0,none⟩) (qW ([x % 4294967296,x / 4294967296 % 4294967296])) 2) ?_;exact⟨j.upd,_,rfl,Go.Gv.trimmed [x % 4294967296,x / 4294967296 % 4294967296],_,_,_,⟨rfl,(jQ _).symm,tT f.lt,.inr ⟨_,_,rfl,j.own_ge 0 rfl,j.get 0 rfl,f.trimmed⟩⟩,qZ _,by rw[jK];simp only[val];omega⟩
theorem pX(w:World)(g m cap:Nat)(S:Array Value)(l:List Nat)(hg:w.heap[g]?=some (.cells S 214 (0,0)))(W:qB m cap S l)(hm:m≤1099511627776)
    (O:Option Addr) (len2 P2:Nat) (q:List Nat) (h2:zN (rd w (HG g)) O len2 P2 q) (hll:q.length≤l.length) (hle:val q≤val l):
    Calls Tryz.prog 226 #[.slice (some ⟨g,0,none⟩) m cap,.slice O len2 P2] w (Ret (·=g) w fun w' v=>∃V l',v= .slice (some ⟨g,0,none⟩) l'.length cap∧w'.heap[g]?=some (.cells V 214 (0,0))∧qB l'.length cap V l'∧zX l'∧val l'=val l-val q):=by
 obtain rfl:=h2.hlen;have hcap2:=h2.hcap;have hbig2:=h2.hbig;refine zen Tryz.func226 ?_;have hX:∀k o,HG g k o→k<w.heap.size:=by rintro k o rfl;exact(z7.1 hg).1
 have G0:St (·=g) w (HG g) w (HG g) [(g,.cells S 214 (0,0))]:=St.startE g _ hX hg (fun _=>rfl);have hlen:=W.len;refine zz 19<|zlp Tryz.f226 [] [1,1,0,1,0] (fun((j,c):Nat×Nat)=>[(0,.slice (some ⟨g,0,none⟩) m cap),(1,.slice O q.length P2),(5,.int .u32 (c:Int)),(9,.slice O q.length P2),(10,.int .i64 (q.length:Int)),(11,.int .i64 (j:Int))]) (fun((j,c):Nat×Nat)w1=>∃(Y1:Hid)(N:Array Value)(f:List Nat),St (·=g) w (HG g) w1 Y1 [(g,.cells N 214 (0,0))]∧Le (rd w (HG g)) (rd w1 Y1)∧(qB m cap N f)∧(j≤q.length)∧(c≤1)∧(val f+val (q.take j)=val l+c*4294967296^j)) (fun((j,c):Nat×Nat)=>q.length-j) (0,0) ?_ ?_
 ·
  refine⟨_,S,l,G0,Le.refl _,W,qq _,by omega,by simp[val]⟩
 rintro⟨j,c⟩ w2 K2 hK2 ⟨Y2,N,f,G2,C2,hp2_0,hp2_1,I,J⟩;have C:=hp2_0;have G:=C.len;have H:=C.getD_lt j;have hlt2:=h2.getD_lt j;have J1:=I;refine zz 6<|zt 12 (p:=(j:Int)<(q.length:Int)) (fun F3=>?_) (fun F3=>?_)
 ·
  obtain⟨bk4,of5,rfl,_⟩:=h2.addr (by omega)
  refine zz 8<|zi (b:=bk4) (off:=of5) (len:=q.length) (cap:=P2) (kd:= .i64) (i:=(j:Int)) 1 (of5+j)<|zl ((h2.cell (i:=j) (by omega)).mono C2).cells<|zz 9<|zi (b:=g) (off:=0) (len:=m) (cap:=cap) (kd:= .i64) (i:=(j:Int)) 1 j<|zl (ad:=⟨g,j,none⟩) (G2.rowCells 0 rfl C (by have:=C.len;(try simp only[q6]at *);omega))<|zz 2<|zc G2 (qVk _ _ G2.lt ((f.getD j 0:Nat):Int) ((q.getD j 0:Nat):Int) (c:Int) ⟨by omega,by omega⟩ ⟨by omega,by omega⟩ ⟨by omega,by omega⟩) ?_
  rintro v7 w7 G7 C7 N7 rfl;refine zz 3<|zi (b:=g) (off:=0) (len:=m) (cap:=cap) (kd:= .i64) (i:=(j:Int)) 1 j<|zop (at1 [K2] Tryz.f226 [1,1,0,1,0,0,1,1,0,0,1]) 13 (fun a8 _ Z8 hz8=>vW (y:=(zCk (f.getD j 0) (q.getD j 0) c)) (k:=j) (e:=((((f.getD j 0:Nat):Int)-((q.getD j 0:Nat):Int)) % 4294967296-(c:Int)) % 4294967296) 0 Z8 G7 (by unfold zCk;omega) rfl C (by have:=C.len;(try simp only[q6]at *);omega) (qAi _ _ _) ?_)
  intro Q9 w9 D9 G9 C9;refine hz8 Z8<|zz 1<|zs 5 (v:= .int .u32 (if((f.getD j 0:Nat):Int)<((q.getD j 0:Nat):Int)+(c:Int)then 1 else 0)) (v':= .int .u32 ((brw (f.getD j 0) (q.getD j 0) c:Nat):Int)) (zQ (by unfold brw;(repeat' split)<;>omega))<|zz 5<|zw 29 (x:=(j:Int)+1)<|zz 2 ?_
  refine kU (fun a h=>hK2 ((j+1,brw (f.getD j 0) (q.getD j 0) c)) _ a h ⟨_,Q9,(f.set j (zCk (f.getD j 0) (q.getD j 0) c)),G9,(Le3 C2 C7 C9),D9,by omega,qEz _ _ _,qSe _ _ _ _ _ (by omega) (by omega) H hlt2 J1 J⟩ ?_)
  first | omega | (simp<;>omega)
 refine zz 15 ?_;have Z:=J;have hj1:=hp2_1;obtain rfl:j=q.length:=by omega
 rw[jt]at Z;refine zlp Tryz.f226 [K2] [1,1,1,0,1,0] (fun((j,c):Nat×Nat)=>[(0,.slice (some ⟨g,0,none⟩) m cap),(5,.int .u32 (c:Int)),(8,.int .i64 (j:Int))]) (fun(j,c)w1=>∃(Y1:Hid)(N:Array Value)(f:List Nat),St (·=g) w (HG g) w1 Y1 [(g,.cells N 214 (0,0))]∧Le (rd w2 Y2) (rd w1 Y1)∧(qB m cap N f)∧(c≤1)∧(val f+val q=val l+c*4294967296^j)) (fun(j,c)=>m-j) (q.length,c) ?_ ?_
 ·
  refine⟨_,N,f,G2,Le.refl _,C,I,Z⟩
 rintro⟨j,c⟩ w10 K10 hK10 ⟨Y10,N,f,F,C10,T,U,z⟩;have C:=T;have G:=C.len;have H:=C.getD_lt j;have J1:=U;refine zz 7<|zb 33 (b:=((c:Int)!=0)) (fun J11=>?_) (fun J11=>?_)
 ·
  have F12:(c:Int)≠0:=by simpa using J11
  have hjm:j<m:=(by have h3:=kR C.lt;rw[G]at h3;refine zMf (i:=j) (len:=m) (v:=val f) ?_ h3;have h1:=z;obtain rfl:c=1:=(by omega);omega)
  refine zz 10<|zi (b:=g) (off:=0) (len:=m) (cap:=cap) (kd:= .i64) (i:=(j:Int)) 1 j<|zl (ad:=⟨g,j,none⟩) (F.rowCells 0 rfl C (by have:=C.len;(try simp only[q6]at *);omega))<|zz 1<|zc F (qVk _ _ F.lt ((f.getD j 0:Nat):Int) 0 (c:Int) ⟨by omega,by omega⟩ ⟨by omega,by omega⟩ ⟨by omega,by omega⟩) ?_
  rintro v14 w14 G14 C14 N14 rfl;refine zz 3<|zi (b:=g) (off:=0) (len:=m) (cap:=cap) (kd:= .i64) (i:=(j:Int)) 1 j<|zop (at1 [K2,K10] Tryz.f226 [1,1,1,0,1,0,0,1,0,0]) 12 (fun a15 _ Z15 hz15=>vW (y:=(zCk (f.getD j 0) 0 c)) (k:=j) (e:=((((f.getD j 0:Nat):Int)-(0:Int)) % 4294967296-(c:Int)) % 4294967296) 0 Z15 G14 (by unfold zCk;omega) rfl C (by have:=C.len;(try simp only[q6]at *);omega) (qAi _ _ _) ?_)
  intro Q16 w16 D16 G16 C16;refine hz15 Z15<|zz 1<|zs 5 (v:= .int .u32 (if((f.getD j 0:Nat):Int)<(0:Int)+(c:Int)then 1 else 0)) (v':= .int .u32 ((brw (f.getD j 0) 0 c:Nat):Int)) (zQ (by unfold brw;(repeat' split)<;>omega))<|zz 6<|zw 35 (x:=(j:Int)+1)<|zz 2 ?_
  refine kU (fun a h=>hK10 ((j+1,brw (f.getD j 0) 0 c)) _ a h ⟨_,Q16,(f.set j (zCk (f.getD j 0) 0 c)),G16,(Le3 C10 C14 C16),D16,qEz _ _ _,qLk _ _ _ _ _ (by omega) H J1 z⟩ ?_)
  first | omega | (simp<;>omega)
 have F17:(c:Int)=0:=by simpa using J11
 have J0:c=0:=by omega
 refine zz 9<|zc F (zAq _ X0 (qC _) _ _ _ f (qB.limbs (Y:=X0) C (F.get 0 rfl) (fun _ h=>h.elim))) ?_ (vs:=#[.slice (some ⟨g,0,none⟩) m cap]);rintro v19 w19 G19 C19 N19 rfl;refine zz 4<|zr' (v:= .slice (some ⟨g,0,none⟩) (qW f) cap) ?_;exact⟨G19.upd,_,rfl,N,Go.Gv.trimmed f,by rw[jQ],G19.get 0 rfl,by rw[jQ];exact C.trimmed,qZ _,by rw[jK];have h9:=z;rw[J0]at h9;omega⟩
set_option maxHeartbeats 1000000
theorem zEp(l G:Nat)(ad:Option Addr)(len cap:Nat)(I:List Nat)(hlen:len=I.length)(hbig:len≤1099511627776)(J:Nat→World→Prop)(R:World→Prop)
    (z:∀k w,J k w→At (rd w X0) ⟨G,0,none⟩ [.slice ad len cap])
    (hel:∀k w,J (k+1) w→k<len→∃b off,ad=some ⟨b,off,none⟩∧At (rd w X0) ⟨b,off+k,none⟩ [.int .u32 ((I.getD k 0:Nat):Int)])
    (hY:∀k w,k<len→J (k+1) w→YieldAt (FF none) 0 Tryz.prog l #[.int .i64 (k:Int),.int .u32 ((I.getD k 0:Nat):Int)] w (vE (J k) R))
    (h0:∀w,J 0 w→R w) (w:World) (hJ:J len w):Calls Tryz.prog 280 #[.func (.yield l) #[] #[],.pointer (some ⟨G,0,none⟩)] w (fun e w'=>(∃v,e= .returned v)∧R w'):=by
 refine zFv (n:=19) (vs:=[.func (.yield l) #[] #[],.pointer (some ⟨G,0,none⟩)]) Tryz.func280 rfl rfl rfl kr (fun a0 Z0=>?_);have Z0:Fr 19 a0 [(0,.func (.yield l) #[] #[]),(1,.pointer (some ⟨G,0,none⟩))]:=Z0;have G0:St E0 w X0 w X0 []:=St.start (qC _);refine zG (fun K1 hK1=>?_);refine zC ?_;refine qY Z0 kr (zE (d:=4) (v:= .slice ad len cap) Z0 kr (zB (t:=26) (g:=false) (vs:=[.slice ad len cap]) (ad:=⟨G,0,none⟩) rfl kr kr ir ((z _ _ hJ)).cells) ?_);intro a2 Z2;refine zD 2 [(6,.int .i64 (i64.wrap ((len:Int)-1))),(5,.int .i64 (len:Int))] Z2 kr kr (fun a3 Z3=>?_);have Z4:=Z3.set 6 (v':= .int .i64 ((len:Int)-1)) kr rfl (zQ (zAs (by omega) (by omega)))
 refine zD 1 [(3,.int .i64 ((len:Int)-1))] Z4 kr kr (fun a5 Z5=>?_);refine zH<|zA (hK1 _ _ ?_);refine kH ?_;refine lZ (fun(k:Nat)a w1=>Fr 19 a [(0,.func (.yield l) #[] #[]),(1,.pointer (some ⟨G,0,none⟩)),(3,.int .i64 ((k:Int)-1))]∧J k w1∧k≤len) (fun k=>k) len ?_ ?_
 ·
  exact⟨Z5.as [0,1,3] kr kr,hJ,z6 _⟩
 rintro k a6 w6 ⟨Z6,C,hk⟩;have G6:St E0 w6 X0 w6 X0 []:=St.start (qC _);refine zG (fun K7 hK7=>?_);refine zG (fun K8 hK8=>?_);refine zC<|zD 2 [(8,.bool (decide (((k:Int)-1)≥0))),(7,.int .i64 ((k:Int)-1))] Z6 kr kr (fun a9 Z9=>?_);refine zH<|zA (hK8 _ _ ?_);refine nX (decide (((k:Int)-1)≥0)) Z9 kr kr (fun q=>?_) (fun q=>?_)
 ·
  have Z11:=Z9.set 8 (v':= .bool true) kr rfl (zK q);have F12:((k:Int)-1)≥0:=qu q;obtain⟨j,rfl⟩:∃j,k=j+1:=⟨k-1,by omega⟩
  have Z13:=Z11.set 3 (v:= .int .i64 (((j+1:Nat):Int)-1)) (v':= .int .i64 (j:Int)) kr kr (zQ (by omega))
  obtain⟨b,off,rfl,Z⟩:=hel j _ C (by omega)
  refine tF<|zA (hK7 _ _ ?_);refine zG (fun K14 U=>?_);refine kH<|zG (fun K15 V=>?_);refine zC<|zD 2 [(12,.int .i64 (j:Int)),(11,.func (.yield l) #[] #[])] Z13 kr kr (fun a16 N=>?_);refine qY N kr (zE (d:=13) (v:= .slice (some ⟨b,off,none⟩) len cap) N kr (zB (t:=26) (g:=false) (vs:=[.slice (some ⟨b,off,none⟩) len cap]) (ad:=⟨G,0,none⟩) rfl kr kr ir ((z _ _ C)).cells) ?_);intro a17 Z17;refine zD 1 [(14,.int .i64 (j:Int))] Z17 kr kr (fun a18 O=>?_);refine qY O kr (zE (d:=15) (v:= .pointer (some ⟨b,off+j,none⟩)) O kr (jD (t:=26) (e:=214) (b:=b) (off:=off) (len:=len) (cap:=cap) (kd:= .i64) (i:=(j:Int)) (g:=false) (m:=1) (off':=off+j) rfl kr kr kr kr (by omega) (by omega) (by first | rfl | omega | (simp;done) | (simp;omega)) _) ?_)
  intro a19 S;refine qY S kr (zE (d:=16) (v:= .int .u32 ((I.getD j 0:Nat):Int)) S kr (zB (t:=214) (g:=false) (vs:=[.int .u32 ((I.getD j 0:Nat):Int)]) (ad:=⟨b,off+j,none⟩) rfl kr kr ir (Z).cells) ?_);intro a20 Z20;refine zMp (d:=17) (l:=l) (vs:=#[.int .i64 (j:Int),.int .u32 ((I.getD j 0:Nat):Int)]) Z20 kr rfl kr kr (hY j _ (by omega) C) (fun _ _ h=>h.ret) ?_
  rintro v21 w21 ⟨f,hv21,T,W⟩ a22 Z22;cases hv21;have G21:St E0 w21 X0 w21 X0 []:=St.start (qC _);refine zD 1 [(18,.bool (!f))] Z22 kr kr (fun a23 F=>?_);refine zH<|zA (V _ _ ?_);refine nX (!f) F kr kr (fun y=>?_) (fun y=>?_)
  ·
   have Z25:=F.set 18 (v':= .bool true) kr rfl (zK y);have F26:f=false:=by simpa using y
   have H:=F26;refine mY ?_;refine bF ?_;refine lS ?_;refine lS ?_;refine bF<|zXm (v:= .tuple #[]) (rs:=[]) Z25 kr Res.nil kr ?_;exact⟨⟨_,rfl⟩,(W H)⟩
  have Z27:=F.set 18 (v':= .bool false) kr rfl (zK y);have F28:f=true:=by simpa using y
  have H:=F28;refine tF ?_;refine yU<|zA (U _ _ ?_);refine zC<|zD 2 [(10,.int .i64 (i64.wrap ((j:Int)-1))),(9,.int .i64 (j:Int))] Z27 kr kr (fun a29 Z29=>?_);have Z30:=Z29.set 10 (v':= .int .i64 ((j:Int)-1)) kr rfl (zQ (zAs (by omega) (by omega)))
  refine zD 1 [(3,.int .i64 ((j:Int)-1))] Z30 kr kr (fun a31 Z31=>?_);refine zH<|zA ?_;exact⟨j,⟨Z31.as [0,1,3] kr kr,T H,by omega⟩,by show j<j+1;omega⟩
 have Z32:=Z9.set 8 (v':= .bool false) kr rfl (zK q);have F33:¬(((k:Int)-1)≥0):=kh q;have hk0:k=0:=by omega
 refine zAc ?_;refine rU ?_;refine rU ?_;refine mU<|zQj (v:= .tuple #[]) (rs:=[]) Z32 kr Res.nil kr ?_;exact⟨⟨_,rfl⟩,(h0 _ (hk0▸C))⟩
set_option maxHeartbeats 1000000
theorem zGm(w:World)(X:Hid)(hX:∀k o,X k o→k<w.heap.size)(ad:Option Addr)(f cap:Nat):Calls Tryz.prog 263 #[.slice ad f cap] w (Ret E0 w fun C v=>∃q,v= .func (.func 280) #[] #[.pointer (some ⟨q,0,none⟩)]∧w.heap.size≤q∧C.heap[q]?=some (.cells #[.slice ad f cap] 26 (0,0))):=by
 refine zen Tryz.func263 ?_;have y:St E0 w X w X []:=St.start hX;refine zz 2<|zn pn (.cells #[.slice ad f cap] 26 (0,0)) y fun z I H j F G=>zz 10<|zr' (v:= .func (.func 280) #[] #[.pointer (some ⟨z,0,none⟩)]) ?_;exact⟨j.upd,_,rfl,_,rfl,j.own_ge 0 rfl,j.get 0 rfl⟩
theorem fZ{x y:Nat}(h:qO (x:Int) (y:Int)=0):x=y:=by unfold qO at h;(repeat' split at h)<;>omega
theorem nL{x y:Nat}(h:x<y):qO (x:Int) (y:Int)= -1:=by unfold qO;rw[qj (by omega)]
theorem nK{x y:Nat}(h:y<x):qO (x:Int) (y:Int)=1:=by unfold qO;rw[ql (by omega),qj (by omega)]
theorem zCy(x:Int):qO x x=0:=by unfold qO;rw[ql (by omega),ql (by omega)]
theorem qCh{l f:List Nat}(y:∀x∈l,x<4294967296)(z:∀x∈f,x<4294967296)(j:zX l)(q:zX f)(h:qO (l.length:Int) (f.length:Int)≠0):qO (l.length:Int) (f.length:Int)=qO (val l) (val f):=by
 rcases vd l.length f.length with e | e | e
 ·rw[nL e,nL (zFa y q e)]
 ·rw[e,zCy]at h;exact absurd rfl h
 ·rw[nK e,nK (zFa z j e)]
theorem qCi{l q:List Nat}(y:∀x∈l,x<4294967296)(z:∀x∈q,x<4294967296)(f:l.length=q.length)(k:Nat)(C:k<l.length)(heq:∀j,k+1≤j→j<l.length→l.getD j 0=q.getD j 0)
  (h:qO ((l.getD k 0:Nat):Int) ((q.getD k 0:Nat):Int)≠0):qO ((l.getD k 0:Nat):Int) ((q.getD k 0:Nat):Int)=qO (val l) (val q):=by
 rcases vd (l.getD k 0) (q.getD k 0)with e | e | e
 ·rw[nL e,nL (qAo y f k C heq e)]
 ·rw[e,zCy]at h;exact absurd rfl h
 ·rw[nK e,nK (qAo z f.symm k (by omega) (fun j y z=>(heq j y (by omega)).symm) e)]
theorem qJv{l q:List Nat}(f:l.length=q.length)(heq:∀j,0≤j→j<l.length→l.getD j 0=q.getD j 0):(0:Int)=qO (val l) (val q):=by rw[jFj f heq,zCy]
theorem zCb(w:World)(X:Hid)(hX:∀k o,X k o→k<w.heap.size)(ad:Option Addr)(len cap:Nat)(l:List Nat)(h:zN (rd w X) ad len cap l)(C:Option Addr)(len2 S:Nat)(y:List Nat)(h2:zN (rd w X) C len2 S y)(c1:zX l)(c2:zX y)(hm:len≤1099511627776):Calls Tryz.prog 225 #[.slice ad len cap,.slice C len2 S] w (Ret E0 w fun _ v=>v= .int .i64 (qO (val l) (val y))):=by
 obtain rfl:=h.hlen;obtain rfl:=h2.hlen;have hcap:=h.hcap;have hbig:=h.hbig;have hcap2:=h2.hcap;have hbig2:=h2.hbig;refine zOe (n:=30) (vs:=[.slice ad l.length cap,.slice C y.length S]) Tryz.func225 rfl rfl rfl kr (fun a0 Z0=>?_);have Z0:Fr 30 a0 [(0,.slice ad l.length cap),(1,.slice C y.length S)]:=Z0;have G0:St E0 w X w X []:=St.start hX;refine zG (fun K1 hK1=>?_);refine zC ?_;refine qY Z0 kr (gJ (d:=3) (fun b=> .pointer (some ⟨b,0,none⟩)) (.cells #[.slice C y.length S] 26 (0,0)) Z0 kr G0 kw ?_);intro b2 w2 Y2 G2 C2 N2 a3 Z3;refine qY Z3 kr (gJ (d:=4) (fun b=> .pointer (some ⟨b,0,none⟩)) (.cells #[.int .i64 0] 3 (0,0)) Z3 kr G2 kw ?_);intro b4 w4 Y4 G4 C4 N4 a5 Z5;refine zH<|zA (hK1 _ _ ?_);refine zG (fun K6 hK6=>?_);refine zG (fun K7 hK7=>?_);refine zC<|zD 2 [(10,.int .i64 (l.length:Int)),(9,.slice ad l.length cap)] Z5 kr kr (fun a8 Z8=>?_);refine qY Z8 kr (zE (d:=11) (v:= .slice C y.length S) Z8 kr (zB (t:=26) (g:=false) (vs:=[.slice C y.length S]) (ad:=⟨b2,0,none⟩) rfl kr kr ir (G4.cells 1 rfl rfl)) ?_);intro a9 Z9;refine zD 1 [(12,.int .i64 (y.length:Int))] Z9 kr kr (fun a10 Z10=>?_);refine qY Z10 kr (kI (d:=13) (f:=171) (cap:=#[]) (vs:=#[.int .i64 (l.length:Int),.int .i64 (y.length:Int)]) Z10 kr G4 rfl kr kr (fun w=>Tryz.call171 _ w) (zQr _ _ G4.lt (l.length:Int) (y.length:Int)) ?_);rintro v11 w11 J C11 N11 rfl a12 Z12;refine zD 1 [(5,.int .i64 (qO (l.length:Int) (y.length:Int)))] Z12 kr kr (fun a13 Z13=>?_);refine zH<|zA (hK7 _ _ ?_);refine zG (fun K14 hK14=>?_);refine zC<|zD 2 [(15,.bool ((qO (l.length:Int) (y.length:Int))!=0)),(14,.int .i64 (qO (l.length:Int) (y.length:Int)))] Z13 kr kr (fun a15 Z15=>?_);refine zH<|zA (hK14 _ _ ?_);refine nX ((qO (l.length:Int) (y.length:Int))!=0) Z15 kr kr (fun N=>?_) (fun N=>?_);have Z17:=Z15.set 15 (v':= .bool true) kr rfl (zK N);have F18:(qO (l.length:Int) (y.length:Int))≠0:=by simpa using N
 refine zG (fun K19 hK19=>?_);refine zC<|zD 1 [(16,.int .i64 (qO (l.length:Int) (y.length:Int)))] Z17 kr kr (fun a20 Z20=>?_);refine qY Z20 kr (zF (t:=3) (b:=b4) (off:=0) (c':=#[.int .i64 (qO (l.length:Int) (y.length:Int))]) (g:=false) (m:=1) 0 _ Z20 kr J rfl kr rfl kr kr kr rfl (by first | decide | (simp;done)) kr rfl ?_)
 intro w21 G21 C21;refine zH<|zA (hK19 _ _ ?_);refine mY ?_;refine lS ?_;refine jBu (v:= .int .i64 (qO (l.length:Int) (y.length:Int))) (rs:=[.cell 4 3]) Z20 kr (Res.cell (ad:=⟨b4,0,none⟩) (cs:=[.int .i64 (qO (l.length:Int) (y.length:Int))]) (g:=false) kr kr kr ir (G21.cells 0 rfl rfl) Res.nil) kr ?_;exact⟨G21.upd,_,rfl,zQ (qCh h.hlt h2.hlt c1 c2 F18)⟩;have Z22:=Z15.set 15 (v':= .bool false) kr rfl (zK N);have F23:(qO (l.length:Int) (y.length:Int))=0:=by simpa using N
 have U:=fZ F23;refine tF<|zA (hK6 _ _ ?_);refine zG (fun K24 hK24=>?_);refine zG (fun K25 hK25=>?_);refine zC<|zD 1 [(17,.slice ad l.length cap)] Z22 kr kr (fun a26 Z26=>?_);refine qY Z26 kr (kI (d:=18) (f:=263) (cap:=#[]) (vs:=#[.slice ad l.length cap]) Z26 kr J rfl kr kr (fun w=>Tryz.call263 _ w) (zGm _ _ J.lt ad l.length cap) ?_);rintro v27 w27 G27 C27 N27 ⟨T,rfl,G,W⟩ a28 Z28;have G29:=St.adopt G27 (fun o h=>ku.2 G (J.lt _ _ h)) (qx J.upd.size G) W;have C29:=Le.adopt C27 G;refine zH<|zA (hK25 _ _ ?_);refine kH<|zHh (f:=280) (caps:=#[.pointer (some ⟨T,0,none⟩)]) Z28 G29 kr kr (fun args w=>Tryz.call280 args w) fun rec30 l30 b30 w30 Y30 I G30 C30 N30=>?_;have V:=zDf b30 Z28;refine zEp l30 T ad l.length cap l rfl (by omega) (fun k w'=>∃(Y':Hid),St E0 w X w' Y' [(l30,.loop rec30),(b30,.deferred (some [])),(T,.cells #[.slice ad l.length cap] 26 (0,0)),(b4,.cells #[.int .i64 0] 3 (0,0)),(b2,.cells #[.slice C y.length S] 26 (0,0))]∧Le (rd w30 Y30) (rd w' Y')∧(∀j,k≤j→j<l.length→l.getD j 0=y.getD j 0)) _ ?_ ?_ ?_ ?_ _ ?_
 rintro k w32 ⟨Y32,G32,C32,hp32_0⟩;exact G32.at0 2 rfl rfl;rintro k w33 ⟨Y33,G33,C33,hp33_0⟩;intro hk;obtain⟨b,off,rfl,_⟩:=h.addr (by omega)
 exact⟨b,off,rfl,((h.cell (i:=k) (by omega)).mono (Le6 C2 C4 C11 C29 C30 C33)).mono Le.x0⟩
 intro k w34 hk;rintro⟨Y34,G34,C34,H⟩;refine zJm (p:=19) (q:=20) I Z28 G34 kr kr (fun a35 Z35=>?_);obtain⟨F,z,rfl,_⟩:=h2.addr (by omega)
 refine zG (fun K38 hK38=>?_);refine zC<|zD 1 [(6,.int .i64 (k:Int))] Z35 kr kr (fun a39 Z39=>?_);refine zH<|zA (hK38 _ _ ?_);refine zC<|zD 1 [(7,.int .u32 ((l.getD k 0:Nat):Int))] Z39 kr kr (fun a40 Z40=>?_);refine zH<|zA<|zCv I G34 (fun w41 G41 C41=>?_);refine kH<|zG (fun K42 hK42=>?_);refine zC<|zD 1 [(21,.int .u32 ((l.getD k 0:Nat):Int))] Z40 kr kr (fun a43 Z43=>?_);refine qY Z43 kr (zE (d:=22) (v:= .slice (some ⟨F,z,none⟩) y.length S) Z43 kr (zB (t:=26) (g:=false) (vs:=[.slice (some ⟨F,z,none⟩) y.length S]) (ad:=⟨b2,0,none⟩) rfl kr kr ir (G41.cells 4 rfl rfl)) ?_);intro a44 Z44;refine zD 1 [(23,.int .i64 (k:Int))] Z44 kr kr (fun a45 Z45=>?_);refine qY Z45 kr (zE (d:=24) (v:= .pointer (some ⟨F,z+k,none⟩)) Z45 kr (jD (t:=26) (e:=214) (b:=F) (off:=z) (len:=y.length) (cap:=S) (kd:= .i64) (i:=(k:Int)) (g:=false) (m:=1) (off':=z+k) rfl kr kr kr kr (by omega) (by omega) (by first | rfl | omega | (simp;done) | (simp;omega)) _) ?_)
 intro a46 Z46;refine qY Z46 kr (zE (d:=25) (v:= .int .u32 ((y.getD k 0:Nat):Int)) Z46 kr (zB (t:=214) (g:=false) (vs:=[.int .u32 ((y.getD k 0:Nat):Int)]) (ad:=⟨F,z+k,none⟩) rfl kr kr ir ((h2.cell (i:=k) (by omega)).mono (Le7 C2 C4 C11 C29 C30 C34 C41)).cells) ?_)
 intro a47 Z47;refine qY Z47 kr (kI (d:=26) (f:=264) (cap:=#[]) (vs:=#[.int .u32 ((l.getD k 0:Nat):Int),.int .u32 ((y.getD k 0:Nat):Int)]) Z47 kr G41 rfl kr kr (fun w=>Tryz.call264 _ w) (zGs _ _ G41.lt ((l.getD k 0:Nat):Int) ((y.getD k 0:Nat):Int)) ?_);rintro v48 w48 G48 C48 N48 rfl a49 Z49;refine zD 1 [(8,.int .i64 (qO ((l.getD k 0:Nat):Int) ((y.getD k 0:Nat):Int)))] Z49 kr kr (fun a50 Z50=>?_);refine zH<|zA (hK42 _ _ ?_);refine zG (fun K51 hK51=>?_);refine zC<|zD 2 [(28,.bool ((qO ((l.getD k 0:Nat):Int) ((y.getD k 0:Nat):Int))!=0)),(27,.int .i64 (qO ((l.getD k 0:Nat):Int) ((y.getD k 0:Nat):Int)))] Z50 kr kr (fun a52 Z52=>?_);refine zH<|zA (hK51 _ _ ?_);refine nX ((qO ((l.getD k 0:Nat):Int) ((y.getD k 0:Nat):Int))!=0) Z52 kr kr (fun O=>?_) (fun O=>?_);have Z54:=Z52.set 28 (v':= .bool true) kr rfl (zK O);have F55:(qO ((l.getD k 0:Nat):Int) ((y.getD k 0:Nat):Int))≠0:=by simpa using O
 refine zG (fun K56 hK56=>?_);refine zC<|zD 1 [(29,.int .i64 (qO ((l.getD k 0:Nat):Int) ((y.getD k 0:Nat):Int)))] Z54 kr kr (fun a57 Z57=>?_);refine qY Z57 kr (zF (t:=3) (b:=b4) (off:=0) (c':=#[.int .i64 (qO ((l.getD k 0:Nat):Int) ((y.getD k 0:Nat):Int))]) (g:=false) (m:=1) 3 _ Z57 kr G48 rfl kr rfl kr kr kr rfl (by first | decide | (simp;done)) kr rfl ?_)
 intro w58 G58 C58;refine zH<|zA (hK56 _ _ ?_);refine mY ?_;refine bF ?_;refine jFp G58 (fun w59 G59 C59=>vE.stop (wI.ret G59 (fun w60 G60 C60=>?_)));refine bF ?_;refine lS<|zOf (v:= .int .i64 (qO ((l.getD k 0:Nat):Int) ((y.getD k 0:Nat):Int))) (rs:=[.cell 4 3]) (vs:=[.int .i64 (qO ((l.getD k 0:Nat):Int) ((y.getD k 0:Nat):Int))]) 1 V G60 rfl kr kr (fun w61 G61 C61=>?_);refine⟨(Res.cell (ad:=⟨b4,0,none⟩) (cs:=[.int .i64 (qO ((l.getD k 0:Nat):Int) ((y.getD k 0:Nat):Int))]) (g:=false) kr kr kr ir (G61.cells 3 rfl rfl) Res.nil),?_⟩;exact⟨G61.upd,_,rfl,zQ (qCi h.hlt h2.hlt U k (by omega) H F55)⟩
 have Z62:=Z52.set 28 (v':= .bool false) kr rfl (zK O);have F63:(qO ((l.getD k 0:Nat):Int) ((y.getD k 0:Nat):Int))=0:=by simpa using O
 refine tF ?_;refine yU ?_;refine fA I G48 (fun w64 G64 C64=>vE.next ?_);exact⟨_,G64,(Le4 C34 C41 C48 C64),fun j hj hl=>(by rcases xo hj with rfl | h9;exact fZ F63;exact H j h9 hl)⟩
 rintro w65 ⟨Y65,G65,C65,Z⟩;refine wI.norm I G65 (fun w66 G66 C66=>?_);refine yU<|zA (hK24 _ _ ?_);refine zG (fun K67 hK67=>?_);refine zC ?_;refine qY V kr (zF (t:=3) (b:=b4) (off:=0) (c':=#[.int .i64 0]) (g:=false) (m:=1) 3 _ V kr G66 rfl kr rfl kr kr kr rfl (by first | decide | (simp;done)) kr rfl ?_)
 intro w68 G68 C68;refine zH<|zA (hK67 _ _ ?_);refine mY<|zOf (v:= .int .i64 0) (rs:=[.cell 4 3]) (vs:=[.int .i64 0]) 1 V G68 rfl kr kr (fun w69 G69 C69=>?_);refine⟨(Res.cell (ad:=⟨b4,0,none⟩) (cs:=[.int .i64 0]) (g:=false) kr kr kr ir (G69.cells 3 rfl rfl) Res.nil),?_⟩;exact⟨G69.upd,_,rfl,zQ (qJv U Z)⟩;exact⟨_,G30,Le.refl _,fun j hj hl=>absurd hl (ku.2 hj)⟩
set_option maxHeartbeats 1000000
theorem zBa{l j:List Nat}(h:vK l j=0):(l.length≤512∧zX l)∧(j.length≤512∧zX j):=by
 have f:jF l=0∧jF j=0:=by
  unfold vK at h;simp only[orL]at h;split at h
  ·rename_i f;split at h
   ·rename_i q;exact⟨f,q⟩
   ·contradiction
  ·contradiction
 exact⟨nJ f.1,nJ f.2⟩
theorem qGo(ad:Option Addr)(cap:Nat)(l:List Nat):∃f j q,(if 512<qW l then Value.tuple #[.slice none 0 0,.int .i64 4]else .tuple #[.slice ad (qW l) cap,.int .i64 0])= .tuple #[.slice f j q,.int .i64 (qOg l)]:=by
 unfold qOg;split<;>exact⟨_,_,_,rfl⟩
theorem jFq(w:World)(X:Hid)(hX:∀k o,X k o→k<w.heap.size)(ad:Option Addr)(W cap:Nat)(l:List Nat)(h:zN (rd w X) ad W cap l)(O:Option Addr)(C P2:Nat)(l2:List Nat)(I:zN (rd w X) O C P2 l2):Calls Tryz.prog 231 #[.slice ad W cap,.slice O C P2] w (Ret E0 w fun w' v=>zFe 214 w w' (or2 (vK l l2) (qBq (val l+val l2))) (val l+val l2) v):=by
 obtain rfl:=h.hlen;obtain rfl:=I.hlen;have hcap:=h.hcap;have hbig:=h.hbig;have hcap2:=I.hcap;have hbig2:=I.hbig;refine zen Tryz.func231 ?_;have G0:St E0 w X w X []:=St.start hX;refine zz 11<|zc G0 (zAx _ X0 (qC _) _ _ _ l (h.mono Le.x0) _ _ _ l2 (I.mono Le.x0)) ?_;rintro v3 w3 G3 C3 N3 rfl;refine zz 9<|zb 12 (b:=((vK l l2)!=0)) (fun J4=>?_) (fun J4=>?_);have F5:(vK l l2)≠0:=by simpa using J4
 refine zz 10<|zr' (v:= .tuple #[.slice none 0 0,.int .i64 (vK l l2)]) ?_;exact⟨G3.upd,_,rfl,by rw[zCa F5];exact .inl ⟨F5,rfl⟩⟩
 have F6:(vK l l2)=0:=by simpa using J4
 obtain⟨⟨hl1,c1⟩,hl2,c2⟩:=zBa F6;refine zz 10<|zs 18 (v:= .int .i64 (if(l2.length:Int)>(l.length:Int)then(l2.length:Int)else(l.length:Int))) (v':= .int .i64 ((max l.length l2.length:Nat):Int)) (zQ (by split<;>omega))<|zz 1<|zw 19 (x:=((max l.length l2.length+1:Nat):Int))<|zop (at1 [] Tryz.f231 [1,1,0]) 6 (fun a7 _ Z7 hz7=>zBz (l:=((max l.length l2.length+1:Nat):Int)) (e:=214) (z:= .int .u32 0) (i0:=Tryz.t214) (max l.length l2.length+1) 4 Z7 G3 ?_)
 intro b8 w8 Y8 G8 C8 N8 a9 Z9;have D8:=qB.zeros (max l.length l2.length+1) (by simp only[maxLen];omega)
 refine hz7 Z9<|zz 7<|zop (at1 [] Tryz.f231 [1,1,1,0]) 2 (fun a10 _ Z10 V=>qCe (l2:=l) 0 Z10 G8 rfl D8 (h.mono (Le2 C3 C8)) (by omega) ?_)
 intro Q11 w11 D11 F C11 a12 Z12;refine V Z12<|zz 6<|zcE 0 F rfl (qTo _ b8 (max l.length l2.length+1) (max l.length l2.length+1) _ (l++List.drop l.length (List.replicate (max l.length l2.length+1) 0)) (F.get 0 rfl) D11 (by omega) _ _ _ l2 ((I.mono (Le3 C3 C8 C11)).mono (F.leHG 0 rfl)) 0 (by omega) (by rw[aV];exact qEi h.hlt I.hlt)) ?_
 rintro v14 w14 ob14 ⟨rfl,Q14,j,U,J,y⟩ H N C14;obtain rfl:=qy (H.symm.trans U);refine zz 5<|zc N (qUb _ X0 (qC _) _ _ _ j (qB.limbs (Y:=X0) J (N.get 0 rfl) (fun _ h=>h.elim))) ?_ (vs:=#[.slice (some ⟨b8,0,none⟩) (max l.length l2.length+1) (max l.length l2.length+1)]);rintro v16 w16 G C16 N16 q;obtain⟨S,Z,T,f⟩:=qGo (some ⟨b8,0,none⟩) (max l.length l2.length+1) j;cases(q.trans f);refine zz 7<|zr' (v:= .tuple #[.slice S Z T,.int .i64 (qOg j)]) ?_;exact⟨G.upd,_,rfl,by rw[vX F6];exact zFe.fit J (G.get 0 rfl) (G.own_ge 0 rfl) (by have h9:=y;rw[aV]at h9;omega) f.symm⟩
set_option maxHeartbeats 1000000
theorem zPj(w:World)(X:Hid)(hX:∀k o,X k o→k<w.heap.size)(j:Option Addr)(f z:Nat)(q:f=0)(G:z≤9223372036854775807):Calls Tryz.prog 226 #[.slice none 0 0,.slice j f z] w (Ret E0 w fun _ v=>v= .slice none 0 0):=by
 subst q;refine zen Tryz.func226 ?_;have y:St E0 w X w X []:=St.start hX;refine zz 19<|zWw<|zz 21<|zWw<|zz 16<|zc y (zAq _ _ y.lt _ _ _ ([]) (zN.nil (r:=rd w X) (cap:=0) none (by omega))) ?_ (vs:=#[.slice none 0 0])
 rintro I J C F H rfl;refine zz 4<|zr' (v:= .slice none (qW ([])) 0) ?_;exact⟨C.upd,_,rfl,rfl⟩
def zWp(x y:Nat):Int:=if x<y then 7 else 0
theorem zQp{x y:Nat}(h:qO (x:Int) (y:Int)<0):x<y:=by unfold qO at h;(repeat' split at h)<;>omega
theorem zQo{x y:Nat}(h:¬qO (x:Int) (y:Int)<0):y≤x:=by unfold qO at h;(repeat' split at h)<;>omega
theorem qTm(w:World)(X:Hid)(hX:∀k o,X k o→k<w.heap.size)(ad:Option Addr)(len cap:Nat)(l:List Nat)(h:zN (rd w X) ad len cap l)(S:Option Addr)(I P2:Nat)(z:List Nat)(T:zN (rd w X) S I P2 z):Calls Tryz.prog 232 #[.slice ad len cap,.slice S I P2] w (Ret E0 w fun w' v=>zFe 214 w w' (or2 (vK l z) (zWp (val l) (val z))) (val l-val z) v):=by
 obtain rfl:=h.hlen;obtain rfl:=T.hlen;have hcap:=h.hcap;have hbig:=h.hbig;have hcap2:=T.hcap;have hbig2:=T.hbig;have F:=T.hbig;refine zen Tryz.func232 ?_;have G0:St E0 w X w X []:=St.start hX;refine zz 11<|zc G0 (zAx _ X0 (qC _) _ _ _ l (h.mono Le.x0) _ _ _ z (T.mono Le.x0)) ?_;rintro v3 w3 G3 C3 N3 rfl;refine zz 11<|zb 10 (b:=((vK l z)!=0)) (fun J4=>?_) (fun J4=>?_);have F5:(vK l z)≠0:=by simpa using J4
 refine zz 11<|zr' (v:= .tuple #[.slice none 0 0,.int .i64 (vK l z)]) ?_;exact⟨G3.upd,_,rfl,by rw[zCa F5];exact .inl ⟨F5,rfl⟩⟩
 have F6:(vK l z)=0:=by simpa using J4
 obtain⟨⟨hl1,c1⟩,hl2,c2⟩:=zBa F6;refine zz 5<|zc G3 (zCb _ X0 (qC _) _ _ _ l ((h.mono C3).mono Le.x0) _ _ _ z ((T.mono C3).mono Le.x0) c1 c2 (by omega)) ?_
 rintro v8 w8 G8 C8 N8 rfl;refine zz 4<|zt 14 (p:=(qO (val l) (val z))<0) (fun F9=>?_) (fun F9=>?_);have C:=zQp F9;refine zz 10<|zr' (v:= .tuple #[.slice none 0 0,.int .i64 7]) ?_;exact⟨G8.upd,_,rfl,by rw[vX F6,zWp,qj C];exact .inl ⟨by decide,rfl⟩⟩
 have C:=zQo F9;refine zz 7<|zc G8 (zBb _ X0 (qC _) _ _ _ l ((h.mono (Le2 C3 C8)).mono Le.x0) (by omega)) ?_
 rintro v11 w11 G11 C11 N11 ⟨ad11,len11,P11,W⟩;rcases W with⟨rfl,q,hlt11,⟨rfl,rfl,rfl⟩ | ⟨g11,Q11,rfl,f,G,D11⟩⟩
 have y:l=[]:=zy q.symm;refine zz 1 ?_;have U:z=[]:=aY c2 (by have:=C;rw[y]at this;simp only[val]at this;omega)
 refine zc G11 (zPj _ X0 (qC _) _ _ _ (by rw[U];rfl) F) ?_ (vs:=#[.slice none 0 0,.slice S z.length P2])
 rintro v14 w14 G14 C14 N14 rfl;refine zz 5<|zr' (v:= .tuple #[.slice none 0 0,.int .i64 0]) ?_;exact⟨G14.upd,_,rfl,.inr ⟨by rw[vX F6,zWp,ql (by omega)],_,[],_,_,_,rfl,⟨⟨rfl,rfl,fun x hx=>by simp at hx,.inl ⟨rfl,rfl,rfl⟩⟩,.inl rfl,by rw[y];simp[val]⟩,by simp⟩⟩
 subst q;have N:=St.adopt G11 (fun o h=>ku.2 f (G8.lt _ _ h)) (qx G8.upd.size f) G;have C12:=Le.adopt C11 f;refine zz 1<|zcE 0 N rfl (pX _ g11 l.length P11 _ l (N.get 0 rfl) D11 (by omega) _ _ _ z ((T.mono (Le3 C3 C8 C12)).mono (N.leHG 0 rfl)) (qD h.hlt c2 (by omega)) (by omega)) ?_
 rintro v16 w16 ob16 ⟨Q16,J,rfl,hg16,Z,j,H⟩ V O C16;obtain rfl:=qy (V.symm.trans hg16);refine zz 5<|zr' (v:= .tuple #[.slice (some ⟨g11,0,none⟩) J.length P11,.int .i64 0]) ?_;exact⟨O.upd,_,rfl,.inr ⟨by rw[vX F6,zWp,ql (by omega)],_,J,_,_,_,rfl,⟨⟨rfl,rfl,Z.lt,.inr ⟨_,_,rfl,O.own_ge 0 rfl,O.get 0 rfl,Z⟩⟩,j,H⟩,qx (qD h.hlt j (by omega)) hl1⟩⟩
set_option maxHeartbeats 1000000
theorem jFx(w:World)(X:Hid)(hX:∀k o,X k o→k<w.heap.size)(ad:Option Addr)(len cap:Nat)(l:List Nat)(h:zN (rd w X) ad len cap l)(J:Option Addr)(len2 P2:Nat)(f:List Nat)(h2:zN (rd w X) J len2 P2 f):Calls Tryz.prog 230 #[.slice ad len cap,.slice J len2 P2] w (Ret E0 w fun w' v=>zFe 214 w w' (or2 (vK l f) (qBq (val l*val f))) (val l*val f) v):=by
 obtain rfl:=h.hlen;obtain rfl:=h2.hlen;have hcap:=h.hcap;have hbig:=h.hbig;have hcap2:=h2.hcap;have hbig2:=h2.hbig;refine zen Tryz.func230 ?_;have G0:St E0 w X w X []:=St.start hX;refine zz 11<|zc G0 (zAx _ X0 (qC _) _ _ _ l (h.mono Le.x0) _ _ _ f (h2.mono Le.x0)) ?_;rintro v3 w3 G3 C3 N3 rfl;refine zz 9<|zb 18 (b:=((vK l f)!=0)) (fun J4=>?_) (fun J4=>?_);have F5:(vK l f)≠0:=by simpa using J4
 refine zz 10<|zr' (v:= .tuple #[.slice none 0 0,.int .i64 (vK l f)]) ?_;exact⟨G3.upd,_,rfl,by rw[zCa F5];exact .inl ⟨F5,rfl⟩⟩
 have F6:(vK l f)=0:=by simpa using J4
 obtain⟨⟨hl1,c1⟩,hl2,c2⟩:=zBa F6;refine zz 10<|zw 24 (x:=((l.length+f.length:Nat):Int))<|zz 1<|zw 25 (x:=((l.length+f.length+1:Nat):Int))<|zop (at1 [] Tryz.f230 [1,1,0]) 6 (fun a7 _ Z7 hz7=>zBz (l:=((l.length+f.length+1:Nat):Int)) (e:=214) (z:= .int .u32 0) (i0:=Tryz.t214) (l.length+f.length+1) 4 Z7 G3 ?_);intro T w8 Y8 G8 C8 N8 a9 Z9;have D8:=qB.zeros (l.length+f.length+1) (by simp only[maxLen];omega)
 refine hz7 Z9<|zz 12<|zlp Tryz.f230 [] [1,1,1,0,1,0] (fun(i:Nat)=>[(1,.slice J f.length P2),(7,.slice (some ⟨T,0,none⟩) (l.length+f.length+1) (l.length+f.length+1)),(27,.slice ad l.length cap),(28,.int .i64 (l.length:Int)),(29,.int .i64 (i:Int))]) (fun(i:Nat)w1=>∃(Y1:Hid)(Q1:Array Value)(l1:List Nat),St E0 w X w1 Y1 [(T,.cells Q1 214 (0,0))]∧Le (rd w8 Y8) (rd w1 Y1)∧(qB (l.length+f.length+1) (l.length+f.length+1) Q1 l1)∧(i≤l.length)∧(val l1=val (l.take i)*val f)) (fun(i:Nat)=>l.length-i) 0 ?_ ?_;refine⟨_,(List.replicate (l.length+f.length+1) (Value.int .u32 0)).toArray,(List.replicate (l.length+f.length+1) 0),G8,Le.refl _,D8,qq _,by simp[val,vN]⟩
 rintro i w10 S hK10 ⟨Y10,Q1,l1,G10,C10,V,hp10_1,q⟩;have D1:=V;have hlen1:=D1.len;have hlti:=h.getD_lt i;refine zz 6<|zt 30 (p:=(i:Int)<(l.length:Int)) (fun F11=>?_) (fun F11=>?_);obtain⟨bk12,O,rfl,_⟩:=h.addr (by omega)
 refine zz 8<|zi (b:=bk12) (off:=O) (len:=l.length) (cap:=cap) (kd:= .i64) (i:=(i:Int)) 1 (O+i)<|zl ((h.cell (i:=i) (by omega)).mono (Le3 C3 C8 C10)).cells<|zz 9<|zw 36 (x:=((f.length+1:Nat):Int))<|zop (at1 [S] Tryz.f230 [1,1,1,0,1,0,0,1,1,0,0,1,0]) 3 (fun a14 _ Z14 hz14=>zBz (l:=((f.length+1:Nat):Int)) (e:=214) (z:= .int .u32 0) (i0:=Tryz.t214) (f.length+1) 4 Z14 G10 ?_)
 intro F w15 Y15 G15 C15 N15 a16 Z16;have D15:=qB.zeros (f.length+1) (by simp only[maxLen];omega)
 refine hz14 Z16<|zz 12<|zlp Tryz.f230 [S] [1,1,1,0,1,0,0,1,1,0,0,1,1,0,1,0] (fun(j:Nat)=>[(1,.slice J f.length P2),(7,.slice (some ⟨T,0,none⟩) (l.length+f.length+1) (l.length+f.length+1)),(8,.int .i64 (i:Int)),(9,.int .u32 ((l.getD i 0:Nat):Int)),(10,.slice (some ⟨F,0,none⟩) (f.length+1) (f.length+1)),(27,.slice (some ⟨bk12,O,none⟩) l.length cap),(28,.int .i64 (l.length:Int)),(29,.int .i64 (i:Int)),(38,.slice J f.length P2),(39,.int .i64 (f.length:Int)),(40,.int .i64 (j:Int))]) (fun(j:Nat)w1=>∃(Y1:Hid)(Q2:Array Value)(C:List Nat),St E0 w X w1 Y1 [(F,.cells Q2 214 (0,0)),(T,.cells Q1 214 (0,0))]∧Le (rd w15 Y15) (rd w1 Y1)∧(qB (f.length+1) (f.length+1) Q2 C)∧(j≤f.length)∧(val C=l.getD i 0*val (f.take j))∧(∀t,j<t→C.getD t 0=0)) (fun(j:Nat)=>f.length-j) 0 ?_ ?_;refine⟨_,(List.replicate (f.length+1) (Value.int .u32 0)).toArray,(List.replicate (f.length+1) 0),G15,Le.refl _,D15,qq _,by simp[val,vN],fun t _=>by by_cases ht:t<f.length+1<;>simp[zp,ht]⟩
 rintro j w17 K17 hK17 ⟨Y17,Q2,C,I,C17,W,hp17_1,G,H⟩;have D2:=W;have hlen2:=D2.len;have hltj:=h2.getD_lt j;have hltp:=D2.getD_lt j;have hmul:l.getD i 0*f.getD j 0≤4294967295*4294967295:=vp (by omega) (by omega)
 refine zz 6<|zt 41 (p:=(j:Int)<(f.length:Int)) (fun F18=>?_) (fun F18=>?_);obtain⟨bk19,of20,rfl,_⟩:=h2.addr (by omega)
 refine zz 8<|zi (b:=bk19) (off:=of20) (len:=f.length) (cap:=P2) (kd:= .i64) (i:=(j:Int)) 1 (of20+j) ?_;have J1_:=(Le4 C3 C8 C10 C15).trans C17;refine zl ((h2.cell (i:=j) (by omega)).mono J1_).cells<|zz 8<|zs 46 (v:= .int .u64 (IntKind.u64.wrap (((l.getD i 0:Nat):Int)))) (v':= .int .u64 ((l.getD i 0:Nat):Int)) (zQ (mJ (by omega) (by omega)))<|zz 2<|zs 48 (v:= .int .u64 (IntKind.u64.wrap (((f.getD j 0:Nat):Int)))) (v':= .int .u64 ((f.getD j 0:Nat):Int)) (zQ (mJ (by omega) (by omega)))<|zz 1<|zs 49 (v:= .int .u64 (IntKind.u64.wrap (((l.getD i 0:Nat):Int)*((f.getD j 0:Nat):Int)))) (v':= .int .u64 ((l.getD i 0*f.getD j 0:Nat):Int)) (zQ ((mJ (by rw[←xu];omega) (by rw[←xu];omega)).trans (xu _ _).symm))<|zz 2<|zi (b:=F) (off:=0) (len:=(f.length+1)) (cap:=(f.length+1)) (kd:= .i64) (i:=(j:Int)) 1 j ?_
 refine zl (ad:=⟨F,j,none⟩) (I.rowCells 0 rfl D2 (by have:=D2.len;(try simp only[q6]at *);omega))<|zz 1<|zs 54 (v:= .int .u64 (IntKind.u64.wrap (((C.getD j 0:Nat):Int)))) (v':= .int .u64 ((C.getD j 0:Nat):Int)) (zQ (mJ (by omega) (by omega)))<|zz 1<|zs 55 (v:= .int .u64 (IntKind.u64.wrap (((l.getD i 0*f.getD j 0:Nat):Int)+((C.getD j 0:Nat):Int)))) (v':= .int .u64 ((l.getD i 0*f.getD j 0+C.getD j 0:Nat):Int)) (zQ (mJ (by omega) (by omega)))<|zz 9<|zw 60 (x:=((j+1:Nat):Int))<|zz 2<|zs 62 (v:= .int .u32 (IntKind.u32.wrap (((l.getD i 0*f.getD j 0+C.getD j 0:Nat):Int)))) (v':= .int .u32 (((l.getD i 0*f.getD j 0+C.getD j 0) % 4294967296:Nat):Int)) (zQ (by rw[yY];omega)) ?_
 refine zz 2<|zs 64 (v:= .int .u64 (Int.fdiv (((l.getD i 0*f.getD j 0+C.getD j 0:Nat):Int)) (2^32))) (v':= .int .u64 (((l.getD i 0*f.getD j 0+C.getD j 0) / 4294967296:Nat):Int)) (zQ (by rw[wM _ 32 (c:=4294967296) (by decide) (by decide)];omega))<|zz 1<|zs 65 (v:= .int .u32 (IntKind.u32.wrap ((((l.getD i 0*f.getD j 0+C.getD j 0) / 4294967296:Nat):Int)))) (v':= .int .u32 (((l.getD i 0*f.getD j 0+C.getD j 0) / 4294967296:Nat):Int)) (zQ (by rw[yY];omega))<|zi (b:=F) (off:=0) (len:=(f.length+1)) (cap:=(f.length+1)) (kd:= .i64) (i:=(j:Int)) 1 j<|zop (at1 [S,K17] Tryz.f230 [1,1,1,0,1,0,0,1,1,0,0,1,1,0,1,0,0,1,1,0,0,1,1]) 11 (fun a21 _ Z21 hz21=>vW (y:=((l.getD i 0*f.getD j 0+C.getD j 0) % 4294967296)) (k:=j) (e:=(((l.getD i 0*f.getD j 0+C.getD j 0) % 4294967296:Nat):Int)) 0 Z21 I (by first | rfl | omega | (simp;omega)) rfl D2 (by have:=D2.len;(try simp only[q6]at *);omega) (by first | omega | (simp;omega)) ?_)
 intro Q22 w22 D22 G22 C22;refine hz21 Z21<|zi (b:=F) (off:=0) (len:=(f.length+1)) (cap:=(f.length+1)) (kd:= .i64) (i:=((j+1:Nat):Int)) 1 ((((j+1:Nat):Int)).toNat)<|zop (at1 [S,K17] Tryz.f230 [1,1,1,0,1,0,0,1,1,0,0,1,1,0,1,0,0,1,1,0,0,1,1]) 13 (fun a23 _ Z23 hz23=>vW (y:=((l.getD i 0*f.getD j 0+C.getD j 0) / 4294967296)) (k:=(((j+1:Nat):Int)).toNat) (e:=(((l.getD i 0*f.getD j 0+C.getD j 0) / 4294967296:Nat):Int)) 0 Z23 G22 (by first | rfl | omega | (simp;omega)) rfl D22 (by have:=D22.len;(try simp only[q6]at *);omega) (by first | omega | (simp;omega)) ?_)
 intro Q24 w24 D24 G24 C24;refine hz23 Z23<|zz 5<|zw 68 (x:=(j:Int)+1)<|zz 2 ?_;refine kU (fun a h=>hK17 (j+1) _ a h ⟨_,Q24,((C.set j ((l.getD i 0*f.getD j 0+C.getD j 0) % 4294967296)).set ((((j+1:Nat):Int)).toNat) ((l.getD i 0*f.getD j 0+C.getD j 0) / 4294967296)),G24,(Le3 C17 C22 C24),D24,by omega,by rw[yX f j (by omega),yp,←x4];exact qQe C j _ _ _ (by omega) (H _ (by omega)) G,fun t ht=>by rw[xH (by omega),xH (by omega)];exact H t (by omega)⟩ ?_)
 first | omega | (simp<;>omega)
 have hpv:val C=l.getD i 0*val f:=by have h9:=G;rwa[show j=f.length by omega,jt]at h9
 refine zz 10<|zcE 1 I rfl (qTo _ T (l.length+f.length+1) (l.length+f.length+1) _ l1 (I.get 1 rfl) D1 (by omega) _ _ _ C (qB.limbs (Y:=HG T) D2 (I.get 0 rfl) (fun o h=>I.ne (i:=0) (j:=1) rfl rfl (by decide) h)) i (by omega) (by have h8:=q;rw[q,hpv];have h9:=yX l i (by omega);have e:val (l.take i)*val f+4294967296^i*(l.getD i 0*val f)=val (l.take (i+1))*val f:=(by rw[h9,q8];congr 1;ac_rfl);rw[e];exact zHu (ju (zFb _ _) (kR h.hlt)) (kR h2.hlt) (by omega))) ?_ (vs:=#[.slice (some ⟨T,0,none⟩) (l.length+f.length+1) (l.length+f.length+1),.slice (some ⟨F,0,none⟩) (f.length+1) (f.length+1),.int .i64 (i:Int)])
 rintro v26 w26 ob26 ⟨rfl,Q26,ls26,hg26,D26,Z⟩ hob26 G26 C26;obtain rfl:=qy (hob26.symm.trans hg26);refine zz 5<|zw 73 (x:=(i:Int)+1)<|zz 2 ?_;have J2_:=(Le3 C10 C15 C17).trans C26;refine kU (fun a h=>hK10 (i+1) _ a h ⟨_,Q26,ls26,G26.tail,J2_,D26,by omega,by have h8:=Z;have h9:=hpv;rw[yX l i (by omega),q8,h8,h9,←q];have e:l.getD i 0*4294967296^i*val f=4294967296^i*(l.getD i 0*val f):=(by ac_rfl);omega⟩ ?_)
 first | omega | (simp<;>omega)
 have hfin:val l1=val l*val f:=by have h9:=q;rwa[show i=l.length by omega,jt]at h9
 refine zz 9<|zc G10 (qUb _ X0 (qC _) _ _ _ l1 (qB.limbs (Y:=X0) D1 (G10.get 0 rfl) (fun _ h=>h.elim))) ?_ (vs:=#[.slice (some ⟨T,0,none⟩) (l.length+f.length+1) (l.length+f.length+1)]);rintro v28 w28 G28 C28 N28 U;obtain⟨af28,lf28,cf28,N⟩:=qGo (some ⟨T,0,none⟩) (l.length+f.length+1) l1;cases(U.trans N);refine zz 7<|zr' (v:= .tuple #[.slice af28 lf28 cf28,.int .i64 (qOg l1)]) ?_;exact⟨G28.upd,_,rfl,by rw[vX F6];exact zFe.fit D1 (G28.get 0 rfl) (G28.own_ge 0 rfl) (hfin) N.symm⟩
set_option maxHeartbeats 1000000
def qWl(T:TypeId)(Φ:List Nat→Prop)(y:Nat)(z:Obj)(v:Value):Prop:=∃j f q,z= .cells j T (0,0)∧v= .slice (some ⟨y,0,none⟩) q.length f∧qB q.length f j q∧Φ q
theorem zQt(w:World)(g m cap:Nat)(cur:Array Value)(l:List Nat)(hg:w.heap[g]?=some (.cells cur 214 (0,0)))(G:qB m cap cur l)(hm:m≤1099511627776)(hcan:zX l)(W:Nat)(hc:W≤1):
    Calls Tryz.prog 227 #[.slice (some ⟨g,0,none⟩) m cap,.int .u32 (W:Int)] w (Ret (·=g) w fun w1 v=>∃g' o',w1.heap[g']?=some o'∧(w.heap.size≤g'∨g'=g)∧qWl 214 (fun l'=>l'.length≤m+1∧zX l'∧val l'=2*val l+W) g' o' v):=by
 refine zen Tryz.func227 ?_;have hX:∀k o,HG g k o→k<w.heap.size:=by rintro k o rfl;exact(z7.1 hg).1
 have G0:St (·=g) w (HG g) w (HG g) [(g,.cells cur 214 (0,0))]:=St.startE g _ hX hg (fun _=>rfl);have q:=G.len;refine zz 14<|zlp Tryz.f227 [] [1,0,1,0] (fun((j,c):Nat×Nat)=>[(0,.slice (some ⟨g,0,none⟩) m cap),(1,.int .u32 (c:Int)),(7,.slice (some ⟨g,0,none⟩) m cap),(8,.int .i64 (m:Int)),(9,.int .i64 (j:Int))]) (fun((j,c):Nat×Nat)w1=>∃(Y1:Hid)(Q1:Array Value)(C:List Nat),St (·=g) w (HG g) w1 Y1 [(g,.cells Q1 214 (0,0))]∧Le (rd w (HG g)) (rd w1 Y1)∧(qB m cap Q1 C)∧(j≤l.length)∧(c≤1)∧(val C+c*4294967296^j=(val l+W)+val (l.take j))∧(∀t,j≤t→C.getD t 0=l.getD t 0)) (fun((j,c):Nat×Nat)=>l.length-j) (0,W) ?_ ?_
 ·
  refine⟨_,cur,l,G0,Le.refl _,G,qq _,hc,by simp[val],fun _ _=>rfl⟩
 rintro⟨j,c⟩ w2 K2 hK2 ⟨Y2,Q1,C,V,C2,O,hp2_1,S,F,T⟩;have H:=O;have f:=H.len;have hlt1:=G.getD_lt j;have J1:=S;have z:=T;refine zz 6<|zt 10 (p:=(j:Int)<(m:Int)) (fun F3=>?_) (fun F3=>?_)
 ·
  refine zz 8<|zi (b:=g) (off:=0) (len:=m) (cap:=cap) (kd:= .i64) (i:=(j:Int)) 1 j<|zl (ad:=⟨g,j,none⟩) (V.rowCells 0 rfl H (by have:=H.len;(try simp only[q6]at *);omega))<|zz 9<|zs 17 (v:= .int .u32 (IntKind.u32.wrap (((C.getD j 0:Nat):Int)*2^1))) (v':= .int .u32 ((l.getD j 0*2 % 4294967296:Nat):Int)) (zQ (by rw[yY,z j (z6 _)];omega))<|zz 2<|zs 19 (v:= .int .u32 (rY ((l.getD j 0*2 % 4294967296:Nat):Int) (c:Int))) (v':= .int .u32 ((l.getD j 0*2 % 4294967296+c:Nat):Int)) (zQ (qNk _ _ J1))<|zz 2<|zs 21 (v:= .int .u32 (Int.fdiv (((C.getD j 0:Nat):Int)) (2^31))) (v':= .int .u32 ((l.getD j 0 / 2147483648:Nat):Int)) (zQ (by rw[wM _ 31 (c:=2147483648) (by decide) (by decide),z j (z6 _)];omega)) ?_
  refine zi (b:=g) (off:=0) (len:=m) (cap:=cap) (kd:= .i64) (i:=(j:Int)) 1 j<|zop (at1 [K2] Tryz.f227 [1,0,1,0,0,1,1,0,0,1]) 9 (fun a4 _ Z4 hz4=>vW (y:=(l.getD j 0*2 % 4294967296+c)) (k:=j) (e:=((l.getD j 0*2 % 4294967296+c:Nat):Int)) 0 Z4 V (by first | rfl | omega | (simp;omega)) rfl H (by have:=H.len;(try simp only[q6]at *);omega) (by omega) ?_)
  intro Q5 w5 D5 G5 C5;refine hz4 Z4<|zz 6<|zw 23 (x:=(j:Int)+1)<|zz 2 ?_;refine kU (fun a h=>hK2 ((j+1,l.getD j 0 / 2147483648)) _ a h ⟨_,Q5,(C.set j (l.getD j 0*2 % 4294967296+c)),G5,(Le2 C2 C5),D5,by omega,by omega,qNt l C j c _ (by omega) (by omega) (z j (z6 _)) F,fun t ht=>by rw[xH (by omega)];exact z t (by omega)⟩ ?_)
  first | omega | (simp<;>omega)
 have I:val C+c*4294967296^m=val l+W+val l:=by have h9:=F;rwa[show j=l.length by omega,jt,q]at h9
 refine zz 13<|zb 25 (b:=((c:Int)!=0)) (fun J6=>?_) (fun J6=>?_)
 ·
  have F7:(c:Int)≠0:=by simpa using J6
  have N:c=1:=by omega
  refine zz 4<|zn (fun b=> .slice (some ⟨b,0,none⟩) 1 1) (.cells #[.int .u32 (c:Int)] 214 (0,0)) V fun b9 w9 Y9 G9 C9 N9=>zop (at1 [K2] Tryz.f227 [1,1,0,1,0]) 3 (fun a10 _ Z10 hz10=>zIc (b:=4) (m:=1) (c:=1) (size:=1) (ad:=⟨b9,0,none⟩) (xs:=U32 C) (news:=[.int .u32 (c:Int)]) (i0:=Tryz.t214) (cur:=Q1) (nn:=m) (cap:=cap) (g:=g) (e:=214) 1 Z10 G9 rfl H.row (G9.cells 0 rfl rfl) kr kr (by simp only[maxLen];omega) (by show(_+1)*4≤_;omega) ?_)
  intro Z P11 Q11 w11 Y11 D11 J C11 a12 Z12;have U:=qB.app D11 H.lt (by omega:c<4294967296)
  refine hz10 Z12<|zz 10<|zr' (v:= .slice (some ⟨Z,0,none⟩) (m+1) P11) ?_;exact⟨J.upd,_,rfl,Z,_,J.get 1 rfl,J.own_or 1 rfl,_,_,(C++[c]),rfl,by rw[qk,f];rfl,by rw[qk,f];exact U,by simp only[qk,yr];omega,zKq (by omega),by rw[bB,f];omega⟩
 have F13:(c:Int)=0:=by simpa using J6
 have N:c=0:=by omega
 refine zz 10<|zr' (v:= .slice (some ⟨g,0,none⟩) m cap) ?_;exact⟨V.upd,_,rfl,g,_,V.get 0 rfl,V.own_or 0 rfl,_,_,C,rfl,by rw[f],by rw[f];exact H,by omega,zQk H.lt (fun h0=>by rw[N]at I;have h8:=sH hcan (fun e=>by rw[e]at q;simp at q;omega);rw[f];rw[q]at h8;omega),by rw[N]at I;omega⟩
theorem zUu(w:World)(X:Hid)(hX:∀k o,X k o→k<w.heap.size)(f:Nat)(hc:f≤1):Calls Tryz.prog 227 #[.slice none 0 0,.int .u32 (f:Int)] w (Ret E0 w fun w1 v=>∃N ad' y q,zAu 214 w w1 v N ad' y q f∧N.length≤1):=by
 refine zen Tryz.func227 ?_;have H:St E0 w X w X []:=St.start hX;refine zz 14<|zWw<|zz 19<|zb 25 (b:=((f:Int)!=0)) (fun C=>?_) (fun C=>?_);have F3:(f:Int)≠0:=by simpa using C
 refine zz 4<|zn (fun b=> .slice (some ⟨b,0,none⟩) 1 1) (.cells #[.int .u32 (f:Int)] 214 (0,0)) H fun V w5 Y5 I Z N5=>zop (at1 [] Tryz.f227 [1,1,0,1,0]) 3 (fun a6 _ T G=>zSe (b:=4) (m:=1) (c:=1) (size:=1) (ad:=⟨V,0,none⟩) (news:=[.int .u32 (f:Int)]) (i0:=Tryz.t214) (e:=214) T I (I.cells 0 rfl rfl) kr (by omega) (by simp only[maxLen];omega) (by show 1*4≤_;omega) ?_)
 intro W J S w7 Y7 O z C7 a8 U;have j:qB 1 J S [f]:=qB.app (m:=0) (l:=[]) O (fun x F=>by simp at F) (by omega)
 refine G U<|zz 10<|zr' (v:= .slice (some ⟨W,0,none⟩) 1 J) ?_;exact⟨z.upd,_,rfl,[f],_,_,_,⟨⟨rfl,rfl,j.lt,.inr ⟨_,_,rfl,z.own_ge 0 rfl,z.get 0 rfl,j⟩⟩,zKq (l:=[]) (by omega),by simp[val]⟩,by simp⟩
 have F9:(f:Int)=0:=by simpa using C
 refine zz 10<|zr' (v:= .slice none 0 0) ?_;exact⟨H.upd,_,rfl,[],_,_,_,⟨⟨rfl,rfl,fun x F=>by simp at F,.inl ⟨rfl,rfl,rfl⟩⟩,.inl rfl,by simp[val];omega⟩,by simp⟩
set_option maxHeartbeats 1000000
theorem zTm(l:List Nat):val l % 2=l.getD 0 0 % 2:=by
 rcases l with _ | ⟨x,l⟩
 ·simp[val]
 ·simp only[val,List.getD_cons_zero];omega
theorem zJg{k m v V:Nat}(h:v*2^k=V)(hp:0<v)(z:V<4294967296^m):k<V∧k<32*m:=by
 have j:1*2^k≤v*2^k:=qw _ hp;have q:k<2^k:=Nat.lt_two_pow_self;refine⟨by omega,?_⟩
 have y:(4294967296:Nat)^m=2^(32*m):=by rw[uS]
 have f:2^k<2^(32*m):=by omega
 exact(yf (by omega:1<2)).1 f
theorem zFu(w:World)(g m cap:Nat)(cur:Array Value)(l:List Nat)(hg:w.heap[g]?=some (.cells cur 214 (0,0)))(S:qB m cap cur l)(hm:m≤1099511627776)(hcan:zX l)(hpos:0<val l):
    Calls Tryz.prog 224 #[.slice (some ⟨g,0,none⟩) m cap] w (Ret (·=g) w fun w1 v=>∃k cur' l',v= .tuple #[.slice (some ⟨g,0,none⟩) l'.length cap,.int .i64 ((k:Nat):Int)]∧w1.heap[g]?=some (.cells cur' 214 (0,0))∧qB l'.length cap cur' l'∧zX l'∧val l'*2^k=val l∧val l' % 2=1):=by
 refine zOe (n:=37) (vs:=[.slice (some ⟨g,0,none⟩) m cap]) Tryz.func224 rfl rfl rfl kr (fun a0 Z0=>?_);have Z0:Fr 37 a0 [(0,.slice (some ⟨g,0,none⟩) m cap)]:=Z0;have hX:∀k o,HG g k o→k<w.heap.size:=by rintro k o rfl;exact(z7.1 hg).1
 have G0:St (·=g) w (HG g) w (HG g) [(g,.cells cur 214 (0,0))]:=St.startE g _ hX hg (fun _=>rfl);have hlen:=S.len;refine zG (fun K1 hK1=>?_);refine zC ?_;refine qY Z0 kr (gJ (d:=1) (fun b=> .pointer (some ⟨b,0,none⟩)) (.cells #[.slice (some ⟨g,0,none⟩) m cap] 26 (0,0)) Z0 kr G0 kw ?_);intro T w2 Y2 G2 C2 N2 a3 Z3;refine zD 2 [(3,.int .i64 0),(2,.slice none 0 0)] Z3 kr kr (fun a4 Z4=>?_);refine zH<|zA (hK1 _ _ ?_);refine zG (fun K5 hK5=>?_);refine zC<|zD 1 [(4,.int .i64 0)] Z4 kr kr (fun a6 Z6=>?_);refine zH<|zA (hK5 _ _ ?_);refine zG (fun K7 hK7=>?_);refine kH ?_;refine lZ (fun(k:Nat)ac w1=>∃(Y1:Hid)(bs:List Nat)(z:Nat)(Q1:Array Value)(j:List Nat),Fr 37 ac [(1,.pointer (some ⟨T,0,none⟩)),(4,.int .i64 (k:Int))] (bs.map Go.Gv.mark)∧St (·=g) w (HG g) w1 Y1 ((T,.cells #[.slice (some ⟨g,0,none⟩) z cap] 26 (0,0))::(g,.cells Q1 214 (0,0))::xN bs)∧Le (rd w2 Y2) (rd w1 Y1)∧(qB z cap Q1 j)∧(zX j)∧(val j*2^k=val l)) (fun(k:Nat)=>val l-k) 0 ?_ ?_
 ·
  refine⟨_,[],m,cur,l,Z6.as [1,4] kr kr,G2,Le.refl _,S,hcan,by simp⟩
 rintro k a8 w8 ⟨Y8,bs,z,Q1,j,Z8,G8,C8,hp8_0,hp8_1,hp8_2⟩;have D1:=hp8_0;have F:=D1.len;have Z:=hp8_1;have G:=hp8_2;have hp1:0<val j:=vA (fun e=>by rw[e]at G;omega)
 obtain⟨hkv,hkm⟩:=zJg G hp1 (kR S.lt);rw[hlen]at hkm;have hm0:0<z:=by rcases jg z with e | e;rw[zy (F.trans e)]at hp1;simp[val]at hp1;exact e
 have hm1:z≤m:=by have:=qD S.lt Z (by have:=vg (val j) (wk k);omega);omega
 have hlt0:=D1.getD_lt 0;refine zG (fun K9 hK9=>?_);refine zG (fun K10 hK10=>?_);refine zC ?_;refine qY Z8 kr (zE (d:=8) (v:= .slice (some ⟨g,0,none⟩) z cap) Z8 kr (zB (t:=26) (g:=false) (vs:=[.slice (some ⟨g,0,none⟩) z cap]) (ad:=⟨T,0,none⟩) rfl kr kr ir (G8.cells 0 rfl rfl)) ?_);intro a11 Z11;refine zD 2 [(10,.bool (decide ((z:Int)>0))),(9,.int .i64 (z:Int))] Z11 kr kr (fun a12 Z12=>?_);have Z13:=Z12.set 10 (v':= .bool true) kr rfl (zK (xe (by omega)))
 refine zD 1 [(11,.bool true)] Z13 kr kr (fun a14 Z14=>?_);refine qY Z14 kr (zE (d:=12) (v:= .slice (some ⟨g,0,none⟩) z cap) Z14 kr (zB (t:=26) (g:=false) (vs:=[.slice (some ⟨g,0,none⟩) z cap]) (ad:=⟨T,0,none⟩) rfl kr kr ir (G8.cells 0 rfl rfl)) ?_);intro a15 Z15;refine qY Z15 kr (zE (d:=13) (v:= .pointer (some ⟨g,0,none⟩)) Z15 kr (jD (t:=26) (e:=214) (b:=g) (off:=0) (len:=z) (cap:=cap) (kd:= .i64) (i:=0) (g:=false) (m:=1) (off':=0) rfl kr kr kr kr (by omega) (by omega) kr _) ?_)
 intro a16 Z16;refine qY Z16 kr (zE (d:=14) (v:= .int .u32 ((j.getD 0 0:Nat):Int)) Z16 kr (zB (t:=214) (g:=false) (vs:=[.int .u32 ((j.getD 0 0:Nat):Int)]) (ad:=⟨g,0,none⟩) rfl kr kr ir (G8.rowCells 1 rfl D1 (by have:=D1.len;(try simp only[q6]at *);omega))) ?_)
 intro a17 Z17;refine zD 1 [(15,.int .u32 (wY ((j.getD 0 0:Nat):Int) 1))] Z17 kr kr (fun a18 Z18=>?_);have Z19:=Z18.set 15 (v':= .int .u32 ((j.getD 0 0 % 2:Nat):Int)) kr rfl (zQ (zQh _ hlt0));refine zD 2 [(17,.bool (((j.getD 0 0 % 2:Nat):Int)==0)),(16,.bool (((j.getD 0 0 % 2:Nat):Int)==0))] Z19 kr kr (fun a20 Z20=>?_);refine zH<|zA (hK10 _ _ ?_);refine nX (((j.getD 0 0 % 2:Nat):Int)==0) Z20 kr kr (fun V=>?_) (fun V=>?_)
 ·
  have Z22:=Z20.set 17 (v':= .bool true) kr rfl (zK V);have F23:((j.getD 0 0 % 2:Nat):Int)=0:=by simpa using V
  have heven:val j % 2=0:=by rw[zTm];omega
  refine tF<|zA (hK9 _ _ ?_);refine kH<|zG (fun K24 hK24=>?_);refine zC ?_;refine qY Z22 kr (gJ (d:=5) (fun b=> .pointer (some ⟨b,0,none⟩)) (.cells #[.int .u32 0] 214 (0,0)) Z22 kr G8 kw ?_);intro b25 w25 Y25 G25 C25 N25 a26 Z26;refine qY Z26 kr (zF (t:=214) (b:=b25) (off:=0) (c':=#[.int .u32 0]) (g:=false) (m:=1) 0 _ Z26 kr G25 rfl kr rfl kr kr kr rfl (by first | decide | (simp;done)) kr rfl ?_)
  intro w27 U C27;refine zH<|zA (hK24 _ _ ?_);refine zG (fun K28 hK28=>?_);refine zG (fun K29 hK29=>?_);refine zC ?_;refine qY Z26 kr (zE (d:=18) (v:= .slice (some ⟨g,0,none⟩) z cap) Z26 kr (zB (t:=26) (g:=false) (vs:=[.slice (some ⟨g,0,none⟩) z cap]) (ad:=⟨T,0,none⟩) rfl kr kr ir (U.cells 1 rfl rfl)) ?_);intro a30 Z30;refine qY Z30 kr (kI (d:=19) (f:=263) (cap:=#[]) (vs:=#[.slice (some ⟨g,0,none⟩) z cap]) Z30 kr U rfl kr kr (fun w=>Tryz.call263 _ w) (zGm _ _ U.lt (some ⟨g,0,none⟩) z cap) ?_);rintro v31 w31 G31 C31 N31 ⟨W,rfl,H,hget31⟩ a32 Z32;have G33:=St.adopt G31 (fun o h=>ku.2 H (U.lt _ _ h)) (qx U.upd.size H) hget31;have C33:=Le.adopt C31 H;refine zH<|zA (hK29 _ _ ?_);refine kH<|zHh (f:=280) (caps:=#[.pointer (some ⟨W,0,none⟩)]) Z32 G33 kr kr (fun args w=>Tryz.call280 args w) fun rec34 l34 b34 w34 Y34 O G34 C34 N34=>?_;have Z35:=zDf b34 Z32;refine zEp l34 W (some ⟨g,0,none⟩) z cap j F.symm (by omega) (fun C w'=>∃(Y':Hid)(Q2:Array Value)(I:List Nat)(r:Nat),St (·=g) w (HG g) w' Y' ((l34,.loop rec34)::(b34,.deferred (some []))::(W,.cells #[.slice (some ⟨g,0,none⟩) z cap] 26 (0,0))::(b25,.cells #[.int .u32 ((r*2147483648:Nat):Int)] 214 (0,0))::(T,.cells #[.slice (some ⟨g,0,none⟩) z cap] 26 (0,0))::(g,.cells Q2 214 (0,0))::xN bs)∧Le (rd w34 Y34) (rd w' Y')∧(qB z cap Q2 I)∧(r≤1)∧(2*val I+r*4294967296^C=val j+val (j.take C))∧(∀i,i<C→I.getD i 0=j.getD i 0)) _ ?_ ?_ ?_ ?_ _ ?_
  ·
   rintro C w36 ⟨Y36,Q2,I,r,G36,C36,hp36_0,hp36_1,hp36_2,hp36_3⟩;exact G36.at0 2 rfl rfl
  ·
   rintro C w37 ⟨Y37,Q2,I,r,G37,C37,J,hp37_1,hp37_2,hp37_3⟩;intro hk;refine⟨g,0,rfl,?_⟩;rw[←hp37_3 C (by omega)]
   exact qB.cellX0 J (G37.get 5 rfl) (by have:=(J).len;omega)
  ·
   intro C w38 hk;rintro⟨Y38,Q2,I,r,G38,C38,hp38_0,hp38_1,hp38_2,hp38_3⟩;refine zJm (p:=20) (q:=21) O Z32 G38 kr kr (fun a39 Z39=>?_);have D2:=hp38_0;have hlen2:=D2.len;have hr1:=hp38_1;have hv2:=hp38_2;have heq2:=hp38_3;have hltk:=D1.getD_lt C;refine zG (fun K40 hK40=>?_);refine zC<|zD 1 [(6,.int .i64 (C:Int))] Z39 kr kr (fun a41 Z41=>?_);refine zH<|zA (hK40 _ _ ?_);refine zC<|zD 1 [(7,.int .u32 ((j.getD C 0:Nat):Int))] Z41 kr kr (fun a42 Z42=>?_);refine zH<|zA<|zCv O G38 (fun w43 G43 C43=>?_);refine kH<|zC ?_;refine qY Z42 kr (zE (d:=22) (v:= .slice (some ⟨g,0,none⟩) z cap) Z42 kr (zB (t:=26) (g:=false) (vs:=[.slice (some ⟨g,0,none⟩) z cap]) (ad:=⟨T,0,none⟩) rfl kr kr ir (G43.cells 4 rfl rfl)) ?_);intro a44 Z44;refine zD 3 [(25,.int .u32 (Int.fdiv (((j.getD C 0:Nat):Int)) (2^1))),(24,.int .u32 ((j.getD C 0:Nat):Int)),(23,.int .i64 (C:Int))] Z44 kr kr (fun a45 Z45=>?_);have Z46:=Z45.set 25 (v':= .int .u32 ((j.getD C 0 / 2:Nat):Int)) kr rfl (zQ (by rw[wM _ 1 (c:=2) (by decide) (by decide)];omega))
   refine qY Z46 kr (zE (d:=26) (v:= .int .u32 ((r*2147483648:Nat):Int)) Z46 kr (zB (t:=214) (g:=false) (vs:=[.int .u32 ((r*2147483648:Nat):Int)]) (ad:=⟨b25,0,none⟩) rfl kr kr ir (G43.cells 3 rfl rfl)) ?_);intro a47 Z47;refine zD 1 [(27,.int .u32 (rY ((j.getD C 0 / 2:Nat):Int) ((r*2147483648:Nat):Int)))] Z47 kr kr (fun a48 Z48=>?_);have Z49:=Z48.set 27 (v':= .int .u32 ((j.getD C 0 / 2+r*2147483648:Nat):Int)) kr rfl (zQ (qNl _ _ (by omega) hr1))
   refine zD 2 [(29,.int .u32 (IntKind.u32.wrap (((j.getD C 0:Nat):Int)*2^31))),(28,.int .u32 ((j.getD C 0:Nat):Int))] Z49 kr kr (fun a50 Z50=>?_);have Z51:=Z50.set 29 (v':= .int .u32 ((j.getD C 0 % 2*2147483648:Nat):Int)) kr rfl (zQ (by rw[yY];omega))
   refine qY Z51 kr (zE (d:=30) (v:= .pointer (some ⟨g,C,none⟩)) Z51 kr (jD (t:=26) (e:=214) (b:=g) (off:=0) (len:=z) (cap:=cap) (kd:= .i64) (i:=(C:Int)) (g:=false) (m:=1) (off':=C) rfl kr kr kr kr (by omega) (by omega) (by first | rfl | omega | (simp;done) | (simp;omega)) _) ?_)
   intro a52 Z52;refine qY Z52 kr (lK (t:=214) (y:=(j.getD C 0 / 2+r*2147483648)) (k:=C) (e:=((j.getD C 0 / 2+r*2147483648:Nat):Int)) 5 Z52 kr G43 rfl rfl rfl (by first | rfl | omega | (simp;omega)) kr rfl D2 (by have:=D2.len;(try simp only[q6]at *);omega) (by omega) ?_)
   intro Q53 w53 D53 G53 C53;refine qY Z52 kr (zF (t:=214) (b:=b25) (off:=0) (c':=#[.int .u32 ((j.getD C 0 % 2*2147483648:Nat):Int)]) (g:=false) (m:=1) 3 _ Z52 kr G53 rfl kr rfl kr kr kr rfl (by first | decide | (simp;done)) kr rfl ?_)
   intro w54 G54 C54;refine zH ?_;refine yU ?_;refine fA O G54 (fun w55 G55 C55=>vE.next ?_);exact⟨_,Q53,(I.set C (j.getD C 0 / 2+r*2147483648)),j.getD C 0 % 2,G55,(Le5 C38 C43 C53 C54 C55),D53,by omega,qPa j I C r (by omega) (by omega) (heq2 C (by omega)) hv2,fun i hi=>by rw[xH (by omega)];exact heq2 i (by omega)⟩
  ·
   rintro w56 ⟨Y56,Q2,I,r,G56,C56,hp56_0,hp56_1,hp56_2,hp56_3⟩;refine wI.norm O G56 (fun w57 G57 C57=>?_);have D2:=hp56_0;have hlen2:=D2.len;have hhalf:val I*2=val j:=by have h9:=hp56_2;have h8:=hp56_1;rw[uv]at h9;simp only[val,cR]at h9;omega
   refine yU<|zA (hK28 _ _ ?_);refine zG (fun K58 hK58=>?_);refine zC ?_;refine qY Z35 kr (zE (d:=31) (v:= .slice (some ⟨g,0,none⟩) z cap) Z35 kr (zB (t:=26) (g:=false) (vs:=[.slice (some ⟨g,0,none⟩) z cap]) (ad:=⟨T,0,none⟩) rfl kr kr ir (G57.cells 4 rfl rfl)) ?_);intro a59 Z59;refine qY Z59 kr (kI (d:=32) (f:=235) (cap:=#[]) (vs:=#[.slice (some ⟨g,0,none⟩) z cap]) Z59 kr G57 rfl kr kr (fun w=>Tryz.call235 _ w) (zAq _ X0 (qC _) _ _ _ I (qB.limbs (Y:=X0) D2 (G57.get 5 rfl) (fun _ h=>h.elim))) ?_);rintro v60 w60 G60 C60 N60 rfl a61 Z61;have hrt:=D2.trimmed;refine qY Z61 kr (zF (t:=26) (b:=T) (off:=0) (c':=#[.slice (some ⟨g,0,none⟩) (qW I) cap]) (g:=false) (m:=1) 4 _ Z61 kr G60 rfl kr rfl kr kr kr rfl (by first | decide | (simp;done)) kr rfl ?_)
   intro w62 G62 C62;refine zH<|zA (hK58 _ _ ?_);refine zC<|zD 2 [(34,.int .i64 (i64.wrap ((k:Int)+1))),(33,.int .i64 (k:Int))] Z61 kr kr (fun a63 Z63=>?_);have Z64:=Z63.set 34 (v':= .int .i64 ((k+1:Nat):Int)) kr rfl (zQ (zAs (by omega) (by omega)))
   refine zD 1 [(4,.int .i64 ((k+1:Nat):Int))] Z64 kr kr (fun a65 Z65=>?_);refine zH ?_;refine yU<|zA ?_;refine⟨k+1,⟨_,(_::bs),qW I,Q2,(Go.Gv.trimmed I),Z65.as [1,4] kr kr,(St.mid [(T,.cells #[.slice (some ⟨g,0,none⟩) (qW I) cap] 26 (0,0)),(g,.cells Q2 214 (0,0))] G62.tail.swap.tail.swap.tail),(Le9 C8 C25 C27 C33 C34 C56 C57 C60 C62),hrt,qZ _,by rw[jK,ja,←G,←hhalf];ac_rfl⟩,?_⟩
   first | omega | (simp;omega)
  ·
   exact⟨_,Q1,j,0,G34,Le.refl _,D1,by omega,by rw[←F,jt];omega,fun _ _=>rfl⟩
 have Z66:=Z20.set 17 (v':= .bool false) kr rfl (zK V);have F67:((j.getD 0 0 % 2:Nat):Int)≠0:=by simpa using V
 have hodd:val j % 2=1:=by rw[zTm];omega
 refine zAc ?_;refine rU ?_;refine rU ?_;refine mU<|zA (hK7 _ _ ?_);refine zG (fun K68 hK68=>?_);refine zC ?_;refine qY Z66 kr (zE (d:=35) (v:= .slice (some ⟨g,0,none⟩) z cap) Z66 kr (zB (t:=26) (g:=false) (vs:=[.slice (some ⟨g,0,none⟩) z cap]) (ad:=⟨T,0,none⟩) rfl kr kr ir (G8.cells 0 rfl rfl)) ?_);intro a69 Z69;refine zD 3 [(3,.int .i64 (k:Int)),(2,.slice (some ⟨g,0,none⟩) z cap),(36,.int .i64 (k:Int))] Z69 kr kr (fun a70 Z70=>?_);refine zH<|zA (hK68 _ _ ?_);refine mY ?_;refine jBv (bs:=bs) (N:=[(T,.cells #[.slice (some ⟨g,0,none⟩) z cap] 26 (0,0)),(g,.cells Q1 214 (0,0))]) (v:= .tuple #[.slice (some ⟨g,0,none⟩) z cap,.int .i64 (k:Int)]) (rs:=[.tmp 2,.tmp 3]) (vs:=[.slice (some ⟨g,0,none⟩) z cap,.int .i64 (k:Int)]) Z70 G8 kr kr (fun w71 G71 C71=>?_);refine⟨(Res.tmp kr (Res.tmp kr Res.nil)),?_⟩;exact⟨G71.upd,_,rfl,k,Q1,j,by rw[F],G71.get 1 rfl,by rw[F];exact D1,Z,G,hodd⟩
set_option maxHeartbeats 1000000
theorem qNn{x y:Nat}(h:qO (x:Int) (y:Int)= -1):x<y:=by unfold qO at h;(repeat' split at h)<;>omega
theorem qXh{x y:Nat}(h:qO (x:Int) (y:Int)≠0)(f:qO (x:Int) (y:Int)≠ -1):y<x:=by unfold qO at h f;(repeat' split at h)<;>(repeat' split at f)<;>omega
theorem jFt(w:World)(X:Hid)(hX:∀k o,X k o→k<w.heap.size)(ad:Option Addr)(len cap:Nat)(l:List Nat)(h:zN (rd w X) ad len cap l)(ad2:Option Addr)(len2 P2:Nat)(G:List Nat)(h2:zN (rd w X) ad2 len2 P2 G):Calls Tryz.prog 155 #[.slice ad len cap,.slice ad2 len2 P2] w (Ret E0 w fun w' v=>zFe 214 w w' (vK l G) (Nat.gcd (val l) (val G)) v):=by
 obtain rfl:=h.hlen;obtain rfl:=h2.hlen;have hcap:=h.hcap;have hbig:=h.hbig;have hcap2:=h2.hcap;have hbig2:=h2.hbig;refine zen Tryz.func155 ?_;have G0:St E0 w X w X []:=St.start hX;refine zz 12<|zc G0 (zAx _ X0 (qC _) _ _ _ l (h.mono Le.x0) _ _ _ G (h2.mono Le.x0)) ?_;rintro v3 w3 G3 C3 N3 rfl;refine zz 9<|zb 13 (b:=((vK l G)!=0)) (fun J4=>?_) (fun J4=>?_);have F5:(vK l G)≠0:=by simpa using J4
 refine zz 11<|zr' (v:= .tuple #[.slice none 0 0,.int .i64 (vK l G)]) ?_;exact⟨G3.upd,_,rfl,.inl ⟨F5,rfl⟩⟩;have F6:(vK l G)=0:=by simpa using J4
 obtain⟨⟨hl1,c1⟩,hl2,c2⟩:=zBa F6;refine zz 6<|zc G3 (zBb _ X0 (qC _) _ _ _ l ((h.mono C3).mono Le.x0) (by omega)) ?_
 rintro v8 w8 G8 C8 N8 ⟨ad8,zDp,P8,how8⟩;rcases how8 with⟨rfl,hlen8,hlt8,⟨rfl,rfl,rfl⟩ | ⟨g8,Q8,rfl,hge8,hget8,D8⟩⟩
 have hnil8:l=[]:=zy hlen8.symm;have hzA:val l=0:=by rw[hnil8];rfl
 refine zz 1<|zc G8 (zBb _ X0 (qC _) _ _ _ G ((h2.mono (Le2 C3 C8)).mono Le.x0) (by omega)) ?_
 rintro v11 w11 G11 C11 N11 ⟨ad11,len11,P11,how11⟩;rcases how11 with⟨rfl,hlen11,hlt11,⟨rfl,rfl,rfl⟩ | ⟨g11,Q11,rfl,hge11,hget11,D11⟩⟩
 have hnil11:G=[]:=zy hlen11.symm;have hzB:val G=0:=by rw[hnil11];rfl
 refine zz 23<|zr' (v:= .tuple #[.slice none 0 0,.int .i64 0]) ?_;exact⟨G11.upd,_,rfl,.inr ⟨F6,_,[],_,_,_,rfl,⟨⟨rfl,rfl,fun x hx=>by simp at hx,.inl ⟨rfl,rfl,rfl⟩⟩,.inl rfl,by rw[hzA,hzB];rfl⟩,by simp⟩⟩
 subst hlen11;have G12:=St.adopt G11 (fun o h=>ku.2 hge11 (G8.lt _ _ h)) (qx G8.upd.size hge11) hget11;have C12:=Le.adopt C11 hge11;refine zz 23<|zr' (v:= .tuple #[.slice (some ⟨g11,0,none⟩) G.length P11,.int .i64 0]) ?_;exact⟨G12.upd,_,rfl,.inr ⟨F6,_,G,_,_,_,rfl,⟨⟨rfl,rfl,D11.lt,.inr ⟨_,_,rfl,G12.own_ge 0 rfl,G12.get 0 rfl,D11⟩⟩,c2,by rw[hzA,gh]⟩,hl2⟩⟩
 subst hlen8;have G9:=St.adopt G8 (fun o h=>ku.2 hge8 (G3.lt _ _ h)) (qx G3.upd.size hge8) hget8;have C9:=Le.adopt C8 hge8;refine zz 1<|zc G9 (zBb _ X0 (qC _) _ _ _ G ((h2.mono (Le2 C3 C9)).mono Le.x0) (by omega)) ?_
 rintro v14 w14 G14 C14 N14 ⟨ad14,len14,P14,how14⟩;rcases how14 with⟨rfl,hlen14,hlt14,⟨rfl,rfl,rfl⟩ | ⟨g14,Q14,rfl,hge14,hget14,D14⟩⟩
 have hnil14:G=[]:=zy hlen14.symm;have hzB:val G=0:=by rw[hnil14];rfl
 refine zz 12<|zb 21 (b:=((l.length:Int)==0)) (fun J16=>?_) (fun J16=>?_);have F17:(l.length:Int)=0:=by simpa using J16
 have hzA:val l=0:=by rw[zy (by omega:l.length=0)];rfl
 refine zz 11<|zr' (v:= .tuple #[.slice none 0 0,.int .i64 0]) ?_;exact⟨G14.upd,_,rfl,.inr ⟨F6,_,[],_,_,_,rfl,⟨⟨rfl,rfl,fun x hx=>by simp at hx,.inl ⟨rfl,rfl,rfl⟩⟩,.inl rfl,by rw[hzA,hzB];rfl⟩,by simp⟩⟩
 have F18:(l.length:Int)≠0:=by simpa using J16
 have hposA:0<val l:=wZ c1 (by rintro rfl;simp at F18)
 refine zz 22<|zr' (v:= .tuple #[.slice (some ⟨g8,0,none⟩) l.length P8,.int .i64 0]) ?_;exact⟨G14.upd,_,rfl,.inr ⟨F6,_,l,_,_,_,rfl,⟨⟨rfl,rfl,D8.lt,.inr ⟨_,_,rfl,G14.own_ge 0 rfl,G14.get 0 rfl,D8⟩⟩,c1,by rw[hzB,u4]⟩,hl1⟩⟩
 subst hlen14;have W:=St.adopt G14 (fun o h=>ku.2 hge14 (G9.lt _ _ h)) (qx G9.upd.size hge14) hget14;have C15:=Le.adopt C14 hge14;refine zz 12<|zb 21 (b:=((l.length:Int)==0)) (fun J19=>?_) (fun J19=>?_);have F20:(l.length:Int)=0:=by simpa using J19
 have hzA:val l=0:=by rw[zy (by omega:l.length=0)];rfl
 refine zz 11<|zr' (v:= .tuple #[.slice (some ⟨g14,0,none⟩) G.length P14,.int .i64 0]) ?_;exact⟨W.upd,_,rfl,.inr ⟨F6,_,G,_,_,_,rfl,⟨⟨rfl,rfl,D14.lt,.inr ⟨_,_,rfl,W.own_ge 0 rfl,W.get 0 rfl,D14⟩⟩,c2,by rw[hzA,gh]⟩,hl2⟩⟩
 have F21:(l.length:Int)≠0:=by simpa using J19
 have hposA:0<val l:=wZ c1 (by rintro rfl;simp at F21)
 refine zz 11<|zb 25 (b:=((G.length:Int)==0)) (fun J22=>?_) (fun J22=>?_);have F23:(G.length:Int)=0:=by simpa using J22
 have hzB:val G=0:=by rw[zy (by omega:G.length=0)];rfl
 refine zz 11<|zr' (v:= .tuple #[.slice (some ⟨g8,0,none⟩) l.length P8,.int .i64 0]) ?_;exact⟨W.upd,_,rfl,.inr ⟨F6,_,l,_,_,_,rfl,⟨⟨rfl,rfl,D8.lt,.inr ⟨_,_,rfl,W.own_ge 1 rfl,W.get 1 rfl,D8⟩⟩,c1,by rw[hzB,u4]⟩,hl1⟩⟩
 have F24:(G.length:Int)≠0:=by simpa using J22
 have hposB:0<val G:=wZ c2 (by rintro rfl;simp at F24)
 refine zz 6<|zcE 1 W rfl (zFu _ g8 l.length P8 _ l (W.get 1 rfl) D8 (by omega) c1 hposA) ?_
 rintro v26 w26 ob26 ⟨I,Q26,ls26,rfl,hg26,D26,hcan26,hval26,hodd26⟩ hob26 G26 C26;obtain rfl:=qy (hob26.symm.trans hg26);refine zz 10<|zcE 0 G26 rfl (zFu _ g14 G.length P14 _ G (G26.get 0 rfl) D14 (by omega) c2 hposB) ?_
 rintro v28 w28 ob28 ⟨J,Q28,ls28,rfl,hg28,D28,hcan28,hval28,hodd28⟩ hob28 G28 C28;obtain rfl:=qy (hob28.symm.trans hg28);refine zz 12<|zlp Tryz.f155 [] [1,0,1,1,1,1,1,1,1,0,0] (fun((N,gx,gy,f,q,z,F):Nat×Nat×Nat×Nat×Nat×(List Nat)×(List Nat))=>[(0,.slice (some ⟨gx,0,none⟩) z.length f),(1,.slice (some ⟨gy,0,none⟩) F.length q),(7,.int .i64 ((I:Nat):Int)),(8,.int .i64 ((J:Nat):Int))]) (fun((N,gx,gy,f,q,z,F):Nat×Nat×Nat×Nat×Nat×(List Nat)×(List Nat))w1=>∃(Y1:Hid)(Z:Array Value)(cury:Array Value),St E0 w X w1 Y1 [(gy,.cells cury 214 (0,0)),(gx,.cells Z 214 (0,0))]∧Le (rd w28 (zBo g14 (zBo g8 X))) (rd w1 Y1)∧(qB z.length f Z z)∧(qB F.length q cury F)∧(zX z)∧(zX F)∧(val z % 2=1)∧(val F % 2=1)∧(Nat.gcd (val z) (val F)=Nat.gcd (val ls26) (val ls28))∧(val z+val F=N)∧(z.length≤512)∧(F.length≤512)) (fun((N,gx,gy,f,q,z,F):Nat×Nat×Nat×Nat×Nat×(List Nat)×(List Nat))=>N) ((val ls26+val ls28),g8,g14,P8,P14,ls26,ls28) ?_ ?_;refine⟨_,Q26,Q28,G28,Le.refl _,D26,D28,hcan26,hcan28,hodd26,hodd28,rfl,rfl,qx (qD h.hlt hcan26 (by have:=vg (val ls26) (wk I);omega)) hl1,qx (qD h2.hlt hcan28 (by have:=vg (val ls28) (wk J);omega)) hl2⟩
 rintro⟨N,gx,gy,f,q,z,F⟩ w29 K29 hK29 ⟨Y29,Z,cury,G29,C29,hp29_0,hp29_1,hp29_2,hp29_3,hp29_4,hp29_5,hp29_6,hp29_7,hp29_8,hp29_9⟩;have y:=hp29_0;have C:=hp29_1;have U:=hp29_2;have hcany:=hp29_3;have hoddx:=hp29_4;have hoddy:=hp29_5;have hg0:=hp29_6;have hN:=hp29_7;have hlx:=hp29_8;have hly:=hp29_9;refine zz 6<|zc G29 (zCb _ X0 (qC _) _ _ _ z (qB.limbs (Y:=X0) y (G29.get 1 rfl) (fun _ h=>h.elim)) _ _ _ F (qB.limbs (Y:=X0) C (G29.get 0 rfl) (fun _ h=>h.elim)) U hcany (by omega)) ?_ (vs:=#[.slice (some ⟨gx,0,none⟩) z.length f,.slice (some ⟨gy,0,none⟩) F.length q])
 rintro v31 w31 T C31 N31 rfl;refine zz 9<|zb 40 (b:=((qO (val z) (val F))==0)) (fun J32=>?_) (fun J32=>?_);have F33:(qO (val z) (val F))=0:=by simpa using J32
 have hxy:=fZ F33;refine zz 14<|zs 56 (v:= .int .i64 (if((J:Nat):Int)<((I:Nat):Int)then((J:Nat):Int)else((I:Nat):Int))) (v':= .int .i64 ((min I J:Nat):Int)) (zQ (by split<;>omega))<|zz 4 ?_
 have hgab:=qHc hodd26 hodd28 hval26 hval28;rw[←hg0,←hxy,Nat.gcd_self]at hgab;have hgle:Nat.gcd (val l) (val G)≤val l:=Nat.gcd_le_left _ hposA;refine zlp Tryz.f155 [K29] [1,0,1,1,1,1,1,1,1,1,0,1,0] (fun((i,gd,H,ld):Nat×Nat×Nat×(List Nat))=>[(0,.slice (some ⟨gd,0,none⟩) ld.length H),(56,.int .i64 ((min I J:Nat):Int)),(57,.int .i64 (i:Int))]) (fun(i,gd,H,ld)w1=>∃(Y1:Hid)(curd:Array Value),St E0 w X w1 Y1 [(gd,.cells curd 214 (0,0))]∧Le (rd w31 Y29) (rd w1 Y1)∧(qB ld.length H curd ld)∧(zX ld)∧(val ld=val z*2^i)∧(i≤min I J)) (fun(i,gd,H,ld)=>min I J-i) (0,gx,f,z) ?_ ?_;refine⟨_,Z,T.tail,Le.refl _,y,U,by simp,qq _⟩
 rintro⟨i,gd,H,ld⟩ w34 K34 hK34 ⟨Y34,curd,G34,C34,hp34_0,hp34_1,hp34_2,hp34_3⟩;have hrowd:=hp34_0;have hcand:=hp34_1;have V:=hp34_2;have hik:=hp34_3;have hb1:val z*2^i≤val z*2^(min I J):=vj _ (js (by omega) hik)
 have hb2:=qD h.hlt hcand (by omega:val ld≤val l)
 have hb3:0<ld.length:=by rcases jg ld.length with e | e;rw[zy e]at V;have:=uR (by omega:0<val z) (wk i);simp only[val]at V;omega;exact e
 obtain⟨_,hkb⟩:=zJg hval26 (by omega) (kR h.hlt)
 refine zz 6<|zt 58 (p:=(i:Int)<((min I J:Nat):Int)) (fun F35=>?_) (fun F35=>?_);refine zz 7<|zop (at1 [K29,K34] Tryz.f155 [1,0,1,1,1,1,1,1,1,1,0,1,0,0,1,1,0,0]) 1 (fun a36 _ Z36 hz36=>qCd 0 Z36 G34 rfl (zQt _ gd ld.length H _ ld (G34.get 0 rfl) hrowd (by omega) hcand 0 (by omega)) ?_)
 rintro v37 w37 Y37 g37 o37 ⟨Q37,P37,ls37,rfl,rfl,D37,hlen37,hcan37,hval37⟩ G37 C37 a38 Z38;refine hz36 Z38<|zz 6<|zw 61 (x:=(i:Int)+1)<|zz 2 ?_;refine kU (fun a h=>hK34 ((i+1,g37,P37,ls37)) _ a h ⟨_,Q37,G37,(Le2 C34 C37),D37,hcan37,by rw[hval37,V,ja];simp only[yu];ac_rfl,by omega⟩ ?_)
 first | omega | (simp<;>omega)
 refine zz 15<|zr' (v:= .tuple #[.slice (some ⟨gd,0,none⟩) ld.length H,.int .i64 0]) ?_;exact⟨G34.upd,_,rfl,.inr ⟨F6,_,ld,_,_,_,rfl,⟨⟨rfl,rfl,hrowd.lt,.inr ⟨_,_,rfl,G34.own_ge 0 rfl,G34.get 0 rfl,hrowd⟩⟩,hcand,by rw[V,←hgab];congr 2;omega⟩,by omega⟩⟩
 have F39:(qO (val z) (val F))≠0:=by simpa using J32
 refine zz 7<|zb 42 (b:=((qO (val z) (val F))==(-1))) (fun J40=>?_) (fun J40=>?_);have F41:(qO (val z) (val F))=(-1):=by simpa using J40
 have hcmp:=qNn F41;refine zz 13<|zcE 0 T rfl (pX _ gy F.length q _ F (T.get 0 rfl) C (by omega) _ _ _ z (qB.limbs (Y:=HG gy) y (T.get 1 rfl) (fun o h=>T.ne (i:=1) (j:=0) rfl rfl (by decide) h)) (qD C.lt U (by omega)) (by omega)) ?_ (vs:=#[.slice (some ⟨gy,0,none⟩) F.length q,.slice (some ⟨gx,0,none⟩) z.length f])
 rintro v43 w43 ob43 ⟨Q43,ls43,rfl,hg43,D43,hcan43,hval43⟩ hob43 G43 C43;obtain rfl:=qy (hob43.symm.trans hg43);refine zz 5 ?_;have hz0:=qD C.lt hcan43 (by omega:val ls43≤val F)
 refine zcE 0 G43 rfl (zFu _ gy ls43.length q _ ls43 (G43.get 0 rfl) D43 (by omega) hcan43 (by omega)) ?_
 rintro v45 w45 ob45 ⟨k45,Q45,O,rfl,hg45,D45,hcan45,hval45,hodd45⟩ hob45 G45 C45;obtain rfl:=qy (hob45.symm.trans hg45);refine zz 6 ?_;have hz1:val O*2^k45=val F-val z:=hval45.trans hval43;have hz2:val O≤val O*2^k45:=vg _ (wk _);have hz3:=zRd hoddx (by omega) hz1
 have hz4:=qD C.lt hcan45 (by omega:val O≤val F)
 have J1_:=(Le3 C29 C31 C43).trans C45;refine kU (fun a h=>hK29 (((val O+val z),gy,gx,q,f,O,z)) _ a h ⟨_,Q45,Z,G45.swap,J1_,D45,y,hcan45,U,hodd45,hoddx,by rw[hz3];rw[wh];exact hg0,rfl,by omega,by omega⟩ ?_)
 first | omega | (simp<;>omega)
 have F46:(qO (val z) (val F))≠(-1):=by simpa using J40
 have hcmp:=qXh F39 F46;refine zz 8<|zcE 1 T rfl (pX _ gx z.length f _ z (T.get 1 rfl) y (by omega) _ _ _ F (qB.limbs (Y:=HG gx) C (T.get 0 rfl) (fun o h=>T.ne (i:=0) (j:=1) rfl rfl (by decide) h)) (qD y.lt hcany (by omega)) (by omega)) ?_ (vs:=#[.slice (some ⟨gx,0,none⟩) z.length f,.slice (some ⟨gy,0,none⟩) F.length q])
 rintro v48 w48 ob48 ⟨Q48,ls48,rfl,hg48,D48,hcan48,hval48⟩ hob48 G48 C48;obtain rfl:=qy (hob48.symm.trans hg48);refine zz 5 ?_;have hz0:=qD y.lt hcan48 (by omega:val ls48≤val z)
 refine zcE 1 G48 rfl (zFu _ gx ls48.length f _ ls48 (G48.get 1 rfl) D48 (by omega) hcan48 (by omega)) ?_
 rintro v50 w50 ob50 ⟨k50,Q50,S,rfl,hg50,D50,hcan50,hval50,hodd50⟩ hob50 G50 C50;obtain rfl:=qy (hob50.symm.trans hg50);refine zz 6 ?_;have hz1:val S*2^k50=val z-val F:=hval50.trans hval48;have hz2:val S≤val S*2^k50:=vg _ (wk _);have hz3:=zRd hoddy (by omega) hz1
 have hz4:=qD y.lt hcan50 (by omega:val S≤val z)
 have J2_:=(Le3 C29 C31 C48).trans C50;refine kU (fun a h=>hK29 (((val S+val F),gx,gy,f,q,S,F)) _ a h ⟨_,Q50,cury,G50,J2_,D50,C,hcan50,hcany,hodd50,hoddy,by rw[hz3];exact hg0,rfl,by omega,by omega⟩ ?_)
 first | omega | (simp<;>omega)
section
variable (w:World)(X:Hid)(hX:∀k o,X k o→k<w.heap.size)
set_option maxHeartbeats 1000000
def zDp:ByteArray:=⟨#[0,1,2,2,3,3,3,3,4,4,4,4,4,4,4,4,5,5,5,5,5,5,5,5,5,5,5,5,5,5,5,5,6,6,6,6,6,6,6,6,6,6,6,6,6,6,6,6,6,6,6,6,6,6,6,6,6,6,6,6,6,6,6,6,7,7,7,7,7,7,7,7,7,7,7,7,7,7,7,7,7,7,7,7,7,7,7,7,7,7,7,7,7,7,7,7,7,7,7,7,7,7,7,7,7,7,7,7,7,7,7,7,7,7,7,7,7,7,7,7,7,7,7,7,7,7,7,7,8,8,8,8,8,8,8,8,8,8,8,8,8,8,8,8,8,8,8,8,8,8,8,8,8,8,8,8,8,8,8,8,8,8,8,8,8,8,8,8,8,8,8,8,8,8,8,8,8,8,8,8,8,8,8,8,8,8,8,8,8,8,8,8,8,8,8,8,8,8,8,8,8,8,8,8,8,8,8,8,8,8,8,8,8,8,8,8,8,8,8,8,8,8,8,8,8,8,8,8,8,8,8,8,8,8,8,8,8,8,8,8,8,8,8,8,8,8,8,8,8,8,8,8,8,8,8,8]⟩
theorem qBx:∀n,n<256→(zDp.data[n]?.isSome=true)∧n<2^(zDp.data[n]?.getD 0).toNat∧(zDp.data[n]?.getD 0).toNat≤8:=by decide+kernel
theorem zFw(n:Nat)(h:n<256):∃b:UInt8,zDp[n]?=some b∧n<2^b.toNat∧b.toNat≤8:=by
 obtain⟨q,f,j⟩:=qBx n h;obtain⟨b,hb⟩:=fc.1 q;rw[hb]at f j;refine⟨b,?_,f,j⟩;obtain⟨y,z⟩:=z7.1 hb;have C:n<zDp.size:=y;rw[getElem?_pos zDp n C];exact jh some z
include hX in
theorem qPp(x:Nat)(hx:x<4294967296):Calls Tryz.prog 309 #[.int .u32 (x:Int)] w (Ret E0 w fun _ v=>∃r:Nat,v= .int .i64 (r:Int)∧x<2^r∧r≤32):=by
 refine zen Tryz.func309 ?_;have C:St E0 w X w X []:=St.start hX;refine zz 12<|zt 4 (p:=(x:Int)≥65536) (fun O=>?_) (fun O=>?_);refine zz 5<|zs 6 (v:= .int .u32 (Int.fdiv ((x:Int)) (2^16))) (v':= .int .u32 ((x / 65536:Nat):Int)) (zQ (by rw[wM _ 16 (c:=65536) (by decide) (by decide)];omega))<|zz 14<|zt 8 (p:=((x / 65536:Nat):Int)≥256) (fun S=>?_) (fun S=>?_)
 refine zz 5<|zs 10 (v:= .int .u32 (Int.fdiv (((x / 65536:Nat):Int)) (2^8))) (v':= .int .u32 ((x / 65536 / 256:Nat):Int)) (zQ (by rw[wM _ 8 (c:=256) (by decide) (by decide)];omega))<|zz 14<|zs 15 (v:= .int .u8 (IntKind.u8.wrap (((x / 65536 / 256:Nat):Int)))) (v':= .int .u8 ((x / 65536 / 256:Nat):Int)) (zQ (wu8 (by omega) (by omega))) ?_
 obtain⟨f,j,q,y⟩:=zFw (x / 65536 / 256) (by omega)
 refine zop (at1 [] Tryz.f309 [1,1,1,0]) 3 (fun a4 _ U I=>zE (d:=16) (v:= .int .u8 ((f.toNat:Nat):Int)) U kr (aI (s:=zDp) (i:=(x / 65536 / 256)) rfl kr rfl rfl j) ?_);intro a5 V;refine I V<|zz 1<|zw 17 (x:=((f.toNat:Nat):Int))<|zz 1<|zw 18 (x:=(24:Int)+((f.toNat:Nat):Int))<|zz 4<|zr' (v:= .int .i64 ((24:Int)+((f.toNat:Nat):Int))) ?_;refine⟨C.upd,_,rfl,24+f.toNat,zQ (by omega),?_,by omega⟩
 rw[kn];generalize 2^f.toNat=t at *;omega;refine zz 8<|zs 15 (v:= .int .u8 (IntKind.u8.wrap (((x / 65536:Nat):Int)))) (v':= .int .u8 ((x / 65536:Nat):Int)) (zQ (wu8 (by omega) (by omega))) ?_
 obtain⟨f,j,q,y⟩:=zFw (x / 65536) (by omega)
 refine zop (at1 [] Tryz.f309 [1,1,1,0]) 3 (fun a6 _ W J=>zE (d:=16) (v:= .int .u8 ((f.toNat:Nat):Int)) W kr (aI (s:=zDp) (i:=(x / 65536)) rfl kr rfl rfl j) ?_);intro a7 Z;refine J Z<|zz 1<|zw 17 (x:=((f.toNat:Nat):Int))<|zz 1<|zw 18 (x:=(16:Int)+((f.toNat:Nat):Int))<|zz 4<|zr' (v:= .int .i64 ((16:Int)+((f.toNat:Nat):Int))) ?_;refine⟨C.upd,_,rfl,16+f.toNat,zQ (by omega),?_,by omega⟩
 rw[kn];generalize 2^f.toNat=t at *;omega;refine zz 10<|zt 8 (p:=(x:Int)≥256) (fun T=>?_) (fun T=>?_);refine zz 5<|zs 10 (v:= .int .u32 (Int.fdiv ((x:Int)) (2^8))) (v':= .int .u32 ((x / 256:Nat):Int)) (zQ (by rw[wM _ 8 (c:=256) (by decide) (by decide)];omega))<|zz 14<|zs 15 (v:= .int .u8 (IntKind.u8.wrap (((x / 256:Nat):Int)))) (v':= .int .u8 ((x / 256:Nat):Int)) (zQ (wu8 (by omega) (by omega))) ?_
 obtain⟨f,j,q,y⟩:=zFw (x / 256) (by omega)
 refine zop (at1 [] Tryz.f309 [1,1,1,0]) 3 (fun a9 _ Z9 N=>zE (d:=16) (v:= .int .u8 ((f.toNat:Nat):Int)) Z9 kr (aI (s:=zDp) (i:=(x / 256)) rfl kr rfl rfl j) ?_);intro a10 F;refine N F<|zz 1<|zw 17 (x:=((f.toNat:Nat):Int))<|zz 1<|zw 18 (x:=(8:Int)+((f.toNat:Nat):Int))<|zz 4<|zr' (v:= .int .i64 ((8:Int)+((f.toNat:Nat):Int))) ?_;refine⟨C.upd,_,rfl,8+f.toNat,zQ (by omega),?_,by omega⟩
 rw[kn];generalize 2^f.toNat=t at *;omega;refine zz 8<|zs 15 (v:= .int .u8 (IntKind.u8.wrap ((x:Int)))) (v':= .int .u8 ((x:Nat):Int)) (zQ (wu8 (by omega) (by omega))) ?_
 obtain⟨f,j,q,y⟩:=zFw (x) (by omega)
 refine zop (at1 [] Tryz.f309 [1,1,1,0]) 3 (fun a11 _ G z=>zE (d:=16) (v:= .int .u8 ((f.toNat:Nat):Int)) G kr (aI (s:=zDp) (i:=x) rfl kr rfl rfl j) ?_);intro a12 H;refine z H<|zz 1<|zw 17 (x:=((f.toNat:Nat):Int))<|zz 1<|zw 18 (x:=(0:Int)+((f.toNat:Nat):Int))<|zz 4<|zr' (v:= .int .i64 ((0:Int)+((f.toNat:Nat):Int))) ?_;refine⟨C.upd,_,rfl,0+f.toNat,zQ (by omega),?_,by omega⟩
 rw[kn];generalize 2^f.toNat=t at *;omega
include hX in
theorem qHy(ad:Option Addr)(len cap:Nat)(l:List Nat)(h:zN (rd w X) ad len cap l)(hm:len≤1099511627776):Calls Tryz.prog 298 #[.slice ad len cap] w (Ret E0 w fun _ v=>∃m:Nat,v= .int .i64 (m:Int)∧val l<2^m∧m≤32*l.length):=by
 obtain rfl:=h.hlen;have H:=h.hcap;have G:=h.hbig;refine zen Tryz.func298 ?_;have q:St E0 w X w X []:=St.start hX;refine zz 13<|zb 5 (b:=((l.length:Int)==0)) (fun y=>?_) (fun y=>?_);have S:(l.length:Int)=0:=by simpa using y
 have f:l=[]:=zy (by omega)
 refine zz 8<|zr' (v:= .int .i64 0) ?_;exact⟨q.upd,_,rfl,0,rfl,by rw[f];simp[val],by omega⟩
 have T:(l.length:Int)≠0:=by simpa using y
 obtain⟨z,j,rfl,_⟩:=h.addr (by omega)
 have I:=h.getD_lt (l.length-1);refine zz 8<|zw 8 (x:=(l.length:Int)-1)<|zz 1<|zw 9 (x:=(32:Int)*((l.length:Int)-1))<|zz 4<|zw 13 (x:=(l.length:Int)-1)<|zi (b:=z) (off:=j) (len:=l.length) (cap:=cap) (kd:= .i64) (i:=(l.length:Int)-1) 1 (j+(l.length-1)) ?_ (hoff:=(by first | omega | (simp;done) | (simp;omega)))
 refine zl ((h.cell (i:=(l.length-1)) (by omega)).mono (Le.refl _)).cells<|zc q (qPp _ _ q.lt (l.getD (l.length-1) 0) (by omega)) ?_
 rintro V W J O U ⟨F,rfl,C,N⟩;refine zz 1<|zw 17 (x:=((32:Int)*((l.length:Int)-1))+(F:Int))<|zz 4<|zr' (v:= .int .i64 (((32:Int)*((l.length:Int)-1))+(F:Int))) ?_;exact⟨J.upd,_,rfl,32*(l.length-1)+F,zQ (by omega),qPq l h.hlt _ (by omega) C,by omega⟩
include hX in
theorem qFw(ad:Option Addr)(f cap:Nat):Calls Tryz.prog 284 #[.slice ad f cap] w (Ret E0 w fun C v=>∃q,v= .func (.func 297) #[] #[.pointer (some ⟨q,0,none⟩)]∧w.heap.size≤q∧C.heap[q]?=some (.cells #[.slice ad f cap] 26 (0,0))):=by
 refine zen Tryz.func284 ?_;have y:St E0 w X w X []:=St.start hX;refine zz 2<|zn pn (.cells #[.slice ad f cap] 26 (0,0)) y fun z I H j F G=>zz 10<|zr' (v:= .func (.func 297) #[] #[.pointer (some ⟨z,0,none⟩)]) ?_;exact⟨j.upd,_,rfl,_,rfl,j.own_ge 0 rfl,j.get 0 rfl⟩
theorem qBl(l H:Nat)(ad:Option Addr)(len cap:Nat)(y:List Nat)(hbig:len≤1099511627776)(J:Nat→World→Prop)(R:World→Prop)(w:World)(q:zN (rd w X0) ad len cap y)
    (S:∀k w,J k w→At (rd w X0) ⟨H,0,none⟩ [.slice ad len cap])
    (hel:∀k w,J (k+1) w→k / 32<len→∃b off,ad=some ⟨b,off,none⟩∧At (rd w X0) ⟨b,off+k / 32,none⟩ [.int .u32 ((y.getD (k / 32) 0:Nat):Int)])
    (hY:∀k w,k<32*len→J (k+1) w→YieldAt (FF none) 0 Tryz.prog l #[.int .i64 (k:Int),.int .u32 ((val y / 2^k % 2:Nat):Int)] w (vE (J k) R))
    (h0:∀w,J 0 w→R w) (hbx:At (rd w X0) ⟨H,0,none⟩ [.slice ad len cap]) (hJ:∀m w',Upd E0 w w'→val y<2^m→m≤32*y.length→J m w'):Calls Tryz.prog 297 #[.func (.yield l) #[] #[],.pointer (some ⟨H,0,none⟩)] w (fun e w'=>(∃v,e= .returned v)∧R w'):=by
 obtain rfl:=q.hlen;refine zFv (n:=24) (vs:=[.func (.yield l) #[] #[],.pointer (some ⟨H,0,none⟩)]) Tryz.func297 rfl rfl rfl kr (fun a0 Z0=>?_);have Z0:Fr 24 a0 [(0,.func (.yield l) #[] #[]),(1,.pointer (some ⟨H,0,none⟩))]:=Z0;have G0:St E0 w X0 w X0 []:=St.start (qC _);refine zG (fun K1 hK1=>?_);refine zC ?_;refine qY Z0 kr (zE (d:=4) (v:= .slice ad y.length cap) Z0 kr (zB (t:=26) (g:=false) (vs:=[.slice ad y.length cap]) (ad:=⟨H,0,none⟩) rfl kr kr ir (hbx).cells) ?_);intro a2 Z2;refine qY Z2 kr (kI (d:=5) (f:=298) (cap:=#[]) (vs:=#[.slice ad y.length cap]) Z2 kr G0 rfl kr kr (fun w=>Tryz.call298 _ w) (qHy _ X0 (qC _) _ _ _ y q (by omega)) ?_)
 rintro v3 w3 G3 C3 N3 ⟨m,rfl,hm1,hm2⟩ a4 Z4;refine zD 1 [(6,.int .i64 (i64.wrap ((m:Int)-1)))] Z4 kr kr (fun a5 Z5=>?_);have Z6:=Z5.set 6 (v':= .int .i64 ((m:Int)-1)) kr rfl (zQ (zAs (by omega) (by omega)))
 refine zD 1 [(3,.int .i64 ((m:Int)-1))] Z6 kr kr (fun a7 Z7=>?_);refine zH<|zA (hK1 _ _ ?_);refine kH ?_;refine lZ (fun(k:Nat)a w1=>Fr 24 a [(0,.func (.yield l) #[] #[]),(1,.pointer (some ⟨H,0,none⟩)),(3,.int .i64 ((k:Int)-1))]∧J k w1∧k≤32*y.length) (fun k=>k) m ?_ ?_
 ·
  exact⟨Z7.as [0,1,3] kr kr,hJ m _ N3 hm1 hm2,hm2⟩
 rintro k a8 w8 ⟨Z8,G,hk⟩;have G8:St E0 w8 X0 w8 X0 []:=St.start (qC _);refine zG (fun K9 hK9=>?_);refine zG (fun K10 hK10=>?_);refine zC<|zD 2 [(8,.bool (decide (((k:Int)-1)≥0))),(7,.int .i64 ((k:Int)-1))] Z8 kr kr (fun a11 I=>?_);refine zH<|zA (hK10 _ _ ?_);refine nX (decide (((k:Int)-1)≥0)) I kr kr (fun C=>?_) (fun C=>?_)
 ·
  have Z13:=I.set 8 (v':= .bool true) kr rfl (zK C);have F14:((k:Int)-1)≥0:=qu C;obtain⟨j,rfl⟩:∃j,k=j+1:=⟨k-1,by omega⟩
  have Z15:=Z13.set 3 (v:= .int .i64 (((j+1:Nat):Int)-1)) (v':= .int .i64 (j:Int)) kr kr (zQ (by omega))
  obtain⟨b,off,rfl,hel1⟩:=hel j _ G (by omega)
  have hltj:y.getD (j / 32) 0<4294967296:=q.getD_lt _;refine tF<|zA (hK9 _ _ ?_);refine zG (fun K16 hK16=>?_);refine kH<|zG (fun K17 hK17=>?_);refine zC<|zD 2 [(12,.int .i64 (j:Int)),(11,.func (.yield l) #[] #[])] Z15 kr kr (fun a18 T=>?_);refine qY T kr (zE (d:=13) (v:= .slice (some ⟨b,off,none⟩) y.length cap) T kr (zB (t:=26) (g:=false) (vs:=[.slice (some ⟨b,off,none⟩) y.length cap]) (ad:=⟨H,0,none⟩) rfl kr kr ir ((S _ _ G)).cells) ?_);intro a19 Z19;refine zD 2 [(15,.int .i64 (i64.wrap (Int.tdiv ((j:Int)) (32)))),(14,.int .i64 (j:Int))] Z19 kr kr (fun a20 Z20=>?_);have U:=Z20.set 15 (v':= .int .i64 ((j / 32:Nat):Int)) kr rfl (zQ (cK _ (by omega)))
  refine qY U kr (zE (d:=16) (v:= .pointer (some ⟨b,off+j / 32,none⟩)) U kr (jD (t:=26) (e:=214) (b:=b) (off:=off) (len:=y.length) (cap:=cap) (kd:= .i64) (i:=((j / 32:Nat):Int)) (g:=false) (m:=1) (off':=off+j / 32) rfl kr kr kr kr (by omega) (by omega) (by first | rfl | omega | (simp;done) | (simp;omega)) _) ?_)
  intro a22 V;refine qY V kr (zE (d:=17) (v:= .int .u32 ((y.getD (j / 32) 0:Nat):Int)) V kr (zB (t:=214) (g:=false) (vs:=[.int .u32 ((y.getD (j / 32) 0:Nat):Int)]) (ad:=⟨b,off+j / 32,none⟩) rfl kr kr ir (hel1).cells) ?_);intro a23 Z23;refine zD 2 [(19,.int .i64 (Int.tmod ((j:Int)) (32))),(18,.int .i64 (j:Int))] Z23 kr kr (fun a24 Z24=>?_);have W:=Z24.set 19 (v':= .int .i64 ((j % 32:Nat):Int)) kr rfl (zQ (zEh _));refine qY W kr (zE (d:=20) (v:= .int .u32 ((y.getD (j / 32) 0 / 2^(j % 32):Nat):Int)) W kr (qKz rfl rfl rfl (by omega)) ?_)
  intro a26 Z26;refine zD 1 [(21,.int .u32 (wY ((y.getD (j / 32) 0 / 2^(j % 32):Nat):Int) 1))] Z26 kr kr (fun a27 Z27=>?_);have Z28:=Z27.set 21 (v':= .int .u32 ((val y / 2^j % 2:Nat):Int)) kr rfl (zQ ((zQh _ (ju (wj _ _) hltj)).trans (by rw[zGv y q.hlt j (by omega)])))
  refine zMp (d:=22) (l:=l) (vs:=#[.int .i64 (j:Int),.int .u32 ((val y / 2^j % 2:Nat):Int)]) Z28 kr rfl kr kr (hY j _ (by omega) G) (fun _ _ h=>h.ret) ?_
  rintro v29 w29 ⟨z,hv29,Z,hR29⟩ a30 Z30;cases hv29;have G29:St E0 w29 X0 w29 X0 []:=St.start (qC _);refine zD 1 [(23,.bool (!z))] Z30 kr kr (fun a31 N=>?_);refine zH<|zA (hK17 _ _ ?_);refine nX (!z) N kr kr (fun F=>?_) (fun F=>?_)
  ·
   have Z33:=N.set 23 (v':= .bool true) kr rfl (zK F);have F34:z=false:=by simpa using F
   have O:=F34;refine mY ?_;refine bF ?_;refine lS ?_;refine lS ?_;refine bF<|zXm (v:= .tuple #[]) (rs:=[]) Z33 kr Res.nil kr ?_;exact⟨⟨_,rfl⟩,(hR29 O)⟩
  have Z35:=N.set 23 (v':= .bool false) kr rfl (zK F);have F36:z=true:=by simpa using F
  have O:=F36;refine tF ?_;refine yU<|zA (hK16 _ _ ?_);refine zC<|zD 2 [(10,.int .i64 (i64.wrap ((j:Int)-1))),(9,.int .i64 (j:Int))] Z35 kr kr (fun a37 Z37=>?_);have Z38:=Z37.set 10 (v':= .int .i64 ((j:Int)-1)) kr rfl (zQ (zAs (by omega) (by omega)))
  refine zD 1 [(3,.int .i64 ((j:Int)-1))] Z38 kr kr (fun a39 Z39=>?_);refine zH<|zA ?_;exact⟨j,⟨Z39.as [0,1,3] kr kr,Z O,by omega⟩,by show j<j+1;omega⟩
 have Z40:=I.set 8 (v':= .bool false) kr rfl (zK C);have F41:¬(((k:Int)-1)≥0):=kh C;have hk0:k=0:=by omega
 refine zAc ?_;refine rU ?_;refine rU ?_;refine mU<|zQj (v:= .tuple #[]) (rs:=[]) Z40 kr Res.nil kr ?_;exact⟨⟨_,rfl⟩,(h0 _ (hk0▸G))⟩
end
set_option maxHeartbeats 1000000
theorem zBc{x y:Nat}(h:qO (x:Int) (y:Int)≥0):y≤x:=zQo (by omega)
theorem dA{x y:Nat}(h:¬qO (x:Int) (y:Int)≥0):x<y:=zQp (by omega)
theorem qFz(w:World)(X:Hid)(hX:∀k o,X k o→k<w.heap.size)(ad:Option Addr)(len cap:Nat)(l:List Nat)(h:zN (rd w X) ad len cap l)(H:Option Addr)(len2 P2:Nat)(J:List Nat)(h2:zN (rd w X) H len2 P2 J)(J1:zX l)(J2:zX J)(hl1:len≤512)(hl2:len2≤512)(hd:0<val J):Calls Tryz.prog 268 #[.slice ad len cap,.slice H len2 P2] w (Ret E0 w fun w' v=>∃u u2 lq lr ad len cap H len2 P2,v= .tuple #[u,u2]∧zAu 214 w w' u lq ad len cap (val l / val J)∧zAu 214 w w' u2 lr H len2 P2 (val l % val J)):=by
 obtain rfl:=h.hlen;obtain rfl:=h2.hlen;have hcap:=h.hcap;have hbig:=h.hbig;have hcap2:=h2.hcap;have hbig2:=h2.hbig;refine zOe (n:=38) (vs:=[.slice ad l.length cap,.slice H J.length P2]) Tryz.func268 rfl rfl rfl kr (fun a0 Z0=>?_);have Z0:Fr 38 a0 [(0,.slice ad l.length cap),(1,.slice H J.length P2)]:=Z0;have G0:St E0 w X w X []:=St.start hX;refine zG (fun K1 hK1=>?_);refine zC ?_;refine qY Z0 kr (gJ (d:=3) (fun b=> .pointer (some ⟨b,0,none⟩)) (.cells #[.slice H J.length P2] 26 (0,0)) Z0 kr G0 kw ?_);intro b2 w2 Y2 G2 C2 N2 a3 Z3;refine qY Z3 kr (gJ (d:=4) (fun b=> .pointer (some ⟨b,0,none⟩)) (.cells #[.slice none 0 0] 26 (0,0)) Z3 kr G2 kw ?_);intro b4 w4 Y4 G4 C4 N4 a5 Z5;refine qY Z5 kr (gJ (d:=5) (fun b=> .pointer (some ⟨b,0,none⟩)) (.cells #[.slice none 0 0] 26 (0,0)) Z5 kr G4 kw ?_);intro b6 w6 Y6 G6 C6 N6 a7 Z7;refine zH<|zA (hK1 _ _ ?_);refine zG (fun K8 hK8=>?_);refine zC<|zD 2 [(9,.int .i64 (l.length:Int)),(8,.slice ad l.length cap)] Z7 kr kr (fun a9 Z9=>?_);refine qY Z9 kr (zZf (d:=10) (t:=26) (e:=214) (m:=l.length) (l:=(l.length:Int)) (z:= .int .u32 0) (i0:=Tryz.t214) Z9 kr G6 rfl kr (by first | rfl | omega) kr kr kr kr kr (by show 4*_≤_;omega) (by omega) ?_)
 intro C w10 Y10 G10 C10 N10 a11 Z11;have D10:=qB.zeros l.length (by simp only[maxLen];omega)
 refine qY Z11 kr (zF (t:=26) (b:=b4) (off:=0) (c':=#[.slice (some ⟨C,0,none⟩) l.length l.length]) (g:=false) (m:=1) 2 _ Z11 kr G10 rfl kr rfl kr kr kr rfl (by first | decide | (simp;done)) kr rfl ?_)
 intro w12 G12 C12;refine zH<|zA (hK8 _ _ ?_);refine zG (fun K13 hK13=>?_);refine zG (fun K14 hK14=>?_);refine zC<|zD 1 [(11,.slice ad l.length cap)] Z11 kr kr (fun a15 Z15=>?_);refine qY Z15 kr (kI (d:=12) (f:=284) (cap:=#[]) (vs:=#[.slice ad l.length cap]) Z15 kr G12 rfl kr kr (fun w=>Tryz.call284 _ w) (qFw _ _ G12.lt ad l.length cap) ?_);rintro v16 w16 G16 C16 N16 ⟨bx16,rfl,hge16,hget16⟩ a17 Z17;have G18:=St.adopt G16 (fun o h=>ku.2 hge16 (G12.lt _ _ h)) (qx G12.upd.size hge16) hget16;have C18:=Le.adopt C16 hge16;refine zH<|zA (hK14 _ _ ?_);refine kH<|zHh (f:=297) (caps:=#[.pointer (some ⟨bx16,0,none⟩)]) Z17 G18 kr kr (fun args w=>Tryz.call297 args w) fun rec19 l19 b19 w19 Y19 W G19 C19 N19=>?_;have Z20:=zDf b19 Z17;refine qBl l19 bx16 ad l.length cap l (by omega) (fun k w'=>∃(Y':Hid)(S:Array Value)(lq:List Nat)(rb:List (Nat×Obj))(adr:Option Addr)(F:Nat)(lr:List Nat)(q:Nat),St E0 w X w' Y' ((l19,.loop rec19)::(b19,.deferred (some []))::(bx16,.cells #[.slice ad l.length cap] 26 (0,0))::(C,.cells S 214 (0,0))::(b6,.cells #[.slice adr lr.length F] 26 (0,0))::(b4,.cells #[.slice (some ⟨C,0,none⟩) l.length l.length] 26 (0,0))::(b2,.cells #[.slice H J.length P2] 26 (0,0))::rb)∧Le (rd w19 Y19) (rd w' Y')∧(qB l.length l.length S lq)∧(RSt 214 rb adr F lr)∧(zX lr)∧(val lq=2^k*q)∧(val l / 2^k=q*val J+val lr)∧(val lr<val J)) _ _ ((h.mono (Le7 C2 C4 C6 C10 C12 C18 C19)).mono Le.x0) ?_ ?_ ?_ ?_ (G19.at0 2 rfl rfl) ?_
 rintro k w21 ⟨Y21,S,lq,rb,adr,F,lr,q,G21,C21,hp21_0,hp21_1,hp21_2,hp21_3,hp21_4,hp21_5⟩;exact G21.at0 2 rfl rfl;rintro k w22 ⟨Y22,S,lq,rb,adr,F,lr,q,G22,C22,hp22_0,hp22_1,hp22_2,hp22_3,hp22_4,hp22_5⟩;intro hk;obtain⟨b,off,rfl,_⟩:=h.addr (by omega)
 exact⟨b,off,rfl,((h.cell (i:=k / 32) (by omega)).mono (Le8 C2 C4 C6 C10 C12 C18 C19 C22)).mono Le.x0⟩
 intro k w23 hk;rintro⟨Y23,S,lq,rb,adr,F,lr,q,G23,C23,hp23_0,hp23_1,hp23_2,hp23_3,hp23_4,hp23_5⟩;refine zJm (p:=13) (q:=14) W Z17 G23 kr kr (fun a24 Z24=>?_);have hkl:k / 32<l.length:=by omega
 have j:=hp23_0;have hrst:=hp23_1;have hcanlr:=hp23_2;have hvq:=hp23_3;have hdiv:=hp23_4;have hlt:=hp23_5;rcases hrst with⟨rfl,rfl,rfl,rfl⟩ | ⟨gr,curr,rfl,rfl,hrowr⟩
 refine zG (fun K25 hK25=>?_);refine zC<|zD 1 [(6,.int .i64 (k:Int))] Z24 kr kr (fun a26 Z26=>?_);refine zH<|zA (hK25 _ _ ?_);refine zC<|zD 1 [(7,.int .u32 ((val l / 2^k % 2:Nat):Int))] Z26 kr kr (fun a27 Z27=>?_);refine zH<|zA<|zCv W G23 (fun w28 G28 C28=>?_);refine kH<|zG (fun K29 hK29=>?_);refine zC ?_;refine qY Z27 kr (zE (d:=15) (v:= .slice none 0 0) Z27 kr (zB (t:=26) (g:=false) (vs:=[.slice none 0 0]) (ad:=⟨b6,0,none⟩) rfl kr kr ir (G28.cells 4 rfl rfl)) ?_);intro a30 Z30;refine zD 1 [(16,.int .u32 ((val l / 2^k % 2:Nat):Int))] Z30 kr kr (fun a31 Z31=>?_);refine qY Z31 kr (kI (d:=17) (f:=227) (cap:=#[]) (vs:=#[.slice none 0 0,.int .u32 ((val l / 2^k % 2:Nat):Int)]) Z31 kr G28 rfl kr kr (fun w=>Tryz.call227 _ w) (zUu _ X0 (qC _) (val l / 2^k % 2) (by omega)) ?_)
 rintro v32 w32 G32 C32 N32 ⟨G,ad32,zHl,P32,⟨⟨rfl,hl32,hlt32,ho32⟩,hcan32,hval32⟩,hlen32⟩ a33 Z33;have hx32:val G=2*val ([]:List Nat)+val l / 2^k % 2:=by simp only[val];omega
 rcases ho32 with⟨rfl,rfl,rfl⟩ | ⟨U,Q32,rfl,hge32,hget32,D32⟩
 have hn32:G=[]:=zy hl32.symm;subst hn32;refine qY Z33 kr (zF (t:=26) (b:=b6) (off:=0) (c':=#[.slice none 0 0]) (g:=false) (m:=1) 4 _ Z33 kr G32 rfl kr rfl kr kr kr rfl (by first | decide | (simp;done)) kr rfl ?_)
 intro w36 G36 C36;refine zH<|zA (hK29 _ _ ?_);refine zG (fun K37 hK37=>?_);refine zC ?_;refine qY Z33 kr (zE (d:=18) (v:= .slice none 0 0) Z33 kr (zB (t:=26) (g:=false) (vs:=[.slice none 0 0]) (ad:=⟨b6,0,none⟩) rfl kr kr ir (G36.cells 4 rfl rfl)) ?_);intro a38 Z38;refine qY Z38 kr (zE (d:=19) (v:= .slice H J.length P2) Z38 kr (zB (t:=26) (g:=false) (vs:=[.slice H J.length P2]) (ad:=⟨b2,0,none⟩) rfl kr kr ir (G36.cells 6 rfl rfl)) ?_);intro a39 Z39;refine qY Z39 kr (kI (d:=20) (f:=225) (cap:=#[]) (vs:=#[.slice none 0 0,.slice H J.length P2]) Z39 kr G36 rfl kr kr (fun w=>Tryz.call225 _ w) (zCb _ X0 (qC _) _ _ _ ([]) (zN.nil none (by omega)) _ _ _ J ((h2.mono (qMp C2 C4 C6 C10 C12 C18 C19 C23 C28 C32 C36)).mono Le.x0) (.inl rfl) J2 (by omega)) ?_)
 rintro v40 w40 G40 C40 N40 rfl a41 Z41;refine zD 1 [(21,.bool (decide ((qO (val ([])) (val J))≥0)))] Z41 kr kr (fun a42 Z42=>?_);refine zH<|zA (hK37 _ _ ?_);refine nX (decide ((qO (val ([])) (val J))≥0)) Z42 kr kr (fun J43=>?_) (fun J43=>?_);have Z44:=Z42.set 21 (v':= .bool true) kr rfl (zK J43);have F45:(qO (val ([])) (val J))≥0:=qu J43;have V:=zBc F45;simp only[val]at V;omega;have Z46:=Z42.set 21 (v':= .bool false) kr rfl (zK J43);have F47:¬((qO (val ([])) (val J))≥0):=kh J43;have V:=dA F47;refine tF ?_;refine yU ?_;refine fA W G40 (fun w48 G48 C48=>vE.next ?_);exact⟨_,S,lq,[],none,0,[],(2*q),G48,(Le6 C23 C28 C32 C36 C40 C48),j,.inl ⟨rfl,rfl,rfl,rfl⟩,(.inl rfl),by rw[hvq,ja];ac_rfl,qFy hdiv hx32,V⟩
 subst hl32;have G34:=St.adopt G32 (fun o h=>ku.2 hge32 (G28.lt _ _ h)) (qx G28.upd.size hge32) hget32;have C34:=Le.adopt C32 hge32;have G35:=St.mid (B:=[]) [(l19,.loop (zQi rec19)),(b19,.deferred (some [])),(bx16,.cells #[.slice ad l.length cap] 26 (0,0)),(C,.cells S 214 (0,0)),(b6,.cells #[.slice none 0 0] 26 (0,0)),(b4,.cells #[.slice (some ⟨C,0,none⟩) l.length l.length] 26 (0,0)),(b2,.cells #[.slice H J.length P2] 26 (0,0))] G34;have C35:Le (rd w32 (zBo U Y23)) (rd w32 (zBo U Y23)):=Le.refl _;refine qY Z33 kr (zF (t:=26) (b:=b6) (off:=0) (c':=#[.slice (some ⟨U,0,none⟩) G.length P32]) (g:=false) (m:=1) 4 _ Z33 kr G35 rfl kr rfl kr kr kr rfl (by first | decide | (simp;done)) kr rfl ?_)
 intro w49 G49 C49;refine zH<|zA (hK29 _ _ ?_);refine zG (fun K50 hK50=>?_);refine zC ?_;refine qY Z33 kr (zE (d:=18) (v:= .slice (some ⟨U,0,none⟩) G.length P32) Z33 kr (zB (t:=26) (g:=false) (vs:=[.slice (some ⟨U,0,none⟩) G.length P32]) (ad:=⟨b6,0,none⟩) rfl kr kr ir (G49.cells 4 rfl rfl)) ?_);intro a51 Z51;refine qY Z51 kr (zE (d:=19) (v:= .slice H J.length P2) Z51 kr (zB (t:=26) (g:=false) (vs:=[.slice H J.length P2]) (ad:=⟨b2,0,none⟩) rfl kr kr ir (G49.cells 6 rfl rfl)) ?_);intro a52 Z52;refine qY Z52 kr (kI (d:=20) (f:=225) (cap:=#[]) (vs:=#[.slice (some ⟨U,0,none⟩) G.length P32,.slice H J.length P2]) Z52 kr G49 rfl kr kr (fun w=>Tryz.call225 _ w) (zCb _ X0 (qC _) _ _ _ G (qB.limbs (Y:=X0) D32 (G49.get 7 rfl) (fun _ h=>h.elim)) _ _ _ J ((h2.mono (qVx C2 C4 C6 C10 C12 C18 C19 C23 C28 C34 C35 C49)).mono Le.x0) hcan32 J2 (by omega)) ?_)
 rintro v53 w53 G53 C53 N53 rfl a54 Z54;refine zD 1 [(21,.bool (decide ((qO (val G) (val J))≥0)))] Z54 kr kr (fun a55 Z55=>?_);refine zH<|zA (hK50 _ _ ?_);refine nX (decide ((qO (val G) (val J))≥0)) Z55 kr kr (fun J56=>?_) (fun J56=>?_);have Z57:=Z55.set 21 (v':= .bool true) kr rfl (zK J56);have F58:(qO (val G) (val J))≥0:=qu J56;have V:=zBc F58;obtain⟨hset1,hset2,hset3⟩:=zPg lq j.lt k q (by rw[j.len];exact hkl) hvq
 refine zG (fun K59 hK59=>?_);refine zC ?_;refine qY Z57 kr (zE (d:=22) (v:= .slice (some ⟨U,0,none⟩) G.length P32) Z57 kr (zB (t:=26) (g:=false) (vs:=[.slice (some ⟨U,0,none⟩) G.length P32]) (ad:=⟨b6,0,none⟩) rfl kr kr ir (G53.cells 4 rfl rfl)) ?_);intro a60 Z60;refine qY Z60 kr (zE (d:=23) (v:= .slice H J.length P2) Z60 kr (zB (t:=26) (g:=false) (vs:=[.slice H J.length P2]) (ad:=⟨b2,0,none⟩) rfl kr kr ir (G53.cells 6 rfl rfl)) ?_);intro a61 Z61;refine qY Z61 kr (zBy (d:=24) (f:=226) (cap:=#[]) (vs:=#[.slice (some ⟨U,0,none⟩) G.length P32,.slice H J.length P2]) 7 Z61 kr G53 rfl kr kr (fun w=>Tryz.call226 _ w) rfl (pX _ U G.length P32 _ G (G53.get 7 rfl) D32 (by omega) _ _ _ J ((h2.mono (Le13 C2 C4 C6 C10 C12 C18 C19 C23 C28 C34 C35 C49 C53)).mono (G53.leHG 7 rfl)) (qD D32.lt J2 (by omega)) (by omega)) ?_)
 rintro v62 w62 ob62 ⟨Q62,ls62,rfl,hg62,D62,hcan62,hval62⟩ hob62 G62 C62 a63 Z63;obtain rfl:=qy (hob62.symm.trans hg62);refine qY Z63 kr (zF (t:=26) (b:=b6) (off:=0) (c':=#[.slice (some ⟨U,0,none⟩) ls62.length P32]) (g:=false) (m:=1) 4 _ Z63 kr G62 rfl kr rfl kr kr kr rfl (by first | decide | (simp;done)) kr rfl ?_)
 intro w64 G64 C64;refine zH<|zA (hK59 _ _ ?_);refine bR (N:=11) (kK [(⟨b4,0,none⟩,[.slice (some ⟨C,0,none⟩) l.length l.length]),(⟨C,k / 32,none⟩,[.int .u32 ((lq.getD (k / 32) 0:Nat):Int)])]) [10] kr kr kr G64 ?_;intro w65 G65 C65 N65;refine lT (kK.cons (G65.cells 5 rfl rfl) (kK.cons (G65.rowCells 3 rfl j (by have:=j.len;(try simp only[q6]at *);omega)) (kK.nil _))) (fun T=>?_)
 refine mI (d:=25) (v:= .slice (some ⟨C,0,none⟩) l.length l.length) 0 Z63 rfl kr kr kr (fun w hw=>zB (t:=26) (g:=false) (vs:=[.slice (some ⟨C,0,none⟩) l.length l.length]) (ad:=⟨b4,0,none⟩) rfl kr kr ir (hw.get 0 kr)) T ?_;intro a66 Z66;refine zJ (d:=26) (v:= .int .i64 (k:Int)) 1 Z66 rfl kr kr kw (fun _=>T) fun a67 Z67=>zJ (d:=27) (v:= .int .i64 (i64.wrap (Int.tdiv ((k:Int)) (32)))) 2 Z67 rfl kr kr kw (fun _=>T) fun a68 Z68=>?_;have Z69:=Z68.set 27 (v':= .int .i64 ((k / 32:Nat):Int)) kr rfl (zQ (cK _ (by omega)))
 refine zJ (d:=28) (v:= .pointer (some ⟨C,k / 32,none⟩)) 3 Z69 rfl kr kr (fun w=>jD (t:=26) (e:=214) (b:=C) (off:=0) (len:=l.length) (cap:=l.length) (kd:= .i64) (i:=((k / 32:Nat):Int)) (g:=false) (m:=1) (off':=k / 32) rfl kr kr kr kr (by omega) (by omega) (by first | rfl | omega | (simp;done) | (simp;omega)) w) (fun _=>T) fun a70 Z70=>?_
 refine mI (d:=29) (v:= .int .u32 ((lq.getD (k / 32) 0:Nat):Int)) 4 Z70 rfl kr kr kr (fun w hw=>zB (t:=214) (g:=false) (vs:=[.int .u32 ((lq.getD (k / 32) 0:Nat):Int)]) (ad:=⟨C,k / 32,none⟩) rfl kr kr ir (hw.get 1 kr)) T ?_;intro a71 Z71;refine zJ (d:=30) (v:= .int .i64 (k:Int)) 5 Z71 rfl kr kr kw (fun _=>T) fun a72 Z72=>zJ (d:=31) (v:= .int .i64 (Int.tmod ((k:Int)) (32))) 6 Z72 rfl kr kr kw (fun _=>T) fun a73 Z73=>?_;have Z74:=Z73.set 31 (v':= .int .i64 ((k % 32:Nat):Int)) kr rfl (zQ (zEh _));refine zJ (d:=32) (v:= .int .u32 ((2^(k % 32):Nat):Int)) 7 Z74 rfl kr kr (fun w=>zTb rfl rfl rfl (by omega)) (fun _=>T) fun a75 Z75=>zJ (d:=33) (v:= .int .u32 (rY ((lq.getD (k / 32) 0:Nat):Int) ((2^(k % 32):Nat):Int))) 8 Z75 rfl kr kr kw (fun _=>T) fun a76 Z76=>?_
 have Z77:=Z76.set 33 (v':= .int .u32 ((lq.getD (k / 32) 0+2^(k % 32):Nat):Int)) kr rfl (zQ hset1);refine zJ (d:=34) (v:= .pointer (some ⟨C,k / 32,none⟩)) 9 Z77 rfl kr kr (fun w=>jD (t:=26) (e:=214) (b:=C) (off:=0) (len:=l.length) (cap:=l.length) (kd:= .i64) (i:=((k / 32:Nat):Int)) (g:=false) (m:=1) (off':=k / 32) rfl kr kr kr kr (by omega) (by omega) (by first | rfl | omega | (simp;done) | (simp;omega)) w) (fun _=>T) fun a78 Z78=>?_
 refine tQ [10] kr rfl ?_;refine yM.cons (i:=10) Z78 rfl kr (lK (t:=214) (y:=(lq.getD (k / 32) 0+2^(k % 32))) (k:=k / 32) (e:=((lq.getD (k / 32) 0+2^(k % 32):Nat):Int)) 3 Z78 kr G65 rfl rfl rfl (rfl) kr rfl j (by have:=j.len;(try simp only[q6]at *);omega) (hset2) ?_) yM.nil
 intro Q79 w79 D79 G79 C79;refine⟨mQ kr,?_⟩;refine zEg kr (nrm ?_);refine yU ?_;refine fA W G79 (fun w80 G80 C80=>vE.next ?_);exact⟨_,Q79,(lq.set (k / 32) (lq.getD (k / 32) 0+2^(k % 32))),[(U,.cells Q62 214 (0,0))],(some ⟨U,0,none⟩),P32,ls62,(2*q+1),G80,(qMp C23 C28 C34 C35 C49 C53 C62 C64 C65 C79 C80),D79,.inr ⟨_,_,rfl,rfl,D62⟩,hcan62,by rw[hset3,hvq,ja,yp,y9];congr 1;ac_rfl,qNx hdiv (hval62.trans (by rw[hx32])) (by omega),by have:=hval62;omega⟩
 have Z81:=Z55.set 21 (v':= .bool false) kr rfl (zK J56);have F82:¬((qO (val G) (val J))≥0):=kh J56;have V:=dA F82;refine tF ?_;refine yU ?_;refine fA W G53 (fun w83 G83 C83=>vE.next ?_);exact⟨_,S,lq,[(U,.cells Q32 214 (0,0))],(some ⟨U,0,none⟩),P32,G,(2*q),G83,(Le7 C23 C28 C34 C35 C49 C53 C83),j,.inr ⟨_,_,rfl,rfl,D32⟩,hcan32,by rw[hvq,ja];ac_rfl,qFy hdiv hx32,V⟩
 refine zG (fun K84 hK84=>?_);refine zC<|zD 1 [(6,.int .i64 (k:Int))] Z24 kr kr (fun a85 Z85=>?_);refine zH<|zA (hK84 _ _ ?_);refine zC<|zD 1 [(7,.int .u32 ((val l / 2^k % 2:Nat):Int))] Z85 kr kr (fun a86 Z86=>?_);refine zH<|zA<|zCv W G23 (fun w87 G87 C87=>?_);refine kH<|zG (fun K88 hK88=>?_);refine zC ?_;refine qY Z86 kr (zE (d:=15) (v:= .slice (some ⟨gr,0,none⟩) lr.length F) Z86 kr (zB (t:=26) (g:=false) (vs:=[.slice (some ⟨gr,0,none⟩) lr.length F]) (ad:=⟨b6,0,none⟩) rfl kr kr ir (G87.cells 4 rfl rfl)) ?_);intro a89 Z89;refine zD 1 [(16,.int .u32 ((val l / 2^k % 2:Nat):Int))] Z89 kr kr (fun a90 Z90=>?_);have hlnr:=qD h2.hlt hcanlr (uH hlt);refine qY Z90 kr (zSf (d:=17) (f:=227) (cap:=#[]) (vs:=#[.slice (some ⟨gr,0,none⟩) lr.length F,.int .u32 ((val l / 2^k % 2:Nat):Int)]) 7 Z90 kr G87 rfl kr kr (fun w=>Tryz.call227 _ w) rfl (zQt _ gr lr.length F _ lr (G87.get 7 rfl) hrowr (by omega) hcanlr (val l / 2^k % 2) (by omega)) ?_)
 rintro v91 w91 Y91 Z o91 ⟨Q91,P91,I,rfl,rfl,D91,hlen91,hcan91,hval91⟩ G91 C91 a92 Z92;refine qY Z92 kr (zF (t:=26) (b:=b6) (off:=0) (c':=#[.slice (some ⟨Z,0,none⟩) I.length P91]) (g:=false) (m:=1) 4 _ Z92 kr G91 rfl kr rfl kr kr kr rfl (by first | decide | (simp;done)) kr rfl ?_)
 intro w93 G93 C93;refine zH<|zA (hK88 _ _ ?_);refine zG (fun K94 hK94=>?_);refine zC ?_;refine qY Z92 kr (zE (d:=18) (v:= .slice (some ⟨Z,0,none⟩) I.length P91) Z92 kr (zB (t:=26) (g:=false) (vs:=[.slice (some ⟨Z,0,none⟩) I.length P91]) (ad:=⟨b6,0,none⟩) rfl kr kr ir (G93.cells 4 rfl rfl)) ?_);intro a95 Z95;refine qY Z95 kr (zE (d:=19) (v:= .slice H J.length P2) Z95 kr (zB (t:=26) (g:=false) (vs:=[.slice H J.length P2]) (ad:=⟨b2,0,none⟩) rfl kr kr ir (G93.cells 6 rfl rfl)) ?_);intro a96 Z96;refine qY Z96 kr (kI (d:=20) (f:=225) (cap:=#[]) (vs:=#[.slice (some ⟨Z,0,none⟩) I.length P91,.slice H J.length P2]) Z96 kr G93 rfl kr kr (fun w=>Tryz.call225 _ w) (zCb _ X0 (qC _) _ _ _ I (qB.limbs (Y:=X0) D91 (G93.get 7 rfl) (fun _ h=>h.elim)) _ _ _ J ((h2.mono (qMp C2 C4 C6 C10 C12 C18 C19 C23 C87 C91 C93)).mono Le.x0) hcan91 J2 (by omega)) ?_)
 rintro v97 w97 G97 C97 N97 rfl a98 Z98;refine zD 1 [(21,.bool (decide ((qO (val I) (val J))≥0)))] Z98 kr kr (fun a99 Z99=>?_);refine zH<|zA (hK94 _ _ ?_);refine nX (decide ((qO (val I) (val J))≥0)) Z99 kr kr (fun J100=>?_) (fun J100=>?_);have Z101:=Z99.set 21 (v':= .bool true) kr rfl (zK J100);have F102:(qO (val I) (val J))≥0:=qu J100;have V:=zBc F102;obtain⟨hset1,hset2,hset3⟩:=zPg lq j.lt k q (by rw[j.len];exact hkl) hvq
 refine zG (fun K103 hK103=>?_);refine zC ?_;refine qY Z101 kr (zE (d:=22) (v:= .slice (some ⟨Z,0,none⟩) I.length P91) Z101 kr (zB (t:=26) (g:=false) (vs:=[.slice (some ⟨Z,0,none⟩) I.length P91]) (ad:=⟨b6,0,none⟩) rfl kr kr ir (G97.cells 4 rfl rfl)) ?_);intro a104 Z104;refine qY Z104 kr (zE (d:=23) (v:= .slice H J.length P2) Z104 kr (zB (t:=26) (g:=false) (vs:=[.slice H J.length P2]) (ad:=⟨b2,0,none⟩) rfl kr kr ir (G97.cells 6 rfl rfl)) ?_);intro a105 Z105;refine qY Z105 kr (zBy (d:=24) (f:=226) (cap:=#[]) (vs:=#[.slice (some ⟨Z,0,none⟩) I.length P91,.slice H J.length P2]) 7 Z105 kr G97 rfl kr kr (fun w=>Tryz.call226 _ w) rfl (pX _ Z I.length P91 _ I (G97.get 7 rfl) D91 (by omega) _ _ _ J ((h2.mono (qVx C2 C4 C6 C10 C12 C18 C19 C23 C87 C91 C93 C97)).mono (G97.leHG 7 rfl)) (qD D91.lt J2 (by omega)) (by omega)) ?_)
 rintro v106 w106 ob106 ⟨Q106,ls106,rfl,hg106,D106,hcan106,hval106⟩ hob106 G106 C106 a107 Z107;obtain rfl:=qy (hob106.symm.trans hg106);refine qY Z107 kr (zF (t:=26) (b:=b6) (off:=0) (c':=#[.slice (some ⟨Z,0,none⟩) ls106.length P91]) (g:=false) (m:=1) 4 _ Z107 kr G106 rfl kr rfl kr kr kr rfl (by first | decide | (simp;done)) kr rfl ?_)
 intro w108 G108 C108;refine zH<|zA (hK103 _ _ ?_);refine bR (N:=11) (kK [(⟨b4,0,none⟩,[.slice (some ⟨C,0,none⟩) l.length l.length]),(⟨C,k / 32,none⟩,[.int .u32 ((lq.getD (k / 32) 0:Nat):Int)])]) [10] kr kr kr G108 ?_;intro w109 G109 C109 N109;refine lT (kK.cons (G109.cells 5 rfl rfl) (kK.cons (G109.rowCells 3 rfl j (by have:=j.len;(try simp only[q6]at *);omega)) (kK.nil _))) (fun O=>?_)
 refine mI (d:=25) (v:= .slice (some ⟨C,0,none⟩) l.length l.length) 0 Z107 rfl kr kr kr (fun w hw=>zB (t:=26) (g:=false) (vs:=[.slice (some ⟨C,0,none⟩) l.length l.length]) (ad:=⟨b4,0,none⟩) rfl kr kr ir (hw.get 0 kr)) O ?_;intro a110 Z110;refine zJ (d:=26) (v:= .int .i64 (k:Int)) 1 Z110 rfl kr kr kw (fun _=>O) fun a111 Z111=>zJ (d:=27) (v:= .int .i64 (i64.wrap (Int.tdiv ((k:Int)) (32)))) 2 Z111 rfl kr kr kw (fun _=>O) fun a112 Z112=>?_;have Z113:=Z112.set 27 (v':= .int .i64 ((k / 32:Nat):Int)) kr rfl (zQ (cK _ (by omega)))
 refine zJ (d:=28) (v:= .pointer (some ⟨C,k / 32,none⟩)) 3 Z113 rfl kr kr (fun w=>jD (t:=26) (e:=214) (b:=C) (off:=0) (len:=l.length) (cap:=l.length) (kd:= .i64) (i:=((k / 32:Nat):Int)) (g:=false) (m:=1) (off':=k / 32) rfl kr kr kr kr (by omega) (by omega) (by first | rfl | omega | (simp;done) | (simp;omega)) w) (fun _=>O) fun a114 Z114=>?_
 refine mI (d:=29) (v:= .int .u32 ((lq.getD (k / 32) 0:Nat):Int)) 4 Z114 rfl kr kr kr (fun w hw=>zB (t:=214) (g:=false) (vs:=[.int .u32 ((lq.getD (k / 32) 0:Nat):Int)]) (ad:=⟨C,k / 32,none⟩) rfl kr kr ir (hw.get 1 kr)) O ?_;intro a115 Z115;refine zJ (d:=30) (v:= .int .i64 (k:Int)) 5 Z115 rfl kr kr kw (fun _=>O) fun a116 Z116=>zJ (d:=31) (v:= .int .i64 (Int.tmod ((k:Int)) (32))) 6 Z116 rfl kr kr kw (fun _=>O) fun a117 Z117=>?_;have Z118:=Z117.set 31 (v':= .int .i64 ((k % 32:Nat):Int)) kr rfl (zQ (zEh _));refine zJ (d:=32) (v:= .int .u32 ((2^(k % 32):Nat):Int)) 7 Z118 rfl kr kr (fun w=>zTb rfl rfl rfl (by omega)) (fun _=>O) fun a119 Z119=>zJ (d:=33) (v:= .int .u32 (rY ((lq.getD (k / 32) 0:Nat):Int) ((2^(k % 32):Nat):Int))) 8 Z119 rfl kr kr kw (fun _=>O) fun a120 Z120=>?_
 have Z121:=Z120.set 33 (v':= .int .u32 ((lq.getD (k / 32) 0+2^(k % 32):Nat):Int)) kr rfl (zQ hset1);refine zJ (d:=34) (v:= .pointer (some ⟨C,k / 32,none⟩)) 9 Z121 rfl kr kr (fun w=>jD (t:=26) (e:=214) (b:=C) (off:=0) (len:=l.length) (cap:=l.length) (kd:= .i64) (i:=((k / 32:Nat):Int)) (g:=false) (m:=1) (off':=k / 32) rfl kr kr kr kr (by omega) (by omega) (by first | rfl | omega | (simp;done) | (simp;omega)) w) (fun _=>O) fun a122 Z122=>?_
 refine tQ [10] kr rfl ?_;refine yM.cons (i:=10) Z122 rfl kr (lK (t:=214) (y:=(lq.getD (k / 32) 0+2^(k % 32))) (k:=k / 32) (e:=((lq.getD (k / 32) 0+2^(k % 32):Nat):Int)) 3 Z122 kr G109 rfl rfl rfl (rfl) kr rfl j (by have:=j.len;(try simp only[q6]at *);omega) (hset2) ?_) yM.nil
 intro Q123 w123 D123 G123 C123;refine⟨mQ kr,?_⟩;refine zEg kr (nrm ?_);refine yU ?_;refine fA W G123 (fun w124 G124 C124=>vE.next ?_);exact⟨_,Q123,(lq.set (k / 32) (lq.getD (k / 32) 0+2^(k % 32))),[(Z,.cells Q106 214 (0,0))],(some ⟨Z,0,none⟩),P91,ls106,(2*q+1),G124,(Le10 C23 C87 C91 C93 C97 C106 C108 C109 C123 C124),D123,.inr ⟨_,_,rfl,rfl,D106⟩,hcan106,by rw[hset3,hvq,ja,yp,y9];congr 1;ac_rfl,qNx hdiv (hval106.trans (by rw[hval91])) (by omega),by have:=hval106;omega⟩
 have Z125:=Z99.set 21 (v':= .bool false) kr rfl (zK J100);have F126:¬((qO (val I) (val J))≥0):=kh J100;have V:=dA F126;refine tF ?_;refine yU ?_;refine fA W G97 (fun w127 G127 C127=>vE.next ?_);exact⟨_,S,lq,[(Z,.cells Q91 214 (0,0))],(some ⟨Z,0,none⟩),P91,I,(2*q),G127,(Le6 C23 C87 C91 C93 C97 C127),j,.inr ⟨_,_,rfl,rfl,D91⟩,hcan91,by rw[hvq,ja];ac_rfl,qFy hdiv hval91,V⟩
 rintro w128 ⟨Y128,S,lq,rb,adr,F,lr,q,G128,C128,hp128_0,hp128_1,hp128_2,hp128_3,hp128_4,hp128_5⟩;refine wI.norm W G128 (fun w129 G129 C129=>?_);have j:=hp128_0;have hrst:=hp128_1;have hcanlr:=hp128_2;have hvq:=hp128_3;have hdiv:=hp128_4;have hlt:=hp128_5;rcases hrst with⟨rfl,rfl,rfl,rfl⟩ | ⟨gr,curr,rfl,rfl,hrowr⟩
 refine yU<|zA (hK13 _ _ ?_);refine zG (fun K130 hK130=>?_);refine bR (N:=5) (kK [(⟨b6,0,none⟩,[.slice none 0 0])]) [4] kr kr kr G129 ?_;intro w131 G131 C131 N131;refine lT (kK.cons (G131.cells 4 rfl rfl) (kK.nil _)) (fun hH131=>?_);refine mI (d:=37) (v:= .slice none 0 0) 2 Z20 rfl kr kr kr (fun w hw=>zB (t:=26) (g:=false) (vs:=[.slice none 0 0]) (ad:=⟨b6,0,none⟩) rfl kr kr ir (hw.get 0 kr)) hH131 ?_;intro a132 Z132;refine tQ [0] kr rfl ?_;refine yM.cons (i:=0) Z132 rfl kr (zE (d:=35) (v:= .slice (some ⟨C,0,none⟩) l.length l.length) Z132 kr (zB (t:=26) (g:=false) (vs:=[.slice (some ⟨C,0,none⟩) l.length l.length]) (ad:=⟨b4,0,none⟩) rfl kr kr ir (G131.cells 5 rfl rfl)) ?_) yM.nil;intro a133 Z133;refine tC (kK.cons (G131.cells 4 rfl rfl) (kK.nil _)) (fun hH131=>?_);refine tQ [1] kr rfl ?_;refine yM.cons (i:=1) Z133 rfl kr (kI (d:=36) (f:=235) (cap:=#[]) (vs:=#[.slice (some ⟨C,0,none⟩) l.length l.length]) Z133 kr G131 rfl kr kr (fun w=>Tryz.call235 _ w) (zAq _ X0 (qC _) _ _ _ lq (qB.limbs (Y:=X0) j (G131.get 3 rfl) (fun _ h=>h.elim))) ?_) yM.nil;rintro v134 w134 G134 C134 N134 rfl a135 Z135;refine tC (kK.cons (G134.cells 4 rfl rfl) (kK.nil _)) (fun hH134=>?_);refine tQ [3] kr rfl ?_;refine yM.cons (i:=3) Z135 rfl kr (zF (t:=26) (b:=b4) (off:=0) (c':=#[.slice (some ⟨C,0,none⟩) (qW lq) l.length]) (g:=false) (m:=1) 5 _ Z135 kr G134 rfl kr rfl kr kr kr rfl (by first | decide | (simp;done)) kr rfl ?_) yM.nil
 intro w136 G136 C136;refine tC (kK.cons (G136.cells 4 rfl rfl) (kK.nil _)) (fun hH136=>?_);refine tQ [4] kr rfl ?_;refine yM.cons (i:=4) Z135 rfl kr (zF (t:=26) (b:=b6) (off:=0) (c':=#[.slice none 0 0]) (g:=false) (m:=1) 4 _ Z135 kr G136 rfl kr rfl kr kr kr rfl (by first | decide | (simp;done)) kr rfl ?_) yM.nil
 intro w137 G137 C137;refine⟨mQ kr,?_⟩;refine zEg kr (nrm ?_);refine zA (hK130 _ _ ?_);refine mY<|zOf (v:= .tuple #[.slice (some ⟨C,0,none⟩) (qW lq) l.length,.slice none 0 0]) (rs:=[.cell 4 26,.cell 5 26]) (vs:=[.slice (some ⟨C,0,none⟩) (qW lq) l.length,.slice none 0 0]) 1 Z135 G137 rfl kr kr (fun w138 G138 C138=>?_);refine⟨(Res.cell (ad:=⟨b4,0,none⟩) (cs:=[.slice (some ⟨C,0,none⟩) (qW lq) l.length]) (g:=false) kr kr kr ir (G138.cells 5 rfl rfl) (Res.cell (ad:=⟨b6,0,none⟩) (cs:=[.slice none 0 0]) (g:=false) kr kr kr ir (G138.cells 4 rfl rfl) Res.nil)),?_⟩;obtain⟨he1,he2⟩:=zUt hdiv hlt hvq;exact⟨G138.upd,_,rfl,_,_,Go.Gv.trimmed lq,[],_,_,_,_,_,_,rfl,⟨⟨rfl,(jQ _).symm,tT j.lt,.inr ⟨_,_,rfl,G138.own_ge 3 rfl,G138.get 3 rfl,j.trimmed⟩⟩,qZ _,by rw[jK];exact he1⟩,⟨⟨rfl,rfl,fun x hx=>by simp at hx,.inl ⟨rfl,rfl,rfl⟩⟩,.inl rfl,he2⟩⟩
 refine yU<|zA (hK13 _ _ ?_);refine zG (fun K139 hK139=>?_);refine bR (N:=5) (kK [(⟨b6,0,none⟩,[.slice (some ⟨gr,0,none⟩) lr.length F])]) [4] kr kr kr G129 ?_;intro w140 G140 C140 N140;refine lT (kK.cons (G140.cells 4 rfl rfl) (kK.nil _)) (fun hH140=>?_);refine mI (d:=37) (v:= .slice (some ⟨gr,0,none⟩) lr.length F) 2 Z20 rfl kr kr kr (fun w hw=>zB (t:=26) (g:=false) (vs:=[.slice (some ⟨gr,0,none⟩) lr.length F]) (ad:=⟨b6,0,none⟩) rfl kr kr ir (hw.get 0 kr)) hH140 ?_;intro a141 Z141;refine tQ [0] kr rfl ?_;refine yM.cons (i:=0) Z141 rfl kr (zE (d:=35) (v:= .slice (some ⟨C,0,none⟩) l.length l.length) Z141 kr (zB (t:=26) (g:=false) (vs:=[.slice (some ⟨C,0,none⟩) l.length l.length]) (ad:=⟨b4,0,none⟩) rfl kr kr ir (G140.cells 5 rfl rfl)) ?_) yM.nil;intro a142 Z142;refine tC (kK.cons (G140.cells 4 rfl rfl) (kK.nil _)) (fun hH140=>?_);refine tQ [1] kr rfl ?_;refine yM.cons (i:=1) Z142 rfl kr (kI (d:=36) (f:=235) (cap:=#[]) (vs:=#[.slice (some ⟨C,0,none⟩) l.length l.length]) Z142 kr G140 rfl kr kr (fun w=>Tryz.call235 _ w) (zAq _ X0 (qC _) _ _ _ lq (qB.limbs (Y:=X0) j (G140.get 3 rfl) (fun _ h=>h.elim))) ?_) yM.nil;rintro v143 w143 G143 C143 N143 rfl a144 Z144;refine tC (kK.cons (G143.cells 4 rfl rfl) (kK.nil _)) (fun hH143=>?_);refine tQ [3] kr rfl ?_;refine yM.cons (i:=3) Z144 rfl kr (zF (t:=26) (b:=b4) (off:=0) (c':=#[.slice (some ⟨C,0,none⟩) (qW lq) l.length]) (g:=false) (m:=1) 5 _ Z144 kr G143 rfl kr rfl kr kr kr rfl (by first | decide | (simp;done)) kr rfl ?_) yM.nil
 intro w145 G145 C145;refine tC (kK.cons (G145.cells 4 rfl rfl) (kK.nil _)) (fun hH145=>?_);refine tQ [4] kr rfl ?_;refine yM.cons (i:=4) Z144 rfl kr (zF (t:=26) (b:=b6) (off:=0) (c':=#[.slice (some ⟨gr,0,none⟩) lr.length F]) (g:=false) (m:=1) 4 _ Z144 kr G145 rfl kr rfl kr kr kr rfl (by first | decide | (simp;done)) kr rfl ?_) yM.nil
 intro w146 G146 C146;refine⟨mQ kr,?_⟩;refine zEg kr (nrm ?_);refine zA (hK139 _ _ ?_);refine mY<|zOf (v:= .tuple #[.slice (some ⟨C,0,none⟩) (qW lq) l.length,.slice (some ⟨gr,0,none⟩) lr.length F]) (rs:=[.cell 4 26,.cell 5 26]) (vs:=[.slice (some ⟨C,0,none⟩) (qW lq) l.length,.slice (some ⟨gr,0,none⟩) lr.length F]) 1 Z144 G146 rfl kr kr (fun w147 G147 C147=>?_);refine⟨(Res.cell (ad:=⟨b4,0,none⟩) (cs:=[.slice (some ⟨C,0,none⟩) (qW lq) l.length]) (g:=false) kr kr kr ir (G147.cells 5 rfl rfl) (Res.cell (ad:=⟨b6,0,none⟩) (cs:=[.slice (some ⟨gr,0,none⟩) lr.length F]) (g:=false) kr kr kr ir (G147.cells 4 rfl rfl) Res.nil)),?_⟩;obtain⟨he1,he2⟩:=zUt hdiv hlt hvq;exact⟨G147.upd,_,rfl,_,_,Go.Gv.trimmed lq,lr,_,_,_,_,_,_,rfl,⟨⟨rfl,(jQ _).symm,tT j.lt,.inr ⟨_,_,rfl,G147.own_ge 3 rfl,G147.get 3 rfl,j.trimmed⟩⟩,qZ _,by rw[jK];exact he1⟩,⟨⟨rfl,rfl,hrowr.lt,.inr ⟨_,_,rfl,G147.own_ge 7 rfl,G147.get 7 rfl,hrowr⟩⟩,hcanlr,he2⟩⟩
 intro k w9 N9 hm1 hm2;exact⟨_,(List.replicate l.length (Value.int .u32 0)).toArray,(List.replicate l.length 0),[],none,0,[],0,G19.call N9,N9.le _,D10,.inl ⟨rfl,rfl,rfl,rfl⟩,.inl rfl,by rw[vN];rfl,by rw[yc hm1];simp[val],hd⟩
set_option maxHeartbeats 1000000
def zTr(y:Nat):Int:=if y=0 then 14 else 0
theorem qDh(w:World)(X:Hid)(hX:∀k o,X k o→k<w.heap.size)(ad:Option Addr)(T cap:Nat)(l:List Nat)(h:zN (rd w X) ad T cap l)(J:Option Addr)(G P2:Nat)(f:List Nat)(N:zN (rd w X) J G P2 f):Calls Tryz.prog 233 #[.slice ad T cap,.slice J G P2] w (Ret E0 w fun w' v=>DivV 214 w w' (or2 (vK l f) (zTr (val f))) (val l / val f) (val l % val f) v):=by
 obtain rfl:=h.hlen;obtain rfl:=N.hlen;have hcap:=h.hcap;have hbig:=h.hbig;have hcap2:=N.hcap;have hbig2:=N.hbig;refine zen Tryz.func233 ?_;have G0:St E0 w X w X []:=St.start hX;refine zz 12<|zc G0 (zAx _ X0 (qC _) _ _ _ l (h.mono Le.x0) _ _ _ f (N.mono Le.x0)) ?_;rintro v3 w3 U C3 N3 rfl;refine zz 11<|zb 11 (b:=((vK l f)!=0)) (fun Z=>?_) (fun Z=>?_);have F5:(vK l f)≠0:=by simpa using Z
 refine zz 12<|zr' (v:= .tuple #[.slice none 0 0,.slice none 0 0,.int .i64 (vK l f)]) ?_;exact⟨U.upd,_,rfl,by rw[zCa F5];exact .inl ⟨F5,rfl⟩⟩
 have V:(vK l f)=0:=by simpa using Z
 obtain⟨⟨O,c1⟩,hl2,c2⟩:=zBa V;refine zz 9<|zb 15 (b:=((f.length:Int)==0)) (fun J7=>?_) (fun J7=>?_);have F8:(f.length:Int)=0:=by simpa using J7
 have hz:val f=0:=by rw[zy (by omega:f.length=0)];rfl
 refine zz 11<|zr' (v:= .tuple #[.slice none 0 0,.slice none 0 0,.int .i64 14]) ?_;exact⟨U.upd,_,rfl,by rw[vX V,zTr,qj hz];exact .inl ⟨by decide,rfl⟩⟩
 have F9:(f.length:Int)≠0:=by simpa using J7
 have hp:0<val f:=wZ c2 (by rintro rfl;simp at F9)
 refine zz 8<|zc U (qFz _ X0 (qC _) _ _ _ l ((h.mono C3).mono Le.x0) _ _ _ f ((N.mono C3).mono Le.x0) c1 c2 (by omega) (by omega) hp) ?_
 rintro v11 w11 W C11 N11 ⟨u11,v211,lq11,lr11,H,C,y,I,F,z,rfl,j,q⟩;obtain rfl:=j.own.hv;obtain rfl:=q.own.hv;refine zz 17<|zr' (v:= .tuple #[.slice H C y,.slice I F z,.int .i64 0]) ?_;have S:=(U).upd.size;exact⟨W.upd,_,rfl,by rw[vX V,zTr,ql (by omega)];exact .inr ⟨rfl,_,_,_,_,_,_,_,_,_,_,rfl,j.back S,qx (qD h.hlt j.canon (by rw[j.val];exact wj _ _)) O,q.back S,qx (qD h.hlt q.canon (by rw[q.val];exact Nat.mod_le _ _)) O⟩⟩
set_option maxHeartbeats 1000000
theorem bJ{l f:List Nat}(h:l.length≤512)(y:zX l)(q:f.length≤512)(j:zX f):vK l f=0:=by
 unfold vK;rw[zFq h y,zFq q j];rfl
theorem jFy(w:World)(ad:Option Addr)(q cap x:Nat)(h:qE (rd w X0) ad q cap x)(j:Option Addr)(f C y:Nat)(S:qE (rd w X0) j f C y)(hx:x<4294967296^512)(hy:y<4294967296^512)(U:x*y<4294967296^512):Calls Tryz.prog 230 #[.slice ad q cap,.slice j f C] w (Ret E0 w fun J v=>∃u,v= .tuple #[u,.int .i64 0]∧zMw w J u (x*y)):=by
 obtain⟨l,V,T,rfl,W⟩:=h.limbs hx;obtain⟨l2,F,N,rfl,G⟩:=S.limbs hy;refine(jFx w X0 (qC _) ad q cap l V j f C l2 F).mono ?_;rintro e J ⟨Z,v,rfl,hv⟩;obtain⟨u,lr,O,I,H,rfl,z,_⟩:=hv.ok (by rw[vX (bJ W T G N)];unfold qBq;rw[qj U])
 exact⟨Z,_,rfl,u,rfl,z.natV⟩
theorem jFr(w:World)(ad:Option Addr)(q cap x:Nat)(h:qE (rd w X0) ad q cap x)(j:Option Addr)(f C y:Nat)(S:qE (rd w X0) j f C y)(hx:x<4294967296^512)(hy:y<4294967296^512)(U:x+y<4294967296^512):Calls Tryz.prog 231 #[.slice ad q cap,.slice j f C] w (Ret E0 w fun J v=>∃u,v= .tuple #[u,.int .i64 0]∧zMw w J u (x+y)):=by
 obtain⟨l,V,T,rfl,W⟩:=h.limbs hx;obtain⟨l2,F,N,rfl,G⟩:=S.limbs hy;refine(jFq w X0 (qC _) ad q cap l V j f C l2 F).mono ?_;rintro e J ⟨Z,v,rfl,hv⟩;obtain⟨u,lr,O,I,H,rfl,z,_⟩:=hv.ok (by rw[vX (bJ W T G N)];unfold qBq;rw[qj U])
 exact⟨Z,_,rfl,u,rfl,z.natV⟩
theorem qTn(w:World)(ad:Option Addr)(q cap x:Nat)(h:qE (rd w X0) ad q cap x)(j:Option Addr)(f C y:Nat)(S:qE (rd w X0) j f C y)(Z:x<4294967296^512)(hy:y<4294967296^512)(hf:y≤x):Calls Tryz.prog 232 #[.slice ad q cap,.slice j f C] w (Ret E0 w fun J v=>∃u,v= .tuple #[u,.int .i64 0]∧zMw w J u (x-y)):=by
 obtain⟨l,U,T,rfl,V⟩:=h.limbs Z;obtain⟨l2,F,N,rfl,G⟩:=S.limbs hy;refine(qTm w X0 (qC _) ad q cap l U j f C l2 F).mono ?_;rintro e J ⟨W,v,rfl,hv⟩;obtain⟨u,lr,O,I,H,rfl,z,_⟩:=hv.ok (by rw[vX (bJ V T G N)];unfold zWp;rw[ql (by omega)])
 exact⟨W,_,rfl,u,rfl,z.natV⟩
theorem qEd(w:World)(ad:Option Addr)(q cap x:Nat)(h:qE (rd w X0) ad q cap x)(j:Option Addr)(f z y:Nat)(I:qE (rd w X0) j f z y)(U:x<4294967296^512)(V:y<4294967296^512)(N:x<y):Calls Tryz.prog 232 #[.slice ad q cap,.slice j f z] w (Ret E0 w fun _ v=>v= .tuple #[.slice none 0 0,.int .i64 7]):=by
 obtain⟨l,O,J,rfl,S⟩:=h.limbs U;obtain⟨G,C,H,rfl,F⟩:=I.limbs V;refine(qTm w X0 (qC _) ad q cap l O j f z G C).mono ?_;rintro e W ⟨T,v,rfl,hv⟩;have he:or2 (vK l G) (zWp (val l) (val G))=7:=by rw[vX (bJ S J F H)];unfold zWp;rw[qj N]
 rw[he]at hv;exact⟨T,_,rfl,hv.err (by decide)⟩
theorem qDi(w:World)(ad:Option Addr)(q cap x:Nat)(h:qE (rd w X0) ad q cap x)(j:Option Addr)(f C y:Nat)(S:qE (rd w X0) j f C y)(Z:x<4294967296^512)(hy:y<4294967296^512):Calls Tryz.prog 155 #[.slice ad q cap,.slice j f C] w (Ret E0 w fun J v=>∃u,v= .tuple #[u,.int .i64 0]∧zMw w J u (Nat.gcd x y)):=by
 obtain⟨l,U,T,rfl,V⟩:=h.limbs Z;obtain⟨l2,F,N,rfl,G⟩:=S.limbs hy;refine(jFt w X0 (qC _) ad q cap l U j f C l2 F).mono ?_;rintro e J ⟨W,v,rfl,hv⟩;obtain⟨u,lr,O,I,H,rfl,z,_⟩:=hv.ok (bJ V T G N);exact⟨W,_,rfl,u,rfl,z.natV⟩
theorem zPw(w:World)(ad:Option Addr)(q cap x:Nat)(h:qE (rd w X0) ad q cap x)(j:Option Addr)(f C y:Nat)(O:qE (rd w X0) j f C y)(hx:x<4294967296^512)(hy:y<4294967296^512)(hd:0<y):Calls Tryz.prog 233 #[.slice ad q cap,.slice j f C] w (Ret E0 w fun I v=>∃u z,v= .tuple #[u,z,.int .i64 0]∧zMw w I u (x / y)∧zMw w I z (x % y)):=by
 obtain⟨l,T,S,rfl,U⟩:=h.limbs hx;obtain⟨H,F,J,rfl,G⟩:=O.limbs hy;refine(qDh w X0 (qC _) ad q cap l T j f C H F).mono ?_;rintro e I ⟨Z,v,rfl,hv⟩;have he:or2 (vK l H) (zTr (val H))=0:=by rw[vX (bJ U S G J)];unfold zTr;rw[ql (by omega)]
 rcases hv with⟨N,_⟩ | ⟨_,u,z,a1,a2,a3,a4,a5,a6,a7,a8,rfl,V,_,W,_⟩
 ·exact absurd he N
 ·exact⟨Z,_,rfl,u,z,rfl,V.natV,W.natV⟩
theorem zFr(w:World)(ad:Option Addr)(f cap x:Nat)(h:qE (rd w X0) ad f cap x)(H:x<4294967296^512):Calls Tryz.prog 223 #[.slice ad f cap] w (Ret E0 w fun C v=>zMw w C v x):=by
 obtain⟨l,y,F,rfl,I⟩:=h.limbs H;refine(zBb w X0 (qC _) ad f cap l y (by rw[y.hlen];omega)).mono ?_
 rintro e C ⟨G,v,rfl,ad',z,q,j⟩;exact⟨G,_,rfl,zAu.natV ⟨j,F,rfl⟩⟩
theorem qGv(w:World)(x:Nat)(C:x<18446744073709551616):Calls Tryz.prog 174 #[.int .u64 (x:Int)] w (Ret E0 w fun f v=>zMw w f v x):=by
 refine(qZi w X0 (qC _) x C).mono ?_;rintro e f ⟨z,v,rfl,l,ad,F,cap,j,q,y⟩;exact⟨z,_,rfl,zAu.natV ⟨j,q,y⟩⟩
section
variable (w:World)(X:Hid)(hX:∀k o,X k o→k<w.heap.size)
set_option maxHeartbeats 1000000
include hX in
theorem zCo(ad:Option Addr)(q cap x:Nat)(h:qE (rd w X) ad q cap x)(j:Option Addr)(f J y:Nat)(O:qE (rd w X) j f J y)(W:x<4294967296^512)(Z:y<4294967296^512)(V:x*y<4294967296^512):Calls Tryz.prog 160 #[.slice ad q cap,.slice j f J] w (Ret E0 w fun S v=>fI X S v (x*y)):=by
 refine zen Tryz.func160 ?_;have H:St E0 w X w X []:=St.start hX;refine zz 9<|zc H (jFy _ _ _ _ x (h.mono Le.x0) _ _ _ y (O.mono Le.x0) (by first | assumption | omega) (by first | assumption | omega) (by first | assumption | omega)) ?_
 rintro v3 w3 I T U ⟨u3,rfl,⟨C,z,N,rfl,G⟩⟩;have F:=G _ H.lt;refine zz 14<|zr' (v:= .slice C z N) ?_;exact⟨I.upd,_,rfl,I.lastN F⟩
include hX in
theorem jDl(ad:Option Addr)(q cap x:Nat)(h:qE (rd w X) ad q cap x)(j:Option Addr)(f J y:Nat)(O:qE (rd w X) j f J y)(W:x<4294967296^512)(Z:y<4294967296^512)(V:x+y<4294967296^512):Calls Tryz.prog 161 #[.slice ad q cap,.slice j f J] w (Ret E0 w fun S v=>fI X S v (x+y)):=by
 refine zen Tryz.func161 ?_;have H:St E0 w X w X []:=St.start hX;refine zz 9<|zc H (jFr _ _ _ _ x (h.mono Le.x0) _ _ _ y (O.mono Le.x0) (by first | assumption | omega) (by first | assumption | omega) (by first | assumption | omega)) ?_
 rintro v3 w3 I T U ⟨u3,rfl,⟨C,z,N,rfl,G⟩⟩;have F:=G _ H.lt;refine zz 14<|zr' (v:= .slice C z N) ?_;exact⟨I.upd,_,rfl,I.lastN F⟩
include hX in
theorem qIh(ad:Option Addr)(q cap x:Nat)(h:qE (rd w X) ad q cap x)(j:Option Addr)(f J y:Nat)(O:qE (rd w X) j f J y)(W:x<4294967296^512)(Z:y<4294967296^512)(V:y≤x):Calls Tryz.prog 162 #[.slice ad q cap,.slice j f J] w (Ret E0 w fun S v=>∃u,v= .tuple #[u,.bool false]∧fI X S u (x-y)):=by
 refine zen Tryz.func162 ?_;have H:St E0 w X w X []:=St.start hX;refine zz 11<|zc H (qTn _ _ _ _ x (h.mono Le.x0) _ _ _ y (O.mono Le.x0) (by first | assumption | omega) (by first | assumption | omega) (by first | assumption | omega)) ?_
 rintro v3 w3 I T U ⟨u3,rfl,⟨C,z,N,rfl,G⟩⟩;have F:=G _ H.lt;refine zz 23<|zr' (v:= .tuple #[.slice C z N,.bool false]) ?_;exact⟨I.upd,_,rfl,_,rfl,I.lastN F⟩
include hX in
theorem qIi(ad:Option Addr)(q cap x:Nat)(h:qE (rd w X) ad q cap x)(j:Option Addr)(f N y:Nat)(O:qE (rd w X) j f N y)(hx:x<4294967296^512)(hy:y<4294967296^512)(hf:x<y):Calls Tryz.prog 162 #[.slice ad q cap,.slice j f N] w (Ret E0 w fun U v=>∃u,v= .tuple #[u,.bool true]∧fI X U u (y-x)):=by
 refine zen Tryz.func162 ?_;have S:St E0 w X w X []:=St.start hX;refine zz 11<|zc S (qEd _ _ _ _ x (h.mono Le.x0) _ _ _ y (O.mono Le.x0) (by first | assumption | omega) (by first | assumption | omega) (by first | assumption | omega)) ?_
 rintro v3 w3 I H W rfl;refine zz 20<|zc I (qTn _ _ _ _ y ((O.mono H).mono Le.x0) _ _ _ x ((h.mono H).mono Le.x0) (by first | assumption | omega) (by first | assumption | omega) (by first | assumption | omega)) ?_
 rintro v5 w5 J V Z ⟨u5,rfl,⟨C,z,T,rfl,G⟩⟩;have F:=G _ I.lt;refine zz 15<|zr' (v:= .tuple #[.slice C z T,.bool true]) ?_;exact⟨J.upd,_,rfl,_,rfl,J.lastN F⟩
include hX in
theorem qQd(ad:Option Addr)(q cap x:Nat)(h:qE (rd w X) ad q cap x)(j:Option Addr)(f C y:Nat)(F:qE (rd w X) j f C y)(G:x<4294967296^512)(H:y<4294967296^512):Calls Tryz.prog 162 #[.slice ad q cap,.slice j f C] w (Ret E0 w fun I v=>∃u,v= .tuple #[u,.bool (decide (x<y))]∧fI X I u (if x<y then y-x else x-y)):=by
 by_cases z:x<y
 ·rw[qj z,xe z];exact qIi w X hX ad q cap x h j f C y F G H z
 ·rw[ql z,wn z];exact qIh w X hX ad q cap x h j f C y F G H (by omega)
include hX in
theorem zEi(ad:Option Addr)(len cap x:Nat)(h:qE (rd w X) ad len cap x):Calls Tryz.prog 154 #[.slice ad len cap] w (Ret E0 w fun _ v=>v= .bool (decide (x=1))):=by
 refine zen Tryz.func154 ?_;have y:St E0 w X w X []:=St.start hX;refine zz 11<|zb 6 (b:=((len:Int)==1)) (fun j=>?_) (fun j=>?_);have F:(len:Int)=1:=by simpa using j
 obtain⟨C,z,rfl,f,q⟩:=h.one (by omega)
 refine zz 1<|zi (b:=C) (off:=z) (len:=len) (cap:=cap) (kd:= .i64) (i:=0) 1 z ?_ (hoff:=kr);refine zl (q).cells<|zz 6<|zr' (v:= .bool ((x:Int)==1)) ?_;exact⟨y.upd,_,rfl,zK (by rw[j0];simp;omega)⟩
 have G:(len:Int)≠1:=by simpa using j
 have f:x≠1:=fun e=>by subst e;exact absurd h.of_one (by omega)
 refine zz 9<|zr' (v:= .bool false) ?_;exact⟨y.upd,_,rfl,zK (by simp[f])⟩
end
end Go.Proofs.YtdfmdiakjdggbaaGreatDoor

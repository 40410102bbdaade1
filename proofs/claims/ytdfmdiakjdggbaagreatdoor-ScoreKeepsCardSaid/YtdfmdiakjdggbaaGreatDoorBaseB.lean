import Derived.Test.YtdfmdiakjdggbaaGreatDoorRows
import Derived.Test.YtdfmdiakjdggbaaGreatDoorBaseA
set_option linter.unusedVariables false
set_option linter.unusedSimpArgs false
set_option linter.unnecessarySimpa false
namespace Go
abbrev q9:=@List.length_set
abbrev jh:=@Int.eq_ofNat_of_zero_le
abbrev ko:=@Bool.or_eq_true
abbrev kz:=@Nat.eq_or_lt_of_le
abbrev k7:=@of_decide_eq_false
abbrev xg:=@Classical.byContradiction
abbrev xy:=@beq_eq_false_iff_ne
abbrev vg:=@Nat.div_le_self
abbrev vj:=@Nat.lt_trichotomy
abbrev vk:=@Nat.le_mul_of_pos_right
abbrev vp:=@Nat.mul_le_mul
abbrev yf:=@List.contains_iff_mem
abbrev yg:=@List.length_singleton
abbrev uL:=@List.drop_eq_nil_of_le
abbrev um:=@Nat.gcd_zero_right
abbrev gE:=@Option.isNone_iff_eq_none
abbrev gm:=@Nat.lt_succ_iff_lt_or_eq
abbrev gq:=@Option.isSome_iff_exists
abbrev f8:=@List.perm_append_comm
abbrev dq:=@Nat.lt_irrefl
end Go
namespace Go.Gv
open Go.RowKit IntKind
attribute [local semireducible] Go
structure Pn where
 i:Nat
 d:Nat
 deps:List Nat
 vf:(Nat→Nat)→Value
 ob:Option ((Nat→Nat)→Obj)
def al(i d:Nat)(j:Nat→Value)(f:Obj):Pn:=⟨i,d,[i],fun e=>j (e 0),some fun _=>f⟩
def Pn.loc(p:Pn)(e:Nat→Nat):Nat→Nat:=fun k=>e (p.deps.getD k p.i)
def Pn.val(p:Pn)(e:Nat→Nat):Value:=p.vf (p.loc e)
def up{α:Type}(f:Nat→α)(j:Nat)(x:α):Nat→α:=fun k=>bif Nat.beq k j then x else f k
theorem wS{α:Type}(f:Nat→α)(j:Nat)(x:α):up f j x j=x:=by simp[up]
theorem sZ{α:Type}(f:Nat→α){j k:Nat}(x:α)(h:k≠j):up f j x k=f k:=by
 unfold up;cases q:Nat.beq k j with
 | false=>rfl
 | true=>exact absurd (qp q) h
structure Rg where
 P:Program
 ops:Array Oper
 Q:Exit→Act→World→Prop
 T:List Nat
 n:Nat
 D:List Deferred
 E:Nat→Prop
 w0:World
 X:Hid
 M0:List (Nat×Obj)
 r0:Rd
def Rg.S(R:Rg)(w:World):Prop:=(∀p∈R.M0,w.heap[p.1]?=some p.2)∧∀a v,R.r0 a=some v→w.cell? a=some v
def sel(M:List (Nat×Obj)):List Nat→List (Nat×Obj)
 | []=>[]
 | i::f=>match M[i]? with
  | some p=>p::sel M f
  | none=>sel M f
theorem zBt{M:List (Nat×Obj)}:∀{f:List Nat},∀p∈sel M f,p∈M
 | i::f,p,h=>by
  unfold sel at h;split at h
  ·rename_i q j;rcases qj.1 h with rfl | h
   ·exact qk j
   ·exact zBt p h
  ·exact zBt p h
theorem selm{M f:List (Nat×Obj)}(j:List Nat)(h:sel M j=f:=by kernel_rfl):∀p∈f,p∈M:=h▸zBt
def unl(l:Array Bool):Nat:=l.toList.countP (fun b=>!b)
def wpU(R:Rg)(l:Array Bool)(a:Act)(w:World):Prop:=∀fuel,unl l≤fuel→wpT R.P R.ops (wD R.Q) R.S R.T fuel l a w
theorem qQn{l:Array Bool}{i:Nat}(h:l.getD i true=false):unl (l.setIfInBounds i true)+1=unl l:=by
 have y:i<l.size:=by
  rcases qg i l.size with f | f
  ·exact f
  ·simp[vu f]at h
 have z:l[i]=false:=by simpa[y]using h
 have j:i<l.toList.length:=by simpa using y
 have q:l.toList[i]'j=false:=by simpa using z
 unfold unl;rw[yx,List.countP_set j];have C:0<l.toList.countP (fun b=>!b):=List.countP_pos_iff.2 ⟨_,j3 j,by simp[q]⟩
 simp only[q,qy,j7,zu,xi,wi];omega
section
variable {R:Rg}{l:Array Bool}{a:Act}{w:World}{o:Oper}{L:List (Nat×Value)}
theorem zOs{i:Nat}{fuel:Nat}(j:i∈Region.ready .any R.ops l)(q:unl l≤fuel):∃f,fuel=f+1∧unl (l.setIfInBounds i true)≤f:=by
 have:=qQn (xo.1 j).1;exact⟨fuel-1,by omega,by omega⟩
theorem qJy(q:Region.ready .any R.ops l≠[])(h:∀i∈Region.ready .any R.ops l,wpOp R.P R.ops (wD R.Q) i (fun z y=>(jA R.T (l.setIfInBounds i true)=false→R.S y)∧wpU R (l.setIfInBounds i true) z y) a w):wpU R l a w:=by
 intro fuel F;obtain⟨i,N⟩:=List.exists_mem_of_ne_nil _ q;obtain⟨f,rfl,_⟩:=zOs N F;refine⟨fun I=>absurd I q,fun j G=>wpOp_mono (fun z y C=>⟨C.1,C.2 f ?_⟩) (h j G)⟩;obtain⟨O,J,H⟩:=zOs G F;omega
theorem jFg{i d:Nat}{v:Value}(C:R.ops[i]?=some o)(O:zAc R.ops R.T l i=true)(y:chk R.ops L o d R.n=true)(q:Fr R.n a L R.D)
  (j:(∀w,(execOp (evL L) o).run R.P w= .ok (.value v) w)∨((zIq R.ops R.T i&&!jA R.T l)=true∧∀w,R.S w→(execOp (evL L) o).run R.P w= .ok (.value v) w)) (H:jA R.T l=false→R.S w)
  (k:Fr R.n (a.put (some d) v) ((d,v)::L) R.D→wpU R (l.setIfInBounds i true) (a.put (some d) v) w):wpU R l a w:=by
 obtain⟨I,J,G,N⟩:=rP O;simp only[chk,zd]at y;obtain⟨hd,hlt⟩:=qK y.2.2;intro fuel U;obtain⟨f,rfl,z⟩:=zOs G U;rcases j with j | ⟨F,j⟩
 ·refine lG C (wn I) (fun _ _ _ h=>h) (fun _=>True) (.inl fun _=>trivial) N f l a w (yw C J) G (.inl ⟨q.wanted y.1,fun w _=>by rw[q.exec y.2.1];exact j w⟩) (.inl fun _=>trivial) H trivial ?_
  rw[hd];exact k (q.put hlt v) f z
 ·simp only[zd,qq]at F;refine lG C (wn I) (fun _ _ _ h=>h) R.S (.inr ⟨fun _ h=>h,zIr F.1⟩) N f l a w (yw C J) G (.inl ⟨q.wanted y.1,fun w V=>by rw[q.exec y.2.1];exact j w V⟩) (.inr F.2) H (H F.2) ?_
  rw[hd];exact k (q.put hlt v) f z
theorem jCy{i d:Nat}(C:R.ops[i]?=some o)(J:zAc R.ops R.T l i=true)(q:(kD R.ops L o false&&aC o d R.n)=true)(z:Fr R.n a L R.D)(I:jA R.T l=false→R.S w)
  (k:Fr R.n (a.put (some d) undef) ((d,undef)::L) R.D→wpU R (l.setIfInBounds i true) (a.put (some d) undef) w):wpU R l a w:=by
 obtain⟨F,G,y,H⟩:=rP J;simp only[zd]at q;obtain⟨hd,hlt⟩:=qK q.2;intro fuel N;obtain⟨f,rfl,j⟩:=zOs y N;refine lG C (wn F) (fun _ _ _ h=>h) (fun _=>True) (.inl fun _=>trivial) H f l a w (yw C G) y (.inr ⟨z.wanted q.1,rfl⟩) (.inl fun _=>trivial) I trivial ?_;rw[hd];exact k (z.put hlt undef) f j
end
def pT:List Pn→(Nat→Bool)→Array Bool→Array Bool
 | [],_,l=>l
 | p::j,f,l=>pT j f (bif f p.i then l.setIfInBounds p.i true else l)
def pM:List Pn→(Nat→Bool)→(Nat→Nat)→List (Nat×Obj)
 | [],_,_=>[]
 | p::j,f,e=>(bif f p.i then(match p.ob with
  | some o=>[(e p.i,o (p.loc e))]
  | none=>[])else[])++pM j f e
def pOk(a:Act)(Pd:List Pn)(f:Nat→Bool)(e:Nat→Nat):Prop:=∀p∈Pd,f p.i=true→a.tmps[p.d]?=some (p.val e)
def pCl(Pd:List Pn)(f:Nat→Bool):Prop:=∀p∈Pd,f p.i=true→f p.i=true∧∀k,f (p.deps.getD k p.i)=true
def lT(Pd:List Pn)(l:Array Bool):Array Bool:=pT Pd (fun _=>true) l
theorem zHr:∀(Pd:List Pn)(f:Nat→Bool)(l:Array Bool)(i:Nat),pT Pd f (l.setIfInBounds i true)=(pT Pd f l).setIfInBounds i true
 | [],_,_,_=>rfl
 | p::j,f,l,i=>by
  simp only[pT];rw[←zHr j f _ i];cases f p.i
  ·rfl
  ·simp only[ze];by_cases h:i=p.i
   ·subst h;rfl
   ·rw[y7 _ _ h]
def aG(T:List Nat)(Pd:List Pn):Bool:=Pd.all fun p=>!T.contains p.i
@[irreducible] def Gt (R : Rg) (Pd : List Pn) (c : Array Bool × List (Nat × Value)) (M : List (Nat × Obj)) (r : Rd) : Prop :=
  aG R.T Pd = true → (jA R.T c.1 = true ∨ ((∀ p ∈ R.M0, p ∈ M) ∧ Le R.r0 r)) →
  ∀ f e a w Y, pCl Pd f → Fr R.n a c.2 R.D → pOk a Pd f e → St R.E R.w0 R.X w Y (M ++ pM Pd f e) → Le r (rd w Y) → wpU R (pT Pd f c.1) a w
attribute [local semireducible] Gt
theorem zFu{T:List Nat}{l:Array Bool}{i:Nat}(h:jA T l=true):jA T (l.setIfInBounds i true)=true:=by
 unfold jA at *;rw[x7]at *;obtain⟨t,ht,h⟩:=h;exact⟨t,ht,getD_set_true h⟩
theorem zAl{T:List Nat}:∀(Pd:List Pn)(f:Nat→Bool)(l:Array Bool),aG T Pd=true→jA T (pT Pd f l)=jA T l
 | [],_,_,_=>rfl
 | p::j,f,l,h=>by
  simp only[aG,x5,zd]at h;simp only[pT];refine(zAl j f _ (by simpa[aG]using h.2)).trans ?_
  cases f p.i
  ·rfl
  ·exact vW (fun e=>by have:=h.1;simp[e]at this)
def pNe(Pd:List Pn)(i:Nat)(d:Option Nat):Bool:=Pd.all fun p=>!(p.i==i)&&!(some p.d==d)
theorem qBk{ops:Array Oper}{T:List Nat}{l:Array Bool}{i j:Nat}(h:zAc ops T l i=true)(C:i≠j):zAc ops T (l.setIfInBounds j true) i=true:=by
 simp only[zAc,zd]at *;refine⟨h.1,?_,?_,h.2.2.2⟩
 ·have z:=h.2.1;unfold Region.free at *;cases ho:ops[i]? with
  | none=>simp[ho]at z
  | some G=>
   simp only[ho,qa]at z ⊢;intro k F;have:=z k F;simp only[ko]at this ⊢;rcases this with(f | f) | f
   ·exact .inl (.inl f)
   ·refine .inl (.inr ?_);by_cases q:j=k
    ·subst q;rcases qg j l.size with y | y
     ·simp[y]
     ·simp[vu,y]
    ·rw[jg true q];exact f
   ·exact .inr f
 ·have f:=h.2.2.1;rw[yf]at *;exact dm f C
theorem zOo{ops:Array Oper}{T:List Nat}{i:Nat}{d:Option Nat}:∀(Pd:List Pn)(f:Nat→Bool)(l:Array Bool),pNe Pd i d=true→zAc ops T l i=true→zAc ops T (pT Pd f l) i=true
 | [],_,_,_,h=>h
 | p::j,f,l,hp,h=>by
  simp only[pNe,x5,zd]at hp;refine zOo (d:=d) j f _ (by simpa[pNe]using hp.2) ?_
  cases f p.i
  ·exact h
  ·exact qBk h (fun e=>by have:=hp.1.1;simp[e]at this)
theorem zNx{i:Nat}{d:Option Nat}{a q:Act}{v:Value}{Pd:List Pn}{f:Nat→Bool}{e:Nat→Nat}(ha:q.tmps=(a.put d v).tmps)(hp:pNe Pd i d=true)(h:pOk a Pd f e):pOk q Pd f e:=fun p hm y=>by
 have j:=qa.1 hp p hm;simp only[zd,qq,xy]at j;rw[ha];cases d with
 | none=>exact h p hm y
 | some d=>
  have:d≠p.d:=fun e=>j.2 (by rw[e])
  show(a.tmps.setIfInBounds d v)[p.d]?=_;rw[xc this];exact h p hm y
section
variable {R:Rg}{Pd:List Pn}{c:Array Bool×List (Nat×Value)}{M:List (Nat×Obj)}{r:Rd}
theorem hold{f:Nat→Bool}{e:Nat→Nat}{w:World}{Y:Hid}(G:aG R.T Pd=true)(j:jA R.T c.1=true∨((∀p∈R.M0,p∈M)∧Le R.r0 r))(F:St R.E R.w0 R.X w Y (M++pM Pd f e))(y:Le r (rd w Y)):jA R.T (pT Pd f c.1)=false→R.S w:=fun q=>by
 rw[zAl Pd f _ G]at q;rcases j with j | ⟨z,C⟩
 ·rw[j]at q;cases q
 ·exact⟨fun p hp=>(F.own p (k9 _ (z p hp))).1,fun a v hv=>yO (y _ _ (C _ _ hv))⟩
def gv(R:Rg)(i:Nat)(v:Value)(c:Array Bool×List (Nat×Value)):Array Bool×List (Nat×Value):=
 (c.1.setIfInBounds i true,match(zT R.ops i).dst with
  | some d=>(d,v)::c.2
  | none=>c.2)
def gd(R:Rg)(i:Nat):Nat:=(zT R.ops i).dst.getD 0
def gok(R:Rg)(Pd:List Pn)(c:Array Bool×List (Nat×Value))(i:Nat):Bool:=zAc R.ops R.T c.1 i&&(chk R.ops c.2 (zT R.ops i) (gd R i) R.n&&pNe Pd i (zT R.ops i).dst)
theorem zQa(i:Nat){v:Value}(y:(∀w,(execOp (evL c.2) (zT R.ops i)).run R.P w= .ok (.value v) w)∨((zIq R.ops R.T i&&!jA R.T c.1)=true∧∀w,R.S w→(execOp (evL c.2) (zT R.ops i)).run R.P w= .ok (.value v) w))
  (k:Gt R Pd (gv R i v c) M r) (N:R.ops[i]?=some (zT R.ops i):=by kernel_rfl) (j:gok R Pd c i=true:=by kernel_rfl):Gt R Pd c M r:=by
 intro z C f e a w Y J I hp F q;simp only[gok,zd]at j;have G:=j.2.1;simp only[chk,zd]at G;obtain⟨hd,hlt⟩:=qK G.2.2;have hT:i∉R.T:=(rP j.1).2.2.2;refine jFg (i:=i) N (zOo Pd f _ j.2.2 j.1) j.2.1 I (by rw[zAl Pd f _ z];exact y) (hold z C F q) (fun H=>?_)
 rw[←zHr];exact k z (by
  show jA R.T (c.1.setIfInBounds i true)=true∨_;rw[vW hT];exact C) f e (a.put (some (gd R i)) v) w Y J (by simp only[gv,hd];exact H) (zNx (v:=v) (by rw[hd]) j.2.2 hp) F q
theorem qXs(i:Nat)(k:Gt R Pd (gv R i undef c) M r)(I:R.ops[i]?=some (zT R.ops i):=by kernel_rfl)(j:(zAc R.ops R.T c.1 i&&(kD R.ops c.2 (zT R.ops i) false&&aC (zT R.ops i) (gd R i) R.n&&pNe Pd i (zT R.ops i).dst))=true:=by kernel_rfl):Gt R Pd c M r:=by
 intro C y f e a w Y H G hp z q;simp only[zd]at j;obtain⟨hd,hlt⟩:=qK j.2.1.2;have hT:i∉R.T:=(rP j.1).2.2.2;refine jCy (i:=i) (d:=gd R i) I (zOo Pd f _ j.2.2 j.1) (by simp only[j.2.1.1,j.2.1.2,jf]) G (hold C y z q) (fun F=>?_)
 rw[←zHr];exact k C (by
  show jA R.T (c.1.setIfInBounds i true)=true∨_;rw[vW hT];exact y) f e (a.put (some (gd R i)) undef) w Y H (by simp only[gv,hd];exact F) (zNx (v:=undef) (by rw[hd]) j.2.2 hp) z q
def g1(R:Rg)(Pd:List Pn)(w:World)(i:Nat)(c:Array Bool×List (Nat×Value)):Option ((Array Bool×List (Nat×Value))×World):=
 match R.ops[i]? with
 | none=>none
 | some o=>
  bif zAc R.ops R.T c.1 i&&pNe Pd i o.dst then
   match o.dst with
   | none=>none
   | some d=>
    bif Nat.blt d R.n then
     bif kD R.ops c.2 o true then
      bif nQ c.2 o then
       match(execOp (evL c.2) o).run R.P w with
       | .ok (.value v) f=>fv v fun v=>some ((c.1.setIfInBounds i true,(d,v)::c.2),f)
       | _=>none
      else none
     else bif kD R.ops c.2 o false then some ((c.1.setIfInBounds i true,(d,undef)::c.2),w)else none
    else none
  else none
def gc(R:Rg)(Pd:List Pn)(i:Nat)(c:Array Bool×List (Nat×Value)):Array Bool×List (Nat×Value):=match g1 R Pd R.w0 i c with
 | some (c,_)=>c
 | none=>c
def gk(R:Rg)(Pd:List Pn):List Nat→Array Bool×List (Nat×Value)→Array Bool×List (Nat×Value)
 | [],c=>c
 | i::f,c=>gk R Pd f (gc R Pd i c)
theorem jEc{i:Nat}(h:∀w,g1 R Pd w i c=some (gc R Pd i c,w))(k:Gt R Pd (gc R Pd i c) M r):Gt R Pd c M r:=by
 generalize I:gc R Pd i c=U at h k;clear I;have f:=h R.w0;unfold g1 at h f;cases C:R.ops[i]? with
 | none=>simp[C]at f
 | some o=>
  have j:zT R.ops i=o:=by simp[zT,C]
  simp only[C]at h f;cases ht:zAc R.ops R.T c.1 i<;>simp only[ht,uF,xp,zf,ze]at h f
  ·cases f
  cases J:pNe Pd i o.dst<;>simp only[J,zf,ze]at h f
  ·cases f
  cases hd:o.dst with
  | none=>simp[hd]at f
  | some d=>
   simp only[hd]at h f;cases hlt:Nat.blt d R.n<;>simp only[hlt,zf,ze]at h f
   ·cases f
   have q:aC o d R.n=true:=by simp[aC,hd,hlt]
   have z:gd R i=d:=by simp[gd,j,hd]
   cases H:kD R.ops c.2 o true<;>simp only[H,zf,ze]at h f
   ·cases G:kD R.ops c.2 o false<;>simp only[G,zf,ze]at h f
    ·cases f
    cases f;refine qXs i (by simpa[gv,j,hd]using k) (by rw[j];exact C) ?_
    rw[j,z];simp only[ht,G,q,J,jf]
   ·cases F:nQ c.2 o<;>simp only[F,zf,ze]at h f
    ·cases f
    cases O:(execOp (evL c.2) o).run R.P R.w0 with
    | halt e w1=>simp[O]at f
    | ok y w1=>
     cases y<;>simp only[O,qFg]at f<;>try cases f
     rename_i v;refine zQa (v:=v) i (.inl fun w=>?_) (by simpa[gv,j,hd]using k) (by rw[j];exact C) ?_
     ·rw[j];have N:=h w;cases S:(execOp (evL c.2) o).run R.P w with
      | halt e w1=>simp[S]at N
      | ok y w1=>
       cases y<;>simp only[S,qFg]at N<;>cases N;rfl
     ·rw[gok,j,z];simp only[chk,ht,H,q,F,J,jf]
inductive GP (R:Rg) (Pd:List Pn):List Nat→Array Bool×List (Nat×Value)→Prop
  | nil {c:Array Bool×List (Nat×Value)}:GP R Pd [] c
  | cons {i:Nat} {is:List Nat} {c:Array Bool×List (Nat×Value)} (h:∀w,g1 R Pd w i c=some (gc R Pd i c,w)) (k:GP R Pd is (gc R Pd i c)):GP R Pd (i::is) c
theorem qFj:∀(f:List Nat){c:Array Bool×List (Nat×Value)},Gt R Pd (gk R Pd f c) M r→GP R Pd f c→Gt R Pd c M r
 | _,_,k,.nil=>k
 | _,_,k,.cons h j=>jEc h (qFj _ k j)
theorem gz(f:List Nat)(k:Gt R Pd (gk R Pd f c) M r)(h:GP R Pd f c:=by repeat (first | exact GP.nil | refine GP.cons (by intro w;kernel_rfl) ?_)):Gt R Pd c M r:=qFj f k h
theorem gl(i:Nat){f:List Value}{ad:Addr}(q:At R.r0 ad f)(k:Gt R Pd (gv R i (ldV (ldG R.P (zT R.ops i)) f) c) M r)(F:R.ops[i]?=some (zT R.ops i):=by kernel_rfl)(z:gok R Pd c i=true:=by kernel_rfl)
  (hT:(zIq R.ops R.T i&&!jA R.T c.1)=true:=by kernel_rfl)
  (ho:(zT R.ops i).op= .load (zEs (zT R.ops i)) (ldX (zT R.ops i)):=by kernel_rfl) (H:evL c.2 (ldX (zT R.ops i))= .pointer (some ad):=by kernel_rfl) (ht:ldT R.P (zEs (zT R.ops i))=some (ldG R.P (zT R.ops i),f.length):=by kernel_rfl) (C:(ldG R.P (zT R.ops i)||f.length==1)=true:=by kernel_rfl):Gt R Pd c M r:=
 zQa i (.inr ⟨hT,fun _ y=>zB ho H ht (by simpa using C) fun j v G=>y.2 _ _ (q j v G)⟩) k F z
def gow(R:Rg)(c:Array Bool×List (Nat×Value))(i j:Nat):List Value:=((cO R.M0 j).toList.drop (aX (evL c.2 (ldX (zT R.ops i))))).take (ldM R.P (zT R.ops i))
theorem gw(i j:Nat)(k:Gt R Pd (gv R i (ldV (ldG R.P (zT R.ops i)) (gow R c i j)) c) M r)(G:R.ops[i]?=some (zT R.ops i):=by kernel_rfl)(C:gok R Pd c i=true:=by kernel_rfl)
  (hT:(zIq R.ops R.T i&&!jA R.T c.1)=true:=by kernel_rfl)
  (ho:(zT R.ops i).op= .load (zEs (zT R.ops i)) (ldX (zT R.ops i)):=by kernel_rfl) (I:evL c.2 (ldX (zT R.ops i))= .pointer (some ⟨bO R.M0 j,aX (evL c.2 (ldX (zT R.ops i))),none⟩):=by kernel_rfl)
  (ht:ldT R.P (zEs (zT R.ops i))=some (ldG R.P (zT R.ops i),(gow R c i j).length):=by kernel_rfl) (F:(ldG R.P (zT R.ops i)||(gow R c i j).length==1)=true:=by kernel_rfl)
  (H:R.M0[j]?=some (bO R.M0 j,.cells (cO R.M0 j) (tO R.M0 j) (fO R.M0 j)):=by kernel_rfl):Gt R Pd c M r:=
 zQa i (.inr ⟨hT,fun w z=>zB ho I ht (by simpa using F) (by
  have y:=z.1 _ (qk H);intro q v f;rw[jT,kx w _ _ _ _ _ y];unfold gow at f;rw[qi]at f;split at f
  ·rw[jm]at f;simpa using f
  ·cases f)⟩) k G C
theorem gH(i:Nat){v:Value}(f:∀w,(execOp (evL c.2) (zT R.ops i)).run R.P w= .ok (.value v) w)(k:Gt R Pd (gv R i v c) M r)(q:R.ops[i]?=some (zT R.ops i):=by kernel_rfl)(j:gok R Pd c i=true:=by kernel_rfl):Gt R Pd c M r:=zQa i (.inl f) k q j
theorem gi(j:Nat){b off len cap:Nat}{kd:IntKind}{i:Int}(m f:Nat)(k:Gt R Pd (gv R j (.pointer (some ⟨b,f,none⟩)) c) M r)(z:0≤i:=by omega)(C:i<len:=by omega)
  (q:off+i.toNat*m=f:=by first | rfl | omega | (simp;done) | (simp;omega)) (hm:ldS R.P (idE R.P (idT (zT R.ops j)))=m:=by kernel_rfl) (H:evL c.2 (idX (zT R.ops j))= .slice (some ⟨b,off,none⟩) len cap:=by kernel_rfl) (G:evL c.2 (idI (zT R.ops j))= .int kd i:=by kernel_rfl)
  (ho:(zT R.ops j).op= .indexAddr (idT (zT R.ops j)) (idX (zT R.ops j)) (idI (zT R.ops j)):=by kernel_rfl) (ht:R.P.underlying (idT (zT R.ops j))=some (.slice (idE R.P (idT (zT R.ops j)))):=by kernel_rfl)
  (he:ldT R.P (idE R.P (idT (zT R.ops j)))=some (zQp R.P (idE R.P (idT (zT R.ops j))),ldS R.P (idE R.P (idT (zT R.ops j)))):=by kernel_rfl) (y:R.ops[j]?=some (zT R.ops j):=by kernel_rfl) (F:gok R Pd c j=true:=by kernel_rfl):Gt R Pd c M r:=
 gH j (fun w=>jE ho ht H G he z C (by rw[hm];exact q) w) k y F
def gst(c:Array Bool×List (Nat×Value))(t:Nat)(v:Value):Array Bool×List (Nat×Value):=(c.1,(t,v)::c.2)
def gsl(c:Array Bool×List (Nat×Value))(t:Nat):Option Value:=bif has c.2 t then some (sJ c.2 t)else none
theorem qMt(t:Nat){v y:Value}(he:v=y)(h:Gt R Pd (gst c t y) M r)(hv:gsl c t=some v:=by kernel_rfl):Gt R Pd c M r:=by
 intro H z f e a w Y G C hp F j;unfold gsl at hv;cases q:has c.2 t<;>simp only[q,zf,ze]at hv<;>cases hv;exact h H z f e a w Y G (C.set t q rfl he) hp F j
theorem gt(t:Nat){p:Prop}[Decidable p](ht:p→Gt R Pd (gst c t (.bool true)) M r)(f:¬p→Gt R Pd (gst c t (.bool false)) M r)(hv:gsl c t=some (.bool (decide p)):=by kernel_rfl):Gt R Pd c M r:=by
 by_cases h:p
 ·exact qMt t (by rw[kn h]) (ht h) hv
 ·exact qMt t (by rw[we h]) (f h) hv
theorem gb(t:Nat){b:Bool}(ht:b=true→Gt R Pd (gst c t (.bool true)) M r)(f:b=false→Gt R Pd (gst c t (.bool false)) M r)(hv:gsl c t=some (.bool b):=by kernel_rfl):Gt R Pd c M r:=by
 cases b
 ·exact qMt t rfl (f rfl) hv
 ·exact qMt t rfl (ht rfl) hv
theorem qQr{P:Program}{o:Oper}{a:Act}{w:World}{K:Act→World→Prop}{Q:Exit→Act→World→Prop}(h:o.wp P a w K Q):o.wp P a w (fun y q=>K y q∧∃v,y.tmps=(a.put o.dst v).tmps) Q:=by
 unfold Oper.wp at *;generalize (execOp a.eval o).run P w=r at *;cases r with
 | ok n q=>
  cases n<;>simp only[Oper.upon]at h ⊢
  case value v=>exact⟨h,v,rfl⟩
  case skip=>exact⟨h,undef,rfl⟩
  case defer d=>exact⟨h,undef,by cases o.dst<;>rfl⟩
  case enter f j=>exact Calls.mono h (fun e z he=>by cases e<;>first | exact⟨he,_,rfl⟩ | exact he)
  case row row j=>exact Rows.mono h (fun v _ he=>⟨he,v,rfl⟩)
 | halt x q=>cases x<;>simp only[Oper.upon]at h ⊢<;>exact h
def LeA(l f:Array Bool):Prop:=∀k,l.getD k false=true→f.getD k false=true
theorem zHx{ops:Array Oper}{l y:Array Bool}{j:Nat}(C:j∈Region.ready .any ops l)(F:LeA l y)(q:y.getD j true=false):j∈Region.ready .any ops y:=by
 rw[xo]at *;obtain⟨_,o,ho,f⟩:=C;exact⟨q,o,ho,fun e he z=>F _ (f e he z)⟩
theorem LeA.set{l j:Array Bool}(h:LeA l j)(i:Nat)(z:l.size=j.size):LeA (l.setIfInBounds i true) (j.setIfInBounds i true):=fun k q=>by
 by_cases f:i=k
 ·subst f;rcases qg i l.size with y | y
  ·simp[show i<j.size by omega]
  ·simp[vu,y]at q
 ·rw[jg false f]at q ⊢;exact h k q
theorem LeA.setr{l f:Array Bool}(h:LeA l f)(i:Nat):LeA l (f.setIfInBounds i true):=fun k j=>getD_set_true (h k j)
theorem zYh:∀(Pd:List Pn)(f:Nat→Bool)(l j:Array Bool),l.size=j.size→LeA l j→LeA (pT Pd f l) (lT Pd j)
 | [],_,_,_,_,h=>h
 | p::y,f,l,j,q,h=>by
  simp only[pT,lT,ze];cases f p.i
  ·exact zYh y f l _ (by simpa using q) (h.setr p.i)
  ·exact zYh y f _ _ (by simpa using q) (h.set p.i q)
def zLd(Pd:List Pn)(j:Nat):Prop:=∀p∈Pd,p.i≠j
theorem zHq:∀(Pd:List Pn)(f:Nat→Bool)(l:Array Bool)(j:Nat),zLd Pd j→(pT Pd f l).getD j true=l.getD j true
 | [],_,_,_,_=>rfl
 | p::z,f,l,j,h=>by
  refine(zHq z f _ j fun q y=>h q (z6 _ y)).trans ?_;cases f p.i
  ·rfl
  ·exact jg true (h p (qS ..))
theorem qIp:∀(Pd:List Pn)(f:Nat→Bool)(l j:Array Bool),LeA l j→LeA l (pT Pd f j)
 | [],_,_,_,h=>h
 | p::q,f,l,j,h=>by
  refine qIp q f l _ ?_;cases f p.i
  ·exact h
  ·exact h.setr p.i
theorem zNy:∀(Pd:List Pn)(f:Nat→Bool)(l:Array Bool)(j:Nat),(pT Pd f l).getD j false=true→l.getD j false=true∨f j=true
 | [],_,_,_,h=> .inl h
 | p::y,f,l,j,h=>by
  rcases zNy y f _ j h with h | h
  ·cases hp:f p.i
   ·rw[hp]at h;exact .inl h
   ·rw[hp]at h;by_cases q:p.i=j
    ·exact .inr (q▸hp)
    ·exact .inl (by rwa[ze,jg false q]at h)
  ·exact .inr h
theorem qIq:∀(Pd:List Pn)(f:Nat→Bool)(l:Array Bool),∀p∈Pd,f p.i=true→p.i<l.size→(pT Pd f l).getD p.i false=true
 | q::z,f,l,p,hp,y,hlt=>by
  rcases qj.1 hp with rfl | j
  ·refine qIp z f _ _ (fun _ h=>h) _ ?_;simp[y,hlt]
  ·exact qIq z f _ p j y (by cases f q.i<;>simpa using hlt)
theorem dD:∀(Pd:List Pn)(f g:Nat→Bool)(l:Array Bool),(∀q∈Pd,f q.i=g q.i)→pT Pd f l=pT Pd g l
 | [],_,_,_,_=>rfl
 | p::y,f,g,l,h=>by
  simp only[pT];rw[h p (qS ..)];exact dD y f g _ fun q j=>h q (z6 _ j)
theorem zHp:∀(Pd:List Pn)(f g:Nat→Bool)(e j:Nat→Nat),(∀q∈Pd,f q.i=g q.i∧(f q.i=true→e q.i=j q.i∧q.loc e=q.loc j))→pM Pd f e=pM Pd g j
 | [],_,_,_,_,_=>rfl
 | p::I,f,g,e,j,h=>by
  simp only[pM];rw[zHp I f g e j fun q H=>h q (z6 _ H)];obtain⟨y,z⟩:=h p (qS ..);rw[←y];cases G:f p.i
  ·rfl
  ·obtain⟨C,F⟩:=z G;rw[C,F]
def bZ:List Pn→Bool
 | []=>true
 | p::f=>pNe f p.i (some p.d)&&bZ f
theorem vL{Pd:List Pn}{i d:Nat}(h:pNe Pd i (some d)=true):∀q∈Pd,q.i≠i∧q.d≠d:=fun q f=>by
 have:=qa.1 h q f;simpa using this
theorem zHn:∀{Pd:List Pn},bZ Pd=true→∀p∈Pd,∀q∈Pd,p.i=q.i∨p.d=q.d→p=q
 | x::C,h,p,hp,q,z,he=>by
  simp only[bZ,zd]at h;by_cases y:p=x
  ·by_cases f:q=x
   ·rw[y,f]
   ·have:=vL h.1 q ((qj.1 z).resolve_left f);rw[y]at he;rcases he with he | he
    ·exact absurd he.symm this.1
    ·exact absurd he.symm this.2
  ·have j:=(qj.1 hp).resolve_left y;by_cases f:q=x
   ·have:=vL h.1 p j;rw[f]at he;rcases he with he | he
    ·exact absurd he this.1
    ·exact absurd he this.2
   ·exact zHn h.2 p j q ((qj.1 z).resolve_left f) he
def cnt(Pd:List Pn)(f:Nat→Bool):Nat:=Pd.countP fun p=>!f p.i
def nb(p:Pn)(e:Nat→Nat):List (Nat×Obj):=match p.ob with
 | some o=>[(e p.i,o (p.loc e))]
 | none=>[]
theorem zUk{q:Pn}{f:Nat→Bool}{e:Nat→Nat}{j b:Nat}(h:∀k,f (q.deps.getD k q.i)=true)(y:f j=false):q.loc (up e j b)=q.loc e:=funext fun k=>sZ e b fun he=>by rw[←he,h k]at y;cases y
theorem qTi{f:Nat→Bool}{p:Pn}:∀{Pd:List Pn}{l:Array Bool},bZ Pd=true→p∈Pd→pT Pd (up f p.i true) l=(pT Pd f l).setIfInBounds p.i true
 | q::z,l,hd,hp=>by
  simp only[bZ,zd]at hd;simp only[pT];by_cases y:p=q
  ·subst y;rw[wS,ze,dD z (up f p.i true) f _ fun x C=>sZ f true (vL hd.1 x C).1,←zHr];cases f p.i
   ·rfl
   ·simp
  ·have j:p∈z:=(qj.1 hp).resolve_left y;rw[sZ f true (fun e=>(vL hd.1 p j).1 e.symm)];exact qTi hd.2 j
theorem qTh{f:Nat→Bool}{e:Nat→Nat}{p:Pn}{b:Nat}(F:f p.i=false):∀{Pd:List Pn},bZ Pd=true→pCl Pd f→p∈Pd→(pM Pd (up f p.i true) (up e p.i b)).Perm (nb p (up e p.i b)++pM Pd f e)
 | q::J,hd,j,hp=>by
  simp only[bZ,zd]at hd;simp only[pM];by_cases H:p=q
  ·subst H;rw[wS f,ze,F,zf,kB,zHp J (up f p.i true) f (up e p.i b) e fun x y=>⟨sZ f true (vL hd.1 x y).1,fun h=>⟨sZ e b (vL hd.1 x y).1,zUk (j x (z6 _ y) (by rwa[sZ f true (vL hd.1 x y).1]at h)).2 F⟩⟩]
   exact List.Perm.refl _
  ·have C:p∈J:=(qj.1 hp).resolve_left H;have z:q.i≠p.i:=fun e=>(vL hd.1 p C).1 e.symm;have I:=qTh (e:=e) (b:=b) F hd.2 (fun x y=>j x (z6 _ y)) C;rw[sZ f true z];cases G:f q.i
   ·simpa using I
   ·rw[sZ e b z,zUk (j q (qS ..) G).2 F];refine(I.append_left _).trans ?_;rw[←qt,←qt];exact f8.append_right _
theorem jBj{a a':Act}{f:Nat→Bool}{e:Nat→Nat}{p:Pn}{b:Nat}{Pd:List Pn}(hd:bZ Pd=true)(C:pCl Pd f)(hp:p∈Pd)(H:f p.i=false)(hlt:p.d<a.tmps.size)(ha:a'.tmps=(a.put (some p.d) (p.val (up e p.i b))).tmps)(h:pOk a Pd f e):pOk a' Pd (up f p.i true) (up e p.i b):=fun q G F=>by
 rw[ha];show(a.tmps.setIfInBounds p.d _)[q.d]?=_;by_cases z:p=q
 ·subst z;simp[hlt]
 ·have y:¬(p.i=q.i∨p.d=q.d):=fun e=>z (zHn hd p hp q G e);have j:f q.i=true:=by rwa[sZ f true (fun e=>y (.inl e.symm))]at F
  rw[xc (fun e=>y (.inr e)),h q G j];unfold Pn.val;rw[zUk (C q G j).2 H]
theorem qDx{f:Nat→Bool}{p:Pn}:∀{Pd:List Pn},bZ Pd=true→p∈Pd→f p.i=false→cnt Pd (up f p.i true)+1=cnt Pd f
 | q::y,hd,hp,z=>by
  simp only[bZ,zd]at hd;unfold cnt;simp only[List.countP_cons];by_cases C:p=q
  ·subst C;have:y.countP (fun x=>!up f p.i true x.i)=y.countP (fun x=>!f x.i):=List.countP_congr fun x F=>by rw[sZ f true (vL hd.1 x F).1]
   rw[this,wS,z];simp
  ·have j:p∈y:=(qj.1 hp).resolve_left C;have G:=qDx hd.2 j z;unfold cnt at G;rw[sZ f true (fun e=>(vL hd.1 p j).1 e.symm)];omega
theorem Fr.put_ne{n:Nat}{a:Act}{L:List (Nat×Value)}{D:List Deferred}(h:Fr n a L D){d:Nat}(hd:has L d=false)(v:Value):Fr n (a.put (some d) v) L D:=by
 refine⟨by simpa[Act.put]using h.size,h.defers,fun t ht=>?_⟩
 have f:d≠t:=fun e=>by subst e;rw[hd]at ht;cases ht
 show(a.tmps.setIfInBounds d v)[t]?=_;rw[xc f];exact h.get t ht
def pS(Pd:List Pn)(e:Nat→Nat):List (Nat×Value):=match Pd with
 | []=>[]
 | p::f=>(p.d,p.val e)::pS f e
def wto(o:Oper)(j:Nat):Bool:=o.after.any fun e=>Region.binds .any e&&e.on==j
def zNl(R:Rg)(c:Array Bool×List (Nat×Value))(Pd:List Pn)(p:Pn):Bool:=
 (kD R.ops c.2 (zT R.ops p.i) true&&(aC (zT R.ops p.i) p.d R.n&&(!has c.2 p.d&&!c.1.getD p.i true)))&&
 (p.deps.all (fun j=>j==p.i||((wto (zT R.ops p.i) j&&!c.1.getD j true)||Pd.any fun q=>wto (zT R.ops p.i) q.i&&q.deps.contains j))&&
 (zT R.ops p.i).op.operands.toList.all fun x=>match x with
  | .tmp t=>Pd.all fun q=>!(q.d==t)||wto (zT R.ops p.i) q.i
  | _=>true)
def zOp(R:Rg)(l:Array Bool):List Nat→List Pn→Bool
 | _,[]=>true
 | es,p::f=>(zT R.ops p.i).after.all (fun e=>!Region.binds .any e||(l.getD e.on false||es.contains e.on))&&zOp R l (p.i::es) f
inductive kW (R:Rg) (c:Array Bool×List (Nat×Value)) (Pd:List Pn):List Pn→Prop
  | nil:kW R c Pd []
  | cons {p:Pn} {ps:List Pn} (hb:zNl R c Pd p=true) (hi:R.ops[p.i]?=some (zT R.ops p.i)) (ho:∀e,nQ (pS Pd e++c.2) (zT R.ops p.i)=true)
      (hr:∀e w,(execOp (evL (pS Pd e++c.2)) (zT R.ops p.i)).run R.P w= .ok (.value (p.val (up e p.i w.heap.size))) (match p.ob with
        | none=>w
        | some o=>w.alloc (o (p.loc (up e p.i w.heap.size))))) (k:kW R c Pd ps):kW R c Pd (p::ps)
theorem kW.k{Pd f:List Pn}{p:Pn}(k:kW R c Pd f)(j:zNl R c Pd p=true:=by kernel_rfl)(q:R.ops[p.i]?=some (zT R.ops p.i):=by kernel_rfl)(ho:∀e,nQ (pS Pd e++c.2) (zT R.ops p.i)=true:=by intro e;kernel_rfl)
  (y:∀e w,(execOp (evL (pS Pd e++c.2)) (zT R.ops p.i)).run R.P w= .ok (.value (p.val (up e p.i w.heap.size))) (match p.ob with
    | none=>w
    | some o=>w.alloc (o (p.loc (up e p.i w.heap.size)))):=by intro e w;kernel_rfl):kW R c Pd (p::f):= .cons j q ho y k
theorem kW.get{Pd:List Pn}:∀{f:List Pn},kW R c Pd f→∀p∈f,zNl R c Pd p=true∧R.ops[p.i]?=some (zT R.ops p.i)∧(∀e,nQ (pS Pd e++c.2) (zT R.ops p.i)=true)∧
  ∀e w,(execOp (evL (pS Pd e++c.2)) (zT R.ops p.i)).run R.P w= .ok (.value (p.val (up e p.i w.heap.size))) (match p.ob with
    | none=>w
    | some o=>w.alloc (o (p.loc (up e p.i w.heap.size))))
 | _,.cons j q ho y k,p,hp=>by
  rcases qj.1 hp with rfl | hp
  ·exact⟨j,q,ho,y⟩
  ·exact k.get p hp
theorem zXl{n:Nat}{a:Act}{L:List (Nat×Value)}{D:List Deferred}(y:Fr n a L D){e:Nat→Nat}{t:Nat}:∀{j:List Pn},(∀q∈j,q.d=t→a.tmps[t]?=some (q.val e))→has (pS j e++L) t=true→a.tmps[t]?=some (sJ (pS j e++L) t)
 | [],_,f=>y.get t f
 | p::j,h,f=>by
  simp only[pS,x8,has,sJ]at f ⊢;cases z:Nat.beq p.d t with
  | true=>exact h p (qS ..) (qp z)
  | false=>
   rw[z]at f;exact zXl y (fun q C=>h q (z6 _ C)) f
theorem qKj{ops:Array Oper}{l:Array Bool}{i j:Nat}{o:Oper}(ho:ops[i]?=some o)(z:i∈Region.ready .any ops l)(h:wto o j=true):l.getD j false=true:=by
 obtain⟨_,C,y,f⟩:=xo.1 z;obtain rfl:C=o:=q8 (y.symm.trans ho);obtain⟨e,he,q⟩:=Array.any_eq_true'.1 h;simp only[zd,gR]at q;exact q.2▸f e he q.1
theorem zAv{l:Array Bool}{j:Nat}(h:l.getD j true=false):l.getD j false=false∧j<l.size:=by
 rcases qg j l.size with f | f
 ·exact⟨by simpa[f]using h,f⟩
 ·simp[vu f]at h
theorem nrun{f:Nat→Bool}{e:Nat→Nat}{a:Act}{w:World}{Pd:List Pn}{p:Pn}{K:Act→World→Prop}(F:kW R c Pd Pd)(hp:p∈Pd)(W:pCl Pd f)(V:Fr R.n a c.2 R.D)(hok:pOk a Pd f e)(hr:p.i∈Region.ready .any R.ops (pT Pd f c.1))
  (hK:(∀k,up f p.i true (p.deps.getD k p.i)=true)→p.d<a.tmps.size→has c.2 p.d=false→K (a.put (some p.d) (p.val (up e p.i w.heap.size))) (match p.ob with
    | none=>w
    | some o=>w.alloc (o (p.loc (up e p.i w.heap.size))))):wpOp R.P R.ops (wD R.Q) p.i K a w:=by
 obtain⟨q1,q2,q3,q4⟩:=F.get p hp;simp only[zNl,zd]at q1;obtain⟨⟨hw,hd,hno,hun⟩,O,S⟩:=q1;obtain⟨hd1,hlt⟩:=qK hd;have y:∀j,wto (zT R.ops p.i) j=true→c.1.getD j true=false→f j=true:=fun j I J=>by
  rcases zNy Pd f c.1 j (qKj q2 hr I)with h | h
  ·rw[(zAv J).1]at h;cases h
  ·exact h
 have N:∀k,up f p.i true (p.deps.getD k p.i)=true:=fun k=>by
  rcases qg k p.deps.length with U | U
  ·have hm:p.deps.getD k p.i∈p.deps:=by rw[zp,jn U];exact j3 U
   have:=qa.1 O _ hm;simp only[ko,gR,zd,qq]at this;by_cases he:p.deps.getD k p.i=p.i
   ·rw[he,wS]
   ·rw[sZ f true he];rcases this with h | ⟨I,J⟩ | h
    ·exact absurd h he
    ·exact y _ I J
    ·rw[x7]at h;obtain⟨q,H,G⟩:=h;simp only[zd,yf]at G;have C:=(F.get q H).1;simp only[zNl,zd,qq]at C;have hfq:=y q.i G.1 C.1.2.2.2;obtain⟨k',hk',he'⟩:=List.getElem_of_mem G.2;have:=(W q H hfq).2 k';rwa[zp,jn hk',jt,he']at this
  ·rw[zp,qb U];exact wS ..
 unfold wpOp;simp only[q2];rw[qn (V.wanted hw)];refine .inl ?_;have z:=q3 e;simp only[nQ,zd]at z;have hex:execOp a.eval (zT R.ops p.i)=execOp (evL (pS Pd e++c.2)) (zT R.ops p.i):=gu _ (lN z.1) fun x hx=>by
  have T:x∈(zT R.ops p.i).op.operands.toList:=by simpa using hx
  have Z:=fF z.2 x T;cases x with
  | tmp t=>
   have I:=qa.1 S _ T;have J:a.tmps[t]?=some (sJ (pS Pd e++c.2) t):=zXl V (fun q H he=>by
    have h3:=qa.1 I q H;simp only[ko,qq,xy]at h3;have h4:=h3.resolve_left (fun h=>h he);have C:=(F.get q H).1;simp only[zNl,zd,qq]at C;rw[←he];exact hok q H (y q.i h4 C.1.2.2.2)) Z
   show a.tmps.getD t undef=_;simp[J,evL]
  | _=>rfl
 unfold Oper.wp;rw[hex,q4 e w];show K (a.put (zT R.ops p.i).dst _) _;rw[hd1];exact hK N (by rw[V.size];exact hlt) (by simpa using hno)
theorem zMu(H:(Nat→Bool)→Bool)(hstop:∀f,(∀p∈Pd,f p.i=true)→H f=true)(J:kW R c Pd Pd)(z:(bZ Pd&&zOp R c.1 [] Pd.reverse)=true)
  (hne:∀f e a w Y,pCl Pd f→Fr R.n a c.2 R.D→pOk a Pd f e→St R.E R.w0 R.X w Y (M++pM Pd f e)→Le r (rd w Y)→
   (H f=false→∀j∈Region.ready .any R.ops (pT Pd f c.1),zLd Pd j→wpOp R.P R.ops (wD R.Q) j (fun a' W=>(jA R.T ((pT Pd f c.1).setIfInBounds j true)=false→R.S W)∧wpU R ((pT Pd f c.1).setIfInBounds j true) a' W) a w)∧
   (H f=true→wpU R (pT Pd f c.1) a w))
  (hf:aG R.T Pd=true) (h0:jA R.T c.1=true∨((∀p∈R.M0,p∈M)∧Le R.r0 r)):
  ∀(m:Nat)(f:Nat→Bool)(e:Nat→Nat)(a:Act)(w:World)(Y:Hid),cnt Pd f=m→pCl Pd f→Fr R.n a c.2 R.D→pOk a Pd f e→St R.E R.w0 R.X w Y (M++pM Pd f e)→Le r (rd w Y)→wpU R (pT Pd f c.1) a w:=by
 simp only[zd]at z;intro m;induction m using Nat.strongRecOn with
 | _ m ih=>
  intro f e a w Y hm N hF hp hS Z;obtain⟨h1,h2⟩:=hne f e a w Y N hF hp hS Z;cases J0:H f
  case true=>exact h2 J0
  have hr:Region.ready .any R.ops (pT Pd f c.1)≠[]:=by
   have key:∀(O:List Pn)(es:List Nat),zOp R c.1 es O=true→(∀x∈es,∃q∈Pd,q.i=x∧f x=true)→(∀p∈O,p∈Pd)→(∃p∈O,f p.i=false)→∃p∈Pd,p.i∈Region.ready .any R.ops (pT Pd f c.1):=by
    intro O;induction O with
    | nil=>rintro es _ _ _ ⟨p,hp,_⟩;cases hp
    | cons q O ihp=>
     rintro es ht hes V ⟨p,hp,C⟩;simp only[zOp,zd]at ht;have hq:q∈Pd:=V q (qS ..);cases I:f q.i with
     | true=>
      refine ihp (q.i::es) ht.2 (fun x hx=>?_) (fun p hp=>V p (z6 _ hp)) ⟨p,?_,C⟩
      ·rcases qj.1 hx with rfl | hx
       ·exact⟨q,hq,rfl,I⟩
       ·exact hes x hx
      ·refine(qj.1 hp).resolve_left fun e=>?_;rw[e,I]at C;cases C
     | false=>
      refine⟨q,hq,xo.2 ⟨?_,_,(J.get q hq).2.1,fun x hx hb=>?_⟩⟩
      ·have hqc:=(J.get q hq).1;simp only[zNl,zd,qq]at hqc;have hun:=zAv hqc.1.2.2.2;cases hg:(pT Pd f c.1).getD q.i false with
       | true=>
        rcases zNy Pd f c.1 q.i hg with h | h
        ·rw[hun.1]at h;cases h
        ·rw[I]at h;cases h
       | false=>
        have hsz:∀(O:List Pn)(l:Array Bool),(pT O f l).size=l.size:=by
         intro O;induction O with
         | nil=>intro l;rfl
         | cons y O ihs=>intro l;simp only[pT];rw[ihs];cases f y.i<;>simp
        have hlt:q.i<(pT Pd f c.1).size:=by rw[hsz];exact hun.2
        simpa[hlt]using hg
      ·have:=uP.1 ht.1 x hx;simp only[hb,zu,Bool.false_or,ko,yf]at this;rcases this with h | h
       ·exact qIp Pd f c.1 c.1 (fun _ h=>h) _ h
       ·obtain⟨y,hy,hyx,hfy⟩:=hes _ h;have hyc:=(J.get y hy).1;simp only[zNl,zd,qq]at hyc;rw[←hyx]at hfy ⊢;exact qIq Pd f c.1 y hy hfy (zAv hyc.1.2.2.2).2
   by_cases hex:∃p∈Pd,f p.i=false
   ·obtain⟨p,_,hpr⟩:=key Pd.reverse [] z.2 (fun x hx=>by cases hx) (fun p hp=>List.mem_reverse.1 hp) (hex.imp fun p h=>⟨List.mem_reverse.2 h.1,h.2⟩)
    intro h;rw[h]at hpr;cases hpr
   ·rw[hstop f fun p hp=>by
     cases C:f p.i
     ·exact absurd ⟨p,hp,C⟩ hex
     ·rfl]at J0
    cases J0
  refine qJy hr fun j hj=>?_;by_cases hin:zLd Pd j
  ·exact h1 J0 j hj hin
  ·obtain⟨p,G,hpj⟩:∃p∈Pd,p.i=j:=by
    apply xg;intro hno;exact hin fun p hp e=>hno ⟨p,hp,e⟩
   subst hpj;have C:f p.i=false:=by
    cases C:f p.i
    ·rfl
    ·have hpc:=(J.get p G).1;simp only[zNl,zd,qq]at hpc;have:=qIq Pd f c.1 p G C (zAv hpc.1.2.2.2).2;have h9:=(zAv (xo.1 hj).1).1;rw[this]at h9;cases h9
   refine nrun J G N hF hp hj fun hk hlt hno=>?_;have hcl2:pCl Pd (up f p.i true):=fun q hq I=>⟨I,by
    by_cases hqp:q.i=p.i
    ·obtain rfl:=zHn z.1 q hq p G (.inl hqp);exact hk
    ·have hfq':f q.i=true:=by rwa[sZ f true hqp]at I
     intro k;have:=(N q hq hfq').2 k;by_cases he:q.deps.getD k q.i=p.i
     ·rw[he,wS]
     ·rw[sZ f true he];exact this⟩
   have hp2:=jBj (e:=e) (b:=w.heap.size) z.1 N G C hlt (a':=a.put (some p.d) (p.val (up e p.i w.heap.size))) rfl hp;have Z2:=hF.put_ne hno (p.val (up e p.i w.heap.size));have hcnt:=qDx z.1 G C;have F:=qTh (e:=e) (b:=w.heap.size) C z.1 N G;rw[←qTi z.1 G];have hgo:∀W Y',St R.E R.w0 R.X W Y' (M++pM Pd (up f p.i true) (up e p.i w.heap.size))→Le r (rd W Y')→(jA R.T (pT Pd (up f p.i true) c.1)=false→R.S W)∧wpU R (pT Pd (up f p.i true) c.1) (a.put (some p.d) (p.val (up e p.i w.heap.size))) W:=fun W Y' hS' U=>⟨hold hf h0 hS' U,ih _ (by omega) _ _ _ _ _ rfl hcl2 Z2 hp2 hS' U⟩
   cases A:p.ob with
   | none=>
    simp only;refine hgo w Y (hS.perm ?_) Z;simp only[nb,A,kB]at F;exact F.append_left M
   | some o=>
    simp only;refine hgo _ _ ((hS.alloc (o (p.loc (up e p.i w.heap.size)))).perm ?_) (Z.trans (Le.hide_new _));simp only[nb,A,wS]at F;exact(F.append_left M).trans vm
theorem g_op(i:Nat)(h:∀a w Y B,Fr R.n a c.2 R.D→St R.E R.w0 R.X w Y (M++B)→Le r (rd w Y)→(zT R.ops i).wp R.P a w (fun W J=>∃L' V r' Y',Fr R.n W L' R.D∧St R.E R.w0 R.X J Y' (V++B)∧Le r' (rd J Y')∧
   (jA R.T (c.1.setIfInBounds i true)=true∨(((∀p∈R.M0,p∈M)→∀p∈R.M0,p∈V)∧Le r r'))∧Gt R Pd (c.1.setIfInBounds i true,L') V r') (wD R.Q))
  (hPd:kW R c Pd Pd) (hdis:(bZ Pd&&zOp R c.1 [] Pd.reverse)=true:=by kernel_rfl) (hi:R.ops[i]?=some (zT R.ops i):=by kernel_rfl) (hr:Region.ready .any R.ops (lT Pd c.1)=[i]:=by kernel_rfl) (hw:(kD R.ops c.2 (zT R.ops i) true&&pNe Pd i (zT R.ops i).dst)=true:=by kernel_rfl):Gt R Pd c M r:=by
 intro hf h0 f e a w Y O G hp N y;simp only[zd]at hw;have z:zLd Pd i:=fun p hp=>by
  have:=qa.1 hw.2 p hp;simp only[zd,qq,xy]at this;exact this.1
 have F:∀f e a w Y,pCl Pd f→Fr R.n a c.2 R.D→pOk a Pd f e→St R.E R.w0 R.X w Y (M++pM Pd f e)→Le r (rd w Y)→∀j∈Region.ready .any R.ops (pT Pd f c.1),zLd Pd j→
   wpOp R.P R.ops (wD R.Q) j (fun W J=>(jA R.T ((pT Pd f c.1).setIfInBounds j true)=false→R.S J)∧wpU R ((pT Pd f c.1).setIfInBounds j true) W J) a w:=by
  intro f e a w Y O G hp N y j U z;have H:j=i:=by
   have:j∈Region.ready .any R.ops (lT Pd c.1):=zHx U (zYh Pd f c.1 c.1 rfl (fun _ h=>h)) (by rw[lT,zHq Pd _ c.1 j z,←zHq Pd f c.1 j z];exact(xo.1 U).1)
   rw[hr]at this;simpa using this
  subst H;unfold wpOp;simp only[hi];rw[qn (G.wanted hw.1)];refine .inl (Oper.wp_mono ?_ (qQr (h a w Y (pM Pd f e) G N y)));rintro W J ⟨⟨L',V,r',Y',hF',hS',C,I,hG⟩,v,hv⟩;have hp':=zNx (i:=j) hv hw.2 hp;have Z:jA R.T (c.1.setIfInBounds j true)=true∨((∀p∈R.M0,p∈V)∧Le R.r0 r'):=by
   rcases I with I | ⟨h1,h2⟩
   ·exact .inl I
   ·rcases h0 with h0 | ⟨h3,h4⟩
    ·exact .inl (zFu h0)
    ·exact .inr ⟨h1 h3,h4.trans h2⟩
  rw[←zHr];exact⟨hold (c:=(c.1.setIfInBounds j true,L')) hf Z hS' C,hG hf Z f e W J Y' O hF' hp' hS' C⟩
 refine zMu (fun f=>Pd.all fun p=>f p.i) (fun f h=>qa.2 h) hPd hdis (fun f e a w Y O G hp N y=>⟨fun _=>F f e a w Y O G hp N y,fun hc=>?_⟩) hf h0 (cnt Pd f) f e a w Y rfl O G hp N y;have heq:pT Pd f c.1=lT Pd c.1:=dD Pd f _ c.1 fun q hq=>qa.1 hc q hq;refine qJy (by rw[heq,hr];simp) fun j U=>?_
 have H:j=i:=by rw[heq,hr]at U;simpa using U
 exact F f e a w Y O G hp N y j U (H▸z)
structure SzLe(w0 w:World):Prop where
 size:w0.heap.size≤w.heap.size
structure YLt(w0:World)(Y:Hid)(w:World):Prop where
 upd:SzLe w0 w
 lt:∀k o,Y k o→k<w.heap.size
def gV(R:Rg)(c:Array Bool×List (Nat×Value))(i:Nat):Option (FuncId×Array Value):=match evL c.2 (clF (zT R.ops i))with
 | .func (.func f) t cap=>bif t.isEmpty then some (f,(clA (zT R.ops i)).map (evL c.2)++cap)else none
 | _=>none
theorem qMr{i:Nat}{f:FuncId}{j:Array Value}(h:gV R c i=some (f,j)):∃cap,evL c.2 (clF (zT R.ops i))= .func (.func f) #[] cap∧(clA (zT R.ops i)).map (evL c.2)++cap=j:=by
 unfold gV at h;split at h
 ·rename_i q t cap he;cases ht:t.isEmpty<;>simp only[ht,ze,zf]at h<;>cases h;obtain rfl:t=#[]:=by simpa using ht
  exact⟨cap,he,rfl⟩
 ·cases h
theorem gC(i:Nat){f:FuncId}{vs:Array Value}{Φ:World→Hid→World→Value→Prop}(q:∀w Y B,St R.E R.w0 R.X w Y (M++B)→Le r (rd w Y)→Calls R.P f vs w (Ret E0 w (Φ w Y)))
  (k:∀v w Y w1,YLt R.w0 Y w→Le r (rd w1 Y)→Φ w Y w1 v→Gt R Pd (gv R i v c) M (rd w1 Y))
  (hPd:kW R c Pd Pd:=by exact kW.nil) (hv:gV R c i=some (f,vs):=by kernel_rfl) (C:(opk c.2 (zT R.ops i) (gd R i) R.n&&!R.T.contains i)=true:=by kernel_rfl) (ho:(zT R.ops i).op= .call {callee:= .value (clF (zT R.ops i)),args:=clA (zT R.ops i),argTypes:=clT (zT R.ops i)}:=by kernel_rfl)
  (hcall:∀w,(callFunc f vs).run R.P w= .ok (.enter f vs) w:=by intro w;kernel_rfl) (y:(bZ Pd&&zOp R c.1 [] Pd.reverse)=true:=by kernel_rfl) (O:R.ops[i]?=some (zT R.ops i):=by kernel_rfl) (S:Region.ready .any R.ops (lT Pd c.1)=[i]:=by kernel_rfl)
  (U:(kD R.ops c.2 (zT R.ops i) true&&pNe Pd i (zT R.ops i).dst)=true:=by kernel_rfl):Gt R Pd c M r:=by
 obtain⟨cap,N,ha⟩:=qMr hv;simp only[zd]at C;have hd:(zT R.ops i).dst=some (gd R i):=by
  have:=C.1;simp only[opk,zd]at this;exact(qK this.2).1
 refine g_op i (fun a w Y B J z j=>?_) hPd y O S U;refine kF J C.1 z ho N ha hcall (q w Y B z j) fun v w1 H F _ I V G=>?_;have:=k v w Y w1 ⟨⟨z.upd.size⟩,z.lt⟩ (j.trans F) I;refine⟨_,M,rd w1 Y,Y,G,H,Le.refl _,.inr ⟨fun h=>h,j.trans F⟩,?_⟩;simpa only[gv,hd]using this
theorem gp(p:Pn)(h:Gt R (p::Pd) c M r)(hp:(!R.T.contains p.i&&(!c.1.getD p.i true&&Pd.all fun q=>!(q.i==p.i)&&!q.deps.contains p.i))=true:=by kernel_rfl):Gt R Pd c M r:=by
 intro V N f e a w Y U O I S F;simp only[zd,qq]at hp;have H:∀q∈Pd,q.i≠p.i:=fun q j=>by
  have:=qa.1 hp.2.2 q j;simp only[zd,qq,xy]at this;exact this.1
 have G:∀q∈Pd,∀k,q.deps.getD k q.i≠p.i:=fun q j k=>by
  have:=qa.1 hp.2.2 q j;simp only[zd,qq,xy]at this;rcases qg k q.deps.length with C | C
  ·rw[zp,jn C];intro he;have hm:p.i∈q.deps:=by rw[←he];exact j3 C
   have J:=this.2;rw[←Bool.not_eq_true,yf]at J;exact J hm
  ·rw[zp,qb C];exact this.1
 have z:∀q∈Pd,f q.i=up f p.i false q.i:=fun q j=>(sZ f false (H q j)).symm;have:=h (by simp only[aG,x5,hp.1,qy,xp];exact V) N (up f p.i false) e a w Y (fun q j y=>by
  rcases qj.1 j with rfl | j
  ·rw[wS]at y;cases y
  ·refine⟨y,fun k=>?_⟩;rw[sZ f false (G q j k)];exact(U q j (by rwa[z q j])).2 k) O (fun q j y=>by
  rcases qj.1 j with rfl | j
  ·rw[wS]at y;cases y
  ·exact I q j (by rwa[z q j])) (by
  simp only[pM,wS,zf,kB];rw[zHp Pd (up f p.i false) f e e fun q j=>⟨(z q j).symm,fun _=>⟨rfl,rfl⟩⟩];exact S) F
 simp only[pT,wS,zf]at this;rwa[dD Pd (up f p.i false) f c.1 fun q j=>(z q j).symm]at this
theorem Fr.cons{n:Nat}{a:Act}{L:List (Nat×Value)}{D:List Deferred}(h:Fr n a L D){d:Nat}{v:Value}(hd:a.tmps[d]?=some v):Fr n a ((d,v)::L) D:=by
 refine⟨h.size,h.defers,fun t ht=>?_⟩;simp only[has,sJ]at *;cases f:Nat.beq d t with
 | true=>obtain rfl:=qp f;simpa using hd
 | false=>rw[f]at ht;simpa using h.get t (by simpa using ht)
def pB:List Pn→(Nat→Nat)→List (Nat×Obj)
 | [],_=>[]
 | p::f,e=>match p.ob with
  | some o=>(e p.i,o (p.loc e))::pB f e
  | none=>pB f e
theorem qIk:∀(Pd:List Pn)(f:Nat→Bool)(e:Nat→Nat),(∀p∈Pd,f p.i=true)→pM Pd f e=pB Pd e
 | [],_,_,_=>rfl
 | p::y,f,e,h=>by
  simp only[pM,pB,h p (qS ..),ze,qIk y f e fun q j=>h q (z6 _ j)];cases p.ob<;>rfl
def gfl(R:Rg)(Pd:List Pn)(l:Array Bool):Bool:=Pd.all fun p=>(Region.ready .any R.ops (lT (Pd.filter fun q=>!(q.i==p.i)) l)).all fun j=>Pd.any fun q=>q.i==j
theorem zNz{x:Nat}:∀(Pd:List Pn)(f:Nat→Bool)(l j:Array Bool),l.size=j.size→f x=false→LeA l j→LeA (pT Pd f l) (lT (Pd.filter fun q=>!(q.i==x)) j)
 | [],_,_,_,_,_,h=>h
 | p::C,f,l,j,y,z,h=>by
  simp only[pT];by_cases hp:p.i=x
  ·simp only[List.filter_cons,hp,beq_self_eq_true,zu,xi,wi,z,zf];exact zNz C f l j y z h
  ·simp only[List.filter_cons,show(p.i==x)=false by simpa using hp,qy,j7,lT,pT,ze]
   cases f p.i
   ·exact zNz C f _ _ (by simpa using y) z (h.setr p.i)
   ·exact zNz C f _ _ (by simpa using y) z (h.set p.i y)
theorem ge(k:∀e:Nat→Nat,Gt R [] (lT Pd c.1,pS Pd e++c.2) (pB Pd e++M) r)(O:kW R c Pd Pd)(hc:(bZ Pd&&zOp R c.1 [] Pd.reverse)=true:=by kernel_rfl)(S:gfl R Pd c.1=true:=by kernel_rfl):Gt R Pd c M r:=by
 intro hf h0 f e a w Y hb N hp J F;refine zMu (fun f=>Pd.all fun p=>f p.i) (fun f h=>qa.2 h) O hc (fun f e a w Y hb N hp J F=>⟨fun I j hj C=>?_,fun I=>?_⟩) hf h0 (cnt Pd f) f e a w Y rfl hb N hp J F
 ·exfalso;obtain⟨p,W,z⟩:∃p∈Pd,f p.i=false:=by
   apply xg;intro V;rw[qa.2 fun p hp=>by
    cases z:f p.i
    ·exact absurd ⟨p,hp,z⟩ V
    ·rfl]at I
   cases I
  have Z:(lT (Pd.filter fun q=>!(q.i==p.i)) c.1).getD j true=false:=by
   rw[lT,zHq _ _ c.1 j (fun q G=>C q (List.mem_filter.1 G).1),←zHq Pd f c.1 j C];exact(xo.1 hj).1
  have U:=zHx hj (zNz (x:=p.i) Pd f c.1 c.1 rfl z (fun _ h=>h)) Z;have:=qa.1 S p W;have:=qa.1 this j U;rw[x7]at this;obtain⟨q,G,he⟩:=this;exact C q G (by simpa using he)
 ·have y:∀p∈Pd,f p.i=true:=fun p hp=>qa.1 I p hp;have heq:pT Pd f c.1=lT Pd c.1:=dD Pd f _ c.1 fun q G=>y q G;rw[heq];rw[qIk Pd f e y]at J;have Z2:∀H:List Pn,(∀p∈H,p∈Pd)→Fr R.n a (pS H e++c.2) R.D:=by
   intro H;induction H with
   | nil=>intro _;exact N
   | cons p H ihp=>intro h;exact(ihp fun q G=>h q (z6 _ G)).cons (hp p (h p (qS ..)) (y p (h p (qS ..))))
  have:=k e (by rfl) (by
   show jA R.T (lT Pd c.1)=true∨_;rw[lT,zAl Pd _ _ hf];exact h0.imp id fun h=>⟨fun p hp=>uT _ (h.1 p hp),h.2⟩) f e a w Y (fun p hp=>by cases hp) (Z2 Pd fun _ h=>h) (fun p hp=>by cases hp) (by
   simp only[pM,jw];exact J.perm f8) F
  exact this
theorem gs1{p:Pn}(k:∀b,Gt R Pd (c.1.setIfInBounds p.i true,(p.d,p.vf fun _=>b)::c.2) (nb p (fun _=>b)++M) r)(U:kW R c (p::Pd) (p::Pd))(hc:(bZ (p::Pd)&&zOp R c.1 [] (p::Pd).reverse)=true:=by kernel_rfl)
  (F:(p.deps.all (fun j=>j==p.i)&&(Pd.all (fun q=>!q.deps.contains p.i)&&(Region.ready .any R.ops (lT Pd c.1)).all fun j=>(p::Pd).any fun q=>q.i==j))=true:=by kernel_rfl):Gt R (p::Pd) c M r:=by
 intro N h0 f e a w Y W S hp V G;simp only[zd]at F;have Z:aG R.T Pd=true:=by simp only[aG,x5,zd]at N;exact N.2
 have hpT:p.i∉R.T:=fun e=>by simp[aG,e]at N
 refine zMu (fun f=>f p.i) (fun f h=>h p (qS ..)) U hc (fun f e a w Y W S hp V G=>⟨fun H j hj I=>?_,fun H=>?_⟩) N h0 (cnt (p::Pd) f) f e a w Y rfl W S hp V G
 ·exfalso;have z:zLd Pd j:=fun q y=>I q (z6 _ y);have J:j∈Region.ready .any R.ops (pT Pd f c.1):=by simpa only[pT,H,zf]using hj
  have hjr:j∈Region.ready .any R.ops (lT Pd c.1):=zHx J (zYh Pd f c.1 c.1 rfl (fun _ h=>h)) (by rw[lT,zHq Pd _ c.1 j z,←zHq Pd f c.1 j z];exact(xo.1 J).1)
  have:=qa.1 F.2.2 j hjr;rw[x7]at this;obtain⟨q,y,he⟩:=this;exact I q y (by simpa using he)
 ·have C:p.loc e=fun _=>e p.i:=funext fun k=>by
   unfold Pn.loc;rcases qg k p.deps.length with O | O
   ·rw[zp,jn O];have:=qa.1 F.1 _ (j3 O);rw[jt,eq_of_beq this]
   ·rw[zp,qb O];rfl
  have hv:=hp p (qS ..) H;unfold Pn.val at hv;rw[C]at hv;have G2:St R.E R.w0 R.X w Y ((nb p (fun _=>e p.i)++M)++pM Pd f e):=V.perm (by
   simp only[pM,H,ze];unfold nb;rw[show p.loc (fun _=>e p.i)=p.loc e by rw[C];rfl]
   cases p.ob with
   | none=>exact List.Perm.refl _
   | some o=>exact vm.symm)
  have:=k (e p.i) Z (by
   show jA R.T (c.1.setIfInBounds p.i true)=true∨_;rw[vW hpT];exact h0.imp id fun h=>⟨fun q y=>uT _ (h.1 q y),h.2⟩) f e a w Y (fun q y=>W q (z6 _ y)) (S.cons hv) (fun q y=>hp q (z6 _ y)) G2 G
  simpa only[pT,H,ze]using this
theorem gp1(p:Pn)(k:∀b,Gt R [] (c.1.setIfInBounds p.i true,(p.d,p.vf fun _=>b)::c.2) (nb p (fun _=>b)++M) r)(f:kW R c [p] [p]:=by exact kW.cons (by kernel_rfl) (by kernel_rfl) (by intro e;kernel_rfl) (by intro e w;kernel_rfl) kW.nil)
  (hp:(!R.T.contains p.i&&(!c.1.getD p.i true&&true))=true:=by kernel_rfl) (z:(bZ [p]&&zOp R c.1 [] [p].reverse)=true:=by kernel_rfl) (y:(p.deps.all (fun j=>j==p.i)&&(true&&(Region.ready .any R.ops c.1).all fun j=>[p].any fun q=>q.i==j))=true:=by kernel_rfl):Gt R [] c M r:=
 gp p (gs1 k f z y) hp
theorem gO(i:Nat)(h:∀a w Y,Fr R.n a c.2 R.D→St R.E R.w0 R.X w Y M→Le r (rd w Y)→(zT R.ops i).wp R.P a w (fun N I=>∃J z H C,Fr R.n N J R.D∧St R.E R.w0 R.X I C z∧Le H (rd I C)∧
   (jA R.T (c.1.setIfInBounds i true)=true∨(((∀p∈R.M0,p∈M)→∀p∈R.M0,p∈z)∧Le r H))∧Gt R [] (c.1.setIfInBounds i true,J) z H) (wD R.Q))
  (hi:R.ops[i]?=some (zT R.ops i):=by kernel_rfl) (hr:Region.ready .any R.ops c.1=[i]:=by kernel_rfl) (hw:kD R.ops c.2 (zT R.ops i) true=true:=by kernel_rfl):Gt R [] c M r:=by
 intro hf O f e a w Y hb hF hp hS V;have G0:St R.E R.w0 R.X w Y M:=by simpa only[pM,jw]using hS
 show wpU R c.1 a w;refine qJy (by rw[hr];simp) fun j hj=>?_
 obtain rfl:j=i:=by rw[hr]at hj;simpa using hj
 unfold wpOp;simp only[hi];rw[qn (hF.wanted hw)];refine .inl (Oper.wp_mono ?_ (h a w Y hF G0 V));rintro N I ⟨J,z,H,C,S,U,q,y,hG⟩;have F:jA R.T (c.1.setIfInBounds j true)=true∨((∀p∈R.M0,p∈z)∧Le R.r0 H):=by
  rcases y with y | ⟨h1,h2⟩
  ·exact .inl y
  ·rcases O with O | ⟨h3,h4⟩
   ·exact .inl (zFu O)
   ·exact .inr ⟨h1 h3,h4.trans h2⟩
 have Z:St R.E R.w0 R.X I C (z++pM [] f e):=by simpa only[pM,jw]using U
 have G:pCl [] f:=fun p hp=>by cases hp
 have W:pOk N [] f e:=fun p hp=>by cases hp
 exact⟨hold (Pd:=[]) (f:=f) (e:=e) (c:=(c.1.setIfInBounds j true,J)) hf F Z q,hG hf F f e N I C G S W Z q⟩
theorem gX(i j:Nat)(q:Array Value)(k:∀w1 Y,Le r (rd w1 Y)→Gt R [] (gv R i undef c) (wrM M j q) (rd w1 Y))
  (hT:R.T.contains i=true:=by kernel_rfl) (H:(nQ c.2 (zT R.ops i)&&(zT R.ops i).dst.isNone)=true:=by kernel_rfl) (ho:(zT R.ops i).op= .store (stT (zT R.ops i)) (stA (zT R.ops i)) (stV (zT R.ops i)):=by kernel_rfl)
  (ha:evL c.2 (stA (zT R.ops i))= .pointer (some ⟨bO M j,aX (evL c.2 (stA (zT R.ops i))),none⟩):=by kernel_rfl)
  (ht:ldT R.P (stT (zT R.ops i))=some (zQp R.P (stT (zT R.ops i)),(evL c.2 (stV (zT R.ops i))).cells.size):=by kernel_rfl) (I:(evL c.2 (stV (zT R.ops i))).cells.toList.all Value.oneCell'=true:=by kernel_rfl)
  (G:M[j]?=some (bO M j,.cells (cO M j) (tO M j) (0,0)):=by kernel_rfl) (y:Nat.ble (aX (evL c.2 (stA (zT R.ops i)))+(evL c.2 (stV (zT R.ops i))).cells.size) (cO M j).size=true:=by kernel_rfl)
  (W:yJ (cO M j) (aX (evL c.2 (stA (zT R.ops i)))) (evL c.2 (stV (zT R.ops i))).cells.toList=q:=by kernel_rfl)
  (U:R.ops[i]?=some (zT R.ops i):=by kernel_rfl) (V:Region.ready .any R.ops c.1=[i]:=by kernel_rfl) (z:kD R.ops c.2 (zT R.ops i) true=true:=by kernel_rfl) (S:jA R.T (c.1.setIfInBounds i true)=true:=by kernel_rfl):Gt R [] c M r:=by
 refine gO i (fun a w Y F O f=>zF j _ F H O ho ha rfl ht rfl I G (je y) W rfl fun w1 J N=>?_) U V z;refine⟨c.2,wrM M j q,rd w1 Y,Y,F,(by rw[zOv G];exact J),Le.refl _,.inl S,?_⟩
 have:=k w1 Y (f.trans N);have hd:(zT R.ops i).dst=none:=by have C:=H;rw[zd]at C;exact gE.1 C.2
 simpa only[gv,hd]using this
theorem gXs(i j:Nat)(N:List Nat)(q:Array Value)(k:∀w1 Y,Le r (rd w1 Y)→Gt R [] (gv R i undef c) (wrM M j q) (rd w1 Y))
  (z:sel (wrM M j q) N=R.M0:=by kernel_rfl) (J:(nQ c.2 (zT R.ops i)&&(zT R.ops i).dst.isNone)=true:=by kernel_rfl) (ho:(zT R.ops i).op= .store (stT (zT R.ops i)) (stA (zT R.ops i)) (stV (zT R.ops i)):=by kernel_rfl)
  (ha:evL c.2 (stA (zT R.ops i))= .pointer (some ⟨bO M j,aX (evL c.2 (stA (zT R.ops i))),none⟩):=by kernel_rfl)
  (ht:ldT R.P (stT (zT R.ops i))=some (zQp R.P (stT (zT R.ops i)),(evL c.2 (stV (zT R.ops i))).cells.size):=by kernel_rfl) (O:(evL c.2 (stV (zT R.ops i))).cells.toList.all Value.oneCell'=true:=by kernel_rfl)
  (I:M[j]?=some (bO M j,.cells (cO M j) (tO M j) (0,0)):=by kernel_rfl) (y:Nat.ble (aX (evL c.2 (stA (zT R.ops i)))+(evL c.2 (stV (zT R.ops i))).cells.size) (cO M j).size=true:=by kernel_rfl)
  (W:yJ (cO M j) (aX (evL c.2 (stA (zT R.ops i)))) (evL c.2 (stV (zT R.ops i))).cells.toList=q:=by kernel_rfl)
  (U:R.ops[i]?=some (zT R.ops i):=by kernel_rfl) (V:Region.ready .any R.ops c.1=[i]:=by kernel_rfl) (C:kD R.ops c.2 (zT R.ops i) true=true:=by kernel_rfl):Gt R [] c M r:=by
 refine gO i (fun a w Y H T f=>zF j _ H J T ho ha rfl ht rfl O I (je y) W rfl fun w1 S F=>?_) U V C;refine⟨c.2,wrM M j q,rd w1 Y,Y,H,(by rw[zOv I];exact S),Le.refl _,.inr ⟨fun _=>selm N z,f.trans F⟩,?_⟩
 have:=k w1 Y (f.trans F);have hd:(zT R.ops i).dst=none:=by have G:=J;rw[zd]at G;exact gE.1 G.2
 simpa only[gv,hd]using this
end
def fG(c:Cf):Array Oper:=match c.cu with
 | .code (.region _ o _)=>o
 | _=>#[]
def did(c:Cf):Nat:=match c.cu with
 | .code (.region id _ _)=>id
 | _=>0
def isSt:Op→Bool
 | .store .. =>true
 | _=>false
def bY:Op→Bool
 | .load .. =>true
 | _=>false
def tOf(ops:Array Oper):List Nat:=(List.range ops.size).filter fun i=>isSt (zT ops i).op&&(List.range ops.size).all fun j=>!bY (zT ops j).op||(zT ops i).after.any fun e=>Region.binds .any e&&e.on==j
section
variable {r:Option Nat}{m:Nat}{P:Program}{Q:Exit→Act→World→Prop}{n:Nat}{D:List Deferred}{w:World}{c:Cf}{E:Nat→Prop}{w0:World}{X Y:Hid}{M:List (Nat×Obj)}
noncomputable def mkR(r:Option Nat)(m:Nat)(P:Program)(Q:Exit→Act→World→Prop)(n:Nat)(D:List Deferred)(w:World)(c:Cf)(E:Nat→Prop)(w0:World)(X Y:Hid)(M0:List (Nat×Obj))(T:List Nat):Rg:=
 {P:=P,ops:=fG c,Q:=QQ r m P Q c.k,T:=T,n:=n,D:=D,E:=E,w0:=w0,X:=X,M0:=M0,r0:=rd w Y}
theorem zVr(T:List Nat)(f:List (Nat×Obj))(F:St E w0 X w Y M)(k:Gt (mkR r m P Q n D w c E w0 X Y f T) [] (Array.replicate (fG c).size false,c.L) M (rd w Y))(j:∀p∈f,p∈M)
  (G:c.cu= .code (.region (did c) (fG c) true):=by kernel_rfl) (hm:P.follows .mixedOrders=true:=by kernel_rfl) (hd:(fG c).all (fun o=>vC o.op)=true:=by kernel_rfl):Go r m P Q n D w c:=by
 intro a C;rw[G];refine bC (mkR r m P Q n D w c E w0 X Y f T).S T hm rfl hd F fun w1 y q H=>?_;have z:St E w0 X w1 Y (M++pM [] (fun _=>false) (fun _=>0)):=by simpa only[pM,jw]using y
 exact k (by rfl) (.inr ⟨j,Le.refl _⟩) (fun _=>false) (fun _=>0) a w1 Y (fun p hp=>by cases hp) C (fun p hp=>by cases hp) z q (fG c).size (qx List.countP_le_length (by simp[pT]))
theorem qTw(q:List Nat)(f:St E w0 X w Y M)(k:Gt (mkR r m P Q n D w c E w0 X Y (sel M q) (tOf (fG c))) [] (Array.replicate (fG c).size false,c.L) M (rd w Y))
  (j:c.cu= .code (.region (did c) (fG c) true):=by kernel_rfl) (hm:P.follows .mixedOrders=true:=by kernel_rfl) (hd:(fG c).all (fun o=>vC o.op)=true:=by kernel_rfl):Go r m P Q n D w c:=zVr _ _ f k zBt j hm hd
theorem zdrs(q:List Nat)(f:St E w0 X w Y M)(k:Gt (mkR r m P Q n D w c E w0 X Y (sel M q) []) [] (Array.replicate (fG c).size false,c.L) M (rd w Y))
  (j:c.cu= .code (.region (did c) (fG c) true):=by kernel_rfl) (hm:P.follows .mixedOrders=true:=by kernel_rfl) (hd:(fG c).all (fun o=>vC o.op)=true:=by kernel_rfl):Go r m P Q n D w c:=zVr _ _ f k zBt j hm hd
theorem zdr(f:St E w0 X w Y M)(k:Gt (mkR r m P Q n D w c E w0 X Y M (tOf (fG c))) [] (Array.replicate (fG c).size false,c.L) M (rd w Y))
  (j:c.cu= .code (.region (did c) (fG c) true):=by kernel_rfl) (hm:P.follows .mixedOrders=true:=by kernel_rfl) (hd:(fG c).all (fun o=>vC o.op)=true:=by kernel_rfl):Go r m P Q n D w c:=zVr _ M f k (fun _ h=>h) j hm hd
theorem fM{S:World}{I:Hid}{H j:List (Nat×Obj)}{T:List Nat}{F:Rd}{q:Array Bool×List (Nat×Value)}(h:∀w1 z,St E w0 X w1 z j→Le F (rd w1 z)→Go r m P Q n D w1 ⟨.ex .normal,c.k,q.2⟩)(O:Region.ready .any (fG c) q.1=[]:=by kernel_rfl):Gt (mkR r m P Q n D S c E w0 X I H T) [] q j F:=by
 intro W U f e a w Y V J hp N y fuel _;have G:St E w0 X w Y j:=by have C:=N;simp only[pM,jw]at C;exact C
 exact zDr O (nrm (h w Y G y a J))
end
end Go.Gv
namespace Go.Gv
open Go.RowKit IntKind
def mF(o:Oper)(i:Nat):Operand:=match o.op with
 | .call c=>(c.args[i]?).getD (.tmp 0)
 | _=> .tmp 0
def bTy(o:Oper)(i:Nat):TypeId:=match o.op with
 | .call c=>(c.argTypes[i]?).getD 0
 | _=>0
def mkL(o:Oper):Operand:=match o.op with
 | .makeSlice _ x _=>x
 | _=> .tmp 0
def mkT(o:Oper):TypeId:=match o.op with
 | .makeSlice t _ _=>t
 | _=>0
def slE(P:Program)(t:TypeId):TypeId:=match P.underlying t with
 | some (.slice e)=>e
 | _=>0
def zI(i:TypeInfo):Value:=(i.zero).getD undef
def od(o:Oper):Nat:=o.dst.getD 0
section
variable {P:Program}{Q:Exit→Act→World→Prop}{K:Act→World→Prop}{a:Act}{o:Oper}{n:Nat}{L:List (Nat×Value)}{D:List Deferred}{E:Nat→Prop}{w0 w:World}{X Y:Hid}{M:List (Nat×Obj)}
theorem zLh{f:FuncId}{G:Array Value}{N O:Obj}{C F:Nat}{Φ:World→Value→Prop}(i j:Nat)(V:Fr n a L D)(W:St E w0 X w Y M)(H:M[i]?=some (C,N))(I:M[j]?=some (F,O))(z:Calls P f G w (Ret (fun k=>k=C∨k=F) w Φ))
  (k:∀v w1,Φ w1 v→(∀T U,w1.heap[C]?=some T→w1.heap[F]?=some U→St E w0 X w1 Y ((M.set i (C,T)).set j (F,U)))→Le (rd w Y) (rd w1 Y)→∀S,Fr n S ((od o,v)::L) D→K S w1)
  (Z:opk L o (od o) n=true:=by kernel_rfl) (ho:o.op= .call {callee:= .value (clF o),args:=clA o,argTypes:=clT o}:=by kernel_rfl) (hf:evL L (clF o)= .func (.func f) #[] (qLo (evL L (clF o))):=by kernel_rfl) (q:(clA o).map (evL L)++qLo (evL L (clF o))=G:=by kernel_rfl)
  (y:∀w,(callFunc f G).run P w= .ok (.enter f G) w:=by intro w;kernel_rfl) (J:(Nat.beq i j)=false:=by kernel_rfl):o.wp P a w K Q:=
 qHm i j V Z W ho hf q y H I (fun e=>by subst e;simp at J) z k
theorem qAp{f:FuncId}{F:Array Value}{T:Obj}{b:Nat}{Ψ:Nat→Obj→Value→Prop}(i:Nat)(I:Fr n a L D)(N:St E w0 X w Y M)(J:M[i]?=some (b,T))
  (z:Calls P f F w (Ret (·=b) w fun w1 v=>∃j C,w1.heap[j]?=some C∧(w.heap.size≤j∨j=b)∧Ψ j C v))
  (k:∀v w1 G j C,Ψ j C v→St E w0 X w1 G (M.set i (j,C))→Le (rd w Y) (rd w1 G)→∀H,Fr n H ((od o,v)::L) D→K H w1)
  (O:opk L o (od o) n=true:=by kernel_rfl) (ho:o.op= .call {callee:= .value (clF o),args:=clA o,argTypes:=clT o}:=by kernel_rfl) (S:evL L (clF o)= .func (.func f) #[] (qLo (evL L (clF o))):=by kernel_rfl) (q:(clA o).map (evL L)++qLo (evL L (clF o))=F:=by kernel_rfl)
  (y:∀w,(callFunc f F).run P w= .ok (.enter f F) w:=by intro w;kernel_rfl):o.wp P a w K Q:=
 zRe i I O N ho S q y J z k
theorem vU{g k:Nat}{T:TypeId}{m cap:Nat}{j:Array Value}{l:List Nat}{e:Int}{y:Nat}(i:Nat)(C:Fr n a L D)(G:St E w0 X w Y M)(he:e=(y:Int))(F:M[i]?=some (g,.cells j T (0,0)))(q:zY m cap j l)(I:k<l.length)(J:y<4294967296)
  (z:∀f w1,zY m cap f (l.set k y)→St E w0 X w1 Y (M.set i (g,.cells f T (0,0)))→Le (rd w Y) (rd w1 Y)→K a w1)
  (H:(nQ L o&&o.dst.isNone)=true:=by kernel_rfl) (ho:o.op= .store (stT o) (stA o) (stV o):=by kernel_rfl) (ha:evL L (stA o)= .pointer (some ⟨g,k,none⟩):=by kernel_rfl) (hv:evL L (stV o)= .int .u32 e:=by kernel_rfl) (ht:ldT P (stT o)=some (false,1):=by kernel_rfl):o.wp P a w K Q:=
 mY i C H G ho ha hv he ht F q I J z
theorem zBj{l:Int}{e:TypeId}{z:Value}{i0:TypeInfo}(m b:Nat)(F:Fr n a L D)(G:St E w0 X w Y M)
  (k:∀b w1 y,St E w0 X w1 y ((b,.cells (List.replicate m z).toArray e (0,0))::M)→Le (rd w Y) (rd w1 y)→Upd E0 w w1→∀C,Fr n C ((od o,.slice (some ⟨b,0,none⟩) m m)::L) D→K C w1)
  (j:b*m≤281474976710656:=by omega) (f:m≤140737488355328:=by omega) (hm:l=(m:Int):=by first | rfl | omega)
  (H:i0.bytes=b:=by kernel_rfl) (I:opk L o (od o) n=true:=by kernel_rfl) (ho:o.op= .makeSlice (mkT o) (mkL o) (mkL o):=by kernel_rfl) (N:evL L (mkL o)= .int .i64 l:=by kernel_rfl)
  (ht:P.underlying (mkT o)=some (.slice e):=by kernel_rfl) (J:P.info? e=some i0:=by kernel_rfl) (S:i0.zero=some z:=by kernel_rfl) (O:i0.size=1:=by kernel_rfl) (q:z.cells=#[z]:=by kernel_rfl):o.wp P a w K Q:=
 zXw F I G ho N hm ht J S O q (by rw[H];exact j) f k
theorem qAq{g y z sl sc:Nat}{j:Array Value}{T:TypeId}{ad:Option Addr}{l l2:List Nat}{Y2:Hid}(i:Nat)(H:Fr n a L D)(J:St E w0 X w Y M)(I:M[i]?=some (g,.cells j T (0,0)))(q:zY y z j l)(G:zN (rd w Y2) ad sl sc l2)(C:l2.length≤y)
  (k:∀f w1,zY y z f (l2++l.drop l2.length)→St E w0 X w1 Y (M.set i (g,.cells f T (0,0)))→Le (rd w Y) (rd w1 Y)→∀F,Fr n F ((od o,.int .i64 (l2.length:Int))::L) D→K F w1)
  (N:opk L o (od o) n=true:=by kernel_rfl) (ho:o.op= .call {callee:= .builtin .copy,args:=#[mF o 0,mF o 1],argTypes:=#[bTy o 0,bTy o 1]}:=by kernel_rfl) (U:evL L (mF o 0)= .slice (some ⟨g,0,none⟩) y z:=by kernel_rfl) (V:evL L (mF o 1)= .slice ad sl sc:=by kernel_rfl)
  (S:P.underlying (bTy o 0)=some (.slice (slE P (bTy o 0))):=by kernel_rfl) (O:(P.info? (slE P (bTy o 0))).map (·.size)=some 1:=by kernel_rfl):o.wp P a w K Q:=
 qHn i H N J ho U V S O I q G C k
theorem zHj{e:TypeId}{g m nn cap c size b:Nat}{cur:Array Value}{xs news:List Value}{ad:Addr}{i0:TypeInfo}(i:Nat)(O:Fr n a L D)(T:St E w0 X w Y M)
  (S:M[i]?=some (g,.cells cur e (0,0))) (z:Row nn cap size cur xs) (y:jC w ad news) (Z:news.length=m*size) (N:news.all Value.oneCell'=true)
  (C:nn+m≤maxLen) (f:(nn+m)*b≤140737488355328)
  (k:∀J j q w1 H,Row (nn+m) j size q (xs++news)→St E w0 X w1 H (M.set i (J,.cells q e (0,0)))→Le (rd w Y) (rd w1 H)→∀I,Fr n I ((od o,.slice (some ⟨J,0,none⟩) (nn+m) j)::L) D→K I w1)
  (U:i0.bytes=b:=by kernel_rfl) (V:opk L o (od o) n=true:=by kernel_rfl) (ho:o.op= .call {callee:= .builtin .append,args:=#[mF o 0,mF o 1],argTypes:=#[bTy o 0,bTy o 0]}:=by kernel_rfl) (hs:evL L (mF o 0)= .slice (some ⟨g,0,none⟩) nn cap:=by kernel_rfl) (hx:evL L (mF o 1)= .slice (some ad) m c:=by kernel_rfl)
  (ht:P.underlying (bTy o 0)=some (.slice e):=by kernel_rfl) (W:P.info? e=some i0:=by kernel_rfl) (hz:i0.zero=some (zI i0):=by kernel_rfl) (F:i0.size=size:=by kernel_rfl) (G:(zI i0).cells.size=size:=by kernel_rfl):o.wp P a w K Q:=
 zLg i O V T ho hs hx ht W hz F G S z y Z N C (by rw[U];exact f) k
theorem zRd{m c size b:Nat}{e:TypeId}{news:List Value}{ad:Addr}{i0:TypeInfo}(N:Fr n a L D)(O:St E w0 X w Y M)(y:jC w ad news)(V:news.length=m*size)(C:0<m)(z:m≤maxLen)(f:m*b≤140737488355328)
  (k:∀J j q w1 H,Row m j size q news→St E w0 X w1 H ((J,.cells q (e) (0,0))::M)→Le (rd w Y) (rd w1 H)→∀I,Fr n I ((od o,.slice (some ⟨J,0,none⟩) m j)::L) D→K I w1)
  (S:i0.bytes=b:=by kernel_rfl) (T:opk L o (od o) n=true:=by kernel_rfl) (ho:o.op= .call {callee:= .builtin .append,args:=#[mF o 0,mF o 1],argTypes:=#[bTy o 0,bTy o 0]}:=by kernel_rfl) (W:evL L (mF o 0)= .slice none 0 0:=by kernel_rfl) (Z:evL L (mF o 1)= .slice (some ad) m c:=by kernel_rfl)
  (ht:P.underlying (bTy o 0)=some (.slice (e)):=by kernel_rfl) (U:P.info? (e)=some i0:=by kernel_rfl) (hz:i0.zero=some (zI i0):=by kernel_rfl) (F:i0.size=size:=by kernel_rfl) (G:(zI i0).cells.size=size:=by kernel_rfl):o.wp P a w K Q:=
 zHi N T O ho W Z ht U hz F G y V C z (by rw[S];exact f) k
theorem zRc{e:TypeId}{m c z cap f b:Nat}{C:Option Addr}{S news:List Value}{ad:Addr}{i0:TypeInfo}{rb R1 M:List (Nat×Obj)}(i:Nat)(V:Fr n a L D)(Z:St E w0 X w Y M)(W:M.drop i=R1++rb)
  (F:gT e f rb C z cap S) (y:jC w ad news) (U:z+m≤1125899906842624) (j:(z+m)*b≤140737488355328)
  (k:∀G ad' q w1 N,gT e f G ad' (z+m) q (S++news)→St E w0 X w1 N (M.take i++(R1++G))→Le (rd w Y) (rd w1 N)→∀O,Fr n O ((od o,.slice ad' (z+m) q)::L) D→K O w1)
  (hl:news.length=m*f:=by kernel_rfl) (T:news.all Value.oneCell'=true:=by kernel_rfl) (H:Nat.blt 0 m=true:=by kernel_rfl)
  (hb:i0.bytes=b:=by kernel_rfl) (hc:opk L o (od o) n=true:=by kernel_rfl) (ho:o.op= .call {callee:= .builtin .append,args:=#[mF o 0,mF o 1],argTypes:=#[bTy o 0,bTy o 0]}:=by kernel_rfl) (hs:evL L (mF o 0)= .slice C z cap:=by kernel_rfl) (hx:evL L (mF o 1)= .slice (some ad) m c:=by kernel_rfl)
  (ht:P.underlying (bTy o 0)=some (.slice e):=by kernel_rfl) (hi:P.info? e=some i0:=by kernel_rfl) (hz:i0.zero=some (zI i0):=by kernel_rfl) (I:i0.size=f:=by kernel_rfl) (J:(zI i0).cells.size=f:=by kernel_rfl):o.wp P a w K Q:=
 qOv i V hc Z W ho hs hx ht hi hz I J F y hl T (by simpa[qz]using H) (by simp only[maxLen];omega) (by rw[hb];exact j) k
end
theorem gr{R:Rg}{Pd:List Pn}{c:Array Bool×List (Nat×Value)}{M:List (Nat×Obj)}{r:Rd}(i j k:Nat){m cap:Nat}{y:Array Value}{l:List Nat}(C:zY m cap y l)(O:k<l.length)(f:Gt R Pd (gv R i (.int .u32 ((l.getD k 0:Nat):Int)) c) M r)
  (N:R.M0[j]?=some (bO R.M0 j,.cells (cO R.M0 j) (tO R.M0 j) (fO R.M0 j)):=by kernel_rfl) (z:cO R.M0 j=y:=by kernel_rfl)
  (J:R.ops[i]?=some (zT R.ops i):=by kernel_rfl) (I:gok R Pd c i=true:=by kernel_rfl) (hT:(zIq R.ops R.T i&&!jA R.T c.1)=true:=by kernel_rfl)
  (ho:(zT R.ops i).op= .load (zEs (zT R.ops i)) (ldX (zT R.ops i)):=by kernel_rfl) (S:evL c.2 (ldX (zT R.ops i))= .pointer (some ⟨bO R.M0 j,k,none⟩):=by kernel_rfl) (ht:ldT R.P (zEs (zT R.ops i))=some (false,1):=by kernel_rfl):Gt R Pd c M r:=
 zQa i (.inr ⟨hT,fun w H=>zB (vs:=[.int .u32 ((l.getD k 0:Nat):Int)]) ho S ht (.inr rfl) (by
  have G:=H.1 _ (qk N);intro q v F;rcases q with _ | q
  ·simp at F;subst F;rw[jT,kx w _ _ _ _ _ G,z];exact C.get O
  ·simp at F)⟩) f J I
def unp:Nat→Value→List Value
 | 1,v=>[v]
 | _,.tuple a=>a.toList
 | _,v=>[v]
section
variable {P:Program}{n:Nat}{D:List Deferred}{w:World}{c:Cf}{E:Nat→Prop}{w0:World}{X Y:Hid}{M:List (Nat×Obj)}{L:List (Nat×Value)}
theorem Res.tZ{t:Nat}{v:Value}{f:List ResultVar}{j:List Value}(k:Res P L w f j)(h:has L t=true:=by kernel_rfl)(e:sJ L t=v:=by kernel_rfl):Res P L w (.tmp t::f) (v::j):=e▸Res.tmp h k
def rM(P:Program)(L:List (Nat×Value))(M:List (Nat×Obj))(i t:Nat)(T:TypeId):List Value:=((cO M i).toList.drop (aX (sJ L t))).take (ldS P T)
theorem Res.cM{t:Nat}{T:TypeId}{v:Value}{f:List ResultVar}{j:List Value}(q:St E w0 X w Y M)(i:Nat)(k:Res P L w f j)(h:has L t=true:=by kernel_rfl)(C:sJ L t= .pointer (some ⟨bO M i,aX (sJ L t),none⟩):=by kernel_rfl)(ht:ldT P T=some (zQp P T,(rM P L M i t T).length):=by kernel_rfl)
  (y:(zQp P T||(rM P L M i t T).length==1)=true:=by kernel_rfl) (z:M[i]?=some (bO M i,.cells (cO M i) (tO M i) (fO M i)):=by kernel_rfl) (hm:(rM P L M i t T).length=ldS P T:=by kernel_rfl) (e:ldV (zQp P T) (rM P L M i t T)=v:=by kernel_rfl):Res P L w (.cell t T::f) (v::j):=
 e▸Res.cell h C ht (by simpa using y) (q.cells i z (by rw[hm];rfl)) k
theorem zrS(f:List ResultVar){v:Value}{fn:Func}{R:Ending→World→Prop}(h:Res P c.L w f (unp f.length v))(j:R (.returned v) w)(y:fn.results=f.toArray:=by kernel_rfl)(hv:zBo (unp f.length v)=v:=by kernel_rfl)(q:fin c=true:=by kernel_rfl):Go none 0 P (bodyPost P fn R) n [] w c:=zrR h j y hv q
end
theorem zPa{l:List Nat}{x:Nat}:U32 l++[.int .u32 (x:Int)]=U32 (l++[x]):=by simp[U32]
section
variable {w0 w:World}{X Y:Hid}{rb A B:List (Nat×Obj)}{e:TypeId}{m cap:Nat}{ad:Option Addr}
theorem St.pubLimbs{ls:List Nat}(F:List (Nat×Obj)→List (Nat×Obj))(O:St E0 w0 X w Y (F rb))(N:∀rb,F rb=A++(rb++B))(q:gT e 1 rb ad m cap (U32 ls))(hm:m=ls.length)(S:∀x∈ls,x<4294967296):
  ∃f,St E0 w0 X w f (F [])∧Le (rd w Y) (rd w f)∧zN (rd w f) ad m cap ls:=by
 obtain⟨f,H,I,J⟩:=St.pubRow F O N q;refine⟨f,H,I,?_⟩;rcases J with⟨T,rfl,rfl,rfl⟩ | ⟨g,G,rfl,C,z⟩
 ·have:ls=[]:=by
   cases ls with
   | nil=>rfl
   | cons a l=>simp[U32]at T
  subst this;exact zN.nil none (by omega)
 ·subst hm;refine⟨rfl,C.hn,?_,S,.inr ⟨g,0,rfl,fun j v y=>?_⟩⟩
  ·have:=C.hcap;simp only[maxLen]at this;omega
  ·rw[←C.hxs,qi]at y;split at y
   ·exact z j v y
   ·cases y
end
theorem zDv(l:List Nat)(k:Nat):val (l.take (k+1))=val (l.take k)+l.getD k 0*4294967296^k:=by
 rcases qg k l.length with h | h
 ·exact yU l k h
 ·rw[jv (by omega),jv h,zp,qb h];simp
theorem qQj(l f ls:List Nat)(k c:Nat)(y:ls.length=k)(h:val ls+c*4294967296^k=val (l.take k)+val (f.take k)):
  val (ls++[(l.getD k 0+f.getD k 0+c) % 4294967296])+(l.getD k 0+f.getD k 0+c) / 4294967296*4294967296^(k+1)=val (l.take (k+1))+val (f.take (k+1)):=by
 rw[dO,zDv,zDv,y];have j:=ua (l.getD k 0+f.getD k 0+c) 4294967296;have q:(l.getD k 0+f.getD k 0+c)*4294967296^k=(l.getD k 0+f.getD k 0+c) % 4294967296*4294967296^k+(l.getD k 0+f.getD k 0+c) / 4294967296*4294967296^(k+1):=by
  rw[jd]
  calc (l.getD k 0+f.getD k 0+c)*4294967296^k=(4294967296*((l.getD k 0+f.getD k 0+c) / 4294967296)+(l.getD k 0+f.getD k 0+c) % 4294967296)*4294967296^k:=by rw[j]
   _=_:=by rw[ja,xz];congr 1;ac_rfl
 rw[ja,ja]at q;omega
theorem zOr(a:Nat)(h:a<18446744073709551616):IntKind.u64.wrap (Int.tdiv (a:Int) 4294967296)=((a / 4294967296:Nat):Int):=nX (x:=((a / 4294967296:Nat):Int)) (by omega) (by omega)
theorem qEe(l f ls:List Nat)(k c:Nat)(q:ls.length=k)(y:l.getD k 0<4294967296)(z:f.getD k 0<4294967296)(C:c≤1)(h:val ls+val (f.take k)=val (l.take k)+c*4294967296^k):
  val (ls++[(4294967296+l.getD k 0-f.getD k 0-c) % 4294967296])+val (f.take (k+1))=val (l.take (k+1))+(1-(4294967296+l.getD k 0-f.getD k 0-c) / 4294967296)*4294967296^(k+1):=by
 rw[dO,zDv,zDv,q,jd,ud (4294967296^k),←x6];have e:(4294967296+l.getD k 0-f.getD k 0-c) % 4294967296+f.getD k 0+c=l.getD k 0+(1-(4294967296+l.getD k 0-f.getD k 0-c) / 4294967296)*4294967296:=by omega
 have j:=ju (· * 4294967296^k) e;simp only[ja]at j;omega
theorem qEd{l f ls:List Nat}{c k:Nat}(z:ls.length=k)(j:k=l.length)(hlt:∀x∈ls,x<4294967296)(q:f.length≤l.length)(C:val f≤val l)(G:c≤1)(h:val ls+val (f.take k)=val (l.take k)+c*4294967296^k):val ls=val l-val f:=by
 subst j;rw[jv q,jz]at h;have y:=kJ hlt;rw[z]at y;have:c=0:=by
  rcases jp c with h | F
  ·exact h
  ·obtain rfl:c=1:=by omega
   omega
 subst this;omega
theorem zCb:∀(l f:List Nat),(∀j,l.getD j 0=f.getD j 0)→val l=val f
 | [],[],_=>rfl
 | [],b::f,h=>by
  have q:=h 0;have y:=zCb [] f fun j=>by have:=h (j+1);simpa using this
  simp at q;simp only[val]at y ⊢;omega
 | a::l,[],h=>by
  have q:=h 0;have y:=zCb l [] fun j=>by have:=h (j+1);simpa using this
  simp at q;simp only[val]at y ⊢;omega
 | a::l,b::f,h=>by
  have q:=h 0;have y:=zCb l f fun j=>by have:=h (j+1);simpa using this
  simp at q;simp only[val];omega
theorem qHz{l f:List Nat}{k:Nat}(y:∀x∈l,x<4294967296)(h:∀j,k+1≤j→l.getD j 0=f.getD j 0)(hlt:l.getD k 0<f.getD k 0):val l<val f:=by
 have e:val (l.drop (k+1))=val (f.drop (k+1)):=zCb _ _ fun j=>by
  have:=h (k+1+j) (by omega)
  simpa[zp,jm]using this
 have C:val (l.take k)<4294967296^k:=by
  have:=kJ (l:=l.take k) fun x z=>y x (wm z);refine z8 this (ji (by omega) (by rw[jo];omega))
 rw[tK l (k+1),tK f (k+1),e,zDv,zDv];have q:(l.getD k 0+1)*4294967296^k≤f.getD k 0*4294967296^k:=q6 _ hlt;rw[ja,vw]at q;omega
section
variable {P:Program}{w:World}
theorem zEt{t ty e:TypeId}{i:TypeInfo}(ht:P.underlying t=some (.slice e))(f:P.info? e=some i)(ad:Option Addr)(c:Nat):
  (Builtin.append_ #[t,t] ty #[.slice none 0 0,.slice ad 0 c]).run P w= .ok (.slice none 0 0) w:=by
 cases ad<;>simp[Builtin.append_,yq ht,sizeOf,typeInfo,f,Builtin.lenOf,Builtin.firstCells,loadCells,loadCellsFrom]
end
section
variable {P:Program}{Q:Exit→Act→World→Prop}{K:Act→World→Prop}{a:Act}{o:Oper}{n:Nat}{L:List (Nat×Value)}{D:List Deferred}{E:Nat→Prop}{w0 w:World}{X Y Y2:Hid}{M:List (Nat×Obj)}
theorem zNt{e:TypeId}{ad:Option Addr}{sl sc:Nat}{l:List Nat}{i0:TypeInfo}(G:Fr n a L D)(H:St E w0 X w Y M)(h:zN (rd w Y2) ad sl sc l)(hb:sl≤1000000)
  (k:∀ad' q w1,St E w0 X w1 Y M→Le (rd w Y) (rd w1 Y)→zN (rd w1 Y) ad' l.length q l→∀C,Fr n C ((od o,.slice ad' l.length q)::L) D→K C w1)
  (J:i0.bytes=4:=by kernel_rfl) (V:opk L o (od o) n=true:=by kernel_rfl) (ho:o.op= .call {callee:= .builtin .append,args:=#[mF o 0,mF o 1],argTypes:=#[bTy o 0,bTy o 0]}:=by kernel_rfl) (Z:evL L (mF o 0)= .slice none 0 0:=by kernel_rfl) (hx:evL L (mF o 1)= .slice ad sl sc:=by kernel_rfl)
  (ht:P.underlying (bTy o 0)=some (.slice e):=by kernel_rfl) (W:P.info? e=some i0:=by kernel_rfl) (hz:i0.zero=some (.int .u32 0):=by kernel_rfl) (T:i0.size=1:=by kernel_rfl):o.wp P a w K Q:=by
 obtain rfl:=h.hlen;have y:=V;simp only[opk,zd]at y;obtain⟨hd,hlt⟩:=qK y.2;rcases jp l.length with z | z
 ·have S:=zEt (P:=P) (w:=w) (ty:=o.type) ht W ad sc;have f:(execOp (evL L) o).run P w= .ok (.value (.slice none 0 0)) w:=by
   unfold execOp;simp only[ho,resolve,invoke,builtin,zk,zm,zg,kb,jl,kO,Z,hx,z,S]
  refine zE G V f fun C Z1=>?_;have hl:l=[]:=qT z;refine k none 0 w H (Le.refl _) ?_ C (by rw[z];exact Z1)
  subst hl;exact zN.nil none (by omega)
 ·obtain⟨b,U,rfl,I⟩:=h.addr z;have S:=db (P:=P) w (bTy o 0) o.type e i0 (.int .u32 0) ht W hz ⟨b,U,none⟩ l.length sc (U32 l) (by rw[T];simp) (fun j v F=>yO (I j v F)) z (by omega) (by rw[J];omega)
  have f:(execOp (evL L) o).run P w= .ok (.value (.slice (some ⟨w.heap.size,0,none⟩) l.length (grownCap w l.length 0 e))) (w.drew.alloc (.cells ((U32 l).toArray++Builtin.zeroCells (Value.int .u32 0).cells (grownCap w l.length 0 e-l.length)) e)):=by
   unfold execOp;simp only[ho,resolve,invoke,builtin,zk,zm,zg,kb,jl,kO,Z,hx,S]
  unfold Oper.wp;rw[G.exec y.1,f];show K (a.put o.dst _) _;rw[hd];have hu:Upd E0 w (w.drew.alloc (.cells ((U32 l).toArray++Builtin.zeroCells (Value.int .u32 0).cells (grownCap w l.length 0 e-l.length)) e)):=(Upd.drew w).trans ((Upd.alloc w.drew _).weaken fun _ _ e=>e);have hge:=fq w l.length 0 e;have N:=uD w l.length 0 e (by simp only[maxLen];omega)
  refine k (some ⟨w.heap.size,0,none⟩) (grownCap w l.length 0 e) _ (H.call hu) (hu.le Y) ⟨rfl,by omega,by simp only[maxLen]at N;omega,h.hlt,.inr ⟨w.heap.size,0,rfl,fun j v F=>?_⟩⟩ _ (G.put hlt _)
  rw[jT];refine pF ?_ (fun hy=>dq _ (H.lt _ _ hy)) (wh _ w.heap.size _ ((U32 l).toArray++Builtin.zeroCells (Value.int .u32 0).cells (grownCap w l.length 0 e-l.length)) e (by show(w.heap.push _)[w.heap.size]?=_;simp))
  have O:j<(U32 l).length:=(zh.1 F).1;rw[kx _ w.heap.size _ ((U32 l).toArray++Builtin.zeroCells (Value.int .u32 0).cells (grownCap w l.length 0 e-l.length)) e (0,0) (by show(w.heap.push _)[w.heap.size]?=_;simp)]
  simp only[ql];rw[Array.getElem?_append_left (by simpa using O)]
  simpa using F
end
section
variable {P:Program}{w:World}{ρ:Operand→Value}{o:Oper}
theorem qJc{kd:IntKind}{t t2:TypeId}{xa xb:Operand}{x k:Nat}(ho:o.op= .binOp .shr t xa xb t2)(hx:ρ xa= .int .u32 (x:Int))(hk:ρ xb= .int kd (k:Int))(h:k≤32):(execOp ρ o).run P w= .ok (.value (.int .u32 ((x / 2^k:Nat):Int))) w:=by
 unfold execOp;simp only[ho,hx,hk];have h1:=shift_shr_u32 (yk:=kd) (x:=(x:Int)) (y:=(k:Int)) (by omega) (by omega)
 simp[go_sem,h1]
theorem qJa{kd:IntKind}{t t2:TypeId}{xa xb:Operand}{x k:Nat}(ho:o.op= .binOp .shl t xa xb t2)(hx:ρ xa= .int .u32 (x:Int))(hk:ρ xb= .int kd (k:Int))(h:k≤32):(execOp ρ o).run P w= .ok (.value (.int .u32 ((x*2^k % 4294967296:Nat):Int))) w:=by
 unfold execOp;simp only[ho,hx,hk];have h1:=shift_shl_u32 (yk:=kd) (x:=(x:Int)) (y:=(k:Int)) (by omega) (by omega)
 simp[go_sem,h1,yV]
end
def adF(ad:Option Addr)(cap k:Nat):Option Addr:=if cap=k then ad else ad.map (·.add (k*1))
theorem zN.drop{r:Rd}{ad:Option Addr}{f cap:Nat}{l:List Nat}(h:zN r ad f cap l){k:Nat}(I:k≤f):zN r (adF ad cap k) (f-k) (cap-k) (l.drop k):=by
 have F:=h.hlen;have G:=h.hcap;have H:=h.hbig;refine⟨by simp;omega,by omega,by omega,fun x C=>h.hlt x (uY C),?_⟩
 unfold adF;split
 ·exact .inl (uL (by omega))
 ·rcases h.hat with z | ⟨b,q,e,ha⟩
  ·exact .inl (by rw[z];simp)
  ·refine .inr ⟨b,q+k,by rw[e];simp[Addr.add],fun j v y=>?_⟩
   rw[show U32 (l.drop k)=(U32 l).drop k by simp[U32],jm]at y
   have:=ha (k+j) v y;simpa[jT,xq]using this
section
variable {P:Program}{ρ:Operand→Value}
theorem zJi{o:Oper}{t e:TypeId}{x j:Operand}{ad:Option Addr}{len cap:Nat}{kd:IntKind}{k:Nat}{g:Bool}(ho:o.op= .slice t x (some j) none none)(ht:P.underlying t=some (.slice e))(he:ldT P e=some (g,1))
  (q:ρ x= .slice ad len cap) (f:ρ j= .int kd (k:Int)) (y:k≤len) (w:World):
  (execOp ρ o).run P w= .ok (.value (.slice (adF ad cap k) (len-k) (cap-k))) w:=by
 unfold execOp;simp only[ho,q,Instr.sliceAt,Instr.slice,Instr.sliceBounds,Instr.sliceBound,asIntOf,underlying,ht,zk,zm,qr,zg,Option.map_some,fe,f,show(0:Int)≤(k:Int)by omega,show(k:Int)≤(len:Int)by omega,dj,j7,run_sizeOf he,wj]
 rfl
theorem zLm{o:Oper}{w:World}{F:IntKind}{t G:TypeId}{f j:Operand}{k:Nat}(ho:o.op= .binOp .shl t f j G)(C:ρ f= .int .u32 1)(z:ρ j= .int F (k:Int))(h:k<32):(execOp ρ o).run P w= .ok (.value (.int .u32 ((2^k:Nat):Int))) w:=by
 have q:=qJa (P:=P) (w:=w) (x:=1) ho C z (by omega)
 have y:(2:Nat)^k<4294967296:=z8 (yu (by omega) h) (by decide)
 rwa[vw,ki y]at q
end
theorem jAt{w:World}{Y:Hid}{b:Nat}{x:Nat}(h:At (rd w Y) ⟨b,0,none⟩ [.int .u32 (x:Int)])(q:x<4294967296):zN (rd w Y) (some ⟨b,0,none⟩) 1 1 [x]:=
 ⟨rfl,zq _,by omega,by simpa using q,.inr ⟨b,0,rfl,fun j v f=>h j v (by simpa[U32]using f)⟩⟩
theorem qKc(l:List Nat)(y:∀x∈l,x<4294967296)(k:Nat)(q:k≤l.length):val l / 2^(32*k)=val (l.drop k):=by
 have f:(2:Nat)^(32*k)=4294967296^k:=by rw[y0]
 have j:val (l.take k)<4294967296^k:=by
  have:=kJ (l:=l.take k) fun x z=>y x (wm z);rwa[jo,kg q]at this
 rw[f,tK l k,yt _ _ (Nat.pow_pos (by omega)),ww j,ql]
theorem rO{l:List Nat}{k:Nat}(q:zX l)(h:val l<4294967296^k):l.length≤k:=by
 by_cases f:l=[]
 ·simp[f]
 ·have j:=tX q f;have y:=(wy (by omega:1<4294967296)).1 (jq j h)
  omega
theorem zJy{l f:List Nat}{x:Nat}(q:zX l)(j:∀x∈f,x<4294967296)(y:x<val f)(h:val l≤x+x+1):l.length≤f.length+1:=by
 refine rO q ?_;have:=kJ j;rw[jd];omega
theorem qMd{l f:List Nat}{N:Nat}(C:∀x∈l,x<4294967296)(z:zX f)(q:0<val f)(H:l.length+1=N+f.length):val (l.drop N)<val f:=by
 have j:f≠[]:=fun e=>by subst e;simp[val]at q
 have G:=tX z j;have y:=kJ (l:=l.drop N) fun x F=>C x (uY F);rw[xj,show l.length-N=f.length-1 by omega]at y
 omega
theorem qPp{l:List Nat}(h:0<val l):0<l.length:=by
 cases l with
 | nil=>simp[val]at h
 | cons a b=>simp
theorem jEn{l f:List Nat}(q:∀x∈l,x<4294967296)(j:zX f)(h:l.length<f.length):val l<val f:=by
 refine Nat.lt_of_not_le fun e=>?_;have:=qB q j e;omega
end Go.Gv
namespace Go.Proofs.YtdfmdiakjdggbaaGreatDoor
open Go Go.Gv Go.RowKit IntKind
set_option maxRecDepth 100000
set_option maxHeartbeats 1000000
theorem zAd(w:World)(X:Hid)(hX:∀k o,X k o→k<w.heap.size)(ad:Option Addr)(len cap:Nat)(l:List Nat)(h:zN (rd w X) ad len cap l):
    Calls Tryz.prog 235 #[.slice ad len cap] w (Ret E0 w fun _ v=>v= .slice ad (qV l) cap):=by
 obtain rfl:=h.hlen;have hl:=h.hlen;have S:=h.hcap;have O:=h.hbig;refine zen Tryz.func235 ?_;have V:St E0 w X w X []:=St.start hX;refine zz 7<|zlp Tryz.f235 [] [1,0,0] (fun(k:Nat)=>[(0,.slice ad k cap)]) (fun(k:Nat)w1=>∃(N:Hid),St E0 w X w1 N []∧Le (rd w X) (rd w1 N)∧(k≤l.length)∧(kC l k=kC l l.length)) (fun(k:Nat)=>k) l.length ?_ ?_
 ·
  refine⟨_,V,Le.refl _,zq _,rfl⟩
 rintro k w2 W H ⟨Y2,F,J,z,C⟩;have hk:=z;have ht:=C;refine zz 7<|zt 6 (p:=(k:Int)>0) (fun U=>?_) (fun U=>?_)
 ·
  obtain⟨j,f,rfl,_⟩:=h.addr (by omega)
  have q:=(h.cell (i:=k-1) (by omega))
  refine zz 4<|zw 10 (x:=(k:Int)-1)<|zi (b:=j) (off:=f) (len:=k) (cap:=cap) (kd:= .i64) (i:=(k:Int)-1) 1 (f+(k-1)) ?_ (hoff:=(by first | omega | (simp;done) | (simp;omega)))
  refine zl ((q.mono J)).cells<|zz 4<|zb 14 (b:=(((l.getD (k-1) 0:Nat):Int)==0)) (fun G=>?_) (fun G=>?_)
  ·
   have F7:((l.getD (k-1) 0:Nat):Int)=0:=by simpa using G
   have y:=zEl (l:=l) (k:=k) (by omega) (by omega)
   refine zz 9<|zw 18 (x:=(k:Int)-1)<|zop (at1 [W] Tryz.f235 [1,0,0,0,1,0]) 4 (fun a8 _ Z I=>zE (d:=19) (v:= .slice (some ⟨j,f,none⟩) (k-1) cap) Z kr (zBs (t:=26) (e:=214) (ad:=(some ⟨j,f,none⟩)) (len:=k) (cap:=cap) (kd:= .i64) (i:=(k:Int)-1) (h':=(k-1)) (g:=false) (m:=1) rfl kr kr kr kr (by omega) (by omega) (by first | omega | (simp;done) | (simp;omega)) _) ?_)
   intro a9 Z9;refine I Z9<|zz 3 ?_;refine kT (fun a h=>H (k-1) _ a h ⟨_,F,J,by omega,by omega⟩ ?_)
   first | omega | (simp<;>omega)
  have T:((l.getD (k-1) 0:Nat):Int)≠0:=by simpa using G
  have y:=zEk (l:=l) (k:=k) (by omega) (by omega)
  refine zz 13<|zr' (v:= .slice (some ⟨j,f,none⟩) k cap) ?_;exact⟨F.upd,_,rfl,by unfold qV;first | rw[←ht,y] | rw[←ht];rfl⟩
 obtain rfl:k=0:=by omega
 refine zz 23<|zr' (v:= .slice ad 0 cap) ?_;exact⟨F.upd,_,rfl,by unfold qV;first | rw[←ht,y] | rw[←ht];rfl⟩
section
variable (w:World)(X:Hid)(hX:∀k o,X k o→k<w.heap.size)
set_option maxHeartbeats 1000000
include hX in
theorem zKp(x:Int):Calls Tryz.prog 234 #[.int .i64 x] w (Ret E0 w fun _ v=>v= .bool false):=by
 refine zen Tryz.func234 ?_;have f:St E0 w X w X []:=St.start hX;refine zz 14<|zr' (v:= .bool ((x)!=x)) ?_;exact⟨f.upd,_,rfl,by simp⟩
include hX in
theorem zBb(x:Int):Calls Tryz.prog 281 #[.int .u32 x] w (Ret E0 w fun _ v=>v= .bool false):=by
 refine zen Tryz.func281 ?_;have f:St E0 w X w X []:=St.start hX;refine zz 14<|zr' (v:= .bool ((x)!=x)) ?_;exact⟨f.upd,_,rfl,by simp⟩
def qO(x y:Int):Int:=if x<y then -1 else if x>y then 1 else 0
include hX in
theorem zPs(x y:Int):Calls Tryz.prog 171 #[.int .i64 x,.int .i64 y] w (Ret E0 w fun _ v=>v= .int .i64 (qO x y)):=by
 refine zen Tryz.func171 ?_;have j:St E0 w X w X []:=St.start hX;refine zz 8<|zc j (zKp _ _ j.lt x) ?_;rintro J O q F H rfl;refine zz 6<|zc q (zKp _ _ q.lt y) ?_;rintro N S f G I rfl;refine zz 29<|zt 16 (p:=(x)<y) (fun z=>?_) (fun z=>?_);refine zz 8<|zr' (v:= .int .i64 (-1)) ?_;exact⟨f.upd,_,rfl,zQ (by unfold qO;(repeat' split)<;>omega)⟩
 refine zz 11<|zt 19 (p:=(x)>y) (fun C=>?_) (fun C=>?_);refine zz 8<|zr' (v:= .int .i64 1) ?_;exact⟨f.upd,_,rfl,zQ (by unfold qO;(repeat' split)<;>omega)⟩
 refine zz 9<|zr' (v:= .int .i64 0) ?_;exact⟨f.upd,_,rfl,zQ (by unfold qO;(repeat' split)<;>omega)⟩
include hX in
theorem zGa(x y:Int):Calls Tryz.prog 264 #[.int .u32 x,.int .u32 y] w (Ret E0 w fun _ v=>v= .int .i64 (qO x y)):=by
 refine zen Tryz.func264 ?_;have j:St E0 w X w X []:=St.start hX;refine zz 8<|zc j (zBb _ _ j.lt x) ?_;rintro J O q F H rfl;refine zz 6<|zc q (zBb _ _ q.lt y) ?_;rintro N S f G I rfl;refine zz 29<|zt 16 (p:=(x)<y) (fun z=>?_) (fun z=>?_);refine zz 8<|zr' (v:= .int .i64 (-1)) ?_;exact⟨f.upd,_,rfl,zQ (by unfold qO;(repeat' split)<;>omega)⟩
 refine zz 11<|zt 19 (p:=(x)>y) (fun C=>?_) (fun C=>?_);refine zz 8<|zr' (v:= .int .i64 1) ?_;exact⟨f.upd,_,rfl,zQ (by unfold qO;(repeat' split)<;>omega)⟩
 refine zz 9<|zr' (v:= .int .i64 0) ?_;exact⟨f.upd,_,rfl,zQ (by unfold qO;(repeat' split)<;>omega)⟩
include hX in
theorem jDt(x y c:Int)(q:0≤x∧x<4294967296)(z:0≤y∧y<4294967296)(j:0≤c∧c≤1):Calls Tryz.prog 283 #[.int .u32 x,.int .u32 y,.int .u32 c] w (Ret E0 w fun _ v=>v= .tuple #[.int .u32 ((x+y+c) % 4294967296),.int .u32 ((x+y+c) / 4294967296)]):=by
 refine zen Tryz.func283 ?_;have f:St E0 w X w X []:=St.start hX;refine zz 10<|zs 10 (v:= .int .u64 (IntKind.u64.wrap (x))) (v':= .int .u64 x) (zQ (nX (by omega) (by omega)))<|zz 2<|zs 12 (v:= .int .u64 (IntKind.u64.wrap (y))) (v':= .int .u64 y) (zQ (nX (by omega) (by omega)))<|zz 1<|zs 13 (v:= .int .u64 (IntKind.u64.wrap ((x)+y))) (v':= .int .u64 ((x)+y)) (zQ (nX (by omega) (by omega)))<|zz 2<|zs 15 (v:= .int .u64 (IntKind.u64.wrap (c))) (v':= .int .u64 c) (zQ (nX (by omega) (by omega)))<|zz 1 ?_
 refine zs 16 (v:= .int .u64 (IntKind.u64.wrap (((x)+y)+c))) (v':= .int .u64 (((x)+y)+c)) (zQ (nX (by omega) (by omega)))<|zz 7<|zs 18 (v:= .int .u32 (IntKind.u32.wrap (((x)+y)+c))) (v':= .int .u32 ((((x)+y)+c) % 4294967296)) (zQ (yV _))<|zz 7<|zs 20 (v:= .int .u64 (Int.fdiv (((x)+y)+c) (2^32))) (v':= .int .u64 ((((x)+y)+c) / 4294967296)) (zQ (wJ _ 32 (by decide) (by decide)))<|zz 1<|zs 21 (v:= .int .u32 (IntKind.u32.wrap ((((x)+y)+c) / 4294967296))) (v':= .int .u32 (((x)+(y)+(c)) / 4294967296)) (zQ (qKk (by omega) (by omega)))<|zz 4<|zr' (v:= .tuple #[.int .u32 ((((x)+y)+c) % 4294967296),.int .u32 (((x)+(y)+(c)) / 4294967296)]) ?_
 exact⟨f.upd,_,rfl,by first | rfl | (congr 3;omega) | skip⟩
end
section
variable (w:World)(X:Hid)(hX:∀k o,X k o→k<w.heap.size)
set_option maxHeartbeats 1000000
include hX in
theorem qTs(x y c:Int)(C:0≤x∧x<4294967296)(F:0≤y∧y<4294967296)(z:0≤c∧c≤1):Calls Tryz.prog 265 #[.int .u32 x,.int .u32 y,.int .u32 c] w (Ret E0 w fun _ v=>v= .tuple #[.int .u32 ((((x)-y) % 4294967296-c) % 4294967296),.int .u32 (if x<y+c then 1 else 0)]):=by
 refine zen Tryz.func265 ?_;have q:St E0 w X w X []:=St.start hX;refine zz 11<|zs 10 (v:= .int .u32 (IntKind.u32.wrap ((x)-y))) (v':= .int .u32 (((x)-y) % 4294967296)) (zQ (yV _))<|zz 2<|zs 12 (v:= .int .u32 (IntKind.u32.wrap ((((x)-y) % 4294967296)-c))) (v':= .int .u32 (((((x)-y) % 4294967296)-c) % 4294967296)) (zQ (yV _))<|zz 17<|zs 24 (v:= .int .u32 (Int.fdiv (rV (wV (wG 4294967295 x) y) (wV (wG 4294967295 (wG x y)) (((((x)-y) % 4294967296)-c) % 4294967296))) (2^31))) (v':= .int .u32 ((rV (wV (wG 4294967295 x) y) (wV (wG 4294967295 (wG x y)) (((((x)-y) % 4294967296)-c) % 4294967296))) / 2147483648)) (zQ (wJ _ 31 (by decide) (by decide)))<|zz 4<|zr' (v:= .tuple #[.int .u32 (((((x)-y) % 4294967296)-c) % 4294967296),.int .u32 ((rV (wV (wG 4294967295 x) y) (wV (wG 4294967295 (wG x y)) (((((x)-y) % 4294967296)-c) % 4294967296))) / 2147483648)]) ?_
 exact⟨q.upd,_,rfl,by
    obtain⟨f,rfl⟩:=jh C.1;obtain⟨j,rfl⟩:=jh F.1;obtain⟨cn,rfl⟩:=jh z.1;obtain⟨dn,hd⟩:=jh (a:=(((f:Int)-j) % 4294967296-cn) % 4294967296) (by omega)
    have:=qBj f j cn dn (by omega) (by omega) (by omega) (by omega) hd.symm
    rw[hd,this]⟩
include hX in
theorem qHy(b off len cap:Nat)(es:List Int)(O:len=es.length)(N:es.length≤1000)(G:At (rd w X) ⟨b,off,none⟩ (I64 es)):Calls Tryz.prog 81 #[.slice (some ⟨b,off,none⟩) len cap] w (Ret E0 w fun _ v=>v= .int .i64 (orL es)):=by
 refine zen Tryz.func81 ?_;have T:St E0 w X w X []:=St.start hX;refine zz 19<|zlp Tryz.f81 [] [1,1,0,1,0] (fun(k:Nat)=>[(3,.int .i64 0),(6,.slice (some ⟨b,off,none⟩) len cap),(7,.int .i64 (len:Int)),(8,.int .i64 (k:Int))]) (fun(k:Nat)w1=>∃(J:Hid),St E0 w X w1 J []∧Le (rd w X) (rd w1 J)∧(k≤es.length)∧(∀j,j<k→es.getD j 0=0)) (fun(k:Nat)=>es.length-k) 0 ?_ ?_;refine⟨_,T,Le.refl _,qu _,fun j y=>absurd y (Nat.not_lt_zero j)⟩;rintro k w2 W F ⟨Y2,z,I,H,f⟩;refine zz 6<|zt 9 (p:=(k:Int)<(len:Int)) (fun S=>?_) (fun S=>?_);have q:=(G.one (qKp (l:=es) (i:=k) (by omega)))
 refine zz 7<|zi (b:=b) (off:=off) (len:=len) (cap:=cap) (kd:= .i64) (i:=(k:Int)) 1 (off+k)<|zl ((q.mono I)).cells<|zz 10<|zb 14 (b:=((es.getD k 0)!=0)) (fun C=>?_) (fun C=>?_);have U:(es.getD k 0)≠0:=by simpa using C
 refine zz 13<|zr' (v:= .int .i64 (es.getD k 0)) ?_;exact⟨z.upd,_,rfl,zQ (by first | exact(zHk es (fun j y=>f j (by omega))).symm | exact(zUw es k (by omega) f (by omega)).symm)⟩
 have V:(es.getD k 0)=0:=by simpa using C
 refine zz 6<|zw 16 (x:=(k:Int)+1)<|zz 2 ?_;refine kT (fun a h=>F (k+1) _ a h ⟨_,z,I,by omega,fun j y=>(by rcases gm.1 y with h | h;exact f j h;rw[h];omega)⟩ ?_)
 first | omega | (simp<;>omega)
 have Z:k=es.length:=by omega
 refine zz 13<|zr' (v:= .int .i64 0) ?_;exact⟨z.upd,_,rfl,zQ (by first | exact(zHk es (fun j y=>f j (by omega))).symm | exact(zUw es k (by omega) f (by omega)).symm)⟩
include hX in
theorem zZu(f cap:Nat)(l:List Nat)(G:f=l.length)(z:f≤35184372088831)(hlt:∀x∈l,x<4294967296)(q:l=[]):Calls Tryz.prog 223 #[.slice none f cap] w (Ret E0 w fun F v=>∃ad' y j,zIw w F 214 v l ad' y j):=by
 refine zen Tryz.func223 ?_;have C:St E0 w X w X []:=St.start hX;refine zz 20<|zr' (v:= .slice none 0 0) ?_;exact⟨C.upd,_,rfl,_,_,_,⟨rfl,by rw[q];rfl,hlt,.inl ⟨rfl,rfl,rfl⟩⟩⟩
include hX in
theorem zFy(ad:Addr)(f cap:Nat)(l:List Nat)(H:f=l.length)(I:f≤35184372088831)(hlt:∀x∈l,x<4294967296)(z:At (rd w X) ad (U32 l)):Calls Tryz.prog 223 #[.slice (some ad) f cap] w (Ret E0 w fun V v=>∃ad' q j,zIw w V 214 v l ad' q j):=by
 refine zen Tryz.func223 ?_;have N:St E0 w X w X []:=St.start hX;refine zz 17<|zn (fun b=> .slice (some ⟨b,0,none⟩) 0 0) (.cells #[] 214 (0,0)) N fun U w3 Y3 O J Z=>zz 1<|zop (at1 [] Tryz.f223 [1,1,0]) 2 (fun a4 _ T C=>zHj (b:=4) (m:=f) (c:=cap) (size:=1) (ad:=ad) (xs:=[]) (news:=U32 l) (i0:=Tryz.t214) (cur:=#[]) (nn:=0) (cap:=0) (g:=U) (e:=214) 0 T O kr ⟨zq _,qu _,rfl,rfl⟩ (z.mono J).cells (by simp[H]) (by simp[U32,Value.oneCell']) (by simp only[maxLen];omega) (by show(0+f)*4≤_;omega) ?_)
 intro g5 S Q5 w5 Y5 F y W a6 G;simp only[ql,kB]at G F;refine C G<|zz 4<|zr' (v:= .slice (some ⟨g5,0,none⟩) f S) ?_;exact⟨y.upd,_,rfl,_,_,_,⟨rfl,H,hlt,.inr ⟨_,_,rfl,y.own_ge 0 rfl,y.get 0 rfl,⟨F,hlt⟩⟩⟩⟩
include hX in
theorem zAo(ad:Option Addr)(f cap:Nat)(l:List Nat)(h:zN (rd w X) ad f cap l)(q:f≤35184372088831):Calls Tryz.prog 223 #[.slice ad f cap] w (Ret E0 w fun I v=>∃ad' z y,zIw w I 214 v l ad' z y):=by
 rcases h.hat with F | ⟨b,H,rfl,C⟩
 ·cases ad with
  | none=>exact zZu w X hX f cap l h.hlen q h.hlt F
  | some a=>exact zFy w X hX a f cap l h.hlen q h.hlt (F▸fun j v G=>by simp[U32]at G)
 ·exact zFy w X hX _ f cap l h.hlen q h.hlt C
end
section
variable (w:World)(X:Hid)(hX:∀k o,X k o→k<w.heap.size)
set_option maxHeartbeats 1000000
include hX in
theorem zMe(ad:Option Addr)(len cap:Nat)(l:List Nat)(h:zN (rd w X) ad len cap l):Calls Tryz.prog 153 #[.slice ad len cap] w (Ret E0 w fun _ v=>v= .int .i64 (jG l)):=by
 obtain rfl:=h.hlen;have C:=h.hcap;have z:=h.hbig;refine zen Tryz.func153 ?_;have j:St E0 w X w X []:=St.start hX;refine zz 15<|zt 3 (p:=(l.length:Int)>512) (fun F=>?_) (fun F=>?_);refine zz 9<|zr' (v:= .int .i64 4) ?_;exact⟨j.upd,_,rfl,zQ (by unfold jG;(repeat' split)<;>first | rfl | omega)⟩
 refine zz 7<|zt 11 (p:=(l.length:Int)>0) (fun G=>?_) (fun G=>?_);obtain⟨y,f,rfl,_⟩:=h.addr (by omega)
 refine zz 4<|zw 15 (x:=(l.length:Int)-1)<|zi (b:=y) (off:=f) (len:=l.length) (cap:=cap) (kd:= .i64) (i:=(l.length:Int)-1) 1 (f+(l.length-1)) ?_ (hoff:=(by first | omega | (simp;done) | (simp;omega)))
 refine zl ((h.cell (i:=(l.length-1)) (by omega)).mono (Le.refl _)).cells<|zz 5<|zb 7 (b:=(((l.getD (l.length-1) 0:Nat):Int)==0)) (fun q=>?_) (fun q=>?_)
 have H:((l.getD (l.length-1) 0:Nat):Int)=0:=by simpa using q
 refine zz 9<|zr' (v:= .int .i64 2) ?_;exact⟨j.upd,_,rfl,zQ (by unfold jG;(repeat' split)<;>first | rfl | omega)⟩
 have I:((l.getD (l.length-1) 0:Nat):Int)≠0:=by simpa using q
 refine zz 10<|zr' (v:= .int .i64 0) ?_;exact⟨j.upd,_,rfl,zQ (by unfold jG;(repeat' split)<;>first | rfl | omega)⟩
 refine zz 21<|zr' (v:= .int .i64 0) ?_;exact⟨j.upd,_,rfl,zQ (by unfold jG;(repeat' split)<;>first | rfl | omega)⟩
def vJ(l f:List Nat):Int:=orL [jG l,jG f]
include hX in
theorem zAk(ad:Option Addr)(y cap:Nat)(l:List Nat)(h:zN (rd w X) ad y cap l)(q:Option Addr)(f C:Nat)(j:List Nat)(O:zN (rd w X) q f C j):Calls Tryz.prog 222 #[.slice ad y cap,.slice q f C] w (Ret E0 w fun _ v=>v= .int .i64 (vJ l j)):=by
 refine zen Tryz.func222 ?_;have G:St E0 w X w X []:=St.start hX;refine zz 8<|zc G (zMe _ X0 (qA _) _ _ _ l (h.mono Le.x0)) ?_;rintro v3 w3 H F V rfl;refine zz 1<|zc H (zMe _ X0 (qA _) _ _ _ j ((O.mono F).mono Le.x0)) ?_;rintro v5 w5 I S W rfl;refine zn (fun b=> .slice (some ⟨b,0,none⟩) 2 2) (.cells #[.int .i64 (jG l),.int .i64 (jG j)] 46 (0,0)) I fun N w7 Y7 z T Z=>zc z (qHy _ X0 (qA _) _ _ _ _ [jG l,jG j] rfl (by simp) (z.at0 0 rfl rfl)) ?_ (vs:=#[.slice (some ⟨N,0,none⟩) 2 2])
 rintro v9 w9 J U N9 rfl;refine zz 4<|zr' (v:= .int .i64 (orL [jG l,jG j])) ?_;exact⟨J.upd,_,rfl,zQ (rfl)⟩
include hX in
theorem qSh(ad:Option Addr)(f cap:Nat)(l:List Nat)(h:zN (rd w X) ad f cap l):Calls Tryz.prog 267 #[.slice ad f cap] w (Ret E0 w fun _ v=>v=if 512<qV l then .tuple #[.slice none 0 0,.int .i64 4]else .tuple #[.slice ad (qV l) cap,.int .i64 0]):=by
 have C:=h.hcap;have z:=h.hbig;have I:=h.hlen;have j:=rR l l.length;rw[show kC l l.length=qV l from rfl]at j;refine zen Tryz.func267 ?_;have q:St E0 w X w X []:=St.start hX;refine zz 10<|zc q (zAd _ _ q.lt _ _ _ l h) ?_;rintro J N y G H rfl;refine zz 10<|zt 8 (p:=(qV l:Int)>512) (fun F=>?_) (fun F=>?_);refine zz 9<|zr' (v:= .tuple #[.slice none 0 0,.int .i64 4]) ?_;exact⟨y.upd,_,rfl,by first | rw[qn (by omega)] | rw[qm (by omega)]⟩
 refine zz 11<|zr' (v:= .tuple #[.slice ad (qV l) cap,.int .i64 0]) ?_;exact⟨y.upd,_,rfl,by first | rw[qn (by omega)] | rw[qm (by omega)]⟩
end
end Go.Proofs.YtdfmdiakjdggbaaGreatDoor
namespace Go.Proofs.YtdfmdiakjdggbaaGreatDoor
open Go Go.Gv Go.RowKit IntKind
set_option maxRecDepth 100000
set_option maxHeartbeats 1000000
abbrev Two(a b:Nat):Nat→Prop:=fun k=>k=a∨k=b
abbrev qKo(a b:Nat):Hid:=fun k _=>k=a∨k=b
theorem qCu(w:World)(g z G i m cap:Nat)(J:Array Value)(l:List Nat)(x c:Nat)(hne:g≠z)(hbg:G≠g)(hbb:G≠z)(hg:w.heap[g]?=some (.cells J 214 (0,0)))(j:zY m cap J l)
    (S:w.heap[z]?=some (.cells #[.int .u32 (c:Int)] 214 (0,0))) (hba:At (rd w (qKo g z)) ⟨G,0,none⟩ [.slice (some ⟨g,0,none⟩) m cap]) (hi:i<l.length) (hx:x<4294967296) (hc:c≤1) (hbig:m≤4611686018427387904):
    Calls Tryz.prog 282 #[.int .i64 (i:Int),.int .u32 (x:Int),.pointer (some ⟨G,0,none⟩),.pointer (some ⟨z,0,none⟩)] w (Ret (Two g z) w fun w' v=>v= .tuple #[]∧∃H,w'.heap[g]?=some (.cells H 214 (0,0))∧zY m cap H (l.set i ((l.getD i 0+x+c) % 4294967296))∧
      w'.heap[z]?=some (.cells #[.int .u32 (((l.getD i 0+x+c) / 4294967296:Nat):Int)] 214 (0,0))):=by
 have hX:∀k o,qKo g z k o→k<w.heap.size:=by
   rintro k o (rfl | rfl)
   ·exact(zy.1 hg).1
   ·exact(zy.1 S).1
 refine zFe (n:=19) (vs:=[.int .i64 (i:Int),.int .u32 (x:Int),.pointer (some ⟨G,0,none⟩),.pointer (some ⟨z,0,none⟩)]) Tryz.func282 rfl rfl rfl kr (fun a0 Z0=>?_);have Z0:Fr 19 a0 [(0,.int .i64 (i:Int)),(1,.int .u32 (x:Int)),(2,.pointer (some ⟨G,0,none⟩)),(3,.pointer (some ⟨z,0,none⟩))]:=Z0;have G0:St (Two g z) w (qKo g z) w (qKo g z) [(g,.cells J 214 (0,0)),(z,.cells #[.int .u32 (c:Int)] 214 (0,0))]:=St.start2 hX hg S (fun _=> .inl rfl) (fun _=> .inr rfl) hne;have hlen:=j.len;have hlt:=j.getD_lt i;refine bC (N:=15) (kH [(⟨G,0,none⟩,[.slice (some ⟨g,0,none⟩) m cap]),(⟨g,i,none⟩,[.int .u32 ((l.getD i 0:Nat):Int)]),(⟨z,0,none⟩,[.int .u32 (c:Int)])]) [13,14] kr kr kr G0 ?_;intro w1 T C1 N1;refine lF (kH.cons ((hba.mono C1)).cells (kH.cons (T.rowCells 0 rfl j (by have:=j.len;(try simp only[q9]at *);omega)) (kH.cons (T.cells 1 rfl rfl) (kH.nil _)))) (fun q=>?_)
 refine nW (d:=7) (v:= .slice (some ⟨g,0,none⟩) m cap) 0 Z0 rfl kr kr kr (fun w O=>zB (t:=26) (g:=false) (vs:=[.slice (some ⟨g,0,none⟩) m cap]) (ad:=⟨G,0,none⟩) rfl kr kr ir (O.get 0 kr)) q ?_;intro a2 Z2;refine zJ (d:=8) (v:= .int .i64 (i:Int)) 1 Z2 rfl kr kr kw (fun _=>q) fun a3 Z3=>?_;refine nW (d:=9) (v:= .slice (some ⟨g,0,none⟩) m cap) 2 Z3 rfl kr kr kr (fun w O=>zB (t:=26) (g:=false) (vs:=[.slice (some ⟨g,0,none⟩) m cap]) (ad:=⟨G,0,none⟩) rfl kr kr ir (O.get 0 kr)) q ?_;intro a4 Z4;refine zJ (d:=10) (v:= .int .i64 (i:Int)) 3 Z4 rfl kr kr kw (fun _=>q) fun a5 Z5=>zJ (d:=11) (v:= .pointer (some ⟨g,i,none⟩)) 4 Z5 rfl kr kr (fun w=>jE (t:=26) (e:=214) (b:=g) (off:=0) (len:=m) (cap:=cap) (kd:= .i64) (i:=(i:Int)) (g:=false) (m:=1) (off':=i) rfl kr kr kr kr (by omega) (by omega) (by first | rfl | omega | (simp;done) | (simp;omega)) w) (fun _=>q) fun a6 Z6=>?_
 refine nW (d:=12) (v:= .int .u32 ((l.getD i 0:Nat):Int)) 5 Z6 rfl kr kr kr (fun w O=>zB (t:=214) (g:=false) (vs:=[.int .u32 ((l.getD i 0:Nat):Int)]) (ad:=⟨g,i,none⟩) rfl kr kr ir (O.get 1 kr)) q ?_;intro a7 Z7;refine zJ (d:=13) (v:= .int .u32 (x:Int)) 6 Z7 rfl kr kr kw (fun _=>q) fun a8 Z8=>?_;refine nW (d:=14) (v:= .int .u32 (c:Int)) 7 Z8 rfl kr kr kr (fun w O=>zB (t:=214) (g:=false) (vs:=[.int .u32 (c:Int)]) (ad:=⟨z,0,none⟩) rfl kr kr ir (O.get 2 kr)) q ?_;intro a9 Z9;refine tH [8] kr rfl ?_;refine yL.cons (i:=8) Z9 rfl kr (kF (d:=15) (f:=283) (cap:=#[]) (vs:=#[.int .u32 ((l.getD i 0:Nat):Int),.int .u32 (x:Int),.int .u32 (c:Int)]) Z9 kr T rfl kr kr (fun w=>Tryz.call283 _ w) (jDt _ _ T.lt ((l.getD i 0:Nat):Int) (x:Int) (c:Int) ⟨by omega,by omega⟩ ⟨by omega,by omega⟩ ⟨by omega,by omega⟩) ?_) yL.nil
 rintro v10 w10 V C10 Z rfl a11 Z11;refine wW (q.up Z) (fun C=>?_);refine zJ (d:=6) (v:= .tuple #[.int .u32 ((((l.getD i 0:Nat):Int)+(x:Int)+(c:Int)) % 4294967296),.int .u32 ((((l.getD i 0:Nat):Int)+(x:Int)+(c:Int)) / 4294967296)]) 9 Z11 rfl kr kr kw (fun _=>C) fun a12 Z12=>zJ (d:=16) (v:= .int .u32 ((((l.getD i 0:Nat):Int)+(x:Int)+(c:Int)) % 4294967296)) 10 Z12 rfl kr kr kw (fun _=>C) fun a13 Z13=>zJ (d:=17) (v:= .int .u32 ((((l.getD i 0:Nat):Int)+(x:Int)+(c:Int)) / 4294967296)) 11 Z13 rfl kr kr kw (fun _=>C) fun a14 Z14=>zJ (d:=18) (v:= .pointer (some ⟨g,i,none⟩)) 12 Z14 rfl kr kr (fun w=>jE (t:=26) (e:=214) (b:=g) (off:=0) (len:=m) (cap:=cap) (kd:= .i64) (i:=(i:Int)) (g:=false) (m:=1) (off':=i) rfl kr kr kr kr (by omega) (by omega) (by first | rfl | omega | (simp;done) | (simp;omega)) w) (fun _=>C) fun a15 F=>?_
 refine tH [13] kr rfl ?_;refine yL.cons (i:=13) F rfl kr (mY (t:=214) (y:=((l.getD i 0+x+c) % 4294967296)) (k:=i) (e:=(((l.getD i 0:Nat):Int)+(x:Int)+(c:Int)) % 4294967296) 0 F kr V rfl rfl rfl (by first | rfl | omega | (simp;omega)) kr rfl j (by have:=j.len;(try simp only[q9]at *);omega) (by first | omega | (simp;omega)) ?_) yL.nil
 intro Q16 w16 U W C16;refine⟨mG kr,?_⟩;refine tH [14] kr rfl ?_;refine yL.cons (i:=14) F rfl kr (zF (t:=214) (b:=z) (off:=0) (c':=#[.int .u32 ((((l.getD i 0:Nat):Int)+(x:Int)+(c:Int)) / 4294967296)]) (g:=false) (m:=1) 1 _ F kr W rfl kr rfl kr kr kr rfl (by first | decide | (simp;done)) kr rfl ?_) yL.nil
 intro w17 I C17;refine⟨mG kr,?_⟩;refine zDr kr (nrm ?_);refine zPj (v:= .tuple #[]) (rs:=[]) F kr Res.nil kr ?_;refine⟨I.upd,_,rfl,rfl,Q16,I.get 0 rfl,?_,?_⟩
 ·
  exact U
 ·
  rw[I.get 1 rfl];congr 4
abbrev HG(g:Nat):Hid:=fun k _=>k=g
theorem qLb(q f:List Nat)(j k c T:Nat)(y:j<f.length)(z:j+k<q.length)(h:val q+c*4294967296^(j+k)=T+4294967296^k*val (f.take j)):
  val (q.set (j+k) ((q.getD (j+k) 0+f.getD j 0+c) % 4294967296))+(q.getD (j+k) 0+f.getD j 0+c) / 4294967296*4294967296^(j+1+k)=T+4294967296^k*val (f.take (j+1)):=by
 have C:=zCa q (j+k) (f.getD j 0) c z;rw[yU f j y,yc,show 4294967296^k*(f.getD j 0*4294967296^j)=f.getD j 0*4294967296^(j+k)by rw[kf];ac_rfl,show j+1+k=j+k+1 by omega]
 omega
theorem qCw(f:List Nat)(p c T:Nat)(j:p<f.length)(h:val f+c*4294967296^p=T):
  val (f.set p ((f.getD p 0+0+c) % 4294967296))+(f.getD p 0+0+c) / 4294967296*4294967296^(p+1)=T:=by
 have q:=zCa f p 0 c j;omega
theorem qRu(w:World)(g m cap:Nat)(J:Array Value)(l:List Nat)(hg:w.heap[g]?=some (.cells J 214 (0,0)))(hrow:zY m cap J l)(hm:m≤1099511627776)
    (I:Option Addr) (W P2:Nat) (q:List Nat) (U:zN (rd w (HG g)) I W P2 q) (k:Nat) (hk:q.length+k≤m) (hsum:val l+4294967296^k*val q<4294967296^m):
    Calls Tryz.prog 266 #[.slice (some ⟨g,0,none⟩) m cap,.slice I W P2,.int .i64 (k:Int)] w (Ret (·=g) w fun w' v=>v= .tuple #[]∧∃T l',w'.heap[g]?=some (.cells T 214 (0,0))∧zY m cap T l'∧val l'=val l+4294967296^k*val q):=by
 obtain rfl:=U.hlen;have hcap2:=U.hcap;have hbig2:=U.hbig;refine zen Tryz.func266 ?_;have hX:∀k o,HG g k o→k<w.heap.size:=by rintro k o rfl;exact(zy.1 hg).1
 have G0:St (·=g) w (HG g) w (HG g) [(g,.cells J 214 (0,0))]:=St.startE g _ hX hg (fun _=>rfl);refine zz 2<|zn pn (.cells #[.slice (some ⟨g,0,none⟩) m cap] 26 (0,0)) G0 fun b3 w3 Y3 G3 C3 N3=>zz 4<|zn pn (.cells #[.int .u32 0] 214 (0,0)) G3 fun S w5 Y5 G5 C5 N5=>zx 0 #[.int .u32 0] G5 fun w6 G6 C6=>zz 17<|zlp Tryz.f266 [] [1,1,1,0,1,0] (fun(j:Nat)=>[(1,.slice I q.length P2),(2,.int .i64 (k:Int)),(6,.pointer (some ⟨S,0,none⟩)),(7,.func (.func 282) #[] #[.pointer (some ⟨b3,0,none⟩),.pointer (some ⟨S,0,none⟩)]),(12,.slice I q.length P2),(13,.int .i64 (q.length:Int)),(14,.int .i64 (j:Int))]) (fun(j:Nat)w1=>∃(Y1:Hid)(G:Array Value)(z:List Nat)(c:Nat),St (·=g) w (HG g) w1 Y1 [(S,.cells #[.int .u32 (c:Int)] 214 (0,0)),(b3,.cells #[.slice (some ⟨g,0,none⟩) m cap] 26 (0,0)),(g,.cells G 214 (0,0))]∧Le (rd w6 Y5) (rd w1 Y1)∧(zY m cap G z)∧(j≤q.length)∧(c≤1)∧(val z+c*4294967296^(j+k)=val l+4294967296^k*val (q.take j))) (fun(j:Nat)=>q.length-j) 0 ?_ ?_
 ·
  refine⟨_,J,l,0,G6,Le.refl _,hrow,qu _,by omega,by simp[val]⟩
 rintro j w7 K7 hK7 ⟨Y7,G,z,c,F,C7,hp7_0,hp7_1,hp7_2,C⟩;have H:=hp7_0;have hlen1:=H.len;refine zz 6<|zt 15 (p:=(j:Int)<(q.length:Int)) (fun F8=>?_) (fun F8=>?_)
 ·
  obtain⟨bk9,Z,rfl,_⟩:=U.addr (by omega)
  refine zz 8<|zi (b:=bk9) (off:=Z) (len:=q.length) (cap:=P2) (kd:= .i64) (i:=(j:Int)) 1 (Z+j) ?_;have J1_:=(Le3 C3 C5 C6).trans C7;refine zl ((U.cell (i:=j) (by omega)).mono J1_).cells<|zz 9<|zw 22 (x:=((j+k:Nat):Int))<|zz 1<|zop (at1 [K7] Tryz.f266 [1,1,1,0,1,0,0,1,1,0,0,1]) 5 (fun a11 _ Z11 hz11=>zLh 2 0 Z11 F rfl rfl (qCu _ g S b3 (j+k) m cap G z (q.getD j 0) c (F.ne (i:=2) (j:=0) rfl rfl (by decide)) (F.ne (i:=1) (j:=2) rfl rfl (by decide)) (F.ne (i:=1) (j:=0) rfl rfl (by decide)) (F.get 2 rfl) H (F.get 0 rfl) (F.atX 1 rfl (fun _ hx=>hx.elim (F.ne (i:=1) (j:=2) rfl rfl (by decide)) (F.ne (i:=1) (j:=0) rfl rfl (by decide)))) (by omega) (by first | exact U.getD_lt _ | omega) (by omega) (by omega)) ?_)
  rintro v12 w12 ⟨rfl,Q12,hg12,D12,hbc12⟩ hSf12 C12 a13 Z13;have G12:=hSf12 _ _ hg12 hbc12;refine hz11 Z13<|zz 5<|zw 25 (x:=(j:Int)+1)<|zz 2 ?_;refine kT (fun a h=>hK7 (j+1) _ a h ⟨_,Q12,(z.set (j+k) ((z.getD (j+k) 0+q.getD j 0+c) % 4294967296)),((z.getD (j+k) 0+q.getD j 0+c) / 4294967296),G12,(Le2 C7 C12),D12,by omega,by have:=U.getD_lt j;have:=H.getD_lt (j+k);omega,qLb _ _ _ _ _ _ (by omega) (by omega) C⟩ ?_)
  first | omega | (simp<;>omega)
 refine zz 12<|zw 29 (x:=((q.length+k:Nat):Int))<|zz 4 ?_;have V:=C;have hj1:=hp7_1;obtain rfl:j=q.length:=by omega
 rw[jz]at V;refine zlp Tryz.f266 [K7] [1,1,1,1,1,0] (fun(j:Nat)=>[(6,.pointer (some ⟨S,0,none⟩)),(7,.func (.func 282) #[] #[.pointer (some ⟨b3,0,none⟩),.pointer (some ⟨S,0,none⟩)]),(10,.int .i64 (j:Int))]) (fun j w1=>∃(Y1:Hid)(G:Array Value)(z:List Nat)(c:Nat),St (·=g) w (HG g) w1 Y1 [(S,.cells #[.int .u32 (c:Int)] 214 (0,0)),(b3,.cells #[.slice (some ⟨g,0,none⟩) m cap] 26 (0,0)),(g,.cells G 214 (0,0))]∧Le (rd w7 Y7) (rd w1 Y1)∧(zY m cap G z)∧(c≤1)∧(val z+c*4294967296^j=val l+4294967296^k*val q)) (fun j=>m-j) (q.length+k) ?_ ?_
 ·
  refine⟨_,G,z,c,F,Le.refl _,H,hp7_2,V⟩
 rintro j w14 K14 hK14 ⟨Y14,G,z,c,f,C14,N,O,y⟩;have H:=N;have hlen1:=H.len;refine zz 3<|zo 0 f<|zz 3<|zb 31 (b:=((c:Int)!=0)) (fun J15=>?_) (fun J15=>?_)
 ·
  have F16:(c:Int)≠0:=by simpa using J15
  have hjm:j<m:=zLj (i:=j) (len:=m) (v:=val l+4294967296^k*val q) (by have h1:=y;obtain rfl:c=1:=(by have:=O;omega);omega) hsum
  refine zz 8<|zop (at1 [K7,K14] Tryz.f266 [1,1,1,1,1,0,0,1,0,0]) 2 (fun a17 _ Z17 hz17=>zLh 2 0 Z17 f rfl rfl (qCu _ g S b3 (j) m cap G z (0) c (f.ne (i:=2) (j:=0) rfl rfl (by decide)) (f.ne (i:=1) (j:=2) rfl rfl (by decide)) (f.ne (i:=1) (j:=0) rfl rfl (by decide)) (f.get 2 rfl) H (f.get 0 rfl) (f.atX 1 rfl (fun _ hx=>hx.elim (f.ne (i:=1) (j:=2) rfl rfl (by decide)) (f.ne (i:=1) (j:=0) rfl rfl (by decide)))) (by omega) (by first | exact U.getD_lt _ | omega) (by omega) (by omega)) ?_)
  rintro v18 w18 ⟨rfl,Q18,hg18,D18,hbc18⟩ hSf18 C18 a19 Z19;have G18:=hSf18 _ _ hg18 hbc18;refine hz17 Z19<|zz 6<|zw 33 (x:=(j:Int)+1)<|zz 2 ?_;refine kT (fun a h=>hK14 (j+1) _ a h ⟨_,Q18,(z.set (j) ((z.getD (j) 0+0+c) % 4294967296)),((z.getD (j) 0+0+c) / 4294967296),G18,(Le2 C14 C18),D18,by have:=H.getD_lt j;omega,qCw _ _ _ _ (by omega) y⟩ ?_)
  first | omega | (simp<;>omega)
 have F20:(c:Int)=0:=by simpa using J15
 obtain rfl:c=0:=by omega
 refine zz 5<|zr' (v:= .tuple #[]) ?_;exact⟨f.upd,_,rfl,rfl,_,_,f.get 2 rfl,H,by have:=y;simpa using this⟩
end Go.Proofs.YtdfmdiakjdggbaaGreatDoor
namespace Go.Proofs.YtdfmdiakjdggbaaGreatDoor
open Go Go.Gv Go.RowKit IntKind
set_option maxRecDepth 100000
set_option maxHeartbeats 1000000
theorem qXq(w:World)(X:Hid)(hX:∀k o,X k o→k<w.heap.size)(x:Nat)(T:x<18446744073709551616):Calls Tryz.prog 174 #[.int .u64 (x:Int)] w (Ret E0 w fun H v=>∃l ad q cap,zIw w H 214 v l ad q cap∧zX l∧val l=x):=by
 refine zen Tryz.func174 ?_;have F:St E0 w X w X []:=St.start hX;refine zz 9<|zs 4 (v:= .int .u32 (IntKind.u32.wrap ((x:Int)))) (v':= .int .u32 ((x % 4294967296:Nat):Int)) (zQ (by rw[yV];omega))<|zz 2<|zs 6 (v:= .int .u64 (Int.fdiv ((x:Int)) (2^32))) (v':= .int .u64 ((x / 4294967296:Nat):Int)) (zQ (by rw[wJ _ 32 (c:=4294967296) (by decide) (by decide)];omega))<|zz 1<|zs 7 (v:= .int .u32 (IntKind.u32.wrap (((x / 4294967296:Nat):Int)))) (v':= .int .u32 ((x / 4294967296 % 4294967296:Nat):Int)) (zQ (by rw[yV];omega))<|zn (fun b=> .slice (some ⟨b,0,none⟩) 2 2) (.cells #[.int .u32 ((x % 4294967296:Nat):Int),.int .u32 ((x / 4294967296 % 4294967296:Nat):Int)] 214 (0,0)) F fun C V S z I N=>?_
 have f:zY 2 2 #[.int .u32 ((x % 4294967296:Nat):Int),.int .u32 ((x / 4294967296 % 4294967296:Nat):Int)] [x % 4294967296,x / 4294967296 % 4294967296]:=zY.of [x % 4294967296,x / 4294967296 % 4294967296] (by intro y G;simp at G;omega) (by simp[maxLen]) (by simp[U32]) (by simp)
 refine zc z (zAd _ X0 (qA _) _ _ _ ([x % 4294967296,x / 4294967296 % 4294967296]) (zY.limbs (Y:=X0) f (z.get 0 rfl) (fun _ h=>h.elim))) ?_ (vs:=#[.slice (some ⟨C,0,none⟩) 2 2]);rintro U W j J O rfl;refine zz 4<|zr' (v:= .slice (some ⟨C,0,none⟩) (qV ([x % 4294967296,x / 4294967296 % 4294967296])) 2) ?_;exact⟨j.upd,_,rfl,Go.Gv.trimmed [x % 4294967296,x / 4294967296 % 4294967296],_,_,_,⟨rfl,(jP _).symm,tJ f.lt,.inr ⟨_,_,rfl,j.own_ge 0 rfl,j.get 0 rfl,f.trimmed⟩⟩,qY _,by rw[jK];simp only[val];omega⟩
theorem pK(w:World)(g m cap:Nat)(S:Array Value)(l:List Nat)(hg:w.heap[g]?=some (.cells S 214 (0,0)))(W:zY m cap S l)(hm:m≤1099511627776)
    (O:Option Addr) (len2 P2:Nat) (q:List Nat) (h2:zN (rd w (HG g)) O len2 P2 q) (hll:q.length≤l.length) (hle:val q≤val l):
    Calls Tryz.prog 226 #[.slice (some ⟨g,0,none⟩) m cap,.slice O len2 P2] w (Ret (·=g) w fun w' v=>∃V l',v= .slice (some ⟨g,0,none⟩) l'.length cap∧w'.heap[g]?=some (.cells V 214 (0,0))∧zY l'.length cap V l'∧zX l'∧val l'=val l-val q):=by
 obtain rfl:=h2.hlen;have hcap2:=h2.hcap;have hbig2:=h2.hbig;refine zen Tryz.func226 ?_;have hX:∀k o,HG g k o→k<w.heap.size:=by rintro k o rfl;exact(zy.1 hg).1
 have G0:St (·=g) w (HG g) w (HG g) [(g,.cells S 214 (0,0))]:=St.startE g _ hX hg (fun _=>rfl);have hlen:=W.len;refine zz 19<|zlp Tryz.f226 [] [1,1,0,1,0] (fun((j,c):Nat×Nat)=>[(0,.slice (some ⟨g,0,none⟩) m cap),(1,.slice O q.length P2),(5,.int .u32 (c:Int)),(9,.slice O q.length P2),(10,.int .i64 (q.length:Int)),(11,.int .i64 (j:Int))]) (fun((j,c):Nat×Nat)w1=>∃(Y1:Hid)(N:Array Value)(f:List Nat),St (·=g) w (HG g) w1 Y1 [(g,.cells N 214 (0,0))]∧Le (rd w (HG g)) (rd w1 Y1)∧(zY m cap N f)∧(j≤q.length)∧(c≤1)∧(val f+val (q.take j)=val l+c*4294967296^j)) (fun((j,c):Nat×Nat)=>q.length-j) (0,0) ?_ ?_
 ·
  refine⟨_,S,l,G0,Le.refl _,W,qu _,by omega,by simp[val]⟩
 rintro⟨j,c⟩ w2 K2 hK2 ⟨Y2,N,f,G2,C2,hp2_0,hp2_1,I,J⟩;have C:=hp2_0;have G:=C.len;have H:=C.getD_lt j;have hlt2:=h2.getD_lt j;have J1:=I;refine zz 6<|zt 12 (p:=(j:Int)<(q.length:Int)) (fun F3=>?_) (fun F3=>?_)
 ·
  obtain⟨bk4,of5,rfl,_⟩:=h2.addr (by omega)
  refine zz 8<|zi (b:=bk4) (off:=of5) (len:=q.length) (cap:=P2) (kd:= .i64) (i:=(j:Int)) 1 (of5+j)<|zl ((h2.cell (i:=j) (by omega)).mono C2).cells<|zz 9<|zi (b:=g) (off:=0) (len:=m) (cap:=cap) (kd:= .i64) (i:=(j:Int)) 1 j<|zl (ad:=⟨g,j,none⟩) (G2.rowCells 0 rfl C (by have:=C.len;(try simp only[q9]at *);omega))<|zz 2<|zc G2 (qTs _ _ G2.lt ((f.getD j 0:Nat):Int) ((q.getD j 0:Nat):Int) (c:Int) ⟨by omega,by omega⟩ ⟨by omega,by omega⟩ ⟨by omega,by omega⟩) ?_
  rintro v7 w7 G7 C7 N7 rfl;refine zz 3<|zi (b:=g) (off:=0) (len:=m) (cap:=cap) (kd:= .i64) (i:=(j:Int)) 1 j<|zop (at1 [K2] Tryz.f226 [1,1,0,1,0,0,1,1,0,0,1]) 13 (fun a8 _ Z8 hz8=>vU (y:=(zBu (f.getD j 0) (q.getD j 0) c)) (k:=j) (e:=((((f.getD j 0:Nat):Int)-((q.getD j 0:Nat):Int)) % 4294967296-(c:Int)) % 4294967296) 0 Z8 G7 (by unfold zBu;omega) rfl C (by have:=C.len;(try simp only[q9]at *);omega) (zYx _ _ _) ?_)
  intro Q9 w9 D9 G9 C9;refine hz8 Z8<|zz 1<|zs 5 (v:= .int .u32 (if((f.getD j 0:Nat):Int)<((q.getD j 0:Nat):Int)+(c:Int)then 1 else 0)) (v':= .int .u32 ((brw (f.getD j 0) (q.getD j 0) c:Nat):Int)) (zQ (by unfold brw;(repeat' split)<;>omega))<|zz 5<|zw 29 (x:=(j:Int)+1)<|zz 2 ?_
  refine kT (fun a h=>hK2 ((j+1,brw (f.getD j 0) (q.getD j 0) c)) _ a h ⟨_,Q9,(f.set j (zBu (f.getD j 0) (q.getD j 0) c)),G9,(Le3 C2 C7 C9),D9,by omega,qDi _ _ _,qQi _ _ _ _ _ (by omega) (by omega) H hlt2 J1 J⟩ ?_)
  first | omega | (simp<;>omega)
 refine zz 15 ?_;have Z:=J;have hj1:=hp2_1;obtain rfl:j=q.length:=by omega
 rw[jz]at Z;refine zlp Tryz.f226 [K2] [1,1,1,0,1,0] (fun((j,c):Nat×Nat)=>[(0,.slice (some ⟨g,0,none⟩) m cap),(5,.int .u32 (c:Int)),(8,.int .i64 (j:Int))]) (fun(j,c)w1=>∃(Y1:Hid)(N:Array Value)(f:List Nat),St (·=g) w (HG g) w1 Y1 [(g,.cells N 214 (0,0))]∧Le (rd w2 Y2) (rd w1 Y1)∧(zY m cap N f)∧(c≤1)∧(val f+val q=val l+c*4294967296^j)) (fun(j,c)=>m-j) (q.length,c) ?_ ?_
 ·
  refine⟨_,N,f,G2,Le.refl _,C,I,Z⟩
 rintro⟨j,c⟩ w10 K10 hK10 ⟨Y10,N,f,F,C10,T,U,z⟩;have C:=T;have G:=C.len;have H:=C.getD_lt j;have J1:=U;refine zz 7<|zb 33 (b:=((c:Int)!=0)) (fun J11=>?_) (fun J11=>?_)
 ·
  have F12:(c:Int)≠0:=by simpa using J11
  have hjm:j<m:=(by have h3:=kJ C.lt;rw[G]at h3;refine zLj (i:=j) (len:=m) (v:=val f) ?_ h3;have h1:=z;obtain rfl:c=1:=(by omega);omega)
  refine zz 10<|zi (b:=g) (off:=0) (len:=m) (cap:=cap) (kd:= .i64) (i:=(j:Int)) 1 j<|zl (ad:=⟨g,j,none⟩) (F.rowCells 0 rfl C (by have:=C.len;(try simp only[q9]at *);omega))<|zz 1<|zc F (qTs _ _ F.lt ((f.getD j 0:Nat):Int) 0 (c:Int) ⟨by omega,by omega⟩ ⟨by omega,by omega⟩ ⟨by omega,by omega⟩) ?_
  rintro v14 w14 G14 C14 N14 rfl;refine zz 3<|zi (b:=g) (off:=0) (len:=m) (cap:=cap) (kd:= .i64) (i:=(j:Int)) 1 j<|zop (at1 [K2,K10] Tryz.f226 [1,1,1,0,1,0,0,1,0,0]) 12 (fun a15 _ Z15 hz15=>vU (y:=(zBu (f.getD j 0) 0 c)) (k:=j) (e:=((((f.getD j 0:Nat):Int)-(0:Int)) % 4294967296-(c:Int)) % 4294967296) 0 Z15 G14 (by unfold zBu;omega) rfl C (by have:=C.len;(try simp only[q9]at *);omega) (zYx _ _ _) ?_)
  intro Q16 w16 D16 G16 C16;refine hz15 Z15<|zz 1<|zs 5 (v:= .int .u32 (if((f.getD j 0:Nat):Int)<(0:Int)+(c:Int)then 1 else 0)) (v':= .int .u32 ((brw (f.getD j 0) 0 c:Nat):Int)) (zQ (by unfold brw;(repeat' split)<;>omega))<|zz 6<|zw 35 (x:=(j:Int)+1)<|zz 2 ?_
  refine kT (fun a h=>hK10 ((j+1,brw (f.getD j 0) 0 c)) _ a h ⟨_,Q16,(f.set j (zBu (f.getD j 0) 0 c)),G16,(Le3 C10 C14 C16),D16,qDi _ _ _,qJo _ _ _ _ _ (by omega) H J1 z⟩ ?_)
  first | omega | (simp<;>omega)
 have F17:(c:Int)=0:=by simpa using J11
 have J0:c=0:=by omega
 refine zz 9<|zc F (zAd _ X0 (qA _) _ _ _ f (zY.limbs (Y:=X0) C (F.get 0 rfl) (fun _ h=>h.elim))) ?_ (vs:=#[.slice (some ⟨g,0,none⟩) m cap]);rintro v19 w19 G19 C19 N19 rfl;refine zz 4<|zr' (v:= .slice (some ⟨g,0,none⟩) (qV f) cap) ?_;exact⟨G19.upd,_,rfl,N,Go.Gv.trimmed f,by rw[jP],G19.get 0 rfl,by rw[jP];exact C.trimmed,qY _,by rw[jK];have h9:=z;rw[J0]at h9;omega⟩
set_option maxHeartbeats 1000000
theorem zEb(l G:Nat)(ad:Option Addr)(len cap:Nat)(I:List Nat)(hlen:len=I.length)(hbig:len≤1099511627776)(J:Nat→World→Prop)(R:World→Prop)
    (z:∀k w,J k w→At (rd w X0) ⟨G,0,none⟩ [.slice ad len cap])
    (hel:∀k w,J (k+1) w→k<len→∃b off,ad=some ⟨b,off,none⟩∧At (rd w X0) ⟨b,off+k,none⟩ [.int .u32 ((I.getD k 0:Nat):Int)])
    (hY:∀k w,k<len→J (k+1) w→YieldAt (FF none) 0 Tryz.prog l #[.int .i64 (k:Int),.int .u32 ((I.getD k 0:Nat):Int)] w (vE (J k) R))
    (h0:∀w,J 0 w→R w) (w:World) (hJ:J len w):Calls Tryz.prog 280 #[.func (.yield l) #[] #[],.pointer (some ⟨G,0,none⟩)] w (fun e w'=>(∃v,e= .returned v)∧R w'):=by
 refine zFe (n:=19) (vs:=[.func (.yield l) #[] #[],.pointer (some ⟨G,0,none⟩)]) Tryz.func280 rfl rfl rfl kr (fun a0 Z0=>?_);have Z0:Fr 19 a0 [(0,.func (.yield l) #[] #[]),(1,.pointer (some ⟨G,0,none⟩))]:=Z0;have G0:St E0 w X0 w X0 []:=St.start (qA _);refine zG (fun K1 hK1=>?_);refine zC ?_;refine qX Z0 kr (zE (d:=4) (v:= .slice ad len cap) Z0 kr (zB (t:=26) (g:=false) (vs:=[.slice ad len cap]) (ad:=⟨G,0,none⟩) rfl kr kr ir ((z _ _ hJ)).cells) ?_);intro a2 Z2;refine zD 2 [(6,.int .i64 (i64.wrap ((len:Int)-1))),(5,.int .i64 (len:Int))] Z2 kr kr (fun a3 Z3=>?_);have Z4:=Z3.set 6 (v':= .int .i64 ((len:Int)-1)) kr rfl (zQ (zAf (by omega) (by omega)))
 refine zD 1 [(3,.int .i64 ((len:Int)-1))] Z4 kr kr (fun a5 Z5=>?_);refine zH<|zA (hK1 _ _ ?_);refine kE ?_;refine lM (fun(k:Nat)a w1=>Fr 19 a [(0,.func (.yield l) #[] #[]),(1,.pointer (some ⟨G,0,none⟩)),(3,.int .i64 ((k:Int)-1))]∧J k w1∧k≤len) (fun k=>k) len ?_ ?_
 ·
  exact⟨Z5.as [0,1,3] kr kr,hJ,zq _⟩
 rintro k a6 w6 ⟨Z6,C,hk⟩;have G6:St E0 w6 X0 w6 X0 []:=St.start (qA _);refine zG (fun K7 hK7=>?_);refine zG (fun K8 hK8=>?_);refine zC<|zD 2 [(8,.bool (decide (((k:Int)-1)≥0))),(7,.int .i64 ((k:Int)-1))] Z6 kr kr (fun a9 Z9=>?_);refine zH<|zA (hK8 _ _ ?_);refine nP (decide (((k:Int)-1)≥0)) Z9 kr kr (fun q=>?_) (fun q=>?_)
 ·
  have Z11:=Z9.set 8 (v':= .bool true) kr rfl (zK q);have F12:((k:Int)-1)≥0:=jc q;obtain⟨j,rfl⟩:∃j,k=j+1:=⟨k-1,by omega⟩
  have Z13:=Z11.set 3 (v:= .int .i64 (((j+1:Nat):Int)-1)) (v':= .int .i64 (j:Int)) kr kr (zQ (by omega))
  obtain⟨b,off,rfl,Z⟩:=hel j _ C (by omega)
  refine wX<|zA (hK7 _ _ ?_);refine zG (fun K14 U=>?_);refine kE<|zG (fun K15 V=>?_);refine zC<|zD 2 [(12,.int .i64 (j:Int)),(11,.func (.yield l) #[] #[])] Z13 kr kr (fun a16 N=>?_);refine qX N kr (zE (d:=13) (v:= .slice (some ⟨b,off,none⟩) len cap) N kr (zB (t:=26) (g:=false) (vs:=[.slice (some ⟨b,off,none⟩) len cap]) (ad:=⟨G,0,none⟩) rfl kr kr ir ((z _ _ C)).cells) ?_);intro a17 Z17;refine zD 1 [(14,.int .i64 (j:Int))] Z17 kr kr (fun a18 O=>?_);refine qX O kr (zE (d:=15) (v:= .pointer (some ⟨b,off+j,none⟩)) O kr (jE (t:=26) (e:=214) (b:=b) (off:=off) (len:=len) (cap:=cap) (kd:= .i64) (i:=(j:Int)) (g:=false) (m:=1) (off':=off+j) rfl kr kr kr kr (by omega) (by omega) (by first | rfl | omega | (simp;done) | (simp;omega)) _) ?_)
  intro a19 S;refine qX S kr (zE (d:=16) (v:= .int .u32 ((I.getD j 0:Nat):Int)) S kr (zB (t:=214) (g:=false) (vs:=[.int .u32 ((I.getD j 0:Nat):Int)]) (ad:=⟨b,off+j,none⟩) rfl kr kr ir (Z).cells) ?_);intro a20 Z20;refine zLs (d:=17) (l:=l) (vs:=#[.int .i64 (j:Int),.int .u32 ((I.getD j 0:Nat):Int)]) Z20 kr rfl kr kr (hY j _ (by omega) C) (fun _ _ h=>h.ret) ?_
  rintro v21 w21 ⟨f,hv21,T,W⟩ a22 Z22;cases hv21;have G21:St E0 w21 X0 w21 X0 []:=St.start (qA _);refine zD 1 [(18,.bool (!f))] Z22 kr kr (fun a23 F=>?_);refine zH<|zA (V _ _ ?_);refine nP (!f) F kr kr (fun y=>?_) (fun y=>?_)
  ·
   have Z25:=F.set 18 (v':= .bool true) kr rfl (zK y);have F26:f=false:=by simpa using y
   have H:=F26;refine mM ?_;refine dU ?_;refine lD ?_;refine lD ?_;refine dU<|zWh (v:= .tuple #[]) (rs:=[]) Z25 kr Res.nil kr ?_;exact⟨⟨_,rfl⟩,(W H)⟩
  have Z27:=F.set 18 (v':= .bool false) kr rfl (zK y);have F28:f=true:=by simpa using y
  have H:=F28;refine wX ?_;refine yR<|zA (U _ _ ?_);refine zC<|zD 2 [(10,.int .i64 (i64.wrap ((j:Int)-1))),(9,.int .i64 (j:Int))] Z27 kr kr (fun a29 Z29=>?_);have Z30:=Z29.set 10 (v':= .int .i64 ((j:Int)-1)) kr rfl (zQ (zAf (by omega) (by omega)))
  refine zD 1 [(3,.int .i64 ((j:Int)-1))] Z30 kr kr (fun a31 Z31=>?_);refine zH<|zA ?_;exact⟨j,⟨Z31.as [0,1,3] kr kr,T H,by omega⟩,by show j<j+1;omega⟩
 have Z32:=Z9.set 8 (v':= .bool false) kr rfl (zK q);have F33:¬(((k:Int)-1)≥0):=k7 q;have hk0:k=0:=by omega
 refine aP ?_;refine rQ ?_;refine rQ ?_;refine mH<|zPj (v:= .tuple #[]) (rs:=[]) Z32 kr Res.nil kr ?_;exact⟨⟨_,rfl⟩,(h0 _ (hk0▸C))⟩
set_option maxHeartbeats 1000000
theorem zFt(w:World)(X:Hid)(hX:∀k o,X k o→k<w.heap.size)(ad:Option Addr)(f cap:Nat):Calls Tryz.prog 263 #[.slice ad f cap] w (Ret E0 w fun C v=>∃q,v= .func (.func 280) #[] #[.pointer (some ⟨q,0,none⟩)]∧w.heap.size≤q∧C.heap[q]?=some (.cells #[.slice ad f cap] 26 (0,0))):=by
 refine zen Tryz.func263 ?_;have y:St E0 w X w X []:=St.start hX;refine zz 2<|zn pn (.cells #[.slice ad f cap] 26 (0,0)) y fun z I H j F G=>zz 10<|zr' (v:= .func (.func 280) #[] #[.pointer (some ⟨z,0,none⟩)]) ?_;exact⟨j.upd,_,rfl,_,rfl,j.own_ge 0 rfl,j.get 0 rfl⟩
theorem fD{x y:Nat}(h:qO (x:Int) (y:Int)=0):x=y:=by unfold qO at h;(repeat' split at h)<;>omega
theorem nD{x y:Nat}(h:x<y):qO (x:Int) (y:Int)= -1:=by unfold qO;rw[qn (by omega)]
theorem nC{x y:Nat}(h:y<x):qO (x:Int) (y:Int)=1:=by unfold qO;rw[qm (by omega),qn (by omega)]
theorem zCi(x:Int):qO x x=0:=by unfold qO;rw[qm (by omega),qm (by omega)]
theorem qAt{l f:List Nat}(y:∀x∈l,x<4294967296)(z:∀x∈f,x<4294967296)(j:zX l)(q:zX f)(h:qO (l.length:Int) (f.length:Int)≠0):qO (l.length:Int) (f.length:Int)=qO (val l) (val f):=by
 rcases vj l.length f.length with e | e | e
 ·rw[nD e,nD (zEm y q e)]
 ·rw[e,zCi]at h;exact absurd rfl h
 ·rw[nC e,nC (zEm z j e)]
theorem qAu{l q:List Nat}(y:∀x∈l,x<4294967296)(z:∀x∈q,x<4294967296)(f:l.length=q.length)(k:Nat)(C:k<l.length)(heq:∀j,k+1≤j→j<l.length→l.getD j 0=q.getD j 0)
  (h:qO ((l.getD k 0:Nat):Int) ((q.getD k 0:Nat):Int)≠0):qO ((l.getD k 0:Nat):Int) ((q.getD k 0:Nat):Int)=qO (val l) (val q):=by
 rcases vj (l.getD k 0) (q.getD k 0)with e | e | e
 ·rw[nD e,nD (zZc y f k C heq e)]
 ·rw[e,zCi]at h;exact absurd rfl h
 ·rw[nC e,nC (zZc z f.symm k (by omega) (fun j y z=>(heq j y (by omega)).symm) e)]
theorem qIa{l q:List Nat}(f:l.length=q.length)(heq:∀j,0≤j→j<l.length→l.getD j 0=q.getD j 0):(0:Int)=qO (val l) (val q):=by rw[jDd f heq,zCi]
theorem zBl(w:World)(X:Hid)(hX:∀k o,X k o→k<w.heap.size)(ad:Option Addr)(len cap:Nat)(l:List Nat)(h:zN (rd w X) ad len cap l)(C:Option Addr)(len2 S:Nat)(y:List Nat)(h2:zN (rd w X) C len2 S y)(c1:zX l)(c2:zX y)(hm:len≤1099511627776):Calls Tryz.prog 225 #[.slice ad len cap,.slice C len2 S] w (Ret E0 w fun _ v=>v= .int .i64 (qO (val l) (val y))):=by
 obtain rfl:=h.hlen;obtain rfl:=h2.hlen;have hcap:=h.hcap;have hbig:=h.hbig;have hcap2:=h2.hcap;have hbig2:=h2.hbig;refine zNg (n:=30) (vs:=[.slice ad l.length cap,.slice C y.length S]) Tryz.func225 rfl rfl rfl kr (fun a0 Z0=>?_);have Z0:Fr 30 a0 [(0,.slice ad l.length cap),(1,.slice C y.length S)]:=Z0;have G0:St E0 w X w X []:=St.start hX;refine zG (fun K1 hK1=>?_);refine zC ?_;refine qX Z0 kr (lS (d:=3) (fun b=> .pointer (some ⟨b,0,none⟩)) (.cells #[.slice C y.length S] 26 (0,0)) Z0 kr G0 kw ?_);intro b2 w2 Y2 G2 C2 N2 a3 Z3;refine qX Z3 kr (lS (d:=4) (fun b=> .pointer (some ⟨b,0,none⟩)) (.cells #[.int .i64 0] 3 (0,0)) Z3 kr G2 kw ?_);intro b4 w4 Y4 G4 C4 N4 a5 Z5;refine zH<|zA (hK1 _ _ ?_);refine zG (fun K6 hK6=>?_);refine zG (fun K7 hK7=>?_);refine zC<|zD 2 [(10,.int .i64 (l.length:Int)),(9,.slice ad l.length cap)] Z5 kr kr (fun a8 Z8=>?_);refine qX Z8 kr (zE (d:=11) (v:= .slice C y.length S) Z8 kr (zB (t:=26) (g:=false) (vs:=[.slice C y.length S]) (ad:=⟨b2,0,none⟩) rfl kr kr ir (G4.cells 1 rfl rfl)) ?_);intro a9 Z9;refine zD 1 [(12,.int .i64 (y.length:Int))] Z9 kr kr (fun a10 Z10=>?_);refine qX Z10 kr (kF (d:=13) (f:=171) (cap:=#[]) (vs:=#[.int .i64 (l.length:Int),.int .i64 (y.length:Int)]) Z10 kr G4 rfl kr kr (fun w=>Tryz.call171 _ w) (zPs _ _ G4.lt (l.length:Int) (y.length:Int)) ?_);rintro v11 w11 J C11 N11 rfl a12 Z12;refine zD 1 [(5,.int .i64 (qO (l.length:Int) (y.length:Int)))] Z12 kr kr (fun a13 Z13=>?_);refine zH<|zA (hK7 _ _ ?_);refine zG (fun K14 hK14=>?_);refine zC<|zD 2 [(15,.bool ((qO (l.length:Int) (y.length:Int))!=0)),(14,.int .i64 (qO (l.length:Int) (y.length:Int)))] Z13 kr kr (fun a15 Z15=>?_);refine zH<|zA (hK14 _ _ ?_);refine nP ((qO (l.length:Int) (y.length:Int))!=0) Z15 kr kr (fun N=>?_) (fun N=>?_);have Z17:=Z15.set 15 (v':= .bool true) kr rfl (zK N);have F18:(qO (l.length:Int) (y.length:Int))≠0:=by simpa using N
 refine zG (fun K19 hK19=>?_);refine zC<|zD 1 [(16,.int .i64 (qO (l.length:Int) (y.length:Int)))] Z17 kr kr (fun a20 Z20=>?_);refine qX Z20 kr (zF (t:=3) (b:=b4) (off:=0) (c':=#[.int .i64 (qO (l.length:Int) (y.length:Int))]) (g:=false) (m:=1) 0 _ Z20 kr J rfl kr rfl kr kr kr rfl (by first | decide | (simp;done)) kr rfl ?_)
 intro w21 G21 C21;refine zH<|zA (hK19 _ _ ?_);refine mM ?_;refine lD ?_;refine jAd (v:= .int .i64 (qO (l.length:Int) (y.length:Int))) (rs:=[.cell 4 3]) Z20 kr (Res.cell (ad:=⟨b4,0,none⟩) (cs:=[.int .i64 (qO (l.length:Int) (y.length:Int))]) (g:=false) kr kr kr ir (G21.cells 0 rfl rfl) Res.nil) kr ?_;exact⟨G21.upd,_,rfl,zQ (qAt h.hlt h2.hlt c1 c2 F18)⟩;have Z22:=Z15.set 15 (v':= .bool false) kr rfl (zK N);have F23:(qO (l.length:Int) (y.length:Int))=0:=by simpa using N
 have U:=fD F23;refine wX<|zA (hK6 _ _ ?_);refine zG (fun K24 hK24=>?_);refine zG (fun K25 hK25=>?_);refine zC<|zD 1 [(17,.slice ad l.length cap)] Z22 kr kr (fun a26 Z26=>?_);refine qX Z26 kr (kF (d:=18) (f:=263) (cap:=#[]) (vs:=#[.slice ad l.length cap]) Z26 kr J rfl kr kr (fun w=>Tryz.call263 _ w) (zFt _ _ J.lt ad l.length cap) ?_);rintro v27 w27 G27 C27 N27 ⟨T,rfl,G,W⟩ a28 Z28;have G29:=St.adopt G27 (fun o h=>km.2 G (J.lt _ _ h)) (qx J.upd.size G) W;have C29:=Le.adopt C27 G;refine zH<|zA (hK25 _ _ ?_);refine kE<|zGo (f:=280) (caps:=#[.pointer (some ⟨T,0,none⟩)]) Z28 G29 kr kr (fun args w=>Tryz.call280 args w) fun rec30 l30 b30 w30 Y30 I G30 C30 N30=>?_;have V:=zCq b30 Z28;refine zEb l30 T ad l.length cap l rfl (by omega) (fun k w'=>∃(Y':Hid),St E0 w X w' Y' [(l30,.loop rec30),(b30,.deferred (some [])),(T,.cells #[.slice ad l.length cap] 26 (0,0)),(b4,.cells #[.int .i64 0] 3 (0,0)),(b2,.cells #[.slice C y.length S] 26 (0,0))]∧Le (rd w30 Y30) (rd w' Y')∧(∀j,k≤j→j<l.length→l.getD j 0=y.getD j 0)) _ ?_ ?_ ?_ ?_ _ ?_
 rintro k w32 ⟨Y32,G32,C32,hp32_0⟩;exact G32.at0 2 rfl rfl;rintro k w33 ⟨Y33,G33,C33,hp33_0⟩;intro hk;obtain⟨b,off,rfl,_⟩:=h.addr (by omega)
 exact⟨b,off,rfl,((h.cell (i:=k) (by omega)).mono (Le6 C2 C4 C11 C29 C30 C33)).mono Le.x0⟩
 intro k w34 hk;rintro⟨Y34,G34,C34,H⟩;refine zIt (p:=19) (q:=20) I Z28 G34 kr kr (fun a35 Z35=>?_);obtain⟨F,z,rfl,_⟩:=h2.addr (by omega)
 refine zG (fun K38 hK38=>?_);refine zC<|zD 1 [(6,.int .i64 (k:Int))] Z35 kr kr (fun a39 Z39=>?_);refine zH<|zA (hK38 _ _ ?_);refine zC<|zD 1 [(7,.int .u32 ((l.getD k 0:Nat):Int))] Z39 kr kr (fun a40 Z40=>?_);refine zH<|zA<|zCf I G34 (fun w41 G41 C41=>?_);refine kE<|zG (fun K42 hK42=>?_);refine zC<|zD 1 [(21,.int .u32 ((l.getD k 0:Nat):Int))] Z40 kr kr (fun a43 Z43=>?_);refine qX Z43 kr (zE (d:=22) (v:= .slice (some ⟨F,z,none⟩) y.length S) Z43 kr (zB (t:=26) (g:=false) (vs:=[.slice (some ⟨F,z,none⟩) y.length S]) (ad:=⟨b2,0,none⟩) rfl kr kr ir (G41.cells 4 rfl rfl)) ?_);intro a44 Z44;refine zD 1 [(23,.int .i64 (k:Int))] Z44 kr kr (fun a45 Z45=>?_);refine qX Z45 kr (zE (d:=24) (v:= .pointer (some ⟨F,z+k,none⟩)) Z45 kr (jE (t:=26) (e:=214) (b:=F) (off:=z) (len:=y.length) (cap:=S) (kd:= .i64) (i:=(k:Int)) (g:=false) (m:=1) (off':=z+k) rfl kr kr kr kr (by omega) (by omega) (by first | rfl | omega | (simp;done) | (simp;omega)) _) ?_)
 intro a46 Z46;refine qX Z46 kr (zE (d:=25) (v:= .int .u32 ((y.getD k 0:Nat):Int)) Z46 kr (zB (t:=214) (g:=false) (vs:=[.int .u32 ((y.getD k 0:Nat):Int)]) (ad:=⟨F,z+k,none⟩) rfl kr kr ir ((h2.cell (i:=k) (by omega)).mono (Le7 C2 C4 C11 C29 C30 C34 C41)).cells) ?_)
 intro a47 Z47;refine qX Z47 kr (kF (d:=26) (f:=264) (cap:=#[]) (vs:=#[.int .u32 ((l.getD k 0:Nat):Int),.int .u32 ((y.getD k 0:Nat):Int)]) Z47 kr G41 rfl kr kr (fun w=>Tryz.call264 _ w) (zGa _ _ G41.lt ((l.getD k 0:Nat):Int) ((y.getD k 0:Nat):Int)) ?_);rintro v48 w48 G48 C48 N48 rfl a49 Z49;refine zD 1 [(8,.int .i64 (qO ((l.getD k 0:Nat):Int) ((y.getD k 0:Nat):Int)))] Z49 kr kr (fun a50 Z50=>?_);refine zH<|zA (hK42 _ _ ?_);refine zG (fun K51 hK51=>?_);refine zC<|zD 2 [(28,.bool ((qO ((l.getD k 0:Nat):Int) ((y.getD k 0:Nat):Int))!=0)),(27,.int .i64 (qO ((l.getD k 0:Nat):Int) ((y.getD k 0:Nat):Int)))] Z50 kr kr (fun a52 Z52=>?_);refine zH<|zA (hK51 _ _ ?_);refine nP ((qO ((l.getD k 0:Nat):Int) ((y.getD k 0:Nat):Int))!=0) Z52 kr kr (fun O=>?_) (fun O=>?_);have Z54:=Z52.set 28 (v':= .bool true) kr rfl (zK O);have F55:(qO ((l.getD k 0:Nat):Int) ((y.getD k 0:Nat):Int))≠0:=by simpa using O
 refine zG (fun K56 hK56=>?_);refine zC<|zD 1 [(29,.int .i64 (qO ((l.getD k 0:Nat):Int) ((y.getD k 0:Nat):Int)))] Z54 kr kr (fun a57 Z57=>?_);refine qX Z57 kr (zF (t:=3) (b:=b4) (off:=0) (c':=#[.int .i64 (qO ((l.getD k 0:Nat):Int) ((y.getD k 0:Nat):Int))]) (g:=false) (m:=1) 3 _ Z57 kr G48 rfl kr rfl kr kr kr rfl (by first | decide | (simp;done)) kr rfl ?_)
 intro w58 G58 C58;refine zH<|zA (hK56 _ _ ?_);refine mM ?_;refine dU ?_;refine jDj G58 (fun w59 G59 C59=>vE.stop (wE.ret G59 (fun w60 G60 C60=>?_)));refine dU ?_;refine lD<|zNh (v:= .int .i64 (qO ((l.getD k 0:Nat):Int) ((y.getD k 0:Nat):Int))) (rs:=[.cell 4 3]) (vs:=[.int .i64 (qO ((l.getD k 0:Nat):Int) ((y.getD k 0:Nat):Int))]) 1 V G60 rfl kr kr (fun w61 G61 C61=>?_);refine⟨(Res.cell (ad:=⟨b4,0,none⟩) (cs:=[.int .i64 (qO ((l.getD k 0:Nat):Int) ((y.getD k 0:Nat):Int))]) (g:=false) kr kr kr ir (G61.cells 3 rfl rfl) Res.nil),?_⟩;exact⟨G61.upd,_,rfl,zQ (qAu h.hlt h2.hlt U k (by omega) H F55)⟩
 have Z62:=Z52.set 28 (v':= .bool false) kr rfl (zK O);have F63:(qO ((l.getD k 0:Nat):Int) ((y.getD k 0:Nat):Int))=0:=by simpa using O
 refine wX ?_;refine yR<|gD I G48 (fun w64 G64 C64=>vE.next ?_);exact⟨_,G64,(Le4 C34 C41 C48 C64),fun j hj hl=>(by rcases kz hj with rfl | h9;exact fD F63;exact H j h9 hl)⟩
 rintro w65 ⟨Y65,G65,C65,Z⟩;refine wE.norm I G65 (fun w66 G66 C66=>?_);refine yR<|zA (hK24 _ _ ?_);refine zG (fun K67 hK67=>?_);refine zC ?_;refine qX V kr (zF (t:=3) (b:=b4) (off:=0) (c':=#[.int .i64 0]) (g:=false) (m:=1) 3 _ V kr G66 rfl kr rfl kr kr kr rfl (by first | decide | (simp;done)) kr rfl ?_)
 intro w68 G68 C68;refine zH<|zA (hK67 _ _ ?_);refine mM<|zNh (v:= .int .i64 0) (rs:=[.cell 4 3]) (vs:=[.int .i64 0]) 1 V G68 rfl kr kr (fun w69 G69 C69=>?_);refine⟨(Res.cell (ad:=⟨b4,0,none⟩) (cs:=[.int .i64 0]) (g:=false) kr kr kr ir (G69.cells 3 rfl rfl) Res.nil),?_⟩;exact⟨G69.upd,_,rfl,zQ (qIa U Z)⟩;exact⟨_,G30,Le.refl _,fun j hj hl=>absurd hl (km.2 hj)⟩
set_option maxHeartbeats 1000000
theorem zAn{l j:List Nat}(h:vJ l j=0):(l.length≤512∧zX l)∧(j.length≤512∧zX j):=by
 have f:jG l=0∧jG j=0:=by
  unfold vJ at h;simp only[orL]at h;split at h
  ·rename_i f;split at h
   ·rename_i q;exact⟨f,q⟩
   ·contradiction
  ·contradiction
 exact⟨pY f.1,pY f.2⟩
theorem qEy(ad:Option Addr)(cap:Nat)(l:List Nat):∃f j q,(if 512<qV l then Value.tuple #[.slice none 0 0,.int .i64 4]else .tuple #[.slice ad (qV l) cap,.int .i64 0])= .tuple #[.slice f j q,.int .i64 (qMi l)]:=by
 unfold qMi;split<;>exact⟨_,_,_,rfl⟩
theorem jDk(w:World)(X:Hid)(hX:∀k o,X k o→k<w.heap.size)(ad:Option Addr)(W cap:Nat)(l:List Nat)(h:zN (rd w X) ad W cap l)(O:Option Addr)(C P2:Nat)(l2:List Nat)(I:zN (rd w X) O C P2 l2):Calls Tryz.prog 231 #[.slice ad W cap,.slice O C P2] w (Ret E0 w fun w' v=>zEq 214 w w' (or2 (vJ l l2) (qAc (val l+val l2))) (val l+val l2) v):=by
 obtain rfl:=h.hlen;obtain rfl:=I.hlen;have hcap:=h.hcap;have hbig:=h.hbig;have hcap2:=I.hcap;have hbig2:=I.hbig;refine zen Tryz.func231 ?_;have G0:St E0 w X w X []:=St.start hX;refine zz 11<|zc G0 (zAk _ X0 (qA _) _ _ _ l (h.mono Le.x0) _ _ _ l2 (I.mono Le.x0)) ?_;rintro v3 w3 G3 C3 N3 rfl;refine zz 9<|zb 12 (b:=((vJ l l2)!=0)) (fun J4=>?_) (fun J4=>?_);have F5:(vJ l l2)≠0:=by simpa using J4
 refine zz 10<|zr' (v:= .tuple #[.slice none 0 0,.int .i64 (vJ l l2)]) ?_;exact⟨G3.upd,_,rfl,by rw[zBk F5];exact .inl ⟨F5,rfl⟩⟩
 have F6:(vJ l l2)=0:=by simpa using J4
 obtain⟨⟨hl1,c1⟩,hl2,c2⟩:=zAn F6;refine zz 10<|zs 18 (v:= .int .i64 (if(l2.length:Int)>(l.length:Int)then(l2.length:Int)else(l.length:Int))) (v':= .int .i64 ((max l.length l2.length:Nat):Int)) (zQ (by split<;>omega))<|zz 1<|zw 19 (x:=((max l.length l2.length+1:Nat):Int))<|zop (at1 [] Tryz.f231 [1,1,0]) 6 (fun a7 _ Z7 hz7=>zBj (l:=((max l.length l2.length+1:Nat):Int)) (e:=214) (z:= .int .u32 0) (i0:=Tryz.t214) (max l.length l2.length+1) 4 Z7 G3 ?_)
 intro b8 w8 Y8 G8 C8 N8 a9 Z9;have D8:=zY.zeros (max l.length l2.length+1) (by simp only[maxLen];omega)
 refine hz7 Z9<|zz 7<|zop (at1 [] Tryz.f231 [1,1,1,0]) 2 (fun a10 _ Z10 V=>qAq (l2:=l) 0 Z10 G8 rfl D8 (h.mono (Le2 C3 C8)) (by omega) ?_)
 intro Q11 w11 D11 F C11 a12 Z12;refine V Z12<|zz 6<|zcE 0 F rfl (qRu _ b8 (max l.length l2.length+1) (max l.length l2.length+1) _ (l++List.drop l.length (List.replicate (max l.length l2.length+1) 0)) (F.get 0 rfl) D11 (by omega) _ _ _ l2 ((I.mono (Le3 C3 C8 C11)).mono (F.leHG 0 rfl)) 0 (by omega) (by rw[aH];exact qCv h.hlt I.hlt)) ?_
 rintro v14 w14 ob14 ⟨rfl,Q14,j,U,J,y⟩ H N C14;obtain rfl:=q8 (H.symm.trans U);refine zz 5<|zc N (qSh _ X0 (qA _) _ _ _ j (zY.limbs (Y:=X0) J (N.get 0 rfl) (fun _ h=>h.elim))) ?_ (vs:=#[.slice (some ⟨b8,0,none⟩) (max l.length l2.length+1) (max l.length l2.length+1)]);rintro v16 w16 G C16 N16 q;obtain⟨S,Z,T,f⟩:=qEy (some ⟨b8,0,none⟩) (max l.length l2.length+1) j;cases(q.trans f);refine zz 7<|zr' (v:= .tuple #[.slice S Z T,.int .i64 (qMi j)]) ?_;exact⟨G.upd,_,rfl,by rw[wM F6];exact zEq.fit J (G.get 0 rfl) (G.own_ge 0 rfl) (by have h9:=y;rw[aH]at h9;omega) f.symm⟩
set_option maxHeartbeats 1000000
theorem zOl(w:World)(X:Hid)(hX:∀k o,X k o→k<w.heap.size)(j:Option Addr)(f z:Nat)(q:f=0)(G:z≤9223372036854775807):Calls Tryz.prog 226 #[.slice none 0 0,.slice j f z] w (Ret E0 w fun _ v=>v= .slice none 0 0):=by
 subst q;refine zen Tryz.func226 ?_;have y:St E0 w X w X []:=St.start hX;refine zz 19<|zVs<|zz 21<|zVs<|zz 16<|zc y (zAd _ _ y.lt _ _ _ ([]) (zN.nil (r:=rd w X) (cap:=0) none (by omega))) ?_ (vs:=#[.slice none 0 0])
 rintro I J C F H rfl;refine zz 4<|zr' (v:= .slice none (qV ([])) 0) ?_;exact⟨C.upd,_,rfl,rfl⟩
def zVl(x y:Nat):Int:=if x<y then 7 else 0
theorem zPq{x y:Nat}(h:qO (x:Int) (y:Int)<0):x<y:=by unfold qO at h;(repeat' split at h)<;>omega
theorem zPp{x y:Nat}(h:¬qO (x:Int) (y:Int)<0):y≤x:=by unfold qO at h;(repeat' split at h)<;>omega
theorem qRs(w:World)(X:Hid)(hX:∀k o,X k o→k<w.heap.size)(ad:Option Addr)(len cap:Nat)(l:List Nat)(h:zN (rd w X) ad len cap l)(S:Option Addr)(I P2:Nat)(z:List Nat)(T:zN (rd w X) S I P2 z):Calls Tryz.prog 232 #[.slice ad len cap,.slice S I P2] w (Ret E0 w fun w' v=>zEq 214 w w' (or2 (vJ l z) (zVl (val l) (val z))) (val l-val z) v):=by
 obtain rfl:=h.hlen;obtain rfl:=T.hlen;have hcap:=h.hcap;have hbig:=h.hbig;have hcap2:=T.hcap;have hbig2:=T.hbig;have F:=T.hbig;refine zen Tryz.func232 ?_;have G0:St E0 w X w X []:=St.start hX;refine zz 11<|zc G0 (zAk _ X0 (qA _) _ _ _ l (h.mono Le.x0) _ _ _ z (T.mono Le.x0)) ?_;rintro v3 w3 G3 C3 N3 rfl;refine zz 11<|zb 10 (b:=((vJ l z)!=0)) (fun J4=>?_) (fun J4=>?_);have F5:(vJ l z)≠0:=by simpa using J4
 refine zz 11<|zr' (v:= .tuple #[.slice none 0 0,.int .i64 (vJ l z)]) ?_;exact⟨G3.upd,_,rfl,by rw[zBk F5];exact .inl ⟨F5,rfl⟩⟩
 have F6:(vJ l z)=0:=by simpa using J4
 obtain⟨⟨hl1,c1⟩,hl2,c2⟩:=zAn F6;refine zz 5<|zc G3 (zBl _ X0 (qA _) _ _ _ l ((h.mono C3).mono Le.x0) _ _ _ z ((T.mono C3).mono Le.x0) c1 c2 (by omega)) ?_
 rintro v8 w8 G8 C8 N8 rfl;refine zz 4<|zt 14 (p:=(qO (val l) (val z))<0) (fun F9=>?_) (fun F9=>?_);have C:=zPq F9;refine zz 10<|zr' (v:= .tuple #[.slice none 0 0,.int .i64 7]) ?_;exact⟨G8.upd,_,rfl,by rw[wM F6,zVl,qn C];exact .inl ⟨by decide,rfl⟩⟩
 have C:=zPp F9;refine zz 7<|zc G8 (zAo _ X0 (qA _) _ _ _ l ((h.mono (Le2 C3 C8)).mono Le.x0) (by omega)) ?_
 rintro v11 w11 G11 C11 N11 ⟨ad11,len11,P11,W⟩;rcases W with⟨rfl,q,hlt11,⟨rfl,rfl,rfl⟩ | ⟨g11,Q11,rfl,f,G,D11⟩⟩
 have y:l=[]:=qT q.symm;refine zz 1 ?_;have U:z=[]:=aK c2 (by have:=C;rw[y]at this;simp only[val]at this;omega)
 refine zc G11 (zOl _ X0 (qA _) _ _ _ (by rw[U];rfl) F) ?_ (vs:=#[.slice none 0 0,.slice S z.length P2])
 rintro v14 w14 G14 C14 N14 rfl;refine zz 5<|zr' (v:= .tuple #[.slice none 0 0,.int .i64 0]) ?_;exact⟨G14.upd,_,rfl,.inr ⟨by rw[wM F6,zVl,qm (by omega)],_,[],_,_,_,rfl,⟨⟨rfl,rfl,fun x hx=>by simp at hx,.inl ⟨rfl,rfl,rfl⟩⟩,.inl rfl,by rw[y];simp[val]⟩,by simp⟩⟩
 subst q;have N:=St.adopt G11 (fun o h=>km.2 f (G8.lt _ _ h)) (qx G8.upd.size f) G;have C12:=Le.adopt C11 f;refine zz 1<|zcE 0 N rfl (pK _ g11 l.length P11 _ l (N.get 0 rfl) D11 (by omega) _ _ _ z ((T.mono (Le3 C3 C8 C12)).mono (N.leHG 0 rfl)) (qB h.hlt c2 (by omega)) (by omega)) ?_
 rintro v16 w16 ob16 ⟨Q16,J,rfl,hg16,Z,j,H⟩ V O C16;obtain rfl:=q8 (V.symm.trans hg16);refine zz 5<|zr' (v:= .tuple #[.slice (some ⟨g11,0,none⟩) J.length P11,.int .i64 0]) ?_;exact⟨O.upd,_,rfl,.inr ⟨by rw[wM F6,zVl,qm (by omega)],_,J,_,_,_,rfl,⟨⟨rfl,rfl,Z.lt,.inr ⟨_,_,rfl,O.own_ge 0 rfl,O.get 0 rfl,Z⟩⟩,j,H⟩,qx (qB h.hlt j (by omega)) hl1⟩⟩
set_option maxHeartbeats 1000000
theorem jDp(w:World)(X:Hid)(hX:∀k o,X k o→k<w.heap.size)(ad:Option Addr)(len cap:Nat)(l:List Nat)(h:zN (rd w X) ad len cap l)(J:Option Addr)(len2 P2:Nat)(f:List Nat)(h2:zN (rd w X) J len2 P2 f):Calls Tryz.prog 230 #[.slice ad len cap,.slice J len2 P2] w (Ret E0 w fun w' v=>zEq 214 w w' (or2 (vJ l f) (qAc (val l*val f))) (val l*val f) v):=by
 obtain rfl:=h.hlen;obtain rfl:=h2.hlen;have hcap:=h.hcap;have hbig:=h.hbig;have hcap2:=h2.hcap;have hbig2:=h2.hbig;refine zen Tryz.func230 ?_;have G0:St E0 w X w X []:=St.start hX;refine zz 11<|zc G0 (zAk _ X0 (qA _) _ _ _ l (h.mono Le.x0) _ _ _ f (h2.mono Le.x0)) ?_;rintro v3 w3 G3 C3 N3 rfl;refine zz 9<|zb 18 (b:=((vJ l f)!=0)) (fun J4=>?_) (fun J4=>?_);have F5:(vJ l f)≠0:=by simpa using J4
 refine zz 10<|zr' (v:= .tuple #[.slice none 0 0,.int .i64 (vJ l f)]) ?_;exact⟨G3.upd,_,rfl,by rw[zBk F5];exact .inl ⟨F5,rfl⟩⟩
 have F6:(vJ l f)=0:=by simpa using J4
 obtain⟨⟨hl1,c1⟩,hl2,c2⟩:=zAn F6;refine zz 10<|zw 24 (x:=((l.length+f.length:Nat):Int))<|zz 1<|zw 25 (x:=((l.length+f.length+1:Nat):Int))<|zop (at1 [] Tryz.f230 [1,1,0]) 6 (fun a7 _ Z7 hz7=>zBj (l:=((l.length+f.length+1:Nat):Int)) (e:=214) (z:= .int .u32 0) (i0:=Tryz.t214) (l.length+f.length+1) 4 Z7 G3 ?_);intro T w8 Y8 G8 C8 N8 a9 Z9;have D8:=zY.zeros (l.length+f.length+1) (by simp only[maxLen];omega)
 refine hz7 Z9<|zz 12<|zlp Tryz.f230 [] [1,1,1,0,1,0] (fun(i:Nat)=>[(1,.slice J f.length P2),(7,.slice (some ⟨T,0,none⟩) (l.length+f.length+1) (l.length+f.length+1)),(27,.slice ad l.length cap),(28,.int .i64 (l.length:Int)),(29,.int .i64 (i:Int))]) (fun(i:Nat)w1=>∃(Y1:Hid)(Q1:Array Value)(l1:List Nat),St E0 w X w1 Y1 [(T,.cells Q1 214 (0,0))]∧Le (rd w8 Y8) (rd w1 Y1)∧(zY (l.length+f.length+1) (l.length+f.length+1) Q1 l1)∧(i≤l.length)∧(val l1=val (l.take i)*val f)) (fun(i:Nat)=>l.length-i) 0 ?_ ?_;refine⟨_,(List.replicate (l.length+f.length+1) (Value.int .u32 0)).toArray,(List.replicate (l.length+f.length+1) 0),G8,Le.refl _,D8,qu _,by simp[val,vM]⟩
 rintro i w10 S hK10 ⟨Y10,Q1,l1,G10,C10,V,hp10_1,q⟩;have D1:=V;have hlen1:=D1.len;have hlti:=h.getD_lt i;refine zz 6<|zt 30 (p:=(i:Int)<(l.length:Int)) (fun F11=>?_) (fun F11=>?_);obtain⟨bk12,O,rfl,_⟩:=h.addr (by omega)
 refine zz 8<|zi (b:=bk12) (off:=O) (len:=l.length) (cap:=cap) (kd:= .i64) (i:=(i:Int)) 1 (O+i)<|zl ((h.cell (i:=i) (by omega)).mono (Le3 C3 C8 C10)).cells<|zz 9<|zw 36 (x:=((f.length+1:Nat):Int))<|zop (at1 [S] Tryz.f230 [1,1,1,0,1,0,0,1,1,0,0,1,0]) 3 (fun a14 _ Z14 hz14=>zBj (l:=((f.length+1:Nat):Int)) (e:=214) (z:= .int .u32 0) (i0:=Tryz.t214) (f.length+1) 4 Z14 G10 ?_)
 intro F w15 Y15 G15 C15 N15 a16 Z16;have D15:=zY.zeros (f.length+1) (by simp only[maxLen];omega)
 refine hz14 Z16<|zz 12<|zlp Tryz.f230 [S] [1,1,1,0,1,0,0,1,1,0,0,1,1,0,1,0] (fun(j:Nat)=>[(1,.slice J f.length P2),(7,.slice (some ⟨T,0,none⟩) (l.length+f.length+1) (l.length+f.length+1)),(8,.int .i64 (i:Int)),(9,.int .u32 ((l.getD i 0:Nat):Int)),(10,.slice (some ⟨F,0,none⟩) (f.length+1) (f.length+1)),(27,.slice (some ⟨bk12,O,none⟩) l.length cap),(28,.int .i64 (l.length:Int)),(29,.int .i64 (i:Int)),(38,.slice J f.length P2),(39,.int .i64 (f.length:Int)),(40,.int .i64 (j:Int))]) (fun(j:Nat)w1=>∃(Y1:Hid)(Q2:Array Value)(C:List Nat),St E0 w X w1 Y1 [(F,.cells Q2 214 (0,0)),(T,.cells Q1 214 (0,0))]∧Le (rd w15 Y15) (rd w1 Y1)∧(zY (f.length+1) (f.length+1) Q2 C)∧(j≤f.length)∧(val C=l.getD i 0*val (f.take j))∧(∀t,j<t→C.getD t 0=0)) (fun(j:Nat)=>f.length-j) 0 ?_ ?_;refine⟨_,(List.replicate (f.length+1) (Value.int .u32 0)).toArray,(List.replicate (f.length+1) 0),G15,Le.refl _,D15,qu _,by simp[val,vM],fun t _=>by by_cases ht:t<f.length+1<;>simp[zp,ht]⟩
 rintro j w17 K17 hK17 ⟨Y17,Q2,C,I,C17,W,hp17_1,G,H⟩;have D2:=W;have hlen2:=D2.len;have hltj:=h2.getD_lt j;have hltp:=D2.getD_lt j;have hmul:l.getD i 0*f.getD j 0≤4294967295*4294967295:=vp (by omega) (by omega)
 refine zz 6<|zt 41 (p:=(j:Int)<(f.length:Int)) (fun F18=>?_) (fun F18=>?_);obtain⟨bk19,of20,rfl,_⟩:=h2.addr (by omega)
 refine zz 8<|zi (b:=bk19) (off:=of20) (len:=f.length) (cap:=P2) (kd:= .i64) (i:=(j:Int)) 1 (of20+j) ?_;have J1_:=(Le4 C3 C8 C10 C15).trans C17;refine zl ((h2.cell (i:=j) (by omega)).mono J1_).cells<|zz 8<|zs 46 (v:= .int .u64 (IntKind.u64.wrap (((l.getD i 0:Nat):Int)))) (v':= .int .u64 ((l.getD i 0:Nat):Int)) (zQ (nX (by omega) (by omega)))<|zz 2<|zs 48 (v:= .int .u64 (IntKind.u64.wrap (((f.getD j 0:Nat):Int)))) (v':= .int .u64 ((f.getD j 0:Nat):Int)) (zQ (nX (by omega) (by omega)))<|zz 1<|zs 49 (v:= .int .u64 (IntKind.u64.wrap (((l.getD i 0:Nat):Int)*((f.getD j 0:Nat):Int)))) (v':= .int .u64 ((l.getD i 0*f.getD j 0:Nat):Int)) (zQ ((nX (by rw[←xt];omega) (by rw[←xt];omega)).trans (xt _ _).symm))<|zz 2<|zi (b:=F) (off:=0) (len:=(f.length+1)) (cap:=(f.length+1)) (kd:= .i64) (i:=(j:Int)) 1 j ?_
 refine zl (ad:=⟨F,j,none⟩) (I.rowCells 0 rfl D2 (by have:=D2.len;(try simp only[q9]at *);omega))<|zz 1<|zs 54 (v:= .int .u64 (IntKind.u64.wrap (((C.getD j 0:Nat):Int)))) (v':= .int .u64 ((C.getD j 0:Nat):Int)) (zQ (nX (by omega) (by omega)))<|zz 1<|zs 55 (v:= .int .u64 (IntKind.u64.wrap (((l.getD i 0*f.getD j 0:Nat):Int)+((C.getD j 0:Nat):Int)))) (v':= .int .u64 ((l.getD i 0*f.getD j 0+C.getD j 0:Nat):Int)) (zQ (nX (by omega) (by omega)))<|zz 9<|zw 60 (x:=((j+1:Nat):Int))<|zz 2<|zs 62 (v:= .int .u32 (IntKind.u32.wrap (((l.getD i 0*f.getD j 0+C.getD j 0:Nat):Int)))) (v':= .int .u32 (((l.getD i 0*f.getD j 0+C.getD j 0) % 4294967296:Nat):Int)) (zQ (by rw[yV];omega)) ?_
 refine zz 2<|zs 64 (v:= .int .u64 (Int.fdiv (((l.getD i 0*f.getD j 0+C.getD j 0:Nat):Int)) (2^32))) (v':= .int .u64 (((l.getD i 0*f.getD j 0+C.getD j 0) / 4294967296:Nat):Int)) (zQ (by rw[wJ _ 32 (c:=4294967296) (by decide) (by decide)];omega))<|zz 1<|zs 65 (v:= .int .u32 (IntKind.u32.wrap ((((l.getD i 0*f.getD j 0+C.getD j 0) / 4294967296:Nat):Int)))) (v':= .int .u32 (((l.getD i 0*f.getD j 0+C.getD j 0) / 4294967296:Nat):Int)) (zQ (by rw[yV];omega))<|zi (b:=F) (off:=0) (len:=(f.length+1)) (cap:=(f.length+1)) (kd:= .i64) (i:=(j:Int)) 1 j<|zop (at1 [S,K17] Tryz.f230 [1,1,1,0,1,0,0,1,1,0,0,1,1,0,1,0,0,1,1,0,0,1,1]) 11 (fun a21 _ Z21 hz21=>vU (y:=((l.getD i 0*f.getD j 0+C.getD j 0) % 4294967296)) (k:=j) (e:=(((l.getD i 0*f.getD j 0+C.getD j 0) % 4294967296:Nat):Int)) 0 Z21 I (by first | rfl | omega | (simp;omega)) rfl D2 (by have:=D2.len;(try simp only[q9]at *);omega) (by first | omega | (simp;omega)) ?_)
 intro Q22 w22 D22 G22 C22;refine hz21 Z21<|zi (b:=F) (off:=0) (len:=(f.length+1)) (cap:=(f.length+1)) (kd:= .i64) (i:=((j+1:Nat):Int)) 1 ((((j+1:Nat):Int)).toNat)<|zop (at1 [S,K17] Tryz.f230 [1,1,1,0,1,0,0,1,1,0,0,1,1,0,1,0,0,1,1,0,0,1,1]) 13 (fun a23 _ Z23 hz23=>vU (y:=((l.getD i 0*f.getD j 0+C.getD j 0) / 4294967296)) (k:=(((j+1:Nat):Int)).toNat) (e:=(((l.getD i 0*f.getD j 0+C.getD j 0) / 4294967296:Nat):Int)) 0 Z23 G22 (by first | rfl | omega | (simp;omega)) rfl D22 (by have:=D22.len;(try simp only[q9]at *);omega) (by first | omega | (simp;omega)) ?_)
 intro Q24 w24 D24 G24 C24;refine hz23 Z23<|zz 5<|zw 68 (x:=(j:Int)+1)<|zz 2 ?_;refine kT (fun a h=>hK17 (j+1) _ a h ⟨_,Q24,((C.set j ((l.getD i 0*f.getD j 0+C.getD j 0) % 4294967296)).set ((((j+1:Nat):Int)).toNat) ((l.getD i 0*f.getD j 0+C.getD j 0) / 4294967296)),G24,(Le3 C17 C22 C24),D24,by omega,by rw[yU f j (by omega),yc,←x6];exact qOj C j _ _ _ (by omega) (H _ (by omega)) G,fun t ht=>by rw[xH (by omega),xH (by omega)];exact H t (by omega)⟩ ?_)
 first | omega | (simp<;>omega)
 have hpv:val C=l.getD i 0*val f:=by have h9:=G;rwa[show j=f.length by omega,jz]at h9
 refine zz 10<|zcE 1 I rfl (qRu _ T (l.length+f.length+1) (l.length+f.length+1) _ l1 (I.get 1 rfl) D1 (by omega) _ _ _ C (zY.limbs (Y:=HG T) D2 (I.get 0 rfl) (fun o h=>I.ne (i:=0) (j:=1) rfl rfl (by decide) h)) i (by omega) (by have h8:=q;rw[q,hpv];have h9:=yU l i (by omega);have e:val (l.take i)*val f+4294967296^i*(l.getD i 0*val f)=val (l.take (i+1))*val f:=(by rw[h9,ja];congr 1;ac_rfl);rw[e];exact zHb (jq (zEn _ _) (kJ h.hlt)) (kJ h2.hlt) (by omega))) ?_ (vs:=#[.slice (some ⟨T,0,none⟩) (l.length+f.length+1) (l.length+f.length+1),.slice (some ⟨F,0,none⟩) (f.length+1) (f.length+1),.int .i64 (i:Int)])
 rintro v26 w26 ob26 ⟨rfl,Q26,ls26,hg26,D26,Z⟩ hob26 G26 C26;obtain rfl:=q8 (hob26.symm.trans hg26);refine zz 5<|zw 73 (x:=(i:Int)+1)<|zz 2 ?_;have J2_:=(Le3 C10 C15 C17).trans C26;refine kT (fun a h=>hK10 (i+1) _ a h ⟨_,Q26,ls26,G26.tail,J2_,D26,by omega,by have h8:=Z;have h9:=hpv;rw[yU l i (by omega),ja,h8,h9,←q];have e:l.getD i 0*4294967296^i*val f=4294967296^i*(l.getD i 0*val f):=(by ac_rfl);omega⟩ ?_)
 first | omega | (simp<;>omega)
 have hfin:val l1=val l*val f:=by have h9:=q;rwa[show i=l.length by omega,jz]at h9
 refine zz 9<|zc G10 (qSh _ X0 (qA _) _ _ _ l1 (zY.limbs (Y:=X0) D1 (G10.get 0 rfl) (fun _ h=>h.elim))) ?_ (vs:=#[.slice (some ⟨T,0,none⟩) (l.length+f.length+1) (l.length+f.length+1)]);rintro v28 w28 G28 C28 N28 U;obtain⟨af28,lf28,cf28,N⟩:=qEy (some ⟨T,0,none⟩) (l.length+f.length+1) l1;cases(U.trans N);refine zz 7<|zr' (v:= .tuple #[.slice af28 lf28 cf28,.int .i64 (qMi l1)]) ?_;exact⟨G28.upd,_,rfl,by rw[wM F6];exact zEq.fit D1 (G28.get 0 rfl) (G28.own_ge 0 rfl) (hfin) N.symm⟩
set_option maxHeartbeats 1000000
def qUu(T:TypeId)(Φ:List Nat→Prop)(y:Nat)(z:Obj)(v:Value):Prop:=∃j f q,z= .cells j T (0,0)∧v= .slice (some ⟨y,0,none⟩) q.length f∧zY q.length f j q∧Φ q
theorem zPu(w:World)(g m cap:Nat)(cur:Array Value)(l:List Nat)(hg:w.heap[g]?=some (.cells cur 214 (0,0)))(G:zY m cap cur l)(hm:m≤1099511627776)(hcan:zX l)(W:Nat)(hc:W≤1):
    Calls Tryz.prog 227 #[.slice (some ⟨g,0,none⟩) m cap,.int .u32 (W:Int)] w (Ret (·=g) w fun w1 v=>∃g' o',w1.heap[g']?=some o'∧(w.heap.size≤g'∨g'=g)∧qUu 214 (fun l'=>l'.length≤m+1∧zX l'∧val l'=2*val l+W) g' o' v):=by
 refine zen Tryz.func227 ?_;have hX:∀k o,HG g k o→k<w.heap.size:=by rintro k o rfl;exact(zy.1 hg).1
 have G0:St (·=g) w (HG g) w (HG g) [(g,.cells cur 214 (0,0))]:=St.startE g _ hX hg (fun _=>rfl);have q:=G.len;refine zz 14<|zlp Tryz.f227 [] [1,0,1,0] (fun((j,c):Nat×Nat)=>[(0,.slice (some ⟨g,0,none⟩) m cap),(1,.int .u32 (c:Int)),(7,.slice (some ⟨g,0,none⟩) m cap),(8,.int .i64 (m:Int)),(9,.int .i64 (j:Int))]) (fun((j,c):Nat×Nat)w1=>∃(Y1:Hid)(Q1:Array Value)(C:List Nat),St (·=g) w (HG g) w1 Y1 [(g,.cells Q1 214 (0,0))]∧Le (rd w (HG g)) (rd w1 Y1)∧(zY m cap Q1 C)∧(j≤l.length)∧(c≤1)∧(val C+c*4294967296^j=(val l+W)+val (l.take j))∧(∀t,j≤t→C.getD t 0=l.getD t 0)) (fun((j,c):Nat×Nat)=>l.length-j) (0,W) ?_ ?_
 ·
  refine⟨_,cur,l,G0,Le.refl _,G,qu _,hc,by simp[val],fun _ _=>rfl⟩
 rintro⟨j,c⟩ w2 K2 hK2 ⟨Y2,Q1,C,V,C2,O,hp2_1,S,F,T⟩;have H:=O;have f:=H.len;have hlt1:=G.getD_lt j;have J1:=S;have z:=T;refine zz 6<|zt 10 (p:=(j:Int)<(m:Int)) (fun F3=>?_) (fun F3=>?_)
 ·
  refine zz 8<|zi (b:=g) (off:=0) (len:=m) (cap:=cap) (kd:= .i64) (i:=(j:Int)) 1 j<|zl (ad:=⟨g,j,none⟩) (V.rowCells 0 rfl H (by have:=H.len;(try simp only[q9]at *);omega))<|zz 9<|zs 17 (v:= .int .u32 (IntKind.u32.wrap (((C.getD j 0:Nat):Int)*2^1))) (v':= .int .u32 ((l.getD j 0*2 % 4294967296:Nat):Int)) (zQ (by rw[yV,z j (zq _)];omega))<|zz 2<|zs 19 (v:= .int .u32 (rV ((l.getD j 0*2 % 4294967296:Nat):Int) (c:Int))) (v':= .int .u32 ((l.getD j 0*2 % 4294967296+c:Nat):Int)) (zQ (qLm _ _ J1))<|zz 2<|zs 21 (v:= .int .u32 (Int.fdiv (((C.getD j 0:Nat):Int)) (2^31))) (v':= .int .u32 ((l.getD j 0 / 2147483648:Nat):Int)) (zQ (by rw[wJ _ 31 (c:=2147483648) (by decide) (by decide),z j (zq _)];omega)) ?_
  refine zi (b:=g) (off:=0) (len:=m) (cap:=cap) (kd:= .i64) (i:=(j:Int)) 1 j<|zop (at1 [K2] Tryz.f227 [1,0,1,0,0,1,1,0,0,1]) 9 (fun a4 _ Z4 hz4=>vU (y:=(l.getD j 0*2 % 4294967296+c)) (k:=j) (e:=((l.getD j 0*2 % 4294967296+c:Nat):Int)) 0 Z4 V (by first | rfl | omega | (simp;omega)) rfl H (by have:=H.len;(try simp only[q9]at *);omega) (by omega) ?_)
  intro Q5 w5 D5 G5 C5;refine hz4 Z4<|zz 6<|zw 23 (x:=(j:Int)+1)<|zz 2 ?_;refine kT (fun a h=>hK2 ((j+1,l.getD j 0 / 2147483648)) _ a h ⟨_,Q5,(C.set j (l.getD j 0*2 % 4294967296+c)),G5,(Le2 C2 C5),D5,by omega,by omega,qLx l C j c _ (by omega) (by omega) (z j (zq _)) F,fun t ht=>by rw[xH (by omega)];exact z t (by omega)⟩ ?_)
  first | omega | (simp<;>omega)
 have I:val C+c*4294967296^m=val l+W+val l:=by have h9:=F;rwa[show j=l.length by omega,jz,q]at h9
 refine zz 13<|zb 25 (b:=((c:Int)!=0)) (fun J6=>?_) (fun J6=>?_)
 ·
  have F7:(c:Int)≠0:=by simpa using J6
  have N:c=1:=by omega
  refine zz 4<|zn (fun b=> .slice (some ⟨b,0,none⟩) 1 1) (.cells #[.int .u32 (c:Int)] 214 (0,0)) V fun b9 w9 Y9 G9 C9 N9=>zop (at1 [K2] Tryz.f227 [1,1,0,1,0]) 3 (fun a10 _ Z10 hz10=>zHj (b:=4) (m:=1) (c:=1) (size:=1) (ad:=⟨b9,0,none⟩) (xs:=U32 C) (news:=[.int .u32 (c:Int)]) (i0:=Tryz.t214) (cur:=Q1) (nn:=m) (cap:=cap) (g:=g) (e:=214) 1 Z10 G9 rfl H.row (G9.cells 0 rfl rfl) kr kr (by simp only[maxLen];omega) (by show(_+1)*4≤_;omega) ?_)
  intro Z P11 Q11 w11 Y11 D11 J C11 a12 Z12;have U:=zY.app D11 H.lt (by omega:c<4294967296)
  refine hz10 Z12<|zz 10<|zr' (v:= .slice (some ⟨Z,0,none⟩) (m+1) P11) ?_;exact⟨J.upd,_,rfl,Z,_,J.get 1 rfl,J.own_or 1 rfl,_,_,(C++[c]),rfl,by rw[qo,f];rfl,by rw[qo,f];exact U,by simp only[qo,yg];omega,zJx (by omega),by rw[dO,f];omega⟩
 have F13:(c:Int)=0:=by simpa using J6
 have N:c=0:=by omega
 refine zz 10<|zr' (v:= .slice (some ⟨g,0,none⟩) m cap) ?_;exact⟨V.upd,_,rfl,g,_,V.get 0 rfl,V.own_or 0 rfl,_,_,C,rfl,by rw[f],by rw[f];exact H,by omega,zPk H.lt (fun h0=>by rw[N]at I;have h8:=tX hcan (fun e=>by rw[e]at q;simp at q;omega);rw[f];rw[q]at h8;omega),by rw[N]at I;omega⟩
theorem zTr(w:World)(X:Hid)(hX:∀k o,X k o→k<w.heap.size)(f:Nat)(hc:f≤1):Calls Tryz.prog 227 #[.slice none 0 0,.int .u32 (f:Int)] w (Ret E0 w fun w1 v=>∃N ad' y q,zAh 214 w w1 v N ad' y q f∧N.length≤1):=by
 refine zen Tryz.func227 ?_;have H:St E0 w X w X []:=St.start hX;refine zz 14<|zVs<|zz 19<|zb 25 (b:=((f:Int)!=0)) (fun C=>?_) (fun C=>?_);have F3:(f:Int)≠0:=by simpa using C
 refine zz 4<|zn (fun b=> .slice (some ⟨b,0,none⟩) 1 1) (.cells #[.int .u32 (f:Int)] 214 (0,0)) H fun V w5 Y5 I Z N5=>zop (at1 [] Tryz.f227 [1,1,0,1,0]) 3 (fun a6 _ T G=>zRd (b:=4) (m:=1) (c:=1) (size:=1) (ad:=⟨V,0,none⟩) (news:=[.int .u32 (f:Int)]) (i0:=Tryz.t214) (e:=214) T I (I.cells 0 rfl rfl) kr (by omega) (by simp only[maxLen];omega) (by show 1*4≤_;omega) ?_)
 intro W J S w7 Y7 O z C7 a8 U;have j:zY 1 J S [f]:=zY.app (m:=0) (l:=[]) O (fun x F=>by simp at F) (by omega)
 refine G U<|zz 10<|zr' (v:= .slice (some ⟨W,0,none⟩) 1 J) ?_;exact⟨z.upd,_,rfl,[f],_,_,_,⟨⟨rfl,rfl,j.lt,.inr ⟨_,_,rfl,z.own_ge 0 rfl,z.get 0 rfl,j⟩⟩,zJx (l:=[]) (by omega),by simp[val]⟩,by simp⟩
 have F9:(f:Int)=0:=by simpa using C
 refine zz 10<|zr' (v:= .slice none 0 0) ?_;exact⟨H.upd,_,rfl,[],_,_,_,⟨⟨rfl,rfl,fun x F=>by simp at F,.inl ⟨rfl,rfl,rfl⟩⟩,.inl rfl,by simp[val];omega⟩,by simp⟩
set_option maxHeartbeats 1000000
theorem zSl(l:List Nat):val l % 2=l.getD 0 0 % 2:=by
 rcases l with _ | ⟨x,l⟩
 ·simp[val]
 ·simp only[val,List.getD_cons_zero];omega
theorem zIn{k m v V:Nat}(h:v*2^k=V)(hp:0<v)(z:V<4294967296^m):k<V∧k<32*m:=by
 have j:1*2^k≤v*2^k:=q6 _ hp;have q:k<2^k:=Nat.lt_two_pow_self;refine⟨by omega,?_⟩
 have y:(4294967296:Nat)^m=2^(32*m):=by rw[y0]
 have f:2^k<2^(32*m):=by omega
 exact(wy (by omega:1<2)).1 f
theorem zFd(w:World)(g m cap:Nat)(cur:Array Value)(l:List Nat)(hg:w.heap[g]?=some (.cells cur 214 (0,0)))(S:zY m cap cur l)(hm:m≤1099511627776)(hcan:zX l)(hpos:0<val l):
    Calls Tryz.prog 224 #[.slice (some ⟨g,0,none⟩) m cap] w (Ret (·=g) w fun w1 v=>∃k cur' l',v= .tuple #[.slice (some ⟨g,0,none⟩) l'.length cap,.int .i64 ((k:Nat):Int)]∧w1.heap[g]?=some (.cells cur' 214 (0,0))∧zY l'.length cap cur' l'∧zX l'∧val l'*2^k=val l∧val l' % 2=1):=by
 refine zNg (n:=37) (vs:=[.slice (some ⟨g,0,none⟩) m cap]) Tryz.func224 rfl rfl rfl kr (fun a0 Z0=>?_);have Z0:Fr 37 a0 [(0,.slice (some ⟨g,0,none⟩) m cap)]:=Z0;have hX:∀k o,HG g k o→k<w.heap.size:=by rintro k o rfl;exact(zy.1 hg).1
 have G0:St (·=g) w (HG g) w (HG g) [(g,.cells cur 214 (0,0))]:=St.startE g _ hX hg (fun _=>rfl);have hlen:=S.len;refine zG (fun K1 hK1=>?_);refine zC ?_;refine qX Z0 kr (lS (d:=1) (fun b=> .pointer (some ⟨b,0,none⟩)) (.cells #[.slice (some ⟨g,0,none⟩) m cap] 26 (0,0)) Z0 kr G0 kw ?_);intro T w2 Y2 G2 C2 N2 a3 Z3;refine zD 2 [(3,.int .i64 0),(2,.slice none 0 0)] Z3 kr kr (fun a4 Z4=>?_);refine zH<|zA (hK1 _ _ ?_);refine zG (fun K5 hK5=>?_);refine zC<|zD 1 [(4,.int .i64 0)] Z4 kr kr (fun a6 Z6=>?_);refine zH<|zA (hK5 _ _ ?_);refine zG (fun K7 hK7=>?_);refine kE ?_;refine lM (fun(k:Nat)ac w1=>∃(Y1:Hid)(bs:List Nat)(z:Nat)(Q1:Array Value)(j:List Nat),Fr 37 ac [(1,.pointer (some ⟨T,0,none⟩)),(4,.int .i64 (k:Int))] (bs.map Go.Gv.mark)∧St (·=g) w (HG g) w1 Y1 ((T,.cells #[.slice (some ⟨g,0,none⟩) z cap] 26 (0,0))::(g,.cells Q1 214 (0,0))::xM bs)∧Le (rd w2 Y2) (rd w1 Y1)∧(zY z cap Q1 j)∧(zX j)∧(val j*2^k=val l)) (fun(k:Nat)=>val l-k) 0 ?_ ?_
 ·
  refine⟨_,[],m,cur,l,Z6.as [1,4] kr kr,G2,Le.refl _,S,hcan,by simp⟩
 rintro k a8 w8 ⟨Y8,bs,z,Q1,j,Z8,G8,C8,hp8_0,hp8_1,hp8_2⟩;have D1:=hp8_0;have F:=D1.len;have Z:=hp8_1;have G:=hp8_2;have hp1:0<val j:=vd (fun e=>by rw[e]at G;omega)
 obtain⟨hkv,hkm⟩:=zIn G hp1 (kJ S.lt);rw[hlen]at hkm;have hm0:0<z:=by rcases jp z with e | e;rw[qT (F.trans e)]at hp1;simp[val]at hp1;exact e
 have hm1:z≤m:=by have:=qB S.lt Z (by have:=vk (val j) (wc k);omega);omega
 have hlt0:=D1.getD_lt 0;refine zG (fun K9 hK9=>?_);refine zG (fun K10 hK10=>?_);refine zC ?_;refine qX Z8 kr (zE (d:=8) (v:= .slice (some ⟨g,0,none⟩) z cap) Z8 kr (zB (t:=26) (g:=false) (vs:=[.slice (some ⟨g,0,none⟩) z cap]) (ad:=⟨T,0,none⟩) rfl kr kr ir (G8.cells 0 rfl rfl)) ?_);intro a11 Z11;refine zD 2 [(10,.bool (decide ((z:Int)>0))),(9,.int .i64 (z:Int))] Z11 kr kr (fun a12 Z12=>?_);have Z13:=Z12.set 10 (v':= .bool true) kr rfl (zK (kn (by omega)))
 refine zD 1 [(11,.bool true)] Z13 kr kr (fun a14 Z14=>?_);refine qX Z14 kr (zE (d:=12) (v:= .slice (some ⟨g,0,none⟩) z cap) Z14 kr (zB (t:=26) (g:=false) (vs:=[.slice (some ⟨g,0,none⟩) z cap]) (ad:=⟨T,0,none⟩) rfl kr kr ir (G8.cells 0 rfl rfl)) ?_);intro a15 Z15;refine qX Z15 kr (zE (d:=13) (v:= .pointer (some ⟨g,0,none⟩)) Z15 kr (jE (t:=26) (e:=214) (b:=g) (off:=0) (len:=z) (cap:=cap) (kd:= .i64) (i:=0) (g:=false) (m:=1) (off':=0) rfl kr kr kr kr (by omega) (by omega) kr _) ?_)
 intro a16 Z16;refine qX Z16 kr (zE (d:=14) (v:= .int .u32 ((j.getD 0 0:Nat):Int)) Z16 kr (zB (t:=214) (g:=false) (vs:=[.int .u32 ((j.getD 0 0:Nat):Int)]) (ad:=⟨g,0,none⟩) rfl kr kr ir (G8.rowCells 1 rfl D1 (by have:=D1.len;(try simp only[q9]at *);omega))) ?_)
 intro a17 Z17;refine zD 1 [(15,.int .u32 (wV ((j.getD 0 0:Nat):Int) 1))] Z17 kr kr (fun a18 Z18=>?_);have Z19:=Z18.set 15 (v':= .int .u32 ((j.getD 0 0 % 2:Nat):Int)) kr rfl (zQ (zPh _ hlt0));refine zD 2 [(17,.bool (((j.getD 0 0 % 2:Nat):Int)==0)),(16,.bool (((j.getD 0 0 % 2:Nat):Int)==0))] Z19 kr kr (fun a20 Z20=>?_);refine zH<|zA (hK10 _ _ ?_);refine nP (((j.getD 0 0 % 2:Nat):Int)==0) Z20 kr kr (fun V=>?_) (fun V=>?_)
 ·
  have Z22:=Z20.set 17 (v':= .bool true) kr rfl (zK V);have F23:((j.getD 0 0 % 2:Nat):Int)=0:=by simpa using V
  have heven:val j % 2=0:=by rw[zSl];omega
  refine wX<|zA (hK9 _ _ ?_);refine kE<|zG (fun K24 hK24=>?_);refine zC ?_;refine qX Z22 kr (lS (d:=5) (fun b=> .pointer (some ⟨b,0,none⟩)) (.cells #[.int .u32 0] 214 (0,0)) Z22 kr G8 kw ?_);intro b25 w25 Y25 G25 C25 N25 a26 Z26;refine qX Z26 kr (zF (t:=214) (b:=b25) (off:=0) (c':=#[.int .u32 0]) (g:=false) (m:=1) 0 _ Z26 kr G25 rfl kr rfl kr kr kr rfl (by first | decide | (simp;done)) kr rfl ?_)
  intro w27 U C27;refine zH<|zA (hK24 _ _ ?_);refine zG (fun K28 hK28=>?_);refine zG (fun K29 hK29=>?_);refine zC ?_;refine qX Z26 kr (zE (d:=18) (v:= .slice (some ⟨g,0,none⟩) z cap) Z26 kr (zB (t:=26) (g:=false) (vs:=[.slice (some ⟨g,0,none⟩) z cap]) (ad:=⟨T,0,none⟩) rfl kr kr ir (U.cells 1 rfl rfl)) ?_);intro a30 Z30;refine qX Z30 kr (kF (d:=19) (f:=263) (cap:=#[]) (vs:=#[.slice (some ⟨g,0,none⟩) z cap]) Z30 kr U rfl kr kr (fun w=>Tryz.call263 _ w) (zFt _ _ U.lt (some ⟨g,0,none⟩) z cap) ?_);rintro v31 w31 G31 C31 N31 ⟨W,rfl,H,hget31⟩ a32 Z32;have G33:=St.adopt G31 (fun o h=>km.2 H (U.lt _ _ h)) (qx U.upd.size H) hget31;have C33:=Le.adopt C31 H;refine zH<|zA (hK29 _ _ ?_);refine kE<|zGo (f:=280) (caps:=#[.pointer (some ⟨W,0,none⟩)]) Z32 G33 kr kr (fun args w=>Tryz.call280 args w) fun rec34 l34 b34 w34 Y34 O G34 C34 N34=>?_;have Z35:=zCq b34 Z32;refine zEb l34 W (some ⟨g,0,none⟩) z cap j F.symm (by omega) (fun C w'=>∃(Y':Hid)(Q2:Array Value)(I:List Nat)(r:Nat),St (·=g) w (HG g) w' Y' ((l34,.loop rec34)::(b34,.deferred (some []))::(W,.cells #[.slice (some ⟨g,0,none⟩) z cap] 26 (0,0))::(b25,.cells #[.int .u32 ((r*2147483648:Nat):Int)] 214 (0,0))::(T,.cells #[.slice (some ⟨g,0,none⟩) z cap] 26 (0,0))::(g,.cells Q2 214 (0,0))::xM bs)∧Le (rd w34 Y34) (rd w' Y')∧(zY z cap Q2 I)∧(r≤1)∧(2*val I+r*4294967296^C=val j+val (j.take C))∧(∀i,i<C→I.getD i 0=j.getD i 0)) _ ?_ ?_ ?_ ?_ _ ?_
  ·
   rintro C w36 ⟨Y36,Q2,I,r,G36,C36,hp36_0,hp36_1,hp36_2,hp36_3⟩;exact G36.at0 2 rfl rfl
  ·
   rintro C w37 ⟨Y37,Q2,I,r,G37,C37,J,hp37_1,hp37_2,hp37_3⟩;intro hk;refine⟨g,0,rfl,?_⟩;rw[←hp37_3 C (by omega)]
   exact zY.cellX0 J (G37.get 5 rfl) (by have:=(J).len;omega)
  ·
   intro C w38 hk;rintro⟨Y38,Q2,I,r,G38,C38,hp38_0,hp38_1,hp38_2,hp38_3⟩;refine zIt (p:=20) (q:=21) O Z32 G38 kr kr (fun a39 Z39=>?_);have D2:=hp38_0;have hlen2:=D2.len;have hr1:=hp38_1;have hv2:=hp38_2;have heq2:=hp38_3;have hltk:=D1.getD_lt C;refine zG (fun K40 hK40=>?_);refine zC<|zD 1 [(6,.int .i64 (C:Int))] Z39 kr kr (fun a41 Z41=>?_);refine zH<|zA (hK40 _ _ ?_);refine zC<|zD 1 [(7,.int .u32 ((j.getD C 0:Nat):Int))] Z41 kr kr (fun a42 Z42=>?_);refine zH<|zA<|zCf O G38 (fun w43 G43 C43=>?_);refine kE<|zC ?_;refine qX Z42 kr (zE (d:=22) (v:= .slice (some ⟨g,0,none⟩) z cap) Z42 kr (zB (t:=26) (g:=false) (vs:=[.slice (some ⟨g,0,none⟩) z cap]) (ad:=⟨T,0,none⟩) rfl kr kr ir (G43.cells 4 rfl rfl)) ?_);intro a44 Z44;refine zD 3 [(25,.int .u32 (Int.fdiv (((j.getD C 0:Nat):Int)) (2^1))),(24,.int .u32 ((j.getD C 0:Nat):Int)),(23,.int .i64 (C:Int))] Z44 kr kr (fun a45 Z45=>?_);have Z46:=Z45.set 25 (v':= .int .u32 ((j.getD C 0 / 2:Nat):Int)) kr rfl (zQ (by rw[wJ _ 1 (c:=2) (by decide) (by decide)];omega))
   refine qX Z46 kr (zE (d:=26) (v:= .int .u32 ((r*2147483648:Nat):Int)) Z46 kr (zB (t:=214) (g:=false) (vs:=[.int .u32 ((r*2147483648:Nat):Int)]) (ad:=⟨b25,0,none⟩) rfl kr kr ir (G43.cells 3 rfl rfl)) ?_);intro a47 Z47;refine zD 1 [(27,.int .u32 (rV ((j.getD C 0 / 2:Nat):Int) ((r*2147483648:Nat):Int)))] Z47 kr kr (fun a48 Z48=>?_);have Z49:=Z48.set 27 (v':= .int .u32 ((j.getD C 0 / 2+r*2147483648:Nat):Int)) kr rfl (zQ (qLn _ _ (by omega) hr1))
   refine zD 2 [(29,.int .u32 (IntKind.u32.wrap (((j.getD C 0:Nat):Int)*2^31))),(28,.int .u32 ((j.getD C 0:Nat):Int))] Z49 kr kr (fun a50 Z50=>?_);have Z51:=Z50.set 29 (v':= .int .u32 ((j.getD C 0 % 2*2147483648:Nat):Int)) kr rfl (zQ (by rw[yV];omega))
   refine qX Z51 kr (zE (d:=30) (v:= .pointer (some ⟨g,C,none⟩)) Z51 kr (jE (t:=26) (e:=214) (b:=g) (off:=0) (len:=z) (cap:=cap) (kd:= .i64) (i:=(C:Int)) (g:=false) (m:=1) (off':=C) rfl kr kr kr kr (by omega) (by omega) (by first | rfl | omega | (simp;done) | (simp;omega)) _) ?_)
   intro a52 Z52;refine qX Z52 kr (mY (t:=214) (y:=(j.getD C 0 / 2+r*2147483648)) (k:=C) (e:=((j.getD C 0 / 2+r*2147483648:Nat):Int)) 5 Z52 kr G43 rfl rfl rfl (by first | rfl | omega | (simp;omega)) kr rfl D2 (by have:=D2.len;(try simp only[q9]at *);omega) (by omega) ?_)
   intro Q53 w53 D53 G53 C53;refine qX Z52 kr (zF (t:=214) (b:=b25) (off:=0) (c':=#[.int .u32 ((j.getD C 0 % 2*2147483648:Nat):Int)]) (g:=false) (m:=1) 3 _ Z52 kr G53 rfl kr rfl kr kr kr rfl (by first | decide | (simp;done)) kr rfl ?_)
   intro w54 G54 C54;refine zH ?_;refine yR<|gD O G54 (fun w55 G55 C55=>vE.next ?_);exact⟨_,Q53,(I.set C (j.getD C 0 / 2+r*2147483648)),j.getD C 0 % 2,G55,(Le5 C38 C43 C53 C54 C55),D53,by omega,qNf j I C r (by omega) (by omega) (heq2 C (by omega)) hv2,fun i hi=>by rw[xH (by omega)];exact heq2 i (by omega)⟩
  ·
   rintro w56 ⟨Y56,Q2,I,r,G56,C56,hp56_0,hp56_1,hp56_2,hp56_3⟩;refine wE.norm O G56 (fun w57 G57 C57=>?_);have D2:=hp56_0;have hlen2:=D2.len;have hhalf:val I*2=val j:=by have h9:=hp56_2;have h8:=hp56_1;rw[uj]at h9;simp only[val,cI]at h9;omega
   refine yR<|zA (hK28 _ _ ?_);refine zG (fun K58 hK58=>?_);refine zC ?_;refine qX Z35 kr (zE (d:=31) (v:= .slice (some ⟨g,0,none⟩) z cap) Z35 kr (zB (t:=26) (g:=false) (vs:=[.slice (some ⟨g,0,none⟩) z cap]) (ad:=⟨T,0,none⟩) rfl kr kr ir (G57.cells 4 rfl rfl)) ?_);intro a59 Z59;refine qX Z59 kr (kF (d:=32) (f:=235) (cap:=#[]) (vs:=#[.slice (some ⟨g,0,none⟩) z cap]) Z59 kr G57 rfl kr kr (fun w=>Tryz.call235 _ w) (zAd _ X0 (qA _) _ _ _ I (zY.limbs (Y:=X0) D2 (G57.get 5 rfl) (fun _ h=>h.elim))) ?_);rintro v60 w60 G60 C60 N60 rfl a61 Z61;have hrt:=D2.trimmed;refine qX Z61 kr (zF (t:=26) (b:=T) (off:=0) (c':=#[.slice (some ⟨g,0,none⟩) (qV I) cap]) (g:=false) (m:=1) 4 _ Z61 kr G60 rfl kr rfl kr kr kr rfl (by first | decide | (simp;done)) kr rfl ?_)
   intro w62 G62 C62;refine zH<|zA (hK58 _ _ ?_);refine zC<|zD 2 [(34,.int .i64 (i64.wrap ((k:Int)+1))),(33,.int .i64 (k:Int))] Z61 kr kr (fun a63 Z63=>?_);have Z64:=Z63.set 34 (v':= .int .i64 ((k+1:Nat):Int)) kr rfl (zQ (zAf (by omega) (by omega)))
   refine zD 1 [(4,.int .i64 ((k+1:Nat):Int))] Z64 kr kr (fun a65 Z65=>?_);refine zH ?_;refine yR<|zA ?_;refine⟨k+1,⟨_,(_::bs),qV I,Q2,(Go.Gv.trimmed I),Z65.as [1,4] kr kr,(St.mid [(T,.cells #[.slice (some ⟨g,0,none⟩) (qV I) cap] 26 (0,0)),(g,.cells Q2 214 (0,0))] G62.tail.swap.tail.swap.tail),(Le9 C8 C25 C27 C33 C34 C56 C57 C60 C62),hrt,qY _,by rw[jK,jd,←G,←hhalf];ac_rfl⟩,?_⟩
   first | omega | (simp;omega)
  ·
   exact⟨_,Q1,j,0,G34,Le.refl _,D1,by omega,by rw[←F,jz];omega,fun _ _=>rfl⟩
 have Z66:=Z20.set 17 (v':= .bool false) kr rfl (zK V);have F67:((j.getD 0 0 % 2:Nat):Int)≠0:=by simpa using V
 have hodd:val j % 2=1:=by rw[zSl];omega
 refine aP ?_;refine rQ ?_;refine rQ ?_;refine mH<|zA (hK7 _ _ ?_);refine zG (fun K68 hK68=>?_);refine zC ?_;refine qX Z66 kr (zE (d:=35) (v:= .slice (some ⟨g,0,none⟩) z cap) Z66 kr (zB (t:=26) (g:=false) (vs:=[.slice (some ⟨g,0,none⟩) z cap]) (ad:=⟨T,0,none⟩) rfl kr kr ir (G8.cells 0 rfl rfl)) ?_);intro a69 Z69;refine zD 3 [(3,.int .i64 (k:Int)),(2,.slice (some ⟨g,0,none⟩) z cap),(36,.int .i64 (k:Int))] Z69 kr kr (fun a70 Z70=>?_);refine zH<|zA (hK68 _ _ ?_);refine mM ?_;refine jAe (bs:=bs) (N:=[(T,.cells #[.slice (some ⟨g,0,none⟩) z cap] 26 (0,0)),(g,.cells Q1 214 (0,0))]) (v:= .tuple #[.slice (some ⟨g,0,none⟩) z cap,.int .i64 (k:Int)]) (rs:=[.tmp 2,.tmp 3]) (vs:=[.slice (some ⟨g,0,none⟩) z cap,.int .i64 (k:Int)]) Z70 G8 kr kr (fun w71 G71 C71=>?_);refine⟨(Res.tmp kr (Res.tmp kr Res.nil)),?_⟩;exact⟨G71.upd,_,rfl,k,Q1,j,by rw[F],G71.get 1 rfl,by rw[F];exact D1,Z,G,hodd⟩
set_option maxHeartbeats 1000000
theorem qLr{x y:Nat}(h:qO (x:Int) (y:Int)= -1):x<y:=by unfold qO at h;(repeat' split at h)<;>omega
theorem qVs{x y:Nat}(h:qO (x:Int) (y:Int)≠0)(f:qO (x:Int) (y:Int)≠ -1):y<x:=by unfold qO at h f;(repeat' split at h)<;>(repeat' split at f)<;>omega
theorem jDn(w:World)(X:Hid)(hX:∀k o,X k o→k<w.heap.size)(ad:Option Addr)(len cap:Nat)(l:List Nat)(h:zN (rd w X) ad len cap l)(ad2:Option Addr)(len2 P2:Nat)(G:List Nat)(h2:zN (rd w X) ad2 len2 P2 G):Calls Tryz.prog 155 #[.slice ad len cap,.slice ad2 len2 P2] w (Ret E0 w fun w' v=>zEq 214 w w' (vJ l G) (Nat.gcd (val l) (val G)) v):=by
 obtain rfl:=h.hlen;obtain rfl:=h2.hlen;have hcap:=h.hcap;have hbig:=h.hbig;have hcap2:=h2.hcap;have hbig2:=h2.hbig;refine zen Tryz.func155 ?_;have G0:St E0 w X w X []:=St.start hX;refine zz 12<|zc G0 (zAk _ X0 (qA _) _ _ _ l (h.mono Le.x0) _ _ _ G (h2.mono Le.x0)) ?_;rintro v3 w3 G3 C3 N3 rfl;refine zz 9<|zb 13 (b:=((vJ l G)!=0)) (fun J4=>?_) (fun J4=>?_);have F5:(vJ l G)≠0:=by simpa using J4
 refine zz 11<|zr' (v:= .tuple #[.slice none 0 0,.int .i64 (vJ l G)]) ?_;exact⟨G3.upd,_,rfl,.inl ⟨F5,rfl⟩⟩;have F6:(vJ l G)=0:=by simpa using J4
 obtain⟨⟨hl1,c1⟩,hl2,c2⟩:=zAn F6;refine zz 6<|zc G3 (zAo _ X0 (qA _) _ _ _ l ((h.mono C3).mono Le.x0) (by omega)) ?_
 rintro v8 w8 G8 C8 N8 ⟨ad8,zCz,P8,how8⟩;rcases how8 with⟨rfl,hlen8,hlt8,⟨rfl,rfl,rfl⟩ | ⟨g8,Q8,rfl,hge8,hget8,D8⟩⟩
 have hnil8:l=[]:=qT hlen8.symm;have hzA:val l=0:=by rw[hnil8];rfl
 refine zz 1<|zc G8 (zAo _ X0 (qA _) _ _ _ G ((h2.mono (Le2 C3 C8)).mono Le.x0) (by omega)) ?_
 rintro v11 w11 G11 C11 N11 ⟨ad11,len11,P11,how11⟩;rcases how11 with⟨rfl,hlen11,hlt11,⟨rfl,rfl,rfl⟩ | ⟨g11,Q11,rfl,hge11,hget11,D11⟩⟩
 have hnil11:G=[]:=qT hlen11.symm;have hzB:val G=0:=by rw[hnil11];rfl
 refine zz 23<|zr' (v:= .tuple #[.slice none 0 0,.int .i64 0]) ?_;exact⟨G11.upd,_,rfl,.inr ⟨F6,_,[],_,_,_,rfl,⟨⟨rfl,rfl,fun x hx=>by simp at hx,.inl ⟨rfl,rfl,rfl⟩⟩,.inl rfl,by rw[hzA,hzB];rfl⟩,by simp⟩⟩
 subst hlen11;have G12:=St.adopt G11 (fun o h=>km.2 hge11 (G8.lt _ _ h)) (qx G8.upd.size hge11) hget11;have C12:=Le.adopt C11 hge11;refine zz 23<|zr' (v:= .tuple #[.slice (some ⟨g11,0,none⟩) G.length P11,.int .i64 0]) ?_;exact⟨G12.upd,_,rfl,.inr ⟨F6,_,G,_,_,_,rfl,⟨⟨rfl,rfl,D11.lt,.inr ⟨_,_,rfl,G12.own_ge 0 rfl,G12.get 0 rfl,D11⟩⟩,c2,by rw[hzA,uy]⟩,hl2⟩⟩
 subst hlen8;have G9:=St.adopt G8 (fun o h=>km.2 hge8 (G3.lt _ _ h)) (qx G3.upd.size hge8) hget8;have C9:=Le.adopt C8 hge8;refine zz 1<|zc G9 (zAo _ X0 (qA _) _ _ _ G ((h2.mono (Le2 C3 C9)).mono Le.x0) (by omega)) ?_
 rintro v14 w14 G14 C14 N14 ⟨ad14,len14,P14,how14⟩;rcases how14 with⟨rfl,hlen14,hlt14,⟨rfl,rfl,rfl⟩ | ⟨g14,Q14,rfl,hge14,hget14,D14⟩⟩
 have hnil14:G=[]:=qT hlen14.symm;have hzB:val G=0:=by rw[hnil14];rfl
 refine zz 12<|zb 21 (b:=((l.length:Int)==0)) (fun J16=>?_) (fun J16=>?_);have F17:(l.length:Int)=0:=by simpa using J16
 have hzA:val l=0:=by rw[qT (by omega:l.length=0)];rfl
 refine zz 11<|zr' (v:= .tuple #[.slice none 0 0,.int .i64 0]) ?_;exact⟨G14.upd,_,rfl,.inr ⟨F6,_,[],_,_,_,rfl,⟨⟨rfl,rfl,fun x hx=>by simp at hx,.inl ⟨rfl,rfl,rfl⟩⟩,.inl rfl,by rw[hzA,hzB];rfl⟩,by simp⟩⟩
 have F18:(l.length:Int)≠0:=by simpa using J16
 have hposA:0<val l:=rJ c1 (by rintro rfl;simp at F18)
 refine zz 22<|zr' (v:= .tuple #[.slice (some ⟨g8,0,none⟩) l.length P8,.int .i64 0]) ?_;exact⟨G14.upd,_,rfl,.inr ⟨F6,_,l,_,_,_,rfl,⟨⟨rfl,rfl,D8.lt,.inr ⟨_,_,rfl,G14.own_ge 0 rfl,G14.get 0 rfl,D8⟩⟩,c1,by rw[hzB,um]⟩,hl1⟩⟩
 subst hlen14;have W:=St.adopt G14 (fun o h=>km.2 hge14 (G9.lt _ _ h)) (qx G9.upd.size hge14) hget14;have C15:=Le.adopt C14 hge14;refine zz 12<|zb 21 (b:=((l.length:Int)==0)) (fun J19=>?_) (fun J19=>?_);have F20:(l.length:Int)=0:=by simpa using J19
 have hzA:val l=0:=by rw[qT (by omega:l.length=0)];rfl
 refine zz 11<|zr' (v:= .tuple #[.slice (some ⟨g14,0,none⟩) G.length P14,.int .i64 0]) ?_;exact⟨W.upd,_,rfl,.inr ⟨F6,_,G,_,_,_,rfl,⟨⟨rfl,rfl,D14.lt,.inr ⟨_,_,rfl,W.own_ge 0 rfl,W.get 0 rfl,D14⟩⟩,c2,by rw[hzA,uy]⟩,hl2⟩⟩
 have F21:(l.length:Int)≠0:=by simpa using J19
 have hposA:0<val l:=rJ c1 (by rintro rfl;simp at F21)
 refine zz 11<|zb 25 (b:=((G.length:Int)==0)) (fun J22=>?_) (fun J22=>?_);have F23:(G.length:Int)=0:=by simpa using J22
 have hzB:val G=0:=by rw[qT (by omega:G.length=0)];rfl
 refine zz 11<|zr' (v:= .tuple #[.slice (some ⟨g8,0,none⟩) l.length P8,.int .i64 0]) ?_;exact⟨W.upd,_,rfl,.inr ⟨F6,_,l,_,_,_,rfl,⟨⟨rfl,rfl,D8.lt,.inr ⟨_,_,rfl,W.own_ge 1 rfl,W.get 1 rfl,D8⟩⟩,c1,by rw[hzB,um]⟩,hl1⟩⟩
 have F24:(G.length:Int)≠0:=by simpa using J22
 have hposB:0<val G:=rJ c2 (by rintro rfl;simp at F24)
 refine zz 6<|zcE 1 W rfl (zFd _ g8 l.length P8 _ l (W.get 1 rfl) D8 (by omega) c1 hposA) ?_
 rintro v26 w26 ob26 ⟨I,Q26,ls26,rfl,hg26,D26,hcan26,hval26,hodd26⟩ hob26 G26 C26;obtain rfl:=q8 (hob26.symm.trans hg26);refine zz 10<|zcE 0 G26 rfl (zFd _ g14 G.length P14 _ G (G26.get 0 rfl) D14 (by omega) c2 hposB) ?_
 rintro v28 w28 ob28 ⟨J,Q28,ls28,rfl,hg28,D28,hcan28,hval28,hodd28⟩ hob28 G28 C28;obtain rfl:=q8 (hob28.symm.trans hg28);refine zz 12<|zlp Tryz.f155 [] [1,0,1,1,1,1,1,1,1,0,0] (fun((N,gx,gy,f,q,z,F):Nat×Nat×Nat×Nat×Nat×(List Nat)×(List Nat))=>[(0,.slice (some ⟨gx,0,none⟩) z.length f),(1,.slice (some ⟨gy,0,none⟩) F.length q),(7,.int .i64 ((I:Nat):Int)),(8,.int .i64 ((J:Nat):Int))]) (fun((N,gx,gy,f,q,z,F):Nat×Nat×Nat×Nat×Nat×(List Nat)×(List Nat))w1=>∃(Y1:Hid)(Z:Array Value)(cury:Array Value),St E0 w X w1 Y1 [(gy,.cells cury 214 (0,0)),(gx,.cells Z 214 (0,0))]∧Le (rd w28 (zAy g14 (zAy g8 X))) (rd w1 Y1)∧(zY z.length f Z z)∧(zY F.length q cury F)∧(zX z)∧(zX F)∧(val z % 2=1)∧(val F % 2=1)∧(Nat.gcd (val z) (val F)=Nat.gcd (val ls26) (val ls28))∧(val z+val F=N)∧(z.length≤512)∧(F.length≤512)) (fun((N,gx,gy,f,q,z,F):Nat×Nat×Nat×Nat×Nat×(List Nat)×(List Nat))=>N) ((val ls26+val ls28),g8,g14,P8,P14,ls26,ls28) ?_ ?_;refine⟨_,Q26,Q28,G28,Le.refl _,D26,D28,hcan26,hcan28,hodd26,hodd28,rfl,rfl,qx (qB h.hlt hcan26 (by have:=vk (val ls26) (wc I);omega)) hl1,qx (qB h2.hlt hcan28 (by have:=vk (val ls28) (wc J);omega)) hl2⟩
 rintro⟨N,gx,gy,f,q,z,F⟩ w29 K29 hK29 ⟨Y29,Z,cury,G29,C29,hp29_0,hp29_1,hp29_2,hp29_3,hp29_4,hp29_5,hp29_6,hp29_7,hp29_8,hp29_9⟩;have y:=hp29_0;have C:=hp29_1;have U:=hp29_2;have hcany:=hp29_3;have hoddx:=hp29_4;have hoddy:=hp29_5;have hg0:=hp29_6;have hN:=hp29_7;have hlx:=hp29_8;have hly:=hp29_9;refine zz 6<|zc G29 (zBl _ X0 (qA _) _ _ _ z (zY.limbs (Y:=X0) y (G29.get 1 rfl) (fun _ h=>h.elim)) _ _ _ F (zY.limbs (Y:=X0) C (G29.get 0 rfl) (fun _ h=>h.elim)) U hcany (by omega)) ?_ (vs:=#[.slice (some ⟨gx,0,none⟩) z.length f,.slice (some ⟨gy,0,none⟩) F.length q])
 rintro v31 w31 T C31 N31 rfl;refine zz 9<|zb 40 (b:=((qO (val z) (val F))==0)) (fun J32=>?_) (fun J32=>?_);have F33:(qO (val z) (val F))=0:=by simpa using J32
 have hxy:=fD F33;refine zz 14<|zs 56 (v:= .int .i64 (if((J:Nat):Int)<((I:Nat):Int)then((J:Nat):Int)else((I:Nat):Int))) (v':= .int .i64 ((min I J:Nat):Int)) (zQ (by split<;>omega))<|zz 4 ?_
 have hgab:=qFk hodd26 hodd28 hval26 hval28;rw[←hg0,←hxy,Nat.gcd_self]at hgab;have hgle:Nat.gcd (val l) (val G)≤val l:=Nat.gcd_le_left _ hposA;refine zlp Tryz.f155 [K29] [1,0,1,1,1,1,1,1,1,1,0,1,0] (fun((i,gd,H,ld):Nat×Nat×Nat×(List Nat))=>[(0,.slice (some ⟨gd,0,none⟩) ld.length H),(56,.int .i64 ((min I J:Nat):Int)),(57,.int .i64 (i:Int))]) (fun(i,gd,H,ld)w1=>∃(Y1:Hid)(curd:Array Value),St E0 w X w1 Y1 [(gd,.cells curd 214 (0,0))]∧Le (rd w31 Y29) (rd w1 Y1)∧(zY ld.length H curd ld)∧(zX ld)∧(val ld=val z*2^i)∧(i≤min I J)) (fun(i,gd,H,ld)=>min I J-i) (0,gx,f,z) ?_ ?_;refine⟨_,Z,T.tail,Le.refl _,y,U,by simp,qu _⟩
 rintro⟨i,gd,H,ld⟩ w34 K34 hK34 ⟨Y34,curd,G34,C34,hp34_0,hp34_1,hp34_2,hp34_3⟩;have hrowd:=hp34_0;have hcand:=hp34_1;have V:=hp34_2;have hik:=hp34_3;have hb1:val z*2^i≤val z*2^(min I J):=xx _ (ji (by omega) hik)
 have hb2:=qB h.hlt hcand (by omega:val ld≤val l)
 have hb3:0<ld.length:=by rcases jp ld.length with e | e;rw[qT e]at V;have:=uM (by omega:0<val z) (wc i);simp only[val]at V;omega;exact e
 obtain⟨_,hkb⟩:=zIn hval26 (by omega) (kJ h.hlt)
 refine zz 6<|zt 58 (p:=(i:Int)<((min I J:Nat):Int)) (fun F35=>?_) (fun F35=>?_);refine zz 7<|zop (at1 [K29,K34] Tryz.f155 [1,0,1,1,1,1,1,1,1,1,0,1,0,0,1,1,0,0]) 1 (fun a36 _ Z36 hz36=>qAp 0 Z36 G34 rfl (zPu _ gd ld.length H _ ld (G34.get 0 rfl) hrowd (by omega) hcand 0 (by omega)) ?_)
 rintro v37 w37 Y37 g37 o37 ⟨Q37,P37,ls37,rfl,rfl,D37,hlen37,hcan37,hval37⟩ G37 C37 a38 Z38;refine hz36 Z38<|zz 6<|zw 61 (x:=(i:Int)+1)<|zz 2 ?_;refine kT (fun a h=>hK34 ((i+1,g37,P37,ls37)) _ a h ⟨_,Q37,G37,(Le2 C34 C37),D37,hcan37,by rw[hval37,V,jd];simp only[yj];ac_rfl,by omega⟩ ?_)
 first | omega | (simp<;>omega)
 refine zz 15<|zr' (v:= .tuple #[.slice (some ⟨gd,0,none⟩) ld.length H,.int .i64 0]) ?_;exact⟨G34.upd,_,rfl,.inr ⟨F6,_,ld,_,_,_,rfl,⟨⟨rfl,rfl,hrowd.lt,.inr ⟨_,_,rfl,G34.own_ge 0 rfl,G34.get 0 rfl,hrowd⟩⟩,hcand,by rw[V,←hgab];congr 2;omega⟩,by omega⟩⟩
 have F39:(qO (val z) (val F))≠0:=by simpa using J32
 refine zz 7<|zb 42 (b:=((qO (val z) (val F))==(-1))) (fun J40=>?_) (fun J40=>?_);have F41:(qO (val z) (val F))=(-1):=by simpa using J40
 have hcmp:=qLr F41;refine zz 13<|zcE 0 T rfl (pK _ gy F.length q _ F (T.get 0 rfl) C (by omega) _ _ _ z (zY.limbs (Y:=HG gy) y (T.get 1 rfl) (fun o h=>T.ne (i:=1) (j:=0) rfl rfl (by decide) h)) (qB C.lt U (by omega)) (by omega)) ?_ (vs:=#[.slice (some ⟨gy,0,none⟩) F.length q,.slice (some ⟨gx,0,none⟩) z.length f])
 rintro v43 w43 ob43 ⟨Q43,ls43,rfl,hg43,D43,hcan43,hval43⟩ hob43 G43 C43;obtain rfl:=q8 (hob43.symm.trans hg43);refine zz 5 ?_;have hz0:=qB C.lt hcan43 (by omega:val ls43≤val F)
 refine zcE 0 G43 rfl (zFd _ gy ls43.length q _ ls43 (G43.get 0 rfl) D43 (by omega) hcan43 (by omega)) ?_
 rintro v45 w45 ob45 ⟨k45,Q45,O,rfl,hg45,D45,hcan45,hval45,hodd45⟩ hob45 G45 C45;obtain rfl:=q8 (hob45.symm.trans hg45);refine zz 6 ?_;have hz1:val O*2^k45=val F-val z:=hval45.trans hval43;have hz2:val O≤val O*2^k45:=vk _ (wc _);have hz3:=zQb hoddx (by omega) hz1
 have hz4:=qB C.lt hcan45 (by omega:val O≤val F)
 have J1_:=(Le3 C29 C31 C43).trans C45;refine kT (fun a h=>hK29 (((val O+val z),gy,gx,q,f,O,z)) _ a h ⟨_,Q45,Z,G45.swap,J1_,D45,y,hcan45,U,hodd45,hoddx,by rw[hz3];rw[wa];exact hg0,rfl,by omega,by omega⟩ ?_)
 first | omega | (simp<;>omega)
 have F46:(qO (val z) (val F))≠(-1):=by simpa using J40
 have hcmp:=qVs F39 F46;refine zz 8<|zcE 1 T rfl (pK _ gx z.length f _ z (T.get 1 rfl) y (by omega) _ _ _ F (zY.limbs (Y:=HG gx) C (T.get 0 rfl) (fun o h=>T.ne (i:=0) (j:=1) rfl rfl (by decide) h)) (qB y.lt hcany (by omega)) (by omega)) ?_ (vs:=#[.slice (some ⟨gx,0,none⟩) z.length f,.slice (some ⟨gy,0,none⟩) F.length q])
 rintro v48 w48 ob48 ⟨Q48,ls48,rfl,hg48,D48,hcan48,hval48⟩ hob48 G48 C48;obtain rfl:=q8 (hob48.symm.trans hg48);refine zz 5 ?_;have hz0:=qB y.lt hcan48 (by omega:val ls48≤val z)
 refine zcE 1 G48 rfl (zFd _ gx ls48.length f _ ls48 (G48.get 1 rfl) D48 (by omega) hcan48 (by omega)) ?_
 rintro v50 w50 ob50 ⟨k50,Q50,S,rfl,hg50,D50,hcan50,hval50,hodd50⟩ hob50 G50 C50;obtain rfl:=q8 (hob50.symm.trans hg50);refine zz 6 ?_;have hz1:val S*2^k50=val z-val F:=hval50.trans hval48;have hz2:val S≤val S*2^k50:=vk _ (wc _);have hz3:=zQb hoddy (by omega) hz1
 have hz4:=qB y.lt hcan50 (by omega:val S≤val z)
 have J2_:=(Le3 C29 C31 C48).trans C50;refine kT (fun a h=>hK29 (((val S+val F),gx,gy,f,q,S,F)) _ a h ⟨_,Q50,cury,G50,J2_,D50,C,hcan50,hcany,hodd50,hoddy,by rw[hz3];exact hg0,rfl,by omega,by omega⟩ ?_)
 first | omega | (simp<;>omega)
section
variable (w:World)(X:Hid)(hX:∀k o,X k o→k<w.heap.size)
set_option maxHeartbeats 1000000
def zCz:ByteArray:=⟨#[0,1,2,2,3,3,3,3,4,4,4,4,4,4,4,4,5,5,5,5,5,5,5,5,5,5,5,5,5,5,5,5,6,6,6,6,6,6,6,6,6,6,6,6,6,6,6,6,6,6,6,6,6,6,6,6,6,6,6,6,6,6,6,6,7,7,7,7,7,7,7,7,7,7,7,7,7,7,7,7,7,7,7,7,7,7,7,7,7,7,7,7,7,7,7,7,7,7,7,7,7,7,7,7,7,7,7,7,7,7,7,7,7,7,7,7,7,7,7,7,7,7,7,7,7,7,7,7,8,8,8,8,8,8,8,8,8,8,8,8,8,8,8,8,8,8,8,8,8,8,8,8,8,8,8,8,8,8,8,8,8,8,8,8,8,8,8,8,8,8,8,8,8,8,8,8,8,8,8,8,8,8,8,8,8,8,8,8,8,8,8,8,8,8,8,8,8,8,8,8,8,8,8,8,8,8,8,8,8,8,8,8,8,8,8,8,8,8,8,8,8,8,8,8,8,8,8,8,8,8,8,8,8,8,8,8,8,8,8,8,8,8,8,8,8,8,8,8,8,8,8,8,8,8,8,8]⟩
theorem qAj:∀n,n<256→(zCz.data[n]?.isSome=true)∧n<2^(zCz.data[n]?.getD 0).toNat∧(zCz.data[n]?.getD 0).toNat≤8:=by decide+kernel
theorem zFf(n:Nat)(h:n<256):∃b:UInt8,zCz[n]?=some b∧n<2^b.toNat∧b.toNat≤8:=by
 obtain⟨y,f,j⟩:=qAj n h;obtain⟨b,q⟩:=gq.1 y;rw[q]at f j;refine⟨b,?_,f,j⟩;obtain⟨z,C⟩:=zy.1 q;have F:n<zCz.size:=z;rw[getElem?_pos zCz n F];exact ju some C
include hX in
theorem qNu(x:Nat)(hx:x<4294967296):Calls Tryz.prog 309 #[.int .u32 (x:Int)] w (Ret E0 w fun _ v=>∃r:Nat,v= .int .i64 (r:Int)∧x<2^r∧r≤32):=by
 refine zen Tryz.func309 ?_;have C:St E0 w X w X []:=St.start hX;refine zz 12<|zt 4 (p:=(x:Int)≥65536) (fun O=>?_) (fun O=>?_);refine zz 5<|zs 6 (v:= .int .u32 (Int.fdiv ((x:Int)) (2^16))) (v':= .int .u32 ((x / 65536:Nat):Int)) (zQ (by rw[wJ _ 16 (c:=65536) (by decide) (by decide)];omega))<|zz 14<|zt 8 (p:=((x / 65536:Nat):Int)≥256) (fun S=>?_) (fun S=>?_)
 refine zz 5<|zs 10 (v:= .int .u32 (Int.fdiv (((x / 65536:Nat):Int)) (2^8))) (v':= .int .u32 ((x / 65536 / 256:Nat):Int)) (zQ (by rw[wJ _ 8 (c:=256) (by decide) (by decide)];omega))<|zz 14<|zs 15 (v:= .int .u8 (IntKind.u8.wrap (((x / 65536 / 256:Nat):Int)))) (v':= .int .u8 ((x / 65536 / 256:Nat):Int)) (zQ (wu8 (by omega) (by omega))) ?_
 obtain⟨f,j,q,y⟩:=zFf (x / 65536 / 256) (by omega)
 refine zop (at1 [] Tryz.f309 [1,1,1,0]) 3 (fun a4 _ U I=>zE (d:=16) (v:= .int .u8 ((f.toNat:Nat):Int)) U kr (bW (s:=zCz) (i:=(x / 65536 / 256)) rfl kr rfl rfl j) ?_);intro a5 V;refine I V<|zz 1<|zw 17 (x:=((f.toNat:Nat):Int))<|zz 1<|zw 18 (x:=(24:Int)+((f.toNat:Nat):Int))<|zz 4<|zr' (v:= .int .i64 ((24:Int)+((f.toNat:Nat):Int))) ?_;refine⟨C.upd,_,rfl,24+f.toNat,zQ (by omega),?_,by omega⟩
 rw[kf];generalize 2^f.toNat=t at *;omega;refine zz 8<|zs 15 (v:= .int .u8 (IntKind.u8.wrap (((x / 65536:Nat):Int)))) (v':= .int .u8 ((x / 65536:Nat):Int)) (zQ (wu8 (by omega) (by omega))) ?_
 obtain⟨f,j,q,y⟩:=zFf (x / 65536) (by omega)
 refine zop (at1 [] Tryz.f309 [1,1,1,0]) 3 (fun a6 _ W J=>zE (d:=16) (v:= .int .u8 ((f.toNat:Nat):Int)) W kr (bW (s:=zCz) (i:=(x / 65536)) rfl kr rfl rfl j) ?_);intro a7 Z;refine J Z<|zz 1<|zw 17 (x:=((f.toNat:Nat):Int))<|zz 1<|zw 18 (x:=(16:Int)+((f.toNat:Nat):Int))<|zz 4<|zr' (v:= .int .i64 ((16:Int)+((f.toNat:Nat):Int))) ?_;refine⟨C.upd,_,rfl,16+f.toNat,zQ (by omega),?_,by omega⟩
 rw[kf];generalize 2^f.toNat=t at *;omega;refine zz 10<|zt 8 (p:=(x:Int)≥256) (fun T=>?_) (fun T=>?_);refine zz 5<|zs 10 (v:= .int .u32 (Int.fdiv ((x:Int)) (2^8))) (v':= .int .u32 ((x / 256:Nat):Int)) (zQ (by rw[wJ _ 8 (c:=256) (by decide) (by decide)];omega))<|zz 14<|zs 15 (v:= .int .u8 (IntKind.u8.wrap (((x / 256:Nat):Int)))) (v':= .int .u8 ((x / 256:Nat):Int)) (zQ (wu8 (by omega) (by omega))) ?_
 obtain⟨f,j,q,y⟩:=zFf (x / 256) (by omega)
 refine zop (at1 [] Tryz.f309 [1,1,1,0]) 3 (fun a9 _ Z9 N=>zE (d:=16) (v:= .int .u8 ((f.toNat:Nat):Int)) Z9 kr (bW (s:=zCz) (i:=(x / 256)) rfl kr rfl rfl j) ?_);intro a10 F;refine N F<|zz 1<|zw 17 (x:=((f.toNat:Nat):Int))<|zz 1<|zw 18 (x:=(8:Int)+((f.toNat:Nat):Int))<|zz 4<|zr' (v:= .int .i64 ((8:Int)+((f.toNat:Nat):Int))) ?_;refine⟨C.upd,_,rfl,8+f.toNat,zQ (by omega),?_,by omega⟩
 rw[kf];generalize 2^f.toNat=t at *;omega;refine zz 8<|zs 15 (v:= .int .u8 (IntKind.u8.wrap ((x:Int)))) (v':= .int .u8 ((x:Nat):Int)) (zQ (wu8 (by omega) (by omega))) ?_
 obtain⟨f,j,q,y⟩:=zFf (x) (by omega)
 refine zop (at1 [] Tryz.f309 [1,1,1,0]) 3 (fun a11 _ G z=>zE (d:=16) (v:= .int .u8 ((f.toNat:Nat):Int)) G kr (bW (s:=zCz) (i:=x) rfl kr rfl rfl j) ?_);intro a12 H;refine z H<|zz 1<|zw 17 (x:=((f.toNat:Nat):Int))<|zz 1<|zw 18 (x:=(0:Int)+((f.toNat:Nat):Int))<|zz 4<|zr' (v:= .int .i64 ((0:Int)+((f.toNat:Nat):Int))) ?_;refine⟨C.upd,_,rfl,0+f.toNat,zQ (by omega),?_,by omega⟩
 rw[kf];generalize 2^f.toNat=t at *;omega
include hX in
theorem qGh(ad:Option Addr)(len cap:Nat)(l:List Nat)(h:zN (rd w X) ad len cap l)(hm:len≤1099511627776):Calls Tryz.prog 298 #[.slice ad len cap] w (Ret E0 w fun _ v=>∃m:Nat,v= .int .i64 (m:Int)∧val l<2^m∧m≤32*l.length):=by
 obtain rfl:=h.hlen;have G:=h.hcap;have F:=h.hbig;refine zen Tryz.func298 ?_;have j:St E0 w X w X []:=St.start hX;refine zz 13<|zb 5 (b:=((l.length:Int)==0)) (fun q=>?_) (fun q=>?_);have O:(l.length:Int)=0:=by simpa using q
 have f:l=[]:=qT (by omega)
 refine zz 8<|zr' (v:= .int .i64 0) ?_;exact⟨j.upd,_,rfl,0,rfl,by rw[f];simp[val],by omega⟩
 have S:(l.length:Int)≠0:=by simpa using q
 obtain⟨y,of6,rfl,_⟩:=h.addr (by omega)
 have H:=h.getD_lt (l.length-1);refine zz 8<|zw 8 (x:=(l.length:Int)-1)<|zz 1<|zw 9 (x:=(32:Int)*((l.length:Int)-1))<|zz 4<|zw 13 (x:=(l.length:Int)-1)<|zi (b:=y) (off:=of6) (len:=l.length) (cap:=cap) (kd:= .i64) (i:=(l.length:Int)-1) 1 (of6+(l.length-1)) ?_ (hoff:=(by first | omega | (simp;done) | (simp;omega)))
 refine zl ((h.cell (i:=(l.length-1)) (by omega)).mono (Le.refl _)).cells<|zc j (qNu _ _ j.lt (l.getD (l.length-1) 0) (by omega)) ?_
 rintro U V I N T ⟨C,rfl,z,J⟩;refine zz 1<|zw 17 (x:=((32:Int)*((l.length:Int)-1))+(C:Int))<|zz 4<|zr' (v:= .int .i64 (((32:Int)*((l.length:Int)-1))+(C:Int))) ?_;exact⟨I.upd,_,rfl,32*(l.length-1)+C,zQ (by omega),qNv l h.hlt _ (by omega) z,by omega⟩
include hX in
theorem qEf(ad:Option Addr)(f cap:Nat):Calls Tryz.prog 284 #[.slice ad f cap] w (Ret E0 w fun C v=>∃q,v= .func (.func 297) #[] #[.pointer (some ⟨q,0,none⟩)]∧w.heap.size≤q∧C.heap[q]?=some (.cells #[.slice ad f cap] 26 (0,0))):=by
 refine zen Tryz.func284 ?_;have y:St E0 w X w X []:=St.start hX;refine zz 2<|zn pn (.cells #[.slice ad f cap] 26 (0,0)) y fun z I H j F G=>zz 10<|zr' (v:= .func (.func 297) #[] #[.pointer (some ⟨z,0,none⟩)]) ?_;exact⟨j.upd,_,rfl,_,rfl,j.own_ge 0 rfl,j.get 0 rfl⟩
theorem zZx(l H:Nat)(ad:Option Addr)(len cap:Nat)(y:List Nat)(hbig:len≤1099511627776)(J:Nat→World→Prop)(R:World→Prop)(w:World)(q:zN (rd w X0) ad len cap y)
    (S:∀k w,J k w→At (rd w X0) ⟨H,0,none⟩ [.slice ad len cap])
    (hel:∀k w,J (k+1) w→k / 32<len→∃b off,ad=some ⟨b,off,none⟩∧At (rd w X0) ⟨b,off+k / 32,none⟩ [.int .u32 ((y.getD (k / 32) 0:Nat):Int)])
    (hY:∀k w,k<32*len→J (k+1) w→YieldAt (FF none) 0 Tryz.prog l #[.int .i64 (k:Int),.int .u32 ((val y / 2^k % 2:Nat):Int)] w (vE (J k) R))
    (h0:∀w,J 0 w→R w) (hbx:At (rd w X0) ⟨H,0,none⟩ [.slice ad len cap]) (hJ:∀m w',Upd E0 w w'→val y<2^m→m≤32*y.length→J m w'):Calls Tryz.prog 297 #[.func (.yield l) #[] #[],.pointer (some ⟨H,0,none⟩)] w (fun e w'=>(∃v,e= .returned v)∧R w'):=by
 obtain rfl:=q.hlen;refine zFe (n:=24) (vs:=[.func (.yield l) #[] #[],.pointer (some ⟨H,0,none⟩)]) Tryz.func297 rfl rfl rfl kr (fun a0 Z0=>?_);have Z0:Fr 24 a0 [(0,.func (.yield l) #[] #[]),(1,.pointer (some ⟨H,0,none⟩))]:=Z0;have G0:St E0 w X0 w X0 []:=St.start (qA _);refine zG (fun K1 hK1=>?_);refine zC ?_;refine qX Z0 kr (zE (d:=4) (v:= .slice ad y.length cap) Z0 kr (zB (t:=26) (g:=false) (vs:=[.slice ad y.length cap]) (ad:=⟨H,0,none⟩) rfl kr kr ir (hbx).cells) ?_);intro a2 Z2;refine qX Z2 kr (kF (d:=5) (f:=298) (cap:=#[]) (vs:=#[.slice ad y.length cap]) Z2 kr G0 rfl kr kr (fun w=>Tryz.call298 _ w) (qGh _ X0 (qA _) _ _ _ y q (by omega)) ?_)
 rintro v3 w3 G3 C3 N3 ⟨m,rfl,hm1,hm2⟩ a4 Z4;refine zD 1 [(6,.int .i64 (i64.wrap ((m:Int)-1)))] Z4 kr kr (fun a5 Z5=>?_);have Z6:=Z5.set 6 (v':= .int .i64 ((m:Int)-1)) kr rfl (zQ (zAf (by omega) (by omega)))
 refine zD 1 [(3,.int .i64 ((m:Int)-1))] Z6 kr kr (fun a7 Z7=>?_);refine zH<|zA (hK1 _ _ ?_);refine kE ?_;refine lM (fun(k:Nat)a w1=>Fr 24 a [(0,.func (.yield l) #[] #[]),(1,.pointer (some ⟨H,0,none⟩)),(3,.int .i64 ((k:Int)-1))]∧J k w1∧k≤32*y.length) (fun k=>k) m ?_ ?_
 ·
  exact⟨Z7.as [0,1,3] kr kr,hJ m _ N3 hm1 hm2,hm2⟩
 rintro k a8 w8 ⟨Z8,G,hk⟩;have G8:St E0 w8 X0 w8 X0 []:=St.start (qA _);refine zG (fun K9 hK9=>?_);refine zG (fun K10 hK10=>?_);refine zC<|zD 2 [(8,.bool (decide (((k:Int)-1)≥0))),(7,.int .i64 ((k:Int)-1))] Z8 kr kr (fun a11 I=>?_);refine zH<|zA (hK10 _ _ ?_);refine nP (decide (((k:Int)-1)≥0)) I kr kr (fun C=>?_) (fun C=>?_)
 ·
  have Z13:=I.set 8 (v':= .bool true) kr rfl (zK C);have F14:((k:Int)-1)≥0:=jc C;obtain⟨j,rfl⟩:∃j,k=j+1:=⟨k-1,by omega⟩
  have Z15:=Z13.set 3 (v:= .int .i64 (((j+1:Nat):Int)-1)) (v':= .int .i64 (j:Int)) kr kr (zQ (by omega))
  obtain⟨b,off,rfl,hel1⟩:=hel j _ G (by omega)
  have hltj:y.getD (j / 32) 0<4294967296:=q.getD_lt _;refine wX<|zA (hK9 _ _ ?_);refine zG (fun K16 hK16=>?_);refine kE<|zG (fun K17 hK17=>?_);refine zC<|zD 2 [(12,.int .i64 (j:Int)),(11,.func (.yield l) #[] #[])] Z15 kr kr (fun a18 T=>?_);refine qX T kr (zE (d:=13) (v:= .slice (some ⟨b,off,none⟩) y.length cap) T kr (zB (t:=26) (g:=false) (vs:=[.slice (some ⟨b,off,none⟩) y.length cap]) (ad:=⟨H,0,none⟩) rfl kr kr ir ((S _ _ G)).cells) ?_);intro a19 Z19;refine zD 2 [(15,.int .i64 (i64.wrap (Int.tdiv ((j:Int)) (32)))),(14,.int .i64 (j:Int))] Z19 kr kr (fun a20 Z20=>?_);have U:=Z20.set 15 (v':= .int .i64 ((j / 32:Nat):Int)) kr rfl (zQ (dL _ (by omega)))
  refine qX U kr (zE (d:=16) (v:= .pointer (some ⟨b,off+j / 32,none⟩)) U kr (jE (t:=26) (e:=214) (b:=b) (off:=off) (len:=y.length) (cap:=cap) (kd:= .i64) (i:=((j / 32:Nat):Int)) (g:=false) (m:=1) (off':=off+j / 32) rfl kr kr kr kr (by omega) (by omega) (by first | rfl | omega | (simp;done) | (simp;omega)) _) ?_)
  intro a22 V;refine qX V kr (zE (d:=17) (v:= .int .u32 ((y.getD (j / 32) 0:Nat):Int)) V kr (zB (t:=214) (g:=false) (vs:=[.int .u32 ((y.getD (j / 32) 0:Nat):Int)]) (ad:=⟨b,off+j / 32,none⟩) rfl kr kr ir (hel1).cells) ?_);intro a23 Z23;refine zD 2 [(19,.int .i64 (Int.tmod ((j:Int)) (32))),(18,.int .i64 (j:Int))] Z23 kr kr (fun a24 Z24=>?_);have W:=Z24.set 19 (v':= .int .i64 ((j % 32:Nat):Int)) kr rfl (zQ (zDs _));refine qX W kr (zE (d:=20) (v:= .int .u32 ((y.getD (j / 32) 0 / 2^(j % 32):Nat):Int)) W kr (qJd rfl rfl rfl (by omega)) ?_)
  intro a26 Z26;refine zD 1 [(21,.int .u32 (wV ((y.getD (j / 32) 0 / 2^(j % 32):Nat):Int) 1))] Z26 kr kr (fun a27 Z27=>?_);have Z28:=Z27.set 21 (v':= .int .u32 ((val y / 2^j % 2:Nat):Int)) kr rfl (zQ ((zPh _ (jq (vg _ _) hltj)).trans (by rw[zGd y q.hlt j (by omega)])))
  refine zLs (d:=22) (l:=l) (vs:=#[.int .i64 (j:Int),.int .u32 ((val y / 2^j % 2:Nat):Int)]) Z28 kr rfl kr kr (hY j _ (by omega) G) (fun _ _ h=>h.ret) ?_
  rintro v29 w29 ⟨z,hv29,Z,hR29⟩ a30 Z30;cases hv29;have G29:St E0 w29 X0 w29 X0 []:=St.start (qA _);refine zD 1 [(23,.bool (!z))] Z30 kr kr (fun a31 N=>?_);refine zH<|zA (hK17 _ _ ?_);refine nP (!z) N kr kr (fun F=>?_) (fun F=>?_)
  ·
   have Z33:=N.set 23 (v':= .bool true) kr rfl (zK F);have F34:z=false:=by simpa using F
   have O:=F34;refine mM ?_;refine dU ?_;refine lD ?_;refine lD ?_;refine dU<|zWh (v:= .tuple #[]) (rs:=[]) Z33 kr Res.nil kr ?_;exact⟨⟨_,rfl⟩,(hR29 O)⟩
  have Z35:=N.set 23 (v':= .bool false) kr rfl (zK F);have F36:z=true:=by simpa using F
  have O:=F36;refine wX ?_;refine yR<|zA (hK16 _ _ ?_);refine zC<|zD 2 [(10,.int .i64 (i64.wrap ((j:Int)-1))),(9,.int .i64 (j:Int))] Z35 kr kr (fun a37 Z37=>?_);have Z38:=Z37.set 10 (v':= .int .i64 ((j:Int)-1)) kr rfl (zQ (zAf (by omega) (by omega)))
  refine zD 1 [(3,.int .i64 ((j:Int)-1))] Z38 kr kr (fun a39 Z39=>?_);refine zH<|zA ?_;exact⟨j,⟨Z39.as [0,1,3] kr kr,Z O,by omega⟩,by show j<j+1;omega⟩
 have Z40:=I.set 8 (v':= .bool false) kr rfl (zK C);have F41:¬(((k:Int)-1)≥0):=k7 C;have hk0:k=0:=by omega
 refine aP ?_;refine rQ ?_;refine rQ ?_;refine mH<|zPj (v:= .tuple #[]) (rs:=[]) Z40 kr Res.nil kr ?_;exact⟨⟨_,rfl⟩,(h0 _ (hk0▸G))⟩
end
set_option maxHeartbeats 1000000
theorem zAp{x y:Nat}(h:qO (x:Int) (y:Int)≥0):y≤x:=zPp (by omega)
theorem fE{x y:Nat}(h:¬qO (x:Int) (y:Int)≥0):x<y:=zPq (by omega)
theorem qEi(w:World)(X:Hid)(hX:∀k o,X k o→k<w.heap.size)(ad:Option Addr)(len cap:Nat)(l:List Nat)(h:zN (rd w X) ad len cap l)(H:Option Addr)(len2 P2:Nat)(J:List Nat)(h2:zN (rd w X) H len2 P2 J)(J1:zX l)(J2:zX J)(hl1:len≤512)(hl2:len2≤512)(hd:0<val J):Calls Tryz.prog 268 #[.slice ad len cap,.slice H len2 P2] w (Ret E0 w fun w' v=>∃u u2 lq lr ad len cap H len2 P2,v= .tuple #[u,u2]∧zAh 214 w w' u lq ad len cap (val l / val J)∧zAh 214 w w' u2 lr H len2 P2 (val l % val J)):=by
 obtain rfl:=h.hlen;obtain rfl:=h2.hlen;have hcap:=h.hcap;have hbig:=h.hbig;have hcap2:=h2.hcap;have hbig2:=h2.hbig;refine zNg (n:=38) (vs:=[.slice ad l.length cap,.slice H J.length P2]) Tryz.func268 rfl rfl rfl kr (fun a0 Z0=>?_);have Z0:Fr 38 a0 [(0,.slice ad l.length cap),(1,.slice H J.length P2)]:=Z0;have G0:St E0 w X w X []:=St.start hX;refine zG (fun K1 hK1=>?_);refine zC ?_;refine qX Z0 kr (lS (d:=3) (fun b=> .pointer (some ⟨b,0,none⟩)) (.cells #[.slice H J.length P2] 26 (0,0)) Z0 kr G0 kw ?_);intro b2 w2 Y2 G2 C2 N2 a3 Z3;refine qX Z3 kr (lS (d:=4) (fun b=> .pointer (some ⟨b,0,none⟩)) (.cells #[.slice none 0 0] 26 (0,0)) Z3 kr G2 kw ?_);intro b4 w4 Y4 G4 C4 N4 a5 Z5;refine qX Z5 kr (lS (d:=5) (fun b=> .pointer (some ⟨b,0,none⟩)) (.cells #[.slice none 0 0] 26 (0,0)) Z5 kr G4 kw ?_);intro b6 w6 Y6 G6 C6 N6 a7 Z7;refine zH<|zA (hK1 _ _ ?_);refine zG (fun K8 hK8=>?_);refine zC<|zD 2 [(9,.int .i64 (l.length:Int)),(8,.slice ad l.length cap)] Z7 kr kr (fun a9 Z9=>?_);refine qX Z9 kr (zXw (d:=10) (t:=26) (e:=214) (m:=l.length) (l:=(l.length:Int)) (z:= .int .u32 0) (i0:=Tryz.t214) Z9 kr G6 rfl kr (by first | rfl | omega) kr kr kr kr kr (by show 4*_≤_;omega) (by omega) ?_)
 intro C w10 Y10 G10 C10 N10 a11 Z11;have D10:=zY.zeros l.length (by simp only[maxLen];omega)
 refine qX Z11 kr (zF (t:=26) (b:=b4) (off:=0) (c':=#[.slice (some ⟨C,0,none⟩) l.length l.length]) (g:=false) (m:=1) 2 _ Z11 kr G10 rfl kr rfl kr kr kr rfl (by first | decide | (simp;done)) kr rfl ?_)
 intro w12 G12 C12;refine zH<|zA (hK8 _ _ ?_);refine zG (fun K13 hK13=>?_);refine zG (fun K14 hK14=>?_);refine zC<|zD 1 [(11,.slice ad l.length cap)] Z11 kr kr (fun a15 Z15=>?_);refine qX Z15 kr (kF (d:=12) (f:=284) (cap:=#[]) (vs:=#[.slice ad l.length cap]) Z15 kr G12 rfl kr kr (fun w=>Tryz.call284 _ w) (qEf _ _ G12.lt ad l.length cap) ?_);rintro v16 w16 G16 C16 N16 ⟨bx16,rfl,hge16,hget16⟩ a17 Z17;have G18:=St.adopt G16 (fun o h=>km.2 hge16 (G12.lt _ _ h)) (qx G12.upd.size hge16) hget16;have C18:=Le.adopt C16 hge16;refine zH<|zA (hK14 _ _ ?_);refine kE<|zGo (f:=297) (caps:=#[.pointer (some ⟨bx16,0,none⟩)]) Z17 G18 kr kr (fun args w=>Tryz.call297 args w) fun rec19 l19 b19 w19 Y19 W G19 C19 N19=>?_;have Z20:=zCq b19 Z17;refine zZx l19 bx16 ad l.length cap l (by omega) (fun k w'=>∃(Y':Hid)(S:Array Value)(lq:List Nat)(rb:List (Nat×Obj))(adr:Option Addr)(F:Nat)(lr:List Nat)(q:Nat),St E0 w X w' Y' ((l19,.loop rec19)::(b19,.deferred (some []))::(bx16,.cells #[.slice ad l.length cap] 26 (0,0))::(C,.cells S 214 (0,0))::(b6,.cells #[.slice adr lr.length F] 26 (0,0))::(b4,.cells #[.slice (some ⟨C,0,none⟩) l.length l.length] 26 (0,0))::(b2,.cells #[.slice H J.length P2] 26 (0,0))::rb)∧Le (rd w19 Y19) (rd w' Y')∧(zY l.length l.length S lq)∧(RSt 214 rb adr F lr)∧(zX lr)∧(val lq=2^k*q)∧(val l / 2^k=q*val J+val lr)∧(val lr<val J)) _ _ ((h.mono (Le7 C2 C4 C6 C10 C12 C18 C19)).mono Le.x0) ?_ ?_ ?_ ?_ (G19.at0 2 rfl rfl) ?_
 rintro k w21 ⟨Y21,S,lq,rb,adr,F,lr,q,G21,C21,hp21_0,hp21_1,hp21_2,hp21_3,hp21_4,hp21_5⟩;exact G21.at0 2 rfl rfl;rintro k w22 ⟨Y22,S,lq,rb,adr,F,lr,q,G22,C22,hp22_0,hp22_1,hp22_2,hp22_3,hp22_4,hp22_5⟩;intro hk;obtain⟨b,off,rfl,_⟩:=h.addr (by omega)
 exact⟨b,off,rfl,((h.cell (i:=k / 32) (by omega)).mono (Le8 C2 C4 C6 C10 C12 C18 C19 C22)).mono Le.x0⟩
 intro k w23 hk;rintro⟨Y23,S,lq,rb,adr,F,lr,q,G23,C23,hp23_0,hp23_1,hp23_2,hp23_3,hp23_4,hp23_5⟩;refine zIt (p:=13) (q:=14) W Z17 G23 kr kr (fun a24 Z24=>?_);have hkl:k / 32<l.length:=by omega
 have j:=hp23_0;have hrst:=hp23_1;have hcanlr:=hp23_2;have hvq:=hp23_3;have hdiv:=hp23_4;have hlt:=hp23_5;rcases hrst with⟨rfl,rfl,rfl,rfl⟩ | ⟨gr,curr,rfl,rfl,hrowr⟩
 refine zG (fun K25 hK25=>?_);refine zC<|zD 1 [(6,.int .i64 (k:Int))] Z24 kr kr (fun a26 Z26=>?_);refine zH<|zA (hK25 _ _ ?_);refine zC<|zD 1 [(7,.int .u32 ((val l / 2^k % 2:Nat):Int))] Z26 kr kr (fun a27 Z27=>?_);refine zH<|zA<|zCf W G23 (fun w28 G28 C28=>?_);refine kE<|zG (fun K29 hK29=>?_);refine zC ?_;refine qX Z27 kr (zE (d:=15) (v:= .slice none 0 0) Z27 kr (zB (t:=26) (g:=false) (vs:=[.slice none 0 0]) (ad:=⟨b6,0,none⟩) rfl kr kr ir (G28.cells 4 rfl rfl)) ?_);intro a30 Z30;refine zD 1 [(16,.int .u32 ((val l / 2^k % 2:Nat):Int))] Z30 kr kr (fun a31 Z31=>?_);refine qX Z31 kr (kF (d:=17) (f:=227) (cap:=#[]) (vs:=#[.slice none 0 0,.int .u32 ((val l / 2^k % 2:Nat):Int)]) Z31 kr G28 rfl kr kr (fun w=>Tryz.call227 _ w) (zTr _ X0 (qA _) (val l / 2^k % 2) (by omega)) ?_)
 rintro v32 w32 G32 C32 N32 ⟨G,ad32,zGr,P32,⟨⟨rfl,hl32,hlt32,ho32⟩,hcan32,hval32⟩,hlen32⟩ a33 Z33;have hx32:val G=2*val ([]:List Nat)+val l / 2^k % 2:=by simp only[val];omega
 rcases ho32 with⟨rfl,rfl,rfl⟩ | ⟨U,Q32,rfl,hge32,hget32,D32⟩
 have hn32:G=[]:=qT hl32.symm;subst hn32;refine qX Z33 kr (zF (t:=26) (b:=b6) (off:=0) (c':=#[.slice none 0 0]) (g:=false) (m:=1) 4 _ Z33 kr G32 rfl kr rfl kr kr kr rfl (by first | decide | (simp;done)) kr rfl ?_)
 intro w36 G36 C36;refine zH<|zA (hK29 _ _ ?_);refine zG (fun K37 hK37=>?_);refine zC ?_;refine qX Z33 kr (zE (d:=18) (v:= .slice none 0 0) Z33 kr (zB (t:=26) (g:=false) (vs:=[.slice none 0 0]) (ad:=⟨b6,0,none⟩) rfl kr kr ir (G36.cells 4 rfl rfl)) ?_);intro a38 Z38;refine qX Z38 kr (zE (d:=19) (v:= .slice H J.length P2) Z38 kr (zB (t:=26) (g:=false) (vs:=[.slice H J.length P2]) (ad:=⟨b2,0,none⟩) rfl kr kr ir (G36.cells 6 rfl rfl)) ?_);intro a39 Z39;refine qX Z39 kr (kF (d:=20) (f:=225) (cap:=#[]) (vs:=#[.slice none 0 0,.slice H J.length P2]) Z39 kr G36 rfl kr kr (fun w=>Tryz.call225 _ w) (zBl _ X0 (qA _) _ _ _ ([]) (zN.nil none (by omega)) _ _ _ J ((h2.mono (qKq C2 C4 C6 C10 C12 C18 C19 C23 C28 C32 C36)).mono Le.x0) (.inl rfl) J2 (by omega)) ?_)
 rintro v40 w40 G40 C40 N40 rfl a41 Z41;refine zD 1 [(21,.bool (decide ((qO (val ([])) (val J))≥0)))] Z41 kr kr (fun a42 Z42=>?_);refine zH<|zA (hK37 _ _ ?_);refine nP (decide ((qO (val ([])) (val J))≥0)) Z42 kr kr (fun J43=>?_) (fun J43=>?_);have Z44:=Z42.set 21 (v':= .bool true) kr rfl (zK J43);have F45:(qO (val ([])) (val J))≥0:=jc J43;have V:=zAp F45;simp only[val]at V;omega;have Z46:=Z42.set 21 (v':= .bool false) kr rfl (zK J43);have F47:¬((qO (val ([])) (val J))≥0):=k7 J43;have V:=fE F47;refine wX ?_;refine yR<|gD W G40 (fun w48 G48 C48=>vE.next ?_);exact⟨_,S,lq,[],none,0,[],(2*q),G48,(Le6 C23 C28 C32 C36 C40 C48),j,.inl ⟨rfl,rfl,rfl,rfl⟩,(.inl rfl),by rw[hvq,jd];ac_rfl,qEh hdiv hx32,V⟩
 subst hl32;have G34:=St.adopt G32 (fun o h=>km.2 hge32 (G28.lt _ _ h)) (qx G28.upd.size hge32) hget32;have C34:=Le.adopt C32 hge32;have G35:=St.mid (B:=[]) [(l19,.loop (zPi rec19)),(b19,.deferred (some [])),(bx16,.cells #[.slice ad l.length cap] 26 (0,0)),(C,.cells S 214 (0,0)),(b6,.cells #[.slice none 0 0] 26 (0,0)),(b4,.cells #[.slice (some ⟨C,0,none⟩) l.length l.length] 26 (0,0)),(b2,.cells #[.slice H J.length P2] 26 (0,0))] G34;have C35:Le (rd w32 (zAy U Y23)) (rd w32 (zAy U Y23)):=Le.refl _;refine qX Z33 kr (zF (t:=26) (b:=b6) (off:=0) (c':=#[.slice (some ⟨U,0,none⟩) G.length P32]) (g:=false) (m:=1) 4 _ Z33 kr G35 rfl kr rfl kr kr kr rfl (by first | decide | (simp;done)) kr rfl ?_)
 intro w49 G49 C49;refine zH<|zA (hK29 _ _ ?_);refine zG (fun K50 hK50=>?_);refine zC ?_;refine qX Z33 kr (zE (d:=18) (v:= .slice (some ⟨U,0,none⟩) G.length P32) Z33 kr (zB (t:=26) (g:=false) (vs:=[.slice (some ⟨U,0,none⟩) G.length P32]) (ad:=⟨b6,0,none⟩) rfl kr kr ir (G49.cells 4 rfl rfl)) ?_);intro a51 Z51;refine qX Z51 kr (zE (d:=19) (v:= .slice H J.length P2) Z51 kr (zB (t:=26) (g:=false) (vs:=[.slice H J.length P2]) (ad:=⟨b2,0,none⟩) rfl kr kr ir (G49.cells 6 rfl rfl)) ?_);intro a52 Z52;refine qX Z52 kr (kF (d:=20) (f:=225) (cap:=#[]) (vs:=#[.slice (some ⟨U,0,none⟩) G.length P32,.slice H J.length P2]) Z52 kr G49 rfl kr kr (fun w=>Tryz.call225 _ w) (zBl _ X0 (qA _) _ _ _ G (zY.limbs (Y:=X0) D32 (G49.get 7 rfl) (fun _ h=>h.elim)) _ _ _ J ((h2.mono (qUg C2 C4 C6 C10 C12 C18 C19 C23 C28 C34 C35 C49)).mono Le.x0) hcan32 J2 (by omega)) ?_)
 rintro v53 w53 G53 C53 N53 rfl a54 Z54;refine zD 1 [(21,.bool (decide ((qO (val G) (val J))≥0)))] Z54 kr kr (fun a55 Z55=>?_);refine zH<|zA (hK50 _ _ ?_);refine nP (decide ((qO (val G) (val J))≥0)) Z55 kr kr (fun J56=>?_) (fun J56=>?_);have Z57:=Z55.set 21 (v':= .bool true) kr rfl (zK J56);have F58:(qO (val G) (val J))≥0:=jc J56;have V:=zAp F58;obtain⟨hset1,hset2,hset3⟩:=zOi lq j.lt k q (by rw[j.len];exact hkl) hvq
 refine zG (fun K59 hK59=>?_);refine zC ?_;refine qX Z57 kr (zE (d:=22) (v:= .slice (some ⟨U,0,none⟩) G.length P32) Z57 kr (zB (t:=26) (g:=false) (vs:=[.slice (some ⟨U,0,none⟩) G.length P32]) (ad:=⟨b6,0,none⟩) rfl kr kr ir (G53.cells 4 rfl rfl)) ?_);intro a60 Z60;refine qX Z60 kr (zE (d:=23) (v:= .slice H J.length P2) Z60 kr (zB (t:=26) (g:=false) (vs:=[.slice H J.length P2]) (ad:=⟨b2,0,none⟩) rfl kr kr ir (G53.cells 6 rfl rfl)) ?_);intro a61 Z61;refine qX Z61 kr (zBi (d:=24) (f:=226) (cap:=#[]) (vs:=#[.slice (some ⟨U,0,none⟩) G.length P32,.slice H J.length P2]) 7 Z61 kr G53 rfl kr kr (fun w=>Tryz.call226 _ w) rfl (pK _ U G.length P32 _ G (G53.get 7 rfl) D32 (by omega) _ _ _ J ((h2.mono (Le13 C2 C4 C6 C10 C12 C18 C19 C23 C28 C34 C35 C49 C53)).mono (G53.leHG 7 rfl)) (qB D32.lt J2 (by omega)) (by omega)) ?_)
 rintro v62 w62 ob62 ⟨Q62,ls62,rfl,hg62,D62,hcan62,hval62⟩ hob62 G62 C62 a63 Z63;obtain rfl:=q8 (hob62.symm.trans hg62);refine qX Z63 kr (zF (t:=26) (b:=b6) (off:=0) (c':=#[.slice (some ⟨U,0,none⟩) ls62.length P32]) (g:=false) (m:=1) 4 _ Z63 kr G62 rfl kr rfl kr kr kr rfl (by first | decide | (simp;done)) kr rfl ?_)
 intro w64 G64 C64;refine zH<|zA (hK59 _ _ ?_);refine bC (N:=11) (kH [(⟨b4,0,none⟩,[.slice (some ⟨C,0,none⟩) l.length l.length]),(⟨C,k / 32,none⟩,[.int .u32 ((lq.getD (k / 32) 0:Nat):Int)])]) [10] kr kr kr G64 ?_;intro w65 G65 C65 N65;refine lF (kH.cons (G65.cells 5 rfl rfl) (kH.cons (G65.rowCells 3 rfl j (by have:=j.len;(try simp only[q9]at *);omega)) (kH.nil _))) (fun T=>?_)
 refine nW (d:=25) (v:= .slice (some ⟨C,0,none⟩) l.length l.length) 0 Z63 rfl kr kr kr (fun w hw=>zB (t:=26) (g:=false) (vs:=[.slice (some ⟨C,0,none⟩) l.length l.length]) (ad:=⟨b4,0,none⟩) rfl kr kr ir (hw.get 0 kr)) T ?_;intro a66 Z66;refine zJ (d:=26) (v:= .int .i64 (k:Int)) 1 Z66 rfl kr kr kw (fun _=>T) fun a67 Z67=>zJ (d:=27) (v:= .int .i64 (i64.wrap (Int.tdiv ((k:Int)) (32)))) 2 Z67 rfl kr kr kw (fun _=>T) fun a68 Z68=>?_;have Z69:=Z68.set 27 (v':= .int .i64 ((k / 32:Nat):Int)) kr rfl (zQ (dL _ (by omega)))
 refine zJ (d:=28) (v:= .pointer (some ⟨C,k / 32,none⟩)) 3 Z69 rfl kr kr (fun w=>jE (t:=26) (e:=214) (b:=C) (off:=0) (len:=l.length) (cap:=l.length) (kd:= .i64) (i:=((k / 32:Nat):Int)) (g:=false) (m:=1) (off':=k / 32) rfl kr kr kr kr (by omega) (by omega) (by first | rfl | omega | (simp;done) | (simp;omega)) w) (fun _=>T) fun a70 Z70=>?_
 refine nW (d:=29) (v:= .int .u32 ((lq.getD (k / 32) 0:Nat):Int)) 4 Z70 rfl kr kr kr (fun w hw=>zB (t:=214) (g:=false) (vs:=[.int .u32 ((lq.getD (k / 32) 0:Nat):Int)]) (ad:=⟨C,k / 32,none⟩) rfl kr kr ir (hw.get 1 kr)) T ?_;intro a71 Z71;refine zJ (d:=30) (v:= .int .i64 (k:Int)) 5 Z71 rfl kr kr kw (fun _=>T) fun a72 Z72=>zJ (d:=31) (v:= .int .i64 (Int.tmod ((k:Int)) (32))) 6 Z72 rfl kr kr kw (fun _=>T) fun a73 Z73=>?_;have Z74:=Z73.set 31 (v':= .int .i64 ((k % 32:Nat):Int)) kr rfl (zQ (zDs _));refine zJ (d:=32) (v:= .int .u32 ((2^(k % 32):Nat):Int)) 7 Z74 rfl kr kr (fun w=>zSa rfl rfl rfl (by omega)) (fun _=>T) fun a75 Z75=>zJ (d:=33) (v:= .int .u32 (rV ((lq.getD (k / 32) 0:Nat):Int) ((2^(k % 32):Nat):Int))) 8 Z75 rfl kr kr kw (fun _=>T) fun a76 Z76=>?_
 have Z77:=Z76.set 33 (v':= .int .u32 ((lq.getD (k / 32) 0+2^(k % 32):Nat):Int)) kr rfl (zQ hset1);refine zJ (d:=34) (v:= .pointer (some ⟨C,k / 32,none⟩)) 9 Z77 rfl kr kr (fun w=>jE (t:=26) (e:=214) (b:=C) (off:=0) (len:=l.length) (cap:=l.length) (kd:= .i64) (i:=((k / 32:Nat):Int)) (g:=false) (m:=1) (off':=k / 32) rfl kr kr kr kr (by omega) (by omega) (by first | rfl | omega | (simp;done) | (simp;omega)) w) (fun _=>T) fun a78 Z78=>?_
 refine tH [10] kr rfl ?_;refine yL.cons (i:=10) Z78 rfl kr (mY (t:=214) (y:=(lq.getD (k / 32) 0+2^(k % 32))) (k:=k / 32) (e:=((lq.getD (k / 32) 0+2^(k % 32):Nat):Int)) 3 Z78 kr G65 rfl rfl rfl (rfl) kr rfl j (by have:=j.len;(try simp only[q9]at *);omega) (hset2) ?_) yL.nil
 intro Q79 w79 D79 G79 C79;refine⟨mG kr,?_⟩;refine zDr kr (nrm ?_);refine yR<|gD W G79 (fun w80 G80 C80=>vE.next ?_);exact⟨_,Q79,(lq.set (k / 32) (lq.getD (k / 32) 0+2^(k % 32))),[(U,.cells Q62 214 (0,0))],(some ⟨U,0,none⟩),P32,ls62,(2*q+1),G80,(qKq C23 C28 C34 C35 C49 C53 C62 C64 C65 C79 C80),D79,.inr ⟨_,_,rfl,rfl,D62⟩,hcan62,by rw[hset3,hvq,jd,yc,yz];congr 1;ac_rfl,qMb hdiv (hval62.trans (by rw[hx32])) (by omega),by have:=hval62;omega⟩
 have Z81:=Z55.set 21 (v':= .bool false) kr rfl (zK J56);have F82:¬((qO (val G) (val J))≥0):=k7 J56;have V:=fE F82;refine wX ?_;refine yR<|gD W G53 (fun w83 G83 C83=>vE.next ?_);exact⟨_,S,lq,[(U,.cells Q32 214 (0,0))],(some ⟨U,0,none⟩),P32,G,(2*q),G83,(Le7 C23 C28 C34 C35 C49 C53 C83),j,.inr ⟨_,_,rfl,rfl,D32⟩,hcan32,by rw[hvq,jd];ac_rfl,qEh hdiv hx32,V⟩
 refine zG (fun K84 hK84=>?_);refine zC<|zD 1 [(6,.int .i64 (k:Int))] Z24 kr kr (fun a85 Z85=>?_);refine zH<|zA (hK84 _ _ ?_);refine zC<|zD 1 [(7,.int .u32 ((val l / 2^k % 2:Nat):Int))] Z85 kr kr (fun a86 Z86=>?_);refine zH<|zA<|zCf W G23 (fun w87 G87 C87=>?_);refine kE<|zG (fun K88 hK88=>?_);refine zC ?_;refine qX Z86 kr (zE (d:=15) (v:= .slice (some ⟨gr,0,none⟩) lr.length F) Z86 kr (zB (t:=26) (g:=false) (vs:=[.slice (some ⟨gr,0,none⟩) lr.length F]) (ad:=⟨b6,0,none⟩) rfl kr kr ir (G87.cells 4 rfl rfl)) ?_);intro a89 Z89;refine zD 1 [(16,.int .u32 ((val l / 2^k % 2:Nat):Int))] Z89 kr kr (fun a90 Z90=>?_);have hlnr:=qB h2.hlt hcanlr (uB hlt);refine qX Z90 kr (zRe (d:=17) (f:=227) (cap:=#[]) (vs:=#[.slice (some ⟨gr,0,none⟩) lr.length F,.int .u32 ((val l / 2^k % 2:Nat):Int)]) 7 Z90 kr G87 rfl kr kr (fun w=>Tryz.call227 _ w) rfl (zPu _ gr lr.length F _ lr (G87.get 7 rfl) hrowr (by omega) hcanlr (val l / 2^k % 2) (by omega)) ?_)
 rintro v91 w91 Y91 Z o91 ⟨Q91,P91,I,rfl,rfl,D91,hlen91,hcan91,hval91⟩ G91 C91 a92 Z92;refine qX Z92 kr (zF (t:=26) (b:=b6) (off:=0) (c':=#[.slice (some ⟨Z,0,none⟩) I.length P91]) (g:=false) (m:=1) 4 _ Z92 kr G91 rfl kr rfl kr kr kr rfl (by first | decide | (simp;done)) kr rfl ?_)
 intro w93 G93 C93;refine zH<|zA (hK88 _ _ ?_);refine zG (fun K94 hK94=>?_);refine zC ?_;refine qX Z92 kr (zE (d:=18) (v:= .slice (some ⟨Z,0,none⟩) I.length P91) Z92 kr (zB (t:=26) (g:=false) (vs:=[.slice (some ⟨Z,0,none⟩) I.length P91]) (ad:=⟨b6,0,none⟩) rfl kr kr ir (G93.cells 4 rfl rfl)) ?_);intro a95 Z95;refine qX Z95 kr (zE (d:=19) (v:= .slice H J.length P2) Z95 kr (zB (t:=26) (g:=false) (vs:=[.slice H J.length P2]) (ad:=⟨b2,0,none⟩) rfl kr kr ir (G93.cells 6 rfl rfl)) ?_);intro a96 Z96;refine qX Z96 kr (kF (d:=20) (f:=225) (cap:=#[]) (vs:=#[.slice (some ⟨Z,0,none⟩) I.length P91,.slice H J.length P2]) Z96 kr G93 rfl kr kr (fun w=>Tryz.call225 _ w) (zBl _ X0 (qA _) _ _ _ I (zY.limbs (Y:=X0) D91 (G93.get 7 rfl) (fun _ h=>h.elim)) _ _ _ J ((h2.mono (qKq C2 C4 C6 C10 C12 C18 C19 C23 C87 C91 C93)).mono Le.x0) hcan91 J2 (by omega)) ?_)
 rintro v97 w97 G97 C97 N97 rfl a98 Z98;refine zD 1 [(21,.bool (decide ((qO (val I) (val J))≥0)))] Z98 kr kr (fun a99 Z99=>?_);refine zH<|zA (hK94 _ _ ?_);refine nP (decide ((qO (val I) (val J))≥0)) Z99 kr kr (fun J100=>?_) (fun J100=>?_);have Z101:=Z99.set 21 (v':= .bool true) kr rfl (zK J100);have F102:(qO (val I) (val J))≥0:=jc J100;have V:=zAp F102;obtain⟨hset1,hset2,hset3⟩:=zOi lq j.lt k q (by rw[j.len];exact hkl) hvq
 refine zG (fun K103 hK103=>?_);refine zC ?_;refine qX Z101 kr (zE (d:=22) (v:= .slice (some ⟨Z,0,none⟩) I.length P91) Z101 kr (zB (t:=26) (g:=false) (vs:=[.slice (some ⟨Z,0,none⟩) I.length P91]) (ad:=⟨b6,0,none⟩) rfl kr kr ir (G97.cells 4 rfl rfl)) ?_);intro a104 Z104;refine qX Z104 kr (zE (d:=23) (v:= .slice H J.length P2) Z104 kr (zB (t:=26) (g:=false) (vs:=[.slice H J.length P2]) (ad:=⟨b2,0,none⟩) rfl kr kr ir (G97.cells 6 rfl rfl)) ?_);intro a105 Z105;refine qX Z105 kr (zBi (d:=24) (f:=226) (cap:=#[]) (vs:=#[.slice (some ⟨Z,0,none⟩) I.length P91,.slice H J.length P2]) 7 Z105 kr G97 rfl kr kr (fun w=>Tryz.call226 _ w) rfl (pK _ Z I.length P91 _ I (G97.get 7 rfl) D91 (by omega) _ _ _ J ((h2.mono (qUg C2 C4 C6 C10 C12 C18 C19 C23 C87 C91 C93 C97)).mono (G97.leHG 7 rfl)) (qB D91.lt J2 (by omega)) (by omega)) ?_)
 rintro v106 w106 ob106 ⟨Q106,ls106,rfl,hg106,D106,hcan106,hval106⟩ hob106 G106 C106 a107 Z107;obtain rfl:=q8 (hob106.symm.trans hg106);refine qX Z107 kr (zF (t:=26) (b:=b6) (off:=0) (c':=#[.slice (some ⟨Z,0,none⟩) ls106.length P91]) (g:=false) (m:=1) 4 _ Z107 kr G106 rfl kr rfl kr kr kr rfl (by first | decide | (simp;done)) kr rfl ?_)
 intro w108 G108 C108;refine zH<|zA (hK103 _ _ ?_);refine bC (N:=11) (kH [(⟨b4,0,none⟩,[.slice (some ⟨C,0,none⟩) l.length l.length]),(⟨C,k / 32,none⟩,[.int .u32 ((lq.getD (k / 32) 0:Nat):Int)])]) [10] kr kr kr G108 ?_;intro w109 G109 C109 N109;refine lF (kH.cons (G109.cells 5 rfl rfl) (kH.cons (G109.rowCells 3 rfl j (by have:=j.len;(try simp only[q9]at *);omega)) (kH.nil _))) (fun O=>?_)
 refine nW (d:=25) (v:= .slice (some ⟨C,0,none⟩) l.length l.length) 0 Z107 rfl kr kr kr (fun w hw=>zB (t:=26) (g:=false) (vs:=[.slice (some ⟨C,0,none⟩) l.length l.length]) (ad:=⟨b4,0,none⟩) rfl kr kr ir (hw.get 0 kr)) O ?_;intro a110 Z110;refine zJ (d:=26) (v:= .int .i64 (k:Int)) 1 Z110 rfl kr kr kw (fun _=>O) fun a111 Z111=>zJ (d:=27) (v:= .int .i64 (i64.wrap (Int.tdiv ((k:Int)) (32)))) 2 Z111 rfl kr kr kw (fun _=>O) fun a112 Z112=>?_;have Z113:=Z112.set 27 (v':= .int .i64 ((k / 32:Nat):Int)) kr rfl (zQ (dL _ (by omega)))
 refine zJ (d:=28) (v:= .pointer (some ⟨C,k / 32,none⟩)) 3 Z113 rfl kr kr (fun w=>jE (t:=26) (e:=214) (b:=C) (off:=0) (len:=l.length) (cap:=l.length) (kd:= .i64) (i:=((k / 32:Nat):Int)) (g:=false) (m:=1) (off':=k / 32) rfl kr kr kr kr (by omega) (by omega) (by first | rfl | omega | (simp;done) | (simp;omega)) w) (fun _=>O) fun a114 Z114=>?_
 refine nW (d:=29) (v:= .int .u32 ((lq.getD (k / 32) 0:Nat):Int)) 4 Z114 rfl kr kr kr (fun w hw=>zB (t:=214) (g:=false) (vs:=[.int .u32 ((lq.getD (k / 32) 0:Nat):Int)]) (ad:=⟨C,k / 32,none⟩) rfl kr kr ir (hw.get 1 kr)) O ?_;intro a115 Z115;refine zJ (d:=30) (v:= .int .i64 (k:Int)) 5 Z115 rfl kr kr kw (fun _=>O) fun a116 Z116=>zJ (d:=31) (v:= .int .i64 (Int.tmod ((k:Int)) (32))) 6 Z116 rfl kr kr kw (fun _=>O) fun a117 Z117=>?_;have Z118:=Z117.set 31 (v':= .int .i64 ((k % 32:Nat):Int)) kr rfl (zQ (zDs _));refine zJ (d:=32) (v:= .int .u32 ((2^(k % 32):Nat):Int)) 7 Z118 rfl kr kr (fun w=>zSa rfl rfl rfl (by omega)) (fun _=>O) fun a119 Z119=>zJ (d:=33) (v:= .int .u32 (rV ((lq.getD (k / 32) 0:Nat):Int) ((2^(k % 32):Nat):Int))) 8 Z119 rfl kr kr kw (fun _=>O) fun a120 Z120=>?_
 have Z121:=Z120.set 33 (v':= .int .u32 ((lq.getD (k / 32) 0+2^(k % 32):Nat):Int)) kr rfl (zQ hset1);refine zJ (d:=34) (v:= .pointer (some ⟨C,k / 32,none⟩)) 9 Z121 rfl kr kr (fun w=>jE (t:=26) (e:=214) (b:=C) (off:=0) (len:=l.length) (cap:=l.length) (kd:= .i64) (i:=((k / 32:Nat):Int)) (g:=false) (m:=1) (off':=k / 32) rfl kr kr kr kr (by omega) (by omega) (by first | rfl | omega | (simp;done) | (simp;omega)) w) (fun _=>O) fun a122 Z122=>?_
 refine tH [10] kr rfl ?_;refine yL.cons (i:=10) Z122 rfl kr (mY (t:=214) (y:=(lq.getD (k / 32) 0+2^(k % 32))) (k:=k / 32) (e:=((lq.getD (k / 32) 0+2^(k % 32):Nat):Int)) 3 Z122 kr G109 rfl rfl rfl (rfl) kr rfl j (by have:=j.len;(try simp only[q9]at *);omega) (hset2) ?_) yL.nil
 intro Q123 w123 D123 G123 C123;refine⟨mG kr,?_⟩;refine zDr kr (nrm ?_);refine yR<|gD W G123 (fun w124 G124 C124=>vE.next ?_);exact⟨_,Q123,(lq.set (k / 32) (lq.getD (k / 32) 0+2^(k % 32))),[(Z,.cells Q106 214 (0,0))],(some ⟨Z,0,none⟩),P91,ls106,(2*q+1),G124,(Le10 C23 C87 C91 C93 C97 C106 C108 C109 C123 C124),D123,.inr ⟨_,_,rfl,rfl,D106⟩,hcan106,by rw[hset3,hvq,jd,yc,yz];congr 1;ac_rfl,qMb hdiv (hval106.trans (by rw[hval91])) (by omega),by have:=hval106;omega⟩
 have Z125:=Z99.set 21 (v':= .bool false) kr rfl (zK J100);have F126:¬((qO (val I) (val J))≥0):=k7 J100;have V:=fE F126;refine wX ?_;refine yR<|gD W G97 (fun w127 G127 C127=>vE.next ?_);exact⟨_,S,lq,[(Z,.cells Q91 214 (0,0))],(some ⟨Z,0,none⟩),P91,I,(2*q),G127,(Le6 C23 C87 C91 C93 C97 C127),j,.inr ⟨_,_,rfl,rfl,D91⟩,hcan91,by rw[hvq,jd];ac_rfl,qEh hdiv hval91,V⟩
 rintro w128 ⟨Y128,S,lq,rb,adr,F,lr,q,G128,C128,hp128_0,hp128_1,hp128_2,hp128_3,hp128_4,hp128_5⟩;refine wE.norm W G128 (fun w129 G129 C129=>?_);have j:=hp128_0;have hrst:=hp128_1;have hcanlr:=hp128_2;have hvq:=hp128_3;have hdiv:=hp128_4;have hlt:=hp128_5;rcases hrst with⟨rfl,rfl,rfl,rfl⟩ | ⟨gr,curr,rfl,rfl,hrowr⟩
 refine yR<|zA (hK13 _ _ ?_);refine zG (fun K130 hK130=>?_);refine bC (N:=5) (kH [(⟨b6,0,none⟩,[.slice none 0 0])]) [4] kr kr kr G129 ?_;intro w131 G131 C131 N131;refine lF (kH.cons (G131.cells 4 rfl rfl) (kH.nil _)) (fun hH131=>?_);refine nW (d:=37) (v:= .slice none 0 0) 2 Z20 rfl kr kr kr (fun w hw=>zB (t:=26) (g:=false) (vs:=[.slice none 0 0]) (ad:=⟨b6,0,none⟩) rfl kr kr ir (hw.get 0 kr)) hH131 ?_;intro a132 Z132;refine tH [0] kr rfl ?_;refine yL.cons (i:=0) Z132 rfl kr (zE (d:=35) (v:= .slice (some ⟨C,0,none⟩) l.length l.length) Z132 kr (zB (t:=26) (g:=false) (vs:=[.slice (some ⟨C,0,none⟩) l.length l.length]) (ad:=⟨b4,0,none⟩) rfl kr kr ir (G131.cells 5 rfl rfl)) ?_) yL.nil;intro a133 Z133;refine wW (kH.cons (G131.cells 4 rfl rfl) (kH.nil _)) (fun hH131=>?_);refine tH [1] kr rfl ?_;refine yL.cons (i:=1) Z133 rfl kr (kF (d:=36) (f:=235) (cap:=#[]) (vs:=#[.slice (some ⟨C,0,none⟩) l.length l.length]) Z133 kr G131 rfl kr kr (fun w=>Tryz.call235 _ w) (zAd _ X0 (qA _) _ _ _ lq (zY.limbs (Y:=X0) j (G131.get 3 rfl) (fun _ h=>h.elim))) ?_) yL.nil;rintro v134 w134 G134 C134 N134 rfl a135 Z135;refine wW (kH.cons (G134.cells 4 rfl rfl) (kH.nil _)) (fun hH134=>?_);refine tH [3] kr rfl ?_;refine yL.cons (i:=3) Z135 rfl kr (zF (t:=26) (b:=b4) (off:=0) (c':=#[.slice (some ⟨C,0,none⟩) (qV lq) l.length]) (g:=false) (m:=1) 5 _ Z135 kr G134 rfl kr rfl kr kr kr rfl (by first | decide | (simp;done)) kr rfl ?_) yL.nil
 intro w136 G136 C136;refine wW (kH.cons (G136.cells 4 rfl rfl) (kH.nil _)) (fun hH136=>?_);refine tH [4] kr rfl ?_;refine yL.cons (i:=4) Z135 rfl kr (zF (t:=26) (b:=b6) (off:=0) (c':=#[.slice none 0 0]) (g:=false) (m:=1) 4 _ Z135 kr G136 rfl kr rfl kr kr kr rfl (by first | decide | (simp;done)) kr rfl ?_) yL.nil
 intro w137 G137 C137;refine⟨mG kr,?_⟩;refine zDr kr (nrm ?_);refine zA (hK130 _ _ ?_);refine mM<|zNh (v:= .tuple #[.slice (some ⟨C,0,none⟩) (qV lq) l.length,.slice none 0 0]) (rs:=[.cell 4 26,.cell 5 26]) (vs:=[.slice (some ⟨C,0,none⟩) (qV lq) l.length,.slice none 0 0]) 1 Z135 G137 rfl kr kr (fun w138 G138 C138=>?_);refine⟨(Res.cell (ad:=⟨b4,0,none⟩) (cs:=[.slice (some ⟨C,0,none⟩) (qV lq) l.length]) (g:=false) kr kr kr ir (G138.cells 5 rfl rfl) (Res.cell (ad:=⟨b6,0,none⟩) (cs:=[.slice none 0 0]) (g:=false) kr kr kr ir (G138.cells 4 rfl rfl) Res.nil)),?_⟩;obtain⟨he1,he2⟩:=zTq hdiv hlt hvq;exact⟨G138.upd,_,rfl,_,_,Go.Gv.trimmed lq,[],_,_,_,_,_,_,rfl,⟨⟨rfl,(jP _).symm,tJ j.lt,.inr ⟨_,_,rfl,G138.own_ge 3 rfl,G138.get 3 rfl,j.trimmed⟩⟩,qY _,by rw[jK];exact he1⟩,⟨⟨rfl,rfl,fun x hx=>by simp at hx,.inl ⟨rfl,rfl,rfl⟩⟩,.inl rfl,he2⟩⟩
 refine yR<|zA (hK13 _ _ ?_);refine zG (fun K139 hK139=>?_);refine bC (N:=5) (kH [(⟨b6,0,none⟩,[.slice (some ⟨gr,0,none⟩) lr.length F])]) [4] kr kr kr G129 ?_;intro w140 G140 C140 N140;refine lF (kH.cons (G140.cells 4 rfl rfl) (kH.nil _)) (fun hH140=>?_);refine nW (d:=37) (v:= .slice (some ⟨gr,0,none⟩) lr.length F) 2 Z20 rfl kr kr kr (fun w hw=>zB (t:=26) (g:=false) (vs:=[.slice (some ⟨gr,0,none⟩) lr.length F]) (ad:=⟨b6,0,none⟩) rfl kr kr ir (hw.get 0 kr)) hH140 ?_;intro a141 Z141;refine tH [0] kr rfl ?_;refine yL.cons (i:=0) Z141 rfl kr (zE (d:=35) (v:= .slice (some ⟨C,0,none⟩) l.length l.length) Z141 kr (zB (t:=26) (g:=false) (vs:=[.slice (some ⟨C,0,none⟩) l.length l.length]) (ad:=⟨b4,0,none⟩) rfl kr kr ir (G140.cells 5 rfl rfl)) ?_) yL.nil;intro a142 Z142;refine wW (kH.cons (G140.cells 4 rfl rfl) (kH.nil _)) (fun hH140=>?_);refine tH [1] kr rfl ?_;refine yL.cons (i:=1) Z142 rfl kr (kF (d:=36) (f:=235) (cap:=#[]) (vs:=#[.slice (some ⟨C,0,none⟩) l.length l.length]) Z142 kr G140 rfl kr kr (fun w=>Tryz.call235 _ w) (zAd _ X0 (qA _) _ _ _ lq (zY.limbs (Y:=X0) j (G140.get 3 rfl) (fun _ h=>h.elim))) ?_) yL.nil;rintro v143 w143 G143 C143 N143 rfl a144 Z144;refine wW (kH.cons (G143.cells 4 rfl rfl) (kH.nil _)) (fun hH143=>?_);refine tH [3] kr rfl ?_;refine yL.cons (i:=3) Z144 rfl kr (zF (t:=26) (b:=b4) (off:=0) (c':=#[.slice (some ⟨C,0,none⟩) (qV lq) l.length]) (g:=false) (m:=1) 5 _ Z144 kr G143 rfl kr rfl kr kr kr rfl (by first | decide | (simp;done)) kr rfl ?_) yL.nil
 intro w145 G145 C145;refine wW (kH.cons (G145.cells 4 rfl rfl) (kH.nil _)) (fun hH145=>?_);refine tH [4] kr rfl ?_;refine yL.cons (i:=4) Z144 rfl kr (zF (t:=26) (b:=b6) (off:=0) (c':=#[.slice (some ⟨gr,0,none⟩) lr.length F]) (g:=false) (m:=1) 4 _ Z144 kr G145 rfl kr rfl kr kr kr rfl (by first | decide | (simp;done)) kr rfl ?_) yL.nil
 intro w146 G146 C146;refine⟨mG kr,?_⟩;refine zDr kr (nrm ?_);refine zA (hK139 _ _ ?_);refine mM<|zNh (v:= .tuple #[.slice (some ⟨C,0,none⟩) (qV lq) l.length,.slice (some ⟨gr,0,none⟩) lr.length F]) (rs:=[.cell 4 26,.cell 5 26]) (vs:=[.slice (some ⟨C,0,none⟩) (qV lq) l.length,.slice (some ⟨gr,0,none⟩) lr.length F]) 1 Z144 G146 rfl kr kr (fun w147 G147 C147=>?_);refine⟨(Res.cell (ad:=⟨b4,0,none⟩) (cs:=[.slice (some ⟨C,0,none⟩) (qV lq) l.length]) (g:=false) kr kr kr ir (G147.cells 5 rfl rfl) (Res.cell (ad:=⟨b6,0,none⟩) (cs:=[.slice (some ⟨gr,0,none⟩) lr.length F]) (g:=false) kr kr kr ir (G147.cells 4 rfl rfl) Res.nil)),?_⟩;obtain⟨he1,he2⟩:=zTq hdiv hlt hvq;exact⟨G147.upd,_,rfl,_,_,Go.Gv.trimmed lq,lr,_,_,_,_,_,_,rfl,⟨⟨rfl,(jP _).symm,tJ j.lt,.inr ⟨_,_,rfl,G147.own_ge 3 rfl,G147.get 3 rfl,j.trimmed⟩⟩,qY _,by rw[jK];exact he1⟩,⟨⟨rfl,rfl,hrowr.lt,.inr ⟨_,_,rfl,G147.own_ge 7 rfl,G147.get 7 rfl,hrowr⟩⟩,hcanlr,he2⟩⟩
 intro k w9 N9 hm1 hm2;exact⟨_,(List.replicate l.length (Value.int .u32 0)).toArray,(List.replicate l.length 0),[],none,0,[],0,G19.call N9,N9.le _,D10,.inl ⟨rfl,rfl,rfl,rfl⟩,.inl rfl,by rw[vM];rfl,by rw[ww hm1];simp[val],hd⟩
set_option maxHeartbeats 1000000
def zSp(y:Nat):Int:=if y=0 then 14 else 0
theorem qBs(w:World)(X:Hid)(hX:∀k o,X k o→k<w.heap.size)(ad:Option Addr)(T cap:Nat)(l:List Nat)(h:zN (rd w X) ad T cap l)(J:Option Addr)(G P2:Nat)(f:List Nat)(N:zN (rd w X) J G P2 f):Calls Tryz.prog 233 #[.slice ad T cap,.slice J G P2] w (Ret E0 w fun w' v=>DivV 214 w w' (or2 (vJ l f) (zSp (val f))) (val l / val f) (val l % val f) v):=by
 obtain rfl:=h.hlen;obtain rfl:=N.hlen;have hcap:=h.hcap;have hbig:=h.hbig;have hcap2:=N.hcap;have hbig2:=N.hbig;refine zen Tryz.func233 ?_;have G0:St E0 w X w X []:=St.start hX;refine zz 12<|zc G0 (zAk _ X0 (qA _) _ _ _ l (h.mono Le.x0) _ _ _ f (N.mono Le.x0)) ?_;rintro v3 w3 U C3 N3 rfl;refine zz 11<|zb 11 (b:=((vJ l f)!=0)) (fun Z=>?_) (fun Z=>?_);have F5:(vJ l f)≠0:=by simpa using Z
 refine zz 12<|zr' (v:= .tuple #[.slice none 0 0,.slice none 0 0,.int .i64 (vJ l f)]) ?_;exact⟨U.upd,_,rfl,by rw[zBk F5];exact .inl ⟨F5,rfl⟩⟩
 have V:(vJ l f)=0:=by simpa using Z
 obtain⟨⟨O,c1⟩,hl2,c2⟩:=zAn V;refine zz 9<|zb 15 (b:=((f.length:Int)==0)) (fun J7=>?_) (fun J7=>?_);have F8:(f.length:Int)=0:=by simpa using J7
 have hz:val f=0:=by rw[qT (by omega:f.length=0)];rfl
 refine zz 11<|zr' (v:= .tuple #[.slice none 0 0,.slice none 0 0,.int .i64 14]) ?_;exact⟨U.upd,_,rfl,by rw[wM V,zSp,qn hz];exact .inl ⟨by decide,rfl⟩⟩
 have F9:(f.length:Int)≠0:=by simpa using J7
 have hp:0<val f:=rJ c2 (by rintro rfl;simp at F9)
 refine zz 8<|zc U (qEi _ X0 (qA _) _ _ _ l ((h.mono C3).mono Le.x0) _ _ _ f ((N.mono C3).mono Le.x0) c1 c2 (by omega) (by omega) hp) ?_
 rintro v11 w11 W C11 N11 ⟨u11,v211,lq11,lr11,H,C,y,I,F,z,rfl,j,q⟩;obtain rfl:=j.own.hv;obtain rfl:=q.own.hv;refine zz 17<|zr' (v:= .tuple #[.slice H C y,.slice I F z,.int .i64 0]) ?_;have S:=(U).upd.size;exact⟨W.upd,_,rfl,by rw[wM V,zSp,qm (by omega)];exact .inr ⟨rfl,_,_,_,_,_,_,_,_,_,_,rfl,j.back S,qx (qB h.hlt j.canon (by rw[j.val];exact vg _ _)) O,q.back S,qx (qB h.hlt q.canon (by rw[q.val];exact Nat.mod_le _ _)) O⟩⟩
set_option maxHeartbeats 1000000
theorem dY{l f:List Nat}(h:l.length≤512)(y:zX l)(q:f.length≤512)(j:zX f):vJ l f=0:=by
 unfold vJ;rw[zEz h y,zEz q j];rfl
theorem jDq(w:World)(ad:Option Addr)(q cap x:Nat)(h:qD (rd w X0) ad q cap x)(j:Option Addr)(f C y:Nat)(S:qD (rd w X0) j f C y)(hx:x<4294967296^512)(hy:y<4294967296^512)(U:x*y<4294967296^512):Calls Tryz.prog 230 #[.slice ad q cap,.slice j f C] w (Ret E0 w fun J v=>∃u,v= .tuple #[u,.int .i64 0]∧zLy w J u (x*y)):=by
 obtain⟨l,V,T,rfl,W⟩:=h.limbs hx;obtain⟨l2,F,N,rfl,G⟩:=S.limbs hy;refine(jDp w X0 (qA _) ad q cap l V j f C l2 F).mono ?_;rintro e J ⟨Z,v,rfl,hv⟩;obtain⟨u,lr,O,I,H,rfl,z,_⟩:=hv.ok (by rw[wM (dY W T G N)];unfold qAc;rw[qn U])
 exact⟨Z,_,rfl,u,rfl,z.natV⟩
theorem jDl(w:World)(ad:Option Addr)(q cap x:Nat)(h:qD (rd w X0) ad q cap x)(j:Option Addr)(f C y:Nat)(S:qD (rd w X0) j f C y)(hx:x<4294967296^512)(hy:y<4294967296^512)(U:x+y<4294967296^512):Calls Tryz.prog 231 #[.slice ad q cap,.slice j f C] w (Ret E0 w fun J v=>∃u,v= .tuple #[u,.int .i64 0]∧zLy w J u (x+y)):=by
 obtain⟨l,V,T,rfl,W⟩:=h.limbs hx;obtain⟨l2,F,N,rfl,G⟩:=S.limbs hy;refine(jDk w X0 (qA _) ad q cap l V j f C l2 F).mono ?_;rintro e J ⟨Z,v,rfl,hv⟩;obtain⟨u,lr,O,I,H,rfl,z,_⟩:=hv.ok (by rw[wM (dY W T G N)];unfold qAc;rw[qn U])
 exact⟨Z,_,rfl,u,rfl,z.natV⟩
theorem qRt(w:World)(ad:Option Addr)(q cap x:Nat)(h:qD (rd w X0) ad q cap x)(j:Option Addr)(f C y:Nat)(S:qD (rd w X0) j f C y)(Z:x<4294967296^512)(hy:y<4294967296^512)(hf:y≤x):Calls Tryz.prog 232 #[.slice ad q cap,.slice j f C] w (Ret E0 w fun J v=>∃u,v= .tuple #[u,.int .i64 0]∧zLy w J u (x-y)):=by
 obtain⟨l,U,T,rfl,V⟩:=h.limbs Z;obtain⟨l2,F,N,rfl,G⟩:=S.limbs hy;refine(qRs w X0 (qA _) ad q cap l U j f C l2 F).mono ?_;rintro e J ⟨W,v,rfl,hv⟩;obtain⟨u,lr,O,I,H,rfl,z,_⟩:=hv.ok (by rw[wM (dY V T G N)];unfold zVl;rw[qm (by omega)])
 exact⟨W,_,rfl,u,rfl,z.natV⟩
theorem qCp(w:World)(ad:Option Addr)(q cap x:Nat)(h:qD (rd w X0) ad q cap x)(j:Option Addr)(f z y:Nat)(I:qD (rd w X0) j f z y)(U:x<4294967296^512)(V:y<4294967296^512)(N:x<y):Calls Tryz.prog 232 #[.slice ad q cap,.slice j f z] w (Ret E0 w fun _ v=>v= .tuple #[.slice none 0 0,.int .i64 7]):=by
 obtain⟨l,O,J,rfl,S⟩:=h.limbs U;obtain⟨G,C,H,rfl,F⟩:=I.limbs V;refine(qRs w X0 (qA _) ad q cap l O j f z G C).mono ?_;rintro e W ⟨T,v,rfl,hv⟩;have he:or2 (vJ l G) (zVl (val l) (val G))=7:=by rw[wM (dY S J F H)];unfold zVl;rw[qn N]
 rw[he]at hv;exact⟨T,_,rfl,hv.err (by decide)⟩
theorem qBt(w:World)(ad:Option Addr)(q cap x:Nat)(h:qD (rd w X0) ad q cap x)(j:Option Addr)(f C y:Nat)(S:qD (rd w X0) j f C y)(Z:x<4294967296^512)(hy:y<4294967296^512):Calls Tryz.prog 155 #[.slice ad q cap,.slice j f C] w (Ret E0 w fun J v=>∃u,v= .tuple #[u,.int .i64 0]∧zLy w J u (Nat.gcd x y)):=by
 obtain⟨l,U,T,rfl,V⟩:=h.limbs Z;obtain⟨l2,F,N,rfl,G⟩:=S.limbs hy;refine(jDn w X0 (qA _) ad q cap l U j f C l2 F).mono ?_;rintro e J ⟨W,v,rfl,hv⟩;obtain⟨u,lr,O,I,H,rfl,z,_⟩:=hv.ok (dY V T G N);exact⟨W,_,rfl,u,rfl,z.natV⟩
theorem zOw(w:World)(ad:Option Addr)(q cap x:Nat)(h:qD (rd w X0) ad q cap x)(j:Option Addr)(f C y:Nat)(O:qD (rd w X0) j f C y)(hx:x<4294967296^512)(hy:y<4294967296^512)(hd:0<y):Calls Tryz.prog 233 #[.slice ad q cap,.slice j f C] w (Ret E0 w fun I v=>∃u z,v= .tuple #[u,z,.int .i64 0]∧zLy w I u (x / y)∧zLy w I z (x % y)):=by
 obtain⟨l,T,S,rfl,U⟩:=h.limbs hx;obtain⟨H,F,J,rfl,G⟩:=O.limbs hy;refine(qBs w X0 (qA _) ad q cap l T j f C H F).mono ?_;rintro e I ⟨Z,v,rfl,hv⟩;have he:or2 (vJ l H) (zSp (val H))=0:=by rw[wM (dY U S G J)];unfold zSp;rw[qm (by omega)]
 rcases hv with⟨N,_⟩ | ⟨_,u,z,a1,a2,a3,a4,a5,a6,a7,a8,rfl,V,_,W,_⟩
 ·exact absurd he N
 ·exact⟨Z,_,rfl,u,z,rfl,V.natV,W.natV⟩
theorem zFa(w:World)(ad:Option Addr)(f cap x:Nat)(h:qD (rd w X0) ad f cap x)(H:x<4294967296^512):Calls Tryz.prog 223 #[.slice ad f cap] w (Ret E0 w fun C v=>zLy w C v x):=by
 obtain⟨l,y,F,rfl,I⟩:=h.limbs H;refine(zAo w X0 (qA _) ad f cap l y (by rw[y.hlen];omega)).mono ?_
 rintro e C ⟨G,v,rfl,ad',z,q,j⟩;exact⟨G,_,rfl,zAh.natV ⟨j,F,rfl⟩⟩
theorem qFe(w:World)(x:Nat)(C:x<18446744073709551616):Calls Tryz.prog 174 #[.int .u64 (x:Int)] w (Ret E0 w fun f v=>zLy w f v x):=by
 refine(qXq w X0 (qA _) x C).mono ?_;rintro e f ⟨z,v,rfl,l,ad,F,cap,j,q,y⟩;exact⟨z,_,rfl,zAh.natV ⟨j,q,y⟩⟩
section
variable (w:World)(X:Hid)(hX:∀k o,X k o→k<w.heap.size)
set_option maxHeartbeats 1000000
include hX in
theorem zBy(ad:Option Addr)(q cap x:Nat)(h:qD (rd w X) ad q cap x)(j:Option Addr)(f J y:Nat)(O:qD (rd w X) j f J y)(W:x<4294967296^512)(Z:y<4294967296^512)(V:x*y<4294967296^512):Calls Tryz.prog 160 #[.slice ad q cap,.slice j f J] w (Ret E0 w fun S v=>gP X S v (x*y)):=by
 refine zen Tryz.func160 ?_;have H:St E0 w X w X []:=St.start hX;refine zz 9<|zc H (jDq _ _ _ _ x (h.mono Le.x0) _ _ _ y (O.mono Le.x0) (by first | assumption | omega) (by first | assumption | omega) (by first | assumption | omega)) ?_
 rintro v3 w3 I T U ⟨u3,rfl,⟨C,z,N,rfl,G⟩⟩;have F:=G _ H.lt;refine zz 14<|zr' (v:= .slice C z N) ?_;exact⟨I.upd,_,rfl,I.lastN F⟩
include hX in
theorem jBo(ad:Option Addr)(q cap x:Nat)(h:qD (rd w X) ad q cap x)(j:Option Addr)(f J y:Nat)(O:qD (rd w X) j f J y)(W:x<4294967296^512)(Z:y<4294967296^512)(V:x+y<4294967296^512):Calls Tryz.prog 161 #[.slice ad q cap,.slice j f J] w (Ret E0 w fun S v=>gP X S v (x+y)):=by
 refine zen Tryz.func161 ?_;have H:St E0 w X w X []:=St.start hX;refine zz 9<|zc H (jDl _ _ _ _ x (h.mono Le.x0) _ _ _ y (O.mono Le.x0) (by first | assumption | omega) (by first | assumption | omega) (by first | assumption | omega)) ?_
 rintro v3 w3 I T U ⟨u3,rfl,⟨C,z,N,rfl,G⟩⟩;have F:=G _ H.lt;refine zz 14<|zr' (v:= .slice C z N) ?_;exact⟨I.upd,_,rfl,I.lastN F⟩
include hX in
theorem qGn(ad:Option Addr)(q cap x:Nat)(h:qD (rd w X) ad q cap x)(j:Option Addr)(f J y:Nat)(O:qD (rd w X) j f J y)(W:x<4294967296^512)(Z:y<4294967296^512)(V:y≤x):Calls Tryz.prog 162 #[.slice ad q cap,.slice j f J] w (Ret E0 w fun S v=>∃u,v= .tuple #[u,.bool false]∧gP X S u (x-y)):=by
 refine zen Tryz.func162 ?_;have H:St E0 w X w X []:=St.start hX;refine zz 11<|zc H (qRt _ _ _ _ x (h.mono Le.x0) _ _ _ y (O.mono Le.x0) (by first | assumption | omega) (by first | assumption | omega) (by first | assumption | omega)) ?_
 rintro v3 w3 I T U ⟨u3,rfl,⟨C,z,N,rfl,G⟩⟩;have F:=G _ H.lt;refine zz 23<|zr' (v:= .tuple #[.slice C z N,.bool false]) ?_;exact⟨I.upd,_,rfl,_,rfl,I.lastN F⟩
include hX in
theorem qGo(ad:Option Addr)(q cap x:Nat)(h:qD (rd w X) ad q cap x)(j:Option Addr)(f N y:Nat)(O:qD (rd w X) j f N y)(hx:x<4294967296^512)(hy:y<4294967296^512)(hf:x<y):Calls Tryz.prog 162 #[.slice ad q cap,.slice j f N] w (Ret E0 w fun U v=>∃u,v= .tuple #[u,.bool true]∧gP X U u (y-x)):=by
 refine zen Tryz.func162 ?_;have S:St E0 w X w X []:=St.start hX;refine zz 11<|zc S (qCp _ _ _ _ x (h.mono Le.x0) _ _ _ y (O.mono Le.x0) (by first | assumption | omega) (by first | assumption | omega) (by first | assumption | omega)) ?_
 rintro v3 w3 I H W rfl;refine zz 20<|zc I (qRt _ _ _ _ y ((O.mono H).mono Le.x0) _ _ _ x ((h.mono H).mono Le.x0) (by first | assumption | omega) (by first | assumption | omega) (by first | assumption | omega)) ?_
 rintro v5 w5 J V Z ⟨u5,rfl,⟨C,z,T,rfl,G⟩⟩;have F:=G _ I.lt;refine zz 15<|zr' (v:= .tuple #[.slice C z T,.bool true]) ?_;exact⟨J.upd,_,rfl,_,rfl,J.lastN F⟩
include hX in
theorem qOh(ad:Option Addr)(q cap x:Nat)(h:qD (rd w X) ad q cap x)(j:Option Addr)(f C y:Nat)(F:qD (rd w X) j f C y)(G:x<4294967296^512)(H:y<4294967296^512):Calls Tryz.prog 162 #[.slice ad q cap,.slice j f C] w (Ret E0 w fun I v=>∃u,v= .tuple #[u,.bool (decide (x<y))]∧gP X I u (if x<y then y-x else x-y)):=by
 by_cases z:x<y
 ·rw[qn z,kn z];exact qGo w X hX ad q cap x h j f C y F G H z
 ·rw[qm z,we z];exact qGn w X hX ad q cap x h j f C y F G H (by omega)
include hX in
theorem zDt(ad:Option Addr)(len cap x:Nat)(h:qD (rd w X) ad len cap x):Calls Tryz.prog 154 #[.slice ad len cap] w (Ret E0 w fun _ v=>v= .bool (decide (x=1))):=by
 refine zen Tryz.func154 ?_;have y:St E0 w X w X []:=St.start hX;refine zz 11<|zb 6 (b:=((len:Int)==1)) (fun j=>?_) (fun j=>?_);have F:(len:Int)=1:=by simpa using j
 obtain⟨C,z,rfl,f,q⟩:=h.one (by omega)
 refine zz 1<|zi (b:=C) (off:=z) (len:=len) (cap:=cap) (kd:= .i64) (i:=0) 1 z ?_ (hoff:=kr);refine zl (q).cells<|zz 6<|zr' (v:= .bool ((x:Int)==1)) ?_;exact⟨y.upd,_,rfl,zK (by rw[j5];simp;omega)⟩
 have G:(len:Int)≠1:=by simpa using j
 have f:x≠1:=fun e=>by subst e;exact absurd h.of_one (by omega)
 refine zz 9<|zr' (v:= .bool false) ?_;exact⟨y.upd,_,rfl,zK (by simp[f])⟩
end
end Go.Proofs.YtdfmdiakjdggbaaGreatDoor

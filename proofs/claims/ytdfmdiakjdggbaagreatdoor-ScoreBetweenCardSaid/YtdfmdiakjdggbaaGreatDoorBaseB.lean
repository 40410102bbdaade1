import Derived.Test.YtdfmdiakjdggbaaGreatDoorRows
import Derived.Test.YtdfmdiakjdggbaaGreatDoorBaseA
set_option linter.unusedVariables false
set_option linter.unusedSimpArgs false
set_option linter.unnecessarySimpa false
namespace Go.Gv
open Go.RowKit IntKind
attribute [local semireducible] Go
structure Pn where
 i:Nat
 d:Nat
 deps:List Nat
 vf:(Nat→Nat)→Value
 ob:Option ((Nat→Nat)→Obj)
def al(i d:Nat)(vf:Nat→Value)(ob:Obj):Pn:=⟨i,d,[i],fun e=>vf (e 0),some fun _=>ob⟩
def Pn.loc(p:Pn)(e:Nat→Nat):Nat→Nat:=fun k=>e (p.deps.getD k p.i)
def Pn.val(p:Pn)(e:Nat→Nat):Value:=p.vf (p.loc e)
def up{α:Type}(f:Nat→α)(j:Nat)(x:α):Nat→α:=fun k=>bif Nat.beq k j then x else f k
theorem wP{α:Type}(f:Nat→α)(j:Nat)(x:α):up f j x j=x:=by simp[up]
theorem sZ{α:Type}(f:Nat→α){j k:Nat}(x:α)(h:k≠j):up f j x k=f k:=by
 unfold up;cases hb:Nat.beq k j with
 | false=>rfl
 | true=>exact absurd (Nat.eq_of_beq_eq_true hb) h
structure Rg where
 P:Program
 ops:Array Oper
 Q:Exit→Act→World→Prop
 T:List Nat
 n:Nat
 D:List Deferred
 E:Nat→Prop
 w0:World
 X:Hid
 M0:List (Nat×Obj)
 r0:Rd
def Rg.S(R:Rg)(w:World):Prop:=(∀p∈R.M0,w.heap[p.1]?=some p.2)∧∀a v,R.r0 a=some v→w.cell? a=some v
def sel(M:List (Nat×Obj)):List Nat→List (Nat×Obj)
 | []=>[]
 | i::is=>match M[i]? with
  | some p=>p::sel M is
  | none=>sel M is
theorem zBq{M:List (Nat×Obj)}:∀{is:List Nat},∀p∈sel M is,p∈M
 | i::is,p,h=>by
  unfold sel at h;split at h
  ·rename_i q f;rcases List.mem_cons.1 h with rfl | h
   ·exact List.mem_of_getElem? f
   ·exact zBq p h
  ·exact zBq p h
theorem selm{M M0:List (Nat×Obj)}(is:List Nat)(h:sel M is=M0:=by kernel_rfl):∀p∈M0,p∈M:=h▸zBq
def unl(l:Array Bool):Nat:=l.toList.countP (fun b=>!b)
def wpU(R:Rg)(l:Array Bool)(a:Act)(w:World):Prop:=∀fuel,unl l≤fuel→wpT R.P R.ops (vZ R.Q) R.S R.T fuel l a w
theorem qOr{l:Array Bool}{i:Nat}(h:l.getD i true=false):unl (l.setIfInBounds i true)+1=unl l:=by
 have q:i<l.size:=by
  rcases Nat.lt_or_ge i l.size with h' | h'
  ·exact h'
  ·simp[Array.getElem?_eq_none h']at h
 have y:l[i]=false:=by simpa[q]using h
 have f:i<l.toList.length:=by simpa using q
 have j:l.toList[i]'f=false:=by simpa using y
 unfold unl;rw[Array.toList_setIfInBounds,List.countP_set f];have z:0<l.toList.countP (fun b=>!b):=List.countP_pos_iff.2 ⟨_,List.getElem_mem f,by simp[j]⟩
 simp only[j,Bool.not_false,if_true,Bool.not_true,Bool.false_eq_true,if_false];omega
section
variable {R:Rg}{l:Array Bool}{a:Act}{w:World}{o:Oper}{L:List (Nat×Value)}
theorem zNz{i:Nat}{fuel:Nat}(hr:i∈Region.ready .any R.ops l)(j:unl l≤fuel):∃f,fuel=f+1∧unl (l.setIfInBounds i true)≤f:=by
 have:=qOr (mem_ready.1 hr).1;exact⟨fuel-1,by omega,by omega⟩
theorem qIj(q:Region.ready .any R.ops l≠[])(h:∀i∈Region.ready .any R.ops l,wpOp R.P R.ops (vZ R.Q) i (fun a' w'=>(jA R.T (l.setIfInBounds i true)=false→R.S w')∧wpU R (l.setIfInBounds i true) a' w') a w):wpU R l a w:=by
 intro fuel y;obtain⟨i,H⟩:=List.exists_mem_of_ne_nil _ q;obtain⟨f,rfl,_⟩:=zNz H y;refine⟨fun F=>absurd F q,fun j z=>wpOp_mono (fun a' w' h'=>⟨h'.1,h'.2 f ?_⟩) (h j z)⟩;obtain⟨I,G,C⟩:=zNz z y;omega
theorem jCt{i d:Nat}{v:Value}(C:R.ops[i]?=some o)(O:aX R.ops R.T l i=true)(y:chk R.ops L o d R.n=true)(q:Fr R.n a L R.D)
  (j:(∀w,(execOp (evL L) o).run R.P w= .ok (.value v) w)∨((zIr R.ops R.T i&&!jA R.T l)=true∧∀w,R.S w→(execOp (evL L) o).run R.P w= .ok (.value v) w)) (H:jA R.T l=false→R.S w)
  (k:Fr R.n (a.put (some d) v) ((d,v)::L) R.D→wpU R (l.setIfInBounds i true) (a.put (some d) v) w):wpU R l a w:=by
 obtain⟨I,J,G,N⟩:=rO O;simp only[chk,zd]at y;obtain⟨hd,hlt⟩:=qH y.2.2;intro fuel U;obtain⟨f,rfl,z⟩:=zNz G U;rcases j with j | ⟨F,j⟩
 ·refine lC C (Region.noSelect_spec I) (fun _ _ _ h=>h) (fun _=>True) (.inl fun _=>trivial) N f l a w (Region.free_spec C J) G (.inl ⟨q.wanted y.1,fun w _=>by rw[q.exec y.2.1];exact j w⟩) (.inl fun _=>trivial) H trivial ?_
  rw[hd];exact k (q.put hlt v) f z
 ·simp only[zd,Bool.not_eq_true']at F;refine lC C (Region.noSelect_spec I) (fun _ _ _ h=>h) R.S (.inr ⟨fun _ h=>h,zIs F.1⟩) N f l a w (Region.free_spec C J) G (.inl ⟨q.wanted y.1,fun w hs=>by rw[q.exec y.2.1];exact j w hs⟩) (.inr F.2) H (H F.2) ?_
  rw[hd];exact k (q.put hlt v) f z
theorem jAm{i d:Nat}(C:R.ops[i]?=some o)(J:aX R.ops R.T l i=true)(q:(yY R.ops L o false&&bY o d R.n)=true)(z:Fr R.n a L R.D)(I:jA R.T l=false→R.S w)
  (k:Fr R.n (a.put (some d) undef) ((d,undef)::L) R.D→wpU R (l.setIfInBounds i true) (a.put (some d) undef) w):wpU R l a w:=by
 obtain⟨F,G,y,H⟩:=rO J;simp only[zd]at q;obtain⟨hd,hlt⟩:=qH q.2;intro fuel N;obtain⟨f,rfl,j⟩:=zNz y N;refine lC C (Region.noSelect_spec F) (fun _ _ _ h=>h) (fun _=>True) (.inl fun _=>trivial) H f l a w (Region.free_spec C G) y (.inr ⟨z.wanted q.1,rfl⟩) (.inl fun _=>trivial) I trivial ?_;rw[hd];exact k (z.put hlt undef) f j
end
def pT:List Pn→(Nat→Bool)→Array Bool→Array Bool
 | [],_,l=>l
 | p::ps,f,l=>pT ps f (bif f p.i then l.setIfInBounds p.i true else l)
def pM:List Pn→(Nat→Bool)→(Nat→Nat)→List (Nat×Obj)
 | [],_,_=>[]
 | p::ps,f,e=>(bif f p.i then(match p.ob with
  | some o=>[(e p.i,o (p.loc e))]
  | none=>[])else[])++pM ps f e
def pOk(a:Act)(Pd:List Pn)(f:Nat→Bool)(e:Nat→Nat):Prop:=∀p∈Pd,f p.i=true→a.tmps[p.d]?=some (p.val e)
def pCl(Pd:List Pn)(f:Nat→Bool):Prop:=∀p∈Pd,f p.i=true→f p.i=true∧∀k,f (p.deps.getD k p.i)=true
def lQ(Pd:List Pn)(l:Array Bool):Array Bool:=pT Pd (fun _=>true) l
theorem zHz:∀(Pd:List Pn)(f:Nat→Bool)(l:Array Bool)(i:Nat),pT Pd f (l.setIfInBounds i true)=(pT Pd f l).setIfInBounds i true
 | [],_,_,_=>rfl
 | p::ps,f,l,i=>by
  simp only[pT];rw[←zHz ps f _ i];cases f p.i
  ·rfl
  ·simp only[ze];by_cases h:i=p.i
   ·subst h;rfl
   ·rw[Array.setIfInBounds_comm _ _ h]
def aB(T:List Nat)(Pd:List Pn):Bool:=Pd.all fun p=>!T.contains p.i
@[irreducible] def Gt (R : Rg) (Pd : List Pn) (c : Array Bool × List (Nat × Value)) (M : List (Nat × Obj)) (r : Rd) : Prop :=
  aB R.T Pd = true → (jA R.T c.1 = true ∨ ((∀ p ∈ R.M0, p ∈ M) ∧ Le R.r0 r)) →
  ∀ f e a w Y, pCl Pd f → Fr R.n a c.2 R.D → pOk a Pd f e → St R.E R.w0 R.X w Y (M ++ pM Pd f e) → Le r (rd w Y) → wpU R (pT Pd f c.1) a w
attribute [local semireducible] Gt
theorem zGg{T:List Nat}{l:Array Bool}{i:Nat}(h:jA T l=true):jA T (l.setIfInBounds i true)=true:=by
 unfold jA at *;rw[List.any_eq_true]at *;obtain⟨t,ht,h⟩:=h;exact⟨t,ht,getD_set_true h⟩
theorem zAf{T:List Nat}:∀(Pd:List Pn)(f:Nat→Bool)(l:Array Bool),aB T Pd=true→jA T (pT Pd f l)=jA T l
 | [],_,_,_=>rfl
 | p::ps,f,l,h=>by
  simp only[aB,List.all_cons,zd]at h;simp only[pT];refine(zAf ps f _ (by simpa[aB]using h.2)).trans ?_
  cases f p.i
  ·rfl
  ·exact vT (fun e=>by have:=h.1;simp[e]at this)
def pNe(Pd:List Pn)(i:Nat)(d:Option Nat):Bool:=Pd.all fun p=>!(p.i==i)&&!(some p.d==d)
theorem qAf{ops:Array Oper}{T:List Nat}{l:Array Bool}{i j:Nat}(h:aX ops T l i=true)(z:i≠j):aX ops T (l.setIfInBounds j true) i=true:=by
 simp only[aX,zd]at *;refine⟨h.1,?_,?_,h.2.2.2⟩
 ·have y:=h.2.1;unfold Region.free at *;cases ho:ops[i]? with
  | none=>simp[ho]at y
  | some F=>
   simp only[ho,List.all_eq_true]at y ⊢;intro k C;have:=y k C;simp only[Bool.or_eq_true]at this ⊢;rcases this with(f | f) | f
   ·exact .inl (.inl f)
   ·refine .inl (.inr ?_);by_cases q:j=k
    ·subst q;rcases Nat.lt_or_ge j l.size with h' | h'
     ·simp[h']
     ·simp[Array.getElem?_eq_none,h']
    ·rw[getD_set_ne true q];exact f
   ·exact .inr f
 ·have f:=h.2.2.1;rw[List.contains_iff_mem]at *;exact ready_mono f z
theorem zNu{ops:Array Oper}{T:List Nat}{i:Nat}{d:Option Nat}:∀(Pd:List Pn)(f:Nat→Bool)(l:Array Bool),pNe Pd i d=true→aX ops T l i=true→aX ops T (pT Pd f l) i=true
 | [],_,_,_,h=>h
 | p::ps,f,l,hp,h=>by
  simp only[pNe,List.all_cons,zd]at hp;refine zNu (d:=d) ps f _ (by simpa[pNe]using hp.2) ?_
  cases f p.i
  ·exact h
  ·exact qAf h (fun e=>by have:=hp.1.1;simp[e]at this)
theorem zNf{i:Nat}{d:Option Nat}{a a':Act}{v:Value}{Pd:List Pn}{f:Nat→Bool}{e:Nat→Nat}(ha:a'.tmps=(a.put d v).tmps)(hp:pNe Pd i d=true)(h:pOk a Pd f e):pOk a' Pd f e:=fun p q y=>by
 have j:=List.all_eq_true.1 hp p q;simp only[zd,Bool.not_eq_true',beq_eq_false_iff_ne]at j;rw[ha];cases d with
 | none=>exact h p q y
 | some d=>
  have:d≠p.d:=fun e=>j.2 (by rw[e])
  show(a.tmps.setIfInBounds d v)[p.d]?=_;rw[Array.getElem?_setIfInBounds_ne this];exact h p q y
section
variable {R:Rg}{Pd:List Pn}{c:Array Bool×List (Nat×Value)}{M:List (Nat×Obj)}{r:Rd}
theorem hold{f:Nat→Bool}{e:Nat→Nat}{w:World}{Y:Hid}(F:aB R.T Pd=true)(j:jA R.T c.1=true∨((∀p∈R.M0,p∈M)∧Le R.r0 r))(C:St R.E R.w0 R.X w Y (M++pM Pd f e))(q:Le r (rd w Y)):jA R.T (pT Pd f c.1)=false→R.S w:=fun hb=>by
 rw[zAf Pd f _ F]at hb;rcases j with j | ⟨y,z⟩
 ·rw[j]at hb;cases hb
 ·exact⟨fun p hp=>(C.own p (List.mem_append_left _ (y p hp))).1,fun a v hv=>yK (q _ _ (z _ _ hv))⟩
def gv(R:Rg)(i:Nat)(v:Value)(c:Array Bool×List (Nat×Value)):Array Bool×List (Nat×Value):=
 (c.1.setIfInBounds i true,match(zR R.ops i).dst with
  | some d=>(d,v)::c.2
  | none=>c.2)
def gd(R:Rg)(i:Nat):Nat:=(zR R.ops i).dst.getD 0
def gok(R:Rg)(Pd:List Pn)(c:Array Bool×List (Nat×Value))(i:Nat):Bool:=aX R.ops R.T c.1 i&&(chk R.ops c.2 (zR R.ops i) (gd R i) R.n&&pNe Pd i (zR R.ops i).dst)
theorem zPe(i:Nat){v:Value}(y:(∀w,(execOp (evL c.2) (zR R.ops i)).run R.P w= .ok (.value v) w)∨((zIr R.ops R.T i&&!jA R.T c.1)=true∧∀w,R.S w→(execOp (evL c.2) (zR R.ops i)).run R.P w= .ok (.value v) w))
  (k:Gt R Pd (gv R i v c) M r) (J:R.ops[i]?=some (zR R.ops i):=by kernel_rfl) (j:gok R Pd c i=true:=by kernel_rfl):Gt R Pd c M r:=by
 intro z C f e a w Y hb I hp F q;simp only[gok,zd]at j;have G:=j.2.1;simp only[chk,zd]at G;obtain⟨hd,hlt⟩:=qH G.2.2;have hT:i∉R.T:=(rO j.1).2.2.2;refine jCt (i:=i) J (zNu Pd f _ j.2.2 j.1) j.2.1 I (by rw[zAf Pd f _ z];exact y) (hold z C F q) (fun H=>?_)
 rw[←zHz];exact k z (by
  show jA R.T (c.1.setIfInBounds i true)=true∨_;rw[vT hT];exact C) f e (a.put (some (gd R i)) v) w Y hb (by simp only[gv,hd];exact H) (zNf (v:=v) (by rw[hd]) j.2.2 hp) F q
theorem qVm(i:Nat)(k:Gt R Pd (gv R i undef c) M r)(H:R.ops[i]?=some (zR R.ops i):=by kernel_rfl)(j:(aX R.ops R.T c.1 i&&(yY R.ops c.2 (zR R.ops i) false&&bY (zR R.ops i) (gd R i) R.n&&pNe Pd i (zR R.ops i).dst))=true:=by kernel_rfl):Gt R Pd c M r:=by
 intro C y f e a w Y hb G hp z q;simp only[zd]at j;obtain⟨hd,hlt⟩:=qH j.2.1.2;have hT:i∉R.T:=(rO j.1).2.2.2;refine jAm (i:=i) (d:=gd R i) H (zNu Pd f _ j.2.2 j.1) (by simp only[j.2.1.1,j.2.1.2,Bool.and_self]) G (hold C y z q) (fun F=>?_)
 rw[←zHz];exact k C (by
  show jA R.T (c.1.setIfInBounds i true)=true∨_;rw[vT hT];exact y) f e (a.put (some (gd R i)) undef) w Y hb (by simp only[gv,hd];exact F) (zNf (v:=undef) (by rw[hd]) j.2.2 hp) z q
def g1(R:Rg)(Pd:List Pn)(w:World)(i:Nat)(c:Array Bool×List (Nat×Value)):Option ((Array Bool×List (Nat×Value))×World):=
 match R.ops[i]? with
 | none=>none
 | some o=>
  bif aX R.ops R.T c.1 i&&pNe Pd i o.dst then
   match o.dst with
   | none=>none
   | some d=>
    bif Nat.blt d R.n then
     bif yY R.ops c.2 o true then
      bif nM c.2 o then
       match(execOp (evL c.2) o).run R.P w with
       | .ok (.value v) w'=>fv v fun v=>some ((c.1.setIfInBounds i true,(d,v)::c.2),w')
       | _=>none
      else none
     else bif yY R.ops c.2 o false then some ((c.1.setIfInBounds i true,(d,undef)::c.2),w)else none
    else none
  else none
def gc(R:Rg)(Pd:List Pn)(i:Nat)(c:Array Bool×List (Nat×Value)):Array Bool×List (Nat×Value):=match g1 R Pd R.w0 i c with
 | some (c,_)=>c
 | none=>c
def gk(R:Rg)(Pd:List Pn):List Nat→Array Bool×List (Nat×Value)→Array Bool×List (Nat×Value)
 | [],c=>c
 | i::is,c=>gk R Pd is (gc R Pd i c)
theorem jBr{i:Nat}(h:∀w,g1 R Pd w i c=some (gc R Pd i c,w))(k:Gt R Pd (gc R Pd i c) M r):Gt R Pd c M r:=by
 generalize I:gc R Pd i c=c' at h k;clear I;have f:=h R.w0;unfold g1 at h f;cases C:R.ops[i]? with
 | none=>simp[C]at f
 | some o=>
  have j:zR R.ops i=o:=by simp[zR,C]
  simp only[C]at h f;cases ht:aX R.ops R.T c.1 i<;>simp only[ht,Bool.false_and,Bool.true_and,zf,ze]at h f
  ·cases f
  cases hn:pNe Pd i o.dst<;>simp only[hn,zf,ze]at h f
  ·cases f
  cases hd:o.dst with
  | none=>simp[hd]at f
  | some d=>
   simp only[hd]at h f;cases hlt:Nat.blt d R.n<;>simp only[hlt,zf,ze]at h f
   ·cases f
   have q:bY o d R.n=true:=by simp[bY,hd,hlt]
   have z:gd R i=d:=by simp[gd,j,hd]
   cases H:yY R.ops c.2 o true<;>simp only[H,zf,ze]at h f
   ·cases G:yY R.ops c.2 o false<;>simp only[G,zf,ze]at h f
    ·cases f
    cases f;refine qVm i (by simpa[gv,j,hd]using k) (by rw[j];exact C) ?_
    rw[j,z];simp only[ht,G,q,hn,Bool.and_self]
   ·cases F:nM c.2 o<;>simp only[F,zf,ze]at h f
    ·cases f
    cases N:(execOp (evL c.2) o).run R.P R.w0 with
    | halt e w1=>simp[N]at f
    | ok y w1=>
     cases y<;>simp only[N,qDx]at f<;>try cases f
     rename_i v;refine zPe (v:=v) i (.inl fun w=>?_) (by simpa[gv,j,hd]using k) (by rw[j];exact C) ?_
     ·rw[j];have J:=h w;cases O:(execOp (evL c.2) o).run R.P w with
      | halt e w1=>simp[O]at J
      | ok y w1=>
       cases y<;>simp only[O,qDx]at J<;>cases J;rfl
     ·rw[gok,j,z];simp only[chk,ht,H,q,F,hn,Bool.and_self]
inductive GP (R:Rg) (Pd:List Pn):List Nat→Array Bool×List (Nat×Value)→Prop
  | nil {c:Array Bool×List (Nat×Value)}:GP R Pd [] c
  | cons {i:Nat} {is:List Nat} {c:Array Bool×List (Nat×Value)} (h:∀w,g1 R Pd w i c=some (gc R Pd i c,w)) (k:GP R Pd is (gc R Pd i c)):GP R Pd (i::is) c
theorem qEb:∀(is:List Nat){c:Array Bool×List (Nat×Value)},Gt R Pd (gk R Pd is c) M r→GP R Pd is c→Gt R Pd c M r
 | _,_,k,.nil=>k
 | _,_,k,.cons h f=>jBr h (qEb _ k f)
theorem gz(is:List Nat)(k:Gt R Pd (gk R Pd is c) M r)(h:GP R Pd is c:=by repeat (first | exact GP.nil | refine GP.cons (by intro w;kernel_rfl) ?_)):Gt R Pd c M r:=qEb is k h
theorem gl(i:Nat){vs:List Value}{ad:Addr}(hat:At R.r0 ad vs)(k:Gt R Pd (gv R i (ldV (ldG R.P (zR R.ops i)) vs) c) M r)(z:R.ops[i]?=some (zR R.ops i):=by kernel_rfl)(q:gok R Pd c i=true:=by kernel_rfl)
  (hT:(zIr R.ops R.T i&&!jA R.T c.1)=true:=by kernel_rfl)
  (ho:(zR R.ops i).op= .load (zEu (zR R.ops i)) (ldX (zR R.ops i)):=by kernel_rfl) (F:evL c.2 (ldX (zR R.ops i))= .pointer (some ad):=by kernel_rfl) (ht:ldT R.P (zEu (zR R.ops i))=some (ldG R.P (zR R.ops i),vs.length):=by kernel_rfl) (y:(ldG R.P (zR R.ops i)||vs.length==1)=true:=by kernel_rfl):Gt R Pd c M r:=
 zPe i (.inr ⟨hT,fun _ f=>zB ho F ht (by simpa using y) fun j v C=>f.2 _ _ (hat j v C)⟩) k z q
def gow(R:Rg)(c:Array Bool×List (Nat×Value))(i j:Nat):List Value:=((cO R.M0 j).toList.drop (aR (evL c.2 (ldX (zR R.ops i))))).take (ldM R.P (zR R.ops i))
theorem gw(i j:Nat)(k:Gt R Pd (gv R i (ldV (ldG R.P (zR R.ops i)) (gow R c i j)) c) M r)(G:R.ops[i]?=some (zR R.ops i):=by kernel_rfl)(C:gok R Pd c i=true:=by kernel_rfl)
  (hT:(zIr R.ops R.T i&&!jA R.T c.1)=true:=by kernel_rfl)
  (ho:(zR R.ops i).op= .load (zEu (zR R.ops i)) (ldX (zR R.ops i)):=by kernel_rfl) (I:evL c.2 (ldX (zR R.ops i))= .pointer (some ⟨bO R.M0 j,aR (evL c.2 (ldX (zR R.ops i))),none⟩):=by kernel_rfl)
  (ht:ldT R.P (zEu (zR R.ops i))=some (ldG R.P (zR R.ops i),(gow R c i j).length):=by kernel_rfl) (F:(ldG R.P (zR R.ops i)||(gow R c i j).length==1)=true:=by kernel_rfl)
  (H:R.M0[j]?=some (bO R.M0 j,.cells (cO R.M0 j) (tO R.M0 j) (fO R.M0 j)):=by kernel_rfl):Gt R Pd c M r:=
 zPe i (.inr ⟨hT,fun w z=>zB ho I ht (by simpa using F) (by
  have y:=z.1 _ (List.mem_of_getElem? H);intro q v f;rw[jO,cell_of_row w _ _ _ _ _ y];unfold gow at f;rw[List.getElem?_take]at f;split at f
  ·rw[List.getElem?_drop]at f;simpa using f
  ·cases f)⟩) k G C
theorem gH(i:Nat){v:Value}(f:∀w,(execOp (evL c.2) (zR R.ops i)).run R.P w= .ok (.value v) w)(k:Gt R Pd (gv R i v c) M r)(q:R.ops[i]?=some (zR R.ops i):=by kernel_rfl)(j:gok R Pd c i=true:=by kernel_rfl):Gt R Pd c M r:=zPe i (.inl f) k q j
theorem gi(j:Nat){b off len cap:Nat}{kd:IntKind}{i:Int}(m off':Nat)(k:Gt R Pd (gv R j (.pointer (some ⟨b,off',none⟩)) c) M r)(q:0≤i:=by omega)(y:i<len:=by omega)
  (hoff:off+i.toNat*m=off':=by first | rfl | omega | (simp;done) | (simp;omega)) (G:ldS R.P (idE R.P (idT (zR R.ops j)))=m:=by kernel_rfl) (H:evL c.2 (idX (zR R.ops j))= .slice (some ⟨b,off,none⟩) len cap:=by kernel_rfl) (F:evL c.2 (idI (zR R.ops j))= .int kd i:=by kernel_rfl)
  (ho:(zR R.ops j).op= .indexAddr (idT (zR R.ops j)) (idX (zR R.ops j)) (idI (zR R.ops j)):=by kernel_rfl) (ht:R.P.underlying (idT (zR R.ops j))=some (.slice (idE R.P (idT (zR R.ops j)))):=by kernel_rfl)
  (C:ldT R.P (idE R.P (idT (zR R.ops j)))=some (zPs R.P (idE R.P (idT (zR R.ops j))),ldS R.P (idE R.P (idT (zR R.ops j)))):=by kernel_rfl) (f:R.ops[j]?=some (zR R.ops j):=by kernel_rfl) (z:gok R Pd c j=true:=by kernel_rfl):Gt R Pd c M r:=
 gH j (fun w=>jF ho ht H F C q y (by rw[G];exact hoff) w) k f z
def gst(c:Array Bool×List (Nat×Value))(t:Nat)(v:Value):Array Bool×List (Nat×Value):=(c.1,(t,v)::c.2)
def gsl(c:Array Bool×List (Nat×Value))(t:Nat):Option Value:=bif has c.2 t then some (sI c.2 t)else none
theorem qLa(t:Nat){v v':Value}(C:v=v')(h:Gt R Pd (gst c t v') M r)(hv:gsl c t=some v:=by kernel_rfl):Gt R Pd c M r:=by
 intro F q f e a w Y hb y hp z j;unfold gsl at hv;cases hh:has c.2 t<;>simp only[hh,zf,ze]at hv<;>cases hv;exact h F q f e a w Y hb (y.set t hh rfl C) hp z j
theorem gt(t:Nat){p:Prop}[Decidable p](ht:p→Gt R Pd (gst c t (.bool true)) M r)(f:¬p→Gt R Pd (gst c t (.bool false)) M r)(hv:gsl c t=some (.bool (decide p)):=by kernel_rfl):Gt R Pd c M r:=by
 by_cases h:p
 ·exact qLa t (by rw[decide_eq_true h]) (ht h) hv
 ·exact qLa t (by rw[decide_eq_false h]) (f h) hv
theorem gb(t:Nat){b:Bool}(ht:b=true→Gt R Pd (gst c t (.bool true)) M r)(f:b=false→Gt R Pd (gst c t (.bool false)) M r)(hv:gsl c t=some (.bool b):=by kernel_rfl):Gt R Pd c M r:=by
 cases b
 ·exact qLa t rfl (f rfl) hv
 ·exact qLa t rfl (ht rfl) hv
theorem qOv{P:Program}{o:Oper}{a:Act}{w:World}{K:Act→World→Prop}{Q:Exit→Act→World→Prop}(h:o.wp P a w K Q):o.wp P a w (fun a' w'=>K a' w'∧∃v,a'.tmps=(a.put o.dst v).tmps) Q:=by
 unfold Oper.wp at *;generalize (execOp a.eval o).run P w=r at *;cases r with
 | ok n w'=>
  cases n<;>simp only[Oper.upon]at h ⊢
  case value v=>exact⟨h,v,rfl⟩
  case skip=>exact⟨h,undef,rfl⟩
  case defer d=>exact⟨h,undef,by cases o.dst<;>rfl⟩
  case enter f args=>exact Calls.mono h (fun e q j=>by cases e<;>first | exact⟨j,_,rfl⟩ | exact j)
  case row row args=>exact Rows.mono h (fun v _ j=>⟨j,v,rfl⟩)
 | halt x w'=>cases x<;>simp only[Oper.upon]at h ⊢<;>exact h
def LeA(l f:Array Bool):Prop:=∀k,l.getD k false=true→f.getD k false=true
theorem zIe{ops:Array Oper}{l y:Array Bool}{j:Nat}(C:j∈Region.ready .any ops l)(F:LeA l y)(q:y.getD j true=false):j∈Region.ready .any ops y:=by
 rw[mem_ready]at *;obtain⟨_,o,ho,f⟩:=C;exact⟨q,o,ho,fun e z hb=>F _ (f e z hb)⟩
theorem LeA.set{l j:Array Bool}(h:LeA l j)(i:Nat)(hs:l.size=j.size):LeA (l.setIfInBounds i true) (j.setIfInBounds i true):=fun k q=>by
 by_cases f:i=k
 ·subst f;rcases Nat.lt_or_ge i l.size with h' | h'
  ·simp[show i<j.size by omega]
  ·simp[Array.getElem?_eq_none,h']at q
 ·rw[getD_set_ne false f]at q ⊢;exact h k q
theorem LeA.setr{l f:Array Bool}(h:LeA l f)(i:Nat):LeA l (f.setIfInBounds i true):=fun k j=>getD_set_true (h k j)
theorem zXf:∀(Pd:List Pn)(f:Nat→Bool)(l j:Array Bool),l.size=j.size→LeA l j→LeA (pT Pd f l) (lQ Pd j)
 | [],_,_,_,_,h=>h
 | p::ps,f,l,j,hs,h=>by
  simp only[pT,lQ,ze];cases f p.i
  ·exact zXf ps f l _ (by simpa using hs) (h.setr p.i)
  ·exact zXf ps f _ _ (by simpa using hs) (h.set p.i hs)
def zKt(Pd:List Pn)(j:Nat):Prop:=∀p∈Pd,p.i≠j
theorem zHy:∀(Pd:List Pn)(f:Nat→Bool)(l:Array Bool)(j:Nat),zKt Pd j→(pT Pd f l).getD j true=l.getD j true
 | [],_,_,_,_=>rfl
 | p::ps,f,l,j,h=>by
  refine(zHy ps f _ j fun q y=>h q (List.mem_cons_of_mem _ y)).trans ?_;cases f p.i
  ·rfl
  ·exact getD_set_ne true (h p (List.mem_cons_self ..))
theorem qHb:∀(Pd:List Pn)(f:Nat→Bool)(l j:Array Bool),LeA l j→LeA l (pT Pd f j)
 | [],_,_,_,h=>h
 | p::ps,f,l,j,h=>by
  refine qHb ps f l _ ?_;cases f p.i
  ·exact h
  ·exact h.setr p.i
theorem zNg:∀(Pd:List Pn)(f:Nat→Bool)(l:Array Bool)(j:Nat),(pT Pd f l).getD j false=true→l.getD j false=true∨f j=true
 | [],_,_,_,h=> .inl h
 | p::ps,f,l,j,h=>by
  rcases zNg ps f _ j h with h | h
  ·cases hp:f p.i
   ·rw[hp]at h;exact .inl h
   ·rw[hp]at h;by_cases q:p.i=j
    ·exact .inr (q▸hp)
    ·exact .inl (by rwa[ze,getD_set_ne false q]at h)
  ·exact .inr h
theorem qHc:∀(Pd:List Pn)(f:Nat→Bool)(l:Array Bool),∀p∈Pd,f p.i=true→p.i<l.size→(pT Pd f l).getD p.i false=true
 | q::ps,f,l,p,hp,y,hlt=>by
  rcases List.mem_cons.1 hp with rfl | j
  ·refine qHb ps f _ _ (fun _ h=>h) _ ?_;simp[y,hlt]
  ·exact qHc ps f _ p j y (by cases f q.i<;>simpa using hlt)
theorem dB:∀(Pd:List Pn)(f g:Nat→Bool)(l:Array Bool),(∀q∈Pd,f q.i=g q.i)→pT Pd f l=pT Pd g l
 | [],_,_,_,_=>rfl
 | p::ps,f,g,l,h=>by
  simp only[pT];rw[h p (List.mem_cons_self ..)];exact dB ps f g _ fun q j=>h q (List.mem_cons_of_mem _ j)
theorem zHx:∀(Pd:List Pn)(f g:Nat→Bool)(e j:Nat→Nat),(∀q∈Pd,f q.i=g q.i∧(f q.i=true→e q.i=j q.i∧q.loc e=q.loc j))→pM Pd f e=pM Pd g j
 | [],_,_,_,_,_=>rfl
 | p::ps,f,g,e,j,h=>by
  simp only[pM];rw[zHx ps f g e j fun q H=>h q (List.mem_cons_of_mem _ H)];obtain⟨y,z⟩:=h p (List.mem_cons_self ..);rw[←y];cases G:f p.i
  ·rfl
  ·obtain⟨C,F⟩:=z G;rw[C,F]
def bV:List Pn→Bool
 | []=>true
 | p::ps=>pNe ps p.i (some p.d)&&bV ps
theorem vH{Pd:List Pn}{i d:Nat}(h:pNe Pd i (some d)=true):∀q∈Pd,q.i≠i∧q.d≠d:=fun q f=>by
 have:=List.all_eq_true.1 h q f;simpa using this
theorem zHv:∀{Pd:List Pn},bV Pd=true→∀p∈Pd,∀q∈Pd,p.i=q.i∨p.d=q.d→p=q
 | x::ps,h,p,hp,q,C,f=>by
  simp only[bV,zd]at h;by_cases z:p=x
  ·by_cases j:q=x
   ·rw[z,j]
   ·have:=vH h.1 q ((List.mem_cons.1 C).resolve_left j);rw[z]at f;rcases f with f | f
    ·exact absurd f.symm this.1
    ·exact absurd f.symm this.2
  ·have y:=(List.mem_cons.1 hp).resolve_left z;by_cases j:q=x
   ·have:=vH h.1 p y;rw[j]at f;rcases f with f | f
    ·exact absurd f this.1
    ·exact absurd f this.2
   ·exact zHv h.2 p y q ((List.mem_cons.1 C).resolve_left j) f
def cnt(Pd:List Pn)(f:Nat→Bool):Nat:=Pd.countP fun p=>!f p.i
def nb(p:Pn)(e:Nat→Nat):List (Nat×Obj):=match p.ob with
 | some o=>[(e p.i,o (p.loc e))]
 | none=>[]
theorem zTn{q:Pn}{f:Nat→Bool}{e:Nat→Nat}{j b:Nat}(h:∀k,f (q.deps.getD k q.i)=true)(y:f j=false):q.loc (up e j b)=q.loc e:=funext fun k=>sZ e b fun z=>by rw[←z,h k]at y;cases y
theorem qRh{f:Nat→Bool}{p:Pn}:∀{Pd:List Pn}{l:Array Bool},bV Pd=true→p∈Pd→pT Pd (up f p.i true) l=(pT Pd f l).setIfInBounds p.i true
 | q::ps,l,hd,hp=>by
  simp only[bV,zd]at hd;simp only[pT];by_cases y:p=q
  ·subst y;rw[wP,ze,dB ps (up f p.i true) f _ fun x z=>sZ f true (vH hd.1 x z).1,←zHz];cases f p.i
   ·rfl
   ·simp
  ·have j:p∈ps:=(List.mem_cons.1 hp).resolve_left y;rw[sZ f true (fun e=>(vH hd.1 p j).1 e.symm)];exact qRh hd.2 j
theorem qRg{f:Nat→Bool}{e:Nat→Nat}{p:Pn}{b:Nat}(F:f p.i=false):∀{Pd:List Pn},bV Pd=true→pCl Pd f→p∈Pd→(pM Pd (up f p.i true) (up e p.i b)).Perm (nb p (up e p.i b)++pM Pd f e)
 | q::ps,hd,j,hp=>by
  simp only[bV,zd]at hd;simp only[pM];by_cases H:p=q
  ·subst H;rw[wP f,ze,F,zf,List.nil_append,zHx ps (up f p.i true) f (up e p.i b) e fun x y=>⟨sZ f true (vH hd.1 x y).1,fun h=>⟨sZ e b (vH hd.1 x y).1,zTn (j x (List.mem_cons_of_mem _ y) (by rwa[sZ f true (vH hd.1 x y).1]at h)).2 F⟩⟩]
   exact List.Perm.refl _
  ·have C:p∈ps:=(List.mem_cons.1 hp).resolve_left H;have z:q.i≠p.i:=fun e=>(vH hd.1 p C).1 e.symm;have I:=qRg (e:=e) (b:=b) F hd.2 (fun x y=>j x (List.mem_cons_of_mem _ y)) C;rw[sZ f true z];cases G:f q.i
   ·simpa using I
   ·rw[sZ e b z,zTn (j q (List.mem_cons_self ..) G).2 F];refine(I.append_left _).trans ?_;rw[←List.append_assoc,←List.append_assoc];exact List.perm_append_comm.append_right _
theorem qYy{a a':Act}{f:Nat→Bool}{e:Nat→Nat}{p:Pn}{b:Nat}{Pd:List Pn}(hd:bV Pd=true)(C:pCl Pd f)(hp:p∈Pd)(H:f p.i=false)(hlt:p.d<a.tmps.size)(ha:a'.tmps=(a.put (some p.d) (p.val (up e p.i b))).tmps)(h:pOk a Pd f e):pOk a' Pd (up f p.i true) (up e p.i b):=fun q G F=>by
 rw[ha];show(a.tmps.setIfInBounds p.d _)[q.d]?=_;by_cases z:p=q
 ·subst z;simp[hlt]
 ·have y:¬(p.i=q.i∨p.d=q.d):=fun e=>z (zHv hd p hp q G e);have j:f q.i=true:=by rwa[sZ f true (fun e=>y (.inl e.symm))]at F
  rw[Array.getElem?_setIfInBounds_ne (fun e=>y (.inr e)),h q G j];unfold Pn.val;rw[zTn (C q G j).2 H]
theorem qCs{f:Nat→Bool}{p:Pn}:∀{Pd:List Pn},bV Pd=true→p∈Pd→f p.i=false→cnt Pd (up f p.i true)+1=cnt Pd f
 | q::ps,hd,hp,y=>by
  simp only[bV,zd]at hd;unfold cnt;simp only[List.countP_cons];by_cases z:p=q
  ·subst z;have:ps.countP (fun x=>!up f p.i true x.i)=ps.countP (fun x=>!f x.i):=List.countP_congr fun x C=>by rw[sZ f true (vH hd.1 x C).1]
   rw[this,wP,y];simp
  ·have j:p∈ps:=(List.mem_cons.1 hp).resolve_left z;have F:=qCs hd.2 j y;unfold cnt at F;rw[sZ f true (fun e=>(vH hd.1 p j).1 e.symm)];omega
theorem Fr.put_ne{n:Nat}{a:Act}{L:List (Nat×Value)}{D:List Deferred}(h:Fr n a L D){d:Nat}(hd:has L d=false)(v:Value):Fr n (a.put (some d) v) L D:=by
 refine⟨by simpa[Act.put]using h.size,h.defers,fun t ht=>?_⟩
 have f:d≠t:=fun e=>by subst e;rw[hd]at ht;cases ht
 show(a.tmps.setIfInBounds d v)[t]?=_;rw[Array.getElem?_setIfInBounds_ne f];exact h.get t ht
def pS(Pd:List Pn)(e:Nat→Nat):List (Nat×Value):=match Pd with
 | []=>[]
 | p::ps=>(p.d,p.val e)::pS ps e
def wto(o:Oper)(j:Nat):Bool:=o.after.any fun e=>Region.binds .any e&&e.on==j
def zMu(R:Rg)(c:Array Bool×List (Nat×Value))(Pd:List Pn)(p:Pn):Bool:=
 (yY R.ops c.2 (zR R.ops p.i) true&&(bY (zR R.ops p.i) p.d R.n&&(!has c.2 p.d&&!c.1.getD p.i true)))&&
 (p.deps.all (fun j=>j==p.i||((wto (zR R.ops p.i) j&&!c.1.getD j true)||Pd.any fun q=>wto (zR R.ops p.i) q.i&&q.deps.contains j))&&
 (zR R.ops p.i).op.operands.toList.all fun x=>match x with
  | .tmp t=>Pd.all fun q=>!(q.d==t)||wto (zR R.ops p.i) q.i
  | _=>true)
def zNv(R:Rg)(l:Array Bool):List Nat→List Pn→Bool
 | _,[]=>true
 | es,p::ps=>(zR R.ops p.i).after.all (fun e=>!Region.binds .any e||(l.getD e.on false||es.contains e.on))&&zNv R l (p.i::es) ps
inductive kP (R:Rg) (c:Array Bool×List (Nat×Value)) (Pd:List Pn):List Pn→Prop
  | nil:kP R c Pd []
  | cons {p:Pn} {ps:List Pn} (hb:zMu R c Pd p=true) (hi:R.ops[p.i]?=some (zR R.ops p.i)) (ho:∀e,nM (pS Pd e++c.2) (zR R.ops p.i)=true)
      (hr:∀e w,(execOp (evL (pS Pd e++c.2)) (zR R.ops p.i)).run R.P w= .ok (.value (p.val (up e p.i w.heap.size))) (match p.ob with
        | none=>w
        | some o=>w.alloc (o (p.loc (up e p.i w.heap.size))))) (k:kP R c Pd ps):kP R c Pd (p::ps)
theorem kP.k{Pd ps:List Pn}{p:Pn}(k:kP R c Pd ps)(hb:zMu R c Pd p=true:=by kernel_rfl)(f:R.ops[p.i]?=some (zR R.ops p.i):=by kernel_rfl)(ho:∀e,nM (pS Pd e++c.2) (zR R.ops p.i)=true:=by intro e;kernel_rfl)
  (hr:∀e w,(execOp (evL (pS Pd e++c.2)) (zR R.ops p.i)).run R.P w= .ok (.value (p.val (up e p.i w.heap.size))) (match p.ob with
    | none=>w
    | some o=>w.alloc (o (p.loc (up e p.i w.heap.size)))):=by intro e w;kernel_rfl):kP R c Pd (p::ps):= .cons hb f ho hr k
theorem kP.get{Pd:List Pn}:∀{ps:List Pn},kP R c Pd ps→∀p∈ps,zMu R c Pd p=true∧R.ops[p.i]?=some (zR R.ops p.i)∧(∀e,nM (pS Pd e++c.2) (zR R.ops p.i)=true)∧
  ∀e w,(execOp (evL (pS Pd e++c.2)) (zR R.ops p.i)).run R.P w= .ok (.value (p.val (up e p.i w.heap.size))) (match p.ob with
    | none=>w
    | some o=>w.alloc (o (p.loc (up e p.i w.heap.size))))
 | _,.cons hb f ho hr k,p,hp=>by
  rcases List.mem_cons.1 hp with rfl | hp
  ·exact⟨hb,f,ho,hr⟩
  ·exact k.get p hp
theorem zWh{n:Nat}{a:Act}{L:List (Nat×Value)}{D:List Deferred}(f:Fr n a L D){e:Nat→Nat}{t:Nat}:∀{ps:List Pn},(∀q∈ps,q.d=t→a.tmps[t]?=some (q.val e))→has (pS ps e++L) t=true→a.tmps[t]?=some (sI (pS ps e++L) t)
 | [],_,hh=>f.get t hh
 | p::ps,h,hh=>by
  simp only[pS,List.cons_append,has,sI]at hh ⊢;cases hb:Nat.beq p.d t with
  | true=>exact h p (List.mem_cons_self ..) (Nat.eq_of_beq_eq_true hb)
  | false=>
   rw[hb]at hh;exact zWh f (fun q j=>h q (List.mem_cons_of_mem _ j)) hh
theorem qIt{ops:Array Oper}{l:Array Bool}{i j:Nat}{o:Oper}(ho:ops[i]?=some o)(hr:i∈Region.ready .any ops l)(h:wto o j=true):l.getD j false=true:=by
 obtain⟨_,o',q,f⟩:=mem_ready.1 hr;obtain rfl:o'=o:=Option.some.inj (q.symm.trans ho);obtain⟨e,y,hb⟩:=Array.any_eq_true'.1 h;simp only[zd,beq_iff_eq]at hb;exact hb.2▸f e y hb.1
theorem zAq{l:Array Bool}{j:Nat}(h:l.getD j true=false):l.getD j false=false∧j<l.size:=by
 rcases Nat.lt_or_ge j l.size with h' | h'
 ·exact⟨by simpa[h']using h,h'⟩
 ·simp[Array.getElem?_eq_none h']at h
theorem nrun{f:Nat→Bool}{e:Nat→Nat}{a:Act}{w:World}{Pd:List Pn}{p:Pn}{K:Act→World→Prop}(hPd:kP R c Pd Pd)(hp:p∈Pd)(W:pCl Pd f)(V:Fr R.n a c.2 R.D)(hok:pOk a Pd f e)(hr:p.i∈Region.ready .any R.ops (pT Pd f c.1))
  (hK:(∀k,up f p.i true (p.deps.getD k p.i)=true)→p.d<a.tmps.size→has c.2 p.d=false→K (a.put (some p.d) (p.val (up e p.i w.heap.size))) (match p.ob with
    | none=>w
    | some o=>w.alloc (o (p.loc (up e p.i w.heap.size))))):wpOp R.P R.ops (vZ R.Q) p.i K a w:=by
 obtain⟨q1,q2,q3,q4⟩:=hPd.get p hp;simp only[zMu,zd]at q1;obtain⟨⟨hw,hd,hno,hun⟩,O,S⟩:=q1;obtain⟨hd1,hlt⟩:=qH hd;have y:∀j,wto (zR R.ops p.i) j=true→c.1.getD j true=false→f j=true:=fun j I J=>by
  rcases zNg Pd f c.1 j (qIt q2 hr I)with h | h
  ·rw[(zAq J).1]at h;cases h
  ·exact h
 have N:∀k,up f p.i true (p.deps.getD k p.i)=true:=fun k=>by
  rcases Nat.lt_or_ge k p.deps.length with U | U
  ·have hm:p.deps.getD k p.i∈p.deps:=by rw[zh,List.getElem?_eq_getElem U];exact List.getElem_mem U
   have:=List.all_eq_true.1 O _ hm;simp only[Bool.or_eq_true,beq_iff_eq,zd,Bool.not_eq_true']at this;by_cases G:p.deps.getD k p.i=p.i
   ·rw[G,wP]
   ·rw[sZ f true G];rcases this with h | ⟨I,J⟩ | h
    ·exact absurd h G
    ·exact y _ I J
    ·rw[List.any_eq_true]at h;obtain⟨q,H,F⟩:=h;simp only[zd,List.contains_iff_mem]at F;have C:=(hPd.get q H).1;simp only[zMu,zd,Bool.not_eq_true']at C;have hfq:=y q.i F.1 C.1.2.2.2;obtain⟨k',hk',he'⟩:=List.getElem_of_mem F.2;have:=(W q H hfq).2 k';rwa[zh,List.getElem?_eq_getElem hk',Option.getD_some,he']at this
  ·rw[zh,List.getElem?_eq_none U];exact wP ..
 unfold wpOp;simp only[q2];rw[if_pos (V.wanted hw)];refine .inl ?_;have z:=q3 e;simp only[nM,zd]at z;have hex:execOp a.eval (zR R.ops p.i)=execOp (evL (pS Pd e++c.2)) (zR R.ops p.i):=execOp_congr _ (lK z.1) fun x hx=>by
  have T:x∈(zR R.ops p.i).op.operands.toList:=by simpa using hx
  have Z:=fD z.2 x T;cases x with
  | tmp t=>
   have I:=List.all_eq_true.1 S _ T;have J:a.tmps[t]?=some (sI (pS Pd e++c.2) t):=zWh V (fun q H G=>by
    have h3:=List.all_eq_true.1 I q H;simp only[Bool.or_eq_true,Bool.not_eq_true',beq_eq_false_iff_ne]at h3;have h4:=h3.resolve_left (fun h=>h G);have C:=(hPd.get q H).1;simp only[zMu,zd,Bool.not_eq_true']at C;rw[←G];exact hok q H (y q.i h4 C.1.2.2.2)) Z
   show a.tmps.getD t undef=_;simp[J,evL]
  | _=>rfl
 unfold Oper.wp;rw[hex,q4 e w];show K (a.put (zR R.ops p.i).dst _) _;rw[hd1];exact hK N (by rw[V.size];exact hlt) (by simpa using hno)
theorem zMg(stop:(Nat→Bool)→Bool)(W:∀f,(∀p∈Pd,f p.i=true)→stop f=true)(hPd:kP R c Pd Pd)(z:(bV Pd&&zNv R c.1 [] Pd.reverse)=true)
  (hne:∀f e a w Y,pCl Pd f→Fr R.n a c.2 R.D→pOk a Pd f e→St R.E R.w0 R.X w Y (M++pM Pd f e)→Le r (rd w Y)→
   (stop f=false→∀j∈Region.ready .any R.ops (pT Pd f c.1),zKt Pd j→wpOp R.P R.ops (vZ R.Q) j (fun a' w'=>(jA R.T ((pT Pd f c.1).setIfInBounds j true)=false→R.S w')∧wpU R ((pT Pd f c.1).setIfInBounds j true) a' w') a w)∧
   (stop f=true→wpU R (pT Pd f c.1) a w))
  (hf:aB R.T Pd=true) (h0:jA R.T c.1=true∨((∀p∈R.M0,p∈M)∧Le R.r0 r)):
  ∀(m:Nat)(f:Nat→Bool)(e:Nat→Nat)(a:Act)(w:World)(Y:Hid),cnt Pd f=m→pCl Pd f→Fr R.n a c.2 R.D→pOk a Pd f e→St R.E R.w0 R.X w Y (M++pM Pd f e)→Le r (rd w Y)→wpU R (pT Pd f c.1) a w:=by
 simp only[zd]at z;intro m;induction m using Nat.strongRecOn with
 | _ m ih=>
  intro f e a w Y hm I hF hp hS O;obtain⟨h1,h2⟩:=hne f e a w Y I hF hp hS O;cases J0:stop f
  case true=>exact h2 J0
  have hr:Region.ready .any R.ops (pT Pd f c.1)≠[]:=by
   have key:∀(ps:List Pn)(es:List Nat),zNv R c.1 es ps=true→(∀x∈es,∃q∈Pd,q.i=x∧f x=true)→(∀p∈ps,p∈Pd)→(∃p∈ps,f p.i=false)→∃p∈Pd,p.i∈Region.ready .any R.ops (pT Pd f c.1):=by
    intro ps;induction ps with
    | nil=>rintro es _ _ _ ⟨p,hp,_⟩;cases hp
    | cons q ps ihp=>
     rintro es ht hes N ⟨p,hp,C⟩;simp only[zNv,zd]at ht;have V:q∈Pd:=N q (List.mem_cons_self ..);cases H:f q.i with
     | true=>
      refine ihp (q.i::es) ht.2 (fun x Z=>?_) (fun p hp=>N p (List.mem_cons_of_mem _ hp)) ⟨p,?_,C⟩
      ·rcases List.mem_cons.1 Z with rfl | Z
       ·exact⟨q,V,rfl,H⟩
       ·exact hes x Z
      ·refine(List.mem_cons.1 hp).resolve_left fun e=>?_;rw[e,H]at C;cases C
     | false=>
      refine⟨q,V,mem_ready.2 ⟨?_,_,(hPd.get q V).2.1,fun x Z hb=>?_⟩⟩
      ·have hqc:=(hPd.get q V).1;simp only[zMu,zd,Bool.not_eq_true']at hqc;have hun:=zAq hqc.1.2.2.2;cases hg:(pT Pd f c.1).getD q.i false with
       | true=>
        rcases zNg Pd f c.1 q.i hg with h | h
        ·rw[hun.1]at h;cases h
        ·rw[H]at h;cases h
       | false=>
        have hsz:∀(ps:List Pn)(l:Array Bool),(pT ps f l).size=l.size:=by
         intro ps;induction ps with
         | nil=>intro l;rfl
         | cons y ps ihs=>intro l;simp only[pT];rw[ihs];cases f y.i<;>simp
        have hlt:q.i<(pT Pd f c.1).size:=by rw[hsz];exact hun.2
        simpa[hlt]using hg
      ·have:=Array.all_eq_true_iff_forall_mem.1 ht.1 x Z;simp only[hb,Bool.not_true,Bool.false_or,Bool.or_eq_true,List.contains_iff_mem]at this;rcases this with h | h
       ·exact qHb Pd f c.1 c.1 (fun _ h=>h) _ h
       ·obtain⟨y,hy,hyx,hfy⟩:=hes _ h;have hyc:=(hPd.get y hy).1;simp only[zMu,zd,Bool.not_eq_true']at hyc;rw[←hyx]at hfy ⊢;exact qHc Pd f c.1 y hy hfy (zAq hyc.1.2.2.2).2
   by_cases hex:∃p∈Pd,f p.i=false
   ·obtain⟨p,_,hpr⟩:=key Pd.reverse [] z.2 (fun x Z=>by cases Z) (fun p hp=>List.mem_reverse.1 hp) (hex.imp fun p h=>⟨List.mem_reverse.2 h.1,h.2⟩)
    intro h;rw[h]at hpr;cases hpr
   ·rw[W f fun p hp=>by
     cases C:f p.i
     ·exact absurd ⟨p,hp,C⟩ hex
     ·rfl]at J0
    cases J0
  refine qIj hr fun j hj=>?_;by_cases hin:zKt Pd j
  ·exact h1 J0 j hj hin
  ·obtain⟨p,G,hpj⟩:∃p∈Pd,p.i=j:=by
    apply Classical.byContradiction;intro U;exact hin fun p hp e=>U ⟨p,hp,e⟩
   subst hpj;have C:f p.i=false:=by
    cases C:f p.i
    ·rfl
    ·have hpc:=(hPd.get p G).1;simp only[zMu,zd,Bool.not_eq_true']at hpc;have:=qHc Pd f c.1 p G C (zAq hpc.1.2.2.2).2;have h9:=(zAq (mem_ready.1 hj).1).1;rw[this]at h9;cases h9
   refine nrun hPd G I hF hp hj fun hk hlt U=>?_;have hcl2:pCl Pd (up f p.i true):=fun q V H=>⟨H,by
    by_cases hqp:q.i=p.i
    ·obtain rfl:=zHv z.1 q V p G (.inl hqp);exact hk
    ·have hfq':f q.i=true:=by rwa[sZ f true hqp]at H
     intro k;have:=(I q V hfq').2 k;by_cases he:q.deps.getD k q.i=p.i
     ·rw[he,wP]
     ·rw[sZ f true he];exact this⟩
   have hp2:=qYy (e:=e) (b:=w.heap.size) z.1 I G C hlt (a':=a.put (some p.d) (p.val (up e p.i w.heap.size))) rfl hp;have G2:=hF.put_ne U (p.val (up e p.i w.heap.size));have hcnt:=qCs z.1 G C;have F:=qRg (e:=e) (b:=w.heap.size) C z.1 I G;rw[←qRh z.1 G];have hgo:∀w' Y',St R.E R.w0 R.X w' Y' (M++pM Pd (up f p.i true) (up e p.i w.heap.size))→Le r (rd w' Y')→(jA R.T (pT Pd (up f p.i true) c.1)=false→R.S w')∧wpU R (pT Pd (up f p.i true) c.1) (a.put (some p.d) (p.val (up e p.i w.heap.size))) w':=fun w' Y' hS' J=>⟨hold hf h0 hS' J,ih _ (by omega) _ _ _ _ _ rfl hcl2 G2 hp2 hS' J⟩
   cases A:p.ob with
   | none=>
    simp only;refine hgo w Y (hS.perm ?_) O;simp only[nb,A,List.nil_append]at F;exact F.append_left M
   | some o=>
    simp only;refine hgo _ _ ((hS.alloc (o (p.loc (up e p.i w.heap.size)))).perm ?_) (O.trans (Le.hide_new _));simp only[nb,A,wP]at F;exact(F.append_left M).trans List.perm_middle
theorem g_op(i:Nat)(h:∀a w Y B,Fr R.n a c.2 R.D→St R.E R.w0 R.X w Y (M++B)→Le r (rd w Y)→(zR R.ops i).wp R.P a w (fun a' w'=>∃Z N r' Y',Fr R.n a' Z R.D∧St R.E R.w0 R.X w' Y' (N++B)∧Le r' (rd w' Y')∧
   (jA R.T (c.1.setIfInBounds i true)=true∨(((∀p∈R.M0,p∈M)→∀p∈R.M0,p∈N)∧Le r r'))∧Gt R Pd (c.1.setIfInBounds i true,Z) N r') (vZ R.Q))
  (hPd:kP R c Pd Pd) (V:(bV Pd&&zNv R c.1 [] Pd.reverse)=true:=by kernel_rfl) (hi:R.ops[i]?=some (zR R.ops i):=by kernel_rfl) (hr:Region.ready .any R.ops (lQ Pd c.1)=[i]:=by kernel_rfl) (hw:(yY R.ops c.2 (zR R.ops i) true&&pNe Pd i (zR R.ops i).dst)=true:=by kernel_rfl):Gt R Pd c M r:=by
 intro hf h0 f e a w Y hb F hp I y;simp only[zd]at hw;have z:zKt Pd i:=fun p hp=>by
  have:=List.all_eq_true.1 hw.2 p hp;simp only[zd,Bool.not_eq_true',beq_eq_false_iff_ne]at this;exact this.1
 have main:∀f e a w Y,pCl Pd f→Fr R.n a c.2 R.D→pOk a Pd f e→St R.E R.w0 R.X w Y (M++pM Pd f e)→Le r (rd w Y)→∀j∈Region.ready .any R.ops (pT Pd f c.1),zKt Pd j→
   wpOp R.P R.ops (vZ R.Q) j (fun a' w'=>(jA R.T ((pT Pd f c.1).setIfInBounds j true)=false→R.S w')∧wpU R ((pT Pd f c.1).setIfInBounds j true) a' w') a w:=by
  intro f e a w Y hb F hp I y j J z;have G:j=i:=by
   have:j∈Region.ready .any R.ops (lQ Pd c.1):=zIe J (zXf Pd f c.1 c.1 rfl (fun _ h=>h)) (by rw[lQ,zHy Pd _ c.1 j z,←zHy Pd f c.1 j z];exact(mem_ready.1 J).1)
   rw[hr]at this;simpa using this
  subst G;unfold wpOp;simp only[hi];rw[if_pos (F.wanted hw.1)];refine .inl (Oper.wp_mono ?_ (qOv (h a w Y (pM Pd f e) F I y)));rintro a' w' ⟨⟨Z,N,r',Y',hF',U,C,H,hG⟩,v,hv⟩;have hp':=zNf (i:=j) hv hw.2 hp;have O:jA R.T (c.1.setIfInBounds j true)=true∨((∀p∈R.M0,p∈N)∧Le R.r0 r'):=by
   rcases H with H | ⟨h1,h2⟩
   ·exact .inl H
   ·rcases h0 with h0 | ⟨h3,h4⟩
    ·exact .inl (zGg h0)
    ·exact .inr ⟨h1 h3,h4.trans h2⟩
  rw[←zHz];exact⟨hold (c:=(c.1.setIfInBounds j true,Z)) hf O U C,hG hf O f e a' w' Y' hb hF' hp' U C⟩
 refine zMg (fun f=>Pd.all fun p=>f p.i) (fun f h=>List.all_eq_true.2 h) hPd V (fun f e a w Y hb F hp I y=>⟨fun _=>main f e a w Y hb F hp I y,fun hc=>?_⟩) hf h0 (cnt Pd f) f e a w Y rfl hb F hp I y;have W:pT Pd f c.1=lQ Pd c.1:=dB Pd f _ c.1 fun q hq=>List.all_eq_true.1 hc q hq;refine qIj (by rw[W,hr];simp) fun j J=>?_
 have G:j=i:=by rw[W,hr]at J;simpa using J
 exact main f e a w Y hb F hp I y j J (G▸z)
structure SzLe(w0 w:World):Prop where
 size:w0.heap.size≤w.heap.size
structure YLt(w0:World)(Y:Hid)(w:World):Prop where
 upd:SzLe w0 w
 lt:∀k o,Y k o→k<w.heap.size
def gV(R:Rg)(c:Array Bool×List (Nat×Value))(i:Nat):Option (FuncId×Array Value):=match evL c.2 (clF (zR R.ops i))with
 | .func (.func f) t cap=>bif t.isEmpty then some (f,(clA (zR R.ops i)).map (evL c.2)++cap)else none
 | _=>none
theorem qKy{i:Nat}{f:FuncId}{vs:Array Value}(h:gV R c i=some (f,vs)):∃cap,evL c.2 (clF (zR R.ops i))= .func (.func f) #[] cap∧(clA (zR R.ops i)).map (evL c.2)++cap=vs:=by
 unfold gV at h;split at h
 ·rename_i q t cap j;cases ht:t.isEmpty<;>simp only[ht,ze,zf]at h<;>cases h;obtain rfl:t=#[]:=by simpa using ht
  exact⟨cap,j,rfl⟩
 ·cases h
theorem gC(i:Nat){f:FuncId}{vs:Array Value}{Φ:World→Hid→World→Value→Prop}(q:∀w Y B,St R.E R.w0 R.X w Y (M++B)→Le r (rd w Y)→Calls R.P f vs w (Ret E0 w (Φ w Y)))
  (k:∀v w Y w1,YLt R.w0 Y w→Le r (rd w1 Y)→Φ w Y w1 v→Gt R Pd (gv R i v c) M (rd w1 Y))
  (hPd:kP R c Pd Pd:=by exact kP.nil) (hv:gV R c i=some (f,vs):=by kernel_rfl) (C:(opk c.2 (zR R.ops i) (gd R i) R.n&&!R.T.contains i)=true:=by kernel_rfl) (ho:(zR R.ops i).op= .call {callee:= .value (clF (zR R.ops i)),args:=clA (zR R.ops i),argTypes:=clT (zR R.ops i)}:=by kernel_rfl)
  (hcall:∀w,(callFunc f vs).run R.P w= .ok (.enter f vs) w:=by intro w;kernel_rfl) (y:(bV Pd&&zNv R c.1 [] Pd.reverse)=true:=by kernel_rfl) (O:R.ops[i]?=some (zR R.ops i):=by kernel_rfl) (hr:Region.ready .any R.ops (lQ Pd c.1)=[i]:=by kernel_rfl)
  (S:(yY R.ops c.2 (zR R.ops i) true&&pNe Pd i (zR R.ops i).dst)=true:=by kernel_rfl):Gt R Pd c M r:=by
 obtain⟨cap,N,ha⟩:=qKy hv;simp only[zd]at C;have hd:(zR R.ops i).dst=some (gd R i):=by
  have:=C.1;simp only[opk,zd]at this;exact(qH this.2).1
 refine g_op i (fun a w Y B J z j=>?_) hPd y O hr S;refine kC J C.1 z ho N ha hcall (q w Y B z j) fun v w1 H F _ I a1 G=>?_;have:=k v w Y w1 ⟨⟨z.upd.size⟩,z.lt⟩ (j.trans F) I;refine⟨_,M,rd w1 Y,Y,G,H,Le.refl _,.inr ⟨fun h=>h,j.trans F⟩,?_⟩;simpa only[gv,hd]using this
theorem gp(p:Pn)(h:Gt R (p::Pd) c M r)(hp:(!R.T.contains p.i&&(!c.1.getD p.i true&&Pd.all fun q=>!(q.i==p.i)&&!q.deps.contains p.i))=true:=by kernel_rfl):Gt R Pd c M r:=by
 intro V N f e a w Y hb O I S F;simp only[zd,Bool.not_eq_true']at hp;have H:∀q∈Pd,q.i≠p.i:=fun q j=>by
  have:=List.all_eq_true.1 hp.2.2 q j;simp only[zd,Bool.not_eq_true',beq_eq_false_iff_ne]at this;exact this.1
 have G:∀q∈Pd,∀k,q.deps.getD k q.i≠p.i:=fun q j k=>by
  have:=List.all_eq_true.1 hp.2.2 q j;simp only[zd,Bool.not_eq_true',beq_eq_false_iff_ne]at this;rcases Nat.lt_or_ge k q.deps.length with C | C
  ·rw[zh,List.getElem?_eq_getElem C];intro U;have W:p.i∈q.deps:=by rw[←U];exact List.getElem_mem C
   have J:=this.2;rw[←Bool.not_eq_true,List.contains_iff_mem]at J;exact J W
  ·rw[zh,List.getElem?_eq_none C];exact this.1
 have z:∀q∈Pd,f q.i=up f p.i false q.i:=fun q j=>(sZ f false (H q j)).symm;have:=h (by simp only[aB,List.all_cons,hp.1,Bool.not_false,Bool.true_and];exact V) N (up f p.i false) e a w Y (fun q j y=>by
  rcases List.mem_cons.1 j with rfl | j
  ·rw[wP]at y;cases y
  ·refine⟨y,fun k=>?_⟩;rw[sZ f false (G q j k)];exact(hb q j (by rwa[z q j])).2 k) O (fun q j y=>by
  rcases List.mem_cons.1 j with rfl | j
  ·rw[wP]at y;cases y
  ·exact I q j (by rwa[z q j])) (by
  simp only[pM,wP,zf,List.nil_append];rw[zHx Pd (up f p.i false) f e e fun q j=>⟨(z q j).symm,fun _=>⟨rfl,rfl⟩⟩];exact S) F
 simp only[pT,wP,zf]at this;rwa[dB Pd (up f p.i false) f c.1 fun q j=>(z q j).symm]at this
theorem Fr.cons{n:Nat}{a:Act}{L:List (Nat×Value)}{D:List Deferred}(h:Fr n a L D){d:Nat}{v:Value}(hd:a.tmps[d]?=some v):Fr n a ((d,v)::L) D:=by
 refine⟨h.size,h.defers,fun t ht=>?_⟩;simp only[has,sI]at *;cases hb:Nat.beq d t with
 | true=>obtain rfl:=Nat.eq_of_beq_eq_true hb;simpa using hd
 | false=>rw[hb]at ht;simpa using h.get t (by simpa using ht)
def pB:List Pn→(Nat→Nat)→List (Nat×Obj)
 | [],_=>[]
 | p::ps,e=>match p.ob with
  | some o=>(e p.i,o (p.loc e))::pB ps e
  | none=>pB ps e
theorem qGw:∀(Pd:List Pn)(f:Nat→Bool)(e:Nat→Nat),(∀p∈Pd,f p.i=true)→pM Pd f e=pB Pd e
 | [],_,_,_=>rfl
 | p::ps,f,e,h=>by
  simp only[pM,pB,h p (List.mem_cons_self ..),ze,qGw ps f e fun q j=>h q (List.mem_cons_of_mem _ j)];cases p.ob<;>rfl
def gfl(R:Rg)(Pd:List Pn)(l:Array Bool):Bool:=Pd.all fun p=>(Region.ready .any R.ops (lQ (Pd.filter fun q=>!(q.i==p.i)) l)).all fun j=>Pd.any fun q=>q.i==j
theorem zNh{x:Nat}:∀(Pd:List Pn)(f:Nat→Bool)(l j:Array Bool),l.size=j.size→f x=false→LeA l j→LeA (pT Pd f l) (lQ (Pd.filter fun q=>!(q.i==x)) j)
 | [],_,_,_,_,_,h=>h
 | p::ps,f,l,j,hs,y,h=>by
  simp only[pT];by_cases hp:p.i=x
  ·simp only[List.filter_cons,hp,beq_self_eq_true,Bool.not_true,Bool.false_eq_true,if_false,y,zf];exact zNh ps f l j hs y h
  ·simp only[List.filter_cons,show(p.i==x)=false by simpa using hp,Bool.not_false,if_true,lQ,pT,ze]
   cases f p.i
   ·exact zNh ps f _ _ (by simpa using hs) y (h.setr p.i)
   ·exact zNh ps f _ _ (by simpa using hs) y (h.set p.i hs)
theorem ge(k:∀e:Nat→Nat,Gt R [] (lQ Pd c.1,pS Pd e++c.2) (pB Pd e++M) r)(hPd:kP R c Pd Pd)(hc:(bV Pd&&zNv R c.1 [] Pd.reverse)=true:=by kernel_rfl)(O:gfl R Pd c.1=true:=by kernel_rfl):Gt R Pd c M r:=by
 intro hf h0 f e a w Y hb J hp I F;refine zMg (fun f=>Pd.all fun p=>f p.i) (fun f h=>List.all_eq_true.2 h) hPd hc (fun f e a w Y hb J hp I F=>⟨fun H j hj C=>?_,fun H=>?_⟩) hf h0 (cnt Pd f) f e a w Y rfl hb J hp I F
 ·exfalso;obtain⟨p,V,z⟩:∃p∈Pd,f p.i=false:=by
   apply Classical.byContradiction;intro U;rw[List.all_eq_true.2 fun p hp=>by
    cases z:f p.i
    ·exact absurd ⟨p,hp,z⟩ U
    ·rfl]at H
   cases H
  have W:(lQ (Pd.filter fun q=>!(q.i==p.i)) c.1).getD j true=false:=by
   rw[lQ,zHy _ _ c.1 j (fun q G=>C q (List.mem_filter.1 G).1),←zHy Pd f c.1 j C];exact(mem_ready.1 hj).1
  have S:=zIe hj (zNh (x:=p.i) Pd f c.1 c.1 rfl z (fun _ h=>h)) W;have:=List.all_eq_true.1 O p V;have:=List.all_eq_true.1 this j S;rw[List.any_eq_true]at this;obtain⟨q,G,he⟩:=this;exact C q G (by simpa using he)
 ·have y:∀p∈Pd,f p.i=true:=fun p hp=>List.all_eq_true.1 H p hp;have N:pT Pd f c.1=lQ Pd c.1:=dB Pd f _ c.1 fun q G=>y q G;rw[N];rw[qGw Pd f e y]at I;have G2:∀ps:List Pn,(∀p∈ps,p∈Pd)→Fr R.n a (pS ps e++c.2) R.D:=by
   intro ps;induction ps with
   | nil=>intro _;exact J
   | cons p ps Z=>intro h;exact(Z fun q G=>h q (List.mem_cons_of_mem _ G)).cons (hp p (h p (List.mem_cons_self ..)) (y p (h p (List.mem_cons_self ..))))
  have:=k e (by rfl) (by
   show jA R.T (lQ Pd c.1)=true∨_;rw[lQ,zAf Pd _ _ hf];exact h0.imp id fun h=>⟨fun p hp=>List.mem_append_right _ (h.1 p hp),h.2⟩) f e a w Y (fun p hp=>by cases hp) (G2 Pd fun _ h=>h) (fun p hp=>by cases hp) (by
   simp only[pM,List.append_nil];exact I.perm List.perm_append_comm) F
  exact this
theorem gs1{p:Pn}(k:∀b,Gt R Pd (c.1.setIfInBounds p.i true,(p.d,p.vf fun _=>b)::c.2) (nb p (fun _=>b)++M) r)(hPd:kP R c (p::Pd) (p::Pd))(hc:(bV (p::Pd)&&zNv R c.1 [] (p::Pd).reverse)=true:=by kernel_rfl)
  (F:(p.deps.all (fun j=>j==p.i)&&(Pd.all (fun q=>!q.deps.contains p.i)&&(Region.ready .any R.ops (lQ Pd c.1)).all fun j=>(p::Pd).any fun q=>q.i==j))=true:=by kernel_rfl):Gt R (p::Pd) c M r:=by
 intro N h0 f e a w Y hb S hp U G;simp only[zd]at F;have V:aB R.T Pd=true:=by simp only[aB,List.all_cons,zd]at N;exact N.2
 have Z:p.i∉R.T:=fun e=>by simp[aB,e]at N
 refine zMg (fun f=>f p.i) (fun f h=>h p (List.mem_cons_self ..)) hPd hc (fun f e a w Y hb S hp U G=>⟨fun H j hj I=>?_,fun H=>?_⟩) N h0 (cnt (p::Pd) f) f e a w Y rfl hb S hp U G
 ·exfalso;have z:zKt Pd j:=fun q y=>I q (List.mem_cons_of_mem _ y);have J:j∈Region.ready .any R.ops (pT Pd f c.1):=by simpa only[pT,H,zf]using hj
  have W:j∈Region.ready .any R.ops (lQ Pd c.1):=zIe J (zXf Pd f c.1 c.1 rfl (fun _ h=>h)) (by rw[lQ,zHy Pd _ c.1 j z,←zHy Pd f c.1 j z];exact(mem_ready.1 J).1)
  have:=List.all_eq_true.1 F.2.2 j W;rw[List.any_eq_true]at this;obtain⟨q,y,he⟩:=this;exact I q y (by simpa using he)
 ·have C:p.loc e=fun _=>e p.i:=funext fun k=>by
   unfold Pn.loc;rcases Nat.lt_or_ge k p.deps.length with O | O
   ·rw[zh,List.getElem?_eq_getElem O];have:=List.all_eq_true.1 F.1 _ (List.getElem_mem O);rw[Option.getD_some,eq_of_beq this]
   ·rw[zh,List.getElem?_eq_none O];rfl
  have hv:=hp p (List.mem_cons_self ..) H;unfold Pn.val at hv;rw[C]at hv;have C2:St R.E R.w0 R.X w Y ((nb p (fun _=>e p.i)++M)++pM Pd f e):=U.perm (by
   simp only[pM,H,ze];unfold nb;rw[show p.loc (fun _=>e p.i)=p.loc e by rw[C];rfl]
   cases p.ob with
   | none=>exact List.Perm.refl _
   | some o=>exact List.perm_middle.symm)
  have:=k (e p.i) V (by
   show jA R.T (c.1.setIfInBounds p.i true)=true∨_;rw[vT Z];exact h0.imp id fun h=>⟨fun q y=>List.mem_append_right _ (h.1 q y),h.2⟩) f e a w Y (fun q y=>hb q (List.mem_cons_of_mem _ y)) (S.cons hv) (fun q y=>hp q (List.mem_cons_of_mem _ y)) C2 G
  simpa only[pT,H,ze]using this
theorem gp1(p:Pn)(k:∀b,Gt R [] (c.1.setIfInBounds p.i true,(p.d,p.vf fun _=>b)::c.2) (nb p (fun _=>b)++M) r)(hPd:kP R c [p] [p]:=by exact kP.cons (by kernel_rfl) (by kernel_rfl) (by intro e;kernel_rfl) (by intro e w;kernel_rfl) kP.nil)
  (hp:(!R.T.contains p.i&&(!c.1.getD p.i true&&true))=true:=by kernel_rfl) (y:(bV [p]&&zNv R c.1 [] [p].reverse)=true:=by kernel_rfl) (f:(p.deps.all (fun j=>j==p.i)&&(true&&(Region.ready .any R.ops c.1).all fun j=>[p].any fun q=>q.i==j))=true:=by kernel_rfl):Gt R [] c M r:=
 gp p (gs1 k hPd y f) hp
theorem gO(i:Nat)(h:∀a w Y,Fr R.n a c.2 R.D→St R.E R.w0 R.X w Y M→Le r (rd w Y)→(zR R.ops i).wp R.P a w (fun a' w'=>∃H z r' C,Fr R.n a' H R.D∧St R.E R.w0 R.X w' C z∧Le r' (rd w' C)∧
   (jA R.T (c.1.setIfInBounds i true)=true∨(((∀p∈R.M0,p∈M)→∀p∈R.M0,p∈z)∧Le r r'))∧Gt R [] (c.1.setIfInBounds i true,H) z r') (vZ R.Q))
  (hi:R.ops[i]?=some (zR R.ops i):=by kernel_rfl) (hr:Region.ready .any R.ops c.1=[i]:=by kernel_rfl) (hw:yY R.ops c.2 (zR R.ops i) true=true:=by kernel_rfl):Gt R [] c M r:=by
 intro W I f e a w Y hb V hp hS O;have C0:St R.E R.w0 R.X w Y M:=by simpa only[pM,List.append_nil]using hS
 show wpU R c.1 a w;refine qIj (by rw[hr];simp) fun j Z=>?_
 obtain rfl:j=i:=by rw[hr]at Z;simpa using Z
 unfold wpOp;simp only[hi];rw[if_pos (V.wanted hw)];refine .inl (Oper.wp_mono ?_ (h a w Y V C0 O));rintro a' w' ⟨H,z,r',C,J,N,q,y,hG⟩;have F:jA R.T (c.1.setIfInBounds j true)=true∨((∀p∈R.M0,p∈z)∧Le R.r0 r'):=by
  rcases y with y | ⟨h1,h2⟩
  ·exact .inl y
  ·rcases I with I | ⟨h3,h4⟩
   ·exact .inl (zGg I)
   ·exact .inr ⟨h1 h3,h4.trans h2⟩
 have U:St R.E R.w0 R.X w' C (z++pM [] f e):=by simpa only[pM,List.append_nil]using N
 have G:pCl [] f:=fun p hp=>by cases hp
 have S:pOk a' [] f e:=fun p hp=>by cases hp
 exact⟨hold (Pd:=[]) (f:=f) (e:=e) (c:=(c.1.setIfInBounds j true,H)) W F U q,hG W F f e a' w' C G J S U q⟩
theorem gX(i j:Nat)(c':Array Value)(k:∀w1 Y,Le r (rd w1 Y)→Gt R [] (gv R i undef c) (wrM M j c') (rd w1 Y))
  (hT:R.T.contains i=true:=by kernel_rfl) (G:(nM c.2 (zR R.ops i)&&(zR R.ops i).dst.isNone)=true:=by kernel_rfl) (ho:(zR R.ops i).op= .store (stT (zR R.ops i)) (stA (zR R.ops i)) (stV (zR R.ops i)):=by kernel_rfl)
  (ha:evL c.2 (stA (zR R.ops i))= .pointer (some ⟨bO M j,aR (evL c.2 (stA (zR R.ops i))),none⟩):=by kernel_rfl)
  (ht:ldT R.P (stT (zR R.ops i))=some (zPs R.P (stT (zR R.ops i)),(evL c.2 (stV (zR R.ops i))).cells.size):=by kernel_rfl) (H:(evL c.2 (stV (zR R.ops i))).cells.toList.all Value.oneCell'=true:=by kernel_rfl)
  (F:M[j]?=some (bO M j,.cells (cO M j) (tO M j) (0,0)):=by kernel_rfl) (q:Nat.ble (aR (evL c.2 (stA (zR R.ops i)))+(evL c.2 (stV (zR R.ops i))).cells.size) (cO M j).size=true:=by kernel_rfl)
  (S:yD (cO M j) (aR (evL c.2 (stA (zR R.ops i)))) (evL c.2 (stV (zR R.ops i))).cells.toList=c':=by kernel_rfl)
  (O:R.ops[i]?=some (zR R.ops i):=by kernel_rfl) (hr:Region.ready .any R.ops c.1=[i]:=by kernel_rfl) (y:yY R.ops c.2 (zR R.ops i) true=true:=by kernel_rfl) (hb:jA R.T (c.1.setIfInBounds i true)=true:=by kernel_rfl):Gt R [] c M r:=by
 refine gO i (fun a w Y C N f=>zF j _ C G N ho ha rfl ht rfl H F (Nat.le_of_ble_eq_true q) S rfl fun w1 I J=>?_) O hr y;refine⟨c.2,wrM M j c',rd w1 Y,Y,C,(by rw[zOc F];exact I),Le.refl _,.inl hb,?_⟩
 have:=k w1 Y (f.trans J);have hd:(zR R.ops i).dst=none:=by have z:=G;rw[zd]at z;exact Option.isNone_iff_eq_none.1 z.2
 simpa only[gv,hd]using this
theorem gXs(i j:Nat)(is:List Nat)(c':Array Value)(k:∀w1 Y,Le r (rd w1 Y)→Gt R [] (gv R i undef c) (wrM M j c') (rd w1 Y))
  (y:sel (wrM M j c') is=R.M0:=by kernel_rfl) (I:(nM c.2 (zR R.ops i)&&(zR R.ops i).dst.isNone)=true:=by kernel_rfl) (ho:(zR R.ops i).op= .store (stT (zR R.ops i)) (stA (zR R.ops i)) (stV (zR R.ops i)):=by kernel_rfl)
  (ha:evL c.2 (stA (zR R.ops i))= .pointer (some ⟨bO M j,aR (evL c.2 (stA (zR R.ops i))),none⟩):=by kernel_rfl)
  (ht:ldT R.P (stT (zR R.ops i))=some (zPs R.P (stT (zR R.ops i)),(evL c.2 (stV (zR R.ops i))).cells.size):=by kernel_rfl) (J:(evL c.2 (stV (zR R.ops i))).cells.toList.all Value.oneCell'=true:=by kernel_rfl)
  (H:M[j]?=some (bO M j,.cells (cO M j) (tO M j) (0,0)):=by kernel_rfl) (q:Nat.ble (aR (evL c.2 (stA (zR R.ops i)))+(evL c.2 (stV (zR R.ops i))).cells.size) (cO M j).size=true:=by kernel_rfl)
  (T:yD (cO M j) (aR (evL c.2 (stA (zR R.ops i)))) (evL c.2 (stV (zR R.ops i))).cells.toList=c':=by kernel_rfl)
  (S:R.ops[i]?=some (zR R.ops i):=by kernel_rfl) (hr:Region.ready .any R.ops c.1=[i]:=by kernel_rfl) (z:yY R.ops c.2 (zR R.ops i) true=true:=by kernel_rfl):Gt R [] c M r:=by
 refine gO i (fun a w Y G O f=>zF j _ G I O ho ha rfl ht rfl J H (Nat.le_of_ble_eq_true q) T rfl fun w1 N C=>?_) S hr z;refine⟨c.2,wrM M j c',rd w1 Y,Y,G,(by rw[zOc H];exact N),Le.refl _,.inr ⟨fun _=>selm is y,f.trans C⟩,?_⟩
 have:=k w1 Y (f.trans C);have hd:(zR R.ops i).dst=none:=by have F:=I;rw[zd]at F;exact Option.isNone_iff_eq_none.1 F.2
 simpa only[gv,hd]using this
end
def fE(c:Cf):Array Oper:=match c.cu with
 | .code (.region _ o _)=>o
 | _=>#[]
def did(c:Cf):Nat:=match c.cu with
 | .code (.region id _ _)=>id
 | _=>0
def isSt:Op→Bool
 | .store .. =>true
 | _=>false
def bU:Op→Bool
 | .load .. =>true
 | _=>false
def tOf(ops:Array Oper):List Nat:=(List.range ops.size).filter fun i=>isSt (zR ops i).op&&(List.range ops.size).all fun j=>!bU (zR ops j).op||(zR ops i).after.any fun e=>Region.binds .any e&&e.on==j
section
variable {r:Option Nat}{m:Nat}{P:Program}{Q:Exit→Act→World→Prop}{n:Nat}{D:List Deferred}{w:World}{c:Cf}{E:Nat→Prop}{w0:World}{X Y:Hid}{M:List (Nat×Obj)}
noncomputable def mkR(r:Option Nat)(m:Nat)(P:Program)(Q:Exit→Act→World→Prop)(n:Nat)(D:List Deferred)(w:World)(c:Cf)(E:Nat→Prop)(w0:World)(X Y:Hid)(M0:List (Nat×Obj))(T:List Nat):Rg:=
 {P:=P,ops:=fE c,Q:=QQ r m P Q c.k,T:=T,n:=n,D:=D,E:=E,w0:=w0,X:=X,M0:=M0,r0:=rd w Y}
theorem zUr(T:List Nat)(M0:List (Nat×Obj))(C:St E w0 X w Y M)(k:Gt (mkR r m P Q n D w c E w0 X Y M0 T) [] (Array.replicate (fE c).size false,c.L) M (rd w Y))(f:∀p∈M0,p∈M)
  (G:c.cu= .code (.region (did c) (fE c) true):=by kernel_rfl) (F:P.follows .mixedOrders=true:=by kernel_rfl) (hd:(fE c).all (fun o=>xY o.op)=true:=by kernel_rfl):Go r m P Q n D w c:=by
 intro a z;rw[G];refine cK (mkR r m P Q n D w c E w0 X Y M0 T).S T F rfl hd C fun w1 q j H=>?_;have y:St E w0 X w1 Y (M++pM [] (fun _=>false) (fun _=>0)):=by simpa only[pM,List.append_nil]using q
 exact k (by rfl) (.inr ⟨f,Le.refl _⟩) (fun _=>false) (fun _=>0) a w1 Y (fun p hp=>by cases hp) z (fun p hp=>by cases hp) y j (fE c).size (Nat.le_trans List.countP_le_length (by simp[pT]))
theorem qRs(is:List Nat)(f:St E w0 X w Y M)(k:Gt (mkR r m P Q n D w c E w0 X Y (sel M is) (tOf (fE c))) [] (Array.replicate (fE c).size false,c.L) M (rd w Y))
  (q:c.cu= .code (.region (did c) (fE c) true):=by kernel_rfl) (j:P.follows .mixedOrders=true:=by kernel_rfl) (hd:(fE c).all (fun o=>xY o.op)=true:=by kernel_rfl):Go r m P Q n D w c:=zUr _ _ f k zBq q j hd
theorem zdrs(is:List Nat)(f:St E w0 X w Y M)(k:Gt (mkR r m P Q n D w c E w0 X Y (sel M is) []) [] (Array.replicate (fE c).size false,c.L) M (rd w Y))
  (q:c.cu= .code (.region (did c) (fE c) true):=by kernel_rfl) (j:P.follows .mixedOrders=true:=by kernel_rfl) (hd:(fE c).all (fun o=>xY o.op)=true:=by kernel_rfl):Go r m P Q n D w c:=zUr _ _ f k zBq q j hd
theorem zdr(f:St E w0 X w Y M)(k:Gt (mkR r m P Q n D w c E w0 X Y M (tOf (fE c))) [] (Array.replicate (fE c).size false,c.L) M (rd w Y))
  (q:c.cu= .code (.region (did c) (fE c) true):=by kernel_rfl) (j:P.follows .mixedOrders=true:=by kernel_rfl) (hd:(fE c).all (fun o=>xY o.op)=true:=by kernel_rfl):Go r m P Q n D w c:=zUr _ M f k (fun _ h=>h) q j hd
theorem fJ{w':World}{F:Hid}{M0 j:List (Nat×Obj)}{T:List Nat}{r':Rd}{c':Array Bool×List (Nat×Value)}(h:∀w1 y,St E w0 X w1 y j→Le r' (rd w1 y)→Go r m P Q n D w1 ⟨.ex .normal,c.k,c'.2⟩)(hr:Region.ready .any (fE c) c'.1=[]:=by kernel_rfl):Gt (mkR r m P Q n D w' c E w0 X F M0 T) [] c' j r':=by
 intro J I f e a w Y hb G hp H q fuel _;have C:St E w0 X w Y j:=by have z:=H;simp only[pM,List.append_nil]at z;exact z
 exact zDs hr (nrm (h w Y C q a G))
end
end Go.Gv
namespace Go.Gv
open Go.RowKit IntKind
def nX(o:Oper)(i:Nat):Operand:=match o.op with
 | .call c=>(c.args[i]?).getD (.tmp 0)
 | _=> .tmp 0
def bTy(o:Oper)(i:Nat):TypeId:=match o.op with
 | .call c=>(c.argTypes[i]?).getD 0
 | _=>0
def mkL(o:Oper):Operand:=match o.op with
 | .makeSlice _ x _=>x
 | _=> .tmp 0
def mkT(o:Oper):TypeId:=match o.op with
 | .makeSlice t _ _=>t
 | _=>0
def slE(P:Program)(t:TypeId):TypeId:=match P.underlying t with
 | some (.slice e)=>e
 | _=>0
def zI(i:TypeInfo):Value:=(i.zero).getD undef
def od(o:Oper):Nat:=o.dst.getD 0
section
variable {P:Program}{Q:Exit→Act→World→Prop}{K:Act→World→Prop}{a:Act}{o:Oper}{n:Nat}{L:List (Nat×Value)}{D:List Deferred}{E:Nat→Prop}{w0 w:World}{X Y:Hid}{M:List (Nat×Obj)}
theorem zKw{f:FuncId}{vs:Array Value}{G H:Obj}{b1 b2:Nat}{Φ:World→Value→Prop}(i j:Nat)(N:Fr n a L D)(O:St E w0 X w Y M)(z:M[i]?=some (b1,G))(C:M[j]?=some (b2,H))(y:Calls P f vs w (Ret (fun k=>k=b1∨k=b2) w Φ))
  (k:∀v w1,Φ w1 v→(∀I J,w1.heap[b1]?=some I→w1.heap[b2]?=some J→St E w0 X w1 Y ((M.set i (b1,I)).set j (b2,J)))→Le (rd w Y) (rd w1 Y)→∀a1,Fr n a1 ((od o,v)::L) D→K a1 w1)
  (S:opk L o (od o) n=true:=by kernel_rfl) (ho:o.op= .call {callee:= .value (clF o),args:=clA o,argTypes:=clT o}:=by kernel_rfl) (T:evL L (clF o)= .func (.func f) #[] (qJx (evL L (clF o))):=by kernel_rfl) (q:(clA o).map (evL L)++qJx (evL L (clF o))=vs:=by kernel_rfl)
  (hcall:∀w,(callFunc f vs).run P w= .ok (.enter f vs) w:=by intro w;kernel_rfl) (F:(Nat.beq i j)=false:=by kernel_rfl):o.wp P a w K Q:=
 qFy i j N S O ho T q hcall z C (fun e=>by subst e;simp at F) y k
theorem zZk{f:FuncId}{vs:Array Value}{ob:Obj}{b:Nat}{Ψ:Nat→Obj→Value→Prop}(i:Nat)(C:Fr n a L D)(G:St E w0 X w Y M)(F:M[i]?=some (b,ob))
  (y:Calls P f vs w (Ret (·=b) w fun w1 v=>∃j o',w1.heap[j]?=some o'∧(w.heap.size≤j∨j=b)∧Ψ j o' v))
  (k:∀v w1 z j o',Ψ j o' v→St E w0 X w1 z (M.set i (j,o'))→Le (rd w Y) (rd w1 z)→∀a1,Fr n a1 ((od o,v)::L) D→K a1 w1)
  (H:opk L o (od o) n=true:=by kernel_rfl) (ho:o.op= .call {callee:= .value (clF o),args:=clA o,argTypes:=clT o}:=by kernel_rfl) (I:evL L (clF o)= .func (.func f) #[] (qJx (evL L (clF o))):=by kernel_rfl) (q:(clA o).map (evL L)++qJx (evL L (clF o))=vs:=by kernel_rfl)
  (hcall:∀w,(callFunc f vs).run P w= .ok (.enter f vs) w:=by intro w;kernel_rfl):o.wp P a w K Q:=
 zQh i C H G ho I q hcall F y k
theorem vN{g k:Nat}{T:TypeId}{m cap:Nat}{cur:Array Value}{l:List Nat}{e:Int}{y:Nat}(i:Nat)(z:Fr n a L D)(F:St E w0 X w Y M)(H:e=(y:Int))(C:M[i]?=some (g,.cells cur T (0,0)))(j:zX m cap cur l)(I:k<l.length)(J:y<4294967296)
  (q:∀f w1,zX m cap f (l.set k y)→St E w0 X w1 Y (M.set i (g,.cells f T (0,0)))→Le (rd w Y) (rd w1 Y)→K a w1)
  (G:(nM L o&&o.dst.isNone)=true:=by kernel_rfl) (ho:o.op= .store (stT o) (stA o) (stV o):=by kernel_rfl) (ha:evL L (stA o)= .pointer (some ⟨g,k,none⟩):=by kernel_rfl) (hv:evL L (stV o)= .int .u32 e:=by kernel_rfl) (ht:ldT P (stT o)=some (false,1):=by kernel_rfl):o.wp P a w K Q:=
 mV i z G F ho ha hv H ht C j I J q
theorem zBd{l:Int}{e:TypeId}{z:Value}{i0:TypeInfo}(m b:Nat)(C:Fr n a L D)(F:St E w0 X w Y M)
  (k:∀b w1 y,St E w0 X w1 y ((b,.cells (List.replicate m z).toArray e (0,0))::M)→Le (rd w Y) (rd w1 y)→Upd E0 w w1→∀a1,Fr n a1 ((od o,.slice (some ⟨b,0,none⟩) m m)::L) D→K a1 w1)
  (j:b*m≤281474976710656:=by omega) (f:m≤140737488355328:=by omega) (J:l=(m:Int):=by first | rfl | omega)
  (hb:i0.bytes=b:=by kernel_rfl) (G:opk L o (od o) n=true:=by kernel_rfl) (ho:o.op= .makeSlice (mkT o) (mkL o) (mkL o):=by kernel_rfl) (I:evL L (mkL o)= .int .i64 l:=by kernel_rfl)
  (ht:P.underlying (mkT o)=some (.slice e):=by kernel_rfl) (H:P.info? e=some i0:=by kernel_rfl) (N:i0.zero=some z:=by kernel_rfl) (hs:i0.size=1:=by kernel_rfl) (q:z.cells=#[z]:=by kernel_rfl):o.wp P a w K Q:=
 zWu C G F ho I J ht H N hs q (by rw[hb];exact j) f k
theorem zZl{g dl q sl sc:Nat}{cur:Array Value}{T:TypeId}{ad:Option Addr}{l l2:List Nat}{Y2:Hid}(i:Nat)(C:Fr n a L D)(G:St E w0 X w Y M)(F:M[i]?=some (g,.cells cur T (0,0)))(j:zX dl q cur l)(z:zN (rd w Y2) ad sl sc l2)(y:l2.length≤dl)
  (k:∀f w1,zX dl q f (l2++l.drop l2.length)→St E w0 X w1 Y (M.set i (g,.cells f T (0,0)))→Le (rd w Y) (rd w1 Y)→∀a1,Fr n a1 ((od o,.int .i64 (l2.length:Int))::L) D→K a1 w1)
  (H:opk L o (od o) n=true:=by kernel_rfl) (ho:o.op= .call {callee:= .builtin .copy,args:=#[nX o 0,nX o 1],argTypes:=#[bTy o 0,bTy o 1]}:=by kernel_rfl) (J:evL L (nX o 0)= .slice (some ⟨g,0,none⟩) dl q:=by kernel_rfl) (N:evL L (nX o 1)= .slice ad sl sc:=by kernel_rfl)
  (I:P.underlying (bTy o 0)=some (.slice (slE P (bTy o 0))):=by kernel_rfl) (hs:(P.info? (slE P (bTy o 0))).map (·.size)=some 1:=by kernel_rfl):o.wp P a w K Q:=
 qFz i C H G ho J N I hs F j z y k
theorem zHs{e:TypeId}{g m nn cap c size b:Nat}{cur:Array Value}{xs news:List Value}{ad:Addr}{i0:TypeInfo}(i:Nat)(J:Fr n a L D)(O:St E w0 X w Y M)
  (N:M[i]?=some (g,.cells cur e (0,0))) (z:Row nn cap size cur xs) (y:jE w ad news) (U:news.length=m*size) (I:news.all Value.oneCell'=true)
  (C:nn+m≤maxLen) (f:(nn+m)*b≤140737488355328)
  (k:∀H j q w1 G,Row (nn+m) j size q (xs++news)→St E w0 X w1 G (M.set i (H,.cells q e (0,0)))→Le (rd w Y) (rd w1 G)→∀a1,Fr n a1 ((od o,.slice (some ⟨H,0,none⟩) (nn+m) j)::L) D→K a1 w1)
  (hb:i0.bytes=b:=by kernel_rfl) (S:opk L o (od o) n=true:=by kernel_rfl) (ho:o.op= .call {callee:= .builtin .append,args:=#[nX o 0,nX o 1],argTypes:=#[bTy o 0,bTy o 0]}:=by kernel_rfl) (hs:evL L (nX o 0)= .slice (some ⟨g,0,none⟩) nn cap:=by kernel_rfl) (V:evL L (nX o 1)= .slice (some ad) m c:=by kernel_rfl)
  (ht:P.underlying (bTy o 0)=some (.slice e):=by kernel_rfl) (T:P.info? e=some i0:=by kernel_rfl) (W:i0.zero=some (zI i0):=by kernel_rfl) (hsz:i0.size=size:=by kernel_rfl) (F:(zI i0).cells.size=size:=by kernel_rfl):o.wp P a w K Q:=
 zKv i J S O ho hs V ht T W hsz F N z y U I C (by rw[hb];exact f) k
theorem zQg{m c size b:Nat}{e:TypeId}{news:List Value}{ad:Addr}{i0:TypeInfo}(I:Fr n a L D)(J:St E w0 X w Y M)(y:jE w ad news)(S:news.length=m*size)(C:0<m)(z:m≤maxLen)(f:m*b≤140737488355328)
  (k:∀H j q w1 G,Row m j size q news→St E w0 X w1 G ((H,.cells q (e) (0,0))::M)→Le (rd w Y) (rd w1 G)→∀a1,Fr n a1 ((od o,.slice (some ⟨H,0,none⟩) m j)::L) D→K a1 w1)
  (hb:i0.bytes=b:=by kernel_rfl) (N:opk L o (od o) n=true:=by kernel_rfl) (ho:o.op= .call {callee:= .builtin .append,args:=#[nX o 0,nX o 1],argTypes:=#[bTy o 0,bTy o 0]}:=by kernel_rfl) (hs:evL L (nX o 0)= .slice none 0 0:=by kernel_rfl) (T:evL L (nX o 1)= .slice (some ad) m c:=by kernel_rfl)
  (ht:P.underlying (bTy o 0)=some (.slice (e)):=by kernel_rfl) (O:P.info? (e)=some i0:=by kernel_rfl) (U:i0.zero=some (zI i0):=by kernel_rfl) (hsz:i0.size=size:=by kernel_rfl) (F:(zI i0).cells.size=size:=by kernel_rfl):o.wp P a w K Q:=
 zHr I N J ho hs T ht O U hsz F y S C z (by rw[hb];exact f) k
theorem zQf{e:TypeId}{m c nn cap size b:Nat}{y:Option Addr}{xs news:List Value}{ad:Addr}{i0:TypeInfo}{rb R1 M:List (Nat×Obj)}(i:Nat)(N:Fr n a L D)(S:St E w0 X w Y M)(O:M.drop i=R1++rb)
  (z:gM e size rb y nn cap xs) (q:jE w ad news) (J:nn+m≤1125899906842624) (f:(nn+m)*b≤140737488355328)
  (k:∀C ad' j w1 H,gM e size C ad' (nn+m) j (xs++news)→St E w0 X w1 H (M.take i++(R1++C))→Le (rd w Y) (rd w1 H)→∀a1,Fr n a1 ((od o,.slice ad' (nn+m) j)::L) D→K a1 w1)
  (V:news.length=m*size:=by kernel_rfl) (I:news.all Value.oneCell'=true:=by kernel_rfl) (F:Nat.blt 0 m=true:=by kernel_rfl)
  (hb:i0.bytes=b:=by kernel_rfl) (T:opk L o (od o) n=true:=by kernel_rfl) (ho:o.op= .call {callee:= .builtin .append,args:=#[nX o 0,nX o 1],argTypes:=#[bTy o 0,bTy o 0]}:=by kernel_rfl) (hs:evL L (nX o 0)= .slice y nn cap:=by kernel_rfl) (W:evL L (nX o 1)= .slice (some ad) m c:=by kernel_rfl)
  (ht:P.underlying (bTy o 0)=some (.slice e):=by kernel_rfl) (U:P.info? e=some i0:=by kernel_rfl) (Z:i0.zero=some (zI i0):=by kernel_rfl) (hsz:i0.size=size:=by kernel_rfl) (G:(zI i0).cells.size=size:=by kernel_rfl):o.wp P a w K Q:=
 qNc i N T S O ho hs W ht U Z hsz G z q V I (by simpa[Nat.blt_eq]using F) (by simp only[maxLen];omega) (by rw[hb];exact f) k
end
theorem gr{R:Rg}{Pd:List Pn}{c:Array Bool×List (Nat×Value)}{M:List (Nat×Obj)}{r:Rd}(i j k:Nat){m cap:Nat}{cur:Array Value}{l:List Nat}(y:zX m cap cur l)(J:k<l.length)(cont:Gt R Pd (gv R i (.int .u32 ((l.getD k 0:Nat):Int)) c) M r)
  (I:R.M0[j]?=some (bO R.M0 j,.cells (cO R.M0 j) (tO R.M0 j) (fO R.M0 j)):=by kernel_rfl) (f:cO R.M0 j=cur:=by kernel_rfl)
  (H:R.ops[i]?=some (zR R.ops i):=by kernel_rfl) (G:gok R Pd c i=true:=by kernel_rfl) (hT:(zIr R.ops R.T i&&!jA R.T c.1)=true:=by kernel_rfl)
  (ho:(zR R.ops i).op= .load (zEu (zR R.ops i)) (ldX (zR R.ops i)):=by kernel_rfl) (N:evL c.2 (ldX (zR R.ops i))= .pointer (some ⟨bO R.M0 j,k,none⟩):=by kernel_rfl) (ht:ldT R.P (zEu (zR R.ops i))=some (false,1):=by kernel_rfl):Gt R Pd c M r:=
 zPe i (.inr ⟨hT,fun w F=>zB (vs:=[.int .u32 ((l.getD k 0:Nat):Int)]) ho N ht (.inr rfl) (by
  have C:=F.1 _ (List.mem_of_getElem? I);intro q v z;rcases q with _ | q
  ·simp at z;subst z;rw[jO,cell_of_row w _ _ _ _ _ C,f];exact y.get J
  ·simp at z)⟩) cont H G
def unp:Nat→Value→List Value
 | 1,v=>[v]
 | _,.tuple a=>a.toList
 | _,v=>[v]
section
variable {P:Program}{n:Nat}{D:List Deferred}{w:World}{c:Cf}{E:Nat→Prop}{w0:World}{X Y:Hid}{M:List (Nat×Obj)}{L:List (Nat×Value)}
theorem Res.tZ{t:Nat}{v:Value}{rs:List ResultVar}{vs:List Value}(k:Res P L w rs vs)(h:has L t=true:=by kernel_rfl)(e:sI L t=v:=by kernel_rfl):Res P L w (.tmp t::rs) (v::vs):=e▸Res.tmp h k
def rM(P:Program)(L:List (Nat×Value))(M:List (Nat×Obj))(i t:Nat)(T:TypeId):List Value:=((cO M i).toList.drop (aR (sI L t))).take (ldS P T)
theorem Res.cM{t:Nat}{T:TypeId}{v:Value}{rs:List ResultVar}{vs:List Value}(f:St E w0 X w Y M)(i:Nat)(k:Res P L w rs vs)(h:has L t=true:=by kernel_rfl)(y:sI L t= .pointer (some ⟨bO M i,aR (sI L t),none⟩):=by kernel_rfl)(ht:ldT P T=some (zPs P T,(rM P L M i t T).length):=by kernel_rfl)
  (j:(zPs P T||(rM P L M i t T).length==1)=true:=by kernel_rfl) (q:M[i]?=some (bO M i,.cells (cO M i) (tO M i) (fO M i)):=by kernel_rfl) (z:(rM P L M i t T).length=ldS P T:=by kernel_rfl) (e:ldV (zPs P T) (rM P L M i t T)=v:=by kernel_rfl):Res P L w (.cell t T::rs) (v::vs):=
 e▸Res.cell h y ht (by simpa using j) (f.cells i q (by rw[z];rfl)) k
theorem zrS(rs:List ResultVar){v:Value}{fn:Func}{R:Ending→World→Prop}(h:Res P c.L w rs (unp rs.length v))(f:R (.returned v) w)(hr:fn.results=rs.toArray:=by kernel_rfl)(hv:zBi (unp rs.length v)=v:=by kernel_rfl)(j:fin c=true:=by kernel_rfl):Go none 0 P (bodyPost P fn R) n [] w c:=zrR h f hr hv j
end
theorem zOf{l:List Nat}{x:Nat}:U32 l++[.int .u32 (x:Int)]=U32 (l++[x]):=by simp[U32]
section
variable {w0 w:World}{X Y:Hid}{rb A B:List (Nat×Obj)}{e:TypeId}{m cap:Nat}{ad:Option Addr}
theorem St.pubLimbs{ls:List Nat}(F:List (Nat×Obj)→List (Nat×Obj))(I:St E0 w0 X w Y (F rb))(H:∀rb,F rb=A++(rb++B))(q:gM e 1 rb ad m cap (U32 ls))(N:m=ls.length)(J:∀x∈ls,x<4294967296):
  ∃f,St E0 w0 X w f (F [])∧Le (rd w Y) (rd w f)∧zN (rd w f) ad m cap ls:=by
 obtain⟨f,z,C,G⟩:=St.pubRow F I H q;refine⟨f,z,C,?_⟩;rcases G with⟨O,rfl,rfl,rfl⟩ | ⟨g,cur,rfl,hr,hat⟩
 ·have:ls=[]:=by
   cases ls with
   | nil=>rfl
   | cons a l=>simp[U32]at O
  subst this;exact zN.nil none (by omega)
 ·subst N;refine⟨rfl,hr.hn,?_,J,.inr ⟨g,0,rfl,fun j v y=>?_⟩⟩
  ·have:=hr.hcap;simp only[maxLen]at this;omega
  ·rw[←hr.hxs,List.getElem?_take]at y;split at y
   ·exact hat j v y
   ·cases y
end
theorem zDw(l:List Nat)(k:Nat):val (l.take (k+1))=val (l.take k)+l.getD k 0*4294967296^k:=by
 rcases Nat.lt_or_ge k l.length with h | h
 ·exact yQ l k h
 ·rw[List.take_of_length_le (by omega),List.take_of_length_le h,zh,List.getElem?_eq_none h];simp
theorem qOn(l l2 ls:List Nat)(k c:Nat)(q:ls.length=k)(h:val ls+c*4294967296^k=val (l.take k)+val (l2.take k)):
  val (ls++[(l.getD k 0+l2.getD k 0+c) % 4294967296])+(l.getD k 0+l2.getD k 0+c) / 4294967296*4294967296^(k+1)=val (l.take (k+1))+val (l2.take (k+1)):=by
 rw[dM,zDw,zDw,q];have f:=Nat.div_add_mod (l.getD k 0+l2.getD k 0+c) 4294967296;have j:(l.getD k 0+l2.getD k 0+c)*4294967296^k=(l.getD k 0+l2.getD k 0+c) % 4294967296*4294967296^k+(l.getD k 0+l2.getD k 0+c) / 4294967296*4294967296^(k+1):=by
  rw[Nat.pow_succ]
  calc (l.getD k 0+l2.getD k 0+c)*4294967296^k=(4294967296*((l.getD k 0+l2.getD k 0+c) / 4294967296)+(l.getD k 0+l2.getD k 0+c) % 4294967296)*4294967296^k:=by rw[f]
   _=_:=by rw[Nat.add_mul,Nat.add_comm];congr 1;ac_rfl
 rw[Nat.add_mul,Nat.add_mul]at j;omega
theorem zNy(a:Nat)(h:a<18446744073709551616):IntKind.u64.wrap (Int.tdiv (a:Int) 4294967296)=((a / 4294967296:Nat):Int):=nS (x:=((a / 4294967296:Nat):Int)) (by omega) (by omega)
theorem qCy(l l2 ls:List Nat)(k c:Nat)(j:ls.length=k)(q:l.getD k 0<4294967296)(y:l2.getD k 0<4294967296)(z:c≤1)(h:val ls+val (l2.take k)=val (l.take k)+c*4294967296^k):
  val (ls++[(4294967296+l.getD k 0-l2.getD k 0-c) % 4294967296])+val (l2.take (k+1))=val (l.take (k+1))+(1-(4294967296+l.getD k 0-l2.getD k 0-c) / 4294967296)*4294967296^(k+1):=by
 rw[dM,zDw,zDw,j,Nat.pow_succ,Nat.mul_comm (4294967296^k),←Nat.mul_assoc];have e:(4294967296+l.getD k 0-l2.getD k 0-c) % 4294967296+l2.getD k 0+c=l.getD k 0+(1-(4294967296+l.getD k 0-l2.getD k 0-c) / 4294967296)*4294967296:=by omega
 have f:=congrArg (· * 4294967296^k) e;simp only[Nat.add_mul]at f;omega
theorem qCx{l l2 ls:List Nat}{c k:Nat}(y:ls.length=k)(f:k=l.length)(hlt:∀x∈ls,x<4294967296)(j:l2.length≤l.length)(z:val l2≤val l)(C:c≤1)(h:val ls+val (l2.take k)=val (l.take k)+c*4294967296^k):val ls=val l-val l2:=by
 subst f;rw[List.take_of_length_le j,List.take_length]at h;have q:=xH hlt;rw[y]at q;have:c=0:=by
  rcases Nat.eq_zero_or_pos c with h | h'
  ·exact h
  ·obtain rfl:c=1:=by omega
   omega
 subst this;omega
theorem zBy:∀(l l2:List Nat),(∀j,l.getD j 0=l2.getD j 0)→val l=val l2
 | [],[],_=>rfl
 | [],b::l2,h=>by
  have f:=h 0;have q:=zBy [] l2 fun j=>by have:=h (j+1);simpa using this
  simp at f;simp only[val]at q ⊢;omega
 | a::l,[],h=>by
  have f:=h 0;have q:=zBy l [] fun j=>by have:=h (j+1);simpa using this
  simp at f;simp only[val]at q ⊢;omega
 | a::l,b::l2,h=>by
  have f:=h 0;have q:=zBy l l2 fun j=>by have:=h (j+1);simpa using this
  simp at f;simp only[val];omega
theorem qGl{l l2:List Nat}{k:Nat}(q:∀x∈l,x<4294967296)(h:∀j,k+1≤j→l.getD j 0=l2.getD j 0)(hlt:l.getD k 0<l2.getD k 0):val l<val l2:=by
 have e:val (l.drop (k+1))=val (l2.drop (k+1)):=zBy _ _ fun j=>by
  have:=h (k+1+j) (by omega)
  simpa[zh,List.getElem?_drop]using this
 have z:val (l.take k)<4294967296^k:=by
  have:=xH (l:=l.take k) fun x y=>q x (List.mem_of_mem_take y);refine Nat.lt_of_lt_of_le this (Nat.pow_le_pow_right (by omega) (by rw[List.length_take];omega))
 rw[tJ l (k+1),tJ l2 (k+1),e,zDw,zDw];have f:(l.getD k 0+1)*4294967296^k≤l2.getD k 0*4294967296^k:=Nat.mul_le_mul_right _ hlt;rw[Nat.add_mul,Nat.one_mul]at f;omega
section
variable {P:Program}{w:World}
theorem zEw{t ty e:TypeId}{i:TypeInfo}(ht:P.underlying t=some (.slice e))(f:P.info? e=some i)(ad:Option Addr)(c:Nat):
  (Builtin.append_ #[t,t] ty #[.slice none 0 0,.slice ad 0 c]).run P w= .ok (.slice none 0 0) w:=by
 cases ad<;>simp[Builtin.append_,run_underlying ht,sizeOf,typeInfo,f,Builtin.lenOf,Builtin.firstCells,loadCells,loadCellsFrom]
end
section
variable {P:Program}{Q:Exit→Act→World→Prop}{K:Act→World→Prop}{a:Act}{o:Oper}{n:Nat}{L:List (Nat×Value)}{D:List Deferred}{E:Nat→Prop}{w0 w:World}{X Y Y2:Hid}{M:List (Nat×Obj)}
theorem zNc{e:TypeId}{ad:Option Addr}{sl sc:Nat}{l:List Nat}{i0:TypeInfo}(F:Fr n a L D)(G:St E w0 X w Y M)(h:zN (rd w Y2) ad sl sc l)(hb:sl≤1000000)
  (k:∀ad' q w1,St E w0 X w1 Y M→Le (rd w Y) (rd w1 Y)→zN (rd w1 Y) ad' l.length q l→∀a1,Fr n a1 ((od o,.slice ad' l.length q)::L) D→K a1 w1)
  (H:i0.bytes=4:=by kernel_rfl) (N:opk L o (od o) n=true:=by kernel_rfl) (ho:o.op= .call {callee:= .builtin .append,args:=#[nX o 0,nX o 1],argTypes:=#[bTy o 0,bTy o 0]}:=by kernel_rfl) (hs:evL L (nX o 0)= .slice none 0 0:=by kernel_rfl) (T:evL L (nX o 1)= .slice ad sl sc:=by kernel_rfl)
  (ht:P.underlying (bTy o 0)=some (.slice e):=by kernel_rfl) (O:P.info? e=some i0:=by kernel_rfl) (hz:i0.zero=some (.int .u32 0):=by kernel_rfl) (hsz:i0.size=1:=by kernel_rfl):o.wp P a w K Q:=by
 obtain rfl:=h.hlen;have y:=N;simp only[opk,zd]at y;obtain⟨hd,hlt⟩:=qH y.2;rcases Nat.eq_zero_or_pos l.length with z | z
 ·have hr:=zEw (P:=P) (w:=w) (ty:=o.type) ht O ad sc;have f:(execOp (evL L) o).run P w= .ok (.value (.slice none 0 0)) w:=by
   unfold execOp;simp only[ho,resolve,invoke,builtin,Sem.run_bind,Sem.run_pure,Result.andThen_ok,List.map_toArray,List.map_cons,List.map_nil,hs,T,z,hr]
  refine zE F N f fun a1 U=>?_;have W:l=[]:=List.eq_nil_of_length_eq_zero z;refine k none 0 w G (Le.refl _) ?_ a1 (by rw[z];exact U)
  subst W;exact zN.nil none (by omega)
 ·obtain⟨b,off,rfl,hat⟩:=h.addr z;have hr:=run_append_nil (P:=P) w (bTy o 0) o.type e i0 (.int .u32 0) ht O hz ⟨b,off,none⟩ l.length sc (U32 l) (by rw[hsz];simp) (fun j v C=>yK (hat j v C)) z (by omega) (by rw[H];omega)
  have f:(execOp (evL L) o).run P w= .ok (.value (.slice (some ⟨w.heap.size,0,none⟩) l.length (grownCap w l.length 0 e))) (w.drew.alloc (.cells ((U32 l).toArray++Builtin.zeroCells (Value.int .u32 0).cells (grownCap w l.length 0 e-l.length)) e)):=by
   unfold execOp;simp only[ho,resolve,invoke,builtin,Sem.run_bind,Sem.run_pure,Result.andThen_ok,List.map_toArray,List.map_cons,List.map_nil,hs,T,hr]
  unfold Oper.wp;rw[F.exec y.1,f];show K (a.put o.dst _) _;rw[hd];have S:Upd E0 w (w.drew.alloc (.cells ((U32 l).toArray++Builtin.zeroCells (Value.int .u32 0).cells (grownCap w l.length 0 e-l.length)) e)):=(Upd.drew w).trans ((Upd.alloc w.drew _).weaken fun _ _ e=>e);have V:=grownCap_ge w l.length 0 e;have I:=grownCap_le_maxLen w l.length 0 e (by simp only[maxLen];omega)
  refine k (some ⟨w.heap.size,0,none⟩) (grownCap w l.length 0 e) _ (G.call S) (S.le Y) ⟨rfl,by omega,by simp only[maxLen]at I;omega,h.hlt,.inr ⟨w.heap.size,0,rfl,fun j v C=>?_⟩⟩ _ (F.put hlt _)
  rw[jO];refine rX ?_ (fun Z=>Nat.lt_irrefl _ (G.lt _ _ Z)) (frozen_of_row _ w.heap.size _ ((U32 l).toArray++Builtin.zeroCells (Value.int .u32 0).cells (grownCap w l.length 0 e-l.length)) e (by show(w.heap.push _)[w.heap.size]?=_;simp))
  have J:j<(U32 l).length:=(List.getElem?_eq_some_iff.1 C).1;rw[cell_of_row _ w.heap.size _ ((U32 l).toArray++Builtin.zeroCells (Value.int .u32 0).cells (grownCap w l.length 0 e-l.length)) e (0,0) (by show(w.heap.push _)[w.heap.size]?=_;simp)]
  simp only[Nat.zero_add];rw[Array.getElem?_append_left (by simpa using J)]
  simpa using C
end
section
variable {P:Program}{w:World}{ρ:Operand→Value}{o:Oper}
theorem qHo{kd:IntKind}{t t2:TypeId}{xa xb:Operand}{x k:Nat}(ho:o.op= .binOp .shr t xa xb t2)(hx:ρ xa= .int .u32 (x:Int))(hk:ρ xb= .int kd (k:Int))(h:k≤32):(execOp ρ o).run P w= .ok (.value (.int .u32 ((x / 2^k:Nat):Int))) w:=by
 unfold execOp;simp only[ho,hx,hk];have h1:=shift_shr_u32 (yk:=kd) (x:=(x:Int)) (y:=(k:Int)) (by omega) (by omega)
 simp[go_sem,h1]
theorem qHm{kd:IntKind}{t t2:TypeId}{xa xb:Operand}{x k:Nat}(ho:o.op= .binOp .shl t xa xb t2)(hx:ρ xa= .int .u32 (x:Int))(hk:ρ xb= .int kd (k:Int))(h:k≤32):(execOp ρ o).run P w= .ok (.value (.int .u32 ((x*2^k % 4294967296:Nat):Int))) w:=by
 unfold execOp;simp only[ho,hx,hk];have h1:=shift_shl_u32 (yk:=kd) (x:=(x:Int)) (y:=(k:Int)) (by omega) (by omega)
 simp[go_sem,h1,yR]
end
def adF(ad:Option Addr)(cap k:Nat):Option Addr:=if cap=k then ad else ad.map (·.add (k*1))
theorem zN.drop{r:Rd}{ad:Option Addr}{len cap:Nat}{l:List Nat}(h:zN r ad len cap l){k:Nat}(G:k≤len):zN r (adF ad cap k) (len-k) (cap-k) (l.drop k):=by
 have z:=h.hlen;have C:=h.hcap;have F:=h.hbig;refine⟨by simp;omega,by omega,by omega,fun x y=>h.hlt x (List.mem_of_mem_drop y),?_⟩
 unfold adF;split
 ·exact .inl (List.drop_eq_nil_of_le (by omega))
 ·rcases h.hat with q | ⟨b,off,e,ha⟩
  ·exact .inl (by rw[q];simp)
  ·refine .inr ⟨b,off+k,by rw[e];simp[Addr.add],fun j v f=>?_⟩
   rw[show U32 (l.drop k)=(U32 l).drop k by simp[U32],List.getElem?_drop]at f
   have:=ha (k+j) v f;simpa[jO,Nat.add_assoc]using this
section
variable {P:Program}{ρ:Operand→Value}
theorem zJk{o:Oper}{t e:TypeId}{x j:Operand}{ad:Option Addr}{len cap:Nat}{kd:IntKind}{k:Nat}{g:Bool}(ho:o.op= .slice t x (some j) none none)(ht:P.underlying t=some (.slice e))(q:ldT P e=some (g,1))
  (y:ρ x= .slice ad len cap) (f:ρ j= .int kd (k:Int)) (z:k≤len) (w:World):
  (execOp ρ o).run P w= .ok (.value (.slice (adF ad cap k) (len-k) (cap-k))) w:=by
 unfold execOp;simp only[ho,y,Instr.sliceAt,Instr.slice,Instr.sliceBounds,Instr.sliceBound,asIntOf,underlying,ht,Sem.run_bind,Sem.run_pure,run_program,Result.andThen_ok,Option.map_some,Option.map_none,f,show(0:Int)≤(k:Int)by omega,show(k:Int)≤(len:Int)by omega,and_self,if_true,run_sizeOf q,Int.toNat_natCast]
 rfl
theorem zLb{o:Oper}{w:World}{kd:IntKind}{t F:TypeId}{f j:Operand}{k:Nat}(ho:o.op= .binOp .shl t f j F)(C:ρ f= .int .u32 1)(z:ρ j= .int kd (k:Int))(h:k<32):(execOp ρ o).run P w= .ok (.value (.int .u32 ((2^k:Nat):Int))) w:=by
 have q:=qHm (P:=P) (w:=w) (x:=1) ho C z (by omega)
 have y:(2:Nat)^k<4294967296:=Nat.lt_of_lt_of_le (Nat.pow_lt_pow_right (by omega) h) (by decide)
 rwa[Nat.one_mul,Nat.mod_eq_of_lt y]at q
end
theorem qYj{w:World}{Y:Hid}{b:Nat}{x:Nat}(h:At (rd w Y) ⟨b,0,none⟩ [.int .u32 (x:Int)])(q:x<4294967296):zN (rd w Y) (some ⟨b,0,none⟩) 1 1 [x]:=
 ⟨rfl,Nat.le_refl _,by omega,by simpa using q,.inr ⟨b,0,rfl,fun j v f=>h j v (by simpa[U32]using f)⟩⟩
theorem qIn(l:List Nat)(y:∀x∈l,x<4294967296)(k:Nat)(q:k≤l.length):val l / 2^(32*k)=val (l.drop k):=by
 have f:(2:Nat)^(32*k)=4294967296^k:=by rw[Nat.pow_mul]
 have j:val (l.take k)<4294967296^k:=by
  have:=xH (l:=l.take k) fun x z=>y x (List.mem_of_mem_take z);rwa[List.length_take,Nat.min_eq_left q]at this
 rw[f,tJ l k,Nat.add_mul_div_left _ _ (Nat.pow_pos (by omega)),Nat.div_eq_of_lt j,Nat.zero_add]
theorem rJ{l:List Nat}{k:Nat}(q:zW l)(h:val l<4294967296^k):l.length≤k:=by
 by_cases f:l=[]
 ·simp[f]
 ·have j:=tT q f;have y:=(Nat.pow_lt_pow_iff_right (by omega:1<4294967296)).1 (Nat.lt_of_le_of_lt j h)
  omega
theorem zJo{l l2:List Nat}{x:Nat}(j:zW l)(f:∀x∈l2,x<4294967296)(q:x<val l2)(h:val l≤x+x+1):l.length≤l2.length+1:=by
 refine rJ j ?_;have:=xH f;rw[Nat.pow_succ];omega
theorem qKk{l l2:List Nat}{N:Nat}(z:∀x∈l,x<4294967296)(y:zW l2)(j:0<val l2)(G:l.length+1=N+l2.length):val (l.drop N)<val l2:=by
 have f:l2≠[]:=fun e=>by subst e;simp[val]at j
 have F:=tT y f;have q:=xH (l:=l.drop N) fun x C=>z x (List.mem_of_mem_drop C);rw[List.length_drop,show l.length-N=l2.length-1 by omega]at q
 omega
theorem qNv{l:List Nat}(h:0<val l):0<l.length:=by
 cases l with
 | nil=>simp[val]at h
 | cons a b=>simp
theorem jCa{l l2:List Nat}(j:∀x∈l,x<4294967296)(f:zW l2)(h:l.length<l2.length):val l<val l2:=by
 refine Nat.lt_of_not_le fun e=>?_;have:=qB j f e;omega
end Go.Gv
namespace Go.Proofs.YtdfmdiakjdggbaaGreatDoor
open Go Go.Gv Go.RowKit IntKind
set_option maxRecDepth 100000
set_option maxHeartbeats 1000000
theorem aY(w:World)(X:Hid)(hX:∀k o,X k o→k<w.heap.size)(ad:Option Addr)(len cap:Nat)(l:List Nat)(h:zN (rd w X) ad len cap l):
    Calls Tryz.prog 235 #[.slice ad len cap] w (Ret E0 w fun _ v=>v= .slice ad (qV l) cap):=by
 obtain rfl:=h.hlen;have hl:=h.hlen;have hcap:=h.hcap;have hbig:=h.hbig;refine zen Tryz.func235 ?_;have N:St E0 w X w X []:=St.start hX;refine zz 7<|zlp Tryz.f235 [] [1,0,0] (fun(k:Nat)=>[(0,.slice ad k cap)]) (fun(k:Nat)w1=>∃(I:Hid),St E0 w X w1 I []∧Le (rd w X) (rd w1 I)∧(k≤l.length)∧(yX l k=yX l l.length)) (fun(k:Nat)=>k) l.length ?_ ?_
 ·
  refine⟨_,N,Le.refl _,Nat.le_refl _,rfl⟩
 rintro k w2 V W ⟨Y2,F,J,z,C⟩;have hk:=z;have ht:=C;refine zz 7<|zt 6 (p:=(k:Int)>0) (fun S=>?_) (fun S=>?_)
 ·
  obtain⟨j,f,rfl,_⟩:=h.addr (by omega)
  have q:=(h.cell (i:=k-1) (by omega))
  refine zz 4<|zw 10 (x:=(k:Int)-1)<|zi (b:=j) (off:=f) (len:=k) (cap:=cap) (kd:= .i64) (i:=(k:Int)-1) 1 (f+(k-1)) ?_ (hoff:=(by first | omega | (simp;done) | (simp;omega)))
  refine zl ((q.mono J)).cells<|zz 4<|zb 14 (b:=(((l.getD (k-1) 0:Nat):Int)==0)) (fun G=>?_) (fun G=>?_)
  ·
   have Z:((l.getD (k-1) 0:Nat):Int)=0:=by simpa using G
   have y:=zEn (l:=l) (k:=k) (by omega) (by omega)
   refine zz 9<|zw 18 (x:=(k:Int)-1)<|zop (at1 [V] Tryz.f235 [1,0,0,0,1,0]) 4 (fun a8 _ T H=>zE (d:=19) (v:= .slice (some ⟨j,f,none⟩) (k-1) cap) T kr (zBm (t:=26) (e:=214) (ad:=(some ⟨j,f,none⟩)) (len:=k) (cap:=cap) (kd:= .i64) (i:=(k:Int)-1) (h':=(k-1)) (g:=false) (m:=1) rfl kr kr kr kr (by omega) (by omega) (by first | omega | (simp;done) | (simp;omega)) _) ?_)
   intro a9 U;refine H U<|zz 3 ?_;refine kL (fun a h=>W (k-1) _ a h ⟨_,F,J,by omega,by omega⟩ ?_)
   first | omega | (simp<;>omega)
  have O:((l.getD (k-1) 0:Nat):Int)≠0:=by simpa using G
  have y:=zEm (l:=l) (k:=k) (by omega) (by omega)
  refine zz 13<|zr' (v:= .slice (some ⟨j,f,none⟩) k cap) ?_;exact⟨F.upd,_,rfl,by unfold qV;first | rw[←ht,y] | rw[←ht];rfl⟩
 obtain rfl:k=0:=by omega
 refine zz 23<|zr' (v:= .slice ad 0 cap) ?_;exact⟨F.upd,_,rfl,by unfold qV;first | rw[←ht,y] | rw[←ht];rfl⟩
section
variable (w:World)(X:Hid)(hX:∀k o,X k o→k<w.heap.size)
set_option maxHeartbeats 1000000
include hX in
theorem zKf(x:Int):Calls Tryz.prog 234 #[.int .i64 x] w (Ret E0 w fun _ v=>v= .bool false):=by
 refine zen Tryz.func234 ?_;have f:St E0 w X w X []:=St.start hX;refine zz 14<|zr' (v:= .bool ((x)!=x)) ?_;exact⟨f.upd,_,rfl,by simp⟩
include hX in
theorem zAv(x:Int):Calls Tryz.prog 281 #[.int .u32 x] w (Ret E0 w fun _ v=>v= .bool false):=by
 refine zen Tryz.func281 ?_;have f:St E0 w X w X []:=St.start hX;refine zz 14<|zr' (v:= .bool ((x)!=x)) ?_;exact⟨f.upd,_,rfl,by simp⟩
def qM(x y:Int):Int:=if x<y then -1 else if x>y then 1 else 0
include hX in
theorem zOv(x y:Int):Calls Tryz.prog 171 #[.int .i64 x,.int .i64 y] w (Ret E0 w fun _ v=>v= .int .i64 (qM x y)):=by
 refine zen Tryz.func171 ?_;have j:St E0 w X w X []:=St.start hX;refine zz 8<|zc j (zKf _ _ j.lt x) ?_;rintro H J q O F rfl;refine zz 6<|zc q (zKf _ _ q.lt y) ?_;rintro I N f S G rfl;refine zz 29<|zt 16 (p:=(x)<y) (fun z=>?_) (fun z=>?_);refine zz 8<|zr' (v:= .int .i64 (-1)) ?_;exact⟨f.upd,_,rfl,zQ (by unfold qM;(repeat' split)<;>omega)⟩
 refine zz 11<|zt 19 (p:=(x)>y) (fun C=>?_) (fun C=>?_);refine zz 8<|zr' (v:= .int .i64 1) ?_;exact⟨f.upd,_,rfl,zQ (by unfold qM;(repeat' split)<;>omega)⟩
 refine zz 9<|zr' (v:= .int .i64 0) ?_;exact⟨f.upd,_,rfl,zQ (by unfold qM;(repeat' split)<;>omega)⟩
include hX in
theorem zGk(x y:Int):Calls Tryz.prog 264 #[.int .u32 x,.int .u32 y] w (Ret E0 w fun _ v=>v= .int .i64 (qM x y)):=by
 refine zen Tryz.func264 ?_;have j:St E0 w X w X []:=St.start hX;refine zz 8<|zc j (zAv _ _ j.lt x) ?_;rintro H J q O F rfl;refine zz 6<|zc q (zAv _ _ q.lt y) ?_;rintro I N f S G rfl;refine zz 29<|zt 16 (p:=(x)<y) (fun z=>?_) (fun z=>?_);refine zz 8<|zr' (v:= .int .i64 (-1)) ?_;exact⟨f.upd,_,rfl,zQ (by unfold qM;(repeat' split)<;>omega)⟩
 refine zz 11<|zt 19 (p:=(x)>y) (fun C=>?_) (fun C=>?_);refine zz 8<|zr' (v:= .int .i64 1) ?_;exact⟨f.upd,_,rfl,zQ (by unfold qM;(repeat' split)<;>omega)⟩
 refine zz 9<|zr' (v:= .int .i64 0) ?_;exact⟨f.upd,_,rfl,zQ (by unfold qM;(repeat' split)<;>omega)⟩
include hX in
theorem jBi(x y c:Int)(q:0≤x∧x<4294967296)(z:0≤y∧y<4294967296)(j:0≤c∧c≤1):Calls Tryz.prog 283 #[.int .u32 x,.int .u32 y,.int .u32 c] w (Ret E0 w fun _ v=>v= .tuple #[.int .u32 ((x+y+c) % 4294967296),.int .u32 ((x+y+c) / 4294967296)]):=by
 refine zen Tryz.func283 ?_;have f:St E0 w X w X []:=St.start hX;refine zz 10<|zs 10 (v:= .int .u64 (IntKind.u64.wrap (x))) (v':= .int .u64 x) (zQ (nS (by omega) (by omega)))<|zz 2<|zs 12 (v:= .int .u64 (IntKind.u64.wrap (y))) (v':= .int .u64 y) (zQ (nS (by omega) (by omega)))<|zz 1<|zs 13 (v:= .int .u64 (IntKind.u64.wrap ((x)+y))) (v':= .int .u64 ((x)+y)) (zQ (nS (by omega) (by omega)))<|zz 2<|zs 15 (v:= .int .u64 (IntKind.u64.wrap (c))) (v':= .int .u64 c) (zQ (nS (by omega) (by omega)))<|zz 1 ?_
 refine zs 16 (v:= .int .u64 (IntKind.u64.wrap (((x)+y)+c))) (v':= .int .u64 (((x)+y)+c)) (zQ (nS (by omega) (by omega)))<|zz 7<|zs 18 (v:= .int .u32 (IntKind.u32.wrap (((x)+y)+c))) (v':= .int .u32 ((((x)+y)+c) % 4294967296)) (zQ (yR _))<|zz 7<|zs 20 (v:= .int .u64 (Int.fdiv (((x)+y)+c) (2^32))) (v':= .int .u64 ((((x)+y)+c) / 4294967296)) (zQ (wH _ 32 (by decide) (by decide)))<|zz 1<|zs 21 (v:= .int .u32 (IntKind.u32.wrap ((((x)+y)+c) / 4294967296))) (v':= .int .u32 (((x)+(y)+(c)) / 4294967296)) (zQ (qIu (by omega) (by omega)))<|zz 4<|zr' (v:= .tuple #[.int .u32 ((((x)+y)+c) % 4294967296),.int .u32 (((x)+(y)+(c)) / 4294967296)]) ?_
 exact⟨f.upd,_,rfl,by first | rfl | (congr 3;omega) | skip⟩
end
section
variable (w:World)(X:Hid)(hX:∀k o,X k o→k<w.heap.size)
set_option maxHeartbeats 1000000
include hX in
theorem qRo(x y c:Int)(C:0≤x∧x<4294967296)(F:0≤y∧y<4294967296)(z:0≤c∧c≤1):Calls Tryz.prog 265 #[.int .u32 x,.int .u32 y,.int .u32 c] w (Ret E0 w fun _ v=>v= .tuple #[.int .u32 ((((x)-y) % 4294967296-c) % 4294967296),.int .u32 (if x<y+c then 1 else 0)]):=by
 refine zen Tryz.func265 ?_;have q:St E0 w X w X []:=St.start hX;refine zz 11<|zs 10 (v:= .int .u32 (IntKind.u32.wrap ((x)-y))) (v':= .int .u32 (((x)-y) % 4294967296)) (zQ (yR _))<|zz 2<|zs 12 (v:= .int .u32 (IntKind.u32.wrap ((((x)-y) % 4294967296)-c))) (v':= .int .u32 (((((x)-y) % 4294967296)-c) % 4294967296)) (zQ (yR _))<|zz 17<|zs 24 (v:= .int .u32 (Int.fdiv (rU (wS (wD 4294967295 x) y) (wS (wD 4294967295 (wD x y)) (((((x)-y) % 4294967296)-c) % 4294967296))) (2^31))) (v':= .int .u32 ((rU (wS (wD 4294967295 x) y) (wS (wD 4294967295 (wD x y)) (((((x)-y) % 4294967296)-c) % 4294967296))) / 2147483648)) (zQ (wH _ 31 (by decide) (by decide)))<|zz 4<|zr' (v:= .tuple #[.int .u32 (((((x)-y) % 4294967296)-c) % 4294967296),.int .u32 ((rU (wS (wD 4294967295 x) y) (wS (wD 4294967295 (wD x y)) (((((x)-y) % 4294967296)-c) % 4294967296))) / 2147483648)]) ?_
 exact⟨q.upd,_,rfl,by
    obtain⟨f,rfl⟩:=Int.eq_ofNat_of_zero_le C.1;obtain⟨j,rfl⟩:=Int.eq_ofNat_of_zero_le F.1;obtain⟨cn,rfl⟩:=Int.eq_ofNat_of_zero_le z.1;obtain⟨dn,hd⟩:=Int.eq_ofNat_of_zero_le (a:=(((f:Int)-j) % 4294967296-cn) % 4294967296) (by omega)
    have:=qAe f j cn dn (by omega) (by omega) (by omega) (by omega) hd.symm
    rw[hd,this]⟩
include hX in
theorem qGk(b off len cap:Nat)(es:List Int)(hlen:len=es.length)(hbig:es.length≤1000)(hat:At (rd w X) ⟨b,off,none⟩ (I64 es)):Calls Tryz.prog 81 #[.slice (some ⟨b,off,none⟩) len cap] w (Ret E0 w fun _ v=>v= .int .i64 (orL es)):=by
 refine zen Tryz.func81 ?_;have I:St E0 w X w X []:=St.start hX;refine zz 19<|zlp Tryz.f81 [] [1,1,0,1,0] (fun(k:Nat)=>[(3,.int .i64 0),(6,.slice (some ⟨b,off,none⟩) len cap),(7,.int .i64 (len:Int)),(8,.int .i64 (k:Int))]) (fun(k:Nat)w1=>∃(G:Hid),St E0 w X w1 G []∧Le (rd w X) (rd w1 G)∧(k≤es.length)∧(∀j,j<k→es.getD j 0=0)) (fun(k:Nat)=>es.length-k) 0 ?_ ?_;refine⟨_,I,Le.refl _,Nat.zero_le _,fun j y=>absurd y (Nat.not_lt_zero j)⟩;rintro k V T N ⟨Y2,z,H,F,f⟩;refine zz 6<|zt 9 (p:=(k:Int)<(len:Int)) (fun J=>?_) (fun J=>?_);have q:=(hat.one (qIz (l:=es) (i:=k) (by omega)))
 refine zz 7<|zi (b:=b) (off:=off) (len:=len) (cap:=cap) (kd:= .i64) (i:=(k:Int)) 1 (off+k)<|zl ((q.mono H)).cells<|zz 10<|zb 14 (b:=((es.getD k 0)!=0)) (fun C=>?_) (fun C=>?_);have O:(es.getD k 0)≠0:=by simpa using C
 refine zz 13<|zr' (v:= .int .i64 (es.getD k 0)) ?_;exact⟨z.upd,_,rfl,zQ (by first | exact(zHt es (fun j y=>f j (by omega))).symm | exact(zTy es k (by omega) f (by omega)).symm)⟩
 have S:(es.getD k 0)=0:=by simpa using C
 refine zz 6<|zw 16 (x:=(k:Int)+1)<|zz 2 ?_;refine kL (fun a h=>N (k+1) _ a h ⟨_,z,H,by omega,fun j y=>(by rcases Nat.lt_succ_iff_lt_or_eq.1 y with h | h;exact f j h;rw[h];omega)⟩ ?_)
 first | omega | (simp<;>omega)
 have U:k=es.length:=by omega
 refine zz 13<|zr' (v:= .int .i64 0) ?_;exact⟨z.upd,_,rfl,zQ (by first | exact(zHt es (fun j y=>f j (by omega))).symm | exact(zTy es k (by omega) f (by omega)).symm)⟩
include hX in
theorem zYr(len cap:Nat)(l:List Nat)(z:len=l.length)(hlen:len≤35184372088831)(hlt:∀x∈l,x<4294967296)(j:l=[]):Calls Tryz.prog 223 #[.slice none len cap] w (Ret E0 w fun w' v=>∃ad' q f,zIx w w' 214 v l ad' q f):=by
 refine zen Tryz.func223 ?_;have y:St E0 w X w X []:=St.start hX;refine zz 20<|zr' (v:= .slice none 0 0) ?_;exact⟨y.upd,_,rfl,_,_,_,⟨rfl,by rw[j];rfl,hlt,.inl ⟨rfl,rfl,rfl⟩⟩⟩
include hX in
theorem zGj(ad:Addr)(len cap:Nat)(l:List Nat)(F:len=l.length)(hlen:len≤35184372088831)(hlt:∀x∈l,x<4294967296)(hat:At (rd w X) ad (U32 l)):Calls Tryz.prog 223 #[.slice (some ad) len cap] w (Ret E0 w fun w' v=>∃ad' j f,zIx w w' 214 v l ad' j f):=by
 refine zen Tryz.func223 ?_;have G:St E0 w X w X []:=St.start hX;refine zz 17<|zn (fun b=> .slice (some ⟨b,0,none⟩) 0 0) (.cells #[] 214 (0,0)) G fun b3 w3 U H O S=>zz 1<|zop (at1 [] Tryz.f223 [1,1,0]) 2 (fun W _ I y=>zHs (b:=4) (m:=len) (c:=cap) (size:=1) (ad:=ad) (xs:=[]) (news:=U32 l) (i0:=Tryz.t214) (cur:=#[]) (nn:=0) (cap:=0) (g:=b3) (e:=214) 0 I H kr ⟨Nat.le_refl _,Nat.zero_le _,rfl,rfl⟩ (hat.mono O).cells (by simp[F]) (by simp[U32,Value.oneCell']) (by simp only[maxLen];omega) (by show(0+len)*4≤_;omega) ?_)
 intro N J T w5 V z q y5 Z C;simp only[Nat.zero_add,List.nil_append]at C z;refine y C<|zz 4<|zr' (v:= .slice (some ⟨N,0,none⟩) len J) ?_;exact⟨q.upd,_,rfl,_,_,_,⟨rfl,F,hlt,.inr ⟨_,_,rfl,q.own_ge 0 rfl,q.get 0 rfl,⟨z,hlt⟩⟩⟩⟩
include hX in
theorem zAi(ad:Option Addr)(len cap:Nat)(l:List Nat)(h:zN (rd w X) ad len cap l)(hlen:len≤35184372088831):Calls Tryz.prog 223 #[.slice ad len cap] w (Ret E0 w fun w' v=>∃ad' q f,zIx w w' 214 v l ad' q f):=by
 rcases h.hat with y | ⟨b,off,rfl,hat⟩
 ·cases ad with
  | none=>exact zYr w X hX len cap l h.hlen hlen h.hlt y
  | some a=>exact zGj w X hX a len cap l h.hlen hlen h.hlt (y▸fun j v z=>by simp[U32]at z)
 ·exact zGj w X hX _ len cap l h.hlen hlen h.hlt hat
end
section
variable (w:World)(X:Hid)(hX:∀k o,X k o→k<w.heap.size)
set_option maxHeartbeats 1000000
include hX in
theorem zLs(ad:Option Addr)(len cap:Nat)(l:List Nat)(h:zN (rd w X) ad len cap l):Calls Tryz.prog 153 #[.slice ad len cap] w (Ret E0 w fun _ v=>v= .int .i64 (jH l)):=by
 obtain rfl:=h.hlen;have hcap:=h.hcap;have hbig:=h.hbig;refine zen Tryz.func153 ?_;have j:St E0 w X w X []:=St.start hX;refine zz 15<|zt 3 (p:=(l.length:Int)>512) (fun z=>?_) (fun z=>?_);refine zz 9<|zr' (v:= .int .i64 4) ?_;exact⟨j.upd,_,rfl,zQ (by unfold jH;(repeat' split)<;>first | rfl | omega)⟩
 refine zz 7<|zt 11 (p:=(l.length:Int)>0) (fun C=>?_) (fun C=>?_);obtain⟨y,f,rfl,_⟩:=h.addr (by omega)
 refine zz 4<|zw 15 (x:=(l.length:Int)-1)<|zi (b:=y) (off:=f) (len:=l.length) (cap:=cap) (kd:= .i64) (i:=(l.length:Int)-1) 1 (f+(l.length-1)) ?_ (hoff:=(by first | omega | (simp;done) | (simp;omega)))
 refine zl ((h.cell (i:=(l.length-1)) (by omega)).mono (Le.refl _)).cells<|zz 5<|zb 7 (b:=(((l.getD (l.length-1) 0:Nat):Int)==0)) (fun q=>?_) (fun q=>?_)
 have F:((l.getD (l.length-1) 0:Nat):Int)=0:=by simpa using q
 refine zz 9<|zr' (v:= .int .i64 2) ?_;exact⟨j.upd,_,rfl,zQ (by unfold jH;(repeat' split)<;>first | rfl | omega)⟩
 have G:((l.getD (l.length-1) 0:Nat):Int)≠0:=by simpa using q
 refine zz 10<|zr' (v:= .int .i64 0) ?_;exact⟨j.upd,_,rfl,zQ (by unfold jH;(repeat' split)<;>first | rfl | omega)⟩
 refine zz 21<|zr' (v:= .int .i64 0) ?_;exact⟨j.upd,_,rfl,zQ (by unfold jH;(repeat' split)<;>first | rfl | omega)⟩
def vF(l l2:List Nat):Int:=orL [jH l,jH l2]
include hX in
theorem zAe(ad:Option Addr)(len cap:Nat)(l:List Nat)(h:zN (rd w X) ad len cap l)(j:Option Addr)(f y:Nat)(l2:List Nat)(I:zN (rd w X) j f y l2):Calls Tryz.prog 222 #[.slice ad len cap,.slice j f y] w (Ret E0 w fun _ v=>v= .int .i64 (vF l l2)):=by
 refine zen Tryz.func222 ?_;have z:St E0 w X w X []:=St.start hX;refine zz 8<|zc z (zLs _ X0 (zZ _) _ _ _ l (h.mono Le.x0)) ?_;rintro V w3 C J N rfl;refine zz 1<|zc C (zLs _ X0 (zZ _) _ _ _ l2 ((I.mono J).mono Le.x0)) ?_;rintro W w5 F y5 O rfl;refine zn (fun b=> .slice (some ⟨b,0,none⟩) 2 2) (.cells #[.int .i64 (jH l),.int .i64 (jH l2)] 46 (0,0)) F fun H w7 U q y7 S=>zc q (qGk _ X0 (zZ _) _ _ _ _ [jH l,jH l2] rfl (by simp) (q.at0 0 rfl rfl)) ?_ (vs:=#[.slice (some ⟨H,0,none⟩) 2 2])
 rintro Z w9 G y9 T rfl;refine zz 4<|zr' (v:= .int .i64 (orL [jH l,jH l2])) ?_;exact⟨G.upd,_,rfl,zQ (rfl)⟩
include hX in
theorem qQh(ad:Option Addr)(len cap:Nat)(l:List Nat)(h:zN (rd w X) ad len cap l):Calls Tryz.prog 267 #[.slice ad len cap] w (Ret E0 w fun _ v=>v=if 512<qV l then .tuple #[.slice none 0 0,.int .i64 4]else .tuple #[.slice ad (qV l) cap,.int .i64 0]):=by
 have hcap:=h.hcap;have hbig:=h.hbig;have C:=h.hlen;have f:=rQ l l.length;rw[show yX l l.length=qV l from rfl]at f;refine zen Tryz.func267 ?_;have j:St E0 w X w X []:=St.start hX;refine zz 10<|zc j (aY _ _ j.lt _ _ _ l h) ?_;rintro F G q H z rfl;refine zz 10<|zt 8 (p:=(qV l:Int)>512) (fun y=>?_) (fun y=>?_);refine zz 9<|zr' (v:= .tuple #[.slice none 0 0,.int .i64 4]) ?_;exact⟨q.upd,_,rfl,by first | rw[if_pos (by omega)] | rw[if_neg (by omega)]⟩
 refine zz 11<|zr' (v:= .tuple #[.slice ad (qV l) cap,.int .i64 0]) ?_;exact⟨q.upd,_,rfl,by first | rw[if_pos (by omega)] | rw[if_neg (by omega)]⟩
end
end Go.Proofs.YtdfmdiakjdggbaaGreatDoor
namespace Go.Proofs.YtdfmdiakjdggbaaGreatDoor
open Go Go.Gv Go.RowKit IntKind
set_option maxRecDepth 100000
set_option maxHeartbeats 1000000
abbrev Two(a b:Nat):Nat→Prop:=fun k=>k=a∨k=b
abbrev qIy(a b:Nat):Hid:=fun k _=>k=a∨k=b
theorem qBn(w:World)(g z G i m cap:Nat)(cur:Array Value)(l:List Nat)(x c:Nat)(hne:g≠z)(hbg:G≠g)(hbb:G≠z)(hg:w.heap[g]?=some (.cells cur 214 (0,0)))(j:zX m cap cur l)
    (O:w.heap[z]?=some (.cells #[.int .u32 (c:Int)] 214 (0,0))) (hba:At (rd w (qIy g z)) ⟨G,0,none⟩ [.slice (some ⟨g,0,none⟩) m cap]) (hi:i<l.length) (hx:x<4294967296) (hc:c≤1) (hbig:m≤4611686018427387904):
    Calls Tryz.prog 282 #[.int .i64 (i:Int),.int .u32 (x:Int),.pointer (some ⟨G,0,none⟩),.pointer (some ⟨z,0,none⟩)] w (Ret (Two g z) w fun w' v=>v= .tuple #[]∧∃H,w'.heap[g]?=some (.cells H 214 (0,0))∧zX m cap H (l.set i ((l.getD i 0+x+c) % 4294967296))∧
      w'.heap[z]?=some (.cells #[.int .u32 (((l.getD i 0+x+c) / 4294967296:Nat):Int)] 214 (0,0))):=by
 have hX:∀k o,qIy g z k o→k<w.heap.size:=by
   rintro k o (rfl | rfl)
   ·exact(Array.getElem?_eq_some_iff.1 hg).1
   ·exact(Array.getElem?_eq_some_iff.1 O).1
 refine zFp (n:=19) (vs:=[.int .i64 (i:Int),.int .u32 (x:Int),.pointer (some ⟨G,0,none⟩),.pointer (some ⟨z,0,none⟩)]) Tryz.func282 rfl rfl rfl kr (fun a0 W=>?_);have W:Fr 19 a0 [(0,.int .i64 (i:Int)),(1,.int .u32 (x:Int)),(2,.pointer (some ⟨G,0,none⟩)),(3,.pointer (some ⟨z,0,none⟩))]:=W;have C0:St (Two g z) w (qIy g z) w (qIy g z) [(g,.cells cur 214 (0,0)),(z,.cells #[.int .u32 (c:Int)] 214 (0,0))]:=St.start2 hX hg O (fun _=> .inl rfl) (fun _=> .inr rfl) hne;have hlen:=j.len;have hlt:=j.getD_lt i;refine cK (N:=15) (kE [(⟨G,0,none⟩,[.slice (some ⟨g,0,none⟩) m cap]),(⟨g,i,none⟩,[.int .u32 ((l.getD i 0:Nat):Int)]),(⟨z,0,none⟩,[.int .u32 (c:Int)])]) [13,14] kr kr kr C0 ?_;intro w1 S y1 N1;refine mZ (kE.cons ((hba.mono y1)).cells (kE.cons (S.rowCells 0 rfl j (by have:=j.len;(try simp only[List.length_set]at *);omega)) (kE.cons (S.cells 1 rfl rfl) (kE.nil _)))) (fun q=>?_)
 refine nR (d:=7) (v:= .slice (some ⟨g,0,none⟩) m cap) 0 W rfl kr kr kr (fun w J=>zB (t:=26) (g:=false) (vs:=[.slice (some ⟨g,0,none⟩) m cap]) (ad:=⟨G,0,none⟩) rfl kr kr ir (J.get 0 kr)) q ?_;intro a2 G2;refine zJ (d:=8) (v:= .int .i64 (i:Int)) 1 G2 rfl kr kr kw (fun _=>q) fun a3 G3=>?_;refine nR (d:=9) (v:= .slice (some ⟨g,0,none⟩) m cap) 2 G3 rfl kr kr kr (fun w J=>zB (t:=26) (g:=false) (vs:=[.slice (some ⟨g,0,none⟩) m cap]) (ad:=⟨G,0,none⟩) rfl kr kr ir (J.get 0 kr)) q ?_;intro a4 G4;refine zJ (d:=10) (v:= .int .i64 (i:Int)) 3 G4 rfl kr kr kw (fun _=>q) fun a5 G5=>zJ (d:=11) (v:= .pointer (some ⟨g,i,none⟩)) 4 G5 rfl kr kr (fun w=>jF (t:=26) (e:=214) (b:=g) (off:=0) (len:=m) (cap:=cap) (kd:= .i64) (i:=(i:Int)) (g:=false) (m:=1) (off':=i) rfl kr kr kr kr (by omega) (by omega) (by first | rfl | omega | (simp;done) | (simp;omega)) w) (fun _=>q) fun a6 G6=>?_
 refine nR (d:=12) (v:= .int .u32 ((l.getD i 0:Nat):Int)) 5 G6 rfl kr kr kr (fun w J=>zB (t:=214) (g:=false) (vs:=[.int .u32 ((l.getD i 0:Nat):Int)]) (ad:=⟨g,i,none⟩) rfl kr kr ir (J.get 1 kr)) q ?_;intro a7 G7;refine zJ (d:=13) (v:= .int .u32 (x:Int)) 6 G7 rfl kr kr kw (fun _=>q) fun a8 G8=>?_;refine nR (d:=14) (v:= .int .u32 (c:Int)) 7 G8 rfl kr kr kr (fun w J=>zB (t:=214) (g:=false) (vs:=[.int .u32 (c:Int)]) (ad:=⟨z,0,none⟩) rfl kr kr ir (J.get 2 kr)) q ?_;intro a9 G9;refine tF [8] kr rfl ?_;refine yH.cons (i:=8) G9 rfl kr (kC (d:=15) (f:=283) (cap:=#[]) (vs:=#[.int .u32 ((l.getD i 0:Nat):Int),.int .u32 (x:Int),.int .u32 (c:Int)]) G9 kr S rfl kr kr (fun w=>Tryz.call283 _ w) (jBi _ _ S.lt ((l.getD i 0:Nat):Int) (x:Int) (c:Int) ⟨by omega,by omega⟩ ⟨by omega,by omega⟩ ⟨by omega,by omega⟩) ?_) yH.nil
 rintro v10 w10 T y10 N10 rfl a11 Z;refine wV (q.up N10) (fun C=>?_);refine zJ (d:=6) (v:= .tuple #[.int .u32 ((((l.getD i 0:Nat):Int)+(x:Int)+(c:Int)) % 4294967296),.int .u32 ((((l.getD i 0:Nat):Int)+(x:Int)+(c:Int)) / 4294967296)]) 9 Z rfl kr kr kw (fun _=>C) fun a12 G12=>zJ (d:=16) (v:= .int .u32 ((((l.getD i 0:Nat):Int)+(x:Int)+(c:Int)) % 4294967296)) 10 G12 rfl kr kr kw (fun _=>C) fun a13 G13=>zJ (d:=17) (v:= .int .u32 ((((l.getD i 0:Nat):Int)+(x:Int)+(c:Int)) / 4294967296)) 11 G13 rfl kr kr kw (fun _=>C) fun a14 G14=>zJ (d:=18) (v:= .pointer (some ⟨g,i,none⟩)) 12 G14 rfl kr kr (fun w=>jF (t:=26) (e:=214) (b:=g) (off:=0) (len:=m) (cap:=cap) (kd:= .i64) (i:=(i:Int)) (g:=false) (m:=1) (off':=i) rfl kr kr kr kr (by omega) (by omega) (by first | rfl | omega | (simp;done) | (simp;omega)) w) (fun _=>C) fun a15 F=>?_
 refine tF [13] kr rfl ?_;refine yH.cons (i:=13) F rfl kr (mV (t:=214) (y:=((l.getD i 0+x+c) % 4294967296)) (k:=i) (e:=(((l.getD i 0:Nat):Int)+(x:Int)+(c:Int)) % 4294967296) 0 F kr T rfl rfl rfl (by first | rfl | omega | (simp;omega)) kr rfl j (by have:=j.len;(try simp only[List.length_set]at *);omega) (by first | omega | (simp;omega)) ?_) yH.nil
 intro Q16 w16 V U y16;refine⟨nY kr,?_⟩;refine tF [14] kr rfl ?_;refine yH.cons (i:=14) F rfl kr (zF (t:=214) (b:=z) (off:=0) (c':=#[.int .u32 ((((l.getD i 0:Nat):Int)+(x:Int)+(c:Int)) / 4294967296)]) (g:=false) (m:=1) 1 _ F kr U rfl kr rfl kr kr kr rfl (by first | decide | (simp;done)) kr rfl ?_) yH.nil
 intro w17 I y17;refine⟨nY kr,?_⟩;refine zDs kr (nrm ?_);refine zOn (v:= .tuple #[]) (rs:=[]) F kr Res.nil kr ?_;refine⟨I.upd,_,rfl,rfl,Q16,I.get 0 rfl,?_,?_⟩
 ·
  exact V
 ·
  rw[I.get 1 rfl];congr 4
abbrev HG(g:Nat):Hid:=fun k _=>k=g
theorem qJl(f l2:List Nat)(j k c T:Nat)(q:j<l2.length)(y:j+k<f.length)(h:val f+c*4294967296^(j+k)=T+4294967296^k*val (l2.take j)):
  val (f.set (j+k) ((f.getD (j+k) 0+l2.getD j 0+c) % 4294967296))+(f.getD (j+k) 0+l2.getD j 0+c) / 4294967296*4294967296^(j+1+k)=T+4294967296^k*val (l2.take (j+1)):=by
 have z:=zBx f (j+k) (l2.getD j 0) c y;rw[yQ l2 j q,Nat.mul_add,show 4294967296^k*(l2.getD j 0*4294967296^j)=l2.getD j 0*4294967296^(j+k)by rw[Nat.pow_add];ac_rfl,show j+1+k=j+k+1 by omega]
 omega
theorem qBp(f:List Nat)(p c T:Nat)(j:p<f.length)(h:val f+c*4294967296^p=T):
  val (f.set p ((f.getD p 0+0+c) % 4294967296))+(f.getD p 0+0+c) / 4294967296*4294967296^(p+1)=T:=by
 have q:=zBx f p 0 c j;omega
theorem qPv(w:World)(g m cap:Nat)(cur:Array Value)(l:List Nat)(hg:w.heap[g]?=some (.cells cur 214 (0,0)))(hrow:zX m cap cur l)(hm:m≤1099511627776)
    (H:Option Addr) (U P2:Nat) (l2:List Nat) (S:zN (rd w (HG g)) H U P2 l2) (k:Nat) (hk:l2.length+k≤m) (hsum:val l+4294967296^k*val l2<4294967296^m):
    Calls Tryz.prog 266 #[.slice (some ⟨g,0,none⟩) m cap,.slice H U P2,.int .i64 (k:Int)] w (Ret (·=g) w fun w' v=>v= .tuple #[]∧∃O l',w'.heap[g]?=some (.cells O 214 (0,0))∧zX m cap O l'∧val l'=val l+4294967296^k*val l2):=by
 obtain rfl:=S.hlen;have hcap2:=S.hcap;have hbig2:=S.hbig;refine zen Tryz.func266 ?_;have hX:∀k o,HG g k o→k<w.heap.size:=by rintro k o rfl;exact(Array.getElem?_eq_some_iff.1 hg).1
 have C0:St (·=g) w (HG g) w (HG g) [(g,.cells cur 214 (0,0))]:=St.startE g _ hX hg (fun _=>rfl);refine zz 2<|zn pn (.cells #[.slice (some ⟨g,0,none⟩) m cap] 26 (0,0)) C0 fun b3 w3 Y3 C3 y3 N3=>zz 4<|zn pn (.cells #[.int .u32 0] 214 (0,0)) C3 fun N w5 Y5 C5 y5 N5=>zx 0 #[.int .u32 0] C5 fun w6 C6 y6=>zz 17<|zlp Tryz.f266 [] [1,1,1,0,1,0] (fun(j:Nat)=>[(1,.slice H l2.length P2),(2,.int .i64 (k:Int)),(6,.pointer (some ⟨N,0,none⟩)),(7,.func (.func 282) #[] #[.pointer (some ⟨b3,0,none⟩),.pointer (some ⟨N,0,none⟩)]),(12,.slice H l2.length P2),(13,.int .i64 (l2.length:Int)),(14,.int .i64 (j:Int))]) (fun(j:Nat)w1=>∃(Y1:Hid)(F:Array Value)(y:List Nat)(c:Nat),St (·=g) w (HG g) w1 Y1 [(N,.cells #[.int .u32 (c:Int)] 214 (0,0)),(b3,.cells #[.slice (some ⟨g,0,none⟩) m cap] 26 (0,0)),(g,.cells F 214 (0,0))]∧Le (rd w6 Y5) (rd w1 Y1)∧(zX m cap F y)∧(j≤l2.length)∧(c≤1)∧(val y+c*4294967296^(j+k)=val l+4294967296^k*val (l2.take j))) (fun(j:Nat)=>l2.length-j) 0 ?_ ?_
 ·
  refine⟨_,cur,l,0,C6,Le.refl _,hrow,Nat.zero_le _,by omega,by simp[val]⟩
 rintro j w7 K7 Z7 ⟨Y7,F,y,c,C,y7,hp7_0,hp7_1,hp7_2,z⟩;have G:=hp7_0;have hlen1:=G.len;refine zz 6<|zt 15 (p:=(j:Int)<(l2.length:Int)) (fun F8=>?_) (fun F8=>?_)
 ·
  obtain⟨bk9,V,rfl,_⟩:=S.addr (by omega)
  refine zz 8<|zi (b:=bk9) (off:=V) (len:=l2.length) (cap:=P2) (kd:= .i64) (i:=(j:Int)) 1 (V+j) ?_;have J1_:=(Le3 y3 y5 y6).trans y7;refine zl ((S.cell (i:=j) (by omega)).mono J1_).cells<|zz 9<|zw 22 (x:=((j+k:Nat):Int))<|zz 1<|zop (at1 [K7] Tryz.f266 [1,1,1,0,1,0,0,1,1,0,0,1]) 5 (fun a11 _ G11 hz11=>zKw 2 0 G11 C rfl rfl (qBn _ g N b3 (j+k) m cap F y (l2.getD j 0) c (C.ne (i:=2) (j:=0) rfl rfl (by decide)) (C.ne (i:=1) (j:=2) rfl rfl (by decide)) (C.ne (i:=1) (j:=0) rfl rfl (by decide)) (C.get 2 rfl) G (C.get 0 rfl) (C.atX 1 rfl (fun _ hx=>hx.elim (C.ne (i:=1) (j:=2) rfl rfl (by decide)) (C.ne (i:=1) (j:=0) rfl rfl (by decide)))) (by omega) (by first | exact S.getD_lt _ | omega) (by omega) (by omega)) ?_)
  rintro v12 w12 ⟨rfl,Q12,hg12,D12,hbc12⟩ Z y12 a13 G13;have C12:=Z _ _ hg12 hbc12;refine hz11 G13<|zz 5<|zw 25 (x:=(j:Int)+1)<|zz 2 ?_;refine kL (fun a h=>Z7 (j+1) _ a h ⟨_,Q12,(y.set (j+k) ((y.getD (j+k) 0+l2.getD j 0+c) % 4294967296)),((y.getD (j+k) 0+l2.getD j 0+c) / 4294967296),C12,(Le2 y7 y12),D12,by omega,by have:=S.getD_lt j;have:=G.getD_lt (j+k);omega,qJl _ _ _ _ _ _ (by omega) (by omega) z⟩ ?_)
  first | omega | (simp<;>omega)
 refine zz 12<|zw 29 (x:=((l2.length+k:Nat):Int))<|zz 4 ?_;have T:=z;have hj1:=hp7_1;obtain rfl:j=l2.length:=by omega
 rw[List.take_length]at T;refine zlp Tryz.f266 [K7] [1,1,1,1,1,0] (fun(j:Nat)=>[(6,.pointer (some ⟨N,0,none⟩)),(7,.func (.func 282) #[] #[.pointer (some ⟨b3,0,none⟩),.pointer (some ⟨N,0,none⟩)]),(10,.int .i64 (j:Int))]) (fun j w1=>∃(Y1:Hid)(F:Array Value)(y:List Nat)(c:Nat),St (·=g) w (HG g) w1 Y1 [(N,.cells #[.int .u32 (c:Int)] 214 (0,0)),(b3,.cells #[.slice (some ⟨g,0,none⟩) m cap] 26 (0,0)),(g,.cells F 214 (0,0))]∧Le (rd w7 Y7) (rd w1 Y1)∧(zX m cap F y)∧(c≤1)∧(val y+c*4294967296^j=val l+4294967296^k*val l2)) (fun j=>m-j) (l2.length+k) ?_ ?_
 ·
  refine⟨_,F,y,c,C,Le.refl _,G,hp7_2,T⟩
 rintro j w14 K14 Z14 ⟨Y14,F,y,c,f,y14,I,J,q⟩;have G:=I;have hlen1:=G.len;refine zz 3<|zo 0 f<|zz 3<|zb 31 (b:=((c:Int)!=0)) (fun W=>?_) (fun W=>?_)
 ·
  have F16:(c:Int)≠0:=by simpa using W
  have hjm:j<m:=zKy (i:=j) (len:=m) (v:=val l+4294967296^k*val l2) (by have h1:=q;obtain rfl:c=1:=(by have:=J;omega);omega) hsum
  refine zz 8<|zop (at1 [K7,K14] Tryz.f266 [1,1,1,1,1,0,0,1,0,0]) 2 (fun a17 _ G17 hz17=>zKw 2 0 G17 f rfl rfl (qBn _ g N b3 (j) m cap F y (0) c (f.ne (i:=2) (j:=0) rfl rfl (by decide)) (f.ne (i:=1) (j:=2) rfl rfl (by decide)) (f.ne (i:=1) (j:=0) rfl rfl (by decide)) (f.get 2 rfl) G (f.get 0 rfl) (f.atX 1 rfl (fun _ hx=>hx.elim (f.ne (i:=1) (j:=2) rfl rfl (by decide)) (f.ne (i:=1) (j:=0) rfl rfl (by decide)))) (by omega) (by first | exact S.getD_lt _ | omega) (by omega) (by omega)) ?_)
  rintro v18 w18 ⟨rfl,Q18,hg18,D18,hbc18⟩ hSf18 y18 a19 G19;have C18:=hSf18 _ _ hg18 hbc18;refine hz17 G19<|zz 6<|zw 33 (x:=(j:Int)+1)<|zz 2 ?_;refine kL (fun a h=>Z14 (j+1) _ a h ⟨_,Q18,(y.set (j) ((y.getD (j) 0+0+c) % 4294967296)),((y.getD (j) 0+0+c) / 4294967296),C18,(Le2 y14 y18),D18,by have:=G.getD_lt j;omega,qBp _ _ _ _ (by omega) q⟩ ?_)
  first | omega | (simp<;>omega)
 have F20:(c:Int)=0:=by simpa using W
 obtain rfl:c=0:=by omega
 refine zz 5<|zr' (v:= .tuple #[]) ?_;exact⟨f.upd,_,rfl,rfl,_,_,f.get 2 rfl,G,by have:=q;simpa using this⟩
end Go.Proofs.YtdfmdiakjdggbaaGreatDoor
namespace Go.Proofs.YtdfmdiakjdggbaaGreatDoor
open Go Go.Gv Go.RowKit IntKind
set_option maxRecDepth 100000
set_option maxHeartbeats 1000000
theorem qVi(w:World)(X:Hid)(hX:∀k o,X k o→k<w.heap.size)(x:Nat)(I:x<18446744073709551616):Calls Tryz.prog 174 #[.int .u64 (x:Int)] w (Ret E0 w fun w' v=>∃l ad len cap,zIx w w' 214 v l ad len cap∧zW l∧val l=x):=by
 refine zen Tryz.func174 ?_;have z:St E0 w X w X []:=St.start hX;refine zz 9<|zs 4 (v:= .int .u32 (IntKind.u32.wrap ((x:Int)))) (v':= .int .u32 ((x % 4294967296:Nat):Int)) (zQ (by rw[yR];omega))<|zz 2<|zs 6 (v:= .int .u64 (Int.fdiv ((x:Int)) (2^32))) (v':= .int .u64 ((x / 4294967296:Nat):Int)) (zQ (by rw[wH _ 32 (c:=4294967296) (by decide) (by decide)];omega))<|zz 1<|zs 7 (v:= .int .u32 (IntKind.u32.wrap (((x / 4294967296:Nat):Int)))) (v':= .int .u32 ((x / 4294967296 % 4294967296:Nat):Int)) (zQ (by rw[yR];omega))<|zn (fun b=> .slice (some ⟨b,0,none⟩) 2 2) (.cells #[.int .u32 ((x % 4294967296:Nat):Int),.int .u32 ((x / 4294967296 % 4294967296:Nat):Int)] 214 (0,0)) z fun b3 N H q S F=>?_
 have j:zX 2 2 #[.int .u32 ((x % 4294967296:Nat):Int),.int .u32 ((x / 4294967296 % 4294967296:Nat):Int)] [x % 4294967296,x / 4294967296 % 4294967296]:=zX.of [x % 4294967296,x / 4294967296 % 4294967296] (by intro y C;simp at C;omega) (by simp[maxLen]) (by simp[U32]) (by simp)
 refine zc q (aY _ X0 (zZ _) _ _ _ ([x % 4294967296,x / 4294967296 % 4294967296]) (zX.limbs (Y:=X0) j (q.get 0 rfl) (fun _ h=>h.elim))) ?_ (vs:=#[.slice (some ⟨b3,0,none⟩) 2 2]);rintro J O f T G rfl;refine zz 4<|zr' (v:= .slice (some ⟨b3,0,none⟩) (qV ([x % 4294967296,x / 4294967296 % 4294967296])) 2) ?_;exact⟨f.upd,_,rfl,Go.Gv.trimmed [x % 4294967296,x / 4294967296 % 4294967296],_,_,_,⟨rfl,(jM _).symm,tH j.lt,.inr ⟨_,_,rfl,f.own_ge 0 rfl,f.get 0 rfl,j.trimmed⟩⟩,qY _,by rw[jK];simp only[val];omega⟩
theorem pF(w:World)(g m cap:Nat)(cur:Array Value)(l:List Nat)(hg:w.heap[g]?=some (.cells cur 214 (0,0)))(U:zX m cap cur l)(hm:m≤1099511627776)
    (N:Option Addr) (W P2:Nat) (l2:List Nat) (h2:zN (rd w (HG g)) N W P2 l2) (hll:l2.length≤l.length) (hle:val l2≤val l):
    Calls Tryz.prog 226 #[.slice (some ⟨g,0,none⟩) m cap,.slice N W P2] w (Ret (·=g) w fun w' v=>∃T l',v= .slice (some ⟨g,0,none⟩) l'.length cap∧w'.heap[g]?=some (.cells T 214 (0,0))∧zX l'.length cap T l'∧zW l'∧val l'=val l-val l2):=by
 obtain rfl:=h2.hlen;have hcap2:=h2.hcap;have hbig2:=h2.hbig;refine zen Tryz.func226 ?_;have hX:∀k o,HG g k o→k<w.heap.size:=by rintro k o rfl;exact(Array.getElem?_eq_some_iff.1 hg).1
 have C0:St (·=g) w (HG g) w (HG g) [(g,.cells cur 214 (0,0))]:=St.startE g _ hX hg (fun _=>rfl);have hlen:=U.len;refine zz 19<|zlp Tryz.f226 [] [1,1,0,1,0] (fun((j,c):Nat×Nat)=>[(0,.slice (some ⟨g,0,none⟩) m cap),(1,.slice N l2.length P2),(5,.int .u32 (c:Int)),(9,.slice N l2.length P2),(10,.int .i64 (l2.length:Int)),(11,.int .i64 (j:Int))]) (fun((j,c):Nat×Nat)w1=>∃(Y1:Hid)(J:Array Value)(f:List Nat),St (·=g) w (HG g) w1 Y1 [(g,.cells J 214 (0,0))]∧Le (rd w (HG g)) (rd w1 Y1)∧(zX m cap J f)∧(j≤l2.length)∧(c≤1)∧(val f+val (l2.take j)=val l+c*4294967296^j)) (fun((j,c):Nat×Nat)=>l2.length-j) (0,0) ?_ ?_
 ·
  refine⟨_,cur,l,C0,Le.refl _,U,Nat.zero_le _,by omega,by simp[val]⟩
 rintro⟨j,c⟩ w2 K2 Z2 ⟨Y2,J,f,C2,y2,hp2_0,hp2_1,H,I⟩;have z:=hp2_0;have F:=z.len;have G:=z.getD_lt j;have hlt2:=h2.getD_lt j;have J1:=H;refine zz 6<|zt 12 (p:=(j:Int)<(l2.length:Int)) (fun F3=>?_) (fun F3=>?_)
 ·
  obtain⟨bk4,of5,rfl,_⟩:=h2.addr (by omega)
  refine zz 8<|zi (b:=bk4) (off:=of5) (len:=l2.length) (cap:=P2) (kd:= .i64) (i:=(j:Int)) 1 (of5+j)<|zl ((h2.cell (i:=j) (by omega)).mono y2).cells<|zz 9<|zi (b:=g) (off:=0) (len:=m) (cap:=cap) (kd:= .i64) (i:=(j:Int)) 1 j<|zl (ad:=⟨g,j,none⟩) (C2.rowCells 0 rfl z (by have:=z.len;(try simp only[List.length_set]at *);omega))<|zz 2<|zc C2 (qRo _ _ C2.lt ((f.getD j 0:Nat):Int) ((l2.getD j 0:Nat):Int) (c:Int) ⟨by omega,by omega⟩ ⟨by omega,by omega⟩ ⟨by omega,by omega⟩) ?_
  rintro v7 w7 C7 y7 N7 rfl;refine zz 3<|zi (b:=g) (off:=0) (len:=m) (cap:=cap) (kd:= .i64) (i:=(j:Int)) 1 j<|zop (at1 [K2] Tryz.f226 [1,1,0,1,0,0,1,1,0,0,1]) 13 (fun a8 _ G8 hz8=>vN (y:=(zBr (f.getD j 0) (l2.getD j 0) c)) (k:=j) (e:=((((f.getD j 0:Nat):Int)-((l2.getD j 0:Nat):Int)) % 4294967296-(c:Int)) % 4294967296) 0 G8 C7 (by unfold zBr;omega) rfl z (by have:=z.len;(try simp only[List.length_set]at *);omega) (zXv _ _ _) ?_)
  intro Q9 w9 D9 C9 y9;refine hz8 G8<|zz 1<|zs 5 (v:= .int .u32 (if((f.getD j 0:Nat):Int)<((l2.getD j 0:Nat):Int)+(c:Int)then 1 else 0)) (v':= .int .u32 ((brw (f.getD j 0) (l2.getD j 0) c:Nat):Int)) (zQ (by unfold brw;(repeat' split)<;>omega))<|zz 5<|zw 29 (x:=(j:Int)+1)<|zz 2 ?_
  refine kL (fun a h=>Z2 ((j+1,brw (f.getD j 0) (l2.getD j 0) c)) _ a h ⟨_,Q9,(f.set j (zBr (f.getD j 0) (l2.getD j 0) c)),C9,(Le3 y2 y7 y9),D9,by omega,qCd _ _ _,qOm _ _ _ _ _ (by omega) (by omega) G hlt2 J1 I⟩ ?_)
  first | omega | (simp<;>omega)
 refine zz 15 ?_;have V:=I;have hj1:=hp2_1;obtain rfl:j=l2.length:=by omega
 rw[List.take_length]at V;refine zlp Tryz.f226 [K2] [1,1,1,0,1,0] (fun((j,c):Nat×Nat)=>[(0,.slice (some ⟨g,0,none⟩) m cap),(5,.int .u32 (c:Int)),(8,.int .i64 (j:Int))]) (fun(j,c)w1=>∃(Y1:Hid)(J:Array Value)(f:List Nat),St (·=g) w (HG g) w1 Y1 [(g,.cells J 214 (0,0))]∧Le (rd w2 Y2) (rd w1 Y1)∧(zX m cap J f)∧(c≤1)∧(val f+val l2=val l+c*4294967296^j)) (fun(j,c)=>m-j) (l2.length,c) ?_ ?_
 ·
  refine⟨_,J,f,C2,Le.refl _,z,H,V⟩
 rintro⟨j,c⟩ w10 K10 Z10 ⟨Y10,J,f,C,y10,O,S,q⟩;have z:=O;have F:=z.len;have G:=z.getD_lt j;have J1:=S;refine zz 7<|zb 33 (b:=((c:Int)!=0)) (fun Z=>?_) (fun Z=>?_)
 ·
  have F12:(c:Int)≠0:=by simpa using Z
  have hjm:j<m:=(by have h3:=xH z.lt;rw[F]at h3;refine zKy (i:=j) (len:=m) (v:=val f) ?_ h3;have h1:=q;obtain rfl:c=1:=(by omega);omega)
  refine zz 10<|zi (b:=g) (off:=0) (len:=m) (cap:=cap) (kd:= .i64) (i:=(j:Int)) 1 j<|zl (ad:=⟨g,j,none⟩) (C.rowCells 0 rfl z (by have:=z.len;(try simp only[List.length_set]at *);omega))<|zz 1<|zc C (qRo _ _ C.lt ((f.getD j 0:Nat):Int) 0 (c:Int) ⟨by omega,by omega⟩ ⟨by omega,by omega⟩ ⟨by omega,by omega⟩) ?_
  rintro v14 w14 C14 y14 N14 rfl;refine zz 3<|zi (b:=g) (off:=0) (len:=m) (cap:=cap) (kd:= .i64) (i:=(j:Int)) 1 j<|zop (at1 [K2,K10] Tryz.f226 [1,1,1,0,1,0,0,1,0,0]) 12 (fun a15 _ G15 hz15=>vN (y:=(zBr (f.getD j 0) 0 c)) (k:=j) (e:=((((f.getD j 0:Nat):Int)-(0:Int)) % 4294967296-(c:Int)) % 4294967296) 0 G15 C14 (by unfold zBr;omega) rfl z (by have:=z.len;(try simp only[List.length_set]at *);omega) (zXv _ _ _) ?_)
  intro Q16 w16 D16 C16 y16;refine hz15 G15<|zz 1<|zs 5 (v:= .int .u32 (if((f.getD j 0:Nat):Int)<(0:Int)+(c:Int)then 1 else 0)) (v':= .int .u32 ((brw (f.getD j 0) 0 c:Nat):Int)) (zQ (by unfold brw;(repeat' split)<;>omega))<|zz 6<|zw 35 (x:=(j:Int)+1)<|zz 2 ?_
  refine kL (fun a h=>Z10 ((j+1,brw (f.getD j 0) 0 c)) _ a h ⟨_,Q16,(f.set j (zBr (f.getD j 0) 0 c)),C16,(Le3 y10 y14 y16),D16,qCd _ _ _,qHz _ _ _ _ _ (by omega) G J1 q⟩ ?_)
  first | omega | (simp<;>omega)
 have F17:(c:Int)=0:=by simpa using Z
 have J0:c=0:=by omega
 refine zz 9<|zc C (aY _ X0 (zZ _) _ _ _ f (zX.limbs (Y:=X0) z (C.get 0 rfl) (fun _ h=>h.elim))) ?_ (vs:=#[.slice (some ⟨g,0,none⟩) m cap]);rintro v19 w19 C19 y19 N19 rfl;refine zz 4<|zr' (v:= .slice (some ⟨g,0,none⟩) (qV f) cap) ?_;exact⟨C19.upd,_,rfl,J,Go.Gv.trimmed f,by rw[jM],C19.get 0 rfl,by rw[jM];exact z.trimmed,qY _,by rw[jK];have h9:=q;rw[J0]at h9;omega⟩
set_option maxHeartbeats 1000000
theorem zEc(l bx:Nat)(ad:Option Addr)(len cap:Nat)(xs:List Nat)(hlen:len=xs.length)(hbig:len≤1099511627776)(J:Nat→World→Prop)(R:World→Prop)
    (z:∀k w,J k w→At (rd w X0) ⟨bx,0,none⟩ [.slice ad len cap])
    (hel:∀k w,J (k+1) w→k<len→∃b off,ad=some ⟨b,off,none⟩∧At (rd w X0) ⟨b,off+k,none⟩ [.int .u32 ((xs.getD k 0:Nat):Int)])
    (hY:∀k w,k<len→J (k+1) w→YieldAt (FF none) 0 Tryz.prog l #[.int .i64 (k:Int),.int .u32 ((xs.getD k 0:Nat):Int)] w (vB (J k) R))
    (h0:∀w,J 0 w→R w) (w:World) (hJ:J len w):Calls Tryz.prog 280 #[.func (.yield l) #[] #[],.pointer (some ⟨bx,0,none⟩)] w (fun e w'=>(∃v,e= .returned v)∧R w'):=by
 refine zFp (n:=19) (vs:=[.func (.yield l) #[] #[],.pointer (some ⟨bx,0,none⟩)]) Tryz.func280 rfl rfl rfl kr (fun a0 W=>?_);have W:Fr 19 a0 [(0,.func (.yield l) #[] #[]),(1,.pointer (some ⟨bx,0,none⟩))]:=W;have C0:St E0 w X0 w X0 []:=St.start (zZ _);refine zG (fun K1 Z1=>?_);refine zC ?_;refine qW W kr (zE (d:=4) (v:= .slice ad len cap) W kr (zB (t:=26) (g:=false) (vs:=[.slice ad len cap]) (ad:=⟨bx,0,none⟩) rfl kr kr ir ((z _ _ hJ)).cells) ?_);intro a2 G2;refine zD 2 [(6,.int .i64 (i64.wrap ((len:Int)-1))),(5,.int .i64 (len:Int))] G2 kr kr (fun a3 G3=>?_);have G4:=G3.set 6 (v':= .int .i64 ((len:Int)-1)) kr rfl (zQ (aZ (by omega) (by omega)))
 refine zD 1 [(3,.int .i64 ((len:Int)-1))] G4 kr kr (fun a5 G5=>?_);refine zH<|zA (Z1 _ _ ?_);refine yZ ?_;refine lJ (fun(k:Nat)a w1=>Fr 19 a [(0,.func (.yield l) #[] #[]),(1,.pointer (some ⟨bx,0,none⟩)),(3,.int .i64 ((k:Int)-1))]∧J k w1∧k≤len) (fun k=>k) len ?_ ?_
 ·
  exact⟨G5.as [0,1,3] kr kr,hJ,Nat.le_refl _⟩
 rintro k a6 w6 ⟨G6,C,hk⟩;have C6:St E0 w6 X0 w6 X0 []:=St.start (zZ _);refine zG (fun K7 Z7=>?_);refine zG (fun K8 Z8=>?_);refine zC<|zD 2 [(8,.bool (decide (((k:Int)-1)≥0))),(7,.int .i64 ((k:Int)-1))] G6 kr kr (fun a9 G9=>?_);refine zH<|zA (Z8 _ _ ?_);refine nL (decide (((k:Int)-1)≥0)) G9 kr kr (fun q=>?_) (fun q=>?_)
 ·
  have G11:=G9.set 8 (v':= .bool true) kr rfl (zK q);have F12:((k:Int)-1)≥0:=of_decide_eq_true q;obtain⟨j,rfl⟩:∃j,k=j+1:=⟨k-1,by omega⟩
  have G13:=G11.set 3 (v:= .int .i64 (((j+1:Nat):Int)-1)) (v':= .int .i64 (j:Int)) kr kr (zQ (by omega))
  obtain⟨b,off,rfl,T⟩:=hel j _ C (by omega)
  refine wW<|zA (Z7 _ _ ?_);refine zG (fun K14 Z14=>?_);refine yZ<|zG (fun K15 Z15=>?_);refine zC<|zD 2 [(12,.int .i64 (j:Int)),(11,.func (.yield l) #[] #[])] G13 kr kr (fun a16 H=>?_);refine qW H kr (zE (d:=13) (v:= .slice (some ⟨b,off,none⟩) len cap) H kr (zB (t:=26) (g:=false) (vs:=[.slice (some ⟨b,off,none⟩) len cap]) (ad:=⟨bx,0,none⟩) rfl kr kr ir ((z _ _ C)).cells) ?_);intro a17 G17;refine zD 1 [(14,.int .i64 (j:Int))] G17 kr kr (fun a18 I=>?_);refine qW I kr (zE (d:=15) (v:= .pointer (some ⟨b,off+j,none⟩)) I kr (jF (t:=26) (e:=214) (b:=b) (off:=off) (len:=len) (cap:=cap) (kd:= .i64) (i:=(j:Int)) (g:=false) (m:=1) (off':=off+j) rfl kr kr kr kr (by omega) (by omega) (by first | rfl | omega | (simp;done) | (simp;omega)) _) ?_)
  intro a19 N;refine qW N kr (zE (d:=16) (v:= .int .u32 ((xs.getD j 0:Nat):Int)) N kr (zB (t:=214) (g:=false) (vs:=[.int .u32 ((xs.getD j 0:Nat):Int)]) (ad:=⟨b,off+j,none⟩) rfl kr kr ir (T).cells) ?_);intro a20 G20;refine zLh (d:=17) (l:=l) (vs:=#[.int .i64 (j:Int),.int .u32 ((xs.getD j 0:Nat):Int)]) G20 kr rfl kr kr (hY j _ (by omega) C) (fun _ _ h=>h.ret) ?_
  rintro v21 V ⟨f,U,O,S⟩ a22 G22;cases U;have C21:St E0 V X0 V X0 []:=St.start (zZ _);refine zD 1 [(18,.bool (!f))] G22 kr kr (fun a23 F=>?_);refine zH<|zA (Z15 _ _ ?_);refine nL (!f) F kr kr (fun y=>?_) (fun y=>?_)
  ·
   have G25:=F.set 18 (v':= .bool true) kr rfl (zK y);have Z:f=false:=by simpa using y
   have G:=Z;refine mI ?_;refine dQ ?_;refine mY ?_;refine mY ?_;refine dQ<|zVf (v:= .tuple #[]) (rs:=[]) G25 kr Res.nil kr ?_;exact⟨⟨_,rfl⟩,(S G)⟩
  have G27:=F.set 18 (v':= .bool false) kr rfl (zK y);have F28:f=true:=by simpa using y
  have G:=F28;refine wW ?_;refine yN<|zA (Z14 _ _ ?_);refine zC<|zD 2 [(10,.int .i64 (i64.wrap ((j:Int)-1))),(9,.int .i64 (j:Int))] G27 kr kr (fun a29 G29=>?_);have G30:=G29.set 10 (v':= .int .i64 ((j:Int)-1)) kr rfl (zQ (aZ (by omega) (by omega)))
  refine zD 1 [(3,.int .i64 ((j:Int)-1))] G30 kr kr (fun a31 G31=>?_);refine zH<|zA ?_;exact⟨j,⟨G31.as [0,1,3] kr kr,O G,by omega⟩,by show j<j+1;omega⟩
 have G32:=G9.set 8 (v':= .bool false) kr rfl (zK q);have F33:¬(((k:Int)-1)≥0):=of_decide_eq_false q;have hk0:k=0:=by omega
 refine aK ?_;refine rP ?_;refine rP ?_;refine nZ<|zOn (v:= .tuple #[]) (rs:=[]) G32 kr Res.nil kr ?_;exact⟨⟨_,rfl⟩,(h0 _ (hk0▸C))⟩
set_option maxHeartbeats 1000000
theorem zGf(w:World)(X:Hid)(hX:∀k o,X k o→k<w.heap.size)(ad:Option Addr)(len cap:Nat):Calls Tryz.prog 263 #[.slice ad len cap] w (Ret E0 w fun w' v=>∃bx,v= .func (.func 280) #[] #[.pointer (some ⟨bx,0,none⟩)]∧w.heap.size≤bx∧w'.heap[bx]?=some (.cells #[.slice ad len cap] 26 (0,0))):=by
 refine zen Tryz.func263 ?_;have j:St E0 w X w X []:=St.start hX;refine zz 2<|zn pn (.cells #[.slice ad len cap] 26 (0,0)) j fun b3 z y f C q=>zz 10<|zr' (v:= .func (.func 280) #[] #[.pointer (some ⟨b3,0,none⟩)]) ?_;exact⟨f.upd,_,rfl,_,rfl,f.own_ge 0 rfl,f.get 0 rfl⟩
theorem fA{x y:Nat}(h:qM (x:Int) (y:Int)=0):x=y:=by unfold qM at h;(repeat' split at h)<;>omega
theorem pW{x y:Nat}(h:x<y):qM (x:Int) (y:Int)= -1:=by unfold qM;rw[if_pos (by omega)]
theorem pV{x y:Nat}(h:y<x):qM (x:Int) (y:Int)=1:=by unfold qM;rw[if_neg (by omega),if_pos (by omega)]
theorem zCf(x:Int):qM x x=0:=by unfold qM;rw[if_neg (by omega),if_neg (by omega)]
theorem zZo{l l2:List Nat}(q:∀x∈l,x<4294967296)(y:∀x∈l2,x<4294967296)(f:zW l)(j:zW l2)(h:qM (l.length:Int) (l2.length:Int)≠0):qM (l.length:Int) (l2.length:Int)=qM (val l) (val l2):=by
 rcases Nat.lt_trichotomy l.length l2.length with e | e | e
 ·rw[pW e,pW (zEo q j e)]
 ·rw[e,zCf]at h;exact absurd rfl h
 ·rw[pV e,pV (zEo y f e)]
theorem zZp{l l2:List Nat}(q:∀x∈l,x<4294967296)(y:∀x∈l2,x<4294967296)(hlen:l.length=l2.length)(k:Nat)(z:k<l.length)(f:∀j,k+1≤j→j<l.length→l.getD j 0=l2.getD j 0)
  (h:qM ((l.getD k 0:Nat):Int) ((l2.getD k 0:Nat):Int)≠0):qM ((l.getD k 0:Nat):Int) ((l2.getD k 0:Nat):Int)=qM (val l) (val l2):=by
 rcases Nat.lt_trichotomy (l.getD k 0) (l2.getD k 0)with e | e | e
 ·rw[pW e,pW (zYa q hlen k z f e)]
 ·rw[e,zCf]at h;exact absurd rfl h
 ·rw[pV e,pV (zYa y hlen.symm k (by omega) (fun j q y=>(f j q (by omega)).symm) e)]
theorem qGm{l l2:List Nat}(hlen:l.length=l2.length)(f:∀j,0≤j→j<l.length→l.getD j 0=l2.getD j 0):(0:Int)=qM (val l) (val l2):=by rw[jAr hlen f,zCf]
theorem zBf(w:World)(X:Hid)(hX:∀k o,X k o→k<w.heap.size)(ad:Option Addr)(len cap:Nat)(l:List Nat)(h:zN (rd w X) ad len cap l)(z:Option Addr)(Z O:Nat)(l2:List Nat)(h2:zN (rd w X) z Z O l2)(c1:zW l)(c2:zW l2)(hm:len≤1099511627776):Calls Tryz.prog 225 #[.slice ad len cap,.slice z Z O] w (Ret E0 w fun _ v=>v= .int .i64 (qM (val l) (val l2))):=by
 obtain rfl:=h.hlen;obtain rfl:=h2.hlen;have hcap:=h.hcap;have hbig:=h.hbig;have hcap2:=h2.hcap;have hbig2:=h2.hbig;refine zMr (n:=30) (vs:=[.slice ad l.length cap,.slice z l2.length O]) Tryz.func225 rfl rfl rfl kr (fun a0 G0=>?_);have G0:Fr 30 a0 [(0,.slice ad l.length cap),(1,.slice z l2.length O)]:=G0;have C0:St E0 w X w X []:=St.start hX;refine zG (fun K1 Z1=>?_);refine zC ?_;refine qW G0 kr (lN (d:=3) (fun b=> .pointer (some ⟨b,0,none⟩)) (.cells #[.slice z l2.length O] 26 (0,0)) G0 kr C0 kw ?_);intro b2 w2 Y2 C2 y2 N2 a3 G3;refine qW G3 kr (lN (d:=4) (fun b=> .pointer (some ⟨b,0,none⟩)) (.cells #[.int .i64 0] 3 (0,0)) G3 kr C2 kw ?_);intro b4 w4 Y4 C4 y4 N4 a5 G5;refine zH<|zA (Z1 _ _ ?_);refine zG (fun K6 Z6=>?_);refine zG (fun K7 Z7=>?_);refine zC<|zD 2 [(10,.int .i64 (l.length:Int)),(9,.slice ad l.length cap)] G5 kr kr (fun a8 G8=>?_);refine qW G8 kr (zE (d:=11) (v:= .slice z l2.length O) G8 kr (zB (t:=26) (g:=false) (vs:=[.slice z l2.length O]) (ad:=⟨b2,0,none⟩) rfl kr kr ir (C4.cells 1 rfl rfl)) ?_);intro a9 G9;refine zD 1 [(12,.int .i64 (l2.length:Int))] G9 kr kr (fun a10 G10=>?_);refine qW G10 kr (kC (d:=13) (f:=171) (cap:=#[]) (vs:=#[.int .i64 (l.length:Int),.int .i64 (l2.length:Int)]) G10 kr C4 rfl kr kr (fun w=>Tryz.call171 _ w) (zOv _ _ C4.lt (l.length:Int) (l2.length:Int)) ?_);rintro v11 w11 I y11 N11 rfl a12 G12;refine zD 1 [(5,.int .i64 (qM (l.length:Int) (l2.length:Int)))] G12 kr kr (fun a13 G13=>?_);refine zH<|zA (Z7 _ _ ?_);refine zG (fun K14 Z14=>?_);refine zC<|zD 2 [(15,.bool ((qM (l.length:Int) (l2.length:Int))!=0)),(14,.int .i64 (qM (l.length:Int) (l2.length:Int)))] G13 kr kr (fun a15 G15=>?_);refine zH<|zA (Z14 _ _ ?_);refine nL ((qM (l.length:Int) (l2.length:Int))!=0) G15 kr kr (fun J=>?_) (fun J=>?_);have G17:=G15.set 15 (v':= .bool true) kr rfl (zK J);have F18:(qM (l.length:Int) (l2.length:Int))≠0:=by simpa using J
 refine zG (fun K19 Z19=>?_);refine zC<|zD 1 [(16,.int .i64 (qM (l.length:Int) (l2.length:Int)))] G17 kr kr (fun a20 G20=>?_);refine qW G20 kr (zF (t:=3) (b:=b4) (off:=0) (c':=#[.int .i64 (qM (l.length:Int) (l2.length:Int))]) (g:=false) (m:=1) 0 _ G20 kr I rfl kr rfl kr kr kr rfl (by first | decide | (simp;done)) kr rfl ?_)
 intro w21 C21 y21;refine zH<|zA (Z19 _ _ ?_);refine mI ?_;refine mY ?_;refine qXu (v:= .int .i64 (qM (l.length:Int) (l2.length:Int))) (rs:=[.cell 4 3]) G20 kr (Res.cell (ad:=⟨b4,0,none⟩) (cs:=[.int .i64 (qM (l.length:Int) (l2.length:Int))]) (g:=false) kr kr kr ir (C21.cells 0 rfl rfl) Res.nil) kr ?_;exact⟨C21.upd,_,rfl,zQ (zZo h.hlt h2.hlt c1 c2 F18)⟩;have G22:=G15.set 15 (v':= .bool false) kr rfl (zK J);have F23:(qM (l.length:Int) (l2.length:Int))=0:=by simpa using J
 have T:=fA F23;refine wW<|zA (Z6 _ _ ?_);refine zG (fun K24 Z24=>?_);refine zG (fun K25 Z25=>?_);refine zC<|zD 1 [(17,.slice ad l.length cap)] G22 kr kr (fun a26 G26=>?_);refine qW G26 kr (kC (d:=18) (f:=263) (cap:=#[]) (vs:=#[.slice ad l.length cap]) G26 kr I rfl kr kr (fun w=>Tryz.call263 _ w) (zGf _ _ I.lt ad l.length cap) ?_);rintro v27 w27 C27 y27 N27 ⟨S,rfl,F,V⟩ a28 G28;have C29:=St.adopt C27 (fun o h=>Nat.not_lt.2 F (I.lt _ _ h)) (Nat.le_trans I.upd.size F) V;have y29:=Le.adopt y27 F;refine zH<|zA (Z25 _ _ ?_);refine yZ<|zGx (f:=280) (caps:=#[.pointer (some ⟨S,0,none⟩)]) G28 C29 kr kr (fun args w=>Tryz.call280 args w) fun rec30 l30 b30 w30 Y30 H C30 y30 N30=>?_;have U:=zCn b30 G28;refine zEc l30 S ad l.length cap l rfl (by omega) (fun k w'=>∃(Y':Hid),St E0 w X w' Y' [(l30,.loop rec30),(b30,.deferred (some [])),(S,.cells #[.slice ad l.length cap] 26 (0,0)),(b4,.cells #[.int .i64 0] 3 (0,0)),(b2,.cells #[.slice z l2.length O] 26 (0,0))]∧Le (rd w30 Y30) (rd w' Y')∧(∀j,k≤j→j<l.length→l.getD j 0=l2.getD j 0)) _ ?_ ?_ ?_ ?_ _ ?_
 rintro k w32 ⟨Y32,C32,y32,hp32_0⟩;exact C32.at0 2 rfl rfl;rintro k w33 ⟨Y33,C33,y33,hp33_0⟩;intro hk;obtain⟨b,off,rfl,_⟩:=h.addr (by omega)
 exact⟨b,off,rfl,((h.cell (i:=k) (by omega)).mono (Le6 y2 y4 y11 y29 y30 y33)).mono Le.x0⟩
 intro k w34 hk;rintro⟨Y34,C34,y34,G⟩;refine zIu (p:=19) (q:=20) H G28 C34 kr kr (fun a35 G35=>?_);obtain⟨C,y,rfl,_⟩:=h2.addr (by omega)
 refine zG (fun K38 Z38=>?_);refine zC<|zD 1 [(6,.int .i64 (k:Int))] G35 kr kr (fun a39 G39=>?_);refine zH<|zA (Z38 _ _ ?_);refine zC<|zD 1 [(7,.int .u32 ((l.getD k 0:Nat):Int))] G39 kr kr (fun a40 G40=>?_);refine zH<|zA<|zCc H C34 (fun w41 C41 y41=>?_);refine yZ<|zG (fun K42 Z42=>?_);refine zC<|zD 1 [(21,.int .u32 ((l.getD k 0:Nat):Int))] G40 kr kr (fun a43 G43=>?_);refine qW G43 kr (zE (d:=22) (v:= .slice (some ⟨C,y,none⟩) l2.length O) G43 kr (zB (t:=26) (g:=false) (vs:=[.slice (some ⟨C,y,none⟩) l2.length O]) (ad:=⟨b2,0,none⟩) rfl kr kr ir (C41.cells 4 rfl rfl)) ?_);intro a44 G44;refine zD 1 [(23,.int .i64 (k:Int))] G44 kr kr (fun a45 G45=>?_);refine qW G45 kr (zE (d:=24) (v:= .pointer (some ⟨C,y+k,none⟩)) G45 kr (jF (t:=26) (e:=214) (b:=C) (off:=y) (len:=l2.length) (cap:=O) (kd:= .i64) (i:=(k:Int)) (g:=false) (m:=1) (off':=y+k) rfl kr kr kr kr (by omega) (by omega) (by first | rfl | omega | (simp;done) | (simp;omega)) _) ?_)
 intro a46 G46;refine qW G46 kr (zE (d:=25) (v:= .int .u32 ((l2.getD k 0:Nat):Int)) G46 kr (zB (t:=214) (g:=false) (vs:=[.int .u32 ((l2.getD k 0:Nat):Int)]) (ad:=⟨C,y+k,none⟩) rfl kr kr ir ((h2.cell (i:=k) (by omega)).mono (Le7 y2 y4 y11 y29 y30 y34 y41)).cells) ?_)
 intro a47 G47;refine qW G47 kr (kC (d:=26) (f:=264) (cap:=#[]) (vs:=#[.int .u32 ((l.getD k 0:Nat):Int),.int .u32 ((l2.getD k 0:Nat):Int)]) G47 kr C41 rfl kr kr (fun w=>Tryz.call264 _ w) (zGk _ _ C41.lt ((l.getD k 0:Nat):Int) ((l2.getD k 0:Nat):Int)) ?_);rintro v48 w48 C48 y48 N48 rfl a49 G49;refine zD 1 [(8,.int .i64 (qM ((l.getD k 0:Nat):Int) ((l2.getD k 0:Nat):Int)))] G49 kr kr (fun a50 G50=>?_);refine zH<|zA (Z42 _ _ ?_);refine zG (fun K51 Z51=>?_);refine zC<|zD 2 [(28,.bool ((qM ((l.getD k 0:Nat):Int) ((l2.getD k 0:Nat):Int))!=0)),(27,.int .i64 (qM ((l.getD k 0:Nat):Int) ((l2.getD k 0:Nat):Int)))] G50 kr kr (fun a52 G52=>?_);refine zH<|zA (Z51 _ _ ?_);refine nL ((qM ((l.getD k 0:Nat):Int) ((l2.getD k 0:Nat):Int))!=0) G52 kr kr (fun N=>?_) (fun N=>?_);have G54:=G52.set 28 (v':= .bool true) kr rfl (zK N);have F55:(qM ((l.getD k 0:Nat):Int) ((l2.getD k 0:Nat):Int))≠0:=by simpa using N
 refine zG (fun K56 Z56=>?_);refine zC<|zD 1 [(29,.int .i64 (qM ((l.getD k 0:Nat):Int) ((l2.getD k 0:Nat):Int)))] G54 kr kr (fun a57 G57=>?_);refine qW G57 kr (zF (t:=3) (b:=b4) (off:=0) (c':=#[.int .i64 (qM ((l.getD k 0:Nat):Int) ((l2.getD k 0:Nat):Int))]) (g:=false) (m:=1) 3 _ G57 kr C48 rfl kr rfl kr kr kr rfl (by first | decide | (simp;done)) kr rfl ?_)
 intro w58 C58 y58;refine zH<|zA (Z56 _ _ ?_);refine mI ?_;refine dQ ?_;refine jAy C58 (fun w59 C59 y59=>vB.stop (wC.ret C59 (fun w60 C60 y60=>?_)));refine dQ ?_;refine mY<|zMs (v:= .int .i64 (qM ((l.getD k 0:Nat):Int) ((l2.getD k 0:Nat):Int))) (rs:=[.cell 4 3]) (vs:=[.int .i64 (qM ((l.getD k 0:Nat):Int) ((l2.getD k 0:Nat):Int))]) 1 U C60 rfl kr kr (fun w61 C61 y61=>?_);refine⟨(Res.cell (ad:=⟨b4,0,none⟩) (cs:=[.int .i64 (qM ((l.getD k 0:Nat):Int) ((l2.getD k 0:Nat):Int))]) (g:=false) kr kr kr ir (C61.cells 3 rfl rfl) Res.nil),?_⟩;exact⟨C61.upd,_,rfl,zQ (zZp h.hlt h2.hlt T k (by omega) G F55)⟩
 have G62:=G52.set 28 (v':= .bool false) kr rfl (zK N);have F63:(qM ((l.getD k 0:Nat):Int) ((l2.getD k 0:Nat):Int))=0:=by simpa using N
 refine wW ?_;refine yN ?_;refine lY H C48 (fun w64 C64 y64=>vB.next ?_);exact⟨_,C64,(Le4 y34 y41 y48 y64),fun j hj hl=>(by rcases Nat.eq_or_lt_of_le hj with rfl | h9;exact fA F63;exact G j h9 hl)⟩
 rintro w65 ⟨Y65,C65,y65,W⟩;refine wC.norm H C65 (fun w66 C66 y66=>?_);refine yN<|zA (Z24 _ _ ?_);refine zG (fun K67 Z67=>?_);refine zC ?_;refine qW U kr (zF (t:=3) (b:=b4) (off:=0) (c':=#[.int .i64 0]) (g:=false) (m:=1) 3 _ U kr C66 rfl kr rfl kr kr kr rfl (by first | decide | (simp;done)) kr rfl ?_)
 intro w68 C68 y68;refine zH<|zA (Z67 _ _ ?_);refine mI<|zMs (v:= .int .i64 0) (rs:=[.cell 4 3]) (vs:=[.int .i64 0]) 1 U C68 rfl kr kr (fun w69 C69 y69=>?_);refine⟨(Res.cell (ad:=⟨b4,0,none⟩) (cs:=[.int .i64 0]) (g:=false) kr kr kr ir (C69.cells 3 rfl rfl) Res.nil),?_⟩;exact⟨C69.upd,_,rfl,zQ (qGm T W)⟩;exact⟨_,C30,Le.refl _,fun j hj hl=>absurd hl (Nat.not_lt.2 hj)⟩
set_option maxHeartbeats 1000000
theorem zAh{l l2:List Nat}(h:vF l l2=0):(l.length≤512∧zW l)∧(l2.length≤512∧zW l2):=by
 have f:jH l=0∧jH l2=0:=by
  unfold vF at h;simp only[orL]at h;split at h
  ·rename_i f;split at h
   ·rename_i j;exact⟨f,j⟩
   ·contradiction
  ·contradiction
 exact⟨pU f.1,pU f.2⟩
theorem qDp(ad:Option Addr)(cap:Nat)(l:List Nat):∃a1 a2 a3,(if 512<qV l then Value.tuple #[.slice none 0 0,.int .i64 4]else .tuple #[.slice ad (qV l) cap,.int .i64 0])= .tuple #[.slice a1 a2 a3,.int .i64 (qKp l)]:=by
 unfold qKp;split<;>exact⟨_,_,_,rfl⟩
theorem jAz(w:World)(X:Hid)(hX:∀k o,X k o→k<w.heap.size)(ad:Option Addr)(len cap:Nat)(l:List Nat)(h:zN (rd w X) ad len cap l)(O:Option Addr)(C P2:Nat)(l2:List Nat)(I:zN (rd w X) O C P2 l2):Calls Tryz.prog 231 #[.slice ad len cap,.slice O C P2] w (Ret E0 w fun w' v=>zEs 214 w w' (or2 (vF l l2) (zYz (val l+val l2))) (val l+val l2) v):=by
 obtain rfl:=h.hlen;obtain rfl:=I.hlen;have hcap:=h.hcap;have hbig:=h.hbig;have hcap2:=I.hcap;have hbig2:=I.hbig;refine zen Tryz.func231 ?_;have C0:St E0 w X w X []:=St.start hX;refine zz 11<|zc C0 (zAe _ X0 (zZ _) _ _ _ l (h.mono Le.x0) _ _ _ l2 (I.mono Le.x0)) ?_;rintro v3 w3 C3 y3 N3 rfl;refine zz 9<|zb 12 (b:=((vF l l2)!=0)) (fun J4=>?_) (fun J4=>?_);have F5:(vF l l2)≠0:=by simpa using J4
 refine zz 10<|zr' (v:= .tuple #[.slice none 0 0,.int .i64 (vF l l2)]) ?_;exact⟨C3.upd,_,rfl,by rw[zBe F5];exact .inl ⟨F5,rfl⟩⟩
 have F6:(vF l l2)=0:=by simpa using J4
 obtain⟨⟨hl1,c1⟩,hl2,c2⟩:=zAh F6;refine zz 10<|zs 18 (v:= .int .i64 (if(l2.length:Int)>(l.length:Int)then(l2.length:Int)else(l.length:Int))) (v':= .int .i64 ((max l.length l2.length:Nat):Int)) (zQ (by split<;>omega))<|zz 1<|zw 19 (x:=((max l.length l2.length+1:Nat):Int))<|zop (at1 [] Tryz.f231 [1,1,0]) 6 (fun a7 _ G7 hz7=>zBd (l:=((max l.length l2.length+1:Nat):Int)) (e:=214) (z:= .int .u32 0) (i0:=Tryz.t214) (max l.length l2.length+1) 4 G7 C3 ?_)
 intro b8 w8 Y8 C8 y8 N8 a9 G9;have D8:=zX.zeros (max l.length l2.length+1) (by simp only[maxLen];omega)
 refine hz7 G9<|zz 7<|zop (at1 [] Tryz.f231 [1,1,1,0]) 2 (fun a10 _ G10 V=>zZl (l2:=l) 0 G10 C8 rfl D8 (h.mono (Le2 y3 y8)) (by omega) ?_)
 intro Q11 w11 Z F y11 a12 G12;refine V G12<|zz 6<|zcE 0 F rfl (qPv _ b8 (max l.length l2.length+1) (max l.length l2.length+1) _ (l++List.drop l.length (List.replicate (max l.length l2.length+1) 0)) (F.get 0 rfl) Z (by omega) _ _ _ l2 ((I.mono (Le3 y3 y8 y11)).mono (F.leHG 0 rfl)) 0 (by omega) (by rw[aC];exact qBo h.hlt I.hlt)) ?_
 rintro v14 w14 ob14 ⟨rfl,Q14,j,U,N,y⟩ H J y14;obtain rfl:=Option.some.inj (H.symm.trans U);refine zz 5<|zc J (qQh _ X0 (zZ _) _ _ _ j (zX.limbs (Y:=X0) N (J.get 0 rfl) (fun _ h=>h.elim))) ?_ (vs:=#[.slice (some ⟨b8,0,none⟩) (max l.length l2.length+1) (max l.length l2.length+1)]);rintro v16 w16 G y16 N16 q;obtain⟨S,W,T,f⟩:=qDp (some ⟨b8,0,none⟩) (max l.length l2.length+1) j;cases(q.trans f);refine zz 7<|zr' (v:= .tuple #[.slice S W T,.int .i64 (qKp j)]) ?_;exact⟨G.upd,_,rfl,by rw[wK F6];exact zEs.fit N (G.get 0 rfl) (G.own_ge 0 rfl) (by have h9:=y;rw[aC]at h9;omega) f.symm⟩
set_option maxHeartbeats 1000000
theorem zNr(w:World)(X:Hid)(hX:∀k o,X k o→k<w.heap.size)(j:Option Addr)(f z:Nat)(q:f=0)(F:z≤9223372036854775807):Calls Tryz.prog 226 #[.slice none 0 0,.slice j f z] w (Ret E0 w fun _ v=>v= .slice none 0 0):=by
 subst q;refine zen Tryz.func226 ?_;have y:St E0 w X w X []:=St.start hX;refine zz 19<|zUs<|zz 21<|zUs<|zz 16<|zc y (aY _ _ y.lt _ _ _ ([]) (zN.nil (r:=rd w X) (cap:=0) none (by omega))) ?_ (vs:=#[.slice none 0 0])
 rintro H I C J G rfl;refine zz 4<|zr' (v:= .slice none (qV ([])) 0) ?_;exact⟨C.upd,_,rfl,rfl⟩
def zUm(x y:Nat):Int:=if x<y then 7 else 0
theorem zOt{x y:Nat}(h:qM (x:Int) (y:Int)<0):x<y:=by unfold qM at h;(repeat' split at h)<;>omega
theorem zOs{x y:Nat}(h:¬qM (x:Int) (y:Int)<0):y≤x:=by unfold qM at h;(repeat' split at h)<;>omega
theorem qPt(w:World)(X:Hid)(hX:∀k o,X k o→k<w.heap.size)(ad:Option Addr)(len cap:Nat)(l:List Nat)(h:zN (rd w X) ad len cap l)(O:Option Addr)(H P2:Nat)(l2:List Nat)(S:zN (rd w X) O H P2 l2):Calls Tryz.prog 232 #[.slice ad len cap,.slice O H P2] w (Ret E0 w fun w' v=>zEs 214 w w' (or2 (vF l l2) (zUm (val l) (val l2))) (val l-val l2) v):=by
 obtain rfl:=h.hlen;obtain rfl:=S.hlen;have hcap:=h.hcap;have hbig:=h.hbig;have hcap2:=S.hcap;have hbig2:=S.hbig;have C:=S.hbig;refine zen Tryz.func232 ?_;have C0:St E0 w X w X []:=St.start hX;refine zz 11<|zc C0 (zAe _ X0 (zZ _) _ _ _ l (h.mono Le.x0) _ _ _ l2 (S.mono Le.x0)) ?_;rintro v3 w3 C3 y3 N3 rfl;refine zz 11<|zb 10 (b:=((vF l l2)!=0)) (fun J4=>?_) (fun J4=>?_);have F5:(vF l l2)≠0:=by simpa using J4
 refine zz 11<|zr' (v:= .tuple #[.slice none 0 0,.int .i64 (vF l l2)]) ?_;exact⟨C3.upd,_,rfl,by rw[zBe F5];exact .inl ⟨F5,rfl⟩⟩
 have F6:(vF l l2)=0:=by simpa using J4
 obtain⟨⟨hl1,c1⟩,hl2,c2⟩:=zAh F6;refine zz 5<|zc C3 (zBf _ X0 (zZ _) _ _ _ l ((h.mono y3).mono Le.x0) _ _ _ l2 ((S.mono y3).mono Le.x0) c1 c2 (by omega)) ?_
 rintro v8 w8 C8 y8 N8 rfl;refine zz 4<|zt 14 (p:=(qM (val l) (val l2))<0) (fun F9=>?_) (fun F9=>?_);have z:=zOt F9;refine zz 10<|zr' (v:= .tuple #[.slice none 0 0,.int .i64 7]) ?_;exact⟨C8.upd,_,rfl,by rw[wK F6,zUm,if_pos z];exact .inl ⟨by decide,rfl⟩⟩
 have z:=zOs F9;refine zz 7<|zc C8 (zAi _ X0 (zZ _) _ _ _ l ((h.mono (Le2 y3 y8)).mono Le.x0) (by omega)) ?_
 rintro v11 w11 W y11 N11 ⟨ad11,len11,P11,V⟩;rcases V with⟨rfl,q,hlt11,⟨rfl,rfl,rfl⟩ | ⟨g11,Q11,rfl,f,F,D11⟩⟩
 have y:l=[]:=List.eq_nil_of_length_eq_zero q.symm;refine zz 1 ?_;have T:l2=[]:=aG c2 (by have:=z;rw[y]at this;simp only[val]at this;omega)
 refine zc W (zNr _ X0 (zZ _) _ _ _ (by rw[T];rfl) C) ?_ (vs:=#[.slice none 0 0,.slice O l2.length P2])
 rintro v14 w14 C14 y14 N14 rfl;refine zz 5<|zr' (v:= .tuple #[.slice none 0 0,.int .i64 0]) ?_;exact⟨C14.upd,_,rfl,.inr ⟨by rw[wK F6,zUm,if_neg (by omega)],_,[],_,_,_,rfl,⟨⟨rfl,rfl,fun x hx=>by simp at hx,.inl ⟨rfl,rfl,rfl⟩⟩,.inl rfl,by rw[y];simp[val]⟩,by simp⟩⟩
 subst q;have J:=St.adopt W (fun o h=>Nat.not_lt.2 f (C8.lt _ _ h)) (Nat.le_trans C8.upd.size f) F;have y12:=Le.adopt y11 f;refine zz 1<|zcE 0 J rfl (pF _ g11 l.length P11 _ l (J.get 0 rfl) D11 (by omega) _ _ _ l2 ((S.mono (Le3 y3 y8 y12)).mono (J.leHG 0 rfl)) (qB h.hlt c2 (by omega)) (by omega)) ?_
 rintro v16 w16 ob16 ⟨Q16,I,rfl,hg16,Z,j,G⟩ U N y16;obtain rfl:=Option.some.inj (U.symm.trans hg16);refine zz 5<|zr' (v:= .tuple #[.slice (some ⟨g11,0,none⟩) I.length P11,.int .i64 0]) ?_;exact⟨N.upd,_,rfl,.inr ⟨by rw[wK F6,zUm,if_neg (by omega)],_,I,_,_,_,rfl,⟨⟨rfl,rfl,Z.lt,.inr ⟨_,_,rfl,N.own_ge 0 rfl,N.get 0 rfl,Z⟩⟩,j,G⟩,Nat.le_trans (qB h.hlt j (by omega)) hl1⟩⟩
set_option maxHeartbeats 1000000
theorem jBe(w:World)(X:Hid)(hX:∀k o,X k o→k<w.heap.size)(ad:Option Addr)(len cap:Nat)(l:List Nat)(h:zN (rd w X) ad len cap l)(H:Option Addr)(len2 P2:Nat)(l2:List Nat)(Z:zN (rd w X) H len2 P2 l2):Calls Tryz.prog 230 #[.slice ad len cap,.slice H len2 P2] w (Ret E0 w fun w' v=>zEs 214 w w' (or2 (vF l l2) (zYz (val l*val l2))) (val l*val l2) v):=by
 obtain rfl:=h.hlen;obtain rfl:=Z.hlen;have hcap:=h.hcap;have hbig:=h.hbig;have hcap2:=Z.hcap;have hbig2:=Z.hbig;refine zen Tryz.func230 ?_;have C0:St E0 w X w X []:=St.start hX;refine zz 11<|zc C0 (zAe _ X0 (zZ _) _ _ _ l (h.mono Le.x0) _ _ _ l2 (Z.mono Le.x0)) ?_;rintro v3 w3 C3 y3 N3 rfl;refine zz 9<|zb 18 (b:=((vF l l2)!=0)) (fun J4=>?_) (fun J4=>?_);have F5:(vF l l2)≠0:=by simpa using J4
 refine zz 10<|zr' (v:= .tuple #[.slice none 0 0,.int .i64 (vF l l2)]) ?_;exact⟨C3.upd,_,rfl,by rw[zBe F5];exact .inl ⟨F5,rfl⟩⟩
 have F6:(vF l l2)=0:=by simpa using J4
 obtain⟨⟨hl1,c1⟩,hl2,c2⟩:=zAh F6;refine zz 10<|zw 24 (x:=((l.length+l2.length:Nat):Int))<|zz 1<|zw 25 (x:=((l.length+l2.length+1:Nat):Int))<|zop (at1 [] Tryz.f230 [1,1,0]) 6 (fun a7 _ G7 hz7=>zBd (l:=((l.length+l2.length+1:Nat):Int)) (e:=214) (z:= .int .u32 0) (i0:=Tryz.t214) (l.length+l2.length+1) 4 G7 C3 ?_);intro O w8 Y8 C8 y8 N8 a9 G9;have D8:=zX.zeros (l.length+l2.length+1) (by simp only[maxLen];omega)
 refine hz7 G9<|zz 12<|zlp Tryz.f230 [] [1,1,1,0,1,0] (fun(i:Nat)=>[(1,.slice H l2.length P2),(7,.slice (some ⟨O,0,none⟩) (l.length+l2.length+1) (l.length+l2.length+1)),(27,.slice ad l.length cap),(28,.int .i64 (l.length:Int)),(29,.int .i64 (i:Int))]) (fun(i:Nat)w1=>∃(Y1:Hid)(Q1:Array Value)(l1:List Nat),St E0 w X w1 Y1 [(O,.cells Q1 214 (0,0))]∧Le (rd w8 Y8) (rd w1 Y1)∧(zX (l.length+l2.length+1) (l.length+l2.length+1) Q1 l1)∧(i≤l.length)∧(val l1=val (l.take i)*val l2)) (fun(i:Nat)=>l.length-i) 0 ?_ ?_;refine⟨_,(List.replicate (l.length+l2.length+1) (Value.int .u32 0)).toArray,(List.replicate (l.length+l2.length+1) 0),C8,Le.refl _,D8,Nat.zero_le _,by simp[val,vJ]⟩
 rintro i w10 N Z10 ⟨Y10,Q1,l1,C10,y10,T,hp10_1,f⟩;have D1:=T;have hlen1:=D1.len;have hlti:=h.getD_lt i;refine zz 6<|zt 30 (p:=(i:Int)<(l.length:Int)) (fun F11=>?_) (fun F11=>?_);obtain⟨W,J,rfl,_⟩:=h.addr (by omega)
 refine zz 8<|zi (b:=W) (off:=J) (len:=l.length) (cap:=cap) (kd:= .i64) (i:=(i:Int)) 1 (J+i)<|zl ((h.cell (i:=i) (by omega)).mono (Le3 y3 y8 y10)).cells<|zz 9<|zw 36 (x:=((l2.length+1:Nat):Int))<|zop (at1 [N] Tryz.f230 [1,1,1,0,1,0,0,1,1,0,0,1,0]) 3 (fun a14 _ G14 hz14=>zBd (l:=((l2.length+1:Nat):Int)) (e:=214) (z:= .int .u32 0) (i0:=Tryz.t214) (l2.length+1) 4 G14 C10 ?_)
 intro q w15 Y15 C15 y15 N15 a16 G16;have D15:=zX.zeros (l2.length+1) (by simp only[maxLen];omega)
 refine hz14 G16<|zz 12<|zlp Tryz.f230 [N] [1,1,1,0,1,0,0,1,1,0,0,1,1,0,1,0] (fun(j:Nat)=>[(1,.slice H l2.length P2),(7,.slice (some ⟨O,0,none⟩) (l.length+l2.length+1) (l.length+l2.length+1)),(8,.int .i64 (i:Int)),(9,.int .u32 ((l.getD i 0:Nat):Int)),(10,.slice (some ⟨q,0,none⟩) (l2.length+1) (l2.length+1)),(27,.slice (some ⟨W,J,none⟩) l.length cap),(28,.int .i64 (l.length:Int)),(29,.int .i64 (i:Int)),(38,.slice H l2.length P2),(39,.int .i64 (l2.length:Int)),(40,.int .i64 (j:Int))]) (fun(j:Nat)w1=>∃(Y1:Hid)(Q2:Array Value)(lp:List Nat),St E0 w X w1 Y1 [(q,.cells Q2 214 (0,0)),(O,.cells Q1 214 (0,0))]∧Le (rd w15 Y15) (rd w1 Y1)∧(zX (l2.length+1) (l2.length+1) Q2 lp)∧(j≤l2.length)∧(val lp=l.getD i 0*val (l2.take j))∧(∀t,j<t→lp.getD t 0=0)) (fun(j:Nat)=>l2.length-j) 0 ?_ ?_;refine⟨_,(List.replicate (l2.length+1) (Value.int .u32 0)).toArray,(List.replicate (l2.length+1) 0),C15,Le.refl _,D15,Nat.zero_le _,by simp[val,vJ],fun t _=>by by_cases ht:t<l2.length+1<;>simp[zh,ht]⟩
 rintro j w17 K17 Z17 ⟨Y17,Q2,lp,G,y17,U,hp17_1,C,F⟩;have D2:=U;have hlen2:=D2.len;have hltj:=Z.getD_lt j;have hltp:=D2.getD_lt j;have hmul:l.getD i 0*l2.getD j 0≤4294967295*4294967295:=Nat.mul_le_mul (by omega) (by omega)
 refine zz 6<|zt 41 (p:=(j:Int)<(l2.length:Int)) (fun F18=>?_) (fun F18=>?_);obtain⟨bk19,of20,rfl,_⟩:=Z.addr (by omega)
 refine zz 8<|zi (b:=bk19) (off:=of20) (len:=l2.length) (cap:=P2) (kd:= .i64) (i:=(j:Int)) 1 (of20+j) ?_;have J1_:=(Le4 y3 y8 y10 y15).trans y17;refine zl ((Z.cell (i:=j) (by omega)).mono J1_).cells<|zz 8<|zs 46 (v:= .int .u64 (IntKind.u64.wrap (((l.getD i 0:Nat):Int)))) (v':= .int .u64 ((l.getD i 0:Nat):Int)) (zQ (nS (by omega) (by omega)))<|zz 2<|zs 48 (v:= .int .u64 (IntKind.u64.wrap (((l2.getD j 0:Nat):Int)))) (v':= .int .u64 ((l2.getD j 0:Nat):Int)) (zQ (nS (by omega) (by omega)))<|zz 1<|zs 49 (v:= .int .u64 (IntKind.u64.wrap (((l.getD i 0:Nat):Int)*((l2.getD j 0:Nat):Int)))) (v':= .int .u64 ((l.getD i 0*l2.getD j 0:Nat):Int)) (zQ ((nS (by rw[←Int.natCast_mul];omega) (by rw[←Int.natCast_mul];omega)).trans (Int.natCast_mul _ _).symm))<|zz 2<|zi (b:=q) (off:=0) (len:=(l2.length+1)) (cap:=(l2.length+1)) (kd:= .i64) (i:=(j:Int)) 1 j ?_
 refine zl (ad:=⟨q,j,none⟩) (G.rowCells 0 rfl D2 (by have:=D2.len;(try simp only[List.length_set]at *);omega))<|zz 1<|zs 54 (v:= .int .u64 (IntKind.u64.wrap (((lp.getD j 0:Nat):Int)))) (v':= .int .u64 ((lp.getD j 0:Nat):Int)) (zQ (nS (by omega) (by omega)))<|zz 1<|zs 55 (v:= .int .u64 (IntKind.u64.wrap (((l.getD i 0*l2.getD j 0:Nat):Int)+((lp.getD j 0:Nat):Int)))) (v':= .int .u64 ((l.getD i 0*l2.getD j 0+lp.getD j 0:Nat):Int)) (zQ (nS (by omega) (by omega)))<|zz 9<|zw 60 (x:=((j+1:Nat):Int))<|zz 2<|zs 62 (v:= .int .u32 (IntKind.u32.wrap (((l.getD i 0*l2.getD j 0+lp.getD j 0:Nat):Int)))) (v':= .int .u32 (((l.getD i 0*l2.getD j 0+lp.getD j 0) % 4294967296:Nat):Int)) (zQ (by rw[yR];omega)) ?_
 refine zz 2<|zs 64 (v:= .int .u64 (Int.fdiv (((l.getD i 0*l2.getD j 0+lp.getD j 0:Nat):Int)) (2^32))) (v':= .int .u64 (((l.getD i 0*l2.getD j 0+lp.getD j 0) / 4294967296:Nat):Int)) (zQ (by rw[wH _ 32 (c:=4294967296) (by decide) (by decide)];omega))<|zz 1<|zs 65 (v:= .int .u32 (IntKind.u32.wrap ((((l.getD i 0*l2.getD j 0+lp.getD j 0) / 4294967296:Nat):Int)))) (v':= .int .u32 (((l.getD i 0*l2.getD j 0+lp.getD j 0) / 4294967296:Nat):Int)) (zQ (by rw[yR];omega))<|zi (b:=q) (off:=0) (len:=(l2.length+1)) (cap:=(l2.length+1)) (kd:= .i64) (i:=(j:Int)) 1 j<|zop (at1 [N,K17] Tryz.f230 [1,1,1,0,1,0,0,1,1,0,0,1,1,0,1,0,0,1,1,0,0,1,1]) 11 (fun a21 _ G21 hz21=>vN (y:=((l.getD i 0*l2.getD j 0+lp.getD j 0) % 4294967296)) (k:=j) (e:=(((l.getD i 0*l2.getD j 0+lp.getD j 0) % 4294967296:Nat):Int)) 0 G21 G (by first | rfl | omega | (simp;omega)) rfl D2 (by have:=D2.len;(try simp only[List.length_set]at *);omega) (by first | omega | (simp;omega)) ?_)
 intro Q22 w22 D22 C22 y22;refine hz21 G21<|zi (b:=q) (off:=0) (len:=(l2.length+1)) (cap:=(l2.length+1)) (kd:= .i64) (i:=((j+1:Nat):Int)) 1 ((((j+1:Nat):Int)).toNat)<|zop (at1 [N,K17] Tryz.f230 [1,1,1,0,1,0,0,1,1,0,0,1,1,0,1,0,0,1,1,0,0,1,1]) 13 (fun a23 _ G23 hz23=>vN (y:=((l.getD i 0*l2.getD j 0+lp.getD j 0) / 4294967296)) (k:=(((j+1:Nat):Int)).toNat) (e:=(((l.getD i 0*l2.getD j 0+lp.getD j 0) / 4294967296:Nat):Int)) 0 G23 C22 (by first | rfl | omega | (simp;omega)) rfl D22 (by have:=D22.len;(try simp only[List.length_set]at *);omega) (by first | omega | (simp;omega)) ?_)
 intro Q24 w24 D24 C24 y24;refine hz23 G23<|zz 5<|zw 68 (x:=(j:Int)+1)<|zz 2 ?_;refine kL (fun a h=>Z17 (j+1) _ a h ⟨_,Q24,((lp.set j ((l.getD i 0*l2.getD j 0+lp.getD j 0) % 4294967296)).set ((((j+1:Nat):Int)).toNat) ((l.getD i 0*l2.getD j 0+lp.getD j 0) / 4294967296)),C24,(Le3 y17 y22 y24),D24,by omega,by rw[yQ l2 j (by omega),Nat.mul_add,←Nat.mul_assoc];exact qMs lp j _ _ _ (by omega) (F _ (by omega)) C,fun t ht=>by rw[xD (by omega),xD (by omega)];exact F t (by omega)⟩ ?_)
 first | omega | (simp<;>omega)
 have hpv:val lp=l.getD i 0*val l2:=by have h9:=C;rwa[show j=l2.length by omega,List.take_length]at h9
 refine zz 10<|zcE 1 G rfl (qPv _ O (l.length+l2.length+1) (l.length+l2.length+1) _ l1 (G.get 1 rfl) D1 (by omega) _ _ _ lp (zX.limbs (Y:=HG O) D2 (G.get 0 rfl) (fun o h=>G.ne (i:=0) (j:=1) rfl rfl (by decide) h)) i (by omega) (by have h8:=f;rw[f,hpv];have h9:=yQ l i (by omega);have e:val (l.take i)*val l2+4294967296^i*(l.getD i 0*val l2)=val (l.take (i+1))*val l2:=(by rw[h9,Nat.add_mul];congr 1;ac_rfl);rw[e];exact zHj (Nat.lt_of_le_of_lt (zEp _ _) (xH h.hlt)) (xH Z.hlt) (by omega))) ?_ (vs:=#[.slice (some ⟨O,0,none⟩) (l.length+l2.length+1) (l.length+l2.length+1),.slice (some ⟨q,0,none⟩) (l2.length+1) (l2.length+1),.int .i64 (i:Int)])
 rintro v26 w26 ob26 ⟨rfl,Q26,ls26,hg26,D26,V⟩ hob26 C26 y26;obtain rfl:=Option.some.inj (hob26.symm.trans hg26);refine zz 5<|zw 73 (x:=(i:Int)+1)<|zz 2 ?_;have J2_:=(Le3 y10 y15 y17).trans y26;refine kL (fun a h=>Z10 (i+1) _ a h ⟨_,Q26,ls26,C26.tail,J2_,D26,by omega,by have h8:=V;have h9:=hpv;rw[yQ l i (by omega),Nat.add_mul,h8,h9,←f];have e:l.getD i 0*4294967296^i*val l2=4294967296^i*(l.getD i 0*val l2):=(by ac_rfl);omega⟩ ?_)
 first | omega | (simp<;>omega)
 have hfin:val l1=val l*val l2:=by have h9:=f;rwa[show i=l.length by omega,List.take_length]at h9
 refine zz 9<|zc C10 (qQh _ X0 (zZ _) _ _ _ l1 (zX.limbs (Y:=X0) D1 (C10.get 0 rfl) (fun _ h=>h.elim))) ?_ (vs:=#[.slice (some ⟨O,0,none⟩) (l.length+l2.length+1) (l.length+l2.length+1)]);rintro v28 w28 C28 y28 N28 S;obtain⟨af28,lf28,cf28,I⟩:=qDp (some ⟨O,0,none⟩) (l.length+l2.length+1) l1;cases(S.trans I);refine zz 7<|zr' (v:= .tuple #[.slice af28 lf28 cf28,.int .i64 (qKp l1)]) ?_;exact⟨C28.upd,_,rfl,by rw[wK F6];exact zEs.fit D1 (C28.get 0 rfl) (C28.own_ge 0 rfl) (hfin) I.symm⟩
set_option maxHeartbeats 1000000
def qSn(T:TypeId)(Φ:List Nat→Prop)(y:Nat)(o':Obj)(v:Value):Prop:=∃j f q,o'= .cells j T (0,0)∧v= .slice (some ⟨y,0,none⟩) q.length f∧zX q.length f j q∧Φ q
theorem zOx(w:World)(g m cap:Nat)(cur:Array Value)(l:List Nat)(hg:w.heap[g]?=some (.cells cur 214 (0,0)))(F:zX m cap cur l)(hm:m≤1099511627776)(W:zW l)(V:Nat)(hc:V≤1):
    Calls Tryz.prog 227 #[.slice (some ⟨g,0,none⟩) m cap,.int .u32 (V:Int)] w (Ret (·=g) w fun w1 v=>∃g' o',w1.heap[g']?=some o'∧(w.heap.size≤g'∨g'=g)∧qSn 214 (fun l'=>l'.length≤m+1∧zW l'∧val l'=2*val l+V) g' o' v):=by
 refine zen Tryz.func227 ?_;have hX:∀k o,HG g k o→k<w.heap.size:=by rintro k o rfl;exact(Array.getElem?_eq_some_iff.1 hg).1
 have C0:St (·=g) w (HG g) w (HG g) [(g,.cells cur 214 (0,0))]:=St.startE g _ hX hg (fun _=>rfl);have hlen:=F.len;refine zz 14<|zlp Tryz.f227 [] [1,0,1,0] (fun((j,c):Nat×Nat)=>[(0,.slice (some ⟨g,0,none⟩) m cap),(1,.int .u32 (c:Int)),(7,.slice (some ⟨g,0,none⟩) m cap),(8,.int .i64 (m:Int)),(9,.int .i64 (j:Int))]) (fun((j,c):Nat×Nat)w1=>∃(Y1:Hid)(Q1:Array Value)(z:List Nat),St (·=g) w (HG g) w1 Y1 [(g,.cells Q1 214 (0,0))]∧Le (rd w (HG g)) (rd w1 Y1)∧(zX m cap Q1 z)∧(j≤l.length)∧(c≤1)∧(val z+c*4294967296^j=(val l+V)+val (l.take j))∧(∀t,j≤t→z.getD t 0=l.getD t 0)) (fun((j,c):Nat×Nat)=>l.length-j) (0,V) ?_ ?_
 ·
  refine⟨_,cur,l,C0,Le.refl _,F,Nat.zero_le _,hc,by simp[val],fun _ _=>rfl⟩
 rintro⟨j,c⟩ w2 K2 Z2 ⟨Y2,Q1,z,U,y2,N,hp2_1,O,C,S⟩;have G:=N;have f:=G.len;have hlt1:=F.getD_lt j;have J1:=O;have q:=S;refine zz 6<|zt 10 (p:=(j:Int)<(m:Int)) (fun F3=>?_) (fun F3=>?_)
 ·
  refine zz 8<|zi (b:=g) (off:=0) (len:=m) (cap:=cap) (kd:= .i64) (i:=(j:Int)) 1 j<|zl (ad:=⟨g,j,none⟩) (U.rowCells 0 rfl G (by have:=G.len;(try simp only[List.length_set]at *);omega))<|zz 9<|zs 17 (v:= .int .u32 (IntKind.u32.wrap (((z.getD j 0:Nat):Int)*2^1))) (v':= .int .u32 ((l.getD j 0*2 % 4294967296:Nat):Int)) (zQ (by rw[yR,q j (Nat.le_refl _)];omega))<|zz 2<|zs 19 (v:= .int .u32 (rU ((l.getD j 0*2 % 4294967296:Nat):Int) (c:Int))) (v':= .int .u32 ((l.getD j 0*2 % 4294967296+c:Nat):Int)) (zQ (qJv _ _ J1))<|zz 2<|zs 21 (v:= .int .u32 (Int.fdiv (((z.getD j 0:Nat):Int)) (2^31))) (v':= .int .u32 ((l.getD j 0 / 2147483648:Nat):Int)) (zQ (by rw[wH _ 31 (c:=2147483648) (by decide) (by decide),q j (Nat.le_refl _)];omega)) ?_
  refine zi (b:=g) (off:=0) (len:=m) (cap:=cap) (kd:= .i64) (i:=(j:Int)) 1 j<|zop (at1 [K2] Tryz.f227 [1,0,1,0,0,1,1,0,0,1]) 9 (fun a4 _ G4 hz4=>vN (y:=(l.getD j 0*2 % 4294967296+c)) (k:=j) (e:=((l.getD j 0*2 % 4294967296+c:Nat):Int)) 0 G4 U (by first | rfl | omega | (simp;omega)) rfl G (by have:=G.len;(try simp only[List.length_set]at *);omega) (by omega) ?_)
  intro Q5 w5 D5 C5 y5;refine hz4 G4<|zz 6<|zw 23 (x:=(j:Int)+1)<|zz 2 ?_;refine kL (fun a h=>Z2 ((j+1,l.getD j 0 / 2147483648)) _ a h ⟨_,Q5,(z.set j (l.getD j 0*2 % 4294967296+c)),C5,(Le2 y2 y5),D5,by omega,by omega,qKe l z j c _ (by omega) (by omega) (q j (Nat.le_refl _)) C,fun t ht=>by rw[xD (by omega)];exact q t (by omega)⟩ ?_)
  first | omega | (simp<;>omega)
 have H:val z+c*4294967296^m=val l+V+val l:=by have h9:=C;rwa[show j=l.length by omega,List.take_length,hlen]at h9
 refine zz 13<|zb 25 (b:=((c:Int)!=0)) (fun J6=>?_) (fun J6=>?_)
 ·
  have F7:(c:Int)≠0:=by simpa using J6
  have J:c=1:=by omega
  refine zz 4<|zn (fun b=> .slice (some ⟨b,0,none⟩) 1 1) (.cells #[.int .u32 (c:Int)] 214 (0,0)) U fun b9 w9 Y9 C9 y9 N9=>zop (at1 [K2] Tryz.f227 [1,1,0,1,0]) 3 (fun a10 _ G10 Z=>zHs (b:=4) (m:=1) (c:=1) (size:=1) (ad:=⟨b9,0,none⟩) (xs:=U32 z) (news:=[.int .u32 (c:Int)]) (i0:=Tryz.t214) (cur:=Q1) (nn:=m) (cap:=cap) (g:=g) (e:=214) 1 G10 C9 rfl G.row (C9.cells 0 rfl rfl) kr kr (by simp only[maxLen];omega) (by show(_+1)*4≤_;omega) ?_)
  intro g11 P11 Q11 w11 Y11 D11 I y11 a12 G12;have T:=zX.app D11 G.lt (by omega:c<4294967296)
  refine Z G12<|zz 10<|zr' (v:= .slice (some ⟨g11,0,none⟩) (m+1) P11) ?_;exact⟨I.upd,_,rfl,g11,_,I.get 1 rfl,I.own_or 1 rfl,_,_,(z++[c]),rfl,by rw[List.length_append,f];rfl,by rw[List.length_append,f];exact T,by simp only[List.length_append,List.length_singleton];omega,zJn (by omega),by rw[dM,f];omega⟩
 have F13:(c:Int)=0:=by simpa using J6
 have J:c=0:=by omega
 refine zz 10<|zr' (v:= .slice (some ⟨g,0,none⟩) m cap) ?_;exact⟨U.upd,_,rfl,g,_,U.get 0 rfl,U.own_or 0 rfl,_,_,z,rfl,by rw[f],by rw[f];exact G,by omega,zOo G.lt (fun h0=>by rw[J]at H;have h8:=tT W (fun e=>by rw[e]at hlen;simp at hlen;omega);rw[f];rw[hlen]at h8;omega),by rw[J]at H;omega⟩
theorem zSv(w:World)(X:Hid)(hX:∀k o,X k o→k<w.heap.size)(f:Nat)(hc:f≤1):Calls Tryz.prog 227 #[.slice none 0 0,.int .u32 (f:Int)] w (Ret E0 w fun w1 v=>∃N ad' y q,zAb 214 w w1 v N ad' y q f∧N.length≤1):=by
 refine zen Tryz.func227 ?_;have H:St E0 w X w X []:=St.start hX;refine zz 14<|zUs<|zz 19<|zb 25 (b:=((f:Int)!=0)) (fun C=>?_) (fun C=>?_);have Z:(f:Int)≠0:=by simpa using C
 refine zz 4<|zn (fun b=> .slice (some ⟨b,0,none⟩) 1 1) (.cells #[.int .u32 (f:Int)] 214 (0,0)) H fun V w5 Y5 I y5 N5=>zop (at1 [] Tryz.f227 [1,1,0,1,0]) 3 (fun a6 _ S G=>zQg (b:=4) (m:=1) (c:=1) (size:=1) (ad:=⟨V,0,none⟩) (news:=[.int .u32 (f:Int)]) (i0:=Tryz.t214) (e:=214) S I (I.cells 0 rfl rfl) kr (by omega) (by simp only[maxLen];omega) (by show 1*4≤_;omega) ?_)
 intro W J U w7 Y7 O z y7 a8 T;have j:zX 1 J U [f]:=zX.app (m:=0) (l:=[]) O (fun x F=>by simp at F) (by omega)
 refine G T<|zz 10<|zr' (v:= .slice (some ⟨W,0,none⟩) 1 J) ?_;exact⟨z.upd,_,rfl,[f],_,_,_,⟨⟨rfl,rfl,j.lt,.inr ⟨_,_,rfl,z.own_ge 0 rfl,z.get 0 rfl,j⟩⟩,zJn (l:=[]) (by omega),by simp[val]⟩,by simp⟩
 have F9:(f:Int)=0:=by simpa using C
 refine zz 10<|zr' (v:= .slice none 0 0) ?_;exact⟨H.upd,_,rfl,[],_,_,_,⟨⟨rfl,rfl,fun x F=>by simp at F,.inl ⟨rfl,rfl,rfl⟩⟩,.inl rfl,by simp[val];omega⟩,by simp⟩
set_option maxHeartbeats 1000000
theorem zRn(l:List Nat):val l % 2=l.getD 0 0 % 2:=by
 rcases l with _ | ⟨x,l⟩
 ·simp[val]
 ·simp only[val,List.getD_cons_zero];omega
theorem zIo{k m v V:Nat}(h:v*2^k=V)(hp:0<v)(z:V<4294967296^m):k<V∧k<32*m:=by
 have j:1*2^k≤v*2^k:=Nat.mul_le_mul_right _ hp;have q:k<2^k:=Nat.lt_two_pow_self;refine⟨by omega,?_⟩
 have y:(4294967296:Nat)^m=2^(32*m):=by rw[Nat.pow_mul]
 have f:2^k<2^(32*m):=by omega
 exact(Nat.pow_lt_pow_iff_right (by omega:1<2)).1 f
theorem zFo(w:World)(g m cap:Nat)(cur:Array Value)(l:List Nat)(hg:w.heap[g]?=some (.cells cur 214 (0,0)))(J:zX m cap cur l)(hm:m≤1099511627776)(hcan:zW l)(hpos:0<val l):
    Calls Tryz.prog 224 #[.slice (some ⟨g,0,none⟩) m cap] w (Ret (·=g) w fun w1 v=>∃k cur' l',v= .tuple #[.slice (some ⟨g,0,none⟩) l'.length cap,.int .i64 ((k:Nat):Int)]∧w1.heap[g]?=some (.cells cur' 214 (0,0))∧zX l'.length cap cur' l'∧zW l'∧val l'*2^k=val l∧val l' % 2=1):=by
 refine zMr (n:=37) (vs:=[.slice (some ⟨g,0,none⟩) m cap]) Tryz.func224 rfl rfl rfl kr (fun a0 G0=>?_);have G0:Fr 37 a0 [(0,.slice (some ⟨g,0,none⟩) m cap)]:=G0;have hX:∀k o,HG g k o→k<w.heap.size:=by rintro k o rfl;exact(Array.getElem?_eq_some_iff.1 hg).1
 have C0:St (·=g) w (HG g) w (HG g) [(g,.cells cur 214 (0,0))]:=St.startE g _ hX hg (fun _=>rfl);have hlen:=J.len;refine zG (fun K1 Z1=>?_);refine zC ?_;refine qW G0 kr (lN (d:=1) (fun b=> .pointer (some ⟨b,0,none⟩)) (.cells #[.slice (some ⟨g,0,none⟩) m cap] 26 (0,0)) G0 kr C0 kw ?_);intro b2 w2 Y2 C2 y2 N2 a3 G3;refine zD 2 [(3,.int .i64 0),(2,.slice none 0 0)] G3 kr kr (fun a4 G4=>?_);refine zH<|zA (Z1 _ _ ?_);refine zG (fun K5 Z5=>?_);refine zC<|zD 1 [(4,.int .i64 0)] G4 kr kr (fun a6 G6=>?_);refine zH<|zA (Z5 _ _ ?_);refine zG (fun K7 Z7=>?_);refine yZ ?_;refine lJ (fun(k:Nat)ac w1=>∃(Y1:Hid)(bs:List Nat)(z:Nat)(Q1:Array Value)(j:List Nat),Fr 37 ac [(1,.pointer (some ⟨b2,0,none⟩)),(4,.int .i64 (k:Int))] (bs.map Go.Gv.mark)∧St (·=g) w (HG g) w1 Y1 ((b2,.cells #[.slice (some ⟨g,0,none⟩) z cap] 26 (0,0))::(g,.cells Q1 214 (0,0))::xF bs)∧Le (rd w2 Y2) (rd w1 Y1)∧(zX z cap Q1 j)∧(zW j)∧(val j*2^k=val l)) (fun(k:Nat)=>val l-k) 0 ?_ ?_
 ·
  refine⟨_,[],m,cur,l,G6.as [1,4] kr kr,C2,Le.refl _,J,hcan,by simp⟩
 rintro k a8 w8 ⟨Y8,bs,z,Q1,j,G8,C8,y8,hp8_0,hp8_1,hp8_2⟩;have D1:=hp8_0;have C:=D1.len;have U:=hp8_1;have F:=hp8_2;have hp1:0<val j:=Nat.pos_of_ne_zero (fun e=>by rw[e]at F;omega)
 obtain⟨hkv,hkm⟩:=zIo F hp1 (xH J.lt);rw[hlen]at hkm;have hm0:0<z:=by rcases Nat.eq_zero_or_pos z with e | e;rw[List.eq_nil_of_length_eq_zero (C.trans e)]at hp1;simp[val]at hp1;exact e
 have hm1:z≤m:=by have:=qB J.lt U (by have:=Nat.le_mul_of_pos_right (val j) (Nat.two_pow_pos k);omega);omega
 have hlt0:=D1.getD_lt 0;refine zG (fun K9 Z9=>?_);refine zG (fun K10 Z10=>?_);refine zC ?_;refine qW G8 kr (zE (d:=8) (v:= .slice (some ⟨g,0,none⟩) z cap) G8 kr (zB (t:=26) (g:=false) (vs:=[.slice (some ⟨g,0,none⟩) z cap]) (ad:=⟨b2,0,none⟩) rfl kr kr ir (C8.cells 0 rfl rfl)) ?_);intro a11 G11;refine zD 2 [(10,.bool (decide ((z:Int)>0))),(9,.int .i64 (z:Int))] G11 kr kr (fun a12 G12=>?_);have G13:=G12.set 10 (v':= .bool true) kr rfl (zK (decide_eq_true (by omega)))
 refine zD 1 [(11,.bool true)] G13 kr kr (fun a14 G14=>?_);refine qW G14 kr (zE (d:=12) (v:= .slice (some ⟨g,0,none⟩) z cap) G14 kr (zB (t:=26) (g:=false) (vs:=[.slice (some ⟨g,0,none⟩) z cap]) (ad:=⟨b2,0,none⟩) rfl kr kr ir (C8.cells 0 rfl rfl)) ?_);intro a15 G15;refine qW G15 kr (zE (d:=13) (v:= .pointer (some ⟨g,0,none⟩)) G15 kr (jF (t:=26) (e:=214) (b:=g) (off:=0) (len:=z) (cap:=cap) (kd:= .i64) (i:=0) (g:=false) (m:=1) (off':=0) rfl kr kr kr kr (by omega) (by omega) kr _) ?_)
 intro a16 G16;refine qW G16 kr (zE (d:=14) (v:= .int .u32 ((j.getD 0 0:Nat):Int)) G16 kr (zB (t:=214) (g:=false) (vs:=[.int .u32 ((j.getD 0 0:Nat):Int)]) (ad:=⟨g,0,none⟩) rfl kr kr ir (C8.rowCells 1 rfl D1 (by have:=D1.len;(try simp only[List.length_set]at *);omega))) ?_)
 intro a17 G17;refine zD 1 [(15,.int .u32 (wS ((j.getD 0 0:Nat):Int) 1))] G17 kr kr (fun a18 G18=>?_);have G19:=G18.set 15 (v':= .int .u32 ((j.getD 0 0 % 2:Nat):Int)) kr rfl (zQ (zOl _ hlt0));refine zD 2 [(17,.bool (((j.getD 0 0 % 2:Nat):Int)==0)),(16,.bool (((j.getD 0 0 % 2:Nat):Int)==0))] G19 kr kr (fun a20 G20=>?_);refine zH<|zA (Z10 _ _ ?_);refine nL (((j.getD 0 0 % 2:Nat):Int)==0) G20 kr kr (fun S=>?_) (fun S=>?_)
 ·
  have G22:=G20.set 17 (v':= .bool true) kr rfl (zK S);have F23:((j.getD 0 0 % 2:Nat):Int)=0:=by simpa using S
  have heven:val j % 2=0:=by rw[zRn];omega
  refine wW<|zA (Z9 _ _ ?_);refine yZ<|zG (fun K24 Z24=>?_);refine zC ?_;refine qW G22 kr (lN (d:=5) (fun b=> .pointer (some ⟨b,0,none⟩)) (.cells #[.int .u32 0] 214 (0,0)) G22 kr C8 kw ?_);intro Z w25 Y25 C25 y25 N25 a26 V;refine qW V kr (zF (t:=214) (b:=Z) (off:=0) (c':=#[.int .u32 0]) (g:=false) (m:=1) 0 _ V kr C25 rfl kr rfl kr kr kr rfl (by first | decide | (simp;done)) kr rfl ?_)
  intro w27 O y27;refine zH<|zA (Z24 _ _ ?_);refine zG (fun K28 Z28=>?_);refine zG (fun K29 Z29=>?_);refine zC ?_;refine qW V kr (zE (d:=18) (v:= .slice (some ⟨g,0,none⟩) z cap) V kr (zB (t:=26) (g:=false) (vs:=[.slice (some ⟨g,0,none⟩) z cap]) (ad:=⟨b2,0,none⟩) rfl kr kr ir (O.cells 1 rfl rfl)) ?_);intro a30 G30;refine qW G30 kr (kC (d:=19) (f:=263) (cap:=#[]) (vs:=#[.slice (some ⟨g,0,none⟩) z cap]) G30 kr O rfl kr kr (fun w=>Tryz.call263 _ w) (zGf _ _ O.lt (some ⟨g,0,none⟩) z cap) ?_);rintro v31 w31 C31 y31 N31 ⟨T,rfl,G,hget31⟩ a32 G32;have C33:=St.adopt C31 (fun o h=>Nat.not_lt.2 G (O.lt _ _ h)) (Nat.le_trans O.upd.size G) hget31;have y33:=Le.adopt y31 G;refine zH<|zA (Z29 _ _ ?_);refine yZ<|zGx (f:=280) (caps:=#[.pointer (some ⟨T,0,none⟩)]) G32 C33 kr kr (fun args w=>Tryz.call280 args w) fun rec34 l34 b34 w34 Y34 I C34 y34 N34=>?_;have G35:=zCn b34 G32;refine zEc l34 T (some ⟨g,0,none⟩) z cap j C.symm (by omega) (fun k1 w'=>∃(Y':Hid)(Q2:Array Value)(l2:List Nat)(r:Nat),St (·=g) w (HG g) w' Y' ((l34,.loop rec34)::(b34,.deferred (some []))::(T,.cells #[.slice (some ⟨g,0,none⟩) z cap] 26 (0,0))::(Z,.cells #[.int .u32 ((r*2147483648:Nat):Int)] 214 (0,0))::(b2,.cells #[.slice (some ⟨g,0,none⟩) z cap] 26 (0,0))::(g,.cells Q2 214 (0,0))::xF bs)∧Le (rd w34 Y34) (rd w' Y')∧(zX z cap Q2 l2)∧(r≤1)∧(2*val l2+r*4294967296^k1=val j+val (j.take k1))∧(∀i,i<k1→l2.getD i 0=j.getD i 0)) _ ?_ ?_ ?_ ?_ _ ?_
  ·
   rintro k1 w36 ⟨Y36,Q2,l2,r,C36,y36,hp36_0,hp36_1,hp36_2,hp36_3⟩;exact C36.at0 2 rfl rfl
  ·
   rintro k1 w37 ⟨Y37,Q2,l2,r,C37,y37,H,hp37_1,hp37_2,hp37_3⟩;intro hk;refine⟨g,0,rfl,?_⟩;rw[←hp37_3 k1 (by omega)]
   exact zX.cellX0 H (C37.get 5 rfl) (by have:=(H).len;omega)
  ·
   intro k1 w38 hk;rintro⟨Y38,Q2,l2,r,C38,y38,hp38_0,hp38_1,hp38_2,hp38_3⟩;refine zIu (p:=20) (q:=21) I G32 C38 kr kr (fun a39 G39=>?_);have D2:=hp38_0;have hlen2:=D2.len;have hr1:=hp38_1;have hv2:=hp38_2;have heq2:=hp38_3;have hltk:=D1.getD_lt k1;refine zG (fun K40 Z40=>?_);refine zC<|zD 1 [(6,.int .i64 (k1:Int))] G39 kr kr (fun a41 G41=>?_);refine zH<|zA (Z40 _ _ ?_);refine zC<|zD 1 [(7,.int .u32 ((j.getD k1 0:Nat):Int))] G41 kr kr (fun a42 G42=>?_);refine zH<|zA<|zCc I C38 (fun w43 C43 y43=>?_);refine yZ<|zC ?_;refine qW G42 kr (zE (d:=22) (v:= .slice (some ⟨g,0,none⟩) z cap) G42 kr (zB (t:=26) (g:=false) (vs:=[.slice (some ⟨g,0,none⟩) z cap]) (ad:=⟨b2,0,none⟩) rfl kr kr ir (C43.cells 4 rfl rfl)) ?_);intro a44 G44;refine zD 3 [(25,.int .u32 (Int.fdiv (((j.getD k1 0:Nat):Int)) (2^1))),(24,.int .u32 ((j.getD k1 0:Nat):Int)),(23,.int .i64 (k1:Int))] G44 kr kr (fun a45 G45=>?_);have G46:=G45.set 25 (v':= .int .u32 ((j.getD k1 0 / 2:Nat):Int)) kr rfl (zQ (by rw[wH _ 1 (c:=2) (by decide) (by decide)];omega))
   refine qW G46 kr (zE (d:=26) (v:= .int .u32 ((r*2147483648:Nat):Int)) G46 kr (zB (t:=214) (g:=false) (vs:=[.int .u32 ((r*2147483648:Nat):Int)]) (ad:=⟨Z,0,none⟩) rfl kr kr ir (C43.cells 3 rfl rfl)) ?_);intro a47 G47;refine zD 1 [(27,.int .u32 (rU ((j.getD k1 0 / 2:Nat):Int) ((r*2147483648:Nat):Int)))] G47 kr kr (fun a48 G48=>?_);have G49:=G48.set 27 (v':= .int .u32 ((j.getD k1 0 / 2+r*2147483648:Nat):Int)) kr rfl (zQ (qJw _ _ (by omega) hr1))
   refine zD 2 [(29,.int .u32 (IntKind.u32.wrap (((j.getD k1 0:Nat):Int)*2^31))),(28,.int .u32 ((j.getD k1 0:Nat):Int))] G49 kr kr (fun a50 G50=>?_);have G51:=G50.set 29 (v':= .int .u32 ((j.getD k1 0 % 2*2147483648:Nat):Int)) kr rfl (zQ (by rw[yR];omega))
   refine qW G51 kr (zE (d:=30) (v:= .pointer (some ⟨g,k1,none⟩)) G51 kr (jF (t:=26) (e:=214) (b:=g) (off:=0) (len:=z) (cap:=cap) (kd:= .i64) (i:=(k1:Int)) (g:=false) (m:=1) (off':=k1) rfl kr kr kr kr (by omega) (by omega) (by first | rfl | omega | (simp;done) | (simp;omega)) _) ?_)
   intro a52 W;refine qW W kr (mV (t:=214) (y:=(j.getD k1 0 / 2+r*2147483648)) (k:=k1) (e:=((j.getD k1 0 / 2+r*2147483648:Nat):Int)) 5 W kr C43 rfl rfl rfl (by first | rfl | omega | (simp;omega)) kr rfl D2 (by have:=D2.len;(try simp only[List.length_set]at *);omega) (by omega) ?_)
   intro Q53 w53 D53 C53 y53;refine qW W kr (zF (t:=214) (b:=Z) (off:=0) (c':=#[.int .u32 ((j.getD k1 0 % 2*2147483648:Nat):Int)]) (g:=false) (m:=1) 3 _ W kr C53 rfl kr rfl kr kr kr rfl (by first | decide | (simp;done)) kr rfl ?_)
   intro w54 C54 y54;refine zH ?_;refine yN ?_;refine lY I C54 (fun w55 C55 y55=>vB.next ?_);exact⟨_,Q53,(l2.set k1 (j.getD k1 0 / 2+r*2147483648)),j.getD k1 0 % 2,C55,(Le5 y38 y43 y53 y54 y55),D53,by omega,qLo j l2 k1 r (by omega) (by omega) (heq2 k1 (by omega)) hv2,fun i hi=>by rw[xD (by omega)];exact heq2 i (by omega)⟩
  ·
   rintro w56 ⟨Y56,Q2,l2,r,C56,y56,hp56_0,hp56_1,hp56_2,hp56_3⟩;refine wC.norm I C56 (fun w57 C57 y57=>?_);have D2:=hp56_0;have hlen2:=D2.len;have hhalf:val l2*2=val j:=by have h9:=hp56_2;have h8:=hp56_1;rw[List.take_zero]at h9;simp only[val,Nat.pow_zero]at h9;omega
   refine yN<|zA (Z28 _ _ ?_);refine zG (fun K58 Z58=>?_);refine zC ?_;refine qW G35 kr (zE (d:=31) (v:= .slice (some ⟨g,0,none⟩) z cap) G35 kr (zB (t:=26) (g:=false) (vs:=[.slice (some ⟨g,0,none⟩) z cap]) (ad:=⟨b2,0,none⟩) rfl kr kr ir (C57.cells 4 rfl rfl)) ?_);intro a59 G59;refine qW G59 kr (kC (d:=32) (f:=235) (cap:=#[]) (vs:=#[.slice (some ⟨g,0,none⟩) z cap]) G59 kr C57 rfl kr kr (fun w=>Tryz.call235 _ w) (aY _ X0 (zZ _) _ _ _ l2 (zX.limbs (Y:=X0) D2 (C57.get 5 rfl) (fun _ h=>h.elim))) ?_);rintro v60 w60 C60 y60 N60 rfl a61 G61;have hrt:=D2.trimmed;refine qW G61 kr (zF (t:=26) (b:=b2) (off:=0) (c':=#[.slice (some ⟨g,0,none⟩) (qV l2) cap]) (g:=false) (m:=1) 4 _ G61 kr C60 rfl kr rfl kr kr kr rfl (by first | decide | (simp;done)) kr rfl ?_)
   intro w62 C62 y62;refine zH<|zA (Z58 _ _ ?_);refine zC<|zD 2 [(34,.int .i64 (i64.wrap ((k:Int)+1))),(33,.int .i64 (k:Int))] G61 kr kr (fun a63 G63=>?_);have G64:=G63.set 34 (v':= .int .i64 ((k+1:Nat):Int)) kr rfl (zQ (aZ (by omega) (by omega)))
   refine zD 1 [(4,.int .i64 ((k+1:Nat):Int))] G64 kr kr (fun a65 G65=>?_);refine zH ?_;refine yN<|zA ?_;refine⟨k+1,⟨_,(_::bs),qV l2,Q2,(Go.Gv.trimmed l2),G65.as [1,4] kr kr,(St.mid [(b2,.cells #[.slice (some ⟨g,0,none⟩) (qV l2) cap] 26 (0,0)),(g,.cells Q2 214 (0,0))] C62.tail.swap.tail.swap.tail),(Le9 y8 y25 y27 y33 y34 y56 y57 y60 y62),hrt,qY _,by rw[jK,Nat.pow_succ,←F,←hhalf];ac_rfl⟩,?_⟩
   first | omega | (simp;omega)
  ·
   exact⟨_,Q1,j,0,C34,Le.refl _,D1,by omega,by rw[←C,List.take_length];omega,fun _ _=>rfl⟩
 have G66:=G20.set 17 (v':= .bool false) kr rfl (zK S);have F67:((j.getD 0 0 % 2:Nat):Int)≠0:=by simpa using S
 have hodd:val j % 2=1:=by rw[zRn];omega
 refine aK ?_;refine rP ?_;refine rP ?_;refine nZ<|zA (Z7 _ _ ?_);refine zG (fun K68 Z68=>?_);refine zC ?_;refine qW G66 kr (zE (d:=35) (v:= .slice (some ⟨g,0,none⟩) z cap) G66 kr (zB (t:=26) (g:=false) (vs:=[.slice (some ⟨g,0,none⟩) z cap]) (ad:=⟨b2,0,none⟩) rfl kr kr ir (C8.cells 0 rfl rfl)) ?_);intro a69 G69;refine zD 3 [(3,.int .i64 (k:Int)),(2,.slice (some ⟨g,0,none⟩) z cap),(36,.int .i64 (k:Int))] G69 kr kr (fun a70 G70=>?_);refine zH<|zA (Z68 _ _ ?_);refine mI ?_;refine qXv (bs:=bs) (N:=[(b2,.cells #[.slice (some ⟨g,0,none⟩) z cap] 26 (0,0)),(g,.cells Q1 214 (0,0))]) (v:= .tuple #[.slice (some ⟨g,0,none⟩) z cap,.int .i64 (k:Int)]) (rs:=[.tmp 2,.tmp 3]) (vs:=[.slice (some ⟨g,0,none⟩) z cap,.int .i64 (k:Int)]) G70 C8 kr kr (fun w71 C71 y71=>?_);refine⟨(Res.tmp kr (Res.tmp kr Res.nil)),?_⟩;exact⟨C71.upd,_,rfl,k,Q1,j,by rw[C],C71.get 1 rfl,by rw[C];exact D1,U,F,hodd⟩
set_option maxHeartbeats 1000000
theorem qJy{x y:Nat}(h:qM (x:Int) (y:Int)= -1):x<y:=by unfold qM at h;(repeat' split at h)<;>omega
theorem qTl{x y:Nat}(h:qM (x:Int) (y:Int)≠0)(f:qM (x:Int) (y:Int)≠ -1):y<x:=by unfold qM at h f;(repeat' split at h)<;>(repeat' split at f)<;>omega
theorem jBc(w:World)(X:Hid)(hX:∀k o,X k o→k<w.heap.size)(ad:Option Addr)(len cap:Nat)(l:List Nat)(h:zN (rd w X) ad len cap l)(ad2:Option Addr)(len2 P2:Nat)(l2:List Nat)(h2:zN (rd w X) ad2 len2 P2 l2):Calls Tryz.prog 155 #[.slice ad len cap,.slice ad2 len2 P2] w (Ret E0 w fun w' v=>zEs 214 w w' (vF l l2) (Nat.gcd (val l) (val l2)) v):=by
 obtain rfl:=h.hlen;obtain rfl:=h2.hlen;have hcap:=h.hcap;have hbig:=h.hbig;have hcap2:=h2.hcap;have hbig2:=h2.hbig;refine zen Tryz.func155 ?_;have C0:St E0 w X w X []:=St.start hX;refine zz 12<|zc C0 (zAe _ X0 (zZ _) _ _ _ l (h.mono Le.x0) _ _ _ l2 (h2.mono Le.x0)) ?_;rintro v3 w3 C3 y3 N3 rfl;refine zz 9<|zb 13 (b:=((vF l l2)!=0)) (fun J4=>?_) (fun J4=>?_);have F5:(vF l l2)≠0:=by simpa using J4
 refine zz 11<|zr' (v:= .tuple #[.slice none 0 0,.int .i64 (vF l l2)]) ?_;exact⟨C3.upd,_,rfl,.inl ⟨F5,rfl⟩⟩;have F6:(vF l l2)=0:=by simpa using J4
 obtain⟨⟨hl1,c1⟩,hl2,c2⟩:=zAh F6;refine zz 6<|zc C3 (zAi _ X0 (zZ _) _ _ _ l ((h.mono y3).mono Le.x0) (by omega)) ?_
 rintro v8 w8 C8 y8 N8 ⟨ad8,zCw,P8,how8⟩;rcases how8 with⟨rfl,hlen8,hlt8,⟨rfl,rfl,rfl⟩ | ⟨g8,Q8,rfl,hge8,hget8,D8⟩⟩
 have hnil8:l=[]:=List.eq_nil_of_length_eq_zero hlen8.symm;have hzA:val l=0:=by rw[hnil8];rfl
 refine zz 1<|zc C8 (zAi _ X0 (zZ _) _ _ _ l2 ((h2.mono (Le2 y3 y8)).mono Le.x0) (by omega)) ?_
 rintro v11 w11 C11 y11 N11 ⟨ad11,len11,P11,how11⟩;rcases how11 with⟨rfl,hlen11,hlt11,⟨rfl,rfl,rfl⟩ | ⟨g11,Q11,rfl,hge11,hget11,D11⟩⟩
 have hnil11:l2=[]:=List.eq_nil_of_length_eq_zero hlen11.symm;have hzB:val l2=0:=by rw[hnil11];rfl
 refine zz 23<|zr' (v:= .tuple #[.slice none 0 0,.int .i64 0]) ?_;exact⟨C11.upd,_,rfl,.inr ⟨F6,_,[],_,_,_,rfl,⟨⟨rfl,rfl,fun x hx=>by simp at hx,.inl ⟨rfl,rfl,rfl⟩⟩,.inl rfl,by rw[hzA,hzB];rfl⟩,by simp⟩⟩
 subst hlen11;have C12:=St.adopt C11 (fun o h=>Nat.not_lt.2 hge11 (C8.lt _ _ h)) (Nat.le_trans C8.upd.size hge11) hget11;have y12:=Le.adopt y11 hge11;refine zz 23<|zr' (v:= .tuple #[.slice (some ⟨g11,0,none⟩) l2.length P11,.int .i64 0]) ?_;exact⟨C12.upd,_,rfl,.inr ⟨F6,_,l2,_,_,_,rfl,⟨⟨rfl,rfl,D11.lt,.inr ⟨_,_,rfl,C12.own_ge 0 rfl,C12.get 0 rfl,D11⟩⟩,c2,by rw[hzA,Nat.gcd_zero_left]⟩,hl2⟩⟩
 subst hlen8;have C9:=St.adopt C8 (fun o h=>Nat.not_lt.2 hge8 (C3.lt _ _ h)) (Nat.le_trans C3.upd.size hge8) hget8;have y9:=Le.adopt y8 hge8;refine zz 1<|zc C9 (zAi _ X0 (zZ _) _ _ _ l2 ((h2.mono (Le2 y3 y9)).mono Le.x0) (by omega)) ?_
 rintro v14 w14 C14 y14 N14 ⟨ad14,len14,P14,how14⟩;rcases how14 with⟨rfl,hlen14,hlt14,⟨rfl,rfl,rfl⟩ | ⟨g14,Q14,rfl,hge14,hget14,D14⟩⟩
 have hnil14:l2=[]:=List.eq_nil_of_length_eq_zero hlen14.symm;have hzB:val l2=0:=by rw[hnil14];rfl
 refine zz 12<|zb 21 (b:=((l.length:Int)==0)) (fun J16=>?_) (fun J16=>?_);have F17:(l.length:Int)=0:=by simpa using J16
 have hzA:val l=0:=by rw[List.eq_nil_of_length_eq_zero (by omega:l.length=0)];rfl
 refine zz 11<|zr' (v:= .tuple #[.slice none 0 0,.int .i64 0]) ?_;exact⟨C14.upd,_,rfl,.inr ⟨F6,_,[],_,_,_,rfl,⟨⟨rfl,rfl,fun x hx=>by simp at hx,.inl ⟨rfl,rfl,rfl⟩⟩,.inl rfl,by rw[hzA,hzB];rfl⟩,by simp⟩⟩
 have F18:(l.length:Int)≠0:=by simpa using J16
 have hposA:0<val l:=wU c1 (by rintro rfl;simp at F18)
 refine zz 22<|zr' (v:= .tuple #[.slice (some ⟨g8,0,none⟩) l.length P8,.int .i64 0]) ?_;exact⟨C14.upd,_,rfl,.inr ⟨F6,_,l,_,_,_,rfl,⟨⟨rfl,rfl,D8.lt,.inr ⟨_,_,rfl,C14.own_ge 0 rfl,C14.get 0 rfl,D8⟩⟩,c1,by rw[hzB,Nat.gcd_zero_right]⟩,hl1⟩⟩
 subst hlen14;have V:=St.adopt C14 (fun o h=>Nat.not_lt.2 hge14 (C9.lt _ _ h)) (Nat.le_trans C9.upd.size hge14) hget14;have y15:=Le.adopt y14 hge14;refine zz 12<|zb 21 (b:=((l.length:Int)==0)) (fun J19=>?_) (fun J19=>?_);have F20:(l.length:Int)=0:=by simpa using J19
 have hzA:val l=0:=by rw[List.eq_nil_of_length_eq_zero (by omega:l.length=0)];rfl
 refine zz 11<|zr' (v:= .tuple #[.slice (some ⟨g14,0,none⟩) l2.length P14,.int .i64 0]) ?_;exact⟨V.upd,_,rfl,.inr ⟨F6,_,l2,_,_,_,rfl,⟨⟨rfl,rfl,D14.lt,.inr ⟨_,_,rfl,V.own_ge 0 rfl,V.get 0 rfl,D14⟩⟩,c2,by rw[hzA,Nat.gcd_zero_left]⟩,hl2⟩⟩
 have F21:(l.length:Int)≠0:=by simpa using J19
 have hposA:0<val l:=wU c1 (by rintro rfl;simp at F21)
 refine zz 11<|zb 25 (b:=((l2.length:Int)==0)) (fun J22=>?_) (fun J22=>?_);have F23:(l2.length:Int)=0:=by simpa using J22
 have hzB:val l2=0:=by rw[List.eq_nil_of_length_eq_zero (by omega:l2.length=0)];rfl
 refine zz 11<|zr' (v:= .tuple #[.slice (some ⟨g8,0,none⟩) l.length P8,.int .i64 0]) ?_;exact⟨V.upd,_,rfl,.inr ⟨F6,_,l,_,_,_,rfl,⟨⟨rfl,rfl,D8.lt,.inr ⟨_,_,rfl,V.own_ge 1 rfl,V.get 1 rfl,D8⟩⟩,c1,by rw[hzB,Nat.gcd_zero_right]⟩,hl1⟩⟩
 have F24:(l2.length:Int)≠0:=by simpa using J22
 have hposB:0<val l2:=wU c2 (by rintro rfl;simp at F24)
 refine zz 6<|zcE 1 V rfl (zFo _ g8 l.length P8 _ l (V.get 1 rfl) D8 (by omega) c1 hposA) ?_
 rintro v26 w26 ob26 ⟨H,Q26,ls26,rfl,hg26,D26,hcan26,hval26,hodd26⟩ hob26 C26 y26;obtain rfl:=Option.some.inj (hob26.symm.trans hg26);refine zz 10<|zcE 0 C26 rfl (zFo _ g14 l2.length P14 _ l2 (C26.get 0 rfl) D14 (by omega) c2 hposB) ?_
 rintro v28 w28 ob28 ⟨I,Q28,ls28,rfl,hg28,D28,hcan28,hval28,hodd28⟩ hob28 C28 y28;obtain rfl:=Option.some.inj (hob28.symm.trans hg28);refine zz 12<|zlp Tryz.f155 [] [1,0,1,1,1,1,1,1,1,0,0] (fun((N,gx,gy,f,q,z,F):Nat×Nat×Nat×Nat×Nat×(List Nat)×(List Nat))=>[(0,.slice (some ⟨gx,0,none⟩) z.length f),(1,.slice (some ⟨gy,0,none⟩) F.length q),(7,.int .i64 ((H:Nat):Int)),(8,.int .i64 ((I:Nat):Int))]) (fun((N,gx,gy,f,q,z,F):Nat×Nat×Nat×Nat×Nat×(List Nat)×(List Nat))w1=>∃(Y1:Hid)(W:Array Value)(cury:Array Value),St E0 w X w1 Y1 [(gy,.cells cury 214 (0,0)),(gx,.cells W 214 (0,0))]∧Le (rd w28 (zAt g14 (zAt g8 X))) (rd w1 Y1)∧(zX z.length f W z)∧(zX F.length q cury F)∧(zW z)∧(zW F)∧(val z % 2=1)∧(val F % 2=1)∧(Nat.gcd (val z) (val F)=Nat.gcd (val ls26) (val ls28))∧(val z+val F=N)∧(z.length≤512)∧(F.length≤512)) (fun((N,gx,gy,f,q,z,F):Nat×Nat×Nat×Nat×Nat×(List Nat)×(List Nat))=>N) ((val ls26+val ls28),g8,g14,P8,P14,ls26,ls28) ?_ ?_;refine⟨_,Q26,Q28,C28,Le.refl _,D26,D28,hcan26,hcan28,hodd26,hodd28,rfl,rfl,Nat.le_trans (qB h.hlt hcan26 (by have:=Nat.le_mul_of_pos_right (val ls26) (Nat.two_pow_pos H);omega)) hl1,Nat.le_trans (qB h2.hlt hcan28 (by have:=Nat.le_mul_of_pos_right (val ls28) (Nat.two_pow_pos I);omega)) hl2⟩
 rintro⟨N,gx,gy,f,q,z,F⟩ w29 K29 Z29 ⟨Y29,W,cury,C29,y29,hp29_0,hp29_1,hp29_2,hp29_3,hp29_4,hp29_5,hp29_6,hp29_7,hp29_8,hp29_9⟩;have y:=hp29_0;have C:=hp29_1;have T:=hp29_2;have hcany:=hp29_3;have hoddx:=hp29_4;have hoddy:=hp29_5;have hg0:=hp29_6;have hN:=hp29_7;have hlx:=hp29_8;have hly:=hp29_9;refine zz 6<|zc C29 (zBf _ X0 (zZ _) _ _ _ z (zX.limbs (Y:=X0) y (C29.get 1 rfl) (fun _ h=>h.elim)) _ _ _ F (zX.limbs (Y:=X0) C (C29.get 0 rfl) (fun _ h=>h.elim)) T hcany (by omega)) ?_ (vs:=#[.slice (some ⟨gx,0,none⟩) z.length f,.slice (some ⟨gy,0,none⟩) F.length q])
 rintro v31 w31 S y31 N31 rfl;refine zz 9<|zb 40 (b:=((qM (val z) (val F))==0)) (fun J32=>?_) (fun J32=>?_);have F33:(qM (val z) (val F))=0:=by simpa using J32
 have hxy:=fA F33;refine zz 14<|zs 56 (v:= .int .i64 (if((I:Nat):Int)<((H:Nat):Int)then((I:Nat):Int)else((H:Nat):Int))) (v':= .int .i64 ((min H I:Nat):Int)) (zQ (by split<;>omega))<|zz 4 ?_
 have hgab:=qEc hodd26 hodd28 hval26 hval28;rw[←hg0,←hxy,Nat.gcd_self]at hgab;have hgle:Nat.gcd (val l) (val l2)≤val l:=Nat.gcd_le_left _ hposA;refine zlp Tryz.f155 [K29] [1,0,1,1,1,1,1,1,1,1,0,1,0] (fun((i,gd,G,ld):Nat×Nat×Nat×(List Nat))=>[(0,.slice (some ⟨gd,0,none⟩) ld.length G),(56,.int .i64 ((min H I:Nat):Int)),(57,.int .i64 (i:Int))]) (fun(i,gd,G,ld)w1=>∃(Y1:Hid)(curd:Array Value),St E0 w X w1 Y1 [(gd,.cells curd 214 (0,0))]∧Le (rd w31 Y29) (rd w1 Y1)∧(zX ld.length G curd ld)∧(zW ld)∧(val ld=val z*2^i)∧(i≤min H I)) (fun(i,gd,G,ld)=>min H I-i) (0,gx,f,z) ?_ ?_;refine⟨_,W,S.tail,Le.refl _,y,T,by simp,Nat.zero_le _⟩
 rintro⟨i,gd,G,ld⟩ w34 K34 Z34 ⟨Y34,curd,C34,y34,hp34_0,hp34_1,hp34_2,hp34_3⟩;have hrowd:=hp34_0;have Z:=hp34_1;have U:=hp34_2;have hik:=hp34_3;have hb1:val z*2^i≤val z*2^(min H I):=Nat.mul_le_mul_left _ (Nat.pow_le_pow_right (by omega) hik)
 have hb2:=qB h.hlt Z (by omega:val ld≤val l)
 have hb3:0<ld.length:=by rcases Nat.eq_zero_or_pos ld.length with e | e;rw[List.eq_nil_of_length_eq_zero e]at U;have:=Nat.mul_pos (by omega:0<val z) (Nat.two_pow_pos i);simp only[val]at U;omega;exact e
 obtain⟨_,hkb⟩:=zIo hval26 (by omega) (xH h.hlt)
 refine zz 6<|zt 58 (p:=(i:Int)<((min H I:Nat):Int)) (fun F35=>?_) (fun F35=>?_);refine zz 7<|zop (at1 [K29,K34] Tryz.f155 [1,0,1,1,1,1,1,1,1,1,0,1,0,0,1,1,0,0]) 1 (fun a36 _ G36 hz36=>zZk 0 G36 C34 rfl (zOx _ gd ld.length G _ ld (C34.get 0 rfl) hrowd (by omega) Z 0 (by omega)) ?_)
 rintro v37 w37 Y37 g37 o37 ⟨Q37,P37,ls37,rfl,rfl,D37,hlen37,hcan37,hval37⟩ C37 y37 a38 G38;refine hz36 G38<|zz 6<|zw 61 (x:=(i:Int)+1)<|zz 2 ?_;refine kL (fun a h=>Z34 ((i+1,g37,P37,ls37)) _ a h ⟨_,Q37,C37,(Le2 y34 y37),D37,hcan37,by rw[hval37,U,Nat.pow_succ];simp only[Nat.add_zero];ac_rfl,by omega⟩ ?_)
 first | omega | (simp<;>omega)
 refine zz 15<|zr' (v:= .tuple #[.slice (some ⟨gd,0,none⟩) ld.length G,.int .i64 0]) ?_;exact⟨C34.upd,_,rfl,.inr ⟨F6,_,ld,_,_,_,rfl,⟨⟨rfl,rfl,hrowd.lt,.inr ⟨_,_,rfl,C34.own_ge 0 rfl,C34.get 0 rfl,hrowd⟩⟩,Z,by rw[U,←hgab];congr 2;omega⟩,by omega⟩⟩
 have F39:(qM (val z) (val F))≠0:=by simpa using J32
 refine zz 7<|zb 42 (b:=((qM (val z) (val F))==(-1))) (fun J40=>?_) (fun J40=>?_);have F41:(qM (val z) (val F))=(-1):=by simpa using J40
 have hcmp:=qJy F41;refine zz 13<|zcE 0 S rfl (pF _ gy F.length q _ F (S.get 0 rfl) C (by omega) _ _ _ z (zX.limbs (Y:=HG gy) y (S.get 1 rfl) (fun o h=>S.ne (i:=1) (j:=0) rfl rfl (by decide) h)) (qB C.lt T (by omega)) (by omega)) ?_ (vs:=#[.slice (some ⟨gy,0,none⟩) F.length q,.slice (some ⟨gx,0,none⟩) z.length f])
 rintro v43 w43 ob43 ⟨Q43,ls43,rfl,hg43,D43,hcan43,hval43⟩ hob43 C43 y43;obtain rfl:=Option.some.inj (hob43.symm.trans hg43);refine zz 5 ?_;have hz0:=qB C.lt hcan43 (by omega:val ls43≤val F)
 refine zcE 0 C43 rfl (zFo _ gy ls43.length q _ ls43 (C43.get 0 rfl) D43 (by omega) hcan43 (by omega)) ?_
 rintro v45 w45 ob45 ⟨k45,Q45,J,rfl,hg45,D45,hcan45,hval45,hodd45⟩ hob45 C45 y45;obtain rfl:=Option.some.inj (hob45.symm.trans hg45);refine zz 6 ?_;have hz1:val J*2^k45=val F-val z:=hval45.trans hval43;have hz2:val J≤val J*2^k45:=Nat.le_mul_of_pos_right _ (Nat.two_pow_pos _);have hz3:=zPf hoddx (by omega) hz1
 have hz4:=qB C.lt hcan45 (by omega:val J≤val F)
 have J1_:=(Le3 y29 y31 y43).trans y45;refine kL (fun a h=>Z29 (((val J+val z),gy,gx,q,f,J,z)) _ a h ⟨_,Q45,W,C45.swap,J1_,D45,y,hcan45,T,hodd45,hoddx,by rw[hz3];rw[Nat.gcd_comm];exact hg0,rfl,by omega,by omega⟩ ?_)
 first | omega | (simp<;>omega)
 have F46:(qM (val z) (val F))≠(-1):=by simpa using J40
 have hcmp:=qTl F39 F46;refine zz 8<|zcE 1 S rfl (pF _ gx z.length f _ z (S.get 1 rfl) y (by omega) _ _ _ F (zX.limbs (Y:=HG gx) C (S.get 0 rfl) (fun o h=>S.ne (i:=0) (j:=1) rfl rfl (by decide) h)) (qB y.lt hcany (by omega)) (by omega)) ?_ (vs:=#[.slice (some ⟨gx,0,none⟩) z.length f,.slice (some ⟨gy,0,none⟩) F.length q])
 rintro v48 w48 ob48 ⟨Q48,ls48,rfl,hg48,D48,hcan48,hval48⟩ hob48 C48 y48;obtain rfl:=Option.some.inj (hob48.symm.trans hg48);refine zz 5 ?_;have hz0:=qB y.lt hcan48 (by omega:val ls48≤val z)
 refine zcE 1 C48 rfl (zFo _ gx ls48.length f _ ls48 (C48.get 1 rfl) D48 (by omega) hcan48 (by omega)) ?_
 rintro v50 w50 ob50 ⟨k50,Q50,O,rfl,hg50,D50,hcan50,hval50,hodd50⟩ hob50 C50 y50;obtain rfl:=Option.some.inj (hob50.symm.trans hg50);refine zz 6 ?_;have hz1:val O*2^k50=val z-val F:=hval50.trans hval48;have hz2:val O≤val O*2^k50:=Nat.le_mul_of_pos_right _ (Nat.two_pow_pos _);have hz3:=zPf hoddy (by omega) hz1
 have hz4:=qB y.lt hcan50 (by omega:val O≤val z)
 have J2_:=(Le3 y29 y31 y48).trans y50;refine kL (fun a h=>Z29 (((val O+val F),gx,gy,f,q,O,F)) _ a h ⟨_,Q50,cury,C50,J2_,D50,C,hcan50,hcany,hodd50,hoddy,by rw[hz3];exact hg0,rfl,by omega,by omega⟩ ?_)
 first | omega | (simp<;>omega)
section
variable (w:World)(X:Hid)(hX:∀k o,X k o→k<w.heap.size)
set_option maxHeartbeats 1000000
def zCw:ByteArray:=⟨#[0,1,2,2,3,3,3,3,4,4,4,4,4,4,4,4,5,5,5,5,5,5,5,5,5,5,5,5,5,5,5,5,6,6,6,6,6,6,6,6,6,6,6,6,6,6,6,6,6,6,6,6,6,6,6,6,6,6,6,6,6,6,6,6,7,7,7,7,7,7,7,7,7,7,7,7,7,7,7,7,7,7,7,7,7,7,7,7,7,7,7,7,7,7,7,7,7,7,7,7,7,7,7,7,7,7,7,7,7,7,7,7,7,7,7,7,7,7,7,7,7,7,7,7,7,7,7,7,8,8,8,8,8,8,8,8,8,8,8,8,8,8,8,8,8,8,8,8,8,8,8,8,8,8,8,8,8,8,8,8,8,8,8,8,8,8,8,8,8,8,8,8,8,8,8,8,8,8,8,8,8,8,8,8,8,8,8,8,8,8,8,8,8,8,8,8,8,8,8,8,8,8,8,8,8,8,8,8,8,8,8,8,8,8,8,8,8,8,8,8,8,8,8,8,8,8,8,8,8,8,8,8,8,8,8,8,8,8,8,8,8,8,8,8,8,8,8,8,8,8,8,8,8,8,8,8]⟩
theorem zZf:∀n,n<256→(zCw.data[n]?.isSome=true)∧n<2^(zCw.data[n]?.getD 0).toNat∧(zCw.data[n]?.getD 0).toNat≤8:=by decide+kernel
theorem zFq(n:Nat)(h:n<256):∃b:UInt8,zCw[n]?=some b∧n<2^b.toNat∧b.toNat≤8:=by
 obtain⟨q,f,j⟩:=zZf n h;obtain⟨b,hb⟩:=Option.isSome_iff_exists.1 q;rw[hb]at f j;refine⟨b,?_,f,j⟩;obtain⟨y,z⟩:=Array.getElem?_eq_some_iff.1 hb;have C:n<zCw.size:=y;rw[getElem?_pos zCw n C];exact congrArg some z
include hX in
theorem qMe(x:Nat)(hx:x<4294967296):Calls Tryz.prog 309 #[.int .u32 (x:Int)] w (Ret E0 w fun _ v=>∃r:Nat,v= .int .i64 (r:Int)∧x<2^r∧r≤32):=by
 refine zen Tryz.func309 ?_;have C:St E0 w X w X []:=St.start hX;refine zz 12<|zt 4 (p:=(x:Int)≥65536) (fun O=>?_) (fun O=>?_);refine zz 5<|zs 6 (v:= .int .u32 (Int.fdiv ((x:Int)) (2^16))) (v':= .int .u32 ((x / 65536:Nat):Int)) (zQ (by rw[wH _ 16 (c:=65536) (by decide) (by decide)];omega))<|zz 14<|zt 8 (p:=((x / 65536:Nat):Int)≥256) (fun S=>?_) (fun S=>?_)
 refine zz 5<|zs 10 (v:= .int .u32 (Int.fdiv (((x / 65536:Nat):Int)) (2^8))) (v':= .int .u32 ((x / 65536 / 256:Nat):Int)) (zQ (by rw[wH _ 8 (c:=256) (by decide) (by decide)];omega))<|zz 14<|zs 15 (v:= .int .u8 (IntKind.u8.wrap (((x / 65536 / 256:Nat):Int)))) (v':= .int .u8 ((x / 65536 / 256:Nat):Int)) (zQ (wu8 (by omega) (by omega))) ?_
 obtain⟨f,j,q,y⟩:=zFq (x / 65536 / 256) (by omega)
 refine zop (at1 [] Tryz.f309 [1,1,1,0]) 3 (fun a4 _ U I=>zE (d:=16) (v:= .int .u8 ((f.toNat:Nat):Int)) U kr (bR (s:=zCw) (i:=(x / 65536 / 256)) rfl kr rfl rfl j) ?_);intro a5 V;refine I V<|zz 1<|zw 17 (x:=((f.toNat:Nat):Int))<|zz 1<|zw 18 (x:=(24:Int)+((f.toNat:Nat):Int))<|zz 4<|zr' (v:= .int .i64 ((24:Int)+((f.toNat:Nat):Int))) ?_;refine⟨C.upd,_,rfl,24+f.toNat,zQ (by omega),?_,by omega⟩
 rw[Nat.pow_add];generalize 2^f.toNat=t at *;omega;refine zz 8<|zs 15 (v:= .int .u8 (IntKind.u8.wrap (((x / 65536:Nat):Int)))) (v':= .int .u8 ((x / 65536:Nat):Int)) (zQ (wu8 (by omega) (by omega))) ?_
 obtain⟨f,j,q,y⟩:=zFq (x / 65536) (by omega)
 refine zop (at1 [] Tryz.f309 [1,1,1,0]) 3 (fun a6 _ W J=>zE (d:=16) (v:= .int .u8 ((f.toNat:Nat):Int)) W kr (bR (s:=zCw) (i:=(x / 65536)) rfl kr rfl rfl j) ?_);intro a7 Z;refine J Z<|zz 1<|zw 17 (x:=((f.toNat:Nat):Int))<|zz 1<|zw 18 (x:=(16:Int)+((f.toNat:Nat):Int))<|zz 4<|zr' (v:= .int .i64 ((16:Int)+((f.toNat:Nat):Int))) ?_;refine⟨C.upd,_,rfl,16+f.toNat,zQ (by omega),?_,by omega⟩
 rw[Nat.pow_add];generalize 2^f.toNat=t at *;omega;refine zz 10<|zt 8 (p:=(x:Int)≥256) (fun T=>?_) (fun T=>?_);refine zz 5<|zs 10 (v:= .int .u32 (Int.fdiv ((x:Int)) (2^8))) (v':= .int .u32 ((x / 256:Nat):Int)) (zQ (by rw[wH _ 8 (c:=256) (by decide) (by decide)];omega))<|zz 14<|zs 15 (v:= .int .u8 (IntKind.u8.wrap (((x / 256:Nat):Int)))) (v':= .int .u8 ((x / 256:Nat):Int)) (zQ (wu8 (by omega) (by omega))) ?_
 obtain⟨f,j,q,y⟩:=zFq (x / 256) (by omega)
 refine zop (at1 [] Tryz.f309 [1,1,1,0]) 3 (fun a9 _ G9 N=>zE (d:=16) (v:= .int .u8 ((f.toNat:Nat):Int)) G9 kr (bR (s:=zCw) (i:=(x / 256)) rfl kr rfl rfl j) ?_);intro a10 F;refine N F<|zz 1<|zw 17 (x:=((f.toNat:Nat):Int))<|zz 1<|zw 18 (x:=(8:Int)+((f.toNat:Nat):Int))<|zz 4<|zr' (v:= .int .i64 ((8:Int)+((f.toNat:Nat):Int))) ?_;refine⟨C.upd,_,rfl,8+f.toNat,zQ (by omega),?_,by omega⟩
 rw[Nat.pow_add];generalize 2^f.toNat=t at *;omega;refine zz 8<|zs 15 (v:= .int .u8 (IntKind.u8.wrap ((x:Int)))) (v':= .int .u8 ((x:Nat):Int)) (zQ (wu8 (by omega) (by omega))) ?_
 obtain⟨f,j,q,y⟩:=zFq (x) (by omega)
 refine zop (at1 [] Tryz.f309 [1,1,1,0]) 3 (fun a11 _ G z=>zE (d:=16) (v:= .int .u8 ((f.toNat:Nat):Int)) G kr (bR (s:=zCw) (i:=x) rfl kr rfl rfl j) ?_);intro a12 H;refine z H<|zz 1<|zw 17 (x:=((f.toNat:Nat):Int))<|zz 1<|zw 18 (x:=(0:Int)+((f.toNat:Nat):Int))<|zz 4<|zr' (v:= .int .i64 ((0:Int)+((f.toNat:Nat):Int))) ?_;refine⟨C.upd,_,rfl,0+f.toNat,zQ (by omega),?_,by omega⟩
 rw[Nat.pow_add];generalize 2^f.toNat=t at *;omega
include hX in
theorem qEw(ad:Option Addr)(len cap:Nat)(l:List Nat)(h:zN (rd w X) ad len cap l)(S:len≤1099511627776):Calls Tryz.prog 298 #[.slice ad len cap] w (Ret E0 w fun _ v=>∃m:Nat,v= .int .i64 (m:Int)∧val l<2^m∧m≤32*l.length):=by
 obtain rfl:=h.hlen;have hcap:=h.hcap;have hbig:=h.hbig;refine zen Tryz.func298 ?_;have q:St E0 w X w X []:=St.start hX;refine zz 13<|zb 5 (b:=((l.length:Int)==0)) (fun y=>?_) (fun y=>?_);have J:(l.length:Int)=0:=by simpa using y
 have f:l=[]:=List.eq_nil_of_length_eq_zero (by omega)
 refine zz 8<|zr' (v:= .int .i64 0) ?_;exact⟨q.upd,_,rfl,0,rfl,by rw[f];simp[val],by omega⟩
 have N:(l.length:Int)≠0:=by simpa using y
 obtain⟨z,j,rfl,_⟩:=h.addr (by omega)
 have G:=h.getD_lt (l.length-1);refine zz 8<|zw 8 (x:=(l.length:Int)-1)<|zz 1<|zw 9 (x:=(32:Int)*((l.length:Int)-1))<|zz 4<|zw 13 (x:=(l.length:Int)-1)<|zi (b:=z) (off:=j) (len:=l.length) (cap:=cap) (kd:= .i64) (i:=(l.length:Int)-1) 1 (j+(l.length-1)) ?_ (hoff:=(by first | omega | (simp;done) | (simp;omega)))
 refine zl ((h.cell (i:=(l.length-1)) (by omega)).mono (Le.refl _)).cells<|zc q (qMe _ _ q.lt (l.getD (l.length-1) 0) (by omega)) ?_
 rintro T U H V O ⟨F,rfl,C,I⟩;refine zz 1<|zw 17 (x:=((32:Int)*((l.length:Int)-1))+(F:Int))<|zz 4<|zr' (v:= .int .i64 (((32:Int)*((l.length:Int)-1))+(F:Int))) ?_;exact⟨H.upd,_,rfl,32*(l.length-1)+F,zQ (by omega),qMf l h.hlt _ (by omega) C,by omega⟩
include hX in
theorem qCz(ad:Option Addr)(len cap:Nat):Calls Tryz.prog 284 #[.slice ad len cap] w (Ret E0 w fun w' v=>∃bx,v= .func (.func 297) #[] #[.pointer (some ⟨bx,0,none⟩)]∧w.heap.size≤bx∧w'.heap[bx]?=some (.cells #[.slice ad len cap] 26 (0,0))):=by
 refine zen Tryz.func284 ?_;have j:St E0 w X w X []:=St.start hX;refine zz 2<|zn pn (.cells #[.slice ad len cap] 26 (0,0)) j fun b3 z y f C q=>zz 10<|zr' (v:= .func (.func 297) #[] #[.pointer (some ⟨b3,0,none⟩)]) ?_;exact⟨f.upd,_,rfl,_,rfl,f.own_ge 0 rfl,f.get 0 rfl⟩
theorem zYu(l bx:Nat)(ad:Option Addr)(len cap:Nat)(xs:List Nat)(hbig:len≤1099511627776)(J:Nat→World→Prop)(R:World→Prop)(w:World)(q:zN (rd w X0) ad len cap xs)
    (N:∀k w,J k w→At (rd w X0) ⟨bx,0,none⟩ [.slice ad len cap])
    (hel:∀k w,J (k+1) w→k / 32<len→∃b off,ad=some ⟨b,off,none⟩∧At (rd w X0) ⟨b,off+k / 32,none⟩ [.int .u32 ((xs.getD (k / 32) 0:Nat):Int)])
    (hY:∀k w,k<32*len→J (k+1) w→YieldAt (FF none) 0 Tryz.prog l #[.int .i64 (k:Int),.int .u32 ((val xs / 2^k % 2:Nat):Int)] w (vB (J k) R))
    (h0:∀w,J 0 w→R w) (hbx:At (rd w X0) ⟨bx,0,none⟩ [.slice ad len cap]) (hJ:∀m w',Upd E0 w w'→val xs<2^m→m≤32*xs.length→J m w'):Calls Tryz.prog 297 #[.func (.yield l) #[] #[],.pointer (some ⟨bx,0,none⟩)] w (fun e w'=>(∃v,e= .returned v)∧R w'):=by
 obtain rfl:=q.hlen;refine zFp (n:=24) (vs:=[.func (.yield l) #[] #[],.pointer (some ⟨bx,0,none⟩)]) Tryz.func297 rfl rfl rfl kr (fun a0 G0=>?_);have G0:Fr 24 a0 [(0,.func (.yield l) #[] #[]),(1,.pointer (some ⟨bx,0,none⟩))]:=G0;have C0:St E0 w X0 w X0 []:=St.start (zZ _);refine zG (fun K1 Z1=>?_);refine zC ?_;refine qW G0 kr (zE (d:=4) (v:= .slice ad xs.length cap) G0 kr (zB (t:=26) (g:=false) (vs:=[.slice ad xs.length cap]) (ad:=⟨bx,0,none⟩) rfl kr kr ir (hbx).cells) ?_);intro a2 G2;refine qW G2 kr (kC (d:=5) (f:=298) (cap:=#[]) (vs:=#[.slice ad xs.length cap]) G2 kr C0 rfl kr kr (fun w=>Tryz.call298 _ w) (qEw _ X0 (zZ _) _ _ _ xs q (by omega)) ?_)
 rintro v3 w3 C3 y3 N3 ⟨m,rfl,hm1,hm2⟩ a4 G4;refine zD 1 [(6,.int .i64 (i64.wrap ((m:Int)-1)))] G4 kr kr (fun a5 G5=>?_);have G6:=G5.set 6 (v':= .int .i64 ((m:Int)-1)) kr rfl (zQ (aZ (by omega) (by omega)))
 refine zD 1 [(3,.int .i64 ((m:Int)-1))] G6 kr kr (fun a7 G7=>?_);refine zH<|zA (Z1 _ _ ?_);refine yZ ?_;refine lJ (fun(k:Nat)a w1=>Fr 24 a [(0,.func (.yield l) #[] #[]),(1,.pointer (some ⟨bx,0,none⟩)),(3,.int .i64 ((k:Int)-1))]∧J k w1∧k≤32*xs.length) (fun k=>k) m ?_ ?_
 ·
  exact⟨G7.as [0,1,3] kr kr,hJ m _ N3 hm1 hm2,hm2⟩
 rintro k a8 w8 ⟨G8,F,hk⟩;have C8:St E0 w8 X0 w8 X0 []:=St.start (zZ _);refine zG (fun K9 Z9=>?_);refine zG (fun K10 Z10=>?_);refine zC<|zD 2 [(8,.bool (decide (((k:Int)-1)≥0))),(7,.int .i64 ((k:Int)-1))] G8 kr kr (fun a11 G=>?_);refine zH<|zA (Z10 _ _ ?_);refine nL (decide (((k:Int)-1)≥0)) G kr kr (fun z=>?_) (fun z=>?_)
 ·
  have G13:=G.set 8 (v':= .bool true) kr rfl (zK z);have F14:((k:Int)-1)≥0:=of_decide_eq_true z;obtain⟨j,rfl⟩:∃j,k=j+1:=⟨k-1,by omega⟩
  have G15:=G13.set 3 (v:= .int .i64 (((j+1:Nat):Int)-1)) (v':= .int .i64 (j:Int)) kr kr (zQ (by omega))
  obtain⟨b,off,rfl,Z⟩:=hel j _ F (by omega)
  have hltj:xs.getD (j / 32) 0<4294967296:=q.getD_lt _;refine wW<|zA (Z9 _ _ ?_);refine zG (fun K16 Z16=>?_);refine yZ<|zG (fun K17 Z17=>?_);refine zC<|zD 2 [(12,.int .i64 (j:Int)),(11,.func (.yield l) #[] #[])] G15 kr kr (fun a18 O=>?_);refine qW O kr (zE (d:=13) (v:= .slice (some ⟨b,off,none⟩) xs.length cap) O kr (zB (t:=26) (g:=false) (vs:=[.slice (some ⟨b,off,none⟩) xs.length cap]) (ad:=⟨bx,0,none⟩) rfl kr kr ir ((N _ _ F)).cells) ?_);intro a19 G19;refine zD 2 [(15,.int .i64 (i64.wrap (Int.tdiv ((j:Int)) (32)))),(14,.int .i64 (j:Int))] G19 kr kr (fun a20 G20=>?_);have S:=G20.set 15 (v':= .int .i64 ((j / 32:Nat):Int)) kr rfl (zQ (dJ _ (by omega)))
  refine qW S kr (zE (d:=16) (v:= .pointer (some ⟨b,off+j / 32,none⟩)) S kr (jF (t:=26) (e:=214) (b:=b) (off:=off) (len:=xs.length) (cap:=cap) (kd:= .i64) (i:=((j / 32:Nat):Int)) (g:=false) (m:=1) (off':=off+j / 32) rfl kr kr kr kr (by omega) (by omega) (by first | rfl | omega | (simp;done) | (simp;omega)) _) ?_)
  intro a22 T;refine qW T kr (zE (d:=17) (v:= .int .u32 ((xs.getD (j / 32) 0:Nat):Int)) T kr (zB (t:=214) (g:=false) (vs:=[.int .u32 ((xs.getD (j / 32) 0:Nat):Int)]) (ad:=⟨b,off+j / 32,none⟩) rfl kr kr ir (Z).cells) ?_);intro a23 G23;refine zD 2 [(19,.int .i64 (Int.tmod ((j:Int)) (32))),(18,.int .i64 (j:Int))] G23 kr kr (fun a24 G24=>?_);have U:=G24.set 19 (v':= .int .i64 ((j % 32:Nat):Int)) kr rfl (zQ (zDt _));refine qW U kr (zE (d:=20) (v:= .int .u32 ((xs.getD (j / 32) 0 / 2^(j % 32):Nat):Int)) U kr (qHp rfl rfl rfl (by omega)) ?_)
  intro a26 G26;refine zD 1 [(21,.int .u32 (wS ((xs.getD (j / 32) 0 / 2^(j % 32):Nat):Int) 1))] G26 kr kr (fun a27 G27=>?_);have G28:=G27.set 21 (v':= .int .u32 ((val xs / 2^j % 2:Nat):Int)) kr rfl (zQ ((zOl _ (Nat.lt_of_le_of_lt (Nat.div_le_self _ _) hltj)).trans (by rw[zGn xs q.hlt j (by omega)])))
  refine zLh (d:=22) (l:=l) (vs:=#[.int .i64 (j:Int),.int .u32 ((val xs / 2^j % 2:Nat):Int)]) G28 kr rfl kr kr (hY j _ (by omega) F) (fun _ _ h=>h.ret) ?_
  rintro v29 w29 ⟨y,hv29,V,W⟩ a30 G30;cases hv29;have C29:St E0 w29 X0 w29 X0 []:=St.start (zZ _);refine zD 1 [(23,.bool (!y))] G30 kr kr (fun a31 H=>?_);refine zH<|zA (Z17 _ _ ?_);refine nL (!y) H kr kr (fun C=>?_) (fun C=>?_)
  ·
   have G33:=H.set 23 (v':= .bool true) kr rfl (zK C);have F34:y=false:=by simpa using C
   have I:=F34;refine mI ?_;refine dQ ?_;refine mY ?_;refine mY ?_;refine dQ<|zVf (v:= .tuple #[]) (rs:=[]) G33 kr Res.nil kr ?_;exact⟨⟨_,rfl⟩,(W I)⟩
  have G35:=H.set 23 (v':= .bool false) kr rfl (zK C);have F36:y=true:=by simpa using C
  have I:=F36;refine wW ?_;refine yN<|zA (Z16 _ _ ?_);refine zC<|zD 2 [(10,.int .i64 (i64.wrap ((j:Int)-1))),(9,.int .i64 (j:Int))] G35 kr kr (fun a37 G37=>?_);have G38:=G37.set 10 (v':= .int .i64 ((j:Int)-1)) kr rfl (zQ (aZ (by omega) (by omega)))
  refine zD 1 [(3,.int .i64 ((j:Int)-1))] G38 kr kr (fun a39 G39=>?_);refine zH<|zA ?_;exact⟨j,⟨G39.as [0,1,3] kr kr,V I,by omega⟩,by show j<j+1;omega⟩
 have G40:=G.set 8 (v':= .bool false) kr rfl (zK z);have F41:¬(((k:Int)-1)≥0):=of_decide_eq_false z;have hk0:k=0:=by omega
 refine aK ?_;refine rP ?_;refine rP ?_;refine nZ<|zOn (v:= .tuple #[]) (rs:=[]) G40 kr Res.nil kr ?_;exact⟨⟨_,rfl⟩,(h0 _ (hk0▸F))⟩
end
set_option maxHeartbeats 1000000
theorem zAj{x y:Nat}(h:qM (x:Int) (y:Int)≥0):y≤x:=zOs (by omega)
theorem fC{x y:Nat}(h:¬qM (x:Int) (y:Int)≥0):x<y:=zOt (by omega)
theorem qDc(w:World)(X:Hid)(hX:∀k o,X k o→k<w.heap.size)(ad:Option Addr)(len cap:Nat)(l:List Nat)(h:zN (rd w X) ad len cap l)(H:Option Addr)(len2 Z:Nat)(l2:List Nat)(h2:zN (rd w X) H len2 Z l2)(J1:zW l)(J2:zW l2)(hl1:len≤512)(hl2:len2≤512)(hd:0<val l2):Calls Tryz.prog 268 #[.slice ad len cap,.slice H len2 Z] w (Ret E0 w fun w' v=>∃u u2 lq lr ad len cap H len2 Z,v= .tuple #[u,u2]∧zAb 214 w w' u lq ad len cap (val l / val l2)∧zAb 214 w w' u2 lr H len2 Z (val l % val l2)):=by
 obtain rfl:=h.hlen;obtain rfl:=h2.hlen;have hcap:=h.hcap;have hbig:=h.hbig;have hcap2:=h2.hcap;have hbig2:=h2.hbig;refine zMr (n:=38) (vs:=[.slice ad l.length cap,.slice H l2.length Z]) Tryz.func268 rfl rfl rfl kr (fun a0 G0=>?_);have G0:Fr 38 a0 [(0,.slice ad l.length cap),(1,.slice H l2.length Z)]:=G0;have C0:St E0 w X w X []:=St.start hX;refine zG (fun K1 Z1=>?_);refine zC ?_;refine qW G0 kr (lN (d:=3) (fun b=> .pointer (some ⟨b,0,none⟩)) (.cells #[.slice H l2.length Z] 26 (0,0)) G0 kr C0 kw ?_);intro b2 w2 Y2 C2 y2 N2 a3 G3;refine qW G3 kr (lN (d:=4) (fun b=> .pointer (some ⟨b,0,none⟩)) (.cells #[.slice none 0 0] 26 (0,0)) G3 kr C2 kw ?_);intro b4 w4 Y4 C4 y4 N4 a5 G5;refine qW G5 kr (lN (d:=5) (fun b=> .pointer (some ⟨b,0,none⟩)) (.cells #[.slice none 0 0] 26 (0,0)) G5 kr C4 kw ?_);intro b6 w6 Y6 C6 y6 N6 a7 G7;refine zH<|zA (Z1 _ _ ?_);refine zG (fun K8 Z8=>?_);refine zC<|zD 2 [(9,.int .i64 (l.length:Int)),(8,.slice ad l.length cap)] G7 kr kr (fun a9 G9=>?_);refine qW G9 kr (zWu (d:=10) (t:=26) (e:=214) (m:=l.length) (l:=(l.length:Int)) (z:= .int .u32 0) (i0:=Tryz.t214) G9 kr C6 rfl kr (by first | rfl | omega) kr kr kr kr kr (by show 4*_≤_;omega) (by omega) ?_)
 intro C w10 Y10 C10 y10 N10 a11 G11;have D10:=zX.zeros l.length (by simp only[maxLen];omega)
 refine qW G11 kr (zF (t:=26) (b:=b4) (off:=0) (c':=#[.slice (some ⟨C,0,none⟩) l.length l.length]) (g:=false) (m:=1) 2 _ G11 kr C10 rfl kr rfl kr kr kr rfl (by first | decide | (simp;done)) kr rfl ?_)
 intro w12 C12 y12;refine zH<|zA (Z8 _ _ ?_);refine zG (fun K13 Z13=>?_);refine zG (fun K14 Z14=>?_);refine zC<|zD 1 [(11,.slice ad l.length cap)] G11 kr kr (fun a15 G15=>?_);refine qW G15 kr (kC (d:=12) (f:=284) (cap:=#[]) (vs:=#[.slice ad l.length cap]) G15 kr C12 rfl kr kr (fun w=>Tryz.call284 _ w) (qCz _ _ C12.lt ad l.length cap) ?_);rintro v16 w16 C16 y16 N16 ⟨bx16,rfl,hge16,hget16⟩ a17 G17;have C18:=St.adopt C16 (fun o h=>Nat.not_lt.2 hge16 (C12.lt _ _ h)) (Nat.le_trans C12.upd.size hge16) hget16;have y18:=Le.adopt y16 hge16;refine zH<|zA (Z14 _ _ ?_);refine yZ<|zGx (f:=297) (caps:=#[.pointer (some ⟨bx16,0,none⟩)]) G17 C18 kr kr (fun args w=>Tryz.call297 args w) fun rec19 l19 b19 w19 Y19 V C19 y19 N19=>?_;have G20:=zCn b19 G17;refine zYu l19 bx16 ad l.length cap l (by omega) (fun k w'=>∃(Y':Hid)(O:Array Value)(lq:List Nat)(rb:List (Nat×Obj))(adr:Option Addr)(F:Nat)(lr:List Nat)(q:Nat),St E0 w X w' Y' ((l19,.loop rec19)::(b19,.deferred (some []))::(bx16,.cells #[.slice ad l.length cap] 26 (0,0))::(C,.cells O 214 (0,0))::(b6,.cells #[.slice adr lr.length F] 26 (0,0))::(b4,.cells #[.slice (some ⟨C,0,none⟩) l.length l.length] 26 (0,0))::(b2,.cells #[.slice H l2.length Z] 26 (0,0))::rb)∧Le (rd w19 Y19) (rd w' Y')∧(zX l.length l.length O lq)∧(RSt 214 rb adr F lr)∧(zW lr)∧(val lq=2^k*q)∧(val l / 2^k=q*val l2+val lr)∧(val lr<val l2)) _ _ ((h.mono (Le7 y2 y4 y6 y10 y12 y18 y19)).mono Le.x0) ?_ ?_ ?_ ?_ (C19.at0 2 rfl rfl) ?_
 rintro k w21 ⟨Y21,O,lq,rb,adr,F,lr,q,C21,y21,hp21_0,hp21_1,hp21_2,hp21_3,hp21_4,hp21_5⟩;exact C21.at0 2 rfl rfl;rintro k w22 ⟨Y22,O,lq,rb,adr,F,lr,q,C22,y22,hp22_0,hp22_1,hp22_2,hp22_3,hp22_4,hp22_5⟩;intro hk;obtain⟨b,off,rfl,_⟩:=h.addr (by omega)
 exact⟨b,off,rfl,((h.cell (i:=k / 32) (by omega)).mono (Le8 y2 y4 y6 y10 y12 y18 y19 y22)).mono Le.x0⟩
 intro k w23 hk;rintro⟨Y23,O,lq,rb,adr,F,lr,q,C23,y23,hp23_0,hp23_1,hp23_2,hp23_3,hp23_4,hp23_5⟩;refine zIu (p:=13) (q:=14) V G17 C23 kr kr (fun a24 G24=>?_);have hkl:k / 32<l.length:=by omega
 have j:=hp23_0;have hrst:=hp23_1;have hcanlr:=hp23_2;have hvq:=hp23_3;have hdiv:=hp23_4;have hlt:=hp23_5;rcases hrst with⟨rfl,rfl,rfl,rfl⟩ | ⟨gr,curr,rfl,rfl,hrowr⟩
 refine zG (fun K25 Z25=>?_);refine zC<|zD 1 [(6,.int .i64 (k:Int))] G24 kr kr (fun a26 G26=>?_);refine zH<|zA (Z25 _ _ ?_);refine zC<|zD 1 [(7,.int .u32 ((val l / 2^k % 2:Nat):Int))] G26 kr kr (fun a27 G27=>?_);refine zH<|zA<|zCc V C23 (fun w28 C28 y28=>?_);refine yZ<|zG (fun K29 Z29=>?_);refine zC ?_;refine qW G27 kr (zE (d:=15) (v:= .slice none 0 0) G27 kr (zB (t:=26) (g:=false) (vs:=[.slice none 0 0]) (ad:=⟨b6,0,none⟩) rfl kr kr ir (C28.cells 4 rfl rfl)) ?_);intro a30 G30;refine zD 1 [(16,.int .u32 ((val l / 2^k % 2:Nat):Int))] G30 kr kr (fun a31 G31=>?_);refine qW G31 kr (kC (d:=17) (f:=227) (cap:=#[]) (vs:=#[.slice none 0 0,.int .u32 ((val l / 2^k % 2:Nat):Int)]) G31 kr C28 rfl kr kr (fun w=>Tryz.call227 _ w) (zSv _ X0 (zZ _) (val l / 2^k % 2) (by omega)) ?_)
 rintro v32 w32 C32 y32 N32 ⟨G,ad32,zHa,P32,⟨⟨rfl,hl32,hlt32,ho32⟩,hcan32,hval32⟩,hlen32⟩ a33 G33;have hx32:val G=2*val ([]:List Nat)+val l / 2^k % 2:=by simp only[val];omega
 rcases ho32 with⟨rfl,rfl,rfl⟩ | ⟨T,Q32,rfl,hge32,hget32,D32⟩
 have hn32:G=[]:=List.eq_nil_of_length_eq_zero hl32.symm;subst hn32;refine qW G33 kr (zF (t:=26) (b:=b6) (off:=0) (c':=#[.slice none 0 0]) (g:=false) (m:=1) 4 _ G33 kr C32 rfl kr rfl kr kr kr rfl (by first | decide | (simp;done)) kr rfl ?_)
 intro w36 C36 y36;refine zH<|zA (Z29 _ _ ?_);refine zG (fun K37 Z37=>?_);refine zC ?_;refine qW G33 kr (zE (d:=18) (v:= .slice none 0 0) G33 kr (zB (t:=26) (g:=false) (vs:=[.slice none 0 0]) (ad:=⟨b6,0,none⟩) rfl kr kr ir (C36.cells 4 rfl rfl)) ?_);intro a38 G38;refine qW G38 kr (zE (d:=19) (v:= .slice H l2.length Z) G38 kr (zB (t:=26) (g:=false) (vs:=[.slice H l2.length Z]) (ad:=⟨b2,0,none⟩) rfl kr kr ir (C36.cells 6 rfl rfl)) ?_);intro a39 G39;refine qW G39 kr (kC (d:=20) (f:=225) (cap:=#[]) (vs:=#[.slice none 0 0,.slice H l2.length Z]) G39 kr C36 rfl kr kr (fun w=>Tryz.call225 _ w) (zBf _ X0 (zZ _) _ _ _ ([]) (zN.nil none (by omega)) _ _ _ l2 ((h2.mono (qJa y2 y4 y6 y10 y12 y18 y19 y23 y28 y32 y36)).mono Le.x0) (.inl rfl) J2 (by omega)) ?_)
 rintro v40 w40 C40 y40 N40 rfl a41 G41;refine zD 1 [(21,.bool (decide ((qM (val ([])) (val l2))≥0)))] G41 kr kr (fun a42 G42=>?_);refine zH<|zA (Z37 _ _ ?_);refine nL (decide ((qM (val ([])) (val l2))≥0)) G42 kr kr (fun J43=>?_) (fun J43=>?_);have G44:=G42.set 21 (v':= .bool true) kr rfl (zK J43);have F45:(qM (val ([])) (val l2))≥0:=of_decide_eq_true J43;have U:=zAj F45;simp only[val]at U;omega;have G46:=G42.set 21 (v':= .bool false) kr rfl (zK J43);have F47:¬((qM (val ([])) (val l2))≥0):=of_decide_eq_false J43;have U:=fC F47;refine wW ?_;refine yN ?_;refine lY V C40 (fun w48 C48 y48=>vB.next ?_);exact⟨_,O,lq,[],none,0,[],(2*q),C48,(Le6 y23 y28 y32 y36 y40 y48),j,.inl ⟨rfl,rfl,rfl,rfl⟩,(.inl rfl),by rw[hvq,Nat.pow_succ];ac_rfl,qDb hdiv hx32,U⟩
 subst hl32;have C34:=St.adopt C32 (fun o h=>Nat.not_lt.2 hge32 (C28.lt _ _ h)) (Nat.le_trans C28.upd.size hge32) hget32;have y34:=Le.adopt y32 hge32;have C35:=St.mid (B:=[]) [(l19,.loop (zOm rec19)),(b19,.deferred (some [])),(bx16,.cells #[.slice ad l.length cap] 26 (0,0)),(C,.cells O 214 (0,0)),(b6,.cells #[.slice none 0 0] 26 (0,0)),(b4,.cells #[.slice (some ⟨C,0,none⟩) l.length l.length] 26 (0,0)),(b2,.cells #[.slice H l2.length Z] 26 (0,0))] C34;have y35:Le (rd w32 (zAt T Y23)) (rd w32 (zAt T Y23)):=Le.refl _;refine qW G33 kr (zF (t:=26) (b:=b6) (off:=0) (c':=#[.slice (some ⟨T,0,none⟩) G.length P32]) (g:=false) (m:=1) 4 _ G33 kr C35 rfl kr rfl kr kr kr rfl (by first | decide | (simp;done)) kr rfl ?_)
 intro w49 C49 y49;refine zH<|zA (Z29 _ _ ?_);refine zG (fun K50 Z50=>?_);refine zC ?_;refine qW G33 kr (zE (d:=18) (v:= .slice (some ⟨T,0,none⟩) G.length P32) G33 kr (zB (t:=26) (g:=false) (vs:=[.slice (some ⟨T,0,none⟩) G.length P32]) (ad:=⟨b6,0,none⟩) rfl kr kr ir (C49.cells 4 rfl rfl)) ?_);intro a51 G51;refine qW G51 kr (zE (d:=19) (v:= .slice H l2.length Z) G51 kr (zB (t:=26) (g:=false) (vs:=[.slice H l2.length Z]) (ad:=⟨b2,0,none⟩) rfl kr kr ir (C49.cells 6 rfl rfl)) ?_);intro a52 G52;refine qW G52 kr (kC (d:=20) (f:=225) (cap:=#[]) (vs:=#[.slice (some ⟨T,0,none⟩) G.length P32,.slice H l2.length Z]) G52 kr C49 rfl kr kr (fun w=>Tryz.call225 _ w) (zBf _ X0 (zZ _) _ _ _ G (zX.limbs (Y:=X0) D32 (C49.get 7 rfl) (fun _ h=>h.elim)) _ _ _ l2 ((h2.mono (qSd y2 y4 y6 y10 y12 y18 y19 y23 y28 y34 y35 y49)).mono Le.x0) hcan32 J2 (by omega)) ?_)
 rintro v53 w53 C53 y53 N53 rfl a54 G54;refine zD 1 [(21,.bool (decide ((qM (val G) (val l2))≥0)))] G54 kr kr (fun a55 G55=>?_);refine zH<|zA (Z50 _ _ ?_);refine nL (decide ((qM (val G) (val l2))≥0)) G55 kr kr (fun J56=>?_) (fun J56=>?_);have G57:=G55.set 21 (v':= .bool true) kr rfl (zK J56);have F58:(qM (val G) (val l2))≥0:=of_decide_eq_true J56;have U:=zAj F58;obtain⟨hset1,hset2,hset3⟩:=zNo lq j.lt k q (by rw[j.len];exact hkl) hvq
 refine zG (fun K59 Z59=>?_);refine zC ?_;refine qW G57 kr (zE (d:=22) (v:= .slice (some ⟨T,0,none⟩) G.length P32) G57 kr (zB (t:=26) (g:=false) (vs:=[.slice (some ⟨T,0,none⟩) G.length P32]) (ad:=⟨b6,0,none⟩) rfl kr kr ir (C53.cells 4 rfl rfl)) ?_);intro a60 G60;refine qW G60 kr (zE (d:=23) (v:= .slice H l2.length Z) G60 kr (zB (t:=26) (g:=false) (vs:=[.slice H l2.length Z]) (ad:=⟨b2,0,none⟩) rfl kr kr ir (C53.cells 6 rfl rfl)) ?_);intro a61 G61;refine qW G61 kr (zBc (d:=24) (f:=226) (cap:=#[]) (vs:=#[.slice (some ⟨T,0,none⟩) G.length P32,.slice H l2.length Z]) 7 G61 kr C53 rfl kr kr (fun w=>Tryz.call226 _ w) rfl (pF _ T G.length P32 _ G (C53.get 7 rfl) D32 (by omega) _ _ _ l2 ((h2.mono (Le13 y2 y4 y6 y10 y12 y18 y19 y23 y28 y34 y35 y49 y53)).mono (C53.leHG 7 rfl)) (qB D32.lt J2 (by omega)) (by omega)) ?_)
 rintro v62 w62 ob62 ⟨Q62,ls62,rfl,hg62,D62,hcan62,hval62⟩ hob62 C62 y62 a63 G63;obtain rfl:=Option.some.inj (hob62.symm.trans hg62);refine qW G63 kr (zF (t:=26) (b:=b6) (off:=0) (c':=#[.slice (some ⟨T,0,none⟩) ls62.length P32]) (g:=false) (m:=1) 4 _ G63 kr C62 rfl kr rfl kr kr kr rfl (by first | decide | (simp;done)) kr rfl ?_)
 intro w64 C64 y64;refine zH<|zA (Z59 _ _ ?_);refine cK (N:=11) (kE [(⟨b4,0,none⟩,[.slice (some ⟨C,0,none⟩) l.length l.length]),(⟨C,k / 32,none⟩,[.int .u32 ((lq.getD (k / 32) 0:Nat):Int)])]) [10] kr kr kr C64 ?_;intro w65 C65 y65 N65;refine mZ (kE.cons (C65.cells 5 rfl rfl) (kE.cons (C65.rowCells 3 rfl j (by have:=j.len;(try simp only[List.length_set]at *);omega)) (kE.nil _))) (fun S=>?_)
 refine nR (d:=25) (v:= .slice (some ⟨C,0,none⟩) l.length l.length) 0 G63 rfl kr kr kr (fun w hw=>zB (t:=26) (g:=false) (vs:=[.slice (some ⟨C,0,none⟩) l.length l.length]) (ad:=⟨b4,0,none⟩) rfl kr kr ir (hw.get 0 kr)) S ?_;intro a66 G66;refine zJ (d:=26) (v:= .int .i64 (k:Int)) 1 G66 rfl kr kr kw (fun _=>S) fun a67 G67=>zJ (d:=27) (v:= .int .i64 (i64.wrap (Int.tdiv ((k:Int)) (32)))) 2 G67 rfl kr kr kw (fun _=>S) fun a68 G68=>?_;have G69:=G68.set 27 (v':= .int .i64 ((k / 32:Nat):Int)) kr rfl (zQ (dJ _ (by omega)))
 refine zJ (d:=28) (v:= .pointer (some ⟨C,k / 32,none⟩)) 3 G69 rfl kr kr (fun w=>jF (t:=26) (e:=214) (b:=C) (off:=0) (len:=l.length) (cap:=l.length) (kd:= .i64) (i:=((k / 32:Nat):Int)) (g:=false) (m:=1) (off':=k / 32) rfl kr kr kr kr (by omega) (by omega) (by first | rfl | omega | (simp;done) | (simp;omega)) w) (fun _=>S) fun a70 G70=>?_
 refine nR (d:=29) (v:= .int .u32 ((lq.getD (k / 32) 0:Nat):Int)) 4 G70 rfl kr kr kr (fun w hw=>zB (t:=214) (g:=false) (vs:=[.int .u32 ((lq.getD (k / 32) 0:Nat):Int)]) (ad:=⟨C,k / 32,none⟩) rfl kr kr ir (hw.get 1 kr)) S ?_;intro a71 G71;refine zJ (d:=30) (v:= .int .i64 (k:Int)) 5 G71 rfl kr kr kw (fun _=>S) fun a72 G72=>zJ (d:=31) (v:= .int .i64 (Int.tmod ((k:Int)) (32))) 6 G72 rfl kr kr kw (fun _=>S) fun a73 G73=>?_;have G74:=G73.set 31 (v':= .int .i64 ((k % 32:Nat):Int)) kr rfl (zQ (zDt _));refine zJ (d:=32) (v:= .int .u32 ((2^(k % 32):Nat):Int)) 7 G74 rfl kr kr (fun w=>zRd rfl rfl rfl (by omega)) (fun _=>S) fun a75 G75=>zJ (d:=33) (v:= .int .u32 (rU ((lq.getD (k / 32) 0:Nat):Int) ((2^(k % 32):Nat):Int))) 8 G75 rfl kr kr kw (fun _=>S) fun a76 G76=>?_
 have G77:=G76.set 33 (v':= .int .u32 ((lq.getD (k / 32) 0+2^(k % 32):Nat):Int)) kr rfl (zQ hset1);refine zJ (d:=34) (v:= .pointer (some ⟨C,k / 32,none⟩)) 9 G77 rfl kr kr (fun w=>jF (t:=26) (e:=214) (b:=C) (off:=0) (len:=l.length) (cap:=l.length) (kd:= .i64) (i:=((k / 32:Nat):Int)) (g:=false) (m:=1) (off':=k / 32) rfl kr kr kr kr (by omega) (by omega) (by first | rfl | omega | (simp;done) | (simp;omega)) w) (fun _=>S) fun a78 G78=>?_
 refine tF [10] kr rfl ?_;refine yH.cons (i:=10) G78 rfl kr (mV (t:=214) (y:=(lq.getD (k / 32) 0+2^(k % 32))) (k:=k / 32) (e:=((lq.getD (k / 32) 0+2^(k % 32):Nat):Int)) 3 G78 kr C65 rfl rfl rfl (rfl) kr rfl j (by have:=j.len;(try simp only[List.length_set]at *);omega) (hset2) ?_) yH.nil
 intro Q79 w79 D79 C79 y79;refine⟨nY kr,?_⟩;refine zDs kr (nrm ?_);refine yN ?_;refine lY V C79 (fun w80 C80 y80=>vB.next ?_);exact⟨_,Q79,(lq.set (k / 32) (lq.getD (k / 32) 0+2^(k % 32))),[(T,.cells Q62 214 (0,0))],(some ⟨T,0,none⟩),P32,ls62,(2*q+1),C80,(qJa y23 y28 y34 y35 y49 y53 y62 y64 y65 y79 y80),D79,.inr ⟨_,_,rfl,rfl,D62⟩,hcan62,by rw[hset3,hvq,Nat.pow_succ,Nat.mul_add,Nat.mul_one];congr 1;ac_rfl,qKi hdiv (hval62.trans (by rw[hx32])) (by omega),by have:=hval62;omega⟩
 have G81:=G55.set 21 (v':= .bool false) kr rfl (zK J56);have F82:¬((qM (val G) (val l2))≥0):=of_decide_eq_false J56;have U:=fC F82;refine wW ?_;refine yN ?_;refine lY V C53 (fun w83 C83 y83=>vB.next ?_);exact⟨_,O,lq,[(T,.cells Q32 214 (0,0))],(some ⟨T,0,none⟩),P32,G,(2*q),C83,(Le7 y23 y28 y34 y35 y49 y53 y83),j,.inr ⟨_,_,rfl,rfl,D32⟩,hcan32,by rw[hvq,Nat.pow_succ];ac_rfl,qDb hdiv hx32,U⟩
 refine zG (fun K84 Z84=>?_);refine zC<|zD 1 [(6,.int .i64 (k:Int))] G24 kr kr (fun a85 G85=>?_);refine zH<|zA (Z84 _ _ ?_);refine zC<|zD 1 [(7,.int .u32 ((val l / 2^k % 2:Nat):Int))] G85 kr kr (fun a86 G86=>?_);refine zH<|zA<|zCc V C23 (fun w87 C87 y87=>?_);refine yZ<|zG (fun K88 Z88=>?_);refine zC ?_;refine qW G86 kr (zE (d:=15) (v:= .slice (some ⟨gr,0,none⟩) lr.length F) G86 kr (zB (t:=26) (g:=false) (vs:=[.slice (some ⟨gr,0,none⟩) lr.length F]) (ad:=⟨b6,0,none⟩) rfl kr kr ir (C87.cells 4 rfl rfl)) ?_);intro a89 G89;refine zD 1 [(16,.int .u32 ((val l / 2^k % 2:Nat):Int))] G89 kr kr (fun a90 G90=>?_);have hlnr:=qB h2.hlt hcanlr (Nat.le_of_lt hlt);refine qW G90 kr (zQh (d:=17) (f:=227) (cap:=#[]) (vs:=#[.slice (some ⟨gr,0,none⟩) lr.length F,.int .u32 ((val l / 2^k % 2:Nat):Int)]) 7 G90 kr C87 rfl kr kr (fun w=>Tryz.call227 _ w) rfl (zOx _ gr lr.length F _ lr (C87.get 7 rfl) hrowr (by omega) hcanlr (val l / 2^k % 2) (by omega)) ?_)
 rintro v91 w91 Y91 W o91 ⟨Q91,P91,I,rfl,rfl,D91,hlen91,hcan91,hval91⟩ C91 y91 a92 G92;refine qW G92 kr (zF (t:=26) (b:=b6) (off:=0) (c':=#[.slice (some ⟨W,0,none⟩) I.length P91]) (g:=false) (m:=1) 4 _ G92 kr C91 rfl kr rfl kr kr kr rfl (by first | decide | (simp;done)) kr rfl ?_)
 intro w93 C93 y93;refine zH<|zA (Z88 _ _ ?_);refine zG (fun K94 Z94=>?_);refine zC ?_;refine qW G92 kr (zE (d:=18) (v:= .slice (some ⟨W,0,none⟩) I.length P91) G92 kr (zB (t:=26) (g:=false) (vs:=[.slice (some ⟨W,0,none⟩) I.length P91]) (ad:=⟨b6,0,none⟩) rfl kr kr ir (C93.cells 4 rfl rfl)) ?_);intro a95 G95;refine qW G95 kr (zE (d:=19) (v:= .slice H l2.length Z) G95 kr (zB (t:=26) (g:=false) (vs:=[.slice H l2.length Z]) (ad:=⟨b2,0,none⟩) rfl kr kr ir (C93.cells 6 rfl rfl)) ?_);intro a96 G96;refine qW G96 kr (kC (d:=20) (f:=225) (cap:=#[]) (vs:=#[.slice (some ⟨W,0,none⟩) I.length P91,.slice H l2.length Z]) G96 kr C93 rfl kr kr (fun w=>Tryz.call225 _ w) (zBf _ X0 (zZ _) _ _ _ I (zX.limbs (Y:=X0) D91 (C93.get 7 rfl) (fun _ h=>h.elim)) _ _ _ l2 ((h2.mono (qJa y2 y4 y6 y10 y12 y18 y19 y23 y87 y91 y93)).mono Le.x0) hcan91 J2 (by omega)) ?_)
 rintro v97 w97 C97 y97 N97 rfl a98 G98;refine zD 1 [(21,.bool (decide ((qM (val I) (val l2))≥0)))] G98 kr kr (fun a99 G99=>?_);refine zH<|zA (Z94 _ _ ?_);refine nL (decide ((qM (val I) (val l2))≥0)) G99 kr kr (fun J100=>?_) (fun J100=>?_);have G101:=G99.set 21 (v':= .bool true) kr rfl (zK J100);have F102:(qM (val I) (val l2))≥0:=of_decide_eq_true J100;have U:=zAj F102;obtain⟨hset1,hset2,hset3⟩:=zNo lq j.lt k q (by rw[j.len];exact hkl) hvq
 refine zG (fun K103 Z103=>?_);refine zC ?_;refine qW G101 kr (zE (d:=22) (v:= .slice (some ⟨W,0,none⟩) I.length P91) G101 kr (zB (t:=26) (g:=false) (vs:=[.slice (some ⟨W,0,none⟩) I.length P91]) (ad:=⟨b6,0,none⟩) rfl kr kr ir (C97.cells 4 rfl rfl)) ?_);intro a104 G104;refine qW G104 kr (zE (d:=23) (v:= .slice H l2.length Z) G104 kr (zB (t:=26) (g:=false) (vs:=[.slice H l2.length Z]) (ad:=⟨b2,0,none⟩) rfl kr kr ir (C97.cells 6 rfl rfl)) ?_);intro a105 G105;refine qW G105 kr (zBc (d:=24) (f:=226) (cap:=#[]) (vs:=#[.slice (some ⟨W,0,none⟩) I.length P91,.slice H l2.length Z]) 7 G105 kr C97 rfl kr kr (fun w=>Tryz.call226 _ w) rfl (pF _ W I.length P91 _ I (C97.get 7 rfl) D91 (by omega) _ _ _ l2 ((h2.mono (qSd y2 y4 y6 y10 y12 y18 y19 y23 y87 y91 y93 y97)).mono (C97.leHG 7 rfl)) (qB D91.lt J2 (by omega)) (by omega)) ?_)
 rintro v106 w106 ob106 ⟨Q106,ls106,rfl,hg106,D106,hcan106,hval106⟩ hob106 C106 y106 a107 G107;obtain rfl:=Option.some.inj (hob106.symm.trans hg106);refine qW G107 kr (zF (t:=26) (b:=b6) (off:=0) (c':=#[.slice (some ⟨W,0,none⟩) ls106.length P91]) (g:=false) (m:=1) 4 _ G107 kr C106 rfl kr rfl kr kr kr rfl (by first | decide | (simp;done)) kr rfl ?_)
 intro w108 C108 y108;refine zH<|zA (Z103 _ _ ?_);refine cK (N:=11) (kE [(⟨b4,0,none⟩,[.slice (some ⟨C,0,none⟩) l.length l.length]),(⟨C,k / 32,none⟩,[.int .u32 ((lq.getD (k / 32) 0:Nat):Int)])]) [10] kr kr kr C108 ?_;intro w109 C109 y109 N109;refine mZ (kE.cons (C109.cells 5 rfl rfl) (kE.cons (C109.rowCells 3 rfl j (by have:=j.len;(try simp only[List.length_set]at *);omega)) (kE.nil _))) (fun J=>?_)
 refine nR (d:=25) (v:= .slice (some ⟨C,0,none⟩) l.length l.length) 0 G107 rfl kr kr kr (fun w hw=>zB (t:=26) (g:=false) (vs:=[.slice (some ⟨C,0,none⟩) l.length l.length]) (ad:=⟨b4,0,none⟩) rfl kr kr ir (hw.get 0 kr)) J ?_;intro a110 G110;refine zJ (d:=26) (v:= .int .i64 (k:Int)) 1 G110 rfl kr kr kw (fun _=>J) fun a111 G111=>zJ (d:=27) (v:= .int .i64 (i64.wrap (Int.tdiv ((k:Int)) (32)))) 2 G111 rfl kr kr kw (fun _=>J) fun a112 G112=>?_;have G113:=G112.set 27 (v':= .int .i64 ((k / 32:Nat):Int)) kr rfl (zQ (dJ _ (by omega)))
 refine zJ (d:=28) (v:= .pointer (some ⟨C,k / 32,none⟩)) 3 G113 rfl kr kr (fun w=>jF (t:=26) (e:=214) (b:=C) (off:=0) (len:=l.length) (cap:=l.length) (kd:= .i64) (i:=((k / 32:Nat):Int)) (g:=false) (m:=1) (off':=k / 32) rfl kr kr kr kr (by omega) (by omega) (by first | rfl | omega | (simp;done) | (simp;omega)) w) (fun _=>J) fun a114 G114=>?_
 refine nR (d:=29) (v:= .int .u32 ((lq.getD (k / 32) 0:Nat):Int)) 4 G114 rfl kr kr kr (fun w hw=>zB (t:=214) (g:=false) (vs:=[.int .u32 ((lq.getD (k / 32) 0:Nat):Int)]) (ad:=⟨C,k / 32,none⟩) rfl kr kr ir (hw.get 1 kr)) J ?_;intro a115 G115;refine zJ (d:=30) (v:= .int .i64 (k:Int)) 5 G115 rfl kr kr kw (fun _=>J) fun a116 G116=>zJ (d:=31) (v:= .int .i64 (Int.tmod ((k:Int)) (32))) 6 G116 rfl kr kr kw (fun _=>J) fun a117 G117=>?_;have G118:=G117.set 31 (v':= .int .i64 ((k % 32:Nat):Int)) kr rfl (zQ (zDt _));refine zJ (d:=32) (v:= .int .u32 ((2^(k % 32):Nat):Int)) 7 G118 rfl kr kr (fun w=>zRd rfl rfl rfl (by omega)) (fun _=>J) fun a119 G119=>zJ (d:=33) (v:= .int .u32 (rU ((lq.getD (k / 32) 0:Nat):Int) ((2^(k % 32):Nat):Int))) 8 G119 rfl kr kr kw (fun _=>J) fun a120 G120=>?_
 have G121:=G120.set 33 (v':= .int .u32 ((lq.getD (k / 32) 0+2^(k % 32):Nat):Int)) kr rfl (zQ hset1);refine zJ (d:=34) (v:= .pointer (some ⟨C,k / 32,none⟩)) 9 G121 rfl kr kr (fun w=>jF (t:=26) (e:=214) (b:=C) (off:=0) (len:=l.length) (cap:=l.length) (kd:= .i64) (i:=((k / 32:Nat):Int)) (g:=false) (m:=1) (off':=k / 32) rfl kr kr kr kr (by omega) (by omega) (by first | rfl | omega | (simp;done) | (simp;omega)) w) (fun _=>J) fun a122 G122=>?_
 refine tF [10] kr rfl ?_;refine yH.cons (i:=10) G122 rfl kr (mV (t:=214) (y:=(lq.getD (k / 32) 0+2^(k % 32))) (k:=k / 32) (e:=((lq.getD (k / 32) 0+2^(k % 32):Nat):Int)) 3 G122 kr C109 rfl rfl rfl (rfl) kr rfl j (by have:=j.len;(try simp only[List.length_set]at *);omega) (hset2) ?_) yH.nil
 intro Q123 w123 D123 C123 y123;refine⟨nY kr,?_⟩;refine zDs kr (nrm ?_);refine yN ?_;refine lY V C123 (fun w124 C124 y124=>vB.next ?_);exact⟨_,Q123,(lq.set (k / 32) (lq.getD (k / 32) 0+2^(k % 32))),[(W,.cells Q106 214 (0,0))],(some ⟨W,0,none⟩),P91,ls106,(2*q+1),C124,(Le10 y23 y87 y91 y93 y97 y106 y108 y109 y123 y124),D123,.inr ⟨_,_,rfl,rfl,D106⟩,hcan106,by rw[hset3,hvq,Nat.pow_succ,Nat.mul_add,Nat.mul_one];congr 1;ac_rfl,qKi hdiv (hval106.trans (by rw[hval91])) (by omega),by have:=hval106;omega⟩
 have G125:=G99.set 21 (v':= .bool false) kr rfl (zK J100);have F126:¬((qM (val I) (val l2))≥0):=of_decide_eq_false J100;have U:=fC F126;refine wW ?_;refine yN ?_;refine lY V C97 (fun w127 C127 y127=>vB.next ?_);exact⟨_,O,lq,[(W,.cells Q91 214 (0,0))],(some ⟨W,0,none⟩),P91,I,(2*q),C127,(Le6 y23 y87 y91 y93 y97 y127),j,.inr ⟨_,_,rfl,rfl,D91⟩,hcan91,by rw[hvq,Nat.pow_succ];ac_rfl,qDb hdiv hval91,U⟩
 rintro w128 ⟨Y128,O,lq,rb,adr,F,lr,q,C128,y128,hp128_0,hp128_1,hp128_2,hp128_3,hp128_4,hp128_5⟩;refine wC.norm V C128 (fun w129 C129 y129=>?_);have j:=hp128_0;have hrst:=hp128_1;have hcanlr:=hp128_2;have hvq:=hp128_3;have hdiv:=hp128_4;have hlt:=hp128_5;rcases hrst with⟨rfl,rfl,rfl,rfl⟩ | ⟨gr,curr,rfl,rfl,hrowr⟩
 refine yN<|zA (Z13 _ _ ?_);refine zG (fun K130 Z130=>?_);refine cK (N:=5) (kE [(⟨b6,0,none⟩,[.slice none 0 0])]) [4] kr kr kr C129 ?_;intro w131 C131 y131 N131;refine mZ (kE.cons (C131.cells 4 rfl rfl) (kE.nil _)) (fun hH131=>?_);refine nR (d:=37) (v:= .slice none 0 0) 2 G20 rfl kr kr kr (fun w hw=>zB (t:=26) (g:=false) (vs:=[.slice none 0 0]) (ad:=⟨b6,0,none⟩) rfl kr kr ir (hw.get 0 kr)) hH131 ?_;intro a132 G132;refine tF [0] kr rfl ?_;refine yH.cons (i:=0) G132 rfl kr (zE (d:=35) (v:= .slice (some ⟨C,0,none⟩) l.length l.length) G132 kr (zB (t:=26) (g:=false) (vs:=[.slice (some ⟨C,0,none⟩) l.length l.length]) (ad:=⟨b4,0,none⟩) rfl kr kr ir (C131.cells 5 rfl rfl)) ?_) yH.nil;intro a133 G133;refine wV (kE.cons (C131.cells 4 rfl rfl) (kE.nil _)) (fun hH131=>?_);refine tF [1] kr rfl ?_;refine yH.cons (i:=1) G133 rfl kr (kC (d:=36) (f:=235) (cap:=#[]) (vs:=#[.slice (some ⟨C,0,none⟩) l.length l.length]) G133 kr C131 rfl kr kr (fun w=>Tryz.call235 _ w) (aY _ X0 (zZ _) _ _ _ lq (zX.limbs (Y:=X0) j (C131.get 3 rfl) (fun _ h=>h.elim))) ?_) yH.nil;rintro v134 w134 C134 y134 N134 rfl a135 G135;refine wV (kE.cons (C134.cells 4 rfl rfl) (kE.nil _)) (fun hH134=>?_);refine tF [3] kr rfl ?_;refine yH.cons (i:=3) G135 rfl kr (zF (t:=26) (b:=b4) (off:=0) (c':=#[.slice (some ⟨C,0,none⟩) (qV lq) l.length]) (g:=false) (m:=1) 5 _ G135 kr C134 rfl kr rfl kr kr kr rfl (by first | decide | (simp;done)) kr rfl ?_) yH.nil
 intro w136 C136 y136;refine wV (kE.cons (C136.cells 4 rfl rfl) (kE.nil _)) (fun hH136=>?_);refine tF [4] kr rfl ?_;refine yH.cons (i:=4) G135 rfl kr (zF (t:=26) (b:=b6) (off:=0) (c':=#[.slice none 0 0]) (g:=false) (m:=1) 4 _ G135 kr C136 rfl kr rfl kr kr kr rfl (by first | decide | (simp;done)) kr rfl ?_) yH.nil
 intro w137 C137 y137;refine⟨nY kr,?_⟩;refine zDs kr (nrm ?_);refine zA (Z130 _ _ ?_);refine mI<|zMs (v:= .tuple #[.slice (some ⟨C,0,none⟩) (qV lq) l.length,.slice none 0 0]) (rs:=[.cell 4 26,.cell 5 26]) (vs:=[.slice (some ⟨C,0,none⟩) (qV lq) l.length,.slice none 0 0]) 1 G135 C137 rfl kr kr (fun w138 C138 y138=>?_);refine⟨(Res.cell (ad:=⟨b4,0,none⟩) (cs:=[.slice (some ⟨C,0,none⟩) (qV lq) l.length]) (g:=false) kr kr kr ir (C138.cells 5 rfl rfl) (Res.cell (ad:=⟨b6,0,none⟩) (cs:=[.slice none 0 0]) (g:=false) kr kr kr ir (C138.cells 4 rfl rfl) Res.nil)),?_⟩;obtain⟨he1,he2⟩:=zSu hdiv hlt hvq;exact⟨C138.upd,_,rfl,_,_,Go.Gv.trimmed lq,[],_,_,_,_,_,_,rfl,⟨⟨rfl,(jM _).symm,tH j.lt,.inr ⟨_,_,rfl,C138.own_ge 3 rfl,C138.get 3 rfl,j.trimmed⟩⟩,qY _,by rw[jK];exact he1⟩,⟨⟨rfl,rfl,fun x hx=>by simp at hx,.inl ⟨rfl,rfl,rfl⟩⟩,.inl rfl,he2⟩⟩
 refine yN<|zA (Z13 _ _ ?_);refine zG (fun K139 Z139=>?_);refine cK (N:=5) (kE [(⟨b6,0,none⟩,[.slice (some ⟨gr,0,none⟩) lr.length F])]) [4] kr kr kr C129 ?_;intro w140 C140 y140 N140;refine mZ (kE.cons (C140.cells 4 rfl rfl) (kE.nil _)) (fun hH140=>?_);refine nR (d:=37) (v:= .slice (some ⟨gr,0,none⟩) lr.length F) 2 G20 rfl kr kr kr (fun w hw=>zB (t:=26) (g:=false) (vs:=[.slice (some ⟨gr,0,none⟩) lr.length F]) (ad:=⟨b6,0,none⟩) rfl kr kr ir (hw.get 0 kr)) hH140 ?_;intro a141 G141;refine tF [0] kr rfl ?_;refine yH.cons (i:=0) G141 rfl kr (zE (d:=35) (v:= .slice (some ⟨C,0,none⟩) l.length l.length) G141 kr (zB (t:=26) (g:=false) (vs:=[.slice (some ⟨C,0,none⟩) l.length l.length]) (ad:=⟨b4,0,none⟩) rfl kr kr ir (C140.cells 5 rfl rfl)) ?_) yH.nil;intro a142 G142;refine wV (kE.cons (C140.cells 4 rfl rfl) (kE.nil _)) (fun hH140=>?_);refine tF [1] kr rfl ?_;refine yH.cons (i:=1) G142 rfl kr (kC (d:=36) (f:=235) (cap:=#[]) (vs:=#[.slice (some ⟨C,0,none⟩) l.length l.length]) G142 kr C140 rfl kr kr (fun w=>Tryz.call235 _ w) (aY _ X0 (zZ _) _ _ _ lq (zX.limbs (Y:=X0) j (C140.get 3 rfl) (fun _ h=>h.elim))) ?_) yH.nil;rintro v143 w143 C143 y143 N143 rfl a144 G144;refine wV (kE.cons (C143.cells 4 rfl rfl) (kE.nil _)) (fun hH143=>?_);refine tF [3] kr rfl ?_;refine yH.cons (i:=3) G144 rfl kr (zF (t:=26) (b:=b4) (off:=0) (c':=#[.slice (some ⟨C,0,none⟩) (qV lq) l.length]) (g:=false) (m:=1) 5 _ G144 kr C143 rfl kr rfl kr kr kr rfl (by first | decide | (simp;done)) kr rfl ?_) yH.nil
 intro w145 C145 y145;refine wV (kE.cons (C145.cells 4 rfl rfl) (kE.nil _)) (fun hH145=>?_);refine tF [4] kr rfl ?_;refine yH.cons (i:=4) G144 rfl kr (zF (t:=26) (b:=b6) (off:=0) (c':=#[.slice (some ⟨gr,0,none⟩) lr.length F]) (g:=false) (m:=1) 4 _ G144 kr C145 rfl kr rfl kr kr kr rfl (by first | decide | (simp;done)) kr rfl ?_) yH.nil
 intro w146 C146 y146;refine⟨nY kr,?_⟩;refine zDs kr (nrm ?_);refine zA (Z139 _ _ ?_);refine mI<|zMs (v:= .tuple #[.slice (some ⟨C,0,none⟩) (qV lq) l.length,.slice (some ⟨gr,0,none⟩) lr.length F]) (rs:=[.cell 4 26,.cell 5 26]) (vs:=[.slice (some ⟨C,0,none⟩) (qV lq) l.length,.slice (some ⟨gr,0,none⟩) lr.length F]) 1 G144 C146 rfl kr kr (fun w147 C147 y147=>?_);refine⟨(Res.cell (ad:=⟨b4,0,none⟩) (cs:=[.slice (some ⟨C,0,none⟩) (qV lq) l.length]) (g:=false) kr kr kr ir (C147.cells 5 rfl rfl) (Res.cell (ad:=⟨b6,0,none⟩) (cs:=[.slice (some ⟨gr,0,none⟩) lr.length F]) (g:=false) kr kr kr ir (C147.cells 4 rfl rfl) Res.nil)),?_⟩;obtain⟨he1,he2⟩:=zSu hdiv hlt hvq;exact⟨C147.upd,_,rfl,_,_,Go.Gv.trimmed lq,lr,_,_,_,_,_,_,rfl,⟨⟨rfl,(jM _).symm,tH j.lt,.inr ⟨_,_,rfl,C147.own_ge 3 rfl,C147.get 3 rfl,j.trimmed⟩⟩,qY _,by rw[jK];exact he1⟩,⟨⟨rfl,rfl,hrowr.lt,.inr ⟨_,_,rfl,C147.own_ge 7 rfl,C147.get 7 rfl,hrowr⟩⟩,hcanlr,he2⟩⟩
 intro k w9 N9 hm1 hm2;exact⟨_,(List.replicate l.length (Value.int .u32 0)).toArray,(List.replicate l.length 0),[],none,0,[],0,C19.call N9,N9.le _,D10,.inl ⟨rfl,rfl,rfl,rfl⟩,.inl rfl,by rw[vJ];rfl,by rw[Nat.div_eq_of_lt hm1];simp[val],hd⟩
set_option maxHeartbeats 1000000
def zRr(y:Nat):Int:=if y=0 then 14 else 0
theorem qAn(w:World)(X:Hid)(hX:∀k o,X k o→k<w.heap.size)(ad:Option Addr)(len cap:Nat)(l:List Nat)(h:zN (rd w X) ad len cap l)(I:Option Addr)(F P2:Nat)(l2:List Nat)(J:zN (rd w X) I F P2 l2):Calls Tryz.prog 233 #[.slice ad len cap,.slice I F P2] w (Ret E0 w fun w' v=>DivV 214 w w' (or2 (vF l l2) (zRr (val l2))) (val l / val l2) (val l % val l2) v):=by
 obtain rfl:=h.hlen;obtain rfl:=J.hlen;have hcap:=h.hcap;have hbig:=h.hbig;have Z:=J.hcap;have W:=J.hbig;refine zen Tryz.func233 ?_;have C0:St E0 w X w X []:=St.start hX;refine zz 12<|zc C0 (zAe _ X0 (zZ _) _ _ _ l (h.mono Le.x0) _ _ _ l2 (J.mono Le.x0)) ?_;rintro v3 w3 O y3 N3 rfl;refine zz 11<|zb 11 (b:=((vF l l2)!=0)) (fun U=>?_) (fun U=>?_);have F5:(vF l l2)≠0:=by simpa using U
 refine zz 12<|zr' (v:= .tuple #[.slice none 0 0,.slice none 0 0,.int .i64 (vF l l2)]) ?_;exact⟨O.upd,_,rfl,by rw[zBe F5];exact .inl ⟨F5,rfl⟩⟩
 have T:(vF l l2)=0:=by simpa using U
 obtain⟨⟨N,c1⟩,hl2,c2⟩:=zAh T;refine zz 9<|zb 15 (b:=((l2.length:Int)==0)) (fun V=>?_) (fun V=>?_);have F8:(l2.length:Int)=0:=by simpa using V
 have hz:val l2=0:=by rw[List.eq_nil_of_length_eq_zero (by omega:l2.length=0)];rfl
 refine zz 11<|zr' (v:= .tuple #[.slice none 0 0,.slice none 0 0,.int .i64 14]) ?_;exact⟨O.upd,_,rfl,by rw[wK T,zRr,if_pos hz];exact .inl ⟨by decide,rfl⟩⟩
 have F9:(l2.length:Int)≠0:=by simpa using V
 have hp:0<val l2:=wU c2 (by rintro rfl;simp at F9)
 refine zz 8<|zc O (qDc _ X0 (zZ _) _ _ _ l ((h.mono y3).mono Le.x0) _ _ _ l2 ((J.mono y3).mono Le.x0) c1 c2 (by omega) (by omega) hp) ?_
 rintro v11 w11 S y11 N11 ⟨u11,v211,lq11,lr11,G,z,q,H,C,y,rfl,f,j⟩;obtain rfl:=f.own.hv;obtain rfl:=j.own.hv;refine zz 17<|zr' (v:= .tuple #[.slice G z q,.slice H C y,.int .i64 0]) ?_;have hsz:=(O).upd.size;exact⟨S.upd,_,rfl,by rw[wK T,zRr,if_neg (by omega)];exact .inr ⟨rfl,_,_,_,_,_,_,_,_,_,_,rfl,f.back hsz,Nat.le_trans (qB h.hlt f.canon (by rw[f.val];exact Nat.div_le_self _ _)) N,j.back hsz,Nat.le_trans (qB h.hlt j.canon (by rw[j.val];exact Nat.mod_le _ _)) N⟩⟩
set_option maxHeartbeats 1000000
theorem dV{l l2:List Nat}(h:l.length≤512)(q:zW l)(j:l2.length≤512)(f:zW l2):vF l l2=0:=by
 unfold vF;rw[zFk h q,zFk j f];rfl
theorem jBf(w:World)(ad:Option Addr)(len cap x:Nat)(h:qC (rd w X0) ad len cap x)(j:Option Addr)(f z y:Nat)(N:qC (rd w X0) j f z y)(V:x<4294967296^512)(W:y<4294967296^512)(S:x*y<4294967296^512):Calls Tryz.prog 230 #[.slice ad len cap,.slice j f z] w (Ret E0 w fun w' v=>∃u,v= .tuple #[u,.int .i64 0]∧zLn w w' u (x*y)):=by
 obtain⟨l,T,O,rfl,hn⟩:=h.limbs V;obtain⟨l2,C,I,rfl,F⟩:=N.limbs W;refine(jBe w X0 (zZ _) ad len cap l T j f z l2 C).mono ?_;rintro e w' ⟨U,v,rfl,hv⟩;obtain⟨u,Z,J,H,G,rfl,q,_⟩:=hv.ok (by rw[wK (dV hn O F I)];unfold zYz;rw[if_pos S])
 exact⟨U,_,rfl,u,rfl,q.natV⟩
theorem jBa(w:World)(ad:Option Addr)(len cap x:Nat)(h:qC (rd w X0) ad len cap x)(j:Option Addr)(f z y:Nat)(N:qC (rd w X0) j f z y)(V:x<4294967296^512)(W:y<4294967296^512)(S:x+y<4294967296^512):Calls Tryz.prog 231 #[.slice ad len cap,.slice j f z] w (Ret E0 w fun w' v=>∃u,v= .tuple #[u,.int .i64 0]∧zLn w w' u (x+y)):=by
 obtain⟨l,T,O,rfl,hn⟩:=h.limbs V;obtain⟨l2,C,I,rfl,F⟩:=N.limbs W;refine(jAz w X0 (zZ _) ad len cap l T j f z l2 C).mono ?_;rintro e w' ⟨U,v,rfl,hv⟩;obtain⟨u,Z,J,H,G,rfl,q,_⟩:=hv.ok (by rw[wK (dV hn O F I)];unfold zYz;rw[if_pos S])
 exact⟨U,_,rfl,u,rfl,q.natV⟩
theorem qPu(w:World)(ad:Option Addr)(len cap x:Nat)(h:qC (rd w X0) ad len cap x)(j:Option Addr)(f z y:Nat)(N:qC (rd w X0) j f z y)(U:x<4294967296^512)(V:y<4294967296^512)(W:y≤x):Calls Tryz.prog 232 #[.slice ad len cap,.slice j f z] w (Ret E0 w fun w' v=>∃u,v= .tuple #[u,.int .i64 0]∧zLn w w' u (x-y)):=by
 obtain⟨l,S,O,rfl,hn⟩:=h.limbs U;obtain⟨l2,C,I,rfl,F⟩:=N.limbs V;refine(qPt w X0 (zZ _) ad len cap l S j f z l2 C).mono ?_;rintro e w' ⟨T,v,rfl,hv⟩;obtain⟨u,Z,J,H,G,rfl,q,_⟩:=hv.ok (by rw[wK (dV hn O F I)];unfold zUm;rw[if_neg (by omega)])
 exact⟨T,_,rfl,u,rfl,q.natV⟩
theorem qBj(w:World)(ad:Option Addr)(len cap x:Nat)(h:qC (rd w X0) ad len cap x)(j:Option Addr)(f q y:Nat)(G:qC (rd w X0) j f q y)(S:x<4294967296^512)(T:y<4294967296^512)(J:x<y):Calls Tryz.prog 232 #[.slice ad len cap,.slice j f q] w (Ret E0 w fun _ v=>v= .tuple #[.slice none 0 0,.int .i64 7]):=by
 obtain⟨l,N,H,rfl,hn⟩:=h.limbs S;obtain⟨l2,z,F,rfl,C⟩:=G.limbs T;refine(qPt w X0 (zZ _) ad len cap l N j f q l2 z).mono ?_;rintro e w' ⟨O,v,rfl,hv⟩;have I:or2 (vF l l2) (zUm (val l) (val l2))=7:=by rw[wK (dV hn H C F)];unfold zUm;rw[if_pos J]
 rw[I]at hv;exact⟨O,_,rfl,hv.err (by decide)⟩
theorem qAo(w:World)(ad:Option Addr)(len cap x:Nat)(h:qC (rd w X0) ad len cap x)(j:Option Addr)(f z y:Nat)(N:qC (rd w X0) j f z y)(U:x<4294967296^512)(V:y<4294967296^512):Calls Tryz.prog 155 #[.slice ad len cap,.slice j f z] w (Ret E0 w fun w' v=>∃u,v= .tuple #[u,.int .i64 0]∧zLn w w' u (Nat.gcd x y)):=by
 obtain⟨l,S,O,rfl,hn⟩:=h.limbs U;obtain⟨l2,C,I,rfl,F⟩:=N.limbs V;refine(jBc w X0 (zZ _) ad len cap l S j f z l2 C).mono ?_;rintro e w' ⟨T,v,rfl,hv⟩;obtain⟨u,W,J,H,G,rfl,q,_⟩:=hv.ok (dV hn O F I);exact⟨T,_,rfl,u,rfl,q.natV⟩
theorem zOd(w:World)(ad:Option Addr)(len cap x:Nat)(h:qC (rd w X0) ad len cap x)(j:Option Addr)(f z y:Nat)(I:qC (rd w X0) j f z y)(U:x<4294967296^512)(V:y<4294967296^512)(hd:0<y):Calls Tryz.prog 233 #[.slice ad len cap,.slice j f z] w (Ret E0 w fun w' v=>∃u q,v= .tuple #[u,q,.int .i64 0]∧zLn w w' u (x / y)∧zLn w w' q (x % y)):=by
 obtain⟨l,O,J,rfl,hn⟩:=h.limbs U;obtain⟨l2,C,G,rfl,F⟩:=I.limbs V;refine(qAn w X0 (zZ _) ad len cap l O j f z l2 C).mono ?_;rintro e w' ⟨T,v,rfl,hv⟩;have N:or2 (vF l l2) (zRr (val l2))=0:=by rw[wK (dV hn J F G)];unfold zRr;rw[if_neg (by omega)]
 rcases hv with⟨H,_⟩ | ⟨_,u,q,a1,a2,a3,W,Z,a6,a7,a8,rfl,S,_,hr,_⟩
 ·exact absurd N H
 ·exact⟨T,_,rfl,u,q,rfl,S.natV,hr.natV⟩
theorem zFl(w:World)(ad:Option Addr)(len cap x:Nat)(h:qC (rd w X0) ad len cap x)(F:x<4294967296^512):Calls Tryz.prog 223 #[.slice ad len cap] w (Ret E0 w fun w' v=>zLn w w' v x):=by
 obtain⟨l,q,z,rfl,hn⟩:=h.limbs F;refine(zAi w X0 (zZ _) ad len cap l q (by rw[q.hlen];omega)).mono ?_
 rintro e w' ⟨C,v,rfl,ad',y,j,f⟩;exact⟨C,_,rfl,zAb.natV ⟨f,z,rfl⟩⟩
theorem qDv(w:World)(x:Nat)(z:x<18446744073709551616):Calls Tryz.prog 174 #[.int .u64 (x:Int)] w (Ret E0 w fun w' v=>zLn w w' v x):=by
 refine(qVi w X0 (zZ _) x z).mono ?_;rintro e w' ⟨y,v,rfl,l,ad,len,cap,f,j,q⟩;exact⟨y,_,rfl,zAb.natV ⟨f,j,q⟩⟩
section
variable (w:World)(X:Hid)(hX:∀k o,X k o→k<w.heap.size)
set_option maxHeartbeats 1000000
include hX in
theorem zBv(ad:Option Addr)(len cap x:Nat)(h:qC (rd w X) ad len cap x)(j:Option Addr)(f I y:Nat)(N:qC (rd w X) j f I y)(T:x<4294967296^512)(U:y<4294967296^512)(S:x*y<4294967296^512):Calls Tryz.prog 160 #[.slice ad len cap,.slice j f I] w (Ret E0 w fun w' v=>gL X w' v (x*y)):=by
 refine zen Tryz.func160 ?_;have G:St E0 w X w X []:=St.start hX;refine zz 9<|zc G (jBf _ _ _ _ x (h.mono Le.x0) _ _ _ y (N.mono Le.x0) (by first | assumption | omega) (by first | assumption | omega) (by first | assumption | omega)) ?_
 rintro W Z H y3 O ⟨V,rfl,⟨z,q,J,rfl,F⟩⟩;have C:=F _ G.lt;refine zz 14<|zr' (v:= .slice z q J) ?_;exact⟨H.upd,_,rfl,H.lastN C⟩
include hX in
theorem qZd(ad:Option Addr)(len cap x:Nat)(h:qC (rd w X) ad len cap x)(j:Option Addr)(f I y:Nat)(N:qC (rd w X) j f I y)(T:x<4294967296^512)(U:y<4294967296^512)(S:x+y<4294967296^512):Calls Tryz.prog 161 #[.slice ad len cap,.slice j f I] w (Ret E0 w fun w' v=>gL X w' v (x+y)):=by
 refine zen Tryz.func161 ?_;have G:St E0 w X w X []:=St.start hX;refine zz 9<|zc G (jBa _ _ _ _ x (h.mono Le.x0) _ _ _ y (N.mono Le.x0) (by first | assumption | omega) (by first | assumption | omega) (by first | assumption | omega)) ?_
 rintro W Z H y3 O ⟨V,rfl,⟨z,q,J,rfl,F⟩⟩;have C:=F _ G.lt;refine zz 14<|zr' (v:= .slice z q J) ?_;exact⟨H.upd,_,rfl,H.lastN C⟩
include hX in
theorem qFd(ad:Option Addr)(len cap x:Nat)(h:qC (rd w X) ad len cap x)(j:Option Addr)(f I y:Nat)(N:qC (rd w X) j f I y)(T:x<4294967296^512)(U:y<4294967296^512)(S:y≤x):Calls Tryz.prog 162 #[.slice ad len cap,.slice j f I] w (Ret E0 w fun w' v=>∃u,v= .tuple #[u,.bool false]∧gL X w' u (x-y)):=by
 refine zen Tryz.func162 ?_;have G:St E0 w X w X []:=St.start hX;refine zz 11<|zc G (qPu _ _ _ _ x (h.mono Le.x0) _ _ _ y (N.mono Le.x0) (by first | assumption | omega) (by first | assumption | omega) (by first | assumption | omega)) ?_
 rintro W Z H y3 O ⟨V,rfl,⟨z,q,J,rfl,F⟩⟩;have C:=F _ G.lt;refine zz 23<|zr' (v:= .tuple #[.slice z q J,.bool false]) ?_;exact⟨H.upd,_,rfl,_,rfl,H.lastN C⟩
include hX in
theorem qFe(ad:Option Addr)(len cap x:Nat)(h:qC (rd w X) ad len cap x)(j:Option Addr)(f I y:Nat)(J:qC (rd w X) j f I y)(W:x<4294967296^512)(Z:y<4294967296^512)(V:x<y):Calls Tryz.prog 162 #[.slice ad len cap,.slice j f I] w (Ret E0 w fun w' v=>∃u,v= .tuple #[u,.bool true]∧gL X w' u (y-x)):=by
 refine zen Tryz.func162 ?_;have O:St E0 w X w X []:=St.start hX;refine zz 11<|zc O (qBj _ _ _ _ x (h.mono Le.x0) _ _ _ y (J.mono Le.x0) (by first | assumption | omega) (by first | assumption | omega) (by first | assumption | omega)) ?_
 rintro v3 w3 G N T rfl;refine zz 20<|zc G (qPu _ _ _ _ y ((J.mono N).mono Le.x0) _ _ _ x ((h.mono N).mono Le.x0) (by first | assumption | omega) (by first | assumption | omega) (by first | assumption | omega)) ?_
 rintro v5 w5 H y5 U ⟨u5,rfl,⟨z,q,S,rfl,F⟩⟩;have C:=F _ G.lt;refine zz 15<|zr' (v:= .tuple #[.slice z q S,.bool true]) ?_;exact⟨H.upd,_,rfl,_,rfl,H.lastN C⟩
include hX in
theorem qMr(ad:Option Addr)(len cap x:Nat)(h:qC (rd w X) ad len cap x)(j:Option Addr)(f z y:Nat)(C:qC (rd w X) j f z y)(F:x<4294967296^512)(G:y<4294967296^512):Calls Tryz.prog 162 #[.slice ad len cap,.slice j f z] w (Ret E0 w fun w' v=>∃u,v= .tuple #[u,.bool (decide (x<y))]∧gL X w' u (if x<y then y-x else x-y)):=by
 by_cases q:x<y
 ·rw[if_pos q,decide_eq_true q];exact qFe w X hX ad len cap x h j f z y C F G q
 ·rw[if_neg q,decide_eq_false q];exact qFd w X hX ad len cap x h j f z y C F G (by omega)
include hX in
theorem zDu(ad:Option Addr)(len cap x:Nat)(h:qC (rd w X) ad len cap x):Calls Tryz.prog 154 #[.slice ad len cap] w (Ret E0 w fun _ v=>v= .bool (decide (x=1))):=by
 refine zen Tryz.func154 ?_;have q:St E0 w X w X []:=St.start hX;refine zz 11<|zb 6 (b:=((len:Int)==1)) (fun j=>?_) (fun j=>?_);have z:(len:Int)=1:=by simpa using j
 obtain⟨y,of,rfl,f,hat⟩:=h.one (by omega)
 refine zz 1<|zi (b:=y) (off:=of) (len:=len) (cap:=cap) (kd:= .i64) (i:=0) 1 of ?_ (hoff:=kr);refine zl (hat).cells<|zz 6<|zr' (v:= .bool ((x:Int)==1)) ?_;exact⟨q.upd,_,rfl,zK (by rw[Bool.eq_iff_iff];simp;omega)⟩
 have C:(len:Int)≠1:=by simpa using j
 have f:x≠1:=fun e=>by subst e;exact absurd h.of_one (by omega)
 refine zz 9<|zr' (v:= .bool false) ?_;exact⟨q.upd,_,rfl,zK (by simp[f])⟩
end
end Go.Proofs.YtdfmdiakjdggbaaGreatDoor

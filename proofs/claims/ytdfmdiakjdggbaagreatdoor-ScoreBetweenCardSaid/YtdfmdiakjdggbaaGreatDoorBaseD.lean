import Derived.Deep.DeepAppendWide
import Derived.RecoverIn
import Derived.OrdersIn
import Derived.Test.YtdfmdiakjdggbaaGreatDoorBaseA
import Derived.Test.YtdfmdiakjdggbaaGreatDoorBaseB
import Derived.Test.YtdfmdiakjdggbaaGreatDoorBaseC
set_option linter.unusedVariables false
set_option linter.unusedSimpArgs false
set_option linter.unnecessarySimpa false
namespace Go.Ev
open Go Go.Gv Go.RowKit IntKind
def Ans(P:Program)(w:World)(ρ:Operand→Value)(o:Oper)(B:Bm)(r:Rd)(k:Nat):T×Option TO→Prop
 | (t,none)=>∃v,(execOp ρ o).run P w= .ok (.value v) w∧Rep B r t v
 | (t,some ob)=>∃(C:Nat)(obj:Obj)(vf:Nat→Value),(∀w',(execOp ρ o).run P w'= .ok (.value (vf w'.heap.size)) (w'.alloc obj))∧vL ob=true∧RO P B r C ob obj∧∀b,Rep (rG B k (b,C)) r t (vf b)
section
variable {P:Program}{E:Nat→Prop}{w0:World}{X:Hid}{F:List Nat}{H:List TO}{B:Bm}{w:World}{Y:Hid}{Mo:List (Nat×Obj)}{ρ:Operand→Value}{ρT:Operand→T}{o:Oper}{r:Rd}{k:Nat}
theorem qE{t:T}{x:T×Option TO}(h:val t=some x)(e:Ans P w ρ o B r k (t,none)):Ans P w ρ o B r k x:=by cases h;exact e
theorem zDk{α:Type}:∀{s:Sem α}{a:α},zJj P s=some a→∀w,s.run P w= .ok a w:=by
 intro s;induction s with
 | pure x=>intro a h w;simp only[zJj,za]at h;subst h;rfl
 | program f e=>intro a h w;exact e P h w
 | _=>intro a h w;simp[zJj]at h
theorem zRo:∀{cs:List T}{l vs:List Value},zUp cs=some l→zO B r cs vs→vs=l
 | [],_,[],h,_=>by simp[zUp]at h;exact h.symm
 | t::cs,l,v::vs,h,f=>by
  simp only[zUp]at h;cases ht:vOf t with
  | none=>simp[ht]at h
  | some x=>
   cases e:zUp cs with
   | none=>simp[ht,e]at h
   | some y=>
    simp only[ht,e,za]at h;subst h;cases t<;>simp only[vOf]at ht<;>try cases ht
    rw[f.1.vI.1,zRo e f.2]
 | [],_,_::_,_,h=>h.elim
 | _::_,_,[],_,h=>h.elim
theorem zNm{t:T}{x v:Value}(h:sOf t=some x)(j:Rep B r t v):v=x:=by
 cases t<;>simp only[sOf]at h<;>try cases h
 ·exact j.vI.1
 ·rename_i cs;obtain⟨vs,rfl,e⟩:=j.agI;cases f:zUp cs with
  | none=>simp[f]at h
  | some l=>
   simp only[f,za]at h;rw[←h,zRo f e]
theorem zRg:∀{l:List Operand},zRf ρT l=true→∀x∈l,∃v,sOf (ρT x)=some v
 | [],_,x,h=>by cases h
 | y::l,hs,x,h=>by
  simp only[zRf]at hs;cases e:sOf (ρT y)with
  | none=>simp[e]at hs
  | some v=>
   rcases List.mem_cons.1 h with rfl | h
   ·exact⟨v,e⟩
   ·exact zRg (by simpa[e]using hs) x h
theorem qFf(f:∀x,Rep B r (ρT x) (ρ x)){t:T}(h:zBa P ρT o=some t):Ans P w ρ o B r k (t,none):=by
 unfold zBa at h;cases e:zPz o.op&&zRf ρT o.op.operands.toList with
 | false=>simp[e]at h
 | true=>
  simp only[e,ze]at h;simp only[zd]at e;have j:execOp ρ o=execOp (sAt ρT) o:=execOp_congr o (lK e.1) fun x q=>by
   obtain⟨v,hv⟩:=zRg e.2 x (by simpa using q)
   rw[zNm hv (f x)];simp[sAt,hv]
  cases hr:zJj P (execOp (sAt ρT) o)with
  | none=>simp[hr,qFi]at h
  | some x=>
   cases x<;>simp only[hr,qFi,za]at h<;>try cases h
   rename_i v;exact⟨v,by rw[j];exact zDk hr w,zBb v⟩
theorem qIs(k:IntKind)(z:Int):wr k z=k.wrap z:=by
 unfold wr;split
 ·rename_i n;cases h:Nat.blt n (qLm k)with
  | false=>rfl
  | true=>
   have hn:n<qLm k:=by simpa[Nat.blt_eq]using h
   unfold IntKind.wrap;cases k<;>simp only[qLm]at hn<;>simp[IntKind.bits,IntKind.signed]<;>omega
 ·rfl
theorem qEi(a b:Int):ieq a b=(a==b):=by
 cases a<;>cases b<;>simp only[ieq]
 ·rename_i x y;rw[Bool.eq_iff_iff];simp[←Int.ofNat_inj]
 ·rfl
 ·rfl
 ·rename_i x y;rw[Bool.eq_iff_iff];simp
theorem qWo(a b:Int):ilt a b=decide (a<b):=by
 cases a<;>cases b<;>simp only[ilt]
 ·rename_i x y;rw[Bool.eq_iff_iff];simp[Nat.blt_eq]
 ·rename_i x y;rw[Bool.eq_iff_iff];simp;omega
 ·rename_i x y;rw[Bool.eq_iff_iff];simp;omega
 ·rename_i x y;rw[Bool.eq_iff_iff];simp[Nat.blt_eq];omega
theorem zWc{j k:IntKind}(h:Nat.beq (kind j) (kind k)=true):j=k:=by
 cases j<;>cases k<;>first | rfl | (revert h;decide)
theorem qJt{op:BinOp}{k:IntKind}{a b:Int}{c:Value}(h:zYn op k a b=some c)(t:TypeId)(w:World):(binOp op t (.int k a) (.int k b)).run P w= .ok c w∧sc c=true:=by
 cases op<;>simp only[zYn,za]at h<;>try cases h
 all_goals simp only[binOp,ne_eq,not_true_eq_false,if_false,Op.intArith,Op.intCmp,Sem.run_pure,qIs,qEi,qWo,sc,and_true]
 all_goals first
  | rfl
  | (simp only[Result.ok.injEq,Value.bool.injEq,and_true,bne,GT.gt,GE.ge];rw[Bool.eq_iff_iff];simp;try omega)
theorem wG{t e:TypeId}(h:elT P t=some e):P.underlying t=some (.slice e):=by
 unfold elT at h;split at h
 ·rename_i x f;cases h;exact f
 ·cases h
theorem qDj{d:Nat}{t e:TypeId}{a:Addr}{n c:Nat}(ht:P.underlying t=some (.slice e)):(Op.equalIn (d+1) t (.slice (some a) n c) (.slice none 0 0)).run P w= .ok false w:=by
 unfold Op.equalIn;simp only[underlying,ht,Sem.run_bind,Sem.run_pure,run_program,Result.andThen_ok]
theorem sD{j k:IntKind}(h:Nat.beq (kind j) (kind k)=true):j=k:=by
 have:=Nat.eq_of_beq_eq_true h;cases j<;>cases k<;>first | rfl | cases this
theorem nD(a b:Int):(a==b)=ieq a b:=by
 cases a with
 | ofNat a=>cases b with
  | ofNat b=>
   cases h:Nat.beq a b with
   | true=>obtain rfl:=Nat.eq_of_beq_eq_true h;simp[ieq]
   | false=>simp only[ieq,h,beq_eq_false_iff_ne];intro e;cases e;simp at h
  | negSucc b=>rfl
 | negSucc a=>cases b with
  | ofNat b=>rfl
  | negSucc b=>
   cases h:Nat.beq a b with
   | true=>obtain rfl:=Nat.eq_of_beq_eq_true h;simp[ieq]
   | false=>simp only[ieq,h,beq_eq_false_iff_ne];intro e;cases e;simp at h
theorem zMc{P:Program}{w:World}{d:Nat}{t:TypeId}{k e:IntKind}{a b:Int}(ht:P.underlying t=some (.int e)):(Op.equalIn (d+1) t (.int k a) (.int k b)).run P w= .ok (a==b) w:=by
 unfold Op.equalIn;simp only[underlying,ht,Sem.run_bind,Sem.run_pure,run_program,Result.andThen_ok];simp
theorem zBj{P:Program}{w:World}{t:TypeId}{e:IntKind}{cs:Array Value}{i:Nat}{v:Value}(ht:P.underlying t=some (.int e))(h:cs[i]?=some v):(part t cs i).run P w= .ok v w:=by
 unfold part isAgg;simp only[underlying,ht,Sem.run_bind,Sem.run_pure,run_program,Result.andThen_ok];simp[h]
theorem qQg{P:Program}{w:World}{d:Nat}{t:TypeId}{e f j:Field}{k1 k2 k3 S U V:IntKind}{a1 a2 a3 b1 b2 b3:Int}(ht:P.underlying t=some (.struct #[e,f,j]))(hs:P.stoodInHeld t=false)(q:P.underlying e.type=some (.int S))(y:P.underlying f.type=some (.int U))(z:P.underlying j.type=some (.int V))
 (I:e.name≠ "_") (J:f.name≠ "_") (n3:j.name≠ "_") (M:e.offset=0) (N:f.offset=1) (R:j.offset=2):
 (Op.equalIn (d+1+1) t (.agg #[.int k1 a1,.int k2 a2,.int k3 a3]) (.agg #[.int k1 b1,.int k2 b2,.int k3 b3])).run P w= .ok (a1==b1&&(a2==b2&&a3==b3)) w:=by
 unfold Op.equalIn;simp only[underlying,ht,Sem.run_bind,Sem.run_pure,run_program,Result.andThen_ok,hs];simp[I,J,n3,M,N,R];simp only[zBj (cs:=#[Value.int k1 a1,.int k2 a2,.int k3 a3]) (i:=0) q rfl,zBj (cs:=#[Value.int k1 b1,.int k2 b2,.int k3 b3]) (i:=0) q rfl,zBj (cs:=#[Value.int k1 a1,.int k2 a2,.int k3 a3]) (i:=1) y rfl,zBj (cs:=#[Value.int k1 b1,.int k2 b2,.int k3 b3]) (i:=1) y rfl,zBj (cs:=#[Value.int k1 a1,.int k2 a2,.int k3 a3]) (i:=2) z rfl,zBj (cs:=#[Value.int k1 b1,.int k2 b2,.int k3 b3]) (i:=2) z rfl,Result.andThen_ok];simp only[List.getElem_toArray,List.getElem_cons_succ,List.getElem_cons_zero];have A:=zMc (P:=P) (w:=w) (d:=d) (a:=a1) (b:=b1) (k:=k1) q;have C:=zMc (P:=P) (w:=w) (d:=d) (a:=a2) (b:=b2) (k:=k2) y;have G:=zMc (P:=P) (w:=w) (d:=d) (a:=a3) (b:=b3) (k:=k3) z;rw[A];cases a1==b1
 ·simp
 simp only[Result.andThen_ok];rw[if_neg (by simp),C]
 cases a2==b2
 ·simp
 simp only[Result.andThen_ok];rw[if_neg (by simp),G]
 cases a3==b3
 ·simp
 simp
theorem xQ{k:IntKind}{o:Nat}{f:Field}(h:qEj P k o f=true):P.underlying f.type=some (.int k)∧f.offset=o∧f.name≠ "_" :=by
 unfold qEj at h;split at h
 ·rename_i q j;simp only[zd]at h;refine⟨by rw[j,sD h.1],Nat.eq_of_beq_eq_true h.2.1,fun e=>?_⟩
  rw[e]at h;have:=h.2.2;simp at this
 ·cases h
theorem qVe{op:BinOp}{t t2:TypeId}{x y:Operand}{xs Z:List T}(ho:o.op= .binOp op t x y t2)(hx:Rep B r (.ag xs) (ρ x))(hy:Rep B r (.ag Z) (ρ y)){z:T×Option TO}(h:eq3 P op t xs Z=some z):Ans P w ρ o B r k z:=by
 unfold eq3 at h;split at h
 ·rename_i i a j b q c i' a' j' C q' c';cases G:wR P t (.prod (.int i) (.prod (.int j) (.int q)))&&(!P.eqGuardType P.depth t&&(Nat.beq (kind i) (kind i')&&(Nat.beq (kind j) (kind j')&&Nat.beq (kind q) (kind q'))))with
  | false=>simp[G]at h
  | true=>
   simp only[G,ze]at h;simp only[zd,Bool.not_eq_true']at G;obtain⟨e,U,e1,e2,e3⟩:=G;obtain rfl:=sD e1;obtain rfl:=sD e2;obtain rfl:=sD e3;obtain⟨vs,f,N⟩:=hx.agI;obtain⟨us,A,M⟩:=hy.agI;match vs,N with
   | [v1,v2,v3],⟨g1,I,g3,_⟩=>
    match us,M with
    | [V,W,u3],⟨R,S,f3,_⟩=>
     obtain⟨rfl,_⟩:=g1.vI;obtain⟨rfl,_⟩:=I.vI;obtain⟨rfl,_⟩:=g3.vI;obtain⟨rfl,_⟩:=R.vI;obtain⟨rfl,_⟩:=S.vI;obtain⟨rfl,_⟩:=f3.vI;unfold wR at e;simp only at e;split at e
     ·rename_i f0 R S hu;simp only[zd,Bool.not_eq_true']at e;obtain⟨hs,g0,g1,I⟩:=e;obtain⟨u0,o0,n0⟩:=xQ g0;obtain⟨V,o1,n1⟩:=xQ g1;obtain⟨W,o2,n2⟩:=xQ I;have J:(Op.equalIn 10000 t (.agg #[.int i a,.int j b,.int q c]) (.agg #[.int i a',.int j C,.int q c'])).run P w= .ok (ieq a a'&&(ieq b C&&ieq c c')) w:=by
       have:=qQg (P:=P) (w:=w) (d:=9998) (k1:=i) (k2:=j) (k3:=q) (a1:=a) (a2:=b) (a3:=c) (b1:=a') (b2:=C) (b3:=c') hu hs u0 V W n0 n1 n2 o0 o1 o2;rw[nD,nD,nD]at this;exact this
      generalize (ieq a a'&&(ieq b C&&ieq c c'))=bb at J h;split at h
      ·refine qE h ⟨_,?_,.v rfl⟩;unfold execOp;simp only[ho,f,A,binOp,Op.equal,Op.maxDepth,eqGuard,Sem.run_pure,Sem.run_bind,Result.andThen_ok];simp[U,run_program,Sem.run_bind,Sem.run_pure];rw[J];rfl
      ·refine qE h ⟨_,?_,.v rfl⟩;unfold execOp;simp only[ho,f,A,binOp,Op.equal,Op.maxDepth,eqGuard,Sem.run_pure,Sem.run_bind,Result.andThen_ok];simp[U,run_program,Sem.run_bind,Sem.run_pure];rw[J];rfl
      ·cases h
     ·cases e
 ·cases h
theorem qNn(M:∀x,Rep B r (ρT x) (ρ x)){op:BinOp}{t V:TypeId}{x y:Operand}(ho:o.op= .binOp op t x y V){z:T×Option TO}(h:zZs P op t (ρT x) (ρT y)=some z):Ans P w ρ o B r k z:=by
 have f:=M x;have j:=M y;unfold zZs at h;have nil:∀{a:Option Addr}{n c:Nat},a.isSome=true→ρ x= .slice a n c→ρ y= .slice none 0 0→zHk P op t=some z→Ans P w ρ o B r k z:=fun{a n c}ha f j J=>by
  obtain⟨a,rfl⟩:=Option.isSome_iff_exists.1 ha;unfold zHk at J;cases N:elT P t with
  | none=>simp[N]at J
  | some e=>
   have ht:=wG N;simp only[N]at J;cases op<;>simp only[za]at J<;>try cases J
   all_goals
    refine⟨_,?_,.v rfl⟩;unfold execOp;simp only[ho,f,j,eqGuard,binOp,Op.equal,Op.maxDepth,qDj (d:=9999) ht,Sem.run_bind,Sem.run_pure,Result.andThen_ok];simp[Sem.run_bind,Sem.run_pure]
 split at h
 ·rename_i a b A G;rw[A]at f;rw[G]at j;obtain⟨f,_⟩:=f.vI;obtain⟨j,_⟩:=j.vI;cases hb:bin op a b with
  | none=>simp[hb]at h
  | some c=>
   simp only[hb]at h;refine qE h ?_;obtain⟨k1,a1,k2,b1,rfl,rfl⟩:∃k1 a1 k2 b1,a= .int k1 a1∧b= .int k2 b1:=by
    unfold bin at hb;split at hb
    ·exact⟨_,_,_,_,rfl,rfl⟩
    ·cases hb
   simp only[bin]at hb;cases R:Nat.beq (kind k1) (kind k2)with
   | false=>simp[R]at hb
   | true=>
    obtain rfl:=zWc R;simp only[R,ze]at hb;obtain⟨S,I⟩:=qJt (P:=P) hb t w;refine⟨c,?_,.v I⟩;have U:(eqGuard op t x y (.int k1 a1) (.int k1 b1)).run P w= .ok () w:=by
     unfold eqGuard;split<;>rfl
    unfold execOp;simp only[ho,f,j,Sem.run_bind,U,Result.andThen_ok,S,Sem.run_pure]
 ·rename_i A G;rw[A]at f;rw[G]at j;obtain⟨b,C,f,_⟩:=f.osI;exact nil rfl f j.vI.1 h
 ·rename_i A G;rw[A]at f;rw[G]at j;obtain⟨b,C,c,f,_⟩:=f.ogI;exact nil rfl f j.vI.1 h
 ·rename_i A G;rw[A]at f;rw[G]at j;obtain⟨ad,c,f,_,⟨_,I⟩ | ⟨b,q,rfl,_⟩⟩:=f.slI
  ·cases I
  ·exact nil rfl f j.vI.1 h
 ·rename_i A G;rw[A]at f;rw[G]at j;obtain⟨ad,f,⟨_,I⟩ | ⟨b,q,rfl,_⟩⟩:=f.stI
  ·cases I
  ·exact nil rfl f j.vI.1 h
 ·rename_i A G;rw[A]at f;rw[G]at j;exact qVe ho f j h
 ·cases h
theorem Rep.bool{b:Bool}{v:Value}(h:Rep B r (.v (.bool b)) v):v= .bool b:=h.vI.1
theorem zVp{x:Operand}(ho:o.op= .move x∨o.op= .assign x)(w:World):(execOp ρ o).run P w= .ok (.value (ρ x)) w:=by
 unfold execOp;rcases ho with ho | ho<;>simp only[ho]<;>rfl
theorem qHa(f:∀x,Rep B r (ρT x) (ρ x)){c a b:Operand}(ho:o.op= .pick c a b){z:T×Option TO}(h:zKx (ρT c) (ρT a) (ρT b)=some z):Ans P w ρ o B r k z:=by
 have j:=f c;unfold zKx at h;split at h
 ·rename_i q e;rw[e]at j;refine qE h ?_;refine⟨bif q then ρ a else ρ b,?_,?_⟩
  ·unfold execOp;simp only[ho,j.bool,asBool,Sem.run_bind,Sem.run_pure,Result.andThen_ok];cases q<;>rfl
  ·cases q
   ·exact f b
   ·exact f a
 ·cases h
theorem lF{e:TypeId}{cs:List T}(h:zer P e=some cs):∃i z,P.info? e=some i∧i.zero=some z∧cs=z.cells.toList.map ofV:=by
 unfold zer at h;cases j:P.info? e with
 | none=>simp[j]at h
 | some i=>
  simp only[j]at h;cases f:i.zero with
  | none=>simp[f]at h
  | some z=>simp only[f,za]at h;exact⟨i,z,rfl,f,h.symm⟩
theorem mW{e:TypeId}{i:TypeInfo}{z:Value}(f:P.info? e=some i)(j:i.zero=some z)(w:World):(zeroValue e).run P w= .ok z w:=by
 simp[zeroValue,typeInfo,f,j,Sem.run_bind,Sem.run_pure]
theorem zZr{e:TypeId}(ho:o.op= .alloc e){z:T×Option TO}(h:zTz P k e=some z):Ans P w ρ o B r k z:=by
 unfold zTz at h;cases f:zer P e with
 | none=>simp[f]at h
 | some cs=>
  simp only[f,za]at h;subst h;obtain⟨i,v,j,q,rfl⟩:=lF f;refine⟨0,.cells v.cells e (0,0),fun n=> .pointer (some ⟨n,0,none⟩),fun w'=>?_,rfl,.row (mU _),fun b=> .op (qJ _ _ _)⟩;unfold execOp;simp only[ho,Instr.alloc,Sem.run_bind,mW j q,Result.andThen_ok,Sem.run_pure,newVar,newRow];rfl
theorem qEm{t:T}(h:isU t=false):t≠.u:=fun e=>by subst e;cases h
theorem qNo(j:∀x,Rep B r (ρT x) (ρ x)){e:TypeId}{x:Operand}(ho:o.op= .box e x){z:T×Option TO}(h:qYw k e (ρT x)=some z):Ans P w ρ o B r k z:=by
 unfold qYw at h;cases f:isU (ρT x)with
 | true=>simp[f]at h
 | false=>
  simp only[f,zf,za]at h;subst h;refine⟨0,.cells (ρ x).cells e (0,0),fun n=> .pointer (some ⟨n,0,none⟩),fun w'=>?_,rfl,.row ((j x).cells (qEm f)),fun b=> .op (qJ _ _ _)⟩;unfold execOp;simp only[ho,Instr.box,newVar,newRow,Sem.run_bind,Sem.run_pure];rfl
theorem qNt(j:∀x,Rep B r (ρT x) (ρ x)){x:Operand}(ho:o.op= .nilCheck x){z:T×Option TO}(h:qNs (ρT x)=some z):Ans P w ρ o B r k z:=by
 have f:=j x;unfold qNs at h;split at h
 ·rename_i e;rw[e]at f;obtain⟨b,C,hv,_⟩:=f.opI;refine qE h ⟨ρ x,?_,f⟩;unfold execOp;simp only[ho,hv,Sem.run_pure]
 ·rename_i e;rw[e]at f;obtain⟨b,o',hv,_⟩:=f.fpI;refine qE h ⟨ρ x,?_,f⟩;unfold execOp;simp only[ho,hv,Sem.run_pure]
 ·rename_i e;rw[e]at f;obtain⟨vs,hv,_⟩:=f.fnI;refine qE h ⟨ρ x,?_,f⟩;unfold execOp;simp only[ho,hv,Sem.run_pure]
 ·rename_i e;rw[e]at f;obtain⟨b,C,hv,_⟩:=f.ylI;refine qE h ⟨ρ x,?_,f⟩;unfold execOp;simp only[ho,hv,Sem.run_pure]
 ·cases h
theorem zFr{g:Bool}{n:Nat}{us:List T}{vs:List Value}(j:vs.length=n)(f:(g||Nat.beq n 1)=true)(h:zO B r us vs):Rep B r (mkT g us) (ldV g vs)∧(g=true∨vs.length=1):=by
 cases g with
 | true=>exact⟨Rep.mkAg h,.inl rfl⟩
 | false=>
  have e:vs.length=1:=by rw[j];exact Nat.eq_of_beq_eq_true (by simpa using f)
  obtain⟨v,rfl⟩:=List.length_eq_one_iff.1 e;match us,h with
  | [t],h=>exact⟨h.1,.inr rfl⟩
structure zIw(B:Bm)(r:Rd)(w:World)(H:List TO):Prop where
 ptr:∀(t:T)(v:Value)(n:Nat)(cs us:List T),Rep B r t v→aA H t=some cs→jN n cs=some us→∃b o vs,v= .pointer (some ⟨b,o,none⟩)∧vs.length=n∧zO B r us vs∧jE w ⟨b,o,none⟩ vs
 map:∀(i b C:Nat)(l:List (Value×T)),B i=some (b,C)→nth .gone H i= .map l→∃es clk,w.heap[b]?=some (.map es clk)∧xJ B r l es.toList
 mapd:∀(i b C:Nat)(d:MD),B i=some (b,C)→nth .gone H i= .mapd d→∃es clk,w.heap[b]?=some (.map es clk)∧xJ B r d.ents es.toList
theorem Wd.hp(j:Wd P E w0 X F H B w Y Mo):zIw B (rd w Y) w H:=⟨fun _ _ _ _ _ I J M=>j.from I J M,fun i b C l z hn=>by
 rw[qX,zh]at hn;cases f:H[i]? with
 | none=>rw[f]at hn;cases hn
 | some x=>
  rw[f]at hn;simp only[Option.getD_some]at hn;subst hn;obtain⟨G,A,ob,g1,q,y⟩:=j.ob i _ f rfl;rw[z]at g1;cases g1;cases y with
  | @map _ es e h _ _=>exact⟨es,e,j.heap q,h⟩,fun i b C d z hn=>by
 rw[qX,zh]at hn;cases f:H[i]? with
 | none=>rw[f]at hn;cases hn
 | some x=>
  rw[f]at hn;simp only[Option.getD_some]at hn;subst hn;obtain⟨G,A,ob,g1,q,y⟩:=j.ob i _ f rfl;rw[z]at g1;cases g1;cases y with
  | @mapd _ es e h _ _=>exact⟨es,e,j.heap q,h⟩⟩
theorem zQn(J:zIw B r w H)(q:∀x,Rep B r (ρT x) (ρ x)){t:TypeId}{x:Operand}(ho:o.op= .load t x){z:T×Option TO}(h:zBh P H t (ρT x)=some z):Ans P w ρ o B r k z:=by
 unfold zBh at h;cases e:ldT P t with
 | none=>simp[e]at h
 | some gs=>
  obtain⟨g,s⟩:=gs;cases f:aA H (ρT x)with
  | none=>simp[e,f]at h
  | some cs=>
   cases ht:jN s cs with
   | none=>simp[e,f,ht]at h
   | some us=>
    simp only[e,f,ht]at h;cases j:(g||Nat.beq s 1)with
    | false=>simp[j]at h
    | true=>
     simp only[j,ze]at h;obtain⟨b,off,vs,hv,y,A,C⟩:=J.ptr _ _ _ _ _ (q x) f ht;obtain⟨G,I⟩:=zFr y j A;exact qE h ⟨_,zB ho hv (by rw[y];exact e) I C,G⟩
theorem zO.map(e:∀x,Rep B r (ρT x) (ρ x)):∀l:List Operand,zO B r (l.map ρT) (l.map ρ)
 | []=>trivial
 | x::l=>⟨e x,zO.map e l⟩
theorem zPu(e:∀x,Rep B r (ρT x) (ρ x)){f:FuncId}{caps:Array Operand}(ho:o.op= .makeFunc (.func f) #[] caps):Ans P w ρ o B r k (.fn f (caps.toList.map ρT),none):=by
 refine⟨.func (.func f) #[] (caps.map ρ),?_,?_⟩
 ·unfold execOp;simp[ho,Instr.makeFunc,Sem.run_bind,Sem.run_pure,Result.andThen_ok]
 ·have:=Rep.mkFn (k:=f) (zO.map e caps.toList);cases caps;simpa using this
theorem zMt(e:∀x,Rep B r (ρT x) (ρ x)){f:FuncId}{first:Array Operand}(ho:o.op= .makeFunc (.func f) first #[]):Ans P w ρ o B r k (.fb f (first.toList.map ρT),none):=by
 refine⟨.func (.func f) (first.map ρ) #[],?_,?_⟩
 ·unfold execOp;simp[ho,Instr.makeFunc,Sem.run_bind,Sem.run_pure,Result.andThen_ok]
 ·have:=Rep.mkFb (k:=f) (zO.map e first.toList)
  cases first
  simpa using this
theorem zQl(f:∀x,Rep B r (ρT x) (ρ x)){x:Operand}{i:Nat}(ho:o.op= .extract x i){z:T×Option TO}(h:zBg (ρT x) i=some z):Ans P w ρ o B r k z:=by
 have j:=f x;unfold zBg at h;split at h
 ·rename_i ts e;rw[e]at j;obtain⟨vs,hv,A⟩:=j.tuI;split at h
  ·rename_i t C;obtain⟨v,q,y⟩:=A.get C;refine qE h ⟨v,?_,y⟩;unfold execOp;simp only[ho,hv,Instr.extract,List.getElem?_toArray,q,Sem.run_bind,Sem.run_pure,Result.andThen_ok]
  ·cases h
 ·cases h
theorem zZg{t:T}{n:Nat}{v:Value}(h:jI t=some n)(f:Rep B r t v):∃ad c,v= .slice ad n c:=by
 cases t with
 | v x=>
  obtain⟨rfl,_⟩:=f.vI;unfold jI at h;split at h<;>(try (rename_i e;cases e;done))<;>(try cases h)
  rename_i e;cases e;exact⟨_,_,rfl⟩
 | sl cs m=>simp only[jI,za]at h;subst h;obtain⟨ad,c,hv,_⟩:=f.slI;exact⟨ad,c,hv⟩
 | sn cs m=>simp only[jI,za]at h;subst h;obtain⟨ad,c,hv,_⟩:=(show Rep B r (.sl cs m) v from f.dn).slI;exact⟨ad,c,hv⟩
 | st cs m=>simp only[jI,za]at h;subst h;obtain⟨ad,hv,_⟩:=f.stI;exact⟨ad,_,hv⟩
 | os i o m c=>simp only[jI,za]at h;subst h;obtain⟨b,C,hv,_⟩:=f.osI;exact⟨_,_,hv⟩
 | og i o m=>simp only[jI,za]at h;subst h;obtain⟨b,C,c,hv,_⟩:=f.ogI;exact⟨_,_,hv⟩
 | ls g A l=>simp only[jI,za]at h;subst h;obtain⟨ad,c,hv,_⟩:=f.lsI;exact⟨_,_,hv⟩
 | hv A l=>simp only[jI,za]at h;subst h;obtain⟨ad,c,hv,_⟩:=f.hvI;exact⟨_,_,hv⟩
 | _=>cases h
theorem qNr(f:∀x,Rep B r (ρT x) (ρ x)){c:Call}{x:Operand}(ho:o.op= .call c)(A:c.callee= .builtin .len)(C:c.args.toList=[x])(ht:∀n ad j,ρ x= .slice ad n j→∃t e,c.argTypes[0]?=some t∧P.underlying t=some (.slice e)){z:T×Option TO}(h:qYx (ρT x)=some z):Ans P w ρ o B r k z:=by
 unfold qYx at h;cases hn:jI (ρT x)with
 | none=>simp[hn]at h
 | some n=>
  simp only[hn]at h;obtain⟨ad,j,hv⟩:=zZg hn (f x);obtain⟨t,e,q,y⟩:=ht _ _ _ hv;refine qE h ⟨.int .i64 (n:Int),?_,.v rfl⟩;have ha:c.args=#[x]:=Array.ext' (by simpa using C)
  unfold execOp;simp only[ho,resolve,A,Sem.run_bind,Sem.run_pure,Result.andThen_ok,invoke,builtin,Builtin.len_,ha,List.map_toArray,List.map_cons,List.map_nil,q,hv];simp[underlying,y,run_program,Sem.run_bind,Sem.run_pure,goInt]
theorem wX{t:T}{n:Nat}{v:Value}(h:rV t=some n)(e:Rep B r t v):∃kd,v= .int kd (n:Int):=by
 unfold rV at h;split at h
 ·cases h;exact⟨_,e.vI.1⟩
 ·cases h
def Bd(ρ:Operand→Value)(d l:Nat):Option Operand→Prop
 | none=>l=d
 | some a=>∃kd,ρ a= .int kd (l:Int)
theorem zXj{t e:TypeId}{x:Operand}{G z C:Option Operand}{ad:Option Addr}{len cap g l h m:Nat}{q:Bool}(ho:o.op= .slice t x G z C)(ht:P.underlying t=some (.slice e))(J:ldT P e=some (q,g))(N:ρ x= .slice ad len cap)
  (j:Bd ρ 0 l G) (f:Bd ρ len h z) (y:Bd ρ cap m C) (M:z=none→C=none)
  (U:l≤h) (A:h≤m∨z=none) (V:m≤cap) (w:World):(execOp ρ o).run P w= .ok (.value (.slice (if m=l then ad else ad.map (·.add (l*g))) (h-l) (m-l))) w:=by
 unfold execOp;have R:(l:Int)≤(h:Int):=by omega
 have S:(m:Int)≤(cap:Int):=by omega
 have W:(0:Int)≤(l:Int):=by omega
 have Z:(0:Int)≤(h:Int):=by omega
 have z3:(0:Int)≤(m:Int):=by omega
 have I:∀a,z=some a→(h:Int)≤(m:Int):=fun a e=>by
  rcases A with A | A
  ·omega
  ·rw[e]at A;cases A
 cases G<;>cases z<;>cases C<;>simp only[Bd]at j f y;all_goals try (obtain⟨_,j⟩:=j)
 all_goals try (obtain⟨_,y⟩:=y)
 all_goals try (cases M rfl;done)
 all_goals try (obtain⟨_,f⟩:=f)
 all_goals try subst j
 all_goals try subst y
 all_goals try subst f
 all_goals try (have I:=I _ rfl)
 all_goals simp[ho,N,Instr.sliceAt,Instr.slice,Instr.sliceBounds,Instr.sliceBound,asIntOf,underlying,ht,Sem.run_bind,Sem.run_pure,run_program,Result.andThen_ok,Gv.run_sizeOf J, *]
 all_goals (intro hh;exfalso;omega)
end
section
variable {P:Program}{B:Bm}{r:Rd}{w:World}
theorem zBs:∀(n:Nat)(l u:List T),dH n l=some u→n≤l.length∧u=l.take n
 | 0,_,_,h=>by simp[dH]at h;subst h;simp
 | _+1,[],_,h=>by simp[dH]at h
 | n+1,x::l,u,h=>by
  simp only[dH]at h;cases e:dH n l with
  | none=>simp[e]at h
  | some y=>
   simp only[e,za]at h;obtain⟨f,j⟩:=zBs n l y e;subst h;subst j;exact⟨by simpa using f,by simp⟩
theorem zAl:∀(l:List T)(n:Nat),gD l n=l.drop n
 | [],_=>by simp[gD]
 | _::_,0=>rfl
 | _::l,n+1=>by simp[gD,zAl l n]
theorem gY{A C:Ty}{l:List A.den}{m:List C.den}(h:tV A C l=some m):A=C∧HEq l m:=by
 unfold tV at h;split at h
 ·rename_i hb;have e:=Ty.beq_eq hb;subst e;cases h;exact⟨rfl,HEq.rfl⟩
 ·cases h
theorem gW{g:Tg}:∀(A:Ty){ts:List T}{x:A.den}{vs:List Value},mD g A ts=some x→zO B r ts vs→zO B r (qD g A x) vs∧ts.length=A.size:=by
 intro A;induction A with
 | lim=>
  intro ts x vs h e;replace h:qCj ts=some x:=h;unfold qCj at h;split at h
  ·rename_i k a;cases j:Nat.beq (kind k) 6 with
   | false=>simp[j]at h
   | true=>
    simp only[j,ze,za]at h;subst h;obtain rfl:k= .u32:=sD (k:= .u32) j;exact⟨e,rfl⟩
  ·cases h
 | int k=>
  intro ts x vs h e;replace h:qCi k ts=some x:=h;unfold qCi at h;split at h
  ·rename_i N a;cases j:Nat.beq (kind k) (kind N)with
   | false=>simp[j]at h
   | true=>
    simp only[j,ze,za]at h;subst h;obtain rfl:=sD j;exact⟨e,rfl⟩
  ·cases h
 | bool=>
  intro ts x vs h e;replace h:qCh ts=some x:=h;unfold qCh at h;split at h
  ·cases h;exact⟨e,rfl⟩
  ·cases h
 | str=>
  intro ts x vs h e;replace h:qCl ts=some x:=h;unfold qCl at h;split at h
  ·cases h;exact⟨e,rfl⟩
  ·cases h
 | list A U=>
  intro ts x vs h e;replace h:qCk g A ts=some x:=h;unfold qCk at h;split at h
  ·cases h;match vs,e with
   | [v],e=>
    obtain⟨rfl,_⟩:=e.1.vI;exact⟨⟨.ls ⟨none,0,rfl,Nat.le_refl _,Nat.zero_le _,.inl rfl⟩,trivial⟩,rfl⟩
  ·rename_i I S l;cases y:g.le I with
   | false=>simp[y]at h
   | true=>
    simp only[y,ze]at h;obtain⟨rfl,J⟩:=gY h;obtain rfl:=eq_of_heq J;match vs,e with
    | [v],e=>
     refine⟨⟨?_,trivial⟩,rfl⟩;have f:=e.1;cases f with
     | ls f=>exact .ls (jG.mono (Le.refl _) (fun b h=>h.le y) _ _ _ f)
  ·cases h
 | prod A C z G=>
  intro ts x vs h e;simp only[mD]at h;cases ht:dH A.size ts with
  | none=>simp[ht]at h
  | some u=>
   simp only[ht]at h;obtain⟨M,rfl⟩:=zBs _ _ _ ht;rw[zAl]at h;cases f:mD g A (ts.take A.size)with
   | none=>simp[f]at h
   | some a=>
    cases q:mD g C (ts.drop A.size)with
    | none=>simp[f,q]at h
    | some c=>
     simp only[f,q,za]at h;subst h;have hs:=zO.split (ts:=ts.take A.size) (us:=ts.drop A.size) (by rw[List.take_append_drop];exact e)
     obtain⟨k1,k2⟩:=z f hs.1;obtain⟨k3,R⟩:=G q hs.2;refine⟨?_,?_⟩
     ·have:=k1.app k3;rwa[List.take_append_drop]at this
     ·show _=A.size+C.size;rw[←List.take_append_drop A.size ts,List.length_append,k2,R]
theorem zAg{g:Tg}{A:Ty}{t:T}{x:A.den}{v:Value}(h:zJr g A t=some x)(j:Rep B r t v):Rep B r (unT g A x) v:=by
 have e:=jL g A x;unfold zJr at h;split at h
 ·rename_i cs;cases hb:Nat.blt 1 A.size with
  | false=>simp[hb]at h
  | true=>
   simp only[hb,ze]at h;obtain⟨vs,rfl,f⟩:=j.agI;have k:=(gW A h f).1;have hb:1<A.size:=by simpa using hb
   unfold unT;split
   ·rename_i t ht;rw[ht]at e;simp at e;omega
   ·exact Rep.mkAg k
 ·cases hb:Nat.beq A.size 1 with
  | false=>simp[hb]at h
  | true=>
   simp only[hb,ze]at h;have k:=(gW A h (vs:=[v]) ⟨j,trivial⟩).1;rw[Nat.eq_of_beq_eq_true hb]at e;obtain⟨q,ht⟩:=List.length_eq_one_iff.1 e;unfold unT;rw[ht]at k ⊢;exact k.1
theorem zWa{A:TypeId}{K:Ty}{k:K.den}{v:Value}(f:wR P A K=true)(e:Rep B r (unT .a K k) v):v=vD K k:=by
 unfold wR at f;split at f
 ·exact e.vI.1
 ·exact e.vI.1
 ·rename_i i j l;obtain⟨a,b,c⟩:=k;obtain⟨vs,rfl,q⟩:=Rep.agI (cs:=[.v (.int i a),.v (.int j b),.v (.int l c)]) e;match vs,q with
  | [C,G,I],⟨g1,y,z,_⟩=>
   obtain⟨rfl,_⟩:=g1.vI;obtain⟨rfl,_⟩:=y.vI;obtain⟨rfl,_⟩:=z.vI;rfl
 ·cases f
theorem qWz{j:TypeId}{K:Ty}{a b:K.den}(f:wR P j K=true)(h:keq K a b=true):a=b:=by
 have e:∀{x y:Int},ieq x y=true→x=y:=fun h=>by rw[←nD]at h;exact eq_of_beq h
 unfold wR at f;split at f
 ·exact e h
 ·exact of_decide_eq_true (p:=(a:ByteArray)=b) h
 ·obtain⟨a1,a2,a3⟩:=a;obtain⟨b1,b2,b3⟩:=b;have h:(ieq a1 b1&&(ieq a2 b2&&ieq a3 b3))=true:=h;simp only[zd]at h;rw[e h.1,e h.2.1,e h.2.2]
 ·cases f
theorem zXu(a b:ByteArray):(a==b)=decide (a=b):=by
 obtain⟨x⟩:=a;obtain⟨y⟩:=b;show(x==y)=_;by_cases h:x=y
 ·subst h;simp
 ·simp[h]
def Fnd{α:Type}(K:Ty)(R:α→Value→Prop)(k:K.den)(l:List (K.den×α))(es:List MapEntry)(i:Nat)(q:Option (Nat×Value)):Prop:=
 (q=none∧zTf K k l=false∧(∀z,rE K z k l=z)∧∀y,bW K k y l=l++[(k,y)])∨
 ∃j e f,q=some (i+j,f.val)∧l[j]?=some e∧es[j]?=some f∧f.key=vD K e.1∧keq K k e.1=true∧R e.2 f.val∧zTf K k l=true∧(∀z,rE K z k l=e.2)∧∀y,bW K k y l=l.set j (k,y)
theorem Fnd.nil{α:Type}{K:Ty}{R:α→Value→Prop}{k:K.den}{es:List MapEntry}{i:Nat}:Fnd K R k [] es i none:= .inl ⟨rfl,rfl,fun _=>rfl,fun _=>rfl⟩
theorem Fnd.hit{α:Type}{K:Ty}{R:α→Value→Prop}{k:K.den}{e:K.den×α}{l:List (K.den×α)}{f:MapEntry}{es:List MapEntry}{i:Nat}(h:keq K k e.1=true)(q:f.key=vD K e.1)(j:R e.2 f.val):Fnd K R k (e::l) (f::es) i (some (i,f.val)):=
 .inr ⟨0,e,f,rfl,rfl,rfl,q,h,j,by simp[zTf,h],fun z=>by simp[rE,h],fun y=>by simp[bW,h]⟩
theorem Fnd.skip{α:Type}{K:Ty}{R:α→Value→Prop}{k:K.den}{e:K.den×α}{l:List (K.den×α)}{f:MapEntry}{es:List MapEntry}{i:Nat}{q:Option (Nat×Value)}(h:keq K k e.1=false)(Z:Fnd K R k l es (i+1) q):Fnd K R k (e::l) (f::es) i q:=by
 rcases Z with⟨A,C,G,I⟩ | ⟨j,J,M,A,C,G,I,N,S,U,V,W⟩
 ·exact .inl ⟨A,by simp[zTf,h,C],fun z=>by simp[rE,h,G],fun y=>by simp[bW,h,I]⟩
 ·exact .inr ⟨j+1,J,M,by rw[A];congr 2;omega,by simpa using C,by simpa using G,I,N,S,by simp[zTf,U],fun z=>by simp[rE,h,V],fun y=>by simp[bW,h,W]⟩
def qAm{α:Type}(K:Ty)(R:α→Value→Prop):List (K.den×α)→List MapEntry→Prop
 | [],[]=>True
 | e::l,f::es=>f.key=vD K e.1∧R e.2 f.val∧qAm K R l es
 | _,_=>False
theorem zMw{α:Type}{K:Ty}{R:α→Value→Prop}{k:K.den}{d:TypeDesc}(hs:∀b:K.den,Instr.sameNow d (vD K k) (vD K b)=some (keq K k b)):∀(l:List (K.den×α))(es:List MapEntry)(i:Nat),qAm K R l es→∃q,Instr.findNow d (vD K k) es i=some q∧Fnd K R k l es i q
 | [],[],i,_=>⟨none,rfl,.nil⟩
 | e::l,f::es,i,h=>by
  unfold Instr.findNow;rw[h.1,hs e.1];cases j:keq K k e.1 with
  | true=>exact⟨_,rfl,.hit j h.1 h.2.1⟩
  | false=>
   obtain⟨q,y,z⟩:=zMw hs l es (i+1) h.2.2;exact⟨q,y,.skip j z⟩
 | [],_::_,_,h=>h.elim
 | _::_,[],_,h=>h.elim
theorem zVd{α:Type}{K:Ty}{R:α→Value→Prop}{k:K.den}{t:TypeId}(hs:∀b:K.den,(Op.equal t (vD K k) (vD K b)).run P w= .ok (keq K k b) w):∀(l:List (K.den×α))(es:List MapEntry)(i:Nat),qAm K R l es→∃q,(Instr.findAsking t (vD K k) es i).run P w= .ok q w∧Fnd K R k l es i q
 | [],[],i,_=>⟨none,rfl,.nil⟩
 | e::l,f::es,i,h=>by
  unfold Instr.findAsking;rw[h.1];simp only[Sem.run_bind,hs e.1,Result.andThen_ok];cases j:keq K k e.1 with
  | true=>exact⟨_,by simp[Sem.run_pure],.hit j h.1 h.2.1⟩
  | false=>
   obtain⟨q,y,z⟩:=zVd hs l es (i+1) h.2.2;exact⟨q,by simpa using y,.skip j z⟩
 | [],_::_,_,h=>h.elim
 | _::_,[],_,h=>h.elim
theorem zPb{α:Type}{K:Ty}{R:α→Value→Prop}{G:TypeId}(y:wR P G K=true)(k:K.den)(l:List (K.den×α))(es:List MapEntry)(h:qAm K R l es):∃q,(Instr.findKey G (vD K k) es).run P w= .ok q w∧Fnd K R k l es 0 q:=by
 unfold wR at y;split at y
 ·rename_i i;split at y
  ·rename_i j z;obtain rfl:=sD y;obtain⟨q,A,C⟩:=zMw (d:= .int i) (k:=k) (R:=R) (fun b=>by
    show(if i=i then some ((k:Int)==(b:Int))else none)=some (ieq k b)
    rw[if_pos rfl,nD]) l es 0 h
   refine⟨q,?_,C⟩;unfold Instr.findKey;simp only[underlying,z,Sem.run_bind,Sem.run_pure,run_program,Result.andThen_ok,A]
  ·cases y
 ·split at y
  ·rename_i z;obtain⟨q,A,C⟩:=zMw (d:= .string) (k:=k) (R:=R) (fun b=>by
    show some ((k:ByteArray)==(b:ByteArray))=some (decide ((k:ByteArray)=b));rw[zXu]) l es 0 h
   refine⟨q,?_,C⟩;unfold Instr.findKey;simp only[underlying,z,Sem.run_bind,Sem.run_pure,run_program,Result.andThen_ok,A]
  ·cases y
 ·rename_i i j n;split at y
  ·rename_i I J M z;simp only[zd,Bool.not_eq_true']at y;obtain⟨hs,N,g1,S⟩:=y;obtain⟨u0,Z,n0⟩:=xQ N;obtain⟨u1,o1,V⟩:=xQ g1;obtain⟨u2,o2,W⟩:=xQ S;have U:∀b:(Ty.prod (.int i) (.prod (.int j) (.int n))).den,(Op.equal G (vD (.prod (.int i) (.prod (.int j) (.int n))) k) (vD (.prod (.int i) (.prod (.int j) (.int n))) b)).run P w= .ok (keq (.prod (.int i) (.prod (.int j) (.int n))) k b) w:=fun b=>by
    obtain⟨a1,a2,a3⟩:=k;obtain⟨b1,b2,b3⟩:=b;have:=qQg (P:=P) (w:=w) (d:=9998) (k1:=i) (k2:=j) (k3:=n) (a1:=a1) (a2:=a2) (a3:=a3) (b1:=b1) (b2:=b2) (b3:=b3) z hs u0 u1 u2 n0 V W Z o1 o2;rw[nD,nD,nD]at this;exact this
   obtain⟨q,A,C⟩:=zVd (k:=k) (R:=R) U l es 0 h;unfold Instr.findKey;simp only[underlying,z,Sem.run_bind,Sem.run_pure,run_program,Result.andThen_ok];match l,es,h with
   | [],[],h=>exact⟨none,rfl,.nil⟩
   | e::l,f::es,h=>
    refine⟨q,?_,C⟩;have:Instr.findNow (.struct ⟨[I,J,M]⟩) (vD (.prod (.int i) (.prod (.int j) (.int n))) k) (f::es) 0=none:=rfl;rw[this];exact A
  ·cases y
 ·cases y
theorem bA{K:Ty}{A:TypeId}(y:wR P A K=true)(k:K.den)(e:Bool):(Instr.checkKey e 10000 A (vD K k)).run P w= .ok () w:=by
 unfold wR at y;split at y
 ·split at y
  ·rename_i j z;show(Instr.checkKey e (9999+1) A _).run P w=_;unfold Instr.checkKey;simp only[underlying,z,Sem.run_bind,Sem.run_pure,run_program,Result.andThen_ok]
  ·cases y
 ·split at y
  ·rename_i z;show(Instr.checkKey e (9999+1) A _).run P w=_;unfold Instr.checkKey;simp only[underlying,z,Sem.run_bind,Sem.run_pure,run_program,Result.andThen_ok]
  ·cases y
 ·rename_i i j n;split at y
  ·rename_i Z f1 f2 z;simp only[zd,Bool.not_eq_true']at y;obtain⟨hs,M,g1,N⟩:=y;obtain⟨G,U,n0⟩:=xQ M;obtain⟨I,V,R⟩:=xQ g1;obtain⟨J,W,S⟩:=xQ N;obtain⟨a1,a2,a3⟩:=k;have one:∀{f:Field}{q C:IntKind}{a:Int},P.underlying f.type=some (.int q)→(Instr.checkKey e 9999 f.type (.int C a)).run P w= .ok () w:=fun{f q C a}z=>by
    show(Instr.checkKey e (9998+1) f.type _).run P w=_;unfold Instr.checkKey;simp only[underlying,z,Sem.run_bind,Sem.run_pure,run_program,Result.andThen_ok]
   show(Instr.checkKey e (9999+1) A (.agg #[.int i a1,.int j a2,.int n a3])).run P w=_;unfold Instr.checkKey;simp only[underlying,z,Sem.run_bind,Sem.run_pure,run_program,Result.andThen_ok];simp[n0,R,S,U,V,W];simp only[zBj (cs:=#[Value.int i a1,.int j a2,.int n a3]) (i:=0) G rfl,zBj (cs:=#[Value.int i a1,.int j a2,.int n a3]) (i:=1) I rfl,zBj (cs:=#[Value.int i a1,.int j a2,.int n a3]) (i:=2) J rfl,Result.andThen_ok];simp only[List.getElem_toArray,List.getElem_cons_succ,List.getElem_cons_zero,one G,one I,one J,Result.andThen_ok]
  ·cases y
 ·cases y
theorem qEp{K:Ty}{f:TypeId}(e:wR P f K=true)(k:K.den):Instr.sameBits 10000 (vD K k) (vD K k)=true:=by
 unfold wR at e;split at e
 ·simp[vD,Instr.sameBits]
 ·simp[vD,Instr.sameBits,zXu]
 ·obtain⟨a,b,c⟩:=k;show Instr.sameBits (9999+1) _ _=true;simp[vD,zLu,Instr.sameBits]
 ·cases e
end
section
variable {P:Program}{E:Nat→Prop}{w0:World}{X:Hid}{F:List Nat}{H:List TO}{B:Bm}{w:World}{Y:Hid}{Mo:List (Nat×Obj)}{ρ:Operand→Value}{ρT:Operand→T}{o:Oper}{r:Rd}{k:Nat}
theorem mM{t k v:TypeId}(h:zHf P t=some (k,v)):P.underlying t=some (.map k v):=by
 unfold zHf at h;split at h
 ·rename_i e;cases h;exact e
 ·cases h
theorem zVo(z:zIw B r w H){m:T}{v:Value}{l:List (Value×T)}(h:zJx H m=some l)(f:Rep B r m v):(v= .map none∧l=[])∨∃b es e,v= .map (some b)∧w.heap[b]?=some (.map es e)∧xJ B r l es.toList:=by
 unfold zJx at h;split at h
 ·cases h;exact .inl ⟨f.vI.1,rfl⟩
 ·rename_i i;split at h
  ·rename_i A hn;cases h;cases f with
   | @om _ b C y=>
    obtain⟨es,e,j,q⟩:=z.map _ _ _ _ y hn;exact .inr ⟨b,es,e,rfl,j,q⟩
  ·cases h
 ·cases h
theorem zCi{d:MD}:∀{l:List (d.K.den×d.V.den)}{es:List MapEntry},xJ B r (l.map fun e=>(vD d.K e.1,unT d.g d.V e.2)) es→qAm d.K (fun x v=>Rep B r (unT d.g d.V x) v) l es
 | [],[],_=>trivial
 | _::_,_::_,h=>⟨h.1,h.2.1,zCi h.2.2⟩
 | [],_::_,h=>h.elim
 | _::_,[],h=>h.elim
theorem qCu(y:zIw B r w H){m:T}{v:Value}{d:MD}(h:dOf H m=some d)(z:Rep B r m v):∃b es e,v= .map (some b)∧w.heap[b]?=some (.map es e)∧xJ B r d.ents es.toList:=by
 unfold dOf at h;split at h
 ·rename_i i;split at h
  ·rename_i A hn;cases h;cases z with
   | @om _ b C q=>
    obtain⟨es,e,f,j⟩:=y.mapd _ _ _ _ q hn;exact⟨b,es,e,rfl,f,j⟩
  ·cases h
 ·cases h
theorem yV{b:Nat}{es:Array MapEntry}{e:Nat}(h:w.heap[b]?=some (.map es e)):(getObj b).run P w= .ok (.map es e) w:=by
 simp[getObj,Sem.run,h]
theorem qGv(J:zIw B r w H)(j:∀x,Rep B r (ρT x) (ρ x)){c:Call}{x:Operand}{t:TypeId}{N:TypeId×TypeId}(ho:o.op= .call c)(y:c.callee= .builtin .len)(M:c.args.toList=[x])(f:c.argTypes.toList=[t])(ht:zHf P t=some N){z:T×Option TO}(h:qGu H (ρT x)=some z):Ans P w ρ o B r k z:=by
 obtain⟨R,S⟩:=N;have I:=mM ht;unfold qGu at h;cases hd:dOf H (ρT x)with
 | some d=>
  simp only[hd]at h;have ha:c.args=#[x]:=Array.ext' (by simpa using M)
  have hb:c.argTypes=#[t]:=Array.ext' (by simpa using f)
  obtain⟨b,es,q,hv,A,G⟩:=qCu J hd (j x);refine qE h ⟨.int .i64 (d.l.length:Int),?_,.v rfl⟩;unfold execOp;simp only[ho,resolve,y,Sem.run_bind,Sem.run_pure,Result.andThen_ok,invoke,builtin,Builtin.len_,ha,hb,List.map_toArray,List.map_cons,List.map_nil,hv];have:=G.length;have e:d.ents.length=d.l.length:=by simp[MD.ents]
  rw[e]at this;simp[underlying,I,run_program,Sem.run_bind,Sem.run_pure,goInt,yV A,this]
 | none=>
 simp only[hd]at h;cases C:zJx H (ρT x)with
 | none=>simp[C]at h
 | some l=>
  simp only[C]at h;have ha:c.args=#[x]:=Array.ext' (by simpa using M)
  have hb:c.argTypes=#[t]:=Array.ext' (by simpa using f)
  refine qE h ⟨.int .i64 (l.length:Int),?_,by rw[qU];exact .v rfl⟩
  unfold execOp;rcases zVo J C (j x)with⟨hv,rfl⟩ | ⟨b,es,q,hv,A,G⟩
  ·simp only[ho,resolve,y,Sem.run_bind,Sem.run_pure,Result.andThen_ok,invoke,builtin,Builtin.len_,ha,hb,List.map_toArray,List.map_cons,List.map_nil,hv];simp[underlying,I,run_program,Sem.run_bind,Sem.run_pure,goInt]
  ·simp only[ho,resolve,y,Sem.run_bind,Sem.run_pure,Result.andThen_ok,invoke,builtin,Builtin.len_,ha,hb,List.map_toArray,List.map_cons,List.map_nil,hv];have:=G.length;simp[underlying,I,run_program,Sem.run_bind,Sem.run_pure,goInt,yV A,this]
theorem qGs(G:zIw B r w H)(f:∀x,Rep B r (ρT x) (ρ x)){c:Call}(ho:o.op= .call c){z:T×Option TO}(h:zEk P H ρT c=some z):Ans P w ρ o B r k z:=by
 unfold zEk at h;split at h
 ·rename_i x t y A C;cases j:elT P t with
  | none=>
   simp only[j]at h;cases q:zHf P t with
   | none=>simp[q]at h
   | some J=>simp only[q]at h;exact qGv G f ho y A C q h
  | some e=>
   simp only[j]at h;refine qNr f ho y A (fun n ad I hv=>⟨t,e,?_,wG j⟩) h;have:c.argTypes=#[t]:=Array.ext' (by simpa using C)
   rw[this];rfl
 ·cases h
theorem zVy{d:TypeDesc}{z:Value}:∀{l:List (Value×T)}{es:List MapEntry}{i:Nat}{q:Option Nat},xJ B r l es→zMk d z l i=some q→
  (q=none∧Instr.findNow d z es i=some none)∨∃j e f,q=some (i+j)∧l[j]?=some e∧es[j]?=some f∧Instr.findNow d z es i=some (some (i+j,f.val))∧f.key=e.1∧Rep B r e.2 f.val
 | [],[],i,q,_,h=>by simp only[zMk,za]at h;exact .inl ⟨h.symm,rfl⟩
 | e::l,f::es,i,q,y,h=>by
  simp only[zMk]at h;unfold Instr.findNow;rw[y.1];cases hs:Instr.sameNow d z e.1 with
  | none=>simp[hs]at h
  | some b=>
   cases b with
   | true=>simp only[hs,za]at h;exact .inr ⟨0,e,f,h.symm,rfl,rfl,rfl,y.1,y.2.1⟩
   | false=>
    simp only[hs]at h ⊢;rcases zVy y.2.2 h with⟨A,C⟩ | ⟨j,G,I,A,C,J,M,N,R⟩
    ·exact .inl ⟨A,C⟩
    ·exact .inr ⟨j+1,G,I,by rw[A];congr 1;omega,by simpa using C,by simpa using J,by rw[M];congr 3;omega,N,R⟩
 | [],_::_,_,_,y,_=>y.elim
 | _::_,[],_,_,y,_=>y.elim
theorem zKh{d:TypeDesc}{q:Value}:∀{l:List (Value×T)}{es:List MapEntry}{i:Nat},xJ B r l es→zMk d q l i=none→Instr.findNow d q es i=none
 | [],[],i,_,h=>by simp[zMk]at h
 | e::l,f::es,i,j,h=>by
  simp only[zMk]at h;unfold Instr.findNow;rw[j.1];cases hs:Instr.sameNow d q e.1 with
  | none=>rfl
  | some b=>
   cases b with
   | true=>simp[hs]at h
   | false=>simp only[hs]at h ⊢;exact zKh j.2.2 h
 | [],_::_,_,j,_=>j.elim
 | _::_,[],_,j,_=>j.elim
theorem zVw{t:TypeId}{z:Value}:∀{l:List (Value×T)}{es:List MapEntry}{i:Nat}{q:Option Nat},xJ B r l es→qEo P t z l i=some q→
  (q=none∧(Instr.findAsking t z es i).run P w= .ok none w)∨∃j e f,q=some (i+j)∧l[j]?=some e∧es[j]?=some f∧(Instr.findAsking t z es i).run P w= .ok (some (i+j,f.val)) w∧f.key=e.1∧Rep B r e.2 f.val
 | [],[],i,q,_,h=>by simp only[qEo,za]at h;exact .inl ⟨h.symm,rfl⟩
 | e::l,f::es,i,q,y,h=>by
  simp only[qEo]at h;unfold Instr.findAsking;rw[y.1];cases hs:zJj P (Op.equal t z e.1)with
  | none=>simp[hs]at h
  | some b=>
   simp only[Sem.run_bind,zDk hs w,Result.andThen_ok];cases b with
   | true=>simp only[hs,za]at h;exact .inr ⟨0,e,f,h.symm,rfl,rfl,by simp[Sem.run_pure],y.1,y.2.1⟩
   | false=>
    simp only[hs]at h;rcases zVw y.2.2 h with⟨A,C⟩ | ⟨j,G,I,A,C,J,M,N,R⟩
    ·exact .inl ⟨A,by simpa using C⟩
    ·exact .inr ⟨j+1,G,I,by rw[A];congr 1;omega,by simpa using C,by simpa using J,by simp;rw[M];congr 3;omega,N,R⟩
 | [],_::_,_,_,y,_=>y.elim
 | _::_,[],_,_,y,_=>y.elim
theorem zPn{t:TypeId}{C:Value}{l:List (Value×T)}{es:List MapEntry}{q:Option Nat}(R:xJ B r l es)(h:zKg P t C l=some q):
  (q=none∧(Instr.findKey t C es).run P w= .ok none w)∨∃j e f,q=some j∧l[j]?=some e∧es[j]?=some f∧(Instr.findKey t C es).run P w= .ok (some (j,f.val)) w∧f.key=e.1∧Rep B r e.2 f.val:=by
 unfold zKg at h;cases S:P.underlying t with
 | none=>simp[S]at h
 | some d=>
  simp only[S]at h;unfold Instr.findKey;simp only[underlying,S,Sem.run_bind,Sem.run_pure,run_program,Result.andThen_ok];cases hn:zMk d C l 0 with
  | some U=>
   simp only[hn,za]at h;subst h;rcases zVy R hn with⟨y,z⟩ | ⟨j,G,I,y,z,J,A,M,N⟩
   ·rw[z];exact .inl ⟨y,rfl⟩
   ·rw[A];exact .inr ⟨j,G,I,by rw[y,Nat.zero_add],z,J,by rw[Nat.zero_add];rfl,M,N⟩
  | none=>
   simp only[hn]at h;rw[zKh R hn];rcases zVw (w:=w) R h with⟨y,z⟩ | ⟨j,G,I,y,z,J,A,M,N⟩
   ·exact .inl ⟨y,z⟩
   ·exact .inr ⟨j,G,I,by rw[y,Nat.zero_add],z,J,by rw[Nat.zero_add]at A;exact A,M,N⟩
theorem zPo{e:Bool}{t:TypeId}{f:Value}(h:kOk P e t f=true)(w:World):(Instr.checkKey e 10000 t f).run P w= .ok () w:=by
 unfold kOk at h;cases hr:zJj P (Instr.checkKey e 10000 t f)with
 | none=>simp[hr]at h
 | some u=>exact zDk hr w
def lkR(ok:Bool)(v:Value)(b:Bool):Value:=if ok then .tuple #[v,.bool b]else v
theorem zFt{ok b:Bool}{t:T}{v:Value}(h:Rep B r t v):Rep B r (okT ok t b) (lkR ok v b):=by
 cases ok with
 | false=>exact h
 | true=>exact Rep.mkTu (vs:=[v,.bool b]) ⟨h,.v rfl,trivial⟩
theorem qVc{l:List (Value×T)}{es:List MapEntry}(h:xJ B r l es):emp l=es.toArray.isEmpty:=by
 cases l<;>cases es<;>first | rfl | exact h.elim
theorem zQo(hH:zIw B r w H)(I:∀x,Rep B r (ρT x) (ρ x)){t:TypeId}{m x:Operand}{ok:Bool}(ho:o.op= .lookup t m x ok){z:T×Option TO}(h:zHw P H t (ρT m) (ρT x) ok=some z):Ans P w ρ o B r k z:=by
 unfold zHw at h;cases G:zHf P t with
 | none=>simp[G]at h
 | some kv=>
  obtain⟨A,vt⟩:=kv;cases N:zJx H (ρT m)with
  | none=>simp[G,N]at h
  | some l=>
   cases hs:sOf (ρT x)with
   | none=>simp[G,N,hs]at h
   | some key=>
    simp only[G,N,hs]at h;cases V:kOk P (emp l) A key with
    | false=>simp[V]at h
    | true=>
     simp only[V,ze]at h;have R:=mM G;have hx:=zNm hs (I x);have fin:∀(es:Array MapEntry),xJ B r l es.toList→
       (∀(n:Nat)(v:Value),(Instr.checkKey es.isEmpty 10000 A key).run P w= .ok () w→(Instr.findKey A key es.toList).run P w= .ok (some (n,v)) w→(Instr.lookup t (ρ m) key ok).run P w= .ok (lkR ok v true) w)→
       (∀(v:Value),(Instr.checkKey es.isEmpty 10000 A key).run P w= .ok () w→(Instr.findKey A key es.toList).run P w= .ok none w→(zeroValue vt).run P w= .ok v w→(Instr.lookup t (ρ m) key ok).run P w= .ok (lkR ok v false) w)→Ans P w ρ o B r k z:=fun es f h1 h0=>by
      have e:=zPo V w;rw[qVc f]at e;have U:es.toList.toArray=es:=by simp
      rw[U]at e;have C:∀u,(Instr.lookup t (ρ m) key ok).run P w= .ok u w→(execOp ρ o).run P w= .ok (.value u) w:=fun u N2=>by
       unfold execOp;simp only[ho,hx,Sem.run_bind,N2,Result.andThen_ok,Sem.run_pure]
      cases J:zKg P A key l with
      | none=>simp[J]at h
      | some q=>
       rcases zPn (w:=w) f J with⟨rfl,hr⟩ | ⟨j,e',f',rfl,h2,h3,hr,h5,h6⟩
       ·simp only[J]at h;unfold qOy at h;cases M:P.info? vt with
        | none=>simp[M]at h
        | some i0=>
         cases W:i0.zero with
         | none=>simp[M,W]at h
         | some zv=>
          simp only[M,W]at h;exact qE h ⟨_,C _ (h0 zv e hr (mW M W w)),zFt (zBb zv)⟩
       ·simp only[J]at h;have hn:qXy l j=some e'.2:=by unfold qXy;rw[h2]
        simp only[hn]at h;exact qE h ⟨_,C _ (h1 j f'.val e hr),zFt h6⟩
     rcases zVo hH N (I m)with⟨hv,rfl⟩ | ⟨b,es,clk,hv,Z,f⟩
     ·refine fin #[] trivial (fun n v g1 y=>?_) (fun v g1 y S=>?_)
      ·rw[hv];unfold Instr.lookup;simp only[underlying,R,Sem.run_bind,Sem.run_pure,run_program,Result.andThen_ok,g1,y];rfl
      ·rw[hv];unfold Instr.lookup;simp only[underlying,R,Sem.run_bind,Sem.run_pure,run_program,Result.andThen_ok,g1,y,S];rfl
     ·refine fin es f (fun n v g1 y=>?_) (fun v g1 y S=>?_)
      ·rw[hv];unfold Instr.lookup;simp only[underlying,R,Sem.run_bind,Sem.run_pure,run_program,yV Z,Result.andThen_ok,g1,y];rfl
      ·rw[hv];unfold Instr.lookup;simp only[underlying,R,Sem.run_bind,Sem.run_pure,run_program,yV Z,Result.andThen_ok,g1,y,S];rfl
theorem zUc(U:zIw B r w H)(C:∀x,Rep B r (ρT x) (ρ x)){t:TypeId}{m x:Operand}{ok:Bool}(ho:o.op= .lookup t m x ok){z:T×Option TO}(h:zNe P H t (ρT m) (ρT x) ok=some z):Ans P w ρ o B r k z:=by
 unfold zNe at h;cases hd:dOf H (ρT m)with
 | none=>simp only[hd]at h;exact zQo U C ho h
 | some d=>
  simp only[hd]at h;cases M:zHf P t with
  | none=>simp[M]at h
  | some kv=>
   obtain⟨kt,vt⟩:=kv;simp only[M]at h;unfold lkD at h;split at h
   ·rename_i key z' hk I;split at h
    ·rename_i z0 R;cases y:wR P kt d.K with
     | false=>simp[y]at h
     | true=>
      simp only[y,ze]at h;have W:=mM M;have hx:=zWa y (zAg hk (C x));obtain⟨b,es,clk,hv,V,N⟩:=qCu U hd (C m);obtain⟨q,hr,hf⟩:=zPb (w:=w) y key d.l es.toList (zCi N);unfold qOy at I;cases J:P.info? vt with
      | none=>simp[J]at I
      | some i0=>
       cases A:i0.zero with
       | none=>simp[J,A]at I
       | some zv=>
        simp only[J,A,za]at I;subst I;have S:=zAg R (zBb (B:=B) (r:=r) zv);have G:∀u,(Instr.lookup t (ρ m) (vD d.K key) ok).run P w= .ok u w→(execOp ρ o).run P w= .ok (.value u) w:=fun u Z=>by
         unfold execOp;simp only[ho,hx,Sem.run_bind,Z,Result.andThen_ok,Sem.run_pure]
        rcases hf with⟨rfl,h2,h3,_⟩ | ⟨j,e,f,rfl,_,_,_,_,h6,h7,h8,_⟩
        ·rw[h2,h3]at h;refine qE h ⟨_,G (lkR ok zv false) ?_,zFt S⟩;rw[hv];unfold Instr.lookup;simp only[underlying,W,Sem.run_bind,Sem.run_pure,run_program,Result.andThen_ok,yV V,bA y,hr,mW J A w];rfl
        ·rw[h7,h8]at h;refine qE h ⟨_,G (lkR ok f.val true) ?_,zFt h6⟩;rw[hv];unfold Instr.lookup;simp only[underlying,W,Sem.run_bind,Sem.run_pure,run_program,Result.andThen_ok,yV V,bA y,hr];rfl
    ·cases h
   ·cases h
theorem zY{a b:Nat}(h:Nat.beq a b=true):a=b:=Nat.eq_of_beq_eq_true h
theorem tQ(b o' j:Nat):(some (⟨b,o',none⟩:Addr)).map (·.add j)=some ⟨b,o'+j,none⟩:=by simp[jO]
def ad'(ad:Option Addr)(m l s:Nat):Option Addr:=if m=l then ad else ad.map (·.add (l*s))
theorem qTr{cs:List T}{ad:Option Addr}{f j m n s:Nat}(q:m≤maxLen)(C:f≤j)(G:j≤m)(hn:j≤n)(hh:(n=0∧cs=[])∨∃b o,ad=some ⟨b,o,none⟩∧Cls B r b o cs):
  Rep B r (bif Nat.beq f j then .sl [] 0 else .sl (jJ cs (f*s)) (j-f)) (.slice (ad' ad m f s) (j-f) (m-f)):=by
 cases e:Nat.beq f j with
 | true=>
  obtain rfl:=Nat.eq_of_beq_eq_true e;rw[Nat.sub_self];exact .sl0 (Nat.le_trans (Nat.sub_le _ _) q)
 | false=>
  have A:f≠j:=fun y=>by subst y;simp at e
  rcases hh with⟨rfl,rfl⟩ | ⟨b,o,rfl,z⟩
  ·omega
  ·unfold ad';rw[if_neg (by omega),tQ];exact(z.drop _).sl (by omega) (Nat.le_trans (Nat.sub_le _ _) q)
theorem zSs{cs:List T}{ad:Option Addr}{j f n s:Nat}(A:j≤f)(hn:f≤n)(hh:(n=0∧cs=[])∨∃b o,ad=some ⟨b,o,none⟩∧Cls B r b o cs):
  Rep B r (bif Nat.beq j f then .st [] 0 else .st (jJ cs (j*s)) (f-j)) (.slice (ad' ad f j s) (f-j) (f-j)):=by
 cases e:Nat.beq j f with
 | true=>
  obtain rfl:=Nat.eq_of_beq_eq_true e;rw[Nat.sub_self];exact .st0
 | false=>
  have z:j≠f:=fun q=>by subst q;simp at e
  rcases hh with⟨rfl,rfl⟩ | ⟨b,o,rfl,y⟩
  ·omega
  ·unfold ad';rw[if_neg (by omega),tQ];exact(y.drop _).st
theorem qAc{x t:T}{q j s n:Nat}{v:Value}(hn:jI x=some n)(h:nQ x q j s=some t)(G:Rep B r x v):
  ∃ad c,v= .slice ad n c∧q≤j∧j≤c∧Rep B r t (.slice (ad' ad c q s) (j-q) (c-q)):=by
 cases x with
 | sl cs m=>
  simp only[jI,za]at hn;subst hn;simp only[nQ]at h;cases f:Nat.ble q j&&Nat.ble j m with
  | false=>simp[f]at h
  | true=>
   simp only[f,ze,za]at h;subst h;simp only[zd,Nat.ble_eq]at f;have y:=G;obtain⟨ad,c,rfl,hcap,hh⟩:=G.slI;exact⟨ad,c,rfl,f.1,by omega,qTr y.slB f.1 (by omega) f.2 hh⟩
 | st cs m=>
  simp only[jI,za]at hn;subst hn;simp only[nQ]at h;cases f:Nat.ble q j&&Nat.beq j m with
  | false=>simp[f]at h
  | true=>
   simp only[f,ze,za]at h;subst h;simp only[zd,Nat.ble_eq]at f;obtain⟨I,J⟩:=f;obtain rfl:=zY J;obtain⟨ad,rfl,hh⟩:=G.stI;exact⟨ad,j,rfl,I,Nat.le_refl _,zSs I (Nat.le_refl _) hh⟩
 | os i o m c=>
  simp only[jI,za]at hn;subst hn;simp only[nQ]at h;cases f:Nat.ble q j&&Nat.ble j c with
  | false=>simp[f]at h
  | true=>
   simp only[f,ze]at h;simp only[zd,Nat.ble_eq]at f;obtain⟨b,C,rfl,M⟩:=G.osI;refine⟨_,c,rfl,f.1,f.2,?_⟩;unfold ad';cases e:Nat.beq q c with
   | true=>
    simp only[e,ze,za]at h;subst h;rw[if_pos (Nat.eq_of_beq_eq_true e).symm];exact .os M
   | false=>
    simp only[e,zf,za]at h;subst h;rw[if_neg (fun U=>by subst U;simp at e),tQ];exact .os M
 | og i o m=>
  simp only[jI,za]at hn;subst hn;simp only[nQ]at h;obtain⟨b,C,c,rfl,M,hcap,S⟩:=G.ogI;have y:=G.ogB;cases f:Nat.ble q j&&(Nat.ble j m&&(Nat.blt q m&&Nat.blt 0 s))with
  | true=>
   simp only[f,ze,za]at h;subst h;simp only[zd,Nat.ble_eq,Nat.blt_eq]at f;refine⟨_,c,rfl,f.1,by omega,?_⟩
   unfold ad';rw[if_neg (by omega),tQ]
   refine .og M (by omega) (fun e=>?_) (Nat.le_trans (Nat.sub_le _ _) y)
   have I:o=0:=by omega
   have J:q*s=0:=by omega
   have V:q=0:=by
    rcases Nat.mul_eq_zero.1 J with h | h
    ·exact h
    ·omega
   rw[V,Nat.sub_zero];exact S I
  | false=>
   simp only[f,zf]at h;cases z:Nat.beq q 0&&Nat.beq j 0 with
   | false=>
    simp only[z,zf]at h;cases N:Nat.beq q j&&Nat.ble j m with
    | false=>simp[N]at h
    | true=>
     simp only[N,ze,za]at h;subst h;simp only[zd,Nat.ble_eq]at N;obtain rfl:=zY N.1;refine⟨_,c,rfl,Nat.le_refl _,by omega,?_⟩
     rw[Nat.sub_self];exact .sl0 (Nat.le_trans (Nat.sub_le _ _) y)
   | true=>
    simp only[z,ze,za]at h;subst h;simp only[zd]at z;obtain rfl:=zY z.1;obtain rfl:=zY z.2;refine⟨_,c,rfl,Nat.le_refl _,Nat.zero_le _,?_⟩;unfold ad';have:(if c=0 then some (⟨b,o,none⟩:Addr)else(some (⟨b,o,none⟩:Addr)).map (·.add (0*s)))=some ⟨b,o,none⟩:=by
     split
     ·rfl
     ·rw[tQ];simp
    rw[this];exact .og M (Nat.zero_le _) S y
 | v x=>
  obtain⟨rfl,_⟩:=G.vI;unfold nQ at h;split at h<;>(try (rename_i e;cases e;done))<;>(try cases h)
  rename_i e;cases e;cases z:Nat.beq j 0&&Nat.beq q 0 with
  | false=>simp[z]at h
  | true=>
   simp only[z,ze,za]at h;subst h;simp only[zd]at z;obtain rfl:=zY z.1;obtain rfl:=zY z.2;simp only[jI,za]at hn;subst hn;exact⟨none,0,rfl,Nat.le_refl _,Nat.le_refl _,.v rfl⟩
 | sn=>simp[nQ]at h
 | ls g A l=>
  simp only[jI,za]at hn;subst hn;simp only[nQ]at h;cases f:Nat.beq s A.size&&(Nat.ble q j&&Nat.ble j l.length)with
  | false=>simp[f]at h
  | true=>
   simp only[f,ze,za]at h;subst h;simp only[zd,Nat.ble_eq]at f;obtain⟨hs,I,J⟩:=f;obtain rfl:=zY hs;have R:=G;obtain⟨ad,c,rfl,hn,W,hh⟩:=G.lsI;refine⟨ad,c,rfl,I,by omega,?_⟩
   by_cases e:q=j
   ·subst e;rw[Nat.sub_self,List.take_zero];exact .ls ⟨_,c-q,rfl,Nat.zero_le _,by omega,.inl rfl⟩
   ·rcases hh with rfl | ⟨b,o,rfl,_,_⟩
    ·simp at J;omega
    ·unfold ad';rw[if_neg (by omega),tQ]
     exact R.lsP (by omega)
 | hv A l=>cases h
 | _=>cases hn
theorem qAb{x t:T}{y q j s n:Nat}{v:Value}(hn:jI x=some n)(h:lX x y q j s=some t)(G:Rep B r x v):
  ∃ad c,v= .slice ad n c∧y≤q∧q≤j∧j≤c∧Rep B r t (.slice (ad' ad j y s) (q-y) (j-y)):=by
 cases x with
 | sl cs m=>
  simp only[jI,za]at hn;subst hn;simp only[lX]at h;cases f:Nat.ble y q&&(Nat.beq q j&&Nat.ble j m)with
  | false=>simp[f]at h
  | true=>
   simp only[f,ze,za]at h;subst h;simp only[zd,Nat.ble_eq]at f;obtain⟨z,J,M⟩:=f;obtain rfl:=zY J;obtain⟨ad,c,rfl,hcap,hh⟩:=G.slI;exact⟨ad,c,rfl,z,Nat.le_refl _,by omega,zSs z M hh⟩
 | st cs m=>
  simp only[jI,za]at hn;subst hn;simp only[lX]at h;cases f:Nat.ble y q&&(Nat.beq q j&&Nat.ble j m)with
  | false=>simp[f]at h
  | true=>
   simp only[f,ze,za]at h;subst h;simp only[zd,Nat.ble_eq]at f;obtain⟨z,J,M⟩:=f;obtain rfl:=zY J;obtain⟨ad,rfl,hh⟩:=G.stI;exact⟨ad,m,rfl,z,Nat.le_refl _,M,zSs z M hh⟩
 | os i o m c=>
  simp only[jI,za]at hn;subst hn;simp only[lX]at h;cases f:Nat.ble y q&&(Nat.ble q j&&Nat.ble j c)with
  | false=>simp[f]at h
  | true=>
   simp only[f,ze,za]at h;subst h;simp only[zd,Nat.ble_eq]at f;obtain⟨b,C,rfl,N⟩:=G.osI;refine⟨_,c,rfl,f.1,f.2.1,f.2.2,?_⟩;unfold ad';cases e:Nat.beq y j with
   | true=>rw[if_pos (zY e).symm];exact .os N
   | false=>rw[if_neg (fun R=>by subst R;simp at e),tQ];exact .os N
 | og i o m=>
  simp only[jI,za]at hn;subst hn;simp only[lX]at h;obtain⟨b,C,c,rfl,N,hcap,U⟩:=G.ogI;have S:=G.ogB;cases f:Nat.ble y q&&(Nat.ble q j&&Nat.ble j m)with
  | false=>simp[f]at h
  | true=>
   simp only[f,ze,za]at h;subst h;simp only[zd,Nat.ble_eq]at f;refine⟨_,c,rfl,f.1,f.2.1,by omega,?_⟩
   unfold ad';cases e:Nat.beq y j with
   | true=>rw[if_pos (zY e).symm];exact .os N
   | false=>rw[if_neg (fun R=>by subst R;simp at e),tQ];exact .os N
 | v x=>
  obtain⟨rfl,_⟩:=G.vI;unfold lX at h;split at h<;>(try (rename_i e;cases e;done))<;>(try cases h)
  rename_i e;cases e;cases I:Nat.beq q 0&&(Nat.beq y 0&&Nat.beq j 0)with
  | false=>simp[I]at h
  | true=>
   simp only[I,ze,za]at h;subst h;simp only[zd]at I;obtain rfl:=zY I.1;obtain rfl:=zY I.2.1;obtain rfl:=zY I.2.2;simp only[jI,za]at hn;subst hn;exact⟨none,0,rfl,Nat.le_refl _,Nat.le_refl _,Nat.le_refl _,.v rfl⟩
 | sn=>simp[lX]at h
 | ls g A l=>
  simp only[jI,za]at hn;subst hn;simp only[lX]at h;cases f:(Nat.beq y q&&Nat.beq q j)&&Nat.ble j l.length with
  | false=>simp[f]at h
  | true=>
   simp only[f,ze,za]at h;subst h;simp only[zd,Nat.ble_eq]at f;obtain⟨⟨z,J⟩,M⟩:=f;obtain rfl:=zY z;obtain rfl:=zY J;obtain⟨ad,c,rfl,hn,V,hh⟩:=G.lsI;refine⟨ad,c,rfl,Nat.le_refl _,Nat.le_refl _,by omega,?_⟩
   rw[Nat.sub_self];exact .st0
 | hv A l=>cases h
 | _=>cases hn
theorem zOh{t:Option T}{x:T×Option TO}(h:qAg t=some x):∃q,t=some q∧x=(q,none):=by
 cases t with
 | none=>cases h
 | some q=>cases h;exact⟨q,rfl,rfl⟩
theorem qGh{f:Option Operand}{d l:Nat}(e:∀x,Rep B r (ρT x) (ρ x))(h:opt ρT d f=some l):Bd ρ d l f:=by
 cases f with
 | none=>simp only[opt,za]at h;exact h.symm
 | some a=>exact wX h (e a)
theorem zZv(f:∀x,Rep B r (ρT x) (ρ x)){t:TypeId}{x:Operand}{J A M:Option Operand}(ho:o.op= .slice t x J A M){z:T×Option TO}(h:nN P t (ρT x) ρT J A M=some z):Ans P w ρ o B r k z:=by
 unfold nN at h;cases y:elT P t with
 | none=>simp[y]at h
 | some e=>
  cases C:ldT P e with
  | none=>simp[y,C]at h
  | some gs=>
   obtain⟨g,s⟩:=gs;cases hn:jI (ρT x)with
   | none=>simp[y,C,hn]at h
   | some n=>
    simp only[y,C,hn]at h;cases j:opt ρT 0 J with
    | none=>simp[j]at h
    | some l=>
     cases q:opt ρT n A with
     | none=>simp[j,q]at h
     | some hh=>
      have N:=qGh f j;have R:=qGh f q;cases M with
      | none=>
       simp only[j,q,tL]at h;obtain⟨tu,I,rfl⟩:=zOh h;obtain⟨ad,c,hv,k1,k2,k3⟩:=qAc hn I (f x);exact⟨_,zXj (m:=c) (l:=l) (h:=hh) ho (wG y) C hv N R rfl (fun _=>rfl) k1 (.inl k2) (Nat.le_refl _) w,k3⟩
      | some S=>
       cases G:rV (ρT S)with
       | none=>cases A<;>simp[j,q,G,tL]at h
       | some m=>
        cases A with
        | none=>simp[j,q,tL]at h
        | some a=>
        simp only[j,q,G,tL]at h;obtain⟨tu,I,rfl⟩:=zOh h;obtain⟨ad,c,hv,k1,k2,k3,U⟩:=qAb hn I (f x);exact⟨_,zXj (m:=m) (l:=l) (h:=hh) ho (wG y) C hv N R (wX G (f S)) (fun e=>nomatch e) k1 (.inl k2) k3 w,U⟩
end
section
variable {P:Program}{E:Nat→Prop}{w0:World}{X:Hid}{F:List Nat}{H:List TO}{B:Bm}{w:World}{Y:Hid}{Mo:List (Nat×Obj)}{ρ:Operand→Value}{ρT:Operand→T}{o:Oper}{r:Rd}{k:Nat}
theorem zJz{s f a t:Nat}(h:zYy P s f=some (a,t)):∃e x,P.underlying s=some (.struct e)∧e[f]?=some x∧x.offset=a∧x.type=t:=by
 unfold zYy at h;split at h
 ·rename_i e hs;cases j:e[f]? with
  | none=>simp[j]at h
  | some x=>simp only[j,za,Prod.mk.injEq]at h;exact⟨e,x,hs,j,h.1,h.2⟩
 ·cases h
theorem zJg(J:∀x,Rep B r (ρT x) (ρ x)){s:TypeId}{x:Operand}{f:Nat}(ho:o.op= .fieldAddr s x f){z:T×Option TO}(h:lS P s (ρT x) f=some z):Ans P w ρ o B r k z:=by
 have A:=J x;unfold lS at h;cases y:zYy P s f with
 | none=>simp[y]at h
 | some at_=>
  obtain⟨a,t⟩:=at_;cases G:ldT P t with
  | none=>simp[y,G]at h
  | some gs=>
   obtain⟨g,n⟩:=gs;simp only[y,G]at h;cases hn:Nat.beq n 0 with
   | true=>simp[hn]at h
   | false=>
    have I:n≠0:=fun e=>by subst e;simp at hn
    simp only[hn,zf]at h;obtain⟨W,fld,M,N,R,S⟩:=zJz y;have run:∀b q,ρ x= .pointer (some ⟨b,q,none⟩)→(execOp ρ o).run P w= .ok (.value (.pointer (some ⟨b,q+a,none⟩))) w:=fun b q hv=>by
     unfold execOp;simp only[ho,hv,Instr.fieldAt,Instr.sureAddr,fieldPlace,underlying,M,N,R,S,Sem.run_bind,Sem.run_pure,run_program,Result.andThen_ok,Gv.run_sizeOf G,I,if_false,jO]
    split at h
    ·rename_i i j e;rw[e]at A;obtain⟨b,C,hv,U⟩:=A.opI;exact qE h ⟨_,run _ _ hv,.op U⟩
    ·rename_i cs e;rw[e]at A;obtain⟨b,q,hv,V⟩:=A.fpI;exact qE h ⟨_,run _ _ hv,(V.drop a).fp⟩
    ·cases h
theorem zRb{t:TypeId}{g:Bool}{s a:Nat}{vs:List Value}(j:ldT P t=some (g,s))(q:g=true∨((vs.drop a).take s).length=1)(hs:((vs.drop a).take s).length=s)(w:World):(part t vs.toArray a).run P w= .ok (ldV g ((vs.drop a).take s)) w:=by
 unfold part;simp only[Sem.run_bind,zLa j,Result.andThen_ok];cases g with
 | true=>
  simp only[if_true,Sem.run_bind,Gv.run_sizeOf j,Result.andThen_ok,Sem.run_pure,ldV,ze];congr 2;apply Array.ext';simp[Nat.add_sub_cancel_left]
 | false=>
  have f:((vs.drop a).take s).length=1:=by simpa using q
  have:s=1:=hs.symm.trans f;subst this;have hlt:a<vs.length:=by
   rcases Nat.lt_or_ge a vs.length with h | h
   ·exact h
   ·rw[List.drop_eq_nil_of_le h]at f;simp at f
  have e:(vs.drop a).take 1=[vs[a]]:=by
   rw[List.drop_eq_getElem_cons hlt];rfl
  rw[e];simp[hlt,ldV,Sem.run_pure]
theorem zZu(A:∀x,Rep B r (ρT x) (ρ x)){s:TypeId}{x:Operand}{f:Nat}(ho:o.op= .field s x f){z:T×Option TO}(h:zNd P s (ρT x) f=some z):Ans P w ρ o B r k z:=by
 have G:=A x;unfold zNd at h;cases q:zYy P s f with
 | none=>simp[q]at h
 | some at_=>
  obtain⟨a,t⟩:=at_;simp only[q]at h;split at h
  ·rename_i cs e;rw[e]at G;cases j:ldT P t with
   | none=>simp[j]at h
   | some gs=>
    obtain⟨g,n⟩:=gs;cases ht:jN n (jJ cs a)with
    | none=>simp[j,ht]at h
    | some us=>
     simp only[j,ht]at h;cases y:g||Nat.beq n 1 with
     | false=>simp[y]at h
     | true=>
      simp only[y,ze]at h;obtain⟨vs,hv,V⟩:=G.agI;obtain⟨R,C⟩:=zO.take (V.drop a) ht;obtain⟨S,U⟩:=zFr C y R;obtain⟨W,fld,I,J,M,N⟩:=zJz q;refine qE h ⟨_,?_,S⟩;unfold execOp;simp only[ho,hv,Instr.field,asAgg,underlying,I,J,M,N,Sem.run_bind,Sem.run_pure,run_program,Result.andThen_ok,zRb j U C]
  ·cases h
theorem zQm(M:∀x,Rep B r (ρT x) (ρ x)){t:TypeId}{x N:Operand}(ho:o.op= .indexAddr t x N){z:T×Option TO}(h:sJ P t (ρT x) (ρT N)=some z):Ans P w ρ o B r k z:=by
 have f:=M x;unfold sJ at h;cases S:rV (ρT N)with
 | none=>simp[S]at h
 | some i=>
  simp only[S]at h;obtain⟨kd,hv⟩:=wX S (M N);split at h
  ·rename_i e ht;cases G:ldT P e with
   | none=>simp[G]at h
   | some gs=>
    obtain⟨g,s⟩:=gs;simp only[G]at h;have run:∀b off n c,ρ x= .slice (some ⟨b,off,none⟩) n c→i<n→(execOp ρ o).run P w= .ok (.value (.pointer (some ⟨b,off+i*s,none⟩))) w:=fun b off n c hs hlt=>jF ho ht hs hv G (by omega) (by omega) (by simp) w
    split at h
    ·rename_i cs n q;rw[q]at f;cases hb:Nat.blt i n with
     | false=>simp[hb]at h
     | true=>
      simp only[hb,ze]at h;rw[Nat.blt_eq]at hb;obtain⟨ad,c,hs,_,hh⟩:=f.slI;rcases hh with⟨rfl,_⟩ | ⟨b,off,rfl,y⟩
      ·omega
      ·exact qE h ⟨_,run _ _ _ _ hs hb,(y.drop _).fp⟩
    ·rename_i cs n q;rw[q]at f;cases hb:Nat.blt i n with
     | false=>simp[hb]at h
     | true=>
      simp only[hb,ze]at h;rw[Nat.blt_eq]at hb;obtain⟨ad,hs,hh⟩:=f.stI;rcases hh with⟨rfl,_⟩ | ⟨b,off,rfl,y⟩
      ·omega
      ·exact qE h ⟨_,run _ _ _ _ hs hb,(y.drop _).fp⟩
    ·rename_i j off n c q;rw[q]at f;cases hb:Nat.blt i n with
     | false=>simp[hb]at h
     | true=>
      simp only[hb,ze]at h;rw[Nat.blt_eq]at hb;obtain⟨b,C,hs,J⟩:=f.osI;exact qE h ⟨_,run _ _ _ _ hs hb,.op J⟩
    ·rename_i j off n q;rw[q]at f;cases hb:Nat.blt i n with
     | false=>simp[hb]at h
     | true=>
      simp only[hb,ze]at h;rw[Nat.blt_eq]at hb;obtain⟨b,C,c,hs,J,_⟩:=f.ogI;exact qE h ⟨_,run _ _ _ _ hs hb,.op J⟩
    ·rename_i W A l q;rw[q]at f;cases hb:Nat.beq s A.size&&Nat.blt i l.length with
     | false=>simp[hb]at h
     | true=>
      simp only[hb,ze]at h;simp only[zd,Nat.blt_eq]at hb;obtain rfl:=zY hb.1;obtain⟨ad,c,hs,_⟩:=f.lsI;obtain⟨b,o,V,R,I,y⟩:=f.lsE hb.2;rw[I]at hs;cases hs;exact qE h ⟨_,run _ _ _ _ I hb.2,y.fp⟩
    ·rename_i A l q;rw[q]at f;cases hb:Nat.beq s A.size&&Nat.blt i l.length with
     | false=>simp[hb]at h
     | true=>
      simp only[hb,ze]at h;simp only[zd,Nat.blt_eq]at hb;obtain rfl:=zY hb.1;obtain⟨ad,c,hs,_⟩:=f.hvI;obtain⟨b,o,V,R,I,y⟩:=f.hvE hb.2;rw[I]at hs;cases hs;exact qE h ⟨_,run _ _ _ _ I hb.2,y.fp⟩
    ·cases h
  ·rename_i n e ht;cases G:ldT P e with
   | none=>simp[G]at h
   | some gs=>
    obtain⟨g,s⟩:=gs;simp only[G]at h;have run:∀b off,ρ x= .pointer (some ⟨b,off,none⟩)→i<n→(execOp ρ o).run P w= .ok (.value (.pointer (some ⟨b,off+i*s,none⟩))) w:=fun b off hs hlt=>by
     have U:(0:Int)≤(i:Int):=by omega
     have R:(i:Int)<(n:Int):=by omega
     unfold execOp;simp only[ho,hs,hv,Instr.indexAt,asIntOf,underlying,Instr.sureAddr,ht,Sem.run_bind,Sem.run_pure,run_program,Result.andThen_ok,U,R,and_self,if_true,Gv.run_sizeOf G,jO,Int.toNat_natCast]
    split at h
    ·rename_i j off q;rw[q]at f;cases hb:Nat.blt i n with
     | false=>simp[hb]at h
     | true=>
      simp only[hb,ze]at h;rw[Nat.blt_eq]at hb;obtain⟨b,C,hs,J⟩:=f.opI;exact qE h ⟨_,run _ _ hs hb,.op J⟩
    ·rename_i cs q;rw[q]at f;cases hb:Nat.blt i n with
     | false=>simp[hb]at h
     | true=>
      simp only[hb,ze]at h;rw[Nat.blt_eq]at hb;obtain⟨b,off,hs,y⟩:=f.fpI;exact qE h ⟨_,run _ _ hs hb,(y.drop _).fp⟩
    ·cases h
  ·cases h
theorem qNq(q:∀x,Rep B r (ρT x) (ρ x)){t:TypeId}{x A:Operand}(ho:o.op= .index t x A){z:T×Option TO}(h:qNp P t (ρT x) (ρT A)=some z):Ans P w ρ o B r k z:=by
 have I:=q x;unfold qNp at h;cases C:rV (ρT A)with
 | none=>simp[C]at h
 | some i=>
  simp only[C]at h;obtain⟨kd,hv⟩:=wX C (q A);split at h
  ·rename_i n e ht;cases y:ldT P e with
   | none=>simp[y]at h
   | some gs=>
    obtain⟨g,s⟩:=gs;simp only[y]at h;split at h
    ·rename_i cs N;rw[N]at I;cases j:Nat.blt i n&&(g||Nat.beq s 1)with
     | false=>simp[j]at h
     | true=>
      simp only[j,ze]at h;simp only[zd]at j;cases f:jN s (jJ cs (i*s))with
      | none=>simp[f]at h
      | some us=>
       simp only[f]at h;obtain⟨vs,hs,V⟩:=I.agI;obtain⟨R,G⟩:=zO.take (V.drop (i*s)) f;obtain⟨S,U⟩:=zFr G j.2 R;have hlt:=j.1;rw[Nat.blt_eq]at hlt;have J:(0:Int)≤(i:Int):=by omega
       have M:(i:Int)<(n:Int):=by omega
       refine qE h ⟨_,?_,S⟩;unfold execOp;simp only[ho,hs,hv,Instr.index,asIntOf,underlying,ht,Sem.run_bind,Sem.run_pure,run_program,Result.andThen_ok,J,M,and_self,if_true,Gv.run_sizeOf y,Int.toNat_natCast,zRb y U G]
    ·cases h
  ·cases h
theorem zBk:∀{ts:List T}{vs:List Value}{cs:List T}{c:List Value}(o:Nat),zO B r ts vs→zO B r cs c→zO B r (jR cs o ts) ((vs.zipIdx o).foldl (fun c p=>c.set p.2 p.1) c)
 | [],[],_,_,_,_,h=>h
 | t::ts,v::vs,cs,c,o,k,h=>by
  simp only[jR,List.zipIdx_cons,List.foldl_cons];exact zBk (o+1) k.2 (h.put o k.1)
 | [],_::_,_,_,_,k,_=>k.elim
 | _::_,[],_,_,_,k,_=>k.elim
theorem zKb(off:Nat):∀(l:List (Value×Nat))(c:Array Value),(l.foldl (fun cs p=>cs.setIfInBounds (off+p.2) p.1) c).toList=(l.map fun p=>(p.1,off+p.2)).foldl (fun c p=>c.set p.2 p.1) c.toList
 | [],_=>rfl
 | p::l,c=>by
  simp only[List.foldl_cons,List.map_cons];rw[zKb off l];simp
theorem zYj(off:Nat):∀(l:List Value)(k:Nat),((l.zipIdx k).map fun p=>(p.1,off+p.2))=l.zipIdx (off+k)
 | [],_=>rfl
 | x::l,k=>by
  simp only[List.zipIdx_cons,List.map_cons,zYj off l (k+1)];rfl
theorem qKr(off:Nat)(v c:Array Value):(v.zipIdx.foldl (fun cs(p:Value×Nat)=>cs.setIfInBounds (off+p.2) p.1) c).toList=(v.toList.zipIdx off).foldl (fun c p=>c.set p.2 p.1) c.toList:=by
 rw[←Array.foldl_toList,zKb,Array.toList_zipIdx,zYj];rfl
theorem zMe{pl:Nat→Option (Nat×Nat)}(q:∀x,Rep B r (ρT x) (ρ x)):∀(ps:List (Nat×Operand)){cs us:List T}{c:Array Value},zO B r cs c.toList→zEh pl cs (ps.map fun p=>(p.1,ρT p.2))=some us→∃c',Instr.fill pl c (ps.map fun p=>(p.1,ρ p.2))=some c'∧zO B r us c'.toList
 | [],cs,us,c,h,e=>by
  simp only[List.map_nil,zEh,za]at e;subst e;exact⟨c,rfl,h⟩
 | (i,x)::ps,cs,us,c,h,e=>by
  simp only[List.map_cons,zEh]at e;cases hp:pl i with
  | none=>simp[hp]at e
  | some os=>
   obtain⟨off,s⟩:=os;simp only[hp]at e;cases j:!isU (ρT x)&&(Nat.beq (ln (cellsOf (ρT x))) s&&Nat.ble (off+s) (ln cs))with
   | false=>simp[j]at e
   | true=>
    simp only[j,ze]at e;simp only[zd,Bool.not_eq_true',Nat.ble_eq,qU]at j;have y:=(q x).cells (qEm j.1);have z:(ρ x).cells.size=s:=by rw[←zY j.2.1,y.length];simp
    have G:off+s≤c.size:=by
     have:=j.2.2;rw[h.length]at this;simpa using this
    have f:=zBk off y h;rw[←qKr]at f;obtain⟨c',A,C⟩:=zMe q ps f e;refine⟨c',?_,C⟩;simp only[List.map_cons,Instr.fill,hp];rw[if_neg (by simp[z];omega)]
    exact A
theorem zRc(w:World):∀{l:List Field}{q:List (Nat×Nat)},zUd P l=some q→(l.mapM fun f=>(do pure (f.offset,←sizeOf f.type):Sem (Nat×Nat))).run P w= .ok q w
 | [],q,h=>by simp only[zUd,za]at h;subst h;rfl
 | f::l,q,h=>by
  simp only[zUd]at h;cases e:ldT P f.type with
  | none=>simp[e]at h
  | some gs=>
   obtain⟨g,s⟩:=gs;cases j:zUd P l with
   | none=>simp[e,j]at h
   | some y=>
    simp only[e,j,za]at h;subst h;simp only[List.mapM_cons,Sem.run_bind,Gv.run_sizeOf e,Result.andThen_ok,Sem.run_pure,zRc w j]
theorem zZt(J:∀x,Rep B r (ρT x) (ρ x)){t:TypeId}{ps:Array (Nat×Operand)}(ho:o.op= .build t ps){z:T×Option TO}(h:zUa P t (evP ρT ps)=some z):Ans P w ρ o B r k z:=by
 unfold zUa at h;cases f:zer P t with
 | none=>simp[f]at h
 | some zs=>
  cases hp:qHe P t with
  | none=>simp[f,hp]at h
  | some pl=>
   simp only[f,hp]at h;cases A:zEh pl zs (evP ρT ps)with
   | none=>simp[A]at h
   | some us=>
    simp only[A]at h;obtain⟨i0,zv,M,N,rfl⟩:=lF f;obtain⟨c',R,U⟩:=zMe J ps.toList (mU zv.cells.toList) A;have S:(ps.map fun p=>(p.1,ρ p.2)).toList=ps.toList.map fun p=>(p.1,ρ p.2):=by simp
    refine qE h ⟨.agg c',?_,by have:=Rep.mkAg U;simpa using this⟩
    unfold qHe at hp;unfold execOp;split at hp
    ·rename_i j hs;cases I:zUd P j.toList with
     | none=>simp[I]at hp
     | some q=>
      simp only[I,za]at hp;subst hp;have C:j=j.toList.toArray:=by simp
      have y:Instr.fill (fun x=>q.toArray[x]?) zv.cells (ps.toList.map fun p=>(p.1,ρ p.2))=some c':=by
       simpa using R
      simp only[ho,Instr.build,Sem.run_bind,mW M N,Result.andThen_ok,underlying,hs,run_program,Sem.run_pure];rw[C];simp only[List.mapM_toArray,Sem.run_map,zRc w I,Result.andThen_ok,Sem.run_bind,S];rw[y];rfl
    ·rename_i n e hs;cases G:ldT P e with
     | none=>simp[G]at hp
     | some gs=>
      obtain⟨g,s⟩:=gs;simp only[G,za]at hp;subst hp;simp only[ho,Instr.build,Sem.run_bind,mW M N,Result.andThen_ok,underlying,hs,run_program,Sem.run_pure,Gv.run_sizeOf G,S];rw[R];rfl
    ·cases hp
def zQx(l:List Value):Nat→List Value
 | 0=>[]
 | n+1=>l++zQx l n
theorem zIf(l:List Value):∀n,zO B r (reps (l.map ofV) n) (zQx l n)
 | 0=>trivial
 | n+1=>(mU l).app (zIf l n)
theorem zQz(l:List Value):∀n,(zQx l n).length=n*l.length
 | 0=>by simp[zQx]
 | n+1=>by simp only[zQx,List.length_append,zQz l n];rw[Nat.succ_mul];omega
theorem zQy(l:List Value):∀(n j:Nat),j<n*l.length→(zQx l n)[j]?=l[j % l.length]?
 | 0,j,h=>by simp at h
 | n+1,j,h=>by
  simp only[zQx];rcases Nat.lt_or_ge j l.length with e | e
  ·rw[List.getElem?_append_left e,Nat.mod_eq_of_lt e]
  ·rw[List.getElem?_append_right e,zQy l n _ (by rw[Nat.succ_mul]at h;omega)]
   rw[←Nat.mod_eq_sub_mod e]
theorem zWi(z:Array Value)(n:Nat)(q:0<z.size):(madeCells z (n*z.size)).toList=zQx z.toList n:=by
 apply List.ext_getElem?;intro j;by_cases e:j<n*z.size
 ·rw[zQy _ _ _ (by simpa using e)]
  have f:j % z.size<z.size:=Nat.mod_lt _ q;simp[madeCells,e,f]
 ·rw[List.getElem?_eq_none (by simp[size_madeCells];omega),List.getElem?_eq_none (by rw[zQz];simp;omega)]
theorem qGy(C:∀x,Rep B r (ρT x) (ρ x)){t:TypeId}{l c:Operand}(ho:o.op= .makeSlice t l c){z:T×Option TO}(h:qGx P k t (ρT l) (ρT c)=some z):Ans P w ρ o B r k z:=by
 unfold qGx at h;cases q:elT P t with
 | none=>simp[q]at h
 | some e=>
  cases y:rV (ρT l)with
  | none=>simp[q,y]at h
  | some nl=>
   cases A:rV (ρT c)with
   | none=>simp[q,y,A]at h
   | some j=>
    cases G:zer P e with
    | none=>simp[q,y,A,G]at h
    | some zs=>
     cases hd:ldT P e with
     | none=>simp[q,y,A,G,hd]at h
     | some gs=>
      obtain⟨g,s⟩:=gs;obtain⟨i0,zv,J,S,rfl⟩:=lF G;simp only[q,y,A,G,hd,J]at h;cases f:(Nat.ble nl j&&Nat.ble j 1000000)&&(Nat.ble i0.bytes 1000000&&(Nat.beq (ln (zv.cells.toList.map ofV)) s&&Nat.blt 0 s))with
      | false=>simp[f]at h
      | true=>
       simp only[f,ze,za]at h;subst h;simp only[zd,Nat.ble_eq,Nat.blt_eq,qU,List.length_map,Array.length_toList]at f;obtain⟨⟨c1,M⟩,N,I,c5⟩:=f;have I:=zY I;obtain⟨i1,d1,g1,_,R,_⟩:=fM hd;rw[J]at g1;cases g1;obtain⟨V,Z⟩:=wX y (C l);obtain⟨U,W⟩:=wX A (C c);have hb:(i0.bytes:Int)*(j:Int)≤281474976710656:=by
        have:i0.bytes*j≤1000000*1000000:=Nat.mul_le_mul N M;have h':((i0.bytes*j:Nat):Int)≤281474976710656:=by omega
        rwa[Int.natCast_mul]at h'
       refine⟨0,.cells (madeCells zv.cells (j*i0.size)) e (0,0),fun n=> .slice (some ⟨n,0,none⟩) nl j,fun w'=>?_,rfl,.row ?_,fun b=> .os (qJ _ _ _)⟩
       ·have hr:=run_make (P:=P) w' t e i0 zv (wG q) J S V U (nl:Int) (j:Int) (by omega) (by omega) hb (by omega)
        unfold execOp;simp only[ho,Z,W,hr,Sem.run_bind,Sem.run_pure,Result.andThen_ok,Int.toNat_natCast]
       ·rw[R,←I,zWi _ _ (by omega)]
        exact zIf _ _
theorem zHu(J:∀x,Rep B r (ρT x) (ρ x)){t:TypeId}{n:Nat}{ps:Array (Nat×Operand)}(ho:o.op= .buildSlice t n ps){z:T×Option TO}(h:dA P k t n (evP ρT ps)=some z):Ans P w ρ o B r k z:=by
 unfold dA at h;cases q:elT P t with
 | none=>simp[q]at h
 | some e=>
  cases y:zer P e with
  | none=>simp[q,y]at h
  | some zs=>
   cases hd:ldT P e with
   | none=>simp[q,y,hd]at h
   | some gs=>
    obtain⟨g,s⟩:=gs;obtain⟨i0,zv,R,S,rfl⟩:=lF y;simp only[q,y,hd]at h;cases f:Nat.ble (n*s) 16777216&&(Nat.beq (ln (zv.cells.toList.map ofV)) s&&Nat.blt 0 s)with
    | false=>simp[f]at h
    | true=>
     simp only[f,ze]at h;simp only[zd,Nat.ble_eq,Nat.blt_eq,qU,List.length_map,Array.length_toList]at f;obtain⟨V,A,W⟩:=f;have A:=zY A;cases G:zEh (fun i=>some (i*s,s)) (reps (zv.cells.toList.map ofV) n) (evP ρT ps)with
     | none=>simp[G]at h
     | some us=>
      simp only[G,za]at h;subst h;have I:zO B r (reps (zv.cells.toList.map ofV) n) (madeCells zv.cells (n*s)).toList:=by
       rw[←A,zWi _ _ (by omega)];exact zIf _ _
      obtain⟨c',M,U⟩:=zMe J ps.toList I G;have N:(ps.map fun p=>(p.1,ρ p.2)).toList=ps.toList.map fun p=>(p.1,ρ p.2):=by simp
      refine⟨0,.cells c' e (0,0),fun b=> .slice (some ⟨b,0,none⟩) n n,fun w'=>?_,rfl,.row U,fun b=> .os (qJ _ _ _)⟩;have nb:¬n*s>2^24:=by omega
      unfold execOp;simp only[ho,Instr.buildSlice,underlying,wG q,run_program,Sem.run_bind,Sem.run_pure,Result.andThen_ok,Gv.run_sizeOf hd];rw[if_neg nb];by_cases C:n*s=0
      ·rw[if_pos C];have j:(Array.range (n*s)).map (fun x=>(#[]:Array Value)[x % (#[]:Array Value).size]!)=madeCells zv.cells (n*s):=by rw[C];simp[madeCells]
       simp only[Sem.run_bind,Sem.run_pure,Result.andThen_ok,j,N,M];rfl
      ·rw[if_neg C];have j:(Array.range (n*s)).map (fun x=>zv.cells[x % zv.cells.size]!)=madeCells zv.cells (n*s):=rfl;simp only[Sem.run_bind,mW R S,Sem.run_pure,Result.andThen_ok,j,N,M];rfl
theorem zXh(C:zIw B r w H)(A:∀x,Rep B r (ρT x) (ρ x)){z:T×Option TO}(h:kX P H k ρT o.op=some z):Ans P w ρ o B r k z:=by
 generalize j:o.op=op at h;cases op<;>simp only[kX]at h<;>try contradiction
 case move x=>exact qE h ⟨_,zVp (.inl j) w,A x⟩
 case assign x=>exact qE h ⟨_,zVp (.inr j) w,A x⟩
 case pick c a b=>exact qHa A j h
 case alloc e=>exact zZr j h
 case box e x=>exact qNo A j h
 case build t ps=>exact zZt A j h
 case buildSlice t n ps=>exact zHu A j h
 case load t a=>exact zQn C A j h
 case nilCheck x=>exact qNt A j h
 case binOp op t x y M=>exact qNn (ρT:=fun y=>dn (ρT y)) (fun y=>(A y).dn) j h
 case makeFunc fn first caps=>
  unfold pMkF at h;split at h
  ·rename_i e;obtain rfl:first=#[]:=Array.ext' (by simpa using e)
   exact qE h (zPu A j)
  ·split at h
   ·rename_i e;obtain rfl:caps=#[]:=Array.ext' (by simpa using e)
    exact qE h (zMt A j)
   ·cases h
  ·cases h
 case makeSlice t l c=>exact qGy A j h
 case slice t x I G J=>exact zZv (ρT:=fun y=>dn (ρT y)) (fun y=>(A y).dn) j h
 case fieldAddr s x f=>exact zJg A j h
 case field s x f=>exact zZu A j h
 case indexAddr t x i=>exact zQm (ρT:=fun y=>dn (ρT y)) (fun y=>(A y).dn) j h
 case index t x i=>exact qNq (ρT:=fun y=>dn (ρT y)) (fun y=>(A y).dn) j h
 case extract x i=>exact zQl A j h
 case call c=>exact qGs C (ρT:=fun y=>dn (ρT y)) (fun y=>(A y).dn) j h
 case lookup t m x ok=>exact zUc C A j h
 case makeMap t rs=>
  cases rs with
  | some q=>simp at h
  | none=>
   simp only[za]at h;subst h;refine⟨0,.map #[] 0,fun n=> .map (some n),fun w'=>?_,rfl,.map trivial rfl rfl,fun b=> .om (qJ _ _ _)⟩;unfold execOp;simp only[j,Instr.makeMap,Option.map_none,Sem.run_bind,Sem.run_pure,newObj];rfl
end
structure FrT(n:Nat)(a:Act)(L:List T)(D:List Deferred)(B:Bm)(r:Rd):Prop where
 size:a.tmps.size=n
 reps:zO B r L a.tmps.toList
 defers:a.defers=D
section
variable {P:Program}{E:Nat→Prop}{w0:World}{X:Hid}{F:List Nat}{H:List TO}{B B':Bm}{w:World}{Y:Hid}{Mo:List (Nat×Obj)}{o:Oper}{r r':Rd}{n:Nat}{a:Act}{L:List T}{D:List Deferred}{Q:Exit→Act→World→Prop}{K:Act→World→Prop}
theorem FrT.mono(h:FrT n a L D B r)(e:BLe B B')(hr:Le r r'):FrT n a L D B' r':=⟨h.size,h.reps.mono e hr,h.defers⟩
theorem FrT.rep(h:FrT n a L D B r)(x:Operand):Rep B r (evO L x) (a.eval x):=by
 cases x with
 | tmp t=>
  have:=h.reps.getD t;simpa[evO,Act.eval]using this
 | const v=>exact zBb v
 | global g=>exact .u
 | func f=>exact Rep.mkFn (vs:=[]) trivial
theorem FrT.put(h:FrT n a L D B r)(d:Option Nat){t:T}{v:Value}(k:Rep B r t v):FrT n (a.put d v) (dst d t L) D B r:=by
 cases d with
 | none=>exact h
 | some d=>
  refine⟨by simpa[Act.put]using h.size,?_,h.defers⟩
  have:=h.reps.put d k;simpa[Act.put,dst]using this
def nU(P:Program)(E:Nat→Prop)(w0:World)(X:Hid)(F:List Nat)(n:Nat)(D:List Deferred)(H:List TO)(L:List T)(B:Bm)(r:Rd)(K:Act→World→Prop):Prop:=
 ∀a' w' B' Y' e,Wd P E w0 X F H B' w' Y' e→FrT n a' L D B' (rd w' Y')→BLe B B'→Le r (rd w' Y')→K a' w'
theorem qNe(y:Wd P E w0 X F H B w Y Mo)(j:FrT n a L D B (rd w Y)){z:T×Option TO}{s:S}(h:kX P H (ln H) (evO L) o.op=some z)(hs:zOz o.dst L H z=some s)(I:nU P E w0 X F n D s.H s.L B (rd w Y) K):o.wp P a w K Q:=by
 have f:=zXh (ρ:=a.eval) y.hp j.rep h;rw[qU]at f;obtain⟨t,ob⟩:=z;unfold Oper.wp;cases ob with
 | none=>
  obtain⟨v,hr,q⟩:=f;rw[hr];simp only[zOz,za]at hs;subst hs;exact I _ _ _ _ _ y (j.put o.dst q) (BLe.refl B) (Le.refl _)
 | some ob=>
  obtain⟨C,obj,vf,hr,J,q,hv⟩:=f;rw[hr];simp only[zOz,za]at hs;subst hs;obtain⟨A,G⟩:=y.alloc J q;have e:=Le.hide_new (w:=w) (Y:=Y) obj;exact I _ _ _ _ _ A ((j.mono G e).put o.dst ((hv _).mono (BLe.refl _) e)) G e
theorem wO:∀{ts:List T}{vs:List Value}{cs:List T}{c:Array Value}(o:Nat),zO B r ts vs→zO B r cs c.toList→zO B r (jR cs o ts) (yD c o vs).toList
 | [],[],_,_,_,_,h=>h
 | t::ts,v::vs,cs,c,o,k,h=>by
  simp only[jR,yD];refine wO (o+1) k.2 ?_;have:=h.put o k.1;simpa using this
 | [],_::_,_,_,_,k,_=>k.elim
 | _::_,[],_,_,_,k,_=>k.elim
theorem nO(m:Nat):∀(vs:List Value)(c:Array Value)(o:Nat),(yD c o vs).toList.take m=(yD (c.toList.take m).toArray o vs).toList
 | [],c,o=>by simp[yD]
 | v::vs,c,o=>by
  simp only[yD];rw[nO m vs];congr 2;simp[List.take_set]
theorem qYk{t:T}{v:Value}(h:one t=true)(q:Rep B r t v):v.oneCell'=true:=by
 cases q<;>first | rfl | (simp[one]at h;done) | (rename_i f;obtain⟨_,_,e,_⟩:=f;cases e;rfl) | skip
 rename_i j;cases v<;>first | rfl | (simp[sc]at j)
theorem zFv:∀{ts:List T}{vs:List Value},vM ts=true→zO B r ts vs→∀v∈vs,v.oneCell'=true
 | [],[],_,_,v,h=>by cases h
 | t::ts,u::vs,h,k,v,hv=>by
  simp only[vM,zd]at h;rcases List.mem_cons.1 hv with rfl | hv
  ·exact qYk h.1 k.1
  ·exact zFv h.2 k.2 v hv
 | [],_::_,_,k,_,_=>k.elim
 | _::_,[],_,k,_,_=>k.elim
theorem lU:∀(ts cs:List T)(o:Nat),(jR cs o ts).length=cs.length
 | [],_,_=>rfl
 | t::ts,cs,o=>by rw[jR,lU ts,yJ];simp
theorem qCm{t:T}(h:vM (cellsOf t)=true):t≠.u:=fun e=>by subst e;simp[cellsOf,vM,one]at h
theorem qYo{t:TypeId}{xa j:Operand}(J:Wd P E w0 X F H B w Y Mo)(hF:FrT n a L D B (rd w Y))(ho:o.op= .store t xa j)(hd:o.dst=none){H':List TO}(h:qOl P H t (evO L xa) (evO L j)=some H')(N:nU P E w0 X F n D H' L B (rd w Y) K):o.wp P a w K Q:=by
 have ha:=hF.rep xa;have hv:=hF.rep j;unfold qOl at h;split at h
 ·rename_i g m i off hl e;rw[e]at ha;cases M:vM (cellsOf (evO L j))&&Nat.beq (ln (cellsOf (evO L j))) m with
  | false=>simp[M]at h
  | true=>
   simp only[M,ze]at h;simp only[zd,qU]at M;have y:=hv.cells (qCm M.1);have hm:(a.eval j).cells.size=m:=by rw[←zY M.2,y.length];simp
   obtain⟨b,C,hp,hB⟩:=ha.opI;have S:=zFv M.1 y;unfold qAa at h;rw[qX,zh]at h;have fin:∀(o' W:TO)(c:Array Value)(ty:TypeId),H[i]?=some o'→vL o'=true→(b,Obj.cells c ty (0,0))∈Mo→H'=H.set i W→vL W=true→off+(cellsOf (evO L j)).length≤c.size→
     (∀(w':World),Le (rd w Y) (rd w' Y)→RO P B (rd w' Y) C W (.cells (yD c off (a.eval j).cells.toList) ty (0,0)))→o.wp P a w K Q:=fun o' W c ty A hl G hH R hsz I=>by
    subst hH;obtain⟨q,hq⟩:=List.getElem?_of_mem G;have V:q<Mo.length:=(List.getElem?_eq_some_iff.1 hq).1;have U:(Mo++xF F)[q]?=some (b,.cells c ty (0,0)):=by rw[List.getElem?_append_left V];exact hq
    obtain⟨w',hr,e1,e2,e3,e4,e5,e6⟩:=kJ P (a.eval j).cells.toList c w off 0 (J.heap G) S (by rw[y.length]at hsz;simpa using hsz)
    rw[Nat.add_zero]at e5;have hS:=J.st.set q _ U (Nat.le_of_eq e4.symm) e1 e2 e3 e5 (fun k _ N=>e6 k N);rw[List.set_append_left _ _ V]at hS;have f:=J.st.le_set (w':=w') q U (fun k _ N=>e6 k N);unfold Oper.wp;have hx:(execOp a.eval o).run P w= .ok .skip w':=by
     unfold execOp;simp only[ho,hp,Instr.storeAt,Instr.sureAddr,storeVar,Sem.run_bind,Sem.run_pure,Result.andThen_ok,Gv.run_sizeOf (by assumption),hm,ne_eq,not_true_eq_false,if_false,hr]
    rw[hx];show K (a.put o.dst undef) w';rw[hd];exact N _ _ _ _ _ (J.set A hl hB hq hS f (fun cs e=>by rw[e]at R;cases R) (fun _=>I w' f)) (hF.mono (BLe.refl B) f) (BLe.refl B) f
   cases A:H[i]? with
   | none=>rw[A]at h;simp at h
   | some x=>
    rw[A]at h;cases x with
    | row cs ty=>
     simp only[Option.getD_some]at h;cases z:Nat.ble (off+ln (cellsOf (evO L j))) (ln cs)with
     | false=>simp[z]at h
     | true=>
      simp only[z,ze,za,yJ]at h;rw[Nat.ble_eq,qU,qU]at z;obtain⟨b',C',ob,g1,Z,g3⟩:=J.ob i _ A rfl;rw[hB]at g1;cases g1;cases g3 with
      | @row _ _ c I=>
       exact fin _ (.row (jR cs off (cellsOf (evO L j))) ty) c ty A rfl Z h.symm rfl (by rw[I.length]at z;simpa using z) fun w' f=> .row (wO off (y.mono (BLe.refl B) f) (I.mono (BLe.refl B) f))
    | gro cs ty=>
     simp only[Option.getD_some]at h;cases z:Nat.ble (off+ln (cellsOf (evO L j))) (ln cs.list)with
     | false=>simp[z]at h
     | true=>
      simp only[z,ze,za,yJ]at h;rw[Nat.ble_eq,qU,qU]at z;obtain⟨b',C',ob,g1,Z,g3⟩:=J.ob i _ A rfl;rw[hB]at g1;cases g1;cases g3 with
      | @gro _ _ c i0 q1 q2 q3 I=>
       have hlen:cs.list.length≤c.size:=by
        have:=I.length;simp at this;omega
       refine fin _ (.gro (.l (jR cs.list off (cellsOf (evO L j)))) ty) c ty A rfl Z h.symm rfl (by omega) fun w' f=> .gro q1 (by rw[nP];exact q2) q3 ?_
       show zO B _ (jR cs.list off (cellsOf (evO L j))) (List.take (jR cs.list off (cellsOf (evO L j))).length _);rw[lU,nO];exact wO off (y.mono (BLe.refl B) f) (by simpa using I.mono (BLe.refl B) f)
    | _=>simp at h
 ·cases h
theorem Wd.sto{i off b C:Nat}{ts:List T}{vs:List Value}{H':List TO}(J:Wd P E w0 X F H B w Y Mo)(Z:B i=some (b,C))(h:qAa H i off ts=some H')(j:zO B (rd w Y) ts vs)(h1:vM ts=true):∃w' G,(storeCells ⟨b,off,none⟩ vs).run P w= .ok () w'∧Wd P E w0 X F H' B w' Y G∧Le (rd w Y) (rd w' Y):=by
 have N:=zFv h1 j;unfold qAa at h;rw[qX,zh]at h;have fin:∀(o' U:TO)(c:Array Value)(ty:TypeId),H[i]?=some o'→vL o'=true→(b,Obj.cells c ty (0,0))∈Mo→H'=H.set i U→vL U=true→off+ts.length≤c.size→
   (∀(w':World),Le (rd w Y) (rd w' Y)→RO P B (rd w' Y) C U (.cells (yD c off vs) ty (0,0)))→∃w' G,(storeCells ⟨b,off,none⟩ vs).run P w= .ok () w'∧Wd P E w0 X F H' B w' Y G∧Le (rd w Y) (rd w' Y):=fun o' U c ty z hl A hH M hsz I=>by
  subst hH;obtain⟨q,hq⟩:=List.getElem?_of_mem A;have S:q<Mo.length:=(List.getElem?_eq_some_iff.1 hq).1;have R:(Mo++xF F)[q]?=some (b,.cells c ty (0,0)):=by rw[List.getElem?_append_left S];exact hq
  obtain⟨w',hr,e1,e2,e3,e4,e5,e6⟩:=kJ P vs c w off 0 (J.heap A) N (by rw[j.length]at hsz;simpa using hsz)
  rw[Nat.add_zero]at e5;have hS:=J.st.set q _ R (Nat.le_of_eq e4.symm) e1 e2 e3 e5 (fun k _ hk=>e6 k hk);rw[List.set_append_left _ _ S]at hS;have f:=J.st.le_set (w':=w') q R (fun k _ hk=>e6 k hk);exact⟨w',_,hr,J.set z hl Z hq hS f (fun cs e=>by rw[e]at M;cases M) (fun _=>I w' f),f⟩
 cases z:H[i]? with
 | none=>rw[z]at h;simp at h
 | some x=>
  rw[z]at h;cases x with
  | row cs ty=>
   simp only[Option.getD_some]at h;cases y:Nat.ble (off+ln ts) (ln cs)with
   | false=>simp[y]at h
   | true=>
    simp only[y,ze,za,yJ]at h;rw[Nat.ble_eq,qU,qU]at y;obtain⟨b',C',ob,g1,V,W⟩:=J.ob i _ z rfl;rw[Z]at g1;cases g1;cases W with
    | @row _ _ c I=>
     exact fin _ (.row (jR cs off ts) ty) c ty z rfl V h.symm rfl (by rw[I.length]at y;simpa using y) fun w' f=> .row (wO off (j.mono (BLe.refl B) f) (I.mono (BLe.refl B) f))
  | gro cs ty=>
   simp only[Option.getD_some]at h;cases y:Nat.ble (off+ln ts) (ln cs.list)with
   | false=>simp[y]at h
   | true=>
    simp only[y,ze,za,yJ]at h;rw[Nat.ble_eq,qU,qU]at y;obtain⟨b',C',ob,g1,V,W⟩:=J.ob i _ z rfl;rw[Z]at g1;cases g1;cases W with
    | @gro _ _ c i0 q1 q2 q3 I=>
     have hlen:cs.list.length≤c.size:=by
      have:=I.length;simp at this;omega
     refine fin _ (.gro (.l (jR cs.list off ts)) ty) c ty z rfl V h.symm rfl (by omega) fun w' f=> .gro q1 (by rw[nP];exact q2) q3 ?_
     show zO B _ (jR cs.list off ts) (List.take (jR cs.list off ts).length _);rw[lU,nO];exact wO off (j.mono (BLe.refl B) f) (by simpa using I.mono (BLe.refl B) f)
  | _=>simp at h
theorem lW{b:Nat}{es:Array MapEntry}{e:Nat}{ob:Obj}(h:w.heap[b]?=some (.map es e)):(setObj b ob).run P w= .ok () (w.putObj b ob):=by
 simp[setObj,Sem.run,h,World.putObj]
theorem xJ.app{l:List (Value×T)}{es:List MapEntry}{e:Value×T}{f:MapEntry}(h:xJ B r l es)(j:f.key=e.1)(q:Rep B r e.2 f.val):xJ B r (l++[e]) (es++[f]):=by
 induction l generalizing es with
 | nil=>cases es with
  | nil=>exact⟨j,q,trivial⟩
  | cons=>exact h.elim
 | cons x l z=>cases es with
  | nil=>exact h.elim
  | cons y es=>exact⟨h.1,h.2.1,z h.2.2⟩
theorem xJ.put:∀{l:List (Value×T)}{es:List MapEntry}(j:Nat){e:Value×T}{v:Value},xJ B r l es→Rep B r e.2 v→xJ B r (Ev.put e l j) (es.modify j fun f=>{f with key:=e.1,val:=v})
 | [],[],_,_,_,_,_=>by simp[qNz,xJ]
 | x::l,y::es,0,e,v,h,k=>by simpa[zQs]using⟨rfl,k,h.2.2⟩
 | x::l,y::es,j+1,e,v,h,k=>by simpa[zId]using⟨h.1,h.2.1,xJ.put j h.2.2 k⟩
 | [],_::_,_,_,_,h,_=>h.elim
 | _::_,[],_,_,_,h,_=>h.elim
theorem qYp{t:TypeId}{xm xk W:Operand}(hW:Wd P E w0 X F H B w Y Mo)(hF:FrT n a L D B (rd w Y))(ho:o.op= .mapUpdate t xm xk W)(hd:o.dst=none){H':List TO}(h:qOs P H t (evO L xm) (evO L xk) (evO L W)=some H')(hk:nU P E w0 X F n D H' L B (rd w Y) K):o.wp P a w K Q:=by
 have hm:=hF.rep xm;have hv:=hF.rep W;unfold qOs at h;split at h
 ·rename_i i em;rw[em]at hm;split at h
  ·rename_i l hn;split at h
   ·rename_i kt vt R ht hs;have hu:=mM ht;have hx:=zNm hs (hF.rep xk);cases z:jAq P kt R (evO L W) l with
    | none=>simp[z]at h
    | some l2=>
     simp only[z,za,yJ]at h;subst h;rw[qX,zh]at hn;have hi:H[i]?=some (.map l):=by
      cases hi:H[i]? with
      | none=>rw[hi]at hn;cases hn
      | some x=>rw[hi]at hn;simp at hn;rw[hn]
     obtain⟨b,C,hmv,hB⟩:=hm.omI;obtain⟨b',C',ob,g1,g2,g3⟩:=hW.ob i _ hi rfl;rw[hB]at g1;cases g1;cases g3 with
     | @map _ es I U M J=>
      have hb:=hW.heap g2;obtain⟨q,hq⟩:=List.getElem?_of_mem g2;have hql:q<Mo.length:=(List.getElem?_eq_some_iff.1 hq).1;have hq2:(Mo++xF F)[q]?=some (b,.map es I):=by rw[List.getElem?_append_left hql];exact hq
      have fin:∀(G:Array MapEntry)(A:Nat),xJ B (rd w Y) l2 G.toList→A=G.size→G.toList.map (·.born)=List.range G.size→(Instr.mapUpdate t (.map (some b)) R (a.eval W)).run P w= .ok () (w.putObj b (.map G A))→o.wp P a w K Q:=fun G A hR J2 hb2 hrun=>by
       obtain⟨hS,N⟩:=hW.st.putObj (o':= .map G A) q hq2;rw[List.set_append_left _ _ hql]at hS;have hW2:=hW.set hi rfl hB hq hS N (o':= .map l2) (fun cs e=>by cases e) (fun _=> .map (hR.mono (BLe.refl B) N) J2 hb2)
       have hx2:(execOp a.eval o).run P w= .ok .skip (w.putObj b (.map G A)):=by
        unfold execOp;simp only[ho,hmv,hx,Sem.run_bind,hrun,Result.andThen_ok,Sem.run_pure]
       unfold Oper.wp;rw[hx2];show K (a.put o.dst undef) _;rw[hd];exact hk _ _ _ _ _ hW2 (hF.mono (BLe.refl B) N) (BLe.refl B) N
      unfold jAq at z;cases Z:kOk P false kt R with
      | false=>simp[Z]at z
      | true=>
       simp only[Z,ze]at z;have Z:=zPo Z w;cases hf:zKg P kt R l with
       | none=>simp[hf]at z
       | some y=>
        simp only[hf]at z;rcases zPn (w:=w) U hf with⟨rfl,hr⟩ | ⟨j,e',f',rfl,h2,h3,hr,h5,h6⟩
        ·simp only[za]at z;subst z;refine fin (es.push {key:=R,val:=a.eval W,born:=I}) (I+1) (by simpa using U.app (e:=(R,evO L W)) (f:={key:=R,val:=a.eval W,born:=I}) rfl hv) (by simp[M]) (by
          simp only[Array.toList_push,List.map_append,J,List.map_cons,List.map_nil,Array.size_push,List.range_succ,M]) ?_
         unfold Instr.mapUpdate;simp only[underlying,hu,Sem.run_bind,Sem.run_pure,run_program,yV hb,Result.andThen_ok,Z,hr,lW hb]
        ·simp only[h2]at z;cases hsb:Instr.sameBits 10000 e'.1 R with
         | false=>simp[hsb]at z
         | true=>
          simp only[hsb,ze,za]at z;subst z;refine fin (es.modify j fun f=>{f with key:=R,val:=a.eval W}) I (by
           have:=U.put j (e:=(R,evO L W)) hv;simpa[Array.toList_modify]using this) (by simpa using M) (by
           have hmb:∀(l:List MapEntry)(j:Nat)(R v:Value),(l.modify j fun f=>{f with key:=R,val:=v}).map (·.born)=l.map (·.born):=fun l=>by
            induction l with
            | nil=>intro j R v;simp
            | cons x l ih=>
             intro j R v;cases j with
             | zero=>simp
             | succ j=>simp[ih]
           rw[Array.toList_modify,hmb,J];simp) ?_
          have hkey:((es[j]?).map (·.key)).getD R=e'.1:=by
           have:es[j]?=some f':=by simpa using h3
           rw[this];simp[h5]
          unfold Instr.mapUpdate;simp only[underlying,hu,Sem.run_bind,Sem.run_pure,run_program,yV hb,Result.andThen_ok,Z,hr,hkey,Instr.keyThatStays,hsb,if_true,lW hb]
   ·cases h
  ·rename_i d hn;split at h
   ·rename_i kt vt ht;have hu:=mM ht;cases z:jAp P kt d (evO L xk) (evO L W)with
    | none=>simp[z]at h
    | some d2=>
     simp only[z,za,yJ]at h;subst h;rw[qX,zh]at hn;have hi:H[i]?=some (.mapd d):=by
      cases hi:H[i]? with
      | none=>rw[hi]at hn;cases hn
      | some x=>rw[hi]at hn;simp at hn;rw[hn]
     obtain⟨b,C,hmv,hB⟩:=hm.omI;obtain⟨b',C',ob,g1,g2,g3⟩:=hW.ob i _ hi rfl;rw[hB]at g1;cases g1;cases g3 with
     | @mapd _ es I U M J=>
      have hb:=hW.heap g2;obtain⟨q,hq⟩:=List.getElem?_of_mem g2;have hql:q<Mo.length:=(List.getElem?_eq_some_iff.1 hq).1;have hq2:(Mo++xF F)[q]?=some (b,.map es I):=by rw[List.getElem?_append_left hql];exact hq
      unfold jAp at z;split at z
      ·rename_i key y hkey hy;cases S:wR P kt d.K with
       | false=>simp[S]at z
       | true=>
        simp only[S,ze,za]at z;subst z;have hx:=zWa S (zAg hkey (hF.rep xk));have hyr:=zAg hy hv;have fin:∀(G:Array MapEntry)(A:Nat),xJ B (rd w Y) (MD.ents ⟨d.g,d.K,d.V,bW d.K key y d.l⟩) G.toList→A=G.size→G.toList.map (·.born)=List.range G.size→(Instr.mapUpdate t (.map (some b)) (vD d.K key) (a.eval W)).run P w= .ok () (w.putObj b (.map G A))→o.wp P a w K Q:=fun G A hR J2 hb2 hrun=>by
         obtain⟨hS,N⟩:=hW.st.putObj (o':= .map G A) q hq2;rw[List.set_append_left _ _ hql]at hS;have hW2:=hW.set hi rfl hB hq hS N (o':= .mapd ⟨d.g,d.K,d.V,bW d.K key y d.l⟩) (fun cs e=>by cases e) (fun _=> .mapd (hR.mono (BLe.refl B) N) J2 hb2)
         have hx2:(execOp a.eval o).run P w= .ok .skip (w.putObj b (.map G A)):=by
          unfold execOp;simp only[ho,hmv,hx,Sem.run_bind,hrun,Result.andThen_ok,Sem.run_pure]
         unfold Oper.wp;rw[hx2];show K (a.put o.dst undef) _;rw[hd];exact hk _ _ _ _ _ hW2 (hF.mono (BLe.refl B) N) (BLe.refl B) N
        obtain⟨q',hr,hf⟩:=zPb (w:=w) S key d.l es.toList (zCi U);rcases hf with⟨rfl,_,_,h4⟩ | ⟨j,e,f,rfl,h2,h3,h4,h5,h6,_,_,h9⟩
        ·refine fin (es.push {key:=vD d.K key,val:=a.eval W,born:=I}) (I+1) ?_ (by simp[M]) (by
          simp only[Array.toList_push,List.map_append,J,List.map_cons,List.map_nil,Array.size_push,List.range_succ,M]) ?_
         ·have:=U.app (e:=(vD d.K key,unT d.g d.V y)) (f:={key:=vD d.K key,val:=a.eval W,born:=I}) rfl hyr;simpa[MD.ents,h4]using this
         ·unfold Instr.mapUpdate;simp only[underlying,hu,Sem.run_bind,Sem.run_pure,run_program,yV hb,Result.andThen_ok,bA S,hr,lW hb]
        ·obtain rfl:=qWz S h5;have hsb:=qEp S e.1;refine fin (es.modify j fun f=>{f with key:=vD d.K e.1,val:=a.eval W}) I ?_ (by simpa using M) (by
          have hmb:∀(l:List MapEntry)(j:Nat)(R v:Value),(l.modify j fun f=>{f with key:=R,val:=v}).map (·.born)=l.map (·.born):=fun l=>by
           induction l with
           | nil=>intro j R v;simp
           | cons x l ih=>
            intro j R v;cases j with
            | zero=>simp
            | succ j=>simp[ih]
          rw[Array.toList_modify,hmb,J];simp) ?_
         ·have:=U.put j (e:=(vD d.K e.1,unT d.g d.V y)) hyr;rw[yJ]at this;simpa[MD.ents,h9,List.map_set,Array.toList_modify]using this
         ·have hky:((es[j]?).map (·.key)).getD (vD d.K e.1)=vD d.K e.1:=by
           have:es[j]?=some f:=by simpa using h3
           rw[this];simp[h4]
          unfold Instr.mapUpdate;simp only[underlying,hu,Sem.run_bind,Sem.run_pure,run_program,yV hb,Result.andThen_ok,bA S,hr,hky,Instr.keyThatStays,hsb,if_true,lW hb,Nat.zero_add]
      ·cases z
   ·cases h
  ·cases h
 ·cases h
end
section
variable {P:Program}{E:Nat→Prop}{w0:World}{X:Hid}{F:List Nat}{H:List TO}{B B':Bm}{w w':World}{Y Y':Hid}{Mo:List (Nat×Obj)}{o:Oper}{r r':Rd}{n:Nat}{a:Act}{L:List T}{D:List Deferred}{Q:Exit→Act→World→Prop}{K:Act→World→Prop}
theorem Wd.move(h:Wd P E w0 X F H B w Y Mo){i:Nat}{x:TO}{p:Nat×Nat}(J:H[i]?=some x)(M:vL x=true)(hp:B i=some p):Wd P E w0 X F (H.set i .gone++[x]) (rG B H.length p) w Y Mo∧BLe B (rG B H.length p):=by
 have A:BLe B (rG B H.length p):=BLe.set (h.nn _ (Nat.le_refl _));have hlt:i<H.length:=(List.getElem?_eq_some_iff.1 J).1;have hget:∀(j:Nat)(y:TO),(H.set i .gone++[x])[j]?=some y→y≠.gone→(H[j]?=some y∧j≠H.length∧j≠i)∨(j=H.length∧y=x):=fun j y f R=>by
  rcases Nat.lt_trichotomy j H.length with hlt | rfl | hlt
  ·rw[List.getElem?_append_left (by simpa using hlt)]at f
   by_cases e:i=j
   ·subst e;rw[List.getElem?_set_self hlt]at f;cases f;exact absurd rfl R
   ·rw[List.getElem?_set_ne e]at f;exact .inl ⟨f,Nat.ne_of_lt hlt,fun Z=>e Z.symm⟩
  ·rw[List.getElem?_append_right (by simp)]at f;simp at f;exact .inr ⟨rfl,f.symm⟩
  ·rw[List.getElem?_eq_none (by simp;omega)]at f;cases f
 have U:∀{y:TO},vL y=true→y≠.gone:=fun h e=>by subst e;cases h
 refine⟨⟨h.st,fun j y f I=>?_,fun j cs f=>?_,fun j hj=>?_,fun j1 j2 o1 o2 p1 p2 h1 S h2 l2 q z e=>?_,h.bN,h.iv⟩,A⟩
 ·rcases hget j y f (U I)with⟨f,_,_⟩ | ⟨rfl,rfl⟩
  ·obtain⟨b,C,ob,g1,G,N⟩:=h.ob j y f I;exact⟨b,C,ob,A _ _ g1,G,N.mono A (Le.refl _)⟩
  ·obtain⟨b,C,ob,g1,G,N⟩:=h.ob i _ J M;rw[hp]at g1;cases g1;exact⟨b,C,ob,qJ _ _ _,G,N.mono A (Le.refl _)⟩
 ·rcases hget j _ f (by simp)with⟨f,_,_⟩ | ⟨rfl,e⟩
  ·obtain⟨b,C,g1,G⟩:=h.fz j cs f;exact⟨b,C,A _ _ g1,G.mono A (Le.refl _)⟩
  ·subst e;cases M
 ·simp at hj;rw[jU _ _ (by omega)]
  exact h.nn j (by omega)
 ·rcases hget j1 _ h1 (U S)with⟨k1,V,m1⟩ | ⟨rfl,rfl⟩<;>rcases hget j2 _ h2 (U l2)with⟨k2,W,m2⟩ | ⟨rfl,rfl⟩
  ·rw[jU _ _ V]at q;rw[jU _ _ W]at z;exact h.inj _ _ _ _ _ _ k1 S k2 l2 q z e
  ·rw[jU _ _ V]at q;rw[qJ]at z;cases z;exact absurd (h.inj _ _ _ _ _ _ k1 S J M q hp e) m1
  ·rw[jU _ _ W]at z;rw[qJ]at q;cases q;exact absurd (h.inj _ _ _ _ _ _ k2 l2 J M z hp e.symm) m2
  ·rfl
theorem qBr{N b:Nat}(h:N≤apM b)(f:0<N):(N+N / 4+192)*b≤281474976710656∧N≤281474976710656:=by
 unfold apM at h;have j:N*5≤(281474976710656 / b-192)*4:=by
  have:=Nat.div_mul_le_self ((281474976710656 / b-192)*4) 5;omega
 have e:N+N / 4+192≤281474976710656 / b:=by omega
 have q:=Nat.mul_le_mul_right b e;have y:=Nat.div_mul_le_self 281474976710656 b;have z:=Nat.div_le_self 281474976710656 b;exact⟨by omega,by omega⟩
theorem zSc{e s N:Nat}(h:zAd P e s N=true){g:Bool}(hd:ldT P e=some (g,s)):∃i z,P.info? e=some i∧i.zero=some z∧i.size=s∧z.cells.size=s∧N≤apM i.bytes∧0<s:=by
 unfold zAd at h;split at h
 ·rename_i i z f A;obtain⟨G,v,j,y,rfl⟩:=lF A;rw[f]at j;cases j;simp only[zd,Nat.ble_eq,Nat.blt_eq,qU,List.length_map,Array.length_toList]at h;obtain⟨I,C,g1,_,q,_⟩:=fM hd;rw[f]at g1;cases g1;exact⟨i,v,f,y,q,zY h.1,h.2.1,h.2.2⟩
 ·cases h
theorem qVo{e:TypeId}{i0:TypeInfo}{z:Value}{s C N:Nat}{us:List T}{f news:List Value}{j nb:Nat}(J:P.info? e=some i0)(hs:i0.size=s)(R:z.cells.size=s)(q:zO B r us (f++news))(y:f.length=j*s)(A:news.length=nb*s)(I:j+nb=N)(G:N≤C)(M:C≤maxLen):
  RO P B r C (.gro (.l us) e) (.cells (f.toArray++news.toArray++Builtin.zeroCells z.cells (C-N)) e (0,0)):=by
 subst I;refine .gro J ?_ M ?_
 ·rw[qEe z s R f news j nb C y A G,hs]
 ·simp only[Array.toList_append,List.append_assoc];show zO B r us (List.take us.length _);rw[←List.append_assoc,q.length];have:f++news=(f++news):=rfl;rw[List.take_left];exact q
theorem fI{c:Call}{x y:Operand}{t:TypeId}(ho:o.op= .call c)(e:c.callee= .builtin .append)(f:c.args=#[x,y])(ht:c.argTypes=#[t,t]){v:Value}(hr:(Builtin.append_ #[t,t] o.type #[a.eval x,a.eval y]).run P w= .ok v w'):(execOp a.eval o).run P w= .ok (.value v) w':=by
 unfold execOp;simp only[ho,resolve,e,f,ht,invoke,builtin,Sem.run_bind,Sem.run_pure,Result.andThen_ok,List.map_toArray,List.map_cons,List.map_nil,hr]
theorem vU(g:Tg)(A:Ty):∀l:List A.den,(qN g A l).length=l.length*A.size
 | []=>by simp[qN]
 | x::l=>by rw[qN,List.length_append,jL,vU g A l,List.length_cons,Nat.succ_mul]
theorem qBu{c:Cs}{b:List T}{vs:List Value}(h:zO B r (c.list++b) vs):zO B r (c.app b).list vs∧(c.app b).list.length=(c.list++b).length:=by
 cases c with
 | l cs=>exact⟨h,rfl⟩
 | d g A x=>
  cases f:mD g A b with
  | some y=>
   have e:(Cs.d g A x).app b= .d g A (y::x):=by simp only[Cs.app,f]
   rw[e];have j:zO B r (qN g A x) (vs.take (qN g A x).length)∧zO B r b (vs.drop (qN g A x).length):=zO.split h;obtain⟨q,z⟩:=gW A f j.2;refine⟨?_,?_⟩
   ·show zO B r (qN g A x++qD g A y) vs;have:=j.1.app q;rwa[List.take_append_drop]at this
   ·show(qN g A x++qD g A y).length=(qN g A x++b).length;rw[List.length_append,List.length_append,jL,z]
  | none=>
   have e:(Cs.d g A x).app b= .l (qN g A x++b):=by simp only[Cs.app,f]
   rw[e];exact⟨h,rfl⟩
theorem zCl(g:Tg)(A:Ty)(x:List A.den):∀l:List A.den,qN g A (l.reverse++x)=qN g A x++jW g A l:=by
 intro l;induction l generalizing x with
 | nil=>simp[jW]
 | cons a l e=>
  rw[List.reverse_cons,List.append_assoc,e,jW];show qN g A x++qD g A a++jW g A l=_;rw[List.append_assoc]
theorem mG(g:Tg)(A:Ty)(l:List A.den):qN g A l.reverse=jW g A l:=by
 have:=zCl g A [] l;simpa[qN]using this
theorem dU{g j:Tg}(h:j.le g=true):∀(A:Ty)(x:A.den){vs:List Value},zO B r (qD g A x) vs→zO B r (qD j A x) vs
 | .lim,_,_,h=>h
 | .int _,_,_,h=>h
 | .bool,_,_,h=>h
 | .str,_,_,h=>h
 | .list _,_,[v],f=>by
  refine⟨?_,trivial⟩;have e:=f.1;cases e with
  | ls e=>exact .ls (jG.mono (Le.refl _) (fun b k=>k.le h) _ _ _ e)
 | .list _,_,[],h=>h.elim
 | .list _,_,_::_::_,h=>h.2.elim
 | .prod A C,x,vs,f=>by
  have hs:=zO.split (ts:=qD g A x.1) (us:=qD g C x.2) f;have:=(dU h A _ hs.1).app (dU h C _ hs.2);rwa[List.take_append_drop]at this
theorem zGs{g e:Tg}(h:e.le g=true)(A:Ty):∀(l:List A.den){vs:List Value},zO B r (jW g A l) vs→zO B r (jW e A l) vs
 | [],_,h=>h
 | x::l,vs,f=>by
  have hs:=zO.split (ts:=qD g A x) (us:=jW g A l) f;have:=(dU h A _ hs.1).app (zGs h A l hs.2);rwa[List.take_append_drop]at this
theorem qBs{c:Cs}{y:T}{b:List T}{s:Nat}{vs:List Value}(hb:qG H s y=some b)(h:zO B r (c.list++b) vs):zO B r (c.apY y b).list vs∧(c.apY y b).list.length=(c.list++b).length:=by
 unfold Cs.apY;split
 ·rename_i g A l;simp only[qG]at hb;cases hs:Nat.beq s A.size with
  | false=>simp[hs]at hb
  | true=>
   simp only[hs,ze,za]at hb;subst hb;unfold Cs.apL;split
   ·show zO B r (qN g A l.reverse) vs∧_;rw[mG];refine⟨h,?_⟩;show(qN g A l.reverse).length=_;rw[mG];rfl
   ·exact⟨h,rfl⟩
   ·rename_i e z x;split
    ·rename_i C f;obtain⟨rfl,j⟩:=gY f;obtain rfl:=eq_of_heq j;cases q:e.le g with
     | false=>exact⟨h,rfl⟩
     | true=>
      rw[ze];have hs:=zO.split (ts:=qN e A x) (us:=jW g A l) h;refine⟨?_,?_⟩
      ·show zO B r (qN e A (l.reverse++x)) vs;rw[zCl];have:=hs.1.app (zGs q A l hs.2);rwa[List.take_append_drop]at this
      ·show(qN e A (l.reverse++x)).length=(qN e A x++jW g A l).length;rw[zCl,List.length_append,List.length_append,dX,dX]
    ·exact⟨h,rfl⟩
 ·exact qBu h
theorem RO.apY{C s:Nat}{c:Cs}{y:T}{b:List T}{e:TypeId}{ob:Obj}(hb:qG H s y=some b)(h:RO P B r C (.gro (.l (c.list++b)) e) ob):RO P B r C (.gro (c.apY y b) e) ob:=by
 cases h with
 | gro z hs q h=>
  obtain⟨f,j⟩:=qBs hb h;refine .gro z hs q ?_;rw[j];exact f
def qAl(P:Program)(E:Nat→Prop)(w0:World)(X:Hid)(F:List Nat)(B:Bm)(w:World)(Y:Hid)(Mo:List (Nat×Obj))(us:Cs)(e:TypeId)(N:Nat)(x:T)(run:Result Value):Prop:=
  ∃C,N≤C∧C≤maxLen∧
    ((∃obj,run= .ok (.slice (some ⟨w.heap.size,0,none⟩) N C) (w.drew.alloc obj)∧RO P B (rd w.drew Y) C (.gro us e) obj)∨
     ∃i o n b cur f q,x= .og i o n∧B i=some (b,C)∧Mo[q]?=some (b,.cells cur e (0,0))∧run= .ok (.slice (some ⟨b,0,none⟩) N C) (w.setRow b f)∧
      St E w0 X (w.setRow b f) Y (Mo.set q (b,.cells f e (0,0))++xF F)∧Le (rd w Y) (rd (w.setRow b f) Y)∧RO P B (rd (w.setRow b f) Y) C (.gro us e) (.cells f e (0,0)))
def zLj(H:List TO)(e:TypeId)(s nx:Nat)(us:Cs)(x:T):Prop:=
 (∃v,x= .v v)∨(∃cs n,x= .st cs n)∨(∃i o n,x= .os i o n n)∨∃i,x= .og i 0 nx∧H[i]?=some (.gro us e)∧us.list.length=nx*s
theorem zOi(S:Wd P E w0 X F H B w Y Mo){x y:T}{xv yv:Value}{t ty e:TypeId}{g:Bool}{s nx G:Nat}{uc:Cs}{vs:List T}(hx:Rep B (rd w Y) x xv)(hy:Rep B (rd w Y) y yv)(ht:P.underlying t=some (.slice e))(hd:ldT P e=some (g,s))
  (c1:qG H s x=some uc.list) (W:qG H s y=some vs) (R:jI x=some nx) (c4:jI y=some G) (hny:0<G) (hok:zAd P e s (nx+G)=true) (hon:vM vs=true) (hb:zLj H e s nx uc x):
  qAl P E w0 X F B w Y Mo (uc.apY y vs) e (nx+G) x ((Builtin.append_ #[t,t] ty #[xv,yv]).run P w):=by
 obtain⟨M,J,f,rfl,lx,rx,sx,ax⟩:=S.slice hx R c1;have cy2:=W;obtain⟨ady,cy,news,rfl,ly,ry,sy,ay⟩:=S.slice hy c4 W;obtain⟨i0,z,q1,q2,N,q4,q5,q7⟩:=zSc hok hd;have hone:=zFv hon ry;obtain⟨ya,rfl⟩:=sy (Nat.mul_ne_zero (by omega) (by omega))
 have I:=ay _ rfl;obtain⟨U,hnn⟩:=qBr q5 (by omega)
 have hmax:nx+G≤maxLen:=by simp only[maxLen];omega
 have hge:=grownCap_ge w (nx+G) J e;have hgm:=grownCap_le_maxLen w (nx+G) J e hmax;have y1:=(Upd.drew w).le Y;have fresh:J<nx+G→(M=none→nx=0∧J=0)→qAl P E w0 X F B w Y Mo (uc.apY y vs) e (nx+G) x ((Builtin.append_ #[t,t] ty #[.slice M nx J,.slice (some ya) G cy]).run P w):=fun hlt hnil=>by
  refine⟨grownCap w (nx+G) J e,hge,hgm,.inl ⟨.cells (f.toArray++news.toArray++Builtin.zeroCells z.cells (grownCap w (nx+G) J e-(nx+G))) e (0,0),?_,RO.apY cy2 (qVo q1 N q4 ((rx.app ry).mono (BLe.refl B) y1) lx ly rfl hge hgm)⟩⟩;cases M with
  | none=>
   obtain⟨rfl,rfl⟩:=hnil rfl;have ho0:f=[]:=List.eq_nil_of_length_eq_zero (by rw[lx];simp)
   subst ho0;have hr:=run_append_nil (P:=P) w t ty e i0 z ht q1 q2 ya G cy news (by rw[N];exact ly) I hny (by omega) (by have:=U;simp only[Nat.zero_add]at this;exact Nat.le_trans (Nat.mul_le_mul_right _ (by omega)) this)
   simp only[Nat.zero_add];simpa using hr
  | some xa=>exact run_append_grow (P:=P) w t ty e i0 z ht q1 q2 xa nx J f (by rw[N];exact lx) (ax _ rfl) ya G cy news (by rw[N];exact ly) I hlt (by omega) (growslice_fits_wide (by omega) U)
 rcases hb with⟨v,rfl⟩ | ⟨cs,m,rfl⟩ | ⟨i,o',m,rfl⟩ | ⟨i,rfl,hi,hcs⟩
 ·have hv:=hx.vI.1;subst hv;have:M=none∧nx=0∧J=0:=by
   unfold jI at R;split at R<;>(try (rename_i e2;cases e2;done))<;>(try cases R)
   rename_i e2;cases e2;exact⟨rfl,rfl,rfl⟩
  obtain⟨rfl,rfl,rfl⟩:=this;exact fresh (by omega) (fun _=>⟨rfl,rfl⟩)
 ·obtain⟨ad2,hv,hh⟩:=hx.stI;simp only[jI,za]at R;subst R;cases hv;refine fresh (by omega) (fun Z=>?_)
  rcases hh with⟨rfl,_⟩ | ⟨b,o',e2,_⟩
  ·exact⟨rfl,rfl⟩
  ·rw[Z]at e2;cases e2
 ·obtain⟨b,C,hv,hB⟩:=hx.osI;simp only[jI,za]at R;subst R;cases hv;exact fresh (by omega) (fun Z=>by cases Z)
 ·obtain⟨b,C,c',hv,hB,hmc,h0⟩:=hx.ogI;cases hv;obtain rfl:=h0 rfl;rcases Nat.lt_or_ge J (nx+G)with A | A
  ·exact fresh A (fun Z=>by cases Z)
  ·obtain⟨b',C',ob,g1,g2,g3⟩:=S.ob i _ hi rfl;rw[hB]at g1;cases g1;cases g3 with
   | @gro _ _ cur i1 r1 r2 r3 hR=>
    rw[q1]at r1;cases r1;have V:nx*i0.size+news.length≤cur.size:=by rw[ly,N,r2,N,←Nat.add_mul];exact Nat.mul_le_mul_right _ A
    have hr:=run_append_room (P:=P) w t ty e i0 ht q1 b nx J cur (S.heap g2) ya G cy news (by rw[N];exact ly) I hone A V
    obtain⟨q,hq⟩:=List.getElem?_of_mem g2;have hql:q<Mo.length:=(List.getElem?_eq_some_iff.1 hq).1;have hq2:(Mo++xF F)[q]?=some (b,.cells cur e (0,0)):=by rw[List.getElem?_append_left hql];exact hq
    rw[N]at V;have hrow:cur.toList.take (nx*s)=f:=by
     have h1:=ax _ rfl;have h2:(cur.toList.take (nx*s)).length=nx*s:=by simp;omega
     refine List.ext_getElem? fun j=>?_;by_cases hj:j<nx*s
     ·have e1:f[j]?=some f[j]:=by simp[lx,hj]
      have h3:=h1 j _ e1;rw[jO,cell_of_row w b _ cur e _ (S.heap g2),Nat.zero_add]at h3;rw[e1,List.getElem?_take,if_pos hj];simpa using h3
     ·rw[List.getElem?_eq_none (by omega),List.getElem?_eq_none (by omega)]
    rw[N,hrow]at hr;generalize J2:(f++news++cur.toList.drop (nx*s+news.length)).toArray=W at hr;have hS:=S.st.set (w':=w.setRow b W) q _ hq2 (by simp) rfl rfl rfl (setRow_heap w b cur _ e _ (S.heap g2)) (fun k _ hk=>setRow_other w b k _ hk)
    rw[List.set_append_left _ _ hql]at hS;have hle:=S.st.le_set (w':=w.setRow b W) q hq2 (fun k _ hk=>setRow_other w b k _ hk);have hlen:(uc.list++vs).length=(f++news).length:=(rx.app ry).length;refine⟨J,A,r3,.inr ⟨i,0,nx,b,cur,W,q,rfl,hB,hq,hr,hS,hle,?_⟩⟩;refine RO.apY cy2 (.gro q1 ?_ r3 ?_)
    ·rw[←r2,←J2];simp[lx];omega
    ·have Z:W.toList.take (f++news).length=f++news:=by rw[←J2];exact List.take_left
     show zO B _ (uc.list++vs) (List.take (uc.list++vs).length _);rw[hlen,Z];exact(rx.app ry).mono (BLe.refl B) hle
theorem qYn{c:Call}{x y:Operand}{t t2:TypeId}(W:Wd P E w0 X F H B w Y Mo)(J:FrT n a L D B (rd w Y))(ho:o.op= .call c)(hc:c.callee= .builtin .copy)(q:c.args=#[x,y])(S:c.argTypes=#[t,t2])
  {tv:T} {H':List TO} (h:qKc P H t (evO L x) (evO L y)=some (tv,H')) (hk:nU P E w0 X F n D H' (dst o.dst tv L) B (rd w Y) K):o.wp P a w K Q:=by
 have Z:=J.rep x;have hy:=J.rep y;unfold qKc at h;split at h
 ·rename_i i off nx cx ex;rw[ex]at Z;obtain⟨b,C,U,hB⟩:=Z.osI;cases G:elT P t with
  | none=>simp[G]at h
  | some e=>
   have ht:=wG G;cases hd:ldT P e with
   | none=>simp[G,hd]at h
   | some gs=>
    obtain⟨g,s⟩:=gs;simp only[G,hd]at h;split at h
    ·rename_i us f c1 c2;cases z:jN (Nat.min f nx*s) us with
     | none=>simp[z]at h
     | some V=>
      simp only[z]at h;cases I:vM V&&Nat.blt 0 (Nat.min f nx*s)with
      | false=>simp[I]at h
      | true=>
       simp only[I,ze]at h;simp only[zd,Nat.blt_eq]at I;cases hs:qAa H i off V with
       | none=>simp[hs]at h
       | some H2=>
        simp only[hs,za,Prod.mk.injEq]at h;obtain⟨rfl,rfl⟩:=h;obtain⟨ady,cy,vs,ey,ly,ry,sy,ay⟩:=W.slice hy c2 c1;have y2:Nat.min f nx*s≤f*s:=Nat.mul_le_mul_right s (Nat.min_le_left f nx);obtain⟨ad,rfl⟩:=sy (by omega)
        have hR:zO B (rd w Y) V (vs.take (Nat.min f nx*s)):=(ry.take z).1;obtain⟨w',Mo',R,M,A⟩:=W.sto hB hs hR I.1;have hl:(loadCells ad (Nat.min f nx*s)).run P w= .ok (vs.take (Nat.min f nx*s)).toArray w:=by
         have:=run_loadCells_list (P:=P) w ad (vs.take (Nat.min f nx*s)) (fun j v e=>by
          rw[List.getElem?_take]at e;split at e
          ·exact ay ad rfl j v e
          ·cases e)
         rwa[List.length_take,Nat.min_eq_left (by omega)]at this
        have hsz:(sizeOf e).run P w= .ok s w:=Gv.run_sizeOf hd w;have N:(execOp a.eval o).run P w= .ok (.value (goInt (Nat.min f nx))) w':=by
         unfold execOp;simp only[ho,resolve,hc,q,S,invoke,builtin,Sem.run_bind,Sem.run_pure,Result.andThen_ok,List.map_toArray,List.map_cons,List.map_nil,U,ey];simp[Builtin.copy_,run_underlying ht,Builtin.lenOf,Builtin.firstCells,hsz,hl,R]
        unfold Oper.wp;rw[N];exact hk _ _ _ _ _ M ((J.mono (BLe.refl B) A).put o.dst (.v rfl)) (BLe.refl B) A
    ·cases h
 ·cases h
theorem qFx{c:Call}{x y:Operand}{t:TypeId}(hW:Wd P E w0 X F H B w Y Mo)(hF:FrT n a L D B (rd w Y))(ho:o.op= .call c)(hc:c.callee= .builtin .append)(I:c.args=#[x,y])(V:c.argTypes=#[t,t])
  {tv:T} {H':List TO} (h:zSd P H t (evO L x) (evO L y)=some (tv,H')) (hk:nU P E w0 X F n D H' (dst o.dst tv L) B (rd w Y) K):o.wp P a w K Q:=by
 have N:=hF.rep x;have hy:=hF.rep y;unfold zSd at h;cases he:elT P t with
 | none=>simp[he]at h
 | some e=>
  have ht:=wG he;cases hd:ldT P e with
  | none=>simp[he,hd]at h
  | some gs=>
   obtain⟨g,s⟩:=gs;simp only[he,hd]at h;split at h
   ·rename_i us vs nx ny c1 c2 A c4;cases hz:Nat.beq ny 0 with
    | true=>
     obtain⟨adx,cx,olds,ex,lx,rx,sx,ax⟩:=hW.slice N A c1;obtain⟨ady,cy,news,ey,ly,ry,sy,ay⟩:=hW.slice hy c4 c2;obtain rfl:=zY hz;simp only[hz,ze]at h;obtain⟨i0,_,g1,_,g3,_⟩:=fM hd;have hcap:tv=evO L x∧H'=H∧nx≤cx:=by
      unfold qJn at h;split at h
      ·rename_i v j;cases h;rw[j]at N;obtain⟨hv,hsc⟩:=N.vI;rw[ex]at hv;subst hv;rw[j]at A;refine⟨rfl,rfl,?_⟩;unfold jI at A;split at A<;>(try (rename_i J;cases J;done))<;>(try cases A)
       exact Nat.zero_le _
      ·rename_i i o' m j;cases h;rw[j]at N A;obtain⟨b,C,c',hv,_,f,_⟩:=N.ogI;simp only[jI,za]at A;subst A;rw[ex]at hv;cases hv;exact⟨rfl,rfl,f⟩
      ·rename_i i o' m c' j;cases hb:Nat.ble m c' with
       | false=>simp[hb]at h
       | true=>
        simp only[hb,ze,za,Prod.mk.injEq]at h;rw[j]at N A;obtain⟨b,C,hv,_⟩:=N.osI;simp only[jI,za]at A;subst A;rw[ex]at hv;cases hv;rw[Nat.ble_eq]at hb;exact⟨h.1.symm,h.2.symm,hb⟩
      ·rename_i cs m j;cases h;rw[j]at N A;obtain⟨ad2,hv,_⟩:=N.stI;simp only[jI,za]at A;subst A;rw[ex]at hv;cases hv;exact⟨rfl,rfl,Nat.le_refl _⟩
      ·cases h
     obtain⟨rfl,rfl,f⟩:=hcap;have G:(Builtin.append_ #[t,t] o.type #[a.eval x,a.eval y]).run P w= .ok (a.eval x) w:=by
      rw[ex,ey];have hf:(Builtin.firstCells s 0 (.slice ady 0 cy)).run P w= .ok #[] w:=by
       cases ady with
       | none=>rfl
       | some q=>simp[Builtin.firstCells,loadCells,Sem.run_pure,Sem.run_bind];rfl
      cases adx with
      | none=>simp[Builtin.append_,run_underlying ht,sizeOf,typeInfo,g1,g3,Builtin.lenOf,Sem.run_bind,Sem.run_pure,hf,f]
      | some q=>simp[Builtin.append_,run_underlying ht,sizeOf,typeInfo,g1,g3,Builtin.lenOf,Sem.run_bind,Sem.run_pure,hf,f,storeCells]
     unfold Oper.wp;rw[fI ho hc I V G];exact hk _ _ _ _ _ hW (hF.put o.dst N) (BLe.refl B) (Le.refl _)
    | false=>
     have hny:0<ny:=by
      rcases Nat.eq_zero_or_pos ny with h0 | h0
      ·subst h0;simp at hz
      ·exact h0
     simp only[hz,zf]at h;cases M:zAd P e s (nx+ny)&&vM vs with
     | false=>simp[M]at h
     | true=>
      simp only[M,ze]at h;simp only[zd]at M;have fin:∀(uc:Cs)(H0:List TO),uc.list=us→(tv,H')=(.og (ln H) 0 (nx+ny),H0++[.gro (uc.apY (evO L y) vs) e])→zLj H e s nx uc (evO L x)→(∀(w2:World)(Y2:Hid)(B2:Bm)(M2:List (Nat×Obj)),Wd P E w0 X F (H++[.gro (uc.apY (evO L y) vs) e]) B2 w2 Y2 M2→Wd P E w0 X F (H0++[.gro (uc.apY (evO L y) vs) e]) B2 w2 Y2 M2)→
        (∀i o n,evO L x= .og i o n→H0=H.set i .gone∧∃x,H[i]?=some x∧vL x=true)→o.wp P a w K Q:=fun uc H0 W hres hb hH0 hog=>by
       subst W;cases hres;obtain⟨C,hC1,hC2,hA⟩:=zOi (ty:=o.type) hW N hy ht hd c1 c2 A c4 hny M.1 M.2 hb;unfold Oper.wp;rcases hA with⟨obj,G,U⟩ | ⟨i,o',n',b,cur,c2',q,ex,hB,hq,G,hS,f,U⟩
       ·obtain⟨hW',hBl⟩:=(hW.call (Upd.drew w)).alloc (C:=C) rfl U;have f:=((Upd.drew w).le Y).trans (Le.hide_new (w:=w.drew) (Y:=Y) obj);rw[fI ho hc I V G];refine hk _ _ _ _ _ (hH0 _ _ _ _ hW') ((hF.mono hBl f).put o.dst ?_) hBl f;rw[qU];exact .og (qJ _ _ _) hC1 (fun _=>rfl) hC2
       ·obtain⟨rfl,x0,R,hlx⟩:=hog _ _ _ ex;have hlt:i<H.length:=(List.getElem?_eq_some_iff.1 R).1;have hW2:=hW.set R hlx hB hq hS f (fun cs e=>by cases e) (fun _=>U)
        obtain⟨hW3,S⟩:=hW2.move (i:=i) (x:= .gro (uc.apY (evO L y) vs) e) (by rw[List.getElem?_set_self hlt]) rfl hB
        rw[List.set_set,List.length_set]at hW3;rw[List.length_set]at S;rw[fI ho hc I V G];refine hk _ _ _ _ _ hW3 ((hF.mono S f).put o.dst ?_) S f;rw[qU];exact .og (qJ _ _ _) hC1 (fun _=>rfl) hC2
      have Z:∀(w2:World)(Y2:Hid)(B2:Bm)(M2:List (Nat×Obj)),Wd P E w0 X F (H++[.gro ((Cs.l us).apY (evO L y) vs) e]) B2 w2 Y2 M2→Wd P E w0 X F (H++[.gro ((Cs.l us).apY (evO L y) vs) e]) B2 w2 Y2 M2:=fun _ _ _ _ h=>h;unfold qJp at h;split at h
      ·rename_i v j;exact fin (.l us) H rfl (Option.some.inj h).symm (.inl ⟨v,j⟩) Z (fun i o n J=>by rw[j]at J;cases J)
      ·rename_i cs m j;exact fin (.l us) H rfl (Option.some.inj h).symm (.inr (.inl ⟨_,_,j⟩)) Z (fun i o n J=>by rw[j]at J;cases J)
      ·rename_i i o' m c' j;cases hb:Nat.beq m c' with
       | false=>simp[hb]at h
       | true=>
        obtain rfl:=zY hb;simp only[hb,ze]at h;exact fin (.l us) H rfl (Option.some.inj h).symm (.inr (.inr (.inl ⟨_,_,_,j⟩))) Z (fun i o n J=>by rw[j]at J;cases J)
      ·rename_i i o' m j;unfold qSs at h;split at h
       ·rename_i cs e' z;cases hb:Nat.beq o' 0&&(Nat.beq (ln cs.list) (m*s)&&Nat.beq e e')with
        | false=>simp[hb]at h
        | true=>
         simp only[hb,ze]at h;simp only[zd,qU]at hb;obtain rfl:=zY hb.1;have hcs:=zY hb.2.1;obtain rfl:=zY hb.2.2;rw[qX,zh]at z;have R:H[i]?=some (.gro cs e):=by
          cases R:H[i]? with
          | none=>rw[R]at z;cases z
          | some q=>rw[R]at z;simp at z;rw[z]
         rw[j]at c1 A;simp only[jI,za]at A;subst A;have W:cs.list=us:=by
          unfold qG at c1;simp only[qX,zh,R,Option.getD_some,mQ]at c1;obtain⟨t1,t2⟩:=zBt c1;rw[t2,pX,List.drop_zero,←hcs,List.take_length]
         have hlt:i<H.length:=(List.getElem?_eq_some_iff.1 R).1;refine fin cs (H.set i .gone) W ?_ (.inr (.inr (.inr ⟨i,j,R,hcs⟩))) (fun w2 Y2 B2 M2 h2=>?_) (fun i2 o2 n2 J=>?_)
         ·rw[←Option.some.inj h,yJ]
         ·have:=h2.gone i;rwa[List.set_append_left _ _ hlt]at this
         ·rw[j]at J;cases J;exact⟨rfl,_,R,rfl⟩
       ·cases h
      ·cases h
   ·cases h
end
def Kn(P:Program)(f:Nat)(az:List T)(H:List TO)(j:T)(H':List TO):Prop:=
 ∀(E:Nat→Prop)(w0:World)(X:Hid)(F:List Nat)(B:Bm)(w:World)(Y:Hid)(Mo:List (Nat×Obj))(qO:List Value)(R:Ending→World→Prop),
  Wd P E w0 X F H B w Y Mo→zO B (rd w Y) az qO→
  (∀v w' B' Y' e,Wd P E w0 X F H' B' w' Y' e→Rep B' (rd w' Y') j v→BLe B B'→Le (rd w Y) (rd w' Y')→R (.returned v) w')→Calls P f qO.toArray w R
def KnY(P:Program)(l:Nat)(az:List T)(H:List TO)(f:T)(H':List TO):Prop:=
 ∀(E:Nat→Prop)(w0:World)(X:Hid)(F:List Nat)(B:Bm)(w:World)(Y:Hid)(Mo:List (Nat×Obj))(qO:List Value)(R:Ending→World→Prop)(b C:Nat),
  Wd P E w0 X F H B w Y Mo→zO B (rd w Y) az qO→B l=some (b,C)→
  (∀v w' B' Y' e,Wd P E w0 X F H' B' w' Y' e→Rep B' (rd w' Y') f v→BLe B B'→Le (rd w Y) (rd w' Y')→R (.returned v) w')→YieldAt (FF none) 0 P b qO.toArray w R
def kN(P:Program)(cl:Cl):Prop:=∀f az H e H',cl f az H=some (e,H')→Kn P f az H e H'
def xK(P:Program)(yd:Cl):Prop:=∀l az H e H',yd l az H=some (e,H')→KnY P l az H e H'
section
variable {P:Program}{E:Nat→Prop}{w0:World}{X:Hid}{F:List Nat}{H:List TO}{B B':Bm}{w w':World}{Y Y':Hid}{Mo:List (Nat×Obj)}{o:Oper}{r r':Rd}{n:Nat}{a:Act}{L:List T}{D:List Deferred}{Q:Exit→Act→World→Prop}{K:Act→World→Prop}{cl yd:Cl}{rr:Option Nat}{ops:Array Oper}{rest:List Oper}
theorem nC{f:Nat}(h:jT P f=true)(vs:Array Value)(w:World):(callFunc f vs).run P w= .ok (.enter f vs) w:=by
 unfold jT at h;cases e:P.funcs[f]? with
 | none=>simp[e]at h
 | some fn=>
  simp only[e]at h;cases hn:fn.name== "runtime.NumGoroutine" with
  | true=>simp[hn]at h
  | false=>
   simp only[hn,zf]at h;have hb:fn.body.isNone=false:=by cases hb:fn.body<;>simp_all
   unfold callFunc;simp only[Sem.run_bind,run_program,Result.andThen_ok,Sem.run_pure,e,hn,hb];rfl
theorem zYc (I : FrT n a L D B r) {q : Bool} (h : kK ops L o = some q) : Region.wanted o (yielded ops a.tmps) = q := by
  unfold kK at h
  unfold Region.wanted
  cases C : o.guard with
  | none => simp only [C, za] at h; simpa using h
  | some M =>
    obtain ⟨j, b⟩ := M
    simp only [C] at h
    cases z : ops[j]? with
    | none => simp [z] at h
    | some p =>
      simp only [z] at h
      cases hd : p.dst with
      | none => simp [hd] at h
      | some t =>
        simp only [hd] at h
        have A := I.reps.getD t
        have hget : ∀ v, a.tmps.toList.getD t undef = v → (∃ u, a.tmps[t]? = some u ∧ u = v) ∨ (a.tmps[t]? = none ∧ undef = v) := fun v hv => by
          rw [zh] at hv
          cases ht : a.tmps[t]? with
          | none => have : a.tmps.toList[t]? = none := by simpa using ht
                    rw [this] at hv; exact .inr ⟨rfl, hv⟩
          | some u => have : a.tmps.toList[t]? = some u := by simpa using ht
                      rw [this] at hv; exact .inl ⟨u, rfl, hv⟩
        split at h
        · rename_i c e
          rw [e] at A
          obtain ⟨hv, _⟩ := A.vI
          rcases hget _ hv with ⟨u, f, rfl⟩ | ⟨_, G⟩
          · simp only [yielded, z, hd, Option.bind_some, f]
            cases h
            cases c <;> cases b <;> rfl
          · cases G
        · cases h
        · rename_i e
          rw [e] at A
          obtain ⟨vs, hv, J⟩ := A.tuI
          cases vs with
          | cons x y => exact J.elim
          | nil =>
            cases h
            rcases hget _ hv with ⟨u, f, rfl⟩ | ⟨f, _⟩
            · simp only [yielded, z, hd, Option.bind_some, f]
              cases b <;> rfl
            · simp only [yielded, z, hd, Option.bind_some, f]
              cases b <;> rfl
        · cases h
theorem zHn(op:Op):kV op=xY op:=by cases op<;>rfl
theorem zCj{c:Call}{e:Operand}{f:Nat}{cap:List Value}(ho:o.op= .call c)(j:c.callee= .value e)(y:a.eval e= .func (.func f) #[] cap.toArray)(q:jT P f=true)(w:World):
  (execOp a.eval o).run P w= .ok (.enter f ((c.args.toList.map a.eval)++cap).toArray) w:=by
 have z:c.args.map a.eval++cap.toArray=((c.args.toList.map a.eval)++cap).toArray:=by
  apply Array.ext';simp
 unfold execOp;simp only[ho,resolve,j,y,Deferred.ofValue,Sem.run_bind,Sem.run_pure,Result.andThen_ok,invoke];simp only[Array.empty_append,z];exact nC q _ w
theorem zGq{c:Call}{e:Operand}{f:Nat}{bs:List Value}(ho:o.op= .call c)(j:c.callee= .value e)(y:a.eval e= .func (.func f) bs.toArray #[])(q:jT P f=true)(w:World):
  (execOp a.eval o).run P w= .ok (.enter f (bs++(c.args.toList.map a.eval)).toArray) w:=by
 have z:bs.toArray++c.args.map a.eval++#[]=(bs++(c.args.toList.map a.eval)).toArray:=by
  apply Array.ext';simp
 unfold execOp;simp only[ho,resolve,j,y,Deferred.ofValue,Sem.run_bind,Sem.run_pure,Result.andThen_ok,invoke];simp only[z];exact nC q _ w
theorem zTc{c:Call}{e:Operand}{b:Nat}(ho:o.op= .call c)(f:c.callee= .value e)(j:a.eval e= .func (.yield b) #[] #[]){fn:FuncId}{tmps:Array Value}{az body:Code}(w:World)(y:(Instr.yield b (c.args.toList.map a.eval).toArray).run P w= .ok (.round b fn tmps az body) w):
  (execOp a.eval o).run P w= .ok (.round b fn tmps az body) w:=by
 have q:c.args.map a.eval=(c.args.toList.map a.eval).toArray:=by
  apply Array.ext';simp
 unfold execOp;simp only[ho,resolve,f,j,Deferred.ofValue,Sem.run_bind,Sem.run_pure,Result.andThen_ok,invoke];simp only[Array.empty_append,q];exact y
theorem zHq(hcl:kN P cl)(hyd:xK P yd){s':S}(h:opE P cl yd ops o ⟨L,H⟩=some s')(hn:kV o.op=true)(U:Wd P E w0 X F H B w Y Mo)(M:FrT n a L D B (rd w Y))
  (V:nU P E w0 X F n D s'.H s'.L B (rd w Y) K):if Region.wanted o (yielded ops a.tmps)then o.wpIn (FF rr) 0 P a w K Q else(∀f,o.about P w a.eval=some f→(FF rr).fn f)∧K (a.put o.dst undef) w:=by
 unfold opE at h;cases hw:kK ops L o with
 | none=>simp[hw]at h
 | some q=>
  rw[zYc M hw];have R:xY o.op=true:=by rw[←zHn];exact hn
  cases q with
  | false=>
   simp only[hw,za]at h;subst h;simp only[Bool.false_eq_true,if_false];refine⟨fun f _=>kY rr f,V _ _ _ _ _ U (M.put o.dst ?_) (BLe.refl B) (Le.refl _)⟩;exact Rep.mkTu (vs:=[]) trivial
  | true=>
   simp only[hw]at h;simp only[if_true];unfold fU at h;cases hp:kX P H (ln H) (evO L) o.op with
   | some z=>
    simp only[hp]at h;exact zNb R (qNe U M hp h V)
   | none=>
    simp only[hp]at h;unfold zQe at h;cases A:zCg P H (evO L) o.op with
    | some z=>
     simp only[A]at h;obtain⟨z1,z2⟩:=z;refine zNb R ?_;generalize G:o.op=op at A;unfold zCg at A;split at A
     ·rename_i t xa xv;cases hs:qOl P H t (evO L xa) (evO L xv)with
      | none=>simp[hs]at A
      | some H'=>
       simp only[hs,za,Prod.mk.injEq]at A;obtain⟨rfl,rfl⟩:=A;unfold zPa at h;simp only at h;cases hd:o.dst with
       | some d=>simp[hd]at h
       | none=>
        simp only[hd,za]at h;subst h;exact qYo U M G hd hs V
     ·rename_i t xm xk xv;cases hs:qOs P H t (evO L xm) (evO L xk) (evO L xv)with
      | none=>simp[hs]at A
      | some H'=>
       simp only[hs,za,Prod.mk.injEq]at A;obtain⟨rfl,rfl⟩:=A;unfold zPa at h;simp only at h;cases hd:o.dst with
       | some d=>simp[hd]at h
       | none=>
        simp only[hd,za]at h;subst h;exact qYp U M G hd hs V
     ·rename_i c;split at A
      ·rename_i x y t t' e1 W e3;cases ht:Nat.beq t t' with
       | false=>simp[ht]at A
       | true=>
        obtain rfl:=zY ht;simp only[ht,ze]at A;cases ha:zSd P H t (evO L x) (evO L y)with
        | none=>simp[ha]at A
        | some vh=>
         obtain⟨tv,H'⟩:=vh;simp only[ha,za,Prod.mk.injEq]at A;obtain⟨rfl,rfl⟩:=A;simp only[zPa,za]at h;subst h;exact qFx U M G e1 (Array.ext' (by simpa using W)) (Array.ext' (by simpa using e3)) ha V
      ·rename_i x y t t' e1 W e3;cases ha:qKc P H t (evO L x) (evO L y)with
       | none=>simp[ha]at A
       | some vh=>
        obtain⟨tv,H'⟩:=vh;simp only[ha,za,Prod.mk.injEq]at A;obtain⟨rfl,rfl⟩:=A;simp only[zPa,za]at h;subst h;exact qYn U M G e1 (Array.ext' (by simpa using W)) (Array.ext' (by simpa using e3)) ha V
      ·cases A
     ·cases A
    | none=>
     simp only[A]at h;cases j:opC P cl yd o.dst L H o.op with
     | none=>
      simp only[j]at h;unfold qFv at h;cases hm:zBa P (evO L) o with
      | none=>simp[hm]at h
      | some t=>
       simp only[hm,za]at h;subst h;obtain⟨v,hr,hR⟩:=qFf (P:=P) (w:=w) (ρ:=a.eval) (k:=0) M.rep hm;refine zNb R ?_;unfold Oper.wp;rw[hr];exact V _ _ _ _ _ U (M.put o.dst hR) (BLe.refl B) (Le.refl _)
     | some s2=>
      simp only[j,za]at h;subst h;generalize G:o.op=op at j;unfold opC at j;split at j
      ·rename_i c;split at j
       ·rename_i fx e1;have N:=M.rep fx;have I:=zO.map M.rep c.args.toList;unfold zEd at j;split at j
        ·rename_i f cs W;rw[W]at N;obtain⟨caps,hv,hcs⟩:=N.fnI;cases J:jT P f with
         | false=>simp[J]at j
         | true=>
          simp only[J,ze]at j;cases hr:cl f (c.args.toList.map (evO L)++cs) H with
          | none=>simp[hr,zCk]at j
          | some vh=>
           obtain⟨tv,H'⟩:=vh;simp only[hr,zCk,za]at j;subst j;refine zNb R ?_;unfold Oper.wp;rw[zCj G e1 hv J w];refine hcl _ _ _ _ _ hr E w0 X F B w Y Mo _ _ U (I.app hcs) fun v w' B' Y' Mo' h1 h2 h3 h4=>?_;exact V _ _ _ _ _ h1 ((M.mono h3 h4).put o.dst h2) h3 h4
        ·rename_i f bs W;rw[W]at N;obtain⟨vs,hv,hcs⟩:=N.fbI;cases J:jT P f with
         | false=>simp[J]at j
         | true=>
          simp only[J,ze]at j;cases hr:cl f (bs++c.args.toList.map (evO L)) H with
          | none=>simp[hr,zCk]at j
          | some vh=>
           obtain⟨tv,H'⟩:=vh;simp only[hr,zCk,za]at j;subst j;refine zNb R ?_;unfold Oper.wp;rw[zGq G e1 hv J w];refine hcl _ _ _ _ _ hr E w0 X F B w Y Mo _ _ U (hcs.app I) fun v w' B' Y' Mo' h1 h2 h3 h4=>?_;exact V _ _ _ _ _ h1 ((M.mono h3 h4).put o.dst h2) h3 h4
        ·rename_i l W;rw[W]at N;obtain⟨b,C,hv,hB⟩:=N.ylI;cases hr:yd l (c.args.toList.map (evO L)) H with
         | none=>simp[hr,zCk]at j
         | some vh=>
          obtain⟨tv,H'⟩:=vh;simp only[hr,zCk,za]at j;subst j;obtain⟨fn,tmps,az,body,hrun,Z⟩:=hyd _ _ _ _ _ hr E w0 X F B w Y Mo _ (fun e w1=>∃v,e= .returned v∧K (a.put o.dst v) w1) b C U I hB
           (fun v w' B' Y' Mo' h1 h2 h3 h4=>⟨v,rfl,V _ _ _ _ _ h1 ((M.mono h3 h4).put o.dst h2) h3 h4⟩)
          refine⟨fun f _=>kY rr f,?_⟩;show o.uponIn (FF rr) 0 P a _ Q ((o.semAt rr a.eval).run P w);rw[dE rr a.eval o R,zTc G e1 hv w hrun];refine⟨rR rr 0,Z.mono fun e w1 A=>?_⟩;obtain⟨v,rfl,hh⟩:=A;exact hh
        ·cases j
       ·cases j
      ·cases j
theorem fV(e:kN P cl)(f:xK P yd){j:S}(h:opE P cl yd ops o ⟨L,H⟩=some j)(hn:kV o.op=true)(y:Wd P E w0 X F H B w Y Mo)(q:FrT n a L D B (rd w Y))
  (z:nU P E w0 X F n D j.H j.L B (rd w Y) (wpListIn (FF rr) 0 P ops Q rest)):wpListIn (FF rr) 0 P ops Q (o::rest) a w:=zHq e f h hn y q z
end
def KnP(P:Program)(k f:Nat)(az:List T)(e:T)(nw:Bool):Prop:=
 ∀(B:Bm)(w:World)(X:Hid)(qO:List Value)(R:Ending→World→Prop),Iv P w→(∀i,k≤i→B i=none)→(∀b o,X b o→b<w.heap.size)→zO B (rd w X) az qO→
  (∀v w',Upd E0 w w'→Rep B (rd w' (bif nw then old w else X)) e v→R (.returned v) w')→Calls P f qO.toArray w R
theorem KnP.unN{P:Program}{k f j:Nat}{az:List T}{e:T}{nw:Bool}(h:KnP P k f (az.map (Ev.unN j)) e nw):KnP P k f az e nw:=fun B w X qO R q C A z y=>h B w X qO R q C A (z.unN (fun _ _ h=>h) j) y
def qR(P:Program)(O:Po):Prop:=∀f az e nw,O f az=some (e,nw)→∀k,KnP P k f az e nw
section
variable {P:Program}{E:Nat→Prop}{w0:World}{X:Hid}{F:List Nat}{H:List TO}{B B':Bm}{w w':World}{Y Y':Hid}{Mo:List (Nat×Obj)}{o:Oper}{r r':Rd}{n:Nat}{a:Act}{L:List T}{D:List Deferred}{Q:Exit→Act→World→Prop}{K:Act→World→Prop}{O:Po}{rn:Rn}
theorem wE{B2:Bm}:∀(k:Nat){t:T}{v:Value},clean k t=true→Rep B r t v→Rep B2 r t v
 | 0,_,_,h,_=>by simp[clean]at h
 | k+1,t,v,h,A=>by
  have all:∀{cs:List T},cs.all (clean k)=true→∀(j:Nat)(t:T),cs[j]?=some t→clean k t=true:=fun h j t e=>List.all_eq_true.1 h t (List.mem_of_getElem? e);cases A with
  | u=>simp[clean]at h
  | v hs=>exact .v hs
  | sl hn f q g z=>simp only[clean]at h;exact .sl hn f q (fun j t e=>wE k (all h j t e) (g j t e)) z
  | sl0 z=>exact .sl0 z
  | st f q g=>simp only[clean]at h;exact .st f q fun j t e=>wE k (all h j t e) (g j t e)
  | st0=>exact .st0
  | fp f q g=>simp only[clean]at h;exact .fp f q fun j t e=>wE k (all h j t e) (g j t e)
  | ag f y q g=>simp only[clean]at h;exact .ag f y q fun j t e=>wE k (all h j t e) (g j t e)
  | tu f y q g=>simp only[clean]at h;exact .tu f y q fun j t e=>wE k (all h j t e) (g j t e)
  | fn f y q g=>simp only[clean]at h;exact .fn f y q fun j t e=>wE k (all h j t e) (g j t e)
  | @ls g _ _ _ q=>
   simp only[clean]at h;cases g with
   | n=>cases h
   | o=>cases h
   | a=>exact .ls (jG.mono (Le.refl _) (fun b _=>Bm.In.any) _ _ _ q)
  | _=>simp[clean]at h
theorem bK{B2:Bm}{f:T→Option T}{C G:Rd}(A:∀t I v,f t=some I→Rep B C t v→Rep B2 G I v):∀{ts e:List T}{vs:List Value},vW f ts=some e→zO B C ts vs→zO B2 G e vs
 | [],e,[],h,_=>by simp only[vW,za]at h;subst h;trivial
 | t::ts,e,v::vs,h,z=>by
  simp only[vW]at h;cases j:f t with
  | none=>simp[j]at h
  | some x=>
   cases q:vW f ts with
   | none=>simp[j,q]at h
   | some y=>
    simp only[j,q,za]at h;subst h;exact⟨A _ _ _ j z.1,bK A q z.2⟩
 | [],_,_::_,_,h=>h.elim
 | _::_,_,[],_,h=>h.elim
theorem zPw{f:T→Option T}:∀{ts q:List T},vW f ts=some q→∀{j:Nat}{A:T},q[j]?=some A→∃t,ts[j]?=some t∧f t=some A
 | [],q,h,j,A,e=>by simp only[vW,za]at h;subst h;simp at e
 | t::ts,q,h,j,A,e=>by
  simp only[vW]at h;cases z:f t with
  | none=>simp[z]at h
  | some x=>
   cases C:vW f ts with
   | none=>simp[z,C]at h
   | some y=>
    simp only[z,C,za]at h;subst h;cases j with
    | zero=>simp at e;subst e;exact⟨t,rfl,z⟩
    | succ j=>simpa using zPw C (by simpa using e)
theorem Wd.ownRow(G:Wd P E w0 X F H B w Y Mo){i b C:Nat}{cs:List T}(A:B i=some (b,C))(h:pG (nth .gone H i)=some cs):∃(c:Array Value)(e:TypeId),(b,Obj.cells c e (0,0))∈Mo∧zO B (rd w Y) cs (c.toList.take cs.length):=by
 rw[qX,zh]at h;cases j:H[i]? with
 | none=>rw[j]at h;simp[pG]at h
 | some x=>
  rw[j]at h;cases x with
  | row q e=>
   simp only[Option.getD_some,pG,za]at h;subst h;obtain⟨J,I,ob,g1,y,z⟩:=G.ob i _ j rfl;rw[A]at g1;cases g1;cases z with
   | @row _ _ c f=>exact⟨c,e,y,by rw[f.length,List.take_length];exact f⟩
  | gro q e=>
   simp only[Option.getD_some,pG,za]at h;subst h;obtain⟨J,I,ob,g1,y,z⟩:=G.ob i _ j rfl;rw[A]at g1;cases g1;cases z with
   | @gro _ _ c i0 _ _ _ f=>exact⟨c,e,y,f⟩
  | _=>simp[pG]at h
def Ow(B:Bm)(r:Rd)(w:World)(Z:Nat→Prop)(H:List TO):Prop:=∀(i b C:Nat)(cs:List T),B i=some (b,C)→pG (nth .gone H i)=some cs→∃(c:Array Value)(e:TypeId),w.heap[b]?=some (.cells c e (0,0))∧Z b∧zO B r cs (c.toList.take cs.length)
theorem Wd.ow(f:Wd P E w0 X F H B w Y Mo):Ow B (rd w Y) w (fun b=>∃ob,(b,ob)∈Mo) H:=fun i b C cs q h=>by
 obtain⟨c,e,g1,j⟩:=f.ownRow q h;exact⟨c,e,f.heap g1,⟨_,g1⟩,j⟩
theorem jG.of_reps{B2:Bm}{g:Tg}{p:Nat→Prop}(e:∀(A:Ty)(l:List A.den)(v:Value),Rep B r (.ls g A l) v→jG r' p (.list A) l [v]):∀(A:Ty),gK A=true→∀(y:A.den)(us:List Value),zO B r (qD g A y) us→jG r' p A y us
 | .lim,h,_,_,_=>by cases h
 | .int _,_,_,[v],h=>by obtain⟨rfl,_⟩:=h.1.vI;rfl
 | .bool,_,_,[v],h=>by obtain⟨rfl,_⟩:=h.1.vI;rfl
 | .str,_,_,[v],h=>by obtain⟨rfl,_⟩:=h.1.vI;rfl
 | .list A,_,l,[v],h=>e A l v h.1
 | .prod A C,h,y,us,f=>by
  simp only[gK,zd]at h;have hs:=zO.split (ts:=qD g A y.1) (us:=qD g C y.2) f;exact⟨_,_,(List.take_append_drop (qD g A y.1).length us).symm,jG.of_reps (B2:=B2) e A h.1 _ _ hs.1,jG.of_reps (B2:=B2) e C h.2 _ _ hs.2⟩
 | .int _,_,_,[],h=>h.elim
 | .bool,_,_,[],h=>h.elim
 | .str,_,_,[],h=>h.elim
 | .list _,_,_,[],h=>h.elim
 | .int _,_,_,_::_::_,h=>h.2.elim
 | .bool,_,_,_::_::_,h=>h.2.elim
 | .str,_,_,_::_::_,h=>h.2.elim
 | .list _,_,_,_::_::_,h=>h.2.elim
theorem zCm(g:Tg)(A:Ty):∀(l:List A.den)(i:Nat)(y:A.den),l.reverse[i]?=some y→∀(q:Nat)(t:T),(qD g A y)[q]?=some t→(qN g A l)[i*A.size+q]?=some t
 | [],i,y,h,q,t,ht=>by simp at h
 | x::l,i,y,h,q,t,ht=>by
  have j:q<A.size:=by rw[←jL g A y];exact(List.getElem?_eq_some_iff.1 ht).1
  rw[List.reverse_cons,List.getElem?_append]at h;split at h
  ·rename_i e;rw[List.length_reverse]at e;have:=zCm g A l i y h q t ht;rw[qN,List.getElem?_append_left]
   ·exact this
   ·exact(List.getElem?_eq_some_iff.1 this).1
  ·rename_i e;rw[List.length_reverse]at e h;have f:i-l.length=0:=by
    have:=(List.getElem?_eq_some_iff.1 h).1;simpa using this
   rw[f]at h;simp at h;subst h;have:i=l.length:=by omega
   subst this;rw[qN,List.getElem?_append_right (by rw[vU];exact Nat.le_add_right _ _),vU,Nat.add_sub_cancel_left]
   exact ht
theorem qKw{B2:Bm}{Z:Nat→Prop}{nw:Bool}{off m i b C c:Nat}{t:T}(h:zTd nw off m (nth .gone H i)=some t)(hB:B i=some (b,C))(hO:Ow B r w Z H)(ho:∀(b:Nat)(c:Array Value)(e:TypeId),w.heap[b]?=some (.cells c e (0,0))→Z b→∀(j:Nat)(v:Value),c[j]?=some v→r' ⟨b,j,none⟩=some v)
  (R:∀{g:Tg},(!nw||g.isN)=true→∀(A:Ty)(l:List A.den)(v:Value),Rep B r (.ls g A l) v→jG r' (B2.In .a) (.list A) l [v]) (hc:m≤c) (hm:c≤maxLen):Rep B2 r' t (.slice (some ⟨b,off,none⟩) m c):=by
 unfold zTd at h;split at h
 ·rename_i g A x e hn;cases J:(Nat.beq off 0&&(gK A&&(!nw||g.isN)))&&Nat.beq m x.length with
  | false=>simp[J]at h
  | true=>
   simp only[J,ze,za]at h;subst h;simp only[zd]at J;obtain⟨⟨W,h1,h2⟩,h3⟩:=J;obtain rfl:=Nat.eq_of_beq_eq_true W;obtain rfl:=Nat.eq_of_beq_eq_true h3;obtain⟨z,V,g1,gz,S⟩:=hO i b C (qN g A x) hB (by rw[hn];rfl)
   refine .ls ⟨some ⟨b,0,none⟩,c,by simp,by simpa using hc,hm,.inr ⟨b,0,rfl,Bm.In.any,fun j y U=>?_⟩⟩
   have hj:j<x.length:=by
    have:=(List.getElem?_eq_some_iff.1 U).1;simpa using this
   have hlen:x.length*A.size≤z.toList.length:=by
    have:=S.length;rw[vU,List.length_take]at this;omega
   have N:(j+1)*A.size≤x.length*A.size:=Nat.mul_le_mul_right _ hj;rw[Nat.add_mul,Nat.one_mul]at N;have I:((z.toList.drop (j*A.size)).take A.size).length=A.size:=by
    rw[List.length_take,List.length_drop];omega
   have hget:∀(q:Nat)(v:Value),((z.toList.drop (j*A.size)).take A.size)[q]?=some v→q<A.size∧z.toList[j*A.size+q]?=some v:=fun q v f=>by
    rw[List.getElem?_take]at f;split at f
    ·rename_i hlt;rw[List.getElem?_drop]at f;exact⟨hlt,f⟩
    ·cases f
   refine⟨(z.toList.drop (j*A.size)).take A.size,I,?_,fun q v f=>?_⟩
   ·refine jG.of_reps (B2:=B2) (R h2) A h1 y _ (zO.of (by rw[jL,I]) fun q t v ht hv=>?_)
    have h4:=zCm g A x j y U q t ht;obtain⟨hlt,M⟩:=hget q v hv;obtain⟨v',G,h7⟩:=S.get h4;rw[List.getElem?_take]at G;split at G
    ·rw[M]at G;cases G;exact h7
    ·cases G
   ·obtain⟨_,M⟩:=hget q v f;rw[Nat.zero_add];exact ho b z V g1 gz _ v (by simpa using M)
 ·cases h
theorem zMf{B2:Bm}{Z:Nat→Prop}(hO:Ow B r w Z H){nw:Bool}(ho:∀(b:Nat)(c:Array Value)(e:TypeId),w.heap[b]?=some (.cells c e (0,0))→Z b→∀(j:Nat)(v:Value),c[j]?=some v→r' ⟨b,j,none⟩=some v)(W:nw=false→Le r r')(V:∀b j v,B.N≤b→r ⟨b,j,none⟩=some v→r' ⟨b,j,none⟩=some v):
  ∀(k:Nat)(t U:T)(v:Value),jY nw H k t=some U→Rep B r t v→Rep B2 r' U v
 | 0,t,U,v,h,_=>by simp[jY]at h
 | k+1,t,U,v,h,q=>by
  have S:=zMf (B2:=B2) hO ho W V k;have far:∀{t:T},nw=false→clean 9 t=true→Rep B r t v→Rep B2 r' t v:=fun hn y h=>wE 9 y (h.mono (BLe.refl B) (W hn));have own:∀{i b C off:Nat}{cs l:List T},B i=some (b,C)→pG (nth .gone H i)=some cs→vW (jY nw H k) (jJ cs off)=some l→Cls B2 r' b off l:=fun{i b C off cs l}R z J=>by
   obtain⟨c,e,g1,gz,g2⟩:=hO _ _ _ _ R z;have g3:=bK S J (g2.drop off);intro j t hj;obtain⟨v,M,e2⟩:=g3.get hj;refine⟨v,ho b c e g1 gz _ _ ?_,e2⟩;rw[List.getElem?_drop,List.getElem?_take]at M;split at M
   ·simpa using M
   ·cases M
  cases t with
  | u=>simp[jY]at h
  | om i=>simp[jY]at h
  | fb f cs=>simp[jY]at h
  | yl i=>simp[jY]at h
  | hv A l=>simp[jY]at h
  | v x=>simp only[jY,za]at h;subst h;obtain⟨rfl,hs⟩:=q.vI;exact .v hs
  | ls g A l=>
   simp only[jY]at h;cases nw with
   | false=>
    simp only[zf,za]at h;subst h;cases q with
    | ls q=>exact .ls (jG.mono (W rfl) (fun b _=>Bm.In.any) _ _ _ q)
   | true=>
    cases g with
    | a=>simp[Tg.isN]at h
    | o=>simp[Tg.isN]at h
    | n=>
     simp only[Tg.isN,ze,za]at h;subst h;cases q with
     | ls q=>exact .ls (jG.far (fun _=>Bm.In.any) V _ _ _ (jG.mono (Le.refl _) (fun b h=>h.1 rfl) _ _ _ q))
  | sl cs m=>
   simp only[jY]at h;cases nw with
   | true=>
    simp only[ze]at h;split at h
    ·cases h;obtain⟨ad,c,rfl,_,_⟩:=q.slI;exact .sl0 q.slB
    ·cases h
   | false=>
    simp only[zf]at h;cases y:clean 9 (.sl cs m)with
    | false=>simp[y]at h
    | true=>simp only[y,ze,za]at h;subst h;exact far rfl y q
  | sn cs m=>
   simp only[jY]at h;cases G:vW (jY nw H k) cs with
   | none=>simp[G]at h
   | some l=>
    simp only[G,za]at h;subst h;cases q with
    | @sn _ _ b off c hn f z g I hb=>
     have y:Cls B2 r' b off l:=fun j U e=>by
      obtain⟨t,M,e2⟩:=zPw G e;exact⟨f j,V _ _ _ (hb j t M) (z j t M),S _ _ _ e2 (g j t M)⟩
     exact y.sl hn I
    | sn0 I=>
     simp only[vW,za]at G;subst G;exact .sl0 I
  | st cs m=>
   simp only[jY]at h;cases nw with
   | true=>
    simp only[ze]at h;split at h
    ·cases h;obtain⟨ad,rfl,_⟩:=q.stI;exact .st0
    ·cases h
   | false=>
    simp only[zf]at h;cases y:clean 9 (.st cs m)with
    | false=>simp[y]at h
    | true=>simp only[y,ze,za]at h;subst h;exact far rfl y q
  | fp cs=>
   simp only[jY]at h;cases nw with
   | true=>simp at h
   | false=>
    simp only[zf]at h;cases y:clean 9 (.fp cs)with
    | false=>simp[y]at h
    | true=>simp only[y,ze,za]at h;subst h;exact far rfl y q
  | ag cs=>
   simp only[jY]at h;cases G:vW (jY nw H k) cs with
   | none=>simp[G]at h
   | some l=>
    simp only[G,za]at h;subst h;obtain⟨vs,rfl,g⟩:=q.agI;exact Rep.mkAg (bK S G g)
  | tu cs=>
   simp only[jY]at h;cases G:vW (jY nw H k) cs with
   | none=>simp[G]at h
   | some l=>
    simp only[G,za]at h;subst h;obtain⟨vs,rfl,g⟩:=q.tuI;exact Rep.mkTu (bK S G g)
  | fn f cs=>
   simp only[jY]at h;cases G:vW (jY nw H k) cs with
   | none=>simp[G]at h
   | some l=>
    simp only[G,za]at h;subst h;obtain⟨vs,rfl,g⟩:=q.fnI;exact Rep.mkFn (bK S G g)
  | os i off m c=>
   simp only[jY]at h;cases y:Nat.ble m c&&Nat.ble c 9223372036854775807 with
   | false=>simp[y]at h
   | true=>
    simp only[y,ze]at h;rw[zd,Nat.ble_eq,Nat.ble_eq]at y;cases z:pG (nth .gone H i)with
    | none=>simp[z]at h
    | some cs=>
     cases J:vW (jY nw H k) (jJ cs off)with
     | none=>simp[z,J]at h
     | some l=>
      simp only[z,J,za]at h;subst h;obtain⟨b,C,rfl,R⟩:=q.osI;exact(own R z J).sl y.1 y.2
  | og i off m=>
   simp only[jY]at h;cases hz:zTd nw off m (nth .gone H i)with
   | some tz=>
    simp only[hz,za]at h;subst h;have hR2:=q;obtain⟨b,C,c,rfl,hBi,hcc,_⟩:=hR2.ogI;have I:=q.ogB;refine qKw hz hBi hO ho (fun{g}hg A' l' v' hv=>?_) hcc I;cases hv with
    | ls hv=>
     cases nw with
     | false=>exact jG.mono (W rfl) (fun b _=>Bm.In.any) _ _ _ hv
     | true=>
      cases g with
      | a=>cases hg
      | o=>cases hg
      | n=>exact jG.far (fun _=>Bm.In.any) V _ _ _ (jG.mono (Le.refl _) (fun b h=>h.1 rfl) _ _ _ hv)
   | none=>
   simp only[hz]at h;cases z:pG (nth .gone H i)with
   | none=>simp[z]at h
   | some cs=>
    cases J:vW (jY nw H k) (jJ cs off)with
    | none=>simp[z,J]at h
    | some l=>
     simp only[z,J,za]at h;subst h;have I:=q;obtain⟨b,C,c,rfl,R,y,_⟩:=q.ogI;exact(own R z J).sl y I.ogB
  | op i off=>
   simp only[jY]at h;cases z:pG (nth .gone H i)with
   | none=>simp[z]at h
   | some cs=>
    cases J:vW (jY nw H k) (jJ cs off)with
    | none=>simp[z,J]at h
    | some l=>
     simp only[z,J,za]at h;subst h;obtain⟨b,C,rfl,R⟩:=q.opI;exact(own R z J).fp
def qFl:Hid:=fun _ _=>False
theorem qHg{po:Po}{k:Nat}{Z:Nat→Prop}(q:∀f az A nw,po f az=some (A,nw)→KnP P k f az A nw){f:Nat}{az:List T}{A:T}(h:poC po H f az=some A){qO:List Value}{R:Ending→World→Prop}
  (hO:Ow B (rd w Y) w Z H) (U:Iv P w) (I:B.N≤w.heap.size) (hlt:∀b o,Y b o→b<w.heap.size) (W:∀i,k≤i→B i=none) (S:zO B (rd w Y) az qO) (V:∀v w',Upd E0 w w'→Rep B (rd w' Y) A v→R (.returned v) w'):Calls P f qO.toArray w R:=by
 have y:∀{t:T}{v:Value}{w':World},Rep B (rd w' (old w)) t v→Rep B (rd w' (old w)) (mkN 12 t) v:=fun h=>h.mkN (fun b j v e=>Nat.le_trans I (Nat.not_lt.1 (tC e))) 12;unfold poC at h;cases hw:zZq az with
 | false=>
  simp only[hw,zf]at h;cases hp:po f az with
  | none=>simp[hp]at h
  | some z=>
   obtain⟨t,nw⟩:=z;simp only[hp,za]at h;subst h;refine q _ _ _ _ hp B w Y qO R U W hlt S fun v w' M hv=>V v w' M ?_;cases nw with
   | false=>exact hv
   | true=>exact(y hv).mono (BLe.refl B) (Le.new hlt)
 | true=>
  simp only[hw,ze]at h;cases J:vW (jY false H 12) az with
  | none=>simp[J]at h
  | some C=>
   simp only[J]at h;split at h
   ·rename_i t hp;simp only[za]at h;subst h;have G:zO B (rd w qFl) C qO:=bK (zMf hO (r':=rd w qFl) (fun b c e hb _ j v hj=>by
     refine rX ?_ (fun h=>h) (frozen_of_row w b _ c e hb);rw[cell_of_row w b _ c e _ hb];exact hj) (fun _=>Le.unhide fun _ _ h=>h.elim) (fun b j v _ e=>rX (yK e) (fun h=>h) (aS e)) 12) J S
    refine q _ _ _ _ hp B w qFl qO R U W (fun _ _ h=>h.elim) G fun v w' M hv=>V v w' M ?_;exact(y hv).mono (BLe.refl B) (Le.new hlt)
   ·cases h
theorem dZ:∀(k i:Nat)(x:TO),(gF k)[i]?=some x→x= .gone
 | 0,_,_,h=>by simp[gF]at h
 | k+1,0,x,h=>by simp[gF]at h;exact h.symm
 | k+1,i+1,x,h=>dZ k i x (by simpa[gF]using h)
theorem zKc:∀k,(gF k).length=k
 | 0=>rfl
 | k+1=>by simp[gF,zKc k]
theorem zCo(J:kN P (fF P rn)){k f:Nat}{az:List T}{t tv:T}{S:List TO}{nw:Bool}(he:fF P rn f (az.map (unN 12)) (gF k)=some (t,S))(hf:jY nw S 12 t=some tv):KnP P k f az tv nw:=by
 intro B w X qO R hI hk W hA V;have I:zO ⟨B.f,w.heap.size⟩ (rd w X) (az.map (unN 12)) qO:=zO.unN (B:=B) (B2:=⟨B.f,w.heap.size⟩) (fun _ _ h=>h) 12 hA;have hW:Wd P E0 w X [] (gF k) ⟨B.f,w.heap.size⟩ w X []:=by
  refine⟨St.start W,fun i o y z=>?_,fun i cs y=>?_,fun i y=>hk i (by rwa[zKc]at y),fun i j oi oj p q y z=>?_,rfl,fun w' C=>hI.upd C⟩
  ·rw[dZ _ _ _ y]at z;cases z
  ·have:=dZ _ _ _ y;cases this
  ·rw[dZ _ _ _ y]at z;cases z
 refine J _ _ _ _ _ he E0 w X [] ⟨B.f,w.heap.size⟩ w X [] qO R hW I fun v w' B' Y' G g1 U g3 g4=>?_;have A:∀(Z:Hid),(∀b o,Z b o→b<w.heap.size)→∀(b:Nat)(c:Array Value)(e:TypeId),w'.heap[b]?=some (.cells c e (0,0))→(∃ob,(b,ob)∈G)→∀(j:Nat)(v:Value),c[j]?=some v→rd w' Z ⟨b,j,none⟩=some v:=fun Z hZ b c e hb N j v hj=>by
  obtain⟨ob,N⟩:=N;have M:w.heap.size≤b:=by
   rcases(g1.st.own _ (List.mem_append_left _ N)).2.1 with h | h
   ·exact h
   ·exact h.elim
  refine rX ?_ (fun h=>Nat.not_lt.2 M (hZ _ _ h)) (frozen_of_row w' b _ c e hb);rw[cell_of_row w' b _ c e _ hb];exact hj
 have C:Upd E0 w w':=g1.st.upd;cases nw with
 | true=>exact V v w' C (zMf g1.ow (A _ fun _ _ h=>h) (fun e=>by cases e) (fun b j v hb e=>rX (yK e) (fun h=>Nat.not_lt.2 (g1.bN▸hb) h) (aS e)) 12 _ _ _ hf U)
 | false=>exact V v w' C (zMf g1.ow (A _ W) (fun _=>g1.st.le) (fun b j v _ e=>g1.st.le _ _ e) 12 _ _ _ hf U)
theorem zGu(e:kN P (fF P rn)){k f:Nat}{az:List T}{A:T}{nw:Bool}(h:kH P rn k f az=some (A,nw)):KnP P k f az A nw:=by
 unfold kH at h;split at h
 ·rename_i t y z;unfold qDt at h;cases j:jY true y 12 t with
  | some C=>
   simp only[j,za,Prod.mk.injEq]at h;obtain⟨rfl,rfl⟩:=h;exact zCo e z j
  | none=>
   cases q:jY false y 12 t with
   | none=>simp[j,q]at h
   | some C=>
    simp only[j,q,za,Prod.mk.injEq]at h;obtain⟨rfl,rfl⟩:=h;exact zCo e z q
 ·cases h
end
def QOk(Q:Exit→Act→World→Prop)(B:Bm)(r:Rd)(a:Act)(w:World):Ex→Prop
 | .n=>Q .normal a w
 | .x id=>Q (.exit id) a w
 | .r=>Q .ret a w
 | .p t=>∀v,Rep B r t v→Q (.panic [{v:=v,recovered:=false}]) a w
def gQ(P:Program)(E:Nat→Prop)(w0:World)(X:Hid)(F:List Nat)(n:Nat)(D:List Deferred)(q:Bool)(e:Ex)(s:S)(B:Bm)(r:Rd)(Q:Exit→Act→World→Prop):Prop:=
 ∀a' w' B' Y' f(bs:List Nat),(q=true→bs=[])→Wd P E w0 X (bs++F) s.H B' w' Y' f→FrT n a' s.L (bs.map Gv.mark++D) B' (rd w' Y')→BLe B B'→Le r (rd w' Y')→QOk Q B' (rd w' Y') a' w' e
def KnX(P:Program)(f:Nat)(az:List T)(H:List TO)(j:T)(H':List TO):Prop:=
 ∀(E:Nat→Prop)(w0:World)(X:Hid)(F:List Nat)(B:Bm)(w:World)(Y:Hid)(Mo:List (Nat×Obj))(qO:List Value)(R:Ending→World→Prop),
  Wd P E w0 X F H B w Y Mo→zO B (rd w Y) az qO→
  (∀v w' B' Y' e,Wd P E w0 X F H' B' w' Y' e→Rep B' (rd w' Y') j v→BLe B B'→Le (rd w Y) (rd w' Y')→R (.panicked [{v:=v,recovered:=false}]) w')→Calls P f qO.toArray w R
def qBh(P:Program)(pc:Cl):Prop:=∀f az H e H',pc f az H=some (e,H')→KnX P f az H e H'
def pJ(P:Program)(rn:Rn):Prop:=
 ∀(c:Code)(s:S)(e:Ex)(f:S),rn c s=some (e,f)→∀(E:Nat→Prop)(w0:World)(X:Hid)(F:List Nat)(n:Nat)(a:Act)(D:List Deferred)(B:Bm)(w:World)(Y:Hid)(Mo:List (Nat×Obj))(rr:Option Nat)(Q:Exit→Act→World→Prop),
  (rr=none∨noR c=true)→Wd P E w0 X F s.H B w Y Mo→FrT n a s.L D B (rd w Y)→gQ P E w0 X F n D (noR c) e f B (rd w Y) Q→c.wpIn (FF rr) 0 P Q a w
section
variable {P:Program}{E:Nat→Prop}{w0:World}{X:Hid}{F:List Nat}{H:List TO}{B B':Bm}{w w':World}{Y Y':Hid}{Mo:List (Nat×Obj)}{o:Oper}{r r':Rd}{n:Nat}{a:Act}{L:List T}{D:List Deferred}{Q:Exit→Act→World→Prop}{K:Act→World→Prop}{cl yd pc:Cl}{O:Po}{rr:Option Nat}{ops:Array Oper}{rest:List Oper}{rn:Rn}
theorem zWw(f:kN P cl)(j:xK P yd):∀(l:List Oper)(s e:S){a:Act}{w:World}{B:Bm}{Y:Hid}{Mo:List (Nat×Obj)}{r0:Rd}{B0:Bm},zQj P cl yd ops l s=some e→l.all (fun o=>kV o.op)=true→Wd P E w0 X F s.H B w Y Mo→FrT n a s.L D B (rd w Y)→BLe B0 B→Le r0 (rd w Y)→
  nU P E w0 X F n D e.H e.L B0 r0 (Q .normal)→wpListIn (FF rr) 0 P ops Q l a w
 | [],s,e,a,w,B,Y,Mo,r0,B0,h,_,A,z,y,hr,C=>by
  simp only[zQj,za]at h;subst h;exact C _ _ _ _ _ A z y hr
 | o::l,⟨L,H⟩,e,a,w,B,Y,Mo,r0,B0,h,hn,A,z,y,hr,C=>by
  simp only[List.all_cons,zd]at hn;simp only[zQj]at h;cases q:opE P cl yd ops o ⟨L,H⟩with
  | none=>simp[q]at h
  | some N=>
   simp only[q]at h;exact fV f j q hn.1 A z fun a' w' B' Y' G g1 I J M=>zWw f j l N e h hn.2 g1 I (y.trans J) (hr.trans M) C
theorem qDm{x:Operand}{t:TypeId}{k:IntKind}{z:Int}(ho:o.op= .panic x)(e:a.eval x= .iface t (.int k z))(w:World):(execOp a.eval o).run P w= .halt (.panic (.iface t (.int k z))) w:=by
 unfold execOp;simp only[ho,e];rfl
theorem qYm(V:qBh P pc){e:Ex}{s':S}(h:opP P pc ops o ⟨L,H⟩=some (e,s'))(hn:kV o.op=true)(hW:Wd P E w0 X F H B w Y Mo)(M:FrT n a L D B (rd w Y))
  (hk:∀a' w' B' Y' A,Wd P E w0 X F s'.H B' w' Y' A→FrT n a' s'.L D B' (rd w' Y')→BLe B B'→Le (rd w Y) (rd w' Y')→QOk Q B' (rd w' Y') a' w' e):wpListIn (FF rr) 0 P ops Q (o::rest) a w:=by
 unfold opP at h;have hnd:xY o.op=true:=by rw[←zHn];exact hn
 cases W:kK ops L o with
 | none=>simp[W]at h
 | some q=>
  cases q with
  | false=>simp[W]at h
  | true=>
   simp only[W]at h;show if Region.wanted o (yielded ops a.tmps)then _ else _
   rw[zYc M W];simp only[if_true];refine zNb hnd ?_;cases hp:qZa L o.op with
   | some t=>
    simp only[hp,za,Prod.mk.injEq]at h;obtain⟨rfl,rfl⟩:=h;generalize J:o.op=op at hp;unfold qZa at hp;split at hp
    ·rename_i x;split at hp
     ·rename_i t2 k z G;cases hp;have hx:=M.rep x;rw[G]at hx;unfold Oper.wp;rw[qDm J hx.vI.1 w];exact hk a w B Y Mo hW M (BLe.refl B) (Le.refl _) _ (.v rfl)
     ·cases hp
    ·cases hp
   | none=>
    simp only[hp]at h;cases j:qTh P pc ⟨L,H⟩ o.op with
    | none=>simp[j,qVh]at h
    | some vh=>
     obtain⟨t,H'⟩:=vh;simp only[j,qVh,za,Prod.mk.injEq]at h;obtain⟨rfl,rfl⟩:=h;generalize J:o.op=op at j;unfold qTh at j;split at j
     ·rename_i c;split at j
      ·rename_i Z e1;have I:=M.rep Z;have C:=zO.map M.rep c.args.toList;split at j
       ·rename_i f cs G;have G:evO L Z= .fn f cs:=G;rw[G]at I;obtain⟨caps,hv,N⟩:=I.fnI;cases y:jT P f with
        | false=>simp[y]at j
        | true=>
         simp only[y,ze]at j;unfold Oper.wp;rw[zCj J e1 hv y w];refine V _ _ _ _ _ j E w0 X F B w Y Mo _ _ hW (C.app N) fun v w' B' Y' A h1 h2 R U=>?_;exact hk a w' B' Y' A h1 (M.mono R U) R U v h2
       ·rename_i f bs G;have G:evO L Z= .fb f bs:=G;rw[G]at I;obtain⟨vs,hv,N⟩:=I.fbI;cases y:jT P f with
        | false=>simp[y]at j
        | true=>
         simp only[y,ze]at j;unfold Oper.wp;rw[zGq J e1 hv y w];refine V _ _ _ _ _ j E w0 X F B w Y Mo _ _ hW (N.app C) fun v w' B' Y' A h1 h2 R U=>?_;exact hk a w' B' Y' A h1 (M.mono R U) R U v h2
       ·cases j
      ·cases j
     ·cases j
theorem zWy(q:kN P cl)(z:xK P yd)(y:qBh P pc):∀(l:List Oper)(s j:S){e:Ex}{a:Act}{w:World}{B:Bm}{Y:Hid}{Mo:List (Nat×Obj)}{r0:Rd}{B0:Bm},qGg P cl yd pc ops l s=some (e,j)→l.all (fun o=>kV o.op)=true→Wd P E w0 X F s.H B w Y Mo→FrT n a s.L D B (rd w Y)→BLe B0 B→Le r0 (rd w Y)→
  (∀a' w' B' Y' f,Wd P E w0 X F j.H B' w' Y' f→FrT n a' j.L D B' (rd w' Y')→BLe B0 B'→Le r0 (rd w' Y')→QOk Q B' (rd w' Y') a' w' e)→wpListIn (FF rr) 0 P ops Q l a w
 | [],s,j,e,a,w,B,Y,Mo,r0,B0,h,_,G,C,A,hr,I=>by
  simp only[qGg,za,Prod.mk.injEq]at h;obtain⟨rfl,rfl⟩:=h;exact I _ _ _ _ _ G C A hr
 | o::l,⟨L,H⟩,j,e,a,w,B,Y,Mo,r0,B0,h,hn,G,C,A,hr,I=>by
  simp only[List.all_cons,zd]at hn;simp only[qGg]at h;cases R:opE P cl yd ops o ⟨L,H⟩with
  | none=>
   simp only[R]at h;exact qYm y h hn.1 G C fun a' w' B' Y' f g1 J M N=>I a' w' B' Y' f g1 J (A.trans M) (hr.trans N)
  | some U=>
   simp only[R]at h;exact fV q z R hn.1 G C fun a' w' B' Y' f g1 J M N=>zWy q z y l U j h hn.2 g1 J (A.trans M) (hr.trans N) I
theorem zTb{c:Call}{j:Operand}{f:Nat}{cap:List Value}(ho:o.op= .defer c)(q:c.callee= .value j)(e:c.args.toList=[])(y:a.eval j= .func (.func f) #[] cap.toArray)(w:World):
  (execOp a.eval o).run P w= .ok (.defer {target:= .fn (.func f) cap.toArray,args:=#[]}) w:=by
 have ha:c.args=#[]:=Array.ext' (by simpa using e)
 unfold execOp;simp only[ho,resolve,q,y,Deferred.ofValue,ha,Sem.run_bind,Sem.run_pure,Result.andThen_ok];simp
theorem zWv(A:kN P cl)(G:xK P yd):∀(l:List Oper)(s q:S){g:T}{a:Act}{w:World}{B:Bm}{Y:Hid}{Mo:List (Nat×Obj)}{r0:Rd}{B0:Bm},zZn P cl yd ops l s=some (g,q)→Wd P E w0 X F s.H B w Y Mo→FrT n a s.L D B (rd w Y)→BLe B0 B→Le r0 (rd w Y)→
  (∀a' w' B' Y' y f cs caps,g= .fn f cs→zO B' (rd w' Y') cs caps→jT P f=true→Wd P E w0 X F q.H B' w' Y' y→FrT n a' q.L ({target:= .fn (.func f) caps.toArray,args:=#[]}::D) B' (rd w' Y')→BLe B0 B'→Le r0 (rd w' Y')→Q .normal a' w')→wpListIn (FF none) 0 P ops Q l a w
 | [],s,q,g,a,w,B,Y,Mo,r0,B0,h,_,_,_,_,_=>by simp[zZn]at h
 | o::l,⟨L,H⟩,q,g,a,w,B,Y,Mo,r0,B0,h,V,z,U,hr,W=>by
  simp only[zZn]at h;cases j:kV o.op with
  | true=>
   simp only[j,ze]at h;cases I:opE P cl yd ops o ⟨L,H⟩with
   | none=>simp[I]at h
   | some s1=>
    simp only[I]at h;exact fV A G I j V z fun a' w' B' Y' y g1 g2 g3 g4=>zWv A G l s1 q h g1 g2 (U.trans g3) (hr.trans g4) W
  | false=>
   simp only[j,zf]at h;split at h
   ·rename_i c R N hd;split at h
    ·rename_i fx Z e2;split at h
     ·rename_i f cs e3;cases e:jT P f with
      | false=>simp[e]at h
      | true=>
       simp only[e,ze,za,Prod.mk.injEq]at h;obtain⟨rfl,rfl⟩:=h;have C:=z.rep fx;rw[e3]at C;obtain⟨caps,hv,M⟩:=C.fnI;show if Region.wanted o (yielded ops a.tmps)then _ else _
       have hw:Region.wanted o (yielded ops a.tmps)=true:=by simp[Region.wanted,N]
       rw[hw];simp only[if_true];refine⟨fun f _=>kY none f,?_⟩;show o.uponIn (FF none) 0 P a _ Q ((o.semAt none a.eval).run P w);rw[Oper.semAt_none,zTb R Z e2 hv w];have J:FrT n ({a with defers:={target:= .fn (.func f) caps.toArray,args:=#[]}::a.defers}.put o.dst undef) L ({target:= .fn (.func f) caps.toArray,args:=#[]}::D) B (rd w Y):=by
        rw[hd];exact⟨z.size,z.reps,by show _::a.defers=_;rw[z.defers]⟩
       exact W _ w B Y Mo f cs caps rfl M e V J U hr
     ·cases h
    ·cases h
   ·cases h
theorem qOf(J:Wd P E w0 X F H B w Y Mo){x t:T}{v:Value}{e:TypeId}(h:qOe P H x e=some t)(I:Rep B (rd w Y) x v):∃u,((do loadVar e (←asAddr v)):Sem Value).run P w= .ok u w∧Rep B (rd w Y) t u:=by
 unfold qOe at h;cases f:ldT P e with
 | none=>simp[f]at h
 | some gs=>
  obtain⟨g,s⟩:=gs;cases j:aA H x with
  | none=>simp[f,j]at h
  | some cs=>
   cases ht:jN s cs with
   | none=>simp[f,j,ht]at h
   | some us=>
    simp only[f,j,ht]at h;cases q:g||Nat.beq s 1 with
    | false=>simp[q]at h
    | true=>
     simp only[q,ze,za]at h;subst h;obtain⟨b,off,vs,rfl,y,z,A⟩:=J.from I j ht;obtain⟨C,G⟩:=zFr y q z;refine⟨_,?_,C⟩;simp only[asAddr,Sem.run_bind,Sem.run_pure,Result.andThen_ok,rY (by rw[y];exact f) G A]
theorem zFz(z:Wd P E w0 X F H B w Y Mo)(q:zO B (rd w Y) L a.tmps.toList):∀{rs:List ResultVar}{ts:List T},dC P L H rs=some ts→∃vs,(rs.mapM (zEl a.tmps)).run P w= .ok vs w∧zO B (rd w Y) ts vs
 | [],ts,h=>by simp only[dC,za]at h;subst h;exact⟨[],rfl,trivial⟩
 | .tmp t::rs,ts,h=>by
  simp only[dC]at h;cases f:dC P L H rs with
  | none=>simp[f]at h
  | some us=>
   simp only[f,za]at h;subst h;obtain⟨vs,g1,y⟩:=zFz z q f;refine⟨a.tmps.getD t undef::vs,?_,⟨?_,y⟩⟩
   ·simp only[List.mapM_cons,Sem.run_bind,Sem.run_pure,Result.andThen_ok,g1,zEl]
   ·have:=q.getD t;simpa using this
 | .cell t e::rs,ts,h=>by
  simp only[dC]at h;cases j:qOe P H (nth .u L t) e with
  | none=>simp[j]at h
  | some x=>
   cases f:dC P L H rs with
   | none=>simp[j,f]at h
   | some us=>
    simp only[j,f,za]at h;subst h;obtain⟨vs,g1,y⟩:=zFz z q f;have A:Rep B (rd w Y) (nth .u L t) (a.tmps.getD t undef):=by
     have:=q.getD t;simpa using this
    obtain⟨u,k1,k2⟩:=qOf z j A;refine⟨u::vs,?_,⟨k2,y⟩⟩;simp only[List.mapM_cons,Sem.run_bind,Sem.run_pure,Result.andThen_ok,g1,zEl,k1]
theorem zQq{ts:List T}{vs:List Value}(h:zO B r ts vs):Rep B r (zQp ts) (zBi vs):=by
 match ts,vs,h with
 | [],[],h=>exact Rep.mkTu h
 | [t],[v],h=>exact h.1
 | t::e::ts,v::w::vs,h=>exact Rep.mkTu h
theorem zNl{fn:Func}{vs:List Value}{tmps:Array Value}(h:(fn.results.toList.mapM (zEl tmps)).run P w= .ok vs w):(results fn tmps).run P w= .ok (zBi vs) w:=by
 have hr:fn.results=fn.results.toList.toArray:=by simp
 rw[zIg,hr];simp only[Sem.run_bind,List.mapM_toArray,Sem.run_map,h,Result.andThen_ok];rcases vs with _ | ⟨v,_ | ⟨u,vs⟩⟩<;>simp[zBi]
theorem sH{fn:Func}{R:Ending→World→Prop}{tmps:Array Value}{u:FrameMode}(y:u≠.run){ds:List Deferred}:∀(bs:List Nat){w:World}{B:Bm}{Y:Hid}{Mo:List (Nat×Obj)},Wd P E w0 X (bs++F) H B w Y Mo→
  (∀w',Wd P E w0 X F H B w' Y Mo→Le (rd w Y) (rd w' Y)→LeavesInM (FF none) 0 P fn tmps R ds u w')→LeavesInM (FF none) 0 P fn tmps R (bs.map Gv.mark++ds) u w
 | [],w,B,Y,Mo,e,k=>k w e (Le.refl _)
 | b::bs,w,B,Y,Mo,e,k=>by
  have hp:(Mo++xF (b::bs++F)).Perm ((b,Obj.deferred (some []))::(Mo++xF (bs++F))):=List.perm_middle;have q:=St.perm hp e.st;obtain⟨f,j⟩:=q.putObj (o':= .deferred none) 0 rfl;refine⟨y,.inl ⟨b,_,rfl,run_takeDeferred (q.get 0 rfl),?_⟩⟩;rw[List.set_cons_zero]at f;exact sH y bs (e.step f.tail j) fun w' g1 z=>k w' g1 (j.trans z)
theorem qEv{fn:Func}{R:Ending→World→Prop}{tmps:Array Value}(bs:List Nat){w:World}{B:Bm}{Y:Hid}{Mo:List (Nat×Obj)}(q:Wd P E w0 X (bs++F) H B w Y Mo)
  (k:∀w',Wd P E w0 X F H B w' Y Mo→Le (rd w Y) (rd w' Y)→∃v,(results fn tmps).run P w'= .ok v w'∧R (.returned v) w'):LeavesInM (FF none) 0 P fn tmps R (bs.map Gv.mark) .returning w:=by
 have:=sH (P:=P) (fn:=fn) (R:=R) (tmps:=tmps) (u:= .returning) (ds:=[]) (by simp) bs q fun w' g1 e=>by
  obtain⟨v,f,j⟩:=k w' g1 e;exact zAy f j
 simpa using this
theorem zIp:∀(m:Nat)(vs:List Value),vs.length=m→zO B r (us m) vs
 | 0,[],_=>trivial
 | m+1,_::vs,h=>⟨.u,zIp m vs (by simpa using h)⟩
 | 0,_::_,h=>by simp at h
 | _+1,[],h=>by simp at h
theorem zCh(C:pJ P rn):kN P (nK P rn):=by
 intro f az H tv H' h E w0 X F B w Y Mo qO R N J W;unfold nK at h;cases G:P.funcs[f]? with
 | none=>simp[G]at h
 | some fn=>
  simp only[G]at h;cases hb:fn.body with
  | none=>simp[hb]at h
  | some c=>
   simp only[hb]at h;cases I:Nat.ble (ln az) fn.ntmps with
   | false=>simp[I]at h
   | true=>
    simp only[I,ze]at h;rw[Nat.ble_eq,qU]at I;have hlen:=J.length;refine pO.1 (callsIn_of_wp_marks (n:=0) G hb (kY none f) ?_);have M:FrT fn.ntmps {tmps:=qO.toArray++Array.replicate (fn.ntmps-qO.toArray.size) undef,defers:=[]} (rest fn.ntmps az) [] B (rd w Y):=by
     refine⟨by simp;omega,?_,rfl⟩
     have:(qO.toArray++Array.replicate (fn.ntmps-qO.toArray.size) undef).toList=qO++List.replicate (fn.ntmps-qO.length) undef:=by simp
     rw[this];refine J.app (zIp _ _ ?_);rw[qU];simp;omega
    have leave:∀(s:S)(ts:List T),dC P s.L s.H fn.results.toList=some ts→tv=zQp ts→H'=s.H→∀a' w' B' Y' j(bs:List Nat),Wd P E w0 X (bs++F) s.H B' w' Y' j→FrT fn.ntmps a' s.L (bs.map Gv.mark++[]) B' (rd w' Y')→BLe B B'→Le (rd w Y) (rd w' Y')→LeavesInM (FF none) 0 P fn a'.tmps R a'.defers .returning w':=
     fun s ts hr U V a' w' B' Y' j bs g1 y z A=>by
      subst U;subst V;rw[y.defers,List.append_nil];refine qEv bs g1 fun w2 k1 k2=>?_;obtain⟨vs,Z,q2⟩:=zFz (a:=a') k1 (y.reps.mono (BLe.refl B') k2) hr;exact⟨_,zNl Z,W _ _ _ _ _ k1 (zQq q2) z (A.trans k2)⟩
    cases q:rn c ⟨rest fn.ntmps az,H⟩with
    | none=>simp[q,zRa]at h
    | some es=>
     obtain⟨e,s⟩:=es;cases e with
     | x id=>simp[q,zRa]at h
     | p t=>simp[q,zRa]at h
     | n=>
      simp only[q,zRa]at h;cases hr:dC P s.L s.H fn.results.toList with
      | none=>simp[hr]at h
      | some ts=>
       simp only[hr,za,Prod.mk.injEq]at h;refine C _ _ _ _ q E w0 X F fn.ntmps _ [] B w Y Mo none _ (.inl rfl) N M fun a' w' B' Y' j bs _ g1 y z A=>?_;exact leave s ts hr h.1.symm h.2.symm a' w' B' Y' j bs g1 y z A
     | r=>
      simp only[q,zRa]at h;cases hr:dC P s.L s.H fn.results.toList with
      | none=>simp[hr]at h
      | some ts=>
       simp only[hr,za,Prod.mk.injEq]at h;refine C _ _ _ _ q E w0 X F fn.ntmps _ [] B w Y Mo none _ (.inl rfl) N M fun a' w' B' Y' j bs _ g1 y z A=>?_;exact leave s ts hr h.1.symm h.2.symm a' w' B' Y' j bs g1 y z A
end
section
variable {P:Program}{E:Nat→Prop}{w0:World}{X:Hid}{F:List Nat}{H:List TO}{B B':Bm}{w w':World}{Y Y':Hid}{Mo:List (Nat×Obj)}{o:Oper}{r r':Rd}{n:Nat}{a:Act}{L:List T}{D:List Deferred}{cl yd pc:Cl}{O:Po}{rr:Option Nat}{ops:Array Oper}{rest:List Oper}{rn:Rn}
theorem dW:∀{l m:List Nat},zMd l m=true→l=m
 | [],[],_=>rfl
 | a::l,b::m,h=>by
  simp only[zMd,zd]at h;rw[zY h.1,dW h.2]
 | [],_::_,h=>by cases h
 | _::_,[],h=>by cases h
theorem neN{a b:Nat}(h:Nat.beq a b=false):a≠b:=fun e=>by
 subst e;simp at h
theorem zAs{md:Region.Mode}{fuel t:Nat}{listed:Array Bool}{acc:List Nat}{l:List Nat}(h:Region.ready md ops listed=l):Region.linearise.go md ops (fuel+1) t listed acc=match l[t % l.length]? with
  | some i=>Region.linearise.go md ops fuel (t / l.length) (listed.setIfInBounds i true) (i::acc)
  | none=>acc.reverse:=by
 subst h;rfl
theorem jCq(hs:ops.size=4)(h:zXi ops=true)(t:Nat):Region.schedule true ops t=[0,1,2,3]∨Region.schedule true ops t=[1,0,2,3]:=by
 simp only[zXi,zd]at h;obtain⟨q,y,z,A,C,I⟩:=h;have q:=dW q;have y:=dW y;have z:=dW z;have A:=dW A;have C:=dW C;simp only[Region.schedule,Bool.true_or,if_true,Region.linearise,hs];have G:Array.replicate 4 false=#[false,false,false,false]:=rfl;rw[G,zAs q];have fin:∀(t:Nat)(acc:List Nat),Region.linearise.go .any ops 2 t #[true,true,false,false] acc=acc.reverse++[2,3]:=fun t acc=>by
  rw[zAs A];simp only[List.length_cons,List.length_nil,Nat.zero_add,Nat.mod_one,List.getElem?_cons_zero];have e:(#[true,true,false,false]:Array Bool).setIfInBounds 2 true=#[true,true,true,false]:=rfl;rw[e,zAs C];simp only[List.length_cons,List.length_nil,Nat.zero_add,Nat.mod_one,List.getElem?_cons_zero];simp[Region.linearise.go]
 have f:t % 2=0∨t % 2=1:=by omega
 rcases f with f | f
 ·left;simp only[List.length_cons,List.length_nil,Nat.zero_add,Nat.reduceAdd,f,List.getElem?_cons_zero];have e:(#[false,false,false,false]:Array Bool).setIfInBounds 0 true=#[true,false,false,false]:=rfl;rw[e,zAs y];simp only[List.length_cons,List.length_nil,Nat.zero_add,Nat.mod_one,List.getElem?_cons_zero];have j:(#[true,false,false,false]:Array Bool).setIfInBounds 1 true=#[true,true,false,false]:=rfl;rw[j,fin];rfl
 ·right;simp only[List.length_cons,List.length_nil,Nat.zero_add,Nat.reduceAdd,f,List.getElem?_cons_succ,List.getElem?_cons_zero];have e:(#[false,false,false,false]:Array Bool).setIfInBounds 1 true=#[false,true,false,false]:=rfl;rw[e,zAs z];simp only[List.length_cons,List.length_nil,Nat.zero_add,Nat.mod_one,List.getElem?_cons_zero];have j:(#[false,true,false,false]:Array Bool).setIfInBounds 0 true=#[true,true,false,false]:=rfl;rw[j,fin];rfl
theorem qFk(h:noG o=true){q:Nat→Option Bool}:Region.wanted o q=true:=by
 unfold noG at h;cases e:o.guard with
 | none=>simp[Region.wanted,e]
 | some _=>simp[e]at h
theorem qEl(h:zPm o=true)(ρ:Operand→Value)(w:World):(execOp ρ o).run P w= .ok .recover w:=by
 unfold zPm at h;split at h
 ·rename_i c j;split at h
  ·rename_i e f;have ha:c.args=#[]:=Array.ext' (by simpa using f)
   unfold execOp;simp only[j,resolve,e,ha,Sem.run_bind,Sem.run_pure,Result.andThen_ok];rfl
  ·cases h
 ·cases h
def zGc(B:Bm)(r:Rd)(x:T)(v:Value)(u e:FrameMode):Prop:=
 (u= .returning∧e= .returning∧x= .v .nilIface∧v= .nilIface)∨(∃v',Rep B r x v'∧v=v'∧u= .panicking [{v:=v',recovered:=false}]∧e= .panicking [{v:=v',recovered:=true}])
theorem zGc.rep{x:T}{v:Value}{u f:FrameMode}(h:zGc B r x v u f):Rep B r x v:=by
 rcases h with⟨_,_,rfl,rfl⟩ | ⟨v',e,rfl,_,_⟩
 ·exact .v rfl
 ·exact e
theorem zGc.settles{x:T}{v:Value}{u e:FrameMode}(h:zGc B r x v u e):settle e= .returning:=by
 rcases h with⟨_,rfl,_,_⟩ | ⟨v',_,_,_,rfl⟩<;>rfl
theorem zGc.mono{x:T}{v:Value}{u e:FrameMode}(h:zGc B r x v u e)(z:BLe B B')(hr:Le r r'):zGc B' r' x v u e:=by
 rcases h with h | ⟨v',f,j,q,y⟩
 ·exact .inl h
 ·exact .inr ⟨v',f.mono z hr,j,q,y⟩
theorem zRk{i:Nat}{rest:List Nat}{b:Frame}{k:List Item}{e:Frame}{cs:List Frame}{x:T}{v:Value}{u C:FrameMode}(hb:b.kind= .deferred)(q:b.roundOf=none)(ho:ops[i]?=some o)(M:zPm o=true)(J:noG o=true)
  (A:e.mode=u) (G:zGc B r x v u C):step P (lone (b.atR a (.inRegion ops (i::rest)::k)) (e::cs) w)= .next (lone (b.atR (a.put o.dst v) (.inRegion ops rest::k)) ({e with mode:=C}::cs) w):=by
 have R:Region.wanted o (yielded ops a.tmps)=true:=qFk J;have z:=stepGR_op (P:=P) (b:=b) (k:=k) (cs:=e::cs) (w:=w) (rest:=rest) ho R;rw[q,Oper.semAt_none]at z;have y:∀v,(b.atR a (.inRegion ops (i::rest)::k)).finish v=b.atR (a.put o.dst v) (.inRegion ops rest::k):=by
  intro v;rw[Frame.finish_atR,ho];rfl
 have N:(b.atR a (.inRegion ops (i::rest)::k)).kind= .deferred:=hb;have j:=tryRecover_deferred N (e::cs);have hr:=qEl (P:=P) M a.eval w;refine step_lone_go ?_;rw[z,←y];rcases G with⟨rfl,rfl,_,rfl⟩ | ⟨v',_,rfl,rfl,rfl⟩
 ·have f:recoverD (e::cs)=none:=by simp[recoverD,A]
  have I:({e with mode:= .returning}:Frame)=e:=by cases e;cases A;rfl
  rw[I];simp only[Frame.atR,q]at j ⊢;simp[stepG.apply,hr,j,f]
 ·have f:recoverD (e::cs)=some (v,{e with mode:= .panicking [{v:=v,recovered:=true}]}::cs):=by simp[recoverD,A]
  simp only[Frame.atR,q]at j ⊢;simp[stepG.apply,hr,j,f]
theorem zRl{i:Nat}{rest:List Nat}{b:Frame}{k:List Item}{cs:List Frame}{v:Value}(j:b.roundOf=none)(ho:ops[i]?=some o)(q:noG o=true)(hr:(execOp a.eval o).run P w= .ok (.value v) w):
  step P (lone (b.atR a (.inRegion ops (i::rest)::k)) cs w)= .next (lone (b.atR (a.put o.dst v) (.inRegion ops rest::k)) cs w):=by
 have y:Region.wanted o (yielded ops a.tmps)=true:=qFk q;have f:=stepGR_op (P:=P) (b:=b) (k:=k) (cs:=cs) (w:=w) (rest:=rest) ho y;rw[j,Oper.semAt_none]at f;have e:∀v,(b.atR a (.inRegion ops (i::rest)::k)).finish v=b.atR (a.put o.dst v) (.inRegion ops rest::k):=by
  intro v;rw[Frame.finish_atR,ho];rfl
 refine step_lone_go ?_;rw[f,←e];simp[stepG.apply,hr]
theorem zUi{id:Nat}{x:T}{v:Value}{u u':FrameMode}{M:Frame}{cs:List Frame}{s s':S}(hm:P.follows .mixedOrders=true)(hcl:kN P cl)(hyd:xK P yd)(h:qOc P cl yd ops x s=some s')(hu:M.mode=u)(hM:zGc B (rd w Y) x v u u')
  (hW:Wd P E w0 X F s.H B w Y Mo) (hF:FrT n a s.L D B (rd w Y)) {Q:Exit→Act→List Frame→World→Prop}
  (hk:∀a' w' B' Y' Mo',Wd P E w0 X F s'.H B' w' Y' Mo'→FrT n a' s'.L D B' (rd w' Y')→BLe B B'→Le (rd w Y) (rd w' Y')→Q .normal a' ({M with mode:=u'}::cs) w'):(Code.region id ops true).wpSIn (FF none) 0 P Q a (M::cs) w:=by
 unfold qOc at h;split at h
 ·rename_i o0 o1 o2 o3 hops;have q:ops=#[o0,o1,o2,o3]:=Array.ext' (by simpa using hops)
  have hsz:ops.size=4:=by rw[q];rfl
  have i0:ops[0]?=some o0:=by rw[q];rfl
  have i1:ops[1]?=some o1:=by rw[q];rfl
  have i2:ops[2]?=some o2:=by rw[q];rfl
  have i3:ops[3]?=some o3:=by rw[q];rfl
  cases hc:zPm o0&&(noG o0&&(noG o1&&(zXi ops&&(kV o2.op&&kV o3.op))))with
  | false=>simp[hc]at h
  | true=>
   simp only[hc,ze]at h;simp only[zd]at hc;obtain⟨c1,c2,c3,c4,c5,c6⟩:=hc;split at h
   ·rename_i C N t ta e0 e1 e2;cases hd:!Nat.beq C N&&!Nat.beq C ta with
    | false=>simp[hd]at h
    | true=>
     simp only[hd,ze]at h;simp only[zd,Bool.not_eq_true']at hd;have hd:=And.intro (neN hd.1) (neN hd.2);split at h
     ·rename_i z hz;have tail:∀(a2:Act)(w2:World),Wd P E w0 X F s.H B w2 Y Mo→FrT n a2 (Ev.put z (Ev.put x s.L C) N) D B (rd w2 Y)→Le (rd w Y) (rd w2 Y)→wpOpsIn (FF none) 0 P ops (fun e a' w'=>Q e a' ({M with mode:=u'}::cs) w') [2,3] a2 w2:=fun a2 w2 g1 g2 g3=>by
       simp only[zQj]at h;cases h2:opE P cl yd ops o2 ⟨Ev.put z (Ev.put x s.L C) N,s.H⟩with
       | none=>simp[h2]at h
       | some s2=>
        simp only[h2]at h;cases h3:opE P cl yd ops o3 s2 with
        | none=>simp[h3]at h
        | some s3=>
         simp only[h3,za]at h;subst h;simp only[wpOpsIn,i2,i3];refine zHq hcl hyd h2 c5 g1 g2 fun a3 w3 B3 Y3 Mo3 k1 k2 k3 k4=>zHq hcl hyd (L:=s2.L) (H:=s2.H) h3 c6 k1 k2 fun a4 w4 B4 Y4 Mo4 q1 q2 q3 q4=>?_;exact hk _ _ _ _ _ q1 q2 (k3.trans q3) ((g3.trans k4).trans q4)
      intro b k hb G A I;have hup:=Upd.drew w;have hW0:Wd P E w0 X F s.H B w.drew Y Mo:=hW.call hup;have Z:Le (rd w Y) (rd w.drew Y):=hup.le Y;have G0:FrT n a s.L D B (rd w.drew Y):=hF.mono (BLe.refl B) Z;obtain⟨U,hr1,hR1⟩:∃U,(execOp a.eval o1).run P w.drew= .ok (.value U) w.drew∧Rep B (rd w.drew Y) z U:=by
       have:=zQn (P:=P) (w:=w.drew) (k:=0) hW0.hp G0.rep e2 (z:=(z,none)) (by show zBh P s.H t (nth .u s.L ta)=_;exact hz)
       exact this
      have hr1':(execOp (a.put (some C) v).eval o1).run P w.drew= .ok (.value U) w.drew:=by
       rw[←hr1];have:(a.put (some C) v).eval (.tmp ta)=a.eval (.tmp ta):=Act.eval_put fun d W=>by
        cases W;intro e;cases e;exact hd.2 rfl
       unfold execOp;simp only[e2,this]
      have hMv:Rep B (rd w.drew Y) x v:=hM.rep.mono (BLe.refl B) Z;have G2:FrT n ((a.put (some C) v).put (some N) U) (Ev.put z (Ev.put x s.L C) N) D B (rd w.drew Y):=(G0.put (some C) hMv).put (some N) hR1;have V:(a.put (some N) U).put (some C) v=(a.put (some C) v).put (some N) U:=(Act.put_comm a v U (fun d W e=>by cases W;cases e;exact hd.1 rfl)).symm
      have j:(FF none).room ((M::cs).length+1+0):=I;have y:(FF none).room (({M with mode:=u'}::cs).length+1+0):=I
      obtain⟨e,a',w',hq,R⟩:=wp_opsIn [2,3] _ _ (tail _ _ hW0 G2 Z) b k ({M with mode:=u'}::cs) G A y
      have hs0:=stepR_region_draw (P:=P) (b:=b) (a:=a) (k:=k) (cs:=M::cs) (w:=w) (ops:=ops) (id:=id);rw[hm]at hs0;refine⟨e,a',{M with mode:=u'}::cs,w',rfl,hq,?_⟩
      refine .of_steps (.one (fenced_calm A j rfl) hs0) ?_;rcases jCq hsz c4 (w.tape w.drawn (.order b.fn id))with J | J
      ·rw[J];refine .of_steps (.one (fenced_oper A j i0 fun f _=>kY none f) (zRk hb G i0 c1 c2 hu hM)) ?_;rw[e0];refine .of_steps (.one (fenced_oper A y i1 fun f _=>kY none f) (zRl G i1 c3 hr1')) ?_;rw[e1];exact R
      ·rw[J];refine .of_steps (.one (fenced_oper A j i1 fun f _=>kY none f) (zRl G i1 c3 hr1)) ?_;rw[e1];refine .of_steps (.one (fenced_oper A j i0 fun f _=>kY none f) (zRk hb G i0 c1 c2 hu hM)) ?_;rw[e0,V];exact R
     ·cases h
   ·cases h
 ·cases h
theorem qTk{x:T}{v:Value}{u I:FrameMode}{f:Nat}{cs:List T}{caps:List Value}{H':List TO}(hm:P.follows .mixedOrders=true)(Z:kN P cl)(hyd:xK P yd)(hrn:pJ P rn)(h:zSn P cl yd rn x H (.fn f cs)=some H')(hM:zGc B (rd w Y) x v u I)
  (hW:Wd P E w0 X F H B w Y Mo) (C:zO B (rd w Y) cs caps) {R:Ending→FrameMode→World→Prop}
  (hk:∀v w' B' Y' U,Wd P E w0 X F H' B' w' Y' U→BLe B B'→Le (rd w Y) (rd w' Y')→R (.returned v) I w'):CallsDIn (FF none) 0 P f caps.toArray u w R:=by
 simp only[zSn]at h;cases hf:P.funcs[f]? with
 | none=>simp[hf]at h
 | some fn=>
  simp only[hf]at h;split at h
  ·rename_i id ops c hb q;cases N:Nat.ble (ln cs) fn.ntmps&&noR c with
   | false=>simp[N]at h
   | true=>
    simp only[N,ze]at h;simp only[zd,Nat.ble_eq,qU]at N;have hlen:=C.length;refine callsDIn_of_wpSIn hf hb (kY none f) fun J M hu=>?_;have hF:FrT fn.ntmps {tmps:=caps.toArray++Array.replicate (fn.ntmps-caps.toArray.size) undef,defers:=[]} (Ev.rest fn.ntmps cs) [] B (rd w Y):=by
     refine⟨by simp;omega,?_,rfl⟩
     have:(caps.toArray++Array.replicate (fn.ntmps-caps.toArray.size) undef).toList=caps++List.replicate (fn.ntmps-caps.length) undef:=by simp
     rw[this];refine C.app (zIp _ _ ?_);rw[qU];simp;omega
    cases W:qOc P cl yd ops x ⟨Ev.rest fn.ntmps cs,H⟩with
    | none=>simp[W]at h
    | some s1=>
     simp only[W]at h;refine wpSIn_seq (zUi hm Z hyd W hu hM hW hF fun a1 w1 B1 Y1 V g1 g2 g3 g4=>?_);show c.wpSIn (FF none) 0 P _ a1 _ w1;have hres':fn.results=#[]:=Array.ext' (by simpa using q)
     have G:∀(tm:Array Value)(z:World),(results fn tm).run P z= .ok (zBi []) z:=fun tm z=>zNl (by rw[q];rfl)
     have fin:∀(A:S)(e:Ex),rn c s1=some (e,A)→(e= .n∨e= .r)→A.H=H'→c.wpSIn (FF none) 0 P (bodyPostS P fn J M R) a1 ({J with mode:=I}::M) w1:=fun A e j he hH=>by
      refine wpSIn_of_wpIn rfl (hrn _ _ _ _ j E w0 X F fn.ntmps a1 [] B1 w1 Y1 V none _ (.inl rfl) g1 g2 fun a2 z B2 Y2 Mo2 bs y k1 k2 k3 k4=>?_);have y:=y N.2;subst y;subst hH;have hd:a2.defers=[]:=k2.defers;have hq:a2.defers=[]∧∃u2,({J with mode:=I}::M:List Frame)={J with mode:=u2}::M∧∃v,(results fn a2.tmps).run P z= .ok v z∧R (.returned v) u2 z:=
       ⟨hd,I,rfl,_,G _ _,hk _ _ _ _ _ k1 (g3.trans k3) (g4.trans k4)⟩
      rcases he with rfl | rfl
      ·exact hq
      ·exact hq
     cases j:rn c s1 with
     | none=>simp[j]at h
     | some es=>
      obtain⟨e,A⟩:=es;cases e with
      | n=>simp only[j,za]at h;exact fin A _ j (.inl rfl) h
      | r=>simp only[j,za]at h;exact fin A _ j (.inr rfl) h
      | x id=>simp[j]at h
      | p t=>simp[j]at h
  ·cases h
theorem zYh:xK P (fun _ _ _=>none):=fun l az H e H' h=>by cases h
theorem zYw(hm:P.follows .mixedOrders=true)(I:pJ P rn):kN P (zSx P rn):=by
 intro f az H tv H' h E w0 X F B w Y Mo qO R hW hA hk;unfold zSx at h;cases hf:P.funcs[f]? with
 | none=>simp[hf]at h
 | some fn=>
  simp only[hf]at h;cases hb:fn.body with
  | none=>simp[hb]at h
  | some c=>
   simp only[hb]at h;cases hl:Nat.ble (ln az) fn.ntmps with
   | false=>simp[hl]at h
   | true=>
    simp only[hl,ze]at h;rw[Nat.ble_eq,qU]at hl;have hlen:=hA.length;have hcl:=zCh I;refine pO.1 (callsIn_of_wp_marks (n:=0) hf hb (kY none f) ?_);have hF:FrT fn.ntmps {tmps:=qO.toArray++Array.replicate (fn.ntmps-qO.toArray.size) undef,defers:=[]} (Ev.rest fn.ntmps az) [] B (rd w Y):=by
     refine⟨by simp;omega,?_,rfl⟩
     have:(qO.toArray++Array.replicate (fn.ntmps-qO.toArray.size) undef).toList=qO++List.replicate (fn.ntmps-qO.length) undef:=by simp
     rw[this];refine hA.app (zIp _ _ ?_);rw[qU];simp;omega
    generalize hs0:(⟨Ev.rest fn.ntmps az,H⟩:S)=s0 at h;unfold defE at h;split at h
    ·rename_i c0 id ops c2;cases M:rn c0 s0 with
     | none=>simp[M]at h
     | some es=>
      obtain⟨e0,s1⟩:=es;cases e0 with
      | x id=>simp[M]at h
      | r=>simp[M]at h
      | p t=>simp[M]at h
      | n=>
       simp only[M]at h;cases h1:zZn P (nK P rn) (fun _ _ _=>none) ops ops.toList s1 with
       | none=>simp[h1]at h
       | some gs=>
        obtain⟨g,s2⟩:=gs;simp only[h1]at h;subst hs0;refine wpIn_seq (I _ _ _ _ M E w0 X F fn.ntmps _ [] B w Y Mo none _ (.inl rfl) hW hF fun a1 w1 B1 Y1 Mo1 G _ g1 g2 g3 g4=>?_);refine wpIn_seq (wpIn_region_list ?_);refine zWv hcl zYh ops.toList s1 s2 h1 g1 g2 (BLe.refl B1) (Le.refl _) fun a2 w2 B2 Y2 Mo2 f2 Z caps hg hcs hen k1 k2 k3 k4=>?_;subst hg;have leave:∀(y:S)(x:T)(v:Value)(u u':FrameMode)(a3:Act)(A:World)(z:Bm)(C:Hid)(q:List (Nat×Obj))(e:List Nat),u≠.run→zZe P fn y (zSn P (nK P rn) (fun _ _ _=>none) rn x y.H (.fn f2 Z))=some (tv,H')→zGc z (rd A C) x v u u'→
          Wd P E w0 X (e++(G++F)) y.H z A C q→FrT fn.ntmps a3 y.L (e.map Gv.mark++({target:= .fn (.func f2) caps.toArray,args:=#[]}::(G.map Gv.mark++[]))) z (rd A C)→BLe B2 z→Le (rd w2 Y2) (rd A C)→LeavesInM (FF none) 0 P fn a3.tmps R a3.defers u A:=fun y x v u u' a3 A z C q e hu j hM q1 U V W=>by
         cases hc:zSn P (nK P rn) (fun _ _ _=>none) rn x y.H (.fn f2 Z)with
         | none=>simp[hc,zZe]at j
         | some H4=>
          simp only[hc,zZe]at j;cases hr:dC P y.L H4 fn.results.toList with
          | none=>simp[hr]at j
          | some ts=>
           simp only[hr,za,Prod.mk.injEq]at j;obtain⟨rfl,rfl⟩:=j;rw[U.defers];refine sH hu e q1 fun w4 m1 m2=>?_;have hcs4:=hcs.mono V (W.trans m2);refine⟨hu,.inr ⟨rR none 0,.func f2,caps.toArray,f2,caps.toArray,rfl,?_,fun g _=>kY none g,?_⟩⟩
           ·simp only[invoke];simpa using nC hen caps.toArray w4
           ·refine qTk hm hcl zYh I hc (hM.mono (BLe.refl z) m2) m1 hcs4 fun v5 w5 B5 Y5 Mo5 p1 p2 p3=>?_;show LeavesInM (FF none) 0 P fn a3.tmps R (G.map Gv.mark++[]) (settle u') w5;rw[hM.settles];refine sH (by simp) G p1 fun w6 t1 t2=>?_
            have J:zO B5 (rd w6 Y5) y.L a3.tmps.toList:=U.reps.mono p2 ((m2.trans p3).trans t2);obtain⟨vs,z1,z2⟩:=zFz (a:=a3) t1 J hr;refine zAy (zNl z1) (hk _ _ _ _ _ t1 (zQq z2) (((g3.trans k3).trans V).trans p2) ?_);exact((((g4.trans k4).trans W).trans m2).trans p3).trans t2
        cases N:rn c2 s2 with
        | none=>simp[N,zYt]at h
        | some es=>
         obtain⟨e3,y⟩:=es;refine I _ _ _ _ N E w0 X _ fn.ntmps a2 _ B2 w2 Y2 Mo2 none _ (.inl rfl) k1 k2 fun a3 A z C q e _ q1 U V W=>?_;cases e3 with
         | x id=>simp[N,zYt]at h
         | n=>
          simp only[N,zYt]at h;exact leave y _ .nilIface .returning .returning a3 A z C q e (by simp) h (.inl ⟨rfl,rfl,rfl,rfl⟩) q1 U V W
         | r=>
          simp only[N,zYt]at h;exact leave y _ .nilIface .returning .returning a3 A z C q e (by simp) h (.inl ⟨rfl,rfl,rfl,rfl⟩) q1 U V W
         | p t=>
          simp only[N,zYt]at h;intro v hv;exact leave y t v _ _ a3 A z C q e (by simp) h (.inr ⟨v,hv,rfl,rfl,rfl⟩) q1 U V W
    ·cases h
theorem fG(q:P.follows .mixedOrders=true)(e:pJ P rn):kN P (fF P rn):=by
 intro f az H y H' h;unfold fF at h;cases j:nK P rn f az H with
 | some z=>
  simp only[j,za]at h;subst h;exact zCh e _ _ _ _ _ j
 | none=>
  simp only[j]at h;exact zYw q e _ _ _ _ _ h
theorem zYx(A:pJ P rn):qBh P (zSy P rn):=by
 intro f az H V H' h E w0 X F B w Y Mo qO R S C U;unfold zSy at h;cases y:P.funcs[f]? with
 | none=>simp[y]at h
 | some fn=>
  simp only[y]at h;cases hb:fn.body with
  | none=>simp[hb]at h
  | some c=>
   simp only[hb]at h;cases z:Nat.ble (ln az) fn.ntmps with
   | false=>simp[z]at h
   | true=>
    simp only[z,ze]at h;rw[Nat.ble_eq,qU]at z;have hlen:=C.length;refine pO.1 (callsIn_of_wp_marks (n:=0) y hb (kY none f) ?_);have N:FrT fn.ntmps {tmps:=qO.toArray++Array.replicate (fn.ntmps-qO.toArray.size) undef,defers:=[]} (Ev.rest fn.ntmps az) [] B (rd w Y):=by
     refine⟨by simp;omega,?_,rfl⟩
     have:(qO.toArray++Array.replicate (fn.ntmps-qO.toArray.size) undef).toList=qO++List.replicate (fn.ntmps-qO.length) undef:=by simp
     rw[this];refine C.app (zIp _ _ ?_);rw[qU];simp;omega
    cases j:rn c ⟨Ev.rest fn.ntmps az,H⟩with
    | none=>simp[j,zZw]at h
    | some es=>
     obtain⟨e,s⟩:=es;cases e with
     | n=>simp[j,zZw]at h
     | x id=>simp[j,zZw]at h
     | r=>simp[j,zZw]at h
     | p t=>
      simp only[j,zZw,za,Prod.mk.injEq]at h;obtain⟨rfl,rfl⟩:=h;refine A _ _ _ _ j E w0 X F fn.ntmps _ [] B w Y Mo none _ (.inl rfl) S N fun a' w' B' Y' q bs _ g1 I J M v hv=>?_;show LeavesInM (FF none) 0 P fn a'.tmps R a'.defers (.panicking _) w';rw[I.defers];refine sH (by simp) bs g1 fun G k1 k2=>?_
      show R (.panicked _) G;exact U v G B' Y' q k1 (hv.mono (BLe.refl B') k2) J (M.trans k2)
def qBi(P:Program)(j:Oo):Prop:=∀H f az e,j H f az=some e→Kn P f az H e H
theorem sS:qBi P noS:=fun H f az e h=>by cases h
theorem qCf{j:Oo}(M:P.follows .mixedOrders=true)(I:qBi P j)(G:qR P O)(q:pJ P rn):kN P (zJm P j O rn):=by
 intro f az H A H' h;unfold zJm at h;cases hs:j H f az with
 | some z=>
  simp only[hs,za,Prod.mk.injEq]at h;obtain⟨rfl,rfl⟩:=h;exact I _ _ _ _ hs
 | none=>
 simp only[hs]at h;cases ho:poC O H f az with
 | some z=>
  simp only[ho,za,Prod.mk.injEq]at h;obtain⟨rfl,rfl⟩:=h;intro E w0 X F B w Y Mo qO R e C J;exact qHg (k:=H.length) (fun f az A nw h=>G f az A nw h _) ho e.ow e.ivw e.bNle e.st.lt e.nn C fun v w' y hv=>J v w' B Y Mo (e.call y) hv (BLe.refl B) (y.le Y)
 | none=>simp only[ho]at h;exact fG M q _ _ _ _ _ h
end
section
variable {P:Program}{H:List TO}{k:Nat}{ρ ρ':Operand→T}
theorem zCx{l:List Operand}(h:∀x∈l,ρ x=ρ' x):l.map ρ=l.map ρ':=List.map_congr_left h
theorem zJy{ps:Array (Nat×Operand)}(h:∀x∈(ps.toList.map (·.2)),ρ x=ρ' x):evP ρ ps=evP ρ' ps:=by
 unfold evP;refine List.map_congr_left fun p hp=>?_;rw[h p.2 (List.mem_map.2 ⟨p,hp,rfl⟩)]
theorem lT(op:Op)(h:∀x∈op.operands,ρ x=ρ' x):kX P H k ρ op=kX P H k ρ' op:=by
 cases op with
 | build t ps=>simp only[kX];rw[zJy (fun x j=>h x (by simpa[Op.operands]using j))]
 | buildSlice t n ps=>simp only[kX];rw[zJy (fun x j=>h x (by simpa[Op.operands]using j))]
 | makeFunc fn first caps=>simp only[kX];rw[zCx (l:=caps.toList) (fun x j=>h x (by simp[Op.operands];exact .inr (by simpa using j))),zCx (l:=first.toList) (fun x j=>h x (by simp[Op.operands];exact .inl (by simpa using j)))]
 | slice t x z f A=>
  have key:∀σ σ':Operand→T,(∀y∈(Op.slice t x z f A).operands,σ y=σ' y)→nN P t (σ x) σ z f A=nN P t (σ' x) σ' z f A:=fun σ σ' h=>by
   have G:=h x (by simp[Op.operands])
   have U:∀a,z=some a→σ a=σ' a:=fun a e=>h a (by simp[Op.operands,e])
   have V:∀a,f=some a→σ a=σ' a:=fun a e=>h a (by simp[Op.operands,e])
   have W:∀a,A=some a→σ a=σ' a:=fun a e=>h a (by simp[Op.operands,e])
   have J:∀d,opt σ d z=opt σ' d z:=fun d=>by cases z<;>simp[opt, *]
   have M:∀d,opt σ d f=opt σ' d f:=fun d=>by cases f<;>simp[opt, *]
   have N:∀y s l u,tL σ y s l u f A=tL σ' y s l u f A:=fun y s l u=>by cases A<;>simp[tL, *]
   simp only[nN,G,J,M,N]
  exact key (fun y=>dn (ρ y)) (fun y=>dn (ρ' y)) fun y I=>congrArg dn (h y I)
 | call c=>
  simp only[kX,zEk];split
  ·rename_i x t R C S;show _=_;simp only[h x (by simp only[Op.operands,Call.operands,Array.mem_append];right;rw[←Array.mem_toList_iff,C];simp)]
  ·rfl
 | makeMap t q=>cases q<;>simp[kX]
 | _=>simp only[kX]<;>simp_all [Op.operands]
theorem zIi:∀{l:List Operand},(∀x∈l,ρ x=ρ' x)→zRf ρ l=zRf ρ' l
 | [],_=>rfl
 | x::l,h=>by
  simp only[zRf];rw[h x List.mem_cons_self,zIi fun y e=>h y (List.mem_cons_of_mem _ e)]
theorem aO(o:Oper)(h:∀x∈o.op.operands,ρ x=ρ' x):zBa P ρ o=zBa P ρ' o:=by
 unfold zBa;rw[zIi (fun x e=>h x (by simpa using e))]
 cases hn:zPz o.op with
 | false=>rfl
 | true=>
  rw[execOp_congr o (lK hn) fun x e=>(by simp only[sAt,h x e]:sAt ρ x=sAt ρ' x)]
end
section
variable {P:Program}{E:Nat→Prop}{w0:World}{X:Hid}{F:List Nat}{H:List TO}{B B':Bm}{w w':World}{Y Y':Hid}{Mo:List (Nat×Obj)}{o:Oper}{r r':Rd}{n:Nat}{a:Act}{L:List T}{D:List Deferred}{Q:Exit→Act→World→Prop}{K:Act→World→Prop}{po:Po}{ops:Array Oper}{rn:Rn}{cl yd:Cl}{rr:Option Nat}{O:Po}
theorem zKe{H0:List TO}:∀(l:List Oper)(seen:List Nat)(f:List TO)(L:List T)(i:Nat)(z:T×Option TO),(sW P po H0 H ops l seen f L)[i]?=some z→
  ∃o,l[i]?=some o∧xE P po H0 H (f++qI ((sW P po H0 H ops l seen f L).take i)) (kI l ((sW P po H0 H ops l seen f L).take i) L) ops o=some z
 | [],seen,f,L,i,z,h=>by simp[sW]at h
 | o::l,seen,f,L,i,z,h=>by
  simp only[sW]at h ⊢;cases hs:zNn o seen with
  | true=>simp[hs]at h
  | false=>
  simp only[hs,zf]at h ⊢;cases ho:xE P po H0 H f L ops o with
  | none=>simp[ho]at h
  | some y=>
   simp only[ho]at h ⊢;cases i with
   | zero=>simp at h;subst h;exact⟨o,rfl,by simpa[qI,kI]using ho⟩
   | succ i=>
    obtain⟨o',j,q⟩:=zKe l (zRh o seen) (nxH f y.2) (dst o.dst y.1 L) i z (by simpa using h)
    refine⟨o',by simpa using j,?_⟩
    simp only[List.take_succ_cons,kI];have e:f++qI (y::(sW P po H0 H ops l (zRh o seen) (nxH f y.2) (dst o.dst y.1 L)).take i)=nxH f y.2++qI ((sW P po H0 H ops l (zRh o seen) (nxH f y.2) (dst o.dst y.1 L)).take i):=by
     obtain⟨t,ob⟩:=y;cases ob<;>simp[qI,nxH]
    rw[e];exact q
theorem zPj{H0:List TO}:∀(l:List Oper)(seen:List Nat)(e:List TO)(L:List T),(sW P po H0 H ops l seen e L).length≤l.length
 | [],_,_,_=>by simp[sW]
 | o::l,seen,e,L=>by
  simp only[sW];cases zNn o seen with
  | true=>simp
  | false=>
   simp only[zf];split
   ·simp;exact zPj l _ _ _
   ·simp
theorem pY(d:Option Nat)(t:T)(L:List T):(dst d t L).length=L.length:=by
 cases d with
 | none=>rfl
 | some d=>simp[dst,yJ]
theorem bC:∀(l:List Oper)(rs:List (T×Option TO))(L:List T),(kI l rs L).length=L.length
 | [],_,_=>rfl
 | _::_,[],_=>rfl
 | o::l,z::rs,L=>by rw[kI,bC l rs,pY]
theorem yS{d:Option Nat}{t:T}{L:List T}{x:Nat}(h:d≠some x):nth .u (dst d t L) x=nth .u L x:=by
 cases d with
 | none=>rfl
 | some d=>
  have:d≠x:=fun e=>h (by rw[e])
  simp only[dst,yJ,qX,zh,List.getElem?_set_ne this]
theorem zAm{t:T}{L:List T}{x:Nat}(h:x<L.length):nth .u (dst (some x) t L) x=t:=by
 simp[dst,yJ,qX,h]
theorem mK:∀(l:List Oper)(rs:List (T×Option TO))(L:List T)(x:Nat),(∀(j:Nat)(o:Oper),j<rs.length→l[j]?=some o→o.dst≠some x)→nth .u (kI l rs L) x=nth .u L x
 | [],_,_,_,_=>rfl
 | _::_,[],_,_,_=>rfl
 | o::l,z::rs,L,x,h=>by
  rw[kI,mK l rs _ x (fun j o' e ho=>h (j+1) o' (by simpa using e) (by simpa using ho)),yS (h 0 o (by simp) rfl)]
theorem bD:∀(l:List Oper)(rs:List (T×Option TO))(L:List T)(x i:Nat)(o:Oper)(z:T×Option TO),x<L.length→l[i]?=some o→rs[i]?=some z→o.dst=some x→(∀(j:Nat)(o':Oper),j≠i→j<rs.length→l[j]?=some o'→o'.dst≠some x)→nth .u (kI l rs L) x=z.1
 | [],_,_,_,i,_,_,_,h,_,_,_=>by simp at h
 | _::_,[],_,_,i,_,_,_,_,h,_,_=>by simp at h
 | C::l,G::rs,L,x,0,o,z,y,ho,e,hd,h=>by
  simp at ho e;subst ho;subst e;rw[kI,mK l rs _ x (fun j o' f ho=>h (j+1) o' (by simp) (by simpa using f) (by simpa using ho)),hd,zAm y]
 | C::l,G::rs,L,x,i+1,o,z,y,ho,e,hd,h=>by
  rw[kI];exact bD l rs _ x i o z (by rw[pY];exact y) (by simpa using ho) (by simpa using e) hd fun j o' f A q=>h (j+1) o' (by simpa using f) (by simpa using A) (by simpa using q)
theorem dN{t:Nat}:∀{l:List Oper}{i:Nat},wrt t l i=none→∀(j:Nat)(o:Oper),l[j]?=some o→o.dst≠some t
 | [],_,_,j,o,h=>by simp at h
 | f::l,i,h,j,o,ho=>by
  simp only[wrt]at h;cases hd:f.dst with
  | none=>
   simp only[hd]at h;cases j with
   | zero=>simp at ho;subst ho;rw[hd];simp
   | succ j=>exact dN h j o (by simpa using ho)
  | some d=>
   simp only[hd]at h;cases hb:Nat.beq d t with
   | true=>simp[hb]at h
   | false=>
    simp only[hb,zf]at h;cases j with
    | zero=>simp at ho;subst ho;rw[hd];intro e;cases e;simp at hb
    | succ j=>exact dN h j o (by simpa using ho)
theorem zCb{t:Nat}:∀{l:List Oper}{i q:Nat},wrt t l i=some q→∃(j:Nat)(o:Oper),q=i+j∧l[j]?=some o∧o.dst=some t
 | [],_,_,h=>by simp[wrt]at h
 | y::l,i,q,h=>by
  simp only[wrt]at h;cases hd:y.dst with
  | none=>
   simp only[hd]at h;obtain⟨j,o,z,e,f⟩:=zCb h;exact⟨j+1,o,by omega,by simpa using e,f⟩
  | some d=>
   simp only[hd]at h;cases hb:Nat.beq d t with
   | true=>
    simp only[hb,ze,za]at h;obtain rfl:=zY hb;exact⟨0,y,by omega,rfl,hd⟩
   | false=>
    simp only[hb,zf]at h;obtain⟨j,o,z,e,f⟩:=zCb h;exact⟨j+1,o,by omega,by simpa using e,f⟩
theorem zEr{i:Nat}(h:zUq o i=true):∃e∈o.after,Region.binds .any e=true∧e.on=i:=by
 unfold zUq at h;rw[List.any_eq_true]at h;obtain⟨e,f,hb⟩:=h;simp only[zd]at hb;exact⟨e,by simpa using f,hb.1,zY hb.2⟩
theorem xM{hd:List Oper}:∀{l:List Oper}{i:Nat},zGw ops hd l i=true→∀(j:Nat)(o:Oper),l[j]?=some o→
  (∀x∈o.op.operands.toList,qGe hd o (i+j) x=true)∧qEd ops hd o (i+j)=true∧∀d,o.dst=some d→∀(q:Nat)(o':Oper),j<q→l[q]?=some o'→o'.dst≠some d
 | [],_,_,j,o,h=>by simp at h
 | J::l,i,h,j,o,ho=>by
  simp only[zGw,zd]at h;cases j with
  | zero=>
   simp at ho;subst ho;refine⟨fun x I=>List.all_eq_true.1 h.1.1 x I,h.1.2,fun d hd q o' G e=>?_⟩;have z:=h.2.1;simp only[hd]at z;cases A:wrt d l 0 with
   | some y=>simp[A]at z
   | none=>
    cases q with
    | zero=>omega
    | succ q=>exact dN A q o' (by simpa using e)
  | succ j=>
   obtain⟨g1,f,C⟩:=xM h.2.2 j o (by simpa using ho)
   rw[show i+1+j=i+(j+1)by omega]at g1 f
   refine⟨g1,f,fun d hd q o' G e=>?_⟩;cases q with
   | zero=>omega
   | succ q=>exact C d hd q o' (by omega) (by simpa using e)
def zIy(ops:List Oper)(S:Nat→Prop):Prop:=∀(i:Nat)(o:Oper),ops[i]?=some o→S i→∀e∈o.after,Region.binds .any e=true→S e.on
theorem zHh{acc:List Nat}{q:Nat}:∀{es:List Edge},(zHg acc es).testBit q=true→∃e∈es,Region.binds .any e=true∧(e.on=q∨(nth 0 acc e.on).testBit q=true)
 | [],h=>by simp[zHg]at h
 | e::es,h=>by
  unfold zHg at h;cases hb:Region.binds .any e with
  | false=>
   simp only[hb,zf]at h;obtain⟨f,j,y⟩:=zHh h;exact⟨f,List.mem_cons_of_mem _ j,y⟩
  | true=>
   simp only[hb,ze]at h;have h:((2^e.on||| nth 0 acc e.on)||| zHg acc es).testBit q=true:=h
   rw[Nat.testBit_or,Nat.testBit_or,Nat.testBit_two_pow]at h;simp only[Bool.or_eq_true,decide_eq_true_eq]at h;rcases h with(h | h) | h
   ·exact⟨e,List.mem_cons_self,hb,.inl h⟩
   ·exact⟨e,List.mem_cons_self,hb,.inr h⟩
   ·obtain⟨f,j,y⟩:=zHh h;exact⟨f,List.mem_cons_of_mem _ j,y⟩
def qBe(ops:List Oper)(acc:List Nat):Prop:=∀(j k:Nat)(o:Oper),acc[j]?=some k→ops[j]?=some o→∀q,k.testBit q=true→∀S,zIy ops S→(∀e∈o.after,Region.binds .any e=true→S e.on)→S q
theorem zPx{ops:List Oper}:∀(l:List Oper)(acc:List Nat),ops.drop acc.length=l→qBe ops acc→qBe ops (wY l acc)
 | [],acc,_,h=>h
 | o::l,acc,hd,h=>by
  unfold wY;have ho:ops[acc.length]?=some o:=by
   have:=congrArg (·[0]?) hd;simpa using this
  refine zPx l _ ?_ ?_
  ·rw[List.length_append,List.length_singleton,←List.drop_drop,hd];rfl
  ·intro j k o' A f q M S I hp;rcases Nat.lt_or_ge j acc.length with hlt | U
   ·rw[List.getElem?_append_left hlt]at A;exact h j k o' A f q M S I hp
   ·have J:j=acc.length:=by
     have:=(List.getElem?_eq_some_iff.1 A).1;simp at this;omega
    subst J;rw[ho]at f;cases f;simp at A;subst A;obtain⟨e,R,hb,y⟩:=zHh M;have z:=hp e (by simpa using R) hb
    rcases y with rfl | y
    ·exact z
    ·cases hn:acc[e.on]? with
     | none=>rw[qX,zh,hn]at y;simp at y
     | some k2=>
      have N:nth 0 acc e.on=k2:=by rw[qX,zh,hn];rfl
      rw[N]at y;have hlt:=(List.getElem?_eq_some_iff.1 hn).1;have V:=(List.getElem?_eq_some_iff.1 ho).1;obtain⟨G,C⟩:∃G,ops[e.on]?=some G:=⟨ops[e.on]'(by omega),by simp⟩
      exact h e.on k2 G hn C q y S I (I e.on G C z)
theorem zCv{m:Nat}{ld e:List Nat}{o:Oper}{q:Nat}:∀{l:List Oper}{i:Nat},(zAx ops m ld e o l i).testBit q=true→∃(j:Nat)(p:Oper),q=i+j∧l[j]?=some p∧xX m ld e q p=true∧bZ ops o p=true
 | [],i,h=>by simp[zAx]at h
 | p::l,i,h=>by
  unfold zAx at h;cases hb:xX m ld e i p&&bZ ops o p with
  | false=>
   simp only[hb,zf]at h;obtain⟨j,z,A,f,y⟩:=zCv h;exact⟨j+1,z,by omega,by simpa using f,y⟩
  | true=>
   simp only[hb,ze]at h;have h:(2^i||| zAx ops m ld e o l (i+1)).testBit q=true:=h
   rw[Nat.testBit_or,Nat.testBit_two_pow]at h;simp only[Bool.or_eq_true,decide_eq_true_eq]at h;rcases h with h | h
   ·simp only[zd]at hb;subst h;exact⟨0,p,by omega,rfl,hb.1,hb.2⟩
   ·obtain⟨j,z,A,f,y⟩:=zCv h;exact⟨j+1,z,by omega,by simpa using f,y⟩
theorem zLd{m:Nat}{ld y:List Nat}:∀{hd:List Oper}{l:List Nat}{l2:List Oper}{i:Nat},aW ops m ld y hd l l2 i=true→∀(j k:Nat)(o:Oper),l[j]?=some k→l2[j]?=some o→∀q,q<i+j→k.testBit q=true∨∃p,(hd++l2.take j)[q]?=some p∧xX m ld y q p=true∧bZ ops o p=true
 | _,[],_,_,_,j,k,o,h,_=>by simp at h
 | _,_::_,[],_,_,j,k,o,_,h=>by simp at h
 | hd,k1::l,I::l2,i,h,j,k,o,A,ho=>by
  simp only[aW,zd]at h;cases j with
  | zero=>
   simp at ho A;subst ho;subst A;intro q f;have f:q<i:=by simpa using f
   have C:=h.1;cases hb:Nat.beq k1 (Nat.sub (Nat.pow 2 i) 1)with
   | true=>
    have e:k1=2^i-1:=zY hb;left;rw[e,Nat.testBit_two_pow_sub_one];simpa using f
   | false=>
    simp only[hb,zf]at C;have e:k1||| zAx ops m ld y I hd 0=2^i-1:=zY C
    have:(k1||| zAx ops m ld y I hd 0).testBit q=true:=by rw[e,Nat.testBit_two_pow_sub_one];simpa using f
    rw[Nat.testBit_or,Bool.or_eq_true]at this;rcases this with z | z
    ·exact .inl z
    ·obtain⟨j,p,J,G⟩:=zCv z;obtain rfl:q=j:=by omega
     exact .inr ⟨p,by simpa using G.1,G.2⟩
  | succ j=>
   rw[show i+(j+1)=i+1+j by omega]
   intro q f;have:=zLd h.2 j k o (by simpa using A) (by simpa using ho) q f
   simpa using this
theorem zKp:∀(l:List Oper)(acc:List Nat),(wY l acc).length=acc.length+l.length
 | [],acc=>rfl
 | o::l,acc=>by unfold wY;rw[zKp l,List.length_append,List.length_singleton,List.length_cons];omega
theorem zNs{ld A:List Nat}{l:List Oper}{m:Nat}(h:aW ops m ld A (l.take m) ((wY l []).drop m) (l.drop m) m=true)(j:Nat)(o:Oper)(I:m≤j)(ho:l[j]?=some o)(q:Nat)(J:q<j):
  (∀S:Nat→Prop,zIy l S→(∀e∈o.after,Region.binds .any e=true→S e.on)→S q)∨∃p,l[q]?=some p∧xX m ld A q p=true∧bZ ops o p=true:=by
 have y:=(List.getElem?_eq_some_iff.1 ho).1;have z:j<(wY l []).length:=by rw[zKp];simpa using y
 rcases zLd h (j-m) ((wY l [])[j]) o (by rw[List.getElem?_drop,show m+(j-m)=j by omega];simp[z]) (by rw[List.getElem?_drop,show m+(j-m)=j by omega];exact ho) q (by omega)with f | ⟨p,f,C⟩
 ·exact .inl fun S G hp=>zPx l [] (by simp) (fun j k o h=>by simp at h) j ((wY l [])[j]) o (by simp[z]) ho q f S G hp
 ·rw[←List.take_add,List.getElem?_take]at f;split at f
  ·exact .inr ⟨p,f,C⟩
  ·cases f
theorem zOg{o:Oper}:∀{l:List Oper},qBq o l=true→∀p∈l,(yA p||bU p)=true→wfr o p=true
 | [],_,p,hp,_=>by cases hp
 | q::l,h,p,hp,e=>by
  simp only[qBq,zd]at h;rcases List.mem_cons.1 hp with rfl | hp
  ·have:=h.1;rwa[e,ze]at this
  ·exact zOg h.2 p hp e
theorem qIo:∀{l pre:List Oper}{j q:Nat},inN q (vlE pre l j)=true→∃(k:Nat)(o:Oper),q=j+k∧l[k]?=some o∧yA o=true∧slf o=true∧∀p∈pre++l.take k,(yA p||bU p)=true→wfr o p=true
 | [],pre,j,q,h=>by cases h
 | o::l,pre,j,q,h=>by
  have next:inN q (vlE (pre++[o]) l (j+1))=true→∃(k:Nat)(o':Oper),q=j+k∧(o::l)[k]?=some o'∧yA o'=true∧slf o'=true∧∀p∈pre++(o::l).take k,(yA p||bU p)=true→wfr o' p=true:=fun h=>by
   obtain⟨k,o',C,e,f,y,z⟩:=qIo h;exact⟨k+1,o',by omega,by simpa using e,f,y,fun p hp=>z p (by simpa using hp)⟩
  unfold vlE at h;cases hb:yA o&&(slf o&&qBq o pre)with
  | false=>simp only[hb,zf]at h;exact next h
  | true=>
   simp only[hb,ze,inN,Bool.or_eq_true]at h;simp only[zd]at hb;rcases h with h | h
   ·exact⟨0,o,by rw[←zY h];rfl,rfl,hb.1,hb.2.1,fun p hp A=>zOg hb.2.2 p (by simpa using hp) A⟩
   ·exact next h
theorem qOu{m i:Nat}{o:Oper}(h:inN i (vlR ops m)=true)(ho:ops[i]?=some o):yA o=true∧slf o=true∧∀(q:Nat)(p:Oper),q<i→ops[q]?=some p→(yA p||bU p)=true→wfr o p=true:=by
 obtain⟨k,o',j,e,y,z,A⟩:=qIo h;rw[List.getElem?_drop,←j]at e;have:ops.toList[i]?=some o:=by simpa using ho
 rw[this]at e;cases e;refine⟨y,z,fun q p G hp C=>A p ?_ C⟩;rw[←List.take_add,←j];have f:ops.toList[q]?=some p:=by simpa using hp
 exact List.mem_of_getElem? (by rw[List.getElem?_take,if_pos G];exact f)
theorem zWm{d:Nat}{x:Operand}(h:fP d x=true){t:Nat}(e:x= .tmp t):t≠d:=by
 subst e;intro e;subst e;simp[fP]at h
theorem zRp{o p:Oper}(h:wfr o p=true):∀x,o.dst=some x→(∀d,p.dst=some d→x≠d)∧∀t,Operand.tmp t∈p.op.operands→t≠x:=by
 intro x j;unfold wfr at h;rw[j]at h;simp only[zd]at h;refine⟨fun d hd e=>?_,fun t ht=>zWm (List.all_eq_true.1 h.2 _ (by simpa using ht)) rfl⟩
 have f:=h.1;rw[hd]at f;subst e;simp at f
theorem zRj{o:Oper}(h:slf o=true):∀x,o.dst=some x→∀t,Operand.tmp t∈o.op.operands→t≠x:=by
 intro x e t ht;unfold slf at h;rw[e]at h;exact zWm (List.all_eq_true.1 h _ (by simpa using ht)) rfl
theorem zAn:∀{l:List Oper}{i:Nat},zGo l i=true→∀(j:Nat)(o:Oper),l[j]?=some o→∀e∈o.after,Region.binds .any e=true→e.on<i+j
 | [],_,_,j,o,h=>by simp at h
 | q::l,i,h,j,o,ho=>by
  simp only[zGo,zd]at h;cases j with
  | zero=>
   simp at ho;subst ho;intro e f hb;have:=List.all_eq_true.1 h.1 e (by simpa using f)
   rw[hb]at this;simpa[Nat.blt_eq]using this
  | succ j=>rw[show i+(j+1)=i+1+j by omega];exact zAn h.2 j o (by simpa using ho)
theorem zLe:∀l:List T,jN l.length l=some l
 | []=>rfl
 | x::l=>by simp[jN,zLe l]
theorem zMm:∀(l:List Oper)(rs:List (T×Option TO))(L:List T)(i:Nat)(o:Oper)(z:T×Option TO),l[i]?=some o→rs[i]?=some z→(ksE l rs L)[i]?=some (match z.2 with | some _=>pK (kI l (rs.take i) L) o.op | none=>none)
 | [],_,_,_,_,_,h,_=>by simp at h
 | _::_,[],_,_,_,_,_,h=>by simp at h
 | j::l,q::rs,L,0,o,z,e,f=>by simp at e f;subst e;subst f;rfl
 | j::l,q::rs,L,i+1,o,z,e,f=>by
  simp only[ksE,List.take_succ_cons,kI];exact zMm l rs _ i o z (by simpa using e) (by simpa using f)
theorem qEt:∀(l:List Oper)(rs:List (T×Option TO))(L:List T),(ksE l rs L).length≤rs.length
 | [],_,_=>by simp[ksE]
 | _::_,[],_=>by simp[ksE]
 | o::l,z::rs,L=>by simp only[ksE,List.length_cons];have:=qEt l rs (dst o.dst z.1 L);omega
theorem zGv{q:Nat}:∀{ks:List (Option Nat)},zJc q ks=true↔some q∈ks
 | []=>by simp[zJc]
 | some k::ks=>by
  simp only[zJc,Bool.or_eq_true,List.mem_cons,za,zGv];exact or_congr ⟨fun h=>(zY h).symm,fun h=>by subst h;simp⟩ Iff.rfl
 | none::ks=>by simp[zJc,zGv]
theorem bB{H:List TO}:∀{ks:List (Option Nat)},zMl H ks=true→(∀q,some q∈ks→nth .gone H q= .gone)∧∀(i j q:Nat),ks[i]?=some (some q)→ks[j]?=some (some q)→i=j
 | [],_=>⟨fun q h=>(nomatch h),fun i j q h=>(by simp at h)⟩
 | none::ks,h=>by
  obtain⟨A,C⟩:=bB (ks:=ks) (by simpa[zMl]using h)
  refine⟨fun q z=>A q (by simpa using z),fun i j q f y=>?_⟩
  cases i with
  | zero=>simp at f
  | succ i=>cases j with
   | zero=>simp at y
   | succ j=>rw[C i j q (by simpa using f) (by simpa using y)]
 | some k::ks,h=>by
  simp only[zMl,zd,Bool.not_eq_true']at h;obtain⟨A,C⟩:=bB (ks:=ks) h.2.2;have hn:∀q,q=k→some q∉ks:=fun q e I=>by
   subst e;have:=h.1;rw[zGv.2 I]at this;cases this
  refine⟨fun q z=>?_,fun i j q f y=>?_⟩
  ·rcases List.mem_cons.1 z with e | z
   ·cases e;have:=h.2.1;cases G:nth .gone H k<;>rw[G]at this<;>first | rfl | (simp[qEk]at this)
   ·exact A q z
  ·cases i with
   | zero=>
    simp at f;cases j with
    | zero=>rfl
    | succ j=>exact absurd (List.mem_of_getElem? (by simpa using y:ks[j]?=some (some q))) (hn q f.symm)
   | succ i=>cases j with
    | zero=>simp at y;exact absurd (List.mem_of_getElem? (by simpa using f:ks[i]?=some (some q))) (hn q y.symm)
    | succ j=>rw[C i j q (by simpa using f) (by simpa using y)]
theorem mJ:∀(ks:List (Option Nat))(H:List TO)(q:Nat),(xV ks H)[q]?=if some q∈ks then H[q]?.map (fun _=>TO.gone)else H[q]?
 | [],H,q=>by simp[xV]
 | none::ks,H,q=>by simp[xV,mJ ks H q]
 | some k::ks,H,q=>by
  simp only[xV];rw[mJ ks,yJ];by_cases e:k=q
  ·subst e;by_cases j:k<H.length
   ·simp[j]
   ·have:H[k]?=none:=List.getElem?_eq_none (by omega)
    simp[this,List.getElem?_set,j]
  ·rw[List.getElem?_set_ne e];have:(some q∈some k::ks)↔some q∈ks:=by
    simp only[List.mem_cons,za];exact⟨fun h=>h.resolve_left (fun y=>e y.symm),.inr⟩
   by_cases f:some q∈ks
   ·rw[if_pos f,if_pos (this.2 f)]
   ·rw[if_neg f,if_neg (fun h=>f (this.1 h))]
theorem zKi(ks:List (Option Nat)):∀H:List TO,(xV ks H).length=H.length:=by
 induction ks with
 | nil=>intro H;rfl
 | cons k ks e=>
  intro H;cases k with
  | none=>simpa[xV]using e H
  | some q=>simp only[xV];rw[e,yJ];simp
end
section
variable {P:Program}{E:Nat→Prop}{w0:World}{X:Hid}{F:List Nat}{H:List TO}{B B' B0:Bm}{w w':World}{Y Y':Hid}{Mo:List (Nat×Obj)}{o:Oper}{r r' r0:Rd}{n:Nat}{a:Act}{L:List T}{D:List Deferred}{Q:Exit→Act→World→Prop}{K:Act→World→Prop}{po:Po}{ops:Array Oper}{rn:Rn}{cl yd:Cl}{rr:Option Nat}{O:Po}{rs:List (T×Option TO)}{l:Array Bool}
theorem Wd.fill(h:Wd P E w0 X F H B w Y Mo){i g C:Nat}{o:TO}{ob:Obj}(hi:H[i]?=some .gone)(hBi:B i=none)(S:vL o=true)(hR:RO P B (rd w Y) C o ob)(hg:g=w.heap.size):
  Wd P E w0 X F (H.set i o) (rG B i (g,C)) (w.alloc ob) (zAt w.heap.size Y) ((g,ob)::Mo)∧BLe B (rG B i (g,C)):=by
 subst hg;have hS:=h.st.alloc ob;have y:Le (rd w Y) (rd (w.alloc ob) (zAt w.heap.size Y)):=Le.hide_new ob;have z:BLe B (rG B i (w.heap.size,C)):=BLe.set hBi;have hlt:i<H.length:=(List.getElem?_eq_some_iff.1 hi).1;have R:∀p∈Mo,p.1≠w.heap.size:=fun p hp e=>by
  have:=(Array.getElem?_eq_some_iff.1 (h.st.own p (List.mem_append_left _ hp)).1).1;omega
 have hget:∀(j:Nat)(x:TO),(H.set i o)[j]?=some x→(j≠i∧H[j]?=some x)∨(j=i∧x=o):=fun j x f=>by
  by_cases e:i=j
  ·subst e;rw[List.getElem?_set_self hlt]at f;cases f;exact .inr ⟨rfl,rfl⟩
  ·rw[List.getElem?_set_ne e]at f;exact .inl ⟨fun e'=>e e'.symm,f⟩
 refine⟨⟨hS,fun j x f U=>?_,fun j cs f=>?_,fun j V=>?_,fun j1 j2 o1 o2 p q J W N l2 hp A e=>?_,h.bN,h.iv⟩,z⟩
 ·rcases hget j x f with⟨_,f⟩ | ⟨rfl,rfl⟩
  ·obtain⟨b,I,G,g1,M,g3⟩:=h.ob j x f U;exact⟨b,I,G,z _ _ g1,List.mem_cons_of_mem _ M,g3.mono z y⟩
  ·exact⟨_,C,ob,qJ _ _ _,List.mem_cons_self,hR.mono z y⟩
 ·rcases hget j _ f with⟨_,f⟩ | ⟨rfl,e⟩
  ·obtain⟨b,I,g1,M⟩:=h.fz j cs f;exact⟨b,I,z _ _ g1,M.mono z y⟩
  ·subst e;cases S
 ·simp at V;rw[jU _ _ (by omega)]
  exact h.nn j V
 ·have own:∀(i:Nat)(x:TO)(p:Nat×Nat),H[i]?=some x→vL x=true→B i=some p→p.1≠w.heap.size:=fun i x p f S hp=>by
   obtain⟨b,I,G,J,N,_⟩:=h.ob i x f S;rw[hp]at J;cases J;exact R _ N
  rcases hget j1 _ J with⟨Z,k1⟩ | ⟨rfl,rfl⟩<;>rcases hget j2 _ N with⟨n2,k2⟩ | ⟨rfl,rfl⟩
  ·rw[jU _ _ Z]at hp;rw[jU _ _ n2]at A;exact h.inj _ _ _ _ _ _ k1 W k2 l2 hp A e
  ·rw[jU _ _ Z]at hp;rw[qJ]at A;cases A;exact absurd e (own _ _ p k1 W hp)
  ·rw[jU _ _ n2]at A;rw[qJ]at hp;cases hp;exact absurd e.symm (own _ _ q k2 l2 A)
  ·rfl
def jB(l:Array Bool):Nat→List (T×Option TO)→List TO
 | _,[]=>[]
 | j,(_,some ob)::rs=>(if l.getD j false=true then ob else .gone)::jB l (j+1) rs
 | j,(_,none)::rs=>jB l (j+1) rs
noncomputable def pos(rs:List (T×Option TO))(i:Nat):Nat:=(qI (rs.take i)).length
theorem zDa(l:Array Bool):∀(j:Nat)(rs:List (T×Option TO)),(jB l j rs).length=(qI rs).length
 | _,[]=>rfl
 | j,(_,some ob)::rs=>by simp[jB,qI,zDa l (j+1) rs]
 | j,(_,none)::rs=>by simp[jB,qI,zDa l (j+1) rs]
theorem wL{t:T}{ob:Option TO}{rs:List (T×Option TO)}{i:Nat}:pos ((t,ob)::rs) (i+1)=(match ob with | some _=>1 | none=>0)+pos rs i:=by
 cases ob<;>simp[pos,qI]<;>omega
theorem bL(l:Array Bool):∀(rs:List (T×Option TO))(j i:Nat)(t:T)(ob:TO),rs[i]?=some (t,some ob)→(jB l j rs)[pos rs i]?=some (if l.getD (j+i) false=true then ob else .gone)
 | [],_,_,_,_,h=>by simp at h
 | (f,some e)::rs,j,0,t,ob,h=>by simp at h;obtain⟨_,rfl⟩:=h;simp[jB,pos,qI]
 | (f,none)::rs,j,0,t,ob,h=>by simp at h
 | (f,some e)::rs,j,i+1,t,ob,h=>by
  rw[wL,show j+(i+1)=j+1+i by omega,←bL l rs (j+1) i t ob (by simpa using h)]
  simp only[jB];rw[Nat.add_comm 1,List.getElem?_cons_succ]
 | (f,none)::rs,j,i+1,t,ob,h=>by
  rw[wL,show j+(i+1)=j+1+i by omega,←bL l rs (j+1) i t ob (by simpa using h)]
  simp[jB]
theorem bM(l:Array Bool){x:Nat}:∀(rs:List (T×Option TO))(j:Nat),(x<j∨j+rs.length≤x)→jB (l.setIfInBounds x true) j rs=jB l j rs
 | [],_,_=>rfl
 | (t,some ob)::rs,j,h=>by
  simp only[jB];rw[bM l rs (j+1) (by simp at h;omega),getD_set_ne false (by simp at h;omega)]
 | (t,none)::rs,j,h=>by
  simp only[jB];rw[bM l rs (j+1) (by simp at h;omega)]
theorem aP(l:Array Bool):∀(rs:List (T×Option TO))(j i:Nat)(t:T),rs[i]?=some (t,none)→jB (l.setIfInBounds (j+i) true) j rs=jB l j rs
 | [],_,_,_,h=>by simp at h
 | (f,some e)::rs,j,0,t,h=>by simp at h
 | (f,none)::rs,j,0,t,h=>by simp only[jB];exact bM l rs (j+1) (.inl (by omega))
 | (f,some e)::rs,j,i+1,t,h=>by
  simp only[jB];rw[getD_set_ne false (by omega),show j+(i+1)=j+1+i by omega,aP l rs (j+1) i t (by simpa using h)]
 | (f,none)::rs,j,i+1,t,h=>by
  simp only[jB];rw[show j+(i+1)=j+1+i by omega,aP l rs (j+1) i t (by simpa using h)]
theorem bP(l:Array Bool):∀(rs:List (T×Option TO))(j i:Nat)(t:T)(ob:TO),rs[i]?=some (t,some ob)→j+i<l.size→jB (l.setIfInBounds (j+i) true) j rs=(jB l j rs).set (pos rs i) ob
 | [],_,_,_,_,h,_=>by simp at h
 | (q,some f)::rs,j,0,t,ob,h,e=>by
  simp at h;obtain⟨_,rfl⟩:=h;simp only[jB];rw[bM l rs (j+1) (.inl (by omega))]
  have:(l.setIfInBounds (j+0) true).getD j false=true:=by simp at e;simp[e]
  rw[this];simp[pos,qI]
 | (q,none)::rs,j,0,t,ob,h,_=>by simp at h
 | (q,some f)::rs,j,i+1,t,ob,h,e=>by
  rw[wL,Nat.add_comm 1];simp only[jB,List.set_cons_succ];rw[getD_set_ne false (by omega),show j+(i+1)=j+1+i by omega,bP l rs (j+1) i t ob (by simpa using h) (by omega)]
 | (q,none)::rs,j,i+1,t,ob,h,e=>by
  rw[wL,Nat.zero_add];simp only[jB];rw[show j+(i+1)=j+1+i by omega,bP l rs (j+1) i t ob (by simpa using h) (by omega)]
theorem zCz(l:Array Bool):∀(rs:List (T×Option TO))(j:Nat),(∀(i:Nat)(t:T)(ob:TO),rs[i]?=some (t,some ob)→l.getD (j+i) false=true)→jB l j rs=qI rs
 | [],_,_=>rfl
 | (t,some ob)::rs,j,h=>by
  simp only[jB,qI];rw[zCz l rs (j+1) (fun i t ob e=>by rw[show j+1+i=j+(i+1)by omega];exact h (i+1) t ob (by simpa using e)),show l.getD j false=true from h 0 t ob (by simp)]
  simp
 | (t,none)::rs,j,h=>by
  simp only[jB,qI];exact zCz l rs (j+1) (fun i t ob e=>by rw[show j+1+i=j+(i+1)by omega];exact h (i+1) t ob (by simpa using e))
theorem zDb(l:Array Bool):∀(rs:List (T×Option TO))(j i:Nat)(x:TO),(∀i,i<rs.length→l.getD (j+i) false=false)→(jB l j rs)[i]?=some x→x= .gone
 | [],_,_,_,_,h=>by simp[jB]at h
 | (t,some ob)::rs,j,i,x,e,h=>by
  simp only[jB]at h;have q:=e 0 (by simp)
  rw[Nat.add_zero]at q;rw[q]at h;cases i with
  | zero=>simp at h;exact h.symm
  | succ i=>exact zDb l rs (j+1) i x (fun i f=>by rw[show j+1+i=j+(i+1)by omega];exact e (i+1) (by simpa using f)) (by simpa using h)
 | (t,none)::rs,j,i,x,e,h=>zDb l rs (j+1) i x (fun i f=>by rw[show j+1+i=j+(i+1)by omega];exact e (i+1) (by simpa using f)) (by simpa[jB]using h)
theorem zDc:∀(rs:List (T×Option TO))(i q:Nat)(x:TO),(qI (rs.take i))[q]?=some x→∃j t,j<i∧rs[j]?=some (t,some x)∧pos rs j=q
 | [],_,_,_,h=>by simp[qI]at h
 | _::_,0,_,_,h=>by simp[qI]at h
 | (t,some ob)::rs,i+1,0,x,h=>by simp[qI]at h;subst h;exact⟨0,t,by omega,rfl,by simp[pos,qI]⟩
 | (t,some ob)::rs,i+1,q+1,x,h=>by
  obtain⟨j,y,z,e,f⟩:=zDc rs i q x (by simpa[qI]using h)
  exact⟨j+1,y,by omega,by simpa using e,by rw[wL,f];simp;omega⟩
 | (t,none)::rs,i+1,q,x,h=>by
  obtain⟨j,y,z,e,f⟩:=zDc rs i q x (by simpa[qI]using h)
  exact⟨j+1,y,by omega,by simpa using e,by rw[wL,f];simp⟩
theorem zUe:∀(rs:List (T×Option TO))(i j:Nat)(t:T)(ob:TO),rs[i]?=some (t,some ob)→i<j→pos rs i<pos rs j
 | [],_,_,_,_,h,_=>by simp at h
 | _::_,_,0,_,_,_,h=>by omega
 | (f,some e)::rs,0,j+1,t,ob,h,_=>by rw[wL];simp[pos,qI];omega
 | (f,none)::rs,0,j+1,t,ob,h,_=>by simp at h
 | (f,e)::rs,i+1,j+1,t,ob,h,q=>by
  rw[wL,wL];have:=zUe rs i j t ob (by simpa using h) (by omega)
  omega
theorem Wd.moveTo(h:Wd P E w0 X F H B w Y Mo){i j:Nat}{x:TO}{p:Nat×Nat}(I:H[i]?=some x)(M:vL x=true)(hp:B i=some p)(Z:H[j]?=some .gone)(V:B j=none):Wd P E w0 X F ((H.set i .gone).set j x) (rG B j p) w Y Mo∧BLe B (rG B j p):=by
 have A:BLe B (rG B j p):=BLe.set V;have hij:i≠j:=fun e=>by subst e;rw[I]at Z;cases Z;cases M
 have J:j<(H.set i TO.gone).length:=by simpa using(List.getElem?_eq_some_iff.1 Z).1
 have W:i<H.length:=(List.getElem?_eq_some_iff.1 I).1;have ng:∀{y:TO},vL y=true→y≠.gone:=fun h e=>by subst e;cases h
 have hget:∀(k:Nat)(y:TO),((H.set i .gone).set j x)[k]?=some y→y≠.gone→(H[k]?=some y∧k≠j∧k≠i)∨(k=j∧y=x):=fun k y f hne=>by
  by_cases e:j=k
  ·subst e;rw[List.getElem?_set_self J]at f;cases f;exact .inr ⟨rfl,rfl⟩
  ·rw[List.getElem?_set_ne e]at f;by_cases S:i=k
   ·subst S;rw[List.getElem?_set_self W]at f;cases f;exact absurd rfl hne
   ·rw[List.getElem?_set_ne S]at f;exact .inl ⟨f,fun R=>e R.symm,fun R=>S R.symm⟩
 refine⟨⟨h.st,fun k y f N=>?_,fun k cs f=>?_,fun k hk=>?_,fun k1 k2 o1 o2 p1 p2 h1 l1 h2 l2 q z e=>?_,h.bN,h.iv⟩,A⟩
 ·rcases hget k y f (ng N)with⟨f,_,_⟩ | ⟨rfl,rfl⟩
  ·obtain⟨b,C,ob,g1,G,U⟩:=h.ob k y f N;exact⟨b,C,ob,A _ _ g1,G,U.mono A (Le.refl _)⟩
  ·obtain⟨b,C,ob,g1,G,U⟩:=h.ob i _ I M;rw[hp]at g1;cases g1;exact⟨b,C,ob,qJ _ _ _,G,U.mono A (Le.refl _)⟩
 ·rcases hget k _ f (by simp)with⟨f,_,_⟩ | ⟨rfl,e⟩
  ·obtain⟨b,C,g1,G⟩:=h.fz k cs f;exact⟨b,C,A _ _ g1,G.mono A (Le.refl _)⟩
  ·subst e;cases M
 ·simp at hk J;rw[jU _ _ (by omega)]
  exact h.nn k hk
 ·rcases hget k1 _ h1 (ng l1)with⟨q1,n1,m1⟩ | ⟨rfl,rfl⟩<;>rcases hget k2 _ h2 (ng l2)with⟨q2,n2,m2⟩ | ⟨rfl,rfl⟩
  ·rw[jU _ _ n1]at q;rw[jU _ _ n2]at z;exact h.inj _ _ _ _ _ _ q1 l1 q2 l2 q z e
  ·rw[jU _ _ n1]at q;rw[qJ]at z;cases z;exact absurd (h.inj _ _ _ _ _ _ q1 l1 I M q hp e) m1
  ·rw[jU _ _ n2]at z;rw[qJ]at q;cases q;exact absurd (h.inj _ _ _ _ _ _ q2 l2 I M z hp e.symm) m2
  ·rfl
def kR(l:Array Bool)(ks:List (Option Nat))(q:Nat):Bool:=(List.range ks.length).any fun i=>ks[i]?==some (some q)&&l.getD i false
def wI(l:Array Bool)(ks:List (Option Nat))(H:List TO):List TO:=H.mapIdx fun q x=>if kR l ks q=true then .gone else x
theorem yU{l:Array Bool}{ks:List (Option Nat)}{q:Nat}:kR l ks q=true↔∃i,ks[i]?=some (some q)∧l.getD i false=true:=by
 unfold kR;rw[List.any_eq_true];constructor
 ·rintro⟨i,_,h⟩;simp only[zd,beq_iff_eq]at h;exact⟨i,h⟩
 ·rintro⟨i,e,f⟩;refine⟨i,List.mem_range.2 (List.getElem?_eq_some_iff.1 e).1,?_⟩;simp[e,f]
theorem jZ(l:Array Bool)(ks:List (Option Nat))(H:List TO):(wI l ks H).length=H.length:=by simp[wI]
theorem tY(l:Array Bool)(ks:List (Option Nat))(H:List TO)(q:Nat):(wI l ks H)[q]?=H[q]?.map fun x=>if kR l ks q=true then TO.gone else x:=by simp[wI,List.getElem?_mapIdx]
theorem zCu{l:Array Bool}{ks:List (Option Nat)}{H:List TO}{i:Nat}(h:∀q,ks[i]?≠some (some q)):wI (l.setIfInBounds i true) ks H=wI l ks H:=by
 refine List.ext_getElem? fun q=>?_;rw[tY,tY];have:kR (l.setIfInBounds i true) ks q=kR l ks q:=by
  rw[Bool.eq_iff_iff,yU,yU];constructor<;>rintro⟨j,f,y⟩<;>refine⟨j,f,?_⟩
  ·rwa[getD_set_ne false (fun e=>by subst e;exact h q f)]at y
  ·rwa[getD_set_ne false (fun e=>by subst e;exact h q f)]
 rw[this]
theorem qEr{l:Array Bool}{ks:List (Option Nat)}{H:List TO}{i k:Nat}(h:ks[i]?=some (some k))(C:i<l.size):wI (l.setIfInBounds i true) ks H=(wI l ks H).set k .gone:=by
 refine List.ext_getElem? fun q=>?_;rw[tY,List.getElem?_set,jZ];by_cases e:k=q
 ·subst e;have:kR (l.setIfInBounds i true) ks k=true:=yU.2 ⟨i,h,by simp[C]⟩
  simp only[this,if_true];by_cases z:k<H.length
  ·simp[z]
  ·have:H[k]?=none:=List.getElem?_eq_none (by omega)
   simp[z,this]
 ·rw[if_neg e,tY];have:kR (l.setIfInBounds i true) ks q=kR l ks q:=by
   rw[Bool.eq_iff_iff,yU,yU];constructor<;>rintro⟨j,f,A⟩<;>refine⟨j,f,?_⟩
   ·rwa[getD_set_ne false (fun y=>by subst y;rw[h]at f;cases f;exact e rfl)]at A
   ·rwa[getD_set_ne false (fun y=>by subst y;rw[h]at f;cases f;exact e rfl)]
  rw[this]
theorem zZc{l:Array Bool}{ks:List (Option Nat)}{H:List TO}(h:∀i,i<ks.length→l.getD i false=false):wI l ks H=H:=by
 refine List.ext_getElem? fun q=>?_;rw[tY];have:kR l ks q=false:=by
  cases j:kR l ks q with
  | false=>rfl
  | true=>
   obtain⟨i,f,e⟩:=yU.1 j;rw[h i (List.getElem?_eq_some_iff.1 f).1]at e;cases e
 simp[this]
theorem qEq{l:Array Bool}{ks:List (Option Nat)}{H:List TO}(h:∀i q,ks[i]?=some (some q)→l.getD i false=true):wI l ks H=xV ks H:=by
 refine List.ext_getElem? fun q=>?_;rw[tY,mJ];by_cases e:some q∈ks
 ·obtain⟨i,f⟩:=List.getElem?_of_mem e;have:kR l ks q=true:=yU.2 ⟨i,f,h i q f⟩;rw[if_pos e];simp[this]
 ·have:kR l ks q=false:=by
   cases y:kR l ks q with
   | false=>rfl
   | true=>
    obtain⟨i,j,_⟩:=yU.1 y;exact absurd (List.mem_of_getElem? j) e
  rw[if_neg e];simp[this]
end
end Go.Ev

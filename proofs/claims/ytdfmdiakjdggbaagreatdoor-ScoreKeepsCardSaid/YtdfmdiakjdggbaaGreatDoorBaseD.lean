import Derived.Deep.DeepAppendWide
import Derived.RecoverIn
import Derived.OrdersIn
import Derived.Test.YtdfmdiakjdggbaaGreatDoorBaseC
set_option linter.unusedVariables false
set_option linter.unusedSimpArgs false
set_option linter.unnecessarySimpa false
namespace Go
abbrev qv:=@Nat.ble_eq
abbrev js:=@List.getElem?_cons_zero
abbrev j6:=@Nat.add_sub_cancel_left
abbrev xT:=@List.set_append_left
abbrev xf:=@List.length_reverse
abbrev xu:=@List.map_append
abbrev x3:=@Go.Gv.run_sizeOf
abbrev wu:=@Array.mem_append
abbrev ye:=@List.reverse_cons
abbrev y3:=@Array.toList_modify
abbrev uX:=@List.getElem?_mapIdx
abbrev uZ:=@List.range_succ
abbrev uf:=@Nat.sub_self
abbrev uo:=@Nat.testBit_two_pow_sub_one
abbrev fN:=@Go.wpIn_region_list
abbrev fX:=@List.foldl_cons
abbrev fd:=@Go.Oper.semAt_none
abbrev fg:=@eq_of_heq
abbrev fi:=@List.getElem_cons_succ
abbrev fj:=@List.getElem_cons_zero
abbrev fl:=@Nat.mod_one
abbrev fo:=@Go.fenced_oper
abbrev f7:=@List.drop_drop
end Go
namespace Go.Ev
open Go Go.Gv Go.RowKit IntKind
def Ans(P:Program)(w:World)(ρ:Operand→Value)(o:Oper)(B:Bm)(r:Rd)(k:Nat):T×Option TO→Prop
 | (t,none)=>∃v,(execOp ρ o).run P w= .ok (.value v) w∧Rep B r t v
 | (t,some f)=>∃(C:Nat)(e:Obj)(j:Nat→Value),(∀w',(execOp ρ o).run P w'= .ok (.value (j w'.heap.size)) (w'.alloc e))∧vO f=true∧RO P B r C f e∧∀b,Rep (rG B k (b,C)) r t (j b)
section
variable {P:Program}{E:Nat→Prop}{w0:World}{X:Hid}{F:List Nat}{H:List TO}{B:Bm}{w:World}{Y:Hid}{Mo:List (Nat×Obj)}{ρ:Operand→Value}{ρT:Operand→T}{o:Oper}{r:Rd}{k:Nat}
theorem qG{t:T}{x:T×Option TO}(h:val t=some x)(e:Ans P w ρ o B r k (t,none)):Ans P w ρ o B r k x:=by cases h;exact e
theorem zDo{α:Type}:∀{s:Sem α}{a:α},zJh P s=some a→∀w,s.run P w= .ok a w:=by
 intro s;induction s with
 | pure x=>intro a h w;simp only[zJh,za]at h;subst h;rfl
 | program f e=>intro a h w;exact e P h w
 | _=>intro a h w;simp[zJh]at h
theorem zSm:∀{e:List T}{l j:List Value},zVo e=some l→zP B r e j→j=l
 | [],_,[],h,_=>by simp[zVo]at h;exact h.symm
 | t::e,l,v::j,h,q=>by
  simp only[zVo]at h;cases ht:vOf t with
  | none=>simp[ht]at h
  | some x=>
   cases f:zVo e with
   | none=>simp[ht,f]at h
   | some y=>
    simp only[ht,f,za]at h;subst h;cases t<;>simp only[vOf]at ht<;>try cases ht
    rw[q.1.vI.1,zSm f q.2]
 | [],_,_::_,_,h=>h.elim
 | _::_,_,[],_,h=>h.elim
theorem zOg{t:T}{x v:Value}(h:sOf t=some x)(j:Rep B r t v):v=x:=by
 cases t<;>simp only[sOf]at h<;>try cases h
 ·exact j.vI.1
 ·rename_i q;obtain⟨y,rfl,e⟩:=j.agI;cases f:zVo q with
  | none=>simp[f]at h
  | some l=>
   simp only[f,za]at h;rw[←h,zSm f e]
theorem zSd:∀{l:List Operand},zSc ρT l=true→∀x∈l,∃v,sOf (ρT x)=some v
 | [],_,x,h=>by cases h
 | y::l,e,x,h=>by
  simp only[zSc]at e;cases f:sOf (ρT y)with
  | none=>simp[f]at e
  | some v=>
   rcases qj.1 h with rfl | h
   ·exact⟨v,f⟩
   ·exact zSd (by simpa[f]using e) x h
theorem qGp(j:∀x,Rep B r (ρT x) (ρ x)){t:T}(h:zBg P ρT o=some t):Ans P w ρ o B r k (t,none):=by
 unfold zBg at h;cases e:zQw o.op&&zSc ρT o.op.operands.toList with
 | false=>simp[e]at h
 | true=>
  simp only[e,ze]at h;simp only[zd]at e;have he:execOp ρ o=execOp (sAt ρT) o:=gu o (lN e.1) fun x q=>by
   obtain⟨v,hv⟩:=zSd e.2 x (by simpa using q)
   rw[zOg hv (j x)];simp[sAt,hv]
  cases f:zJh P (execOp (sAt ρT) o)with
  | none=>simp[f,qGs]at h
  | some x=>
   cases x<;>simp only[f,qGs,za]at h<;>try cases h
   rename_i v;exact⟨v,by rw[he];exact zDo f w,zBh v⟩
theorem qKi(k:IntKind)(z:Int):wr k z=k.wrap z:=by
 unfold wr;split
 ·rename_i n;cases h:Nat.blt n (qNd k)with
  | false=>rfl
  | true=>
   have e:n<qNd k:=by simpa[qz]using h
   unfold IntKind.wrap;cases k<;>simp only[qNd]at e<;>simp[IntKind.bits,IntKind.signed]<;>omega
 ·rfl
theorem qFq(a b:Int):ieq a b=(a==b):=by
 cases a<;>cases b<;>simp only[ieq]
 ·rename_i x y;rw[j5];simp[←Int.ofNat_inj]
 ·rfl
 ·rfl
 ·rename_i x y;rw[j5];simp
theorem qYu(a b:Int):ilt a b=decide (a<b):=by
 cases a<;>cases b<;>simp only[ilt]
 ·rename_i x y;rw[j5];simp[qz]
 ·rename_i x y;rw[j5];simp;omega
 ·rename_i x y;rw[j5];simp;omega
 ·rename_i x y;rw[j5];simp[qz];omega
theorem zXf{j k:IntKind}(h:Nat.beq (kind j) (kind k)=true):j=k:=by
 cases j<;>cases k<;>first | rfl | (revert h;decide)
theorem qLk{op:BinOp}{k:IntKind}{a b:Int}{c:Value}(h:zZq op k a b=some c)(t:TypeId)(w:World):(binOp op t (.int k a) (.int k b)).run P w= .ok c w∧sc c=true:=by
 cases op<;>simp only[zZq,za]at h<;>try cases h
 all_goals simp only[binOp,ne_eq,u6,wi,Op.intArith,Op.intCmp,zm,qKi,qFq,qYu,sc,and_true]
 all_goals first
  | rfl
  | (simp only[Result.ok.injEq,Value.bool.injEq,and_true,bne,GT.gt,GE.ge];rw[j5];simp;try omega)
theorem wI{t e:TypeId}(h:elT P t=some e):P.underlying t=some (.slice e):=by
 unfold elT at h;split at h
 ·rename_i x f;cases h;exact f
 ·cases h
theorem qEr{d:Nat}{t e:TypeId}{a:Addr}{n c:Nat}(ht:P.underlying t=some (.slice e)):(Op.equalIn (d+1) t (.slice (some a) n c) (.slice none 0 0)).run P w= .ok false w:=by
 unfold Op.equalIn;simp only[underlying,ht,zk,zm,qr,zg]
theorem sH{j k:IntKind}(h:Nat.beq (kind j) (kind k)=true):j=k:=by
 have:=qp h;cases j<;>cases k<;>first | rfl | cases this
theorem nJ(a b:Int):(a==b)=ieq a b:=by
 cases a with
 | ofNat a=>cases b with
  | ofNat b=>
   cases h:Nat.beq a b with
   | true=>obtain rfl:=qp h;simp[ieq]
   | false=>simp only[ieq,h,xy];intro e;cases e;simp at h
  | negSucc b=>rfl
 | negSucc a=>cases b with
  | ofNat b=>rfl
  | negSucc b=>
   cases h:Nat.beq a b with
   | true=>obtain rfl:=qp h;simp[ieq]
   | false=>simp only[ieq,h,xy];intro e;cases e;simp at h
theorem zMo{P:Program}{w:World}{d:Nat}{t:TypeId}{k e:IntKind}{a b:Int}(ht:P.underlying t=some (.int e)):(Op.equalIn (d+1) t (.int k a) (.int k b)).run P w= .ok (a==b) w:=by
 unfold Op.equalIn;simp only[underlying,ht,zk,zm,qr,zg];simp
theorem zBp{P:Program}{w:World}{t:TypeId}{e:IntKind}{cs:Array Value}{i:Nat}{v:Value}(ht:P.underlying t=some (.int e))(h:cs[i]?=some v):(part t cs i).run P w= .ok v w:=by
 unfold part isAgg;simp only[underlying,ht,zk,zm,qr,zg];simp[h]
theorem qSg{P:Program}{w:World}{d:Nat}{t:TypeId}{e f j:Field}{k1 k2 k3 U V W:IntKind}{a1 a2 a3 b1 b2 b3:Int}(ht:P.underlying t=some (.struct #[e,f,j]))(I:P.stoodInHeld t=false)(q:P.underlying e.type=some (.int U))(y:P.underlying f.type=some (.int V))(z:P.underlying j.type=some (.int W))
 (J:e.name≠ "_") (M:f.name≠ "_") (n3:j.name≠ "_") (N:e.offset=0) (R:f.offset=1) (S:j.offset=2):
 (Op.equalIn (d+1+1) t (.agg #[.int k1 a1,.int k2 a2,.int k3 a3]) (.agg #[.int k1 b1,.int k2 b2,.int k3 b3])).run P w= .ok (a1==b1&&(a2==b2&&a3==b3)) w:=by
 unfold Op.equalIn;simp only[underlying,ht,zk,zm,qr,zg,I];simp[J,M,n3,N,R,S];simp only[zBp (cs:=#[Value.int k1 a1,.int k2 a2,.int k3 a3]) (i:=0) q rfl,zBp (cs:=#[Value.int k1 b1,.int k2 b2,.int k3 b3]) (i:=0) q rfl,zBp (cs:=#[Value.int k1 a1,.int k2 a2,.int k3 a3]) (i:=1) y rfl,zBp (cs:=#[Value.int k1 b1,.int k2 b2,.int k3 b3]) (i:=1) y rfl,zBp (cs:=#[Value.int k1 a1,.int k2 a2,.int k3 a3]) (i:=2) z rfl,zBp (cs:=#[Value.int k1 b1,.int k2 b2,.int k3 b3]) (i:=2) z rfl,zg];simp only[List.getElem_toArray,fi,fj];have A:=zMo (P:=P) (w:=w) (d:=d) (a:=a1) (b:=b1) (k:=k1) q;have C:=zMo (P:=P) (w:=w) (d:=d) (a:=a2) (b:=b2) (k:=k2) y;have G:=zMo (P:=P) (w:=w) (d:=d) (a:=a3) (b:=b3) (k:=k3) z;rw[A];cases a1==b1
 ·simp
 simp only[zg];rw[qm (by simp),C]
 cases a2==b2
 ·simp
 simp only[zg];rw[qm (by simp),G]
 cases a3==b3
 ·simp
 simp
theorem xV{k:IntKind}{o:Nat}{f:Field}(h:qFr P k o f=true):P.underlying f.type=some (.int k)∧f.offset=o∧f.name≠ "_" :=by
 unfold qFr at h;split at h
 ·rename_i q j;simp only[zd]at h;refine⟨by rw[j,sH h.1],qp h.2.1,fun e=>?_⟩
  rw[e]at h;have:=h.2.2;simp at this
 ·cases h
theorem qXl{op:BinOp}{t t2:TypeId}{x y:Operand}{Z ys:List T}(ho:o.op= .binOp op t x y t2)(hx:Rep B r (.ag Z) (ρ x))(hy:Rep B r (.ag ys) (ρ y)){z:T×Option TO}(h:eq3 P op t Z ys=some z):Ans P w ρ o B r k z:=by
 unfold eq3 at h;split at h
 ·rename_i i a j b q c i' C j' G q' I;cases J:wU P t (.prod (.int i) (.prod (.int j) (.int q)))&&(!P.eqGuardType P.depth t&&(Nat.beq (kind i) (kind i')&&(Nat.beq (kind j) (kind j')&&Nat.beq (kind q) (kind q'))))with
  | false=>simp[J]at h
  | true=>
   simp only[J,ze]at h;simp only[zd,qq]at J;obtain⟨e,U,e1,e2,e3⟩:=J;obtain rfl:=sH e1;obtain rfl:=sH e2;obtain rfl:=sH e3;obtain⟨vs,f,N⟩:=hx.agI;obtain⟨us,A,M⟩:=hy.agI;match vs,N with
   | [v1,v2,v3],⟨g1,g2,g3,_⟩=>
    match us,M with
    | [V,W,u3],⟨R,S,f3,_⟩=>
     obtain⟨rfl,_⟩:=g1.vI;obtain⟨rfl,_⟩:=g2.vI;obtain⟨rfl,_⟩:=g3.vI;obtain⟨rfl,_⟩:=R.vI;obtain⟨rfl,_⟩:=S.vI;obtain⟨rfl,_⟩:=f3.vI;unfold wU at e;simp only at e;split at e
     ·rename_i f0 R S hu;simp only[zd,qq]at e;obtain⟨hs,g0,g1,g2⟩:=e;obtain⟨u0,o0,n0⟩:=xV g0;obtain⟨V,o1,n1⟩:=xV g1;obtain⟨W,o2,n2⟩:=xV g2;have he:(Op.equalIn 10000 t (.agg #[.int i a,.int j b,.int q c]) (.agg #[.int i C,.int j G,.int q I])).run P w= .ok (ieq a C&&(ieq b G&&ieq c I)) w:=by
       have:=qSg (P:=P) (w:=w) (d:=9998) (k1:=i) (k2:=j) (k3:=q) (a1:=a) (a2:=b) (a3:=c) (b1:=C) (b2:=G) (b3:=I) hu hs u0 V W n0 n1 n2 o0 o1 o2;rw[nJ,nJ,nJ]at this;exact this
      generalize (ieq a C&&(ieq b G&&ieq c I))=bb at he h;split at h
      ·refine qG h ⟨_,?_,.v rfl⟩;unfold execOp;simp only[ho,f,A,binOp,Op.equal,Op.maxDepth,eqGuard,zm,zk,zg];simp[U,qr,zk,zm];rw[he];rfl
      ·refine qG h ⟨_,?_,.v rfl⟩;unfold execOp;simp only[ho,f,A,binOp,Op.equal,Op.maxDepth,eqGuard,zm,zk,zg];simp[U,qr,zk,zm];rw[he];rfl
      ·cases h
     ·cases e
 ·cases h
theorem qPh(N:∀x,Rep B r (ρT x) (ρ x)){op:BinOp}{t t2:TypeId}{x y:Operand}(ho:o.op= .binOp op t x y t2){z:T×Option TO}(h:qAx P op t (ρT x) (ρT y)=some z):Ans P w ρ o B r k z:=by
 have f:=N x;have j:=N y;unfold qAx at h;have nil:∀{a:Option Addr}{n c:Nat},a.isSome=true→ρ x= .slice a n c→ρ y= .slice none 0 0→zHc P op t=some z→Ans P w ρ o B r k z:=fun{a n c}ha f j M=>by
  obtain⟨a,rfl⟩:=gq.1 ha;unfold zHc at M;cases he:elT P t with
  | none=>simp[he]at M
  | some e=>
   have ht:=wI he;simp only[he]at M;cases op<;>simp only[za]at M<;>try cases M
   all_goals
    refine⟨_,?_,.v rfl⟩;unfold execOp;simp only[ho,f,j,eqGuard,binOp,Op.equal,Op.maxDepth,qEr (d:=9999) ht,zk,zm,zg];simp[zk,zm]
 split at h
 ·rename_i a b A G;rw[A]at f;rw[G]at j;obtain⟨f,_⟩:=f.vI;obtain⟨j,_⟩:=j.vI;cases I:bin op a b with
  | none=>simp[I]at h
  | some c=>
   simp only[I]at h;refine qG h ?_;obtain⟨R,S,W,U,rfl,rfl⟩:∃R S W U,a= .int R S∧b= .int W U:=by
    unfold bin at I;split at I
    ·exact⟨_,_,_,_,rfl,rfl⟩
    ·cases I
   simp only[bin]at I;cases V:Nat.beq (kind R) (kind W)with
   | false=>simp[V]at I
   | true=>
    obtain rfl:=zXf V;simp only[V,ze]at I;obtain⟨Z,J⟩:=qLk (P:=P) I t w;refine⟨c,?_,.v J⟩;have hg:(eqGuard op t x y (.int R S) (.int R U)).run P w= .ok () w:=by
     unfold eqGuard;split<;>rfl
    unfold execOp;simp only[ho,f,j,zk,hg,zg,Z,zm]
 ·rename_i A G;rw[A]at f;rw[G]at j;obtain⟨b,C,f,_⟩:=f.osI;exact nil rfl f j.vI.1 h
 ·rename_i A G;rw[A]at f;rw[G]at j;obtain⟨b,C,c,f,_⟩:=f.ogI;exact nil rfl f j.vI.1 h
 ·rename_i A G;rw[A]at f;rw[G]at j;obtain⟨ad,c,f,_,⟨_,J⟩ | ⟨b,q,rfl,_⟩⟩:=f.slI
  ·cases J
  ·exact nil rfl f j.vI.1 h
 ·rename_i A G;rw[A]at f;rw[G]at j;obtain⟨ad,f,⟨_,J⟩ | ⟨b,q,rfl,_⟩⟩:=f.stI
  ·cases J
  ·exact nil rfl f j.vI.1 h
 ·rename_i A G;rw[A]at f;rw[G]at j;exact qXl ho f j h
 ·cases h
theorem Rep.bool{b:Bool}{v:Value}(h:Rep B r (.v (.bool b)) v):v= .bool b:=h.vI.1
theorem zWs{x:Operand}(ho:o.op= .move x∨o.op= .assign x)(w:World):(execOp ρ o).run P w= .ok (.value (ρ x)) w:=by
 unfold execOp;rcases ho with ho | ho<;>simp only[ho]<;>rfl
theorem qIo(f:∀x,Rep B r (ρT x) (ρ x)){c a b:Operand}(ho:o.op= .pick c a b){z:T×Option TO}(h:zLi (ρT c) (ρT a) (ρT b)=some z):Ans P w ρ o B r k z:=by
 have j:=f c;unfold zLi at h;split at h
 ·rename_i q e;rw[e]at j;refine qG h ?_;refine⟨bif q then ρ a else ρ b,?_,?_⟩
  ·unfold execOp;simp only[ho,j.bool,asBool,zk,zm,zg];cases q<;>rfl
  ·cases q
   ·exact f b
   ·exact f a
 ·cases h
theorem lI{e:TypeId}{j:List T}(h:zer P e=some j):∃i z,P.info? e=some i∧i.zero=some z∧j=z.cells.toList.map ofV:=by
 unfold zer at h;cases q:P.info? e with
 | none=>simp[q]at h
 | some i=>
  simp only[q]at h;cases f:i.zero with
  | none=>simp[f]at h
  | some z=>simp only[f,za]at h;exact⟨i,z,rfl,f,h.symm⟩
theorem mZ{e:TypeId}{i:TypeInfo}{z:Value}(f:P.info? e=some i)(j:i.zero=some z)(w:World):(zeroValue e).run P w= .ok z w:=by
 simp[zeroValue,typeInfo,f,j,zk,zm]
theorem qAw{e:TypeId}(ho:o.op= .alloc e){z:T×Option TO}(h:zUx P k e=some z):Ans P w ρ o B r k z:=by
 unfold zUx at h;cases f:zer P e with
 | none=>simp[f]at h
 | some y=>
  simp only[f,za]at h;subst h;obtain⟨i,v,j,q,rfl⟩:=lI f;refine⟨0,.cells v.cells e (0,0),fun n=> .pointer (some ⟨n,0,none⟩),fun w'=>?_,rfl,.row (mX _),fun b=> .op (qN _ _ _)⟩;unfold execOp;simp only[ho,Instr.alloc,zk,mZ j q,zg,zm,newVar,newRow];rfl
theorem qFu{t:T}(h:isU t=false):t≠.u:=fun e=>by subst e;cases h
theorem qPi(j:∀x,Rep B r (ρT x) (ρ x)){e:TypeId}{x:Operand}(ho:o.op= .box e x){z:T×Option TO}(h:jBh k e (ρT x)=some z):Ans P w ρ o B r k z:=by
 unfold jBh at h;cases f:isU (ρT x)with
 | true=>simp[f]at h
 | false=>
  simp only[f,zf,za]at h;subst h;refine⟨0,.cells (ρ x).cells e (0,0),fun n=> .pointer (some ⟨n,0,none⟩),fun w'=>?_,rfl,.row ((j x).cells (qFu f)),fun b=> .op (qN _ _ _)⟩;unfold execOp;simp only[ho,Instr.box,newVar,newRow,zk,zm];rfl
theorem qPn(j:∀x,Rep B r (ρT x) (ρ x)){x:Operand}(ho:o.op= .nilCheck x){z:T×Option TO}(h:qPm (ρT x)=some z):Ans P w ρ o B r k z:=by
 have f:=j x;unfold qPm at h;split at h
 ·rename_i e;rw[e]at f;obtain⟨b,C,hv,_⟩:=f.opI;refine qG h ⟨ρ x,?_,f⟩;unfold execOp;simp only[ho,hv,zm]
 ·rename_i e;rw[e]at f;obtain⟨b,q,hv,_⟩:=f.fpI;refine qG h ⟨ρ x,?_,f⟩;unfold execOp;simp only[ho,hv,zm]
 ·rename_i e;rw[e]at f;obtain⟨y,hv,_⟩:=f.fnI;refine qG h ⟨ρ x,?_,f⟩;unfold execOp;simp only[ho,hv,zm]
 ·rename_i e;rw[e]at f;obtain⟨b,C,hv,_⟩:=f.ylI;refine qG h ⟨ρ x,?_,f⟩;unfold execOp;simp only[ho,hv,zm]
 ·cases h
theorem zFg{g:Bool}{n:Nat}{us:List T}{e:List Value}(q:e.length=n)(j:(g||Nat.beq n 1)=true)(h:zP B r us e):Rep B r (mkT g us) (ldV g e)∧(g=true∨e.length=1):=by
 cases g with
 | true=>exact⟨Rep.mkAg h,.inl rfl⟩
 | false=>
  have f:e.length=1:=by rw[q];exact qp (by simpa using j)
  obtain⟨v,rfl⟩:=vv.1 f;match us,h with
  | [t],h=>exact⟨h.1,.inr rfl⟩
structure zIv(B:Bm)(r:Rd)(w:World)(H:List TO):Prop where
 ptr:∀(t:T)(v:Value)(n:Nat)(cs us:List T),Rep B r t v→aF H t=some cs→jR n cs=some us→∃b o vs,v= .pointer (some ⟨b,o,none⟩)∧vs.length=n∧zP B r us vs∧jC w ⟨b,o,none⟩ vs
 map:∀(i b C:Nat)(l:List (Value×T)),B i=some (b,C)→nth .gone H i= .map l→∃es clk,w.heap[b]?=some (.map es clk)∧xQ B r l es.toList
 mapd:∀(i b C:Nat)(d:MD),B i=some (b,C)→nth .gone H i= .mapd d→∃es clk,w.heap[b]?=some (.map es clk)∧xQ B r d.ents es.toList
theorem Wd.hp(q:Wd P E w0 X F H B w Y Mo):zIv B (rd w Y) w H:=⟨fun _ _ _ _ _ I J M=>q.from I J M,fun i b C l z e=>by
 rw[qW,zp]at e;cases j:H[i]? with
 | none=>rw[j]at e;cases e
 | some x=>
  rw[j]at e;simp only[jt]at e;subst e;obtain⟨G,A,ob,g1,g2,y⟩:=q.ob i _ j rfl;rw[z]at g1;cases g1;cases y with
  | @map _ es f h _ _=>exact⟨es,f,q.heap g2,h⟩,fun i b C d z e=>by
 rw[qW,zp]at e;cases j:H[i]? with
 | none=>rw[j]at e;cases e
 | some x=>
  rw[j]at e;simp only[jt]at e;subst e;obtain⟨G,A,ob,g1,g2,y⟩:=q.ob i _ j rfl;rw[z]at g1;cases g1;cases y with
  | @mapd _ es f h _ _=>exact⟨es,f,q.heap g2,h⟩⟩
theorem zRk(N:zIv B r w H)(q:∀x,Rep B r (ρT x) (ρ x)){t:TypeId}{x:Operand}(ho:o.op= .load t x){z:T×Option TO}(h:zBn P H t (ρT x)=some z):Ans P w ρ o B r k z:=by
 unfold zBn at h;cases e:ldT P t with
 | none=>simp[e]at h
 | some C=>
  obtain⟨g,s⟩:=C;cases f:aF H (ρT x)with
  | none=>simp[e,f]at h
  | some A=>
   cases ht:jR s A with
   | none=>simp[e,f,ht]at h
   | some us=>
    simp only[e,f,ht]at h;cases j:(g||Nat.beq s 1)with
    | false=>simp[j]at h
    | true=>
     simp only[j,ze]at h;obtain⟨b,R,S,hv,y,G,I⟩:=N.ptr _ _ _ _ _ (q x) f ht;obtain⟨J,M⟩:=zFg y j G;exact qG h ⟨_,zB ho hv (by rw[y];exact e) M I,J⟩
theorem zP.map(e:∀x,Rep B r (ρT x) (ρ x)):∀l:List Operand,zP B r (l.map ρT) (l.map ρ)
 | []=>trivial
 | x::l=>⟨e x,zP.map e l⟩
theorem zQr(j:∀x,Rep B r (ρT x) (ρ x)){f:FuncId}{e:Array Operand}(ho:o.op= .makeFunc (.func f) #[] e):Ans P w ρ o B r k (.fn f (e.toList.map ρT),none):=by
 refine⟨.func (.func f) #[] (e.map ρ),?_,?_⟩
 ·unfold execOp;simp[ho,Instr.makeFunc,zk,zm,zg]
 ·have:=Rep.mkFn (k:=f) (zP.map j e.toList);cases e;simpa using this
theorem zNi(e:∀x,Rep B r (ρT x) (ρ x)){f:FuncId}{first:Array Operand}(ho:o.op= .makeFunc (.func f) first #[]):Ans P w ρ o B r k (.fb f (first.toList.map ρT),none):=by
 refine⟨.func (.func f) (first.map ρ) #[],?_,?_⟩
 ·unfold execOp;simp[ho,Instr.makeFunc,zk,zm,zg]
 ·have:=Rep.mkFb (k:=f) (zP.map e first.toList)
  cases first
  simpa using this
theorem zRi(f:∀x,Rep B r (ρT x) (ρ x)){x:Operand}{i:Nat}(ho:o.op= .extract x i){z:T×Option TO}(h:zBm (ρT x) i=some z):Ans P w ρ o B r k z:=by
 have j:=f x;unfold zBm at h;split at h
 ·rename_i G e;rw[e]at j;obtain⟨I,hv,A⟩:=j.tuI;split at h
  ·rename_i t C;obtain⟨v,q,y⟩:=A.get C;refine qG h ⟨v,?_,y⟩;unfold execOp;simp only[ho,hv,Instr.extract,List.getElem?_toArray,q,zk,zm,zg]
  ·cases h
 ·cases h
theorem qAk{t:T}{n:Nat}{v:Value}(h:jH t=some n)(f:Rep B r t v):∃ad c,v= .slice ad n c:=by
 cases t with
 | v x=>
  obtain⟨rfl,_⟩:=f.vI;unfold jH at h;split at h<;>(try (rename_i e;cases e;done))<;>(try cases h)
  rename_i e;cases e;exact⟨_,_,rfl⟩
 | sl j m=>simp only[jH,za]at h;subst h;obtain⟨ad,c,hv,_⟩:=f.slI;exact⟨ad,c,hv⟩
 | sn j m=>simp only[jH,za]at h;subst h;obtain⟨ad,c,hv,_⟩:=(show Rep B r (.sl j m) v from f.dn).slI;exact⟨ad,c,hv⟩
 | st j m=>simp only[jH,za]at h;subst h;obtain⟨ad,hv,_⟩:=f.stI;exact⟨ad,_,hv⟩
 | os i o m c=>simp only[jH,za]at h;subst h;obtain⟨b,C,hv,_⟩:=f.osI;exact⟨_,_,hv⟩
 | og i o m=>simp only[jH,za]at h;subst h;obtain⟨b,C,c,hv,_⟩:=f.ogI;exact⟨_,_,hv⟩
 | ls g A l=>simp only[jH,za]at h;subst h;obtain⟨ad,c,hv,_⟩:=f.lsI;exact⟨_,_,hv⟩
 | hv A l=>simp only[jH,za]at h;subst h;obtain⟨ad,c,hv,_⟩:=f.hvI;exact⟨_,_,hv⟩
 | _=>cases h
theorem qPl(j:∀x,Rep B r (ρT x) (ρ x)){c:Call}{x:Operand}(ho:o.op= .call c)(C:c.callee= .builtin .len)(G:c.args.toList=[x])(ht:∀n ad q,ρ x= .slice ad n q→∃t e,c.argTypes[0]?=some t∧P.underlying t=some (.slice e)){z:T×Option TO}(h:jBi (ρT x)=some z):Ans P w ρ o B r k z:=by
 unfold jBi at h;cases f:jH (ρT x)with
 | none=>simp[f]at h
 | some n=>
  simp only[f]at h;obtain⟨ad,q,hv⟩:=qAk f (j x);obtain⟨t,e,y,A⟩:=ht _ _ _ hv;refine qG h ⟨.int .i64 (n:Int),?_,.v rfl⟩;have ha:c.args=#[x]:=j0 (by simpa using G)
  unfold execOp;simp only[ho,resolve,C,zk,zm,zg,invoke,builtin,Builtin.len_,ha,kb,jl,kO,y,hv];simp[underlying,A,qr,zk,zm,goInt]
theorem wY{t:T}{n:Nat}{v:Value}(h:rX t=some n)(e:Rep B r t v):∃f,v= .int f (n:Int):=by
 unfold rX at h;split at h
 ·cases h;exact⟨_,e.vI.1⟩
 ·cases h
def Bd(ρ:Operand→Value)(d l:Nat):Option Operand→Prop
 | none=>l=d
 | some a=>∃e,ρ a= .int e (l:Int)
theorem zYl{t e:TypeId}{x:Operand}{J A I:Option Operand}{ad:Option Addr}{G f g l h m:Nat}{q:Bool}(ho:o.op= .slice t x J A I)(ht:P.underlying t=some (.slice e))(he:ldT P e=some (q,g))(N:ρ x= .slice ad G f)
  (y:Bd ρ 0 l J) (j:Bd ρ G h A) (z:Bd ρ f m I) (hm:A=none→I=none)
  (U:l≤h) (C:h≤m∨A=none) (V:m≤f) (w:World):(execOp ρ o).run P w= .ok (.value (.slice (if m=l then ad else ad.map (·.add (l*g))) (h-l) (m-l))) w:=by
 unfold execOp;have R:(l:Int)≤(h:Int):=by omega
 have S:(m:Int)≤(f:Int):=by omega
 have Z:(0:Int)≤(l:Int):=by omega
 have z2:(0:Int)≤(h:Int):=by omega
 have z3:(0:Int)≤(m:Int):=by omega
 have M:∀a,A=some a→(h:Int)≤(m:Int):=fun a e=>by
  rcases C with C | C
  ·omega
  ·rw[e]at C;cases C
 cases J<;>cases A<;>cases I<;>simp only[Bd]at y j z;all_goals try (obtain⟨_,y⟩:=y)
 all_goals try (obtain⟨_,z⟩:=z)
 all_goals try (cases hm rfl;done)
 all_goals try (obtain⟨_,j⟩:=j)
 all_goals try subst y
 all_goals try subst z
 all_goals try subst j
 all_goals try (have M:=M _ rfl)
 all_goals simp[ho,N,Instr.sliceAt,Instr.slice,Instr.sliceBounds,Instr.sliceBound,asIntOf,underlying,ht,zk,zm,qr,zg,x3 he, *]
 all_goals (intro W;exfalso;omega)
end
section
variable {P:Program}{B:Bm}{r:Rd}{w:World}
theorem zBv:∀(n:Nat)(l u:List T),dJ n l=some u→n≤l.length∧u=l.take n
 | 0,_,_,h=>by simp[dJ]at h;subst h;simp
 | _+1,[],_,h=>by simp[dJ]at h
 | n+1,x::l,u,h=>by
  simp only[dJ]at h;cases he:dJ n l with
  | none=>simp[he]at h
  | some y=>
   simp only[he,za]at h;obtain⟨e,f⟩:=zBv n l y he;subst h;subst f;exact⟨by simpa using e,by simp⟩
theorem zAq:∀(l:List T)(n:Nat),gG l n=l.drop n
 | [],_=>by simp[gG]
 | _::_,0=>rfl
 | _::l,n+1=>by simp[gG,zAq l n]
theorem fB{A C:Ty}{l:List A.den}{m:List C.den}(h:tY A C l=some m):A=C∧HEq l m:=by
 unfold tY at h;split at h
 ·rename_i f;have e:=Ty.beq_eq f;subst e;cases h;exact⟨rfl,HEq.rfl⟩
 ·cases h
theorem fA{g:Tg}:∀(A:Ty){ts:List T}{x:A.den}{vs:List Value},mI g A ts=some x→zP B r ts vs→zP B r (qE g A x) vs∧ts.length=A.size:=by
 intro A;induction A with
 | lim=>
  intro ts x vs h e;replace h:qDn ts=some x:=h;unfold qDn at h;split at h
  ·rename_i k a;cases j:Nat.beq (kind k) 6 with
   | false=>simp[j]at h
   | true=>
    simp only[j,ze,za]at h;subst h;obtain rfl:k= .u32:=sH (k:= .u32) j;exact⟨e,rfl⟩
  ·cases h
 | int k=>
  intro ts x vs h e;replace h:qDm k ts=some x:=h;unfold qDm at h;split at h
  ·rename_i N a;cases j:Nat.beq (kind k) (kind N)with
   | false=>simp[j]at h
   | true=>
    simp only[j,ze,za]at h;subst h;obtain rfl:=sH j;exact⟨e,rfl⟩
  ·cases h
 | bool=>
  intro ts x vs h e;replace h:qDl ts=some x:=h;unfold qDl at h;split at h
  ·cases h;exact⟨e,rfl⟩
  ·cases h
 | str=>
  intro ts x vs h e;replace h:qDp ts=some x:=h;unfold qDp at h;split at h
  ·cases h;exact⟨e,rfl⟩
  ·cases h
 | list A Z=>
  intro ts x vs h e;replace h:qDo g A ts=some x:=h;unfold qDo at h;split at h
  ·cases h;match vs,e with
   | [v],e=>
    obtain⟨rfl,_⟩:=e.1.vI;exact⟨⟨.ls ⟨none,0,rfl,zq _,qu _,.inl rfl⟩,trivial⟩,rfl⟩
  ·rename_i J W l;cases y:g.le J with
   | false=>simp[y]at h
   | true=>
    simp only[y,ze]at h;obtain⟨rfl,he⟩:=fB h;obtain rfl:=fg he;match vs,e with
    | [v],e=>
     refine⟨⟨?_,trivial⟩,rfl⟩;have f:=e.1;cases f with
     | ls f=>exact .ls (jF.mono (Le.refl _) (fun b h=>h.le y) _ _ _ f)
  ·cases h
 | prod A C z G=>
  intro ts x vs h e;simp only[mI]at h;cases ht:dJ A.size ts with
  | none=>simp[ht]at h
  | some u=>
   simp only[ht]at h;obtain⟨M,rfl⟩:=zBv _ _ _ ht;rw[zAq]at h;cases f:mI g A (ts.take A.size)with
   | none=>simp[f]at h
   | some a=>
    cases q:mI g C (ts.drop A.size)with
    | none=>simp[f,q]at h
    | some c=>
     simp only[f,q,za]at h;subst h;have I:=zP.split (ts:=ts.take A.size) (us:=ts.drop A.size) (by rw[jj];exact e)
     obtain⟨R,S⟩:=z f I.1;obtain⟨U,V⟩:=G q I.2;refine⟨?_,?_⟩
     ·have:=R.app U;rwa[jj]at this
     ·show _=A.size+C.size;rw[←jj A.size ts,qo,S,V]
theorem zAm{g:Tg}{A:Ty}{t:T}{x:A.den}{v:Value}(h:zKb g A t=some x)(q:Rep B r t v):Rep B r (unT g A x) v:=by
 have f:=jM g A x;unfold zKb at h;split at h
 ·rename_i y;cases e:Nat.blt 1 A.size with
  | false=>simp[e]at h
  | true=>
   simp only[e,ze]at h;obtain⟨vs,rfl,j⟩:=q.agI;have k:=(fA A h j).1;have e:1<A.size:=by simpa using e
   unfold unT;split
   ·rename_i t ht;rw[ht]at f;simp at f;omega
   ·exact Rep.mkAg k
 ·cases e:Nat.beq A.size 1 with
  | false=>simp[e]at h
  | true=>
   simp only[e,ze]at h;have k:=(fA A h (vs:=[v]) ⟨q,trivial⟩).1;rw[qp e]at f;obtain⟨z,ht⟩:=vv.1 f;unfold unT;rw[ht]at k ⊢;exact k.1
theorem zXd{z:TypeId}{K:Ty}{k:K.den}{v:Value}(f:wU P z K=true)(e:Rep B r (unT .a K k) v):v=vG K k:=by
 unfold wU at f;split at f
 ·exact e.vI.1
 ·exact e.vI.1
 ·rename_i i j l;obtain⟨a,b,c⟩:=k;obtain⟨A,rfl,q⟩:=Rep.agI (cs:=[.v (.int i a),.v (.int j b),.v (.int l c)]) e;match A,q with
  | [C,G,I],⟨g1,g2,y,_⟩=>
   obtain⟨rfl,_⟩:=g1.vI;obtain⟨rfl,_⟩:=g2.vI;obtain⟨rfl,_⟩:=y.vI;rfl
 ·cases f
theorem qZf{I:TypeId}{K:Ty}{a b:K.den}(f:wU P I K=true)(h:keq K a b=true):a=b:=by
 have e:∀{x y:Int},ieq x y=true→x=y:=fun h=>by rw[←nJ]at h;exact eq_of_beq h
 unfold wU at f;split at f
 ·exact e h
 ·exact jc (p:=(a:ByteArray)=b) h
 ·obtain⟨j,q,z⟩:=a;obtain⟨A,C,G⟩:=b;have h:(ieq j A&&(ieq q C&&ieq z G))=true:=h;simp only[zd]at h;rw[e h.1,e h.2.1,e h.2.2]
 ·cases f
theorem zYw(a b:ByteArray):(a==b)=decide (a=b):=by
 obtain⟨x⟩:=a;obtain⟨y⟩:=b;show(x==y)=_;by_cases h:x=y
 ·subst h;simp
 ·simp[h]
def Fnd{α:Type}(K:Ty)(R:α→Value→Prop)(k:K.den)(l:List (K.den×α))(es:List MapEntry)(i:Nat)(q:Option (Nat×Value)):Prop:=
 (q=none∧zUb K k l=false∧(∀z,rE K z k l=z)∧∀y,aA K k y l=l++[(k,y)])∨
 ∃j e f,q=some (i+j,f.val)∧l[j]?=some e∧es[j]?=some f∧f.key=vG K e.1∧keq K k e.1=true∧R e.2 f.val∧zUb K k l=true∧(∀z,rE K z k l=e.2)∧∀y,aA K k y l=l.set j (k,y)
theorem Fnd.nil{α:Type}{K:Ty}{R:α→Value→Prop}{k:K.den}{es:List MapEntry}{i:Nat}:Fnd K R k [] es i none:= .inl ⟨rfl,rfl,fun _=>rfl,fun _=>rfl⟩
theorem Fnd.hit{α:Type}{K:Ty}{R:α→Value→Prop}{k:K.den}{e:K.den×α}{l:List (K.den×α)}{f:MapEntry}{es:List MapEntry}{i:Nat}(h:keq K k e.1=true)(q:f.key=vG K e.1)(j:R e.2 f.val):Fnd K R k (e::l) (f::es) i (some (i,f.val)):=
 .inr ⟨0,e,f,rfl,rfl,rfl,q,h,j,by simp[zUb,h],fun z=>by simp[rE,h],fun y=>by simp[aA,h]⟩
theorem Fnd.skip{α:Type}{K:Ty}{R:α→Value→Prop}{k:K.den}{e:K.den×α}{l:List (K.den×α)}{f:MapEntry}{es:List MapEntry}{i:Nat}{q:Option (Nat×Value)}(h:keq K k e.1=false)(Z:Fnd K R k l es (i+1) q):Fnd K R k (e::l) (f::es) i q:=by
 rcases Z with⟨A,C,G,I⟩ | ⟨j,J,M,A,C,G,I,N,S,U,V,W⟩
 ·exact .inl ⟨A,by simp[zUb,h,C],fun z=>by simp[rE,h,G],fun y=>by simp[aA,h,I]⟩
 ·exact .inr ⟨j+1,J,M,by rw[A];congr 2;omega,by simpa using C,by simpa using G,I,N,S,by simp[zUb,U],fun z=>by simp[rE,h,V],fun y=>by simp[aA,h,W]⟩
def qBr{α:Type}(K:Ty)(R:α→Value→Prop):List (K.den×α)→List MapEntry→Prop
 | [],[]=>True
 | e::l,f::es=>f.key=vG K e.1∧R e.2 f.val∧qBr K R l es
 | _,_=>False
theorem zNn{α:Type}{K:Ty}{R:α→Value→Prop}{k:K.den}{d:TypeDesc}(y:∀b:K.den,Instr.sameNow d (vG K k) (vG K b)=some (keq K k b)):∀(l:List (K.den×α))(es:List MapEntry)(i:Nat),qBr K R l es→∃q,Instr.findNow d (vG K k) es i=some q∧Fnd K R k l es i q
 | [],[],i,_=>⟨none,rfl,.nil⟩
 | e::l,f::es,i,h=>by
  unfold Instr.findNow;rw[h.1,y e.1];cases j:keq K k e.1 with
  | true=>exact⟨_,rfl,.hit j h.1 h.2.1⟩
  | false=>
   obtain⟨q,z,A⟩:=zNn y l es (i+1) h.2.2;exact⟨q,z,.skip j A⟩
 | [],_::_,_,h=>h.elim
 | _::_,[],_,h=>h.elim
theorem zWf{α:Type}{K:Ty}{R:α→Value→Prop}{k:K.den}{t:TypeId}(y:∀b:K.den,(Op.equal t (vG K k) (vG K b)).run P w= .ok (keq K k b) w):∀(l:List (K.den×α))(es:List MapEntry)(i:Nat),qBr K R l es→∃q,(Instr.findAsking t (vG K k) es i).run P w= .ok q w∧Fnd K R k l es i q
 | [],[],i,_=>⟨none,rfl,.nil⟩
 | e::l,f::es,i,h=>by
  unfold Instr.findAsking;rw[h.1];simp only[zk,y e.1,zg];cases j:keq K k e.1 with
  | true=>exact⟨_,by simp[zm],.hit j h.1 h.2.1⟩
  | false=>
   obtain⟨q,z,A⟩:=zWf y l es (i+1) h.2.2;exact⟨q,by simpa using z,.skip j A⟩
 | [],_::_,_,h=>h.elim
 | _::_,[],_,h=>h.elim
theorem zPy{α:Type}{K:Ty}{R:α→Value→Prop}{G:TypeId}(y:wU P G K=true)(k:K.den)(l:List (K.den×α))(es:List MapEntry)(h:qBr K R l es):∃q,(Instr.findKey G (vG K k) es).run P w= .ok q w∧Fnd K R k l es 0 q:=by
 unfold wU at y;split at y
 ·rename_i i;split at y
  ·rename_i j z;obtain rfl:=sH y;obtain⟨q,A,C⟩:=zNn (d:= .int i) (k:=k) (R:=R) (fun b=>by
    show(if i=i then some ((k:Int)==(b:Int))else none)=some (ieq k b)
    rw[qn rfl,nJ]) l es 0 h
   refine⟨q,?_,C⟩;unfold Instr.findKey;simp only[underlying,z,zk,zm,qr,zg,A]
  ·cases y
 ·split at y
  ·rename_i z;obtain⟨q,A,C⟩:=zNn (d:= .string) (k:=k) (R:=R) (fun b=>by
    show some ((k:ByteArray)==(b:ByteArray))=some (decide ((k:ByteArray)=b));rw[zYw]) l es 0 h
   refine⟨q,?_,C⟩;unfold Instr.findKey;simp only[underlying,z,zk,zm,qr,zg,A]
  ·cases y
 ·rename_i i j n;split at y
  ·rename_i I J M z;simp only[zd,qq]at y;obtain⟨U,N,g1,g2⟩:=y;obtain⟨u0,Z,n0⟩:=xV N;obtain⟨u1,o1,V⟩:=xV g1;obtain⟨u2,o2,W⟩:=xV g2;have S:∀b:(Ty.prod (.int i) (.prod (.int j) (.int n))).den,(Op.equal G (vG (.prod (.int i) (.prod (.int j) (.int n))) k) (vG (.prod (.int i) (.prod (.int j) (.int n))) b)).run P w= .ok (keq (.prod (.int i) (.prod (.int j) (.int n))) k b) w:=fun b=>by
    obtain⟨a1,a2,a3⟩:=k;obtain⟨b1,b2,b3⟩:=b;have:=qSg (P:=P) (w:=w) (d:=9998) (k1:=i) (k2:=j) (k3:=n) (a1:=a1) (a2:=a2) (a3:=a3) (b1:=b1) (b2:=b2) (b3:=b3) z U u0 u1 u2 n0 V W Z o1 o2;rw[nJ,nJ,nJ]at this;exact this
   obtain⟨q,A,C⟩:=zWf (k:=k) (R:=R) S l es 0 h;unfold Instr.findKey;simp only[underlying,z,zk,zm,qr,zg];match l,es,h with
   | [],[],h=>exact⟨none,rfl,.nil⟩
   | e::l,f::es,h=>
    refine⟨q,?_,C⟩;have:Instr.findNow (.struct ⟨[I,J,M]⟩) (vG (.prod (.int i) (.prod (.int j) (.int n))) k) (f::es) 0=none:=rfl;rw[this];exact A
  ·cases y
 ·cases y
theorem bF{K:Ty}{A:TypeId}(y:wU P A K=true)(k:K.den)(e:Bool):(Instr.checkKey e 10000 A (vG K k)).run P w= .ok () w:=by
 unfold wU at y;split at y
 ·split at y
  ·rename_i j z;show(Instr.checkKey e (9999+1) A _).run P w=_;unfold Instr.checkKey;simp only[underlying,z,zk,zm,qr,zg]
  ·cases y
 ·split at y
  ·rename_i z;show(Instr.checkKey e (9999+1) A _).run P w=_;unfold Instr.checkKey;simp only[underlying,z,zk,zm,qr,zg]
  ·cases y
 ·rename_i i j n;split at y
  ·rename_i f0 f1 f2 z;simp only[zd,qq]at y;obtain⟨hs,S,g1,g2⟩:=y;obtain⟨M,W,n0⟩:=xV S;obtain⟨N,Z,U⟩:=xV g1;obtain⟨R,o2,V⟩:=xV g2;obtain⟨C,G,I⟩:=k;have one:∀{f:Field}{q J:IntKind}{a:Int},P.underlying f.type=some (.int q)→(Instr.checkKey e 9999 f.type (.int J a)).run P w= .ok () w:=fun{f q J a}z=>by
    show(Instr.checkKey e (9998+1) f.type _).run P w=_;unfold Instr.checkKey;simp only[underlying,z,zk,zm,qr,zg]
   show(Instr.checkKey e (9999+1) A (.agg #[.int i C,.int j G,.int n I])).run P w=_;unfold Instr.checkKey;simp only[underlying,z,zk,zm,qr,zg];simp[n0,U,V,W,Z,o2];simp only[zBp (cs:=#[Value.int i C,.int j G,.int n I]) (i:=0) M rfl,zBp (cs:=#[Value.int i C,.int j G,.int n I]) (i:=1) N rfl,zBp (cs:=#[Value.int i C,.int j G,.int n I]) (i:=2) R rfl,zg];simp only[List.getElem_toArray,fi,fj,one M,one N,one R,zg]
  ·cases y
 ·cases y
theorem qFy{K:Ty}{f:TypeId}(e:wU P f K=true)(k:K.den):Instr.sameBits 10000 (vG K k) (vG K k)=true:=by
 unfold wU at e;split at e
 ·simp[vG,Instr.sameBits]
 ·simp[vG,Instr.sameBits,zYw]
 ·obtain⟨a,b,c⟩:=k;show Instr.sameBits (9999+1) _ _=true;simp[vG,zMg,Instr.sameBits]
 ·cases e
end
section
variable {P:Program}{E:Nat→Prop}{w0:World}{X:Hid}{F:List Nat}{H:List TO}{B:Bm}{w:World}{Y:Hid}{Mo:List (Nat×Obj)}{ρ:Operand→Value}{ρT:Operand→T}{o:Oper}{r:Rd}{k:Nat}
theorem mQ{t k v:TypeId}(h:zGw P t=some (k,v)):P.underlying t=some (.map k v):=by
 unfold zGw at h;split at h
 ·rename_i e;cases h;exact e
 ·cases h
theorem zWq(z:zIv B r w H){m:T}{v:Value}{l:List (Value×T)}(h:zKh H m=some l)(f:Rep B r m v):(v= .map none∧l=[])∨∃b es e,v= .map (some b)∧w.heap[b]?=some (.map es e)∧xQ B r l es.toList:=by
 unfold zKh at h;split at h
 ·cases h;exact .inl ⟨f.vI.1,rfl⟩
 ·rename_i i;split at h
  ·rename_i G A;cases h;cases f with
   | @om _ b C y=>
    obtain⟨es,e,j,q⟩:=z.map _ _ _ _ y A;exact .inr ⟨b,es,e,rfl,j,q⟩
  ·cases h
 ·cases h
theorem zCl{d:MD}:∀{l:List (d.K.den×d.V.den)}{es:List MapEntry},xQ B r (l.map fun e=>(vG d.K e.1,unT d.g d.V e.2)) es→qBr d.K (fun x v=>Rep B r (unT d.g d.V x) v) l es
 | [],[],_=>trivial
 | _::_,_::_,h=>⟨h.1,h.2.1,zCl h.2.2⟩
 | [],_::_,h=>h.elim
 | _::_,[],h=>h.elim
theorem qDz(y:zIv B r w H){m:T}{v:Value}{d:MD}(h:dOf H m=some d)(z:Rep B r m v):∃b es e,v= .map (some b)∧w.heap[b]?=some (.map es e)∧xQ B r d.ents es.toList:=by
 unfold dOf at h;split at h
 ·rename_i i;split at h
  ·rename_i G A;cases h;cases z with
   | @om _ b C q=>
    obtain⟨es,e,f,j⟩:=y.mapd _ _ _ _ q A;exact⟨b,es,e,rfl,f,j⟩
  ·cases h
 ·cases h
theorem yZ{b:Nat}{es:Array MapEntry}{e:Nat}(h:w.heap[b]?=some (.map es e)):(getObj b).run P w= .ok (.map es e) w:=by
 simp[getObj,Sem.run,h]
theorem qIj(J:zIv B r w H)(j:∀x,Rep B r (ρT x) (ρ x)){c:Call}{x:Operand}{t:TypeId}{N:TypeId×TypeId}(ho:o.op= .call c)(A:c.callee= .builtin .len)(M:c.args.toList=[x])(f:c.argTypes.toList=[t])(ht:zGw P t=some N){z:T×Option TO}(h:qIi H (ρT x)=some z):Ans P w ρ o B r k z:=by
 obtain⟨R,S⟩:=N;have I:=mQ ht;unfold qIi at h;cases hd:dOf H (ρT x)with
 | some d=>
  simp only[hd]at h;have ha:c.args=#[x]:=j0 (by simpa using M)
  have q:c.argTypes=#[t]:=j0 (by simpa using f)
  obtain⟨b,es,y,hv,C,hm⟩:=qDz J hd (j x);refine qG h ⟨.int .i64 (d.l.length:Int),?_,.v rfl⟩;unfold execOp;simp only[ho,resolve,A,zk,zm,zg,invoke,builtin,Builtin.len_,ha,q,kb,jl,kO,hv];have:=hm.length;have e:d.ents.length=d.l.length:=by simp[MD.ents]
  rw[e]at this;simp[underlying,I,qr,zk,zm,goInt,yZ C,this]
 | none=>
 simp only[hd]at h;cases G:zKh H (ρT x)with
 | none=>simp[G]at h
 | some l=>
  simp only[G]at h;have ha:c.args=#[x]:=j0 (by simpa using M)
  have q:c.argTypes=#[t]:=j0 (by simpa using f)
  refine qG h ⟨.int .i64 (l.length:Int),?_,by rw[qU];exact .v rfl⟩
  unfold execOp;rcases zWq J G (j x)with⟨hv,rfl⟩ | ⟨b,es,y,hv,C,hm⟩
  ·simp only[ho,resolve,A,zk,zm,zg,invoke,builtin,Builtin.len_,ha,q,kb,jl,kO,hv];simp[underlying,I,qr,zk,zm,goInt]
  ·simp only[ho,resolve,A,zk,zm,zg,invoke,builtin,Builtin.len_,ha,q,kb,jl,kO,hv];have:=hm.length;simp[underlying,I,qr,zk,zm,goInt,yZ C,this]
theorem qIg(A:zIv B r w H)(f:∀x,Rep B r (ρT x) (ρ x)){c:Call}(ho:o.op= .call c){z:T×Option TO}(h:zEi P H ρT c=some z):Ans P w ρ o B r k z:=by
 unfold zEi at h;split at h
 ·rename_i x t j q y;cases he:elT P t with
  | none=>
   simp only[he]at h;cases hm:zGw P t with
   | none=>simp[hm]at h
   | some G=>simp only[hm]at h;exact qIj A f ho j q y hm h
  | some e=>
   simp only[he]at h;refine qPl f ho j q (fun n ad C hv=>⟨t,e,?_,wI he⟩) h;have:c.argTypes=#[t]:=j0 (by simpa using y)
   rw[this];rfl
 ·cases h
theorem zXb{d:TypeDesc}{y:Value}:∀{l:List (Value×T)}{es:List MapEntry}{i:Nat}{q:Option Nat},xQ B r l es→zMz d y l i=some q→
  (q=none∧Instr.findNow d y es i=some none)∨∃j e f,q=some (i+j)∧l[j]?=some e∧es[j]?=some f∧Instr.findNow d y es i=some (some (i+j,f.val))∧f.key=e.1∧Rep B r e.2 f.val
 | [],[],i,q,_,h=>by simp only[zMz,za]at h;exact .inl ⟨h.symm,rfl⟩
 | e::l,f::es,i,q,hm,h=>by
  simp only[zMz]at h;unfold Instr.findNow;rw[hm.1];cases C:Instr.sameNow d y e.1 with
  | none=>simp[C]at h
  | some b=>
   cases b with
   | true=>simp only[C,za]at h;exact .inr ⟨0,e,f,h.symm,rfl,rfl,rfl,hm.1,hm.2.1⟩
   | false=>
    simp only[C]at h ⊢;rcases zXb hm.2.2 h with⟨z,A⟩ | ⟨j,G,I,z,A,J,M,N,R⟩
    ·exact .inl ⟨z,A⟩
    ·exact .inr ⟨j+1,G,I,by rw[z];congr 1;omega,by simpa using A,by simpa using J,by rw[M];congr 3;omega,N,R⟩
 | [],_::_,_,_,hm,_=>hm.elim
 | _::_,[],_,_,hm,_=>hm.elim
theorem zKr{d:TypeDesc}{j:Value}:∀{l:List (Value×T)}{es:List MapEntry}{i:Nat},xQ B r l es→zMz d j l i=none→Instr.findNow d j es i=none
 | [],[],i,_,h=>by simp[zMz]at h
 | e::l,f::es,i,hm,h=>by
  simp only[zMz]at h;unfold Instr.findNow;rw[hm.1];cases q:Instr.sameNow d j e.1 with
  | none=>rfl
  | some b=>
   cases b with
   | true=>simp[q]at h
   | false=>simp only[q]at h ⊢;exact zKr hm.2.2 h
 | [],_::_,_,hm,_=>hm.elim
 | _::_,[],_,hm,_=>hm.elim
theorem zXa{t:TypeId}{z:Value}:∀{l:List (Value×T)}{es:List MapEntry}{i:Nat}{q:Option Nat},xQ B r l es→qFx P t z l i=some q→
  (q=none∧(Instr.findAsking t z es i).run P w= .ok none w)∨∃j e f,q=some (i+j)∧l[j]?=some e∧es[j]?=some f∧(Instr.findAsking t z es i).run P w= .ok (some (i+j,f.val)) w∧f.key=e.1∧Rep B r e.2 f.val
 | [],[],i,q,_,h=>by simp only[qFx,za]at h;exact .inl ⟨h.symm,rfl⟩
 | e::l,f::es,i,q,hm,h=>by
  simp only[qFx]at h;unfold Instr.findAsking;rw[hm.1];cases y:zJh P (Op.equal t z e.1)with
  | none=>simp[y]at h
  | some b=>
   simp only[zk,zDo y w,zg];cases b with
   | true=>simp only[y,za]at h;exact .inr ⟨0,e,f,h.symm,rfl,rfl,by simp[zm],hm.1,hm.2.1⟩
   | false=>
    simp only[y]at h;rcases zXa hm.2.2 h with⟨A,C⟩ | ⟨j,G,I,A,C,J,M,N,R⟩
    ·exact .inl ⟨A,by simpa using C⟩
    ·exact .inr ⟨j+1,G,I,by rw[A];congr 1;omega,by simpa using C,by simpa using J,by simp;rw[M];congr 3;omega,N,R⟩
 | [],_::_,_,_,hm,_=>hm.elim
 | _::_,[],_,_,hm,_=>hm.elim
theorem zQj{t:TypeId}{G:Value}{l:List (Value×T)}{es:List MapEntry}{q:Option Nat}(hm:xQ B r l es)(h:zKq P t G l=some q):
  (q=none∧(Instr.findKey t G es).run P w= .ok none w)∨∃j e f,q=some j∧l[j]?=some e∧es[j]?=some f∧(Instr.findKey t G es).run P w= .ok (some (j,f.val)) w∧f.key=e.1∧Rep B r e.2 f.val:=by
 unfold zKq at h;cases S:P.underlying t with
 | none=>simp[S]at h
 | some d=>
  simp only[S]at h;unfold Instr.findKey;simp only[underlying,S,zk,zm,qr,zg];cases C:zMz d G l 0 with
  | some U=>
   simp only[C,za]at h;subst h;rcases zXb hm C with⟨y,z⟩ | ⟨j,I,J,y,z,M,A,N,R⟩
   ·rw[z];exact .inl ⟨y,rfl⟩
   ·rw[A];exact .inr ⟨j,I,J,by rw[y,ql],z,M,by rw[ql];rfl,N,R⟩
  | none=>
   simp only[C]at h;rw[zKr hm C];rcases zXa (w:=w) hm h with⟨y,z⟩ | ⟨j,I,J,y,z,M,A,N,R⟩
   ·exact .inl ⟨y,z⟩
   ·exact .inr ⟨j,I,J,by rw[y,ql],z,M,by rw[ql]at A;exact A,N,R⟩
theorem zQl{e:Bool}{t:TypeId}{f:Value}(h:kOk P e t f=true)(w:World):(Instr.checkKey e 10000 t f).run P w= .ok () w:=by
 unfold kOk at h;cases j:zJh P (Instr.checkKey e 10000 t f)with
 | none=>simp[j]at h
 | some u=>exact zDo j w
def lkR(ok:Bool)(v:Value)(b:Bool):Value:=if ok then .tuple #[v,.bool b]else v
theorem zFi{ok b:Bool}{t:T}{v:Value}(h:Rep B r t v):Rep B r (okT ok t b) (lkR ok v b):=by
 cases ok with
 | false=>exact h
 | true=>exact Rep.mkTu (vs:=[v,.bool b]) ⟨h,.v rfl,trivial⟩
theorem qXj{l:List (Value×T)}{es:List MapEntry}(h:xQ B r l es):emp l=es.toArray.isEmpty:=by
 cases l<;>cases es<;>first | rfl | exact h.elim
theorem zRl(hH:zIv B r w H)(G:∀x,Rep B r (ρT x) (ρ x)){t:TypeId}{m x:Operand}{ok:Bool}(ho:o.op= .lookup t m x ok){z:T×Option TO}(h:zHo P H t (ρT m) (ρT x) ok=some z):Ans P w ρ o B r k z:=by
 unfold zHo at h;cases hm:zGw P t with
 | none=>simp[hm]at h
 | some kv=>
  obtain⟨A,vt⟩:=kv;cases M:zKh H (ρT m)with
  | none=>simp[hm,M]at h
  | some l=>
   cases W:sOf (ρT x)with
   | none=>simp[hm,M,W]at h
   | some e=>
    simp only[hm,M,W]at h;cases U:kOk P (emp l) A e with
    | false=>simp[U]at h
    | true=>
     simp only[U,ze]at h;have N:=mQ hm;have hx:=zOg W (G x);have fin:∀(es:Array MapEntry),xQ B r l es.toList→
       (∀(n:Nat)(v:Value),(Instr.checkKey es.isEmpty 10000 A e).run P w= .ok () w→(Instr.findKey A e es.toList).run P w= .ok (some (n,v)) w→(Instr.lookup t (ρ m) e ok).run P w= .ok (lkR ok v true) w)→
       (∀(v:Value),(Instr.checkKey es.isEmpty 10000 A e).run P w= .ok () w→(Instr.findKey A e es.toList).run P w= .ok none w→(zeroValue vt).run P w= .ok v w→(Instr.lookup t (ρ m) e ok).run P w= .ok (lkR ok v false) w)→Ans P w ρ o B r k z:=fun es y h1 h0=>by
      have f:=zQl U w;rw[qXj y]at f;have S:es.toList.toArray=es:=by simp
      rw[S]at f;have C:∀u,(Instr.lookup t (ρ m) e ok).run P w= .ok u w→(execOp ρ o).run P w= .ok (.value u) w:=fun u N2=>by
       unfold execOp;simp only[ho,hx,zk,N2,zg,zm]
      cases I:zKq P A e l with
      | none=>simp[I]at h
      | some q=>
       rcases zQj (w:=w) y I with⟨rfl,V⟩ | ⟨j,e',f',rfl,h2,h3,V,h5,h6⟩
       ·simp only[I]at h;unfold qQu at h;cases J:P.info? vt with
        | none=>simp[J]at h
        | some i0=>
         cases Z:i0.zero with
         | none=>simp[J,Z]at h
         | some zv=>
          simp only[J,Z]at h;exact qG h ⟨_,C _ (h0 zv f V (mZ J Z w)),zFi (zBh zv)⟩
       ·simp only[I]at h;have hn:jAi l j=some e'.2:=by unfold jAi;rw[h2]
        simp only[hn]at h;exact qG h ⟨_,C _ (h1 j f'.val f V),zFi h6⟩
     rcases zWq hH M (G m)with⟨hv,rfl⟩ | ⟨b,es,clk,hv,hg,y⟩
     ·refine fin #[] trivial (fun n v g1 g2=>?_) (fun v g1 g2 R=>?_)
      ·rw[hv];unfold Instr.lookup;simp only[underlying,N,zk,zm,qr,zg,g1,g2];rfl
      ·rw[hv];unfold Instr.lookup;simp only[underlying,N,zk,zm,qr,zg,g1,g2,R];rfl
     ·refine fin es y (fun n v g1 g2=>?_) (fun v g1 g2 R=>?_)
      ·rw[hv];unfold Instr.lookup;simp only[underlying,N,zk,zm,qr,yZ hg,zg,g1,g2];rfl
      ·rw[hv];unfold Instr.lookup;simp only[underlying,N,zk,zm,qr,yZ hg,zg,g1,g2,R];rfl
theorem zVa(U:zIv B r w H)(C:∀x,Rep B r (ρT x) (ρ x)){t:TypeId}{m x:Operand}{ok:Bool}(ho:o.op= .lookup t m x ok){z:T×Option TO}(h:zNw P H t (ρT m) (ρT x) ok=some z):Ans P w ρ o B r k z:=by
 unfold zNw at h;cases hd:dOf H (ρT m)with
 | none=>simp only[hd]at h;exact zRl U C ho h
 | some d=>
  simp only[hd]at h;cases hm:zGw P t with
  | none=>simp[hm]at h
  | some kv=>
   obtain⟨kt,vt⟩:=kv;simp only[hm]at h;unfold lkD at h;split at h
   ·rename_i J z' hk I;split at h
    ·rename_i z0 R;cases y:wU P kt d.K with
     | false=>simp[y]at h
     | true=>
      simp only[y,ze]at h;have Z:=mQ hm;have hx:=zXd y (zAm hk (C x));obtain⟨b,es,clk,hv,V,N⟩:=qDz U hd (C m);obtain⟨q,W,hf⟩:=zPy (w:=w) y J d.l es.toList (zCl N);unfold qQu at I;cases M:P.info? vt with
      | none=>simp[M]at I
      | some i0=>
       cases A:i0.zero with
       | none=>simp[M,A]at I
       | some zv=>
        simp only[M,A,za]at I;subst I;have S:=zAm R (zBh (B:=B) (r:=r) zv);have G:∀u,(Instr.lookup t (ρ m) (vG d.K J) ok).run P w= .ok u w→(execOp ρ o).run P w= .ok (.value u) w:=fun u N2=>by
         unfold execOp;simp only[ho,hx,zk,N2,zg,zm]
        rcases hf with⟨rfl,h2,h3,_⟩ | ⟨j,e,f,rfl,_,_,_,_,h6,h7,h8,_⟩
        ·rw[h2,h3]at h;refine qG h ⟨_,G (lkR ok zv false) ?_,zFi S⟩;rw[hv];unfold Instr.lookup;simp only[underlying,Z,zk,zm,qr,zg,yZ V,bF y,W,mZ M A w];rfl
        ·rw[h7,h8]at h;refine qG h ⟨_,G (lkR ok f.val true) ?_,zFi h6⟩;rw[hv];unfold Instr.lookup;simp only[underlying,Z,zk,zm,qr,zg,yZ V,bF y,W];rfl
    ·cases h
   ·cases h
theorem zV{a b:Nat}(h:Nat.beq a b=true):a=b:=qp h
theorem tV(b e j:Nat):(some (⟨b,e,none⟩:Addr)).map (·.add j)=some ⟨b,e+j,none⟩:=by simp[jT]
def ad'(ad:Option Addr)(m l s:Nat):Option Addr:=if m=l then ad else ad.map (·.add (l*s))
theorem qVx{y:List T}{ad:Option Addr}{f j m n s:Nat}(q:m≤maxLen)(I:f≤j)(J:j≤m)(M:j≤n)(C:(n=0∧y=[])∨∃b o,ad=some ⟨b,o,none⟩∧Cls B r b o y):
  Rep B r (bif Nat.beq f j then .sl [] 0 else .sl (jJ y (f*s)) (j-f)) (.slice (ad' ad m f s) (j-f) (m-f)):=by
 cases e:Nat.beq f j with
 | true=>
  obtain rfl:=qp e;rw[uf];exact .sl0 (qx (ue _ _) q)
 | false=>
  have G:f≠j:=fun z=>by subst z;simp at e
  rcases C with⟨rfl,rfl⟩ | ⟨b,o,rfl,A⟩
  ·omega
  ·unfold ad';rw[qm (by omega),tV];exact(A.drop _).sl (by omega) (qx (ue _ _) q)
theorem zTo{q:List T}{ad:Option Addr}{j f n s:Nat}(G:j≤f)(I:f≤n)(A:(n=0∧q=[])∨∃b o,ad=some ⟨b,o,none⟩∧Cls B r b o q):
  Rep B r (bif Nat.beq j f then .st [] 0 else .st (jJ q (j*s)) (f-j)) (.slice (ad' ad f j s) (f-j) (f-j)):=by
 cases e:Nat.beq j f with
 | true=>
  obtain rfl:=qp e;rw[uf];exact .st0
 | false=>
  have C:j≠f:=fun y=>by subst y;simp at e
  rcases A with⟨rfl,rfl⟩ | ⟨b,o,rfl,z⟩
  ·omega
  ·unfold ad';rw[qm (by omega),tV];exact(z.drop _).st
theorem qBh{x t:T}{q j s n:Nat}{v:Value}(y:jH x=some n)(h:nV x q j s=some t)(I:Rep B r x v):
  ∃ad c,v= .slice ad n c∧q≤j∧j≤c∧Rep B r t (.slice (ad' ad c q s) (j-q) (c-q)):=by
 cases x with
 | sl Z m=>
  simp only[jH,za]at y;subst y;simp only[nV]at h;cases f:Nat.ble q j&&Nat.ble j m with
  | false=>simp[f]at h
  | true=>
   simp only[f,ze,za]at h;subst h;simp only[zd,qv]at f;have z:=I;obtain⟨ad,c,rfl,R,S⟩:=I.slI;exact⟨ad,c,rfl,f.1,by omega,qVx z.slB f.1 (by omega) f.2 S⟩
 | st Z m=>
  simp only[jH,za]at y;subst y;simp only[nV]at h;cases f:Nat.ble q j&&Nat.beq j m with
  | false=>simp[f]at h
  | true=>
   simp only[f,ze,za]at h;subst h;simp only[zd,qv]at f;obtain⟨J,M⟩:=f;obtain rfl:=zV M;obtain⟨ad,rfl,S⟩:=I.stI;exact⟨ad,j,rfl,J,zq _,zTo J (zq _) S⟩
 | os i o m c=>
  simp only[jH,za]at y;subst y;simp only[nV]at h;cases f:Nat.ble q j&&Nat.ble j c with
  | false=>simp[f]at h
  | true=>
   simp only[f,ze]at h;simp only[zd,qv]at f;obtain⟨b,C,rfl,N⟩:=I.osI;refine⟨_,c,rfl,f.1,f.2,?_⟩;unfold ad';cases e:Nat.beq q c with
   | true=>
    simp only[e,ze,za]at h;subst h;rw[qn (qp e).symm];exact .os N
   | false=>
    simp only[e,zf,za]at h;subst h;rw[qm (fun e'=>by subst e';simp at e),tV];exact .os N
 | og i o m=>
  simp only[jH,za]at y;subst y;simp only[nV]at h;obtain⟨b,C,c,rfl,N,R,W⟩:=I.ogI;have z:=I.ogB;cases f:Nat.ble q j&&(Nat.ble j m&&(Nat.blt q m&&Nat.blt 0 s))with
  | true=>
   simp only[f,ze,za]at h;subst h;simp only[zd,qv,qz]at f;refine⟨_,c,rfl,f.1,by omega,?_⟩
   unfold ad';rw[qm (by omega),tV]
   refine .og N (by omega) (fun e=>?_) (qx (ue _ _) z)
   have J:o=0:=by omega
   have M:q*s=0:=by omega
   have h3:q=0:=by
    rcases Nat.mul_eq_zero.1 M with h | h
    ·exact h
    ·omega
   rw[h3,Nat.sub_zero];exact W J
  | false=>
   simp only[f,zf]at h;cases G:Nat.beq q 0&&Nat.beq j 0 with
   | false=>
    simp only[G,zf]at h;cases U:Nat.beq q j&&Nat.ble j m with
    | false=>simp[U]at h
    | true=>
     simp only[U,ze,za]at h;subst h;simp only[zd,qv]at U;obtain rfl:=zV U.1;refine⟨_,c,rfl,zq _,by omega,?_⟩
     rw[uf];exact .sl0 (qx (ue _ _) z)
   | true=>
    simp only[G,ze,za]at h;subst h;simp only[zd]at G;obtain rfl:=zV G.1;obtain rfl:=zV G.2;refine⟨_,c,rfl,zq _,qu _,?_⟩;unfold ad';have:(if c=0 then some (⟨b,o,none⟩:Addr)else(some (⟨b,o,none⟩:Addr)).map (·.add (0*s)))=some ⟨b,o,none⟩:=by
     split
     ·rfl
     ·rw[tV];simp
    rw[this];exact .og N (qu _) W z
 | v x=>
  obtain⟨rfl,_⟩:=I.vI;unfold nV at h;split at h<;>(try (rename_i e;cases e;done))<;>(try cases h)
  rename_i e;cases e;cases G:Nat.beq j 0&&Nat.beq q 0 with
  | false=>simp[G]at h
  | true=>
   simp only[G,ze,za]at h;subst h;simp only[zd]at G;obtain rfl:=zV G.1;obtain rfl:=zV G.2;simp only[jH,za]at y;subst y;exact⟨none,0,rfl,zq _,zq _,.v rfl⟩
 | sn=>simp[nV]at h
 | ls g A l=>
  simp only[jH,za]at y;subst y;simp only[nV]at h;cases f:Nat.beq s A.size&&(Nat.ble q j&&Nat.ble j l.length)with
  | false=>simp[f]at h
  | true=>
   simp only[f,ze,za]at h;subst h;simp only[zd,qv]at f;obtain⟨hs,J,M⟩:=f;obtain rfl:=zV hs;have V:=I;obtain⟨ad,c,rfl,y,hm,S⟩:=I.lsI;refine⟨ad,c,rfl,J,by omega,?_⟩
   by_cases e:q=j
   ·subst e;rw[uf,uj];exact .ls ⟨_,c-q,rfl,qu _,by omega,.inl rfl⟩
   ·rcases S with rfl | ⟨b,o,rfl,_,_⟩
    ·simp at M;omega
    ·unfold ad';rw[qm (by omega),tV]
     exact V.lsP (by omega)
 | hv A l=>cases h
 | _=>cases y
theorem qBg{x t:T}{z q j s n:Nat}{v:Value}(y:jH x=some n)(h:gB x z q j s=some t)(I:Rep B r x v):
  ∃ad c,v= .slice ad n c∧z≤q∧q≤j∧j≤c∧Rep B r t (.slice (ad' ad j z s) (q-z) (j-z)):=by
 cases x with
 | sl W m=>
  simp only[jH,za]at y;subst y;simp only[gB]at h;cases f:Nat.ble z q&&(Nat.beq q j&&Nat.ble j m)with
  | false=>simp[f]at h
  | true=>
   simp only[f,ze,za]at h;subst h;simp only[zd,qv]at f;obtain⟨G,M,N⟩:=f;obtain rfl:=zV M;obtain⟨ad,c,rfl,S,U⟩:=I.slI;exact⟨ad,c,rfl,G,zq _,by omega,zTo G N U⟩
 | st W m=>
  simp only[jH,za]at y;subst y;simp only[gB]at h;cases f:Nat.ble z q&&(Nat.beq q j&&Nat.ble j m)with
  | false=>simp[f]at h
  | true=>
   simp only[f,ze,za]at h;subst h;simp only[zd,qv]at f;obtain⟨G,M,N⟩:=f;obtain rfl:=zV M;obtain⟨ad,rfl,U⟩:=I.stI;exact⟨ad,m,rfl,G,zq _,N,zTo G N U⟩
 | os i o m c=>
  simp only[jH,za]at y;subst y;simp only[gB]at h;cases f:Nat.ble z q&&(Nat.ble q j&&Nat.ble j c)with
  | false=>simp[f]at h
  | true=>
   simp only[f,ze,za]at h;subst h;simp only[zd,qv]at f;obtain⟨b,C,rfl,R⟩:=I.osI;refine⟨_,c,rfl,f.1,f.2.1,f.2.2,?_⟩;unfold ad';cases e:Nat.beq z j with
   | true=>rw[qn (zV e).symm];exact .os R
   | false=>rw[qm (fun V=>by subst V;simp at e),tV];exact .os R
 | og i o m=>
  simp only[jH,za]at y;subst y;simp only[gB]at h;obtain⟨b,C,c,rfl,R,S,h0⟩:=I.ogI;have Z:=I.ogB;cases f:Nat.ble z q&&(Nat.ble q j&&Nat.ble j m)with
  | false=>simp[f]at h
  | true=>
   simp only[f,ze,za]at h;subst h;simp only[zd,qv]at f;refine⟨_,c,rfl,f.1,f.2.1,by omega,?_⟩
   unfold ad';cases e:Nat.beq z j with
   | true=>rw[qn (zV e).symm];exact .os R
   | false=>rw[qm (fun V=>by subst V;simp at e),tV];exact .os R
 | v x=>
  obtain⟨rfl,_⟩:=I.vI;unfold gB at h;split at h<;>(try (rename_i e;cases e;done))<;>(try cases h)
  rename_i e;cases e;cases J:Nat.beq q 0&&(Nat.beq z 0&&Nat.beq j 0)with
  | false=>simp[J]at h
  | true=>
   simp only[J,ze,za]at h;subst h;simp only[zd]at J;obtain rfl:=zV J.1;obtain rfl:=zV J.2.1;obtain rfl:=zV J.2.2;simp only[jH,za]at y;subst y;exact⟨none,0,rfl,zq _,zq _,zq _,.v rfl⟩
 | sn=>simp[gB]at h
 | ls g A l=>
  simp only[jH,za]at y;subst y;simp only[gB]at h;cases f:(Nat.beq z q&&Nat.beq q j)&&Nat.ble j l.length with
  | false=>simp[f]at h
  | true=>
   simp only[f,ze,za]at h;subst h;simp only[zd,qv]at f;obtain⟨⟨G,M⟩,N⟩:=f;obtain rfl:=zV G;obtain rfl:=zV M;obtain⟨ad,c,rfl,y,hm,U⟩:=I.lsI;refine⟨ad,c,rfl,zq _,zq _,by omega,?_⟩
   rw[uf];exact .st0
 | hv A l=>cases h
 | _=>cases y
theorem zPd{t:Option T}{x:T×Option TO}(h:qBl t=some x):∃q,t=some q∧x=(q,none):=by
 cases t with
 | none=>cases h
 | some q=>cases h;exact⟨q,rfl,rfl⟩
theorem qHv{f:Option Operand}{d l:Nat}(e:∀x,Rep B r (ρT x) (ρ x))(h:opt ρT d f=some l):Bd ρ d l f:=by
 cases f with
 | none=>simp only[opt,za]at h;exact h.symm
 | some a=>exact wY h (e a)
theorem qBa(f:∀x,Rep B r (ρT x) (ρ x)){t:TypeId}{x:Operand}{R y S:Option Operand}(ho:o.op= .slice t x R y S){z:T×Option TO}(h:nR P t (ρT x) ρT R y S=some z):Ans P w ρ o B r k z:=by
 unfold nR at h;cases he:elT P t with
 | none=>simp[he]at h
 | some e=>
  cases A:ldT P e with
  | none=>simp[he,A]at h
  | some gs=>
   obtain⟨g,s⟩:=gs;cases C:jH (ρT x)with
   | none=>simp[he,A,C]at h
   | some n=>
    simp only[he,A,C]at h;cases j:opt ρT 0 R with
    | none=>simp[j]at h
    | some l=>
     cases q:opt ρT n y with
     | none=>simp[j,q]at h
     | some W=>
      have U:=qHv f j;have V:=qHv f q;cases S with
      | none=>
       simp only[j,q,tQ]at h;obtain⟨tu,I,rfl⟩:=zPd h;obtain⟨ad,c,hv,J,M,N⟩:=qBh C I (f x);exact⟨_,zYl (m:=c) (l:=l) (h:=W) ho (wI he) A hv U V rfl (fun _=>rfl) J (.inl M) (zq _) w,N⟩
      | some Z=>
       cases G:rX (ρT Z)with
       | none=>cases y<;>simp[j,q,G,tQ]at h
       | some m=>
        cases y with
        | none=>simp[j,q,tQ]at h
        | some a=>
        simp only[j,q,G,tQ]at h;obtain⟨tu,I,rfl⟩:=zPd h;obtain⟨ad,c,hv,J,M,N,k4⟩:=qBg C I (f x);exact⟨_,zYl (m:=m) (l:=l) (h:=W) ho (wI he) A hv U V (wY G (f Z)) (fun e=>nomatch e) J (.inl M) N w,k4⟩
end
section
variable {P:Program}{E:Nat→Prop}{w0:World}{X:Hid}{F:List Nat}{H:List TO}{B:Bm}{w:World}{Y:Hid}{Mo:List (Nat×Obj)}{ρ:Operand→Value}{ρT:Operand→T}{o:Oper}{r:Rd}{k:Nat}
theorem zKj{s f a t:Nat}(h:qAb P s f=some (a,t)):∃e x,P.underlying s=some (.struct e)∧e[f]?=some x∧x.offset=a∧x.type=t:=by
 unfold qAb at h;split at h
 ·rename_i e q;cases j:e[f]? with
  | none=>simp[j]at h
  | some x=>simp only[j,za,z7]at h;exact⟨e,x,q,j,h.1,h.2⟩
 ·cases h
theorem zJf(R:∀x,Rep B r (ρT x) (ρ x)){s:TypeId}{x:Operand}{f:Nat}(ho:o.op= .fieldAddr s x f){z:T×Option TO}(h:lU P s (ρT x) f=some z):Ans P w ρ o B r k z:=by
 have G:=R x;unfold lU at h;cases A:qAb P s f with
 | none=>simp[A]at h
 | some I=>
  obtain⟨a,t⟩:=I;cases J:ldT P t with
  | none=>simp[A,J]at h
  | some S=>
   obtain⟨g,n⟩:=S;simp only[A,J]at h;cases M:Nat.beq n 0 with
   | true=>simp[M]at h
   | false=>
    have N:n≠0:=fun e=>by subst e;simp at M
    simp only[M,zf]at h;obtain⟨fs,fld,U,V,W,Z⟩:=zKj A;have y:∀b q,ρ x= .pointer (some ⟨b,q,none⟩)→(execOp ρ o).run P w= .ok (.value (.pointer (some ⟨b,q+a,none⟩))) w:=fun b q hv=>by
     unfold execOp;simp only[ho,hv,Instr.fieldAt,Instr.sureAddr,fieldPlace,underlying,U,V,W,Z,zk,zm,qr,zg,x3 J,N,wi,jT]
    split at h
    ·rename_i i j e;rw[e]at G;obtain⟨b,C,hv,hB⟩:=G.opI;exact qG h ⟨_,y _ _ hv,.op hB⟩
    ·rename_i cs e;rw[e]at G;obtain⟨b,q,hv,hc⟩:=G.fpI;exact qG h ⟨_,y _ _ hv,(hc.drop a).fp⟩
    ·cases h
theorem zRy{t:TypeId}{g:Bool}{s a:Nat}{f:List Value}(q:ldT P t=some (g,s))(y:g=true∨((f.drop a).take s).length=1)(z:((f.drop a).take s).length=s)(w:World):(part t f.toArray a).run P w= .ok (ldV g ((f.drop a).take s)) w:=by
 unfold part;simp only[zk,zLl q,zg];cases g with
 | true=>
  simp only[j7,zk,x3 q,zg,zm,ldV,ze];congr 2;apply j0;simp[j6]
 | false=>
  have j:((f.drop a).take s).length=1:=by simpa using y
  have:s=1:=z.symm.trans j;subst this;have hlt:a<f.length:=by
   rcases qg a f.length with h | h
   ·exact h
   ·rw[uL h]at j;simp at j
  have e:(f.drop a).take 1=[f[a]]:=by
   rw[j9 hlt];rfl
  rw[e];simp[hlt,ldV,zm]
theorem qAz(C:∀x,Rep B r (ρT x) (ρ x)){s:TypeId}{x:Operand}{f:Nat}(ho:o.op= .field s x f){z:T×Option TO}(h:zNv P s (ρT x) f=some z):Ans P w ρ o B r k z:=by
 have I:=C x;unfold zNv at h;cases y:qAb P s f with
 | none=>simp[y]at h
 | some q=>
  obtain⟨a,t⟩:=q;simp only[y]at h;split at h
  ·rename_i J e;rw[e]at I;cases j:ldT P t with
   | none=>simp[j]at h
   | some M=>
    obtain⟨g,n⟩:=M;cases ht:jR n (jJ J a)with
    | none=>simp[j,ht]at h
    | some us=>
     simp only[j,ht]at h;cases A:g||Nat.beq n 1 with
     | false=>simp[A]at h
     | true=>
      simp only[A,ze]at h;obtain⟨vs,hv,hR⟩:=I.agI;obtain⟨V,G⟩:=zP.take (hR.drop a) ht;obtain⟨W,Z⟩:=zFg G A V;obtain⟨fs,fld,N,R,S,U⟩:=zKj y;refine qG h ⟨_,?_,W⟩;unfold execOp;simp only[ho,hv,Instr.field,asAgg,underlying,N,R,S,U,zk,zm,qr,zg,zRy j Z G]
  ·cases h
theorem zRj(U:∀x,Rep B r (ρT x) (ρ x)){t:TypeId}{x V:Operand}(ho:o.op= .indexAddr t x V){z:T×Option TO}(h:sK P t (ρT x) (ρT V)=some z):Ans P w ρ o B r k z:=by
 have I:=U x;unfold sK at h;cases hi:rX (ρT V)with
 | none=>simp[hi]at h
 | some i=>
  simp only[hi]at h;obtain⟨kd,hv⟩:=wY hi (U V);split at h
  ·rename_i e ht;cases N:ldT P e with
   | none=>simp[N]at h
   | some Z=>
    obtain⟨g,s⟩:=Z;simp only[N]at h;have G:∀b q n c,ρ x= .slice (some ⟨b,q,none⟩) n c→i<n→(execOp ρ o).run P w= .ok (.value (.pointer (some ⟨b,q+i*s,none⟩))) w:=fun b q n c y hlt=>jE ho ht y hv N (by omega) (by omega) (by simp) w
    split at h
    ·rename_i cs n J;rw[J]at I;cases f:Nat.blt i n with
     | false=>simp[f]at h
     | true=>
      simp only[f,ze]at h;rw[qz]at f;obtain⟨ad,c,y,_,hh⟩:=I.slI;rcases hh with⟨rfl,_⟩ | ⟨b,q,rfl,M⟩
      ·omega
      ·exact qG h ⟨_,G _ _ _ _ y f,(M.drop _).fp⟩
    ·rename_i cs n J;rw[J]at I;cases f:Nat.blt i n with
     | false=>simp[f]at h
     | true=>
      simp only[f,ze]at h;rw[qz]at f;obtain⟨ad,y,hh⟩:=I.stI;rcases hh with⟨rfl,_⟩ | ⟨b,q,rfl,M⟩
      ·omega
      ·exact qG h ⟨_,G _ _ _ _ y f,(M.drop _).fp⟩
    ·rename_i j q n c J;rw[J]at I;cases f:Nat.blt i n with
     | false=>simp[f]at h
     | true=>
      simp only[f,ze]at h;rw[qz]at f;obtain⟨b,C,y,S⟩:=I.osI;exact qG h ⟨_,G _ _ _ _ y f,.op S⟩
    ·rename_i j q n J;rw[J]at I;cases f:Nat.blt i n with
     | false=>simp[f]at h
     | true=>
      simp only[f,ze]at h;rw[qz]at f;obtain⟨b,C,c,y,S,_⟩:=I.ogI;exact qG h ⟨_,G _ _ _ _ y f,.op S⟩
    ·rename_i gg A l J;rw[J]at I;cases f:Nat.beq s A.size&&Nat.blt i l.length with
     | false=>simp[f]at h
     | true=>
      simp only[f,ze]at h;simp only[zd,qz]at f;obtain rfl:=zV f.1;obtain⟨ad,c,y,_⟩:=I.lsI;obtain⟨b,o,n2,W,R,M⟩:=I.lsE f.2;rw[R]at y;cases y;exact qG h ⟨_,G _ _ _ _ R f.2,M.fp⟩
    ·rename_i A l J;rw[J]at I;cases f:Nat.beq s A.size&&Nat.blt i l.length with
     | false=>simp[f]at h
     | true=>
      simp only[f,ze]at h;simp only[zd,qz]at f;obtain rfl:=zV f.1;obtain⟨ad,c,y,_⟩:=I.hvI;obtain⟨b,o,n2,W,R,M⟩:=I.hvE f.2;rw[R]at y;cases y;exact qG h ⟨_,G _ _ _ _ R f.2,M.fp⟩
    ·cases h
  ·rename_i n e ht;cases N:ldT P e with
   | none=>simp[N]at h
   | some Z=>
    obtain⟨g,s⟩:=Z;simp only[N]at h;have G:∀b q,ρ x= .pointer (some ⟨b,q,none⟩)→i<n→(execOp ρ o).run P w= .ok (.value (.pointer (some ⟨b,q+i*s,none⟩))) w:=fun b q y hlt=>by
     have c1:(0:Int)≤(i:Int):=by omega
     have W:(i:Int)<(n:Int):=by omega
     unfold execOp;simp only[ho,y,hv,Instr.indexAt,asIntOf,underlying,Instr.sureAddr,ht,zk,zm,qr,zg,c1,W,dj,j7,x3 N,jT,wj]
    split at h
    ·rename_i j q J;rw[J]at I;cases f:Nat.blt i n with
     | false=>simp[f]at h
     | true=>
      simp only[f,ze]at h;rw[qz]at f;obtain⟨b,C,y,S⟩:=I.opI;exact qG h ⟨_,G _ _ y f,.op S⟩
    ·rename_i cs J;rw[J]at I;cases f:Nat.blt i n with
     | false=>simp[f]at h
     | true=>
      simp only[f,ze]at h;rw[qz]at f;obtain⟨b,q,y,M⟩:=I.fpI;exact qG h ⟨_,G _ _ y f,(M.drop _).fp⟩
    ·cases h
  ·cases h
theorem qPk(q:∀x,Rep B r (ρT x) (ρ x)){t:TypeId}{x A:Operand}(ho:o.op= .index t x A){z:T×Option TO}(h:qPj P t (ρT x) (ρT A)=some z):Ans P w ρ o B r k z:=by
 have I:=q x;unfold qPj at h;cases C:rX (ρT A)with
 | none=>simp[C]at h
 | some i=>
  simp only[C]at h;obtain⟨kd,hv⟩:=wY C (q A);split at h
  ·rename_i n e ht;cases y:ldT P e with
   | none=>simp[y]at h
   | some S=>
    obtain⟨g,s⟩:=S;simp only[y]at h;split at h
    ·rename_i N R;rw[R]at I;cases j:Nat.blt i n&&(g||Nat.beq s 1)with
     | false=>simp[j]at h
     | true=>
      simp only[j,ze]at h;simp only[zd]at j;cases f:jR s (jJ N (i*s))with
      | none=>simp[f]at h
      | some us=>
       simp only[f]at h;obtain⟨vs,hs,Z⟩:=I.agI;obtain⟨U,G⟩:=zP.take (Z.drop (i*s)) f;obtain⟨V,W⟩:=zFg G j.2 U;have hlt:=j.1;rw[qz]at hlt;have J:(0:Int)≤(i:Int):=by omega
       have M:(i:Int)<(n:Int):=by omega
       refine qG h ⟨_,?_,V⟩;unfold execOp;simp only[ho,hs,hv,Instr.index,asIntOf,underlying,ht,zk,zm,qr,zg,J,M,dj,j7,x3 y,wj,zRy y W G]
    ·cases h
  ·cases h
theorem zBq:∀{f:List T}{j:List Value}{e:List T}{c:List Value}(o:Nat),zP B r f j→zP B r e c→zP B r (jW e o f) ((j.zipIdx o).foldl (fun c p=>c.set p.2 p.1) c)
 | [],[],_,_,_,_,h=>h
 | t::f,v::j,e,c,o,k,h=>by
  simp only[jW,List.zipIdx_cons,fX];exact zBq (o+1) k.2 (h.put o k.1)
 | [],_::_,_,_,_,k,_=>k.elim
 | _::_,[],_,_,_,k,_=>k.elim
theorem zKl(e:Nat):∀(l:List (Value×Nat))(c:Array Value),(l.foldl (fun f p=>f.setIfInBounds (e+p.2) p.1) c).toList=(l.map fun p=>(p.1,e+p.2)).foldl (fun c p=>c.set p.2 p.1) c.toList
 | [],_=>rfl
 | p::l,c=>by
  simp only[fX,jl];rw[zKl e l];simp
theorem zZm(e:Nat):∀(l:List Value)(k:Nat),((l.zipIdx k).map fun p=>(p.1,e+p.2))=l.zipIdx (e+k)
 | [],_=>rfl
 | x::l,k=>by
  simp only[List.zipIdx_cons,jl,zZm e l (k+1)];rfl
theorem qMk(e:Nat)(v c:Array Value):(v.zipIdx.foldl (fun f(p:Value×Nat)=>f.setIfInBounds (e+p.2) p.1) c).toList=(v.toList.zipIdx e).foldl (fun c p=>c.set p.2 p.1) c.toList:=by
 rw[←Array.foldl_toList,zKl,Array.toList_zipIdx,zZm];rfl
theorem zMr{G:Nat→Option (Nat×Nat)}(z:∀x,Rep B r (ρT x) (ρ x)):∀(C:List (Nat×Operand)){y us:List T}{c:Array Value},zP B r y c.toList→zEg G y (C.map fun p=>(p.1,ρT p.2))=some us→∃A,Instr.fill G c (C.map fun p=>(p.1,ρ p.2))=some A∧zP B r us A.toList
 | [],y,us,c,h,e=>by
  simp only[kO,zEg,za]at e;subst e;exact⟨c,rfl,h⟩
 | (i,x)::C,y,us,c,h,e=>by
  simp only[jl,zEg]at e;cases hp:G i with
  | none=>simp[hp]at e
  | some os=>
   obtain⟨j,s⟩:=os;simp only[hp]at e;cases q:!isU (ρT x)&&(Nat.beq (ln (cellsOf (ρT x))) s&&Nat.ble (j+s) (ln y))with
   | false=>simp[q]at e
   | true=>
    simp only[q,ze]at e;simp only[zd,qq,qv,qU]at q;have I:=(z x).cells (qFu q.1);have J:(ρ x).cells.size=s:=by rw[←zV q.2.1,I.length];simp
    have R:j+s≤c.size:=by
     have:=q.2.2;rw[h.length]at this;simpa using this
    have f:=zBq j I h;rw[←qMk]at f;obtain⟨A,M,N⟩:=zMr z C f e;refine⟨A,?_,N⟩;simp only[jl,Instr.fill,hp];rw[qm (by simp[J];omega)]
    exact M
theorem zRz(w:World):∀{l:List Field}{q:List (Nat×Nat)},zVb P l=some q→(l.mapM fun f=>(do pure (f.offset,←sizeOf f.type):Sem (Nat×Nat))).run P w= .ok q w
 | [],q,h=>by simp only[zVb,za]at h;subst h;rfl
 | f::l,q,h=>by
  simp only[zVb]at h;cases e:ldT P f.type with
  | none=>simp[e]at h
  | some y=>
   obtain⟨g,s⟩:=y;cases j:zVb P l with
   | none=>simp[e,j]at h
   | some z=>
    simp only[e,j,za]at h;subst h;simp only[yh,zk,x3 e,zg,zm,zRz w j]
theorem qAy(N:∀x,Rep B r (ρT x) (ρ x)){t:TypeId}{f:Array (Nat×Operand)}(ho:o.op= .build t f){z:T×Option TO}(h:zUy P t (evP ρT f)=some z):Ans P w ρ o B r k z:=by
 unfold zUy at h;cases j:zer P t with
 | none=>simp[j]at h
 | some zs=>
  cases hp:qIs P t with
  | none=>simp[j,hp]at h
  | some pl=>
   simp only[j,hp]at h;cases C:zEg pl zs (evP ρT f)with
   | none=>simp[C]at h
   | some us=>
    simp only[C]at h;obtain⟨i0,zv,S,U,rfl⟩:=lI j;obtain⟨R,V,Z⟩:=zMr N f.toList (mX zv.cells.toList) C;have hm:(f.map fun p=>(p.1,ρ p.2)).toList=f.toList.map fun p=>(p.1,ρ p.2):=by simp
    refine qG h ⟨.agg R,?_,by have:=Rep.mkAg Z;simpa using this⟩
    unfold qIs at hp;unfold execOp;split at hp
    ·rename_i y M;cases J:zVb P y.toList with
     | none=>simp[J]at hp
     | some q=>
      simp only[J,za]at hp;subst hp;have G:y=y.toList.toArray:=by simp
      have A:Instr.fill (fun x=>q.toArray[x]?) zv.cells (f.toList.map fun p=>(p.1,ρ p.2))=some R:=by
       simpa using V
      simp only[ho,Instr.build,zk,mZ S U,zg,underlying,M,qr,zm];rw[G];simp only[uw,Sem.run_map,zRz w J,zg,zk,hm];rw[A];rfl
    ·rename_i n e M;cases I:ldT P e with
     | none=>simp[I]at hp
     | some W=>
      obtain⟨g,s⟩:=W;simp only[I,za]at hp;subst hp;simp only[ho,Instr.build,zk,mZ S U,zg,underlying,M,qr,zm,x3 I,hm];rw[V];rfl
    ·cases hp
def zRu(l:List Value):Nat→List Value
 | 0=>[]
 | n+1=>l++zRu l n
theorem zHy(l:List Value):∀n,zP B r (reps (l.map ofV) n) (zRu l n)
 | 0=>trivial
 | n+1=>(mX l).app (zHy l n)
theorem zRw(l:List Value):∀n,(zRu l n).length=n*l.length
 | 0=>by simp[zRu]
 | n+1=>by simp only[zRu,qo,zRw l n];rw[yo];omega
theorem zRv(l:List Value):∀(n j:Nat),j<n*l.length→(zRu l n)[j]?=l[j % l.length]?
 | 0,j,h=>by simp at h
 | n+1,j,h=>by
  simp only[zRu];rcases qg j l.length with e | e
  ·rw[qh e,ki e]
  ·rw[jk e,zRv l n _ (by rw[yo]at h;omega)]
   rw[←Nat.mod_eq_sub_mod e]
theorem zXm(z:Array Value)(n:Nat)(f:0<z.size):(madeCells z (n*z.size)).toList=zRu z.toList n:=by
 apply kj;intro j;by_cases e:j<n*z.size
 ·rw[zRv _ _ _ (by simpa using e)]
  have hm:j % z.size<z.size:=ub _ f;simp[madeCells,e,hm]
 ·rw[qb (by simp[size_madeCells];omega),qb (by rw[zRw];simp;omega)]
theorem qIm(C:∀x,Rep B r (ρT x) (ρ x)){t:TypeId}{l c:Operand}(ho:o.op= .makeSlice t l c){z:T×Option TO}(h:qIl P k t (ρT l) (ρT c)=some z):Ans P w ρ o B r k z:=by
 unfold qIl at h;cases he:elT P t with
 | none=>simp[he]at h
 | some e=>
  cases q:rX (ρT l)with
  | none=>simp[he,q]at h
  | some nl=>
   cases A:rX (ρT c)with
   | none=>simp[he,q,A]at h
   | some j=>
    cases G:zer P e with
    | none=>simp[he,q,A,G]at h
    | some zs=>
     cases hd:ldT P e with
     | none=>simp[he,q,A,G,hd]at h
     | some S=>
      obtain⟨g,s⟩:=S;obtain⟨y,zv,J,V,rfl⟩:=lI G;simp only[he,q,A,G,hd,J]at h;cases f:(Nat.ble nl j&&Nat.ble j 1000000)&&(Nat.ble y.bytes 1000000&&(Nat.beq (ln (zv.cells.toList.map ofV)) s&&Nat.blt 0 s))with
      | false=>simp[f]at h
      | true=>
       simp only[f,ze,za]at h;subst h;simp only[zd,qv,qz,qU,ku,xe]at f;obtain⟨⟨c1,M⟩,N,I,c5⟩:=f;have I:=zV I;obtain⟨i1,d1,g1,_,R,_⟩:=fQ hd;rw[J]at g1;cases g1;obtain⟨kl,vl⟩:=wY q (C l);obtain⟨kc,vc⟩:=wY A (C c);have W:(y.bytes:Int)*(j:Int)≤281474976710656:=by
        have:y.bytes*j≤1000000*1000000:=vp N M;have U:((y.bytes*j:Nat):Int)≤281474976710656:=by omega
        rwa[xt]at U
       refine⟨0,.cells (madeCells zv.cells (j*y.size)) e (0,0),fun n=> .slice (some ⟨n,0,none⟩) nl j,fun w'=>?_,rfl,.row ?_,fun b=> .os (qN _ _ _)⟩
       ·have Z:=run_make (P:=P) w' t e y zv (wI he) J V kl kc (nl:Int) (j:Int) (by omega) (by omega) W (by omega)
        unfold execOp;simp only[ho,vl,vc,Z,zk,zm,zg,wj]
       ·rw[R,←I,zXm _ _ (by omega)]
        exact zHy _ _
theorem zHm(J:∀x,Rep B r (ρT x) (ρ x)){t:TypeId}{n:Nat}{q:Array (Nat×Operand)}(ho:o.op= .buildSlice t n q){z:T×Option TO}(h:dB P k t n (evP ρT q)=some z):Ans P w ρ o B r k z:=by
 unfold dB at h;cases he:elT P t with
 | none=>simp[he]at h
 | some e=>
  cases y:zer P e with
  | none=>simp[he,y]at h
  | some zs=>
   cases hd:ldT P e with
   | none=>simp[he,y,hd]at h
   | some R=>
    obtain⟨g,s⟩:=R;obtain⟨i0,zv,S,U,rfl⟩:=lI y;simp only[he,y,hd]at h;cases f:Nat.ble (n*s) 16777216&&(Nat.beq (ln (zv.cells.toList.map ofV)) s&&Nat.blt 0 s)with
    | false=>simp[f]at h
    | true=>
     simp only[f,ze]at h;simp only[zd,qv,qz,qU,ku,xe]at f;obtain⟨W,A,Z⟩:=f;have A:=zV A;cases G:zEg (fun i=>some (i*s,s)) (reps (zv.cells.toList.map ofV) n) (evP ρT q)with
     | none=>simp[G]at h
     | some us=>
      simp only[G,za]at h;subst h;have I:zP B r (reps (zv.cells.toList.map ofV) n) (madeCells zv.cells (n*s)).toList:=by
       rw[←A,zXm _ _ (by omega)];exact zHy _ _
      obtain⟨N,M,V⟩:=zMr J q.toList I G;have hm:(q.map fun p=>(p.1,ρ p.2)).toList=q.toList.map fun p=>(p.1,ρ p.2):=by simp
      refine⟨0,.cells N e (0,0),fun b=> .slice (some ⟨b,0,none⟩) n n,fun w'=>?_,rfl,.row V,fun b=> .os (qN _ _ _)⟩;have nb:¬n*s>2^24:=by omega
      unfold execOp;simp only[ho,Instr.buildSlice,underlying,wI he,qr,zk,zm,zg,x3 hd];rw[qm nb];by_cases C:n*s=0
      ·rw[qn C];have j:(Array.range (n*s)).map (fun x=>(#[]:Array Value)[x % (#[]:Array Value).size]!)=madeCells zv.cells (n*s):=by rw[C];simp[madeCells]
       simp only[zk,zm,zg,j,hm,M];rfl
      ·rw[qm C];have j:(Array.range (n*s)).map (fun x=>zv.cells[x % zv.cells.size]!)=madeCells zv.cells (n*s):=rfl;simp only[zk,mZ S U,zm,zg,j,hm,M];rfl
theorem zYj(G:zIv B r w H)(A:∀x,Rep B r (ρT x) (ρ x)){z:T×Option TO}(h:xC P H k ρT o.op=some z):Ans P w ρ o B r k z:=by
 generalize j:o.op=op at h;cases op<;>simp only[xC]at h<;>try contradiction
 case move x=>exact qG h ⟨_,zWs (.inl j) w,A x⟩
 case assign x=>exact qG h ⟨_,zWs (.inr j) w,A x⟩
 case pick c a b=>exact qIo A j h
 case alloc e=>exact qAw j h
 case box e x=>exact qPi A j h
 case build t I=>exact qAy A j h
 case buildSlice t n I=>exact zHm A j h
 case load t a=>exact zRk G A j h
 case nilCheck x=>exact qPn A j h
 case binOp op t x y R=>exact qPh (ρT:=fun y=>dn (ρT y)) (fun y=>(A y).dn) j h
 case makeFunc fn first C=>
  unfold pMkF at h;split at h
  ·rename_i e;obtain rfl:first=#[]:=j0 (by simpa using e)
   exact qG h (zQr A j)
  ·split at h
   ·rename_i e;obtain rfl:C=#[]:=j0 (by simpa using e)
    exact qG h (zNi A j)
   ·cases h
  ·cases h
 case makeSlice t l c=>exact qIm A j h
 case slice t x M J N=>exact qBa (ρT:=fun y=>dn (ρT y)) (fun y=>(A y).dn) j h
 case fieldAddr s x f=>exact zJf A j h
 case field s x f=>exact qAz A j h
 case indexAddr t x i=>exact zRj (ρT:=fun y=>dn (ρT y)) (fun y=>(A y).dn) j h
 case index t x i=>exact qPk (ρT:=fun y=>dn (ρT y)) (fun y=>(A y).dn) j h
 case extract x i=>exact zRi A j h
 case call c=>exact qIg G (ρT:=fun y=>dn (ρT y)) (fun y=>(A y).dn) j h
 case lookup t m x ok=>exact zVa G A j h
 case makeMap t rs=>
  cases rs with
  | some q=>simp at h
  | none=>
   simp only[za]at h;subst h;refine⟨0,.map #[] 0,fun n=> .map (some n),fun w'=>?_,rfl,.map trivial rfl rfl,fun b=> .om (qN _ _ _)⟩;unfold execOp;simp only[j,Instr.makeMap,fe,zk,zm,newObj];rfl
end
structure FrT(n:Nat)(a:Act)(L:List T)(D:List Deferred)(B:Bm)(r:Rd):Prop where
 size:a.tmps.size=n
 reps:zP B r L a.tmps.toList
 defers:a.defers=D
section
variable {P:Program}{E:Nat→Prop}{w0:World}{X:Hid}{F:List Nat}{H:List TO}{B B':Bm}{w:World}{Y:Hid}{Mo:List (Nat×Obj)}{o:Oper}{r r':Rd}{n:Nat}{a:Act}{L:List T}{D:List Deferred}{Q:Exit→Act→World→Prop}{K:Act→World→Prop}
theorem FrT.mono(h:FrT n a L D B r)(e:BLe B B')(f:Le r r'):FrT n a L D B' r':=⟨h.size,h.reps.mono e f,h.defers⟩
theorem FrT.rep(h:FrT n a L D B r)(x:Operand):Rep B r (evO L x) (a.eval x):=by
 cases x with
 | tmp t=>
  have:=h.reps.getD t;simpa[evO,Act.eval]using this
 | const v=>exact zBh v
 | global g=>exact .u
 | func f=>exact Rep.mkFn (vs:=[]) trivial
theorem FrT.put(h:FrT n a L D B r)(d:Option Nat){t:T}{v:Value}(k:Rep B r t v):FrT n (a.put d v) (dst d t L) D B r:=by
 cases d with
 | none=>exact h
 | some d=>
  refine⟨by simpa[Act.put]using h.size,?_,h.defers⟩
  have:=h.reps.put d k;simpa[Act.put,dst]using this
def nY(P:Program)(E:Nat→Prop)(w0:World)(X:Hid)(F:List Nat)(n:Nat)(D:List Deferred)(H:List TO)(L:List T)(B:Bm)(r:Rd)(K:Act→World→Prop):Prop:=
 ∀f w' B' Y' e,Wd P E w0 X F H B' w' Y' e→FrT n f L D B' (rd w' Y')→BLe B B'→Le r (rd w' Y')→K f w'
theorem qOx(A:Wd P E w0 X F H B w Y Mo)(q:FrT n a L D B (rd w Y)){z:T×Option TO}{s:S}(h:xC P H (ln H) (evO L) o.op=some z)(f:zPw o.dst L H z=some s)(N:nY P E w0 X F n D s.H s.L B (rd w Y) K):o.wp P a w K Q:=by
 have j:=zYj (ρ:=a.eval) A.hp q.rep h;rw[qU]at j;obtain⟨t,R⟩:=z;unfold Oper.wp;cases R with
 | none=>
  obtain⟨v,I,y⟩:=j;rw[I];simp only[zPw,za]at f;subst f;exact N _ _ _ _ _ A (q.put o.dst y) (BLe.refl B) (Le.refl _)
 | some R=>
  obtain⟨C,J,V,I,U,y,hv⟩:=j;rw[I];simp only[zPw,za]at f;subst f;obtain⟨G,M⟩:=A.alloc U y;have e:=Le.hide_new (w:=w) (Y:=Y) J;exact N _ _ _ _ _ G ((q.mono M e).put o.dst ((hv _).mono (BLe.refl _) e)) M e
theorem wR:∀{f:List T}{j:List Value}{e:List T}{c:Array Value}(o:Nat),zP B r f j→zP B r e c.toList→zP B r (jW e o f) (yJ c o j).toList
 | [],[],_,_,_,_,h=>h
 | t::f,v::j,e,c,o,k,h=>by
  simp only[jW,yJ];refine wR (o+1) k.2 ?_;have:=h.put o k.1;simpa using this
 | [],_::_,_,_,_,k,_=>k.elim
 | _::_,[],_,_,_,k,_=>k.elim
theorem nS(m:Nat):∀(e:List Value)(c:Array Value)(o:Nat),(yJ c o e).toList.take m=(yJ (c.toList.take m).toArray o e).toList
 | [],c,o=>by simp[yJ]
 | v::e,c,o=>by
  simp only[yJ];rw[nS m e];congr 2;simp[List.take_set]
theorem jAu{t:T}{v:Value}(h:one t=true)(q:Rep B r t v):v.oneCell'=true:=by
 cases q<;>first | rfl | (simp[one]at h;done) | (rename_i f;obtain⟨_,_,e,_⟩:=f;cases e;rfl) | skip
 rename_i j;cases v<;>first | rfl | (simp[sc]at j)
theorem zFk:∀{e:List T}{f:List Value},vT e=true→zP B r e f→∀v∈f,v.oneCell'=true
 | [],[],_,_,v,h=>by cases h
 | t::e,u::f,h,k,v,hv=>by
  simp only[vT,zd]at h;rcases qj.1 hv with rfl | hv
  ·exact jAu h.1 k.1
  ·exact zFk h.2 k.2 v hv
 | [],_::_,_,k,_,_=>k.elim
 | _::_,[],_,k,_,_=>k.elim
theorem lW:∀(f e:List T)(o:Nat),(jW e o f).length=e.length
 | [],_,_=>rfl
 | t::f,e,o=>by rw[jW,lW f,yN];simp
theorem qDq{t:T}(h:vT (cellsOf t)=true):t≠.u:=fun e=>by subst e;simp[cellsOf,vT,one]at h
theorem jAy{t:TypeId}{xa y:Operand}(R:Wd P E w0 X F H B w Y Mo)(hF:FrT n a L D B (rd w Y))(ho:o.op= .store t xa y)(hd:o.dst=none){H':List TO}(h:qQh P H t (evO L xa) (evO L y)=some H')(U:nY P E w0 X F n D H' L B (rd w Y) K):o.wp P a w K Q:=by
 have ha:=hF.rep xa;have hv:=hF.rep y;unfold qQh at h;split at h
 ·rename_i g m i f hl e;rw[e]at ha;cases S:vT (cellsOf (evO L y))&&Nat.beq (ln (cellsOf (evO L y))) m with
  | false=>simp[S]at h
  | true=>
   simp only[S,ze]at h;simp only[zd,qU]at S;have z:=hv.cells (qDq S.1);have hm:(a.eval y).cells.size=m:=by rw[←zV S.2,z.length];simp
   obtain⟨b,C,hp,hB⟩:=ha.opI;have W:=zFk S.1 z;unfold qBf at h;rw[qW,zp]at h;have fin:∀(o' o2:TO)(c:Array Value)(A:TypeId),H[i]?=some o'→vO o'=true→(b,Obj.cells c A (0,0))∈Mo→H'=H.set i o2→vO o2=true→f+(cellsOf (evO L y)).length≤c.size→
     (∀(w':World),Le (rd w Y) (rd w' Y)→RO P B (rd w' Y) C o2 (.cells (yJ c f (a.eval y).cells.toList) A (0,0)))→o.wp P a w K Q:=fun o' o2 c A J hl M hH V hsz N=>by
    subst hH;obtain⟨q,hq⟩:=jr M;have hql:q<Mo.length:=(zh.1 hq).1;have Z:(Mo++xM F)[q]?=some (b,.cells c A (0,0)):=by rw[qh hql];exact hq
    obtain⟨w',hr,e1,e2,e3,e4,e5,e6⟩:=kQ P (a.eval y).cells.toList c w f 0 (R.heap M) W (by rw[z.length]at hsz;simpa using hsz)
    rw[yj]at e5;have hS:=R.st.set q _ Z (cH e4.symm) e1 e2 e3 e5 (fun k _ U=>e6 k U);rw[xT _ _ hql]at hS;have j:=R.st.le_set (w':=w') q Z (fun k _ U=>e6 k U);unfold Oper.wp;have hx:(execOp a.eval o).run P w= .ok .skip w':=by
     unfold execOp;simp only[ho,hp,Instr.storeAt,Instr.sureAddr,storeVar,zk,zm,zg,x3 (by assumption),hm,ne_eq,u6,wi,hr]
    rw[hx];show K (a.put o.dst undef) w';rw[hd];exact U _ _ _ _ _ (R.set J hl hB hq hS j (fun G e=>by rw[e]at V;cases V) (fun _=>N w' j)) (hF.mono (BLe.refl B) j) (BLe.refl B) j
   cases J:H[i]? with
   | none=>rw[J]at h;simp at h
   | some x=>
    rw[J]at h;cases x with
    | row G A=>
     simp only[jt]at h;cases I:Nat.ble (f+ln (cellsOf (evO L y))) (ln G)with
     | false=>simp[I]at h
     | true=>
      simp only[I,ze,za,yN]at h;rw[qv,qU,qU]at I;obtain⟨b',C',ob,g1,g2,g3⟩:=R.ob i _ J rfl;rw[hB]at g1;cases g1;cases g3 with
      | @row _ _ c N=>
       exact fin _ (.row (jW G f (cellsOf (evO L y))) A) c A J rfl g2 h.symm rfl (by rw[N.length]at I;simpa using I) fun w' j=> .row (wR f (z.mono (BLe.refl B) j) (N.mono (BLe.refl B) j))
    | gro G A=>
     simp only[jt]at h;cases I:Nat.ble (f+ln (cellsOf (evO L y))) (ln G.list)with
     | false=>simp[I]at h
     | true=>
      simp only[I,ze,za,yN]at h;rw[qv,qU,qU]at I;obtain⟨b',C',ob,g1,g2,g3⟩:=R.ob i _ J rfl;rw[hB]at g1;cases g1;cases g3 with
      | @gro _ _ c i0 q1 q2 q3 N=>
       have hlen:G.list.length≤c.size:=by
        have:=N.length;simp at this;omega
       refine fin _ (.gro (.l (jW G.list f (cellsOf (evO L y)))) A) c A J rfl g2 h.symm rfl (by omega) fun w' j=> .gro q1 (by rw[nU];exact q2) q3 ?_
       show zP B _ (jW G.list f (cellsOf (evO L y))) (List.take (jW G.list f (cellsOf (evO L y))).length _);rw[lW,nS];exact wR f (z.mono (BLe.refl B) j) (by simpa using N.mono (BLe.refl B) j)
    | _=>simp at h
 ·cases h
theorem Wd.sto{i f b C:Nat}{y:List T}{vs:List Value}{H':List TO}(S:Wd P E w0 X F H B w Y Mo)(hB:B i=some (b,C))(h:qBf H i f y=some H')(G:zP B (rd w Y) y vs)(h1:vT y=true):∃w' N,(storeCells ⟨b,f,none⟩ vs).run P w= .ok () w'∧Wd P E w0 X F H' B w' Y N∧Le (rd w Y) (rd w' Y):=by
 have V:=zFk h1 G;unfold qBf at h;rw[qW,zp]at h;have fin:∀(o' o2:TO)(c:Array Value)(z:TypeId),H[i]?=some o'→vO o'=true→(b,Obj.cells c z (0,0))∈Mo→H'=H.set i o2→vO o2=true→f+y.length≤c.size→
   (∀(w':World),Le (rd w Y) (rd w' Y)→RO P B (rd w' Y) C o2 (.cells (yJ c f vs) z (0,0)))→∃w' N,(storeCells ⟨b,f,none⟩ vs).run P w= .ok () w'∧Wd P E w0 X F H' B w' Y N∧Le (rd w Y) (rd w' Y):=fun o' o2 c z J hl M hH U hsz R=>by
  subst hH;obtain⟨q,hq⟩:=jr M;have Z:q<Mo.length:=(zh.1 hq).1;have W:(Mo++xM F)[q]?=some (b,.cells c z (0,0)):=by rw[qh Z];exact hq
  obtain⟨w',hr,e1,e2,e3,e4,e5,e6⟩:=kQ P vs c w f 0 (S.heap M) V (by rw[G.length]at hsz;simpa using hsz)
  rw[yj]at e5;have hS:=S.st.set q _ W (cH e4.symm) e1 e2 e3 e5 (fun k _ hk=>e6 k hk);rw[xT _ _ Z]at hS;have j:=S.st.le_set (w':=w') q W (fun k _ hk=>e6 k hk);exact⟨w',_,hr,S.set J hl hB hq hS j (fun A e=>by rw[e]at U;cases U) (fun _=>R w' j),j⟩
 cases J:H[i]? with
 | none=>rw[J]at h;simp at h
 | some x=>
  rw[J]at h;cases x with
  | row A z=>
   simp only[jt]at h;cases I:Nat.ble (f+ln y) (ln A)with
   | false=>simp[I]at h
   | true=>
    simp only[I,ze,za,yN]at h;rw[qv,qU,qU]at I;obtain⟨b',C',ob,g1,g2,g3⟩:=S.ob i _ J rfl;rw[hB]at g1;cases g1;cases g3 with
    | @row _ _ c R=>
     exact fin _ (.row (jW A f y) z) c z J rfl g2 h.symm rfl (by rw[R.length]at I;simpa using I) fun w' j=> .row (wR f (G.mono (BLe.refl B) j) (R.mono (BLe.refl B) j))
  | gro A z=>
   simp only[jt]at h;cases I:Nat.ble (f+ln y) (ln A.list)with
   | false=>simp[I]at h
   | true=>
    simp only[I,ze,za,yN]at h;rw[qv,qU,qU]at I;obtain⟨b',C',ob,g1,g2,g3⟩:=S.ob i _ J rfl;rw[hB]at g1;cases g1;cases g3 with
    | @gro _ _ c i0 q1 q2 q3 R=>
     have hlen:A.list.length≤c.size:=by
      have:=R.length;simp at this;omega
     refine fin _ (.gro (.l (jW A.list f y)) z) c z J rfl g2 h.symm rfl (by omega) fun w' j=> .gro q1 (by rw[nU];exact q2) q3 ?_
     show zP B _ (jW A.list f y) (List.take (jW A.list f y).length _);rw[lW,nS];exact wR f (G.mono (BLe.refl B) j) (by simpa using R.mono (BLe.refl B) j)
  | _=>simp at h
theorem lZ{b:Nat}{es:Array MapEntry}{e:Nat}{f:Obj}(h:w.heap[b]?=some (.map es e)):(setObj b f).run P w= .ok () (w.putObj b f):=by
 simp[setObj,Sem.run,h,World.putObj]
theorem xQ.app{l:List (Value×T)}{es:List MapEntry}{e:Value×T}{f:MapEntry}(h:xQ B r l es)(j:f.key=e.1)(q:Rep B r e.2 f.val):xQ B r (l++[e]) (es++[f]):=by
 induction l generalizing es with
 | nil=>cases es with
  | nil=>exact⟨j,q,trivial⟩
  | cons=>exact h.elim
 | cons x l z=>cases es with
  | nil=>exact h.elim
  | cons y es=>exact⟨h.1,h.2.1,z h.2.2⟩
theorem xQ.put:∀{l:List (Value×T)}{es:List MapEntry}(j:Nat){e:Value×T}{v:Value},xQ B r l es→Rep B r e.2 v→xQ B r (Ev.put e l j) (es.modify j fun f=>{f with key:=e.1,val:=v})
 | [],[],_,_,_,_,_=>by simp[qPv,xQ]
 | x::l,y::es,0,e,v,h,k=>by simpa[zRp]using⟨rfl,k,h.2.2⟩
 | x::l,y::es,j+1,e,v,h,k=>by simpa[zHv]using⟨h.1,h.2.1,xQ.put j h.2.2 k⟩
 | [],_::_,_,_,_,h,_=>h.elim
 | _::_,[],_,_,_,h,_=>h.elim
theorem jAz{t:TypeId}{xm xk W:Operand}(hW:Wd P E w0 X F H B w Y Mo)(hF:FrT n a L D B (rd w Y))(ho:o.op= .mapUpdate t xm xk W)(hd:o.dst=none){H':List TO}(h:qQo P H t (evO L xm) (evO L xk) (evO L W)=some H')(hk:nY P E w0 X F n D H' L B (rd w Y) K):o.wp P a w K Q:=by
 have hm:=hF.rep xm;have hv:=hF.rep W;unfold qQo at h;split at h
 ·rename_i i em;rw[em]at hm;split at h
  ·rename_i l hn;split at h
   ·rename_i kt vt R ht hs;have hu:=mQ ht;have hx:=zOg hs (hF.rep xk);cases z:jDc P kt R (evO L W) l with
    | none=>simp[z]at h
    | some l2=>
     simp only[z,za,yN]at h;subst h;rw[qW,zp]at hn;have hi:H[i]?=some (.map l):=by
      cases hi:H[i]? with
      | none=>rw[hi]at hn;cases hn
      | some x=>rw[hi]at hn;simp at hn;rw[hn]
     obtain⟨b,C,hmv,hB⟩:=hm.omI;obtain⟨b',C',ob,g1,g2,g3⟩:=hW.ob i _ hi rfl;rw[hB]at g1;cases g1;cases g3 with
     | @map _ es I U M J=>
      have hb:=hW.heap g2;obtain⟨q,hq⟩:=jr g2;have hql:q<Mo.length:=(zh.1 hq).1;have hq2:(Mo++xM F)[q]?=some (b,.map es I):=by rw[qh hql];exact hq
      have fin:∀(G:Array MapEntry)(A:Nat),xQ B (rd w Y) l2 G.toList→A=G.size→G.toList.map (·.born)=List.range G.size→(Instr.mapUpdate t (.map (some b)) R (a.eval W)).run P w= .ok () (w.putObj b (.map G A))→o.wp P a w K Q:=fun G A hR J2 hb2 hrun=>by
       obtain⟨hS,N⟩:=hW.st.putObj (o':= .map G A) q hq2;rw[xT _ _ hql]at hS;have hW2:=hW.set hi rfl hB hq hS N (o':= .map l2) (fun cs e=>by cases e) (fun _=> .map (hR.mono (BLe.refl B) N) J2 hb2)
       have hx2:(execOp a.eval o).run P w= .ok .skip (w.putObj b (.map G A)):=by
        unfold execOp;simp only[ho,hmv,hx,zk,hrun,zg,zm]
       unfold Oper.wp;rw[hx2];show K (a.put o.dst undef) _;rw[hd];exact hk _ _ _ _ _ hW2 (hF.mono (BLe.refl B) N) (BLe.refl B) N
      unfold jDc at z;cases Z:kOk P false kt R with
      | false=>simp[Z]at z
      | true=>
       simp only[Z,ze]at z;have Z:=zQl Z w;cases hf:zKq P kt R l with
       | none=>simp[hf]at z
       | some y=>
        simp only[hf]at z;rcases zQj (w:=w) U hf with⟨rfl,hr⟩ | ⟨j,e',f',rfl,h2,h3,hr,h5,h6⟩
        ·simp only[za]at z;subst z;refine fin (es.push {key:=R,val:=a.eval W,born:=I}) (I+1) (by simpa using U.app (e:=(R,evO L W)) (f:={key:=R,val:=a.eval W,born:=I}) rfl hv) (by simp[M]) (by
          simp only[Array.toList_push,xu,J,jl,kO,Array.size_push,uZ,M]) ?_
         unfold Instr.mapUpdate;simp only[underlying,hu,zk,zm,qr,yZ hb,zg,Z,hr,lZ hb]
        ·simp only[h2]at z;cases hsb:Instr.sameBits 10000 e'.1 R with
         | false=>simp[hsb]at z
         | true=>
          simp only[hsb,ze,za]at z;subst z;refine fin (es.modify j fun f=>{f with key:=R,val:=a.eval W}) I (by
           have:=U.put j (e:=(R,evO L W)) hv;simpa[y3]using this) (by simpa using M) (by
           have hmb:∀(l:List MapEntry)(j:Nat)(R v:Value),(l.modify j fun f=>{f with key:=R,val:=v}).map (·.born)=l.map (·.born):=fun l=>by
            induction l with
            | nil=>intro j R v;simp
            | cons x l ih=>
             intro j R v;cases j with
             | zero=>simp
             | succ j=>simp[ih]
           rw[y3,hmb,J];simp) ?_
          have hkey:((es[j]?).map (·.key)).getD R=e'.1:=by
           have:es[j]?=some f':=by simpa using h3
           rw[this];simp[h5]
          unfold Instr.mapUpdate;simp only[underlying,hu,zk,zm,qr,yZ hb,zg,Z,hr,hkey,Instr.keyThatStays,hsb,j7,lZ hb]
   ·cases h
  ·rename_i d hn;split at h
   ·rename_i kt vt ht;have hu:=mQ ht;cases z:jDb P kt d (evO L xk) (evO L W)with
    | none=>simp[z]at h
    | some d2=>
     simp only[z,za,yN]at h;subst h;rw[qW,zp]at hn;have hi:H[i]?=some (.mapd d):=by
      cases hi:H[i]? with
      | none=>rw[hi]at hn;cases hn
      | some x=>rw[hi]at hn;simp at hn;rw[hn]
     obtain⟨b,C,hmv,hB⟩:=hm.omI;obtain⟨b',C',ob,g1,g2,g3⟩:=hW.ob i _ hi rfl;rw[hB]at g1;cases g1;cases g3 with
     | @mapd _ es I U M J=>
      have hb:=hW.heap g2;obtain⟨q,hq⟩:=jr g2;have hql:q<Mo.length:=(zh.1 hq).1;have hq2:(Mo++xM F)[q]?=some (b,.map es I):=by rw[qh hql];exact hq
      unfold jDb at z;split at z
      ·rename_i key y hkey hy;cases S:wU P kt d.K with
       | false=>simp[S]at z
       | true=>
        simp only[S,ze,za]at z;subst z;have hx:=zXd S (zAm hkey (hF.rep xk));have hyr:=zAm hy hv;have fin:∀(G:Array MapEntry)(A:Nat),xQ B (rd w Y) (MD.ents ⟨d.g,d.K,d.V,aA d.K key y d.l⟩) G.toList→A=G.size→G.toList.map (·.born)=List.range G.size→(Instr.mapUpdate t (.map (some b)) (vG d.K key) (a.eval W)).run P w= .ok () (w.putObj b (.map G A))→o.wp P a w K Q:=fun G A hR J2 hb2 hrun=>by
         obtain⟨hS,N⟩:=hW.st.putObj (o':= .map G A) q hq2;rw[xT _ _ hql]at hS;have hW2:=hW.set hi rfl hB hq hS N (o':= .mapd ⟨d.g,d.K,d.V,aA d.K key y d.l⟩) (fun cs e=>by cases e) (fun _=> .mapd (hR.mono (BLe.refl B) N) J2 hb2)
         have hx2:(execOp a.eval o).run P w= .ok .skip (w.putObj b (.map G A)):=by
          unfold execOp;simp only[ho,hmv,hx,zk,hrun,zg,zm]
         unfold Oper.wp;rw[hx2];show K (a.put o.dst undef) _;rw[hd];exact hk _ _ _ _ _ hW2 (hF.mono (BLe.refl B) N) (BLe.refl B) N
        obtain⟨q',hr,hf⟩:=zPy (w:=w) S key d.l es.toList (zCl U);rcases hf with⟨rfl,_,_,h4⟩ | ⟨j,e,f,rfl,h2,h3,h4,h5,h6,_,_,h9⟩
        ·refine fin (es.push {key:=vG d.K key,val:=a.eval W,born:=I}) (I+1) ?_ (by simp[M]) (by
          simp only[Array.toList_push,xu,J,jl,kO,Array.size_push,uZ,M]) ?_
         ·have:=U.app (e:=(vG d.K key,unT d.g d.V y)) (f:={key:=vG d.K key,val:=a.eval W,born:=I}) rfl hyr;simpa[MD.ents,h4]using this
         ·unfold Instr.mapUpdate;simp only[underlying,hu,zk,zm,qr,yZ hb,zg,bF S,hr,lZ hb]
        ·obtain rfl:=qZf S h5;have hsb:=qFy S e.1;refine fin (es.modify j fun f=>{f with key:=vG d.K e.1,val:=a.eval W}) I ?_ (by simpa using M) (by
          have hmb:∀(l:List MapEntry)(j:Nat)(R v:Value),(l.modify j fun f=>{f with key:=R,val:=v}).map (·.born)=l.map (·.born):=fun l=>by
           induction l with
           | nil=>intro j R v;simp
           | cons x l ih=>
            intro j R v;cases j with
            | zero=>simp
            | succ j=>simp[ih]
          rw[y3,hmb,J];simp) ?_
         ·have:=U.put j (e:=(vG d.K e.1,unT d.g d.V y)) hyr;rw[yN]at this;simpa[MD.ents,h9,cC,y3]using this
         ·have hky:((es[j]?).map (·.key)).getD (vG d.K e.1)=vG d.K e.1:=by
           have:es[j]?=some f:=by simpa using h3
           rw[this];simp[h4]
          unfold Instr.mapUpdate;simp only[underlying,hu,zk,zm,qr,yZ hb,zg,bF S,hr,hky,Instr.keyThatStays,hsb,j7,lZ hb,ql]
      ·cases z
   ·cases h
  ·cases h
 ·cases h
end
section
variable {P:Program}{E:Nat→Prop}{w0:World}{X:Hid}{F:List Nat}{H:List TO}{B B':Bm}{w w':World}{Y Y':Hid}{Mo:List (Nat×Obj)}{o:Oper}{r r':Rd}{n:Nat}{a:Act}{L:List T}{D:List Deferred}{Q:Exit→Act→World→Prop}{K:Act→World→Prop}
theorem Wd.move(h:Wd P E w0 X F H B w Y Mo){i:Nat}{x:TO}{p:Nat×Nat}(J:H[i]?=some x)(M:vO x=true)(hp:B i=some p):Wd P E w0 X F (H.set i .gone++[x]) (rG B H.length p) w Y Mo∧BLe B (rG B H.length p):=by
 have G:BLe B (rG B H.length p):=BLe.set (h.nn _ (zq _));have hlt:i<H.length:=(zh.1 J).1;have q:∀(j:Nat)(y:TO),(H.set i .gone++[x])[j]?=some y→y≠.gone→(H[j]?=some y∧j≠H.length∧j≠i)∨(j=H.length∧y=x):=fun j y f R=>by
  rcases vj j H.length with hlt | rfl | hlt
  ·rw[qh (by simpa using hlt)]at f
   by_cases e:i=j
   ·subst e;rw[kh hlt]at f;cases f;exact absurd rfl R
   ·rw[jy e]at f;exact .inl ⟨f,Nat.ne_of_lt hlt,fun e'=>e e'.symm⟩
  ·rw[jk (by simp)]at f;simp at f;exact .inr ⟨rfl,f.symm⟩
  ·rw[qb (by simp;omega)]at f;cases f
 have V:∀{y:TO},vO y=true→y≠.gone:=fun h e=>by subst e;cases h
 refine⟨⟨h.st,fun j y f I=>?_,fun j cs f=>?_,fun j hj=>?_,fun j1 j2 o1 o2 p1 p2 h1 S h2 U z A e=>?_,h.bN,h.iv⟩,G⟩
 ·rcases q j y f (V I)with⟨f,_,_⟩ | ⟨rfl,rfl⟩
  ·obtain⟨b,C,ob,g1,g2,N⟩:=h.ob j y f I;exact⟨b,C,ob,G _ _ g1,g2,N.mono G (Le.refl _)⟩
  ·obtain⟨b,C,ob,g1,g2,N⟩:=h.ob i _ J M;rw[hp]at g1;cases g1;exact⟨b,C,ob,qN _ _ _,g2,N.mono G (Le.refl _)⟩
 ·rcases q j _ f (by simp)with⟨f,_,_⟩ | ⟨rfl,e⟩
  ·obtain⟨b,C,g1,g2⟩:=h.fz j cs f;exact⟨b,C,G _ _ g1,g2.mono G (Le.refl _)⟩
  ·subst e;cases M
 ·simp at hj;rw[jY _ _ (by omega)]
  exact h.nn j (by omega)
 ·rcases q j1 _ h1 (V S)with⟨W,n1,m1⟩ | ⟨rfl,rfl⟩<;>rcases q j2 _ h2 (V U)with⟨Z,n2,m2⟩ | ⟨rfl,rfl⟩
  ·rw[jY _ _ n1]at z;rw[jY _ _ n2]at A;exact h.inj _ _ _ _ _ _ W S Z U z A e
  ·rw[jY _ _ n1]at z;rw[qN]at A;cases A;exact absurd (h.inj _ _ _ _ _ _ W S J M z hp e) m1
  ·rw[jY _ _ n2]at A;rw[qN]at z;cases z;exact absurd (h.inj _ _ _ _ _ _ Z U J M A hp e.symm) m2
  ·rfl
theorem qCy{N b:Nat}(h:N≤apM b)(f:0<N):(N+N / 4+192)*b≤281474976710656∧N≤281474976710656:=by
 unfold apM at h;have j:N*5≤(281474976710656 / b-192)*4:=by
  have:=Nat.div_mul_le_self ((281474976710656 / b-192)*4) 5;omega
 have e:N+N / 4+192≤281474976710656 / b:=by omega
 have q:=q6 b e;have y:=Nat.div_mul_le_self 281474976710656 b;have z:=vg 281474976710656 b;exact⟨by omega,by omega⟩
theorem zTa{e s N:Nat}(h:zAj P e s N=true){g:Bool}(hd:ldT P e=some (g,s)):∃i z,P.info? e=some i∧i.zero=some z∧i.size=s∧z.cells.size=s∧N≤apM i.bytes∧0<s:=by
 unfold zAj at h;split at h
 ·rename_i i z f A;obtain⟨G,v,j,y,rfl⟩:=lI A;rw[f]at j;cases j;simp only[zd,qv,qz,qU,ku,xe]at h;obtain⟨I,C,g1,_,q,_⟩:=fQ hd;rw[f]at g1;cases g1;exact⟨i,v,f,y,q,zV h.1,h.2.1,h.2.2⟩
 ·cases h
theorem qXu{e:TypeId}{A:TypeInfo}{z:Value}{s C N:Nat}{us:List T}{j f:List Value}{q nb:Nat}(R:P.info? e=some A)(S:A.size=s)(U:z.cells.size=s)(y:zP B r us (j++f))(G:j.length=q*s)(I:f.length=nb*s)(M:q+nb=N)(J:N≤C)(hm:C≤maxLen):
  RO P B r C (.gro (.l us) e) (.cells (j.toArray++f.toArray++Builtin.zeroCells z.cells (C-N)) e (0,0)):=by
 subst M;refine .gro R ?_ hm ?_
 ·rw[qFm z s U j f q nb C G I J,S]
 ·simp only[Array.toList_append,qt];show zP B r us (List.take us.length _);rw[←qt,y.length];have:j++f=(j++f):=rfl;rw[uG];exact y
theorem fK{c:Call}{x y:Operand}{t:TypeId}(ho:o.op= .call c)(e:c.callee= .builtin .append)(j:c.args=#[x,y])(ht:c.argTypes=#[t,t]){v:Value}(f:(Builtin.append_ #[t,t] o.type #[a.eval x,a.eval y]).run P w= .ok v w'):(execOp a.eval o).run P w= .ok (.value v) w':=by
 unfold execOp;simp only[ho,resolve,e,j,ht,invoke,builtin,zk,zm,zg,kb,jl,kO,f]
theorem vX(g:Tg)(A:Ty):∀l:List A.den,(qP g A l).length=l.length*A.size
 | []=>by simp[qP]
 | x::l=>by rw[qP,qo,jM,vX g A l,qf,yo]
theorem qDb{c:Cs}{b:List T}{f:List Value}(h:zP B r (c.list++b) f):zP B r (c.app b).list f∧(c.app b).list.length=(c.list++b).length:=by
 cases c with
 | l G=>exact⟨h,rfl⟩
 | d g A x=>
  cases j:mI g A b with
  | some y=>
   have e:(Cs.d g A x).app b= .d g A (y::x):=by simp only[Cs.app,j]
   rw[e];have q:zP B r (qP g A x) (f.take (qP g A x).length)∧zP B r b (f.drop (qP g A x).length):=zP.split h;obtain⟨z,C⟩:=fA A j q.2;refine⟨?_,?_⟩
   ·show zP B r (qP g A x++qE g A y) f;have:=q.1.app z;rwa[jj]at this
   ·show(qP g A x++qE g A y).length=(qP g A x++b).length;rw[qo,qo,jM,C]
  | none=>
   have e:(Cs.d g A x).app b= .l (qP g A x++b):=by simp only[Cs.app,j]
   rw[e];exact⟨h,rfl⟩
theorem zCo(g:Tg)(A:Ty)(x:List A.den):∀l:List A.den,qP g A (l.reverse++x)=qP g A x++yA g A l:=by
 intro l;induction l generalizing x with
 | nil=>simp[yA]
 | cons a l e=>
  rw[ye,qt,e,yA];show qP g A x++qE g A a++yA g A l=_;rw[qt]
theorem mJ(g:Tg)(A:Ty)(l:List A.den):qP g A l.reverse=yA g A l:=by
 have:=zCo g A [] l;simpa[qP]using this
theorem dW{g q:Tg}(h:q.le g=true):∀(A:Ty)(x:A.den){j:List Value},zP B r (qE g A x) j→zP B r (qE q A x) j
 | .lim,_,_,h=>h
 | .int _,_,_,h=>h
 | .bool,_,_,h=>h
 | .str,_,_,h=>h
 | .list _,_,[v],f=>by
  refine⟨?_,trivial⟩;have e:=f.1;cases e with
  | ls e=>exact .ls (jF.mono (Le.refl _) (fun b k=>k.le h) _ _ _ e)
 | .list _,_,[],h=>h.elim
 | .list _,_,_::_::_,h=>h.2.elim
 | .prod A C,x,j,f=>by
  have y:=zP.split (ts:=qE g A x.1) (us:=qE g C x.2) f;have:=(dW h A _ y.1).app (dW h C _ y.2);rwa[jj]at this
theorem zGk{g f:Tg}(h:f.le g=true)(A:Ty):∀(l:List A.den){e:List Value},zP B r (yA g A l) e→zP B r (yA f A l) e
 | [],_,h=>h
 | x::l,e,q=>by
  have j:=zP.split (ts:=qE g A x) (us:=yA g A l) q;have:=(dW h A _ j.1).app (zGk h A l j.2);rwa[jj]at this
theorem qCz{c:Cs}{y:T}{b:List T}{s:Nat}{q:List Value}(j:qJ H s y=some b)(h:zP B r (c.list++b) q):zP B r (c.apY y b).list q∧(c.apY y b).list.length=(c.list++b).length:=by
 unfold Cs.apY;split
 ·rename_i g A l;simp only[qJ]at j;cases f:Nat.beq s A.size with
  | false=>simp[f]at j
  | true=>
   simp only[f,ze,za]at j;subst j;unfold Cs.apL;split
   ·show zP B r (qP g A l.reverse) q∧_;rw[mJ];refine⟨h,?_⟩;show(qP g A l.reverse).length=_;rw[mJ];rfl
   ·exact⟨h,rfl⟩
   ·rename_i e G x;split
    ·rename_i I z;obtain⟨rfl,he⟩:=fB z;obtain rfl:=fg he;cases C:e.le g with
     | false=>exact⟨h,rfl⟩
     | true=>
      rw[ze];have f:=zP.split (ts:=qP e A x) (us:=yA g A l) h;refine⟨?_,?_⟩
      ·show zP B r (qP e A (l.reverse++x)) q;rw[zCo];have:=f.1.app (zGk C A l f.2);rwa[jj]at this
      ·show(qP e A (l.reverse++x)).length=(qP e A x++yA g A l).length;rw[zCo,qo,qo,cB,cB]
    ·exact⟨h,rfl⟩
 ·exact qDb h
theorem RO.apY{C s:Nat}{c:Cs}{y:T}{b:List T}{e:TypeId}{f:Obj}(A:qJ H s y=some b)(h:RO P B r C (.gro (.l (c.list++b)) e) f):RO P B r C (.gro (c.apY y b) e) f:=by
 cases h with
 | gro G I z h=>
  obtain⟨j,q⟩:=qCz A h;refine .gro G I z ?_;rw[q];exact j
def qBq(P:Program)(E:Nat→Prop)(w0:World)(X:Hid)(F:List Nat)(B:Bm)(w:World)(Y:Hid)(Mo:List (Nat×Obj))(us:Cs)(e:TypeId)(N:Nat)(x:T)(y:Result Value):Prop:=
  ∃C,N≤C∧C≤maxLen∧
    ((∃j,y= .ok (.slice (some ⟨w.heap.size,0,none⟩) N C) (w.drew.alloc j)∧RO P B (rd w.drew Y) C (.gro us e) j)∨
     ∃i o n b z f q,x= .og i o n∧B i=some (b,C)∧Mo[q]?=some (b,.cells z e (0,0))∧y= .ok (.slice (some ⟨b,0,none⟩) N C) (w.setRow b f)∧
      St E w0 X (w.setRow b f) Y (Mo.set q (b,.cells f e (0,0))++xM F)∧Le (rd w Y) (rd (w.setRow b f) Y)∧RO P B (rd (w.setRow b f) Y) C (.gro us e) (.cells f e (0,0)))
def zLu(H:List TO)(e:TypeId)(s nx:Nat)(us:Cs)(x:T):Prop:=
 (∃v,x= .v v)∨(∃f n,x= .st f n)∨(∃i o n,x= .os i o n n)∨∃i,x= .og i 0 nx∧H[i]?=some (.gro us e)∧us.list.length=nx*s
theorem zPe(W:Wd P E w0 X F H B w Y Mo){x y:T}{xv yv:Value}{t ty e:TypeId}{g:Bool}{s nx M:Nat}{uc:Cs}{vs:List T}(hx:Rep B (rd w Y) x xv)(hy:Rep B (rd w Y) y yv)(ht:P.underlying t=some (.slice e))(hd:ldT P e=some (g,s))
  (c1:qJ H s x=some uc.list) (c2:qJ H s y=some vs) (V:jH x=some nx) (c4:jH y=some M) (hny:0<M) (hok:zAj P e s (nx+M)=true) (hon:vT vs=true) (hb:zLu H e s nx uc x):
  qBq P E w0 X F B w Y Mo (uc.apY y vs) e (nx+M) x ((Builtin.append_ #[t,t] ty #[xv,yv]).run P w):=by
 obtain⟨S,R,A,rfl,lx,rx,sx,ax⟩:=W.slice hx V c1;have cy2:=c2;obtain⟨ady,cy,f,rfl,ly,ry,sy,ay⟩:=W.slice hy c4 c2;obtain⟨i0,z,q1,q2,U,q4,q5,q7⟩:=zTa hok hd;have hone:=zFk hon ry;obtain⟨ya,rfl⟩:=sy (Nat.mul_ne_zero (by omega) (by omega))
 have N:=ay _ rfl;obtain⟨Z,hnn⟩:=qCy q5 (by omega)
 have hmax:nx+M≤maxLen:=by simp only[maxLen];omega
 have hge:=fq w (nx+M) R e;have hgm:=uD w (nx+M) R e hmax;have C1:=(Upd.drew w).le Y;have J:R<nx+M→(S=none→nx=0∧R=0)→qBq P E w0 X F B w Y Mo (uc.apY y vs) e (nx+M) x ((Builtin.append_ #[t,t] ty #[.slice S nx R,.slice (some ya) M cy]).run P w):=fun hlt hnil=>by
  refine⟨grownCap w (nx+M) R e,hge,hgm,.inl ⟨.cells (A.toArray++f.toArray++Builtin.zeroCells z.cells (grownCap w (nx+M) R e-(nx+M))) e (0,0),?_,RO.apY cy2 (qXu q1 U q4 ((rx.app ry).mono (BLe.refl B) C1) lx ly rfl hge hgm)⟩⟩;cases S with
  | none=>
   obtain⟨rfl,rfl⟩:=hnil rfl;have ho0:A=[]:=qT (by rw[lx];simp)
   subst ho0;have hr:=db (P:=P) w t ty e i0 z ht q1 q2 ya M cy f (by rw[U];exact ly) N hny (by omega) (by have:=Z;simp only[ql]at this;exact qx (q6 _ (by omega)) this)
   simp only[ql];simpa using hr
  | some xa=>exact run_append_grow (P:=P) w t ty e i0 z ht q1 q2 xa nx R A (by rw[U];exact lx) (ax _ rfl) ya M cy f (by rw[U];exact ly) N hlt (by omega) (growslice_fits_wide (by omega) Z)
 rcases hb with⟨v,rfl⟩ | ⟨cs,m,rfl⟩ | ⟨i,o',m,rfl⟩ | ⟨i,rfl,hi,hcs⟩
 ·have hv:=hx.vI.1;subst hv;have:S=none∧nx=0∧R=0:=by
   unfold jH at V;split at V<;>(try (rename_i e2;cases e2;done))<;>(try cases V)
   rename_i e2;cases e2;exact⟨rfl,rfl,rfl⟩
  obtain⟨rfl,rfl,rfl⟩:=this;exact J (by omega) (fun _=>⟨rfl,rfl⟩)
 ·obtain⟨ad2,hv,hh⟩:=hx.stI;simp only[jH,za]at V;subst V;cases hv;refine J (by omega) (fun e0=>?_)
  rcases hh with⟨rfl,_⟩ | ⟨b,o',e2,_⟩
  ·exact⟨rfl,rfl⟩
  ·rw[e0]at e2;cases e2
 ·obtain⟨b,C,hv,hB⟩:=hx.osI;simp only[jH,za]at V;subst V;cases hv;exact J (by omega) (fun e0=>by cases e0)
 ·obtain⟨b,C,c',hv,hB,hmc,h0⟩:=hx.ogI;cases hv;obtain rfl:=h0 rfl;rcases qg R (nx+M)with G | G
  ·exact J G (fun e0=>by cases e0)
  ·obtain⟨b',C',ob,g1,g2,g3⟩:=W.ob i _ hi rfl;rw[hB]at g1;cases g1;cases g3 with
   | @gro _ _ I i1 r1 r2 r3 hR=>
    rw[q1]at r1;cases r1;have hfit:nx*i0.size+f.length≤I.size:=by rw[ly,U,r2,U,←ja];exact q6 _ G
    have hr:=run_append_room (P:=P) w t ty e i0 ht q1 b nx R I (W.heap g2) ya M cy f (by rw[U];exact ly) N hone G hfit
    obtain⟨q,hq⟩:=jr g2;have hql:q<Mo.length:=(zh.1 hq).1;have hq2:(Mo++xM F)[q]?=some (b,.cells I e (0,0)):=by rw[qh hql];exact hq
    rw[U]at hfit;have hrow:I.toList.take (nx*s)=A:=by
     have h1:=ax _ rfl;have h2:(I.toList.take (nx*s)).length=nx*s:=by simp;omega
     refine kj fun j=>?_;by_cases hj:j<nx*s
     ·have e1:A[j]?=some A[j]:=by simp[lx,hj]
      have h3:=h1 j _ e1;rw[jT,kx w b _ I e _ (W.heap g2),ql]at h3;rw[e1,qi,qn hj];simpa using h3
     ·rw[qb (by omega),qb (by omega)]
    rw[U,hrow]at hr;generalize J2:(A++f++I.toList.drop (nx*s+f.length)).toArray=c2 at hr;have hS:=W.st.set (w':=w.setRow b c2) q _ hq2 (by simp) rfl rfl rfl (setRow_heap w b I _ e _ (W.heap g2)) (fun k _ hk=>uE w b k _ hk)
    rw[xT _ _ hql]at hS;have hle:=W.st.le_set (w':=w.setRow b c2) q hq2 (fun k _ hk=>uE w b k _ hk);have hlen:(uc.list++vs).length=(A++f).length:=(rx.app ry).length;refine⟨R,G,r3,.inr ⟨i,0,nx,b,I,c2,q,rfl,hB,hq,hr,hS,hle,?_⟩⟩;refine RO.apY cy2 (.gro q1 ?_ r3 ?_)
    ·rw[←r2,←J2];simp[lx];omega
    ·have e0:c2.toList.take (A++f).length=A++f:=by rw[←J2];exact uG
     show zP B _ (uc.list++vs) (List.take (uc.list++vs).length _);rw[hlen,e0];exact(rx.app ry).mono (BLe.refl B) hle
theorem jAx{c:Call}{x y:Operand}{t t2:TypeId}(hW:Wd P E w0 X F H B w Y Mo)(I:FrT n a L D B (rd w Y))(ho:o.op= .call c)(hc:c.callee= .builtin .copy)(q:c.args=#[x,y])(U:c.argTypes=#[t,t2])
  {tv:T} {H':List TO} (h:qLv P H t (evO L x) (evO L y)=some (tv,H')) (hk:nY P E w0 X F n D H' (dst o.dst tv L) B (rd w Y) K):o.wp P a w K Q:=by
 have hx:=I.rep x;have hy:=I.rep y;unfold qLv at h;split at h
 ·rename_i i W nx cx ex;rw[ex]at hx;obtain⟨b,C,V,hB⟩:=hx.osI;cases he:elT P t with
  | none=>simp[he]at h
  | some e=>
   have ht:=wI he;cases hd:ldT P e with
   | none=>simp[he,hd]at h
   | some gs=>
    obtain⟨g,s⟩:=gs;simp only[he,hd]at h;split at h
    ·rename_i us f c1 c2;cases z:jR (Nat.min f nx*s) us with
     | none=>simp[z]at h
     | some Z=>
      simp only[z]at h;cases G:vT Z&&Nat.blt 0 (Nat.min f nx*s)with
      | false=>simp[G]at h
      | true=>
       simp only[G,ze]at h;simp only[zd,qz]at G;cases N:qBf H i W Z with
       | none=>simp[N]at h
       | some H2=>
        simp only[N,za,z7]at h;obtain⟨rfl,rfl⟩:=h;obtain⟨ady,cy,vs,ey,ly,ry,sy,ay⟩:=hW.slice hy c2 c1;have C2:Nat.min f nx*s≤f*s:=q6 s (Nat.min_le_left f nx);obtain⟨ad,rfl⟩:=sy (by omega)
        have hR:zP B (rd w Y) Z (vs.take (Nat.min f nx*s)):=(ry.take z).1;obtain⟨w',Mo',R,J,A⟩:=hW.sto hB N hR G.1;have hl:(loadCells ad (Nat.min f nx*s)).run P w= .ok (vs.take (Nat.min f nx*s)).toArray w:=by
         have:=run_loadCells_list (P:=P) w ad (vs.take (Nat.min f nx*s)) (fun j v e=>by
          rw[qi]at e;split at e
          ·exact ay ad rfl j v e
          ·cases e)
         rwa[jo,kg (by omega)]at this
        have S:(sizeOf e).run P w= .ok s w:=x3 hd w;have M:(execOp a.eval o).run P w= .ok (.value (goInt (Nat.min f nx))) w':=by
         unfold execOp;simp only[ho,resolve,hc,q,U,invoke,builtin,zk,zm,zg,kb,jl,kO,V,ey];simp[Builtin.copy_,yq ht,Builtin.lenOf,Builtin.firstCells,S,hl,R]
        unfold Oper.wp;rw[M];exact hk _ _ _ _ _ J ((I.mono (BLe.refl B) A).put o.dst (.v rfl)) (BLe.refl B) A
    ·cases h
 ·cases h
theorem qHl{c:Call}{x y:Operand}{t:TypeId}(hW:Wd P E w0 X F H B w Y Mo)(hF:FrT n a L D B (rd w Y))(ho:o.op= .call c)(hc:c.callee= .builtin .append)(J:c.args=#[x,y])(Z:c.argTypes=#[t,t])
  {tv:T} {H':List TO} (h:zTb P H t (evO L x) (evO L y)=some (tv,H')) (hk:nY P E w0 X F n D H' (dst o.dst tv L) B (rd w Y) K):o.wp P a w K Q:=by
 have R:=hF.rep x;have hy:=hF.rep y;unfold zTb at h;cases he:elT P t with
 | none=>simp[he]at h
 | some e=>
  have ht:=wI he;cases hd:ldT P e with
  | none=>simp[he,hd]at h
  | some gs=>
   obtain⟨g,s⟩:=gs;simp only[he,hd]at h;split at h
   ·rename_i us vs nx ny c1 c2 A c4;cases hz:Nat.beq ny 0 with
    | true=>
     obtain⟨adx,cx,olds,ex,lx,rx,sx,ax⟩:=hW.slice R A c1;obtain⟨ady,cy,news,ey,ly,ry,sy,ay⟩:=hW.slice hy c4 c2;obtain rfl:=zV hz;simp only[hz,ze]at h;obtain⟨i0,_,g1,_,g3,_⟩:=fQ hd;have hcap:tv=evO L x∧H'=H∧nx≤cx:=by
      unfold qLd at h;split at h
      ·rename_i v j;cases h;rw[j]at R;obtain⟨hv,hsc⟩:=R.vI;rw[ex]at hv;subst hv;rw[j]at A;refine⟨rfl,rfl,?_⟩;unfold jH at A;split at A<;>(try (rename_i M;cases M;done))<;>(try cases A)
       exact qu _
      ·rename_i i o' m j;cases h;rw[j]at R A;obtain⟨b,C,c',hv,_,f,_⟩:=R.ogI;simp only[jH,za]at A;subst A;rw[ex]at hv;cases hv;exact⟨rfl,rfl,f⟩
      ·rename_i i o' m c' j;cases G:Nat.ble m c' with
       | false=>simp[G]at h
       | true=>
        simp only[G,ze,za,z7]at h;rw[j]at R A;obtain⟨b,C,hv,_⟩:=R.osI;simp only[jH,za]at A;subst A;rw[ex]at hv;cases hv;rw[qv]at G;exact⟨h.1.symm,h.2.symm,G⟩
      ·rename_i U m j;cases h;rw[j]at R A;obtain⟨ad2,hv,_⟩:=R.stI;simp only[jH,za]at A;subst A;rw[ex]at hv;cases hv;exact⟨rfl,rfl,zq _⟩
      ·cases h
     obtain⟨rfl,rfl,f⟩:=hcap;have I:(Builtin.append_ #[t,t] o.type #[a.eval x,a.eval y]).run P w= .ok (a.eval x) w:=by
      rw[ex,ey];have hf:(Builtin.firstCells s 0 (.slice ady 0 cy)).run P w= .ok #[] w:=by
       cases ady with
       | none=>rfl
       | some q=>simp[Builtin.firstCells,loadCells,zm,zk];rfl
      cases adx with
      | none=>simp[Builtin.append_,yq ht,sizeOf,typeInfo,g1,g3,Builtin.lenOf,zk,zm,hf,f]
      | some q=>simp[Builtin.append_,yq ht,sizeOf,typeInfo,g1,g3,Builtin.lenOf,zk,zm,hf,f,storeCells]
     unfold Oper.wp;rw[fK ho hc J Z I];exact hk _ _ _ _ _ hW (hF.put o.dst R) (BLe.refl B) (Le.refl _)
    | false=>
     have hny:0<ny:=by
      rcases jp ny with h0 | h0
      ·subst h0;simp at hz
      ·exact h0
     simp only[hz,zf]at h;cases N:zAj P e s (nx+ny)&&vT vs with
     | false=>simp[N]at h
     | true=>
      simp only[N,ze]at h;simp only[zd]at N;have fin:∀(uc:Cs)(H0:List TO),uc.list=us→(tv,H')=(.og (ln H) 0 (nx+ny),H0++[.gro (uc.apY (evO L y) vs) e])→zLu H e s nx uc (evO L x)→(∀(w2:World)(Y2:Hid)(B2:Bm)(M2:List (Nat×Obj)),Wd P E w0 X F (H++[.gro (uc.apY (evO L y) vs) e]) B2 w2 Y2 M2→Wd P E w0 X F (H0++[.gro (uc.apY (evO L y) vs) e]) B2 w2 Y2 M2)→
        (∀i o n,evO L x= .og i o n→H0=H.set i .gone∧∃x,H[i]?=some x∧vO x=true)→o.wp P a w K Q:=fun uc H0 hus hres G hH0 hog=>by
       subst hus;cases hres;obtain⟨C,hC1,hC2,hA⟩:=zPe (ty:=o.type) hW R hy ht hd c1 c2 A c4 hny N.1 N.2 G;unfold Oper.wp;rcases hA with⟨obj,I,W⟩ | ⟨i,o',n',b,cur,c2',q,ex,hB,hq,I,hS,f,W⟩
       ·obtain⟨hW',hBl⟩:=(hW.call (Upd.drew w)).alloc (C:=C) rfl W;have f:=((Upd.drew w).le Y).trans (Le.hide_new (w:=w.drew) (Y:=Y) obj);rw[fK ho hc J Z I];refine hk _ _ _ _ _ (hH0 _ _ _ _ hW') ((hF.mono hBl f).put o.dst ?_) hBl f;rw[qU];exact .og (qN _ _ _) hC1 (fun _=>rfl) hC2
       ·obtain⟨rfl,x0,S,hlx⟩:=hog _ _ _ ex;have hlt:i<H.length:=(zh.1 S).1;have hW2:=hW.set S hlx hB hq hS f (fun U e=>by cases e) (fun _=>W)
        obtain⟨hW3,V⟩:=hW2.move (i:=i) (x:= .gro (uc.apY (evO L y) vs) e) (by rw[kh hlt]) rfl hB
        rw[cF,q9]at hW3;rw[q9]at V;rw[fK ho hc J Z I];refine hk _ _ _ _ _ hW3 ((hF.mono V f).put o.dst ?_) V f;rw[qU];exact .og (qN _ _ _) hC1 (fun _=>rfl) hC2
      have id0:∀(w2:World)(Y2:Hid)(B2:Bm)(M2:List (Nat×Obj)),Wd P E w0 X F (H++[.gro ((Cs.l us).apY (evO L y) vs) e]) B2 w2 Y2 M2→Wd P E w0 X F (H++[.gro ((Cs.l us).apY (evO L y) vs) e]) B2 w2 Y2 M2:=fun _ _ _ _ h=>h;unfold qLf at h;split at h
      ·rename_i v j;exact fin (.l us) H rfl (q8 h).symm (.inl ⟨v,j⟩) id0 (fun i o n M=>by rw[j]at M;cases M)
      ·rename_i U m j;exact fin (.l us) H rfl (q8 h).symm (.inr (.inl ⟨_,_,j⟩)) id0 (fun i o n M=>by rw[j]at M;cases M)
      ·rename_i i o' m c' j;cases G:Nat.beq m c' with
       | false=>simp[G]at h
       | true=>
        obtain rfl:=zV G;simp only[G,ze]at h;exact fin (.l us) H rfl (q8 h).symm (.inr (.inr (.inl ⟨_,_,_,j⟩))) id0 (fun i o n M=>by rw[j]at M;cases M)
      ·rename_i i o' m j;unfold qVb at h;split at h
       ·rename_i U e' z;cases G:Nat.beq o' 0&&(Nat.beq (ln U.list) (m*s)&&Nat.beq e e')with
        | false=>simp[G]at h
        | true=>
         simp only[G,ze]at h;simp only[zd,qU]at G;obtain rfl:=zV G.1;have hcs:=zV G.2.1;obtain rfl:=zV G.2.2;rw[qW,zp]at z;have S:H[i]?=some (.gro U e):=by
          cases S:H[i]? with
          | none=>rw[S]at z;cases z
          | some q=>rw[S]at z;simp at z;rw[z]
         rw[j]at c1 A;simp only[jH,za]at A;subst A;have hus:U.list=us:=by
          unfold qJ at c1;simp only[qW,zp,S,jt,mW]at c1;obtain⟨t1,t2⟩:=zBw c1;rw[t2,nE,xd,←hcs,jz]
         have hlt:i<H.length:=(zh.1 S).1;refine fin U (H.set i .gone) hus ?_ (.inr (.inr (.inr ⟨i,j,S,hcs⟩))) (fun w2 Y2 B2 M2 h2=>?_) (fun i2 o2 n2 M=>?_)
         ·rw[←q8 h,yN]
         ·have:=h2.gone i;rwa[xT _ _ hlt]at this
         ·rw[j]at M;cases M;exact⟨rfl,_,S,rfl⟩
       ·cases h
      ·cases h
   ·cases h
end
def Kn(P:Program)(f:Nat)(q:List T)(H:List TO)(y:T)(j:List TO):Prop:=
 ∀(E:Nat→Prop)(w0:World)(X:Hid)(F:List Nat)(B:Bm)(w:World)(Y:Hid)(Mo:List (Nat×Obj))(qQ:List Value)(R:Ending→World→Prop),
  Wd P E w0 X F H B w Y Mo→zP B (rd w Y) q qQ→
  (∀v w' B' Y' e,Wd P E w0 X F j B' w' Y' e→Rep B' (rd w' Y') y v→BLe B B'→Le (rd w Y) (rd w' Y')→R (.returned v) w')→Calls P f qQ.toArray w R
def KnY(P:Program)(l:Nat)(j:List T)(H:List TO)(q:T)(f:List TO):Prop:=
 ∀(E:Nat→Prop)(w0:World)(X:Hid)(F:List Nat)(B:Bm)(w:World)(Y:Hid)(Mo:List (Nat×Obj))(qQ:List Value)(R:Ending→World→Prop)(b C:Nat),
  Wd P E w0 X F H B w Y Mo→zP B (rd w Y) j qQ→B l=some (b,C)→
  (∀v w' B' Y' e,Wd P E w0 X F f B' w' Y' e→Rep B' (rd w' Y') q v→BLe B B'→Le (rd w Y) (rd w' Y')→R (.returned v) w')→YieldAt (FF none) 0 P b qQ.toArray w R
def kV(P:Program)(cl:Cl):Prop:=∀f j H q e,cl f j H=some (q,e)→Kn P f j H q e
def xS(P:Program)(yd:Cl):Prop:=∀l f H j e,yd l f H=some (j,e)→KnY P l f H j e
section
variable {P:Program}{E:Nat→Prop}{w0:World}{X:Hid}{F:List Nat}{H:List TO}{B B':Bm}{w w':World}{Y Y':Hid}{Mo:List (Nat×Obj)}{o:Oper}{r r':Rd}{n:Nat}{a:Act}{L:List T}{D:List Deferred}{Q:Exit→Act→World→Prop}{K:Act→World→Prop}{cl yd:Cl}{rr:Option Nat}{ops:Array Oper}{rest:List Oper}
theorem nH{f:Nat}(h:jX P f=true)(y:Array Value)(w:World):(callFunc f y).run P w= .ok (.enter f y) w:=by
 unfold jX at h;cases e:P.funcs[f]? with
 | none=>simp[e]at h
 | some fn=>
  simp only[e]at h;cases j:fn.name== "runtime.NumGoroutine" with
  | true=>simp[j]at h
  | false=>
   simp only[j,zf]at h;have q:fn.body.isNone=false:=by cases q:fn.body<;>simp_all
   unfold callFunc;simp only[zk,qr,zg,zm,e,j,q];rfl
theorem zZe (J : FrT n a L D B r) {q : Bool} (h : kR ops L o = some q) : Region.wanted o (yielded ops a.tmps) = q := by
  unfold kR at h
  unfold Region.wanted
  cases G : o.guard with
  | none => simp only [G, za] at h; simpa using h
  | some N =>
    obtain ⟨j, b⟩ := N
    simp only [G] at h
    cases A : ops[j]? with
    | none => simp [A] at h
    | some p =>
      simp only [A] at h
      cases hd : p.dst with
      | none => simp [hd] at h
      | some t =>
        simp only [hd] at h
        have C := J.reps.getD t
        have f : ∀ v, a.tmps.toList.getD t undef = v → (∃ u, a.tmps[t]? = some u ∧ u = v) ∨ (a.tmps[t]? = none ∧ undef = v) := fun v hv => by
          rw [zp] at hv
          cases ht : a.tmps[t]? with
          | none => have : a.tmps.toList[t]? = none := by simpa using ht
                    rw [this] at hv; exact .inr ⟨rfl, hv⟩
          | some u => have : a.tmps.toList[t]? = some u := by simpa using ht
                      rw [this] at hv; exact .inl ⟨u, rfl, hv⟩
        split at h
        · rename_i c e
          rw [e] at C
          obtain ⟨hv, _⟩ := C.vI
          rcases f _ hv with ⟨u, z, rfl⟩ | ⟨_, I⟩
          · simp only [yielded, A, hd, vr, z]
            cases h
            cases c <;> cases b <;> rfl
          · cases I
        · cases h
        · rename_i e
          rw [e] at C
          obtain ⟨R, hv, M⟩ := C.tuI
          cases R with
          | cons x y => exact M.elim
          | nil =>
            cases h
            rcases f _ hv with ⟨u, z, rfl⟩ | ⟨z, _⟩
            · simp only [yielded, A, hd, vr, z]
              cases b <;> rfl
            · simp only [yielded, A, hd, vr, z]
              cases b <;> rfl
        · cases h
theorem zHe(op:Op):kZ op=vC op:=by cases op<;>rfl
theorem zCm{c:Call}{j:Operand}{f:Nat}{e:List Value}(ho:o.op= .call c)(q:c.callee= .value j)(y:a.eval j= .func (.func f) #[] e.toArray)(he:jX P f=true)(w:World):
  (execOp a.eval o).run P w= .ok (.enter f ((c.args.toList.map a.eval)++e).toArray) w:=by
 have hm:c.args.map a.eval++e.toArray=((c.args.toList.map a.eval)++e).toArray:=by
  apply j0;simp
 unfold execOp;simp only[ho,resolve,q,y,Deferred.ofValue,zk,zm,zg,invoke];simp only[Array.empty_append,hm];exact nH he _ w
theorem zGi{c:Call}{j:Operand}{f:Nat}{e:List Value}(ho:o.op= .call c)(q:c.callee= .value j)(y:a.eval j= .func (.func f) e.toArray #[])(he:jX P f=true)(w:World):
  (execOp a.eval o).run P w= .ok (.enter f (e++(c.args.toList.map a.eval)).toArray) w:=by
 have hm:e.toArray++c.args.map a.eval++#[]=(e++(c.args.toList.map a.eval)).toArray:=by
  apply j0;simp
 unfold execOp;simp only[ho,resolve,q,y,Deferred.ofValue,zk,zm,zg,invoke];simp only[hm];exact nH he _ w
theorem zTy{c:Call}{q:Operand}{b:Nat}(ho:o.op= .call c)(y:c.callee= .value q)(z:a.eval q= .func (.yield b) #[] #[]){fn:FuncId}{f:Array Value}{j e:Code}(w:World)(A:(Instr.yield b (c.args.toList.map a.eval).toArray).run P w= .ok (.round b fn f j e) w):
  (execOp a.eval o).run P w= .ok (.round b fn f j e) w:=by
 have hm:c.args.map a.eval=(c.args.toList.map a.eval).toArray:=by
  apply j0;simp
 unfold execOp;simp only[ho,resolve,y,z,Deferred.ofValue,zk,zm,zg,invoke];simp only[Array.empty_append,hm];exact A
theorem zHh(hcl:kV P cl)(hyd:xS P yd){s':S}(h:opE P cl yd ops o ⟨L,H⟩=some s')(hn:kZ o.op=true)(U:Wd P E w0 X F H B w Y Mo)(J:FrT n a L D B (rd w Y))
  (V:nY P E w0 X F n D s'.H s'.L B (rd w Y) K):if Region.wanted o (yielded ops a.tmps)then o.wpIn (FF rr) 0 P a w K Q else(∀f,o.about P w a.eval=some f→(FF rr).fn f)∧K (a.put o.dst undef) w:=by
 unfold opE at h;cases hw:kR ops L o with
 | none=>simp[hw]at h
 | some q=>
  rw[zZe J hw];have N:vC o.op=true:=by rw[←zHe];exact hn
  cases q with
  | false=>
   simp only[hw,za]at h;subst h;simp only[xi,wi];refine⟨fun f _=>xD rr f,V _ _ _ _ _ U (J.put o.dst ?_) (BLe.refl B) (Le.refl _)⟩;exact Rep.mkTu (vs:=[]) trivial
  | true=>
   simp only[hw]at h;simp only[j7];unfold fZ at h;cases hp:xC P H (ln H) (evO L) o.op with
   | some z=>
    simp only[hp]at h;exact zNs N (qOx U J hp h V)
   | none=>
    simp only[hp]at h;unfold zRb at h;cases he:zCj P H (evO L) o.op with
    | some z=>
     simp only[he]at h;obtain⟨z1,z2⟩:=z;refine zNs N ?_;generalize A:o.op=op at he;unfold zCj at he;split at he
     ·rename_i t xa xv;cases hs:qQh P H t (evO L xa) (evO L xv)with
      | none=>simp[hs]at he
      | some H'=>
       simp only[hs,za,z7]at he;obtain⟨rfl,rfl⟩:=he;unfold zPx at h;simp only at h;cases hd:o.dst with
       | some d=>simp[hd]at h
       | none=>
        simp only[hd,za]at h;subst h;exact jAy U J A hd hs V
     ·rename_i t xm xk xv;cases hs:qQo P H t (evO L xm) (evO L xk) (evO L xv)with
      | none=>simp[hs]at he
      | some H'=>
       simp only[hs,za,z7]at he;obtain⟨rfl,rfl⟩:=he;unfold zPx at h;simp only at h;cases hd:o.dst with
       | some d=>simp[hd]at h
       | none=>
        simp only[hd,za]at h;subst h;exact jAz U J A hd hs V
     ·rename_i c;split at he
      ·rename_i x y t t' e1 W e3;cases ht:Nat.beq t t' with
       | false=>simp[ht]at he
       | true=>
        obtain rfl:=zV ht;simp only[ht,ze]at he;cases ha:zTb P H t (evO L x) (evO L y)with
        | none=>simp[ha]at he
        | some vh=>
         obtain⟨tv,H'⟩:=vh;simp only[ha,za,z7]at he;obtain⟨rfl,rfl⟩:=he;simp only[zPx,za]at h;subst h;exact qHl U J A e1 (j0 (by simpa using W)) (j0 (by simpa using e3)) ha V
      ·rename_i x y t t' e1 W e3;cases ha:qLv P H t (evO L x) (evO L y)with
       | none=>simp[ha]at he
       | some vh=>
        obtain⟨tv,H'⟩:=vh;simp only[ha,za,z7]at he;obtain⟨rfl,rfl⟩:=he;simp only[zPx,za]at h;subst h;exact jAx U J A e1 (j0 (by simpa using W)) (j0 (by simpa using e3)) ha V
      ·cases he
     ·cases he
    | none=>
     simp only[he]at h;cases j:opC P cl yd o.dst L H o.op with
     | none=>
      simp only[j]at h;unfold qHj at h;cases hm:zBg P (evO L) o with
      | none=>simp[hm]at h
      | some t=>
       simp only[hm,za]at h;subst h;obtain⟨v,R,hR⟩:=qGp (P:=P) (w:=w) (ρ:=a.eval) (k:=0) J.rep hm;refine zNs N ?_;unfold Oper.wp;rw[R];exact V _ _ _ _ _ U (J.put o.dst hR) (BLe.refl B) (Le.refl _)
     | some s2=>
      simp only[j,za]at h;subst h;generalize A:o.op=op at j;unfold opC at j;split at j
      ·rename_i c;split at j
       ·rename_i fx e1;have M:=J.rep fx;have G:=zP.map J.rep c.args.toList;unfold zEc at j;split at j
        ·rename_i f cs W;rw[W]at M;obtain⟨caps,hv,hcs⟩:=M.fnI;cases I:jX P f with
         | false=>simp[I]at j
         | true=>
          simp only[I,ze]at j;cases R:cl f (c.args.toList.map (evO L)++cs) H with
          | none=>simp[R,zCn]at j
          | some vh=>
           obtain⟨tv,H'⟩:=vh;simp only[R,zCn,za]at j;subst j;refine zNs N ?_;unfold Oper.wp;rw[zCm A e1 hv I w];refine hcl _ _ _ _ _ R E w0 X F B w Y Mo _ _ U (G.app hcs) fun v w' B' Y' Mo' h1 h2 h3 h4=>?_;exact V _ _ _ _ _ h1 ((J.mono h3 h4).put o.dst h2) h3 h4
        ·rename_i f bs W;rw[W]at M;obtain⟨vs,hv,hcs⟩:=M.fbI;cases I:jX P f with
         | false=>simp[I]at j
         | true=>
          simp only[I,ze]at j;cases R:cl f (bs++c.args.toList.map (evO L)) H with
          | none=>simp[R,zCn]at j
          | some vh=>
           obtain⟨tv,H'⟩:=vh;simp only[R,zCn,za]at j;subst j;refine zNs N ?_;unfold Oper.wp;rw[zGi A e1 hv I w];refine hcl _ _ _ _ _ R E w0 X F B w Y Mo _ _ U (hcs.app G) fun v w' B' Y' Mo' h1 h2 h3 h4=>?_;exact V _ _ _ _ _ h1 ((J.mono h3 h4).put o.dst h2) h3 h4
        ·rename_i l W;rw[W]at M;obtain⟨b,C,hv,hB⟩:=M.ylI;cases R:yd l (c.args.toList.map (evO L)) H with
         | none=>simp[R,zCn]at j
         | some vh=>
          obtain⟨tv,H'⟩:=vh;simp only[R,zCn,za]at j;subst j;obtain⟨fn,tmps,az,body,hrun,Z⟩:=hyd _ _ _ _ _ R E w0 X F B w Y Mo _ (fun e w1=>∃v,e= .returned v∧K (a.put o.dst v) w1) b C U G hB
           (fun v w' B' Y' Mo' h1 h2 h3 h4=>⟨v,rfl,V _ _ _ _ _ h1 ((J.mono h3 h4).put o.dst h2) h3 h4⟩)
          refine⟨fun f _=>xD rr f,?_⟩;show o.uponIn (FF rr) 0 P a _ Q ((o.semAt rr a.eval).run P w);rw[dG rr a.eval o N,zTy A e1 hv w hrun];refine⟨rT rr 0,Z.mono fun e w1 he=>?_⟩;obtain⟨v,rfl,hh⟩:=he;exact hh
        ·cases j
       ·cases j
      ·cases j
theorem dA(e:kV P cl)(f:xS P yd){j:S}(h:opE P cl yd ops o ⟨L,H⟩=some j)(A:kZ o.op=true)(y:Wd P E w0 X F H B w Y Mo)(q:FrT n a L D B (rd w Y))
  (z:nY P E w0 X F n D j.H j.L B (rd w Y) (wpListIn (FF rr) 0 P ops Q rest)):wpListIn (FF rr) 0 P ops Q (o::rest) a w:=zHh e f h A y q z
end
def KnP(P:Program)(k f:Nat)(e:List T)(q:T)(j:Bool):Prop:=
 ∀(B:Bm)(w:World)(X:Hid)(qQ:List Value)(R:Ending→World→Prop),Iv P w→(∀i,k≤i→B i=none)→(∀b o,X b o→b<w.heap.size)→zP B (rd w X) e qQ→
  (∀v w',Upd E0 w w'→Rep B (rd w' (bif j then old w else X)) q v→R (.returned v) w')→Calls P f qQ.toArray w R
theorem KnP.unN{P:Program}{k f j:Nat}{e:List T}{y:T}{q:Bool}(h:KnP P k f (e.map (Ev.unN j)) y q):KnP P k f e y q:=fun B w X qQ R z I G C A=>h B w X qQ R z I G (C.unN (fun _ _ h=>h) j) A
def qR(P:Program)(O:Po):Prop:=∀f e q j,O f e=some (q,j)→∀k,KnP P k f e q j
section
variable {P:Program}{E:Nat→Prop}{w0:World}{X:Hid}{F:List Nat}{H:List TO}{B B':Bm}{w w':World}{Y Y':Hid}{Mo:List (Nat×Obj)}{o:Oper}{r r':Rd}{n:Nat}{a:Act}{L:List T}{D:List Deferred}{Q:Exit→Act→World→Prop}{K:Act→World→Prop}{O:Po}{rn:Rn}
theorem wH{C:Bm}:∀(k:Nat){t:T}{v:Value},clean k t=true→Rep B r t v→Rep C r t v
 | 0,_,_,h,_=>by simp[clean]at h
 | k+1,t,v,h,G=>by
  have q:∀{A:List T},A.all (clean k)=true→∀(j:Nat)(t:T),A[j]?=some t→clean k t=true:=fun h j t e=>qa.1 h t (qk e);cases G with
  | u=>simp[clean]at h
  | v J=>exact .v J
  | sl I f y g hm=>simp only[clean]at h;exact .sl I f y (fun j t e=>wH k (q h j t e) (g j t e)) hm
  | sl0 hm=>exact .sl0 hm
  | st f y g=>simp only[clean]at h;exact .st f y fun j t e=>wH k (q h j t e) (g j t e)
  | st0=>exact .st0
  | fp f y g=>simp only[clean]at h;exact .fp f y fun j t e=>wH k (q h j t e) (g j t e)
  | ag f z y g=>simp only[clean]at h;exact .ag f z y fun j t e=>wH k (q h j t e) (g j t e)
  | tu f z y g=>simp only[clean]at h;exact .tu f z y fun j t e=>wH k (q h j t e) (g j t e)
  | fn f z y g=>simp only[clean]at h;exact .fn f z y fun j t e=>wH k (q h j t e) (g j t e)
  | @ls g _ _ _ y=>
   simp only[clean]at h;cases g with
   | n=>cases h
   | o=>cases h
   | a=>exact .ls (jF.mono (Le.refl _) (fun b _=>Bm.In.any) _ _ _ y)
  | _=>simp[clean]at h
theorem bQ{C:Bm}{f:T→Option T}{J M:Rd}(I:∀t N v,f t=some N→Rep B J t v→Rep C M N v):∀{q e:List T}{A:List Value},vZ f q=some e→zP B J q A→zP C M e A
 | [],e,[],h,_=>by simp only[vZ,za]at h;subst h;trivial
 | t::q,e,v::A,h,G=>by
  simp only[vZ]at h;cases j:f t with
  | none=>simp[j]at h
  | some x=>
   cases z:vZ f q with
   | none=>simp[j,z]at h
   | some y=>
    simp only[j,z,za]at h;subst h;exact⟨I _ _ _ j G.1,bQ I z G.2⟩
 | [],_,_::_,_,h=>h.elim
 | _::_,_,[],_,h=>h.elim
theorem zQt{f:T→Option T}:∀{C q:List T},vZ f C=some q→∀{j:Nat}{A:T},q[j]?=some A→∃t,C[j]?=some t∧f t=some A
 | [],q,h,j,A,e=>by simp only[vZ,za]at h;subst h;simp at e
 | t::C,q,h,j,A,e=>by
  simp only[vZ]at h;cases z:f t with
  | none=>simp[z]at h
  | some x=>
   cases G:vZ f C with
   | none=>simp[z,G]at h
   | some y=>
    simp only[z,G,za]at h;subst h;cases j with
    | zero=>simp at e;subst e;exact⟨t,rfl,z⟩
    | succ j=>simpa using zQt G (by simpa using e)
theorem Wd.ownRow(G:Wd P E w0 X F H B w Y Mo){i b C:Nat}{q:List T}(A:B i=some (b,C))(h:pQ (nth .gone H i)=some q):∃(c:Array Value)(e:TypeId),(b,Obj.cells c e (0,0))∈Mo∧zP B (rd w Y) q (c.toList.take q.length):=by
 rw[qW,zp]at h;cases j:H[i]? with
 | none=>rw[j]at h;simp[pQ]at h
 | some x=>
  rw[j]at h;cases x with
  | row y e=>
   simp only[jt,pQ,za]at h;subst h;obtain⟨J,I,ob,g1,g2,z⟩:=G.ob i _ j rfl;rw[A]at g1;cases g1;cases z with
   | @row _ _ c f=>exact⟨c,e,g2,by rw[f.length,jz];exact f⟩
  | gro y e=>
   simp only[jt,pQ,za]at h;subst h;obtain⟨J,I,ob,g1,g2,z⟩:=G.ob i _ j rfl;rw[A]at g1;cases g1;cases z with
   | @gro _ _ c M _ _ _ f=>exact⟨c,e,g2,f⟩
  | _=>simp[pQ]at h
def Ow(B:Bm)(r:Rd)(w:World)(Z:Nat→Prop)(H:List TO):Prop:=∀(i b C:Nat)(f:List T),B i=some (b,C)→pQ (nth .gone H i)=some f→∃(c:Array Value)(e:TypeId),w.heap[b]?=some (.cells c e (0,0))∧Z b∧zP B r f (c.toList.take f.length)
theorem Wd.ow(f:Wd P E w0 X F H B w Y Mo):Ow B (rd w Y) w (fun b=>∃ob,(b,ob)∈Mo) H:=fun i b C q j h=>by
 obtain⟨c,e,g1,g2⟩:=f.ownRow j h;exact⟨c,e,f.heap g1,⟨_,g1⟩,g2⟩
theorem jF.of_reps{B2:Bm}{g:Tg}{p:Nat→Prop}(e:∀(A:Ty)(l:List A.den)(v:Value),Rep B r (.ls g A l) v→jF r' p (.list A) l [v]):∀(A:Ty),gN A=true→∀(y:A.den)(us:List Value),zP B r (qE g A y) us→jF r' p A y us
 | .lim,h,_,_,_=>by cases h
 | .int _,_,_,[v],h=>by obtain⟨rfl,_⟩:=h.1.vI;rfl
 | .bool,_,_,[v],h=>by obtain⟨rfl,_⟩:=h.1.vI;rfl
 | .str,_,_,[v],h=>by obtain⟨rfl,_⟩:=h.1.vI;rfl
 | .list A,_,l,[v],h=>e A l v h.1
 | .prod A C,h,y,us,j=>by
  simp only[gN,zd]at h;have f:=zP.split (ts:=qE g A y.1) (us:=qE g C y.2) j;exact⟨_,_,(jj (qE g A y.1).length us).symm,jF.of_reps (B2:=B2) e A h.1 _ _ f.1,jF.of_reps (B2:=B2) e C h.2 _ _ f.2⟩
 | .int _,_,_,[],h=>h.elim
 | .bool,_,_,[],h=>h.elim
 | .str,_,_,[],h=>h.elim
 | .list _,_,_,[],h=>h.elim
 | .int _,_,_,_::_::_,h=>h.2.elim
 | .bool,_,_,_::_::_,h=>h.2.elim
 | .str,_,_,_::_::_,h=>h.2.elim
 | .list _,_,_,_::_::_,h=>h.2.elim
theorem zCp(g:Tg)(A:Ty):∀(l:List A.den)(i:Nat)(y:A.den),l.reverse[i]?=some y→∀(q:Nat)(t:T),(qE g A y)[q]?=some t→(qP g A l)[i*A.size+q]?=some t
 | [],i,y,h,q,t,ht=>by simp at h
 | x::l,i,y,h,q,t,ht=>by
  have j:q<A.size:=by rw[←jM g A y];exact(zh.1 ht).1
  rw[ye,wl]at h;split at h
  ·rename_i e;rw[xf]at e;have:=zCp g A l i y h q t ht;rw[qP,qh]
   ·exact this
   ·exact(zh.1 this).1
  ·rename_i e;rw[xf]at e h;have f:i-l.length=0:=by
    have:=(zh.1 h).1;simpa using this
   rw[f]at h;simp at h;subst h;have:i=l.length:=by omega
   subst this;rw[qP,jk (by rw[vX];exact vo _ _),vX,j6]
   exact ht
theorem qMn{B2:Bm}{Z:Nat→Prop}{V:Bool}{G m i b C c:Nat}{t:T}(h:zTz V G m (nth .gone H i)=some t)(hB:B i=some (b,C))(hO:Ow B r w Z H)(ho:∀(b:Nat)(c:Array Value)(e:TypeId),w.heap[b]?=some (.cells c e (0,0))→Z b→∀(j:Nat)(v:Value),c[j]?=some v→r' ⟨b,j,none⟩=some v)
  (U:∀{g:Tg},(!V||g.isN)=true→∀(A:Ty)(l:List A.den)(v:Value),Rep B r (.ls g A l) v→jF r' (B2.In .a) (.list A) l [v]) (hc:m≤c) (hm:c≤maxLen):Rep B2 r' t (.slice (some ⟨b,G,none⟩) m c):=by
 unfold zTz at h;split at h
 ·rename_i g A x e hn;cases N:(Nat.beq G 0&&(gN A&&(!V||g.isN)))&&Nat.beq m x.length with
  | false=>simp[N]at h
  | true=>
   simp only[N,ze,za]at h;subst h;simp only[zd]at N;obtain⟨⟨h0,h1,h2⟩,h3⟩:=N;obtain rfl:=qp h0;obtain rfl:=qp h3;obtain⟨I,e',g1,gz,W⟩:=hO i b C (qP g A x) hB (by rw[hn];rfl)
   refine .ls ⟨some ⟨b,0,none⟩,c,by simp,by simpa using hc,hm,.inr ⟨b,0,rfl,Bm.In.any,fun j y hy=>?_⟩⟩
   have hj:j<x.length:=by
    have:=(zh.1 hy).1;simpa using this
   have hlen:x.length*A.size≤I.toList.length:=by
    have:=W.length;rw[vX,jo]at this;omega
   have S:(j+1)*A.size≤x.length*A.size:=q6 _ hj;rw[ja,vw]at S;have M:((I.toList.drop (j*A.size)).take A.size).length=A.size:=by
    rw[jo,xj];omega
   have f:∀(q:Nat)(v:Value),((I.toList.drop (j*A.size)).take A.size)[q]?=some v→q<A.size∧I.toList[j*A.size+q]?=some v:=fun q v z=>by
    rw[qi]at z;split at z
    ·rename_i hlt;rw[jm]at z;exact⟨hlt,z⟩
    ·cases z
   refine⟨(I.toList.drop (j*A.size)).take A.size,M,?_,fun q v z=>?_⟩
   ·refine jF.of_reps (B2:=B2) (U h2) A h1 y _ (zP.of (by rw[jM,M]) fun q t v ht hv=>?_)
    have h4:=zCp g A x j y hy q t ht;obtain⟨hlt,R⟩:=f q v hv;obtain⟨v',J,h7⟩:=W.get h4;rw[qi]at J;split at J
    ·rw[R]at J;cases J;exact h7
    ·cases J
   ·obtain⟨_,R⟩:=f q v z;rw[ql];exact ho b I e' g1 gz _ v (by simpa using R)
 ·cases h
theorem zMt{B2:Bm}{Z:Nat→Prop}(hO:Ow B r w Z H){J:Bool}(ho:∀(b:Nat)(c:Array Value)(e:TypeId),w.heap[b]?=some (.cells c e (0,0))→Z b→∀(j:Nat)(v:Value),c[j]?=some v→r' ⟨b,j,none⟩=some v)(hl:J=false→Le r r')(hN:∀b j v,B.N≤b→r ⟨b,j,none⟩=some v→r' ⟨b,j,none⟩=some v):
  ∀(k:Nat)(t t':T)(v:Value),yC J H k t=some t'→Rep B r t v→Rep B2 r' t' v
 | 0,t,t',v,h,_=>by simp[yC]at h
 | k+1,t,t',v,h,z=>by
  have W:=zMt (B2:=B2) hO ho hl hN k;have U:∀{t:T},J=false→clean 9 t=true→Rep B r t v→Rep B2 r' t v:=fun hn G h=>wH 9 G (h.mono (BLe.refl B) (hl hn));have own:∀{i b C q:Nat}{y l:List T},B i=some (b,C)→pQ (nth .gone H i)=some y→vZ (yC J H k) (jJ y q)=some l→Cls B2 r' b q l:=fun{i b C q y l}V I R=>by
   obtain⟨c,e,g1,gz,g2⟩:=hO _ _ _ _ V I;have g3:=bQ W R (g2.drop q);intro j t hj;obtain⟨v,S,e2⟩:=g3.get hj;refine⟨v,ho b c e g1 gz _ _ ?_,e2⟩;rw[jm,qi]at S;split at S
   ·simpa using S
   ·cases S
  cases t with
  | u=>simp[yC]at h
  | om i=>simp[yC]at h
  | fb f y=>simp[yC]at h
  | yl i=>simp[yC]at h
  | hv A l=>simp[yC]at h
  | v x=>simp only[yC,za]at h;subst h;obtain⟨rfl,hs⟩:=z.vI;exact .v hs
  | ls g A l=>
   simp only[yC]at h;cases J with
   | false=>
    simp only[zf,za]at h;subst h;cases z with
    | ls z=>exact .ls (jF.mono (hl rfl) (fun b _=>Bm.In.any) _ _ _ z)
   | true=>
    cases g with
    | a=>simp[Tg.isN]at h
    | o=>simp[Tg.isN]at h
    | n=>
     simp only[Tg.isN,ze,za]at h;subst h;cases z with
     | ls z=>exact .ls (jF.far (fun _=>Bm.In.any) hN _ _ _ (jF.mono (Le.refl _) (fun b h=>h.1 rfl) _ _ _ z))
  | sl y m=>
   simp only[yC]at h;cases J with
   | true=>
    simp only[ze]at h;split at h
    ·cases h;obtain⟨ad,c,rfl,_,_⟩:=z.slI;exact .sl0 z.slB
    ·cases h
   | false=>
    simp only[zf]at h;cases G:clean 9 (.sl y m)with
    | false=>simp[G]at h
    | true=>simp only[G,ze,za]at h;subst h;exact U rfl G z
  | sn y m=>
   simp only[yC]at h;cases hm:vZ (yC J H k) y with
   | none=>simp[hm]at h
   | some l=>
    simp only[hm,za]at h;subst h;cases z with
    | @sn _ _ b q c hn f I g M hb=>
     have G:Cls B2 r' b q l:=fun j t' e=>by
      obtain⟨t,S,e2⟩:=zQt hm e;exact⟨f j,hN _ _ _ (hb j t S) (I j t S),W _ _ _ e2 (g j t S)⟩
     exact G.sl hn M
    | sn0 M=>
     simp only[vZ,za]at hm;subst hm;exact .sl0 M
  | st y m=>
   simp only[yC]at h;cases J with
   | true=>
    simp only[ze]at h;split at h
    ·cases h;obtain⟨ad,rfl,_⟩:=z.stI;exact .st0
    ·cases h
   | false=>
    simp only[zf]at h;cases G:clean 9 (.st y m)with
    | false=>simp[G]at h
    | true=>simp only[G,ze,za]at h;subst h;exact U rfl G z
  | fp y=>
   simp only[yC]at h;cases J with
   | true=>simp at h
   | false=>
    simp only[zf]at h;cases G:clean 9 (.fp y)with
    | false=>simp[G]at h
    | true=>simp only[G,ze,za]at h;subst h;exact U rfl G z
  | ag y=>
   simp only[yC]at h;cases hm:vZ (yC J H k) y with
   | none=>simp[hm]at h
   | some l=>
    simp only[hm,za]at h;subst h;obtain⟨vs,rfl,g⟩:=z.agI;exact Rep.mkAg (bQ W hm g)
  | tu y=>
   simp only[yC]at h;cases hm:vZ (yC J H k) y with
   | none=>simp[hm]at h
   | some l=>
    simp only[hm,za]at h;subst h;obtain⟨vs,rfl,g⟩:=z.tuI;exact Rep.mkTu (bQ W hm g)
  | fn f y=>
   simp only[yC]at h;cases hm:vZ (yC J H k) y with
   | none=>simp[hm]at h
   | some l=>
    simp only[hm,za]at h;subst h;obtain⟨vs,rfl,g⟩:=z.fnI;exact Rep.mkFn (bQ W hm g)
  | os i q m c=>
   simp only[yC]at h;cases G:Nat.ble m c&&Nat.ble c 9223372036854775807 with
   | false=>simp[G]at h
   | true=>
    simp only[G,ze]at h;rw[zd,qv,qv]at G;cases I:pQ (nth .gone H i)with
    | none=>simp[I]at h
    | some y=>
     cases R:vZ (yC J H k) (jJ y q)with
     | none=>simp[I,R]at h
     | some l=>
      simp only[I,R,za]at h;subst h;obtain⟨b,C,rfl,V⟩:=z.osI;exact(own V I R).sl G.1 G.2
  | og i q m=>
   simp only[yC]at h;cases hz:zTz J q m (nth .gone H i)with
   | some tz=>
    simp only[hz,za]at h;subst h;have hR2:=z;obtain⟨b,C,c,rfl,hBi,hcc,_⟩:=hR2.ogI;have M:=z.ogB;refine qMn hz hBi hO ho (fun{g}hg A' l' v' hv=>?_) hcc M;cases hv with
    | ls hv=>
     cases J with
     | false=>exact jF.mono (hl rfl) (fun b _=>Bm.In.any) _ _ _ hv
     | true=>
      cases g with
      | a=>cases hg
      | o=>cases hg
      | n=>exact jF.far (fun _=>Bm.In.any) hN _ _ _ (jF.mono (Le.refl _) (fun b h=>h.1 rfl) _ _ _ hv)
   | none=>
   simp only[hz]at h;cases I:pQ (nth .gone H i)with
   | none=>simp[I]at h
   | some y=>
    cases R:vZ (yC J H k) (jJ y q)with
    | none=>simp[I,R]at h
    | some l=>
     simp only[I,R,za]at h;subst h;have M:=z;obtain⟨b,C,c,rfl,V,G,_⟩:=z.ogI;exact(own V I R).sl G M.ogB
  | op i q=>
   simp only[yC]at h;cases I:pQ (nth .gone H i)with
   | none=>simp[I]at h
   | some y=>
    cases R:vZ (yC J H k) (jJ y q)with
    | none=>simp[I,R]at h
    | some l=>
     simp only[I,R,za]at h;subst h;obtain⟨b,C,rfl,V⟩:=z.opI;exact(own V I R).fp
def qGv:Hid:=fun _ _=>False
theorem qIu{po:Po}{k:Nat}{Z:Nat→Prop}(y:∀f q C G,po f q=some (C,G)→KnP P k f q C G){f:Nat}{q:List T}{C:T}(h:poC po H f q=some C){qQ:List Value}{R:Ending→World→Prop}
  (hO:Ow B (rd w Y) w Z H) (V:Iv P w) (M:B.N≤w.heap.size) (hlt:∀b o,Y b o→b<w.heap.size) (hk:∀i,k≤i→B i=none) (U:zP B (rd w Y) q qQ) (W:∀v w',Upd E0 w w'→Rep B (rd w' Y) C v→R (.returned v) w'):Calls P f qQ.toArray w R:=by
 have A:∀{t:T}{v:Value}{w':World},Rep B (rd w' (old w)) t v→Rep B (rd w' (old w)) (mkN 12 t) v:=fun h=>h.mkN (fun b j v e=>qx M (km.1 (tF e))) 12;unfold poC at h;cases hw:qAv q with
 | false=>
  simp only[hw,zf]at h;cases hp:po f q with
  | none=>simp[hp]at h
  | some z=>
   obtain⟨t,G⟩:=z;simp only[hp,za]at h;subst h;refine y _ _ _ _ hp B w Y qQ R V hk hlt U fun v w' S hv=>W v w' S ?_;cases G with
   | false=>exact hv
   | true=>exact(A hv).mono (BLe.refl B) (Le.new hlt)
 | true=>
  simp only[hw,ze]at h;cases hm:vZ (yC false H 12) q with
  | none=>simp[hm]at h
  | some I=>
   simp only[hm]at h;split at h
   ·rename_i t hp;simp only[za]at h;subst h;have J:zP B (rd w qGv) I qQ:=bQ (zMt hO (r':=rd w qGv) (fun b c e hb _ j v hj=>by
     refine pF ?_ (fun h=>h) (wh w b _ c e hb);rw[kx w b _ c e _ hb];exact hj) (fun _=>Le.unhide fun _ _ h=>h.elim) (fun b j v _ e=>pF (yO e) (fun h=>h) (aY e)) 12) hm U
    refine y _ _ _ _ hp B w qGv qQ R V hk (fun _ _ h=>h.elim) J fun v w' S hv=>W v w' S ?_;exact(A hv).mono (BLe.refl B) (Le.new hlt)
   ·cases h
theorem bA:∀(k i:Nat)(x:TO),(gJ k)[i]?=some x→x= .gone
 | 0,_,_,h=>by simp[gJ]at h
 | k+1,0,x,h=>by simp[gJ]at h;exact h.symm
 | k+1,i+1,x,h=>bA k i x (by simpa[gJ]using h)
theorem zKm:∀k,(gJ k).length=k
 | 0=>rfl
 | k+1=>by simp[gJ,zKm k]
theorem zCr(N:kV P (fH P rn)){k f:Nat}{J:List T}{t tv:T}{V:List TO}{U:Bool}(he:fH P rn f (J.map (unN 12)) (gJ k)=some (t,V))(hf:yC U V 12 t=some tv):KnP P k f J tv U:=by
 intro B w X qQ R hI hk hX hA W;have M:zP ⟨B.f,w.heap.size⟩ (rd w X) (J.map (unN 12)) qQ:=zP.unN (B:=B) (B2:=⟨B.f,w.heap.size⟩) (fun _ _ h=>h) 12 hA;have hW:Wd P E0 w X [] (gJ k) ⟨B.f,w.heap.size⟩ w X []:=by
  refine⟨St.start hX,fun i o y z=>?_,fun i cs y=>?_,fun i y=>hk i (by rwa[zKm]at y),fun i j oi oj p q y z=>?_,rfl,fun w' G=>hI.upd G⟩
  ·rw[bA _ _ _ y]at z;cases z
  ·have:=bA _ _ _ y;cases this
  ·rw[bA _ _ _ y]at z;cases z
 refine N _ _ _ _ _ he E0 w X [] ⟨B.f,w.heap.size⟩ w X [] qQ R hW M fun v w' B' Y' I g1 g2 g3 g4=>?_;have A:∀(Z:Hid),(∀b o,Z b o→b<w.heap.size)→∀(b:Nat)(c:Array Value)(e:TypeId),w'.heap[b]?=some (.cells c e (0,0))→(∃ob,(b,ob)∈I)→∀(j:Nat)(v:Value),c[j]?=some v→rd w' Z ⟨b,j,none⟩=some v:=fun Z hZ b c e C hm j v hj=>by
  obtain⟨ob,hm⟩:=hm;have S:w.heap.size≤b:=by
   rcases(g1.st.own _ (k9 _ hm)).2.1 with h | h
   ·exact h
   ·exact h.elim
  refine pF ?_ (fun h=>km.2 S (hZ _ _ h)) (wh w' b _ c e C);rw[kx w' b _ c e _ C];exact hj
 have G:Upd E0 w w':=g1.st.upd;cases U with
 | true=>exact W v w' G (zMt g1.ow (A _ fun _ _ h=>h) (fun e=>by cases e) (fun b j v C e=>pF (yO e) (fun h=>km.2 (g1.bN▸C) h) (aY e)) 12 _ _ _ hf g2)
 | false=>exact W v w' G (zMt g1.ow (A _ hX) (fun _=>g1.st.le) (fun b j v _ e=>g1.st.le _ _ e) 12 _ _ _ hf g2)
theorem zGl(e:kV P (fH P rn)){k f:Nat}{z:List T}{C:T}{A:Bool}(h:kM P rn k f z=some (C,A)):KnP P k f z C A:=by
 unfold kM at h;split at h
 ·rename_i t y he;unfold qFc at h;cases j:yC true y 12 t with
  | some G=>
   simp only[j,za,z7]at h;obtain⟨rfl,rfl⟩:=h;exact zCr e he j
  | none=>
   cases q:yC false y 12 t with
   | none=>simp[j,q]at h
   | some G=>
    simp only[j,q,za,z7]at h;obtain⟨rfl,rfl⟩:=h;exact zCr e he q
 ·cases h
end
def QOk(Q:Exit→Act→World→Prop)(B:Bm)(r:Rd)(a:Act)(w:World):Ex→Prop
 | .n=>Q .normal a w
 | .x id=>Q (.exit id) a w
 | .r=>Q .ret a w
 | .p t=>∀v,Rep B r t v→Q (.panic [{v:=v,recovered:=false}]) a w
def gZ(P:Program)(E:Nat→Prop)(w0:World)(X:Hid)(F:List Nat)(n:Nat)(D:List Deferred)(q:Bool)(e:Ex)(s:S)(B:Bm)(r:Rd)(Q:Exit→Act→World→Prop):Prop:=
 ∀y w' B' Y' f(j:List Nat),(q=true→j=[])→Wd P E w0 X (j++F) s.H B' w' Y' f→FrT n y s.L (j.map Gv.mark++D) B' (rd w' Y')→BLe B B'→Le r (rd w' Y')→QOk Q B' (rd w' Y') y w' e
def KnX(P:Program)(f:Nat)(q:List T)(H:List TO)(y:T)(j:List TO):Prop:=
 ∀(E:Nat→Prop)(w0:World)(X:Hid)(F:List Nat)(B:Bm)(w:World)(Y:Hid)(Mo:List (Nat×Obj))(qQ:List Value)(R:Ending→World→Prop),
  Wd P E w0 X F H B w Y Mo→zP B (rd w Y) q qQ→
  (∀v w' B' Y' e,Wd P E w0 X F j B' w' Y' e→Rep B' (rd w' Y') y v→BLe B B'→Le (rd w Y) (rd w' Y')→R (.panicked [{v:=v,recovered:=false}]) w')→Calls P f qQ.toArray w R
def qCm(P:Program)(pc:Cl):Prop:=∀f j H q e,pc f j H=some (q,e)→KnX P f j H q e
def pU(P:Program)(rn:Rn):Prop:=
 ∀(c:Code)(s:S)(e:Ex)(f:S),rn c s=some (e,f)→∀(E:Nat→Prop)(w0:World)(X:Hid)(F:List Nat)(n:Nat)(a:Act)(D:List Deferred)(B:Bm)(w:World)(Y:Hid)(Mo:List (Nat×Obj))(rr:Option Nat)(Q:Exit→Act→World→Prop),
  (rr=none∨noR c=true)→Wd P E w0 X F s.H B w Y Mo→FrT n a s.L D B (rd w Y)→gZ P E w0 X F n D (noR c) e f B (rd w Y) Q→c.wpIn (FF rr) 0 P Q a w
section
variable {P:Program}{E:Nat→Prop}{w0:World}{X:Hid}{F:List Nat}{H:List TO}{B B':Bm}{w w':World}{Y Y':Hid}{Mo:List (Nat×Obj)}{o:Oper}{r r':Rd}{n:Nat}{a:Act}{L:List T}{D:List Deferred}{Q:Exit→Act→World→Prop}{K:Act→World→Prop}{cl yd pc:Cl}{O:Po}{rr:Option Nat}{ops:Array Oper}{rest:List Oper}{rn:Rn}
theorem zXy(f:kV P cl)(j:xS P yd):∀(l:List Oper)(s e:S){a:Act}{w:World}{B:Bm}{Y:Hid}{Mo:List (Nat×Obj)}{r0:Rd}{B0:Bm},zRg P cl yd ops l s=some e→l.all (fun o=>kZ o.op)=true→Wd P E w0 X F s.H B w Y Mo→FrT n a s.L D B (rd w Y)→BLe B0 B→Le r0 (rd w Y)→
  nY P E w0 X F n D e.H e.L B0 r0 (Q .normal)→wpListIn (FF rr) 0 P ops Q l a w
 | [],s,e,a,w,B,Y,Mo,r0,B0,h,_,A,z,y,I,C=>by
  simp only[zRg,za]at h;subst h;exact C _ _ _ _ _ A z y I
 | o::l,⟨L,H⟩,e,a,w,B,Y,Mo,r0,B0,h,G,A,z,y,I,C=>by
  simp only[x5,zd]at G;simp only[zRg]at h;cases q:opE P cl yd ops o ⟨L,H⟩with
  | none=>simp[q]at h
  | some R=>
   simp only[q]at h;exact dA f j q G.1 A z fun U w' B' Y' J g1 g2 M N=>zXy f j l R e h G.2 g1 g2 (y.trans M) (I.trans N) C
theorem qEv{x:Operand}{t:TypeId}{k:IntKind}{z:Int}(ho:o.op= .panic x)(e:a.eval x= .iface t (.int k z))(w:World):(execOp a.eval o).run P w= .halt (.panic (.iface t (.int k z))) w:=by
 unfold execOp;simp only[ho,e];rfl
theorem jAw(V:qCm P pc){e:Ex}{s':S}(h:opP P pc ops o ⟨L,H⟩=some (e,s'))(hn:kZ o.op=true)(hW:Wd P E w0 X F H B w Y Mo)(M:FrT n a L D B (rd w Y))
  (hk:∀a' w' B' Y' A,Wd P E w0 X F s'.H B' w' Y' A→FrT n a' s'.L D B' (rd w' Y')→BLe B B'→Le (rd w Y) (rd w' Y')→QOk Q B' (rd w' Y') a' w' e):wpListIn (FF rr) 0 P ops Q (o::rest) a w:=by
 unfold opP at h;have hnd:vC o.op=true:=by rw[←zHe];exact hn
 cases W:kR ops L o with
 | none=>simp[W]at h
 | some q=>
  cases q with
  | false=>simp[W]at h
  | true=>
   simp only[W]at h;show if Region.wanted o (yielded ops a.tmps)then _ else _
   rw[zZe M W];simp only[j7];refine zNs hnd ?_;cases hp:jBl L o.op with
   | some t=>
    simp only[hp,za,z7]at h;obtain⟨rfl,rfl⟩:=h;generalize J:o.op=op at hp;unfold jBl at hp;split at hp
    ·rename_i x;split at hp
     ·rename_i t2 k z G;cases hp;have hx:=M.rep x;rw[G]at hx;unfold Oper.wp;rw[qEv J hx.vI.1 w];exact hk a w B Y Mo hW M (BLe.refl B) (Le.refl _) _ (.v rfl)
     ·cases hp
    ·cases hp
   | none=>
    simp only[hp]at h;cases j:qVo P pc ⟨L,H⟩ o.op with
    | none=>simp[j,qXp]at h
    | some vh=>
     obtain⟨t,H'⟩:=vh;simp only[j,qXp,za,z7]at h;obtain⟨rfl,rfl⟩:=h;generalize J:o.op=op at j;unfold qVo at j;split at j
     ·rename_i c;split at j
      ·rename_i Z e1;have I:=M.rep Z;have C:=zP.map M.rep c.args.toList;split at j
       ·rename_i f cs G;have G:evO L Z= .fn f cs:=G;rw[G]at I;obtain⟨caps,hv,N⟩:=I.fnI;cases y:jX P f with
        | false=>simp[y]at j
        | true=>
         simp only[y,ze]at j;unfold Oper.wp;rw[zCm J e1 hv y w];refine V _ _ _ _ _ j E w0 X F B w Y Mo _ _ hW (C.app N) fun v w' B' Y' A h1 h2 R U=>?_;exact hk a w' B' Y' A h1 (M.mono R U) R U v h2
       ·rename_i f bs G;have G:evO L Z= .fb f bs:=G;rw[G]at I;obtain⟨vs,hv,N⟩:=I.fbI;cases y:jX P f with
        | false=>simp[y]at j
        | true=>
         simp only[y,ze]at j;unfold Oper.wp;rw[zGi J e1 hv y w];refine V _ _ _ _ _ j E w0 X F B w Y Mo _ _ hW (N.app C) fun v w' B' Y' A h1 h2 R U=>?_;exact hk a w' B' Y' A h1 (M.mono R U) R U v h2
       ·cases j
      ·cases j
     ·cases j
theorem zYa(y:kV P cl)(A:xS P yd)(z:qCm P pc):∀(l:List Oper)(s j:S){e:Ex}{a:Act}{w:World}{B:Bm}{Y:Hid}{Mo:List (Nat×Obj)}{r0:Rd}{B0:Bm},qHu P cl yd pc ops l s=some (e,j)→l.all (fun o=>kZ o.op)=true→Wd P E w0 X F s.H B w Y Mo→FrT n a s.L D B (rd w Y)→BLe B0 B→Le r0 (rd w Y)→
  (∀q w' B' Y' f,Wd P E w0 X F j.H B' w' Y' f→FrT n q j.L D B' (rd w' Y')→BLe B0 B'→Le r0 (rd w' Y')→QOk Q B' (rd w' Y') q w' e)→wpListIn (FF rr) 0 P ops Q l a w
 | [],s,j,e,a,w,B,Y,Mo,r0,B0,h,_,I,G,C,N,J=>by
  simp only[qHu,za,z7]at h;obtain⟨rfl,rfl⟩:=h;exact J _ _ _ _ _ I G C N
 | o::l,⟨L,H⟩,j,e,a,w,B,Y,Mo,r0,B0,h,M,I,G,C,N,J=>by
  simp only[x5,zd]at M;simp only[qHu]at h;cases V:opE P cl yd ops o ⟨L,H⟩with
  | none=>
   simp only[V]at h;exact jAw z h M.1 I G fun q w' B' Y' f g1 g2 R U=>J q w' B' Y' f g1 g2 (C.trans R) (N.trans U)
  | some W=>
   simp only[V]at h;exact dA y A V M.1 I G fun q w' B' Y' f g1 g2 R U=>zYa y A z l W j h M.2 g1 g2 (C.trans R) (N.trans U) J
theorem zTx{c:Call}{q:Operand}{f:Nat}{j:List Value}(ho:o.op= .defer c)(y:c.callee= .value q)(e:c.args.toList=[])(z:a.eval q= .func (.func f) #[] j.toArray)(w:World):
  (execOp a.eval o).run P w= .ok (.defer {target:= .fn (.func f) j.toArray,args:=#[]}) w:=by
 have ha:c.args=#[]:=j0 (by simpa using e)
 unfold execOp;simp only[ho,resolve,y,z,Deferred.ofValue,ha,zk,zm,zg];simp
theorem zXx(C:kV P cl)(I:xS P yd):∀(l:List Oper)(s y:S){g:T}{a:Act}{w:World}{B:Bm}{Y:Hid}{Mo:List (Nat×Obj)}{r0:Rd}{B0:Bm},qAs P cl yd ops l s=some (g,y)→Wd P E w0 X F s.H B w Y Mo→FrT n a s.L D B (rd w Y)→BLe B0 B→Le r0 (rd w Y)→
  (∀M w' B' Y' z f J e,g= .fn f J→zP B' (rd w' Y') J e→jX P f=true→Wd P E w0 X F y.H B' w' Y' z→FrT n M y.L ({target:= .fn (.func f) e.toArray,args:=#[]}::D) B' (rd w' Y')→BLe B0 B'→Le r0 (rd w' Y')→Q .normal M w')→wpListIn (FF none) 0 P ops Q l a w
 | [],s,y,g,a,w,B,Y,Mo,r0,B0,h,_,_,_,_,_=>by simp[qAs]at h
 | o::l,⟨L,H⟩,y,g,a,w,B,Y,Mo,r0,B0,h,hW,A,Z,hr,hk=>by
  simp only[qAs]at h;cases q:kZ o.op with
  | true=>
   simp only[q,ze]at h;cases N:opE P cl yd ops o ⟨L,H⟩with
   | none=>simp[N]at h
   | some s1=>
    simp only[N]at h;exact dA C I N q hW A fun M w' B' Y' z g1 g2 g3 g4=>zXx C I l s1 y h g1 g2 (Z.trans g3) (hr.trans g4) hk
  | false=>
   simp only[q,zf]at h;split at h
   ·rename_i c W V hd;split at h
    ·rename_i fx e1 e2;split at h
     ·rename_i f J e3;cases j:jX P f with
      | false=>simp[j]at h
      | true=>
       simp only[j,ze,za,z7]at h;obtain⟨rfl,rfl⟩:=h;have G:=A.rep fx;rw[e3]at G;obtain⟨e,hv,U⟩:=G.fnI;show if Region.wanted o (yielded ops a.tmps)then _ else _
       have hw:Region.wanted o (yielded ops a.tmps)=true:=by simp[Region.wanted,V]
       rw[hw];simp only[j7];refine⟨fun f _=>xD none f,?_⟩;show o.uponIn (FF none) 0 P a _ Q ((o.semAt none a.eval).run P w);rw[fd,zTx W e1 e2 hv w];have R:FrT n ({a with defers:={target:= .fn (.func f) e.toArray,args:=#[]}::a.defers}.put o.dst undef) L ({target:= .fn (.func f) e.toArray,args:=#[]}::D) B (rd w Y):=by
        rw[hd];exact⟨A.size,A.reps,by show _::a.defers=_;rw[A.defers]⟩
       exact hk _ w B Y Mo f J e rfl U j hW R Z hr
     ·cases h
    ·cases h
   ·cases h
theorem qQb(N:Wd P E w0 X F H B w Y Mo){x t:T}{v:Value}{e:TypeId}(h:qQa P H x e=some t)(M:Rep B (rd w Y) x v):∃u,((do loadVar e (←asAddr v)):Sem Value).run P w= .ok u w∧Rep B (rd w Y) t u:=by
 unfold qQa at h;cases f:ldT P e with
 | none=>simp[f]at h
 | some A=>
  obtain⟨g,s⟩:=A;cases j:aF H x with
  | none=>simp[f,j]at h
  | some z=>
   cases ht:jR s z with
   | none=>simp[f,j,ht]at h
   | some us=>
    simp only[f,j,ht]at h;cases q:g||Nat.beq s 1 with
    | false=>simp[q]at h
    | true=>
     simp only[q,ze,za]at h;subst h;obtain⟨b,R,S,rfl,y,C,G⟩:=N.from M j ht;obtain⟨I,J⟩:=zFg y q C;refine⟨_,?_,I⟩;simp only[asAddr,zk,zm,zg,pG (by rw[y];exact f) J G]
theorem zFo(A:Wd P E w0 X F H B w Y Mo)(z:zP B (rd w Y) L a.tmps.toList):∀{rs:List ResultVar}{q:List T},dE P L H rs=some q→∃j,(rs.mapM (zEj a.tmps)).run P w= .ok j w∧zP B (rd w Y) q j
 | [],q,h=>by simp only[dE,za]at h;subst h;exact⟨[],rfl,trivial⟩
 | .tmp t::rs,q,h=>by
  simp only[dE]at h;cases f:dE P L H rs with
  | none=>simp[f]at h
  | some us=>
   simp only[f,za]at h;subst h;obtain⟨j,g1,g2⟩:=zFo A z f;refine⟨a.tmps.getD t undef::j,?_,⟨?_,g2⟩⟩
   ·simp only[yh,zk,zm,zg,g1,zEj]
   ·have:=z.getD t;simpa using this
 | .cell t e::rs,q,h=>by
  simp only[dE]at h;cases y:qQa P H (nth .u L t) e with
  | none=>simp[y]at h
  | some x=>
   cases f:dE P L H rs with
   | none=>simp[y,f]at h
   | some us=>
    simp only[y,f,za]at h;subst h;obtain⟨j,g1,g2⟩:=zFo A z f;have C:Rep B (rd w Y) (nth .u L t) (a.tmps.getD t undef):=by
     have:=z.getD t;simpa using this
    obtain⟨u,G,I⟩:=qQb A y C;refine⟨u::j,?_,⟨I,g2⟩⟩;simp only[yh,zk,zm,zg,g1,zEj,G]
theorem zRn{e:List T}{f:List Value}(h:zP B r e f):Rep B r (zRm e) (zBo f):=by
 match e,f,h with
 | [],[],h=>exact Rep.mkTu h
 | [t],[v],h=>exact h.1
 | t::j::e,v::w::f,h=>exact Rep.mkTu h
theorem zOf{fn:Func}{f:List Value}{e:Array Value}(h:(fn.results.toList.mapM (zEj e)).run P w= .ok f w):(results fn e).run P w= .ok (zBo f) w:=by
 have j:fn.results=fn.results.toList.toArray:=by simp
 rw[zHz,j];simp only[zk,uw,Sem.run_map,h,zg];rcases f with _ | ⟨v,_ | ⟨u,f⟩⟩<;>simp[zBo]
theorem sI{fn:Func}{R:Ending→World→Prop}{tmps:Array Value}{u:FrameMode}(z:u≠.run){ds:List Deferred}:∀(e:List Nat){w:World}{B:Bm}{Y:Hid}{Mo:List (Nat×Obj)},Wd P E w0 X (e++F) H B w Y Mo→
  (∀w',Wd P E w0 X F H B w' Y Mo→Le (rd w Y) (rd w' Y)→LeavesInM (FF none) 0 P fn tmps R ds u w')→LeavesInM (FF none) 0 P fn tmps R (e.map Gv.mark++ds) u w
 | [],w,B,Y,Mo,f,k=>k w f (Le.refl _)
 | b::e,w,B,Y,Mo,f,k=>by
  have hp:(Mo++xM (b::e++F)).Perm ((b,Obj.deferred (some []))::(Mo++xM (e++F))):=vm;have y:=St.perm hp f.st;obtain⟨j,q⟩:=y.putObj (o':= .deferred none) 0 rfl;refine⟨z,.inl ⟨b,_,rfl,hU (y.get 0 rfl),?_⟩⟩;rw[List.set_cons_zero]at j;exact sI z e (f.step j.tail q) fun w' g1 g2=>k w' g1 (q.trans g2)
theorem qGg{fn:Func}{R:Ending→World→Prop}{tmps:Array Value}(e:List Nat){w:World}{B:Bm}{Y:Hid}{Mo:List (Nat×Obj)}(q:Wd P E w0 X (e++F) H B w Y Mo)
  (k:∀w',Wd P E w0 X F H B w' Y Mo→Le (rd w Y) (rd w' Y)→∃v,(results fn tmps).run P w'= .ok v w'∧R (.returned v) w'):LeavesInM (FF none) 0 P fn tmps R (e.map Gv.mark) .returning w:=by
 have:=sI (P:=P) (fn:=fn) (R:=R) (tmps:=tmps) (u:= .returning) (ds:=[]) (by simp) e q fun w' g1 g2=>by
  obtain⟨v,f,j⟩:=k w' g1 g2;exact zBe f j
 simpa using this
theorem zIo:∀(m:Nat)(e:List Value),e.length=m→zP B r (us m) e
 | 0,[],_=>trivial
 | m+1,_::e,h=>⟨.u,zIo m e (by simpa using h)⟩
 | 0,_::_,h=>by simp at h
 | _+1,[],h=>by simp at h
theorem zCk(M:pU P rn):kV P (nO P rn):=by
 intro f N H tv H' h E w0 X F B w Y Mo qQ R hW Z hk;unfold nO at h;cases V:P.funcs[f]? with
 | none=>simp[V]at h
 | some fn=>
  simp only[V]at h;cases U:fn.body with
  | none=>simp[U]at h
  | some c=>
   simp only[U]at h;cases W:Nat.ble (ln N) fn.ntmps with
   | false=>simp[W]at h
   | true=>
    simp only[W,ze]at h;rw[qv,qU]at W;have hlen:=Z.length;refine pW.1 (y5 (n:=0) V U (xD none f) ?_);have hF:FrT fn.ntmps {tmps:=qQ.toArray++Array.replicate (fn.ntmps-qQ.toArray.size) undef,defers:=[]} (rest fn.ntmps N) [] B (rd w Y):=by
     refine⟨by simp;omega,?_,rfl⟩
     have:(qQ.toArray++Array.replicate (fn.ntmps-qQ.toArray.size) undef).toList=qQ++List.replicate (fn.ntmps-qQ.length) undef:=by simp
     rw[this];refine Z.app (zIo _ _ ?_);rw[qU];simp;omega
    have q:∀(s:S)(G:List T),dE P s.L s.H fn.results.toList=some G→tv=zRm G→H'=s.H→∀y w' B' Y' j(A:List Nat),Wd P E w0 X (A++F) s.H B' w' Y' j→FrT fn.ntmps y s.L (A.map Gv.mark++[]) B' (rd w' Y')→BLe B B'→Le (rd w Y) (rd w' Y')→LeavesInM (FF none) 0 P fn y.tmps R y.defers .returning w':=
     fun s G z e1 e2 y w' B' Y' j A g1 g2 I J=>by
      subst e1;subst e2;rw[g2.defers,jw];refine qGg A g1 fun w2 k1 k2=>?_;obtain⟨vs,q1,q2⟩:=zFo (a:=y) k1 (g2.reps.mono (BLe.refl B') k2) z;exact⟨_,zOf q1,hk _ _ _ _ _ k1 (zRn q2) I (J.trans k2)⟩
    cases C:rn c ⟨rest fn.ntmps N,H⟩with
    | none=>simp[C,zRx]at h
    | some es=>
     obtain⟨e,s⟩:=es;cases e with
     | x id=>simp[C,zRx]at h
     | p t=>simp[C,zRx]at h
     | n=>
      simp only[C,zRx]at h;cases z:dE P s.L s.H fn.results.toList with
      | none=>simp[z]at h
      | some G=>
       simp only[z,za,z7]at h;refine M _ _ _ _ C E w0 X F fn.ntmps _ [] B w Y Mo none _ (.inl rfl) hW hF fun y w' B' Y' j A _ g1 g2 I J=>?_;exact q s G z h.1.symm h.2.symm y w' B' Y' j A g1 g2 I J
     | r=>
      simp only[C,zRx]at h;cases z:dE P s.L s.H fn.results.toList with
      | none=>simp[z]at h
      | some G=>
       simp only[z,za,z7]at h;refine M _ _ _ _ C E w0 X F fn.ntmps _ [] B w Y Mo none _ (.inl rfl) hW hF fun y w' B' Y' j A _ g1 g2 I J=>?_;exact q s G z h.1.symm h.2.symm y w' B' Y' j A g1 g2 I J
end
section
variable {P:Program}{E:Nat→Prop}{w0:World}{X:Hid}{F:List Nat}{H:List TO}{B B':Bm}{w w':World}{Y Y':Hid}{Mo:List (Nat×Obj)}{o:Oper}{r r':Rd}{n:Nat}{a:Act}{L:List T}{D:List Deferred}{cl yd pc:Cl}{O:Po}{rr:Option Nat}{ops:Array Oper}{rest:List Oper}{rn:Rn}
theorem dZ:∀{l m:List Nat},zMp l m=true→l=m
 | [],[],_=>rfl
 | a::l,b::m,h=>by
  simp only[zMp,zd]at h;rw[zV h.1,dZ h.2]
 | [],_::_,h=>by cases h
 | _::_,[],h=>by cases h
theorem neN{a b:Nat}(h:Nat.beq a b=false):a≠b:=fun e=>by
 subst e;simp at h
theorem zAx{j:Region.Mode}{fuel t:Nat}{e:Array Bool}{f:List Nat}{l:List Nat}(h:Region.ready j ops e=l):Region.linearise.go j ops (fuel+1) t e f=match l[t % l.length]? with
  | some i=>Region.linearise.go j ops fuel (t / l.length) (e.setIfInBounds i true) (i::f)
  | none=>f.reverse:=by
 subst h;rfl
theorem jFd(I:ops.size=4)(h:zYk ops=true)(t:Nat):Region.schedule true ops t=[0,1,2,3]∨Region.schedule true ops t=[1,0,2,3]:=by
 simp only[zYk,zd]at h;obtain⟨q,y,z,A,C,J⟩:=h;have q:=dZ q;have y:=dZ y;have z:=dZ z;have A:=dZ A;have C:=dZ C;simp only[Region.schedule,d8,j7,Region.linearise,I];have G:Array.replicate 4 false=#[false,false,false,false]:=rfl;rw[G,zAx q];have fin:∀(t:Nat)(e:List Nat),Region.linearise.go .any ops 2 t #[true,true,false,false] e=e.reverse++[2,3]:=fun t e=>by
  rw[zAx A];simp only[qf,xh,ql,fl,js];have f:(#[true,true,false,false]:Array Bool).setIfInBounds 2 true=#[true,true,true,false]:=rfl;rw[f,zAx C];simp only[qf,xh,ql,fl,js];simp[Region.linearise.go]
 have hm:t % 2=0∨t % 2=1:=by omega
 rcases hm with hm | hm
 ·left;simp only[qf,xh,ql,Nat.reduceAdd,hm,js];have f:(#[false,false,false,false]:Array Bool).setIfInBounds 0 true=#[true,false,false,false]:=rfl;rw[f,zAx y];simp only[qf,xh,ql,fl,js];have j:(#[true,false,false,false]:Array Bool).setIfInBounds 1 true=#[true,true,false,false]:=rfl;rw[j,fin];rfl
 ·right;simp only[qf,xh,ql,Nat.reduceAdd,hm,uI,js];have f:(#[false,false,false,false]:Array Bool).setIfInBounds 1 true=#[false,true,false,false]:=rfl;rw[f,zAx z];simp only[qf,xh,ql,fl,js];have j:(#[false,true,false,false]:Array Bool).setIfInBounds 0 true=#[true,true,false,false]:=rfl;rw[j,fin];rfl
theorem qGu(h:noG o=true){q:Nat→Option Bool}:Region.wanted o q=true:=by
 unfold noG at h;cases e:o.guard with
 | none=>simp[Region.wanted,e]
 | some _=>simp[e]at h
theorem qFt(h:zQi o=true)(ρ:Operand→Value)(w:World):(execOp ρ o).run P w= .ok .recover w:=by
 unfold zQi at h;split at h
 ·rename_i c j;split at h
  ·rename_i e f;have ha:c.args=#[]:=j0 (by simpa using f)
   unfold execOp;simp only[j,resolve,e,ha,zk,zm,zg];rfl
  ·cases h
 ·cases h
def zFr(B:Bm)(r:Rd)(x:T)(v:Value)(u f:FrameMode):Prop:=
 (u= .returning∧f= .returning∧x= .v .nilIface∧v= .nilIface)∨(∃e,Rep B r x e∧v=e∧u= .panicking [{v:=e,recovered:=false}]∧f= .panicking [{v:=e,recovered:=true}])
theorem zFr.rep{x:T}{v:Value}{u f:FrameMode}(h:zFr B r x v u f):Rep B r x v:=by
 rcases h with⟨_,_,rfl,rfl⟩ | ⟨j,e,rfl,_,_⟩
 ·exact .v rfl
 ·exact e
theorem zFr.settles{x:T}{v:Value}{u e:FrameMode}(h:zFr B r x v u e):settle e= .returning:=by
 rcases h with⟨_,rfl,_,_⟩ | ⟨f,_,_,_,rfl⟩<;>rfl
theorem zFr.mono{x:T}{v:Value}{u e:FrameMode}(h:zFr B r x v u e)(z:BLe B B')(A:Le r r'):zFr B' r' x v u e:=by
 rcases h with h | ⟨C,f,j,q,y⟩
 ·exact .inl h
 ·exact .inr ⟨C,f.mono z A,j,q,y⟩
theorem zSh{i:Nat}{rest:List Nat}{b:Frame}{k:List Item}{e:Frame}{cs:List Frame}{x:T}{v:Value}{u G:FrameMode}(J:b.kind= .deferred)(q:b.roundOf=none)(ho:ops[i]?=some o)(R:zQi o=true)(N:noG o=true)
  (A:e.mode=u) (I:zFr B r x v u G):step P (lone (b.atR a (.inRegion ops (i::rest)::k)) (e::cs) w)= .next (lone (b.atR (a.put o.dst v) (.inRegion ops rest::k)) ({e with mode:=G}::cs) w):=by
 have U:Region.wanted o (yielded ops a.tmps)=true:=qGu N;have z:=stepGR_op (P:=P) (b:=b) (k:=k) (cs:=e::cs) (w:=w) (rest:=rest) ho U;rw[q,fd]at z;have y:∀v,(b.atR a (.inRegion ops (i::rest)::k)).finish v=b.atR (a.put o.dst v) (.inRegion ops rest::k):=by
  intro v;rw[Frame.finish_atR,ho];rfl
 have S:(b.atR a (.inRegion ops (i::rest)::k)).kind= .deferred:=J;have j:=tryRecover_deferred S (e::cs);have C:=qFt (P:=P) R a.eval w;refine step_lone_go ?_;rw[z,←y];rcases I with⟨rfl,rfl,_,rfl⟩ | ⟨V,_,rfl,rfl,rfl⟩
 ·have f:recoverD (e::cs)=none:=by simp[recoverD,A]
  have M:({e with mode:= .returning}:Frame)=e:=by cases e;cases A;rfl
  rw[M];simp only[Frame.atR,q]at j ⊢;simp[stepG.apply,C,j,f]
 ·have f:recoverD (e::cs)=some (v,{e with mode:= .panicking [{v:=v,recovered:=true}]}::cs):=by simp[recoverD,A]
  simp only[Frame.atR,q]at j ⊢;simp[stepG.apply,C,j,f]
theorem zSi{i:Nat}{rest:List Nat}{b:Frame}{k:List Item}{cs:List Frame}{v:Value}(j:b.roundOf=none)(ho:ops[i]?=some o)(q:noG o=true)(y:(execOp a.eval o).run P w= .ok (.value v) w):
  step P (lone (b.atR a (.inRegion ops (i::rest)::k)) cs w)= .next (lone (b.atR (a.put o.dst v) (.inRegion ops rest::k)) cs w):=by
 have z:Region.wanted o (yielded ops a.tmps)=true:=qGu q;have f:=stepGR_op (P:=P) (b:=b) (k:=k) (cs:=cs) (w:=w) (rest:=rest) ho z;rw[j,fd]at f;have e:∀v,(b.atR a (.inRegion ops (i::rest)::k)).finish v=b.atR (a.put o.dst v) (.inRegion ops rest::k):=by
  intro v;rw[Frame.finish_atR,ho];rfl
 refine step_lone_go ?_;rw[f,←e];simp[stepG.apply,y]
theorem zVg{id:Nat}{x:T}{v:Value}{u u':FrameMode}{M:Frame}{cs:List Frame}{s s':S}(hm:P.follows .mixedOrders=true)(hcl:kV P cl)(hyd:xS P yd)(h:qPy P cl yd ops x s=some s')(hu:M.mode=u)(hM:zFr B (rd w Y) x v u u')
  (hW:Wd P E w0 X F s.H B w Y Mo) (hF:FrT n a s.L D B (rd w Y)) {Q:Exit→Act→List Frame→World→Prop}
  (hk:∀a' w' B' Y' Mo',Wd P E w0 X F s'.H B' w' Y' Mo'→FrT n a' s'.L D B' (rd w' Y')→BLe B B'→Le (rd w Y) (rd w' Y')→Q .normal a' ({M with mode:=u'}::cs) w'):(Code.region id ops true).wpSIn (FF none) 0 P Q a (M::cs) w:=by
 unfold qPy at h;split at h
 ·rename_i o0 o1 o2 o3 hops;have q:ops=#[o0,o1,o2,o3]:=j0 (by simpa using hops)
  have hsz:ops.size=4:=by rw[q];rfl
  have i0:ops[0]?=some o0:=by rw[q];rfl
  have i1:ops[1]?=some o1:=by rw[q];rfl
  have i2:ops[2]?=some o2:=by rw[q];rfl
  have i3:ops[3]?=some o3:=by rw[q];rfl
  cases hc:zQi o0&&(noG o0&&(noG o1&&(zYk ops&&(kZ o2.op&&kZ o3.op))))with
  | false=>simp[hc]at h
  | true=>
   simp only[hc,ze]at h;simp only[zd]at hc;obtain⟨c1,c2,c3,c4,c5,c6⟩:=hc;split at h
   ·rename_i C N t ta e0 e1 e2;cases hd:!Nat.beq C N&&!Nat.beq C ta with
    | false=>simp[hd]at h
    | true=>
     simp only[hd,ze]at h;simp only[zd,qq]at hd;have hd:=And.intro (neN hd.1) (neN hd.2);split at h
     ·rename_i z hz;have tail:∀(a2:Act)(w2:World),Wd P E w0 X F s.H B w2 Y Mo→FrT n a2 (Ev.put z (Ev.put x s.L C) N) D B (rd w2 Y)→Le (rd w Y) (rd w2 Y)→wpOpsIn (FF none) 0 P ops (fun e a' w'=>Q e a' ({M with mode:=u'}::cs) w') [2,3] a2 w2:=fun a2 w2 g1 g2 g3=>by
       simp only[zRg]at h;cases h2:opE P cl yd ops o2 ⟨Ev.put z (Ev.put x s.L C) N,s.H⟩with
       | none=>simp[h2]at h
       | some s2=>
        simp only[h2]at h;cases h3:opE P cl yd ops o3 s2 with
        | none=>simp[h3]at h
        | some s3=>
         simp only[h3,za]at h;subst h;simp only[wpOpsIn,i2,i3];refine zHh hcl hyd h2 c5 g1 g2 fun a3 w3 B3 Y3 Mo3 k1 k2 k3 k4=>zHh hcl hyd (L:=s2.L) (H:=s2.H) h3 c6 k1 k2 fun a4 w4 B4 Y4 Mo4 q1 q2 q3 q4=>?_;exact hk _ _ _ _ _ q1 q2 (k3.trans q3) ((g3.trans k4).trans q4)
      intro b k hb G A I;have hup:=Upd.drew w;have hW0:Wd P E w0 X F s.H B w.drew Y Mo:=hW.call hup;have Z:Le (rd w Y) (rd w.drew Y):=hup.le Y;have Z0:FrT n a s.L D B (rd w.drew Y):=hF.mono (BLe.refl B) Z;obtain⟨U,hr1,hR1⟩:∃U,(execOp a.eval o1).run P w.drew= .ok (.value U) w.drew∧Rep B (rd w.drew Y) z U:=by
       have:=zRk (P:=P) (w:=w.drew) (k:=0) hW0.hp Z0.rep e2 (z:=(z,none)) (by show zBn P s.H t (nth .u s.L ta)=_;exact hz)
       exact this
      have hr1':(execOp (a.put (some C) v).eval o1).run P w.drew= .ok (.value U) w.drew:=by
       rw[←hr1];have:(a.put (some C) v).eval (.tmp ta)=a.eval (.tmp ta):=Act.eval_put fun d W=>by
        cases W;intro e;cases e;exact hd.2 rfl
       unfold execOp;simp only[e2,this]
      have hMv:Rep B (rd w.drew Y) x v:=hM.rep.mono (BLe.refl B) Z;have Z2:FrT n ((a.put (some C) v).put (some N) U) (Ev.put z (Ev.put x s.L C) N) D B (rd w.drew Y):=(Z0.put (some C) hMv).put (some N) hR1;have V:(a.put (some N) U).put (some C) v=(a.put (some C) v).put (some N) U:=(Act.put_comm a v U (fun d W e=>by cases W;cases e;exact hd.1 rfl)).symm
      have j:(FF none).room ((M::cs).length+1+0):=I;have y:(FF none).room (({M with mode:=u'}::cs).length+1+0):=I
      obtain⟨e,a',w',hq,R⟩:=wp_opsIn [2,3] _ _ (tail _ _ hW0 Z2 Z) b k ({M with mode:=u'}::cs) G A y
      have hs0:=stepR_region_draw (P:=P) (b:=b) (a:=a) (k:=k) (cs:=M::cs) (w:=w) (ops:=ops) (id:=id);rw[hm]at hs0;refine⟨e,a',{M with mode:=u'}::cs,w',rfl,hq,?_⟩
      refine .of_steps (.one (fenced_calm A j rfl) hs0) ?_;rcases jFd hsz c4 (w.tape w.drawn (.order b.fn id))with J | J
      ·rw[J];refine .of_steps (.one (fo A j i0 fun f _=>xD none f) (zSh hb G i0 c1 c2 hu hM)) ?_;rw[e0];refine .of_steps (.one (fo A y i1 fun f _=>xD none f) (zSi G i1 c3 hr1')) ?_;rw[e1];exact R
      ·rw[J];refine .of_steps (.one (fo A j i1 fun f _=>xD none f) (zSi G i1 c3 hr1)) ?_;rw[e1];refine .of_steps (.one (fo A j i0 fun f _=>xD none f) (zSh hb G i0 c1 c2 hu hM)) ?_;rw[e0,V];exact R
     ·cases h
   ·cases h
 ·cases h
theorem qVr{x:T}{v:Value}{u M:FrameMode}{f:Nat}{G:List T}{j:List Value}{W:List TO}(hm:P.follows .mixedOrders=true)(hcl:kV P cl)(hyd:xS P yd)(hrn:pU P rn)(h:zTk P cl yd rn x H (.fn f G)=some W)(hM:zFr B (rd w Y) x v u M)
  (hW:Wd P E w0 X F H B w Y Mo) (I:zP B (rd w Y) G j) {R:Ending→FrameMode→World→Prop}
  (hk:∀v w' B' Y' Z,Wd P E w0 X F W B' w' Y' Z→BLe B B'→Le (rd w Y) (rd w' Y')→R (.returned v) M w'):CallsDIn (FF none) 0 P f j.toArray u w R:=by
 simp only[zTk]at h;cases hf:P.funcs[f]? with
 | none=>simp[hf]at h
 | some fn=>
  simp only[hf]at h;split at h
  ·rename_i id ops c hb y;cases V:Nat.ble (ln G) fn.ntmps&&noR c with
   | false=>simp[V]at h
   | true=>
    simp only[V,ze]at h;simp only[zd,qv,qU]at V;have hlen:=I.length;refine callsDIn_of_wpSIn hf hb (xD none f) fun N U hu=>?_;have hF:FrT fn.ntmps {tmps:=j.toArray++Array.replicate (fn.ntmps-j.toArray.size) undef,defers:=[]} (Ev.rest fn.ntmps G) [] B (rd w Y):=by
     refine⟨by simp;omega,?_,rfl⟩
     have:(j.toArray++Array.replicate (fn.ntmps-j.toArray.size) undef).toList=j++List.replicate (fn.ntmps-j.length) undef:=by simp
     rw[this];refine I.app (zIo _ _ ?_);rw[qU];simp;omega
    cases h1:qPy P cl yd ops x ⟨Ev.rest fn.ntmps G,H⟩with
    | none=>simp[h1]at h
    | some s1=>
     simp only[h1]at h;refine wpSIn_seq (zVg hm hcl hyd h1 hu hM hW hF fun a1 w1 B1 Y1 Mo1 g1 g2 g3 g4=>?_);show c.wpSIn (FF none) 0 P _ a1 _ w1;have hres':fn.results=#[]:=j0 (by simpa using y)
     have J:∀(tm:Array Value)(A:World),(results fn tm).run P A= .ok (zBo []) A:=fun tm A=>zOf (by rw[y];rfl)
     have fin:∀(C:S)(e:Ex),rn c s1=some (e,C)→(e= .n∨e= .r)→C.H=W→c.wpSIn (FF none) 0 P (bodyPostS P fn N U R) a1 ({N with mode:=M}::U) w1:=fun C e q he hH=>by
      refine wpSIn_of_wpIn rfl (hrn _ _ _ _ q E w0 X F fn.ntmps a1 [] B1 w1 Y1 Mo1 none _ (.inl rfl) g1 g2 fun a2 A B2 Y2 Mo2 bs z k1 k2 k3 k4=>?_);have z:=z V.2;subst z;subst hH;have hd:a2.defers=[]:=k2.defers;have hq:a2.defers=[]∧∃u2,({N with mode:=M}::U:List Frame)={N with mode:=u2}::U∧∃v,(results fn a2.tmps).run P A= .ok v A∧R (.returned v) u2 A:=
       ⟨hd,M,rfl,_,J _ _,hk _ _ _ _ _ k1 (g3.trans k3) (g4.trans k4)⟩
      rcases he with rfl | rfl
      ·exact hq
      ·exact hq
     cases q:rn c s1 with
     | none=>simp[q]at h
     | some es=>
      obtain⟨e,C⟩:=es;cases e with
      | n=>simp only[q,za]at h;exact fin C _ q (.inl rfl) h
      | r=>simp only[q,za]at h;exact fin C _ q (.inr rfl) h
      | x id=>simp[q]at h
      | p t=>simp[q]at h
  ·cases h
theorem zZj:xS P (fun _ _ _=>none):=fun l f H j e h=>by cases h
theorem zZz(hm:P.follows .mixedOrders=true)(N:pU P rn):kV P (zTt P rn):=by
 intro f az H tv H' h E w0 X F B w Y Mo qQ R hW hA hk;unfold zTt at h;cases hf:P.funcs[f]? with
 | none=>simp[hf]at h
 | some fn=>
  simp only[hf]at h;cases hb:fn.body with
  | none=>simp[hb]at h
  | some c=>
   simp only[hb]at h;cases hl:Nat.ble (ln az) fn.ntmps with
   | false=>simp[hl]at h
   | true=>
    simp only[hl,ze]at h;rw[qv,qU]at hl;have hlen:=hA.length;have hcl:=zCk N;refine pW.1 (y5 (n:=0) hf hb (xD none f) ?_);have hF:FrT fn.ntmps {tmps:=qQ.toArray++Array.replicate (fn.ntmps-qQ.toArray.size) undef,defers:=[]} (Ev.rest fn.ntmps az) [] B (rd w Y):=by
     refine⟨by simp;omega,?_,rfl⟩
     have:(qQ.toArray++Array.replicate (fn.ntmps-qQ.toArray.size) undef).toList=qQ++List.replicate (fn.ntmps-qQ.length) undef:=by simp
     rw[this];refine hA.app (zIo _ _ ?_);rw[qU];simp;omega
    generalize hs0:(⟨Ev.rest fn.ntmps az,H⟩:S)=s0 at h;unfold defE at h;split at h
    ·rename_i c0 id ops c2;cases V:rn c0 s0 with
     | none=>simp[V]at h
     | some es=>
      obtain⟨e0,s1⟩:=es;cases e0 with
      | x id=>simp[V]at h
      | r=>simp[V]at h
      | p t=>simp[V]at h
      | n=>
       simp only[V]at h;cases h1:qAs P (nO P rn) (fun _ _ _=>none) ops ops.toList s1 with
       | none=>simp[h1]at h
       | some gs=>
        obtain⟨g,s2⟩:=gs;simp only[h1]at h;subst hs0;refine wpIn_seq (N _ _ _ _ V E w0 X F fn.ntmps _ [] B w Y Mo none _ (.inl rfl) hW hF fun a1 w1 B1 Y1 Mo1 M _ g1 g2 g3 g4=>?_);refine wpIn_seq (fN ?_);refine zXx hcl zZj ops.toList s1 s2 h1 g1 g2 (BLe.refl B1) (Le.refl _) fun a2 w2 B2 Y2 Mo2 f2 cs2 y hg hcs hen k1 k2 k3 k4=>?_;subst hg;have q:∀(A:S)(x:T)(v:Value)(u u':FrameMode)(C:Act)(I:World)(G:Bm)(J:Hid)(z:List (Nat×Obj))(e:List Nat),u≠.run→qAi P fn A (zTk P (nO P rn) (fun _ _ _=>none) rn x A.H (.fn f2 cs2))=some (tv,H')→zFr G (rd I J) x v u u'→
          Wd P E w0 X (e++(M++F)) A.H G I J z→FrT fn.ntmps C A.L (e.map Gv.mark++({target:= .fn (.func f2) y.toArray,args:=#[]}::(M.map Gv.mark++[]))) G (rd I J)→BLe B2 G→Le (rd w2 Y2) (rd I J)→LeavesInM (FF none) 0 P fn C.tmps R C.defers u I:=fun A x v u u' C I G J z e hu j hM q1 Z q3 q4=>by
         cases hc:zTk P (nO P rn) (fun _ _ _=>none) rn x A.H (.fn f2 cs2)with
         | none=>simp[hc,qAi]at j
         | some H4=>
          simp only[hc,qAi]at j;cases hr:dE P A.L H4 fn.results.toList with
          | none=>simp[hr]at j
          | some ts=>
           simp only[hr,za,z7]at j;obtain⟨rfl,rfl⟩:=j;rw[Z.defers];refine sI hu e q1 fun w4 m1 m2=>?_;have hcs4:=hcs.mono q3 (q4.trans m2);refine⟨hu,.inr ⟨rT none 0,.func f2,y.toArray,f2,y.toArray,rfl,?_,fun g _=>xD none g,?_⟩⟩
           ·simp only[invoke];simpa using nH hen y.toArray w4
           ·refine qVr hm hcl zZj N hc (hM.mono (BLe.refl G) m2) m1 hcs4 fun v5 w5 B5 Y5 Mo5 p1 p2 p3=>?_;show LeavesInM (FF none) 0 P fn C.tmps R (M.map Gv.mark++[]) (settle u') w5;rw[hM.settles];refine sI (by simp) M p1 fun w6 t1 t2=>?_
            have U:zP B5 (rd w6 Y5) A.L C.tmps.toList:=Z.reps.mono p2 ((m2.trans p3).trans t2);obtain⟨vs,z1,z2⟩:=zFo (a:=C) t1 U hr;refine zBe (zOf z1) (hk _ _ _ _ _ t1 (zRn z2) (((g3.trans k3).trans q3).trans p2) ?_);exact((((g4.trans k4).trans q4).trans m2).trans p3).trans t2
        cases W:rn c2 s2 with
        | none=>simp[W,zZw]at h
        | some es=>
         obtain⟨e3,A⟩:=es;refine N _ _ _ _ W E w0 X _ fn.ntmps a2 _ B2 w2 Y2 Mo2 none _ (.inl rfl) k1 k2 fun C I G J z e _ q1 Z q3 q4=>?_;cases e3 with
         | x id=>simp[W,zZw]at h
         | n=>
          simp only[W,zZw]at h;exact q A _ .nilIface .returning .returning C I G J z e (by simp) h (.inl ⟨rfl,rfl,rfl,rfl⟩) q1 Z q3 q4
         | r=>
          simp only[W,zZw]at h;exact q A _ .nilIface .returning .returning C I G J z e (by simp) h (.inl ⟨rfl,rfl,rfl,rfl⟩) q1 Z q3 q4
         | p t=>
          simp only[W,zZw]at h;intro v hv;exact q A t v _ _ C I G J z e (by simp) h (.inr ⟨v,hv,rfl,rfl,rfl⟩) q1 Z q3 q4
    ·cases h
theorem fI(hm:P.follows .mixedOrders=true)(e:pU P rn):kV P (fH P rn):=by
 intro f q H A y h;unfold fH at h;cases j:nO P rn f q H with
 | some z=>
  simp only[j,za]at h;subst h;exact zCk e _ _ _ _ _ j
 | none=>
  simp only[j]at h;exact zZz hm e _ _ _ _ _ h
theorem qAa(G:pU P rn):qCm P (zTu P rn):=by
 intro f y H tv H' h E w0 X F B w Y Mo qQ R hW J hk;unfold zTu at h;cases A:P.funcs[f]? with
 | none=>simp[A]at h
 | some fn=>
  simp only[A]at h;cases z:fn.body with
  | none=>simp[z]at h
  | some c=>
   simp only[z]at h;cases C:Nat.ble (ln y) fn.ntmps with
   | false=>simp[C]at h
   | true=>
    simp only[C,ze]at h;rw[qv,qU]at C;have M:=J.length;refine pW.1 (y5 (n:=0) A z (xD none f) ?_);have Z:FrT fn.ntmps {tmps:=qQ.toArray++Array.replicate (fn.ntmps-qQ.toArray.size) undef,defers:=[]} (Ev.rest fn.ntmps y) [] B (rd w Y):=by
     refine⟨by simp;omega,?_,rfl⟩
     have:(qQ.toArray++Array.replicate (fn.ntmps-qQ.toArray.size) undef).toList=qQ++List.replicate (fn.ntmps-qQ.length) undef:=by simp
     rw[this];refine J.app (zIo _ _ ?_);rw[qU];simp;omega
    cases j:rn c ⟨Ev.rest fn.ntmps y,H⟩with
    | none=>simp[j,qBb]at h
    | some es=>
     obtain⟨e,s⟩:=es;cases e with
     | n=>simp[j,qBb]at h
     | x id=>simp[j,qBb]at h
     | r=>simp[j,qBb]at h
     | p t=>
      simp only[j,qBb,za,z7]at h;obtain⟨rfl,rfl⟩:=h;refine G _ _ _ _ j E w0 X F fn.ntmps _ [] B w Y Mo none _ (.inl rfl) hW Z fun I w' B' Y' q U _ g1 g2 V W v hv=>?_;show LeavesInM (FF none) 0 P fn I.tmps R I.defers (.panicking _) w';rw[g2.defers];refine sI (by simp) U g1 fun S k1 N=>?_
      show R (.panicked _) S;exact hk v S B' Y' q k1 (hv.mono (BLe.refl B') N) V (W.trans N)
def qCo(P:Program)(q:Oo):Prop:=∀H f e j,q H f e=some j→Kn P f e H j H
theorem sS:qCo P noS:=fun H f e j h=>by cases h
theorem qDk{q:Oo}(hm:P.follows .mixedOrders=true)(M:qCo P q)(J:qR P O)(y:pU P rn):kV P (zJw P q O rn):=by
 intro f j H G U h;unfold zJw at h;cases A:q H f j with
 | some z=>
  simp only[A,za,z7]at h;obtain⟨rfl,rfl⟩:=h;exact M _ _ _ _ A
 | none=>
 simp only[A]at h;cases ho:poC O H f j with
 | some z=>
  simp only[ho,za,z7]at h;obtain⟨rfl,rfl⟩:=h;intro E w0 X F B w Y Mo qQ R e I N;exact qIu (k:=H.length) (fun f j G S h=>J f j G S h _) ho e.ow e.ivw e.bNle e.st.lt e.nn I fun v w' C hv=>N v w' B Y Mo (e.call C) hv (BLe.refl B) (C.le Y)
 | none=>simp only[ho]at h;exact fI hm y _ _ _ _ _ h
end
section
variable {P:Program}{H:List TO}{k:Nat}{ρ ρ':Operand→T}
theorem zDa{l:List Operand}(h:∀x∈l,ρ x=ρ' x):l.map ρ=l.map ρ':=List.map_congr_left h
theorem zKi{e:Array (Nat×Operand)}(h:∀x∈(e.toList.map (·.2)),ρ x=ρ' x):evP ρ e=evP ρ' e:=by
 unfold evP;refine List.map_congr_left fun p hp=>?_;rw[h p.2 (wv.2 ⟨p,hp,rfl⟩)]
theorem lV(op:Op)(h:∀x∈op.operands,ρ x=ρ' x):xC P H k ρ op=xC P H k ρ' op:=by
 cases op with
 | build t U=>simp only[xC];rw[zKi (fun x j=>h x (by simpa[Op.operands]using j))]
 | buildSlice t n U=>simp only[xC];rw[zKi (fun x j=>h x (by simpa[Op.operands]using j))]
 | makeFunc fn first C=>simp only[xC];rw[zDa (l:=C.toList) (fun x j=>h x (by simp[Op.operands];exact .inr (by simpa using j))),zDa (l:=first.toList) (fun x j=>h x (by simp[Op.operands];exact .inl (by simpa using j)))]
 | slice t x z f A=>
  have G:∀σ σ':Operand→T,(∀y∈(Op.slice t x z f A).operands,σ y=σ' y)→nR P t (σ x) σ z f A=nR P t (σ' x) σ' z f A:=fun σ σ' h=>by
   have J:=h x (by simp[Op.operands])
   have Z:∀a,z=some a→σ a=σ' a:=fun a e=>h a (by simp[Op.operands,e])
   have h2:∀a,f=some a→σ a=σ' a:=fun a e=>h a (by simp[Op.operands,e])
   have h3:∀a,A=some a→σ a=σ' a:=fun a e=>h a (by simp[Op.operands,e])
   have N:∀d,opt σ d z=opt σ' d z:=fun d=>by cases z<;>simp[opt, *]
   have R:∀d,opt σ d f=opt σ' d f:=fun d=>by cases f<;>simp[opt, *]
   have S:∀y s l u,tQ σ y s l u f A=tQ σ' y s l u f A:=fun y s l u=>by cases A<;>simp[tQ, *]
   simp only[nR,J,N,R,S]
  exact G (fun y=>dn (ρ y)) (fun y=>dn (ρ' y)) fun y M=>ju dn (h y M)
 | call c=>
  simp only[xC,zEi];split
  ·rename_i x t V I W;show _=_;simp only[h x (by simp only[Op.operands,Call.operands,wu];right;rw[←Array.mem_toList_iff,I];simp)]
  ·rfl
 | makeMap t q=>cases q<;>simp[xC]
 | _=>simp only[xC]<;>simp_all [Op.operands]
theorem zIb:∀{l:List Operand},(∀x∈l,ρ x=ρ' x)→zSc ρ l=zSc ρ' l
 | [],_=>rfl
 | x::l,h=>by
  simp only[zSc];rw[h x qS,zIb fun y e=>h y (z6 _ e)]
theorem aU(o:Oper)(h:∀x∈o.op.operands,ρ x=ρ' x):zBg P ρ o=zBg P ρ' o:=by
 unfold zBg;rw[zIb (fun x e=>h x (by simpa using e))]
 cases f:zQw o.op with
 | false=>rfl
 | true=>
  rw[gu o (lN f) fun x e=>(by simp only[sAt,h x e]:sAt ρ x=sAt ρ' x)]
end
section
variable {P:Program}{E:Nat→Prop}{w0:World}{X:Hid}{F:List Nat}{H:List TO}{B B':Bm}{w w':World}{Y Y':Hid}{Mo:List (Nat×Obj)}{o:Oper}{r r':Rd}{n:Nat}{a:Act}{L:List T}{D:List Deferred}{Q:Exit→Act→World→Prop}{K:Act→World→Prop}{po:Po}{ops:Array Oper}{rn:Rn}{cl yd:Cl}{rr:Option Nat}{O:Po}
theorem zKo{j:List TO}:∀(l:List Oper)(seen:List Nat)(f:List TO)(L:List T)(i:Nat)(z:T×Option TO),(sW P po j H ops l seen f L)[i]?=some z→
  ∃o,l[i]?=some o∧xJ P po j H (f++qM ((sW P po j H ops l seen f L).take i)) (kP l ((sW P po j H ops l seen f L).take i) L) ops o=some z
 | [],seen,f,L,i,z,h=>by simp[sW]at h
 | o::l,seen,f,L,i,z,h=>by
  simp only[sW]at h ⊢;cases q:zOh o seen with
  | true=>simp[q]at h
  | false=>
  simp only[q,zf]at h ⊢;cases ho:xJ P po j H f L ops o with
  | none=>simp[ho]at h
  | some y=>
   simp only[ho]at h ⊢;cases i with
   | zero=>simp at h;subst h;exact⟨o,rfl,by simpa[qM,kP]using ho⟩
   | succ i=>
    obtain⟨G,A,C⟩:=zKo l (zSe o seen) (nxH f y.2) (dst o.dst y.1 L) i z (by simpa using h)
    refine⟨G,by simpa using A,?_⟩
    simp only[wz,kP];have e:f++qM (y::(sW P po j H ops l (zSe o seen) (nxH f y.2) (dst o.dst y.1 L)).take i)=nxH f y.2++qM ((sW P po j H ops l (zSe o seen) (nxH f y.2) (dst o.dst y.1 L)).take i):=by
     obtain⟨t,I⟩:=y;cases I<;>simp[qM,nxH]
    rw[e];exact C
theorem zQf{f:List TO}:∀(l:List Oper)(seen:List Nat)(e:List TO)(L:List T),(sW P po f H ops l seen e L).length≤l.length
 | [],_,_,_=>by simp[sW]
 | o::l,seen,e,L=>by
  simp only[sW];cases zOh o seen with
  | true=>simp
  | false=>
   simp only[zf];split
   ·simp;exact zQf l _ _ _
   ·simp
theorem nG(d:Option Nat)(t:T)(L:List T):(dst d t L).length=L.length:=by
 cases d with
 | none=>rfl
 | some d=>simp[dst,yN]
theorem bH:∀(l:List Oper)(rs:List (T×Option TO))(L:List T),(kP l rs L).length=L.length
 | [],_,_=>rfl
 | _::_,[],_=>rfl
 | o::l,z::rs,L=>by rw[kP,bH l rs,nG]
theorem yX{d:Option Nat}{t:T}{L:List T}{x:Nat}(h:d≠some x):nth .u (dst d t L) x=nth .u L x:=by
 cases d with
 | none=>rfl
 | some d=>
  have:d≠x:=fun e=>h (by rw[e])
  simp only[dst,yN,qW,zp,jy this]
theorem zAr{t:T}{L:List T}{x:Nat}(h:x<L.length):nth .u (dst (some x) t L) x=t:=by
 simp[dst,yN,qW,h]
theorem mP:∀(l:List Oper)(rs:List (T×Option TO))(L:List T)(x:Nat),(∀(j:Nat)(o:Oper),j<rs.length→l[j]?=some o→o.dst≠some x)→nth .u (kP l rs L) x=nth .u L x
 | [],_,_,_,_=>rfl
 | _::_,[],_,_,_=>rfl
 | o::l,z::rs,L,x,h=>by
  rw[kP,mP l rs _ x (fun j f e ho=>h (j+1) f (by simpa using e) (by simpa using ho)),yX (h 0 o (by simp) rfl)]
theorem bJ:∀(l:List Oper)(rs:List (T×Option TO))(L:List T)(x i:Nat)(o:Oper)(z:T×Option TO),x<L.length→l[i]?=some o→rs[i]?=some z→o.dst=some x→(∀(j:Nat)(e:Oper),j≠i→j<rs.length→l[j]?=some e→e.dst≠some x)→nth .u (kP l rs L) x=z.1
 | [],_,_,_,i,_,_,_,h,_,_,_=>by simp at h
 | _::_,[],_,_,i,_,_,_,_,h,_,_=>by simp at h
 | G::l,I::rs,L,x,0,o,z,A,ho,f,hd,h=>by
  simp at ho f;subst ho;subst f;rw[kP,mP l rs _ x (fun j e q ho=>h (j+1) e (by simp) (by simpa using q) (by simpa using ho)),hd,zAr A]
 | G::l,I::rs,L,x,i+1,o,z,A,ho,f,hd,h=>by
  rw[kP];exact bJ l rs _ x i o z (by rw[nG];exact A) (by simpa using ho) (by simpa using f) hd fun j e q C y=>h (j+1) e (by simpa using q) (by simpa using C) (by simpa using y)
theorem dQ{t:Nat}:∀{l:List Oper}{i:Nat},wrt t l i=none→∀(j:Nat)(o:Oper),l[j]?=some o→o.dst≠some t
 | [],_,_,j,o,h=>by simp at h
 | q::l,i,h,j,o,ho=>by
  simp only[wrt]at h;cases hd:q.dst with
  | none=>
   simp only[hd]at h;cases j with
   | zero=>simp at ho;subst ho;rw[hd];simp
   | succ j=>exact dQ h j o (by simpa using ho)
  | some d=>
   simp only[hd]at h;cases f:Nat.beq d t with
   | true=>simp[f]at h
   | false=>
    simp only[f,zf]at h;cases j with
    | zero=>simp at ho;subst ho;rw[hd];intro e;cases e;simp at f
    | succ j=>exact dQ h j o (by simpa using ho)
theorem zCe{t:Nat}:∀{l:List Oper}{i q:Nat},wrt t l i=some q→∃(j:Nat)(o:Oper),q=i+j∧l[j]?=some o∧o.dst=some t
 | [],_,_,h=>by simp[wrt]at h
 | z::l,i,q,h=>by
  simp only[wrt]at h;cases hd:z.dst with
  | none=>
   simp only[hd]at h;obtain⟨j,o,A,e,f⟩:=zCe h;exact⟨j+1,o,by omega,by simpa using e,f⟩
  | some d=>
   simp only[hd]at h;cases y:Nat.beq d t with
   | true=>
    simp only[y,ze,za]at h;obtain rfl:=zV y;exact⟨0,z,by omega,rfl,hd⟩
   | false=>
    simp only[y,zf]at h;obtain⟨j,o,A,e,f⟩:=zCe h;exact⟨j+1,o,by omega,by simpa using e,f⟩
theorem zEp{i:Nat}(h:zVp o i=true):∃e∈o.after,Region.binds .any e=true∧e.on=i:=by
 unfold zVp at h;rw[x7]at h;obtain⟨e,he,f⟩:=h;simp only[zd]at f;exact⟨e,by simpa using he,f.1,zV f.2⟩
theorem xU{hd:List Oper}:∀{l:List Oper}{i:Nat},zGn ops hd l i=true→∀(j:Nat)(o:Oper),l[j]?=some o→
  (∀x∈o.op.operands.toList,qHs hd o (i+j) x=true)∧qFl ops hd o (i+j)=true∧∀d,o.dst=some d→∀(q:Nat)(f:Oper),j<q→l[q]?=some f→f.dst≠some d
 | [],_,_,j,o,h=>by simp at h
 | J::l,i,h,j,o,ho=>by
  simp only[zGn,zd]at h;cases j with
  | zero=>
   simp at ho;subst ho;refine⟨fun x I=>qa.1 h.1.1 x I,h.1.2,fun d hd q f G e=>?_⟩;have z:=h.2.1;simp only[hd]at z;cases A:wrt d l 0 with
   | some y=>simp[A]at z
   | none=>
    cases q with
    | zero=>omega
    | succ q=>exact dQ A q f (by simpa using e)
  | succ j=>
   obtain⟨g1,g2,C⟩:=xU h.2.2 j o (by simpa using ho)
   rw[show i+1+j=i+(j+1)by omega]at g1 g2
   refine⟨g1,g2,fun d hd q f G e=>?_⟩;cases q with
   | zero=>omega
   | succ q=>exact C d hd q f (by omega) (by simpa using e)
def zIx(ops:List Oper)(S:Nat→Prop):Prop:=∀(i:Nat)(o:Oper),ops[i]?=some o→S i→∀e∈o.after,Region.binds .any e=true→S e.on
theorem zGy{f:List Nat}{q:Nat}:∀{es:List Edge},(zGx f es).testBit q=true→∃e∈es,Region.binds .any e=true∧(e.on=q∨(nth 0 f e.on).testBit q=true)
 | [],h=>by simp[zGx]at h
 | e::es,h=>by
  unfold zGx at h;cases j:Region.binds .any e with
  | false=>
   simp only[j,zf]at h;obtain⟨y,z,A⟩:=zGy h;exact⟨y,z6 _ z,A⟩
  | true=>
   simp only[j,ze]at h;have h:((2^e.on||| nth 0 f e.on)||| zGx f es).testBit q=true:=h
   rw[uH,uH,Nat.testBit_two_pow]at h;simp only[ko,u4]at h;rcases h with(h | h) | h
   ·exact⟨e,qS,j,.inl h⟩
   ·exact⟨e,qS,j,.inr h⟩
   ·obtain⟨y,z,A⟩:=zGy h;exact⟨y,z6 _ z,A⟩
def qCj(ops:List Oper)(f:List Nat):Prop:=∀(j k:Nat)(o:Oper),f[j]?=some k→ops[j]?=some o→∀q,k.testBit q=true→∀S,zIx ops S→(∀e∈o.after,Region.binds .any e=true→S e.on)→S q
theorem zQu{ops:List Oper}:∀(l:List Oper)(f:List Nat),ops.drop f.length=l→qCj ops f→qCj ops (wZ l f)
 | [],f,_,h=>h
 | o::l,f,hd,h=>by
  unfold wZ;have ho:ops[f.length]?=some o:=by
   have:=ju (·[0]?) hd;simpa using this
  refine zQu l _ ?_ ?_
  ·rw[qo,yg,←f7,hd];rfl
  ·intro j k o' A y q N S J hp;rcases qg j f.length with hlt | W
   ·rw[qh hlt]at A;exact h j k o' A y q N S J hp
   ·have M:j=f.length:=by
     have:=(zh.1 A).1;simp at this;omega
    subst M;rw[ho]at y;cases y;simp at A;subst A;obtain⟨e,he,V,z⟩:=zGy N;have hSe:=hp e (by simpa using he) V
    rcases z with rfl | z
    ·exact hSe
    ·cases G:f[e.on]? with
     | none=>rw[qW,zp,G]at z;simp at z
     | some R=>
      have U:nth 0 f e.on=R:=by rw[qW,zp,G];rfl
      rw[U]at z;have hlt:=(zh.1 G).1;have Z:=(zh.1 ho).1;obtain⟨I,C⟩:∃I,ops[e.on]?=some I:=⟨ops[e.on]'(by omega),by simp⟩
      exact h e.on R I G C q z S J (J e.on I C hSe)
theorem zCy{m:Nat}{f y:List Nat}{o:Oper}{q:Nat}:∀{l:List Oper}{i:Nat},(zBd ops m f y o l i).testBit q=true→∃(j:Nat)(p:Oper),q=i+j∧l[j]?=some p∧vB m f y q p=true∧aD ops o p=true
 | [],i,h=>by simp[zBd]at h
 | p::l,i,h=>by
  unfold zBd at h;cases e:vB m f y i p&&aD ops o p with
  | false=>
   simp only[e,zf]at h;obtain⟨j,C,G,z,A⟩:=zCy h;exact⟨j+1,C,by omega,by simpa using z,A⟩
  | true=>
   simp only[e,ze]at h;have h:(2^i||| zBd ops m f y o l (i+1)).testBit q=true:=h
   rw[uH,Nat.testBit_two_pow]at h;simp only[ko,u4]at h;rcases h with h | h
   ·simp only[zd]at e;subst h;exact⟨0,p,by omega,rfl,e.1,e.2⟩
   ·obtain⟨j,C,G,z,A⟩:=zCy h;exact⟨j+1,C,by omega,by simpa using z,A⟩
theorem zLo{m:Nat}{A C:List Nat}:∀{hd:List Oper}{l:List Nat}{z:List Oper}{i:Nat},zAb ops m A C hd l z i=true→∀(j k:Nat)(o:Oper),l[j]?=some k→z[j]?=some o→∀q,q<i+j→k.testBit q=true∨∃p,(hd++z.take j)[q]?=some p∧vB m A C q p=true∧aD ops o p=true
 | _,[],_,_,_,j,k,o,h,_=>by simp at h
 | _,_::_,[],_,_,j,k,o,_,h=>by simp at h
 | hd,y::l,R::z,i,h,j,k,o,I,ho=>by
  simp only[zAb,zd]at h;cases j with
  | zero=>
   simp at ho I;subst ho;subst I;intro q f;have f:q<i:=by simpa using f
   have J:=h.1;cases N:Nat.beq y (Nat.sub (Nat.pow 2 i) 1)with
   | true=>
    have e:y=2^i-1:=zV N;left;rw[e,uo];simpa using f
   | false=>
    simp only[N,zf]at J;have e:y||| zBd ops m A C R hd 0=2^i-1:=zV J
    have:(y||| zBd ops m A C R hd 0).testBit q=true:=by rw[e,uo];simpa using f
    rw[uH,ko]at this;rcases this with G | G
    ·exact .inl G
    ·obtain⟨j,p,S,M⟩:=zCy G;obtain rfl:q=j:=by omega
     exact .inr ⟨p,by simpa using M.1,M.2⟩
  | succ j=>
   rw[show i+(j+1)=i+1+j by omega]
   intro q f;have:=zLo h.2 j k o (by simpa using I) (by simpa using ho) q f
   simpa using this
theorem zKz:∀(l:List Oper)(e:List Nat),(wZ l e).length=e.length+l.length
 | [],e=>rfl
 | o::l,e=>by unfold wZ;rw[zKz l,qo,yg,qf];omega
theorem zOm{A C:List Nat}{l:List Oper}{m:Nat}(h:zAb ops m A C (l.take m) ((wZ l []).drop m) (l.drop m) m=true)(j:Nat)(o:Oper)(hm:m≤j)(ho:l[j]?=some o)(q:Nat)(J:q<j):
  (∀S:Nat→Prop,zIx l S→(∀e∈o.after,Region.binds .any e=true→S e.on)→S q)∨∃p,l[q]?=some p∧vB m A C q p=true∧aD ops o p=true:=by
 have y:=(zh.1 ho).1;have z:j<(wZ l []).length:=by rw[zKz];simpa using y
 rcases zLo h (j-m) ((wZ l [])[j]) o (by rw[jm,show m+(j-m)=j by omega];simp[z]) (by rw[jm,show m+(j-m)=j by omega];exact ho) q (by omega)with f | ⟨p,f,G⟩
 ·exact .inl fun S I hp=>zQu l [] (by simp) (fun j k o h=>by simp at h) j ((wZ l [])[j]) o (by simp[z]) ho q f S I hp
 ·rw[←List.take_add,qi]at f;split at f
  ·exact .inr ⟨p,f,G⟩
  ·cases f
theorem zPc{o:Oper}:∀{l:List Oper},qCx o l=true→∀p∈l,(yG p||bY p)=true→wfr o p=true
 | [],_,p,hp,_=>by cases hp
 | q::l,h,p,hp,e=>by
  simp only[qCx,zd]at h;rcases qj.1 hp with rfl | hp
  ·have:=h.1;rwa[e,ze]at this
  ·exact zPc h.2 p hp e
theorem qKd:∀{l pre:List Oper}{j q:Nat},inN q (vlE pre l j)=true→∃(k:Nat)(o:Oper),q=j+k∧l[k]?=some o∧yG o=true∧slf o=true∧∀p∈pre++l.take k,(yG p||bY p)=true→wfr o p=true
 | [],pre,j,q,h=>by cases h
 | o::l,pre,j,q,h=>by
  have next:inN q (vlE (pre++[o]) l (j+1))=true→∃(k:Nat)(f:Oper),q=j+k∧(o::l)[k]?=some f∧yG f=true∧slf f=true∧∀p∈pre++(o::l).take k,(yG p||bY p)=true→wfr f p=true:=fun h=>by
   obtain⟨k,f,I,y,z,A,C⟩:=qKd h;exact⟨k+1,f,by omega,by simpa using y,z,A,fun p hp=>C p (by simpa using hp)⟩
  unfold vlE at h;cases e:yG o&&(slf o&&qCx o pre)with
  | false=>simp only[e,zf]at h;exact next h
  | true=>
   simp only[e,ze,inN,ko]at h;simp only[zd]at e;rcases h with h | h
   ·exact⟨0,o,by rw[←zV h];rfl,rfl,e.1,e.2.1,fun p hp G=>zPc e.2.2 p (by simpa using hp) G⟩
   ·exact next h
theorem qQq{m i:Nat}{o:Oper}(h:inN i (vlR ops m)=true)(ho:ops[i]?=some o):yG o=true∧slf o=true∧∀(q:Nat)(p:Oper),q<i→ops[q]?=some p→(yG p||bY p)=true→wfr o p=true:=by
 obtain⟨k,I,j,e,y,z,A⟩:=qKd h;rw[jm,←j]at e;have:ops.toList[i]?=some o:=by simpa using ho
 rw[this]at e;cases e;refine⟨y,z,fun q p G hp C=>A p ?_ C⟩;rw[←List.take_add,←j];have f:ops.toList[q]?=some p:=by simpa using hp
 exact qk (by rw[qi,qn G];exact f)
theorem zXo{d:Nat}{x:Operand}(h:fU d x=true){t:Nat}(e:x= .tmp t):t≠d:=by
 subst e;intro e;subst e;simp[fU]at h
theorem zSn{o p:Oper}(h:wfr o p=true):∀x,o.dst=some x→(∀d,p.dst=some d→x≠d)∧∀t,Operand.tmp t∈p.op.operands→t≠x:=by
 intro x j;unfold wfr at h;rw[j]at h;simp only[zd]at h;refine⟨fun d hd e=>?_,fun t ht=>zXo (qa.1 h.2 _ (by simpa using ht)) rfl⟩
 have f:=h.1;rw[hd]at f;subst e;simp at f
theorem zSg{o:Oper}(h:slf o=true):∀x,o.dst=some x→∀t,Operand.tmp t∈o.op.operands→t≠x:=by
 intro x e t ht;unfold slf at h;rw[e]at h;exact zXo (qa.1 h _ (by simpa using ht)) rfl
theorem zAs:∀{l:List Oper}{i:Nat},zGf l i=true→∀(j:Nat)(o:Oper),l[j]?=some o→∀e∈o.after,Region.binds .any e=true→e.on<i+j
 | [],_,_,j,o,h=>by simp at h
 | q::l,i,h,j,o,ho=>by
  simp only[zGf,zd]at h;cases j with
  | zero=>
   simp at ho;subst ho;intro e he f;have:=qa.1 h.1 e (by simpa using he)
   rw[f]at this;simpa[qz]using this
  | succ j=>rw[show i+(j+1)=i+1+j by omega];exact zAs h.2 j o (by simpa using ho)
theorem zLp:∀l:List T,jR l.length l=some l
 | []=>rfl
 | x::l=>by simp[jR,zLp l]
theorem zNb:∀(l:List Oper)(rs:List (T×Option TO))(L:List T)(i:Nat)(o:Oper)(z:T×Option TO),l[i]?=some o→rs[i]?=some z→(ksE l rs L)[i]?=some (match z.2 with | some _=>pV (kP l (rs.take i) L) o.op | none=>none)
 | [],_,_,_,_,_,h,_=>by simp at h
 | _::_,[],_,_,_,_,_,h=>by simp at h
 | j::l,q::rs,L,0,o,z,e,f=>by simp at e f;subst e;subst f;rfl
 | j::l,q::rs,L,i+1,o,z,e,f=>by
  simp only[ksE,wz,kP];exact zNb l rs _ i o z (by simpa using e) (by simpa using f)
theorem qGe:∀(l:List Oper)(rs:List (T×Option TO))(L:List T),(ksE l rs L).length≤rs.length
 | [],_,_=>by simp[ksE]
 | _::_,[],_=>by simp[ksE]
 | o::l,z::rs,L=>by simp only[ksE,qf];have:=qGe l rs (dst o.dst z.1 L);omega
theorem zGm{q:Nat}:∀{e:List (Option Nat)},zJa q e=true↔some q∈e
 | []=>by simp[zJa]
 | some k::e=>by
  simp only[zJa,ko,qj,za,zGm];exact or_congr ⟨fun h=>(zV h).symm,fun h=>by subst h;simp⟩ Iff.rfl
 | none::e=>by simp[zJa,zGm]
theorem bG{H:List TO}:∀{ks:List (Option Nat)},zNa H ks=true→(∀q,some q∈ks→nth .gone H q= .gone)∧∀(i j q:Nat),ks[i]?=some (some q)→ks[j]?=some (some q)→i=j
 | [],_=>⟨fun q h=>(nomatch h),fun i j q h=>(by simp at h)⟩
 | none::ks,h=>by
  obtain⟨A,C⟩:=bG (ks:=ks) (by simpa[zNa]using h)
  refine⟨fun q z=>A q (by simpa using z),fun i j q f y=>?_⟩
  cases i with
  | zero=>simp at f
  | succ i=>cases j with
   | zero=>simp at y
   | succ j=>rw[C i j q (by simpa using f) (by simpa using y)]
 | some k::ks,h=>by
  simp only[zNa,zd,qq]at h;obtain⟨A,C⟩:=bG (ks:=ks) h.2.2;have G:∀q,q=k→some q∉ks:=fun q e hm=>by
   subst e;have:=h.1;rw[zGm.2 hm]at this;cases this
  refine⟨fun q z=>?_,fun i j q f y=>?_⟩
  ·rcases qj.1 z with e | z
   ·cases e;have:=h.2.1;cases I:nth .gone H k<;>rw[I]at this<;>first | rfl | (simp[qFs]at this)
   ·exact A q z
  ·cases i with
   | zero=>
    simp at f;cases j with
    | zero=>rfl
    | succ j=>exact absurd (qk (by simpa using y:ks[j]?=some (some q))) (G q f.symm)
   | succ i=>cases j with
    | zero=>simp at y;exact absurd (qk (by simpa using f:ks[i]?=some (some q))) (G q y.symm)
    | succ j=>rw[C i j q (by simpa using f) (by simpa using y)]
theorem mO:∀(f:List (Option Nat))(H:List TO)(q:Nat),(xZ f H)[q]?=if some q∈f then H[q]?.map (fun _=>TO.gone)else H[q]?
 | [],H,q=>by simp[xZ]
 | none::f,H,q=>by simp[xZ,mO f H q]
 | some k::f,H,q=>by
  simp only[xZ];rw[mO f,yN];by_cases e:k=q
  ·subst e;by_cases j:k<H.length
   ·simp[j]
   ·have:H[k]?=none:=qb (by omega)
    simp[this,wk,j]
  ·rw[jy e];have:(some q∈some k::f)↔some q∈f:=by
    simp only[qj,za];exact⟨fun h=>h.resolve_left (fun y=>e y.symm),.inr⟩
   by_cases hm:some q∈f
   ·rw[qn hm,qn (this.2 hm)]
   ·rw[qm hm,qm (fun h=>hm (this.1 h))]
theorem zKs(e:List (Option Nat)):∀H:List TO,(xZ e H).length=H.length:=by
 induction e with
 | nil=>intro H;rfl
 | cons k e f=>
  intro H;cases k with
  | none=>simpa[xZ]using f H
  | some q=>simp only[xZ];rw[f,yN];simp
end
section
variable {P:Program}{E:Nat→Prop}{w0:World}{X:Hid}{F:List Nat}{H:List TO}{B B' B0:Bm}{w w':World}{Y Y':Hid}{Mo:List (Nat×Obj)}{o:Oper}{r r' r0:Rd}{n:Nat}{a:Act}{L:List T}{D:List Deferred}{Q:Exit→Act→World→Prop}{K:Act→World→Prop}{po:Po}{ops:Array Oper}{rn:Rn}{cl yd:Cl}{rr:Option Nat}{O:Po}{rs:List (T×Option TO)}{l:Array Bool}
theorem Wd.fill(h:Wd P E w0 X F H B w Y Mo){i g C:Nat}{o:TO}{ob:Obj}(hi:H[i]?=some .gone)(R:B i=none)(U:vO o=true)(hR:RO P B (rd w Y) C o ob)(hg:g=w.heap.size):
  Wd P E w0 X F (H.set i o) (rG B i (g,C)) (w.alloc ob) (zAy w.heap.size Y) ((g,ob)::Mo)∧BLe B (rG B i (g,C)):=by
 subst hg;have hS:=h.st.alloc ob;have z:Le (rd w Y) (rd (w.alloc ob) (zAy w.heap.size Y)):=Le.hide_new ob;have A:BLe B (rG B i (w.heap.size,C)):=BLe.set R;have hlt:i<H.length:=(zh.1 hi).1;have S:∀p∈Mo,p.1≠w.heap.size:=fun p hp e=>by
  have:=(zy.1 (h.st.own p (k9 _ hp)).1).1;omega
 have f:∀(j:Nat)(x:TO),(H.set i o)[j]?=some x→(j≠i∧H[j]?=some x)∨(j=i∧x=o):=fun j x y=>by
  by_cases e:i=j
  ·subst e;rw[kh hlt]at y;cases y;exact .inr ⟨rfl,rfl⟩
  ·rw[jy e]at y;exact .inl ⟨fun e'=>e e'.symm,y⟩
 refine⟨⟨hS,fun j x y V=>?_,fun j cs y=>?_,fun j W=>?_,fun j1 j2 o1 o2 p q M l1 N l2 hp G e=>?_,h.bN,h.iv⟩,A⟩
 ·rcases f j x y with⟨_,y⟩ | ⟨rfl,rfl⟩
  ·obtain⟨b,J,I,g1,g2,g3⟩:=h.ob j x y V;exact⟨b,J,I,A _ _ g1,z6 _ g2,g3.mono A z⟩
  ·exact⟨_,C,ob,qN _ _ _,qS,hR.mono A z⟩
 ·rcases f j _ y with⟨_,y⟩ | ⟨rfl,e⟩
  ·obtain⟨b,J,g1,g2⟩:=h.fz j cs y;exact⟨b,J,A _ _ g1,g2.mono A z⟩
  ·subst e;cases U
 ·simp at W;rw[jY _ _ (by omega)]
  exact h.nn j W
 ·have own:∀(i:Nat)(x:TO)(p:Nat×Nat),H[i]?=some x→vO x=true→B i=some p→p.1≠w.heap.size:=fun i x p y U hp=>by
   obtain⟨b,J,I,M,N,_⟩:=h.ob i x y U;rw[hp]at M;cases M;exact S _ N
  rcases f j1 _ M with⟨n1,Z⟩ | ⟨rfl,rfl⟩<;>rcases f j2 _ N with⟨n2,k2⟩ | ⟨rfl,rfl⟩
  ·rw[jY _ _ n1]at hp;rw[jY _ _ n2]at G;exact h.inj _ _ _ _ _ _ Z l1 k2 l2 hp G e
  ·rw[jY _ _ n1]at hp;rw[qN]at G;cases G;exact absurd e (own _ _ p Z l1 hp)
  ·rw[jY _ _ n2]at G;rw[qN]at hp;cases hp;exact absurd e.symm (own _ _ q k2 l2 G)
  ·rfl
def jB(l:Array Bool):Nat→List (T×Option TO)→List TO
 | _,[]=>[]
 | j,(_,some e)::rs=>(if l.getD j false=true then e else .gone)::jB l (j+1) rs
 | j,(_,none)::rs=>jB l (j+1) rs
noncomputable def pos(rs:List (T×Option TO))(i:Nat):Nat:=(qM (rs.take i)).length
theorem zDd(l:Array Bool):∀(j:Nat)(rs:List (T×Option TO)),(jB l j rs).length=(qM rs).length
 | _,[]=>rfl
 | j,(_,some e)::rs=>by simp[jB,qM,zDd l (j+1) rs]
 | j,(_,none)::rs=>by simp[jB,qM,zDd l (j+1) rs]
theorem wO{t:T}{e:Option TO}{rs:List (T×Option TO)}{i:Nat}:pos ((t,e)::rs) (i+1)=(match e with | some _=>1 | none=>0)+pos rs i:=by
 cases e<;>simp[pos,qM]<;>omega
theorem bR(l:Array Bool):∀(rs:List (T×Option TO))(j i:Nat)(t:T)(e:TO),rs[i]?=some (t,some e)→(jB l j rs)[pos rs i]?=some (if l.getD (j+i) false=true then e else .gone)
 | [],_,_,_,_,h=>by simp at h
 | (q,some f)::rs,j,0,t,e,h=>by simp at h;obtain⟨_,rfl⟩:=h;simp[jB,pos,qM]
 | (q,none)::rs,j,0,t,e,h=>by simp at h
 | (q,some f)::rs,j,i+1,t,e,h=>by
  rw[wO,show j+(i+1)=j+1+i by omega,←bR l rs (j+1) i t e (by simpa using h)]
  simp only[jB];rw[xz 1,uI]
 | (q,none)::rs,j,i+1,t,e,h=>by
  rw[wO,show j+(i+1)=j+1+i by omega,←bR l rs (j+1) i t e (by simpa using h)]
  simp[jB]
theorem bS(l:Array Bool){x:Nat}:∀(rs:List (T×Option TO))(j:Nat),(x<j∨j+rs.length≤x)→jB (l.setIfInBounds x true) j rs=jB l j rs
 | [],_,_=>rfl
 | (t,some e)::rs,j,h=>by
  simp only[jB];rw[bS l rs (j+1) (by simp at h;omega),jg false (by simp at h;omega)]
 | (t,none)::rs,j,h=>by
  simp only[jB];rw[bS l rs (j+1) (by simp at h;omega)]
theorem aV(l:Array Bool):∀(rs:List (T×Option TO))(j i:Nat)(t:T),rs[i]?=some (t,none)→jB (l.setIfInBounds (j+i) true) j rs=jB l j rs
 | [],_,_,_,h=>by simp at h
 | (f,some e)::rs,j,0,t,h=>by simp at h
 | (f,none)::rs,j,0,t,h=>by simp only[jB];exact bS l rs (j+1) (.inl (by omega))
 | (f,some e)::rs,j,i+1,t,h=>by
  simp only[jB];rw[jg false (by omega),show j+(i+1)=j+1+i by omega,aV l rs (j+1) i t (by simpa using h)]
 | (f,none)::rs,j,i+1,t,h=>by
  simp only[jB];rw[show j+(i+1)=j+1+i by omega,aV l rs (j+1) i t (by simpa using h)]
theorem bU(l:Array Bool):∀(rs:List (T×Option TO))(j i:Nat)(t:T)(e:TO),rs[i]?=some (t,some e)→j+i<l.size→jB (l.setIfInBounds (j+i) true) j rs=(jB l j rs).set (pos rs i) e
 | [],_,_,_,_,h,_=>by simp at h
 | (y,some q)::rs,j,0,t,e,h,f=>by
  simp at h;obtain⟨_,rfl⟩:=h;simp only[jB];rw[bS l rs (j+1) (.inl (by omega))]
  have:(l.setIfInBounds (j+0) true).getD j false=true:=by simp at f;simp[f]
  rw[this];simp[pos,qM]
 | (y,none)::rs,j,0,t,e,h,_=>by simp at h
 | (y,some q)::rs,j,i+1,t,e,h,f=>by
  rw[wO,xz 1];simp only[jB,uA];rw[jg false (by omega),show j+(i+1)=j+1+i by omega,bU l rs (j+1) i t e (by simpa using h) (by omega)]
 | (y,none)::rs,j,i+1,t,e,h,f=>by
  rw[wO,ql];simp only[jB];rw[show j+(i+1)=j+1+i by omega,bU l rs (j+1) i t e (by simpa using h) (by omega)]
theorem zDc(l:Array Bool):∀(rs:List (T×Option TO))(j:Nat),(∀(i:Nat)(t:T)(e:TO),rs[i]?=some (t,some e)→l.getD (j+i) false=true)→jB l j rs=qM rs
 | [],_,_=>rfl
 | (t,some e)::rs,j,h=>by
  simp only[jB,qM];rw[zDc l rs (j+1) (fun i t e f=>by rw[show j+1+i=j+(i+1)by omega];exact h (i+1) t e (by simpa using f)),show l.getD j false=true from h 0 t e (by simp)]
  simp
 | (t,none)::rs,j,h=>by
  simp only[jB,qM];exact zDc l rs (j+1) (fun i t e f=>by rw[show j+1+i=j+(i+1)by omega];exact h (i+1) t e (by simpa using f))
theorem zDe(l:Array Bool):∀(rs:List (T×Option TO))(j i:Nat)(x:TO),(∀i,i<rs.length→l.getD (j+i) false=false)→(jB l j rs)[i]?=some x→x= .gone
 | [],_,_,_,_,h=>by simp[jB]at h
 | (t,some y)::rs,j,i,x,e,h=>by
  simp only[jB]at h;have q:=e 0 (by simp)
  rw[yj]at q;rw[q]at h;cases i with
  | zero=>simp at h;exact h.symm
  | succ i=>exact zDe l rs (j+1) i x (fun i f=>by rw[show j+1+i=j+(i+1)by omega];exact e (i+1) (by simpa using f)) (by simpa using h)
 | (t,none)::rs,j,i,x,e,h=>zDe l rs (j+1) i x (fun i f=>by rw[show j+1+i=j+(i+1)by omega];exact e (i+1) (by simpa using f)) (by simpa[jB]using h)
theorem zDf:∀(rs:List (T×Option TO))(i q:Nat)(x:TO),(qM (rs.take i))[q]?=some x→∃j t,j<i∧rs[j]?=some (t,some x)∧pos rs j=q
 | [],_,_,_,h=>by simp[qM]at h
 | _::_,0,_,_,h=>by simp[qM]at h
 | (t,some A)::rs,i+1,0,x,h=>by simp[qM]at h;subst h;exact⟨0,t,by omega,rfl,by simp[pos,qM]⟩
 | (t,some A)::rs,i+1,q+1,x,h=>by
  obtain⟨j,y,z,e,f⟩:=zDf rs i q x (by simpa[qM]using h)
  exact⟨j+1,y,by omega,by simpa using e,by rw[wO,f];simp;omega⟩
 | (t,none)::rs,i+1,q,x,h=>by
  obtain⟨j,y,z,e,f⟩:=zDf rs i q x (by simpa[qM]using h)
  exact⟨j+1,y,by omega,by simpa using e,by rw[wO,f];simp⟩
theorem zVc:∀(rs:List (T×Option TO))(i j:Nat)(t:T)(e:TO),rs[i]?=some (t,some e)→i<j→pos rs i<pos rs j
 | [],_,_,_,_,h,_=>by simp at h
 | _::_,_,0,_,_,_,h=>by omega
 | (q,some f)::rs,0,j+1,t,e,h,_=>by rw[wO];simp[pos,qM];omega
 | (q,none)::rs,0,j+1,t,e,h,_=>by simp at h
 | (q,f)::rs,i+1,j+1,t,e,h,y=>by
  rw[wO,wO];have:=zVc rs i j t e (by simpa using h) (by omega)
  omega
theorem Wd.moveTo(h:Wd P E w0 X F H B w Y Mo){i j:Nat}{x:TO}{p:Nat×Nat}(I:H[i]?=some x)(M:vO x=true)(hp:B i=some p)(Z:H[j]?=some .gone)(V:B j=none):Wd P E w0 X F ((H.set i .gone).set j x) (rG B j p) w Y Mo∧BLe B (rG B j p):=by
 have G:BLe B (rG B j p):=BLe.set V;have hij:i≠j:=fun e=>by subst e;rw[I]at Z;cases Z;cases M
 have J:j<(H.set i TO.gone).length:=by simpa using(zh.1 Z).1
 have W:i<H.length:=(zh.1 I).1;have ng:∀{y:TO},vO y=true→y≠.gone:=fun h e=>by subst e;cases h
 have q:∀(k:Nat)(y:TO),((H.set i .gone).set j x)[k]?=some y→y≠.gone→(H[k]?=some y∧k≠j∧k≠i)∨(k=j∧y=x):=fun k y f hne=>by
  by_cases e:j=k
  ·subst e;rw[kh J]at f;cases f;exact .inr ⟨rfl,rfl⟩
  ·rw[jy e]at f;by_cases S:i=k
   ·subst S;rw[kh W]at f;cases f;exact absurd rfl hne
   ·rw[jy S]at f;exact .inl ⟨f,fun R=>e R.symm,fun R=>S R.symm⟩
 refine⟨⟨h.st,fun k y f N=>?_,fun k cs f=>?_,fun k hk=>?_,fun k1 k2 o1 o2 p1 p2 h1 l1 h2 l2 z A e=>?_,h.bN,h.iv⟩,G⟩
 ·rcases q k y f (ng N)with⟨f,_,_⟩ | ⟨rfl,rfl⟩
  ·obtain⟨b,C,ob,g1,g2,U⟩:=h.ob k y f N;exact⟨b,C,ob,G _ _ g1,g2,U.mono G (Le.refl _)⟩
  ·obtain⟨b,C,ob,g1,g2,U⟩:=h.ob i _ I M;rw[hp]at g1;cases g1;exact⟨b,C,ob,qN _ _ _,g2,U.mono G (Le.refl _)⟩
 ·rcases q k _ f (by simp)with⟨f,_,_⟩ | ⟨rfl,e⟩
  ·obtain⟨b,C,g1,g2⟩:=h.fz k cs f;exact⟨b,C,G _ _ g1,g2.mono G (Le.refl _)⟩
  ·subst e;cases M
 ·simp at hk J;rw[jY _ _ (by omega)]
  exact h.nn k hk
 ·rcases q k1 _ h1 (ng l1)with⟨q1,n1,m1⟩ | ⟨rfl,rfl⟩<;>rcases q k2 _ h2 (ng l2)with⟨q2,n2,m2⟩ | ⟨rfl,rfl⟩
  ·rw[jY _ _ n1]at z;rw[jY _ _ n2]at A;exact h.inj _ _ _ _ _ _ q1 l1 q2 l2 z A e
  ·rw[jY _ _ n1]at z;rw[qN]at A;cases A;exact absurd (h.inj _ _ _ _ _ _ q1 l1 I M z hp e) m1
  ·rw[jY _ _ n2]at A;rw[qN]at z;cases z;exact absurd (h.inj _ _ _ _ _ _ q2 l2 I M A hp e.symm) m2
  ·rfl
def kX(l:Array Bool)(e:List (Option Nat))(q:Nat):Bool:=(List.range e.length).any fun i=>e[i]?==some (some q)&&l.getD i false
def wK(l:Array Bool)(e:List (Option Nat))(H:List TO):List TO:=H.mapIdx fun q x=>if kX l e q=true then .gone else x
theorem yY{l:Array Bool}{f:List (Option Nat)}{q:Nat}:kX l f q=true↔∃i,f[i]?=some (some q)∧l.getD i false=true:=by
 unfold kX;rw[x7];constructor
 ·rintro⟨i,_,h⟩;simp only[zd,gR]at h;exact⟨i,h⟩
 ·rintro⟨i,e,j⟩;refine⟨i,List.mem_range.2 (zh.1 e).1,?_⟩;simp[e,j]
theorem yF(l:Array Bool)(e:List (Option Nat))(H:List TO):(wK l e H).length=H.length:=by simp[wK]
theorem sG(l:Array Bool)(e:List (Option Nat))(H:List TO)(q:Nat):(wK l e H)[q]?=H[q]?.map fun x=>if kX l e q=true then TO.gone else x:=by simp[wK,uX]
theorem zCx{l:Array Bool}{f:List (Option Nat)}{H:List TO}{i:Nat}(h:∀q,f[i]?≠some (some q)):wK (l.setIfInBounds i true) f H=wK l f H:=by
 refine kj fun q=>?_;rw[sG,sG];have:kX (l.setIfInBounds i true) f q=kX l f q:=by
  rw[j5,yY,yY];constructor<;>rintro⟨j,y,z⟩<;>refine⟨j,y,?_⟩
  ·rwa[jg false (fun e=>by subst e;exact h q y)]at z
  ·rwa[jg false (fun e=>by subst e;exact h q y)]
 rw[this]
theorem qGa{l:Array Bool}{f:List (Option Nat)}{H:List TO}{i k:Nat}(h:f[i]?=some (some k))(G:i<l.size):wK (l.setIfInBounds i true) f H=(wK l f H).set k .gone:=by
 refine kj fun q=>?_;rw[sG,wk,yF];by_cases e:k=q
 ·subst e;have:kX (l.setIfInBounds i true) f k=true:=yY.2 ⟨i,h,by simp[G]⟩
  simp only[this,j7];by_cases A:k<H.length
  ·simp[A]
  ·have:H[k]?=none:=qb (by omega)
   simp[A,this]
 ·rw[qm e,sG];have:kX (l.setIfInBounds i true) f q=kX l f q:=by
   rw[j5,yY,yY];constructor<;>rintro⟨j,y,C⟩<;>refine⟨j,y,?_⟩
   ·rwa[jg false (fun z=>by subst z;rw[h]at y;cases y;exact e rfl)]at C
   ·rwa[jg false (fun z=>by subst z;rw[h]at y;cases y;exact e rfl)]
  rw[this]
theorem qAf{l:Array Bool}{e:List (Option Nat)}{H:List TO}(h:∀i,i<e.length→l.getD i false=false):wK l e H=H:=by
 refine kj fun q=>?_;rw[sG];have:kX l e q=false:=by
  cases y:kX l e q with
  | false=>rfl
  | true=>
   obtain⟨i,j,f⟩:=yY.1 y;rw[h i (zh.1 j).1]at f;cases f
 simp[this]
theorem qFz{l:Array Bool}{e:List (Option Nat)}{H:List TO}(h:∀i q,e[i]?=some (some q)→l.getD i false=true):wK l e H=xZ e H:=by
 refine kj fun q=>?_;rw[sG,mO];by_cases hm:some q∈e
 ·obtain⟨i,f⟩:=jr hm;have:kX l e q=true:=yY.2 ⟨i,f,h i q f⟩;rw[qn hm];simp[this]
 ·have:kX l e q=false:=by
   cases y:kX l e q with
   | false=>rfl
   | true=>
    obtain⟨i,j,_⟩:=yY.1 y;exact absurd (qk j) hm
  rw[qm hm];simp[this]
end
end Go.Ev

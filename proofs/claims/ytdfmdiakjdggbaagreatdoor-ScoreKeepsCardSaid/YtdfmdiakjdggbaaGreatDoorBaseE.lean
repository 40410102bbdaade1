import Derived.Test.YtdfmdiakjdggbaaGreatDoorBaseD
set_option linter.unusedVariables false
set_option linter.unusedSimpArgs false
set_option linter.unnecessarySimpa false
namespace Go
abbrev j8:=@Int.ofNat_eq_natCast
abbrev xr:=@Bool.or_eq_false_iff
abbrev x9:=@Nat.lt_succ_self
abbrev ve:=@List.reverse_reverse
abbrev wo:=@Int.negSucc_eq
abbrev y9:=@List.getElem_range
abbrev uU:=@List.set_append_right
abbrev uu:=@List.flatten_cons
abbrev gn:=@Nat.min_le_right
abbrev fy:=@List.countP_replicate
abbrev cG:=@Nat.beq_refl
end Go
namespace Go.Ev
open Go Go.Gv Go.RowKit IntKind
noncomputable section
theorem kU{l:Array Bool}{i:Nat}(h:i<l.size):(l.setIfInBounds i true).getD i false=true:=by simp[h]
def jDm(l:Array Bool)(j:Nat):Prop:=∀i,l.getD i false=decide (i<j)
theorem zRt{ops:Array Oper}{l:Array Bool}{j:Nat}{o:Oper}(y:l.size=ops.size)(ho:ops[j]?=some o)(q:l.getD j false=false)(he:∀e∈o.after,Region.binds .any e=true→l.getD e.on false=true):j∈Region.ready .any ops l:=by
 refine xo.2 ⟨?_,o,ho,he⟩;have:j<l.size:=by rw[y];exact(zy.1 ho).1
 simpa[this]using q
def zOt(l:Array Bool):Nat:=l.toList.countP (fun b=>!b)
theorem zBz{l:Array Bool}{i:Nat}(q:i<l.size)(h:l.getD i false=false):zOt (l.setIfInBounds i true)+1=zOt l:=by
 have y:l[i]=false:=by simpa[q]using h
 have e:i<l.toList.length:=by simpa using q
 have j:l.toList[i]'e=false:=by simpa using y
 unfold zOt;rw[yx,List.countP_set e];have z:0<l.toList.countP (fun b=>!b):=List.countP_pos_iff.2 ⟨_,j3 e,by simp[j]⟩
 simp only[j,qy,j7,zu,xi,wi];omega
theorem zVn{l:Array Bool}{j:Nat}(h:jDm l j)(C:j≤l.size):zOt l=l.size-j:=by
 have e:l.toList=List.replicate j true++List.replicate (l.size-j) false:=by
  apply kj;intro i;rcases qg i l.size with y | y
  ·have z:=h i;have A:l[i]=decide (i<j):=by simpa[y]using z
   rw[ft,Array.getElem?_eq_getElem y,A];rcases qg i j with q | q
   ·rw[qh (by simpa using q)];simp[q]
   ·rw[jk (by simpa using q),List.length_replicate,List.getElem?_replicate,qn (by omega)]
    simp;omega
  ·rw[qb (by simpa using y),qb (by simp;omega)]
 unfold zOt;rw[e,List.countP_append,fy,fy];simp
section
variable {P:Program}{H:List TO}{k:Nat}{ρ ρ':Operand→T}{L L2:List T}{cl yd:Cl}{d:Option Nat}{ops:Array Oper}
theorem zTs(op:Op)(h:∀x∈op.operands,ρ x=ρ' x):zCj P H ρ op=zCj P H ρ' op:=by
 cases op with
 | call c=>
  simp only[zCj];split
  ·rename_i x y t C q e A;have hm:∀z,z∈c.args.toList→z∈(Op.call c).operands:=fun z j=>by
    simp only[Op.operands,Call.operands,wu];right;simpa using j
   rw[h x (hm x (by rw[e];simp)),h y (hm y (by rw[e];simp))]
  ·rename_i x y t C q e A;have hm:∀z,z∈c.args.toList→z∈(Op.call c).operands:=fun z j=>by
    simp only[Op.operands,Call.operands,wu];right;simpa using j
   rw[h x (hm x (by rw[e];simp)),h y (hm y (by rw[e];simp))]
  ·rfl
 | _=>simp only[zCj]<;>simp_all [Op.operands]
def Par(d:Option Nat)(L L2:List T):Option S→Option S→Prop
 | none,none=>True
 | some s,some e=>∃t,s.L=dst d t L∧e.L=dst d t L2∧s.H=e.H
 | _,_=>False
theorem qEw(r:T×Option TO):Par d L L2 (zPw d L H r) (zPw d L2 H r):=by
 obtain⟨t,e⟩:=r;cases e<;>exact⟨t,rfl,rfl,rfl⟩
theorem qEx(r:Option T×List TO):Par d L L2 (zPx d L r) (zPx d L2 r):=by
 obtain⟨t,H'⟩:=r;cases t with
 | some t=>exact⟨t,rfl,rfl,rfl⟩
 | none=>cases d with
  | none=>exact⟨.u,rfl,rfl,rfl⟩
  | some d=>trivial
theorem zGj(r:Option (T×List TO)):Par d L L2 (zCn d L r) (zCn d L2 r):=by
 cases r with
 | none=>trivial
 | some r=>exact⟨r.1,rfl,rfl,rfl⟩
theorem zZs(az:List T)(t:T):Par d L L2 (zEc P cl yd d L H az t) (zEc P cl yd d L2 H az t):=by
 cases t with
 | fn f e=>
  simp only[zEc];cases jX P f with
  | true=>exact zGj _
  | false=>trivial
 | fb f bs=>
  simp only[zEc];cases jX P f with
  | true=>exact zGj _
  | false=>trivial
 | yl l=>exact zGj _
 | _=>trivial
theorem qOs(op:Op)(h:∀x∈op.operands,evO L x=evO L2 x):Par d L L2 (opC P cl yd d L H op) (opC P cl yd d L2 H op):=by
 cases op with
 | call c=>
  simp only[opC];split
  ·rename_i f e;rw[zDa (l:=c.args.toList) (ρ:=evO L) (ρ':=evO L2) (fun x j=>h x (by simp only[Op.operands,Call.operands,wu];right;simpa using j)),h f (by simp[Op.operands,Call.operands,e])]
   exact zZs _ _
  ·trivial
 | _=>trivial
theorem qOu(o:Oper)(h:∀x∈o.op.operands,evO L x=evO L2 x)(C:∀j b p t,o.guard=some (j,b)→ops[j]?=some p→p.dst=some t→nth .u L t=nth .u L2 t):Par o.dst L L2 (opE P cl yd ops o ⟨L,H⟩) (opE P cl yd ops o ⟨L2,H⟩):=by
 have G:kR ops L o=kR ops L2 o:=by
  unfold kR;cases A:o.guard with
  | none=>rfl
  | some I=>
   obtain⟨j,b⟩:=I;cases z:ops[j]? with
   | none=>simp only[z]
   | some p=>
    cases hd:p.dst with
    | none=>simp only[z,hd]
    | some t=>simp only[z,hd,C j b p t A z hd]
 unfold opE;simp only[G];cases kR ops L2 o with
 | none=>trivial
 | some q=>cases q with
  | false=>exact⟨_,rfl,rfl,rfl⟩
  | true=>
   simp only[fZ,lV o.op h];cases xC P H (ln H) (evO L2) o.op with
   | some r=>exact qEw r
   | none=>
    simp only[zRb,zTs o.op h];cases zCj P H (evO L2) o.op with
    | some r=>exact qEx r
    | none=>
     have e:=qOs (P:=P) (cl:=cl) (yd:=yd) (d:=o.dst) (H:=H) o.op h;revert e;cases opC P cl yd o.dst L H o.op with
     | some x=>cases opC P cl yd o.dst L2 H o.op with
      | some y=>exact fun e=>e
      | none=>exact fun e=>e.elim
     | none=>cases opC P cl yd o.dst L2 H o.op with
      | some y=>exact fun e=>e.elim
      | none=>
       intro _;simp only[qHj,aU o h];cases zBg P (evO L2) o with
       | none=>trivial
       | some t=>exact⟨t,rfl,rfl,rfl⟩
def gF(P:Program)(L:List T)(p:Oper)(v:T):Prop:=(∀H k,xC P H k (evO L) p.op=some (v,none))∨((∀H k,xC P H k (evO L) p.op=none)∧zBg P (evO L) p=some v)
theorem fP{p:Oper}(h:yG p=true):p.guard=none:=by
 unfold yG at h;simp only[zd]at h;cases e:p.guard with
 | none=>rfl
 | some x=>rw[e]at h;cases h.1
theorem wL{p:Oper}(h:yG p=true):(match p.op with | .move _ | .assign _ | .pick .. | .nilCheck _ | .binOp .. | .unOp .. | .convert .. | .slice .. | .fieldAddr .. | .field .. | .indexAddr .. | .index .. | .extract .. =>True | _=>False):=by
 unfold yG at h;simp only[zd]at h;have j:=h.2;split at j<;>first | (rename_i e;rw[e];trivial) | cases j
theorem bK{p:Oper}(h:yG p=true)(H H':List TO)(k j:Nat):xC P H k ρ p.op=xC P H' j ρ p.op:=by
 have:=wL h;split at this<;>first | (rename_i e;rw[e];rfl) | exact this.elim
theorem qQ{t:T}{z:T×Option TO}(h:val t=some z):z.2=none:=by unfold val at h;cases h;rfl
theorem jFh{t:Option T}{z:T×Option TO}(h:qBl t=some z):z.2=none:=by
 unfold qBl at h;cases t with
 | none=>cases h
 | some t=>cases h;rfl
theorem qEq{op:BinOp}{t:TypeId}{C G:List T}{z:T×Option TO}(h:eq3 P op t C G=some z):z.2=none:=by
 unfold eq3 at h;split at h
 ·rename_i i a j b k c q I y J A M;cases e:wU P t (.prod (.int i) (.prod (.int j) (.int k)))&&(!P.eqGuardType P.depth t&&(Nat.beq (kind i) (kind q)&&(Nat.beq (kind j) (kind y)&&Nat.beq (kind k) (kind A))))with
  | false=>rw[e]at h;cases h
  | true=>
   rw[e,ze]at h;split at h<;>first | exact qQ h | cases h
 ·cases h
theorem zKv{p:Oper}(h:yG p=true){z:T×Option TO}(j:xC P H k ρ p.op=some z):z.2=none:=by
 have:=wL h;split at this;all_goals try exact this.elim
 all_goals rename_i e;rw[e]at j;simp only[xC]at j
 all_goals try exact qQ j
 all_goals try cases j
 all_goals first | unfold zLi at j | unfold qPm at j | unfold qAx at j | unfold nR tQ at j | unfold lU at j | unfold zNv at j | unfold sK at j | unfold qPj at j | unfold zBm at j
 all_goals repeat' split at j
 all_goals try unfold zHc at j
 all_goals repeat' split at j
 all_goals try simp only[Bool.cond_eq_ite]at j
 all_goals repeat' split at j
 all_goals first | exact qQ j | exact jFh j | exact qEq j | (cases j;done) | (cases j;rfl) | skip
theorem zKu{p:Oper}(h:yG p=true):zCj P H ρ p.op=none:=by
 have:=wL h;split at this<;>first | (rename_i e;rw[e];rfl) | exact this.elim
theorem zQo{p:Oper}(h:yG p=true):opC P cl yd d L H p.op=none:=by
 have:=wL h;split at this<;>first | (rename_i e;rw[e];rfl) | exact this.elim
theorem qNq{p:Oper}(h:yG p=true):kZ p.op=true:=by
 have:=wL h;split at this<;>first | (rename_i e;rw[e];rfl) | exact this.elim
theorem zUh{p:Oper}(h:yG p=true):pV L p.op=none:=by
 have:=wL h;split at this<;>first | (rename_i e;rw[e];rfl) | exact this.elim
theorem zUi{p:Oper}{po:Po}(h:yG p=true):gK P po H L p.op=none:=by
 have:=wL h;split at this<;>first | (rename_i e;rw[e];rfl) | exact this.elim
theorem qAg{p:Oper}{j:List TO}{q:Option Nat}(h:yG p=true):zIy P j H q L p.op=none:=by
 have:=wL h;split at this<;>first | (rename_i e;rw[e];rfl) | exact this.elim
theorem qGf{p:Oper}(h:yG p=true){v:T}(hv:gF P L p v):opE P cl yd ops p ⟨L,H⟩=some ⟨dst p.dst v L,H⟩:=by
 unfold opE kR;rw[fP h];simp only[fZ];rcases hv with hv | ⟨hv,hm⟩
 ·rw[hv];rfl
 ·rw[hv];simp only[zRb,zKu h,zQo h,qHj,hm]
theorem gF.congr{p:Oper}{v:T}(hv:gF P L p v)(h:∀x∈p.op.operands,evO L x=evO L2 x):gF P L2 p v:=by
 rcases hv with hv | ⟨hv,hm⟩
 ·exact .inl fun H k=>by rw[←lV p.op h];exact hv H k
 ·exact .inr ⟨fun H k=>by rw[←lV p.op h];exact hv H k,by rw[←aU p h];exact hm⟩
theorem gF.of_head{p:Oper}{po:Po}{C j q:List TO}{z:T×Option TO}(h:yG p=true)(e:xJ P po C j q L ops p=some z):z.2=none∧gF P L p z.1:=by
 unfold xJ kR at e;rw[fP h]at e;simp only[mK,zUh h]at e;cases hp:xC P j (ln q) (evO L) p.op with
 | some y=>
  simp only[hp,za]at e;subst e;have A:=zKv h hp;refine⟨A,.inl fun H k=>?_⟩;rw[bK h H j k (ln q),hp];obtain⟨t,G⟩:=y;cases A;rfl
 | none=>
  simp only[hp,zUi h,qAg h]at e;cases hm:zBg P (evO L) p with
  | none=>simp[hm]at e
  | some t=>
   simp only[hm,za]at e;subst e;exact⟨rfl,.inr ⟨fun H k=>by rw[bK h H j k (ln q),hp],hm⟩⟩
def sV(P:Program)(H:List TO)(L:List T)(p:Oper)(v:T):Prop:=(yG p=true∧gF P L p v)∨(p.guard=none∧∃t x,p.op= .load t x∧zBn P H t (evO L x)=some (v,none))
theorem sV.opE{p:Oper}{v:T}(hv:sV P H L p v):opE P cl yd ops p ⟨L,H⟩=some ⟨dst p.dst v L,H⟩:=by
 rcases hv with⟨h,hv⟩ | ⟨e,t,x,ho,j⟩
 ·exact qGf h hv
 ·unfold Ev.opE kR;rw[e];simp only[fZ,ho,xC,j];rfl
theorem sV.nd{p:Oper}{v:T}(hv:sV P H L p v):kZ p.op=true:=by
 rcases hv with⟨h,_⟩ | ⟨_,t,x,ho,_⟩
 ·exact qNq h
 ·rw[ho];rfl
theorem sV.congr{p:Oper}{v:T}(hv:sV P H L p v)(h:∀x∈p.op.operands,evO L x=evO L2 x):sV P H L2 p v:=by
 rcases hv with⟨e,hv⟩ | ⟨j,t,x,ho,q⟩
 ·exact .inl ⟨e,hv.congr h⟩
 ·refine .inr ⟨j,t,x,ho,?_⟩;rw[←h x (by rw[ho];simp[Op.operands])]
  exact q
theorem qEs{x y:Value}(h:eqV x y=true):x=y:=by
 unfold eqV at h;split at h
 ·simp only[zd]at h;obtain rfl:=zXf h.1;rw[qFq]at h;simp at h;rw[h]
 ·rename_i a b;cases a<;>cases b<;>first | rfl | cases h
 ·rfl
 ·rfl
 ·rfl
 ·cases h
theorem xA{e:T→T→Bool}(he:∀a b,e a b=true→a=b):∀{l m:List T},fJ e l m=true→l=m
 | [],[],_=>rfl
 | a::l,b::m,h=>by
  simp only[fJ,zd]at h;rw[he a b h.1,xA he h.2]
 | [],_::_,h=>by cases h
 | _::_,[],h=>by cases h
theorem lK:∀(k:Nat)(a b:T),eqU k a b=true→a=b
 | 0,a,b,h=>by cases h
 | k+1,a,b,h=>by
  simp only[eqU]at h;split at h
  ·rw[qEs h]
  ·simp only[zd]at h;rw[zV h.1,xA (lK k) h.2]
  ·simp only[zd]at h;rw[zV h.1,xA (lK k) h.2]
  ·rw[xA (lK k) h]
  ·rw[xA (lK k) h]
  ·rw[xA (lK k) h]
  ·simp only[zd]at h;rw[zV h.1,xA (lK k) h.2]
  ·simp only[zd]at h;rw[zV h.1,zV h.2.1,zV h.2.2.1,zV h.2.2.2]
  ·simp only[zd]at h;rw[zV h.1,zV h.2.1,zV h.2.2]
  ·simp only[zd]at h;rw[zV h.1,zV h.2]
  ·rw[zV h]
  ·cases h
theorem zWy:∀{l:List Nat}{i:Nat},inN i l=true→i∈l
 | [],i,h=>by cases h
 | j::l,i,h=>by
  simp only[inN,ko]at h;rcases h with h | h
  ·rw[zV h];exact qS
  ·exact z6 _ (zWy h)
theorem zKx{s:S}:∀{l:List Nat},nK P ops s l=true→∀i∈l,∀p,ops[i]?=some p→qZp P s p=true
 | [],_,i,e,_,_=>by cases e
 | j::l,h,i,e,p,hp=>by
  simp only[nK,zd]at h;rcases qj.1 e with rfl | e
  ·have:=h.1;rwa[hp]at this
  ·exact zKx h.2 i e p hp
theorem sV.of_ld{s:S}{A:List Nat}{i:Nat}{p:Oper}(hp:ops[i]?=some p)(q:bY p=true)(y:inN i A=true)(C:nK P ops s A=true):∃d,p.dst=some d∧sV P s.H s.L p (nth .u s.L d):=by
 have e:=zKx C i (zWy y) p hp;unfold bY at q;simp only[zd]at q;have j:p.guard=none:=by
  cases j:p.guard with
  | none=>rfl
  | some _=>have:=q.1;rw[j]at this;cases this
 unfold qZp at e;split at e
 ·rename_i t x d ho hd;split at e
  ·rename_i z G;refine⟨d,hd,.inr ⟨j,t,x,ho,?_⟩⟩;rw[G,lK 12 _ _ e]
  ·cases e
 ·cases e
theorem zBc{m:Nat}{j q:List Nat}{i:Nat}{p:Oper}(h:vB m j q i p=true):yG p=true∨(bY p=true∧inN i j=true):=by
 unfold vB at h;cases e:Nat.blt i m with
 | true=>
  simp only[e,ze,ko,zd]at h;exact h
 | false=>
  simp only[e,zf,zd]at h;exact .inl h.1
theorem zKt{m:Nat}{e j:List Nat}{i:Nat}{p:Oper}(h:vB m e j i p=true):(yG p||bY p)=true:=by
 rcases zBc h with h | ⟨h,_⟩<;>rw[h]<;>simp
theorem aS{m:Nat}{q j:List Nat}{i:Nat}{p:Oper}(h:vB m q j i p=true)(hm:m≤i):inN i j=true:=by
 unfold vB at h;have e:Nat.blt i m=false:=by
  cases e:Nat.blt i m with
  | true=>rw[qz]at e;omega
  | false=>rfl
 simp only[e,zf,zd]at h;exact h.2
theorem zLb{d:Nat}{x:Operand}(h:fU d x=true){t:Nat}(e:x= .tmp t):t≠d:=by
 subst e;intro e;subst e;simp[fU]at h
theorem free_spec{o p:Oper}(h:aD ops o p=true):∃d,p.dst=some d∧(∀t,Operand.tmp t∈o.op.operands→t≠d)∧(∀j b g t,o.guard=some (j,b)→ops[j]?=some g→g.dst=some t→t≠d)∧∀x,o.dst=some x→x≠d∧∀t,Operand.tmp t∈p.op.operands→t≠x:=by
 unfold aD at h;cases hd:p.dst with
 | none=>simp[hd]at h
 | some d=>
  simp only[hd,zd]at h;refine⟨d,rfl,fun t ht=>zLb (qa.1 h.1 _ (by simpa using ht)) rfl,fun j b g t y z A=>?_,fun x C=>?_⟩
  ·have q:=h.2.1;rw[y]at q;simp only[z,A]at q;intro e;subst e;simp at q
  ·have q:=h.2.2;rw[C]at q;simp only[zd]at q;refine⟨fun e=>?_,fun t ht=>zLb (qa.1 q.2 _ (by simpa using ht)) rfl⟩
   have:=q.1;subst e;simp at this
end
structure FrL(n:Nat)(a:Act)(L:List T)(D:List Deferred)(B:Bm)(r:Rd)(pd:Nat→Prop):Prop where
 size:a.tmps.size=n
 len:L.length=n
 defers:a.defers=D
 reps:∀(t:Nat)(v:Value),¬pd t→a.tmps[t]?=some v→Rep B r (nth .u L t) v
open Classical in
def nM(pd:Nat→Prop)(L:List T):List T:=L.mapIdx fun t x=>if pd t then .u else x
section
variable {pd:Nat→Prop}{L:List T}{t:Nat}{n:Nat}{a:Act}{D:List Deferred}{B:Bm}{r:Rd}
theorem zGz:(nM pd L).length=L.length:=by simp[nM]
theorem mU(h:¬pd t):nth .u (nM pd L) t=nth .u L t:=by
 simp only[qW,zp,nM,uX,qm h];cases L[t]?<;>rfl
theorem qOg(h:pd t):nth .u (nM pd L) t= .u:=by
 simp only[qW,zp,nM,uX,qn h];cases L[t]?<;>rfl
theorem FrL.mask(h:FrL n a L D B r pd):FrT n a (nM pd L) D B r:=by
 refine⟨h.size,zP.of ?_ fun t x v j hv=>?_,h.defers⟩
 ·rw[zGz,h.len];simpa using h.size.symm
 ·have e:x=nth .u (nM pd L) t:=by rw[qW,zp,j];rfl
  rw[e];by_cases hp:pd t
  ·rw[qOg hp];exact .u
  ·rw[mU hp];exact h.reps t v hp (by simpa using hv)
theorem FrL.all(h:FrL n a L D B r pd)(hp:∀t,¬pd t):FrT n a L D B r:=by
 refine⟨h.size,zP.of ?_ fun t x v j hv=>?_,h.defers⟩
 ·rw[h.len];simpa using h.size.symm
 ·have e:x=nth .u L t:=by rw[qW,zp,j];rfl
  rw[e];exact h.reps t v (hp t) (by simpa using hv)
end
theorem zKy{l:Array Bool}:∀{n:Nat},(∃i,i<n∧l.getD i false=false)→∃i,i<n∧l.getD i false=false∧∀q,q<i→l.getD q false=true:=by
 intro n h;have:∀k,(∀q,q<k→l.getD q false=true)∨∃i,i<k∧l.getD i false=false∧∀q,q<i→l.getD q false=true:=by
  intro k;induction k with
  | zero=>exact .inl fun q C=>by omega
  | succ k z=>
   rcases z with e | ⟨i,e,y,j⟩
   ·cases A:l.getD k false with
    | true=>
     refine .inl fun q C=>?_;rcases gm.1 C with h | rfl
     ·exact e q h
     ·exact A
    | false=>exact .inr ⟨k,by omega,A,e⟩
   ·exact .inr ⟨i,by omega,y,j⟩
 rcases this n with e | e
 ·obtain⟨i,y,j⟩:=h;rw[e i y]at j;cases j
 ·exact e
theorem zIx.set{ops:List Oper}{l:Array Bool}{i:Nat}{o:Oper}(h:zIx ops fun q=>l.getD q false=true)(ho:ops[i]?=some o)(G:i<l.size)(y:∀e∈o.after,Region.binds .any e=true→l.getD e.on false=true):zIx ops fun q=>(l.setIfInBounds i true).getD q false=true:=by
 intro J N j C e he M;show(l.setIfInBounds i true).getD e.on false=true;have C:(l.setIfInBounds i true).getD J false=true:=C;have I:l.getD e.on false=true:=by
  by_cases A:J=i
  ·subst A;rw[ho]at j;cases j;exact y e he M
  ·rw[jg false (Ne.symm A)]at C;exact h J N j C e he M
 by_cases z:e.on=i
 ·rw[z];exact kU G
 ·rw[jg false (Ne.symm z)];exact I
theorem zNc{P:Program}{cl yd:Cl}{ops:Array Oper}{p:Oper}{s q:S}(h:yG p=true)(e:opE P cl yd ops p s=some q):∃v,gF P s.L p v∧q=⟨dst p.dst v s.L,s.H⟩:=by
 unfold opE kR at e;rw[fP h]at e;simp only[fZ]at e;cases hp:xC P s.H (ln s.H) (evO s.L) p.op with
 | some y=>
  simp only[hp]at e;obtain⟨t,z⟩:=y;have j:=zKv h hp;simp only at j;subst j;simp only[zPw,za]at e;exact⟨t,.inl fun H k=>by rw[bK h H s.H k (ln s.H),hp],e.symm⟩
 | none=>
  simp only[hp,zRb,zKu h,zQo h,qHj]at e;cases hm:zBg P (evO s.L) p with
  | none=>simp[hm]at e
  | some t=>
   simp only[hm,za]at e;exact⟨t,.inr ⟨fun H k=>by rw[bK h H s.H k (ln s.H),hp],hm⟩,e.symm⟩
def Pnd(ops:Array Oper)(m:Nat)(l:Array Bool)(t:Nat):Prop:=∃(i:Nat)(p:Oper),i<m∧l.getD i false=false∧ops[i]?=some p∧p.dst=some t
section
variable {P:Program}{E:Nat→Prop}{w0:World}{X:Hid}{F:List Nat}{n:Nat}{D:List Deferred}{ops:Array Oper}{cl yd:Cl}{Q:Exit→Act→World→Prop}{rr:Option Nat}
theorem qQk(hcl:kV P cl)(hyd:xS P yd){ld vl:List Nat}{m:Nat}
  (htl:∀(j:Nat)(o:Oper),m≤j→ops[j]?=some o→∀q,q<j→(∀S:Nat→Prop,zIx ops.toList S→(∀e∈o.after,Region.binds .any e=true→S e.on)→S q)∨∃p,ops[q]?=some p∧vB m ld vl q p=true∧aD ops o p=true)
  (hvl:∀(i:Nat)(o:Oper),ops[i]?=some o→inN i vl=true→yG o=true∧slf o=true∧∀(q:Nat)(p:Oper),q<i→ops[q]?=some p→(yG p||bY p)=true→wfr o p=true)
  (hdp:∀(i:Nat)(p:Oper)(t:Nat),i<m→ops[i]?=some p→Operand.tmp t∈p.op.operands→∀(z:Nat)(V:Oper),z<m→ops[z]?=some V→V.dst=some t→∃e∈p.after,Region.binds .any e=true∧e.on=z)
  (heg:∀(j:Nat)(o:Oper),ops[j]?=some o→∀e∈o.after,Region.binds .any e=true→e.on<j) (hnd:∀o∈ops.toList,kZ o.op=true):
  ∀(fuel j:Nat)(s s':S){a:Act}{w:World}{B:Bm}{Y:Hid}{Mo:List (Nat×Obj)}{l:Array Bool}{r0:Rd}{B0:Bm},dI P cl yd ops ld (ops.toList.drop j) s=some s'→m≤j→zOt l≤fuel→l.size=ops.size→(∀i,j≤i→l.getD i false=false)→zIx ops.toList (fun q=>l.getD q false=true)→
   (∀(i:Nat)(p:Oper),i<j→l.getD i false=false→ops[i]?=some p→vB m ld vl i p=true∧∃v,sV P s.H s.L p v∧∀d,p.dst=some d→d<s.L.length→nth .u s.L d=v)→
   Wd P E w0 X F s.H B w Y Mo→FrL n a s.L D B (rd w Y) (Pnd ops j l)→BLe B0 B→Le r0 (rd w Y)→nY P E w0 X F n D s'.H s'.L B0 r0 (Q .normal)→wpAnyIn (FF rr) 0 P .any ops Q fuel l a w:=by
 have qEk:∀{i:Nat}{o:Oper},ops[i]?=some o→ops.toList.drop i=o::ops.toList.drop (i+1):=fun{i o}y=>by
  have A:i<ops.toList.length:=by rw[xe];exact(zy.1 y).1
  rw[j9 A];congr 1;have:=(zy.1 y).2;simpa using this
 have virt:∀(c j:Nat)(s s':S){a:Act}{w:World}{B:Bm}{Y:Hid}{l:Array Bool},dI P cl yd ops ld (ops.toList.drop j) s=some s'→m≤j→j+c≤ops.size→(∀i,j≤i→l.getD i false=false)→(∀q,j≤q→q<j+c→∃p,ops[q]?=some p∧vB m ld vl q p=true)→
   (∀(i:Nat)(p:Oper),i<j→l.getD i false=false→ops[i]?=some p→vB m ld vl i p=true∧∃v,sV P s.H s.L p v∧∀d,p.dst=some d→d<s.L.length→nth .u s.L d=v)→FrL n a s.L D B (rd w Y) (Pnd ops j l)→
   ∃s2:S,s2.H=s.H∧dI P cl yd ops ld (ops.toList.drop (j+c)) s2=some s'∧(∀(i:Nat)(p:Oper),i<j+c→l.getD i false=false→ops[i]?=some p→vB m ld vl i p=true∧∃v,sV P s2.H s2.L p v∧∀d,p.dst=some d→d<s2.L.length→nth .u s2.L d=v)∧FrL n a s2.L D B (rd w Y) (Pnd ops (j+c) l):=by
  intro c;induction c with
  | zero=>exact fun j s s'{a w B Y l}h _ _ _ _ hp W=>⟨s,rfl,h,hp,W⟩
  | succ c ihc=>
   intro j s s' a w B Y l h hm hsz hT hq hp W;obtain⟨oj,hoj,hlj⟩:=hq j (zq _) (by omega)
   obtain⟨hk,hslf,hw⟩:=hvl j oj hoj (aS hlj hm);rw[qEk hoj]at h;simp only[dI]at h;cases A:opE P cl yd ops oj s with
   | none=>simp[A]at h
   | some s1=>
    simp only[A]at h;cases hld:nK P ops s1 ld with
    | false=>simp[hld]at h
    | true=>
     simp only[hld,ze]at h;obtain⟨v,hv,rfl⟩:=zNc hk A;have hp1:∀(i:Nat)(p:Oper),i<j+1→l.getD i false=false→ops[i]?=some p→vB m ld vl i p=true∧∃v',sV P s.H (dst oj.dst v s.L) p v'∧∀d,p.dst=some d→d<(dst oj.dst v s.L).length→nth .u (dst oj.dst v s.L) d=v':=fun i p hi hl hpi=>by
      rcases qg i j with hij | hij
      ·obtain⟨k4,v',k5,k6⟩:=hp i p hij hl hpi;have hwf:=zSn (hw i p hij hpi (zKt k4));refine⟨k4,v',k5.congr fun x U=>?_,fun d hd hlt=>?_⟩
       ·cases x with
        | tmp t=>
         show nth .u s.L t=nth .u (dst oj.dst v s.L) t;rw[yX fun e=>(hwf t e).2 t U rfl]
        | _=>rfl
       ·rw[nG]at hlt;rw[yX fun e=>(hwf d e).1 d hd rfl];exact k6 d hd hlt
      ·obtain rfl:i=j:=by omega
       rw[hoj]at hpi;cases hpi;refine⟨hlj,v,.inl ⟨hk,hv.congr fun x U=>?_⟩,fun d hd hlt=>?_⟩
       ·cases x with
        | tmp t=>
         show nth .u s.L t=nth .u (dst oj.dst v s.L) t;rw[yX fun e=>zSg hslf t e t U rfl]
        | _=>rfl
       ·rw[nG]at hlt;rw[hd,zAr hlt]
     have Z1:FrL n a (dst oj.dst v s.L) D B (rd w Y) (Pnd ops (j+1) l):=by
      refine⟨W.size,by rw[nG];exact W.len,W.defers,fun t x hnp U=>?_⟩
      have hne:oj.dst≠some t:=fun e=>hnp ⟨j,oj,x9 j,hT j (zq _),hoj,e⟩;rw[yX hne];exact W.reps t x (fun⟨z,V,g1,g2,g3,g4⟩=>hnp ⟨z,V,by omega,g2,g3,g4⟩) U
     obtain⟨s2,e1,e2,e3,e4⟩:=ihc (j+1) ⟨dst oj.dst v s.L,s.H⟩ s' h (by omega) (by omega) (fun i hi=>hT i (by omega)) (fun q A C=>hq q (by omega) (by omega)) hp1 Z1
     have hjc:j+1+c=j+(c+1):=by omega
     rw[hjc]at e2 e3 e4;exact⟨s2,e1,e2,e3,e4⟩
 have done:∀(fuel j:Nat)(s s':S){a:Act}{w:World}{B:Bm}{Y:Hid}{Mo:List (Nat×Obj)}{l:Array Bool}{r0:Rd}{B0:Bm},dI P cl yd ops ld (ops.toList.drop j) s=some s'→m≤j→l.size=ops.size→(∀i,j≤i→l.getD i false=false)→(∀i,i<ops.size→l.getD i false=true)→
   Wd P E w0 X F s.H B w Y Mo→FrL n a s.L D B (rd w Y) (Pnd ops j l)→BLe B0 B→Le r0 (rd w Y)→nY P E w0 X F n D s'.H s'.L B0 r0 (Q .normal)→wpAnyIn (FF rr) 0 P .any ops Q fuel l a w:=fun fuel j s s'{a w B Y Mo l r0 B0}h hmj hl hT G hW W hB hr hk=>by
  have hj:ops.size≤j:=by
   rcases qg j ops.size with A | A
   ·have C:=G j A;rw[hT j (zq _)]at C;cases C
   ·exact A
  rw[uL (by simpa using hj)]at h
  simp only[dI,za]at h;subst h;refine wpAnyIn_done ?_ (hk _ _ _ _ _ hW (W.all fun t ht=>?_) hB hr) fuel
  ·cases he:Region.ready .any ops l with
   | nil=>rfl
   | cons x xs=>
    exfalso;obtain⟨hun,o,ho,_⟩:=xo.1 (by rw[he];exact qS:x∈Region.ready .any ops l)
    have U:=(zy.1 ho).1;have A:=G x U;have hs:x<l.size:=by omega
    simp[hs]at hun A;rw[A]at hun;cases hun
  ·obtain⟨i,p,_,C,J,_⟩:=ht;rw[G i (zy.1 J).1]at C;cases C
 intro fuel;induction fuel with
 | zero=>
  intro j s s' a w B Y Mo l r0 B0 h hm hf hl hT hS hp hW W hB hr hk;refine done 0 j s s' h hm hl hT (fun i hi=>?_) hW W hB hr hk;cases hc:l.getD i false with
  | true=>rfl
  | false=>have:=zBz (by omega) hc;omega
 | succ fuel ih=>
  intro j s s' a w B Y Mo l r0 B0 h hm hf hl hT hS hp hW W hB hr hk;by_cases hex:∃i,i<ops.size∧l.getD i false=false
  ·obtain⟨i0,hi0,hl0,hbelow⟩:=zKy hex;obtain⟨o0,ho0⟩:∃o,ops[i0]?=some o:=⟨ops[i0],by simp[hi0]⟩
   have hr0:i0∈Region.ready .any ops l:=zRt hl ho0 hl0 fun e he hb=>hbelow _ (heg i0 o0 ho0 e he hb);refine⟨fun h0=>absurd (h0▸hr0) (by simp),fun i hi=>?_⟩
   obtain⟨hun,M,y,G⟩:=xo.1 hi;have hil:i<l.size:=by rw[hl];exact(zy.1 y).1
   have hli:l.getD i false=false:=by simpa[hil]using hun
   have hoi':ops.toList[i]?=some M:=by simpa using y
   have hS':=hS.set hoi' hil G;have hu:=zBz hil hli;rcases qg i j with hij0 | hij0
   ·obtain⟨hk1,v,hv,hvd⟩:=hp i M hij0 hli y;have hcg:∀x∈M.op.operands,evO s.L x=evO (nM (Pnd ops j l) s.L) x:=fun x U=>by
     cases x with
     | tmp t=>
      refine(mU fun⟨z,V,A,C,J,N⟩=>?_).symm;have hk1':=(hp z V A C J).1;rcases vj z i with hlt | heq | hgt
      ·rcases qg i m with I | I
       ·obtain⟨e,he,hb,hon⟩:=hdp i M t I y U z V (by omega) J N
        have:=G e he hb;rw[hon,C]at this;cases this
       ·rcases htl i M I y z hlt with q1 | ⟨p2,q1,_,q2⟩
        ·have:=q1 (fun q=>l.getD q false=true) hS G;rw[C]at this;cases this
        ·rw[J]at q1;cases q1;obtain⟨d,f1,f2,_⟩:=free_spec q2;rw[N]at f1;cases f1;exact f2 t U rfl
      ·subst heq;rw[y]at J;cases J;rcases qg z m with I | I
       ·obtain⟨e,he,hb,hon⟩:=hdp z M t I y U z M I y N;have:=heg z M y e he hb;omega
       ·exact zSg (hvl z M y (aS hk1 I)).2.1 t N t U rfl
      ·rcases qg z m with I | I
       ·obtain⟨e,he,hb,hon⟩:=hdp i M t (by omega) y U z V I J N
        have:=heg i M y e he hb;omega
       ·exact(zSn ((hvl z V J (aS hk1' I)).2.2 i M hgt y (zKt hk1)) t N).2 t U rfl
     | _=>rfl
    have hv':=hv.congr hcg;have hlo:=hv'.opE (cl:=cl) (yd:=yd) (ops:=ops);unfold wpOpIn;simp only[y];refine zHh hcl hyd hlo hv'.nd hW W.mask fun a' w' B' Y' Mo' g1 g2 g3 g4=>?_;refine ih j s s' h hm (by omega) (by simpa using hl) (fun q hq=>?_) hS' (fun z p A C J=>?_) g1 ⟨g2.size,W.len,g2.defers,fun t x hnp U=>?_⟩ (hB.trans g3) (hr.trans g4) hk
    ·rw[jg false (by omega)];exact hT q hq
    ·refine hp z p A ?_ J;by_cases e:i=z
     ·subst e;rw[kU hil]at C;cases C
     ·rwa[jg false e]at C
    ·have hR:=g2.reps.getD t;have:a'.tmps.toList.getD t undef=x:=by simp[U]
     rw[this]at hR;by_cases e:M.dst=some t
     ·rcases qg t s.L.length with ht | ht
      ·rw[hvd t e ht];have hR:Rep B' (rd w' Y') (nth .u (dst M.dst v (nM (Pnd ops j l) s.L)) t) x:=hR;rwa[e,zAr (by rw[zGz];exact ht)]at hR
      ·rw[qW,zp,qb ht];exact .u
     ·have hR:Rep B' (rd w' Y') (nth .u (dst M.dst v (nM (Pnd ops j l) s.L)) t) x:=hR;have hmn:¬Pnd ops j l t:=fun⟨z,V,A,C,J,N⟩=>hnp ⟨z,V,A,(by
       rw[jg false (fun e'=>e (by subst e';rw[y]at J;cases J;exact N))]
       exact C),J,N⟩
      rwa[yX e,mU hmn]at hR
   ·have hpass:∀q,j≤q→q<j+(i-j)→∃p,ops[q]?=some p∧vB m ld vl q p=true:=fun q A C=>by
     rcases htl i M (by omega) y q (by omega)with J | ⟨p,J,N,_⟩
     ·have:=J (fun q=>l.getD q false=true) hS G;rw[hT q A]at this;cases this
     ·exact⟨p,J,N⟩
    obtain⟨s,hsH,h,hp,W⟩:=virt (i-j) j s s' h hm (by have:=(zy.1 y).1;omega) hT hpass hp W
    have hji:j+(i-j)=i:=by omega
    rw[hji]at h hp W;rw[←hsH]at hW;have I:m≤i:=by omega
    have hT:∀q,i≤q→l.getD q false=false:=fun q hq=>hT q (by omega)
    have hfree:∀(z:Nat)(V:Oper),z<i→l.getD z false=false→ops[z]?=some V→aD ops M V=true:=fun z V A C J=>by
     rcases htl i M I y z A with N | ⟨p,N,_,h5⟩
     ·have:=N (fun q=>l.getD q false=true) hS G;rw[this]at C;cases C
     ·rw[J]at N;cases N;exact h5
    have hcg:∀x∈M.op.operands,evO s.L x=evO (nM (Pnd ops i l) s.L) x:=fun x U=>by
     cases x with
     | tmp t=>
      refine(mU fun⟨z,V,A,C,J,N⟩=>?_).symm;obtain⟨d,g1,g2,_⟩:=free_spec (hfree z V A C J);rw[N]at g1;cases g1;exact g2 t U rfl
     | _=>rfl
    have hgd:∀j b p t,M.guard=some (j,b)→ops[j]?=some p→p.dst=some t→nth .u s.L t=nth .u (nM (Pnd ops i l) s.L) t:=fun j b p t e1 e2 e3=>by
     refine(mU fun⟨z,V,A,C,J,N⟩=>?_).symm;obtain⟨d,g1,_,g2,_⟩:=free_spec (hfree z V A C J);rw[N]at g1;cases g1;exact g2 j b p t e1 e2 e3 rfl
    rw[qEk y]at h;simp only[dI]at h;cases A:opE P cl yd ops M s with
    | none=>simp[A]at h
    | some s1=>
     simp only[A]at h;cases hld:nK P ops s1 ld with
     | false=>simp[hld]at h
     | true=>
     simp only[hld,ze]at h;have Z:=qOu (P:=P) (cl:=cl) (yd:=yd) (H:=s.H) M hcg hgd;have h1':opE P cl yd ops M ⟨s.L,s.H⟩=some s1:=A;rw[h1']at Z;cases C:opE P cl yd ops M ⟨nM (Pnd ops i l) s.L,s.H⟩with
     | none=>rw[C]at Z;exact Z.elim
     | some s2=>
      rw[C]at Z;obtain⟨tv,e1,e2,e3⟩:=Z;unfold wpOpIn;simp only[y];refine zHh hcl hyd C (hnd M (by simpa using uS y)) hW W.mask fun a' w' B' Y' Mo' g1 g2 g3 g4=>?_
      rw[←e3]at g1;rw[e2]at g2;refine ih (i+1) s1 s' h (by omega) (by omega) (by simpa using hl) (fun q hq=>?_) hS' (fun z p k1 k2 k3=>?_) g1 ⟨g2.size,by rw[e1,nG];exact W.len,g2.defers,fun t x hnp U=>?_⟩ (hB.trans g3) (hr.trans g4) hk
      ·rw[jg false (by omega)];exact hT q (by omega)
      ·have hne:i≠z:=fun e=>by
        subst e;rw[kU hil]at k2;cases k2
       rw[jg false hne]at k2;obtain⟨k4,v,k5,k6⟩:=hp z p (by omega) k2 k3
       obtain⟨d,f1,_,_,f4⟩:=free_spec (hfree z p (by omega) k2 k3)
       rcases zBc k4 with hkk | ⟨hk1,hk2⟩
       case inr=>
        obtain⟨d2,q1,q2⟩:=sV.of_ld k3 hk1 hk2 hld;exact⟨k4,_,q2,fun d' hd' _=>by rw[q1]at hd';cases hd';rfl⟩
       have k5:sV P s1.H s.L p v:=by
        rcases k5 with k5 | ⟨_,t,x,ho,_⟩
        ·exact .inl k5
        ·have:=wL hkk;rw[ho]at this;exact this.elim
       refine⟨k4,v,k5.congr fun x U=>?_,fun d' hd' hlt=>?_⟩
       ·cases x with
        | tmp t=>
         show nth .u s.L t=nth .u s1.L t;rw[e1,yX fun e=>(f4 t e).2 t U rfl]
        | _=>rfl
       ·rw[f1]at hd';cases hd';rw[e1,nG]at hlt;rw[e1,yX fun e=>(f4 d e).1 rfl];exact k6 d f1 hlt
      ·have hR:=g2.reps.getD t;have:a'.tmps.toList.getD t undef=x:=by simp[U]
       rw[this]at hR;rw[e1];by_cases e:M.dst=some t
       ·rcases qg t s.L.length with ht | ht
        ·rw[e,zAr ht];rwa[e,zAr (by rw[zGz];exact ht)]at hR
        ·rw[qW,zp,qb (by rw[nG];exact ht)];exact .u
       ·rw[yX e];have hmn:¬Pnd ops i l t:=fun⟨z,V,A,C,J,N⟩=>hnp ⟨z,V,by omega,(by rw[jg false (by omega)];exact C),J,N⟩
        rwa[yX e,mU hmn]at hR
  ·refine done _ j s s' h hm hl hT (fun i hi=>?_) hW W hB hr hk;cases hc:l.getD i false with
   | true=>rfl
   | false=>exact absurd ⟨i,hi,hc⟩ hex
end
structure Dr where
 P:Program
 E:Nat→Prop
 w0:World
 X:Hid
 F:List Nat
 n:Nat
 D:List Deferred
 ops:Array Oper
 H0:List TO
 Hm:List TO
 L0:List T
 rs:List (T×Option TO)
 B0:Bm
 r0:Rd
def Dr.ks(R:Dr):List (Option Nat):=ksE R.ops.toList R.rs R.L0
structure FrD(R:Dr)(l:Array Bool)(a:Act)(B:Bm)(r:Rd):Prop where
 size:a.tmps.size=R.n
 defers:a.defers=R.D
 done:∀(i:Nat)(z:T×Option TO)(o:Oper)(d:Nat)(v:Value),R.rs[i]?=some z→R.ops[i]?=some o→o.dst=some d→l.getD i false=true→a.tmps[d]?=some v→Rep B r z.1 v
 rest:∀(t:Nat)(v:Value),(∀(i:Nat)(o:Oper),i<R.rs.length→R.ops[i]?=some o→o.dst=some t→l.getD i false=false)→a.tmps[t]?=some v→Rep B r (nth .u R.L0 t) v
structure Inv(R:Dr)(l:Array Bool)(a:Act)(w:World)(B:Bm)(Y:Hid)(Mo:List (Nat×Obj)):Prop where
 wd:Wd R.P R.E R.w0 R.X R.F (wK l R.ks R.H0++jB l 0 R.rs) B w Y Mo
 fr:FrD R l a B (rd w Y)
 ble:BLe R.B0 B
 le:Le R.r0 (rd w Y)
 free:∀(i:Nat)(t:T)(ob:TO),R.rs[i]?=some (t,some ob)→l.getD i false=false→B (R.H0.length+pos R.rs i)=none
 head:∀i,R.rs.length≤i→l.getD i false=false
 lsz:l.size=R.ops.size
structure Ok(R:Dr)(po:Po)(K:Nat):Prop where
 spec:∀(i:Nat)(z:T×Option TO),R.rs[i]?=some z→∃o,R.ops.toList[i]?=some o∧xJ R.P po R.H0 R.Hm (R.Hm++qM (R.rs.take i)) (kP R.ops.toList (R.rs.take i) R.L0) R.ops o=some z
 hd:zGn R.ops (R.ops.toList.take R.rs.length) (R.ops.toList.take R.rs.length) 0=true
 tl:zAb R.ops R.rs.length (aT R.ops R.rs.length) (vlR R.ops R.rs.length) (R.ops.toList.take R.rs.length) ((wZ R.ops.toList []).drop R.rs.length) (R.ops.toList.drop R.rs.length) R.rs.length=true
 eg:zGf R.ops.toList 0=true
 len:R.rs.length≤R.ops.toList.length
 slots:R.L0.length=R.n
 po:∀f az tv nw,po f az=some (tv,nw)→KnP R.P K f az tv nw
 bd:R.H0.length+R.ops.size≤K
 nd:∀o∈R.ops.toList,kZ o.op=true
 hml:R.Hm.length=R.H0.length
 hms:∀(q:Nat)(x:TO),R.Hm[q]?=some x→x≠.gone→R.H0[q]?=some x
 ksg:∀q,some q∈R.ks→nth .gone R.Hm q= .gone
 ks1:∀(i j q:Nat),R.ks[i]?=some (some q)→R.ks[j]?=some (some q)→i=j
section
variable {R:Dr}{po:Po}{k:Nat}{l:Array Bool}{a:Act}{w:World}{B:Bm}{Y:Hid}{Mo:List (Nat×Obj)}{o:Oper}{i:Nat}{rr:Option Nat}{Q:Exit→Act→World→Prop}
theorem Ok.hget(e:Ok R po k){i:Nat}{o:Oper}(j:i<R.rs.length)(ho:R.ops[i]?=some o):(R.ops.toList.take R.rs.length)[i]?=some o:=by
 rw[qi,qn j];simpa using ho
theorem Ok.once(e:Ok R po k){i j:Nat}{o z:Oper}{d:Nat}(A:i<R.rs.length)(C:j<R.rs.length)(ho:R.ops[i]?=some o)(y:R.ops[j]?=some z)(hd:o.dst=some d)(q:z.dst=some d):i=j:=by
 rcases vj i j with h | h | h
 ·exact absurd q ((xU e.hd i o (e.hget A ho)).2.2 d hd j z h (e.hget C y))
 ·exact h
 ·exact absurd hd ((xU e.hd j z (e.hget C y)).2.2 d q i o h (e.hget A ho))
theorem zYu(C:Ok R po k)(M:Inv R l a w B Y Mo)(hi:i<R.rs.length)(ho:R.ops[i]?=some o)(hr:∀e∈o.after,Region.binds .any e=true→l.getD e.on false=true){t:Nat}(N:zDq (R.ops.toList.take R.rs.length) o i t=true):
  Rep B (rd w Y) (nth .u (kP R.ops.toList (R.rs.take i) R.L0) t) (a.tmps.getD t undef):=by
 cases hv:a.tmps[t]? with
 | none=>
  have ht:R.n≤t:=by
   rcases qg t R.n with h | h
   ·rw[←M.fr.size]at h;simp[h]at hv
   ·exact h
  have:nth .u (kP R.ops.toList (R.rs.take i) R.L0) t= .u:=by
   rw[qW,zp,qb (by rw[bH,C.slots];exact ht)];rfl
  rw[this];exact .u
 | some v=>
  have J:a.tmps.getD t undef=v:=by simp[hv]
  rw[J];unfold zDq at N;cases hw:wrt t (R.ops.toList.take R.rs.length) 0 with
  | none=>
   have hn:=dQ hw;have h0:∀(j:Nat)(A:Oper),j<R.rs.length→R.ops[j]?=some A→A.dst≠some t:=fun j A G y=>hn j A (C.hget G y);rw[mP _ _ _ _ (fun j A G y=>h0 j A (by simp at G;omega) (by simpa using y))]
   exact M.fr.rest t v (fun j A G y hd=>absurd hd (h0 j A G y)) hv
  | some j=>
   simp only[hw,zd,qz]at N;obtain⟨j',A,e1,h1,U⟩:=zCe hw;obtain rfl:j=j':=by omega
   have G:j<R.rs.length:=by omega
   have y:R.ops[j]?=some A:=by
    rw[qi,qn G]at h1;simpa using h1
   obtain⟨e,he,hb,Z⟩:=zEp N.2;have I:l.getD j false=true:=by rw[←Z];exact hr e he hb
   obtain⟨z,hz⟩:∃z,R.rs[j]?=some z:=⟨R.rs[j],by simp[G]⟩
   have ht:t<R.L0.length:=by
    have:=(zy.1 hv).1;rw[M.fr.size]at this;rw[C.slots];exact this
   rw[bJ _ _ _ t j A z ht (by simpa using y) (by rw[qi,qn N.1];exact hz) U fun q o2 hq hl W V=>?_]
   ·exact M.fr.done j z A t v hz y U I hv
   ·exact hq (C.once (by simp at hl;omega) G (by simpa using W) y V U)
theorem qPf(j:Ok R po k)(y:Inv R l a w B Y Mo)(q:i<R.rs.length)(ho:R.ops[i]?=some o)(z:∀e∈o.after,Region.binds .any e=true→l.getD e.on false=true)(x:Operand)(A:x∈o.op.operands):
  Rep B (rd w Y) (evO (kP R.ops.toList (R.rs.take i) R.L0) x) (a.eval x):=by
 have h:=(xU j.hd i o (j.hget q ho)).1 x (by simpa using A)
 rw[ql]at h;cases x with
 | tmp t=>exact zYu j y q ho z h
 | const v=>exact zBh v
 | global g=>exact .u
 | func f=>exact Rep.mkFn (vs:=[]) trivial
theorem qKg{ops:Array Oper}{L:List T}{r:Rd}(G:∀j b p t,o.guard=some (j,b)→ops[j]?=some p→p.dst=some t→Rep B r (nth .u L t) (a.tmps.getD t undef)){q:Bool}(h:kR ops L o=some q):Region.wanted o (yielded ops a.tmps)=q:=by
 unfold kR at h;unfold Region.wanted;cases z:o.guard with
 | none=>simp only[z,za]at h;simpa using h
 | some J=>
  obtain⟨j,b⟩:=J;simp only[z]at h;cases A:ops[j]? with
  | none=>simp[A]at h
  | some p=>
   simp only[A]at h;cases hd:p.dst with
   | none=>simp[hd]at h
   | some t=>
    simp only[hd]at h;have C:=G j b p t z A hd;split at h
    ·rename_i c e;rw[e]at C;obtain⟨hv,_⟩:=C.vI;cases ht:a.tmps[t]? with
     | none=>simp[ht]at hv;cases hv
     | some u=>
      have:u= .bool c:=by simpa[ht]using hv
      subst this;simp only[yielded,A,hd,vr,ht];cases h;cases c<;>cases b<;>rfl
    ·cases h
    ·rename_i e;rw[e]at C;obtain⟨M,hv,I⟩:=C.tuI;cases M with
     | cons x y=>exact I.elim
     | nil=>
      cases h;cases ht:a.tmps[t]? with
      | none=>simp only[yielded,A,hd,vr,ht];cases b<;>rfl
      | some u=>
       have:u= .tuple #[]:=by simpa[ht]using hv
       subst this;simp only[yielded,A,hd,vr,ht];cases b<;>rfl
    ·cases h
theorem zQx{l:List TO}{i:Nat}{x:TO}(h:nth .gone l i=x)(j:x≠.gone):l[i]?=some x:=by
 rw[qW,zp]at h;cases e:l[i]? with
 | none=>rw[e]at h;exact absurd h.symm j
 | some y=>rw[e]at h;simp at h;rw[h]
theorem FrD.step(M:Ok R po k){r:Rd}(h:FrD R l a B r)(V:i<R.rs.length)(ho:R.ops[i]?=some o){z:T×Option TO}(hz:R.rs[i]?=some z){v:Value}(hv:Rep B r z.1 v)(G:i<l.size):FrD R (l.setIfInBounds i true) (a.put o.dst v) B r:=by
 have I:∀t,(a.put o.dst v).tmps[t]?=if o.dst=some t∧t<a.tmps.size then some v else a.tmps[t]?:=fun t=>by
  cases hd:o.dst with
  | none=>simp[Act.put]
  | some d=>
   simp only[Act.put,za];by_cases e:d=t
   ·subst e;by_cases hlt:d<a.tmps.size
    ·simp[hlt]
    ·simp[hlt]
   ·rw[xc e,qm (fun h=>e h.1)]
 refine⟨?_,?_,fun j z' U d u A q C W y=>?_,fun t u J y=>?_⟩
 ·cases hd:o.dst<;>simp[Act.put,h.size]
 ·cases hd:o.dst<;>simp[Act.put,h.defers]
 ·rw[I]at y;by_cases e:i=j
  ·subst e;rw[ho]at q;cases q;rw[hz]at A;cases A;split at y
   ·cases y;exact hv
   ·rename_i J;have:=(zy.1 y).1;exact absurd ⟨C,this⟩ J
  ·rw[jg false e]at W;split at y
   ·rename_i N;exact absurd (M.once V (zh.1 A).1 ho q N.1 C) e
   ·exact h.done j z' U d u A q C W y
 ·rw[I]at y;split at y
  ·rename_i N;have:=J i o V ho N.1;rw[kU G]at this;cases this
  ·refine h.rest t u (fun j U Z q hd=>?_) y;have:=J j U Z q hd;by_cases e:i=j
   ·subst e;rw[kU G]at this;cases this
   ·rwa[jg false e]at this
theorem FrD.mono{r r':Rd}{B':Bm}(h:FrD R l a B r)(q:BLe B B')(y:Le r r'):FrD R l a B' r':=
 ⟨h.size,h.defers,fun i z o d v e j A C G=>(h.done i z o d v e j A C G).mono q y,fun t v e j=>(h.rest t v e j).mono q y⟩
theorem Inv.val(C:Ok R po k)(y:Inv R l a w B Y Mo){w':World}(I:Upd E0 w w')(N:i<R.rs.length)(ho:R.ops[i]?=some o){t:T}(A:R.rs[i]?=some (t,none)){v:Value}(hv:Rep B (rd w' Y) t v)(G:i<l.size):
  Inv R (l.setIfInBounds i true) (a.put o.dst v) w' B Y Mo:=by
 have e:=aV l R.rs 0 i t A;rw[ql]at e;have M:wK (l.setIfInBounds i true) R.ks R.H0=wK l R.ks R.H0:=zCx fun q U=>by
  have:=zNb R.ops.toList R.rs R.L0 i o _ (by simpa using ho) A
  rw[show ksE R.ops.toList R.rs R.L0=R.ks from rfl,U]at this;cases this
 refine⟨by rw[e,M];exact y.wd.call I,FrD.step C (y.fr.mono (BLe.refl B) (I.le Y)) N ho A hv G,y.ble,y.le.trans (I.le Y),fun j W V z J=>?_,fun j z=>?_,by simpa using y.lsz⟩
 ·by_cases e:i=j
  ·subst e;rw[A]at z;cases z
  ·rw[jg false e]at J;exact y.free j W V z J
 ·rw[jg false (by omega)];exact y.head j z
theorem Ok.sub0(e:Ok R po k){q:Nat}{x:TO}(h:R.Hm[q]?=some x)(y:x≠.gone):(wK l R.ks R.H0)[q]?=some x:=by
 rw[sG,e.hms q x h y];have:kX l R.ks q=false:=by
  cases A:kX l R.ks q with
  | false=>rfl
  | true=>
   obtain⟨i,z,_⟩:=yY.1 A;have j:=e.ksg q (qk z);rw[qW,zp,h]at j;exact absurd j y
 simp[this]
theorem zYy(e:Ok R po k)(J:Inv R l a w B Y Mo){q:Nat}{x:TO}(I:B q≠none)(h:(R.Hm++qM (R.rs.take i))[q]?=some x)(M:x≠.gone):(wK l R.ks R.H0++jB l 0 R.rs)[q]?=some x:=by
 rcases qg q R.H0.length with hlt | z
 ·rw[qh (by rw[e.hml];exact hlt)]at h
  rw[qh (by rw[yF];exact hlt)]
  exact e.sub0 h M
 ·rw[jk (by rw[e.hml];exact z),e.hml]at h
  rw[jk (by rw[yF];exact z),yF]
  obtain⟨j,G,N,A,C⟩:=zDf _ _ _ _ h;have y:l.getD j false=true:=by
   cases y:l.getD j false with
   | true=>rfl
   | false=>exact absurd (by rw[←J.free j G x A y,C];congr 1;omega) I
  have:=bR l R.rs 0 j G x A;rw[ql,y,C]at this;rw[this];rfl
theorem zFh{H K:List TO}{q:Nat}{x:TO}(j:∀x,H[q]?=some x→x≠.gone→K[q]?=some x)(h:nth .gone H q=x)(e:x≠.gone):nth .gone K q=x:=by
 have:=j x (zQx h e) e;rw[qW,zp,this];rfl
theorem zHf{H K:List TO}{q:Nat}{j:List T}(y:∀x,H[q]?=some x→x≠.gone→K[q]?=some x)(h:mW (nth .gone H q)=some j):mW (nth .gone K q)=some j:=by
 cases e:nth .gone H q with
 | gone=>rw[e]at h;cases h
 | _=>rw[e]at h;rw[zFh y e (by simp)];exact h
theorem qFf{H K:List TO}{t:T}{j:List T}(y:∀(q:Nat)(x:TO),H[q]?=some x→x≠.gone→K[q]?=some x)(h:aF H t=some j):aF K t=some j:=by
 cases t<;>simp only[aF]at h ⊢<;>try exact h
 rename_i i o;cases e:mW (nth .gone H i)with
 | none=>simp[e]at h
 | some x=>rw[zHf (fun x=>y i x) e];rw[e]at h;exact h
theorem zCh{H K:List TO}{s:Nat}{t:T}{v:Value}{z:List T}{r:Rd}(A:Rep B r t v)(G:∀(q:Nat)(x:TO),B q≠none→H[q]?=some x→x≠.gone→K[q]?=some x)(h:qJ H s t=some z):qJ K s t=some z:=by
 cases t with
 | os i o n c=>
  obtain⟨b,C,_,y⟩:=A.osI;simp only[qJ]at h ⊢;cases j:mW (nth .gone H i)with
  | none=>simp[j]at h
  | some x=>rw[zHf (fun x=>G i x (by rw[y];simp)) j];rw[j]at h;exact h
 | og i o n=>
  obtain⟨b,C,c,_,y,_⟩:=A.ogI;simp only[qJ]at h ⊢;cases j:mW (nth .gone H i)with
  | none=>simp[j]at h
  | some x=>rw[zHf (fun x=>G i x (by rw[y];simp)) j];rw[j]at h;exact h
 | v x=>
  unfold qJ at h ⊢;split at h<;>first | exact h | (rename_i e;cases e;done) | skip
  all_goals first | (rename_i e;cases e;simp) | cases h
 | _=>exact h
open Classical in
theorem qAe(A:Ok R po k)(J:Inv R l a w B Y Mo)(hi:i<R.rs.length)(hr:i∈Region.ready .any R.ops l){K:Act→World→Prop}
  (hk:∀a' w' B' Y' Mo',Inv R (l.setIfInBounds i true) a' w' B' Y' Mo'→K a' w'):wpOpIn (FF rr) 0 R.P R.ops Q i K a w:=by
 obtain⟨hun,o,ho,hall⟩:=xo.1 hr;obtain⟨z,hz⟩:∃z,R.rs[i]?=some z:=⟨R.rs[i],by simp[hi]⟩
 obtain⟨o',ho',G⟩:=A.spec i z hz;have W:i<l.size:=by
  rw[J.lsz];exact(zy.1 ho).1
 have hunl:l.getD i false=false:=by simpa[W]using hun
 obtain rfl:o=o':=by
  have h1:R.ops.toList[i]?=some o:=by simpa using ho
  rw[h1]at ho';exact q8 ho'
 have Z:=qPf A J hi ho hall;have hgr:∀j b p t,o.guard=some (j,b)→R.ops[j]?=some p→p.dst=some t→Rep B (rd w Y) (nth .u (kP R.ops.toList (R.rs.take i) R.L0) t) (a.tmps.getD t undef):=fun j b p t h1 h2 h3=>by
  have:=(xU A.hd i o (A.hget hi ho)).2.1;rw[ql]at this;unfold qFl at this;simp only[h1,h2,h3]at this;exact zYu A J hi ho hall this
 unfold wpOpIn;simp only[ho];unfold xJ at G;cases hw:kR R.ops (kP R.ops.toList (R.rs.take i) R.L0) o with
 | none=>simp[hw]at G
 | some q=>
  rw[qKg hgr hw];have hnd:vC o.op=true:=by rw[←zHe];exact A.nd o (by simpa using uS ho)
  cases q with
  | false=>
   simp only[hw,za]at G;subst G;simp only[xi,wi];exact⟨fun f _=>xD rr f,hk _ _ _ _ _ (J.val A (Upd.refl _ _) hi ho hz (Rep.mkTu (vs:=[]) trivial) W)⟩
  | true=>
   simp only[hw]at G;simp only[j7];refine zNs hnd ?_;generalize hL:kP R.ops.toList (R.rs.take i) R.L0=L at G Z;have hρ:∀x,Rep B (rd w Y) ((fun x=>if x∈o.op.operands then evO L x else T.u) x) (a.eval x):=fun x=>by
    by_cases hx:x∈o.op.operands
    ·simp only[hx,j7];exact Z x hx
    ·simp only[hx,wi];exact .u
   have hcg:∀x∈o.op.operands,evO L x=(fun x=>if x∈o.op.operands then evO L x else T.u) x:=fun x hx=>by simp only[hx,j7]
   have hsub:∀(q:Nat)(x:TO),R.Hm[q]?=some x→x≠.gone→(wK l R.ks R.H0++jB l 0 R.rs)[q]?=some x:=fun q x h1 h2=>by
    have hq:q<R.H0.length:=by rw[←A.hml];exact(zh.1 h1).1
    rw[qh (by rw[yF];exact hq)]
    exact A.sub0 h1 h2
   have hH:zIv B (rd w Y) w R.Hm:=⟨fun t v n cs us h1 h2 h3=>J.wd.from h1 (qFf hsub h2) h3,fun q b C ml hB hn=>J.wd.hp.map q b C ml hB (zFh (hsub q) hn (by simp)),fun q b C md hB hn=>J.wd.hp.mapd q b C md hB (zFh (hsub q) hn (by simp))⟩
   unfold mK at G;have hid:ln (R.Hm++qM (R.rs.take i))=R.H0.length+pos R.rs i:=by rw[qU];simp[pos,A.hml]
   have hks:=zNb R.ops.toList R.rs R.L0 i o z (by simpa using ho) hz
   rw[show ksE R.ops.toList R.rs R.L0=R.ks from rfl,hL]at hks;have hgoneAt:∀(t:T)(ob:TO),z=(t,some ob)→(wK l R.ks R.H0++jB l 0 R.rs)[R.H0.length+pos R.rs i]?=some .gone:=fun t ob e=>by
    subst e;rw[jk (by rw[yF];exact vo _ _),yF,j6,bR l R.rs 0 i t ob hz,ql,hunl];rfl
   have hfree:∀(t:T)(ob:TO)(p:Nat×Nat),z=(t,some ob)→∀(j:Nat)(t':T)(ob':TO),R.rs[j]?=some (t',some ob')→(l.setIfInBounds i true).getD j false=false→rG B (R.H0.length+pos R.rs i) p (R.H0.length+pos R.rs j)=none:=fun t ob p e j t' ob' hj hlj=>by
    subst e;have hji:i≠j:=fun e=>by subst e;rw[kU W]at hlj;cases hlj
    rw[jg false hji]at hlj;have hne:R.H0.length+pos R.rs j≠R.H0.length+pos R.rs i:=fun e=>by
     have e':pos R.rs j=pos R.rs i:=by omega
     rcases vj i j with h | h | h
     ·have:=zVc R.rs i j t ob hz h;omega
     ·exact hji h
     ·have:=zVc R.rs j i t' ob' hj h;omega
    rw[jY _ _ hne];exact J.free j t' ob' hj hlj
   have app:∀(kq:Option Nat),(z.2≠none→R.ks[i]?=some kq)→zIy R.P R.H0 (R.Hm++qM (R.rs.take i)) kq L o.op=some z→o.wp R.P a w K Q:=fun kq hkq I=>by
    generalize hopq:o.op=op at I;unfold zIy at I;split at I
    ·rename_i c;split at I
     ·rename_i x y t t' e1 e2 e3;cases htt:Nat.beq t t' with
      | false=>simp[htt]at I
      | true=>
       obtain rfl:=zV htt;simp only[htt,ze]at I;have V:c.args=#[x,y]:=j0 (by simpa using e2)
       have hts:c.argTypes=#[t,t]:=j0 (by simpa using e3)
       have hmem:∀u,u=x∨u=y→u∈o.op.operands:=fun u hu=>by
        rw[hopq];simp only[Op.operands,Call.operands,V,wu];right;rcases hu with rfl | rfl<;>simp
       have hx:=Z x (hmem x (.inl rfl));have hy:=Z y (hmem y (.inr rfl));unfold zZo at I;cases he:elT R.P t with
       | none=>simp[he]at I
       | some e=>
        have ht:=wI he;cases hd:ldT R.P e with
        | none=>simp[he,hd]at I
        | some gs=>
         obtain⟨g,s⟩:=gs;simp only[he,hd]at I;split at I
         ·rename_i us nx vs ny U c2 c4;cases hcond:!Nat.beq ny 0&&(zAj R.P e s (nx+ny)&&vT vs)with
          | false=>simp[hcond]at I
          | true=>
           simp only[hcond,ze,za]at I;simp only[zd,qq]at hcond;obtain⟨hny0,hok1,hok2⟩:=hcond;have hny:0<ny:=by
            rcases jp ny with h0 | h0
            ·subst h0;simp at hny0
            ·exact h0
           have hsubB:∀(q:Nat)(x:TO),B q≠none→(R.Hm++qM (R.rs.take i))[q]?=some x→x≠.gone→(wK l R.ks R.H0++jB l 0 R.rs)[q]?=some x:=fun q x h1 h2 h3=>zYy A J h1 h2 h3;have c2':=zCh hy hsubB c2;have hzz:=I.symm;subst hzz;have hkq:=hkq (by simp)
           have hkill:∀q,kq=some q→kX l R.ks q=false:=fun q e=>by
            subst e;cases hk':kX l R.ks q with
            | false=>rfl
            | true=>
             obtain⟨j,h1,h2⟩:=yY.1 hk';obtain rfl:=A.ks1 i j q hkq h1;rw[hunl]at h2;cases h2
           have hbase:zLu (wK l R.ks R.H0++jB l 0 R.rs) e s nx us (evO L x)∧qJ (wK l R.ks R.H0++jB l 0 R.rs) s (evO L x)=some us.list∧jH (evO L x)=some nx∧
             (∀j o' m,evO L x= .og j o' m→kq=some j∧∃y,(wK l R.ks R.H0++jB l 0 R.rs)[j]?=some y∧vO y=true∧j<R.H0.length)∧(kq≠none→∃j o' m,evO L x= .og j o' m):=by
            unfold qDe at U;cases kq with
            | none=>
             simp only at U;split at U
             ·rename_i e4;cases U;rw[e4];exact⟨.inl ⟨_,rfl⟩,rfl,rfl,fun j o' m h=>(by cases h),fun h=>absurd rfl h⟩
             ·rename_i i' o' m c' e4;cases hb:Nat.beq m c' with
              | false=>simp[hb]at U
              | true=>
               obtain rfl:=zV hb;simp only[hb,ze]at U;cases hcl:qJ (R.Hm++qM (R.rs.take i)) s (evO L x)with
               | none=>simp[hcl]at U
               | some u=>
                simp only[hcl,za,z7]at U;obtain⟨rfl,rfl⟩:=U;have:=zCh hx hsubB hcl;exact⟨.inr (.inr (.inl ⟨_,_,_,e4⟩)),this,by rw[e4];rfl,fun j o' m h=>(by rw[e4]at h;cases h),fun h=>absurd rfl h⟩
             ·rename_i cs m e4;cases hcl:qJ (R.Hm++qM (R.rs.take i)) s (evO L x)with
              | none=>simp[hcl]at U
              | some u=>
               simp only[hcl,za,z7]at U;obtain⟨rfl,rfl⟩:=U;have:=zCh hx hsubB hcl;exact⟨.inr (.inl ⟨_,_,e4⟩),this,by rw[e4];rfl,fun j o' m h=>(by rw[e4]at h;cases h),fun h=>absurd rfl h⟩
             ·cases U
            | some q=>
             simp only at U;split at U
             ·rename_i j o' m e4;cases hb:Nat.beq j q&&Nat.beq o' 0 with
              | false=>simp[hb]at U
              | true=>
               simp only[hb,ze]at U;simp only[zd]at hb;obtain rfl:=zV hb.1;obtain rfl:=zV hb.2;split at U
               ·rename_i cs e' hn;cases hb2:Nat.beq (ln cs.list) (m*s)&&Nat.beq e e' with
                | false=>simp[hb2]at U
                | true=>
                 simp only[hb2,ze,za,z7]at U;obtain⟨rfl,rfl⟩:=U;simp only[zd,qU]at hb2;obtain rfl:=zV hb2.2;have hcs:=zV hb2.1;have hg:=zQx hn (by simp)
                 have hjl:j<R.H0.length:=(zh.1 hg).1;have hg2:(wK l R.ks R.H0++jB l 0 R.rs)[j]?=some (.gro cs e):=by
                  rw[qh (by rw[yF];exact hjl),sG,hg,hkill j rfl];rfl
                 refine⟨.inr (.inr (.inr ⟨j,e4,hg2,hcs⟩)),?_,by rw[e4];rfl,fun j' o' m' h=>?_,fun _=>⟨_,_,_,e4⟩⟩
                 ·rw[e4];simp only[qJ,qW,zp,hg2,jt,mW];have:jR (m*s) (jJ cs.list 0)=some cs.list:=by
                   rw[nE,xd,←hcs];exact zLp cs.list
                  exact this
                 ·rw[e4]at h;cases h;exact⟨rfl,_,hg2,rfl,hjl⟩
               ·cases U
             ·cases U
           obtain⟨hb1,c1',c3,hb4,hb5⟩:=hbase;obtain⟨C,hC1,hC2,hA⟩:=zPe (ty:=o.type) J.wd hx hy ht hd c1' c2' c3 c4 hny hok1 hok2 hb1;have hgo:=hgoneAt _ _ rfl;have hBi:=J.free i _ _ hz hunl;have hlist:∀(x0:TO),(match kq with | some q=>((wK l R.ks R.H0++jB l 0 R.rs).set q .gone).set (R.H0.length+pos R.rs i) (.gro (us.apY (evO L y) vs) e) | none=>(wK l R.ks R.H0++jB l 0 R.rs).set (R.H0.length+pos R.rs i) (.gro (us.apY (evO L y) vs) e))=wK (l.setIfInBounds i true) R.ks R.H0++jB (l.setIfInBounds i true) 0 R.rs:=fun _=>by
            have e1:=bU l R.rs 0 i _ _ hz (by omega)
            rw[ql]at e1;cases kq with
            | none=>
             rw[e1,zCx (fun q hq=>by rw[hkq]at hq;cases hq)]
             show List.set _ _ _=_;rw[uU _ _ (by rw[yF];exact vo _ _),yF,j6]
            | some q=>
             have hq:q<(wK l R.ks R.H0).length:=by
              obtain⟨j,o',m,e4⟩:=hb5 (by simp)
              obtain⟨e5,_,_,_,h⟩:=hb4 _ _ _ e4;cases e5;rw[yF];exact h
             rw[e1,qGa hkq W];show List.set (List.set _ _ _) _ _=_;rw[xT _ _ hq,uU _ _ (by rw[q9,yF];exact vo _ _),q9,yF,j6]
           unfold Oper.wp;rcases hA with⟨obj,M,hRO⟩ | ⟨j,o',n',b,cur,c2'',q,ex,hB,hq,M,hS,N,hRO⟩
           ·rw[fK hopq e1 V hts M];obtain⟨hW',hBl⟩:=(J.wd.call (Upd.drew w)).fill (C:=C) hgo hBi rfl hRO rfl;have N:=((Upd.drew w).le Y).trans (Le.hide_new (w:=w.drew) (Y:=Y) obj);refine hk _ _ (rG B (R.H0.length+pos R.rs i) (w.drew.heap.size,C)) _ ((w.drew.heap.size,obj)::Mo) ⟨?_,FrD.step A (J.fr.mono hBl N) hi ho hz ?_ W,J.ble.trans hBl,J.le.trans N,hfree _ _ _ rfl,fun j hj=>?_,by simpa using J.lsz⟩
            ·rw[←hlist .gone];cases kq with
             | none=>exact hW'
             | some q=>
              have hne:q≠R.H0.length+pos R.rs i:=by
               obtain⟨j,o',m,e4⟩:=hb5 (by simp)
               obtain⟨e5,_,_,_,h⟩:=hb4 _ _ _ e4;cases e5;omega
              have:=hW'.gone q;rwa[List.set_comm _ _ (Ne.symm hne)]at this
            ·rw[hid];exact .og (qN _ _ _) hC1 (fun _=>rfl) hC2
            ·rw[jg false (by omega)];exact J.head j hj
           ·obtain⟨rfl,x0,hj,hlx,hjl⟩:=hb4 _ _ _ ex;rw[fK hopq e1 V hts M];have hW2:=J.wd.set hj hlx hB hq hS N (fun cs e=>by cases e) (fun _=>hRO)
            have hjl2:j<(wK l R.ks R.H0++jB l 0 R.rs).length:=(zh.1 hj).1;have hne:j≠R.H0.length+pos R.rs i:=by omega
            obtain⟨hW3,hB3⟩:=hW2.moveTo (i:=j) (j:=R.H0.length+pos R.rs i) (x:= .gro (us.apY (evO L y) vs) e) (by rw[kh hjl2]) rfl hB (by rw[jy hne];exact hgo) hBi
            rw[cF]at hW3;refine hk _ _ (rG B (R.H0.length+pos R.rs i) (b,C)) _ (Mo.set q (b,.cells c2'' e (0,0))) ⟨?_,FrD.step A (J.fr.mono hB3 N) hi ho hz ?_ W,J.ble.trans hB3,J.le.trans N,hfree _ _ _ rfl,fun j hj=>?_,by simpa using J.lsz⟩
            ·rw[←hlist .gone];exact hW3
            ·rw[hid];exact .og (qN _ _ _) hC1 (fun _=>rfl) hC2
            ·rw[jg false (by omega)];exact J.head j hj
         ·cases I
     ·cases I
    ·cases I
   cases hau:pV L o.op with
   | some q=>
    simp only[hau]at G;exact app (some q) (fun hne=>by
     rw[hks,hau];cases hz2:z.2 with
     | none=>exact absurd hz2 hne
     | some _=>rfl) G
   | none=>
   simp only[hau]at G;cases hp:xC R.P R.Hm (ln (R.Hm++qM (R.rs.take i))) (evO L) o.op with
   | some y=>
    simp only[hp,za]at G;subst G;rw[lV o.op hcg]at hp;have hA:=zYj hH hρ hp;obtain⟨t,ob⟩:=y;unfold Oper.wp;cases ob with
    | none=>
     obtain⟨v,M,hR⟩:=hA;rw[M];exact hk _ _ _ _ _ (J.val A (Upd.refl _ _) hi ho hz hR W)
    | some ob=>
     obtain⟨C,obj,vf,M,hl,hR,hv⟩:=hA;rw[M];rw[hid]at hv;obtain⟨hW',hB⟩:=J.wd.fill (hgoneAt t ob rfl) (J.free i t ob hz hunl) hl hR rfl;have N:=Le.hide_new (w:=w) (Y:=Y) obj;refine hk _ _ _ _ ((w.heap.size,obj)::Mo) ⟨?_,FrD.step A (J.fr.mono hB N) hi ho hz ((hv _).mono (BLe.refl _) N) W,J.ble.trans hB,J.le.trans N,hfree t ob _ rfl,fun j hj=>?_,by simpa using J.lsz⟩
     ·have e:=bU l R.rs 0 i t ob hz (by omega)
      rw[ql]at e;rw[e,zCx (fun q hq=>by rw[hks,hau]at hq;cases hq)]
      rw[uU _ _ (by rw[yF];exact vo _ _),yF,j6]at hW'
      exact hW'
     ·rw[jg false (by omega)];exact J.head j hj
   | none=>
    simp only[hp]at G;cases hc:gK R.P po (R.Hm++qM (R.rs.take i)) L o.op with
    | some t=>
     simp only[hc,za]at G;subst G;generalize hopq:o.op=op at hc;unfold gK at hc;split at hc
     ·rename_i c;split at hc
      ·rename_i fx e1;split at hc
       ·rename_i f cs e2;cases hen:jX R.P f with
        | false=>simp[hen]at hc
        | true=>
         simp only[hen,ze]at hc;have hmem:∀x,x=fx∨x∈c.args.toList→x∈o.op.operands:=fun x hx=>by
          rw[hopq];simp only[Op.operands,Call.operands,e1,wu];rcases hx with rfl | hx
          ·left;simp
          ·right;simpa using hx
         have hfx:=Z fx (hmem fx (.inl rfl));rw[e2]at hfx;obtain⟨caps,hv,hcs⟩:=hfx.fnI;have V:zP B (rd w Y) (c.args.toList.map (evO L)) (c.args.toList.map a.eval):=by
          have:∀l:List Operand,(∀x∈l,x∈o.op.operands)→zP B (rd w Y) (l.map (evO L)) (l.map a.eval):=by
           intro l;induction l with
           | nil=>intro _;trivial
           | cons x l ih=>exact fun h=>⟨Z x (h x qS),ih fun y hy=>h y (z6 _ hy)⟩
          exact this _ fun x hx=>hmem x (.inr hx)
         unfold Oper.wp;rw[zCm hopq e1 hv hen w];have hOw:Ow B (rd w Y) w (fun b=>∃ob,(b,ob)∈Mo) (R.Hm++qM (R.rs.take i)):=fun q b C cs hB hown=>by
          refine J.wd.ow q b C cs hB ?_;cases hx:nth .gone (R.Hm++qM (R.rs.take i)) q with
          | gone=>rw[hx]at hown;cases hown
          | _=>rw[hx]at hown;rw[zFh (fun x h1 h2=>zYy A J (by rw[hB];simp) h1 h2) hx (by simp)];exact hown
         refine qIu (k:=k) A.po hc hOw J.wd.ivw J.wd.bNle J.wd.st.lt (fun q hq=>?_) (V.app hcs) fun v w' hu hv=>?_
         ·refine J.wd.nn q ?_;rw[qo,zDd,yF];have N:∀rs:List (T×Option TO),(qM rs).length≤rs.length:=by
           intro rs;induction rs with
           | nil=>simp[qM]
           | cons z rs ih=>obtain⟨t,ob⟩:=z;cases ob<;>simp[qM]<;>omega
          have h1:=N R.rs;have h2:=A.len;have h3:=A.bd;simp at h2;omega
         ·exact hk _ _ _ _ _ (J.val A hu hi ho hz hv W)
       ·cases hc
      ·cases hc
     ·cases hc
    | none=>
     simp only[hc]at G;cases I:zIy R.P R.H0 (R.Hm++qM (R.rs.take i)) none L o.op with
     | some y=>
      simp only[I,za]at G;subst G;exact app none (fun _=>by
       rw[hks,hau];cases y.2<;>rfl) I
     | none=>
     simp only[I]at G;cases hm:zBg R.P (evO L) o with
     | none=>simp[hm]at G
     | some t=>
      simp only[hm,za]at G;subst G;rw[aU o hcg]at hm;obtain⟨v,M,hR⟩:=qGp (P:=R.P) (w:=w) (ρ:=a.eval) (k:=0) hρ hm;unfold Oper.wp;rw[M];exact hk _ _ _ _ _ (J.val A (Upd.refl _ _) hi ho hz hR W)
theorem zUz{P:Program}{H:List TO}{t:TypeId}{x:T}{z:T×Option TO}(h:zBn P H t x=some z):z.2=none:=by
 unfold zBn at h
 repeat' split at h
 all_goals try simp only[Bool.cond_eq_ite]at h
 all_goals repeat' split at h
 all_goals first | exact qQ h | cases h
theorem qNt{P:Program}{po:Po}{A C j:List TO}{L:List T}{ops:Array Oper}{p:Oper}{z:T×Option TO}(h:bY p=true)(e:xJ P po A C j L ops p=some z):z.2=none:=by
 unfold bY at h;simp only[zd]at h;have q:p.guard=none:=by
  cases q:p.guard with
  | none=>rfl
  | some _=>have:=h.1;rw[q]at this;cases this
 have G:=h.2;split at G
 ·rename_i t x ho;unfold xJ kR at e;rw[q]at e;have J:pV L p.op=none:=by rw[ho];rfl
  simp only[mK,J]at e;cases hp:xC P C (ln j) (evO L) p.op with
  | some y=>
   simp only[hp,za]at e;subst e;rw[ho]at hp;simp only[xC]at hp;exact zUz hp
  | none=>
   have I:gK P po j L p.op=none:=by rw[ho];rfl
   have ha:zIy P A j none L p.op=none:=by rw[ho];rfl
   simp only[hp,I,ha]at e;cases hm:zBg P (evO L) p with
   | none=>simp[hm]at e
   | some t=>simp only[hm,za]at e;subst e;rfl
 ·cases G
theorem zKg{P:Program}{E:Nat→Prop}{w0:World}{X:Hid}{F:List Nat}{n:Nat}{D:List Deferred}{ops:Array Oper}{cl yd:Cl}{po:Po}{id:Nat}(hm:P.follows .mixedOrders=true){s s':S}(hpo:∀f az tv nw,po f az=some (tv,nw)→KnP P (ln s.H+ops.size) f az tv nw)(hcl:kV P cl)(hyd:xS P yd)
  (hok:fV ops=true) (hW:Wd P E w0 X F s.H B w Y Mo) (hF:FrT n a s.L D B (rd w Y)) (hk:nY P E w0 X F n D s'.H s'.L B (rd w Y) (Q .normal)) (Hm:List TO) (A:List (T×Option TO)) (hml:Hm.length=s.H.length) (hms:∀(q:Nat)(x:TO),Hm[q]?=some x→x≠.gone→s.H[q]?=some x)
  (hrs:∀(i:Nat)(z:T×Option TO),A[i]?=some z→∃o,ops.toList[i]?=some o∧xJ P po s.H Hm (Hm++qM (A.take i)) (kP ops.toList (A.take i) s.L) ops o=some z) (hlen:A.length≤ops.toList.length) (h:drF P cl yd ops s Hm A=some s'):(Code.region id ops true).wpIn (FF rr) 0 P Q a w:=by
 unfold drF at h;cases hd:qEj ops (ln A)&&zNa Hm (ksE ops.toList A s.L)with
 | false=>simp[hd]at h
 | true=>
 simp only[hd,ze]at h;simp only[zd]at hd;obtain⟨hd,hks⟩:=hd;unfold qEj at hd;simp only[zd]at hd;rw[qU]at hd h;unfold jCx at h;cases hld0:nK P ops ⟨kP ops.toList A s.L,xZ (ksE ops.toList A s.L) s.H++qM A⟩ (aT ops A.length)with
 | false=>simp[hld0]at h
 | true=>
 simp only[hld0,ze]at h;have hnd:∀o∈ops.toList,kZ o.op=true:=fun o ho=>qa.1 hok o ho;have G:Ok ⟨P,E,w0,X,F,n,D,ops,s.H,Hm,s.L,A,B,rd w Y⟩ po (ln s.H+ops.size):=by
  refine⟨fun i z W=>?_,hd.1,hd.2.1,hd.2.2,?_,?_,?_,?_,hnd,hml,hms,(bG hks).1,(bG hks).2⟩
  ·exact hrs i z W
  ·exact hlen
  ·have:=hF.reps.length;rw[this];simpa using hF.size
  ·exact hpo
  ·show s.H.length+ops.size≤ln s.H+ops.size;rw[qU];exact zq _
 have htl:∀(j:Nat)(o:Oper),A.length≤j→ops[j]?=some o→∀q,q<j→(∀S:Nat→Prop,zIx ops.toList S→(∀e∈o.after,Region.binds .any e=true→S e.on)→S q)∨∃p,ops[q]?=some p∧vB A.length (aT ops A.length) (vlR ops A.length) q p=true∧aD ops o p=true:=fun j o V ho q hq=>by
  rcases zOm hd.2.1 j o V (by simpa using ho) q hq with C | ⟨p,J,h3⟩
  ·exact .inl C
  ·exact .inr ⟨p,by simpa using J,h3⟩
 have hdp:∀(i:Nat)(p:Oper)(t:Nat),i<A.length→ops[i]?=some p→Operand.tmp t∈p.op.operands→∀(i':Nat)(p':Oper),i'<A.length→ops[i']?=some p'→p'.dst=some t→i'<i∧∃e∈p.after,Region.binds .any e=true∧e.on=i':=fun i p t M hp ht i' p' hi' hp' I=>by
  have C:=(xU G.hd i p (G.hget M hp)).1 (.tmp t) (by simpa using ht)
  rw[ql]at C;have C:zDq (ops.toList.take A.length) p i t=true:=C;unfold zDq at C;cases hw:wrt t (ops.toList.take A.length) 0 with
  | none=>exact absurd I (dQ hw i' p' (G.hget hi' hp'))
  | some j=>
   simp only[hw,zd,qz]at C;obtain⟨j',o',e1,h3,h4⟩:=zCe hw;obtain rfl:j=j':=by omega
   have V:j<A.length:=by omega
   have ho':ops[j]?=some o':=by
    rw[qi,qn V]at h3;simpa using h3
   obtain rfl:i'=j:=G.once hi' V hp' ho' I h4;exact⟨C.1,zEp C.2⟩
 have heg:∀(j:Nat)(o:Oper),ops[j]?=some o→∀e∈o.after,Region.binds .any e=true→e.on<j:=fun j o ho e he hb=>by
  have:=zAs hd.2.2 j o (by simpa using ho) e he hb
  rwa[ql]at this
 refine wpIn_region_any hm ?_;have hup:=Upd.drew w;have hW0:Wd P E w0 X F s.H B w.drew Y Mo:=hW.call hup;have main:∀(fuel:Nat)(l:Array Bool)(a':Act)(w':World)(B':Bm)(Y':Hid)(N:List (Nat×Obj)),Inv ⟨P,E,w0,X,F,n,D,ops,s.H,Hm,s.L,A,B,rd w Y⟩ l a' w' B' Y' N→zOt l≤fuel→zIx ops.toList (fun q=>l.getD q false=true)→wpAnyIn (FF rr) 0 P .any ops Q fuel l a' w':=by
  have toTail:∀(fuel:Nat)(l:Array Bool)(a':Act)(w':World)(B':Bm)(Y':Hid)(N:List (Nat×Obj)),Inv ⟨P,E,w0,X,F,n,D,ops,s.H,Hm,s.L,A,B,rd w Y⟩ l a' w' B' Y' N→zOt l≤fuel→zIx ops.toList (fun q=>l.getD q false=true)→(∀(i:Nat)(p:Oper),i<A.length→l.getD i false=false→ops[i]?=some p→vB A.length (aT ops A.length) (vlR ops A.length) i p=true)→wpAnyIn (FF rr) 0 P .any ops Q fuel l a' w':=fun fuel l a' w' B' Y' N hI hu hsh hall=>by
   have hlz:l.size=ops.size:=hI.lsz;have hmle:A.length≤ops.size:=by have:=G.len;simpa using this
   have hlate:∀(i:Nat)(z:T×Option TO),A[i]?=some z→l.getD i false=false→∃p,ops[i]?=some p∧vB A.length (aT ops A.length) (vlR ops A.length) i p=true∧z.2=none∧(yG p=true→gF P (kP ops.toList (A.take i) s.L) p z.1):=fun i z W hl=>by
    obtain⟨p,C,J⟩:=G.spec i z W;have C:ops.toList[i]?=some p:=C;have h1':ops[i]?=some p:=by simpa using C
    have hk:=hall i p (zh.1 W).1 hl h1';rcases zBc hk with hk' | ⟨hk1,hk2⟩
    ·exact⟨p,h1',hk,(gF.of_head hk' J).1,fun _=>(gF.of_head hk' J).2⟩
    ·exact⟨p,h1',hk,qNt hk1 J,fun hk'=>(gF.of_head hk' J).2⟩
   have hW1:Wd P E w0 X F (xZ (ksE ops.toList A s.L) s.H++qM A) B' w' Y' N:=by
    have:Wd P E w0 X F (wK l (ksE ops.toList A s.L) s.H++jB l 0 A) B' w' Y' N:=hI.wd;rw[zDc l A 0 (fun i t ob M=>?_),qFz (fun i q hq=>?_)]at this
    ·exact this
    ·cases hc:l.getD i false with
     | true=>rfl
     | false=>
      have M:i<A.length:=z8 (zh.1 hq).1 (qGe _ _ _);obtain⟨z,W⟩:∃z,A[i]?=some z:=⟨A[i],by simp[M]⟩
      obtain⟨p,C,J,h3,_⟩:=hlate i z W hc;rw[zNb ops.toList A s.L i p z (by simpa using C) W,h3]at hq;cases hq
    ·rw[ql];cases hc:l.getD i false with
     | true=>rfl
     | false=>
      obtain⟨p,_,_,h3,_⟩:=hlate i _ M hc;cases h3
   have Z1:FrL n a' (kP ops.toList A s.L) D B' (rd w' Y') (Pnd ops A.length l):=by
    refine⟨hI.fr.size,by rw[bH];exact G.slots,hI.fr.defers,fun t v hnp hv=>?_⟩
    by_cases he:∃(j:Nat)(o:Oper),j<A.length∧ops[j]?=some o∧o.dst=some t
    ·obtain⟨j,o,V,ho,U⟩:=he;obtain⟨z,W⟩:∃z,A[j]?=some z:=⟨A[j],by simp[V]⟩
     have ht:t<s.L.length:=by
      have C:=(zy.1 hv).1;have J:a'.tmps.size=n:=hI.fr.size;have h3:s.L.length=n:=G.slots;omega
     rw[bJ ops.toList A s.L t j o z ht (by simpa using ho) W U fun q o' hq hl ho' I=>hq (G.once hl V (by simpa using ho') ho I U)]
     refine hI.fr.done j z o t v W ho U ?_ hv;cases hc:l.getD j false with
     | true=>rfl
     | false=>exact absurd ⟨j,o,V,hc,ho,U⟩ hnp
    ·rw[mP ops.toList A s.L t (fun j o V ho hd=>he ⟨j,o,V,by simpa using ho,hd⟩)]
     exact hI.fr.rest t v (fun j o V ho hd=>absurd ⟨j,o,V,ho,hd⟩ he) hv
   refine qQk hcl hyd (m:=A.length) htl (fun i o C J=>qQq J C) (fun i p t C J h3 i' p' h4 h5 h6=>(hdp i p t C J h3 i' p' h4 h5 h6).2) heg hnd fuel A.length _ s' h (zq _) hu hlz (fun i M=>?_) hsh (fun i p M hl hp=>?_) hW1 Z1 hI.ble hI.le hk
   ·exact hI.head i M
   ·obtain⟨z,W⟩:∃z,A[i]?=some z:=⟨A[i],by simp[M]⟩
    obtain⟨p',C,J,_,h4⟩:=hlate i z W hl;rw[hp]at C;cases C;rcases zBc J with hkk | ⟨hk1,hk2⟩
    case inr=>
     obtain⟨d2,q1,q2⟩:=sV.of_ld hp hk1 hk2 hld0;exact⟨J,_,q2,fun d' I _=>by rw[q1]at I;cases I;rfl⟩
    refine⟨J,z.1,.inl ⟨hkk,(h4 hkk).congr fun x hx=>?_⟩,fun d I hlt=>?_⟩
    ·cases x with
     | tmp t=>
      show nth .u (kP ops.toList (A.take i) s.L) t=nth .u (kP ops.toList A s.L) t;by_cases he:∃(j:Nat)(o:Oper),j<A.length∧ops[j]?=some o∧o.dst=some t
      ·obtain⟨j,o,V,ho,U⟩:=he;obtain⟨hji,_⟩:=hdp i p t M hp hx j o V ho U;obtain⟨zj,hzj⟩:∃z,A[j]?=some z:=⟨A[j],by simp[V]⟩
       rcases qg t s.L.length with ht | ht
       ·rw[bJ ops.toList A s.L t j o zj ht (by simpa using ho) hzj U fun q o' hq hl ho' I=>hq (G.once hl V (by simpa using ho') ho I U),
         bJ ops.toList (A.take i) s.L t j o zj ht (by simpa using ho) (by rw[qi,qn hji];exact hzj) U fun q o' hq hl ho' I=>hq (G.once (z8 hl (by rw[jo];exact gn _ _)) V (by simpa using ho') ho I U)]
       ·simp only[qW,zp];rw[qb (by rw[bH];exact ht),qb (by rw[bH];exact ht)]
      ·rw[mP ops.toList A s.L t (fun j o V ho hd=>he ⟨j,o,V,by simpa using ho,hd⟩),mP ops.toList (A.take i) s.L t (fun j o V ho hd=>he ⟨j,o,z8 V (by rw[jo];exact gn _ _),by simpa using ho,hd⟩)]
     | _=>rfl
    ·rw[bH]at hlt;exact bJ ops.toList A s.L d i p z hlt (by simpa using hp) W I fun q o' hq hl ho' hd2=>hq (G.once hl M (by simpa using ho') hp hd2 I)
  intro fuel;induction fuel with
  | zero=>
   intro l a' w' B' Y' N hI hu hsh;refine toTail 0 l a' w' B' Y' N hI hu hsh fun i p M hc=>?_;have hlz:l.size=ops.size:=hI.lsz;have hmle:A.length≤ops.size:=by have:=G.len;simpa using this
   have:=zBz (by omega) hc
   omega
  | succ fuel ih=>
   intro l a' w' B' Y' N hI hu hsh;by_cases hall:∀(i:Nat)(p:Oper),i<A.length→l.getD i false=false→ops[i]?=some p→vB A.length (aT ops A.length) (vlR ops A.length) i p=true
   ·exact toTail _ l a' w' B' Y' N hI hu hsh hall
   ·have hlz:l.size=ops.size:=hI.lsz;have hmle:A.length≤ops.size:=by have:=G.len;simpa using this
    obtain⟨i1,p1,hi1,hl1,hp1,hk1⟩:∃(i:Nat)(p:Oper),i<A.length∧l.getD i false=false∧ops[i]?=some p∧¬vB A.length (aT ops A.length) (vlR ops A.length) i p=true:=by
     refine xg fun hn=>hall fun i p C J h3=>?_;exact xg fun h4=>hn ⟨i,p,C,J,h3,h4⟩
    obtain⟨i0,hi0,hl0,hbelow⟩:=zKy ⟨i1,hi1,hl1⟩;obtain⟨o0,ho0⟩:∃o,ops[i0]?=some o:=⟨ops[i0]'(by omega),by simp⟩
    have hr0:i0∈Region.ready .any ops l:=zRt hlz ho0 hl0 fun e he hb=>hbelow _ (heg i0 o0 ho0 e he hb);refine⟨fun h0=>absurd (h0▸hr0) (by simp),fun i M=>?_⟩
    obtain⟨hun,oi,hoi,hall'⟩:=xo.1 M;have him:i<A.length:=by
     rcases qg i A.length with C | C
     ·exact C
     ·rcases htl i oi C hoi i1 (by omega)with J | ⟨p,J,h3,_⟩
      ·have:=J (fun q=>l.getD q false=true) hsh hall';rw[hl1]at this;cases this
      ·rw[hp1]at J;cases J;exact absurd h3 hk1
    have hil:i<l.size:=by omega
    have hc:l.getD i false=false:=by simpa[hil]using hun
    refine qAe G hI him M fun a2 w2 B2 Y2 Mo2 hI2=>ih _ a2 w2 B2 Y2 Mo2 hI2 ?_ (hsh.set (by simpa using hoi) hil hall')
    have:=zBz hil hc;omega
 have W:∀i,(Array.replicate ops.size false).getD i false=false:=fun i=>by
  by_cases M:i<ops.size<;>simp[M]
 refine main ops.size _ a _ B Y Mo ⟨?_,⟨hF.size,hF.defers,fun i z o d v _ _ _ hl _=>?_,fun t v _ hv=>?_⟩,BLe.refl B,hup.le Y,fun i t ob _ _=>hW0.nn _ (vo _ _),fun i _=>W i,by simp⟩ ?_ (fun i _ _ J=>absurd (show(Array.replicate ops.size false).getD i false=true from J) (by rw[W];simp))
 ·show Wd P E w0 X F (wK _ _ s.H++_) B _ Y Mo;rw[qAf (fun i _=>W i)];have Z:∀(i:Nat)(x:TO),(s.H++jB (Array.replicate ops.size false) 0 A)[i]?=some x→x≠.gone→s.H[i]?=some x:=fun i x hx hne=>by
   rcases qg i s.H.length with M | M
   ·rwa[qh M]at hx
   ·rw[jk M]at hx;exact absurd (zDe _ A 0 _ x (fun i _=>W _) hx) hne
  have ng:∀{y:TO},vO y=true→y≠.gone:=fun h e=>by subst e;cases h
  exact⟨hW0.st,fun i x hx hl=>hW0.ob i x (Z i x hx (ng hl)) hl,fun i cs hx=>hW0.fz i cs (Z i _ hx (by simp)),fun i M=>hW0.nn i (by simp at M;omega),
   fun i j oi oj p q C l1 J l2=>hW0.inj i j oi oj p q (Z i _ C (ng l1)) l1 (Z j _ J (ng l2)) l2,hW0.bN,hW0.iv⟩
 ·rw[W]at hl;cases hl
 ·have hR:=hF.reps.getD t;have:a.tmps.toList.getD t undef=v:=by simp[hv]
  rw[this]at hR;exact hR.mono (BLe.refl B) (hup.le Y)
 ·have:zOt (Array.replicate ops.size false)=ops.size:=by
   have h:=zVn (l:=Array.replicate ops.size false) (j:=0) (fun i=>by rw[W];simp) (qu _)
   simpa using h
  omega
theorem qMc{P:Program}{E:Nat→Prop}{w0:World}{X:Hid}{F:List Nat}{n:Nat}{D:List Deferred}{ops:Array Oper}{cl yd:Cl}{rn:Rn}{O:Po}{id:Nat}(hm:P.follows .mixedOrders=true)(hO:qR P O)(hrn:pU P rn)(M:kV P cl)(hyd:xS P yd)
  (Z:fV ops=true) {s s':S} (h:drE P O rn cl yd ops s=some s') (hW:Wd P E w0 X F s.H B w Y Mo) (hF:FrT n a s.L D B (rd w Y)) (hk:nY P E w0 X F n D s'.H s'.L B (rd w Y) (Q .normal)):(Code.region id ops true).wpIn (FF rr) 0 P Q a w:=by
 have e:∀(A:List TO)(J:List (T×Option TO)),A.length=s.H.length→(∀(q:Nat)(x:TO),A[q]?=some x→x≠.gone→s.H[q]?=some x)→(∃k,J=(sW P (zHt P O rn (ln s.H+ops.size)) s.H A ops ops.toList [] A s.L).take k)→drF P cl yd ops s A J=some s'→(Code.region id ops true).wpIn (FF rr) 0 P Q a w:=fun A J V W G h=>by
  refine zKg (po:=zHt P O rn (ln s.H+ops.size)) hm (fun f az tv nw hp=>?_) M hyd Z hW hF hk A J V W (fun i z I=>?_) ?_ h
  ·unfold zHt at hp;cases ho:O f az with
   | some y=>simp only[ho,za]at hp;subst hp;exact hO _ _ _ _ ho _
   | none=>simp only[ho]at hp;exact zGl (fI hm hrn) hp
  ·obtain⟨k,rfl⟩:=G;rw[qi]at I;split at I
   ·rename_i N;have:=zKo _ _ _ _ _ _ I;rw[List.take_take,kg (uB N)];exact this
   ·cases I
  ·obtain⟨k,rfl⟩:=G;rw[jo];exact qx (gn _ _) (zQf _ _ _ _)
 unfold drE drU at h;generalize qLw ops ops.toList (sW P (zHt P O rn (ln s.H+ops.size)) s.H s.H ops ops.toList [] s.H s.L) 0=kk at h;unfold drG at h;have U:∀ks:List (Option Nat),∀(q:Nat)(x:TO),(xZ ks s.H)[q]?=some x→x≠.gone→s.H[q]?=some x:=fun ks q x C h2=>by
  rw[mO]at C;split at C
  ·cases hq:s.H[q]? with
   | none=>rw[hq]at C;cases C
   | some y=>rw[hq]at C;cases C;exact absurd rfl h2
  ·exact C
 cases j:qUz (ksE ops.toList ((sW P (zHt P O rn (ln s.H+ops.size)) s.H s.H ops ops.toList [] s.H s.L).take kk) s.L)with
 | true=>simp only[j,ze]at h;exact e _ _ (zKs _ _) (U _) ⟨kk,rfl⟩ h
 | false=>simp only[j,zf]at h;exact e s.H _ rfl (fun _ _ h _=>h) ⟨kk,rfl⟩ h
end
section
variable {P:Program}{E:Nat→Prop}{w0:World}{X:Hid}{F:List Nat}{H:List TO}{B B':Bm}{w w':World}{Y Y':Hid}{Mo:List (Nat×Obj)}{o:Oper}{r r':Rd}{n:Nat}{a:Act}{L:List T}{D:List Deferred}{Q:Exit→Act→World→Prop}{K:Act→World→Prop}{cl yd:Cl}{O:Po}{rr:Option Nat}{ops:Array Oper}{rest:List Oper}{rn:Rn}
theorem Wd.lp(W:Wd P E w0 X F H B w Y Mo){i y C:Nat}{ps:List Nat}{U V:Code}{q:Bool}{pd:Option Code}(hi:H[i]?=some (.loop L ps U V q pd))(hB:B i=some (y,C)):
  ∃(rec:Loop)(k:Nat),(Mo++xM F)[k]?=some (y,.loop rec)∧(zP B (rd w Y) L rec.tmps.toList∧rec.params.toList=ps∧rec.assign=U∧rec.body=V∧noR U=true∧noR V=true∧LSt q pd rec)∧
   (∀j q' A,j.tmps=rec.tmps→j.params=rec.params→j.assign=rec.assign→j.body=rec.body→LSt q' A j→
    Wd P E w0 X F (H.set i (.loop L ps U V q' A)) B (w.putObj y (.loop j)) Y (Mo.set k (y,.loop j))∧Le (rd w Y) (rd (w.putObj y (.loop j)) Y))∧
   ∀j,Wd P E w0 X F (H.set i .gone) B (w.putObj y (.loop j)) Y (Mo.set k (y,.loop j))∧Le (rd w Y) (rd (w.putObj y (.loop j)) Y):=by
 obtain⟨b',C',ob,g1,g2,g3⟩:=W.ob i _ hi rfl;rw[hB]at g1;cases g1;cases g3 with
 | @loop _ _ _ _ rec _ _ hL hp ha hb M N hs=>
  obtain⟨k,Z⟩:=jr g2;have J:k<Mo.length:=(zh.1 Z).1;have I:(Mo++xM F)[k]?=some (y,.loop rec):=by rw[qh J];exact Z
  have hS:∀j,St E w0 X (w.putObj y (.loop j)) Y (Mo.set k (y,.loop j)++xM F)∧Le (rd w Y) (rd (w.putObj y (.loop j)) Y):=fun j=>by
   obtain⟨G,z⟩:=W.st.putObj (o':= .loop j) k I;rw[xT _ _ J]at G;exact⟨G,z⟩
  refine⟨rec,k,I,⟨hL,hp,ha,hb,M,N,hs⟩,fun j q' A e1 e2 e3 e4 hs'=>?_,fun j=>?_⟩
  ·obtain⟨G,z⟩:=hS j;exact⟨W.set hi rfl hB Z G z (fun cs e=>by cases e) (fun _=> .loop (by rw[e1];exact hL.mono (BLe.refl B) z) (by rw[e2];exact hp) (by rw[e3];exact ha) (by rw[e4];exact hb) M N hs'),z⟩
  ·obtain⟨G,z⟩:=hS j;exact⟨W.set hi rfl hB Z G z (fun cs e=>by cases e) (fun e=>by cases e),z⟩
theorem zRr:∀{ps:List Nat}{az L:List T}{qQ:List Value}{q:Array Value},ps.length=az.length→zP B r az qQ→zP B r L q.toList→zP B r (zJg L ps az) ((ps.zip qQ).foldl (fun t(x:Nat×Value)=>t.setIfInBounds x.1 x.2) q).toList
 | [],[],L,[],q,_,_,h=>by simpa[zJg]using h
 | p::ps,t::az,L,v::qQ,q,j,e,h=>by
  simp only[zJg,List.zip_cons_cons,fX];refine zRr (by simpa using j) e.2 ?_
  have:=h.put p e.1;simpa using this
 | [],_::_,_,_,_,j,_,_=>by simp at j
 | _::_,[],_,_,_,j,_,_=>by simp at j
 | _,[],_,_::_,_,_,e,_=>e.elim
 | _,_::_,_,[],_,_,e,_=>e.elim
theorem zRq:∀(e:List Nat)(az L:List T),(zJg L e az).length=L.length
 | [],_,_=>by simp[zJg]
 | _::_,[],_=>by simp[zJg]
 | p::e,t::az,L=>by rw[zJg,zRq e az,yN];simp
theorem lQ{l:List TO}{i:Nat}{x:TO}(h:nth .gone l i=x)(j:x≠.gone):l[i]?=some x:=by
 rw[qW,zp]at h;cases e:l[i]? with
 | none=>rw[e]at h;exact absurd h.symm j
 | some y=>rw[e]at h;simp at h;rw[h]
theorem qKm(V:pU P rn):xS P (zIu rn):=by
 intro l az H tv H' h E w0 X F B w Y Mo qQ R b0 C hW hA hB hk;unfold zIu at h;split at h
 ·rename_i L ps c1 c2 hl;have hi:=lQ hl (by simp)
  cases j:Nat.beq (ln ps) (ln az)with
  | false=>simp[j]at h
  | true=>
   simp only[j,ze]at h;have j:=zV j;rw[qU,qU]at j;obtain⟨rec,k,hk2,⟨hL,hp,ha,hb,N,U,hs⟩,_,_⟩:=hW.lp hi hB;have hpl:rec.params.size=az.length:=by rw[←j,←hp];simp
   refine zZi k hW.st hk2 (by rw[hpl,hA.length];simp) ?_
   have hF:FrT rec.tmps.size {tmps:=(rec.params.zip qQ.toArray).foldl (fun tmps(t,a)=>tmps.setIfInBounds t a) rec.tmps,defers:=[]} (zJg L ps az) [] B (rd w Y):=by
    have hz:((rec.params.zip qQ.toArray).foldl (fun tmps(x:Nat×Value)=>tmps.setIfInBounds x.1 x.2) rec.tmps)=(ps.zip qQ).foldl (fun t(x:Nat×Value)=>t.setIfInBounds x.1 x.2) rec.tmps:=by
     rw[←Array.foldl_toList,Array.toList_zip,hp]
    have hR:=zRr (ps:=ps) j hA hL;refine⟨?_,?_,rfl⟩
    ·show((rec.params.zip qQ.toArray).foldl (fun tmps(x:Nat×Value)=>tmps.setIfInBounds x.1 x.2) rec.tmps).size=_;rw[hz];have h1:=hR.length;rw[zRq]at h1;have h2:=hL.length;simp at h1 h2;omega
    ·show zP B (rd w Y) _ ((rec.params.zip qQ.toArray).foldl (fun tmps(x:Nat×Value)=>tmps.setIfInBounds x.1 x.2) rec.tmps).toList;rw[hz];exact hR
   unfold qRz at h;split at h
   ·rename_i s1 J1;split at h
    ·rename_i L2 ps2 d1 d2 hl2;have hi2:=lQ hl2 (by simp)
     subst ha;refine V _ _ _ _ J1 E w0 X F rec.tmps.size _ [] B w Y Mo (some b0) _ (.inr N) hW hF fun a1 w1 B1 Y1 Mo1 bs I g1 g2 M g4=>?_;obtain rfl:=I N;obtain⟨Z,k2,hk3,⟨_,_,_,_,_,_,hs2⟩,W,_⟩:=Wd.lp g1 hi2 (M _ _ hB);obtain⟨hWb,G⟩:=W {Z with state:= .busy} false none rfl rfl rfl rfl rfl
     refine⟨_,run_beginRound (g1.st.get k2 hk3) hs2.1,?_⟩;unfold endY at h;subst hb;split at h
     ·rename_i e s2 J2;rw[yN]at J2;refine V _ _ _ _ J2 E w0 X F rec.tmps.size a1 [] B1 _ Y1 _ (some b0) _ (.inr U) hWb (g2.mono (BLe.refl _) G) fun a3 w3 B3 Y3 Mo3 bs I f1 f2 f3 f4=>?_;obtain rfl:=I U;split at h
      ·rename_i L4 ps4 e1 e2 hl4;have hi4:=lQ hl4 (by simp)
       obtain⟨A,k4,J,⟨_,_,_,_,_,_,hs4⟩,y,_⟩:=Wd.lp f1 hi4 (f3 _ _ (M _ _ hB));have C4:=(g4.trans G).trans f4;cases e with
       | n=>
        simp only[za,z7,yN]at h;obtain⟨rfl,rfl⟩:=h;obtain⟨z,q⟩:=y {A with state:= .ready,pending:=none} true none rfl rfl rfl rfl ⟨rfl,rfl⟩
        exact⟨_,_,uh none (f1.st.get k4 J),hk _ _ _ _ _ z (.v rfl) (M.trans f3) (C4.trans q)⟩
       | r=>
        simp only[za,z7,yN]at h;obtain⟨rfl,rfl⟩:=h;obtain⟨z,q⟩:=y {A with state:= .done,pending:=some .ret} false (some .ret) rfl rfl rfl rfl ⟨rfl,rfl⟩
        exact⟨_,_,uh (some .ret) (f1.st.get k4 J),hk _ _ _ _ _ z (.v rfl) (M.trans f3) (C4.trans q)⟩
       | x id=>
        simp only[za,z7,yN]at h;obtain⟨rfl,rfl⟩:=h;obtain⟨z,q⟩:=y {A with state:= .done,pending:=some (.exit id)} false (some (.exit id)) rfl rfl rfl rfl ⟨rfl,rfl⟩
        exact⟨_,_,uh (some (.exit id)) (f1.st.get k4 J),hk _ _ _ _ _ z (.v rfl) (M.trans f3) (C4.trans q)⟩
       | p t=>simp at h
      ·cases h
     ·cases h
    ·cases h
   ·cases h
 ·cases h
theorem jCf(hcl:kV P cl){g:Operand}{ps:Array Tmp}{c1 c2:Code}{e:Ex}{s':S}(hW:Wd P E w0 X F H B w Y Mo)(hF:FrT n a L D B (rd w Y))(hna:noR c1=true)(hnb:noR c2=true)
  (h:jCe P cl ps.toList c1 c2 L H (evO L g)=some (e,s')) (hk:gZ P E w0 X F n D false e s' B (rd w Y) Q):(Code.rangeFunc g ps c1 c2).wpIn (FF none) 0 P Q a w:=by
 have hg:=hF.rep g;unfold jCe at h;split at h
 ·rename_i f cs eg;rw[eg]at hg;obtain⟨caps,hv,hcs⟩:=hg.fnI;cases hen:jX P f with
  | false=>simp[hen]at h
  | true=>
   simp only[hen,ze]at h;refine wpIn_rangeFunc fun fn _=>?_;have h1:=hW.st.alloc (.deferred (some []));have h2:=h1.alloc (.loop {state:= .ready,pending:=none,fn:=fn,tmps:=a.tmps,params:=ps,assign:=c1,body:=c2,defers:=w.heap.size});have hle:Le (rd w Y) (rd ((w.alloc (.deferred (some []))).alloc (.loop {state:= .ready,pending:=none,fn:=fn,tmps:=a.tmps,params:=ps,assign:=c1,body:=c2,defers:=w.heap.size})) _):=(Le.hide_new (.deferred (some []))).trans (Le.hide_new _);have hrun:=run_enterLoop_outer (P:=P) (w:=w) fn a.tmps ps c1 c2;have hN:=Wd.new (F':=w.heap.size::F) (g:=(w.alloc (.deferred (some []))).heap.size) (C:=0) (o:= .loop L ps.toList c1 c2 true none) hW
    (St.perm (by
     show List.Perm _ ((_::Mo)++((w.heap.size,Obj.deferred (some []))::xM F));exact(List.Perm.cons _ vm.symm)) h2) hle rfl
    (.loop (hF.reps.mono (BLe.refl B) hle) rfl rfl rfl hna hnb ⟨rfl,rfl⟩)
   obtain⟨hWn,hBn⟩:=hN;have hl1:(w.alloc (.deferred (some []))).heap.size=w.heap.size+1:=by simp
   cases hc:cl f (.yl (ln H)::cs) (H++[.loop L ps.toList c1 c2 true none])with
   | none=>simp[hc,qXk]at h
   | some vh=>
    obtain⟨tv,H1⟩:=vh;simp only[hc,qXk]at h;rw[hl1]at hWn hBn;have hy:Rep (rG B H.length (w.heap.size+1,0)) (rd ((w.alloc (.deferred (some []))).alloc (.loop {state:= .ready,pending:=none,fn:=fn,tmps:=a.tmps,params:=ps,assign:=c1,body:=c2,defers:=w.heap.size})) (zAy (w.heap.size+1) (zAy w.heap.size Y))) (.yl (ln H)) (.func (.yield (w.heap.size+1)) #[] #[]):=by
     rw[qU];exact .yl (qN _ _ _)
    have hK:=hcl _ _ _ _ _ hc E w0 X (w.heap.size::F) _ _ _ _ (.func (.yield (w.heap.size+1)) #[] #[]::caps)
     (fun e w3=>(∃v,e= .returned v)∧∃rec,w3.heap[w.heap.size+1]?=some (.loop rec)∧rec.state≠.busy∧
      (match rec.pending with
       | none=>Q .normal {a with defers:=Gv.mark w.heap.size::a.defers} (w3.putObj (w.heap.size+1) (.loop {rec with state:= .exhausted}))
       | some c=>c.wpIn (FF none) 0 P Q {a with defers:=Gv.mark w.heap.size::a.defers} (w3.putObj (w.heap.size+1) (.loop {rec with state:= .exhausted}))))
     (by rw[←hl1];rw[hl1];exact hWn) ⟨by rw[hl1]at *;exact hy,hcs.mono hBn (by rw[hl1]at hle;exact hle)⟩ ?_
    ·clear hle h2;generalize (w.alloc (.deferred (some []))).alloc (.loop {state:= .ready,pending:=none,fn:=fn,tmps:=a.tmps,params:=ps,assign:=c1,body:=c2,defers:=w.heap.size})=W1 at hK hrun;refine⟨w.heap.size+1,[Gv.mark w.heap.size],W1,{target:= .fn (.func f) caps.toArray,args:=#[.func (.yield (w.heap.size+1)) #[] #[]]},W1,f,
      #[.func (.yield (w.heap.size+1)) #[] #[]]++caps.toArray,W1,hrun,?_,fun f' _=>xD none f',?_,rT none 0,?_⟩
     ·simp only[resolve,hv];simp[go_sem]
     ·simp only[invoke];exact nH hen _ _
     ·refine pW.2 ((show Calls P f (#[.func (.yield (w.heap.size+1)) #[] #[]]++caps.toArray) W1 _ by simpa using hK).mono ?_)
      rintro e w3 ⟨⟨v,rfl⟩,rec,hl,hb,hrest⟩;exact⟨rec.pending,_,run_endLoop hl hb,hrest⟩
    ·intro v w3 B3 Y3 Mo3 k1 k2 k3 k4;refine⟨⟨v,rfl⟩,?_⟩;have hBl:B3 H.length=some (w.heap.size+1,0):=k3 _ _ (qN _ _ _);have fin:∀(L2:List T)(ps2:List Nat)(d1 d2:Code)(q:Bool)(pd:Option Code),H1[H.length]?=some (.loop L2 ps2 d1 d2 q pd)→q=true∨pd≠none→
       ∃rec,w3.heap[w.heap.size+1]?=some (.loop rec)∧rec.state≠.busy∧rec.pending=pd∧∃Mo4,Wd P E w0 X (w.heap.size::F) (H1.set H.length .gone) B3 (w3.putObj (w.heap.size+1) (.loop {rec with state:= .exhausted})) Y3 Mo4∧Le (rd w3 Y3) (rd (w3.putObj (w.heap.size+1) (.loop {rec with state:= .exhausted})) Y3):=fun L2 ps2 d1 d2 q pd hi hq=>by
      obtain⟨rec,k,hk2,⟨_,_,_,_,_,_,hs⟩,_,hgone⟩:=Wd.lp k1 hi hBl;refine⟨rec,k1.st.get k hk2,?_,?_,_,hgone _⟩
      ·cases q<;>cases pd<;>simp only[LSt]at hs
       ·rcases hq with h | h<;>simp at h
       ·rw[hs.1];simp
       ·rw[hs.1];simp
      ·cases q<;>cases pd<;>simp only[LSt]at hs
       ·rcases hq with h | h<;>simp at h
       ·exact hs.2
       ·exact hs.2
     have hBt:BLe B B3:=hBn.trans k3;have hlet:Le (rd w Y) (rd w3 Y3):=(by rw[hl1]at hle;exact hle:Le (rd w Y) _).trans k4
     have hFm:∀{r3:Rd},Le (rd w Y) r3→FrT n {a with defers:=Gv.mark w.heap.size::a.defers} L ([w.heap.size].map Gv.mark++D) B3 r3:=fun hr=>⟨hF.size,hF.reps.mono hBt hr,by show Gv.mark w.heap.size::a.defers=_;rw[hF.defers];rfl⟩
     split at h
     ·rename_i L2 ps2 d1 d2 hl2;rw[qU]at hl2;obtain⟨rec,f1,f2,f3,Mo4,f4,f5⟩:=fin _ _ _ _ _ _ (lQ hl2 (by simp)) (.inl rfl)
      refine⟨rec,f1,f2,?_⟩;generalize w3.putObj (w.heap.size+1) (.loop {rec with state:= .exhausted})=w4 at f4 f5 ⊢
      rw[f3];simp only[za,z7,yN,qU]at h;obtain⟨rfl,rfl⟩:=h;exact hk _ _ _ _ _ [w.heap.size] (fun e=>by cases e) f4 (hFm (hlet.trans f5)) hBt (hlet.trans f5)
     ·rename_i L2 ps2 d1 d2 hl2;rw[qU]at hl2;obtain⟨rec,f1,f2,f3,Mo4,f4,f5⟩:=fin _ _ _ _ _ _ (lQ hl2 (by simp)) (.inr (by simp))
      refine⟨rec,f1,f2,?_⟩;generalize w3.putObj (w.heap.size+1) (.loop {rec with state:= .exhausted})=w4 at f4 f5 ⊢
      rw[f3];simp only[za,z7,yN,qU]at h;obtain⟨rfl,rfl⟩:=h;exact mM (hk _ _ _ _ _ [w.heap.size] (fun e=>by cases e) f4 (hFm (hlet.trans f5)) hBt (hlet.trans f5))
     ·rename_i L2 ps2 d1 d2 id hl2;rw[qU]at hl2;obtain⟨rec,f1,f2,f3,Mo4,f4,f5⟩:=fin _ _ _ _ _ _ (lQ hl2 (by simp)) (.inr (by simp))
      refine⟨rec,f1,f2,?_⟩;generalize w3.putObj (w.heap.size+1) (.loop {rec with state:= .exhausted})=w4 at f4 f5 ⊢
      rw[f3];simp only[za,z7,yN,qU]at h;obtain⟨rfl,rfl⟩:=h;exact aP (hk _ _ _ _ _ [w.heap.size] (fun e=>by cases e) f4 (hFm (hlet.trans f5)) hBt (hlet.trans f5))
     ·cases h
 ·cases h
theorem gZ.one{q:Bool}{e:Ex}{s':S}(h:gZ P E w0 X F n D q e s' B r Q){y:Act}{w':World}{B':Bm}{Y':Hid}{j:List (Nat×Obj)}(z:Wd P E w0 X F s'.H B' w' Y' j)(A:FrT n y s'.L D B' (rd w' Y'))(C:BLe B B')(G:Le r (rd w' Y')):QOk Q B' (rd w' Y') y w' e:=
 h y w' B' Y' j [] (fun _=>rfl) z A C G
theorem gZ.next{q G I:Bool}{e:Ex}{s':S}(h:gZ P E w0 X F n D q e s' B r Q)(C:q=true→G=true∧I=true){w':World}{B':Bm}{Y':Hid}{bs:List Nat}(A:G=true→bs=[])(U:BLe B B')(V:Le r (rd w' Y')):gZ P E w0 X (bs++F) n (bs.map Gv.mark++D) I e s' B' (rd w' Y') Q:=
 fun N w2 J M j y z W Z k3 k4=>h N w2 J M j (y++bs) (fun e=>by rw[A (C e).1,z (C e).2];rfl) (by rw[qt];exact W) (by rw[xu,qt];exact Z) (U.trans k3) (V.trans k4)
theorem qXm{J:Oo}{O:Rn→Po}(hm:P.follows .mixedOrders=true)(hS:qCo P J)(hO:∀rn,pU P rn→qR P (O rn)):∀k,pU P (evC P J O k):=by
 intro k;induction k using Nat.strongRecOn with
 | _ k ih=>
  cases k with
  | zero=>intro c s e s' h;simp[evC]at h
  | succ k=>
   have hk:pU P (evC P J O k):=ih k (x9 k);have hcl:=qDk (P:=P) hm hS (hO _ hk) hk;have hpc:=qAa (P:=P) hk;have hyd:=qKm (P:=P) hk;intro c s e s' h E w0 X F n a D B w Y Mo rr Q hr hW W G;have h:sO P J (O (evC P J O k)) (evC P J O k) c s=some (e,s'):=h;cases c with
   | skip=>simp only[sO,za,z7]at h;obtain⟨rfl,rfl⟩:=h;exact wX (G.one hW W (BLe.refl B) (Le.refl _))
   | label l=>simp only[sO,za,z7]at h;obtain⟨rfl,rfl⟩:=h;exact zMw (G.one hW W (BLe.refl B) (Le.refl _))
   | exit id=>simp only[sO,za,z7]at h;obtain⟨rfl,rfl⟩:=h;exact aP (G.one hW W (BLe.refl B) (Le.refl _))
   | ret=>simp only[sO,za,z7]at h;obtain⟨rfl,rfl⟩:=h;exact mM (G.one hW W (BLe.refl B) (Le.refl _))
   | seq x y=>
    simp only[sO]at h;have hr1:rr=none∨noR x=true:=hr.imp id fun h=>by simp only[noR,zd]at h;exact h.1
    have hr2:rr=none∨noR y=true:=hr.imp id fun h=>by simp only[noR,zd]at h;exact h.2
    have hq:noR (.seq x y)=true→noR x=true∧noR y=true:=fun h=>by simpa[noR]using h
    cases I:evC P J O k x s with
    | none=>simp[I,zEx]at h
    | some es=>
     obtain⟨e1,s1⟩:=es;refine wpIn_seq (hk _ _ _ _ I E w0 X F n a D B w Y Mo rr _ hr1 hW W fun C w' B' Y' q bs A g1 g2 M N=>?_);cases e1 with
     | n=>
      simp only[I,zEx]at h;exact hk _ _ _ _ h E w0 X _ n C _ B' w' Y' q rr Q hr2 g1 g2 (G.next hq A M N)
     | x id=>simp only[I,zEx,za,z7]at h;obtain⟨rfl,rfl⟩:=h;exact G C w' B' Y' q bs (fun e=>A (hq e).1) g1 g2 M N
     | r=>simp only[I,zEx,za,z7]at h;obtain⟨rfl,rfl⟩:=h;exact G C w' B' Y' q bs (fun e=>A (hq e).1) g1 g2 M N
     | p t=>simp only[I,zEx,za,z7]at h;obtain⟨rfl,rfl⟩:=h;exact G C w' B' Y' q bs (fun e=>A (hq e).1) g1 g2 M N
   | cond c x y=>
    simp only[sO]at h;have hc:=W.rep c;unfold qSd at h;split at h
    ·rename_i b eb;rw[eb]at hc;cases b with
     | true=>exact dd hc.bool (hk _ _ _ _ h E w0 X F n a D B w Y Mo rr Q (hr.imp id fun h=>by simp only[noR,zd]at h;exact h.1) hW W fun C w' B' Y' q bs A=>G C w' B' Y' q bs fun e=>A (by simp only[noR,zd]at e;exact e.1))
     | false=>exact fh hc.bool (hk _ _ _ _ h E w0 X F n a D B w Y Mo rr Q (hr.imp id fun h=>by simp only[noR,zd]at h;exact h.2) hW W fun C w' B' Y' q bs A=>G C w' B' Y' q bs fun e=>A (by simp only[noR,zd]at e;exact e.2))
    ·cases h
   | block id x=>
    simp only[sO]at h;cases I:evC P J O k x s with
    | none=>simp[I,zZr]at h
    | some es=>
     obtain⟨e1,s1⟩:=es;refine kE (hk _ _ _ _ I E w0 X F n a D B w Y Mo rr _ hr hW W fun C w' B' Y' q bs A g1 g2 M N=>?_);cases e1 with
     | n=>simp only[I,zZr,za,z7]at h;obtain⟨rfl,rfl⟩:=h;exact G C w' B' Y' q bs A g1 g2 M N
     | r=>simp only[I,zZr,za,z7]at h;obtain⟨rfl,rfl⟩:=h;exact G C w' B' Y' q bs A g1 g2 M N
     | p t=>simp only[I,zZr,za,z7]at h;obtain⟨rfl,rfl⟩:=h;exact G C w' B' Y' q bs A g1 g2 M N
     | x j=>
      simp only[I,zZr,za,z7]at h;obtain⟨rfl,rfl⟩:=h;have:=G C w' B' Y' q bs A g1 g2 M N;cases hj:Nat.beq j id with
      | true=>rw[hj]at this;obtain rfl:=zV hj;exact mH this
      | false=>rw[hj]at this;exact zFv hj this
   | scope x=>
    simp only[sO]at h;rcases hr with rfl | hr
    ·exact zMx (hk _ _ _ _ h E w0 X F n a D B w Y Mo none _ (.inl rfl) hW W fun C w' B' Y' q bs _ g1 g2 M N=>by
      have:=G C w' B' Y' q bs (fun e=>by simp[noR]at e) g1 g2 M N
      cases e<;>exact this)
    ·simp[noR]at hr
   | loop x=>
    have hr1:rr=none∨noR x=true:=hr.imp id fun h=>by simpa[noR]using h
    refine lM (γ:=Nat×S×List Nat) (fun g a w=>g.1≤k∧sO P J (O (evC P J O g.1)) (evC P J O g.1) (.loop x) g.2.1=some (e,s')∧∃B' Y' q,(noR x=true→g.2.2=[])∧Wd P E w0 X (g.2.2++F) g.2.1.H B' w Y' q∧FrT n a g.2.1.L (g.2.2.map Gv.mark++D) B' (rd w Y')∧BLe B B'∧Le (rd _ Y) (rd w Y'))
     (fun g=>g.1) (k,s,[]) ⟨zq k,h,B,Y,Mo,fun _=>rfl,hW,W,BLe.refl B,Le.refl _⟩ ?_
    rintro⟨j,s0,U⟩ a0 w1 ⟨hj,z,B1,Y1,Mo1,hb1,g1,g2,M,N⟩;simp only[sO]at z hj hb1 g1 g2;cases I:evC P J O j x s0 with
    | none=>simp[I,zEx]at z
    | some es=>
     obtain⟨e1,s1⟩:=es;refine ih j (by omega) _ _ _ _ I E w0 X _ n a0 _ B1 w1 Y1 Mo1 rr _ hr1 g1 g2 fun C w' B' Y' q bs A k1 k2 k3 k4=>?_
     have Z:noR x=true→bs++U=[]:=fun e=>by rw[A e,hb1 e];rfl
     have k1':Wd P E w0 X (bs++U++F) s1.H B' w' Y' q:=by rw[qt];exact k1
     have k2':FrT n C s1.L ((bs++U).map Gv.mark++D) B' (rd w' Y'):=by rw[xu,qt];exact k2
     cases e1 with
     | n=>
      simp only[I,zEx]at z;cases j with
      | zero=>simp[evC]at z
      | succ j=>exact⟨(j,s1,bs++U),⟨by omega,z,B',Y',q,Z,k1',k2',M.trans k3,N.trans k4⟩,x9 j⟩
     | x id=>simp only[I,zEx,za,z7]at z;obtain⟨rfl,rfl⟩:=z;exact G C w' B' Y' q (bs++U) (fun e=>Z (by simpa[noR]using e)) k1' k2' (M.trans k3) (N.trans k4)
     | r=>simp only[I,zEx,za,z7]at z;obtain⟨rfl,rfl⟩:=z;exact G C w' B' Y' q (bs++U) (fun e=>Z (by simpa[noR]using e)) k1' k2' (M.trans k3) (N.trans k4)
     | p t=>simp only[I,zEx,za,z7]at z;obtain⟨rfl,rfl⟩:=z;exact G C w' B' Y' q (bs++U) (fun e=>Z (by simpa[noR]using e)) k1' k2' (M.trans k3) (N.trans k4)
   | region id ops draw=>
    cases draw with
    | false=>
     simp only[sO]at h;cases V:fV ops with
     | false=>simp[V]at h
     | true=>
      simp only[V,ze]at h;refine fN ?_;exact zYa hcl hyd hpc _ _ _ h V hW W (BLe.refl B) (Le.refl _) fun C w' B' Y' q k1 k2 k3 k4=>G.one k1 k2 k3 k4
    | true=>
     simp only[sO]at h;cases V:fV ops with
     | false=>simp[V,qPz]at h
     | true=>
      simp only[V,ze]at h;cases ho:drE P (O (evC P J O k)) (evC P J O k) (zJw P J (O (evC P J O k)) (evC P J O k)) (zIu (evC P J O k)) ops s with
      | none=>simp[ho,qPz]at h
      | some s1=>
       simp only[ho,qPz,za,z7]at h;obtain⟨rfl,rfl⟩:=h;exact qMc hm (hO _ hk) hk hcl hyd V ho hW W fun C w' B' Y' q k1 k2 k3 k4=>G.one k1 k2 k3 k4
   | rangeFunc g ps c1 c2=>
    simp only[sO]at h;cases hn:noR c1&&noR c2 with
    | false=>simp[hn]at h
    | true=>
     simp only[hn,ze]at h;simp only[zd]at hn;rcases hr with rfl | hr
     ·exact jCf hcl hW W hn.1 hn.2 h G
     ·simp[noR]at hr
   | goto l=>simp[sO]at h
   | refuse why=>simp[sO]at h
theorem qMg{e:Oo}{O:Rn→Po}(hm:P.follows .mixedOrders=true)(q:qCo P e)(j:∀rn,pU P rn→qR P (O rn)){k f m:Nat}{az:List T}{tv:T}{nw:Bool}(h:kM P (evC P e O k) m f az=some (tv,nw)):KnP P m f az tv nw:=
 zGl (fI hm (qXm hm q j k)) h
end
inductive Ar where
  | r (a:Raw)
  | i (n:Int)
  | b (b:Bool)
  | s (s:ByteArray)
inductive Rs where
  | one (a:Ar)
  | tup (l:List Ar)
def zBf:Nat→List T→Option (List Nat)
 | 0,_=>some []
 | _+1,[]=>none
 | n+1,t::l=>match t with
  | .v (.int .u32 (.ofNat x))=>bif Nat.blt x 4294967296 then(match zBf n l with | some r=>some (x::r) | none=>none)else none
  | _=>none
def zUj:T→Option (List Nat)
 | .v (.slice none 0 0)=>some []
 | .sl e n=>zBf n e
 | .st e n=>bif Nat.ble n 9223372036854775807 then zBf n e else none
 | _=>none
def arT:T→Option Ar
 | .v (.int .i64 n)=>some (.i n)
 | .v (.bool b)=>some (.b b)
 | .v (.string s)=>some (.s s)
 | .ag [.v (.bool b),x,y]=>(match zUj x,zUj y with
  | some l,some e=>some (.r ⟨b,l,e⟩)
  | _,_=>none)
 | _=>none
def zTd:List T→Option (List Ar)
 | []=>some []
 | t::l=>match arT t,zTd l with
  | some a,some r=>some (a::r)
  | _,_=>none
def unL(l:List Nat):T:= .sl (l.map fun(x:Nat)=>T.v (.int .u32 (.ofNat x))) l.length
def unA:Ar→T
 | .r a=> .ag [.v (.bool a.neg),unL a.ln,unL a.ld]
 | .i n=> .v (.int .i64 n)
 | .b b=> .v (.bool b)
 | .s s=> .v (.string s)
def unR:Rs→T
 | .one a=>unA a
 | .tup l=> .tu (l.map unA)
def ArV(X:Hid)(w:World):Ar→Value→Prop
 | .r a,v=>rU X w v a
 | .i n,v=>v= .int .i64 n
 | .b b,v=>v= .bool b
 | .s s,v=>v= .string s
def zSr(X:Hid)(w:World):List Ar→List Value→Prop
 | [],[]=>True
 | a::az,v::e=>ArV X w a v∧zSr X w az e
 | _,_=>False
def RsV(X:Hid)(w:World):Rs→Value→Prop
 | .one a,v=>ArV X w a v
 | .tup l,v=>∃e:List Value,v= .tuple e.toArray∧zSr X w l e
def KC(P:Program)(f:Nat)(p:List Ar→Option Rs)(nw:Bool):Prop:=
 ∀(w:World)(X:Hid)(_:∀b o,X b o→b<w.heap.size)(az:List Ar)(e:List Value)(_:zSr X w az e)(y:Rs),p az=some y→Calls P f e.toArray w (Ret E0 w fun w' v=>RsV (bif nw then old w else X) w' y v)
section
variable {B:Bm}{X:Hid}{w:World}
theorem zGs:∀{n:Nat}{j:List T}{l:List Nat},zBf n j=some l→l.length=n∧∀x∈l,x<4294967296
 | 0,_,l,h=>by simp[zBf]at h;subst h;simp
 | n+1,[],l,h=>by simp[zBf]at h
 | n+1,t::j,l,h=>by
  simp only[zBf]at h;split at h
  ·rename_i x;cases e:Nat.blt x 4294967296 with
   | false=>simp[e]at h
   | true=>
    simp only[e,ze]at h;cases q:zBf n j with
    | none=>simp[q]at h
    | some r=>
     simp only[q,za]at h;subst h;obtain⟨A,C⟩:=zGs q;rw[qz]at e;refine⟨by simp[A],fun y z=>?_⟩
     rcases qj.1 z with rfl | z
     ·exact e
     ·exact C y z
  ·cases h
theorem zQq:∀{n:Nat}{q:List T}{l:List Nat},zBf n q=some l→∀(j x:Nat),l[j]?=some x→q[j]?=some (.v (.int .u32 (.ofNat x)))
 | 0,_,l,h,j,x,e=>by simp[zBf]at h;subst h;simp at e
 | n+1,[],l,h,j,x,e=>by simp[zBf]at h
 | n+1,t::q,l,h,j,x,e=>by
  simp only[zBf]at h;split at h
  ·rename_i y;cases A:Nat.blt y 4294967296 with
   | false=>simp[A]at h
   | true=>
    simp only[A,ze]at h;cases z:zBf n q with
    | none=>simp[z]at h
    | some r=>
     simp only[z,za]at h;subst h;cases j with
     | zero=>simp at e;subst e;rfl
     | succ j=>exact zQq z j x (by simpa using e)
  ·cases h
theorem qDd{r:Rd}{b o n:Nat}{q:List T}{l:List Nat}(h:zBf n q=some l)(A:Cls B r b o q):At r ⟨b,o,none⟩ (U32 l):=by
 intro j v hv;simp only[U32,qw]at hv;cases e:l[j]? with
 | none=>rw[e]at hv;cases hv
 | some x=>
  rw[e]at hv;cases hv;obtain⟨v,y,z⟩:=A j _ (zQq h j x e);obtain⟨rfl,_⟩:=z.vI;rw[jT];exact y
theorem zNd{t:T}{l:List Nat}{v:Value}(h:zUj t=some l)(j:Rep B (rd w X) t v):∃ad n c,v= .slice ad n c∧zN (rd w X) ad n c l:=by
 unfold zUj at h;split at h
 ·cases h;obtain⟨rfl,_⟩:=j.vI;exact⟨none,0,0,rfl,zN.nil none (by omega)⟩
 ·rename_i G n;have z:=j;obtain⟨ad,c,rfl,I,C⟩:=j.slI;obtain⟨e,y⟩:=zGs h;refine⟨ad,n,c,rfl,e.symm,I,z.slB,y,?_⟩;rcases C with⟨rfl,rfl⟩ | ⟨b,o,rfl,A⟩
  ·left;exact uJ.1 e
  ·exact .inr ⟨b,o,rfl,qDd h A⟩
 ·rename_i G n;cases q:Nat.ble n 9223372036854775807 with
  | false=>simp[q]at h
  | true=>
   simp only[q,ze]at h;rw[qv]at q;obtain⟨ad,rfl,C⟩:=j.stI;obtain⟨e,y⟩:=zGs h;refine⟨ad,n,n,rfl,e.symm,zq _,q,y,?_⟩;rcases C with⟨rfl,rfl⟩ | ⟨b,o,rfl,A⟩
   ·left;exact uJ.1 e
   ·exact .inr ⟨b,o,rfl,qDd h A⟩
 ·cases h
theorem qDc{t:T}{a:Ar}{v:Value}(h:arT t=some a)(j:Rep B (rd w X) t v):ArV X w a v:=by
 unfold arT at h;split at h
 ·cases h;exact j.vI.1
 ·cases h;exact j.vI.1
 ·cases h;exact j.vI.1
 ·rename_i b x y;cases e:zUj x with
  | none=>simp[e]at h
  | some l=>
   cases q:zUj y with
   | none=>simp[e,q]at h
   | some V=>
    simp only[e,q,za]at h;subst h;obtain⟨I,rfl,z⟩:=j.agI;match I,z with
    | [v1,v2,v3],⟨g1,g2,A,_⟩=>
     obtain⟨rfl,_⟩:=g1.vI;obtain⟨J,W,N,rfl,C⟩:=zNd e g2;obtain⟨M,Z,U,rfl,G⟩:=zNd q A;exact⟨_,_,_,_,_,_,rfl,C,G⟩
 ·cases h
theorem zWe:∀{q:List T}{az:List Ar}{z:List Value},zTd q=some az→zP B (rd w X) q z→zSr X w az z
 | [],az,[],h,_=>by simp[zTd]at h;subst h;trivial
 | t::q,az,v::z,h,e=>by
  simp only[zTd]at h;cases j:arT t with
  | none=>simp[j]at h
  | some a=>
   cases y:zTd q with
   | none=>simp[j,y]at h
   | some r=>
    simp only[j,y,za]at h;subst h;exact⟨qDc j e.1,zWe y e.2⟩
 | [],_,_::_,_,e=>e.elim
 | _::_,_,[],_,e=>e.elim
theorem qKa{ad:Option Addr}{n c:Nat}{l:List Nat}(h:zN (rd w X) ad n c l):Rep B (rd w X) (unL l) (.slice ad n c):=by
 have e:=h.hlen;subst e;unfold unL;rcases h.hat with rfl | ⟨b,o,rfl,ha⟩
 ·exact .sl0 h.hbig
 ·have get:∀(j:Nat)(t:T),(l.map fun(x:Nat)=>T.v (.int .u32 (.ofNat x)))[j]?=some t→∃x,l[j]?=some x∧t= .v (.int .u32 (.ofNat x))∧l.getD j 0=x:=fun j t ht=>by
   rw[qw]at ht;cases q:l[j]? with
   | none=>rw[q]at ht;cases ht
   | some x=>rw[q]at ht;cases ht;exact⟨x,rfl,rfl,by simp[q]⟩
  refine .sl h.hcap (fun j=> .int .u32 (.ofNat (l.getD j 0))) (fun j t ht=>?_) (fun j t ht=>?_) h.hbig
  ·obtain⟨x,q,rfl,y⟩:=get j t ht;have:=ha j (.int .u32 (.ofNat x)) (by simp only[U32,qw,q];rfl)
   rw[jT]at this;rw[y];exact this
  ·obtain⟨x,q,rfl,y⟩:=get j t ht;rw[y];exact .v rfl
theorem qJz{a:Ar}{v:Value}(h:ArV X w a v):Rep B (rd w X) (unA a) v:=by
 cases a with
 | r a=>
  obtain⟨_,_,_,_,_,_,rfl,e,j⟩:=h;exact Rep.mkAg (vs:=[.bool a.neg,_,_]) ⟨.v rfl,qKa e,qKa j,trivial⟩
 | i n=>cases h;exact .v rfl
 | b b=>cases h;exact .v rfl
 | s s=>cases h;exact .v rfl
theorem zYz:∀{az:List Ar}{e:List Value},zSr X w az e→zP B (rd w X) (az.map unA) e
 | [],[],_=>trivial
 | _::_,_::_,h=>⟨qJz h.1,zYz h.2⟩
 | [],_::_,h=>h.elim
 | _::_,[],h=>h.elim
theorem jCz{y:Rs}{v:Value}(h:RsV X w y v):Rep B (rd w X) (unR y) v:=by
 cases y with
 | one a=>exact qJz h
 | tup l=>
  obtain⟨e,rfl,h⟩:=h;exact Rep.mkTu (zYz h)
end
def kcE(p:List Ar→Option Rs)(nw:Bool)(az:List T):Option (T×Bool):=match zTd az with
 | some az=>(match p az with
  | some y=>some (unR y,nw)
  | none=>none)
 | none=>none
theorem gM{P:Program}{f:Nat}{p:List Ar→Option Rs}{nw q:Bool}(I:KC P f p nw){az:List T}{tv:T}(h:kcE p nw az=some (tv,q))(k:Nat):KnP P k f az tv q:=by
 unfold kcE at h;cases z:zTd az with
 | none=>simp[z]at h
 | some j=>
  cases A:p j with
  | none=>simp[z,A]at h
  | some y=>
   simp only[z,A,za,z7]at h;obtain⟨rfl,rfl⟩:=h;intro B w X qQ R _ _ G C J;refine(I w X G j qQ (zWe z C) y A).mono ?_;rintro e w' ⟨M,v,rfl,hv⟩;exact J v w' M (jCz hv)
def elsO(r d:Option (T×Bool)):Option (T×Bool):=match r with
 | some x=>some x
 | none=>d
def xY:List (Nat×(List T→Option (T×Bool)))→Po
 | [],_,_=>none
 | (g,p)::l,f,az=>bif Nat.beq g f then elsO (p (az.map (unN 12))) (xY l f az)else xY l f az
theorem zIj{P:Program}{l:List (Nat×(List T→Option (T×Bool)))}{g:Nat}{p:List T→Option (T×Bool)}(hp:∀az tv nw,p az=some (tv,nw)→∀k,KnP P k g az tv nw)(j:qR P (xY l)):qR P (xY ((g,p)::l)):=by
 intro f az tv nw h k;simp only[xY]at h;cases e:Nat.beq g f with
 | true=>
  obtain rfl:=zV e;simp only[e,ze]at h;unfold elsO at h;split at h
  ·rename_i r q;cases h;exact(hp _ tv nw q k).unN
  ·exact j _ az tv nw h k
 | false=>
  simp only[e,zf]at h;exact j f az tv nw h k
theorem qJu{P:Program}:∀{l:List (Nat×(List T→Option (T×Bool)))},(∀g p,(g,p)∈l→∀az tv nw,p az=some (tv,nw)→∀k,KnP P k g az tv nw)→qR P (xY l)
 | [],_=>fun f az tv nw h=>by simp[xY]at h
 | (g,p)::l,e=>zIj (e g p qS) (qJu fun g p hm=>e g p (z6 _ hm))
def eqT:Nat→T→T→Bool
 | 0,_,_=>false
 | k+1,a,b=>match a,b with
  | .v x,.v y=>eqV x y
  | .sl e n,.sl j m=>Nat.beq n m&&fJ (eqT k) e j
  | .st e n,.st j m=>Nat.beq n m&&fJ (eqT k) e j
  | .fp e,.fp j=>fJ (eqT k) e j
  | .ag e,.ag j=>fJ (eqT k) e j
  | .tu e,.tu j=>fJ (eqT k) e j
  | .fn f e,.fn g j=>Nat.beq f g&&fJ (eqT k) e j
  | _,_=>false
def zBr(az:List T)(r:T×Bool)(bs:List T):Option (T×Bool):=bif fJ (eqT 12) az bs then some r else none
theorem aM:∀(k:Nat)(a b:T),eqT k a b=true→a=b
 | 0,a,b,h=>by cases h
 | k+1,a,b,h=>by
  simp only[eqT]at h;split at h
  ·rw[qEs h]
  ·simp only[zd]at h;rw[zV h.1,xA (aM k) h.2]
  ·simp only[zd]at h;rw[zV h.1,xA (aM k) h.2]
  ·rw[xA (aM k) h]
  ·rw[xA (aM k) h]
  ·rw[xA (aM k) h]
  ·simp only[zd]at h;rw[zV h.1,xA (aM k) h.2]
  ·cases h
section
variable {P:Program}{f:Nat}{az bs:List T}{tv:T}{nw:Bool}
theorem zKe{B q:Bm}{r:Rd}:∀{az:List T}{j:List Value},az.all (clean 12)=true→zP B r az j→zP q r az j
 | [],[],_,_=>trivial
 | a::az,v::j,h,e=>by
  simp only[x5,zd]at h;exact⟨wH 12 h.1 e.1,zKe h.2 e.2⟩
 | [],_::_,_,e=>e.elim
 | _::_,[],_,e=>e.elim
theorem KnP.clean(h:KnP P 0 f az tv nw)(ha:az.all (clean 12)=true)(ht:clean 12 tv=true)(k:Nat):KnP P k f az tv nw:=by
 intro B w X qQ R e _ q j y;exact h ⟨fun _=>none,0⟩ w X qQ R e (fun _ _=>rfl) q (zKe ha j) fun v w' z hv=>y v w' z (wH 12 ht hv)
theorem jCi(h:KnP P 0 f az tv nw)(z:(az.all (Ev.clean 12)&&Ev.clean 12 tv)=true){j:T}{e:Bool}(q:zBr az (tv,nw) bs=some (j,e))(k:Nat):KnP P k f bs j e:=by
 unfold zBr at q;cases y:fJ (eqT 12) az bs with
 | false=>simp[y]at q
 | true=>
  obtain rfl:=xA (aM 12) y;simp only[y,ze,za,z7]at q;obtain⟨rfl,rfl⟩:=q;simp only[zd]at z;exact h.clean z.1 z.2 k
theorem jBc{O:Po}(hm:P.follows .mixedOrders=true)(A:qR P O)(z:List Nat){rn:Rn}(y:pU P rn):qR P (orF P O z rn):=by
 intro f az tv nw h k;unfold orF at h;cases ho:O f az with
 | some r=>simp only[ho,za]at h;subst h;exact A f az tv nw ho k
 | none=>
  simp only[ho]at h;cases j:qYo f z&&(az.map (unN 12)).all (Ev.clean 12)with
  | false=>rw[j]at h;cases h
  | true=>
   simp only[j,ze]at h;simp only[zd]at j;cases q:kM P rn 0 f (az.map (unN 12))with
   | none=>simp[q,zTj]at h
   | some r=>
    obtain⟨t,b⟩:=r;simp only[q,zTj]at h;cases e:Ev.clean 12 t with
    | false=>simp[e]at h
    | true=>
     simp only[e,ze,za,z7]at h;obtain⟨rfl,rfl⟩:=h;exact((zGl (fI hm y) q).clean j.2 e k).unN
theorem sP{j:Oo}{O:Po}(hm:P.follows .mixedOrders=true)(z:qCo P j)(y:qR P O)(q:List Nat){n:Nat}(h:kM P (evC P j (orF P O q) n) 0 f az=some (tv,nw)):KnP P 0 f az tv nw:=
 qMg hm z (fun _ e=>jBc hm y q e) h
theorem qR.cons{l:List (Nat×(List T→Option (T×Bool)))}(j:qR P (xY l))(h:KnP P 0 f az tv nw)(e:(az.all (Ev.clean 12)&&Ev.clean 12 tv)=true):qR P (xY ((f,zBr az (tv,nw))::l)):=
 zIj (fun _ _ _ q k=>jCi h e q k) j
end
def pRR(g:Raw→Raw→Option (Raw×Int)):List Ar→Option Rs
 | [.r a,.r b]=>(match g a b with | some (c,e)=>some (.tup [.r c,.i e]) | none=>none)
 | _=>none
def pRI(g:Raw→Raw→Int×Int):List Ar→Option Rs
 | [.r a,.r b]=>some (.tup [.i (g a b).1,.i (g a b).2])
 | _=>none
def pR(g:Raw→Int):List Ar→Option Rs
 | [.r a]=>some (.one (.i (g a)))
 | _=>none
def pB(g:Raw→Raw→Bool):List Ar→Option Rs
 | [.r a,.r b]=>some (.one (.b (g a b)))
 | _=>none
def rF:Int→Bool
 | .ofNat n=>Nat.ble n 9223372036854775807
 | .negSucc n=>Nat.ble n 9223372036854775807
def nz:Int→Bool
 | .ofNat n=>!Nat.beq n 0
 | .negSucc _=>true
def pI(g:Int→Raw):List Ar→Option Rs
 | [.i n]=>bif rF n then some (.one (.r (g n)))else none
 | _=>none
def pII(g:Int→Int→Raw):List Ar→Option Rs
 | [.i n,.i m]=>bif(rF n&&rF m)&&nz m then some (.tup [.r (g n m),.i 0])else none
 | _=>none
theorem bB{n:Int}(h:rF n=true): -9223372036854775808≤n∧n≤9223372036854775807:=by
 cases n with
 | ofNat n=>simp only[rF,qv]at h;exact⟨by rw[j8];omega,by rw[j8];omega⟩
 | negSucc n=>simp only[rF,qv]at h;rw[wo];omega
theorem jEt{n:Int}(h:nz n=true):n≠0:=by
 cases n with
 | ofNat n=>simp only[nz]at h;intro e;cases n with
  | zero=>simp at h
  | succ n=>cases e
 | negSucc n=>simp
section
variable {P:Program}{f:Nat}
theorem zXc{g:Raw→Raw→Option (Raw×Int)}(h:∀(w:World)(X:Hid)(_:∀b o,X b o→b<w.heap.size)(a:Raw)(j:Value)(_:rU X w j a)(b:Raw)(q:Value)(_:rU X w q b)(y:Raw×Int),g a b=some y→
  Calls P f #[j,q] w (Ret E0 w fun w' v=>∃u,v= .tuple #[u,.int .i64 y.2]∧rU (old w) w' u y.1)):KC P f (pRR g) true:=by
 intro w X C az M hv y hp;unfold pRR at hp;split at hp
 ·rename_i a b;match M,hv with
  | [j,q],⟨ha,G,_⟩=>
   cases A:g a b with
   | none=>simp[A]at hp
   | some z=>
    obtain⟨c,e⟩:=z;simp only[A,za]at hp;subst hp;refine(h w X C a j ha b q G (c,e) A).mono ?_;rintro N w' ⟨J,v,rfl,u,rfl,I⟩;exact⟨J,_,rfl,[u,.int .i64 e],rfl,I,rfl,trivial⟩
 ·cases hp
theorem jEh{g:Raw→Raw→Int×Int}(h:∀(w:World)(X:Hid)(_:∀b o,X b o→b<w.heap.size)(a:Raw)(e:Value)(_:rU X w e a)(b:Raw)(j:Value)(_:rU X w j b),
  Calls P f #[e,j] w (Ret E0 w fun _ v=>v= .tuple #[.int .i64 (g a b).1,.int .i64 (g a b).2])):KC P f (pRI g) true:=by
 intro w X q az C hv y hp;unfold pRI at hp;split at hp
 ·rename_i a b;match C,hv with
  | [e,j],⟨ha,z,_⟩=>
   cases hp;refine(h w X q a e ha b j z).mono ?_;rintro G w' ⟨A,v,rfl,rfl⟩;exact⟨A,_,rfl,[.int .i64 (g a b).1,.int .i64 (g a b).2],rfl,rfl,rfl,trivial⟩
 ·cases hp
theorem kc_r{g:Raw→Int}(h:∀(w:World)(X:Hid)(_:∀b o,X b o→b<w.heap.size)(a:Raw)(e:Value)(_:rU X w e a),Calls P f #[e] w (Ret E0 w fun _ v=>v= .int .i64 (g a))):KC P f (pR g) true:=by
 intro w X j az z hv y hp;unfold pR at hp;split at hp
 ·rename_i a;match z,hv with
  | [e],⟨ha,_⟩=>
   cases hp;refine(h w X j a e ha).mono ?_;rintro A w' ⟨q,v,rfl,rfl⟩;exact⟨q,_,rfl,rfl⟩
 ·cases hp
theorem kc_b{g:Raw→Raw→Bool}(h:∀(w:World)(X:Hid)(_:∀b o,X b o→b<w.heap.size)(a:Raw)(e:Value)(_:rU X w e a)(b:Raw)(j:Value)(_:rU X w j b),
  Calls P f #[e,j] w (Ret E0 w fun _ v=>v= .bool (g a b))):KC P f (pB g) true:=by
 intro w X q az C hv y hp;unfold pB at hp;split at hp
 ·rename_i a b;match C,hv with
  | [e,j],⟨ha,z,_⟩=>
   cases hp;refine(h w X q a e ha b j z).mono ?_;rintro G w' ⟨A,v,rfl,rfl⟩;exact⟨A,_,rfl,rfl⟩
 ·cases hp
theorem kc_i{g:Int→Raw}(h:∀(w:World)(n:Int),-9223372036854775808≤n→n≤9223372036854775807→Calls P f #[.int .i64 n] w (Ret E0 w fun w' v=>rU (old w) w' v (g n))):KC P f (pI g) true:=by
 intro w X I az C hv y hp;unfold pI at hp;split at hp
 ·rename_i n;match C,hv with
  | [A],⟨e,_⟩=>
   have e:A= .int .i64 n:=e;subst e;cases j:rF n with
   | false=>simp[j]at hp
   | true=>
    simp only[j,ze,za]at hp;subst hp;refine(h w n (bB j).1 (bB j).2).mono ?_;rintro G w' ⟨z,v,rfl,q⟩;exact⟨z,_,rfl,q⟩
 ·cases hp
theorem qSp{g:Int→Int→Raw}(h:∀(w:World)(n m:Int),-9223372036854775808≤n→n≤9223372036854775807→ -9223372036854775808≤m→m≤9223372036854775807→m≠0→
  Calls P f #[.int .i64 n,.int .i64 m] w (Ret E0 w fun w' v=>∃u,v= .tuple #[u,.int .i64 0]∧rU (old w) w' u (g n m))):KC P f (pII g) true:=by
 intro w X M az I hv y hp;unfold pII at hp;split at hp
 ·rename_i n m;match I,hv with
  | [C,G],⟨j,q,_⟩=>
   have j:C= .int .i64 n:=j;have q:G= .int .i64 m:=q;subst j;subst q;cases e:(rF n&&rF m)&&nz m with
   | false=>simp[e]at hp
   | true=>
    simp only[e,ze,za]at hp;subst hp;simp only[zd]at e;refine(h w n m (bB e.1.1).1 (bB e.1.1).2 (bB e.1.2).1 (bB e.1.2).2 (jEt e.2)).mono ?_;rintro J w' ⟨A,v,rfl,u,rfl,z⟩;exact⟨A,_,rfl,[u,.int .i64 0],rfl,z,rfl,trivial⟩
 ·cases hp
end
inductive DT (α:Type) where
  | ret (a:α)
  | no
  | ite (b:Bool) (x y:DT α)
def DT.run{α:Type}:DT α→Option α
 | .ret a=>some a
 | .no=>none
 | .ite b x y=>bif b then x.run else y.run
def DT.bind{α β:Type}:DT α→(α→DT β)→DT β
 | .ret a,f=>f a
 | .no,_=> .no
 | .ite b x y,f=> .ite b (x.bind f) (y.bind f)
def ofO{α:Type}:Option α→DT α
 | some a=> .ret a
 | none=> .no
def grd{α:Type}(b:Bool)(d:DT α):DT α:= .ite b d .no
theorem run_bind{α β:Type}(f:α→DT β):∀d:DT α,(d.bind f).run=d.run.bind fun a=>(f a).run
 | .ret _=>rfl
 | .no=>rfl
 | .ite b x y=>by
  simp only[DT.bind,DT.run,run_bind f x,run_bind f y];cases b<;>rfl
theorem zM{α β:Type}{f:α→DT β}{d:DT α}{y:β}(h:(d.bind f).run=some y):∃a,d.run=some a∧(f a).run=some y:=by
 rw[run_bind]at h;exact fS.1 h
theorem xX{α:Type}(x:Option α):(ofO x).run=x:=by cases x<;>rfl
theorem zR{α:Type}{b:Bool}{d:DT α}{y:α}(h:(grd b d).run=some y):b=true∧d.run=some y:=by
 cases b with
 | true=>exact⟨rfl,h⟩
 | false=>cases h
abbrev Od:=Nat→Option (List T→DT (T×Bool))
abbrev Rd':=Nat→List Bool→Code→S→DT (Ex×S)
abbrev Lo:=Nat→List Bool→S→Option (DT (Ex×S))
def nng:Int→Bool
 | .ofNat _=>true
 | .negSucc _=>false
def qOk:T→DT Nat
 | .v (.int _ a)=>grd (nng a) (.ret a.toNat)
 | _=> .no
def inW:Int→Bool
 | .ofNat n=>Nat.blt n 9223372036854775808
 | .negSucc n=>Nat.blt n 9223372036854775808
def arD(a:Int):DT Value:=grd (inW a) (.ret (.int .i64 a))
def wq(a:Int):Int:=bif inW a then a else wr .i64 a
def arW(a:Int):DT Value:= .ret (.int .i64 (wq a))
def qYv:IntKind→Bool
 | .i64=>true
 | _=>false
def arOp:BinOp→Bool
 | .add | .sub | .mul | .eql | .neq | .lss | .leq | .gtr | .geq=>true
 | _=>false
def qVm(f:Bool)(op:BinOp)(k:IntKind)(a b:Int):DT Value:=bif qYv k then(match op with
 | .add=>bif f then arW (Int.add a b)else arD (Int.add a b)
 | .sub=>arD (Int.sub a b)
 | .mul=>arD (Int.mul a b)
 | _=>ofO (zZq op k a b))else ofO (zZq op k a b)
def zDn(t:T):DT (T×Option TO):= .ret (t,none)
def qVl(f:Bool)(op:BinOp)(x y:T):Option (DT (T×Option TO)):=match x,y with
 | .v (.int k a),.v (.int e b)=>bif arOp op then some (bif Nat.beq (kind k) (kind e)then(qVm f op k a b).bind (fun v=>zDn (.v v))else .no)else none
 | _,_=>none
def qIr(c a b:T):DT (T×Option TO):=match c with
 | .v (.bool c)=> .ite c (zDn a) (zDn b)
 | _=> .no
def qYs(P:Program)(t:TypeId)(x i:T):DT (T×Option TO):=(qOk i).bind fun n=>match P.underlying t with
 | some (.slice e)=>(match ldT P e with
  | some (_,s)=>(match x with
   | .ls g A l=>bif Nat.beq s A.size then grd (Nat.blt n l.length) (zDn (.fp (qE g A (nth A.zero l n))))else .no
   | .hv A l=>bif Nat.beq s A.size then grd (Nat.blt n l.length) (zDn (.fp (zCg A (nth A.zero l n))))else .no
   | .sl q m=>grd (Nat.blt n m) (zDn (.fp (jJ q (n*s))))
   | .st q m=>grd (Nat.blt n m) (zDn (.fp (jJ q (n*s))))
   | .os j o m _=>grd (Nat.blt n m) (zDn (.op j (o+n*s)))
   | .og j o m=>grd (Nat.blt n m) (zDn (.op j (o+n*s)))
   | _=> .no)
  | none=> .no)
 | _=>ofO (sK P t x (.v (.int .i64 (.ofNat n))))
def jBb(ρ:Operand→T)(d:Nat):Option Operand→DT Nat
 | some x=>qOk (ρ x)
 | none=> .ret d
def jCn(P:Program)(t:TypeId)(g:Tg)(A:Ty)(l:List A.den)(ρ:Operand→T)(q j:Option Operand):DT (T×Option TO):=match elT P t with
 | some e=>(match ldT P e with
  | some (_,s)=>bif Nat.beq s A.size then(jBb ρ 0 q).bind fun a=>(jBb ρ l.length j).bind fun b=>grd (Nat.ble a b) (grd (Nat.ble b l.length) (zDn (.ls g A ((l.drop a).take (b-a)))))else .no
  | none=> .no)
 | none=> .no
def qSo:Operand→Bool
 | .tmp _=>true
 | _=>false
def zHs(P:Program)(ρ:Operand→T)(op:Op):Option (DT (T×Option TO)):=match op with
 | .binOp op _ x y _=>qVl (qSo x&&qSo y) op (dn (ρ x)) (dn (ρ y))
 | .pick c a b=>some (qIr (ρ c) (ρ a) (ρ b))
 | .indexAddr t x i=>some (qYs P t (dn (ρ x)) (dn (ρ i)))
 | .slice t x j e none=>(match dn (ρ x)with
  | .ls g A l=>some (jCn P t g A l (fun y=>dn (ρ y)) j e)
  | _=>none)
 | _=>none
def zZn(P:Program)(e:TypeId)(s:Nat):Bool:=match zer P e with
 | some z=>Nat.beq (ln z) s&&Nat.blt 0 s
 | none=>false
def apN(P:Program)(e:TypeId):Nat:=match P.info? e with
 | some i=>apM i.bytes
 | none=>0
def qDr{α:Type}(c:Cs)(n s:Nat)(d:DT α):DT α:=match c with
 | .l e=>grd (Nat.beq (ln e) (n*s)) d
 | .d _ A x=>bif Nat.beq s A.size then grd (Nat.beq n x.length) d else .no
def apG(H:List TO)(e:TypeId)(s:Nat)(y:T)(b:List T)(i o n m:Nat):TO→DT (T×List TO)
 | .gro j q=>bif Nat.beq o 0&&Nat.beq e q then qDr j n s (.ret (.og (ln H) 0 (n+m),put .gone H i++[.gro (j.apY y b) e]))else .no
 | _=> .no
def ap1(H:List TO)(e:TypeId)(s:Nat)(y:T)(b:List T)(m:Nat):T→DT (T×List TO)
 | .og i o n=>apG H e s y b i o n m (nth .gone H i)
 | x=>(match qJ H s x,jH x with
  | some a,some n=>ofO (qLf H e s y a b n m x)
  | _,_=> .no)
def apL(P:Program)(e:TypeId)(s:Nat)(x:T)(m:Nat)(d:DT (T×List TO)):DT (T×List TO):=match jH x with
 | some n=>bif zZn P e s then grd (Nat.ble (n+m) (apN P e)) d else .no
 | none=> .no
def zXr(y:T)(b:List T):Bool:=match y with
 | .ls .. =>true
 | _=>vT b
def qRv(H:List TO)(s:Nat)(x:T)(o n:Nat):TO→DT (T×List TO)
 | .gro e _=>bif Nat.beq o 0 then qDr e n s (.ret (x,H))else .no
 | _=> .no
def qDa(H:List TO)(s:Nat):T→DT (T×List TO)
 | .og i o n=>qRv H s (.og i o n) o n (nth .gone H i)
 | x=>(match qJ H s x,jH x with
  | some _,some _=>ofO (qLd H x)
  | _,_=> .no)
def apD(P:Program)(H:List TO)(t:TypeId)(x y:T):DT (T×List TO):=match elT P t with
 | none=> .no
 | some e=>match ldT P e with
  | none=> .no
  | some (_,s)=>match qJ H s y,jH y with
   | some b,some m=> .ite (Nat.beq m 0) (qDa H s x) (bif zXr y b then apL P e s x m (ap1 H e s y b m x)else .no)
   | _,_=> .no
def poR(OD:Od):Po:=fun f az=>match OD f with
 | some g=>(g az).run
 | none=>none
def zGv{α β:Type}(f:α→DT β):List α→DT (List β)
 | []=> .ret []
 | t::l=>(f t).bind fun x=>(zGv f l).bind fun r=> .ret (x::r)
def qFd(nw:Bool)(o n:Nat):TO→Option (DT T)
 | .gro (.d g A x) _=>some (bif Nat.beq o 0&&(gN A&&(!nw||g.isN))then grd (Nat.beq n x.length) (.ret (.ls .a A x.reverse))else .no)
 | _=>none
def bX(nw:Bool)(H:List TO):Nat→T→DT T
 | 0,_=> .no
 | k+1,t=>match t with
  | .ag e=>(zGv (bX nw H k) e).bind fun l=> .ret (.ag l)
  | .tu e=>(zGv (bX nw H k) e).bind fun l=> .ret (.tu l)
  | .fn f e=>(zGv (bX nw H k) e).bind fun l=> .ret (.fn f l)
  | .os i o n c=>bif Nat.ble n c&&Nat.ble c 9223372036854775807 then(match pQ (nth .gone H i)with
   | some e=>(zGv (bX nw H k) (jJ e o)).bind fun l=> .ret (.sl l n)
   | none=> .no)else .no
  | .og i o n=>(match qFd nw o n (nth .gone H i)with
   | some d=>d
   | none=>(match pQ (nth .gone H i)with
    | some e=>(zGv (bX nw H k) (jJ e o)).bind fun l=> .ret (.sl l n)
    | none=> .no))
  | .op i o=>(match pQ (nth .gone H i)with
   | some e=>(zGv (bX nw H k) (jJ e o)).bind fun l=> .ret (.fp l)
   | none=> .no)
  | t=>ofO (yC nw H (k+1) t)
def zNm(H:List TO):Nat→T→Bool
 | 0,_=>false
 | k+1,t=>match t with
  | .v _=>true
  | .ls g _ _=>g.isN
  | .sl [] 0=>true
  | .st [] 0=>true
  | .sn e _=>e.all (zNm H k)
  | .ag e=>e.all (zNm H k)
  | .tu e=>e.all (zNm H k)
  | .fn _ e=>e.all (zNm H k)
  | .os i o _ _=>(match pQ (nth .gone H i)with
   | some e=>(jJ e o).all (zNm H k)
   | none=>false)
  | .og i o _=>(match nth .gone H i with
   | .gro (.d g _ _) _=>g.isN
   | x=>(match pQ x with
    | some e=>(jJ e o).all (zNm H k)
    | none=>false))
  | .op i o=>(match pQ (nth .gone H i)with
   | some e=>(jJ e o).all (zNm H k)
   | none=>false)
  | _=>false
def qF(r:T×List TO):DT (T×Bool):=(bX (zNm r.2 12 r.1) r.2 12 r.1).bind fun t=> .ret (t,zNm r.2 12 r.1)
def newD(H:List TO):T×Bool→DT (T×List TO)
 | (t,true)=> .ret (mkN 12 t,H)
 | (_,false)=> .no
def poD(g:List T→DT (T×Bool))(H:List TO)(az:List T):DT (T×List TO):=bif qAv az then(zGv (bX false H 12) az).bind fun az=>(g az).bind (newD H)
 else(g az).bind fun r=> .ret (bif r.2 then mkN 12 r.1 else r.1,H)
def jCc(P:Program)(fn:Func):Ex×S→DT (T×List TO)
 | (.x _,_)=> .no
 | (.p _,_)=> .no
 | (_,s)=>(match dE P s.L s.H fn.results.toList with
  | some r=> .ret (zRm r,s.H)
  | none=> .no)
def qC(P:Program)(rn:Rd')(f:Nat)(az:List T)(H:List TO):DT (T×List TO):=match P.funcs[f]? with
 | none=> .no
 | some fn=>match fn.body with
  | none=> .no
  | some c=>bif Nat.ble (ln az) fn.ntmps then(rn f [] c ⟨rest fn.ntmps az,H⟩).bind (jCc P fn)else .no
def vY(m:Nat):Nat→T→Bool
 | 0,_=>false
 | k+1,t=>match t with
  | .sl e _=>e.all (vY m k)
  | .sn e _=>e.all (vY m k)
  | .st e _=>e.all (vY m k)
  | .fp e=>e.all (vY m k)
  | .ag e=>e.all (vY m k)
  | .tu e=>e.all (vY m k)
  | .fn _ e=>e.all (vY m k)
  | .fb _ e=>e.all (vY m k)
  | .os i _ _ _=>Nat.blt i m
  | .og i _ _=>Nat.blt i m
  | .op i _=>Nat.blt i m
  | .om i=>Nat.blt i m
  | .yl i=>Nat.blt i m
  | _=>true
def gcO(m:Nat):TO→Bool
 | .row e _=>e.all (vY m 12)
 | .gro (.d _ _ _) _=>true
 | .gro (.l e) _=>e.all (vY m 12)
 | .gone=>true
 | _=>false
def gcD(H:List TO)(r:T×List TO):DT (T×List TO):=bif vY (ln H) 12 r.1&&(r.2.take (ln H)).all (gcO (ln H))then .ret (r.1,r.2.take (ln H))else .ret r
def qDj(P:Program)(OD:Od)(rn:Rd')(f:Nat)(az:List T)(H:List TO):DT (T×List TO):=match OD f with
 | some g=>poD g H az
 | none=>(qC P rn f az H).bind (gcD H)
def qVp(P:Program)(OD:Od)(rn:Rd')(az:List T)(H:List TO):T→DT (T×List TO)
 | .fn f e=>bif jX P f then qDj P OD rn f (az++e) H else .no
 | .fb f bs=>bif jX P f then qDj P OD rn f (bs++az) H else .no
 | _=> .no
def qXo(d:Option Nat)(L:List T)(r:T×List TO):DT S:= .ret ⟨dst d r.1 L,r.2⟩
def noC:Cl:=fun _ _ _=>none
def qSa(P:Program)(OD:Od)(rn:Rd')(o:Oper)(L:List T)(H:List TO)(c:Call):DT S:=match c.callee with
 | .value f=>(qVp P OD rn (c.args.toList.map (evO L)) H (evO L f)).bind (qXo o.dst L)
 | .builtin .append=>(match c.args.toList,c.argTypes.toList with
  | [x,y],[t,e]=>bif Nat.beq t e then(apD P H t (evO L x) (evO L y)).bind (qXo o.dst L)else .no
  | _,_=> .no)
 | _=>ofO (fZ P noC noC o L H)
def qOt(P:Program)(OD:Od)(rn:Rd')(o:Oper)(L:List T)(H:List TO):DT S:=match zHs P (evO L) o.op with
 | some d=>d.bind fun r=>ofO (zPw o.dst L H r)
 | none=>match o.op with
  | .call c=>qSa P OD rn o L H c
  | _=>ofO (fZ P noC noC o L H)
inductive Gd where
  | no
  | free
  | skip
  | on (t:Nat) (c b:Bool)
def gdT(ops:Array Oper)(L:List T)(o:Oper):Gd:=match o.guard with
 | none=> .free
 | some (j,b)=>match(match ops[j]? with | some p=>p.dst | none=>none)with
  | some t=>(match nth .u L t with
   | .v (.bool c)=> .on t c b
   | .tu []=> .skip
   | _=> .no)
  | none=> .no
def onS{α:Type}(L:List T)(t:Nat)(c b:Bool)(y n:List T→DT α):DT α:= .ite c (bif b then y (put (.v (.bool true)) L t)else n (put (.v (.bool true)) L t)) (bif b then n (put (.v (.bool false)) L t)else y (put (.v (.bool false)) L t))
def opD(P:Program)(OD:Od)(rn:Rd')(ops:Array Oper)(o:Oper)(s:S):DT S:=match gdT ops s.L o with
 | .no=> .no
 | .free=>qOt P OD rn o s.L s.H
 | .skip=> .ret ⟨dst o.dst (.tu []) s.L,s.H⟩
 | .on t c b=>onS s.L t c b (fun L=>qOt P OD rn o L s.H) (fun L=> .ret ⟨dst o.dst (.tu []) L,s.H⟩)
def qHt(P:Program)(OD:Od)(rn:Rd')(ops:Array Oper):List Oper→S→DT S
 | [],s=> .ret s
 | o::l,s=>(opD P OD rn ops o s).bind (qHt P OD rn ops l)
def frsD(P:Program)(rn:Rd')(k f:Nat)(az:List T):DT (T×Bool):=(qC P rn f (az.map (unN 12)) (gJ k)).bind qF
def puD(P:Program)(OD:Od)(rn:Rd')(k f:Nat)(az:List T):DT (T×Bool):=match OD f with
 | some g=>g az
 | none=>frsD P rn k f az
def newH:T×Bool→DT (T×Option TO)
 | (t,true)=>zDn (mkN 12 t)
 | (_,false)=> .no
def jBr(P:Program)(OD:Od)(rn:Rd')(k:Nat)(H:List TO)(f:Nat)(az:List T):DT (T×Option TO):=bif qAv az then(zGv (bX false H 12) az).bind fun az=>(puD P OD rn k f az).bind newH
 else(puD P OD rn k f az).bind fun r=>zDn (bif r.2 then mkN 12 r.1 else r.1)
def abG(q:List TO)(e:TypeId)(s:Nat)(y:T)(b:List T)(o n m:Nat):TO→DT (T×Option TO)
 | .gro j z=>bif Nat.beq o 0&&Nat.beq e z then qDr j n s (.ret (.og (ln q) 0 (n+m),some (.gro (j.apY y b) e)))else .no
 | _=> .no
def abX(P:Program)(j q:List TO)(e:TypeId)(s:Nat)(t:TypeId)(x y:T)(b:List T)(m:Nat):T→DT (T×Option TO)
 | .og i o n=>abG q e s y b o n m (nth .gone j i)
 | _=>ofO (zZo P j q none t x y)
def abD(P:Program)(q j:List TO)(t:TypeId)(x y:T):DT (T×Option TO):=match elT P t with
 | none=> .no
 | some e=>match ldT P e with
  | none=> .no
  | some (_,s)=>match qJ j s y,jH y,jH x with
   | some b,some m,some n=>bif vT b&&zZn P e s then grd (!Nat.beq m 0) (grd (Nat.ble (n+m) (apN P e)) (abX P q j e s t x y b m x))else .no
   | _,_,_=> .no
def hcaD(P:Program)(OD:Od)(rn:Rd')(k:Nat)(j H e:List TO)(L:List T)(o:Oper)(c:Call):DT (T×Option TO):=match c.callee with
 | .value f=>(match evO L f with
  | .fn f q=>bif jX P f then jBr P OD rn k e f (c.args.toList.map (evO L)++q)else .no
  | _=> .no)
 | .builtin .append=>(match c.args.toList,c.argTypes.toList with
  | [x,y],[t,z]=>bif Nat.beq t z then abD P j e t (evO L x) (evO L y)else .no
  | _,_=> .no)
 | _=>ofO (mK P (fun _ _=>none) j H e L o)
def qFo(P:Program)(OD:Od)(rn:Rd')(k:Nat)(e H j:List TO)(L:List T)(o:Oper):DT (T×Option TO):=match zHs P (evO L) o.op with
 | some d=>d
 | none=>match o.op with
  | .call c=>hcaD P OD rn k e H j L o c
  | _=>ofO (mK P (fun _ _=>none) e H j L o)
def zUd(g:List TO→List T→DT (List (T×Option TO)))(o:Oper)(e:List TO)(L:List T)(z:T×Option TO):DT (List (T×Option TO)):=(g (nxH e z.2) (dst o.dst z.1 L)).bind fun j=> .ret (z::j)
def zJb(P:Program)(OD:Od)(rn:Rd')(k:Nat)(e H:List TO)(ops:Array Oper):List Oper→List TO→List T→DT (List (T×Option TO))
 | [],_,_=> .ret []
 | o::l,j,L=>match gdT ops L o with
  | .no=> .no
  | .free=>(qFo P OD rn k e H j L o).bind (zUd (zJb P OD rn k e H ops l) o j L)
  | .skip=>zUd (zJb P OD rn k e H ops l) o j L (.tu [],none)
  | .on t c b=>onS L t c b (fun L=>(qFo P OD rn k e H j L o).bind (zUd (zJb P OD rn k e H ops l) o j L)) (fun L=>zUd (zJb P OD rn k e H ops l) o j L (.tu [],none))
def noHd(OD:Od)(L:List T)(o:Oper):Bool:=match o.op with
 | .store .. | .mapUpdate .. =>true
 | .call c=>(match c.callee with
  | .builtin .copy=>true
  | _=>false)
 | _=>false
def hdN(OD:Od)(ops:Array Oper)(L:List T):List Oper→List Nat→Nat→Nat
 | [],_,i=>i
 | o::l,seen,i=>bif zOh o seen||(noHd OD L o||(qSn o&&tlK ops i))then i else hdN OD ops L l (zSe o seen) (i+1)
def mvL(L:List T)(o:Oper):List T:=match o.op with
 | .move x=>dst o.dst (evO L x) L
 | .assign x=>dst o.dst (evO L x) L
 | _=>dst o.dst .u L
def ksS(L:List T):List Oper→List (Option Nat)
 | []=>[]
 | o::l=>pV L o.op::ksS (mvL L o) l
def qJv(P:Program)(OD:Od)(rn:Rd')(ops:Array Oper)(e:List Nat):List Oper→S→DT S
 | [],s=> .ret s
 | o::l,s=>(opD P OD rn ops o s).bind fun s=>bif emp e then qJv P OD rn ops e l s else grd (nK P ops s e) (qJv P OD rn ops e l s)
def drT(P:Program)(OD:Od)(rn:Rd')(ops:Array Oper)(m:Nat)(j:List TO)(s:S)(e:List (T×Option TO)):DT S:=
 bif Nat.ble m ops.size&&(qEj ops m&&zNa j (ksE ops.toList e s.L))then(bif emp (aT ops m)then qJv P OD rn ops [] (ops.toList.drop m) ⟨kP ops.toList e s.L,xZ (ksE ops.toList e s.L) s.H++qM e⟩
  else grd (nK P ops ⟨kP ops.toList e s.L,xZ (ksE ops.toList e s.L) s.H++qM e⟩ (aT ops m)) (qJv P OD rn ops (aT ops m) (ops.toList.drop m) ⟨kP ops.toList e s.L,xZ (ksE ops.toList e s.L) s.H++qM e⟩))else .no
def drH(P:Program)(OD:Od)(rn:Rd')(ops:Array Oper)(m:Nat)(e:List TO)(s:S):DT S:=
 (zJb P OD rn (ln s.H+ops.size) s.H e ops (ops.toList.take m) e s.L).bind (drT P OD rn ops m e s)
def drD(P:Program)(OD:Od)(rn:Rd')(ops:Array Oper)(s:S):DT S:=
 drH P OD rn ops (hdN OD ops s.L ops.toList [] 0) (xZ (ksS s.L (ops.toList.take (hdN OD ops s.L ops.toList [] 0))) s.H) s
def seqD(rn:S→DT (Ex×S)):Ex×S→DT (Ex×S)
 | (.n,s)=>rn s
 | r=> .ret r
def blkD(id:Nat):Ex×S→DT (Ex×S)
 | (.x j,s)=> .ret (bif Nat.beq j id then .n else .x j,s)
 | r=> .ret r
def qLu(x y:S→DT (Ex×S))(s:S):Operand→DT (Ex×S)
 | .tmp t=>(match nth .u s.L t with
  | .v (.bool b)=> .ite b (x ⟨put (.v (.bool true)) s.L t,s.H⟩) (y ⟨put (.v (.bool false)) s.L t,s.H⟩)
  | _=> .no)
 | c=>(match evO s.L c with
  | .v (.bool b)=> .ite b (x s) (y s)
  | _=> .no)
def qOe(r:S→DT (Ex×S)):Nat→S→DT (Ex×S)
 | 0,_=> .no
 | n+1,s=>(r s).bind (seqD (qOe r n))
def norD(s:S):DT (Ex×S):= .ret (.n,s)
def qBi(P:Program)(OD:Od)(LO:Lo)(rn:Rd')(f:Nat)(p:List Bool)(c:Code)(s:S):DT (Ex×S):=match c with
 | .skip=> .ret (.n,s)
 | .label _=> .ret (.n,s)
 | .seq x y=>(rn f (false::p) x s).bind (seqD (rn f (true::p) y))
 | .cond c x y=>qLu (rn f (false::p) x) (rn f (true::p) y) s c
 | .block id x=>(rn f (false::p) x s).bind (blkD id)
 | .exit id=> .ret (.x id,s)
 | .ret=> .ret (.r,s)
 | .scope x=>rn f (false::p) x s
 | .loop x=>(match LO f p s with
  | some d=>d
  | none=>qOe (rn f (false::p) x) 5000 s)
 | .region _ ops false=>bif fV ops then(qHt P OD rn ops ops.toList s).bind norD else .no
 | .region _ ops true=>bif fV ops then(drD P OD rn ops s).bind norD else .no
 | _=> .no
def evD(P:Program)(OD:Od)(LO:Lo):Nat→Rd'
 | 0=>fun _ _ _ _=> .no
 | k+1=>qBi P OD LO (evD P OD LO k)
def zCu:T→Bool
 | .v _=>true
 | .ls _ _ _=>true
 | _=>false
def zEf:T→Option T
 | .v x=>some (.v x)
 | .ls g A l=>some (.ls g A l)
 | .hv A l=>some (.hv A l)
 | .ag e=>bif e.all zCu then some (.ag e)else none
 | _=>none
section
variable {P:Program}{E:Nat→Prop}{w0:World}{X:Hid}{F:List Nat}{H H':List TO}{B B':Bm}{w:World}{Y:Hid}{Mo:List (Nat×Obj)}{r:Rd}{m:Nat}
theorem Rep.low(A:∀i,i<m→B' i=B i)(C:B'.N=B.N):∀(k:Nat){t:T}{v:Value},vY m k t=true→Rep B r t v→Rep B' r t v
 | 0,_,_,h,_=>by cases h
 | k+1,t,y,h,Z=>by
  have z:∀{M:List T},M.all (vY m k)=true→∀(j:Nat)(t:T),M[j]?=some t→vY m k t=true:=fun h j t e=>qa.1 h t (qk e);have I:∀{i:Nat},Nat.blt i m=true→i<m:=fun h=>by rwa[qz]at h
  cases Z with
  | u=>exact .u
  | v hs=>exact .v hs
  | sl J f q g hm=>simp only[vY]at h;exact .sl J f q (fun j t e=>Rep.low A C k (z h j t e) (g j t e)) hm
  | sl0 hm=>exact .sl0 hm
  | sn J f q g hm hb=>simp only[vY]at h;exact .sn J f q (fun j t e=>Rep.low A C k (z h j t e) (g j t e)) hm (fun j t e=>C▸hb j t e)
  | sn0 hm=>exact .sn0 hm
  | st f q g=>simp only[vY]at h;exact .st f q fun j t e=>Rep.low A C k (z h j t e) (g j t e)
  | st0=>exact .st0
  | fp f q g=>simp only[vY]at h;exact .fp f q fun j t e=>Rep.low A C k (z h j t e) (g j t e)
  | ag f G q g=>simp only[vY]at h;exact .ag f G q fun j t e=>Rep.low A C k (z h j t e) (g j t e)
  | tu f G q g=>simp only[vY]at h;exact .tu f G q fun j t e=>Rep.low A C k (z h j t e) (g j t e)
  | fn f G q g=>simp only[vY]at h;exact .fn f G q fun j t e=>Rep.low A C k (z h j t e) (g j t e)
  | fb f G q g=>simp only[vY]at h;exact .fb f G q fun j t e=>Rep.low A C k (z h j t e) (g j t e)
  | os q=>exact .os (by rw[A _ (I h)];exact q)
  | og q U V W=>exact .og (by rw[A _ (I h)];exact q) U V W
  | op q=>exact .op (by rw[A _ (I h)];exact q)
  | om q=>exact .om (by rw[A _ (I h)];exact q)
  | yl q=>exact .yl (by rw[A _ (I h)];exact q)
  | ls q=>exact .ls (jF.mono (Le.refl _) (fun b k=>k.eqN C.symm) _ _ _ q)
  | hv q=>exact .hv (nZ.mono (Le.refl _) (fun b k=>k.eqN C.symm) _ _ _ q)
theorem aQ{t:T}(h:zCu t=true)(q:B'.N=B.N){v:Value}(e:Rep B r t v):Rep B' r t v:=by
 unfold zCu at h;split at h
 ·obtain⟨rfl,y⟩:=e.vI;exact .v y
 ·cases e with
  | ls j=>exact .ls (jF.mono (Le.refl _) (fun b k=>k.eqN q.symm) _ _ _ j)
 ·cases h
theorem zEh(y:B'.N=B.N):∀{j:List T}{q:List Value},j.all zCu=true→zP B r j q→zP B' r j q
 | [],[],_,_=>trivial
 | t::j,v::q,h,e=>by
  simp only[x5,zd]at h;exact⟨aQ h.1 y e.1,zEh y h.2 e.2⟩
 | [],_::_,_,e=>e.elim
 | _::_,[],_,e=>e.elim
theorem zPt{t j:T}(h:zEf t=some j):j=t:=by
 unfold zEf at h;split at h
 ·cases h;rfl
 ·cases h;rfl
 ·cases h;rfl
 ·rename_i q;cases e:q.all zCu with
  | false=>rw[e]at h;cases h
  | true=>rw[e]at h;cases h;rfl
 ·cases h
theorem zKf{t z:T}(h:zEf t=some z)(e:B'.N=B.N){v:Value}(j:Rep B r t v):Rep B' r z v:=by
 obtain rfl:=zPt h;unfold zEf at h;split at h
 ·exact aQ rfl e j
 ·exact aQ rfl e j
 ·cases j with
  | hv C=>exact .hv (nZ.mono (Le.refl _) (fun b k=>k.eqN e.symm) _ _ _ C)
 ·rename_i A;cases y:A.all zCu with
  | false=>rw[y]at h;cases h
  | true=>
   obtain⟨G,rfl,q⟩:=j.agI;exact Rep.mkAg (zEh e y q)
 ·cases h
theorem Wd.re(h:Wd P E w0 X F H B w Y Mo)(q:Nat→Option Nat)(hN:B'.N=B.N)(hn:∀i,H'.length≤i→B' i=none)
  (Z:∀(i:Nat)(o:TO),H'[i]?=some o→vO o=true→∃j y,q i=some j∧B' i=B j∧H[j]?=some y∧vO y=true∧∀C ob,RO P B (rd w Y) C y ob→RO P B' (rd w Y) C o ob)
  (hf:∀(i:Nat)(A:List T),H'[i]?≠some (.fz A)) (hi:∀(i j k:Nat)(y o2:TO),H'[i]?=some y→vO y=true→H'[j]?=some o2→vO o2=true→q i=some k→q j=some k→i=j):Wd P E w0 X F H' B' w Y Mo:=
 ⟨h.st,fun i o ho hl=>by
  obtain⟨j,y,_,I,M,V,e5⟩:=Z i o ho hl;obtain⟨b,C,ob,g1,g2,g3⟩:=h.ob j y M V;exact⟨b,C,ob,by rw[I];exact g1,g2,e5 C ob g3⟩,fun i A hc=>absurd hc (hf i A),hn,fun i j oi oj p p' h1 l1 h2 l2 hp z e=>by
  obtain⟨a,y,e1,I,M,V,_⟩:=Z i oi h1 l1;obtain⟨a',o1',G,J,U,W,_⟩:=Z j oj h2 l2;rw[I]at hp;rw[J]at z;have:=h.inj a a' y o1' p p' M V U W hp z e;subst this;exact hi i j a oi oj h1 l1 h2 l2 e1 G,by rw[hN];exact h.bN,h.iv⟩
theorem cZ{g:Tg}{A:Ty}(y:B'.N=B.N):∀{j:List T}{q:List Value},(∀t∈j,∃z,zEf t=some z)→zP B r j q→zP B' r j q
 | [],[],_,_=>trivial
 | t::j,v::q,h,e=>by
  obtain⟨z,ht⟩:=h t qS;obtain rfl:=zPt ht;exact⟨zKf ht y e.1,cZ (g:=g) (A:=A) y (fun t ht=>h t (z6 _ ht)) e.2⟩
 | [],_::_,_,e=>e.elim
 | _::_,[],_,e=>e.elim
theorem pX(g:Tg):∀(A:Ty)(x:A.den),∀t∈qE g A x,∃e,zEf t=some e
 | .lim,_,t,h=>by simp only[qE,vA]at h;subst h;exact⟨_,rfl⟩
 | .int _,_,t,h=>by simp only[qE,vA]at h;subst h;exact⟨_,rfl⟩
 | .bool,_,t,h=>by simp only[qE,vA]at h;subst h;exact⟨_,rfl⟩
 | .str,_,t,h=>by simp only[qE,vA]at h;subst h;exact⟨_,rfl⟩
 | .list _,_,t,h=>by simp only[qE,vA]at h;subst h;exact⟨_,rfl⟩
 | .prod A C,x,t,h=>by
  rcases wb.1 h with h | h
  ·exact pX g A _ t h
  ·exact pX g C _ t h
theorem aN(g:Tg)(A:Ty):∀(l:List A.den),∀t∈qP g A l,∃e,zEf t=some e
 | [],t,h=>by cases h
 | x::l,t,h=>by
  rcases wb.1 h with h | h
  ·exact aN g A l t h
  ·exact pX g A x t h
theorem zP.low(y:∀i,i<m→B' i=B i)(z:B'.N=B.N):∀{j:List T}{q:List Value},j.all (vY m 12)=true→zP B r j q→zP B' r j q
 | [],[],_,_=>trivial
 | t::j,v::q,h,e=>by
  simp only[x5,zd]at h;exact⟨Rep.low y z 12 h.1 e.1,zP.low y z h.2 e.2⟩
 | [],_::_,_,e=>e.elim
 | _::_,[],_,e=>e.elim
theorem qXt(G:∀i,i<m→B' i=B i)(q:B'.N=B.N){C:Nat}{o:TO}{U:Obj}(h:gcO m o=true)(y:RO P B r C o U):RO P B' r C o U:=by
 cases y with
 | row j=>exact .row (zP.low G q h j)
 | @gro z e c V J M I j=>
  cases z with
  | l z=>exact .gro J M I (zP.low (m:=m) G q h j)
  | d g A x=>exact .gro J M I (cZ (g:=g) (A:=A) q (aN g A x) j)
 | map=>cases h
 | mapd=>cases h
 | loop=>cases h
theorem Kn.gc{f:Nat}{az:List T}{tv:T}{H':List TO}(h:Kn P f az H tv H')(ht:vY H.length 12 tv=true)(ho:(H'.take H.length).all (gcO H.length)=true):Kn P f az H tv (H'.take H.length):=by
 intro E w0 X F B w Y Mo qQ R J hR hk;refine h E w0 X F B w Y Mo qQ R J hR fun v w' B' Y' G M k2 U k4=>?_;let A:Bm:=⟨fun i=>if i<H.length then B' i else none,B'.N⟩
 have z:∀i,i<H.length→A i=B' i:=fun i q=>qn q;have y:∀(i:Nat)(o:TO),(H'.take H.length)[i]?=some o→gcO H.length o=true∧i<H.length∧H'[i]?=some o:=fun i o e=>by
  refine⟨qa.1 ho o (qk e),?_⟩;rw[qi]at e;split at e
  ·rename_i q;exact⟨q,e⟩
  ·cases e
 refine hk v w' A Y' G (M.re (H':=H'.take H.length) (B':=A) (fun i=>some i) rfl (fun i q=>?_) (fun i o e hl=>?_) (fun i cs e=>?_) (fun i j k p1 p2 g1 l1 g2 l2 W Z=>by cases W;cases Z;rfl)) (Rep.low z rfl 12 ht k2) ⟨fun i p e=>?_,U.n⟩ k4
 ·show(if i<H.length then B' i else none)=none
  rw[jo]at q;split
  ·rename_i h1;exact M.nn i (by omega)
  ·rfl
 ·obtain⟨g,q,V⟩:=y i o e;exact⟨i,o,rfl,z i q,V,hl,fun C ob I=>qXt z rfl g I⟩
 ·obtain⟨g,_,_⟩:=y i _ e;cases g
 ·have q:i<H.length:=by
   rcases qg i H.length with h | h
   ·exact h
   ·rw[J.nn i h]at e;cases e
  rw[z i q];exact U i p e
end
def aB:Bool→Code→Option Code
 | false,.seq x _=>some x
 | true,.seq _ y=>some y
 | false,.cond _ x _=>some x
 | true,.cond _ _ y=>some y
 | false,.block _ x=>some x
 | false,.scope x=>some x
 | false,.loop x=>some x
 | _,_=>none
def cAt(P:Program)(f:Nat):List Bool→Option Code
 | []=>(P.funcs[f]?).bind fun fn=>fn.body
 | b::p=>(cAt P f p).bind (aB b)
def Tr(P:Program)(c:Code)(s:S)(e:Ex)(s':S):Prop:=
 ∀(E:Nat→Prop)(w0:World)(X:Hid)(F:List Nat)(n:Nat)(a:Act)(D:List Deferred)(B:Bm)(w:World)(Y:Hid)(Mo:List (Nat×Obj))(rr:Option Nat)(Q:Exit→Act→World→Prop),
  (rr=none∨noR c=true)→Wd P E w0 X F s.H B w Y Mo→FrT n a s.L D B (rd w Y)→gZ P E w0 X F n D (noR c) e s' B (rd w Y) Q→c.wpIn (FF rr) 0 P Q a w
def wC(P:Program)(LO:Lo):Prop:=∀f p s d,LO f p s=some d→∀x,cAt P f p=some (.loop x)→∀e s',d.run=some (e,s')→Tr P (.loop x) s e s'
def vD(P:Program)(OD:Od):Prop:=∀f g,OD f=some g→∀az tv nw,(g az).run=some (tv,nw)→∀k,KnP P k f az tv nw
def gQ(P:Program)(rn:Rd'):Prop:=∀f p c s e s',cAt P f p=some c→(rn f p c s).run=some (e,s')→Tr P c s e s'
section
variable {P:Program}{OD:Od}{LO:Lo}{rn:Rd'}{H H':List TO}{L:List T}{ops:Array Oper}{o:Oper}{s s':S}
theorem vD.po(h:vD P OD):qR P (poR OD):=by
 intro f az tv nw e;unfold poR at e;cases j:OD f with
 | none=>simp[j]at e
 | some g=>rw[j]at e;exact h f g j az tv nw e
theorem qGr{t:T}{n:Nat}(h:(qOk t).run=some n):rX t=some n:=by
 unfold qOk at h;split at h
 ·rename_i a;obtain⟨e,j⟩:=zR h;cases a with
  | ofNat m=>cases j;rfl
  | negSucc m=>cases e
 ·cases h
theorem zQh{a:Int}(h:inW a=true):i64.wrap a=a:=by
 have j: -9223372036854775808≤a∧a<9223372036854775808:=by
  cases a with
  | ofNat n=>simp only[inW,qz]at h;simp only[j8];omega
  | negSucc n=>simp only[inW,qz]at h;omega
 have e:i64.wrap a=if a % 18446744073709551616≥9223372036854775808 then a % 18446744073709551616-18446744073709551616 else a % 18446744073709551616:=by
  unfold IntKind.wrap;simp[IntKind.bits,IntKind.signed]
 rw[e];split<;>omega
theorem zTc{a:Int}{v:Value}(h:(arD a).run=some v):v= .int .i64 (wr .i64 a):=by
 obtain⟨e,j⟩:=zR h;cases j;rw[qKi,zQh e]
theorem qVd{a:Int}{v:Value}(h:(arW a).run=some v):v= .int .i64 (wr .i64 a):=by
 cases h;unfold wq;cases e:inW a with
 | true=>rw[ze,qKi,zQh e]
 | false=>rfl
theorem qNm{k:IntKind}(h:qYv k=true):k= .i64:=by cases k<;>first | rfl | cases h
theorem qLl{f:Bool}{op:BinOp}{k:IntKind}{a b:Int}{v:Value}(h:(qVm f op k a b).run=some v):zZq op k a b=some v:=by
 unfold qVm at h;cases e:qYv k with
 | false=>rw[e,zf,xX]at h;exact h
 | true=>
  rw[e,ze]at h;obtain rfl:=qNm e;split at h
  ·cases f with
   | true=>rw[qVd h];rfl
   | false=>rw[zTc h];rfl
  ·rw[zTc h];rfl
  ·rw[zTc h];rfl
  ·rw[xX]at h;exact h
theorem tT{t:T}{z:T×Option TO}(h:(zDn t).run=some z):val t=some z:=by cases h;rfl
theorem qLj{f:Bool}{op:BinOp}{x y:T}{d:DT (T×Option TO)}{z:T×Option TO}(h:qVl f op x y=some d)(j:d.run=some z)(t:TypeId):qAx P op t x y=some z:=by
 unfold qVl at h;split at h
 ·rename_i k a C b;cases ha:arOp op with
  | false=>simp[ha]at h
  | true=>
   simp only[ha,ze,za]at h;subst h;cases e:Nat.beq (kind k) (kind C)with
   | false=>simp[e,DT.run]at j
   | true=>
    simp only[e,ze]at j;obtain⟨v,q,A⟩:=zM j;simp only[qAx,bin,e,ze,qLl q];exact tT A
 ·cases h
theorem qPo{c a b:T}{z:T×Option TO}(h:(qIr c a b).run=some z):zLi c a b=some z:=by
 unfold qIr at h;unfold zLi;split at h
 ·rename_i c;cases c with
  | true=>exact tT h
  | false=>exact tT h
 ·cases h
theorem qYt{t:TypeId}{x i:T}{z:T×Option TO}(h:(qYs P t x i).run=some z):sK P t x i=some z:=by
 unfold qYs at h;obtain⟨n,G,j⟩:=zM h;have G:=qGr G;unfold sK;simp only[G];split at j
 ·rename_i e he;simp only[he];cases I:ldT P e with
  | none=>simp[I,DT.run]at j
  | some J=>
   obtain⟨g,s⟩:=J;simp only[I]at j ⊢;split at j
   ·rename_i M A l;cases C:Nat.beq s A.size with
    | false=>simp[C,DT.run]at j
    | true=>
     simp only[C,ze]at j;obtain⟨q,y⟩:=zR j;simp only[C,q,jf,ze];exact tT y
   ·rename_i A l;cases C:Nat.beq s A.size with
    | false=>simp[C,DT.run]at j
    | true=>
     simp only[C,ze]at j;obtain⟨q,y⟩:=zR j;simp only[C,q,jf,ze];exact tT y
   ·obtain⟨q,y⟩:=zR j;simp only[q,ze];exact tT y
   ·obtain⟨q,y⟩:=zR j;simp only[q,ze];exact tT y
   ·obtain⟨q,y⟩:=zR j;simp only[q,ze];exact tT y
   ·obtain⟨q,y⟩:=zR j;simp only[q,ze];exact tT y
   ·cases j
 ·rw[xX]at j;unfold sK at j;simp only[rX]at j;exact j
theorem qHw{ρ:Operand→T}{d n:Nat}{x:Option Operand}(h:(jBb ρ d x).run=some n):opt ρ d x=some n:=by
 cases x with
 | none=>cases h;rfl
 | some x=>exact qGr h
theorem jCo{t:TypeId}{g:Tg}{A:Ty}{l:List A.den}{ρ:Operand→T}{G y:Option Operand}{z:T×Option TO}(h:(jCn P t g A l ρ G y).run=some z):nR P t (.ls g A l) ρ G y none=some z:=by
 unfold jCn at h;unfold nR;cases he:elT P t with
 | none=>simp[he,DT.run]at h
 | some e=>
  simp only[he]at h ⊢;cases C:ldT P e with
  | none=>simp[C,DT.run]at h
  | some I=>
   obtain⟨q,s⟩:=I;simp only[C]at h ⊢;cases j:Nat.beq s A.size with
   | false=>simp[j,DT.run]at h
   | true=>
    simp only[j,ze]at h;obtain⟨a,J,h⟩:=zM h;obtain⟨b,M,h⟩:=zM h;obtain⟨N,h⟩:=zR h;obtain⟨U,h⟩:=zR h;simp only[jH,qHw J,qHw M,tQ,nV,j,N,U,jf,ze,qBl];exact tT h
theorem zRo{ρ:Operand→T}{op:Op}{d:DT (T×Option TO)}{z:T×Option TO}(h:zHs P ρ op=some d)(j:d.run=some z)(H:List TO)(k:Nat):xC P H k ρ op=some z:=by
 unfold zHs at h;split at h
 ·exact qLj h j _
 ·cases h;exact qPo j
 ·cases h;exact qYt j
 ·rename_i t x C q;split at h
  ·rename_i g A l e;cases h;show nR P t (dn (ρ x)) (fun y=>dn (ρ y)) C q none=some z;rw[e];exact jCo j
  ·cases h
 ·cases h
theorem qIt{ρ:Operand→T}{op:Op}{d:DT (T×Option TO)}(h:zHs P ρ op=some d):∀c,op≠.call c:=by
 intro c e;subst e;cases h
theorem zMa{e:TypeId}{s N:Nat}(h:zZn P e s=true)(q:Nat.ble N (apN P e)=true):zAj P e s N=true:=by
 unfold zZn at h;unfold zAj;unfold apN at q;cases y:P.info? e with
 | none=>
  cases j:zer P e with
  | none=>simp[j]at h
  | some z=>obtain⟨i,v,A,_⟩:=lI j;rw[y]at A;cases A
 | some i=>
  cases j:zer P e with
  | none=>simp[j]at h
  | some z=>
   simp only[y,j,zd]at h q ⊢;exact⟨h.1,q,h.2⟩
theorem zMh{α:Type}{c:Cs}{n s:Nat}{d:DT α}{y:α}(h:(qDr c n s d).run=some y):Nat.beq (ln c.list) (n*s)=true∧d.run=some y:=by
 unfold qDr at h;split at h
 ·exact zR h
 ·rename_i g A x;cases j:Nat.beq s A.size with
  | false=>simp[j,DT.run]at h
  | true=>
   rw[j,ze]at h;obtain⟨e,q⟩:=zR h;obtain rfl:=zV j;have e:=zV e;refine⟨?_,q⟩;show Nat.beq (ln (qP g A x)) (n*A.size)=true;rw[qU,vX,e];exact cG _
theorem zQz{i o n s:Nat}{e:Cs}{q:TypeId}(h:nth .gone H i= .gro e q)(ho:Nat.beq o 0=true)(j:Nat.beq (ln e.list) (n*s)=true):qJ H s (.og i o n)=some e.list:=by
 obtain rfl:=zV ho;have j:=zV j;rw[qU]at j;simp only[qJ,h,mW];rw[nE,xd,←j];exact dK e.list
theorem aW(g:Tg):∀(A:Ty)(x:A.den),vT (qE g A x)=true
 | .lim,_=>rfl
 | .int _,_=>rfl
 | .bool,_=>rfl
 | .str,_=>rfl
 | .list _,_=>rfl
 | .prod A C,x=>by
  have e:∀(u v:List T),vT u=true→vT v=true→vT (u++v)=true:=fun u v j q=>by
   induction u with
   | nil=>exact q
   | cons a u y=>
    simp only[vT,zd]at j;simp only[x8,vT,zd];exact⟨j.1,y j.2⟩
  exact e _ _ (aW g A _) (aW g C _)
theorem zLf(g:Tg)(A:Ty):∀l:List A.den,vT (yA g A l)=true
 | []=>rfl
 | x::l=>by
  have e:∀(u v:List T),vT u=true→vT v=true→vT (u++v)=true:=fun u v j q=>by
   induction u with
   | nil=>exact q
   | cons a u y=>
    simp only[vT,zd]at j;simp only[x8,vT,zd];exact⟨j.1,y j.2⟩
  exact e _ _ (aW g A x) (zLf g A l)
theorem qHh{y:T}{b:List T}{s:Nat}(e:qJ H s y=some b)(h:zXr y b=true):vT b=true:=by
 unfold zXr at h;split at h
 ·rename_i g A l;simp only[qJ]at e;cases j:Nat.beq s A.size with
  | false=>simp[j]at e
  | true=>
   simp only[j,ze,za]at e;subst e;exact zLf g A l
 ·exact h
theorem qLe{s:Nat}{x:T}{v:T×List TO}(h:(qDa H s x).run=some v):∃a n,qJ H s x=some a∧jH x=some n∧qLd H x=some v:=by
 unfold qDa at h;split at h
 ·rename_i i o n;unfold qRv at h;split at h
  ·rename_i C G A;cases e:Nat.beq o 0 with
   | false=>simp[e,DT.run]at h
   | true=>
    rw[e,ze]at h;obtain⟨y,z⟩:=zMh h;cases z;exact⟨_,_,zQz A e y,rfl,rfl⟩
  ·cases h
 ·split at h
  ·rename_i a n j q;rw[xX]at h;exact⟨a,n,j,q,h⟩
  ·cases h
theorem jDu{t:TypeId}{x y:T}{v:T×List TO}(h:(apD P H t x y).run=some v):zTb P H t x y=some v:=by
 unfold apD at h;cases he:elT P t with
 | none=>simp[he,DT.run]at h
 | some e=>
  simp only[he]at h;cases J:ldT P e with
  | none=>simp[J,DT.run]at h
  | some W=>
   obtain⟨q,s⟩:=W;simp only[J]at h;cases j:qJ H s y with
   | none=>simp[j,DT.run]at h
   | some b=>
    cases hm:jH y with
    | none=>simp[j,hm,DT.run]at h
    | some m=>
     simp only[j,hm]at h;cases C:Nat.beq m 0 with
     | true=>
      rw[C]at h;simp only[DT.run,ze]at h;obtain⟨a,n,G,I,Z⟩:=qLe h;unfold zTb;simp only[he,J,j,hm,G,I,C,ze];exact Z
     | false=>
      rw[C]at h;simp only[DT.run,zf]at h;cases ho:zXr y b with
      | false=>simp[ho,DT.run]at h
      | true=>
       rw[ho,ze]at h;have ho:=qHh j ho;unfold apL at h;cases z:jH x with
       | none=>simp[z,DT.run]at h
       | some n=>
        simp only[z]at h;cases ha:zZn P e s with
        | false=>simp[ha,DT.run]at h
        | true=>
         rw[ha,ze]at h;obtain⟨G,U⟩:=zR h;clear h;have h:=U;clear U;unfold zTb;simp only[he,J,j,hm,z];unfold ap1 at h;split at h
         ·rename_i i o n';simp only[jH,za]at z;subst z;unfold apG at h;split at h
          ·rename_i cs V N;cases A:Nat.beq o 0&&Nat.beq e V with
           | false=>simp[A,DT.run]at h
           | true=>
            rw[A,ze]at h;obtain⟨I,h⟩:=zMh h;simp only[zd]at A;simp only[zQz N A.1 I,C,zf,zMa ha G,ho,jf,ze,qLf,qVb,N,A.1,A.2,I];exact h
          ·cases h
         ·cases M:qJ H s x with
          | none=>simp[M,DT.run]at h
          | some a=>
           simp only[M,z,xX]at h;simp only[C,zf,zMa ha G,ho,jf,ze];exact h
def clD(P:Program)(OD:Od)(rn:Rd'):Cl:=fun f az H=>(qDj P OD rn f az H).run
theorem qEp(C:gQ P rn){f:Nat}{az:List T}{v:T×List TO}(h:(qC P rn f az H).run=some v):∃r:Rn,pU P r∧nO P r f az H=some v:=by
 unfold qC at h;cases z:P.funcs[f]? with
 | none=>simp[z,DT.run]at h
 | some fn=>
  simp only[z]at h;cases y:fn.body with
  | none=>simp[y,DT.run]at h
  | some c=>
   simp only[y]at h;cases A:Nat.ble (ln az) fn.ntmps with
   | false=>simp[A,DT.run]at h
   | true=>
    rw[A,ze]at h;obtain⟨⟨e,s⟩,N,j⟩:=zM h;have U:cAt P f []=some c:=by simp[cAt,z,y]
    refine⟨fun I G=>open Classical in if I=c then(rn f [] c G).run else none,fun I G J s' he=>?_,?_⟩
    ·simp only at he;split at he
     ·rename_i M;subst M;exact C f [] _ G J s' U he
     ·cases he
    ·unfold nO;simp only[z,y,A,ze,j7,N];cases e with
     | x id=>cases j
     | p t=>cases j
     | n=>
      simp only[jCc]at j;simp only[zRx];cases q:dE P s.L s.H fn.results.toList with
      | none=>rw[q]at j;cases j
      | some r=>rw[q]at j;exact j
     | r=>
      simp only[jCc]at j;simp only[zRx];cases q:dE P s.L s.H fn.results.toList with
      | none=>rw[q]at j;cases j
      | some r=>rw[q]at j;exact j
theorem bP{f:T→DT T}{g:T→Option T}(e:∀x y,(f x).run=some y→g x=some y):∀(l:List T){r:List T},(zGv f l).run=some r→vZ g l=some r
 | [],r,h=>by cases h;rfl
 | x::l,r,h=>by
  obtain⟨y,j,q⟩:=zM h;obtain⟨r',z,A⟩:=zM q;cases A;simp only[vZ,e _ _ j,bP e l z]
theorem zFc{nw:Bool}:∀(k:Nat)(t:T){C:T},(bX nw H k t).run=some C→yC nw H k t=some C
 | 0,t,C,h=>by cases h
 | k+1,t,C,h=>by
  have Z:∀(t:T){C:T},(bX nw H k t).run=some C→yC nw H k t=some C:=fun t C h=>zFc k t h;have J:∀(l:List T){r:List T},(zGv (bX nw H k) l).run=some r→vZ (yC nw H k) l=some r:=fun l r h=>bP (fun x y h=>Z x h) l h;cases t with
  | ag M=>obtain⟨l,j,q⟩:=zM h;cases q;simp only[yC,J _ j]
  | tu M=>obtain⟨l,j,q⟩:=zM h;cases q;simp only[yC,J _ j]
  | fn f M=>obtain⟨l,j,q⟩:=zM h;cases q;simp only[yC,J _ j]
  | os i o n c=>
   simp only[bX]at h;simp only[yC];cases I:Nat.ble n c&&Nat.ble c 9223372036854775807 with
   | false=>rw[I]at h;cases h
   | true=>
    rw[I,ze]at h;rw[ze];cases ho:pQ (nth .gone H i)with
    | none=>simp[ho,DT.run]at h
    | some M=>
     simp only[ho]at h;obtain⟨l,j,q⟩:=zM h;cases q;simp only[J _ j]
  | og i o n=>
   simp only[bX]at h;simp only[yC];have V:∀x,qFd nw o n x=none→zTz nw o n x=none:=fun x U=>by
    unfold qFd at U;unfold zTz;split at U
    ·cases U
    ·rename_i N;split
     ·rename_i g A z e;exact absurd rfl (N g A z e)
     ·rfl
   cases G:qFd nw o n (nth .gone H i)with
   | some d=>
    simp only[G]at h;unfold qFd at G;split at G
    ·rename_i g A x e W;cases G;cases I:Nat.beq o 0&&(gN A&&(!nw||g.isN))with
     | false=>rw[I]at h;cases h
     | true=>
      rw[I,ze]at h;obtain⟨j,q⟩:=zR h;cases q;simp only[zTz,W,I,j,jf,ze]
    ·cases G
   | none=>
    simp only[G]at h;simp only[V _ G];cases ho:pQ (nth .gone H i)with
    | none=>simp[ho,DT.run]at h
    | some M=>
     simp only[ho]at h;obtain⟨l,j,q⟩:=zM h;cases q;simp only[J _ j]
  | op i o=>
   simp only[bX]at h;simp only[yC];cases ho:pQ (nth .gone H i)with
   | none=>simp[ho,DT.run]at h
   | some M=>
    simp only[ho]at h;obtain⟨l,j,q⟩:=zM h;cases q;simp only[J _ j]
  | _=>simp only[bX,xX]at h;exact h
theorem jBq{g:List T→DT (T×Bool)}{f:Nat}{az:List T}{v:T×List TO}(q:OD f=some g)(h:(poD g H az).run=some v):poC (poR OD) H f az=some v.1∧v.2=H:=by
 unfold poD at h;unfold poC;cases ho:qAv az with
 | true=>
  rw[ho,ze]at h;rw[ze];obtain⟨z,hm,h⟩:=zM h;rw[bP (fun x y h=>zFc 12 x h) _ hm];obtain⟨⟨t,b⟩,j,e⟩:=zM h
  ·simp only[poR,q,j];cases b with
   | true=>cases e;exact⟨rfl,rfl⟩
   | false=>cases e
 | false=>
  rw[ho,zf]at h;rw[zf];obtain⟨⟨t,b⟩,j,e⟩:=zM h;simp only[poR,q,j];cases e;exact⟨rfl,rfl⟩
theorem qDt(hm:P.follows .mixedOrders=true)(U:vD P OD)(G:gQ P rn):kV P (clD P OD rn):=by
 intro f az H tv H' h;unfold clD qDj at h;cases C:OD f with
 | some g=>
  simp only[C]at h;obtain⟨y,z⟩:=jBq C h;simp only at y z;subst z;intro E w0 X F B w Y Mo qQ R j N A;exact qIu (k:=H'.length) (fun f az tv nw h=>U.po f az tv nw h _) y j.ow j.ivw j.bNle j.st.lt j.nn N fun v w' I hv=>A v w' B Y Mo (j.call I) hv (BLe.refl B) (I.le Y)
 | none=>
  simp only[C]at h;obtain⟨⟨t,J⟩,M,e⟩:=zM h;obtain⟨r,y,z⟩:=qEp G M;have A:=zCk y _ _ _ _ _ z;unfold gcD at e;simp only[qU]at e;cases q:vY H.length 12 t&&(J.take H.length).all (gcO H.length)with
  | false=>rw[q]at e;cases e;exact A
  | true=>
   rw[q]at e;cases e;simp only[zd]at q;exact A.gc q.1 q.2
theorem qGw:xS P noC:=fun _ _ _ _ _ h=>by cases h
theorem jAv{cl j yd q:Cl}{d:Option Nat}{op:Op}(h:∀c f,op= .call c→c.callee≠.value f):opC P cl yd d L H op=opC P j q d L H op:=by
 cases op with
 | call c=>
  simp only[opC];split
  ·rename_i f e;exact absurd e (h c f rfl)
  ·rfl
 | _=>rfl
theorem zXt{cl cl' yd yd':Cl}(h:∀c f,o.op= .call c→c.callee≠.value f):fZ P cl yd o L H=fZ P cl' yd' o L H:=by
 unfold fZ zRb;rw[jAv h]
theorem qVq{az:List T}{t:T}{d:Option Nat}{cl:Cl}(j:∀f az H,cl f az H=(qDj P OD rn f az H).run)(h:((qVp P OD rn az H t).bind (qXo d L)).run=some s')(yd:Cl):zEc P cl yd d L H az t=some s':=by
 obtain⟨⟨v,H'⟩,e,q⟩:=zM h;unfold qVp at e;unfold zEc;split at e
 ·rename_i f y;cases he:jX P f with
  | false=>simp[he,DT.run]at e
  | true=>
   rw[he,ze]at e;simp only[he,ze,j,e,zCn];exact q
 ·rename_i f bs;cases he:jX P f with
  | false=>simp[he,DT.run]at e
  | true=>
   rw[he,ze]at e;simp only[he,ze,j,e,zCn];exact q
 ·cases e
theorem zXs(h:(qOt P OD rn o L H).run=some s'):fZ P (clD P OD rn) noC o L H=some s':=by
 unfold qOt at h;cases hp:zHs P (evO L) o.op with
 | some d=>
  simp only[hp]at h;obtain⟨z,J,I⟩:=zM h;rw[xX]at I;unfold fZ;rw[zRo hp J];exact I
 | none=>
  simp only[hp]at h;have nc:(∀c,o.op≠.call c)→(ofO (fZ P noC noC o L H)).run=some s'→fZ P (clD P OD rn) noC o L H=some s':=fun Z h=>by
   rw[xX]at h;rw[zXt (cl':=noC) (yd':=noC) fun c f e=>absurd e (Z c)];exact h
  split at h
  ·rename_i c A;unfold qSa at h;split at h
   ·rename_i f C;unfold fZ;have q:xC P H (ln H) (evO L) o.op=none:=by
     rw[A];simp only[xC,zEi];rw[C]
    rw[q];simp only[zRb];have j:zCj P H (evO L) o.op=none:=by
     rw[A];simp only[zCj];rw[C]
    rw[j];have:opC P (clD P OD rn) noC o.dst L H o.op=some s':=by
     rw[A];simp only[opC];rw[C];exact qVq (OD:=OD) (rn:=rn) (fun _ _ _=>rfl) h noC
    simp only[this]
   ·rename_i C;split at h
    ·rename_i x y t t' V W;cases M:Nat.beq t t' with
     | false=>simp[M,DT.run]at h
     | true=>
      rw[M,ze]at h;obtain⟨⟨v,H'⟩,J,I⟩:=zM h;have j:zCj P H (evO L) o.op=some (some v,H'):=by
       rw[A];simp only[zCj];rw[C,V,W];simp only[M,ze,jDu J]
      have q:xC P H (ln H) (evO L) o.op=none:=by
       rw[A];simp only[xC,zEi];rw[C]
      unfold fZ;rw[q];simp only[zRb,j,zPx];exact I
    ·cases h
   ·rename_i G U;rw[xX]at h;rw[zXt (cl':=noC) (yd':=noC) fun c' f e=>by rw[A]at e;cases e;exact G f]
    exact h
  ·rename_i N;exact nc N h
theorem zHu:∀(L:List T)(t:Nat){x:T},nth .u L t=x→x≠.u→put x L t=L
 | [],_,_,h,e=>absurd h.symm e
 | y::L,0,x,h,_=>by rw[zQy]at h;rw[zRp,h]
 | y::L,t+1,x,h,e=>by rw[mV]at h;rw[zHv,zHu L t h e]
theorem qSi(L:List T)(o:Oper):(gdT ops L o= .free→kR ops L o=some true)∧(gdT ops L o= .skip→kR ops L o=some false)∧∀t c b,gdT ops L o= .on t c b→kR ops L o=some (zZp c b)∧nth .u L t= .v (.bool c):=by
 unfold gdT kR;cases N:o.guard with
 | none=>simp
 | some G=>
  obtain⟨j,J⟩:=G;cases e:ops[j]? with
  | none=>simp[e]
  | some p=>
   cases hd:p.dst with
   | none=>simp[e,hd]
   | some t=>
    cases q:nth .u L t with
    | v z=>cases z<;>simp[e,hd,q]<;>(first | (intro U M I y A C;subst y;subst A;subst C;exact⟨rfl,q⟩) | skip)
    | tu l=>cases l<;>simp[e,hd,q]
    | _=>simp[e,hd,q]
theorem qVv{X Y:S→DT (Ex×S)}{s:S}{c:Operand}{z:Ex×S}(h:(qLu X Y s c).run=some z):∃b,evO s.L c= .v (.bool b)∧((bif b then X else Y) s).run=some z:=by
 cases c with
 | tmp t=>
  simp only[qLu]at h;split at h
  ·rename_i b e;have hp:put (.v (.bool b)) s.L t=s.L:=zHu s.L t e (by simp)
   refine⟨b,e,?_⟩;cases b<;>simp only[DT.run,ze,zf,hp]at h ⊢<;>exact h
  ·cases h
 | _=>
  simp only[qLu]at h;split at h
  ·rename_i b e;refine⟨b,e,?_⟩;cases b<;>exact h
  ·cases h
theorem qHg{α:Type}{L:List T}{t:Nat}{c b:Bool}{y n:List T→DT α}{z:α}(e:nth .u L t= .v (.bool c))(h:(onS L t c b y n).run=some z):(zZp c b=true∧(y L).run=some z)∨(zZp c b=false∧(n L).run=some z):=by
 have hp:put (.v (.bool c)) L t=L:=zHu L t e (by simp)
 unfold onS at h;simp only[DT.run]at h;cases c<;>cases b<;>simp only[ze,zf,hp]at h<;>first | exact .inl ⟨rfl,h⟩ | exact .inr ⟨rfl,h⟩
theorem qHi(h:(opD P OD rn ops o s).run=some s'):opE P (clD P OD rn) noC ops o s=some s':=by
 unfold opD at h;unfold opE;obtain⟨g1,g2,q⟩:=qSi (ops:=ops) s.L o;cases j:gdT ops s.L o with
 | no=>rw[j]at h;cases h
 | free=>rw[j]at h;rw[g1 j];exact zXs h
 | skip=>rw[j]at h;rw[g2 j];exact h
 | on t c b=>
  rw[j]at h;obtain⟨y,z⟩:=q t c b j;rw[y];rcases qHg z h with⟨e,h⟩ | ⟨e,h⟩
  ·rw[e];exact zXs h
  ·rw[e];exact h
theorem zRf:∀(l:List Oper)(s:S),(qHt P OD rn ops l s).run=some s'→zRg P (clD P OD rn) noC ops l s=some s'
 | [],s,h=>h
 | o::l,s,h=>by
  obtain⟨q,e,j⟩:=zM h;simp only[zRg,qHi e];exact zRf l q j
def poH(P:Program)(OD:Od)(rn:Rd')(k:Nat):Po:=fun f az=>(puD P OD rn k f az).run
theorem qFb(hm:P.follows .mixedOrders=true)(e:gQ P rn){k f:Nat}{az:List T}{t tv:T}{j:List TO}{nw:Bool}(q:(qC P rn f (az.map (unN 12)) (gJ k)).run=some (t,j))(y:(qF (t,j)).run=some (tv,nw)):KnP P k f az tv nw:=by
 obtain⟨r,C,he⟩:=qEp e q;obtain⟨G,z,A⟩:=zM y;cases A;exact zCr (rn:=r) (fI hm C) (by unfold fH;rw[he]) (zFc 12 _ z)
theorem jBp(hm:P.follows .mixedOrders=true)(z:vD P OD)(j:gQ P rn){k f:Nat}{az:List T}{tv:T}{nw:Bool}(h:poH P OD rn k f az=some (tv,nw)):KnP P k f az tv nw:=by
 unfold poH puD at h;cases e:OD f with
 | some g=>simp only[e]at h;exact z f g e az tv nw h k
 | none=>
  simp only[e]at h;obtain⟨⟨t,A⟩,q,y⟩:=zM h;exact qFb hm j q y
theorem jBs{k f:Nat}{az:List T}{z:T×Option TO}(h:(jBr P OD rn k H f az).run=some z):∃t,poC (poH P OD rn k) H f az=some t∧z=(t,none):=by
 unfold jBr at h;unfold poC;cases ho:qAv az with
 | true=>
  rw[ho,ze]at h;rw[ze];obtain⟨q,hm,h⟩:=zM h;rw[bP (fun x y h=>zFc 12 x h) _ hm];obtain⟨⟨t,b⟩,j,e⟩:=zM h
  ·simp only[poH,j];cases b with
   | true=>cases e;exact⟨_,rfl,rfl⟩
   | false=>cases e
 | false=>
  rw[ho,zf]at h;rw[zf];obtain⟨⟨t,b⟩,j,e⟩:=zM h;simp only[poH,j];cases e;exact⟨_,rfl,rfl⟩
theorem jDs{N I:List TO}{t:TypeId}{x y:T}{z:T×Option TO}(h:(abD P N I t x y).run=some z):(∀i o n,x= .og i o n→zZo P N I (some i) t x y=some z)∧((∀i o n,x≠.og i o n)→zZo P N I none t x y=some z):=by
 unfold abD at h;cases he:elT P t with
 | none=>simp[he,DT.run]at h
 | some e=>
  simp only[he]at h;cases W:ldT P e with
  | none=>simp[W,DT.run]at h
  | some gs=>
   obtain⟨q,s⟩:=gs;simp only[W]at h;cases A:qJ I s y with
   | none=>simp[A,DT.run]at h
   | some b=>
    cases hm:jH y with
    | none=>simp[A,hm,DT.run]at h
    | some m=>
     cases M:jH x with
     | none=>simp[A,hm,M,DT.run]at h
     | some n=>
      simp only[A,hm,M]at h;cases J:vT b&&zZn P e s with
      | false=>simp[J,DT.run]at h
      | true=>
       rw[J,ze]at h;obtain⟨Z,C⟩:=zR h;obtain⟨h1,hk⟩:=zR C;clear h C;have h:=hk;clear hk;simp only[zd]at J;obtain⟨ho,ha⟩:=J;have hm1:Nat.beq m 0=false:=by simpa using Z
       unfold abX at h;split at h
       ·rename_i i o n';simp only[jH,za]at M;subst M;refine⟨fun i' o' n'' U=>?_,fun j=>absurd rfl (j i o n')⟩;cases U;unfold abG at h;split at h
        ·rename_i cs e' hg;cases G:Nat.beq o 0&&Nat.beq e e' with
         | false=>simp[G,DT.run]at h
         | true=>
          rw[G,ze]at h;obtain⟨h2,h⟩:=zMh h;simp only[zd]at G;have V:Nat.beq i i=true:=cG i;unfold zZo;simp only[he,W,A,hm,qDe,V,G.1,G.2,hg,h2,jf,ze,hm1,qy,zMa ha h1,ho];exact h
        ·cases h
       ·rename_i j;refine⟨fun i o n' U=>absurd U (j i o n'),fun _=>?_⟩;rw[xX]at h;exact h
theorem zQe{q j:List TO}{po po':Po}(h:∀c f,o.op= .call c→c.callee≠.value f):mK P po q H j L o=mK P po' q H j L o:=by
 have e:gK P po j L o.op=gK P po' j L o.op:=by
  cases ho:o.op with
  | call c=>
   simp only[gK];split
   ·rename_i f e;exact absurd e (h c f ho)
   ·rfl
  | _=>rfl
 unfold mK;rw[e]
theorem qNe{k:Nat}{V C:List TO}{z:T×Option TO}(h:(qFo P OD rn k V H C L o).run=some z):mK P (poH P OD rn k) V H C L o=some z:=by
 unfold qFo at h;cases hp:zHs P (evO L) o.op with
 | some d=>
  simp only[hp]at h;have ha:pV L o.op=none:=by
   cases ho:o.op with
   | call c=>exact absurd ho (qIt hp c)
   | _=>rfl
  unfold mK;rw[ha,zRo hp h]
 | none=>
  simp only[hp]at h;split at h
  ·rename_i c j;unfold hcaD at h;split at h
   ·rename_i f A;split at h
    ·rename_i g cs eg;cases he:jX P g with
     | false=>simp[he,DT.run]at h
     | true=>
      rw[he,ze]at h;obtain⟨t,W,rfl⟩:=jBs h;have ha:pV L o.op=none:=by rw[j];simp only[pV];rw[A]
      have G:xC P H (ln C) (evO L) o.op=none:=by rw[j];simp only[xC,zEi];rw[A]
      have hc:gK P (poH P OD rn k) C L o.op=some t:=by
       rw[j];simp only[gK];rw[A];simp only[eg,he,ze,W]
      unfold mK;simp only[ha,G,hc]
    ·cases h
   ·rename_i A;split at h
    ·rename_i x y t t' N e2;cases U:Nat.beq t t' with
     | false=>simp[U,DT.run]at h
     | true=>
      rw[U,ze]at h;obtain⟨W,h2⟩:=jDs h;unfold mK;by_cases J:∃i o n,evO L x= .og i o n
      ·obtain⟨i,q,n,J⟩:=J;have ha:pV L o.op=some i:=by rw[j];simp only[pV];rw[A,N];simp only[J]
       simp only[ha];rw[j];simp only[zIy];rw[A,N,e2];simp only[U,ze];exact W i q n J
      ·have M:∀i o n,evO L x≠.og i o n:=fun i q n e=>J ⟨i,q,n,e⟩;have ha:pV L o.op=none:=by
        rw[j];simp only[pV];rw[A,N];first | (simp only;done) | (split<;>first | rfl | (rename_i e;exact absurd e (M _ _ _)))
       have G:xC P H (ln C) (evO L) o.op=none:=by rw[j];simp only[xC,zEi];rw[A]
       have hc:gK P (poH P OD rn k) C L o.op=none:=by rw[j];simp only[gK];rw[A]
       have Z:zIy P V C none L o.op=some z:=by
        rw[j];simp only[zIy];rw[A,N,e2];simp only[U,ze];exact h2 M
       simp only[ha,G,hc,Z]
    ·cases h
   ·rename_i I hne2;rw[xX]at h;rw[zQe (po':=fun _ _=>none) fun c' f e=>by rw[j]at e;cases e;exact I f]
    exact h
  ·rename_i hne;rw[xX]at h;rw[zQe (po':=fun _ _=>none) fun c f e=>absurd e (hne c)];exact h
theorem qFp{k:Nat}{A:List TO}:∀(l:List Oper)(q:List TO)(L:List T){j:List (T×Option TO)},(zJb P OD rn k A H ops l q L).run=some j→j.length=l.length∧∀(i:Nat)(z:T×Option TO),j[i]?=some z→∃o,l[i]?=some o∧xJ P (poH P OD rn k) A H (q++qM (j.take i)) (kP l (j.take i) L) ops o=some z
 | [],q,L,j,h=>by cases h;exact⟨rfl,fun i z e=>by simp at e⟩
 | o::l,q,L,j,h=>by
  have fin:∀{z:T×Option TO},xJ P (poH P OD rn k) A H q L ops o=some z→(zUd (zJb P OD rn k A H ops l) o q L z).run=some j→j.length=(o::l).length∧∀(i:Nat)(z:T×Option TO),j[i]?=some z→∃C,(o::l)[i]?=some C∧xJ P (poH P OD rn k) A H (q++qM (j.take i)) (kP (o::l) (j.take i) L) ops C=some z:=fun{z}N M=>by
   obtain⟨I,h3,h4⟩:=zM M;cases h4;obtain⟨g1,g2⟩:=qFp l _ _ h3;refine⟨by simp[g1],fun i y V=>?_⟩
   cases i with
   | zero=>
    simp only[js,za]at V;subst V;refine⟨o,rfl,?_⟩;simp only[uj,qM,kP,jw];exact N
   | succ i=>
    obtain⟨C,Z,e2⟩:=g2 i y (by simpa using V)
    refine⟨C,by simpa using Z,?_⟩
    have en:q++qM ((z::I).take (i+1))=nxH q z.2++qM (I.take i):=by
     obtain⟨t,ob⟩:=z;cases ob<;>simp[qM,nxH]
    rw[en];exact e2
  have J:kR ops L o=some true→((qFo P OD rn k A H q L o).bind (zUd (zJb P OD rn k A H ops l) o q L)).run=some j→j.length=(o::l).length∧∀(i:Nat)(z:T×Option TO),j[i]?=some z→∃C,(o::l)[i]?=some C∧xJ P (poH P OD rn k) A H (q++qM (j.take i)) (kP (o::l) (j.take i) L) ops C=some z:=fun U h=>by
   obtain⟨z,h1,M⟩:=zM h;exact fin (by unfold xJ;simp only[U];exact qNe h1) M
  have no:kR ops L o=some false→(zUd (zJb P OD rn k A H ops l) o q L (.tu [],none)).run=some j→j.length=(o::l).length∧∀(i:Nat)(z:T×Option TO),j[i]?=some z→∃C,(o::l)[i]?=some C∧xJ P (poH P OD rn k) A H (q++qM (j.take i)) (kP (o::l) (j.take i) L) ops C=some z:=fun U h=>
   fin (by unfold xJ;simp only[U]) h
  simp only[zJb]at h;obtain⟨g1,g2,g3⟩:=qSi (ops:=ops) L o;cases G:gdT ops L o with
  | no=>rw[G]at h;cases h
  | free=>rw[G]at h;exact J (g1 G) h
  | skip=>rw[G]at h;exact no (g2 G) h
  | on t c b=>
   rw[G]at h;obtain⟨W,k2⟩:=g3 t c b G;rcases qHg k2 h with⟨e,h⟩ | ⟨e,h⟩
   ·exact J (by rw[W,e]) h
   ·exact no (by rw[W,e]) h
theorem zQn:∀(l:List Oper)(e:List (T×Option TO))(L:List T)(m:Nat),e.length≤m→kP (l.take m) e L=kP l e L
 | [],_,_,m,_=>by simp
 | o::l,[],L,m,_=>by cases m<;>simp[kP]
 | o::l,z::e,L,0,h=>by simp at h
 | o::l,z::e,L,m+1,h=>by
  simp only[wz,kP];exact zQn l e _ m (by simpa using h)
theorem empN{α:Type}{l:List α}(h:emp l=true):l=[]:=by cases l<;>first | rfl | cases h
theorem zOn{j:List Nat}:∀(l:List Oper)(s:S),(qJv P OD rn ops j l s).run=some s'→dI P (clD P OD rn) noC ops j l s=some s'
 | [],s,h=>h
 | o::l,s,h=>by
  obtain⟨q,y,e⟩:=zM h;simp only[dI,qHi y];cases he:emp j with
  | true=>
   obtain rfl:=empN he;rw[he,ze]at e;show(bif nK P ops q []then _ else _)=_;simp only[nK,ze];exact zOn l q e
  | false=>
   rw[he,zf]at e;obtain⟨z,A⟩:=zR e;simp only[z,ze];exact zOn l q A
theorem qWf{m:Nat}{q:List TO}{e:List (T×Option TO)}(A:ln e=m)(h:(drT P OD rn ops m q s e).run=some s'):drF P (clD P OD rn) noC ops s q e=some s':=by
 subst A;unfold drT at h;unfold drF jCx;cases j:Nat.ble (ln e) ops.size with
 | false=>simp[j,DT.run]at h
 | true=>
 rw[j,xp]at h;cases hd:qEj ops (ln e)&&zNa q (ksE ops.toList e s.L)with
 | false=>simp[hd,DT.run]at h
 | true=>
  rw[hd,ze]at h;rw[ze];cases he:emp (aT ops (ln e))with
  | true=>
   rw[he,ze]at h;rw[empN he];simp only[nK,ze];exact zOn _ _ h
  | false=>
   rw[he,zf]at h;obtain⟨y,z⟩:=zR h;simp only[y,ze];exact zOn _ _ z
theorem qGb{A:List (Option Nat)}(q:Nat)(x:TO)(e:(xZ A H)[q]?=some x)(z:x≠.gone):H[q]?=some x:=by
 rw[mO]at e;split at e
 ·cases j:H[q]? with
  | none=>rw[j]at e;cases e
  | some y=>rw[j]at e;cases e;exact absurd rfl z
 ·exact e
end
section
variable {P:Program}{E:Nat→Prop}{w0:World}{X:Hid}{F:List Nat}{B:Bm}{w:World}{Y:Hid}{Mo:List (Nat×Obj)}{n:Nat}{a:Act}{D:List Deferred}{Q:Exit→Act→World→Prop}{OD:Od}{LO:Lo}{rn:Rd'}{rr:Option Nat}{ops:Array Oper}{s s':S}
theorem qWe{id:Nat}(hm:P.follows .mixedOrders=true)(M:vD P OD)(y:gQ P rn)(J:fV ops=true)(h:(drD P OD rn ops s).run=some s')(W:Wd P E w0 X F s.H B w Y Mo)(V:FrT n a s.L D B (rd w Y))(hk:nY P E w0 X F n D s'.H s'.L B (rd w Y) (Q .normal)):(Code.region id ops true).wpIn (FF rr) 0 P Q a w:=by
 unfold drD drH at h;generalize hdN OD ops s.L ops.toList [] 0=m at h;obtain⟨G,U,C⟩:=zM h;obtain⟨g1,g2⟩:=qFp _ _ _ U;have hle:G.length≤m:=by rw[g1];exact List.length_take_le _ _
 have I:G.length≤ops.toList.length:=by rw[g1];exact List.length_take_le' _ _
 by_cases e:Nat.ble m ops.size=true
 ·have e:m≤ops.toList.length:=by simpa using je e
  have j:ln G=m:=by rw[qU,g1,jo];exact kg e
  refine zKg (po:=poH P OD rn (ln s.H+ops.size)) hm (fun f az tv nw hp=>jBp hm M y hp) (qDt hm M y) qGw J W V hk _ G (zKs _ _) (fun q x=>qGb q x) (fun i z hz=>?_) I (qWf j C);obtain⟨o,A,N⟩:=g2 i z hz;refine⟨o,?_,?_⟩
  ·rw[qi]at A;split at A
   ·exact A
   ·cases A
  ·rwa[zQn _ _ _ _ (by rw[jo];omega)]at N
 ·exfalso;unfold drT at C;have Z:Nat.ble m ops.size=false:=Bool.eq_false_iff.2 e;rw[Z]at C;cases C
theorem kL(hm:P.follows .mixedOrders=true)(hO:vD P OD)(hL:wC P LO):∀k,gQ P (evD P OD LO k):=by
 intro k;induction k using Nat.strongRecOn with
 | _ k ih=>
  cases k with
  | zero=>intro f p c s e s' _ h;cases h
  | succ k=>
   have hk:gQ P (evD P OD LO k):=ih k (x9 k);intro f p c s e s' hc h E w0 X F n a D B w Y Mo rr Q hr hW W C;have h:(qBi P OD LO (evD P OD LO k) f p c s).run=some (e,s'):=h;cases c with
   | skip=>cases h;exact wX (C.one hW W (BLe.refl B) (Le.refl _))
   | label l=>cases h;exact zMw (C.one hW W (BLe.refl B) (Le.refl _))
   | exit id=>cases h;exact aP (C.one hW W (BLe.refl B) (Le.refl _))
   | ret=>cases h;exact mM (C.one hW W (BLe.refl B) (Le.refl _))
   | seq x y=>
    have hr1:rr=none∨noR x=true:=hr.imp id fun h=>by simp only[noR,zd]at h;exact h.1
    have hr2:rr=none∨noR y=true:=hr.imp id fun h=>by simp only[noR,zd]at h;exact h.2
    have hq:noR (.seq x y)=true→noR x=true∧noR y=true:=fun h=>by simpa[noR]using h
    have c1:cAt P f (false::p)=some x:=by simp[cAt,hc,aB]
    have c2:cAt P f (true::p)=some y:=by simp[cAt,hc,aB]
    obtain⟨⟨e1,s1⟩,h1,G⟩:=zM h;refine wpIn_seq (hk _ _ _ _ _ _ c1 h1 E w0 X F n a D B w Y Mo rr _ hr1 hW W fun A w' B' Y' q bs z g1 g2 I J=>?_);cases e1 with
    | n=>exact hk _ _ _ _ _ _ c2 G E w0 X _ n A _ B' w' Y' q rr Q hr2 g1 g2 (C.next hq z I J)
    | x id=>cases G;exact C A w' B' Y' q bs (fun e=>z (hq e).1) g1 g2 I J
    | r=>cases G;exact C A w' B' Y' q bs (fun e=>z (hq e).1) g1 g2 I J
    | p t=>cases G;exact C A w' B' Y' q bs (fun e=>z (hq e).1) g1 g2 I J
   | cond c x y=>
    have c1:cAt P f (false::p)=some x:=by simp[cAt,hc,aB]
    have c2:cAt P f (true::p)=some y:=by simp[cAt,hc,aB]
    simp only[qBi]at h;have hcr:=W.rep c;have go:∀(b:Bool),evO s.L c= .v (.bool b)→((bif b then evD P OD LO k f (false::p) x else evD P OD LO k f (true::p) y) s).run=some (e,s')→(Code.cond c x y).wpIn (FF rr) 0 P Q a w:=fun b eb h=>by
     rw[eb]at hcr;cases b with
     | true=>exact dd hcr.bool (hk _ _ _ _ _ _ c1 h E w0 X F n a D B w Y Mo rr Q (hr.imp id fun h=>by simp only[noR,zd]at h;exact h.1) hW W fun A w' B' Y' q bs z=>C A w' B' Y' q bs fun e=>z (by simp only[noR,zd]at e;exact e.1))
     | false=>exact fh hcr.bool (hk _ _ _ _ _ _ c2 h E w0 X F n a D B w Y Mo rr Q (hr.imp id fun h=>by simp only[noR,zd]at h;exact h.2) hW W fun A w' B' Y' q bs z=>C A w' B' Y' q bs fun e=>z (by simp only[noR,zd]at e;exact e.2))
    obtain⟨b,eb,hb⟩:=qVv h;exact go b eb hb
   | block id x=>
    have c1:cAt P f (false::p)=some x:=by simp[cAt,hc,aB]
    obtain⟨⟨e1,s1⟩,h1,G⟩:=zM h;refine kE (hk _ _ _ _ _ _ c1 h1 E w0 X F n a D B w Y Mo rr _ hr hW W fun A w' B' Y' q bs z g1 g2 I J=>?_);cases e1 with
    | n=>cases G;exact C A w' B' Y' q bs z g1 g2 I J
    | r=>cases G;exact C A w' B' Y' q bs z g1 g2 I J
    | p t=>cases G;exact C A w' B' Y' q bs z g1 g2 I J
    | x j=>
     cases G;have:=C A w' B' Y' q bs z g1 g2 I J;cases hj:Nat.beq j id with
     | true=>rw[hj]at this;obtain rfl:=zV hj;exact mH this
     | false=>rw[hj]at this;exact zFv hj this
   | scope x=>
    have c1:cAt P f (false::p)=some x:=by simp[cAt,hc,aB]
    rcases hr with rfl | hr
    ·exact zMx (hk _ _ _ _ _ _ c1 h E w0 X F n a D B w Y Mo none _ (.inl rfl) hW W fun A w' B' Y' q bs _ g1 g2 I J=>by
      have:=C A w' B' Y' q bs (fun e=>by simp[noR]at e) g1 g2 I J
      cases e<;>exact this)
    ·simp[noR]at hr
   | loop x=>
    have c1:cAt P f (false::p)=some x:=by simp[cAt,hc,aB]
    have hr1:rr=none∨noR x=true:=hr.imp id fun h=>by simpa[noR]using h
    simp only[qBi]at h;cases hlo:LO f p s with
    | some d=>
     simp only[hlo]at h;exact hL f p s d hlo x hc e s' h E w0 X F n a D B w Y Mo rr Q hr hW W C
    | none=>
    simp only[hlo]at h;have key:∀(N:Nat),(qOe (evD P OD LO k f (false::p) x) N s).run=some (e,s')→(Code.loop x).wpIn (FF rr) 0 P Q a w:=fun N h=>by
     refine lM (γ:=Nat×S×List Nat) (fun g a w=>(qOe (evD P OD LO k f (false::p) x) g.1 g.2.1).run=some (e,s')∧∃B' Y' q,(noR x=true→g.2.2=[])∧Wd P E w0 X (g.2.2++F) g.2.1.H B' w Y' q∧FrT n a g.2.1.L (g.2.2.map Gv.mark++D) B' (rd w Y')∧BLe B B'∧Le (rd _ Y) (rd w Y'))
      (fun g=>g.1) (N,s,[]) ⟨h,B,Y,Mo,fun _=>rfl,hW,W,BLe.refl B,Le.refl _⟩ ?_
     rintro⟨j,s0,M⟩ a0 w1 ⟨V,B1,Y1,Mo1,hb1,g1,g2,I,J⟩;simp only at V hb1 g1 g2;cases j with
     | zero=>cases V
     | succ j=>
     obtain⟨⟨e1,s1⟩,h1,G⟩:=zM V;refine hk _ _ _ _ _ _ c1 h1 E w0 X _ n a0 _ B1 w1 Y1 Mo1 rr _ hr1 g1 g2 fun A w' B' Y' q bs z k1 k2 k3 k4=>?_;have Z:noR x=true→bs++M=[]:=fun e=>by rw[z e,hb1 e];rfl
     have k1':Wd P E w0 X (bs++M++F) s1.H B' w' Y' q:=by rw[qt];exact k1
     have k2':FrT n A s1.L ((bs++M).map Gv.mark++D) B' (rd w' Y'):=by rw[xu,qt];exact k2
     cases e1 with
     | n=>exact⟨(j,s1,bs++M),⟨G,B',Y',q,Z,k1',k2',I.trans k3,J.trans k4⟩,x9 j⟩
     | x id=>cases G;exact C A w' B' Y' q (bs++M) (fun e=>Z (by simpa[noR]using e)) k1' k2' (I.trans k3) (J.trans k4)
     | r=>cases G;exact C A w' B' Y' q (bs++M) (fun e=>Z (by simpa[noR]using e)) k1' k2' (I.trans k3) (J.trans k4)
     | p t=>cases G;exact C A w' B' Y' q (bs++M) (fun e=>Z (by simpa[noR]using e)) k1' k2' (I.trans k3) (J.trans k4)
    exact key _ h
   | region id ops draw=>
    cases draw with
    | false=>
     simp only[qBi]at h;cases U:fV ops with
     | false=>simp[U,DT.run]at h
     | true=>
      rw[U,ze]at h;obtain⟨s1,h1,G⟩:=zM h;cases G;refine fN ?_;exact zXy (qDt hm hO hk) qGw _ _ _ (zRf _ _ h1) U hW W (BLe.refl B) (Le.refl _) fun A w' B' Y' q k1 k2 k3 k4=>C.one k1 k2 k3 k4
    | true=>
     simp only[qBi]at h;cases U:fV ops with
     | false=>simp[U,DT.run]at h
     | true=>
      rw[U,ze]at h;obtain⟨s1,h1,G⟩:=zM h;cases G;exact qWe hm hO hk U h1 hW W fun A w' B' Y' q k1 k2 k3 k4=>C.one k1 k2 k3 k4
   | rangeFunc g ps c1 c2=>cases h
   | goto l=>cases h
   | refuse why=>cases h
end
inductive Sl where
  | u
  | h
  | t (x:T)
  | a (g:Tg) (A:Ty) (e:TypeId)
inductive Ob' where
  | g
  | r (cs:List Sl) (e:TypeId)
  | m (g:Tg) (K V:Ty)
structure Sp where
 ss:List Sl
 os:List Ob'
structure Hs where
 hs:List T
 az:List T
 ks:List (List T)
def chk(A:Ty):Nat→List T→Option (List (List T))
 | 0,_=>none
 | k+1,e=>match e with
  | []=>some []
  | _::_=>match dJ A.size e with
   | some u=>(match chk A k (gG e A.size)with
    | some r=>some (u::r)
    | none=>none)
   | none=>none
def zPl(g:Tg)(A:Ty):List (List T)→List A.den→Option (List A.den)
 | [],r=>some r
 | u::l,r=>match mI g A u with
  | some x=>zPl g A l (x::r)
  | none=>none
def qCr(g:Tg)(A:Ty):Cs→Option (List A.den)
 | .d q j x=>bif g.le q then tY j A x else none
 | .l e=>match chk A (ln e+1) e with
  | some l=>zPl g A l []
  | none=>none
def qUx(g:Tg)(A:Ty)(e:TypeId)(n:Nat):TO→DT T
 | .gro c j=>bif Nat.beq e j then(match qCr g A c with
  | some (y::l)=>grd (Nat.beq n (y::l).length) (.ret (.ls g A (y::l)))
  | _=> .no)else .no
 | _=> .no
def rH(m:Nat)(H:List TO):List Sl→List T→DT (List T×List T)
 | [],[]=> .ret ([],[])
 | .u::j,_::q=>rH m H j q
 | .h::j,t::q=>(match zEf t with
  | some t=>(rH m H j q).bind fun b=> .ret (t::b.1,b.2)
  | none=> .no)
 | .t x::j,t::q=>bif eqU 12 x t&&vY m 12 x then rH m H j q else .no
 | .a g A e::j,t::q=>(match t with
  | .v (.slice none 0 0)=>(rH m H j q).bind fun b=> .ret (b.1,.ls g A []::b.2)
  | .og i o n=>bif Nat.beq o 0 then(qUx g A e n (nth .gone H i)).bind fun x=>(rH m H j q).bind fun b=> .ret (b.1,x::b.2)else .no
  | _=> .no)
 | _,_=> .no
def wB:List Sl→List T→List (Option Nat)
 | .a .. ::e,t::j=>(match t with | .og i _ _=>some i | _=>none)::wB e j
 | _::e,_::j=>wB e j
 | _,_=>[]
def mdE(g:Tg)(K V:Ty):TO→Option T
 | .mapd d=>bif g.le d.g then(match tY (.prod d.K d.V) (.prod K V) d.l with
  | some l=>some (.ls g (.prod K V) l)
  | none=>none)else none
 | .map []=>some (.ls g (.prod K V) [])
 | _=>none
def moD(g:Tg)(K V:Ty):List T→TO
 | [.ls _ A l]=>(match tY A (.prod K V) l with
  | some l=> .mapd ⟨g,K,V,l⟩
  | none=> .gone)
 | _=> .gone
def nA:List Sl→Nat
 | []=>0
 | .a .. ::e=>nA e+1
 | _::e=>nA e
def zJc(m:Nat)(j:List TO):List Ob'→List TO→DT (List (List T)×List T)
 | [],_=> .ret ([],[])
 | .g::os,_::H=>(zJc m j os H).bind fun r=> .ret ([]::r.1,r.2)
 | .r q e::os,.row z y::H=>bif Nat.beq e y then(rH m j q z).bind fun a=>(zJc m j os H).bind fun r=> .ret (a.1::r.1,a.2++r.2)else .no
 | .m g K V::os,o::H=>(match mdE g K V o with
  | some t=>(zJc m j os H).bind fun r=> .ret ([t]::r.1,r.2)
  | none=> .no)
 | _,_=> .no
def lC:List Ob'→List TO→List (Option Nat)
 | .r e _::os,.row j _::H=>wB e j++lC os H
 | _::os,_::H=>lC os H
 | _,_=>[]
def isG:Ob'→Bool
 | .g=>true
 | _=>false
def zLn(m:Nat)(os:List Ob'):List (Option Nat)→Bool
 | []=>true
 | none::l=>zLn m os l
 | some i::l=>(!zJa i l&&(!Nat.blt i m||isG (nth .g os i)))&&zLn m os l
def gW(m:Nat)(e:Sp)(s:S):DT Hs:=bif zLn m e.os (wB e.ss s.L++lC e.os s.H)&&(Nat.beq (ln e.os) m&&Nat.ble m (ln s.H))then(rH m s.H e.ss s.L).bind fun a=>(zJc m s.H e.os s.H).bind fun j=> .ret ⟨a.1,a.2++j.2,j.1⟩else .no
def rowT(j:Nat):T→T
 | .ls _ _ []=> .v (.slice none 0 0)
 | .ls _ _ (x::l)=> .og j 0 (x::l).length
 | _=> .u
def jCh(e:TypeId):T→TO
 | .ls _ _ []=> .gone
 | .ls g A (x::l)=> .gro (.d g A (x::l)) e
 | _=> .gone
def buL:List Sl→Nat→List T→List T→List T
 | .u::q,j,e,az=> .u::buL q j e az
 | .h::q,j,x::e,az=>x::buL q j e az
 | .t x::q,j,e,az=>x::buL q j e az
 | .a _ _ _::q,j,e,x::az=>rowT j x::buL q (j+1) e az
 | _,_,_,_=>[]
def buA:List Sl→List T→List TO
 | .a _ _ e::j,x::az=>jCh e x::buA j az
 | .a _ _ _::_,[]=>[]
 | _::j,az=>buA j az
 | [],_=>[]
def buO:List Ob'→Nat→List (List T)→List T→List TO
 | .g::os,j,_::q,az=> .gone::buO os j q az
 | .r y e::os,j,k::q,az=> .row (buL y j k (az.take (nA y))) e::buO os (j+nA y) q (gG az (nA y))
 | .m g K V::os,j,k::q,az=>moD g K V k::buO os j q az
 | _,_,_,_=>[]
def buB:List Ob'→List T→List TO
 | .r e _::os,az=>buA e (az.take (nA e))++buB os (gG az (nA e))
 | _::os,az=>buB os az
 | [],_=>[]
def bu(m:Nat)(e:Sp)(q:Hs):S:=⟨buL e.ss m q.hs (q.az.take (nA e.ss)),buO e.os (m+nA e.ss) q.ks (gG q.az (nA e.ss))++(buA e.ss (q.az.take (nA e.ss))++buB e.os (gG q.az (nA e.ss)))⟩
section
variable {P:Program}{E:Nat→Prop}{w0:World}{X:Hid}{F:List Nat}{H H':List TO}{B B':Bm}{w:World}{Y:Hid}{Mo:List (Nat×Obj)}{r:Rd}{m:Nat}
theorem chk_ok{A:Ty}:∀(k:Nat)(e:List T){l:List (List T)},chk A k e=some l→e=l.flatten
 | 0,e,l,h=>by cases h
 | k+1,[],l,h=>by cases h;rfl
 | k+1,t::e,l,h=>by
  simp only[chk]at h;cases j:dJ A.size (t::e)with
  | none=>simp[j]at h
  | some u=>
   simp only[j]at h;cases q:chk A k (gG (t::e) A.size)with
   | none=>simp[q]at h
   | some r'=>
    simp only[q,za]at h;subst h;obtain⟨_,rfl⟩:=zBv _ _ _ j;rw[uu,←chk_ok k _ q,zAq,jj]
theorem zFx{g:Tg}{A:Ty}:∀(l:List (List T))(p:List A.den){x:List A.den}{j:List Value},zPl g A l p=some x→zP B r (qP g A p++l.flatten) j→zP B r (qP g A x) j∧(qP g A x).length=(qP g A p++l.flatten).length
 | [],p,x,j,h,q=>by cases h;simpa using q
 | u::l,p,x,j,h,q=>by
  simp only[zPl]at h;cases z:mI g A u with
  | none=>simp[z]at h
  | some y=>
   simp only[z]at h;rw[uu,←qt]at q;have C:=zP.split (ts:=qP g A p++u) (us:=l.flatten) q;have e:=zP.split (ts:=qP g A p) (us:=u) C.1;obtain⟨I,J⟩:=fA A z e.2;have G:zP B r (qP g A (y::p)++l.flatten) j:=by
    have:=(e.1.app I).app C.2;rw[jj,jj]at this;exact this
   obtain⟨g1,g2⟩:=zFx l (y::p) h G;refine⟨g1,?_⟩;rw[g2];simp only[qP,uu,qo,jM,J,xq]
theorem qKz{g:Tg}{A:Ty}{c:Cs}{x:List A.den}{C:List Value}(h:qCr g A c=some x)(q:zP B r c.list C):zP B r (qP g A x) C∧(qP g A x).length=c.list.length:=by
 unfold qCr at h;split at h
 ·rename_i y j J;cases I:g.le y with
  | false=>simp[I]at h
  | true=>
   simp only[I,ze]at h;obtain⟨rfl,he⟩:=fB h;obtain rfl:=fg he;have e:∀(l:List j.den),qP y j l=yA y j l.reverse:=fun l=>by rw[←mJ,ve]
   have M:∀(l:List j.den),qP g j l=yA g j l.reverse:=fun l=>by rw[←mJ,ve]
   refine⟨?_,?_⟩
   ·rw[M];have q:zP B r (qP y j J) C:=q;rw[e]at q;exact zGk (by simpa using I) j _ q
   ·show(qP g j J).length=(qP y j J).length;rw[vX,vX]
 ·rename_i z;cases G:chk A (ln z+1) z with
  | none=>simp[G]at h
  | some l=>
   simp only[G]at h;have e:=chk_ok _ _ G;have q:zP B r z C:=q;obtain⟨N,U⟩:=zFx l [] h (by simpa[qP,←e]using q)
   refine⟨N,?_⟩;rw[U];show([]++l.flatten).length=z.length;rw[kB,←e]
theorem pJ{m:Nat}{H:List TO}:∀(j:List Sl)(q:List T){b:List T×List T},(rH m H j q).run=some b→(wB j q).length=b.2.length
 | [],[],b,h=>by cases h;rfl
 | [],_::_,b,h=>by cases h
 | .u::j,[],b,h=>by cases h
 | .h::j,[],b,h=>by cases h
 | .t _::j,[],b,h=>by cases h
 | .a .. ::j,[],b,h=>by cases h
 | .u::j,t::q,b,h=>pJ j q (b:=b) h
 | .h::j,t::q,b,h=>by
  simp only[rH]at h;split at h
  ·obtain⟨y,z,C⟩:=zM h;cases C;exact pJ (b:=y) j q z
  ·cases h
 | .t x::j,t::q,b,h=>by
  simp only[rH]at h;cases G:eqU 12 x t&&vY m 12 x with
  | false=>rw[G]at h;cases h
  | true=>rw[G]at h;exact pJ j q h
 | .a g A e::j,t::q,b,h=>by
  simp only[rH]at h;split at h
  ·obtain⟨y,z,C⟩:=zM h;cases C;simp only[wB,qf,pJ (b:=y) j q z]
  ·rename_i i o n;cases ho:Nat.beq o 0 with
   | false=>rw[ho]at h;cases h
   | true=>
    rw[ho,ze]at h;obtain⟨x,_,h⟩:=zM h;obtain⟨y,z,C⟩:=zM h;cases C;simp only[wB,qf,pJ (b:=y) j q z]
  ·cases h
theorem dH{m:Nat}{H:List TO}:∀(j:List Sl)(q:List T){b:List T×List T},(rH m H j q).run=some b→b.2.length=nA j
 | [],[],b,h=>by cases h;rfl
 | [],_::_,b,h=>by cases h
 | .u::j,[],b,h=>by cases h
 | .h::j,[],b,h=>by cases h
 | .t _::j,[],b,h=>by cases h
 | .a .. ::j,[],b,h=>by cases h
 | .u::j,t::q,b,h=>dH j q (b:=b) h
 | .h::j,t::q,b,h=>by
  simp only[rH]at h;split at h
  ·obtain⟨y,z,C⟩:=zM h;cases C;exact dH (b:=y) j q z
  ·cases h
 | .t x::j,t::q,b,h=>by
  simp only[rH]at h;cases G:eqU 12 x t&&vY m 12 x with
  | false=>rw[G]at h;cases h
  | true=>rw[G]at h;exact dH j q h
 | .a g A e::j,t::q,b,h=>by
  simp only[rH]at h;split at h
  ·obtain⟨y,z,C⟩:=zM h;cases C;simp only[nA,qf,dH (b:=y) j q z]
  ·rename_i i o n;cases ho:Nat.beq o 0 with
   | false=>rw[ho]at h;cases h
   | true=>
    rw[ho,ze]at h;obtain⟨x,_,h⟩:=zM h;obtain⟨y,z,C⟩:=zM h;cases C;simp only[nA,qf,dH (b:=y) j q z]
  ·cases h
theorem zIk{a b:List T}{n:Nat}(h:a.length=n):(a++b).take n=a∧gG (a++b) n=b:=by
 subst h;rw[zAq];exact⟨uG,List.drop_left⟩
theorem zAa(V:∀i,i<m→B' i=B i)(U:B'.N=B.N):∀(z:List Sl)(G:List T)(j:Nat){b:List T×List T}{I:List Value},(rH m H z G).run=some b→(∀(q i:Nat),(wB z G)[q]?=some (some i)→B' (j+q)=B i)→zP B r G I→zP B' r (buL z j b.1 b.2) I
 | [],[],j,b,I,h,_,C=>by
  cases h;cases I with
  | nil=>trivial
  | cons=>exact C.elim
 | [],_::_,j,b,I,h,_,_=>by cases h
 | .u::z,[],j,b,I,h,_,_=>by cases h
 | .h::z,[],j,b,I,h,_,_=>by cases h
 | .t _::z,[],j,b,I,h,_,_=>by cases h
 | .a .. ::z,[],j,b,I,h,_,_=>by cases h
 | _::_,_::_,_,_,[],_,_,C=>C.elim
 | .u::z,t::G,j,b,v::I,h,M,C=>⟨.u,zAa V U z G j (b:=b) h M C.2⟩
 | .h::z,t::G,j,b,v::I,h,M,C=>by
  simp only[rH]at h;split at h
  ·rename_i t' ht;obtain⟨b',W,Z⟩:=zM h;cases Z;exact⟨zKf ht U C.1,zAa V U z G j W M C.2⟩
  ·cases h
 | .t x::z,t::G,j,b,v::I,h,M,C=>by
  simp only[rH]at h;cases hc:eqU 12 x t&&vY m 12 x with
  | false=>rw[hc]at h;cases h
  | true=>
   rw[hc]at h;simp only[zd]at hc;have e:=lK 12 x t hc.1;subst e;exact⟨Rep.low V U 12 hc.2 C.1,zAa V U z G j (b:=b) h M C.2⟩
 | .a g A e::z,t::G,j,b,v::I,h,M,C=>by
  have hq':∀(q i:Nat),(wB z G)[q]?=some (some i)→B' (j+1+q)=B i:=fun q i e=>by
   have:=M (q+1) i (by simpa[wB]using e)
   rwa[show j+(q+1)=j+1+q by omega]at this
  simp only[rH]at h;split at h
  ·obtain⟨b',W,Z⟩:=zM h;cases Z;refine⟨?_,zAa V U z G (j+1) W hq' C.2⟩;obtain⟨rfl,hs⟩:=C.1.vI;exact .v hs
  ·rename_i i o n;cases ho:Nat.beq o 0 with
   | false=>rw[ho]at h;cases h
   | true=>
    rw[ho,ze]at h;obtain⟨x,J,h⟩:=zM h;obtain⟨b',W,Z⟩:=zM h;cases Z;refine⟨?_,zAa V U z G (j+1) W hq' C.2⟩;obtain rfl:=zV ho;unfold qUx at J;split at J
    ·rename_i c e' hn;cases he:Nat.beq e e' with
     | false=>rw[he]at J;cases J
     | true=>
      rw[he,ze]at J;split at J
      ·rename_i y l hl;obtain⟨k1,k2⟩:=zR J;cases k2;obtain rfl:=zV k1;have hBj:B' j=B i:=by
        have:=M 0 i rfl;simpa using this
       have hv:=C.1;cases hv with
       | og g1 g2 g3 g4=>exact .og (by rw[hBj];exact g1) g2 g3 g4
      ·cases J
    ·cases J
  ·cases h
end
section
variable {P:Program}{E:Nat→Prop}{w0:World}{X:Hid}{F:List Nat}{H H':List TO}{B B':Bm}{w:World}{Y:Hid}{Mo:List (Nat×Obj)}{r:Rd}{m:Nat}{n:Nat}{a:Act}{D:List Deferred}{s:S}
def reB(B:Bm)(m:Nat)(e:List (Option Nat)):Bm:=⟨fun i=>if i<m then B i else match e[i-m]? with
 | some (some j)=>B j
 | _=>none,B.N⟩
theorem zFn{e:List (Option Nat)}{i:Nat}(h:i<m):reB B m e i=B i:=qn h
theorem zOe{e:List (Option Nat)}{q j:Nat}(h:e[q]?=some (some j)):reB B m e (m+q)=B j:=by
 show(if m+q<m then B (m+q)else _)=_
 rw[qm (by omega),j6,h]
theorem zVf{j:Bm}{q:List (Option Nat)}(h:BLe j B)(hm:∀i,m≤i→j i=none):BLe j (reB B m q):=⟨fun i p e=>by
 have y:i<m:=by
  rcases qg i m with h | h
  ·exact h
  ·rw[hm i h]at e;cases e
 rw[zFn y];exact h i p e,h.n⟩
theorem dS:∀(j:List Sl)(z:List T){b:List T×List T},(rH m H j z).run=some b→(buA j b.2).length=(wB j z).length∧
  ∀(q:Nat)(o:TO),(buA j b.2)[q]?=some o→o≠.gone→∃(i:Nat)(c:Cs)(g:Tg)(A:Ty)(x:List A.den)(e:TypeId),o= .gro (.d g A x) e∧(wB j z)[q]?=some (some i)∧nth .gone H i= .gro c e∧qCr g A c=some x
 | [],[],b,h=>by cases h;exact⟨rfl,fun q o e=>by simp[buA]at e⟩
 | [],_::_,b,h=>by cases h
 | .u::j,[],b,h=>by cases h
 | .h::j,[],b,h=>by cases h
 | .t _::j,[],b,h=>by cases h
 | .a .. ::j,[],b,h=>by cases h
 | .u::j,t::z,b,h=>dS j z (b:=b) h
 | .h::j,t::z,b,h=>by
  simp only[rH]at h;split at h
  ·obtain⟨I,M,N⟩:=zM h;cases N;exact dS (b:=I) j z M
  ·cases h
 | .t x::j,t::z,b,h=>by
  simp only[rH]at h;cases hc:eqU 12 x t&&vY m 12 x with
  | false=>rw[hc]at h;cases h
  | true=>rw[hc]at h;exact dS (b:=b) j z h
 | .a g A e::j,t::z,b,h=>by
  simp only[rH]at h;split at h
  ·obtain⟨I,M,N⟩:=zM h;cases N;obtain⟨W,Z⟩:=dS (b:=I) j z M;refine⟨by simp only[buA,wB,qf,W],fun q o ho C=>?_⟩
   cases q with
   | zero=>simp only[buA,jCh,js,za]at ho;exact absurd ho.symm C
   | succ q=>
    obtain⟨i,c,V,U,x,J,r1,r2,r3⟩:=Z q o (by simpa[buA]using ho) C
    exact⟨i,c,V,U,x,J,r1,by simpa[wB]using r2,r3⟩
  ·rename_i i o n;cases ho:Nat.beq o 0 with
   | false=>rw[ho]at h;cases h
   | true=>
    rw[ho,ze]at h;obtain⟨x,G,h⟩:=zM h;obtain⟨I,M,N⟩:=zM h;cases N;obtain⟨W,Z⟩:=dS (b:=I) j z M;refine⟨by simp only[buA,wB,qf,W],fun q o ho C=>?_⟩
    cases q with
    | succ q=>
     obtain⟨i,c,V,U,x,J,r1,r2,r3⟩:=Z q o (by simpa[buA]using ho) C
     exact⟨i,c,V,U,x,J,r1,by simpa[wB]using r2,r3⟩
    | zero=>
     unfold qUx at G;split at G
     ·rename_i c J hn;cases he:Nat.beq e J with
      | false=>rw[he]at G;cases G
      | true=>
       rw[he,ze]at G;obtain rfl:=zV he;split at G
       ·rename_i y l hl;obtain⟨q1,q2⟩:=zR G;cases q2;simp only[buA,jCh,js,za]at ho;subst ho;exact⟨i,c,g,A,y::l,e,rfl,rfl,hn,hl⟩
       ·cases G
     ·cases G
  ·cases h
def qBp(H l:List TO)(s:List (Option Nat)):Prop:=l.length=s.length∧∀(q:Nat)(o:TO),l[q]?=some o→o≠.gone→∃(i:Nat)(c:Cs)(g:Tg)(A:Ty)(x:List A.den)(e:TypeId),o= .gro (.d g A x) e∧s[q]?=some (some i)∧nth .gone H i= .gro c e∧qCr g A c=some x
theorem zWb{M N:List TO}{U V:List (Option Nat)}(j:qBp H M U)(I:qBp H N V):qBp H (M++N) (U++V):=by
 refine⟨by rw[qo,qo,j.1,I.1],fun q o ho y=>?_⟩
 rw[wl]at ho;split at ho
 ·rename_i J;obtain⟨i,c,g,A,x,e,z,C,G⟩:=j.2 q o ho y;exact⟨i,c,g,A,x,e,z,by rw[qh (by rw[←j.1];exact J)];exact C,G⟩
 ·rename_i J;obtain⟨i,c,g,A,x,e,z,C,G⟩:=I.2 _ o ho y;exact⟨i,c,g,A,x,e,z,by rw[jk (by rw[←j.1];omega),←j.1];exact C,G⟩
theorem qCs(e:List Sl)(j:List T){b:List T×List T}(h:(rH m H e j).run=some b):qBp H (buA e b.2) (wB e j):=dS e j h
theorem zEy{C:List TO}:∀(os:List Ob')(H:List TO){j:List (List T)×List T},(zJc m C os H).run=some j→qBp C (buB os j.2) (lC os H)
 | [],H,j,h=>by cases h;exact⟨rfl,fun q o e=>by simp[buB]at e⟩
 | .g::os,[],j,h=>by cases h
 | .r _ _::os,[],j,h=>by cases h
 | .m _ _ _::os,[],j,h=>by cases h
 | .g::os,x::H,j,h=>by
  obtain⟨y,z,A⟩:=zM h;cases A;have:=zEy os H z;simpa only[buB,lC]using this
 | .m g K V::os,x::H,j,h=>by
  simp only[zJc]at h;split at h
  ·obtain⟨y,z,A⟩:=zM h;cases A;have:=zEy os H z;simpa only[buB,lC]using this
  ·cases h
 | .r G e::os,x::H,j,h=>by
  cases x with
  | row J M=>
   simp only[zJc]at h;cases he:Nat.beq e M with
   | false=>rw[he]at h;cases h
   | true=>
    rw[he,ze]at h;obtain⟨b,I,h⟩:=zM h;obtain⟨y,z,A⟩:=zM h;cases A;obtain⟨N,U⟩:=zIk (b:=y.2) (dH G J I);simp only[buB,lC,N,U];exact zWb (qCs G J I) (zEy os H z)
  | _=>cases h
def Obx(P:Program)(m:Nat)(e:List (Option Nat))(j o:TO):Prop:=vO j=true∧(∀z,o≠.fz z)∧∀(B B':Bm)(r:Rd)(C:Nat)(y:Obj),(∀i,i<m→B' i=B i)→(∀(q i:Nat),e[q]?=some (some i)→B' (m+q)=B i)→B'.N=B.N→RO P B r C j y→RO P B' r C o y
theorem qQm{g e:Tg}{V:Ty}{x:V.den}{v:Value}(h:e.le g=true)(I:B'.N=B.N)(j:Rep B r (unT g V x) v):Rep B' r (unT e V x) v:=by
 have J:=jM g V x;have M:=jM e V x;have y:∀z,zP B r (qE g V x) z→zP B' r (qE e V x) z:=fun z hv=>cZ (g:=e) (A:=V) I (pX e V x) (dW h V x hv);by_cases C:V.size=1
 ·obtain⟨t,ht⟩:=vv.1 (J.trans C);obtain⟨U,q⟩:=vv.1 (M.trans C);unfold unT at j ⊢;rw[ht]at j;rw[q];have:=y [v] (by rw[ht];exact⟨j,trivial⟩)
  rw[q]at this;exact this.1
 ·have one:∀(g:Tg),unT g V x= .ag (qE g V x):=fun g=>by
   have l:=jM g V x;unfold unT;split
   ·rename_i t ht;rw[ht]at l;exact absurd l.symm C
   ·rfl
  rw[one]at j ⊢;obtain⟨z,rfl,G⟩:=j.agI;exact Rep.mkAg (y z G)
theorem zPv{g j:Tg}{K V:Ty}(h:j.le g=true)(q:B'.N=B.N):∀(l:List (K.den×V.den))(es:List MapEntry),xQ B r (l.map fun e=>(vG K e.1,unT g V e.2)) es→xQ B' r (l.map fun e=>(vG K e.1,unT j V e.2)) es
 | [],[],_=>trivial
 | _::l,_::es,k=>⟨k.1,qQm h q k.2.1,zPv h q l es k.2.2⟩
 | [],_::_,k=>k.elim
 | _::_,[],k=>k.elim
theorem jAf{U:List (Option Nat)}{g:Tg}{K V:Ty}{x:TO}{t:T}(h:mdE g K V x=some t):Obx P m U x (moD g K V [t]):=by
 unfold mdE at h;split at h
 ·rename_i d;obtain⟨g0,K0,V0,l⟩:=d;cases J:g.le g0 with
  | false=>simp[J]at h
  | true=>
   simp only[J,ze]at h;split at h
   ·rename_i l' Z;cases h;obtain⟨e,he⟩:=fB Z;cases e;obtain rfl:=fg he;have y:tY (.prod K V) (.prod K V) l=some l:=Z;have z:moD g K V [.ls g (.prod K V) l]= .mapd ⟨g,K,V,l⟩:=by
     show(match tY (.prod K V) (.prod K V) l with | some l=>TO.mapd ⟨g,K,V,l⟩ | none=> .gone)=_
     rw[y]
    rw[z];refine⟨rfl,fun cs e=>(by cases e),fun B B' r C ob _ _ W j=>?_⟩
    cases j with
    | mapd h I G=>exact .mapd (zPv J W _ _ h) I G
   ·cases h
 ·cases h;have y:tY (.prod K V) (.prod K V) ([]:List (Ty.prod K V).den)=some []:=by
   unfold tY;split
   ·rfl
   ·rename_i hn;exfalso;refine hn ?_;have q:∀A:Ty,A.beq A=true:=fun A=>by
     induction A with
     | int k=>simp[Ty.beq]
     | list A ih=>simpa[Ty.beq]using ih
     | prod A C M N=>simp[Ty.beq,M,N]
     | _=>rfl
    exact q _
  have z:moD g K V [.ls g (.prod K V) []]= .mapd ⟨g,K,V,[]⟩:=by
   show(match tY (.prod K V) (.prod K V) ([]:List (Ty.prod K V).den)with | some l=>TO.mapd ⟨g,K,V,l⟩ | none=> .gone)=_
   rw[y]
  rw[z];refine⟨rfl,fun cs e=>(by cases e),fun B B' r C ob _ _ W j=>?_⟩
  cases j with
  | @map l es clk h I G=>
   refine .mapd ?_ I G;show xQ B' r [] es.toList;match es.toList,h with
   | [],_=>trivial
 ·cases h
theorem zNp{H0:List TO}{src:List (Option Nat)}:∀(os:List Ob')(H:List TO)(j:Nat){A:List (List T)×List T},(zJc m H0 os H).run=some A→(∀(q i:Nat),(lC os H)[q]?=some (some i)→src[j+q]?=some (some i))→(buO os (m+j) A.1 A.2).length=os.length∧os.length≤H.length∧
  ∀(i:Nat)(o:TO),(buO os (m+j) A.1 A.2)[i]?=some o→o≠.gone→isG (nth .g os i)=false∧∃o1,H[i]?=some o1∧Obx P m src o1 o
 | [],H,j,A,h,_=>by cases h;exact⟨rfl,qu _,fun i o e=>by simp[buO]at e⟩
 | .g::os,[],_,A,h,_=>by cases h
 | .r _ _::os,[],_,A,h,_=>by cases h
 | .m _ _ _::os,[],_,A,h,_=>by cases h
 | .g::os,_::H,j,A,h,J=>by
  obtain⟨G,U,W⟩:=zM h;cases W;obtain⟨M,Z,N⟩:=zNp os H j U J;refine⟨by simp only[buO,qf,M],by simpa using Z,fun i o ho y=>?_⟩
  cases i with
  | zero=>simp only[buO,js,za]at ho;exact absurd ho.symm y
  | succ i=>simpa[mV]using N i o (by simpa[buO]using ho) y
 | .m g K V::os,x::H,j,A,h,J=>by
  simp only[zJc]at h;split at h
  ·rename_i t ht;obtain⟨G,U,W⟩:=zM h;cases W;obtain⟨M,Z,N⟩:=zNp os H j U (by simpa only[lC]using J)
   refine⟨by simp only[buO,qf,M],by simpa using Z,fun i o ho y=>?_⟩
   cases i with
   | succ i=>simpa[mV]using N i o (by simpa[buO]using ho) y
   | zero=>
    simp only[buO,js,za]at ho;subst ho;exact⟨rfl,x,rfl,jAf ht⟩
  ·cases h
 | .r z e::os,x::H,j,A,h,J=>by
  cases x with
  | row I e'=>
   simp only[zJc]at h;cases he:Nat.beq e e' with
   | false=>rw[he]at h;cases h
   | true=>
    rw[he,ze]at h;obtain rfl:=zV he;obtain⟨b,hb,h⟩:=zM h;obtain⟨G,U,W⟩:=zM h;cases W;have hn:=dH z I hb;have hl:=pJ z I hb;obtain⟨t1,t2⟩:=zIk (b:=G.2) hn;have hs0:∀(q i:Nat),(wB z I)[q]?=some (some i)→src[j+q]?=some (some i):=fun q i e=>J q i (by
     have hq:q<(wB z I).length:=(zh.1 e).1;show(wB z I++lC os H)[q]?=_;rw[qh hq];exact e)
    have hs1:∀(q i:Nat),(lC os H)[q]?=some (some i)→src[j+nA z+q]?=some (some i):=fun q i e=>by
     have:=J (nA z+q) i (by
      show(wB z I++lC os H)[nA z+q]?=_;rw[jk (by omega),hl,hn,j6];exact e)
     rwa[xq]
    obtain⟨M,Z,N⟩:=zNp os H (j+nA z) U hs1;rw[←xq]at M N;refine⟨by simp only[buO,t2,qf,M],by simpa using Z,fun i o ho y=>?_⟩
    cases i with
    | succ i=>simpa[mV]using N i o (by simpa[buO,t2]using ho) y
    | zero=>
     simp only[buO,t1,js,za]at ho;subst ho;refine⟨rfl,_,rfl,rfl,fun z e=>(by cases e),fun B B' r C ob hB hq hN hro=>?_⟩
     cases hro with
     | row hr=>
      refine .row ?_;exact zAa (H:=H0) hB hN z I (m+j) hb (fun q i e=>by
       have:=hq (j+q) i (hs0 q i e);rwa[←xq]at this) hr
  | _=>cases h
theorem zVk {os : List Ob'} : ∀ (l : List (Option Nat)), zLn m os l = true → (∀ (q i : Nat), l[q]? = some (some i) → m ≤ i ∨ isG (nth .g os i) = true) ∧ ∀ (q z i : Nat), l[q]? = some (some i) → l[z]? = some (some i) → q = z
  | [], _ => ⟨fun q i e => by simp at e, fun q z i e => by simp at e⟩
  | none :: l, h => by
    obtain ⟨I, J⟩ := zVk l h
    refine ⟨fun q i e => ?_, fun q z i e A => ?_⟩
    · cases q with
      | zero => simp at e
      | succ q => exact I q i (by simpa using e)
    · cases q with
      | zero => simp at e
      | succ q => cases z with
        | zero => simp at A
        | succ z => rw [J q z i (by simpa using e) (by simpa using A)]
  | some j :: l, h => by
    simp only [zLn, zd] at h
    obtain ⟨⟨U, G⟩, h⟩ := h
    obtain ⟨I, J⟩ := zVk l h
    have no : ∀ (q : Nat), l[q]? ≠ some (some j) := by
      have : ∀ (l : List (Option Nat)), zJa j l = false → ∀ q : Nat, l[q]? ≠ some (some j) := by
        intro l
        induction l with
        | nil => intro _ q e; simp at e
        | cons x l N =>
          intro C q e
          cases x with
          | none =>
            cases q with
            | zero => simp at e
            | succ q => exact N C q (by simpa using e)
          | some y =>
            simp only [zJa, xr] at C
            cases q with
            | zero => simp at e; subst e; simp at C
            | succ q => exact N C.2 q (by simpa using e)
      exact this l (by simpa using U)
    refine ⟨fun q i e => ?_, fun q z i e A => ?_⟩
    · cases q with
      | zero =>
        simp at e; subst e
        cases M : Nat.blt j m with
        | false => left; have : ¬ j < m := fun hlt => by rw [← qz] at hlt; rw [M] at hlt; cases hlt
                   omega
        | true => right; simpa [M] using G
      | succ q => exact I q i (by simpa using e)
    · cases q with
      | zero =>
        simp at e; subst e
        cases z with
        | zero => rfl
        | succ z => exact absurd (by simpa using A) (no z)
      | succ q => cases z with
        | zero => simp at A; subst A; exact absurd (by simpa using e) (no q)
        | succ z => rw [J q z i (by simpa using e) (by simpa using A)]
theorem zTh{y:Sp}{q:Hs}(h:(gW m y s).run=some q)(hW:Wd P E w0 X F s.H B w Y Mo)(hF:FrT n a s.L D B (rd w Y)):
  ∃src,Wd P E w0 X F (bu m y q).H (reB B m src) w Y Mo∧FrT n a (bu m y q).L D (reB B m src) (rd w Y)∧m≤s.H.length:=by
 unfold gW at h;cases hc:zLn m y.os (wB y.ss s.L++lC y.os s.H)&&(Nat.beq (ln y.os) m&&Nat.ble m (ln s.H))with
 | false=>rw[hc]at h;cases h
 | true=>
  rw[hc,ze]at h;simp only[zd]at hc;obtain⟨c1,V,c3⟩:=hc;obtain⟨b,h1,h⟩:=zM h;obtain⟨I,h2,h3⟩:=zM h;cases h3;have V:=zV V;rw[qU]at V;have c3:m≤s.H.length:=by rw[←qU];exact je c3
  obtain⟨s1,s2⟩:=zVk _ c1;obtain⟨a1,a2⟩:=zWb (qCs y.ss s.L h1) (zEy y.os s.H h2);have hn:=dH y.ss s.L h1;have M:=pJ y.ss s.L h1;obtain⟨t1,t2⟩:=zIk (b:=I.2) hn;obtain⟨o1,o2,o3⟩:=zNp (P:=P) (src:=wB y.ss s.L++lC y.os s.H) y.os s.H (nA y.ss) h2 fun q i e=>by
   rw[jk (by omega),M,hn,j6];exact e
  have hbu:bu m y ⟨b.1,b.2++I.2,I.1⟩=⟨buL y.ss m b.1 b.2,buO y.os (m+nA y.ss) I.1 I.2++(buA y.ss b.2++buB y.os I.2)⟩:=by
   unfold bu;simp only[t1,t2]
  rw[hbu];refine⟨wB y.ss s.L++lC y.os s.H,?_,⟨hF.size,?_,hF.defers⟩,c3⟩
  ·have J:∀{o:TO},vO o=true→o≠.gone:=fun h e=>by subst e;cases h
   have get:∀(i:Nat)(o:TO),(buO y.os (m+nA y.ss) I.1 I.2++(buA y.ss b.2++buB y.os I.2))[i]?=some o→vO o=true→(i<m∧(buO y.os (m+nA y.ss) I.1 I.2)[i]?=some o)∨(m≤i∧(buA y.ss b.2++buB y.os I.2)[i-m]?=some o):=fun i o ho M=>by
    rw[wl]at ho;split at ho
    ·rename_i z;rw[o1,V]at z;exact .inl ⟨z,ho⟩
    ·rename_i z;rw[o1,V]at z ho;exact .inr ⟨by omega,ho⟩
   refine hW.re (fun i=>if i<m then some i else(match(wB y.ss s.L++lC y.os s.H)[i-m]? with | some x=>x | none=>none)) rfl (fun i z=>?_) (fun i o ho M=>?_) (fun i cs hf=>?_) (fun i j k p1 p2 g1 l1 g2 l2 W Z=>?_)
   ·have hlen:(buO y.os (m+nA y.ss) I.1 I.2++(buA y.ss b.2++buB y.os I.2)).length=m+(wB y.ss s.L++lC y.os s.H).length:=by
     rw[qo,o1,V,a1]
    rw[hlen]at z;show(if i<m then B i else _)=none
    rw[qm (by omega),qb (by omega)]
   ·rcases get i o ho M with⟨z,ho⟩ | ⟨z,ho⟩
    ·obtain⟨_,o1',r2,r3,_,r4⟩:=o3 i o ho (J M);exact⟨i,o1',qn z,zFn z,r2,r3,fun C ob U=>r4 _ _ _ C ob (fun i z=>zFn z) (fun q i e=>zOe e) rfl U⟩
    ·obtain⟨j,c,g,A,x,e,r1,r2,r3,r4⟩:=a2 (i-m) o ho (J M);have N:=lQ r3 (by simp)
     refine⟨j,_,?_,?_,N,rfl,fun C ob U=>?_⟩
     ·simp only[qm (show¬i<m by omega),r2]
     ·have:=zOe (B:=B) (m:=m) r2;rwa[Nat.add_sub_cancel' z]at this
     ·subst r1;cases U with
      | gro hi' hs hC hr=>
       obtain⟨k1,k2⟩:=qKz r4 hr;refine .gro hi' hs hC ?_;show zP _ _ (qP g A x) (List.take (qP g A x).length _);rw[k2];exact cZ (g:=g) (A:=A) (B:=B) (B':=reB B m (wB y.ss s.L++lC y.os s.H)) rfl (aN g A x) k1
   ·have hf:(buO y.os (m+nA y.ss) I.1 I.2++(buA y.ss b.2++buB y.os I.2))[i]?=some (.fz cs):=hf;rw[wl]at hf;split at hf
    ·obtain⟨_,_,_,_,e,_⟩:=o3 i _ hf (by simp)
     exact e cs rfl
    ·obtain⟨_,_,_,_,_,_,e,_⟩:=a2 _ _ hf (by simp)
     cases e
   ·have G:∀(i:Nat)(o:TO),(buO y.os (m+nA y.ss) I.1 I.2++(buA y.ss b.2++buB y.os I.2))[i]?=some o→vO o=true→i<m→isG (nth .g y.os i)=false:=fun i o ho M z=>by
     rcases get i o ho M with⟨_,ho⟩ | ⟨h,_⟩
     ·exact(o3 i o ho (J M)).1
     ·omega
    have S:∀{i k:Nat},m≤i→(if i<m then some i else(match(wB y.ss s.L++lC y.os s.H)[i-m]? with | some x=>x | none=>none))=some k→(wB y.ss s.L++lC y.os s.H)[i-m]?=some (some k):=fun{i k}z e=>by
     rw[qm (by omega)]at e
     split at e
     ·rename_i x hx;rw[hx,e]
     ·cases e
    rcases qg i m with z | z<;>rcases qg j m with N | N
    ·rw[qn z]at W;rw[qn N]at Z;cases W;cases Z;rfl
    ·rw[qn z]at W;cases W;rcases s1 _ _ (S N Z)with h | h
     ·omega
     ·rw[G i p1 g1 l1 z]at h;cases h
    ·rw[qn N]at Z;cases Z;rcases s1 _ _ (S z W)with h | h
     ·omega
     ·rw[G j p2 g2 l2 N]at h;cases h
    ·have:=s2 _ _ _ (S z W) (S N Z);omega
  ·exact zAa (H:=s.H) (fun i z=>zFn z) rfl y.ss s.L m h1 (fun q i e=>zOe (by
    have hq:q<(wB y.ss s.L).length:=(zh.1 e).1;rw[qh hq];exact e)) hF.reps
end
structure Lp where
 m:Nat
 sp:Sp
 sx:Sp
 sr:Sp
def Lp.bx(l:Lp):Ex×Hs→Ex×S
 | (.r,q)=>(.r,bu l.m l.sr q)
 | (e,q)=>(e,bu l.m l.sx q)
def Lp.end_(l:Lp):Ex×S→DT (Hs⊕(Ex×Hs))
 | (.n,s)=>(gW l.m l.sp s).bind fun q=> .ret (.inl q)
 | (.x id,s)=>(gW l.m l.sx s).bind fun q=> .ret (.inr (.x id,q))
 | (.r,s)=>(gW l.m l.sr s).bind fun q=> .ret (.inr (.r,q))
 | _=> .no
def Lp.stp(l:Lp)(rn:Rd')(f:Nat)(p:List Bool)(x:Code)(q:Hs):Option (Hs⊕(Ex×Hs)):=((rn f (false::p) x (bu l.m l.sp q)).bind l.end_).run
inductive It (st:Hs→Option (Hs⊕(Ex×Hs))):Nat→Hs→Ex×Hs→Prop
  | out {q:Hs} {y:Ex×Hs} (h:st q=some (.inr y)):It st 0 q y
  | go {n:Nat} {q q':Hs} {y:Ex×Hs} (h:st q=some (.inl q')) (k:It st n q' y):It st (n+1) q y
section
variable {P:Program}{OD:Od}{LO:Lo}{rn:Rd'}{l:Lp}{f:Nat}{p:List Bool}{x:Code}{s:S}
theorem qOd(hrn:gQ P rn)(hc:cAt P f p=some (.loop x)){n:Nat}{q:Hs}{y:Ex×Hs}(hm:l.m=s.H.length)(h0:(gW l.m l.sp s).run=some q)(h:It (l.stp rn f p x) n q y):Tr P (.loop x) s (l.bx y).1 (l.bx y).2:=by
 intro E w0 X F n0 a D B w Y Mo rr Q hr hW hF hA;have c1:cAt P f (false::p)=some x:=by simp[cAt,hc,aB]
 have hr1:rr=none∨noR x=true:=hr.imp id fun h=>by simpa[noR]using h
 have hBm:∀i,l.m≤i→B i=none:=fun i hi=>hW.nn i (by rw[←hm];exact hi)
 refine lM (γ:=Nat×Hs×List Nat) (fun g a2 w2=>It (l.stp rn f p x) g.1 g.2.1 y∧∃B' Y' C,(noR x=true→g.2.2=[])∧Wd P E w0 X (g.2.2++F) (bu l.m l.sp g.2.1).H B' w2 Y' C∧FrT n0 a2 (bu l.m l.sp g.2.1).L (g.2.2.map Gv.mark++D) B' (rd w2 Y')∧BLe B B'∧Le (rd w Y) (rd w2 Y'))
  (fun g=>g.1) (n,q,[]) ?_ ?_
 ·obtain⟨src,k1,k2,_⟩:=zTh h0 hW hF;exact⟨h,_,Y,Mo,fun _=>rfl,k1,k2,zVf (BLe.refl B) hBm,Le.refl _⟩
 ·rintro⟨j,q0,I⟩ a0 w1 ⟨hit,B1,Y1,Mo1,hb1,g1,g2,g3,g4⟩;simp only at hit hb1 g1 g2;have st:∀{z:Hs⊕(Ex×Hs)},l.stp rn f p x q0=some z→∃M N,(rn f (false::p) x (bu l.m l.sp q0)).run=some (M,N)∧(l.end_ (M,N)).run=some z:=fun h=>by
   obtain⟨⟨M,N⟩,h1,U⟩:=zM h;exact⟨M,N,h1,U⟩
  have fin:∀{N:S}{a':Act}{w':World}{B':Bm}{Y':Hid}{C:List (Nat×Obj)}{bs:List Nat}{sp:Sp}{A:Hs},(gW l.m sp N).run=some A→Wd P E w0 X (bs++(I++F)) N.H B' w' Y' C→FrT n0 a' N.L (bs.map Gv.mark++(I.map Gv.mark++D)) B' (rd w' Y')→BLe B B'→
    ∃W,Wd P E w0 X (bs++I++F) (bu l.m sp A).H W w' Y' C∧FrT n0 a' (bu l.m sp A).L ((bs++I).map Gv.mark++D) W (rd w' Y')∧BLe B W:=fun hq k1 k2 k3=>by
   obtain⟨src,J,G,_⟩:=zTh hq k1 k2;exact⟨_,by rw[qt];exact J,by rw[xu,qt];exact G,zVf k3 hBm⟩
  have out:∀{M:Ex}{N:S},(rn f (false::p) x (bu l.m l.sp q0)).run=some (M,N)→((∃A,(gW l.m l.sp N).run=some A∧M= .n∧∃j',j=j'+1∧It (l.stp rn f p x) j' A y)∨(∃A,(gW l.m l.sx N).run=some A∧(∃id,M= .x id)∧l.bx y=(M,bu l.m l.sx A))∨(∃A,(gW l.m l.sr N).run=some A∧M= .r∧l.bx y=(M,bu l.m l.sr A)))→
    x.wpIn (FF rr) 0 P (Exit.then (fun a' w'=>∃Z:Nat×Hs×List Nat,(It (l.stp rn f p x) Z.1 Z.2.1 y∧∃B' Y' C,(noR x=true→Z.2.2=[])∧Wd P E w0 X (Z.2.2++F) (bu l.m l.sp Z.2.1).H B' w' Y' C∧FrT n0 a' (bu l.m l.sp Z.2.1).L (Z.2.2.map Gv.mark++D) B' (rd w' Y')∧BLe B B'∧Le (rd w Y) (rd w' Y'))∧Z.1<j) Q) a0 w1:=fun h1 hh=>by
   refine hrn _ _ _ _ _ _ c1 h1 E w0 X _ n0 a0 _ B1 w1 Y1 Mo1 rr _ hr1 g1 g2 fun a' w' B' Y' C bs hbs k1 k2 k3 k4=>?_;have V:noR x=true→bs++I=[]:=fun e=>by rw[hbs e,hb1 e];rfl
   rcases hh with⟨A,hq,rfl,j',rfl,hit'⟩ | ⟨A,hq,⟨id,rfl⟩,hy⟩ | ⟨A,hq,rfl,hy⟩
   ·obtain⟨W,J,G,r3⟩:=fin hq k1 k2 (g3.trans k3);exact⟨(j',A,bs++I),⟨hit',W,Y',C,V,J,G,r3,g4.trans k4⟩,x9 j'⟩
   ·obtain⟨W,J,G,r3⟩:=fin hq k1 k2 (g3.trans k3);rw[hy]at hA;exact hA a' w' W Y' C (bs++I) (fun e=>V (by simpa[noR]using e)) J G r3 (g4.trans k4)
   ·obtain⟨W,J,G,r3⟩:=fin hq k1 k2 (g3.trans k3);rw[hy]at hA;exact hA a' w' W Y' C (bs++I) (fun e=>V (by simpa[noR]using e)) J G r3 (g4.trans k4)
  cases hit with
  | go h k=>
   obtain⟨M,N,h1,U⟩:=st h;refine out h1 ?_;cases M with
   | n=>obtain⟨A,J,G⟩:=zM U;cases G;exact .inl ⟨_,J,rfl,_,rfl,k⟩
   | x id=>obtain⟨A,J,G⟩:=zM U;cases G
   | r=>obtain⟨A,J,G⟩:=zM U;cases G
   | p t=>cases U
  | out h=>
   obtain⟨M,N,h1,U⟩:=st h;refine out h1 ?_;cases M with
   | n=>obtain⟨A,J,G⟩:=zM U;cases G
   | x id=>obtain⟨A,J,G⟩:=zM U;cases G;exact .inr (.inl ⟨A,J,⟨id,rfl⟩,rfl⟩)
   | r=>obtain⟨A,J,G⟩:=zM U;cases G;exact .inr (.inr ⟨A,J,rfl,rfl⟩)
   | p t=>cases U
def Lp.row(l:Lp)(h:Hs→DT (Ex×Hs))(s:S):DT (Ex×S):=bif Nat.beq l.m (ln s.H)then(gW l.m l.sp s).bind fun q=>(h q).bind fun y=> .ret (l.bx y)else .no
def eqP:List Bool→List Bool→Bool
 | [],[]=>true
 | a::p,b::q=>zZp a b&&eqP p q
 | _,_=>false
theorem zTv:∀{p q:List Bool},eqP p q=true→p=q
 | [],[],_=>rfl
 | a::p,b::q,h=>by
  simp only[eqP,zd]at h;rw[zTv h.2];congr 1;cases a<;>cases b<;>first | rfl | cases h.1
def loT:List (Nat×List Bool×(S→DT (Ex×S)))→Lo
 | [],_,_,_=>none
 | (g,e,h)::l,f,p,s=>bif Nat.beq g f&&eqP e p then some (h s)else loT l f p s
theorem zZ:wC P (loT []):=fun _ _ _ _ h=>by cases h
theorem jO{t:List (Nat×List Bool×(S→DT (Ex×S)))}(ht:wC P (loT t)){h:Hs→DT (Ex×Hs)}(C:gQ P rn)(I:cAt P f p=some (.loop x))(Z:∀q y,(h q).run=some y→∃n,It (l.stp rn f p x) n q y):wC P (loT ((f,p,l.row h)::t)):=by
 intro G J s d hd x' z e s' j;simp only[loT]at hd;cases A:Nat.beq f G&&eqP p J with
 | false=>rw[A,zf]at hd;exact ht G J s d hd x' z e s' j
 | true=>
  rw[A,ze]at hd;cases hd;simp only[zd]at A;obtain rfl:=zV A.1;obtain rfl:=zTv A.2;rw[I]at z;cases z;unfold Lp.row at j;cases hm:Nat.beq l.m (ln s.H)with
  | false=>rw[hm]at j;cases j
  | true=>
   rw[hm,ze]at j;have hm:=zV hm;rw[qU]at hm;obtain⟨q,N,U⟩:=zM j;obtain⟨y,V,W⟩:=zM U;obtain⟨n,hn⟩:=Z q y V;have:=qOd C I hm N hn;have M:l.bx y=(e,s'):=q8 W;rw[M]at this;exact this
end
@[match_pattern] abbrev limsT:Ty:= .list .lim
@[match_pattern] abbrev zL:Ty:= .prod .bool (.prod (.list .lim) (.list .lim))
def jCg(A:Ty):T→Option (List A.den)
 | .ls _ e l=>tY e A l
 | .v (.slice none 0 0)=>some []
 | .sl j n=>bif gN A then(match dJ (n*A.size) j with
  | some us=>(match chk A (n+1) us with
   | some l=>(match zPl .a A l []with
    | some x=>bif Nat.beq (ln x) n then some x.reverse else none
    | none=>none)
   | none=>none)
  | none=>none)else none
 | _=>none
def qLg:Ty→T→Option T
 | .list A,t=>(match jCg A t with
  | some l=>some (.ls .a A l)
  | none=>none)
 | .prod A B,.ag j=>(match mI .a (.prod A B) j with
  | some x=>some (.ag (qE .a (.prod A B) x))
  | none=>none)
 | .int k,.v (.int e a)=>bif Nat.beq (kind k) (kind e)then some (.v (.int e a))else none
 | .bool,.v (.bool b)=>some (.v (.bool b))
 | .str,.v (.string b)=>some (.v (.string b))
 | _,_=>none
def zPf:List Ty→List T→Option (List T)
 | [],[]=>some []
 | A::e,t::j=>(match qLg A t,zPf e j with
  | some x,some r=>some (x::r)
  | _,_=>none)
 | _,_=>none
section
variable {P:Program}{B:Bm}{r:Rd}{f k:Nat}{az cz:List T}{tv:T}{nw:Bool}
theorem zFs.of_flat{p:Nat→Prop}{g:Tg}{A:Ty}{x:List A.den}{z:List Value}{b o c:Nat}(hg:∀(A:Ty)(l:List A.den)(v:Value),Rep B r (.ls g A l) v→jF r p (.list A) l [v])(W:gN A=true)(h:zP B r (qP g A x) z)(hr:∀(j:Nat)(v:Value),z[j]?=some v→r ⟨b,o+j,none⟩=some v)(hp:p b)(Z:x.length≤c)(hm:c≤maxLen):
  zFs r p A.size (fun y us=>jF r p A y us) (some ⟨b,o,none⟩) c x.reverse:=by
 refine⟨by simpa using Z,hm,.inr ⟨b,o,rfl,hp,fun j y N=>?_⟩⟩
 have hj:j<x.length:=by
  have:=(zh.1 N).1;simpa using this
 have M:x.length*A.size=z.length:=by
  have:=h.length;rwa[vX]at this
 have I:(j+1)*A.size≤x.length*A.size:=q6 _ hj;rw[ja,vw]at I;have G:((z.drop (j*A.size)).take A.size).length=A.size:=by
  rw[jo,xj];omega
 have e:∀(q:Nat)(v:Value),((z.drop (j*A.size)).take A.size)[q]?=some v→z[j*A.size+q]?=some v:=fun q v C=>by
  rw[qi]at C;split at C
  ·rwa[jm]at C
  ·cases C
 refine⟨(z.drop (j*A.size)).take A.size,G,?_,fun q v C=>hr _ _ (e q v C)⟩;refine jF.of_reps (B2:=B) hg A W y _ (zP.of (by rw[jM,G]) fun q t v ht hv=>?_)
 have U:=zCp g A x j y N q t ht;obtain⟨v',J,V⟩:=h.get U;rw[e q v hv]at J;cases J;exact V
theorem qQc{A:Ty}{t:T}{l:List A.den}{v:Value}(h:jCg A t=some l)(C:Rep B r t v):Rep B r (.ls .a A l) v:=by
 unfold jCg at h;split at h
 ·obtain⟨rfl,he⟩:=fB h;obtain rfl:=fg he;cases C with
  | ls h1=>exact .ls (jF.mono (Le.refl _) (fun b _=>Bm.In.any) _ _ _ h1)
 ·cases h;obtain⟨rfl,_⟩:=C.vI;exact .ls ⟨none,0,rfl,zq _,qu _,.inl rfl⟩
 ·rename_i z n;cases J:gN A with
  | false=>rw[J]at h;cases h
  | true=>
   rw[J,ze]at h;split at h
   ·rename_i us hu;split at h
    ·rename_i Z N;split at h
     ·rename_i x hx;cases y:Nat.beq (ln x) n with
      | false=>rw[y]at h;cases h
      | true=>
       rw[y,ze]at h;cases h;have y:=zV y;rw[qU]at y;subst y;have hb:=C.dn;obtain⟨ad,c,rfl,hc,hh⟩:=C.slI;have hm:=C.slB;obtain⟨_,rfl⟩:=zBv _ _ _ hu;have he:=chk_ok _ _ N;rcases hh with⟨h0,rfl⟩ | ⟨b,o,rfl,U⟩
       ·have:=qT h0;subst this;exact .ls ⟨ad,c,rfl,qu _,hm,.inl rfl⟩
       ·obtain⟨fv,g1,g2⟩:=U.fun;have M:zP B r (z.take (x.length*A.size)) ((List.range (z.take (x.length*A.size)).length).map fv):=zP.of (by simp) fun j t v e W=>by
         rw[qw]at W;obtain⟨j',I,rfl⟩:=kA.1 W;have hj:=(zh.1 I);obtain⟨G,q⟩:=hj;rw[y9]at q;subst q;rw[qi]at e;split at e
         ·exact g2 _ _ e
         ·cases e
        have hk:=zFx Z [] hx (by simpa[qP,←he]using M)
        refine .ls ⟨some ⟨b,o,none⟩,c,by rw[xf],zFs.of_flat (g:= .a) (fun A l v h=>by cases h with | ls h=>exact h) J hk.1 (fun j v hv=>?_) Bm.In.any hc hm⟩
        rw[qw]at hv;obtain⟨j',I,rfl⟩:=kA.1 hv;obtain⟨G,q⟩:=zh.1 I;rw[y9]at q;subst q;have V:j<z.length:=by
         have:j<(z.take (x.length*A.size)).length:=by simpa using G
         exact z8 this (List.length_take_le' _ _)
        exact g1 j z[j] (by simp[V])
     ·cases h
    ·cases h
   ·cases h
 ·cases h
theorem qLh{A:Ty}{t y:T}{v:Value}(h:qLg A t=some y)(e:Rep B r t v):Rep B r y v:=by
 unfold qLg at h;split at h
 ·split at h
  ·rename_i l z;cases h;exact qQc z e
  ·cases h
 ·split at h
  ·rename_i A C J x G;cases h;obtain⟨M,rfl,j⟩:=e.agI;exact Rep.mkAg (fA _ G j).1
  ·cases h
 ·rename_i k I a;cases q:Nat.beq (kind k) (kind I)with
  | false=>rw[q]at h;cases h
  | true=>rw[q]at h;cases h;exact e
 ·cases h;exact e
 ·cases h;exact e
 ·cases h
theorem zPg:∀{y:List Ty}{az cz:List T}{q:List Value},zPf y az=some cz→zP B r az q→zP B r cz q
 | [],[],cz,q,h,e=>by cases h;exact e
 | A::y,t::C,cz,v::q,h,e=>by
  simp only[zPf]at h;cases j:qLg A t with
  | none=>simp[j]at h
  | some x=>
   cases z:zPf y C with
   | none=>simp[j,z]at h
   | some rr=>
    simp only[j,z,za]at h;subst h;exact⟨qLh j e.1,zPg z e.2⟩
 | [],_::_,_,_,h,_=>by cases h
 | _::_,[],_,_,h,_=>by cases h
 | _::_,_::_,_,[],_,e=>e.elim
theorem KnP.arg(h:KnP P k f cz tv nw)(ha:∀(B:Bm)(r:Rd)(e:List Value),zP B r az e→zP B r cz e):KnP P k f az tv nw:=fun B w X qQ R j A z y q=>h B w X qQ R j A z (ha B _ _ y) q
def odR(e:List Ty)(h:List T→DT (T×Bool))(az:List T):DT (T×Bool):=match zPf e az with
 | some cz=>h cz
 | none=> .no
def odT:List (Nat×(List T→DT (T×Bool)))→Od
 | [],_=>none
 | (g,h)::l,f=>bif Nat.beq g f then some h else odT l f
theorem jZ:vD P (odT []):=fun _ _ h=>by cases h
theorem zS{t:List (Nat×(List T→DT (T×Bool)))}{h:List T→DT (T×Bool)}(ht:vD P (odT t))(y:∀az tv nw,(h az).run=some (tv,nw)→∀k,KnP P k f az tv nw):vD P (odT ((f,h)::t)):=by
 intro g q e;simp only[odT]at e;cases j:Nat.beq f g with
 | false=>rw[j,zf]at e;exact ht g q e
 | true=>rw[j,ze]at e;cases e;obtain rfl:=zV j;exact y
theorem jI{j:List Ty}{h:List T→DT (T×Bool)}(z:∀cz tv nw,(h cz).run=some (tv,nw)→∀k,KnP P k f cz tv nw):∀az tv nw,(odR j h az).run=some (tv,nw)→∀k,KnP P k f az tv nw:=fun az tv nw e k=>by
 unfold odR at e;split at e
 ·rename_i cz y;exact(z cz tv nw e k).arg fun B r A q=>zPg y q
 ·cases e
theorem yM{OD:Od}{LO:Lo}(hm:P.follows .mixedOrders=true)(z:vD P OD)(y:wC P LO){n:Nat}(h:((qC P (evD P OD LO n) f (cz.map (unN 12)) []).bind qF).run=some (tv,nw))(e:(cz.all (clean 12)&&clean 12 tv)=true)(k:Nat):KnP P k f cz tv nw:=by
 obtain⟨⟨t,A⟩,j,q⟩:=zM h;simp only[zd]at e;exact(qFb (k:=0) hm (kL hm z y n) j q).clean e.1 e.2 k
def qAl:T→Option (List Nat)
 | .ls _ .lim l=>some l
 | t=>zUj t
def arX:T→Option Ar
 | .ag [.v (.bool b),x,y]=>(match qAl x,qAl y with
  | some l,some e=>some (.r ⟨b,l,e⟩)
  | _,_=>none)
 | t=>arT t
def zTe:List T→Option (List Ar)
 | []=>some []
 | t::l=>match arX t,zTe l with
  | some a,some r=>some (a::r)
  | _,_=>none
def unX:Ar→T
 | .r a=> .ag [.v (.bool a.neg),.ls .a .lim a.ln,.ls .a .lim a.ld]
 | .i n=> .v (.int .i64 n)
 | .b b=> .v (.bool b)
 | .s s=> .v (.string s)
def jDa:Rs→T
 | .one a=>unX a
 | .tup l=> .tu (l.map unX)
variable {X:Hid}{w:World}
theorem jAc{g:Tg}{l:List Nat}{v:Value}(h:Rep B (rd w X) (.ls g .lim l) v):∃ad n c,v= .slice ad n c∧zN (rd w X) ad n c l:=by
 obtain⟨ad,c,rfl,C,hm,y⟩:=h.lsI;refine⟨ad,_,c,rfl,rfl,C,hm,?_,?_⟩
 ·rcases y with rfl | ⟨b,o,rfl,_,k⟩
  ·intro x q;cases q
  ·intro x q;obtain⟨i,A⟩:=jr q;obtain⟨G,_,g2,_⟩:=k i x A;exact g2.2
 ·rcases y with rfl | ⟨b,o,rfl,_,k⟩
  ·exact .inl rfl
  ·refine .inr ⟨b,o,rfl,fun j v hv=>?_⟩;simp only[U32,qw]at hv;cases q:l[j]? with
   | none=>rw[q]at hv;cases hv
   | some x=>
    rw[q]at hv;cases hv;obtain⟨G,g1,g2,z⟩:=k j x q;obtain⟨rfl,_⟩:=g2;have:=z 0 _ rfl;rw[jT];have e:o+(j*Ty.lim.size+0)=o+j:=by show o+(j*1+0)=o+j;omega
    rwa[e]at this
theorem qGi{ad:Option Addr}{n c:Nat}{l:List Nat}(h:zN (rd w X) ad n c l):Rep B (rd w X) (.ls .a .lim l) (.slice ad n c):=by
 have e:=h.hlen;subst e;refine .ls ⟨ad,c,rfl,h.hcap,h.hbig,?_⟩;rcases h.hat with rfl | ⟨b,o,rfl,ha⟩
 ·exact .inl rfl
 ·refine .inr ⟨b,o,rfl,Bm.In.any,fun i x q=>⟨[.int .u32 (.ofNat x)],rfl,⟨rfl,h.hlt x (qk q)⟩,fun j v hv=>?_⟩⟩;cases j with
  | succ j=>simp at hv
  | zero=>
   cases hv;have:=ha i (.int .u32 (.ofNat x)) (by simp only[U32,qw,q];rfl)
   rw[jT]at this;have e:o+(i*Ty.lim.size+0)=o+i:=by show o+(i*1+0)=o+i;omega
   rwa[e]
theorem zXi{t:T}{l:List Nat}{v:Value}(h:qAl t=some l)(e:Rep B (rd w X) t v):∃ad n c,v= .slice ad n c∧zN (rd w X) ad n c l:=by
 unfold qAl at h;split at h
 ·cases h;exact jAc e
 ·exact zNd h e
theorem qVe{t:T}{a:Ar}{v:Value}(h:arX t=some a)(z:Rep B (rd w X) t v):ArV X w a v:=by
 unfold arX at h;split at h
 ·rename_i b x y;cases e:qAl x with
  | none=>simp[e]at h
  | some l=>
   cases j:qAl y with
   | none=>simp[e,j]at h
   | some V=>
    simp only[e,j,za]at h;subst h;obtain⟨I,rfl,q⟩:=z.agI;match I,q with
    | [v1,v2,v3],⟨g1,g2,A,_⟩=>
     obtain⟨rfl,_⟩:=g1.vI;obtain⟨J,W,N,rfl,C⟩:=zXi e g2;obtain⟨M,Z,U,rfl,G⟩:=zXi j A;exact⟨_,_,_,_,_,_,rfl,C,G⟩
 ·exact qDc h z
theorem zMb:∀{q:List T}{az:List Ar}{z:List Value},zTe q=some az→zP B (rd w X) q z→zSr X w az z
 | [],az,[],h,_=>by simp[zTe]at h;subst h;trivial
 | t::q,az,v::z,h,e=>by
  simp only[zTe]at h;cases j:arX t with
  | none=>simp[j]at h
  | some a=>
   cases y:zTe q with
   | none=>simp[j,y]at h
   | some r=>
    simp only[j,y,za]at h;subst h;exact⟨qVe j e.1,zMb y e.2⟩
 | [],_,_::_,_,e=>e.elim
 | _::_,_,[],_,e=>e.elim
theorem qKb{a:Ar}{v:Value}(h:ArV X w a v):Rep B (rd w X) (unX a) v:=by
 cases a with
 | r a=>
  obtain⟨_,_,_,_,_,_,rfl,e,j⟩:=h;exact Rep.mkAg (vs:=[.bool a.neg,_,_]) ⟨.v rfl,qGi e,qGi j,trivial⟩
 | i n=>cases h;exact .v rfl
 | b b=>cases h;exact .v rfl
 | s s=>cases h;exact .v rfl
theorem zZb:∀{az:List Ar}{e:List Value},zSr X w az e→zP B (rd w X) (az.map unX) e
 | [],[],_=>trivial
 | _::_,_::_,h=>⟨qKb h.1,zZb h.2⟩
 | [],_::_,h=>h.elim
 | _::_,[],h=>h.elim
theorem zZa{y:Rs}{v:Value}(h:RsV X w y v):Rep B (rd w X) (jDa y) v:=by
 cases y with
 | one a=>exact qKb h
 | tup l=>
  obtain⟨e,rfl,h⟩:=h;exact Rep.mkTu (zZb h)
def kcD(p:List Ar→Option Rs)(nw:Bool)(az:List T):DT (T×Bool):=match zTe az with
 | some az=>(ofO (p az)).bind fun y=> .ret (jDa y,nw)
 | none=> .no
theorem kN{p:List Ar→Option Rs}{nw j:Bool}(J:KC P f p nw):∀az tv,(kcD p nw az).run=some (tv,j)→∀k,KnP P k f az tv j:=by
 intro az tv h k;unfold kcD at h;split at h
 ·rename_i q A;obtain⟨y,z,C⟩:=zM h;rw[xX]at z;cases C;intro B w X qQ R _ _ I G M;refine(J w X I q qQ (zMb A G) y z).mono ?_;rintro e w' ⟨N,v,rfl,hv⟩;exact M v w' N (zZa hv)
 ·cases h
end
end
end Go.Ev

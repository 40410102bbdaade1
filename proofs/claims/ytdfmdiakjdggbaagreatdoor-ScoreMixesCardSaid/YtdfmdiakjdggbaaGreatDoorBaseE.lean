import Derived.Test.YtdfmdiakjdggbaaGreatDoorBaseD
set_option linter.unusedVariables false
set_option linter.unusedSimpArgs false
set_option linter.unnecessarySimpa false
namespace Go
abbrev j6:=@Int.ofNat_eq_natCast
abbrev kf:=@List.reverse_reverse
abbrev xr:=@Bool.or_eq_false_iff
abbrev x7:=@Nat.lt_succ_self
abbrev wz:=@Int.negSucc_eq
abbrev uF:=@List.getElem_range
abbrev uZ:=@List.set_append_right
abbrev gR:=@List.flatten_cons
abbrev fa:=@Nat.min_le_right
abbrev dg:=@List.countP_replicate
abbrev cP:=@Nat.beq_refl
end Go
namespace Go.Ev
open Go Go.Gv Go.RowKit IntKind
noncomputable section
theorem kV{l:Array Bool}{i:Nat}(h:i<l.size):(l.setIfInBounds i true).getD i false=true:=by simp[h]
def jFs(l:Array Bool)(j:Nat):Prop:=∀i,l.getD i false=decide (i<j)
theorem zSu{ops:Array Oper}{l:Array Bool}{j:Nat}{o:Oper}(y:l.size=ops.size)(ho:ops[j]?=some o)(q:l.getD j false=false)(he:∀e∈o.after,Region.binds .any e=true→l.getD e.on false=true):j∈Region.ready .any ops l:=by
 refine xp.2 ⟨?_,o,ho,he⟩;have:j<l.size:=by rw[y];exact(z7.1 ho).1
 simpa[this]using q
def zPs(l:Array Bool):Nat:=l.toList.countP (fun b=>!b)
theorem zCp{l:Array Bool}{i:Nat}(q:i<l.size)(h:l.getD i false=false):zPs (l.setIfInBounds i true)+1=zPs l:=by
 have y:l[i]=false:=by simpa[q]using h
 have e:i<l.toList.length:=by simpa using q
 have j:l.toList[i]'e=false:=by simpa using y
 unfold zPs;rw[y7,List.countP_set e];have z:0<l.toList.countP (fun b=>!b):=List.countP_pos_iff.2 ⟨_,jo e,by simp[j]⟩
 simp only[j,jr,j5,qb,k8,vu];omega
theorem zWr{l:Array Bool}{j:Nat}(h:jFs l j)(C:j≤l.size):zPs l=l.size-j:=by
 have e:l.toList=List.replicate j true++List.replicate (l.size-j) false:=by
  apply kp;intro i;rcases qi i l.size with y | y
  ·have z:=h i;have A:l[i]=decide (i<j):=by simpa[y]using z
   rw[de,Array.getElem?_eq_getElem y,A];rcases qi i j with q | q
   ·rw[qf (by simpa using q)];simp[q]
   ·rw[je (by simpa using q),List.length_replicate,List.getElem?_replicate,qj (by omega)]
    simp;omega
  ·rw[qe (by simpa using y),qe (by simp;omega)]
 unfold zPs;rw[e,List.countP_append,dg,dg];simp
section
variable {P:Program}{H:List TO}{k:Nat}{ρ ρ':Operand→T}{L L2:List T}{cl yd:Cl}{d:Option Nat}{ops:Array Oper}
theorem zUv(op:Op)(h:∀x∈op.operands,ρ x=ρ' x):zCz P H ρ op=zCz P H ρ' op:=by
 cases op with
 | call c=>
  simp only[zCz];split
  ·rename_i x y t C q e A;have hm:∀z,z∈c.args.toList→z∈(Op.call c).operands:=fun z j=>by
    simp only[Op.operands,Call.operands,yW];right;simpa using j
   rw[h x (hm x (by rw[e];simp)),h y (hm y (by rw[e];simp))]
  ·rename_i x y t C q e A;have hm:∀z,z∈c.args.toList→z∈(Op.call c).operands:=fun z j=>by
    simp only[Op.operands,Call.operands,yW];right;simpa using j
   rw[h x (hm x (by rw[e];simp)),h y (hm y (by rw[e];simp))]
  ·rfl
 | _=>simp only[zCz]<;>simp_all [Op.operands]
def Par(d:Option Nat)(L L2:List T):Option S→Option S→Prop
 | none,none=>True
 | some s,some e=>∃t,s.L=dst d t L∧e.L=dst d t L2∧s.H=e.H
 | _,_=>False
theorem qGm(r:T×Option TO):Par d L L2 (zQv d L H r) (zQv d L2 H r):=by
 obtain⟨t,e⟩:=r;cases e<;>exact⟨t,rfl,rfl,rfl⟩
theorem qGn(r:Option T×List TO):Par d L L2 (zQw d L r) (zQw d L2 r):=by
 obtain⟨t,H'⟩:=r;cases t with
 | some t=>exact⟨t,rfl,rfl,rfl⟩
 | none=>cases d with
  | none=>exact⟨.u,rfl,rfl,rfl⟩
  | some d=>trivial
theorem zGz(r:Option (T×List TO)):Par d L L2 (dH d L r) (dH d L2 r):=by
 cases r with
 | none=>trivial
 | some r=>exact⟨r.1,rfl,rfl,rfl⟩
theorem qBg(az:List T)(t:T):Par d L L2 (zEq P cl yd d L H az t) (zEq P cl yd d L2 H az t):=by
 cases t with
 | fn f e=>
  simp only[zEq];cases jX P f with
  | true=>exact zGz _
  | false=>trivial
 | fb f bs=>
  simp only[zEq];cases jX P f with
  | true=>exact zGz _
  | false=>trivial
 | yl l=>exact zGz _
 | _=>trivial
theorem qQt(op:Op)(h:∀x∈op.operands,evO L x=evO L2 x):Par d L L2 (opC P cl yd d L H op) (opC P cl yd d L2 H op):=by
 cases op with
 | call c=>
  simp only[opC];split
  ·rename_i f e;rw[zDq (l:=c.args.toList) (ρ:=evO L) (ρ':=evO L2) (fun x j=>h x (by simp only[Op.operands,Call.operands,yW];right;simpa using j)),h f (by simp[Op.operands,Call.operands,e])]
   exact qBg _ _
  ·trivial
 | _=>trivial
theorem qQv(o:Oper)(h:∀x∈o.op.operands,evO L x=evO L2 x)(C:∀j b p t,o.guard=some (j,b)→ops[j]?=some p→p.dst=some t→nth .u L t=nth .u L2 t):Par o.dst L L2 (opE P cl yd ops o ⟨L,H⟩) (opE P cl yd ops o ⟨L2,H⟩):=by
 have G:kT ops L o=kT ops L2 o:=by
  unfold kT;cases A:o.guard with
  | none=>rfl
  | some I=>
   obtain⟨j,b⟩:=I;cases z:ops[j]? with
   | none=>simp only[z]
   | some p=>
    cases hd:p.dst with
    | none=>simp only[z,hd]
    | some t=>simp only[z,hd,C j b p t A z hd]
 unfold opE;simp only[G];cases kT ops L2 o with
 | none=>trivial
 | some q=>cases q with
  | false=>exact⟨_,rfl,rfl,rfl⟩
  | true=>
   simp only[dN,gM o.op h];cases xD P H (ln H) (evO L2) o.op with
   | some r=>exact qGm r
   | none=>
    simp only[zSc,zUv o.op h];cases zCz P H (evO L2) o.op with
    | some r=>exact qGn r
    | none=>
     have e:=qQt (P:=P) (cl:=cl) (yd:=yd) (d:=o.dst) (H:=H) o.op h;revert e;cases opC P cl yd o.dst L H o.op with
     | some x=>cases opC P cl yd o.dst L2 H o.op with
      | some y=>exact fun e=>e
      | none=>exact fun e=>e.elim
     | none=>cases opC P cl yd o.dst L2 H o.op with
      | some y=>exact fun e=>e.elim
      | none=>
       intro _;simp only[qJd,zAg o h];cases zBw P (evO L2) o with
       | none=>trivial
       | some t=>exact⟨t,rfl,rfl,rfl⟩
def fB(P:Program)(L:List T)(p:Oper)(v:T):Prop:=(∀H k,xD P H k (evO L) p.op=some (v,none))∨((∀H k,xD P H k (evO L) p.op=none)∧zBw P (evO L) p=some v)
theorem dJ{p:Oper}(h:yF p=true):p.guard=none:=by
 unfold yF at h;simp only[zd]at h;cases e:p.guard with
 | none=>rfl
 | some x=>rw[e]at h;cases h.1
theorem wP{p:Oper}(h:yF p=true):(match p.op with | .move _ | .assign _ | .pick .. | .nilCheck _ | .binOp .. | .unOp .. | .convert .. | .slice .. | .fieldAddr .. | .field .. | .indexAddr .. | .index .. | .extract .. =>True | _=>False):=by
 unfold yF at h;simp only[zd]at h;have j:=h.2;split at j<;>first | (rename_i e;rw[e];trivial) | cases j
theorem bY{p:Oper}(h:yF p=true)(H H':List TO)(k j:Nat):xD P H k ρ p.op=xD P H' j ρ p.op:=by
 have:=wP h;split at this<;>first | (rename_i e;rw[e];rfl) | exact this.elim
theorem qQ{t:T}{z:T×Option TO}(h:val t=some z):z.2=none:=by unfold val at h;cases h;rfl
theorem jHr{t:Option T}{z:T×Option TO}(h:qDa t=some z):z.2=none:=by
 unfold qDa at h;cases t with
 | none=>cases h
 | some t=>cases h;rfl
theorem qGh{op:BinOp}{t:TypeId}{C G:List T}{z:T×Option TO}(h:eq3 P op t C G=some z):z.2=none:=by
 unfold eq3 at h;split at h
 ·rename_i i a j b k c q I y J A M;cases e:wX P t (.prod (.int i) (.prod (.int j) (.int k)))&&(!P.eqGuardType P.depth t&&(Nat.beq (kind i) (kind q)&&(Nat.beq (kind j) (kind y)&&Nat.beq (kind k) (kind A))))with
  | false=>rw[e]at h;cases h
  | true=>
   rw[e,ze]at h;split at h<;>first | exact qQ h | cases h
 ·cases h
theorem zLr{p:Oper}(h:yF p=true){z:T×Option TO}(j:xD P H k ρ p.op=some z):z.2=none:=by
 have:=wP h;split at this;all_goals try exact this.elim
 all_goals rename_i e;rw[e]at j;simp only[xD]at j
 all_goals try exact qQ j
 all_goals try cases j
 all_goals first | unfold zMe at j | unfold qRk at j | unfold qCm at j | unfold nZ tY at j | unfold gL at j | unfold zOt at j | unfold sU at j | unfold qRh at j | unfold zCc at j
 all_goals repeat' split at j
 all_goals try unfold zHv at j
 all_goals repeat' split at j
 all_goals try simp only[Bool.cond_eq_ite]at j
 all_goals repeat' split at j
 all_goals first | exact qQ j | exact jHr j | exact qGh j | (cases j;done) | (cases j;rfl) | skip
theorem zLq{p:Oper}(h:yF p=true):zCz P H ρ p.op=none:=by
 have:=wP h;split at this<;>first | (rename_i e;rw[e];rfl) | exact this.elim
theorem zRp{p:Oper}(h:yF p=true):opC P cl yd d L H p.op=none:=by
 have:=wP h;split at this<;>first | (rename_i e;rw[e];rfl) | exact this.elim
theorem qPk{p:Oper}(h:yF p=true):xA p.op=true:=by
 have:=wP h;split at this<;>first | (rename_i e;rw[e];rfl) | exact this.elim
theorem zVk{p:Oper}(h:yF p=true):nE L p.op=none:=by
 have:=wP h;split at this<;>first | (rename_i e;rw[e];rfl) | exact this.elim
theorem zVl{p:Oper}{po:Po}(h:yF p=true):fF P po H L p.op=none:=by
 have:=wP h;split at this<;>first | (rename_i e;rw[e];rfl) | exact this.elim
theorem qBu{p:Oper}{j:List TO}{q:Option Nat}(h:yF p=true):zJr P j H q L p.op=none:=by
 have:=wP h;split at this<;>first | (rename_i e;rw[e];rfl) | exact this.elim
theorem qHv{p:Oper}(h:yF p=true){v:T}(hv:fB P L p v):opE P cl yd ops p ⟨L,H⟩=some ⟨dst p.dst v L,H⟩:=by
 unfold opE kT;rw[dJ h];simp only[dN];rcases hv with hv | ⟨hv,hm⟩
 ·rw[hv];rfl
 ·rw[hv];simp only[zSc,zLq h,zRp h,qJd,hm]
theorem fB.congr{p:Oper}{v:T}(hv:fB P L p v)(h:∀x∈p.op.operands,evO L x=evO L2 x):fB P L2 p v:=by
 rcases hv with hv | ⟨hv,hm⟩
 ·exact .inl fun H k=>by rw[←gM p.op h];exact hv H k
 ·exact .inr ⟨fun H k=>by rw[←gM p.op h];exact hv H k,by rw[←zAg p h];exact hm⟩
theorem fB.of_head{p:Oper}{po:Po}{C j q:List TO}{z:T×Option TO}(h:yF p=true)(e:xJ P po C j q L ops p=some z):z.2=none∧fB P L p z.1:=by
 unfold xJ kT at e;rw[dJ h]at e;simp only[mX,zVk h]at e;cases hp:xD P j (ln q) (evO L) p.op with
 | some y=>
  simp only[hp,za]at e;subst e;have A:=zLr h hp;refine⟨A,.inl fun H k=>?_⟩;rw[bY h H j k (ln q),hp];obtain⟨t,G⟩:=y;cases A;rfl
 | none=>
  simp only[hp,zVl h,qBu h]at e;cases hm:zBw P (evO L) p with
  | none=>simp[hm]at e
  | some t=>
   simp only[hm,za]at e;subst e;exact⟨rfl,.inr ⟨fun H k=>by rw[bY h H j k (ln q),hp],hm⟩⟩
def rF(P:Program)(H:List TO)(L:List T)(p:Oper)(v:T):Prop:=(yF p=true∧fB P L p v)∨(p.guard=none∧∃t x,p.op= .load t x∧zCd P H t (evO L x)=some (v,none))
theorem rF.opE{p:Oper}{v:T}(hv:rF P H L p v):opE P cl yd ops p ⟨L,H⟩=some ⟨dst p.dst v L,H⟩:=by
 rcases hv with⟨h,hv⟩ | ⟨e,t,x,ho,j⟩
 ·exact qHv h hv
 ·unfold Ev.opE kT;rw[e];simp only[dN,ho,xD,j];rfl
theorem rF.nd{p:Oper}{v:T}(hv:rF P H L p v):xA p.op=true:=by
 rcases hv with⟨h,_⟩ | ⟨_,t,x,ho,_⟩
 ·exact qPk h
 ·rw[ho];rfl
theorem rF.congr{p:Oper}{v:T}(hv:rF P H L p v)(h:∀x∈p.op.operands,evO L x=evO L2 x):rF P H L2 p v:=by
 rcases hv with⟨e,hv⟩ | ⟨j,t,x,ho,q⟩
 ·exact .inl ⟨e,hv.congr h⟩
 ·refine .inr ⟨j,t,x,ho,?_⟩;rw[←h x (by rw[ho];simp[Op.operands])]
  exact q
theorem qGj{x y:Value}(h:eqV x y=true):x=y:=by
 unfold eqV at h;split at h
 ·simp only[zd]at h;obtain rfl:=zYm h.1;rw[qHi]at h;simp at h;rw[h]
 ·rename_i a b;cases a<;>cases b<;>first | rfl | cases h
 ·rfl
 ·rfl
 ·rfl
 ·cases h
theorem xB{e:T→T→Bool}(he:∀a b,e a b=true→a=b):∀{l m:List T},dF e l m=true→l=m
 | [],[],_=>rfl
 | a::l,b::m,h=>by
  simp only[dF,zd]at h;rw[he a b h.1,xB he h.2]
 | [],_::_,h=>by cases h
 | _::_,[],h=>by cases h
theorem lY:∀(k:Nat)(a b:T),eqU k a b=true→a=b
 | 0,a,b,h=>by cases h
 | k+1,a,b,h=>by
  simp only[eqU]at h;split at h
  ·rw[qGj h]
  ·simp only[zd]at h;rw[zY h.1,xB (lY k) h.2]
  ·simp only[zd]at h;rw[zY h.1,xB (lY k) h.2]
  ·rw[xB (lY k) h]
  ·rw[xB (lY k) h]
  ·rw[xB (lY k) h]
  ·simp only[zd]at h;rw[zY h.1,xB (lY k) h.2]
  ·simp only[zd]at h;rw[zY h.1,zY h.2.1,zY h.2.2.1,zY h.2.2.2]
  ·simp only[zd]at h;rw[zY h.1,zY h.2.1,zY h.2.2]
  ·simp only[zd]at h;rw[zY h.1,zY h.2]
  ·rw[zY h]
  ·cases h
theorem zYf:∀{l:List Nat}{i:Nat},inN i l=true→i∈l
 | [],i,h=>by cases h
 | j::l,i,h=>by
  simp only[inN,kz]at h;rcases h with h | h
  ·rw[zY h];exact zq
  ·exact zu _ (zYf h)
theorem zLt{s:S}:∀{l:List Nat},nQ P ops s l=true→∀i∈l,∀p,ops[i]?=some p→jBc P s p=true
 | [],_,i,e,_,_=>by cases e
 | j::l,h,i,e,p,hp=>by
  simp only[nQ,zd]at h;rcases qS.1 e with rfl | e
  ·have:=h.1;rwa[hp]at this
  ·exact zLt h.2 i e p hp
theorem rF.of_ld{s:S}{A:List Nat}{i:Nat}{p:Oper}(hp:ops[i]?=some p)(q:aN p=true)(y:inN i A=true)(C:nQ P ops s A=true):∃d,p.dst=some d∧rF P s.H s.L p (nth .u s.L d):=by
 have e:=zLt C i (zYf y) p hp;unfold aN at q;simp only[zd]at q;have j:p.guard=none:=by
  cases j:p.guard with
  | none=>rfl
  | some _=>have:=q.1;rw[j]at this;cases this
 unfold jBc at e;split at e
 ·rename_i t x d ho hd;split at e
  ·rename_i z G;refine⟨d,hd,.inr ⟨j,t,x,ho,?_⟩⟩;rw[G,lY 12 _ _ e]
  ·cases e
 ·cases e
theorem zBs{m:Nat}{e j:List Nat}{i:Nat}{p:Oper}(h:vC m e j i p=true):yF p=true∨(aN p=true∧inN i e=true):=by
 unfold vC at h;cases hb:Nat.blt i m with
 | true=>
  simp only[hb,ze,kz,zd]at h;exact h
 | false=>
  simp only[hb,zf,zd]at h;exact .inl h.1
theorem zLp{m:Nat}{e j:List Nat}{i:Nat}{p:Oper}(h:vC m e j i p=true):(yF p||aN p)=true:=by
 rcases zBs h with h | ⟨h,_⟩<;>rw[h]<;>simp
theorem zAe{m:Nat}{j e:List Nat}{i:Nat}{p:Oper}(h:vC m j e i p=true)(hm:m≤i):inN i e=true:=by
 unfold vC at h;have hb:Nat.blt i m=false:=by
  cases hb:Nat.blt i m with
  | true=>rw[qv]at hb;omega
  | false=>rfl
 simp only[hb,zf,zd]at h;exact h.2
theorem zLy{d:Nat}{x:Operand}(h:dL d x=true){t:Nat}(e:x= .tmp t):t≠d:=by
 subst e;intro e;subst e;simp[dL]at h
theorem free_spec{o p:Oper}(h:aS ops o p=true):∃d,p.dst=some d∧(∀t,Operand.tmp t∈o.op.operands→t≠d)∧(∀j b g t,o.guard=some (j,b)→ops[j]?=some g→g.dst=some t→t≠d)∧∀x,o.dst=some x→x≠d∧∀t,Operand.tmp t∈p.op.operands→t≠x:=by
 unfold aS at h;cases hd:p.dst with
 | none=>simp[hd]at h
 | some d=>
  simp only[hd,zd]at h;refine⟨d,rfl,fun t ht=>zLy (qa.1 h.1 _ (by simpa using ht)) rfl,fun j b g t y z A=>?_,fun x C=>?_⟩
  ·have q:=h.2.1;rw[y]at q;simp only[z,A]at q;intro e;subst e;simp at q
  ·have q:=h.2.2;rw[C]at q;simp only[zd]at q;refine⟨fun e=>?_,fun t ht=>zLy (qa.1 q.2 _ (by simpa using ht)) rfl⟩
   have:=q.1;subst e;simp at this
end
structure FrL(n:Nat)(a:Act)(L:List T)(D:List Deferred)(B:Bm)(r:Rd)(pd:Nat→Prop):Prop where
 size:a.tmps.size=n
 len:L.length=n
 defers:a.defers=D
 reps:∀(t:Nat)(v:Value),¬pd t→a.tmps[t]?=some v→Rep B r (nth .u L t) v
open Classical in
def nU(pd:Nat→Prop)(L:List T):List T:=L.mapIdx fun t x=>if pd t then .u else x
section
variable {pd:Nat→Prop}{L:List T}{t:Nat}{n:Nat}{a:Act}{D:List Deferred}{B:Bm}{r:Rd}
theorem zHs:(nU pd L).length=L.length:=by simp[nU]
theorem lG(h:¬pd t):nth .u (nU pd L) t=nth .u L t:=by
 simp only[qU,zp,nU,ue,ql h];cases L[t]?<;>rfl
theorem qQb(h:pd t):nth .u (nU pd L) t= .u:=by
 simp only[qU,zp,nU,ue,qj h];cases L[t]?<;>rfl
theorem FrL.mask(h:FrL n a L D B r pd):FrT n a (nU pd L) D B r:=by
 refine⟨h.size,zO.of ?_ fun t x v j hv=>?_,h.defers⟩
 ·rw[zHs,h.len];simpa using h.size.symm
 ·have e:x=nth .u (nU pd L) t:=by rw[qU,zp,j];rfl
  rw[e];by_cases hp:pd t
  ·rw[qQb hp];exact .u
  ·rw[lG hp];exact h.reps t v hp (by simpa using hv)
theorem FrL.all(h:FrL n a L D B r pd)(hp:∀t,¬pd t):FrT n a L D B r:=by
 refine⟨h.size,zO.of ?_ fun t x v j hv=>?_,h.defers⟩
 ·rw[h.len];simpa using h.size.symm
 ·have e:x=nth .u L t:=by rw[qU,zp,j];rfl
  rw[e];exact h.reps t v (hp t) (by simpa using hv)
end
theorem zLu{l:Array Bool}:∀{n:Nat},(∃i,i<n∧l.getD i false=false)→∃i,i<n∧l.getD i false=false∧∀q,q<i→l.getD q false=true:=by
 intro n h;have:∀k,(∀q,q<k→l.getD q false=true)∨∃i,i<k∧l.getD i false=false∧∀q,q<i→l.getD q false=true:=by
  intro k;induction k with
  | zero=>exact .inl fun q C=>by omega
  | succ k z=>
   rcases z with e | ⟨i,e,y,j⟩
   ·cases A:l.getD k false with
    | true=>
     refine .inl fun q C=>?_;rcases fY.1 C with h | rfl
     ·exact e q h
     ·exact A
    | false=>exact .inr ⟨k,by omega,A,e⟩
   ·exact .inr ⟨i,by omega,y,j⟩
 rcases this n with e | e
 ·obtain⟨i,y,j⟩:=h;rw[e i y]at j;cases j
 ·exact e
theorem zJq.set{ops:List Oper}{l:Array Bool}{i:Nat}{o:Oper}(h:zJq ops fun q=>l.getD q false=true)(ho:ops[i]?=some o)(G:i<l.size)(y:∀e∈o.after,Region.binds .any e=true→l.getD e.on false=true):zJq ops fun q=>(l.setIfInBounds i true).getD q false=true:=by
 intro J M j C e he hb;show(l.setIfInBounds i true).getD e.on false=true;have C:(l.setIfInBounds i true).getD J false=true:=C;have I:l.getD e.on false=true:=by
  by_cases A:J=i
  ·subst A;rw[ho]at j;cases j;exact y e he hb
  ·rw[jc false (cX A)]at C;exact h J M j C e he hb
 by_cases z:e.on=i
 ·rw[z];exact kV G
 ·rw[jc false (cX z)];exact I
theorem zOa{P:Program}{cl yd:Cl}{ops:Array Oper}{p:Oper}{s q:S}(h:yF p=true)(e:opE P cl yd ops p s=some q):∃v,fB P s.L p v∧q=⟨dst p.dst v s.L,s.H⟩:=by
 unfold opE kT at e;rw[dJ h]at e;simp only[dN]at e;cases hp:xD P s.H (ln s.H) (evO s.L) p.op with
 | some y=>
  simp only[hp]at e;obtain⟨t,z⟩:=y;have j:=zLr h hp;simp only at j;subst j;simp only[zQv,za]at e;exact⟨t,.inl fun H k=>by rw[bY h H s.H k (ln s.H),hp],e.symm⟩
 | none=>
  simp only[hp,zSc,zLq h,zRp h,qJd]at e;cases hm:zBw P (evO s.L) p with
  | none=>simp[hm]at e
  | some t=>
   simp only[hm,za]at e;exact⟨t,.inr ⟨fun H k=>by rw[bY h H s.H k (ln s.H),hp],hm⟩,e.symm⟩
def Pnd(ops:Array Oper)(m:Nat)(l:Array Bool)(t:Nat):Prop:=∃(i:Nat)(p:Oper),i<m∧l.getD i false=false∧ops[i]?=some p∧p.dst=some t
section
variable {P:Program}{E:Nat→Prop}{w0:World}{X:Hid}{F:List Nat}{n:Nat}{D:List Deferred}{ops:Array Oper}{cl yd:Cl}{Q:Exit→Act→World→Prop}{rr:Option Nat}
theorem qSg(hcl:kW P cl)(hyd:xS P yd){ld vl:List Nat}{m:Nat}
  (htl:∀(j:Nat)(o:Oper),m≤j→ops[j]?=some o→∀q,q<j→(∀S:Nat→Prop,zJq ops.toList S→(∀e∈o.after,Region.binds .any e=true→S e.on)→S q)∨∃p,ops[q]?=some p∧vC m ld vl q p=true∧aS ops o p=true)
  (hvl:∀(i:Nat)(o:Oper),ops[i]?=some o→inN i vl=true→yF o=true∧slf o=true∧∀(q:Nat)(p:Oper),q<i→ops[q]?=some p→(yF p||aN p)=true→wfr o p=true)
  (hdp:∀(i:Nat)(p:Oper)(t:Nat),i<m→ops[i]?=some p→Operand.tmp t∈p.op.operands→∀(z:Nat)(V:Oper),z<m→ops[z]?=some V→V.dst=some t→∃e∈p.after,Region.binds .any e=true∧e.on=z)
  (heg:∀(j:Nat)(o:Oper),ops[j]?=some o→∀e∈o.after,Region.binds .any e=true→e.on<j) (hnd:∀o∈ops.toList,xA o.op=true):
  ∀(fuel j:Nat)(s s':S){a:Act}{w:World}{B:Bm}{Y:Hid}{Mo:List (Nat×Obj)}{l:Array Bool}{r0:Rd}{B0:Bm},dY P cl yd ops ld (ops.toList.drop j) s=some s'→m≤j→zPs l≤fuel→l.size=ops.size→(∀i,j≤i→l.getD i false=false)→zJq ops.toList (fun q=>l.getD q false=true)→
   (∀(i:Nat)(p:Oper),i<j→l.getD i false=false→ops[i]?=some p→vC m ld vl i p=true∧∃v,rF P s.H s.L p v∧∀d,p.dst=some d→d<s.L.length→nth .u s.L d=v)→
   Wd P E w0 X F s.H B w Y Mo→FrL n a s.L D B (rd w Y) (Pnd ops j l)→BLe B0 B→Le r0 (rd w Y)→mK P E w0 X F n D s'.H s'.L B0 r0 (Q .normal)→wpAnyIn (FF rr) 0 P .any ops Q fuel l a w:=by
 have qGb:∀{i:Nat}{o:Oper},ops[i]?=some o→ops.toList.drop i=o::ops.toList.drop (i+1):=fun{i o}y=>by
  have A:i<ops.toList.length:=by rw[xf];exact(z7.1 y).1
  rw[ji A];congr 1;have:=(z7.1 y).2;simpa using this
 have virt:∀(c j:Nat)(s s':S){a:Act}{w:World}{B:Bm}{Y:Hid}{l:Array Bool},dY P cl yd ops ld (ops.toList.drop j) s=some s'→m≤j→j+c≤ops.size→(∀i,j≤i→l.getD i false=false)→(∀q,j≤q→q<j+c→∃p,ops[q]?=some p∧vC m ld vl q p=true)→
   (∀(i:Nat)(p:Oper),i<j→l.getD i false=false→ops[i]?=some p→vC m ld vl i p=true∧∃v,rF P s.H s.L p v∧∀d,p.dst=some d→d<s.L.length→nth .u s.L d=v)→FrL n a s.L D B (rd w Y) (Pnd ops j l)→
   ∃s2:S,s2.H=s.H∧dY P cl yd ops ld (ops.toList.drop (j+c)) s2=some s'∧(∀(i:Nat)(p:Oper),i<j+c→l.getD i false=false→ops[i]?=some p→vC m ld vl i p=true∧∃v,rF P s2.H s2.L p v∧∀d,p.dst=some d→d<s2.L.length→nth .u s2.L d=v)∧FrL n a s2.L D B (rd w Y) (Pnd ops (j+c) l):=by
  intro c;induction c with
  | zero=>exact fun j s s'{a w B Y l}h _ _ _ _ hp W=>⟨s,rfl,h,hp,W⟩
  | succ c ihc=>
   intro j s s' a w B Y l h hm hsz hT hq hp W;obtain⟨oj,hoj,hlj⟩:=hq j (z6 _) (by omega)
   obtain⟨hk,hslf,hw⟩:=hvl j oj hoj (zAe hlj hm);rw[qGb hoj]at h;simp only[dY]at h;cases A:opE P cl yd ops oj s with
   | none=>simp[A]at h
   | some s1=>
    simp only[A]at h;cases hld:nQ P ops s1 ld with
    | false=>simp[hld]at h
    | true=>
     simp only[hld,ze]at h;obtain⟨v,hv,rfl⟩:=zOa hk A;have hp1:∀(i:Nat)(p:Oper),i<j+1→l.getD i false=false→ops[i]?=some p→vC m ld vl i p=true∧∃v',rF P s.H (dst oj.dst v s.L) p v'∧∀d,p.dst=some d→d<(dst oj.dst v s.L).length→nth .u (dst oj.dst v s.L) d=v':=fun i p hi hl hpi=>by
      rcases qi i j with hij | hij
      ·obtain⟨k4,v',k5,k6⟩:=hp i p hij hl hpi;have hwf:=zTo (hw i p hij hpi (zLp k4));refine⟨k4,v',k5.congr fun x U=>?_,fun d hd hlt=>?_⟩
       ·cases x with
        | tmp t=>
         show nth .u s.L t=nth .u (dst oj.dst v s.L) t;rw[kC fun e=>(hwf t e).2 t U rfl]
        | _=>rfl
       ·rw[nN]at hlt;rw[kC fun e=>(hwf d e).1 d hd rfl];exact k6 d hd hlt
      ·obtain rfl:i=j:=by omega
       rw[hoj]at hpi;cases hpi;refine⟨hlj,v,.inl ⟨hk,hv.congr fun x U=>?_⟩,fun d hd hlt=>?_⟩
       ·cases x with
        | tmp t=>
         show nth .u s.L t=nth .u (dst oj.dst v s.L) t;rw[kC fun e=>zTi hslf t e t U rfl]
        | _=>rfl
       ·rw[nN]at hlt;rw[hd,zBf hlt]
     have Z1:FrL n a (dst oj.dst v s.L) D B (rd w Y) (Pnd ops (j+1) l):=by
      refine⟨W.size,by rw[nN];exact W.len,W.defers,fun t x hnp U=>?_⟩
      have hne:oj.dst≠some t:=fun e=>hnp ⟨j,oj,x7 j,hT j (z6 _),hoj,e⟩;rw[kC hne];exact W.reps t x (fun⟨z,V,g1,g2,g3,g4⟩=>hnp ⟨z,V,by omega,g2,g3,g4⟩) U
     obtain⟨s2,e1,e2,e3,e4⟩:=ihc (j+1) ⟨dst oj.dst v s.L,s.H⟩ s' h (by omega) (by omega) (fun i hi=>hT i (by omega)) (fun q A C=>hq q (by omega) (by omega)) hp1 Z1
     have hjc:j+1+c=j+(c+1):=by omega
     rw[hjc]at e2 e3 e4;exact⟨s2,e1,e2,e3,e4⟩
 have done:∀(fuel j:Nat)(s s':S){a:Act}{w:World}{B:Bm}{Y:Hid}{Mo:List (Nat×Obj)}{l:Array Bool}{r0:Rd}{B0:Bm},dY P cl yd ops ld (ops.toList.drop j) s=some s'→m≤j→l.size=ops.size→(∀i,j≤i→l.getD i false=false)→(∀i,i<ops.size→l.getD i false=true)→
   Wd P E w0 X F s.H B w Y Mo→FrL n a s.L D B (rd w Y) (Pnd ops j l)→BLe B0 B→Le r0 (rd w Y)→mK P E w0 X F n D s'.H s'.L B0 r0 (Q .normal)→wpAnyIn (FF rr) 0 P .any ops Q fuel l a w:=fun fuel j s s'{a w B Y Mo l r0 B0}h hmj hl hT G hW W hB hr hk=>by
  have hj:ops.size≤j:=by
   rcases qi j ops.size with A | A
   ·have C:=G j A;rw[hT j (z6 _)]at C;cases C
   ·exact A
  rw[yo (by simpa using hj)]at h
  simp only[dY,za]at h;subst h;refine wpAnyIn_done ?_ (hk _ _ _ _ _ hW (W.all fun t ht=>?_) hB hr) fuel
  ·cases he:Region.ready .any ops l with
   | nil=>rfl
   | cons x xs=>
    exfalso;obtain⟨hun,o,ho,_⟩:=xp.1 (by rw[he];exact zq:x∈Region.ready .any ops l)
    have U:=(z7.1 ho).1;have A:=G x U;have hs:x<l.size:=by omega
    simp[hs]at hun A;rw[A]at hun;cases hun
  ·obtain⟨i,p,_,C,J,_⟩:=ht;rw[G i (z7.1 J).1]at C;cases C
 intro fuel;induction fuel with
 | zero=>
  intro j s s' a w B Y Mo l r0 B0 h hm hf hl hT hS hp hW W hB hr hk;refine done 0 j s s' h hm hl hT (fun i hi=>?_) hW W hB hr hk;cases hc:l.getD i false with
  | true=>rfl
  | false=>have:=zCp (by omega) hc;omega
 | succ fuel ih=>
  intro j s s' a w B Y Mo l r0 B0 h hm hf hl hT hS hp hW W hB hr hk;by_cases hex:∃i,i<ops.size∧l.getD i false=false
  ·obtain⟨i0,hi0,hl0,hbelow⟩:=zLu hex;obtain⟨o0,ho0⟩:∃o,ops[i0]?=some o:=⟨ops[i0],by simp[hi0]⟩
   have hr0:i0∈Region.ready .any ops l:=zSu hl ho0 hl0 fun e he hb=>hbelow _ (heg i0 o0 ho0 e he hb);refine⟨fun h0=>absurd (h0▸hr0) (by simp),fun i hi=>?_⟩
   obtain⟨hun,M,y,G⟩:=xp.1 hi;have hil:i<l.size:=by rw[hl];exact(z7.1 y).1
   have hli:l.getD i false=false:=by simpa[hil]using hun
   have hoi':ops.toList[i]?=some M:=by simpa using y
   have hS':=hS.set hoi' hil G;have hu:=zCp hil hli;rcases qi i j with hij0 | hij0
   ·obtain⟨hk1,v,hv,hvd⟩:=hp i M hij0 hli y;have hcg:∀x∈M.op.operands,evO s.L x=evO (nU (Pnd ops j l) s.L) x:=fun x U=>by
     cases x with
     | tmp t=>
      refine(lG fun⟨z,V,A,C,J,N⟩=>?_).symm;have hk1':=(hp z V A C J).1;rcases vd z i with hlt | heq | hgt
      ·rcases qi i m with I | I
       ·obtain⟨e,he,hb,hon⟩:=hdp i M t I y U z V (by omega) J N
        have:=G e he hb;rw[hon,C]at this;cases this
       ·rcases htl i M I y z hlt with q1 | ⟨p2,q1,_,q2⟩
        ·have:=q1 (fun q=>l.getD q false=true) hS G;rw[C]at this;cases this
        ·rw[J]at q1;cases q1;obtain⟨d,f1,f2,_⟩:=free_spec q2;rw[N]at f1;cases f1;exact f2 t U rfl
      ·subst heq;rw[y]at J;cases J;rcases qi z m with I | I
       ·obtain⟨e,he,hb,hon⟩:=hdp z M t I y U z M I y N;have:=heg z M y e he hb;omega
       ·exact zTi (hvl z M y (zAe hk1 I)).2.1 t N t U rfl
      ·rcases qi z m with I | I
       ·obtain⟨e,he,hb,hon⟩:=hdp i M t (by omega) y U z V I J N
        have:=heg i M y e he hb;omega
       ·exact(zTo ((hvl z V J (zAe hk1' I)).2.2 i M hgt y (zLp hk1)) t N).2 t U rfl
     | _=>rfl
    have hv':=hv.congr hcg;have hlo:=hv'.opE (cl:=cl) (yd:=yd) (ops:=ops);unfold wpOpIn;simp only[y];refine zIa hcl hyd hlo hv'.nd hW W.mask fun a' w' B' Y' Mo' g1 g2 g3 g4=>?_;refine ih j s s' h hm (by omega) (by simpa using hl) (fun q hq=>?_) hS' (fun z p A C J=>?_) g1 ⟨g2.size,W.len,g2.defers,fun t x hnp U=>?_⟩ (hB.trans g3) (hr.trans g4) hk
    ·rw[jc false (by omega)];exact hT q hq
    ·refine hp z p A ?_ J;by_cases e:i=z
     ·subst e;rw[kV hil]at C;cases C
     ·rwa[jc false e]at C
    ·have hR:=g2.reps.getD t;have:a'.tmps.toList.getD t undef=x:=by simp[U]
     rw[this]at hR;by_cases e:M.dst=some t
     ·rcases qi t s.L.length with ht | ht
      ·rw[hvd t e ht];have hR:Rep B' (rd w' Y') (nth .u (dst M.dst v (nU (Pnd ops j l) s.L)) t) x:=hR;rwa[e,zBf (by rw[zHs];exact ht)]at hR
      ·rw[qU,zp,qe ht];exact .u
     ·have hR:Rep B' (rd w' Y') (nth .u (dst M.dst v (nU (Pnd ops j l) s.L)) t) x:=hR;have hmn:¬Pnd ops j l t:=fun⟨z,V,A,C,J,N⟩=>hnp ⟨z,V,A,(by
       rw[jc false (fun e'=>e (by subst e';rw[y]at J;cases J;exact N))]
       exact C),J,N⟩
      rwa[kC e,lG hmn]at hR
   ·have hpass:∀q,j≤q→q<j+(i-j)→∃p,ops[q]?=some p∧vC m ld vl q p=true:=fun q A C=>by
     rcases htl i M (by omega) y q (by omega)with J | ⟨p,J,N,_⟩
     ·have:=J (fun q=>l.getD q false=true) hS G;rw[hT q A]at this;cases this
     ·exact⟨p,J,N⟩
    obtain⟨s,hsH,h,hp,W⟩:=virt (i-j) j s s' h hm (by have:=(z7.1 y).1;omega) hT hpass hp W
    have hji:j+(i-j)=i:=by omega
    rw[hji]at h hp W;rw[←hsH]at hW;have I:m≤i:=by omega
    have hT:∀q,i≤q→l.getD q false=false:=fun q hq=>hT q (by omega)
    have hfree:∀(z:Nat)(V:Oper),z<i→l.getD z false=false→ops[z]?=some V→aS ops M V=true:=fun z V A C J=>by
     rcases htl i M I y z A with N | ⟨p,N,_,h5⟩
     ·have:=N (fun q=>l.getD q false=true) hS G;rw[this]at C;cases C
     ·rw[J]at N;cases N;exact h5
    have hcg:∀x∈M.op.operands,evO s.L x=evO (nU (Pnd ops i l) s.L) x:=fun x U=>by
     cases x with
     | tmp t=>
      refine(lG fun⟨z,V,A,C,J,N⟩=>?_).symm;obtain⟨d,g1,g2,_⟩:=free_spec (hfree z V A C J);rw[N]at g1;cases g1;exact g2 t U rfl
     | _=>rfl
    have hgd:∀j b p t,M.guard=some (j,b)→ops[j]?=some p→p.dst=some t→nth .u s.L t=nth .u (nU (Pnd ops i l) s.L) t:=fun j b p t e1 e2 e3=>by
     refine(lG fun⟨z,V,A,C,J,N⟩=>?_).symm;obtain⟨d,g1,_,g2,_⟩:=free_spec (hfree z V A C J);rw[N]at g1;cases g1;exact g2 j b p t e1 e2 e3 rfl
    rw[qGb y]at h;simp only[dY]at h;cases A:opE P cl yd ops M s with
    | none=>simp[A]at h
    | some s1=>
     simp only[A]at h;cases hld:nQ P ops s1 ld with
     | false=>simp[hld]at h
     | true=>
     simp only[hld,ze]at h;have Z:=qQv (P:=P) (cl:=cl) (yd:=yd) (H:=s.H) M hcg hgd;have h1':opE P cl yd ops M ⟨s.L,s.H⟩=some s1:=A;rw[h1']at Z;cases C:opE P cl yd ops M ⟨nU (Pnd ops i l) s.L,s.H⟩with
     | none=>rw[C]at Z;exact Z.elim
     | some s2=>
      rw[C]at Z;obtain⟨tv,e1,e2,e3⟩:=Z;unfold wpOpIn;simp only[y];refine zIa hcl hyd C (hnd M (by simpa using uX y)) hW W.mask fun a' w' B' Y' Mo' g1 g2 g3 g4=>?_
      rw[←e3]at g1;rw[e2]at g2;refine ih (i+1) s1 s' h (by omega) (by omega) (by simpa using hl) (fun q hq=>?_) hS' (fun z p k1 k2 k3=>?_) g1 ⟨g2.size,by rw[e1,nN];exact W.len,g2.defers,fun t x hnp U=>?_⟩ (hB.trans g3) (hr.trans g4) hk
      ·rw[jc false (by omega)];exact hT q (by omega)
      ·have hne:i≠z:=fun e=>by
        subst e;rw[kV hil]at k2;cases k2
       rw[jc false hne]at k2;obtain⟨k4,v,k5,k6⟩:=hp z p (by omega) k2 k3
       obtain⟨d,f1,_,_,f4⟩:=free_spec (hfree z p (by omega) k2 k3)
       rcases zBs k4 with hkk | ⟨hk1,hk2⟩
       case inr=>
        obtain⟨d2,q1,q2⟩:=rF.of_ld k3 hk1 hk2 hld;exact⟨k4,_,q2,fun d' hd' _=>by rw[q1]at hd';cases hd';rfl⟩
       have k5:rF P s1.H s.L p v:=by
        rcases k5 with k5 | ⟨_,t,x,ho,_⟩
        ·exact .inl k5
        ·have:=wP hkk;rw[ho]at this;exact this.elim
       refine⟨k4,v,k5.congr fun x U=>?_,fun d' hd' hlt=>?_⟩
       ·cases x with
        | tmp t=>
         show nth .u s.L t=nth .u s1.L t;rw[e1,kC fun e=>(f4 t e).2 t U rfl]
        | _=>rfl
       ·rw[f1]at hd';cases hd';rw[e1,nN]at hlt;rw[e1,kC fun e=>(f4 d e).1 rfl];exact k6 d f1 hlt
      ·have hR:=g2.reps.getD t;have:a'.tmps.toList.getD t undef=x:=by simp[U]
       rw[this]at hR;rw[e1];by_cases e:M.dst=some t
       ·rcases qi t s.L.length with ht | ht
        ·rw[e,zBf ht];rwa[e,zBf (by rw[zHs];exact ht)]at hR
        ·rw[qU,zp,qe (by rw[nN];exact ht)];exact .u
       ·rw[kC e];have hmn:¬Pnd ops i l t:=fun⟨z,V,A,C,J,N⟩=>hnp ⟨z,V,by omega,(by rw[jc false (by omega)];exact C),J,N⟩
        rwa[kC e,lG hmn]at hR
  ·refine done _ j s s' h hm hl hT (fun i hi=>?_) hW W hB hr hk;cases hc:l.getD i false with
   | true=>rfl
   | false=>exact absurd ⟨i,hi,hc⟩ hex
end
structure Dr where
 P:Program
 E:Nat→Prop
 w0:World
 X:Hid
 F:List Nat
 n:Nat
 D:List Deferred
 ops:Array Oper
 H0:List TO
 Hm:List TO
 L0:List T
 rs:List (T×Option TO)
 B0:Bm
 r0:Rd
def Dr.ks(R:Dr):List (Option Nat):=ksE R.ops.toList R.rs R.L0
structure FrD(R:Dr)(l:Array Bool)(a:Act)(B:Bm)(r:Rd):Prop where
 size:a.tmps.size=R.n
 defers:a.defers=R.D
 done:∀(i:Nat)(z:T×Option TO)(o:Oper)(d:Nat)(v:Value),R.rs[i]?=some z→R.ops[i]?=some o→o.dst=some d→l.getD i false=true→a.tmps[d]?=some v→Rep B r z.1 v
 rest:∀(t:Nat)(v:Value),(∀(i:Nat)(o:Oper),i<R.rs.length→R.ops[i]?=some o→o.dst=some t→l.getD i false=false)→a.tmps[t]?=some v→Rep B r (nth .u R.L0 t) v
structure Inv(R:Dr)(l:Array Bool)(a:Act)(w:World)(B:Bm)(Y:Hid)(Mo:List (Nat×Obj)):Prop where
 wd:Wd R.P R.E R.w0 R.X R.F (wO l R.ks R.H0++jB l 0 R.rs) B w Y Mo
 fr:FrD R l a B (rd w Y)
 ble:BLe R.B0 B
 le:Le R.r0 (rd w Y)
 free:∀(i:Nat)(t:T)(ob:TO),R.rs[i]?=some (t,some ob)→l.getD i false=false→B (R.H0.length+pos R.rs i)=none
 head:∀i,R.rs.length≤i→l.getD i false=false
 lsz:l.size=R.ops.size
structure Ok(R:Dr)(po:Po)(K:Nat):Prop where
 spec:∀(i:Nat)(z:T×Option TO),R.rs[i]?=some z→∃o,R.ops.toList[i]?=some o∧xJ R.P po R.H0 R.Hm (R.Hm++qM (R.rs.take i)) (kP R.ops.toList (R.rs.take i) R.L0) R.ops o=some z
 hd:zHg R.ops (R.ops.toList.take R.rs.length) (R.ops.toList.take R.rs.length) 0=true
 tl:zAo R.ops R.rs.length (zAf R.ops R.rs.length) (vlR R.ops R.rs.length) (R.ops.toList.take R.rs.length) ((tJ R.ops.toList []).drop R.rs.length) (R.ops.toList.drop R.rs.length) R.rs.length=true
 eg:zGw R.ops.toList 0=true
 len:R.rs.length≤R.ops.toList.length
 slots:R.L0.length=R.n
 po:∀f az tv nw,po f az=some (tv,nw)→KnP R.P K f az tv nw
 bd:R.H0.length+R.ops.size≤K
 nd:∀o∈R.ops.toList,xA o.op=true
 hml:R.Hm.length=R.H0.length
 hms:∀(q:Nat)(x:TO),R.Hm[q]?=some x→x≠.gone→R.H0[q]?=some x
 ksg:∀q,some q∈R.ks→nth .gone R.Hm q= .gone
 ks1:∀(i j q:Nat),R.ks[i]?=some (some q)→R.ks[j]?=some (some q)→i=j
section
variable {R:Dr}{po:Po}{k:Nat}{l:Array Bool}{a:Act}{w:World}{B:Bm}{Y:Hid}{Mo:List (Nat×Obj)}{o:Oper}{i:Nat}{rr:Option Nat}{Q:Exit→Act→World→Prop}
theorem Ok.hget(e:Ok R po k){i:Nat}{o:Oper}(j:i<R.rs.length)(ho:R.ops[i]?=some o):(R.ops.toList.take R.rs.length)[i]?=some o:=by
 rw[qh,qj j];simpa using ho
theorem Ok.once(e:Ok R po k){i j:Nat}{o z:Oper}{d:Nat}(A:i<R.rs.length)(C:j<R.rs.length)(ho:R.ops[i]?=some o)(y:R.ops[j]?=some z)(hd:o.dst=some d)(q:z.dst=some d):i=j:=by
 rcases vd i j with h | h | h
 ·exact absurd q ((xU e.hd i o (e.hget A ho)).2.2 d hd j z h (e.hget C y))
 ·exact h
 ·exact absurd hd ((xU e.hd j z (e.hget C y)).2.2 d q i o h (e.hget A ho))
theorem qAf(C:Ok R po k)(M:Inv R l a w B Y Mo)(hi:i<R.rs.length)(ho:R.ops[i]?=some o)(hr:∀e∈o.after,Region.binds .any e=true→l.getD e.on false=true){t:Nat}(N:zEf (R.ops.toList.take R.rs.length) o i t=true):
  Rep B (rd w Y) (nth .u (kP R.ops.toList (R.rs.take i) R.L0) t) (a.tmps.getD t undef):=by
 cases hv:a.tmps[t]? with
 | none=>
  have ht:R.n≤t:=by
   rcases qi t R.n with h | h
   ·rw[←M.fr.size]at h;simp[h]at hv
   ·exact h
  have:nth .u (kP R.ops.toList (R.rs.take i) R.L0) t= .u:=by
   rw[qU,zp,qe (by rw[bW,C.slots];exact ht)];rfl
  rw[this];exact .u
 | some v=>
  have J:a.tmps.getD t undef=v:=by simp[hv]
  rw[J];unfold zEf at N;cases hw:wrt t (R.ops.toList.take R.rs.length) 0 with
  | none=>
   have hn:=bC hw;have h0:∀(j:Nat)(A:Oper),j<R.rs.length→R.ops[j]?=some A→A.dst≠some t:=fun j A G y=>hn j A (C.hget G y);rw[lD _ _ _ _ (fun j A G y=>h0 j A (by simp at G;omega) (by simpa using y))]
   exact M.fr.rest t v (fun j A G y hd=>absurd hd (h0 j A G y)) hv
  | some j=>
   simp only[hw,zd,qv]at N;obtain⟨j',A,e1,h1,U⟩:=zCu hw;obtain rfl:j=j':=by omega
   have G:j<R.rs.length:=by omega
   have y:R.ops[j]?=some A:=by
    rw[qh,qj G]at h1;simpa using h1
   obtain⟨e,he,hb,Z⟩:=zFd N.2;have I:l.getD j false=true:=by rw[←Z];exact hr e he hb
   obtain⟨z,hz⟩:∃z,R.rs[j]?=some z:=⟨R.rs[j],by simp[G]⟩
   have ht:t<R.L0.length:=by
    have:=(z7.1 hv).1;rw[M.fr.size]at this;rw[C.slots];exact this
   rw[bX _ _ _ t j A z ht (by simpa using y) (by rw[qh,qj N.1];exact hz) U fun q o2 hq hl W V=>?_]
   ·exact M.fr.done j z A t v hz y U I hv
   ·exact hq (C.once (by simp at hl;omega) G (by simpa using W) y V U)
theorem qRe(j:Ok R po k)(y:Inv R l a w B Y Mo)(q:i<R.rs.length)(ho:R.ops[i]?=some o)(z:∀e∈o.after,Region.binds .any e=true→l.getD e.on false=true)(x:Operand)(A:x∈o.op.operands):
  Rep B (rd w Y) (evO (kP R.ops.toList (R.rs.take i) R.L0) x) (a.eval x):=by
 have h:=(xU j.hd i o (j.hget q ho)).1 x (by simpa using A)
 rw[qc]at h;cases x with
 | tmp t=>exact qAf j y q ho z h
 | const v=>exact zBx v
 | global g=>exact .u
 | func f=>exact Rep.mkFn (vs:=[]) trivial
theorem qMd{ops:Array Oper}{L:List T}{r:Rd}(G:∀j b p t,o.guard=some (j,b)→ops[j]?=some p→p.dst=some t→Rep B r (nth .u L t) (a.tmps.getD t undef)){q:Bool}(h:kT ops L o=some q):Region.wanted o (yielded ops a.tmps)=q:=by
 unfold kT at h;unfold Region.wanted;cases z:o.guard with
 | none=>simp only[z,za]at h;simpa using h
 | some J=>
  obtain⟨j,b⟩:=J;simp only[z]at h;cases A:ops[j]? with
  | none=>simp[A]at h
  | some p=>
   simp only[A]at h;cases hd:p.dst with
   | none=>simp[hd]at h
   | some t=>
    simp only[hd]at h;have C:=G j b p t z A hd;split at h
    ·rename_i c e;rw[e]at C;obtain⟨hv,_⟩:=C.vI;cases ht:a.tmps[t]? with
     | none=>simp[ht]at hv;cases hv
     | some u=>
      have:u= .bool c:=by simpa[ht]using hv
      subst this;simp only[yielded,A,hd,vr,ht];cases h;cases c<;>cases b<;>rfl
    ·cases h
    ·rename_i e;rw[e]at C;obtain⟨M,hv,I⟩:=C.tuI;cases M with
     | cons x y=>exact I.elim
     | nil=>
      cases h;cases ht:a.tmps[t]? with
      | none=>simp only[yielded,A,hd,vr,ht];cases b<;>rfl
      | some u=>
       have:u= .tuple #[]:=by simpa[ht]using hv
       subst this;simp only[yielded,A,hd,vr,ht];cases b<;>rfl
    ·cases h
theorem zRy{l:List TO}{i:Nat}{x:TO}(h:nth .gone l i=x)(j:x≠.gone):l[i]?=some x:=by
 rw[qU,zp]at h;cases e:l[i]? with
 | none=>rw[e]at h;exact absurd h.symm j
 | some y=>rw[e]at h;simp at h;rw[h]
theorem FrD.step(M:Ok R po k){r:Rd}(h:FrD R l a B r)(V:i<R.rs.length)(ho:R.ops[i]?=some o){z:T×Option TO}(hz:R.rs[i]?=some z){v:Value}(hv:Rep B r z.1 v)(G:i<l.size):FrD R (l.setIfInBounds i true) (a.put o.dst v) B r:=by
 have I:∀t,(a.put o.dst v).tmps[t]?=if o.dst=some t∧t<a.tmps.size then some v else a.tmps[t]?:=fun t=>by
  cases hd:o.dst with
  | none=>simp[Act.put]
  | some d=>
   simp only[Act.put,za];by_cases e:d=t
   ·subst e;by_cases hlt:d<a.tmps.size
    ·simp[hlt]
    ·simp[hlt]
   ·rw[xd e,ql (fun h=>e h.1)]
 refine⟨?_,?_,fun j z' U d u A q C W y=>?_,fun t u J y=>?_⟩
 ·cases hd:o.dst<;>simp[Act.put,h.size]
 ·cases hd:o.dst<;>simp[Act.put,h.defers]
 ·rw[I]at y;by_cases e:i=j
  ·subst e;rw[ho]at q;cases q;rw[hz]at A;cases A;split at y
   ·cases y;exact hv
   ·rename_i J;have:=(z7.1 y).1;exact absurd ⟨C,this⟩ J
  ·rw[jc false e]at W;split at y
   ·rename_i N;exact absurd (M.once V (zh.1 A).1 ho q N.1 C) e
   ·exact h.done j z' U d u A q C W y
 ·rw[I]at y;split at y
  ·rename_i N;have:=J i o V ho N.1;rw[kV G]at this;cases this
  ·refine h.rest t u (fun j U Z q hd=>?_) y;have:=J j U Z q hd;by_cases e:i=j
   ·subst e;rw[kV G]at this;cases this
   ·rwa[jc false e]at this
theorem FrD.mono{r r':Rd}{B':Bm}(h:FrD R l a B r)(q:BLe B B')(y:Le r r'):FrD R l a B' r':=
 ⟨h.size,h.defers,fun i z o d v e j A C G=>(h.done i z o d v e j A C G).mono q y,fun t v e j=>(h.rest t v e j).mono q y⟩
theorem Inv.val(C:Ok R po k)(y:Inv R l a w B Y Mo){w':World}(I:Upd E0 w w')(N:i<R.rs.length)(ho:R.ops[i]?=some o){t:T}(A:R.rs[i]?=some (t,none)){v:Value}(hv:Rep B (rd w' Y) t v)(G:i<l.size):
  Inv R (l.setIfInBounds i true) (a.put o.dst v) w' B Y Mo:=by
 have e:=zAh l R.rs 0 i t A;rw[qc]at e;have M:wO (l.setIfInBounds i true) R.ks R.H0=wO l R.ks R.H0:=zDm fun q U=>by
  have:=zNz R.ops.toList R.rs R.L0 i o _ (by simpa using ho) A
  rw[show ksE R.ops.toList R.rs R.L0=R.ks from rfl,U]at this;cases this
 refine⟨by rw[e,M];exact y.wd.call I,FrD.step C (y.fr.mono (BLe.refl B) (I.le Y)) N ho A hv G,y.ble,y.le.trans (I.le Y),fun j W V z J=>?_,fun j z=>?_,by simpa using y.lsz⟩
 ·by_cases e:i=j
  ·subst e;rw[A]at z;cases z
  ·rw[jc false e]at J;exact y.free j W V z J
 ·rw[jc false (by omega)];exact y.head j z
theorem Ok.sub0(e:Ok R po k){q:Nat}{x:TO}(h:R.Hm[q]?=some x)(y:x≠.gone):(wO l R.ks R.H0)[q]?=some x:=by
 rw[sK,e.hms q x h y];have:kZ l R.ks q=false:=by
  cases A:kZ l R.ks q with
  | false=>rfl
  | true=>
   obtain⟨i,z,_⟩:=kD.1 A;have j:=e.ksg q (qg z);rw[qU,zp,h]at j;exact absurd j y
 simp[this]
theorem qAj(e:Ok R po k)(J:Inv R l a w B Y Mo){q:Nat}{x:TO}(I:B q≠none)(h:(R.Hm++qM (R.rs.take i))[q]?=some x)(M:x≠.gone):(wO l R.ks R.H0++jB l 0 R.rs)[q]?=some x:=by
 rcases qi q R.H0.length with hlt | z
 ·rw[qf (by rw[e.hml];exact hlt)]at h
  rw[qf (by rw[yE];exact hlt)]
  exact e.sub0 h M
 ·rw[je (by rw[e.hml];exact z),e.hml]at h
  rw[je (by rw[yE];exact z),yE]
  obtain⟨j,G,N,A,C⟩:=zDv _ _ _ _ h;have y:l.getD j false=true:=by
   cases y:l.getD j false with
   | true=>rfl
   | false=>exact absurd (by rw[←J.free j G x A y,C];congr 1;omega) I
  have:=aD l R.rs 0 j G x A;rw[qc,y,C]at this;rw[this];rfl
theorem zFz{H K:List TO}{q:Nat}{x:TO}(j:∀x,H[q]?=some x→x≠.gone→K[q]?=some x)(h:nth .gone H q=x)(e:x≠.gone):nth .gone K q=x:=by
 have:=j x (zRy h e) e;rw[qU,zp,this];rfl
theorem zHy{H K:List TO}{q:Nat}{j:List T}(y:∀x,H[q]?=some x→x≠.gone→K[q]?=some x)(h:lI (nth .gone H q)=some j):lI (nth .gone K q)=some j:=by
 cases e:nth .gone H q with
 | gone=>rw[e]at h;cases h
 | _=>rw[e]at h;rw[zFz y e (by simp)];exact h
theorem qGw{H K:List TO}{t:T}{j:List T}(y:∀(q:Nat)(x:TO),H[q]?=some x→x≠.gone→K[q]?=some x)(h:aT H t=some j):aT K t=some j:=by
 cases t<;>simp only[aT]at h ⊢<;>try exact h
 rename_i i o;cases e:lI (nth .gone H i)with
 | none=>simp[e]at h
 | some x=>rw[zHy (fun x=>y i x) e];rw[e]at h;exact h
theorem zCx{H K:List TO}{s:Nat}{t:T}{v:Value}{z:List T}{r:Rd}(A:Rep B r t v)(G:∀(q:Nat)(x:TO),B q≠none→H[q]?=some x→x≠.gone→K[q]?=some x)(h:qK H s t=some z):qK K s t=some z:=by
 cases t with
 | os i o n c=>
  obtain⟨b,C,_,y⟩:=A.osI;simp only[qK]at h ⊢;cases j:lI (nth .gone H i)with
  | none=>simp[j]at h
  | some x=>rw[zHy (fun x=>G i x (by rw[y];simp)) j];rw[j]at h;exact h
 | og i o n=>
  obtain⟨b,C,c,_,y,_⟩:=A.ogI;simp only[qK]at h ⊢;cases j:lI (nth .gone H i)with
  | none=>simp[j]at h
  | some x=>rw[zHy (fun x=>G i x (by rw[y];simp)) j];rw[j]at h;exact h
 | v x=>
  unfold qK at h ⊢;split at h<;>first | exact h | (rename_i e;cases e;done) | skip
  all_goals first | (rename_i e;cases e;simp) | cases h
 | _=>exact h
open Classical in
theorem qBs(A:Ok R po k)(J:Inv R l a w B Y Mo)(hi:i<R.rs.length)(hr:i∈Region.ready .any R.ops l){K:Act→World→Prop}
  (hk:∀a' w' B' Y' Mo',Inv R (l.setIfInBounds i true) a' w' B' Y' Mo'→K a' w'):wpOpIn (FF rr) 0 R.P R.ops Q i K a w:=by
 obtain⟨hun,o,ho,hall⟩:=xp.1 hr;obtain⟨z,hz⟩:∃z,R.rs[i]?=some z:=⟨R.rs[i],by simp[hi]⟩
 obtain⟨o',ho',G⟩:=A.spec i z hz;have W:i<l.size:=by
  rw[J.lsz];exact(z7.1 ho).1
 have hunl:l.getD i false=false:=by simpa[W]using hun
 obtain rfl:o=o':=by
  have h1:R.ops.toList[i]?=some o:=by simpa using ho
  rw[h1]at ho';exact qy ho'
 have Z:=qRe A J hi ho hall;have hgr:∀j b p t,o.guard=some (j,b)→R.ops[j]?=some p→p.dst=some t→Rep B (rd w Y) (nth .u (kP R.ops.toList (R.rs.take i) R.L0) t) (a.tmps.getD t undef):=fun j b p t h1 h2 h3=>by
  have:=(xU A.hd i o (A.hget hi ho)).2.1;rw[qc]at this;unfold qHd at this;simp only[h1,h2,h3]at this;exact qAf A J hi ho hall this
 unfold wpOpIn;simp only[ho];unfold xJ at G;cases hw:kT R.ops (kP R.ops.toList (R.rs.take i) R.L0) o with
 | none=>simp[hw]at G
 | some q=>
  rw[qMd hgr hw];have hnd:vD o.op=true:=by rw[←zHx];exact A.nd o (by simpa using uX ho)
  cases q with
  | false=>
   simp only[hw,za]at G;subst G;simp only[k8,vu];exact⟨fun f _=>xE rr f,hk _ _ _ _ _ (J.val A (Upd.refl _ _) hi ho hz (Rep.mkTu (vs:=[]) trivial) W)⟩
  | true=>
   simp only[hw]at G;simp only[j5];refine zOq hnd ?_;generalize hL:kP R.ops.toList (R.rs.take i) R.L0=L at G Z;have hρ:∀x,Rep B (rd w Y) ((fun x=>if x∈o.op.operands then evO L x else T.u) x) (a.eval x):=fun x=>by
    by_cases hx:x∈o.op.operands
    ·simp only[hx,j5];exact Z x hx
    ·simp only[hx,vu];exact .u
   have hcg:∀x∈o.op.operands,evO L x=(fun x=>if x∈o.op.operands then evO L x else T.u) x:=fun x hx=>by simp only[hx,j5]
   have hsub:∀(q:Nat)(x:TO),R.Hm[q]?=some x→x≠.gone→(wO l R.ks R.H0++jB l 0 R.rs)[q]?=some x:=fun q x h1 h2=>by
    have hq:q<R.H0.length:=by rw[←A.hml];exact(zh.1 h1).1
    rw[qf (by rw[yE];exact hq)]
    exact A.sub0 h1 h2
   have hH:zJo B (rd w Y) w R.Hm:=⟨fun t v n cs us h1 h2 h3=>J.wd.from h1 (qGw hsub h2) h3,fun q b C ml hB hn=>J.wd.hp.map q b C ml hB (zFz (hsub q) hn (by simp)),fun q b C md hB hn=>J.wd.hp.mapd q b C md hB (zFz (hsub q) hn (by simp))⟩
   unfold mX at G;have hid:ln (R.Hm++qM (R.rs.take i))=R.H0.length+pos R.rs i:=by rw[qV];simp[pos,A.hml]
   have hks:=zNz R.ops.toList R.rs R.L0 i o z (by simpa using ho) hz
   rw[show ksE R.ops.toList R.rs R.L0=R.ks from rfl,hL]at hks;have hgoneAt:∀(t:T)(ob:TO),z=(t,some ob)→(wO l R.ks R.H0++jB l 0 R.rs)[R.H0.length+pos R.rs i]?=some .gone:=fun t ob e=>by
    subst e;rw[je (by rw[yE];exact vo _ _),yE,j4,aD l R.rs 0 i t ob hz,qc,hunl];rfl
   have hfree:∀(t:T)(ob:TO)(p:Nat×Nat),z=(t,some ob)→∀(j:Nat)(t':T)(ob':TO),R.rs[j]?=some (t',some ob')→(l.setIfInBounds i true).getD j false=false→rP B (R.H0.length+pos R.rs i) p (R.H0.length+pos R.rs j)=none:=fun t ob p e j t' ob' hj hlj=>by
    subst e;have hji:i≠j:=fun e=>by subst e;rw[kV W]at hlj;cases hlj
    rw[jc false hji]at hlj;have hne:R.H0.length+pos R.rs j≠R.H0.length+pos R.rs i:=fun e=>by
     have e':pos R.rs j=pos R.rs i:=by omega
     rcases vd i j with h | h | h
     ·have:=zWe R.rs i j t ob hz h;omega
     ·exact hji h
     ·have:=zWe R.rs j i t' ob' hj h;omega
    rw[jY _ _ hne];exact J.free j t' ob' hj hlj
   have app:∀(kq:Option Nat),(z.2≠none→R.ks[i]?=some kq)→zJr R.P R.H0 (R.Hm++qM (R.rs.take i)) kq L o.op=some z→o.wp R.P a w K Q:=fun kq hkq I=>by
    generalize hopq:o.op=op at I;unfold zJr at I;split at I
    ·rename_i c;split at I
     ·rename_i x y t t' e1 e2 e3;cases htt:Nat.beq t t' with
      | false=>simp[htt]at I
      | true=>
       obtain rfl:=zY htt;simp only[htt,ze]at I;have V:c.args=#[x,y]:=jz (by simpa using e2)
       have hts:c.argTypes=#[t,t]:=jz (by simpa using e3)
       have hmem:∀u,u=x∨u=y→u∈o.op.operands:=fun u hu=>by
        rw[hopq];simp only[Op.operands,Call.operands,V,yW];right;rcases hu with rfl | rfl<;>simp
       have hx:=Z x (hmem x (.inl rfl));have hy:=Z y (hmem y (.inr rfl));unfold qBc at I;cases he:elT R.P t with
       | none=>simp[he]at I
       | some e=>
        have ht:=wL he;cases hd:ldT R.P e with
        | none=>simp[he,hd]at I
        | some gs=>
         obtain⟨g,s⟩:=gs;simp only[he,hd]at I;split at I
         ·rename_i us nx vs ny U c2 c4;cases hcond:!Nat.beq ny 0&&(zAw R.P e s (nx+ny)&&vV vs)with
          | false=>simp[hcond]at I
          | true=>
           simp only[hcond,ze,za]at I;simp only[zd,qn]at hcond;obtain⟨hny0,hok1,hok2⟩:=hcond;have hny:0<ny:=by
            rcases jg ny with h0 | h0
            ·subst h0;simp at hny0
            ·exact h0
           have hsubB:∀(q:Nat)(x:TO),B q≠none→(R.Hm++qM (R.rs.take i))[q]?=some x→x≠.gone→(wO l R.ks R.H0++jB l 0 R.rs)[q]?=some x:=fun q x h1 h2 h3=>qAj A J h1 h2 h3;have c2':=zCx hy hsubB c2;have hzz:=I.symm;subst hzz;have hkq:=hkq (by simp)
           have hkill:∀q,kq=some q→kZ l R.ks q=false:=fun q e=>by
            subst e;cases hk':kZ l R.ks q with
            | false=>rfl
            | true=>
             obtain⟨j,h1,h2⟩:=kD.1 hk';obtain rfl:=A.ks1 i j q hkq h1;rw[hunl]at h2;cases h2
           have hbase:zMs (wO l R.ks R.H0++jB l 0 R.rs) e s nx us (evO L x)∧qK (wO l R.ks R.H0++jB l 0 R.rs) s (evO L x)=some us.list∧jG (evO L x)=some nx∧
             (∀j o' m,evO L x= .og j o' m→kq=some j∧∃y,(wO l R.ks R.H0++jB l 0 R.rs)[j]?=some y∧vU y=true∧j<R.H0.length)∧(kq≠none→∃j o' m,evO L x= .og j o' m):=by
            unfold qEu at U;cases kq with
            | none=>
             simp only at U;split at U
             ·rename_i e4;cases U;rw[e4];exact⟨.inl ⟨_,rfl⟩,rfl,rfl,fun j o' m h=>(by cases h),fun h=>absurd rfl h⟩
             ·rename_i i' o' m c' e4;cases hb:Nat.beq m c' with
              | false=>simp[hb]at U
              | true=>
               obtain rfl:=zY hb;simp only[hb,ze]at U;cases hcl:qK (R.Hm++qM (R.rs.take i)) s (evO L x)with
               | none=>simp[hcl]at U
               | some u=>
                simp only[hcl,za,qT]at U;obtain⟨rfl,rfl⟩:=U;have:=zCx hx hsubB hcl;exact⟨.inr (.inr (.inl ⟨_,_,_,e4⟩)),this,by rw[e4];rfl,fun j o' m h=>(by rw[e4]at h;cases h),fun h=>absurd rfl h⟩
             ·rename_i cs m e4;cases hcl:qK (R.Hm++qM (R.rs.take i)) s (evO L x)with
              | none=>simp[hcl]at U
              | some u=>
               simp only[hcl,za,qT]at U;obtain⟨rfl,rfl⟩:=U;have:=zCx hx hsubB hcl;exact⟨.inr (.inl ⟨_,_,e4⟩),this,by rw[e4];rfl,fun j o' m h=>(by rw[e4]at h;cases h),fun h=>absurd rfl h⟩
             ·cases U
            | some q=>
             simp only at U;split at U
             ·rename_i j o' m e4;cases hb:Nat.beq j q&&Nat.beq o' 0 with
              | false=>simp[hb]at U
              | true=>
               simp only[hb,ze]at U;simp only[zd]at hb;obtain rfl:=zY hb.1;obtain rfl:=zY hb.2;split at U
               ·rename_i cs e' hn;cases hb2:Nat.beq (ln cs.list) (m*s)&&Nat.beq e e' with
                | false=>simp[hb2]at U
                | true=>
                 simp only[hb2,ze,za,qT]at U;obtain⟨rfl,rfl⟩:=U;simp only[zd,qV]at hb2;obtain rfl:=zY hb2.2;have hcs:=zY hb2.1;have hg:=zRy hn (by simp)
                 have hjl:j<R.H0.length:=(zh.1 hg).1;have hg2:(wO l R.ks R.H0++jB l 0 R.rs)[j]?=some (.gro cs e):=by
                  rw[qf (by rw[yE];exact hjl),sK,hg,hkill j rfl];rfl
                 refine⟨.inr (.inr (.inr ⟨j,e4,hg2,hcs⟩)),?_,by rw[e4];rfl,fun j' o' m' h=>?_,fun _=>⟨_,_,_,e4⟩⟩
                 ·rw[e4];simp only[qK,qU,zp,hg2,jp,lI];have:jT (m*s) (jJ cs.list 0)=some cs.list:=by
                   rw[nM,xt,←hcs];exact zMm cs.list
                  exact this
                 ·rw[e4]at h;cases h;exact⟨rfl,_,hg2,rfl,hjl⟩
               ·cases U
             ·cases U
           obtain⟨hb1,c1',c3,hb4,hb5⟩:=hbase;obtain⟨C,hC1,hC2,hA⟩:=zQd (ty:=o.type) J.wd hx hy ht hd c1' c2' c3 c4 hny hok1 hok2 hb1;have hgo:=hgoneAt _ _ rfl;have hBi:=J.free i _ _ hz hunl;have hlist:∀(x0:TO),(match kq with | some q=>((wO l R.ks R.H0++jB l 0 R.rs).set q .gone).set (R.H0.length+pos R.rs i) (.gro (us.apY (evO L y) vs) e) | none=>(wO l R.ks R.H0++jB l 0 R.rs).set (R.H0.length+pos R.rs i) (.gro (us.apY (evO L y) vs) e))=wO (l.setIfInBounds i true) R.ks R.H0++jB (l.setIfInBounds i true) 0 R.rs:=fun _=>by
            have e1:=aG l R.rs 0 i _ _ hz (by omega)
            rw[qc]at e1;cases kq with
            | none=>
             rw[e1,zDm (fun q hq=>by rw[hkq]at hq;cases hq)]
             show List.set _ _ _=_;rw[uZ _ _ (by rw[yE];exact vo _ _),yE,j4]
            | some q=>
             have hq:q<(wO l R.ks R.H0).length:=by
              obtain⟨j,o',m,e4⟩:=hb5 (by simp)
              obtain⟨e5,_,_,_,h⟩:=hb4 _ _ _ e4;cases e5;rw[yE];exact h
             rw[e1,qHs hkq W];show List.set (List.set _ _ _) _ _=_;rw[xc _ _ hq,uZ _ _ (by rw[q6,yE];exact vo _ _),q6,yE,j4]
           unfold Oper.wp;rcases hA with⟨obj,M,hRO⟩ | ⟨j,o',n',b,cur,c2'',q,ex,hB,hq,M,hS,N,hRO⟩
           ·rw[dG hopq e1 V hts M];obtain⟨hW',hBl⟩:=(J.wd.call (Upd.drew w)).fill (C:=C) hgo hBi rfl hRO rfl;have N:=((Upd.drew w).le Y).trans (Le.hide_new (w:=w.drew) (Y:=Y) obj);refine hk _ _ (rP B (R.H0.length+pos R.rs i) (w.drew.heap.size,C)) _ ((w.drew.heap.size,obj)::Mo) ⟨?_,FrD.step A (J.fr.mono hBl N) hi ho hz ?_ W,J.ble.trans hBl,J.le.trans N,hfree _ _ _ rfl,fun j hj=>?_,by simpa using J.lsz⟩
            ·rw[←hlist .gone];cases kq with
             | none=>exact hW'
             | some q=>
              have hne:q≠R.H0.length+pos R.rs i:=by
               obtain⟨j,o',m,e4⟩:=hb5 (by simp)
               obtain⟨e5,_,_,_,h⟩:=hb4 _ _ _ e4;cases e5;omega
              have:=hW'.gone q;rwa[List.set_comm _ _ (cX hne)]at this
            ·rw[hid];exact .og (qN _ _ _) hC1 (fun _=>rfl) hC2
            ·rw[jc false (by omega)];exact J.head j hj
           ·obtain⟨rfl,x0,hj,hlx,hjl⟩:=hb4 _ _ _ ex;rw[dG hopq e1 V hts M];have hW2:=J.wd.set hj hlx hB hq hS N (fun cs e=>by cases e) (fun _=>hRO)
            have hjl2:j<(wO l R.ks R.H0++jB l 0 R.rs).length:=(zh.1 hj).1;have hne:j≠R.H0.length+pos R.rs i:=by omega
            obtain⟨hW3,hB3⟩:=hW2.moveTo (i:=j) (j:=R.H0.length+pos R.rs i) (x:= .gro (us.apY (evO L y) vs) e) (by rw[kj hjl2]) rfl hB (by rw[jy hne];exact hgo) hBi
            rw[cL]at hW3;refine hk _ _ (rP B (R.H0.length+pos R.rs i) (b,C)) _ (Mo.set q (b,.cells c2'' e (0,0))) ⟨?_,FrD.step A (J.fr.mono hB3 N) hi ho hz ?_ W,J.ble.trans hB3,J.le.trans N,hfree _ _ _ rfl,fun j hj=>?_,by simpa using J.lsz⟩
            ·rw[←hlist .gone];exact hW3
            ·rw[hid];exact .og (qN _ _ _) hC1 (fun _=>rfl) hC2
            ·rw[jc false (by omega)];exact J.head j hj
         ·cases I
     ·cases I
    ·cases I
   cases hau:nE L o.op with
   | some q=>
    simp only[hau]at G;exact app (some q) (fun hne=>by
     rw[hks,hau];cases hz2:z.2 with
     | none=>exact absurd hz2 hne
     | some _=>rfl) G
   | none=>
   simp only[hau]at G;cases hp:xD R.P R.Hm (ln (R.Hm++qM (R.rs.take i))) (evO L) o.op with
   | some y=>
    simp only[hp,za]at G;subst G;rw[gM o.op hcg]at hp;have hA:=zZt hH hρ hp;obtain⟨t,ob⟩:=y;unfold Oper.wp;cases ob with
    | none=>
     obtain⟨v,M,hR⟩:=hA;rw[M];exact hk _ _ _ _ _ (J.val A (Upd.refl _ _) hi ho hz hR W)
    | some ob=>
     obtain⟨C,obj,vf,M,hl,hR,hv⟩:=hA;rw[M];rw[hid]at hv;obtain⟨hW',hB⟩:=J.wd.fill (hgoneAt t ob rfl) (J.free i t ob hz hunl) hl hR rfl;have N:=Le.hide_new (w:=w) (Y:=Y) obj;refine hk _ _ _ _ ((w.heap.size,obj)::Mo) ⟨?_,FrD.step A (J.fr.mono hB N) hi ho hz ((hv _).mono (BLe.refl _) N) W,J.ble.trans hB,J.le.trans N,hfree t ob _ rfl,fun j hj=>?_,by simpa using J.lsz⟩
     ·have e:=aG l R.rs 0 i t ob hz (by omega)
      rw[qc]at e;rw[e,zDm (fun q hq=>by rw[hks,hau]at hq;cases hq)]
      rw[uZ _ _ (by rw[yE];exact vo _ _),yE,j4]at hW'
      exact hW'
     ·rw[jc false (by omega)];exact J.head j hj
   | none=>
    simp only[hp]at G;cases hc:fF R.P po (R.Hm++qM (R.rs.take i)) L o.op with
    | some t=>
     simp only[hc,za]at G;subst G;generalize hopq:o.op=op at hc;unfold fF at hc;split at hc
     ·rename_i c;split at hc
      ·rename_i fx e1;split at hc
       ·rename_i f cs e2;cases hen:jX R.P f with
        | false=>simp[hen]at hc
        | true=>
         simp only[hen,ze]at hc;have hmem:∀x,x=fx∨x∈c.args.toList→x∈o.op.operands:=fun x hx=>by
          rw[hopq];simp only[Op.operands,Call.operands,e1,yW];rcases hx with rfl | hx
          ·left;simp
          ·right;simpa using hx
         have hfx:=Z fx (hmem fx (.inl rfl));rw[e2]at hfx;obtain⟨caps,hv,hcs⟩:=hfx.fnI;have V:zO B (rd w Y) (c.args.toList.map (evO L)) (c.args.toList.map a.eval):=by
          have:∀l:List Operand,(∀x∈l,x∈o.op.operands)→zO B (rd w Y) (l.map (evO L)) (l.map a.eval):=by
           intro l;induction l with
           | nil=>intro _;trivial
           | cons x l ih=>exact fun h=>⟨Z x (h x zq),ih fun y hy=>h y (zu _ hy)⟩
          exact this _ fun x hx=>hmem x (.inr hx)
         unfold Oper.wp;rw[zDc hopq e1 hv hen w];have hOw:Ow B (rd w Y) w (fun b=>∃ob,(b,ob)∈Mo) (R.Hm++qM (R.rs.take i)):=fun q b C cs hB hown=>by
          refine J.wd.ow q b C cs hB ?_;cases hx:nth .gone (R.Hm++qM (R.rs.take i)) q with
          | gone=>rw[hx]at hown;cases hown
          | _=>rw[hx]at hown;rw[zFz (fun x h1 h2=>qAj A J (by rw[hB];simp) h1 h2) hx (by simp)];exact hown
         refine qKr (k:=k) A.po hc hOw J.wd.ivw J.wd.bNle J.wd.st.lt (fun q hq=>?_) (V.app hcs) fun v w' hu hv=>?_
         ·refine J.wd.nn q ?_;rw[qk,zDt,yE];have N:∀rs:List (T×Option TO),(qM rs).length≤rs.length:=by
           intro rs;induction rs with
           | nil=>simp[qM]
           | cons z rs ih=>obtain⟨t,ob⟩:=z;cases ob<;>simp[qM]<;>omega
          have h1:=N R.rs;have h2:=A.len;have h3:=A.bd;simp at h2;omega
         ·exact hk _ _ _ _ _ (J.val A hu hi ho hz hv W)
       ·cases hc
      ·cases hc
     ·cases hc
    | none=>
     simp only[hc]at G;cases I:zJr R.P R.H0 (R.Hm++qM (R.rs.take i)) none L o.op with
     | some y=>
      simp only[I,za]at G;subst G;exact app none (fun _=>by
       rw[hks,hau];cases y.2<;>rfl) I
     | none=>
     simp only[I]at G;cases hm:zBw R.P (evO L) o with
     | none=>simp[hm]at G
     | some t=>
      simp only[hm,za]at G;subst G;rw[zAg o hcg]at hm;obtain⟨v,M,hR⟩:=qIj (P:=R.P) (w:=w) (ρ:=a.eval) (k:=0) hρ hm;unfold Oper.wp;rw[M];exact hk _ _ _ _ _ (J.val A (Upd.refl _ _) hi ho hz hR W)
theorem zWb{P:Program}{H:List TO}{t:TypeId}{x:T}{z:T×Option TO}(h:zCd P H t x=some z):z.2=none:=by
 unfold zCd at h
 repeat' split at h
 all_goals try simp only[Bool.cond_eq_ite]at h
 all_goals repeat' split at h
 all_goals first | exact qQ h | cases h
theorem qPn{P:Program}{po:Po}{A C j:List TO}{L:List T}{ops:Array Oper}{p:Oper}{z:T×Option TO}(h:aN p=true)(e:xJ P po A C j L ops p=some z):z.2=none:=by
 unfold aN at h;simp only[zd]at h;have q:p.guard=none:=by
  cases q:p.guard with
  | none=>rfl
  | some _=>have:=h.1;rw[q]at this;cases this
 have G:=h.2;split at G
 ·rename_i t x ho;unfold xJ kT at e;rw[q]at e;have J:nE L p.op=none:=by rw[ho];rfl
  simp only[mX,J]at e;cases hp:xD P C (ln j) (evO L) p.op with
  | some y=>
   simp only[hp,za]at e;subst e;rw[ho]at hp;simp only[xD]at hp;exact zWb hp
  | none=>
   have I:fF P po j L p.op=none:=by rw[ho];rfl
   have ha:zJr P A j none L p.op=none:=by rw[ho];rfl
   simp only[hp,I,ha]at e;cases hm:zBw P (evO L) p with
   | none=>simp[hm]at e
   | some t=>simp only[hm,za]at e;subst e;rfl
 ·cases G
theorem zKz{P:Program}{E:Nat→Prop}{w0:World}{X:Hid}{F:List Nat}{n:Nat}{D:List Deferred}{ops:Array Oper}{cl yd:Cl}{po:Po}{id:Nat}(hm:P.follows .mixedOrders=true){s s':S}(hpo:∀f az tv nw,po f az=some (tv,nw)→KnP P (ln s.H+ops.size) f az tv nw)(hcl:kW P cl)(hyd:xS P yd)
  (hok:dM ops=true) (hW:Wd P E w0 X F s.H B w Y Mo) (hF:FrT n a s.L D B (rd w Y)) (hk:mK P E w0 X F n D s'.H s'.L B (rd w Y) (Q .normal)) (Hm:List TO) (A:List (T×Option TO)) (hml:Hm.length=s.H.length) (hms:∀(q:Nat)(x:TO),Hm[q]?=some x→x≠.gone→s.H[q]?=some x)
  (hrs:∀(i:Nat)(z:T×Option TO),A[i]?=some z→∃o,ops.toList[i]?=some o∧xJ P po s.H Hm (Hm++qM (A.take i)) (kP ops.toList (A.take i) s.L) ops o=some z) (hlen:A.length≤ops.toList.length) (h:drF P cl yd ops s Hm A=some s'):(Code.region id ops true).wpIn (FF rr) 0 P Q a w:=by
 unfold drF at h;cases hd:qGa ops (ln A)&&zNy Hm (ksE ops.toList A s.L)with
 | false=>simp[hd]at h
 | true=>
 simp only[hd,ze]at h;simp only[zd]at hd;obtain⟨hd,hks⟩:=hd;unfold qGa at hd;simp only[zd]at hd;rw[qV]at hd h;unfold jFc at h;cases hld0:nQ P ops ⟨kP ops.toList A s.L,vB (ksE ops.toList A s.L) s.H++qM A⟩ (zAf ops A.length)with
 | false=>simp[hld0]at h
 | true=>
 simp only[hld0,ze]at h;have hnd:∀o∈ops.toList,xA o.op=true:=fun o ho=>qa.1 hok o ho;have G:Ok ⟨P,E,w0,X,F,n,D,ops,s.H,Hm,s.L,A,B,rd w Y⟩ po (ln s.H+ops.size):=by
  refine⟨fun i z W=>?_,hd.1,hd.2.1,hd.2.2,?_,?_,?_,?_,hnd,hml,hms,(bV hks).1,(bV hks).2⟩
  ·exact hrs i z W
  ·exact hlen
  ·have:=hF.reps.length;rw[this];simpa using hF.size
  ·exact hpo
  ·show s.H.length+ops.size≤ln s.H+ops.size;rw[qV];exact z6 _
 have htl:∀(j:Nat)(o:Oper),A.length≤j→ops[j]?=some o→∀q,q<j→(∀S:Nat→Prop,zJq ops.toList S→(∀e∈o.after,Region.binds .any e=true→S e.on)→S q)∨∃p,ops[q]?=some p∧vC A.length (zAf ops A.length) (vlR ops A.length) q p=true∧aS ops o p=true:=fun j o V ho q hq=>by
  rcases zPk hd.2.1 j o V (by simpa using ho) q hq with C | ⟨p,J,h3⟩
  ·exact .inl C
  ·exact .inr ⟨p,by simpa using J,h3⟩
 have hdp:∀(i:Nat)(p:Oper)(t:Nat),i<A.length→ops[i]?=some p→Operand.tmp t∈p.op.operands→∀(i':Nat)(p':Oper),i'<A.length→ops[i']?=some p'→p'.dst=some t→i'<i∧∃e∈p.after,Region.binds .any e=true∧e.on=i':=fun i p t M hp ht i' p' hi' hp' I=>by
  have C:=(xU G.hd i p (G.hget M hp)).1 (.tmp t) (by simpa using ht)
  rw[qc]at C;have C:zEf (ops.toList.take A.length) p i t=true:=C;unfold zEf at C;cases hw:wrt t (ops.toList.take A.length) 0 with
  | none=>exact absurd I (bC hw i' p' (G.hget hi' hp'))
  | some j=>
   simp only[hw,zd,qv]at C;obtain⟨j',o',e1,h3,h4⟩:=zCu hw;obtain rfl:j=j':=by omega
   have V:j<A.length:=by omega
   have ho':ops[j]?=some o':=by
    rw[qh,qj V]at h3;simpa using h3
   obtain rfl:i'=j:=G.once hi' V hp' ho' I h4;exact⟨C.1,zFd C.2⟩
 have heg:∀(j:Nat)(o:Oper),ops[j]?=some o→∀e∈o.after,Region.binds .any e=true→e.on<j:=fun j o ho e he hb=>by
  have:=zBg hd.2.2 j o (by simpa using ho) e he hb
  rwa[qc]at this
 refine wpIn_region_any hm ?_;have hup:=Upd.drew w;have hW0:Wd P E w0 X F s.H B w.drew Y Mo:=hW.call hup;have main:∀(fuel:Nat)(l:Array Bool)(a':Act)(w':World)(B':Bm)(Y':Hid)(N:List (Nat×Obj)),Inv ⟨P,E,w0,X,F,n,D,ops,s.H,Hm,s.L,A,B,rd w Y⟩ l a' w' B' Y' N→zPs l≤fuel→zJq ops.toList (fun q=>l.getD q false=true)→wpAnyIn (FF rr) 0 P .any ops Q fuel l a' w':=by
  have toTail:∀(fuel:Nat)(l:Array Bool)(a':Act)(w':World)(B':Bm)(Y':Hid)(N:List (Nat×Obj)),Inv ⟨P,E,w0,X,F,n,D,ops,s.H,Hm,s.L,A,B,rd w Y⟩ l a' w' B' Y' N→zPs l≤fuel→zJq ops.toList (fun q=>l.getD q false=true)→(∀(i:Nat)(p:Oper),i<A.length→l.getD i false=false→ops[i]?=some p→vC A.length (zAf ops A.length) (vlR ops A.length) i p=true)→wpAnyIn (FF rr) 0 P .any ops Q fuel l a' w':=fun fuel l a' w' B' Y' N hI hu hsh hall=>by
   have hlz:l.size=ops.size:=hI.lsz;have hmle:A.length≤ops.size:=by have:=G.len;simpa using this
   have hlate:∀(i:Nat)(z:T×Option TO),A[i]?=some z→l.getD i false=false→∃p,ops[i]?=some p∧vC A.length (zAf ops A.length) (vlR ops A.length) i p=true∧z.2=none∧(yF p=true→fB P (kP ops.toList (A.take i) s.L) p z.1):=fun i z W hl=>by
    obtain⟨p,C,J⟩:=G.spec i z W;have C:ops.toList[i]?=some p:=C;have h1':ops[i]?=some p:=by simpa using C
    have hk:=hall i p (zh.1 W).1 hl h1';rcases zBs hk with hk' | ⟨hk1,hk2⟩
    ·exact⟨p,h1',hk,(fB.of_head hk' J).1,fun _=>(fB.of_head hk' J).2⟩
    ·exact⟨p,h1',hk,qPn hk1 J,fun hk'=>(fB.of_head hk' J).2⟩
   have hW1:Wd P E w0 X F (vB (ksE ops.toList A s.L) s.H++qM A) B' w' Y' N:=by
    have:Wd P E w0 X F (wO l (ksE ops.toList A s.L) s.H++jB l 0 A) B' w' Y' N:=hI.wd;rw[zDs l A 0 (fun i t ob M=>?_),qHr (fun i q hq=>?_)]at this
    ·exact this
    ·cases hc:l.getD i false with
     | true=>rfl
     | false=>
      have M:i<A.length:=qd (zh.1 hq).1 (qHu _ _ _);obtain⟨z,W⟩:∃z,A[i]?=some z:=⟨A[i],by simp[M]⟩
      obtain⟨p,C,J,h3,_⟩:=hlate i z W hc;rw[zNz ops.toList A s.L i p z (by simpa using C) W,h3]at hq;cases hq
    ·rw[qc];cases hc:l.getD i false with
     | true=>rfl
     | false=>
      obtain⟨p,_,_,h3,_⟩:=hlate i _ M hc;cases h3
   have Z1:FrL n a' (kP ops.toList A s.L) D B' (rd w' Y') (Pnd ops A.length l):=by
    refine⟨hI.fr.size,by rw[bW];exact G.slots,hI.fr.defers,fun t v hnp hv=>?_⟩
    by_cases he:∃(j:Nat)(o:Oper),j<A.length∧ops[j]?=some o∧o.dst=some t
    ·obtain⟨j,o,V,ho,U⟩:=he;obtain⟨z,W⟩:∃z,A[j]?=some z:=⟨A[j],by simp[V]⟩
     have ht:t<s.L.length:=by
      have C:=(z7.1 hv).1;have J:a'.tmps.size=n:=hI.fr.size;have h3:s.L.length=n:=G.slots;omega
     rw[bX ops.toList A s.L t j o z ht (by simpa using ho) W U fun q o' hq hl ho' I=>hq (G.once hl V (by simpa using ho') ho I U)]
     refine hI.fr.done j z o t v W ho U ?_ hv;cases hc:l.getD j false with
     | true=>rfl
     | false=>exact absurd ⟨j,o,V,hc,ho,U⟩ hnp
    ·rw[lD ops.toList A s.L t (fun j o V ho hd=>he ⟨j,o,V,by simpa using ho,hd⟩)]
     exact hI.fr.rest t v (fun j o V ho hd=>absurd ⟨j,o,V,ho,hd⟩ he) hv
   refine qSg hcl hyd (m:=A.length) htl (fun i o C J=>qSm J C) (fun i p t C J h3 i' p' h4 h5 h6=>(hdp i p t C J h3 i' p' h4 h5 h6).2) heg hnd fuel A.length _ s' h (z6 _) hu hlz (fun i M=>?_) hsh (fun i p M hl hp=>?_) hW1 Z1 hI.ble hI.le hk
   ·exact hI.head i M
   ·obtain⟨z,W⟩:∃z,A[i]?=some z:=⟨A[i],by simp[M]⟩
    obtain⟨p',C,J,_,h4⟩:=hlate i z W hl;rw[hp]at C;cases C;rcases zBs J with hkk | ⟨hk1,hk2⟩
    case inr=>
     obtain⟨d2,q1,q2⟩:=rF.of_ld hp hk1 hk2 hld0;exact⟨J,_,q2,fun d' I _=>by rw[q1]at I;cases I;rfl⟩
    refine⟨J,z.1,.inl ⟨hkk,(h4 hkk).congr fun x hx=>?_⟩,fun d I hlt=>?_⟩
    ·cases x with
     | tmp t=>
      show nth .u (kP ops.toList (A.take i) s.L) t=nth .u (kP ops.toList A s.L) t;by_cases he:∃(j:Nat)(o:Oper),j<A.length∧ops[j]?=some o∧o.dst=some t
      ·obtain⟨j,o,V,ho,U⟩:=he;obtain⟨hji,_⟩:=hdp i p t M hp hx j o V ho U;obtain⟨zj,hzj⟩:∃z,A[j]?=some z:=⟨A[j],by simp[V]⟩
       rcases qi t s.L.length with ht | ht
       ·rw[bX ops.toList A s.L t j o zj ht (by simpa using ho) hzj U fun q o' hq hl ho' I=>hq (G.once hl V (by simpa using ho') ho I U),
         bX ops.toList (A.take i) s.L t j o zj ht (by simpa using ho) (by rw[qh,qj hji];exact hzj) U fun q o' hq hl ho' I=>hq (G.once (qd hl (by rw[jl];exact fa _ _)) V (by simpa using ho') ho I U)]
       ·simp only[qU,zp];rw[qe (by rw[bW];exact ht),qe (by rw[bW];exact ht)]
      ·rw[lD ops.toList A s.L t (fun j o V ho hd=>he ⟨j,o,V,by simpa using ho,hd⟩),lD ops.toList (A.take i) s.L t (fun j o V ho hd=>he ⟨j,o,qd V (by rw[jl];exact fa _ _),by simpa using ho,hd⟩)]
     | _=>rfl
    ·rw[bW]at hlt;exact bX ops.toList A s.L d i p z hlt (by simpa using hp) W I fun q o' hq hl ho' hd2=>hq (G.once hl M (by simpa using ho') hp hd2 I)
  intro fuel;induction fuel with
  | zero=>
   intro l a' w' B' Y' N hI hu hsh;refine toTail 0 l a' w' B' Y' N hI hu hsh fun i p M hc=>?_;have hlz:l.size=ops.size:=hI.lsz;have hmle:A.length≤ops.size:=by have:=G.len;simpa using this
   have:=zCp (by omega) hc
   omega
  | succ fuel ih=>
   intro l a' w' B' Y' N hI hu hsh;by_cases hall:∀(i:Nat)(p:Oper),i<A.length→l.getD i false=false→ops[i]?=some p→vC A.length (zAf ops A.length) (vlR ops A.length) i p=true
   ·exact toTail _ l a' w' B' Y' N hI hu hsh hall
   ·have hlz:l.size=ops.size:=hI.lsz;have hmle:A.length≤ops.size:=by have:=G.len;simpa using this
    obtain⟨i1,p1,hi1,hl1,hp1,hk1⟩:∃(i:Nat)(p:Oper),i<A.length∧l.getD i false=false∧ops[i]?=some p∧¬vC A.length (zAf ops A.length) (vlR ops A.length) i p=true:=by
     refine ko fun hn=>hall fun i p C J h3=>?_;exact ko fun h4=>hn ⟨i,p,C,J,h3,h4⟩
    obtain⟨i0,hi0,hl0,hbelow⟩:=zLu ⟨i1,hi1,hl1⟩;obtain⟨o0,ho0⟩:∃o,ops[i0]?=some o:=⟨ops[i0]'(by omega),by simp⟩
    have hr0:i0∈Region.ready .any ops l:=zSu hlz ho0 hl0 fun e he hb=>hbelow _ (heg i0 o0 ho0 e he hb);refine⟨fun h0=>absurd (h0▸hr0) (by simp),fun i M=>?_⟩
    obtain⟨hun,oi,hoi,hall'⟩:=xp.1 M;have him:i<A.length:=by
     rcases qi i A.length with C | C
     ·exact C
     ·rcases htl i oi C hoi i1 (by omega)with J | ⟨p,J,h3,_⟩
      ·have:=J (fun q=>l.getD q false=true) hsh hall';rw[hl1]at this;cases this
      ·rw[hp1]at J;cases J;exact absurd h3 hk1
    have hil:i<l.size:=by omega
    have hc:l.getD i false=false:=by simpa[hil]using hun
    refine qBs G hI him M fun a2 w2 B2 Y2 Mo2 hI2=>ih _ a2 w2 B2 Y2 Mo2 hI2 ?_ (hsh.set (by simpa using hoi) hil hall')
    have:=zCp hil hc;omega
 have W:∀i,(Array.replicate ops.size false).getD i false=false:=fun i=>by
  by_cases M:i<ops.size<;>simp[M]
 refine main ops.size _ a _ B Y Mo ⟨?_,⟨hF.size,hF.defers,fun i z o d v _ _ _ hl _=>?_,fun t v _ hv=>?_⟩,BLe.refl B,hup.le Y,fun i t ob _ _=>hW0.nn _ (vo _ _),fun i _=>W i,by simp⟩ ?_ (fun i _ _ J=>absurd (show(Array.replicate ops.size false).getD i false=true from J) (by rw[W];simp))
 ·show Wd P E w0 X F (wO _ _ s.H++_) B _ Y Mo;rw[qBt (fun i _=>W i)];have Z:∀(i:Nat)(x:TO),(s.H++jB (Array.replicate ops.size false) 0 A)[i]?=some x→x≠.gone→s.H[i]?=some x:=fun i x hx hne=>by
   rcases qi i s.H.length with M | M
   ·rwa[qf M]at hx
   ·rw[je M]at hx;exact absurd (zDu _ A 0 _ x (fun i _=>W _) hx) hne
  have ng:∀{y:TO},vU y=true→y≠.gone:=fun h e=>by subst e;cases h
  exact⟨hW0.st,fun i x hx hl=>hW0.ob i x (Z i x hx (ng hl)) hl,fun i cs hx=>hW0.fz i cs (Z i _ hx (by simp)),fun i M=>hW0.nn i (by simp at M;omega),
   fun i j oi oj p q C l1 J l2=>hW0.inj i j oi oj p q (Z i _ C (ng l1)) l1 (Z j _ J (ng l2)) l2,hW0.bN,hW0.iv⟩
 ·rw[W]at hl;cases hl
 ·have hR:=hF.reps.getD t;have:a.tmps.toList.getD t undef=v:=by simp[hv]
  rw[this]at hR;exact hR.mono (BLe.refl B) (hup.le Y)
 ·have:zPs (Array.replicate ops.size false)=ops.size:=by
   have h:=zWr (l:=Array.replicate ops.size false) (j:=0) (fun i=>by rw[W];simp) (qq _)
   simpa using h
  omega
theorem qNy{P:Program}{E:Nat→Prop}{w0:World}{X:Hid}{F:List Nat}{n:Nat}{D:List Deferred}{ops:Array Oper}{cl yd:Cl}{rn:Rn}{O:Po}{id:Nat}(hm:P.follows .mixedOrders=true)(hO:qR P O)(hrn:nD P rn)(M:kW P cl)(hyd:xS P yd)
  (Z:dM ops=true) {s s':S} (h:drE P O rn cl yd ops s=some s') (hW:Wd P E w0 X F s.H B w Y Mo) (hF:FrT n a s.L D B (rd w Y)) (hk:mK P E w0 X F n D s'.H s'.L B (rd w Y) (Q .normal)):(Code.region id ops true).wpIn (FF rr) 0 P Q a w:=by
 have e:∀(A:List TO)(J:List (T×Option TO)),A.length=s.H.length→(∀(q:Nat)(x:TO),A[q]?=some x→x≠.gone→s.H[q]?=some x)→(∃k,J=(rG P (zIm P O rn (ln s.H+ops.size)) s.H A ops ops.toList [] A s.L).take k)→drF P cl yd ops s A J=some s'→(Code.region id ops true).wpIn (FF rr) 0 P Q a w:=fun A J V W G h=>by
  refine zKz (po:=zIm P O rn (ln s.H+ops.size)) hm (fun f az tv nw hp=>?_) M hyd Z hW hF hk A J V W (fun i z I=>?_) ?_ h
  ·unfold zIm at hp;cases ho:O f az with
   | some y=>simp only[ho,za]at hp;subst hp;exact hO _ _ _ _ ho _
   | none=>simp only[ho]at hp;exact zHd (dE hm hrn) hp
  ·obtain⟨k,rfl⟩:=G;rw[qh]at I;split at I
   ·rename_i N;have:=zLj _ _ _ _ _ _ I;rw[List.take_take,kg (uH N)];exact this
   ·cases I
  ·obtain⟨k,rfl⟩:=G;rw[jl];exact qx (fa _ _) (zRh _ _ _ _)
 unfold drE drU at h;generalize qNs ops ops.toList (rG P (zIm P O rn (ln s.H+ops.size)) s.H s.H ops ops.toList [] s.H s.L) 0=kk at h;unfold drG at h;have U:∀ks:List (Option Nat),∀(q:Nat)(x:TO),(vB ks s.H)[q]?=some x→x≠.gone→s.H[q]?=some x:=fun ks q x C h2=>by
  rw[lC]at C;split at C
  ·cases hq:s.H[q]? with
   | none=>rw[hq]at C;cases C
   | some y=>rw[hq]at C;cases C;exact absurd rfl h2
  ·exact C
 cases j:qWo (ksE ops.toList ((rG P (zIm P O rn (ln s.H+ops.size)) s.H s.H ops ops.toList [] s.H s.L).take kk) s.L)with
 | true=>simp only[j,ze]at h;exact e _ _ (zLo _ _) (U _) ⟨kk,rfl⟩ h
 | false=>simp only[j,zf]at h;exact e s.H _ rfl (fun _ _ h _=>h) ⟨kk,rfl⟩ h
end
section
variable {P:Program}{E:Nat→Prop}{w0:World}{X:Hid}{F:List Nat}{H:List TO}{B B':Bm}{w w':World}{Y Y':Hid}{Mo:List (Nat×Obj)}{o:Oper}{r r':Rd}{n:Nat}{a:Act}{L:List T}{D:List Deferred}{Q:Exit→Act→World→Prop}{K:Act→World→Prop}{cl yd:Cl}{O:Po}{rr:Option Nat}{ops:Array Oper}{rest:List Oper}{rn:Rn}
theorem Wd.lp(W:Wd P E w0 X F H B w Y Mo){i y C:Nat}{ps:List Nat}{U V:Code}{q:Bool}{pd:Option Code}(hi:H[i]?=some (.loop L ps U V q pd))(hB:B i=some (y,C)):
  ∃(rec:Loop)(k:Nat),(Mo++xN F)[k]?=some (y,.loop rec)∧(zO B (rd w Y) L rec.tmps.toList∧rec.params.toList=ps∧rec.assign=U∧rec.body=V∧noR U=true∧noR V=true∧LSt q pd rec)∧
   (∀j q' A,j.tmps=rec.tmps→j.params=rec.params→j.assign=rec.assign→j.body=rec.body→LSt q' A j→
    Wd P E w0 X F (H.set i (.loop L ps U V q' A)) B (w.putObj y (.loop j)) Y (Mo.set k (y,.loop j))∧Le (rd w Y) (rd (w.putObj y (.loop j)) Y))∧
   ∀j,Wd P E w0 X F (H.set i .gone) B (w.putObj y (.loop j)) Y (Mo.set k (y,.loop j))∧Le (rd w Y) (rd (w.putObj y (.loop j)) Y):=by
 obtain⟨b',C',ob,g1,g2,g3⟩:=W.ob i _ hi rfl;rw[hB]at g1;cases g1;cases g3 with
 | @loop _ _ _ _ rec _ _ hL hp ha hb M N hs=>
  obtain⟨k,Z⟩:=qz g2;have J:k<Mo.length:=(zh.1 Z).1;have I:(Mo++xN F)[k]?=some (y,.loop rec):=by rw[qf J];exact Z
  have hS:∀j,St E w0 X (w.putObj y (.loop j)) Y (Mo.set k (y,.loop j)++xN F)∧Le (rd w Y) (rd (w.putObj y (.loop j)) Y):=fun j=>by
   obtain⟨G,z⟩:=W.st.putObj (o':= .loop j) k I;rw[xc _ _ J]at G;exact⟨G,z⟩
  refine⟨rec,k,I,⟨hL,hp,ha,hb,M,N,hs⟩,fun j q' A e1 e2 e3 e4 hs'=>?_,fun j=>?_⟩
  ·obtain⟨G,z⟩:=hS j;exact⟨W.set hi rfl hB Z G z (fun cs e=>by cases e) (fun _=> .loop (by rw[e1];exact hL.mono (BLe.refl B) z) (by rw[e2];exact hp) (by rw[e3];exact ha) (by rw[e4];exact hb) M N hs'),z⟩
  ·obtain⟨G,z⟩:=hS j;exact⟨W.set hi rfl hB Z G z (fun cs e=>by cases e) (fun e=>by cases e),z⟩
theorem zSs:∀{ps:List Nat}{az L:List T}{qQ:List Value}{q:Array Value},ps.length=az.length→zO B r az qQ→zO B r L q.toList→zO B r (zJx L ps az) ((ps.zip qQ).foldl (fun t(x:Nat×Value)=>t.setIfInBounds x.1 x.2) q).toList
 | [],[],L,[],q,_,_,h=>by simpa[zJx]using h
 | p::ps,t::az,L,v::qQ,q,j,e,h=>by
  simp only[zJx,List.zip_cons_cons,xh];refine zSs (by simpa using j) e.2 ?_
  have:=h.put p e.1;simpa using this
 | [],_::_,_,_,_,j,_,_=>by simp at j
 | _::_,[],_,_,_,j,_,_=>by simp at j
 | _,[],_,_::_,_,_,e,_=>e.elim
 | _,_::_,_,[],_,_,e,_=>e.elim
theorem zSr:∀(e:List Nat)(az L:List T),(zJx L e az).length=L.length
 | [],_,_=>by simp[zJx]
 | _::_,[],_=>by simp[zJx]
 | p::e,t::az,L=>by rw[zJx,zSr e az,yP];simp
theorem gG{l:List TO}{i:Nat}{x:TO}(h:nth .gone l i=x)(j:x≠.gone):l[i]?=some x:=by
 rw[qU,zp]at h;cases e:l[i]? with
 | none=>rw[e]at h;exact absurd h.symm j
 | some y=>rw[e]at h;simp at h;rw[h]
theorem qMl(U:nD P rn):xS P (zJn rn):=by
 intro l az H tv H' h E w0 X F B w Y Mo qQ R b0 C hW hA hB hk;unfold zJn at h;split at h
 ·rename_i L ps c1 c2 hl;have hi:=gG hl (by simp)
  cases j:Nat.beq (ln ps) (ln az)with
  | false=>simp[j]at h
  | true=>
   simp only[j,ze]at h;have j:=zY j;rw[qV,qV]at j;obtain⟨rec,k,hk2,⟨hL,hp,ha,hb,M,N,hs⟩,_,_⟩:=hW.lp hi hB;have hpl:rec.params.size=az.length:=by rw[←j,←hp];simp
   refine qAx k hW.st hk2 (by rw[hpl,hA.length];simp) ?_
   have hF:FrT rec.tmps.size {tmps:=(rec.params.zip qQ.toArray).foldl (fun tmps(t,a)=>tmps.setIfInBounds t a) rec.tmps,defers:=[]} (zJx L ps az) [] B (rd w Y):=by
    have hz:((rec.params.zip qQ.toArray).foldl (fun tmps(x:Nat×Value)=>tmps.setIfInBounds x.1 x.2) rec.tmps)=(ps.zip qQ).foldl (fun t(x:Nat×Value)=>t.setIfInBounds x.1 x.2) rec.tmps:=by
     rw[←Array.foldl_toList,Array.toList_zip,hp]
    have hR:=zSs (ps:=ps) j hA hL;refine⟨?_,?_,rfl⟩
    ·show((rec.params.zip qQ.toArray).foldl (fun tmps(x:Nat×Value)=>tmps.setIfInBounds x.1 x.2) rec.tmps).size=_;rw[hz];have h1:=hR.length;rw[zSr]at h1;have h2:=hL.length;simp at h1 h2;omega
    ·show zO B (rd w Y) _ ((rec.params.zip qQ.toArray).foldl (fun tmps(x:Nat×Value)=>tmps.setIfInBounds x.1 x.2) rec.tmps).toList;rw[hz];exact hR
   unfold qTt at h;split at h
   ·rename_i s1 J1;split at h
    ·rename_i L2 ps2 d1 d2 hl2;have hi2:=gG hl2 (by simp)
     subst ha;refine U _ _ _ _ J1 E w0 X F rec.tmps.size _ [] B w Y Mo (some b0) _ (.inr M) hW hF fun a1 w1 B1 Y1 Mo1 bs I g1 g2 g3 g4=>?_;obtain rfl:=I M;obtain⟨W,k2,hk3,⟨_,_,_,_,_,_,hs2⟩,V,_⟩:=Wd.lp g1 hi2 (g3 _ _ hB);obtain⟨hWb,G⟩:=V {W with state:= .busy} false none rfl rfl rfl rfl rfl
     refine⟨_,run_beginRound (g1.st.get k2 hk3) hs2.1,?_⟩;unfold endY at h;subst hb;split at h
     ·rename_i e s2 J2;rw[yP]at J2;refine U _ _ _ _ J2 E w0 X F rec.tmps.size a1 [] B1 _ Y1 _ (some b0) _ (.inr N) hWb (g2.mono (BLe.refl _) G) fun a3 w3 B3 Y3 Mo3 bs I Z f2 f3 f4=>?_;obtain rfl:=I N;split at h
      ·rename_i L4 ps4 e1 e2 hl4;have hi4:=gG hl4 (by simp)
       obtain⟨A,k4,J,⟨_,_,_,_,_,_,hs4⟩,y,_⟩:=Wd.lp Z hi4 (f3 _ _ (g3 _ _ hB));have C4:=(g4.trans G).trans f4;cases e with
       | n=>
        simp only[za,qT,yP]at h;obtain⟨rfl,rfl⟩:=h;obtain⟨z,q⟩:=y {A with state:= .ready,pending:=none} true none rfl rfl rfl rfl ⟨rfl,rfl⟩
        exact⟨_,_,uq none (Z.st.get k4 J),hk _ _ _ _ _ z (.v rfl) (g3.trans f3) (C4.trans q)⟩
       | r=>
        simp only[za,qT,yP]at h;obtain⟨rfl,rfl⟩:=h;obtain⟨z,q⟩:=y {A with state:= .done,pending:=some .ret} false (some .ret) rfl rfl rfl rfl ⟨rfl,rfl⟩
        exact⟨_,_,uq (some .ret) (Z.st.get k4 J),hk _ _ _ _ _ z (.v rfl) (g3.trans f3) (C4.trans q)⟩
       | x id=>
        simp only[za,qT,yP]at h;obtain⟨rfl,rfl⟩:=h;obtain⟨z,q⟩:=y {A with state:= .done,pending:=some (.exit id)} false (some (.exit id)) rfl rfl rfl rfl ⟨rfl,rfl⟩
        exact⟨_,_,uq (some (.exit id)) (Z.st.get k4 J),hk _ _ _ _ _ z (.v rfl) (g3.trans f3) (C4.trans q)⟩
       | p t=>simp at h
      ·cases h
     ·cases h
    ·cases h
   ·cases h
 ·cases h
theorem jEe(hcl:kW P cl){g:Operand}{ps:Array Tmp}{c1 c2:Code}{e:Ex}{s':S}(hW:Wd P E w0 X F H B w Y Mo)(hF:FrT n a L D B (rd w Y))(hna:noR c1=true)(hnb:noR c2=true)
  (h:jEd P cl ps.toList c1 c2 L H (evO L g)=some (e,s')) (hk:fP P E w0 X F n D false e s' B (rd w Y) Q):(Code.rangeFunc g ps c1 c2).wpIn (FF none) 0 P Q a w:=by
 have hg:=hF.rep g;unfold jEd at h;split at h
 ·rename_i f cs eg;rw[eg]at hg;obtain⟨caps,hv,hcs⟩:=hg.fnI;cases hen:jX P f with
  | false=>simp[hen]at h
  | true=>
   simp only[hen,ze]at h;refine wpIn_rangeFunc fun fn _=>?_;have h1:=hW.st.alloc (.deferred (some []));have h2:=h1.alloc (.loop {state:= .ready,pending:=none,fn:=fn,tmps:=a.tmps,params:=ps,assign:=c1,body:=c2,defers:=w.heap.size});have hle:Le (rd w Y) (rd ((w.alloc (.deferred (some []))).alloc (.loop {state:= .ready,pending:=none,fn:=fn,tmps:=a.tmps,params:=ps,assign:=c1,body:=c2,defers:=w.heap.size})) _):=(Le.hide_new (.deferred (some []))).trans (Le.hide_new _);have hrun:=run_enterLoop_outer (P:=P) (w:=w) fn a.tmps ps c1 c2;have hN:=Wd.new (F':=w.heap.size::F) (g:=(w.alloc (.deferred (some []))).heap.size) (C:=0) (o:= .loop L ps.toList c1 c2 true none) hW
    (St.perm (by
     show List.Perm _ ((_::Mo)++((w.heap.size,Obj.deferred (some []))::xN F));exact(List.Perm.cons _ vk.symm)) h2) hle rfl
    (.loop (hF.reps.mono (BLe.refl B) hle) rfl rfl rfl hna hnb ⟨rfl,rfl⟩)
   obtain⟨hWn,hBn⟩:=hN;have hl1:(w.alloc (.deferred (some []))).heap.size=w.heap.size+1:=by simp
   cases hc:cl f (.yl (ln H)::cs) (H++[.loop L ps.toList c1 c2 true none])with
   | none=>simp[hc,qZb]at h
   | some vh=>
    obtain⟨tv,H1⟩:=vh;simp only[hc,qZb]at h;rw[hl1]at hWn hBn;have hy:Rep (rP B H.length (w.heap.size+1,0)) (rd ((w.alloc (.deferred (some []))).alloc (.loop {state:= .ready,pending:=none,fn:=fn,tmps:=a.tmps,params:=ps,assign:=c1,body:=c2,defers:=w.heap.size})) (zBo (w.heap.size+1) (zBo w.heap.size Y))) (.yl (ln H)) (.func (.yield (w.heap.size+1)) #[] #[]):=by
     rw[qV];exact .yl (qN _ _ _)
    have hK:=hcl _ _ _ _ _ hc E w0 X (w.heap.size::F) _ _ _ _ (.func (.yield (w.heap.size+1)) #[] #[]::caps)
     (fun e w3=>(∃v,e= .returned v)∧∃rec,w3.heap[w.heap.size+1]?=some (.loop rec)∧rec.state≠.busy∧
      (match rec.pending with
       | none=>Q .normal {a with defers:=Gv.mark w.heap.size::a.defers} (w3.putObj (w.heap.size+1) (.loop {rec with state:= .exhausted}))
       | some c=>c.wpIn (FF none) 0 P Q {a with defers:=Gv.mark w.heap.size::a.defers} (w3.putObj (w.heap.size+1) (.loop {rec with state:= .exhausted}))))
     (by rw[←hl1];rw[hl1];exact hWn) ⟨by rw[hl1]at *;exact hy,hcs.mono hBn (by rw[hl1]at hle;exact hle)⟩ ?_
    ·clear hle h2;generalize (w.alloc (.deferred (some []))).alloc (.loop {state:= .ready,pending:=none,fn:=fn,tmps:=a.tmps,params:=ps,assign:=c1,body:=c2,defers:=w.heap.size})=W1 at hK hrun;refine⟨w.heap.size+1,[Gv.mark w.heap.size],W1,{target:= .fn (.func f) caps.toArray,args:=#[.func (.yield (w.heap.size+1)) #[] #[]]},W1,f,
      #[.func (.yield (w.heap.size+1)) #[] #[]]++caps.toArray,W1,hrun,?_,fun f' _=>xE none f',?_,rW none 0,?_⟩
     ·simp only[resolve,hv];simp[go_sem]
     ·simp only[invoke];exact nO hen _ _
     ·refine nG.2 ((show Calls P f (#[.func (.yield (w.heap.size+1)) #[] #[]]++caps.toArray) W1 _ by simpa using hK).mono ?_)
      rintro e w3 ⟨⟨v,rfl⟩,rec,hl,hb,hrest⟩;exact⟨rec.pending,_,run_endLoop hl hb,hrest⟩
    ·intro v w3 B3 Y3 Mo3 k1 k2 k3 k4;refine⟨⟨v,rfl⟩,?_⟩;have hBl:B3 H.length=some (w.heap.size+1,0):=k3 _ _ (qN _ _ _);have fin:∀(L2:List T)(ps2:List Nat)(d1 d2:Code)(q:Bool)(pd:Option Code),H1[H.length]?=some (.loop L2 ps2 d1 d2 q pd)→q=true∨pd≠none→
       ∃rec,w3.heap[w.heap.size+1]?=some (.loop rec)∧rec.state≠.busy∧rec.pending=pd∧∃Mo4,Wd P E w0 X (w.heap.size::F) (H1.set H.length .gone) B3 (w3.putObj (w.heap.size+1) (.loop {rec with state:= .exhausted})) Y3 Mo4∧Le (rd w3 Y3) (rd (w3.putObj (w.heap.size+1) (.loop {rec with state:= .exhausted})) Y3):=fun L2 ps2 d1 d2 q pd hi hq=>by
      obtain⟨rec,k,hk2,⟨_,_,_,_,_,_,hs⟩,_,hgone⟩:=Wd.lp k1 hi hBl;refine⟨rec,k1.st.get k hk2,?_,?_,_,hgone _⟩
      ·cases q<;>cases pd<;>simp only[LSt]at hs
       ·rcases hq with h | h<;>simp at h
       ·rw[hs.1];simp
       ·rw[hs.1];simp
      ·cases q<;>cases pd<;>simp only[LSt]at hs
       ·rcases hq with h | h<;>simp at h
       ·exact hs.2
       ·exact hs.2
     have hBt:BLe B B3:=hBn.trans k3;have hlet:Le (rd w Y) (rd w3 Y3):=(by rw[hl1]at hle;exact hle:Le (rd w Y) _).trans k4
     have hFm:∀{r3:Rd},Le (rd w Y) r3→FrT n {a with defers:=Gv.mark w.heap.size::a.defers} L ([w.heap.size].map Gv.mark++D) B3 r3:=fun hr=>⟨hF.size,hF.reps.mono hBt hr,by show Gv.mark w.heap.size::a.defers=_;rw[hF.defers];rfl⟩
     split at h
     ·rename_i L2 ps2 d1 d2 hl2;rw[qV]at hl2;obtain⟨rec,f1,f2,f3,Mo4,f4,f5⟩:=fin _ _ _ _ _ _ (gG hl2 (by simp)) (.inl rfl)
      refine⟨rec,f1,f2,?_⟩;generalize w3.putObj (w.heap.size+1) (.loop {rec with state:= .exhausted})=w4 at f4 f5 ⊢
      rw[f3];simp only[za,qT,yP,qV]at h;obtain⟨rfl,rfl⟩:=h;exact hk _ _ _ _ _ [w.heap.size] (fun e=>by cases e) f4 (hFm (hlet.trans f5)) hBt (hlet.trans f5)
     ·rename_i L2 ps2 d1 d2 hl2;rw[qV]at hl2;obtain⟨rec,f1,f2,f3,Mo4,f4,f5⟩:=fin _ _ _ _ _ _ (gG hl2 (by simp)) (.inr (by simp))
      refine⟨rec,f1,f2,?_⟩;generalize w3.putObj (w.heap.size+1) (.loop {rec with state:= .exhausted})=w4 at f4 f5 ⊢
      rw[f3];simp only[za,qT,yP,qV]at h;obtain⟨rfl,rfl⟩:=h;exact mY (hk _ _ _ _ _ [w.heap.size] (fun e=>by cases e) f4 (hFm (hlet.trans f5)) hBt (hlet.trans f5))
     ·rename_i L2 ps2 d1 d2 id hl2;rw[qV]at hl2;obtain⟨rec,f1,f2,f3,Mo4,f4,f5⟩:=fin _ _ _ _ _ _ (gG hl2 (by simp)) (.inr (by simp))
      refine⟨rec,f1,f2,?_⟩;generalize w3.putObj (w.heap.size+1) (.loop {rec with state:= .exhausted})=w4 at f4 f5 ⊢
      rw[f3];simp only[za,qT,yP,qV]at h;obtain⟨rfl,rfl⟩:=h;exact zAc (hk _ _ _ _ _ [w.heap.size] (fun e=>by cases e) f4 (hFm (hlet.trans f5)) hBt (hlet.trans f5))
     ·cases h
 ·cases h
theorem fP.one{q:Bool}{e:Ex}{s':S}(h:fP P E w0 X F n D q e s' B r Q){y:Act}{w':World}{B':Bm}{Y':Hid}{j:List (Nat×Obj)}(z:Wd P E w0 X F s'.H B' w' Y' j)(A:FrT n y s'.L D B' (rd w' Y'))(C:BLe B B')(G:Le r (rd w' Y')):QOk Q B' (rd w' Y') y w' e:=
 h y w' B' Y' j [] (fun _=>rfl) z A C G
theorem fP.next{q G I:Bool}{e:Ex}{s':S}(h:fP P E w0 X F n D q e s' B r Q)(C:q=true→G=true∧I=true){w':World}{B':Bm}{Y':Hid}{bs:List Nat}(A:G=true→bs=[])(U:BLe B B')(V:Le r (rd w' Y')):fP P E w0 X (bs++F) n (bs.map Gv.mark++D) I e s' B' (rd w' Y') Q:=
 fun N w2 J M j y z W Z k3 k4=>h N w2 J M j (y++bs) (fun e=>by rw[A (C e).1,z (C e).2];rfl) (by rw[qr];exact W) (by rw[xw,qr];exact Z) (U.trans k3) (V.trans k4)
theorem qZd{J:Oo}{O:Rn→Po}(hm:P.follows .mixedOrders=true)(hS:qEc P J)(hO:∀rn,nD P rn→qR P (O rn)):∀k,nD P (evC P J O k):=by
 intro k;induction k using Nat.strongRecOn with
 | _ k ih=>
  cases k with
  | zero=>intro c s e s' h;simp[evC]at h
  | succ k=>
   have hk:nD P (evC P J O k):=ih k (x7 k);have hcl:=qFb (P:=P) hm hS (hO _ hk) hk;have hpc:=qBo (P:=P) hk;have hyd:=qMl (P:=P) hk;intro c s e s' h E w0 X F n a D B w Y Mo rr Q hr Z V G;have h:sW P J (O (evC P J O k)) (evC P J O k) c s=some (e,s'):=h;cases c with
   | skip=>simp only[sW,za,qT]at h;obtain⟨rfl,rfl⟩:=h;exact tF (G.one Z V (BLe.refl B) (Le.refl _))
   | label l=>simp only[sW,za,qT]at h;obtain⟨rfl,rfl⟩:=h;exact zNu (G.one Z V (BLe.refl B) (Le.refl _))
   | exit id=>simp only[sW,za,qT]at h;obtain⟨rfl,rfl⟩:=h;exact zAc (G.one Z V (BLe.refl B) (Le.refl _))
   | ret=>simp only[sW,za,qT]at h;obtain⟨rfl,rfl⟩:=h;exact mY (G.one Z V (BLe.refl B) (Le.refl _))
   | seq x y=>
    simp only[sW]at h;have hr1:rr=none∨noR x=true:=hr.imp id fun h=>by simp only[noR,zd]at h;exact h.1
    have hr2:rr=none∨noR y=true:=hr.imp id fun h=>by simp only[noR,zd]at h;exact h.2
    have hq:noR (.seq x y)=true→noR x=true∧noR y=true:=fun h=>by simpa[noR]using h
    cases I:evC P J O k x s with
    | none=>simp[I,zFo]at h
    | some es=>
     obtain⟨e1,s1⟩:=es;refine wpIn_seq (hk _ _ _ _ I E w0 X F n a D B w Y Mo rr _ hr1 Z V fun C w' B' Y' q bs A g1 g2 g3 M=>?_);cases e1 with
     | n=>
      simp only[I,zFo]at h;exact hk _ _ _ _ h E w0 X _ n C _ B' w' Y' q rr Q hr2 g1 g2 (G.next hq A g3 M)
     | x id=>simp only[I,zFo,za,qT]at h;obtain⟨rfl,rfl⟩:=h;exact G C w' B' Y' q bs (fun e=>A (hq e).1) g1 g2 g3 M
     | r=>simp only[I,zFo,za,qT]at h;obtain⟨rfl,rfl⟩:=h;exact G C w' B' Y' q bs (fun e=>A (hq e).1) g1 g2 g3 M
     | p t=>simp only[I,zFo,za,qT]at h;obtain⟨rfl,rfl⟩:=h;exact G C w' B' Y' q bs (fun e=>A (hq e).1) g1 g2 g3 M
   | cond c x y=>
    simp only[sW]at h;have hc:=V.rep c;unfold qTx at h;split at h
    ·rename_i b eb;rw[eb]at hc;cases b with
     | true=>exact dk hc.bool (hk _ _ _ _ h E w0 X F n a D B w Y Mo rr Q (hr.imp id fun h=>by simp only[noR,zd]at h;exact h.1) Z V fun C w' B' Y' q bs A=>G C w' B' Y' q bs fun e=>A (by simp only[noR,zd]at e;exact e.1))
     | false=>exact fw hc.bool (hk _ _ _ _ h E w0 X F n a D B w Y Mo rr Q (hr.imp id fun h=>by simp only[noR,zd]at h;exact h.2) Z V fun C w' B' Y' q bs A=>G C w' B' Y' q bs fun e=>A (by simp only[noR,zd]at e;exact e.2))
    ·cases h
   | block id x=>
    simp only[sW]at h;cases I:evC P J O k x s with
    | none=>simp[I,qBf]at h
    | some es=>
     obtain⟨e1,s1⟩:=es;refine kH (hk _ _ _ _ I E w0 X F n a D B w Y Mo rr _ hr Z V fun C w' B' Y' q bs A g1 g2 g3 M=>?_);cases e1 with
     | n=>simp only[I,qBf,za,qT]at h;obtain⟨rfl,rfl⟩:=h;exact G C w' B' Y' q bs A g1 g2 g3 M
     | r=>simp only[I,qBf,za,qT]at h;obtain⟨rfl,rfl⟩:=h;exact G C w' B' Y' q bs A g1 g2 g3 M
     | p t=>simp only[I,qBf,za,qT]at h;obtain⟨rfl,rfl⟩:=h;exact G C w' B' Y' q bs A g1 g2 g3 M
     | x j=>
      simp only[I,qBf,za,qT]at h;obtain⟨rfl,rfl⟩:=h;have:=G C w' B' Y' q bs A g1 g2 g3 M;cases hj:Nat.beq j id with
      | true=>rw[hj]at this;obtain rfl:=zY hj;exact mU this
      | false=>rw[hj]at this;exact zGo hj this
   | scope x=>
    simp only[sW]at h;rcases hr with rfl | hr
    ·exact zNv (hk _ _ _ _ h E w0 X F n a D B w Y Mo none _ (.inl rfl) Z V fun C w' B' Y' q bs _ g1 g2 g3 M=>by
      have:=G C w' B' Y' q bs (fun e=>by simp[noR]at e) g1 g2 g3 M
      cases e<;>exact this)
    ·simp[noR]at hr
   | loop x=>
    have hr1:rr=none∨noR x=true:=hr.imp id fun h=>by simpa[noR]using h
    refine lZ (γ:=Nat×S×List Nat) (fun g a w=>g.1≤k∧sW P J (O (evC P J O g.1)) (evC P J O g.1) (.loop x) g.2.1=some (e,s')∧∃B' Y' q,(noR x=true→g.2.2=[])∧Wd P E w0 X (g.2.2++F) g.2.1.H B' w Y' q∧FrT n a g.2.1.L (g.2.2.map Gv.mark++D) B' (rd w Y')∧BLe B B'∧Le (rd _ Y) (rd w Y'))
     (fun g=>g.1) (k,s,[]) ⟨z6 k,h,B,Y,Mo,fun _=>rfl,Z,V,BLe.refl B,Le.refl _⟩ ?_
    rintro⟨j,s0,N⟩ a0 w1 ⟨hj,z,B1,Y1,Mo1,hb1,g1,g2,g3,M⟩;simp only[sW]at z hj hb1 g1 g2;cases I:evC P J O j x s0 with
    | none=>simp[I,zFo]at z
    | some es=>
     obtain⟨e1,s1⟩:=es;refine ih j (by omega) _ _ _ _ I E w0 X _ n a0 _ B1 w1 Y1 Mo1 rr _ hr1 g1 g2 fun C w' B' Y' q bs A k1 k2 k3 k4=>?_
     have W:noR x=true→bs++N=[]:=fun e=>by rw[A e,hb1 e];rfl
     have k1':Wd P E w0 X (bs++N++F) s1.H B' w' Y' q:=by rw[qr];exact k1
     have k2':FrT n C s1.L ((bs++N).map Gv.mark++D) B' (rd w' Y'):=by rw[xw,qr];exact k2
     cases e1 with
     | n=>
      simp only[I,zFo]at z;cases j with
      | zero=>simp[evC]at z
      | succ j=>exact⟨(j,s1,bs++N),⟨by omega,z,B',Y',q,W,k1',k2',g3.trans k3,M.trans k4⟩,x7 j⟩
     | x id=>simp only[I,zFo,za,qT]at z;obtain⟨rfl,rfl⟩:=z;exact G C w' B' Y' q (bs++N) (fun e=>W (by simpa[noR]using e)) k1' k2' (g3.trans k3) (M.trans k4)
     | r=>simp only[I,zFo,za,qT]at z;obtain⟨rfl,rfl⟩:=z;exact G C w' B' Y' q (bs++N) (fun e=>W (by simpa[noR]using e)) k1' k2' (g3.trans k3) (M.trans k4)
     | p t=>simp only[I,zFo,za,qT]at z;obtain⟨rfl,rfl⟩:=z;exact G C w' B' Y' q (bs++N) (fun e=>W (by simpa[noR]using e)) k1' k2' (g3.trans k3) (M.trans k4)
   | region id ops draw=>
    cases draw with
    | false=>
     simp only[sW]at h;cases U:dM ops with
     | false=>simp[U]at h
     | true=>
      simp only[U,ze]at h;refine fh ?_;exact zZj hcl hyd hpc _ _ _ h U Z V (BLe.refl B) (Le.refl _) fun C w' B' Y' q k1 k2 k3 k4=>G.one k1 k2 k3 k4
    | true=>
     simp only[sW]at h;cases U:dM ops with
     | false=>simp[U,qRv]at h
     | true=>
      simp only[U,ze]at h;cases ho:drE P (O (evC P J O k)) (evC P J O k) (zKp P J (O (evC P J O k)) (evC P J O k)) (zJn (evC P J O k)) ops s with
      | none=>simp[ho,qRv]at h
      | some s1=>
       simp only[ho,qRv,za,qT]at h;obtain⟨rfl,rfl⟩:=h;exact qNy hm (hO _ hk) hk hcl hyd U ho Z V fun C w' B' Y' q k1 k2 k3 k4=>G.one k1 k2 k3 k4
   | rangeFunc g ps c1 c2=>
    simp only[sW]at h;cases hn:noR c1&&noR c2 with
    | false=>simp[hn]at h
    | true=>
     simp only[hn,ze]at h;simp only[zd]at hn;rcases hr with rfl | hr
     ·exact jEe hcl Z V hn.1 hn.2 h G
     ·simp[noR]at hr
   | goto l=>simp[sW]at h
   | refuse why=>simp[sW]at h
theorem qOe{e:Oo}{O:Rn→Po}(hm:P.follows .mixedOrders=true)(q:qEc P e)(j:∀rn,nD P rn→qR P (O rn)){k f m:Nat}{az:List T}{tv:T}{nw:Bool}(h:kN P (evC P e O k) m f az=some (tv,nw)):KnP P m f az tv nw:=
 zHd (dE hm (qZd hm q j k)) h
end
inductive Ar where
  | r (a:Raw)
  | i (n:Int)
  | b (b:Bool)
  | s (s:ByteArray)
inductive Rs where
  | one (a:Ar)
  | tup (l:List Ar)
def zBv:Nat→List T→Option (List Nat)
 | 0,_=>some []
 | _+1,[]=>none
 | n+1,t::l=>match t with
  | .v (.int .u32 (.ofNat x))=>bif Nat.blt x 4294967296 then(match zBv n l with | some r=>some (x::r) | none=>none)else none
  | _=>none
def zVm:T→Option (List Nat)
 | .v (.slice none 0 0)=>some []
 | .sl e n=>zBv n e
 | .st e n=>bif Nat.ble n 9223372036854775807 then zBv n e else none
 | _=>none
def arT:T→Option Ar
 | .v (.int .i64 n)=>some (.i n)
 | .v (.bool b)=>some (.b b)
 | .v (.string s)=>some (.s s)
 | .ag [.v (.bool b),x,y]=>(match zVm x,zVm y with
  | some l,some e=>some (.r ⟨b,l,e⟩)
  | _,_=>none)
 | _=>none
def zUf:List T→Option (List Ar)
 | []=>some []
 | t::l=>match arT t,zUf l with
  | some a,some r=>some (a::r)
  | _,_=>none
def unL(l:List Nat):T:= .sl (l.map fun(x:Nat)=>T.v (.int .u32 (.ofNat x))) l.length
def unA:Ar→T
 | .r a=> .ag [.v (.bool a.neg),unL a.ln,unL a.ld]
 | .i n=> .v (.int .i64 n)
 | .b b=> .v (.bool b)
 | .s s=> .v (.string s)
def unR:Rs→T
 | .one a=>unA a
 | .tup l=> .tu (l.map unA)
def ArV(X:Hid)(w:World):Ar→Value→Prop
 | .r a,v=>rX X w v a
 | .i n,v=>v= .int .i64 n
 | .b b,v=>v= .bool b
 | .s s,v=>v= .string s
def zTt(X:Hid)(w:World):List Ar→List Value→Prop
 | [],[]=>True
 | a::az,v::e=>ArV X w a v∧zTt X w az e
 | _,_=>False
def RsV(X:Hid)(w:World):Rs→Value→Prop
 | .one a,v=>ArV X w a v
 | .tup l,v=>∃e:List Value,v= .tuple e.toArray∧zTt X w l e
def KC(P:Program)(f:Nat)(p:List Ar→Option Rs)(nw:Bool):Prop:=
 ∀(w:World)(X:Hid)(_:∀b o,X b o→b<w.heap.size)(az:List Ar)(e:List Value)(_:zTt X w az e)(y:Rs),p az=some y→Calls P f e.toArray w (Ret E0 w fun w' v=>RsV (bif nw then old w else X) w' y v)
section
variable {B:Bm}{X:Hid}{w:World}
theorem zHm:∀{n:Nat}{e:List T}{l:List Nat},zBv n e=some l→l.length=n∧∀x∈l,x<4294967296
 | 0,_,l,h=>by simp[zBv]at h;subst h;simp
 | n+1,[],l,h=>by simp[zBv]at h
 | n+1,t::e,l,h=>by
  simp only[zBv]at h;split at h
  ·rename_i x;cases hb:Nat.blt x 4294967296 with
   | false=>simp[hb]at h
   | true=>
    simp only[hb,ze]at h;cases j:zBv n e with
    | none=>simp[j]at h
    | some r=>
     simp only[j,za]at h;subst h;obtain⟨z,A⟩:=zHm j;rw[qv]at hb;refine⟨by simp[z],fun y q=>?_⟩
     rcases qS.1 q with rfl | q
     ·exact hb
     ·exact A y q
  ·cases h
theorem zRr:∀{n:Nat}{q:List T}{l:List Nat},zBv n q=some l→∀(j x:Nat),l[j]?=some x→q[j]?=some (.v (.int .u32 (.ofNat x)))
 | 0,_,l,h,j,x,e=>by simp[zBv]at h;subst h;simp at e
 | n+1,[],l,h,j,x,e=>by simp[zBv]at h
 | n+1,t::q,l,h,j,x,e=>by
  simp only[zBv]at h;split at h
  ·rename_i y;cases hb:Nat.blt y 4294967296 with
   | false=>simp[hb]at h
   | true=>
    simp only[hb,ze]at h;cases z:zBv n q with
    | none=>simp[z]at h
    | some r=>
     simp only[z,za]at h;subst h;cases j with
     | zero=>simp at e;subst e;rfl
     | succ j=>exact zRr z j x (by simpa using e)
  ·cases h
theorem qEs{r:Rd}{b o n:Nat}{q:List T}{l:List Nat}(h:zBv n q=some l)(A:Cls B r b o q):At r ⟨b,o,none⟩ (U32 l):=by
 intro j v hv;simp only[U32,qt]at hv;cases e:l[j]? with
 | none=>rw[e]at hv;cases hv
 | some x=>
  rw[e]at hv;cases hv;obtain⟨v,y,z⟩:=A j _ (zRr h j x e);obtain⟨rfl,_⟩:=z.vI;rw[jU];exact y
theorem zOb{t:T}{l:List Nat}{v:Value}(h:zVm t=some l)(q:Rep B (rd w X) t v):∃e n c,v= .slice e n c∧zN (rd w X) e n c l:=by
 unfold zVm at h;split at h
 ·cases h;obtain⟨rfl,_⟩:=q.vI;exact⟨none,0,0,rfl,zN.nil none (by omega)⟩
 ·rename_i C n;have z:=q;obtain⟨e,c,rfl,G,hh⟩:=q.slI;obtain⟨j,y⟩:=zHm h;refine⟨e,n,c,rfl,j.symm,G,z.slB,y,?_⟩;rcases hh with⟨rfl,rfl⟩ | ⟨b,o,rfl,A⟩
  ·left;exact uP.1 j
  ·exact .inr ⟨b,o,rfl,qEs h A⟩
 ·rename_i C n;cases hb:Nat.ble n 9223372036854775807 with
  | false=>simp[hb]at h
  | true=>
   simp only[hb,ze]at h;rw[qp]at hb;obtain⟨e,rfl,hh⟩:=q.stI;obtain⟨j,y⟩:=zHm h;refine⟨e,n,n,rfl,j.symm,z6 _,hb,y,?_⟩;rcases hh with⟨rfl,rfl⟩ | ⟨b,o,rfl,A⟩
   ·left;exact uP.1 j
   ·exact .inr ⟨b,o,rfl,qEs h A⟩
 ·cases h
theorem qEq{t:T}{a:Ar}{v:Value}(h:arT t=some a)(j:Rep B (rd w X) t v):ArV X w a v:=by
 unfold arT at h;split at h
 ·cases h;exact j.vI.1
 ·cases h;exact j.vI.1
 ·cases h;exact j.vI.1
 ·rename_i b x y;cases e:zVm x with
  | none=>simp[e]at h
  | some l=>
   cases q:zVm y with
   | none=>simp[e,q]at h
   | some U=>
    simp only[e,q,za]at h;subst h;obtain⟨G,rfl,z⟩:=j.agI;match G,z with
    | [Z,v2,v3],⟨g1,g2,g3,_⟩=>
     obtain⟨rfl,_⟩:=g1.vI;obtain⟨I,V,M,rfl,A⟩:=zOb e g2;obtain⟨J,W,N,rfl,C⟩:=zOb q g3;exact⟨_,_,_,_,_,_,rfl,A,C⟩
 ·cases h
theorem zXh:∀{q:List T}{az:List Ar}{z:List Value},zUf q=some az→zO B (rd w X) q z→zTt X w az z
 | [],az,[],h,_=>by simp[zUf]at h;subst h;trivial
 | t::q,az,v::z,h,e=>by
  simp only[zUf]at h;cases j:arT t with
  | none=>simp[j]at h
  | some a=>
   cases y:zUf q with
   | none=>simp[j,y]at h
   | some r=>
    simp only[j,y,za]at h;subst h;exact⟨qEq j e.1,zXh y e.2⟩
 | [],_,_::_,_,e=>e.elim
 | _::_,_,[],_,e=>e.elim
theorem qLw{z:Option Addr}{n c:Nat}{l:List Nat}(h:zN (rd w X) z n c l):Rep B (rd w X) (unL l) (.slice z n c):=by
 have e:=h.hlen;subst e;unfold unL;rcases h.hat with rfl | ⟨b,o,rfl,ha⟩
 ·exact .sl0 h.hbig
 ·have get:∀(j:Nat)(t:T),(l.map fun(x:Nat)=>T.v (.int .u32 (.ofNat x)))[j]?=some t→∃x,l[j]?=some x∧t= .v (.int .u32 (.ofNat x))∧l.getD j 0=x:=fun j t ht=>by
   rw[qt]at ht;cases q:l[j]? with
   | none=>rw[q]at ht;cases ht
   | some x=>rw[q]at ht;cases ht;exact⟨x,rfl,rfl,by simp[q]⟩
  refine .sl h.hcap (fun j=> .int .u32 (.ofNat (l.getD j 0))) (fun j t ht=>?_) (fun j t ht=>?_) h.hbig
  ·obtain⟨x,q,rfl,y⟩:=get j t ht;have:=ha j (.int .u32 (.ofNat x)) (by simp only[U32,qt,q];rfl)
   rw[jU]at this;rw[y];exact this
  ·obtain⟨x,q,rfl,y⟩:=get j t ht;rw[y];exact .v rfl
theorem qLv{a:Ar}{v:Value}(h:ArV X w a v):Rep B (rd w X) (unA a) v:=by
 cases a with
 | r a=>
  obtain⟨_,_,_,_,_,_,rfl,e,j⟩:=h;exact Rep.mkAg (vs:=[.bool a.neg,_,_]) ⟨.v rfl,qLw e,qLw j,trivial⟩
 | i n=>cases h;exact .v rfl
 | b b=>cases h;exact .v rfl
 | s s=>cases h;exact .v rfl
theorem qAl:∀{az:List Ar}{e:List Value},zTt X w az e→zO B (rd w X) (az.map unA) e
 | [],[],_=>trivial
 | _::_,_::_,h=>⟨qLv h.1,qAl h.2⟩
 | [],_::_,h=>h.elim
 | _::_,[],h=>h.elim
theorem jFe{y:Rs}{v:Value}(h:RsV X w y v):Rep B (rd w X) (unR y) v:=by
 cases y with
 | one a=>exact qLv h
 | tup l=>
  obtain⟨e,rfl,h⟩:=h;exact Rep.mkTu (qAl h)
end
def kcE(p:List Ar→Option Rs)(nw:Bool)(az:List T):Option (T×Bool):=match zUf az with
 | some az=>(match p az with
  | some y=>some (unR y,nw)
  | none=>none)
 | none=>none
theorem fG{P:Program}{f:Nat}{p:List Ar→Option Rs}{nw q:Bool}(I:KC P f p nw){az:List T}{tv:T}(h:kcE p nw az=some (tv,q))(k:Nat):KnP P k f az tv q:=by
 unfold kcE at h;cases z:zUf az with
 | none=>simp[z]at h
 | some j=>
  cases A:p j with
  | none=>simp[z,A]at h
  | some y=>
   simp only[z,A,za,qT]at h;obtain⟨rfl,rfl⟩:=h;intro B w X qQ R _ _ G C J;refine(I w X G j qQ (zXh z C) y A).mono ?_;rintro e w' ⟨M,v,rfl,hv⟩;exact J v w' M (jFe hv)
def elsO(r d:Option (T×Bool)):Option (T×Bool):=match r with
 | some x=>some x
 | none=>d
def xZ:List (Nat×(List T→Option (T×Bool)))→Po
 | [],_,_=>none
 | (g,p)::l,f,az=>bif Nat.beq g f then elsO (p (az.map (unN 12))) (xZ l f az)else xZ l f az
theorem zJb{P:Program}{l:List (Nat×(List T→Option (T×Bool)))}{g:Nat}{p:List T→Option (T×Bool)}(hp:∀az tv nw,p az=some (tv,nw)→∀k,KnP P k g az tv nw)(e:qR P (xZ l)):qR P (xZ ((g,p)::l)):=by
 intro f az tv nw h k;simp only[xZ]at h;cases hb:Nat.beq g f with
 | true=>
  obtain rfl:=zY hb;simp only[hb,ze]at h;unfold elsO at h;split at h
  ·rename_i r j;cases h;exact(hp _ tv nw j k).unN
  ·exact e _ az tv nw h k
 | false=>
  simp only[hb,zf]at h;exact e f az tv nw h k
theorem qLq{P:Program}:∀{l:List (Nat×(List T→Option (T×Bool)))},(∀g p,(g,p)∈l→∀az tv nw,p az=some (tv,nw)→∀k,KnP P k g az tv nw)→qR P (xZ l)
 | [],_=>fun f az tv nw h=>by simp[xZ]at h
 | (g,p)::l,e=>zJb (e g p zq) (qLq fun g p hm=>e g p (zu _ hm))
def eqT:Nat→T→T→Bool
 | 0,_,_=>false
 | k+1,a,b=>match a,b with
  | .v x,.v y=>eqV x y
  | .sl e n,.sl j m=>Nat.beq n m&&dF (eqT k) e j
  | .st e n,.st j m=>Nat.beq n m&&dF (eqT k) e j
  | .fp e,.fp j=>dF (eqT k) e j
  | .ag e,.ag j=>dF (eqT k) e j
  | .tu e,.tu j=>dF (eqT k) e j
  | .fn f e,.fn g j=>Nat.beq f g&&dF (eqT k) e j
  | _,_=>false
def zCh(az:List T)(r:T×Bool)(bs:List T):Option (T×Bool):=bif dF (eqT 12) az bs then some r else none
theorem aZ:∀(k:Nat)(a b:T),eqT k a b=true→a=b
 | 0,a,b,h=>by cases h
 | k+1,a,b,h=>by
  simp only[eqT]at h;split at h
  ·rw[qGj h]
  ·simp only[zd]at h;rw[zY h.1,xB (aZ k) h.2]
  ·simp only[zd]at h;rw[zY h.1,xB (aZ k) h.2]
  ·rw[xB (aZ k) h]
  ·rw[xB (aZ k) h]
  ·rw[xB (aZ k) h]
  ·simp only[zd]at h;rw[zY h.1,xB (aZ k) h.2]
  ·cases h
section
variable {P:Program}{f:Nat}{az bs:List T}{tv:T}{nw:Bool}
theorem zKx{B q:Bm}{r:Rd}:∀{az:List T}{j:List Value},az.all (clean 12)=true→zO B r az j→zO q r az j
 | [],[],_,_=>trivial
 | a::az,v::j,h,e=>by
  simp only[x3,zd]at h;exact⟨wK 12 h.1 e.1,zKx h.2 e.2⟩
 | [],_::_,_,e=>e.elim
 | _::_,[],_,e=>e.elim
theorem KnP.clean(h:KnP P 0 f az tv nw)(ha:az.all (clean 12)=true)(ht:clean 12 tv=true)(k:Nat):KnP P k f az tv nw:=by
 intro B w X qQ R e _ q j y;exact h ⟨fun _=>none,0⟩ w X qQ R e (fun _ _=>rfl) q (zKx ha j) fun v w' z hv=>y v w' z (wK 12 ht hv)
theorem jEh(h:KnP P 0 f az tv nw)(y:(az.all (Ev.clean 12)&&Ev.clean 12 tv)=true){j:T}{e:Bool}(q:zCh az (tv,nw) bs=some (j,e))(k:Nat):KnP P k f bs j e:=by
 unfold zCh at q;cases hb:dF (eqT 12) az bs with
 | false=>simp[hb]at q
 | true=>
  obtain rfl:=xB (aZ 12) hb;simp only[hb,ze,za,qT]at q;obtain⟨rfl,rfl⟩:=q;simp only[zd]at y;exact h.clean y.1 y.2 k
theorem jDa{O:Po}(hm:P.follows .mixedOrders=true)(A:qR P O)(z:List Nat){rn:Rn}(y:nD P rn):qR P (orF P O z rn):=by
 intro f az tv nw h k;unfold orF at h;cases ho:O f az with
 | some r=>simp only[ho,za]at h;subst h;exact A f az tv nw ho k
 | none=>
  simp only[ho]at h;cases j:jAf f z&&(az.map (unN 12)).all (Ev.clean 12)with
  | false=>rw[j]at h;cases h
  | true=>
   simp only[j,ze]at h;simp only[zd]at j;cases q:kN P rn 0 f (az.map (unN 12))with
   | none=>simp[q,zUl]at h
   | some r=>
    obtain⟨t,b⟩:=r;simp only[q,zUl]at h;cases e:Ev.clean 12 t with
    | false=>simp[e]at h
    | true=>
     simp only[e,ze,za,qT]at h;obtain⟨rfl,rfl⟩:=h;exact((zHd (dE hm y) q).clean j.2 e k).unN
theorem sZ{j:Oo}{O:Po}(hm:P.follows .mixedOrders=true)(z:qEc P j)(y:qR P O)(q:List Nat){n:Nat}(h:kN P (evC P j (orF P O q) n) 0 f az=some (tv,nw)):KnP P 0 f az tv nw:=
 qOe hm z (fun _ e=>jDa hm y q e) h
theorem qR.cons{l:List (Nat×(List T→Option (T×Bool)))}(j:qR P (xZ l))(h:KnP P 0 f az tv nw)(e:(az.all (Ev.clean 12)&&Ev.clean 12 tv)=true):qR P (xZ ((f,zCh az (tv,nw))::l)):=
 zJb (fun _ _ _ q k=>jEh h e q k) j
end
def pRR(g:Raw→Raw→Option (Raw×Int)):List Ar→Option Rs
 | [.r a,.r b]=>(match g a b with | some (c,e)=>some (.tup [.r c,.i e]) | none=>none)
 | _=>none
def pRI(g:Raw→Raw→Int×Int):List Ar→Option Rs
 | [.r a,.r b]=>some (.tup [.i (g a b).1,.i (g a b).2])
 | _=>none
def pR(g:Raw→Int):List Ar→Option Rs
 | [.r a]=>some (.one (.i (g a)))
 | _=>none
def pB(g:Raw→Raw→Bool):List Ar→Option Rs
 | [.r a,.r b]=>some (.one (.b (g a b)))
 | _=>none
def rO:Int→Bool
 | .ofNat n=>Nat.ble n 9223372036854775807
 | .negSucc n=>Nat.ble n 9223372036854775807
def nz:Int→Bool
 | .ofNat n=>!Nat.beq n 0
 | .negSucc _=>true
def pI(g:Int→Raw):List Ar→Option Rs
 | [.i n]=>bif rO n then some (.one (.r (g n)))else none
 | _=>none
def pII(g:Int→Int→Raw):List Ar→Option Rs
 | [.i n,.i m]=>bif(rO n&&rO m)&&nz m then some (.tup [.r (g n m),.i 0])else none
 | _=>none
theorem bQ{n:Int}(h:rO n=true): -9223372036854775808≤n∧n≤9223372036854775807:=by
 cases n with
 | ofNat n=>simp only[rO,qp]at h;exact⟨by rw[j6];omega,by rw[j6];omega⟩
 | negSucc n=>simp only[rO,qp]at h;rw[wz];omega
theorem jHb{n:Int}(h:nz n=true):n≠0:=by
 cases n with
 | ofNat n=>simp only[nz]at h;intro e;cases n with
  | zero=>simp at h
  | succ n=>cases e
 | negSucc n=>simp
section
variable {P:Program}{f:Nat}
theorem zYj{g:Raw→Raw→Option (Raw×Int)}(h:∀(w:World)(X:Hid)(_:∀b o,X b o→b<w.heap.size)(a:Raw)(j:Value)(_:rX X w j a)(b:Raw)(q:Value)(_:rX X w q b)(y:Raw×Int),g a b=some y→
  Calls P f #[j,q] w (Ret E0 w fun w' v=>∃u,v= .tuple #[u,.int .i64 y.2]∧rX (old w) w' u y.1)):KC P f (pRR g) true:=by
 intro w X C az J hv y hp;unfold pRR at hp;split at hp
 ·rename_i a b;match J,hv with
  | [j,q],⟨ha,hb,_⟩=>
   cases A:g a b with
   | none=>simp[A]at hp
   | some z=>
    obtain⟨c,e⟩:=z;simp only[A,za]at hp;subst hp;refine(h w X C a j ha b q hb (c,e) A).mono ?_;rintro M w' ⟨I,v,rfl,u,rfl,G⟩;exact⟨I,_,rfl,[u,.int .i64 e],rfl,G,rfl,trivial⟩
 ·cases hp
theorem jGo{g:Raw→Raw→Int×Int}(h:∀(w:World)(X:Hid)(_:∀b o,X b o→b<w.heap.size)(a:Raw)(e:Value)(_:rX X w e a)(b:Raw)(j:Value)(_:rX X w j b),
  Calls P f #[e,j] w (Ret E0 w fun _ v=>v= .tuple #[.int .i64 (g a b).1,.int .i64 (g a b).2])):KC P f (pRI g) true:=by
 intro w X q az A hv y hp;unfold pRI at hp;split at hp
 ·rename_i a b;match A,hv with
  | [e,j],⟨ha,hb,_⟩=>
   cases hp;refine(h w X q a e ha b j hb).mono ?_;rintro C w' ⟨z,v,rfl,rfl⟩;exact⟨z,_,rfl,[.int .i64 (g a b).1,.int .i64 (g a b).2],rfl,rfl,rfl,trivial⟩
 ·cases hp
theorem kc_r{g:Raw→Int}(h:∀(w:World)(X:Hid)(_:∀b o,X b o→b<w.heap.size)(a:Raw)(e:Value)(_:rX X w e a),Calls P f #[e] w (Ret E0 w fun _ v=>v= .int .i64 (g a))):KC P f (pR g) true:=by
 intro w X j az z hv y hp;unfold pR at hp;split at hp
 ·rename_i a;match z,hv with
  | [e],⟨ha,_⟩=>
   cases hp;refine(h w X j a e ha).mono ?_;rintro A w' ⟨q,v,rfl,rfl⟩;exact⟨q,_,rfl,rfl⟩
 ·cases hp
theorem kc_b{g:Raw→Raw→Bool}(h:∀(w:World)(X:Hid)(_:∀b o,X b o→b<w.heap.size)(a:Raw)(e:Value)(_:rX X w e a)(b:Raw)(j:Value)(_:rX X w j b),
  Calls P f #[e,j] w (Ret E0 w fun _ v=>v= .bool (g a b))):KC P f (pB g) true:=by
 intro w X q az A hv y hp;unfold pB at hp;split at hp
 ·rename_i a b;match A,hv with
  | [e,j],⟨ha,hb,_⟩=>
   cases hp;refine(h w X q a e ha b j hb).mono ?_;rintro C w' ⟨z,v,rfl,rfl⟩;exact⟨z,_,rfl,rfl⟩
 ·cases hp
theorem kc_i{g:Int→Raw}(h:∀(w:World)(n:Int),-9223372036854775808≤n→n≤9223372036854775807→Calls P f #[.int .i64 n] w (Ret E0 w fun w' v=>rX (old w) w' v (g n))):KC P f (pI g) true:=by
 intro w X G az A hv y hp;unfold pI at hp;split at hp
 ·rename_i n;match A,hv with
  | [z],⟨e,_⟩=>
   have e:z= .int .i64 n:=e;subst e;cases hb:rO n with
   | false=>simp[hb]at hp
   | true=>
    simp only[hb,ze,za]at hp;subst hp;refine(h w n (bQ hb).1 (bQ hb).2).mono ?_;rintro C w' ⟨q,v,rfl,j⟩;exact⟨q,_,rfl,j⟩
 ·cases hp
theorem qUi{g:Int→Int→Raw}(h:∀(w:World)(n m:Int),-9223372036854775808≤n→n≤9223372036854775807→ -9223372036854775808≤m→m≤9223372036854775807→m≠0→
  Calls P f #[.int .i64 n,.int .i64 m] w (Ret E0 w fun w' v=>∃u,v= .tuple #[u,.int .i64 0]∧rX (old w) w' u (g n m))):KC P f (pII g) true:=by
 intro w X J az G hv y hp;unfold pII at hp;split at hp
 ·rename_i n m;match G,hv with
  | [A,C],⟨e,j,_⟩=>
   have e:A= .int .i64 n:=e;have j:C= .int .i64 m:=j;subst e;subst j;cases hb:(rO n&&rO m)&&nz m with
   | false=>simp[hb]at hp
   | true=>
    simp only[hb,ze,za]at hp;subst hp;simp only[zd]at hb;refine(h w n m (bQ hb.1.1).1 (bQ hb.1.1).2 (bQ hb.1.2).1 (bQ hb.1.2).2 (jHb hb.2)).mono ?_;rintro I w' ⟨z,v,rfl,u,rfl,q⟩;exact⟨z,_,rfl,[u,.int .i64 0],rfl,q,rfl,trivial⟩
 ·cases hp
end
inductive DT (α:Type) where
  | ret (a:α)
  | no
  | ite (b:Bool) (x y:DT α)
def DT.run{α:Type}:DT α→Option α
 | .ret a=>some a
 | .no=>none
 | .ite b x y=>bif b then x.run else y.run
def DT.bind{α β:Type}:DT α→(α→DT β)→DT β
 | .ret a,f=>f a
 | .no,_=> .no
 | .ite b x y,f=> .ite b (x.bind f) (y.bind f)
def ofO{α:Type}:Option α→DT α
 | some a=> .ret a
 | none=> .no
def grd{α:Type}(b:Bool)(d:DT α):DT α:= .ite b d .no
theorem run_bind{α β:Type}(f:α→DT β):∀d:DT α,(d.bind f).run=d.run.bind fun a=>(f a).run
 | .ret _=>rfl
 | .no=>rfl
 | .ite b x y=>by
  simp only[DT.bind,DT.run,run_bind f x,run_bind f y];cases b<;>rfl
theorem zM{α β:Type}{f:α→DT β}{d:DT α}{y:β}(h:(d.bind f).run=some y):∃a,d.run=some a∧(f a).run=some y:=by
 rw[run_bind]at h;exact fj.1 h
theorem xY{α:Type}(x:Option α):(ofO x).run=x:=by cases x<;>rfl
theorem zT{α:Type}{b:Bool}{d:DT α}{y:α}(h:(grd b d).run=some y):b=true∧d.run=some y:=by
 cases b with
 | true=>exact⟨rfl,h⟩
 | false=>cases h
abbrev Od:=Nat→Option (List T→DT (T×Bool))
abbrev Rd':=Nat→List Bool→Code→S→DT (Ex×S)
abbrev Lo:=Nat→List Bool→S→Option (DT (Ex×S))
def nng:Int→Bool
 | .ofNat _=>true
 | .negSucc _=>false
def qQl:T→DT Nat
 | .v (.int _ a)=>grd (nng a) (.ret a.toNat)
 | _=> .no
def inW:Int→Bool
 | .ofNat n=>Nat.blt n 9223372036854775808
 | .negSucc n=>Nat.blt n 9223372036854775808
def arD(a:Int):DT Value:=grd (inW a) (.ret (.int .i64 a))
def wq(a:Int):Int:=bif inW a then a else wr .i64 a
def arW(a:Int):DT Value:= .ret (.int .i64 (wq a))
def jAn:IntKind→Bool
 | .i64=>true
 | _=>false
def arOp:BinOp→Bool
 | .add | .sub | .mul | .eql | .neq | .lss | .leq | .gtr | .geq=>true
 | _=>false
def qXc(f:Bool)(op:BinOp)(k:IntKind)(a b:Int):DT Value:=bif jAn k then(match op with
 | .add=>bif f then arW (Int.add a b)else arD (Int.add a b)
 | .sub=>arD (Int.sub a b)
 | .mul=>arD (Int.mul a b)
 | _=>ofO (qBe op k a b))else ofO (qBe op k a b)
def zEc(t:T):DT (T×Option TO):= .ret (t,none)
def qXb(f:Bool)(op:BinOp)(x y:T):Option (DT (T×Option TO)):=match x,y with
 | .v (.int k a),.v (.int e b)=>bif arOp op then some (bif Nat.beq (kind k) (kind e)then(qXc f op k a b).bind (fun v=>zEc (.v v))else .no)else none
 | _,_=>none
def qKo(c a b:T):DT (T×Option TO):=match c with
 | .v (.bool c)=> .ite c (zEc a) (zEc b)
 | _=> .no
def jAk(P:Program)(t:TypeId)(x i:T):DT (T×Option TO):=(qQl i).bind fun n=>match P.underlying t with
 | some (.slice e)=>(match ldT P e with
  | some (_,s)=>(match x with
   | .ls g A l=>bif Nat.beq s A.size then grd (Nat.blt n l.length) (zEc (.fp (zZ g A (nth A.zero l n))))else .no
   | .hv A l=>bif Nat.beq s A.size then grd (Nat.blt n l.length) (zEc (.fp (zCw A (nth A.zero l n))))else .no
   | .sl q m=>grd (Nat.blt n m) (zEc (.fp (jJ q (n*s))))
   | .st q m=>grd (Nat.blt n m) (zEc (.fp (jJ q (n*s))))
   | .os j o m _=>grd (Nat.blt n m) (zEc (.op j (o+n*s)))
   | .og j o m=>grd (Nat.blt n m) (zEc (.op j (o+n*s)))
   | _=> .no)
  | none=> .no)
 | _=>ofO (sU P t x (.v (.int .i64 (.ofNat n))))
def jCy(ρ:Operand→T)(d:Nat):Option Operand→DT Nat
 | some x=>qQl (ρ x)
 | none=> .ret d
def jEr(P:Program)(t:TypeId)(g:Tg)(A:Ty)(l:List A.den)(ρ:Operand→T)(q j:Option Operand):DT (T×Option TO):=match elT P t with
 | some e=>(match ldT P e with
  | some (_,s)=>bif Nat.beq s A.size then(jCy ρ 0 q).bind fun a=>(jCy ρ l.length j).bind fun b=>grd (Nat.ble a b) (grd (Nat.ble b l.length) (zEc (.ls g A ((l.drop a).take (b-a)))))else .no
  | none=> .no)
 | none=> .no
def qUh:Operand→Bool
 | .tmp _=>true
 | _=>false
def zIl(P:Program)(ρ:Operand→T)(op:Op):Option (DT (T×Option TO)):=match op with
 | .binOp op _ x y _=>qXb (qUh x&&qUh y) op (dn (ρ x)) (dn (ρ y))
 | .pick c a b=>some (qKo (ρ c) (ρ a) (ρ b))
 | .indexAddr t x i=>some (jAk P t (dn (ρ x)) (dn (ρ i)))
 | .slice t x j e none=>(match dn (ρ x)with
  | .ls g A l=>some (jEr P t g A l (fun y=>dn (ρ y)) j e)
  | _=>none)
 | _=>none
def qBb(P:Program)(e:TypeId)(s:Nat):Bool:=match zer P e with
 | some z=>Nat.beq (ln z) s&&Nat.blt 0 s
 | none=>false
def apN(P:Program)(e:TypeId):Nat:=match P.info? e with
 | some i=>apM i.bytes
 | none=>0
def qFi{α:Type}(c:Cs)(n s:Nat)(d:DT α):DT α:=match c with
 | .l e=>grd (Nat.beq (ln e) (n*s)) d
 | .d _ A x=>bif Nat.beq s A.size then grd (Nat.beq n x.length) d else .no
def apG(H:List TO)(e:TypeId)(s:Nat)(y:T)(b:List T)(i o n m:Nat):TO→DT (T×List TO)
 | .gro j q=>bif Nat.beq o 0&&Nat.beq e q then qFi j n s (.ret (.og (ln H) 0 (n+m),put .gone H i++[.gro (j.apY y b) e]))else .no
 | _=> .no
def ap1(H:List TO)(e:TypeId)(s:Nat)(y:T)(b:List T)(m:Nat):T→DT (T×List TO)
 | .og i o n=>apG H e s y b i o n m (nth .gone H i)
 | x=>(match qK H s x,jG x with
  | some a,some n=>ofO (qNe H e s y a b n m x)
  | _,_=> .no)
def apL(P:Program)(e:TypeId)(s:Nat)(x:T)(m:Nat)(d:DT (T×List TO)):DT (T×List TO):=match jG x with
 | some n=>bif qBb P e s then grd (Nat.ble (n+m) (apN P e)) d else .no
 | none=> .no
def zZa(y:T)(b:List T):Bool:=match y with
 | .ls .. =>true
 | _=>vV b
def qTp(H:List TO)(s:Nat)(x:T)(o n:Nat):TO→DT (T×List TO)
 | .gro e _=>bif Nat.beq o 0 then qFi e n s (.ret (x,H))else .no
 | _=> .no
def qEn(H:List TO)(s:Nat):T→DT (T×List TO)
 | .og i o n=>qTp H s (.og i o n) o n (nth .gone H i)
 | x=>(match qK H s x,jG x with
  | some _,some _=>ofO (qNc H x)
  | _,_=> .no)
def apD(P:Program)(H:List TO)(t:TypeId)(x y:T):DT (T×List TO):=match elT P t with
 | none=> .no
 | some e=>match ldT P e with
  | none=> .no
  | some (_,s)=>match qK H s y,jG y with
   | some b,some m=> .ite (Nat.beq m 0) (qEn H s x) (bif zZa y b then apL P e s x m (ap1 H e s y b m x)else .no)
   | _,_=> .no
def poR(OD:Od):Po:=fun f az=>match OD f with
 | some g=>(g az).run
 | none=>none
def zHo{α β:Type}(f:α→DT β):List α→DT (List β)
 | []=> .ret []
 | t::l=>(f t).bind fun x=>(zHo f l).bind fun r=> .ret (x::r)
def qGu(nw:Bool)(o n:Nat):TO→Option (DT T)
 | .gro (.d g A x) _=>some (bif Nat.beq o 0&&(fH A&&(!nw||g.isN))then grd (Nat.beq n x.length) (.ret (.ls .a A x.reverse))else .no)
 | _=>none
def aM(nw:Bool)(H:List TO):Nat→T→DT T
 | 0,_=> .no
 | k+1,t=>match t with
  | .ag e=>(zHo (aM nw H k) e).bind fun l=> .ret (.ag l)
  | .tu e=>(zHo (aM nw H k) e).bind fun l=> .ret (.tu l)
  | .fn f e=>(zHo (aM nw H k) e).bind fun l=> .ret (.fn f l)
  | .os i o n c=>bif Nat.ble n c&&Nat.ble c 9223372036854775807 then(match nC (nth .gone H i)with
   | some e=>(zHo (aM nw H k) (jJ e o)).bind fun l=> .ret (.sl l n)
   | none=> .no)else .no
  | .og i o n=>(match qGu nw o n (nth .gone H i)with
   | some d=>d
   | none=>(match nC (nth .gone H i)with
    | some e=>(zHo (aM nw H k) (jJ e o)).bind fun l=> .ret (.sl l n)
    | none=> .no))
  | .op i o=>(match nC (nth .gone H i)with
   | some e=>(zHo (aM nw H k) (jJ e o)).bind fun l=> .ret (.fp l)
   | none=> .no)
  | t=>ofO (yD nw H (k+1) t)
def zOl(H:List TO):Nat→T→Bool
 | 0,_=>false
 | k+1,t=>match t with
  | .v _=>true
  | .ls g _ _=>g.isN
  | .sl [] 0=>true
  | .st [] 0=>true
  | .sn e _=>e.all (zOl H k)
  | .ag e=>e.all (zOl H k)
  | .tu e=>e.all (zOl H k)
  | .fn _ e=>e.all (zOl H k)
  | .os i o _ _=>(match nC (nth .gone H i)with
   | some e=>(jJ e o).all (zOl H k)
   | none=>false)
  | .og i o _=>(match nth .gone H i with
   | .gro (.d g _ _) _=>g.isN
   | x=>(match nC x with
    | some e=>(jJ e o).all (zOl H k)
    | none=>false))
  | .op i o=>(match nC (nth .gone H i)with
   | some e=>(jJ e o).all (zOl H k)
   | none=>false)
  | _=>false
def qJ(r:T×List TO):DT (T×Bool):=(aM (zOl r.2 12 r.1) r.2 12 r.1).bind fun t=> .ret (t,zOl r.2 12 r.1)
def newD(H:List TO):T×Bool→DT (T×List TO)
 | (t,true)=> .ret (mkN 12 t,H)
 | (_,false)=> .no
def poD(g:List T→DT (T×Bool))(H:List TO)(az:List T):DT (T×List TO):=bif qCk az then(zHo (aM false H 12) az).bind fun az=>(g az).bind (newD H)
 else(g az).bind fun r=> .ret (bif r.2 then mkN 12 r.1 else r.1,H)
def jEa(P:Program)(fn:Func):Ex×S→DT (T×List TO)
 | (.x _,_)=> .no
 | (.p _,_)=> .no
 | (_,s)=>(match dU P s.L s.H fn.results.toList with
  | some r=> .ret (zSn r,s.H)
  | none=> .no)
def qF(P:Program)(rn:Rd')(f:Nat)(az:List T)(H:List TO):DT (T×List TO):=match P.funcs[f]? with
 | none=> .no
 | some fn=>match fn.body with
  | none=> .no
  | some c=>bif Nat.ble (ln az) fn.ntmps then(rn f [] c ⟨rest fn.ntmps az,H⟩).bind (jEa P fn)else .no
def wD(m:Nat):Nat→T→Bool
 | 0,_=>false
 | k+1,t=>match t with
  | .sl e _=>e.all (wD m k)
  | .sn e _=>e.all (wD m k)
  | .st e _=>e.all (wD m k)
  | .fp e=>e.all (wD m k)
  | .ag e=>e.all (wD m k)
  | .tu e=>e.all (wD m k)
  | .fn _ e=>e.all (wD m k)
  | .fb _ e=>e.all (wD m k)
  | .os i _ _ _=>Nat.blt i m
  | .og i _ _=>Nat.blt i m
  | .op i _=>Nat.blt i m
  | .om i=>Nat.blt i m
  | .yl i=>Nat.blt i m
  | _=>true
def gcO(m:Nat):TO→Bool
 | .row e _=>e.all (wD m 12)
 | .gro (.d _ _ _) _=>true
 | .gro (.l e) _=>e.all (wD m 12)
 | .gone=>true
 | _=>false
def gcD(H:List TO)(r:T×List TO):DT (T×List TO):=bif wD (ln H) 12 r.1&&(r.2.take (ln H)).all (gcO (ln H))then .ret (r.1,r.2.take (ln H))else .ret r
def qFa(P:Program)(OD:Od)(rn:Rd')(f:Nat)(az:List T)(H:List TO):DT (T×List TO):=match OD f with
 | some g=>poD g H az
 | none=>(qF P rn f az H).bind (gcD H)
def qXe(P:Program)(OD:Od)(rn:Rd')(az:List T)(H:List TO):T→DT (T×List TO)
 | .fn f e=>bif jX P f then qFa P OD rn f (az++e) H else .no
 | .fb f bs=>bif jX P f then qFa P OD rn f (bs++az) H else .no
 | _=> .no
def qZe(d:Option Nat)(L:List T)(r:T×List TO):DT S:= .ret ⟨dst d r.1 L,r.2⟩
def noC:Cl:=fun _ _ _=>none
def qTu(P:Program)(OD:Od)(rn:Rd')(o:Oper)(L:List T)(H:List TO)(c:Call):DT S:=match c.callee with
 | .value f=>(qXe P OD rn (c.args.toList.map (evO L)) H (evO L f)).bind (qZe o.dst L)
 | .builtin .append=>(match c.args.toList,c.argTypes.toList with
  | [x,y],[t,e]=>bif Nat.beq t e then(apD P H t (evO L x) (evO L y)).bind (qZe o.dst L)else .no
  | _,_=> .no)
 | _=>ofO (dN P noC noC o L H)
def qQu(P:Program)(OD:Od)(rn:Rd')(o:Oper)(L:List T)(H:List TO):DT S:=match zIl P (evO L) o.op with
 | some d=>d.bind fun r=>ofO (zQv o.dst L H r)
 | none=>match o.op with
  | .call c=>qTu P OD rn o L H c
  | _=>ofO (dN P noC noC o L H)
inductive Gd where
  | no
  | free
  | skip
  | on (t:Nat) (c b:Bool)
def gdT(ops:Array Oper)(L:List T)(o:Oper):Gd:=match o.guard with
 | none=> .free
 | some (j,b)=>match(match ops[j]? with | some p=>p.dst | none=>none)with
  | some t=>(match nth .u L t with
   | .v (.bool c)=> .on t c b
   | .tu []=> .skip
   | _=> .no)
  | none=> .no
def onS{α:Type}(L:List T)(t:Nat)(c b:Bool)(y n:List T→DT α):DT α:= .ite c (bif b then y (put (.v (.bool true)) L t)else n (put (.v (.bool true)) L t)) (bif b then n (put (.v (.bool false)) L t)else y (put (.v (.bool false)) L t))
def opD(P:Program)(OD:Od)(rn:Rd')(ops:Array Oper)(o:Oper)(s:S):DT S:=match gdT ops s.L o with
 | .no=> .no
 | .free=>qQu P OD rn o s.L s.H
 | .skip=> .ret ⟨dst o.dst (.tu []) s.L,s.H⟩
 | .on t c b=>onS s.L t c b (fun L=>qQu P OD rn o L s.H) (fun L=> .ret ⟨dst o.dst (.tu []) L,s.H⟩)
def qJo(P:Program)(OD:Od)(rn:Rd')(ops:Array Oper):List Oper→S→DT S
 | [],s=> .ret s
 | o::l,s=>(opD P OD rn ops o s).bind (qJo P OD rn ops l)
def frsD(P:Program)(rn:Rd')(k f:Nat)(az:List T):DT (T×Bool):=(qF P rn f (az.map (unN 12)) (fE k)).bind qJ
def puD(P:Program)(OD:Od)(rn:Rd')(k f:Nat)(az:List T):DT (T×Bool):=match OD f with
 | some g=>g az
 | none=>frsD P rn k f az
def newH:T×Bool→DT (T×Option TO)
 | (t,true)=>zEc (mkN 12 t)
 | (_,false)=> .no
def jDo(P:Program)(OD:Od)(rn:Rd')(k:Nat)(H:List TO)(f:Nat)(az:List T):DT (T×Option TO):=bif qCk az then(zHo (aM false H 12) az).bind fun az=>(puD P OD rn k f az).bind newH
 else(puD P OD rn k f az).bind fun r=>zEc (bif r.2 then mkN 12 r.1 else r.1)
def abG(q:List TO)(e:TypeId)(s:Nat)(y:T)(b:List T)(o n m:Nat):TO→DT (T×Option TO)
 | .gro j z=>bif Nat.beq o 0&&Nat.beq e z then qFi j n s (.ret (.og (ln q) 0 (n+m),some (.gro (j.apY y b) e)))else .no
 | _=> .no
def abX(P:Program)(j q:List TO)(e:TypeId)(s:Nat)(t:TypeId)(x y:T)(b:List T)(m:Nat):T→DT (T×Option TO)
 | .og i o n=>abG q e s y b o n m (nth .gone j i)
 | _=>ofO (qBc P j q none t x y)
def abD(P:Program)(q j:List TO)(t:TypeId)(x y:T):DT (T×Option TO):=match elT P t with
 | none=> .no
 | some e=>match ldT P e with
  | none=> .no
  | some (_,s)=>match qK j s y,jG y,jG x with
   | some b,some m,some n=>bif vV b&&qBb P e s then grd (!Nat.beq m 0) (grd (Nat.ble (n+m) (apN P e)) (abX P q j e s t x y b m x))else .no
   | _,_,_=> .no
def hcaD(P:Program)(OD:Od)(rn:Rd')(k:Nat)(j H e:List TO)(L:List T)(o:Oper)(c:Call):DT (T×Option TO):=match c.callee with
 | .value f=>(match evO L f with
  | .fn f q=>bif jX P f then jDo P OD rn k e f (c.args.toList.map (evO L)++q)else .no
  | _=> .no)
 | .builtin .append=>(match c.args.toList,c.argTypes.toList with
  | [x,y],[t,z]=>bif Nat.beq t z then abD P j e t (evO L x) (evO L y)else .no
  | _,_=> .no)
 | _=>ofO (mX P (fun _ _=>none) j H e L o)
def qHg(P:Program)(OD:Od)(rn:Rd')(k:Nat)(e H j:List TO)(L:List T)(o:Oper):DT (T×Option TO):=match zIl P (evO L) o.op with
 | some d=>d
 | none=>match o.op with
  | .call c=>hcaD P OD rn k e H j L o c
  | _=>ofO (mX P (fun _ _=>none) e H j L o)
def zVg(g:List TO→List T→DT (List (T×Option TO)))(o:Oper)(e:List TO)(L:List T)(z:T×Option TO):DT (List (T×Option TO)):=(g (nxH e z.2) (dst o.dst z.1 L)).bind fun j=> .ret (z::j)
def zJt(P:Program)(OD:Od)(rn:Rd')(k:Nat)(e H:List TO)(ops:Array Oper):List Oper→List TO→List T→DT (List (T×Option TO))
 | [],_,_=> .ret []
 | o::l,j,L=>match gdT ops L o with
  | .no=> .no
  | .free=>(qHg P OD rn k e H j L o).bind (zVg (zJt P OD rn k e H ops l) o j L)
  | .skip=>zVg (zJt P OD rn k e H ops l) o j L (.tu [],none)
  | .on t c b=>onS L t c b (fun L=>(qHg P OD rn k e H j L o).bind (zVg (zJt P OD rn k e H ops l) o j L)) (fun L=>zVg (zJt P OD rn k e H ops l) o j L (.tu [],none))
def noHd(OD:Od)(L:List T)(o:Oper):Bool:=match o.op with
 | .store .. | .mapUpdate .. =>true
 | .call c=>(match c.callee with
  | .builtin .copy=>true
  | _=>false)
 | _=>false
def hdN(OD:Od)(ops:Array Oper)(L:List T):List Oper→List Nat→Nat→Nat
 | [],_,i=>i
 | o::l,seen,i=>bif zPf o seen||(noHd OD L o||(qUg o&&tlK ops i))then i else hdN OD ops L l (zTg o seen) (i+1)
def mvL(L:List T)(o:Oper):List T:=match o.op with
 | .move x=>dst o.dst (evO L x) L
 | .assign x=>dst o.dst (evO L x) L
 | _=>dst o.dst .u L
def ksS(L:List T):List Oper→List (Option Nat)
 | []=>[]
 | o::l=>nE L o.op::ksS (mvL L o) l
def qLr(P:Program)(OD:Od)(rn:Rd')(ops:Array Oper)(e:List Nat):List Oper→S→DT S
 | [],s=> .ret s
 | o::l,s=>(opD P OD rn ops o s).bind fun s=>bif emp e then qLr P OD rn ops e l s else grd (nQ P ops s e) (qLr P OD rn ops e l s)
def drT(P:Program)(OD:Od)(rn:Rd')(ops:Array Oper)(m:Nat)(j:List TO)(s:S)(e:List (T×Option TO)):DT S:=
 bif Nat.ble m ops.size&&(qGa ops m&&zNy j (ksE ops.toList e s.L))then(bif emp (zAf ops m)then qLr P OD rn ops [] (ops.toList.drop m) ⟨kP ops.toList e s.L,vB (ksE ops.toList e s.L) s.H++qM e⟩
  else grd (nQ P ops ⟨kP ops.toList e s.L,vB (ksE ops.toList e s.L) s.H++qM e⟩ (zAf ops m)) (qLr P OD rn ops (zAf ops m) (ops.toList.drop m) ⟨kP ops.toList e s.L,vB (ksE ops.toList e s.L) s.H++qM e⟩))else .no
def drH(P:Program)(OD:Od)(rn:Rd')(ops:Array Oper)(m:Nat)(e:List TO)(s:S):DT S:=
 (zJt P OD rn (ln s.H+ops.size) s.H e ops (ops.toList.take m) e s.L).bind (drT P OD rn ops m e s)
def drD(P:Program)(OD:Od)(rn:Rd')(ops:Array Oper)(s:S):DT S:=
 drH P OD rn ops (hdN OD ops s.L ops.toList [] 0) (vB (ksS s.L (ops.toList.take (hdN OD ops s.L ops.toList [] 0))) s.H) s
def seqD(rn:S→DT (Ex×S)):Ex×S→DT (Ex×S)
 | (.n,s)=>rn s
 | r=> .ret r
def blkD(id:Nat):Ex×S→DT (Ex×S)
 | (.x j,s)=> .ret (bif Nat.beq j id then .n else .x j,s)
 | r=> .ret r
def qNq(x y:S→DT (Ex×S))(s:S):Operand→DT (Ex×S)
 | .tmp t=>(match nth .u s.L t with
  | .v (.bool b)=> .ite b (x ⟨put (.v (.bool true)) s.L t,s.H⟩) (y ⟨put (.v (.bool false)) s.L t,s.H⟩)
  | _=> .no)
 | c=>(match evO s.L c with
  | .v (.bool b)=> .ite b (x s) (y s)
  | _=> .no)
def qPz(r:S→DT (Ex×S)):Nat→S→DT (Ex×S)
 | 0,_=> .no
 | n+1,s=>(r s).bind (seqD (qPz r n))
def norD(s:S):DT (Ex×S):= .ret (.n,s)
def qCx(P:Program)(OD:Od)(LO:Lo)(rn:Rd')(f:Nat)(p:List Bool)(c:Code)(s:S):DT (Ex×S):=match c with
 | .skip=> .ret (.n,s)
 | .label _=> .ret (.n,s)
 | .seq x y=>(rn f (false::p) x s).bind (seqD (rn f (true::p) y))
 | .cond c x y=>qNq (rn f (false::p) x) (rn f (true::p) y) s c
 | .block id x=>(rn f (false::p) x s).bind (blkD id)
 | .exit id=> .ret (.x id,s)
 | .ret=> .ret (.r,s)
 | .scope x=>rn f (false::p) x s
 | .loop x=>(match LO f p s with
  | some d=>d
  | none=>qPz (rn f (false::p) x) 5000 s)
 | .region _ ops false=>bif dM ops then(qJo P OD rn ops ops.toList s).bind norD else .no
 | .region _ ops true=>bif dM ops then(drD P OD rn ops s).bind norD else .no
 | _=> .no
def evD(P:Program)(OD:Od)(LO:Lo):Nat→Rd'
 | 0=>fun _ _ _ _=> .no
 | k+1=>qCx P OD LO (evD P OD LO k)
def zDj:T→Bool
 | .v _=>true
 | .ls _ _ _=>true
 | _=>false
def zEt:T→Option T
 | .v x=>some (.v x)
 | .ls g A l=>some (.ls g A l)
 | .hv A l=>some (.hv A l)
 | .ag e=>bif e.all zDj then some (.ag e)else none
 | _=>none
section
variable {P:Program}{E:Nat→Prop}{w0:World}{X:Hid}{F:List Nat}{H H':List TO}{B B':Bm}{w:World}{Y:Hid}{Mo:List (Nat×Obj)}{r:Rd}{m:Nat}
theorem Rep.low(A:∀i,i<m→B' i=B i)(C:B'.N=B.N):∀(k:Nat){t:T}{v:Value},wD m k t=true→Rep B r t v→Rep B' r t v
 | 0,_,_,h,_=>by cases h
 | k+1,t,y,h,Z=>by
  have z:∀{M:List T},M.all (wD m k)=true→∀(j:Nat)(t:T),M[j]?=some t→wD m k t=true:=fun h j t e=>qa.1 h t (qg e);have I:∀{i:Nat},Nat.blt i m=true→i<m:=fun h=>by rwa[qv]at h
  cases Z with
  | u=>exact .u
  | v hs=>exact .v hs
  | sl J f q g hm=>simp only[wD]at h;exact .sl J f q (fun j t e=>Rep.low A C k (z h j t e) (g j t e)) hm
  | sl0 hm=>exact .sl0 hm
  | sn J f q g hm hb=>simp only[wD]at h;exact .sn J f q (fun j t e=>Rep.low A C k (z h j t e) (g j t e)) hm (fun j t e=>C▸hb j t e)
  | sn0 hm=>exact .sn0 hm
  | st f q g=>simp only[wD]at h;exact .st f q fun j t e=>Rep.low A C k (z h j t e) (g j t e)
  | st0=>exact .st0
  | fp f q g=>simp only[wD]at h;exact .fp f q fun j t e=>Rep.low A C k (z h j t e) (g j t e)
  | ag f G q g=>simp only[wD]at h;exact .ag f G q fun j t e=>Rep.low A C k (z h j t e) (g j t e)
  | tu f G q g=>simp only[wD]at h;exact .tu f G q fun j t e=>Rep.low A C k (z h j t e) (g j t e)
  | fn f G q g=>simp only[wD]at h;exact .fn f G q fun j t e=>Rep.low A C k (z h j t e) (g j t e)
  | fb f G q g=>simp only[wD]at h;exact .fb f G q fun j t e=>Rep.low A C k (z h j t e) (g j t e)
  | os q=>exact .os (by rw[A _ (I h)];exact q)
  | og q U V W=>exact .og (by rw[A _ (I h)];exact q) U V W
  | op q=>exact .op (by rw[A _ (I h)];exact q)
  | om q=>exact .om (by rw[A _ (I h)];exact q)
  | yl q=>exact .yl (by rw[A _ (I h)];exact q)
  | ls q=>exact .ls (jE.mono (Le.refl _) (fun b k=>k.eqN C.symm) _ _ _ q)
  | hv q=>exact .hv (mO.mono (Le.refl _) (fun b k=>k.eqN C.symm) _ _ _ q)
theorem zAd{t:T}(h:zDj t=true)(q:B'.N=B.N){v:Value}(e:Rep B r t v):Rep B' r t v:=by
 unfold zDj at h;split at h
 ·obtain⟨rfl,y⟩:=e.vI;exact .v y
 ·cases e with
  | ls j=>exact .ls (jE.mono (Le.refl _) (fun b k=>k.eqN q.symm) _ _ _ j)
 ·cases h
theorem zEv(y:B'.N=B.N):∀{j:List T}{q:List Value},j.all zDj=true→zO B r j q→zO B' r j q
 | [],[],_,_=>trivial
 | t::j,v::q,h,e=>by
  simp only[x3,zd]at h;exact⟨zAd h.1 y e.1,zEv y h.2 e.2⟩
 | [],_::_,_,e=>e.elim
 | _::_,[],_,e=>e.elim
theorem zQs{t j:T}(h:zEt t=some j):j=t:=by
 unfold zEt at h;split at h
 ·cases h;rfl
 ·cases h;rfl
 ·cases h;rfl
 ·rename_i q;cases e:q.all zDj with
  | false=>rw[e]at h;cases h
  | true=>rw[e]at h;cases h;rfl
 ·cases h
theorem zKy{t z:T}(h:zEt t=some z)(e:B'.N=B.N){v:Value}(j:Rep B r t v):Rep B' r z v:=by
 obtain rfl:=zQs h;unfold zEt at h;split at h
 ·exact zAd rfl e j
 ·exact zAd rfl e j
 ·cases j with
  | hv C=>exact .hv (mO.mono (Le.refl _) (fun b k=>k.eqN e.symm) _ _ _ C)
 ·rename_i A;cases y:A.all zDj with
  | false=>rw[y]at h;cases h
  | true=>
   obtain⟨G,rfl,q⟩:=j.agI;exact Rep.mkAg (zEv e y q)
 ·cases h
theorem Wd.re(h:Wd P E w0 X F H B w Y Mo)(q:Nat→Option Nat)(hN:B'.N=B.N)(hn:∀i,H'.length≤i→B' i=none)
  (Z:∀(i:Nat)(o:TO),H'[i]?=some o→vU o=true→∃j y,q i=some j∧B' i=B j∧H[j]?=some y∧vU y=true∧∀C ob,RO P B (rd w Y) C y ob→RO P B' (rd w Y) C o ob)
  (hf:∀(i:Nat)(A:List T),H'[i]?≠some (.fz A)) (hi:∀(i j k:Nat)(y o2:TO),H'[i]?=some y→vU y=true→H'[j]?=some o2→vU o2=true→q i=some k→q j=some k→i=j):Wd P E w0 X F H' B' w Y Mo:=
 ⟨h.st,fun i o ho hl=>by
  obtain⟨j,y,_,I,M,V,e5⟩:=Z i o ho hl;obtain⟨b,C,ob,g1,g2,g3⟩:=h.ob j y M V;exact⟨b,C,ob,by rw[I];exact g1,g2,e5 C ob g3⟩,fun i A hc=>absurd hc (hf i A),hn,fun i j oi oj p p' h1 l1 h2 l2 hp z e=>by
  obtain⟨a,y,e1,I,M,V,_⟩:=Z i oi h1 l1;obtain⟨a',o1',G,J,U,W,_⟩:=Z j oj h2 l2;rw[I]at hp;rw[J]at z;have:=h.inj a a' y o1' p p' M V U W hp z e;subst this;exact hi i j a oi oj h1 l1 h2 l2 e1 G,by rw[hN];exact h.bN,h.iv⟩
theorem bM{g:Tg}{A:Ty}(y:B'.N=B.N):∀{j:List T}{q:List Value},(∀t∈j,∃z,zEt t=some z)→zO B r j q→zO B' r j q
 | [],[],_,_=>trivial
 | t::j,v::q,h,e=>by
  obtain⟨z,ht⟩:=h t zq;obtain rfl:=zQs ht;exact⟨zKy ht y e.1,bM (g:=g) (A:=A) y (fun t ht=>h t (zu _ ht)) e.2⟩
 | [],_::_,_,e=>e.elim
 | _::_,[],_,e=>e.elim
theorem nH(g:Tg):∀(A:Ty)(x:A.den),∀t∈zZ g A x,∃e,zEt t=some e
 | .lim,_,t,h=>by simp only[zZ,x8]at h;subst h;exact⟨_,rfl⟩
 | .int _,_,t,h=>by simp only[zZ,x8]at h;subst h;exact⟨_,rfl⟩
 | .bool,_,t,h=>by simp only[zZ,x8]at h;subst h;exact⟨_,rfl⟩
 | .str,_,t,h=>by simp only[zZ,x8]at h;subst h;exact⟨_,rfl⟩
 | .list _,_,t,h=>by simp only[zZ,x8]at h;subst h;exact⟨_,rfl⟩
 | .prod A C,x,t,h=>by
  rcases wi.1 h with h | h
  ·exact nH g A _ t h
  ·exact nH g C _ t h
theorem zAa(g:Tg)(A:Ty):∀(l:List A.den),∀t∈qP g A l,∃e,zEt t=some e
 | [],t,h=>by cases h
 | x::l,t,h=>by
  rcases wi.1 h with h | h
  ·exact zAa g A l t h
  ·exact nH g A x t h
theorem zO.low(y:∀i,i<m→B' i=B i)(z:B'.N=B.N):∀{j:List T}{q:List Value},j.all (wD m 12)=true→zO B r j q→zO B' r j q
 | [],[],_,_=>trivial
 | t::j,v::q,h,e=>by
  simp only[x3,zd]at h;exact⟨Rep.low y z 12 h.1 e.1,zO.low y z h.2 e.2⟩
 | [],_::_,_,e=>e.elim
 | _::_,[],_,e=>e.elim
theorem qZo(G:∀i,i<m→B' i=B i)(q:B'.N=B.N){C:Nat}{o:TO}{U:Obj}(h:gcO m o=true)(y:RO P B r C o U):RO P B' r C o U:=by
 cases y with
 | row j=>exact .row (zO.low G q h j)
 | @gro z e c V J M I j=>
  cases z with
  | l z=>exact .gro J M I (zO.low (m:=m) G q h j)
  | d g A x=>exact .gro J M I (bM (g:=g) (A:=A) q (zAa g A x) j)
 | map=>cases h
 | mapd=>cases h
 | loop=>cases h
theorem Kn.gc{f:Nat}{az:List T}{tv:T}{H':List TO}(h:Kn P f az H tv H')(ht:wD H.length 12 tv=true)(ho:(H'.take H.length).all (gcO H.length)=true):Kn P f az H tv (H'.take H.length):=by
 intro E w0 X F B w Y Mo qQ R J hR hk;refine h E w0 X F B w Y Mo qQ R J hR fun v w' B' Y' G M k2 U k4=>?_;let A:Bm:=⟨fun i=>if i<H.length then B' i else none,B'.N⟩
 have z:∀i,i<H.length→A i=B' i:=fun i q=>qj q;have y:∀(i:Nat)(o:TO),(H'.take H.length)[i]?=some o→gcO H.length o=true∧i<H.length∧H'[i]?=some o:=fun i o e=>by
  refine⟨qa.1 ho o (qg e),?_⟩;rw[qh]at e;split at e
  ·rename_i q;exact⟨q,e⟩
  ·cases e
 refine hk v w' A Y' G (M.re (H':=H'.take H.length) (B':=A) (fun i=>some i) rfl (fun i q=>?_) (fun i o e hl=>?_) (fun i cs e=>?_) (fun i j k p1 p2 g1 l1 g2 l2 W Z=>by cases W;cases Z;rfl)) (Rep.low z rfl 12 ht k2) ⟨fun i p e=>?_,U.n⟩ k4
 ·show(if i<H.length then B' i else none)=none
  rw[jl]at q;split
  ·rename_i h1;exact M.nn i (by omega)
  ·rfl
 ·obtain⟨g,q,V⟩:=y i o e;exact⟨i,o,rfl,z i q,V,hl,fun C ob I=>qZo z rfl g I⟩
 ·obtain⟨g,_,_⟩:=y i _ e;cases g
 ·have q:i<H.length:=by
   rcases qi i H.length with h | h
   ·exact h
   ·rw[J.nn i h]at e;cases e
  rw[z i q];exact U i p e
end
def aQ:Bool→Code→Option Code
 | false,.seq x _=>some x
 | true,.seq _ y=>some y
 | false,.cond _ x _=>some x
 | true,.cond _ _ y=>some y
 | false,.block _ x=>some x
 | false,.scope x=>some x
 | false,.loop x=>some x
 | _,_=>none
def cAt(P:Program)(f:Nat):List Bool→Option Code
 | []=>(P.funcs[f]?).bind fun fn=>fn.body
 | b::p=>(cAt P f p).bind (aQ b)
def Tr(P:Program)(c:Code)(s:S)(e:Ex)(s':S):Prop:=
 ∀(E:Nat→Prop)(w0:World)(X:Hid)(F:List Nat)(n:Nat)(a:Act)(D:List Deferred)(B:Bm)(w:World)(Y:Hid)(Mo:List (Nat×Obj))(rr:Option Nat)(Q:Exit→Act→World→Prop),
  (rr=none∨noR c=true)→Wd P E w0 X F s.H B w Y Mo→FrT n a s.L D B (rd w Y)→fP P E w0 X F n D (noR c) e s' B (rd w Y) Q→c.wpIn (FF rr) 0 P Q a w
def vJ(P:Program)(LO:Lo):Prop:=∀f p s d,LO f p s=some d→∀x,cAt P f p=some (.loop x)→∀e s',d.run=some (e,s')→Tr P (.loop x) s e s'
def wC(P:Program)(OD:Od):Prop:=∀f g,OD f=some g→∀az tv nw,(g az).run=some (tv,nw)→∀k,KnP P k f az tv nw
def mM(P:Program)(rn:Rd'):Prop:=∀f p c s e s',cAt P f p=some c→(rn f p c s).run=some (e,s')→Tr P c s e s'
section
variable {P:Program}{OD:Od}{LO:Lo}{rn:Rd'}{H H':List TO}{L:List T}{ops:Array Oper}{o:Oper}{s s':S}
theorem wC.po(h:wC P OD):qR P (poR OD):=by
 intro f az tv nw e;unfold poR at e;cases j:OD f with
 | none=>simp[j]at e
 | some g=>rw[j]at e;exact h f g j az tv nw e
theorem qIp{t:T}{n:Nat}(h:(qQl t).run=some n):rZ t=some n:=by
 unfold qQl at h;split at h
 ·rename_i a;obtain⟨e,j⟩:=zT h;cases a with
  | ofNat m=>cases j;rfl
  | negSucc m=>cases e
 ·cases h
theorem zRi{a:Int}(h:inW a=true):i64.wrap a=a:=by
 have j: -9223372036854775808≤a∧a<9223372036854775808:=by
  cases a with
  | ofNat n=>simp only[inW,qv]at h;simp only[j6];omega
  | negSucc n=>simp only[inW,qv]at h;omega
 have e:i64.wrap a=if a % 18446744073709551616≥9223372036854775808 then a % 18446744073709551616-18446744073709551616 else a % 18446744073709551616:=by
  unfold IntKind.wrap;simp[IntKind.bits,IntKind.signed]
 rw[e];split<;>omega
theorem zUe{a:Int}{v:Value}(h:(arD a).run=some v):v= .int .i64 (wr .i64 a):=by
 obtain⟨e,j⟩:=zT h;cases j;rw[qMe,zRi e]
theorem qWs{a:Int}{v:Value}(h:(arW a).run=some v):v= .int .i64 (wr .i64 a):=by
 cases h;unfold wq;cases e:inW a with
 | true=>rw[ze,qMe,zRi e]
 | false=>rfl
theorem qPg{k:IntKind}(h:jAn k=true):k= .i64:=by cases k<;>first | rfl | cases h
theorem qNj{f:Bool}{op:BinOp}{k:IntKind}{a b:Int}{v:Value}(h:(qXc f op k a b).run=some v):qBe op k a b=some v:=by
 unfold qXc at h;cases e:jAn k with
 | false=>rw[e,zf,xY]at h;exact h
 | true=>
  rw[e,ze]at h;obtain rfl:=qPg e;split at h
  ·cases f with
   | true=>rw[qWs h];rfl
   | false=>rw[zUe h];rfl
  ·rw[zUe h];rfl
  ·rw[zUe h];rfl
  ·rw[xY]at h;exact h
theorem sD{t:T}{z:T×Option TO}(h:(zEc t).run=some z):val t=some z:=by cases h;rfl
theorem qNh{f:Bool}{op:BinOp}{x y:T}{d:DT (T×Option TO)}{z:T×Option TO}(h:qXb f op x y=some d)(j:d.run=some z)(t:TypeId):qCm P op t x y=some z:=by
 unfold qXb at h;split at h
 ·rename_i k a C b;cases ha:arOp op with
  | false=>simp[ha]at h
  | true=>
   simp only[ha,ze,za]at h;subst h;cases e:Nat.beq (kind k) (kind C)with
   | false=>simp[e,DT.run]at j
   | true=>
    simp only[e,ze]at j;obtain⟨v,q,A⟩:=zM j;simp only[qCm,bin,e,ze,qNj q];exact sD A
 ·cases h
theorem qRm{c a b:T}{z:T×Option TO}(h:(qKo c a b).run=some z):zMe c a b=some z:=by
 unfold qKo at h;unfold zMe;split at h
 ·rename_i c;cases c with
  | true=>exact sD h
  | false=>exact sD h
 ·cases h
theorem jAl{t:TypeId}{x i:T}{z:T×Option TO}(h:(jAk P t x i).run=some z):sU P t x i=some z:=by
 unfold jAk at h;obtain⟨n,C,j⟩:=zM h;have C:=qIp C;unfold sU;simp only[C];split at j
 ·rename_i e he;simp only[he];cases G:ldT P e with
  | none=>simp[G,DT.run]at j
  | some I=>
   obtain⟨g,s⟩:=I;simp only[G]at j ⊢;split at j
   ·rename_i J A l;cases hb:Nat.beq s A.size with
    | false=>simp[hb,DT.run]at j
    | true=>
     simp only[hb,ze]at j;obtain⟨q,y⟩:=zT j;simp only[hb,q,q9,ze];exact sD y
   ·rename_i A l;cases hb:Nat.beq s A.size with
    | false=>simp[hb,DT.run]at j
    | true=>
     simp only[hb,ze]at j;obtain⟨q,y⟩:=zT j;simp only[hb,q,q9,ze];exact sD y
   ·obtain⟨q,y⟩:=zT j;simp only[q,ze];exact sD y
   ·obtain⟨q,y⟩:=zT j;simp only[q,ze];exact sD y
   ·obtain⟨q,y⟩:=zT j;simp only[q,ze];exact sD y
   ·obtain⟨q,y⟩:=zT j;simp only[q,ze];exact sD y
   ·cases j
 ·rw[xY]at j;unfold sU at j;simp only[rZ]at j;exact j
theorem qJr{ρ:Operand→T}{d n:Nat}{x:Option Operand}(h:(jCy ρ d x).run=some n):opt ρ d x=some n:=by
 cases x with
 | none=>cases h;rfl
 | some x=>exact qIp h
theorem jEs{t:TypeId}{g:Tg}{A:Ty}{l:List A.den}{ρ:Operand→T}{C j:Option Operand}{z:T×Option TO}(h:(jEr P t g A l ρ C j).run=some z):nZ P t (.ls g A l) ρ C j none=some z:=by
 unfold jEr at h;unfold nZ;cases he:elT P t with
 | none=>simp[he,DT.run]at h
 | some e=>
  simp only[he]at h ⊢;cases y:ldT P e with
  | none=>simp[y,DT.run]at h
  | some G=>
   obtain⟨q,s⟩:=G;simp only[y]at h ⊢;cases hb:Nat.beq s A.size with
   | false=>simp[hb,DT.run]at h
   | true=>
    simp only[hb,ze]at h;obtain⟨a,I,h⟩:=zM h;obtain⟨b,J,h⟩:=zM h;obtain⟨M,h⟩:=zT h;obtain⟨N,h⟩:=zT h;simp only[jG,qJr I,qJr J,tY,mH,hb,M,N,q9,ze,qDa];exact sD h
theorem zSp{ρ:Operand→T}{op:Op}{d:DT (T×Option TO)}{z:T×Option TO}(h:zIl P ρ op=some d)(j:d.run=some z)(H:List TO)(k:Nat):xD P H k ρ op=some z:=by
 unfold zIl at h;split at h
 ·exact qNh h j _
 ·cases h;exact qRm j
 ·cases h;exact jAl j
 ·rename_i t x C q;split at h
  ·rename_i g A l e;cases h;show nZ P t (dn (ρ x)) (fun y=>dn (ρ y)) C q none=some z;rw[e];exact jEs j
  ·cases h
 ·cases h
theorem qKq{ρ:Operand→T}{op:Op}{d:DT (T×Option TO)}(h:zIl P ρ op=some d):∀c,op≠.call c:=by
 intro c e;subst e;cases h
theorem zMy{e:TypeId}{s N:Nat}(h:qBb P e s=true)(q:Nat.ble N (apN P e)=true):zAw P e s N=true:=by
 unfold qBb at h;unfold zAw;unfold apN at q;cases y:P.info? e with
 | none=>
  cases j:zer P e with
  | none=>simp[j]at h
  | some z=>obtain⟨i,v,A,_⟩:=lW j;rw[y]at A;cases A
 | some i=>
  cases j:zer P e with
  | none=>simp[j]at h
  | some z=>
   simp only[y,j,zd]at h q ⊢;exact⟨h.1,q,h.2⟩
theorem zNf{α:Type}{c:Cs}{n s:Nat}{d:DT α}{y:α}(h:(qFi c n s d).run=some y):Nat.beq (ln c.list) (n*s)=true∧d.run=some y:=by
 unfold qFi at h;split at h
 ·exact zT h
 ·rename_i g A x;cases j:Nat.beq s A.size with
  | false=>simp[j,DT.run]at h
  | true=>
   rw[j,ze]at h;obtain⟨e,q⟩:=zT h;obtain rfl:=zY j;have e:=zY e;refine⟨?_,q⟩;show Nat.beq (ln (qP g A x)) (n*A.size)=true;rw[qV,wB,e];exact cP _
theorem zSa{i o n s:Nat}{e:Cs}{q:TypeId}(h:nth .gone H i= .gro e q)(ho:Nat.beq o 0=true)(j:Nat.beq (ln e.list) (n*s)=true):qK H s (.og i o n)=some e.list:=by
 obtain rfl:=zY ho;have j:=zY j;rw[qV]at j;simp only[qK,h,lI];rw[nM,xt,←j];exact cB e.list
theorem zAi(g:Tg):∀(A:Ty)(x:A.den),vV (zZ g A x)=true
 | .lim,_=>rfl
 | .int _,_=>rfl
 | .bool,_=>rfl
 | .str,_=>rfl
 | .list _,_=>rfl
 | .prod A C,x=>by
  have e:∀(u v:List T),vV u=true→vV v=true→vV (u++v)=true:=fun u v j q=>by
   induction u with
   | nil=>exact q
   | cons a u y=>
    simp only[vV,zd]at j;simp only[x6,vV,zd];exact⟨j.1,y j.2⟩
  exact e _ _ (zAi g A _) (zAi g C _)
theorem zMb(g:Tg)(A:Ty):∀l:List A.den,vV (yA g A l)=true
 | []=>rfl
 | x::l=>by
  have e:∀(u v:List T),vV u=true→vV v=true→vV (u++v)=true:=fun u v j q=>by
   induction u with
   | nil=>exact q
   | cons a u y=>
    simp only[vV,zd]at j;simp only[x6,vV,zd];exact⟨j.1,y j.2⟩
  exact e _ _ (zAi g A x) (zMb g A l)
theorem qJb{y:T}{b:List T}{s:Nat}(hb:qK H s y=some b)(h:zZa y b=true):vV b=true:=by
 unfold zZa at h;split at h
 ·rename_i g A l;simp only[qK]at hb;cases e:Nat.beq s A.size with
  | false=>simp[e]at hb
  | true=>
   simp only[e,ze,za]at hb;subst hb;exact zMb g A l
 ·exact h
theorem qNd{s:Nat}{x:T}{v:T×List TO}(h:(qEn H s x).run=some v):∃a n,qK H s x=some a∧jG x=some n∧qNc H x=some v:=by
 unfold qEn at h;split at h
 ·rename_i i o n;unfold qTp at h;split at h
  ·rename_i C G A;cases e:Nat.beq o 0 with
   | false=>simp[e,DT.run]at h
   | true=>
    rw[e,ze]at h;obtain⟨y,z⟩:=zNf h;cases z;exact⟨_,_,zSa A e y,rfl,rfl⟩
  ·cases h
 ·split at h
  ·rename_i a n j q;rw[xY]at h;exact⟨a,n,j,q,h⟩
  ·cases h
theorem zQc{t:TypeId}{x y:T}{v:T×List TO}(h:(apD P H t x y).run=some v):zUd P H t x y=some v:=by
 unfold apD at h;cases he:elT P t with
 | none=>simp[he,DT.run]at h
 | some e=>
  simp only[he]at h;cases I:ldT P e with
  | none=>simp[I,DT.run]at h
  | some V=>
   obtain⟨q,s⟩:=V;simp only[I]at h;cases hb:qK H s y with
   | none=>simp[hb,DT.run]at h
   | some b=>
    cases hm:jG y with
    | none=>simp[hb,hm,DT.run]at h
    | some m=>
     simp only[hb,hm]at h;cases A:Nat.beq m 0 with
     | true=>
      rw[A]at h;simp only[DT.run,ze]at h;obtain⟨a,n,C,G,W⟩:=qNd h;unfold zUd;simp only[he,I,hb,hm,C,G,A,ze];exact W
     | false=>
      rw[A]at h;simp only[DT.run,zf]at h;cases ho:zZa y b with
      | false=>simp[ho,DT.run]at h
      | true=>
       rw[ho,ze]at h;have ho:=qJb hb ho;unfold apL at h;cases j:jG x with
       | none=>simp[j,DT.run]at h
       | some n=>
        simp only[j]at h;cases ha:qBb P e s with
        | false=>simp[ha,DT.run]at h
        | true=>
         rw[ha,ze]at h;obtain⟨C,N⟩:=zT h;clear h;have h:=N;clear N;unfold zUd;simp only[he,I,hb,hm,j];unfold ap1 at h;split at h
         ·rename_i i o n';simp only[jG,za]at j;subst j;unfold apG at h;split at h
          ·rename_i Z U M;cases z:Nat.beq o 0&&Nat.beq e U with
           | false=>simp[z,DT.run]at h
           | true=>
            rw[z,ze]at h;obtain⟨G,h⟩:=zNf h;simp only[zd]at z;simp only[zSa M z.1 G,A,zf,zMy ha C,ho,q9,ze,qNe,qWq,M,z.1,z.2,G];exact h
          ·cases h
         ·cases J:qK H s x with
          | none=>simp[J,DT.run]at h
          | some a=>
           simp only[J,j,xY]at h;simp only[A,zf,zMy ha C,ho,q9,ze];exact h
def clD(P:Program)(OD:Od)(rn:Rd'):Cl:=fun f az H=>(qFa P OD rn f az H).run
theorem qGg(A:mM P rn){f:Nat}{az:List T}{v:T×List TO}(h:(qF P rn f az H).run=some v):∃r:Rn,nD P r∧nW P r f az H=some v:=by
 unfold qF at h;cases y:P.funcs[f]? with
 | none=>simp[y,DT.run]at h
 | some fn=>
  simp only[y]at h;cases hb:fn.body with
  | none=>simp[hb,DT.run]at h
  | some c=>
   simp only[hb]at h;cases z:Nat.ble (ln az) fn.ntmps with
   | false=>simp[z,DT.run]at h
   | true=>
    rw[z,ze]at h;obtain⟨⟨e,s⟩,M,j⟩:=zM h;have N:cAt P f []=some c:=by simp[cAt,y,hb]
    refine⟨fun G C=>open Classical in if G=c then(rn f [] c C).run else none,fun G C I s' he=>?_,?_⟩
    ·simp only at he;split at he
     ·rename_i J;subst J;exact A f [] _ C I s' N he
     ·cases he
    ·unfold nW;simp only[y,hb,z,ze,j5,M];cases e with
     | x id=>cases j
     | p t=>cases j
     | n=>
      simp only[jEa]at j;simp only[zSy];cases q:dU P s.L s.H fn.results.toList with
      | none=>rw[q]at j;cases j
      | some r=>rw[q]at j;exact j
     | r=>
      simp only[jEa]at j;simp only[zSy];cases q:dU P s.L s.H fn.results.toList with
      | none=>rw[q]at j;cases j
      | some r=>rw[q]at j;exact j
theorem aB{f:T→DT T}{g:T→Option T}(e:∀x y,(f x).run=some y→g x=some y):∀(l:List T){r:List T},(zHo f l).run=some r→wE g l=some r
 | [],r,h=>by cases h;rfl
 | x::l,r,h=>by
  obtain⟨y,j,q⟩:=zM h;obtain⟨r',z,A⟩:=zM q;cases A;simp only[wE,e _ _ j,aB e l z]
theorem zFt{nw:Bool}:∀(k:Nat)(t:T){C:T},(aM nw H k t).run=some C→yD nw H k t=some C
 | 0,t,C,h=>by cases h
 | k+1,t,C,h=>by
  have W:∀(t:T){C:T},(aM nw H k t).run=some C→yD nw H k t=some C:=fun t C h=>zFt k t h;have I:∀(l:List T){r:List T},(zHo (aM nw H k) l).run=some r→wE (yD nw H k) l=some r:=fun l r h=>aB (fun x y h=>W x h) l h;cases t with
  | ag J=>obtain⟨l,j,q⟩:=zM h;cases q;simp only[yD,I _ j]
  | tu J=>obtain⟨l,j,q⟩:=zM h;cases q;simp only[yD,I _ j]
  | fn f J=>obtain⟨l,j,q⟩:=zM h;cases q;simp only[yD,I _ j]
  | os i o n c=>
   simp only[aM]at h;simp only[yD];cases hb:Nat.ble n c&&Nat.ble c 9223372036854775807 with
   | false=>rw[hb]at h;cases h
   | true=>
    rw[hb,ze]at h;rw[ze];cases ho:nC (nth .gone H i)with
    | none=>simp[ho,DT.run]at h
    | some J=>
     simp only[ho]at h;obtain⟨l,j,q⟩:=zM h;cases q;simp only[I _ j]
  | og i o n=>
   simp only[aM]at h;simp only[yD];have U:∀x,qGu nw o n x=none→zVd nw o n x=none:=fun x N=>by
    unfold qGu at N;unfold zVd;split at N
    ·cases N
    ·rename_i M;split
     ·rename_i g A z e;exact absurd rfl (M g A z e)
     ·rfl
   cases G:qGu nw o n (nth .gone H i)with
   | some d=>
    simp only[G]at h;unfold qGu at G;split at G
    ·rename_i g A x e V;cases G;cases hb:Nat.beq o 0&&(fH A&&(!nw||g.isN))with
     | false=>rw[hb]at h;cases h
     | true=>
      rw[hb,ze]at h;obtain⟨j,q⟩:=zT h;cases q;simp only[zVd,V,hb,j,q9,ze]
    ·cases G
   | none=>
    simp only[G]at h;simp only[U _ G];cases ho:nC (nth .gone H i)with
    | none=>simp[ho,DT.run]at h
    | some J=>
     simp only[ho]at h;obtain⟨l,j,q⟩:=zM h;cases q;simp only[I _ j]
  | op i o=>
   simp only[aM]at h;simp only[yD];cases ho:nC (nth .gone H i)with
   | none=>simp[ho,DT.run]at h
   | some J=>
    simp only[ho]at h;obtain⟨l,j,q⟩:=zM h;cases q;simp only[I _ j]
  | _=>simp only[aM,xY]at h;exact h
theorem jDn{g:List T→DT (T×Bool)}{f:Nat}{az:List T}{v:T×List TO}(q:OD f=some g)(h:(poD g H az).run=some v):poC (poR OD) H f az=some v.1∧v.2=H:=by
 unfold poD at h;unfold poC;cases ho:qCk az with
 | true=>
  rw[ho,ze]at h;rw[ze];obtain⟨z,hm,h⟩:=zM h;rw[aB (fun x y h=>zFt 12 x h) _ hm];obtain⟨⟨t,b⟩,j,e⟩:=zM h
  ·simp only[poR,q,j];cases b with
   | true=>cases e;exact⟨rfl,rfl⟩
   | false=>cases e
 | false=>
  rw[ho,zf]at h;rw[zf];obtain⟨⟨t,b⟩,j,e⟩:=zM h;simp only[poR,q,j];cases e;exact⟨rfl,rfl⟩
theorem qFk(hm:P.follows .mixedOrders=true)(U:wC P OD)(G:mM P rn):kW P (clD P OD rn):=by
 intro f az H tv H' h;unfold clD qFa at h;cases C:OD f with
 | some g=>
  simp only[C]at h;obtain⟨y,z⟩:=jDn C h;simp only at y z;subst z;intro E w0 X F B w Y Mo qQ R j N A;exact qKr (k:=H'.length) (fun f az tv nw h=>U.po f az tv nw h _) y j.ow j.ivw j.bNle j.st.lt j.nn N fun v w' I hv=>A v w' B Y Mo (j.call I) hv (BLe.refl B) (I.le Y)
 | none=>
  simp only[C]at h;obtain⟨⟨t,J⟩,M,e⟩:=zM h;obtain⟨r,y,z⟩:=qGg G M;have A:=zDa y _ _ _ _ _ z;unfold gcD at e;simp only[qV]at e;cases q:wD H.length 12 t&&(J.take H.length).all (gcO H.length)with
  | false=>rw[q]at e;cases e;exact A
  | true=>
   rw[q]at e;cases e;simp only[zd]at q;exact A.gc q.1 q.2
theorem qIu:xS P noC:=fun _ _ _ _ _ h=>by cases h
theorem jCs{cl j yd q:Cl}{d:Option Nat}{op:Op}(h:∀c f,op= .call c→c.callee≠.value f):opC P cl yd d L H op=opC P j q d L H op:=by
 cases op with
 | call c=>
  simp only[opC];split
  ·rename_i f e;exact absurd e (h c f rfl)
  ·rfl
 | _=>rfl
theorem zZc{cl cl' yd yd':Cl}(h:∀c f,o.op= .call c→c.callee≠.value f):dN P cl yd o L H=dN P cl' yd' o L H:=by
 unfold dN zSc;rw[jCs h]
theorem qXf{az:List T}{t:T}{d:Option Nat}{cl:Cl}(j:∀f az H,cl f az H=(qFa P OD rn f az H).run)(h:((qXe P OD rn az H t).bind (qZe d L)).run=some s')(yd:Cl):zEq P cl yd d L H az t=some s':=by
 obtain⟨⟨v,H'⟩,e,q⟩:=zM h;unfold qXe at e;unfold zEq;split at e
 ·rename_i f y;cases he:jX P f with
  | false=>simp[he,DT.run]at e
  | true=>
   rw[he,ze]at e;simp only[he,ze,j,e,dH];exact q
 ·rename_i f bs;cases he:jX P f with
  | false=>simp[he,DT.run]at e
  | true=>
   rw[he,ze]at e;simp only[he,ze,j,e,dH];exact q
 ·cases e
theorem zZb(h:(qQu P OD rn o L H).run=some s'):dN P (clD P OD rn) noC o L H=some s':=by
 unfold qQu at h;cases hp:zIl P (evO L) o.op with
 | some d=>
  simp only[hp]at h;obtain⟨z,J,I⟩:=zM h;rw[xY]at I;unfold dN;rw[zSp hp J];exact I
 | none=>
  simp only[hp]at h;have Z:(∀c,o.op≠.call c)→(ofO (dN P noC noC o L H)).run=some s'→dN P (clD P OD rn) noC o L H=some s':=fun W h=>by
   rw[xY]at h;rw[zZc (cl':=noC) (yd':=noC) fun c f e=>absurd e (W c)];exact h
  split at h
  ·rename_i c A;unfold qTu at h;split at h
   ·rename_i f C;unfold dN;have q:xD P H (ln H) (evO L) o.op=none:=by
     rw[A];simp only[xD,zEw];rw[C]
    rw[q];simp only[zSc];have j:zCz P H (evO L) o.op=none:=by
     rw[A];simp only[zCz];rw[C]
    rw[j];have:opC P (clD P OD rn) noC o.dst L H o.op=some s':=by
     rw[A];simp only[opC];rw[C];exact qXf (OD:=OD) (rn:=rn) (fun _ _ _=>rfl) h noC
    simp only[this]
   ·rename_i C;split at h
    ·rename_i x y t t' U V;cases hb:Nat.beq t t' with
     | false=>simp[hb,DT.run]at h
     | true=>
      rw[hb,ze]at h;obtain⟨⟨v,H'⟩,J,I⟩:=zM h;have j:zCz P H (evO L) o.op=some (some v,H'):=by
       rw[A];simp only[zCz];rw[C,U,V];simp only[hb,ze,zQc J]
      have q:xD P H (ln H) (evO L) o.op=none:=by
       rw[A];simp only[xD,zEw];rw[C]
      unfold dN;rw[q];simp only[zSc,j,zQw];exact I
    ·cases h
   ·rename_i G N;rw[xY]at h;rw[zZc (cl':=noC) (yd':=noC) fun c' f e=>by rw[A]at e;cases e;exact G f]
    exact h
  ·rename_i M;exact Z M h
theorem zIn:∀(L:List T)(t:Nat){x:T},nth .u L t=x→x≠.u→put x L t=L
 | [],_,_,h,e=>absurd h.symm e
 | y::L,0,x,h,_=>by rw[zRz]at h;rw[zSq,h]
 | y::L,t+1,x,h,e=>by rw[lH]at h;rw[zIo,zIn L t h e]
theorem qUc(L:List T)(o:Oper):(gdT ops L o= .free→kT ops L o=some true)∧(gdT ops L o= .skip→kT ops L o=some false)∧∀t c b,gdT ops L o= .on t c b→kT ops L o=some (qBd c b)∧nth .u L t= .v (.bool c):=by
 unfold gdT kT;cases N:o.guard with
 | none=>simp
 | some G=>
  obtain⟨j,J⟩:=G;cases e:ops[j]? with
  | none=>simp[e]
  | some p=>
   cases hd:p.dst with
   | none=>simp[e,hd]
   | some t=>
    cases q:nth .u L t with
    | v z=>cases z<;>simp[e,hd,q]<;>(first | (intro U M I y A C;subst y;subst A;subst C;exact⟨rfl,q⟩) | skip)
    | tu l=>cases l<;>simp[e,hd,q]
    | _=>simp[e,hd,q]
theorem qXk{X Y:S→DT (Ex×S)}{s:S}{c:Operand}{z:Ex×S}(h:(qNq X Y s c).run=some z):∃b,evO s.L c= .v (.bool b)∧((bif b then X else Y) s).run=some z:=by
 cases c with
 | tmp t=>
  simp only[qNq]at h;split at h
  ·rename_i b e;have hp:put (.v (.bool b)) s.L t=s.L:=zIn s.L t e (by simp)
   refine⟨b,e,?_⟩;cases b<;>simp only[DT.run,ze,zf,hp]at h ⊢<;>exact h
  ·cases h
 | _=>
  simp only[qNq]at h;split at h
  ·rename_i b e;refine⟨b,e,?_⟩;cases b<;>exact h
  ·cases h
theorem qJa{α:Type}{L:List T}{t:Nat}{c b:Bool}{y n:List T→DT α}{z:α}(e:nth .u L t= .v (.bool c))(h:(onS L t c b y n).run=some z):(qBd c b=true∧(y L).run=some z)∨(qBd c b=false∧(n L).run=some z):=by
 have hp:put (.v (.bool c)) L t=L:=zIn L t e (by simp)
 unfold onS at h;simp only[DT.run]at h;cases c<;>cases b<;>simp only[ze,zf,hp]at h<;>first | exact .inl ⟨rfl,h⟩ | exact .inr ⟨rfl,h⟩
theorem qJc(h:(opD P OD rn ops o s).run=some s'):opE P (clD P OD rn) noC ops o s=some s':=by
 unfold opD at h;unfold opE;obtain⟨g1,g2,g3⟩:=qUc (ops:=ops) s.L o;cases j:gdT ops s.L o with
 | no=>rw[j]at h;cases h
 | free=>rw[j]at h;rw[g1 j];exact zZb h
 | skip=>rw[j]at h;rw[g2 j];exact h
 | on t c b=>
  rw[j]at h;obtain⟨q,y⟩:=g3 t c b j;rw[q];rcases qJa y h with⟨e,h⟩ | ⟨e,h⟩
  ·rw[e];exact zZb h
  ·rw[e];exact h
theorem zSg:∀(l:List Oper)(s:S),(qJo P OD rn ops l s).run=some s'→zSh P (clD P OD rn) noC ops l s=some s'
 | [],s,h=>h
 | o::l,s,h=>by
  obtain⟨q,e,j⟩:=zM h;simp only[zSh,qJc e];exact zSg l q j
def poH(P:Program)(OD:Od)(rn:Rd')(k:Nat):Po:=fun f az=>(puD P OD rn k f az).run
theorem qGs(hm:P.follows .mixedOrders=true)(e:mM P rn){k f:Nat}{az:List T}{t tv:T}{j:List TO}{nw:Bool}(q:(qF P rn f (az.map (unN 12)) (fE k)).run=some (t,j))(y:(qJ (t,j)).run=some (tv,nw)):KnP P k f az tv nw:=by
 obtain⟨r,C,he⟩:=qGg e q;obtain⟨G,z,A⟩:=zM y;cases A;exact zDg (rn:=r) (dE hm C) (by unfold dD;rw[he]) (zFt 12 _ z)
theorem jDm(hm:P.follows .mixedOrders=true)(z:wC P OD)(j:mM P rn){k f:Nat}{az:List T}{tv:T}{nw:Bool}(h:poH P OD rn k f az=some (tv,nw)):KnP P k f az tv nw:=by
 unfold poH puD at h;cases e:OD f with
 | some g=>simp only[e]at h;exact z f g e az tv nw h k
 | none=>
  simp only[e]at h;obtain⟨⟨t,A⟩,q,y⟩:=zM h;exact qGs hm j q y
theorem jDp{k f:Nat}{az:List T}{z:T×Option TO}(h:(jDo P OD rn k H f az).run=some z):∃t,poC (poH P OD rn k) H f az=some t∧z=(t,none):=by
 unfold jDo at h;unfold poC;cases ho:qCk az with
 | true=>
  rw[ho,ze]at h;rw[ze];obtain⟨q,hm,h⟩:=zM h;rw[aB (fun x y h=>zFt 12 x h) _ hm];obtain⟨⟨t,b⟩,j,e⟩:=zM h
  ·simp only[poH,j];cases b with
   | true=>cases e;exact⟨_,rfl,rfl⟩
   | false=>cases e
 | false=>
  rw[ho,zf]at h;rw[zf];obtain⟨⟨t,b⟩,j,e⟩:=zM h;simp only[poH,j];cases e;exact⟨_,rfl,rfl⟩
theorem jGa{M G:List TO}{t:TypeId}{x y:T}{z:T×Option TO}(h:(abD P M G t x y).run=some z):(∀i o n,x= .og i o n→qBc P M G (some i) t x y=some z)∧((∀i o n,x≠.og i o n)→qBc P M G none t x y=some z):=by
 unfold abD at h;cases he:elT P t with
 | none=>simp[he,DT.run]at h
 | some e=>
  simp only[he]at h;cases V:ldT P e with
  | none=>simp[V,DT.run]at h
  | some gs=>
   obtain⟨q,s⟩:=gs;simp only[V]at h;cases hb:qK G s y with
   | none=>simp[hb,DT.run]at h
   | some b=>
    cases hm:jG y with
    | none=>simp[hb,hm,DT.run]at h
    | some m=>
     cases J:jG x with
     | none=>simp[hb,hm,J,DT.run]at h
     | some n=>
      simp only[hb,hm,J]at h;cases I:vV b&&qBb P e s with
      | false=>simp[I,DT.run]at h
      | true=>
       rw[I,ze]at h;obtain⟨W,A⟩:=zT h;obtain⟨h1,hk⟩:=zT A;clear h A;have h:=hk;clear hk;simp only[zd]at I;obtain⟨ho,ha⟩:=I;have Z:Nat.beq m 0=false:=by simpa using W
       unfold abX at h;split at h
       ·rename_i i o n';simp only[jG,za]at J;subst J;refine⟨fun i' o' n'' N=>?_,fun j=>absurd rfl (j i o n')⟩;cases N;unfold abG at h;split at h
        ·rename_i cs e' hg;cases C:Nat.beq o 0&&Nat.beq e e' with
         | false=>simp[C,DT.run]at h
         | true=>
          rw[C,ze]at h;obtain⟨h2,h⟩:=zNf h;simp only[zd]at C;have U:Nat.beq i i=true:=cP i;unfold qBc;simp only[he,V,hb,hm,qEu,U,C.1,C.2,hg,h2,q9,ze,Z,jr,zMy ha h1,ho];exact h
        ·cases h
       ·rename_i j;refine⟨fun i o n' N=>absurd N (j i o n'),fun _=>?_⟩;rw[xY]at h;exact h
theorem zRg{q j:List TO}{po po':Po}(h:∀c f,o.op= .call c→c.callee≠.value f):mX P po q H j L o=mX P po' q H j L o:=by
 have e:fF P po j L o.op=fF P po' j L o.op:=by
  cases ho:o.op with
  | call c=>
   simp only[fF];split
   ·rename_i f e;exact absurd e (h c f ho)
   ·rfl
  | _=>rfl
 unfold mX;rw[e]
theorem qOz{k:Nat}{U C:List TO}{z:T×Option TO}(h:(qHg P OD rn k U H C L o).run=some z):mX P (poH P OD rn k) U H C L o=some z:=by
 unfold qHg at h;cases hp:zIl P (evO L) o.op with
 | some d=>
  simp only[hp]at h;have ha:nE L o.op=none:=by
   cases ho:o.op with
   | call c=>exact absurd ho (qKq hp c)
   | _=>rfl
  unfold mX;rw[ha,zSp hp h]
 | none=>
  simp only[hp]at h;split at h
  ·rename_i c j;unfold hcaD at h;split at h
   ·rename_i f A;split at h
    ·rename_i g cs eg;cases he:jX P g with
     | false=>simp[he,DT.run]at h
     | true=>
      rw[he,ze]at h;obtain⟨t,V,rfl⟩:=jDp h;have ha:nE L o.op=none:=by rw[j];simp only[nE];rw[A]
      have G:xD P H (ln C) (evO L) o.op=none:=by rw[j];simp only[xD,zEw];rw[A]
      have Z:fF P (poH P OD rn k) C L o.op=some t:=by
       rw[j];simp only[fF];rw[A];simp only[eg,he,ze,V]
      unfold mX;simp only[ha,G,Z]
    ·cases h
   ·rename_i A;split at h
    ·rename_i x y t t' N e2;cases hb:Nat.beq t t' with
     | false=>simp[hb,DT.run]at h
     | true=>
      rw[hb,ze]at h;obtain⟨V,h2⟩:=jGa h;unfold mX;by_cases J:∃i o n,evO L x= .og i o n
      ·obtain⟨i,q,n,J⟩:=J;have ha:nE L o.op=some i:=by rw[j];simp only[nE];rw[A,N];simp only[J]
       simp only[ha];rw[j];simp only[zJr];rw[A,N,e2];simp only[hb,ze];exact V i q n J
      ·have M:∀i o n,evO L x≠.og i o n:=fun i q n e=>J ⟨i,q,n,e⟩;have ha:nE L o.op=none:=by
        rw[j];simp only[nE];rw[A,N];first | (simp only;done) | (split<;>first | rfl | (rename_i e;exact absurd e (M _ _ _)))
       have G:xD P H (ln C) (evO L) o.op=none:=by rw[j];simp only[xD,zEw];rw[A]
       have Z:fF P (poH P OD rn k) C L o.op=none:=by rw[j];simp only[fF];rw[A]
       have W:zJr P U C none L o.op=some z:=by
        rw[j];simp only[zJr];rw[A,N,e2];simp only[hb,ze];exact h2 M
       simp only[ha,G,Z,W]
    ·cases h
   ·rename_i I hne2;rw[xY]at h;rw[zRg (po':=fun _ _=>none) fun c' f e=>by rw[j]at e;cases e;exact I f]
    exact h
  ·rename_i hne;rw[xY]at h;rw[zRg (po':=fun _ _=>none) fun c f e=>absurd e (hne c)];exact h
theorem qHh{k:Nat}{A:List TO}:∀(l:List Oper)(q:List TO)(L:List T){j:List (T×Option TO)},(zJt P OD rn k A H ops l q L).run=some j→j.length=l.length∧∀(i:Nat)(z:T×Option TO),j[i]?=some z→∃o,l[i]?=some o∧xJ P (poH P OD rn k) A H (q++qM (j.take i)) (kP l (j.take i) L) ops o=some z
 | [],q,L,j,h=>by cases h;exact⟨rfl,fun i z e=>by simp at e⟩
 | o::l,q,L,j,h=>by
  have fin:∀{z:T×Option TO},xJ P (poH P OD rn k) A H q L ops o=some z→(zVg (zJt P OD rn k A H ops l) o q L z).run=some j→j.length=(o::l).length∧∀(i:Nat)(z:T×Option TO),j[i]?=some z→∃C,(o::l)[i]?=some C∧xJ P (poH P OD rn k) A H (q++qM (j.take i)) (kP (o::l) (j.take i) L) ops C=some z:=fun{z}N M=>by
   obtain⟨I,h3,h4⟩:=zM M;cases h4;obtain⟨g1,g2⟩:=qHh l _ _ h3;refine⟨by simp[g1],fun i y V=>?_⟩
   cases i with
   | zero=>
    simp only[jm,za]at V;subst V;refine⟨o,rfl,?_⟩;simp only[uv,qM,kP,jw];exact N
   | succ i=>
    obtain⟨C,Z,e2⟩:=g2 i y (by simpa using V)
    refine⟨C,by simpa using Z,?_⟩
    have en:q++qM ((z::I).take (i+1))=nxH q z.2++qM (I.take i):=by
     obtain⟨t,ob⟩:=z;cases ob<;>simp[qM,nxH]
    rw[en];exact e2
  have J:kT ops L o=some true→((qHg P OD rn k A H q L o).bind (zVg (zJt P OD rn k A H ops l) o q L)).run=some j→j.length=(o::l).length∧∀(i:Nat)(z:T×Option TO),j[i]?=some z→∃C,(o::l)[i]?=some C∧xJ P (poH P OD rn k) A H (q++qM (j.take i)) (kP (o::l) (j.take i) L) ops C=some z:=fun U h=>by
   obtain⟨z,h1,M⟩:=zM h;exact fin (by unfold xJ;simp only[U];exact qOz h1) M
  have no:kT ops L o=some false→(zVg (zJt P OD rn k A H ops l) o q L (.tu [],none)).run=some j→j.length=(o::l).length∧∀(i:Nat)(z:T×Option TO),j[i]?=some z→∃C,(o::l)[i]?=some C∧xJ P (poH P OD rn k) A H (q++qM (j.take i)) (kP (o::l) (j.take i) L) ops C=some z:=fun U h=>
   fin (by unfold xJ;simp only[U]) h
  simp only[zJt]at h;obtain⟨g1,g2,g3⟩:=qUc (ops:=ops) L o;cases G:gdT ops L o with
  | no=>rw[G]at h;cases h
  | free=>rw[G]at h;exact J (g1 G) h
  | skip=>rw[G]at h;exact no (g2 G) h
  | on t c b=>
   rw[G]at h;obtain⟨W,k2⟩:=g3 t c b G;rcases qJa k2 h with⟨e,h⟩ | ⟨e,h⟩
   ·exact J (by rw[W,e]) h
   ·exact no (by rw[W,e]) h
theorem zRo:∀(l:List Oper)(e:List (T×Option TO))(L:List T)(m:Nat),e.length≤m→kP (l.take m) e L=kP l e L
 | [],_,_,m,_=>by simp
 | o::l,[],L,m,_=>by cases m<;>simp[kP]
 | o::l,z::e,L,0,h=>by simp at h
 | o::l,z::e,L,m+1,h=>by
  simp only[yg,kP];exact zRo l e _ m (by simpa using h)
theorem empN{α:Type}{l:List α}(h:emp l=true):l=[]:=by cases l<;>first | rfl | cases h
theorem zPl{j:List Nat}:∀(l:List Oper)(s:S),(qLr P OD rn ops j l s).run=some s'→dY P (clD P OD rn) noC ops j l s=some s'
 | [],s,h=>h
 | o::l,s,h=>by
  obtain⟨q,y,e⟩:=zM h;simp only[dY,qJc y];cases he:emp j with
  | true=>
   obtain rfl:=empN he;rw[he,ze]at e;show(bif nQ P ops q []then _ else _)=_;simp only[nQ,ze];exact zPl l q e
  | false=>
   rw[he,zf]at e;obtain⟨z,A⟩:=zT e;simp only[z,ze];exact zPl l q A
theorem qXu{m:Nat}{q:List TO}{e:List (T×Option TO)}(A:ln e=m)(h:(drT P OD rn ops m q s e).run=some s'):drF P (clD P OD rn) noC ops s q e=some s':=by
 subst A;unfold drT at h;unfold drF jFc;cases j:Nat.ble (ln e) ops.size with
 | false=>simp[j,DT.run]at h
 | true=>
 rw[j,kx]at h;cases hd:qGa ops (ln e)&&zNy q (ksE ops.toList e s.L)with
 | false=>simp[hd,DT.run]at h
 | true=>
  rw[hd,ze]at h;rw[ze];cases he:emp (zAf ops (ln e))with
  | true=>
   rw[he,ze]at h;rw[empN he];simp only[nQ,ze];exact zPl _ _ h
  | false=>
   rw[he,zf]at h;obtain⟨y,z⟩:=zT h;simp only[y,ze];exact zPl _ _ z
theorem qHt{A:List (Option Nat)}(q:Nat)(x:TO)(e:(vB A H)[q]?=some x)(z:x≠.gone):H[q]?=some x:=by
 rw[lC]at e;split at e
 ·cases j:H[q]? with
  | none=>rw[j]at e;cases e
  | some y=>rw[j]at e;cases e;exact absurd rfl z
 ·exact e
end
section
variable {P:Program}{E:Nat→Prop}{w0:World}{X:Hid}{F:List Nat}{B:Bm}{w:World}{Y:Hid}{Mo:List (Nat×Obj)}{n:Nat}{a:Act}{D:List Deferred}{Q:Exit→Act→World→Prop}{OD:Od}{LO:Lo}{rn:Rd'}{rr:Option Nat}{ops:Array Oper}{s s':S}
theorem qXt{id:Nat}(hm:P.follows .mixedOrders=true)(M:wC P OD)(y:mM P rn)(J:dM ops=true)(h:(drD P OD rn ops s).run=some s')(W:Wd P E w0 X F s.H B w Y Mo)(V:FrT n a s.L D B (rd w Y))(hk:mK P E w0 X F n D s'.H s'.L B (rd w Y) (Q .normal)):(Code.region id ops true).wpIn (FF rr) 0 P Q a w:=by
 unfold drD drH at h;generalize hdN OD ops s.L ops.toList [] 0=m at h;obtain⟨G,U,C⟩:=zM h;obtain⟨g1,g2⟩:=qHh _ _ _ U;have hle:G.length≤m:=by rw[g1];exact List.length_take_le _ _
 have I:G.length≤ops.toList.length:=by rw[g1];exact List.length_take_le' _ _
 by_cases e:Nat.ble m ops.size=true
 ·have e:m≤ops.toList.length:=by simpa using jn e
  have j:ln G=m:=by rw[qV,g1,jl];exact kg e
  refine zKz (po:=poH P OD rn (ln s.H+ops.size)) hm (fun f az tv nw hp=>jDm hm M y hp) (qFk hm M y) qIu J W V hk _ G (zLo _ _) (fun q x=>qHt q x) (fun i z hz=>?_) I (qXu j C);obtain⟨o,A,N⟩:=g2 i z hz;refine⟨o,?_,?_⟩
  ·rw[qh]at A;split at A
   ·exact A
   ·cases A
  ·rwa[zRo _ _ _ _ (by rw[jl];omega)]at N
 ·exfalso;unfold drT at C;have Z:Nat.ble m ops.size=false:=Bool.eq_false_iff.2 e;rw[Z]at C;cases C
theorem kM(hm:P.follows .mixedOrders=true)(hO:wC P OD)(hL:vJ P LO):∀k,mM P (evD P OD LO k):=by
 intro k;induction k using Nat.strongRecOn with
 | _ k ih=>
  cases k with
  | zero=>intro f p c s e s' _ h;cases h
  | succ k=>
   have hk:mM P (evD P OD LO k):=ih k (x7 k);intro f p c s e s' hc h E w0 X F n a D B w Y Mo rr Q hr Z V C;have h:(qCx P OD LO (evD P OD LO k) f p c s).run=some (e,s'):=h;cases c with
   | skip=>cases h;exact tF (C.one Z V (BLe.refl B) (Le.refl _))
   | label l=>cases h;exact zNu (C.one Z V (BLe.refl B) (Le.refl _))
   | exit id=>cases h;exact zAc (C.one Z V (BLe.refl B) (Le.refl _))
   | ret=>cases h;exact mY (C.one Z V (BLe.refl B) (Le.refl _))
   | seq x y=>
    have hr1:rr=none∨noR x=true:=hr.imp id fun h=>by simp only[noR,zd]at h;exact h.1
    have hr2:rr=none∨noR y=true:=hr.imp id fun h=>by simp only[noR,zd]at h;exact h.2
    have hq:noR (.seq x y)=true→noR x=true∧noR y=true:=fun h=>by simpa[noR]using h
    have c1:cAt P f (false::p)=some x:=by simp[cAt,hc,aQ]
    have c2:cAt P f (true::p)=some y:=by simp[cAt,hc,aQ]
    obtain⟨⟨e1,s1⟩,h1,G⟩:=zM h;refine wpIn_seq (hk _ _ _ _ _ _ c1 h1 E w0 X F n a D B w Y Mo rr _ hr1 Z V fun A w' B' Y' q bs z g1 g2 g3 I=>?_);cases e1 with
    | n=>exact hk _ _ _ _ _ _ c2 G E w0 X _ n A _ B' w' Y' q rr Q hr2 g1 g2 (C.next hq z g3 I)
    | x id=>cases G;exact C A w' B' Y' q bs (fun e=>z (hq e).1) g1 g2 g3 I
    | r=>cases G;exact C A w' B' Y' q bs (fun e=>z (hq e).1) g1 g2 g3 I
    | p t=>cases G;exact C A w' B' Y' q bs (fun e=>z (hq e).1) g1 g2 g3 I
   | cond c x y=>
    have c1:cAt P f (false::p)=some x:=by simp[cAt,hc,aQ]
    have c2:cAt P f (true::p)=some y:=by simp[cAt,hc,aQ]
    simp only[qCx]at h;have hcr:=V.rep c;have go:∀(b:Bool),evO s.L c= .v (.bool b)→((bif b then evD P OD LO k f (false::p) x else evD P OD LO k f (true::p) y) s).run=some (e,s')→(Code.cond c x y).wpIn (FF rr) 0 P Q a w:=fun b eb h=>by
     rw[eb]at hcr;cases b with
     | true=>exact dk hcr.bool (hk _ _ _ _ _ _ c1 h E w0 X F n a D B w Y Mo rr Q (hr.imp id fun h=>by simp only[noR,zd]at h;exact h.1) Z V fun A w' B' Y' q bs z=>C A w' B' Y' q bs fun e=>z (by simp only[noR,zd]at e;exact e.1))
     | false=>exact fw hcr.bool (hk _ _ _ _ _ _ c2 h E w0 X F n a D B w Y Mo rr Q (hr.imp id fun h=>by simp only[noR,zd]at h;exact h.2) Z V fun A w' B' Y' q bs z=>C A w' B' Y' q bs fun e=>z (by simp only[noR,zd]at e;exact e.2))
    obtain⟨b,eb,hb⟩:=qXk h;exact go b eb hb
   | block id x=>
    have c1:cAt P f (false::p)=some x:=by simp[cAt,hc,aQ]
    obtain⟨⟨e1,s1⟩,h1,G⟩:=zM h;refine kH (hk _ _ _ _ _ _ c1 h1 E w0 X F n a D B w Y Mo rr _ hr Z V fun A w' B' Y' q bs z g1 g2 g3 I=>?_);cases e1 with
    | n=>cases G;exact C A w' B' Y' q bs z g1 g2 g3 I
    | r=>cases G;exact C A w' B' Y' q bs z g1 g2 g3 I
    | p t=>cases G;exact C A w' B' Y' q bs z g1 g2 g3 I
    | x j=>
     cases G;have:=C A w' B' Y' q bs z g1 g2 g3 I;cases hj:Nat.beq j id with
     | true=>rw[hj]at this;obtain rfl:=zY hj;exact mU this
     | false=>rw[hj]at this;exact zGo hj this
   | scope x=>
    have c1:cAt P f (false::p)=some x:=by simp[cAt,hc,aQ]
    rcases hr with rfl | hr
    ·exact zNv (hk _ _ _ _ _ _ c1 h E w0 X F n a D B w Y Mo none _ (.inl rfl) Z V fun A w' B' Y' q bs _ g1 g2 g3 I=>by
      have:=C A w' B' Y' q bs (fun e=>by simp[noR]at e) g1 g2 g3 I
      cases e<;>exact this)
    ·simp[noR]at hr
   | loop x=>
    have c1:cAt P f (false::p)=some x:=by simp[cAt,hc,aQ]
    have hr1:rr=none∨noR x=true:=hr.imp id fun h=>by simpa[noR]using h
    simp only[qCx]at h;cases hlo:LO f p s with
    | some d=>
     simp only[hlo]at h;exact hL f p s d hlo x hc e s' h E w0 X F n a D B w Y Mo rr Q hr Z V C
    | none=>
    simp only[hlo]at h;have key:∀(N:Nat),(qPz (evD P OD LO k f (false::p) x) N s).run=some (e,s')→(Code.loop x).wpIn (FF rr) 0 P Q a w:=fun N h=>by
     refine lZ (γ:=Nat×S×List Nat) (fun g a w=>(qPz (evD P OD LO k f (false::p) x) g.1 g.2.1).run=some (e,s')∧∃B' Y' q,(noR x=true→g.2.2=[])∧Wd P E w0 X (g.2.2++F) g.2.1.H B' w Y' q∧FrT n a g.2.1.L (g.2.2.map Gv.mark++D) B' (rd w Y')∧BLe B B'∧Le (rd _ Y) (rd w Y'))
      (fun g=>g.1) (N,s,[]) ⟨h,B,Y,Mo,fun _=>rfl,Z,V,BLe.refl B,Le.refl _⟩ ?_
     rintro⟨j,s0,J⟩ a0 w1 ⟨U,B1,Y1,Mo1,hb1,g1,g2,g3,I⟩;simp only at U hb1 g1 g2;cases j with
     | zero=>cases U
     | succ j=>
     obtain⟨⟨e1,s1⟩,h1,G⟩:=zM U;refine hk _ _ _ _ _ _ c1 h1 E w0 X _ n a0 _ B1 w1 Y1 Mo1 rr _ hr1 g1 g2 fun A w' B' Y' q bs z k1 k2 k3 k4=>?_;have W:noR x=true→bs++J=[]:=fun e=>by rw[z e,hb1 e];rfl
     have k1':Wd P E w0 X (bs++J++F) s1.H B' w' Y' q:=by rw[qr];exact k1
     have k2':FrT n A s1.L ((bs++J).map Gv.mark++D) B' (rd w' Y'):=by rw[xw,qr];exact k2
     cases e1 with
     | n=>exact⟨(j,s1,bs++J),⟨G,B',Y',q,W,k1',k2',g3.trans k3,I.trans k4⟩,x7 j⟩
     | x id=>cases G;exact C A w' B' Y' q (bs++J) (fun e=>W (by simpa[noR]using e)) k1' k2' (g3.trans k3) (I.trans k4)
     | r=>cases G;exact C A w' B' Y' q (bs++J) (fun e=>W (by simpa[noR]using e)) k1' k2' (g3.trans k3) (I.trans k4)
     | p t=>cases G;exact C A w' B' Y' q (bs++J) (fun e=>W (by simpa[noR]using e)) k1' k2' (g3.trans k3) (I.trans k4)
    exact key _ h
   | region id ops draw=>
    cases draw with
    | false=>
     simp only[qCx]at h;cases M:dM ops with
     | false=>simp[M,DT.run]at h
     | true=>
      rw[M,ze]at h;obtain⟨s1,h1,G⟩:=zM h;cases G;refine fh ?_;exact zZh (qFk hm hO hk) qIu _ _ _ (zSg _ _ h1) M Z V (BLe.refl B) (Le.refl _) fun A w' B' Y' q k1 k2 k3 k4=>C.one k1 k2 k3 k4
    | true=>
     simp only[qCx]at h;cases M:dM ops with
     | false=>simp[M,DT.run]at h
     | true=>
      rw[M,ze]at h;obtain⟨s1,h1,G⟩:=zM h;cases G;exact qXt hm hO hk M h1 Z V fun A w' B' Y' q k1 k2 k3 k4=>C.one k1 k2 k3 k4
   | rangeFunc g ps c1 c2=>cases h
   | goto l=>cases h
   | refuse why=>cases h
end
inductive Sl where
  | u
  | h
  | t (x:T)
  | a (g:Tg) (A:Ty) (e:TypeId)
inductive Ob' where
  | g
  | r (cs:List Sl) (e:TypeId)
  | m (g:Tg) (K V:Ty)
structure Sp where
 ss:List Sl
 os:List Ob'
structure Hs where
 hs:List T
 az:List T
 ks:List (List T)
def chk(A:Ty):Nat→List T→Option (List (List T))
 | 0,_=>none
 | k+1,e=>match e with
  | []=>some []
  | _::_=>match dZ A.size e with
   | some u=>(match chk A k (fD e A.size)with
    | some r=>some (u::r)
    | none=>none)
   | none=>none
def zQl(g:Tg)(A:Ty):List (List T)→List A.den→Option (List A.den)
 | [],r=>some r
 | u::l,r=>match mV g A u with
  | some x=>zQl g A l (x::r)
  | none=>none
def qEf(g:Tg)(A:Ty):Cs→Option (List A.den)
 | .d q j x=>bif g.le q then sI j A x else none
 | .l e=>match chk A (ln e+1) e with
  | some l=>zQl g A l []
  | none=>none
def qWn(g:Tg)(A:Ty)(e:TypeId)(n:Nat):TO→DT T
 | .gro c j=>bif Nat.beq e j then(match qEf g A c with
  | some (y::l)=>grd (Nat.beq n (y::l).length) (.ret (.ls g A (y::l)))
  | _=> .no)else .no
 | _=> .no
def rQ(m:Nat)(H:List TO):List Sl→List T→DT (List T×List T)
 | [],[]=> .ret ([],[])
 | .u::j,_::q=>rQ m H j q
 | .h::j,t::q=>(match zEt t with
  | some t=>(rQ m H j q).bind fun b=> .ret (t::b.1,b.2)
  | none=> .no)
 | .t x::j,t::q=>bif eqU 12 x t&&wD m 12 x then rQ m H j q else .no
 | .a g A e::j,t::q=>(match t with
  | .v (.slice none 0 0)=>(rQ m H j q).bind fun b=> .ret (b.1,.ls g A []::b.2)
  | .og i o n=>bif Nat.beq o 0 then(qWn g A e n (nth .gone H i)).bind fun x=>(rQ m H j q).bind fun b=> .ret (b.1,x::b.2)else .no
  | _=> .no)
 | _,_=> .no
def wG:List Sl→List T→List (Option Nat)
 | .a .. ::e,t::j=>(match t with | .og i _ _=>some i | _=>none)::wG e j
 | _::e,_::j=>wG e j
 | _,_=>[]
def mdE(g:Tg)(K V:Ty):TO→Option T
 | .mapd d=>bif g.le d.g then(match sI (.prod d.K d.V) (.prod K V) d.l with
  | some l=>some (.ls g (.prod K V) l)
  | none=>none)else none
 | .map []=>some (.ls g (.prod K V) [])
 | _=>none
def moD(g:Tg)(K V:Ty):List T→TO
 | [.ls _ A l]=>(match sI A (.prod K V) l with
  | some l=> .mapd ⟨g,K,V,l⟩
  | none=> .gone)
 | _=> .gone
def nA:List Sl→Nat
 | []=>0
 | .a .. ::e=>nA e+1
 | _::e=>nA e
def zJu(m:Nat)(j:List TO):List Ob'→List TO→DT (List (List T)×List T)
 | [],_=> .ret ([],[])
 | .g::os,_::H=>(zJu m j os H).bind fun r=> .ret ([]::r.1,r.2)
 | .r q e::os,.row z y::H=>bif Nat.beq e y then(rQ m j q z).bind fun a=>(zJu m j os H).bind fun r=> .ret (a.1::r.1,a.2++r.2)else .no
 | .m g K V::os,o::H=>(match mdE g K V o with
  | some t=>(zJu m j os H).bind fun r=> .ret ([t]::r.1,r.2)
  | none=> .no)
 | _,_=> .no
def lN:List Ob'→List TO→List (Option Nat)
 | .r e _::os,.row j _::H=>wG e j++lN os H
 | _::os,_::H=>lN os H
 | _,_=>[]
def isG:Ob'→Bool
 | .g=>true
 | _=>false
def zMj(m:Nat)(os:List Ob'):List (Option Nat)→Bool
 | []=>true
 | none::l=>zMj m os l
 | some i::l=>(!zJs i l&&(!Nat.blt i m||isG (nth .g os i)))&&zMj m os l
def fK(m:Nat)(e:Sp)(s:S):DT Hs:=bif zMj m e.os (wG e.ss s.L++lN e.os s.H)&&(Nat.beq (ln e.os) m&&Nat.ble m (ln s.H))then(rQ m s.H e.ss s.L).bind fun a=>(zJu m s.H e.os s.H).bind fun j=> .ret ⟨a.1,a.2++j.2,j.1⟩else .no
def rowT(j:Nat):T→T
 | .ls _ _ []=> .v (.slice none 0 0)
 | .ls _ _ (x::l)=> .og j 0 (x::l).length
 | _=> .u
def jEg(e:TypeId):T→TO
 | .ls _ _ []=> .gone
 | .ls g A (x::l)=> .gro (.d g A (x::l)) e
 | _=> .gone
def buL:List Sl→Nat→List T→List T→List T
 | .u::q,j,e,az=> .u::buL q j e az
 | .h::q,j,x::e,az=>x::buL q j e az
 | .t x::q,j,e,az=>x::buL q j e az
 | .a _ _ _::q,j,e,x::az=>rowT j x::buL q (j+1) e az
 | _,_,_,_=>[]
def buA:List Sl→List T→List TO
 | .a _ _ e::j,x::az=>jEg e x::buA j az
 | .a _ _ _::_,[]=>[]
 | _::j,az=>buA j az
 | [],_=>[]
def buO:List Ob'→Nat→List (List T)→List T→List TO
 | .g::os,j,_::q,az=> .gone::buO os j q az
 | .r y e::os,j,k::q,az=> .row (buL y j k (az.take (nA y))) e::buO os (j+nA y) q (fD az (nA y))
 | .m g K V::os,j,k::q,az=>moD g K V k::buO os j q az
 | _,_,_,_=>[]
def buB:List Ob'→List T→List TO
 | .r e _::os,az=>buA e (az.take (nA e))++buB os (fD az (nA e))
 | _::os,az=>buB os az
 | [],_=>[]
def bu(m:Nat)(e:Sp)(q:Hs):S:=⟨buL e.ss m q.hs (q.az.take (nA e.ss)),buO e.os (m+nA e.ss) q.ks (fD q.az (nA e.ss))++(buA e.ss (q.az.take (nA e.ss))++buB e.os (fD q.az (nA e.ss)))⟩
section
variable {P:Program}{E:Nat→Prop}{w0:World}{X:Hid}{F:List Nat}{H H':List TO}{B B':Bm}{w:World}{Y:Hid}{Mo:List (Nat×Obj)}{r:Rd}{m:Nat}
theorem chk_ok{A:Ty}:∀(k:Nat)(e:List T){l:List (List T)},chk A k e=some l→e=l.flatten
 | 0,e,l,h=>by cases h
 | k+1,[],l,h=>by cases h;rfl
 | k+1,t::e,l,h=>by
  simp only[chk]at h;cases j:dZ A.size (t::e)with
  | none=>simp[j]at h
  | some u=>
   simp only[j]at h;cases q:chk A k (fD (t::e) A.size)with
   | none=>simp[q]at h
   | some r'=>
    simp only[q,za]at h;subst h;obtain⟨_,rfl⟩:=zCl _ _ _ j;rw[gR,←chk_ok k _ q,zBe,jd]
theorem zGq{g:Tg}{A:Ty}:∀(l:List (List T))(p:List A.den){x:List A.den}{j:List Value},zQl g A l p=some x→zO B r (qP g A p++l.flatten) j→zO B r (qP g A x) j∧(qP g A x).length=(qP g A p++l.flatten).length
 | [],p,x,j,h,q=>by cases h;simpa using q
 | u::l,p,x,j,h,q=>by
  simp only[zQl]at h;cases z:mV g A u with
  | none=>simp[z]at h
  | some y=>
   simp only[z]at h;rw[gR,←qr]at q;have C:=zO.split (ts:=qP g A p++u) (us:=l.flatten) q;have e:=zO.split (ts:=qP g A p) (us:=u) C.1;obtain⟨I,J⟩:=fQ A z e.2;have G:zO B r (qP g A (y::p)++l.flatten) j:=by
    have:=(e.1.app I).app C.2;rw[jd,jd]at this;exact this
   obtain⟨g1,g2⟩:=zGq l (y::p) h G;refine⟨g1,?_⟩;rw[g2];simp only[qP,gR,qk,jO,J,xq]
theorem qMy{g:Tg}{A:Ty}{c:Cs}{x:List A.den}{C:List Value}(h:qEf g A c=some x)(q:zO B r c.list C):zO B r (qP g A x) C∧(qP g A x).length=c.list.length:=by
 unfold qEf at h;split at h
 ·rename_i y j J;cases I:g.le y with
  | false=>simp[I]at h
  | true=>
   simp only[I,ze]at h;obtain⟨rfl,he⟩:=fU h;obtain rfl:=ft he;have e:∀(l:List j.den),qP y j l=yA y j l.reverse:=fun l=>by rw[←mW,kf]
   have M:∀(l:List j.den),qP g j l=yA g j l.reverse:=fun l=>by rw[←mW,kf]
   refine⟨?_,?_⟩
   ·rw[M];have q:zO B r (qP y j J) C:=q;rw[e]at q;exact zHa (by simpa using I) j _ q
   ·show(qP g j J).length=(qP y j J).length;rw[wB,wB]
 ·rename_i z;cases G:chk A (ln z+1) z with
  | none=>simp[G]at h
  | some l=>
   simp only[G]at h;have e:=chk_ok _ _ G;have q:zO B r z C:=q;obtain⟨N,U⟩:=zGq l [] h (by simpa[qP,←e]using q)
   refine⟨N,?_⟩;rw[U];show([]++l.flatten).length=z.length;rw[j3,←e]
theorem pU{m:Nat}{H:List TO}:∀(j:List Sl)(q:List T){b:List T×List T},(rQ m H j q).run=some b→(wG j q).length=b.2.length
 | [],[],b,h=>by cases h;rfl
 | [],_::_,b,h=>by cases h
 | .u::j,[],b,h=>by cases h
 | .h::j,[],b,h=>by cases h
 | .t _::j,[],b,h=>by cases h
 | .a .. ::j,[],b,h=>by cases h
 | .u::j,t::q,b,h=>pU j q (b:=b) h
 | .h::j,t::q,b,h=>by
  simp only[rQ]at h;split at h
  ·obtain⟨y,z,C⟩:=zM h;cases C;exact pU (b:=y) j q z
  ·cases h
 | .t x::j,t::q,b,h=>by
  simp only[rQ]at h;cases G:eqU 12 x t&&wD m 12 x with
  | false=>rw[G]at h;cases h
  | true=>rw[G]at h;exact pU j q h
 | .a g A e::j,t::q,b,h=>by
  simp only[rQ]at h;split at h
  ·obtain⟨y,z,C⟩:=zM h;cases C;simp only[wG,z8,pU (b:=y) j q z]
  ·rename_i i o n;cases ho:Nat.beq o 0 with
   | false=>rw[ho]at h;cases h
   | true=>
    rw[ho,ze]at h;obtain⟨x,_,h⟩:=zM h;obtain⟨y,z,C⟩:=zM h;cases C;simp only[wG,z8,pU (b:=y) j q z]
  ·cases h
theorem dX{m:Nat}{H:List TO}:∀(j:List Sl)(q:List T){b:List T×List T},(rQ m H j q).run=some b→b.2.length=nA j
 | [],[],b,h=>by cases h;rfl
 | [],_::_,b,h=>by cases h
 | .u::j,[],b,h=>by cases h
 | .h::j,[],b,h=>by cases h
 | .t _::j,[],b,h=>by cases h
 | .a .. ::j,[],b,h=>by cases h
 | .u::j,t::q,b,h=>dX j q (b:=b) h
 | .h::j,t::q,b,h=>by
  simp only[rQ]at h;split at h
  ·obtain⟨y,z,C⟩:=zM h;cases C;exact dX (b:=y) j q z
  ·cases h
 | .t x::j,t::q,b,h=>by
  simp only[rQ]at h;cases G:eqU 12 x t&&wD m 12 x with
  | false=>rw[G]at h;cases h
  | true=>rw[G]at h;exact dX j q h
 | .a g A e::j,t::q,b,h=>by
  simp only[rQ]at h;split at h
  ·obtain⟨y,z,C⟩:=zM h;cases C;simp only[nA,z8,dX (b:=y) j q z]
  ·rename_i i o n;cases ho:Nat.beq o 0 with
   | false=>rw[ho]at h;cases h
   | true=>
    rw[ho,ze]at h;obtain⟨x,_,h⟩:=zM h;obtain⟨y,z,C⟩:=zM h;cases C;simp only[nA,z8,dX (b:=y) j q z]
  ·cases h
theorem zJc{a b:List T}{n:Nat}(h:a.length=n):(a++b).take n=a∧fD (a++b) n=b:=by
 subst h;rw[zBe];exact⟨uM,List.drop_left⟩
theorem zAn(V:∀i,i<m→B' i=B i)(U:B'.N=B.N):∀(z:List Sl)(G:List T)(j:Nat){b:List T×List T}{I:List Value},(rQ m H z G).run=some b→(∀(q i:Nat),(wG z G)[q]?=some (some i)→B' (j+q)=B i)→zO B r G I→zO B' r (buL z j b.1 b.2) I
 | [],[],j,b,I,h,_,C=>by
  cases h;cases I with
  | nil=>trivial
  | cons=>exact C.elim
 | [],_::_,j,b,I,h,_,_=>by cases h
 | .u::z,[],j,b,I,h,_,_=>by cases h
 | .h::z,[],j,b,I,h,_,_=>by cases h
 | .t _::z,[],j,b,I,h,_,_=>by cases h
 | .a .. ::z,[],j,b,I,h,_,_=>by cases h
 | _::_,_::_,_,_,[],_,_,C=>C.elim
 | .u::z,t::G,j,b,v::I,h,M,C=>⟨.u,zAn V U z G j (b:=b) h M C.2⟩
 | .h::z,t::G,j,b,v::I,h,M,C=>by
  simp only[rQ]at h;split at h
  ·rename_i t' ht;obtain⟨b',W,Z⟩:=zM h;cases Z;exact⟨zKy ht U C.1,zAn V U z G j W M C.2⟩
  ·cases h
 | .t x::z,t::G,j,b,v::I,h,M,C=>by
  simp only[rQ]at h;cases hc:eqU 12 x t&&wD m 12 x with
  | false=>rw[hc]at h;cases h
  | true=>
   rw[hc]at h;simp only[zd]at hc;have e:=lY 12 x t hc.1;subst e;exact⟨Rep.low V U 12 hc.2 C.1,zAn V U z G j (b:=b) h M C.2⟩
 | .a g A e::z,t::G,j,b,v::I,h,M,C=>by
  have hq':∀(q i:Nat),(wG z G)[q]?=some (some i)→B' (j+1+q)=B i:=fun q i e=>by
   have:=M (q+1) i (by simpa[wG]using e)
   rwa[show j+(q+1)=j+1+q by omega]at this
  simp only[rQ]at h;split at h
  ·obtain⟨b',W,Z⟩:=zM h;cases Z;refine⟨?_,zAn V U z G (j+1) W hq' C.2⟩;obtain⟨rfl,hs⟩:=C.1.vI;exact .v hs
  ·rename_i i o n;cases ho:Nat.beq o 0 with
   | false=>rw[ho]at h;cases h
   | true=>
    rw[ho,ze]at h;obtain⟨x,J,h⟩:=zM h;obtain⟨b',W,Z⟩:=zM h;cases Z;refine⟨?_,zAn V U z G (j+1) W hq' C.2⟩;obtain rfl:=zY ho;unfold qWn at J;split at J
    ·rename_i c e' hn;cases he:Nat.beq e e' with
     | false=>rw[he]at J;cases J
     | true=>
      rw[he,ze]at J;split at J
      ·rename_i y l hl;obtain⟨k1,k2⟩:=zT J;cases k2;obtain rfl:=zY k1;have hBj:B' j=B i:=by
        have:=M 0 i rfl;simpa using this
       have hv:=C.1;cases hv with
       | og g1 g2 g3 g4=>exact .og (by rw[hBj];exact g1) g2 g3 g4
      ·cases J
    ·cases J
  ·cases h
end
section
variable {P:Program}{E:Nat→Prop}{w0:World}{X:Hid}{F:List Nat}{H H':List TO}{B B':Bm}{w:World}{Y:Hid}{Mo:List (Nat×Obj)}{r:Rd}{m:Nat}{n:Nat}{a:Act}{D:List Deferred}{s:S}
def reB(B:Bm)(m:Nat)(e:List (Option Nat)):Bm:=⟨fun i=>if i<m then B i else match e[i-m]? with
 | some (some j)=>B j
 | _=>none,B.N⟩
theorem zGg{e:List (Option Nat)}{i:Nat}(h:i<m):reB B m e i=B i:=qj h
theorem zPc{e:List (Option Nat)}{q j:Nat}(h:e[q]?=some (some j)):reB B m e (m+q)=B j:=by
 show(if m+q<m then B (m+q)else _)=_
 rw[ql (by omega),j4,h]
theorem zWk{j:Bm}{q:List (Option Nat)}(h:BLe j B)(hm:∀i,m≤i→j i=none):BLe j (reB B m q):=⟨fun i p e=>by
 have y:i<m:=by
  rcases qi i m with h | h
  ·exact h
  ·rw[hm i h]at e;cases e
 rw[zGg y];exact h i p e,h.n⟩
theorem bD:∀(j:List Sl)(z:List T){b:List T×List T},(rQ m H j z).run=some b→(buA j b.2).length=(wG j z).length∧
  ∀(q:Nat)(o:TO),(buA j b.2)[q]?=some o→o≠.gone→∃(i:Nat)(c:Cs)(g:Tg)(A:Ty)(x:List A.den)(e:TypeId),o= .gro (.d g A x) e∧(wG j z)[q]?=some (some i)∧nth .gone H i= .gro c e∧qEf g A c=some x
 | [],[],b,h=>by cases h;exact⟨rfl,fun q o e=>by simp[buA]at e⟩
 | [],_::_,b,h=>by cases h
 | .u::j,[],b,h=>by cases h
 | .h::j,[],b,h=>by cases h
 | .t _::j,[],b,h=>by cases h
 | .a .. ::j,[],b,h=>by cases h
 | .u::j,t::z,b,h=>bD j z (b:=b) h
 | .h::j,t::z,b,h=>by
  simp only[rQ]at h;split at h
  ·obtain⟨I,M,N⟩:=zM h;cases N;exact bD (b:=I) j z M
  ·cases h
 | .t x::j,t::z,b,h=>by
  simp only[rQ]at h;cases hc:eqU 12 x t&&wD m 12 x with
  | false=>rw[hc]at h;cases h
  | true=>rw[hc]at h;exact bD (b:=b) j z h
 | .a g A e::j,t::z,b,h=>by
  simp only[rQ]at h;split at h
  ·obtain⟨I,M,N⟩:=zM h;cases N;obtain⟨W,Z⟩:=bD (b:=I) j z M;refine⟨by simp only[buA,wG,z8,W],fun q o ho C=>?_⟩
   cases q with
   | zero=>simp only[buA,jEg,jm,za]at ho;exact absurd ho.symm C
   | succ q=>
    obtain⟨i,c,V,U,x,J,r1,r2,r3⟩:=Z q o (by simpa[buA]using ho) C
    exact⟨i,c,V,U,x,J,r1,by simpa[wG]using r2,r3⟩
  ·rename_i i o n;cases ho:Nat.beq o 0 with
   | false=>rw[ho]at h;cases h
   | true=>
    rw[ho,ze]at h;obtain⟨x,G,h⟩:=zM h;obtain⟨I,M,N⟩:=zM h;cases N;obtain⟨W,Z⟩:=bD (b:=I) j z M;refine⟨by simp only[buA,wG,z8,W],fun q o ho C=>?_⟩
    cases q with
    | succ q=>
     obtain⟨i,c,V,U,x,J,r1,r2,r3⟩:=Z q o (by simpa[buA]using ho) C
     exact⟨i,c,V,U,x,J,r1,by simpa[wG]using r2,r3⟩
    | zero=>
     unfold qWn at G;split at G
     ·rename_i c J hn;cases he:Nat.beq e J with
      | false=>rw[he]at G;cases G
      | true=>
       rw[he,ze]at G;obtain rfl:=zY he;split at G
       ·rename_i y l hl;obtain⟨q1,q2⟩:=zT G;cases q2;simp only[buA,jEg,jm,za]at ho;subst ho;exact⟨i,c,g,A,y::l,e,rfl,rfl,hn,hl⟩
       ·cases G
     ·cases G
  ·cases h
def qDe(H l:List TO)(s:List (Option Nat)):Prop:=l.length=s.length∧∀(q:Nat)(o:TO),l[q]?=some o→o≠.gone→∃(i:Nat)(c:Cs)(g:Tg)(A:Ty)(x:List A.den)(e:TypeId),o= .gro (.d g A x) e∧s[q]?=some (some i)∧nth .gone H i= .gro c e∧qEf g A c=some x
theorem zXf{M N:List TO}{U V:List (Option Nat)}(j:qDe H M U)(I:qDe H N V):qDe H (M++N) (U++V):=by
 refine⟨by rw[qk,qk,j.1,I.1],fun q o ho y=>?_⟩
 rw[ww]at ho;split at ho
 ·rename_i J;obtain⟨i,c,g,A,x,e,z,C,G⟩:=j.2 q o ho y;exact⟨i,c,g,A,x,e,z,by rw[qf (by rw[←j.1];exact J)];exact C,G⟩
 ·rename_i J;obtain⟨i,c,g,A,x,e,z,C,G⟩:=I.2 _ o ho y;exact⟨i,c,g,A,x,e,z,by rw[je (by rw[←j.1];omega),←j.1];exact C,G⟩
theorem qEg(e:List Sl)(j:List T){b:List T×List T}(h:(rQ m H e j).run=some b):qDe H (buA e b.2) (wG e j):=bD e j h
theorem zFp{C:List TO}:∀(os:List Ob')(H:List TO){j:List (List T)×List T},(zJu m C os H).run=some j→qDe C (buB os j.2) (lN os H)
 | [],H,j,h=>by cases h;exact⟨rfl,fun q o e=>by simp[buB]at e⟩
 | .g::os,[],j,h=>by cases h
 | .r _ _::os,[],j,h=>by cases h
 | .m _ _ _::os,[],j,h=>by cases h
 | .g::os,x::H,j,h=>by
  obtain⟨y,z,A⟩:=zM h;cases A;have:=zFp os H z;simpa only[buB,lN]using this
 | .m g K V::os,x::H,j,h=>by
  simp only[zJu]at h;split at h
  ·obtain⟨y,z,A⟩:=zM h;cases A;have:=zFp os H z;simpa only[buB,lN]using this
  ·cases h
 | .r G e::os,x::H,j,h=>by
  cases x with
  | row I J=>
   simp only[zJu]at h;cases he:Nat.beq e J with
   | false=>rw[he]at h;cases h
   | true=>
    rw[he,ze]at h;obtain⟨b,hb,h⟩:=zM h;obtain⟨y,z,A⟩:=zM h;cases A;obtain⟨M,N⟩:=zJc (b:=y.2) (dX G I hb);simp only[buB,lN,M,N];exact zXf (qEg G I hb) (zFp os H z)
  | _=>cases h
def Obx(P:Program)(m:Nat)(e:List (Option Nat))(j o:TO):Prop:=vU j=true∧(∀z,o≠.fz z)∧∀(B B':Bm)(r:Rd)(C:Nat)(y:Obj),(∀i,i<m→B' i=B i)→(∀(q i:Nat),e[q]?=some (some i)→B' (m+q)=B i)→B'.N=B.N→RO P B r C j y→RO P B' r C o y
theorem qSi{g e:Tg}{V:Ty}{x:V.den}{v:Value}(h:e.le g=true)(I:B'.N=B.N)(j:Rep B r (unT g V x) v):Rep B' r (unT e V x) v:=by
 have J:=jO g V x;have M:=jO e V x;have y:∀z,zO B r (zZ g V x) z→zO B' r (zZ e V x) z:=fun z hv=>bM (g:=e) (A:=V) I (nH e V x) (bH h V x hv);by_cases C:V.size=1
 ·obtain⟨t,ht⟩:=vw.1 (J.trans C);obtain⟨U,q⟩:=vw.1 (M.trans C);unfold unT at j ⊢;rw[ht]at j;rw[q];have:=y [v] (by rw[ht];exact⟨j,trivial⟩)
  rw[q]at this;exact this.1
 ·have one:∀(g:Tg),unT g V x= .ag (zZ g V x):=fun g=>by
   have l:=jO g V x;unfold unT;split
   ·rename_i t ht;rw[ht]at l;exact absurd l.symm C
   ·rfl
  rw[one]at j ⊢;obtain⟨z,rfl,G⟩:=j.agI;exact Rep.mkAg (y z G)
theorem zQu{g j:Tg}{K V:Ty}(h:j.le g=true)(q:B'.N=B.N):∀(l:List (K.den×V.den))(es:List MapEntry),xR B r (l.map fun e=>(vG K e.1,unT g V e.2)) es→xR B' r (l.map fun e=>(vG K e.1,unT j V e.2)) es
 | [],[],_=>trivial
 | _::l,_::es,k=>⟨k.1,qSi h q k.2.1,zQu h q l es k.2.2⟩
 | [],_::_,k=>k.elim
 | _::_,[],k=>k.elim
theorem jBx{N:List (Option Nat)}{g:Tg}{K V:Ty}{x:TO}{t:T}(h:mdE g K V x=some t):Obx P m N x (moD g K V [t]):=by
 unfold mdE at h;split at h
 ·rename_i d;obtain⟨g0,K0,V0,l⟩:=d;cases I:g.le g0 with
  | false=>simp[I]at h
  | true=>
   simp only[I,ze]at h;split at h
   ·rename_i l' W;cases h;obtain⟨e,he⟩:=fU W;cases e;obtain rfl:=ft he;have y:sI (.prod K V) (.prod K V) l=some l:=W;have z:moD g K V [.ls g (.prod K V) l]= .mapd ⟨g,K,V,l⟩:=by
     show(match sI (.prod K V) (.prod K V) l with | some l=>TO.mapd ⟨g,K,V,l⟩ | none=> .gone)=_
     rw[y]
    rw[z];refine⟨rfl,fun cs e=>(by cases e),fun B B' r C ob _ _ U j=>?_⟩
    cases j with
    | mapd h G hb=>exact .mapd (zQu I U _ _ h) G hb
   ·cases h
 ·cases h;have y:sI (.prod K V) (.prod K V) ([]:List (Ty.prod K V).den)=some []:=by
   unfold sI;split
   ·rfl
   ·rename_i hn;exfalso;refine hn ?_;have q:∀A:Ty,A.beq A=true:=fun A=>by
     induction A with
     | int k=>simp[Ty.beq]
     | list A ih=>simpa[Ty.beq]using ih
     | prod A C J M=>simp[Ty.beq,J,M]
     | _=>rfl
    exact q _
  have z:moD g K V [.ls g (.prod K V) []]= .mapd ⟨g,K,V,[]⟩:=by
   show(match sI (.prod K V) (.prod K V) ([]:List (Ty.prod K V).den)with | some l=>TO.mapd ⟨g,K,V,l⟩ | none=> .gone)=_
   rw[y]
  rw[z];refine⟨rfl,fun cs e=>(by cases e),fun B B' r C ob _ _ U j=>?_⟩
  cases j with
  | @map l es Z h G hb=>
   refine .mapd ?_ G hb;show xR B' r [] es.toList;match es.toList,h with
   | [],_=>trivial
 ·cases h
theorem zOn{H0:List TO}{src:List (Option Nat)}:∀(os:List Ob')(H:List TO)(j:Nat){A:List (List T)×List T},(zJu m H0 os H).run=some A→(∀(q i:Nat),(lN os H)[q]?=some (some i)→src[j+q]?=some (some i))→(buO os (m+j) A.1 A.2).length=os.length∧os.length≤H.length∧
  ∀(i:Nat)(o:TO),(buO os (m+j) A.1 A.2)[i]?=some o→o≠.gone→isG (nth .g os i)=false∧∃o1,H[i]?=some o1∧Obx P m src o1 o
 | [],H,j,A,h,_=>by cases h;exact⟨rfl,qq _,fun i o e=>by simp[buO]at e⟩
 | .g::os,[],_,A,h,_=>by cases h
 | .r _ _::os,[],_,A,h,_=>by cases h
 | .m _ _ _::os,[],_,A,h,_=>by cases h
 | .g::os,_::H,j,A,h,J=>by
  obtain⟨G,U,W⟩:=zM h;cases W;obtain⟨M,Z,N⟩:=zOn os H j U J;refine⟨by simp only[buO,z8,M],by simpa using Z,fun i o ho y=>?_⟩
  cases i with
  | zero=>simp only[buO,jm,za]at ho;exact absurd ho.symm y
  | succ i=>simpa[lH]using N i o (by simpa[buO]using ho) y
 | .m g K V::os,x::H,j,A,h,J=>by
  simp only[zJu]at h;split at h
  ·rename_i t ht;obtain⟨G,U,W⟩:=zM h;cases W;obtain⟨M,Z,N⟩:=zOn os H j U (by simpa only[lN]using J)
   refine⟨by simp only[buO,z8,M],by simpa using Z,fun i o ho y=>?_⟩
   cases i with
   | succ i=>simpa[lH]using N i o (by simpa[buO]using ho) y
   | zero=>
    simp only[buO,jm,za]at ho;subst ho;exact⟨rfl,x,rfl,jBx ht⟩
  ·cases h
 | .r z e::os,x::H,j,A,h,J=>by
  cases x with
  | row I e'=>
   simp only[zJu]at h;cases he:Nat.beq e e' with
   | false=>rw[he]at h;cases h
   | true=>
    rw[he,ze]at h;obtain rfl:=zY he;obtain⟨b,hb,h⟩:=zM h;obtain⟨G,U,W⟩:=zM h;cases W;have hn:=dX z I hb;have hl:=pU z I hb;obtain⟨t1,t2⟩:=zJc (b:=G.2) hn;have hs0:∀(q i:Nat),(wG z I)[q]?=some (some i)→src[j+q]?=some (some i):=fun q i e=>J q i (by
     have hq:q<(wG z I).length:=(zh.1 e).1;show(wG z I++lN os H)[q]?=_;rw[qf hq];exact e)
    have hs1:∀(q i:Nat),(lN os H)[q]?=some (some i)→src[j+nA z+q]?=some (some i):=fun q i e=>by
     have:=J (nA z+q) i (by
      show(wG z I++lN os H)[nA z+q]?=_;rw[je (by omega),hl,hn,j4];exact e)
     rwa[xq]
    obtain⟨M,Z,N⟩:=zOn os H (j+nA z) U hs1;rw[←xq]at M N;refine⟨by simp only[buO,t2,z8,M],by simpa using Z,fun i o ho y=>?_⟩
    cases i with
    | succ i=>simpa[lH]using N i o (by simpa[buO,t2]using ho) y
    | zero=>
     simp only[buO,t1,jm,za]at ho;subst ho;refine⟨rfl,_,rfl,rfl,fun z e=>(by cases e),fun B B' r C ob hB hq hN hro=>?_⟩
     cases hro with
     | row hr=>
      refine .row ?_;exact zAn (H:=H0) hB hN z I (m+j) hb (fun q i e=>by
       have:=hq (j+q) i (hs0 q i e);rwa[←xq]at this) hr
  | _=>cases h
theorem zWo {os : List Ob'} : ∀ (l : List (Option Nat)), zMj m os l = true → (∀ (q i : Nat), l[q]? = some (some i) → m ≤ i ∨ isG (nth .g os i) = true) ∧ ∀ (q z i : Nat), l[q]? = some (some i) → l[z]? = some (some i) → q = z
  | [], _ => ⟨fun q i e => by simp at e, fun q z i e => by simp at e⟩
  | none :: l, h => by
    obtain ⟨I, J⟩ := zWo l h
    refine ⟨fun q i e => ?_, fun q z i e A => ?_⟩
    · cases q with
      | zero => simp at e
      | succ q => exact I q i (by simpa using e)
    · cases q with
      | zero => simp at e
      | succ q => cases z with
        | zero => simp at A
        | succ z => rw [J q z i (by simpa using e) (by simpa using A)]
  | some j :: l, h => by
    simp only [zMj, zd] at h
    obtain ⟨⟨N, G⟩, h⟩ := h
    obtain ⟨I, J⟩ := zWo l h
    have no : ∀ (q : Nat), l[q]? ≠ some (some j) := by
      have : ∀ (l : List (Option Nat)), zJs j l = false → ∀ q : Nat, l[q]? ≠ some (some j) := by
        intro l
        induction l with
        | nil => intro _ q e; simp at e
        | cons x l M =>
          intro C q e
          cases x with
          | none =>
            cases q with
            | zero => simp at e
            | succ q => exact M C q (by simpa using e)
          | some y =>
            simp only [zJs, xr] at C
            cases q with
            | zero => simp at e; subst e; simp at C
            | succ q => exact M C.2 q (by simpa using e)
      exact this l (by simpa using N)
    refine ⟨fun q i e => ?_, fun q z i e A => ?_⟩
    · cases q with
      | zero =>
        simp at e; subst e
        cases hb : Nat.blt j m with
        | false => left; have : ¬ j < m := fun hlt => by rw [← qv] at hlt; rw [hb] at hlt; cases hlt
                   omega
        | true => right; simpa [hb] using G
      | succ q => exact I q i (by simpa using e)
    · cases q with
      | zero =>
        simp at e; subst e
        cases z with
        | zero => rfl
        | succ z => exact absurd (by simpa using A) (no z)
      | succ q => cases z with
        | zero => simp at A; subst A; exact absurd (by simpa using e) (no q)
        | succ z => rw [J q z i (by simpa using e) (by simpa using A)]
theorem zUj{y:Sp}{q:Hs}(h:(fK m y s).run=some q)(hW:Wd P E w0 X F s.H B w Y Mo)(hF:FrT n a s.L D B (rd w Y)):
  ∃src,Wd P E w0 X F (bu m y q).H (reB B m src) w Y Mo∧FrT n a (bu m y q).L D (reB B m src) (rd w Y)∧m≤s.H.length:=by
 unfold fK at h;cases hc:zMj m y.os (wG y.ss s.L++lN y.os s.H)&&(Nat.beq (ln y.os) m&&Nat.ble m (ln s.H))with
 | false=>rw[hc]at h;cases h
 | true=>
  rw[hc,ze]at h;simp only[zd]at hc;obtain⟨c1,V,c3⟩:=hc;obtain⟨b,h1,h⟩:=zM h;obtain⟨I,h2,h3⟩:=zM h;cases h3;have V:=zY V;rw[qV]at V;have c3:m≤s.H.length:=by rw[←qV];exact jn c3
  obtain⟨s1,s2⟩:=zWo _ c1;obtain⟨a1,a2⟩:=zXf (qEg y.ss s.L h1) (zFp y.os s.H h2);have hn:=dX y.ss s.L h1;have M:=pU y.ss s.L h1;obtain⟨t1,t2⟩:=zJc (b:=I.2) hn;obtain⟨o1,o2,o3⟩:=zOn (P:=P) (src:=wG y.ss s.L++lN y.os s.H) y.os s.H (nA y.ss) h2 fun q i e=>by
   rw[je (by omega),M,hn,j4];exact e
  have hbu:bu m y ⟨b.1,b.2++I.2,I.1⟩=⟨buL y.ss m b.1 b.2,buO y.os (m+nA y.ss) I.1 I.2++(buA y.ss b.2++buB y.os I.2)⟩:=by
   unfold bu;simp only[t1,t2]
  rw[hbu];refine⟨wG y.ss s.L++lN y.os s.H,?_,⟨hF.size,?_,hF.defers⟩,c3⟩
  ·have J:∀{o:TO},vU o=true→o≠.gone:=fun h e=>by subst e;cases h
   have get:∀(i:Nat)(o:TO),(buO y.os (m+nA y.ss) I.1 I.2++(buA y.ss b.2++buB y.os I.2))[i]?=some o→vU o=true→(i<m∧(buO y.os (m+nA y.ss) I.1 I.2)[i]?=some o)∨(m≤i∧(buA y.ss b.2++buB y.os I.2)[i-m]?=some o):=fun i o ho M=>by
    rw[ww]at ho;split at ho
    ·rename_i z;rw[o1,V]at z;exact .inl ⟨z,ho⟩
    ·rename_i z;rw[o1,V]at z ho;exact .inr ⟨by omega,ho⟩
   refine hW.re (fun i=>if i<m then some i else(match(wG y.ss s.L++lN y.os s.H)[i-m]? with | some x=>x | none=>none)) rfl (fun i z=>?_) (fun i o ho M=>?_) (fun i cs hf=>?_) (fun i j k p1 p2 g1 l1 g2 l2 W Z=>?_)
   ·have hlen:(buO y.os (m+nA y.ss) I.1 I.2++(buA y.ss b.2++buB y.os I.2)).length=m+(wG y.ss s.L++lN y.os s.H).length:=by
     rw[qk,o1,V,a1]
    rw[hlen]at z;show(if i<m then B i else _)=none
    rw[ql (by omega),qe (by omega)]
   ·rcases get i o ho M with⟨z,ho⟩ | ⟨z,ho⟩
    ·obtain⟨_,o1',r2,r3,_,r4⟩:=o3 i o ho (J M);exact⟨i,o1',qj z,zGg z,r2,r3,fun C ob U=>r4 _ _ _ C ob (fun i z=>zGg z) (fun q i e=>zPc e) rfl U⟩
    ·obtain⟨j,c,g,A,x,e,r1,r2,r3,r4⟩:=a2 (i-m) o ho (J M);have N:=gG r3 (by simp)
     refine⟨j,_,?_,?_,N,rfl,fun C ob U=>?_⟩
     ·simp only[ql (show¬i<m by omega),r2]
     ·have:=zPc (B:=B) (m:=m) r2;rwa[Nat.add_sub_cancel' z]at this
     ·subst r1;cases U with
      | gro hi' hs hC hr=>
       obtain⟨k1,k2⟩:=qMy r4 hr;refine .gro hi' hs hC ?_;show zO _ _ (qP g A x) (List.take (qP g A x).length _);rw[k2];exact bM (g:=g) (A:=A) (B:=B) (B':=reB B m (wG y.ss s.L++lN y.os s.H)) rfl (zAa g A x) k1
   ·have hf:(buO y.os (m+nA y.ss) I.1 I.2++(buA y.ss b.2++buB y.os I.2))[i]?=some (.fz cs):=hf;rw[ww]at hf;split at hf
    ·obtain⟨_,_,_,_,e,_⟩:=o3 i _ hf (by simp)
     exact e cs rfl
    ·obtain⟨_,_,_,_,_,_,e,_⟩:=a2 _ _ hf (by simp)
     cases e
   ·have G:∀(i:Nat)(o:TO),(buO y.os (m+nA y.ss) I.1 I.2++(buA y.ss b.2++buB y.os I.2))[i]?=some o→vU o=true→i<m→isG (nth .g y.os i)=false:=fun i o ho M z=>by
     rcases get i o ho M with⟨_,ho⟩ | ⟨h,_⟩
     ·exact(o3 i o ho (J M)).1
     ·omega
    have S:∀{i k:Nat},m≤i→(if i<m then some i else(match(wG y.ss s.L++lN y.os s.H)[i-m]? with | some x=>x | none=>none))=some k→(wG y.ss s.L++lN y.os s.H)[i-m]?=some (some k):=fun{i k}z e=>by
     rw[ql (by omega)]at e
     split at e
     ·rename_i x hx;rw[hx,e]
     ·cases e
    rcases qi i m with z | z<;>rcases qi j m with N | N
    ·rw[qj z]at W;rw[qj N]at Z;cases W;cases Z;rfl
    ·rw[qj z]at W;cases W;rcases s1 _ _ (S N Z)with h | h
     ·omega
     ·rw[G i p1 g1 l1 z]at h;cases h
    ·rw[qj N]at Z;cases Z;rcases s1 _ _ (S z W)with h | h
     ·omega
     ·rw[G j p2 g2 l2 N]at h;cases h
    ·have:=s2 _ _ _ (S z W) (S N Z);omega
  ·exact zAn (H:=s.H) (fun i z=>zGg z) rfl y.ss s.L m h1 (fun q i e=>zPc (by
    have hq:q<(wG y.ss s.L).length:=(zh.1 e).1;rw[qf hq];exact e)) hF.reps
end
structure Lp where
 m:Nat
 sp:Sp
 sx:Sp
 sr:Sp
def Lp.bx(l:Lp):Ex×Hs→Ex×S
 | (.r,q)=>(.r,bu l.m l.sr q)
 | (e,q)=>(e,bu l.m l.sx q)
def Lp.end_(l:Lp):Ex×S→DT (Hs⊕(Ex×Hs))
 | (.n,s)=>(fK l.m l.sp s).bind fun q=> .ret (.inl q)
 | (.x id,s)=>(fK l.m l.sx s).bind fun q=> .ret (.inr (.x id,q))
 | (.r,s)=>(fK l.m l.sr s).bind fun q=> .ret (.inr (.r,q))
 | _=> .no
def Lp.stp(l:Lp)(rn:Rd')(f:Nat)(p:List Bool)(x:Code)(q:Hs):Option (Hs⊕(Ex×Hs)):=((rn f (false::p) x (bu l.m l.sp q)).bind l.end_).run
inductive It (st:Hs→Option (Hs⊕(Ex×Hs))):Nat→Hs→Ex×Hs→Prop
  | out {q:Hs} {y:Ex×Hs} (h:st q=some (.inr y)):It st 0 q y
  | go {n:Nat} {q q':Hs} {y:Ex×Hs} (h:st q=some (.inl q')) (k:It st n q' y):It st (n+1) q y
section
variable {P:Program}{OD:Od}{LO:Lo}{rn:Rd'}{l:Lp}{f:Nat}{p:List Bool}{x:Code}{s:S}
theorem qPy(hrn:mM P rn)(hc:cAt P f p=some (.loop x)){n:Nat}{q:Hs}{y:Ex×Hs}(hm:l.m=s.H.length)(h0:(fK l.m l.sp s).run=some q)(h:It (l.stp rn f p x) n q y):Tr P (.loop x) s (l.bx y).1 (l.bx y).2:=by
 intro E w0 X F n0 a D B w Y Mo rr Q hr hW hF hA;have c1:cAt P f (false::p)=some x:=by simp[cAt,hc,aQ]
 have hr1:rr=none∨noR x=true:=hr.imp id fun h=>by simpa[noR]using h
 have hBm:∀i,l.m≤i→B i=none:=fun i hi=>hW.nn i (by rw[←hm];exact hi)
 refine lZ (γ:=Nat×Hs×List Nat) (fun g a2 w2=>It (l.stp rn f p x) g.1 g.2.1 y∧∃B' Y' C,(noR x=true→g.2.2=[])∧Wd P E w0 X (g.2.2++F) (bu l.m l.sp g.2.1).H B' w2 Y' C∧FrT n0 a2 (bu l.m l.sp g.2.1).L (g.2.2.map Gv.mark++D) B' (rd w2 Y')∧BLe B B'∧Le (rd w Y) (rd w2 Y'))
  (fun g=>g.1) (n,q,[]) ?_ ?_
 ·obtain⟨src,k1,k2,_⟩:=zUj h0 hW hF;exact⟨h,_,Y,Mo,fun _=>rfl,k1,k2,zWk (BLe.refl B) hBm,Le.refl _⟩
 ·rintro⟨j,q0,I⟩ a0 w1 ⟨hit,B1,Y1,Mo1,hb1,g1,g2,g3,g4⟩;simp only at hit hb1 g1 g2;have st:∀{z:Hs⊕(Ex×Hs)},l.stp rn f p x q0=some z→∃M N,(rn f (false::p) x (bu l.m l.sp q0)).run=some (M,N)∧(l.end_ (M,N)).run=some z:=fun h=>by
   obtain⟨⟨M,N⟩,h1,U⟩:=zM h;exact⟨M,N,h1,U⟩
  have fin:∀{N:S}{a':Act}{w':World}{B':Bm}{Y':Hid}{C:List (Nat×Obj)}{bs:List Nat}{sp:Sp}{A:Hs},(fK l.m sp N).run=some A→Wd P E w0 X (bs++(I++F)) N.H B' w' Y' C→FrT n0 a' N.L (bs.map Gv.mark++(I.map Gv.mark++D)) B' (rd w' Y')→BLe B B'→
    ∃W,Wd P E w0 X (bs++I++F) (bu l.m sp A).H W w' Y' C∧FrT n0 a' (bu l.m sp A).L ((bs++I).map Gv.mark++D) W (rd w' Y')∧BLe B W:=fun hq k1 k2 k3=>by
   obtain⟨src,J,G,_⟩:=zUj hq k1 k2;exact⟨_,by rw[qr];exact J,by rw[xw,qr];exact G,zWk k3 hBm⟩
  have out:∀{M:Ex}{N:S},(rn f (false::p) x (bu l.m l.sp q0)).run=some (M,N)→((∃A,(fK l.m l.sp N).run=some A∧M= .n∧∃j',j=j'+1∧It (l.stp rn f p x) j' A y)∨(∃A,(fK l.m l.sx N).run=some A∧(∃id,M= .x id)∧l.bx y=(M,bu l.m l.sx A))∨(∃A,(fK l.m l.sr N).run=some A∧M= .r∧l.bx y=(M,bu l.m l.sr A)))→
    x.wpIn (FF rr) 0 P (Exit.then (fun a' w'=>∃Z:Nat×Hs×List Nat,(It (l.stp rn f p x) Z.1 Z.2.1 y∧∃B' Y' C,(noR x=true→Z.2.2=[])∧Wd P E w0 X (Z.2.2++F) (bu l.m l.sp Z.2.1).H B' w' Y' C∧FrT n0 a' (bu l.m l.sp Z.2.1).L (Z.2.2.map Gv.mark++D) B' (rd w' Y')∧BLe B B'∧Le (rd w Y) (rd w' Y'))∧Z.1<j) Q) a0 w1:=fun h1 hh=>by
   refine hrn _ _ _ _ _ _ c1 h1 E w0 X _ n0 a0 _ B1 w1 Y1 Mo1 rr _ hr1 g1 g2 fun a' w' B' Y' C bs hbs k1 k2 k3 k4=>?_;have V:noR x=true→bs++I=[]:=fun e=>by rw[hbs e,hb1 e];rfl
   rcases hh with⟨A,hq,rfl,j',rfl,hit'⟩ | ⟨A,hq,⟨id,rfl⟩,hy⟩ | ⟨A,hq,rfl,hy⟩
   ·obtain⟨W,J,G,r3⟩:=fin hq k1 k2 (g3.trans k3);exact⟨(j',A,bs++I),⟨hit',W,Y',C,V,J,G,r3,g4.trans k4⟩,x7 j'⟩
   ·obtain⟨W,J,G,r3⟩:=fin hq k1 k2 (g3.trans k3);rw[hy]at hA;exact hA a' w' W Y' C (bs++I) (fun e=>V (by simpa[noR]using e)) J G r3 (g4.trans k4)
   ·obtain⟨W,J,G,r3⟩:=fin hq k1 k2 (g3.trans k3);rw[hy]at hA;exact hA a' w' W Y' C (bs++I) (fun e=>V (by simpa[noR]using e)) J G r3 (g4.trans k4)
  cases hit with
  | go h k=>
   obtain⟨M,N,h1,U⟩:=st h;refine out h1 ?_;cases M with
   | n=>obtain⟨A,J,G⟩:=zM U;cases G;exact .inl ⟨_,J,rfl,_,rfl,k⟩
   | x id=>obtain⟨A,J,G⟩:=zM U;cases G
   | r=>obtain⟨A,J,G⟩:=zM U;cases G
   | p t=>cases U
  | out h=>
   obtain⟨M,N,h1,U⟩:=st h;refine out h1 ?_;cases M with
   | n=>obtain⟨A,J,G⟩:=zM U;cases G
   | x id=>obtain⟨A,J,G⟩:=zM U;cases G;exact .inr (.inl ⟨A,J,⟨id,rfl⟩,rfl⟩)
   | r=>obtain⟨A,J,G⟩:=zM U;cases G;exact .inr (.inr ⟨A,J,rfl,rfl⟩)
   | p t=>cases U
def Lp.row(l:Lp)(h:Hs→DT (Ex×Hs))(s:S):DT (Ex×S):=bif Nat.beq l.m (ln s.H)then(fK l.m l.sp s).bind fun q=>(h q).bind fun y=> .ret (l.bx y)else .no
def eqP:List Bool→List Bool→Bool
 | [],[]=>true
 | a::p,b::q=>qBd a b&&eqP p q
 | _,_=>false
theorem zUy:∀{p q:List Bool},eqP p q=true→p=q
 | [],[],_=>rfl
 | a::p,b::q,h=>by
  simp only[eqP,zd]at h;rw[zUy h.2];congr 1;cases a<;>cases b<;>first | rfl | cases h.1
def loT:List (Nat×List Bool×(S→DT (Ex×S)))→Lo
 | [],_,_,_=>none
 | (g,e,h)::l,f,p,s=>bif Nat.beq g f&&eqP e p then some (h s)else loT l f p s
theorem qA:vJ P (loT []):=fun _ _ _ _ h=>by cases h
theorem jP{t:List (Nat×List Bool×(S→DT (Ex×S)))}(ht:vJ P (loT t)){h:Hs→DT (Ex×Hs)}(A:mM P rn)(G:cAt P f p=some (.loop x))(hh:∀q y,(h q).run=some y→∃n,It (l.stp rn f p x) n q y):vJ P (loT ((f,p,l.row h)::t)):=by
 intro C I s d hd Z z e s' j;simp only[loT]at hd;cases hb:Nat.beq f C&&eqP p I with
 | false=>rw[hb,zf]at hd;exact ht C I s d hd Z z e s' j
 | true=>
  rw[hb,ze]at hd;cases hd;simp only[zd]at hb;obtain rfl:=zY hb.1;obtain rfl:=zUy hb.2;rw[G]at z;cases z;unfold Lp.row at j;cases hm:Nat.beq l.m (ln s.H)with
  | false=>rw[hm]at j;cases j
  | true=>
   rw[hm,ze]at j;have hm:=zY hm;rw[qV]at hm;obtain⟨q,M,N⟩:=zM j;obtain⟨y,U,V⟩:=zM N;obtain⟨n,W⟩:=hh q y U;have:=qPy A G hm M W;have J:l.bx y=(e,s'):=qy V;rw[J]at this;exact this
end
@[match_pattern] abbrev limsT:Ty:= .list .lim
@[match_pattern] abbrev zL:Ty:= .prod .bool (.prod (.list .lim) (.list .lim))
def jEf(A:Ty):T→Option (List A.den)
 | .ls _ e l=>sI e A l
 | .v (.slice none 0 0)=>some []
 | .sl j n=>bif fH A then(match dZ (n*A.size) j with
  | some us=>(match chk A (n+1) us with
   | some l=>(match zQl .a A l []with
    | some x=>bif Nat.beq (ln x) n then some x.reverse else none
    | none=>none)
   | none=>none)
  | none=>none)else none
 | _=>none
def qNf:Ty→T→Option T
 | .list A,t=>(match jEf A t with
  | some l=>some (.ls .a A l)
  | none=>none)
 | .prod A B,.ag j=>(match mV .a (.prod A B) j with
  | some x=>some (.ag (zZ .a (.prod A B) x))
  | none=>none)
 | .int k,.v (.int e a)=>bif Nat.beq (kind k) (kind e)then some (.v (.int e a))else none
 | .bool,.v (.bool b)=>some (.v (.bool b))
 | .str,.v (.string b)=>some (.v (.string b))
 | _,_=>none
def zQe:List Ty→List T→Option (List T)
 | [],[]=>some []
 | A::e,t::j=>(match qNf A t,zQe e j with
  | some x,some r=>some (x::r)
  | _,_=>none)
 | _,_=>none
section
variable {P:Program}{B:Bm}{r:Rd}{f k:Nat}{az cz:List T}{tv:T}{nw:Bool}
theorem zGk.of_flat{p:Nat→Prop}{g:Tg}{A:Ty}{x:List A.den}{z:List Value}{b o c:Nat}(hg:∀(A:Ty)(l:List A.den)(v:Value),Rep B r (.ls g A l) v→jE r p (.list A) l [v])(W:fH A=true)(h:zO B r (qP g A x) z)(hr:∀(j:Nat)(v:Value),z[j]?=some v→r ⟨b,o+j,none⟩=some v)(hp:p b)(Z:x.length≤c)(hm:c≤maxLen):
  zGk r p A.size (fun y us=>jE r p A y us) (some ⟨b,o,none⟩) c x.reverse:=by
 refine⟨by simpa using Z,hm,.inr ⟨b,o,rfl,hp,fun j y N=>?_⟩⟩
 have hj:j<x.length:=by
  have:=(zh.1 N).1;simpa using this
 have M:x.length*A.size=z.length:=by
  have:=h.length;rwa[wB]at this
 have I:(j+1)*A.size≤x.length*A.size:=qw _ hj;rw[q8,vx]at I;have G:((z.drop (j*A.size)).take A.size).length=A.size:=by
  rw[jl,xj];omega
 have e:∀(q:Nat)(v:Value),((z.drop (j*A.size)).take A.size)[q]?=some v→z[j*A.size+q]?=some v:=fun q v C=>by
  rw[qh]at C;split at C
  ·rwa[jq]at C
  ·cases C
 refine⟨(z.drop (j*A.size)).take A.size,G,?_,fun q v C=>hr _ _ (e q v C)⟩;refine jE.of_reps (B2:=B) hg A W y _ (zO.of (by rw[jO,G]) fun q t v ht hv=>?_)
 have U:=zDe g A x j y N q t ht;obtain⟨v',J,V⟩:=h.get U;rw[e q v hv]at J;cases J;exact V
theorem qRy{A:Ty}{t:T}{l:List A.den}{v:Value}(h:jEf A t=some l)(C:Rep B r t v):Rep B r (.ls .a A l) v:=by
 unfold jEf at h;split at h
 ·obtain⟨rfl,he⟩:=fU h;obtain rfl:=ft he;cases C with
  | ls h1=>exact .ls (jE.mono (Le.refl _) (fun b _=>Bm.In.any) _ _ _ h1)
 ·cases h;obtain⟨rfl,_⟩:=C.vI;exact .ls ⟨none,0,rfl,z6 _,qq _,.inl rfl⟩
 ·rename_i z n;cases J:fH A with
  | false=>rw[J]at h;cases h
  | true=>
   rw[J,ze]at h;split at h
   ·rename_i us hu;split at h
    ·rename_i ch N;split at h
     ·rename_i x hx;cases y:Nat.beq (ln x) n with
      | false=>rw[y]at h;cases h
      | true=>
       rw[y,ze]at h;cases h;have y:=zY y;rw[qV]at y;subst y;have hb:=C.dn;obtain⟨Z,c,rfl,hc,hh⟩:=C.slI;have hm:=C.slB;obtain⟨_,rfl⟩:=zCl _ _ _ hu;have he:=chk_ok _ _ N;rcases hh with⟨h0,rfl⟩ | ⟨b,o,rfl,U⟩
       ·have:=zy h0;subst this;exact .ls ⟨Z,c,rfl,qq _,hm,.inl rfl⟩
       ·obtain⟨fv,g1,g2⟩:=U.fun;have M:zO B r (z.take (x.length*A.size)) ((List.range (z.take (x.length*A.size)).length).map fv):=zO.of (by simp) fun j t v e W=>by
         rw[qt]at W;obtain⟨j',I,rfl⟩:=j8.1 W;have hj:=(zh.1 I);obtain⟨G,q⟩:=hj;rw[uF]at q;subst q;rw[qh]at e;split at e
         ·exact g2 _ _ e
         ·cases e
        have hk:=zGq ch [] hx (by simpa[qP,←he]using M)
        refine .ls ⟨some ⟨b,o,none⟩,c,by rw[xg],zGk.of_flat (g:= .a) (fun A l v h=>by cases h with | ls h=>exact h) J hk.1 (fun j v hv=>?_) Bm.In.any hc hm⟩
        rw[qt]at hv;obtain⟨j',I,rfl⟩:=j8.1 hv;obtain⟨G,q⟩:=zh.1 I;rw[uF]at q;subst q;have V:j<z.length:=by
         have:j<(z.take (x.length*A.size)).length:=by simpa using G
         exact qd this (List.length_take_le' _ _)
        exact g1 j z[j] (by simp[V])
     ·cases h
    ·cases h
   ·cases h
 ·cases h
theorem qNg{A:Ty}{t y:T}{v:Value}(h:qNf A t=some y)(e:Rep B r t v):Rep B r y v:=by
 unfold qNf at h;split at h
 ·split at h
  ·rename_i l z;cases h;exact qRy z e
  ·cases h
 ·split at h
  ·rename_i A C J x G;cases h;obtain⟨M,rfl,j⟩:=e.agI;exact Rep.mkAg (fQ _ G j).1
  ·cases h
 ·rename_i k I a;cases q:Nat.beq (kind k) (kind I)with
  | false=>rw[q]at h;cases h
  | true=>rw[q]at h;cases h;exact e
 ·cases h;exact e
 ·cases h;exact e
 ·cases h
theorem zQf:∀{y:List Ty}{az cz:List T}{q:List Value},zQe y az=some cz→zO B r az q→zO B r cz q
 | [],[],cz,q,h,e=>by cases h;exact e
 | A::y,t::C,cz,v::q,h,e=>by
  simp only[zQe]at h;cases j:qNf A t with
  | none=>simp[j]at h
  | some x=>
   cases z:zQe y C with
   | none=>simp[j,z]at h
   | some rr=>
    simp only[j,z,za]at h;subst h;exact⟨qNg j e.1,zQf z e.2⟩
 | [],_::_,_,_,h,_=>by cases h
 | _::_,[],_,_,h,_=>by cases h
 | _::_,_::_,_,[],_,e=>e.elim
theorem KnP.arg(h:KnP P k f cz tv nw)(ha:∀(B:Bm)(r:Rd)(e:List Value),zO B r az e→zO B r cz e):KnP P k f az tv nw:=fun B w X qQ R j A z y q=>h B w X qQ R j A z (ha B _ _ y) q
def odR(e:List Ty)(h:List T→DT (T×Bool))(az:List T):DT (T×Bool):=match zQe e az with
 | some cz=>h cz
 | none=> .no
def odT:List (Nat×(List T→DT (T×Bool)))→Od
 | [],_=>none
 | (g,h)::l,f=>bif Nat.beq g f then some h else odT l f
theorem jZ:wC P (odT []):=fun _ _ h=>by cases h
theorem zS{t:List (Nat×(List T→DT (T×Bool)))}{h:List T→DT (T×Bool)}(ht:wC P (odT t))(hh:∀az tv nw,(h az).run=some (tv,nw)→∀k,KnP P k f az tv nw):wC P (odT ((f,h)::t)):=by
 intro g j e;simp only[odT]at e;cases hb:Nat.beq f g with
 | false=>rw[hb,zf]at e;exact ht g j e
 | true=>rw[hb,ze]at e;cases e;obtain rfl:=zY hb;exact hh
theorem jI{j:List Ty}{h:List T→DT (T×Bool)}(hh:∀cz tv nw,(h cz).run=some (tv,nw)→∀k,KnP P k f cz tv nw):∀az tv nw,(odR j h az).run=some (tv,nw)→∀k,KnP P k f az tv nw:=fun az tv nw e k=>by
 unfold odR at e;split at e
 ·rename_i cz y;exact(hh cz tv nw e k).arg fun B r z q=>zQf y q
 ·cases e
theorem yN{OD:Od}{LO:Lo}(hm:P.follows .mixedOrders=true)(z:wC P OD)(y:vJ P LO){n:Nat}(h:((qF P (evD P OD LO n) f (cz.map (unN 12)) []).bind qJ).run=some (tv,nw))(e:(cz.all (clean 12)&&clean 12 tv)=true)(k:Nat):KnP P k f cz tv nw:=by
 obtain⟨⟨t,A⟩,j,q⟩:=zM h;simp only[zd]at e;exact(qGs (k:=0) hm (kM hm z y n) j q).clean e.1 e.2 k
def qBz:T→Option (List Nat)
 | .ls _ .lim l=>some l
 | t=>zVm t
def arX:T→Option Ar
 | .ag [.v (.bool b),x,y]=>(match qBz x,qBz y with
  | some l,some e=>some (.r ⟨b,l,e⟩)
  | _,_=>none)
 | t=>arT t
def zUg:List T→Option (List Ar)
 | []=>some []
 | t::l=>match arX t,zUg l with
  | some a,some r=>some (a::r)
  | _,_=>none
def unX:Ar→T
 | .r a=> .ag [.v (.bool a.neg),.ls .a .lim a.ln,.ls .a .lim a.ld]
 | .i n=> .v (.int .i64 n)
 | .b b=> .v (.bool b)
 | .s s=> .v (.string s)
def jFf:Rs→T
 | .one a=>unX a
 | .tup l=> .tu (l.map unX)
variable {X:Hid}{w:World}
theorem jBq{g:Tg}{l:List Nat}{v:Value}(h:Rep B (rd w X) (.ls g .lim l) v):∃y n c,v= .slice y n c∧zN (rd w X) y n c l:=by
 obtain⟨y,c,rfl,A,hm,hh⟩:=h.lsI;refine⟨y,_,c,rfl,rfl,A,hm,?_,?_⟩
 ·rcases hh with rfl | ⟨b,o,rfl,_,k⟩
  ·intro x q;cases q
  ·intro x q;obtain⟨i,z⟩:=qz q;obtain⟨C,_,g2,_⟩:=k i x z;exact g2.2
 ·rcases hh with rfl | ⟨b,o,rfl,_,k⟩
  ·exact .inl rfl
  ·refine .inr ⟨b,o,rfl,fun j v hv=>?_⟩;simp only[U32,qt]at hv;cases q:l[j]? with
   | none=>rw[q]at hv;cases hv
   | some x=>
    rw[q]at hv;cases hv;obtain⟨C,g1,g2,g3⟩:=k j x q;obtain⟨rfl,_⟩:=g2;have:=g3 0 _ rfl;rw[jU];have e:o+(j*Ty.lim.size+0)=o+j:=by show o+(j*1+0)=o+j;omega
    rwa[e]at this
theorem qHz{q:Option Addr}{n c:Nat}{l:List Nat}(h:zN (rd w X) q n c l):Rep B (rd w X) (.ls .a .lim l) (.slice q n c):=by
 have e:=h.hlen;subst e;refine .ls ⟨q,c,rfl,h.hcap,h.hbig,?_⟩;rcases h.hat with rfl | ⟨b,o,rfl,ha⟩
 ·exact .inl rfl
 ·refine .inr ⟨b,o,rfl,Bm.In.any,fun i x y=>⟨[.int .u32 (.ofNat x)],rfl,⟨rfl,h.hlt x (qg y)⟩,fun j v hv=>?_⟩⟩;cases j with
  | succ j=>simp at hv
  | zero=>
   cases hv;have:=ha i (.int .u32 (.ofNat x)) (by simp only[U32,qt,y];rfl)
   rw[jU]at this;have e:o+(i*Ty.lim.size+0)=o+i:=by show o+(i*1+0)=o+i;omega
   rwa[e]
theorem zYo{t:T}{l:List Nat}{v:Value}(h:qBz t=some l)(j:Rep B (rd w X) t v):∃e n c,v= .slice e n c∧zN (rd w X) e n c l:=by
 unfold qBz at h;split at h
 ·cases h;exact jBq j
 ·exact zOb h j
theorem qWt{t:T}{a:Ar}{v:Value}(h:arX t=some a)(z:Rep B (rd w X) t v):ArV X w a v:=by
 unfold arX at h;split at h
 ·rename_i b x y;cases e:qBz x with
  | none=>simp[e]at h
  | some l=>
   cases j:qBz y with
   | none=>simp[e,j]at h
   | some U=>
    simp only[e,j,za]at h;subst h;obtain⟨G,rfl,q⟩:=z.agI;match G,q with
    | [Z,v2,v3],⟨g1,g2,g3,_⟩=>
     obtain⟨rfl,_⟩:=g1.vI;obtain⟨I,V,M,rfl,A⟩:=zYo e g2;obtain⟨J,W,N,rfl,C⟩:=zYo j g3;exact⟨_,_,_,_,_,_,rfl,A,C⟩
 ·exact qEq h z
theorem zMz:∀{q:List T}{az:List Ar}{z:List Value},zUg q=some az→zO B (rd w X) q z→zTt X w az z
 | [],az,[],h,_=>by simp[zUg]at h;subst h;trivial
 | t::q,az,v::z,h,e=>by
  simp only[zUg]at h;cases j:arX t with
  | none=>simp[j]at h
  | some a=>
   cases y:zUg q with
   | none=>simp[j,y]at h
   | some r=>
    simp only[j,y,za]at h;subst h;exact⟨qWt j e.1,zMz y e.2⟩
 | [],_,_::_,_,e=>e.elim
 | _::_,_,[],_,e=>e.elim
theorem qLx{a:Ar}{v:Value}(h:ArV X w a v):Rep B (rd w X) (unX a) v:=by
 cases a with
 | r a=>
  obtain⟨_,_,_,_,_,_,rfl,e,j⟩:=h;exact Rep.mkAg (vs:=[.bool a.neg,_,_]) ⟨.v rfl,qHz e,qHz j,trivial⟩
 | i n=>cases h;exact .v rfl
 | b b=>cases h;exact .v rfl
 | s s=>cases h;exact .v rfl
theorem qAn:∀{az:List Ar}{e:List Value},zTt X w az e→zO B (rd w X) (az.map unX) e
 | [],[],_=>trivial
 | _::_,_::_,h=>⟨qLx h.1,qAn h.2⟩
 | [],_::_,h=>h.elim
 | _::_,[],h=>h.elim
theorem qAm{y:Rs}{v:Value}(h:RsV X w y v):Rep B (rd w X) (jFf y) v:=by
 cases y with
 | one a=>exact qLx h
 | tup l=>
  obtain⟨e,rfl,h⟩:=h;exact Rep.mkTu (qAn h)
def kcD(p:List Ar→Option Rs)(nw:Bool)(az:List T):DT (T×Bool):=match zUg az with
 | some az=>(ofO (p az)).bind fun y=> .ret (jFf y,nw)
 | none=> .no
theorem xK{p:List Ar→Option Rs}{nw j:Bool}(J:KC P f p nw):∀az tv,(kcD p nw az).run=some (tv,j)→∀k,KnP P k f az tv j:=by
 intro az tv h k;unfold kcD at h;split at h
 ·rename_i q A;obtain⟨y,z,C⟩:=zM h;rw[xY]at z;cases C;intro B w X qQ R _ _ I G M;refine(J w X I q qQ (zMz A G) y z).mono ?_;rintro e w' ⟨N,v,rfl,hv⟩;exact M v w' N (qAm hv)
 ·cases h
end
end
end Go.Ev

import Derived.Test.YtdfmdiakjdggbaaGreatDoorBaseA
import Derived.Test.YtdfmdiakjdggbaaGreatDoorBaseB
import Derived.Test.YtdfmdiakjdggbaaGreatDoorBaseC
import Derived.Test.YtdfmdiakjdggbaaGreatDoorBaseD
set_option linter.unusedVariables false
set_option linter.unusedSimpArgs false
set_option linter.unnecessarySimpa false
namespace Go.Ev
open Go Go.Gv Go.RowKit IntKind
theorem kM{l:Array Bool}{i:Nat}(h:i<l.size):(l.setIfInBounds i true).getD i false=true:=by simp[h]
def jBb(l:Array Bool)(j:Nat):Prop:=∀i,l.getD i false=decide (i<j)
theorem zQw{ops:Array Oper}{l:Array Bool}{j:Nat}{o:Oper}(z:l.size=ops.size)(ho:ops[j]?=some o)(y:l.getD j false=false)(q:∀e∈o.after,Region.binds .any e=true→l.getD e.on false=true):j∈Region.ready .any ops l:=by
 refine mem_ready.2 ⟨?_,o,ho,q⟩;have:j<l.size:=by rw[z];exact(Array.getElem?_eq_some_iff.1 ho).1
 simpa[this]using y
def zOa(l:Array Bool):Nat:=l.toList.countP (fun b=>!b)
theorem zBw{l:Array Bool}{i:Nat}(q:i<l.size)(h:l.getD i false=false):zOa (l.setIfInBounds i true)+1=zOa l:=by
 have y:l[i]=false:=by simpa[q]using h
 have e:i<l.toList.length:=by simpa using q
 have j:l.toList[i]'e=false:=by simpa using y
 unfold zOa;rw[Array.toList_setIfInBounds,List.countP_set e];have z:0<l.toList.countP (fun b=>!b):=List.countP_pos_iff.2 ⟨_,List.getElem_mem e,by simp[j]⟩
 simp only[j,Bool.not_false,if_true,Bool.not_true,Bool.false_eq_true,if_false];omega
theorem zUo{l:Array Bool}{j:Nat}(h:jBb l j)(C:j≤l.size):zOa l=l.size-j:=by
 have e:l.toList=List.replicate j true++List.replicate (l.size-j) false:=by
  apply List.ext_getElem?;intro i;rcases Nat.lt_or_ge i l.size with y | y
  ·have z:=h i;have A:l[i]=decide (i<j):=by simpa[y]using z
   rw[Array.getElem?_toList,Array.getElem?_eq_getElem y,A];rcases Nat.lt_or_ge i j with q | q
   ·rw[List.getElem?_append_left (by simpa using q)];simp[q]
   ·rw[List.getElem?_append_right (by simpa using q),List.length_replicate,List.getElem?_replicate,if_pos (by omega)]
    simp;omega
  ·rw[List.getElem?_eq_none (by simpa using y),List.getElem?_eq_none (by simp;omega)]
 unfold zOa;rw[e,List.countP_append,List.countP_replicate,List.countP_replicate];simp
section
variable {P:Program}{H:List TO}{k:Nat}{ρ ρ':Operand→T}{L L2:List T}{cl yd:Cl}{d:Option Nat}{ops:Array Oper}
theorem zSw(op:Op)(h:∀x∈op.operands,ρ x=ρ' x):zCg P H ρ op=zCg P H ρ' op:=by
 cases op with
 | call c=>
  simp only[zCg];split
  ·rename_i x y t G A e C;have j:∀z,z∈c.args.toList→z∈(Op.call c).operands:=fun z q=>by
    simp only[Op.operands,Call.operands,Array.mem_append];right;simpa using q
   rw[h x (j x (by rw[e];simp)),h y (j y (by rw[e];simp))]
  ·rename_i x y t G A e C;have j:∀z,z∈c.args.toList→z∈(Op.call c).operands:=fun z q=>by
    simp only[Op.operands,Call.operands,Array.mem_append];right;simpa using q
   rw[h x (j x (by rw[e];simp)),h y (j y (by rw[e];simp))]
  ·rfl
 | _=>simp only[zCg]<;>simp_all [Op.operands]
def Par(d:Option Nat)(L L2:List T):Option S→Option S→Prop
 | none,none=>True
 | some s,some e=>∃t,s.L=dst d t L∧e.L=dst d t L2∧s.H=e.H
 | _,_=>False
theorem qDn(r:T×Option TO):Par d L L2 (zOz d L H r) (zOz d L2 H r):=by
 obtain⟨t,ob⟩:=r;cases ob<;>exact⟨t,rfl,rfl,rfl⟩
theorem qDo(r:Option T×List TO):Par d L L2 (zPa d L r) (zPa d L2 r):=by
 obtain⟨t,H'⟩:=r;cases t with
 | some t=>exact⟨t,rfl,rfl,rfl⟩
 | none=>cases d with
  | none=>exact⟨.u,rfl,rfl,rfl⟩
  | some d=>trivial
theorem zGr(r:Option (T×List TO)):Par d L L2 (zCk d L r) (zCk d L2 r):=by
 cases r with
 | none=>trivial
 | some r=>exact⟨r.1,rfl,rfl,rfl⟩
theorem zYp(az:List T)(t:T):Par d L L2 (zEd P cl yd d L H az t) (zEd P cl yd d L2 H az t):=by
 cases t with
 | fn f cs=>
  simp only[zEd];cases jT P f with
  | true=>exact zGr _
  | false=>trivial
 | fb f bs=>
  simp only[zEd];cases jT P f with
  | true=>exact zGr _
  | false=>trivial
 | yl l=>exact zGr _
 | _=>trivial
theorem qMz(op:Op)(h:∀x∈op.operands,evO L x=evO L2 x):Par d L L2 (opC P cl yd d L H op) (opC P cl yd d L2 H op):=by
 cases op with
 | call c=>
  simp only[opC];split
  ·rename_i f e;rw[zCx (l:=c.args.toList) (ρ:=evO L) (ρ':=evO L2) (fun x j=>h x (by simp only[Op.operands,Call.operands,Array.mem_append];right;simpa using j)),h f (by simp[Op.operands,Call.operands,e])]
   exact zYp _ _
  ·trivial
 | _=>trivial
theorem qNb(o:Oper)(h:∀x∈o.op.operands,evO L x=evO L2 x)(C:∀j b p t,o.guard=some (j,b)→ops[j]?=some p→p.dst=some t→nth .u L t=nth .u L2 t):Par o.dst L L2 (opE P cl yd ops o ⟨L,H⟩) (opE P cl yd ops o ⟨L2,H⟩):=by
 have G:kK ops L o=kK ops L2 o:=by
  unfold kK;cases A:o.guard with
  | none=>rfl
  | some I=>
   obtain⟨j,b⟩:=I;cases z:ops[j]? with
   | none=>simp only[z]
   | some p=>
    cases hd:p.dst with
    | none=>simp only[z,hd]
    | some t=>simp only[z,hd,C j b p t A z hd]
 unfold opE;simp only[G];cases kK ops L2 o with
 | none=>trivial
 | some q=>cases q with
  | false=>exact⟨_,rfl,rfl,rfl⟩
  | true=>
   simp only[fU,lT o.op h];cases kX P H (ln H) (evO L2) o.op with
   | some r=>exact qDn r
   | none=>
    simp only[zQe,zSw o.op h];cases zCg P H (evO L2) o.op with
    | some r=>exact qDo r
    | none=>
     have e:=qMz (P:=P) (cl:=cl) (yd:=yd) (d:=o.dst) (H:=H) o.op h;revert e;cases opC P cl yd o.dst L H o.op with
     | some x=>cases opC P cl yd o.dst L2 H o.op with
      | some y=>exact fun e=>e
      | none=>exact fun e=>e.elim
     | none=>cases opC P cl yd o.dst L2 H o.op with
      | some y=>exact fun e=>e.elim
      | none=>
       intro _;simp only[qFv,aO o h];cases zBa P (evO L2) o with
       | none=>trivial
       | some t=>exact⟨t,rfl,rfl,rfl⟩
def lZ(P:Program)(L:List T)(p:Oper)(v:T):Prop:=(∀H k,kX P H k (evO L) p.op=some (v,none))∨((∀H k,kX P H k (evO L) p.op=none)∧zBa P (evO L) p=some v)
theorem fK{p:Oper}(h:yA p=true):p.guard=none:=by
 unfold yA at h;simp only[zd]at h;cases e:p.guard with
 | none=>rfl
 | some x=>rw[e]at h;cases h.1
theorem wJ{p:Oper}(h:yA p=true):(match p.op with | .move _ | .assign _ | .pick .. | .nilCheck _ | .binOp .. | .unOp .. | .convert .. | .slice .. | .fieldAddr .. | .field .. | .indexAddr .. | .index .. | .extract .. =>True | _=>False):=by
 unfold yA at h;simp only[zd]at h;have j:=h.2;split at j<;>first | (rename_i e;rw[e];trivial) | cases j
theorem bF{p:Oper}(h:yA p=true)(H H':List TO)(k j:Nat):kX P H k ρ p.op=kX P H' j ρ p.op:=by
 have:=wJ h;split at this<;>first | (rename_i e;rw[e];rfl) | exact this.elim
theorem qO{t:T}{z:T×Option TO}(h:val t=some z):z.2=none:=by unfold val at h;cases h;rfl
theorem jCu{t:Option T}{z:T×Option TO}(h:qAg t=some z):z.2=none:=by
 unfold qAg at h;cases t with
 | none=>cases h
 | some t=>cases h;rfl
theorem qDi{op:BinOp}{t:TypeId}{xs C:List T}{z:T×Option TO}(h:eq3 P op t xs C=some z):z.2=none:=by
 unfold eq3 at h;split at h
 ·rename_i i a j b k c q a' y G A c';cases e:wR P t (.prod (.int i) (.prod (.int j) (.int k)))&&(!P.eqGuardType P.depth t&&(Nat.beq (kind i) (kind q)&&(Nat.beq (kind j) (kind y)&&Nat.beq (kind k) (kind A))))with
  | false=>rw[e]at h;cases h
  | true=>
   rw[e,ze]at h;split at h<;>first | exact qO h | cases h
 ·cases h
theorem zKl{p:Oper}(h:yA p=true){z:T×Option TO}(j:kX P H k ρ p.op=some z):z.2=none:=by
 have:=wJ h;split at this;all_goals try exact this.elim
 all_goals rename_i e;rw[e]at j;simp only[kX]at j
 all_goals try exact qO j
 all_goals try cases j
 all_goals first | unfold zKx at j | unfold qNs at j | unfold zZs at j | unfold nN tL at j | unfold lS at j | unfold zNd at j | unfold sJ at j | unfold qNp at j | unfold zBg at j
 all_goals repeat' split at j
 all_goals try unfold zHk at j
 all_goals repeat' split at j
 all_goals try simp only[Bool.cond_eq_ite]at j
 all_goals repeat' split at j
 all_goals first | exact qO j | exact jCu j | exact qDi j | (cases j;done) | (cases j;rfl) | skip
theorem zKk{p:Oper}(h:yA p=true):zCg P H ρ p.op=none:=by
 have:=wJ h;split at this<;>first | (rename_i e;rw[e];rfl) | exact this.elim
theorem zPr{p:Oper}(h:yA p=true):opC P cl yd d L H p.op=none:=by
 have:=wJ h;split at this<;>first | (rename_i e;rw[e];rfl) | exact this.elim
theorem qLy{p:Oper}(h:yA p=true):kV p.op=true:=by
 have:=wJ h;split at this<;>first | (rename_i e;rw[e];rfl) | exact this.elim
theorem zTk{p:Oper}(h:yA p=true):pK L p.op=none:=by
 have:=wJ h;split at this<;>first | (rename_i e;rw[e];rfl) | exact this.elim
theorem zTl{p:Oper}{po:Po}(h:yA p=true):gG P po H L p.op=none:=by
 have:=wJ h;split at this<;>first | (rename_i e;rw[e];rfl) | exact this.elim
theorem zZd{p:Oper}{H0:List TO}{q:Option Nat}(h:yA p=true):zJa P H0 H q L p.op=none:=by
 have:=wJ h;split at this<;>first | (rename_i e;rw[e];rfl) | exact this.elim
theorem qEu{p:Oper}(h:yA p=true){v:T}(hv:lZ P L p v):opE P cl yd ops p ⟨L,H⟩=some ⟨dst p.dst v L,H⟩:=by
 unfold opE kK;rw[fK h];simp only[fU];rcases hv with hv | ⟨hv,e⟩
 ·rw[hv];rfl
 ·rw[hv];simp only[zQe,zKk h,zPr h,qFv,e]
theorem lZ.congr{p:Oper}{v:T}(hv:lZ P L p v)(h:∀x∈p.op.operands,evO L x=evO L2 x):lZ P L2 p v:=by
 rcases hv with hv | ⟨hv,e⟩
 ·exact .inl fun H k=>by rw[←lT p.op h];exact hv H k
 ·exact .inr ⟨fun H k=>by rw[←lT p.op h];exact hv H k,by rw[←aO p h];exact e⟩
theorem lZ.of_head{p:Oper}{po:Po}{H0 Hm j:List TO}{z:T×Option TO}(h:yA p=true)(e:xE P po H0 Hm j L ops p=some z):z.2=none∧lZ P L p z.1:=by
 unfold xE kK at e;rw[fK h]at e;simp only[mH,zTk h]at e;cases hp:kX P Hm (ln j) (evO L) p.op with
 | some y=>
  simp only[hp,za]at e;subst e;have A:=zKl h hp;refine⟨A,.inl fun H k=>?_⟩;rw[bF h H Hm k (ln j),hp];obtain⟨t,ob⟩:=y;cases A;rfl
 | none=>
  simp only[hp,zTl h,zZd h]at e;cases q:zBa P (evO L) p with
  | none=>simp[q]at e
  | some t=>
   simp only[q,za]at e;subst e;exact⟨rfl,.inr ⟨fun H k=>by rw[bF h H Hm k (ln j),hp],q⟩⟩
def sV(P:Program)(H:List TO)(L:List T)(p:Oper)(v:T):Prop:=(yA p=true∧lZ P L p v)∨(p.guard=none∧∃t x,p.op= .load t x∧zBh P H t (evO L x)=some (v,none))
theorem sV.opE{p:Oper}{v:T}(hv:sV P H L p v):opE P cl yd ops p ⟨L,H⟩=some ⟨dst p.dst v L,H⟩:=by
 rcases hv with⟨h,hv⟩ | ⟨e,t,x,ho,j⟩
 ·exact qEu h hv
 ·unfold Ev.opE kK;rw[e];simp only[fU,ho,kX,j];rfl
theorem sV.nd{p:Oper}{v:T}(hv:sV P H L p v):kV p.op=true:=by
 rcases hv with⟨h,_⟩ | ⟨_,t,x,ho,_⟩
 ·exact qLy h
 ·rw[ho];rfl
theorem sV.congr{p:Oper}{v:T}(hv:sV P H L p v)(h:∀x∈p.op.operands,evO L x=evO L2 x):sV P H L2 p v:=by
 rcases hv with⟨e,hv⟩ | ⟨j,t,x,ho,q⟩
 ·exact .inl ⟨e,hv.congr h⟩
 ·refine .inr ⟨j,t,x,ho,?_⟩;rw[←h x (by rw[ho];simp[Op.operands])]
  exact q
theorem qDk{x y:Value}(h:eqV x y=true):x=y:=by
 unfold eqV at h;split at h
 ·simp only[zd]at h;obtain rfl:=zWc h.1;rw[qEi]at h;simp at h;rw[h]
 ·rename_i a b;cases a<;>cases b<;>first | rfl | cases h
 ·rfl
 ·rfl
 ·rfl
 ·cases h
theorem kW{e:T→T→Bool}(j:∀a b,e a b=true→a=b):∀{l m:List T},fH e l m=true→l=m
 | [],[],_=>rfl
 | a::l,b::m,h=>by
  simp only[fH,zd]at h;rw[j a b h.1,kW j h.2]
 | [],_::_,h=>by cases h
 | _::_,[],h=>by cases h
theorem lI:∀(k:Nat)(a b:T),eqU k a b=true→a=b
 | 0,a,b,h=>by cases h
 | k+1,a,b,h=>by
  simp only[eqU]at h;split at h
  ·rw[qDk h]
  ·simp only[zd]at h;rw[zY h.1,kW (lI k) h.2]
  ·simp only[zd]at h;rw[zY h.1,kW (lI k) h.2]
  ·rw[kW (lI k) h]
  ·rw[kW (lI k) h]
  ·rw[kW (lI k) h]
  ·simp only[zd]at h;rw[zY h.1,kW (lI k) h.2]
  ·simp only[zd]at h;rw[zY h.1,zY h.2.1,zY h.2.2.1,zY h.2.2.2]
  ·simp only[zd]at h;rw[zY h.1,zY h.2.1,zY h.2.2]
  ·simp only[zd]at h;rw[zY h.1,zY h.2]
  ·rw[zY h]
  ·cases h
theorem zVu:∀{l:List Nat}{i:Nat},inN i l=true→i∈l
 | [],i,h=>by cases h
 | j::l,i,h=>by
  simp only[inN,Bool.or_eq_true]at h;rcases h with h | h
  ·rw[zY h];exact List.mem_cons_self
  ·exact List.mem_cons_of_mem _ (zVu h)
theorem zKn{s:S}:∀{l:List Nat},nE P ops s l=true→∀i∈l,∀p,ops[i]?=some p→qXh P s p=true
 | [],_,i,e,_,_=>by cases e
 | j::l,h,i,e,p,hp=>by
  simp only[nE,zd]at h;rcases List.mem_cons.1 e with rfl | e
  ·have:=h.1;rwa[hp]at this
  ·exact zKn h.2 i e p hp
theorem sV.of_ld{s:S}{ld:List Nat}{i:Nat}{p:Oper}(hp:ops[i]?=some p)(q:bU p=true)(y:inN i ld=true)(A:nE P ops s ld=true):∃d,p.dst=some d∧sV P s.H s.L p (nth .u s.L d):=by
 have e:=zKn A i (zVu y) p hp;unfold bU at q;simp only[zd]at q;have j:p.guard=none:=by
  cases j:p.guard with
  | none=>rfl
  | some _=>have:=q.1;rw[j]at this;cases this
 unfold qXh at e;split at e
 ·rename_i t x d ho hd;split at e
  ·rename_i z C;refine⟨d,hd,.inr ⟨j,t,x,ho,?_⟩⟩;rw[C,lI 12 _ _ e]
  ·cases e
 ·cases e
theorem zAw{m:Nat}{ld e:List Nat}{i:Nat}{p:Oper}(h:xX m ld e i p=true):yA p=true∨(bU p=true∧inN i ld=true):=by
 unfold xX at h;cases hb:Nat.blt i m with
 | true=>
  simp only[hb,ze,Bool.or_eq_true,zd]at h;exact h
 | false=>
  simp only[hb,zf,zd]at h;exact .inl h.1
theorem zKj{m:Nat}{ld e:List Nat}{i:Nat}{p:Oper}(h:xX m ld e i p=true):(yA p||bU p)=true:=by
 rcases zAw h with h | ⟨h,_⟩<;>rw[h]<;>simp
theorem aM{m:Nat}{ld e:List Nat}{i:Nat}{p:Oper}(h:xX m ld e i p=true)(j:m≤i):inN i e=true:=by
 unfold xX at h;have hb:Nat.blt i m=false:=by
  cases hb:Nat.blt i m with
  | true=>rw[Nat.blt_eq]at hb;omega
  | false=>rfl
 simp only[hb,zf,zd]at h;exact h.2
theorem zKr{d:Nat}{x:Operand}(h:fP d x=true){t:Nat}(e:x= .tmp t):t≠d:=by
 subst e;intro e;subst e;simp[fP]at h
theorem free_spec{o p:Oper}(h:bZ ops o p=true):∃d,p.dst=some d∧(∀t,Operand.tmp t∈o.op.operands→t≠d)∧(∀j b g t,o.guard=some (j,b)→ops[j]?=some g→g.dst=some t→t≠d)∧∀x,o.dst=some x→x≠d∧∀t,Operand.tmp t∈p.op.operands→t≠x:=by
 unfold bZ at h;cases hd:p.dst with
 | none=>simp[hd]at h
 | some d=>
  simp only[hd,zd]at h;refine⟨d,rfl,fun t ht=>zKr (List.all_eq_true.1 h.1 _ (by simpa using ht)) rfl,fun j b g t y z A=>?_,fun x C=>?_⟩
  ·have q:=h.2.1;rw[y]at q;simp only[z,A]at q;intro e;subst e;simp at q
  ·have q:=h.2.2;rw[C]at q;simp only[zd]at q;refine⟨fun e=>?_,fun t ht=>zKr (List.all_eq_true.1 q.2 _ (by simpa using ht)) rfl⟩
   have:=q.1;subst e;simp at this
end
structure FrL(n:Nat)(a:Act)(L:List T)(D:List Deferred)(B:Bm)(r:Rd)(pd:Nat→Prop):Prop where
 size:a.tmps.size=n
 len:L.length=n
 defers:a.defers=D
 reps:∀(t:Nat)(v:Value),¬pd t→a.tmps[t]?=some v→Rep B r (nth .u L t) v
open Classical in
noncomputable def nH(pd:Nat→Prop)(L:List T):List T:=L.mapIdx fun t x=>if pd t then .u else x
section
variable {pd:Nat→Prop}{L:List T}{t:Nat}{n:Nat}{a:Act}{D:List Deferred}{B:Bm}{r:Rd}
theorem zHi:(nH pd L).length=L.length:=by simp[nH]
theorem mO(h:¬pd t):nth .u (nH pd L) t=nth .u L t:=by
 simp only[qX,zh,nH,List.getElem?_mapIdx,if_neg h];cases L[t]?<;>rfl
theorem qMp(h:pd t):nth .u (nH pd L) t= .u:=by
 simp only[qX,zh,nH,List.getElem?_mapIdx,if_pos h];cases L[t]?<;>rfl
theorem FrL.mask(h:FrL n a L D B r pd):FrT n a (nH pd L) D B r:=by
 refine⟨h.size,zO.of ?_ fun t x v j hv=>?_,h.defers⟩
 ·rw[zHi,h.len];simpa using h.size.symm
 ·have e:x=nth .u (nH pd L) t:=by rw[qX,zh,j];rfl
  rw[e];by_cases hp:pd t
  ·rw[qMp hp];exact .u
  ·rw[mO hp];exact h.reps t v hp (by simpa using hv)
theorem FrL.all(h:FrL n a L D B r pd)(hp:∀t,¬pd t):FrT n a L D B r:=by
 refine⟨h.size,zO.of ?_ fun t x v j hv=>?_,h.defers⟩
 ·rw[h.len];simpa using h.size.symm
 ·have e:x=nth .u L t:=by rw[qX,zh,j];rfl
  rw[e];exact h.reps t v (hp t) (by simpa using hv)
end
theorem zKo{l:Array Bool}:∀{n:Nat},(∃i,i<n∧l.getD i false=false)→∃i,i<n∧l.getD i false=false∧∀q,q<i→l.getD q false=true:=by
 intro n h;have:∀k,(∀q,q<k→l.getD q false=true)∨∃i,i<k∧l.getD i false=false∧∀q,q<i→l.getD q false=true:=by
  intro k;induction k with
  | zero=>exact .inl fun q C=>by omega
  | succ k z=>
   rcases z with e | ⟨i,e,y,j⟩
   ·cases A:l.getD k false with
    | true=>
     refine .inl fun q C=>?_;rcases Nat.lt_succ_iff_lt_or_eq.1 C with h | rfl
     ·exact e q h
     ·exact A
    | false=>exact .inr ⟨k,by omega,A,e⟩
   ·exact .inr ⟨i,by omega,y,j⟩
 rcases this n with e | e
 ·obtain⟨i,y,j⟩:=h;rw[e i y]at j;cases j
 ·exact e
theorem zIy.set{ops:List Oper}{l:Array Bool}{i:Nat}{o:Oper}(h:zIy ops fun q=>l.getD q false=true)(ho:ops[i]?=some o)(G:i<l.size)(y:∀e∈o.after,Region.binds .any e=true→l.getD e.on false=true):zIy ops fun q=>(l.setIfInBounds i true).getD q false=true:=by
 intro J N j C e M hb;show(l.setIfInBounds i true).getD e.on false=true;have C:(l.setIfInBounds i true).getD J false=true:=C;have I:l.getD e.on false=true:=by
  by_cases A:J=i
  ·subst A;rw[ho]at j;cases j;exact y e M hb
  ·rw[getD_set_ne false (Ne.symm A)]at C;exact h J N j C e M hb
 by_cases z:e.on=i
 ·rw[z];exact kM G
 ·rw[getD_set_ne false (Ne.symm z)];exact I
theorem zMn{P:Program}{cl yd:Cl}{ops:Array Oper}{p:Oper}{s z:S}(h:yA p=true)(e:opE P cl yd ops p s=some z):∃v,lZ P s.L p v∧z=⟨dst p.dst v s.L,s.H⟩:=by
 unfold opE kK at e;rw[fK h]at e;simp only[fU]at e;cases hp:kX P s.H (ln s.H) (evO s.L) p.op with
 | some y=>
  simp only[hp]at e;obtain⟨t,ob⟩:=y;have q:=zKl h hp;simp only at q;subst q;simp only[zOz,za]at e;exact⟨t,.inl fun H k=>by rw[bF h H s.H k (ln s.H),hp],e.symm⟩
 | none=>
  simp only[hp,zQe,zKk h,zPr h,qFv]at e;cases j:zBa P (evO s.L) p with
  | none=>simp[j]at e
  | some t=>
   simp only[j,za]at e;exact⟨t,.inr ⟨fun H k=>by rw[bF h H s.H k (ln s.H),hp],j⟩,e.symm⟩
def Pnd(ops:Array Oper)(m:Nat)(l:Array Bool)(t:Nat):Prop:=∃(i:Nat)(p:Oper),i<m∧l.getD i false=false∧ops[i]?=some p∧p.dst=some t
section
variable {P:Program}{E:Nat→Prop}{w0:World}{X:Hid}{F:List Nat}{n:Nat}{D:List Deferred}{ops:Array Oper}{cl yd:Cl}{Q:Exit→Act→World→Prop}{rr:Option Nat}
theorem qOo(hcl:kN P cl)(hyd:xK P yd){ld vl:List Nat}{m:Nat}
  (htl:∀(j:Nat)(o:Oper),m≤j→ops[j]?=some o→∀q,q<j→(∀S:Nat→Prop,zIy ops.toList S→(∀e∈o.after,Region.binds .any e=true→S e.on)→S q)∨∃p,ops[q]?=some p∧xX m ld vl q p=true∧bZ ops o p=true)
  (hvl:∀(i:Nat)(o:Oper),ops[i]?=some o→inN i vl=true→yA o=true∧slf o=true∧∀(q:Nat)(p:Oper),q<i→ops[q]?=some p→(yA p||bU p)=true→wfr o p=true)
  (hdp:∀(i:Nat)(p:Oper)(t:Nat),i<m→ops[i]?=some p→Operand.tmp t∈p.op.operands→∀(z:Nat)(V:Oper),z<m→ops[z]?=some V→V.dst=some t→∃e∈p.after,Region.binds .any e=true∧e.on=z)
  (heg:∀(j:Nat)(o:Oper),ops[j]?=some o→∀e∈o.after,Region.binds .any e=true→e.on<j) (hnd:∀o∈ops.toList,kV o.op=true):
  ∀(fuel j:Nat)(s s':S){a:Act}{w:World}{B:Bm}{Y:Hid}{Mo:List (Nat×Obj)}{l:Array Bool}{r0:Rd}{B0:Bm},dG P cl yd ops ld (ops.toList.drop j) s=some s'→m≤j→zOa l≤fuel→l.size=ops.size→(∀i,j≤i→l.getD i false=false)→zIy ops.toList (fun q=>l.getD q false=true)→
   (∀(i:Nat)(p:Oper),i<j→l.getD i false=false→ops[i]?=some p→xX m ld vl i p=true∧∃v,sV P s.H s.L p v∧∀d,p.dst=some d→d<s.L.length→nth .u s.L d=v)→
   Wd P E w0 X F s.H B w Y Mo→FrL n a s.L D B (rd w Y) (Pnd ops j l)→BLe B0 B→Le r0 (rd w Y)→nU P E w0 X F n D s'.H s'.L B0 r0 (Q .normal)→wpAnyIn (FF rr) 0 P .any ops Q fuel l a w:=by
 have qDe:∀{i:Nat}{o:Oper},ops[i]?=some o→ops.toList.drop i=o::ops.toList.drop (i+1):=fun{i o}y=>by
  have A:i<ops.toList.length:=by rw[Array.length_toList];exact(Array.getElem?_eq_some_iff.1 y).1
  rw[List.drop_eq_getElem_cons A];congr 1;have:=(Array.getElem?_eq_some_iff.1 y).2;simpa using this
 have virt:∀(c j:Nat)(s s':S){a:Act}{w:World}{B:Bm}{Y:Hid}{l:Array Bool},dG P cl yd ops ld (ops.toList.drop j) s=some s'→m≤j→j+c≤ops.size→(∀i,j≤i→l.getD i false=false)→(∀q,j≤q→q<j+c→∃p,ops[q]?=some p∧xX m ld vl q p=true)→
   (∀(i:Nat)(p:Oper),i<j→l.getD i false=false→ops[i]?=some p→xX m ld vl i p=true∧∃v,sV P s.H s.L p v∧∀d,p.dst=some d→d<s.L.length→nth .u s.L d=v)→FrL n a s.L D B (rd w Y) (Pnd ops j l)→
   ∃s2:S,s2.H=s.H∧dG P cl yd ops ld (ops.toList.drop (j+c)) s2=some s'∧(∀(i:Nat)(p:Oper),i<j+c→l.getD i false=false→ops[i]?=some p→xX m ld vl i p=true∧∃v,sV P s2.H s2.L p v∧∀d,p.dst=some d→d<s2.L.length→nth .u s2.L d=v)∧FrL n a s2.L D B (rd w Y) (Pnd ops (j+c) l):=by
  intro c;induction c with
  | zero=>exact fun j s s'{a w B Y l}h _ _ _ _ hp W=>⟨s,rfl,h,hp,W⟩
  | succ c ihc=>
   intro j s s' a w B Y l h hm hsz hT hq hp W;obtain⟨oj,hoj,hlj⟩:=hq j (Nat.le_refl _) (by omega)
   obtain⟨hk,hslf,hw⟩:=hvl j oj hoj (aM hlj hm);rw[qDe hoj]at h;simp only[dG]at h;cases A:opE P cl yd ops oj s with
   | none=>simp[A]at h
   | some s1=>
    simp only[A]at h;cases hld:nE P ops s1 ld with
    | false=>simp[hld]at h
    | true=>
     simp only[hld,ze]at h;obtain⟨v,hv,rfl⟩:=zMn hk A;have hp1:∀(i:Nat)(p:Oper),i<j+1→l.getD i false=false→ops[i]?=some p→xX m ld vl i p=true∧∃v',sV P s.H (dst oj.dst v s.L) p v'∧∀d,p.dst=some d→d<(dst oj.dst v s.L).length→nth .u (dst oj.dst v s.L) d=v':=fun i p hi hl hpi=>by
      rcases Nat.lt_or_ge i j with hij | hij
      ·obtain⟨k4,v',k5,k6⟩:=hp i p hij hl hpi;have hwf:=zRp (hw i p hij hpi (zKj k4));refine⟨k4,v',k5.congr fun x U=>?_,fun d hd hlt=>?_⟩
       ·cases x with
        | tmp t=>
         show nth .u s.L t=nth .u (dst oj.dst v s.L) t;rw[yS fun e=>(hwf t e).2 t U rfl]
        | _=>rfl
       ·rw[pY]at hlt;rw[yS fun e=>(hwf d e).1 d hd rfl];exact k6 d hd hlt
      ·obtain rfl:i=j:=by omega
       rw[hoj]at hpi;cases hpi;refine⟨hlj,v,.inl ⟨hk,hv.congr fun x U=>?_⟩,fun d hd hlt=>?_⟩
       ·cases x with
        | tmp t=>
         show nth .u s.L t=nth .u (dst oj.dst v s.L) t;rw[yS fun e=>zRj hslf t e t U rfl]
        | _=>rfl
       ·rw[pY]at hlt;rw[hd,zAm hlt]
     have G1:FrL n a (dst oj.dst v s.L) D B (rd w Y) (Pnd ops (j+1) l):=by
      refine⟨W.size,by rw[pY];exact W.len,W.defers,fun t x hnp U=>?_⟩
      have hne:oj.dst≠some t:=fun e=>hnp ⟨j,oj,Nat.lt_succ_self j,hT j (Nat.le_refl _),hoj,e⟩;rw[yS hne];exact W.reps t x (fun⟨z,V,g1,g2,g3,g4⟩=>hnp ⟨z,V,by omega,g2,g3,g4⟩) U
     obtain⟨s2,e1,e2,e3,e4⟩:=ihc (j+1) ⟨dst oj.dst v s.L,s.H⟩ s' h (by omega) (by omega) (fun i hi=>hT i (by omega)) (fun q A C=>hq q (by omega) (by omega)) hp1 G1
     have hjc:j+1+c=j+(c+1):=by omega
     rw[hjc]at e2 e3 e4;exact⟨s2,e1,e2,e3,e4⟩
 have done:∀(fuel j:Nat)(s s':S){a:Act}{w:World}{B:Bm}{Y:Hid}{Mo:List (Nat×Obj)}{l:Array Bool}{r0:Rd}{B0:Bm},dG P cl yd ops ld (ops.toList.drop j) s=some s'→m≤j→l.size=ops.size→(∀i,j≤i→l.getD i false=false)→(∀i,i<ops.size→l.getD i false=true)→
   Wd P E w0 X F s.H B w Y Mo→FrL n a s.L D B (rd w Y) (Pnd ops j l)→BLe B0 B→Le r0 (rd w Y)→nU P E w0 X F n D s'.H s'.L B0 r0 (Q .normal)→wpAnyIn (FF rr) 0 P .any ops Q fuel l a w:=fun fuel j s s'{a w B Y Mo l r0 B0}h hmj hl hT G hW W hB hr hk=>by
  have hj:ops.size≤j:=by
   rcases Nat.lt_or_ge j ops.size with A | A
   ·have C:=G j A;rw[hT j (Nat.le_refl _)]at C;cases C
   ·exact A
  rw[List.drop_eq_nil_of_le (by simpa using hj)]at h
  simp only[dG,za]at h;subst h;refine wpAnyIn_done ?_ (hk _ _ _ _ _ hW (W.all fun t ht=>?_) hB hr) fuel
  ·cases he:Region.ready .any ops l with
   | nil=>rfl
   | cons x xs=>
    exfalso;obtain⟨hun,o,ho,_⟩:=mem_ready.1 (by rw[he];exact List.mem_cons_self:x∈Region.ready .any ops l)
    have U:=(Array.getElem?_eq_some_iff.1 ho).1;have A:=G x U;have hs:x<l.size:=by omega
    simp[hs]at hun A;rw[A]at hun;cases hun
  ·obtain⟨i,p,_,C,J,_⟩:=ht;rw[G i (Array.getElem?_eq_some_iff.1 J).1]at C;cases C
 intro fuel;induction fuel with
 | zero=>
  intro j s s' a w B Y Mo l r0 B0 h hm hf hl hT hS hp hW W hB hr hk;refine done 0 j s s' h hm hl hT (fun i hi=>?_) hW W hB hr hk;cases hc:l.getD i false with
  | true=>rfl
  | false=>have:=zBw (by omega) hc;omega
 | succ fuel ih=>
  intro j s s' a w B Y Mo l r0 B0 h hm hf hl hT hS hp hW W hB hr hk;by_cases hex:∃i,i<ops.size∧l.getD i false=false
  ·obtain⟨i0,hi0,hl0,hbelow⟩:=zKo hex;obtain⟨o0,ho0⟩:∃o,ops[i0]?=some o:=⟨ops[i0],by simp[hi0]⟩
   have hr0:i0∈Region.ready .any ops l:=zQw hl ho0 hl0 fun e he hb=>hbelow _ (heg i0 o0 ho0 e he hb);refine⟨fun h0=>absurd (h0▸hr0) (by simp),fun i hi=>?_⟩
   obtain⟨hun,M,y,G⟩:=mem_ready.1 hi;have hil:i<l.size:=by rw[hl];exact(Array.getElem?_eq_some_iff.1 y).1
   have hli:l.getD i false=false:=by simpa[hil]using hun
   have hoi':ops.toList[i]?=some M:=by simpa using y
   have hS':=hS.set hoi' hil G;have hu:=zBw hil hli;rcases Nat.lt_or_ge i j with hij0 | hij0
   ·obtain⟨hk1,v,hv,hvd⟩:=hp i M hij0 hli y;have hcg:∀x∈M.op.operands,evO s.L x=evO (nH (Pnd ops j l) s.L) x:=fun x U=>by
     cases x with
     | tmp t=>
      refine(mO fun⟨z,V,A,C,J,N⟩=>?_).symm;have hk1':=(hp z V A C J).1;rcases Nat.lt_trichotomy z i with hlt | heq | hgt
      ·rcases Nat.lt_or_ge i m with I | I
       ·obtain⟨e,he,hb,hon⟩:=hdp i M t I y U z V (by omega) J N
        have:=G e he hb;rw[hon,C]at this;cases this
       ·rcases htl i M I y z hlt with q1 | ⟨p2,q1,_,q2⟩
        ·have:=q1 (fun q=>l.getD q false=true) hS G;rw[C]at this;cases this
        ·rw[J]at q1;cases q1;obtain⟨d,f1,f2,_⟩:=free_spec q2;rw[N]at f1;cases f1;exact f2 t U rfl
      ·subst heq;rw[y]at J;cases J;rcases Nat.lt_or_ge z m with I | I
       ·obtain⟨e,he,hb,hon⟩:=hdp z M t I y U z M I y N;have:=heg z M y e he hb;omega
       ·exact zRj (hvl z M y (aM hk1 I)).2.1 t N t U rfl
      ·rcases Nat.lt_or_ge z m with I | I
       ·obtain⟨e,he,hb,hon⟩:=hdp i M t (by omega) y U z V I J N
        have:=heg i M y e he hb;omega
       ·exact(zRp ((hvl z V J (aM hk1' I)).2.2 i M hgt y (zKj hk1)) t N).2 t U rfl
     | _=>rfl
    have hv':=hv.congr hcg;have hlo:=hv'.opE (cl:=cl) (yd:=yd) (ops:=ops);unfold wpOpIn;simp only[y];refine zHq hcl hyd hlo hv'.nd hW W.mask fun a' w' B' Y' Mo' g1 g2 g3 g4=>?_;refine ih j s s' h hm (by omega) (by simpa using hl) (fun q hq=>?_) hS' (fun z p A C J=>?_) g1 ⟨g2.size,W.len,g2.defers,fun t x hnp U=>?_⟩ (hB.trans g3) (hr.trans g4) hk
    ·rw[getD_set_ne false (by omega)];exact hT q hq
    ·refine hp z p A ?_ J;by_cases e:i=z
     ·subst e;rw[kM hil]at C;cases C
     ·rwa[getD_set_ne false e]at C
    ·have hR:=g2.reps.getD t;have:a'.tmps.toList.getD t undef=x:=by simp[U]
     rw[this]at hR;by_cases e:M.dst=some t
     ·rcases Nat.lt_or_ge t s.L.length with ht | ht
      ·rw[hvd t e ht];have hR:Rep B' (rd w' Y') (nth .u (dst M.dst v (nH (Pnd ops j l) s.L)) t) x:=hR;rwa[e,zAm (by rw[zHi];exact ht)]at hR
      ·rw[qX,zh,List.getElem?_eq_none ht];exact .u
     ·have hR:Rep B' (rd w' Y') (nth .u (dst M.dst v (nH (Pnd ops j l) s.L)) t) x:=hR;have hmn:¬Pnd ops j l t:=fun⟨z,V,A,C,J,N⟩=>hnp ⟨z,V,A,(by
       rw[getD_set_ne false (fun e'=>e (by subst e';rw[y]at J;cases J;exact N))]
       exact C),J,N⟩
      rwa[yS e,mO hmn]at hR
   ·have hpass:∀q,j≤q→q<j+(i-j)→∃p,ops[q]?=some p∧xX m ld vl q p=true:=fun q A C=>by
     rcases htl i M (by omega) y q (by omega)with J | ⟨p,J,N,_⟩
     ·have:=J (fun q=>l.getD q false=true) hS G;rw[hT q A]at this;cases this
     ·exact⟨p,J,N⟩
    obtain⟨s,hsH,h,hp,W⟩:=virt (i-j) j s s' h hm (by have:=(Array.getElem?_eq_some_iff.1 y).1;omega) hT hpass hp W
    have hji:j+(i-j)=i:=by omega
    rw[hji]at h hp W;rw[←hsH]at hW;have I:m≤i:=by omega
    have hT:∀q,i≤q→l.getD q false=false:=fun q hq=>hT q (by omega)
    have hfree:∀(z:Nat)(V:Oper),z<i→l.getD z false=false→ops[z]?=some V→bZ ops M V=true:=fun z V A C J=>by
     rcases htl i M I y z A with N | ⟨p,N,_,h5⟩
     ·have:=N (fun q=>l.getD q false=true) hS G;rw[this]at C;cases C
     ·rw[J]at N;cases N;exact h5
    have hcg:∀x∈M.op.operands,evO s.L x=evO (nH (Pnd ops i l) s.L) x:=fun x U=>by
     cases x with
     | tmp t=>
      refine(mO fun⟨z,V,A,C,J,N⟩=>?_).symm;obtain⟨d,g1,g2,_⟩:=free_spec (hfree z V A C J);rw[N]at g1;cases g1;exact g2 t U rfl
     | _=>rfl
    have hgd:∀j b p t,M.guard=some (j,b)→ops[j]?=some p→p.dst=some t→nth .u s.L t=nth .u (nH (Pnd ops i l) s.L) t:=fun j b p t e1 e2 e3=>by
     refine(mO fun⟨z,V,A,C,J,N⟩=>?_).symm;obtain⟨d,g1,_,g2,_⟩:=free_spec (hfree z V A C J);rw[N]at g1;cases g1;exact g2 j b p t e1 e2 e3 rfl
    rw[qDe y]at h;simp only[dG]at h;cases A:opE P cl yd ops M s with
    | none=>simp[A]at h
    | some s1=>
     simp only[A]at h;cases hld:nE P ops s1 ld with
     | false=>simp[hld]at h
     | true=>
     simp only[hld,ze]at h;have Z:=qNb (P:=P) (cl:=cl) (yd:=yd) (H:=s.H) M hcg hgd;have h1':opE P cl yd ops M ⟨s.L,s.H⟩=some s1:=A;rw[h1']at Z;cases C:opE P cl yd ops M ⟨nH (Pnd ops i l) s.L,s.H⟩with
     | none=>rw[C]at Z;exact Z.elim
     | some s2=>
      rw[C]at Z;obtain⟨tv,e1,e2,e3⟩:=Z;unfold wpOpIn;simp only[y];refine zHq hcl hyd C (hnd M (by simpa using Array.mem_of_getElem? y)) hW W.mask fun a' w' B' Y' Mo' g1 g2 g3 g4=>?_
      rw[←e3]at g1;rw[e2]at g2;refine ih (i+1) s1 s' h (by omega) (by omega) (by simpa using hl) (fun q hq=>?_) hS' (fun z p k1 k2 k3=>?_) g1 ⟨g2.size,by rw[e1,pY];exact W.len,g2.defers,fun t x hnp U=>?_⟩ (hB.trans g3) (hr.trans g4) hk
      ·rw[getD_set_ne false (by omega)];exact hT q (by omega)
      ·have hne:i≠z:=fun e=>by
        subst e;rw[kM hil]at k2;cases k2
       rw[getD_set_ne false hne]at k2;obtain⟨k4,v,k5,k6⟩:=hp z p (by omega) k2 k3
       obtain⟨d,f1,_,_,f4⟩:=free_spec (hfree z p (by omega) k2 k3)
       rcases zAw k4 with hkk | ⟨hk1,hk2⟩
       case inr=>
        obtain⟨d2,q1,q2⟩:=sV.of_ld k3 hk1 hk2 hld;exact⟨k4,_,q2,fun d' hd' _=>by rw[q1]at hd';cases hd';rfl⟩
       have k5:sV P s1.H s.L p v:=by
        rcases k5 with k5 | ⟨_,t,x,ho,_⟩
        ·exact .inl k5
        ·have:=wJ hkk;rw[ho]at this;exact this.elim
       refine⟨k4,v,k5.congr fun x U=>?_,fun d' hd' hlt=>?_⟩
       ·cases x with
        | tmp t=>
         show nth .u s.L t=nth .u s1.L t;rw[e1,yS fun e=>(f4 t e).2 t U rfl]
        | _=>rfl
       ·rw[f1]at hd';cases hd';rw[e1,pY]at hlt;rw[e1,yS fun e=>(f4 d e).1 rfl];exact k6 d f1 hlt
      ·have hR:=g2.reps.getD t;have:a'.tmps.toList.getD t undef=x:=by simp[U]
       rw[this]at hR;rw[e1];by_cases e:M.dst=some t
       ·rcases Nat.lt_or_ge t s.L.length with ht | ht
        ·rw[e,zAm ht];rwa[e,zAm (by rw[zHi];exact ht)]at hR
        ·rw[qX,zh,List.getElem?_eq_none (by rw[pY];exact ht)];exact .u
       ·rw[yS e];have hmn:¬Pnd ops i l t:=fun⟨z,V,A,C,J,N⟩=>hnp ⟨z,V,by omega,(by rw[getD_set_ne false (by omega)];exact C),J,N⟩
        rwa[yS e,mO hmn]at hR
  ·refine done _ j s s' h hm hl hT (fun i hi=>?_) hW W hB hr hk;cases hc:l.getD i false with
   | true=>rfl
   | false=>exact absurd ⟨i,hi,hc⟩ hex
end
structure Dr where
 P:Program
 E:Nat→Prop
 w0:World
 X:Hid
 F:List Nat
 n:Nat
 D:List Deferred
 ops:Array Oper
 H0:List TO
 Hm:List TO
 L0:List T
 rs:List (T×Option TO)
 B0:Bm
 r0:Rd
noncomputable def Dr.ks(R:Dr):List (Option Nat):=ksE R.ops.toList R.rs R.L0
structure FrD(R:Dr)(l:Array Bool)(a:Act)(B:Bm)(r:Rd):Prop where
 size:a.tmps.size=R.n
 defers:a.defers=R.D
 done:∀(i:Nat)(z:T×Option TO)(o:Oper)(d:Nat)(v:Value),R.rs[i]?=some z→R.ops[i]?=some o→o.dst=some d→l.getD i false=true→a.tmps[d]?=some v→Rep B r z.1 v
 rest:∀(t:Nat)(v:Value),(∀(i:Nat)(o:Oper),i<R.rs.length→R.ops[i]?=some o→o.dst=some t→l.getD i false=false)→a.tmps[t]?=some v→Rep B r (nth .u R.L0 t) v
structure Inv(R:Dr)(l:Array Bool)(a:Act)(w:World)(B:Bm)(Y:Hid)(Mo:List (Nat×Obj)):Prop where
 wd:Wd R.P R.E R.w0 R.X R.F (wI l R.ks R.H0++jB l 0 R.rs) B w Y Mo
 fr:FrD R l a B (rd w Y)
 ble:BLe R.B0 B
 le:Le R.r0 (rd w Y)
 free:∀(i:Nat)(t:T)(ob:TO),R.rs[i]?=some (t,some ob)→l.getD i false=false→B (R.H0.length+pos R.rs i)=none
 head:∀i,R.rs.length≤i→l.getD i false=false
 lsz:l.size=R.ops.size
structure Ok(R:Dr)(po:Po)(K:Nat):Prop where
 spec:∀(i:Nat)(z:T×Option TO),R.rs[i]?=some z→∃o,R.ops.toList[i]?=some o∧xE R.P po R.H0 R.Hm (R.Hm++qI (R.rs.take i)) (kI R.ops.toList (R.rs.take i) R.L0) R.ops o=some z
 hd:zGw R.ops (R.ops.toList.take R.rs.length) (R.ops.toList.take R.rs.length) 0=true
 tl:aW R.ops R.rs.length (aN R.ops R.rs.length) (vlR R.ops R.rs.length) (R.ops.toList.take R.rs.length) ((wY R.ops.toList []).drop R.rs.length) (R.ops.toList.drop R.rs.length) R.rs.length=true
 eg:zGo R.ops.toList 0=true
 len:R.rs.length≤R.ops.toList.length
 slots:R.L0.length=R.n
 po:∀f az tv nw,po f az=some (tv,nw)→KnP R.P K f az tv nw
 bd:R.H0.length+R.ops.size≤K
 nd:∀o∈R.ops.toList,kV o.op=true
 hml:R.Hm.length=R.H0.length
 hms:∀(q:Nat)(x:TO),R.Hm[q]?=some x→x≠.gone→R.H0[q]?=some x
 ksg:∀q,some q∈R.ks→nth .gone R.Hm q= .gone
 ks1:∀(i j q:Nat),R.ks[i]?=some (some q)→R.ks[j]?=some (some q)→i=j
section
variable {R:Dr}{po:Po}{k:Nat}{l:Array Bool}{a:Act}{w:World}{B:Bm}{Y:Hid}{Mo:List (Nat×Obj)}{o:Oper}{i:Nat}{rr:Option Nat}{Q:Exit→Act→World→Prop}
theorem Ok.hget(e:Ok R po k){i:Nat}{o:Oper}(j:i<R.rs.length)(ho:R.ops[i]?=some o):(R.ops.toList.take R.rs.length)[i]?=some o:=by
 rw[List.getElem?_take,if_pos j];simpa using ho
theorem Ok.once(e:Ok R po k){i j:Nat}{o o':Oper}{d:Nat}(z:i<R.rs.length)(A:j<R.rs.length)(ho:R.ops[i]?=some o)(y:R.ops[j]?=some o')(hd:o.dst=some d)(q:o'.dst=some d):i=j:=by
 rcases Nat.lt_trichotomy i j with h | h | h
 ·exact absurd q ((xM e.hd i o (e.hget z ho)).2.2 d hd j o' h (e.hget A y))
 ·exact h
 ·exact absurd hd ((xM e.hd j o' (e.hget A y)).2.2 d q i o h (e.hget z ho))
theorem zXs(A:Ok R po k)(I:Inv R l a w B Y Mo)(hi:i<R.rs.length)(ho:R.ops[i]?=some o)(hr:∀e∈o.after,Region.binds .any e=true→l.getD e.on false=true){t:Nat}(hs:zDr (R.ops.toList.take R.rs.length) o i t=true):
  Rep B (rd w Y) (nth .u (kI R.ops.toList (R.rs.take i) R.L0) t) (a.tmps.getD t undef):=by
 cases hv:a.tmps[t]? with
 | none=>
  have ht:R.n≤t:=by
   rcases Nat.lt_or_ge t R.n with h | h
   ·rw[←I.fr.size]at h;simp[h]at hv
   ·exact h
  have:nth .u (kI R.ops.toList (R.rs.take i) R.L0) t= .u:=by
   rw[qX,zh,List.getElem?_eq_none (by rw[bC,A.slots];exact ht)];rfl
  rw[this];exact .u
 | some v=>
  have hget:a.tmps.getD t undef=v:=by simp[hv]
  rw[hget];unfold zDr at hs;cases V:wrt t (R.ops.toList.take R.rs.length) 0 with
  | none=>
   have hn:=dN V;have W:∀(j:Nat)(o':Oper),j<R.rs.length→R.ops[j]?=some o'→o'.dst≠some t:=fun j o' C y=>hn j o' (A.hget C y);rw[mK _ _ _ _ (fun j o' C y=>W j o' (by simp at C;omega) (by simpa using y))]
   exact I.fr.rest t v (fun j o' C y hd=>absurd hd (W j o' C y)) hv
  | some j=>
   simp only[V,zd,Nat.blt_eq]at hs;obtain⟨j',o',e1,Z,J⟩:=zCb V;obtain rfl:j=j':=by omega
   have C:j<R.rs.length:=by omega
   have y:R.ops[j]?=some o':=by
    rw[List.getElem?_take,if_pos C]at Z;simpa using Z
   obtain⟨e,he,hb,U⟩:=zEr hs.2;have G:l.getD j false=true:=by rw[←U];exact hr e he hb
   obtain⟨z,hz⟩:∃z,R.rs[j]?=some z:=⟨R.rs[j],by simp[C]⟩
   have ht:t<R.L0.length:=by
    have:=(Array.getElem?_eq_some_iff.1 hv).1;rw[I.fr.size]at this;rw[A.slots];exact this
   rw[bD _ _ _ t j o' z ht (by simpa using y) (by rw[List.getElem?_take,if_pos hs.1];exact hz) J fun q o2 hq hl N M=>?_]
   ·exact I.fr.done j z o' t v hz y J G hv
   ·exact hq (A.once (by simp at hl;omega) C (by simpa using N) y M J)
theorem qNm(j:Ok R po k)(y:Inv R l a w B Y Mo)(q:i<R.rs.length)(ho:R.ops[i]?=some o)(hr:∀e∈o.after,Region.binds .any e=true→l.getD e.on false=true)(x:Operand)(z:x∈o.op.operands):
  Rep B (rd w Y) (evO (kI R.ops.toList (R.rs.take i) R.L0) x) (a.eval x):=by
 have h:=(xM j.hd i o (j.hget q ho)).1 x (by simpa using z)
 rw[Nat.zero_add]at h;cases x with
 | tmp t=>exact zXs j y q ho hr h
 | const v=>exact zBb v
 | global g=>exact .u
 | func f=>exact Rep.mkFn (vs:=[]) trivial
theorem qIr{ops:Array Oper}{L:List T}{r:Rd}(G:∀j b p t,o.guard=some (j,b)→ops[j]?=some p→p.dst=some t→Rep B r (nth .u L t) (a.tmps.getD t undef)){q:Bool}(h:kK ops L o=some q):Region.wanted o (yielded ops a.tmps)=q:=by
 unfold kK at h;unfold Region.wanted;cases z:o.guard with
 | none=>simp only[z,za]at h;simpa using h
 | some J=>
  obtain⟨j,b⟩:=J;simp only[z]at h;cases A:ops[j]? with
  | none=>simp[A]at h
  | some p=>
   simp only[A]at h;cases hd:p.dst with
   | none=>simp[hd]at h
   | some t=>
    simp only[hd]at h;have C:=G j b p t z A hd;split at h
    ·rename_i c e;rw[e]at C;obtain⟨hv,_⟩:=C.vI;cases ht:a.tmps[t]? with
     | none=>simp[ht]at hv;cases hv
     | some u=>
      have:u= .bool c:=by simpa[ht]using hv
      subst this;simp only[yielded,A,hd,Option.bind_some,ht];cases h;cases c<;>cases b<;>rfl
    ·cases h
    ·rename_i e;rw[e]at C;obtain⟨vs,hv,I⟩:=C.tuI;cases vs with
     | cons x y=>exact I.elim
     | nil=>
      cases h;cases ht:a.tmps[t]? with
      | none=>simp only[yielded,A,hd,Option.bind_some,ht];cases b<;>rfl
      | some u=>
       have:u= .tuple #[]:=by simpa[ht]using hv
       subst this;simp only[yielded,A,hd,Option.bind_some,ht];cases b<;>rfl
    ·cases h
theorem zQa{l:List TO}{i:Nat}{x:TO}(h:nth .gone l i=x)(j:x≠.gone):l[i]?=some x:=by
 rw[qX,zh]at h;cases e:l[i]? with
 | none=>rw[e]at h;exact absurd h.symm j
 | some y=>rw[e]at h;simp at h;rw[h]
theorem FrD.step(J:Ok R po k){r:Rd}(h:FrD R l a B r)(N:i<R.rs.length)(ho:R.ops[i]?=some o){z:T×Option TO}(W:R.rs[i]?=some z){v:Value}(hv:Rep B r z.1 v)(G:i<l.size):FrD R (l.setIfInBounds i true) (a.put o.dst v) B r:=by
 have I:∀t,(a.put o.dst v).tmps[t]?=if o.dst=some t∧t<a.tmps.size then some v else a.tmps[t]?:=fun t=>by
  cases hd:o.dst with
  | none=>simp[Act.put]
  | some d=>
   simp only[Act.put,za];by_cases e:d=t
   ·subst e;by_cases hlt:d<a.tmps.size
    ·simp[hlt]
    ·simp[hlt]
   ·rw[Array.getElem?_setIfInBounds_ne e,if_neg (fun h=>e h.1)]
 refine⟨?_,?_,fun j Z o' d u A q C U y=>?_,fun t u hn y=>?_⟩
 ·cases hd:o.dst<;>simp[Act.put,h.size]
 ·cases hd:o.dst<;>simp[Act.put,h.defers]
 ·rw[I]at y;by_cases e:i=j
  ·subst e;rw[ho]at q;cases q;rw[W]at A;cases A;split at y
   ·cases y;exact hv
   ·rename_i hn;have:=(Array.getElem?_eq_some_iff.1 y).1;exact absurd ⟨C,this⟩ hn
  ·rw[getD_set_ne false e]at U;split at y
   ·rename_i M;exact absurd (J.once N (List.getElem?_eq_some_iff.1 A).1 ho q M.1 C) e
   ·exact h.done j Z o' d u A q C U y
 ·rw[I]at y;split at y
  ·rename_i M;have:=hn i o N ho M.1;rw[kM G]at this;cases this
  ·refine h.rest t u (fun j o' V q hd=>?_) y;have:=hn j o' V q hd;by_cases e:i=j
   ·subst e;rw[kM G]at this;cases this
   ·rwa[getD_set_ne false e]at this
theorem FrD.mono{r r':Rd}{B':Bm}(h:FrD R l a B r)(q:BLe B B')(hr:Le r r'):FrD R l a B' r':=
 ⟨h.size,h.defers,fun i z o d v e j y A C=>(h.done i z o d v e j y A C).mono q hr,fun t v e j=>(h.rest t v e j).mono q hr⟩
theorem Inv.val(C:Ok R po k)(y:Inv R l a w B Y Mo){w':World}(I:Upd E0 w w')(N:i<R.rs.length)(ho:R.ops[i]?=some o){t:T}(A:R.rs[i]?=some (t,none)){v:Value}(hv:Rep B (rd w' Y) t v)(G:i<l.size):
  Inv R (l.setIfInBounds i true) (a.put o.dst v) w' B Y Mo:=by
 have e:=aP l R.rs 0 i t A;rw[Nat.zero_add]at e;have M:wI (l.setIfInBounds i true) R.ks R.H0=wI l R.ks R.H0:=zCu fun q U=>by
  have:=zMm R.ops.toList R.rs R.L0 i o _ (by simpa using ho) A
  rw[show ksE R.ops.toList R.rs R.L0=R.ks from rfl,U]at this;cases this
 refine⟨by rw[e,M];exact y.wd.call I,FrD.step C (y.fr.mono (BLe.refl B) (I.le Y)) N ho A hv G,y.ble,y.le.trans (I.le Y),fun j V ob z J=>?_,fun j z=>?_,by simpa using y.lsz⟩
 ·by_cases e:i=j
  ·subst e;rw[A]at z;cases z
  ·rw[getD_set_ne false e]at J;exact y.free j V ob z J
 ·rw[getD_set_ne false (by omega)];exact y.head j z
theorem Ok.sub0(e:Ok R po k){q:Nat}{x:TO}(h:R.Hm[q]?=some x)(y:x≠.gone):(wI l R.ks R.H0)[q]?=some x:=by
 rw[tY,e.hms q x h y];have:kR l R.ks q=false:=by
  cases A:kR l R.ks q with
  | false=>rfl
  | true=>
   obtain⟨i,z,_⟩:=yU.1 A;have j:=e.ksg q (List.mem_of_getElem? z);rw[qX,zh,h]at j;exact absurd j y
 simp[this]
theorem zXw(e:Ok R po k)(J:Inv R l a w B Y Mo){q:Nat}{x:TO}(I:B q≠none)(h:(R.Hm++qI (R.rs.take i))[q]?=some x)(M:x≠.gone):(wI l R.ks R.H0++jB l 0 R.rs)[q]?=some x:=by
 rcases Nat.lt_or_ge q R.H0.length with hlt | z
 ·rw[List.getElem?_append_left (by rw[e.hml];exact hlt)]at h
  rw[List.getElem?_append_left (by rw[jZ];exact hlt)]
  exact e.sub0 h M
 ·rw[List.getElem?_append_right (by rw[e.hml];exact z),e.hml]at h
  rw[List.getElem?_append_right (by rw[jZ];exact z),jZ]
  obtain⟨j,G,N,A,C⟩:=zDc _ _ _ _ h;have y:l.getD j false=true:=by
   cases y:l.getD j false with
   | true=>rfl
   | false=>exact absurd (by rw[←J.free j G x A y,C];congr 1;omega) I
  have:=bL l R.rs 0 j G x A;rw[Nat.zero_add,y,C]at this;rw[this];rfl
theorem zFs{H K:List TO}{q:Nat}{x:TO}(hs:∀x,H[q]?=some x→x≠.gone→K[q]?=some x)(h:nth .gone H q=x)(e:x≠.gone):nth .gone K q=x:=by
 have:=hs x (zQa h e) e;rw[qX,zh,this];rfl
theorem zHo{H K:List TO}{q:Nat}{cs:List T}(hs:∀x,H[q]?=some x→x≠.gone→K[q]?=some x)(h:mQ (nth .gone H q)=some cs):mQ (nth .gone K q)=some cs:=by
 cases e:nth .gone H q with
 | gone=>rw[e]at h;cases h
 | _=>rw[e]at h;rw[zFs hs e (by simp)];exact h
theorem qDw{H K:List TO}{t:T}{cs:List T}(hs:∀(q:Nat)(x:TO),H[q]?=some x→x≠.gone→K[q]?=some x)(h:aA H t=some cs):aA K t=some cs:=by
 cases t<;>simp only[aA]at h ⊢<;>try exact h
 rename_i i o;cases hr:mQ (nth .gone H i)with
 | none=>simp[hr]at h
 | some x=>rw[zHo (fun x=>hs i x) hr];rw[hr]at h;exact h
theorem zCe{H K:List TO}{s:Nat}{t:T}{v:Value}{cs:List T}{r:Rd}(y:Rep B r t v)(hs:∀(q:Nat)(x:TO),B q≠none→H[q]?=some x→x≠.gone→K[q]?=some x)(h:qG H s t=some cs):qG K s t=some cs:=by
 cases t with
 | os i o n c=>
  obtain⟨b,C,_,j⟩:=y.osI;simp only[qG]at h ⊢;cases hr:mQ (nth .gone H i)with
  | none=>simp[hr]at h
  | some x=>rw[zHo (fun x=>hs i x (by rw[j];simp)) hr];rw[hr]at h;exact h
 | og i o n=>
  obtain⟨b,C,c,_,j,_⟩:=y.ogI;simp only[qG]at h ⊢;cases hr:mQ (nth .gone H i)with
  | none=>simp[hr]at h
  | some x=>rw[zHo (fun x=>hs i x (by rw[j];simp)) hr];rw[hr]at h;exact h
 | v x=>
  unfold qG at h ⊢;split at h<;>first | exact h | (rename_i e;cases e;done) | skip
  all_goals first | (rename_i e;cases e;simp) | cases h
 | _=>exact h
open Classical in
theorem zZb(A:Ok R po k)(J:Inv R l a w B Y Mo)(hi:i<R.rs.length)(hr:i∈Region.ready .any R.ops l){K:Act→World→Prop}
  (hk:∀a' w' B' Y' Mo',Inv R (l.setIfInBounds i true) a' w' B' Y' Mo'→K a' w'):wpOpIn (FF rr) 0 R.P R.ops Q i K a w:=by
 obtain⟨hun,o,ho,hall⟩:=mem_ready.1 hr;obtain⟨z,hz⟩:∃z,R.rs[i]?=some z:=⟨R.rs[i],by simp[hi]⟩
 obtain⟨o',ho',G⟩:=A.spec i z hz;have W:i<l.size:=by
  rw[J.lsz];exact(Array.getElem?_eq_some_iff.1 ho).1
 have hunl:l.getD i false=false:=by simpa[W]using hun
 obtain rfl:o=o':=by
  have h1:R.ops.toList[i]?=some o:=by simpa using ho
  rw[h1]at ho';exact Option.some.inj ho'
 have Z:=qNm A J hi ho hall;have hgr:∀j b p t,o.guard=some (j,b)→R.ops[j]?=some p→p.dst=some t→Rep B (rd w Y) (nth .u (kI R.ops.toList (R.rs.take i) R.L0) t) (a.tmps.getD t undef):=fun j b p t h1 h2 h3=>by
  have:=(xM A.hd i o (A.hget hi ho)).2.1;rw[Nat.zero_add]at this;unfold qEd at this;simp only[h1,h2,h3]at this;exact zXs A J hi ho hall this
 unfold wpOpIn;simp only[ho];unfold xE at G;cases hw:kK R.ops (kI R.ops.toList (R.rs.take i) R.L0) o with
 | none=>simp[hw]at G
 | some q=>
  rw[qIr hgr hw];have hnd:xY o.op=true:=by rw[←zHn];exact A.nd o (by simpa using Array.mem_of_getElem? ho)
  cases q with
  | false=>
   simp only[hw,za]at G;subst G;simp only[Bool.false_eq_true,if_false];exact⟨fun f _=>kY rr f,hk _ _ _ _ _ (J.val A (Upd.refl _ _) hi ho hz (Rep.mkTu (vs:=[]) trivial) W)⟩
  | true=>
   simp only[hw]at G;simp only[if_true];refine zNb hnd ?_;generalize hL:kI R.ops.toList (R.rs.take i) R.L0=L at G Z;have hρ:∀x,Rep B (rd w Y) ((fun x=>if x∈o.op.operands then evO L x else T.u) x) (a.eval x):=fun x=>by
    by_cases hx:x∈o.op.operands
    ·simp only[hx,if_true];exact Z x hx
    ·simp only[hx,if_false];exact .u
   have hcg:∀x∈o.op.operands,evO L x=(fun x=>if x∈o.op.operands then evO L x else T.u) x:=fun x hx=>by simp only[hx,if_true]
   have hsub:∀(q:Nat)(x:TO),R.Hm[q]?=some x→x≠.gone→(wI l R.ks R.H0++jB l 0 R.rs)[q]?=some x:=fun q x h1 h2=>by
    have hq:q<R.H0.length:=by rw[←A.hml];exact(List.getElem?_eq_some_iff.1 h1).1
    rw[List.getElem?_append_left (by rw[jZ];exact hq)]
    exact A.sub0 h1 h2
   have hH:zIw B (rd w Y) w R.Hm:=⟨fun t v n cs us h1 h2 h3=>J.wd.from h1 (qDw hsub h2) h3,fun q b C ml hB hn=>J.wd.hp.map q b C ml hB (zFs (hsub q) hn (by simp)),fun q b C md hB hn=>J.wd.hp.mapd q b C md hB (zFs (hsub q) hn (by simp))⟩
   unfold mH at G;have hid:ln (R.Hm++qI (R.rs.take i))=R.H0.length+pos R.rs i:=by rw[qU];simp[pos,A.hml]
   have hks:=zMm R.ops.toList R.rs R.L0 i o z (by simpa using ho) hz
   rw[show ksE R.ops.toList R.rs R.L0=R.ks from rfl,hL]at hks;have hgoneAt:∀(t:T)(ob:TO),z=(t,some ob)→(wI l R.ks R.H0++jB l 0 R.rs)[R.H0.length+pos R.rs i]?=some .gone:=fun t ob e=>by
    subst e;rw[List.getElem?_append_right (by rw[jZ];exact Nat.le_add_right _ _),jZ,Nat.add_sub_cancel_left,bL l R.rs 0 i t ob hz,Nat.zero_add,hunl];rfl
   have hfree:∀(t:T)(ob:TO)(p:Nat×Nat),z=(t,some ob)→∀(j:Nat)(t':T)(ob':TO),R.rs[j]?=some (t',some ob')→(l.setIfInBounds i true).getD j false=false→rG B (R.H0.length+pos R.rs i) p (R.H0.length+pos R.rs j)=none:=fun t ob p e j t' ob' hj hlj=>by
    subst e;have hji:i≠j:=fun e=>by subst e;rw[kM W]at hlj;cases hlj
    rw[getD_set_ne false hji]at hlj;have hne:R.H0.length+pos R.rs j≠R.H0.length+pos R.rs i:=fun e=>by
     have e':pos R.rs j=pos R.rs i:=by omega
     rcases Nat.lt_trichotomy i j with h | h | h
     ·have:=zUe R.rs i j t ob hz h;omega
     ·exact hji h
     ·have:=zUe R.rs j i t' ob' hj h;omega
    rw[jU _ _ hne];exact J.free j t' ob' hj hlj
   have app:∀(kq:Option Nat),(z.2≠none→R.ks[i]?=some kq)→zJa R.P R.H0 (R.Hm++qI (R.rs.take i)) kq L o.op=some z→o.wp R.P a w K Q:=fun kq hkq I=>by
    generalize hopq:o.op=op at I;unfold zJa at I;split at I
    ·rename_i c;split at I
     ·rename_i x y t t' e1 e2 e3;cases htt:Nat.beq t t' with
      | false=>simp[htt]at I
      | true=>
       obtain rfl:=zY htt;simp only[htt,ze]at I;have V:c.args=#[x,y]:=Array.ext' (by simpa using e2)
       have hts:c.argTypes=#[t,t]:=Array.ext' (by simpa using e3)
       have hmem:∀u,u=x∨u=y→u∈o.op.operands:=fun u hu=>by
        rw[hopq];simp only[Op.operands,Call.operands,V,Array.mem_append];right;rcases hu with rfl | rfl<;>simp
       have hx:=Z x (hmem x (.inl rfl));have hy:=Z y (hmem y (.inr rfl));unfold zYl at I;cases he:elT R.P t with
       | none=>simp[he]at I
       | some e=>
        have ht:=wG he;cases hd:ldT R.P e with
        | none=>simp[he,hd]at I
        | some gs=>
         obtain⟨g,s⟩:=gs;simp only[he,hd]at I;split at I
         ·rename_i us nx vs ny U c2 c4;cases hcond:!Nat.beq ny 0&&(zAd R.P e s (nx+ny)&&vM vs)with
          | false=>simp[hcond]at I
          | true=>
           simp only[hcond,ze,za]at I;simp only[zd,Bool.not_eq_true']at hcond;obtain⟨hny0,hok1,hok2⟩:=hcond;have hny:0<ny:=by
            rcases Nat.eq_zero_or_pos ny with h0 | h0
            ·subst h0;simp at hny0
            ·exact h0
           have hsubB:∀(q:Nat)(x:TO),B q≠none→(R.Hm++qI (R.rs.take i))[q]?=some x→x≠.gone→(wI l R.ks R.H0++jB l 0 R.rs)[q]?=some x:=fun q x h1 h2 h3=>zXw A J h1 h2 h3;have c2':=zCe hy hsubB c2;have hzz:=I.symm;subst hzz;have hkq:=hkq (by simp)
           have hkill:∀q,kq=some q→kR l R.ks q=false:=fun q e=>by
            subst e;cases hk':kR l R.ks q with
            | false=>rfl
            | true=>
             obtain⟨j,h1,h2⟩:=yU.1 hk';obtain rfl:=A.ks1 i j q hkq h1;rw[hunl]at h2;cases h2
           have hbase:zLj (wI l R.ks R.H0++jB l 0 R.rs) e s nx us (evO L x)∧qG (wI l R.ks R.H0++jB l 0 R.rs) s (evO L x)=some us.list∧jI (evO L x)=some nx∧
             (∀j o' m,evO L x= .og j o' m→kq=some j∧∃y,(wI l R.ks R.H0++jB l 0 R.rs)[j]?=some y∧vL y=true∧j<R.H0.length)∧(kq≠none→∃j o' m,evO L x= .og j o' m):=by
            unfold qBx at U;cases kq with
            | none=>
             simp only at U;split at U
             ·rename_i e4;cases U;rw[e4];exact⟨.inl ⟨_,rfl⟩,rfl,rfl,fun j o' m h=>(by cases h),fun h=>absurd rfl h⟩
             ·rename_i i' o' m c' e4;cases hb:Nat.beq m c' with
              | false=>simp[hb]at U
              | true=>
               obtain rfl:=zY hb;simp only[hb,ze]at U;cases hcl:qG (R.Hm++qI (R.rs.take i)) s (evO L x)with
               | none=>simp[hcl]at U
               | some u=>
                simp only[hcl,za,Prod.mk.injEq]at U;obtain⟨rfl,rfl⟩:=U;have:=zCe hx hsubB hcl;exact⟨.inr (.inr (.inl ⟨_,_,_,e4⟩)),this,by rw[e4];rfl,fun j o' m h=>(by rw[e4]at h;cases h),fun h=>absurd rfl h⟩
             ·rename_i cs m e4;cases hcl:qG (R.Hm++qI (R.rs.take i)) s (evO L x)with
              | none=>simp[hcl]at U
              | some u=>
               simp only[hcl,za,Prod.mk.injEq]at U;obtain⟨rfl,rfl⟩:=U;have:=zCe hx hsubB hcl;exact⟨.inr (.inl ⟨_,_,e4⟩),this,by rw[e4];rfl,fun j o' m h=>(by rw[e4]at h;cases h),fun h=>absurd rfl h⟩
             ·cases U
            | some q=>
             simp only at U;split at U
             ·rename_i j o' m e4;cases hb:Nat.beq j q&&Nat.beq o' 0 with
              | false=>simp[hb]at U
              | true=>
               simp only[hb,ze]at U;simp only[zd]at hb;obtain rfl:=zY hb.1;obtain rfl:=zY hb.2;split at U
               ·rename_i cs e' hn;cases hb2:Nat.beq (ln cs.list) (m*s)&&Nat.beq e e' with
                | false=>simp[hb2]at U
                | true=>
                 simp only[hb2,ze,za,Prod.mk.injEq]at U;obtain⟨rfl,rfl⟩:=U;simp only[zd,qU]at hb2;obtain rfl:=zY hb2.2;have hcs:=zY hb2.1;have hg:=zQa hn (by simp)
                 have hjl:j<R.H0.length:=(List.getElem?_eq_some_iff.1 hg).1;have hg2:(wI l R.ks R.H0++jB l 0 R.rs)[j]?=some (.gro cs e):=by
                  rw[List.getElem?_append_left (by rw[jZ];exact hjl),tY,hg,hkill j rfl];rfl
                 refine⟨.inr (.inr (.inr ⟨j,e4,hg2,hcs⟩)),?_,by rw[e4];rfl,fun j' o' m' h=>?_,fun _=>⟨_,_,_,e4⟩⟩
                 ·rw[e4];simp only[qG,qX,zh,hg2,Option.getD_some,mQ];have:jN (m*s) (jJ cs.list 0)=some cs.list:=by
                   rw[pX,List.drop_zero,←hcs];exact zLe cs.list
                  exact this
                 ·rw[e4]at h;cases h;exact⟨rfl,_,hg2,rfl,hjl⟩
               ·cases U
             ·cases U
           obtain⟨hb1,c1',c3,hb4,hb5⟩:=hbase;obtain⟨C,hC1,hC2,hA⟩:=zOi (ty:=o.type) J.wd hx hy ht hd c1' c2' c3 c4 hny hok1 hok2 hb1;have hgo:=hgoneAt _ _ rfl;have hBi:=J.free i _ _ hz hunl;have hlist:∀(x0:TO),(match kq with | some q=>((wI l R.ks R.H0++jB l 0 R.rs).set q .gone).set (R.H0.length+pos R.rs i) (.gro (us.apY (evO L y) vs) e) | none=>(wI l R.ks R.H0++jB l 0 R.rs).set (R.H0.length+pos R.rs i) (.gro (us.apY (evO L y) vs) e))=wI (l.setIfInBounds i true) R.ks R.H0++jB (l.setIfInBounds i true) 0 R.rs:=fun _=>by
            have e1:=bP l R.rs 0 i _ _ hz (by omega)
            rw[Nat.zero_add]at e1;cases kq with
            | none=>
             rw[e1,zCu (fun q hq=>by rw[hkq]at hq;cases hq)]
             show List.set _ _ _=_;rw[List.set_append_right _ _ (by rw[jZ];exact Nat.le_add_right _ _),jZ,Nat.add_sub_cancel_left]
            | some q=>
             have hq:q<(wI l R.ks R.H0).length:=by
              obtain⟨j,o',m,e4⟩:=hb5 (by simp)
              obtain⟨e5,_,_,_,h⟩:=hb4 _ _ _ e4;cases e5;rw[jZ];exact h
             rw[e1,qEr hkq W];show List.set (List.set _ _ _) _ _=_;rw[List.set_append_left _ _ hq,List.set_append_right _ _ (by rw[List.length_set,jZ];exact Nat.le_add_right _ _),List.length_set,jZ,Nat.add_sub_cancel_left]
           unfold Oper.wp;rcases hA with⟨obj,M,hRO⟩ | ⟨j,o',n',b,cur,c2'',q,ex,hB,hq,M,hS,N,hRO⟩
           ·rw[fI hopq e1 V hts M];obtain⟨hW',hBl⟩:=(J.wd.call (Upd.drew w)).fill (C:=C) hgo hBi rfl hRO rfl;have N:=((Upd.drew w).le Y).trans (Le.hide_new (w:=w.drew) (Y:=Y) obj);refine hk _ _ (rG B (R.H0.length+pos R.rs i) (w.drew.heap.size,C)) _ ((w.drew.heap.size,obj)::Mo) ⟨?_,FrD.step A (J.fr.mono hBl N) hi ho hz ?_ W,J.ble.trans hBl,J.le.trans N,hfree _ _ _ rfl,fun j hj=>?_,by simpa using J.lsz⟩
            ·rw[←hlist .gone];cases kq with
             | none=>exact hW'
             | some q=>
              have hne:q≠R.H0.length+pos R.rs i:=by
               obtain⟨j,o',m,e4⟩:=hb5 (by simp)
               obtain⟨e5,_,_,_,h⟩:=hb4 _ _ _ e4;cases e5;omega
              have:=hW'.gone q;rwa[List.set_comm _ _ (Ne.symm hne)]at this
            ·rw[hid];exact .og (qJ _ _ _) hC1 (fun _=>rfl) hC2
            ·rw[getD_set_ne false (by omega)];exact J.head j hj
           ·obtain⟨rfl,x0,hj,hlx,hjl⟩:=hb4 _ _ _ ex;rw[fI hopq e1 V hts M];have hW2:=J.wd.set hj hlx hB hq hS N (fun cs e=>by cases e) (fun _=>hRO)
            have hjl2:j<(wI l R.ks R.H0++jB l 0 R.rs).length:=(List.getElem?_eq_some_iff.1 hj).1;have hne:j≠R.H0.length+pos R.rs i:=by omega
            obtain⟨hW3,hB3⟩:=hW2.moveTo (i:=j) (j:=R.H0.length+pos R.rs i) (x:= .gro (us.apY (evO L y) vs) e) (by rw[List.getElem?_set_self hjl2]) rfl hB (by rw[List.getElem?_set_ne hne];exact hgo) hBi
            rw[List.set_set]at hW3;refine hk _ _ (rG B (R.H0.length+pos R.rs i) (b,C)) _ (Mo.set q (b,.cells c2'' e (0,0))) ⟨?_,FrD.step A (J.fr.mono hB3 N) hi ho hz ?_ W,J.ble.trans hB3,J.le.trans N,hfree _ _ _ rfl,fun j hj=>?_,by simpa using J.lsz⟩
            ·rw[←hlist .gone];exact hW3
            ·rw[hid];exact .og (qJ _ _ _) hC1 (fun _=>rfl) hC2
            ·rw[getD_set_ne false (by omega)];exact J.head j hj
         ·cases I
     ·cases I
    ·cases I
   cases hau:pK L o.op with
   | some q=>
    simp only[hau]at G;exact app (some q) (fun hne=>by
     rw[hks,hau];cases hz2:z.2 with
     | none=>exact absurd hz2 hne
     | some _=>rfl) G
   | none=>
   simp only[hau]at G;cases hp:kX R.P R.Hm (ln (R.Hm++qI (R.rs.take i))) (evO L) o.op with
   | some y=>
    simp only[hp,za]at G;subst G;rw[lT o.op hcg]at hp;have hA:=zXh hH hρ hp;obtain⟨t,ob⟩:=y;unfold Oper.wp;cases ob with
    | none=>
     obtain⟨v,M,hR⟩:=hA;rw[M];exact hk _ _ _ _ _ (J.val A (Upd.refl _ _) hi ho hz hR W)
    | some ob=>
     obtain⟨C,obj,vf,M,hl,hR,hv⟩:=hA;rw[M];rw[hid]at hv;obtain⟨hW',hB⟩:=J.wd.fill (hgoneAt t ob rfl) (J.free i t ob hz hunl) hl hR rfl;have N:=Le.hide_new (w:=w) (Y:=Y) obj;refine hk _ _ _ _ ((w.heap.size,obj)::Mo) ⟨?_,FrD.step A (J.fr.mono hB N) hi ho hz ((hv _).mono (BLe.refl _) N) W,J.ble.trans hB,J.le.trans N,hfree t ob _ rfl,fun j hj=>?_,by simpa using J.lsz⟩
     ·have e:=bP l R.rs 0 i t ob hz (by omega)
      rw[Nat.zero_add]at e;rw[e,zCu (fun q hq=>by rw[hks,hau]at hq;cases hq)]
      rw[List.set_append_right _ _ (by rw[jZ];exact Nat.le_add_right _ _),jZ,Nat.add_sub_cancel_left]at hW'
      exact hW'
     ·rw[getD_set_ne false (by omega)];exact J.head j hj
   | none=>
    simp only[hp]at G;cases hc:gG R.P po (R.Hm++qI (R.rs.take i)) L o.op with
    | some t=>
     simp only[hc,za]at G;subst G;generalize hopq:o.op=op at hc;unfold gG at hc;split at hc
     ·rename_i c;split at hc
      ·rename_i fx e1;split at hc
       ·rename_i f cs e2;cases hen:jT R.P f with
        | false=>simp[hen]at hc
        | true=>
         simp only[hen,ze]at hc;have hmem:∀x,x=fx∨x∈c.args.toList→x∈o.op.operands:=fun x hx=>by
          rw[hopq];simp only[Op.operands,Call.operands,e1,Array.mem_append];rcases hx with rfl | hx
          ·left;simp
          ·right;simpa using hx
         have hfx:=Z fx (hmem fx (.inl rfl));rw[e2]at hfx;obtain⟨caps,hv,hcs⟩:=hfx.fnI;have V:zO B (rd w Y) (c.args.toList.map (evO L)) (c.args.toList.map a.eval):=by
          have:∀l:List Operand,(∀x∈l,x∈o.op.operands)→zO B (rd w Y) (l.map (evO L)) (l.map a.eval):=by
           intro l;induction l with
           | nil=>intro _;trivial
           | cons x l ih=>exact fun h=>⟨Z x (h x List.mem_cons_self),ih fun y hy=>h y (List.mem_cons_of_mem _ hy)⟩
          exact this _ fun x hx=>hmem x (.inr hx)
         unfold Oper.wp;rw[zCj hopq e1 hv hen w];have hOw:Ow B (rd w Y) w (fun b=>∃ob,(b,ob)∈Mo) (R.Hm++qI (R.rs.take i)):=fun q b C cs hB hown=>by
          refine J.wd.ow q b C cs hB ?_;cases hx:nth .gone (R.Hm++qI (R.rs.take i)) q with
          | gone=>rw[hx]at hown;cases hown
          | _=>rw[hx]at hown;rw[zFs (fun x h1 h2=>zXw A J (by rw[hB];simp) h1 h2) hx (by simp)];exact hown
         refine qHg (k:=k) A.po hc hOw J.wd.ivw J.wd.bNle J.wd.st.lt (fun q hq=>?_) (V.app hcs) fun v w' hu hv=>?_
         ·refine J.wd.nn q ?_;rw[List.length_append,zDa,jZ];have N:∀rs:List (T×Option TO),(qI rs).length≤rs.length:=by
           intro rs;induction rs with
           | nil=>simp[qI]
           | cons z rs ih=>obtain⟨t,ob⟩:=z;cases ob<;>simp[qI]<;>omega
          have h1:=N R.rs;have h2:=A.len;have h3:=A.bd;simp at h2;omega
         ·exact hk _ _ _ _ _ (J.val A hu hi ho hz hv W)
       ·cases hc
      ·cases hc
     ·cases hc
    | none=>
     simp only[hc]at G;cases I:zJa R.P R.H0 (R.Hm++qI (R.rs.take i)) none L o.op with
     | some y=>
      simp only[I,za]at G;subst G;exact app none (fun _=>by
       rw[hks,hau];cases y.2<;>rfl) I
     | none=>
     simp only[I]at G;cases hm:zBa R.P (evO L) o with
     | none=>simp[hm]at G
     | some t=>
      simp only[hm,za]at G;subst G;rw[aO o hcg]at hm;obtain⟨v,M,hR⟩:=qFf (P:=R.P) (w:=w) (ρ:=a.eval) (k:=0) hρ hm;unfold Oper.wp;rw[M];exact hk _ _ _ _ _ (J.val A (Upd.refl _ _) hi ho hz hR W)
theorem zUb{P:Program}{H:List TO}{t:TypeId}{x:T}{z:T×Option TO}(h:zBh P H t x=some z):z.2=none:=by
 unfold zBh at h
 repeat' split at h
 all_goals try simp only[Bool.cond_eq_ite]at h
 all_goals repeat' split at h
 all_goals first | exact qO h | cases h
theorem qMc{P:Program}{po:Po}{H0 Hm j:List TO}{L:List T}{ops:Array Oper}{p:Oper}{z:T×Option TO}(h:bU p=true)(e:xE P po H0 Hm j L ops p=some z):z.2=none:=by
 unfold bU at h;simp only[zd]at h;have q:p.guard=none:=by
  cases q:p.guard with
  | none=>rfl
  | some _=>have:=h.1;rw[q]at this;cases this
 have A:=h.2;split at A
 ·rename_i t x ho;unfold xE kK at e;rw[q]at e;have I:pK L p.op=none:=by rw[ho];rfl
  simp only[mH,I]at e;cases hp:kX P Hm (ln j) (evO L) p.op with
  | some y=>
   simp only[hp,za]at e;subst e;rw[ho]at hp;simp only[kX]at hp;exact zUb hp
  | none=>
   have G:gG P po j L p.op=none:=by rw[ho];rfl
   have ha:zJa P H0 j none L p.op=none:=by rw[ho];rfl
   simp only[hp,G,ha]at e;cases C:zBa P (evO L) p with
   | none=>simp[C]at e
   | some t=>simp only[C,za]at e;subst e;rfl
 ·cases A
theorem zJw{P:Program}{E:Nat→Prop}{w0:World}{X:Hid}{F:List Nat}{n:Nat}{D:List Deferred}{ops:Array Oper}{cl yd:Cl}{po:Po}{id:Nat}(hm:P.follows .mixedOrders=true){s s':S}(hpo:∀f az tv nw,po f az=some (tv,nw)→KnP P (ln s.H+ops.size) f az tv nw)(hcl:kN P cl)(hyd:xK P yd)
  (hok:fQ ops=true) (hW:Wd P E w0 X F s.H B w Y Mo) (hF:FrT n a s.L D B (rd w Y)) (hk:nU P E w0 X F n D s'.H s'.L B (rd w Y) (Q .normal)) (Hm:List TO) (rs:List (T×Option TO)) (hml:Hm.length=s.H.length) (hms:∀(q:Nat)(x:TO),Hm[q]?=some x→x≠.gone→s.H[q]?=some x)
  (hrs:∀(i:Nat)(z:T×Option TO),rs[i]?=some z→∃o,ops.toList[i]?=some o∧xE P po s.H Hm (Hm++qI (rs.take i)) (kI ops.toList (rs.take i) s.L) ops o=some z) (hlen:rs.length≤ops.toList.length) (h:drF P cl yd ops s Hm rs=some s'):(Code.region id ops true).wpIn (FF rr) 0 P Q a w:=by
 unfold drF at h;cases hd:qDd ops (ln rs)&&zMl Hm (ksE ops.toList rs s.L)with
 | false=>simp[hd]at h
 | true=>
 simp only[hd,ze]at h;simp only[zd]at hd;obtain⟨hd,hks⟩:=hd;unfold qDd at hd;simp only[zd]at hd;rw[qU]at hd h;unfold jAl at h;cases hld0:nE P ops ⟨kI ops.toList rs s.L,xV (ksE ops.toList rs s.L) s.H++qI rs⟩ (aN ops rs.length)with
 | false=>simp[hld0]at h
 | true=>
 simp only[hld0,ze]at h;have hnd:∀o∈ops.toList,kV o.op=true:=fun o ho=>List.all_eq_true.1 hok o ho;have C:Ok ⟨P,E,w0,X,F,n,D,ops,s.H,Hm,s.L,rs,B,rd w Y⟩ po (ln s.H+ops.size):=by
  refine⟨fun i z V=>?_,hd.1,hd.2.1,hd.2.2,?_,?_,?_,?_,hnd,hml,hms,(bB hks).1,(bB hks).2⟩
  ·exact hrs i z V
  ·exact hlen
  ·have:=hF.reps.length;rw[this];simpa using hF.size
  ·exact hpo
  ·show s.H.length+ops.size≤ln s.H+ops.size;rw[qU];exact Nat.le_refl _
 have htl:∀(j:Nat)(o:Oper),rs.length≤j→ops[j]?=some o→∀q,q<j→(∀S:Nat→Prop,zIy ops.toList S→(∀e∈o.after,Region.binds .any e=true→S e.on)→S q)∨∃p,ops[q]?=some p∧xX rs.length (aN ops rs.length) (vlR ops rs.length) q p=true∧bZ ops o p=true:=fun j o U ho q hq=>by
  rcases zNs hd.2.1 j o U (by simpa using ho) q hq with A | ⟨p,I,h3⟩
  ·exact .inl A
  ·exact .inr ⟨p,by simpa using I,h3⟩
 have hdp:∀(i:Nat)(p:Oper)(t:Nat),i<rs.length→ops[i]?=some p→Operand.tmp t∈p.op.operands→∀(i':Nat)(p':Oper),i'<rs.length→ops[i']?=some p'→p'.dst=some t→i'<i∧∃e∈p.after,Region.binds .any e=true∧e.on=i':=fun i p t J hp ht i' p' hi' hp' G=>by
  have A:=(xM C.hd i p (C.hget J hp)).1 (.tmp t) (by simpa using ht)
  rw[Nat.zero_add]at A;have A:zDr (ops.toList.take rs.length) p i t=true:=A;unfold zDr at A;cases hw:wrt t (ops.toList.take rs.length) 0 with
  | none=>exact absurd G (dN hw i' p' (C.hget hi' hp'))
  | some j=>
   simp only[hw,zd,Nat.blt_eq]at A;obtain⟨j',o',e1,h3,h4⟩:=zCb hw;obtain rfl:j=j':=by omega
   have U:j<rs.length:=by omega
   have Z:ops[j]?=some o':=by
    rw[List.getElem?_take,if_pos U]at h3;simpa using h3
   obtain rfl:i'=j:=C.once hi' U hp' Z G h4;exact⟨A.1,zEr A.2⟩
 have heg:∀(j:Nat)(o:Oper),ops[j]?=some o→∀e∈o.after,Region.binds .any e=true→e.on<j:=fun j o ho e he hb=>by
  have:=zAn hd.2.2 j o (by simpa using ho) e he hb
  rwa[Nat.zero_add]at this
 refine wpIn_region_any hm ?_;have hup:=Upd.drew w;have hW0:Wd P E w0 X F s.H B w.drew Y Mo:=hW.call hup;have main:∀(fuel:Nat)(l:Array Bool)(a':Act)(w':World)(B':Bm)(Y':Hid)(M:List (Nat×Obj)),Inv ⟨P,E,w0,X,F,n,D,ops,s.H,Hm,s.L,rs,B,rd w Y⟩ l a' w' B' Y' M→zOa l≤fuel→zIy ops.toList (fun q=>l.getD q false=true)→wpAnyIn (FF rr) 0 P .any ops Q fuel l a' w':=by
  have toTail:∀(fuel:Nat)(l:Array Bool)(a':Act)(w':World)(B':Bm)(Y':Hid)(M:List (Nat×Obj)),Inv ⟨P,E,w0,X,F,n,D,ops,s.H,Hm,s.L,rs,B,rd w Y⟩ l a' w' B' Y' M→zOa l≤fuel→zIy ops.toList (fun q=>l.getD q false=true)→(∀(i:Nat)(p:Oper),i<rs.length→l.getD i false=false→ops[i]?=some p→xX rs.length (aN ops rs.length) (vlR ops rs.length) i p=true)→wpAnyIn (FF rr) 0 P .any ops Q fuel l a' w':=fun fuel l a' w' B' Y' M hI hu hsh hall=>by
   have hlz:l.size=ops.size:=hI.lsz;have hmle:rs.length≤ops.size:=by have:=C.len;simpa using this
   have hlate:∀(i:Nat)(z:T×Option TO),rs[i]?=some z→l.getD i false=false→∃p,ops[i]?=some p∧xX rs.length (aN ops rs.length) (vlR ops rs.length) i p=true∧z.2=none∧(yA p=true→lZ P (kI ops.toList (rs.take i) s.L) p z.1):=fun i z V hl=>by
    obtain⟨p,A,I⟩:=C.spec i z V;have A:ops.toList[i]?=some p:=A;have h1':ops[i]?=some p:=by simpa using A
    have hk:=hall i p (List.getElem?_eq_some_iff.1 V).1 hl h1';rcases zAw hk with hk' | ⟨hk1,hk2⟩
    ·exact⟨p,h1',hk,(lZ.of_head hk' I).1,fun _=>(lZ.of_head hk' I).2⟩
    ·exact⟨p,h1',hk,qMc hk1 I,fun hk'=>(lZ.of_head hk' I).2⟩
   have hW1:Wd P E w0 X F (xV (ksE ops.toList rs s.L) s.H++qI rs) B' w' Y' M:=by
    have:Wd P E w0 X F (wI l (ksE ops.toList rs s.L) s.H++jB l 0 rs) B' w' Y' M:=hI.wd;rw[zCz l rs 0 (fun i t ob J=>?_),qEq (fun i q hq=>?_)]at this
    ·exact this
    ·cases hc:l.getD i false with
     | true=>rfl
     | false=>
      have J:i<rs.length:=Nat.lt_of_lt_of_le (List.getElem?_eq_some_iff.1 hq).1 (qEt _ _ _);obtain⟨z,V⟩:∃z,rs[i]?=some z:=⟨rs[i],by simp[J]⟩
      obtain⟨p,A,I,h3,_⟩:=hlate i z V hc;rw[zMm ops.toList rs s.L i p z (by simpa using A) V,h3]at hq;cases hq
    ·rw[Nat.zero_add];cases hc:l.getD i false with
     | true=>rfl
     | false=>
      obtain⟨p,_,_,h3,_⟩:=hlate i _ J hc;cases h3
   have G1:FrL n a' (kI ops.toList rs s.L) D B' (rd w' Y') (Pnd ops rs.length l):=by
    refine⟨hI.fr.size,by rw[bC];exact C.slots,hI.fr.defers,fun t v hnp hv=>?_⟩
    by_cases he:∃(j:Nat)(o:Oper),j<rs.length∧ops[j]?=some o∧o.dst=some t
    ·obtain⟨j,o,U,ho,N⟩:=he;obtain⟨z,V⟩:∃z,rs[j]?=some z:=⟨rs[j],by simp[U]⟩
     have ht:t<s.L.length:=by
      have A:=(Array.getElem?_eq_some_iff.1 hv).1;have I:a'.tmps.size=n:=hI.fr.size;have h3:s.L.length=n:=C.slots;omega
     rw[bD ops.toList rs s.L t j o z ht (by simpa using ho) V N fun q o' hq hl Z G=>hq (C.once hl U (by simpa using Z) ho G N)]
     refine hI.fr.done j z o t v V ho N ?_ hv;cases hc:l.getD j false with
     | true=>rfl
     | false=>exact absurd ⟨j,o,U,hc,ho,N⟩ hnp
    ·rw[mK ops.toList rs s.L t (fun j o U ho hd=>he ⟨j,o,U,by simpa using ho,hd⟩)]
     exact hI.fr.rest t v (fun j o U ho hd=>absurd ⟨j,o,U,ho,hd⟩ he) hv
   refine qOo hcl hyd (m:=rs.length) htl (fun i o A I=>qOu I A) (fun i p t A I h3 i' p' h4 h5 h6=>(hdp i p t A I h3 i' p' h4 h5 h6).2) heg hnd fuel rs.length _ s' h (Nat.le_refl _) hu hlz (fun i J=>?_) hsh (fun i p J hl hp=>?_) hW1 G1 hI.ble hI.le hk
   ·exact hI.head i J
   ·obtain⟨z,V⟩:∃z,rs[i]?=some z:=⟨rs[i],by simp[J]⟩
    obtain⟨p',A,I,_,h4⟩:=hlate i z V hl;rw[hp]at A;cases A;rcases zAw I with hkk | ⟨hk1,hk2⟩
    case inr=>
     obtain⟨d2,q1,q2⟩:=sV.of_ld hp hk1 hk2 hld0;exact⟨I,_,q2,fun d' G _=>by rw[q1]at G;cases G;rfl⟩
    refine⟨I,z.1,.inl ⟨hkk,(h4 hkk).congr fun x hx=>?_⟩,fun d G hlt=>?_⟩
    ·cases x with
     | tmp t=>
      show nth .u (kI ops.toList (rs.take i) s.L) t=nth .u (kI ops.toList rs s.L) t;by_cases he:∃(j:Nat)(o:Oper),j<rs.length∧ops[j]?=some o∧o.dst=some t
      ·obtain⟨j,o,U,ho,N⟩:=he;obtain⟨hji,_⟩:=hdp i p t J hp hx j o U ho N;obtain⟨zj,hzj⟩:∃z,rs[j]?=some z:=⟨rs[j],by simp[U]⟩
       rcases Nat.lt_or_ge t s.L.length with ht | ht
       ·rw[bD ops.toList rs s.L t j o zj ht (by simpa using ho) hzj N fun q o' hq hl Z G=>hq (C.once hl U (by simpa using Z) ho G N),
         bD ops.toList (rs.take i) s.L t j o zj ht (by simpa using ho) (by rw[List.getElem?_take,if_pos hji];exact hzj) N fun q o' hq hl Z G=>hq (C.once (Nat.lt_of_lt_of_le hl (by rw[List.length_take];exact Nat.min_le_right _ _)) U (by simpa using Z) ho G N)]
       ·simp only[qX,zh];rw[List.getElem?_eq_none (by rw[bC];exact ht),List.getElem?_eq_none (by rw[bC];exact ht)]
      ·rw[mK ops.toList rs s.L t (fun j o U ho hd=>he ⟨j,o,U,by simpa using ho,hd⟩),mK ops.toList (rs.take i) s.L t (fun j o U ho hd=>he ⟨j,o,Nat.lt_of_lt_of_le U (by rw[List.length_take];exact Nat.min_le_right _ _),by simpa using ho,hd⟩)]
     | _=>rfl
    ·rw[bC]at hlt;exact bD ops.toList rs s.L d i p z hlt (by simpa using hp) V G fun q o' hq hl Z hd2=>hq (C.once hl J (by simpa using Z) hp hd2 G)
  intro fuel;induction fuel with
  | zero=>
   intro l a' w' B' Y' M hI hu hsh;refine toTail 0 l a' w' B' Y' M hI hu hsh fun i p J hc=>?_;have hlz:l.size=ops.size:=hI.lsz;have hmle:rs.length≤ops.size:=by have:=C.len;simpa using this
   have:=zBw (by omega) hc
   omega
  | succ fuel ih=>
   intro l a' w' B' Y' M hI hu hsh;by_cases hall:∀(i:Nat)(p:Oper),i<rs.length→l.getD i false=false→ops[i]?=some p→xX rs.length (aN ops rs.length) (vlR ops rs.length) i p=true
   ·exact toTail _ l a' w' B' Y' M hI hu hsh hall
   ·have hlz:l.size=ops.size:=hI.lsz;have hmle:rs.length≤ops.size:=by have:=C.len;simpa using this
    obtain⟨i1,p1,hi1,hl1,hp1,hk1⟩:∃(i:Nat)(p:Oper),i<rs.length∧l.getD i false=false∧ops[i]?=some p∧¬xX rs.length (aN ops rs.length) (vlR ops rs.length) i p=true:=by
     refine Classical.byContradiction fun hn=>hall fun i p A I h3=>?_;exact Classical.byContradiction fun h4=>hn ⟨i,p,A,I,h3,h4⟩
    obtain⟨i0,hi0,hl0,hbelow⟩:=zKo ⟨i1,hi1,hl1⟩;obtain⟨o0,ho0⟩:∃o,ops[i0]?=some o:=⟨ops[i0]'(by omega),by simp⟩
    have hr0:i0∈Region.ready .any ops l:=zQw hlz ho0 hl0 fun e he hb=>hbelow _ (heg i0 o0 ho0 e he hb);refine⟨fun h0=>absurd (h0▸hr0) (by simp),fun i J=>?_⟩
    obtain⟨hun,oi,hoi,hall'⟩:=mem_ready.1 J;have him:i<rs.length:=by
     rcases Nat.lt_or_ge i rs.length with A | A
     ·exact A
     ·rcases htl i oi A hoi i1 (by omega)with I | ⟨p,I,h3,_⟩
      ·have:=I (fun q=>l.getD q false=true) hsh hall';rw[hl1]at this;cases this
      ·rw[hp1]at I;cases I;exact absurd h3 hk1
    have hil:i<l.size:=by omega
    have hc:l.getD i false=false:=by simpa[hil]using hun
    refine zZb C hI him J fun a2 w2 B2 Y2 Mo2 hI2=>ih _ a2 w2 B2 Y2 Mo2 hI2 ?_ (hsh.set (by simpa using hoi) hil hall')
    have:=zBw hil hc;omega
 have V:∀i,(Array.replicate ops.size false).getD i false=false:=fun i=>by
  by_cases J:i<ops.size<;>simp[J]
 refine main ops.size _ a _ B Y Mo ⟨?_,⟨hF.size,hF.defers,fun i z o d v _ _ _ hl _=>?_,fun t v _ hv=>?_⟩,BLe.refl B,hup.le Y,fun i t ob _ _=>hW0.nn _ (Nat.le_add_right _ _),fun i _=>V i,by simp⟩ ?_ (fun i _ _ I=>absurd (show(Array.replicate ops.size false).getD i false=true from I) (by rw[V];simp))
 ·show Wd P E w0 X F (wI _ _ s.H++_) B _ Y Mo;rw[zZc (fun i _=>V i)];have W:∀(i:Nat)(x:TO),(s.H++jB (Array.replicate ops.size false) 0 rs)[i]?=some x→x≠.gone→s.H[i]?=some x:=fun i x hx hne=>by
   rcases Nat.lt_or_ge i s.H.length with J | J
   ·rwa[List.getElem?_append_left J]at hx
   ·rw[List.getElem?_append_right J]at hx;exact absurd (zDb _ rs 0 _ x (fun i _=>V _) hx) hne
  have ng:∀{y:TO},vL y=true→y≠.gone:=fun h e=>by subst e;cases h
  exact⟨hW0.st,fun i x hx hl=>hW0.ob i x (W i x hx (ng hl)) hl,fun i cs hx=>hW0.fz i cs (W i _ hx (by simp)),fun i J=>hW0.nn i (by simp at J;omega),
   fun i j oi oj p q A l1 I l2=>hW0.inj i j oi oj p q (W i _ A (ng l1)) l1 (W j _ I (ng l2)) l2,hW0.bN,hW0.iv⟩
 ·rw[V]at hl;cases hl
 ·have hR:=hF.reps.getD t;have:a.tmps.toList.getD t undef=v:=by simp[hv]
  rw[this]at hR;exact hR.mono (BLe.refl B) (hup.le Y)
 ·have:zOa (Array.replicate ops.size false)=ops.size:=by
   have h:=zUo (l:=Array.replicate ops.size false) (j:=0) (fun i=>by rw[V];simp) (Nat.zero_le _)
   simpa using h
  omega
theorem qKj{P:Program}{E:Nat→Prop}{w0:World}{X:Hid}{F:List Nat}{n:Nat}{D:List Deferred}{ops:Array Oper}{cl yd:Cl}{rn:Rn}{O:Po}{id:Nat}(V:P.follows .mixedOrders=true)(hO:qR P O)(N:pJ P rn)(G:kN P cl)(U:xK P yd)
  (M:fQ ops=true) {s s':S} (h:drE P O rn cl yd ops s=some s') (hW:Wd P E w0 X F s.H B w Y Mo) (hF:FrT n a s.L D B (rd w Y)) (hk:nU P E w0 X F n D s'.H s'.L B (rd w Y) (Q .normal)):(Code.region id ops true).wpIn (FF rr) 0 P Q a w:=by
 have core:∀(Hm:List TO)(rs:List (T×Option TO)),Hm.length=s.H.length→(∀(q:Nat)(x:TO),Hm[q]?=some x→x≠.gone→s.H[q]?=some x)→(∃k,rs=(sW P (zIb P O rn (ln s.H+ops.size)) s.H Hm ops ops.toList [] Hm s.L).take k)→drF P cl yd ops s Hm rs=some s'→(Code.region id ops true).wpIn (FF rr) 0 P Q a w:=fun Hm rs hml hms A h=>by
  refine zJw (po:=zIb P O rn (ln s.H+ops.size)) V (fun f az tv nw hp=>?_) G U M hW hF hk Hm rs hml hms (fun i z C=>?_) ?_ h
  ·unfold zIb at hp;cases ho:O f az with
   | some y=>simp only[ho,za]at hp;subst hp;exact hO _ _ _ _ ho _
   | none=>simp only[ho]at hp;exact zGu (fG V N) hp
  ·obtain⟨k,rfl⟩:=A;rw[List.getElem?_take]at C;split at C
   ·rename_i I;have:=zKe _ _ _ _ _ _ C;rw[List.take_take,Nat.min_eq_left (Nat.le_of_lt I)];exact this
   ·cases C
  ·obtain⟨k,rfl⟩:=A;rw[List.length_take];exact Nat.le_trans (Nat.min_le_right _ _) (zPj _ _ _ _)
 unfold drE drU at h;generalize qKd ops ops.toList (sW P (zIb P O rn (ln s.H+ops.size)) s.H s.H ops ops.toList [] s.H s.L) 0=kk at h;unfold drG at h;have J:∀ks:List (Option Nat),∀(q:Nat)(x:TO),(xV ks s.H)[q]?=some x→x≠.gone→s.H[q]?=some x:=fun ks q x j Z=>by
  rw[mJ]at j;split at j
  ·cases W:s.H[q]? with
   | none=>rw[W]at j;cases j
   | some y=>rw[W]at j;cases j;exact absurd rfl Z
  ·exact j
 cases e:qSq (ksE ops.toList ((sW P (zIb P O rn (ln s.H+ops.size)) s.H s.H ops ops.toList [] s.H s.L).take kk) s.L)with
 | true=>simp only[e,ze]at h;exact core _ _ (zKi _ _) (J _) ⟨kk,rfl⟩ h
 | false=>simp only[e,zf]at h;exact core s.H _ rfl (fun _ _ h _=>h) ⟨kk,rfl⟩ h
end
section
variable {P:Program}{E:Nat→Prop}{w0:World}{X:Hid}{F:List Nat}{H:List TO}{B B':Bm}{w w':World}{Y Y':Hid}{Mo:List (Nat×Obj)}{o:Oper}{r r':Rd}{n:Nat}{a:Act}{L:List T}{D:List Deferred}{Q:Exit→Act→World→Prop}{K:Act→World→Prop}{cl yd:Cl}{O:Po}{rr:Option Nat}{ops:Array Oper}{rest:List Oper}{rn:Rn}
theorem Wd.lp(V:Wd P E w0 X F H B w Y Mo){i y C:Nat}{ps:List Nat}{N U:Code}{q:Bool}{pd:Option Code}(hi:H[i]?=some (.loop L ps N U q pd))(Z:B i=some (y,C)):
  ∃(rec:Loop)(k:Nat),(Mo++xF F)[k]?=some (y,.loop rec)∧(zO B (rd w Y) L rec.tmps.toList∧rec.params.toList=ps∧rec.assign=N∧rec.body=U∧noR N=true∧noR U=true∧LSt q pd rec)∧
   (∀j q' A,j.tmps=rec.tmps→j.params=rec.params→j.assign=rec.assign→j.body=rec.body→LSt q' A j→
    Wd P E w0 X F (H.set i (.loop L ps N U q' A)) B (w.putObj y (.loop j)) Y (Mo.set k (y,.loop j))∧Le (rd w Y) (rd (w.putObj y (.loop j)) Y))∧
   ∀j,Wd P E w0 X F (H.set i .gone) B (w.putObj y (.loop j)) Y (Mo.set k (y,.loop j))∧Le (rd w Y) (rd (w.putObj y (.loop j)) Y):=by
 obtain⟨b',C',ob,g1,g2,g3⟩:=V.ob i _ hi rfl;rw[Z]at g1;cases g1;cases g3 with
 | @loop _ _ _ _ rec _ _ hL hp ha hb hna M hs=>
  obtain⟨k,W⟩:=List.getElem?_of_mem g2;have J:k<Mo.length:=(List.getElem?_eq_some_iff.1 W).1;have I:(Mo++xF F)[k]?=some (y,.loop rec):=by rw[List.getElem?_append_left J];exact W
  have hS:∀j,St E w0 X (w.putObj y (.loop j)) Y (Mo.set k (y,.loop j)++xF F)∧Le (rd w Y) (rd (w.putObj y (.loop j)) Y):=fun j=>by
   obtain⟨G,z⟩:=V.st.putObj (o':= .loop j) k I;rw[List.set_append_left _ _ J]at G;exact⟨G,z⟩
  refine⟨rec,k,I,⟨hL,hp,ha,hb,hna,M,hs⟩,fun j q' A e1 e2 e3 e4 hs'=>?_,fun j=>?_⟩
  ·obtain⟨G,z⟩:=hS j;exact⟨V.set hi rfl Z W G z (fun cs e=>by cases e) (fun _=> .loop (by rw[e1];exact hL.mono (BLe.refl B) z) (by rw[e2];exact hp) (by rw[e3];exact ha) (by rw[e4];exact hb) hna M hs'),z⟩
  ·obtain⟨G,z⟩:=hS j;exact⟨V.set hi rfl Z W G z (fun cs e=>by cases e) (fun e=>by cases e),z⟩
theorem zQu:∀{ps:List Nat}{az L:List T}{qO:List Value}{q:Array Value},ps.length=az.length→zO B r az qO→zO B r L q.toList→zO B r (zJh L ps az) ((ps.zip qO).foldl (fun t(x:Nat×Value)=>t.setIfInBounds x.1 x.2) q).toList
 | [],[],L,[],q,_,_,h=>by simpa[zJh]using h
 | p::ps,t::az,L,v::qO,q,j,e,h=>by
  simp only[zJh,List.zip_cons_cons,List.foldl_cons];refine zQu (by simpa using j) e.2 ?_
  have:=h.put p e.1;simpa using this
 | [],_::_,_,_,_,j,_,_=>by simp at j
 | _::_,[],_,_,_,j,_,_=>by simp at j
 | _,[],_,_::_,_,_,e,_=>e.elim
 | _,_::_,_,[],_,_,e,_=>e.elim
theorem zQt:∀(ps:List Nat)(az L:List T),(zJh L ps az).length=L.length
 | [],_,_=>by simp[zJh]
 | _::_,[],_=>by simp[zJh]
 | p::ps,t::az,L=>by rw[zJh,zQt ps az,yJ];simp
theorem lM{l:List TO}{i:Nat}{x:TO}(h:nth .gone l i=x)(j:x≠.gone):l[i]?=some x:=by
 rw[qX,zh]at h;cases e:l[i]? with
 | none=>rw[e]at h;exact absurd h.symm j
 | some y=>rw[e]at h;simp at h;rw[h]
theorem qIw(N:pJ P rn):xK P (zIv rn):=by
 intro l az H tv H' h E w0 X F B w Y Mo qO R b0 C hW hA hB hk;unfold zIv at h;split at h
 ·rename_i L ps c1 c2 hl;have hi:=lM hl (by simp)
  cases hlen:Nat.beq (ln ps) (ln az)with
  | false=>simp[hlen]at h
  | true=>
   simp only[hlen,ze]at h;have hlen:=zY hlen;rw[qU,qU]at hlen;obtain⟨rec,k,hk2,⟨hL,hp,ha,hb,hna,M,hs⟩,_,_⟩:=hW.lp hi hB;have hpl:rec.params.size=az.length:=by rw[←hlen,←hp];simp
   refine zYg k hW.st hk2 (by rw[hpl,hA.length];simp) ?_
   have hF:FrT rec.tmps.size {tmps:=(rec.params.zip qO.toArray).foldl (fun tmps(t,a)=>tmps.setIfInBounds t a) rec.tmps,defers:=[]} (zJh L ps az) [] B (rd w Y):=by
    have hz:((rec.params.zip qO.toArray).foldl (fun tmps(x:Nat×Value)=>tmps.setIfInBounds x.1 x.2) rec.tmps)=(ps.zip qO).foldl (fun t(x:Nat×Value)=>t.setIfInBounds x.1 x.2) rec.tmps:=by
     rw[←Array.foldl_toList,Array.toList_zip,hp]
    have hR:=zQu (ps:=ps) hlen hA hL;refine⟨?_,?_,rfl⟩
    ·show((rec.params.zip qO.toArray).foldl (fun tmps(x:Nat×Value)=>tmps.setIfInBounds x.1 x.2) rec.tmps).size=_;rw[hz];have h1:=hR.length;rw[zQt]at h1;have h2:=hL.length;simp at h1 h2;omega
    ·show zO B (rd w Y) _ ((rec.params.zip qO.toArray).foldl (fun tmps(x:Nat×Value)=>tmps.setIfInBounds x.1 x.2) rec.tmps).toList;rw[hz];exact hR
   unfold qQa at h;split at h
   ·rename_i s1 J1;split at h
    ·rename_i L2 ps2 d1 d2 hl2;have hi2:=lM hl2 (by simp)
     subst ha;refine N _ _ _ _ J1 E w0 X F rec.tmps.size _ [] B w Y Mo (some b0) _ (.inr hna) hW hF fun a1 w1 B1 Y1 Mo1 bs G g1 g2 J g4=>?_;obtain rfl:=G hna;obtain⟨V,k2,hk3,⟨_,_,_,_,_,_,hs2⟩,U,_⟩:=Wd.lp g1 hi2 (J _ _ hB);obtain⟨hWb,A⟩:=U {V with state:= .busy} false none rfl rfl rfl rfl rfl
     refine⟨_,run_beginRound (g1.st.get k2 hk3) hs2.1,?_⟩;unfold endY at h;subst hb;split at h
     ·rename_i e s2 J2;rw[yJ]at J2;refine N _ _ _ _ J2 E w0 X F rec.tmps.size a1 [] B1 _ Y1 _ (some b0) _ (.inr M) hWb (g2.mono (BLe.refl _) A) fun a3 w3 B3 Y3 Mo3 bs G W f2 Z f4=>?_;obtain rfl:=G M;split at h
      ·rename_i L4 ps4 e1 e2 hl4;have hi4:=lM hl4 (by simp)
       obtain⟨z,k4,I,⟨_,_,_,_,_,_,hs4⟩,q,_⟩:=Wd.lp W hi4 (Z _ _ (J _ _ hB));have y4:=(g4.trans A).trans f4;cases e with
       | n=>
        simp only[za,Prod.mk.injEq,yJ]at h;obtain⟨rfl,rfl⟩:=h;obtain⟨y,j⟩:=q {z with state:= .ready,pending:=none} true none rfl rfl rfl rfl ⟨rfl,rfl⟩
        exact⟨_,_,run_endRound none (W.st.get k4 I),hk _ _ _ _ _ y (.v rfl) (J.trans Z) (y4.trans j)⟩
       | r=>
        simp only[za,Prod.mk.injEq,yJ]at h;obtain⟨rfl,rfl⟩:=h;obtain⟨y,j⟩:=q {z with state:= .done,pending:=some .ret} false (some .ret) rfl rfl rfl rfl ⟨rfl,rfl⟩
        exact⟨_,_,run_endRound (some .ret) (W.st.get k4 I),hk _ _ _ _ _ y (.v rfl) (J.trans Z) (y4.trans j)⟩
       | x id=>
        simp only[za,Prod.mk.injEq,yJ]at h;obtain⟨rfl,rfl⟩:=h;obtain⟨y,j⟩:=q {z with state:= .done,pending:=some (.exit id)} false (some (.exit id)) rfl rfl rfl rfl ⟨rfl,rfl⟩
        exact⟨_,_,run_endRound (some (.exit id)) (W.st.get k4 I),hk _ _ _ _ _ y (.v rfl) (J.trans Z) (y4.trans j)⟩
       | p t=>simp at h
      ·cases h
     ·cases h
    ·cases h
   ·cases h
 ·cases h
theorem qZu(hcl:kN P cl){g:Operand}{ps:Array Tmp}{c1 c2:Code}{e:Ex}{s':S}(hW:Wd P E w0 X F H B w Y Mo)(hF:FrT n a L D B (rd w Y))(hna:noR c1=true)(hnb:noR c2=true)
  (h:qZt P cl ps.toList c1 c2 L H (evO L g)=some (e,s')) (hk:gQ P E w0 X F n D false e s' B (rd w Y) Q):(Code.rangeFunc g ps c1 c2).wpIn (FF none) 0 P Q a w:=by
 have hg:=hF.rep g;unfold qZt at h;split at h
 ·rename_i f cs eg;rw[eg]at hg;obtain⟨caps,hv,hcs⟩:=hg.fnI;cases hen:jT P f with
  | false=>simp[hen]at h
  | true=>
   simp only[hen,ze]at h;refine wpIn_rangeFunc fun fn _=>?_;have h1:=hW.st.alloc (.deferred (some []));have h2:=h1.alloc (.loop {state:= .ready,pending:=none,fn:=fn,tmps:=a.tmps,params:=ps,assign:=c1,body:=c2,defers:=w.heap.size});have hle:Le (rd w Y) (rd ((w.alloc (.deferred (some []))).alloc (.loop {state:= .ready,pending:=none,fn:=fn,tmps:=a.tmps,params:=ps,assign:=c1,body:=c2,defers:=w.heap.size})) _):=(Le.hide_new (.deferred (some []))).trans (Le.hide_new _);have hrun:=run_enterLoop_outer (P:=P) (w:=w) fn a.tmps ps c1 c2;have hN:=Wd.new (F':=w.heap.size::F) (g:=(w.alloc (.deferred (some []))).heap.size) (C:=0) (o:= .loop L ps.toList c1 c2 true none) hW
    (St.perm (by
     show List.Perm _ ((_::Mo)++((w.heap.size,Obj.deferred (some []))::xF F));exact(List.Perm.cons _ List.perm_middle.symm)) h2) hle rfl
    (.loop (hF.reps.mono (BLe.refl B) hle) rfl rfl rfl hna hnb ⟨rfl,rfl⟩)
   obtain⟨hWn,hBn⟩:=hN;have hl1:(w.alloc (.deferred (some []))).heap.size=w.heap.size+1:=by simp
   cases hc:cl f (.yl (ln H)::cs) (H++[.loop L ps.toList c1 c2 true none])with
   | none=>simp[hc,qVd]at h
   | some vh=>
    obtain⟨tv,H1⟩:=vh;simp only[hc,qVd]at h;rw[hl1]at hWn hBn;have hy:Rep (rG B H.length (w.heap.size+1,0)) (rd ((w.alloc (.deferred (some []))).alloc (.loop {state:= .ready,pending:=none,fn:=fn,tmps:=a.tmps,params:=ps,assign:=c1,body:=c2,defers:=w.heap.size})) (zAt (w.heap.size+1) (zAt w.heap.size Y))) (.yl (ln H)) (.func (.yield (w.heap.size+1)) #[] #[]):=by
     rw[qU];exact .yl (qJ _ _ _)
    have hK:=hcl _ _ _ _ _ hc E w0 X (w.heap.size::F) _ _ _ _ (.func (.yield (w.heap.size+1)) #[] #[]::caps)
     (fun e w3=>(∃v,e= .returned v)∧∃rec,w3.heap[w.heap.size+1]?=some (.loop rec)∧rec.state≠.busy∧
      (match rec.pending with
       | none=>Q .normal {a with defers:=Gv.mark w.heap.size::a.defers} (w3.putObj (w.heap.size+1) (.loop {rec with state:= .exhausted}))
       | some c=>c.wpIn (FF none) 0 P Q {a with defers:=Gv.mark w.heap.size::a.defers} (w3.putObj (w.heap.size+1) (.loop {rec with state:= .exhausted}))))
     (by rw[←hl1];rw[hl1];exact hWn) ⟨by rw[hl1]at *;exact hy,hcs.mono hBn (by rw[hl1]at hle;exact hle)⟩ ?_
    ·clear hle h2;generalize (w.alloc (.deferred (some []))).alloc (.loop {state:= .ready,pending:=none,fn:=fn,tmps:=a.tmps,params:=ps,assign:=c1,body:=c2,defers:=w.heap.size})=W1 at hK hrun;refine⟨w.heap.size+1,[Gv.mark w.heap.size],W1,{target:= .fn (.func f) caps.toArray,args:=#[.func (.yield (w.heap.size+1)) #[] #[]]},W1,f,
      #[.func (.yield (w.heap.size+1)) #[] #[]]++caps.toArray,W1,hrun,?_,fun f' _=>kY none f',?_,rR none 0,?_⟩
     ·simp only[resolve,hv];simp[go_sem]
     ·simp only[invoke];exact nC hen _ _
     ·refine pO.2 ((show Calls P f (#[.func (.yield (w.heap.size+1)) #[] #[]]++caps.toArray) W1 _ by simpa using hK).mono ?_)
      rintro e w3 ⟨⟨v,rfl⟩,rec,hl,hb,hrest⟩;exact⟨rec.pending,_,run_endLoop hl hb,hrest⟩
    ·intro v w3 B3 Y3 Mo3 k1 k2 k3 k4;refine⟨⟨v,rfl⟩,?_⟩;have hBl:B3 H.length=some (w.heap.size+1,0):=k3 _ _ (qJ _ _ _);have fin:∀(L2:List T)(ps2:List Nat)(d1 d2:Code)(q:Bool)(pd:Option Code),H1[H.length]?=some (.loop L2 ps2 d1 d2 q pd)→q=true∨pd≠none→
       ∃rec,w3.heap[w.heap.size+1]?=some (.loop rec)∧rec.state≠.busy∧rec.pending=pd∧∃Mo4,Wd P E w0 X (w.heap.size::F) (H1.set H.length .gone) B3 (w3.putObj (w.heap.size+1) (.loop {rec with state:= .exhausted})) Y3 Mo4∧Le (rd w3 Y3) (rd (w3.putObj (w.heap.size+1) (.loop {rec with state:= .exhausted})) Y3):=fun L2 ps2 d1 d2 q pd hi hq=>by
      obtain⟨rec,k,hk2,⟨_,_,_,_,_,_,hs⟩,_,hgone⟩:=Wd.lp k1 hi hBl;refine⟨rec,k1.st.get k hk2,?_,?_,_,hgone _⟩
      ·cases q<;>cases pd<;>simp only[LSt]at hs
       ·rcases hq with h | h<;>simp at h
       ·rw[hs.1];simp
       ·rw[hs.1];simp
      ·cases q<;>cases pd<;>simp only[LSt]at hs
       ·rcases hq with h | h<;>simp at h
       ·exact hs.2
       ·exact hs.2
     have hBt:BLe B B3:=hBn.trans k3;have hlet:Le (rd w Y) (rd w3 Y3):=(by rw[hl1]at hle;exact hle:Le (rd w Y) _).trans k4
     have hFm:∀{r3:Rd},Le (rd w Y) r3→FrT n {a with defers:=Gv.mark w.heap.size::a.defers} L ([w.heap.size].map Gv.mark++D) B3 r3:=fun hr=>⟨hF.size,hF.reps.mono hBt hr,by show Gv.mark w.heap.size::a.defers=_;rw[hF.defers];rfl⟩
     split at h
     ·rename_i L2 ps2 d1 d2 hl2;rw[qU]at hl2;obtain⟨rec,f1,f2,f3,Mo4,f4,f5⟩:=fin _ _ _ _ _ _ (lM hl2 (by simp)) (.inl rfl)
      refine⟨rec,f1,f2,?_⟩;generalize w3.putObj (w.heap.size+1) (.loop {rec with state:= .exhausted})=w4 at f4 f5 ⊢
      rw[f3];simp only[za,Prod.mk.injEq,yJ,qU]at h;obtain⟨rfl,rfl⟩:=h;exact hk _ _ _ _ _ [w.heap.size] (fun e=>by cases e) f4 (hFm (hlet.trans f5)) hBt (hlet.trans f5)
     ·rename_i L2 ps2 d1 d2 hl2;rw[qU]at hl2;obtain⟨rec,f1,f2,f3,Mo4,f4,f5⟩:=fin _ _ _ _ _ _ (lM hl2 (by simp)) (.inr (by simp))
      refine⟨rec,f1,f2,?_⟩;generalize w3.putObj (w.heap.size+1) (.loop {rec with state:= .exhausted})=w4 at f4 f5 ⊢
      rw[f3];simp only[za,Prod.mk.injEq,yJ,qU]at h;obtain⟨rfl,rfl⟩:=h;exact mI (hk _ _ _ _ _ [w.heap.size] (fun e=>by cases e) f4 (hFm (hlet.trans f5)) hBt (hlet.trans f5))
     ·rename_i L2 ps2 d1 d2 id hl2;rw[qU]at hl2;obtain⟨rec,f1,f2,f3,Mo4,f4,f5⟩:=fin _ _ _ _ _ _ (lM hl2 (by simp)) (.inr (by simp))
      refine⟨rec,f1,f2,?_⟩;generalize w3.putObj (w.heap.size+1) (.loop {rec with state:= .exhausted})=w4 at f4 f5 ⊢
      rw[f3];simp only[za,Prod.mk.injEq,yJ,qU]at h;obtain⟨rfl,rfl⟩:=h;exact aK (hk _ _ _ _ _ [w.heap.size] (fun e=>by cases e) f4 (hFm (hlet.trans f5)) hBt (hlet.trans f5))
     ·cases h
 ·cases h
theorem gQ.one{q:Bool}{e:Ex}{s':S}(h:gQ P E w0 X F n D q e s' B r Q){a':Act}{w':World}{B':Bm}{Y':Hid}{j:List (Nat×Obj)}(y:Wd P E w0 X F s'.H B' w' Y' j)(z:FrT n a' s'.L D B' (rd w' Y'))(A:BLe B B')(C:Le r (rd w' Y')):QOk Q B' (rd w' Y') a' w' e:=
 h a' w' B' Y' j [] (fun _=>rfl) y z A C
theorem gQ.next{q G I:Bool}{e:Ex}{s':S}(h:gQ P E w0 X F n D q e s' B r Q)(C:q=true→G=true∧I=true){w':World}{B':Bm}{Y':Hid}{bs:List Nat}(A:G=true→bs=[])(M:BLe B B')(N:Le r (rd w' Y')):gQ P E w0 X (bs++F) n (bs.map Gv.mark++D) I e s' B' (rd w' Y') Q:=
 fun a2 V B2 J j y z k1 k2 k3 U=>h a2 V B2 J j (y++bs) (fun e=>by rw[A (C e).1,z (C e).2];rfl) (by rw[List.append_assoc];exact k1) (by rw[List.map_append,List.append_assoc];exact k2) (M.trans k3) (N.trans U)
theorem qVf{I:Oo}{O:Rn→Po}(hm:P.follows .mixedOrders=true)(hS:qBi P I)(hO:∀rn,pJ P rn→qR P (O rn)):∀k,pJ P (evC P I O k):=by
 intro k;induction k using Nat.strongRecOn with
 | _ k ih=>
  cases k with
  | zero=>intro c s e s' h;simp[evC]at h
  | succ k=>
   have hk:pJ P (evC P I O k):=ih k (Nat.lt_succ_self k);have hcl:=qCf (P:=P) hm hS (hO _ hk) hk;have hpc:=zYx (P:=P) hk;have hyd:=qIw (P:=P) hk;intro c s e s' h E w0 X F n a D B w Y Mo rr Q hr hW W C;have h:sN P I (O (evC P I O k)) (evC P I O k) c s=some (e,s'):=h;cases c with
   | skip=>simp only[sN,za,Prod.mk.injEq]at h;obtain⟨rfl,rfl⟩:=h;exact wW (C.one hW W (BLe.refl B) (Le.refl _))
   | label l=>simp only[sN,za,Prod.mk.injEq]at h;obtain⟨rfl,rfl⟩:=h;exact zMi (C.one hW W (BLe.refl B) (Le.refl _))
   | exit id=>simp only[sN,za,Prod.mk.injEq]at h;obtain⟨rfl,rfl⟩:=h;exact aK (C.one hW W (BLe.refl B) (Le.refl _))
   | ret=>simp only[sN,za,Prod.mk.injEq]at h;obtain⟨rfl,rfl⟩:=h;exact mI (C.one hW W (BLe.refl B) (Le.refl _))
   | seq x y=>
    simp only[sN]at h;have hr1:rr=none∨noR x=true:=hr.imp id fun h=>by simp only[noR,zd]at h;exact h.1
    have hr2:rr=none∨noR y=true:=hr.imp id fun h=>by simp only[noR,zd]at h;exact h.2
    have hq:noR (.seq x y)=true→noR x=true∧noR y=true:=fun h=>by simpa[noR]using h
    cases G:evC P I O k x s with
    | none=>simp[G,zFi]at h
    | some es=>
     obtain⟨e1,s1⟩:=es;refine wpIn_seq (hk _ _ _ _ G E w0 X F n a D B w Y Mo rr _ hr1 hW W fun a' w' B' Y' q bs A g1 V J M=>?_);cases e1 with
     | n=>
      simp only[G,zFi]at h;exact hk _ _ _ _ h E w0 X _ n a' _ B' w' Y' q rr Q hr2 g1 V (C.next hq A J M)
     | x id=>simp only[G,zFi,za,Prod.mk.injEq]at h;obtain⟨rfl,rfl⟩:=h;exact C a' w' B' Y' q bs (fun e=>A (hq e).1) g1 V J M
     | r=>simp only[G,zFi,za,Prod.mk.injEq]at h;obtain⟨rfl,rfl⟩:=h;exact C a' w' B' Y' q bs (fun e=>A (hq e).1) g1 V J M
     | p t=>simp only[G,zFi,za,Prod.mk.injEq]at h;obtain⟨rfl,rfl⟩:=h;exact C a' w' B' Y' q bs (fun e=>A (hq e).1) g1 V J M
   | cond c x y=>
    simp only[sN]at h;have hc:=W.rep c;unfold qQe at h;split at h
    ·rename_i b eb;rw[eb]at hc;cases b with
     | true=>exact wpIn_cond_true hc.bool (hk _ _ _ _ h E w0 X F n a D B w Y Mo rr Q (hr.imp id fun h=>by simp only[noR,zd]at h;exact h.1) hW W fun a' w' B' Y' q bs A=>C a' w' B' Y' q bs fun e=>A (by simp only[noR,zd]at e;exact e.1))
     | false=>exact wpIn_cond_false hc.bool (hk _ _ _ _ h E w0 X F n a D B w Y Mo rr Q (hr.imp id fun h=>by simp only[noR,zd]at h;exact h.2) hW W fun a' w' B' Y' q bs A=>C a' w' B' Y' q bs fun e=>A (by simp only[noR,zd]at e;exact e.2))
    ·cases h
   | block id x=>
    simp only[sN]at h;cases G:evC P I O k x s with
    | none=>simp[G,zYo]at h
    | some es=>
     obtain⟨e1,s1⟩:=es;refine yZ (hk _ _ _ _ G E w0 X F n a D B w Y Mo rr _ hr hW W fun a' w' B' Y' q bs A g1 V J M=>?_);cases e1 with
     | n=>simp only[G,zYo,za,Prod.mk.injEq]at h;obtain⟨rfl,rfl⟩:=h;exact C a' w' B' Y' q bs A g1 V J M
     | r=>simp only[G,zYo,za,Prod.mk.injEq]at h;obtain⟨rfl,rfl⟩:=h;exact C a' w' B' Y' q bs A g1 V J M
     | p t=>simp only[G,zYo,za,Prod.mk.injEq]at h;obtain⟨rfl,rfl⟩:=h;exact C a' w' B' Y' q bs A g1 V J M
     | x j=>
      simp only[G,zYo,za,Prod.mk.injEq]at h;obtain⟨rfl,rfl⟩:=h;have:=C a' w' B' Y' q bs A g1 V J M;cases hj:Nat.beq j id with
      | true=>rw[hj]at this;obtain rfl:=zY hj;exact nZ this
      | false=>rw[hj]at this;exact zGh hj this
   | scope x=>
    simp only[sN]at h;rcases hr with rfl | hr
    ·exact zMj (hk _ _ _ _ h E w0 X F n a D B w Y Mo none _ (.inl rfl) hW W fun a' w' B' Y' q bs _ g1 V J M=>by
      have:=C a' w' B' Y' q bs (fun e=>by simp[noR]at e) g1 V J M
      cases e<;>exact this)
    ·simp[noR]at hr
   | loop x=>
    have hr1:rr=none∨noR x=true:=hr.imp id fun h=>by simpa[noR]using h
    refine lJ (γ:=Nat×S×List Nat) (fun g a w=>g.1≤k∧sN P I (O (evC P I O g.1)) (evC P I O g.1) (.loop x) g.2.1=some (e,s')∧∃B' Y' q,(noR x=true→g.2.2=[])∧Wd P E w0 X (g.2.2++F) g.2.1.H B' w Y' q∧FrT n a g.2.1.L (g.2.2.map Gv.mark++D) B' (rd w Y')∧BLe B B'∧Le (rd _ Y) (rd w Y'))
     (fun g=>g.1) (k,s,[]) ⟨Nat.le_refl k,h,B,Y,Mo,fun _=>rfl,hW,W,BLe.refl B,Le.refl _⟩ ?_
    rintro⟨j,s0,N⟩ a0 w1 ⟨hj,z,B1,Y1,Mo1,hb1,g1,V,J,M⟩;simp only[sN]at z hj hb1 g1 V;cases G:evC P I O j x s0 with
    | none=>simp[G,zFi]at z
    | some es=>
     obtain⟨e1,s1⟩:=es;refine ih j (by omega) _ _ _ _ G E w0 X _ n a0 _ B1 w1 Y1 Mo1 rr _ hr1 g1 V fun a' w' B' Y' q bs A k1 k2 k3 k4=>?_
     have Z:noR x=true→bs++N=[]:=fun e=>by rw[A e,hb1 e];rfl
     have k1':Wd P E w0 X (bs++N++F) s1.H B' w' Y' q:=by rw[List.append_assoc];exact k1
     have k2':FrT n a' s1.L ((bs++N).map Gv.mark++D) B' (rd w' Y'):=by rw[List.map_append,List.append_assoc];exact k2
     cases e1 with
     | n=>
      simp only[G,zFi]at z;cases j with
      | zero=>simp[evC]at z
      | succ j=>exact⟨(j,s1,bs++N),⟨by omega,z,B',Y',q,Z,k1',k2',J.trans k3,M.trans k4⟩,Nat.lt_succ_self j⟩
     | x id=>simp only[G,zFi,za,Prod.mk.injEq]at z;obtain⟨rfl,rfl⟩:=z;exact C a' w' B' Y' q (bs++N) (fun e=>Z (by simpa[noR]using e)) k1' k2' (J.trans k3) (M.trans k4)
     | r=>simp only[G,zFi,za,Prod.mk.injEq]at z;obtain⟨rfl,rfl⟩:=z;exact C a' w' B' Y' q (bs++N) (fun e=>Z (by simpa[noR]using e)) k1' k2' (J.trans k3) (M.trans k4)
     | p t=>simp only[G,zFi,za,Prod.mk.injEq]at z;obtain⟨rfl,rfl⟩:=z;exact C a' w' B' Y' q (bs++N) (fun e=>Z (by simpa[noR]using e)) k1' k2' (J.trans k3) (M.trans k4)
   | region id ops draw=>
    cases draw with
    | false=>
     simp only[sN]at h;cases U:fQ ops with
     | false=>simp[U]at h
     | true=>
      simp only[U,ze]at h;refine wpIn_region_list ?_;exact zWy hcl hyd hpc _ _ _ h U hW W (BLe.refl B) (Le.refl _) fun a' w' B' Y' q k1 k2 k3 k4=>C.one k1 k2 k3 k4
    | true=>
     simp only[sN]at h;cases U:fQ ops with
     | false=>simp[U,qOd]at h
     | true=>
      simp only[U,ze]at h;cases ho:drE P (O (evC P I O k)) (evC P I O k) (zJm P I (O (evC P I O k)) (evC P I O k)) (zIv (evC P I O k)) ops s with
      | none=>simp[ho,qOd]at h
      | some s1=>
       simp only[ho,qOd,za,Prod.mk.injEq]at h;obtain⟨rfl,rfl⟩:=h;exact qKj hm (hO _ hk) hk hcl hyd U ho hW W fun a' w' B' Y' q k1 k2 k3 k4=>C.one k1 k2 k3 k4
   | rangeFunc g ps c1 c2=>
    simp only[sN]at h;cases hn:noR c1&&noR c2 with
    | false=>simp[hn]at h
    | true=>
     simp only[hn,ze]at h;simp only[zd]at hn;rcases hr with rfl | hr
     ·exact qZu hcl hW W hn.1 hn.2 h C
     ·simp[noR]at hr
   | goto l=>simp[sN]at h
   | refuse why=>simp[sN]at h
theorem qKn{e:Oo}{O:Rn→Po}(j:P.follows .mixedOrders=true)(y:qBi P e)(q:∀rn,pJ P rn→qR P (O rn)){k f m:Nat}{az:List T}{tv:T}{nw:Bool}(h:kH P (evC P e O k) m f az=some (tv,nw)):KnP P m f az tv nw:=
 zGu (fG j (qVf j y q k)) h
end
inductive Ar where
  | r (a:Raw)
  | i (n:Int)
  | b (b:Bool)
  | s (s:ByteArray)
inductive Rs where
  | one (a:Ar)
  | tup (l:List Ar)
noncomputable def zAz:Nat→List T→Option (List Nat)
 | 0,_=>some []
 | _+1,[]=>none
 | n+1,t::l=>match t with
  | .v (.int .u32 (.ofNat x))=>bif Nat.blt x 4294967296 then(match zAz n l with | some r=>some (x::r) | none=>none)else none
  | _=>none
noncomputable def zTm:T→Option (List Nat)
 | .v (.slice none 0 0)=>some []
 | .sl cs n=>zAz n cs
 | .st cs n=>bif Nat.ble n 9223372036854775807 then zAz n cs else none
 | _=>none
noncomputable def arT:T→Option Ar
 | .v (.int .i64 n)=>some (.i n)
 | .v (.bool b)=>some (.b b)
 | .v (.string s)=>some (.s s)
 | .ag [.v (.bool b),x,y]=>(match zTm x,zTm y with
  | some l,some l2=>some (.r ⟨b,l,l2⟩)
  | _,_=>none)
 | _=>none
noncomputable def zSf:List T→Option (List Ar)
 | []=>some []
 | t::l=>match arT t,zSf l with
  | some a,some r=>some (a::r)
  | _,_=>none
noncomputable def unL(l:List Nat):T:= .sl (l.map fun(x:Nat)=>T.v (.int .u32 (.ofNat x))) l.length
noncomputable def unA:Ar→T
 | .r a=> .ag [.v (.bool a.neg),unL a.ln,unL a.ld]
 | .i n=> .v (.int .i64 n)
 | .b b=> .v (.bool b)
 | .s s=> .v (.string s)
noncomputable def unR:Rs→T
 | .one a=>unA a
 | .tup l=> .tu (l.map unA)
def ArV(X:Hid)(w:World):Ar→Value→Prop
 | .r a,v=>rT X w v a
 | .i n,v=>v= .int .i64 n
 | .b b,v=>v= .bool b
 | .s s,v=>v= .string s
def zRt(X:Hid)(w:World):List Ar→List Value→Prop
 | [],[]=>True
 | a::az,v::vs=>ArV X w a v∧zRt X w az vs
 | _,_=>False
def RsV(X:Hid)(w:World):Rs→Value→Prop
 | .one a,v=>ArV X w a v
 | .tup l,v=>∃vs:List Value,v= .tuple vs.toArray∧zRt X w l vs
def KC(P:Program)(f:Nat)(p:List Ar→Option Rs)(nw:Bool):Prop:=
 ∀(w:World)(X:Hid)(_:∀b o,X b o→b<w.heap.size)(az:List Ar)(vs:List Value)(_:zRt X w az vs)(y:Rs),p az=some y→Calls P f vs.toArray w (Ret E0 w fun w' v=>RsV (bif nw then old w else X) w' y v)
section
variable {B:Bm}{X:Hid}{w:World}
theorem zHb:∀{n:Nat}{cs:List T}{l:List Nat},zAz n cs=some l→l.length=n∧∀x∈l,x<4294967296
 | 0,_,l,h=>by simp[zAz]at h;subst h;simp
 | n+1,[],l,h=>by simp[zAz]at h
 | n+1,t::cs,l,h=>by
  simp only[zAz]at h;split at h
  ·rename_i x;cases hb:Nat.blt x 4294967296 with
   | false=>simp[hb]at h
   | true=>
    simp only[hb,ze]at h;cases hr:zAz n cs with
    | none=>simp[hr]at h
    | some r=>
     simp only[hr,za]at h;subst h;obtain⟨j,q⟩:=zHb hr;rw[Nat.blt_eq]at hb;refine⟨by simp[j],fun y e=>?_⟩
     rcases List.mem_cons.1 e with rfl | e
     ·exact hb
     ·exact q y e
  ·cases h
theorem zPt:∀{n:Nat}{cs:List T}{l:List Nat},zAz n cs=some l→∀(j x:Nat),l[j]?=some x→cs[j]?=some (.v (.int .u32 (.ofNat x)))
 | 0,_,l,h,j,x,e=>by simp[zAz]at h;subst h;simp at e
 | n+1,[],l,h,j,x,e=>by simp[zAz]at h
 | n+1,t::cs,l,h,j,x,e=>by
  simp only[zAz]at h;split at h
  ·rename_i y;cases hb:Nat.blt y 4294967296 with
   | false=>simp[hb]at h
   | true=>
    simp only[hb,ze]at h;cases hr:zAz n cs with
    | none=>simp[hr]at h
    | some r=>
     simp only[hr,za]at h;subst h;cases j with
     | zero=>simp at e;subst e;rfl
     | succ j=>exact zPt hr j x (by simpa using e)
  ·cases h
theorem qBw{r:Rd}{b o n:Nat}{cs:List T}{l:List Nat}(h:zAz n cs=some l)(z:Cls B r b o cs):At r ⟨b,o,none⟩ (U32 l):=by
 intro j v hv;simp only[U32,List.getElem?_map]at hv;cases e:l[j]? with
 | none=>rw[e]at hv;cases hv
 | some x=>
  rw[e]at hv;cases hv;obtain⟨v,q,y⟩:=z j _ (zPt h j x e);obtain⟨rfl,_⟩:=y.vI;rw[jO];exact q
theorem zMo{t:T}{l:List Nat}{v:Value}(h:zTm t=some l)(j:Rep B (rd w X) t v):∃ad n c,v= .slice ad n c∧zN (rd w X) ad n c l:=by
 unfold zTm at h;split at h
 ·cases h;obtain⟨rfl,_⟩:=j.vI;exact⟨none,0,0,rfl,zN.nil none (by omega)⟩
 ·rename_i cs n;have y:=j;obtain⟨ad,c,rfl,hn,hh⟩:=j.slI;obtain⟨e,q⟩:=zHb h;refine⟨ad,n,c,rfl,e.symm,hn,y.slB,q,?_⟩;rcases hh with⟨rfl,rfl⟩ | ⟨b,o,rfl,z⟩
  ·left;exact List.length_eq_zero_iff.1 e
  ·exact .inr ⟨b,o,rfl,qBw h z⟩
 ·rename_i cs n;cases hb:Nat.ble n 9223372036854775807 with
  | false=>simp[hb]at h
  | true=>
   simp only[hb,ze]at h;rw[Nat.ble_eq]at hb;obtain⟨ad,rfl,hh⟩:=j.stI;obtain⟨e,q⟩:=zHb h;refine⟨ad,n,n,rfl,e.symm,Nat.le_refl _,hb,q,?_⟩;rcases hh with⟨rfl,rfl⟩ | ⟨b,o,rfl,z⟩
   ·left;exact List.length_eq_zero_iff.1 e
   ·exact .inr ⟨b,o,rfl,qBw h z⟩
 ·cases h
theorem qBv{t:T}{a:Ar}{v:Value}(h:arT t=some a)(j:Rep B (rd w X) t v):ArV X w a v:=by
 unfold arT at h;split at h
 ·cases h;exact j.vI.1
 ·cases h;exact j.vI.1
 ·cases h;exact j.vI.1
 ·rename_i b x y;cases e:zTm x with
  | none=>simp[e]at h
  | some l=>
   cases q:zTm y with
   | none=>simp[e,q]at h
   | some l2=>
    simp only[e,q,za]at h;subst h;obtain⟨vs,rfl,z⟩:=j.agI;match vs,z with
    | [N,U,V],⟨g1,A,C,_⟩=>
     obtain⟨rfl,_⟩:=g1.vI;obtain⟨a1,J,G,rfl,k1⟩:=zMo e A;obtain⟨a2,M,I,rfl,k2⟩:=zMo q C;exact⟨_,_,_,_,_,_,rfl,k1,k2⟩
 ·cases h
theorem zVc:∀{ts:List T}{az:List Ar}{vs:List Value},zSf ts=some az→zO B (rd w X) ts vs→zRt X w az vs
 | [],az,[],h,_=>by simp[zSf]at h;subst h;trivial
 | t::ts,az,v::vs,h,e=>by
  simp only[zSf]at h;cases j:arT t with
  | none=>simp[j]at h
  | some a=>
   cases q:zSf ts with
   | none=>simp[j,q]at h
   | some r=>
    simp only[j,q,za]at h;subst h;exact⟨qBv j e.1,zVc q e.2⟩
 | [],_,_::_,_,e=>e.elim
 | _::_,_,[],_,e=>e.elim
theorem qIl{ad:Option Addr}{n c:Nat}{l:List Nat}(h:zN (rd w X) ad n c l):Rep B (rd w X) (unL l) (.slice ad n c):=by
 have e:=h.hlen;subst e;unfold unL;rcases h.hat with rfl | ⟨b,o,rfl,ha⟩
 ·exact .sl0 h.hbig
 ·have get:∀(j:Nat)(t:T),(l.map fun(x:Nat)=>T.v (.int .u32 (.ofNat x)))[j]?=some t→∃x,l[j]?=some x∧t= .v (.int .u32 (.ofNat x))∧l.getD j 0=x:=fun j t ht=>by
   rw[List.getElem?_map]at ht;cases q:l[j]? with
   | none=>rw[q]at ht;cases ht
   | some x=>rw[q]at ht;cases ht;exact⟨x,rfl,rfl,by simp[q]⟩
  refine .sl h.hcap (fun j=> .int .u32 (.ofNat (l.getD j 0))) (fun j t ht=>?_) (fun j t ht=>?_) h.hbig
  ·obtain⟨x,q,rfl,y⟩:=get j t ht;have:=ha j (.int .u32 (.ofNat x)) (by simp only[U32,List.getElem?_map,q];rfl)
   rw[jO]at this;rw[y];exact this
  ·obtain⟨x,q,rfl,y⟩:=get j t ht;rw[y];exact .v rfl
theorem qIk{a:Ar}{v:Value}(h:ArV X w a v):Rep B (rd w X) (unA a) v:=by
 cases a with
 | r a=>
  obtain⟨_,_,_,_,_,_,rfl,e,j⟩:=h;exact Rep.mkAg (vs:=[.bool a.neg,_,_]) ⟨.v rfl,qIl e,qIl j,trivial⟩
 | i n=>cases h;exact .v rfl
 | b b=>cases h;exact .v rfl
 | s s=>cases h;exact .v rfl
theorem zXx:∀{az:List Ar}{vs:List Value},zRt X w az vs→zO B (rd w X) (az.map unA) vs
 | [],[],_=>trivial
 | _::_,_::_,h=>⟨qIk h.1,zXx h.2⟩
 | [],_::_,h=>h.elim
 | _::_,[],h=>h.elim
theorem jAn{y:Rs}{v:Value}(h:RsV X w y v):Rep B (rd w X) (unR y) v:=by
 cases y with
 | one a=>exact qIk h
 | tup l=>
  obtain⟨vs,rfl,h⟩:=h;exact Rep.mkTu (zXx h)
end
noncomputable def kcE(p:List Ar→Option Rs)(nw:Bool)(az:List T):Option (T×Bool):=match zSf az with
 | some az=>(match p az with
  | some y=>some (unR y,nw)
  | none=>none)
 | none=>none
theorem gJ{P:Program}{f:Nat}{p:List Ar→Option Rs}{nw q:Bool}(I:KC P f p nw){az:List T}{tv:T}(h:kcE p nw az=some (tv,q))(k:Nat):KnP P k f az tv q:=by
 unfold kcE at h;cases z:zSf az with
 | none=>simp[z]at h
 | some j=>
  cases A:p j with
  | none=>simp[z,A]at h
  | some y=>
   simp only[z,A,za,Prod.mk.injEq]at h;obtain⟨rfl,rfl⟩:=h;intro B w X qO R _ _ G C J;refine(I w X G j qO (zVc z C) y A).mono ?_;rintro e w' ⟨M,v,rfl,hv⟩;exact J v w' M (jAn hv)
noncomputable def elsO(r d:Option (T×Bool)):Option (T×Bool):=match r with
 | some x=>some x
 | none=>d
noncomputable def xS:List (Nat×(List T→Option (T×Bool)))→Po
 | [],_,_=>none
 | (g,p)::l,f,az=>bif Nat.beq g f then elsO (p (az.map (unN 12))) (xS l f az)else xS l f az
theorem zIk{P:Program}{l:List (Nat×(List T→Option (T×Bool)))}{g:Nat}{p:List T→Option (T×Bool)}(hp:∀az tv nw,p az=some (tv,nw)→∀k,KnP P k g az tv nw)(e:qR P (xS l)):qR P (xS ((g,p)::l)):=by
 intro f az tv nw h k;simp only[xS]at h;cases hb:Nat.beq g f with
 | true=>
  obtain rfl:=zY hb;simp only[hb,ze]at h;unfold elsO at h;split at h
  ·rename_i r hr;cases h;exact(hp _ tv nw hr k).unN
  ·exact e _ az tv nw h k
 | false=>
  simp only[hb,zf]at h;exact e f az tv nw h k
theorem qIf{P:Program}:∀{l:List (Nat×(List T→Option (T×Bool)))},(∀g p,(g,p)∈l→∀az tv nw,p az=some (tv,nw)→∀k,KnP P k g az tv nw)→qR P (xS l)
 | [],_=>fun f az tv nw h=>by simp[xS]at h
 | (g,p)::l,e=>zIk (e g p List.mem_cons_self) (qIf fun g p j=>e g p (List.mem_cons_of_mem _ j))
noncomputable def eqT:Nat→T→T→Bool
 | 0,_,_=>false
 | k+1,a,b=>match a,b with
  | .v x,.v y=>eqV x y
  | .sl cs n,.sl ds m=>Nat.beq n m&&fH (eqT k) cs ds
  | .st cs n,.st ds m=>Nat.beq n m&&fH (eqT k) cs ds
  | .fp cs,.fp ds=>fH (eqT k) cs ds
  | .ag cs,.ag ds=>fH (eqT k) cs ds
  | .tu cs,.tu ds=>fH (eqT k) cs ds
  | .fn f cs,.fn g ds=>Nat.beq f g&&fH (eqT k) cs ds
  | _,_=>false
noncomputable def zBl(az:List T)(r:T×Bool)(bs:List T):Option (T×Bool):=bif fH (eqT 12) az bs then some r else none
theorem aH:∀(k:Nat)(a b:T),eqT k a b=true→a=b
 | 0,a,b,h=>by cases h
 | k+1,a,b,h=>by
  simp only[eqT]at h;split at h
  ·rw[qDk h]
  ·simp only[zd]at h;rw[zY h.1,kW (aH k) h.2]
  ·simp only[zd]at h;rw[zY h.1,kW (aH k) h.2]
  ·rw[kW (aH k) h]
  ·rw[kW (aH k) h]
  ·rw[kW (aH k) h]
  ·simp only[zd]at h;rw[zY h.1,kW (aH k) h.2]
  ·cases h
section
variable {P:Program}{f:Nat}{az bs:List T}{tv:T}{nw:Bool}
theorem zJu{B B2:Bm}{r:Rd}:∀{az:List T}{vs:List Value},az.all (clean 12)=true→zO B r az vs→zO B2 r az vs
 | [],[],_,_=>trivial
 | a::az,v::vs,h,e=>by
  simp only[List.all_cons,zd]at h;exact⟨wE 12 h.1 e.1,zJu h.2 e.2⟩
 | [],_::_,_,e=>e.elim
 | _::_,[],_,e=>e.elim
theorem KnP.clean(h:KnP P 0 f az tv nw)(ha:az.all (clean 12)=true)(ht:clean 12 tv=true)(k:Nat):KnP P k f az tv nw:=by
 intro B w X qO R e _ q j y;exact h ⟨fun _=>none,0⟩ w X qO R e (fun _ _=>rfl) q (zJu ha j) fun v w' z hv=>y v w' z (wE 12 ht hv)
theorem qZx(h:KnP P 0 f az tv nw)(q:(az.all (Ev.clean 12)&&Ev.clean 12 tv)=true){j:T}{e:Bool}(hr:zBl az (tv,nw) bs=some (j,e))(k:Nat):KnP P k f bs j e:=by
 unfold zBl at hr;cases hb:fH (eqT 12) az bs with
 | false=>simp[hb]at hr
 | true=>
  obtain rfl:=kW (aH 12) hb;simp only[hb,ze,za,Prod.mk.injEq]at hr;obtain⟨rfl,rfl⟩:=hr;simp only[zd]at q;exact h.clean q.1 q.2 k
theorem qYs{O:Po}(C:P.follows .mixedOrders=true)(A:qR P O)(z:List Nat){rn:Rn}(y:pJ P rn):qR P (orF P O z rn):=by
 intro f az tv nw h k;unfold orF at h;cases ho:O f az with
 | some r=>simp only[ho,za]at h;subst h;exact A f az tv nw ho k
 | none=>
  simp only[ho]at h;cases j:qWh f z&&(az.map (unN 12)).all (Ev.clean 12)with
  | false=>rw[j]at h;cases h
  | true=>
   simp only[j,ze]at h;simp only[zd]at j;cases q:kH P rn 0 f (az.map (unN 12))with
   | none=>simp[q,zSm]at h
   | some r=>
    obtain⟨t,b⟩:=r;simp only[q,zSm]at h;cases e:Ev.clean 12 t with
    | false=>simp[e]at h
    | true=>
     simp only[e,ze,za,Prod.mk.injEq]at h;obtain⟨rfl,rfl⟩:=h;exact((zGu (fG C y) q).clean j.2 e k).unN
theorem sO{j:Oo}{O:Po}(y:P.follows .mixedOrders=true)(A:qBi P j)(z:qR P O)(q:List Nat){n:Nat}(h:kH P (evC P j (orF P O q) n) 0 f az=some (tv,nw)):KnP P 0 f az tv nw:=
 qKn y A (fun _ e=>qYs y z q e) h
theorem qR.cons{l:List (Nat×(List T→Option (T×Bool)))}(j:qR P (xS l))(h:KnP P 0 f az tv nw)(e:(az.all (Ev.clean 12)&&Ev.clean 12 tv)=true):qR P (xS ((f,zBl az (tv,nw))::l)):=
 zIk (fun _ _ _ hr k=>qZx h e hr k) j
end
noncomputable def pRR(g:Raw→Raw→Option (Raw×Int)):List Ar→Option Rs
 | [.r a,.r b]=>(match g a b with | some (c,e)=>some (.tup [.r c,.i e]) | none=>none)
 | _=>none
noncomputable def pRI(g:Raw→Raw→Int×Int):List Ar→Option Rs
 | [.r a,.r b]=>some (.tup [.i (g a b).1,.i (g a b).2])
 | _=>none
noncomputable def pR(g:Raw→Int):List Ar→Option Rs
 | [.r a]=>some (.one (.i (g a)))
 | _=>none
noncomputable def pB(g:Raw→Raw→Bool):List Ar→Option Rs
 | [.r a,.r b]=>some (.one (.b (g a b)))
 | _=>none
noncomputable def rF:Int→Bool
 | .ofNat n=>Nat.ble n 9223372036854775807
 | .negSucc n=>Nat.ble n 9223372036854775807
noncomputable def nz:Int→Bool
 | .ofNat n=>!Nat.beq n 0
 | .negSucc _=>true
noncomputable def pI(g:Int→Raw):List Ar→Option Rs
 | [.i n]=>bif rF n then some (.one (.r (g n)))else none
 | _=>none
noncomputable def pII(g:Int→Int→Raw):List Ar→Option Rs
 | [.i n,.i m]=>bif(rF n&&rF m)&&nz m then some (.tup [.r (g n m),.i 0])else none
 | _=>none
theorem cB{n:Int}(h:rF n=true): -9223372036854775808≤n∧n≤9223372036854775807:=by
 cases n with
 | ofNat n=>simp only[rF,Nat.ble_eq]at h;exact⟨by rw[Int.ofNat_eq_natCast];omega,by rw[Int.ofNat_eq_natCast];omega⟩
 | negSucc n=>simp only[rF,Nat.ble_eq]at h;rw[Int.negSucc_eq];omega
theorem jCg{n:Int}(h:nz n=true):n≠0:=by
 cases n with
 | ofNat n=>simp only[nz]at h;intro e;cases n with
  | zero=>simp at h
  | succ n=>cases e
 | negSucc n=>simp
section
variable {P:Program}{f:Nat}
theorem zVz{g:Raw→Raw→Option (Raw×Int)}(h:∀(w:World)(X:Hid)(_:∀b o,X b o→b<w.heap.size)(a:Raw)(j:Value)(_:rT X w j a)(b:Raw)(q:Value)(_:rT X w q b)(y:Raw×Int),g a b=some y→
  Calls P f #[j,q] w (Ret E0 w fun w' v=>∃u,v= .tuple #[u,.int .i64 y.2]∧rT (old w) w' u y.1)):KC P f (pRR g) true:=by
 intro w X C az vs hv y hp;unfold pRR at hp;split at hp
 ·rename_i a b;match vs,hv with
  | [j,q],⟨ha,hb,_⟩=>
   cases A:g a b with
   | none=>simp[A]at hp
   | some z=>
    obtain⟨c,e⟩:=z;simp only[A,za]at hp;subst hp;refine(h w X C a j ha b q hb (c,e) A).mono ?_;rintro I w' ⟨G,v,rfl,u,rfl,hr⟩;exact⟨G,_,rfl,[u,.int .i64 e],rfl,hr,rfl,trivial⟩
 ·cases hp
theorem jBw{g:Raw→Raw→Int×Int}(h:∀(w:World)(X:Hid)(_:∀b o,X b o→b<w.heap.size)(a:Raw)(e:Value)(_:rT X w e a)(b:Raw)(j:Value)(_:rT X w j b),
  Calls P f #[e,j] w (Ret E0 w fun _ v=>v= .tuple #[.int .i64 (g a b).1,.int .i64 (g a b).2])):KC P f (pRI g) true:=by
 intro w X q az vs hv y hp;unfold pRI at hp;split at hp
 ·rename_i a b;match vs,hv with
  | [e,j],⟨ha,hb,_⟩=>
   cases hp;refine(h w X q a e ha b j hb).mono ?_;rintro A w' ⟨z,v,rfl,rfl⟩;exact⟨z,_,rfl,[.int .i64 (g a b).1,.int .i64 (g a b).2],rfl,rfl,rfl,trivial⟩
 ·cases hp
theorem kc_r{g:Raw→Int}(h:∀(w:World)(X:Hid)(_:∀b o,X b o→b<w.heap.size)(a:Raw)(e:Value)(_:rT X w e a),Calls P f #[e] w (Ret E0 w fun _ v=>v= .int .i64 (g a))):KC P f (pR g) true:=by
 intro w X j az vs hv y hp;unfold pR at hp;split at hp
 ·rename_i a;match vs,hv with
  | [e],⟨ha,_⟩=>
   cases hp;refine(h w X j a e ha).mono ?_;rintro z w' ⟨q,v,rfl,rfl⟩;exact⟨q,_,rfl,rfl⟩
 ·cases hp
theorem kc_b{g:Raw→Raw→Bool}(h:∀(w:World)(X:Hid)(_:∀b o,X b o→b<w.heap.size)(a:Raw)(e:Value)(_:rT X w e a)(b:Raw)(j:Value)(_:rT X w j b),
  Calls P f #[e,j] w (Ret E0 w fun _ v=>v= .bool (g a b))):KC P f (pB g) true:=by
 intro w X q az vs hv y hp;unfold pB at hp;split at hp
 ·rename_i a b;match vs,hv with
  | [e,j],⟨ha,hb,_⟩=>
   cases hp;refine(h w X q a e ha b j hb).mono ?_;rintro A w' ⟨z,v,rfl,rfl⟩;exact⟨z,_,rfl,rfl⟩
 ·cases hp
theorem kc_i{g:Int→Raw}(h:∀(w:World)(n:Int),-9223372036854775808≤n→n≤9223372036854775807→Calls P f #[.int .i64 n] w (Ret E0 w fun w' v=>rT (old w) w' v (g n))):KC P f (pI g) true:=by
 intro w X A az vs hv y hp;unfold pI at hp;split at hp
 ·rename_i n;match vs,hv with
  | [q],⟨e,_⟩=>
   have e:q= .int .i64 n:=e;subst e;cases hb:rF n with
   | false=>simp[hb]at hp
   | true=>
    simp only[hb,ze,za]at hp;subst hp;refine(h w n (cB hb).1 (cB hb).2).mono ?_;rintro z w' ⟨j,v,rfl,hr⟩;exact⟨j,_,rfl,hr⟩
 ·cases hp
theorem qQp{g:Int→Int→Raw}(h:∀(w:World)(n m:Int),-9223372036854775808≤n→n≤9223372036854775807→ -9223372036854775808≤m→m≤9223372036854775807→m≠0→
  Calls P f #[.int .i64 n,.int .i64 m] w (Ret E0 w fun w' v=>∃u,v= .tuple #[u,.int .i64 0]∧rT (old w) w' u (g n m))):KC P f (pII g) true:=by
 intro w X G az vs hv y hp;unfold pII at hp;split at hp
 ·rename_i n m;match vs,hv with
  | [z,A],⟨e,j,_⟩=>
   have e:z= .int .i64 n:=e;have j:A= .int .i64 m:=j;subst e;subst j;cases hb:(rF n&&rF m)&&nz m with
   | false=>simp[hb]at hp
   | true=>
    simp only[hb,ze,za]at hp;subst hp;simp only[zd]at hb;refine(h w n m (cB hb.1.1).1 (cB hb.1.1).2 (cB hb.1.2).1 (cB hb.1.2).2 (jCg hb.2)).mono ?_;rintro C w' ⟨q,v,rfl,u,rfl,hr⟩;exact⟨q,_,rfl,[u,.int .i64 0],rfl,hr,rfl,trivial⟩
 ·cases hp
end
inductive DT (α:Type) where
  | ret (a:α)
  | no
  | ite (b:Bool) (x y:DT α)
noncomputable def DT.run{α:Type}:DT α→Option α
 | .ret a=>some a
 | .no=>none
 | .ite b x y=>bif b then x.run else y.run
noncomputable def DT.bind{α β:Type}:DT α→(α→DT β)→DT β
 | .ret a,f=>f a
 | .no,_=> .no
 | .ite b x y,f=> .ite b (x.bind f) (y.bind f)
noncomputable def ofO{α:Type}:Option α→DT α
 | some a=> .ret a
 | none=> .no
noncomputable def grd{α:Type}(b:Bool)(d:DT α):DT α:= .ite b d .no
theorem run_bind{α β:Type}(f:α→DT β):∀d:DT α,(d.bind f).run=d.run.bind fun a=>(f a).run
 | .ret _=>rfl
 | .no=>rfl
 | .ite b x y=>by
  simp only[DT.bind,DT.run,run_bind f x,run_bind f y];cases b<;>rfl
theorem zM{α β:Type}{f:α→DT β}{d:DT α}{y:β}(h:(d.bind f).run=some y):∃a,d.run=some a∧(f a).run=some y:=by
 rw[run_bind]at h;exact Option.bind_eq_some_iff.1 h
theorem xR{α:Type}(x:Option α):(ofO x).run=x:=by cases x<;>rfl
theorem zS{α:Type}{b:Bool}{d:DT α}{y:α}(h:(grd b d).run=some y):b=true∧d.run=some y:=by
 cases b with
 | true=>exact⟨rfl,h⟩
 | false=>cases h
abbrev Od:=Nat→Option (List T→DT (T×Bool))
abbrev Rd':=Nat→List Bool→Code→S→DT (Ex×S)
abbrev Lo:=Nat→List Bool→S→Option (DT (Ex×S))
noncomputable def nng:Int→Bool
 | .ofNat _=>true
 | .negSucc _=>false
noncomputable def qMt:T→DT Nat
 | .v (.int _ a)=>grd (nng a) (.ret a.toNat)
 | _=> .no
noncomputable def inW:Int→Bool
 | .ofNat n=>Nat.blt n 9223372036854775808
 | .negSucc n=>Nat.blt n 9223372036854775808
noncomputable def arD(a:Int):DT Value:=grd (inW a) (.ret (.int .i64 a))
noncomputable def wq(a:Int):Int:=bif inW a then a else wr .i64 a
noncomputable def arW(a:Int):DT Value:= .ret (.int .i64 (wq a))
noncomputable def qWp:IntKind→Bool
 | .i64=>true
 | _=>false
noncomputable def arOp:BinOp→Bool
 | .add | .sub | .mul | .eql | .neq | .lss | .leq | .gtr | .geq=>true
 | _=>false
noncomputable def qTf(f:Bool)(op:BinOp)(k:IntKind)(a b:Int):DT Value:=bif qWp k then(match op with
 | .add=>bif f then arW (Int.add a b)else arD (Int.add a b)
 | .sub=>arD (Int.sub a b)
 | .mul=>arD (Int.mul a b)
 | _=>ofO (zYn op k a b))else ofO (zYn op k a b)
noncomputable def zDj(t:T):DT (T×Option TO):= .ret (t,none)
noncomputable def qTe(f:Bool)(op:BinOp)(x y:T):Option (DT (T×Option TO)):=match x,y with
 | .v (.int k a),.v (.int e b)=>bif arOp op then some (bif Nat.beq (kind k) (kind e)then(qTf f op k a b).bind (fun v=>zDj (.v v))else .no)else none
 | _,_=>none
noncomputable def qHd(c a b:T):DT (T×Option TO):=match c with
 | .v (.bool c)=> .ite c (zDj a) (zDj b)
 | _=> .no
noncomputable def qWm(P:Program)(t:TypeId)(x i:T):DT (T×Option TO):=(qMt i).bind fun n=>match P.underlying t with
 | some (.slice e)=>(match ldT P e with
  | some (_,s)=>(match x with
   | .ls g A l=>bif Nat.beq s A.size then grd (Nat.blt n l.length) (zDj (.fp (qD g A (nth A.zero l n))))else .no
   | .hv A l=>bif Nat.beq s A.size then grd (Nat.blt n l.length) (zDj (.fp (zCd A (nth A.zero l n))))else .no
   | .sl cs m=>grd (Nat.blt n m) (zDj (.fp (jJ cs (n*s))))
   | .st cs m=>grd (Nat.blt n m) (zDj (.fp (jJ cs (n*s))))
   | .os j o m _=>grd (Nat.blt n m) (zDj (.op j (o+n*s)))
   | .og j o m=>grd (Nat.blt n m) (zDj (.op j (o+n*s)))
   | _=> .no)
  | none=> .no)
 | _=>ofO (sJ P t x (.v (.int .i64 (.ofNat n))))
noncomputable def qYr(ρ:Operand→T)(d:Nat):Option Operand→DT Nat
 | some x=>qMt (ρ x)
 | none=> .ret d
noncomputable def jAb(P:Program)(t:TypeId)(g:Tg)(A:Ty)(l:List A.den)(ρ:Operand→T)(q j:Option Operand):DT (T×Option TO):=match elT P t with
 | some e=>(match ldT P e with
  | some (_,s)=>bif Nat.beq s A.size then(qYr ρ 0 q).bind fun a=>(qYr ρ l.length j).bind fun b=>grd (Nat.ble a b) (grd (Nat.ble b l.length) (zDj (.ls g A ((l.drop a).take (b-a)))))else .no
  | none=> .no)
 | none=> .no
noncomputable def qQo:Operand→Bool
 | .tmp _=>true
 | _=>false
noncomputable def zIa(P:Program)(ρ:Operand→T)(op:Op):Option (DT (T×Option TO)):=match op with
 | .binOp op _ x y _=>qTe (qQo x&&qQo y) op (dn (ρ x)) (dn (ρ y))
 | .pick c a b=>some (qHd (ρ c) (ρ a) (ρ b))
 | .indexAddr t x i=>some (qWm P t (dn (ρ x)) (dn (ρ i)))
 | .slice t x j e none=>(match dn (ρ x)with
  | .ls g A l=>some (jAb P t g A l (fun y=>dn (ρ y)) j e)
  | _=>none)
 | _=>none
noncomputable def zYk(P:Program)(e:TypeId)(s:Nat):Bool:=match zer P e with
 | some z=>Nat.beq (ln z) s&&Nat.blt 0 s
 | none=>false
noncomputable def apN(P:Program)(e:TypeId):Nat:=match P.info? e with
 | some i=>apM i.bytes
 | none=>0
noncomputable def qCn{α:Type}(c:Cs)(n s:Nat)(d:DT α):DT α:=match c with
 | .l cs=>grd (Nat.beq (ln cs) (n*s)) d
 | .d _ A x=>bif Nat.beq s A.size then grd (Nat.beq n x.length) d else .no
noncomputable def apG(H:List TO)(e:TypeId)(s:Nat)(y:T)(b:List T)(i o n m:Nat):TO→DT (T×List TO)
 | .gro cs j=>bif Nat.beq o 0&&Nat.beq e j then qCn cs n s (.ret (.og (ln H) 0 (n+m),put .gone H i++[.gro (cs.apY y b) e]))else .no
 | _=> .no
noncomputable def ap1(H:List TO)(e:TypeId)(s:Nat)(y:T)(b:List T)(m:Nat):T→DT (T×List TO)
 | .og i o n=>apG H e s y b i o n m (nth .gone H i)
 | x=>(match qG H s x,jI x with
  | some a,some n=>ofO (qJp H e s y a b n m x)
  | _,_=> .no)
noncomputable def apL(P:Program)(e:TypeId)(s:Nat)(x:T)(m:Nat)(d:DT (T×List TO)):DT (T×List TO):=match jI x with
 | some n=>bif zYk P e s then grd (Nat.ble (n+m) (apN P e)) d else .no
 | none=> .no
noncomputable def zWp(y:T)(b:List T):Bool:=match y with
 | .ls .. =>true
 | _=>vM b
noncomputable def qPw(H:List TO)(s:Nat)(x:T)(o n:Nat):TO→DT (T×List TO)
 | .gro cs _=>bif Nat.beq o 0 then qCn cs n s (.ret (x,H))else .no
 | _=> .no
noncomputable def qBt(H:List TO)(s:Nat):T→DT (T×List TO)
 | .og i o n=>qPw H s (.og i o n) o n (nth .gone H i)
 | x=>(match qG H s x,jI x with
  | some _,some _=>ofO (qJn H x)
  | _,_=> .no)
noncomputable def apD(P:Program)(H:List TO)(t:TypeId)(x y:T):DT (T×List TO):=match elT P t with
 | none=> .no
 | some e=>match ldT P e with
  | none=> .no
  | some (_,s)=>match qG H s y,jI y with
   | some b,some m=> .ite (Nat.beq m 0) (qBt H s x) (bif zWp y b then apL P e s x m (ap1 H e s y b m x)else .no)
   | _,_=> .no
noncomputable def poR(OD:Od):Po:=fun f az=>match OD f with
 | some g=>(g az).run
 | none=>none
noncomputable def zHe{α β:Type}(f:α→DT β):List α→DT (List β)
 | []=> .ret []
 | t::l=>(f t).bind fun x=>(zHe f l).bind fun r=> .ret (x::r)
noncomputable def qDu(nw:Bool)(o n:Nat):TO→Option (DT T)
 | .gro (.d g A x) _=>some (bif Nat.beq o 0&&(gK A&&(!nw||g.isN))then grd (Nat.beq n x.length) (.ret (.ls .a A x.reverse))else .no)
 | _=>none
noncomputable def bS(nw:Bool)(H:List TO):Nat→T→DT T
 | 0,_=> .no
 | k+1,t=>match t with
  | .ag cs=>(zHe (bS nw H k) cs).bind fun l=> .ret (.ag l)
  | .tu cs=>(zHe (bS nw H k) cs).bind fun l=> .ret (.tu l)
  | .fn f cs=>(zHe (bS nw H k) cs).bind fun l=> .ret (.fn f l)
  | .os i o n c=>bif Nat.ble n c&&Nat.ble c 9223372036854775807 then(match pG (nth .gone H i)with
   | some cs=>(zHe (bS nw H k) (jJ cs o)).bind fun l=> .ret (.sl l n)
   | none=> .no)else .no
  | .og i o n=>(match qDu nw o n (nth .gone H i)with
   | some d=>d
   | none=>(match pG (nth .gone H i)with
    | some cs=>(zHe (bS nw H k) (jJ cs o)).bind fun l=> .ret (.sl l n)
    | none=> .no))
  | .op i o=>(match pG (nth .gone H i)with
   | some cs=>(zHe (bS nw H k) (jJ cs o)).bind fun l=> .ret (.fp l)
   | none=> .no)
  | t=>ofO (jY nw H (k+1) t)
noncomputable def zMv(H:List TO):Nat→T→Bool
 | 0,_=>false
 | k+1,t=>match t with
  | .v _=>true
  | .ls g _ _=>g.isN
  | .sl [] 0=>true
  | .st [] 0=>true
  | .sn cs _=>cs.all (zMv H k)
  | .ag cs=>cs.all (zMv H k)
  | .tu cs=>cs.all (zMv H k)
  | .fn _ cs=>cs.all (zMv H k)
  | .os i o _ _=>(match pG (nth .gone H i)with
   | some cs=>(jJ cs o).all (zMv H k)
   | none=>false)
  | .og i o _=>(match nth .gone H i with
   | .gro (.d g _ _) _=>g.isN
   | x=>(match pG x with
    | some cs=>(jJ cs o).all (zMv H k)
    | none=>false))
  | .op i o=>(match pG (nth .gone H i)with
   | some cs=>(jJ cs o).all (zMv H k)
   | none=>false)
  | _=>false
noncomputable def qQ(r:T×List TO):DT (T×Bool):=(bS (zMv r.2 12 r.1) r.2 12 r.1).bind fun t=> .ret (t,zMv r.2 12 r.1)
noncomputable def newD(H:List TO):T×Bool→DT (T×List TO)
 | (t,true)=> .ret (mkN 12 t,H)
 | (_,false)=> .no
noncomputable def poD(g:List T→DT (T×Bool))(H:List TO)(az:List T):DT (T×List TO):=bif zZq az then(zHe (bS false H 12) az).bind fun az=>(g az).bind (newD H)
 else(g az).bind fun r=> .ret (bif r.2 then mkN 12 r.1 else r.1,H)
noncomputable def qZr(P:Program)(fn:Func):Ex×S→DT (T×List TO)
 | (.x _,_)=> .no
 | (.p _,_)=> .no
 | (_,s)=>(match dC P s.L s.H fn.results.toList with
  | some r=> .ret (zQp r,s.H)
  | none=> .no)
noncomputable def qK(P:Program)(rn:Rd')(f:Nat)(az:List T)(H:List TO):DT (T×List TO):=match P.funcs[f]? with
 | none=> .no
 | some fn=>match fn.body with
  | none=> .no
  | some c=>bif Nat.ble (ln az) fn.ntmps then(rn f [] c ⟨rest fn.ntmps az,H⟩).bind (qZr P fn)else .no
noncomputable def vV(m:Nat):Nat→T→Bool
 | 0,_=>false
 | k+1,t=>match t with
  | .sl cs _=>cs.all (vV m k)
  | .sn cs _=>cs.all (vV m k)
  | .st cs _=>cs.all (vV m k)
  | .fp cs=>cs.all (vV m k)
  | .ag cs=>cs.all (vV m k)
  | .tu cs=>cs.all (vV m k)
  | .fn _ cs=>cs.all (vV m k)
  | .fb _ cs=>cs.all (vV m k)
  | .os i _ _ _=>Nat.blt i m
  | .og i _ _=>Nat.blt i m
  | .op i _=>Nat.blt i m
  | .om i=>Nat.blt i m
  | .yl i=>Nat.blt i m
  | _=>true
noncomputable def gcO(m:Nat):TO→Bool
 | .row cs _=>cs.all (vV m 12)
 | .gro (.d _ _ _) _=>true
 | .gro (.l cs) _=>cs.all (vV m 12)
 | .gone=>true
 | _=>false
noncomputable def gcD(H:List TO)(r:T×List TO):DT (T×List TO):=bif vV (ln H) 12 r.1&&(r.2.take (ln H)).all (gcO (ln H))then .ret (r.1,r.2.take (ln H))else .ret r
noncomputable def qCe(P:Program)(OD:Od)(rn:Rd')(f:Nat)(az:List T)(H:List TO):DT (T×List TO):=match OD f with
 | some g=>poD g H az
 | none=>(qK P rn f az H).bind (gcD H)
noncomputable def qTi(P:Program)(OD:Od)(rn:Rd')(az:List T)(H:List TO):T→DT (T×List TO)
 | .fn f cs=>bif jT P f then qCe P OD rn f (az++cs) H else .no
 | .fb f bs=>bif jT P f then qCe P OD rn f (bs++az) H else .no
 | _=> .no
noncomputable def qVg(d:Option Nat)(L:List T)(r:T×List TO):DT S:= .ret ⟨dst d r.1 L,r.2⟩
noncomputable def noC:Cl:=fun _ _ _=>none
noncomputable def qQb(P:Program)(OD:Od)(rn:Rd')(o:Oper)(L:List T)(H:List TO)(c:Call):DT S:=match c.callee with
 | .value f=>(qTi P OD rn (c.args.toList.map (evO L)) H (evO L f)).bind (qVg o.dst L)
 | .builtin .append=>(match c.args.toList,c.argTypes.toList with
  | [x,y],[t,e]=>bif Nat.beq t e then(apD P H t (evO L x) (evO L y)).bind (qVg o.dst L)else .no
  | _,_=> .no)
 | _=>ofO (fU P noC noC o L H)
noncomputable def qNa(P:Program)(OD:Od)(rn:Rd')(o:Oper)(L:List T)(H:List TO):DT S:=match zIa P (evO L) o.op with
 | some d=>d.bind fun r=>ofO (zOz o.dst L H r)
 | none=>match o.op with
  | .call c=>qQb P OD rn o L H c
  | _=>ofO (fU P noC noC o L H)
inductive Gd where
  | no
  | free
  | skip
  | on (t:Nat) (c b:Bool)
noncomputable def gdT(ops:Array Oper)(L:List T)(o:Oper):Gd:=match o.guard with
 | none=> .free
 | some (j,b)=>match(match ops[j]? with | some p=>p.dst | none=>none)with
  | some t=>(match nth .u L t with
   | .v (.bool c)=> .on t c b
   | .tu []=> .skip
   | _=> .no)
  | none=> .no
noncomputable def onS{α:Type}(L:List T)(t:Nat)(c b:Bool)(y n:List T→DT α):DT α:= .ite c (bif b then y (put (.v (.bool true)) L t)else n (put (.v (.bool true)) L t)) (bif b then n (put (.v (.bool false)) L t)else y (put (.v (.bool false)) L t))
noncomputable def opD(P:Program)(OD:Od)(rn:Rd')(ops:Array Oper)(o:Oper)(s:S):DT S:=match gdT ops s.L o with
 | .no=> .no
 | .free=>qNa P OD rn o s.L s.H
 | .skip=> .ret ⟨dst o.dst (.tu []) s.L,s.H⟩
 | .on t c b=>onS s.L t c b (fun L=>qNa P OD rn o L s.H) (fun L=> .ret ⟨dst o.dst (.tu []) L,s.H⟩)
noncomputable def qGf(P:Program)(OD:Od)(rn:Rd')(ops:Array Oper):List Oper→S→DT S
 | [],s=> .ret s
 | o::l,s=>(opD P OD rn ops o s).bind (qGf P OD rn ops l)
noncomputable def frsD(P:Program)(rn:Rd')(k f:Nat)(az:List T):DT (T×Bool):=(qK P rn f (az.map (unN 12)) (gF k)).bind qQ
noncomputable def puD(P:Program)(OD:Od)(rn:Rd')(k f:Nat)(az:List T):DT (T×Bool):=match OD f with
 | some g=>g az
 | none=>frsD P rn k f az
noncomputable def newH:T×Bool→DT (T×Option TO)
 | (t,true)=>zDj (mkN 12 t)
 | (_,false)=> .no
noncomputable def qZg(P:Program)(OD:Od)(rn:Rd')(k:Nat)(H:List TO)(f:Nat)(az:List T):DT (T×Option TO):=bif zZq az then(zHe (bS false H 12) az).bind fun az=>(puD P OD rn k f az).bind newH
 else(puD P OD rn k f az).bind fun r=>zDj (bif r.2 then mkN 12 r.1 else r.1)
noncomputable def abG(j:List TO)(e:TypeId)(s:Nat)(y:T)(b:List T)(o n m:Nat):TO→DT (T×Option TO)
 | .gro cs q=>bif Nat.beq o 0&&Nat.beq e q then qCn cs n s (.ret (.og (ln j) 0 (n+m),some (.gro (cs.apY y b) e)))else .no
 | _=> .no
noncomputable def abX(P:Program)(H0 j:List TO)(e:TypeId)(s:Nat)(t:TypeId)(x y:T)(b:List T)(m:Nat):T→DT (T×Option TO)
 | .og i o n=>abG j e s y b o n m (nth .gone H0 i)
 | _=>ofO (zYl P H0 j none t x y)
noncomputable def abD(P:Program)(H0 j:List TO)(t:TypeId)(x y:T):DT (T×Option TO):=match elT P t with
 | none=> .no
 | some e=>match ldT P e with
  | none=> .no
  | some (_,s)=>match qG j s y,jI y,jI x with
   | some b,some m,some n=>bif vM b&&zYk P e s then grd (!Nat.beq m 0) (grd (Nat.ble (n+m) (apN P e)) (abX P H0 j e s t x y b m x))else .no
   | _,_,_=> .no
noncomputable def hcaD(P:Program)(OD:Od)(rn:Rd')(k:Nat)(H0 H e:List TO)(L:List T)(o:Oper)(c:Call):DT (T×Option TO):=match c.callee with
 | .value f=>(match evO L f with
  | .fn f cs=>bif jT P f then qZg P OD rn k e f (c.args.toList.map (evO L)++cs)else .no
  | _=> .no)
 | .builtin .append=>(match c.args.toList,c.argTypes.toList with
  | [x,y],[t,j]=>bif Nat.beq t j then abD P H0 e t (evO L x) (evO L y)else .no
  | _,_=> .no)
 | _=>ofO (mH P (fun _ _=>none) H0 H e L o)
noncomputable def qEg(P:Program)(OD:Od)(rn:Rd')(k:Nat)(H0 H e:List TO)(L:List T)(o:Oper):DT (T×Option TO):=match zIa P (evO L) o.op with
 | some d=>d
 | none=>match o.op with
  | .call c=>hcaD P OD rn k H0 H e L o c
  | _=>ofO (mH P (fun _ _=>none) H0 H e L o)
noncomputable def zTg(g:List TO→List T→DT (List (T×Option TO)))(o:Oper)(e:List TO)(L:List T)(z:T×Option TO):DT (List (T×Option TO)):=(g (nxH e z.2) (dst o.dst z.1 L)).bind fun rs=> .ret (z::rs)
noncomputable def zJd(P:Program)(OD:Od)(rn:Rd')(k:Nat)(H0 H:List TO)(ops:Array Oper):List Oper→List TO→List T→DT (List (T×Option TO))
 | [],_,_=> .ret []
 | o::l,e,L=>match gdT ops L o with
  | .no=> .no
  | .free=>(qEg P OD rn k H0 H e L o).bind (zTg (zJd P OD rn k H0 H ops l) o e L)
  | .skip=>zTg (zJd P OD rn k H0 H ops l) o e L (.tu [],none)
  | .on t c b=>onS L t c b (fun L=>(qEg P OD rn k H0 H e L o).bind (zTg (zJd P OD rn k H0 H ops l) o e L)) (fun L=>zTg (zJd P OD rn k H0 H ops l) o e L (.tu [],none))
noncomputable def noHd(OD:Od)(L:List T)(o:Oper):Bool:=match o.op with
 | .store .. | .mapUpdate .. =>true
 | .call c=>(match c.callee with
  | .builtin .copy=>true
  | _=>false)
 | _=>false
noncomputable def hdN(OD:Od)(ops:Array Oper)(L:List T):List Oper→List Nat→Nat→Nat
 | [],_,i=>i
 | o::l,seen,i=>bif zNn o seen||(noHd OD L o||(qQn o&&tlK ops i))then i else hdN OD ops L l (zRh o seen) (i+1)
noncomputable def mvL(L:List T)(o:Oper):List T:=match o.op with
 | .move x=>dst o.dst (evO L x) L
 | .assign x=>dst o.dst (evO L x) L
 | _=>dst o.dst .u L
noncomputable def ksS(L:List T):List Oper→List (Option Nat)
 | []=>[]
 | o::l=>pK L o.op::ksS (mvL L o) l
noncomputable def qIg(P:Program)(OD:Od)(rn:Rd')(ops:Array Oper)(ld:List Nat):List Oper→S→DT S
 | [],s=> .ret s
 | o::l,s=>(opD P OD rn ops o s).bind fun s=>bif emp ld then qIg P OD rn ops ld l s else grd (nE P ops s ld) (qIg P OD rn ops ld l s)
noncomputable def drT(P:Program)(OD:Od)(rn:Rd')(ops:Array Oper)(m:Nat)(Hm:List TO)(s:S)(rs:List (T×Option TO)):DT S:=
 bif Nat.ble m ops.size&&(qDd ops m&&zMl Hm (ksE ops.toList rs s.L))then(bif emp (aN ops m)then qIg P OD rn ops [] (ops.toList.drop m) ⟨kI ops.toList rs s.L,xV (ksE ops.toList rs s.L) s.H++qI rs⟩
  else grd (nE P ops ⟨kI ops.toList rs s.L,xV (ksE ops.toList rs s.L) s.H++qI rs⟩ (aN ops m)) (qIg P OD rn ops (aN ops m) (ops.toList.drop m) ⟨kI ops.toList rs s.L,xV (ksE ops.toList rs s.L) s.H++qI rs⟩))else .no
noncomputable def drH(P:Program)(OD:Od)(rn:Rd')(ops:Array Oper)(m:Nat)(Hm:List TO)(s:S):DT S:=
 (zJd P OD rn (ln s.H+ops.size) s.H Hm ops (ops.toList.take m) Hm s.L).bind (drT P OD rn ops m Hm s)
noncomputable def drD(P:Program)(OD:Od)(rn:Rd')(ops:Array Oper)(s:S):DT S:=
 drH P OD rn ops (hdN OD ops s.L ops.toList [] 0) (xV (ksS s.L (ops.toList.take (hdN OD ops s.L ops.toList [] 0))) s.H) s
noncomputable def seqD(rn:S→DT (Ex×S)):Ex×S→DT (Ex×S)
 | (.n,s)=>rn s
 | r=> .ret r
noncomputable def blkD(id:Nat):Ex×S→DT (Ex×S)
 | (.x j,s)=> .ret (bif Nat.beq j id then .n else .x j,s)
 | r=> .ret r
noncomputable def qKb(x y:S→DT (Ex×S))(s:S):Operand→DT (Ex×S)
 | .tmp t=>(match nth .u s.L t with
  | .v (.bool b)=> .ite b (x ⟨put (.v (.bool true)) s.L t,s.H⟩) (y ⟨put (.v (.bool false)) s.L t,s.H⟩)
  | _=> .no)
 | c=>(match evO s.L c with
  | .v (.bool b)=> .ite b (x s) (y s)
  | _=> .no)
noncomputable def qMn(r:S→DT (Ex×S)):Nat→S→DT (Ex×S)
 | 0,_=> .no
 | n+1,s=>(r s).bind (seqD (qMn r n))
noncomputable def norD(s:S):DT (Ex×S):= .ret (.n,s)
noncomputable def qAd(P:Program)(OD:Od)(LO:Lo)(rn:Rd')(f:Nat)(p:List Bool)(c:Code)(s:S):DT (Ex×S):=match c with
 | .skip=> .ret (.n,s)
 | .label _=> .ret (.n,s)
 | .seq x y=>(rn f (false::p) x s).bind (seqD (rn f (true::p) y))
 | .cond c x y=>qKb (rn f (false::p) x) (rn f (true::p) y) s c
 | .block id x=>(rn f (false::p) x s).bind (blkD id)
 | .exit id=> .ret (.x id,s)
 | .ret=> .ret (.r,s)
 | .scope x=>rn f (false::p) x s
 | .loop x=>(match LO f p s with
  | some d=>d
  | none=>qMn (rn f (false::p) x) 5000 s)
 | .region _ ops false=>bif fQ ops then(qGf P OD rn ops ops.toList s).bind norD else .no
 | .region _ ops true=>bif fQ ops then(drD P OD rn ops s).bind norD else .no
 | _=> .no
noncomputable def evD(P:Program)(OD:Od)(LO:Lo):Nat→Rd'
 | 0=>fun _ _ _ _=> .no
 | k+1=>qAd P OD LO (evD P OD LO k)
noncomputable def zCr:T→Bool
 | .v _=>true
 | .ls _ _ _=>true
 | _=>false
noncomputable def zEg:T→Option T
 | .v x=>some (.v x)
 | .ls g A l=>some (.ls g A l)
 | .hv A l=>some (.hv A l)
 | .ag cs=>bif cs.all zCr then some (.ag cs)else none
 | _=>none
section
variable {P:Program}{E:Nat→Prop}{w0:World}{X:Hid}{F:List Nat}{H H':List TO}{B B':Bm}{w:World}{Y:Hid}{Mo:List (Nat×Obj)}{r:Rd}{m:Nat}
theorem Rep.low(z:∀i,i<m→B' i=B i)(A:B'.N=B.N):∀(k:Nat){t:T}{v:Value},vV m k t=true→Rep B r t v→Rep B' r t v
 | 0,_,_,h,_=>by cases h
 | k+1,t,y,h,U=>by
  have all:∀{cs:List T},cs.all (vV m k)=true→∀(j:Nat)(t:T),cs[j]?=some t→vV m k t=true:=fun h j t e=>List.all_eq_true.1 h t (List.mem_of_getElem? e);have lt:∀{i:Nat},Nat.blt i m=true→i<m:=fun h=>by rwa[Nat.blt_eq]at h
  cases U with
  | u=>exact .u
  | v hs=>exact .v hs
  | sl hn f q g G=>simp only[vV]at h;exact .sl hn f q (fun j t e=>Rep.low z A k (all h j t e) (g j t e)) G
  | sl0 G=>exact .sl0 G
  | sn hn f q g G hb=>simp only[vV]at h;exact .sn hn f q (fun j t e=>Rep.low z A k (all h j t e) (g j t e)) G (fun j t e=>A▸hb j t e)
  | sn0 G=>exact .sn0 G
  | st f q g=>simp only[vV]at h;exact .st f q fun j t e=>Rep.low z A k (all h j t e) (g j t e)
  | st0=>exact .st0
  | fp f q g=>simp only[vV]at h;exact .fp f q fun j t e=>Rep.low z A k (all h j t e) (g j t e)
  | ag f C q g=>simp only[vV]at h;exact .ag f C q fun j t e=>Rep.low z A k (all h j t e) (g j t e)
  | tu f C q g=>simp only[vV]at h;exact .tu f C q fun j t e=>Rep.low z A k (all h j t e) (g j t e)
  | fn f C q g=>simp only[vV]at h;exact .fn f C q fun j t e=>Rep.low z A k (all h j t e) (g j t e)
  | fb f C q g=>simp only[vV]at h;exact .fb f C q fun j t e=>Rep.low z A k (all h j t e) (g j t e)
  | os q=>exact .os (by rw[z _ (lt h)];exact q)
  | og q I J M=>exact .og (by rw[z _ (lt h)];exact q) I J M
  | op q=>exact .op (by rw[z _ (lt h)];exact q)
  | om q=>exact .om (by rw[z _ (lt h)];exact q)
  | yl q=>exact .yl (by rw[z _ (lt h)];exact q)
  | ls q=>exact .ls (jG.mono (Le.refl _) (fun b k=>k.eqN A.symm) _ _ _ q)
  | hv q=>exact .hv (nV.mono (Le.refl _) (fun b k=>k.eqN A.symm) _ _ _ q)
theorem aL{t:T}(h:zCr t=true)(q:B'.N=B.N){v:Value}(e:Rep B r t v):Rep B' r t v:=by
 unfold zCr at h;split at h
 ·obtain⟨rfl,hs⟩:=e.vI;exact .v hs
 ·cases e with
  | ls j=>exact .ls (jG.mono (Le.refl _) (fun b k=>k.eqN q.symm) _ _ _ j)
 ·cases h
theorem zEj(j:B'.N=B.N):∀{ts:List T}{vs:List Value},ts.all zCr=true→zO B r ts vs→zO B' r ts vs
 | [],[],_,_=>trivial
 | t::ts,v::vs,h,e=>by
  simp only[List.all_cons,zd]at h;exact⟨aL h.1 j e.1,zEj j h.2 e.2⟩
 | [],_::_,_,e=>e.elim
 | _::_,[],_,e=>e.elim
theorem zOw{t j:T}(h:zEg t=some j):j=t:=by
 unfold zEg at h;split at h
 ·cases h;rfl
 ·cases h;rfl
 ·cases h;rfl
 ·rename_i cs;cases e:cs.all zCr with
  | false=>rw[e]at h;cases h
  | true=>rw[e]at h;cases h;rfl
 ·cases h
theorem zJv{t z:T}(h:zEg t=some z)(e:B'.N=B.N){v:Value}(j:Rep B r t v):Rep B' r z v:=by
 obtain rfl:=zOw h;unfold zEg at h;split at h
 ·exact aL rfl e j
 ·exact aL rfl e j
 ·cases j with
  | hv A=>exact .hv (nV.mono (Le.refl _) (fun b k=>k.eqN e.symm) _ _ _ A)
 ·rename_i cs;cases y:cs.all zCr with
  | false=>rw[y]at h;cases h
  | true=>
   obtain⟨vs,rfl,q⟩:=j.agI;exact Rep.mkAg (zEj e y q)
 ·cases h
theorem Wd.re(h:Wd P E w0 X F H B w Y Mo)(q:Nat→Option Nat)(hN:B'.N=B.N)(hn:∀i,H'.length≤i→B' i=none)
  (W:∀(i:Nat)(o:TO),H'[i]?=some o→vL o=true→∃j y,q i=some j∧B' i=B j∧H[j]?=some y∧vL y=true∧∀C ob,RO P B (rd w Y) C y ob→RO P B' (rd w Y) C o ob)
  (hf:∀(i:Nat)(cs:List T),H'[i]?≠some (.fz cs)) (hi:∀(i j k:Nat)(y o2:TO),H'[i]?=some y→vL y=true→H'[j]?=some o2→vL o2=true→q i=some k→q j=some k→i=j):Wd P E w0 X F H' B' w Y Mo:=
 ⟨h.st,fun i o ho hl=>by
  obtain⟨j,y,_,G,J,U,e5⟩:=W i o ho hl;obtain⟨b,C,ob,g1,g2,g3⟩:=h.ob j y J U;exact⟨b,C,ob,by rw[G];exact g1,g2,e5 C ob g3⟩,fun i cs hc=>absurd hc (hf i cs),hn,fun i j oi oj p p' h1 l1 h2 l2 hp z e=>by
  obtain⟨a,y,e1,G,J,U,_⟩:=W i oi h1 l1;obtain⟨a',Z,A,I,M,V,_⟩:=W j oj h2 l2;rw[G]at hp;rw[I]at z;have:=h.inj a a' y Z p p' J U M V hp z e;subst this;exact hi i j a oi oj h1 l1 h2 l2 e1 A,by rw[hN];exact h.bN,h.iv⟩
theorem dY{g:Tg}{A:Ty}(j:B'.N=B.N):∀{ts:List T}{vs:List Value},(∀t∈ts,∃q,zEg t=some q)→zO B r ts vs→zO B' r ts vs
 | [],[],_,_=>trivial
 | t::ts,v::vs,h,e=>by
  obtain⟨q,ht⟩:=h t List.mem_cons_self;obtain rfl:=zOw ht;exact⟨zJv ht j e.1,dY (g:=g) (A:=A) j (fun t ht=>h t (List.mem_cons_of_mem _ ht)) e.2⟩
 | [],_::_,_,e=>e.elim
 | _::_,[],_,e=>e.elim
theorem pQ(g:Tg):∀(A:Ty)(x:A.den),∀t∈qD g A x,∃e,zEg t=some e
 | .lim,_,t,h=>by simp only[qD,List.mem_singleton]at h;subst h;exact⟨_,rfl⟩
 | .int _,_,t,h=>by simp only[qD,List.mem_singleton]at h;subst h;exact⟨_,rfl⟩
 | .bool,_,t,h=>by simp only[qD,List.mem_singleton]at h;subst h;exact⟨_,rfl⟩
 | .str,_,t,h=>by simp only[qD,List.mem_singleton]at h;subst h;exact⟨_,rfl⟩
 | .list _,_,t,h=>by simp only[qD,List.mem_singleton]at h;subst h;exact⟨_,rfl⟩
 | .prod A C,x,t,h=>by
  rcases List.mem_append.1 h with h | h
  ·exact pQ g A _ t h
  ·exact pQ g C _ t h
theorem aI(g:Tg)(A:Ty):∀(l:List A.den),∀t∈qN g A l,∃e,zEg t=some e
 | [],t,h=>by cases h
 | x::l,t,h=>by
  rcases List.mem_append.1 h with h | h
  ·exact aI g A l t h
  ·exact pQ g A x t h
theorem zO.low(j:∀i,i<m→B' i=B i)(q:B'.N=B.N):∀{ts:List T}{vs:List Value},ts.all (vV m 12)=true→zO B r ts vs→zO B' r ts vs
 | [],[],_,_=>trivial
 | t::ts,v::vs,h,e=>by
  simp only[List.all_cons,zd]at h;exact⟨Rep.low j q 12 h.1 e.1,zO.low j q h.2 e.2⟩
 | [],_::_,_,e=>e.elim
 | _::_,[],_,e=>e.elim
theorem qVn(y:∀i,i<m→B' i=B i)(j:B'.N=B.N){C:Nat}{o:TO}{ob:Obj}(h:gcO m o=true)(q:RO P B r C o ob):RO P B' r C o ob:=by
 cases q with
 | row hr=>exact .row (zO.low y j h hr)
 | @gro cs e c i0 G hs z hr=>
  cases cs with
  | l cs=>exact .gro G hs z (zO.low (m:=m) y j h hr)
  | d g A x=>exact .gro G hs z (dY (g:=g) (A:=A) j (aI g A x) hr)
 | map=>cases h
 | mapd=>cases h
 | loop=>cases h
theorem Kn.gc{f:Nat}{az:List T}{tv:T}{H':List TO}(h:Kn P f az H tv H')(ht:vV H.length 12 tv=true)(ho:(H'.take H.length).all (gcO H.length)=true):Kn P f az H tv (H'.take H.length):=by
 intro E w0 X F B w Y Mo qO R I V W;refine h E w0 X F B w Y Mo qO R I V fun v w' B' Y' A k1 k2 k3 k4=>?_;let B2:Bm:=⟨fun i=>if i<H.length then B' i else none,B'.N⟩
 have z:∀i,i<H.length→B2 i=B' i:=fun i q=>if_pos q;have y:∀(i:Nat)(o:TO),(H'.take H.length)[i]?=some o→gcO H.length o=true∧i<H.length∧H'[i]?=some o:=fun i o e=>by
  refine⟨List.all_eq_true.1 ho o (List.mem_of_getElem? e),?_⟩;rw[List.getElem?_take]at e;split at e
  ·rename_i q;exact⟨q,e⟩
  ·cases e
 refine W v w' B2 Y' A (k1.re (H':=H'.take H.length) (B':=B2) (fun i=>some i) rfl (fun i q=>?_) (fun i o e Z=>?_) (fun i cs e=>?_) (fun i j k p1 p2 g1 l1 g2 l2 M U=>by cases M;cases U;rfl)) (Rep.low z rfl 12 ht k2) ⟨fun i p e=>?_,k3.n⟩ k4
 ·show(if i<H.length then B' i else none)=none
  rw[List.length_take]at q;split
  ·rename_i h1;exact k1.nn i (by omega)
  ·rfl
 ·obtain⟨g,q,J⟩:=y i o e;exact⟨i,o,rfl,z i q,J,Z,fun C ob G=>qVn z rfl g G⟩
 ·obtain⟨g,_,_⟩:=y i _ e;cases g
 ·have q:i<H.length:=by
   rcases Nat.lt_or_ge i H.length with h | h
   ·exact h
   ·rw[I.nn i h]at e;cases e
  rw[z i q];exact k3 i p e
end
def bX:Bool→Code→Option Code
 | false,.seq x _=>some x
 | true,.seq _ y=>some y
 | false,.cond _ x _=>some x
 | true,.cond _ _ y=>some y
 | false,.block _ x=>some x
 | false,.scope x=>some x
 | false,.loop x=>some x
 | _,_=>none
def cAt(P:Program)(f:Nat):List Bool→Option Code
 | []=>(P.funcs[f]?).bind fun fn=>fn.body
 | b::p=>(cAt P f p).bind (bX b)
def Tr(P:Program)(c:Code)(s:S)(e:Ex)(s':S):Prop:=
 ∀(E:Nat→Prop)(w0:World)(X:Hid)(F:List Nat)(n:Nat)(a:Act)(D:List Deferred)(B:Bm)(w:World)(Y:Hid)(Mo:List (Nat×Obj))(rr:Option Nat)(Q:Exit→Act→World→Prop),
  (rr=none∨noR c=true)→Wd P E w0 X F s.H B w Y Mo→FrT n a s.L D B (rd w Y)→gQ P E w0 X F n D (noR c) e s' B (rd w Y) Q→c.wpIn (FF rr) 0 P Q a w
def vY(P:Program)(LO:Lo):Prop:=∀f p s d,LO f p s=some d→∀x,cAt P f p=some (.loop x)→∀e s',d.run=some (e,s')→Tr P (.loop x) s e s'
def wB(P:Program)(OD:Od):Prop:=∀f g,OD f=some g→∀az tv nw,(g az).run=some (tv,nw)→∀k,KnP P k f az tv nw
def gT(P:Program)(rn:Rd'):Prop:=∀f p c s e s',cAt P f p=some c→(rn f p c s).run=some (e,s')→Tr P c s e s'
section
variable {P:Program}{OD:Od}{LO:Lo}{rn:Rd'}{H H':List TO}{L:List T}{ops:Array Oper}{o:Oper}{s s':S}
theorem wB.po(h:wB P OD):qR P (poR OD):=by
 intro f az tv nw e;unfold poR at e;cases j:OD f with
 | none=>simp[j]at e
 | some g=>rw[j]at e;exact h f g j az tv nw e
theorem qFh{t:T}{n:Nat}(h:(qMt t).run=some n):rV t=some n:=by
 unfold qMt at h;split at h
 ·rename_i a;obtain⟨e,j⟩:=zS h;cases a with
  | ofNat m=>cases j;rfl
  | negSucc m=>cases e
 ·cases h
theorem zPl{a:Int}(h:inW a=true):i64.wrap a=a:=by
 have j: -9223372036854775808≤a∧a<9223372036854775808:=by
  cases a with
  | ofNat n=>simp only[inW,Nat.blt_eq]at h;simp only[Int.ofNat_eq_natCast];omega
  | negSucc n=>simp only[inW,Nat.blt_eq]at h;omega
 have e:i64.wrap a=if a % 18446744073709551616≥9223372036854775808 then a % 18446744073709551616-18446744073709551616 else a % 18446744073709551616:=by
  unfold IntKind.wrap;simp[IntKind.bits,IntKind.signed]
 rw[e];split<;>omega
theorem zSe{a:Int}{v:Value}(h:(arD a).run=some v):v= .int .i64 (wr .i64 a):=by
 obtain⟨e,j⟩:=zS h;cases j;rw[qIs,zPl e]
theorem qSu{a:Int}{v:Value}(h:(arW a).run=some v):v= .int .i64 (wr .i64 a):=by
 cases h;unfold wq;cases e:inW a with
 | true=>rw[ze,qIs,zPl e]
 | false=>rfl
theorem qLu{k:IntKind}(h:qWp k=true):k= .i64:=by cases k<;>first | rfl | cases h
theorem qJu{f:Bool}{op:BinOp}{k:IntKind}{a b:Int}{v:Value}(h:(qTf f op k a b).run=some v):zYn op k a b=some v:=by
 unfold qTf at h;cases e:qWp k with
 | false=>rw[e,zf,xR]at h;exact h
 | true=>
  rw[e,ze]at h;obtain rfl:=qLu e;split at h
  ·cases f with
   | true=>rw[qSu h];rfl
   | false=>rw[zSe h];rfl
  ·rw[zSe h];rfl
  ·rw[zSe h];rfl
  ·rw[xR]at h;exact h
theorem tN{t:T}{z:T×Option TO}(h:(zDj t).run=some z):val t=some z:=by cases h;rfl
theorem qJs{f:Bool}{op:BinOp}{x y:T}{d:DT (T×Option TO)}{z:T×Option TO}(h:qTe f op x y=some d)(j:d.run=some z)(t:TypeId):zZs P op t x y=some z:=by
 unfold qTe at h;split at h
 ·rename_i k a C b;cases ha:arOp op with
  | false=>simp[ha]at h
  | true=>
   simp only[ha,ze,za]at h;subst h;cases e:Nat.beq (kind k) (kind C)with
   | false=>simp[e,DT.run]at j
   | true=>
    simp only[e,ze]at j;obtain⟨v,q,A⟩:=zM j;simp only[zZs,bin,e,ze,qJu q];exact tN A
 ·cases h
theorem qNu{c a b:T}{z:T×Option TO}(h:(qHd c a b).run=some z):zKx c a b=some z:=by
 unfold qHd at h;unfold zKx;split at h
 ·rename_i c;cases c with
  | true=>exact tN h
  | false=>exact tN h
 ·cases h
theorem qWn{t:TypeId}{x i:T}{z:T×Option TO}(h:(qWm P t x i).run=some z):sJ P t x i=some z:=by
 unfold qWm at h;obtain⟨n,C,j⟩:=zM h;have C:=qFh C;unfold sJ;simp only[C];split at j
 ·rename_i e I;simp only[I];cases G:ldT P e with
  | none=>simp[G,DT.run]at j
  | some gs=>
   obtain⟨g,s⟩:=gs;simp only[G]at j ⊢;split at j
   ·rename_i J A l;cases hb:Nat.beq s A.size with
    | false=>simp[hb,DT.run]at j
    | true=>
     simp only[hb,ze]at j;obtain⟨q,y⟩:=zS j;simp only[hb,q,Bool.and_self,ze];exact tN y
   ·rename_i A l;cases hb:Nat.beq s A.size with
    | false=>simp[hb,DT.run]at j
    | true=>
     simp only[hb,ze]at j;obtain⟨q,y⟩:=zS j;simp only[hb,q,Bool.and_self,ze];exact tN y
   ·obtain⟨q,y⟩:=zS j;simp only[q,ze];exact tN y
   ·obtain⟨q,y⟩:=zS j;simp only[q,ze];exact tN y
   ·obtain⟨q,y⟩:=zS j;simp only[q,ze];exact tN y
   ·obtain⟨q,y⟩:=zS j;simp only[q,ze];exact tN y
   ·cases j
 ·rw[xR]at j;unfold sJ at j;simp only[rV]at j;exact j
theorem qGi{ρ:Operand→T}{d n:Nat}{x:Option Operand}(h:(qYr ρ d x).run=some n):opt ρ d x=some n:=by
 cases x with
 | none=>cases h;rfl
 | some x=>exact qFh h
theorem jAc{t:TypeId}{g:Tg}{A:Ty}{l:List A.den}{ρ:Operand→T}{G y:Option Operand}{z:T×Option TO}(h:(jAb P t g A l ρ G y).run=some z):nN P t (.ls g A l) ρ G y none=some z:=by
 unfold jAb at h;unfold nN;cases j:elT P t with
 | none=>simp[j,DT.run]at h
 | some e=>
  simp only[j]at h ⊢;cases C:ldT P e with
  | none=>simp[C,DT.run]at h
  | some gs=>
   obtain⟨q,s⟩:=gs;simp only[C]at h ⊢;cases hb:Nat.beq s A.size with
   | false=>simp[hb,DT.run]at h
   | true=>
    simp only[hb,ze]at h;obtain⟨a,I,h⟩:=zM h;obtain⟨b,J,h⟩:=zM h;obtain⟨M,h⟩:=zS h;obtain⟨N,h⟩:=zS h;simp only[jI,qGi I,qGi J,tL,nQ,hb,M,N,Bool.and_self,ze,qAg];exact tN h
theorem zQr{ρ:Operand→T}{op:Op}{d:DT (T×Option TO)}{z:T×Option TO}(h:zIa P ρ op=some d)(j:d.run=some z)(H:List TO)(k:Nat):kX P H k ρ op=some z:=by
 unfold zIa at h;split at h
 ·exact qJs h j _
 ·cases h;exact qNu j
 ·cases h;exact qWn j
 ·rename_i t x C q;split at h
  ·rename_i g A l e;cases h;show nN P t (dn (ρ x)) (fun y=>dn (ρ y)) C q none=some z;rw[e];exact jAc j
  ·cases h
 ·cases h
theorem qHf{ρ:Operand→T}{op:Op}{d:DT (T×Option TO)}(h:zIa P ρ op=some d):∀c,op≠.call c:=by
 intro c e;subst e;cases h
theorem zLp{e:TypeId}{s N:Nat}(h:zYk P e s=true)(q:Nat.ble N (apN P e)=true):zAd P e s N=true:=by
 unfold zYk at h;unfold zAd;unfold apN at q;cases y:P.info? e with
 | none=>
  cases j:zer P e with
  | none=>simp[j]at h
  | some z=>obtain⟨i,v,A,_⟩:=lF j;rw[y]at A;cases A
 | some i=>
  cases j:zer P e with
  | none=>simp[j]at h
  | some z=>
   simp only[y,j,zd]at h q ⊢;exact⟨h.1,q,h.2⟩
theorem zLv{α:Type}{c:Cs}{n s:Nat}{d:DT α}{y:α}(h:(qCn c n s d).run=some y):Nat.beq (ln c.list) (n*s)=true∧d.run=some y:=by
 unfold qCn at h;split at h
 ·exact zS h
 ·rename_i g A x;cases hs:Nat.beq s A.size with
  | false=>simp[hs,DT.run]at h
  | true=>
   rw[hs,ze]at h;obtain⟨e,j⟩:=zS h;obtain rfl:=zY hs;have e:=zY e;refine⟨?_,j⟩;show Nat.beq (ln (qN g A x)) (n*A.size)=true;rw[qU,vU,e];exact Nat.beq_refl _
theorem zQc{i o n s:Nat}{cs:Cs}{e:TypeId}(h:nth .gone H i= .gro cs e)(ho:Nat.beq o 0=true)(hn:Nat.beq (ln cs.list) (n*s)=true):qG H s (.og i o n)=some cs.list:=by
 obtain rfl:=zY ho;have hn:=zY hn;rw[qU]at hn;simp only[qG,h,mQ];rw[pX,List.drop_zero,←hn];exact dI cs.list
theorem aQ(g:Tg):∀(A:Ty)(x:A.den),vM (qD g A x)=true
 | .lim,_=>rfl
 | .int _,_=>rfl
 | .bool,_=>rfl
 | .str,_=>rfl
 | .list _,_=>rfl
 | .prod A C,x=>by
  have app:∀(u v:List T),vM u=true→vM v=true→vM (u++v)=true:=fun u v e j=>by
   induction u with
   | nil=>exact j
   | cons a u q=>
    simp only[vM,zd]at e;simp only[List.cons_append,vM,zd];exact⟨e.1,q e.2⟩
  exact app _ _ (aQ g A _) (aQ g C _)
theorem zKu(g:Tg)(A:Ty):∀l:List A.den,vM (jW g A l)=true
 | []=>rfl
 | x::l=>by
  have app:∀(u v:List T),vM u=true→vM v=true→vM (u++v)=true:=fun u v e j=>by
   induction u with
   | nil=>exact j
   | cons a u q=>
    simp only[vM,zd]at e;simp only[List.cons_append,vM,zd];exact⟨e.1,q e.2⟩
  exact app _ _ (aQ g A x) (zKu g A l)
theorem qFt{y:T}{b:List T}{s:Nat}(hb:qG H s y=some b)(h:zWp y b=true):vM b=true:=by
 unfold zWp at h;split at h
 ·rename_i g A l;simp only[qG]at hb;cases hs:Nat.beq s A.size with
  | false=>simp[hs]at hb
  | true=>
   simp only[hs,ze,za]at hb;subst hb;exact zKu g A l
 ·exact h
theorem qJo{s:Nat}{x:T}{v:T×List TO}(h:(qBt H s x).run=some v):∃a n,qG H s x=some a∧jI x=some n∧qJn H x=some v:=by
 unfold qBt at h;split at h
 ·rename_i i o n;unfold qPw at h;split at h
  ·rename_i cs C A;cases e:Nat.beq o 0 with
   | false=>simp[e,DT.run]at h
   | true=>
    rw[e,ze]at h;obtain⟨y,z⟩:=zLv h;cases z;exact⟨_,_,zQc A e y,rfl,rfl⟩
  ·cases h
 ·split at h
  ·rename_i a n j q;rw[xR]at h;exact⟨a,n,j,q,h⟩
  ·cases h
theorem jBj{t:TypeId}{x y:T}{v:T×List TO}(h:(apD P H t x y).run=some v):zSd P H t x y=some v:=by
 unfold apD at h;cases G:elT P t with
 | none=>simp[G,DT.run]at h
 | some e=>
  simp only[G]at h;cases I:ldT P e with
  | none=>simp[I,DT.run]at h
  | some gs=>
   obtain⟨q,s⟩:=gs;simp only[I]at h;cases hb:qG H s y with
   | none=>simp[hb,DT.run]at h
   | some b=>
    cases J:jI y with
    | none=>simp[hb,J,DT.run]at h
    | some m=>
     simp only[hb,J]at h;cases z:Nat.beq m 0 with
     | true=>
      rw[z]at h;simp only[DT.run,ze]at h;obtain⟨a,n,A,C,W⟩:=qJo h;unfold zSd;simp only[G,I,hb,J,A,C,z,ze];exact W
     | false=>
      rw[z]at h;simp only[DT.run,zf]at h;cases ho:zWp y b with
      | false=>simp[ho,DT.run]at h
      | true=>
       rw[ho,ze]at h;have ho:=qFt hb ho;unfold apL at h;cases hn:jI x with
       | none=>simp[hn,DT.run]at h
       | some n=>
        simp only[hn]at h;cases ha:zYk P e s with
        | false=>simp[ha,DT.run]at h
        | true=>
         rw[ha,ze]at h;obtain⟨A,U⟩:=zS h;clear h;have h:=U;clear U;unfold zSd;simp only[G,I,hb,J,hn];unfold ap1 at h;split at h
         ·rename_i i o Z;simp only[jI,za]at hn;subst hn;unfold apG at h;split at h
          ·rename_i cs V N;cases j:Nat.beq o 0&&Nat.beq e V with
           | false=>simp[j,DT.run]at h
           | true=>
            rw[j,ze]at h;obtain⟨C,h⟩:=zLv h;simp only[zd]at j;simp only[zQc N j.1 C,z,zf,zLp ha A,ho,Bool.and_self,ze,qJp,qSs,N,j.1,j.2,C];exact h
          ·cases h
         ·cases M:qG H s x with
          | none=>simp[M,DT.run]at h
          | some a=>
           simp only[M,hn,xR]at h;simp only[z,zf,zLp ha A,ho,Bool.and_self,ze];exact h
noncomputable def clD(P:Program)(OD:Od)(rn:Rd'):Cl:=fun f az H=>(qCe P OD rn f az H).run
theorem qDh(A:gT P rn){f:Nat}{az:List T}{v:T×List TO}(h:(qK P rn f az H).run=some v):∃r:Rn,pJ P r∧nK P r f az H=some v:=by
 unfold qK at h;cases y:P.funcs[f]? with
 | none=>simp[y,DT.run]at h
 | some fn=>
  simp only[y]at h;cases hb:fn.body with
  | none=>simp[hb,DT.run]at h
  | some c=>
   simp only[hb]at h;cases z:Nat.ble (ln az) fn.ntmps with
   | false=>simp[z,DT.run]at h
   | true=>
    rw[z,ze]at h;obtain⟨⟨e,s⟩,J,j⟩:=zM h;have M:cAt P f []=some c:=by simp[cAt,y,hb]
    refine⟨fun c' C=>open Classical in if c'=c then(rn f [] c C).run else none,fun c' C G s' q=>?_,?_⟩
    ·simp only at q;split at q
     ·rename_i I;subst I;exact A f [] _ C G s' M q
     ·cases q
    ·unfold nK;simp only[y,hb,z,ze,if_true,J];cases e with
     | x id=>cases j
     | p t=>cases j
     | n=>
      simp only[qZr]at j;simp only[zRa];cases hr:dC P s.L s.H fn.results.toList with
      | none=>rw[hr]at j;cases j
      | some r=>rw[hr]at j;exact j
     | r=>
      simp only[qZr]at j;simp only[zRa];cases hr:dC P s.L s.H fn.results.toList with
      | none=>rw[hr]at j;cases j
      | some r=>rw[hr]at j;exact j
theorem bJ{f:T→DT T}{g:T→Option T}(e:∀x y,(f x).run=some y→g x=some y):∀(l:List T){r:List T},(zHe f l).run=some r→vW g l=some r
 | [],r,h=>by cases h;rfl
 | x::l,r,h=>by
  obtain⟨y,j,q⟩:=zM h;obtain⟨r',z,A⟩:=zM q;cases A;simp only[vW,e _ _ j,bJ e l z]
theorem zFn{nw:Bool}:∀(k:Nat)(t:T){C:T},(bS nw H k t).run=some C→jY nw H k t=some C
 | 0,t,C,h=>by cases h
 | k+1,t,C,h=>by
  have N:∀(t:T){C:T},(bS nw H k t).run=some C→jY nw H k t=some C:=fun t C h=>zFn k t h;have mp:∀(l:List T){r:List T},(zHe (bS nw H k) l).run=some r→vW (jY nw H k) l=some r:=fun l r h=>bJ (fun x y h=>N x h) l h;cases t with
  | ag cs=>obtain⟨l,j,q⟩:=zM h;cases q;simp only[jY,mp _ j]
  | tu cs=>obtain⟨l,j,q⟩:=zM h;cases q;simp only[jY,mp _ j]
  | fn f cs=>obtain⟨l,j,q⟩:=zM h;cases q;simp only[jY,mp _ j]
  | os i o n c=>
   simp only[bS]at h;simp only[jY];cases hb:Nat.ble n c&&Nat.ble c 9223372036854775807 with
   | false=>rw[hb]at h;cases h
   | true=>
    rw[hb,ze]at h;rw[ze];cases ho:pG (nth .gone H i)with
    | none=>simp[ho,DT.run]at h
    | some cs=>
     simp only[ho]at h;obtain⟨l,j,q⟩:=zM h;cases q;simp only[mp _ j]
  | og i o n=>
   simp only[bS]at h;simp only[jY];have M:∀x,qDu nw o n x=none→zTd nw o n x=none:=fun x J=>by
    unfold qDu at J;unfold zTd;split at J
    ·cases J
    ·rename_i I;split
     ·rename_i g A z e;exact absurd rfl (I g A z e)
     ·rfl
   cases G:qDu nw o n (nth .gone H i)with
   | some d=>
    simp only[G]at h;unfold qDu at G;split at G
    ·rename_i g A x e hn;cases G;cases hb:Nat.beq o 0&&(gK A&&(!nw||g.isN))with
     | false=>rw[hb]at h;cases h
     | true=>
      rw[hb,ze]at h;obtain⟨j,q⟩:=zS h;cases q;simp only[zTd,hn,hb,j,Bool.and_self,ze]
    ·cases G
   | none=>
    simp only[G]at h;simp only[M _ G];cases ho:pG (nth .gone H i)with
    | none=>simp[ho,DT.run]at h
    | some cs=>
     simp only[ho]at h;obtain⟨l,j,q⟩:=zM h;cases q;simp only[mp _ j]
  | op i o=>
   simp only[bS]at h;simp only[jY];cases ho:pG (nth .gone H i)with
   | none=>simp[ho,DT.run]at h
   | some cs=>
    simp only[ho]at h;obtain⟨l,j,q⟩:=zM h;cases q;simp only[mp _ j]
  | _=>simp only[bS,xR]at h;exact h
theorem qZf{g:List T→DT (T×Bool)}{f:Nat}{az:List T}{v:T×List TO}(q:OD f=some g)(h:(poD g H az).run=some v):poC (poR OD) H f az=some v.1∧v.2=H:=by
 unfold poD at h;unfold poC;cases ho:zZq az with
 | true=>
  rw[ho,ze]at h;rw[ze];obtain⟨z,A,h⟩:=zM h;rw[bJ (fun x y h=>zFn 12 x h) _ A];obtain⟨⟨t,b⟩,j,e⟩:=zM h
  ·simp only[poR,q,j];cases b with
   | true=>cases e;exact⟨rfl,rfl⟩
   | false=>cases e
 | false=>
  rw[ho,zf]at h;rw[zf];obtain⟨⟨t,b⟩,j,e⟩:=zM h;simp only[poR,q,j];cases e;exact⟨rfl,rfl⟩
theorem qCp(V:P.follows .mixedOrders=true)(U:wB P OD)(G:gT P rn):kN P (clD P OD rn):=by
 intro f az H tv H' h;unfold clD qCe at h;cases C:OD f with
 | some g=>
  simp only[C]at h;obtain⟨y,z⟩:=qZf C h;simp only at y z;subst z;intro E w0 X F B w Y Mo qO R j N A;exact qHg (k:=H'.length) (fun f az tv nw h=>U.po f az tv nw h _) y j.ow j.ivw j.bNle j.st.lt j.nn N fun v w' I hv=>A v w' B Y Mo (j.call I) hv (BLe.refl B) (I.le Y)
 | none=>
  simp only[C]at h;obtain⟨⟨t,J⟩,M,e⟩:=zM h;obtain⟨r,y,z⟩:=qDh G M;have A:=zCh y _ _ _ _ _ z;unfold gcD at e;simp only[qU]at e;cases q:vV H.length 12 t&&(J.take H.length).all (gcO H.length)with
  | false=>rw[q]at e;cases e;exact A
  | true=>
   rw[q]at e;cases e;simp only[zd]at q;exact A.gc q.1 q.2
theorem qFm:xK P noC:=fun _ _ _ _ _ h=>by cases h
theorem qYl{cl cl' yd yd':Cl}{d:Option Nat}{op:Op}(h:∀c f,op= .call c→c.callee≠.value f):opC P cl yd d L H op=opC P cl' yd' d L H op:=by
 cases op with
 | call c=>
  simp only[opC];split
  ·rename_i f e;exact absurd e (h c f rfl)
  ·rfl
 | _=>rfl
theorem zWr{cl cl' yd yd':Cl}(h:∀c f,o.op= .call c→c.callee≠.value f):fU P cl yd o L H=fU P cl' yd' o L H:=by
 unfold fU zQe;rw[qYl h]
theorem qTj{az:List T}{t:T}{d:Option Nat}{cl:Cl}(q:∀f az H,cl f az H=(qCe P OD rn f az H).run)(h:((qTi P OD rn az H t).bind (qVg d L)).run=some s')(yd:Cl):zEd P cl yd d L H az t=some s':=by
 obtain⟨⟨v,H'⟩,e,y⟩:=zM h;unfold qTi at e;unfold zEd;split at e
 ·rename_i f cs;cases j:jT P f with
  | false=>simp[j,DT.run]at e
  | true=>
   rw[j,ze]at e;simp only[j,ze,q,e,zCk];exact y
 ·rename_i f bs;cases j:jT P f with
  | false=>simp[j,DT.run]at e
  | true=>
   rw[j,ze]at e;simp only[j,ze,q,e,zCk];exact y
 ·cases e
theorem zWq(h:(qNa P OD rn o L H).run=some s'):fU P (clD P OD rn) noC o L H=some s':=by
 unfold qNa at h;cases hp:zIa P (evO L) o.op with
 | some d=>
  simp only[hp]at h;obtain⟨z,J,I⟩:=zM h;rw[xR]at I;unfold fU;rw[zQr hp J];exact I
 | none=>
  simp only[hp]at h;have W:(∀c,o.op≠.call c)→(ofO (fU P noC noC o L H)).run=some s'→fU P (clD P OD rn) noC o L H=some s':=fun hn h=>by
   rw[xR]at h;rw[zWr (cl':=noC) (yd':=noC) fun c f e=>absurd e (hn c)];exact h
  split at h
  ·rename_i c A;unfold qQb at h;split at h
   ·rename_i f C;unfold fU;have q:kX P H (ln H) (evO L) o.op=none:=by
     rw[A];simp only[kX,zEk];rw[C]
    rw[q];simp only[zQe];have j:zCg P H (evO L) o.op=none:=by
     rw[A];simp only[zCg];rw[C]
    rw[j];have:opC P (clD P OD rn) noC o.dst L H o.op=some s':=by
     rw[A];simp only[opC];rw[C];exact qTj (OD:=OD) (rn:=rn) (fun _ _ _=>rfl) h noC
    simp only[this]
   ·rename_i C;split at h
    ·rename_i x y t Z U V;cases hb:Nat.beq t Z with
     | false=>simp[hb,DT.run]at h
     | true=>
      rw[hb,ze]at h;obtain⟨⟨v,H'⟩,J,I⟩:=zM h;have j:zCg P H (evO L) o.op=some (some v,H'):=by
       rw[A];simp only[zCg];rw[C,U,V];simp only[hb,ze,jBj J]
      have q:kX P H (ln H) (evO L) o.op=none:=by
       rw[A];simp only[kX,zEk];rw[C]
      unfold fU;rw[q];simp only[zQe,j,zPa];exact I
    ·cases h
   ·rename_i G N;rw[xR]at h;rw[zWr (cl':=noC) (yd':=noC) fun c' f e=>by rw[A]at e;cases e;exact G f]
    exact h
  ·rename_i M;exact W M h
theorem zIc:∀(L:List T)(t:Nat){x:T},nth .u L t=x→x≠.u→put x L t=L
 | [],_,_,h,e=>absurd h.symm e
 | y::L,0,x,h,_=>by rw[zQb]at h;rw[zQs,h]
 | y::L,t+1,x,h,e=>by rw[mP]at h;rw[zId,zIc L t h e]
theorem qQi(L:List T)(o:Oper):(gdT ops L o= .free→kK ops L o=some true)∧(gdT ops L o= .skip→kK ops L o=some false)∧∀t c b,gdT ops L o= .on t c b→kK ops L o=some (zYm c b)∧nth .u L t= .v (.bool c):=by
 unfold gdT kK;cases M:o.guard with
 | none=>simp
 | some G=>
  obtain⟨j,J⟩:=G;cases e:ops[j]? with
  | none=>simp[e]
  | some p=>
   cases hd:p.dst with
   | none=>simp[e,hd]
   | some t=>
    cases q:nth .u L t with
    | v z=>cases z<;>simp[e,hd,q]<;>(first | (intro N c' I y A C;subst y;subst A;subst C;exact⟨rfl,q⟩) | skip)
    | tu l=>cases l<;>simp[e,hd,q]
    | _=>simp[e,hd,q]
theorem qTo{X Y:S→DT (Ex×S)}{s:S}{c:Operand}{z:Ex×S}(h:(qKb X Y s c).run=some z):∃b,evO s.L c= .v (.bool b)∧((bif b then X else Y) s).run=some z:=by
 cases c with
 | tmp t=>
  simp only[qKb]at h;split at h
  ·rename_i b e;have hp:put (.v (.bool b)) s.L t=s.L:=zIc s.L t e (by simp)
   refine⟨b,e,?_⟩;cases b<;>simp only[DT.run,ze,zf,hp]at h ⊢<;>exact h
  ·cases h
 | _=>
  simp only[qKb]at h;split at h
  ·rename_i b e;refine⟨b,e,?_⟩;cases b<;>exact h
  ·cases h
theorem qFs{α:Type}{L:List T}{t:Nat}{c b:Bool}{y n:List T→DT α}{z:α}(hn:nth .u L t= .v (.bool c))(h:(onS L t c b y n).run=some z):(zYm c b=true∧(y L).run=some z)∨(zYm c b=false∧(n L).run=some z):=by
 have hp:put (.v (.bool c)) L t=L:=zIc L t hn (by simp)
 unfold onS at h;simp only[DT.run]at h;cases c<;>cases b<;>simp only[ze,zf,hp]at h<;>first | exact .inl ⟨rfl,h⟩ | exact .inr ⟨rfl,h⟩
theorem qFu(h:(opD P OD rn ops o s).run=some s'):opE P (clD P OD rn) noC ops o s=some s':=by
 unfold opD at h;unfold opE;obtain⟨g1,q,y⟩:=qQi (ops:=ops) s.L o;cases j:gdT ops s.L o with
 | no=>rw[j]at h;cases h
 | free=>rw[j]at h;rw[g1 j];exact zWq h
 | skip=>rw[j]at h;rw[q j];exact h
 | on t c b=>
  rw[j]at h;obtain⟨k1,k2⟩:=y t c b j;rw[k1];rcases qFs k2 h with⟨e,h⟩ | ⟨e,h⟩
  ·rw[e];exact zWq h
  ·rw[e];exact h
theorem zQi:∀(l:List Oper)(s:S),(qGf P OD rn ops l s).run=some s'→zQj P (clD P OD rn) noC ops l s=some s'
 | [],s,h=>h
 | o::l,s,h=>by
  obtain⟨q,e,j⟩:=zM h;simp only[zQj,qFu e];exact zQi l q j
noncomputable def poH(P:Program)(OD:Od)(rn:Rd')(k:Nat):Po:=fun f az=>(puD P OD rn k f az).run
theorem qDs(G:P.follows .mixedOrders=true)(e:gT P rn){k f:Nat}{az:List T}{t tv:T}{j:List TO}{nw:Bool}(q:(qK P rn f (az.map (unN 12)) (gF k)).run=some (t,j))(y:(qQ (t,j)).run=some (tv,nw)):KnP P k f az tv nw:=by
 obtain⟨r,hr,C⟩:=qDh e q;obtain⟨I,z,A⟩:=zM y;cases A;exact zCo (rn:=r) (fG G hr) (by unfold fF;rw[C]) (zFn 12 _ z)
theorem qZe(A:P.follows .mixedOrders=true)(z:wB P OD)(j:gT P rn){k f:Nat}{az:List T}{tv:T}{nw:Bool}(h:poH P OD rn k f az=some (tv,nw)):KnP P k f az tv nw:=by
 unfold poH puD at h;cases e:OD f with
 | some g=>simp only[e]at h;exact z f g e az tv nw h k
 | none=>
  simp only[e]at h;obtain⟨⟨t,C⟩,q,y⟩:=zM h;exact qDs A j q y
theorem qZh{k f:Nat}{az:List T}{z:T×Option TO}(h:(qZg P OD rn k H f az).run=some z):∃t,poC (poH P OD rn k) H f az=some t∧z=(t,none):=by
 unfold qZg at h;unfold poC;cases ho:zZq az with
 | true=>
  rw[ho,ze]at h;rw[ze];obtain⟨q,A,h⟩:=zM h;rw[bJ (fun x y h=>zFn 12 x h) _ A];obtain⟨⟨t,b⟩,j,e⟩:=zM h
  ·simp only[poH,j];cases b with
   | true=>cases e;exact⟨_,rfl,rfl⟩
   | false=>cases e
 | false=>
  rw[ho,zf]at h;rw[zf];obtain⟨⟨t,b⟩,j,e⟩:=zM h;simp only[poH,j];cases e;exact⟨_,rfl,rfl⟩
theorem jBh{H0 G:List TO}{t:TypeId}{x y:T}{z:T×Option TO}(h:(abD P H0 G t x y).run=some z):(∀i o n,x= .og i o n→zYl P H0 G (some i) t x y=some z)∧((∀i o n,x≠.og i o n)→zYl P H0 G none t x y=some z):=by
 unfold abD at h;cases N:elT P t with
 | none=>simp[N,DT.run]at h
 | some e=>
  simp only[N]at h;cases V:ldT P e with
  | none=>simp[V,DT.run]at h
  | some gs=>
   obtain⟨q,s⟩:=gs;simp only[V]at h;cases hb:qG G s y with
   | none=>simp[hb,DT.run]at h
   | some b=>
    cases J:jI y with
    | none=>simp[hb,J,DT.run]at h
    | some m=>
     cases hn:jI x with
     | none=>simp[hb,J,hn,DT.run]at h
     | some n=>
      simp only[hb,J,hn]at h;cases I:vM b&&zYk P e s with
      | false=>simp[I,DT.run]at h
      | true=>
       rw[I,ze]at h;obtain⟨W,A⟩:=zS h;obtain⟨h1,hk⟩:=zS A;clear h A;have h:=hk;clear hk;simp only[zd]at I;obtain⟨ho,ha⟩:=I;have Z:Nat.beq m 0=false:=by simpa using W
       unfold abX at h;split at h
       ·rename_i i o n';simp only[jI,za]at hn;subst hn;refine⟨fun i' o' n'' M=>?_,fun j=>absurd rfl (j i o n')⟩;cases M;unfold abG at h;split at h
        ·rename_i cs e' hg;cases C:Nat.beq o 0&&Nat.beq e e' with
         | false=>simp[C,DT.run]at h
         | true=>
          rw[C,ze]at h;obtain⟨h2,h⟩:=zLv h;simp only[zd]at C;have U:Nat.beq i i=true:=Nat.beq_refl i;unfold zYl;simp only[N,V,hb,J,qBx,U,C.1,C.2,hg,h2,Bool.and_self,ze,Z,Bool.not_false,zLp ha h1,ho];exact h
        ·cases h
       ·rename_i j;refine⟨fun i o n' M=>absurd M (j i o n'),fun _=>?_⟩;rw[xR]at h;exact h
theorem zPi{H0 j:List TO}{po po':Po}(h:∀c f,o.op= .call c→c.callee≠.value f):mH P po H0 H j L o=mH P po' H0 H j L o:=by
 have e:gG P po j L o.op=gG P po' j L o.op:=by
  cases ho:o.op with
  | call c=>
   simp only[gG];split
   ·rename_i f e;exact absurd e (h c f ho)
   ·rfl
  | _=>rfl
 unfold mH;rw[e]
theorem qLn{k:Nat}{H0 C:List TO}{z:T×Option TO}(h:(qEg P OD rn k H0 H C L o).run=some z):mH P (poH P OD rn k) H0 H C L o=some z:=by
 unfold qEg at h;cases hp:zIa P (evO L) o.op with
 | some d=>
  simp only[hp]at h;have ha:pK L o.op=none:=by
   cases ho:o.op with
   | call c=>exact absurd ho (qHf hp c)
   | _=>rfl
  unfold mH;rw[ha,zQr hp h]
 | none=>
  simp only[hp]at h;split at h
  ·rename_i c j;unfold hcaD at h;split at h
   ·rename_i f A;split at h
    ·rename_i g cs eg;cases Z:jT P g with
     | false=>simp[Z,DT.run]at h
     | true=>
      rw[Z,ze]at h;obtain⟨t,U,rfl⟩:=qZh h;have ha:pK L o.op=none:=by rw[j];simp only[pK];rw[A]
      have G:kX P H (ln C) (evO L) o.op=none:=by rw[j];simp only[kX,zEk];rw[A]
      have W:gG P (poH P OD rn k) C L o.op=some t:=by
       rw[j];simp only[gG];rw[A];simp only[eg,Z,ze,U]
      unfold mH;simp only[ha,G,W]
    ·cases h
   ·rename_i A;split at h
    ·rename_i x y t t' N e2;cases hb:Nat.beq t t' with
     | false=>simp[hb,DT.run]at h
     | true=>
      rw[hb,ze]at h;obtain⟨U,h2⟩:=jBh h;unfold mH;by_cases J:∃i o n,evO L x= .og i o n
      ·obtain⟨i,q,n,J⟩:=J;have ha:pK L o.op=some i:=by rw[j];simp only[pK];rw[A,N];simp only[J]
       simp only[ha];rw[j];simp only[zJa];rw[A,N,e2];simp only[hb,ze];exact U i q n J
      ·have M:∀i o n,evO L x≠.og i o n:=fun i q n e=>J ⟨i,q,n,e⟩;have ha:pK L o.op=none:=by
        rw[j];simp only[pK];rw[A,N];first | (simp only;done) | (split<;>first | rfl | (rename_i e;exact absurd e (M _ _ _)))
       have G:kX P H (ln C) (evO L) o.op=none:=by rw[j];simp only[kX,zEk];rw[A]
       have W:gG P (poH P OD rn k) C L o.op=none:=by rw[j];simp only[gG];rw[A]
       have V:zJa P H0 C none L o.op=some z:=by
        rw[j];simp only[zJa];rw[A,N,e2];simp only[hb,ze];exact h2 M
       simp only[ha,G,W,V]
    ·cases h
   ·rename_i I hne2;rw[xR]at h;rw[zPi (po':=fun _ _=>none) fun c' f e=>by rw[j]at e;cases e;exact I f]
    exact h
  ·rename_i hne;rw[xR]at h;rw[zPi (po':=fun _ _=>none) fun c f e=>absurd e (hne c)];exact h
theorem qEh{k:Nat}{H0:List TO}:∀(l:List Oper)(j:List TO)(L:List T){rs:List (T×Option TO)},(zJd P OD rn k H0 H ops l j L).run=some rs→rs.length=l.length∧∀(i:Nat)(z:T×Option TO),rs[i]?=some z→∃o,l[i]?=some o∧xE P (poH P OD rn k) H0 H (j++qI (rs.take i)) (kI l (rs.take i) L) ops o=some z
 | [],j,L,rs,h=>by cases h;exact⟨rfl,fun i z e=>by simp at e⟩
 | o::l,j,L,rs,h=>by
  have fin:∀{z:T×Option TO},xE P (poH P OD rn k) H0 H j L ops o=some z→(zTg (zJd P OD rn k H0 H ops l) o j L z).run=some rs→rs.length=(o::l).length∧∀(i:Nat)(z:T×Option TO),rs[i]?=some z→∃o',(o::l)[i]?=some o'∧xE P (poH P OD rn k) H0 H (j++qI (rs.take i)) (kI (o::l) (rs.take i) L) ops o'=some z:=fun{z}I G=>by
   obtain⟨A,h3,h4⟩:=zM G;cases h4;obtain⟨g1,C⟩:=qEh l _ _ h3;refine⟨by simp[g1],fun i y M=>?_⟩
   cases i with
   | zero=>
    simp only[List.getElem?_cons_zero,za]at M;subst M;refine⟨o,rfl,?_⟩;simp only[List.take_zero,qI,kI,List.append_nil];exact I
   | succ i=>
    obtain⟨o',N,U⟩:=C i y (by simpa using M)
    refine⟨o',by simpa using N,?_⟩
    have V:j++qI ((z::A).take (i+1))=nxH j z.2++qI (A.take i):=by
     obtain⟨t,ob⟩:=z;cases ob<;>simp[qI,nxH]
    rw[V];exact U
  have yes:kK ops L o=some true→((qEg P OD rn k H0 H j L o).bind (zTg (zJd P OD rn k H0 H ops l) o j L)).run=some rs→rs.length=(o::l).length∧∀(i:Nat)(z:T×Option TO),rs[i]?=some z→∃o',(o::l)[i]?=some o'∧xE P (poH P OD rn k) H0 H (j++qI (rs.take i)) (kI (o::l) (rs.take i) L) ops o'=some z:=fun J h=>by
   obtain⟨z,Z,G⟩:=zM h;exact fin (by unfold xE;simp only[J];exact qLn Z) G
  have no:kK ops L o=some false→(zTg (zJd P OD rn k H0 H ops l) o j L (.tu [],none)).run=some rs→rs.length=(o::l).length∧∀(i:Nat)(z:T×Option TO),rs[i]?=some z→∃o',(o::l)[i]?=some o'∧xE P (poH P OD rn k) H0 H (j++qI (rs.take i)) (kI (o::l) (rs.take i) L) ops o'=some z:=fun J h=>
   fin (by unfold xE;simp only[J]) h
  simp only[zJd]at h;obtain⟨g1,C,W⟩:=qQi (ops:=ops) L o;cases q:gdT ops L o with
  | no=>rw[q]at h;cases h
  | free=>rw[q]at h;exact yes (g1 q) h
  | skip=>rw[q]at h;exact no (C q) h
  | on t c b=>
   rw[q]at h;obtain⟨k1,k2⟩:=W t c b q;rcases qFs k2 h with⟨e,h⟩ | ⟨e,h⟩
   ·exact yes (by rw[k1,e]) h
   ·exact no (by rw[k1,e]) h
theorem zPq:∀(l:List Oper)(rs:List (T×Option TO))(L:List T)(m:Nat),rs.length≤m→kI (l.take m) rs L=kI l rs L
 | [],_,_,m,_=>by simp
 | o::l,[],L,m,_=>by cases m<;>simp[kI]
 | o::l,z::rs,L,0,h=>by simp at h
 | o::l,z::rs,L,m+1,h=>by
  simp only[List.take_succ_cons,kI];exact zPq l rs _ m (by simpa using h)
theorem empN{α:Type}{l:List α}(h:emp l=true):l=[]:=by cases l<;>first | rfl | cases h
theorem zNt{ld:List Nat}:∀(l:List Oper)(s:S),(qIg P OD rn ops ld l s).run=some s'→dG P (clD P OD rn) noC ops ld l s=some s'
 | [],s,h=>h
 | o::l,s,h=>by
  obtain⟨q,y,e⟩:=zM h;simp only[dG,qFu y];cases j:emp ld with
  | true=>
   obtain rfl:=empN j;rw[j,ze]at e;show(bif nE P ops q []then _ else _)=_;simp only[nE,ze];exact zNt l q e
  | false=>
   rw[j,zf]at e;obtain⟨z,A⟩:=zS e;simp only[z,ze];exact zNt l q A
theorem qTy{m:Nat}{Hm:List TO}{rs:List (T×Option TO)}(z:ln rs=m)(h:(drT P OD rn ops m Hm s rs).run=some s'):drF P (clD P OD rn) noC ops s Hm rs=some s':=by
 subst z;unfold drT at h;unfold drF jAl;cases e:Nat.ble (ln rs) ops.size with
 | false=>simp[e,DT.run]at h
 | true=>
 rw[e,Bool.true_and]at h;cases hd:qDd ops (ln rs)&&zMl Hm (ksE ops.toList rs s.L)with
 | false=>simp[hd,DT.run]at h
 | true=>
  rw[hd,ze]at h;rw[ze];cases j:emp (aN ops (ln rs))with
  | true=>
   rw[j,ze]at h;rw[empN j];simp only[nE,ze];exact zNt _ _ h
  | false=>
   rw[j,zf]at h;obtain⟨q,y⟩:=zS h;simp only[q,ze];exact zNt _ _ y
theorem qEs{ks:List (Option Nat)}(q:Nat)(x:TO)(e:(xV ks H)[q]?=some x)(z:x≠.gone):H[q]?=some x:=by
 rw[mJ]at e;split at e
 ·cases j:H[q]? with
  | none=>rw[j]at e;cases e
  | some y=>rw[j]at e;cases e;exact absurd rfl z
 ·exact e
end
section
variable {P:Program}{E:Nat→Prop}{w0:World}{X:Hid}{F:List Nat}{B:Bm}{w:World}{Y:Hid}{Mo:List (Nat×Obj)}{n:Nat}{a:Act}{D:List Deferred}{Q:Exit→Act→World→Prop}{OD:Od}{LO:Lo}{rn:Rd'}{rr:Option Nat}{ops:Array Oper}{s s':S}
theorem qTx{id:Nat}(G:P.follows .mixedOrders=true)(J:wB P OD)(j:gT P rn)(I:fQ ops=true)(h:(drD P OD rn ops s).run=some s')(W:Wd P E w0 X F s.H B w Y Mo)(V:FrT n a s.L D B (rd w Y))(hk:nU P E w0 X F n D s'.H s'.L B (rd w Y) (Q .normal)):(Code.region id ops true).wpIn (FF rr) 0 P Q a w:=by
 unfold drD drH at h;generalize hdN OD ops s.L ops.toList [] 0=m at h;obtain⟨rs,U,A⟩:=zM h;obtain⟨g1,N⟩:=qEh _ _ _ U;have hle:rs.length≤m:=by rw[g1];exact List.length_take_le _ _
 have C:rs.length≤ops.toList.length:=by rw[g1];exact List.length_take_le' _ _
 by_cases e:Nat.ble m ops.size=true
 ·have e:m≤ops.toList.length:=by simpa using Nat.le_of_ble_eq_true e
  have hlen:ln rs=m:=by rw[qU,g1,List.length_take];exact Nat.min_eq_left e
  refine zJw (po:=poH P OD rn (ln s.H+ops.size)) G (fun f az tv nw hp=>qZe G J j hp) (qCp G J j) qFm I W V hk _ rs (zKi _ _) (fun q x=>qEs q x) (fun i z hz=>?_) C (qTy hlen A);obtain⟨o,y,M⟩:=N i z hz;refine⟨o,?_,?_⟩
  ·rw[List.getElem?_take]at y;split at y
   ·exact y
   ·cases y
  ·rwa[zPq _ _ _ _ (by rw[List.length_take];omega)]at M
 ·exfalso;unfold drT at A;have Z:Nat.ble m ops.size=false:=Bool.eq_false_iff.2 e;rw[Z]at A;cases A
theorem kQ(hm:P.follows .mixedOrders=true)(hO:wB P OD)(hL:vY P LO):∀k,gT P (evD P OD LO k):=by
 intro k;induction k using Nat.strongRecOn with
 | _ k ih=>
  cases k with
  | zero=>intro f p c s e s' _ h;cases h
  | succ k=>
   have hk:gT P (evD P OD LO k):=ih k (Nat.lt_succ_self k);intro f p c s e s' hc h E w0 X F n a D B w Y Mo rr Q hr hW W A;have h:(qAd P OD LO (evD P OD LO k) f p c s).run=some (e,s'):=h;cases c with
   | skip=>cases h;exact wW (A.one hW W (BLe.refl B) (Le.refl _))
   | label l=>cases h;exact zMi (A.one hW W (BLe.refl B) (Le.refl _))
   | exit id=>cases h;exact aK (A.one hW W (BLe.refl B) (Le.refl _))
   | ret=>cases h;exact mI (A.one hW W (BLe.refl B) (Le.refl _))
   | seq x y=>
    have hr1:rr=none∨noR x=true:=hr.imp id fun h=>by simp only[noR,zd]at h;exact h.1
    have hr2:rr=none∨noR y=true:=hr.imp id fun h=>by simp only[noR,zd]at h;exact h.2
    have hq:noR (.seq x y)=true→noR x=true∧noR y=true:=fun h=>by simpa[noR]using h
    have c1:cAt P f (false::p)=some x:=by simp[cAt,hc,bX]
    have c2:cAt P f (true::p)=some y:=by simp[cAt,hc,bX]
    obtain⟨⟨e1,s1⟩,h1,C⟩:=zM h;refine wpIn_seq (hk _ _ _ _ _ _ c1 h1 E w0 X F n a D B w Y Mo rr _ hr1 hW W fun a' w' B' Y' q bs z g1 V G I=>?_);cases e1 with
    | n=>exact hk _ _ _ _ _ _ c2 C E w0 X _ n a' _ B' w' Y' q rr Q hr2 g1 V (A.next hq z G I)
    | x id=>cases C;exact A a' w' B' Y' q bs (fun e=>z (hq e).1) g1 V G I
    | r=>cases C;exact A a' w' B' Y' q bs (fun e=>z (hq e).1) g1 V G I
    | p t=>cases C;exact A a' w' B' Y' q bs (fun e=>z (hq e).1) g1 V G I
   | cond c x y=>
    have c1:cAt P f (false::p)=some x:=by simp[cAt,hc,bX]
    have c2:cAt P f (true::p)=some y:=by simp[cAt,hc,bX]
    simp only[qAd]at h;have hcr:=W.rep c;have go:∀(b:Bool),evO s.L c= .v (.bool b)→((bif b then evD P OD LO k f (false::p) x else evD P OD LO k f (true::p) y) s).run=some (e,s')→(Code.cond c x y).wpIn (FF rr) 0 P Q a w:=fun b eb h=>by
     rw[eb]at hcr;cases b with
     | true=>exact wpIn_cond_true hcr.bool (hk _ _ _ _ _ _ c1 h E w0 X F n a D B w Y Mo rr Q (hr.imp id fun h=>by simp only[noR,zd]at h;exact h.1) hW W fun a' w' B' Y' q bs z=>A a' w' B' Y' q bs fun e=>z (by simp only[noR,zd]at e;exact e.1))
     | false=>exact wpIn_cond_false hcr.bool (hk _ _ _ _ _ _ c2 h E w0 X F n a D B w Y Mo rr Q (hr.imp id fun h=>by simp only[noR,zd]at h;exact h.2) hW W fun a' w' B' Y' q bs z=>A a' w' B' Y' q bs fun e=>z (by simp only[noR,zd]at e;exact e.2))
    obtain⟨b,eb,hb⟩:=qTo h;exact go b eb hb
   | block id x=>
    have c1:cAt P f (false::p)=some x:=by simp[cAt,hc,bX]
    obtain⟨⟨e1,s1⟩,h1,C⟩:=zM h;refine yZ (hk _ _ _ _ _ _ c1 h1 E w0 X F n a D B w Y Mo rr _ hr hW W fun a' w' B' Y' q bs z g1 V G I=>?_);cases e1 with
    | n=>cases C;exact A a' w' B' Y' q bs z g1 V G I
    | r=>cases C;exact A a' w' B' Y' q bs z g1 V G I
    | p t=>cases C;exact A a' w' B' Y' q bs z g1 V G I
    | x j=>
     cases C;have:=A a' w' B' Y' q bs z g1 V G I;cases hj:Nat.beq j id with
     | true=>rw[hj]at this;obtain rfl:=zY hj;exact nZ this
     | false=>rw[hj]at this;exact zGh hj this
   | scope x=>
    have c1:cAt P f (false::p)=some x:=by simp[cAt,hc,bX]
    rcases hr with rfl | hr
    ·exact zMj (hk _ _ _ _ _ _ c1 h E w0 X F n a D B w Y Mo none _ (.inl rfl) hW W fun a' w' B' Y' q bs _ g1 V G I=>by
      have:=A a' w' B' Y' q bs (fun e=>by simp[noR]at e) g1 V G I
      cases e<;>exact this)
    ·simp[noR]at hr
   | loop x=>
    have c1:cAt P f (false::p)=some x:=by simp[cAt,hc,bX]
    have hr1:rr=none∨noR x=true:=hr.imp id fun h=>by simpa[noR]using h
    simp only[qAd]at h;cases hlo:LO f p s with
    | some d=>
     simp only[hlo]at h;exact hL f p s d hlo x hc e s' h E w0 X F n a D B w Y Mo rr Q hr hW W A
    | none=>
    simp only[hlo]at h;have key:∀(N:Nat),(qMn (evD P OD LO k f (false::p) x) N s).run=some (e,s')→(Code.loop x).wpIn (FF rr) 0 P Q a w:=fun N h=>by
     refine lJ (γ:=Nat×S×List Nat) (fun g a w=>(qMn (evD P OD LO k f (false::p) x) g.1 g.2.1).run=some (e,s')∧∃B' Y' q,(noR x=true→g.2.2=[])∧Wd P E w0 X (g.2.2++F) g.2.1.H B' w Y' q∧FrT n a g.2.1.L (g.2.2.map Gv.mark++D) B' (rd w Y')∧BLe B B'∧Le (rd _ Y) (rd w Y'))
      (fun g=>g.1) (N,s,[]) ⟨h,B,Y,Mo,fun _=>rfl,hW,W,BLe.refl B,Le.refl _⟩ ?_
     rintro⟨j,s0,J⟩ a0 w1 ⟨U,B1,Y1,Mo1,hb1,g1,V,G,I⟩;simp only at U hb1 g1 V;cases j with
     | zero=>cases U
     | succ j=>
     obtain⟨⟨e1,s1⟩,h1,C⟩:=zM U;refine hk _ _ _ _ _ _ c1 h1 E w0 X _ n a0 _ B1 w1 Y1 Mo1 rr _ hr1 g1 V fun a' w' B' Y' q bs z k1 k2 k3 k4=>?_;have Z:noR x=true→bs++J=[]:=fun e=>by rw[z e,hb1 e];rfl
     have k1':Wd P E w0 X (bs++J++F) s1.H B' w' Y' q:=by rw[List.append_assoc];exact k1
     have k2':FrT n a' s1.L ((bs++J).map Gv.mark++D) B' (rd w' Y'):=by rw[List.map_append,List.append_assoc];exact k2
     cases e1 with
     | n=>exact⟨(j,s1,bs++J),⟨C,B',Y',q,Z,k1',k2',G.trans k3,I.trans k4⟩,Nat.lt_succ_self j⟩
     | x id=>cases C;exact A a' w' B' Y' q (bs++J) (fun e=>Z (by simpa[noR]using e)) k1' k2' (G.trans k3) (I.trans k4)
     | r=>cases C;exact A a' w' B' Y' q (bs++J) (fun e=>Z (by simpa[noR]using e)) k1' k2' (G.trans k3) (I.trans k4)
     | p t=>cases C;exact A a' w' B' Y' q (bs++J) (fun e=>Z (by simpa[noR]using e)) k1' k2' (G.trans k3) (I.trans k4)
    exact key _ h
   | region id ops draw=>
    cases draw with
    | false=>
     simp only[qAd]at h;cases M:fQ ops with
     | false=>simp[M,DT.run]at h
     | true=>
      rw[M,ze]at h;obtain⟨s1,h1,C⟩:=zM h;cases C;refine wpIn_region_list ?_;exact zWw (qCp hm hO hk) qFm _ _ _ (zQi _ _ h1) M hW W (BLe.refl B) (Le.refl _) fun a' w' B' Y' q k1 k2 k3 k4=>A.one k1 k2 k3 k4
    | true=>
     simp only[qAd]at h;cases M:fQ ops with
     | false=>simp[M,DT.run]at h
     | true=>
      rw[M,ze]at h;obtain⟨s1,h1,C⟩:=zM h;cases C;exact qTx hm hO hk M h1 hW W fun a' w' B' Y' q k1 k2 k3 k4=>A.one k1 k2 k3 k4
   | rangeFunc g ps c1 c2=>cases h
   | goto l=>cases h
   | refuse why=>cases h
end
inductive Sl where
  | u
  | h
  | t (x:T)
  | a (g:Tg) (A:Ty) (e:TypeId)
inductive Ob' where
  | g
  | r (cs:List Sl) (e:TypeId)
  | m (g:Tg) (K V:Ty)
structure Sp where
 ss:List Sl
 os:List Ob'
structure Hs where
 hs:List T
 az:List T
 ks:List (List T)
noncomputable def chk(A:Ty):Nat→List T→Option (List (List T))
 | 0,_=>none
 | k+1,ts=>match ts with
  | []=>some []
  | _::_=>match dH A.size ts with
   | some u=>(match chk A k (gD ts A.size)with
    | some r=>some (u::r)
    | none=>none)
   | none=>none
noncomputable def zOp(g:Tg)(A:Ty):List (List T)→List A.den→Option (List A.den)
 | [],r=>some r
 | u::l,r=>match mD g A u with
  | some x=>zOp g A l (x::r)
  | none=>none
noncomputable def qBl(g:Tg)(A:Ty):Cs→Option (List A.den)
 | .d j e x=>bif g.le j then tV e A x else none
 | .l cs=>match chk A (ln cs+1) cs with
  | some l=>zOp g A l []
  | none=>none
noncomputable def qSp(g:Tg)(A:Ty)(e:TypeId)(n:Nat):TO→DT T
 | .gro c j=>bif Nat.beq e j then(match qBl g A c with
  | some (y::l)=>grd (Nat.beq n (y::l).length) (.ret (.ls g A (y::l)))
  | _=> .no)else .no
 | _=> .no
noncomputable def rH(m:Nat)(H:List TO):List Sl→List T→DT (List T×List T)
 | [],[]=> .ret ([],[])
 | .u::ss,_::ts=>rH m H ss ts
 | .h::ss,t::ts=>(match zEg t with
  | some t=>(rH m H ss ts).bind fun b=> .ret (t::b.1,b.2)
  | none=> .no)
 | .t x::ss,t::ts=>bif eqU 12 x t&&vV m 12 x then rH m H ss ts else .no
 | .a g A e::ss,t::ts=>(match t with
  | .v (.slice none 0 0)=>(rH m H ss ts).bind fun b=> .ret (b.1,.ls g A []::b.2)
  | .og i o n=>bif Nat.beq o 0 then(qSp g A e n (nth .gone H i)).bind fun x=>(rH m H ss ts).bind fun b=> .ret (b.1,x::b.2)else .no
  | _=> .no)
 | _,_=> .no
noncomputable def vX:List Sl→List T→List (Option Nat)
 | .a .. ::ss,t::ts=>(match t with | .og i _ _=>some i | _=>none)::vX ss ts
 | _::ss,_::ts=>vX ss ts
 | _,_=>[]
noncomputable def mdE(g:Tg)(K V:Ty):TO→Option T
 | .mapd d=>bif g.le d.g then(match tV (.prod d.K d.V) (.prod K V) d.l with
  | some l=>some (.ls g (.prod K V) l)
  | none=>none)else none
 | .map []=>some (.ls g (.prod K V) [])
 | _=>none
noncomputable def moD(g:Tg)(K V:Ty):List T→TO
 | [.ls _ A l]=>(match tV A (.prod K V) l with
  | some l=> .mapd ⟨g,K,V,l⟩
  | none=> .gone)
 | _=> .gone
noncomputable def nA:List Sl→Nat
 | []=>0
 | .a .. ::ss=>nA ss+1
 | _::ss=>nA ss
noncomputable def zJe(m:Nat)(H0:List TO):List Ob'→List TO→DT (List (List T)×List T)
 | [],_=> .ret ([],[])
 | .g::os,_::H=>(zJe m H0 os H).bind fun r=> .ret ([]::r.1,r.2)
 | .r cs e::os,.row ts j::H=>bif Nat.beq e j then(rH m H0 cs ts).bind fun a=>(zJe m H0 os H).bind fun r=> .ret (a.1::r.1,a.2++r.2)else .no
 | .m g K V::os,o::H=>(match mdE g K V o with
  | some t=>(zJe m H0 os H).bind fun r=> .ret ([t]::r.1,r.2)
  | none=> .no)
 | _,_=> .no
noncomputable def mX:List Ob'→List TO→List (Option Nat)
 | .r cs _::os,.row ts _::H=>vX cs ts++mX os H
 | _::os,_::H=>mX os H
 | _,_=>[]
noncomputable def isG:Ob'→Bool
 | .g=>true
 | _=>false
noncomputable def zLc(m:Nat)(os:List Ob'):List (Option Nat)→Bool
 | []=>true
 | none::l=>zLc m os l
 | some i::l=>(!zJc i l&&(!Nat.blt i m||isG (nth .g os i)))&&zLc m os l
noncomputable def gN(m:Nat)(sp:Sp)(s:S):DT Hs:=bif zLc m sp.os (vX sp.ss s.L++mX sp.os s.H)&&(Nat.beq (ln sp.os) m&&Nat.ble m (ln s.H))then(rH m s.H sp.ss s.L).bind fun a=>(zJe m s.H sp.os s.H).bind fun ks=> .ret ⟨a.1,a.2++ks.2,ks.1⟩else .no
noncomputable def rowT(j:Nat):T→T
 | .ls _ _ []=> .v (.slice none 0 0)
 | .ls _ _ (x::l)=> .og j 0 (x::l).length
 | _=> .u
noncomputable def qZw(e:TypeId):T→TO
 | .ls _ _ []=> .gone
 | .ls g A (x::l)=> .gro (.d g A (x::l)) e
 | _=> .gone
noncomputable def buL:List Sl→Nat→List T→List T→List T
 | .u::ss,j,hs,az=> .u::buL ss j hs az
 | .h::ss,j,x::hs,az=>x::buL ss j hs az
 | .t x::ss,j,hs,az=>x::buL ss j hs az
 | .a _ _ _::ss,j,hs,x::az=>rowT j x::buL ss (j+1) hs az
 | _,_,_,_=>[]
noncomputable def buA:List Sl→List T→List TO
 | .a _ _ e::ss,x::az=>qZw e x::buA ss az
 | .a _ _ _::_,[]=>[]
 | _::ss,az=>buA ss az
 | [],_=>[]
noncomputable def buO:List Ob'→Nat→List (List T)→List T→List TO
 | .g::os,j,_::ks,az=> .gone::buO os j ks az
 | .r cs e::os,j,k::ks,az=> .row (buL cs j k (az.take (nA cs))) e::buO os (j+nA cs) ks (gD az (nA cs))
 | .m g K V::os,j,k::ks,az=>moD g K V k::buO os j ks az
 | _,_,_,_=>[]
noncomputable def buB:List Ob'→List T→List TO
 | .r cs _::os,az=>buA cs (az.take (nA cs))++buB os (gD az (nA cs))
 | _::os,az=>buB os az
 | [],_=>[]
noncomputable def bu(m:Nat)(sp:Sp)(q:Hs):S:=⟨buL sp.ss m q.hs (q.az.take (nA sp.ss)),buO sp.os (m+nA sp.ss) q.ks (gD q.az (nA sp.ss))++(buA sp.ss (q.az.take (nA sp.ss))++buB sp.os (gD q.az (nA sp.ss)))⟩
section
variable {P:Program}{E:Nat→Prop}{w0:World}{X:Hid}{F:List Nat}{H H':List TO}{B B':Bm}{w:World}{Y:Hid}{Mo:List (Nat×Obj)}{r:Rd}{m:Nat}
theorem chk_ok{A:Ty}:∀(k:Nat)(ts:List T){l:List (List T)},chk A k ts=some l→ts=l.flatten
 | 0,ts,l,h=>by cases h
 | k+1,[],l,h=>by cases h;rfl
 | k+1,t::ts,l,h=>by
  simp only[chk]at h;cases e:dH A.size (t::ts)with
  | none=>simp[e]at h
  | some u=>
   simp only[e]at h;cases j:chk A k (gD (t::ts) A.size)with
   | none=>simp[j]at h
   | some r'=>
    simp only[j,za]at h;subst h;obtain⟨_,rfl⟩:=zBs _ _ _ e;rw[List.flatten_cons,←chk_ok k _ j,zAl,List.take_append_drop]
theorem zGi{g:Tg}{A:Ty}:∀(l:List (List T))(p:List A.den){x:List A.den}{vs:List Value},zOp g A l p=some x→zO B r (qN g A p++l.flatten) vs→zO B r (qN g A x) vs∧(qN g A x).length=(qN g A p++l.flatten).length
 | [],p,x,vs,h,j=>by cases h;simpa using j
 | u::l,p,x,vs,h,j=>by
  simp only[zOp]at h;cases q:mD g A u with
  | none=>simp[q]at h
  | some y=>
   simp only[q]at h;rw[List.flatten_cons,←List.append_assoc]at j;have hs:=zO.split (ts:=qN g A p++u) (us:=l.flatten) j;have e:=zO.split (ts:=qN g A p) (us:=u) hs.1;obtain⟨k1,k2⟩:=gW A q e.2;have C:zO B r (qN g A (y::p)++l.flatten) vs:=by
    have:=(e.1.app k1).app hs.2;rw[List.take_append_drop,List.take_append_drop]at this;exact this
   obtain⟨g1,z⟩:=zGi l (y::p) h C;refine⟨g1,?_⟩;rw[z];simp only[qN,List.flatten_cons,List.length_append,jL,k2,Nat.add_assoc]
theorem qJj{g:Tg}{A:Ty}{c:Cs}{x:List A.den}{vs:List Value}(h:qBl g A c=some x)(q:zO B r c.list vs):zO B r (qN g A x) vs∧(qN g A x).length=c.list.length:=by
 unfold qBl at h;split at h
 ·rename_i y j G;cases C:g.le y with
  | false=>simp[C]at h
  | true=>
   simp only[C,ze]at h;obtain⟨rfl,N⟩:=gY h;obtain rfl:=eq_of_heq N;have e:∀(l:List j.den),qN y j l=jW y j l.reverse:=fun l=>by rw[←mG,List.reverse_reverse]
   have I:∀(l:List j.den),qN g j l=jW g j l.reverse:=fun l=>by rw[←mG,List.reverse_reverse]
   refine⟨?_,?_⟩
   ·rw[I];have q:zO B r (qN y j G) vs:=q;rw[e]at q;exact zGs (by simpa using C) j _ q
   ·show(qN g j G).length=(qN y j G).length;rw[vU,vU]
 ·rename_i cs;cases z:chk A (ln cs+1) cs with
  | none=>simp[z]at h
  | some l=>
   simp only[z]at h;have e:=chk_ok _ _ z;have q:zO B r cs vs:=q;obtain⟨J,M⟩:=zGi l [] h (by simpa[qN,←e]using q)
   refine⟨J,?_⟩;rw[M];show([]++l.flatten).length=cs.length;rw[List.nil_append,←e]
theorem rZ{m:Nat}{H:List TO}:∀(ss:List Sl)(ts:List T){b:List T×List T},(rH m H ss ts).run=some b→(vX ss ts).length=b.2.length
 | [],[],b,h=>by cases h;rfl
 | [],_::_,b,h=>by cases h
 | .u::ss,[],b,h=>by cases h
 | .h::ss,[],b,h=>by cases h
 | .t _::ss,[],b,h=>by cases h
 | .a .. ::ss,[],b,h=>by cases h
 | .u::ss,t::ts,b,h=>rZ ss ts (b:=b) h
 | .h::ss,t::ts,b,h=>by
  simp only[rH]at h;split at h
  ·obtain⟨j,q,y⟩:=zM h;cases y;exact rZ (b:=j) ss ts q
  ·cases h
 | .t x::ss,t::ts,b,h=>by
  simp only[rH]at h;cases z:eqU 12 x t&&vV m 12 x with
  | false=>rw[z]at h;cases h
  | true=>rw[z]at h;exact rZ ss ts h
 | .a g A e::ss,t::ts,b,h=>by
  simp only[rH]at h;split at h
  ·obtain⟨j,q,y⟩:=zM h;cases y;simp only[vX,List.length_cons,rZ (b:=j) ss ts q]
  ·rename_i i o n;cases ho:Nat.beq o 0 with
   | false=>rw[ho]at h;cases h
   | true=>
    rw[ho,ze]at h;obtain⟨x,_,h⟩:=zM h;obtain⟨j,q,y⟩:=zM h;cases y;simp only[vX,List.length_cons,rZ (b:=j) ss ts q]
  ·cases h
theorem dF{m:Nat}{H:List TO}:∀(ss:List Sl)(ts:List T){b:List T×List T},(rH m H ss ts).run=some b→b.2.length=nA ss
 | [],[],b,h=>by cases h;rfl
 | [],_::_,b,h=>by cases h
 | .u::ss,[],b,h=>by cases h
 | .h::ss,[],b,h=>by cases h
 | .t _::ss,[],b,h=>by cases h
 | .a .. ::ss,[],b,h=>by cases h
 | .u::ss,t::ts,b,h=>dF ss ts (b:=b) h
 | .h::ss,t::ts,b,h=>by
  simp only[rH]at h;split at h
  ·obtain⟨j,q,y⟩:=zM h;cases y;exact dF (b:=j) ss ts q
  ·cases h
 | .t x::ss,t::ts,b,h=>by
  simp only[rH]at h;cases z:eqU 12 x t&&vV m 12 x with
  | false=>rw[z]at h;cases h
  | true=>rw[z]at h;exact dF ss ts h
 | .a g A e::ss,t::ts,b,h=>by
  simp only[rH]at h;split at h
  ·obtain⟨j,q,y⟩:=zM h;cases y;simp only[nA,List.length_cons,dF (b:=j) ss ts q]
  ·rename_i i o n;cases ho:Nat.beq o 0 with
   | false=>rw[ho]at h;cases h
   | true=>
    rw[ho,ze]at h;obtain⟨x,_,h⟩:=zM h;obtain⟨j,q,y⟩:=zM h;cases y;simp only[nA,List.length_cons,dF (b:=j) ss ts q]
  ·cases h
theorem zIl{a b:List T}{n:Nat}(h:a.length=n):(a++b).take n=a∧gD (a++b) n=b:=by
 subst h;rw[zAl];exact⟨List.take_left,List.drop_left⟩
theorem aV(J:∀i,i<m→B' i=B i)(I:B'.N=B.N):∀(ss:List Sl)(ts:List T)(j:Nat){b:List T×List T}{vs:List Value},(rH m H ss ts).run=some b→(∀(q i:Nat),(vX ss ts)[q]?=some (some i)→B' (j+q)=B i)→zO B r ts vs→zO B' r (buL ss j b.1 b.2) vs
 | [],[],j,b,vs,h,_,z=>by
  cases h;cases vs with
  | nil=>trivial
  | cons=>exact z.elim
 | [],_::_,j,b,vs,h,_,_=>by cases h
 | .u::ss,[],j,b,vs,h,_,_=>by cases h
 | .h::ss,[],j,b,vs,h,_,_=>by cases h
 | .t _::ss,[],j,b,vs,h,_,_=>by cases h
 | .a .. ::ss,[],j,b,vs,h,_,_=>by cases h
 | _::_,_::_,_,_,[],_,_,z=>z.elim
 | .u::ss,t::ts,j,b,v::vs,h,G,z=>⟨.u,aV J I ss ts j (b:=b) h G z.2⟩
 | .h::ss,t::ts,j,b,v::vs,h,G,z=>by
  simp only[rH]at h;split at h
  ·rename_i t' ht;obtain⟨b',M,U⟩:=zM h;cases U;exact⟨zJv ht I z.1,aV J I ss ts j M G z.2⟩
  ·cases h
 | .t x::ss,t::ts,j,b,v::vs,h,G,z=>by
  simp only[rH]at h;cases V:eqU 12 x t&&vV m 12 x with
  | false=>rw[V]at h;cases h
  | true=>
   rw[V]at h;simp only[zd]at V;have e:=lI 12 x t V.1;subst e;exact⟨Rep.low J I 12 V.2 z.1,aV J I ss ts j (b:=b) h G z.2⟩
 | .a g A e::ss,t::ts,j,b,v::vs,h,G,z=>by
  have W:∀(q i:Nat),(vX ss ts)[q]?=some (some i)→B' (j+1+q)=B i:=fun q i e=>by
   have:=G (q+1) i (by simpa[vX]using e)
   rwa[show j+(q+1)=j+1+q by omega]at this
  simp only[rH]at h;split at h
  ·obtain⟨b',M,U⟩:=zM h;cases U;refine⟨?_,aV J I ss ts (j+1) M W z.2⟩;obtain⟨rfl,hs⟩:=z.1.vI;exact .v hs
  ·rename_i i o n;cases ho:Nat.beq o 0 with
   | false=>rw[ho]at h;cases h
   | true=>
    rw[ho,ze]at h;obtain⟨x,C,h⟩:=zM h;obtain⟨b',M,U⟩:=zM h;cases U;refine⟨?_,aV J I ss ts (j+1) M W z.2⟩;obtain rfl:=zY ho;unfold qSp at C;split at C
    ·rename_i c e' hn;cases he:Nat.beq e e' with
     | false=>rw[he]at C;cases C
     | true=>
      rw[he,ze]at C;split at C
      ·rename_i y l hl;obtain⟨k1,k2⟩:=zS C;cases k2;obtain rfl:=zY k1;have Z:B' j=B i:=by
        have:=G 0 i rfl;simpa using this
       have hv:=z.1;cases hv with
       | og g1 g2 g3 g4=>exact .og (by rw[Z];exact g1) g2 g3 g4
      ·cases C
    ·cases C
  ·cases h
end
section
variable {P:Program}{E:Nat→Prop}{w0:World}{X:Hid}{F:List Nat}{H H':List TO}{B B':Bm}{w:World}{Y:Hid}{Mo:List (Nat×Obj)}{r:Rd}{m:Nat}{n:Nat}{a:Act}{D:List Deferred}{s:S}
def reB(B:Bm)(m:Nat)(src:List (Option Nat)):Bm:=⟨fun i=>if i<m then B i else match src[i-m]? with
 | some (some j)=>B j
 | _=>none,B.N⟩
theorem zFy{src:List (Option Nat)}{i:Nat}(h:i<m):reB B m src i=B i:=if_pos h
theorem zNk{src:List (Option Nat)}{q j:Nat}(h:src[q]?=some (some j)):reB B m src (m+q)=B j:=by
 show(if m+q<m then B (m+q)else _)=_
 rw[if_neg (by omega),Nat.add_sub_cancel_left,h]
theorem zUh{B0:Bm}{src:List (Option Nat)}(h:BLe B0 B)(q:∀i,m≤i→B0 i=none):BLe B0 (reB B m src):=⟨fun i p e=>by
 have j:i<m:=by
  rcases Nat.lt_or_ge i m with h | h
  ·exact h
  ·rw[q i h]at e;cases e
 rw[zFy j];exact h i p e,h.n⟩
theorem dO:∀(ss:List Sl)(ts:List T){b:List T×List T},(rH m H ss ts).run=some b→(buA ss b.2).length=(vX ss ts).length∧
  ∀(q:Nat)(o:TO),(buA ss b.2)[q]?=some o→o≠.gone→∃(i:Nat)(c:Cs)(g:Tg)(A:Ty)(x:List A.den)(e:TypeId),o= .gro (.d g A x) e∧(vX ss ts)[q]?=some (some i)∧nth .gone H i= .gro c e∧qBl g A c=some x
 | [],[],b,h=>by cases h;exact⟨rfl,fun q o e=>by simp[buA]at e⟩
 | [],_::_,b,h=>by cases h
 | .u::ss,[],b,h=>by cases h
 | .h::ss,[],b,h=>by cases h
 | .t _::ss,[],b,h=>by cases h
 | .a .. ::ss,[],b,h=>by cases h
 | .u::ss,t::ts,b,h=>dO ss ts (b:=b) h
 | .h::ss,t::ts,b,h=>by
  simp only[rH]at h;split at h
  ·obtain⟨C,I,J⟩:=zM h;cases J;exact dO (b:=C) ss ts I
  ·cases h
 | .t x::ss,t::ts,b,h=>by
  simp only[rH]at h;cases hc:eqU 12 x t&&vV m 12 x with
  | false=>rw[hc]at h;cases h
  | true=>rw[hc]at h;exact dO (b:=b) ss ts h
 | .a g A e::ss,t::ts,b,h=>by
  simp only[rH]at h;split at h
  ·obtain⟨C,I,J⟩:=zM h;cases J;obtain⟨k1,k2⟩:=dO (b:=C) ss ts I;refine⟨by simp only[buA,vX,List.length_cons,k1],fun q o ho j=>?_⟩
   cases q with
   | zero=>simp only[buA,qZw,List.getElem?_cons_zero,za]at ho;exact absurd ho.symm j
   | succ q=>
    obtain⟨i,c,N,M,x,G,V,W,Z⟩:=k2 q o (by simpa[buA]using ho) j
    exact⟨i,c,N,M,x,G,V,by simpa[vX]using W,Z⟩
  ·rename_i i o n;cases ho:Nat.beq o 0 with
   | false=>rw[ho]at h;cases h
   | true=>
    rw[ho,ze]at h;obtain⟨x,z,h⟩:=zM h;obtain⟨C,I,J⟩:=zM h;cases J;obtain⟨k1,k2⟩:=dO (b:=C) ss ts I;refine⟨by simp only[buA,vX,List.length_cons,k1],fun q o ho j=>?_⟩
    cases q with
    | succ q=>
     obtain⟨i,c,N,M,x,G,V,W,Z⟩:=k2 q o (by simpa[buA]using ho) j
     exact⟨i,c,N,M,x,G,V,by simpa[vX]using W,Z⟩
    | zero=>
     unfold qSp at z;split at z
     ·rename_i c G hn;cases U:Nat.beq e G with
      | false=>rw[U]at z;cases z
      | true=>
       rw[U,ze]at z;obtain rfl:=zY U;split at z
       ·rename_i y l hl;obtain⟨q1,q2⟩:=zS z;cases q2;simp only[buA,qZw,List.getElem?_cons_zero,za]at ho;subst ho;exact⟨i,c,g,A,y::l,e,rfl,rfl,hn,hl⟩
       ·cases z
     ·cases z
  ·cases h
def qAk(H l:List TO)(s:List (Option Nat)):Prop:=l.length=s.length∧∀(q:Nat)(o:TO),l[q]?=some o→o≠.gone→∃(i:Nat)(c:Cs)(g:Tg)(A:Ty)(x:List A.den)(e:TypeId),o= .gro (.d g A x) e∧s[q]?=some (some i)∧nth .gone H i= .gro c e∧qBl g A c=some x
theorem zVa{M l2:List TO}{N U:List (Option Nat)}(j:qAk H M N)(I:qAk H l2 U):qAk H (M++l2) (N++U):=by
 refine⟨by rw[List.length_append,List.length_append,j.1,I.1],fun q o ho y=>?_⟩
 rw[List.getElem?_append]at ho;split at ho
 ·rename_i J;obtain⟨i,c,g,A,x,e,z,C,G⟩:=j.2 q o ho y;exact⟨i,c,g,A,x,e,z,by rw[List.getElem?_append_left (by rw[←j.1];exact J)];exact C,G⟩
 ·rename_i J;obtain⟨i,c,g,A,x,e,z,C,G⟩:=I.2 _ o ho y;exact⟨i,c,g,A,x,e,z,by rw[List.getElem?_append_right (by rw[←j.1];omega),←j.1];exact C,G⟩
theorem qBm(ss:List Sl)(ts:List T){b:List T×List T}(h:(rH m H ss ts).run=some b):qAk H (buA ss b.2) (vX ss ts):=dO ss ts h
theorem zFj{H0:List TO}:∀(os:List Ob')(H:List TO){ks:List (List T)×List T},(zJe m H0 os H).run=some ks→qAk H0 (buB os ks.2) (mX os H)
 | [],H,ks,h=>by cases h;exact⟨rfl,fun q o e=>by simp[buB]at e⟩
 | .g::os,[],ks,h=>by cases h
 | .r _ _::os,[],ks,h=>by cases h
 | .m _ _ _::os,[],ks,h=>by cases h
 | .g::os,x::H,ks,h=>by
  obtain⟨j,y,z⟩:=zM h;cases z;have:=zFj os H y;simpa only[buB,mX]using this
 | .m g K V::os,x::H,ks,h=>by
  simp only[zJe]at h;split at h
  ·obtain⟨j,y,z⟩:=zM h;cases z;have:=zFj os H y;simpa only[buB,mX]using this
  ·cases h
 | .r cs e::os,x::H,ks,h=>by
  cases x with
  | row ts C=>
   simp only[zJe]at h;cases A:Nat.beq e C with
   | false=>rw[A]at h;cases h
   | true=>
    rw[A,ze]at h;obtain⟨b,hb,h⟩:=zM h;obtain⟨j,y,z⟩:=zM h;cases z;obtain⟨G,I⟩:=zIl (b:=j.2) (dF cs ts hb);simp only[buB,mX,G,I];exact zVa (qBm cs ts hb) (zFj os H y)
  | _=>cases h
def Obx(P:Program)(m:Nat)(src:List (Option Nat))(e o:TO):Prop:=vL e=true∧(∀cs,o≠.fz cs)∧∀(B B':Bm)(r:Rd)(C:Nat)(ob:Obj),(∀i,i<m→B' i=B i)→(∀(q i:Nat),src[q]?=some (some i)→B' (m+q)=B i)→B'.N=B.N→RO P B r C e ob→RO P B' r C o ob
theorem qOq{g e:Tg}{V:Ty}{x:V.den}{v:Value}(h:e.le g=true)(C:B'.N=B.N)(j:Rep B r (unT g V x) v):Rep B' r (unT e V x) v:=by
 have G:=jL g V x;have l2:=jL e V x;have key:∀vs,zO B r (qD g V x) vs→zO B' r (qD e V x) vs:=fun vs hv=>dY (g:=e) (A:=V) C (pQ e V x) (dU h V x hv);by_cases y:V.size=1
 ·obtain⟨t,ht⟩:=List.length_eq_one_iff.1 (G.trans y);obtain⟨I,q⟩:=List.length_eq_one_iff.1 (l2.trans y);unfold unT at j ⊢;rw[ht]at j;rw[q];have:=key [v] (by rw[ht];exact⟨j,trivial⟩)
  rw[q]at this;exact this.1
 ·have one:∀(g:Tg),unT g V x= .ag (qD g V x):=fun g=>by
   have l:=jL g V x;unfold unT;split
   ·rename_i t ht;rw[ht]at l;exact absurd l.symm y
   ·rfl
  rw[one]at j ⊢;obtain⟨vs,rfl,z⟩:=j.agI;exact Rep.mkAg (key vs z)
theorem zOy{g j:Tg}{K V:Ty}(h:j.le g=true)(q:B'.N=B.N):∀(l:List (K.den×V.den))(es:List MapEntry),xJ B r (l.map fun e=>(vD K e.1,unT g V e.2)) es→xJ B' r (l.map fun e=>(vD K e.1,unT j V e.2)) es
 | [],[],_=>trivial
 | _::l,_::es,k=>⟨k.1,qOq h q k.2.1,zOy h q l es k.2.2⟩
 | [],_::_,k=>k.elim
 | _::_,[],k=>k.elim
theorem qXw{src:List (Option Nat)}{g:Tg}{K V:Ty}{x:TO}{t:T}(h:mdE g K V x=some t):Obx P m src x (moD g K V [t]):=by
 unfold mdE at h;split at h
 ·rename_i d;obtain⟨W,K0,V0,l⟩:=d;cases G:g.le W with
  | false=>simp[G]at h
  | true=>
   simp only[G,ze]at h;split at h
   ·rename_i l' N;cases h;obtain⟨e,Z⟩:=gY N;cases e;obtain rfl:=eq_of_heq Z;have q:tV (.prod K V) (.prod K V) l=some l:=N;have y:moD g K V [.ls g (.prod K V) l]= .mapd ⟨g,K,V,l⟩:=by
     show(match tV (.prod K V) (.prod K V) l with | some l=>TO.mapd ⟨g,K,V,l⟩ | none=> .gone)=_
     rw[q]
    rw[y];refine⟨rfl,fun cs e=>(by cases e),fun B B' r C ob _ _ M j=>?_⟩
    cases j with
    | mapd h z hb=>exact .mapd (zOy G M _ _ h) z hb
   ·cases h
 ·cases h;have q:tV (.prod K V) (.prod K V) ([]:List (Ty.prod K V).den)=some []:=by
   unfold tV;split
   ·rfl
   ·rename_i hn;exfalso;refine hn ?_;have self:∀A:Ty,A.beq A=true:=fun A=>by
     induction A with
     | int k=>simp[Ty.beq]
     | list A ih=>simpa[Ty.beq]using ih
     | prod A C I J=>simp[Ty.beq,I,J]
     | _=>rfl
    exact self _
  have y:moD g K V [.ls g (.prod K V) []]= .mapd ⟨g,K,V,[]⟩:=by
   show(match tV (.prod K V) (.prod K V) ([]:List (Ty.prod K V).den)with | some l=>TO.mapd ⟨g,K,V,l⟩ | none=> .gone)=_
   rw[q]
  rw[y];refine⟨rfl,fun cs e=>(by cases e),fun B B' r C ob _ _ M j=>?_⟩
  cases j with
  | @map l es U h z hb=>
   refine .mapd ?_ z hb;show xJ B' r [] es.toList;match es.toList,h with
   | [],_=>trivial
 ·cases h
theorem zMy{H0:List TO}{src:List (Option Nat)}:∀(os:List Ob')(H:List TO)(j:Nat){ks:List (List T)×List T},(zJe m H0 os H).run=some ks→(∀(q i:Nat),(mX os H)[q]?=some (some i)→src[j+q]?=some (some i))→(buO os (m+j) ks.1 ks.2).length=os.length∧os.length≤H.length∧
  ∀(i:Nat)(o:TO),(buO os (m+j) ks.1 ks.2)[i]?=some o→o≠.gone→isG (nth .g os i)=false∧∃W,H[i]?=some W∧Obx P m src W o
 | [],H,j,ks,h,_=>by cases h;exact⟨rfl,Nat.zero_le _,fun i o e=>by simp[buO]at e⟩
 | .g::os,[],_,ks,h,_=>by cases h
 | .r _ _::os,[],_,ks,h,_=>by cases h
 | .m _ _ _::os,[],_,ks,h,_=>by cases h
 | .g::os,_::H,j,ks,h,hs=>by
  obtain⟨z,A,G⟩:=zM h;cases G;obtain⟨k1,k2,k3⟩:=zMy os H j A hs;refine⟨by simp only[buO,List.length_cons,k1],by simpa using k2,fun i o ho y=>?_⟩
  cases i with
  | zero=>simp only[buO,List.getElem?_cons_zero,za]at ho;exact absurd ho.symm y
  | succ i=>simpa[mP]using k3 i o (by simpa[buO]using ho) y
 | .m g K V::os,x::H,j,ks,h,hs=>by
  simp only[zJe]at h;split at h
  ·rename_i t ht;obtain⟨z,A,G⟩:=zM h;cases G;obtain⟨k1,k2,k3⟩:=zMy os H j A (by simpa only[mX]using hs)
   refine⟨by simp only[buO,List.length_cons,k1],by simpa using k2,fun i o ho y=>?_⟩
   cases i with
   | succ i=>simpa[mP]using k3 i o (by simpa[buO]using ho) y
   | zero=>
    simp only[buO,List.getElem?_cons_zero,za]at ho;subst ho;exact⟨rfl,x,rfl,qXw ht⟩
  ·cases h
 | .r cs e::os,x::H,j,ks,h,hs=>by
  cases x with
  | row ts e'=>
   simp only[zJe]at h;cases I:Nat.beq e e' with
   | false=>rw[I]at h;cases h
   | true=>
    rw[I,ze]at h;obtain rfl:=zY I;obtain⟨b,hb,h⟩:=zM h;obtain⟨z,A,G⟩:=zM h;cases G;have hn:=dF cs ts hb;have hl:=rZ cs ts hb;obtain⟨t1,Z⟩:=zIl (b:=z.2) hn;have N:∀(q i:Nat),(vX cs ts)[q]?=some (some i)→src[j+q]?=some (some i):=fun q i e=>hs q i (by
     have J:q<(vX cs ts).length:=(List.getElem?_eq_some_iff.1 e).1;show(vX cs ts++mX os H)[q]?=_;rw[List.getElem?_append_left J];exact e)
    have U:∀(q i:Nat),(mX os H)[q]?=some (some i)→src[j+nA cs+q]?=some (some i):=fun q i e=>by
     have:=hs (nA cs+q) i (by
      show(vX cs ts++mX os H)[nA cs+q]?=_;rw[List.getElem?_append_right (by omega),hl,hn,Nat.add_sub_cancel_left];exact e)
     rwa[Nat.add_assoc]
    obtain⟨k1,k2,k3⟩:=zMy os H (j+nA cs) A U;rw[←Nat.add_assoc]at k1 k3;refine⟨by simp only[buO,Z,List.length_cons,k1],by simpa using k2,fun i o ho y=>?_⟩
    cases i with
    | succ i=>simpa[mP]using k3 i o (by simpa[buO,Z]using ho) y
    | zero=>
     simp only[buO,t1,List.getElem?_cons_zero,za]at ho;subst ho;refine⟨rfl,_,rfl,rfl,fun cs e=>(by cases e),fun B B' r C ob hB J hN M=>?_⟩
     cases M with
     | row hr=>
      refine .row ?_;exact aV (H:=H0) hB hN cs ts (m+j) hb (fun q i e=>by
       have:=J (j+q) i (N q i e);rwa[←Nat.add_assoc]at this) hr
  | _=>cases h
theorem zUl {os : List Ob'} : ∀ (l : List (Option Nat)), zLc m os l = true → (∀ (q i : Nat), l[q]? = some (some i) → m ≤ i ∨ isG (nth .g os i) = true) ∧ ∀ (q z i : Nat), l[q]? = some (some i) → l[z]? = some (some i) → q = z
  | [], _ => ⟨fun q i e => by simp at e, fun q z i e => by simp at e⟩
  | none :: l, h => by
    obtain ⟨I, J⟩ := zUl l h
    refine ⟨fun q i e => ?_, fun q z i e A => ?_⟩
    · cases q with
      | zero => simp at e
      | succ q => exact I q i (by simpa using e)
    · cases q with
      | zero => simp at e
      | succ q => cases z with
        | zero => simp at A
        | succ z => rw [J q z i (by simpa using e) (by simpa using A)]
  | some j :: l, h => by
    simp only [zLc, zd] at h
    obtain ⟨⟨N, G⟩, h⟩ := h
    obtain ⟨I, J⟩ := zUl l h
    have no : ∀ (q : Nat), l[q]? ≠ some (some j) := by
      have : ∀ (l : List (Option Nat)), zJc j l = false → ∀ q : Nat, l[q]? ≠ some (some j) := by
        intro l
        induction l with
        | nil => intro _ q e; simp at e
        | cons x l M =>
          intro C q e
          cases x with
          | none =>
            cases q with
            | zero => simp at e
            | succ q => exact M C q (by simpa using e)
          | some y =>
            simp only [zJc, Bool.or_eq_false_iff] at C
            cases q with
            | zero => simp at e; subst e; simp at C
            | succ q => exact M C.2 q (by simpa using e)
      exact this l (by simpa using N)
    refine ⟨fun q i e => ?_, fun q z i e A => ?_⟩
    · cases q with
      | zero =>
        simp at e; subst e
        cases hb : Nat.blt j m with
        | false => left; have : ¬ j < m := fun hlt => by rw [← Nat.blt_eq] at hlt; rw [hb] at hlt; cases hlt
                   omega
        | true => right; simpa [hb] using G
      | succ q => exact I q i (by simpa using e)
    · cases q with
      | zero =>
        simp at e; subst e
        cases z with
        | zero => rfl
        | succ z => exact absurd (by simpa using A) (no z)
      | succ q => cases z with
        | zero => simp at A; subst A; exact absurd (by simpa using e) (no q)
        | succ z => rw [J q z i (by simpa using e) (by simpa using A)]
theorem zSk{sp:Sp}{q:Hs}(h:(gN m sp s).run=some q)(hW:Wd P E w0 X F s.H B w Y Mo)(hF:FrT n a s.L D B (rd w Y)):
  ∃src,Wd P E w0 X F (bu m sp q).H (reB B m src) w Y Mo∧FrT n a (bu m sp q).L D (reB B m src) (rd w Y)∧m≤s.H.length:=by
 unfold gN at h;cases hc:zLc m sp.os (vX sp.ss s.L++mX sp.os s.H)&&(Nat.beq (ln sp.os) m&&Nat.ble m (ln s.H))with
 | false=>rw[hc]at h;cases h
 | true=>
  rw[hc,ze]at h;simp only[zd]at hc;obtain⟨c1,N,c3⟩:=hc;obtain⟨b,Z,h⟩:=zM h;obtain⟨ks,h2,h3⟩:=zM h;cases h3;have N:=zY N;rw[qU]at N;have c3:m≤s.H.length:=by rw[←qU];exact Nat.le_of_ble_eq_true c3
  obtain⟨s1,s2⟩:=zUl _ c1;obtain⟨a1,a2⟩:=zVa (qBm sp.ss s.L Z) (zFj sp.os s.H h2);have hn:=dF sp.ss s.L Z;have I:=rZ sp.ss s.L Z;obtain⟨t1,t2⟩:=zIl (b:=ks.2) hn;obtain⟨o1,o2,o3⟩:=zMy (P:=P) (src:=vX sp.ss s.L++mX sp.os s.H) sp.os s.H (nA sp.ss) h2 fun q i e=>by
   rw[List.getElem?_append_right (by omega),I,hn,Nat.add_sub_cancel_left];exact e
  have hbu:bu m sp ⟨b.1,b.2++ks.2,ks.1⟩=⟨buL sp.ss m b.1 b.2,buO sp.os (m+nA sp.ss) ks.1 ks.2++(buA sp.ss b.2++buB sp.os ks.2)⟩:=by
   unfold bu;simp only[t1,t2]
  rw[hbu];refine⟨vX sp.ss s.L++mX sp.os s.H,?_,⟨hF.size,?_,hF.defers⟩,c3⟩
  ·have z:∀{o:TO},vL o=true→o≠.gone:=fun h e=>by subst e;cases h
   have get:∀(i:Nat)(o:TO),(buO sp.os (m+nA sp.ss) ks.1 ks.2++(buA sp.ss b.2++buB sp.os ks.2))[i]?=some o→vL o=true→(i<m∧(buO sp.os (m+nA sp.ss) ks.1 ks.2)[i]?=some o)∨(m≤i∧(buA sp.ss b.2++buB sp.os ks.2)[i-m]?=some o):=fun i o ho I=>by
    rw[List.getElem?_append]at ho;split at ho
    ·rename_i y;rw[o1,N]at y;exact .inl ⟨y,ho⟩
    ·rename_i y;rw[o1,N]at y ho;exact .inr ⟨by omega,ho⟩
   refine hW.re (fun i=>if i<m then some i else(match(vX sp.ss s.L++mX sp.os s.H)[i-m]? with | some x=>x | none=>none)) rfl (fun i y=>?_) (fun i o ho I=>?_) (fun i cs W=>?_) (fun i j k p1 p2 g1 l1 g2 l2 U V=>?_)
   ·have hlen:(buO sp.os (m+nA sp.ss) ks.1 ks.2++(buA sp.ss b.2++buB sp.os ks.2)).length=m+(vX sp.ss s.L++mX sp.os s.H).length:=by
     rw[List.length_append,o1,N,a1]
    rw[hlen]at y;show(if i<m then B i else _)=none
    rw[if_neg (by omega),List.getElem?_eq_none (by omega)]
   ·rcases get i o ho I with⟨y,ho⟩ | ⟨y,ho⟩
    ·obtain⟨_,o1',r2,r3,_,r4⟩:=o3 i o ho (z I);exact⟨i,o1',if_pos y,zFy y,r2,r3,fun C ob M=>r4 _ _ _ C ob (fun i y=>zFy y) (fun q i e=>zNk e) rfl M⟩
    ·obtain⟨j,c,g,A,x,e,r1,r2,r3,r4⟩:=a2 (i-m) o ho (z I);have J:=lM r3 (by simp)
     refine⟨j,_,?_,?_,J,rfl,fun C ob M=>?_⟩
     ·simp only[if_neg (show¬i<m by omega),r2]
     ·have:=zNk (B:=B) (m:=m) r2;rwa[Nat.add_sub_cancel' y]at this
     ·subst r1;cases M with
      | gro hi' hs hC hr=>
       obtain⟨k1,k2⟩:=qJj r4 hr;refine .gro hi' hs hC ?_;show zO _ _ (qN g A x) (List.take (qN g A x).length _);rw[k2];exact dY (g:=g) (A:=A) (B:=B) (B':=reB B m (vX sp.ss s.L++mX sp.os s.H)) rfl (aI g A x) k1
   ·have W:(buO sp.os (m+nA sp.ss) ks.1 ks.2++(buA sp.ss b.2++buB sp.os ks.2))[i]?=some (.fz cs):=W;rw[List.getElem?_append]at W;split at W
    ·obtain⟨_,_,_,_,e,_⟩:=o3 i _ W (by simp)
     exact e cs rfl
    ·obtain⟨_,_,_,_,_,_,e,_⟩:=a2 _ _ W (by simp)
     cases e
   ·have G:∀(i:Nat)(o:TO),(buO sp.os (m+nA sp.ss) ks.1 ks.2++(buA sp.ss b.2++buB sp.os ks.2))[i]?=some o→vL o=true→i<m→isG (nth .g sp.os i)=false:=fun i o ho I y=>by
     rcases get i o ho I with⟨_,ho⟩ | ⟨h,_⟩
     ·exact(o3 i o ho (z I)).1
     ·omega
    have S:∀{i k:Nat},m≤i→(if i<m then some i else(match(vX sp.ss s.L++mX sp.os s.H)[i-m]? with | some x=>x | none=>none))=some k→(vX sp.ss s.L++mX sp.os s.H)[i-m]?=some (some k):=fun{i k}y e=>by
     rw[if_neg (by omega)]at e
     split at e
     ·rename_i x hx;rw[hx,e]
     ·cases e
    rcases Nat.lt_or_ge i m with y | y<;>rcases Nat.lt_or_ge j m with J | J
    ·rw[if_pos y]at U;rw[if_pos J]at V;cases U;cases V;rfl
    ·rw[if_pos y]at U;cases U;rcases s1 _ _ (S J V)with h | h
     ·omega
     ·rw[G i p1 g1 l1 y]at h;cases h
    ·rw[if_pos J]at V;cases V;rcases s1 _ _ (S y U)with h | h
     ·omega
     ·rw[G j p2 g2 l2 J]at h;cases h
    ·have:=s2 _ _ _ (S y U) (S J V);omega
  ·exact aV (H:=s.H) (fun i y=>zFy y) rfl sp.ss s.L m Z (fun q i e=>zNk (by
    have hq:q<(vX sp.ss s.L).length:=(List.getElem?_eq_some_iff.1 e).1;rw[List.getElem?_append_left hq];exact e)) hF.reps
end
structure Lp where
 m:Nat
 sp:Sp
 sx:Sp
 sr:Sp
noncomputable def Lp.bx(l:Lp):Ex×Hs→Ex×S
 | (.r,q)=>(.r,bu l.m l.sr q)
 | (e,q)=>(e,bu l.m l.sx q)
noncomputable def Lp.end_(l:Lp):Ex×S→DT (Hs⊕(Ex×Hs))
 | (.n,s)=>(gN l.m l.sp s).bind fun q=> .ret (.inl q)
 | (.x id,s)=>(gN l.m l.sx s).bind fun q=> .ret (.inr (.x id,q))
 | (.r,s)=>(gN l.m l.sr s).bind fun q=> .ret (.inr (.r,q))
 | _=> .no
noncomputable def Lp.stp(l:Lp)(rn:Rd')(f:Nat)(p:List Bool)(x:Code)(q:Hs):Option (Hs⊕(Ex×Hs)):=((rn f (false::p) x (bu l.m l.sp q)).bind l.end_).run
inductive It (st:Hs→Option (Hs⊕(Ex×Hs))):Nat→Hs→Ex×Hs→Prop
  | out {q:Hs} {y:Ex×Hs} (h:st q=some (.inr y)):It st 0 q y
  | go {n:Nat} {q q':Hs} {y:Ex×Hs} (h:st q=some (.inl q')) (k:It st n q' y):It st (n+1) q y
section
variable {P:Program}{OD:Od}{LO:Lo}{rn:Rd'}{l:Lp}{f:Nat}{p:List Bool}{x:Code}{s:S}
theorem qMm(hrn:gT P rn)(hc:cAt P f p=some (.loop x)){n:Nat}{q:Hs}{y:Ex×Hs}(hm:l.m=s.H.length)(h0:(gN l.m l.sp s).run=some q)(h:It (l.stp rn f p x) n q y):Tr P (.loop x) s (l.bx y).1 (l.bx y).2:=by
 intro E w0 X F n0 a D B w Y Mo rr Q hr hW hF hA;have c1:cAt P f (false::p)=some x:=by simp[cAt,hc,bX]
 have hr1:rr=none∨noR x=true:=hr.imp id fun h=>by simpa[noR]using h
 have hBm:∀i,l.m≤i→B i=none:=fun i hi=>hW.nn i (by rw[←hm];exact hi)
 refine lJ (γ:=Nat×Hs×List Nat) (fun g a2 w2=>It (l.stp rn f p x) g.1 g.2.1 y∧∃B' Y' C,(noR x=true→g.2.2=[])∧Wd P E w0 X (g.2.2++F) (bu l.m l.sp g.2.1).H B' w2 Y' C∧FrT n0 a2 (bu l.m l.sp g.2.1).L (g.2.2.map Gv.mark++D) B' (rd w2 Y')∧BLe B B'∧Le (rd w Y) (rd w2 Y'))
  (fun g=>g.1) (n,q,[]) ?_ ?_
 ·obtain⟨src,k1,k2,_⟩:=zSk h0 hW hF;exact⟨h,_,Y,Mo,fun _=>rfl,k1,k2,zUh (BLe.refl B) hBm,Le.refl _⟩
 ·rintro⟨j,q0,I⟩ a0 w1 ⟨hit,B1,Y1,Mo1,hb1,g1,g2,g3,g4⟩;simp only at hit hb1 g1 g2;have st:∀{z:Hs⊕(Ex×Hs)},l.stp rn f p x q0=some z→∃M N,(rn f (false::p) x (bu l.m l.sp q0)).run=some (M,N)∧(l.end_ (M,N)).run=some z:=fun h=>by
   obtain⟨⟨M,N⟩,Z,U⟩:=zM h;exact⟨M,N,Z,U⟩
  have fin:∀{N:S}{a':Act}{w':World}{B':Bm}{Y':Hid}{C:List (Nat×Obj)}{bs:List Nat}{sp:Sp}{A:Hs},(gN l.m sp N).run=some A→Wd P E w0 X (bs++(I++F)) N.H B' w' Y' C→FrT n0 a' N.L (bs.map Gv.mark++(I.map Gv.mark++D)) B' (rd w' Y')→BLe B B'→
    ∃B2,Wd P E w0 X (bs++I++F) (bu l.m sp A).H B2 w' Y' C∧FrT n0 a' (bu l.m sp A).L ((bs++I).map Gv.mark++D) B2 (rd w' Y')∧BLe B B2:=fun hq k1 k2 k3=>by
   obtain⟨src,J,G,_⟩:=zSk hq k1 k2;exact⟨_,by rw[List.append_assoc];exact J,by rw[List.map_append,List.append_assoc];exact G,zUh k3 hBm⟩
  have out:∀{M:Ex}{N:S},(rn f (false::p) x (bu l.m l.sp q0)).run=some (M,N)→((∃A,(gN l.m l.sp N).run=some A∧M= .n∧∃j',j=j'+1∧It (l.stp rn f p x) j' A y)∨(∃A,(gN l.m l.sx N).run=some A∧(∃id,M= .x id)∧l.bx y=(M,bu l.m l.sx A))∨(∃A,(gN l.m l.sr N).run=some A∧M= .r∧l.bx y=(M,bu l.m l.sr A)))→
    x.wpIn (FF rr) 0 P (Exit.then (fun a' w'=>∃W:Nat×Hs×List Nat,(It (l.stp rn f p x) W.1 W.2.1 y∧∃B' Y' C,(noR x=true→W.2.2=[])∧Wd P E w0 X (W.2.2++F) (bu l.m l.sp W.2.1).H B' w' Y' C∧FrT n0 a' (bu l.m l.sp W.2.1).L (W.2.2.map Gv.mark++D) B' (rd w' Y')∧BLe B B'∧Le (rd w Y) (rd w' Y'))∧W.1<j) Q) a0 w1:=fun Z hh=>by
   refine hrn _ _ _ _ _ _ c1 Z E w0 X _ n0 a0 _ B1 w1 Y1 Mo1 rr _ hr1 g1 g2 fun a' w' B' Y' C bs hbs k1 k2 k3 k4=>?_;have V:noR x=true→bs++I=[]:=fun e=>by rw[hbs e,hb1 e];rfl
   rcases hh with⟨A,hq,rfl,j',rfl,hit'⟩ | ⟨A,hq,⟨id,rfl⟩,hy⟩ | ⟨A,hq,rfl,hy⟩
   ·obtain⟨B2,J,G,r3⟩:=fin hq k1 k2 (g3.trans k3);exact⟨(j',A,bs++I),⟨hit',B2,Y',C,V,J,G,r3,g4.trans k4⟩,Nat.lt_succ_self j'⟩
   ·obtain⟨B2,J,G,r3⟩:=fin hq k1 k2 (g3.trans k3);rw[hy]at hA;exact hA a' w' B2 Y' C (bs++I) (fun e=>V (by simpa[noR]using e)) J G r3 (g4.trans k4)
   ·obtain⟨B2,J,G,r3⟩:=fin hq k1 k2 (g3.trans k3);rw[hy]at hA;exact hA a' w' B2 Y' C (bs++I) (fun e=>V (by simpa[noR]using e)) J G r3 (g4.trans k4)
  cases hit with
  | go h k=>
   obtain⟨M,N,Z,U⟩:=st h;refine out Z ?_;cases M with
   | n=>obtain⟨A,J,G⟩:=zM U;cases G;exact .inl ⟨_,J,rfl,_,rfl,k⟩
   | x id=>obtain⟨A,J,G⟩:=zM U;cases G
   | r=>obtain⟨A,J,G⟩:=zM U;cases G
   | p t=>cases U
  | out h=>
   obtain⟨M,N,Z,U⟩:=st h;refine out Z ?_;cases M with
   | n=>obtain⟨A,J,G⟩:=zM U;cases G
   | x id=>obtain⟨A,J,G⟩:=zM U;cases G;exact .inr (.inl ⟨A,J,⟨id,rfl⟩,rfl⟩)
   | r=>obtain⟨A,J,G⟩:=zM U;cases G;exact .inr (.inr ⟨A,J,rfl,rfl⟩)
   | p t=>cases U
noncomputable def Lp.row(l:Lp)(h:Hs→DT (Ex×Hs))(s:S):DT (Ex×S):=bif Nat.beq l.m (ln s.H)then(gN l.m l.sp s).bind fun q=>(h q).bind fun y=> .ret (l.bx y)else .no
noncomputable def eqP:List Bool→List Bool→Bool
 | [],[]=>true
 | a::p,b::q=>zYm a b&&eqP p q
 | _,_=>false
theorem zSz:∀{p q:List Bool},eqP p q=true→p=q
 | [],[],_=>rfl
 | a::p,b::q,h=>by
  simp only[eqP,zd]at h;rw[zSz h.2];congr 1;cases a<;>cases b<;>first | rfl | cases h.1
noncomputable def loT:List (Nat×List Bool×(S→DT (Ex×S)))→Lo
 | [],_,_,_=>none
 | (g,e,h)::l,f,p,s=>bif Nat.beq g f&&eqP e p then some (h s)else loT l f p s
theorem qA:vY P (loT []):=fun _ _ _ _ h=>by cases h
theorem jX{t:List (Nat×List Bool×(S→DT (Ex×S)))}(ht:vY P (loT t)){h:Hs→DT (Ex×Hs)}(C:gT P rn)(I:cAt P f p=some (.loop x))(hh:∀q y,(h q).run=some y→∃n,It (l.stp rn f p x) n q y):vY P (loT ((f,p,l.row h)::t)):=by
 intro G J s d hd Z z e s' j;simp only[loT]at hd;cases hb:Nat.beq f G&&eqP p J with
 | false=>rw[hb,zf]at hd;exact ht G J s d hd Z z e s' j
 | true=>
  rw[hb,ze]at hd;cases hd;simp only[zd]at hb;obtain rfl:=zY hb.1;obtain rfl:=zSz hb.2;rw[I]at z;cases z;unfold Lp.row at j;cases A:Nat.beq l.m (ln s.H)with
  | false=>rw[A]at j;cases j
  | true=>
   rw[A,ze]at j;have A:=zY A;rw[qU]at A;obtain⟨q,N,U⟩:=zM j;obtain⟨y,V,W⟩:=zM U;obtain⟨n,hn⟩:=hh q y V;have:=qMm C I A N hn;have M:l.bx y=(e,s'):=Option.some.inj W;rw[M]at this;exact this
end
@[match_pattern] abbrev limsT:Ty:= .list .lim
@[match_pattern] abbrev zL:Ty:= .prod .bool (.prod (.list .lim) (.list .lim))
noncomputable def qZv(A:Ty):T→Option (List A.den)
 | .ls _ e l=>tV e A l
 | .v (.slice none 0 0)=>some []
 | .sl cs n=>bif gK A then(match dH (n*A.size) cs with
  | some us=>(match chk A (n+1) us with
   | some l=>(match zOp .a A l []with
    | some x=>bif Nat.beq (ln x) n then some x.reverse else none
    | none=>none)
   | none=>none)
  | none=>none)else none
 | _=>none
noncomputable def qJq:Ty→T→Option T
 | .list A,t=>(match qZv A t with
  | some l=>some (.ls .a A l)
  | none=>none)
 | .prod A B,.ag cs=>(match mD .a (.prod A B) cs with
  | some x=>some (.ag (qD .a (.prod A B) x))
  | none=>none)
 | .int k,.v (.int e a)=>bif Nat.beq (kind k) (kind e)then some (.v (.int e a))else none
 | .bool,.v (.bool b)=>some (.v (.bool b))
 | .str,.v (.string b)=>some (.v (.string b))
 | _,_=>none
noncomputable def zOj:List Ty→List T→Option (List T)
 | [],[]=>some []
 | A::e,t::ts=>(match qJq A t,zOj e ts with
  | some x,some r=>some (x::r)
  | _,_=>none)
 | _,_=>none
section
variable {P:Program}{B:Bm}{r:Rd}{f k:Nat}{az cz:List T}{tv:T}{nw:Bool}
theorem zGd.of_flat{p:Nat→Prop}{g:Tg}{A:Ty}{x:List A.den}{vs:List Value}{b o c:Nat}(V:∀(A:Ty)(l:List A.den)(v:Value),Rep B r (.ls g A l) v→jG r p (.list A) l [v])(N:gK A=true)(h:zO B r (qN g A x) vs)(hr:∀(j:Nat)(v:Value),vs[j]?=some v→r ⟨b,o+j,none⟩=some v)(hp:p b)(U:x.length≤c)(Z:c≤maxLen):
  zGd r p A.size (fun y us=>jG r p A y us) (some ⟨b,o,none⟩) c x.reverse:=by
 refine⟨by simpa using U,Z,.inr ⟨b,o,rfl,hp,fun j y I=>?_⟩⟩
 have W:j<x.length:=by
  have:=(List.getElem?_eq_some_iff.1 I).1;simpa using this
 have hlen:x.length*A.size=vs.length:=by
  have:=h.length;rwa[vU]at this
 have C:(j+1)*A.size≤x.length*A.size:=Nat.mul_le_mul_right _ W;rw[Nat.add_mul,Nat.one_mul]at C;have z:((vs.drop (j*A.size)).take A.size).length=A.size:=by
  rw[List.length_take,List.length_drop];omega
 have hget:∀(q:Nat)(v:Value),((vs.drop (j*A.size)).take A.size)[q]?=some v→vs[j*A.size+q]?=some v:=fun q v e=>by
  rw[List.getElem?_take]at e;split at e
  ·rwa[List.getElem?_drop]at e
  ·cases e
 refine⟨(vs.drop (j*A.size)).take A.size,z,?_,fun q v e=>hr _ _ (hget q v e)⟩;refine jG.of_reps (B2:=B) V A N y _ (zO.of (by rw[jL,z]) fun q t v ht hv=>?_)
 have J:=zCm g A x j y I q t ht;obtain⟨v',G,M⟩:=h.get J;rw[hget q v hv]at G;cases G;exact M
theorem qOg{A:Ty}{t:T}{l:List A.den}{v:Value}(h:qZv A t=some l)(y:Rep B r t v):Rep B r (.ls .a A l) v:=by
 unfold qZv at h;split at h
 ·obtain⟨rfl,N⟩:=gY h;obtain rfl:=eq_of_heq N;cases y with
  | ls h1=>exact .ls (jG.mono (Le.refl _) (fun b _=>Bm.In.any) _ _ _ h1)
 ·cases h;obtain⟨rfl,_⟩:=y.vI;exact .ls ⟨none,0,rfl,Nat.le_refl _,Nat.zero_le _,.inl rfl⟩
 ·rename_i cs n;cases G:gK A with
  | false=>rw[G]at h;cases h
  | true=>
   rw[G,ze]at h;split at h
   ·rename_i us hu;split at h
    ·rename_i Z J;split at h
     ·rename_i x hx;cases hn:Nat.beq (ln x) n with
      | false=>rw[hn]at h;cases h
      | true=>
       rw[hn,ze]at h;cases h;have hn:=zY hn;rw[qU]at hn;subst hn;have hb:=y.dn;obtain⟨ad,c,rfl,hc,hh⟩:=y.slI;have W:=y.slB;obtain⟨_,rfl⟩:=zBs _ _ _ hu;have N:=chk_ok _ _ J;rcases hh with⟨h0,rfl⟩ | ⟨b,o,rfl,M⟩
       ·have:=List.eq_nil_of_length_eq_zero h0;subst this;exact .ls ⟨ad,c,rfl,Nat.zero_le _,W,.inl rfl⟩
       ·obtain⟨fv,g1,g2⟩:=M.fun;have I:zO B r (cs.take (x.length*A.size)) ((List.range (cs.take (x.length*A.size)).length).map fv):=zO.of (by simp) fun j t v e V=>by
         rw[List.getElem?_map]at V;obtain⟨j',C,rfl⟩:=Option.map_eq_some_iff.1 V;have hj:=(List.getElem?_eq_some_iff.1 C);obtain⟨z,q⟩:=hj;rw[List.getElem_range]at q;subst q;rw[List.getElem?_take]at e;split at e
         ·exact g2 _ _ e
         ·cases e
        have hk:=zGi Z [] hx (by simpa[qN,←N]using I)
        refine .ls ⟨some ⟨b,o,none⟩,c,by rw[List.length_reverse],zGd.of_flat (g:= .a) (fun A l v h=>by cases h with | ls h=>exact h) G hk.1 (fun j v hv=>?_) Bm.In.any hc W⟩
        rw[List.getElem?_map]at hv;obtain⟨j',C,rfl⟩:=Option.map_eq_some_iff.1 hv;obtain⟨z,q⟩:=List.getElem?_eq_some_iff.1 C;rw[List.getElem_range]at q;subst q;have U:j<cs.length:=by
         have:j<(cs.take (x.length*A.size)).length:=by simpa using z
         exact Nat.lt_of_lt_of_le this (List.length_take_le' _ _)
        exact g1 j cs[j] (by simp[U])
     ·cases h
    ·cases h
   ·cases h
 ·cases h
theorem qJr{A:Ty}{t y:T}{v:Value}(h:qJq A t=some y)(e:Rep B r t v):Rep B r y v:=by
 unfold qJq at h;split at h
 ·split at h
  ·rename_i l z;cases h;exact qOg z e
  ·cases h
 ·split at h
  ·rename_i A C cs x G;cases h;obtain⟨vs,rfl,j⟩:=e.agI;exact Rep.mkAg (gW _ G j).1
  ·cases h
 ·rename_i k I a;cases q:Nat.beq (kind k) (kind I)with
  | false=>rw[q]at h;cases h
  | true=>rw[q]at h;cases h;exact e
 ·cases h;exact e
 ·cases h;exact e
 ·cases h
theorem zOk:∀{q:List Ty}{az cz:List T}{vs:List Value},zOj q az=some cz→zO B r az vs→zO B r cz vs
 | [],[],cz,vs,h,e=>by cases h;exact e
 | A::q,t::ts,cz,v::vs,h,e=>by
  simp only[zOj]at h;cases j:qJq A t with
  | none=>simp[j]at h
  | some x=>
   cases y:zOj q ts with
   | none=>simp[j,y]at h
   | some rr=>
    simp only[j,y,za]at h;subst h;exact⟨qJr j e.1,zOk y e.2⟩
 | [],_::_,_,_,h,_=>by cases h
 | _::_,[],_,_,h,_=>by cases h
 | _::_,_::_,_,[],_,e=>e.elim
theorem KnP.arg(h:KnP P k f cz tv nw)(ha:∀(B:Bm)(r:Rd)(vs:List Value),zO B r az vs→zO B r cz vs):KnP P k f az tv nw:=fun B w X qO R e z y q j=>h B w X qO R e z y (ha B _ _ q) j
noncomputable def odR(e:List Ty)(h:List T→DT (T×Bool))(az:List T):DT (T×Bool):=match zOj e az with
 | some cz=>h cz
 | none=> .no
noncomputable def odT:List (Nat×(List T→DT (T×Bool)))→Od
 | [],_=>none
 | (g,h)::l,f=>bif Nat.beq g f then some h else odT l f
theorem yG:wB P (odT []):=fun _ _ h=>by cases h
theorem zT{t:List (Nat×(List T→DT (T×Bool)))}{h:List T→DT (T×Bool)}(ht:wB P (odT t))(hh:∀az tv nw,(h az).run=some (tv,nw)→∀k,KnP P k f az tv nw):wB P (odT ((f,h)::t)):=by
 intro g h' e;simp only[odT]at e;cases hb:Nat.beq f g with
 | false=>rw[hb,zf]at e;exact ht g h' e
 | true=>rw[hb,ze]at e;cases e;obtain rfl:=zY hb;exact hh
theorem jV{j:List Ty}{h:List T→DT (T×Bool)}(hh:∀cz tv nw,(h cz).run=some (tv,nw)→∀k,KnP P k f cz tv nw):∀az tv nw,(odR j h az).run=some (tv,nw)→∀k,KnP P k f az tv nw:=fun az tv nw e k=>by
 unfold odR at e;split at e
 ·rename_i cz y;exact(hh cz tv nw e k).arg fun B r vs q=>zOk y q
 ·cases e
theorem kF{OD:Od}{LO:Lo}(j:P.follows .mixedOrders=true)(A:wB P OD)(z:vY P LO){n:Nat}(h:((qK P (evD P OD LO n) f (cz.map (unN 12)) []).bind qQ).run=some (tv,nw))(e:(cz.all (clean 12)&&clean 12 tv)=true)(k:Nat):KnP P k f cz tv nw:=by
 obtain⟨⟨t,C⟩,q,y⟩:=zM h;simp only[zd]at e;exact(qDs (k:=0) j (kQ j A z n) q y).clean e.1 e.2 k
noncomputable def zZh:T→Option (List Nat)
 | .ls _ .lim l=>some l
 | t=>zTm t
noncomputable def arX:T→Option Ar
 | .ag [.v (.bool b),x,y]=>(match zZh x,zZh y with
  | some l,some l2=>some (.r ⟨b,l,l2⟩)
  | _,_=>none)
 | t=>arT t
noncomputable def zSg:List T→Option (List Ar)
 | []=>some []
 | t::l=>match arX t,zSg l with
  | some a,some r=>some (a::r)
  | _,_=>none
noncomputable def unX:Ar→T
 | .r a=> .ag [.v (.bool a.neg),.ls .a .lim a.ln,.ls .a .lim a.ld]
 | .i n=> .v (.int .i64 n)
 | .b b=> .v (.bool b)
 | .s s=> .v (.string s)
noncomputable def jAo:Rs→T
 | .one a=>unX a
 | .tup l=> .tu (l.map unX)
variable {X:Hid}{w:World}
theorem qXt{g:Tg}{l:List Nat}{v:Value}(h:Rep B (rd w X) (.ls g .lim l) v):∃ad n c,v= .slice ad n c∧zN (rd w X) ad n c l:=by
 obtain⟨ad,c,rfl,hn,C,hh⟩:=h.lsI;refine⟨ad,_,c,rfl,rfl,hn,C,?_,?_⟩
 ·rcases hh with rfl | ⟨b,o,rfl,_,k⟩
  ·intro x q;cases q
  ·intro x q;obtain⟨i,A⟩:=List.getElem?_of_mem q;obtain⟨vs,_,y,_⟩:=k i x A;exact y.2
 ·rcases hh with rfl | ⟨b,o,rfl,_,k⟩
  ·exact .inl rfl
  ·refine .inr ⟨b,o,rfl,fun j v hv=>?_⟩;simp only[U32,List.getElem?_map]at hv;cases q:l[j]? with
   | none=>rw[q]at hv;cases hv
   | some x=>
    rw[q]at hv;cases hv;obtain⟨vs,g1,y,z⟩:=k j x q;obtain⟨rfl,_⟩:=y;have:=z 0 _ rfl;rw[jO];have e:o+(j*Ty.lim.size+0)=o+j:=by show o+(j*1+0)=o+j;omega
    rwa[e]at this
theorem qEx{ad:Option Addr}{n c:Nat}{l:List Nat}(h:zN (rd w X) ad n c l):Rep B (rd w X) (.ls .a .lim l) (.slice ad n c):=by
 have e:=h.hlen;subst e;refine .ls ⟨ad,c,rfl,h.hcap,h.hbig,?_⟩;rcases h.hat with rfl | ⟨b,o,rfl,ha⟩
 ·exact .inl rfl
 ·refine .inr ⟨b,o,rfl,Bm.In.any,fun i x q=>⟨[.int .u32 (.ofNat x)],rfl,⟨rfl,h.hlt x (List.mem_of_getElem? q)⟩,fun j v hv=>?_⟩⟩;cases j with
  | succ j=>simp at hv
  | zero=>
   cases hv;have:=ha i (.int .u32 (.ofNat x)) (by simp only[U32,List.getElem?_map,q];rfl)
   rw[jO]at this;have e:o+(i*Ty.lim.size+0)=o+i:=by show o+(i*1+0)=o+i;omega
   rwa[e]
theorem zWe{t:T}{l:List Nat}{v:Value}(h:zZh t=some l)(e:Rep B (rd w X) t v):∃ad n c,v= .slice ad n c∧zN (rd w X) ad n c l:=by
 unfold zZh at h;split at h
 ·cases h;exact qXt e
 ·exact zMo h e
theorem qSv{t:T}{a:Ar}{v:Value}(h:arX t=some a)(z:Rep B (rd w X) t v):ArV X w a v:=by
 unfold arX at h;split at h
 ·rename_i b x y;cases e:zZh x with
  | none=>simp[e]at h
  | some l=>
   cases j:zZh y with
   | none=>simp[e,j]at h
   | some l2=>
    simp only[e,j,za]at h;subst h;obtain⟨vs,rfl,q⟩:=z.agI;match vs,q with
    | [N,U,V],⟨g1,A,C,_⟩=>
     obtain⟨rfl,_⟩:=g1.vI;obtain⟨a1,J,G,rfl,k1⟩:=zWe e A;obtain⟨a2,M,I,rfl,k2⟩:=zWe j C;exact⟨_,_,_,_,_,_,rfl,k1,k2⟩
 ·exact qBv h z
theorem zLq:∀{ts:List T}{az:List Ar}{vs:List Value},zSg ts=some az→zO B (rd w X) ts vs→zRt X w az vs
 | [],az,[],h,_=>by simp[zSg]at h;subst h;trivial
 | t::ts,az,v::vs,h,e=>by
  simp only[zSg]at h;cases j:arX t with
  | none=>simp[j]at h
  | some a=>
   cases q:zSg ts with
   | none=>simp[j,q]at h
   | some r=>
    simp only[j,q,za]at h;subst h;exact⟨qSv j e.1,zLq q e.2⟩
 | [],_,_::_,_,e=>e.elim
 | _::_,_,[],_,e=>e.elim
theorem qIm{a:Ar}{v:Value}(h:ArV X w a v):Rep B (rd w X) (unX a) v:=by
 cases a with
 | r a=>
  obtain⟨_,_,_,_,_,_,rfl,e,j⟩:=h;exact Rep.mkAg (vs:=[.bool a.neg,_,_]) ⟨.v rfl,qEx e,qEx j,trivial⟩
 | i n=>cases h;exact .v rfl
 | b b=>cases h;exact .v rfl
 | s s=>cases h;exact .v rfl
theorem zXz:∀{az:List Ar}{vs:List Value},zRt X w az vs→zO B (rd w X) (az.map unX) vs
 | [],[],_=>trivial
 | _::_,_::_,h=>⟨qIm h.1,zXz h.2⟩
 | [],_::_,h=>h.elim
 | _::_,[],h=>h.elim
theorem zXy{y:Rs}{v:Value}(h:RsV X w y v):Rep B (rd w X) (jAo y) v:=by
 cases y with
 | one a=>exact qIm h
 | tup l=>
  obtain⟨vs,rfl,h⟩:=h;exact Rep.mkTu (zXz h)
noncomputable def kcD(p:List Ar→Option Rs)(nw:Bool)(az:List T):DT (T×Bool):=match zSg az with
 | some az=>(ofO (p az)).bind fun y=> .ret (jAo y,nw)
 | none=> .no
theorem sP{p:List Ar→Option Rs}{nw j:Bool}(J:KC P f p nw):∀az tv,(kcD p nw az).run=some (tv,j)→∀k,KnP P k f az tv j:=by
 intro az tv h k;unfold kcD at h;split at h
 ·rename_i q A;obtain⟨y,z,C⟩:=zM h;rw[xR]at z;cases C;intro B w X qO R _ _ I G M;refine(J w X I q qO (zLq A G) y z).mono ?_;rintro e w' ⟨N,v,rfl,hv⟩;exact M v w' N (zXy hv)
 ·cases h
end
end Go.Ev

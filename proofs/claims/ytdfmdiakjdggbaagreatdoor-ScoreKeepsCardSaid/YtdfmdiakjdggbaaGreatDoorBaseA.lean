import Derived.WalkKit
import Derived.KernelRfl
import Derived.OrdersHeld
import Derived.Deep.RegionHeld3
import Derived.TacticsIn
import Derived.RangeFuncOwn
import Derived.RangeFuncLeaves
import Derived.RangeFuncCalls
import Derived.Scope
import Derived.ProofKit
import Derived.SizedLaws
set_option linter.unusedVariables false
set_option linter.unusedSimpArgs false
set_option linter.unnecessarySimpa false
namespace Go
abbrev za:=@Option.some.injEq
abbrev zd:=@Bool.and_eq_true
abbrev ze:=@cond_true
abbrev zf:=@cond_false
abbrev zg:=@Go.Result.andThen_ok
abbrev zh:=@List.getElem?_eq_some_iff
abbrev zk:=@Go.Sem.run_bind
abbrev zm:=@Go.Sem.run_pure
abbrev zp:=@List.getD_eq_getElem?_getD
abbrev zq:=@Nat.le_refl
abbrev zu:=@Bool.not_true
abbrev zy:=@Array.getElem?_eq_some_iff
abbrev z6:=@List.mem_cons_of_mem
abbrev z7:=@Prod.mk.injEq
abbrev z8:=@Nat.lt_of_lt_of_le
abbrev qS:=@List.mem_cons_self
abbrev qT:=@List.eq_nil_of_length_eq_zero
abbrev qa:=@List.all_eq_true
abbrev qb:=@List.getElem?_eq_none
abbrev qf:=@List.length_cons
abbrev qg:=@Nat.lt_or_ge
abbrev qh:=@List.getElem?_append_left
abbrev qi:=@List.getElem?_take
abbrev qj:=@List.mem_cons
abbrev qk:=@List.mem_of_getElem?
abbrev ql:=@Nat.zero_add
abbrev qm:=@if_neg
abbrev qn:=@if_pos
abbrev qo:=@List.length_append
abbrev qp:=@Nat.eq_of_beq_eq_true
abbrev qq:=@Bool.not_eq_true'
abbrev qr:=@Go.run_program
abbrev qt:=@List.append_assoc
abbrev qu:=@Nat.zero_le
abbrev qw:=@List.getElem?_map
abbrev qx:=@Nat.le_trans
abbrev qy:=@Bool.not_false
abbrev qz:=@Nat.blt_eq
abbrev q6:=@Nat.mul_le_mul_right
abbrev q8:=@Option.some.inj
abbrev ja:=@Nat.add_mul
abbrev jc:=@of_decide_eq_true
abbrev jd:=@Nat.pow_succ
abbrev je:=@Nat.le_of_ble_eq_true
abbrev jf:=@Bool.and_self
abbrev jg:=@Go.getD_set_ne
abbrev ji:=@Nat.pow_le_pow_right
abbrev jj:=@List.take_append_drop
abbrev jk:=@List.getElem?_append_right
abbrev jl:=@List.map_cons
abbrev jm:=@List.getElem?_drop
abbrev jn:=@List.getElem?_eq_getElem
abbrev jo:=@List.length_take
abbrev jp:=@Nat.eq_zero_or_pos
abbrev jq:=@Nat.lt_of_le_of_lt
abbrev jr:=@List.getElem?_of_mem
abbrev jt:=@Option.getD_some
abbrev ju:=@congrArg
abbrev jv:=@List.take_of_length_le
abbrev jw:=@List.append_nil
abbrev jy:=@List.getElem?_set_ne
abbrev jz:=@List.take_length
abbrev j0:=@Array.ext'
abbrev j3:=@List.getElem_mem
abbrev j5:=@Bool.eq_iff_iff
abbrev j7:=@if_true
abbrev j9:=@List.drop_eq_getElem_cons
abbrev kB:=@List.nil_append
abbrev kO:=@List.map_nil
abbrev kb:=@List.map_toArray
abbrev kf:=@Nat.pow_add
abbrev kg:=@Nat.min_eq_left
abbrev ki:=@Nat.mod_eq_of_lt
abbrev kj:=@List.ext_getElem?
abbrev km:=@Nat.not_lt
abbrev kn:=@decide_eq_true
abbrev kp:=@Int.le_refl
abbrev ku:=@List.length_map
abbrev kx:=@Go.cell_of_row
abbrev k8:=@Go.World.block_lt_of_cell?
abbrev k9:=@List.mem_append_left
abbrev xc:=@Array.getElem?_setIfInBounds_ne
abbrev xd:=@List.drop_zero
abbrev xe:=@Array.length_toList
abbrev xh:=@List.length_nil
abbrev xi:=@Bool.false_eq_true
abbrev xj:=@List.length_drop
abbrev xo:=@Go.mem_ready
abbrev xp:=@Bool.true_and
abbrev xq:=@Nat.add_assoc
abbrev xt:=@Int.natCast_mul
abbrev xw:=@List.nodup_cons
abbrev xx:=@Nat.mul_le_mul_left
abbrev xz:=@Nat.add_comm
abbrev x5:=@List.all_cons
abbrev x6:=@Nat.mul_assoc
abbrev x7:=@List.any_eq_true
abbrev x8:=@List.cons_append
abbrev vA:=@List.mem_singleton
abbrev vd:=@Nat.pos_of_ne_zero
abbrev vm:=@List.perm_middle
abbrev vr:=@Option.bind_some
abbrev vu:=@Array.getElem?_eq_none
abbrev vv:=@List.length_eq_one_iff
abbrev vw:=@Nat.one_mul
abbrev vx:=@BitVec.toNat_ofNat
abbrev wa:=@Nat.gcd_comm
abbrev wb:=@List.mem_append
abbrev wc:=@Nat.two_pow_pos
abbrev we:=@decide_eq_false
abbrev wh:=@Go.frozen_of_row
abbrev wi:=@if_false
abbrev wj:=@Int.toNat_natCast
abbrev wk:=@List.getElem?_set
abbrev wm:=@List.mem_of_mem_take
abbrev wn:=@Go.Region.noSelect_spec
abbrev wv:=@List.mem_map
abbrev ww:=@Nat.div_eq_of_lt
abbrev wx:=@Nat.gcd_pos_of_pos_right
abbrev wy:=@Nat.pow_lt_pow_iff_right
abbrev wz:=@List.take_succ_cons
abbrev yW:=@Go.World.putObj_heap_other
abbrev yb:=@Nat.sub_add_cancel
abbrev yc:=@Nat.mul_add
abbrev yh:=@List.mapM_cons
abbrev yj:=@Nat.add_zero
abbrev yp:=@Nat.zero_mul
abbrev yq:=@Go.run_underlying
abbrev yr:=@Nat.two_pow_add_eq_or_of_lt
abbrev yt:=@Nat.add_mul_div_left
abbrev yu:=@Nat.pow_lt_pow_right
abbrev yw:=@Go.Region.free_spec
abbrev yx:=@Array.toList_setIfInBounds
abbrev yy:=@Int.neg_mul
abbrev yz:=@Nat.mul_one
abbrev y0:=@Nat.pow_mul
abbrev y5:=@Go.callsIn_of_wp_marks
abbrev y6:=@List.mem_or_eq_of_mem_set
abbrev y7:=@Array.setIfInBounds_comm
abbrev uA:=@List.set_cons_succ
abbrev uB:=@Nat.le_of_lt
abbrev uC:=@Nat.xor_lt_two_pow
abbrev uD:=@Go.grownCap_le_maxLen
abbrev uE:=@Go.setRow_other
abbrev uF:=@Bool.false_and
abbrev uG:=@List.take_left
abbrev uH:=@Nat.testBit_or
abbrev uI:=@List.getElem?_cons_succ
abbrev uK:=@Go.DataW.weights_mem_each
abbrev uM:=@Nat.mul_pos
abbrev uN:=@Go.World.putObj_heap_same
abbrev uP:=@Array.all_eq_true_iff_forall_mem
abbrev uR:=@Nat.testBit_eq_decide_div_mod_eq
abbrev uS:=@Array.mem_of_getElem?
abbrev uT:=@List.mem_append_right
abbrev uY:=@List.mem_of_mem_drop
abbrev ua:=@Nat.div_add_mod
abbrev ub:=@Nat.mod_lt
abbrev ud:=@Nat.mul_comm
abbrev uh:=@Go.run_endRound
abbrev ui:=@Rat.mkRat_add_mkRat
abbrev uj:=@List.take_zero
abbrev uk:=@Nat.div_one
abbrev ur:=@Int.ofNat_sub
abbrev ut:=@Rat.num_mkRat
abbrev uv:=@List.length_range
abbrev uw:=@List.mapM_toArray
abbrev ux:=@List.size_toArray
abbrev uy:=@Nat.gcd_zero_left
abbrev uz:=@Nat.or_lt_two_pow
abbrev u4:=@decide_eq_true_eq
abbrev u6:=@not_true_eq_false
abbrev gR:=@beq_iff_eq
abbrev gh:=@List.mem_flatMap
abbrev gj:=@Nat.gcd_dvd_left
abbrev gu:=@Go.execOp_congr
abbrev hU:=@Go.run_takeDeferred
abbrev fR:=@Nat.exists_eq_add_of_le
abbrev fS:=@Option.bind_eq_some_iff
abbrev fY:=@Nat.and_le_left
abbrev fa:=@Nat.div_lt_self
abbrev fc:=@Nat.mod_add_div
abbrev fe:=@Option.map_none
abbrev fh:=@Go.wpIn_cond_false
abbrev fk:=@Nat.div_div_eq_div_mul
abbrev fm:=@Nat.one_le_iff_ne_zero
abbrev fq:=@Go.grownCap_ge
abbrev ft:=@Array.getElem?_toList
abbrev da:=@Rat.zero_mkRat
abbrev db:=@Go.run_append_nil
abbrev dd:=@Go.wpIn_cond_true
abbrev dj:=@and_self
abbrev dk:=@not_exists
abbrev dm:=@Go.ready_mono
abbrev dr:=@Rat.den_mkRat
abbrev d8:=@Bool.true_or
abbrev cC:=@List.map_set
abbrev cF:=@List.set_set
abbrev cH:=@Nat.le_of_eq
abbrev cI:=@Nat.pow_zero
end Go
namespace Go.Gv
open Go.RowKit IntKind
theorem kr{p:Prop}(h:p:=by kernel_rfl):p:=h
theorem kw{α:Type}{p:α→Prop}(h:∀w,p w:=by intro w;kernel_rfl):∀w,p w:=h
theorem ir{p:Prop}(h:p:=by first | exact .inl rfl | exact .inr rfl):p:=h
def sJ:List (Nat×Value)→Nat→Value
 | [],_=>undef
 | (k,v)::l,t=>bif Nat.beq k t then v else sJ l t
def has:List (Nat×Value)→Nat→Bool
 | [],_=>false
 | (k,_)::l,t=>bif Nat.beq k t then true else has l t
structure Fr(n:Nat)(a:Act)(L:List (Nat×Value))(D:List Deferred:=[]):Prop where
 size:a.tmps.size=n
 defers:a.defers=D
 get:∀t,has L t=true→a.tmps[t]?=some (sJ L t)
def evL(L:List (Nat×Value)):Operand→Value
 | .tmp t=>sJ L t
 | .const v=>v
 | .global g=> .pointer (some ⟨g,0,none⟩)
 | .func f=> .func (.func f) #[] #[]
def cov(L:List (Nat×Value)):Operand→Bool
 | .tmp t=>has L t
 | _=>true
def zMm(L:List (Nat×Value)):List Operand→Bool
 | []=>true
 | x::xs=>cov L x&&zMm L xs
theorem fF{L:List (Nat×Value)}:∀{xs:List Operand},zMm L xs=true→∀x∈xs,cov L x=true
 | [],_,x,h=>by cases h
 | y::ys,f,x,h=>by
  simp only[zMm,zd]at f;rcases qj.1 h with rfl | h
  ·exact f.1
  ·exact fF f.2 x h
theorem Fr.getD{n:Nat}{a:Act}{L:List (Nat×Value)}{D:List Deferred}(h:Fr n a L D){t:Nat}(ht:has L t=true):a.tmps.getD t undef=sJ L t:=by
 have:=h.get t ht;simp[this]
theorem Fr.eval{n:Nat}{a:Act}{L:List (Nat×Value)}{D:List Deferred}(h:Fr n a L D){x:Operand}(f:cov L x=true):a.eval x=evL L x:=by
 cases x with
 | tmp t=>exact h.getD f
 | _=>rfl
theorem Fr.put{n:Nat}{a:Act}{L:List (Nat×Value)}{D:List Deferred}(h:Fr n a L D){d:Nat}(hd:d<n)(v:Value):Fr n (a.put (some d) v) ((d,v)::L) D:=by
 refine⟨by simpa[Act.put]using h.size,h.defers,fun t ht=>?_⟩
 simp only[Act.put,sJ,has]at *;by_cases e:d=t
 ·subst e;have hlt:d<a.tmps.size:=by rw[h.size];exact hd
  simp[hlt]
 ·have f:Nat.beq d t=false:=by
   cases f:Nat.beq d t
   ·rfl
   ·exact absurd (qp f) e
  rw[f]at ht ⊢;simp only[zf]at ht ⊢;rw[xc e];exact h.get t ht
def keep(L:List (Nat×Value)):List Nat→List (Nat×Value)
 | []=>[]
 | t::f=>(t,sJ L t)::keep L f
def aO(L:List (Nat×Value)):List Nat→Bool
 | []=>true
 | t::f=>has L t&&aO L f
theorem Fr.keep{n:Nat}{a:Act}{L:List (Nat×Value)}{D:List Deferred}(h:Fr n a L D):∀(f:List Nat),aO L f=true→Fr n a (keep L f) D
 | [],_=>⟨h.size,h.defers,fun t ht=>by cases ht⟩
 | s::f,j=>by
  simp only[aO,zd]at j;have F:=h.keep f j.2;refine⟨h.size,h.defers,fun t ht=>?_⟩;simp only[Gv.keep,sJ,has]at *;cases C:Nat.beq s t with
  | true=>
   have:=qp C;subst this;simpa using h.get s j.1
  | false=>
   rw[C]at ht;simpa using F.get t (by simpa using ht)
theorem Fr.as{n:Nat}{a:Act}{L:List (Nat×Value)}{D:List Deferred}(h:Fr n a L D)(f:List Nat){j:List (Nat×Value)}(C:aO L f=true)(e:Gv.keep L f=j):Fr n a j D:=e▸h.keep f C
def zQw:Op→Bool
 | .select .. =>false
 | _=>true
theorem lN{o:Op}(h:zQw o=true):∀f b,o≠.select f b:=fun f b e=>by rw[e]at h;cases h
def nQ(L:List (Nat×Value))(o:Oper):Bool:=zQw o.op&&zMm L o.op.operands.toList
theorem Fr.exec{n:Nat}{a:Act}{L:List (Nat×Value)}{D:List Deferred}(h:Fr n a L D){o:Oper}(f:nQ L o=true):execOp a.eval o=execOp (evL L) o:=by
 simp only[nQ,zd]at f;exact gu o (lN f.1) fun x j=>h.eval (fF f.2 x (by simpa using j))
def kD(ops:Array Oper)(L:List (Nat×Value))(o:Oper)(f:Bool):Bool:=
 match o.guard with
 | none=>f
 | some (j,b)=>match(ops[j]?).bind (·.dst)with
  | some t=>has L t&&(match sJ L t with | .bool c=>(c==b)==f | .tuple _=>!f | _=>false)
  | none=>false
theorem Fr.wanted{n:Nat}{a:Act}{L:List (Nat×Value)}{D:List Deferred}(h:Fr n a L D){ops:Array Oper}{o:Oper}{f:Bool}(F:kD ops L o f=true):Region.wanted o (yielded ops a.tmps)=f:=by
 unfold kD at F;unfold Region.wanted;cases J:o.guard with
 | none=>simp only[J]at F;simp[F]
 | some p=>
  obtain⟨j,b⟩:=p;simp only[J]at F;cases hd:(ops[j]?).bind (·.dst)with
  | none=>simp[hd]at F
  | some t=>
   simp only[hd,zd]at F;have G:=h.get t F.1;have C:=F.2;simp only[yielded,hd,vr,G];split at C
   ·rename_i c I;rw[I];simp only[gR]at C ⊢;cases c<;>cases b<;>cases f<;>simp_all
   ·rename_i I;rw[I];simpa using C
   ·cases C
def aC(o:Oper)(d n:Nat):Bool:=(match o.dst with | some t=>Nat.beq t d | none=>false)&&Nat.blt d n
theorem qK{o:Oper}{d n:Nat}(h:aC o d n=true):o.dst=some d∧d<n:=by
 simp only[aC,zd]at h;obtain⟨f,j⟩:=h;refine⟨?_,by simpa[qz]using j⟩
 cases hd:o.dst with
 | none=>rw[hd]at f;cases f
 | some t=>rw[hd]at f;exact ju some (qp f)
def chk(ops:Array Oper)(L:List (Nat×Value))(o:Oper)(d n:Nat):Bool:=kD ops L o true&&(nQ L o&&aC o d n)
section
variable {P:Program}{ops:Array Oper}{Q:Exit→Act→World→Prop}{a:Act}{w:World}{rest:List Oper}{o:Oper}{n d:Nat}{L:List (Nat×Value)}{D:List Deferred}
end
abbrev Hid:=Nat→Nat→Prop
abbrev Rd:=Addr→Option Value
open Classical in
noncomputable def rd(w:World)(Y:Hid):Rd:=fun a=>if Y a.block a.off∨w.frozen? a=true then none else w.cell? a
def Le(r f:Rd):Prop:=∀a v,r a=some v→f a=some v
theorem Le.refl(r:Rd):Le r r:=fun _ _ h=>h
theorem Le.trans{r s t:Rd}(h:Le r s)(k:Le s t):Le r t:=fun a v e=>k a v (h a v e)
theorem Le2{r0 f j:Rd}(a0:Le r0 f)(C:Le f j):Le r0 j:=a0.trans C
theorem Le3{r0 f j C:Rd}(a0:Le r0 f)(F:Le f j)(G:Le j C):Le r0 C:=(Le2 a0 F).trans G
theorem Le4{r0 f j C F:Rd}(a0:Le r0 f)(G:Le f j)(I:Le j C)(J:Le C F):Le r0 F:=(Le3 a0 G I).trans J
theorem Le5{r0 f j C F G:Rd}(a0:Le r0 f)(I:Le f j)(J:Le j C)(N:Le C F)(O:Le F G):Le r0 G:=(Le4 a0 I J N).trans O
theorem Le6{r0 f j C F G I:Rd}(a0:Le r0 f)(J:Le f j)(N:Le j C)(O:Le C F)(R:Le F G)(U:Le G I):Le r0 I:=(Le5 a0 J N O R).trans U
theorem Le7{r0 f j C F G I J:Rd}(a0:Le r0 f)(N:Le f j)(O:Le j C)(R:Le C F)(U:Le F G)(V:Le G I)(W:Le I J):Le r0 J:=(Le6 a0 N O R U V).trans W
theorem Le8{r0 f j C F G I J N:Rd}(a0:Le r0 f)(O:Le f j)(R:Le j C)(U:Le C F)(V:Le F G)(W:Le G I)(Z:Le I J)(a7:Le J N):Le r0 N:=(Le7 a0 O R U V W Z).trans a7
theorem Le9{r0 f j C F G I J N O:Rd}(a0:Le r0 f)(R:Le f j)(U:Le j C)(V:Le C F)(W:Le F G)(Z:Le G I)(a6:Le I J)(a7:Le J N)(a8:Le N O):Le r0 O:=(Le8 a0 R U V W Z a6 a7).trans a8
theorem Le10{r0 j C F G I J N O R f:Rd}(a0:Le r0 j)(U:Le j C)(V:Le C F)(W:Le F G)(Z:Le G I)(a5:Le I J)(a6:Le J N)(a7:Le N O)(a8:Le O R)(a9:Le R f):Le r0 f:=(Le9 a0 U V W Z a5 a6 a7 a8).trans a9
theorem qKq{r0 F G I J N O R U V f j:Rd}(a0:Le r0 F)(W:Le F G)(Z:Le G I)(a3:Le I J)(a4:Le J N)(a5:Le N O)(a6:Le O R)(a7:Le R U)(a8:Le U V)(a9:Le V f)(C:Le f j):Le r0 j:=(Le10 a0 W Z a3 a4 a5 a6 a7 a8 a9).trans C
theorem qUg{r0 I J N O R U V W Z f j C:Rd}(a0:Le r0 I)(a1:Le I J)(a2:Le J N)(a3:Le N O)(a4:Le O R)(a5:Le R U)(a6:Le U V)(a7:Le V W)(a8:Le W Z)(a9:Le Z f)(F:Le f j)(G:Le j C):Le r0 C:=(qKq a0 a1 a2 a3 a4 a5 a6 a7 a8 a9 F).trans G
theorem Le13{r0 N O R U V W Z r8 r9 f j C F:Rd}(a0:Le r0 N)(a1:Le N O)(a2:Le O R)(a3:Le R U)(a4:Le U V)(a5:Le V W)(a6:Le W Z)(a7:Le Z r8)(a8:Le r8 r9)(a9:Le r9 f)(G:Le f j)(I:Le j C)(J:Le C F):Le r0 F:=(qUg a0 a1 a2 a3 a4 a5 a6 a7 a8 a9 G I).trans J
theorem yO{w:World}{Y:Hid}{a:Addr}{v:Value}(h:rd w Y a=some v):w.cell? a=some v:=by
 unfold rd at h;split at h
 ·cases h
 ·exact h
theorem tF{w:World}{Y:Hid}{a:Addr}{v:Value}(h:rd w Y a=some v):¬Y a.block a.off:=by
 unfold rd at h;split at h
 ·cases h
 ·rename_i f;exact fun e=>f (.inl e)
theorem aY{w:World}{Y:Hid}{a:Addr}{v:Value}(h:rd w Y a=some v):w.frozen? a=false:=by
 unfold rd at h;split at h
 ·cases h
 ·rename_i f;cases j:w.frozen? a
  ·rfl
  ·exact absurd (.inr j) f
theorem pF{w:World}{Y:Hid}{a:Addr}{v:Value}(h:w.cell? a=some v)(j:¬Y a.block a.off)(f:w.frozen? a=false):rd w Y a=some v:=by
 unfold rd;rw[qm (fun e=>e.elim j fun e=>by rw[f]at e;cases e)];exact h
theorem zFm{w w':World}{Y f:Hid}{a:Addr}{v:Value}(h:rd w Y a=some v)(j:w'.heap[a.block]?=w.heap[a.block]?)(C:¬f a.block a.off):rd w' f a=some v:=
 pF (by rw[←yO h];simp[World.cell?,j]) C ((World.frozen?_of_block j).trans (aY h))
theorem Le.unhide{w:World}{Y f:Hid}(h:∀k o,f k o→Y k o):Le (rd w Y) (rd w f):=fun _ _ e=>pF (yO e) (fun j=>tF e (h _ _ j)) (aY e)
def orN(Y:Hid)(N:Nat):Hid:=fun k o=>Y k o∨k<N
def old(w:World):Hid:=fun k _=>k<w.heap.size
def At(r:Rd)(a:Addr)(f:List Value):Prop:=∀j v,f[j]?=some v→r (a.add j)=some v
theorem At.mono{r f:Rd}(h:Le r f){a:Addr}{C:List Value}(k:At r a C):At f a C:=fun j v e=>h _ _ (k j v e)
def jC(w:World)(a:Addr)(f:List Value):Prop:=∀j v,f[j]?=some v→w.cell? (a.add j)=some v
theorem At.cells{w:World}{Y:Hid}{a:Addr}{f:List Value}(k:At (rd w Y) a f):jC w a f:=fun j v e=>yO (k j v e)
theorem jT(b o j:Nat):(⟨b,o,none⟩:Addr).add j=⟨b,o+j,none⟩:=by
 unfold Addr.add;split
 ·subst_vars;simp
 ·rfl
theorem add_zero(a:Addr):a.add 0=a:=by simp[Addr.add]
theorem Le.or{w w1:World}{Y C:Hid}(h:Le (rd w Y) (rd w1 C))(N:Nat):Le (rd w (orN Y N)) (rd w1 (orN C N)):=fun a v e=>by
 have j:=h a v (pF (yO e) (fun f=>tF e (.inl f)) (aY e));exact pF (yO j) (fun f=>f.elim (tF j) fun f=>tF e (.inr f)) (aY j)
theorem Le.orr{w:World}{Y:Hid}{N:Nat}:Le (rd w (orN Y N)) (rd w (fun k _=>k<N)):=Le.unhide fun _ _ h=> .inr h
theorem Le.new{w w1:World}{Y:Hid}(hlt:∀k o,Y k o→k<w.heap.size):Le (rd w1 (old w)) (rd w1 Y):=Le.unhide hlt
theorem Le.newN{w w1:World}{Y:Hid}{N:Nat}(hlt:∀k o,Y k o→k<w.heap.size)(f:N≤w.heap.size):Le (rd w1 (old w)) (rd w1 (orN Y N)):=Le.unhide fun k o h=>h.elim (hlt k o) fun h=>z8 h f
theorem Le.own{w w1 C:World}{f j:Hid}{N:Nat}(hlt:∀k o,f k o→k<w.heap.size)(F:N≤w.heap.size)(h:Le (rd w1 f) (rd C j)):Le (rd w1 (old w)) (rd C (orN j N)):=(Le.newN hlt F).trans (h.or N)
structure Upd(E:Nat→Prop)(w w':World):Prop where
 os:w'.os=w.os
 tape:w'.tape=w.tape
 output:w'.output=w.output
 size:w.heap.size≤w'.heap.size
 block:∀k,k<w.heap.size→¬E k→w'.heap[k]?=w.heap[k]?
def E0:Nat→Prop:=fun _=>False
theorem Upd.refl(E:Nat→Prop)(w:World):Upd E w w:=⟨rfl,rfl,rfl,zq _,fun _ _ _=>rfl⟩
theorem Upd.trans{E:Nat→Prop}{a b c:World}(h:Upd E a b)(k:Upd E b c):Upd E a c:=
 ⟨k.os.trans h.os,k.tape.trans h.tape,k.output.trans h.output,qx h.size k.size,fun i f he=>(k.block i (z8 f h.size) he).trans (h.block i f he)⟩
theorem Upd.weaken{E f:Nat→Prop}{a b:World}(h:Upd E a b)(C:∀k,k<a.heap.size→E k→f k):Upd f a b:=
 ⟨h.os,h.tape,h.output,h.size,fun k j he=>h.block k j fun e=>he (C k j e)⟩
theorem Upd.below{w w':World}(h:Upd E0 w w'):Below w.heap.size w w':=⟨h.os,h.tape,h.output,h.size,fun k f=>h.block k f (fun e=>e)⟩
theorem Upd.of_below{w w':World}(h:Below w.heap.size w w'):Upd E0 w w':=⟨h.os,h.tape,h.output,h.size,fun k f _=>h.block k f⟩
theorem Upd.alloc(w:World)(o:Obj):Upd E0 w (w.alloc o):=⟨rfl,rfl,rfl,by simp,fun k f _=>Below.heap_alloc w o k f⟩
theorem Upd.drew(w:World):Upd E0 w w.drew:=⟨rfl,rfl,rfl,zq _,fun _ _ _=>rfl⟩
theorem Upd.le{w w':World}(h:Upd E0 w w')(Y:Hid):Le (rd w Y) (rd w' Y):=fun a _ e=>zFm e (h.block a.block (k8 w a (yO e)) (fun e=>e)) (tF e)
structure St(E:Nat→Prop)(w0:World)(X:Hid)(w:World)(Y:Hid)(M:List (Nat×Obj)):Prop where
 upd:Upd E w0 w
 lt:∀k o,Y k o→k<w.heap.size
 hid:∀k o,X k o→Y k o
 own:∀p∈M,w.heap[p.1]?=some p.2∧(w0.heap.size≤p.1∨E p.1)∧∀o,Y p.1 o
 nd:(M.map (·.1)).Nodup
 ltX:∀k o,X k o→k<w0.heap.size
section
variable {E:Nat→Prop}{w0 w w':World}{X Y:Hid}{M:List (Nat×Obj)}
theorem St.start{w:World}{X:Hid}(f:∀k o,X k o→k<w.heap.size):St E0 w X w X []:=
 ⟨Upd.refl _ _,f,fun _ _ h=>h,fun p hp=>(by cases hp),by simp,f⟩
theorem St.startE{w:World}{X:Hid}(b:Nat)(o:Obj)(j:∀k o,X k o→k<w.heap.size)(C:w.heap[b]?=some o)(f:∀o,X b o):St (·=b) w X w X [(b,o)]:=
 ⟨Upd.refl _ _,j,fun _ _ h=>h,fun p hp=>(by
  rcases vA.1 hp with rfl
  exact⟨C,.inr rfl,f⟩),by simp,j⟩
theorem St.le(h:St E w0 X w Y M):Le (rd w Y) (rd w X):=Le.unhide h.hid
theorem St.get(h:St E w0 X w Y M)(i:Nat){b:Nat}{o:Obj}(f:M[i]?=some (b,o)):w.heap[b]?=some o:=(h.own (b,o) (qk f)).1
theorem St.tail{p:Nat×Obj}(h:St E w0 X w Y (p::M)):St E w0 X w Y M:=
 ⟨h.upd,h.lt,h.hid,fun q f=>h.own q (z6 _ f),(xw.1 (by simpa using h.nd)).2,h.ltX⟩
theorem St.swap{p q:Nat×Obj}(h:St E w0 X w Y (p::q::M)):St E w0 X w Y (q::p::M):=
 ⟨h.upd,h.lt,h.hid,fun x f=>h.own x (by simp at f ⊢;rcases f with h | h | h<;>simp[h]),by
  have:=h.nd;simp only[jl,xw,qj,not_or]at this ⊢;exact⟨⟨fun e=>this.1.1 e.symm,this.2.1⟩,this.1.2,this.2.2⟩,h.ltX⟩
theorem St.call(h:St E w0 X w Y M)(k:Upd E0 w w'):St E w0 X w' Y M:=
 ⟨h.upd.trans (k.weaken fun _ _ e=>e.elim),fun b o F=>z8 (h.lt b o F) k.size,h.hid,fun p hp=>by
  obtain⟨f,j,C⟩:=h.own p hp;exact⟨(k.block p.1 (zy.1 f).1 (fun e=>e)).trans f,j,C⟩,h.nd,h.ltX⟩
def zAy(b:Nat)(Y:Hid):Hid:=fun k o=>k=b∨Y k o
theorem Le.hide_new{w:World}{Y:Hid}(o:Obj):Le (rd w Y) (rd (w.alloc o) (zAy w.heap.size Y)):=fun a v e=>by
 have f:=yO e;have hlt:=k8 w a f;refine zFm e (Below.heap_alloc w o a.block hlt) ?_;rintro(h | h)
 ·omega
 ·exact tF e h
theorem St.alloc(h:St E w0 X w Y M)(o:Obj):St E w0 X (w.alloc o) (zAy w.heap.size Y) ((w.heap.size,o)::M):=
 ⟨h.upd.trans ((Upd.alloc w o).weaken fun _ _ e=>e.elim),fun b j f=>by
   rcases f with rfl | f
   ·simp
   ·have:=h.lt b j f;simp;omega,
  fun k j I=> .inr (h.hid k j I),fun p hp=>by
   rcases qj.1 hp with rfl | hp
   ·exact⟨heap_alloc_new w o,.inl h.upd.size,fun _=> .inl rfl⟩
   ·obtain⟨C,F,G⟩:=h.own p hp;exact⟨(Below.heap_alloc w o p.1 (zy.1 C).1).trans C,F,fun j=> .inr (G j)⟩,
  by
   simp only[jl,xw,h.nd,and_true,wv,dk,not_and];intro p hp e;have:=(zy.1 (h.own p hp).1).1;omega,h.ltX⟩
theorem zDi{l:List Nat}(h:l.Nodup){i j:Nat}{x:Nat}(F:l[i]?=some x)(I:l[j]?=some x):i=j:=by
 obtain⟨G,f⟩:=zh.1 F;obtain⟨J,C⟩:=zh.1 I;exact(List.getElem_inj h).1 (f.trans C.symm)
theorem St.set(h:St E w0 X w Y M)(i:Nat){b:Nat}{o:Obj}(o':Obj)(J:M[i]?=some (b,o))(W:w.heap.size≤w'.heap.size)(O:w'.os=w.os)(ht:w'.tape=w.tape)(I:w'.output=w.output)
  (hb:w'.heap[b]?=some o') (V:∀k,k<w.heap.size→k≠b→w'.heap[k]?=w.heap[k]?):St E w0 X w' Y (M.set i (b,o')):=by
 have G:=qk J;obtain⟨g1,g2,g3⟩:=h.own _ G;have hlt:i<M.length:=(zh.1 J).1;refine⟨⟨O.trans h.upd.os,ht.trans h.upd.tape,I.trans h.upd.output,qx h.upd.size W,fun k hlt C=>?_⟩,
  fun k o hy=>z8 (h.lt k o hy) W,h.hid,fun p hp=>?_,?_,h.ltX⟩
 ·have N:k≠b:=by
   rintro rfl;rcases g2 with g2 | g2
   ·exact absurd hlt (km.2 g2)
   ·exact C g2
  exact(V k (z8 hlt h.upd.size) N).trans (h.upd.block k hlt C)
 ·obtain⟨j,F⟩:=jr hp;rw[wk]at F;split at F
  ·rename_i f;subst f;cases F;exact⟨hb,g2,g3⟩
  ·rename_i f;have R:=qk F;obtain⟨U,Z,f3⟩:=h.own p R;have C:p.1≠b:=by
    intro e;refine f (zDi h.nd (i:=i) (j:=j) (x:=b) ?_ ?_)
    ·rw[qw,J];rfl
    ·rw[qw,F];simp[e]
   exact⟨(V p.1 (zy.1 U).1 C).trans U,Z,f3⟩
 ·have hm:(M.set i (b,o')).map (·.1)=M.map (·.1):=by
   rw[cC];apply kj;intro j;rw[wk];split
   ·rename_i f;subst f;simp only[ku,hlt,j7];rw[qw,J];rfl
   ·rfl
  rw[hm];exact h.nd
theorem St.le_set(h:St E w0 X w Y M)(i:Nat){b:Nat}{o:Obj}(F:M[i]?=some (b,o))(G:∀k,k<w.heap.size→k≠b→w'.heap[k]?=w.heap[k]?):Le (rd w Y) (rd w' Y):=fun a v e=>by
 have C:=yO e;have hlt:=k8 w a C;have f:a.block≠b:=fun j=>tF e (j▸(h.own _ (qk F)).2.2 _);exact zFm e (G a.block hlt f) (tF e)
end
def yJ(c:Array Value)(o:Nat):List Value→Array Value
 | []=>c
 | v::f=>yJ (c.setIfInBounds o v) (o+1) f
theorem nU:∀(f:List Value)(c:Array Value)(o:Nat),(yJ c o f).size=c.size
 | [],_,_=>rfl
 | _::f,c,o=>by rw[yJ,nU f];simp
theorem kQ(P:Program){b:Nat}{T:TypeId}:∀(j:List Value)(c:Array Value)(w:World)(o i:Nat),w.heap[b]?=some (.cells c T (0,0))→(∀v∈j,v.oneCell'=true)→o+i+j.length≤c.size→
  ∃w',(storeCells ⟨b,o,none⟩ j i).run P w= .ok () w'∧w'.os=w.os∧w'.tape=w.tape∧w'.output=w.output∧w'.heap.size=w.heap.size∧
   w'.heap[b]?=some (.cells (yJ c (o+i) j) T (0,0))∧∀k,k≠b→w'.heap[k]?=w.heap[k]?
 | [],c,w,o,i,C,_,_=>⟨w,rfl,rfl,rfl,rfl,rfl,C,fun _ _=>rfl⟩
 | v::j,c,w,o,i,C,I,N=>by
  have hlt:o+i<c.size:=by simp at N;omega
  have f:w.cell? ⟨b,o+i,none⟩=some c[o+i]:=by rw[kx w b (o+i) c T _ C];simp[hlt]
  have G:w.frozen? ⟨b,o+i,none⟩=false:=wh w b _ c T C;have F:(w.setCell ⟨b,o+i,none⟩ v).heap[b]?=some (.cells (c.setIfInBounds (o+i) v) T (0,0)):=heap_setCell_same w b (o+i) c T v C;obtain⟨w',hr,O,R,U,V,W,Z⟩:=kQ P j (c.setIfInBounds (o+i) v) (w.setCell ⟨b,o+i,none⟩ v) o (i+1) F (fun x hx=>I x (z6 _ hx)) (by simp at N ⊢;omega)
  refine⟨w',?_,O,R,U,by rw[V];simp,?_,fun k J=>(Z k J).trans (heap_setCell_other w _ k v J)⟩
  ·unfold storeCells;rw[jT,zk,run_store P w _ v .plain (I v qS)];simp only[f,G];exact hr
  ·rw[W];rfl
def Ret(E:Nat→Prop)(w:World)(Φ:World→Value→Prop):Ending→World→Prop:=fun e w'=>Upd E w w'∧∃v,e= .returned v∧Φ w' v
section
variable {P:Program}{w:World}{ρ:Operand→Value}
def ldT(P:Program)(t:TypeId):Option (Bool×Nat):=
 match P.info? t,P.underlying t with
 | some i,some d=>some ((match d with | .struct _ | .array _ _=>true | _=>false),i.size)
 | _,_=>none
def ldV(f:Bool)(j:List Value):Value:=bif f then .agg j.toArray else j.headD undef
theorem fQ{t:TypeId}{g:Bool}{m:Nat}(h:ldT P t=some (g,m)):∃i d,P.info? t=some i∧P.underlying t=some d∧i.size=m∧(match d with | .struct _ | .array _ _=>true | _=>false)=g:=by
 unfold ldT at h;cases f:P.info? t with
 | none=>simp[f]at h
 | some i=>
  cases hd:P.underlying t with
  | none=>simp[f,hd]at h
  | some d=>
   simp only[f,hd,za,z7]at h;exact⟨i,d,rfl,rfl,h.2,h.1⟩
theorem zLl{t:TypeId}{g:Bool}{m:Nat}(h:ldT P t=some (g,m))(w:World):(isAgg t).run P w= .ok g w:=by
 obtain⟨i,d,j,f,C,F⟩:=fQ h;unfold isAgg underlying;simp only[zk,qr,zg,f,zm];cases d<;>simp_all
theorem run_sizeOf{t:TypeId}{g:Bool}{m:Nat}(h:ldT P t=some (g,m))(w:World):(sizeOf t).run P w= .ok m w:=by
 obtain⟨i,d,f,C,j,F⟩:=fQ h;simp[sizeOf,typeInfo,f,j]
theorem pG{t:TypeId}{g:Bool}{f:List Value}{ad:Addr}(ht:ldT P t=some (g,f.length))(F:g=true∨f.length=1)(j:jC w ad f):
  (loadVar t ad).run P w= .ok (ldV g f) w:=by
 unfold loadVar;simp only[zk,zLl ht,zg];cases g with
 | true=>
  simp only[j7,zk,run_sizeOf ht,zg];rw[run_loadCells_list (P:=P) w ad f j];rfl
 | false=>
  have C:f.length=1:=by simpa using F
  obtain⟨v,rfl⟩:=vv.1 C;have:=j 0 v rfl;rw[add_zero]at this;simp[ldV,this]
theorem zB{o:Oper}{t:TypeId}{x:Operand}{g:Bool}{vs:List Value}{ad:Addr}(ho:o.op= .load t x)(C:ρ x= .pointer (some ad))
  (ht:ldT P t=some (g,vs.length)) (j:g=true∨vs.length=1) (f:jC w ad vs):(execOp ρ o).run P w= .ok (.value (ldV g vs)) w:=by
 unfold execOp;simp only[ho,C,Instr.loadAt,Instr.sureAddr,zk,zm,zg,pG ht j f]
theorem jE{o:Oper}{t e:TypeId}{x j:Operand}{b off len cap:Nat}{kd:IntKind}{i:Int}{g:Bool}{m off':Nat}(ho:o.op= .indexAddr t x j)(ht:P.underlying t=some (.slice e))
  (I:ρ x= .slice (some ⟨b,off,none⟩) len cap) (G:ρ j= .int kd i) (he:ldT P e=some (g,m)) (C:0≤i) (F:i<len) (f:off+i.toNat*m=off') (w:World):
  (execOp ρ o).run P w= .ok (.value (.pointer (some ⟨b,off',none⟩))) w:=by
 unfold execOp;simp only[ho,I,G,Instr.indexAt,asIntOf,underlying,ht,zk,zm,qr,zg,C,F,dj,j7,run_sizeOf he,jT,f]
theorem zSb{o:Oper}{t e:TypeId}{x F:Operand}{ad:Option Addr}{j cap:Nat}{O:IntKind}{i:Int}{C:Nat}{g:Bool}{m:Nat}(ho:o.op= .slice t x none (some F) none)(ht:P.underlying t=some (.slice e))(he:ldT P e=some (g,m))
  (N:ρ x= .slice ad j cap) (f:ρ F= .int O i) (G:0≤i) (I:i≤cap) (J:i.toNat=C) (w:World):
  (execOp ρ o).run P w= .ok (.value (.slice (if cap=0 then ad else ad) C cap)) w:=by
 unfold execOp;have hm:Option.map (fun x:Addr=>x.add (0*m)) ad=ad:=by cases ad<;>simp[Addr.add]
 simp only[ho,N,Instr.sliceAt,Instr.slice,Instr.sliceBounds,Instr.sliceBound,asIntOf,underlying,ht,zk,zm,qr,zg,Option.map_some,fe,f,G,I,dj,j7,run_sizeOf he,hm,J];simp
end
section
variable {P:Program}{E:Nat→Prop}{w0 w:World}{X Y:Hid}{M:List (Nat×Obj)}
theorem St.cells(h:St E w0 X w Y M)(i:Nat){b:Nat}{c:Array Value}{T:TypeId}{fz:Nat×Nat}(G:M[i]?=some (b,.cells c T fz)){f:Nat}{C:List Value}(hv:(c.toList.drop f).take C.length=C):jC w ⟨b,f,none⟩ C:=by
 intro j v F;rw[jT,kx w b _ c T fz (h.get i G)];have hlt:j<C.length:=(zh.1 F).1;rw[←hv,qi,qn hlt,jm]at F;simpa using F
end
section
variable {P:Program}{Q:Exit→Act→World→Prop}{K:Act→World→Prop}{a:Act}{o:Oper}{n d:Nat}{L:List (Nat×Value)}{D:List Deferred}{E:Nat→Prop}{w0 w:World}{X Y:Hid}{M:List (Nat×Obj)}
def opk(L:List (Nat×Value))(o:Oper)(d n:Nat):Bool:=nQ L o&&aC o d n
theorem zE{v:Value}(F:Fr n a L D)(j:opk L o d n=true)(f:(execOp (evL L) o).run P w= .ok (.value v) w)(k:∀C,Fr n C ((d,v)::L) D→K C w):o.wp P a w K Q:=by
 simp only[opk,zd]at j;obtain⟨hd,hlt⟩:=qK j.2;unfold Oper.wp;rw[F.exec j.1,f];show K (a.put o.dst v) w;rw[hd];exact k _ (F.put hlt v)
theorem lS(J:Nat→Value)(j:Obj)(I:Fr n a L D)(C:opk L o d n=true)(N:St E w0 X w Y M)
  (f:∀w,(execOp (evL L) o).run P w= .ok (.value (J w.heap.size)) (w.alloc j))
  (k:∀b w1 F,St E w0 X w1 F ((b,j)::M)→Le (rd w Y) (rd w1 F)→Upd E0 w w1→∀G,Fr n G ((d,J b)::L) D→K G w1):o.wp P a w K Q:=by
 simp only[opk,zd]at C;obtain⟨hd,hlt⟩:=qK C.2;unfold Oper.wp;rw[I.exec C.1,f];show K (a.put o.dst _) _;rw[hd];exact k _ _ _ (N.alloc j) (Le.hide_new j) (Upd.alloc w j) _ (I.put hlt _)
theorem zF{t:TypeId}{U V:Operand}{b off:Nat}{c c':Array Value}{T:TypeId}{v:Value}{g:Bool}{m:Nat}(i:Nat)(J:List (Nat×Obj))(hF:Fr n a L D)(R:(nQ L o&&o.dst.isNone)=true)(C:St E w0 X w Y M)
  (ho:o.op= .store t U V) (ha:evL L U= .pointer (some ⟨b,off,none⟩)) (hv:evL L V=v) (ht:ldT P t=some (g,m)) (hm:v.cells.size=m) (h1:v.cells.toList.all Value.oneCell'=true)
  (f:M[i]?=some (b,.cells c T (0,0))) (I:off+m≤c.size) (F:yJ c off v.cells.toList=c') (j:M.set i (b,.cells c' T (0,0))=J)
  (k:∀w1,St E w0 X w1 Y J→Le (rd w Y) (rd w1 Y)→K a w1):o.wp P a w K Q:=by
 simp only[zd]at R;have hd:o.dst=none:=by cases h:o.dst<;>simp_all
 subst hm;obtain⟨w',hr,W,Z,e3,e4,N,O⟩:=kQ P v.cells.toList c w off 0 (C.get i f) (fun x hx=>qa.1 h1 x hx) (by simpa using I)
 unfold Oper.wp;rw[hF.exec R.1];unfold execOp;simp only[ho,ha,hv,Instr.storeAt,Instr.sureAddr,storeVar,zk,zm,zg,run_sizeOf ht,ne_eq,u6,wi,hr];show K (a.put o.dst undef) w';rw[hd];rw[yj,F]at N;exact k w' (j▸C.set i _ f (cH e4.symm) W Z e3 N (fun k _ G=>O k G)) (C.le_set i f (fun k _ G=>O k G))
theorem kF{R:Operand}{xs:Array Operand}{Z:Array TypeId}{f:FuncId}{cap:Array Value}{vs:Array Value}{Φ:World→Value→Prop}(U:Fr n a L D)(I:opk L o d n=true)(V:St E w0 X w Y M)
  (ho:o.op= .call {callee:= .value R,args:=xs,argTypes:=Z}) (W:evL L R= .func (.func f) #[] cap) (C:xs.map (evL L)++cap=vs)
  (j:∀w,(callFunc f vs).run P w= .ok (.enter f vs) w) (F:Calls P f vs w (Ret E0 w Φ))
  (k:∀v w1,St E w0 X w1 Y M→Le (rd w Y) (rd w1 Y)→Upd E0 w w1→Φ w1 v→∀O,Fr n O ((d,v)::L) D→K O w1):o.wp P a w K Q:=by
 simp only[opk,zd]at I;obtain⟨hd,hlt⟩:=qK I.2;unfold Oper.wp;rw[U.exec I.1];have G:(execOp (evL L) o).run P w= .ok (.enter f vs) w:=by
  unfold execOp;simp only[ho,resolve,W,Deferred.ofValue,zk,zm,zg,invoke];simp only[←C]at j ⊢;simpa using j w
 rw[G];show Calls P f vs w _;refine F.mono ?_;rintro e w1 ⟨J,v,rfl,N⟩;show K (a.put o.dst v) w1;rw[hd];exact k v w1 (V.call J) (J.le Y) J N _ (U.put hlt v)
theorem zBi{fx:Operand}{xs:Array Operand}{ts:Array TypeId}{f:FuncId}{cap:Array Value}{vs:Array Value}{ob:Obj}{b:Nat}{Φ:World→Value→Prop}(i:Nat)(hF:Fr n a L D)(W:opk L o d n=true)(V:St E w0 X w Y M)
  (ho:o.op= .call {callee:= .value fx,args:=xs,argTypes:=ts}) (hf:evL L fx= .func (.func f) #[] cap) (C:xs.map (evL L)++cap=vs)
  (j:∀w,(callFunc f vs).run P w= .ok (.enter f vs) w) (U:M[i]?=some (b,ob)) (N:Calls P f vs w (Ret (·=b) w Φ))
  (k:∀v w1 R,Φ w1 v→w1.heap[b]?=some R→St E w0 X w1 Y (M.set i (b,R))→Le (rd w Y) (rd w1 Y)→∀a1,Fr n a1 ((d,v)::L) D→K a1 w1):o.wp P a w K Q:=by
 simp only[opk,zd]at W;obtain⟨hd,hlt⟩:=qK W.2;unfold Oper.wp;rw[hF.exec W.1];have O:(execOp (evL L) o).run P w= .ok (.enter f vs) w:=by
  unfold execOp;simp only[ho,resolve,hf,Deferred.ofValue,zk,zm,zg,invoke];simp only[←C]at j ⊢;simpa using j w
 rw[O];show Calls P f vs w _;refine N.mono ?_;rintro e w1 ⟨G,v,rfl,hΦ⟩;show K (a.put o.dst v) w1;rw[hd];have J:b<w.heap.size:=(zy.1 (V.get i U)).1;have I:w1.heap[b]?=some w1.heap[b]!:=by
  have:b<w1.heap.size:=z8 J G.size;simp[this]
 exact k v w1 _ hΦ I (V.set i _ U G.size G.os G.tape G.output I (fun k Z F=>G.block k Z F)) (V.le_set i U (fun k Z F=>G.block k Z F)) _ (hF.put hlt v)
end
def kH(S:List (Addr×List Value))(w:World):Prop:=∀p∈S,jC w p.1 p.2
theorem kH.nil(w:World):kH [] w:=fun p hp=>by cases hp
theorem kH.cons{S:List (Addr×List Value)}{w:World}{ad:Addr}{f:List Value}(h:jC w ad f)(k:kH S w):kH ((ad,f)::S) w:=fun p hp=>by
 rcases qj.1 hp with rfl | hp
 ·exact h
 ·exact k p hp
theorem kH.up{S:List (Addr×List Value)}{w w1:World}(h:kH S w)(k:Upd E0 w w1):kH S w1:=fun p hp j v C=>by
 have f:=h p hp j v C;have hlt:=k8 w _ f;rw[←f];simp[World.cell?,k.block _ hlt (fun e=>e)]
theorem kH.get{S:List (Addr×List Value)}{w:World}(h:kH S w)(i:Nat){ad:Addr}{f:List Value}(j:S[i]?=some (ad,f)):jC w ad f:=h (ad,f) (qk j)
section
variable {P:Program}{ops:Array Oper}{Q:Exit→Act→World→Prop}{K:Act→World→Prop}{a:Act}{o:Oper}{n d:Nat}{L:List (Nat×Value)}{D:List Deferred}{E:Nat→Prop}{w0 w:World}{X Y:Hid}{M:List (Nat×Obj)}{S:World→Prop}
end
section
variable {P:Program}{Q:Exit→Act→World→Prop}{K:Act→World→Prop}{a:Act}{n:Nat}{L:List (Nat×Value)}{D:List Deferred}{w:World}
theorem zA(h:K a w):Exit.then K Q .normal a w:=h
theorem lD(h:Q .ret a w):Exit.then K Q .ret a w:=h
theorem rQ{id:Nat}(h:Q (.exit id) a w):Exit.then K Q (.exit id) a w:=h
theorem yR{id:Nat}(h:Q .normal a w):Exit.inBlock id Q .normal a w:=h
theorem dU{id:Nat}(h:Q .ret a w):Exit.inBlock id Q .ret a w:=h
theorem mH{id:Nat}(h:Q .normal a w):Exit.inBlock id Q (.exit id) a w:=by simp[Exit.inBlock];exact h
theorem zFv{id f:Nat}(j:Nat.beq f id=false)(h:Q (.exit f) a w):Exit.inBlock id Q (.exit f) a w:=by
 have:f≠id:=fun e=>by subst e;simp at j
 simp[Exit.inBlock,this];exact h
def zEa:Nat→List Value→List (Nat×Value)
 | _,[]=>[]
 | i,v::f=>(i,v)::zEa (i+1) f
theorem zKn:∀(f:List Value)(i t:Nat),has (zEa i f) t=true→∃j,t=i+j∧j<f.length∧f[j]?=some (sJ (zEa i f) t)
 | [],i,t,h=>by cases h
 | v::f,i,t,h=>by
  simp only[zEa,has,sJ]at *;cases C:Nat.beq i t with
  | true=>
   have:=qp C;subst this;exact⟨0,rfl,by simp,by simp⟩
  | false=>
   rw[C]at h;obtain⟨j,rfl,F,he⟩:=zKn f (i+1) t (by simpa using h)
   exact⟨j+1,by omega,by simpa using F,by simpa using he⟩
inductive Res (P:Program) (L:List (Nat×Value)) (w:World):List ResultVar→List Value→Prop
  | nil:Res P L w [] []
  | tmp {t:Nat} {rs:List ResultVar} {vs:List Value} (h:has L t=true) (k:Res P L w rs vs):Res P L w (.tmp t::rs) (sJ L t::vs)
  | cell {t:Nat} {T:TypeId} {rs:List ResultVar} {vs:List Value} {ad:Addr} {cs:List Value} {g:Bool} (h:has L t=true) (hl:sJ L t= .pointer (some ad)) (ht:ldT P T=some (g,cs.length)) (hg:g=true∨cs.length=1) (hc:jC w ad cs) (k:Res P L w rs vs):
      Res P L w (.cell t T::rs) (ldV g cs::vs)
def zBo:List Value→Value
 | [v]=>v
 | f=> .tuple f.toArray
def zEj(f:Array Value):ResultVar→Sem Value
 | .tmp t=>pure (f.getD t undef)
 | .cell x t=>do loadVar t (←asAddr (f.getD x undef))
theorem zHz(fn:Func)(f:Array Value):results fn f=(do
 let j ←fn.results.mapM (zEj f)
 pure (if h:j.size=1 then j[0]else .tuple j)):=rfl
theorem zVj{P:Program}{L:List (Nat×Value)}{D:List Deferred}{a:Act}{n:Nat}(j:Fr n a L D){w:World}{C:List ResultVar}{F:List Value}(h:Res P L w C F):
  (C.mapM (zEj a.tmps)).run P w= .ok F w:=by
 induction h with
 | nil=>rfl
 | tmp h k f=>simp only[yh,zk,zm,zg,f,zEj,j.getD h]
 | cell h J ht I G k f=>
  simp only[yh,zk,zm,zg,f,zEj,j.getD h,J,asAddr,pG ht I G]
theorem sN{P:Program}{L:List (Nat×Value)}{D:List Deferred}{a:Act}{n:Nat}(C:Fr n a L D){w:World}{fn:Func}{j:List ResultVar}{f:List Value}(F:fn.results=j.toArray)(h:Res P L w j f):
  (results fn a.tmps).run P w= .ok (zBo f) w:=by
 have:=zVj C h;rw[zHz,F];simp only[zk,uw,Sem.run_map,this,zg];rcases f with _ | ⟨v,_ | ⟨u,f⟩⟩<;>simp[zBo]
theorem zWh{L:List (Nat×Value)}{fn:Func}{R:Ending→World→Prop}{rs:List ResultVar}{j:List Value}{v:Value}(f:Fr n a L)(F:fn.results=rs.toArray)(h:Res P L w rs j)(hv:zBo j=v)(C:R (.returned v) w):bodyPost P fn R .ret a w:=
 ⟨f.defers,v,hv▸sN f F h,C⟩
theorem zPj{L:List (Nat×Value)}{fn:Func}{R:Ending→World→Prop}{rs:List ResultVar}{j:List Value}{v:Value}(f:Fr n a L)(F:fn.results=rs.toArray)(h:Res P L w rs j)(hv:zBo j=v)(C:R (.returned v) w):bodyPost P fn R .normal a w:=
 ⟨f.defers,v,hv▸sN f F h,C⟩
end
def zIa(P:Program)(ops:Array Oper)(n:Nat):Nat→List Oper→List (Nat×Value)→World→Option (List (Nat×Value)×World)
 | 0,_,L,w=>some (L,w)
 | _+1,[],_,_=>none
 | k+1,o::l,L,w=>
  match o.dst with
  | none=>none
  | some d=>
   bif Nat.blt d n then
    bif kD ops L o true then
     bif nQ L o then
      match(execOp (evL L) o).run P w with
      | .ok (.value v) w'=>zIa P ops n k l ((d,v)::L) w'
      | _=>none
     else none
    else bif kD ops L o false then zIa P ops n k l ((d,undef)::L) w
    else none
   else none
theorem Fr.set{n:Nat}{a:Act}{L:List (Nat×Value)}{D:List Deferred}(h:Fr n a L D)(t:Nat){v v':Value}(ht:has L t=true)(hv:sJ L t=v)(e:v=v'):Fr n a ((t,v')::L) D:=by
 refine⟨h.size,h.defers,fun s j=>?_⟩;simp only[sJ,has]at *;cases f:Nat.beq t s with
 | true=>
  have:=qp f;subst this;rw[h.get t ht,hv,e];rfl
 | false=>
  rw[f]at j;simpa using h.get s (by simpa using j)
theorem zAf{x:Int}(f: -9223372036854775808≤x)(j:x≤9223372036854775807):i64.wrap x=x:=IntWalk.i64_in x ⟨f,j⟩
theorem qKk{x:Int}(f:0≤x)(j:x≤4294967295):IntKind.u32.wrap x=x:=IntWalk.u32_in x ⟨f,j⟩
theorem nX{x:Int}(f:0≤x)(j:x≤18446744073709551615):IntKind.u64.wrap x=x:=IntWalk.u64_in x ⟨f,j⟩
theorem wu8{x:Int}(f:0≤x)(j:x≤255):IntKind.u8.wrap x=x:=IntWalk.u8_in x ⟨f,j⟩
theorem yV(x:Int):IntKind.u32.wrap x=x % 4294967296:=by simp[IntKind.wrap,IntKind.bits,IntKind.signed]
theorem lH(x:Int):IntKind.u64.wrap x=x % 18446744073709551616:=by simp[IntKind.wrap,IntKind.bits,IntKind.signed]
theorem wJ(a:Int)(m:Nat){c:Int}(h:(2:Int)^m=c)(f:0≤c):Int.fdiv a (2^m)=a / c:=by rw[h];exact Int.fdiv_eq_ediv_of_nonneg a f
def wV(a b:Int):Int:=IntKind.u32.wrap ((BitVec.ofInt 32 a)&&& (BitVec.ofInt 32 b)).toNat
def rV(a b:Int):Int:=IntKind.u32.wrap ((BitVec.ofInt 32 a)||| (BitVec.ofInt 32 b)).toNat
def wG(a b:Int):Int:=IntKind.u32.wrap ((BitVec.ofInt 32 a)^^^(BitVec.ofInt 32 b)).toNat
theorem bV(a:Nat)(h:a<4294967296):(BitVec.ofInt 32 (a:Int))=BitVec.ofNat 32 a:=by
 have _:=h;simp
theorem aI(a b:Nat)(ha:a<4294967296)(f:b<4294967296):wV a b=((a&&& b:Nat):Int):=by
 unfold wV;rw[bV a ha,bV b f,yV,BitVec.toNat_and,vx,vx,ki (by omega:a<2^32),ki (by omega:b<2^32)]
 have:=fY (n:=a) (m:=b);omega
theorem dV(a b:Nat)(ha:a<4294967296)(f:b<4294967296):rV a b=((a||| b:Nat):Int):=by
 unfold rV;rw[bV a ha,bV b f,yV,BitVec.toNat_or,vx,vx,ki (by omega:a<2^32),ki (by omega:b<2^32)]
 have:a||| b<2^32:=uz (by omega) (by omega)
 omega
theorem aJ(a b:Nat)(ha:a<4294967296)(f:b<4294967296):wG a b=((a^^^b:Nat):Int):=by
 unfold wG;rw[bV a ha,bV b f,yV,BitVec.toNat_xor,vx,vx,ki (by omega:a<2^32),ki (by omega:b<2^32)]
 have:a^^^b<2^32:=uC (by omega) (by omega)
 omega
theorem zQ{k:IntKind}{x y:Int}(h:x=y):Value.int k x= .int k y:=h▸rfl
theorem zK{x y:Bool}(h:x=y):Value.bool x= .bool y:=h▸rfl
theorem zBs{P:Program}{ρ:Operand→Value}{o:Oper}{t e:TypeId}{x j:Operand}{ad:Option Addr}{len cap:Nat}{kd:IntKind}{i:Int}{h':Nat}{g:Bool}{m:Nat}(ho:o.op= .slice t x none (some j) none)(ht:P.underlying t=some (.slice e))(he:ldT P e=some (g,m))
  (I:ρ x= .slice ad len cap) (f:ρ j= .int kd i) (C:0≤i) (F:i≤cap) (G:i.toNat=h') (w:World):
  (execOp ρ o).run P w= .ok (.value (.slice ad h' cap)) w:=by
 rw[zSb ho ht he I f C F G w];simp
def U32(l:List Nat):List Value:=l.map fun(x:Nat)=>Value.int .u32 (x:Int)
@[simp] theorem lJ (l:List Nat):(U32 l).length=l.length:=by simp[U32]
theorem zLz{l:List Nat}{i:Nat}(h:i<l.length):(U32 l)[i]?=some (.int .u32 ((l.getD i 0:Nat):Int)):=by simp[U32,h]
structure zN(r:Rd)(ad:Option Addr)(len cap:Nat)(l:List Nat):Prop where
 hlen:len=l.length
 hcap:len≤cap
 hbig:cap≤9223372036854775807
 hlt:∀x∈l,x<4294967296
 hat:l=[]∨∃b off,ad=some ⟨b,off,none⟩∧At r ⟨b,off,none⟩ (U32 l)
theorem zN.mono{r C:Rd}{ad:Option Addr}{f cap:Nat}{l:List Nat}(h:zN r ad f cap l)(k:Le r C):zN C ad f cap l:=
 ⟨h.hlen,h.hcap,h.hbig,h.hlt,h.hat.imp id fun⟨b,j,e,ha⟩=>⟨b,j,e,ha.mono k⟩⟩
theorem zN.addr{r:Rd}{ad:Option Addr}{f cap:Nat}{l:List Nat}(h:zN r ad f cap l)(F:0<f):∃b j,ad=some ⟨b,j,none⟩∧At r ⟨b,j,none⟩ (U32 l):=by
 rcases h.hat with rfl | C
 ·have:=h.hlen;simp at this;omega
 ·exact C
theorem zN.getD_lt{r:Rd}{ad:Option Addr}{j cap:Nat}{l:List Nat}(h:zN r ad j cap l)(i:Nat):l.getD i 0<4294967296:=by
 by_cases f:i<l.length
 ·have:l.getD i 0=l[i]:=by simp[f]
  rw[this];exact h.hlt _ (j3 f)
 ·have:l.getD i 0=0:=by simp[qb (Nat.le_of_not_lt f)]
  omega
theorem At.one{r:Rd}{b f:Nat}{F:List Value}(h:At r ⟨b,f,none⟩ F){i:Nat}{v:Value}(G:F[i]?=some v):At r ⟨b,f+i,none⟩ [v]:=by
 intro j u C;rcases j with _ | j
 ·simp at C;subst C;rw[jT,yj];have:=h i v G;rwa[jT]at this
 ·simp at C
theorem zN.cell{r:Rd}{b f j cap:Nat}{l:List Nat}(h:zN r (some ⟨b,f,none⟩) j cap l){i:Nat}(C:i<l.length):At r ⟨b,f+i,none⟩ [.int .u32 ((l.getD i 0:Nat):Int)]:=by
 rcases h.hat with rfl | ⟨G,F,e,ha⟩
 ·simp at C
 ·cases e;exact ha.one (zLz C)
def kC(l:List Nat):Nat→Nat
 | 0=>0
 | k+1=>if l.getD k 0=0 then kC l k else k+1
def qV(l:List Nat):Nat:=kC l l.length
theorem rR(l:List Nat):∀k,kC l k≤k
 | 0=>zq _
 | k+1=>by unfold kC;split;have:=rR l k;omega;omega
theorem dN{l:List Nat}{k:Nat}(h:l.getD k 0=0):kC l (k+1)=kC l k:=by rw[kC,qn h]
theorem dM{l:List Nat}{k:Nat}(h:l.getD k 0≠0):kC l (k+1)=k+1:=by rw[kC,qm h]
theorem zEl{l:List Nat}{k:Nat}(f:0<k)(h:l.getD (k-1) 0=0):kC l (k-1)=kC l k:=by
 obtain⟨j,rfl⟩:∃j,k=j+1:=⟨k-1,by omega⟩
 exact(dN h).symm
theorem zEk{l:List Nat}{k:Nat}(f:0<k)(h:l.getD (k-1) 0≠0):kC l k=k:=by
 obtain⟨j,rfl⟩:∃j,k=j+1:=⟨k-1,by omega⟩
 exact dM h
def trimmed(l:List Nat):List Nat:=l.take (qV l)
theorem jP(l:List Nat):(trimmed l).length=qV l:=by
 have:=rR l l.length;simp[trimmed,qV]at *;omega
def val:List Nat→Nat
 | []=>0
 | x::l=>x+4294967296*val l
def zX(l:List Nat):Prop:=l.length=0∨l.getD (l.length-1) 0≠0
def jG(l:List Nat):Int:=if 512<l.length then 4 else if 0<l.length∧l.getD (l.length-1) 0=0 then 2 else 0
theorem pY{l:List Nat}(h:jG l=0):l.length≤512∧zX l:=by
 unfold jG at h;split at h
 ·omega
 ·split at h
  ·omega
  ·refine⟨by omega,?_⟩
   unfold zX;by_cases f:l.length=0
   ·exact .inl f
   ·exact .inr fun e=>by rename_i j;exact j ⟨by omega,e⟩
theorem zN.sub{r:Rd}{ad:Option Addr}{f cap:Nat}{l:List Nat}(h:zN r ad f cap l){k:Nat}(O:k≤f):zN r ad k cap (l.take k):=by
 have J:=h.hlen;have N:=h.hcap;refine⟨by simp;omega,by omega,h.hbig,fun x I=>h.hlt x (wm I),?_⟩
 rcases h.hat with G | ⟨b,F,e,ha⟩
 ·exact .inl (by rw[G];simp)
 ·refine .inr ⟨b,F,e,fun j v C=>ha j v ?_⟩;rw[show U32 (l.take k)=(U32 l).take k by simp[U32],qi]at C
  split at C
  ·exact C
  ·cases C
def FF(r:Option Nat):Fence:={Fence.wide with round:=r}
theorem xD(r:Option Nat)(f:FuncId):(FF r).fn f:=trivial
theorem rT(r:Option Nat)(n:Nat):(FF r).depth.isSome=true→1≤n:=fun h=>by simp[FF,Fence.wide]at h
section
variable {r:Option Nat}{n:Nat}{P:Program}{ops:Array Oper}{Q:Exit→Act→World→Prop}{K:Act→World→Prop}{a:Act}{w:World}{o:Oper}
theorem pW{f:FuncId}{j:Array Value}{R:Ending→World→Prop}:CallsIn (FF r) n P f j w R↔Calls P f j w R:=
 ⟨fun h=>(callsIn_wide (n:=n)).1 (show CallsIn Fence.wide n P f j w R from h),fun h=>show CallsIn Fence.wide n P f j w R from callsIn_wide.2 h⟩
theorem jCj{row:String}{f:Array Value}{R:Value→World→Prop}(h:Rows P row f w R):RowsIn (FF r) n P row f w R:=
 fun c j _=>let⟨v,w',C,s⟩:=h c j;⟨v,w',C,(stepsIn_wide (P:=P)).2 s⟩
def vC:Op→Bool
 | .defer _=>false
 | _=>true
theorem dG(r:Option Nat)(ρ:Operand→Value)(o:Oper)(h:vC o.op=true):Oper.semAt r ρ o=execOp ρ o:=by
 cases r with
 | none=>rfl
 | some l=>exact Oper.semAt_some l ρ o (fun c e=>by rw[e]at h;cases h)
theorem zNs(hd:vC o.op=true)(h:o.wp P a w K Q):o.wpIn (FF r) n P a w K Q:=by
 refine⟨fun f _=>xD r f,?_⟩;show o.uponIn (FF r) n P a K Q ((o.semAt r a.eval).run P w);rw[dG r a.eval o hd];unfold Oper.wp at h;generalize (execOp a.eval o).run P w=x at h;cases x with
 | ok y w1=>
  cases y<;>simp only[Oper.upon,Oper.uponIn]at h ⊢<;>first | exact h | exact h.elim | skip
  case enter f j=>
   refine⟨rT r n,?_⟩;refine CallsIn.mono (pW.2 h) fun e C he=>?_;cases e<;>exact he
  case row row j=>
   exact⟨rT r n,jCj h⟩
 | halt x w1=>cases x<;>simp only[Oper.upon,Oper.uponIn]at h ⊢<;>exact h
theorem zXz(hd:∀(i:Nat)(o:Oper),ops[i]?=some o→vC o.op=true)(j:¬LetsOut Q):∀(l:List Nat)(a:Act)(w:World),wpOps P ops Q l a w→wpOpsIn (FF r) n P ops Q l a w
 | [],a,w,h=>h
 | i::rest,a,w,h=>by
  simp only[wpOps,wpOpsIn]at *;cases ho:ops[i]? with
  | none=>simp only[ho]at h ⊢;exact zXz hd j rest a w h
  | some o=>
   simp only[ho]at h ⊢;split
   ·rename_i C;rw[qn C]at h;rcases h with h | h
    ·exact zNs (hd i o ho) (Oper.wp_mono (fun a w F=>zXz hd j rest a w F) h)
    ·exact absurd h.2 j
   ·rename_i C;rw[qm C]at h;exact⟨fun f _=>xD r f,zXz hd j rest _ w h⟩
variable {nn d:Nat}{L:List (Nat×Value)}{D:List Deferred}{rest:List Oper}{m:Nat}
theorem qX(j:Fr nn a L D)(f:(kD ops L o true&&vC o.op)=true)(h:o.wp P a w (wpListIn (FF r) m P ops Q rest) Q):wpListIn (FF r) m P ops Q (o::rest) a w:=by
 simp only[zd]at f;unfold wpListIn;rw[qn (j.wanted f.1)];exact zNs f.2 h
theorem zDx:∀(k:Nat){l:List Oper}{a:Act}{w w':World}{L I:List (Nat×Value)}{D:List Deferred}(_:Fr nn a L D)(_:l.all (fun o=>vC o.op)=true)(_:zIa P ops nn k l L w=some (I,w'))
  (_:∀W,Fr nn W I D→wpListIn (FF r) m P ops Q (l.drop k) W w'),wpListIn (FF r) m P ops Q l a w
 | 0,l,a,w,w',L,I,D,C,_,j,N=>by
  simp only[zIa,za,z7]at j;obtain⟨rfl,rfl⟩:=j;exact N a C
 | k+1,[],a,w,w',L,I,D,C,_,j,N=>by simp[zIa]at j
 | k+1,o::l,a,w,w',L,I,D,C,O,j,N=>by
  simp only[x5,zd]at O;unfold zIa at j;cases hd:o.dst with
  | none=>simp[hd]at j
  | some d=>
   simp only[hd]at j;cases hlt:Nat.blt d nn with
   | false=>simp[hlt]at j
   | true=>
    simp only[hlt,ze]at j;have J:d<nn:=by simpa[qz]using hlt
    cases R:kD ops L o true with
    | true=>
     simp only[R,ze]at j;cases F:nQ L o with
     | false=>simp[F]at j
     | true=>
      simp only[F,ze]at j;cases V:(execOp (evL L) o).run P w with
      | halt h w1=>simp[V]at j
      | ok x w1=>
       cases x<;>simp only[V]at j<;>try cases j
       rename_i v;refine qX C (by rw[R,O.1];rfl) ?_
       unfold Oper.wp;rw[C.exec F,V];show wpListIn (FF r) m P ops Q l (a.put o.dst v) w1;rw[hd];exact zDx k (C.put J v) O.2 j (by simpa using N)
    | false=>
     simp only[R,zf]at j;cases G:kD ops L o false with
     | false=>simp[G]at j
     | true=>
      simp only[G,ze]at j;have U:=C.wanted G;unfold wpListIn;rw[qm (by rw[U];simp),hd]
      exact⟨fun f _=>xD r f,zDx k (C.put J _) O.2 j (by simpa using N)⟩
theorem zD(k:Nat)(N:List (Nat×Value)){l:List Oper}{a:Act}{w:World}{L:List (Nat×Value)}{D:List Deferred}(j:Fr nn a L D)(F:l.all (fun o=>vC o.op)=true)(G:zIa P ops nn k l L w=some (N++L,w))
  (C:∀f,Fr nn f (N++L) D→wpListIn (FF r) m P ops Q (l.drop k) f w):wpListIn (FF r) m P ops Q l a w:=zDx k j F G C
theorem zLs{U:Operand}{xs:Array Operand}{ts:Array TypeId}{l:Nat}{vs:Array Value}{R:Ending→World→Prop}(J:Fr nn a L D)(I:chk ops L o d nn=true)
  (ho:o.op= .call {callee:= .value U,args:=xs,argTypes:=ts}) (W:evL L U= .func (.yield l) #[] #[]) (C:xs.map (evL L)=vs)
  (hy:YieldAt (FF r) (m-1) P l vs w R) (V:∀e w1,R e w1→∃v,e= .returned v)
  (k:∀v w1,R (.returned v) w1→∀O,Fr nn O ((d,v)::L) D→wpListIn (FF r) m P ops Q rest O w1):wpListIn (FF r) m P ops Q (o::rest) a w:=by
 simp only[chk,zd]at I;obtain⟨hd,hlt⟩:=qK I.2.2;obtain⟨fn,G,assign,body,F,j⟩:=hy;unfold wpListIn;rw[qn (J.wanted I.1)];refine⟨fun f _=>xD r f,?_⟩;have N:vC o.op=true:=by rw[ho];rfl
 show o.uponIn (FF r) m P a _ Q ((o.semAt r a.eval).run P w);rw[dG r a.eval o N,J.exec I.2.1];have Z:(execOp (evL L) o).run P w= .ok (.round l fn G assign body) w:=by
  unfold execOp;simp only[ho,resolve,W,Deferred.ofValue,zk,zm,zg,invoke];simp only[C];simpa using F
 rw[Z];refine⟨rT r m,j.mono fun e w1 he=>?_⟩;obtain⟨v,rfl⟩:=V e w1 he;show wpListIn (FF r) m P ops Q rest (a.put o.dst v) w1;rw[hd];exact k v w1 he _ (J.put hlt v)
end
section
variable {r:Option Nat}{m:Nat}{P:Program}{ops:Array Oper}{Q:Exit→Act→World→Prop}{K:Act→World→Prop}{a:Act}{w:World}{n:Nat}{L:List (Nat×Value)}{D:List Deferred}
theorem zG{x y:Code}(h:∀K:Act→World→Prop,(∀a w,y.wpIn (FF r) m P Q a w→K a w)→x.wpIn (FF r) m P (Exit.then K Q) a w):(Code.seq x y).wpIn (FF r) m P Q a w:=wpIn_seq_k h
theorem wX(h:Q .normal a w):Code.skip.wpIn (FF r) m P Q a w:=wpIn_skip h
theorem zMw{l:Nat}(h:Q .normal a w):(Code.label l).wpIn (FF r) m P Q a w:=wpIn_label h
theorem kE{id:Nat}{c:Code}(h:c.wpIn (FF r) m P (Exit.inBlock id Q) a w):(Code.block id c).wpIn (FF r) m P Q a w:=wpIn_block h
theorem aP{id:Nat}(h:Q (.exit id) a w):(Code.exit id).wpIn (FF r) m P Q a w:=wpIn_exit h
theorem mM(h:Q .ret a w):Code.ret.wpIn (FF r) m P Q a w:=wpIn_ret h
theorem zC{id:Nat}{l:List Oper}(h:wpListIn (FF r) m P l.toArray Q l a w):(Code.region id l.toArray false).wpIn (FF r) m P Q a w:=wpIn_region_lit h
theorem zH(h:Q .normal a w):wpListIn (FF r) m P ops Q [] a w:=h
theorem nP{x y:Code}{c:Operand}(b:Bool)(f:Fr n a L D)(j:cov L c=true)(hv:evL L c= .bool b)(ht:b=true→x.wpIn (FF r) m P Q a w)(C:b=false→y.wpIn (FF r) m P Q a w):(Code.cond c x y).wpIn (FF r) m P Q a w:=
 wpIn_cond_split ((f.eval j).trans hv) ht C
theorem qYp{x y:Code}{c:Operand}(f:Fr n a L D)(j:cov L c=true)(hv:evL L c= .bool true)(h:x.wpIn (FF r) m P Q a w):(Code.cond c x y).wpIn (FF r) m P Q a w:=dd ((f.eval j).trans hv) h
theorem qNh{x y:Code}{c:Operand}(f:Fr n a L D)(j:cov L c=true)(hv:evL L c= .bool false)(h:y.wpIn (FF r) m P Q a w):(Code.cond c x y).wpIn (FF r) m P Q a w:=fh ((f.eval j).trans hv) h
theorem lM{c:Code}{γ:Type}(I:γ→Act→World→Prop)(μ:γ→Nat)(g0:γ)(Z:I g0 a w)
  (round:∀g a w,I g a w→c.wpIn (FF r) m P (Exit.then (fun R w'=>∃W,I W R w'∧μ W<μ g) Q) a w):(Code.loop c).wpIn (FF r) m P Q a w:=by
 intro b k cs hro hb hr;have key:∀j g a w,μ g=j→I g a w→
   ∃e R w',Q e R w'∧ArrivesIn (Machine.fenced P (FF r)) P (lone (b.atR a (.code c::.inLoop c::k)) cs w) b k cs e R w':=by
  intro j;induction j using Nat.strongRecOn with
  | _ j ih=>
   intro g a w hn hI;obtain⟨e,C,F,J,f⟩:=round g a w hI b (.inLoop c::k) cs hro hb hr;cases e with
   | normal=>
    obtain⟨W,N,hlt⟩:=J;obtain⟨V,U,w₂,O,G⟩:=ih (μ W) (hn▸hlt) W C F rfl N;exact⟨V,U,w₂,O,.of_steps (StepsIn.trans f (.one (fenced_calm hb hr rfl) stepR_inLoop)) G⟩
   | exit id=>exact⟨_,C,F,J,.pass (x:= .inLoop c) rfl (fun _ _=> .inl (by simp)) f⟩
   | goto l=>exact⟨_,C,F,J,.pass (x:= .inLoop c) rfl (fun _ _=> .inl (by simp)) f⟩
   | ret=>exact⟨_,C,F,J,.pass (x:= .inLoop c) rfl (fun _ _=> .inl (by simp)) f⟩
   | panic ch=>exact⟨_,C,F,J,.pass (x:= .inLoop c) rfl (fun _ _=> .inl (by simp)) f⟩
   | outgrown=>exact⟨_,C,F,J,.pass (x:= .inLoop c) rfl (fun _ _=> .inl (by simp)) f⟩
 obtain⟨e,R,w',J,f⟩:=key _ g0 a w rfl Z;exact⟨e,R,w',J,.of_steps (.one (fenced_calm hb hr rfl) stepR_loop) f⟩
theorem jEe{x y:Code}(J:Act→World→Prop)(j:x.wpIn (FF r) m P (Exit.then J Q) a w)(C:∀a w,J a w→y.wpIn (FF r) m P Q a w):(Code.seq x y).wpIn (FF r) m P Q a w:=
 wpIn_seq_k fun K f=>wpIn_mono j fun e a w h=>by cases e<;>first | exact f _ _ (C _ _ h) | exact h
variable {E:Nat→Prop}{w0:World}{X Y:Hid}{M:List (Nat×Obj)}
theorem zPz{f:FuncId}{C:Array Value}{fn:Func}{G:List Value}(O:fn.ntmps=n)(F:C.toList=G)(I:Nat.ble G.length n=true):Fr n {tmps:=C++Array.replicate (fn.ntmps-C.size) undef,defers:=[]} (zEa 0 G):=by
 have _:=f;refine⟨?_,rfl,fun t ht=>?_⟩
 ·have:=je I;have J:C.size=G.length:=by rw[←F];simp
  simp[O];omega
 ·obtain⟨j,rfl,N,he⟩:=zKn G 0 t ht;have J:j<C.size:=by rw[←xe,F];exact N
  rw[ql]at *;rw[←he,←F];simp[Array.getElem?_append,J]
theorem zFe{f:FuncId}{fn:Func}{c:Code}{j:Array Value}{vs:List Value}{R:Ending→World→Prop}(I:P.funcs[f]?=some fn)(G:fn.body=some c)(J:fn.ntmps=n)(F:j.toList=vs)(C:Nat.ble vs.length n=true)
  (k:∀a,Fr n a (zEa 0 vs)→c.wpIn (FF none) 0 P (bodyPost P fn R) a w):Calls P f j w R:=
 pW.1 (callsIn_of_wp (n:=0) I G (xD none f) (k _ (zPz (f:=f) J F C)))
theorem zNg{f:FuncId}{fn:Func}{c:Code}{j:Array Value}{vs:List Value}{R:Ending→World→Prop}(I:P.funcs[f]?=some fn)(G:fn.body=some c)(J:fn.ntmps=n)(F:j.toList=vs)(C:Nat.ble vs.length n=true)
  (k:∀a,Fr n a (zEa 0 vs)→c.wpIn (FF none) 0 P (bodyPostM (FF none) 0 P fn R) a w):Calls P f j w R:=
 pW.1 (y5 (n:=0) I G (xD none f) (k _ (zPz (f:=f) J F C)))
theorem zBe{fn:Func}{R:Ending→World→Prop}{f:Array Value}{v:Value}(h:(results fn f).run P w= .ok v w)(j:R (.returned v) w):LeavesInM (FF none) 0 P fn f R [] .returning w:=⟨v,h,j⟩
theorem jAd{fn:Func}{R:Ending→World→Prop}{rs:List ResultVar}{j:List Value}{v:Value}(f:Fr n a L)(F:fn.results=rs.toArray)(h:Res P L w rs j)(hv:zBo j=v)(C:R (.returned v) w):bodyPostM (FF none) 0 P fn R .ret a w:=by
 show LeavesInM (FF none) 0 P fn a.tmps R a.defers .returning w;rw[f.defers];exact zBe (hv▸sN f F h) C
def mark(b:Nat):Deferred:={target:= .collected b,args:=#[]}
theorem St.putObj(h:St E w0 X w Y M)(i:Nat){b:Nat}{o o':Obj}(f:M[i]?=some (b,o)):St E w0 X (w.putObj b o') Y (M.set i (b,o'))∧Le (rd w Y) (rd (w.putObj b o') Y):=by
 have hlt:b<w.heap.size:=(zy.1 (h.get i f)).1;exact⟨h.set i o' f (by simp) rfl rfl rfl (uN hlt) (fun k _ j=>yW j),h.le_set i f (fun k _ j=>yW j)⟩
theorem zNh{fn:Func}{R:Ending→World→Prop}{rs:List ResultVar}{vs:List Value}{v:Value}{b:Nat}(i:Nat)(f:Fr n a L [mark b])(j:St E w0 X w Y M)(C:M[i]?=some (b,.deferred (some [])))(O:fn.results=rs.toArray)(hv:zBo vs=v)
  (k:∀w1,St E w0 X w1 Y (M.set i (b,.deferred none))→Le (rd w Y) (rd w1 Y)→Res P L w1 rs vs∧R (.returned v) w1):bodyPostM (FF none) 0 P fn R .ret a w:=by
 show LeavesInM (FF none) 0 P fn a.tmps R a.defers .returning w;rw[f.defers];obtain⟨G,I⟩:=j.putObj (o':= .deferred none) i C;obtain⟨J,N⟩:=k _ G I;have F:Fr n {a with defers:=[]} L:=⟨f.size,rfl,f.get⟩
 refine⟨by simp,.inl ⟨b,_,rfl,hU (j.get i C),?_⟩⟩
 exact zBe (hv▸sN F O J) N
theorem qNi{g:Operand}{ps:Array Tmp}{assign body:Code}{f:FuncId}{caps:Array Value}(hF:Fr n a L D)(hS:St E w0 X w Y M)(hc:cov L g=true)(hg:evL L g= .func (.func f) #[] caps)
  (hcall:∀args w,(callFunc f args).run P w= .ok (.enter f args) w)
  (k:∀fn l b w1 Y1,St E w0 X w1 Y1 ((l,.loop {state:= .ready,pending:=none,fn:=fn,tmps:=a.tmps,params:=ps,assign:=assign,body:=body,defers:=b})::(b,.deferred (some []))::M)→
   Le (rd w Y) (rd w1 Y1)→Upd E0 w w1→
   Calls P f (#[.func (.yield l) #[] #[]]++caps) w1 (fun e w3=>(∃v,e= .returned v)∧∃rec,w3.heap[l]?=some (.loop rec)∧rec.state≠.busy∧
    (match rec.pending with
     | none=>Q .normal {a with defers:=mark b::a.defers} (w3.putObj l (.loop {rec with state:= .exhausted}))
     | some c=>c.wpIn (FF none) 0 P Q {a with defers:=mark b::a.defers} (w3.putObj l (.loop {rec with state:= .exhausted}))))):
  (Code.rangeFunc g ps assign body).wpIn (FF none) 0 P Q a w:=by
 refine wpIn_rangeFunc fun fn _=>?_;have h1:=hS.alloc (.deferred (some []));have h2:=h1.alloc (.loop {state:= .ready,pending:=none,fn:=fn,tmps:=a.tmps,params:=ps,assign:=assign,body:=body,defers:=w.heap.size});have hle:Le (rd w Y) (rd ((w.alloc (.deferred (some []))).alloc (.loop {state:= .ready,pending:=none,fn:=fn,tmps:=a.tmps,params:=ps,assign:=assign,body:=body,defers:=w.heap.size})) _):=(Le.hide_new (.deferred (some []))).trans (Le.hide_new _);have hu:=(Upd.alloc w (.deferred (some []))).trans ((Upd.alloc (w.alloc (.deferred (some []))) (.loop {state:= .ready,pending:=none,fn:=fn,tmps:=a.tmps,params:=ps,assign:=assign,body:=body,defers:=w.heap.size})).weaken fun _ _ e=>e);have hK:=k fn (w.heap.size+1) w.heap.size _ _ (by simpa using h2) (by simpa using hle) hu
 have hge:a.eval g= .func (.func f) #[] caps:=(hF.eval hc).trans hg;have hrun:=run_enterLoop_outer (P:=P) (w:=w) fn a.tmps ps assign body;clear h2 hle hu;generalize (w.alloc (.deferred (some []))).alloc (.loop {state:= .ready,pending:=none,fn:=fn,tmps:=a.tmps,params:=ps,assign:=assign,body:=body,defers:=w.heap.size})=W1 at hK hrun;refine⟨w.heap.size+1,[mark w.heap.size],W1,{target:= .fn (.func f) caps,args:=#[.func (.yield (w.heap.size+1)) #[] #[]]},W1,f,
  #[.func (.yield (w.heap.size+1)) #[] #[]]++caps,W1,hrun,?_,fun f' _=>xD none f',?_,rT none 0,?_⟩
 ·simp only[resolve,hge];simp[go_sem]
 ·simp[invoke,go_sem,hcall]
 ·refine pW.2 (hK.mono ?_);rintro e w3 ⟨⟨v,rfl⟩,rec,hl,hb,hrest⟩;refine⟨rec.pending,_,run_endLoop hl hb,?_⟩;exact hrest
theorem zZi{l:Nat}{rec:Loop}{f:Array Value}{R:Ending→World→Prop}(i:Nat)(J:St E w0 X w Y M)(N:M[i]?=some (l,.loop rec))(I:f.size=rec.params.size)
  (k:rec.assign.wpIn (FF (some l)) 0 P (Exit.then (fun C G=>∃j,(Instr.beginRound l).run P G= .ok () j∧rec.body.wpIn (FF (some l)) 0 P (roundPost P l R) C j) (fun _ _ _=>False))
   {tmps:=(rec.params.zip f).foldl (fun tmps(t,a)=>tmps.setIfInBounds t a) rec.tmps,defers:=[]} w):YieldAt (FF none) 0 P l f w R:=
 ⟨_,_,_,_,run_yield (J.get i N) I,roundIn_of_wpIn (F:=FF none) (xD none _) k⟩
theorem qQt{l:Nat}{rec:Loop}{body:Code}{R:Ending→World→Prop}(i:Nat)(j:St E w0 X w Y M)(C:M[i]?=some (l,.loop rec))(F:rec.state= .ready)
  (k:∀w1,St E w0 X w1 Y (M.set i (l,.loop {rec with state:= .busy}))→Le (rd w Y) (rd w1 Y)→body.wpIn (FF (some l)) 0 P (roundPost P l R) a w1):
  ∃f,(Instr.beginRound l).run P w= .ok () f∧body.wpIn (FF (some l)) 0 P (roundPost P l R) a f:=
 ⟨_,run_beginRound (j.get i C) F,k _ (j.putObj i C).1 (j.putObj (o':= .loop {rec with state:= .busy}) i C).2⟩
theorem jDi{l:Nat}{rec:Loop}{R:Ending→World→Prop}(i:Nat)(f:St E w0 X w Y M)(j:M[i]?=some (l,.loop rec))
  (k:∀w1,St E w0 X w1 Y (M.set i (l,.loop {rec with state:= .ready,pending:=none}))→Le (rd w Y) (rd w1 Y)→R (.returned (.bool true)) w1):roundPost P l R .normal a w:=
 ⟨_,_,uh none (f.get i j),k _ (f.putObj i j).1 (f.putObj (o':= .loop {rec with state:= .ready,pending:=none}) i j).2⟩
theorem jFk{l:Nat}{rec:Loop}{R:Ending→World→Prop}(i:Nat)(f:St E w0 X w Y M)(j:M[i]?=some (l,.loop rec))
  (k:∀w1,St E w0 X w1 Y (M.set i (l,.loop {rec with state:= .done,pending:=some .ret}))→Le (rd w Y) (rd w1 Y)→R (.returned (.bool false)) w1):roundPost P l R .ret a w:=
 ⟨_,_,uh (some .ret) (f.get i j),k _ (f.putObj i j).1 (f.putObj (o':= .loop {rec with state:= .done,pending:=some .ret}) i j).2⟩
theorem qAd{p q:Nat}{v u:Value}(f:Fr n a L D)(hp:p<n)(C:q<n):Fr n {tmps:=((#[p,q]:Array Tmp).zip #[v,u]).foldl (fun tmps(t,a)=>tmps.setIfInBounds t a) a.tmps,defers:=[]} ((q,u)::(p,v)::L):=by
 have j:Fr n {a with defers:=[]} L:=⟨f.size,rfl,f.get⟩
 have:=(j.put hp v).put C u;simpa[Act.put]using this
end
section
variable {E:Nat→Prop}{w0 w w1:World}{X Y:Hid}{M:List (Nat×Obj)}
def zYp(b:Nat)(Y:Hid):Hid:=fun k o=>Y k o∧k≠b
theorem St.publish{b:Nat}{c:Array Value}{T:TypeId}(h:St E w0 X w Y ((b,.cells c T (0,0))::M))(O:w0.heap.size≤b):
  St E w0 X w (zYp b Y) M∧Le (rd w Y) (rd w (zYp b Y))∧At (rd w (zYp b Y)) ⟨b,0,none⟩ c.toList:=by
 have ht:=h.tail;have f:=h.nd;simp only[jl,xw,wv,dk,not_and]at f;refine⟨⟨h.upd,fun k o C=>h.lt k o C.1,fun k o F=>⟨h.hid k o F,fun e=>?_⟩,fun p hp=>?_,ht.nd,h.ltX⟩,Le.unhide (fun k o C=>C.1),fun j v N=>?_⟩
 ·have:=h.ltX k o F;omega
 ·obtain⟨G,I,J⟩:=ht.own p hp;exact⟨G,I,fun o=>⟨J o,fun e=>f.1 p hp e⟩⟩
 ·rw[jT];refine pF ?_ (fun C=>C.2 rfl) (wh w b _ c T (h.own _ qS).1);rw[kx w b _ c T (0,0) (h.own _ qS).1];simpa using N
theorem St.own_ge{b:Nat}{o:Obj}(h:St E0 w0 X w Y M)(i:Nat)(f:M[i]?=some (b,o)):w0.heap.size≤b:=by
 rcases(h.own _ (qk f)).2.1 with h | h
 ·exact h
 ·exact h.elim
theorem St.adopt{g:Nat}{o:Obj}(h:St E w0 X w1 Y M)(J:∀j,¬Y g j)(I:w0.heap.size≤g)(ho:w1.heap[g]?=some o):St E w0 X w1 (zAy g Y) ((g,o)::M):=
 ⟨h.upd,fun k j f=>by
   rcases f with rfl | f
   ·exact(zy.1 ho).1
   ·exact h.lt k j f,
  fun k j N=> .inr (h.hid k j N),fun p hp=>by
   rcases qj.1 hp with rfl | hp
   ·exact⟨ho,.inl I,fun _=> .inl rfl⟩
   ·obtain⟨C,F,G⟩:=h.own p hp;exact⟨C,F,fun j=> .inr (G j)⟩,by
   simp only[jl,xw,h.nd,and_true,wv,dk,not_and];intro p hp e;exact J 0 (e▸(h.own p hp).2.2 0),h.ltX⟩
theorem Le.hide_ge{r:Rd}{g:Nat}(h:Le r (rd w1 Y))(j:∀a v,r a=some v→a.block≠g):Le r (rd w1 (zAy g Y)):=fun a v e=>by
 have:=h a v e;refine pF (yO this) ?_ (aY this);rintro(f | f)
 ·exact j a v e f
 ·exact tF this f
theorem jFb{a:Addr}{v:Value}(h:rd w Y a=some v):a.block<w.heap.size:=k8 w a (yO h)
theorem Le.adopt{g:Nat}(h:Le (rd w Y) (rd w1 Y))(j:w.heap.size≤g):Le (rd w Y) (rd w1 (zAy g Y)):=h.hide_ge fun a v e f=>by have:=jFb e;omega
end
section
variable {P:Program}{Q:Exit→Act→World→Prop}{K:Act→World→Prop}{a:Act}{o:Oper}{n d:Nat}{L:List (Nat×Value)}{D:List Deferred}{E:Nat→Prop}{w0 w:World}{X Y:Hid}{M:List (Nat×Obj)}
theorem qHm{fx:Operand}{xs:Array Operand}{ts:Array TypeId}{f:FuncId}{cap:Array Value}{V:Array Value}{ob1 ob2:Obj}{C I:Nat}{Φ:World→Value→Prop}(i j:Nat)(hF:Fr n a L D)(hc:opk L o d n=true)(Z:St E w0 X w Y M)
  (ho:o.op= .call {callee:= .value fx,args:=xs,argTypes:=ts}) (hf:evL L fx= .func (.func f) #[] cap) (N:xs.map (evL L)++cap=V)
  (F:∀w,(callFunc f V).run P w= .ok (.enter f V) w) (G:M[i]?=some (C,ob1)) (J:M[j]?=some (I,ob2)) (hij:i≠j) (hcon:Calls P f V w (Ret (fun k=>k=C∨k=I) w Φ))
  (k:∀v w1,Φ w1 v→(∀U o2,w1.heap[C]?=some U→w1.heap[I]?=some o2→St E w0 X w1 Y ((M.set i (C,U)).set j (I,o2)))→Le (rd w Y) (rd w1 Y)→∀a1,Fr n a1 ((d,v)::L) D→K a1 w1):o.wp P a w K Q:=by
 simp only[opk,zd]at hc;obtain⟨hd,hlt⟩:=qK hc.2;unfold Oper.wp;rw[hF.exec hc.1];have hrun:(execOp (evL L) o).run P w= .ok (.enter f V) w:=by
  unfold execOp;simp only[ho,resolve,hf,Deferred.ofValue,zk,zm,zg,invoke];simp only[←N]at F ⊢;simpa using F w
 rw[hrun];show Calls P f V w _;refine hcon.mono ?_;rintro e w1 ⟨R,v,rfl,hΦ⟩;show K (a.put o.dst v) w1;rw[hd];have hl1:C<w.heap.size:=(zy.1 (Z.get i G)).1;have hne:C≠I:=by
  intro e;refine hij (zDi Z.nd (i:=i) (j:=j) (x:=C) ?_ ?_)
  ·rw[qw,G];rfl
  ·rw[qw,J];simp[e]
 refine k v w1 hΦ (fun U o2 h1 h2=>?_) (fun p u e=>?_) _ (hF.put hlt v)
 ·-- by way of a world in which the first has turned
  have hmid:=Z.set (w':=w.putObj C U) i U G (by simp) rfl rfl rfl (uN hl1) (fun k _ hk=>yW hk)
  have W:(M.set i (C,U))[j]?=some (I,ob2):=by rw[jy hij];exact J
  refine hmid.set (w':=w1) j o2 W (by simpa using R.size) R.os R.tape R.output h2 (fun k hk hkb=>?_)
  by_cases e1:k=C
  ·subst e1;rw[h1,uN hl1]
  ·rw[yW e1];exact R.block k (by simpa using hk) (fun h=>h.elim e1 hkb)
 ·have O:=yO e;have hlt:=k8 w p O;have hn1:p.block≠C:=fun eb=>tF e (eb▸(Z.own _ (qk G)).2.2 _);have hn2:p.block≠I:=fun eb=>tF e (eb▸(Z.own _ (qk J)).2.2 _);exact zFm e (R.block p.block hlt (fun h=>h.elim hn1 hn2)) (tF e)
theorem zXw{t e:TypeId}{F:Operand}{l:Int}{m:Nat}{z:Value}{i0:TypeInfo}(O:Fr n a L D)(V:opk L o d n=true)(R:St E w0 X w Y M)
  (ho:o.op= .makeSlice t F F) (Z:evL L F= .int .i64 l) (hm:l=(m:Int)) (ht:P.underlying t=some (.slice e)) (W:P.info? e=some i0) (hz:i0.zero=some z) (hs:i0.size=1) (C:z.cells=#[z]) (U:i0.bytes*m≤281474976710656) (N:m≤140737488355328)
  (k:∀b w1 G,St E w0 X w1 G ((b,.cells (List.replicate m z).toArray e (0,0))::M)→Le (rd w Y) (rd w1 G)→Upd E0 w w1→∀I,Fr n I ((d,.slice (some ⟨b,0,none⟩) m m)::L) D→K I w1):o.wp P a w K Q:=by
 refine lS (fun b=> .slice (some ⟨b,0,none⟩) m m) (.cells (List.replicate m z).toArray e (0,0)) O V R (fun w=>?_) k;have j:(i0.bytes:Int)*(m:Int)≤281474976710656:=by
  have h:((i0.bytes*m:Nat):Int)≤281474976710656:=by omega
  rwa[xt]at h
 have J:=run_make (P:=P) w t e i0 z ht W hz .i64 .i64 (m:Int) (m:Int) (by omega) (kp _) j (by omega)
 have f:madeCells z.cells (m*i0.size)=(List.replicate m z).toArray:=by
  apply j0;rw[C,hs,yz,toList_madeCells_one]
 simp only[wj,f]at J;unfold execOp;simp only[ho,Z,hm,J,zk,zm,zg]
end
structure Row(m cap size:Nat)(cur:Array Value)(xs:List Value):Prop where
 hn:m≤cap
 hcap:cap≤maxLen
 hsz:cur.size=cap*size
 hxs:cur.toList.take (m*size)=xs
theorem Row.len{m cap size:Nat}{f:Array Value}{xs:List Value}(h:Row m cap size f xs):xs.length=m*size:=by
 rw[←h.hxs,jo,xe,h.hsz];exact kg (q6 _ h.hn)
theorem zLc:∀{l:List Nat}{b:Nat}(i:Nat),l.Nodup→b∉l→(l.set i b).Nodup
 | [],_,_,_,_=>by simp
 | x::l,b,0,h,f=>by
  simp only[List.set_cons_zero,xw,qj,not_or]at *;exact⟨f.2,h.2⟩
 | x::l,b,i+1,h,f=>by
  simp only[uA,xw,qj,not_or]at *;refine⟨fun hm=>?_,zLc i h.2 f.2⟩;rcases y6 hm with j | j
  ·exact h.1 j
  ·exact f.1 j.symm
theorem St.replace{E:Nat→Prop}{w0 w:World}{X Y:Hid}{M:List (Nat×Obj)}{p:Nat×Obj}(h:St E w0 X w Y (p::M))(i:Nat):St E w0 X w Y (M.set i p):=by
 refine⟨h.upd,h.lt,h.hid,fun q j=>?_,?_,h.ltX⟩
 ·rcases y6 j with f | f
  ·exact h.own q (z6 _ f)
  ·exact f▸h.own p qS
 ·rw[cC];have:=h.nd;simp only[jl,xw]at this;exact zLc i this.2 this.1
theorem qFm(z:Value)(size:Nat)(C:z.cells.size=size)(j f:List Value)(a b c:Nat)(F:j.length=a*size)(G:f.length=b*size)(I:a+b≤c):
  (j.toArray++f.toArray++Builtin.zeroCells z.cells (c-(a+b))).size=c*size:=by
 simp only[Array.size_append,ux,size_zeroCells,C,F,G,←ja];congr 1;omega
section
variable {P:Program}{Q:Exit→Act→World→Prop}{K:Act→World→Prop}{a:Act}{o:Oper}{n d:Nat}{L:List (Nat×Value)}{D:List Deferred}{E:Nat→Prop}{w0 w:World}{X Y:Hid}{M:List (Nat×Obj)}
theorem zLg{t e:TypeId}{s x:Operand}{g m nn cap c size:Nat}{I:Array Value}{xs f:List Value}{ad:Addr}{z:Value}{O:TypeInfo}(i:Nat)(hF:Fr n a L D)(hc:opk L o d n=true)(hS:St E w0 X w Y M)
  (ho:o.op= .call {callee:= .builtin .append,args:=#[s,x],argTypes:=#[t,t]}) (hs:evL L s= .slice (some ⟨g,0,none⟩) nn cap) (hx:evL L x= .slice (some ad) m c)
  (ht:P.underlying t=some (.slice e)) (hi:P.info? e=some O) (hz:O.zero=some z) (hsz:O.size=size) (hzs:z.cells.size=size)
  (hM:M[i]?=some (g,.cells I e (0,0))) (C:Row nn cap size I xs) (N:jC w ad f) (hl:f.length=m*size) (h1:f.all Value.oneCell'=true)
  (h63:nn+m≤maxLen) (R:(nn+m)*O.bytes≤140737488355328)
  (k:∀g' U V w1 Y1,Row (nn+m) U size V (xs++f)→St E w0 X w1 Y1 (M.set i (g',.cells V e (0,0)))→Le (rd w Y) (rd w1 Y1)→∀a1,Fr n a1 ((d,.slice (some ⟨g',0,none⟩) (nn+m) U)::L) D→K a1 w1):o.wp P a w K Q:=by
 subst hsz;have hg:=hS.get i hM;have F:=C.len;have hone:∀u∈f,u.oneCell'=true:=fun u hu=>qa.1 h1 u hu;have J:∀(v':Value)(w':World),(Builtin.append_ #[t,t] o.type #[.slice (some ⟨g,0,none⟩) nn cap,.slice (some ad) m c]).run P w= .ok v' w'→(execOp (evL L) o).run P w= .ok (.value v') w':=by
  intro v' w' hr;unfold execOp;simp only[ho,resolve,invoke,builtin,zk,zm,zg,kb,jl,kO,hs,hx,hr]
 by_cases G:nn+m≤cap
 ·have hfit:nn*O.size+f.length≤I.size:=by rw[hl,C.hsz,←ja];exact q6 _ G
  have hr:=run_append_room (P:=P) w t o.type e O ht hi g nn cap I hg ad m c f hl N hone G hfit;simp only[opk,zd]at hc;obtain⟨hd,hlt⟩:=qK hc.2;unfold Oper.wp;rw[hF.exec hc.1,J _ _ hr];show K (a.put o.dst _) _;rw[hd];refine k g cap _ _ Y ⟨G,C.hcap,?_,?_⟩ (hS.set (w':=w.setRow g _) i _ hM (by simp) rfl rfl rfl (setRow_heap w g I _ e _ hg) (fun k _ hk=>uE w g k _ hk)) (hS.le_set i hM (fun k _ hk=>uE w g k _ hk)) _ (hF.put hlt _)
  ·simp only[ux,qo,jo,xj,xe,C.hsz]at *;omega
  ·have Z:(xs++f).length=(nn+m)*O.size:=by rw[qo,F,hl,ja]
   rw[C.hxs,←Z];exact uG
 ·have W:∀j u,xs[j]?=some u→w.cell? ((⟨g,0,none⟩:Addr).add j)=some u:=by
   intro j u hj;rw[jT,kx w g _ I e _ hg];have hj':j<xs.length:=(zh.1 hj).1;rw[←C.hxs,qi,qn (by rw[←F];exact hj')]at hj
   simpa using hj
  have hr:=run_append_grow (P:=P) w t o.type e O z ht hi hz ⟨g,0,none⟩ nn cap xs F W ad m c f hl N (by omega) (by simp only[maxLen]at h63;omega) (growslice_fits (by omega) R)
  simp only[opk,zd]at hc;obtain⟨hd,hlt⟩:=qK hc.2;unfold Oper.wp;rw[hF.exec hc.1,J _ _ hr];show K (a.put o.dst _) _;rw[hd];have hge:=fq w (nn+m) cap e;refine k w.heap.size _ _ _ _ ⟨hge,uD w (nn+m) cap e h63,qFm z O.size hzs xs f nn m _ F hl hge,?_⟩ (((hS.call (Upd.drew w)).alloc _).replace i) (((Upd.drew w).le Y).trans (Le.hide_new _)) _ (hF.put hlt _);have Z:(xs++f).length=(nn+m)*O.size:=by rw[qo,F,hl,ja]
  simp only[Array.toList_append,qt];rw[←qt,←Z];exact uG
theorem zHi{t e:TypeId}{s x:Operand}{m c size:Nat}{f:List Value}{ad:Addr}{z:Value}{J:TypeInfo}(hF:Fr n a L D)(O:opk L o d n=true)(hS:St E w0 X w Y M)
  (ho:o.op= .call {callee:= .builtin .append,args:=#[s,x],argTypes:=#[t,t]}) (hs:evL L s= .slice none 0 0) (hx:evL L x= .slice (some ad) m c)
  (ht:P.underlying t=some (.slice e)) (hi:P.info? e=some J) (hz:J.zero=some z) (W:J.size=size) (Z:z.cells.size=size)
  (G:jC w ad f) (U:f.length=m*size) (V:0<m)
  (I:m≤maxLen) (N:m*J.bytes≤140737488355328)
  (k:∀g' j C w1 Y1,Row m j size C f→St E w0 X w1 Y1 ((g',.cells C e (0,0))::M)→Le (rd w Y) (rd w1 Y1)→∀a1,Fr n a1 ((d,.slice (some ⟨g',0,none⟩) m j)::L) D→K a1 w1):o.wp P a w K Q:=by
 subst W;have hr:=db (P:=P) w t o.type e J z ht hi hz ad m c f U G V (by simp only[maxLen]at I;omega) (by omega)
 have F:(execOp (evL L) o).run P w= .ok (.value (.slice (some ⟨w.heap.size,0,none⟩) m (grownCap w m 0 e))) (w.drew.alloc (.cells (f.toArray++Builtin.zeroCells z.cells (grownCap w m 0 e-m)) e)):=by
  unfold execOp;simp only[ho,resolve,invoke,builtin,zk,zm,zg,kb,jl,kO,hs,hx,hr]
 simp only[opk,zd]at O;obtain⟨hd,hlt⟩:=qK O.2;unfold Oper.wp;rw[hF.exec O.1,F];show K (a.put o.dst _) _;rw[hd];have R:=fq w m 0 e;refine k w.heap.size _ _ _ _ ⟨R,uD w m 0 e I,?_,?_⟩ ((hS.call (Upd.drew w)).alloc _) (((Upd.drew w).le Y).trans (Le.hide_new _)) _ (hF.put hlt _)
 ·simp only[Array.size_append,ux,size_zeroCells,Z,U,←ja];congr 1;omega
 ·rw[←U];simp
theorem qOw{G sT e:TypeId}{x y:Operand}{g I W sl sc:Nat}{f:Array Value}{T:TypeId}{ad:Addr}{cs:List Value}(i:Nat)(Z:Fr n a L D)(O:opk L o d n=true)(N:St E w0 X w Y M)
  (ho:o.op= .call {callee:= .builtin .copy,args:=#[x,y],argTypes:=#[G,sT]}) (hx:evL L x= .slice (some ⟨g,0,none⟩) I W) (hy:evL L y= .slice (some ad) sl sc)
  (U:P.underlying G=some (.slice e)) (hs:(P.info? e).map (·.size)=some 1) (J:M[i]?=some (g,.cells f T (0,0))) (hn:cs.length=Nat.min sl I) (F:jC w ad cs) (C:cs.length≤f.size) (h1:cs.all Value.oneCell'=true)
  (k:∀w1,St E w0 X w1 Y (M.set i (g,.cells (cs++f.toList.drop cs.length).toArray T (0,0)))→Le (rd w Y) (rd w1 Y)→∀V,Fr n V ((d,.int .i64 (cs.length:Int))::L) D→K V w1):o.wp P a w K Q:=by
 have hg:=N.get i J;have hr:=run_copy_row (P:=P) w G sT o.type e g 0 I W ad sl sc f T cs U hs hg hn F (by simpa using C) (fun u U=>qa.1 h1 u U)
 simp only[ql,uj,kB]at hr;have j:(execOp (evL L) o).run P w= .ok (.value (goInt cs.length)) (w.setRow g (cs++f.toList.drop cs.length).toArray):=by
  unfold execOp;simp only[ho,resolve,invoke,builtin,zk,zm,zg,kb,jl,kO,hx,hy,hr]
 simp only[opk,zd]at O;obtain⟨hd,hlt⟩:=qK O.2;unfold Oper.wp;rw[Z.exec O.1,j];show K (a.put o.dst _) _;rw[hd];exact k _ (N.set (w':=w.setRow g _) i _ J (by simp) rfl rfl rfl (setRow_heap w g f _ T _ hg) (fun k _ R=>uE w g k _ R)) (N.le_set i J (fun k _ R=>uE w g k _ R)) _ (Z.put hlt _)
end
structure zY(m cap:Nat)(cur:Array Value)(l:List Nat):Prop where
 row:Row m cap 1 cur (U32 l)
 lt:∀x∈l,x<4294967296
theorem zY.len{m cap:Nat}{f:Array Value}{l:List Nat}(h:zY m cap f l):l.length=m:=by
 have:=h.row.len;simpa using this
theorem zY.get{m cap:Nat}{f:Array Value}{l:List Nat}(h:zY m cap f l){k:Nat}(C:k<l.length):f[k]?=some (.int .u32 ((l.getD k 0:Nat):Int)):=by
 have j:=zLz C;rw[←h.row.hxs,qi]at j;split at j
 ·simpa using j
 ·cases j
theorem zY.getD_lt{m cap:Nat}{f:Array Value}{l:List Nat}(h:zY m cap f l)(i:Nat):l.getD i 0<4294967296:=by
 by_cases j:i<l.length
 ·have:l.getD i 0=l[i]:=by simp[j]
  rw[this];exact h.lt _ (j3 j)
 ·have:l.getD i 0=0:=by simp[qb (Nat.le_of_not_lt j)]
  omega
theorem zY.set{m cap:Nat}{f:Array Value}{l:List Nat}(h:zY m cap f l){k y:Nat}(G:k<l.length)(I:y<4294967296):zY m cap (f.setIfInBounds k (.int .u32 (y:Int))) (l.set k y):=by
 refine⟨⟨h.row.hn,h.row.hcap,by simpa using h.row.hsz,?_⟩,fun x F=>?_⟩
 ·have F:=h.row.hxs;rw[yx,List.take_set,F];apply kj;intro j;simp only[U32,wk,qw,ku];by_cases e:k=j
  ·subst e;simp[G]
  ·simp[e]
 ·rcases y6 F with C | C
  ·exact h.lt x C
  ·exact C▸I
section
variable {P:Program}{Q:Exit→Act→World→Prop}{K:Act→World→Prop}{a:Act}{o:Oper}{n d:Nat}{L:List (Nat×Value)}{D:List Deferred}{E:Nat→Prop}{w0 w:World}{X Y:Hid}{M:List (Nat×Obj)}
theorem St.rowCells(h:St E w0 X w Y M)(i:Nat){g:Nat}{f:Array Value}{T:TypeId}{m cap:Nat}{l:List Nat}{k:Nat}(F:M[i]?=some (g,.cells f T (0,0)))(I:zY m cap f l)(G:k<l.length):jC w ⟨g,k,none⟩ [.int .u32 ((l.getD k 0:Nat):Int)]:=by
 intro j v C;rcases j with _ | j
 ·simp at C;subst C;rw[jT,yj,kx w g k f T _ (h.get i F)];exact I.get G
 ·simp at C
theorem mY{t:TypeId}{J N:Operand}{g k:Nat}{T:TypeId}{m cap:Nat}{C:Array Value}{l:List Nat}{e:Int}{y:Nat}(i:Nat)(O:Fr n a L D)(V:(nQ L o&&o.dst.isNone)=true)(U:St E w0 X w Y M)
  (ho:o.op= .store t J N) (ha:evL L J= .pointer (some ⟨g,k,none⟩)) (hv:evL L N= .int .u32 e) (he:e=(y:Int)) (ht:ldT P t=some (false,1))
  (R:M[i]?=some (g,.cells C T (0,0))) (f:zY m cap C l) (W:k<l.length) (Z:y<4294967296)
  (F:∀j w1,zY m cap j (l.set k y)→St E w0 X w1 Y (M.set i (g,.cells j T (0,0)))→Le (rd w Y) (rd w1 Y)→K a w1):o.wp P a w K Q:=by
 subst he;have hlt:k<C.size:=by
  have G:=f.len;have I:=f.row.hn;have h3:=f.row.hsz;omega
 refine zF (m:=1) (v:= .int .u32 (y:Int)) i _ O V U ho ha hv ht rfl rfl R (by omega) rfl rfl (fun w1 G I=>?_)
 exact F _ w1 (f.set W Z) G I
theorem zY.limbs{m cap:Nat}{f:Array Value}{l:List Nat}(h:zY m cap f l){g:Nat}{T:TypeId}(F:w.heap[g]?=some (.cells f T (0,0)))(I:∀o,¬Y g o):zN (rd w Y) (some ⟨g,0,none⟩) m cap l:=by
 refine⟨h.len.symm,h.row.hn,(by have:=h.row.hcap;simpa[maxLen]using this),h.lt,.inr ⟨g,0,rfl,fun j v C=>?_⟩⟩
 have G:j<l.length:=by have:=(zh.1 C).1;simpa using this
 rw[jT,ql];refine pF ?_ (I _) (wh w g j f T F);rw[kx w g j f T (0,0) F,h.get G];rw[zLz G]at C;exact C
end
def X0:Hid:=fun _ _=>False
theorem qA(w:World):∀k o,X0 k o→k<w.heap.size:=fun _ _ h=>h.elim
theorem Le.x0{w:World}{Y:Hid}:Le (rd w Y) (rd w X0):=Le.unhide fun _ _ h=>h.elim
structure zIw(w w':World)(T:TypeId)(v:Value)(l:List Nat)(ad:Option Addr)(len cap:Nat):Prop where
 hv:v= .slice ad len cap
 hlen:len=l.length
 hlt:∀x∈l,x<4294967296
 own:(ad=none∧len=0∧cap=0)∨∃g cur,ad=some ⟨g,0,none⟩∧w.heap.size≤g∧w'.heap[g]?=some (.cells cur T (0,0))∧zY len cap cur l
theorem zIw.limbs{w w':World}{T:TypeId}{v:Value}{l:List Nat}{ad:Option Addr}{f cap:Nat}(h:zIw w w' T v l ad f cap){X:Hid}(F:∀k o,X k o→k<w.heap.size):zN (rd w' X) ad f cap l:=by
 rcases h.own with⟨rfl,C,J⟩ | ⟨g,j,rfl,N,ho,G⟩
 ·have:l=[]:=qT (by rw[←h.hlen];exact C)
  subst this;exact⟨h.hlen,by omega,by omega,h.hlt,.inl rfl⟩
 ·exact G.limbs ho (fun o I=>by have:=F g o I;omega)
theorem St.at0{E:Nat→Prop}{w0 w:World}{X Y:Hid}{M:List (Nat×Obj)}(h:St E w0 X w Y M)(i:Nat){b:Nat}{c:Array Value}{T:TypeId}(f:M[i]?=some (b,.cells c T (0,0))){C:List Value}(hv:c.toList=C):At (rd w X0) ⟨b,0,none⟩ C:=by
 subst hv;intro j v F;rw[jT];refine pF ?_ (fun h=>h.elim) (wh w b _ c T (h.get i f));rw[kx w b _ c T (0,0) (h.get i f)];simpa using F
def I64(l:List Int):List Value:=l.map fun x=>Value.int .i64 x
@[simp] theorem qTx (l:List Int):(I64 l).length=l.length:=by simp[I64]
theorem qKp{l:List Int}{i:Nat}(h:i<l.length):(I64 l)[i]?=some (.int .i64 (l.getD i 0)):=by simp[I64,h]
def orL:List Int→Int
 | []=>0
 | x::l=>if x=0 then orL l else x
theorem zHk:∀(l:List Int),(∀j,j<l.length→l.getD j 0=0)→orL l=0
 | [],_=>rfl
 | x::l,h=>by
  have f:=h 0 (by simp)
  simp at f;rw[orL,qn f];exact zHk l fun j C=>by have:=h (j+1) (by simpa using C);simpa using this
theorem zUw:∀(l:List Int)(k:Nat),k<l.length→(∀j,j<k→l.getD j 0=0)→l.getD k 0≠0→orL l=l.getD k 0
 | [],k,h,_,_=>by simp at h
 | x::l,0,_,_,h=>by simp at h ⊢;rw[orL,qm h]
 | x::l,k+1,F,h,f=>by
  have C:=h 0 (by omega)
  simp at C;rw[orL,qn C];have:=zUw l k (by simpa using F) (fun j G=>by have:=h (j+1) (by omega);simpa using this) (by simpa using f)
  simpa using this
theorem jFf(a:Nat)(h:a<4294967296):a / 2147483648=if a.testBit 31 then 1 else 0:=by
 rw[uR];by_cases f:a / 2^31 % 2=1
 ·simp[f];omega
 ·simp[f];omega
theorem qDh(a:Nat)(h:a<4294967296):a.testBit 31=decide (2147483648≤a):=by
 rw[uR];congr 1;apply propext;omega
theorem qBj(x y c d:Nat)(f:x<4294967296)(j:y<4294967296)(hc:c≤1)(hd:d<4294967296)(e:(d:Int)=(((x:Int)-y) % 4294967296-c) % 4294967296):
  rV (wV (wG 4294967295 (x:Int)) (y:Int)) (wV (wG 4294967295 (wG (x:Int) (y:Int))) (d:Int)) / 2147483648=if(x:Int)<y+c then 1 else 0:=by
 have J:=aJ 4294967295 x (by omega) f
 have N:=aJ x y f j;have hxy:x^^^y<2^32:=uC (by omega) (by omega)
 have hnx:4294967295^^^x<2^32:=uC (by omega) (by omega)
 have O:=aJ 4294967295 (x^^^y) (by omega) (by omega)
 have C:4294967295^^^(x^^^y)<2^32:=uC (by omega) (by omega)
 have R:=aI (4294967295^^^x) y (by omega) j
 have U:=aI (4294967295^^^(x^^^y)) d (by omega) hd
 have ha:(4294967295^^^x)&&& y<4294967296:=jq fY (by omega)
 have Z:(4294967295^^^(x^^^y))&&& d<4294967296:=jq fY (by omega)
 have V:=dV ((4294967295^^^x)&&& y) ((4294967295^^^(x^^^y))&&& d) ha Z;have W:((4294967295^^^x)&&& y)||| ((4294967295^^^(x^^^y))&&& d)<2^32:=uz (by omega) (by omega)
 rw[show(4294967295:Int)=((4294967295:Nat):Int)from rfl,J,N,O,R,U,V];have ht:=jFf _ (by omega:((4294967295^^^x)&&& y)||| ((4294967295^^^(x^^^y))&&& d)<4294967296)
 rw[show((((4294967295^^^x)&&& y)||| ((4294967295^^^(x^^^y))&&& d):Nat):Int) / 2147483648=(((((4294967295^^^x)&&& y)||| ((4294967295^^^(x^^^y))&&& d)) / 2147483648:Nat):Int)from rfl,ht]
 simp only[uH,Nat.testBit_and,Nat.testBit_xor,qDh x f,qDh y j,qDh d hd,show(4294967295:Nat).testBit 31=true from by decide]
 by_cases F:2147483648≤x<;>by_cases G:2147483648≤y<;>by_cases I:2147483648≤d<;>simp only[F,G,I,decide_true,decide_false,Bool.true_bne,Bool.false_bne,zu,qy,Bool.and_true,Bool.and_false,xp,uF,Bool.or_true,Bool.or_false,d8,Bool.false_or,j7,wi,xi]<;>split<;>omega
end Go.Gv
namespace Go.Gv
theorem kJ:∀{l:List Nat},(∀x∈l,x<4294967296)→val l<4294967296^l.length
 | [],_=>by simp[val]
 | x::l,h=>by
  have j:=kJ (l:=l) fun y f=>h y (z6 _ f);have F:=h x qS;simp only[val,qf,jd];have:val l+1≤4294967296^l.length:=j;have C:(val l+1)*4294967296≤4294967296^l.length*4294967296:=q6 _ this;omega
theorem dO:∀(l:List Nat)(x:Nat),val (l++[x])=val l+x*4294967296^l.length
 | [],x=>by simp[val]
 | y::l,x=>by
  simp only[x8,val,dO l x,qf,jd,yc];rw[show 4294967296*(x*4294967296^l.length)=x*(4294967296^l.length*4294967296)by ac_rfl]
  omega
theorem yU(l:List Nat)(k:Nat)(h:k<l.length):val (l.take (k+1))=val (l.take k)+l.getD k 0*4294967296^k:=by
 rw[List.take_succ_eq_append_getElem h,dO];simp[h,kg (uB h)]
theorem nN:∀(l:List Nat)(k y:Nat),k<l.length→val (l.set k y)+l.getD k 0*4294967296^k=val l+y*4294967296^k
 | [],k,y,h=>by simp at h
 | x::l,0,y,_=>by simp[val];omega
 | x::l,k+1,y,h=>by
  have C:=nN l k y (by simpa using h)
  simp only[uA,val,List.getD_cons_succ,jd];have f:l.getD k 0*(4294967296^k*4294967296)=4294967296*(l.getD k 0*4294967296^k):=by ac_rfl
  have j:y*(4294967296^k*4294967296)=4294967296*(y*4294967296^k):=by ac_rfl
  rw[f,j];omega
theorem vM(m:Nat):val (List.replicate m 0)=0:=by
 induction m with
 | zero=>rfl
 | succ m f=>simp[List.replicate_succ,val,f]
theorem xH{l:List Nat}{k j y:Nat}(h:k≠j):(l.set k y).getD j 0=l.getD j 0:=by simp[jy h]
theorem zEn(l:List Nat):∀k,val (l.take k)≤val l
 | 0=>by simp[val]
 | k+1=>by
  rcases l with _ | ⟨x,l⟩
  ·simp[val]
  ·simp only[wz,val];have:=zEn l k;omega
theorem zIp(l:List Nat):∀k,k≤l.length→val (l.take (kC l k))=val (l.take k)
 | 0,_=>rfl
 | k+1,h=>by
  by_cases f:l.getD k 0=0
  ·rw[dN f,zIp l k (by omega),yU l k (by omega),f];omega
  ·rw[dM f]
theorem zIm(l:List Nat):∀k,0<kC l k→l.getD (kC l k-1) 0≠0
 | 0,h=>by simp[kC]at h
 | k+1,h=>by
  by_cases f:l.getD k 0=0
  ·rw[dN f]at h ⊢;exact zIm l k h
  ·rw[dM f];simpa using f
theorem jK(l:List Nat):val (trimmed l)=val l:=by
 unfold trimmed qV;rw[zIp l l.length (zq _),jz]
theorem qY(l:List Nat):zX (trimmed l):=by
 unfold zX;rw[jP];by_cases h:qV l=0
 ·exact .inl h
 ·refine .inr ?_;have f:=zIm l l.length (by unfold qV at h;omega)
  have j:=rR l l.length;unfold trimmed;unfold qV at *;rw[zp,qi,qn (by omega),←zp]
  exact f
theorem tJ{l:List Nat}(h:∀x∈l,x<4294967296):∀x∈trimmed l,x<4294967296:=fun x f=>h x (wm f)
theorem tX{l:List Nat}(C:zX l)(h:l≠[]):4294967296^(l.length-1)≤val l:=by
 have j:0<l.length:=List.length_pos_iff.2 h;rcases C with f | f
 ·omega
 ·have:=yU l (l.length-1) (by omega)
  rw[show l.length-1+1=l.length by omega,jz]at this
  have hp:1≤l.getD (l.length-1) 0:=fm.2 f;have:=q6 (4294967296^(l.length-1)) hp;omega
theorem zZd:∀{l m:List Nat},(∀x∈l,x<4294967296)→(∀x∈m,x<4294967296)→l.length=m.length→val l=val m→l=m
 | [],[],_,_,_,_=>rfl
 | [],_::_,_,_,h,_=>by simp at h
 | _::_,[],_,_,h,_=>by simp at h
 | x::l,y::m,C,hm,f,hv=>by
  simp only[val]at hv;have I:=C x qS;have J:=hm y qS;have F:x=y:=by omega
  have G:val l=val m:=by omega
  rw[F,zZd (fun z j=>C z (z6 _ j)) (fun z j=>hm z (z6 _ j)) (by simpa using f) G]
theorem qB{l m:List Nat}(C:∀x∈l,x<4294967296)(hm:zX m)(h:val m≤val l):m.length≤l.length:=by
 by_cases f:m=[]
 ·simp[f]
 ·have F:=tX hm f;have G:=kJ C;have j:4294967296^(m.length-1)<4294967296^l.length:=by omega
  have:=(wy (by omega)).1 j
  omega
theorem zJz{l m:List Nat}(f:∀x∈l,x<4294967296)(hm:∀x∈m,x<4294967296)(j:zX l)(C:zX m)(h:val l=val m):l=m:=by
 refine zZd f hm ?_ h;have F:=qB f C (by omega)
 have G:=qB hm j (by omega)
 omega
theorem aK{l:List Nat}(j:zX l)(h:val l=0):l=[]:=by
 rcases Classical.em (l=[])with f | f
 ·exact f
 ·have:=tX j f;have:0<4294967296^(l.length-1):=vd (by simp)
  omega
theorem zW{l:List Nat}(F:∀x∈l,x<4294967296)(j:zX l)(k:Nat):l.length≤k↔val l<4294967296^k:=by
 constructor
 ·intro h;exact z8 (kJ F) (ji (by omega) h)
 ·intro h;rcases qg k l.length with f | f
  ·have C:l≠[]:=fun e=>by simp[e]at f
   have G:=tX j C;have I:4294967296^k≤4294967296^(l.length-1):=ji (by omega) (by omega)
   omega
  ·exact f
theorem zLj{i len:Nat}{v:Nat}(h:4294967296^i≤v)(f:v<4294967296^len):i<len:=(wy (by omega:1<4294967296)).1 (by omega)
theorem zCa(l:List Nat)(k x c:Nat)(h:k<l.length):val (l.set k ((l.getD k 0+x+c) % 4294967296))+(l.getD k 0+x+c) / 4294967296*4294967296^(k+1)=val l+x*4294967296^k+c*4294967296^k:=by
 have C:=nN l k ((l.getD k 0+x+c) % 4294967296) h;generalize j:l.getD k 0+x+c=s at *;have f:s % 4294967296+4294967296*(s / 4294967296)=s:=fc s 4294967296;have F:(s % 4294967296)*4294967296^k+s / 4294967296*4294967296^(k+1)=s*4294967296^k:=by
  rw[jd,show s / 4294967296*(4294967296^k*4294967296)=4294967296*(s / 4294967296)*4294967296^k by ac_rfl,←ja,f]
 have G:s*4294967296^k=l.getD k 0*4294967296^k+x*4294967296^k+c*4294967296^k:=by rw[←j,ja,ja]
 omega
end Go.Gv
namespace Go.Gv
open Go.RowKit IntKind
section
variable {P:Program}{ops:Array Oper}{Q:Exit→Act→World→Prop}{S:World→Prop}{T:List Nat}
def jA(T:List Nat)(f:Array Bool):Bool:=T.any fun t=>f.getD t false
def wpT(P:Program)(ops:Array Oper)(Q:Exit→Act→World→Prop)(S:World→Prop)(T:List Nat):Nat→Array Bool→Act→World→Prop
 | 0,f,a,w=>Region.ready .any ops f=[]∧Q .normal a w
 | fuel+1,f,a,w=>
  (Region.ready .any ops f=[]→Q .normal a w)∧
  ∀i∈Region.ready .any ops f,wpOp P ops Q i (fun j w'=>(jA T (f.setIfInBounds i true)=false→S w')∧wpT P ops Q S T fuel (f.setIfInBounds i true) j w') a w
theorem zIs:∀(fuel:Nat)(f:Array Bool)(a:Act)(w:World),wpT P ops Q S T fuel f a w→wpAny P .any ops Q fuel f a w
 | 0,_,_,_,h=>h
 | fuel+1,_,_,_,h=>⟨h.1,fun i F=>wpOp_mono (fun j w' C=>zIs fuel _ j w' C.2) (h.2 i F)⟩
theorem mG{f:Array Bool}{p:Prop}(h:jA T f=true):jA T f=false→p:=fun j=>by rw[h]at j;cases j
theorem vW{f:Array Bool}{j:Nat}(F:j∉T):jA T (f.setIfInBounds j true)=jA T f:=by
 unfold jA;rw[j5,x7,x7];constructor
 ·rintro⟨t,ht,h⟩;have C:j≠t:=fun e=>F (by rw[e];exact ht)
  exact⟨t,ht,by rwa[jg false C]at h⟩
 ·rintro⟨t,ht,h⟩;have C:j≠t:=fun e=>F (by rw[e];exact ht)
  exact⟨t,ht,by rwa[jg false C]⟩
theorem qAm{f:Array Bool}{i j:Nat}{J:Oper}(V:ops[j]?=some J)(W:j∈Region.ready .any ops f)(U:i∈Region.ready .any ops f):∀e∈J.after,Region.binds .any e=true→e.on≠i:=by
 intro e he R heq;obtain⟨_,N,I,F⟩:=xo.1 W;have:N=J:=q8 (I.symm.trans V);subst this;have C:=F e he R;have O:=(xo.1 U).1;rw[heq]at C;rcases qg i f.size with G | G
 ·simp[G]at O C;rw[O]at C;cases C
 ·simp[vu G]at C
theorem lG{i:Nat}{oi:Oper}{v:Value}(hi:ops[i]?=some oi)(R:∀(j:Nat)(o:Oper)cs b,ops[j]?=some o→o.op≠.select cs b)
  (hQ:∀c a w,Q (.panic c) (a.put oi.dst v) w→Q (.panic c) a w) (J:World→Prop)
  (hT:(∀w,J w)∨((∀w,S w→J w)∧∀t∈T,∀ot,ops[t]?=some ot→∃e∈ot.after,Region.binds .any e=true∧e.on=i)) (hiT:i∉T):
  ∀(fuel:Nat)(f:Array Bool)(a:Act)(w:World),
   (∀j oj,ops[j]?=some oj→j≠i→f.getD j true=false→(∀e∈oj.after,Region.binds .any e=true→e.on≠i)→oi.apart ops oj=true)→
   i∈Region.ready .any ops f→YieldsIf P ops J oi v a→((∀w,J w)∨jA T f=false)→(jA T f=false→S w)→J w→
   wpT P ops Q S T fuel (f.setIfInBounds i true) (a.put oi.dst v) w→wpT P ops Q S T (fuel+1) f a w:=by
 intro fuel;induction fuel with
 | zero=>
  intro f a w _ hr hy _ hS W H;refine⟨fun h=>(by rw[h]at hr;cases hr),fun j hj=>?_⟩
  by_cases C:j=i
  ·subst C;exact hy.wpOp hi W ⟨fun Z=>hS (by rwa[vW hiT]at Z),H⟩
  ·have:=dm hj C;rw[H.1]at this;cases this
 | succ fuel ih=>
  intro f a w F hr hy hbt hS W H;refine⟨fun h=>(by rw[h]at hr;cases hr),fun j hj=>?_⟩
  by_cases C:j=i
  ·subst C;exact hy.wpOp hi W ⟨fun Z=>hS (by rwa[vW hiT]at Z),H⟩
  ·have h1:=H.2 j (dm hj C);obtain⟨N,oj,G,hall⟩:=xo.1 hj;have O:=qAm G hj hr;have hjT:(∀w,J w)∨j∉T:=hT.imp id fun h hjt=>by
    obtain⟨e,he,Z,hon⟩:=h.2 j hjt oj G;exact O e he Z hon
   have h2:=wpOp_putIf G (F j oj G C N O) (fun cs b=>R i oi cs b hi) (fun cs b=>R j oj cs b G) hQ hy h1;have I:∀k ok,ops[k]?=some ok→k≠i→(f.setIfInBounds j true).getD k true=false→
     (∀e∈ok.after,Region.binds .any e=true→e.on≠i)→oi.apart ops ok=true:=fun k ok hk hki hun hno=>by
    refine F k ok hk hki ?_ hno;by_cases hjk:j=k
    ·subst hjk;exact N
    ·rw[jg true hjk]at hun;exact hun
   refine wpOp_mono (fun a' w' h3=>?_) h2;have hb':(∀w,J w)∨jA T (f.setIfInBounds j true)=false:=by
    rcases hjT with h | h
    ·exact .inl h
    ·rcases hbt with h' | h'
     ·exact .inl h'
     ·exact .inr (by rw[vW h];exact h')
   have hcomm:jA T ((f.setIfInBounds i true).setIfInBounds j true)=jA T (f.setIfInBounds j true):=by
    rw[y7 _ _ (fun e=>C e.symm)];exact vW hiT
   have V:jA T (f.setIfInBounds j true)=false→S w':=fun Z=>h3.2.1 (by rw[hcomm];exact Z)
   have hSx':J w':=by
    rcases hb' with h | h
    ·exact h w'
    ·rcases hT with U | U
     ·exact U w'
     ·exact U.1 w' (V h)
   refine⟨V,ih (f.setIfInBounds j true) a' w' I (dm hr (Ne.symm C)) h3.1 hb' V hSx' ?_⟩;rw[y7 _ _ C];exact h3.2.2
def zIq(ops:Array Oper)(T:List Nat)(i:Nat):Bool:=T.all fun t=>match ops[t]? with
 | some f=>f.after.any fun e=>Region.binds .any e&&e.on==i
 | none=>true
theorem zIr{i:Nat}(h:zIq ops T i=true):∀t∈T,∀C,ops[t]?=some C→∃e∈C.after,Region.binds .any e=true∧e.on=i:=by
 intro t ht C j;have:=qa.1 h t ht;simp only[j]at this;obtain⟨e,he,f⟩:=Array.any_eq_true'.1 this;simp only[zd,gR]at f;exact⟨e,he,f.1,f.2⟩
def zAc(ops:Array Oper)(T:List Nat)(f:Array Bool)(i:Nat):Bool:=Region.noSelect ops&&(Region.free .any ops f i&&((Region.ready .any ops f).contains i&&!T.contains i))
variable {K:Act→World→Prop}{a:Act}{o:Oper}{n d:Nat}{L:List (Nat×Value)}{D:List Deferred}{E:Nat→Prop}{w0 w:World}{X Y:Hid}{M:List (Nat×Obj)}
theorem rP{f:Array Bool}{i:Nat}(h:zAc ops T f i=true):Region.noSelect ops=true∧Region.free .any ops f i=true∧i∈Region.ready .any ops f∧i∉T:=by
 simp only[zAc,zd]at h;refine⟨h.1,h.2.1,by simpa using h.2.2.1,?_⟩
 have:=h.2.2.2;intro hm;simp[hm]at this
theorem zJ{fuel:Nat}{f:Array Bool}{v:Value}(i:Nat)(F:Fr n a L D)(I:ops[i]?=some o)(W:zAc ops T f i=true)(C:chk ops L o d n=true)
  (j:∀w,(execOp (evL L) o).run P w= .ok (.value v) w) (V:jA T f=false→S w)
  (k:∀G,Fr n G ((d,v)::L) D→wpT P ops Q S T fuel (f.setIfInBounds i true) G w) (U:∀c a w,Q (.panic c) (a.put o.dst v) w→Q (.panic c) a w:=by exact fun _ _ _ h=>h):wpT P ops Q S T (fuel+1) f a w:=by
 obtain⟨J,N,O,R⟩:=rP W;simp only[chk,zd]at C;obtain⟨hd,hlt⟩:=qK C.2.2;refine lG I (wn J) U (fun _=>True) (.inl fun _=>trivial) R fuel f a w (yw I N) O (.inl ⟨F.wanted C.1,fun w _=>by rw[F.exec C.2.1];exact j w⟩) (.inl fun _=>trivial) V trivial ?_
 rw[hd];exact k _ (F.put hlt v)
theorem nW{fuel:Nat}{f:Array Bool}{v:Value}(i:Nat)(F:Fr n a L D)(N:ops[i]?=some o)(Z:zAc ops T f i=true)(G:(zIq ops T i&&!jA T f)=true)(C:chk ops L o d n=true)
  (j:∀w,S w→(execOp (evL L) o).run P w= .ok (.value v) w) (J:S w)
  (k:∀I,Fr n I ((d,v)::L) D→wpT P ops Q S T fuel (f.setIfInBounds i true) I w) (W:∀c a w,Q (.panic c) (a.put o.dst v) w→Q (.panic c) a w:=by exact fun _ _ _ h=>h):wpT P ops Q S T (fuel+1) f a w:=by
 obtain⟨O,R,U,V⟩:=rP Z;simp only[chk,zd,qq]at C G;obtain⟨hd,hlt⟩:=qK C.2.2;refine lG N (wn O) W S (.inr ⟨fun _ h=>h,zIr G.1⟩) V fuel f a w (yw N R) U (.inl ⟨F.wanted C.1,fun w hs=>by rw[F.exec C.2.1];exact j w hs⟩) (.inr G.2) (fun _=>J) J ?_
 rw[hd];exact k _ (F.put hlt v)
theorem lF{fuel:Nat}{f:Array Bool}(h:S w)(k:S w→wpT P ops Q S T fuel f a w):wpT P ops Q S T fuel f a w:=k h
theorem wW{A B C:Prop}(h:A)(k:A→B):(C→A)∧B:=⟨fun _=>h,k h⟩
def yL(P:Program)(ops:Array Oper)(Q:Exit→Act→World→Prop)(S:World→Prop)(T:List Nat)(fuel:Nat)(f:Array Bool)(a:Act)(w:World)(C:List Nat):Prop:=
 ∀i∈C,wpOp P ops Q i (fun j w'=>(jA T (f.setIfInBounds i true)=false→S w')∧wpT P ops Q S T fuel (f.setIfInBounds i true) j w') a w
theorem tH{fuel:Nat}{f:Array Bool}(C:List Nat)(G:Region.ready .any ops f=C)(j:C.isEmpty=false)(h:yL P ops Q S T fuel f a w C):wpT P ops Q S T (fuel+1) f a w:=
 ⟨fun F=>(by rw[G]at F;subst F;cases j),G▸h⟩
theorem yL.nil{fuel:Nat}{f:Array Bool}:yL P ops Q S T fuel f a w []:=fun i j=>by cases j
theorem yL.cons{fuel:Nat}{f:Array Bool}{i:Nat}{F:List Nat}(I:Fr n a L D)(J:ops[i]?=some o)(N:kD ops L o true=true)
  (h:o.wp P a w (fun G w'=>(jA T (f.setIfInBounds i true)=false→S w')∧wpT P ops Q S T fuel (f.setIfInBounds i true) G w') Q) (k:yL P ops Q S T fuel f a w F):yL P ops Q S T fuel f a w (i::F):=fun j C=>by
 rcases qj.1 C with rfl | C
 ·unfold wpOp;simp only[J,I.wanted N,j7];exact .inl h
 ·exact k j C
theorem zDr{fuel:Nat}{j:Array Bool}(C:Region.ready .any ops j=[])(h:Q .normal a w):wpT P ops Q S T fuel j a w:=by
 cases fuel with
 | zero=>exact⟨C,h⟩
 | succ f=>exact⟨fun _=>h,by rw[C];simp⟩
def wD(Q:Exit→Act→World→Prop):Exit→Act→World→Prop
 | .normal,a,w=>Q .normal a w
 | _,_,_=>False
theorem nrm(h:Q .normal a w):wD Q .normal a w:=h
theorem qNg{r:Option Nat}{m:Nat}{id N:Nat}(S:World→Prop)(T:List Nat)(hm:P.follows .mixedOrders=true)(f:ops.size=N)(hd:ops.all (fun o=>vC o.op)=true)(C:¬LetsOut Q)(j:St E w0 X w Y M)
  (k:∀w1,St E w0 X w1 Y M→Le (rd w Y) (rd w1 Y)→Upd E0 w w1→wpT P ops Q S T N (Array.replicate N false) a w1):(Code.region id ops true).wpIn (FF r) m P Q a w:=by
 subst f;refine wpIn_region_draw fun t=>zXz (fun i o ho=>uP.1 hd o (uS ho)) C _ _ _ ?_;simp only[Region.schedule,hm,d8,j7];exact wpAny_sound ops.size t _ a _ (zIs _ _ _ _ (k w.drew (j.call (Upd.drew w)) ((Upd.drew w).le Y) (Upd.drew w)))
theorem bC{r:Option Nat}{m:Nat}{id N:Nat}(S:World→Prop)(T:List Nat)(hm:P.follows .mixedOrders=true)(f:ops.size=N)(hd:ops.all (fun o=>vC o.op)=true)(j:St E w0 X w Y M)
  (k:∀w1,St E w0 X w1 Y M→Le (rd w Y) (rd w1 Y)→Upd E0 w w1→wpT P ops (wD Q) S T N (Array.replicate N false) a w1):(Code.region id ops true).wpIn (FF r) m P Q a w:=
 wpIn_mono (qNg S T hm f hd (fun⟨_,_,h⟩=>h) j k) fun e a w h=>by cases e<;>first | exact h | exact h.elim
end
theorem St.ne{E:Nat→Prop}{w0 w:World}{X Y:Hid}{M:List (Nat×Obj)}(h:St E w0 X w Y M){i j b C:Nat}{o I:Obj}(F:M[i]?=some (b,o))(G:M[j]?=some (C,I))(f:i≠j):b≠C:=by
 intro e;refine f (zDi h.nd (i:=i) (j:=j) (x:=b) ?_ ?_)
 ·rw[qw,F];rfl
 ·rw[qw,G];simp[e]
theorem St.start2{w:World}{X:Hid}{f j:Nat}{G I:Obj}(F:∀k o,X k o→k<w.heap.size)(J:w.heap[f]?=some G)(N:w.heap[j]?=some I)(O:∀o,X f o)(R:∀o,X j o)(C:f≠j):
  St (fun k=>k=f∨k=j) w X w X [(f,G),(j,I)]:=
 ⟨Upd.refl _ _,F,fun _ _ h=>h,fun p hp=>by
  simp only[qj,List.not_mem_nil,or_false]at hp;rcases hp with rfl | rfl
  ·exact⟨J,.inr (.inl rfl),O⟩
  ·exact⟨N,.inr (.inr rfl),R⟩,by simp[C],F⟩
theorem St.atX{E:Nat→Prop}{w0 w:World}{X Y:Hid}{M:List (Nat×Obj)}(h:St E w0 X w Y M)(i:Nat){b:Nat}{c:Array Value}{T:TypeId}(C:M[i]?=some (b,.cells c T (0,0))){f:Hid}(G:∀o,¬f b o):At (rd w f) ⟨b,0,none⟩ c.toList:=by
 intro j v F;rw[jT];refine pF ?_ (G _) (wh w b _ c T (h.get i C));rw[kx w b _ c T (0,0) (h.get i C)];simpa using F
end Go.Gv
namespace Go.Gv
theorem zY.of(l:List Nat)(h:∀x∈l,x<4294967296)(j:l.length≤maxLen){c:Array Value}(f:c.toList=U32 l){n:Nat}(C:n=l.length):zY n n c l:=by
 subst C;refine⟨⟨zq _,j,?_,?_⟩,h⟩
 ·rw[←xe,f];simp
 ·rw[f,yz];exact jv (by simp)
theorem qCq(l:List Nat)(k:Nat):U32 (l.take k)=(U32 l).take k:=by simp[U32]
theorem zY.trimmed{m cap:Nat}{f:Array Value}{l:List Nat}(h:zY m cap f l):zY (qV l) cap f (trimmed l):=by
 have C:=rR l l.length;have F:=h.len;have j:qV l≤m:=by unfold qV;omega
 refine⟨⟨qx j h.row.hn,h.row.hcap,h.row.hsz,?_⟩,tJ h.lt⟩;rw[Go.Gv.trimmed,qCq,←h.row.hxs,List.take_take];congr 1;omega
def zBu(a x c:Nat):Nat:=(a+8589934592-x-c) % 4294967296
def brw(a x c:Nat):Nat:=if a<x+c then 1 else 0
theorem zYx(a x c:Nat):zBu a x c<4294967296:=ub _ (by omega)
theorem qDi(a x c:Nat):brw a x c≤1:=by unfold brw;split<;>omega
theorem qJn(a x c:Nat)(ha:a<4294967296)(j:x<4294967296)(f:c≤1):zBu a x c+x+c=a+brw a x c*4294967296:=by unfold zBu brw;split<;>omega
theorem zCc(l:List Nat)(k x c:Nat)(h:k<l.length)(ha:l.getD k 0<4294967296)(F:x<4294967296)(C:c≤1):
  val (l.set k (zBu (l.getD k 0) x c))+x*4294967296^k+c*4294967296^k=val l+brw (l.getD k 0) x c*4294967296^(k+1):=by
 have G:=nN l k (zBu (l.getD k 0) x c) h;have f:=qJn (l.getD k 0) x c ha F C;have j:(zBu (l.getD k 0) x c+x+c)*4294967296^k=(l.getD k 0+brw (l.getD k 0) x c*4294967296)*4294967296^k:=by rw[f]
 rw[ja,ja,ja,x6 (brw _ _ _),show 4294967296*4294967296^k=4294967296^(k+1)by rw[jd,ud]]at j
 omega
theorem qQi(C f:List Nat)(j c V:Nat)(G:j<f.length)(I:j<C.length)(ha:C.getD j 0<4294967296)(J:f.getD j 0<4294967296)(F:c≤1)(h:val C+val (f.take j)=V+c*4294967296^j):
  val (C.set j (zBu (C.getD j 0) (f.getD j 0) c))+val (f.take (j+1))=V+brw (C.getD j 0) (f.getD j 0) c*4294967296^(j+1):=by
 have N:=zCc C j (f.getD j 0) c I ha J F;rw[yU f j G];omega
theorem qJo(f:List Nat)(j c V W:Nat)(F:j<f.length)(ha:f.getD j 0<4294967296)(C:c≤1)(h:val f+W=V+c*4294967296^j):
  val (f.set j (zBu (f.getD j 0) 0 c))+W=V+brw (f.getD j 0) 0 c*4294967296^(j+1):=by
 have G:=zCc f j 0 c F ha (by omega) C
 omega
theorem tK(l:List Nat):∀k,val l=val (l.take k)+4294967296^k*val (l.drop k):=by
 induction l with
 | nil=>intro k;simp[val]
 | cons x l f=>
  intro k;rcases k with _ | k
  ·simp[val]
  ·simp only[wz,List.drop_succ_cons,val];rw[f k,jd,yc];have:4294967296*(4294967296^k*val (l.drop k))=4294967296^k*4294967296*val (l.drop k):=by ac_rfl
   omega
theorem nE{l m:List Nat}(C:l.length=m.length)(k:Nat)(h:∀j,k≤j→j<l.length→l.getD j 0=m.getD j 0):l.drop k=m.drop k:=by
 apply kj;intro i;rw[jm,jm];by_cases f:k+i<l.length
 ·have:=h (k+i) (by omega) f
  have hm:k+i<m.length:=by omega
  simp only[zp,jn f,jn hm,jt]at this ⊢;rw[this]
 ·rw[qb (by omega),qb (by omega)]
theorem zBx{l:List Nat}(h:∀x∈l,x<4294967296)(k:Nat)(f:k≤l.length):val (l.take k)<4294967296^k:=by
 have:=kJ (l:=l.take k) (fun x j=>h x (wm j));rwa[jo,kg f]at this
theorem zZc{l m:List Nat}(G:∀x∈l,x<4294967296)(f:l.length=m.length)(k:Nat)(F:k<l.length)(h:∀j,k+1≤j→j<l.length→l.getD j 0=m.getD j 0)(hlt:l.getD k 0<m.getD k 0):val l<val m:=by
 rw[tK l (k+1),tK m (k+1),nE f (k+1) h,yU l k F,yU m k (by omega)]
 have I:=zBx G k (by omega)
 have C:(l.getD k 0+1)*4294967296^k≤m.getD k 0*4294967296^k:=q6 _ hlt;rw[ja]at C;omega
theorem jDd{l m:List Nat}(f:l.length=m.length)(h:∀j,0≤j→j<l.length→l.getD j 0=m.getD j 0):val l=val m:=by
 have:=nE f 0 h;rw[xd,xd]at this;rw[this]
theorem zEm{l m:List Nat}(j:∀x∈l,x<4294967296)(f:zX m)(h:l.length<m.length):val l<val m:=by
 have C:=kJ j;have F:=tX f (fun e=>by simp[e]at h)
 have G:4294967296^l.length≤4294967296^(m.length-1):=ji (by omega) (by omega)
 omega
end Go.Gv
namespace Go.Gv
open Go.RowKit IntKind
structure zOz(rec:Loop)(tm:Array Value)(ps:Array Tmp)(assign body:Code):Prop where
 hs:rec.state= .ready
 hp:rec.pending=none
 ht:rec.tmps=tm
 hps:rec.params=ps
 ha:rec.assign=assign
 hb:rec.body=body
def wE(P:Program)(Q:Exit→Act→World→Prop)(A:Act)(l:Nat)(f:World):Prop:=
 ∃rec,f.heap[l]?=some (.loop rec)∧rec.state≠.busy∧
  (match rec.pending with
   | none=>Q .normal A (f.putObj l (.loop {rec with state:= .exhausted}))
   | some c=>c.wpIn (FF none) 0 P Q A (f.putObj l (.loop {rec with state:= .exhausted})))
section
variable {P:Program}{Q:Exit→Act→World→Prop}{a A:Act}{w w0:World}{n:Nat}{L:List (Nat×Value)}{D:List Deferred}{E:Nat→Prop}{X Y:Hid}{M:List (Nat×Obj)}{rec:Loop}{tm:Array Value}{ps:Array Tmp}{assign body:Code}{l:Nat}
def zPi(rec:Loop):Loop:={rec with state:= .busy}
def qMh(rec:Loop):Loop:={rec with state:= .exhausted}
def qBd(rec:Loop):Loop:={rec with state:= .done,pending:=some .ret}
def Act.marked(a:Act)(b:Nat):Act:={a with defers:=mark b::a.defers}
theorem zCq(b:Nat)(f:Fr n a L D):Fr n (Act.marked a b) L (mark b::D):=⟨f.size,by show mark b::a.defers=_;rw[f.defers],f.get⟩
theorem zGo{g:Operand}{f:FuncId}{caps:Array Value}(N:Fr n a L D)(O:St E w0 X w Y M)(R:cov L g=true)(U:evL L g= .func (.func f) #[] caps)
  (C:∀j w,(callFunc f j).run P w= .ok (.enter f j) w)
  (k:∀(rec:Loop)l b w1 F,zOz rec a.tmps ps assign body→St E w0 X w1 F ((l,.loop rec)::(b,.deferred (some []))::M)→Le (rd w Y) (rd w1 F)→Upd E0 w w1→
   Calls P f (#[.func (.yield l) #[] #[]]++caps) w1 (fun e V=>(∃v,e= .returned v)∧wE P Q (Act.marked a b) l V)):
  (Code.rangeFunc g ps assign body).wpIn (FF none) 0 P Q a w:=
 qNi N O R U C fun fn l b w1 F G I J=>k _ l b w1 F ⟨rfl,rfl,rfl,rfl,rfl,rfl⟩ G I J
theorem wE.norm(C:zOz rec tm ps assign body)(f:St E w0 X w Y ((l,.loop rec)::M))(k:∀w1,St E w0 X w1 Y ((l,.loop (qMh rec))::M)→Le (rd w Y) (rd w1 Y)→Q .normal A w1):wE P Q A l w:=by
 refine⟨rec,f.get 0 rfl,by rw[C.hs];simp,?_⟩
 split
 ·exact k _ (f.putObj 0 rfl).1 (f.putObj (o':= .loop (qMh rec)) 0 rfl).2
 ·rename_i c j;rw[C.hp]at j;cases j
theorem wE.ret(f:St E w0 X w Y ((l,.loop (qBd rec))::M))(k:∀w1,St E w0 X w1 Y ((l,.loop (qMh (qBd rec)))::M)→Le (rd w Y) (rd w1 Y)→Q .ret A w1):wE P Q A l w:=by
 refine⟨qBd rec,f.get 0 rfl,by simp[qBd],?_⟩
 exact mM (k _ (f.putObj 0 rfl).1 (f.putObj (o':= .loop (qMh (qBd rec))) 0 rfl).2)
theorem zIt{R:Ending→World→Prop}{p q:Nat}{v u:Value}(C:zOz rec a.tmps #[p,q] assign body)(I:Fr n a L D)(J:St E w0 X w Y ((l,.loop rec)::M))(hp:Nat.blt p n=true)(N:Nat.blt q n=true)
  (k:∀G,Fr n G ((q,u)::(p,v)::L)→assign.wpIn (FF (some l)) 0 P (Exit.then (fun j F=>∃f,(Instr.beginRound l).run P F= .ok () f∧body.wpIn (FF (some l)) 0 P (roundPost P l R) j f) (fun _ _ _=>False)) G w):YieldAt (FF none) 0 P l #[v,u] w R:=by
 refine zZi 0 J rfl (by rw[C.hps];rfl) ?_
 rw[C.ha,C.hb,C.hps,C.ht];exact k _ (qAd I (by simpa[qz]using hp) (by simpa[qz]using N))
theorem zCf{c:Code}{R:Ending→World→Prop}(C:zOz rec tm ps assign body)(j:St E w0 X w Y ((l,.loop rec)::M))
  (k:∀w1,St E w0 X w1 Y ((l,.loop (zPi rec))::M)→Le (rd w Y) (rd w1 Y)→c.wpIn (FF (some l)) 0 P (roundPost P l R) a w1):
  ∃f,(Instr.beginRound l).run P w= .ok () f∧c.wpIn (FF (some l)) 0 P (roundPost P l R) a f:=qQt 0 j rfl C.hs k
theorem gD{R:Ending→World→Prop}(F:zOz rec tm ps assign body)(C:St E w0 X w Y ((l,.loop (zPi rec))::M))
  (k:∀w1,St E w0 X w1 Y ((l,.loop rec)::M)→Le (rd w Y) (rd w1 Y)→R (.returned (.bool true)) w1):roundPost P l R .normal a w:=by
 refine jDi 0 C rfl fun w1 f j=>k w1 ?_ j;have:({zPi rec with state:= .ready,pending:=none}:Loop)=rec:=by
  obtain⟨f,j,_,_,_,_⟩:=F;cases rec;simp only at f j;subst f;subst j;rfl
 rw[this]at f;exact f
theorem jDj{R:Ending→World→Prop}(f:St E w0 X w Y ((l,.loop (zPi rec))::M))
  (k:∀w1,St E w0 X w1 Y ((l,.loop (qBd rec))::M)→Le (rd w Y) (rd w1 Y)→R (.returned (.bool false)) w1):roundPost P l R .ret a w:=
 jFk 0 f rfl k
def vE(J R:World→Prop)(e:Ending)(w:World):Prop:=∃b,e= .returned (.bool b)∧(b=true→J w)∧(b=false→R w)
theorem vE.next{J R:World→Prop}{w:World}(h:J w):vE J R (.returned (.bool true)) w:=⟨true,rfl,fun _=>h,fun e=>absurd e (by decide)⟩
theorem vE.stop{J R:World→Prop}{w:World}(h:R w):vE J R (.returned (.bool false)) w:=⟨false,rfl,fun e=>absurd e (by decide),fun _=>h⟩
theorem vE.ret{J R:World→Prop}{e:Ending}{w:World}(h:vE J R e w):∃v,e= .returned v:=h.elim fun _ h=>⟨_,h.1⟩
end
theorem zY.zeros(m:Nat)(h:m≤maxLen):zY m m (List.replicate m (Value.int .u32 0)).toArray (List.replicate m 0):=by
 refine zY.of _ (fun x f=>?_) (by simpa using h) ?_ (by simp)
 ·rw[List.mem_replicate]at f;omega
 ·simp[U32]
section
variable {P:Program}{Q:Exit→Act→World→Prop}{K:Act→World→Prop}{a:Act}{o:Oper}{n d:Nat}{L:List (Nat×Value)}{D:List Deferred}{E:Nat→Prop}{w0 w:World}{X Y:Hid}{M:List (Nat×Obj)}
theorem qHn{dT sT e:TypeId}{x y:Operand}{g U R sl sc:Nat}{F:Array Value}{T:TypeId}{ad:Option Addr}{l C:List Nat}{Y2:Hid}(i:Nat)(hF:Fr n a L D)(W:opk L o d n=true)(hS:St E w0 X w Y M)
  (ho:o.op= .call {callee:= .builtin .copy,args:=#[x,y],argTypes:=#[dT,sT]}) (Z:evL L x= .slice (some ⟨g,0,none⟩) U R) (hy:evL L y= .slice ad sl sc)
  (hu:P.underlying dT=some (.slice e)) (hs:(P.info? e).map (·.size)=some 1) (hM:M[i]?=some (g,.cells F T (0,0))) (f:zY U R F l) (V:zN (rd w Y2) ad sl sc C) (N:C.length≤U)
  (k:∀G w1,zY U R G (C++l.drop C.length)→St E w0 X w1 Y (M.set i (g,.cells G T (0,0)))→Le (rd w Y) (rd w1 Y)→∀O,Fr n O ((d,.int .i64 (C.length:Int))::L) D→K O w1):o.wp P a w K Q:=by
 obtain rfl:=V.hlen;have J:∀x∈C++l.drop C.length,x<4294967296:=fun x Z=>by
  rcases wb.1 Z with h | h
  ·exact V.hlt x h
  ·exact f.lt x (uY h)
 have hsize:F.size=R:=by have:=f.row.hsz;omega
 have hln:=f.len;have hdc:=f.row.hn;rcases ad with _ | ad
 ·have h0:C=[]:=by rcases V.hat with h | ⟨b,off,e,_⟩;exact h;cases e
  subst h0;simp only[xh,xd,kB]at *;have I:(execOp (evL L) o).run P w= .ok (.value (goInt 0)) w:=by
   unfold execOp;simp only[ho,resolve,invoke,builtin,zk,zm,zg,kb,jl,kO,Z,hy];cases hq:P.info? e with
   | none=>simp[hq]at hs
   | some i=>simp[Builtin.copy_,yq hu,Builtin.lenOf,Builtin.firstCells,sizeOf,typeInfo,hq,storeCells]
  simp only[opk,zd]at W;obtain⟨hd,hlt⟩:=qK W.2;unfold Oper.wp;rw[hF.exec W.1,I];show K (a.put o.dst _) _;rw[hd];refine k F w f ?_ (Le.refl _) _ (hF.put hlt _);have e:M.set i (g,.cells F T (0,0))=M:=by
   obtain⟨hi,hv⟩:=zh.1 hM;rw[←hv,List.set_getElem_self]
  rw[e];exact hS
 ·have hcs:jC w ad (U32 C):=by
   rcases V.hat with rfl | ⟨b,off,e,hat⟩
   ·intro j v hj;simp[U32]at hj
   ·cases e;exact hat.cells
  refine qOw (cs:=U32 C) i hF W hS ho Z hy hu hs hM (by rw[lJ];exact(kg N).symm) hcs (by rw[lJ];omega) (by simp[U32,Value.oneCell']) (fun w1 h1 h3 O h4=>?_)
  rw[lJ]at h1 h4;refine k _ w1 ⟨⟨hdc,f.row.hcap,?_,?_⟩,J⟩ h1 h3 O h4
  ·simp;omega
  ·have h5:=f.row.hxs;rw[yz]at h5 ⊢;rw[show U32 (C++l.drop C.length)=U32 C++(U32 l).drop C.length by simp[U32],←h5,List.take_append,jv (by simpa using N),lJ,List.drop_take]
end
theorem St.leHG{E:Nat→Prop}{w0 w:World}{X Y:Hid}{M:List (Nat×Obj)}(h:St E w0 X w Y M)(i:Nat){b:Nat}{o:Obj}(f:M[i]?=some (b,o)):Le (rd w Y) (rd w (fun k _=>k=b)):=
 Le.unhide fun k C j=>by subst j;exact(h.own _ (qk f)).2.2 C
def qAc(x:Nat):Int:=if x<4294967296^512 then 0 else 4
theorem qMj{l:List Nat}(h:∀x∈l,x<4294967296):qV l≤512↔val l<4294967296^512:=by
 rw[←jK l,←jP l];exact zW (tJ h) (qY l) 512
structure zAh(T:TypeId)(w w':World)(v:Value)(l:List Nat)(ad:Option Addr)(len cap:Nat)(x:Nat):Prop where
 own:zIw w w' T v l ad len cap
 canon:zX l
 val:val l=x
def zEq(T:TypeId)(w w':World)(e:Int)(x:Nat)(v:Value):Prop:=
 (e≠0∧v= .tuple #[.slice none 0 0,.int .i64 e])∨(e=0∧∃u l ad f cap,v= .tuple #[u,.int .i64 0]∧zAh T w w' u l ad f cap x∧l.length≤512)
theorem zEq.ok{T:TypeId}{w w':World}{x:Nat}{v:Value}{e:Int}(h:zEq T w w' e x v)(he:e=0):∃u l ad f cap,v= .tuple #[u,.int .i64 0]∧zAh T w w' u l ad f cap x∧l.length≤512:=by
 rcases h with⟨h,_⟩ | ⟨_,h⟩
 ·exact absurd he h
 ·exact h
theorem zEq.err{T:TypeId}{w w':World}{x:Nat}{v:Value}{e:Int}(h:zEq T w w' e x v)(he:e≠0):v= .tuple #[.slice none 0 0,.int .i64 e]:=by
 rcases h with⟨_,h⟩ | ⟨h,_⟩
 ·exact h
 ·exact absurd h he
theorem zEq.fit{T:TypeId}{w w':World}{g m cap:Nat}{j:Array Value}{l:List Nat}{x:Nat}{v:Value}(f:zY m cap j l)(N:w'.heap[g]?=some (.cells j T (0,0)))(C:w.heap.size≤g)(F:val l=x)
  (hv:v=if 512<qV l then .tuple #[.slice none 0 0,.int .i64 4]else .tuple #[.slice (some ⟨g,0,none⟩) (qV l) cap,.int .i64 0]):zEq T w w' (qAc x) x v:=by
 have G:=qMj f.lt;unfold qAc;by_cases h:qV l≤512
 ·refine .inr ⟨qn (by rw[←F];exact G.1 h),_,Go.Gv.trimmed l,_,_,_,hv.trans (qm (by omega)),⟨⟨rfl,(jP l).symm,tJ f.lt,.inr ⟨g,j,rfl,C,N,f.trimmed⟩⟩,qY l,by rw[jK,F]⟩,by rw[jP];exact h⟩
 ·have I:¬x<4294967296^512:=fun J=>h (G.2 (by rw[F];exact J))
  rw[qm I];exact .inl ⟨by decide,hv.trans (qn (by omega))⟩
def qMi(l:List Nat):Int:=if 512<qV l then 4 else 0
def or2(a b:Int):Int:=if a=0 then b else a
theorem zBk{a b:Int}(h:a≠0):or2 a b=a:=qm h
theorem wM{a b:Int}(h:a=0):or2 a b=b:=qn h
theorem aH(l:List Nat)(k m:Nat):val (l++List.drop k (List.replicate m 0))=val l:=by
 induction l with
 | nil=>simp[vM,val]
 | cons x l f=>rw[x8,val,val,f]
theorem qCv{l f:List Nat}(h:∀x∈l,x<4294967296)(j:∀x∈f,x<4294967296):val l+4294967296^0*val f<4294967296^(max l.length f.length+1):=by
 have C:=kJ h;have F:=kJ j;have G:4294967296^l.length≤4294967296^(max l.length f.length):=ji (by omega) (by omega)
 have I:4294967296^f.length≤4294967296^(max l.length f.length):=ji (by omega) (by omega)
 rw[jd];omega
theorem zN.nil{r:Rd}{cap:Nat}(ad:Option Addr)(h:cap≤9223372036854775807):zN r ad 0 cap []:=⟨rfl,qu _,h,fun x f=>by simp at f,.inl rfl⟩
theorem qOj(f:List Nat)(j x y V:Nat)(G:j+1<f.length)(J:f.getD (j+1) 0=0)(h:val f=V):
  val ((f.set j ((x*y+f.getD j 0) % 4294967296)).set (j+1) ((x*y+f.getD j 0) / 4294967296))=V+x*y*4294967296^j:=by
 have N:=nN f j ((x*y+f.getD j 0) % 4294967296) (by omega)
 have C:=nN (f.set j ((x*y+f.getD j 0) % 4294967296)) (j+1) ((x*y+f.getD j 0) / 4294967296) (by simpa using G)
 rw[xH (by omega),J]at C
 generalize I:x*y+f.getD j 0=s at *;have F:s % 4294967296+4294967296*(s / 4294967296)=s:=fc s 4294967296;have O:(s % 4294967296)*4294967296^j+s / 4294967296*4294967296^(j+1)=s*4294967296^j:=by
  rw[jd,show s / 4294967296*(4294967296^j*4294967296)=4294967296*(s / 4294967296)*4294967296^j by ac_rfl,←ja,F]
 have R:s*4294967296^j=x*y*4294967296^j+f.getD j 0*4294967296^j:=by rw[←I,ja]
 omega
theorem zHb{a b m n k:Nat}(j:a<4294967296^m)(C:b<4294967296^n)(F:m+n≤k):a*b<4294967296^k:=by
 have f:a*b<4294967296^m*4294967296^n:=Nat.mul_lt_mul'' j C;rw[←kf]at f;exact z8 f (ji (by omega) F)
section
variable {P:Program}{Q:Exit→Act→World→Prop}{K:Act→World→Prop}{a:Act}{o:Oper}{n d:Nat}{L:List (Nat×Value)}{D:List Deferred}{E:Nat→Prop}{w0 w:World}{X Y:Hid}{M:List (Nat×Obj)}
theorem zRe{fx:Operand}{xs:Array Operand}{ts:Array TypeId}{f:FuncId}{cap:Array Value}{vs:Array Value}{ob:Obj}{b:Nat}{Ψ:Nat→Obj→Value→Prop}(i:Nat)(hF:Fr n a L D)(hc:opk L o d n=true)(U:St E w0 X w Y M)
  (ho:o.op= .call {callee:= .value fx,args:=xs,argTypes:=ts}) (hf:evL L fx= .func (.func f) #[] cap) (C:xs.map (evL L)++cap=vs)
  (F:∀w,(callFunc f vs).run P w= .ok (.enter f vs) w) (hM:M[i]?=some (b,ob)) (N:Calls P f vs w (Ret (·=b) w fun w1 v=>∃j I,w1.heap[j]?=some I∧(w.heap.size≤j∨j=b)∧Ψ j I v))
  (k:∀v w1 Y1 j I,Ψ j I v→St E w0 X w1 Y1 (M.set i (j,I))→Le (rd w Y) (rd w1 Y1)→∀J,Fr n J ((d,v)::L) D→K J w1):o.wp P a w K Q:=by
 refine zBi i hF hc U ho hf C F hM N (fun v w1 ob' W A Z O J Z1=>?_);obtain⟨j,I,hg,V,R⟩:=W;rcases V with G | rfl
 ·have h2:=Z.adopt (fun o h=>km.2 G (U.lt _ _ h)) (qx U.upd.size G) hg;have h3:=h2.replace i;rw[cF]at h3;exact k v w1 _ j I R h3 (O.adopt G) J Z1
 ·obtain rfl:=q8 (A.symm.trans hg);exact k v w1 Y _ _ R Z O J Z1
theorem St.own_or{b:Nat}{j:Obj}(h:St E w0 X w Y M)(i:Nat)(f:M[i]?=some (b,j)):w0.heap.size≤b∨E b:=(h.own _ (qk f)).2.1
theorem St.mid{p:Nat×Obj}{B:List (Nat×Obj)}(A:List (Nat×Obj))(h:St E w0 X w Y (p::(A++B))):St E w0 X w Y (A++p::B):=by
 have hp:(A++p::B).Perm (p::(A++B)):=vm;exact⟨h.upd,h.lt,h.hid,fun q f=>h.own q (hp.mem_iff.1 f),(hp.map (·.1)).nodup_iff.2 h.nd,h.ltX⟩
def xM(f:List Nat):List (Nat×Obj):=f.map fun b=>(b,.deferred (some []))
theorem jAe{fn:Func}{R:Ending→World→Prop}{rs:List ResultVar}{vs:List Value}{v:Value}{bs:List Nat}{N:List (Nat×Obj)}(j:Fr n a L (bs.map mark))(f:St E w0 X w Y (N++xM bs))(W:fn.results=rs.toArray)(hv:zBo vs=v)
  (k:∀w1,St E w0 X w1 Y N→Le (rd w Y) (rd w1 Y)→Res P L w1 rs vs∧R (.returned v) w1):bodyPostM (FF none) 0 P fn R .ret a w:=by
 show LeavesInM (FF none) 0 P fn a.tmps R a.defers .returning w;rw[j.defers];have F:Fr n {a with defers:=[]} L:=⟨j.size,rfl,j.get⟩
 clear j;induction bs generalizing w with
 | nil=>
  rw[xM,kO,jw]at f;obtain⟨J,O⟩:=k w f (Le.refl _);exact zBe (hv▸sN F W J) O
 | cons b bs ih=>
  have C:St E w0 X w Y ((b,.deferred (some []))::(N++xM bs)):=by
   have hp:((b,Obj.deferred (some []))::(N++xM bs)).Perm (N++(b,Obj.deferred (some []))::xM bs):=vm.symm;exact⟨f.upd,f.lt,f.hid,fun q V=>f.own q (hp.mem_iff.1 V),(hp.map (·.1)).nodup_iff.2 f.nd,f.ltX⟩
  obtain⟨G,I⟩:=C.putObj (o':= .deferred none) 0 rfl;refine⟨by simp,.inl ⟨b,_,rfl,hU (C.get 0 rfl),?_⟩⟩
  exact ih G.tail fun w1 Z U=>k w1 Z (I.trans U)
end
theorem zY.cellX0{w:World}{g m cap:Nat}{f:Array Value}{T:TypeId}{l:List Nat}(h:zY m cap f l)(j:w.heap[g]?=some (.cells f T (0,0))){k:Nat}(C:k<l.length):At (rd w X0) ⟨g,0+k,none⟩ [.int .u32 ((l.getD k 0:Nat):Int)]:=
 ((h.limbs j (Y:=X0) (fun _ h=>h.elim)).cell C)
theorem zY.app{m cap c:Nat}{f:Array Value}{l:List Nat}(h:Row (m+1) cap 1 f (U32 l++[.int .u32 (c:Int)]))(C:∀x∈l,x<4294967296)(G:c<4294967296):zY (m+1) cap f (l++[c]):=by
 refine⟨?_,fun x F=>?_⟩
 ·rw[show U32 (l++[c])=U32 l++[.int .u32 (c:Int)]by simp[U32]];exact h
 ·rcases wb.1 F with j | j
  ·exact C x j
  ·simp at j;omega
theorem jBe(x c:Nat)(f:c≤1):(x*2) % 4294967296||| c=(x*2) % 4294967296+c:=by
 have h:(x*2) % 4294967296=2^1*(x % 2147483648):=by omega
 rw[h];exact(yr (i:=1) (by omega) _).symm
theorem jBf(x r:Nat)(j:x<2147483648)(f:r≤1):x||| r*2147483648=x+r*2147483648:=by
 have:=yr (i:=31) (b:=x) (by omega) r
 rw[Nat.or_comm,ud r,xz];exact this.symm
theorem qLm(x c:Nat)(f:c≤1):rV (((x*2 % 4294967296:Nat)):Int) (c:Int)=((x*2 % 4294967296+c:Nat):Int):=by
 rw[dV _ _ (ub _ (by omega)) (by omega),jBe x c f]
theorem qLn(x r:Nat)(j:x<2147483648)(f:r≤1):rV (x:Int) ((r*2147483648:Nat):Int)=((x+r*2147483648:Nat):Int):=by
 rw[dV _ _ (by omega) (by omega),jBf x r j f]
theorem zPh(x:Nat)(f:x<4294967296):wV (x:Int) 1=((x % 2:Nat):Int):=by
 have h:=aI x 1 f (by omega)
 rw[Nat.and_one_is_mod]at h;exact h
theorem qLx(l f:List Nat)(j c V:Nat)(G:j<l.length)(I:j<f.length)(N:f.getD j 0=l.getD j 0)(h:val f+c*4294967296^j=V+val (l.take j)):
  val (f.set j (l.getD j 0*2 % 4294967296+c))+l.getD j 0 / 2147483648*4294967296^(j+1)=V+val (l.take (j+1)):=by
 have C:=nN f j (l.getD j 0*2 % 4294967296+c) I;rw[N]at C;rw[yU l j G,show l.getD j 0 / 2147483648=l.getD j 0*2 / 4294967296 by omega]
 generalize J:l.getD j 0*2=s at *;have F:s % 4294967296+4294967296*(s / 4294967296)=s:=fc s 4294967296;have O:(s % 4294967296)*4294967296^j+s / 4294967296*4294967296^(j+1)=s*4294967296^j:=by
  rw[jd,show s / 4294967296*(4294967296^j*4294967296)=4294967296*(s / 4294967296)*4294967296^j by ac_rfl,←ja,F]
 have R:s*4294967296^j=2*(l.getD j 0*4294967296^j):=by rw[←J];ac_rfl
 rw[ja]at C;omega
theorem qNf(l f:List Nat)(k r:Nat)(G:k<l.length)(j:k<f.length)(I:f.getD k 0=l.getD k 0)(h:2*val f+r*4294967296^(k+1)=val l+val (l.take (k+1))):
  2*val (f.set k (l.getD k 0 / 2+r*2147483648))+l.getD k 0 % 2*4294967296^k=val l+val (l.take k):=by
 have C:=nN f k (l.getD k 0 / 2+r*2147483648) j;rw[I]at C;rw[yU l k G]at h;generalize J:l.getD k 0=x at *;have F:(2*(x / 2+r*2147483648)+x % 2)*4294967296^k=(x+r*4294967296)*4294967296^k:=by congr 1;omega
 rw[ja,ja x,x6 2,x6 r,show 4294967296*4294967296^k=4294967296^(k+1)by rw[jd,ud]]at F
 omega
theorem zPk{l:List Nat}(C:∀x∈l,x<4294967296)(h:0<l.length→4294967296^(l.length-1)≤val l):zX l:=by
 by_cases f:l.length=0
 ·exact .inl f
 ·refine .inr fun e=>?_;have F:=h (by omega)
  have j:=yU l (l.length-1) (by omega)
  rw[show l.length-1+1=l.length by omega,jz,e]at j
  have G:=zBx C (l.length-1) (by omega)
  omega
theorem zJx{l:List Nat}{c:Nat}(h:c≠0):zX (l++[c]):= .inr (by simpa using h)
theorem rJ{l:List Nat}(f:zX l)(h:l≠[]):0<val l:=z8 (vd (by simp)) (tX f h)
section
variable {m:Nat}{P:Program}{Q:Exit→Act→World→Prop}{a:Act}{w:World}
theorem zMx{c:Code}(h:c.wpIn (FF none) m P (Exit.noGoto Q) a w):(Code.scope c).wpIn (FF none) m P Q a w:=wpIn_wide.2 (wp_scope_straight (wpIn_wide.1 (show c.wpIn Fence.wide m P _ a w from h)))
end
theorem zNq{y:Nat}(h:y % 2=1)(k:Nat):Nat.Coprime (2^k) y:=by
 have f:Nat.Coprime 2 y:=by
  rw[Nat.Coprime,Nat.gcd_rec,h,Nat.gcd_one_left]
 exact Nat.Coprime.pow_left k f
theorem zQb{x y z k:Nat}(j:y % 2=1)(hlt:y≤x)(h:z*2^k=x-y):Nat.gcd z y=Nat.gcd x y:=by
 have f:Nat.gcd (z*2^k) y=Nat.gcd z y:=(zNq j k).gcd_mul_right_cancel z;rw[←f,h,Nat.gcd_sub_self_left hlt]
theorem qFk{a b j k x y:Nat}(ha:a % 2=1)(f:b % 2=1)(C:a*2^j=x)(F:b*2^k=y):Nat.gcd a b*2^(min j k)=Nat.gcd x y:=by
 subst C;subst F;rcases Nat.le_total j k with h | h
 ·rw[kg h];obtain⟨t,rfl⟩:=fR h;rw[kf,show b*(2^j*2^t)=b*2^t*2^j by ac_rfl,Nat.gcd_mul_right]
  congr 1;rw[wa a (b*2^t),wa a b];exact((zNq ha t).gcd_mul_right_cancel b).symm
 ·rw[Nat.min_eq_right h];obtain⟨t,rfl⟩:=fR h;rw[kf,show a*(2^k*2^t)=a*2^t*2^k by ac_rfl,Nat.gcd_mul_right]
  congr 1;exact((zNq f t).gcd_mul_right_cancel a).symm
section
variable {P:Program}{ρ:Operand→Value}{o:Oper}{w:World}
theorem qJd{t t2:TypeId}{xa xb:Operand}{x k:Nat}(ho:o.op= .binOp .shr t xa xb t2)(hx:ρ xa= .int .u32 (x:Int))(hk:ρ xb= .int .i64 (k:Int))(h:k≤32):(execOp ρ o).run P w= .ok (.value (.int .u32 ((x / 2^k:Nat):Int))) w:=by
 unfold execOp;simp only[ho,hx,hk];have h1:=shift_shr_u32 (yk:= .i64) (x:=(x:Int)) (y:=(k:Int)) (by omega) (by omega)
 simp[go_sem,h1]
theorem qJb{t t2:TypeId}{xa xb:Operand}{x k:Nat}(ho:o.op= .binOp .shl t xa xb t2)(hx:ρ xa= .int .u32 (x:Int))(hk:ρ xb= .int .i64 (k:Int))(h:k≤32):(execOp ρ o).run P w= .ok (.value (.int .u32 ((x*2^k % 4294967296:Nat):Int))) w:=by
 unfold execOp;simp only[ho,hx,hk];have h1:=shift_shl_u32 (yk:= .i64) (x:=(x:Int)) (y:=(k:Int)) (by omega) (by omega)
 simp[go_sem,h1,yV]
theorem bW{t:TypeId}{xa xb:Operand}{s:ByteArray}{kd:IntKind}{i:Nat}{b:UInt8}(ho:o.op= .index t xa xb)(ht:P.underlying t=some .string)(hx:ρ xa= .string s)(hk:ρ xb= .int kd (i:Int))(h:s[i]?=some b):(execOp ρ o).run P w= .ok (.value (.int .u8 ((b.toNat:Nat):Int))) w:=by
 unfold execOp;simp only[ho,hx,hk];simp[go_sem,Instr.index,asIntOf,yq ht,h]
end
theorem dL(k:Nat)(h:k≤4611686018427387904):i64.wrap (Int.tdiv (k:Int) 32)=((k / 32:Nat):Int):=by
 rw[Int.tdiv_eq_ediv_of_nonneg (by omega),zAf (by omega) (by omega)];rfl
theorem zDs(k:Nat):Int.tmod (k:Int) 32=((k % 32:Nat):Int):=by
 rw[Int.tmod_eq_emod_of_nonneg (by omega)];rfl
theorem zGd(l:List Nat)(N:∀x∈l,x<4294967296)(k:Nat)(j:k / 32<l.length):l.getD (k / 32) 0 / 2^(k % 32) % 2=val l / 2^k % 2:=by
 have f:=tK l (k / 32);have C:=zBx N (k / 32) (by omega)
 have F:l.drop (k / 32)=l.getD (k / 32) 0::l.drop (k / 32+1):=by
  rw[j9 j];simp[j]
 have G:(2:Nat)^k=4294967296^(k / 32)*2^(k % 32):=by
  rw[show(4294967296:Nat)=2^32 by decide,←y0,←kf,ua]
 rw[F]at f;simp only[val]at f;have I:val l / 4294967296^(k / 32)=l.getD (k / 32) 0+4294967296*val (l.drop (k / 32+1)):=by
  rw[f,yt _ _ (vd (by simp)),ww C,ql]
 rw[G,←fk,I];have J:(4294967296:Nat)=2^(k % 32)*2^(32-k % 32):=by
  rw[←kf,show k % 32+(32-k % 32)=32 by omega]
 rw[J,x6,yt _ _ (wc _)];obtain⟨t,ht⟩:∃t,32-k % 32=t+1:=⟨31-k % 32,by omega⟩
 rw[ht,jd,show 2^t*2*val (l.drop (k / 32+1))=2*(2^t*val (l.drop (k / 32+1)))by ac_rfl]
 omega
theorem qNv(l:List Nat)(C:∀x∈l,x<4294967296)(r:Nat)(F:0<l.length)(h:l.getD (l.length-1) 0<2^r):val l<2^(32*(l.length-1)+r):=by
 have f:=yU l (l.length-1) (by omega)
 rw[show l.length-1+1=l.length by omega,jz]at f
 have G:=zBx C (l.length-1) (by omega)
 have I:(2:Nat)^(32*(l.length-1)+r)=2^r*4294967296^(l.length-1):=by
  rw[kf,y0,ud]
 have j:(l.getD (l.length-1) 0+1)*4294967296^(l.length-1)≤2^r*4294967296^(l.length-1):=q6 _ h;rw[ja]at j;omega
theorem jBd(y k:Nat)(f:k<32)(h:y % 2^(k+1)=0):y||| 2^k=y+2^k:=by
 obtain⟨z,rfl⟩:2^(k+1)∣y:=Nat.dvd_of_mod_eq_zero h;exact(yr (i:=k+1) (b:=2^k) (yu (by omega) (by omega)) z).symm
theorem qGk(l:List Nat)(O:∀x∈l,x<4294967296)(k q:Nat)(F:k / 32<l.length)(h:val l=2^(k+1)*q):l.getD (k / 32) 0 % 2^(k % 32+1)=0:=by
 have f:=tK l (k / 32);have G:=zBx O (k / 32) (by omega)
 have I:l.drop (k / 32)=l.getD (k / 32) 0::l.drop (k / 32+1):=by
  rw[j9 F];simp[F]
 have J:(2:Nat)^(k+1)=4294967296^(k / 32)*2^(k % 32+1):=by
  rw[show(4294967296:Nat)=2^32 by decide,←y0,←kf,←xq,ua]
 rw[I]at f;simp only[val]at f;have j:val l / 4294967296^(k / 32)=l.getD (k / 32) 0+4294967296*val (l.drop (k / 32+1)):=by
  rw[f,yt _ _ (vd (by simp)),ww G,ql]
 rw[h,J,x6,Nat.mul_div_cancel_left _ (vd (by simp))]at j
 have N:(4294967296:Nat)=2^(k % 32+1)*2^(31-k % 32):=by
  rw[←kf,show k % 32+1+(31-k % 32)=32 by omega]
 rw[N,x6]at j;have C:=ju (·% 2^(k % 32+1)) j;simp only[Nat.mul_mod_right,Nat.add_mul_mod_self_left]at C;exact C.symm
theorem zOi(l:List Nat)(C:∀x∈l,x<4294967296)(k q:Nat)(f:k / 32<l.length)(h:val l=2^(k+1)*q):
  rV ((l.getD (k / 32) 0:Nat):Int) ((2^(k % 32):Nat):Int)=((l.getD (k / 32) 0+2^(k % 32):Nat):Int)∧l.getD (k / 32) 0+2^(k % 32)<4294967296∧val (l.set (k / 32) (l.getD (k / 32) 0+2^(k % 32)))=val l+2^k:=by
 have F:=qGk l C k q f h;have j:=jBd _ (k % 32) (by omega) F
 have G:l.getD (k / 32) 0<4294967296:=by
  have:l.getD (k / 32) 0=l[k / 32]:=by simp[f]
  rw[this];exact C _ (j3 f)
 have I:(2:Nat)^(k % 32)<4294967296:=z8 (yu (by omega) (by omega:k % 32<32)) (by decide)
 have J:l.getD (k / 32) 0||| 2^(k % 32)<2^32:=uz (by omega) (by omega)
 refine⟨by rw[dV _ _ G I,j],by rw[j]at J;omega,?_⟩
 have N:=nN l (k / 32) (l.getD (k / 32) 0+2^(k % 32)) f;have O:(2:Nat)^k=2^(k % 32)*4294967296^(k / 32):=by
  rw[show(4294967296:Nat)=2^32 by decide,←y0,←kf,xz,ua]
 rw[ja]at N;omega
theorem zWp(L k:Nat):L / 2^k=2*(L / 2^(k+1))+L / 2^k % 2:=by
 rw[jd,←fk];omega
theorem qMb{L k q d r x:Nat}(h:L / 2^(k+1)=q*d+r)(j:x=2*r+L / 2^k % 2-d)(hd:d≤2*r+L / 2^k % 2):L / 2^k=(2*q+1)*d+x:=by
 have f:=zWp L k;rw[h]at f;rw[ja,x6];omega
theorem qEh{L k q d r x:Nat}(h:L / 2^(k+1)=q*d+r)(j:x=2*r+L / 2^k % 2):L / 2^k=(2*q)*d+x:=by
 have f:=zWp L k;rw[h]at f;rw[x6];omega
theorem zTq{L q d r x:Nat}(h:L / 2^0=q*d+r)(f:r<d)(j:x=2^0*q):x=L / d∧r=L % d:=by
 rw[cI,uk]at h;rw[cI,vw]at j;subst j;subst h;refine⟨?_,?_⟩
 ·rw[xz,Nat.add_mul_div_right _ _ (by omega),ww f,ql]
 ·rw[xz,Nat.add_mul_mod_self_right,ki f]
theorem zSa{P:Program}{ρ:Operand→Value}{o:Oper}{w:World}{t J:TypeId}{f j:Operand}{k:Nat}(ho:o.op= .binOp .shl t f j J)(I:ρ f= .int .u32 1)(G:ρ j= .int .i64 (k:Int))(h:k<32):(execOp ρ o).run P w= .ok (.value (.int .u32 ((2^k:Nat):Int))) w:=by
 have C:=qJb (P:=P) (w:=w) (x:=1) ho I G (by omega)
 have F:(2:Nat)^k<4294967296:=z8 (yu (by omega) h) (by decide)
 rwa[vw,ki F]at C
def RSt(T:TypeId)(rb:List (Nat×Obj))(ad:Option Addr)(cap:Nat)(l:List Nat):Prop:=
 (rb=[]∧ad=none∧cap=0∧l=[])∨∃g f,rb=[(g,.cells f T (0,0))]∧ad=some ⟨g,0,none⟩∧zY l.length cap f l
def DivV(T:TypeId)(w w':World)(e:Int)(x y:Nat)(v:Value):Prop:=
 (e≠0∧v= .tuple #[.slice none 0 0,.slice none 0 0,.int .i64 e])∨
 (e=0∧∃u G l F ad C cap j f I,v= .tuple #[u,G,.int .i64 0]∧zAh T w w' u l ad C cap x∧l.length≤512∧zAh T w w' G F j f I y∧F.length≤512)
theorem zIw.back{w0 w w':World}{T:TypeId}{v:Value}{l:List Nat}{ad:Option Addr}{f cap:Nat}(h:zIw w w' T v l ad f cap)(G:w0.heap.size≤w.heap.size):zIw w0 w' T v l ad f cap:=
 ⟨h.hv,h.hlen,h.hlt,h.own.imp id fun⟨g,j,e,C,ho,F⟩=>⟨g,j,e,qx G C,ho,F⟩⟩
theorem zAh.back{w0 w w':World}{T:TypeId}{v:Value}{l:List Nat}{ad:Option Addr}{f cap x:Nat}(h:zAh T w w' v l ad f cap x)(j:w0.heap.size≤w.heap.size):zAh T w0 w' v l ad f cap x:=⟨h.own.back j,h.canon,h.val⟩
def qD(r:Rd)(ad:Option Addr)(f cap x:Nat):Prop:=∃l,zN r ad f cap l∧zX l∧val l=x
theorem qD.mono{r j:Rd}{ad:Option Addr}{f cap x:Nat}(h:qD r ad f cap x)(k:Le r j):qD j ad f cap x:=h.imp fun _ h=>⟨h.1.mono k,h.2⟩
theorem qD.len0{r:Rd}{ad:Option Addr}{f cap x:Nat}(h:qD r ad f cap x):f=0↔x=0:=by
 obtain⟨l,G,F,rfl⟩:=h;have C:=G.hlen;constructor
 ·intro j;rw[qT (C.symm.trans j)];rfl
 ·intro j;rw[C,aK F j];rfl
theorem qD.len_le{r:Rd}{ad:Option Addr}{f cap x:Nat}(h:qD r ad f cap x)(k:Nat):f≤k↔x<4294967296^k:=by
 obtain⟨l,j,C,rfl⟩:=h;rw[j.hlen];exact zW j.hlt C k
theorem qD.nil{r:Rd}{cap:Nat}(ad:Option Addr)(h:cap≤9223372036854775807):qD r ad 0 cap 0:=⟨[],zN.nil ad h,.inl rfl,rfl⟩
theorem qD.one{r:Rd}{ad:Option Addr}{j cap x:Nat}(h:qD r ad j cap x)(G:j=1):∃b f,ad=some ⟨b,f,none⟩∧x<4294967296∧At r ⟨b,f,none⟩ [.int .u32 (x:Int)]:=by
 obtain⟨l,F,N,rfl⟩:=h;obtain⟨b,f,e,C⟩:=F.addr (by omega)
 have I:=F.hlen;obtain⟨y,rfl⟩:∃y,l=[y]:=by
  match l,I with
  | [y],_=>exact⟨y,rfl⟩
  | [],h=>simp at h;omega
  | _::_::_,h=>simp at h;omega
 have J:=F.hlt y (by simp)
 refine⟨b,f,e,by simpa[val]using J,?_⟩
 simpa[val,U32]using C
theorem qD.of_one{r:Rd}{ad:Option Addr}{f cap:Nat}(h:qD r ad f cap 1):f=1:=by
 have j:=(h.len_le 1).2 (by omega)
 have C:f≠0:=fun e=>absurd (h.len0.1 e) (by omega)
 omega
def zLy(w w':World)(v:Value)(x:Nat):Prop:=∃ad f cap,v= .slice ad f cap∧∀Y:Hid,(∀k o,Y k o→k<w.heap.size)→qD (rd w' Y) ad f cap x
theorem zAh.natV{T:TypeId}{w w':World}{v:Value}{l:List Nat}{ad:Option Addr}{f cap x:Nat}(h:zAh T w w' v l ad f cap x):zLy w w' v x:=
 ⟨ad,f,cap,h.own.hv,fun _ j=>⟨l,h.own.limbs j,h.canon,h.val⟩⟩
theorem zEz{l:List Nat}(h:l.length≤512)(C:zX l):jG l=0:=by
 unfold jG;rw[qm (by omega),qm]
 rintro⟨F,j⟩;rcases C with f | f
 ·omega
 ·exact f j
theorem qD.limbs{r:Rd}{ad:Option Addr}{f cap x:Nat}(h:qD r ad f cap x)(F:x<4294967296^512):∃l,zN r ad f cap l∧zX l∧val l=x∧l.length≤512:=by
 obtain⟨l,C,j,rfl⟩:=h;exact⟨l,C,j,rfl,(zW C.hlt j 512).2 F⟩
def sgn(s:Bool)(n:Nat):Int:=if s then -(n:Int)else n
theorem aZ(s:Bool)(n:Nat):(sgn s n).natAbs=n:=by cases s<;>simp[sgn]
def gP(X:Hid)(w':World)(v:Value)(x:Nat):Prop:=∃ad f cap,v= .slice ad f cap∧qD (rd w' X) ad f cap x
theorem St.lastN{E:Nat→Prop}{w0 w:World}{X Y:Hid}{M:List (Nat×Obj)}(h:St E w0 X w Y M){ad:Option Addr}{f cap x:Nat}(k:qD (rd w Y) ad f cap x):gP X w (.slice ad f cap) x:=⟨ad,f,cap,rfl,k.mono h.le⟩
theorem zNf(n d:Nat)(s:Bool)(hd:0<d):(mkRat (sgn s n) d).num=sgn s (n / Nat.gcd n d):=by
 rw[ut,qm (by omega),aZ,wa]
 cases s
 ·simp[sgn]
 ·simp only[sgn,j7];rw[Int.neg_ediv_of_dvd (by exact_mod_cast gj n d)]
  rfl
theorem qOf(n d:Nat)(s:Bool)(hd:0<d):(mkRat (sgn s n) d).den=d / Nat.gcd n d:=by
 rw[dr,qm (by omega),aZ,wa]
def rW(d:Nat):Nat:=if d=1 then 0 else d
def RatF(r:Rd)(I:Option Addr)(F j:Nat)(G:Option Addr)(C f:Nat)(x:Rat):Prop:=qD r I F j x.num.natAbs∧qD r G C f (rW x.den)
def zAi(X:Hid)(w':World)(v:Value)(x:Rat):Prop:=∃I F j G C f,v= .agg #[.bool (decide (x.num<0)),.slice I F j,.slice G C f]∧RatF (rd w' X) I F j G C f x
theorem bM{X:Hid}{w':World}{n d:Nat}{s:Bool}(U:n≠0)(hd:0<d){I:Option Addr}{F j:Nat}{G:Option Addr}{C f:Nat}(N:qD (rd w' X) I F j (n / Nat.gcd n d))(O:qD (rd w' X) G C f (rW (d / Nat.gcd n d))):
  zAi X w' (.agg #[.bool s,.slice I F j,.slice G C f]) (mkRat (sgn s n) d):=by
 have R:0<Nat.gcd n d:=wx _ hd;have V:0<n / Nat.gcd n d:=Nat.div_pos (Nat.le_of_dvd (by omega) (gj n d)) R
 have J:=zNf n d s hd;refine⟨I,F,j,G,C,f,?_,?_,?_⟩
 ·rw[J];have:decide (sgn s (n / Nat.gcd n d)<0)=s:=by
   cases s
   ·simp only[sgn,xi,wi,decide_eq_false_iff_not];omega
   ·simp only[sgn,j7,u4];omega
  rw[this]
 ·rw[J,aZ];exact N
 ·rw[qOf n d s hd];exact O
theorem zSq{X:Hid}{w':World}{s:Bool}(d:Nat):zAi X w' (.agg #[.bool false,.slice none 0 0,.slice none 0 0]) (mkRat (sgn s 0) d):=by
 have e:mkRat (sgn s 0) d=0:=by cases s<;>simp[sgn,da]
 rw[e];exact⟨none,0,0,none,0,0,rfl,qD.nil none (by omega),qD.nil none (by omega)⟩
theorem zRs{n d:Nat}(f:n≠0)(hd:0<d):0<n / Nat.gcd n d:=Nat.div_pos (Nat.le_of_dvd (by omega) (gj n d)) (wx _ hd)
def zSz(X:Hid)(w':World)(v:Value)(s:Bool)(n d:Nat):Prop:=∃ad C cap j f F,v= .agg #[.slice ad C cap,.slice j f F,.bool s]∧qD (rd w' X) ad C cap n∧qD (rd w' X) j f F d
theorem St.rowX{E:Nat→Prop}{w0 w:World}{X Y:Hid}{M:List (Nat×Obj)}(h:St E w0 X w Y M)(i:Nat){b:Nat}{c:Array Value}{T:TypeId}(j:M[i]?=some (b,.cells c T (0,0)))(F:w0.heap.size≤b){m cap:Nat}{l:List Nat}(f:zY m cap c l):zN (rd w X) (some ⟨b,0,none⟩) m cap l:=
 f.limbs (h.get i j) fun o C=>by have:=h.ltX b o C;omega
theorem qOr{x:Value}(f:x= .int .u32 1):zY 1 1 #[x] [1]:=by subst f;exact zY.of [1] (fun x f=>by simp at f;omega) (by simp[maxLen]) rfl rfl
theorem qOq{r:Rd}{ad:Option Addr}{cap:Nat}(h:zN r ad 1 cap [1]):qD r ad 1 cap 1:=⟨[1],h,.inr (by decide),rfl⟩
abbrev jQ:Nat:=4294967296^128
theorem zOa(B n m:Nat)(f:0<B)(h:n≤m):B^n≤B^m:=ji f h
theorem qPq(B n m:Nat)(h:m=n+n):B^m=B^n*B^n:=by subst h;exact kf B n n
theorem qFv:jQ≤4294967296^512:=zOa 4294967296 128 512 (by decide) (by decide)
theorem qGq(B n k a b:Nat)(f:0<B)(j:a<B^n)(C:b<B^n)(F:n+n≤k):a*b<B^k:=by
 have h:a*b<B^n*B^n:=jq (q6 _ (uB j)) (Nat.mul_lt_mul_of_pos_left C (Nat.pow_pos f));rw[←kf]at h;exact z8 h (zOa B _ _ f F)
theorem qWb{a b:Nat}(h:a<jQ)(f:b<jQ):a*b<4294967296^512:=qGq 4294967296 128 512 a b (by decide) h f (by decide)
theorem kG{a b c d:Nat}(ha:a<jQ)(f:b<jQ)(j:c<jQ)(hd:d<jQ):a*b<4294967296^512∧a*b+c*d<4294967296^512:=by
 have C:a*b<4294967296^256:=zHb ha f (by omega)
 have F:c*d<4294967296^256:=zHb j hd (by omega)
 have G:(4294967296:Nat)^256*2≤4294967296^512:=by
  have:(4294967296:Nat)^512=4294967296^256*4294967296^256:=qPq 4294967296 256 512 rfl;rw[this];exact xx _ (by
   have:(4294967296:Nat)^1≤4294967296^256:=ji (by omega) (by omega)
   omega)
 omega
theorem qJr{s f:Bool}(h:s=f)(a b c d:Nat):sgn s (a*b+c*d)=sgn s a*b+sgn f c*d:=by
 subst h;cases s<;>simp[sgn];rw[yy,yy];omega
theorem jCu{s f:Bool}(h:s≠f){a b c d:Nat}(j:a*b<c*d):sgn f (c*d-a*b)=sgn s a*b+sgn f c*d:=by
 cases s<;>cases f<;>simp[sgn]at h ⊢
 ·rw[yy,ur (by omega)];simp only[xt];omega
 ·rw[yy,ur (by omega)];simp only[xt];omega
theorem jCt{s f:Bool}(h:s≠f){a b c d:Nat}(j:c*d≤a*b):sgn s (a*b-c*d)=sgn s a*b+sgn f c*d:=by
 cases s<;>cases f<;>simp[sgn]at h ⊢
 ·rw[yy,ur (by omega)];simp only[xt];omega
 ·rw[yy,ur (by omega)];simp only[xt];omega
theorem qQf(s f:Bool)(a c:Nat):sgn (!(s==f)) (a*c)=sgn s a*sgn f c:=by
 cases s<;>cases f<;>simp[sgn,yy,Int.mul_neg]
theorem zOj(s:Bool)(a:Nat):sgn (!s) a= - sgn s a:=by cases s<;>simp[sgn]
def nlF:Nat→Nat→List Nat
 | 0,_=>[]
 | f+1,n=>if n=0 then[]else n % 4294967296::nlF f (n / 4294967296)
def kI(n:Nat):List Nat:=nlF (n.log2+1) n
theorem qGt : ∀ (f g n : Nat), n < 2 ^ f → n < 2 ^ g → nlF f n = nlF g n
  | 0, 0, _, _, _ => rfl
  | 0, g + 1, n, h, _ => by have : n = 0 := by simpa using h
                            subst this; rfl
  | f + 1, 0, n, _, h => by have : n = 0 := by simpa using h
                            subst this; rfl
  | f + 1, g + 1, n, h, j => by
    rw [nlF, nlF]
    split
    · rfl
    · rw [jd] at h j
      rw [qGt f g (n / 4294967296) (by omega) (by omega)]
theorem zDh(n:Nat):kI n=if n=0 then[]else n % 4294967296::kI (n / 4294967296):=by
 have f:∀m:Nat,m<2^(m.log2+1):=fun m=>Nat.lt_log2_self;unfold kI;rw[nlF];split
 ·rfl
 ·rename_i C;have j:=f n;rw[jd]at j;rw[qGt n.log2 ((n / 4294967296).log2+1) (n / 4294967296) (by omega) (f _)]
theorem zLa(n:Nat):∀x∈kI n,x<4294967296:=by
 induction n using Nat.strongRecOn with
 | _ n j=>
  rw[zDh];split
  ·simp
  ·intro x f;rcases qj.1 f with e | e
   ·rw[e];exact ub _ (by omega)
   ·exact j (n / 4294967296) (fa (by omega) (by omega)) x e
theorem vV(n:Nat):val (kI n)=n:=by
 induction n using Nat.strongRecOn with
 | _ n f=>
  rw[zDh];split
  ·rename_i h;rw[h];rfl
  ·rw[val,f (n / 4294967296) (fa (by omega) (by omega))];omega
theorem rD(n:Nat):zX (kI n):=by
 induction n using Nat.strongRecOn with
 | _ n C=>
  rw[zDh];split
  ·exact .inl rfl
  ·rename_i h;refine .inr ?_;rcases C (n / 4294967296) (fa (by omega) (by omega))with f | f
   ·have j:kI (n / 4294967296)=[]:=qT f;have F:n / 4294967296=0:=by have:=vV (n / 4294967296);rw[j]at this;simpa[val]using this.symm
    rw[j];simp;omega
   ·have hp:0<(kI (n / 4294967296)).length:=by
     rcases jp (kI (n / 4294967296)).length with e | e
     ·rw[qT e]at f;simp at f
     ·exact e
    obtain⟨t,ht⟩:∃t,(kI (n / 4294967296)).length=t+1:=⟨_,(yb hp).symm⟩;rw[qf,ht];rw[ht]at f;simpa using f
theorem zFw{l:List Nat}(j:∀x∈l,x<4294967296)(f:zX l):l=kI (val l):=zJz j (zLa _) f (rD _) (vV _).symm
theorem qD.lim{r:Rd}{ad:Option Addr}{f cap x:Nat}(h:qD r ad f cap x):zN r ad f cap (kI x):=by
 obtain⟨l,j,C,rfl⟩:=h;rw[←zFw j.hlt C];exact j
theorem zN.natR{r:Rd}{ad:Option Addr}{f cap:Nat}{l:List Nat}(h:zN r ad f cap l)(j:zX l):qD r ad f cap (val l):=⟨l,h,j,rfl⟩
structure Raw where
 neg:Bool
 ln:List Nat
 ld:List Nat
deriving DecidableEq
def Raw.zero:Raw:=⟨false,[],[]⟩
def Raw.of(x:Rat):Raw:=⟨decide (x.num<0),kI x.num.natAbs,kI (rW x.den)⟩
def Raw.d(a:Raw):Nat:=if val a.ld=0 then 1 else val a.ld
def Raw.rat(a:Raw):Rat:=mkRat (sgn a.neg (val a.ln)) a.d
def Raw.chk(a:Raw):Int:=
 if 128<a.ln.length∨128<a.ld.length then 4
 else if jG a.ln≠0∨jG a.ld≠0∨val a.ld=1∨(val a.ln=0∧(a.neg=true∨0<val a.ld))then 2
 else if 0<val a.ld∧Nat.gcd (val a.ln) (val a.ld)≠1 then 2 else 0
def rU(X:Hid)(w':World)(v:Value)(a:Raw):Prop:=∃I F j G C f,v= .agg #[.bool a.neg,.slice I F j,.slice G C f]∧zN (rd w' X) I F j a.ln∧zN (rd w' X) G C f a.ld
theorem zAi.raw{X:Hid}{w':World}{v:Value}{x:Rat}(h:zAi X w' v x):rU X w' v (Raw.of x):=by
 obtain⟨f,j,C,F,G,I,e,J,N⟩:=h;exact⟨f,j,C,F,G,I,e,J.lim,N.lim⟩
theorem Raw.chk_ok{a:Raw}(h:a.chk=0):a.ln.length≤128∧a.ld.length≤128∧zX a.ln∧zX a.ld∧val a.ld≠1∧¬(val a.ln=0∧(a.neg=true∨0<val a.ld))∧¬(0<val a.ld∧Nat.gcd (val a.ln) (val a.ld)≠1):=by
 unfold Raw.chk at h;split at h
 ·cases h
 ·split at h
  ·cases h
  ·split at h
   ·cases h
   ·rename_i j f C;simp only[not_or]at j f;exact⟨by omega,by omega,(pY (Classical.not_not.1 f.1)).2,(pY (Classical.not_not.1 f.2.1)).2,f.2.2.1,f.2.2.2,C⟩
theorem Raw.d_pos(a:Raw):0<a.d:=by unfold Raw.d;split<;>omega
def lX(x:Rat):Int:=if x.num.natAbs<jQ∧rW x.den<jQ then 0 else 4
def opE(a b:Raw)(x:Rat):Int:=or2 (or2 a.chk b.chk) (lX x)
def opR(a b:Raw)(x:Rat):Raw:=if opE a b x=0 then Raw.of x else .zero
theorem zJd(x y:Int):orL [x,y]=or2 x y:=by
 simp only[orL,or2];split
 ·split<;>simp_all
 ·rfl
theorem or2_zero{x y:Int}(h:or2 x y=0):x=0∧y=0:=by
 unfold or2 at h;split at h
 ·exact⟨by assumption,h⟩
 ·exact absurd h (by assumption)
theorem zUs{a b:Raw}{z:Rat}(h:orL [a.chk,b.chk]≠0):opE a b z=orL [a.chk,b.chk]∧opR a b z= .zero:=by
 rw[zJd]at *;have e:opE a b z=or2 a.chk b.chk:=zBk h;exact⟨e,qm (by rw[e];exact h)⟩
theorem zFl{a b:Raw}{z:Rat}(h:orL [a.chk,b.chk]=0)(f:¬(z.num.natAbs<jQ∧rW z.den<jQ)):opE a b z=4∧opR a b z= .zero:=by
 rw[zJd]at h;have e:opE a b z=4:=by unfold opE;rw[wM h,lX,qm f]
 exact⟨e,qm (by rw[e];decide)⟩
theorem zXv{a b:Raw}{z:Rat}(h:orL [a.chk,b.chk]=0)(f:z.num.natAbs<jQ∧rW z.den<jQ):opE a b z=0∧opR a b z= .of z:=by
 rw[zJd]at h;have e:opE a b z=0:=by unfold opE;rw[wM h,lX,qn f]
 exact⟨e,qn e⟩
theorem rZ{X:Hid}{w':World}:rU X w' (.agg #[.bool false,.slice none 0 0,.slice none 0 0]) .zero:=⟨none,0,0,none,0,0,rfl,zN.nil none (by omega),zN.nil none (by omega)⟩
def zMl(x y:Rat):Int:=if x=y then 0 else if x<y then -1 else 1
def xB(a b:Raw):Int:=or2 a.chk b.chk
def yQ(a b:Raw):Int:=if xB a b=0 then zMl a.rat b.rat else 0
theorem qNk{X:Hid}{w':World}{n:Int}{C:Option Addr}{j f:Nat}(h:qD (rd w' X) C j f n.natAbs):zAi X w' (.agg #[.bool (decide (n<0)),.slice C j f,.slice none 0 0]) (n:Rat):=
 ⟨C,j,f,none,0,0,rfl,h,qD.nil none (by omega)⟩
theorem zWm{s:Bool}{m f j:Nat}{C F:Int}(h:sgn s m=C*j+(-F)*f)(G:0<f)(I:0<j):mkRat (sgn s m) (f*j)=mkRat C f-mkRat F j:=by
 rw[Rat.sub_eq_add_neg,Rat.neg_mkRat,ui _ _ (by omega) (by omega),h]
theorem zFz{s:Bool}{m d:Nat}{x y:Rat}(h:mkRat (sgn s m) d=x-y)(hm:m=0):zMl x y=0:=by
 subst hm;have e:mkRat (sgn s 0) d=0:=by cases s<;>simp[sgn,da]
 rw[e]at h;have:x=y:=by grind
 rw[zMl,qn this]
theorem qLs{m d:Nat}{x y:Rat}(h:mkRat (sgn true m) d=x-y)(hm:m≠0)(hd:0<d):zMl x y= -1:=by
 have f:mkRat (sgn true m) d<0:=by
  have:=zNf m d true hd;rw[Rat.lt_iff];rw[this];have:=zRs hm hd;rw[show(0:Rat).num=0 from rfl,show(0:Rat).den=1 from rfl];simp only[sgn,j7];omega
 rw[h]at f;have j:x<y:=by grind
 have C:x≠y:=by grind
 rw[zMl,qm C,qn j]
theorem qLt{m d:Nat}{x y:Rat}(h:mkRat (sgn false m) d=x-y)(hm:m≠0)(hd:0<d):zMl x y=1:=by
 have f:0<mkRat (sgn false m) d:=by
  have:=zNf m d false hd;rw[Rat.lt_iff];rw[this];have:=zRs hm hd;rw[show(0:Rat).num=0 from rfl,show(0:Rat).den=1 from rfl];simp only[sgn,xi,wi];omega
 rw[h]at f;have j:¬x<y:=by grind
 have C:x≠y:=by grind
 rw[zMl,qm C,qm j]
theorem qEc{n d:Nat}(h:0<n)(f:0<d):0<n*d:=uM h f
def jDr(r:Rd)(a:Addr)(x:Raw):Prop:=∃I F j G C f,At r a [.bool x.neg,.slice I F j,.slice G C f]∧zN r I F j x.ln∧zN r G C f x.ld
structure Rats(r:Rd)(ad:Option Addr)(len cap:Nat)(xs:List Raw):Prop where
 hlen:len=xs.length
 hcap:len≤cap
 hbig:cap≤9223372036854775807
 hat:xs=[]∨∃b off,ad=some ⟨b,off,none⟩∧∀i x,xs[i]?=some x→jDr r ⟨b,off+i*3,none⟩ x
def qLa:Raw→List Raw→Raw×Int
 | r,[]=>(r,0)
 | r,x::l=>if opE r x (r.rat+x.rat)=0 then qLa (opR r x (r.rat+x.rat)) l else(.zero,opE r x (r.rat+x.rat))
section
variable {r x y:Raw}{xs ys:List Raw}{k:Nat}
end
structure SlR{α:Type}(El:Rd→Addr→α→Prop)(size:Nat)(r:Rd)(ad:Option Addr)(len cap:Nat)(xs:List α):Prop where
 hlen:len=xs.length
 hcap:len≤cap
 hbig:cap≤9223372036854775807
 hat:xs=[]∨∃b off,ad=some ⟨b,off,none⟩∧∀i x,xs[i]?=some x→El r ⟨b,off+i*size,none⟩ x
structure Out where
 to:Int
 p:Raw
structure zLt where
 cost:Raw
 next:List Out
structure Mdp where
 disc:Raw
 states:List (List zLt)
def zMj(n:Nat):Option Int→List Out→Int
 | _,[]=>0
 | prev,o::l=>
  if o.to<0∨(n:Int)≤o.to then 8
  else if(match prev with | some q=>decide (o.to≤q) | none=>false)=true then 16
  else if o.p.chk≠0 then o.p.chk
  else if o.p.neg=true∨o.p.ln.length=0 then 1
  else zMj n (some o.to) l
def qDs(n:Nat)(a:zLt):Int:=
 if a.cost.chk≠0 then a.cost.chk
 else if a.next.length=0 then 3
 else if 64<a.next.length then 4
 else if zMj n none a.next≠0 then zMj n none a.next
 else if(qLa .zero (a.next.map (·.p))).2≠0 then(qLa .zero (a.next.map (·.p))).2
 else if yQ (qLa .zero (a.next.map (·.p))).1 (.of 1)≠0 then 2 else 0
def zMi(n:Nat):List zLt→Int
 | []=>0
 | a::l=>if qDs n a≠0 then qDs n a else zMi n l
def zKd(n:Nat):List (List zLt)→Int
 | []=>0
 | s::l=>if s.length=0 then 3 else if 6<s.length then 4 else if zMi n s≠0 then zMi n s else zKd n l
def Mdp.chk(m:Mdp):Int:=
 if m.disc.chk≠0 then m.disc.chk
 else if m.disc.neg=true∨0<yQ m.disc (.of 1)then 1
 else if m.states.length=0 then 3
 else if 200<m.states.length then 4
 else zKd m.states.length m.states
def pick(v:List Raw)(o:Out):Raw:=v.getD o.to.toNat .zero
theorem qEk{α:Type}{xs:List α}{k:Nat}{x:α}(j:xs[k]?=some x):xs.drop k=x::xs.drop (k+1):=by
 obtain⟨f,e⟩:=zh.1 j;rw[j9 f,e]
section
variable {acc xs ys:List Raw}{x y:Raw}{k:Nat}
end
section
variable {n k:Nat}{l:List Out}{o q:Out}
end
section
variable {n:Nat}{a:zLt}
end
section
variable {n k:Nat}{s:List zLt}{l:List (List zLt)}{a:zLt}
end
structure RE where
 x:Raw
 an:Option Addr
 ln:Nat
 cn:Nat
 am:Option Addr
 lm:Nat
 cm:Nat
def RE.ok(r:Rd)(e:RE):Prop:=zN r e.an e.ln e.cn e.x.ln∧zN r e.am e.lm e.cm e.x.ld
theorem RE.ok.mono{r f:Rd}{e:RE}(h:e.ok r)(k:Le r f):e.ok f:=⟨h.1.mono k,h.2.mono k⟩
theorem St.perm{E:Nat→Prop}{w0 w:World}{X Y:Hid}{M f:List (Nat×Obj)}(h:St E w0 X w Y M)(hp:f.Perm M):St E w0 X w Y f:=
 ⟨h.upd,h.lt,h.hid,fun x j=>h.own x (hp.mem_iff.1 j),(hp.map (·.1)).nodup_iff.2 h.nd,h.ltX⟩
def gT(e:TypeId)(size:Nat)(rb:List (Nat×Obj))(ad:Option Addr)(m cap:Nat)(xs:List Value):Prop:=
 (rb=[]∧ad=none∧m=0∧cap=0∧xs=[])∨∃g f,rb=[(g,.cells f e (0,0))]∧ad=some ⟨g,0,none⟩∧Row m cap size f xs
theorem gT.nil(e:TypeId)(size:Nat):gT e size [] none 0 0 []:= .inl ⟨rfl,rfl,rfl,rfl,rfl⟩
section
variable {P:Program}{Q:Exit→Act→World→Prop}{K:Act→World→Prop}{a:Act}{o:Oper}{n d:Nat}{L:List (Nat×Value)}{D:List Deferred}{E:Nat→Prop}{w0 w:World}{X Y:Hid}
theorem zXu{t e:TypeId}{s x:Operand}{m c nn cap size:Nat}{U:Option Addr}{xs G:List Value}{ad:Addr}{z:Value}{i0:TypeInfo}{rb A B:List (Nat×Obj)}(F:List (Nat×Obj)→List (Nat×Obj))(hF:Fr n a L D)(hc:opk L o d n=true)(hS:St E w0 X w Y (F rb))(hM:∀rb,F rb=A++(rb++B))
  (ho:o.op= .call {callee:= .builtin .append,args:=#[s,x],argTypes:=#[t,t]}) (hs:evL L s= .slice U nn cap) (hx:evL L x= .slice (some ad) m c)
  (ht:P.underlying t=some (.slice e)) (hi:P.info? e=some i0) (hz:i0.zero=some z) (hsz:i0.size=size) (hzs:z.cells.size=size)
  (J:gT e size rb U nn cap xs) (I:jC w ad G) (hl:G.length=m*size) (h1:G.all Value.oneCell'=true) (hm0:0<m)
  (h63:nn+m≤maxLen) (C:(nn+m)*i0.bytes≤140737488355328)
  (k:∀rb' ad' j w1 O,gT e size rb' ad' (nn+m) j (xs++G)→St E w0 X w1 O (F rb')→Le (rd w Y) (rd w1 O)→∀R,Fr n R ((d,.slice ad' (nn+m) j)::L) D→K R w1):o.wp P a w K Q:=by
 rcases J with⟨rfl,rfl,rfl,rfl,rfl⟩ | ⟨g,V,rfl,rfl,J⟩
 ·refine zHi hF hc hS ho hs hx ht hi hz hsz hzs I hl hm0 (by omega) (by simpa using C) (fun W j f w1 O hr G1 N R Z1=>?_)
  refine k [(W,.cells f e (0,0))] _ _ w1 O (.inr ⟨W,f,rfl,rfl,by simpa using hr⟩) ?_ N R (by rw[ql];exact Z1)
  rw[hM];rw[hM]at G1;exact G1.perm (by simp)
 ·have Z:=hS;rw[hM]at Z;have hi':(A++([(g,Obj.cells V e (0,0))]++B))[A.length]?=some (g,.cells V e (0,0)):=by simp
  refine zLg A.length hF hc Z ho hs hx ht hi hz hsz hzs hi' J I hl h1 h63 C (fun W j f w1 O hr G1 N R Z1=>?_);refine k [(W,.cells f e (0,0))] _ _ w1 O (.inr ⟨W,f,rfl,rfl,hr⟩) ?_ N R Z1;rw[hM];simpa[List.set_append]using G1
theorem qHl{t e:TypeId}{s x:Operand}{m c nn cap size:Nat}{G:Option Addr}{xs f:List Value}{ad:Addr}{z:Value}{N:TypeInfo}{rb R1 B M:List (Nat×Obj)}(i:Nat)(hF:Fr n a L D)(hc:opk L o d n=true)(hS:St E w0 X w Y M)(hM:M.drop i=R1++(rb++B))
  (ho:o.op= .call {callee:= .builtin .append,args:=#[s,x],argTypes:=#[t,t]}) (hs:evL L s= .slice G nn cap) (hx:evL L x= .slice (some ad) m c)
  (ht:P.underlying t=some (.slice e)) (hi:P.info? e=some N) (hz:N.zero=some z) (U:N.size=size) (V:z.cells.size=size)
  (I:gT e size rb G nn cap xs) (F:jC w ad f) (hl:f.length=m*size) (h1:f.all Value.oneCell'=true) (R:0<m)
  (O:nn+m≤maxLen) (j:(nn+m)*N.bytes≤140737488355328)
  (k:∀J ad' C w1 W,gT e size J ad' (nn+m) C (xs++f)→St E w0 X w1 W (M.take i++(R1++(J++B)))→Le (rd w Y) (rd w1 W)→∀Z,Fr n Z ((d,.slice ad' (nn+m) C)::L) D→K Z w1):o.wp P a w K Q:=
 zXu (A:=M.take i++R1) (B:=B) (fun rb=>M.take i++(R1++(rb++B))) hF hc (by rw[←hM,jj];exact hS) (fun _=>by rw[qt]) ho hs hx ht hi hz U V I F hl h1 R O j k
theorem qOv{t e:TypeId}{s x:Operand}{m c nn cap size:Nat}{G:Option Addr}{xs f:List Value}{ad:Addr}{z:Value}{N:TypeInfo}{rb R1 M:List (Nat×Obj)}(i:Nat)(hF:Fr n a L D)(hc:opk L o d n=true)(hS:St E w0 X w Y M)(hM:M.drop i=R1++rb)
  (ho:o.op= .call {callee:= .builtin .append,args:=#[s,x],argTypes:=#[t,t]}) (hs:evL L s= .slice G nn cap) (hx:evL L x= .slice (some ad) m c)
  (ht:P.underlying t=some (.slice e)) (hi:P.info? e=some N) (hz:N.zero=some z) (U:N.size=size) (V:z.cells.size=size)
  (I:gT e size rb G nn cap xs) (F:jC w ad f) (hl:f.length=m*size) (h1:f.all Value.oneCell'=true) (R:0<m)
  (O:nn+m≤maxLen) (j:(nn+m)*N.bytes≤140737488355328)
  (k:∀J ad' C w1 W,gT e size J ad' (nn+m) C (xs++f)→St E w0 X w1 W (M.take i++(R1++J))→Le (rd w Y) (rd w1 W)→∀Z,Fr n Z ((d,.slice ad' (nn+m) C)::L) D→K Z w1):o.wp P a w K Q:=
 zXu (A:=M.take i++R1) (B:=[]) (fun rb=>M.take i++(R1++rb)) hF hc (by rw[←hM,jj];exact hS) (fun _=>by rw[jw,qt]) ho hs hx ht hi hz U V I F hl h1 R O j k
end
section
variable {w0 w:World}{X Y:Hid}{rb A B:List (Nat×Obj)}{e:TypeId}{size m cap:Nat}{ad:Option Addr}
theorem St.pubRow{xs:List Value}(F:List (Nat×Obj)→List (Nat×Obj))(G:St E0 w0 X w Y (F rb))(J:∀rb,F rb=A++(rb++B))(j:gT e size rb ad m cap xs):
  ∃C,St E0 w0 X w C (F [])∧Le (rd w Y) (rd w C)∧((xs=[]∧ad=none∧m=0∧cap=0)∨∃g f,ad=some ⟨g,0,none⟩∧Row m cap size f xs∧At (rd w C) ⟨g,0,none⟩ f.toList):=by
 rcases j with⟨rfl,rfl,rfl,rfl,rfl⟩ | ⟨g,f,rfl,rfl,j⟩
 ·exact⟨Y,G,Le.refl _,.inl ⟨rfl,rfl,rfl,rfl⟩⟩
 ·rw[J]at G;have I:St E0 w0 X w Y ((g,.cells f e (0,0))::(A++B)):=G.perm (by simpa using vm.symm)
  obtain⟨N,O,R⟩:=St.publish I (I.own_ge 0 rfl);exact⟨_,by rw[J];simpa using N,O,.inr ⟨g,f,rfl,j,R⟩⟩
def jDo(r:Rd)(a:Addr)(x:Int):Prop:=At r a [.int .i64 x]
def Ints:=SlR jDo 1
end
theorem qEb(x:Rat):(if rW x.den=0 then 1 else rW x.den)=x.den:=by
 unfold rW;have:=x.den_pos;rcases Classical.em (x.den=1)with h | h
 ·rw[qn h,qn rfl,h]
 ·rw[qm h,qm (by omega)]
theorem zYo(n:Int):sgn (decide (n<0)) n.natAbs=n:=by
 unfold sgn;split
 ·rename_i h;have:=jc h;omega
 ·rename_i h;have:¬n<0:=fun f=>h (kn f);omega
theorem Raw.of_d(x:Rat):(Raw.of x).d=x.den:=by
 unfold Raw.d Raw.of;simp only[vV];exact qEb x
theorem Raw.of_rat(x:Rat):(Raw.of x).rat=x:=by
 unfold Raw.rat;rw[Raw.of_d];simp only[Raw.of,vV,zYo];exact Rat.mkRat_self x
theorem zHd{n k:Nat}(h:n<4294967296^k):(kI n).length≤k:=(zW (zLa n) (rD n) k).2 (by rw[vV];exact h)
theorem Raw.of_chk{x:Rat}(h:lX x=0):(Raw.of x).chk=0:=by
 unfold lX at h;split at h
 ·rename_i I;have O:=zHd I.1;have R:=zHd I.2;have J:=zEz (l:=kI x.num.natAbs) (by omega) (rD _)
  have N:=zEz (l:=kI (rW x.den)) (by omega) (rD _)
  have G:=x.reduced;have hp:=x.den_pos;have F:rW x.den≠1:=by unfold rW;split<;>omega
  unfold Raw.chk Raw.of;simp only[vV];rw[qm (by omega),qm ?_,qm ?_]
  ·rintro⟨f,j⟩;unfold rW at f j;split at f
   ·omega
   ·rename_i C;rw[qm C]at j;exact j G
  ·rintro(f | f | f | ⟨f,j | j⟩)
   ·exact f J
   ·exact f N
   ·exact F f
   ·have:=jc j;omega
   ·unfold rW at j;split at j
    ·omega
    ·rename_i C;rw[f]at G;have:Nat.gcd 0 x.den=1:=G;rw[uy]at this;exact C this
 ·cases h
theorem qKn:Raw.zero.chk=0:=by decide
theorem qBo:Raw.zero.rat=0:=by unfold Raw.rat;simp[Raw.zero,val,sgn,da]
section
variable {x y r:Raw}{z:Rat}
theorem dA(h:opE x y z=0):x.chk=0∧y.chk=0∧opR x y z= .of z∧(opR x y z).rat=z∧(opR x y z).chk=0:=by
 have f:=or2_zero (x:=or2 x.chk y.chk) h;have j:=or2_zero f.1;have e:opR x y z= .of z:=qn h;exact⟨j.1,j.2,e,by rw[e];exact Raw.of_rat z,by rw[e];exact Raw.of_chk f.2⟩
theorem zTm(f:x.chk=0)(j:y.chk=0):xB x y=0:=by unfold xB;rw[f,j];rfl
theorem zTl(j:x.chk=0)(C:y.chk=0):yQ x y<0↔x.rat<y.rat:=by
 unfold yQ;rw[qn (zTm j C)];unfold zMl;split
 ·rename_i h;rw[h];constructor
  ·intro h;exact absurd h (by decide)
  ·intro h;grind
 ·split
  ·rename_i h;simp[h]
  ·rename_i h;constructor
   ·intro h;exact absurd h (by decide)
   ·intro f;exact absurd f h
theorem qDv(f:x.chk=0)(j:y.chk=0):yQ x y≤0↔x.rat≤y.rat:=by
 unfold yQ;rw[qn (zTm f j)];unfold zMl;split
 ·rename_i h;rw[h];exact⟨fun _=>Rat.le_refl,fun _=>kp _⟩
 ·rename_i F;split
  ·rename_i h;constructor
   ·intro _;grind
   ·intro _;decide
  ·rename_i h;constructor
   ·intro h;exact absurd h (by decide)
   ·intro C;grind
end
section
variable {d:Raw}{v:List Raw}{a:zLt}
end
theorem zVe{x:Raw}(h:x.neg=false):0≤x.rat:=by
 unfold Raw.rat;rw[h];rw[←Rat.num_nonneg,ut];split
 ·exact kp _
 ·exact Int.ediv_nonneg (by simp[sgn]) (by omega)
end Go.Gv
namespace Go.Gv
open Go.RowKit Go.ChangeShapes IntKind
theorem zQs{α β:Type}{f:α→Option β}:∀{l:List α}{C:List β},l.mapM f=some C→C.length=l.length∧∀(j:Nat)(a:α),l[j]?=some a→f a=C[j]?
 | [],C,h=>by
  simp at h;subst h;simp
 | a::l,C,h=>by
  rw[yh]at h;cases F:f a with
  | none=>rw[F]at h;cases h
  | some b=>
   rw[F]at h;cases hm:l.mapM f with
   | none=>rw[hm]at h;cases h
   | some I=>
    rw[hm]at h;obtain rfl:b::I=C:=by simpa using h
    obtain⟨J,N⟩:=zQs hm;refine⟨by simp[J],fun j c G=>?_⟩
    rcases j with _ | j
    ·simp at G;subst G;simpa using F
    ·simpa using N j c (by simpa using G)
theorem zKc{w:World}{a:Addr}{n:Nat}{f:List Value}(h:w.cells? 0 a n=some f):f.length=n∧∀j,j<n→w.cell? (a.add j)=f[j]?:=by
 unfold World.cells? at h;rw[qn (qu _)]at h;obtain⟨C,F⟩:=zQs h;rw[uv]at C;exact⟨C,fun j G=>F j j (by simp[G])⟩
theorem zXj{α:Type}{p:Nat→α→Prop}:∀(n:Nat),(∀i,i<n→∃x,p i x)→∃l:List α,l.length=n∧∀i x,l[i]?=some x→p i x
 | 0,_=>⟨[],rfl,fun i x h=>by simp at h⟩
 | n+1,h=>by
  obtain⟨l,j,C⟩:=zXj n (fun i f=>h i (by omega))
  obtain⟨x,G⟩:=h n (by omega)
  refine⟨l++[x],by simp[j],fun i y f=>?_⟩
  rcases qg i n with hlt | F
  ·rw[qh (by omega)]at f
   exact C i y f
  ·rw[jk (by omega)]at f
   have hlt:=(zh.1 f).1;simp at hlt;have:i=n:=by omega
   subst this;rw[j]at f;simp at f;exact f▸G
section
variable {H:Type}{enc:TypeId×Value→H}{P:Program}{w:World}{spare:Nat→Bool}{held:Bool}
def mD(enc:TypeId×Value→H)(P:Program)(w:World)(spare:Nat→Bool)(held:Bool)(n:Nat)(t:TypeId)(f:List Value)(y:DataW H×List MemPlace):Prop:=DataW.trod enc P w 0 spare held n t f=some y∧w.noneFrozen y.2∧∀n∈y.1.weights P t,n≤140737488351232
theorem jDe{e:TypeId}{d:DataW H}{n:Nat}(f:n∈d.weights P e):∀{l:List (DataW H)},d∈l→n∈DataW.weightsAll P e l
 | x::l,h=>by
  rw[DataW.weightsAll,wb];rcases qj.1 h with rfl | h
  ·exact .inl f
  ·exact .inr (jDe f h)
theorem fld{t:TypeId}{C:Array Field}{f:Field}{fuel size:Nat}{I:List Value}{x:DataW H×List MemPlace}(ht:P.underlying t=some (.struct C))(h:mD enc P w spare held fuel t I x)(i:Nat)(F:C[i]?=some f)(R:P.cellsOf f.type=size):
  ∃n y,mD enc P w spare held n f.type ((I.drop f.offset).take size) y:=by
 obtain⟨xs,n,_,J,_,U,N⟩:=DataW.trod_struct ht h.1;have hlt:i<C.size:=(zy.1 F).1;have:=N i f F;rw[R]at this;refine⟨n,xs[i]'(by omega),this.trans (jn _),fun b G hm=>h.2.1 b G ?_,fun k O=>h.2.2 k ?_⟩
 ·rw[J];exact gh.2 ⟨_,j3 _,hm⟩
 ·rw[J];simp only[DataW.weights,ht];exact uK (j:=i) (t:=f.type) (d:=(xs[i]'(by omega)).1) (by rw[qw,ft,F];rfl) (by rw[qw,jn (by omega)];rfl) k O
theorem flen{t:TypeId}{j:Array Field}{fuel size:Nat}{f:List Value}{x:DataW H×List MemPlace}(ht:P.underlying t=some (.struct j))(h:mD enc P w spare held fuel t f x)(F:P.cellsOf t=size):f.length=size:=by
 obtain⟨xs,n,_,_,C,_⟩:=DataW.trod_struct ht h.1;rw[C,F]
def qUv(enc:TypeId×Value→H)(P:Program)(w:World)(spare:Nat→Bool)(held:Bool){α:Type}(e:TypeId)(size:Nat)(C:Rd→Addr→α→Prop):Prop:=
 ∀(n:Nat)(j:List Value)(y:DataW H×List MemPlace)(b f:Nat),mD enc P w spare held n e j y→j.length=size→At (rd w X0) ⟨b,f,none⟩ j→∃x,C (rd w X0) ⟨b,f,none⟩ x
theorem qPa{α:Type}{El:Rd→Addr→α→Prop}{t e:TypeId}{size fuel bts:Nat}{cs:List Value}{x:DataW H×List MemPlace}(ht:P.underlying t=some (.slice e))(hs:P.cellsOf e=size)(h0:0<size)(hb:P.bytesOf e=bts)(hel:qUv enc P w spare held e size El)
  (h:mD enc P w spare held fuel t cs x):∃ad f cap xs,cs=[.slice ad f cap]∧SlR El size (rd w X0) ad f cap xs∧xs.length*bts≤140737488351232:=by
 rcases DataW.trod_slice ht h.1 with⟨rfl,_⟩ | ⟨a,f,cap,N,rest,n,_,rfl,hx,_,hl,hm,hlen,J,_,_⟩
 ·exact⟨none,0,0,[],rfl,⟨rfl,zq _,by omega,.inl rfl⟩,by simp⟩
 ·rw[hs]at J;have W:cap≤9223372036854775807:=by simpa[maxLen]using hm
  have I:∀i,i<f→∃R yi,w.cells? 0 (a.add (i*size)) size=some R∧mD enc P w spare held n e R yi:=fun i hi=>by
   have C:=J i hi;rw[jn (by omega)]at C
   refine fS.1 C |>.imp fun R U=>⟨_,U.1,U.2,fun b G hm=>h.2.1 b G ?_,fun k hk=>h.2.2 k ?_⟩
   ·rw[hx];exact uT _ (gh.2 ⟨_,k9 _ (j3 _),hm⟩)
   ·rw[hx];simp only[DataW.weights,ht];exact z6 _ (k9 _ (jDe hk (List.mem_map_of_mem (j3 _))))
  have O:f*bts≤140737488351232:=by
   have C:=h.2.2 ((N.length+rest.length)*P.bytesOf e) (by rw[hx];simp only[DataW.weights,ht,ku];exact qS)
   rw[hb]at C;exact qx (q6 _ (by omega)) C
  have thaw:∀k,k<f*size→w.frozen? ⟨a.block,a.off+k,none⟩=false:=fun k hk=>h.2.1 _ _ (by
   rw[hx];refine k9 _ (wv.2 ⟨k,List.mem_range.2 ?_,rfl⟩);rw[hs];exact z8 hk (q6 _ (by omega)))
  rcases jp f with rfl | Z
  ·exact⟨some a,0,cap,[],rfl,⟨rfl,qu _,W,.inl rfl⟩,by simp⟩
  ·have hsp:a.spot=none:=by
    obtain⟨R,yi,C,_⟩:=I 0 Z;obtain⟨V,hc⟩:=zKc C;have F:=hc 0 h0;rw[jn (by omega)]at F
    simp only[yp,Addr.add,j7]at F;unfold World.cell? at F;split at F
    ·split at F
     ·cases F
     ·rename_i h3;cases hh:a.spot<;>simp_all
    ·cases F
   obtain⟨b,G,sp⟩:=a;simp only at hsp;subst hsp;obtain⟨xs,hx1,hx2⟩:=zXj (p:=fun i x=>El (rd w X0) ⟨b,G+i*size,none⟩ x) f (fun i hi=>by
    obtain⟨R,yi,C,F⟩:=I i hi;rw[jT]at C;obtain⟨V,hc⟩:=zKc C;refine hel n R yi b _ F V (fun j v hj=>?_);have hj':j<size:=by have:=(zh.1 hj).1;omega
    refine pF ((hc j hj').trans hj) (fun h=>h.elim) ?_;rw[jT,xq];refine thaw (i*size+j) ?_;have h3:(i+1)*size≤f*size:=q6 _ hi;rw[ja,vw]at h3;omega)
   exact⟨_,f,cap,xs,rfl,⟨hx1.symm,hl,W,.inr ⟨b,G,rfl,hx2⟩⟩,by rw[hx1];exact O⟩
end
end Go.Gv
namespace Go.Gv
open Go.RowKit IntKind
section
variable {P:Program}{w:World}
def zEs(o:Oper):TypeId:=match o.op with
 | .load t _=>t
 | _=>0
def ldX(o:Oper):Operand:=match o.op with
 | .load _ x=>x
 | _=> .tmp 0
def ldG(P:Program)(o:Oper):Bool:=match ldT P (zEs o)with
 | some (g,_)=>g
 | none=>false
def clF(o:Oper):Operand:=match o.op with
 | .call c=>(match c.callee with
  | .value x=>x
  | _=> .tmp 0)
 | _=> .tmp 0
def clA(o:Oper):Array Operand:=match o.op with
 | .call c=>c.args
 | _=>#[]
def clT(o:Oper):Array TypeId:=match o.op with
 | .call c=>c.argTypes
 | _=>#[]
def qLo:Value→Array Value
 | .func _ _ c=>c
 | _=>#[]
def vOf(P:Program)(L:List (Nat×Value))(o:Oper)(w:World):Value:=match(execOp (evL L) o).run P w with
 | .ok (.value v) _=>v
 | _=>undef
def bO(M:List (Nat×Obj))(i:Nat):Nat:=match M[i]? with
 | some (b,_)=>b
 | none=>0
def cO(M:List (Nat×Obj))(i:Nat):Array Value:=match M[i]? with
 | some (_,.cells c _ _)=>c
 | _=>#[]
def tO(M:List (Nat×Obj))(i:Nat):TypeId:=match M[i]? with
 | some (_,.cells _ t _)=>t
 | _=>0
def fO(M:List (Nat×Obj))(i:Nat):Nat×Nat:=match M[i]? with
 | some (_,.cells _ _ f)=>f
 | _=>(0,0)
end
section
variable {P:Program}{E:Nat→Prop}{w0 w:World}{X Y:Hid}{M:List (Nat×Obj)}
end
section
variable {P:Program}{Q:Exit→Act→World→Prop}{K:Act→World→Prop}{a:Act}{o:Oper}{n d:Nat}{L:List (Nat×Value)}{D:List Deferred}{E:Nat→Prop}{w0 w:World}{X Y:Hid}{M:List (Nat×Obj)}
end
section
variable {P:Program}{ops:Array Oper}{Q:Exit→Act→World→Prop}{S:World→Prop}{T:List Nat}{a:Act}{o:Oper}{n d:Nat}{L:List (Nat×Value)}{D:List Deferred}{w:World}
def zT(ops:Array Oper)(i:Nat):Oper:=(ops[i]?).getD default
end
section
variable {r:Option Nat}{P:Program}{ops:Array Oper}{Q:Exit→Act→World→Prop}{a:Act}{w:World}{nn m:Nat}{L:List (Nat×Value)}{D:List Deferred}
end
end Go.Gv
namespace Go.Gv
open Go.RowKit IntKind
inductive Fm where
  | seq (c:Code)
  | blk (id:Nat)
  | scp
  | kk (K:Act→World→Prop)
inductive Cu where
  | code (c:Code)
  | ops (o:Array Oper) (l:List Oper)
  | ex (e:Exit)
structure Cf where
 cu:Cu
 k:List Fm
 L:List (Nat×Value)
def QQ(r:Option Nat)(m:Nat)(P:Program)(Q:Exit→Act→World→Prop):List Fm→Exit→Act→World→Prop
 | []=>Q
 | .seq c::k=>Exit.then (fun a w=>c.wpIn (FF r) m P (QQ r m P Q k) a w) (QQ r m P Q k)
 | .blk id::k=>Exit.inBlock id (QQ r m P Q k)
 | .scp::k=>Exit.noGoto (QQ r m P Q k)
 | .kk K::k=>Exit.then K (QQ r m P Q k)
def Cu.wp(r:Option Nat)(m:Nat)(P:Program)(Q:Exit→Act→World→Prop)(a:Act)(w:World):Cu→Prop
 | .code c=>c.wpIn (FF r) m P Q a w
 | .ops o l=>wpListIn (FF r) m P o Q l a w
 | .ex e=>Q e a w
@[irreducible] def Go (r : Option Nat) (m : Nat) (P : Program) (Q : Exit → Act → World → Prop) (n : Nat) (D : List Deferred) (w : World) (c : Cf) : Prop :=
  ∀ a, Fr n a c.L D → c.cu.wp r m P (QQ r m P Q c.k) a w
attribute [local semireducible] Go
def fv{α:Type}(v:Value)(f:Value→α):α:=match v with
 | .int k x=>f (.int k x)
 | .bool b=>f (.bool b)
 | .slice a l c=>f (.slice a l c)
 | .pointer a=>f (.pointer a)
 | .agg j=>f (.agg j)
 | .tuple j=>f (.tuple j)
 | v=>f v
theorem qFg{α:Type}(v:Value)(f:Value→α):fv v f=f v:=by cases v<;>rfl
def opS(P:Program)(n:Nat)(w:World)(ops:Array Oper)(o:Oper)(L:List (Nat×Value)):Option (List (Nat×Value)×World):=
 match o.dst with
 | none=>none
 | some d=>
  bif Nat.blt d n&&vC o.op then
   bif kD ops L o true then
    bif nQ L o then
     match(execOp (evL L) o).run P w with
     | .ok (.value v) w'=>fv v fun v=>some ((d,v)::L,w')
     | _=>none
    else none
   else bif kD ops L o false then some ((d,undef)::L,w)else none
  else none
def zPr(r:Option Nat)(k:List Fm)(L:List (Nat×Value)):Code→Option Cf
 | .seq x y=>some ⟨.code x,.seq y::k,L⟩
 | .skip=>some ⟨.ex .normal,k,L⟩
 | .label _=>some ⟨.ex .normal,k,L⟩
 | .block id x=>some ⟨.code x,.blk id::k,L⟩
 | .exit id=>some ⟨.ex (.exit id),k,L⟩
 | .ret=>some ⟨.ex .ret,k,L⟩
 | .region _ o false=>some ⟨.ops o o.toList,k,L⟩
 | .cond c x y=>bif cov L c then(match evL L c with
  | .bool true=>some ⟨.code x,k,L⟩
  | .bool false=>some ⟨.code y,k,L⟩
  | _=>none)else none
 | .scope x=>match r with
  | none=>some ⟨.code x,.scp::k,L⟩
  | some _=>none
 | _=>none
def exS(e:Exit)(L:List (Nat×Value)):List Fm→Option Cf
 | []=>none
 | f::k=>match e,f with
  | .normal,.seq y=>some ⟨.code y,k,L⟩
  | .normal,.blk _=>some ⟨.ex .normal,k,L⟩
  | .normal,.scp=>some ⟨.ex .normal,k,L⟩
  | .exit id,.blk j=>bif Nat.beq id j then some ⟨.ex .normal,k,L⟩else some ⟨.ex (.exit id),k,L⟩
  | .exit id,_=>some ⟨.ex (.exit id),k,L⟩
  | .ret,_=>some ⟨.ex .ret,k,L⟩
  | _,_=>none
def nx1(r:Option Nat)(P:Program)(n:Nat)(w:World)(c:Cf):Option (Cf×World):=
 match c with
 | ⟨.code x,k,L⟩=>match zPr r k L x with
  | some c=>some (c,w)
  | none=>none
 | ⟨.ops _ [],k,L⟩=>some (⟨.ex .normal,k,L⟩,w)
 | ⟨.ops o (x::l),k,L⟩=>match opS P n w o x L with
  | some (L,w)=>some (⟨.ops o l,k,L⟩,w)
  | none=>none
 | ⟨.ex e,k,L⟩=>match exS e L k with
  | some c=>some (c,w)
  | none=>none
def nx(r:Option Nat)(P:Program)(n:Nat):Nat→World→Cf→Cf×World×Bool
 | 0,w,c=>(c,w,true)
 | k+1,w,c=>match nx1 r P n w c with
  | some (c,w)=>nx r P n k w c
  | none=>(c,w,false)
section
variable {r:Option Nat}{m:Nat}{P:Program}{Q:Exit→Act→World→Prop}{n:Nat}{D:List Deferred}{w:World}
theorem qMs{x:Code}{k:List Fm}{L:List (Nat×Value)}{F:Cf}(h:zPr r k L x=some F)(j:Go r m P Q n D w F):Go r m P Q n D w ⟨.code x,k,L⟩:=by
 intro a f;show x.wpIn (FF r) m P (QQ r m P Q k) a w;cases x<;>simp only[zPr]at h<;>try cases h
 case skip=>exact wX (j a f)
 case label=>exact zMw (j a f)
 case seq x y=>exact zG (fun K I=>wpIn_mono (j a f) (fun e a w G=>by cases e<;>first | exact I _ _ G | exact G))
 case block=>exact kE (j a f)
 case exit=>exact aP (j a f)
 case ret=>exact mM (j a f)
 case region id o b=>
  cases b<;>simp only[zPr]at h<;>try cases h
  have:=j a f;cases o;exact zC this
 case cond c x y=>
  cases C:cov L c<;>simp only[C,ze,zf]at h
  ·cases h
  split at h
  ·rename_i hv;cases h;exact qYp f C hv (j a f)
  ·rename_i hv;cases h;exact qNh f C hv (j a f)
  ·cases h
 case scope x=>
  cases r<;>simp only[]at h<;>cases h;exact zMx (j a f)
theorem jEd{e:Exit}{k:List Fm}{L:List (Nat×Value)}{I:Cf}(h:exS e L k=some I)(G:Go r m P Q n D w I):Go r m P Q n D w ⟨.ex e,k,L⟩:=by
 intro a C;show QQ r m P Q k e a w;cases k with
 | nil=>cases h
 | cons f k=>
  cases e<;>cases f<;>simp only[exS]at h<;>try cases h
  all_goals first
   | exact G a C
   | skip
  rename_i id j;cases F:Nat.beq id j<;>simp only[F,ze,zf]at h<;>cases h
  ·exact zFv F (G a C)
  ·obtain rfl:=qp F;exact mH (G a C)
end
def zZv(c:Cf):Array Oper:=match c.cu with
 | .ops o _=>o
 | _=>#[]
def cop(c:Cf):Oper:=match c.cu with
 | .ops _ (x::_)=>x
 | _=>default
def zWk(c:Cf):List Oper:=match c.cu with
 | .ops _ (_::l)=>l
 | _=>[]
def cd(c:Cf):Nat:=(cop c).dst.getD 0
def zGp(n:Nat)(c:Cf):Bool:=(match c.cu with
 | .ops _ (_::_)=>true
 | _=>false)&&(kD (zZv c) c.L (cop c) true&&(vC (cop c).op&&nQ c.L (cop c)))
def isv(n:Nat)(c:Cf):Bool:=zGp n c&&(match(cop c).dst with
 | some t=>Nat.blt t n
 | none=>false)
def nv0(c:Cf)(v:Value):Cf:=⟨.ops (zZv c) (zWk c),c.k,(cd c,v)::c.L⟩
def nv(c:Cf)(v:Value):Cf:=match c with
 | ⟨.ops o (x::l),k,L⟩=>(match x.dst with
  | some d=>⟨.ops o l,k,(d,v)::L⟩
  | none=>nv0 c v)
 | _=>nv0 c v
theorem zXp(c:Cf)(v:Value):nv c v=nv0 c v:=by
 unfold nv;split
 ·split
  ·rename_i hd;simp only[nv0,zZv,zWk,cd,cop,hd,jt]
  ·rfl
 ·rfl
def n0(c:Cf):Cf:=⟨.ops (zZv c) (zWk c),c.k,c.L⟩
section
variable {r:Option Nat}{m:Nat}{P:Program}{Q:Exit→Act→World→Prop}{n:Nat}{D:List Deferred}{w:World}{c:Cf}
theorem qBn(f:zGp n c=true)(h:∀a,Fr n a c.L D→(cop c).wp P a w (wpListIn (FF r) m P (zZv c) (QQ r m P Q c.k) (zWk c)) (QQ r m P Q c.k)):Go r m P Q n D w c:=by
 intro a j;have h:=h a j;obtain⟨C,k,L⟩:=c;match C,f,j,h with
 | .ops o (x::l),f,j,h=>
  simp only[zGp,xp,zd,zZv,cop]at f;exact qX j (by simp only[f.1,f.2.1,jf]) h
 | .ops o [],f,_,_=>simp[zGp]at f
 | .code _,f,_,_=>simp[zGp]at f
 | .ex _,f,_,_=>simp[zGp]at f
theorem sD(h:isv n c=true):zGp n c=true∧opk c.L (cop c) (cd c) n=true:=by
 simp only[isv,zd]at h;refine⟨h.1,?_⟩;have j:=h.1;simp only[zGp,zd]at j;simp only[opk,zd,aC];refine⟨j.2.2.2,?_⟩;have f:=h.2;unfold cd;cases hd:(cop c).dst<;>simp only[hd]at f ⊢
 ·cases f
 ·simpa using f
theorem qBm{ops:Array Oper}{o:Oper}{l:List Oper}{Q:Exit→Act→World→Prop}{a:Act}{w w':World}{L R:List (Nat×Value)}(G:Fr n a L D)(W:vC o.op=true)(j:zIa P ops n 1 (o::l) L w=some (R,w'))
  (V:∀U,Fr n U R D→wpListIn (FF r) m P ops Q l U w'):wpListIn (FF r) m P ops Q (o::l) a w:=by
 unfold zIa at j;cases hd:o.dst with
 | none=>simp[hd]at j
 | some d=>
  simp only[hd]at j;cases hlt:Nat.blt d n with
  | false=>simp[hlt]at j
  | true=>
   simp only[hlt,ze]at j;have I:d<n:=by simpa[qz]using hlt
   cases J:kD ops L o true with
   | true=>
    simp only[J,ze]at j;cases C:nQ L o with
    | false=>simp[C]at j
    | true=>
     simp only[C,ze]at j;cases O:(execOp (evL L) o).run P w with
     | halt h w1=>simp[O]at j
     | ok x w1=>
      cases x<;>simp only[O]at j<;>try cases j
      rename_i v;refine qX G (by rw[J,W];rfl) ?_
      unfold Oper.wp;rw[G.exec C,O];show wpListIn (FF r) m P ops Q l (a.put o.dst v) w';rw[hd];exact V _ (G.put I v)
   | false=>
    simp only[J,zf]at j;cases F:kD ops L o false with
    | false=>simp[F]at j
    | true=>
     simp only[F,ze]at j;have N:=G.wanted F;cases j;unfold wpListIn;rw[qm (by rw[N];simp),hd]
     exact⟨fun f _=>xD r f,V _ (G.put I _)⟩
theorem qHk{w':World}{ops:Array Oper}{x:Oper}{l:List Oper}{k:List Fm}{L f:List (Nat×Value)}(h:opS P n w ops x L=some (f,w'))(O:Go r m P Q n D w' ⟨.ops ops l,k,f⟩):Go r m P Q n D w ⟨.ops ops (x::l),k,L⟩:=by
 intro a N;show wpListIn (FF r) m P ops (QQ r m P Q k) (x::l) a w;have G:zIa P ops n 1 (x::l) L w=some (f,w')∧vC x.op=true:=by
  unfold opS at h;unfold zIa;cases hd:x.dst with
  | none=>simp[hd]at h
  | some d=>
   simp only[hd]at h ⊢;cases hlt:Nat.blt d n<;>simp only[hlt,uF,xp,zf,ze]at h ⊢
   ·cases h
   cases R:vC x.op<;>simp only[R,zf,ze]at h ⊢
   ·cases h
   refine⟨?_,trivial⟩;cases U:kD ops L x true<;>simp only[U,zf,ze]at h ⊢
   ·cases F:kD ops L x false<;>simp only[F,zf,ze]at h ⊢
    ·cases h
    ·cases h;rfl
   cases C:nQ L x<;>simp only[C,zf,ze]at h ⊢
   ·cases h
   cases I:(execOp (evL L) x).run P w with
   | halt e w1=>simp[I]at h
   | ok y w1=>
    cases y<;>simp only[I,qFg]at h ⊢<;>cases h;rfl
 exact qBm N G.2 G.1 (fun J j=>O J j)
theorem zZl:∀(k:Nat)(w:World)(c:Cf),Go r m P Q n D (nx r P n k w c).2.1 (nx r P n k w c).1→Go r m P Q n D w c
 | 0,_,_,h=>h
 | k+1,w,c,h=>by
  unfold nx at h;split at h
  ·rename_i C w' f;have h:=zZl k w' C h;obtain⟨F,k,L⟩:=c;unfold nx1 at f;match F,f with
   | .code x,f=>
    simp only at f;cases j:zPr r k L x<;>simp only[j]at f<;>cases f;exact qMs j h
   | .ex e,f=>
    simp only at f;cases j:exS e L k<;>simp only[j]at f<;>cases f;exact jEd j h
   | .ops o [],f=>cases f;exact h
   | .ops o (x::l),f=>
    simp only at f;cases j:opS P n w o x L<;>simp only[j]at f<;>cases f;exact qHk j h
  ·exact h
theorem zz(k:Nat)(h:Go r m P Q n D w (nx r P n k w c).1)(f:(nx r P n k w c).2=(w,true):=by kernel_rfl):Go r m P Q n D w c:=
 zZl k w c (by rw[f];exact h)
def st(c:Cf)(t:Nat)(v:Value):Cf:=match c with
 | ⟨f,k,L⟩=>⟨f,k,(t,v)::L⟩
def sl(c:Cf)(t:Nat):Option Value:=bif has c.L t then some (sJ c.L t)else none
theorem zYt{t:Nat}{v:Value}(h:sl c t=some v):has c.L t=true∧sJ c.L t=v:=by
 unfold sl at h;cases f:has c.L t<;>simp only[f,zf,ze]at h<;>cases h;exact⟨rfl,rfl⟩
theorem zs(t:Nat){v v':Value}(e:v=v')(h:Go r m P Q n D w (st c t v'))(hv:sl c t=some v:=by kernel_rfl):Go r m P Q n D w c:=fun a f=>
 h a (f.set t (zYt hv).1 (zYt hv).2 e)
theorem zt(t:Nat){p:Prop}[Decidable p](ht:p→Go r m P Q n D w (st c t (.bool true)))(f:¬p→Go r m P Q n D w (st c t (.bool false)))(hv:sl c t=some (.bool (decide p)):=by kernel_rfl):Go r m P Q n D w c:=by
 by_cases h:p
 ·exact zs t (by rw[kn h]) (ht h) hv
 ·exact zs t (by rw[we h]) (f h) hv
theorem zb(t:Nat){b:Bool}(ht:b=true→Go r m P Q n D w (st c t (.bool true)))(f:b=false→Go r m P Q n D w (st c t (.bool false)))(hv:sl c t=some (.bool b):=by kernel_rfl):Go r m P Q n D w c:=by
 cases b
 ·exact zs t rfl (f rfl) hv
 ·exact zs t rfl (ht rfl) hv
theorem zw(t:Nat){x:Int}(h:Go r m P Q n D w (st c t (.int .i64 x)))(f: -9223372036854775808≤x:=by omega)(j:x≤9223372036854775807:=by omega)(hv:sl c t=some (.int .i64 (i64.wrap x)):=by kernel_rfl):Go r m P Q n D w c:=
 zs t (zQ (zAf f j)) h hv
variable {E:Nat→Prop}{w0:World}{X Y:Hid}{M:List (Nat×Obj)}
theorem zv{v:Value}(f:(execOp (evL c.L) (cop c)).run P w= .ok (.value v) w)(h:Go r m P Q n D w (nv c v))(j:isv n c=true:=by kernel_rfl):Go r m P Q n D w c:=
 qBn (sD j).1 fun _ F=>zE F (sD j).2 f fun _ C=>(zXp c v▸h:Go r m P Q n D w (nv0 c v)) _ C
theorem zl{f:List Value}{ad:Addr}(j:jC w ad f)(h:Go r m P Q n D w (nv c (ldV (ldG P (cop c)) f)))(C:isv n c=true:=by kernel_rfl)
  (ho:(cop c).op= .load (zEs (cop c)) (ldX (cop c)):=by kernel_rfl) (G:evL c.L (ldX (cop c))= .pointer (some ad):=by kernel_rfl) (ht:ldT P (zEs (cop c))=some (ldG P (cop c),f.length):=by kernel_rfl) (F:(ldG P (cop c)||f.length==1)=true:=by kernel_rfl):Go r m P Q n D w c:=
 zv (zB ho G ht (by simpa using F) j) h C
end
end Go.Gv
namespace Go.Gv
open Go.RowKit IntKind
attribute [local semireducible] Go
def aX:Value→Nat
 | .pointer (some a)=>a.off
 | _=>0
def ldM(P:Program)(o:Oper):Nat:=match ldT P (zEs o)with
 | some (_,m)=>m
 | none=>0
section
variable {r:Option Nat}{m:Nat}{P:Program}{Q:Exit→Act→World→Prop}{n:Nat}{D:List Deferred}{w:World}{c:Cf}{E:Nat→Prop}{w0:World}{X Y:Hid}{M:List (Nat×Obj)}
def own(P:Program)(c:Cf)(M:List (Nat×Obj))(i:Nat):List Value:=((cO M i).toList.drop (aX (evL c.L (ldX (cop c))))).take (ldM P (cop c))
theorem zo(i:Nat)(f:St E w0 X w Y M)(h:Go r m P Q n D w (nv c (ldV (ldG P (cop c)) (own P c M i))))(j:isv n c=true:=by kernel_rfl)
  (ho:(cop c).op= .load (zEs (cop c)) (ldX (cop c)):=by kernel_rfl) (G:evL c.L (ldX (cop c))= .pointer (some ⟨bO M i,aX (evL c.L (ldX (cop c))),none⟩):=by kernel_rfl)
  (ht:ldT P (zEs (cop c))=some (ldG P (cop c),(own P c M i).length):=by kernel_rfl) (C:(ldG P (cop c)||(own P c M i).length==1)=true:=by kernel_rfl) (F:M[i]?=some (bO M i,.cells (cO M i) (tO M i) (fO M i)):=by kernel_rfl) (hm:(own P c M i).length=ldM P (cop c):=by kernel_rfl):Go r m P Q n D w c:=
 zv (zB ho G ht (by simpa using C) (f.cells i F (by rw[hm];rfl))) h j
def clV(c:Cf):Option (FuncId×Array Value):=match evL c.L (clF (cop c))with
 | .func (.func f) t cap=>bif t.isEmpty then some (f,(clA (cop c)).map (evL c.L)++cap)else none
 | _=>none
theorem zPo{f:FuncId}{j:Array Value}(h:clV c=some (f,j)):∃cap,evL c.L (clF (cop c))= .func (.func f) #[] cap∧(clA (cop c)).map (evL c.L)++cap=j:=by
 unfold clV at h;split at h
 ·rename_i C t cap he;cases ht:t.isEmpty<;>simp only[ht,ze,zf]at h<;>cases h;obtain rfl:t=#[]:=by simpa using ht
  exact⟨cap,he,rfl⟩
 ·cases h
theorem zc{f:FuncId}{vs:Array Value}{Φ:World→Value→Prop}(V:St E w0 X w Y M)(C:Calls P f vs w (Ret E0 w Φ))
  (k:∀v w1,St E w0 X w1 Y M→Le (rd w Y) (rd w1 Y)→Upd E0 w w1→Φ w1 v→Go r m P Q n D w1 (nv c v))
  (hv:clV c=some (f,vs):=by kernel_rfl) (F:isv n c=true:=by kernel_rfl) (ho:(cop c).op= .call {callee:= .value (clF (cop c)),args:=clA (cop c),argTypes:=clT (cop c)}:=by kernel_rfl)
  (j:∀w,(callFunc f vs).run P w= .ok (.enter f vs) w:=by intro w;kernel_rfl):Go r m P Q n D w c:=by
 obtain⟨cap,W,ha⟩:=zPo hv;exact qBn (sD F).1 fun _ U=>kF U (sD F).2 V ho W ha j C fun v w1 J N O R I G=>(zXp c v▸k v w1 J N O R:Go r m P Q n D w1 (nv0 c v)) I G
theorem zcE{f:FuncId}{vs:Array Value}{ob:Obj}{b:Nat}{Φ:World→Value→Prop}(i:Nat)(Z:St E w0 X w Y M)(W:M[i]?=some (b,ob))(F:Calls P f vs w (Ret (·=b) w Φ))
  (k:∀v w1 j,Φ w1 v→w1.heap[b]?=some j→St E w0 X w1 Y (M.set i (b,j))→Le (rd w Y) (rd w1 Y)→Go r m P Q n D w1 (nv c v))
  (hv:clV c=some (f,vs):=by kernel_rfl) (G:isv n c=true:=by kernel_rfl) (ho:(cop c).op= .call {callee:= .value (clF (cop c)),args:=clA (cop c),argTypes:=clT (cop c)}:=by kernel_rfl)
  (C:∀w,(callFunc f vs).run P w= .ok (.enter f vs) w:=by intro w;kernel_rfl):Go r m P Q n D w c:=by
 obtain⟨cap,hf,ha⟩:=zPo hv;exact qBn (sD G).1 fun _ V=>zBi i V (sD G).2 Z ho hf ha C W F fun v w1 j N O R U J I=>(zXp c v▸k v w1 j N O R U:Go r m P Q n D w1 (nv0 c v)) J I
theorem zn(j:Nat→Value)(F:Obj)(V:St E w0 X w Y M)(k:∀b w1 C,St E w0 X w1 C ((b,F)::M)→Le (rd w Y) (rd w1 C)→Upd E0 w w1→Go r m P Q n D w1 (nv c (j b)))
  (f:∀w,(execOp (evL c.L) (cop c)).run P w= .ok (.value (j w.heap.size)) (w.alloc F):=by intro w;kernel_rfl) (G:isv n c=true:=by kernel_rfl):Go r m P Q n D w c:=
 qBn (sD G).1 fun _ U=>lS j F U (sD G).2 V f fun b w1 C N O R J I=>(zXp c (j b)▸k b w1 C N O R:Go r m P Q n D w1 (nv0 c (j b))) J I
def pn(b:Nat):Value:= .pointer (some ⟨b,0,none⟩)
def stT(o:Oper):TypeId:=match o.op with
 | .store t _ _=>t
 | _=>0
def stA(o:Oper):Operand:=match o.op with
 | .store _ x _=>x
 | _=> .tmp 0
def stV(o:Oper):Operand:=match o.op with
 | .store _ _ x=>x
 | _=> .tmp 0
def wr(c:Cf)(M:List (Nat×Obj))(i:Nat):Array Value:=yJ (cO M i) (aX (evL c.L (stA (cop c)))) (evL c.L (stV (cop c))).cells.toList
def wrO:Obj→Array Value→Obj
 | .cells _ T _,c=> .cells c T (0,0)
 | o,_=>o
def wrM:List (Nat×Obj)→Nat→Array Value→List (Nat×Obj)
 | [],_,_=>[]
 | (b,o)::M,0,c=>(b,wrO o c)::M
 | p::M,i+1,c=>p::wrM M i c
theorem zOv{b:Nat}{c j:Array Value}{T:TypeId}{f:Nat×Nat}:∀{M:List (Nat×Obj)}{i:Nat},M[i]?=some (b,.cells c T f)→wrM M i j=M.set i (b,.cells j T (0,0))
 | [],i,h=>by simp at h
 | p::M,0,h=>by simp at h;subst h;rfl
 | p::M,i+1,h=>by
  rw[uI]at h;simp only[wrM,uA];rw[zOv h]
def isst(n:Nat)(c:Cf):Bool:=zGp n c&&(cop c).dst.isNone
def zQp(P:Program)(t:TypeId):Bool:=match ldT P t with
 | some (g,_)=>g
 | none=>false
theorem zx(i:Nat)(F:Array Value)(R:St E w0 X w Y M)(k:∀w1,St E w0 X w1 Y (wrM M i F)→Le (rd w Y) (rd w1 Y)→Go r m P Q n D w1 (n0 c))
  (f:isst n c=true:=by kernel_rfl) (ho:(cop c).op= .store (stT (cop c)) (stA (cop c)) (stV (cop c)):=by kernel_rfl)
  (ha:evL c.L (stA (cop c))= .pointer (some ⟨bO M i,aX (evL c.L (stA (cop c))),none⟩):=by kernel_rfl)
  (ht:ldT P (stT (cop c))=some (zQp P (stT (cop c)),(evL c.L (stV (cop c))).cells.size):=by kernel_rfl) (J:(evL c.L (stV (cop c))).cells.toList.all Value.oneCell'=true:=by kernel_rfl)
  (I:M[i]?=some (bO M i,.cells (cO M i) (tO M i) (0,0)):=by kernel_rfl) (j:Nat.ble (aX (evL c.L (stA (cop c)))+(evL c.L (stV (cop c))).cells.size) (cO M i).size=true:=by kernel_rfl) (U:wr c M i=F:=by kernel_rfl):Go r m P Q n D w c:=by
 simp only[isst,zd]at f;have C:=f.1;simp only[zGp,zd]at C;exact qBn f.1 fun _ G=>zF i _ G (by simp only[C.2.2.2,f.2,jf]) R ho ha rfl ht rfl J I (je j) U rfl fun w1 N O=>k w1 (by rw[zOv I];exact N) O _ G
end
def bd(fn:Func):Code:=fn.body.getD .skip
section
variable {P:Program}{n:Nat}{D:List Deferred}{w:World}{c:Cf}{E:Nat→Prop}{w0:World}{X Y:Hid}{M:List (Nat×Obj)}
theorem zen{f:FuncId}{j:Array Value}{R:Ending→World→Prop}{fn:Func}(I:P.funcs[f]?=some fn)(h:Go none 0 P (bodyPost P fn R) fn.ntmps [] w ⟨.code (bd fn),[],zEa 0 j.toList⟩)(G:fn.body=some (bd fn):=by rfl)(C:Nat.ble j.toList.length fn.ntmps=true:=by kernel_rfl):Calls P f j w R:=
 zFe I G rfl rfl C fun a F=>h a F
def zVh(fn:Func)(L:List (Nat×Value)):List ResultVar→Option (List Value)
 | []=>some []
 | .tmp t::f=>bif has L t then(match zVh fn L f with
  | some j=>some (sJ L t::j)
  | none=>none)else none
 | _=>none
theorem zDm{fn:Func}{L:List (Nat×Value)}:∀{f:List ResultVar}{j:List Value},zVh fn L f=some j→Res P L w f j
 | [],j,h=>by cases h;exact .nil
 | .tmp t::f,j,h=>by
  unfold zVh at h;cases C:has L t<;>simp only[C,ze,zf]at h
  ·cases h
  cases F:zVh fn L f<;>simp only[F]at h<;>cases h;exact .tmp C (zDm F)
 | .cell .. ::f,j,h=>by simp[zVh]at h
def fin(c:Cf):Bool:=(match c.cu with
 | .ex .ret=>true
 | .ex .normal=>true
 | _=>false)&&c.k.isEmpty
def resP(fn:Func)(c:Cf):Option Value:=bif fin c then(match zVh fn c.L fn.results.toList with
 | some f=>some (zBo f)
 | none=>none)else none
theorem zr'{fn:Func}{R:Ending→World→Prop}{v:Value}(F:R (.returned v) w)(hv:resP fn c=some v:=by kernel_rfl):Go none 0 P (bodyPost P fn R) n [] w c:=by
 intro a C;unfold resP at hv;cases f:fin c<;>simp only[f,ze,zf]at hv
 ·cases hv
 cases j:zVh fn c.L fn.results.toList<;>simp only[j]at hv<;>cases hv;rename_i I;simp only[fin,zd]at f;obtain⟨G,k,L⟩:=c;match G,k,f with
 | .ex .ret,[],_=>exact zWh C (by simp) (zDm j) rfl F
 | .ex .normal,[],_=>exact zPj C (by simp) (zDm j) rfl F
end
def zEr:List (Act→World→Prop)→Code→List Nat→List Fm→Code×List Fm
 | _,c,[],k=>(c,k)
 | K::f,.seq x _,9::p,k=>zEr f x p (.kk K::k)
 | f,.seq x y,0::p,k=>zEr f x p (.seq y::k)
 | f,.seq _ y,_::p,k=>zEr f y p k
 | f,.block id x,_::p,k=>zEr f x p (.blk id::k)
 | f,.scope x,_::p,k=>zEr f x p (.scp::k)
 | f,.cond _ x _,0::p,k=>zEr f x p k
 | f,.cond _ _ y,_::p,k=>zEr f y p k
 | K::f,.loop x,_::p,k=>zEr f x p (.kk K::k)
 | f,.rangeFunc _ _ x _,0::p,_=>zEr f x p []
 | f,.rangeFunc _ _ _ x,_::p,_=>zEr f x p []
 | _,c,_,k=>(c,k)
def zKw:Code→Code
 | .loop x=>x
 | c=>c
section
variable {r:Option Nat}{m:Nat}{P:Program}{Q:Exit→Act→World→Prop}{n:Nat}{D:List Deferred}{w:World}{c:Cf}
theorem jFm{γ:Type}{x:Code}{k:List Fm}(f:γ→List (Nat×Value))(I:γ→World→Prop)(μ:γ→Nat)(j:γ)(R:I j w)
  (round:∀g w1 K,(∀g2 G C,Fr n C (f g2) D→I g2 G→μ g2<μ g→K C G)→I g w1→Go r m P Q n D w1 ⟨.code (zKw x),.kk K::k,f g⟩)
  (hx:c.cu= .code x:=by kernel_rfl) (hl:x= .loop (zKw x):=by kernel_rfl) (hk:c.k=k:=by kernel_rfl) (hs:aO c.L ((f j).map (·.1))=true:=by kernel_rfl) (he:keep c.L ((f j).map (·.1))=f j:=by kernel_rfl):Go r m P Q n D w c:=by
 intro a hF;rw[hx,hl,hk];refine lM (fun g a w=>Fr n a (f g) D∧I g w) μ j ⟨hF.as _ hs he,R⟩ ?_;rintro g O w1 ⟨J,U⟩;exact round g w1 (fun N w'=>∃F,(Fr n N (f F) D∧I F w')∧μ F<μ g) (fun g2 G C V W Z=>⟨g2,⟨V,W⟩,Z⟩) U O J
theorem kT{K:Act→World→Prop}{L:List (Nat×Value)}(C:∀f,Fr n f L D→K f w)(J:c.cu= .ex .normal:=by kernel_rfl)(F:c.k= .kk K::c.k.tail:=by kernel_rfl)(I:aO c.L (L.map (·.1))=true:=by kernel_rfl)(G:keep c.L (L.map (·.1))=L:=by kernel_rfl):Go r m P Q n D w c:=by
 intro a j;rw[J,F];exact C a (j.as _ I G)
end
section
variable {r:Option Nat}{m:Nat}{P:Program}{Q:Exit→Act→World→Prop}{n:Nat}{D:List Deferred}{w:World}{c:Cf}{a:Act}{E:Nat→Prop}{w0:World}{X Y:Hid}{M:List (Nat×Obj)}
def qBe:Code→Array Oper
 | .region _ o _=>o
 | _=>#[]
def opN(ops:Array Oper)(j:Nat):Oper:=(ops[j]?).getD default
theorem zop(x:Code)(j:Nat)(h:∀(a:Act)(K:Act→World→Prop),Fr n a c.L D→(∀{C:List (Nat×Value)}{w':World}{F:Act},Fr n F C D→Go r m P Q n D w' ⟨.ops (qBe x) ((qBe x).toList.drop (j+1)),c.k,C⟩→K F w')→(opN (qBe x) j).wp P a w K (QQ r m P Q c.k))
  (G:c.cu= .ops (qBe x) (opN (qBe x) j::(qBe x).toList.drop (j+1)):=by kernel_rfl) (J:zGp n c=true:=by kernel_rfl):Go r m P Q n D w c:=by
 refine qBn J ?_;obtain⟨O,k,L⟩:=c;simp only at G;subst G;exact fun a I=>h a _ I fun f N=>N _ f
def idX(o:Oper):Operand:=match o.op with
 | .indexAddr _ x _=>x
 | _=> .tmp 0
def idI(o:Oper):Operand:=match o.op with
 | .indexAddr _ _ x=>x
 | _=> .tmp 0
def idT(o:Oper):TypeId:=match o.op with
 | .indexAddr t _ _=>t
 | _=>0
def idE(P:Program)(t:TypeId):TypeId:=match P.underlying t with
 | some (.slice e)=>e
 | _=>0
def ldS(P:Program)(t:TypeId):Nat:=match ldT P t with
 | some (_,m)=>m
 | none=>0
theorem zi{b off len cap:Nat}{kd:IntKind}{i:Int}(j f:Nat)(h:Go r m P Q n D w (nv c (.pointer (some ⟨b,f,none⟩))))(C:0≤i:=by omega)(F:i<len:=by omega)
  (hoff:off+i.toNat*j=f:=by first | rfl | omega | (simp;done) | (simp;omega)) (hm:ldS P (idE P (idT (cop c)))=j:=by kernel_rfl) (J:evL c.L (idX (cop c))= .slice (some ⟨b,off,none⟩) len cap:=by kernel_rfl) (I:evL c.L (idI (cop c))= .int kd i:=by kernel_rfl) (G:isv n c=true:=by kernel_rfl)
  (ho:(cop c).op= .indexAddr (idT (cop c)) (idX (cop c)) (idI (cop c)):=by kernel_rfl) (ht:P.underlying (idT (cop c))=some (.slice (idE P (idT (cop c)))):=by kernel_rfl)
  (he:ldT P (idE P (idT (cop c)))=some (zQp P (idE P (idT (cop c))),ldS P (idE P (idT (cop c)))):=by kernel_rfl):Go r m P Q n D w c:=
 zv (jE ho ht J I he C F (by rw[hm];exact hoff) w) h G
theorem zrR{w:World}{fn:Func}{R:Ending→World→Prop}{G:List ResultVar}{I:List Value}{v:Value}(h:Res P c.L w G I)(j:R (.returned v) w)(F:fn.results=G.toArray:=by kernel_rfl)(hv:zBo I=v:=by kernel_rfl)(C:fin c=true:=by kernel_rfl):Go none 0 P (bodyPost P fn R) n [] w c:=by
 intro a f;simp only[fin,zd]at C;obtain⟨J,k,L⟩:=c;match J,k,C with
 | .ex .ret,[],_=>exact zWh f F h hv j
 | .ex .normal,[],_=>exact zPj f F h hv j
def seqL:Code→Code
 | .seq x _=>x
 | c=>c
def seqR:Code→Code
 | .seq _ y=>y
 | c=>c
abbrev at1(j:List (Act→World→Prop))(f:Func)(p:List Nat):Code:=(zEr j (bd f) p []).1
abbrev at2(j:List (Act→World→Prop))(f:Func)(p:List Nat):List Fm:=(zEr j (bd f) p []).2
theorem zlp{γ:Type}(f:Func)(j:List (Act→World→Prop))(p:List Nat)(C:γ→List (Nat×Value))(I:γ→World→Prop)(μ:γ→Nat)(F:γ)(N:I F w)
  (round:∀g w1 K,(∀g2 J G,Fr n G (C g2) D→I g2 J→μ g2<μ g→K G J)→I g w1→Go r m P Q n D w1 ⟨.code (zKw (at1 j f p)),.kk K::at2 j f p,C g⟩)
  (V:c.cu= .code (at1 j f p):=by kernel_rfl) (R:at1 j f p= .loop (zKw (at1 j f p)):=by kernel_rfl) (O:c.k=at2 j f p:=by kernel_rfl) (U:aO c.L ((C F).map (·.1))=true:=by kernel_rfl) (he:keep c.L ((C F).map (·.1))=C F:=by kernel_rfl):Go r m P Q n D w c:=
 jFm C I μ F N round V R O U he
def cuC(c:Cf):Code:=match c.cu with
 | .code x=>x
 | _=> .skip
theorem zVs(h:Go r m P Q n D w ⟨.code (zKw (cuC c)),.kk (fun _ _=>False)::c.k,c.L⟩)(F:c.cu= .code (cuC c):=by kernel_rfl)(C:cuC c= .loop (zKw (cuC c)):=by kernel_rfl):Go r m P Q n D w c:=by
 intro a j;rw[F,C];refine lM (fun(_:Unit)f w'=>f=a∧w'=w) (fun _=>0) () ⟨rfl,rfl⟩ (by
  rintro _ f w' ⟨rfl,rfl⟩;exact wpIn_mono (h f j) fun e a w h=>by cases e<;>first | exact h.elim | exact h)
theorem jFl{γ:Type}(f:γ→List (Nat×Value))(I:γ→World→Prop)(U:∀g w1,I g w1→Go r m P Q n D w1 ⟨.code (seqR (cuC c)),c.k,f g⟩)
  (G:∀K,(∀g J j,Fr n j (f g) D→I g J→K j J)→Go r m P Q n D w ⟨.code (seqL (cuC c)),.kk K::c.k,c.L⟩)
  (R:c.cu= .code (cuC c):=by kernel_rfl) (O:cuC c= .seq (seqL (cuC c)) (seqR (cuC c)):=by kernel_rfl):Go r m P Q n D w c:=by
 intro a N;rw[R,O];refine jEe (fun a w=>∃g,Fr n a (f g) D∧I g w) (G _ (fun g J j C F=>⟨g,C,F⟩) a N) ?_;rintro a w ⟨g,C,F⟩;exact U g w F a C
end
end Go.Gv

import Derived.WalkKit
import Derived.KernelRfl
import Derived.OrdersHeld
import Derived.Deep.RegionHeld3
import Derived.TacticsIn
import Derived.RangeFuncOwn
import Derived.RangeFuncLeaves
import Derived.RangeFuncCalls
import Derived.Scope
import Derived.ProofKit
import Derived.SizedLaws
set_option linter.unusedVariables false
set_option linter.unusedSimpArgs false
set_option linter.unnecessarySimpa false
namespace Go.Gv
open Go.RowKit IntKind
theorem kr{p:Prop}(h:p:=by kernel_rfl):p:=h
theorem kw{α:Type}{p:α→Prop}(h:∀w,p w:=by intro w;kernel_rfl):∀w,p w:=h
theorem ir{p:Prop}(h:p:=by first | exact .inl rfl | exact .inr rfl):p:=h
def tY:List (Nat×Value)→Nat→Value
 | [],_=>undef
 | (k,v)::l,t=>bif Nat.beq k t then v else tY l t
def has:List (Nat×Value)→Nat→Bool
 | [],_=>false
 | (k,_)::l,t=>bif Nat.beq k t then true else has l t
structure Fr(n:Nat)(a:Act)(L:List (Nat×Value))(D:List Deferred:=[]):Prop where
 size:a.tmps.size=n
 defers:a.defers=D
 get:∀t,has L t=true→a.tmps[t]?=some (tY L t)
def evL(L:List (Nat×Value)):Operand→Value
 | .tmp t=>tY L t
 | .const v=>v
 | .global g=> .pointer (some ⟨g,0,none⟩)
 | .func f=> .func (.func f) #[] #[]
def cov(L:List (Nat×Value)):Operand→Bool
 | .tmp t=>has L t
 | _=>true
def zLj(L:List (Nat×Value)):List Operand→Bool
 | []=>true
 | x::xs=>cov L x&&zLj L xs
theorem lY{L:List (Nat×Value)}:∀{xs:List Operand},zLj L xs=true→∀x∈xs,cov L x=true
 | [],_,x,h=>by cases h
 | y::ys,hc,x,h=>by
  simp only[zLj,Bool.and_eq_true]at hc;rcases List.mem_cons.1 h with rfl | h
  ·exact hc.1
  ·exact lY hc.2 x h
theorem Fr.getD{n:Nat}{a:Act}{L:List (Nat×Value)}{D:List Deferred}(h:Fr n a L D){t:Nat}(ht:has L t=true):a.tmps.getD t undef=tY L t:=by
 have:=h.get t ht;simp[this]
theorem Fr.eval{n:Nat}{a:Act}{L:List (Nat×Value)}{D:List Deferred}(h:Fr n a L D){x:Operand}(hc:cov L x=true):a.eval x=evL L x:=by
 cases x with
 | tmp t=>exact h.getD hc
 | _=>rfl
theorem Fr.put{n:Nat}{a:Act}{L:List (Nat×Value)}{D:List Deferred}(h:Fr n a L D){d:Nat}(hd:d<n)(v:Value):Fr n (a.put (some d) v) ((d,v)::L) D:=by
 refine⟨by simpa[Act.put]using h.size,h.defers,fun t ht=>?_⟩
 simp only[Act.put,tY,has]at *;by_cases e:d=t
 ·subst e;have hlt:d<a.tmps.size:=by rw[h.size];exact hd
  simp[hlt]
 ·have hb:Nat.beq d t=false:=by
   cases hb:Nat.beq d t
   ·rfl
   ·exact absurd (Nat.eq_of_beq_eq_true hb) e
  rw[hb]at ht ⊢;simp only[cond_false]at ht ⊢;rw[Array.getElem?_setIfInBounds_ne e];exact h.get t ht
def keep(L:List (Nat×Value)):List Nat→List (Nat×Value)
 | []=>[]
 | t::ts=>(t,tY L t)::keep L ts
def bU(L:List (Nat×Value)):List Nat→Bool
 | []=>true
 | t::ts=>has L t&&bU L ts
theorem Fr.keep{n:Nat}{a:Act}{L:List (Nat×Value)}{D:List Deferred}(h:Fr n a L D):∀(ts:List Nat),bU L ts=true→Fr n a (keep L ts) D
 | [],_=>⟨h.size,h.defers,fun t ht=>by cases ht⟩
 | s::ts,hs=>by
  simp only[bU,Bool.and_eq_true]at hs;have ih:=h.keep ts hs.2;refine⟨h.size,h.defers,fun t ht=>?_⟩;simp only[Gv.keep,tY,has]at *;cases hb:Nat.beq s t with
  | true=>
   have:=Nat.eq_of_beq_eq_true hb;subst this;simpa using h.get s hs.1
  | false=>
   rw[hb]at ht;simpa using ih.get t (by simpa using ht)
theorem Fr.as{n:Nat}{a:Act}{L:List (Nat×Value)}{D:List Deferred}(h:Fr n a L D)(ts:List Nat){L':List (Nat×Value)}(hs:bU L ts=true)(e:Gv.keep L ts=L'):Fr n a L' D:=e▸h.keep ts hs
def zPr:Op→Bool
 | .select .. =>false
 | _=>true
theorem mX{o:Op}(h:zPr o=true):∀cs b,o≠.select cs b:=fun cs b e=>by rw[e]at h;cases h
def pO(L:List (Nat×Value))(o:Oper):Bool:=zPr o.op&&zLj L o.op.operands.toList
theorem Fr.exec{n:Nat}{a:Act}{L:List (Nat×Value)}{D:List Deferred}(h:Fr n a L D){o:Oper}(hok:pO L o=true):execOp a.eval o=execOp (evL L) o:=by
 simp only[pO,Bool.and_eq_true]at hok;exact execOp_congr o (mX hok.1) fun x hx=>h.eval (lY hok.2 x (by simpa using hx))
def yX(ops:Array Oper)(L:List (Nat×Value))(o:Oper)(want:Bool):Bool:=
 match o.guard with
 | none=>want
 | some (j,b)=>match(ops[j]?).bind (·.dst)with
  | some t=>has L t&&(match tY L t with | .bool c=>(c==b)==want | .tuple _=>!want | _=>false)
  | none=>false
theorem Fr.wanted{n:Nat}{a:Act}{L:List (Nat×Value)}{D:List Deferred}(h:Fr n a L D){ops:Array Oper}{o:Oper}{want:Bool}(hw:yX ops L o want=true):Region.wanted o (yielded ops a.tmps)=want:=by
 unfold yX at hw;unfold Region.wanted;cases hg:o.guard with
 | none=>simp only[hg]at hw;simp[hw]
 | some p=>
  obtain⟨j,b⟩:=p;simp only[hg]at hw;cases hd:(ops[j]?).bind (·.dst)with
  | none=>simp[hd]at hw
  | some t=>
   simp only[hd,Bool.and_eq_true]at hw;have hget:=h.get t hw.1;have hw2:=hw.2;simp only[yielded,hd,Option.bind_some,hget];split at hw2
   ·rename_i c hc;rw[hc];simp only[beq_iff_eq]at hw2 ⊢;cases c<;>cases b<;>cases want<;>simp_all
   ·rename_i hc;rw[hc];simpa using hw2
   ·cases hw2
def bD(o:Oper)(d n:Nat):Bool:=(match o.dst with | some t=>Nat.beq t d | none=>false)&&Nat.blt d n
theorem qO{o:Oper}{d n:Nat}(h:bD o d n=true):o.dst=some d∧d<n:=by
 simp only[bD,Bool.and_eq_true]at h;obtain⟨h1,h2⟩:=h;refine⟨?_,by simpa[Nat.blt_eq]using h2⟩
 cases hd:o.dst with
 | none=>rw[hd]at h1;cases h1
 | some t=>rw[hd]at h1;exact congrArg some (Nat.eq_of_beq_eq_true h1)
def chk(ops:Array Oper)(L:List (Nat×Value))(o:Oper)(d n:Nat):Bool:=yX ops L o true&&(pO L o&&bD o d n)
section
variable {P:Program}{ops:Array Oper}{Q:Exit→Act→World→Prop}{a:Act}{w:World}{rest:List Oper}{o:Oper}{n d:Nat}{L:List (Nat×Value)}{D:List Deferred}
end
abbrev Hid:=Nat→Nat→Prop
abbrev Rd:=Addr→Option Value
open Classical in
noncomputable def rd(w:World)(Y:Hid):Rd:=fun a=>if Y a.block a.off∨w.frozen? a=true then none else w.cell? a
def Le(r r':Rd):Prop:=∀a v,r a=some v→r' a=some v
theorem Le.refl(r:Rd):Le r r:=fun _ _ h=>h
theorem Le.trans{r s t:Rd}(h:Le r s)(k:Le s t):Le r t:=fun a v e=>k a v (h a v e)
theorem Le2{r0 r1 r2:Rd}(a0:Le r0 r1)(a1:Le r1 r2):Le r0 r2:=a0.trans a1
theorem Le3{r0 r1 r2 r3:Rd}(a0:Le r0 r1)(a1:Le r1 r2)(a2:Le r2 r3):Le r0 r3:=(Le2 a0 a1).trans a2
theorem Le4{r0 r1 r2 r3 r4:Rd}(a0:Le r0 r1)(a1:Le r1 r2)(a2:Le r2 r3)(a3:Le r3 r4):Le r0 r4:=(Le3 a0 a1 a2).trans a3
theorem Le5{r0 r1 r2 r3 r4 r5:Rd}(a0:Le r0 r1)(a1:Le r1 r2)(a2:Le r2 r3)(a3:Le r3 r4)(a4:Le r4 r5):Le r0 r5:=(Le4 a0 a1 a2 a3).trans a4
theorem Le6{r0 r1 r2 r3 r4 r5 r6:Rd}(a0:Le r0 r1)(a1:Le r1 r2)(a2:Le r2 r3)(a3:Le r3 r4)(a4:Le r4 r5)(a5:Le r5 r6):Le r0 r6:=(Le5 a0 a1 a2 a3 a4).trans a5
theorem Le7{r0 r1 r2 r3 r4 r5 r6 r7:Rd}(a0:Le r0 r1)(a1:Le r1 r2)(a2:Le r2 r3)(a3:Le r3 r4)(a4:Le r4 r5)(a5:Le r5 r6)(a6:Le r6 r7):Le r0 r7:=(Le6 a0 a1 a2 a3 a4 a5).trans a6
theorem Le8{r0 r1 r2 r3 r4 r5 r6 r7 r8:Rd}(a0:Le r0 r1)(a1:Le r1 r2)(a2:Le r2 r3)(a3:Le r3 r4)(a4:Le r4 r5)(a5:Le r5 r6)(a6:Le r6 r7)(a7:Le r7 r8):Le r0 r8:=(Le7 a0 a1 a2 a3 a4 a5 a6).trans a7
theorem Le9{r0 r1 r2 r3 r4 r5 r6 r7 r8 r9:Rd}(a0:Le r0 r1)(a1:Le r1 r2)(a2:Le r2 r3)(a3:Le r3 r4)(a4:Le r4 r5)(a5:Le r5 r6)(a6:Le r6 r7)(a7:Le r7 r8)(a8:Le r8 r9):Le r0 r9:=(Le8 a0 a1 a2 a3 a4 a5 a6 a7).trans a8
theorem Le10{r0 r1 r2 r3 r4 r5 r6 r7 r8 r9 r10:Rd}(a0:Le r0 r1)(a1:Le r1 r2)(a2:Le r2 r3)(a3:Le r3 r4)(a4:Le r4 r5)(a5:Le r5 r6)(a6:Le r6 r7)(a7:Le r7 r8)(a8:Le r8 r9)(a9:Le r9 r10):Le r0 r10:=(Le9 a0 a1 a2 a3 a4 a5 a6 a7 a8).trans a9
theorem qHv{r0 r1 r2 r3 r4 r5 r6 r7 r8 r9 r10 r11:Rd}(a0:Le r0 r1)(a1:Le r1 r2)(a2:Le r2 r3)(a3:Le r3 r4)(a4:Le r4 r5)(a5:Le r5 r6)(a6:Le r6 r7)(a7:Le r7 r8)(a8:Le r8 r9)(a9:Le r9 r10)(a10:Le r10 r11):Le r0 r11:=(Le10 a0 a1 a2 a3 a4 a5 a6 a7 a8 a9).trans a10
theorem qPw{r0 r1 r2 r3 r4 r5 r6 r7 r8 r9 r10 r11 r12:Rd}(a0:Le r0 r1)(a1:Le r1 r2)(a2:Le r2 r3)(a3:Le r3 r4)(a4:Le r4 r5)(a5:Le r5 r6)(a6:Le r6 r7)(a7:Le r7 r8)(a8:Le r8 r9)(a9:Le r9 r10)(a10:Le r10 r11)(a11:Le r11 r12):Le r0 r12:=(qHv a0 a1 a2 a3 a4 a5 a6 a7 a8 a9 a10).trans a11
theorem Le13{r0 r1 r2 r3 r4 r5 r6 r7 r8 r9 r10 r11 r12 r13:Rd}(a0:Le r0 r1)(a1:Le r1 r2)(a2:Le r2 r3)(a3:Le r3 r4)(a4:Le r4 r5)(a5:Le r5 r6)(a6:Le r6 r7)(a7:Le r7 r8)(a8:Le r8 r9)(a9:Le r9 r10)(a10:Le r10 r11)(a11:Le r11 r12)(a12:Le r12 r13):Le r0 r13:=(qPw a0 a1 a2 a3 a4 a5 a6 a7 a8 a9 a10 a11).trans a12
theorem yQ{w:World}{Y:Hid}{a:Addr}{v:Value}(h:rd w Y a=some v):w.cell? a=some v:=by
 unfold rd at h;split at h
 ·cases h
 ·exact h
theorem wE{w:World}{Y:Hid}{a:Addr}{v:Value}(h:rd w Y a=some v):¬Y a.block a.off:=by
 unfold rd at h;split at h
 ·cases h
 ·rename_i h1;exact fun e=>h1 (.inl e)
theorem aM{w:World}{Y:Hid}{a:Addr}{v:Value}(h:rd w Y a=some v):w.frozen? a=false:=by
 unfold rd at h;split at h
 ·cases h
 ·rename_i h1;cases hf:w.frozen? a
  ·rfl
  ·exact absurd (.inr hf) h1
theorem rD{w:World}{Y:Hid}{a:Addr}{v:Value}(h:w.cell? a=some v)(hy:¬Y a.block a.off)(hf:w.frozen? a=false):rd w Y a=some v:=by
 unfold rd;rw[if_neg (fun e=>e.elim hy fun e=>by rw[hf]at e;cases e)];exact h
theorem zFl{w w':World}{Y Y':Hid}{a:Addr}{v:Value}(h:rd w Y a=some v)(hb:w'.heap[a.block]?=w.heap[a.block]?)(hy:¬Y' a.block a.off):rd w' Y' a=some v:=
 rD (by rw[←yQ h];simp[World.cell?,hb]) hy ((World.frozen?_of_block hb).trans (aM h))
theorem Le.unhide{w:World}{Y Y':Hid}(h:∀k o,Y' k o→Y k o):Le (rd w Y) (rd w Y'):=fun _ _ e=>rD (yQ e) (fun hy=>wE e (h _ _ hy)) (aM e)
def orN(Y:Hid)(N:Nat):Hid:=fun k o=>Y k o∨k<N
def old(w:World):Hid:=fun k _=>k<w.heap.size
def At(r:Rd)(a:Addr)(vs:List Value):Prop:=∀j v,vs[j]?=some v→r (a.add j)=some v
theorem At.mono{r r':Rd}(h:Le r r'){a:Addr}{vs:List Value}(k:At r a vs):At r' a vs:=fun j v e=>h _ _ (k j v e)
def jM(w:World)(a:Addr)(vs:List Value):Prop:=∀j v,vs[j]?=some v→w.cell? (a.add j)=some v
theorem At.cells{w:World}{Y:Hid}{a:Addr}{vs:List Value}(k:At (rd w Y) a vs):jM w a vs:=fun j v e=>yQ (k j v e)
theorem yC(b o j:Nat):(⟨b,o,none⟩:Addr).add j=⟨b,o+j,none⟩:=by
 unfold Addr.add;split
 ·subst_vars;simp
 ·rfl
theorem add_zero(a:Addr):a.add 0=a:=by simp[Addr.add]
theorem Le.or{w w1:World}{Y Y1:Hid}(h:Le (rd w Y) (rd w1 Y1))(N:Nat):Le (rd w (orN Y N)) (rd w1 (orN Y1 N)):=fun a v e=>by
 have h1:=h a v (rD (yQ e) (fun hy=>wE e (.inl hy)) (aM e));exact rD (yQ h1) (fun hy=>hy.elim (wE h1) fun hy=>wE e (.inr hy)) (aM h1)
theorem Le.orr{w:World}{Y:Hid}{N:Nat}:Le (rd w (orN Y N)) (rd w (fun k _=>k<N)):=Le.unhide fun _ _ h=> .inr h
theorem Le.new{w w1:World}{Y:Hid}(hlt:∀k o,Y k o→k<w.heap.size):Le (rd w1 (old w)) (rd w1 Y):=Le.unhide hlt
theorem Le.newN{w w1:World}{Y:Hid}{N:Nat}(hlt:∀k o,Y k o→k<w.heap.size)(hs:N≤w.heap.size):Le (rd w1 (old w)) (rd w1 (orN Y N)):=Le.unhide fun k o h=>h.elim (hlt k o) fun h=>Nat.lt_of_lt_of_le h hs
theorem Le.own{w w1 w2:World}{Y1 Y2:Hid}{N:Nat}(hlt:∀k o,Y1 k o→k<w.heap.size)(hs:N≤w.heap.size)(h:Le (rd w1 Y1) (rd w2 Y2)):Le (rd w1 (old w)) (rd w2 (orN Y2 N)):=(Le.newN hlt hs).trans (h.or N)
structure Upd(E:Nat→Prop)(w w':World):Prop where
 os:w'.os=w.os
 tape:w'.tape=w.tape
 output:w'.output=w.output
 size:w.heap.size≤w'.heap.size
 block:∀k,k<w.heap.size→¬E k→w'.heap[k]?=w.heap[k]?
def E0:Nat→Prop:=fun _=>False
theorem Upd.refl(E:Nat→Prop)(w:World):Upd E w w:=⟨rfl,rfl,rfl,Nat.le_refl _,fun _ _ _=>rfl⟩
theorem Upd.trans{E:Nat→Prop}{a b c:World}(h:Upd E a b)(k:Upd E b c):Upd E a c:=
 ⟨k.os.trans h.os,k.tape.trans h.tape,k.output.trans h.output,Nat.le_trans h.size k.size,fun i hi he=>(k.block i (Nat.lt_of_lt_of_le hi h.size) he).trans (h.block i hi he)⟩
theorem Upd.weaken{E E':Nat→Prop}{a b:World}(h:Upd E a b)(hE:∀k,k<a.heap.size→E k→E' k):Upd E' a b:=
 ⟨h.os,h.tape,h.output,h.size,fun k hk he=>h.block k hk fun e=>he (hE k hk e)⟩
theorem Upd.below{w w':World}(h:Upd E0 w w'):Below w.heap.size w w':=⟨h.os,h.tape,h.output,h.size,fun k hk=>h.block k hk (fun e=>e)⟩
theorem Upd.of_below{w w':World}(h:Below w.heap.size w w'):Upd E0 w w':=⟨h.os,h.tape,h.output,h.size,fun k hk _=>h.block k hk⟩
theorem Upd.alloc(w:World)(o:Obj):Upd E0 w (w.alloc o):=⟨rfl,rfl,rfl,by simp,fun k hk _=>Below.heap_alloc w o k hk⟩
theorem Upd.drew(w:World):Upd E0 w w.drew:=⟨rfl,rfl,rfl,Nat.le_refl _,fun _ _ _=>rfl⟩
theorem Upd.le{w w':World}(h:Upd E0 w w')(Y:Hid):Le (rd w Y) (rd w' Y):=fun a _ e=>zFl e (h.block a.block (World.block_lt_of_cell? w a (yQ e)) (fun e=>e)) (wE e)
structure St(E:Nat→Prop)(w0:World)(X:Hid)(w:World)(Y:Hid)(M:List (Nat×Obj)):Prop where
 upd:Upd E w0 w
 lt:∀k o,Y k o→k<w.heap.size
 hid:∀k o,X k o→Y k o
 own:∀p∈M,w.heap[p.1]?=some p.2∧(w0.heap.size≤p.1∨E p.1)∧∀o,Y p.1 o
 nd:(M.map (·.1)).Nodup
 ltX:∀k o,X k o→k<w0.heap.size
section
variable {E:Nat→Prop}{w0 w w':World}{X Y:Hid}{M:List (Nat×Obj)}
theorem St.start{w:World}{X:Hid}(hX:∀k o,X k o→k<w.heap.size):St E0 w X w X []:=
 ⟨Upd.refl _ _,hX,fun _ _ h=>h,fun p hp=>(by cases hp),by simp,hX⟩
theorem St.startE{w:World}{X:Hid}(b:Nat)(o:Obj)(hX:∀k o,X k o→k<w.heap.size)(hb:w.heap[b]?=some o)(hxb:∀o,X b o):St (·=b) w X w X [(b,o)]:=
 ⟨Upd.refl _ _,hX,fun _ _ h=>h,fun p hp=>(by
  rcases List.mem_singleton.1 hp with rfl
  exact⟨hb,.inr rfl,hxb⟩),by simp,hX⟩
theorem St.le(h:St E w0 X w Y M):Le (rd w Y) (rd w X):=Le.unhide h.hid
theorem St.get(h:St E w0 X w Y M)(i:Nat){b:Nat}{o:Obj}(hi:M[i]?=some (b,o)):w.heap[b]?=some o:=(h.own (b,o) (List.mem_of_getElem? hi)).1
theorem St.tail{p:Nat×Obj}(h:St E w0 X w Y (p::M)):St E w0 X w Y M:=
 ⟨h.upd,h.lt,h.hid,fun q hq=>h.own q (List.mem_cons_of_mem _ hq),(List.nodup_cons.1 (by simpa using h.nd)).2,h.ltX⟩
theorem St.swap{p q:Nat×Obj}(h:St E w0 X w Y (p::q::M)):St E w0 X w Y (q::p::M):=
 ⟨h.upd,h.lt,h.hid,fun x hx=>h.own x (by simp at hx ⊢;rcases hx with h | h | h<;>simp[h]),by
  have:=h.nd;simp only[List.map_cons,List.nodup_cons,List.mem_cons,not_or]at this ⊢;exact⟨⟨fun e=>this.1.1 e.symm,this.2.1⟩,this.1.2,this.2.2⟩,h.ltX⟩
theorem St.call(h:St E w0 X w Y M)(k:Upd E0 w w'):St E w0 X w' Y M:=
 ⟨h.upd.trans (k.weaken fun _ _ e=>e.elim),fun b o hy=>Nat.lt_of_lt_of_le (h.lt b o hy) k.size,h.hid,fun p hp=>by
  obtain⟨h1,h2,h3⟩:=h.own p hp;exact⟨(k.block p.1 (Array.getElem?_eq_some_iff.1 h1).1 (fun e=>e)).trans h1,h2,h3⟩,h.nd,h.ltX⟩
def zAo(b:Nat)(Y:Hid):Hid:=fun k o=>k=b∨Y k o
theorem Le.hide_new{w:World}{Y:Hid}(o:Obj):Le (rd w Y) (rd (w.alloc o) (zAo w.heap.size Y)):=fun a v e=>by
 have hc:=yQ e;have hlt:=World.block_lt_of_cell? w a hc;refine zFl e (Below.heap_alloc w o a.block hlt) ?_;rintro(h | h)
 ·omega
 ·exact wE e h
theorem St.alloc(h:St E w0 X w Y M)(o:Obj):St E w0 X (w.alloc o) (zAo w.heap.size Y) ((w.heap.size,o)::M):=
 ⟨h.upd.trans ((Upd.alloc w o).weaken fun _ _ e=>e.elim),fun b j hy=>by
   rcases hy with rfl | hy
   ·simp
   ·have:=h.lt b j hy;simp;omega,
  fun k j hx=> .inr (h.hid k j hx),fun p hp=>by
   rcases List.mem_cons.1 hp with rfl | hp
   ·exact⟨heap_alloc_new w o,.inl h.upd.size,fun _=> .inl rfl⟩
   ·obtain⟨h1,h2,h3⟩:=h.own p hp;exact⟨(Below.heap_alloc w o p.1 (Array.getElem?_eq_some_iff.1 h1).1).trans h1,h2,fun j=> .inr (h3 j)⟩,
  by
   simp only[List.map_cons,List.nodup_cons,h.nd,and_true,List.mem_map,not_exists,not_and];intro p hp e;have:=(Array.getElem?_eq_some_iff.1 (h.own p hp).1).1;omega,h.ltX⟩
theorem zDp{l:List Nat}(h:l.Nodup){i j:Nat}{x:Nat}(hi:l[i]?=some x)(hj:l[j]?=some x):i=j:=by
 obtain⟨hi',ei⟩:=List.getElem?_eq_some_iff.1 hi;obtain⟨hj',ej⟩:=List.getElem?_eq_some_iff.1 hj;exact(List.getElem_inj h).1 (ei.trans ej.symm)
theorem St.set(h:St E w0 X w Y M)(i:Nat){b:Nat}{o:Obj}(o':Obj)(hi:M[i]?=some (b,o))(hs:w.heap.size≤w'.heap.size)(hos:w'.os=w.os)(ht:w'.tape=w.tape)(hout:w'.output=w.output)
  (hb:w'.heap[b]?=some o') (hk:∀k,k<w.heap.size→k≠b→w'.heap[k]?=w.heap[k]?):St E w0 X w' Y (M.set i (b,o')):=by
 have hmem:=List.mem_of_getElem? hi;obtain⟨g1,g2,g3⟩:=h.own _ hmem;have hlt:i<M.length:=(List.getElem?_eq_some_iff.1 hi).1;refine⟨⟨hos.trans h.upd.os,ht.trans h.upd.tape,hout.trans h.upd.output,Nat.le_trans h.upd.size hs,fun k hlt hne=>?_⟩,
  fun k o hy=>Nat.lt_of_lt_of_le (h.lt k o hy) hs,h.hid,fun p hp=>?_,?_,h.ltX⟩
 ·have hkb:k≠b:=by
   rintro rfl;rcases g2 with g2 | g2
   ·exact absurd hlt (Nat.not_lt.2 g2)
   ·exact hne g2
  exact(hk k (Nat.lt_of_lt_of_le hlt h.upd.size) hkb).trans (h.upd.block k hlt hne)
 ·obtain⟨j,hj⟩:=List.getElem?_of_mem hp;rw[List.getElem?_set]at hj;split at hj
  ·rename_i hij;subst hij;cases hj;exact⟨hb,g2,g3⟩
  ·rename_i hij;have hpm:=List.mem_of_getElem? hj;obtain⟨f1,f2,f3⟩:=h.own p hpm;have hne:p.1≠b:=by
    intro e;refine hij (zDp h.nd (i:=i) (j:=j) (x:=b) ?_ ?_)
    ·rw[List.getElem?_map,hi];rfl
    ·rw[List.getElem?_map,hj];simp[e]
   exact⟨(hk p.1 (Array.getElem?_eq_some_iff.1 f1).1 hne).trans f1,f2,f3⟩
 ·have hm:(M.set i (b,o')).map (·.1)=M.map (·.1):=by
   rw[List.map_set];apply List.ext_getElem?;intro j;rw[List.getElem?_set];split
   ·rename_i hij;subst hij;simp only[List.length_map,hlt,if_true];rw[List.getElem?_map,hi];rfl
   ·rfl
  rw[hm];exact h.nd
theorem St.le_set(h:St E w0 X w Y M)(i:Nat){b:Nat}{o:Obj}(hi:M[i]?=some (b,o))(hk:∀k,k<w.heap.size→k≠b→w'.heap[k]?=w.heap[k]?):Le (rd w Y) (rd w' Y):=fun a v e=>by
 have hc:=yQ e;have hlt:=World.block_lt_of_cell? w a hc;have hne:a.block≠b:=fun eb=>wE e (eb▸(h.own _ (List.mem_of_getElem? hi)).2.2 _);exact zFl e (hk a.block hlt hne) (wE e)
end
def yH(c:Array Value)(o:Nat):List Value→Array Value
 | []=>c
 | v::vs=>yH (c.setIfInBounds o v) (o+1) vs
theorem pV:∀(vs:List Value)(c:Array Value)(o:Nat),(yH c o vs).size=c.size
 | [],_,_=>rfl
 | _::vs,c,o=>by rw[yH,pV vs];simp
theorem kN(P:Program){b:Nat}{T:TypeId}:∀(vs:List Value)(c:Array Value)(w:World)(o i:Nat),w.heap[b]?=some (.cells c T (0,0))→(∀v∈vs,v.oneCell'=true)→o+i+vs.length≤c.size→
  ∃w',(storeCells ⟨b,o,none⟩ vs i).run P w= .ok () w'∧w'.os=w.os∧w'.tape=w.tape∧w'.output=w.output∧w'.heap.size=w.heap.size∧
   w'.heap[b]?=some (.cells (yH c (o+i) vs) T (0,0))∧∀k,k≠b→w'.heap[k]?=w.heap[k]?
 | [],c,w,o,i,hb,_,_=>⟨w,rfl,rfl,rfl,rfl,rfl,hb,fun _ _=>rfl⟩
 | v::vs,c,w,o,i,hb,h1,hl=>by
  have hlt:o+i<c.size:=by simp at hl;omega
  have hcell:w.cell? ⟨b,o+i,none⟩=some c[o+i]:=by rw[cell_of_row w b (o+i) c T _ hb];simp[hlt]
  have hfz:w.frozen? ⟨b,o+i,none⟩=false:=frozen_of_row w b _ c T hb;have hb':(w.setCell ⟨b,o+i,none⟩ v).heap[b]?=some (.cells (c.setIfInBounds (o+i) v) T (0,0)):=heap_setCell_same w b (o+i) c T v hb;obtain⟨w',hr,e1,e2,e3,e4,e5,e6⟩:=kN P vs (c.setIfInBounds (o+i) v) (w.setCell ⟨b,o+i,none⟩ v) o (i+1) hb' (fun x hx=>h1 x (List.mem_cons_of_mem _ hx)) (by simp at hl ⊢;omega)
  refine⟨w',?_,e1,e2,e3,by rw[e4];simp,?_,fun k hk=>(e6 k hk).trans (heap_setCell_other w _ k v hk)⟩
  ·unfold storeCells;rw[yC,Sem.run_bind,run_store P w _ v .plain (h1 v List.mem_cons_self)];simp only[hcell,hfz];exact hr
  ·rw[e5];rfl
def Ret(E:Nat→Prop)(w:World)(Φ:World→Value→Prop):Ending→World→Prop:=fun e w'=>Upd E w w'∧∃v,e= .returned v∧Φ w' v
section
variable {P:Program}{w:World}{ρ:Operand→Value}
def ldT(P:Program)(t:TypeId):Option (Bool×Nat):=
 match P.info? t,P.underlying t with
 | some i,some d=>some ((match d with | .struct _ | .array _ _=>true | _=>false),i.size)
 | _,_=>none
def ldV(agg:Bool)(vs:List Value):Value:=bif agg then .agg vs.toArray else vs.headD undef
theorem gM{t:TypeId}{g:Bool}{m:Nat}(h:ldT P t=some (g,m)):∃i d,P.info? t=some i∧P.underlying t=some d∧i.size=m∧(match d with | .struct _ | .array _ _=>true | _=>false)=g:=by
 unfold ldT at h;cases hi:P.info? t with
 | none=>simp[hi]at h
 | some i=>
  cases hd:P.underlying t with
  | none=>simp[hi,hd]at h
  | some d=>
   simp only[hi,hd,Option.some.injEq,Prod.mk.injEq]at h;exact⟨i,d,rfl,rfl,h.2,h.1⟩
theorem zKj{t:TypeId}{g:Bool}{m:Nat}(h:ldT P t=some (g,m))(w:World):(isAgg t).run P w= .ok g w:=by
 obtain⟨i,d,h1,h2,h3,h4⟩:=gM h;unfold isAgg underlying;simp only[Sem.run_bind,run_program,Result.andThen_ok,h2,Sem.run_pure];cases d<;>simp_all
theorem run_sizeOf{t:TypeId}{g:Bool}{m:Nat}(h:ldT P t=some (g,m))(w:World):(sizeOf t).run P w= .ok m w:=by
 obtain⟨i,d,h1,h2,h3,h4⟩:=gM h;simp[sizeOf,typeInfo,h1,h3]
theorem rE{t:TypeId}{g:Bool}{vs:List Value}{ad:Addr}(ht:ldT P t=some (g,vs.length))(hg:g=true∨vs.length=1)(hcs:jM w ad vs):
  (loadVar t ad).run P w= .ok (ldV g vs) w:=by
 unfold loadVar;simp only[Sem.run_bind,zKj ht,Result.andThen_ok];cases g with
 | true=>
  simp only[if_true,Sem.run_bind,run_sizeOf ht,Result.andThen_ok];rw[run_loadCells_list (P:=P) w ad vs hcs];rfl
 | false=>
  have h1:vs.length=1:=by simpa using hg
  obtain⟨v,rfl⟩:=List.length_eq_one_iff.1 h1;have:=hcs 0 v rfl;rw[add_zero]at this;simp[ldV,this]
theorem zB{o:Oper}{t:TypeId}{x:Operand}{g:Bool}{vs:List Value}{ad:Addr}(ho:o.op= .load t x)(hx:ρ x= .pointer (some ad))
  (ht:ldT P t=some (g,vs.length)) (hg:g=true∨vs.length=1) (hcs:jM w ad vs):(execOp ρ o).run P w= .ok (.value (ldV g vs)) w:=by
 unfold execOp;simp only[ho,hx,Instr.loadAt,Instr.sureAddr,Sem.run_bind,Sem.run_pure,Result.andThen_ok,rE ht hg hcs]
theorem jH{o:Oper}{t e:TypeId}{x ix:Operand}{b off len cap:Nat}{kd:IntKind}{i:Int}{g:Bool}{m off':Nat}(ho:o.op= .indexAddr t x ix)(ht:P.underlying t=some (.slice e))
  (hx:ρ x= .slice (some ⟨b,off,none⟩) len cap) (hi:ρ ix= .int kd i) (he:ldT P e=some (g,m)) (h0:0≤i) (h1:i<len) (hoff:off+i.toNat*m=off') (w:World):
  (execOp ρ o).run P w= .ok (.value (.pointer (some ⟨b,off',none⟩))) w:=by
 unfold execOp;simp only[ho,hx,hi,Instr.indexAt,asIntOf,underlying,ht,Sem.run_bind,Sem.run_pure,run_program,Result.andThen_ok,h0,h1,and_self,if_true,run_sizeOf he,yC,hoff]
theorem zQv{o:Oper}{t e:TypeId}{x hi:Operand}{ad:Option Addr}{len cap:Nat}{kd:IntKind}{i:Int}{h':Nat}{g:Bool}{m:Nat}(ho:o.op= .slice t x none (some hi) none)(ht:P.underlying t=some (.slice e))(he:ldT P e=some (g,m))
  (hx:ρ x= .slice ad len cap) (hi':ρ hi= .int kd i) (h0:0≤i) (h1:i≤cap) (hh:i.toNat=h') (w:World):
  (execOp ρ o).run P w= .ok (.value (.slice (if cap=0 then ad else ad) h' cap)) w:=by
 unfold execOp;have hm:Option.map (fun x:Addr=>x.add (0*m)) ad=ad:=by cases ad<;>simp[Addr.add]
 simp only[ho,hx,Instr.sliceAt,Instr.slice,Instr.sliceBounds,Instr.sliceBound,asIntOf,underlying,ht,Sem.run_bind,Sem.run_pure,run_program,Result.andThen_ok,Option.map_some,Option.map_none,hi',h0,h1,and_self,if_true,run_sizeOf he,hm,hh];simp
end
section
variable {P:Program}{E:Nat→Prop}{w0 w:World}{X Y:Hid}{M:List (Nat×Obj)}
theorem St.cells(h:St E w0 X w Y M)(i:Nat){b:Nat}{c:Array Value}{T:TypeId}{fz:Nat×Nat}(hi:M[i]?=some (b,.cells c T fz)){off:Nat}{vs:List Value}(hv:(c.toList.drop off).take vs.length=vs):jM w ⟨b,off,none⟩ vs:=by
 intro j v hj;rw[yC,cell_of_row w b _ c T fz (h.get i hi)];have hlt:j<vs.length:=(List.getElem?_eq_some_iff.1 hj).1;rw[←hv,List.getElem?_take,if_pos hlt,List.getElem?_drop]at hj;simpa using hj
end
section
variable {P:Program}{Q:Exit→Act→World→Prop}{K:Act→World→Prop}{a:Act}{o:Oper}{n d:Nat}{L:List (Nat×Value)}{D:List Deferred}{E:Nat→Prop}{w0 w:World}{X Y:Hid}{M:List (Nat×Obj)}
def opk(L:List (Nat×Value))(o:Oper)(d n:Nat):Bool:=pO L o&&bD o d n
theorem zF{v:Value}(hF:Fr n a L D)(hc:opk L o d n=true)(hrun:(execOp (evL L) o).run P w= .ok (.value v) w)(k:∀a1,Fr n a1 ((d,v)::L) D→K a1 w):o.wp P a w K Q:=by
 simp only[opk,Bool.and_eq_true]at hc;obtain⟨hd,hlt⟩:=qO hc.2;unfold Oper.wp;rw[hF.exec hc.1,hrun];show K (a.put o.dst v) w;rw[hd];exact k _ (hF.put hlt v)
theorem mZ(vf:Nat→Value)(ob:Obj)(hF:Fr n a L D)(hc:opk L o d n=true)(hS:St E w0 X w Y M)
  (hrun:∀w,(execOp (evL L) o).run P w= .ok (.value (vf w.heap.size)) (w.alloc ob))
  (k:∀b w1 Y1,St E w0 X w1 Y1 ((b,ob)::M)→Le (rd w Y) (rd w1 Y1)→Upd E0 w w1→∀a1,Fr n a1 ((d,vf b)::L) D→K a1 w1):o.wp P a w K Q:=by
 simp only[opk,Bool.and_eq_true]at hc;obtain⟨hd,hlt⟩:=qO hc.2;unfold Oper.wp;rw[hF.exec hc.1,hrun];show K (a.put o.dst _) _;rw[hd];exact k _ _ _ (hS.alloc ob) (Le.hide_new ob) (Upd.alloc w ob) _ (hF.put hlt _)
theorem zE{t:TypeId}{xa xv:Operand}{b off:Nat}{c c':Array Value}{T:TypeId}{v:Value}{g:Bool}{m:Nat}(i:Nat)(M':List (Nat×Obj))(hF:Fr n a L D)(hc:(pO L o&&o.dst.isNone)=true)(hS:St E w0 X w Y M)
  (ho:o.op= .store t xa xv) (ha:evL L xa= .pointer (some ⟨b,off,none⟩)) (hv:evL L xv=v) (ht:ldT P t=some (g,m)) (hm:v.cells.size=m) (h1:v.cells.toList.all Value.oneCell'=true)
  (hM:M[i]?=some (b,.cells c T (0,0))) (hle:off+m≤c.size) (hc':yH c off v.cells.toList=c') (hM':M.set i (b,.cells c' T (0,0))=M')
  (k:∀w1,St E w0 X w1 Y M'→Le (rd w Y) (rd w1 Y)→K a w1):o.wp P a w K Q:=by
 simp only[Bool.and_eq_true]at hc;have hd:o.dst=none:=by cases h:o.dst<;>simp_all
 subst hm;obtain⟨w',hr,e1,e2,e3,e4,e5,e6⟩:=kN P v.cells.toList c w off 0 (hS.get i hM) (fun x hx=>List.all_eq_true.1 h1 x hx) (by simpa using hle)
 unfold Oper.wp;rw[hF.exec hc.1];unfold execOp;simp only[ho,ha,hv,Instr.storeAt,Instr.sureAddr,storeVar,Sem.run_bind,Sem.run_pure,Result.andThen_ok,run_sizeOf ht,ne_eq,not_true_eq_false,if_false,hr];show K (a.put o.dst undef) w';rw[hd];rw[Nat.add_zero,hc']at e5;exact k w' (hM'▸hS.set i _ hM (Nat.le_of_eq e4.symm) e1 e2 e3 e5 (fun k _ hk=>e6 k hk)) (hS.le_set i hM (fun k _ hk=>e6 k hk))
theorem kC{fx:Operand}{xs:Array Operand}{ts:Array TypeId}{f:FuncId}{cap:Array Value}{vs:Array Value}{Φ:World→Value→Prop}(hF:Fr n a L D)(hc:opk L o d n=true)(hS:St E w0 X w Y M)
  (ho:o.op= .call {callee:= .value fx,args:=xs,argTypes:=ts}) (hf:evL L fx= .func (.func f) #[] cap) (hargs:xs.map (evL L)++cap=vs)
  (hcall:∀w,(callFunc f vs).run P w= .ok (.enter f vs) w) (hcon:Calls P f vs w (Ret E0 w Φ))
  (k:∀v w1,St E w0 X w1 Y M→Le (rd w Y) (rd w1 Y)→Upd E0 w w1→Φ w1 v→∀a1,Fr n a1 ((d,v)::L) D→K a1 w1):o.wp P a w K Q:=by
 simp only[opk,Bool.and_eq_true]at hc;obtain⟨hd,hlt⟩:=qO hc.2;unfold Oper.wp;rw[hF.exec hc.1];have hrun:(execOp (evL L) o).run P w= .ok (.enter f vs) w:=by
  unfold execOp;simp only[ho,resolve,hf,Deferred.ofValue,Sem.run_bind,Sem.run_pure,Result.andThen_ok,invoke];simp only[←hargs]at hcall ⊢;simpa using hcall w
 rw[hrun];show Calls P f vs w _;refine hcon.mono ?_;rintro e w1 ⟨hu,v,rfl,hΦ⟩;show K (a.put o.dst v) w1;rw[hd];exact k v w1 (hS.call hu) (hu.le Y) hu hΦ _ (hF.put hlt v)
theorem zBn{fx:Operand}{xs:Array Operand}{ts:Array TypeId}{f:FuncId}{cap:Array Value}{vs:Array Value}{ob:Obj}{b:Nat}{Φ:World→Value→Prop}(i:Nat)(hF:Fr n a L D)(hc:opk L o d n=true)(hS:St E w0 X w Y M)
  (ho:o.op= .call {callee:= .value fx,args:=xs,argTypes:=ts}) (hf:evL L fx= .func (.func f) #[] cap) (hargs:xs.map (evL L)++cap=vs)
  (hcall:∀w,(callFunc f vs).run P w= .ok (.enter f vs) w) (hM:M[i]?=some (b,ob)) (hcon:Calls P f vs w (Ret (·=b) w Φ))
  (k:∀v w1 ob',Φ w1 v→w1.heap[b]?=some ob'→St E w0 X w1 Y (M.set i (b,ob'))→Le (rd w Y) (rd w1 Y)→∀a1,Fr n a1 ((d,v)::L) D→K a1 w1):o.wp P a w K Q:=by
 simp only[opk,Bool.and_eq_true]at hc;obtain⟨hd,hlt⟩:=qO hc.2;unfold Oper.wp;rw[hF.exec hc.1];have hrun:(execOp (evL L) o).run P w= .ok (.enter f vs) w:=by
  unfold execOp;simp only[ho,resolve,hf,Deferred.ofValue,Sem.run_bind,Sem.run_pure,Result.andThen_ok,invoke];simp only[←hargs]at hcall ⊢;simpa using hcall w
 rw[hrun];show Calls P f vs w _;refine hcon.mono ?_;rintro e w1 ⟨hu,v,rfl,hΦ⟩;show K (a.put o.dst v) w1;rw[hd];have hblt:b<w.heap.size:=(Array.getElem?_eq_some_iff.1 (hS.get i hM)).1;have hb1:w1.heap[b]?=some w1.heap[b]!:=by
  have:b<w1.heap.size:=Nat.lt_of_lt_of_le hblt hu.size;simp[this]
 exact k v w1 _ hΦ hb1 (hS.set i _ hM hu.size hu.os hu.tape hu.output hb1 (fun k hk hne=>hu.block k hk hne)) (hS.le_set i hM (fun k hk hne=>hu.block k hk hne)) _ (hF.put hlt v)
end
def kD(S:List (Addr×List Value))(w:World):Prop:=∀p∈S,jM w p.1 p.2
theorem kD.nil(w:World):kD [] w:=fun p hp=>by cases hp
theorem kD.cons{S:List (Addr×List Value)}{w:World}{ad:Addr}{vs:List Value}(h:jM w ad vs)(k:kD S w):kD ((ad,vs)::S) w:=fun p hp=>by
 rcases List.mem_cons.1 hp with rfl | hp
 ·exact h
 ·exact k p hp
theorem kD.up{S:List (Addr×List Value)}{w w1:World}(h:kD S w)(k:Upd E0 w w1):kD S w1:=fun p hp j v hj=>by
 have hc:=h p hp j v hj;have hlt:=World.block_lt_of_cell? w _ hc;rw[←hc];simp[World.cell?,k.block _ hlt (fun e=>e)]
theorem kD.get{S:List (Addr×List Value)}{w:World}(h:kD S w)(i:Nat){ad:Addr}{vs:List Value}(hi:S[i]?=some (ad,vs)):jM w ad vs:=h (ad,vs) (List.mem_of_getElem? hi)
section
variable {P:Program}{ops:Array Oper}{Q:Exit→Act→World→Prop}{K:Act→World→Prop}{a:Act}{o:Oper}{n d:Nat}{L:List (Nat×Value)}{D:List Deferred}{E:Nat→Prop}{w0 w:World}{X Y:Hid}{M:List (Nat×Obj)}{S:World→Prop}
end
section
variable {P:Program}{Q:Exit→Act→World→Prop}{K:Act→World→Prop}{a:Act}{n:Nat}{L:List (Nat×Value)}{D:List Deferred}{w:World}
theorem zA(h:K a w):Exit.then K Q .normal a w:=h
theorem mI(h:Q .ret a w):Exit.then K Q .ret a w:=h
theorem sP{id:Nat}(h:Q (.exit id) a w):Exit.then K Q (.exit id) a w:=h
theorem yR{id:Nat}(h:Q .normal a w):Exit.inBlock id Q .normal a w:=h
theorem fU{id:Nat}(h:Q .ret a w):Exit.inBlock id Q .ret a w:=h
theorem nH{id:Nat}(h:Q .normal a w):Exit.inBlock id Q (.exit id) a w:=by simp[Exit.inBlock];exact h
theorem zFu{id id':Nat}(hne:Nat.beq id' id=false)(h:Q (.exit id') a w):Exit.inBlock id Q (.exit id') a w:=by
 have:id'≠id:=fun e=>by subst e;simp at hne
 simp[Exit.inBlock,this];exact h
def zEc:Nat→List Value→List (Nat×Value)
 | _,[]=>[]
 | i,v::vs=>(i,v)::zEc (i+1) vs
theorem zJl:∀(vs:List Value)(i t:Nat),has (zEc i vs) t=true→∃j,t=i+j∧j<vs.length∧vs[j]?=some (tY (zEc i vs) t)
 | [],i,t,h=>by cases h
 | v::vs,i,t,h=>by
  simp only[zEc,has,tY]at *;cases hb:Nat.beq i t with
  | true=>
   have:=Nat.eq_of_beq_eq_true hb;subst this;exact⟨0,rfl,by simp,by simp⟩
  | false=>
   rw[hb]at h;obtain⟨j,rfl,hj,he⟩:=zJl vs (i+1) t (by simpa using h)
   exact⟨j+1,by omega,by simpa using hj,by simpa using he⟩
inductive Res (P:Program) (L:List (Nat×Value)) (w:World):List ResultVar→List Value→Prop
  | nil:Res P L w [] []
  | tmp {t:Nat} {rs:List ResultVar} {vs:List Value} (h:has L t=true) (k:Res P L w rs vs):Res P L w (.tmp t::rs) (tY L t::vs)
  | cell {t:Nat} {T:TypeId} {rs:List ResultVar} {vs:List Value} {ad:Addr} {cs:List Value} {g:Bool} (h:has L t=true) (hl:tY L t= .pointer (some ad)) (ht:ldT P T=some (g,cs.length)) (hg:g=true∨cs.length=1) (hc:jM w ad cs) (k:Res P L w rs vs):
      Res P L w (.cell t T::rs) (ldV g cs::vs)
def zBs:List Value→Value
 | [v]=>v
 | vs=> .tuple vs.toArray
def zEk(tmps:Array Value):ResultVar→Sem Value
 | .tmp t=>pure (tmps.getD t undef)
 | .cell x t=>do loadVar t (←asAddr (tmps.getD x undef))
theorem zHv(fn:Func)(tmps:Array Value):results fn tmps=(do
 let vs ←fn.results.mapM (zEk tmps)
 pure (if h:vs.size=1 then vs[0]else .tuple vs)):=rfl
theorem zTn{P:Program}{L:List (Nat×Value)}{D:List Deferred}{a:Act}{n:Nat}(hF:Fr n a L D){w:World}{rs:List ResultVar}{vs:List Value}(h:Res P L w rs vs):
  (rs.mapM (zEk a.tmps)).run P w= .ok vs w:=by
 induction h with
 | nil=>rfl
 | tmp h k ih=>simp only[List.mapM_cons,Sem.run_bind,Sem.run_pure,Result.andThen_ok,ih,zEk,hF.getD h]
 | cell h hl ht hg hc k ih=>
  simp only[List.mapM_cons,Sem.run_bind,Sem.run_pure,Result.andThen_ok,ih,zEk,hF.getD h,hl,asAddr,rE ht hg hc]
theorem tN{P:Program}{L:List (Nat×Value)}{D:List Deferred}{a:Act}{n:Nat}(hF:Fr n a L D){w:World}{fn:Func}{rs:List ResultVar}{vs:List Value}(hr:fn.results=rs.toArray)(h:Res P L w rs vs):
  (results fn a.tmps).run P w= .ok (zBs vs) w:=by
 have:=zTn hF h;rw[zHv,hr];simp only[Sem.run_bind,List.mapM_toArray,Sem.run_map,this,Result.andThen_ok];rcases vs with _ | ⟨v,_ | ⟨u,vs⟩⟩<;>simp[zBs]
theorem zUl{L:List (Nat×Value)}{fn:Func}{R:Ending→World→Prop}{rs:List ResultVar}{vs:List Value}{v:Value}(hF:Fr n a L)(hr:fn.results=rs.toArray)(h:Res P L w rs vs)(hv:zBs vs=v)(hR:R (.returned v) w):bodyPost P fn R .ret a w:=
 ⟨hF.defers,v,hv▸tN hF hr h,hR⟩
theorem zOe{L:List (Nat×Value)}{fn:Func}{R:Ending→World→Prop}{rs:List ResultVar}{vs:List Value}{v:Value}(hF:Fr n a L)(hr:fn.results=rs.toArray)(h:Res P L w rs vs)(hv:zBs vs=v)(hR:R (.returned v) w):bodyPost P fn R .normal a w:=
 ⟨hF.defers,v,hv▸tN hF hr h,hR⟩
end
def zHw(P:Program)(ops:Array Oper)(n:Nat):Nat→List Oper→List (Nat×Value)→World→Option (List (Nat×Value)×World)
 | 0,_,L,w=>some (L,w)
 | _+1,[],_,_=>none
 | k+1,o::l,L,w=>
  match o.dst with
  | none=>none
  | some d=>
   bif Nat.blt d n then
    bif yX ops L o true then
     bif pO L o then
      match(execOp (evL L) o).run P w with
      | .ok (.value v) w'=>zHw P ops n k l ((d,v)::L) w'
      | _=>none
     else none
    else bif yX ops L o false then zHw P ops n k l ((d,undef)::L) w
    else none
   else none
theorem Fr.set{n:Nat}{a:Act}{L:List (Nat×Value)}{D:List Deferred}(h:Fr n a L D)(t:Nat){v v':Value}(ht:has L t=true)(hv:tY L t=v)(e:v=v'):Fr n a ((t,v')::L) D:=by
 refine⟨h.size,h.defers,fun s hs=>?_⟩;simp only[tY,has]at *;cases hb:Nat.beq t s with
 | true=>
  have:=Nat.eq_of_beq_eq_true hb;subst this;rw[h.get t ht,hv,e];rfl
 | false=>
  rw[hb]at hs;simpa using h.get s (by simpa using hs)
theorem zUa{x:Int}(h0: -9223372036854775808≤x)(h1:x≤9223372036854775807):i64.wrap x=x:=IntWalk.i64_in x ⟨h0,h1⟩
theorem wu32{x:Int}(h0:0≤x)(h1:x≤4294967295):IntKind.u32.wrap x=x:=IntWalk.u32_in x ⟨h0,h1⟩
theorem zIw{x:Int}(h0:0≤x)(h1:x≤18446744073709551615):IntKind.u64.wrap x=x:=IntWalk.u64_in x ⟨h0,h1⟩
theorem wu8{x:Int}(h0:0≤x)(h1:x≤255):IntKind.u8.wrap x=x:=IntWalk.u8_in x ⟨h0,h1⟩
theorem kI(x:Int):IntKind.u32.wrap x=x % 4294967296:=by simp[IntKind.wrap,IntKind.bits,IntKind.signed]
theorem zIi(x:Int):IntKind.u64.wrap x=x % 18446744073709551616:=by simp[IntKind.wrap,IntKind.bits,IntKind.signed]
theorem vW(a:Int)(m:Nat){c:Int}(h:(2:Int)^m=c)(h0:0≤c):Int.fdiv a (2^m)=a / c:=by rw[h];exact Int.fdiv_eq_ediv_of_nonneg a h0
def wK(a b:Int):Int:=IntKind.u32.wrap ((BitVec.ofInt 32 a)&&& (BitVec.ofInt 32 b)).toNat
def nJ(a b:Int):Int:=IntKind.u32.wrap ((BitVec.ofInt 32 a)||| (BitVec.ofInt 32 b)).toNat
def vQ(a b:Int):Int:=IntKind.u32.wrap ((BitVec.ofInt 32 a)^^^(BitVec.ofInt 32 b)).toNat
theorem dV(a:Nat)(h:a<4294967296):(BitVec.ofInt 32 (a:Int))=BitVec.ofNat 32 a:=by
 have _:=h;simp
theorem bL(a b:Nat)(ha:a<4294967296)(hb:b<4294967296):wK a b=((a&&& b:Nat):Int):=by
 unfold wK;rw[dV a ha,dV b hb,kI,BitVec.toNat_and,BitVec.toNat_ofNat,BitVec.toNat_ofNat,Nat.mod_eq_of_lt (by omega:a<2^32),Nat.mod_eq_of_lt (by omega:b<2^32)]
 have:=Nat.and_le_left (n:=a) (m:=b);omega
theorem fV(a b:Nat)(ha:a<4294967296)(hb:b<4294967296):nJ a b=((a||| b:Nat):Int):=by
 unfold nJ;rw[dV a ha,dV b hb,kI,BitVec.toNat_or,BitVec.toNat_ofNat,BitVec.toNat_ofNat,Nat.mod_eq_of_lt (by omega:a<2^32),Nat.mod_eq_of_lt (by omega:b<2^32)]
 have:a||| b<2^32:=Nat.or_lt_two_pow (by omega) (by omega)
 omega
theorem bM(a b:Nat)(ha:a<4294967296)(hb:b<4294967296):vQ a b=((a^^^b:Nat):Int):=by
 unfold vQ;rw[dV a ha,dV b hb,kI,BitVec.toNat_xor,BitVec.toNat_ofNat,BitVec.toNat_ofNat,Nat.mod_eq_of_lt (by omega:a<2^32),Nat.mod_eq_of_lt (by omega:b<2^32)]
 have:a^^^b<2^32:=Nat.xor_lt_two_pow (by omega) (by omega)
 omega
theorem qA{k:IntKind}{x y:Int}(h:x=y):Value.int k x= .int k y:=h▸rfl
theorem zK{x y:Bool}(h:x=y):Value.bool x= .bool y:=h▸rfl
theorem zNa{P:Program}{ρ:Operand→Value}{o:Oper}{t e:TypeId}{x hi:Operand}{ad:Option Addr}{len cap:Nat}{kd:IntKind}{i:Int}{h':Nat}{g:Bool}{m:Nat}(ho:o.op= .slice t x none (some hi) none)(ht:P.underlying t=some (.slice e))(he:ldT P e=some (g,m))
  (hx:ρ x= .slice ad len cap) (hi':ρ hi= .int kd i) (h0:0≤i) (h1:i≤cap) (hh:i.toNat=h') (w:World):
  (execOp ρ o).run P w= .ok (.value (.slice ad h' cap)) w:=by
 rw[zQv ho ht he hx hi' h0 h1 hh w];simp
def U32(l:List Nat):List Value:=l.map fun(x:Nat)=>Value.int .u32 (x:Int)
@[simp] theorem mU (l:List Nat):(U32 l).length=l.length:=by simp[U32]
theorem zKw{l:List Nat}{i:Nat}(h:i<l.length):(U32 l)[i]?=some (.int .u32 ((l.getD i 0:Nat):Int)):=by simp[U32,h]
structure zT(r:Rd)(ad:Option Addr)(len cap:Nat)(l:List Nat):Prop where
 hlen:len=l.length
 hcap:len≤cap
 hbig:cap≤9223372036854775807
 hlt:∀x∈l,x<4294967296
 hat:l=[]∨∃b off,ad=some ⟨b,off,none⟩∧At r ⟨b,off,none⟩ (U32 l)
theorem zT.mono{r r':Rd}{ad:Option Addr}{len cap:Nat}{l:List Nat}(h:zT r ad len cap l)(k:Le r r'):zT r' ad len cap l:=
 ⟨h.hlen,h.hcap,h.hbig,h.hlt,h.hat.imp id fun⟨b,off,e,ha⟩=>⟨b,off,e,ha.mono k⟩⟩
theorem zT.addr{r:Rd}{ad:Option Addr}{len cap:Nat}{l:List Nat}(h:zT r ad len cap l)(h0:0<len):∃b off,ad=some ⟨b,off,none⟩∧At r ⟨b,off,none⟩ (U32 l):=by
 rcases h.hat with rfl | h'
 ·have:=h.hlen;simp at this;omega
 ·exact h'
theorem zT.getD_lt{r:Rd}{ad:Option Addr}{len cap:Nat}{l:List Nat}(h:zT r ad len cap l)(i:Nat):l.getD i 0<4294967296:=by
 by_cases hi:i<l.length
 ·have:l.getD i 0=l[i]:=by simp[hi]
  rw[this];exact h.hlt _ (List.getElem_mem hi)
 ·have:l.getD i 0=0:=by simp[List.getElem?_eq_none (Nat.le_of_not_lt hi)]
  omega
theorem At.one{r:Rd}{b off:Nat}{vs:List Value}(h:At r ⟨b,off,none⟩ vs){i:Nat}{v:Value}(hi:vs[i]?=some v):At r ⟨b,off+i,none⟩ [v]:=by
 intro j u hj;rcases j with _ | j
 ·simp at hj;subst hj;rw[yC,Nat.add_zero];have:=h i v hi;rwa[yC]at this
 ·simp at hj
theorem zT.cell{r:Rd}{b off len cap:Nat}{l:List Nat}(h:zT r (some ⟨b,off,none⟩) len cap l){i:Nat}(hi:i<l.length):At r ⟨b,off+i,none⟩ [.int .u32 ((l.getD i 0:Nat):Int)]:=by
 rcases h.hat with rfl | ⟨b',off',e,ha⟩
 ·simp at hi
 ·cases e;exact ha.one (zKw hi)
def kP(l:List Nat):Nat→Nat
 | 0=>0
 | k+1=>if l.getD k 0=0 then kP l k else k+1
def jP(l:List Nat):Nat:=kP l l.length
theorem mJ(l:List Nat):∀k,kP l k≤k
 | 0=>Nat.le_refl _
 | k+1=>by unfold kP;split;have:=mJ l k;omega;omega
theorem fK{l:List Nat}{k:Nat}(h:l.getD k 0=0):kP l (k+1)=kP l k:=by rw[kP,if_pos h]
theorem fJ{l:List Nat}{k:Nat}(h:l.getD k 0≠0):kP l (k+1)=k+1:=by rw[kP,if_neg h]
theorem zRe{l:List Nat}{k:Nat}(h0:0<k)(h:l.getD (k-1) 0=0):kP l (k-1)=kP l k:=by
 obtain⟨j,rfl⟩:∃j,k=j+1:=⟨k-1,by omega⟩
 exact(fK h).symm
theorem zRd{l:List Nat}{k:Nat}(h0:0<k)(h:l.getD (k-1) 0≠0):kP l k=k:=by
 obtain⟨j,rfl⟩:∃j,k=j+1:=⟨k-1,by omega⟩
 exact fJ h
def trimmed(l:List Nat):List Nat:=l.take (jP l)
theorem jQ(l:List Nat):(trimmed l).length=jP l:=by
 have:=mJ l l.length;simp[trimmed,jP]at *;omega
def val:List Nat→Nat
 | []=>0
 | x::l=>x+4294967296*val l
def jC(l:List Nat):Prop:=l.length=0∨l.getD (l.length-1) 0≠0
def yN(l:List Nat):Int:=if 512<l.length then 4 else if 0<l.length∧l.getD (l.length-1) 0=0 then 2 else 0
theorem dB{l:List Nat}(h:yN l=0):l.length≤512∧jC l:=by
 unfold yN at h;split at h
 ·omega
 ·split at h
  ·omega
  ·refine⟨by omega,?_⟩
   unfold jC;by_cases h0:l.length=0
   ·exact .inl h0
   ·exact .inr fun e=>by rename_i hn;exact hn ⟨by omega,e⟩
def FF(r:Option Nat):Fence:={Fence.wide with round:=r}
theorem xC(r:Option Nat)(f:FuncId):(FF r).fn f:=trivial
theorem sQ(r:Option Nat)(n:Nat):(FF r).depth.isSome=true→1≤n:=fun h=>by simp[FF,Fence.wide]at h
section
variable {r:Option Nat}{n:Nat}{P:Program}{ops:Array Oper}{Q:Exit→Act→World→Prop}{K:Act→World→Prop}{a:Act}{w:World}{o:Oper}
theorem rJ{f:FuncId}{args:Array Value}{R:Ending→World→Prop}:CallsIn (FF r) n P f args w R↔Calls P f args w R:=
 ⟨fun h=>(callsIn_wide (n:=n)).1 (show CallsIn Fence.wide n P f args w R from h),fun h=>show CallsIn Fence.wide n P f args w R from callsIn_wide.2 h⟩
theorem qZx{row:String}{args:Array Value}{R:Value→World→Prop}(h:Rows P row args w R):RowsIn (FF r) n P row args w R:=
 fun c cs _=>let⟨v,w',hr,s⟩:=h c cs;⟨v,w',hr,(stepsIn_wide (P:=P)).2 s⟩
def xQ:Op→Bool
 | .defer _=>false
 | _=>true
theorem fD(r:Option Nat)(ρ:Operand→Value)(o:Oper)(h:xQ o.op=true):Oper.semAt r ρ o=execOp ρ o:=by
 cases r with
 | none=>rfl
 | some l=>exact Oper.semAt_some l ρ o (fun c e=>by rw[e]at h;cases h)
theorem zMp(hd:xQ o.op=true)(h:o.wp P a w K Q):o.wpIn (FF r) n P a w K Q:=by
 refine⟨fun f _=>xC r f,?_⟩;show o.uponIn (FF r) n P a K Q ((o.semAt r a.eval).run P w);rw[fD r a.eval o hd];unfold Oper.wp at h;generalize (execOp a.eval o).run P w=x at h;cases x with
 | ok y w1=>
  cases y<;>simp only[Oper.upon,Oper.uponIn]at h ⊢<;>first | exact h | exact h.elim | skip
  case enter f args=>
   refine⟨sQ r n,?_⟩;refine CallsIn.mono (rJ.2 h) fun e w2 he=>?_;cases e<;>exact he
  case row row args=>
   exact⟨sQ r n,qZx h⟩
 | halt x w1=>cases x<;>simp only[Oper.upon,Oper.uponIn]at h ⊢<;>exact h
theorem zWb(hd:∀(i:Nat)(o:Oper),ops[i]?=some o→xQ o.op=true)(hq:¬LetsOut Q):∀(l:List Nat)(a:Act)(w:World),wpOps P ops Q l a w→wpOpsIn (FF r) n P ops Q l a w
 | [],a,w,h=>h
 | i::rest,a,w,h=>by
  simp only[wpOps,wpOpsIn]at *;cases ho:ops[i]? with
  | none=>simp only[ho]at h ⊢;exact zWb hd hq rest a w h
  | some o=>
   simp only[ho]at h ⊢;split
   ·rename_i hw;rw[if_pos hw]at h;rcases h with h | h
    ·exact zMp (hd i o ho) (Oper.wp_mono (fun a w hk=>zWb hd hq rest a w hk) h)
    ·exact absurd h.2 hq
   ·rename_i hw;rw[if_neg hw]at h;exact⟨fun f _=>xC r f,zWb hd hq rest _ w h⟩
variable {nn d:Nat}{L:List (Nat×Value)}{D:List Deferred}{rest:List Oper}{m:Nat}
theorem qX(hF:Fr nn a L D)(hc:(yX ops L o true&&xQ o.op)=true)(h:o.wp P a w (wpListIn (FF r) m P ops Q rest) Q):wpListIn (FF r) m P ops Q (o::rest) a w:=by
 simp only[Bool.and_eq_true]at hc;unfold wpListIn;rw[if_pos (hF.wanted hc.1)];exact zMp hc.2 h
theorem zDz:∀(k:Nat){l:List Oper}{a:Act}{w w':World}{L L':List (Nat×Value)}{D:List Deferred}(_:Fr nn a L D)(_:l.all (fun o=>xQ o.op)=true)(_:zHw P ops nn k l L w=some (L',w'))
  (_:∀a',Fr nn a' L' D→wpListIn (FF r) m P ops Q (l.drop k) a' w'),wpListIn (FF r) m P ops Q l a w
 | 0,l,a,w,w',L,L',D,hF,_,hr,hk=>by
  simp only[zHw,Option.some.injEq,Prod.mk.injEq]at hr;obtain⟨rfl,rfl⟩:=hr;exact hk a hF
 | k+1,[],a,w,w',L,L',D,hF,_,hr,hk=>by simp[zHw]at hr
 | k+1,o::l,a,w,w',L,L',D,hF,hn,hr,hk=>by
  simp only[List.all_cons,Bool.and_eq_true]at hn;unfold zHw at hr;cases hd:o.dst with
  | none=>simp[hd]at hr
  | some d=>
   simp only[hd]at hr;cases hlt:Nat.blt d nn with
   | false=>simp[hlt]at hr
   | true=>
    simp only[hlt,cond_true]at hr;have hdn:d<nn:=by simpa[Nat.blt_eq]using hlt
    cases hw:yX ops L o true with
    | true=>
     simp only[hw,cond_true]at hr;cases hok:pO L o with
     | false=>simp[hok]at hr
     | true=>
      simp only[hok,cond_true]at hr;cases hx:(execOp (evL L) o).run P w with
      | halt h w1=>simp[hx]at hr
      | ok x w1=>
       cases x<;>simp only[hx]at hr<;>try cases hr
       rename_i v;refine qX hF (by rw[hw,hn.1];rfl) ?_
       unfold Oper.wp;rw[hF.exec hok,hx];show wpListIn (FF r) m P ops Q l (a.put o.dst v) w1;rw[hd];exact zDz k (hF.put hdn v) hn.2 hr (by simpa using hk)
    | false=>
     simp only[hw,cond_false]at hr;cases hw2:yX ops L o false with
     | false=>simp[hw2]at hr
     | true=>
      simp only[hw2,cond_true]at hr;have hwf:=hF.wanted hw2;unfold wpListIn;rw[if_neg (by rw[hwf];simp),hd]
      exact⟨fun f _=>xC r f,zDz k (hF.put hdn _) hn.2 hr (by simpa using hk)⟩
theorem zD(k:Nat)(N:List (Nat×Value)){l:List Oper}{a:Act}{w:World}{L:List (Nat×Value)}{D:List Deferred}(hF:Fr nn a L D)(hn:l.all (fun o=>xQ o.op)=true)(hr:zHw P ops nn k l L w=some (N++L,w))
  (hk:∀a',Fr nn a' (N++L) D→wpListIn (FF r) m P ops Q (l.drop k) a' w):wpListIn (FF r) m P ops Q l a w:=zDz k hF hn hr hk
theorem zKr{fx:Operand}{xs:Array Operand}{ts:Array TypeId}{l:Nat}{vs:Array Value}{R:Ending→World→Prop}(hF:Fr nn a L D)(hc:chk ops L o d nn=true)
  (ho:o.op= .call {callee:= .value fx,args:=xs,argTypes:=ts}) (hf:evL L fx= .func (.yield l) #[] #[]) (hargs:xs.map (evL L)=vs)
  (hy:YieldAt (FF r) (m-1) P l vs w R) (hR:∀e w1,R e w1→∃v,e= .returned v)
  (k:∀v w1,R (.returned v) w1→∀a1,Fr nn a1 ((d,v)::L) D→wpListIn (FF r) m P ops Q rest a1 w1):wpListIn (FF r) m P ops Q (o::rest) a w:=by
 simp only[chk,Bool.and_eq_true]at hc;obtain⟨hd,hlt⟩:=qO hc.2.2;obtain⟨fn,tmps,assign,body,hrun,hround⟩:=hy;unfold wpListIn;rw[if_pos (hF.wanted hc.1)];refine⟨fun f _=>xC r f,?_⟩;have hnd:xQ o.op=true:=by rw[ho];rfl
 show o.uponIn (FF r) m P a _ Q ((o.semAt r a.eval).run P w);rw[fD r a.eval o hnd,hF.exec hc.2.1];have hx:(execOp (evL L) o).run P w= .ok (.round l fn tmps assign body) w:=by
  unfold execOp;simp only[ho,resolve,hf,Deferred.ofValue,Sem.run_bind,Sem.run_pure,Result.andThen_ok,invoke];simp only[hargs];simpa using hrun
 rw[hx];refine⟨sQ r m,hround.mono fun e w1 he=>?_⟩;obtain⟨v,rfl⟩:=hR e w1 he;show wpListIn (FF r) m P ops Q rest (a.put o.dst v) w1;rw[hd];exact k v w1 he _ (hF.put hlt v)
end
section
variable {r:Option Nat}{m:Nat}{P:Program}{ops:Array Oper}{Q:Exit→Act→World→Prop}{K:Act→World→Prop}{a:Act}{w:World}{n:Nat}{L:List (Nat×Value)}{D:List Deferred}
theorem zG{x y:Code}(h:∀K:Act→World→Prop,(∀a w,y.wpIn (FF r) m P Q a w→K a w)→x.wpIn (FF r) m P (Exit.then K Q) a w):(Code.seq x y).wpIn (FF r) m P Q a w:=wpIn_seq_k h
theorem wM(h:Q .normal a w):Code.skip.wpIn (FF r) m P Q a w:=wpIn_skip h
theorem zLv{l:Nat}(h:Q .normal a w):(Code.label l).wpIn (FF r) m P Q a w:=wpIn_label h
theorem yY{id:Nat}{c:Code}(h:c.wpIn (FF r) m P (Exit.inBlock id Q) a w):(Code.block id c).wpIn (FF r) m P Q a w:=wpIn_block h
theorem bV{id:Nat}(h:Q (.exit id) a w):(Code.exit id).wpIn (FF r) m P Q a w:=wpIn_exit h
theorem nS(h:Q .ret a w):Code.ret.wpIn (FF r) m P Q a w:=wpIn_ret h
theorem zC{id:Nat}{l:List Oper}(h:wpListIn (FF r) m P l.toArray Q l a w):(Code.region id l.toArray false).wpIn (FF r) m P Q a w:=wpIn_region_lit h
theorem zH(h:Q .normal a w):wpListIn (FF r) m P ops Q [] a w:=h
theorem pK{x y:Code}{c:Operand}(b:Bool)(hF:Fr n a L D)(hc:cov L c=true)(hv:evL L c= .bool b)(ht:b=true→x.wpIn (FF r) m P Q a w)(hf:b=false→y.wpIn (FF r) m P Q a w):(Code.cond c x y).wpIn (FF r) m P Q a w:=
 wpIn_cond_split ((hF.eval hc).trans hv) ht hf
theorem qTy{x y:Code}{c:Operand}(hF:Fr n a L D)(hc:cov L c=true)(hv:evL L c= .bool true)(h:x.wpIn (FF r) m P Q a w):(Code.cond c x y).wpIn (FF r) m P Q a w:=wpIn_cond_true ((hF.eval hc).trans hv) h
theorem qJv{x y:Code}{c:Operand}(hF:Fr n a L D)(hc:cov L c=true)(hv:evL L c= .bool false)(h:y.wpIn (FF r) m P Q a w):(Code.cond c x y).wpIn (FF r) m P Q a w:=wpIn_cond_false ((hF.eval hc).trans hv) h
theorem gK{c:Code}{γ:Type}(I:γ→Act→World→Prop)(μ:γ→Nat)(g0:γ)(h₀:I g0 a w)
  (round:∀g a w,I g a w→c.wpIn (FF r) m P (Exit.then (fun a' w'=>∃g',I g' a' w'∧μ g'<μ g) Q) a w):(Code.loop c).wpIn (FF r) m P Q a w:=by
 intro b k cs hro hb hr;have key:∀j g a w,μ g=j→I g a w→
   ∃e a' w',Q e a' w'∧ArrivesIn (Machine.fenced P (FF r)) P (lone (b.atR a (.code c::.inLoop c::k)) cs w) b k cs e a' w':=by
  intro j;induction j using Nat.strongRecOn with
  | _ j ih=>
   intro g a w hn hI;obtain⟨e,a₁,w₁,hq,harr⟩:=round g a w hI b (.inLoop c::k) cs hro hb hr;cases e with
   | normal=>
    obtain⟨g',hI₁,hlt⟩:=hq;obtain⟨e₂,a₂,w₂,hq₂,harr₂⟩:=ih (μ g') (hn▸hlt) g' a₁ w₁ rfl hI₁;exact⟨e₂,a₂,w₂,hq₂,.of_steps (StepsIn.trans harr (.one (fenced_calm hb hr rfl) stepR_inLoop)) harr₂⟩
   | exit id=>exact⟨_,a₁,w₁,hq,.pass (x:= .inLoop c) rfl (fun _ _=> .inl (by simp)) harr⟩
   | goto l=>exact⟨_,a₁,w₁,hq,.pass (x:= .inLoop c) rfl (fun _ _=> .inl (by simp)) harr⟩
   | ret=>exact⟨_,a₁,w₁,hq,.pass (x:= .inLoop c) rfl (fun _ _=> .inl (by simp)) harr⟩
   | panic ch=>exact⟨_,a₁,w₁,hq,.pass (x:= .inLoop c) rfl (fun _ _=> .inl (by simp)) harr⟩
   | outgrown=>exact⟨_,a₁,w₁,hq,.pass (x:= .inLoop c) rfl (fun _ _=> .inl (by simp)) harr⟩
 obtain⟨e,a',w',hq,harr⟩:=key _ g0 a w rfl h₀;exact⟨e,a',w',hq,.of_steps (.one (fenced_calm hb hr rfl) stepR_loop) harr⟩
variable {E:Nat→Prop}{w0:World}{X Y:Hid}{M:List (Nat×Obj)}
theorem zOw{f:FuncId}{args:Array Value}{fn:Func}{vs:List Value}(hn:fn.ntmps=n)(hvs:args.toList=vs)(hle:Nat.ble vs.length n=true):Fr n {tmps:=args++Array.replicate (fn.ntmps-args.size) undef,defers:=[]} (zEc 0 vs):=by
 have _:=f;refine⟨?_,rfl,fun t ht=>?_⟩
 ·have:=Nat.le_of_ble_eq_true hle;have hs:args.size=vs.length:=by rw[←hvs];simp
  simp[hn];omega
 ·obtain⟨j,rfl,hj,he⟩:=zJl vs 0 t ht;have hs:j<args.size:=by rw[←Array.length_toList,hvs];exact hj
  rw[Nat.zero_add]at *;rw[←he,←hvs];simp[Array.getElem?_append,hs]
theorem zFb{f:FuncId}{fn:Func}{c:Code}{args:Array Value}{vs:List Value}{R:Ending→World→Prop}(hf:P.funcs[f]?=some fn)(hb:fn.body=some c)(hn:fn.ntmps=n)(hvs:args.toList=vs)(hle:Nat.ble vs.length n=true)
  (k:∀a,Fr n a (zEc 0 vs)→c.wpIn (FF none) 0 P (bodyPost P fn R) a w):Calls P f args w R:=
 rJ.1 (callsIn_of_wp (n:=0) hf hb (xC none f) (k _ (zOw (f:=f) hn hvs hle)))
theorem zMf{f:FuncId}{fn:Func}{c:Code}{args:Array Value}{vs:List Value}{R:Ending→World→Prop}(hf:P.funcs[f]?=some fn)(hb:fn.body=some c)(hn:fn.ntmps=n)(hvs:args.toList=vs)(hle:Nat.ble vs.length n=true)
  (k:∀a,Fr n a (zEc 0 vs)→c.wpIn (FF none) 0 P (bodyPostM (FF none) 0 P fn R) a w):Calls P f args w R:=
 rJ.1 (callsIn_of_wp_marks (n:=0) hf hb (xC none f) (k _ (zOw (f:=f) hn hvs hle)))
theorem zAt{fn:Func}{R:Ending→World→Prop}{tmps:Array Value}{v:Value}(h:(results fn tmps).run P w= .ok v w)(hR:R (.returned v) w):LeavesInM (FF none) 0 P fn tmps R [] .returning w:=⟨v,h,hR⟩
theorem qXy{fn:Func}{R:Ending→World→Prop}{rs:List ResultVar}{vs:List Value}{v:Value}(hF:Fr n a L)(hr:fn.results=rs.toArray)(h:Res P L w rs vs)(hv:zBs vs=v)(hR:R (.returned v) w):bodyPostM (FF none) 0 P fn R .ret a w:=by
 show LeavesInM (FF none) 0 P fn a.tmps R a.defers .returning w;rw[hF.defers];exact zAt (hv▸tN hF hr h) hR
def mark(b:Nat):Deferred:={target:= .collected b,args:=#[]}
theorem St.putObj(h:St E w0 X w Y M)(i:Nat){b:Nat}{o o':Obj}(hi:M[i]?=some (b,o)):St E w0 X (w.putObj b o') Y (M.set i (b,o'))∧Le (rd w Y) (rd (w.putObj b o') Y):=by
 have hlt:b<w.heap.size:=(Array.getElem?_eq_some_iff.1 (h.get i hi)).1;exact⟨h.set i o' hi (by simp) rfl rfl rfl (World.putObj_heap_same hlt) (fun k _ hk=>World.putObj_heap_other hk),h.le_set i hi (fun k _ hk=>World.putObj_heap_other hk)⟩
theorem zMg{fn:Func}{R:Ending→World→Prop}{rs:List ResultVar}{vs:List Value}{v:Value}{b:Nat}(i:Nat)(hF:Fr n a L [mark b])(hS:St E w0 X w Y M)(hi:M[i]?=some (b,.deferred (some [])))(hr:fn.results=rs.toArray)(hv:zBs vs=v)
  (k:∀w1,St E w0 X w1 Y (M.set i (b,.deferred none))→Le (rd w Y) (rd w1 Y)→Res P L w1 rs vs∧R (.returned v) w1):bodyPostM (FF none) 0 P fn R .ret a w:=by
 show LeavesInM (FF none) 0 P fn a.tmps R a.defers .returning w;rw[hF.defers];obtain⟨h1,h2⟩:=hS.putObj (o':= .deferred none) i hi;obtain⟨h3,h4⟩:=k _ h1 h2;have hF0:Fr n {a with defers:=[]} L:=⟨hF.size,rfl,hF.get⟩
 refine⟨by simp,.inl ⟨b,_,rfl,run_takeDeferred (hS.get i hi),?_⟩⟩
 exact zAt (hv▸tN hF0 hr h3) h4
theorem qJw{g:Operand}{ps:Array Tmp}{assign body:Code}{f:FuncId}{caps:Array Value}(hF:Fr n a L D)(hS:St E w0 X w Y M)(hc:cov L g=true)(hg:evL L g= .func (.func f) #[] caps)
  (hcall:∀args w,(callFunc f args).run P w= .ok (.enter f args) w)
  (k:∀fn l b w1 Y1,St E w0 X w1 Y1 ((l,.loop {state:= .ready,pending:=none,fn:=fn,tmps:=a.tmps,params:=ps,assign:=assign,body:=body,defers:=b})::(b,.deferred (some []))::M)→
   Le (rd w Y) (rd w1 Y1)→Upd E0 w w1→
   Calls P f (#[.func (.yield l) #[] #[]]++caps) w1 (fun e w3=>(∃v,e= .returned v)∧∃rec,w3.heap[l]?=some (.loop rec)∧rec.state≠.busy∧
    (match rec.pending with
     | none=>Q .normal {a with defers:=mark b::a.defers} (w3.putObj l (.loop {rec with state:= .exhausted}))
     | some c=>c.wpIn (FF none) 0 P Q {a with defers:=mark b::a.defers} (w3.putObj l (.loop {rec with state:= .exhausted}))))):
  (Code.rangeFunc g ps assign body).wpIn (FF none) 0 P Q a w:=by
 refine wpIn_rangeFunc fun fn _=>?_;have h1:=hS.alloc (.deferred (some []));have h2:=h1.alloc (.loop {state:= .ready,pending:=none,fn:=fn,tmps:=a.tmps,params:=ps,assign:=assign,body:=body,defers:=w.heap.size});have hle:Le (rd w Y) (rd ((w.alloc (.deferred (some []))).alloc (.loop {state:= .ready,pending:=none,fn:=fn,tmps:=a.tmps,params:=ps,assign:=assign,body:=body,defers:=w.heap.size})) _):=(Le.hide_new (.deferred (some []))).trans (Le.hide_new _);have hu:=(Upd.alloc w (.deferred (some []))).trans ((Upd.alloc (w.alloc (.deferred (some []))) (.loop {state:= .ready,pending:=none,fn:=fn,tmps:=a.tmps,params:=ps,assign:=assign,body:=body,defers:=w.heap.size})).weaken fun _ _ e=>e);have hK:=k fn (w.heap.size+1) w.heap.size _ _ (by simpa using h2) (by simpa using hle) hu
 have hge:a.eval g= .func (.func f) #[] caps:=(hF.eval hc).trans hg;have hrun:=run_enterLoop_outer (P:=P) (w:=w) fn a.tmps ps assign body;clear h2 hle hu;generalize (w.alloc (.deferred (some []))).alloc (.loop {state:= .ready,pending:=none,fn:=fn,tmps:=a.tmps,params:=ps,assign:=assign,body:=body,defers:=w.heap.size})=W1 at hK hrun;refine⟨w.heap.size+1,[mark w.heap.size],W1,{target:= .fn (.func f) caps,args:=#[.func (.yield (w.heap.size+1)) #[] #[]]},W1,f,
  #[.func (.yield (w.heap.size+1)) #[] #[]]++caps,W1,hrun,?_,fun f' _=>xC none f',?_,sQ none 0,?_⟩
 ·simp only[resolve,hge];simp[go_sem]
 ·simp[invoke,go_sem,hcall]
 ·refine rJ.2 (hK.mono ?_);rintro e w3 ⟨⟨v,rfl⟩,rec,hl,hb,hrest⟩;refine⟨rec.pending,_,run_endLoop hl hb,?_⟩;exact hrest
theorem zXd{l:Nat}{rec:Loop}{args:Array Value}{R:Ending→World→Prop}(i:Nat)(hS:St E w0 X w Y M)(hi:M[i]?=some (l,.loop rec))(hsz:args.size=rec.params.size)
  (k:rec.assign.wpIn (FF (some l)) 0 P (Exit.then (fun a₁ w₁=>∃w₂,(Instr.beginRound l).run P w₁= .ok () w₂∧rec.body.wpIn (FF (some l)) 0 P (roundPost P l R) a₁ w₂) (fun _ _ _=>False))
   {tmps:=(rec.params.zip args).foldl (fun tmps(t,a)=>tmps.setIfInBounds t a) rec.tmps,defers:=[]} w):YieldAt (FF none) 0 P l args w R:=
 ⟨_,_,_,_,run_yield (hS.get i hi) hsz,roundIn_of_wpIn (F:=FF none) (xC none _) k⟩
theorem qNa{l:Nat}{rec:Loop}{body:Code}{R:Ending→World→Prop}(i:Nat)(hS:St E w0 X w Y M)(hi:M[i]?=some (l,.loop rec))(hr:rec.state= .ready)
  (k:∀w1,St E w0 X w1 Y (M.set i (l,.loop {rec with state:= .busy}))→Le (rd w Y) (rd w1 Y)→body.wpIn (FF (some l)) 0 P (roundPost P l R) a w1):
  ∃w₂,(Instr.beginRound l).run P w= .ok () w₂∧body.wpIn (FF (some l)) 0 P (roundPost P l R) a w₂:=
 ⟨_,run_beginRound (hS.get i hi) hr,k _ (hS.putObj i hi).1 (hS.putObj (o':= .loop {rec with state:= .busy}) i hi).2⟩
theorem jAz{l:Nat}{rec:Loop}{R:Ending→World→Prop}(i:Nat)(hS:St E w0 X w Y M)(hi:M[i]?=some (l,.loop rec))
  (k:∀w1,St E w0 X w1 Y (M.set i (l,.loop {rec with state:= .ready,pending:=none}))→Le (rd w Y) (rd w1 Y)→R (.returned (.bool true)) w1):roundPost P l R .normal a w:=
 ⟨_,_,run_endRound none (hS.get i hi),k _ (hS.putObj i hi).1 (hS.putObj (o':= .loop {rec with state:= .ready,pending:=none}) i hi).2⟩
theorem jCz{l:Nat}{rec:Loop}{R:Ending→World→Prop}(i:Nat)(hS:St E w0 X w Y M)(hi:M[i]?=some (l,.loop rec))
  (k:∀w1,St E w0 X w1 Y (M.set i (l,.loop {rec with state:= .done,pending:=some .ret}))→Le (rd w Y) (rd w1 Y)→R (.returned (.bool false)) w1):roundPost P l R .ret a w:=
 ⟨_,_,run_endRound (some .ret) (hS.get i hi),k _ (hS.putObj i hi).1 (hS.putObj (o':= .loop {rec with state:= .done,pending:=some .ret}) i hi).2⟩
theorem zXy{p q:Nat}{v u:Value}(hF:Fr n a L D)(hp:p<n)(hq:q<n):Fr n {tmps:=((#[p,q]:Array Tmp).zip #[v,u]).foldl (fun tmps(t,a)=>tmps.setIfInBounds t a) a.tmps,defers:=[]} ((q,u)::(p,v)::L):=by
 have h0:Fr n {a with defers:=[]} L:=⟨hF.size,rfl,hF.get⟩
 have:=(h0.put hp v).put hq u;simpa[Act.put]using this
end
section
variable {E:Nat→Prop}{w0 w w1:World}{X Y:Hid}{M:List (Nat×Obj)}
theorem St.own_ge{b:Nat}{o:Obj}(h:St E0 w0 X w Y M)(i:Nat)(hi:M[i]?=some (b,o)):w0.heap.size≤b:=by
 rcases(h.own _ (List.mem_of_getElem? hi)).2.1 with h | h
 ·exact h
 ·exact h.elim
theorem St.adopt{g:Nat}{o:Obj}(h:St E w0 X w1 Y M)(hn:∀j,¬Y g j)(hg:w0.heap.size≤g)(ho:w1.heap[g]?=some o):St E w0 X w1 (zAo g Y) ((g,o)::M):=
 ⟨h.upd,fun k j hy=>by
   rcases hy with rfl | hy
   ·exact(Array.getElem?_eq_some_iff.1 ho).1
   ·exact h.lt k j hy,
  fun k j hx=> .inr (h.hid k j hx),fun p hp=>by
   rcases List.mem_cons.1 hp with rfl | hp
   ·exact⟨ho,.inl hg,fun _=> .inl rfl⟩
   ·obtain⟨h1,h2,h3⟩:=h.own p hp;exact⟨h1,h2,fun j=> .inr (h3 j)⟩,by
   simp only[List.map_cons,List.nodup_cons,h.nd,and_true,List.mem_map,not_exists,not_and];intro p hp e;exact hn 0 (e▸(h.own p hp).2.2 0),h.ltX⟩
theorem Le.hide_ge{r:Rd}{g:Nat}(h:Le r (rd w1 Y))(hr:∀a v,r a=some v→a.block≠g):Le r (rd w1 (zAo g Y)):=fun a v e=>by
 have:=h a v e;refine rD (yQ this) ?_ (aM this);rintro(hy | hy)
 ·exact hr a v e hy
 ·exact wE this hy
theorem jCo{a:Addr}{v:Value}(h:rd w Y a=some v):a.block<w.heap.size:=World.block_lt_of_cell? w a (yQ h)
theorem Le.adopt{g:Nat}(h:Le (rd w Y) (rd w1 Y))(hg:w.heap.size≤g):Le (rd w Y) (rd w1 (zAo g Y)):=h.hide_ge fun a v e hb=>by have:=jCo e;omega
end
section
variable {P:Program}{Q:Exit→Act→World→Prop}{K:Act→World→Prop}{a:Act}{o:Oper}{n d:Nat}{L:List (Nat×Value)}{D:List Deferred}{E:Nat→Prop}{w0 w:World}{X Y:Hid}{M:List (Nat×Obj)}
theorem qFc{fx:Operand}{xs:Array Operand}{ts:Array TypeId}{f:FuncId}{cap:Array Value}{vs:Array Value}{ob1 ob2:Obj}{b1 b2:Nat}{Φ:World→Value→Prop}(i j:Nat)(hF:Fr n a L D)(hc:opk L o d n=true)(hS:St E w0 X w Y M)
  (ho:o.op= .call {callee:= .value fx,args:=xs,argTypes:=ts}) (hf:evL L fx= .func (.func f) #[] cap) (hargs:xs.map (evL L)++cap=vs)
  (hcall:∀w,(callFunc f vs).run P w= .ok (.enter f vs) w) (hM1:M[i]?=some (b1,ob1)) (hM2:M[j]?=some (b2,ob2)) (hij:i≠j) (hcon:Calls P f vs w (Ret (fun k=>k=b1∨k=b2) w Φ))
  (k:∀v w1,Φ w1 v→(∀o1 o2,w1.heap[b1]?=some o1→w1.heap[b2]?=some o2→St E w0 X w1 Y ((M.set i (b1,o1)).set j (b2,o2)))→Le (rd w Y) (rd w1 Y)→∀a1,Fr n a1 ((d,v)::L) D→K a1 w1):o.wp P a w K Q:=by
 simp only[opk,Bool.and_eq_true]at hc;obtain⟨hd,hlt⟩:=qO hc.2;unfold Oper.wp;rw[hF.exec hc.1];have hrun:(execOp (evL L) o).run P w= .ok (.enter f vs) w:=by
  unfold execOp;simp only[ho,resolve,hf,Deferred.ofValue,Sem.run_bind,Sem.run_pure,Result.andThen_ok,invoke];simp only[←hargs]at hcall ⊢;simpa using hcall w
 rw[hrun];show Calls P f vs w _;refine hcon.mono ?_;rintro e w1 ⟨hu,v,rfl,hΦ⟩;show K (a.put o.dst v) w1;rw[hd];have hl1:b1<w.heap.size:=(Array.getElem?_eq_some_iff.1 (hS.get i hM1)).1;have hne:b1≠b2:=by
  intro e;refine hij (zDp hS.nd (i:=i) (j:=j) (x:=b1) ?_ ?_)
  ·rw[List.getElem?_map,hM1];rfl
  ·rw[List.getElem?_map,hM2];simp[e]
 refine k v w1 hΦ (fun o1 o2 h1 h2=>?_) (fun p u e=>?_) _ (hF.put hlt v)
 ·-- by way of a world in which the first has turned
  have hmid:=hS.set (w':=w.putObj b1 o1) i o1 hM1 (by simp) rfl rfl rfl (World.putObj_heap_same hl1) (fun k _ hk=>World.putObj_heap_other hk)
  have hM2':(M.set i (b1,o1))[j]?=some (b2,ob2):=by rw[List.getElem?_set_ne hij];exact hM2
  refine hmid.set (w':=w1) j o2 hM2' (by simpa using hu.size) hu.os hu.tape hu.output h2 (fun k hk hkb=>?_)
  by_cases e1:k=b1
  ·subst e1;rw[h1,World.putObj_heap_same hl1]
  ·rw[World.putObj_heap_other e1];exact hu.block k (by simpa using hk) (fun h=>h.elim e1 hkb)
 ·have hcell:=yQ e;have hlt:=World.block_lt_of_cell? w p hcell;have hn1:p.block≠b1:=fun eb=>wE e (eb▸(hS.own _ (List.mem_of_getElem? hM1)).2.2 _);have hn2:p.block≠b2:=fun eb=>wE e (eb▸(hS.own _ (List.mem_of_getElem? hM2)).2.2 _);exact zFl e (hu.block p.block hlt (fun h=>h.elim hn1 hn2)) (wE e)
theorem zVy{t e:TypeId}{xl:Operand}{l:Int}{m:Nat}{z:Value}{i0:TypeInfo}(hF:Fr n a L D)(hc:opk L o d n=true)(hS:St E w0 X w Y M)
  (ho:o.op= .makeSlice t xl xl) (hl:evL L xl= .int .i64 l) (hm:l=(m:Int)) (ht:P.underlying t=some (.slice e)) (hi:P.info? e=some i0) (hz:i0.zero=some z) (hs:i0.size=1) (hzc:z.cells=#[z]) (hby:i0.bytes*m≤281474976710656) (h63:m≤140737488355328)
  (k:∀b w1 Y1,St E w0 X w1 Y1 ((b,.cells (List.replicate m z).toArray e (0,0))::M)→Le (rd w Y) (rd w1 Y1)→Upd E0 w w1→∀a1,Fr n a1 ((d,.slice (some ⟨b,0,none⟩) m m)::L) D→K a1 w1):o.wp P a w K Q:=by
 refine mZ (fun b=> .slice (some ⟨b,0,none⟩) m m) (.cells (List.replicate m z).toArray e (0,0)) hF hc hS (fun w=>?_) k;have hb':(i0.bytes:Int)*(m:Int)≤281474976710656:=by
  have h:((i0.bytes*m:Nat):Int)≤281474976710656:=by omega
  rwa[Int.natCast_mul]at h
 have hr:=run_make (P:=P) w t e i0 z ht hi hz .i64 .i64 (m:Int) (m:Int) (by omega) (Int.le_refl _) hb' (by omega)
 have hcells:madeCells z.cells (m*i0.size)=(List.replicate m z).toArray:=by
  apply Array.ext';rw[hzc,hs,Nat.mul_one,toList_madeCells_one]
 simp only[Int.toNat_natCast,hcells]at hr;unfold execOp;simp only[ho,hl,hm,hr,Sem.run_bind,Sem.run_pure,Result.andThen_ok]
end
structure Row(m cap size:Nat)(cur:Array Value)(xs:List Value):Prop where
 hn:m≤cap
 hcap:cap≤maxLen
 hsz:cur.size=cap*size
 hxs:cur.toList.take (m*size)=xs
theorem Row.len{m cap size:Nat}{cur:Array Value}{xs:List Value}(h:Row m cap size cur xs):xs.length=m*size:=by
 rw[←h.hxs,List.length_take,Array.length_toList,h.hsz];exact Nat.min_eq_left (Nat.mul_le_mul_right _ h.hn)
theorem zKa:∀{l:List Nat}{b:Nat}(i:Nat),l.Nodup→b∉l→(l.set i b).Nodup
 | [],_,_,_,_=>by simp
 | x::l,b,0,h,hb=>by
  simp only[List.set_cons_zero,List.nodup_cons,List.mem_cons,not_or]at *;exact⟨hb.2,h.2⟩
 | x::l,b,i+1,h,hb=>by
  simp only[List.set_cons_succ,List.nodup_cons,List.mem_cons,not_or]at *;refine⟨fun hm=>?_,zKa i h.2 hb.2⟩;rcases List.mem_or_eq_of_mem_set hm with h1 | h1
  ·exact h.1 h1
  ·exact hb.1 h1.symm
theorem St.replace{E:Nat→Prop}{w0 w:World}{X Y:Hid}{M:List (Nat×Obj)}{p:Nat×Obj}(h:St E w0 X w Y (p::M))(i:Nat):St E w0 X w Y (M.set i p):=by
 refine⟨h.upd,h.lt,h.hid,fun q hq=>?_,?_,h.ltX⟩
 ·rcases List.mem_or_eq_of_mem_set hq with h1 | h1
  ·exact h.own q (List.mem_cons_of_mem _ h1)
  ·exact h1▸h.own p List.mem_cons_self
 ·rw[List.map_set];have:=h.nd;simp only[List.map_cons,List.nodup_cons]at this;exact zKa i this.2 this.1
theorem qDf(z:Value)(size:Nat)(hzs:z.cells.size=size)(olds news:List Value)(a b c:Nat)(h1:olds.length=a*size)(h2:news.length=b*size)(hc:a+b≤c):
  (olds.toArray++news.toArray++Builtin.zeroCells z.cells (c-(a+b))).size=c*size:=by
 simp only[Array.size_append,List.size_toArray,size_zeroCells,hzs,h1,h2,←Nat.add_mul];congr 1;omega
section
variable {P:Program}{Q:Exit→Act→World→Prop}{K:Act→World→Prop}{a:Act}{o:Oper}{n d:Nat}{L:List (Nat×Value)}{D:List Deferred}{E:Nat→Prop}{w0 w:World}{X Y:Hid}{M:List (Nat×Obj)}
theorem zKd{t e:TypeId}{s x:Operand}{g m nn cap c size:Nat}{cur:Array Value}{xs news:List Value}{ad:Addr}{z:Value}{i0:TypeInfo}(i:Nat)(hF:Fr n a L D)(hc:opk L o d n=true)(hS:St E w0 X w Y M)
  (ho:o.op= .call {callee:= .builtin .append,args:=#[s,x],argTypes:=#[t,t]}) (hs:evL L s= .slice (some ⟨g,0,none⟩) nn cap) (hx:evL L x= .slice (some ad) m c)
  (ht:P.underlying t=some (.slice e)) (hi:P.info? e=some i0) (hz:i0.zero=some z) (hsz:i0.size=size) (hzs:z.cells.size=size)
  (hM:M[i]?=some (g,.cells cur e (0,0))) (hrow:Row nn cap size cur xs) (hnews:jM w ad news) (hl:news.length=m*size) (h1:news.all Value.oneCell'=true)
  (h63:nn+m≤maxLen) (hbytes:(nn+m)*i0.bytes≤140737488355328)
  (k:∀g' cap' cur' w1 Y1,Row (nn+m) cap' size cur' (xs++news)→St E w0 X w1 Y1 (M.set i (g',.cells cur' e (0,0)))→Le (rd w Y) (rd w1 Y1)→∀a1,Fr n a1 ((d,.slice (some ⟨g',0,none⟩) (nn+m) cap')::L) D→K a1 w1):o.wp P a w K Q:=by
 subst hsz;have hg:=hS.get i hM;have hlen:=hrow.len;have hone:∀u∈news,u.oneCell'=true:=fun u hu=>List.all_eq_true.1 h1 u hu;have hexec:∀(v':Value)(w':World),(Builtin.append_ #[t,t] o.type #[.slice (some ⟨g,0,none⟩) nn cap,.slice (some ad) m c]).run P w= .ok v' w'→(execOp (evL L) o).run P w= .ok (.value v') w':=by
  intro v' w' hr;unfold execOp;simp only[ho,resolve,invoke,builtin,Sem.run_bind,Sem.run_pure,Result.andThen_ok,List.map_toArray,List.map_cons,List.map_nil,hs,hx,hr]
 by_cases hroom:nn+m≤cap
 ·have hfit:nn*i0.size+news.length≤cur.size:=by rw[hl,hrow.hsz,←Nat.add_mul];exact Nat.mul_le_mul_right _ hroom
  have hr:=run_append_room (P:=P) w t o.type e i0 ht hi g nn cap cur hg ad m c news hl hnews hone hroom hfit;simp only[opk,Bool.and_eq_true]at hc;obtain⟨hd,hlt⟩:=qO hc.2;unfold Oper.wp;rw[hF.exec hc.1,hexec _ _ hr];show K (a.put o.dst _) _;rw[hd];refine k g cap _ _ Y ⟨hroom,hrow.hcap,?_,?_⟩ (hS.set (w':=w.setRow g _) i _ hM (by simp) rfl rfl rfl (setRow_heap w g cur _ e _ hg) (fun k _ hk=>setRow_other w g k _ hk)) (hS.le_set i hM (fun k _ hk=>setRow_other w g k _ hk)) _ (hF.put hlt _)
  ·simp only[List.size_toArray,List.length_append,List.length_take,List.length_drop,Array.length_toList,hrow.hsz]at *;omega
  ·have hxl:(xs++news).length=(nn+m)*i0.size:=by rw[List.length_append,hlen,hl,Nat.add_mul]
   rw[hrow.hxs,←hxl];exact List.take_left
 ·have holds:∀j u,xs[j]?=some u→w.cell? ((⟨g,0,none⟩:Addr).add j)=some u:=by
   intro j u hj;rw[yC,cell_of_row w g _ cur e _ hg];have hj':j<xs.length:=(List.getElem?_eq_some_iff.1 hj).1;rw[←hrow.hxs,List.getElem?_take,if_pos (by rw[←hlen];exact hj')]at hj
   simpa using hj
  have hr:=run_append_grow (P:=P) w t o.type e i0 z ht hi hz ⟨g,0,none⟩ nn cap xs hlen holds ad m c news hl hnews (by omega) (by simp only[maxLen]at h63;omega) (growslice_fits (by omega) hbytes)
  simp only[opk,Bool.and_eq_true]at hc;obtain⟨hd,hlt⟩:=qO hc.2;unfold Oper.wp;rw[hF.exec hc.1,hexec _ _ hr];show K (a.put o.dst _) _;rw[hd];have hge:=grownCap_ge w (nn+m) cap e;refine k w.heap.size _ _ _ _ ⟨hge,grownCap_le_maxLen w (nn+m) cap e h63,qDf z i0.size hzs xs news nn m _ hlen hl hge,?_⟩ (((hS.call (Upd.drew w)).alloc _).replace i) (((Upd.drew w).le Y).trans (Le.hide_new _)) _ (hF.put hlt _);have hxl:(xs++news).length=(nn+m)*i0.size:=by rw[List.length_append,hlen,hl,Nat.add_mul]
  simp only[Array.toList_append,List.append_assoc];rw[←List.append_assoc,←hxl];exact List.take_left
theorem zHd{t e:TypeId}{s x:Operand}{m c size:Nat}{news:List Value}{ad:Addr}{z:Value}{i0:TypeInfo}(hF:Fr n a L D)(hc:opk L o d n=true)(hS:St E w0 X w Y M)
  (ho:o.op= .call {callee:= .builtin .append,args:=#[s,x],argTypes:=#[t,t]}) (hs:evL L s= .slice none 0 0) (hx:evL L x= .slice (some ad) m c)
  (ht:P.underlying t=some (.slice e)) (hi:P.info? e=some i0) (hz:i0.zero=some z) (hsz:i0.size=size) (hzs:z.cells.size=size)
  (hnews:jM w ad news) (hl:news.length=m*size) (hm0:0<m)
  (h63:m≤maxLen) (hbytes:m*i0.bytes≤140737488355328)
  (k:∀g' cap' cur' w1 Y1,Row m cap' size cur' news→St E w0 X w1 Y1 ((g',.cells cur' e (0,0))::M)→Le (rd w Y) (rd w1 Y1)→∀a1,Fr n a1 ((d,.slice (some ⟨g',0,none⟩) m cap')::L) D→K a1 w1):o.wp P a w K Q:=by
 subst hsz;have hr:=run_append_nil (P:=P) w t o.type e i0 z ht hi hz ad m c news hl hnews hm0 (by simp only[maxLen]at h63;omega) (by omega)
 have hexec:(execOp (evL L) o).run P w= .ok (.value (.slice (some ⟨w.heap.size,0,none⟩) m (grownCap w m 0 e))) (w.drew.alloc (.cells (news.toArray++Builtin.zeroCells z.cells (grownCap w m 0 e-m)) e)):=by
  unfold execOp;simp only[ho,resolve,invoke,builtin,Sem.run_bind,Sem.run_pure,Result.andThen_ok,List.map_toArray,List.map_cons,List.map_nil,hs,hx,hr]
 simp only[opk,Bool.and_eq_true]at hc;obtain⟨hd,hlt⟩:=qO hc.2;unfold Oper.wp;rw[hF.exec hc.1,hexec];show K (a.put o.dst _) _;rw[hd];have hge:=grownCap_ge w m 0 e;refine k w.heap.size _ _ _ _ ⟨hge,grownCap_le_maxLen w m 0 e h63,?_,?_⟩ ((hS.call (Upd.drew w)).alloc _) (((Upd.drew w).le Y).trans (Le.hide_new _)) _ (hF.put hlt _)
 ·simp only[Array.size_append,List.size_toArray,size_zeroCells,hzs,hl,←Nat.add_mul];congr 1;omega
 ·rw[←hl];simp
theorem qLh{dT sT e:TypeId}{x y:Operand}{g dl dc sl sc:Nat}{cur:Array Value}{T:TypeId}{ad:Addr}{cs:List Value}(i:Nat)(hF:Fr n a L D)(hc:opk L o d n=true)(hS:St E w0 X w Y M)
  (ho:o.op= .call {callee:= .builtin .copy,args:=#[x,y],argTypes:=#[dT,sT]}) (hx:evL L x= .slice (some ⟨g,0,none⟩) dl dc) (hy:evL L y= .slice (some ad) sl sc)
  (hu:P.underlying dT=some (.slice e)) (hs:(P.info? e).map (·.size)=some 1) (hM:M[i]?=some (g,.cells cur T (0,0))) (hn:cs.length=Nat.min sl dl) (hsrc:jM w ad cs) (hfit:cs.length≤cur.size) (h1:cs.all Value.oneCell'=true)
  (k:∀w1,St E w0 X w1 Y (M.set i (g,.cells (cs++cur.toList.drop cs.length).toArray T (0,0)))→Le (rd w Y) (rd w1 Y)→∀a1,Fr n a1 ((d,.int .i64 (cs.length:Int))::L) D→K a1 w1):o.wp P a w K Q:=by
 have hg:=hS.get i hM;have hr:=run_copy_row (P:=P) w dT sT o.type e g 0 dl dc ad sl sc cur T cs hu hs hg hn hsrc (by simpa using hfit) (fun u hu=>List.all_eq_true.1 h1 u hu)
 simp only[Nat.zero_add,List.take_zero,List.nil_append]at hr;have hexec:(execOp (evL L) o).run P w= .ok (.value (goInt cs.length)) (w.setRow g (cs++cur.toList.drop cs.length).toArray):=by
  unfold execOp;simp only[ho,resolve,invoke,builtin,Sem.run_bind,Sem.run_pure,Result.andThen_ok,List.map_toArray,List.map_cons,List.map_nil,hx,hy,hr]
 simp only[opk,Bool.and_eq_true]at hc;obtain⟨hd,hlt⟩:=qO hc.2;unfold Oper.wp;rw[hF.exec hc.1,hexec];show K (a.put o.dst _) _;rw[hd];exact k _ (hS.set (w':=w.setRow g _) i _ hM (by simp) rfl rfl rfl (setRow_heap w g cur _ T _ hg) (fun k _ hk=>setRow_other w g k _ hk)) (hS.le_set i hM (fun k _ hk=>setRow_other w g k _ hk)) _ (hF.put hlt _)
end
structure qG(m cap:Nat)(cur:Array Value)(l:List Nat):Prop where
 row:Row m cap 1 cur (U32 l)
 lt:∀x∈l,x<4294967296
theorem qG.len{m cap:Nat}{cur:Array Value}{l:List Nat}(h:qG m cap cur l):l.length=m:=by
 have:=h.row.len;simpa using this
theorem qG.get{m cap:Nat}{cur:Array Value}{l:List Nat}(h:qG m cap cur l){k:Nat}(hk:k<l.length):cur[k]?=some (.int .u32 ((l.getD k 0:Nat):Int)):=by
 have h1:=zKw hk;rw[←h.row.hxs,List.getElem?_take]at h1;split at h1
 ·simpa using h1
 ·cases h1
theorem qG.getD_lt{m cap:Nat}{cur:Array Value}{l:List Nat}(h:qG m cap cur l)(i:Nat):l.getD i 0<4294967296:=by
 by_cases hi:i<l.length
 ·have:l.getD i 0=l[i]:=by simp[hi]
  rw[this];exact h.lt _ (List.getElem_mem hi)
 ·have:l.getD i 0=0:=by simp[List.getElem?_eq_none (Nat.le_of_not_lt hi)]
  omega
theorem qG.set{m cap:Nat}{cur:Array Value}{l:List Nat}(h:qG m cap cur l){k y:Nat}(hk:k<l.length)(hy:y<4294967296):qG m cap (cur.setIfInBounds k (.int .u32 (y:Int))) (l.set k y):=by
 refine⟨⟨h.row.hn,h.row.hcap,by simpa using h.row.hsz,?_⟩,fun x hx=>?_⟩
 ·have hx:=h.row.hxs;rw[Array.toList_setIfInBounds,List.take_set,hx];apply List.ext_getElem?;intro j;simp only[U32,List.getElem?_set,List.getElem?_map,List.length_map];by_cases e:k=j
  ·subst e;simp[hk]
  ·simp[e]
 ·rcases List.mem_or_eq_of_mem_set hx with h1 | h1
  ·exact h.lt x h1
  ·exact h1▸hy
section
variable {P:Program}{Q:Exit→Act→World→Prop}{K:Act→World→Prop}{a:Act}{o:Oper}{n d:Nat}{L:List (Nat×Value)}{D:List Deferred}{E:Nat→Prop}{w0 w:World}{X Y:Hid}{M:List (Nat×Obj)}
theorem St.rowCells(h:St E w0 X w Y M)(i:Nat){g:Nat}{cur:Array Value}{T:TypeId}{m cap:Nat}{l:List Nat}{k:Nat}(hi:M[i]?=some (g,.cells cur T (0,0)))(hr:qG m cap cur l)(hk:k<l.length):jM w ⟨g,k,none⟩ [.int .u32 ((l.getD k 0:Nat):Int)]:=by
 intro j v hj;rcases j with _ | j
 ·simp at hj;subst hj;rw[yC,Nat.add_zero,cell_of_row w g k cur T _ (h.get i hi)];exact hr.get hk
 ·simp at hj
theorem mF{t:TypeId}{xa xv:Operand}{g k:Nat}{T:TypeId}{m cap:Nat}{cur:Array Value}{l:List Nat}{e:Int}{y:Nat}(i:Nat)(hF:Fr n a L D)(hc:(pO L o&&o.dst.isNone)=true)(hS:St E w0 X w Y M)
  (ho:o.op= .store t xa xv) (ha:evL L xa= .pointer (some ⟨g,k,none⟩)) (hv:evL L xv= .int .u32 e) (he:e=(y:Int)) (ht:ldT P t=some (false,1))
  (hM:M[i]?=some (g,.cells cur T (0,0))) (hrow:qG m cap cur l) (hk:k<l.length) (hy:y<4294967296)
  (kont:∀cur' w1,qG m cap cur' (l.set k y)→St E w0 X w1 Y (M.set i (g,.cells cur' T (0,0)))→Le (rd w Y) (rd w1 Y)→K a w1):o.wp P a w K Q:=by
 subst he;have hlt:k<cur.size:=by
  have h1:=hrow.len;have h2:=hrow.row.hn;have h3:=hrow.row.hsz;omega
 refine zE (m:=1) (v:= .int .u32 (y:Int)) i _ hF hc hS ho ha hv ht rfl rfl hM (by omega) rfl rfl (fun w1 h1 h2=>?_)
 exact kont _ w1 (hrow.set hk hy) h1 h2
theorem qG.limbs{m cap:Nat}{cur:Array Value}{l:List Nat}(h:qG m cap cur l){g:Nat}{T:TypeId}(hg:w.heap[g]?=some (.cells cur T (0,0)))(hy:∀o,¬Y g o):zT (rd w Y) (some ⟨g,0,none⟩) m cap l:=by
 refine⟨h.len.symm,h.row.hn,(by have:=h.row.hcap;simpa[maxLen]using this),h.lt,.inr ⟨g,0,rfl,fun j v hj=>?_⟩⟩
 have hk:j<l.length:=by have:=(List.getElem?_eq_some_iff.1 hj).1;simpa using this
 rw[yC,Nat.zero_add];refine rD ?_ (hy _) (frozen_of_row w g j cur T hg);rw[cell_of_row w g j cur T (0,0) hg,h.get hk];rw[zKw hk]at hj;exact hj
end
def X0:Hid:=fun _ _=>False
theorem qV(w:World):∀k o,X0 k o→k<w.heap.size:=fun _ _ h=>h.elim
theorem Le.x0{w:World}{Y:Hid}:Le (rd w Y) (rd w X0):=Le.unhide fun _ _ h=>h.elim
structure zIl(w w':World)(T:TypeId)(v:Value)(l:List Nat)(ad:Option Addr)(len cap:Nat):Prop where
 hv:v= .slice ad len cap
 hlen:len=l.length
 hlt:∀x∈l,x<4294967296
 own:(ad=none∧len=0∧cap=0)∨∃g cur,ad=some ⟨g,0,none⟩∧w.heap.size≤g∧w'.heap[g]?=some (.cells cur T (0,0))∧qG len cap cur l
theorem zIl.limbs{w w':World}{T:TypeId}{v:Value}{l:List Nat}{ad:Option Addr}{len cap:Nat}(h:zIl w w' T v l ad len cap){X:Hid}(hX:∀k o,X k o→k<w.heap.size):zT (rd w' X) ad len cap l:=by
 rcases h.own with⟨rfl,h2,h3⟩ | ⟨g,cur,rfl,hg,ho,hr⟩
 ·have:l=[]:=List.eq_nil_of_length_eq_zero (by rw[←h.hlen];exact h2)
  subst this;exact⟨h.hlen,by omega,by omega,h.hlt,.inl rfl⟩
 ·exact hr.limbs ho (fun o hx=>by have:=hX g o hx;omega)
theorem St.at0{E:Nat→Prop}{w0 w:World}{X Y:Hid}{M:List (Nat×Obj)}(h:St E w0 X w Y M)(i:Nat){b:Nat}{c:Array Value}{T:TypeId}(hi:M[i]?=some (b,.cells c T (0,0))){vs:List Value}(hv:c.toList=vs):At (rd w X0) ⟨b,0,none⟩ vs:=by
 subst hv;intro j v hj;rw[yC];refine rD ?_ (fun h=>h.elim) (frozen_of_row w b _ c T (h.get i hi));rw[cell_of_row w b _ c T (0,0) (h.get i hi)];simpa using hj
def I64(l:List Int):List Value:=l.map fun x=>Value.int .i64 x
@[simp] theorem qPq (l:List Int):(I64 l).length=l.length:=by simp[I64]
theorem qHu{l:List Int}{i:Nat}(h:i<l.length):(I64 l)[i]?=some (.int .i64 (l.getD i 0)):=by simp[I64,h]
def orL:List Int→Int
 | []=>0
 | x::l=>if x=0 then orL l else x
theorem zHh:∀(l:List Int),(∀j,j<l.length→l.getD j 0=0)→orL l=0
 | [],_=>rfl
 | x::l,h=>by
  have h0:=h 0 (by simp)
  simp at h0;rw[orL,if_pos h0];exact zHh l fun j hj=>by have:=h (j+1) (by simpa using hj);simpa using this
theorem zTd:∀(l:List Int)(k:Nat),k<l.length→(∀j,j<k→l.getD j 0=0)→l.getD k 0≠0→orL l=l.getD k 0
 | [],k,h,_,_=>by simp at h
 | x::l,0,_,_,h=>by simp at h ⊢;rw[orL,if_neg h]
 | x::l,k+1,hk,h,hne=>by
  have h0:=h 0 (by omega)
  simp at h0;rw[orL,if_pos h0];have:=zTd l k (by simpa using hk) (fun j hj=>by have:=h (j+1) (by omega);simpa using this) (by simpa using hne)
  simpa using this
theorem jCt(a:Nat)(h:a<4294967296):a / 2147483648=if a.testBit 31 then 1 else 0:=by
 rw[Nat.testBit_eq_decide_div_mod_eq];by_cases hc:a / 2^31 % 2=1
 ·simp[hc];omega
 ·simp[hc];omega
theorem qBa(a:Nat)(h:a<4294967296):a.testBit 31=decide (2147483648≤a):=by
 rw[Nat.testBit_eq_decide_div_mod_eq];congr 1;apply propext;omega
theorem zZi(x y c d:Nat)(hx:x<4294967296)(hy:y<4294967296)(hc:c≤1)(hd:d<4294967296)(e:(d:Int)=(((x:Int)-y) % 4294967296-c) % 4294967296):
  nJ (wK (vQ 4294967295 (x:Int)) (y:Int)) (wK (vQ 4294967295 (vQ (x:Int) (y:Int))) (d:Int)) / 2147483648=if(x:Int)<y+c then 1 else 0:=by
 have h1:=bM 4294967295 x (by omega) hx
 have h2:=bM x y hx hy;have hxy:x^^^y<2^32:=Nat.xor_lt_two_pow (by omega) (by omega)
 have hnx:4294967295^^^x<2^32:=Nat.xor_lt_two_pow (by omega) (by omega)
 have h3:=bM 4294967295 (x^^^y) (by omega) (by omega)
 have hnxy:4294967295^^^(x^^^y)<2^32:=Nat.xor_lt_two_pow (by omega) (by omega)
 have h4:=bL (4294967295^^^x) y (by omega) hy
 have h5:=bL (4294967295^^^(x^^^y)) d (by omega) hd
 have ha:(4294967295^^^x)&&& y<4294967296:=Nat.lt_of_le_of_lt Nat.and_le_left (by omega)
 have hb:(4294967295^^^(x^^^y))&&& d<4294967296:=Nat.lt_of_le_of_lt Nat.and_le_left (by omega)
 have h6:=fV ((4294967295^^^x)&&& y) ((4294967295^^^(x^^^y))&&& d) ha hb;have hab:((4294967295^^^x)&&& y)||| ((4294967295^^^(x^^^y))&&& d)<2^32:=Nat.or_lt_two_pow (by omega) (by omega)
 rw[show(4294967295:Int)=((4294967295:Nat):Int)from rfl,h1,h2,h3,h4,h5,h6];have ht:=jCt _ (by omega:((4294967295^^^x)&&& y)||| ((4294967295^^^(x^^^y))&&& d)<4294967296)
 rw[show((((4294967295^^^x)&&& y)||| ((4294967295^^^(x^^^y))&&& d):Nat):Int) / 2147483648=(((((4294967295^^^x)&&& y)||| ((4294967295^^^(x^^^y))&&& d)) / 2147483648:Nat):Int)from rfl,ht]
 simp only[Nat.testBit_or,Nat.testBit_and,Nat.testBit_xor,qBa x hx,qBa y hy,qBa d hd,show(4294967295:Nat).testBit 31=true from by decide]
 by_cases a1:2147483648≤x<;>by_cases a2:2147483648≤y<;>by_cases a3:2147483648≤d<;>simp only[a1,a2,a3,decide_true,decide_false,Bool.true_bne,Bool.false_bne,Bool.not_true,Bool.not_false,Bool.and_true,Bool.and_false,Bool.true_and,Bool.false_and,Bool.or_true,Bool.or_false,Bool.true_or,Bool.false_or,if_true,if_false,Bool.false_eq_true]<;>split<;>omega
end Go.Gv
namespace Go.Gv
theorem sD:∀{l:List Nat},(∀x∈l,x<4294967296)→val l<4294967296^l.length
 | [],_=>by simp[val]
 | x::l,h=>by
  have ih:=sD (l:=l) fun y hy=>h y (List.mem_cons_of_mem _ hy);have hx:=h x List.mem_cons_self;simp only[val,List.length_cons,Nat.pow_succ];have:val l+1≤4294967296^l.length:=ih;have h2:(val l+1)*4294967296≤4294967296^l.length*4294967296:=Nat.mul_le_mul_right _ this;omega
theorem zId:∀(l:List Nat)(x:Nat),val (l++[x])=val l+x*4294967296^l.length
 | [],x=>by simp[val]
 | y::l,x=>by
  simp only[List.cons_append,val,zId l x,List.length_cons,Nat.pow_succ,Nat.mul_add];rw[show 4294967296*(x*4294967296^l.length)=x*(4294967296^l.length*4294967296)by ac_rfl]
  omega
theorem kH(l:List Nat)(k:Nat)(h:k<l.length):val (l.take (k+1))=val (l.take k)+l.getD k 0*4294967296^k:=by
 rw[List.take_succ_eq_append_getElem h,zId];simp[h,Nat.min_eq_left (Nat.le_of_lt h)]
theorem rZ:∀(l:List Nat)(k y:Nat),k<l.length→val (l.set k y)+l.getD k 0*4294967296^k=val l+y*4294967296^k
 | [],k,y,h=>by simp at h
 | x::l,0,y,_=>by simp[val];omega
 | x::l,k+1,y,h=>by
  have ih:=rZ l k y (by simpa using h)
  simp only[List.set_cons_succ,val,List.getD_cons_succ,Nat.pow_succ];have e1:l.getD k 0*(4294967296^k*4294967296)=4294967296*(l.getD k 0*4294967296^k):=by ac_rfl
  have e2:y*(4294967296^k*4294967296)=4294967296*(y*4294967296^k):=by ac_rfl
  rw[e1,e2];omega
theorem wW(m:Nat):val (List.replicate m 0)=0:=by
 induction m with
 | zero=>rfl
 | succ m ih=>simp[List.replicate_succ,val,ih]
theorem xF{l:List Nat}{k j y:Nat}(h:k≠j):(l.set k y).getD j 0=l.getD j 0:=by simp[List.getElem?_set_ne h]
theorem zEm(l:List Nat):∀k,val (l.take k)≤val l
 | 0=>by simp[val]
 | k+1=>by
  rcases l with _ | ⟨x,l⟩
  ·simp[val]
  ·simp only[List.take_succ_cons,val];have:=zEm l k;omega
theorem zIe(l:List Nat):∀k,k≤l.length→val (l.take (kP l k))=val (l.take k)
 | 0,_=>rfl
 | k+1,h=>by
  by_cases h0:l.getD k 0=0
  ·rw[fK h0,zIe l k (by omega),kH l k (by omega),h0];omega
  ·rw[fJ h0]
theorem zIa(l:List Nat):∀k,0<kP l k→l.getD (kP l k-1) 0≠0
 | 0,h=>by simp[kP]at h
 | k+1,h=>by
  by_cases h0:l.getD k 0=0
  ·rw[fK h0]at h ⊢;exact zIa l k h
  ·rw[fJ h0];simpa using h0
theorem xJ(l:List Nat):val (trimmed l)=val l:=by
 unfold trimmed jP;rw[zIe l l.length (Nat.le_refl _),List.take_length]
theorem yS(l:List Nat):jC (trimmed l):=by
 unfold jC;rw[jQ];by_cases h:jP l=0
 ·exact .inl h
 ·refine .inr ?_;have h1:=zIa l l.length (by unfold jP at h;omega)
  have h2:=mJ l l.length;unfold trimmed;unfold jP at *;rw[List.getD_eq_getElem?_getD,List.getElem?_take,if_pos (by omega),←List.getD_eq_getElem?_getD]
  exact h1
theorem wR{l:List Nat}(h:∀x∈l,x<4294967296):∀x∈trimmed l,x<4294967296:=fun x hx=>h x (List.mem_of_mem_take hx)
theorem nK{l:List Nat}(hc:jC l)(h:l≠[]):4294967296^(l.length-1)≤val l:=by
 have hlen:0<l.length:=List.length_pos_iff.2 h;rcases hc with h0 | h0
 ·omega
 ·have:=kH l (l.length-1) (by omega)
  rw[show l.length-1+1=l.length by omega,List.take_length]at this
  have hp:1≤l.getD (l.length-1) 0:=Nat.one_le_iff_ne_zero.2 h0;have:=Nat.mul_le_mul_right (4294967296^(l.length-1)) hp;omega
theorem zWy:∀{l m:List Nat},(∀x∈l,x<4294967296)→(∀x∈m,x<4294967296)→l.length=m.length→val l=val m→l=m
 | [],[],_,_,_,_=>rfl
 | [],_::_,_,_,h,_=>by simp at h
 | _::_,[],_,_,h,_=>by simp at h
 | x::l,y::m,hl,hm,hlen,hv=>by
  simp only[val]at hv;have hx:=hl x List.mem_cons_self;have hy:=hm y List.mem_cons_self;have h1:x=y:=by omega
  have h2:val l=val m:=by omega
  rw[h1,zWy (fun z hz=>hl z (List.mem_cons_of_mem _ hz)) (fun z hz=>hm z (List.mem_cons_of_mem _ hz)) (by simpa using hlen) h2]
theorem jE{l m:List Nat}(hl:∀x∈l,x<4294967296)(hm:jC m)(h:val m≤val l):m.length≤l.length:=by
 by_cases h0:m=[]
 ·simp[h0]
 ·have h1:=nK hm h0;have h2:=sD hl;have h3:4294967296^(m.length-1)<4294967296^l.length:=by omega
  have:=(Nat.pow_lt_pow_iff_right (by omega)).1 h3
  omega
theorem zXo{l m:List Nat}(hl:∀x∈l,x<4294967296)(hm:∀x∈m,x<4294967296)(cl:jC l)(cm:jC m)(h:val l=val m):l=m:=by
 refine zWy hl hm ?_ h;have h1:=jE hl cm (by omega)
 have h2:=jE hm cl (by omega)
 omega
theorem bQ{l:List Nat}(cl:jC l)(h:val l=0):l=[]:=by
 rcases Classical.em (l=[])with h0 | h0
 ·exact h0
 ·have:=nK cl h0;have:0<4294967296^(l.length-1):=Nat.pos_of_ne_zero (by simp)
  omega
theorem zZ{l:List Nat}(hl:∀x∈l,x<4294967296)(cl:jC l)(k:Nat):l.length≤k↔val l<4294967296^k:=by
 constructor
 ·intro h;exact Nat.lt_of_lt_of_le (sD hl) (Nat.pow_le_pow_right (by omega) h)
 ·intro h;rcases Nat.lt_or_ge k l.length with h1 | h1
  ·have h0:l≠[]:=fun e=>by simp[e]at h1
   have h2:=nK cl h0;have h3:4294967296^k≤4294967296^(l.length-1):=Nat.pow_le_pow_right (by omega) (by omega)
   omega
  ·exact h1
theorem zKh{i len:Nat}{v:Nat}(h:4294967296^i≤v)(h2:v<4294967296^len):i<len:=(Nat.pow_lt_pow_iff_right (by omega:1<4294967296)).1 (by omega)
theorem zCh(l:List Nat)(k x c:Nat)(h:k<l.length):val (l.set k ((l.getD k 0+x+c) % 4294967296))+(l.getD k 0+x+c) / 4294967296*4294967296^(k+1)=val l+x*4294967296^k+c*4294967296^k:=by
 have h1:=rZ l k ((l.getD k 0+x+c) % 4294967296) h;generalize hs:l.getD k 0+x+c=s at *;have h2:s % 4294967296+4294967296*(s / 4294967296)=s:=Nat.mod_add_div s 4294967296;have h3:(s % 4294967296)*4294967296^k+s / 4294967296*4294967296^(k+1)=s*4294967296^k:=by
  rw[Nat.pow_succ,show s / 4294967296*(4294967296^k*4294967296)=4294967296*(s / 4294967296)*4294967296^k by ac_rfl,←Nat.add_mul,h2]
 have h4:s*4294967296^k=l.getD k 0*4294967296^k+x*4294967296^k+c*4294967296^k:=by rw[←hs,Nat.add_mul,Nat.add_mul]
 omega
end Go.Gv
namespace Go.Gv
open Go.RowKit IntKind
section
variable {P:Program}{ops:Array Oper}{Q:Exit→Act→World→Prop}{S:World→Prop}{T:List Nat}
def jG(T:List Nat)(listed:Array Bool):Bool:=T.any fun t=>listed.getD t false
def wpT(P:Program)(ops:Array Oper)(Q:Exit→Act→World→Prop)(S:World→Prop)(T:List Nat):Nat→Array Bool→Act→World→Prop
 | 0,listed,a,w=>Region.ready .any ops listed=[]∧Q .normal a w
 | fuel+1,listed,a,w=>
  (Region.ready .any ops listed=[]→Q .normal a w)∧
  ∀i∈Region.ready .any ops listed,wpOp P ops Q i (fun a' w'=>(jG T (listed.setIfInBounds i true)=false→S w')∧wpT P ops Q S T fuel (listed.setIfInBounds i true) a' w') a w
theorem zIh:∀(fuel:Nat)(listed:Array Bool)(a:Act)(w:World),wpT P ops Q S T fuel listed a w→wpAny P .any ops Q fuel listed a w
 | 0,_,_,_,h=>h
 | fuel+1,_,_,_,h=>⟨h.1,fun i hi=>wpOp_mono (fun a' w' h'=>zIh fuel _ a' w' h'.2) (h.2 i hi)⟩
theorem nG{listed:Array Bool}{p:Prop}(h:jG T listed=true):jG T listed=false→p:=fun h'=>by rw[h]at h';cases h'
theorem vE{listed:Array Bool}{j:Nat}(hj:j∉T):jG T (listed.setIfInBounds j true)=jG T listed:=by
 unfold jG;rw[Bool.eq_iff_iff,List.any_eq_true,List.any_eq_true];constructor
 ·rintro⟨t,ht,h⟩;have hne:j≠t:=fun e=>hj (by rw[e];exact ht)
  exact⟨t,ht,by rwa[getD_set_ne false hne]at h⟩
 ·rintro⟨t,ht,h⟩;have hne:j≠t:=fun e=>hj (by rw[e];exact ht)
  exact⟨t,ht,by rwa[getD_set_ne false hne]⟩
theorem zYj{listed:Array Bool}{i j:Nat}{oj:Oper}(hj:ops[j]?=some oj)(hr:j∈Region.ready .any ops listed)(hi:i∈Region.ready .any ops listed):∀e∈oj.after,Region.binds .any e=true→e.on≠i:=by
 intro e he hb heq;obtain⟨_,oj',hoj,hall⟩:=mem_ready.1 hr;have:oj'=oj:=Option.some.inj (hoj.symm.trans hj);subst this;have h1:=hall e he hb;have h0:=(mem_ready.1 hi).1;rw[heq]at h1;rcases Nat.lt_or_ge i listed.size with h' | h'
 ·simp[h']at h0 h1;rw[h0]at h1;cases h1
 ·simp[Array.getElem?_eq_none h']at h1
theorem mM{i:Nat}{oi:Oper}{v:Value}(hi:ops[i]?=some oi)(hsel:∀(j:Nat)(o:Oper)cs b,ops[j]?=some o→o.op≠.select cs b)
  (hQ:∀c a w,Q (.panic c) (a.put oi.dst v) w→Q (.panic c) a w) (Sx:World→Prop)
  (hT:(∀w,Sx w)∨((∀w,S w→Sx w)∧∀t∈T,∀ot,ops[t]?=some ot→∃e∈ot.after,Region.binds .any e=true∧e.on=i)) (hiT:i∉T):
  ∀(fuel:Nat)(listed:Array Bool)(a:Act)(w:World),
   (∀j oj,ops[j]?=some oj→j≠i→listed.getD j true=false→(∀e∈oj.after,Region.binds .any e=true→e.on≠i)→oi.apart ops oj=true)→
   i∈Region.ready .any ops listed→YieldsIf P ops Sx oi v a→((∀w,Sx w)∨jG T listed=false)→(jG T listed=false→S w)→Sx w→
   wpT P ops Q S T fuel (listed.setIfInBounds i true) (a.put oi.dst v) w→wpT P ops Q S T (fuel+1) listed a w:=by
 intro fuel;induction fuel with
 | zero=>
  intro listed a w _ hr hy _ hS hSx H;refine⟨fun h=>(by rw[h]at hr;cases hr),fun j hj=>?_⟩
  by_cases hji:j=i
  ·subst hji;exact hy.wpOp hi hSx ⟨fun hb=>hS (by rwa[vE hiT]at hb),H⟩
  ·have:=ready_mono hj hji;rw[H.1]at this;cases this
 | succ fuel ih=>
  intro listed a w hfree hr hy hbt hS hSx H;refine⟨fun h=>(by rw[h]at hr;cases hr),fun j hj=>?_⟩
  by_cases hji:j=i
  ·subst hji;exact hy.wpOp hi hSx ⟨fun hb=>hS (by rwa[vE hiT]at hb),H⟩
  ·have h1:=H.2 j (ready_mono hj hji);obtain⟨hjun,oj,hoj,hall⟩:=mem_ready.1 hj;have hnot:=zYj hoj hj hr;have hjT:(∀w,Sx w)∨j∉T:=hT.imp id fun h hjt=>by
    obtain⟨e,he,hb,hon⟩:=h.2 j hjt oj hoj;exact hnot e he hb hon
   have h2:=wpOp_putIf hoj (hfree j oj hoj hji hjun hnot) (fun cs b=>hsel i oi cs b hi) (fun cs b=>hsel j oj cs b hoj) hQ hy h1;have hfree':∀k ok,ops[k]?=some ok→k≠i→(listed.setIfInBounds j true).getD k true=false→
     (∀e∈ok.after,Region.binds .any e=true→e.on≠i)→oi.apart ops ok=true:=fun k ok hk hki hun hno=>by
    refine hfree k ok hk hki ?_ hno;by_cases hjk:j=k
    ·subst hjk;exact hjun
    ·rw[getD_set_ne true hjk]at hun;exact hun
   refine wpOp_mono (fun a' w' h3=>?_) h2;have hb':(∀w,Sx w)∨jG T (listed.setIfInBounds j true)=false:=by
    rcases hjT with h | h
    ·exact .inl h
    ·rcases hbt with h' | h'
     ·exact .inl h'
     ·exact .inr (by rw[vE h];exact h')
   have hcomm:jG T ((listed.setIfInBounds i true).setIfInBounds j true)=jG T (listed.setIfInBounds j true):=by
    rw[Array.setIfInBounds_comm _ _ (fun e=>hji e.symm)];exact vE hiT
   have hS':jG T (listed.setIfInBounds j true)=false→S w':=fun hb=>h3.2.1 (by rw[hcomm];exact hb)
   have hSx':Sx w':=by
    rcases hb' with h | h
    ·exact h w'
    ·rcases hT with h'' | h''
     ·exact h'' w'
     ·exact h''.1 w' (hS' h)
   refine⟨hS',ih (listed.setIfInBounds j true) a' w' hfree' (ready_mono hr (Ne.symm hji)) h3.1 hb' hS' hSx' ?_⟩;rw[Array.setIfInBounds_comm _ _ hji];exact h3.2.2
def zIf(ops:Array Oper)(T:List Nat)(i:Nat):Bool:=T.all fun t=>match ops[t]? with
 | some ot=>ot.after.any fun e=>Region.binds .any e&&e.on==i
 | none=>true
theorem zIg{i:Nat}(h:zIf ops T i=true):∀t∈T,∀ot,ops[t]?=some ot→∃e∈ot.after,Region.binds .any e=true∧e.on=i:=by
 intro t ht ot hot;have:=List.all_eq_true.1 h t ht;simp only[hot]at this;obtain⟨e,he,hb⟩:=Array.any_eq_true'.1 this;simp only[Bool.and_eq_true,beq_iff_eq]at hb;exact⟨e,he,hb.1,hb.2⟩
def aR(ops:Array Oper)(T:List Nat)(listed:Array Bool)(i:Nat):Bool:=Region.noSelect ops&&(Region.free .any ops listed i&&((Region.ready .any ops listed).contains i&&!T.contains i))
variable {K:Act→World→Prop}{a:Act}{o:Oper}{n d:Nat}{L:List (Nat×Value)}{D:List Deferred}{E:Nat→Prop}{w0 w:World}{X Y:Hid}{M:List (Nat×Obj)}
theorem sO{listed:Array Bool}{i:Nat}(h:aR ops T listed i=true):Region.noSelect ops=true∧Region.free .any ops listed i=true∧i∈Region.ready .any ops listed∧i∉T:=by
 simp only[aR,Bool.and_eq_true]at h;refine⟨h.1,h.2.1,by simpa using h.2.2.1,?_⟩
 have:=h.2.2.2;intro hm;simp[hm]at this
theorem zJ{fuel:Nat}{listed:Array Bool}{v:Value}(i:Nat)(hF:Fr n a L D)(hi:ops[i]?=some o)(hc:aR ops T listed i=true)(hk:chk ops L o d n=true)
  (hrun:∀w,(execOp (evL L) o).run P w= .ok (.value v) w) (hS:jG T listed=false→S w)
  (k:∀a1,Fr n a1 ((d,v)::L) D→wpT P ops Q S T fuel (listed.setIfInBounds i true) a1 w) (hQ:∀c a w,Q (.panic c) (a.put o.dst v) w→Q (.panic c) a w:=by exact fun _ _ _ h=>h):wpT P ops Q S T (fuel+1) listed a w:=by
 obtain⟨h1,h2,h3,h4⟩:=sO hc;simp only[chk,Bool.and_eq_true]at hk;obtain⟨hd,hlt⟩:=qO hk.2.2;refine mM hi (Region.noSelect_spec h1) hQ (fun _=>True) (.inl fun _=>trivial) h4 fuel listed a w (Region.free_spec hi h2) h3 (.inl ⟨hF.wanted hk.1,fun w _=>by rw[hF.exec hk.2.1];exact hrun w⟩) (.inl fun _=>trivial) hS trivial ?_
 rw[hd];exact k _ (hF.put hlt v)
theorem pX{fuel:Nat}{listed:Array Bool}{v:Value}(i:Nat)(hF:Fr n a L D)(hi:ops[i]?=some o)(hc:aR ops T listed i=true)(hw:(zIf ops T i&&!jG T listed)=true)(hk:chk ops L o d n=true)
  (hrun:∀w,S w→(execOp (evL L) o).run P w= .ok (.value v) w) (hS:S w)
  (k:∀a1,Fr n a1 ((d,v)::L) D→wpT P ops Q S T fuel (listed.setIfInBounds i true) a1 w) (hQ:∀c a w,Q (.panic c) (a.put o.dst v) w→Q (.panic c) a w:=by exact fun _ _ _ h=>h):wpT P ops Q S T (fuel+1) listed a w:=by
 obtain⟨h1,h2,h3,h4⟩:=sO hc;simp only[chk,Bool.and_eq_true,Bool.not_eq_true']at hk hw;obtain⟨hd,hlt⟩:=qO hk.2.2;refine mM hi (Region.noSelect_spec h1) hQ S (.inr ⟨fun _ h=>h,zIg hw.1⟩) h4 fuel listed a w (Region.free_spec hi h2) h3 (.inl ⟨hF.wanted hk.1,fun w hs=>by rw[hF.exec hk.2.1];exact hrun w hs⟩) (.inr hw.2) (fun _=>hS) hS ?_
 rw[hd];exact k _ (hF.put hlt v)
theorem mK{fuel:Nat}{listed:Array Bool}(h:S w)(k:S w→wpT P ops Q S T fuel listed a w):wpT P ops Q S T fuel listed a w:=k h
theorem wL{A B C:Prop}(h:A)(k:A→B):(C→A)∧B:=⟨fun _=>h,k h⟩
def yL(P:Program)(ops:Array Oper)(Q:Exit→Act→World→Prop)(S:World→Prop)(T:List Nat)(fuel:Nat)(listed:Array Bool)(a:Act)(w:World)(rs:List Nat):Prop:=
 ∀i∈rs,wpOp P ops Q i (fun a' w'=>(jG T (listed.setIfInBounds i true)=false→S w')∧wpT P ops Q S T fuel (listed.setIfInBounds i true) a' w') a w
theorem wQ{fuel:Nat}{listed:Array Bool}(rs:List Nat)(hr:Region.ready .any ops listed=rs)(hne:rs.isEmpty=false)(h:yL P ops Q S T fuel listed a w rs):wpT P ops Q S T (fuel+1) listed a w:=
 ⟨fun h0=>(by rw[hr]at h0;subst h0;cases hne),hr▸h⟩
theorem yL.nil{fuel:Nat}{listed:Array Bool}:yL P ops Q S T fuel listed a w []:=fun i hi=>by cases hi
theorem yL.cons{fuel:Nat}{listed:Array Bool}{i:Nat}{rs:List Nat}(hF:Fr n a L D)(hi:ops[i]?=some o)(hw:yX ops L o true=true)
  (h:o.wp P a w (fun a' w'=>(jG T (listed.setIfInBounds i true)=false→S w')∧wpT P ops Q S T fuel (listed.setIfInBounds i true) a' w') Q) (k:yL P ops Q S T fuel listed a w rs):yL P ops Q S T fuel listed a w (i::rs):=fun j hj=>by
 rcases List.mem_cons.1 hj with rfl | hj
 ·unfold wpOp;simp only[hi,hF.wanted hw,if_true];exact .inl h
 ·exact k j hj
theorem zDv{fuel:Nat}{listed:Array Bool}(hr:Region.ready .any ops listed=[])(h:Q .normal a w):wpT P ops Q S T fuel listed a w:=by
 cases fuel with
 | zero=>exact⟨hr,h⟩
 | succ f=>exact⟨fun _=>h,by rw[hr];simp⟩
def vK(Q:Exit→Act→World→Prop):Exit→Act→World→Prop
 | .normal,a,w=>Q .normal a w
 | _,_,_=>False
theorem nrm(h:Q .normal a w):vK Q .normal a w:=h
theorem qJu{r:Option Nat}{m:Nat}{id N:Nat}(S:World→Prop)(T:List Nat)(hm:P.follows .mixedOrders=true)(hN:ops.size=N)(hd:ops.all (fun o=>xQ o.op)=true)(hq:¬LetsOut Q)(hS:St E w0 X w Y M)
  (k:∀w1,St E w0 X w1 Y M→Le (rd w Y) (rd w1 Y)→Upd E0 w w1→wpT P ops Q S T N (Array.replicate N false) a w1):(Code.region id ops true).wpIn (FF r) m P Q a w:=by
 subst hN;refine wpIn_region_draw fun t=>zWb (fun i o ho=>Array.all_eq_true_iff_forall_mem.1 hd o (Array.mem_of_getElem? ho)) hq _ _ _ ?_;simp only[Region.schedule,hm,Bool.true_or,if_true];exact wpAny_sound ops.size t _ a _ (zIh _ _ _ _ (k w.drew (hS.call (Upd.drew w)) ((Upd.drew w).le Y) (Upd.drew w)))
theorem dG{r:Option Nat}{m:Nat}{id N:Nat}(S:World→Prop)(T:List Nat)(hm:P.follows .mixedOrders=true)(hN:ops.size=N)(hd:ops.all (fun o=>xQ o.op)=true)(hS:St E w0 X w Y M)
  (k:∀w1,St E w0 X w1 Y M→Le (rd w Y) (rd w1 Y)→Upd E0 w w1→wpT P ops (vK Q) S T N (Array.replicate N false) a w1):(Code.region id ops true).wpIn (FF r) m P Q a w:=
 wpIn_mono (qJu S T hm hN hd (fun⟨_,_,h⟩=>h) hS k) fun e a w h=>by cases e<;>first | exact h | exact h.elim
end
theorem St.ne{E:Nat→Prop}{w0 w:World}{X Y:Hid}{M:List (Nat×Obj)}(h:St E w0 X w Y M){i j b b':Nat}{o o':Obj}(hi:M[i]?=some (b,o))(hj:M[j]?=some (b',o'))(hij:i≠j):b≠b':=by
 intro e;refine hij (zDp h.nd (i:=i) (j:=j) (x:=b) ?_ ?_)
 ·rw[List.getElem?_map,hi];rfl
 ·rw[List.getElem?_map,hj];simp[e]
theorem St.start2{w:World}{X:Hid}{b1 b2:Nat}{o1 o2:Obj}(hX:∀k o,X k o→k<w.heap.size)(h1:w.heap[b1]?=some o1)(h2:w.heap[b2]?=some o2)(x1:∀o,X b1 o)(x2:∀o,X b2 o)(hne:b1≠b2):
  St (fun k=>k=b1∨k=b2) w X w X [(b1,o1),(b2,o2)]:=
 ⟨Upd.refl _ _,hX,fun _ _ h=>h,fun p hp=>by
  simp only[List.mem_cons,List.not_mem_nil,or_false]at hp;rcases hp with rfl | rfl
  ·exact⟨h1,.inr (.inl rfl),x1⟩
  ·exact⟨h2,.inr (.inr rfl),x2⟩,by simp[hne],hX⟩
theorem St.atX{E:Nat→Prop}{w0 w:World}{X Y:Hid}{M:List (Nat×Obj)}(h:St E w0 X w Y M)(i:Nat){b:Nat}{c:Array Value}{T:TypeId}(hi:M[i]?=some (b,.cells c T (0,0))){X':Hid}(hx:∀o,¬X' b o):At (rd w X') ⟨b,0,none⟩ c.toList:=by
 intro j v hj;rw[yC];refine rD ?_ (hx _) (frozen_of_row w b _ c T (h.get i hi));rw[cell_of_row w b _ c T (0,0) (h.get i hi)];simpa using hj
end Go.Gv
namespace Go.Gv
theorem qG.of(l:List Nat)(h:∀x∈l,x<4294967296)(hb:l.length≤maxLen){c:Array Value}(hc:c.toList=U32 l){n:Nat}(hn:n=l.length):qG n n c l:=by
 subst hn;refine⟨⟨Nat.le_refl _,hb,?_,?_⟩,h⟩
 ·rw[←Array.length_toList,hc];simp
 ·rw[hc,Nat.mul_one];exact List.take_of_length_le (by simp)
theorem qAk(l:List Nat)(k:Nat):U32 (l.take k)=(U32 l).take k:=by simp[U32]
theorem qG.trimmed{m cap:Nat}{cur:Array Value}{l:List Nat}(h:qG m cap cur l):qG (jP l) cap cur (trimmed l):=by
 have h1:=mJ l l.length;have h2:=h.len;have h3:jP l≤m:=by unfold jP;omega
 refine⟨⟨Nat.le_trans h3 h.row.hn,h.row.hcap,h.row.hsz,?_⟩,wR h.lt⟩;rw[Go.Gv.trimmed,qAk,←h.row.hxs,List.take_take];congr 1;omega
def zCb(a x c:Nat):Nat:=(a+8589934592-x-c) % 4294967296
def brw(a x c:Nat):Nat:=if a<x+c then 1 else 0
theorem zWt(a x c:Nat):zCb a x c<4294967296:=Nat.mod_lt _ (by omega)
theorem qBc(a x c:Nat):brw a x c≤1:=by unfold brw;split<;>omega
theorem qHc(a x c:Nat)(ha:a<4294967296)(hx:x<4294967296)(hc:c≤1):zCb a x c+x+c=a+brw a x c*4294967296:=by unfold zCb brw;split<;>omega
theorem zCi(l:List Nat)(k x c:Nat)(h:k<l.length)(ha:l.getD k 0<4294967296)(hx:x<4294967296)(hc:c≤1):
  val (l.set k (zCb (l.getD k 0) x c))+x*4294967296^k+c*4294967296^k=val l+brw (l.getD k 0) x c*4294967296^(k+1):=by
 have h1:=rZ l k (zCb (l.getD k 0) x c) h;have h2:=qHc (l.getD k 0) x c ha hx hc;have h3:(zCb (l.getD k 0) x c+x+c)*4294967296^k=(l.getD k 0+brw (l.getD k 0) x c*4294967296)*4294967296^k:=by rw[h2]
 rw[Nat.add_mul,Nat.add_mul,Nat.add_mul,Nat.mul_assoc (brw _ _ _),show 4294967296*4294967296^k=4294967296^(k+1)by rw[Nat.pow_succ,Nat.mul_comm]]at h3
 omega
theorem qMq(l1 l2:List Nat)(j c V:Nat)(hj:j<l2.length)(hk:j<l1.length)(ha:l1.getD j 0<4294967296)(hx:l2.getD j 0<4294967296)(hc:c≤1)(h:val l1+val (l2.take j)=V+c*4294967296^j):
  val (l1.set j (zCb (l1.getD j 0) (l2.getD j 0) c))+val (l2.take (j+1))=V+brw (l1.getD j 0) (l2.getD j 0) c*4294967296^(j+1):=by
 have h1:=zCi l1 j (l2.getD j 0) c hk ha hx hc;rw[kH l2 j hj];omega
theorem qHd(l1:List Nat)(j c V W:Nat)(hk:j<l1.length)(ha:l1.getD j 0<4294967296)(hc:c≤1)(h:val l1+W=V+c*4294967296^j):
  val (l1.set j (zCb (l1.getD j 0) 0 c))+W=V+brw (l1.getD j 0) 0 c*4294967296^(j+1):=by
 have h1:=zCi l1 j 0 c hk ha (by omega) hc
 omega
theorem dX(l:List Nat):∀k,val l=val (l.take k)+4294967296^k*val (l.drop k):=by
 induction l with
 | nil=>intro k;simp[val]
 | cons x l ih=>
  intro k;rcases k with _ | k
  ·simp[val]
  ·simp only[List.take_succ_cons,List.drop_succ_cons,val];rw[ih k,Nat.pow_succ,Nat.mul_add];have:4294967296*(4294967296^k*val (l.drop k))=4294967296^k*4294967296*val (l.drop k):=by ac_rfl
   omega
theorem rR{l m:List Nat}(hlen:l.length=m.length)(k:Nat)(h:∀j,k≤j→j<l.length→l.getD j 0=m.getD j 0):l.drop k=m.drop k:=by
 apply List.ext_getElem?;intro i;rw[List.getElem?_drop,List.getElem?_drop];by_cases hi:k+i<l.length
 ·have:=h (k+i) (by omega) hi
  have hm:k+i<m.length:=by omega
  simp only[List.getD_eq_getElem?_getD,List.getElem?_eq_getElem hi,List.getElem?_eq_getElem hm,Option.getD_some]at this ⊢;rw[this]
 ·rw[List.getElem?_eq_none (by omega),List.getElem?_eq_none (by omega)]
theorem zCe{l:List Nat}(h:∀x∈l,x<4294967296)(k:Nat)(hk:k≤l.length):val (l.take k)<4294967296^k:=by
 have:=sD (l:=l.take k) (fun x hx=>h x (List.mem_of_mem_take hx));rwa[List.length_take,Nat.min_eq_left hk]at this
theorem zWx{l m:List Nat}(hl:∀x∈l,x<4294967296)(hlen:l.length=m.length)(k:Nat)(hk:k<l.length)(h:∀j,k+1≤j→j<l.length→l.getD j 0=m.getD j 0)(hlt:l.getD k 0<m.getD k 0):val l<val m:=by
 rw[dX l (k+1),dX m (k+1),rR hlen (k+1) h,kH l k hk,kH m k (by omega)]
 have h1:=zCe hl k (by omega)
 have h2:(l.getD k 0+1)*4294967296^k≤m.getD k 0*4294967296^k:=Nat.mul_le_mul_right _ hlt;rw[Nat.add_mul]at h2;omega
theorem jAv{l m:List Nat}(hlen:l.length=m.length)(h:∀j,0≤j→j<l.length→l.getD j 0=m.getD j 0):val l=val m:=by
 have:=rR hlen 0 h;rw[List.drop_zero,List.drop_zero]at this;rw[this]
theorem zEl{l m:List Nat}(hl:∀x∈l,x<4294967296)(cm:jC m)(h:l.length<m.length):val l<val m:=by
 have h1:=sD hl;have h2:=nK cm (fun e=>by simp[e]at h)
 have h3:4294967296^l.length≤4294967296^(m.length-1):=Nat.pow_le_pow_right (by omega) (by omega)
 omega
end Go.Gv
namespace Go.Gv
open Go.RowKit IntKind
structure zNv(rec:Loop)(tm:Array Value)(ps:Array Tmp)(assign body:Code):Prop where
 hs:rec.state= .ready
 hp:rec.pending=none
 ht:rec.tmps=tm
 hps:rec.params=ps
 ha:rec.assign=assign
 hb:rec.body=body
def vM(P:Program)(Q:Exit→Act→World→Prop)(A:Act)(l:Nat)(w3:World):Prop:=
 ∃rec,w3.heap[l]?=some (.loop rec)∧rec.state≠.busy∧
  (match rec.pending with
   | none=>Q .normal A (w3.putObj l (.loop {rec with state:= .exhausted}))
   | some c=>c.wpIn (FF none) 0 P Q A (w3.putObj l (.loop {rec with state:= .exhausted})))
section
variable {P:Program}{Q:Exit→Act→World→Prop}{a A:Act}{w w0:World}{n:Nat}{L:List (Nat×Value)}{D:List Deferred}{E:Nat→Prop}{X Y:Hid}{M:List (Nat×Obj)}{rec:Loop}{tm:Array Value}{ps:Array Tmp}{assign body:Code}{l:Nat}
def zOd(rec:Loop):Loop:={rec with state:= .busy}
def qJf(rec:Loop):Loop:={rec with state:= .exhausted}
def zZb(rec:Loop):Loop:={rec with state:= .done,pending:=some .ret}
def Act.marked(a:Act)(b:Nat):Act:={a with defers:=mark b::a.defers}
theorem zCw(b:Nat)(hF:Fr n a L D):Fr n (Act.marked a b) L (mark b::D):=⟨hF.size,by show mark b::a.defers=_;rw[hF.defers],hF.get⟩
theorem zGi{g:Operand}{f:FuncId}{caps:Array Value}(hF:Fr n a L D)(hS:St E w0 X w Y M)(hc:cov L g=true)(hg:evL L g= .func (.func f) #[] caps)
  (hcall:∀args w,(callFunc f args).run P w= .ok (.enter f args) w)
  (k:∀(rec:Loop)l b w1 Y1,zNv rec a.tmps ps assign body→St E w0 X w1 Y1 ((l,.loop rec)::(b,.deferred (some []))::M)→Le (rd w Y) (rd w1 Y1)→Upd E0 w w1→
   Calls P f (#[.func (.yield l) #[] #[]]++caps) w1 (fun e w3=>(∃v,e= .returned v)∧vM P Q (Act.marked a b) l w3)):
  (Code.rangeFunc g ps assign body).wpIn (FF none) 0 P Q a w:=
 qJw hF hS hc hg hcall fun fn l b w1 Y1 h1 h2 h3=>k _ l b w1 Y1 ⟨rfl,rfl,rfl,rfl,rfl,rfl⟩ h1 h2 h3
theorem vM.norm(hr:zNv rec tm ps assign body)(hS:St E w0 X w Y ((l,.loop rec)::M))(k:∀w1,St E w0 X w1 Y ((l,.loop (qJf rec))::M)→Le (rd w Y) (rd w1 Y)→Q .normal A w1):vM P Q A l w:=by
 refine⟨rec,hS.get 0 rfl,by rw[hr.hs];simp,?_⟩
 split
 ·exact k _ (hS.putObj 0 rfl).1 (hS.putObj (o':= .loop (qJf rec)) 0 rfl).2
 ·rename_i c hc;rw[hr.hp]at hc;cases hc
theorem vM.ret(hS:St E w0 X w Y ((l,.loop (zZb rec))::M))(k:∀w1,St E w0 X w1 Y ((l,.loop (qJf (zZb rec)))::M)→Le (rd w Y) (rd w1 Y)→Q .ret A w1):vM P Q A l w:=by
 refine⟨zZb rec,hS.get 0 rfl,by simp[zZb],?_⟩
 exact nS (k _ (hS.putObj 0 rfl).1 (hS.putObj (o':= .loop (qJf (zZb rec))) 0 rfl).2)
theorem zIj{R:Ending→World→Prop}{p q:Nat}{v u:Value}(hr:zNv rec a.tmps #[p,q] assign body)(hF:Fr n a L D)(hS:St E w0 X w Y ((l,.loop rec)::M))(hp:Nat.blt p n=true)(hq:Nat.blt q n=true)
  (k:∀a1,Fr n a1 ((q,u)::(p,v)::L)→assign.wpIn (FF (some l)) 0 P (Exit.then (fun a₁ w₁=>∃w₂,(Instr.beginRound l).run P w₁= .ok () w₂∧body.wpIn (FF (some l)) 0 P (roundPost P l R) a₁ w₂) (fun _ _ _=>False)) a1 w):YieldAt (FF none) 0 P l #[v,u] w R:=by
 refine zXd 0 hS rfl (by rw[hr.hps];rfl) ?_
 rw[hr.ha,hr.hb,hr.hps,hr.ht];exact k _ (zXy hF (by simpa[Nat.blt_eq]using hp) (by simpa[Nat.blt_eq]using hq))
theorem zCl{c:Code}{R:Ending→World→Prop}(hr:zNv rec tm ps assign body)(hS:St E w0 X w Y ((l,.loop rec)::M))
  (k:∀w1,St E w0 X w1 Y ((l,.loop (zOd rec))::M)→Le (rd w Y) (rd w1 Y)→c.wpIn (FF (some l)) 0 P (roundPost P l R) a w1):
  ∃w₂,(Instr.beginRound l).run P w= .ok () w₂∧c.wpIn (FF (some l)) 0 P (roundPost P l R) a w₂:=qNa 0 hS rfl hr.hs k
theorem lJ{R:Ending→World→Prop}(hr:zNv rec tm ps assign body)(hS:St E w0 X w Y ((l,.loop (zOd rec))::M))
  (k:∀w1,St E w0 X w1 Y ((l,.loop rec)::M)→Le (rd w Y) (rd w1 Y)→R (.returned (.bool true)) w1):roundPost P l R .normal a w:=by
 refine jAz 0 hS rfl fun w1 h1 h2=>k w1 ?_ h2;have:({zOd rec with state:= .ready,pending:=none}:Loop)=rec:=by
  obtain⟨h1,h2,_,_,_,_⟩:=hr;cases rec;simp only at h1 h2;subst h1;subst h2;rfl
 rw[this]at h1;exact h1
theorem jBa{R:Ending→World→Prop}(hS:St E w0 X w Y ((l,.loop (zOd rec))::M))
  (k:∀w1,St E w0 X w1 Y ((l,.loop (zZb rec))::M)→Le (rd w Y) (rd w1 Y)→R (.returned (.bool false)) w1):roundPost P l R .ret a w:=
 jCz 0 hS rfl k
def xR(J R:World→Prop)(e:Ending)(w:World):Prop:=∃b,e= .returned (.bool b)∧(b=true→J w)∧(b=false→R w)
theorem xR.next{J R:World→Prop}{w:World}(h:J w):xR J R (.returned (.bool true)) w:=⟨true,rfl,fun _=>h,fun e=>absurd e (by decide)⟩
theorem xR.stop{J R:World→Prop}{w:World}(h:R w):xR J R (.returned (.bool false)) w:=⟨false,rfl,fun e=>absurd e (by decide),fun _=>h⟩
theorem xR.ret{J R:World→Prop}{e:Ending}{w:World}(h:xR J R e w):∃v,e= .returned v:=h.elim fun _ h=>⟨_,h.1⟩
end
theorem qG.zeros(m:Nat)(h:m≤maxLen):qG m m (List.replicate m (Value.int .u32 0)).toArray (List.replicate m 0):=by
 refine qG.of _ (fun x hx=>?_) (by simpa using h) ?_ (by simp)
 ·rw[List.mem_replicate]at hx;omega
 ·simp[U32]
section
variable {P:Program}{Q:Exit→Act→World→Prop}{K:Act→World→Prop}{a:Act}{o:Oper}{n d:Nat}{L:List (Nat×Value)}{D:List Deferred}{E:Nat→Prop}{w0 w:World}{X Y:Hid}{M:List (Nat×Obj)}
theorem qFd{dT sT e:TypeId}{x y:Operand}{g dl dc sl sc:Nat}{cur:Array Value}{T:TypeId}{ad:Option Addr}{l l2:List Nat}{Y2:Hid}(i:Nat)(hF:Fr n a L D)(hc:opk L o d n=true)(hS:St E w0 X w Y M)
  (ho:o.op= .call {callee:= .builtin .copy,args:=#[x,y],argTypes:=#[dT,sT]}) (hx:evL L x= .slice (some ⟨g,0,none⟩) dl dc) (hy:evL L y= .slice ad sl sc)
  (hu:P.underlying dT=some (.slice e)) (hs:(P.info? e).map (·.size)=some 1) (hM:M[i]?=some (g,.cells cur T (0,0))) (hrow:qG dl dc cur l) (h2:zT (rd w Y2) ad sl sc l2) (hle:l2.length≤dl)
  (k:∀cur' w1,qG dl dc cur' (l2++l.drop l2.length)→St E w0 X w1 Y (M.set i (g,.cells cur' T (0,0)))→Le (rd w Y) (rd w1 Y)→∀a1,Fr n a1 ((d,.int .i64 (l2.length:Int))::L) D→K a1 w1):o.wp P a w K Q:=by
 obtain rfl:=h2.hlen;have hmono:∀x∈l2++l.drop l2.length,x<4294967296:=fun x hx=>by
  rcases List.mem_append.1 hx with h | h
  ·exact h2.hlt x h
  ·exact hrow.lt x (List.mem_of_mem_drop h)
 have hsize:cur.size=dc:=by have:=hrow.row.hsz;omega
 have hln:=hrow.len;have hdc:=hrow.row.hn;rcases ad with _ | ad
 ·have h0:l2=[]:=by rcases h2.hat with h | ⟨b,off,e,_⟩;exact h;cases e
  subst h0;simp only[List.length_nil,List.drop_zero,List.nil_append]at *;have hexec:(execOp (evL L) o).run P w= .ok (.value (goInt 0)) w:=by
   unfold execOp;simp only[ho,resolve,invoke,builtin,Sem.run_bind,Sem.run_pure,Result.andThen_ok,List.map_toArray,List.map_cons,List.map_nil,hx,hy];cases hq:P.info? e with
   | none=>simp[hq]at hs
   | some i=>simp[Builtin.copy_,run_underlying hu,Builtin.lenOf,Builtin.firstCells,sizeOf,typeInfo,hq,storeCells]
  simp only[opk,Bool.and_eq_true]at hc;obtain⟨hd,hlt⟩:=qO hc.2;unfold Oper.wp;rw[hF.exec hc.1,hexec];show K (a.put o.dst _) _;rw[hd];refine k cur w hrow ?_ (Le.refl _) _ (hF.put hlt _);have e:M.set i (g,.cells cur T (0,0))=M:=by
   obtain⟨hi,hv⟩:=List.getElem?_eq_some_iff.1 hM;rw[←hv,List.set_getElem_self]
  rw[e];exact hS
 ·have hcs:jM w ad (U32 l2):=by
   rcases h2.hat with rfl | ⟨b,off,e,hat⟩
   ·intro j v hj;simp[U32]at hj
   ·cases e;exact hat.cells
  refine qLh (cs:=U32 l2) i hF hc hS ho hx hy hu hs hM (by rw[mU];exact(Nat.min_eq_left hle).symm) hcs (by rw[mU];omega) (by simp[U32,Value.oneCell']) (fun w1 h1 h3 a1 h4=>?_)
  rw[mU]at h1 h4;refine k _ w1 ⟨⟨hdc,hrow.row.hcap,?_,?_⟩,hmono⟩ h1 h3 a1 h4
  ·simp;omega
  ·have h5:=hrow.row.hxs;rw[Nat.mul_one]at h5 ⊢;rw[show U32 (l2++l.drop l2.length)=U32 l2++(U32 l).drop l2.length by simp[U32],←h5,List.take_append,List.take_of_length_le (by simpa using hle),mU,List.drop_take]
end
theorem St.leHG{E:Nat→Prop}{w0 w:World}{X Y:Hid}{M:List (Nat×Obj)}(h:St E w0 X w Y M)(i:Nat){b:Nat}{o:Obj}(hi:M[i]?=some (b,o)):Le (rd w Y) (rd w (fun k _=>k=b)):=
 Le.unhide fun k o' hk=>by subst hk;exact(h.own _ (List.mem_of_getElem? hi)).2.2 o'
def zXx(x:Nat):Int:=if x<4294967296^512 then 0 else 4
theorem qJh{l:List Nat}(h:∀x∈l,x<4294967296):jP l≤512↔val l<4294967296^512:=by
 rw[←xJ l,←jQ l];exact zZ (wR h) (yS l) 512
structure aV(T:TypeId)(w w':World)(v:Value)(l:List Nat)(ad:Option Addr)(len cap:Nat)(x:Nat):Prop where
 own:zIl w w' T v l ad len cap
 canon:jC l
 val:val l=x
def zEq(T:TypeId)(w w':World)(e:Int)(x:Nat)(v:Value):Prop:=
 (e≠0∧v= .tuple #[.slice none 0 0,.int .i64 e])∨(e=0∧∃u l ad len cap,v= .tuple #[u,.int .i64 0]∧aV T w w' u l ad len cap x∧l.length≤512)
theorem zEq.ok{T:TypeId}{w w':World}{x:Nat}{v:Value}{e:Int}(h:zEq T w w' e x v)(he:e=0):∃u l ad len cap,v= .tuple #[u,.int .i64 0]∧aV T w w' u l ad len cap x∧l.length≤512:=by
 rcases h with⟨h,_⟩ | ⟨_,h⟩
 ·exact absurd he h
 ·exact h
theorem zEq.err{T:TypeId}{w w':World}{x:Nat}{v:Value}{e:Int}(h:zEq T w w' e x v)(he:e≠0):v= .tuple #[.slice none 0 0,.int .i64 e]:=by
 rcases h with⟨_,h⟩ | ⟨h,_⟩
 ·exact h
 ·exact absurd h he
theorem zEq.fit{T:TypeId}{w w':World}{g m cap:Nat}{cur:Array Value}{l:List Nat}{x:Nat}{v:Value}(hrow:qG m cap cur l)(hg:w'.heap[g]?=some (.cells cur T (0,0)))(hge:w.heap.size≤g)(hx:val l=x)
  (hv:v=if 512<jP l then .tuple #[.slice none 0 0,.int .i64 4]else .tuple #[.slice (some ⟨g,0,none⟩) (jP l) cap,.int .i64 0]):zEq T w w' (zXx x) x v:=by
 have hi:=qJh hrow.lt;unfold zXx;by_cases h:jP l≤512
 ·refine .inr ⟨if_pos (by rw[←hx];exact hi.1 h),_,Go.Gv.trimmed l,_,_,_,hv.trans (if_neg (by omega)),⟨⟨rfl,(jQ l).symm,wR hrow.lt,.inr ⟨g,cur,rfl,hge,hg,hrow.trimmed⟩⟩,yS l,by rw[xJ,hx]⟩,by rw[jQ];exact h⟩
 ·have h2:¬x<4294967296^512:=fun h3=>h (hi.2 (by rw[hx];exact h3))
  rw[if_neg h2];exact .inl ⟨by decide,hv.trans (if_pos (by omega))⟩
def qJg(l:List Nat):Int:=if 512<jP l then 4 else 0
def or2(a b:Int):Int:=if a=0 then b else a
theorem zBo{a b:Int}(h:a≠0):or2 a b=a:=if_neg h
theorem wB{a b:Int}(h:a=0):or2 a b=b:=if_pos h
theorem bK(l:List Nat)(k m:Nat):val (l++List.drop k (List.replicate m 0))=val l:=by
 induction l with
 | nil=>simp[wW,val]
 | cons x l ih=>rw[List.cons_append,val,val,ih]
theorem qAo{l l2:List Nat}(h:∀x∈l,x<4294967296)(h2:∀x∈l2,x<4294967296):val l+4294967296^0*val l2<4294967296^(max l.length l2.length+1):=by
 have a1:=sD h;have a2:=sD h2;have a3:4294967296^l.length≤4294967296^(max l.length l2.length):=Nat.pow_le_pow_right (by omega) (by omega)
 have a4:4294967296^l2.length≤4294967296^(max l.length l2.length):=Nat.pow_le_pow_right (by omega) (by omega)
 rw[Nat.pow_succ];omega
theorem zT.nil{r:Rd}{cap:Nat}(ad:Option Addr)(h:cap≤9223372036854775807):zT r ad 0 cap []:=⟨rfl,Nat.zero_le _,h,fun x hx=>by simp at hx,.inl rfl⟩
theorem qKu(lp:List Nat)(j x y V:Nat)(hj:j+1<lp.length)(hz:lp.getD (j+1) 0=0)(h:val lp=V):
  val ((lp.set j ((x*y+lp.getD j 0) % 4294967296)).set (j+1) ((x*y+lp.getD j 0) / 4294967296))=V+x*y*4294967296^j:=by
 have h1:=rZ lp j ((x*y+lp.getD j 0) % 4294967296) (by omega)
 have h2:=rZ (lp.set j ((x*y+lp.getD j 0) % 4294967296)) (j+1) ((x*y+lp.getD j 0) / 4294967296) (by simpa using hj)
 rw[xF (by omega),hz]at h2
 generalize hs:x*y+lp.getD j 0=s at *;have h3:s % 4294967296+4294967296*(s / 4294967296)=s:=Nat.mod_add_div s 4294967296;have h4:(s % 4294967296)*4294967296^j+s / 4294967296*4294967296^(j+1)=s*4294967296^j:=by
  rw[Nat.pow_succ,show s / 4294967296*(4294967296^j*4294967296)=4294967296*(s / 4294967296)*4294967296^j by ac_rfl,←Nat.add_mul,h3]
 have h5:s*4294967296^j=x*y*4294967296^j+lp.getD j 0*4294967296^j:=by rw[←hs,Nat.add_mul]
 omega
theorem zGv{a b m n k:Nat}(h1:a<4294967296^m)(h2:b<4294967296^n)(hk:m+n≤k):a*b<4294967296^k:=by
 have h3:a*b<4294967296^m*4294967296^n:=Nat.mul_lt_mul'' h1 h2;rw[←Nat.pow_add]at h3;exact Nat.lt_of_lt_of_le h3 (Nat.pow_le_pow_right (by omega) hk)
section
variable {P:Program}{Q:Exit→Act→World→Prop}{K:Act→World→Prop}{a:Act}{o:Oper}{n d:Nat}{L:List (Nat×Value)}{D:List Deferred}{E:Nat→Prop}{w0 w:World}{X Y:Hid}{M:List (Nat×Obj)}
theorem zPz{fx:Operand}{xs:Array Operand}{ts:Array TypeId}{f:FuncId}{cap:Array Value}{vs:Array Value}{ob:Obj}{b:Nat}{Ψ:Nat→Obj→Value→Prop}(i:Nat)(hF:Fr n a L D)(hc:opk L o d n=true)(hS:St E w0 X w Y M)
  (ho:o.op= .call {callee:= .value fx,args:=xs,argTypes:=ts}) (hf:evL L fx= .func (.func f) #[] cap) (hargs:xs.map (evL L)++cap=vs)
  (hcall:∀w,(callFunc f vs).run P w= .ok (.enter f vs) w) (hM:M[i]?=some (b,ob)) (hcon:Calls P f vs w (Ret (·=b) w fun w1 v=>∃g' o',w1.heap[g']?=some o'∧(w.heap.size≤g'∨g'=b)∧Ψ g' o' v))
  (k:∀v w1 Y1 g' o',Ψ g' o' v→St E w0 X w1 Y1 (M.set i (g',o'))→Le (rd w Y) (rd w1 Y1)→∀a1,Fr n a1 ((d,v)::L) D→K a1 w1):o.wp P a w K Q:=by
 refine zBn i hF hc hS ho hf hargs hcall hM hcon (fun v w1 ob' hΦ A Z1 hle a1 hF1=>?_);obtain⟨g',o',hg,hor,hψ⟩:=hΦ;rcases hor with hge | rfl
 ·have h2:=Z1.adopt (fun o h=>Nat.not_lt.2 hge (hS.lt _ _ h)) (Nat.le_trans hS.upd.size hge) hg;have h3:=h2.replace i;rw[List.set_set]at h3;exact k v w1 _ g' o' hψ h3 (hle.adopt hge) a1 hF1
 ·obtain rfl:=Option.some.inj (A.symm.trans hg);exact k v w1 Y _ _ hψ Z1 hle a1 hF1
theorem St.own_or{b:Nat}{ob:Obj}(h:St E w0 X w Y M)(i:Nat)(hi:M[i]?=some (b,ob)):w0.heap.size≤b∨E b:=(h.own _ (List.mem_of_getElem? hi)).2.1
theorem St.mid{p:Nat×Obj}{B:List (Nat×Obj)}(A:List (Nat×Obj))(h:St E w0 X w Y (p::(A++B))):St E w0 X w Y (A++p::B):=by
 have hp:(A++p::B).Perm (p::(A++B)):=List.perm_middle;exact⟨h.upd,h.lt,h.hid,fun q hq=>h.own q (hp.mem_iff.1 hq),(hp.map (·.1)).nodup_iff.2 h.nd,h.ltX⟩
def xH(bs:List Nat):List (Nat×Obj):=bs.map fun b=>(b,.deferred (some []))
theorem qXz{fn:Func}{R:Ending→World→Prop}{rs:List ResultVar}{vs:List Value}{v:Value}{bs:List Nat}{N:List (Nat×Obj)}(hF:Fr n a L (bs.map mark))(hS:St E w0 X w Y (N++xH bs))(hr:fn.results=rs.toArray)(hv:zBs vs=v)
  (k:∀w1,St E w0 X w1 Y N→Le (rd w Y) (rd w1 Y)→Res P L w1 rs vs∧R (.returned v) w1):bodyPostM (FF none) 0 P fn R .ret a w:=by
 show LeavesInM (FF none) 0 P fn a.tmps R a.defers .returning w;rw[hF.defers];have hF0:Fr n {a with defers:=[]} L:=⟨hF.size,rfl,hF.get⟩
 clear hF;induction bs generalizing w with
 | nil=>
  rw[xH,List.map_nil,List.append_nil]at hS;obtain⟨h3,h4⟩:=k w hS (Le.refl _);exact zAt (hv▸tN hF0 hr h3) h4
 | cons b bs ih=>
  have Z1:St E w0 X w Y ((b,.deferred (some []))::(N++xH bs)):=by
   have hp:((b,Obj.deferred (some []))::(N++xH bs)).Perm (N++(b,Obj.deferred (some []))::xH bs):=List.perm_middle.symm;exact⟨hS.upd,hS.lt,hS.hid,fun q hq=>hS.own q (hp.mem_iff.1 hq),(hp.map (·.1)).nodup_iff.2 hS.nd,hS.ltX⟩
  obtain⟨h1,h2⟩:=Z1.putObj (o':= .deferred none) 0 rfl;refine⟨by simp,.inl ⟨b,_,rfl,run_takeDeferred (Z1.get 0 rfl),?_⟩⟩
  exact ih h1.tail fun w1 hw hl=>k w1 hw (h2.trans hl)
end
theorem qG.cellX0{w:World}{g m cap:Nat}{cur:Array Value}{T:TypeId}{l:List Nat}(h:qG m cap cur l)(hg:w.heap[g]?=some (.cells cur T (0,0))){k:Nat}(hk:k<l.length):At (rd w X0) ⟨g,0+k,none⟩ [.int .u32 ((l.getD k 0:Nat):Int)]:=
 ((h.limbs hg (Y:=X0) (fun _ h=>h.elim)).cell hk)
theorem qG.app{m cap c:Nat}{cur:Array Value}{l:List Nat}(h:Row (m+1) cap 1 cur (U32 l++[.int .u32 (c:Int)]))(hl:∀x∈l,x<4294967296)(hc:c<4294967296):qG (m+1) cap cur (l++[c]):=by
 refine⟨?_,fun x hx=>?_⟩
 ·rw[show U32 (l++[c])=U32 l++[.int .u32 (c:Int)]by simp[U32]];exact h
 ·rcases List.mem_append.1 hx with h1 | h1
  ·exact hl x h1
  ·simp at h1;omega
theorem qYv(x c:Nat)(hc:c≤1):(x*2) % 4294967296||| c=(x*2) % 4294967296+c:=by
 have h:(x*2) % 4294967296=2^1*(x % 2147483648):=by omega
 rw[h];exact(Nat.two_pow_add_eq_or_of_lt (i:=1) (by omega) _).symm
theorem qYw(x r:Nat)(hx:x<2147483648)(hr:r≤1):x||| r*2147483648=x+r*2147483648:=by
 have:=Nat.two_pow_add_eq_or_of_lt (i:=31) (b:=x) (by omega) r
 rw[Nat.or_comm,Nat.mul_comm r,Nat.add_comm];exact this.symm
theorem qIn(x c:Nat)(hc:c≤1):nJ (((x*2 % 4294967296:Nat)):Int) (c:Int)=((x*2 % 4294967296+c:Nat):Int):=by
 rw[fV _ _ (Nat.mod_lt _ (by omega)) (by omega),qYv x c hc]
theorem qIo(x r:Nat)(hx:x<2147483648)(hr:r≤1):nJ (x:Int) ((r*2147483648:Nat):Int)=((x+r*2147483648:Nat):Int):=by
 rw[fV _ _ (by omega) (by omega),qYw x r hx hr]
theorem zOb(x:Nat)(hx:x<4294967296):wK (x:Int) 1=((x % 2:Nat):Int):=by
 have h:=bL x 1 hx (by omega)
 rw[Nat.and_one_is_mod]at h;exact h
theorem qIy(l l1:List Nat)(j c V:Nat)(hj:j<l.length)(hk:j<l1.length)(hx:l1.getD j 0=l.getD j 0)(h:val l1+c*4294967296^j=V+val (l.take j)):
  val (l1.set j (l.getD j 0*2 % 4294967296+c))+l.getD j 0 / 2147483648*4294967296^(j+1)=V+val (l.take (j+1)):=by
 have h1:=rZ l1 j (l.getD j 0*2 % 4294967296+c) hk;rw[hx]at h1;rw[kH l j hj,show l.getD j 0 / 2147483648=l.getD j 0*2 / 4294967296 by omega]
 generalize hs:l.getD j 0*2=s at *;have h2:s % 4294967296+4294967296*(s / 4294967296)=s:=Nat.mod_add_div s 4294967296;have h3:(s % 4294967296)*4294967296^j+s / 4294967296*4294967296^(j+1)=s*4294967296^j:=by
  rw[Nat.pow_succ,show s / 4294967296*(4294967296^j*4294967296)=4294967296*(s / 4294967296)*4294967296^j by ac_rfl,←Nat.add_mul,h2]
 have h4:s*4294967296^j=2*(l.getD j 0*4294967296^j):=by rw[←hs];ac_rfl
 rw[Nat.add_mul]at h1;omega
theorem qJt(l l1:List Nat)(k r:Nat)(hk:k<l.length)(hk1:k<l1.length)(hx:l1.getD k 0=l.getD k 0)(h:2*val l1+r*4294967296^(k+1)=val l+val (l.take (k+1))):
  2*val (l1.set k (l.getD k 0 / 2+r*2147483648))+l.getD k 0 % 2*4294967296^k=val l+val (l.take k):=by
 have h1:=rZ l1 k (l.getD k 0 / 2+r*2147483648) hk1;rw[hx]at h1;rw[kH l k hk]at h;generalize hs:l.getD k 0=x at *;have h2:(2*(x / 2+r*2147483648)+x % 2)*4294967296^k=(x+r*4294967296)*4294967296^k:=by congr 1;omega
 rw[Nat.add_mul,Nat.add_mul x,Nat.mul_assoc 2,Nat.mul_assoc r,show 4294967296*4294967296^k=4294967296^(k+1)by rw[Nat.pow_succ,Nat.mul_comm]]at h2
 omega
theorem zOf{l:List Nat}(hl:∀x∈l,x<4294967296)(h:0<l.length→4294967296^(l.length-1)≤val l):jC l:=by
 by_cases h0:l.length=0
 ·exact .inl h0
 ·refine .inr fun e=>?_;have h1:=h (by omega)
  have h2:=kH l (l.length-1) (by omega)
  rw[show l.length-1+1=l.length by omega,List.take_length,e]at h2
  have h3:=zCe hl (l.length-1) (by omega)
  omega
theorem zIy{l:List Nat}{c:Nat}(h:c≠0):jC (l++[c]):= .inr (by simpa using h)
theorem nL{l:List Nat}(hc:jC l)(h:l≠[]):0<val l:=Nat.lt_of_lt_of_le (Nat.pos_of_ne_zero (by simp)) (nK hc h)
section
variable {m:Nat}{P:Program}{Q:Exit→Act→World→Prop}{a:Act}{w:World}
theorem zLw{c:Code}(h:c.wpIn (FF none) m P (Exit.noGoto Q) a w):(Code.scope c).wpIn (FF none) m P Q a w:=wpIn_wide.2 (wp_scope_straight (wpIn_wide.1 (show c.wpIn Fence.wide m P _ a w from h)))
end
theorem zMn{y:Nat}(h:y % 2=1)(k:Nat):Nat.Coprime (2^k) y:=by
 have h1:Nat.Coprime 2 y:=by
  rw[Nat.Coprime,Nat.gcd_rec,h,Nat.gcd_one_left]
 exact Nat.Coprime.pow_left k h1
theorem zOy{x y z k:Nat}(hy:y % 2=1)(hlt:y≤x)(h:z*2^k=x-y):Nat.gcd z y=Nat.gcd x y:=by
 have h1:Nat.gcd (z*2^k) y=Nat.gcd z y:=(zMn hy k).gcd_mul_right_cancel z;rw[←h1,h,Nat.gcd_sub_self_left hlt]
theorem qDd{a b j k x y:Nat}(ha:a % 2=1)(hb:b % 2=1)(hx:a*2^j=x)(hy:b*2^k=y):Nat.gcd a b*2^(min j k)=Nat.gcd x y:=by
 subst hx;subst hy;rcases Nat.le_total j k with h | h
 ·rw[Nat.min_eq_left h];obtain⟨t,rfl⟩:=Nat.exists_eq_add_of_le h;rw[Nat.pow_add,show b*(2^j*2^t)=b*2^t*2^j by ac_rfl,Nat.gcd_mul_right]
  congr 1;rw[Nat.gcd_comm a (b*2^t),Nat.gcd_comm a b];exact((zMn ha t).gcd_mul_right_cancel b).symm
 ·rw[Nat.min_eq_right h];obtain⟨t,rfl⟩:=Nat.exists_eq_add_of_le h;rw[Nat.pow_add,show a*(2^k*2^t)=a*2^t*2^k by ac_rfl,Nat.gcd_mul_right]
  congr 1;exact((zMn hb t).gcd_mul_right_cancel a).symm
section
variable {P:Program}{ρ:Operand→Value}{o:Oper}{w:World}
theorem qGr{t t2:TypeId}{xa xb:Operand}{x k:Nat}(ho:o.op= .binOp .shr t xa xb t2)(hx:ρ xa= .int .u32 (x:Int))(hk:ρ xb= .int .i64 (k:Int))(h:k≤32):(execOp ρ o).run P w= .ok (.value (.int .u32 ((x / 2^k:Nat):Int))) w:=by
 unfold execOp;simp only[ho,hx,hk];have h1:=shift_shr_u32 (yk:= .i64) (x:=(x:Int)) (y:=(k:Int)) (by omega) (by omega)
 simp[go_sem,h1]
theorem qGq{t t2:TypeId}{xa xb:Operand}{x k:Nat}(ho:o.op= .binOp .shl t xa xb t2)(hx:ρ xa= .int .u32 (x:Int))(hk:ρ xb= .int .i64 (k:Int))(h:k≤32):(execOp ρ o).run P w= .ok (.value (.int .u32 ((x*2^k % 4294967296:Nat):Int))) w:=by
 unfold execOp;simp only[ho,hx,hk];have h1:=shift_shl_u32 (yk:= .i64) (x:=(x:Int)) (y:=(k:Int)) (by omega) (by omega)
 simp[go_sem,h1,kI]
theorem dW{t:TypeId}{xa xb:Operand}{s:ByteArray}{kd:IntKind}{i:Nat}{b:UInt8}(ho:o.op= .index t xa xb)(ht:P.underlying t=some .string)(hx:ρ xa= .string s)(hk:ρ xb= .int kd (i:Int))(h:s[i]?=some b):(execOp ρ o).run P w= .ok (.value (.int .u8 ((b.toNat:Nat):Int))) w:=by
 unfold execOp;simp only[ho,hx,hk];simp[go_sem,Instr.index,asIntOf,run_underlying ht,h]
end
theorem zTs(k:Nat)(h:k≤4611686018427387904):i64.wrap (Int.tdiv (k:Int) 32)=((k / 32:Nat):Int):=by
 rw[Int.tdiv_eq_ediv_of_nonneg (by omega),zUa (by omega) (by omega)];rfl
theorem zTt(k:Nat):Int.tmod (k:Int) 32=((k % 32:Nat):Int):=by
 rw[Int.tmod_eq_emod_of_nonneg (by omega)];rfl
theorem zSc(l:List Nat)(hl:∀x∈l,x<4294967296)(k:Nat)(hk:k / 32<l.length):l.getD (k / 32) 0 / 2^(k % 32) % 2=val l / 2^k % 2:=by
 have h1:=dX l (k / 32);have h2:=zCe hl (k / 32) (by omega)
 have h3:l.drop (k / 32)=l.getD (k / 32) 0::l.drop (k / 32+1):=by
  rw[List.drop_eq_getElem_cons hk];simp[hk]
 have h4:(2:Nat)^k=4294967296^(k / 32)*2^(k % 32):=by
  rw[show(4294967296:Nat)=2^32 by decide,←Nat.pow_mul,←Nat.pow_add,Nat.div_add_mod]
 rw[h3]at h1;simp only[val]at h1;have h5:val l / 4294967296^(k / 32)=l.getD (k / 32) 0+4294967296*val (l.drop (k / 32+1)):=by
  rw[h1,Nat.add_mul_div_left _ _ (Nat.pos_of_ne_zero (by simp)),Nat.div_eq_of_lt h2,Nat.zero_add]
 rw[h4,←Nat.div_div_eq_div_mul,h5];have h6:(4294967296:Nat)=2^(k % 32)*2^(32-k % 32):=by
  rw[←Nat.pow_add,show k % 32+(32-k % 32)=32 by omega]
 rw[h6,Nat.mul_assoc,Nat.add_mul_div_left _ _ (Nat.two_pow_pos _)];obtain⟨t,ht⟩:∃t,32-k % 32=t+1:=⟨31-k % 32,by omega⟩
 rw[ht,Nat.pow_succ,show 2^t*2*val (l.drop (k / 32+1))=2*(2^t*val (l.drop (k / 32+1)))by ac_rfl]
 omega
theorem qKl(l:List Nat)(hl:∀x∈l,x<4294967296)(r:Nat)(h0:0<l.length)(h:l.getD (l.length-1) 0<2^r):val l<2^(32*(l.length-1)+r):=by
 have h1:=kH l (l.length-1) (by omega)
 rw[show l.length-1+1=l.length by omega,List.take_length]at h1
 have h2:=zCe hl (l.length-1) (by omega)
 have h3:(2:Nat)^(32*(l.length-1)+r)=2^r*4294967296^(l.length-1):=by
  rw[Nat.pow_add,Nat.pow_mul,Nat.mul_comm]
 have h4:(l.getD (l.length-1) 0+1)*4294967296^(l.length-1)≤2^r*4294967296^(l.length-1):=Nat.mul_le_mul_right _ h;rw[Nat.add_mul]at h4;omega
theorem qYu(y k:Nat)(hk:k<32)(h:y % 2^(k+1)=0):y||| 2^k=y+2^k:=by
 obtain⟨z,rfl⟩:2^(k+1)∣y:=Nat.dvd_of_mod_eq_zero h;exact(Nat.two_pow_add_eq_or_of_lt (i:=k+1) (b:=2^k) (Nat.pow_lt_pow_right (by omega) (by omega)) z).symm
theorem qDy(l:List Nat)(hl:∀x∈l,x<4294967296)(k q:Nat)(hk:k / 32<l.length)(h:val l=2^(k+1)*q):l.getD (k / 32) 0 % 2^(k % 32+1)=0:=by
 have h1:=dX l (k / 32);have h2:=zCe hl (k / 32) (by omega)
 have h3:l.drop (k / 32)=l.getD (k / 32) 0::l.drop (k / 32+1):=by
  rw[List.drop_eq_getElem_cons hk];simp[hk]
 have h4:(2:Nat)^(k+1)=4294967296^(k / 32)*2^(k % 32+1):=by
  rw[show(4294967296:Nat)=2^32 by decide,←Nat.pow_mul,←Nat.pow_add,←Nat.add_assoc,Nat.div_add_mod]
 rw[h3]at h1;simp only[val]at h1;have h5:val l / 4294967296^(k / 32)=l.getD (k / 32) 0+4294967296*val (l.drop (k / 32+1)):=by
  rw[h1,Nat.add_mul_div_left _ _ (Nat.pos_of_ne_zero (by simp)),Nat.div_eq_of_lt h2,Nat.zero_add]
 rw[h,h4,Nat.mul_assoc,Nat.mul_div_cancel_left _ (Nat.pos_of_ne_zero (by simp))]at h5
 have h6:(4294967296:Nat)=2^(k % 32+1)*2^(31-k % 32):=by
  rw[←Nat.pow_add,show k % 32+1+(31-k % 32)=32 by omega]
 rw[h6,Nat.mul_assoc]at h5;have h7:=congrArg (·% 2^(k % 32+1)) h5;simp only[Nat.mul_mod_right,Nat.add_mul_mod_self_left]at h7;exact h7.symm
theorem qGu(l:List Nat)(hl:∀x∈l,x<4294967296)(k q:Nat)(hk:k / 32<l.length)(h:val l=2^(k+1)*q):
  nJ ((l.getD (k / 32) 0:Nat):Int) ((2^(k % 32):Nat):Int)=((l.getD (k / 32) 0+2^(k % 32):Nat):Int)∧l.getD (k / 32) 0+2^(k % 32)<4294967296∧val (l.set (k / 32) (l.getD (k / 32) 0+2^(k % 32)))=val l+2^k:=by
 have h1:=qDy l hl k q hk h;have h2:=qYu _ (k % 32) (by omega) h1
 have h3:l.getD (k / 32) 0<4294967296:=by
  have:l.getD (k / 32) 0=l[k / 32]:=by simp[hk]
  rw[this];exact hl _ (List.getElem_mem hk)
 have h4:(2:Nat)^(k % 32)<4294967296:=Nat.lt_of_lt_of_le (Nat.pow_lt_pow_right (by omega) (by omega:k % 32<32)) (by decide)
 have h5:l.getD (k / 32) 0||| 2^(k % 32)<2^32:=Nat.or_lt_two_pow (by omega) (by omega)
 refine⟨by rw[fV _ _ h3 h4,h2],by rw[h2]at h5;omega,?_⟩
 have h6:=rZ l (k / 32) (l.getD (k / 32) 0+2^(k % 32)) hk;have h7:(2:Nat)^k=2^(k % 32)*4294967296^(k / 32):=by
  rw[show(4294967296:Nat)=2^32 by decide,←Nat.pow_mul,←Nat.pow_add,Nat.add_comm,Nat.div_add_mod]
 rw[Nat.add_mul]at h6;omega
theorem zUr(L k:Nat):L / 2^k=2*(L / 2^(k+1))+L / 2^k % 2:=by
 rw[Nat.pow_succ,←Nat.div_div_eq_div_mul];omega
theorem divA{L k q d r x:Nat}(h:L / 2^(k+1)=q*d+r)(hx:x=2*r+L / 2^k % 2-d)(hd:d≤2*r+L / 2^k % 2):L / 2^k=(2*q+1)*d+x:=by
 have h1:=zUr L k;rw[h]at h1;rw[Nat.add_mul,Nat.mul_assoc];omega
theorem qRn{L k q d r x:Nat}(h:L / 2^(k+1)=q*d+r)(hx:x=2*r+L / 2^k % 2):L / 2^k=(2*q)*d+x:=by
 have h1:=zUr L k;rw[h]at h1;rw[Nat.mul_assoc];omega
theorem qCe{L q d r x:Nat}(h:L / 2^0=q*d+r)(hr:r<d)(hx:x=2^0*q):x=L / d∧r=L % d:=by
 rw[Nat.pow_zero,Nat.div_one]at h;rw[Nat.pow_zero,Nat.one_mul]at hx;subst hx;subst h;refine⟨?_,?_⟩
 ·rw[Nat.add_comm,Nat.add_mul_div_right _ _ (by omega),Nat.div_eq_of_lt hr,Nat.zero_add]
 ·rw[Nat.add_comm,Nat.add_mul_mod_self_right,Nat.mod_eq_of_lt hr]
theorem zQu{P:Program}{ρ:Operand→Value}{o:Oper}{w:World}{t t2:TypeId}{xa xb:Operand}{k:Nat}(ho:o.op= .binOp .shl t xa xb t2)(hx:ρ xa= .int .u32 1)(hk:ρ xb= .int .i64 (k:Int))(h:k<32):(execOp ρ o).run P w= .ok (.value (.int .u32 ((2^k:Nat):Int))) w:=by
 have h1:=qGq (P:=P) (w:=w) (x:=1) ho hx hk (by omega)
 have h2:(2:Nat)^k<4294967296:=Nat.lt_of_lt_of_le (Nat.pow_lt_pow_right (by omega) h) (by decide)
 rwa[Nat.one_mul,Nat.mod_eq_of_lt h2]at h1
def RSt(T:TypeId)(rb:List (Nat×Obj))(ad:Option Addr)(cap:Nat)(l:List Nat):Prop:=
 (rb=[]∧ad=none∧cap=0∧l=[])∨∃g cur,rb=[(g,.cells cur T (0,0))]∧ad=some ⟨g,0,none⟩∧qG l.length cap cur l
def DivV(T:TypeId)(w w':World)(e:Int)(x y:Nat)(v:Value):Prop:=
 (e≠0∧v= .tuple #[.slice none 0 0,.slice none 0 0,.int .i64 e])∨
 (e=0∧∃u u2 l l2 ad len cap ad2 len2 O2,v= .tuple #[u,u2,.int .i64 0]∧aV T w w' u l ad len cap x∧l.length≤512∧aV T w w' u2 l2 ad2 len2 O2 y∧l2.length≤512)
theorem zIl.back{w0 w w':World}{T:TypeId}{v:Value}{l:List Nat}{ad:Option Addr}{len cap:Nat}(h:zIl w w' T v l ad len cap)(hs:w0.heap.size≤w.heap.size):zIl w0 w' T v l ad len cap:=
 ⟨h.hv,h.hlen,h.hlt,h.own.imp id fun⟨g,cur,e,hge,ho,hr⟩=>⟨g,cur,e,Nat.le_trans hs hge,ho,hr⟩⟩
theorem aV.back{w0 w w':World}{T:TypeId}{v:Value}{l:List Nat}{ad:Option Addr}{len cap x:Nat}(h:aV T w w' v l ad len cap x)(hs:w0.heap.size≤w.heap.size):aV T w0 w' v l ad len cap x:=⟨h.own.back hs,h.canon,h.val⟩
def qH(r:Rd)(ad:Option Addr)(len cap x:Nat):Prop:=∃l,zT r ad len cap l∧jC l∧val l=x
theorem qH.mono{r r':Rd}{ad:Option Addr}{len cap x:Nat}(h:qH r ad len cap x)(k:Le r r'):qH r' ad len cap x:=h.imp fun _ h=>⟨h.1.mono k,h.2⟩
theorem qH.len0{r:Rd}{ad:Option Addr}{len cap x:Nat}(h:qH r ad len cap x):len=0↔x=0:=by
 obtain⟨l,hl,hc,rfl⟩:=h;have h1:=hl.hlen;constructor
 ·intro h0;rw[List.eq_nil_of_length_eq_zero (h1.symm.trans h0)];rfl
 ·intro h0;rw[h1,bQ hc h0];rfl
theorem qH.len_le{r:Rd}{ad:Option Addr}{len cap x:Nat}(h:qH r ad len cap x)(k:Nat):len≤k↔x<4294967296^k:=by
 obtain⟨l,hl,hc,rfl⟩:=h;rw[hl.hlen];exact zZ hl.hlt hc k
theorem qH.nil{r:Rd}{cap:Nat}(ad:Option Addr)(h:cap≤9223372036854775807):qH r ad 0 cap 0:=⟨[],zT.nil ad h,.inl rfl,rfl⟩
theorem qH.one{r:Rd}{ad:Option Addr}{len cap x:Nat}(h:qH r ad len cap x)(hlen:len=1):∃b off,ad=some ⟨b,off,none⟩∧x<4294967296∧At r ⟨b,off,none⟩ [.int .u32 (x:Int)]:=by
 obtain⟨l,hl,hc,rfl⟩:=h;obtain⟨b,off,e,hat⟩:=hl.addr (by omega)
 have h1:=hl.hlen;obtain⟨y,rfl⟩:∃y,l=[y]:=by
  match l,h1 with
  | [y],_=>exact⟨y,rfl⟩
  | [],h=>simp at h;omega
  | _::_::_,h=>simp at h;omega
 have hy:=hl.hlt y (by simp)
 refine⟨b,off,e,by simpa[val]using hy,?_⟩
 simpa[val,U32]using hat
theorem qH.of_one{r:Rd}{ad:Option Addr}{len cap:Nat}(h:qH r ad len cap 1):len=1:=by
 have h1:=(h.len_le 1).2 (by omega)
 have h2:len≠0:=fun e=>absurd (h.len0.1 e) (by omega)
 omega
def zKv(w w':World)(v:Value)(x:Nat):Prop:=∃ad len cap,v= .slice ad len cap∧∀Y:Hid,(∀k o,Y k o→k<w.heap.size)→qH (rd w' Y) ad len cap x
theorem aV.natV{T:TypeId}{w w':World}{v:Value}{l:List Nat}{ad:Option Addr}{len cap x:Nat}(h:aV T w w' v l ad len cap x):zKv w w' v x:=
 ⟨ad,len,cap,h.own.hv,fun _ hY=>⟨l,h.own.limbs hY,h.canon,h.val⟩⟩
theorem zEx{l:List Nat}(h:l.length≤512)(hc:jC l):yN l=0:=by
 unfold yN;rw[if_neg (by omega),if_neg]
 rintro⟨h1,h2⟩;rcases hc with h3 | h3
 ·omega
 ·exact h3 h2
theorem qH.limbs{r:Rd}{ad:Option Addr}{len cap x:Nat}(h:qH r ad len cap x)(hx:x<4294967296^512):∃l,zT r ad len cap l∧jC l∧val l=x∧l.length≤512:=by
 obtain⟨l,hl,hc,rfl⟩:=h;exact⟨l,hl,hc,rfl,(zZ hl.hlt hc 512).2 hx⟩
def sgn(s:Bool)(n:Nat):Int:=if s then -(n:Int)else n
theorem aN(s:Bool)(n:Nat):(sgn s n).natAbs=n:=by cases s<;>simp[sgn]
def zRq(X:Hid)(w':World)(v:Value)(x:Nat):Prop:=∃ad len cap,v= .slice ad len cap∧qH (rd w' X) ad len cap x
theorem St.lastN{E:Nat→Prop}{w0 w:World}{X Y:Hid}{M:List (Nat×Obj)}(h:St E w0 X w Y M){ad:Option Addr}{len cap x:Nat}(k:qH (rd w Y) ad len cap x):zRq X w (.slice ad len cap) x:=⟨ad,len,cap,rfl,k.mono h.le⟩
theorem zMe(n d:Nat)(s:Bool)(hd:0<d):(mkRat (sgn s n) d).num=sgn s (n / Nat.gcd n d):=by
 rw[Rat.num_mkRat,if_neg (by omega),aN,Nat.gcd_comm]
 cases s
 ·simp[sgn]
 ·simp only[sgn,if_true];rw[Int.neg_ediv_of_dvd (by exact_mod_cast Nat.gcd_dvd_left n d)]
  rfl
theorem qKp(n d:Nat)(s:Bool)(hd:0<d):(mkRat (sgn s n) d).den=d / Nat.gcd n d:=by
 rw[Rat.den_mkRat,if_neg (by omega),aN,Nat.gcd_comm]
def pF(d:Nat):Nat:=if d=1 then 0 else d
def RatF(r:Rd)(adn:Option Addr)(lenn capn:Nat)(add:Option Addr)(lend capd:Nat)(x:Rat):Prop:=qH r adn lenn capn x.num.natAbs∧qH r add lend capd (pF x.den)
def zIm(X:Hid)(w':World)(v:Value)(x:Rat):Prop:=∃adn lenn capn add lend capd,v= .agg #[.bool (decide (x.num<0)),.slice adn lenn capn,.slice add lend capd]∧RatF (rd w' X) adn lenn capn add lend capd x
theorem zFd{X:Hid}{w':World}{n d:Nat}{s:Bool}(hn:n≠0)(hd:0<d){adn:Option Addr}{lenn capn:Nat}{add:Option Addr}{lend capd:Nat}(h1:qH (rd w' X) adn lenn capn (n / Nat.gcd n d))(h2:qH (rd w' X) add lend capd (pF (d / Nat.gcd n d))):
  zIm X w' (.agg #[.bool s,.slice adn lenn capn,.slice add lend capd]) (mkRat (sgn s n) d):=by
 have hg:0<Nat.gcd n d:=Nat.gcd_pos_of_pos_right _ hd;have hq:0<n / Nat.gcd n d:=Nat.div_pos (Nat.le_of_dvd (by omega) (Nat.gcd_dvd_left n d)) hg
 have e1:=zMe n d s hd;refine⟨adn,lenn,capn,add,lend,capd,?_,?_,?_⟩
 ·rw[e1];have:decide (sgn s (n / Nat.gcd n d)<0)=s:=by
   cases s
   ·simp only[sgn,Bool.false_eq_true,if_false,decide_eq_false_iff_not];omega
   ·simp only[sgn,if_true,decide_eq_true_eq];omega
  rw[this]
 ·rw[e1,aN];exact h1
 ·rw[qKp n d s hd];exact h2
theorem qHs{X:Hid}{w':World}{s:Bool}(d:Nat):zIm X w' (.agg #[.bool false,.slice none 0 0,.slice none 0 0]) (mkRat (sgn s 0) d):=by
 have e:mkRat (sgn s 0) d=0:=by cases s<;>simp[sgn,Rat.zero_mkRat]
 rw[e];exact⟨none,0,0,none,0,0,rfl,qH.nil none (by omega),qH.nil none (by omega)⟩
theorem zQm{n d:Nat}(hn:n≠0)(hd:0<d):0<n / Nat.gcd n d:=Nat.div_pos (Nat.le_of_dvd (by omega) (Nat.gcd_dvd_left n d)) (Nat.gcd_pos_of_pos_right _ hd)
def zXh(X:Hid)(w':World)(v:Value)(s:Bool)(n d:Nat):Prop:=∃ad len cap ad2 len2 O2,v= .agg #[.slice ad len cap,.slice ad2 len2 O2,.bool s]∧qH (rd w' X) ad len cap n∧qH (rd w' X) ad2 len2 O2 d
theorem St.rowX{E:Nat→Prop}{w0 w:World}{X Y:Hid}{M:List (Nat×Obj)}(h:St E w0 X w Y M)(i:Nat){b:Nat}{c:Array Value}{T:TypeId}(hi:M[i]?=some (b,.cells c T (0,0)))(hb:w0.heap.size≤b){m cap:Nat}{l:List Nat}(hrow:qG m cap c l):zT (rd w X) (some ⟨b,0,none⟩) m cap l:=
 hrow.limbs (h.get i hi) fun o hx=>by have:=h.ltX b o hx;omega
theorem qLc{x:Value}(hx:x= .int .u32 1):qG 1 1 #[x] [1]:=by subst hx;exact qG.of [1] (fun x hx=>by simp at hx;omega) (by simp[maxLen]) rfl rfl
theorem qLb{r:Rd}{ad:Option Addr}{cap:Nat}(h:zT r ad 1 cap [1]):qH r ad 1 cap 1:=⟨[1],h,.inr (by decide),rfl⟩
abbrev jZ:Nat:=4294967296^128
theorem zMv(B n m:Nat)(hB:0<B)(h:n≤m):B^n≤B^m:=Nat.pow_le_pow_right hB h
theorem qLy(B n m:Nat)(h:m=n+n):B^m=B^n*B^n:=by subst h;exact Nat.pow_add B n n
theorem qKb:jZ≤4294967296^512:=zMv 4294967296 128 512 (by decide) (by decide)
theorem qEh(B n k a b:Nat)(hB:0<B)(h1:a<B^n)(h2:b<B^n)(hk:n+n≤k):a*b<B^k:=by
 have h:a*b<B^n*B^n:=Nat.lt_of_le_of_lt (Nat.mul_le_mul_right _ (Nat.le_of_lt h1)) (Nat.mul_lt_mul_of_pos_left h2 (Nat.pow_pos hB));rw[←Nat.pow_add]at h;exact Nat.lt_of_lt_of_le h (zMv B _ _ hB hk)
theorem qRl{a b:Nat}(h:a<jZ)(h2:b<jZ):a*b<4294967296^512:=qEh 4294967296 128 512 a b (by decide) h h2 (by decide)
theorem xY{a b c d:Nat}(ha:a<jZ)(hb:b<jZ)(hc:c<jZ)(hd:d<jZ):a*b<4294967296^512∧a*b+c*d<4294967296^512:=by
 have h1:a*b<4294967296^256:=zGv ha hb (by omega)
 have h2:c*d<4294967296^256:=zGv hc hd (by omega)
 have h3:(4294967296:Nat)^256*2≤4294967296^512:=by
  have:(4294967296:Nat)^512=4294967296^256*4294967296^256:=qLy 4294967296 256 512 rfl;rw[this];exact Nat.mul_le_mul_left _ (by
   have:(4294967296:Nat)^1≤4294967296^256:=Nat.pow_le_pow_right (by omega) (by omega)
   omega)
 omega
theorem qHe{s s2:Bool}(h:s=s2)(a b c d:Nat):sgn s (a*b+c*d)=sgn s a*b+sgn s2 c*d:=by
 subst h;cases s<;>simp[sgn];rw[Int.neg_mul,Int.neg_mul];omega
theorem jAk{s s2:Bool}(h:s≠s2){a b c d:Nat}(hl:a*b<c*d):sgn s2 (c*d-a*b)=sgn s a*b+sgn s2 c*d:=by
 cases s<;>cases s2<;>simp[sgn]at h ⊢
 ·rw[Int.neg_mul,Int.ofNat_sub (by omega)];simp only[Int.natCast_mul];omega
 ·rw[Int.neg_mul,Int.ofNat_sub (by omega)];simp only[Int.natCast_mul];omega
theorem jAj{s s2:Bool}(h:s≠s2){a b c d:Nat}(hl:c*d≤a*b):sgn s (a*b-c*d)=sgn s a*b+sgn s2 c*d:=by
 cases s<;>cases s2<;>simp[sgn]at h ⊢
 ·rw[Int.neg_mul,Int.ofNat_sub (by omega)];simp only[Int.natCast_mul];omega
 ·rw[Int.neg_mul,Int.ofNat_sub (by omega)];simp only[Int.natCast_mul];omega
theorem qMm(s s2:Bool)(a c:Nat):sgn (!(s==s2)) (a*c)=sgn s a*sgn s2 c:=by
 cases s<;>cases s2<;>simp[sgn,Int.neg_mul,Int.mul_neg]
theorem zWm(s:Bool)(a:Nat):sgn (!s) a= - sgn s a:=by cases s<;>simp[sgn]
def nlF:Nat→Nat→List Nat
 | 0,_=>[]
 | f+1,n=>if n=0 then[]else n % 4294967296::nlF f (n / 4294967296)
def kG(n:Nat):List Nat:=nlF (n.log2+1) n
theorem qEk : ∀ (f g n : Nat), n < 2 ^ f → n < 2 ^ g → nlF f n = nlF g n
  | 0, 0, _, _, _ => rfl
  | 0, g + 1, n, h, _ => by have : n = 0 := by simpa using h
                            subst this; rfl
  | f + 1, 0, n, _, h => by have : n = 0 := by simpa using h
                            subst this; rfl
  | f + 1, g + 1, n, h, h' => by
    rw [nlF, nlF]
    split
    · rfl
    · rw [Nat.pow_succ] at h h'
      rw [qEk f g (n / 4294967296) (by omega) (by omega)]
theorem zDo(n:Nat):kG n=if n=0 then[]else n % 4294967296::kG (n / 4294967296):=by
 have h1:∀m:Nat,m<2^(m.log2+1):=fun m=>Nat.lt_log2_self;unfold kG;rw[nlF];split
 ·rfl
 ·rename_i h0;have h2:=h1 n;rw[Nat.pow_succ]at h2;rw[qEk n.log2 ((n / 4294967296).log2+1) (n / 4294967296) (by omega) (h1 _)]
theorem zJy(n:Nat):∀x∈kG n,x<4294967296:=by
 induction n using Nat.strongRecOn with
 | _ n ih=>
  rw[zDo];split
  ·simp
  ·intro x hx;rcases List.mem_cons.1 hx with e | e
   ·rw[e];exact Nat.mod_lt _ (by omega)
   ·exact ih (n / 4294967296) (Nat.div_lt_self (by omega) (by omega)) x e
theorem vD(n:Nat):val (kG n)=n:=by
 induction n using Nat.strongRecOn with
 | _ n ih=>
  rw[zDo];split
  ·rename_i h;rw[h];rfl
  ·rw[val,ih (n / 4294967296) (Nat.div_lt_self (by omega) (by omega))];omega
theorem sJ(n:Nat):jC (kG n):=by
 induction n using Nat.strongRecOn with
 | _ n ih=>
  rw[zDo];split
  ·exact .inl rfl
  ·rename_i h;refine .inr ?_;rcases ih (n / 4294967296) (Nat.div_lt_self (by omega) (by omega))with h1 | h1
   ·have h2:kG (n / 4294967296)=[]:=List.eq_nil_of_length_eq_zero h1;have h3:n / 4294967296=0:=by have:=vD (n / 4294967296);rw[h2]at this;simpa[val]using this.symm
    rw[h2];simp;omega
   ·have hp:0<(kG (n / 4294967296)).length:=by
     rcases Nat.eq_zero_or_pos (kG (n / 4294967296)).length with e | e
     ·rw[List.eq_nil_of_length_eq_zero e]at h1;simp at h1
     ·exact e
    obtain⟨t,ht⟩:∃t,(kG (n / 4294967296)).length=t+1:=⟨_,(Nat.sub_add_cancel hp).symm⟩;rw[List.length_cons,ht];rw[ht]at h1;simpa using h1
theorem qBg{l:List Nat}(hl:∀x∈l,x<4294967296)(hc:jC l):l=kG (val l):=zXo hl (zJy _) hc (sJ _) (vD _).symm
theorem qH.lim{r:Rd}{ad:Option Addr}{len cap x:Nat}(h:qH r ad len cap x):zT r ad len cap (kG x):=by
 obtain⟨l,hl,hc,rfl⟩:=h;rw[←qBg hl.hlt hc];exact hl
theorem zT.natR{r:Rd}{ad:Option Addr}{len cap:Nat}{l:List Nat}(h:zT r ad len cap l)(hc:jC l):qH r ad len cap (val l):=⟨l,h,hc,rfl⟩
structure Raw where
 neg:Bool
 ln:List Nat
 ld:List Nat
deriving DecidableEq
def Raw.zero:Raw:=⟨false,[],[]⟩
def Raw.of(x:Rat):Raw:=⟨decide (x.num<0),kG x.num.natAbs,kG (pF x.den)⟩
def Raw.d(a:Raw):Nat:=if val a.ld=0 then 1 else val a.ld
def Raw.rat(a:Raw):Rat:=mkRat (sgn a.neg (val a.ln)) a.d
def Raw.chk(a:Raw):Int:=
 if 128<a.ln.length∨128<a.ld.length then 4
 else if yN a.ln≠0∨yN a.ld≠0∨val a.ld=1∨(val a.ln=0∧(a.neg=true∨0<val a.ld))then 2
 else if 0<val a.ld∧Nat.gcd (val a.ln) (val a.ld)≠1 then 2 else 0
def nC(X:Hid)(w':World)(v:Value)(a:Raw):Prop:=∃adn lenn capn add lend capd,v= .agg #[.bool a.neg,.slice adn lenn capn,.slice add lend capd]∧zT (rd w' X) adn lenn capn a.ln∧zT (rd w' X) add lend capd a.ld
theorem zIm.raw{X:Hid}{w':World}{v:Value}{x:Rat}(h:zIm X w' v x):nC X w' v (Raw.of x):=by
 obtain⟨a1,a2,a3,a4,a5,a6,e,h1,h2⟩:=h;exact⟨a1,a2,a3,a4,a5,a6,e,h1.lim,h2.lim⟩
theorem Raw.chk_ok{a:Raw}(h:a.chk=0):a.ln.length≤128∧a.ld.length≤128∧jC a.ln∧jC a.ld∧val a.ld≠1∧¬(val a.ln=0∧(a.neg=true∨0<val a.ld))∧¬(0<val a.ld∧Nat.gcd (val a.ln) (val a.ld)≠1):=by
 unfold Raw.chk at h;split at h
 ·cases h
 ·split at h
  ·cases h
  ·split at h
   ·cases h
   ·rename_i h1 h2 h3;simp only[not_or]at h1 h2;exact⟨by omega,by omega,(dB (Classical.not_not.1 h2.1)).2,(dB (Classical.not_not.1 h2.2.1)).2,h2.2.2.1,h2.2.2.2,h3⟩
theorem Raw.d_pos(a:Raw):0<a.d:=by unfold Raw.d;split<;>omega
def zBv(x:Rat):Int:=if x.num.natAbs<jZ∧pF x.den<jZ then 0 else 4
def opE(a b:Raw)(x:Rat):Int:=or2 (or2 a.chk b.chk) (zBv x)
def opR(a b:Raw)(x:Rat):Raw:=if opE a b x=0 then Raw.of x else .zero
theorem zIr(x y:Int):orL [x,y]=or2 x y:=by
 simp only[orL,or2];split
 ·split<;>simp_all
 ·rfl
theorem gY{x y:Int}(h:or2 x y=0):x=0∧y=0:=by
 unfold or2 at h;split at h
 ·exact⟨by assumption,h⟩
 ·exact absurd h (by assumption)
theorem zTa{a b:Raw}{z:Rat}(h:orL [a.chk,b.chk]≠0):opE a b z=orL [a.chk,b.chk]∧opR a b z= .zero:=by
 rw[zIr]at *;have e:opE a b z=or2 a.chk b.chk:=zBo h;exact⟨e,if_neg (by rw[e];exact h)⟩
theorem zFk{a b:Raw}{z:Rat}(h:orL [a.chk,b.chk]=0)(h2:¬(z.num.natAbs<jZ∧pF z.den<jZ)):opE a b z=4∧opR a b z= .zero:=by
 rw[zIr]at h;have e:opE a b z=4:=by unfold opE;rw[wB h,zBv,if_neg h2]
 exact⟨e,if_neg (by rw[e];decide)⟩
theorem zVx{a b:Raw}{z:Rat}(h:orL [a.chk,b.chk]=0)(h2:z.num.natAbs<jZ∧pF z.den<jZ):opE a b z=0∧opR a b z= .of z:=by
 rw[zIr]at h;have e:opE a b z=0:=by unfold opE;rw[wB h,zBv,if_pos h2]
 exact⟨e,if_pos e⟩
theorem sZ{X:Hid}{w':World}:nC X w' (.agg #[.bool false,.slice none 0 0,.slice none 0 0]) .zero:=⟨none,0,0,none,0,0,rfl,zT.nil none (by omega),zT.nil none (by omega)⟩
def zLi(x y:Rat):Int:=if x=y then 0 else if x<y then -1 else 1
def nO(a b:Raw):Int:=or2 a.chk b.chk
def vU(a b:Raw):Int:=if nO a b=0 then zLi a.rat b.rat else 0
theorem qJy{X:Hid}{w':World}{n:Int}{adn:Option Addr}{lenn capn:Nat}(h:qH (rd w' X) adn lenn capn n.natAbs):zIm X w' (.agg #[.bool (decide (n<0)),.slice adn lenn capn,.slice none 0 0]) (n:Rat):=
 ⟨adn,lenn,capn,none,0,0,rfl,h,qH.nil none (by omega)⟩
theorem zUo{s:Bool}{m d₁ d₂:Nat}{n₁ n₂:Int}(h:sgn s m=n₁*d₂+(-n₂)*d₁)(h1:0<d₁)(h2:0<d₂):mkRat (sgn s m) (d₁*d₂)=mkRat n₁ d₁-mkRat n₂ d₂:=by
 rw[Rat.sub_eq_add_neg,Rat.neg_mkRat,Rat.mkRat_add_mkRat _ _ (by omega) (by omega),h]
theorem zOm{s:Bool}{m d:Nat}{x y:Rat}(h:mkRat (sgn s m) d=x-y)(hm:m=0):zLi x y=0:=by
 subst hm;have e:mkRat (sgn s 0) d=0:=by cases s<;>simp[sgn,Rat.zero_mkRat]
 rw[e]at h;have:x=y:=by grind
 rw[zLi,if_pos this]
theorem qIt{m d:Nat}{x y:Rat}(h:mkRat (sgn true m) d=x-y)(hm:m≠0)(hd:0<d):zLi x y= -1:=by
 have h1:mkRat (sgn true m) d<0:=by
  have:=zMe m d true hd;rw[Rat.lt_iff];rw[this];have:=zQm hm hd;rw[show(0:Rat).num=0 from rfl,show(0:Rat).den=1 from rfl];simp only[sgn,if_true];omega
 rw[h]at h1;have h2:x<y:=by grind
 have h3:x≠y:=by grind
 rw[zLi,if_neg h3,if_pos h2]
theorem qIu{m d:Nat}{x y:Rat}(h:mkRat (sgn false m) d=x-y)(hm:m≠0)(hd:0<d):zLi x y=1:=by
 have h1:0<mkRat (sgn false m) d:=by
  have:=zMe m d false hd;rw[Rat.lt_iff];rw[this];have:=zQm hm hd;rw[show(0:Rat).num=0 from rfl,show(0:Rat).den=1 from rfl];simp only[sgn,Bool.false_eq_true,if_false];omega
 rw[h]at h1;have h2:¬x<y:=by grind
 have h3:x≠y:=by grind
 rw[zLi,if_neg h3,if_neg h2]
theorem qCb{n d:Nat}(h:0<n)(h2:0<d):0<n*d:=Nat.mul_pos h h2
def jBj(r:Rd)(a:Addr)(x:Raw):Prop:=∃adn lenn capn add lend capd,At r a [.bool x.neg,.slice adn lenn capn,.slice add lend capd]∧zT r adn lenn capn x.ln∧zT r add lend capd x.ld
structure Rats(r:Rd)(ad:Option Addr)(len cap:Nat)(xs:List Raw):Prop where
 hlen:len=xs.length
 hcap:len≤cap
 hbig:cap≤9223372036854775807
 hat:xs=[]∨∃b off,ad=some ⟨b,off,none⟩∧∀i x,xs[i]?=some x→jBj r ⟨b,off+i*3,none⟩ x
def qIc:Raw→List Raw→Raw×Int
 | r,[]=>(r,0)
 | r,x::l=>if opE r x (r.rat+x.rat)=0 then qIc (opR r x (r.rat+x.rat)) l else(.zero,opE r x (r.rat+x.rat))
section
variable {r x y:Raw}{xs ys:List Raw}{k:Nat}
end
structure SlR{α:Type}(El:Rd→Addr→α→Prop)(size:Nat)(r:Rd)(ad:Option Addr)(len cap:Nat)(xs:List α):Prop where
 hlen:len=xs.length
 hcap:len≤cap
 hbig:cap≤9223372036854775807
 hat:xs=[]∨∃b off,ad=some ⟨b,off,none⟩∧∀i x,xs[i]?=some x→El r ⟨b,off+i*size,none⟩ x
structure Out where
 to:Int
 p:Raw
structure zKs where
 cost:Raw
 next:List Out
structure Mdp where
 disc:Raw
 states:List (List zKs)
def zLg(n:Nat):Option Int→List Out→Int
 | _,[]=>0
 | prev,o::l=>
  if o.to<0∨(n:Int)≤o.to then 8
  else if(match prev with | some q=>decide (o.to≤q) | none=>false)=true then 16
  else if o.p.chk≠0 then o.p.chk
  else if o.p.neg=true∨o.p.ln.length=0 then 1
  else zLg n (some o.to) l
def qBo(n:Nat)(a:zKs):Int:=
 if a.cost.chk≠0 then a.cost.chk
 else if a.next.length=0 then 3
 else if 64<a.next.length then 4
 else if zLg n none a.next≠0 then zLg n none a.next
 else if(qIc .zero (a.next.map (·.p))).2≠0 then(qIc .zero (a.next.map (·.p))).2
 else if vU (qIc .zero (a.next.map (·.p))).1 (.of 1)≠0 then 2 else 0
def zLf(n:Nat):List zKs→Int
 | []=>0
 | a::l=>if qBo n a≠0 then qBo n a else zLf n l
def zJb(n:Nat):List (List zKs)→Int
 | []=>0
 | s::l=>if s.length=0 then 3 else if 6<s.length then 4 else if zLf n s≠0 then zLf n s else zJb n l
def Mdp.chk(m:Mdp):Int:=
 if m.disc.chk≠0 then m.disc.chk
 else if m.disc.neg=true∨0<vU m.disc (.of 1)then 1
 else if m.states.length=0 then 3
 else if 200<m.states.length then 4
 else zJb m.states.length m.states
def pick(v:List Raw)(o:Out):Raw:=v.getD o.to.toNat .zero
theorem qCh{α:Type}{xs:List α}{k:Nat}{x:α}(hx:xs[k]?=some x):xs.drop k=x::xs.drop (k+1):=by
 obtain⟨hk,e⟩:=List.getElem?_eq_some_iff.1 hx;rw[List.drop_eq_getElem_cons hk,e]
section
variable {acc xs ys:List Raw}{x y:Raw}{k:Nat}
end
section
variable {n k:Nat}{l:List Out}{o q:Out}
end
section
variable {n:Nat}{a:zKs}
end
section
variable {n k:Nat}{s:List zKs}{l:List (List zKs)}{a:zKs}
end
structure RE where
 x:Raw
 an:Option Addr
 ln:Nat
 cn:Nat
 am:Option Addr
 lm:Nat
 cm:Nat
def RE.ok(r:Rd)(e:RE):Prop:=zT r e.an e.ln e.cn e.x.ln∧zT r e.am e.lm e.cm e.x.ld
theorem RE.ok.mono{r r':Rd}{e:RE}(h:e.ok r)(k:Le r r'):e.ok r':=⟨h.1.mono k,h.2.mono k⟩
theorem St.perm{E:Nat→Prop}{w0 w:World}{X Y:Hid}{M M':List (Nat×Obj)}(h:St E w0 X w Y M)(hp:M'.Perm M):St E w0 X w Y M':=
 ⟨h.upd,h.lt,h.hid,fun x hx=>h.own x (hp.mem_iff.1 hx),(hp.map (·.1)).nodup_iff.2 h.nd,h.ltX⟩
def qIa(e:TypeId)(size:Nat)(rb:List (Nat×Obj))(ad:Option Addr)(m cap:Nat)(xs:List Value):Prop:=
 (rb=[]∧ad=none∧m=0∧cap=0∧xs=[])∨∃g cur,rb=[(g,.cells cur e (0,0))]∧ad=some ⟨g,0,none⟩∧Row m cap size cur xs
section
variable {P:Program}{Q:Exit→Act→World→Prop}{K:Act→World→Prop}{a:Act}{o:Oper}{n d:Nat}{L:List (Nat×Value)}{D:List Deferred}{E:Nat→Prop}{w0 w:World}{X Y:Hid}
theorem qLg{t e:TypeId}{s x:Operand}{m c nn cap size:Nat}{ad0:Option Addr}{xs news:List Value}{ad:Addr}{z:Value}{i0:TypeInfo}{rb A B:List (Nat×Obj)}(F:List (Nat×Obj)→List (Nat×Obj))(hF:Fr n a L D)(hc:opk L o d n=true)(hS:St E w0 X w Y (F rb))(hM:∀rb,F rb=A++(rb++B))
  (ho:o.op= .call {callee:= .builtin .append,args:=#[s,x],argTypes:=#[t,t]}) (hs:evL L s= .slice ad0 nn cap) (hx:evL L x= .slice (some ad) m c)
  (ht:P.underlying t=some (.slice e)) (hi:P.info? e=some i0) (hz:i0.zero=some z) (hsz:i0.size=size) (hzs:z.cells.size=size)
  (hrow:qIa e size rb ad0 nn cap xs) (hnews:jM w ad news) (hl:news.length=m*size) (h1:news.all Value.oneCell'=true) (hm0:0<m)
  (h63:nn+m≤maxLen) (hbytes:(nn+m)*i0.bytes≤140737488355328)
  (k:∀rb' ad' cap' w1 Y1,qIa e size rb' ad' (nn+m) cap' (xs++news)→St E w0 X w1 Y1 (F rb')→Le (rd w Y) (rd w1 Y1)→∀a1,Fr n a1 ((d,.slice ad' (nn+m) cap')::L) D→K a1 w1):o.wp P a w K Q:=by
 rcases hrow with⟨rfl,rfl,rfl,rfl,rfl⟩ | ⟨g,cur,rfl,rfl,hrow⟩
 ·refine zHd hF hc hS ho hs hx ht hi hz hsz hzs hnews hl hm0 (by omega) (by simpa using hbytes) (fun g' cap' cur' w1 Y1 hr Z1 hle a1 hF1=>?_)
  refine k [(g',.cells cur' e (0,0))] _ _ w1 Y1 (.inr ⟨g',cur',rfl,rfl,by simpa using hr⟩) ?_ hle a1 (by rw[Nat.zero_add];exact hF1)
  rw[hM];rw[hM]at Z1;exact Z1.perm (by simp)
 ·have hS':=hS;rw[hM]at hS';have hi':(A++([(g,Obj.cells cur e (0,0))]++B))[A.length]?=some (g,.cells cur e (0,0)):=by simp
  refine zKd A.length hF hc hS' ho hs hx ht hi hz hsz hzs hi' hrow hnews hl h1 h63 hbytes (fun g' cap' cur' w1 Y1 hr Z1 hle a1 hF1=>?_);refine k [(g',.cells cur' e (0,0))] _ _ w1 Y1 (.inr ⟨g',cur',rfl,rfl,hr⟩) ?_ hle a1 hF1;rw[hM];simpa[List.set_append]using Z1
theorem qFb{t e:TypeId}{s x:Operand}{m c nn cap size:Nat}{ad0:Option Addr}{xs news:List Value}{ad:Addr}{z:Value}{i0:TypeInfo}{rb R1 B M:List (Nat×Obj)}(i:Nat)(hF:Fr n a L D)(hc:opk L o d n=true)(hS:St E w0 X w Y M)(hM:M.drop i=R1++(rb++B))
  (ho:o.op= .call {callee:= .builtin .append,args:=#[s,x],argTypes:=#[t,t]}) (hs:evL L s= .slice ad0 nn cap) (hx:evL L x= .slice (some ad) m c)
  (ht:P.underlying t=some (.slice e)) (hi:P.info? e=some i0) (hz:i0.zero=some z) (hsz:i0.size=size) (hzs:z.cells.size=size)
  (hrow:qIa e size rb ad0 nn cap xs) (hnews:jM w ad news) (hl:news.length=m*size) (h1:news.all Value.oneCell'=true) (hm0:0<m)
  (h63:nn+m≤maxLen) (hbytes:(nn+m)*i0.bytes≤140737488355328)
  (k:∀rb' ad' cap' w1 Y1,qIa e size rb' ad' (nn+m) cap' (xs++news)→St E w0 X w1 Y1 (M.take i++(R1++(rb'++B)))→Le (rd w Y) (rd w1 Y1)→∀a1,Fr n a1 ((d,.slice ad' (nn+m) cap')::L) D→K a1 w1):o.wp P a w K Q:=
 qLg (A:=M.take i++R1) (B:=B) (fun rb=>M.take i++(R1++(rb++B))) hF hc (by rw[←hM,List.take_append_drop];exact hS) (fun _=>by rw[List.append_assoc]) ho hs hx ht hi hz hsz hzs hrow hnews hl h1 hm0 h63 hbytes k
end
section
variable {w0 w:World}{X Y:Hid}{rb A B:List (Nat×Obj)}{e:TypeId}{size m cap:Nat}{ad:Option Addr}
def jBg(r:Rd)(a:Addr)(x:Int):Prop:=At r a [.int .i64 x]
def Ints:=SlR jBg 1
end
theorem qCa(x:Rat):(if pF x.den=0 then 1 else pF x.den)=x.den:=by
 unfold pF;have:=x.den_pos;rcases Classical.em (x.den=1)with h | h
 ·rw[if_pos h,if_pos rfl,h]
 ·rw[if_neg h,if_neg (by omega)]
theorem qMn(n:Int):sgn (decide (n<0)) n.natAbs=n:=by
 unfold sgn;split
 ·rename_i h;have:=of_decide_eq_true h;omega
 ·rename_i h;have:¬n<0:=fun h'=>h (decide_eq_true h');omega
theorem Raw.of_d(x:Rat):(Raw.of x).d=x.den:=by
 unfold Raw.d Raw.of;simp only[vD];exact qCa x
theorem Raw.of_rat(x:Rat):(Raw.of x).rat=x:=by
 unfold Raw.rat;rw[Raw.of_d];simp only[Raw.of,vD,qMn];exact Rat.mkRat_self x
theorem zGy{n k:Nat}(h:n<4294967296^k):(kG n).length≤k:=(zZ (zJy n) (sJ n) k).2 (by rw[vD];exact h)
theorem Raw.of_chk{x:Rat}(h:zBv x=0):(Raw.of x).chk=0:=by
 unfold zBv at h;split at h
 ·rename_i hk;have l1:=zGy hk.1;have l2:=zGy hk.2;have c1:=zEx (l:=kG x.num.natAbs) (by omega) (sJ _)
  have c2:=zEx (l:=kG (pF x.den)) (by omega) (sJ _)
  have hr:=x.reduced;have hp:=x.den_pos;have hd1:pF x.den≠1:=by unfold pF;split<;>omega
  unfold Raw.chk Raw.of;simp only[vD];rw[if_neg (by omega),if_neg ?_,if_neg ?_]
  ·rintro⟨h1,h2⟩;unfold pF at h1 h2;split at h1
   ·omega
   ·rename_i h3;rw[if_neg h3]at h2;exact h2 hr
  ·rintro(h1 | h1 | h1 | ⟨h1,h2 | h2⟩)
   ·exact h1 c1
   ·exact h1 c2
   ·exact hd1 h1
   ·have:=of_decide_eq_true h2;omega
   ·unfold pF at h2;split at h2
    ·omega
    ·rename_i h3;rw[h1]at hr;have:Nat.gcd 0 x.den=1:=hr;rw[Nat.gcd_zero_left]at this;exact h3 this
 ·cases h
theorem qHr:Raw.zero.chk=0:=by decide
theorem zZn:Raw.zero.rat=0:=by unfold Raw.rat;simp[Raw.zero,val,sgn,Rat.zero_mkRat]
section
variable {x y r:Raw}{z:Rat}
theorem zMo(h:opE x y z=0):x.chk=0∧y.chk=0∧opR x y z= .of z∧(opR x y z).rat=z∧(opR x y z).chk=0:=by
 have h1:=gY (x:=or2 x.chk y.chk) h;have h2:=gY h1.1;have e:opR x y z= .of z:=if_pos h;exact⟨h2.1,h2.2,e,by rw[e];exact Raw.of_rat z,by rw[e];exact Raw.of_chk h1.2⟩
theorem qBv(hx:x.chk=0)(hy:y.chk=0):nO x y=0:=by unfold nO;rw[hx,hy];rfl
theorem qBu(hx:x.chk=0)(hy:y.chk=0):vU x y<0↔x.rat<y.rat:=by
 unfold vU;rw[if_pos (qBv hx hy)];unfold zLi;split
 ·rename_i h;rw[h];constructor
  ·intro h;exact absurd h (by decide)
  ·intro h;grind
 ·split
  ·rename_i h;simp[h]
  ·rename_i h;constructor
   ·intro h;exact absurd h (by decide)
   ·intro h';exact absurd h' h
theorem qBt(hx:x.chk=0)(hy:y.chk=0):vU x y≤0↔x.rat≤y.rat:=by
 unfold vU;rw[if_pos (qBv hx hy)];unfold zLi;split
 ·rename_i h;rw[h];exact⟨fun _=>Rat.le_refl,fun _=>Int.le_refl _⟩
 ·rename_i h0;split
  ·rename_i h;constructor
   ·intro _;grind
   ·intro _;decide
  ·rename_i h;constructor
   ·intro h;exact absurd h (by decide)
   ·intro h';grind
end
section
variable {d:Raw}{v:List Raw}{a:zKs}
end
end Go.Gv
namespace Go.Gv
open Go.RowKit Go.ChangeShapes IntKind
theorem zPo{α β:Type}{f:α→Option β}:∀{l:List α}{cs:List β},l.mapM f=some cs→cs.length=l.length∧∀(j:Nat)(a:α),l[j]?=some a→f a=cs[j]?
 | [],cs,h=>by
  simp at h;subst h;simp
 | a::l,cs,h=>by
  rw[List.mapM_cons]at h;cases hf:f a with
  | none=>rw[hf]at h;cases h
  | some b=>
   rw[hf]at h;cases hm:l.mapM f with
   | none=>rw[hm]at h;cases h
   | some bs=>
    rw[hm]at h;obtain rfl:b::bs=cs:=by simpa using h
    obtain⟨h1,h2⟩:=zPo hm;refine⟨by simp[h1],fun j c hj=>?_⟩
    rcases j with _ | j
    ·simp at hj;subst hj;simpa using hf
    ·simpa using h2 j c (by simpa using hj)
theorem zJa{w:World}{a:Addr}{n:Nat}{cs:List Value}(h:w.cells? 0 a n=some cs):cs.length=n∧∀j,j<n→w.cell? (a.add j)=cs[j]?:=by
 unfold World.cells? at h;rw[if_pos (Nat.zero_le _)]at h;obtain⟨h1,h2⟩:=zPo h;rw[List.length_range]at h1;exact⟨h1,fun j hj=>h2 j j (by simp[hj])⟩
theorem zVi{α:Type}{p:Nat→α→Prop}:∀(n:Nat),(∀i,i<n→∃x,p i x)→∃l:List α,l.length=n∧∀i x,l[i]?=some x→p i x
 | 0,_=>⟨[],rfl,fun i x h=>by simp at h⟩
 | n+1,h=>by
  obtain⟨l,h1,h2⟩:=zVi n (fun i hi=>h i (by omega))
  obtain⟨x,hx⟩:=h n (by omega)
  refine⟨l++[x],by simp[h1],fun i y hi=>?_⟩
  rcases Nat.lt_or_ge i n with hlt | hge
  ·rw[List.getElem?_append_left (by omega)]at hi
   exact h2 i y hi
  ·rw[List.getElem?_append_right (by omega)]at hi
   have hlt:=(List.getElem?_eq_some_iff.1 hi).1;simp at hlt;have:i=n:=by omega
   subst this;rw[h1]at hi;simp at hi;exact hi▸hx
section
variable {H:Type}{enc:TypeId×Value→H}{P:Program}{w:World}{spare:Nat→Bool}{held:Bool}
def nE(enc:TypeId×Value→H)(P:Program)(w:World)(spare:Nat→Bool)(held:Bool)(n:Nat)(t:TypeId)(cs:List Value)(y:DataW H×List MemPlace):Prop:=DataW.trod enc P w 0 spare held n t cs=some y∧w.noneFrozen y.2∧∀n∈y.1.weights P t,n≤140737488351232
theorem jAw{e:TypeId}{d:DataW H}{n:Nat}(hn:n∈d.weights P e):∀{l:List (DataW H)},d∈l→n∈DataW.weightsAll P e l
 | x::l,h=>by
  rw[DataW.weightsAll,List.mem_append];rcases List.mem_cons.1 h with rfl | h
  ·exact .inl hn
  ·exact .inr (jAw hn h)
theorem fld{t:TypeId}{fs:Array Field}{f:Field}{fuel size:Nat}{cs:List Value}{x:DataW H×List MemPlace}(ht:P.underlying t=some (.struct fs))(h:nE enc P w spare held fuel t cs x)(i:Nat)(hi:fs[i]?=some f)(hs:P.cellsOf f.type=size):
  ∃n y,nE enc P w spare held n f.type ((cs.drop f.offset).take size) y:=by
 obtain⟨xs,n,_,hx,_,hl,hf⟩:=DataW.trod_struct ht h.1;have hlt:i<fs.size:=(Array.getElem?_eq_some_iff.1 hi).1;have:=hf i f hi;rw[hs]at this;refine⟨n,xs[i]'(by omega),this.trans (List.getElem?_eq_getElem _),fun b off hm=>h.2.1 b off ?_,fun k hk=>h.2.2 k ?_⟩
 ·rw[hx];exact List.mem_flatMap.2 ⟨_,List.getElem_mem _,hm⟩
 ·rw[hx];simp only[DataW.weights,ht];exact DataW.weights_mem_each (j:=i) (t:=f.type) (d:=(xs[i]'(by omega)).1) (by rw[List.getElem?_map,Array.getElem?_toList,hi];rfl) (by rw[List.getElem?_map,List.getElem?_eq_getElem (by omega)];rfl) k hk
theorem flen{t:TypeId}{fs:Array Field}{fuel size:Nat}{cs:List Value}{x:DataW H×List MemPlace}(ht:P.underlying t=some (.struct fs))(h:nE enc P w spare held fuel t cs x)(hs:P.cellsOf t=size):cs.length=size:=by
 obtain⟨xs,n,_,_,h1,_⟩:=DataW.trod_struct ht h.1;rw[h1,hs]
def qQi(enc:TypeId×Value→H)(P:Program)(w:World)(spare:Nat→Bool)(held:Bool){α:Type}(e:TypeId)(size:Nat)(El:Rd→Addr→α→Prop):Prop:=
 ∀(n:Nat)(cs:List Value)(y:DataW H×List MemPlace)(b off:Nat),nE enc P w spare held n e cs y→cs.length=size→At (rd w X0) ⟨b,off,none⟩ cs→∃x,El (rd w X0) ⟨b,off,none⟩ x
theorem qLk{α:Type}{El:Rd→Addr→α→Prop}{t e:TypeId}{size fuel bts:Nat}{cs:List Value}{x:DataW H×List MemPlace}(ht:P.underlying t=some (.slice e))(hs:P.cellsOf e=size)(h0:0<size)(hb:P.bytesOf e=bts)(hel:qQi enc P w spare held e size El)
  (h:nE enc P w spare held fuel t cs x):∃ad len cap xs,cs=[.slice ad len cap]∧SlR El size (rd w X0) ad len cap xs∧xs.length*bts≤140737488351232:=by
 rcases DataW.trod_slice ht h.1 with⟨rfl,_⟩ | ⟨a,len,cap,elems,rest,n,_,rfl,hx,_,hl,hm,hlen,hels,_,_⟩
 ·exact⟨none,0,0,[],rfl,⟨rfl,Nat.le_refl _,by omega,.inl rfl⟩,by simp⟩
 ·rw[hs]at hels;have hm':cap≤9223372036854775807:=by simpa[maxLen]using hm
  have each:∀i,i<len→∃ci yi,w.cells? 0 (a.add (i*size)) size=some ci∧nE enc P w spare held n e ci yi:=fun i hi=>by
   have h1:=hels i hi;rw[List.getElem?_eq_getElem (by omega)]at h1
   refine Option.bind_eq_some_iff.1 h1 |>.imp fun ci hci=>⟨_,hci.1,hci.2,fun b off hm=>h.2.1 b off ?_,fun k hk=>h.2.2 k ?_⟩
   ·rw[hx];exact List.mem_append_right _ (List.mem_flatMap.2 ⟨_,List.mem_append_left _ (List.getElem_mem _),hm⟩)
   ·rw[hx];simp only[DataW.weights,ht];exact List.mem_cons_of_mem _ (List.mem_append_left _ (jAw hk (List.mem_map_of_mem (List.getElem_mem _))))
  have hlong:len*bts≤140737488351232:=by
   have h1:=h.2.2 ((elems.length+rest.length)*P.bytesOf e) (by rw[hx];simp only[DataW.weights,ht,List.length_map];exact List.mem_cons_self)
   rw[hb]at h1;exact Nat.le_trans (Nat.mul_le_mul_right _ (by omega)) h1
  have thaw:∀k,k<len*size→w.frozen? ⟨a.block,a.off+k,none⟩=false:=fun k hk=>h.2.1 _ _ (by
   rw[hx];refine List.mem_append_left _ (List.mem_map.2 ⟨k,List.mem_range.2 ?_,rfl⟩);rw[hs];exact Nat.lt_of_lt_of_le hk (Nat.mul_le_mul_right _ (by omega)))
  rcases Nat.eq_zero_or_pos len with rfl | hpos
  ·exact⟨some a,0,cap,[],rfl,⟨rfl,Nat.zero_le _,hm',.inl rfl⟩,by simp⟩
  ·have hsp:a.spot=none:=by
    obtain⟨ci,yi,h1,_⟩:=each 0 hpos;obtain⟨hcl,hc⟩:=zJa h1;have h2:=hc 0 h0;rw[List.getElem?_eq_getElem (by omega)]at h2
    simp only[Nat.zero_mul,Addr.add,if_true]at h2;unfold World.cell? at h2;split at h2
    ·split at h2
     ·cases h2
     ·rename_i h3;cases hh:a.spot<;>simp_all
    ·cases h2
   obtain⟨b,off,sp⟩:=a;simp only at hsp;subst hsp;obtain⟨xs,hx1,hx2⟩:=zVi (p:=fun i x=>El (rd w X0) ⟨b,off+i*size,none⟩ x) len (fun i hi=>by
    obtain⟨ci,yi,h1,h2⟩:=each i hi;rw[yC]at h1;obtain⟨hcl,hc⟩:=zJa h1;refine hel n ci yi b _ h2 hcl (fun j v hj=>?_);have hj':j<size:=by have:=(List.getElem?_eq_some_iff.1 hj).1;omega
    refine rD ((hc j hj').trans hj) (fun h=>h.elim) ?_;rw[yC,Nat.add_assoc];refine thaw (i*size+j) ?_;have h3:(i+1)*size≤len*size:=Nat.mul_le_mul_right _ hi;rw[Nat.add_mul,Nat.one_mul]at h3;omega)
   exact⟨_,len,cap,xs,rfl,⟨hx1.symm,hl,hm',.inr ⟨b,off,rfl,hx2⟩⟩,by rw[hx1];exact hlong⟩
end
end Go.Gv
namespace Go.Gv
open Go.RowKit IntKind
section
variable {P:Program}{w:World}
def zEt(o:Oper):TypeId:=match o.op with
 | .load t _=>t
 | _=>0
def ldX(o:Oper):Operand:=match o.op with
 | .load _ x=>x
 | _=> .tmp 0
def ldG(P:Program)(o:Oper):Bool:=match ldT P (zEt o)with
 | some (g,_)=>g
 | none=>false
def clF(o:Oper):Operand:=match o.op with
 | .call c=>(match c.callee with
  | .value x=>x
  | _=> .tmp 0)
 | _=> .tmp 0
def clA(o:Oper):Array Operand:=match o.op with
 | .call c=>c.args
 | _=>#[]
def clT(o:Oper):Array TypeId:=match o.op with
 | .call c=>c.argTypes
 | _=>#[]
def qIp:Value→Array Value
 | .func _ _ c=>c
 | _=>#[]
def vOf(P:Program)(L:List (Nat×Value))(o:Oper)(w:World):Value:=match(execOp (evL L) o).run P w with
 | .ok (.value v) _=>v
 | _=>undef
def bO(M:List (Nat×Obj))(i:Nat):Nat:=match M[i]? with
 | some (b,_)=>b
 | none=>0
def cO(M:List (Nat×Obj))(i:Nat):Array Value:=match M[i]? with
 | some (_,.cells c _ _)=>c
 | _=>#[]
def tO(M:List (Nat×Obj))(i:Nat):TypeId:=match M[i]? with
 | some (_,.cells _ t _)=>t
 | _=>0
def fO(M:List (Nat×Obj))(i:Nat):Nat×Nat:=match M[i]? with
 | some (_,.cells _ _ f)=>f
 | _=>(0,0)
end
section
variable {P:Program}{E:Nat→Prop}{w0 w:World}{X Y:Hid}{M:List (Nat×Obj)}
end
section
variable {P:Program}{Q:Exit→Act→World→Prop}{K:Act→World→Prop}{a:Act}{o:Oper}{n d:Nat}{L:List (Nat×Value)}{D:List Deferred}{E:Nat→Prop}{w0 w:World}{X Y:Hid}{M:List (Nat×Obj)}
end
section
variable {P:Program}{ops:Array Oper}{Q:Exit→Act→World→Prop}{S:World→Prop}{T:List Nat}{a:Act}{o:Oper}{n d:Nat}{L:List (Nat×Value)}{D:List Deferred}{w:World}
def zU(ops:Array Oper)(i:Nat):Oper:=(ops[i]?).getD default
end
section
variable {r:Option Nat}{P:Program}{ops:Array Oper}{Q:Exit→Act→World→Prop}{a:Act}{w:World}{nn m:Nat}{L:List (Nat×Value)}{D:List Deferred}
end
end Go.Gv
namespace Go.Gv
open Go.RowKit IntKind
inductive Fm where
  | seq (c:Code)
  | blk (id:Nat)
  | scp
  | kk (K:Act→World→Prop)
inductive Cu where
  | code (c:Code)
  | ops (o:Array Oper) (l:List Oper)
  | ex (e:Exit)
structure Cf where
 cu:Cu
 k:List Fm
 L:List (Nat×Value)
def QQ(r:Option Nat)(m:Nat)(P:Program)(Q:Exit→Act→World→Prop):List Fm→Exit→Act→World→Prop
 | []=>Q
 | .seq c::k=>Exit.then (fun a w=>c.wpIn (FF r) m P (QQ r m P Q k) a w) (QQ r m P Q k)
 | .blk id::k=>Exit.inBlock id (QQ r m P Q k)
 | .scp::k=>Exit.noGoto (QQ r m P Q k)
 | .kk K::k=>Exit.then K (QQ r m P Q k)
def Cu.wp(r:Option Nat)(m:Nat)(P:Program)(Q:Exit→Act→World→Prop)(a:Act)(w:World):Cu→Prop
 | .code c=>c.wpIn (FF r) m P Q a w
 | .ops o l=>wpListIn (FF r) m P o Q l a w
 | .ex e=>Q e a w
@[irreducible] def Go (r : Option Nat) (m : Nat) (P : Program) (Q : Exit → Act → World → Prop) (n : Nat) (D : List Deferred) (w : World) (c : Cf) : Prop :=
  ∀ a, Fr n a c.L D → c.cu.wp r m P (QQ r m P Q c.k) a w
attribute [local semireducible] Go
def fv{α:Type}(v:Value)(f:Value→α):α:=match v with
 | .int k x=>f (.int k x)
 | .bool b=>f (.bool b)
 | .slice a l c=>f (.slice a l c)
 | .pointer a=>f (.pointer a)
 | .agg vs=>f (.agg vs)
 | .tuple vs=>f (.tuple vs)
 | v=>f v
theorem qCz{α:Type}(v:Value)(f:Value→α):fv v f=f v:=by cases v<;>rfl
def opS(P:Program)(n:Nat)(w:World)(ops:Array Oper)(o:Oper)(L:List (Nat×Value)):Option (List (Nat×Value)×World):=
 match o.dst with
 | none=>none
 | some d=>
  bif Nat.blt d n&&xQ o.op then
   bif yX ops L o true then
    bif pO L o then
     match(execOp (evL L) o).run P w with
     | .ok (.value v) w'=>fv v fun v=>some ((d,v)::L,w')
     | _=>none
    else none
   else bif yX ops L o false then some ((d,undef)::L,w)else none
  else none
def zOn(r:Option Nat)(k:List Fm)(L:List (Nat×Value)):Code→Option Cf
 | .seq x y=>some ⟨.code x,.seq y::k,L⟩
 | .skip=>some ⟨.ex .normal,k,L⟩
 | .label _=>some ⟨.ex .normal,k,L⟩
 | .block id x=>some ⟨.code x,.blk id::k,L⟩
 | .exit id=>some ⟨.ex (.exit id),k,L⟩
 | .ret=>some ⟨.ex .ret,k,L⟩
 | .region _ o false=>some ⟨.ops o o.toList,k,L⟩
 | .cond c x y=>bif cov L c then(match evL L c with
  | .bool true=>some ⟨.code x,k,L⟩
  | .bool false=>some ⟨.code y,k,L⟩
  | _=>none)else none
 | .scope x=>match r with
  | none=>some ⟨.code x,.scp::k,L⟩
  | some _=>none
 | _=>none
def exS(e:Exit)(L:List (Nat×Value)):List Fm→Option Cf
 | []=>none
 | f::k=>match e,f with
  | .normal,.seq y=>some ⟨.code y,k,L⟩
  | .normal,.blk _=>some ⟨.ex .normal,k,L⟩
  | .normal,.scp=>some ⟨.ex .normal,k,L⟩
  | .exit id,.blk j=>bif Nat.beq id j then some ⟨.ex .normal,k,L⟩else some ⟨.ex (.exit id),k,L⟩
  | .exit id,_=>some ⟨.ex (.exit id),k,L⟩
  | .ret,_=>some ⟨.ex .ret,k,L⟩
  | _,_=>none
def nx1(r:Option Nat)(P:Program)(n:Nat)(w:World)(c:Cf):Option (Cf×World):=
 match c with
 | ⟨.code x,k,L⟩=>match zOn r k L x with
  | some c=>some (c,w)
  | none=>none
 | ⟨.ops _ [],k,L⟩=>some (⟨.ex .normal,k,L⟩,w)
 | ⟨.ops o (x::l),k,L⟩=>match opS P n w o x L with
  | some (L,w)=>some (⟨.ops o l,k,L⟩,w)
  | none=>none
 | ⟨.ex e,k,L⟩=>match exS e L k with
  | some c=>some (c,w)
  | none=>none
def nx(r:Option Nat)(P:Program)(n:Nat):Nat→World→Cf→Cf×World×Bool
 | 0,w,c=>(c,w,true)
 | k+1,w,c=>match nx1 r P n w c with
  | some (c,w)=>nx r P n k w c
  | none=>(c,w,false)
section
variable {r:Option Nat}{m:Nat}{P:Program}{Q:Exit→Act→World→Prop}{n:Nat}{D:List Deferred}{w:World}
theorem qJm{x:Code}{k:List Fm}{L:List (Nat×Value)}{c':Cf}(h:zOn r k L x=some c')(hg:Go r m P Q n D w c'):Go r m P Q n D w ⟨.code x,k,L⟩:=by
 intro a hF;show x.wpIn (FF r) m P (QQ r m P Q k) a w;cases x<;>simp only[zOn]at h<;>try cases h
 case skip=>exact wM (hg a hF)
 case label=>exact zLv (hg a hF)
 case seq x y=>exact zG (fun K hK=>wpIn_mono (hg a hF) (fun e a w hh=>by cases e<;>first | exact hK _ _ hh | exact hh))
 case block=>exact yY (hg a hF)
 case exit=>exact bV (hg a hF)
 case ret=>exact nS (hg a hF)
 case region id o b=>
  cases b<;>simp only[zOn]at h<;>try cases h
  have:=hg a hF;cases o;exact zC this
 case cond c x y=>
  cases hc:cov L c<;>simp only[hc,cond_true,cond_false]at h
  ·cases h
  split at h
  ·rename_i hv;cases h;exact qTy hF hc hv (hg a hF)
  ·rename_i hv;cases h;exact qJv hF hc hv (hg a hF)
  ·cases h
 case scope x=>
  cases r<;>simp only[]at h<;>cases h;exact zLw (hg a hF)
theorem jBr{e:Exit}{k:List Fm}{L:List (Nat×Value)}{c':Cf}(h:exS e L k=some c')(hg:Go r m P Q n D w c'):Go r m P Q n D w ⟨.ex e,k,L⟩:=by
 intro a hF;show QQ r m P Q k e a w;cases k with
 | nil=>cases h
 | cons f k=>
  cases e<;>cases f<;>simp only[exS]at h<;>try cases h
  all_goals first
   | exact hg a hF
   | skip
  rename_i id j;cases hb:Nat.beq id j<;>simp only[hb,cond_true,cond_false]at h<;>cases h
  ·exact zFu hb (hg a hF)
  ·obtain rfl:=Nat.eq_of_beq_eq_true hb;exact nH (hg a hF)
end
def zXq(c:Cf):Array Oper:=match c.cu with
 | .ops o _=>o
 | _=>#[]
def cop(c:Cf):Oper:=match c.cu with
 | .ops _ (x::_)=>x
 | _=>default
def zUn(c:Cf):List Oper:=match c.cu with
 | .ops _ (_::l)=>l
 | _=>[]
def cd(c:Cf):Nat:=(cop c).dst.getD 0
def zGj(n:Nat)(c:Cf):Bool:=(match c.cu with
 | .ops _ (_::_)=>true
 | _=>false)&&(yX (zXq c) c.L (cop c) true&&(xQ (cop c).op&&pO c.L (cop c)))
def isv(n:Nat)(c:Cf):Bool:=zGj n c&&(match(cop c).dst with
 | some t=>Nat.blt t n
 | none=>false)
def nv0(c:Cf)(v:Value):Cf:=⟨.ops (zXq c) (zUn c),c.k,(cd c,v)::c.L⟩
def nv(c:Cf)(v:Value):Cf:=match c with
 | ⟨.ops o (x::l),k,L⟩=>(match x.dst with
  | some d=>⟨.ops o l,k,(d,v)::L⟩
  | none=>nv0 c v)
 | _=>nv0 c v
theorem zVs(c:Cf)(v:Value):nv c v=nv0 c v:=by
 unfold nv;split
 ·split
  ·rename_i hd;simp only[nv0,zXq,zUn,cd,cop,hd,Option.getD_some]
  ·rfl
 ·rfl
def n0(c:Cf):Cf:=⟨.ops (zXq c) (zUn c),c.k,c.L⟩
section
variable {r:Option Nat}{m:Nat}{P:Program}{Q:Exit→Act→World→Prop}{n:Nat}{D:List Deferred}{w:World}{c:Cf}
theorem zZm(hc:zGj n c=true)(h:∀a,Fr n a c.L D→(cop c).wp P a w (wpListIn (FF r) m P (zXq c) (QQ r m P Q c.k) (zUn c)) (QQ r m P Q c.k)):Go r m P Q n D w c:=by
 intro a hF;have h:=h a hF;obtain⟨cu,k,L⟩:=c;match cu,hc,hF,h with
 | .ops o (x::l),hc,hF,h=>
  simp only[zGj,Bool.true_and,Bool.and_eq_true,zXq,cop]at hc;exact qX hF (by simp only[hc.1,hc.2.1,Bool.and_self]) h
 | .ops o [],hc,_,_=>simp[zGj]at hc
 | .code _,hc,_,_=>simp[zGj]at hc
 | .ex _,hc,_,_=>simp[zGj]at hc
theorem tC(h:isv n c=true):zGj n c=true∧opk c.L (cop c) (cd c) n=true:=by
 simp only[isv,Bool.and_eq_true]at h;refine⟨h.1,?_⟩;have h1:=h.1;simp only[zGj,Bool.and_eq_true]at h1;simp only[opk,Bool.and_eq_true,bD];refine⟨h1.2.2.2,?_⟩;have h2:=h.2;unfold cd;cases hd:(cop c).dst<;>simp only[hd]at h2 ⊢
 ·cases h2
 ·simpa using h2
theorem zZl{ops:Array Oper}{o:Oper}{l:List Oper}{Q:Exit→Act→World→Prop}{a:Act}{w w':World}{L L':List (Nat×Value)}(hF:Fr n a L D)(hn:xQ o.op=true)(hr:zHw P ops n 1 (o::l) L w=some (L',w'))
  (hk:∀a',Fr n a' L' D→wpListIn (FF r) m P ops Q l a' w'):wpListIn (FF r) m P ops Q (o::l) a w:=by
 unfold zHw at hr;cases hd:o.dst with
 | none=>simp[hd]at hr
 | some d=>
  simp only[hd]at hr;cases hlt:Nat.blt d n with
  | false=>simp[hlt]at hr
  | true=>
   simp only[hlt,cond_true]at hr;have hdn:d<n:=by simpa[Nat.blt_eq]using hlt
   cases hw:yX ops L o true with
   | true=>
    simp only[hw,cond_true]at hr;cases hok:pO L o with
    | false=>simp[hok]at hr
    | true=>
     simp only[hok,cond_true]at hr;cases hx:(execOp (evL L) o).run P w with
     | halt h w1=>simp[hx]at hr
     | ok x w1=>
      cases x<;>simp only[hx]at hr<;>try cases hr
      rename_i v;refine qX hF (by rw[hw,hn];rfl) ?_
      unfold Oper.wp;rw[hF.exec hok,hx];show wpListIn (FF r) m P ops Q l (a.put o.dst v) w';rw[hd];exact hk _ (hF.put hdn v)
   | false=>
    simp only[hw,cond_false]at hr;cases hw2:yX ops L o false with
    | false=>simp[hw2]at hr
    | true=>
     simp only[hw2,cond_true]at hr;have hwf:=hF.wanted hw2;cases hr;unfold wpListIn;rw[if_neg (by rw[hwf];simp),hd]
     exact⟨fun f _=>xC r f,hk _ (hF.put hdn _)⟩
theorem qFa{w':World}{ops:Array Oper}{x:Oper}{l:List Oper}{k:List Fm}{L L':List (Nat×Value)}(h:opS P n w ops x L=some (L',w'))(hg:Go r m P Q n D w' ⟨.ops ops l,k,L'⟩):Go r m P Q n D w ⟨.ops ops (x::l),k,L⟩:=by
 intro a hF;show wpListIn (FF r) m P ops (QQ r m P Q k) (x::l) a w;have hr:zHw P ops n 1 (x::l) L w=some (L',w')∧xQ x.op=true:=by
  unfold opS at h;unfold zHw;cases hd:x.dst with
  | none=>simp[hd]at h
  | some d=>
   simp only[hd]at h ⊢;cases hlt:Nat.blt d n<;>simp only[hlt,Bool.false_and,Bool.true_and,cond_false,cond_true]at h ⊢
   ·cases h
   cases hn:xQ x.op<;>simp only[hn,cond_false,cond_true]at h ⊢
   ·cases h
   refine⟨?_,trivial⟩;cases hw:yX ops L x true<;>simp only[hw,cond_false,cond_true]at h ⊢
   ·cases hw2:yX ops L x false<;>simp only[hw2,cond_false,cond_true]at h ⊢
    ·cases h
    ·cases h;rfl
   cases hok:pO L x<;>simp only[hok,cond_false,cond_true]at h ⊢
   ·cases h
   cases hx:(execOp (evL L) x).run P w with
   | halt e w1=>simp[hx]at h
   | ok y w1=>
    cases y<;>simp only[hx,qCz]at h ⊢<;>cases h;rfl
 exact zZl hF hr.2 hr.1 (fun a' hF'=>hg a' hF')
theorem zXf:∀(k:Nat)(w:World)(c:Cf),Go r m P Q n D (nx r P n k w c).2.1 (nx r P n k w c).1→Go r m P Q n D w c
 | 0,_,_,h=>h
 | k+1,w,c,h=>by
  unfold nx at h;split at h
  ·rename_i c' w' hc';have h:=zXf k w' c' h;obtain⟨cu,k,L⟩:=c;unfold nx1 at hc';match cu,hc' with
   | .code x,hc'=>
    simp only at hc';cases hs:zOn r k L x<;>simp only[hs]at hc'<;>cases hc';exact qJm hs h
   | .ex e,hc'=>
    simp only at hc';cases hs:exS e L k<;>simp only[hs]at hc'<;>cases hc';exact jBr hs h
   | .ops o [],hc'=>cases hc';exact h
   | .ops o (x::l),hc'=>
    simp only at hc';cases hs:opS P n w o x L<;>simp only[hs]at hc'<;>cases hc';exact qFa hs h
  ·exact h
theorem zz(k:Nat)(h:Go r m P Q n D w (nx r P n k w c).1)(hk:(nx r P n k w c).2=(w,true):=by kernel_rfl):Go r m P Q n D w c:=
 zXf k w c (by rw[hk];exact h)
def st(c:Cf)(t:Nat)(v:Value):Cf:=match c with
 | ⟨cu,k,L⟩=>⟨cu,k,(t,v)::L⟩
def sl(c:Cf)(t:Nat):Option Value:=bif has c.L t then some (tY c.L t)else none
theorem zWq{t:Nat}{v:Value}(h:sl c t=some v):has c.L t=true∧tY c.L t=v:=by
 unfold sl at h;cases hh:has c.L t<;>simp only[hh,cond_false,cond_true]at h<;>cases h;exact⟨rfl,rfl⟩
theorem zs(t:Nat){v v':Value}(e:v=v')(h:Go r m P Q n D w (st c t v'))(hv:sl c t=some v:=by kernel_rfl):Go r m P Q n D w c:=fun a hF=>
 h a (hF.set t (zWq hv).1 (zWq hv).2 e)
theorem zt(t:Nat){p:Prop}[Decidable p](ht:p→Go r m P Q n D w (st c t (.bool true)))(hf:¬p→Go r m P Q n D w (st c t (.bool false)))(hv:sl c t=some (.bool (decide p)):=by kernel_rfl):Go r m P Q n D w c:=by
 by_cases h:p
 ·exact zs t (by rw[decide_eq_true h]) (ht h) hv
 ·exact zs t (by rw[decide_eq_false h]) (hf h) hv
theorem zb(t:Nat){b:Bool}(ht:b=true→Go r m P Q n D w (st c t (.bool true)))(hf:b=false→Go r m P Q n D w (st c t (.bool false)))(hv:sl c t=some (.bool b):=by kernel_rfl):Go r m P Q n D w c:=by
 cases b
 ·exact zs t rfl (hf rfl) hv
 ·exact zs t rfl (ht rfl) hv
theorem zw(t:Nat){x:Int}(h:Go r m P Q n D w (st c t (.int .i64 x)))(h0: -9223372036854775808≤x:=by omega)(h1:x≤9223372036854775807:=by omega)(hv:sl c t=some (.int .i64 (i64.wrap x)):=by kernel_rfl):Go r m P Q n D w c:=
 zs t (qA (zUa h0 h1)) h hv
variable {E:Nat→Prop}{w0:World}{X Y:Hid}{M:List (Nat×Obj)}
theorem zv{v:Value}(hrun:(execOp (evL c.L) (cop c)).run P w= .ok (.value v) w)(h:Go r m P Q n D w (nv c v))(hc:isv n c=true:=by kernel_rfl):Go r m P Q n D w c:=
 zZm (tC hc).1 fun _ hF=>zF hF (tC hc).2 hrun fun _ hF1=>(zVs c v▸h:Go r m P Q n D w (nv0 c v)) _ hF1
theorem zl{vs:List Value}{ad:Addr}(hcs:jM w ad vs)(h:Go r m P Q n D w (nv c (ldV (ldG P (cop c)) vs)))(hc:isv n c=true:=by kernel_rfl)
  (ho:(cop c).op= .load (zEt (cop c)) (ldX (cop c)):=by kernel_rfl) (hx:evL c.L (ldX (cop c))= .pointer (some ad):=by kernel_rfl) (ht:ldT P (zEt (cop c))=some (ldG P (cop c),vs.length):=by kernel_rfl) (hg:(ldG P (cop c)||vs.length==1)=true:=by kernel_rfl):Go r m P Q n D w c:=
 zv (zB ho hx ht (by simpa using hg) hcs) h hc
end
end Go.Gv
namespace Go.Gv
open Go.RowKit IntKind
attribute [local semireducible] Go
def aL:Value→Nat
 | .pointer (some a)=>a.off
 | _=>0
def ldM(P:Program)(o:Oper):Nat:=match ldT P (zEt o)with
 | some (_,m)=>m
 | none=>0
section
variable {r:Option Nat}{m:Nat}{P:Program}{Q:Exit→Act→World→Prop}{n:Nat}{D:List Deferred}{w:World}{c:Cf}{E:Nat→Prop}{w0:World}{X Y:Hid}{M:List (Nat×Obj)}
def own(P:Program)(c:Cf)(M:List (Nat×Obj))(i:Nat):List Value:=((cO M i).toList.drop (aL (evL c.L (ldX (cop c))))).take (ldM P (cop c))
theorem zo(i:Nat)(hS:St E w0 X w Y M)(h:Go r m P Q n D w (nv c (ldV (ldG P (cop c)) (own P c M i))))(hc:isv n c=true:=by kernel_rfl)
  (ho:(cop c).op= .load (zEt (cop c)) (ldX (cop c)):=by kernel_rfl) (hx:evL c.L (ldX (cop c))= .pointer (some ⟨bO M i,aL (evL c.L (ldX (cop c))),none⟩):=by kernel_rfl)
  (ht:ldT P (zEt (cop c))=some (ldG P (cop c),(own P c M i).length):=by kernel_rfl) (hg:(ldG P (cop c)||(own P c M i).length==1)=true:=by kernel_rfl) (hi:M[i]?=some (bO M i,.cells (cO M i) (tO M i) (fO M i)):=by kernel_rfl) (hm:(own P c M i).length=ldM P (cop c):=by kernel_rfl):Go r m P Q n D w c:=
 zv (zB ho hx ht (by simpa using hg) (hS.cells i hi (by rw[hm];rfl))) h hc
def clV(c:Cf):Option (FuncId×Array Value):=match evL c.L (clF (cop c))with
 | .func (.func f) t cap=>bif t.isEmpty then some (f,(clA (cop c)).map (evL c.L)++cap)else none
 | _=>none
theorem zOi{f:FuncId}{vs:Array Value}(h:clV c=some (f,vs)):∃cap,evL c.L (clF (cop c))= .func (.func f) #[] cap∧(clA (cop c)).map (evL c.L)++cap=vs:=by
 unfold clV at h;split at h
 ·rename_i f' t cap he;cases ht:t.isEmpty<;>simp only[ht,cond_true,cond_false]at h<;>cases h;obtain rfl:t=#[]:=by simpa using ht
  exact⟨cap,he,rfl⟩
 ·cases h
theorem zc{f:FuncId}{vs:Array Value}{Φ:World→Value→Prop}(hS:St E w0 X w Y M)(hcon:Calls P f vs w (Ret E0 w Φ))
  (k:∀v w1,St E w0 X w1 Y M→Le (rd w Y) (rd w1 Y)→Upd E0 w w1→Φ w1 v→Go r m P Q n D w1 (nv c v))
  (hv:clV c=some (f,vs):=by kernel_rfl) (hc:isv n c=true:=by kernel_rfl) (ho:(cop c).op= .call {callee:= .value (clF (cop c)),args:=clA (cop c),argTypes:=clT (cop c)}:=by kernel_rfl)
  (hcall:∀w,(callFunc f vs).run P w= .ok (.enter f vs) w:=by intro w;kernel_rfl):Go r m P Q n D w c:=by
 obtain⟨cap,hf,ha⟩:=zOi hv;exact zZm (tC hc).1 fun _ hF=>kC hF (tC hc).2 hS ho hf ha hcall hcon fun v w1 h1 h2 h3 h4 a1 hF1=>(zVs c v▸k v w1 h1 h2 h3 h4:Go r m P Q n D w1 (nv0 c v)) a1 hF1
theorem zcE{f:FuncId}{vs:Array Value}{ob:Obj}{b:Nat}{Φ:World→Value→Prop}(i:Nat)(hS:St E w0 X w Y M)(hM:M[i]?=some (b,ob))(hcon:Calls P f vs w (Ret (·=b) w Φ))
  (k:∀v w1 ob',Φ w1 v→w1.heap[b]?=some ob'→St E w0 X w1 Y (M.set i (b,ob'))→Le (rd w Y) (rd w1 Y)→Go r m P Q n D w1 (nv c v))
  (hv:clV c=some (f,vs):=by kernel_rfl) (hc:isv n c=true:=by kernel_rfl) (ho:(cop c).op= .call {callee:= .value (clF (cop c)),args:=clA (cop c),argTypes:=clT (cop c)}:=by kernel_rfl)
  (hcall:∀w,(callFunc f vs).run P w= .ok (.enter f vs) w:=by intro w;kernel_rfl):Go r m P Q n D w c:=by
 obtain⟨cap,hf,ha⟩:=zOi hv;exact zZm (tC hc).1 fun _ hF=>zBn i hF (tC hc).2 hS ho hf ha hcall hM hcon fun v w1 ob' h1 h2 h3 h4 a1 hF1=>(zVs c v▸k v w1 ob' h1 h2 h3 h4:Go r m P Q n D w1 (nv0 c v)) a1 hF1
theorem zn(vf:Nat→Value)(ob:Obj)(hS:St E w0 X w Y M)(k:∀b w1 Y1,St E w0 X w1 Y1 ((b,ob)::M)→Le (rd w Y) (rd w1 Y1)→Upd E0 w w1→Go r m P Q n D w1 (nv c (vf b)))
  (hrun:∀w,(execOp (evL c.L) (cop c)).run P w= .ok (.value (vf w.heap.size)) (w.alloc ob):=by intro w;kernel_rfl) (hc:isv n c=true:=by kernel_rfl):Go r m P Q n D w c:=
 zZm (tC hc).1 fun _ hF=>mZ vf ob hF (tC hc).2 hS hrun fun b w1 Y1 h1 h2 h3 a1 hF1=>(zVs c (vf b)▸k b w1 Y1 h1 h2 h3:Go r m P Q n D w1 (nv0 c (vf b))) a1 hF1
def pn(b:Nat):Value:= .pointer (some ⟨b,0,none⟩)
def stT(o:Oper):TypeId:=match o.op with
 | .store t _ _=>t
 | _=>0
def stA(o:Oper):Operand:=match o.op with
 | .store _ x _=>x
 | _=> .tmp 0
def stV(o:Oper):Operand:=match o.op with
 | .store _ _ x=>x
 | _=> .tmp 0
def wr(c:Cf)(M:List (Nat×Obj))(i:Nat):Array Value:=yH (cO M i) (aL (evL c.L (stA (cop c)))) (evL c.L (stV (cop c))).cells.toList
def wrO:Obj→Array Value→Obj
 | .cells _ T _,c=> .cells c T (0,0)
 | o,_=>o
def wrM:List (Nat×Obj)→Nat→Array Value→List (Nat×Obj)
 | [],_,_=>[]
 | (b,o)::M,0,c=>(b,wrO o c)::M
 | p::M,i+1,c=>p::wrM M i c
theorem zNs{b:Nat}{c c':Array Value}{T:TypeId}{f:Nat×Nat}:∀{M:List (Nat×Obj)}{i:Nat},M[i]?=some (b,.cells c T f)→wrM M i c'=M.set i (b,.cells c' T (0,0))
 | [],i,h=>by simp at h
 | p::M,0,h=>by simp at h;subst h;rfl
 | p::M,i+1,h=>by
  rw[List.getElem?_cons_succ]at h;simp only[wrM,List.set_cons_succ];rw[zNs h]
def isst(n:Nat)(c:Cf):Bool:=zGj n c&&(cop c).dst.isNone
def zPl(P:Program)(t:TypeId):Bool:=match ldT P t with
 | some (g,_)=>g
 | none=>false
theorem zx(i:Nat)(c':Array Value)(hS:St E w0 X w Y M)(k:∀w1,St E w0 X w1 Y (wrM M i c')→Le (rd w Y) (rd w1 Y)→Go r m P Q n D w1 (n0 c))
  (hc:isst n c=true:=by kernel_rfl) (ho:(cop c).op= .store (stT (cop c)) (stA (cop c)) (stV (cop c)):=by kernel_rfl)
  (ha:evL c.L (stA (cop c))= .pointer (some ⟨bO M i,aL (evL c.L (stA (cop c))),none⟩):=by kernel_rfl)
  (ht:ldT P (stT (cop c))=some (zPl P (stT (cop c)),(evL c.L (stV (cop c))).cells.size):=by kernel_rfl) (h1:(evL c.L (stV (cop c))).cells.toList.all Value.oneCell'=true:=by kernel_rfl)
  (hM:M[i]?=some (bO M i,.cells (cO M i) (tO M i) (0,0)):=by kernel_rfl) (hle:Nat.ble (aL (evL c.L (stA (cop c)))+(evL c.L (stV (cop c))).cells.size) (cO M i).size=true:=by kernel_rfl) (hw:wr c M i=c':=by kernel_rfl):Go r m P Q n D w c:=by
 simp only[isst,Bool.and_eq_true]at hc;have J1:=hc.1;simp only[zGj,Bool.and_eq_true]at J1;exact zZm hc.1 fun _ hF=>zE i _ hF (by simp only[J1.2.2.2,hc.2,Bool.and_self]) hS ho ha rfl ht rfl h1 hM (Nat.le_of_ble_eq_true hle) hw rfl fun w1 h2 h3=>k w1 (by rw[zNs hM];exact h2) h3 _ hF
end
def bd(fn:Func):Code:=fn.body.getD .skip
section
variable {P:Program}{n:Nat}{D:List Deferred}{w:World}{c:Cf}{E:Nat→Prop}{w0:World}{X Y:Hid}{M:List (Nat×Obj)}
theorem zen{f:FuncId}{args:Array Value}{R:Ending→World→Prop}{fn:Func}(hf:P.funcs[f]?=some fn)(h:Go none 0 P (bodyPost P fn R) fn.ntmps [] w ⟨.code (bd fn),[],zEc 0 args.toList⟩)(hb:fn.body=some (bd fn):=by rfl)(hle:Nat.ble args.toList.length fn.ntmps=true:=by kernel_rfl):Calls P f args w R:=
 zFb hf hb rfl rfl hle fun a hF=>h a hF
def zTm(fn:Func)(L:List (Nat×Value)):List ResultVar→Option (List Value)
 | []=>some []
 | .tmp t::rs=>bif has L t then(match zTm fn L rs with
  | some vs=>some (tY L t::vs)
  | none=>none)else none
 | _=>none
theorem zDq{fn:Func}{L:List (Nat×Value)}:∀{rs:List ResultVar}{vs:List Value},zTm fn L rs=some vs→Res P L w rs vs
 | [],vs,h=>by cases h;exact .nil
 | .tmp t::rs,vs,h=>by
  unfold zTm at h;cases hh:has L t<;>simp only[hh,cond_true,cond_false]at h
  ·cases h
  cases hr:zTm fn L rs<;>simp only[hr]at h<;>cases h;exact .tmp hh (zDq hr)
 | .cell .. ::rs,vs,h=>by simp[zTm]at h
def fin(c:Cf):Bool:=(match c.cu with
 | .ex .ret=>true
 | .ex .normal=>true
 | _=>false)&&c.k.isEmpty
def resP(fn:Func)(c:Cf):Option Value:=bif fin c then(match zTm fn c.L fn.results.toList with
 | some vs=>some (zBs vs)
 | none=>none)else none
theorem zr'{fn:Func}{R:Ending→World→Prop}{v:Value}(hR:R (.returned v) w)(hv:resP fn c=some v:=by kernel_rfl):Go none 0 P (bodyPost P fn R) n [] w c:=by
 intro a hF;unfold resP at hv;cases hf:fin c<;>simp only[hf,cond_true,cond_false]at hv
 ·cases hv
 cases hr:zTm fn c.L fn.results.toList<;>simp only[hr]at hv<;>cases hv;rename_i vs;simp only[fin,Bool.and_eq_true]at hf;obtain⟨cu,k,L⟩:=c;match cu,k,hf with
 | .ex .ret,[],_=>exact zUl hF (by simp) (zDq hr) rfl hR
 | .ex .normal,[],_=>exact zOe hF (by simp) (zDq hr) rfl hR
end
def zEs:List (Act→World→Prop)→Code→List Nat→List Fm→Code×List Fm
 | _,c,[],k=>(c,k)
 | K::Ks,.seq x _,9::p,k=>zEs Ks x p (.kk K::k)
 | Ks,.seq x y,0::p,k=>zEs Ks x p (.seq y::k)
 | Ks,.seq _ y,_::p,k=>zEs Ks y p k
 | Ks,.block id x,_::p,k=>zEs Ks x p (.blk id::k)
 | Ks,.scope x,_::p,k=>zEs Ks x p (.scp::k)
 | Ks,.cond _ x _,0::p,k=>zEs Ks x p k
 | Ks,.cond _ _ y,_::p,k=>zEs Ks y p k
 | K::Ks,.loop x,_::p,k=>zEs Ks x p (.kk K::k)
 | Ks,.rangeFunc _ _ x _,0::p,_=>zEs Ks x p []
 | Ks,.rangeFunc _ _ _ x,_::p,_=>zEs Ks x p []
 | _,c,_,k=>(c,k)
def zJu:Code→Code
 | .loop x=>x
 | c=>c
section
variable {r:Option Nat}{m:Nat}{P:Program}{Q:Exit→Act→World→Prop}{n:Nat}{D:List Deferred}{w:World}{c:Cf}
theorem jDa{γ:Type}{x:Code}{k:List Fm}(LL:γ→List (Nat×Value))(I:γ→World→Prop)(μ:γ→Nat)(g0:γ)(h0:I g0 w)
  (round:∀g w1 K,(∀g2 w2 a2,Fr n a2 (LL g2) D→I g2 w2→μ g2<μ g→K a2 w2)→I g w1→Go r m P Q n D w1 ⟨.code (zJu x),.kk K::k,LL g⟩)
  (hx:c.cu= .code x:=by kernel_rfl) (hl:x= .loop (zJu x):=by kernel_rfl) (hk:c.k=k:=by kernel_rfl) (hs:bU c.L ((LL g0).map (·.1))=true:=by kernel_rfl) (he:keep c.L ((LL g0).map (·.1))=LL g0:=by kernel_rfl):Go r m P Q n D w c:=by
 intro a hF;rw[hx,hl,hk];refine gK (fun g a w=>Fr n a (LL g) D∧I g w) μ g0 ⟨hF.as _ hs he,h0⟩ ?_;rintro g a1 w1 ⟨hF1,h1⟩;exact round g w1 (fun a' w'=>∃g',(Fr n a' (LL g') D∧I g' w')∧μ g'<μ g) (fun g2 w2 a2 h2 h3 h4=>⟨g2,⟨h2,h3⟩,h4⟩) h1 a1 hF1
theorem mP{K:Act→World→Prop}{L:List (Nat×Value)}(hK:∀a2,Fr n a2 L D→K a2 w)(hx:c.cu= .ex .normal:=by kernel_rfl)(hk:c.k= .kk K::c.k.tail:=by kernel_rfl)(hs:bU c.L (L.map (·.1))=true:=by kernel_rfl)(hl:keep c.L (L.map (·.1))=L:=by kernel_rfl):Go r m P Q n D w c:=by
 intro a hF;rw[hx,hk];exact hK a (hF.as _ hs hl)
end
section
variable {r:Option Nat}{m:Nat}{P:Program}{Q:Exit→Act→World→Prop}{n:Nat}{D:List Deferred}{w:World}{c:Cf}{a:Act}{E:Nat→Prop}{w0:World}{X Y:Hid}{M:List (Nat×Obj)}
def zZc:Code→Array Oper
 | .region _ o _=>o
 | _=>#[]
def opN(ops:Array Oper)(j:Nat):Oper:=(ops[j]?).getD default
theorem zop(x:Code)(j:Nat)(h:∀(a:Act)(K:Act→World→Prop),Fr n a c.L D→(∀{L':List (Nat×Value)}{w':World}{a':Act},Fr n a' L' D→Go r m P Q n D w' ⟨.ops (zZc x) ((zZc x).toList.drop (j+1)),c.k,L'⟩→K a' w')→(opN (zZc x) j).wp P a w K (QQ r m P Q c.k))
  (hx:c.cu= .ops (zZc x) (opN (zZc x) j::(zZc x).toList.drop (j+1)):=by kernel_rfl) (hc:zGj n c=true:=by kernel_rfl):Go r m P Q n D w c:=by
 refine zZm hc ?_;obtain⟨cu,k,L⟩:=c;simp only at hx;subst hx;exact fun a hF=>h a _ hF fun hF' hg=>hg _ hF'
def idX(o:Oper):Operand:=match o.op with
 | .indexAddr _ x _=>x
 | _=> .tmp 0
def idI(o:Oper):Operand:=match o.op with
 | .indexAddr _ _ x=>x
 | _=> .tmp 0
def idT(o:Oper):TypeId:=match o.op with
 | .indexAddr t _ _=>t
 | _=>0
def idE(P:Program)(t:TypeId):TypeId:=match P.underlying t with
 | some (.slice e)=>e
 | _=>0
def ldS(P:Program)(t:TypeId):Nat:=match ldT P t with
 | some (_,m)=>m
 | none=>0
theorem zi{b off len cap:Nat}{kd:IntKind}{i:Int}(m' off':Nat)(h:Go r m P Q n D w (nv c (.pointer (some ⟨b,off',none⟩))))(h0:0≤i:=by omega)(h1:i<len:=by omega)
  (hoff:off+i.toNat*m'=off':=by first | rfl | omega | (simp;done) | (simp;omega)) (hm:ldS P (idE P (idT (cop c)))=m':=by kernel_rfl) (hx:evL c.L (idX (cop c))= .slice (some ⟨b,off,none⟩) len cap:=by kernel_rfl) (hi:evL c.L (idI (cop c))= .int kd i:=by kernel_rfl) (hc:isv n c=true:=by kernel_rfl)
  (ho:(cop c).op= .indexAddr (idT (cop c)) (idX (cop c)) (idI (cop c)):=by kernel_rfl) (ht:P.underlying (idT (cop c))=some (.slice (idE P (idT (cop c)))):=by kernel_rfl)
  (he:ldT P (idE P (idT (cop c)))=some (zPl P (idE P (idT (cop c))),ldS P (idE P (idT (cop c)))):=by kernel_rfl):Go r m P Q n D w c:=
 zv (jH ho ht hx hi he h0 h1 (by rw[hm];exact hoff) w) h hc
theorem zrR{w:World}{fn:Func}{R:Ending→World→Prop}{rs:List ResultVar}{vs:List Value}{v:Value}(h:Res P c.L w rs vs)(hR:R (.returned v) w)(hr:fn.results=rs.toArray:=by kernel_rfl)(hv:zBs vs=v:=by kernel_rfl)(hf:fin c=true:=by kernel_rfl):Go none 0 P (bodyPost P fn R) n [] w c:=by
 intro a hF;simp only[fin,Bool.and_eq_true]at hf;obtain⟨cu,k,L⟩:=c;match cu,k,hf with
 | .ex .ret,[],_=>exact zUl hF hr h hv hR
 | .ex .normal,[],_=>exact zOe hF hr h hv hR
abbrev at1(Ks:List (Act→World→Prop))(f:Func)(p:List Nat):Code:=(zEs Ks (bd f) p []).1
abbrev at2(Ks:List (Act→World→Prop))(f:Func)(p:List Nat):List Fm:=(zEs Ks (bd f) p []).2
theorem zlp{γ:Type}(f:Func)(Ks:List (Act→World→Prop))(p:List Nat)(LL:γ→List (Nat×Value))(I:γ→World→Prop)(μ:γ→Nat)(g0:γ)(h0:I g0 w)
  (round:∀g w1 K,(∀g2 w2 a2,Fr n a2 (LL g2) D→I g2 w2→μ g2<μ g→K a2 w2)→I g w1→Go r m P Q n D w1 ⟨.code (zJu (at1 Ks f p)),.kk K::at2 Ks f p,LL g⟩)
  (hx:c.cu= .code (at1 Ks f p):=by kernel_rfl) (hl:at1 Ks f p= .loop (zJu (at1 Ks f p)):=by kernel_rfl) (hk:c.k=at2 Ks f p:=by kernel_rfl) (hs:bU c.L ((LL g0).map (·.1))=true:=by kernel_rfl) (he:keep c.L ((LL g0).map (·.1))=LL g0:=by kernel_rfl):Go r m P Q n D w c:=
 jDa LL I μ g0 h0 round hx hl hk hs he
def cuC(c:Cf):Code:=match c.cu with
 | .code x=>x
 | _=> .skip
theorem zUc(h:Go r m P Q n D w ⟨.code (zJu (cuC c)),.kk (fun _ _=>False)::c.k,c.L⟩)(hx:c.cu= .code (cuC c):=by kernel_rfl)(hl:cuC c= .loop (zJu (cuC c)):=by kernel_rfl):Go r m P Q n D w c:=by
 intro a hF;rw[hx,hl];refine gK (fun(_:Unit)a' w'=>a'=a∧w'=w) (fun _=>0) () ⟨rfl,rfl⟩ (by
  rintro _ a' w' ⟨rfl,rfl⟩;exact wpIn_mono (h a' hF) fun e a w h=>by cases e<;>first | exact h.elim | exact h)
end
end Go.Gv

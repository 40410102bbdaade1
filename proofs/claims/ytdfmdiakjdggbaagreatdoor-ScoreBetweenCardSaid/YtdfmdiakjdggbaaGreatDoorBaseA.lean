import Derived.WalkKit
import Derived.KernelRfl
import Derived.OrdersHeld
import Derived.Deep.RegionHeld3
import Derived.TacticsIn
import Derived.RangeFuncOwn
import Derived.RangeFuncLeaves
import Derived.RangeFuncCalls
import Derived.Scope
import Derived.ProofKit
import Derived.SizedLaws
set_option linter.unusedVariables false
set_option linter.unusedSimpArgs false
set_option linter.unnecessarySimpa false
namespace Go
theorem za {α : Type _} (a b : α) : (some a = some b) = (a = b) := Option.some.injEq a b
theorem zd (a b : Bool) : ((a && b) = true) = (a = true ∧ b = true) := Bool.and_eq_true a b
theorem ze {α : Sort _} {a b : α} : cond true a b = a := rfl
theorem zf {α : Sort _} {a b : α} : cond false a b = b := rfl
theorem zg {α : Type _} {l : List α} {i : Nat} {a : α} : l[i]? = some a ↔ ∃ h : i < l.length, l[i] = a := List.getElem?_eq_some_iff
theorem zh {α : Type _} {l : List α} {i : Nat} {a : α} : l.getD i a = l[i]?.getD a := List.getD_eq_getElem?_getD
end Go
namespace Go.Gv
open Go.RowKit IntKind
theorem kr{p:Prop}(h:p:=by kernel_rfl):p:=h
theorem kw{α:Type}{p:α→Prop}(h:∀w,p w:=by intro w;kernel_rfl):∀w,p w:=h
theorem ir{p:Prop}(h:p:=by first | exact .inl rfl | exact .inr rfl):p:=h
def sI:List (Nat×Value)→Nat→Value
 | [],_=>undef
 | (k,v)::l,t=>bif Nat.beq k t then v else sI l t
def has:List (Nat×Value)→Nat→Bool
 | [],_=>false
 | (k,_)::l,t=>bif Nat.beq k t then true else has l t
structure Fr(n:Nat)(a:Act)(L:List (Nat×Value))(D:List Deferred:=[]):Prop where
 size:a.tmps.size=n
 defers:a.defers=D
 get:∀t,has L t=true→a.tmps[t]?=some (sI L t)
def evL(L:List (Nat×Value)):Operand→Value
 | .tmp t=>sI L t
 | .const v=>v
 | .global g=> .pointer (some ⟨g,0,none⟩)
 | .func f=> .func (.func f) #[] #[]
def cov(L:List (Nat×Value)):Operand→Bool
 | .tmp t=>has L t
 | _=>true
def zMa(L:List (Nat×Value)):List Operand→Bool
 | []=>true
 | x::xs=>cov L x&&zMa L xs
theorem fD{L:List (Nat×Value)}:∀{xs:List Operand},zMa L xs=true→∀x∈xs,cov L x=true
 | [],_,x,h=>by cases h
 | y::ys,f,x,h=>by
  simp only[zMa,zd]at f;rcases List.mem_cons.1 h with rfl | h
  ·exact f.1
  ·exact fD f.2 x h
theorem Fr.getD{n:Nat}{a:Act}{L:List (Nat×Value)}{D:List Deferred}(h:Fr n a L D){t:Nat}(ht:has L t=true):a.tmps.getD t undef=sI L t:=by
 have:=h.get t ht;simp[this]
theorem Fr.eval{n:Nat}{a:Act}{L:List (Nat×Value)}{D:List Deferred}(h:Fr n a L D){x:Operand}(f:cov L x=true):a.eval x=evL L x:=by
 cases x with
 | tmp t=>exact h.getD f
 | _=>rfl
theorem Fr.put{n:Nat}{a:Act}{L:List (Nat×Value)}{D:List Deferred}(h:Fr n a L D){d:Nat}(hd:d<n)(v:Value):Fr n (a.put (some d) v) ((d,v)::L) D:=by
 refine⟨by simpa[Act.put]using h.size,h.defers,fun t ht=>?_⟩
 simp only[Act.put,sI,has]at *;by_cases e:d=t
 ·subst e;have hlt:d<a.tmps.size:=by rw[h.size];exact hd
  simp[hlt]
 ·have hb:Nat.beq d t=false:=by
   cases hb:Nat.beq d t
   ·rfl
   ·exact absurd (Nat.eq_of_beq_eq_true hb) e
  rw[hb]at ht ⊢;simp only[zf]at ht ⊢;rw[Array.getElem?_setIfInBounds_ne e];exact h.get t ht
def keep(L:List (Nat×Value)):List Nat→List (Nat×Value)
 | []=>[]
 | t::ts=>(t,sI L t)::keep L ts
def aJ(L:List (Nat×Value)):List Nat→Bool
 | []=>true
 | t::ts=>has L t&&aJ L ts
theorem Fr.keep{n:Nat}{a:Act}{L:List (Nat×Value)}{D:List Deferred}(h:Fr n a L D):∀(ts:List Nat),aJ L ts=true→Fr n a (keep L ts) D
 | [],_=>⟨h.size,h.defers,fun t ht=>by cases ht⟩
 | s::ts,hs=>by
  simp only[aJ,zd]at hs;have f:=h.keep ts hs.2;refine⟨h.size,h.defers,fun t ht=>?_⟩;simp only[Gv.keep,sI,has]at *;cases hb:Nat.beq s t with
  | true=>
   have:=Nat.eq_of_beq_eq_true hb;subst this;simpa using h.get s hs.1
  | false=>
   rw[hb]at ht;simpa using f.get t (by simpa using ht)
theorem Fr.as{n:Nat}{a:Act}{L:List (Nat×Value)}{D:List Deferred}(h:Fr n a L D)(ts:List Nat){f:List (Nat×Value)}(hs:aJ L ts=true)(e:Gv.keep L ts=f):Fr n a f D:=e▸h.keep ts hs
def zPz:Op→Bool
 | .select .. =>false
 | _=>true
theorem lK{o:Op}(h:zPz o=true):∀cs b,o≠.select cs b:=fun cs b e=>by rw[e]at h;cases h
def nM(L:List (Nat×Value))(o:Oper):Bool:=zPz o.op&&zMa L o.op.operands.toList
theorem Fr.exec{n:Nat}{a:Act}{L:List (Nat×Value)}{D:List Deferred}(h:Fr n a L D){o:Oper}(f:nM L o=true):execOp a.eval o=execOp (evL L) o:=by
 simp only[nM,zd]at f;exact execOp_congr o (lK f.1) fun x j=>h.eval (fD f.2 x (by simpa using j))
def yY(ops:Array Oper)(L:List (Nat×Value))(o:Oper)(want:Bool):Bool:=
 match o.guard with
 | none=>want
 | some (j,b)=>match(ops[j]?).bind (·.dst)with
  | some t=>has L t&&(match sI L t with | .bool c=>(c==b)==want | .tuple _=>!want | _=>false)
  | none=>false
theorem Fr.wanted{n:Nat}{a:Act}{L:List (Nat×Value)}{D:List Deferred}(h:Fr n a L D){ops:Array Oper}{o:Oper}{want:Bool}(C:yY ops L o want=true):Region.wanted o (yielded ops a.tmps)=want:=by
 unfold yY at C;unfold Region.wanted;cases G:o.guard with
 | none=>simp only[G]at C;simp[C]
 | some p=>
  obtain⟨j,b⟩:=p;simp only[G]at C;cases hd:(ops[j]?).bind (·.dst)with
  | none=>simp[hd]at C
  | some t=>
   simp only[hd,zd]at C;have hget:=h.get t C.1;have f:=C.2;simp only[yielded,hd,Option.bind_some,hget];split at f
   ·rename_i c F;rw[F];simp only[beq_iff_eq]at f ⊢;cases c<;>cases b<;>cases want<;>simp_all
   ·rename_i F;rw[F];simpa using f
   ·cases f
def bY(o:Oper)(d n:Nat):Bool:=(match o.dst with | some t=>Nat.beq t d | none=>false)&&Nat.blt d n
theorem qH{o:Oper}{d n:Nat}(h:bY o d n=true):o.dst=some d∧d<n:=by
 simp only[bY,zd]at h;obtain⟨f,j⟩:=h;refine⟨?_,by simpa[Nat.blt_eq]using j⟩
 cases hd:o.dst with
 | none=>rw[hd]at f;cases f
 | some t=>rw[hd]at f;exact congrArg some (Nat.eq_of_beq_eq_true f)
def chk(ops:Array Oper)(L:List (Nat×Value))(o:Oper)(d n:Nat):Bool:=yY ops L o true&&(nM L o&&bY o d n)
section
variable {P:Program}{ops:Array Oper}{Q:Exit→Act→World→Prop}{a:Act}{w:World}{rest:List Oper}{o:Oper}{n d:Nat}{L:List (Nat×Value)}{D:List Deferred}
end
abbrev Hid:=Nat→Nat→Prop
abbrev Rd:=Addr→Option Value
open Classical in
noncomputable def rd(w:World)(Y:Hid):Rd:=fun a=>if Y a.block a.off∨w.frozen? a=true then none else w.cell? a
def Le(r r':Rd):Prop:=∀a v,r a=some v→r' a=some v
theorem Le.refl(r:Rd):Le r r:=fun _ _ h=>h
theorem Le.trans{r s t:Rd}(h:Le r s)(k:Le s t):Le r t:=fun a v e=>k a v (h a v e)
theorem Le2{r0 f j:Rd}(C:Le r0 f)(a1:Le f j):Le r0 j:=C.trans a1
theorem Le3{r0 f j C:Rd}(F:Le r0 f)(a1:Le f j)(a2:Le j C):Le r0 C:=(Le2 F a1).trans a2
theorem Le4{r0 f j C F:Rd}(G:Le r0 f)(a1:Le f j)(a2:Le j C)(a3:Le C F):Le r0 F:=(Le3 G a1 a2).trans a3
theorem Le5{r0 f j C F G:Rd}(I:Le r0 f)(a1:Le f j)(a2:Le j C)(a3:Le C F)(J:Le F G):Le r0 G:=(Le4 I a1 a2 a3).trans J
theorem Le6{r0 f j C F G I:Rd}(J:Le r0 f)(a1:Le f j)(a2:Le j C)(a3:Le C F)(N:Le F G)(O:Le G I):Le r0 I:=(Le5 J a1 a2 a3 N).trans O
theorem Le7{r0 f j C F G I J:Rd}(N:Le r0 f)(a1:Le f j)(a2:Le j C)(a3:Le C F)(O:Le F G)(R:Le G I)(U:Le I J):Le r0 J:=(Le6 N a1 a2 a3 O R).trans U
theorem Le8{r0 f j C F G I J N:Rd}(O:Le r0 f)(a1:Le f j)(a2:Le j C)(a3:Le C F)(R:Le F G)(U:Le G I)(V:Le I J)(W:Le J N):Le r0 N:=(Le7 O a1 a2 a3 R U V).trans W
theorem Le9{r0 f j C F G I J N O:Rd}(R:Le r0 f)(a1:Le f j)(a2:Le j C)(a3:Le C F)(U:Le F G)(V:Le G I)(W:Le I J)(Z:Le J N)(a8:Le N O):Le r0 O:=(Le8 R a1 a2 a3 U V W Z).trans a8
theorem Le10{r0 j C F G I J N O R f:Rd}(U:Le r0 j)(a1:Le j C)(a2:Le C F)(a3:Le F G)(V:Le G I)(W:Le I J)(Z:Le J N)(a7:Le N O)(a8:Le O R)(a9:Le R f):Le r0 f:=(Le9 U a1 a2 a3 V W Z a7 a8).trans a9
theorem qJa{r0 F G I J N O R U V f j:Rd}(W:Le r0 F)(a1:Le F G)(a2:Le G I)(a3:Le I J)(Z:Le J N)(a5:Le N O)(a6:Le O R)(a7:Le R U)(a8:Le U V)(a9:Le V f)(C:Le f j):Le r0 j:=(Le10 W a1 a2 a3 Z a5 a6 a7 a8 a9).trans C
theorem qSd{r0 I J N O R U V W Z f j C:Rd}(a0:Le r0 I)(a1:Le I J)(a2:Le J N)(a3:Le N O)(a4:Le O R)(a5:Le R U)(a6:Le U V)(a7:Le V W)(a8:Le W Z)(a9:Le Z f)(F:Le f j)(G:Le j C):Le r0 C:=(qJa a0 a1 a2 a3 a4 a5 a6 a7 a8 a9 F).trans G
theorem Le13{r0 J N O R U V W Z r9 f j C F:Rd}(a0:Le r0 J)(a1:Le J N)(a2:Le N O)(a3:Le O R)(a4:Le R U)(a5:Le U V)(a6:Le V W)(a7:Le W Z)(a8:Le Z r9)(a9:Le r9 f)(G:Le f j)(I:Le j C)(a12:Le C F):Le r0 F:=(qSd a0 a1 a2 a3 a4 a5 a6 a7 a8 a9 G I).trans a12
theorem yK{w:World}{Y:Hid}{a:Addr}{v:Value}(h:rd w Y a=some v):w.cell? a=some v:=by
 unfold rd at h;split at h
 ·cases h
 ·exact h
theorem tC{w:World}{Y:Hid}{a:Addr}{v:Value}(h:rd w Y a=some v):¬Y a.block a.off:=by
 unfold rd at h;split at h
 ·cases h
 ·rename_i f;exact fun e=>f (.inl e)
theorem aS{w:World}{Y:Hid}{a:Addr}{v:Value}(h:rd w Y a=some v):w.frozen? a=false:=by
 unfold rd at h;split at h
 ·cases h
 ·rename_i f;cases j:w.frozen? a
  ·rfl
  ·exact absurd (.inr j) f
theorem rX{w:World}{Y:Hid}{a:Addr}{v:Value}(h:w.cell? a=some v)(j:¬Y a.block a.off)(f:w.frozen? a=false):rd w Y a=some v:=by
 unfold rd;rw[if_neg (fun e=>e.elim j fun e=>by rw[f]at e;cases e)];exact h
theorem zFx{w w':World}{Y f:Hid}{a:Addr}{v:Value}(h:rd w Y a=some v)(hb:w'.heap[a.block]?=w.heap[a.block]?)(j:¬f a.block a.off):rd w' f a=some v:=
 rX (by rw[←yK h];simp[World.cell?,hb]) j ((World.frozen?_of_block hb).trans (aS h))
theorem Le.unhide{w:World}{Y f:Hid}(h:∀k o,f k o→Y k o):Le (rd w Y) (rd w f):=fun _ _ e=>rX (yK e) (fun j=>tC e (h _ _ j)) (aS e)
def orN(Y:Hid)(N:Nat):Hid:=fun k o=>Y k o∨k<N
def old(w:World):Hid:=fun k _=>k<w.heap.size
def At(r:Rd)(a:Addr)(vs:List Value):Prop:=∀j v,vs[j]?=some v→r (a.add j)=some v
theorem At.mono{r r':Rd}(h:Le r r'){a:Addr}{vs:List Value}(k:At r a vs):At r' a vs:=fun j v e=>h _ _ (k j v e)
def jE(w:World)(a:Addr)(vs:List Value):Prop:=∀j v,vs[j]?=some v→w.cell? (a.add j)=some v
theorem At.cells{w:World}{Y:Hid}{a:Addr}{vs:List Value}(k:At (rd w Y) a vs):jE w a vs:=fun j v e=>yK (k j v e)
theorem jO(b o j:Nat):(⟨b,o,none⟩:Addr).add j=⟨b,o+j,none⟩:=by
 unfold Addr.add;split
 ·subst_vars;simp
 ·rfl
theorem add_zero(a:Addr):a.add 0=a:=by simp[Addr.add]
theorem Le.or{w w1:World}{Y C:Hid}(h:Le (rd w Y) (rd w1 C))(N:Nat):Le (rd w (orN Y N)) (rd w1 (orN C N)):=fun a v e=>by
 have j:=h a v (rX (yK e) (fun f=>tC e (.inl f)) (aS e));exact rX (yK j) (fun f=>f.elim (tC j) fun f=>tC e (.inr f)) (aS j)
theorem Le.orr{w:World}{Y:Hid}{N:Nat}:Le (rd w (orN Y N)) (rd w (fun k _=>k<N)):=Le.unhide fun _ _ h=> .inr h
theorem Le.new{w w1:World}{Y:Hid}(hlt:∀k o,Y k o→k<w.heap.size):Le (rd w1 (old w)) (rd w1 Y):=Le.unhide hlt
theorem Le.newN{w w1:World}{Y:Hid}{N:Nat}(hlt:∀k o,Y k o→k<w.heap.size)(hs:N≤w.heap.size):Le (rd w1 (old w)) (rd w1 (orN Y N)):=Le.unhide fun k o h=>h.elim (hlt k o) fun h=>Nat.lt_of_lt_of_le h hs
theorem Le.own{w w1 C:World}{f j:Hid}{N:Nat}(hlt:∀k o,f k o→k<w.heap.size)(hs:N≤w.heap.size)(h:Le (rd w1 f) (rd C j)):Le (rd w1 (old w)) (rd C (orN j N)):=(Le.newN hlt hs).trans (h.or N)
structure Upd(E:Nat→Prop)(w w':World):Prop where
 os:w'.os=w.os
 tape:w'.tape=w.tape
 output:w'.output=w.output
 size:w.heap.size≤w'.heap.size
 block:∀k,k<w.heap.size→¬E k→w'.heap[k]?=w.heap[k]?
def E0:Nat→Prop:=fun _=>False
theorem Upd.refl(E:Nat→Prop)(w:World):Upd E w w:=⟨rfl,rfl,rfl,Nat.le_refl _,fun _ _ _=>rfl⟩
theorem Upd.trans{E:Nat→Prop}{a b c:World}(h:Upd E a b)(k:Upd E b c):Upd E a c:=
 ⟨k.os.trans h.os,k.tape.trans h.tape,k.output.trans h.output,Nat.le_trans h.size k.size,fun i j f=>(k.block i (Nat.lt_of_lt_of_le j h.size) f).trans (h.block i j f)⟩
theorem Upd.weaken{E f:Nat→Prop}{a b:World}(h:Upd E a b)(C:∀k,k<a.heap.size→E k→f k):Upd f a b:=
 ⟨h.os,h.tape,h.output,h.size,fun k j F=>h.block k j fun e=>F (C k j e)⟩
theorem Upd.below{w w':World}(h:Upd E0 w w'):Below w.heap.size w w':=⟨h.os,h.tape,h.output,h.size,fun k f=>h.block k f (fun e=>e)⟩
theorem Upd.of_below{w w':World}(h:Below w.heap.size w w'):Upd E0 w w':=⟨h.os,h.tape,h.output,h.size,fun k f _=>h.block k f⟩
theorem Upd.alloc(w:World)(o:Obj):Upd E0 w (w.alloc o):=⟨rfl,rfl,rfl,by simp,fun k f _=>Below.heap_alloc w o k f⟩
theorem Upd.drew(w:World):Upd E0 w w.drew:=⟨rfl,rfl,rfl,Nat.le_refl _,fun _ _ _=>rfl⟩
theorem Upd.le{w w':World}(h:Upd E0 w w')(Y:Hid):Le (rd w Y) (rd w' Y):=fun a _ e=>zFx e (h.block a.block (World.block_lt_of_cell? w a (yK e)) (fun e=>e)) (tC e)
structure St(E:Nat→Prop)(w0:World)(X:Hid)(w:World)(Y:Hid)(M:List (Nat×Obj)):Prop where
 upd:Upd E w0 w
 lt:∀k o,Y k o→k<w.heap.size
 hid:∀k o,X k o→Y k o
 own:∀p∈M,w.heap[p.1]?=some p.2∧(w0.heap.size≤p.1∨E p.1)∧∀o,Y p.1 o
 nd:(M.map (·.1)).Nodup
 ltX:∀k o,X k o→k<w0.heap.size
section
variable {E:Nat→Prop}{w0 w w':World}{X Y:Hid}{M:List (Nat×Obj)}
theorem St.start{w:World}{X:Hid}(f:∀k o,X k o→k<w.heap.size):St E0 w X w X []:=
 ⟨Upd.refl _ _,f,fun _ _ h=>h,fun p hp=>(by cases hp),by simp,f⟩
theorem St.startE{w:World}{X:Hid}(b:Nat)(o:Obj)(j:∀k o,X k o→k<w.heap.size)(hb:w.heap[b]?=some o)(f:∀o,X b o):St (·=b) w X w X [(b,o)]:=
 ⟨Upd.refl _ _,j,fun _ _ h=>h,fun p hp=>(by
  rcases List.mem_singleton.1 hp with rfl
  exact⟨hb,.inr rfl,f⟩),by simp,j⟩
theorem St.le(h:St E w0 X w Y M):Le (rd w Y) (rd w X):=Le.unhide h.hid
theorem St.get(h:St E w0 X w Y M)(i:Nat){b:Nat}{o:Obj}(f:M[i]?=some (b,o)):w.heap[b]?=some o:=(h.own (b,o) (List.mem_of_getElem? f)).1
theorem St.tail{p:Nat×Obj}(h:St E w0 X w Y (p::M)):St E w0 X w Y M:=
 ⟨h.upd,h.lt,h.hid,fun q f=>h.own q (List.mem_cons_of_mem _ f),(List.nodup_cons.1 (by simpa using h.nd)).2,h.ltX⟩
theorem St.swap{p q:Nat×Obj}(h:St E w0 X w Y (p::q::M)):St E w0 X w Y (q::p::M):=
 ⟨h.upd,h.lt,h.hid,fun x f=>h.own x (by simp at f ⊢;rcases f with h | h | h<;>simp[h]),by
  have:=h.nd;simp only[List.map_cons,List.nodup_cons,List.mem_cons,not_or]at this ⊢;exact⟨⟨fun e=>this.1.1 e.symm,this.2.1⟩,this.1.2,this.2.2⟩,h.ltX⟩
theorem St.call(h:St E w0 X w Y M)(k:Upd E0 w w'):St E w0 X w' Y M:=
 ⟨h.upd.trans (k.weaken fun _ _ e=>e.elim),fun b o F=>Nat.lt_of_lt_of_le (h.lt b o F) k.size,h.hid,fun p hp=>by
  obtain⟨f,j,C⟩:=h.own p hp;exact⟨(k.block p.1 (Array.getElem?_eq_some_iff.1 f).1 (fun e=>e)).trans f,j,C⟩,h.nd,h.ltX⟩
def zAt(b:Nat)(Y:Hid):Hid:=fun k o=>k=b∨Y k o
theorem Le.hide_new{w:World}{Y:Hid}(o:Obj):Le (rd w Y) (rd (w.alloc o) (zAt w.heap.size Y)):=fun a v e=>by
 have f:=yK e;have hlt:=World.block_lt_of_cell? w a f;refine zFx e (Below.heap_alloc w o a.block hlt) ?_;rintro(h | h)
 ·omega
 ·exact tC e h
theorem St.alloc(h:St E w0 X w Y M)(o:Obj):St E w0 X (w.alloc o) (zAt w.heap.size Y) ((w.heap.size,o)::M):=
 ⟨h.upd.trans ((Upd.alloc w o).weaken fun _ _ e=>e.elim),fun b j f=>by
   rcases f with rfl | f
   ·simp
   ·have:=h.lt b j f;simp;omega,
  fun k j I=> .inr (h.hid k j I),fun p hp=>by
   rcases List.mem_cons.1 hp with rfl | hp
   ·exact⟨heap_alloc_new w o,.inl h.upd.size,fun _=> .inl rfl⟩
   ·obtain⟨C,F,G⟩:=h.own p hp;exact⟨(Below.heap_alloc w o p.1 (Array.getElem?_eq_some_iff.1 C).1).trans C,F,fun j=> .inr (G j)⟩,
  by
   simp only[List.map_cons,List.nodup_cons,h.nd,and_true,List.mem_map,not_exists,not_and];intro p hp e;have:=(Array.getElem?_eq_some_iff.1 (h.own p hp).1).1;omega,h.ltX⟩
theorem zDe{l:List Nat}(h:l.Nodup){i j:Nat}{x:Nat}(F:l[i]?=some x)(I:l[j]?=some x):i=j:=by
 obtain⟨G,f⟩:=List.getElem?_eq_some_iff.1 F;obtain⟨J,C⟩:=List.getElem?_eq_some_iff.1 I;exact(List.getElem_inj h).1 (f.trans C.symm)
theorem St.set(h:St E w0 X w Y M)(i:Nat){b:Nat}{o:Obj}(o':Obj)(N:M[i]?=some (b,o))(hs:w.heap.size≤w'.heap.size)(R:w'.os=w.os)(ht:w'.tape=w.tape)(J:w'.output=w.output)
  (hb:w'.heap[b]?=some o') (W:∀k,k<w.heap.size→k≠b→w'.heap[k]?=w.heap[k]?):St E w0 X w' Y (M.set i (b,o')):=by
 have I:=List.mem_of_getElem? N;obtain⟨g1,F,g3⟩:=h.own _ I;have hlt:i<M.length:=(List.getElem?_eq_some_iff.1 N).1;refine⟨⟨R.trans h.upd.os,ht.trans h.upd.tape,J.trans h.upd.output,Nat.le_trans h.upd.size hs,fun k hlt C=>?_⟩,
  fun k o hy=>Nat.lt_of_lt_of_le (h.lt k o hy) hs,h.hid,fun p hp=>?_,?_,h.ltX⟩
 ·have O:k≠b:=by
   rintro rfl;rcases F with F | F
   ·exact absurd hlt (Nat.not_lt.2 F)
   ·exact C F
  exact(W k (Nat.lt_of_lt_of_le hlt h.upd.size) O).trans (h.upd.block k hlt C)
 ·obtain⟨j,G⟩:=List.getElem?_of_mem hp;rw[List.getElem?_set]at G;split at G
  ·rename_i f;subst f;cases G;exact⟨hb,F,g3⟩
  ·rename_i f;have U:=List.mem_of_getElem? G;obtain⟨V,Z,f3⟩:=h.own p U;have C:p.1≠b:=by
    intro e;refine f (zDe h.nd (i:=i) (j:=j) (x:=b) ?_ ?_)
    ·rw[List.getElem?_map,N];rfl
    ·rw[List.getElem?_map,G];simp[e]
   exact⟨(W p.1 (Array.getElem?_eq_some_iff.1 V).1 C).trans V,Z,f3⟩
 ·have hm:(M.set i (b,o')).map (·.1)=M.map (·.1):=by
   rw[List.map_set];apply List.ext_getElem?;intro j;rw[List.getElem?_set];split
   ·rename_i f;subst f;simp only[List.length_map,hlt,if_true];rw[List.getElem?_map,N];rfl
   ·rfl
  rw[hm];exact h.nd
theorem St.le_set(h:St E w0 X w Y M)(i:Nat){b:Nat}{o:Obj}(F:M[i]?=some (b,o))(G:∀k,k<w.heap.size→k≠b→w'.heap[k]?=w.heap[k]?):Le (rd w Y) (rd w' Y):=fun a v e=>by
 have C:=yK e;have hlt:=World.block_lt_of_cell? w a C;have f:a.block≠b:=fun j=>tC e (j▸(h.own _ (List.mem_of_getElem? F)).2.2 _);exact zFx e (G a.block hlt f) (tC e)
end
def yD(c:Array Value)(o:Nat):List Value→Array Value
 | []=>c
 | v::vs=>yD (c.setIfInBounds o v) (o+1) vs
theorem nP:∀(vs:List Value)(c:Array Value)(o:Nat),(yD c o vs).size=c.size
 | [],_,_=>rfl
 | _::vs,c,o=>by rw[yD,nP vs];simp
theorem kJ(P:Program){b:Nat}{T:TypeId}:∀(vs:List Value)(c:Array Value)(w:World)(o i:Nat),w.heap[b]?=some (.cells c T (0,0))→(∀v∈vs,v.oneCell'=true)→o+i+vs.length≤c.size→
  ∃w',(storeCells ⟨b,o,none⟩ vs i).run P w= .ok () w'∧w'.os=w.os∧w'.tape=w.tape∧w'.output=w.output∧w'.heap.size=w.heap.size∧
   w'.heap[b]?=some (.cells (yD c (o+i) vs) T (0,0))∧∀k,k≠b→w'.heap[k]?=w.heap[k]?
 | [],c,w,o,i,hb,_,_=>⟨w,rfl,rfl,rfl,rfl,rfl,hb,fun _ _=>rfl⟩
 | v::vs,c,w,o,i,hb,F,I=>by
  have hlt:o+i<c.size:=by simp at I;omega
  have f:w.cell? ⟨b,o+i,none⟩=some c[o+i]:=by rw[cell_of_row w b (o+i) c T _ hb];simp[hlt]
  have C:w.frozen? ⟨b,o+i,none⟩=false:=frozen_of_row w b _ c T hb;have j:(w.setCell ⟨b,o+i,none⟩ v).heap[b]?=some (.cells (c.setIfInBounds (o+i) v) T (0,0)):=heap_setCell_same w b (o+i) c T v hb;obtain⟨w',hr,J,N,O,R,U,V⟩:=kJ P vs (c.setIfInBounds (o+i) v) (w.setCell ⟨b,o+i,none⟩ v) o (i+1) j (fun x W=>F x (List.mem_cons_of_mem _ W)) (by simp at I ⊢;omega)
  refine⟨w',?_,J,N,O,by rw[R];simp,?_,fun k G=>(V k G).trans (heap_setCell_other w _ k v G)⟩
  ·unfold storeCells;rw[jO,Sem.run_bind,run_store P w _ v .plain (F v List.mem_cons_self)];simp only[f,C];exact hr
  ·rw[U];rfl
def Ret(E:Nat→Prop)(w:World)(Φ:World→Value→Prop):Ending→World→Prop:=fun e w'=>Upd E w w'∧∃v,e= .returned v∧Φ w' v
section
variable {P:Program}{w:World}{ρ:Operand→Value}
def ldT(P:Program)(t:TypeId):Option (Bool×Nat):=
 match P.info? t,P.underlying t with
 | some i,some d=>some ((match d with | .struct _ | .array _ _=>true | _=>false),i.size)
 | _,_=>none
def ldV(agg:Bool)(vs:List Value):Value:=bif agg then .agg vs.toArray else vs.headD undef
theorem fM{t:TypeId}{g:Bool}{m:Nat}(h:ldT P t=some (g,m)):∃i d,P.info? t=some i∧P.underlying t=some d∧i.size=m∧(match d with | .struct _ | .array _ _=>true | _=>false)=g:=by
 unfold ldT at h;cases f:P.info? t with
 | none=>simp[f]at h
 | some i=>
  cases hd:P.underlying t with
  | none=>simp[f,hd]at h
  | some d=>
   simp only[f,hd,za,Prod.mk.injEq]at h;exact⟨i,d,rfl,rfl,h.2,h.1⟩
theorem zLa{t:TypeId}{g:Bool}{m:Nat}(h:ldT P t=some (g,m))(w:World):(isAgg t).run P w= .ok g w:=by
 obtain⟨i,d,j,f,C,F⟩:=fM h;unfold isAgg underlying;simp only[Sem.run_bind,run_program,Result.andThen_ok,f,Sem.run_pure];cases d<;>simp_all
theorem run_sizeOf{t:TypeId}{g:Bool}{m:Nat}(h:ldT P t=some (g,m))(w:World):(sizeOf t).run P w= .ok m w:=by
 obtain⟨i,d,f,C,j,F⟩:=fM h;simp[sizeOf,typeInfo,f,j]
theorem rY{t:TypeId}{g:Bool}{vs:List Value}{ad:Addr}(ht:ldT P t=some (g,vs.length))(C:g=true∨vs.length=1)(f:jE w ad vs):
  (loadVar t ad).run P w= .ok (ldV g vs) w:=by
 unfold loadVar;simp only[Sem.run_bind,zLa ht,Result.andThen_ok];cases g with
 | true=>
  simp only[if_true,Sem.run_bind,run_sizeOf ht,Result.andThen_ok];rw[run_loadCells_list (P:=P) w ad vs f];rfl
 | false=>
  have j:vs.length=1:=by simpa using C
  obtain⟨v,rfl⟩:=List.length_eq_one_iff.1 j;have:=f 0 v rfl;rw[add_zero]at this;simp[ldV,this]
theorem zB{o:Oper}{t:TypeId}{x:Operand}{g:Bool}{vs:List Value}{ad:Addr}(ho:o.op= .load t x)(C:ρ x= .pointer (some ad))
  (ht:ldT P t=some (g,vs.length)) (j:g=true∨vs.length=1) (f:jE w ad vs):(execOp ρ o).run P w= .ok (.value (ldV g vs)) w:=by
 unfold execOp;simp only[ho,C,Instr.loadAt,Instr.sureAddr,Sem.run_bind,Sem.run_pure,Result.andThen_ok,rY ht j f]
theorem jF{o:Oper}{t e:TypeId}{x f:Operand}{b off len cap:Nat}{kd:IntKind}{i:Int}{g:Bool}{m off':Nat}(ho:o.op= .indexAddr t x f)(ht:P.underlying t=some (.slice e))
  (I:ρ x= .slice (some ⟨b,off,none⟩) len cap) (G:ρ f= .int kd i) (F:ldT P e=some (g,m)) (j:0≤i) (C:i<len) (hoff:off+i.toNat*m=off') (w:World):
  (execOp ρ o).run P w= .ok (.value (.pointer (some ⟨b,off',none⟩))) w:=by
 unfold execOp;simp only[ho,I,G,Instr.indexAt,asIntOf,underlying,ht,Sem.run_bind,Sem.run_pure,run_program,Result.andThen_ok,j,C,and_self,if_true,run_sizeOf F,jO,hoff]
theorem zRe{o:Oper}{t e:TypeId}{x j:Operand}{ad:Option Addr}{len cap:Nat}{kd:IntKind}{i:Int}{h':Nat}{g:Bool}{m:Nat}(ho:o.op= .slice t x none (some j) none)(ht:P.underlying t=some (.slice e))(G:ldT P e=some (g,m))
  (J:ρ x= .slice ad len cap) (f:ρ j= .int kd i) (C:0≤i) (F:i≤cap) (hh:i.toNat=h') (w:World):
  (execOp ρ o).run P w= .ok (.value (.slice (if cap=0 then ad else ad) h' cap)) w:=by
 unfold execOp;have I:Option.map (fun x:Addr=>x.add (0*m)) ad=ad:=by cases ad<;>simp[Addr.add]
 simp only[ho,J,Instr.sliceAt,Instr.slice,Instr.sliceBounds,Instr.sliceBound,asIntOf,underlying,ht,Sem.run_bind,Sem.run_pure,run_program,Result.andThen_ok,Option.map_some,Option.map_none,f,C,F,and_self,if_true,run_sizeOf G,I,hh];simp
end
section
variable {P:Program}{E:Nat→Prop}{w0 w:World}{X Y:Hid}{M:List (Nat×Obj)}
theorem St.cells(h:St E w0 X w Y M)(i:Nat){b:Nat}{c:Array Value}{T:TypeId}{fz:Nat×Nat}(C:M[i]?=some (b,.cells c T fz)){off:Nat}{vs:List Value}(hv:(c.toList.drop off).take vs.length=vs):jE w ⟨b,off,none⟩ vs:=by
 intro j v f;rw[jO,cell_of_row w b _ c T fz (h.get i C)];have hlt:j<vs.length:=(List.getElem?_eq_some_iff.1 f).1;rw[←hv,List.getElem?_take,if_pos hlt,List.getElem?_drop]at f;simpa using f
end
section
variable {P:Program}{Q:Exit→Act→World→Prop}{K:Act→World→Prop}{a:Act}{o:Oper}{n d:Nat}{L:List (Nat×Value)}{D:List Deferred}{E:Nat→Prop}{w0 w:World}{X Y:Hid}{M:List (Nat×Obj)}
def opk(L:List (Nat×Value))(o:Oper)(d n:Nat):Bool:=nM L o&&bY o d n
theorem zE{v:Value}(C:Fr n a L D)(j:opk L o d n=true)(f:(execOp (evL L) o).run P w= .ok (.value v) w)(k:∀a1,Fr n a1 ((d,v)::L) D→K a1 w):o.wp P a w K Q:=by
 simp only[opk,zd]at j;obtain⟨hd,hlt⟩:=qH j.2;unfold Oper.wp;rw[C.exec j.1,f];show K (a.put o.dst v) w;rw[hd];exact k _ (C.put hlt v)
theorem lN(vf:Nat→Value)(ob:Obj)(F:Fr n a L D)(j:opk L o d n=true)(G:St E w0 X w Y M)
  (f:∀w,(execOp (evL L) o).run P w= .ok (.value (vf w.heap.size)) (w.alloc ob))
  (k:∀b w1 C,St E w0 X w1 C ((b,ob)::M)→Le (rd w Y) (rd w1 C)→Upd E0 w w1→∀a1,Fr n a1 ((d,vf b)::L) D→K a1 w1):o.wp P a w K Q:=by
 simp only[opk,zd]at j;obtain⟨hd,hlt⟩:=qH j.2;unfold Oper.wp;rw[F.exec j.1,f];show K (a.put o.dst _) _;rw[hd];exact k _ _ _ (G.alloc ob) (Le.hide_new ob) (Upd.alloc w ob) _ (F.put hlt _)
theorem zF{t:TypeId}{U V:Operand}{b off:Nat}{c c':Array Value}{T:TypeId}{v:Value}{g:Bool}{m:Nat}(i:Nat)(J:List (Nat×Obj))(hF:Fr n a L D)(R:(nM L o&&o.dst.isNone)=true)(C:St E w0 X w Y M)
  (ho:o.op= .store t U V) (ha:evL L U= .pointer (some ⟨b,off,none⟩)) (hv:evL L V=v) (ht:ldT P t=some (g,m)) (hm:v.cells.size=m) (h1:v.cells.toList.all Value.oneCell'=true)
  (f:M[i]?=some (b,.cells c T (0,0))) (I:off+m≤c.size) (F:yD c off v.cells.toList=c') (j:M.set i (b,.cells c' T (0,0))=J)
  (k:∀w1,St E w0 X w1 Y J→Le (rd w Y) (rd w1 Y)→K a w1):o.wp P a w K Q:=by
 simp only[zd]at R;have hd:o.dst=none:=by cases h:o.dst<;>simp_all
 subst hm;obtain⟨w',hr,W,Z,e3,e4,N,O⟩:=kJ P v.cells.toList c w off 0 (C.get i f) (fun x hx=>List.all_eq_true.1 h1 x hx) (by simpa using I)
 unfold Oper.wp;rw[hF.exec R.1];unfold execOp;simp only[ho,ha,hv,Instr.storeAt,Instr.sureAddr,storeVar,Sem.run_bind,Sem.run_pure,Result.andThen_ok,run_sizeOf ht,ne_eq,not_true_eq_false,if_false,hr];show K (a.put o.dst undef) w';rw[hd];rw[Nat.add_zero,F]at N;exact k w' (j▸C.set i _ f (Nat.le_of_eq e4.symm) W Z e3 N (fun k _ G=>O k G)) (C.le_set i f (fun k _ G=>O k G))
theorem kC{N:Operand}{xs:Array Operand}{ts:Array TypeId}{f:FuncId}{cap:Array Value}{vs:Array Value}{Φ:World→Value→Prop}(O:Fr n a L D)(G:opk L o d n=true)(R:St E w0 X w Y M)
  (ho:o.op= .call {callee:= .value N,args:=xs,argTypes:=ts}) (U:evL L N= .func (.func f) #[] cap) (j:xs.map (evL L)++cap=vs)
  (hcall:∀w,(callFunc f vs).run P w= .ok (.enter f vs) w) (C:Calls P f vs w (Ret E0 w Φ))
  (k:∀v w1,St E w0 X w1 Y M→Le (rd w Y) (rd w1 Y)→Upd E0 w w1→Φ w1 v→∀a1,Fr n a1 ((d,v)::L) D→K a1 w1):o.wp P a w K Q:=by
 simp only[opk,zd]at G;obtain⟨hd,hlt⟩:=qH G.2;unfold Oper.wp;rw[O.exec G.1];have F:(execOp (evL L) o).run P w= .ok (.enter f vs) w:=by
  unfold execOp;simp only[ho,resolve,U,Deferred.ofValue,Sem.run_bind,Sem.run_pure,Result.andThen_ok,invoke];simp only[←j]at hcall ⊢;simpa using hcall w
 rw[F];show Calls P f vs w _;refine C.mono ?_;rintro e w1 ⟨I,v,rfl,J⟩;show K (a.put o.dst v) w1;rw[hd];exact k v w1 (R.call I) (I.le Y) I J _ (O.put hlt v)
theorem zBc{fx:Operand}{xs:Array Operand}{ts:Array TypeId}{f:FuncId}{cap:Array Value}{vs:Array Value}{ob:Obj}{b:Nat}{Φ:World→Value→Prop}(i:Nat)(hF:Fr n a L D)(V:opk L o d n=true)(U:St E w0 X w Y M)
  (ho:o.op= .call {callee:= .value fx,args:=xs,argTypes:=ts}) (hf:evL L fx= .func (.func f) #[] cap) (j:xs.map (evL L)++cap=vs)
  (hcall:∀w,(callFunc f vs).run P w= .ok (.enter f vs) w) (R:M[i]?=some (b,ob)) (J:Calls P f vs w (Ret (·=b) w Φ))
  (k:∀v w1 O,Φ w1 v→w1.heap[b]?=some O→St E w0 X w1 Y (M.set i (b,O))→Le (rd w Y) (rd w1 Y)→∀a1,Fr n a1 ((d,v)::L) D→K a1 w1):o.wp P a w K Q:=by
 simp only[opk,zd]at V;obtain⟨hd,hlt⟩:=qH V.2;unfold Oper.wp;rw[hF.exec V.1];have N:(execOp (evL L) o).run P w= .ok (.enter f vs) w:=by
  unfold execOp;simp only[ho,resolve,hf,Deferred.ofValue,Sem.run_bind,Sem.run_pure,Result.andThen_ok,invoke];simp only[←j]at hcall ⊢;simpa using hcall w
 rw[N];show Calls P f vs w _;refine J.mono ?_;rintro e w1 ⟨F,v,rfl,Z⟩;show K (a.put o.dst v) w1;rw[hd];have I:b<w.heap.size:=(Array.getElem?_eq_some_iff.1 (U.get i R)).1;have G:w1.heap[b]?=some w1.heap[b]!:=by
  have:b<w1.heap.size:=Nat.lt_of_lt_of_le I F.size;simp[this]
 exact k v w1 _ Z G (U.set i _ R F.size F.os F.tape F.output G (fun k W C=>F.block k W C)) (U.le_set i R (fun k W C=>F.block k W C)) _ (hF.put hlt v)
end
def kE(S:List (Addr×List Value))(w:World):Prop:=∀p∈S,jE w p.1 p.2
theorem kE.nil(w:World):kE [] w:=fun p hp=>by cases hp
theorem kE.cons{S:List (Addr×List Value)}{w:World}{ad:Addr}{vs:List Value}(h:jE w ad vs)(k:kE S w):kE ((ad,vs)::S) w:=fun p hp=>by
 rcases List.mem_cons.1 hp with rfl | hp
 ·exact h
 ·exact k p hp
theorem kE.up{S:List (Addr×List Value)}{w w1:World}(h:kE S w)(k:Upd E0 w w1):kE S w1:=fun p hp j v C=>by
 have f:=h p hp j v C;have hlt:=World.block_lt_of_cell? w _ f;rw[←f];simp[World.cell?,k.block _ hlt (fun e=>e)]
theorem kE.get{S:List (Addr×List Value)}{w:World}(h:kE S w)(i:Nat){ad:Addr}{vs:List Value}(f:S[i]?=some (ad,vs)):jE w ad vs:=h (ad,vs) (List.mem_of_getElem? f)
section
variable {P:Program}{ops:Array Oper}{Q:Exit→Act→World→Prop}{K:Act→World→Prop}{a:Act}{o:Oper}{n d:Nat}{L:List (Nat×Value)}{D:List Deferred}{E:Nat→Prop}{w0 w:World}{X Y:Hid}{M:List (Nat×Obj)}{S:World→Prop}
end
section
variable {P:Program}{Q:Exit→Act→World→Prop}{K:Act→World→Prop}{a:Act}{n:Nat}{L:List (Nat×Value)}{D:List Deferred}{w:World}
theorem zA(h:K a w):Exit.then K Q .normal a w:=h
theorem mY(h:Q .ret a w):Exit.then K Q .ret a w:=h
theorem rP{id:Nat}(h:Q (.exit id) a w):Exit.then K Q (.exit id) a w:=h
theorem yN{id:Nat}(h:Q .normal a w):Exit.inBlock id Q .normal a w:=h
theorem dQ{id:Nat}(h:Q .ret a w):Exit.inBlock id Q .ret a w:=h
theorem nZ{id:Nat}(h:Q .normal a w):Exit.inBlock id Q (.exit id) a w:=by simp[Exit.inBlock];exact h
theorem zGh{id f:Nat}(j:Nat.beq f id=false)(h:Q (.exit f) a w):Exit.inBlock id Q (.exit f) a w:=by
 have:f≠id:=fun e=>by subst e;simp at j
 simp[Exit.inBlock,this];exact h
def zEb:Nat→List Value→List (Nat×Value)
 | _,[]=>[]
 | i,v::vs=>(i,v)::zEb (i+1) vs
theorem zKd:∀(vs:List Value)(i t:Nat),has (zEb i vs) t=true→∃j,t=i+j∧j<vs.length∧vs[j]?=some (sI (zEb i vs) t)
 | [],i,t,h=>by cases h
 | v::vs,i,t,h=>by
  simp only[zEb,has,sI]at *;cases hb:Nat.beq i t with
  | true=>
   have:=Nat.eq_of_beq_eq_true hb;subst this;exact⟨0,rfl,by simp,by simp⟩
  | false=>
   rw[hb]at h;obtain⟨j,rfl,C,f⟩:=zKd vs (i+1) t (by simpa using h)
   exact⟨j+1,by omega,by simpa using C,by simpa using f⟩
inductive Res (P:Program) (L:List (Nat×Value)) (w:World):List ResultVar→List Value→Prop
  | nil:Res P L w [] []
  | tmp {t:Nat} {rs:List ResultVar} {vs:List Value} (h:has L t=true) (k:Res P L w rs vs):Res P L w (.tmp t::rs) (sI L t::vs)
  | cell {t:Nat} {T:TypeId} {rs:List ResultVar} {vs:List Value} {ad:Addr} {cs:List Value} {g:Bool} (h:has L t=true) (hl:sI L t= .pointer (some ad)) (ht:ldT P T=some (g,cs.length)) (hg:g=true∨cs.length=1) (hc:jE w ad cs) (k:Res P L w rs vs):
      Res P L w (.cell t T::rs) (ldV g cs::vs)
def zBi:List Value→Value
 | [v]=>v
 | vs=> .tuple vs.toArray
def zEl(tmps:Array Value):ResultVar→Sem Value
 | .tmp t=>pure (tmps.getD t undef)
 | .cell x t=>do loadVar t (←asAddr (tmps.getD x undef))
theorem zIg(fn:Func)(tmps:Array Value):results fn tmps=(do
 let vs ←fn.results.mapM (zEl tmps)
 pure (if h:vs.size=1 then vs[0]else .tuple vs)):=rfl
theorem zUk{P:Program}{L:List (Nat×Value)}{D:List Deferred}{a:Act}{n:Nat}(j:Fr n a L D){w:World}{rs:List ResultVar}{vs:List Value}(h:Res P L w rs vs):
  (rs.mapM (zEl a.tmps)).run P w= .ok vs w:=by
 induction h with
 | nil=>rfl
 | tmp h k f=>simp only[List.mapM_cons,Sem.run_bind,Sem.run_pure,Result.andThen_ok,f,zEl,j.getD h]
 | cell h G ht F C k f=>
  simp only[List.mapM_cons,Sem.run_bind,Sem.run_pure,Result.andThen_ok,f,zEl,j.getD h,G,asAddr,rY ht F C]
theorem sK{P:Program}{L:List (Nat×Value)}{D:List Deferred}{a:Act}{n:Nat}(f:Fr n a L D){w:World}{fn:Func}{rs:List ResultVar}{vs:List Value}(hr:fn.results=rs.toArray)(h:Res P L w rs vs):
  (results fn a.tmps).run P w= .ok (zBi vs) w:=by
 have:=zUk f h;rw[zIg,hr];simp only[Sem.run_bind,List.mapM_toArray,Sem.run_map,this,Result.andThen_ok];rcases vs with _ | ⟨v,_ | ⟨u,vs⟩⟩<;>simp[zBi]
theorem zVf{L:List (Nat×Value)}{fn:Func}{R:Ending→World→Prop}{rs:List ResultVar}{vs:List Value}{v:Value}(f:Fr n a L)(hr:fn.results=rs.toArray)(h:Res P L w rs vs)(hv:zBi vs=v)(j:R (.returned v) w):bodyPost P fn R .ret a w:=
 ⟨f.defers,v,hv▸sK f hr h,j⟩
theorem zOn{L:List (Nat×Value)}{fn:Func}{R:Ending→World→Prop}{rs:List ResultVar}{vs:List Value}{v:Value}(f:Fr n a L)(hr:fn.results=rs.toArray)(h:Res P L w rs vs)(hv:zBi vs=v)(j:R (.returned v) w):bodyPost P fn R .normal a w:=
 ⟨f.defers,v,hv▸sK f hr h,j⟩
end
def zIh(P:Program)(ops:Array Oper)(n:Nat):Nat→List Oper→List (Nat×Value)→World→Option (List (Nat×Value)×World)
 | 0,_,L,w=>some (L,w)
 | _+1,[],_,_=>none
 | k+1,o::l,L,w=>
  match o.dst with
  | none=>none
  | some d=>
   bif Nat.blt d n then
    bif yY ops L o true then
     bif nM L o then
      match(execOp (evL L) o).run P w with
      | .ok (.value v) w'=>zIh P ops n k l ((d,v)::L) w'
      | _=>none
     else none
    else bif yY ops L o false then zIh P ops n k l ((d,undef)::L) w
    else none
   else none
theorem Fr.set{n:Nat}{a:Act}{L:List (Nat×Value)}{D:List Deferred}(h:Fr n a L D)(t:Nat){v v':Value}(ht:has L t=true)(hv:sI L t=v)(e:v=v'):Fr n a ((t,v')::L) D:=by
 refine⟨h.size,h.defers,fun s hs=>?_⟩;simp only[sI,has]at *;cases hb:Nat.beq t s with
 | true=>
  have:=Nat.eq_of_beq_eq_true hb;subst this;rw[h.get t ht,hv,e];rfl
 | false=>
  rw[hb]at hs;simpa using h.get s (by simpa using hs)
theorem aZ{x:Int}(f: -9223372036854775808≤x)(j:x≤9223372036854775807):i64.wrap x=x:=IntWalk.i64_in x ⟨f,j⟩
theorem qIu{x:Int}(f:0≤x)(j:x≤4294967295):IntKind.u32.wrap x=x:=IntWalk.u32_in x ⟨f,j⟩
theorem nS{x:Int}(f:0≤x)(j:x≤18446744073709551615):IntKind.u64.wrap x=x:=IntWalk.u64_in x ⟨f,j⟩
theorem wu8{x:Int}(f:0≤x)(j:x≤255):IntKind.u8.wrap x=x:=IntWalk.u8_in x ⟨f,j⟩
theorem yR(x:Int):IntKind.u32.wrap x=x % 4294967296:=by simp[IntKind.wrap,IntKind.bits,IntKind.signed]
theorem lD(x:Int):IntKind.u64.wrap x=x % 18446744073709551616:=by simp[IntKind.wrap,IntKind.bits,IntKind.signed]
theorem wH(a:Int)(m:Nat){c:Int}(h:(2:Int)^m=c)(f:0≤c):Int.fdiv a (2^m)=a / c:=by rw[h];exact Int.fdiv_eq_ediv_of_nonneg a f
def wS(a b:Int):Int:=IntKind.u32.wrap ((BitVec.ofInt 32 a)&&& (BitVec.ofInt 32 b)).toNat
def rU(a b:Int):Int:=IntKind.u32.wrap ((BitVec.ofInt 32 a)||| (BitVec.ofInt 32 b)).toNat
def wD(a b:Int):Int:=IntKind.u32.wrap ((BitVec.ofInt 32 a)^^^(BitVec.ofInt 32 b)).toNat
theorem bQ(a:Nat)(h:a<4294967296):(BitVec.ofInt 32 (a:Int))=BitVec.ofNat 32 a:=by
 have _:=h;simp
theorem aD(a b:Nat)(ha:a<4294967296)(hb:b<4294967296):wS a b=((a&&& b:Nat):Int):=by
 unfold wS;rw[bQ a ha,bQ b hb,yR,BitVec.toNat_and,BitVec.toNat_ofNat,BitVec.toNat_ofNat,Nat.mod_eq_of_lt (by omega:a<2^32),Nat.mod_eq_of_lt (by omega:b<2^32)]
 have:=Nat.and_le_left (n:=a) (m:=b);omega
theorem dS(a b:Nat)(ha:a<4294967296)(hb:b<4294967296):rU a b=((a||| b:Nat):Int):=by
 unfold rU;rw[bQ a ha,bQ b hb,yR,BitVec.toNat_or,BitVec.toNat_ofNat,BitVec.toNat_ofNat,Nat.mod_eq_of_lt (by omega:a<2^32),Nat.mod_eq_of_lt (by omega:b<2^32)]
 have:a||| b<2^32:=Nat.or_lt_two_pow (by omega) (by omega)
 omega
theorem aF(a b:Nat)(ha:a<4294967296)(hb:b<4294967296):wD a b=((a^^^b:Nat):Int):=by
 unfold wD;rw[bQ a ha,bQ b hb,yR,BitVec.toNat_xor,BitVec.toNat_ofNat,BitVec.toNat_ofNat,Nat.mod_eq_of_lt (by omega:a<2^32),Nat.mod_eq_of_lt (by omega:b<2^32)]
 have:a^^^b<2^32:=Nat.xor_lt_two_pow (by omega) (by omega)
 omega
theorem zQ{k:IntKind}{x y:Int}(h:x=y):Value.int k x= .int k y:=h▸rfl
theorem zK{x y:Bool}(h:x=y):Value.bool x= .bool y:=h▸rfl
theorem zBm{P:Program}{ρ:Operand→Value}{o:Oper}{t e:TypeId}{x j:Operand}{ad:Option Addr}{len cap:Nat}{kd:IntKind}{i:Int}{h':Nat}{g:Bool}{m:Nat}(ho:o.op= .slice t x none (some j) none)(ht:P.underlying t=some (.slice e))(G:ldT P e=some (g,m))
  (I:ρ x= .slice ad len cap) (f:ρ j= .int kd i) (C:0≤i) (F:i≤cap) (hh:i.toNat=h') (w:World):
  (execOp ρ o).run P w= .ok (.value (.slice ad h' cap)) w:=by
 rw[zRe ho ht G I f C F hh w];simp
def U32(l:List Nat):List Value:=l.map fun(x:Nat)=>Value.int .u32 (x:Int)
@[simp] theorem lG (l:List Nat):(U32 l).length=l.length:=by simp[U32]
theorem zLo{l:List Nat}{i:Nat}(h:i<l.length):(U32 l)[i]?=some (.int .u32 ((l.getD i 0:Nat):Int)):=by simp[U32,h]
structure zN(r:Rd)(ad:Option Addr)(len cap:Nat)(l:List Nat):Prop where
 hlen:len=l.length
 hcap:len≤cap
 hbig:cap≤9223372036854775807
 hlt:∀x∈l,x<4294967296
 hat:l=[]∨∃b off,ad=some ⟨b,off,none⟩∧At r ⟨b,off,none⟩ (U32 l)
theorem zN.mono{r r':Rd}{ad:Option Addr}{len cap:Nat}{l:List Nat}(h:zN r ad len cap l)(k:Le r r'):zN r' ad len cap l:=
 ⟨h.hlen,h.hcap,h.hbig,h.hlt,h.hat.imp id fun⟨b,off,e,ha⟩=>⟨b,off,e,ha.mono k⟩⟩
theorem zN.addr{r:Rd}{ad:Option Addr}{len cap:Nat}{l:List Nat}(h:zN r ad len cap l)(f:0<len):∃b off,ad=some ⟨b,off,none⟩∧At r ⟨b,off,none⟩ (U32 l):=by
 rcases h.hat with rfl | h'
 ·have:=h.hlen;simp at this;omega
 ·exact h'
theorem zN.getD_lt{r:Rd}{ad:Option Addr}{len cap:Nat}{l:List Nat}(h:zN r ad len cap l)(i:Nat):l.getD i 0<4294967296:=by
 by_cases f:i<l.length
 ·have:l.getD i 0=l[i]:=by simp[f]
  rw[this];exact h.hlt _ (List.getElem_mem f)
 ·have:l.getD i 0=0:=by simp[List.getElem?_eq_none (Nat.le_of_not_lt f)]
  omega
theorem At.one{r:Rd}{b off:Nat}{vs:List Value}(h:At r ⟨b,off,none⟩ vs){i:Nat}{v:Value}(C:vs[i]?=some v):At r ⟨b,off+i,none⟩ [v]:=by
 intro j u f;rcases j with _ | j
 ·simp at f;subst f;rw[jO,Nat.add_zero];have:=h i v C;rwa[jO]at this
 ·simp at f
theorem zN.cell{r:Rd}{b off len cap:Nat}{l:List Nat}(h:zN r (some ⟨b,off,none⟩) len cap l){i:Nat}(f:i<l.length):At r ⟨b,off+i,none⟩ [.int .u32 ((l.getD i 0:Nat):Int)]:=by
 rcases h.hat with rfl | ⟨j,off',e,ha⟩
 ·simp at f
 ·cases e;exact ha.one (zLo f)
def yX(l:List Nat):Nat→Nat
 | 0=>0
 | k+1=>if l.getD k 0=0 then yX l k else k+1
def qV(l:List Nat):Nat:=yX l l.length
theorem rQ(l:List Nat):∀k,yX l k≤k
 | 0=>Nat.le_refl _
 | k+1=>by unfold yX;split;have:=rQ l k;omega;omega
theorem dL{l:List Nat}{k:Nat}(h:l.getD k 0=0):yX l (k+1)=yX l k:=by rw[yX,if_pos h]
theorem dK{l:List Nat}{k:Nat}(h:l.getD k 0≠0):yX l (k+1)=k+1:=by rw[yX,if_neg h]
theorem zEn{l:List Nat}{k:Nat}(f:0<k)(h:l.getD (k-1) 0=0):yX l (k-1)=yX l k:=by
 obtain⟨j,rfl⟩:∃j,k=j+1:=⟨k-1,by omega⟩
 exact(dL h).symm
theorem zEm{l:List Nat}{k:Nat}(f:0<k)(h:l.getD (k-1) 0≠0):yX l k=k:=by
 obtain⟨j,rfl⟩:∃j,k=j+1:=⟨k-1,by omega⟩
 exact dK h
def trimmed(l:List Nat):List Nat:=l.take (qV l)
theorem jM(l:List Nat):(trimmed l).length=qV l:=by
 have:=rQ l l.length;simp[trimmed,qV]at *;omega
def val:List Nat→Nat
 | []=>0
 | x::l=>x+4294967296*val l
def zW(l:List Nat):Prop:=l.length=0∨l.getD (l.length-1) 0≠0
def jH(l:List Nat):Int:=if 512<l.length then 4 else if 0<l.length∧l.getD (l.length-1) 0=0 then 2 else 0
theorem pU{l:List Nat}(h:jH l=0):l.length≤512∧zW l:=by
 unfold jH at h;split at h
 ·omega
 ·split at h
  ·omega
  ·refine⟨by omega,?_⟩
   unfold zW;by_cases f:l.length=0
   ·exact .inl f
   ·exact .inr fun e=>by rename_i hn;exact hn ⟨by omega,e⟩
theorem zN.sub{r:Rd}{ad:Option Addr}{len cap:Nat}{l:List Nat}(h:zN r ad len cap l){k:Nat}(J:k≤len):zN r ad k cap (l.take k):=by
 have G:=h.hlen;have I:=h.hcap;refine⟨by simp;omega,by omega,h.hbig,fun x F=>h.hlt x (List.mem_of_mem_take F),?_⟩
 rcases h.hat with C | ⟨b,off,e,ha⟩
 ·exact .inl (by rw[C];simp)
 ·refine .inr ⟨b,off,e,fun j v f=>ha j v ?_⟩;rw[show U32 (l.take k)=(U32 l).take k by simp[U32],List.getElem?_take]at f
  split at f
  ·exact f
  ·cases f
def FF(r:Option Nat):Fence:={Fence.wide with round:=r}
theorem kY(r:Option Nat)(f:FuncId):(FF r).fn f:=trivial
theorem rR(r:Option Nat)(n:Nat):(FF r).depth.isSome=true→1≤n:=fun h=>by simp[FF,Fence.wide]at h
section
variable {r:Option Nat}{n:Nat}{P:Program}{ops:Array Oper}{Q:Exit→Act→World→Prop}{K:Act→World→Prop}{a:Act}{w:World}{o:Oper}
theorem pO{f:FuncId}{args:Array Value}{R:Ending→World→Prop}:CallsIn (FF r) n P f args w R↔Calls P f args w R:=
 ⟨fun h=>(callsIn_wide (n:=n)).1 (show CallsIn Fence.wide n P f args w R from h),fun h=>show CallsIn Fence.wide n P f args w R from callsIn_wide.2 h⟩
theorem qZy{row:String}{args:Array Value}{R:Value→World→Prop}(h:Rows P row args w R):RowsIn (FF r) n P row args w R:=
 fun c cs _=>let⟨v,w',hr,s⟩:=h c cs;⟨v,w',hr,(stepsIn_wide (P:=P)).2 s⟩
def xY:Op→Bool
 | .defer _=>false
 | _=>true
theorem dE(r:Option Nat)(ρ:Operand→Value)(o:Oper)(h:xY o.op=true):Oper.semAt r ρ o=execOp ρ o:=by
 cases r with
 | none=>rfl
 | some l=>exact Oper.semAt_some l ρ o (fun c e=>by rw[e]at h;cases h)
theorem zNb(hd:xY o.op=true)(h:o.wp P a w K Q):o.wpIn (FF r) n P a w K Q:=by
 refine⟨fun f _=>kY r f,?_⟩;show o.uponIn (FF r) n P a K Q ((o.semAt r a.eval).run P w);rw[dE r a.eval o hd];unfold Oper.wp at h;generalize (execOp a.eval o).run P w=x at h;cases x with
 | ok y w1=>
  cases y<;>simp only[Oper.upon,Oper.uponIn]at h ⊢<;>first | exact h | exact h.elim | skip
  case enter f args=>
   refine⟨rR r n,?_⟩;refine CallsIn.mono (pO.2 h) fun e C j=>?_;cases e<;>exact j
  case row row args=>
   exact⟨rR r n,qZy h⟩
 | halt x w1=>cases x<;>simp only[Oper.upon,Oper.uponIn]at h ⊢<;>exact h
theorem zWx(hd:∀(i:Nat)(o:Oper),ops[i]?=some o→xY o.op=true)(j:¬LetsOut Q):∀(l:List Nat)(a:Act)(w:World),wpOps P ops Q l a w→wpOpsIn (FF r) n P ops Q l a w
 | [],a,w,h=>h
 | i::rest,a,w,h=>by
  simp only[wpOps,wpOpsIn]at *;cases ho:ops[i]? with
  | none=>simp only[ho]at h ⊢;exact zWx hd j rest a w h
  | some o=>
   simp only[ho]at h ⊢;split
   ·rename_i C;rw[if_pos C]at h;rcases h with h | h
    ·exact zNb (hd i o ho) (Oper.wp_mono (fun a w F=>zWx hd j rest a w F) h)
    ·exact absurd h.2 j
   ·rename_i C;rw[if_neg C]at h;exact⟨fun f _=>kY r f,zWx hd j rest _ w h⟩
variable {nn d:Nat}{L:List (Nat×Value)}{D:List Deferred}{rest:List Oper}{m:Nat}
theorem qW(j:Fr nn a L D)(f:(yY ops L o true&&xY o.op)=true)(h:o.wp P a w (wpListIn (FF r) m P ops Q rest) Q):wpListIn (FF r) m P ops Q (o::rest) a w:=by
 simp only[zd]at f;unfold wpListIn;rw[if_pos (j.wanted f.1)];exact zNb f.2 h
theorem zDy:∀(k:Nat){l:List Oper}{a:Act}{w w':World}{L G:List (Nat×Value)}{D:List Deferred}(_:Fr nn a L D)(_:l.all (fun o=>xY o.op)=true)(_:zIh P ops nn k l L w=some (G,w'))
  (_:∀a',Fr nn a' G D→wpListIn (FF r) m P ops Q (l.drop k) a' w'),wpListIn (FF r) m P ops Q l a w
 | 0,l,a,w,w',L,G,D,j,_,hr,J=>by
  simp only[zIh,za,Prod.mk.injEq]at hr;obtain⟨rfl,rfl⟩:=hr;exact J a j
 | k+1,[],a,w,w',L,G,D,j,_,hr,J=>by simp[zIh]at hr
 | k+1,o::l,a,w,w',L,G,D,j,hn,hr,J=>by
  simp only[List.all_cons,zd]at hn;unfold zIh at hr;cases hd:o.dst with
  | none=>simp[hd]at hr
  | some d=>
   simp only[hd]at hr;cases hlt:Nat.blt d nn with
   | false=>simp[hlt]at hr
   | true=>
    simp only[hlt,ze]at hr;have I:d<nn:=by simpa[Nat.blt_eq]using hlt
    cases N:yY ops L o true with
    | true=>
     simp only[N,ze]at hr;cases C:nM L o with
     | false=>simp[C]at hr
     | true=>
      simp only[C,ze]at hr;cases R:(execOp (evL L) o).run P w with
      | halt h w1=>simp[R]at hr
      | ok x w1=>
       cases x<;>simp only[R]at hr<;>try cases hr
       rename_i v;refine qW j (by rw[N,hn.1];rfl) ?_
       unfold Oper.wp;rw[j.exec C,R];show wpListIn (FF r) m P ops Q l (a.put o.dst v) w1;rw[hd];exact zDy k (j.put I v) hn.2 hr (by simpa using J)
    | false=>
     simp only[N,zf]at hr;cases F:yY ops L o false with
     | false=>simp[F]at hr
     | true=>
      simp only[F,ze]at hr;have O:=j.wanted F;unfold wpListIn;rw[if_neg (by rw[O];simp),hd]
      exact⟨fun f _=>kY r f,zDy k (j.put I _) hn.2 hr (by simpa using J)⟩
theorem zD(k:Nat)(N:List (Nat×Value)){l:List Oper}{a:Act}{w:World}{L:List (Nat×Value)}{D:List Deferred}(f:Fr nn a L D)(hn:l.all (fun o=>xY o.op)=true)(hr:zIh P ops nn k l L w=some (N++L,w))
  (j:∀a',Fr nn a' (N++L) D→wpListIn (FF r) m P ops Q (l.drop k) a' w):wpListIn (FF r) m P ops Q l a w:=zDy k f hn hr j
theorem zLh{N:Operand}{xs:Array Operand}{ts:Array TypeId}{l:Nat}{vs:Array Value}{R:Ending→World→Prop}(I:Fr nn a L D)(G:chk ops L o d nn=true)
  (ho:o.op= .call {callee:= .value N,args:=xs,argTypes:=ts}) (V:evL L N= .func (.yield l) #[] #[]) (C:xs.map (evL L)=vs)
  (Z:YieldAt (FF r) (m-1) P l vs w R) (U:∀e w1,R e w1→∃v,e= .returned v)
  (k:∀v w1,R (.returned v) w1→∀a1,Fr nn a1 ((d,v)::L) D→wpListIn (FF r) m P ops Q rest a1 w1):wpListIn (FF r) m P ops Q (o::rest) a w:=by
 simp only[chk,zd]at G;obtain⟨hd,hlt⟩:=qH G.2.2;obtain⟨fn,tmps,assign,body,F,j⟩:=Z;unfold wpListIn;rw[if_pos (I.wanted G.1)];refine⟨fun f _=>kY r f,?_⟩;have J:xY o.op=true:=by rw[ho];rfl
 show o.uponIn (FF r) m P a _ Q ((o.semAt r a.eval).run P w);rw[dE r a.eval o J,I.exec G.2.1];have W:(execOp (evL L) o).run P w= .ok (.round l fn tmps assign body) w:=by
  unfold execOp;simp only[ho,resolve,V,Deferred.ofValue,Sem.run_bind,Sem.run_pure,Result.andThen_ok,invoke];simp only[C];simpa using F
 rw[W];refine⟨rR r m,j.mono fun e w1 O=>?_⟩;obtain⟨v,rfl⟩:=U e w1 O;show wpListIn (FF r) m P ops Q rest (a.put o.dst v) w1;rw[hd];exact k v w1 O _ (I.put hlt v)
end
section
variable {r:Option Nat}{m:Nat}{P:Program}{ops:Array Oper}{Q:Exit→Act→World→Prop}{K:Act→World→Prop}{a:Act}{w:World}{n:Nat}{L:List (Nat×Value)}{D:List Deferred}
theorem zG{x y:Code}(h:∀K:Act→World→Prop,(∀a w,y.wpIn (FF r) m P Q a w→K a w)→x.wpIn (FF r) m P (Exit.then K Q) a w):(Code.seq x y).wpIn (FF r) m P Q a w:=wpIn_seq_k h
theorem wW(h:Q .normal a w):Code.skip.wpIn (FF r) m P Q a w:=wpIn_skip h
theorem zMi{l:Nat}(h:Q .normal a w):(Code.label l).wpIn (FF r) m P Q a w:=wpIn_label h
theorem yZ{id:Nat}{c:Code}(h:c.wpIn (FF r) m P (Exit.inBlock id Q) a w):(Code.block id c).wpIn (FF r) m P Q a w:=wpIn_block h
theorem aK{id:Nat}(h:Q (.exit id) a w):(Code.exit id).wpIn (FF r) m P Q a w:=wpIn_exit h
theorem mI(h:Q .ret a w):Code.ret.wpIn (FF r) m P Q a w:=wpIn_ret h
theorem zC{id:Nat}{l:List Oper}(h:wpListIn (FF r) m P l.toArray Q l a w):(Code.region id l.toArray false).wpIn (FF r) m P Q a w:=wpIn_region_lit h
theorem zH(h:Q .normal a w):wpListIn (FF r) m P ops Q [] a w:=h
theorem nL{x y:Code}{c:Operand}(b:Bool)(f:Fr n a L D)(j:cov L c=true)(hv:evL L c= .bool b)(ht:b=true→x.wpIn (FF r) m P Q a w)(C:b=false→y.wpIn (FF r) m P Q a w):(Code.cond c x y).wpIn (FF r) m P Q a w:=
 wpIn_cond_split ((f.eval j).trans hv) ht C
theorem qWj{x y:Code}{c:Operand}(f:Fr n a L D)(j:cov L c=true)(hv:evL L c= .bool true)(h:x.wpIn (FF r) m P Q a w):(Code.cond c x y).wpIn (FF r) m P Q a w:=wpIn_cond_true ((f.eval j).trans hv) h
theorem qLq{x y:Code}{c:Operand}(f:Fr n a L D)(j:cov L c=true)(hv:evL L c= .bool false)(h:y.wpIn (FF r) m P Q a w):(Code.cond c x y).wpIn (FF r) m P Q a w:=wpIn_cond_false ((f.eval j).trans hv) h
theorem lJ{c:Code}{γ:Type}(I:γ→Act→World→Prop)(μ:γ→Nat)(g0:γ)(W:I g0 a w)
  (round:∀g a w,I g a w→c.wpIn (FF r) m P (Exit.then (fun a' w'=>∃V,I V a' w'∧μ V<μ g) Q) a w):(Code.loop c).wpIn (FF r) m P Q a w:=by
 intro b k cs hro hb hr;have key:∀j g a w,μ g=j→I g a w→
   ∃e a' w',Q e a' w'∧ArrivesIn (Machine.fenced P (FF r)) P (lone (b.atR a (.code c::.inLoop c::k)) cs w) b k cs e a' w':=by
  intro j;induction j using Nat.strongRecOn with
  | _ j ih=>
   intro g a w hn hI;obtain⟨e,C,F,J,f⟩:=round g a w hI b (.inLoop c::k) cs hro hb hr;cases e with
   | normal=>
    obtain⟨V,N,hlt⟩:=J;obtain⟨U,R,Z,O,G⟩:=ih (μ V) (hn▸hlt) V C F rfl N;exact⟨U,R,Z,O,.of_steps (StepsIn.trans f (.one (fenced_calm hb hr rfl) stepR_inLoop)) G⟩
   | exit id=>exact⟨_,C,F,J,.pass (x:= .inLoop c) rfl (fun _ _=> .inl (by simp)) f⟩
   | goto l=>exact⟨_,C,F,J,.pass (x:= .inLoop c) rfl (fun _ _=> .inl (by simp)) f⟩
   | ret=>exact⟨_,C,F,J,.pass (x:= .inLoop c) rfl (fun _ _=> .inl (by simp)) f⟩
   | panic ch=>exact⟨_,C,F,J,.pass (x:= .inLoop c) rfl (fun _ _=> .inl (by simp)) f⟩
   | outgrown=>exact⟨_,C,F,J,.pass (x:= .inLoop c) rfl (fun _ _=> .inl (by simp)) f⟩
 obtain⟨e,a',w',J,f⟩:=key _ g0 a w rfl W;exact⟨e,a',w',J,.of_steps (.one (fenced_calm hb hr rfl) stepR_loop) f⟩
theorem jBt{x y:Code}(J:Act→World→Prop)(j:x.wpIn (FF r) m P (Exit.then J Q) a w)(C:∀a w,J a w→y.wpIn (FF r) m P Q a w):(Code.seq x y).wpIn (FF r) m P Q a w:=
 wpIn_seq_k fun K f=>wpIn_mono j fun e a w h=>by cases e<;>first | exact f _ _ (C _ _ h) | exact h
variable {E:Nat→Prop}{w0:World}{X Y:Hid}{M:List (Nat×Obj)}
theorem zPd{f:FuncId}{args:Array Value}{fn:Func}{vs:List Value}(hn:fn.ntmps=n)(C:args.toList=vs)(F:Nat.ble vs.length n=true):Fr n {tmps:=args++Array.replicate (fn.ntmps-args.size) undef,defers:=[]} (zEb 0 vs):=by
 have _:=f;refine⟨?_,rfl,fun t ht=>?_⟩
 ·have:=Nat.le_of_ble_eq_true F;have hs:args.size=vs.length:=by rw[←C];simp
  simp[hn];omega
 ·obtain⟨j,rfl,I,G⟩:=zKd vs 0 t ht;have hs:j<args.size:=by rw[←Array.length_toList,C];exact I
  rw[Nat.zero_add]at *;rw[←G,←C];simp[Array.getElem?_append,hs]
theorem zFp{f:FuncId}{fn:Func}{c:Code}{args:Array Value}{vs:List Value}{R:Ending→World→Prop}(F:P.funcs[f]?=some fn)(hb:fn.body=some c)(hn:fn.ntmps=n)(C:args.toList=vs)(j:Nat.ble vs.length n=true)
  (k:∀a,Fr n a (zEb 0 vs)→c.wpIn (FF none) 0 P (bodyPost P fn R) a w):Calls P f args w R:=
 pO.1 (callsIn_of_wp (n:=0) F hb (kY none f) (k _ (zPd (f:=f) hn C j)))
theorem zMr{f:FuncId}{fn:Func}{c:Code}{args:Array Value}{vs:List Value}{R:Ending→World→Prop}(F:P.funcs[f]?=some fn)(hb:fn.body=some c)(hn:fn.ntmps=n)(C:args.toList=vs)(j:Nat.ble vs.length n=true)
  (k:∀a,Fr n a (zEb 0 vs)→c.wpIn (FF none) 0 P (bodyPostM (FF none) 0 P fn R) a w):Calls P f args w R:=
 pO.1 (callsIn_of_wp_marks (n:=0) F hb (kY none f) (k _ (zPd (f:=f) hn C j)))
theorem zAy{fn:Func}{R:Ending→World→Prop}{tmps:Array Value}{v:Value}(h:(results fn tmps).run P w= .ok v w)(f:R (.returned v) w):LeavesInM (FF none) 0 P fn tmps R [] .returning w:=⟨v,h,f⟩
theorem qXu{fn:Func}{R:Ending→World→Prop}{rs:List ResultVar}{vs:List Value}{v:Value}(f:Fr n a L)(hr:fn.results=rs.toArray)(h:Res P L w rs vs)(hv:zBi vs=v)(j:R (.returned v) w):bodyPostM (FF none) 0 P fn R .ret a w:=by
 show LeavesInM (FF none) 0 P fn a.tmps R a.defers .returning w;rw[f.defers];exact zAy (hv▸sK f hr h) j
def mark(b:Nat):Deferred:={target:= .collected b,args:=#[]}
theorem St.putObj(h:St E w0 X w Y M)(i:Nat){b:Nat}{o o':Obj}(f:M[i]?=some (b,o)):St E w0 X (w.putObj b o') Y (M.set i (b,o'))∧Le (rd w Y) (rd (w.putObj b o') Y):=by
 have hlt:b<w.heap.size:=(Array.getElem?_eq_some_iff.1 (h.get i f)).1;exact⟨h.set i o' f (by simp) rfl rfl rfl (World.putObj_heap_same hlt) (fun k _ j=>World.putObj_heap_other j),h.le_set i f (fun k _ j=>World.putObj_heap_other j)⟩
theorem zMs{fn:Func}{R:Ending→World→Prop}{rs:List ResultVar}{vs:List Value}{v:Value}{b:Nat}(i:Nat)(f:Fr n a L [mark b])(j:St E w0 X w Y M)(C:M[i]?=some (b,.deferred (some [])))(hr:fn.results=rs.toArray)(hv:zBi vs=v)
  (k:∀w1,St E w0 X w1 Y (M.set i (b,.deferred none))→Le (rd w Y) (rd w1 Y)→Res P L w1 rs vs∧R (.returned v) w1):bodyPostM (FF none) 0 P fn R .ret a w:=by
 show LeavesInM (FF none) 0 P fn a.tmps R a.defers .returning w;rw[f.defers];obtain⟨G,I⟩:=j.putObj (o':= .deferred none) i C;obtain⟨J,N⟩:=k _ G I;have F:Fr n {a with defers:=[]} L:=⟨f.size,rfl,f.get⟩
 refine⟨by simp,.inl ⟨b,_,rfl,run_takeDeferred (j.get i C),?_⟩⟩
 exact zAy (hv▸sK F hr J) N
theorem qLr{g:Operand}{ps:Array Tmp}{assign body:Code}{f:FuncId}{caps:Array Value}(hF:Fr n a L D)(hS:St E w0 X w Y M)(hc:cov L g=true)(hg:evL L g= .func (.func f) #[] caps)
  (hcall:∀args w,(callFunc f args).run P w= .ok (.enter f args) w)
  (k:∀fn l b w1 Y1,St E w0 X w1 Y1 ((l,.loop {state:= .ready,pending:=none,fn:=fn,tmps:=a.tmps,params:=ps,assign:=assign,body:=body,defers:=b})::(b,.deferred (some []))::M)→
   Le (rd w Y) (rd w1 Y1)→Upd E0 w w1→
   Calls P f (#[.func (.yield l) #[] #[]]++caps) w1 (fun e w3=>(∃v,e= .returned v)∧∃rec,w3.heap[l]?=some (.loop rec)∧rec.state≠.busy∧
    (match rec.pending with
     | none=>Q .normal {a with defers:=mark b::a.defers} (w3.putObj l (.loop {rec with state:= .exhausted}))
     | some c=>c.wpIn (FF none) 0 P Q {a with defers:=mark b::a.defers} (w3.putObj l (.loop {rec with state:= .exhausted}))))):
  (Code.rangeFunc g ps assign body).wpIn (FF none) 0 P Q a w:=by
 refine wpIn_rangeFunc fun fn _=>?_;have h1:=hS.alloc (.deferred (some []));have h2:=h1.alloc (.loop {state:= .ready,pending:=none,fn:=fn,tmps:=a.tmps,params:=ps,assign:=assign,body:=body,defers:=w.heap.size});have hle:Le (rd w Y) (rd ((w.alloc (.deferred (some []))).alloc (.loop {state:= .ready,pending:=none,fn:=fn,tmps:=a.tmps,params:=ps,assign:=assign,body:=body,defers:=w.heap.size})) _):=(Le.hide_new (.deferred (some []))).trans (Le.hide_new _);have hu:=(Upd.alloc w (.deferred (some []))).trans ((Upd.alloc (w.alloc (.deferred (some []))) (.loop {state:= .ready,pending:=none,fn:=fn,tmps:=a.tmps,params:=ps,assign:=assign,body:=body,defers:=w.heap.size})).weaken fun _ _ e=>e);have hK:=k fn (w.heap.size+1) w.heap.size _ _ (by simpa using h2) (by simpa using hle) hu
 have hge:a.eval g= .func (.func f) #[] caps:=(hF.eval hc).trans hg;have hrun:=run_enterLoop_outer (P:=P) (w:=w) fn a.tmps ps assign body;clear h2 hle hu;generalize (w.alloc (.deferred (some []))).alloc (.loop {state:= .ready,pending:=none,fn:=fn,tmps:=a.tmps,params:=ps,assign:=assign,body:=body,defers:=w.heap.size})=W1 at hK hrun;refine⟨w.heap.size+1,[mark w.heap.size],W1,{target:= .fn (.func f) caps,args:=#[.func (.yield (w.heap.size+1)) #[] #[]]},W1,f,
  #[.func (.yield (w.heap.size+1)) #[] #[]]++caps,W1,hrun,?_,fun f' _=>kY none f',?_,rR none 0,?_⟩
 ·simp only[resolve,hge];simp[go_sem]
 ·simp[invoke,go_sem,hcall]
 ·refine pO.2 (hK.mono ?_);rintro e w3 ⟨⟨v,rfl⟩,rec,hl,hb,hrest⟩;refine⟨rec.pending,_,run_endLoop hl hb,?_⟩;exact hrest
theorem zYg{l:Nat}{rec:Loop}{args:Array Value}{R:Ending→World→Prop}(i:Nat)(G:St E w0 X w Y M)(I:M[i]?=some (l,.loop rec))(hsz:args.size=rec.params.size)
  (k:rec.assign.wpIn (FF (some l)) 0 P (Exit.then (fun j C=>∃f,(Instr.beginRound l).run P C= .ok () f∧rec.body.wpIn (FF (some l)) 0 P (roundPost P l R) j f) (fun _ _ _=>False))
   {tmps:=(rec.params.zip args).foldl (fun tmps(t,a)=>tmps.setIfInBounds t a) rec.tmps,defers:=[]} w):YieldAt (FF none) 0 P l args w R:=
 ⟨_,_,_,_,run_yield (G.get i I) hsz,roundIn_of_wpIn (F:=FF none) (kY none _) k⟩
theorem qOx{l:Nat}{rec:Loop}{body:Code}{R:Ending→World→Prop}(i:Nat)(j:St E w0 X w Y M)(C:M[i]?=some (l,.loop rec))(hr:rec.state= .ready)
  (k:∀w1,St E w0 X w1 Y (M.set i (l,.loop {rec with state:= .busy}))→Le (rd w Y) (rd w1 Y)→body.wpIn (FF (some l)) 0 P (roundPost P l R) a w1):
  ∃f,(Instr.beginRound l).run P w= .ok () f∧body.wpIn (FF (some l)) 0 P (roundPost P l R) a f:=
 ⟨_,run_beginRound (j.get i C) hr,k _ (j.putObj i C).1 (j.putObj (o':= .loop {rec with state:= .busy}) i C).2⟩
theorem jAx{l:Nat}{rec:Loop}{R:Ending→World→Prop}(i:Nat)(f:St E w0 X w Y M)(j:M[i]?=some (l,.loop rec))
  (k:∀w1,St E w0 X w1 Y (M.set i (l,.loop {rec with state:= .ready,pending:=none}))→Le (rd w Y) (rd w1 Y)→R (.returned (.bool true)) w1):roundPost P l R .normal a w:=
 ⟨_,_,run_endRound none (f.get i j),k _ (f.putObj i j).1 (f.putObj (o':= .loop {rec with state:= .ready,pending:=none}) i j).2⟩
theorem jCx{l:Nat}{rec:Loop}{R:Ending→World→Prop}(i:Nat)(f:St E w0 X w Y M)(j:M[i]?=some (l,.loop rec))
  (k:∀w1,St E w0 X w1 Y (M.set i (l,.loop {rec with state:= .done,pending:=some .ret}))→Le (rd w Y) (rd w1 Y)→R (.returned (.bool false)) w1):roundPost P l R .ret a w:=
 ⟨_,_,run_endRound (some .ret) (f.get i j),k _ (f.putObj i j).1 (f.putObj (o':= .loop {rec with state:= .done,pending:=some .ret}) i j).2⟩
theorem zZa{p q:Nat}{v u:Value}(f:Fr n a L D)(hp:p<n)(C:q<n):Fr n {tmps:=((#[p,q]:Array Tmp).zip #[v,u]).foldl (fun tmps(t,a)=>tmps.setIfInBounds t a) a.tmps,defers:=[]} ((q,u)::(p,v)::L):=by
 have j:Fr n {a with defers:=[]} L:=⟨f.size,rfl,f.get⟩
 have:=(j.put hp v).put C u;simpa[Act.put]using this
end
section
variable {E:Nat→Prop}{w0 w w1:World}{X Y:Hid}{M:List (Nat×Obj)}
def zXn(b:Nat)(Y:Hid):Hid:=fun k o=>Y k o∧k≠b
theorem St.publish{b:Nat}{c:Array Value}{T:TypeId}(h:St E w0 X w Y ((b,.cells c T (0,0))::M))(hb:w0.heap.size≤b):
  St E w0 X w (zXn b Y) M∧Le (rd w Y) (rd w (zXn b Y))∧At (rd w (zXn b Y)) ⟨b,0,none⟩ c.toList:=by
 have ht:=h.tail;have f:=h.nd;simp only[List.map_cons,List.nodup_cons,List.mem_map,not_exists,not_and]at f;refine⟨⟨h.upd,fun k o C=>h.lt k o C.1,fun k o F=>⟨h.hid k o F,fun e=>?_⟩,fun p hp=>?_,ht.nd,h.ltX⟩,Le.unhide (fun k o C=>C.1),fun j v N=>?_⟩
 ·have:=h.ltX k o F;omega
 ·obtain⟨G,I,J⟩:=ht.own p hp;exact⟨G,I,fun o=>⟨J o,fun e=>f.1 p hp e⟩⟩
 ·rw[jO];refine rX ?_ (fun C=>C.2 rfl) (frozen_of_row w b _ c T (h.own _ List.mem_cons_self).1);rw[cell_of_row w b _ c T (0,0) (h.own _ List.mem_cons_self).1];simpa using N
theorem St.own_ge{b:Nat}{o:Obj}(h:St E0 w0 X w Y M)(i:Nat)(f:M[i]?=some (b,o)):w0.heap.size≤b:=by
 rcases(h.own _ (List.mem_of_getElem? f)).2.1 with h | h
 ·exact h
 ·exact h.elim
theorem St.adopt{g:Nat}{o:Obj}(h:St E w0 X w1 Y M)(hn:∀j,¬Y g j)(I:w0.heap.size≤g)(ho:w1.heap[g]?=some o):St E w0 X w1 (zAt g Y) ((g,o)::M):=
 ⟨h.upd,fun k j f=>by
   rcases f with rfl | f
   ·exact(Array.getElem?_eq_some_iff.1 ho).1
   ·exact h.lt k j f,
  fun k j J=> .inr (h.hid k j J),fun p hp=>by
   rcases List.mem_cons.1 hp with rfl | hp
   ·exact⟨ho,.inl I,fun _=> .inl rfl⟩
   ·obtain⟨C,F,G⟩:=h.own p hp;exact⟨C,F,fun j=> .inr (G j)⟩,by
   simp only[List.map_cons,List.nodup_cons,h.nd,and_true,List.mem_map,not_exists,not_and];intro p hp e;exact hn 0 (e▸(h.own p hp).2.2 0),h.ltX⟩
theorem Le.hide_ge{r:Rd}{g:Nat}(h:Le r (rd w1 Y))(hr:∀a v,r a=some v→a.block≠g):Le r (rd w1 (zAt g Y)):=fun a v e=>by
 have:=h a v e;refine rX (yK this) ?_ (aS this);rintro(f | f)
 ·exact hr a v e f
 ·exact tC this f
theorem jCo{a:Addr}{v:Value}(h:rd w Y a=some v):a.block<w.heap.size:=World.block_lt_of_cell? w a (yK h)
theorem Le.adopt{g:Nat}(h:Le (rd w Y) (rd w1 Y))(f:w.heap.size≤g):Le (rd w Y) (rd w1 (zAt g Y)):=h.hide_ge fun a v e hb=>by have:=jCo e;omega
end
section
variable {P:Program}{Q:Exit→Act→World→Prop}{K:Act→World→Prop}{a:Act}{o:Oper}{n d:Nat}{L:List (Nat×Value)}{D:List Deferred}{E:Nat→Prop}{w0 w:World}{X Y:Hid}{M:List (Nat×Obj)}
theorem qFy{fx:Operand}{xs:Array Operand}{ts:Array TypeId}{f:FuncId}{cap:Array Value}{vs:Array Value}{ob1 ob2:Obj}{b1 b2:Nat}{Φ:World→Value→Prop}(i j:Nat)(hF:Fr n a L D)(hc:opk L o d n=true)(R:St E w0 X w Y M)
  (ho:o.op= .call {callee:= .value fx,args:=xs,argTypes:=ts}) (hf:evL L fx= .func (.func f) #[] cap) (G:xs.map (evL L)++cap=vs)
  (hcall:∀w,(callFunc f vs).run P w= .ok (.enter f vs) w) (C:M[i]?=some (b1,ob1)) (F:M[j]?=some (b2,ob2)) (V:i≠j) (U:Calls P f vs w (Ret (fun k=>k=b1∨k=b2) w Φ))
  (k:∀v w1,Φ w1 v→(∀N o2,w1.heap[b1]?=some N→w1.heap[b2]?=some o2→St E w0 X w1 Y ((M.set i (b1,N)).set j (b2,o2)))→Le (rd w Y) (rd w1 Y)→∀a1,Fr n a1 ((d,v)::L) D→K a1 w1):o.wp P a w K Q:=by
 simp only[opk,zd]at hc;obtain⟨hd,hlt⟩:=qH hc.2;unfold Oper.wp;rw[hF.exec hc.1];have hrun:(execOp (evL L) o).run P w= .ok (.enter f vs) w:=by
  unfold execOp;simp only[ho,resolve,hf,Deferred.ofValue,Sem.run_bind,Sem.run_pure,Result.andThen_ok,invoke];simp only[←G]at hcall ⊢;simpa using hcall w
 rw[hrun];show Calls P f vs w _;refine U.mono ?_;rintro e w1 ⟨J,v,rfl,hΦ⟩;show K (a.put o.dst v) w1;rw[hd];have W:b1<w.heap.size:=(Array.getElem?_eq_some_iff.1 (R.get i C)).1;have hne:b1≠b2:=by
  intro e;refine V (zDe R.nd (i:=i) (j:=j) (x:=b1) ?_ ?_)
  ·rw[List.getElem?_map,C];rfl
  ·rw[List.getElem?_map,F];simp[e]
 refine k v w1 hΦ (fun N o2 h1 h2=>?_) (fun p u e=>?_) _ (hF.put hlt v)
 ·-- by way of a world in which the first has turned
  have Z:=R.set (w':=w.putObj b1 N) i N C (by simp) rfl rfl rfl (World.putObj_heap_same W) (fun k _ hk=>World.putObj_heap_other hk)
  have O:(M.set i (b1,N))[j]?=some (b2,ob2):=by rw[List.getElem?_set_ne V];exact F
  refine Z.set (w':=w1) j o2 O (by simpa using J.size) J.os J.tape J.output h2 (fun k hk hkb=>?_)
  by_cases e1:k=b1
  ·subst e1;rw[h1,World.putObj_heap_same W]
  ·rw[World.putObj_heap_other e1];exact J.block k (by simpa using hk) (fun h=>h.elim e1 hkb)
 ·have I:=yK e;have hlt:=World.block_lt_of_cell? w p I;have hn1:p.block≠b1:=fun eb=>tC e (eb▸(R.own _ (List.mem_of_getElem? C)).2.2 _);have hn2:p.block≠b2:=fun eb=>tC e (eb▸(R.own _ (List.mem_of_getElem? F)).2.2 _);exact zFx e (J.block p.block hlt (fun h=>h.elim hn1 hn2)) (tC e)
theorem zWu{t e:TypeId}{F:Operand}{l:Int}{m:Nat}{z:Value}{i0:TypeInfo}(J:Fr n a L D)(R:opk L o d n=true)(N:St E w0 X w Y M)
  (ho:o.op= .makeSlice t F F) (V:evL L F= .int .i64 l) (W:l=(m:Int)) (ht:P.underlying t=some (.slice e)) (U:P.info? e=some i0) (Z:i0.zero=some z) (hs:i0.size=1) (C:z.cells=#[z]) (O:i0.bytes*m≤281474976710656) (I:m≤140737488355328)
  (k:∀b w1 G,St E w0 X w1 G ((b,.cells (List.replicate m z).toArray e (0,0))::M)→Le (rd w Y) (rd w1 G)→Upd E0 w w1→∀a1,Fr n a1 ((d,.slice (some ⟨b,0,none⟩) m m)::L) D→K a1 w1):o.wp P a w K Q:=by
 refine lN (fun b=> .slice (some ⟨b,0,none⟩) m m) (.cells (List.replicate m z).toArray e (0,0)) J R N (fun w=>?_) k;have j:(i0.bytes:Int)*(m:Int)≤281474976710656:=by
  have h:((i0.bytes*m:Nat):Int)≤281474976710656:=by omega
  rwa[Int.natCast_mul]at h
 have hr:=run_make (P:=P) w t e i0 z ht U Z .i64 .i64 (m:Int) (m:Int) (by omega) (Int.le_refl _) j (by omega)
 have f:madeCells z.cells (m*i0.size)=(List.replicate m z).toArray:=by
  apply Array.ext';rw[C,hs,Nat.mul_one,toList_madeCells_one]
 simp only[Int.toNat_natCast,f]at hr;unfold execOp;simp only[ho,V,W,hr,Sem.run_bind,Sem.run_pure,Result.andThen_ok]
end
structure Row(m cap size:Nat)(cur:Array Value)(xs:List Value):Prop where
 hn:m≤cap
 hcap:cap≤maxLen
 hsz:cur.size=cap*size
 hxs:cur.toList.take (m*size)=xs
theorem Row.len{m cap size:Nat}{cur:Array Value}{xs:List Value}(h:Row m cap size cur xs):xs.length=m*size:=by
 rw[←h.hxs,List.length_take,Array.length_toList,h.hsz];exact Nat.min_eq_left (Nat.mul_le_mul_right _ h.hn)
theorem zKs:∀{l:List Nat}{b:Nat}(i:Nat),l.Nodup→b∉l→(l.set i b).Nodup
 | [],_,_,_,_=>by simp
 | x::l,b,0,h,hb=>by
  simp only[List.set_cons_zero,List.nodup_cons,List.mem_cons,not_or]at *;exact⟨hb.2,h.2⟩
 | x::l,b,i+1,h,hb=>by
  simp only[List.set_cons_succ,List.nodup_cons,List.mem_cons,not_or]at *;refine⟨fun j=>?_,zKs i h.2 hb.2⟩;rcases List.mem_or_eq_of_mem_set j with f | f
  ·exact h.1 f
  ·exact hb.1 f.symm
theorem St.replace{E:Nat→Prop}{w0 w:World}{X Y:Hid}{M:List (Nat×Obj)}{p:Nat×Obj}(h:St E w0 X w Y (p::M))(i:Nat):St E w0 X w Y (M.set i p):=by
 refine⟨h.upd,h.lt,h.hid,fun q j=>?_,?_,h.ltX⟩
 ·rcases List.mem_or_eq_of_mem_set j with f | f
  ·exact h.own q (List.mem_cons_of_mem _ f)
  ·exact f▸h.own p List.mem_cons_self
 ·rw[List.map_set];have:=h.nd;simp only[List.map_cons,List.nodup_cons]at this;exact zKs i this.2 this.1
theorem qEe(z:Value)(size:Nat)(j:z.cells.size=size)(f news:List Value)(a b c:Nat)(C:f.length=a*size)(F:news.length=b*size)(G:a+b≤c):
  (f.toArray++news.toArray++Builtin.zeroCells z.cells (c-(a+b))).size=c*size:=by
 simp only[Array.size_append,List.size_toArray,size_zeroCells,j,C,F,←Nat.add_mul];congr 1;omega
section
variable {P:Program}{Q:Exit→Act→World→Prop}{K:Act→World→Prop}{a:Act}{o:Oper}{n d:Nat}{L:List (Nat×Value)}{D:List Deferred}{E:Nat→Prop}{w0 w:World}{X Y:Hid}{M:List (Nat×Obj)}
theorem zKv{t e:TypeId}{s x:Operand}{g m nn cap c size:Nat}{cur:Array Value}{xs news:List Value}{ad:Addr}{z:Value}{i0:TypeInfo}(i:Nat)(hF:Fr n a L D)(R:opk L o d n=true)(hS:St E w0 X w Y M)
  (ho:o.op= .call {callee:= .builtin .append,args:=#[s,x],argTypes:=#[t,t]}) (hs:evL L s= .slice (some ⟨g,0,none⟩) nn cap) (hx:evL L x= .slice (some ad) m c)
  (ht:P.underlying t=some (.slice e)) (hi:P.info? e=some i0) (hz:i0.zero=some z) (hsz:i0.size=size) (hzs:z.cells.size=size)
  (hM:M[i]?=some (g,.cells cur e (0,0))) (f:Row nn cap size cur xs) (G:jE w ad news) (U:news.length=m*size) (h1:news.all Value.oneCell'=true)
  (V:nn+m≤maxLen) (I:(nn+m)*i0.bytes≤140737488355328)
  (k:∀g' J N w1 Y1,Row (nn+m) J size N (xs++news)→St E w0 X w1 Y1 (M.set i (g',.cells N e (0,0)))→Le (rd w Y) (rd w1 Y1)→∀a1,Fr n a1 ((d,.slice (some ⟨g',0,none⟩) (nn+m) J)::L) D→K a1 w1):o.wp P a w K Q:=by
 subst hsz;have hg:=hS.get i hM;have hlen:=f.len;have hone:∀u∈news,u.oneCell'=true:=fun u hu=>List.all_eq_true.1 h1 u hu;have F:∀(v':Value)(w':World),(Builtin.append_ #[t,t] o.type #[.slice (some ⟨g,0,none⟩) nn cap,.slice (some ad) m c]).run P w= .ok v' w'→(execOp (evL L) o).run P w= .ok (.value v') w':=by
  intro v' w' hr;unfold execOp;simp only[ho,resolve,invoke,builtin,Sem.run_bind,Sem.run_pure,Result.andThen_ok,List.map_toArray,List.map_cons,List.map_nil,hs,hx,hr]
 by_cases C:nn+m≤cap
 ·have W:nn*i0.size+news.length≤cur.size:=by rw[U,f.hsz,←Nat.add_mul];exact Nat.mul_le_mul_right _ C
  have hr:=run_append_room (P:=P) w t o.type e i0 ht hi g nn cap cur hg ad m c news U G hone C W;simp only[opk,zd]at R;obtain⟨hd,hlt⟩:=qH R.2;unfold Oper.wp;rw[hF.exec R.1,F _ _ hr];show K (a.put o.dst _) _;rw[hd];refine k g cap _ _ Y ⟨C,f.hcap,?_,?_⟩ (hS.set (w':=w.setRow g _) i _ hM (by simp) rfl rfl rfl (setRow_heap w g cur _ e _ hg) (fun k _ hk=>setRow_other w g k _ hk)) (hS.le_set i hM (fun k _ hk=>setRow_other w g k _ hk)) _ (hF.put hlt _)
  ·simp only[List.size_toArray,List.length_append,List.length_take,List.length_drop,Array.length_toList,f.hsz]at *;omega
  ·have O:(xs++news).length=(nn+m)*i0.size:=by rw[List.length_append,hlen,U,Nat.add_mul]
   rw[f.hxs,←O];exact List.take_left
 ·have holds:∀j u,xs[j]?=some u→w.cell? ((⟨g,0,none⟩:Addr).add j)=some u:=by
   intro j u hj;rw[jO,cell_of_row w g _ cur e _ hg];have hj':j<xs.length:=(List.getElem?_eq_some_iff.1 hj).1;rw[←f.hxs,List.getElem?_take,if_pos (by rw[←hlen];exact hj')]at hj
   simpa using hj
  have hr:=run_append_grow (P:=P) w t o.type e i0 z ht hi hz ⟨g,0,none⟩ nn cap xs hlen holds ad m c news U G (by omega) (by simp only[maxLen]at V;omega) (growslice_fits (by omega) I)
  simp only[opk,zd]at R;obtain⟨hd,hlt⟩:=qH R.2;unfold Oper.wp;rw[hF.exec R.1,F _ _ hr];show K (a.put o.dst _) _;rw[hd];have Z:=grownCap_ge w (nn+m) cap e;refine k w.heap.size _ _ _ _ ⟨Z,grownCap_le_maxLen w (nn+m) cap e V,qEe z i0.size hzs xs news nn m _ hlen U Z,?_⟩ (((hS.call (Upd.drew w)).alloc _).replace i) (((Upd.drew w).le Y).trans (Le.hide_new _)) _ (hF.put hlt _);have O:(xs++news).length=(nn+m)*i0.size:=by rw[List.length_append,hlen,U,Nat.add_mul]
  simp only[Array.toList_append,List.append_assoc];rw[←List.append_assoc,←O];exact List.take_left
theorem zHr{t e:TypeId}{s x:Operand}{m c size:Nat}{news:List Value}{ad:Addr}{z:Value}{i0:TypeInfo}(Z:Fr n a L D)(J:opk L o d n=true)(hS:St E w0 X w Y M)
  (ho:o.op= .call {callee:= .builtin .append,args:=#[s,x],argTypes:=#[t,t]}) (hs:evL L s= .slice none 0 0) (hx:evL L x= .slice (some ad) m c)
  (ht:P.underlying t=some (.slice e)) (hi:P.info? e=some i0) (hz:i0.zero=some z) (hsz:i0.size=size) (U:z.cells.size=size)
  (F:jE w ad news) (O:news.length=m*size) (R:0<m)
  (G:m≤maxLen) (I:m*i0.bytes≤140737488355328)
  (k:∀W f j w1 V,Row m f size j news→St E w0 X w1 V ((W,.cells j e (0,0))::M)→Le (rd w Y) (rd w1 V)→∀a1,Fr n a1 ((d,.slice (some ⟨W,0,none⟩) m f)::L) D→K a1 w1):o.wp P a w K Q:=by
 subst hsz;have hr:=run_append_nil (P:=P) w t o.type e i0 z ht hi hz ad m c news O F R (by simp only[maxLen]at G;omega) (by omega)
 have C:(execOp (evL L) o).run P w= .ok (.value (.slice (some ⟨w.heap.size,0,none⟩) m (grownCap w m 0 e))) (w.drew.alloc (.cells (news.toArray++Builtin.zeroCells z.cells (grownCap w m 0 e-m)) e)):=by
  unfold execOp;simp only[ho,resolve,invoke,builtin,Sem.run_bind,Sem.run_pure,Result.andThen_ok,List.map_toArray,List.map_cons,List.map_nil,hs,hx,hr]
 simp only[opk,zd]at J;obtain⟨hd,hlt⟩:=qH J.2;unfold Oper.wp;rw[Z.exec J.1,C];show K (a.put o.dst _) _;rw[hd];have N:=grownCap_ge w m 0 e;refine k w.heap.size _ _ _ _ ⟨N,grownCap_le_maxLen w m 0 e G,?_,?_⟩ ((hS.call (Upd.drew w)).alloc _) (((Upd.drew w).le Y).trans (Le.hide_new _)) _ (Z.put hlt _)
 ·simp only[Array.size_append,List.size_toArray,size_zeroCells,U,O,←Nat.add_mul];congr 1;omega
 ·rw[←O];simp
theorem qNd{F W e:TypeId}{x y:Operand}{g dl R sl sc:Nat}{cur:Array Value}{T:TypeId}{ad:Addr}{cs:List Value}(i:Nat)(U:Fr n a L D)(J:opk L o d n=true)(I:St E w0 X w Y M)
  (ho:o.op= .call {callee:= .builtin .copy,args:=#[x,y],argTypes:=#[F,W]}) (hx:evL L x= .slice (some ⟨g,0,none⟩) dl R) (hy:evL L y= .slice (some ad) sl sc)
  (O:P.underlying F=some (.slice e)) (hs:(P.info? e).map (·.size)=some 1) (G:M[i]?=some (g,.cells cur T (0,0))) (hn:cs.length=Nat.min sl dl) (C:jE w ad cs) (j:cs.length≤cur.size) (Z:cs.all Value.oneCell'=true)
  (k:∀w1,St E w0 X w1 Y (M.set i (g,.cells (cs++cur.toList.drop cs.length).toArray T (0,0)))→Le (rd w Y) (rd w1 Y)→∀a1,Fr n a1 ((d,.int .i64 (cs.length:Int))::L) D→K a1 w1):o.wp P a w K Q:=by
 have V:=I.get i G;have hr:=run_copy_row (P:=P) w F W o.type e g 0 dl R ad sl sc cur T cs O hs V hn C (by simpa using j) (fun u O=>List.all_eq_true.1 Z u O)
 simp only[Nat.zero_add,List.take_zero,List.nil_append]at hr;have f:(execOp (evL L) o).run P w= .ok (.value (goInt cs.length)) (w.setRow g (cs++cur.toList.drop cs.length).toArray):=by
  unfold execOp;simp only[ho,resolve,invoke,builtin,Sem.run_bind,Sem.run_pure,Result.andThen_ok,List.map_toArray,List.map_cons,List.map_nil,hx,hy,hr]
 simp only[opk,zd]at J;obtain⟨hd,hlt⟩:=qH J.2;unfold Oper.wp;rw[U.exec J.1,f];show K (a.put o.dst _) _;rw[hd];exact k _ (I.set (w':=w.setRow g _) i _ G (by simp) rfl rfl rfl (setRow_heap w g cur _ T _ V) (fun k _ N=>setRow_other w g k _ N)) (I.le_set i G (fun k _ N=>setRow_other w g k _ N)) _ (U.put hlt _)
end
structure zX(m cap:Nat)(cur:Array Value)(l:List Nat):Prop where
 row:Row m cap 1 cur (U32 l)
 lt:∀x∈l,x<4294967296
theorem zX.len{m cap:Nat}{cur:Array Value}{l:List Nat}(h:zX m cap cur l):l.length=m:=by
 have:=h.row.len;simpa using this
theorem zX.get{m cap:Nat}{cur:Array Value}{l:List Nat}(h:zX m cap cur l){k:Nat}(j:k<l.length):cur[k]?=some (.int .u32 ((l.getD k 0:Nat):Int)):=by
 have f:=zLo j;rw[←h.row.hxs,List.getElem?_take]at f;split at f
 ·simpa using f
 ·cases f
theorem zX.getD_lt{m cap:Nat}{cur:Array Value}{l:List Nat}(h:zX m cap cur l)(i:Nat):l.getD i 0<4294967296:=by
 by_cases f:i<l.length
 ·have:l.getD i 0=l[i]:=by simp[f]
  rw[this];exact h.lt _ (List.getElem_mem f)
 ·have:l.getD i 0=0:=by simp[List.getElem?_eq_none (Nat.le_of_not_lt f)]
  omega
theorem zX.set{m cap:Nat}{cur:Array Value}{l:List Nat}(h:zX m cap cur l){k y:Nat}(F:k<l.length)(G:y<4294967296):zX m cap (cur.setIfInBounds k (.int .u32 (y:Int))) (l.set k y):=by
 refine⟨⟨h.row.hn,h.row.hcap,by simpa using h.row.hsz,?_⟩,fun x C=>?_⟩
 ·have C:=h.row.hxs;rw[Array.toList_setIfInBounds,List.take_set,C];apply List.ext_getElem?;intro j;simp only[U32,List.getElem?_set,List.getElem?_map,List.length_map];by_cases e:k=j
  ·subst e;simp[F]
  ·simp[e]
 ·rcases List.mem_or_eq_of_mem_set C with f | f
  ·exact h.lt x f
  ·exact f▸G
section
variable {P:Program}{Q:Exit→Act→World→Prop}{K:Act→World→Prop}{a:Act}{o:Oper}{n d:Nat}{L:List (Nat×Value)}{D:List Deferred}{E:Nat→Prop}{w0 w:World}{X Y:Hid}{M:List (Nat×Obj)}
theorem St.rowCells(h:St E w0 X w Y M)(i:Nat){g:Nat}{cur:Array Value}{T:TypeId}{m cap:Nat}{l:List Nat}{k:Nat}(C:M[i]?=some (g,.cells cur T (0,0)))(hr:zX m cap cur l)(F:k<l.length):jE w ⟨g,k,none⟩ [.int .u32 ((l.getD k 0:Nat):Int)]:=by
 intro j v f;rcases j with _ | j
 ·simp at f;subst f;rw[jO,Nat.add_zero,cell_of_row w g k cur T _ (h.get i C)];exact hr.get F
 ·simp at f
theorem mV{t:TypeId}{I J:Operand}{g k:Nat}{T:TypeId}{m cap:Nat}{cur:Array Value}{l:List Nat}{e:Int}{y:Nat}(i:Nat)(N:Fr n a L D)(U:(nM L o&&o.dst.isNone)=true)(R:St E w0 X w Y M)
  (ho:o.op= .store t I J) (ha:evL L I= .pointer (some ⟨g,k,none⟩)) (hv:evL L J= .int .u32 e) (V:e=(y:Int)) (ht:ldT P t=some (false,1))
  (O:M[i]?=some (g,.cells cur T (0,0))) (f:zX m cap cur l) (W:k<l.length) (Z:y<4294967296)
  (C:∀j w1,zX m cap j (l.set k y)→St E w0 X w1 Y (M.set i (g,.cells j T (0,0)))→Le (rd w Y) (rd w1 Y)→K a w1):o.wp P a w K Q:=by
 subst V;have hlt:k<cur.size:=by
  have F:=f.len;have G:=f.row.hn;have h3:=f.row.hsz;omega
 refine zF (m:=1) (v:= .int .u32 (y:Int)) i _ N U R ho ha hv ht rfl rfl O (by omega) rfl rfl (fun w1 F G=>?_)
 exact C _ w1 (f.set W Z) F G
theorem zX.limbs{m cap:Nat}{cur:Array Value}{l:List Nat}(h:zX m cap cur l){g:Nat}{T:TypeId}(C:w.heap[g]?=some (.cells cur T (0,0)))(G:∀o,¬Y g o):zN (rd w Y) (some ⟨g,0,none⟩) m cap l:=by
 refine⟨h.len.symm,h.row.hn,(by have:=h.row.hcap;simpa[maxLen]using this),h.lt,.inr ⟨g,0,rfl,fun j v f=>?_⟩⟩
 have F:j<l.length:=by have:=(List.getElem?_eq_some_iff.1 f).1;simpa using this
 rw[jO,Nat.zero_add];refine rX ?_ (G _) (frozen_of_row w g j cur T C);rw[cell_of_row w g j cur T (0,0) C,h.get F];rw[zLo F]at f;exact f
end
def X0:Hid:=fun _ _=>False
theorem zZ(w:World):∀k o,X0 k o→k<w.heap.size:=fun _ _ h=>h.elim
theorem Le.x0{w:World}{Y:Hid}:Le (rd w Y) (rd w X0):=Le.unhide fun _ _ h=>h.elim
structure zIx(w w':World)(T:TypeId)(v:Value)(l:List Nat)(ad:Option Addr)(len cap:Nat):Prop where
 hv:v= .slice ad len cap
 hlen:len=l.length
 hlt:∀x∈l,x<4294967296
 own:(ad=none∧len=0∧cap=0)∨∃g cur,ad=some ⟨g,0,none⟩∧w.heap.size≤g∧w'.heap[g]?=some (.cells cur T (0,0))∧zX len cap cur l
theorem zIx.limbs{w w':World}{T:TypeId}{v:Value}{l:List Nat}{ad:Option Addr}{len cap:Nat}(h:zIx w w' T v l ad len cap){X:Hid}(j:∀k o,X k o→k<w.heap.size):zN (rd w' X) ad len cap l:=by
 rcases h.own with⟨rfl,f,F⟩ | ⟨g,cur,rfl,G,ho,hr⟩
 ·have:l=[]:=List.eq_nil_of_length_eq_zero (by rw[←h.hlen];exact f)
  subst this;exact⟨h.hlen,by omega,by omega,h.hlt,.inl rfl⟩
 ·exact hr.limbs ho (fun o C=>by have:=j g o C;omega)
theorem St.at0{E:Nat→Prop}{w0 w:World}{X Y:Hid}{M:List (Nat×Obj)}(h:St E w0 X w Y M)(i:Nat){b:Nat}{c:Array Value}{T:TypeId}(f:M[i]?=some (b,.cells c T (0,0))){vs:List Value}(hv:c.toList=vs):At (rd w X0) ⟨b,0,none⟩ vs:=by
 subst hv;intro j v C;rw[jO];refine rX ?_ (fun h=>h.elim) (frozen_of_row w b _ c T (h.get i f));rw[cell_of_row w b _ c T (0,0) (h.get i f)];simpa using C
def I64(l:List Int):List Value:=l.map fun x=>Value.int .i64 x
@[simp] theorem qRt (l:List Int):(I64 l).length=l.length:=by simp[I64]
theorem qIz{l:List Int}{i:Nat}(h:i<l.length):(I64 l)[i]?=some (.int .i64 (l.getD i 0)):=by simp[I64,h]
def orL:List Int→Int
 | []=>0
 | x::l=>if x=0 then orL l else x
theorem zHt:∀(l:List Int),(∀j,j<l.length→l.getD j 0=0)→orL l=0
 | [],_=>rfl
 | x::l,h=>by
  have f:=h 0 (by simp)
  simp at f;rw[orL,if_pos f];exact zHt l fun j C=>by have:=h (j+1) (by simpa using C);simpa using this
theorem zTy:∀(l:List Int)(k:Nat),k<l.length→(∀j,j<k→l.getD j 0=0)→l.getD k 0≠0→orL l=l.getD k 0
 | [],k,h,_,_=>by simp at h
 | x::l,0,_,_,h=>by simp at h ⊢;rw[orL,if_neg h]
 | x::l,k+1,F,h,f=>by
  have C:=h 0 (by omega)
  simp at C;rw[orL,if_pos C];have:=zTy l k (by simpa using F) (fun j G=>by have:=h (j+1) (by omega);simpa using this) (by simpa using f)
  simpa using this
theorem jCs(a:Nat)(h:a<4294967296):a / 2147483648=if a.testBit 31 then 1 else 0:=by
 rw[Nat.testBit_eq_decide_div_mod_eq];by_cases f:a / 2^31 % 2=1
 ·simp[f];omega
 ·simp[f];omega
theorem qCb(a:Nat)(h:a<4294967296):a.testBit 31=decide (2147483648≤a):=by
 rw[Nat.testBit_eq_decide_div_mod_eq];congr 1;apply propext;omega
theorem qAe(x y c d:Nat)(f:x<4294967296)(j:y<4294967296)(W:c≤1)(hd:d<4294967296)(e:(d:Int)=(((x:Int)-y) % 4294967296-c) % 4294967296):
  rU (wS (wD 4294967295 (x:Int)) (y:Int)) (wS (wD 4294967295 (wD (x:Int) (y:Int))) (d:Int)) / 2147483648=if(x:Int)<y+c then 1 else 0:=by
 have F:=aF 4294967295 x (by omega) f
 have G:=aF x y f j;have V:x^^^y<2^32:=Nat.xor_lt_two_pow (by omega) (by omega)
 have U:4294967295^^^x<2^32:=Nat.xor_lt_two_pow (by omega) (by omega)
 have I:=aF 4294967295 (x^^^y) (by omega) (by omega)
 have C:4294967295^^^(x^^^y)<2^32:=Nat.xor_lt_two_pow (by omega) (by omega)
 have J:=aD (4294967295^^^x) y (by omega) j
 have N:=aD (4294967295^^^(x^^^y)) d (by omega) hd
 have ha:(4294967295^^^x)&&& y<4294967296:=Nat.lt_of_le_of_lt Nat.and_le_left (by omega)
 have hb:(4294967295^^^(x^^^y))&&& d<4294967296:=Nat.lt_of_le_of_lt Nat.and_le_left (by omega)
 have O:=dS ((4294967295^^^x)&&& y) ((4294967295^^^(x^^^y))&&& d) ha hb;have R:((4294967295^^^x)&&& y)||| ((4294967295^^^(x^^^y))&&& d)<2^32:=Nat.or_lt_two_pow (by omega) (by omega)
 rw[show(4294967295:Int)=((4294967295:Nat):Int)from rfl,F,G,I,J,N,O];have ht:=jCs _ (by omega:((4294967295^^^x)&&& y)||| ((4294967295^^^(x^^^y))&&& d)<4294967296)
 rw[show((((4294967295^^^x)&&& y)||| ((4294967295^^^(x^^^y))&&& d):Nat):Int) / 2147483648=(((((4294967295^^^x)&&& y)||| ((4294967295^^^(x^^^y))&&& d)) / 2147483648:Nat):Int)from rfl,ht]
 simp only[Nat.testBit_or,Nat.testBit_and,Nat.testBit_xor,qCb x f,qCb y j,qCb d hd,show(4294967295:Nat).testBit 31=true from by decide]
 by_cases a1:2147483648≤x<;>by_cases a2:2147483648≤y<;>by_cases a3:2147483648≤d<;>simp only[a1,a2,a3,decide_true,decide_false,Bool.true_bne,Bool.false_bne,Bool.not_true,Bool.not_false,Bool.and_true,Bool.and_false,Bool.true_and,Bool.false_and,Bool.or_true,Bool.or_false,Bool.true_or,Bool.false_or,if_true,if_false,Bool.false_eq_true]<;>split<;>omega
end Go.Gv
namespace Go.Gv
theorem xH:∀{l:List Nat},(∀x∈l,x<4294967296)→val l<4294967296^l.length
 | [],_=>by simp[val]
 | x::l,h=>by
  have j:=xH (l:=l) fun y f=>h y (List.mem_cons_of_mem _ f);have F:=h x List.mem_cons_self;simp only[val,List.length_cons,Nat.pow_succ];have:val l+1≤4294967296^l.length:=j;have C:(val l+1)*4294967296≤4294967296^l.length*4294967296:=Nat.mul_le_mul_right _ this;omega
theorem dM:∀(l:List Nat)(x:Nat),val (l++[x])=val l+x*4294967296^l.length
 | [],x=>by simp[val]
 | y::l,x=>by
  simp only[List.cons_append,val,dM l x,List.length_cons,Nat.pow_succ,Nat.mul_add];rw[show 4294967296*(x*4294967296^l.length)=x*(4294967296^l.length*4294967296)by ac_rfl]
  omega
theorem yQ(l:List Nat)(k:Nat)(h:k<l.length):val (l.take (k+1))=val (l.take k)+l.getD k 0*4294967296^k:=by
 rw[List.take_succ_eq_append_getElem h,dM];simp[h,Nat.min_eq_left (Nat.le_of_lt h)]
theorem nJ:∀(l:List Nat)(k y:Nat),k<l.length→val (l.set k y)+l.getD k 0*4294967296^k=val l+y*4294967296^k
 | [],k,y,h=>by simp at h
 | x::l,0,y,_=>by simp[val];omega
 | x::l,k+1,y,h=>by
  have C:=nJ l k y (by simpa using h)
  simp only[List.set_cons_succ,val,List.getD_cons_succ,Nat.pow_succ];have f:l.getD k 0*(4294967296^k*4294967296)=4294967296*(l.getD k 0*4294967296^k):=by ac_rfl
  have j:y*(4294967296^k*4294967296)=4294967296*(y*4294967296^k):=by ac_rfl
  rw[f,j];omega
theorem vJ(m:Nat):val (List.replicate m 0)=0:=by
 induction m with
 | zero=>rfl
 | succ m f=>simp[List.replicate_succ,val,f]
theorem xD{l:List Nat}{k j y:Nat}(h:k≠j):(l.set k y).getD j 0=l.getD j 0:=by simp[List.getElem?_set_ne h]
theorem zEp(l:List Nat):∀k,val (l.take k)≤val l
 | 0=>by simp[val]
 | k+1=>by
  rcases l with _ | ⟨x,l⟩
  ·simp[val]
  ·simp only[List.take_succ_cons,val];have:=zEp l k;omega
theorem zIq(l:List Nat):∀k,k≤l.length→val (l.take (yX l k))=val (l.take k)
 | 0,_=>rfl
 | k+1,h=>by
  by_cases f:l.getD k 0=0
  ·rw[dL f,zIq l k (by omega),yQ l k (by omega),f];omega
  ·rw[dK f]
theorem zIn(l:List Nat):∀k,0<yX l k→l.getD (yX l k-1) 0≠0
 | 0,h=>by simp[yX]at h
 | k+1,h=>by
  by_cases f:l.getD k 0=0
  ·rw[dL f]at h ⊢;exact zIn l k h
  ·rw[dK f];simpa using f
theorem jK(l:List Nat):val (trimmed l)=val l:=by
 unfold trimmed qV;rw[zIq l l.length (Nat.le_refl _),List.take_length]
theorem qY(l:List Nat):zW (trimmed l):=by
 unfold zW;rw[jM];by_cases h:qV l=0
 ·exact .inl h
 ·refine .inr ?_;have f:=zIn l l.length (by unfold qV at h;omega)
  have j:=rQ l l.length;unfold trimmed;unfold qV at *;rw[zh,List.getElem?_take,if_pos (by omega),←zh]
  exact f
theorem tH{l:List Nat}(h:∀x∈l,x<4294967296):∀x∈trimmed l,x<4294967296:=fun x f=>h x (List.mem_of_mem_take f)
theorem tT{l:List Nat}(j:zW l)(h:l≠[]):4294967296^(l.length-1)≤val l:=by
 have hlen:0<l.length:=List.length_pos_iff.2 h;rcases j with f | f
 ·omega
 ·have:=yQ l (l.length-1) (by omega)
  rw[show l.length-1+1=l.length by omega,List.take_length]at this
  have hp:1≤l.getD (l.length-1) 0:=Nat.one_le_iff_ne_zero.2 f;have:=Nat.mul_le_mul_right (4294967296^(l.length-1)) hp;omega
theorem zYb:∀{l m:List Nat},(∀x∈l,x<4294967296)→(∀x∈m,x<4294967296)→l.length=m.length→val l=val m→l=m
 | [],[],_,_,_,_=>rfl
 | [],_::_,_,_,h,_=>by simp at h
 | _::_,[],_,_,h,_=>by simp at h
 | x::l,y::m,j,C,hlen,hv=>by
  simp only[val]at hv;have I:=j x List.mem_cons_self;have J:=C y List.mem_cons_self;have F:x=y:=by omega
  have G:val l=val m:=by omega
  rw[F,zYb (fun z f=>j z (List.mem_cons_of_mem _ f)) (fun z f=>C z (List.mem_cons_of_mem _ f)) (by simpa using hlen) G]
theorem qB{l m:List Nat}(C:∀x∈l,x<4294967296)(F:zW m)(h:val m≤val l):m.length≤l.length:=by
 by_cases f:m=[]
 ·simp[f]
 ·have G:=tT F f;have I:=xH C;have j:4294967296^(m.length-1)<4294967296^l.length:=by omega
  have:=(Nat.pow_lt_pow_iff_right (by omega)).1 j
  omega
theorem zJp{l m:List Nat}(f:∀x∈l,x<4294967296)(j:∀x∈m,x<4294967296)(cl:zW l)(cm:zW m)(h:val l=val m):l=m:=by
 refine zYb f j ?_ h;have C:=qB f cm (by omega)
 have F:=qB j cl (by omega)
 omega
theorem aG{l:List Nat}(cl:zW l)(h:val l=0):l=[]:=by
 rcases Classical.em (l=[])with f | f
 ·exact f
 ·have:=tT cl f;have:0<4294967296^(l.length-1):=Nat.pos_of_ne_zero (by simp)
  omega
theorem zV{l:List Nat}(C:∀x∈l,x<4294967296)(cl:zW l)(k:Nat):l.length≤k↔val l<4294967296^k:=by
 constructor
 ·intro h;exact Nat.lt_of_lt_of_le (xH C) (Nat.pow_le_pow_right (by omega) h)
 ·intro h;rcases Nat.lt_or_ge k l.length with f | f
  ·have j:l≠[]:=fun e=>by simp[e]at f
   have F:=tT cl j;have G:4294967296^k≤4294967296^(l.length-1):=Nat.pow_le_pow_right (by omega) (by omega)
   omega
  ·exact f
theorem zKy{i len:Nat}{v:Nat}(h:4294967296^i≤v)(f:v<4294967296^len):i<len:=(Nat.pow_lt_pow_iff_right (by omega:1<4294967296)).1 (by omega)
theorem zBx(l:List Nat)(k x c:Nat)(h:k<l.length):val (l.set k ((l.getD k 0+x+c) % 4294967296))+(l.getD k 0+x+c) / 4294967296*4294967296^(k+1)=val l+x*4294967296^k+c*4294967296^k:=by
 have j:=nJ l k ((l.getD k 0+x+c) % 4294967296) h;generalize hs:l.getD k 0+x+c=s at *;have f:s % 4294967296+4294967296*(s / 4294967296)=s:=Nat.mod_add_div s 4294967296;have C:(s % 4294967296)*4294967296^k+s / 4294967296*4294967296^(k+1)=s*4294967296^k:=by
  rw[Nat.pow_succ,show s / 4294967296*(4294967296^k*4294967296)=4294967296*(s / 4294967296)*4294967296^k by ac_rfl,←Nat.add_mul,f]
 have F:s*4294967296^k=l.getD k 0*4294967296^k+x*4294967296^k+c*4294967296^k:=by rw[←hs,Nat.add_mul,Nat.add_mul]
 omega
end Go.Gv
namespace Go.Gv
open Go.RowKit IntKind
section
variable {P:Program}{ops:Array Oper}{Q:Exit→Act→World→Prop}{S:World→Prop}{T:List Nat}
def jA(T:List Nat)(listed:Array Bool):Bool:=T.any fun t=>listed.getD t false
def wpT(P:Program)(ops:Array Oper)(Q:Exit→Act→World→Prop)(S:World→Prop)(T:List Nat):Nat→Array Bool→Act→World→Prop
 | 0,listed,a,w=>Region.ready .any ops listed=[]∧Q .normal a w
 | fuel+1,listed,a,w=>
  (Region.ready .any ops listed=[]→Q .normal a w)∧
  ∀i∈Region.ready .any ops listed,wpOp P ops Q i (fun a' w'=>(jA T (listed.setIfInBounds i true)=false→S w')∧wpT P ops Q S T fuel (listed.setIfInBounds i true) a' w') a w
theorem zIt:∀(fuel:Nat)(listed:Array Bool)(a:Act)(w:World),wpT P ops Q S T fuel listed a w→wpAny P .any ops Q fuel listed a w
 | 0,_,_,_,h=>h
 | fuel+1,_,_,_,h=>⟨h.1,fun i f=>wpOp_mono (fun a' w' h'=>zIt fuel _ a' w' h'.2) (h.2 i f)⟩
theorem nY{listed:Array Bool}{p:Prop}(h:jA T listed=true):jA T listed=false→p:=fun h'=>by rw[h]at h';cases h'
theorem vT{listed:Array Bool}{j:Nat}(C:j∉T):jA T (listed.setIfInBounds j true)=jA T listed:=by
 unfold jA;rw[Bool.eq_iff_iff,List.any_eq_true,List.any_eq_true];constructor
 ·rintro⟨t,ht,h⟩;have f:j≠t:=fun e=>C (by rw[e];exact ht)
  exact⟨t,ht,by rwa[getD_set_ne false f]at h⟩
 ·rintro⟨t,ht,h⟩;have f:j≠t:=fun e=>C (by rw[e];exact ht)
  exact⟨t,ht,by rwa[getD_set_ne false f]⟩
theorem zZi{listed:Array Bool}{i j:Nat}{I:Oper}(U:ops[j]?=some I)(hr:j∈Region.ready .any ops listed)(R:i∈Region.ready .any ops listed):∀e∈I.after,Region.binds .any e=true→e.on≠i:=by
 intro e O hb F;obtain⟨_,J,G,C⟩:=mem_ready.1 hr;have:J=I:=Option.some.inj (G.symm.trans U);subst this;have f:=C e O hb;have N:=(mem_ready.1 R).1;rw[F]at f;rcases Nat.lt_or_ge i listed.size with h' | h'
 ·simp[h']at N f;rw[N]at f;cases f
 ·simp[Array.getElem?_eq_none h']at f
theorem lC{i:Nat}{oi:Oper}{v:Value}(hi:ops[i]?=some oi)(O:∀(j:Nat)(o:Oper)cs b,ops[j]?=some o→o.op≠.select cs b)
  (hQ:∀c a w,Q (.panic c) (a.put oi.dst v) w→Q (.panic c) a w) (I:World→Prop)
  (hT:(∀w,I w)∨((∀w,S w→I w)∧∀t∈T,∀ot,ops[t]?=some ot→∃e∈ot.after,Region.binds .any e=true∧e.on=i)) (Z:i∉T):
  ∀(fuel:Nat)(listed:Array Bool)(a:Act)(w:World),
   (∀j oj,ops[j]?=some oj→j≠i→listed.getD j true=false→(∀e∈oj.after,Region.binds .any e=true→e.on≠i)→oi.apart ops oj=true)→
   i∈Region.ready .any ops listed→YieldsIf P ops I oi v a→((∀w,I w)∨jA T listed=false)→(jA T listed=false→S w)→I w→
   wpT P ops Q S T fuel (listed.setIfInBounds i true) (a.put oi.dst v) w→wpT P ops Q S T (fuel+1) listed a w:=by
 intro fuel;induction fuel with
 | zero=>
  intro listed a w _ hr hy _ hS V H;refine⟨fun h=>(by rw[h]at hr;cases hr),fun j hj=>?_⟩
  by_cases f:j=i
  ·subst f;exact hy.wpOp hi V ⟨fun hb=>hS (by rwa[vT Z]at hb),H⟩
  ·have:=ready_mono hj f;rw[H.1]at this;cases this
 | succ fuel ih=>
  intro listed a w C hr hy hbt hS V H;refine⟨fun h=>(by rw[h]at hr;cases hr),fun j hj=>?_⟩
  by_cases f:j=i
  ·subst f;exact hy.wpOp hi V ⟨fun hb=>hS (by rwa[vT Z]at hb),H⟩
  ·have h1:=H.2 j (ready_mono hj f);obtain⟨J,oj,F,hall⟩:=mem_ready.1 hj;have N:=zZi F hj hr;have hjT:(∀w,I w)∨j∉T:=hT.imp id fun h hjt=>by
    obtain⟨e,he,hb,hon⟩:=h.2 j hjt oj F;exact N e he hb hon
   have h2:=wpOp_putIf F (C j oj F f J N) (fun cs b=>O i oi cs b hi) (fun cs b=>O j oj cs b F) hQ hy h1;have G:∀k ok,ops[k]?=some ok→k≠i→(listed.setIfInBounds j true).getD k true=false→
     (∀e∈ok.after,Region.binds .any e=true→e.on≠i)→oi.apart ops ok=true:=fun k ok hk hki hun hno=>by
    refine C k ok hk hki ?_ hno;by_cases hjk:j=k
    ·subst hjk;exact J
    ·rw[getD_set_ne true hjk]at hun;exact hun
   refine wpOp_mono (fun a' w' h3=>?_) h2;have hb':(∀w,I w)∨jA T (listed.setIfInBounds j true)=false:=by
    rcases hjT with h | h
    ·exact .inl h
    ·rcases hbt with h' | h'
     ·exact .inl h'
     ·exact .inr (by rw[vT h];exact h')
   have W:jA T ((listed.setIfInBounds i true).setIfInBounds j true)=jA T (listed.setIfInBounds j true):=by
    rw[Array.setIfInBounds_comm _ _ (fun e=>f e.symm)];exact vT Z
   have U:jA T (listed.setIfInBounds j true)=false→S w':=fun hb=>h3.2.1 (by rw[W];exact hb)
   have hSx':I w':=by
    rcases hb' with h | h
    ·exact h w'
    ·rcases hT with R | R
     ·exact R w'
     ·exact R.1 w' (U h)
   refine⟨U,ih (listed.setIfInBounds j true) a' w' G (ready_mono hr (Ne.symm f)) h3.1 hb' U hSx' ?_⟩;rw[Array.setIfInBounds_comm _ _ f];exact h3.2.2
def zIr(ops:Array Oper)(T:List Nat)(i:Nat):Bool:=T.all fun t=>match ops[t]? with
 | some f=>f.after.any fun e=>Region.binds .any e&&e.on==i
 | none=>true
theorem zIs{i:Nat}(h:zIr ops T i=true):∀t∈T,∀j,ops[t]?=some j→∃e∈j.after,Region.binds .any e=true∧e.on=i:=by
 intro t ht j f;have:=List.all_eq_true.1 h t ht;simp only[f]at this;obtain⟨e,C,hb⟩:=Array.any_eq_true'.1 this;simp only[zd,beq_iff_eq]at hb;exact⟨e,C,hb.1,hb.2⟩
def aX(ops:Array Oper)(T:List Nat)(listed:Array Bool)(i:Nat):Bool:=Region.noSelect ops&&(Region.free .any ops listed i&&((Region.ready .any ops listed).contains i&&!T.contains i))
variable {K:Act→World→Prop}{a:Act}{o:Oper}{n d:Nat}{L:List (Nat×Value)}{D:List Deferred}{E:Nat→Prop}{w0 w:World}{X Y:Hid}{M:List (Nat×Obj)}
theorem rO{listed:Array Bool}{i:Nat}(h:aX ops T listed i=true):Region.noSelect ops=true∧Region.free .any ops listed i=true∧i∈Region.ready .any ops listed∧i∉T:=by
 simp only[aX,zd]at h;refine⟨h.1,h.2.1,by simpa using h.2.2.1,?_⟩
 have:=h.2.2.2;intro f;simp[f]at this
theorem zJ{fuel:Nat}{listed:Array Bool}{v:Value}(i:Nat)(C:Fr n a L D)(F:ops[i]?=some o)(U:aX ops T listed i=true)(j:chk ops L o d n=true)
  (f:∀w,(execOp (evL L) o).run P w= .ok (.value v) w) (R:jA T listed=false→S w)
  (k:∀a1,Fr n a1 ((d,v)::L) D→wpT P ops Q S T fuel (listed.setIfInBounds i true) a1 w) (O:∀c a w,Q (.panic c) (a.put o.dst v) w→Q (.panic c) a w:=by exact fun _ _ _ h=>h):wpT P ops Q S T (fuel+1) listed a w:=by
 obtain⟨G,I,J,N⟩:=rO U;simp only[chk,zd]at j;obtain⟨hd,hlt⟩:=qH j.2.2;refine lC F (Region.noSelect_spec G) O (fun _=>True) (.inl fun _=>trivial) N fuel listed a w (Region.free_spec F I) J (.inl ⟨C.wanted j.1,fun w _=>by rw[C.exec j.2.1];exact f w⟩) (.inl fun _=>trivial) R trivial ?_
 rw[hd];exact k _ (C.put hlt v)
theorem nR{fuel:Nat}{listed:Array Bool}{v:Value}(i:Nat)(C:Fr n a L D)(I:ops[i]?=some o)(V:aX ops T listed i=true)(F:(zIr ops T i&&!jA T listed)=true)(j:chk ops L o d n=true)
  (f:∀w,S w→(execOp (evL L) o).run P w= .ok (.value v) w) (G:S w)
  (k:∀a1,Fr n a1 ((d,v)::L) D→wpT P ops Q S T fuel (listed.setIfInBounds i true) a1 w) (U:∀c a w,Q (.panic c) (a.put o.dst v) w→Q (.panic c) a w:=by exact fun _ _ _ h=>h):wpT P ops Q S T (fuel+1) listed a w:=by
 obtain⟨J,N,O,R⟩:=rO V;simp only[chk,zd,Bool.not_eq_true']at j F;obtain⟨hd,hlt⟩:=qH j.2.2;refine lC I (Region.noSelect_spec J) U S (.inr ⟨fun _ h=>h,zIs F.1⟩) R fuel listed a w (Region.free_spec I N) O (.inl ⟨C.wanted j.1,fun w hs=>by rw[C.exec j.2.1];exact f w hs⟩) (.inr F.2) (fun _=>G) G ?_
 rw[hd];exact k _ (C.put hlt v)
theorem mZ{fuel:Nat}{listed:Array Bool}(h:S w)(k:S w→wpT P ops Q S T fuel listed a w):wpT P ops Q S T fuel listed a w:=k h
theorem wV{A B C:Prop}(h:A)(k:A→B):(C→A)∧B:=⟨fun _=>h,k h⟩
def yH(P:Program)(ops:Array Oper)(Q:Exit→Act→World→Prop)(S:World→Prop)(T:List Nat)(fuel:Nat)(listed:Array Bool)(a:Act)(w:World)(rs:List Nat):Prop:=
 ∀i∈rs,wpOp P ops Q i (fun a' w'=>(jA T (listed.setIfInBounds i true)=false→S w')∧wpT P ops Q S T fuel (listed.setIfInBounds i true) a' w') a w
theorem tF{fuel:Nat}{listed:Array Bool}(rs:List Nat)(hr:Region.ready .any ops listed=rs)(f:rs.isEmpty=false)(h:yH P ops Q S T fuel listed a w rs):wpT P ops Q S T (fuel+1) listed a w:=
 ⟨fun j=>(by rw[hr]at j;subst j;cases f),hr▸h⟩
theorem yH.nil{fuel:Nat}{listed:Array Bool}:yH P ops Q S T fuel listed a w []:=fun i f=>by cases f
theorem yH.cons{fuel:Nat}{listed:Array Bool}{i:Nat}{rs:List Nat}(C:Fr n a L D)(F:ops[i]?=some o)(G:yY ops L o true=true)
  (h:o.wp P a w (fun a' w'=>(jA T (listed.setIfInBounds i true)=false→S w')∧wpT P ops Q S T fuel (listed.setIfInBounds i true) a' w') Q) (k:yH P ops Q S T fuel listed a w rs):yH P ops Q S T fuel listed a w (i::rs):=fun j f=>by
 rcases List.mem_cons.1 f with rfl | f
 ·unfold wpOp;simp only[F,C.wanted G,if_true];exact .inl h
 ·exact k j f
theorem zDs{fuel:Nat}{listed:Array Bool}(hr:Region.ready .any ops listed=[])(h:Q .normal a w):wpT P ops Q S T fuel listed a w:=by
 cases fuel with
 | zero=>exact⟨hr,h⟩
 | succ f=>exact⟨fun _=>h,by rw[hr];simp⟩
def vZ(Q:Exit→Act→World→Prop):Exit→Act→World→Prop
 | .normal,a,w=>Q .normal a w
 | _,_,_=>False
theorem nrm(h:Q .normal a w):vZ Q .normal a w:=h
theorem qLp{r:Option Nat}{m:Nat}{id N:Nat}(S:World→Prop)(T:List Nat)(C:P.follows .mixedOrders=true)(f:ops.size=N)(hd:ops.all (fun o=>xY o.op)=true)(F:¬LetsOut Q)(j:St E w0 X w Y M)
  (k:∀w1,St E w0 X w1 Y M→Le (rd w Y) (rd w1 Y)→Upd E0 w w1→wpT P ops Q S T N (Array.replicate N false) a w1):(Code.region id ops true).wpIn (FF r) m P Q a w:=by
 subst f;refine wpIn_region_draw fun t=>zWx (fun i o ho=>Array.all_eq_true_iff_forall_mem.1 hd o (Array.mem_of_getElem? ho)) F _ _ _ ?_;simp only[Region.schedule,C,Bool.true_or,if_true];exact wpAny_sound ops.size t _ a _ (zIt _ _ _ _ (k w.drew (j.call (Upd.drew w)) ((Upd.drew w).le Y) (Upd.drew w)))
theorem cK{r:Option Nat}{m:Nat}{id N:Nat}(S:World→Prop)(T:List Nat)(C:P.follows .mixedOrders=true)(f:ops.size=N)(hd:ops.all (fun o=>xY o.op)=true)(j:St E w0 X w Y M)
  (k:∀w1,St E w0 X w1 Y M→Le (rd w Y) (rd w1 Y)→Upd E0 w w1→wpT P ops (vZ Q) S T N (Array.replicate N false) a w1):(Code.region id ops true).wpIn (FF r) m P Q a w:=
 wpIn_mono (qLp S T C f hd (fun⟨_,_,h⟩=>h) j k) fun e a w h=>by cases e<;>first | exact h | exact h.elim
end
theorem St.ne{E:Nat→Prop}{w0 w:World}{X Y:Hid}{M:List (Nat×Obj)}(h:St E w0 X w Y M){i j b C:Nat}{o o':Obj}(F:M[i]?=some (b,o))(G:M[j]?=some (C,o'))(f:i≠j):b≠C:=by
 intro e;refine f (zDe h.nd (i:=i) (j:=j) (x:=b) ?_ ?_)
 ·rw[List.getElem?_map,F];rfl
 ·rw[List.getElem?_map,G];simp[e]
theorem St.start2{w:World}{X:Hid}{b1 b2:Nat}{C F:Obj}(j:∀k o,X k o→k<w.heap.size)(G:w.heap[b1]?=some C)(I:w.heap[b2]?=some F)(x1:∀o,X b1 o)(x2:∀o,X b2 o)(f:b1≠b2):
  St (fun k=>k=b1∨k=b2) w X w X [(b1,C),(b2,F)]:=
 ⟨Upd.refl _ _,j,fun _ _ h=>h,fun p hp=>by
  simp only[List.mem_cons,List.not_mem_nil,or_false]at hp;rcases hp with rfl | rfl
  ·exact⟨G,.inr (.inl rfl),x1⟩
  ·exact⟨I,.inr (.inr rfl),x2⟩,by simp[f],j⟩
theorem St.atX{E:Nat→Prop}{w0 w:World}{X Y:Hid}{M:List (Nat×Obj)}(h:St E w0 X w Y M)(i:Nat){b:Nat}{c:Array Value}{T:TypeId}(C:M[i]?=some (b,.cells c T (0,0))){f:Hid}(G:∀o,¬f b o):At (rd w f) ⟨b,0,none⟩ c.toList:=by
 intro j v F;rw[jO];refine rX ?_ (G _) (frozen_of_row w b _ c T (h.get i C));rw[cell_of_row w b _ c T (0,0) (h.get i C)];simpa using F
end Go.Gv
namespace Go.Gv
theorem zX.of(l:List Nat)(h:∀x∈l,x<4294967296)(hb:l.length≤maxLen){c:Array Value}(f:c.toList=U32 l){n:Nat}(hn:n=l.length):zX n n c l:=by
 subst hn;refine⟨⟨Nat.le_refl _,hb,?_,?_⟩,h⟩
 ·rw[←Array.length_toList,f];simp
 ·rw[f,Nat.mul_one];exact List.take_of_length_le (by simp)
theorem qBk(l:List Nat)(k:Nat):U32 (l.take k)=(U32 l).take k:=by simp[U32]
theorem zX.trimmed{m cap:Nat}{cur:Array Value}{l:List Nat}(h:zX m cap cur l):zX (qV l) cap cur (trimmed l):=by
 have j:=rQ l l.length;have C:=h.len;have f:qV l≤m:=by unfold qV;omega
 refine⟨⟨Nat.le_trans f h.row.hn,h.row.hcap,h.row.hsz,?_⟩,tH h.lt⟩;rw[Go.Gv.trimmed,qBk,←h.row.hxs,List.take_take];congr 1;omega
def zBr(a x c:Nat):Nat:=(a+8589934592-x-c) % 4294967296
def brw(a x c:Nat):Nat:=if a<x+c then 1 else 0
theorem zXv(a x c:Nat):zBr a x c<4294967296:=Nat.mod_lt _ (by omega)
theorem qCd(a x c:Nat):brw a x c≤1:=by unfold brw;split<;>omega
theorem qHy(a x c:Nat)(ha:a<4294967296)(j:x<4294967296)(f:c≤1):zBr a x c+x+c=a+brw a x c*4294967296:=by unfold zBr brw;split<;>omega
theorem zBz(l:List Nat)(k x c:Nat)(h:k<l.length)(ha:l.getD k 0<4294967296)(F:x<4294967296)(C:c≤1):
  val (l.set k (zBr (l.getD k 0) x c))+x*4294967296^k+c*4294967296^k=val l+brw (l.getD k 0) x c*4294967296^(k+1):=by
 have G:=nJ l k (zBr (l.getD k 0) x c) h;have f:=qHy (l.getD k 0) x c ha F C;have j:(zBr (l.getD k 0) x c+x+c)*4294967296^k=(l.getD k 0+brw (l.getD k 0) x c*4294967296)*4294967296^k:=by rw[f]
 rw[Nat.add_mul,Nat.add_mul,Nat.add_mul,Nat.mul_assoc (brw _ _ _),show 4294967296*4294967296^k=4294967296^(k+1)by rw[Nat.pow_succ,Nat.mul_comm]]at j
 omega
theorem qOm(f l2:List Nat)(j c V:Nat)(F:j<l2.length)(G:j<f.length)(ha:f.getD j 0<4294967296)(I:l2.getD j 0<4294967296)(C:c≤1)(h:val f+val (l2.take j)=V+c*4294967296^j):
  val (f.set j (zBr (f.getD j 0) (l2.getD j 0) c))+val (l2.take (j+1))=V+brw (f.getD j 0) (l2.getD j 0) c*4294967296^(j+1):=by
 have J:=zBz f j (l2.getD j 0) c G ha I C;rw[yQ l2 j F];omega
theorem qHz(f:List Nat)(j c V W:Nat)(F:j<f.length)(ha:f.getD j 0<4294967296)(C:c≤1)(h:val f+W=V+c*4294967296^j):
  val (f.set j (zBr (f.getD j 0) 0 c))+W=V+brw (f.getD j 0) 0 c*4294967296^(j+1):=by
 have G:=zBz f j 0 c F ha (by omega) C
 omega
theorem tJ(l:List Nat):∀k,val l=val (l.take k)+4294967296^k*val (l.drop k):=by
 induction l with
 | nil=>intro k;simp[val]
 | cons x l f=>
  intro k;rcases k with _ | k
  ·simp[val]
  ·simp only[List.take_succ_cons,List.drop_succ_cons,val];rw[f k,Nat.pow_succ,Nat.mul_add];have:4294967296*(4294967296^k*val (l.drop k))=4294967296^k*4294967296*val (l.drop k):=by ac_rfl
   omega
theorem pX{l m:List Nat}(hlen:l.length=m.length)(k:Nat)(h:∀j,k≤j→j<l.length→l.getD j 0=m.getD j 0):l.drop k=m.drop k:=by
 apply List.ext_getElem?;intro i;rw[List.getElem?_drop,List.getElem?_drop];by_cases f:k+i<l.length
 ·have:=h (k+i) (by omega) f
  have C:k+i<m.length:=by omega
  simp only[zh,List.getElem?_eq_getElem f,List.getElem?_eq_getElem C,Option.getD_some]at this ⊢;rw[this]
 ·rw[List.getElem?_eq_none (by omega),List.getElem?_eq_none (by omega)]
theorem zBu{l:List Nat}(h:∀x∈l,x<4294967296)(k:Nat)(f:k≤l.length):val (l.take k)<4294967296^k:=by
 have:=xH (l:=l.take k) (fun x j=>h x (List.mem_of_mem_take j));rwa[List.length_take,Nat.min_eq_left f]at this
theorem zYa{l m:List Nat}(F:∀x∈l,x<4294967296)(hlen:l.length=m.length)(k:Nat)(C:k<l.length)(h:∀j,k+1≤j→j<l.length→l.getD j 0=m.getD j 0)(hlt:l.getD k 0<m.getD k 0):val l<val m:=by
 rw[tJ l (k+1),tJ m (k+1),pX hlen (k+1) h,yQ l k C,yQ m k (by omega)]
 have G:=zBu F k (by omega)
 have f:(l.getD k 0+1)*4294967296^k≤m.getD k 0*4294967296^k:=Nat.mul_le_mul_right _ hlt;rw[Nat.add_mul]at f;omega
theorem jAr{l m:List Nat}(hlen:l.length=m.length)(h:∀j,0≤j→j<l.length→l.getD j 0=m.getD j 0):val l=val m:=by
 have:=pX hlen 0 h;rw[List.drop_zero,List.drop_zero]at this;rw[this]
theorem zEo{l m:List Nat}(f:∀x∈l,x<4294967296)(cm:zW m)(h:l.length<m.length):val l<val m:=by
 have j:=xH f;have C:=tT cm (fun e=>by simp[e]at h)
 have F:4294967296^l.length≤4294967296^(m.length-1):=Nat.pow_le_pow_right (by omega) (by omega)
 omega
end Go.Gv
namespace Go.Gv
open Go.RowKit IntKind
structure zOe(rec:Loop)(tm:Array Value)(ps:Array Tmp)(assign body:Code):Prop where
 hs:rec.state= .ready
 hp:rec.pending=none
 ht:rec.tmps=tm
 hps:rec.params=ps
 ha:rec.assign=assign
 hb:rec.body=body
def wC(P:Program)(Q:Exit→Act→World→Prop)(A:Act)(l:Nat)(f:World):Prop:=
 ∃rec,f.heap[l]?=some (.loop rec)∧rec.state≠.busy∧
  (match rec.pending with
   | none=>Q .normal A (f.putObj l (.loop {rec with state:= .exhausted}))
   | some c=>c.wpIn (FF none) 0 P Q A (f.putObj l (.loop {rec with state:= .exhausted})))
section
variable {P:Program}{Q:Exit→Act→World→Prop}{a A:Act}{w w0:World}{n:Nat}{L:List (Nat×Value)}{D:List Deferred}{E:Nat→Prop}{X Y:Hid}{M:List (Nat×Obj)}{rec:Loop}{tm:Array Value}{ps:Array Tmp}{assign body:Code}{l:Nat}
def zOm(rec:Loop):Loop:={rec with state:= .busy}
def qKo(rec:Loop):Loop:={rec with state:= .exhausted}
def zZy(rec:Loop):Loop:={rec with state:= .done,pending:=some .ret}
def Act.marked(a:Act)(b:Nat):Act:={a with defers:=mark b::a.defers}
theorem zCn(b:Nat)(f:Fr n a L D):Fr n (Act.marked a b) L (mark b::D):=⟨f.size,by show mark b::a.defers=_;rw[f.defers],f.get⟩
theorem zGx{g:Operand}{f:FuncId}{caps:Array Value}(I:Fr n a L D)(J:St E w0 X w Y M)(N:cov L g=true)(O:evL L g= .func (.func f) #[] caps)
  (hcall:∀args w,(callFunc f args).run P w= .ok (.enter f args) w)
  (k:∀(rec:Loop)l b w1 j,zOe rec a.tmps ps assign body→St E w0 X w1 j ((l,.loop rec)::(b,.deferred (some []))::M)→Le (rd w Y) (rd w1 j)→Upd E0 w w1→
   Calls P f (#[.func (.yield l) #[] #[]]++caps) w1 (fun e R=>(∃v,e= .returned v)∧wC P Q (Act.marked a b) l R)):
  (Code.rangeFunc g ps assign body).wpIn (FF none) 0 P Q a w:=
 qLr I J N O hcall fun fn l b w1 j C F G=>k _ l b w1 j ⟨rfl,rfl,rfl,rfl,rfl,rfl⟩ C F G
theorem wC.norm(hr:zOe rec tm ps assign body)(f:St E w0 X w Y ((l,.loop rec)::M))(k:∀w1,St E w0 X w1 Y ((l,.loop (qKo rec))::M)→Le (rd w Y) (rd w1 Y)→Q .normal A w1):wC P Q A l w:=by
 refine⟨rec,f.get 0 rfl,by rw[hr.hs];simp,?_⟩
 split
 ·exact k _ (f.putObj 0 rfl).1 (f.putObj (o':= .loop (qKo rec)) 0 rfl).2
 ·rename_i c j;rw[hr.hp]at j;cases j
theorem wC.ret(f:St E w0 X w Y ((l,.loop (zZy rec))::M))(k:∀w1,St E w0 X w1 Y ((l,.loop (qKo (zZy rec)))::M)→Le (rd w Y) (rd w1 Y)→Q .ret A w1):wC P Q A l w:=by
 refine⟨zZy rec,f.get 0 rfl,by simp[zZy],?_⟩
 exact mI (k _ (f.putObj 0 rfl).1 (f.putObj (o':= .loop (qKo (zZy rec))) 0 rfl).2)
theorem zIu{R:Ending→World→Prop}{p q:Nat}{v u:Value}(hr:zOe rec a.tmps #[p,q] assign body)(F:Fr n a L D)(G:St E w0 X w Y ((l,.loop rec)::M))(hp:Nat.blt p n=true)(I:Nat.blt q n=true)
  (k:∀a1,Fr n a1 ((q,u)::(p,v)::L)→assign.wpIn (FF (some l)) 0 P (Exit.then (fun j C=>∃f,(Instr.beginRound l).run P C= .ok () f∧body.wpIn (FF (some l)) 0 P (roundPost P l R) j f) (fun _ _ _=>False)) a1 w):YieldAt (FF none) 0 P l #[v,u] w R:=by
 refine zYg 0 G rfl (by rw[hr.hps];rfl) ?_
 rw[hr.ha,hr.hb,hr.hps,hr.ht];exact k _ (zZa F (by simpa[Nat.blt_eq]using hp) (by simpa[Nat.blt_eq]using I))
theorem zCc{c:Code}{R:Ending→World→Prop}(hr:zOe rec tm ps assign body)(j:St E w0 X w Y ((l,.loop rec)::M))
  (k:∀w1,St E w0 X w1 Y ((l,.loop (zOm rec))::M)→Le (rd w Y) (rd w1 Y)→c.wpIn (FF (some l)) 0 P (roundPost P l R) a w1):
  ∃f,(Instr.beginRound l).run P w= .ok () f∧c.wpIn (FF (some l)) 0 P (roundPost P l R) a f:=qOx 0 j rfl hr.hs k
theorem lY{R:Ending→World→Prop}(hr:zOe rec tm ps assign body)(C:St E w0 X w Y ((l,.loop (zOm rec))::M))
  (k:∀w1,St E w0 X w1 Y ((l,.loop rec)::M)→Le (rd w Y) (rd w1 Y)→R (.returned (.bool true)) w1):roundPost P l R .normal a w:=by
 refine jAx 0 C rfl fun w1 f j=>k w1 ?_ j;have:({zOm rec with state:= .ready,pending:=none}:Loop)=rec:=by
  obtain⟨f,j,_,_,_,_⟩:=hr;cases rec;simp only at f j;subst f;subst j;rfl
 rw[this]at f;exact f
theorem jAy{R:Ending→World→Prop}(f:St E w0 X w Y ((l,.loop (zOm rec))::M))
  (k:∀w1,St E w0 X w1 Y ((l,.loop (zZy rec))::M)→Le (rd w Y) (rd w1 Y)→R (.returned (.bool false)) w1):roundPost P l R .ret a w:=
 jCx 0 f rfl k
def vB(J R:World→Prop)(e:Ending)(w:World):Prop:=∃b,e= .returned (.bool b)∧(b=true→J w)∧(b=false→R w)
theorem vB.next{J R:World→Prop}{w:World}(h:J w):vB J R (.returned (.bool true)) w:=⟨true,rfl,fun _=>h,fun e=>absurd e (by decide)⟩
theorem vB.stop{J R:World→Prop}{w:World}(h:R w):vB J R (.returned (.bool false)) w:=⟨false,rfl,fun e=>absurd e (by decide),fun _=>h⟩
theorem vB.ret{J R:World→Prop}{e:Ending}{w:World}(h:vB J R e w):∃v,e= .returned v:=h.elim fun _ h=>⟨_,h.1⟩
end
theorem zX.zeros(m:Nat)(h:m≤maxLen):zX m m (List.replicate m (Value.int .u32 0)).toArray (List.replicate m 0):=by
 refine zX.of _ (fun x f=>?_) (by simpa using h) ?_ (by simp)
 ·rw[List.mem_replicate]at f;omega
 ·simp[U32]
section
variable {P:Program}{Q:Exit→Act→World→Prop}{K:Act→World→Prop}{a:Act}{o:Oper}{n d:Nat}{L:List (Nat×Value)}{D:List Deferred}{E:Nat→Prop}{w0 w:World}{X Y:Hid}{M:List (Nat×Obj)}
theorem qFz{dT sT e:TypeId}{x y:Operand}{g dl J sl sc:Nat}{cur:Array Value}{T:TypeId}{ad:Option Addr}{l l2:List Nat}{Y2:Hid}(i:Nat)(U:Fr n a L D)(O:opk L o d n=true)(hS:St E w0 X w Y M)
  (ho:o.op= .call {callee:= .builtin .copy,args:=#[x,y],argTypes:=#[dT,sT]}) (R:evL L x= .slice (some ⟨g,0,none⟩) dl J) (hy:evL L y= .slice ad sl sc)
  (hu:P.underlying dT=some (.slice e)) (hs:(P.info? e).map (·.size)=some 1) (hM:M[i]?=some (g,.cells cur T (0,0))) (f:zX dl J cur l) (N:zN (rd w Y2) ad sl sc l2) (I:l2.length≤dl)
  (k:∀C w1,zX dl J C (l2++l.drop l2.length)→St E w0 X w1 Y (M.set i (g,.cells C T (0,0)))→Le (rd w Y) (rd w1 Y)→∀a1,Fr n a1 ((d,.int .i64 (l2.length:Int))::L) D→K a1 w1):o.wp P a w K Q:=by
 obtain rfl:=N.hlen;have G:∀x∈l2++l.drop l2.length,x<4294967296:=fun x R=>by
  rcases List.mem_append.1 R with h | h
  ·exact N.hlt x h
  ·exact f.lt x (List.mem_of_mem_drop h)
 have Z:cur.size=J:=by have:=f.row.hsz;omega
 have hln:=f.len;have W:=f.row.hn;rcases ad with _ | ad
 ·have h0:l2=[]:=by rcases N.hat with h | ⟨b,off,e,_⟩;exact h;cases e
  subst h0;simp only[List.length_nil,List.drop_zero,List.nil_append]at *;have F:(execOp (evL L) o).run P w= .ok (.value (goInt 0)) w:=by
   unfold execOp;simp only[ho,resolve,invoke,builtin,Sem.run_bind,Sem.run_pure,Result.andThen_ok,List.map_toArray,List.map_cons,List.map_nil,R,hy];cases hq:P.info? e with
   | none=>simp[hq]at hs
   | some i=>simp[Builtin.copy_,run_underlying hu,Builtin.lenOf,Builtin.firstCells,sizeOf,typeInfo,hq,storeCells]
  simp only[opk,zd]at O;obtain⟨hd,hlt⟩:=qH O.2;unfold Oper.wp;rw[U.exec O.1,F];show K (a.put o.dst _) _;rw[hd];refine k cur w f ?_ (Le.refl _) _ (U.put hlt _);have e:M.set i (g,.cells cur T (0,0))=M:=by
   obtain⟨hi,hv⟩:=List.getElem?_eq_some_iff.1 hM;rw[←hv,List.set_getElem_self]
  rw[e];exact hS
 ·have V:jE w ad (U32 l2):=by
   rcases N.hat with rfl | ⟨b,off,e,hat⟩
   ·intro j v hj;simp[U32]at hj
   ·cases e;exact hat.cells
  refine qNd (cs:=U32 l2) i U O hS ho R hy hu hs hM (by rw[lG];exact(Nat.min_eq_left I).symm) V (by rw[lG];omega) (by simp[U32,Value.oneCell']) (fun w1 h1 h3 a1 h4=>?_)
  rw[lG]at h1 h4;refine k _ w1 ⟨⟨W,f.row.hcap,?_,?_⟩,G⟩ h1 h3 a1 h4
  ·simp;omega
  ·have h5:=f.row.hxs;rw[Nat.mul_one]at h5 ⊢;rw[show U32 (l2++l.drop l2.length)=U32 l2++(U32 l).drop l2.length by simp[U32],←h5,List.take_append,List.take_of_length_le (by simpa using I),lG,List.drop_take]
end
theorem St.leHG{E:Nat→Prop}{w0 w:World}{X Y:Hid}{M:List (Nat×Obj)}(h:St E w0 X w Y M)(i:Nat){b:Nat}{o:Obj}(f:M[i]?=some (b,o)):Le (rd w Y) (rd w (fun k _=>k=b)):=
 Le.unhide fun k o' j=>by subst j;exact(h.own _ (List.mem_of_getElem? f)).2.2 o'
def zYz(x:Nat):Int:=if x<4294967296^512 then 0 else 4
theorem qKq{l:List Nat}(h:∀x∈l,x<4294967296):qV l≤512↔val l<4294967296^512:=by
 rw[←jK l,←jM l];exact zV (tH h) (qY l) 512
structure zAb(T:TypeId)(w w':World)(v:Value)(l:List Nat)(ad:Option Addr)(len cap:Nat)(x:Nat):Prop where
 own:zIx w w' T v l ad len cap
 canon:zW l
 val:val l=x
def zEs(T:TypeId)(w w':World)(e:Int)(x:Nat)(v:Value):Prop:=
 (e≠0∧v= .tuple #[.slice none 0 0,.int .i64 e])∨(e=0∧∃u l ad len cap,v= .tuple #[u,.int .i64 0]∧zAb T w w' u l ad len cap x∧l.length≤512)
theorem zEs.ok{T:TypeId}{w w':World}{x:Nat}{v:Value}{e:Int}(h:zEs T w w' e x v)(f:e=0):∃u l ad len cap,v= .tuple #[u,.int .i64 0]∧zAb T w w' u l ad len cap x∧l.length≤512:=by
 rcases h with⟨h,_⟩ | ⟨_,h⟩
 ·exact absurd f h
 ·exact h
theorem zEs.err{T:TypeId}{w w':World}{x:Nat}{v:Value}{e:Int}(h:zEs T w w' e x v)(f:e≠0):v= .tuple #[.slice none 0 0,.int .i64 e]:=by
 rcases h with⟨_,h⟩ | ⟨h,_⟩
 ·exact h
 ·exact absurd h f
theorem zEs.fit{T:TypeId}{w w':World}{g m cap:Nat}{cur:Array Value}{l:List Nat}{x:Nat}{v:Value}(f:zX m cap cur l)(J:w'.heap[g]?=some (.cells cur T (0,0)))(j:w.heap.size≤g)(C:val l=x)
  (hv:v=if 512<qV l then .tuple #[.slice none 0 0,.int .i64 4]else .tuple #[.slice (some ⟨g,0,none⟩) (qV l) cap,.int .i64 0]):zEs T w w' (zYz x) x v:=by
 have F:=qKq f.lt;unfold zYz;by_cases h:qV l≤512
 ·refine .inr ⟨if_pos (by rw[←C];exact F.1 h),_,Go.Gv.trimmed l,_,_,_,hv.trans (if_neg (by omega)),⟨⟨rfl,(jM l).symm,tH f.lt,.inr ⟨g,cur,rfl,j,J,f.trimmed⟩⟩,qY l,by rw[jK,C]⟩,by rw[jM];exact h⟩
 ·have G:¬x<4294967296^512:=fun I=>h (F.2 (by rw[C];exact I))
  rw[if_neg G];exact .inl ⟨by decide,hv.trans (if_pos (by omega))⟩
def qKp(l:List Nat):Int:=if 512<qV l then 4 else 0
def or2(a b:Int):Int:=if a=0 then b else a
theorem zBe{a b:Int}(h:a≠0):or2 a b=a:=if_neg h
theorem wK{a b:Int}(h:a=0):or2 a b=b:=if_pos h
theorem aC(l:List Nat)(k m:Nat):val (l++List.drop k (List.replicate m 0))=val l:=by
 induction l with
 | nil=>simp[vJ,val]
 | cons x l f=>rw[List.cons_append,val,val,f]
theorem qBo{l l2:List Nat}(h:∀x∈l,x<4294967296)(f:∀x∈l2,x<4294967296):val l+4294967296^0*val l2<4294967296^(max l.length l2.length+1):=by
 have a1:=xH h;have a2:=xH f;have a3:4294967296^l.length≤4294967296^(max l.length l2.length):=Nat.pow_le_pow_right (by omega) (by omega)
 have j:4294967296^l2.length≤4294967296^(max l.length l2.length):=Nat.pow_le_pow_right (by omega) (by omega)
 rw[Nat.pow_succ];omega
theorem zN.nil{r:Rd}{cap:Nat}(ad:Option Addr)(h:cap≤9223372036854775807):zN r ad 0 cap []:=⟨rfl,Nat.zero_le _,h,fun x f=>by simp at f,.inl rfl⟩
theorem qMs(lp:List Nat)(j x y V:Nat)(F:j+1<lp.length)(G:lp.getD (j+1) 0=0)(h:val lp=V):
  val ((lp.set j ((x*y+lp.getD j 0) % 4294967296)).set (j+1) ((x*y+lp.getD j 0) / 4294967296))=V+x*y*4294967296^j:=by
 have I:=nJ lp j ((x*y+lp.getD j 0) % 4294967296) (by omega)
 have f:=nJ (lp.set j ((x*y+lp.getD j 0) % 4294967296)) (j+1) ((x*y+lp.getD j 0) / 4294967296) (by simpa using F)
 rw[xD (by omega),G]at f
 generalize hs:x*y+lp.getD j 0=s at *;have C:s % 4294967296+4294967296*(s / 4294967296)=s:=Nat.mod_add_div s 4294967296;have J:(s % 4294967296)*4294967296^j+s / 4294967296*4294967296^(j+1)=s*4294967296^j:=by
  rw[Nat.pow_succ,show s / 4294967296*(4294967296^j*4294967296)=4294967296*(s / 4294967296)*4294967296^j by ac_rfl,←Nat.add_mul,C]
 have N:s*4294967296^j=x*y*4294967296^j+lp.getD j 0*4294967296^j:=by rw[←hs,Nat.add_mul]
 omega
theorem zHj{a b m n k:Nat}(j:a<4294967296^m)(C:b<4294967296^n)(F:m+n≤k):a*b<4294967296^k:=by
 have f:a*b<4294967296^m*4294967296^n:=Nat.mul_lt_mul'' j C;rw[←Nat.pow_add]at f;exact Nat.lt_of_lt_of_le f (Nat.pow_le_pow_right (by omega) F)
section
variable {P:Program}{Q:Exit→Act→World→Prop}{K:Act→World→Prop}{a:Act}{o:Oper}{n d:Nat}{L:List (Nat×Value)}{D:List Deferred}{E:Nat→Prop}{w0 w:World}{X Y:Hid}{M:List (Nat×Obj)}
theorem zQh{Z:Operand}{xs:Array Operand}{ts:Array TypeId}{f:FuncId}{cap:Array Value}{vs:Array Value}{ob:Obj}{b:Nat}{Ψ:Nat→Obj→Value→Prop}(i:Nat)(hF:Fr n a L D)(hc:opk L o d n=true)(N:St E w0 X w Y M)
  (ho:o.op= .call {callee:= .value Z,args:=xs,argTypes:=ts}) (hf:evL L Z= .func (.func f) #[] cap) (C:xs.map (evL L)++cap=vs)
  (hcall:∀w,(callFunc f vs).run P w= .ok (.enter f vs) w) (hM:M[i]?=some (b,ob)) (G:Calls P f vs w (Ret (·=b) w fun w1 v=>∃j o',w1.heap[j]?=some o'∧(w.heap.size≤j∨j=b)∧Ψ j o' v))
  (k:∀v w1 W j o',Ψ j o' v→St E w0 X w1 W (M.set i (j,o'))→Le (rd w Y) (rd w1 W)→∀a1,Fr n a1 ((d,v)::L) D→K a1 w1):o.wp P a w K Q:=by
 refine zBc i hF hc N ho hf C hcall hM G (fun v w1 ob' R A U I a1 V=>?_);obtain⟨j,o',hg,O,J⟩:=R;rcases O with F | rfl
 ·have h2:=U.adopt (fun o h=>Nat.not_lt.2 F (N.lt _ _ h)) (Nat.le_trans N.upd.size F) hg;have h3:=h2.replace i;rw[List.set_set]at h3;exact k v w1 _ j o' J h3 (I.adopt F) a1 V
 ·obtain rfl:=Option.some.inj (A.symm.trans hg);exact k v w1 Y _ _ J U I a1 V
theorem St.own_or{b:Nat}{ob:Obj}(h:St E w0 X w Y M)(i:Nat)(f:M[i]?=some (b,ob)):w0.heap.size≤b∨E b:=(h.own _ (List.mem_of_getElem? f)).2.1
theorem St.mid{p:Nat×Obj}{B:List (Nat×Obj)}(A:List (Nat×Obj))(h:St E w0 X w Y (p::(A++B))):St E w0 X w Y (A++p::B):=by
 have hp:(A++p::B).Perm (p::(A++B)):=List.perm_middle;exact⟨h.upd,h.lt,h.hid,fun q f=>h.own q (hp.mem_iff.1 f),(hp.map (·.1)).nodup_iff.2 h.nd,h.ltX⟩
def xF(bs:List Nat):List (Nat×Obj):=bs.map fun b=>(b,.deferred (some []))
theorem qXv{fn:Func}{R:Ending→World→Prop}{rs:List ResultVar}{vs:List Value}{v:Value}{bs:List Nat}{N:List (Nat×Obj)}(j:Fr n a L (bs.map mark))(f:St E w0 X w Y (N++xF bs))(hr:fn.results=rs.toArray)(hv:zBi vs=v)
  (k:∀w1,St E w0 X w1 Y N→Le (rd w Y) (rd w1 Y)→Res P L w1 rs vs∧R (.returned v) w1):bodyPostM (FF none) 0 P fn R .ret a w:=by
 show LeavesInM (FF none) 0 P fn a.tmps R a.defers .returning w;rw[j.defers];have F:Fr n {a with defers:=[]} L:=⟨j.size,rfl,j.get⟩
 clear j;induction bs generalizing w with
 | nil=>
  rw[xF,List.map_nil,List.append_nil]at f;obtain⟨J,O⟩:=k w f (Le.refl _);exact zAy (hv▸sK F hr J) O
 | cons b bs Z=>
  have C:St E w0 X w Y ((b,.deferred (some []))::(N++xF bs)):=by
   have hp:((b,Obj.deferred (some []))::(N++xF bs)).Perm (N++(b,Obj.deferred (some []))::xF bs):=List.perm_middle.symm;exact⟨f.upd,f.lt,f.hid,fun q V=>f.own q (hp.mem_iff.1 V),(hp.map (·.1)).nodup_iff.2 f.nd,f.ltX⟩
  obtain⟨G,I⟩:=C.putObj (o':= .deferred none) 0 rfl;refine⟨by simp,.inl ⟨b,_,rfl,run_takeDeferred (C.get 0 rfl),?_⟩⟩
  exact Z G.tail fun w1 W U=>k w1 W (I.trans U)
end
theorem zX.cellX0{w:World}{g m cap:Nat}{cur:Array Value}{T:TypeId}{l:List Nat}(h:zX m cap cur l)(f:w.heap[g]?=some (.cells cur T (0,0))){k:Nat}(j:k<l.length):At (rd w X0) ⟨g,0+k,none⟩ [.int .u32 ((l.getD k 0:Nat):Int)]:=
 ((h.limbs f (Y:=X0) (fun _ h=>h.elim)).cell j)
theorem zX.app{m cap c:Nat}{cur:Array Value}{l:List Nat}(h:Row (m+1) cap 1 cur (U32 l++[.int .u32 (c:Int)]))(j:∀x∈l,x<4294967296)(F:c<4294967296):zX (m+1) cap cur (l++[c]):=by
 refine⟨?_,fun x C=>?_⟩
 ·rw[show U32 (l++[c])=U32 l++[.int .u32 (c:Int)]by simp[U32]];exact h
 ·rcases List.mem_append.1 C with f | f
  ·exact j x f
  ·simp at f;omega
theorem qYu(x c:Nat)(f:c≤1):(x*2) % 4294967296||| c=(x*2) % 4294967296+c:=by
 have h:(x*2) % 4294967296=2^1*(x % 2147483648):=by omega
 rw[h];exact(Nat.two_pow_add_eq_or_of_lt (i:=1) (by omega) _).symm
theorem qYv(x r:Nat)(f:x<2147483648)(hr:r≤1):x||| r*2147483648=x+r*2147483648:=by
 have:=Nat.two_pow_add_eq_or_of_lt (i:=31) (b:=x) (by omega) r
 rw[Nat.or_comm,Nat.mul_comm r,Nat.add_comm];exact this.symm
theorem qJv(x c:Nat)(f:c≤1):rU (((x*2 % 4294967296:Nat)):Int) (c:Int)=((x*2 % 4294967296+c:Nat):Int):=by
 rw[dS _ _ (Nat.mod_lt _ (by omega)) (by omega),qYu x c f]
theorem qJw(x r:Nat)(f:x<2147483648)(hr:r≤1):rU (x:Int) ((r*2147483648:Nat):Int)=((x+r*2147483648:Nat):Int):=by
 rw[dS _ _ (by omega) (by omega),qYv x r f hr]
theorem zOl(x:Nat)(f:x<4294967296):wS (x:Int) 1=((x % 2:Nat):Int):=by
 have h:=aD x 1 f (by omega)
 rw[Nat.and_one_is_mod]at h;exact h
theorem qKe(l f:List Nat)(j c V:Nat)(G:j<l.length)(I:j<f.length)(J:f.getD j 0=l.getD j 0)(h:val f+c*4294967296^j=V+val (l.take j)):
  val (f.set j (l.getD j 0*2 % 4294967296+c))+l.getD j 0 / 2147483648*4294967296^(j+1)=V+val (l.take (j+1)):=by
 have C:=nJ f j (l.getD j 0*2 % 4294967296+c) I;rw[J]at C;rw[yQ l j G,show l.getD j 0 / 2147483648=l.getD j 0*2 / 4294967296 by omega]
 generalize hs:l.getD j 0*2=s at *;have F:s % 4294967296+4294967296*(s / 4294967296)=s:=Nat.mod_add_div s 4294967296;have N:(s % 4294967296)*4294967296^j+s / 4294967296*4294967296^(j+1)=s*4294967296^j:=by
  rw[Nat.pow_succ,show s / 4294967296*(4294967296^j*4294967296)=4294967296*(s / 4294967296)*4294967296^j by ac_rfl,←Nat.add_mul,F]
 have O:s*4294967296^j=2*(l.getD j 0*4294967296^j):=by rw[←hs];ac_rfl
 rw[Nat.add_mul]at C;omega
theorem qLo(l f:List Nat)(k r:Nat)(G:k<l.length)(j:k<f.length)(I:f.getD k 0=l.getD k 0)(h:2*val f+r*4294967296^(k+1)=val l+val (l.take (k+1))):
  2*val (f.set k (l.getD k 0 / 2+r*2147483648))+l.getD k 0 % 2*4294967296^k=val l+val (l.take k):=by
 have C:=nJ f k (l.getD k 0 / 2+r*2147483648) j;rw[I]at C;rw[yQ l k G]at h;generalize hs:l.getD k 0=x at *;have F:(2*(x / 2+r*2147483648)+x % 2)*4294967296^k=(x+r*4294967296)*4294967296^k:=by congr 1;omega
 rw[Nat.add_mul,Nat.add_mul x,Nat.mul_assoc 2,Nat.mul_assoc r,show 4294967296*4294967296^k=4294967296^(k+1)by rw[Nat.pow_succ,Nat.mul_comm]]at F
 omega
theorem zOo{l:List Nat}(C:∀x∈l,x<4294967296)(h:0<l.length→4294967296^(l.length-1)≤val l):zW l:=by
 by_cases f:l.length=0
 ·exact .inl f
 ·refine .inr fun e=>?_;have F:=h (by omega)
  have j:=yQ l (l.length-1) (by omega)
  rw[show l.length-1+1=l.length by omega,List.take_length,e]at j
  have G:=zBu C (l.length-1) (by omega)
  omega
theorem zJn{l:List Nat}{c:Nat}(h:c≠0):zW (l++[c]):= .inr (by simpa using h)
theorem wU{l:List Nat}(f:zW l)(h:l≠[]):0<val l:=Nat.lt_of_lt_of_le (Nat.pos_of_ne_zero (by simp)) (tT f h)
section
variable {m:Nat}{P:Program}{Q:Exit→Act→World→Prop}{a:Act}{w:World}
theorem zMj{c:Code}(h:c.wpIn (FF none) m P (Exit.noGoto Q) a w):(Code.scope c).wpIn (FF none) m P Q a w:=wpIn_wide.2 (wp_scope_straight (wpIn_wide.1 (show c.wpIn Fence.wide m P _ a w from h)))
end
theorem zMz{y:Nat}(h:y % 2=1)(k:Nat):Nat.Coprime (2^k) y:=by
 have f:Nat.Coprime 2 y:=by
  rw[Nat.Coprime,Nat.gcd_rec,h,Nat.gcd_one_left]
 exact Nat.Coprime.pow_left k f
theorem zPf{x y z k:Nat}(j:y % 2=1)(hlt:y≤x)(h:z*2^k=x-y):Nat.gcd z y=Nat.gcd x y:=by
 have f:Nat.gcd (z*2^k) y=Nat.gcd z y:=(zMz j k).gcd_mul_right_cancel z;rw[←f,h,Nat.gcd_sub_self_left hlt]
theorem qEc{a b j k x y:Nat}(ha:a % 2=1)(hb:b % 2=1)(f:a*2^j=x)(C:b*2^k=y):Nat.gcd a b*2^(min j k)=Nat.gcd x y:=by
 subst f;subst C;rcases Nat.le_total j k with h | h
 ·rw[Nat.min_eq_left h];obtain⟨t,rfl⟩:=Nat.exists_eq_add_of_le h;rw[Nat.pow_add,show b*(2^j*2^t)=b*2^t*2^j by ac_rfl,Nat.gcd_mul_right]
  congr 1;rw[Nat.gcd_comm a (b*2^t),Nat.gcd_comm a b];exact((zMz ha t).gcd_mul_right_cancel b).symm
 ·rw[Nat.min_eq_right h];obtain⟨t,rfl⟩:=Nat.exists_eq_add_of_le h;rw[Nat.pow_add,show a*(2^k*2^t)=a*2^t*2^k by ac_rfl,Nat.gcd_mul_right]
  congr 1;exact((zMz hb t).gcd_mul_right_cancel a).symm
section
variable {P:Program}{ρ:Operand→Value}{o:Oper}{w:World}
theorem qHp{t t2:TypeId}{xa xb:Operand}{x k:Nat}(ho:o.op= .binOp .shr t xa xb t2)(hx:ρ xa= .int .u32 (x:Int))(hk:ρ xb= .int .i64 (k:Int))(h:k≤32):(execOp ρ o).run P w= .ok (.value (.int .u32 ((x / 2^k:Nat):Int))) w:=by
 unfold execOp;simp only[ho,hx,hk];have h1:=shift_shr_u32 (yk:= .i64) (x:=(x:Int)) (y:=(k:Int)) (by omega) (by omega)
 simp[go_sem,h1]
theorem qHn{t t2:TypeId}{xa xb:Operand}{x k:Nat}(ho:o.op= .binOp .shl t xa xb t2)(hx:ρ xa= .int .u32 (x:Int))(hk:ρ xb= .int .i64 (k:Int))(h:k≤32):(execOp ρ o).run P w= .ok (.value (.int .u32 ((x*2^k % 4294967296:Nat):Int))) w:=by
 unfold execOp;simp only[ho,hx,hk];have h1:=shift_shl_u32 (yk:= .i64) (x:=(x:Int)) (y:=(k:Int)) (by omega) (by omega)
 simp[go_sem,h1,yR]
theorem bR{t:TypeId}{xa xb:Operand}{s:ByteArray}{kd:IntKind}{i:Nat}{b:UInt8}(ho:o.op= .index t xa xb)(ht:P.underlying t=some .string)(hx:ρ xa= .string s)(hk:ρ xb= .int kd (i:Int))(h:s[i]?=some b):(execOp ρ o).run P w= .ok (.value (.int .u8 ((b.toNat:Nat):Int))) w:=by
 unfold execOp;simp only[ho,hx,hk];simp[go_sem,Instr.index,asIntOf,run_underlying ht,h]
end
theorem dJ(k:Nat)(h:k≤4611686018427387904):i64.wrap (Int.tdiv (k:Int) 32)=((k / 32:Nat):Int):=by
 rw[Int.tdiv_eq_ediv_of_nonneg (by omega),aZ (by omega) (by omega)];rfl
theorem zDt(k:Nat):Int.tmod (k:Int) 32=((k % 32:Nat):Int):=by
 rw[Int.tmod_eq_emod_of_nonneg (by omega)];rfl
theorem zGn(l:List Nat)(N:∀x∈l,x<4294967296)(k:Nat)(j:k / 32<l.length):l.getD (k / 32) 0 / 2^(k % 32) % 2=val l / 2^k % 2:=by
 have f:=tJ l (k / 32);have C:=zBu N (k / 32) (by omega)
 have F:l.drop (k / 32)=l.getD (k / 32) 0::l.drop (k / 32+1):=by
  rw[List.drop_eq_getElem_cons j];simp[j]
 have G:(2:Nat)^k=4294967296^(k / 32)*2^(k % 32):=by
  rw[show(4294967296:Nat)=2^32 by decide,←Nat.pow_mul,←Nat.pow_add,Nat.div_add_mod]
 rw[F]at f;simp only[val]at f;have I:val l / 4294967296^(k / 32)=l.getD (k / 32) 0+4294967296*val (l.drop (k / 32+1)):=by
  rw[f,Nat.add_mul_div_left _ _ (Nat.pos_of_ne_zero (by simp)),Nat.div_eq_of_lt C,Nat.zero_add]
 rw[G,←Nat.div_div_eq_div_mul,I];have J:(4294967296:Nat)=2^(k % 32)*2^(32-k % 32):=by
  rw[←Nat.pow_add,show k % 32+(32-k % 32)=32 by omega]
 rw[J,Nat.mul_assoc,Nat.add_mul_div_left _ _ (Nat.two_pow_pos _)];obtain⟨t,ht⟩:∃t,32-k % 32=t+1:=⟨31-k % 32,by omega⟩
 rw[ht,Nat.pow_succ,show 2^t*2*val (l.drop (k / 32+1))=2*(2^t*val (l.drop (k / 32+1)))by ac_rfl]
 omega
theorem qMf(l:List Nat)(C:∀x∈l,x<4294967296)(r:Nat)(F:0<l.length)(h:l.getD (l.length-1) 0<2^r):val l<2^(32*(l.length-1)+r):=by
 have f:=yQ l (l.length-1) (by omega)
 rw[show l.length-1+1=l.length by omega,List.take_length]at f
 have G:=zBu C (l.length-1) (by omega)
 have I:(2:Nat)^(32*(l.length-1)+r)=2^r*4294967296^(l.length-1):=by
  rw[Nat.pow_add,Nat.pow_mul,Nat.mul_comm]
 have j:(l.getD (l.length-1) 0+1)*4294967296^(l.length-1)≤2^r*4294967296^(l.length-1):=Nat.mul_le_mul_right _ h;rw[Nat.add_mul]at j;omega
theorem qYt(y k:Nat)(f:k<32)(h:y % 2^(k+1)=0):y||| 2^k=y+2^k:=by
 obtain⟨z,rfl⟩:2^(k+1)∣y:=Nat.dvd_of_mod_eq_zero h;exact(Nat.two_pow_add_eq_or_of_lt (i:=k+1) (b:=2^k) (Nat.pow_lt_pow_right (by omega) (by omega)) z).symm
theorem qFa(l:List Nat)(O:∀x∈l,x<4294967296)(k q:Nat)(F:k / 32<l.length)(h:val l=2^(k+1)*q):l.getD (k / 32) 0 % 2^(k % 32+1)=0:=by
 have f:=tJ l (k / 32);have G:=zBu O (k / 32) (by omega)
 have I:l.drop (k / 32)=l.getD (k / 32) 0::l.drop (k / 32+1):=by
  rw[List.drop_eq_getElem_cons F];simp[F]
 have J:(2:Nat)^(k+1)=4294967296^(k / 32)*2^(k % 32+1):=by
  rw[show(4294967296:Nat)=2^32 by decide,←Nat.pow_mul,←Nat.pow_add,←Nat.add_assoc,Nat.div_add_mod]
 rw[I]at f;simp only[val]at f;have j:val l / 4294967296^(k / 32)=l.getD (k / 32) 0+4294967296*val (l.drop (k / 32+1)):=by
  rw[f,Nat.add_mul_div_left _ _ (Nat.pos_of_ne_zero (by simp)),Nat.div_eq_of_lt G,Nat.zero_add]
 rw[h,J,Nat.mul_assoc,Nat.mul_div_cancel_left _ (Nat.pos_of_ne_zero (by simp))]at j
 have N:(4294967296:Nat)=2^(k % 32+1)*2^(31-k % 32):=by
  rw[←Nat.pow_add,show k % 32+1+(31-k % 32)=32 by omega]
 rw[N,Nat.mul_assoc]at j;have C:=congrArg (·% 2^(k % 32+1)) j;simp only[Nat.mul_mod_right,Nat.add_mul_mod_self_left]at C;exact C.symm
theorem zNo(l:List Nat)(C:∀x∈l,x<4294967296)(k q:Nat)(f:k / 32<l.length)(h:val l=2^(k+1)*q):
  rU ((l.getD (k / 32) 0:Nat):Int) ((2^(k % 32):Nat):Int)=((l.getD (k / 32) 0+2^(k % 32):Nat):Int)∧l.getD (k / 32) 0+2^(k % 32)<4294967296∧val (l.set (k / 32) (l.getD (k / 32) 0+2^(k % 32)))=val l+2^k:=by
 have F:=qFa l C k q f h;have j:=qYt _ (k % 32) (by omega) F
 have G:l.getD (k / 32) 0<4294967296:=by
  have:l.getD (k / 32) 0=l[k / 32]:=by simp[f]
  rw[this];exact C _ (List.getElem_mem f)
 have I:(2:Nat)^(k % 32)<4294967296:=Nat.lt_of_lt_of_le (Nat.pow_lt_pow_right (by omega) (by omega:k % 32<32)) (by decide)
 have J:l.getD (k / 32) 0||| 2^(k % 32)<2^32:=Nat.or_lt_two_pow (by omega) (by omega)
 refine⟨by rw[dS _ _ G I,j],by rw[j]at J;omega,?_⟩
 have N:=nJ l (k / 32) (l.getD (k / 32) 0+2^(k % 32)) f;have O:(2:Nat)^k=2^(k % 32)*4294967296^(k / 32):=by
  rw[show(4294967296:Nat)=2^32 by decide,←Nat.pow_mul,←Nat.pow_add,Nat.add_comm,Nat.div_add_mod]
 rw[Nat.add_mul]at N;omega
theorem zVn(L k:Nat):L / 2^k=2*(L / 2^(k+1))+L / 2^k % 2:=by
 rw[Nat.pow_succ,←Nat.div_div_eq_div_mul];omega
theorem qKi{L k q d r x:Nat}(h:L / 2^(k+1)=q*d+r)(j:x=2*r+L / 2^k % 2-d)(hd:d≤2*r+L / 2^k % 2):L / 2^k=(2*q+1)*d+x:=by
 have f:=zVn L k;rw[h]at f;rw[Nat.add_mul,Nat.mul_assoc];omega
theorem qDb{L k q d r x:Nat}(h:L / 2^(k+1)=q*d+r)(j:x=2*r+L / 2^k % 2):L / 2^k=(2*q)*d+x:=by
 have f:=zVn L k;rw[h]at f;rw[Nat.mul_assoc];omega
theorem zSu{L q d r x:Nat}(h:L / 2^0=q*d+r)(hr:r<d)(f:x=2^0*q):x=L / d∧r=L % d:=by
 rw[Nat.pow_zero,Nat.div_one]at h;rw[Nat.pow_zero,Nat.one_mul]at f;subst f;subst h;refine⟨?_,?_⟩
 ·rw[Nat.add_comm,Nat.add_mul_div_right _ _ (by omega),Nat.div_eq_of_lt hr,Nat.zero_add]
 ·rw[Nat.add_comm,Nat.add_mul_mod_self_right,Nat.mod_eq_of_lt hr]
theorem zRd{P:Program}{ρ:Operand→Value}{o:Oper}{w:World}{t J:TypeId}{f j:Operand}{k:Nat}(ho:o.op= .binOp .shl t f j J)(I:ρ f= .int .u32 1)(G:ρ j= .int .i64 (k:Int))(h:k<32):(execOp ρ o).run P w= .ok (.value (.int .u32 ((2^k:Nat):Int))) w:=by
 have C:=qHn (P:=P) (w:=w) (x:=1) ho I G (by omega)
 have F:(2:Nat)^k<4294967296:=Nat.lt_of_lt_of_le (Nat.pow_lt_pow_right (by omega) h) (by decide)
 rwa[Nat.one_mul,Nat.mod_eq_of_lt F]at C
def RSt(T:TypeId)(rb:List (Nat×Obj))(ad:Option Addr)(cap:Nat)(l:List Nat):Prop:=
 (rb=[]∧ad=none∧cap=0∧l=[])∨∃g cur,rb=[(g,.cells cur T (0,0))]∧ad=some ⟨g,0,none⟩∧zX l.length cap cur l
def DivV(T:TypeId)(w w':World)(e:Int)(x y:Nat)(v:Value):Prop:=
 (e≠0∧v= .tuple #[.slice none 0 0,.slice none 0 0,.int .i64 e])∨
 (e=0∧∃u C l l2 ad len cap j f F,v= .tuple #[u,C,.int .i64 0]∧zAb T w w' u l ad len cap x∧l.length≤512∧zAb T w w' C l2 j f F y∧l2.length≤512)
theorem zIx.back{w0 w w':World}{T:TypeId}{v:Value}{l:List Nat}{ad:Option Addr}{len cap:Nat}(h:zIx w w' T v l ad len cap)(hs:w0.heap.size≤w.heap.size):zIx w0 w' T v l ad len cap:=
 ⟨h.hv,h.hlen,h.hlt,h.own.imp id fun⟨g,cur,e,f,ho,hr⟩=>⟨g,cur,e,Nat.le_trans hs f,ho,hr⟩⟩
theorem zAb.back{w0 w w':World}{T:TypeId}{v:Value}{l:List Nat}{ad:Option Addr}{len cap x:Nat}(h:zAb T w w' v l ad len cap x)(hs:w0.heap.size≤w.heap.size):zAb T w0 w' v l ad len cap x:=⟨h.own.back hs,h.canon,h.val⟩
def qC(r:Rd)(ad:Option Addr)(len cap x:Nat):Prop:=∃l,zN r ad len cap l∧zW l∧val l=x
theorem qC.mono{r r':Rd}{ad:Option Addr}{len cap x:Nat}(h:qC r ad len cap x)(k:Le r r'):qC r' ad len cap x:=h.imp fun _ h=>⟨h.1.mono k,h.2⟩
theorem qC.len0{r:Rd}{ad:Option Addr}{len cap x:Nat}(h:qC r ad len cap x):len=0↔x=0:=by
 obtain⟨l,F,C,rfl⟩:=h;have j:=F.hlen;constructor
 ·intro f;rw[List.eq_nil_of_length_eq_zero (j.symm.trans f)];rfl
 ·intro f;rw[j,aG C f];rfl
theorem qC.len_le{r:Rd}{ad:Option Addr}{len cap x:Nat}(h:qC r ad len cap x)(k:Nat):len≤k↔x<4294967296^k:=by
 obtain⟨l,f,j,rfl⟩:=h;rw[f.hlen];exact zV f.hlt j k
theorem qC.nil{r:Rd}{cap:Nat}(ad:Option Addr)(h:cap≤9223372036854775807):qC r ad 0 cap 0:=⟨[],zN.nil ad h,.inl rfl,rfl⟩
theorem qC.one{r:Rd}{ad:Option Addr}{len cap x:Nat}(h:qC r ad len cap x)(hlen:len=1):∃b off,ad=some ⟨b,off,none⟩∧x<4294967296∧At r ⟨b,off,none⟩ [.int .u32 (x:Int)]:=by
 obtain⟨l,f,F,rfl⟩:=h;obtain⟨b,off,e,hat⟩:=f.addr (by omega)
 have j:=f.hlen;obtain⟨y,rfl⟩:∃y,l=[y]:=by
  match l,j with
  | [y],_=>exact⟨y,rfl⟩
  | [],h=>simp at h;omega
  | _::_::_,h=>simp at h;omega
 have C:=f.hlt y (by simp)
 refine⟨b,off,e,by simpa[val]using C,?_⟩
 simpa[val,U32]using hat
theorem qC.of_one{r:Rd}{ad:Option Addr}{len cap:Nat}(h:qC r ad len cap 1):len=1:=by
 have f:=(h.len_le 1).2 (by omega)
 have j:len≠0:=fun e=>absurd (h.len0.1 e) (by omega)
 omega
def zLn(w w':World)(v:Value)(x:Nat):Prop:=∃ad len cap,v= .slice ad len cap∧∀Y:Hid,(∀k o,Y k o→k<w.heap.size)→qC (rd w' Y) ad len cap x
theorem zAb.natV{T:TypeId}{w w':World}{v:Value}{l:List Nat}{ad:Option Addr}{len cap x:Nat}(h:zAb T w w' v l ad len cap x):zLn w w' v x:=
 ⟨ad,len,cap,h.own.hv,fun _ f=>⟨l,h.own.limbs f,h.canon,h.val⟩⟩
theorem zFk{l:List Nat}(h:l.length≤512)(C:zW l):jH l=0:=by
 unfold jH;rw[if_neg (by omega),if_neg]
 rintro⟨F,j⟩;rcases C with f | f
 ·omega
 ·exact f j
theorem qC.limbs{r:Rd}{ad:Option Addr}{len cap x:Nat}(h:qC r ad len cap x)(C:x<4294967296^512):∃l,zN r ad len cap l∧zW l∧val l=x∧l.length≤512:=by
 obtain⟨l,j,f,rfl⟩:=h;exact⟨l,j,f,rfl,(zV j.hlt f 512).2 C⟩
def sgn(s:Bool)(n:Nat):Int:=if s then -(n:Int)else n
theorem aU(s:Bool)(n:Nat):(sgn s n).natAbs=n:=by cases s<;>simp[sgn]
def gL(X:Hid)(w':World)(v:Value)(x:Nat):Prop:=∃ad len cap,v= .slice ad len cap∧qC (rd w' X) ad len cap x
theorem St.lastN{E:Nat→Prop}{w0 w:World}{X Y:Hid}{M:List (Nat×Obj)}(h:St E w0 X w Y M){ad:Option Addr}{len cap x:Nat}(k:qC (rd w Y) ad len cap x):gL X w (.slice ad len cap) x:=⟨ad,len,cap,rfl,k.mono h.le⟩
theorem zMq(n d:Nat)(s:Bool)(hd:0<d):(mkRat (sgn s n) d).num=sgn s (n / Nat.gcd n d):=by
 rw[Rat.num_mkRat,if_neg (by omega),aU,Nat.gcd_comm]
 cases s
 ·simp[sgn]
 ·simp only[sgn,if_true];rw[Int.neg_ediv_of_dvd (by exact_mod_cast Nat.gcd_dvd_left n d)]
  rfl
theorem qMo(n d:Nat)(s:Bool)(hd:0<d):(mkRat (sgn s n) d).den=d / Nat.gcd n d:=by
 rw[Rat.den_mkRat,if_neg (by omega),aU,Nat.gcd_comm]
def mF(d:Nat):Nat:=if d=1 then 0 else d
def RatF(r:Rd)(G:Option Addr)(F j:Nat)(add:Option Addr)(C f:Nat)(x:Rat):Prop:=qC r G F j x.num.natAbs∧qC r add C f (mF x.den)
def zAc(X:Hid)(w':World)(v:Value)(x:Rat):Prop:=∃G F j add C f,v= .agg #[.bool (decide (x.num<0)),.slice G F j,.slice add C f]∧RatF (rd w' X) G F j add C f x
theorem bH{X:Hid}{w':World}{n d:Nat}{s:Bool}(hn:n≠0)(hd:0<d){G:Option Addr}{F j:Nat}{add:Option Addr}{C f:Nat}(J:qC (rd w' X) G F j (n / Nat.gcd n d))(N:qC (rd w' X) add C f (mF (d / Nat.gcd n d))):
  zAc X w' (.agg #[.bool s,.slice G F j,.slice add C f]) (mkRat (sgn s n) d):=by
 have O:0<Nat.gcd n d:=Nat.gcd_pos_of_pos_right _ hd;have R:0<n / Nat.gcd n d:=Nat.div_pos (Nat.le_of_dvd (by omega) (Nat.gcd_dvd_left n d)) O
 have I:=zMq n d s hd;refine⟨G,F,j,add,C,f,?_,?_,?_⟩
 ·rw[I];have:decide (sgn s (n / Nat.gcd n d)<0)=s:=by
   cases s
   ·simp only[sgn,Bool.false_eq_true,if_false,decide_eq_false_iff_not];omega
   ·simp only[sgn,if_true,decide_eq_true_eq];omega
  rw[this]
 ·rw[I,aU];exact J
 ·rw[qMo n d s hd];exact N
theorem zRs{X:Hid}{w':World}{s:Bool}(d:Nat):zAc X w' (.agg #[.bool false,.slice none 0 0,.slice none 0 0]) (mkRat (sgn s 0) d):=by
 have e:mkRat (sgn s 0) d=0:=by cases s<;>simp[sgn,Rat.zero_mkRat]
 rw[e];exact⟨none,0,0,none,0,0,rfl,qC.nil none (by omega),qC.nil none (by omega)⟩
theorem zQv{n d:Nat}(hn:n≠0)(hd:0<d):0<n / Nat.gcd n d:=Nat.div_pos (Nat.le_of_dvd (by omega) (Nat.gcd_dvd_left n d)) (Nat.gcd_pos_of_pos_right _ hd)
def zSb(X:Hid)(w':World)(v:Value)(s:Bool)(n d:Nat):Prop:=∃ad len cap j f C,v= .agg #[.slice ad len cap,.slice j f C,.bool s]∧qC (rd w' X) ad len cap n∧qC (rd w' X) j f C d
theorem St.rowX{E:Nat→Prop}{w0 w:World}{X Y:Hid}{M:List (Nat×Obj)}(h:St E w0 X w Y M)(i:Nat){b:Nat}{c:Array Value}{T:TypeId}(j:M[i]?=some (b,.cells c T (0,0)))(hb:w0.heap.size≤b){m cap:Nat}{l:List Nat}(f:zX m cap c l):zN (rd w X) (some ⟨b,0,none⟩) m cap l:=
 f.limbs (h.get i j) fun o C=>by have:=h.ltX b o C;omega
theorem qMy{x:Value}(f:x= .int .u32 1):zX 1 1 #[x] [1]:=by subst f;exact zX.of [1] (fun x f=>by simp at f;omega) (by simp[maxLen]) rfl rfl
theorem qMx{r:Rd}{ad:Option Addr}{cap:Nat}(h:zN r ad 1 cap [1]):qC r ad 1 cap 1:=⟨[1],h,.inr (by decide),rfl⟩
abbrev jQ:Nat:=4294967296^128
theorem zNi(B n m:Nat)(f:0<B)(h:n≤m):B^n≤B^m:=Nat.pow_le_pow_right f h
theorem qNw(B n m:Nat)(h:m=n+n):B^m=B^n*B^n:=by subst h;exact Nat.pow_add B n n
theorem qEn:jQ≤4294967296^512:=zNi 4294967296 128 512 (by decide) (by decide)
theorem qFg(B n k a b:Nat)(f:0<B)(j:a<B^n)(C:b<B^n)(F:n+n≤k):a*b<B^k:=by
 have h:a*b<B^n*B^n:=Nat.lt_of_le_of_lt (Nat.mul_le_mul_right _ (Nat.le_of_lt j)) (Nat.mul_lt_mul_of_pos_left C (Nat.pow_pos f));rw[←Nat.pow_add]at h;exact Nat.lt_of_lt_of_le h (zNi B _ _ f F)
theorem qTu{a b:Nat}(h:a<jQ)(f:b<jQ):a*b<4294967296^512:=qFg 4294967296 128 512 a b (by decide) h f (by decide)
theorem kD{a b c d:Nat}(ha:a<jQ)(hb:b<jQ)(f:c<jQ)(hd:d<jQ):a*b<4294967296^512∧a*b+c*d<4294967296^512:=by
 have j:a*b<4294967296^256:=zHj ha hb (by omega)
 have C:c*d<4294967296^256:=zHj f hd (by omega)
 have F:(4294967296:Nat)^256*2≤4294967296^512:=by
  have:(4294967296:Nat)^512=4294967296^256*4294967296^256:=qNw 4294967296 256 512 rfl;rw[this];exact Nat.mul_le_mul_left _ (by
   have:(4294967296:Nat)^1≤4294967296^256:=Nat.pow_le_pow_right (by omega) (by omega)
   omega)
 omega
theorem qIc{s f:Bool}(h:s=f)(a b c d:Nat):sgn s (a*b+c*d)=sgn s a*b+sgn f c*d:=by
 subst h;cases s<;>simp[sgn];rw[Int.neg_mul,Int.neg_mul];omega
theorem jAi{s f:Bool}(h:s≠f){a b c d:Nat}(j:a*b<c*d):sgn f (c*d-a*b)=sgn s a*b+sgn f c*d:=by
 cases s<;>cases f<;>simp[sgn]at h ⊢
 ·rw[Int.neg_mul,Int.ofNat_sub (by omega)];simp only[Int.natCast_mul];omega
 ·rw[Int.neg_mul,Int.ofNat_sub (by omega)];simp only[Int.natCast_mul];omega
theorem jAh{s f:Bool}(h:s≠f){a b c d:Nat}(j:c*d≤a*b):sgn s (a*b-c*d)=sgn s a*b+sgn f c*d:=by
 cases s<;>cases f<;>simp[sgn]at h ⊢
 ·rw[Int.neg_mul,Int.ofNat_sub (by omega)];simp only[Int.natCast_mul];omega
 ·rw[Int.neg_mul,Int.ofNat_sub (by omega)];simp only[Int.natCast_mul];omega
theorem qOj(s f:Bool)(a c:Nat):sgn (!(s==f)) (a*c)=sgn s a*sgn f c:=by
 cases s<;>cases f<;>simp[sgn,Int.neg_mul,Int.mul_neg]
theorem zNp(s:Bool)(a:Nat):sgn (!s) a= - sgn s a:=by cases s<;>simp[sgn]
def nlF:Nat→Nat→List Nat
 | 0,_=>[]
 | f+1,n=>if n=0 then[]else n % 4294967296::nlF f (n / 4294967296)
def kU(n:Nat):List Nat:=nlF (n.log2+1) n
theorem qFj : ∀ (f g n : Nat), n < 2 ^ f → n < 2 ^ g → nlF f n = nlF g n
  | 0, 0, _, _, _ => rfl
  | 0, g + 1, n, h, _ => by have : n = 0 := by simpa using h
                            subst this; rfl
  | f + 1, 0, n, _, h => by have : n = 0 := by simpa using h
                            subst this; rfl
  | f + 1, g + 1, n, h, h' => by
    rw [nlF, nlF]
    split
    · rfl
    · rw [Nat.pow_succ] at h h'
      rw [qFj f g (n / 4294967296) (by omega) (by omega)]
theorem zDd(n:Nat):kU n=if n=0 then[]else n % 4294967296::kU (n / 4294967296):=by
 have f:∀m:Nat,m<2^(m.log2+1):=fun m=>Nat.lt_log2_self;unfold kU;rw[nlF];split
 ·rfl
 ·rename_i C;have j:=f n;rw[Nat.pow_succ]at j;rw[qFj n.log2 ((n / 4294967296).log2+1) (n / 4294967296) (by omega) (f _)]
theorem zKq(n:Nat):∀x∈kU n,x<4294967296:=by
 induction n using Nat.strongRecOn with
 | _ n j=>
  rw[zDd];split
  ·simp
  ·intro x f;rcases List.mem_cons.1 f with e | e
   ·rw[e];exact Nat.mod_lt _ (by omega)
   ·exact j (n / 4294967296) (Nat.div_lt_self (by omega) (by omega)) x e
theorem vQ(n:Nat):val (kU n)=n:=by
 induction n using Nat.strongRecOn with
 | _ n f=>
  rw[zDd];split
  ·rename_i h;rw[h];rfl
  ·rw[val,f (n / 4294967296) (Nat.div_lt_self (by omega) (by omega))];omega
theorem rD(n:Nat):zW (kU n):=by
 induction n using Nat.strongRecOn with
 | _ n C=>
  rw[zDd];split
  ·exact .inl rfl
  ·rename_i h;refine .inr ?_;rcases C (n / 4294967296) (Nat.div_lt_self (by omega) (by omega))with f | f
   ·have j:kU (n / 4294967296)=[]:=List.eq_nil_of_length_eq_zero f;have F:n / 4294967296=0:=by have:=vQ (n / 4294967296);rw[j]at this;simpa[val]using this.symm
    rw[j];simp;omega
   ·have hp:0<(kU (n / 4294967296)).length:=by
     rcases Nat.eq_zero_or_pos (kU (n / 4294967296)).length with e | e
     ·rw[List.eq_nil_of_length_eq_zero e]at f;simp at f
     ·exact e
    obtain⟨t,ht⟩:∃t,(kU (n / 4294967296)).length=t+1:=⟨_,(Nat.sub_add_cancel hp).symm⟩;rw[List.length_cons,ht];rw[ht]at f;simpa using f
theorem qCg{l:List Nat}(j:∀x∈l,x<4294967296)(f:zW l):l=kU (val l):=zJp j (zKq _) f (rD _) (vQ _).symm
theorem qC.lim{r:Rd}{ad:Option Addr}{len cap x:Nat}(h:qC r ad len cap x):zN r ad len cap (kU x):=by
 obtain⟨l,f,j,rfl⟩:=h;rw[←qCg f.hlt j];exact f
theorem zN.natR{r:Rd}{ad:Option Addr}{len cap:Nat}{l:List Nat}(h:zN r ad len cap l)(f:zW l):qC r ad len cap (val l):=⟨l,h,f,rfl⟩
structure Raw where
 neg:Bool
 ln:List Nat
 ld:List Nat
deriving DecidableEq
def Raw.zero:Raw:=⟨false,[],[]⟩
def Raw.of(x:Rat):Raw:=⟨decide (x.num<0),kU x.num.natAbs,kU (mF x.den)⟩
def Raw.d(a:Raw):Nat:=if val a.ld=0 then 1 else val a.ld
def Raw.rat(a:Raw):Rat:=mkRat (sgn a.neg (val a.ln)) a.d
def Raw.chk(a:Raw):Int:=
 if 128<a.ln.length∨128<a.ld.length then 4
 else if jH a.ln≠0∨jH a.ld≠0∨val a.ld=1∨(val a.ln=0∧(a.neg=true∨0<val a.ld))then 2
 else if 0<val a.ld∧Nat.gcd (val a.ln) (val a.ld)≠1 then 2 else 0
def rT(X:Hid)(w':World)(v:Value)(a:Raw):Prop:=∃G F j add C f,v= .agg #[.bool a.neg,.slice G F j,.slice add C f]∧zN (rd w' X) G F j a.ln∧zN (rd w' X) add C f a.ld
theorem zAc.raw{X:Hid}{w':World}{v:Value}{x:Rat}(h:zAc X w' v x):rT X w' v (Raw.of x):=by
 obtain⟨a1,a2,a3,f,j,C,e,F,G⟩:=h;exact⟨a1,a2,a3,f,j,C,e,F.lim,G.lim⟩
theorem Raw.chk_ok{a:Raw}(h:a.chk=0):a.ln.length≤128∧a.ld.length≤128∧zW a.ln∧zW a.ld∧val a.ld≠1∧¬(val a.ln=0∧(a.neg=true∨0<val a.ld))∧¬(0<val a.ld∧Nat.gcd (val a.ln) (val a.ld)≠1):=by
 unfold Raw.chk at h;split at h
 ·cases h
 ·split at h
  ·cases h
  ·split at h
   ·cases h
   ·rename_i j f C;simp only[not_or]at j f;exact⟨by omega,by omega,(pU (Classical.not_not.1 f.1)).2,(pU (Classical.not_not.1 f.2.1)).2,f.2.2.1,f.2.2.2,C⟩
theorem Raw.d_pos(a:Raw):0<a.d:=by unfold Raw.d;split<;>omega
def zJi(x:Rat):Int:=if x.num.natAbs<jQ∧mF x.den<jQ then 0 else 4
def opE(a b:Raw)(x:Rat):Int:=or2 (or2 a.chk b.chk) (zJi x)
def opR(a b:Raw)(x:Rat):Raw:=if opE a b x=0 then Raw.of x else .zero
theorem zJf(x y:Int):orL [x,y]=or2 x y:=by
 simp only[orL,or2];split
 ·split<;>simp_all
 ·rfl
theorem fZ{x y:Int}(h:or2 x y=0):x=0∧y=0:=by
 unfold or2 at h;split at h
 ·exact⟨by assumption,h⟩
 ·exact absurd h (by assumption)
theorem zTv{a b:Raw}{z:Rat}(h:orL [a.chk,b.chk]≠0):opE a b z=orL [a.chk,b.chk]∧opR a b z= .zero:=by
 rw[zJf]at *;have e:opE a b z=or2 a.chk b.chk:=zBe h;exact⟨e,if_neg (by rw[e];exact h)⟩
theorem zFw{a b:Raw}{z:Rat}(h:orL [a.chk,b.chk]=0)(f:¬(z.num.natAbs<jQ∧mF z.den<jQ)):opE a b z=4∧opR a b z= .zero:=by
 rw[zJf]at h;have e:opE a b z=4:=by unfold opE;rw[wK h,zJi,if_neg f]
 exact⟨e,if_neg (by rw[e];decide)⟩
theorem zWt{a b:Raw}{z:Rat}(h:orL [a.chk,b.chk]=0)(f:z.num.natAbs<jQ∧mF z.den<jQ):opE a b z=0∧opR a b z= .of z:=by
 rw[zJf]at h;have e:opE a b z=0:=by unfold opE;rw[wK h,zJi,if_pos f]
 exact⟨e,if_pos e⟩
theorem rW{X:Hid}{w':World}:rT X w' (.agg #[.bool false,.slice none 0 0,.slice none 0 0]) .zero:=⟨none,0,0,none,0,0,rfl,zN.nil none (by omega),zN.nil none (by omega)⟩
def zLz(x y:Rat):Int:=if x=y then 0 else if x<y then -1 else 1
def xB(a b:Raw):Int:=or2 a.chk b.chk
def yE(a b:Raw):Int:=if xB a b=0 then zLz a.rat b.rat else 0
theorem qLs{X:Hid}{w':World}{n:Int}{C:Option Addr}{j f:Nat}(h:qC (rd w' X) C j f n.natAbs):zAc X w' (.agg #[.bool (decide (n<0)),.slice C j f,.slice none 0 0]) (n:Rat):=
 ⟨C,j,f,none,0,0,rfl,h,qC.nil none (by omega)⟩
theorem zVk{s:Bool}{m f j:Nat}{C F:Int}(h:sgn s m=C*j+(-F)*f)(G:0<f)(I:0<j):mkRat (sgn s m) (f*j)=mkRat C f-mkRat F j:=by
 rw[Rat.sub_eq_add_neg,Rat.neg_mkRat,Rat.mkRat_add_mkRat _ _ (by omega) (by omega),h]
theorem zAk{s:Bool}{m d:Nat}{x y:Rat}(h:mkRat (sgn s m) d=x-y)(f:m=0):zLz x y=0:=by
 subst f;have e:mkRat (sgn s 0) d=0:=by cases s<;>simp[sgn,Rat.zero_mkRat]
 rw[e]at h;have:x=y:=by grind
 rw[zLz,if_pos this]
theorem qJz{m d:Nat}{x y:Rat}(h:mkRat (sgn true m) d=x-y)(F:m≠0)(hd:0<d):zLz x y= -1:=by
 have f:mkRat (sgn true m) d<0:=by
  have:=zMq m d true hd;rw[Rat.lt_iff];rw[this];have:=zQv F hd;rw[show(0:Rat).num=0 from rfl,show(0:Rat).den=1 from rfl];simp only[sgn,if_true];omega
 rw[h]at f;have j:x<y:=by grind
 have C:x≠y:=by grind
 rw[zLz,if_neg C,if_pos j]
theorem qKa{m d:Nat}{x y:Rat}(h:mkRat (sgn false m) d=x-y)(F:m≠0)(hd:0<d):zLz x y=1:=by
 have f:0<mkRat (sgn false m) d:=by
  have:=zMq m d false hd;rw[Rat.lt_iff];rw[this];have:=zQv F hd;rw[show(0:Rat).num=0 from rfl,show(0:Rat).den=1 from rfl];simp only[sgn,Bool.false_eq_true,if_false];omega
 rw[h]at f;have j:¬x<y:=by grind
 have C:x≠y:=by grind
 rw[zLz,if_neg C,if_neg j]
theorem qCw{n d:Nat}(h:0<n)(f:0<d):0<n*d:=Nat.mul_pos h f
def jBg(r:Rd)(a:Addr)(x:Raw):Prop:=∃G F j add C f,At r a [.bool x.neg,.slice G F j,.slice add C f]∧zN r G F j x.ln∧zN r add C f x.ld
structure Rats(r:Rd)(ad:Option Addr)(len cap:Nat)(xs:List Raw):Prop where
 hlen:len=xs.length
 hcap:len≤cap
 hbig:cap≤9223372036854775807
 hat:xs=[]∨∃b off,ad=some ⟨b,off,none⟩∧∀i x,xs[i]?=some x→jBg r ⟨b,off+i*3,none⟩ x
def qJk:Raw→List Raw→Raw×Int
 | r,[]=>(r,0)
 | r,x::l=>if opE r x (r.rat+x.rat)=0 then qJk (opR r x (r.rat+x.rat)) l else(.zero,opE r x (r.rat+x.rat))
section
variable {r x y:Raw}{xs ys:List Raw}{k:Nat}
end
structure SlR{α:Type}(El:Rd→Addr→α→Prop)(size:Nat)(r:Rd)(ad:Option Addr)(len cap:Nat)(xs:List α):Prop where
 hlen:len=xs.length
 hcap:len≤cap
 hbig:cap≤9223372036854775807
 hat:xs=[]∨∃b off,ad=some ⟨b,off,none⟩∧∀i x,xs[i]?=some x→El r ⟨b,off+i*size,none⟩ x
structure Out where
 to:Int
 p:Raw
structure zLi where
 cost:Raw
 next:List Out
structure Mdp where
 disc:Raw
 states:List (List zLi)
def zLx(n:Nat):Option Int→List Out→Int
 | _,[]=>0
 | prev,o::l=>
  if o.to<0∨(n:Int)≤o.to then 8
  else if(match prev with | some q=>decide (o.to≤q) | none=>false)=true then 16
  else if o.p.chk≠0 then o.p.chk
  else if o.p.neg=true∨o.p.ln.length=0 then 1
  else zLx n (some o.to) l
def qCo(n:Nat)(a:zLi):Int:=
 if a.cost.chk≠0 then a.cost.chk
 else if a.next.length=0 then 3
 else if 64<a.next.length then 4
 else if zLx n none a.next≠0 then zLx n none a.next
 else if(qJk .zero (a.next.map (·.p))).2≠0 then(qJk .zero (a.next.map (·.p))).2
 else if yE (qJk .zero (a.next.map (·.p))).1 (.of 1)≠0 then 2 else 0
def zLw(n:Nat):List zLi→Int
 | []=>0
 | a::l=>if qCo n a≠0 then qCo n a else zLw n l
def zJt(n:Nat):List (List zLi)→Int
 | []=>0
 | s::l=>if s.length=0 then 3 else if 6<s.length then 4 else if zLw n s≠0 then zLw n s else zJt n l
def Mdp.chk(m:Mdp):Int:=
 if m.disc.chk≠0 then m.disc.chk
 else if m.disc.neg=true∨0<yE m.disc (.of 1)then 1
 else if m.states.length=0 then 3
 else if 200<m.states.length then 4
 else zJt m.states.length m.states
def pick(v:List Raw)(o:Out):Raw:=v.getD o.to.toNat .zero
theorem qDe{α:Type}{xs:List α}{k:Nat}{x:α}(j:xs[k]?=some x):xs.drop k=x::xs.drop (k+1):=by
 obtain⟨f,e⟩:=List.getElem?_eq_some_iff.1 j;rw[List.drop_eq_getElem_cons f,e]
section
variable {acc xs ys:List Raw}{x y:Raw}{k:Nat}
end
section
variable {n k:Nat}{l:List Out}{o q:Out}
end
section
variable {n:Nat}{a:zLi}
end
section
variable {n k:Nat}{s:List zLi}{l:List (List zLi)}{a:zLi}
end
structure RE where
 x:Raw
 an:Option Addr
 ln:Nat
 cn:Nat
 am:Option Addr
 lm:Nat
 cm:Nat
def RE.ok(r:Rd)(e:RE):Prop:=zN r e.an e.ln e.cn e.x.ln∧zN r e.am e.lm e.cm e.x.ld
theorem RE.ok.mono{r r':Rd}{e:RE}(h:e.ok r)(k:Le r r'):e.ok r':=⟨h.1.mono k,h.2.mono k⟩
theorem St.perm{E:Nat→Prop}{w0 w:World}{X Y:Hid}{M f:List (Nat×Obj)}(h:St E w0 X w Y M)(hp:f.Perm M):St E w0 X w Y f:=
 ⟨h.upd,h.lt,h.hid,fun x j=>h.own x (hp.mem_iff.1 j),(hp.map (·.1)).nodup_iff.2 h.nd,h.ltX⟩
def gM(e:TypeId)(size:Nat)(rb:List (Nat×Obj))(ad:Option Addr)(m cap:Nat)(xs:List Value):Prop:=
 (rb=[]∧ad=none∧m=0∧cap=0∧xs=[])∨∃g cur,rb=[(g,.cells cur e (0,0))]∧ad=some ⟨g,0,none⟩∧Row m cap size cur xs
theorem gM.nil(e:TypeId)(size:Nat):gM e size [] none 0 0 []:= .inl ⟨rfl,rfl,rfl,rfl,rfl⟩
section
variable {P:Program}{Q:Exit→Act→World→Prop}{K:Act→World→Prop}{a:Act}{o:Oper}{n d:Nat}{L:List (Nat×Value)}{D:List Deferred}{E:Nat→Prop}{w0 w:World}{X Y:Hid}
theorem zWs{t e:TypeId}{s x:Operand}{m c nn cap size:Nat}{O:Option Addr}{xs news:List Value}{ad:Addr}{z:Value}{i0:TypeInfo}{rb A B:List (Nat×Obj)}(F:List (Nat×Obj)→List (Nat×Obj))(hF:Fr n a L D)(hc:opk L o d n=true)(hS:St E w0 X w Y (F rb))(hM:∀rb,F rb=A++(rb++B))
  (ho:o.op= .call {callee:= .builtin .append,args:=#[s,x],argTypes:=#[t,t]}) (hs:evL L s= .slice O nn cap) (hx:evL L x= .slice (some ad) m c)
  (ht:P.underlying t=some (.slice e)) (hi:P.info? e=some i0) (hz:i0.zero=some z) (hsz:i0.size=size) (V:z.cells.size=size)
  (I:gM e size rb O nn cap xs) (G:jE w ad news) (hl:news.length=m*size) (h1:news.all Value.oneCell'=true) (hm0:0<m)
  (h63:nn+m≤maxLen) (C:(nn+m)*i0.bytes≤140737488355328)
  (k:∀W ad' j w1 N,gM e size W ad' (nn+m) j (xs++news)→St E w0 X w1 N (F W)→Le (rd w Y) (rd w1 N)→∀a1,Fr n a1 ((d,.slice ad' (nn+m) j)::L) D→K a1 w1):o.wp P a w K Q:=by
 rcases I with⟨rfl,rfl,rfl,rfl,rfl⟩ | ⟨g,cur,rfl,rfl,I⟩
 ·refine zHr hF hc hS ho hs hx ht hi hz hsz V G hl hm0 (by omega) (by simpa using C) (fun R j f w1 N hr Z J a1 G1=>?_)
  refine k [(R,.cells f e (0,0))] _ _ w1 N (.inr ⟨R,f,rfl,rfl,by simpa using hr⟩) ?_ J a1 (by rw[Nat.zero_add];exact G1)
  rw[hM];rw[hM]at Z;exact Z.perm (by simp)
 ·have U:=hS;rw[hM]at U;have hi':(A++([(g,Obj.cells cur e (0,0))]++B))[A.length]?=some (g,.cells cur e (0,0)):=by simp
  refine zKv A.length hF hc U ho hs hx ht hi hz hsz V hi' I G hl h1 h63 C (fun R j f w1 N hr Z J a1 G1=>?_);refine k [(R,.cells f e (0,0))] _ _ w1 N (.inr ⟨R,f,rfl,rfl,hr⟩) ?_ J a1 G1;rw[hM];simpa[List.set_append]using Z
theorem qFx{t e:TypeId}{s x:Operand}{m c nn cap size:Nat}{F:Option Addr}{xs news:List Value}{ad:Addr}{z:Value}{i0:TypeInfo}{rb R1 B M:List (Nat×Obj)}(i:Nat)(V:Fr n a L D)(hc:opk L o d n=true)(Z:St E w0 X w Y M)(W:M.drop i=R1++(rb++B))
  (ho:o.op= .call {callee:= .builtin .append,args:=#[s,x],argTypes:=#[t,t]}) (hs:evL L s= .slice F nn cap) (hx:evL L x= .slice (some ad) m c)
  (ht:P.underlying t=some (.slice e)) (hi:P.info? e=some i0) (hz:i0.zero=some z) (hsz:i0.size=size) (O:z.cells.size=size)
  (G:gM e size rb F nn cap xs) (C:jE w ad news) (hl:news.length=m*size) (U:news.all Value.oneCell'=true) (N:0<m)
  (J:nn+m≤maxLen) (f:(nn+m)*i0.bytes≤140737488355328)
  (k:∀I ad' j w1 R,gM e size I ad' (nn+m) j (xs++news)→St E w0 X w1 R (M.take i++(R1++(I++B)))→Le (rd w Y) (rd w1 R)→∀a1,Fr n a1 ((d,.slice ad' (nn+m) j)::L) D→K a1 w1):o.wp P a w K Q:=
 zWs (A:=M.take i++R1) (B:=B) (fun rb=>M.take i++(R1++(rb++B))) V hc (by rw[←W,List.take_append_drop];exact Z) (fun _=>by rw[List.append_assoc]) ho hs hx ht hi hz hsz O G C hl U N J f k
theorem qNc{t e:TypeId}{s x:Operand}{m c nn cap size:Nat}{F:Option Addr}{xs news:List Value}{ad:Addr}{z:Value}{i0:TypeInfo}{rb R1 M:List (Nat×Obj)}(i:Nat)(V:Fr n a L D)(hc:opk L o d n=true)(Z:St E w0 X w Y M)(W:M.drop i=R1++rb)
  (ho:o.op= .call {callee:= .builtin .append,args:=#[s,x],argTypes:=#[t,t]}) (hs:evL L s= .slice F nn cap) (hx:evL L x= .slice (some ad) m c)
  (ht:P.underlying t=some (.slice e)) (hi:P.info? e=some i0) (hz:i0.zero=some z) (hsz:i0.size=size) (O:z.cells.size=size)
  (G:gM e size rb F nn cap xs) (C:jE w ad news) (hl:news.length=m*size) (U:news.all Value.oneCell'=true) (N:0<m)
  (J:nn+m≤maxLen) (f:(nn+m)*i0.bytes≤140737488355328)
  (k:∀I ad' j w1 R,gM e size I ad' (nn+m) j (xs++news)→St E w0 X w1 R (M.take i++(R1++I))→Le (rd w Y) (rd w1 R)→∀a1,Fr n a1 ((d,.slice ad' (nn+m) j)::L) D→K a1 w1):o.wp P a w K Q:=
 zWs (A:=M.take i++R1) (B:=[]) (fun rb=>M.take i++(R1++rb)) V hc (by rw[←W,List.take_append_drop];exact Z) (fun _=>by rw[List.append_nil,List.append_assoc]) ho hs hx ht hi hz hsz O G C hl U N J f k
end
section
variable {w0 w:World}{X Y:Hid}{rb A B:List (Nat×Obj)}{e:TypeId}{size m cap:Nat}{ad:Option Addr}
theorem St.pubRow{xs:List Value}(F:List (Nat×Obj)→List (Nat×Obj))(C:St E0 w0 X w Y (F rb))(I:∀rb,F rb=A++(rb++B))(f:gM e size rb ad m cap xs):
  ∃j,St E0 w0 X w j (F [])∧Le (rd w Y) (rd w j)∧((xs=[]∧ad=none∧m=0∧cap=0)∨∃g cur,ad=some ⟨g,0,none⟩∧Row m cap size cur xs∧At (rd w j) ⟨g,0,none⟩ cur.toList):=by
 rcases f with⟨rfl,rfl,rfl,rfl,rfl⟩ | ⟨g,cur,rfl,rfl,f⟩
 ·exact⟨Y,C,Le.refl _,.inl ⟨rfl,rfl,rfl,rfl⟩⟩
 ·rw[I]at C;have G:St E0 w0 X w Y ((g,.cells cur e (0,0))::(A++B)):=C.perm (by simpa using List.perm_middle.symm)
  obtain⟨J,N,O⟩:=St.publish G (G.own_ge 0 rfl);exact⟨_,by rw[I];simpa using J,N,.inr ⟨g,cur,rfl,f,O⟩⟩
def jBd(r:Rd)(a:Addr)(x:Int):Prop:=At r a [.int .i64 x]
def Ints:=SlR jBd 1
end
theorem qCv(x:Rat):(if mF x.den=0 then 1 else mF x.den)=x.den:=by
 unfold mF;have:=x.den_pos;rcases Classical.em (x.den=1)with h | h
 ·rw[if_pos h,if_pos rfl,h]
 ·rw[if_neg h,if_neg (by omega)]
theorem zXm(n:Int):sgn (decide (n<0)) n.natAbs=n:=by
 unfold sgn;split
 ·rename_i h;have:=of_decide_eq_true h;omega
 ·rename_i h;have:¬n<0:=fun h'=>h (decide_eq_true h');omega
theorem Raw.of_d(x:Rat):(Raw.of x).d=x.den:=by
 unfold Raw.d Raw.of;simp only[vQ];exact qCv x
theorem Raw.of_rat(x:Rat):(Raw.of x).rat=x:=by
 unfold Raw.rat;rw[Raw.of_d];simp only[Raw.of,vQ,zXm];exact Rat.mkRat_self x
theorem zHm{n k:Nat}(h:n<4294967296^k):(kU n).length≤k:=(zV (zKq n) (rD n) k).2 (by rw[vQ];exact h)
theorem Raw.of_chk{x:Rat}(h:zJi x=0):(Raw.of x).chk=0:=by
 unfold zJi at h;split at h
 ·rename_i G;have N:=zHm G.1;have l2:=zHm G.2;have I:=zFk (l:=kU x.num.natAbs) (by omega) (rD _)
  have J:=zFk (l:=kU (mF x.den)) (by omega) (rD _)
  have hr:=x.reduced;have hp:=x.den_pos;have F:mF x.den≠1:=by unfold mF;split<;>omega
  unfold Raw.chk Raw.of;simp only[vQ];rw[if_neg (by omega),if_neg ?_,if_neg ?_]
  ·rintro⟨f,j⟩;unfold mF at f j;split at f
   ·omega
   ·rename_i C;rw[if_neg C]at j;exact j hr
  ·rintro(f | f | f | ⟨f,j | j⟩)
   ·exact f I
   ·exact f J
   ·exact F f
   ·have:=of_decide_eq_true j;omega
   ·unfold mF at j;split at j
    ·omega
    ·rename_i C;rw[f]at hr;have:Nat.gcd 0 x.den=1:=hr;rw[Nat.gcd_zero_left]at this;exact C this
 ·cases h
theorem qIx:Raw.zero.chk=0:=by decide
theorem qAj:Raw.zero.rat=0:=by unfold Raw.rat;simp[Raw.zero,val,sgn,Rat.zero_mkRat]
section
variable {x y r:Raw}{z:Rat}
theorem fV(h:opE x y z=0):x.chk=0∧y.chk=0∧opR x y z= .of z∧(opR x y z).rat=z∧(opR x y z).chk=0:=by
 have f:=fZ (x:=or2 x.chk y.chk) h;have j:=fZ f.1;have e:opR x y z= .of z:=if_pos h;exact⟨j.1,j.2,e,by rw[e];exact Raw.of_rat z,by rw[e];exact Raw.of_chk f.2⟩
theorem zSq(f:x.chk=0)(j:y.chk=0):xB x y=0:=by unfold xB;rw[f,j];rfl
theorem zSp(f:x.chk=0)(j:y.chk=0):yE x y<0↔x.rat<y.rat:=by
 unfold yE;rw[if_pos (zSq f j)];unfold zLz;split
 ·rename_i h;rw[h];constructor
  ·intro h;exact absurd h (by decide)
  ·intro h;grind
 ·split
  ·rename_i h;simp[h]
  ·rename_i h;constructor
   ·intro h;exact absurd h (by decide)
   ·intro h';exact absurd h' h
theorem zSo(f:x.chk=0)(j:y.chk=0):yE x y≤0↔x.rat≤y.rat:=by
 unfold yE;rw[if_pos (zSq f j)];unfold zLz;split
 ·rename_i h;rw[h];exact⟨fun _=>Rat.le_refl,fun _=>Int.le_refl _⟩
 ·rename_i C;split
  ·rename_i h;constructor
   ·intro _;grind
   ·intro _;decide
  ·rename_i h;constructor
   ·intro h;exact absurd h (by decide)
   ·intro h';grind
end
section
variable {d:Raw}{v:List Raw}{a:zLi}
end
theorem zUg{x:Raw}(h:x.neg=false):0≤x.rat:=by
 unfold Raw.rat;rw[h];rw[←Rat.num_nonneg,Rat.num_mkRat];split
 ·exact Int.le_refl _
 ·exact Int.ediv_nonneg (by simp[sgn]) (by omega)
end Go.Gv
namespace Go.Gv
open Go.RowKit Go.ChangeShapes IntKind
theorem zPv{α β:Type}{f:α→Option β}:∀{l:List α}{cs:List β},l.mapM f=some cs→cs.length=l.length∧∀(j:Nat)(a:α),l[j]?=some a→f a=cs[j]?
 | [],cs,h=>by
  simp at h;subst h;simp
 | a::l,cs,h=>by
  rw[List.mapM_cons]at h;cases C:f a with
  | none=>rw[C]at h;cases h
  | some b=>
   rw[C]at h;cases G:l.mapM f with
   | none=>rw[G]at h;cases h
   | some bs=>
    rw[G]at h;obtain rfl:b::bs=cs:=by simpa using h
    obtain⟨I,J⟩:=zPv G;refine⟨by simp[I],fun j c F=>?_⟩
    rcases j with _ | j
    ·simp at F;subst F;simpa using C
    ·simpa using J j c (by simpa using F)
theorem zJs{w:World}{a:Addr}{n:Nat}{cs:List Value}(h:w.cells? 0 a n=some cs):cs.length=n∧∀j,j<n→w.cell? (a.add j)=cs[j]?:=by
 unfold World.cells? at h;rw[if_pos (Nat.zero_le _)]at h;obtain⟨f,C⟩:=zPv h;rw[List.length_range]at f;exact⟨f,fun j F=>C j j (by simp[F])⟩
theorem zWf{α:Type}{p:Nat→α→Prop}:∀(n:Nat),(∀i,i<n→∃x,p i x)→∃l:List α,l.length=n∧∀i x,l[i]?=some x→p i x
 | 0,_=>⟨[],rfl,fun i x h=>by simp at h⟩
 | n+1,h=>by
  obtain⟨l,j,C⟩:=zWf n (fun i f=>h i (by omega))
  obtain⟨x,G⟩:=h n (by omega)
  refine⟨l++[x],by simp[j],fun i y f=>?_⟩
  rcases Nat.lt_or_ge i n with hlt | F
  ·rw[List.getElem?_append_left (by omega)]at f
   exact C i y f
  ·rw[List.getElem?_append_right (by omega)]at f
   have hlt:=(List.getElem?_eq_some_iff.1 f).1;simp at hlt;have:i=n:=by omega
   subst this;rw[j]at f;simp at f;exact f▸G
section
variable {H:Type}{enc:TypeId×Value→H}{P:Program}{w:World}{spare:Nat→Bool}{held:Bool}
def nW(enc:TypeId×Value→H)(P:Program)(w:World)(spare:Nat→Bool)(held:Bool)(n:Nat)(t:TypeId)(cs:List Value)(y:DataW H×List MemPlace):Prop:=DataW.trod enc P w 0 spare held n t cs=some y∧w.noneFrozen y.2∧∀n∈y.1.weights P t,n≤140737488351232
theorem jAs{e:TypeId}{d:DataW H}{n:Nat}(hn:n∈d.weights P e):∀{l:List (DataW H)},d∈l→n∈DataW.weightsAll P e l
 | x::l,h=>by
  rw[DataW.weightsAll,List.mem_append];rcases List.mem_cons.1 h with rfl | h
  ·exact .inl hn
  ·exact .inr (jAs hn h)
theorem fld{t:TypeId}{C:Array Field}{f:Field}{fuel size:Nat}{cs:List Value}{x:DataW H×List MemPlace}(ht:P.underlying t=some (.struct C))(h:nW enc P w spare held fuel t cs x)(i:Nat)(F:C[i]?=some f)(hs:P.cellsOf f.type=size):
  ∃n y,nW enc P w spare held n f.type ((cs.drop f.offset).take size) y:=by
 obtain⟨xs,n,_,G,_,O,I⟩:=DataW.trod_struct ht h.1;have hlt:i<C.size:=(Array.getElem?_eq_some_iff.1 F).1;have:=I i f F;rw[hs]at this;refine⟨n,xs[i]'(by omega),this.trans (List.getElem?_eq_getElem _),fun b off N=>h.2.1 b off ?_,fun k J=>h.2.2 k ?_⟩
 ·rw[G];exact List.mem_flatMap.2 ⟨_,List.getElem_mem _,N⟩
 ·rw[G];simp only[DataW.weights,ht];exact DataW.weights_mem_each (j:=i) (t:=f.type) (d:=(xs[i]'(by omega)).1) (by rw[List.getElem?_map,Array.getElem?_toList,F];rfl) (by rw[List.getElem?_map,List.getElem?_eq_getElem (by omega)];rfl) k J
theorem flen{t:TypeId}{f:Array Field}{fuel size:Nat}{cs:List Value}{x:DataW H×List MemPlace}(ht:P.underlying t=some (.struct f))(h:nW enc P w spare held fuel t cs x)(hs:P.cellsOf t=size):cs.length=size:=by
 obtain⟨xs,n,_,_,j,_⟩:=DataW.trod_struct ht h.1;rw[j,hs]
def qSo(enc:TypeId×Value→H)(P:Program)(w:World)(spare:Nat→Bool)(held:Bool){α:Type}(e:TypeId)(size:Nat)(El:Rd→Addr→α→Prop):Prop:=
 ∀(n:Nat)(cs:List Value)(y:DataW H×List MemPlace)(b off:Nat),nW enc P w spare held n e cs y→cs.length=size→At (rd w X0) ⟨b,off,none⟩ cs→∃x,El (rd w X0) ⟨b,off,none⟩ x
theorem qNh{α:Type}{El:Rd→Addr→α→Prop}{t e:TypeId}{size fuel bts:Nat}{cs:List Value}{x:DataW H×List MemPlace}(ht:P.underlying t=some (.slice e))(hs:P.cellsOf e=size)(h0:0<size)(hb:P.bytesOf e=bts)(hel:qSo enc P w spare held e size El)
  (h:nW enc P w spare held fuel t cs x):∃ad len cap xs,cs=[.slice ad len cap]∧SlR El size (rd w X0) ad len cap xs∧xs.length*bts≤140737488351232:=by
 rcases DataW.trod_slice ht h.1 with⟨rfl,_⟩ | ⟨a,len,cap,elems,rest,n,_,rfl,Z,_,hl,hm,hlen,F,_,_⟩
 ·exact⟨none,0,0,[],rfl,⟨rfl,Nat.le_refl _,by omega,.inl rfl⟩,by simp⟩
 ·rw[hs]at F;have N:cap≤9223372036854775807:=by simpa[maxLen]using hm
  have each:∀i,i<len→∃ci yi,w.cells? 0 (a.add (i*size)) size=some ci∧nW enc P w spare held n e ci yi:=fun i W=>by
   have f:=F i W;rw[List.getElem?_eq_getElem (by omega)]at f
   refine Option.bind_eq_some_iff.1 f |>.imp fun ci I=>⟨_,I.1,I.2,fun b off hm=>h.2.1 b off ?_,fun k hk=>h.2.2 k ?_⟩
   ·rw[Z];exact List.mem_append_right _ (List.mem_flatMap.2 ⟨_,List.mem_append_left _ (List.getElem_mem _),hm⟩)
   ·rw[Z];simp only[DataW.weights,ht];exact List.mem_cons_of_mem _ (List.mem_append_left _ (jAs hk (List.mem_map_of_mem (List.getElem_mem _))))
  have G:len*bts≤140737488351232:=by
   have f:=h.2.2 ((elems.length+rest.length)*P.bytesOf e) (by rw[Z];simp only[DataW.weights,ht,List.length_map];exact List.mem_cons_self)
   rw[hb]at f;exact Nat.le_trans (Nat.mul_le_mul_right _ (by omega)) f
  have V:∀k,k<len*size→w.frozen? ⟨a.block,a.off+k,none⟩=false:=fun k hk=>h.2.1 _ _ (by
   rw[Z];refine List.mem_append_left _ (List.mem_map.2 ⟨k,List.mem_range.2 ?_,rfl⟩);rw[hs];exact Nat.lt_of_lt_of_le hk (Nat.mul_le_mul_right _ (by omega)))
  rcases Nat.eq_zero_or_pos len with rfl | O
  ·exact⟨some a,0,cap,[],rfl,⟨rfl,Nat.zero_le _,N,.inl rfl⟩,by simp⟩
  ·have R:a.spot=none:=by
    obtain⟨ci,yi,f,_⟩:=each 0 O;obtain⟨J,hc⟩:=zJs f;have C:=hc 0 h0;rw[List.getElem?_eq_getElem (by omega)]at C
    simp only[Nat.zero_mul,Addr.add,if_true]at C;unfold World.cell? at C;split at C
    ·split at C
     ·cases C
     ·rename_i h3;cases hh:a.spot<;>simp_all
    ·cases C
   obtain⟨b,off,sp⟩:=a;simp only at R;subst R;obtain⟨xs,U,hx2⟩:=zWf (p:=fun i x=>El (rd w X0) ⟨b,off+i*size,none⟩ x) len (fun i W=>by
    obtain⟨ci,yi,f,C⟩:=each i W;rw[jO]at f;obtain⟨J,hc⟩:=zJs f;refine hel n ci yi b _ C J (fun j v hj=>?_);have hj':j<size:=by have:=(List.getElem?_eq_some_iff.1 hj).1;omega
    refine rX ((hc j hj').trans hj) (fun h=>h.elim) ?_;rw[jO,Nat.add_assoc];refine V (i*size+j) ?_;have h3:(i+1)*size≤len*size:=Nat.mul_le_mul_right _ W;rw[Nat.add_mul,Nat.one_mul]at h3;omega)
   exact⟨_,len,cap,xs,rfl,⟨U.symm,hl,N,.inr ⟨b,off,rfl,hx2⟩⟩,by rw[U];exact G⟩
end
end Go.Gv
namespace Go.Gv
open Go.RowKit IntKind
section
variable {P:Program}{w:World}
def zEu(o:Oper):TypeId:=match o.op with
 | .load t _=>t
 | _=>0
def ldX(o:Oper):Operand:=match o.op with
 | .load _ x=>x
 | _=> .tmp 0
def ldG(P:Program)(o:Oper):Bool:=match ldT P (zEu o)with
 | some (g,_)=>g
 | none=>false
def clF(o:Oper):Operand:=match o.op with
 | .call c=>(match c.callee with
  | .value x=>x
  | _=> .tmp 0)
 | _=> .tmp 0
def clA(o:Oper):Array Operand:=match o.op with
 | .call c=>c.args
 | _=>#[]
def clT(o:Oper):Array TypeId:=match o.op with
 | .call c=>c.argTypes
 | _=>#[]
def qJx:Value→Array Value
 | .func _ _ c=>c
 | _=>#[]
def vOf(P:Program)(L:List (Nat×Value))(o:Oper)(w:World):Value:=match(execOp (evL L) o).run P w with
 | .ok (.value v) _=>v
 | _=>undef
def bO(M:List (Nat×Obj))(i:Nat):Nat:=match M[i]? with
 | some (b,_)=>b
 | none=>0
def cO(M:List (Nat×Obj))(i:Nat):Array Value:=match M[i]? with
 | some (_,.cells c _ _)=>c
 | _=>#[]
def tO(M:List (Nat×Obj))(i:Nat):TypeId:=match M[i]? with
 | some (_,.cells _ t _)=>t
 | _=>0
def fO(M:List (Nat×Obj))(i:Nat):Nat×Nat:=match M[i]? with
 | some (_,.cells _ _ f)=>f
 | _=>(0,0)
end
section
variable {P:Program}{E:Nat→Prop}{w0 w:World}{X Y:Hid}{M:List (Nat×Obj)}
end
section
variable {P:Program}{Q:Exit→Act→World→Prop}{K:Act→World→Prop}{a:Act}{o:Oper}{n d:Nat}{L:List (Nat×Value)}{D:List Deferred}{E:Nat→Prop}{w0 w:World}{X Y:Hid}{M:List (Nat×Obj)}
end
section
variable {P:Program}{ops:Array Oper}{Q:Exit→Act→World→Prop}{S:World→Prop}{T:List Nat}{a:Act}{o:Oper}{n d:Nat}{L:List (Nat×Value)}{D:List Deferred}{w:World}
def zR(ops:Array Oper)(i:Nat):Oper:=(ops[i]?).getD default
end
section
variable {r:Option Nat}{P:Program}{ops:Array Oper}{Q:Exit→Act→World→Prop}{a:Act}{w:World}{nn m:Nat}{L:List (Nat×Value)}{D:List Deferred}
end
end Go.Gv
namespace Go.Gv
open Go.RowKit IntKind
inductive Fm where
  | seq (c:Code)
  | blk (id:Nat)
  | scp
  | kk (K:Act→World→Prop)
inductive Cu where
  | code (c:Code)
  | ops (o:Array Oper) (l:List Oper)
  | ex (e:Exit)
structure Cf where
 cu:Cu
 k:List Fm
 L:List (Nat×Value)
def QQ(r:Option Nat)(m:Nat)(P:Program)(Q:Exit→Act→World→Prop):List Fm→Exit→Act→World→Prop
 | []=>Q
 | .seq c::k=>Exit.then (fun a w=>c.wpIn (FF r) m P (QQ r m P Q k) a w) (QQ r m P Q k)
 | .blk id::k=>Exit.inBlock id (QQ r m P Q k)
 | .scp::k=>Exit.noGoto (QQ r m P Q k)
 | .kk K::k=>Exit.then K (QQ r m P Q k)
def Cu.wp(r:Option Nat)(m:Nat)(P:Program)(Q:Exit→Act→World→Prop)(a:Act)(w:World):Cu→Prop
 | .code c=>c.wpIn (FF r) m P Q a w
 | .ops o l=>wpListIn (FF r) m P o Q l a w
 | .ex e=>Q e a w
@[irreducible] def Go (r : Option Nat) (m : Nat) (P : Program) (Q : Exit → Act → World → Prop) (n : Nat) (D : List Deferred) (w : World) (c : Cf) : Prop :=
  ∀ a, Fr n a c.L D → c.cu.wp r m P (QQ r m P Q c.k) a w
attribute [local semireducible] Go
def fv{α:Type}(v:Value)(f:Value→α):α:=match v with
 | .int k x=>f (.int k x)
 | .bool b=>f (.bool b)
 | .slice a l c=>f (.slice a l c)
 | .pointer a=>f (.pointer a)
 | .agg vs=>f (.agg vs)
 | .tuple vs=>f (.tuple vs)
 | v=>f v
theorem qDx{α:Type}(v:Value)(f:Value→α):fv v f=f v:=by cases v<;>rfl
def opS(P:Program)(n:Nat)(w:World)(ops:Array Oper)(o:Oper)(L:List (Nat×Value)):Option (List (Nat×Value)×World):=
 match o.dst with
 | none=>none
 | some d=>
  bif Nat.blt d n&&xY o.op then
   bif yY ops L o true then
    bif nM L o then
     match(execOp (evL L) o).run P w with
     | .ok (.value v) w'=>fv v fun v=>some ((d,v)::L,w')
     | _=>none
    else none
   else bif yY ops L o false then some ((d,undef)::L,w)else none
  else none
def zOu(r:Option Nat)(k:List Fm)(L:List (Nat×Value)):Code→Option Cf
 | .seq x y=>some ⟨.code x,.seq y::k,L⟩
 | .skip=>some ⟨.ex .normal,k,L⟩
 | .label _=>some ⟨.ex .normal,k,L⟩
 | .block id x=>some ⟨.code x,.blk id::k,L⟩
 | .exit id=>some ⟨.ex (.exit id),k,L⟩
 | .ret=>some ⟨.ex .ret,k,L⟩
 | .region _ o false=>some ⟨.ops o o.toList,k,L⟩
 | .cond c x y=>bif cov L c then(match evL L c with
  | .bool true=>some ⟨.code x,k,L⟩
  | .bool false=>some ⟨.code y,k,L⟩
  | _=>none)else none
 | .scope x=>match r with
  | none=>some ⟨.code x,.scp::k,L⟩
  | some _=>none
 | _=>none
def exS(e:Exit)(L:List (Nat×Value)):List Fm→Option Cf
 | []=>none
 | f::k=>match e,f with
  | .normal,.seq y=>some ⟨.code y,k,L⟩
  | .normal,.blk _=>some ⟨.ex .normal,k,L⟩
  | .normal,.scp=>some ⟨.ex .normal,k,L⟩
  | .exit id,.blk j=>bif Nat.beq id j then some ⟨.ex .normal,k,L⟩else some ⟨.ex (.exit id),k,L⟩
  | .exit id,_=>some ⟨.ex (.exit id),k,L⟩
  | .ret,_=>some ⟨.ex .ret,k,L⟩
  | _,_=>none
def nx1(r:Option Nat)(P:Program)(n:Nat)(w:World)(c:Cf):Option (Cf×World):=
 match c with
 | ⟨.code x,k,L⟩=>match zOu r k L x with
  | some c=>some (c,w)
  | none=>none
 | ⟨.ops _ [],k,L⟩=>some (⟨.ex .normal,k,L⟩,w)
 | ⟨.ops o (x::l),k,L⟩=>match opS P n w o x L with
  | some (L,w)=>some (⟨.ops o l,k,L⟩,w)
  | none=>none
 | ⟨.ex e,k,L⟩=>match exS e L k with
  | some c=>some (c,w)
  | none=>none
def nx(r:Option Nat)(P:Program)(n:Nat):Nat→World→Cf→Cf×World×Bool
 | 0,w,c=>(c,w,true)
 | k+1,w,c=>match nx1 r P n w c with
  | some (c,w)=>nx r P n k w c
  | none=>(c,w,false)
section
variable {r:Option Nat}{m:Nat}{P:Program}{Q:Exit→Act→World→Prop}{n:Nat}{D:List Deferred}{w:World}
theorem qKz{x:Code}{k:List Fm}{L:List (Nat×Value)}{c':Cf}(h:zOu r k L x=some c')(j:Go r m P Q n D w c'):Go r m P Q n D w ⟨.code x,k,L⟩:=by
 intro a f;show x.wpIn (FF r) m P (QQ r m P Q k) a w;cases x<;>simp only[zOu]at h<;>try cases h
 case skip=>exact wW (j a f)
 case label=>exact zMi (j a f)
 case seq x y=>exact zG (fun K F=>wpIn_mono (j a f) (fun e a w hh=>by cases e<;>first | exact F _ _ hh | exact hh))
 case block=>exact yZ (j a f)
 case exit=>exact aK (j a f)
 case ret=>exact mI (j a f)
 case region id o b=>
  cases b<;>simp only[zOu]at h<;>try cases h
  have:=j a f;cases o;exact zC this
 case cond c x y=>
  cases C:cov L c<;>simp only[C,ze,zf]at h
  ·cases h
  split at h
  ·rename_i hv;cases h;exact qWj f C hv (j a f)
  ·rename_i hv;cases h;exact qLq f C hv (j a f)
  ·cases h
 case scope x=>
  cases r<;>simp only[]at h<;>cases h;exact zMj (j a f)
theorem jBs{e:Exit}{k:List Fm}{L:List (Nat×Value)}{c':Cf}(h:exS e L k=some c')(F:Go r m P Q n D w c'):Go r m P Q n D w ⟨.ex e,k,L⟩:=by
 intro a C;show QQ r m P Q k e a w;cases k with
 | nil=>cases h
 | cons f k=>
  cases e<;>cases f<;>simp only[exS]at h<;>try cases h
  all_goals first
   | exact F a C
   | skip
  rename_i id j;cases hb:Nat.beq id j<;>simp only[hb,ze,zf]at h<;>cases h
  ·exact zGh hb (F a C)
  ·obtain rfl:=Nat.eq_of_beq_eq_true hb;exact nZ (F a C)
end
def zYs(c:Cf):Array Oper:=match c.cu with
 | .ops o _=>o
 | _=>#[]
def cop(c:Cf):Oper:=match c.cu with
 | .ops _ (x::_)=>x
 | _=>default
def zVi(c:Cf):List Oper:=match c.cu with
 | .ops _ (_::l)=>l
 | _=>[]
def cd(c:Cf):Nat:=(cop c).dst.getD 0
def zGy(n:Nat)(c:Cf):Bool:=(match c.cu with
 | .ops _ (_::_)=>true
 | _=>false)&&(yY (zYs c) c.L (cop c) true&&(xY (cop c).op&&nM c.L (cop c)))
def isv(n:Nat)(c:Cf):Bool:=zGy n c&&(match(cop c).dst with
 | some t=>Nat.blt t n
 | none=>false)
def nv0(c:Cf)(v:Value):Cf:=⟨.ops (zYs c) (zVi c),c.k,(cd c,v)::c.L⟩
def nv(c:Cf)(v:Value):Cf:=match c with
 | ⟨.ops o (x::l),k,L⟩=>(match x.dst with
  | some d=>⟨.ops o l,k,(d,v)::L⟩
  | none=>nv0 c v)
 | _=>nv0 c v
theorem zWn(c:Cf)(v:Value):nv c v=nv0 c v:=by
 unfold nv;split
 ·split
  ·rename_i hd;simp only[nv0,zYs,zVi,cd,cop,hd,Option.getD_some]
  ·rfl
 ·rfl
def n0(c:Cf):Cf:=⟨.ops (zYs c) (zVi c),c.k,c.L⟩
section
variable {r:Option Nat}{m:Nat}{P:Program}{Q:Exit→Act→World→Prop}{n:Nat}{D:List Deferred}{w:World}{c:Cf}
theorem qAi(f:zGy n c=true)(h:∀a,Fr n a c.L D→(cop c).wp P a w (wpListIn (FF r) m P (zYs c) (QQ r m P Q c.k) (zVi c)) (QQ r m P Q c.k)):Go r m P Q n D w c:=by
 intro a j;have h:=h a j;obtain⟨cu,k,L⟩:=c;match cu,f,j,h with
 | .ops o (x::l),f,j,h=>
  simp only[zGy,Bool.true_and,zd,zYs,cop]at f;exact qW j (by simp only[f.1,f.2.1,Bool.and_self]) h
 | .ops o [],f,_,_=>simp[zGy]at f
 | .code _,f,_,_=>simp[zGy]at f
 | .ex _,f,_,_=>simp[zGy]at f
theorem tX(h:isv n c=true):zGy n c=true∧opk c.L (cop c) (cd c) n=true:=by
 simp only[isv,zd]at h;refine⟨h.1,?_⟩;have j:=h.1;simp only[zGy,zd]at j;simp only[opk,zd,bY];refine⟨j.2.2.2,?_⟩;have f:=h.2;unfold cd;cases hd:(cop c).dst<;>simp only[hd]at f ⊢
 ·cases f
 ·simpa using f
theorem qAh{ops:Array Oper}{o:Oper}{l:List Oper}{Q:Exit→Act→World→Prop}{a:Act}{w w':World}{L O:List (Nat×Value)}(F:Fr n a L D)(hn:xY o.op=true)(hr:zIh P ops n 1 (o::l) L w=some (O,w'))
  (R:∀a',Fr n a' O D→wpListIn (FF r) m P ops Q l a' w'):wpListIn (FF r) m P ops Q (o::l) a w:=by
 unfold zIh at hr;cases hd:o.dst with
 | none=>simp[hd]at hr
 | some d=>
  simp only[hd]at hr;cases hlt:Nat.blt d n with
  | false=>simp[hlt]at hr
  | true=>
   simp only[hlt,ze]at hr;have G:d<n:=by simpa[Nat.blt_eq]using hlt
   cases I:yY ops L o true with
   | true=>
    simp only[I,ze]at hr;cases j:nM L o with
    | false=>simp[j]at hr
    | true=>
     simp only[j,ze]at hr;cases N:(execOp (evL L) o).run P w with
     | halt h w1=>simp[N]at hr
     | ok x w1=>
      cases x<;>simp only[N]at hr<;>try cases hr
      rename_i v;refine qW F (by rw[I,hn];rfl) ?_
      unfold Oper.wp;rw[F.exec j,N];show wpListIn (FF r) m P ops Q l (a.put o.dst v) w';rw[hd];exact R _ (F.put G v)
   | false=>
    simp only[I,zf]at hr;cases C:yY ops L o false with
    | false=>simp[C]at hr
    | true=>
     simp only[C,ze]at hr;have J:=F.wanted C;cases hr;unfold wpListIn;rw[if_neg (by rw[J];simp),hd]
     exact⟨fun f _=>kY r f,R _ (F.put G _)⟩
theorem qFw{w':World}{ops:Array Oper}{x:Oper}{l:List Oper}{k:List Fm}{L f:List (Nat×Value)}(h:opS P n w ops x L=some (f,w'))(J:Go r m P Q n D w' ⟨.ops ops l,k,f⟩):Go r m P Q n D w ⟨.ops ops (x::l),k,L⟩:=by
 intro a I;show wpListIn (FF r) m P ops (QQ r m P Q k) (x::l) a w;have hr:zIh P ops n 1 (x::l) L w=some (f,w')∧xY x.op=true:=by
  unfold opS at h;unfold zIh;cases hd:x.dst with
  | none=>simp[hd]at h
  | some d=>
   simp only[hd]at h ⊢;cases hlt:Nat.blt d n<;>simp only[hlt,Bool.false_and,Bool.true_and,zf,ze]at h ⊢
   ·cases h
   cases hn:xY x.op<;>simp only[hn,zf,ze]at h ⊢
   ·cases h
   refine⟨?_,trivial⟩;cases N:yY ops L x true<;>simp only[N,zf,ze]at h ⊢
   ·cases F:yY ops L x false<;>simp only[F,zf,ze]at h ⊢
    ·cases h
    ·cases h;rfl
   cases C:nM L x<;>simp only[C,zf,ze]at h ⊢
   ·cases h
   cases G:(execOp (evL L) x).run P w with
   | halt e w1=>simp[G]at h
   | ok y w1=>
    cases y<;>simp only[G,qDx]at h ⊢<;>cases h;rfl
 exact qAh I hr.2 hr.1 (fun a' j=>J a' j)
theorem zYi:∀(k:Nat)(w:World)(c:Cf),Go r m P Q n D (nx r P n k w c).2.1 (nx r P n k w c).1→Go r m P Q n D w c
 | 0,_,_,h=>h
 | k+1,w,c,h=>by
  unfold nx at h;split at h
  ·rename_i c' w' f;have h:=zYi k w' c' h;obtain⟨cu,k,L⟩:=c;unfold nx1 at f;match cu,f with
   | .code x,f=>
    simp only at f;cases hs:zOu r k L x<;>simp only[hs]at f<;>cases f;exact qKz hs h
   | .ex e,f=>
    simp only at f;cases hs:exS e L k<;>simp only[hs]at f<;>cases f;exact jBs hs h
   | .ops o [],f=>cases f;exact h
   | .ops o (x::l),f=>
    simp only at f;cases hs:opS P n w o x L<;>simp only[hs]at f<;>cases f;exact qFw hs h
  ·exact h
theorem zz(k:Nat)(h:Go r m P Q n D w (nx r P n k w c).1)(f:(nx r P n k w c).2=(w,true):=by kernel_rfl):Go r m P Q n D w c:=
 zYi k w c (by rw[f];exact h)
def st(c:Cf)(t:Nat)(v:Value):Cf:=match c with
 | ⟨cu,k,L⟩=>⟨cu,k,(t,v)::L⟩
def sl(c:Cf)(t:Nat):Option Value:=bif has c.L t then some (sI c.L t)else none
theorem zXr{t:Nat}{v:Value}(h:sl c t=some v):has c.L t=true∧sI c.L t=v:=by
 unfold sl at h;cases hh:has c.L t<;>simp only[hh,zf,ze]at h<;>cases h;exact⟨rfl,rfl⟩
theorem zs(t:Nat){v v':Value}(e:v=v')(h:Go r m P Q n D w (st c t v'))(hv:sl c t=some v:=by kernel_rfl):Go r m P Q n D w c:=fun a f=>
 h a (f.set t (zXr hv).1 (zXr hv).2 e)
theorem zt(t:Nat){p:Prop}[Decidable p](ht:p→Go r m P Q n D w (st c t (.bool true)))(f:¬p→Go r m P Q n D w (st c t (.bool false)))(hv:sl c t=some (.bool (decide p)):=by kernel_rfl):Go r m P Q n D w c:=by
 by_cases h:p
 ·exact zs t (by rw[decide_eq_true h]) (ht h) hv
 ·exact zs t (by rw[decide_eq_false h]) (f h) hv
theorem zb(t:Nat){b:Bool}(ht:b=true→Go r m P Q n D w (st c t (.bool true)))(f:b=false→Go r m P Q n D w (st c t (.bool false)))(hv:sl c t=some (.bool b):=by kernel_rfl):Go r m P Q n D w c:=by
 cases b
 ·exact zs t rfl (f rfl) hv
 ·exact zs t rfl (ht rfl) hv
theorem zw(t:Nat){x:Int}(h:Go r m P Q n D w (st c t (.int .i64 x)))(f: -9223372036854775808≤x:=by omega)(j:x≤9223372036854775807:=by omega)(hv:sl c t=some (.int .i64 (i64.wrap x)):=by kernel_rfl):Go r m P Q n D w c:=
 zs t (zQ (aZ f j)) h hv
variable {E:Nat→Prop}{w0:World}{X Y:Hid}{M:List (Nat×Obj)}
theorem zv{v:Value}(f:(execOp (evL c.L) (cop c)).run P w= .ok (.value v) w)(h:Go r m P Q n D w (nv c v))(j:isv n c=true:=by kernel_rfl):Go r m P Q n D w c:=
 qAi (tX j).1 fun _ F=>zE F (tX j).2 f fun _ C=>(zWn c v▸h:Go r m P Q n D w (nv0 c v)) _ C
theorem zl{vs:List Value}{ad:Addr}(f:jE w ad vs)(h:Go r m P Q n D w (nv c (ldV (ldG P (cop c)) vs)))(j:isv n c=true:=by kernel_rfl)
  (ho:(cop c).op= .load (zEu (cop c)) (ldX (cop c)):=by kernel_rfl) (F:evL c.L (ldX (cop c))= .pointer (some ad):=by kernel_rfl) (ht:ldT P (zEu (cop c))=some (ldG P (cop c),vs.length):=by kernel_rfl) (C:(ldG P (cop c)||vs.length==1)=true:=by kernel_rfl):Go r m P Q n D w c:=
 zv (zB ho F ht (by simpa using C) f) h j
end
end Go.Gv
namespace Go.Gv
open Go.RowKit IntKind
attribute [local semireducible] Go
def aR:Value→Nat
 | .pointer (some a)=>a.off
 | _=>0
def ldM(P:Program)(o:Oper):Nat:=match ldT P (zEu o)with
 | some (_,m)=>m
 | none=>0
section
variable {r:Option Nat}{m:Nat}{P:Program}{Q:Exit→Act→World→Prop}{n:Nat}{D:List Deferred}{w:World}{c:Cf}{E:Nat→Prop}{w0:World}{X Y:Hid}{M:List (Nat×Obj)}
def own(P:Program)(c:Cf)(M:List (Nat×Obj))(i:Nat):List Value:=((cO M i).toList.drop (aR (evL c.L (ldX (cop c))))).take (ldM P (cop c))
theorem zo(i:Nat)(f:St E w0 X w Y M)(h:Go r m P Q n D w (nv c (ldV (ldG P (cop c)) (own P c M i))))(j:isv n c=true:=by kernel_rfl)
  (ho:(cop c).op= .load (zEu (cop c)) (ldX (cop c)):=by kernel_rfl) (I:evL c.L (ldX (cop c))= .pointer (some ⟨bO M i,aR (evL c.L (ldX (cop c))),none⟩):=by kernel_rfl)
  (ht:ldT P (zEu (cop c))=some (ldG P (cop c),(own P c M i).length):=by kernel_rfl) (C:(ldG P (cop c)||(own P c M i).length==1)=true:=by kernel_rfl) (F:M[i]?=some (bO M i,.cells (cO M i) (tO M i) (fO M i)):=by kernel_rfl) (G:(own P c M i).length=ldM P (cop c):=by kernel_rfl):Go r m P Q n D w c:=
 zv (zB ho I ht (by simpa using C) (f.cells i F (by rw[G];rfl))) h j
def clV(c:Cf):Option (FuncId×Array Value):=match evL c.L (clF (cop c))with
 | .func (.func f) t cap=>bif t.isEmpty then some (f,(clA (cop c)).map (evL c.L)++cap)else none
 | _=>none
theorem zOr{f:FuncId}{vs:Array Value}(h:clV c=some (f,vs)):∃cap,evL c.L (clF (cop c))= .func (.func f) #[] cap∧(clA (cop c)).map (evL c.L)++cap=vs:=by
 unfold clV at h;split at h
 ·rename_i C t cap j;cases ht:t.isEmpty<;>simp only[ht,ze,zf]at h<;>cases h;obtain rfl:t=#[]:=by simpa using ht
  exact⟨cap,j,rfl⟩
 ·cases h
theorem zc{f:FuncId}{vs:Array Value}{Φ:World→Value→Prop}(R:St E w0 X w Y M)(j:Calls P f vs w (Ret E0 w Φ))
  (k:∀v w1,St E w0 X w1 Y M→Le (rd w Y) (rd w1 Y)→Upd E0 w w1→Φ w1 v→Go r m P Q n D w1 (nv c v))
  (hv:clV c=some (f,vs):=by kernel_rfl) (C:isv n c=true:=by kernel_rfl) (ho:(cop c).op= .call {callee:= .value (clF (cop c)),args:=clA (cop c),argTypes:=clT (cop c)}:=by kernel_rfl)
  (hcall:∀w,(callFunc f vs).run P w= .ok (.enter f vs) w:=by intro w;kernel_rfl):Go r m P Q n D w c:=by
 obtain⟨cap,U,ha⟩:=zOr hv;exact qAi (tX C).1 fun _ O=>kC O (tX C).2 R ho U ha hcall j fun v w1 G I J N a1 F=>(zWn c v▸k v w1 G I J N:Go r m P Q n D w1 (nv0 c v)) a1 F
theorem zcE{f:FuncId}{vs:Array Value}{ob:Obj}{b:Nat}{Φ:World→Value→Prop}(i:Nat)(V:St E w0 X w Y M)(U:M[i]?=some (b,ob))(C:Calls P f vs w (Ret (·=b) w Φ))
  (k:∀v w1 j,Φ w1 v→w1.heap[b]?=some j→St E w0 X w1 Y (M.set i (b,j))→Le (rd w Y) (rd w1 Y)→Go r m P Q n D w1 (nv c v))
  (hv:clV c=some (f,vs):=by kernel_rfl) (F:isv n c=true:=by kernel_rfl) (ho:(cop c).op= .call {callee:= .value (clF (cop c)),args:=clA (cop c),argTypes:=clT (cop c)}:=by kernel_rfl)
  (hcall:∀w,(callFunc f vs).run P w= .ok (.enter f vs) w:=by intro w;kernel_rfl):Go r m P Q n D w c:=by
 obtain⟨cap,W,ha⟩:=zOr hv;exact qAi (tX F).1 fun _ R=>zBc i R (tX F).2 V ho W ha hcall U C fun v w1 j I J N O a1 G=>(zWn c v▸k v w1 j I J N O:Go r m P Q n D w1 (nv0 c v)) a1 G
theorem zn(vf:Nat→Value)(ob:Obj)(O:St E w0 X w Y M)(k:∀b w1 j,St E w0 X w1 j ((b,ob)::M)→Le (rd w Y) (rd w1 j)→Upd E0 w w1→Go r m P Q n D w1 (nv c (vf b)))
  (f:∀w,(execOp (evL c.L) (cop c)).run P w= .ok (.value (vf w.heap.size)) (w.alloc ob):=by intro w;kernel_rfl) (C:isv n c=true:=by kernel_rfl):Go r m P Q n D w c:=
 qAi (tX C).1 fun _ N=>lN vf ob N (tX C).2 O f fun b w1 j G I J a1 F=>(zWn c (vf b)▸k b w1 j G I J:Go r m P Q n D w1 (nv0 c (vf b))) a1 F
def pn(b:Nat):Value:= .pointer (some ⟨b,0,none⟩)
def stT(o:Oper):TypeId:=match o.op with
 | .store t _ _=>t
 | _=>0
def stA(o:Oper):Operand:=match o.op with
 | .store _ x _=>x
 | _=> .tmp 0
def stV(o:Oper):Operand:=match o.op with
 | .store _ _ x=>x
 | _=> .tmp 0
def wr(c:Cf)(M:List (Nat×Obj))(i:Nat):Array Value:=yD (cO M i) (aR (evL c.L (stA (cop c)))) (evL c.L (stV (cop c))).cells.toList
def wrO:Obj→Array Value→Obj
 | .cells _ T _,c=> .cells c T (0,0)
 | o,_=>o
def wrM:List (Nat×Obj)→Nat→Array Value→List (Nat×Obj)
 | [],_,_=>[]
 | (b,o)::M,0,c=>(b,wrO o c)::M
 | p::M,i+1,c=>p::wrM M i c
theorem zOc{b:Nat}{c c':Array Value}{T:TypeId}{f:Nat×Nat}:∀{M:List (Nat×Obj)}{i:Nat},M[i]?=some (b,.cells c T f)→wrM M i c'=M.set i (b,.cells c' T (0,0))
 | [],i,h=>by simp at h
 | p::M,0,h=>by simp at h;subst h;rfl
 | p::M,i+1,h=>by
  rw[List.getElem?_cons_succ]at h;simp only[wrM,List.set_cons_succ];rw[zOc h]
def isst(n:Nat)(c:Cf):Bool:=zGy n c&&(cop c).dst.isNone
def zPs(P:Program)(t:TypeId):Bool:=match ldT P t with
 | some (g,_)=>g
 | none=>false
theorem zx(i:Nat)(c':Array Value)(O:St E w0 X w Y M)(k:∀w1,St E w0 X w1 Y (wrM M i c')→Le (rd w Y) (rd w1 Y)→Go r m P Q n D w1 (n0 c))
  (f:isst n c=true:=by kernel_rfl) (ho:(cop c).op= .store (stT (cop c)) (stA (cop c)) (stV (cop c)):=by kernel_rfl)
  (ha:evL c.L (stA (cop c))= .pointer (some ⟨bO M i,aR (evL c.L (stA (cop c))),none⟩):=by kernel_rfl)
  (ht:ldT P (stT (cop c))=some (zPs P (stT (cop c)),(evL c.L (stV (cop c))).cells.size):=by kernel_rfl) (I:(evL c.L (stV (cop c))).cells.toList.all Value.oneCell'=true:=by kernel_rfl)
  (G:M[i]?=some (bO M i,.cells (cO M i) (tO M i) (0,0)):=by kernel_rfl) (j:Nat.ble (aR (evL c.L (stA (cop c)))+(evL c.L (stV (cop c))).cells.size) (cO M i).size=true:=by kernel_rfl) (R:wr c M i=c':=by kernel_rfl):Go r m P Q n D w c:=by
 simp only[isst,zd]at f;have C:=f.1;simp only[zGy,zd]at C;exact qAi f.1 fun _ F=>zF i _ F (by simp only[C.2.2.2,f.2,Bool.and_self]) O ho ha rfl ht rfl I G (Nat.le_of_ble_eq_true j) R rfl fun w1 J N=>k w1 (by rw[zOc G];exact J) N _ F
end
def bd(fn:Func):Code:=fn.body.getD .skip
section
variable {P:Program}{n:Nat}{D:List Deferred}{w:World}{c:Cf}{E:Nat→Prop}{w0:World}{X Y:Hid}{M:List (Nat×Obj)}
theorem zen{f:FuncId}{args:Array Value}{R:Ending→World→Prop}{fn:Func}(F:P.funcs[f]?=some fn)(h:Go none 0 P (bodyPost P fn R) fn.ntmps [] w ⟨.code (bd fn),[],zEb 0 args.toList⟩)(hb:fn.body=some (bd fn):=by rfl)(j:Nat.ble args.toList.length fn.ntmps=true:=by kernel_rfl):Calls P f args w R:=
 zFp F hb rfl rfl j fun a C=>h a C
def zUj(fn:Func)(L:List (Nat×Value)):List ResultVar→Option (List Value)
 | []=>some []
 | .tmp t::rs=>bif has L t then(match zUj fn L rs with
  | some vs=>some (sI L t::vs)
  | none=>none)else none
 | _=>none
theorem zDi{fn:Func}{L:List (Nat×Value)}:∀{rs:List ResultVar}{vs:List Value},zUj fn L rs=some vs→Res P L w rs vs
 | [],vs,h=>by cases h;exact .nil
 | .tmp t::rs,vs,h=>by
  unfold zUj at h;cases hh:has L t<;>simp only[hh,ze,zf]at h
  ·cases h
  cases hr:zUj fn L rs<;>simp only[hr]at h<;>cases h;exact .tmp hh (zDi hr)
 | .cell .. ::rs,vs,h=>by simp[zUj]at h
def fin(c:Cf):Bool:=(match c.cu with
 | .ex .ret=>true
 | .ex .normal=>true
 | _=>false)&&c.k.isEmpty
def resP(fn:Func)(c:Cf):Option Value:=bif fin c then(match zUj fn c.L fn.results.toList with
 | some vs=>some (zBi vs)
 | none=>none)else none
theorem zr'{fn:Func}{R:Ending→World→Prop}{v:Value}(C:R (.returned v) w)(hv:resP fn c=some v:=by kernel_rfl):Go none 0 P (bodyPost P fn R) n [] w c:=by
 intro a j;unfold resP at hv;cases f:fin c<;>simp only[f,ze,zf]at hv
 ·cases hv
 cases hr:zUj fn c.L fn.results.toList<;>simp only[hr]at hv<;>cases hv;rename_i vs;simp only[fin,zd]at f;obtain⟨cu,k,L⟩:=c;match cu,k,f with
 | .ex .ret,[],_=>exact zVf j (by simp) (zDi hr) rfl C
 | .ex .normal,[],_=>exact zOn j (by simp) (zDi hr) rfl C
end
def zEt:List (Act→World→Prop)→Code→List Nat→List Fm→Code×List Fm
 | _,c,[],k=>(c,k)
 | K::f,.seq x _,9::p,k=>zEt f x p (.kk K::k)
 | f,.seq x y,0::p,k=>zEt f x p (.seq y::k)
 | f,.seq _ y,_::p,k=>zEt f y p k
 | f,.block id x,_::p,k=>zEt f x p (.blk id::k)
 | f,.scope x,_::p,k=>zEt f x p (.scp::k)
 | f,.cond _ x _,0::p,k=>zEt f x p k
 | f,.cond _ _ y,_::p,k=>zEt f y p k
 | K::f,.loop x,_::p,k=>zEt f x p (.kk K::k)
 | f,.rangeFunc _ _ x _,0::p,_=>zEt f x p []
 | f,.rangeFunc _ _ _ x,_::p,_=>zEt f x p []
 | _,c,_,k=>(c,k)
def zKm:Code→Code
 | .loop x=>x
 | c=>c
section
variable {r:Option Nat}{m:Nat}{P:Program}{Q:Exit→Act→World→Prop}{n:Nat}{D:List Deferred}{w:World}{c:Cf}
theorem jCz{γ:Type}{x:Code}{k:List Fm}(f:γ→List (Nat×Value))(I:γ→World→Prop)(μ:γ→Nat)(j:γ)(N:I j w)
  (round:∀g w1 K,(∀C G a2,Fr n a2 (f C) D→I C G→μ C<μ g→K a2 G)→I g w1→Go r m P Q n D w1 ⟨.code (zKm x),.kk K::k,f g⟩)
  (hx:c.cu= .code x:=by kernel_rfl) (hl:x= .loop (zKm x):=by kernel_rfl) (hk:c.k=k:=by kernel_rfl) (hs:aJ c.L ((f j).map (·.1))=true:=by kernel_rfl) (Z:keep c.L ((f j).map (·.1))=f j:=by kernel_rfl):Go r m P Q n D w c:=by
 intro a W;rw[hx,hl,hk];refine lJ (fun g a w=>Fr n a (f g) D∧I g w) μ j ⟨W.as _ hs Z,N⟩ ?_;rintro g a1 w1 ⟨J,O⟩;exact round g w1 (fun a' w'=>∃F,(Fr n a' (f F) D∧I F w')∧μ F<μ g) (fun C G a2 R U V=>⟨C,⟨R,U⟩,V⟩) O a1 J
theorem kL{K:Act→World→Prop}{L:List (Nat×Value)}(j:∀a2,Fr n a2 L D→K a2 w)(G:c.cu= .ex .normal:=by kernel_rfl)(C:c.k= .kk K::c.k.tail:=by kernel_rfl)(hs:aJ c.L (L.map (·.1))=true:=by kernel_rfl)(F:keep c.L (L.map (·.1))=L:=by kernel_rfl):Go r m P Q n D w c:=by
 intro a f;rw[G,C];exact j a (f.as _ hs F)
end
section
variable {r:Option Nat}{m:Nat}{P:Program}{Q:Exit→Act→World→Prop}{n:Nat}{D:List Deferred}{w:World}{c:Cf}{a:Act}{E:Nat→Prop}{w0:World}{X Y:Hid}{M:List (Nat×Obj)}
def zZz:Code→Array Oper
 | .region _ o _=>o
 | _=>#[]
def opN(ops:Array Oper)(j:Nat):Oper:=(ops[j]?).getD default
theorem zop(x:Code)(j:Nat)(h:∀(a:Act)(K:Act→World→Prop),Fr n a c.L D→(∀{C:List (Nat×Value)}{w':World}{a':Act},Fr n a' C D→Go r m P Q n D w' ⟨.ops (zZz x) ((zZz x).toList.drop (j+1)),c.k,C⟩→K a' w')→(opN (zZz x) j).wp P a w K (QQ r m P Q c.k))
  (F:c.cu= .ops (zZz x) (opN (zZz x) j::(zZz x).toList.drop (j+1)):=by kernel_rfl) (I:zGy n c=true:=by kernel_rfl):Go r m P Q n D w c:=by
 refine qAi I ?_;obtain⟨cu,k,L⟩:=c;simp only at F;subst F;exact fun a G=>h a _ G fun f J=>J _ f
def idX(o:Oper):Operand:=match o.op with
 | .indexAddr _ x _=>x
 | _=> .tmp 0
def idI(o:Oper):Operand:=match o.op with
 | .indexAddr _ _ x=>x
 | _=> .tmp 0
def idT(o:Oper):TypeId:=match o.op with
 | .indexAddr t _ _=>t
 | _=>0
def idE(P:Program)(t:TypeId):TypeId:=match P.underlying t with
 | some (.slice e)=>e
 | _=>0
def ldS(P:Program)(t:TypeId):Nat:=match ldT P t with
 | some (_,m)=>m
 | none=>0
theorem zi{b off len cap:Nat}{kd:IntKind}{i:Int}(f off':Nat)(h:Go r m P Q n D w (nv c (.pointer (some ⟨b,off',none⟩))))(j:0≤i:=by omega)(C:i<len:=by omega)
  (hoff:off+i.toNat*f=off':=by first | rfl | omega | (simp;done) | (simp;omega)) (J:ldS P (idE P (idT (cop c)))=f:=by kernel_rfl) (N:evL c.L (idX (cop c))= .slice (some ⟨b,off,none⟩) len cap:=by kernel_rfl) (I:evL c.L (idI (cop c))= .int kd i:=by kernel_rfl) (F:isv n c=true:=by kernel_rfl)
  (ho:(cop c).op= .indexAddr (idT (cop c)) (idX (cop c)) (idI (cop c)):=by kernel_rfl) (ht:P.underlying (idT (cop c))=some (.slice (idE P (idT (cop c)))):=by kernel_rfl)
  (G:ldT P (idE P (idT (cop c)))=some (zPs P (idE P (idT (cop c))),ldS P (idE P (idT (cop c)))):=by kernel_rfl):Go r m P Q n D w c:=
 zv (jF ho ht N I G j C (by rw[J];exact hoff) w) h F
theorem zrR{w:World}{fn:Func}{R:Ending→World→Prop}{rs:List ResultVar}{vs:List Value}{v:Value}(h:Res P c.L w rs vs)(j:R (.returned v) w)(hr:fn.results=rs.toArray:=by kernel_rfl)(hv:zBi vs=v:=by kernel_rfl)(C:fin c=true:=by kernel_rfl):Go none 0 P (bodyPost P fn R) n [] w c:=by
 intro a f;simp only[fin,zd]at C;obtain⟨cu,k,L⟩:=c;match cu,k,C with
 | .ex .ret,[],_=>exact zVf f hr h hv j
 | .ex .normal,[],_=>exact zOn f hr h hv j
def seqL:Code→Code
 | .seq x _=>x
 | c=>c
def seqR:Code→Code
 | .seq _ y=>y
 | c=>c
abbrev at1(j:List (Act→World→Prop))(f:Func)(p:List Nat):Code:=(zEt j (bd f) p []).1
abbrev at2(j:List (Act→World→Prop))(f:Func)(p:List Nat):List Fm:=(zEt j (bd f) p []).2
theorem zlp{γ:Type}(f:Func)(j:List (Act→World→Prop))(p:List Nat)(C:γ→List (Nat×Value))(I:γ→World→Prop)(μ:γ→Nat)(F:γ)(N:I F w)
  (round:∀g w1 K,(∀G J a2,Fr n a2 (C G) D→I G J→μ G<μ g→K a2 J)→I g w1→Go r m P Q n D w1 ⟨.code (zKm (at1 j f p)),.kk K::at2 j f p,C g⟩)
  (V:c.cu= .code (at1 j f p):=by kernel_rfl) (U:at1 j f p= .loop (zKm (at1 j f p)):=by kernel_rfl) (R:c.k=at2 j f p:=by kernel_rfl) (hs:aJ c.L ((C F).map (·.1))=true:=by kernel_rfl) (O:keep c.L ((C F).map (·.1))=C F:=by kernel_rfl):Go r m P Q n D w c:=
 jCz C I μ F N round V U R hs O
def cuC(c:Cf):Code:=match c.cu with
 | .code x=>x
 | _=> .skip
theorem zUs(h:Go r m P Q n D w ⟨.code (zKm (cuC c)),.kk (fun _ _=>False)::c.k,c.L⟩)(C:c.cu= .code (cuC c):=by kernel_rfl)(j:cuC c= .loop (zKm (cuC c)):=by kernel_rfl):Go r m P Q n D w c:=by
 intro a f;rw[C,j];refine lJ (fun(_:Unit)a' w'=>a'=a∧w'=w) (fun _=>0) () ⟨rfl,rfl⟩ (by
  rintro _ a' w' ⟨rfl,rfl⟩;exact wpIn_mono (h a' f) fun e a w h=>by cases e<;>first | exact h.elim | exact h)
theorem jCy{γ:Type}(f:γ→List (Nat×Value))(I:γ→World→Prop)(O:∀g w1,I g w1→Go r m P Q n D w1 ⟨.code (seqR (cuC c)),c.k,f g⟩)
  (F:∀K,(∀g G a2,Fr n a2 (f g) D→I g G→K a2 G)→Go r m P Q n D w ⟨.code (seqL (cuC c)),.kk K::c.k,c.L⟩)
  (N:c.cu= .code (cuC c):=by kernel_rfl) (hs:cuC c= .seq (seqL (cuC c)) (seqR (cuC c)):=by kernel_rfl):Go r m P Q n D w c:=by
 intro a J;rw[N,hs];refine jBt (fun a w=>∃g,Fr n a (f g) D∧I g w) (F _ (fun g G a2 j C=>⟨g,j,C⟩) a J) ?_;rintro a w ⟨g,j,C⟩;exact O g w C a j
end
end Go.Gv

import Derived.Lib.AppendIntMem
import Derived.Lib.ItoaNum
import Derived.Deep.DeepAppendWide
import Derived.RecoverIn
import Derived.Test.YtdfmdiakjdggbaaGreatDoorBaseA
import Derived.Test.YtdfmdiakjdggbaaGreatDoorBaseB
import Derived.Test.YtdfmdiakjdggbaaGreatDoorBaseC
set_option linter.unusedVariables false
set_option linter.unusedSimpArgs false
set_option linter.unnecessarySimpa false
namespace Go.Ev
open Go Go.Gv Go.RowKit IntKind
structure Bm where
 f:Nat→Option (Nat×Nat)
 N:Nat
instance:CoeFun Bm fun _=>Nat→Option (Nat×Nat):=⟨Bm.f⟩
structure BLe(B B':Bm):Prop where
 le:∀i p,B i=some p→B' i=some p
 n:B.N=B'.N
instance (B B':Bm):CoeFun (BLe B B') fun _=>∀i p,B i=some p→B' i=some p:=⟨BLe.le⟩
def Bm.In(B:Bm)(g:Tg)(b:Nat):Prop:=(g= .n→B.N≤b)∧(g= .o→b<B.N)
theorem Bm.In.any{B:Bm}{b:Nat}:B.In .a b:=⟨fun e=>(by cases e),fun e=>(by cases e)⟩
theorem Bm.In.eqN{B B':Bm}(h:B.N=B'.N){g:Tg}{b:Nat}(k:B.In g b):B'.In g b:=⟨fun e=>h▸k.1 e,fun e=>h▸k.2 e⟩
theorem Bm.In.nw{B:Bm}{b:Nat}(h:B.N≤b):B.In .n b:=⟨fun _=>h,fun e=>(by cases e)⟩
theorem Bm.In.le{B:Bm}{g g':Tg}{b:Nat}(h:g.le g'=true)(k:B.In g' b):B.In g b:=by
 cases g<;>cases g'<;>first | exact k | (cases h;done) | exact⟨fun e=>Tg.noConfusion e,fun e=>Tg.noConfusion e⟩
theorem BLe.refl(B:Bm):BLe B B:=⟨fun _ _ h=>h,rfl⟩
theorem BLe.trans{A B C:Bm}(h:BLe A B)(k:BLe B C):BLe A C:=⟨fun i p e=>k.le i p (h.le i p e),h.n.trans k.n⟩
def wJ(B:Bm)(i:Nat)(p:Nat×Nat):Bm:=⟨fun j=>if j=i then some p else B j,B.N⟩
theorem BLe.set{B:Bm}{i:Nat}{p:Nat×Nat}(h:B i=none):BLe B (wJ B i p):=⟨fun j q e=>by
 show(if j=i then some p else B j)=some q
 split
 ·rename_i hj;rw[hj,h]at e;cases e
 ·exact e,rfl⟩
theorem qA(B:Bm)(i:Nat)(p:Nat×Nat):wJ B i p i=some p:=by simp[wJ]
theorem jH(B:Bm){i j:Nat}(p:Nat×Nat)(h:j≠i):wJ B i p j=B j:=by simp[wJ,h]
def zJc{α:Type}(r:Rd)(p:Nat→Prop)(s:Nat)(R:α→List Value→Prop)(ad:Option Addr)(c:Nat)(l:List α):Prop:=
 l.length≤c∧c≤maxLen∧(l=[]∨∃b o,ad=some ⟨b,o,none⟩∧p b∧∀(i:Nat)(x:α),l[i]?=some x→∃vs:List Value,vs.length=s∧R x vs∧∀(j:Nat)(v:Value),vs[j]?=some v→r ⟨b,o+(i*s+j),none⟩=some v)
def qN(r:Rd)(p:Nat→Prop):(A:Ty)→A.den→List Value→Prop
 | .lim,a,vs=>vs=[.int .u32 (.ofNat a)]∧a<4294967296
 | .int k,a,vs=>vs=[.int k a]
 | .bool,b,vs=>vs=[.bool b]
 | .str,s,vs=>vs=[.string s]
 | .list A,l,vs=>∃ad c,vs=[.slice ad l.length c]∧zJc r p A.size (fun x us=>qN r p A x us) ad c l
 | .prod A B,x,vs=>∃u w,vs=u++w∧qN r p A x.1 u∧qN r p B x.2 w
theorem zJc.mono{α:Type}{r r':Rd}{p p':Nat→Prop}{s:Nat}{R R':α→List Value→Prop}{ad:Option Addr}{c:Nat}{l:List α}(hr:Le r r')(hp:∀b,p b→p' b)(hR:∀x vs,R x vs→R' x vs)(h:zJc r p s R ad c l):zJc r' p' s R' ad c l:=
 ⟨h.1,h.2.1,h.2.2.imp id fun⟨b,o,e,hb,k⟩=>⟨b,o,e,hp b hb,fun i x hx=>by
  obtain⟨vs,h1,h2,h3⟩:=k i x hx;exact⟨vs,h1,hR _ _ h2,fun j v hv=>hr _ _ (h3 j v hv)⟩⟩⟩
theorem qN.mono{r r':Rd}{p p':Nat→Prop}(hr:Le r r')(hp:∀b,p b→p' b):∀(A:Ty)(x:A.den)(vs:List Value),qN r p A x vs→qN r' p' A x vs
 | .lim,_,_,h=>h
 | .int _,_,_,h=>h
 | .bool,_,_,h=>h
 | .str,_,_,h=>h
 | .list A,_,_,⟨ad,c,e,h⟩=>⟨ad,c,e,h.mono hr hp fun x vs=>qN.mono hr hp A x vs⟩
 | .prod A B,_,_,⟨u,w,e,h1,h2⟩=>⟨u,w,e,qN.mono hr hp A _ _ h1,qN.mono hr hp B _ _ h2⟩
theorem qN.len{r:Rd}{p:Nat→Prop}:∀(A:Ty)(x:A.den)(vs:List Value),qN r p A x vs→vs.length=A.size
 | .lim,_,_,h=>by rw[h.1];rfl
 | .int _,_,_,h=>by rw[show _=_ from h];rfl
 | .bool,_,_,h=>by rw[show _=_ from h];rfl
 | .str,_,_,h=>by rw[show _=_ from h];rfl
 | .list _,_,_,⟨_,_,e,_⟩=>by rw[e];rfl
 | .prod A B,_,_,⟨u,w,e,h1,h2⟩=>by rw[e,List.length_append,qN.len A _ _ h1,qN.len B _ _ h2];rfl
theorem Ty.size_pos:∀A:Ty,0<A.size
 | .lim=>Nat.one_pos
 | .int _=>Nat.one_pos
 | .bool=>Nat.one_pos
 | .str=>Nat.one_pos
 | .list _=>Nat.one_pos
 | .prod A _=>Nat.lt_of_lt_of_le (Ty.size_pos A) (Nat.le_add_right _ _)
theorem qN.new{r:Rd}{p q:Nat→Prop}(hr:∀b j v,r ⟨b,j,none⟩=some v→q b):∀(A:Ty)(x:A.den)(vs:List Value),qN r p A x vs→qN r q A x vs
 | .lim,_,_,h=>h
 | .int _,_,_,h=>h
 | .bool,_,_,h=>h
 | .str,_,_,h=>h
 | .list _,[],_,⟨ad,c,e,h⟩=>⟨ad,c,e,h.1,h.2.1,.inl rfl⟩
 | .list A,x0::l,_,⟨ad,c,e,h⟩=>⟨ad,c,e,h.1,h.2.1,.inr (by
  rcases h.2.2 with h | ⟨b,o,e,_,k⟩
  ·cases h
  ·refine⟨b,o,e,?_,fun i x hx=>?_⟩
   ·obtain⟨vs,h1,_,h3⟩:=k 0 x0 rfl;cases vs with
    | nil=>have:=A.size_pos;simp at h1;omega
    | cons v vs=>exact hr _ _ _ (h3 0 v rfl)
   ·obtain⟨vs,h1,h2,h3⟩:=k i x hx;exact⟨vs,h1,qN.new hr A x vs h2,h3⟩)⟩
 | .prod A B,_,_,⟨u,w,e,h1,h2⟩=>⟨u,w,e,qN.new hr A _ _ h1,qN.new hr B _ _ h2⟩
theorem qN.far{r r':Rd}{p q:Nat→Prop}(hq:∀b,q b)(hr:∀b j v,p b→r ⟨b,j,none⟩=some v→r' ⟨b,j,none⟩=some v):∀(A:Ty)(x:A.den)(vs:List Value),qN r p A x vs→qN r' q A x vs
 | .lim,_,_,h=>h
 | .int _,_,_,h=>h
 | .bool,_,_,h=>h
 | .str,_,_,h=>h
 | .list A,l,_,⟨ad,c,e,h⟩=>⟨ad,c,e,h.1,h.2.1,h.2.2.imp id fun⟨b,o,e,hp,k⟩=>⟨b,o,e,hq b,fun i x hx=>by
  obtain⟨vs,h1,h2,h3⟩:=k i x hx;exact⟨vs,h1,qN.far hq hr A x vs h2,fun j v hv=>hr _ _ _ hp (h3 j v hv)⟩⟩⟩
 | .prod A B,_,_,⟨u,w,e,h1,h2⟩=>⟨u,w,e,qN.far hq hr A _ _ h1,qN.far hq hr B _ _ h2⟩
def zAg(r:Rd)(p:Nat→Prop):(A:Ty)→A.den→List Value→Prop
 | .lim,_,vs=>∃a,vs=[.int .u32 a]
 | .int k,_,vs=>∃a,vs=[.int k a]
 | .bool,b,vs=>vs=[.bool b]
 | .str,s,vs=>vs=[.string s]
 | .list A,l,vs=>∃ad c,vs=[.slice ad l.length c]∧zJc r p A.size (fun x us=>zAg r p A x us) ad c l
 | .prod A B,x,vs=>∃u w,vs=u++w∧zAg r p A x.1 u∧zAg r p B x.2 w
theorem zAg.mono{r r':Rd}{p p':Nat→Prop}(hr:Le r r')(hp:∀b,p b→p' b):∀(A:Ty)(x:A.den)(vs:List Value),zAg r p A x vs→zAg r' p' A x vs
 | .lim,_,_,h=>h
 | .int _,_,_,h=>h
 | .bool,_,_,h=>h
 | .str,_,_,h=>h
 | .list A,_,_,⟨ad,c,e,h⟩=>⟨ad,c,e,h.mono hr hp fun x vs=>zAg.mono hr hp A x vs⟩
 | .prod A B,_,_,⟨u,w,e,h1,h2⟩=>⟨u,w,e,zAg.mono hr hp A _ _ h1,zAg.mono hr hp B _ _ h2⟩
theorem qN.h{r:Rd}{p:Nat→Prop}:∀(A:Ty)(x:A.den)(vs:List Value),qN r p A x vs→zAg r p A x vs
 | .lim,_,_,h=>⟨_,h.1⟩
 | .int _,_,_,h=>⟨_,h⟩
 | .bool,_,_,h=>h
 | .str,_,_,h=>h
 | .list A,_,_,⟨ad,c,e,h⟩=>⟨ad,c,e,h.mono (Le.refl _) (fun _ h=>h) fun x vs=>qN.h A x vs⟩
 | .prod A B,_,_,⟨u,w,e,h1,h2⟩=>⟨u,w,e,qN.h A _ _ h1,qN.h B _ _ h2⟩
inductive Rep (B:Bm) (r:Rd):T→Value→Prop
  | u {x:Value}:Rep B r .u x
  | v {x:Value} (h:sc x=true):Rep B r (.v x) x
  | sl {cs:List T} {n b o c:Nat} (hn:n≤c) (f:Nat→Value) (h:∀j t,cs[j]?=some t→r ⟨b,o+j,none⟩=some (f j)) (g:∀j t,cs[j]?=some t→Rep B r t (f j)) (hm:c≤maxLen):Rep B r (.sl cs n) (.slice (some ⟨b,o,none⟩) n c)
  | sl0 {ad:Option Addr} {c:Nat} (hm:c≤maxLen):Rep B r (.sl [] 0) (.slice ad 0 c)
  | sn {cs:List T} {n b o c:Nat} (hn:n≤c) (f:Nat→Value) (h:∀j t,cs[j]?=some t→r ⟨b,o+j,none⟩=some (f j)) (g:∀j t,cs[j]?=some t→Rep B r t (f j)) (hm:c≤maxLen) (hb:∀(j:Nat)(t:T),cs[j]?=some t→B.N≤b):Rep B r (.sn cs n) (.slice (some ⟨b,o,none⟩) n c)
  | sn0 {ad:Option Addr} {c:Nat} (hm:c≤maxLen):Rep B r (.sn [] 0) (.slice ad 0 c)
  | st {cs:List T} {n b o:Nat} (f:Nat→Value) (h:∀j t,cs[j]?=some t→r ⟨b,o+j,none⟩=some (f j)) (g:∀j t,cs[j]?=some t→Rep B r t (f j)):Rep B r (.st cs n) (.slice (some ⟨b,o,none⟩) n n)
  | st0 {ad:Option Addr}:Rep B r (.st [] 0) (.slice ad 0 0)
  | fp {cs:List T} {b o:Nat} (f:Nat→Value) (h:∀j t,cs[j]?=some t→r ⟨b,o+j,none⟩=some (f j)) (g:∀j t,cs[j]?=some t→Rep B r t (f j)):Rep B r (.fp cs) (.pointer (some ⟨b,o,none⟩))
  | os {i o n c b C:Nat} (h:B i=some (b,C)):Rep B r (.os i o n c) (.slice (some ⟨b,o,none⟩) n c)
  | og {i o n c b C:Nat} (h:B i=some (b,C)) (h1:n≤c) (h2:o=0→c=C) (h3:c≤maxLen):Rep B r (.og i o n) (.slice (some ⟨b,o,none⟩) n c)
  | op {i o b C:Nat} (h:B i=some (b,C)):Rep B r (.op i o) (.pointer (some ⟨b,o,none⟩))
  | ag {cs:List T} {vs:Array Value} (f:Nat→Value) (hl:cs.length=vs.size) (h:∀j t,cs[j]?=some t→vs[j]?=some (f j)) (g:∀j t,cs[j]?=some t→Rep B r t (f j)):Rep B r (.ag cs) (.agg vs)
  | tu {cs:List T} {vs:Array Value} (f:Nat→Value) (hl:cs.length=vs.size) (h:∀j t,cs[j]?=some t→vs[j]?=some (f j)) (g:∀j t,cs[j]?=some t→Rep B r t (f j)):Rep B r (.tu cs) (.tuple vs)
  | fn {k:Nat} {cs:List T} {vs:Array Value} (f:Nat→Value) (hl:cs.length=vs.size) (h:∀j t,cs[j]?=some t→vs[j]?=some (f j)) (g:∀j t,cs[j]?=some t→Rep B r t (f j)):Rep B r (.fn k cs) (.func (.func k) #[] vs)
  | fb {k:Nat} {cs:List T} {vs:Array Value} (f:Nat→Value) (hl:cs.length=vs.size) (h:∀j t,cs[j]?=some t→vs[j]?=some (f j)) (g:∀j t,cs[j]?=some t→Rep B r t (f j)):Rep B r (.fb k cs) (.func (.func k) vs #[])
  | om {i b C:Nat} (h:B i=some (b,C)):Rep B r (.om i) (.map (some b))
  | yl {i b C:Nat} (h:B i=some (b,C)):Rep B r (.yl i) (.func (.yield b) #[] #[])
  | ls {g:Tg} {A:Ty} {l:List A.den} {v:Value} (h:qN r (B.In g) (.list A) l [v]):Rep B r (.ls g A l) v
  | hv {A:Ty} {l:List A.den} {v:Value} (h:zAg r (B.In .n) (.list A) l [v]):Rep B r (.hv A l) v
theorem Rep.mono{B B':Bm}{r r':Rd}(hB:BLe B B')(hr:Le r r'){t:T}{v:Value}(h:Rep B r t v):Rep B' r' t v:=by
 induction h with
 | u=>exact .u
 | v h=>exact .v h
 | sl hn f h g hm ih=>exact .sl hn f (fun j t e=>hr _ _ (h j t e)) ih hm
 | sl0 hm=>exact .sl0 hm
 | sn hn f h g hm hb ih=>exact .sn hn f (fun j t e=>hr _ _ (h j t e)) ih hm (fun j t e=>hB.n▸hb j t e)
 | sn0 hm=>exact .sn0 hm
 | st f h g ih=>exact .st f (fun j t e=>hr _ _ (h j t e)) ih
 | st0=>exact .st0
 | fp f h g ih=>exact .fp f (fun j t e=>hr _ _ (h j t e)) ih
 | os h=>exact .os (hB _ _ h)
 | og h h1 h2 h3=>exact .og (hB _ _ h) h1 h2 h3
 | op h=>exact .op (hB _ _ h)
 | ag f hl h g ih=>exact .ag f hl h ih
 | tu f hl h g ih=>exact .tu f hl h ih
 | fn f hl h g ih=>exact .fn f hl h ih
 | fb f hl h g ih=>exact .fb f hl h ih
 | om h=>exact .om (hB _ _ h)
 | yl h=>exact .yl (hB _ _ h)
 | ls h=>exact .ls (qN.mono hr (fun b h=>h.eqN hB.n) _ _ _ h)
 | hv h=>exact .hv (zAg.mono hr (fun b h=>h.eqN hB.n) _ _ _ h)
theorem Rep.dn{B:Bm}{r:Rd}{t:T}{v:Value}(h:Rep B r t v):Rep B r (dn t) v:=by
 cases h with
 | sn hn f h g hm hb=>exact .sl hn f h g hm
 | sn0 hm=>exact .sl0 hm
 | u=>exact .u
 | v h=>exact .v h
 | sl hn f h g hm=>exact .sl hn f h g hm
 | sl0 hm=>exact .sl0 hm
 | st f h g=>exact .st f h g
 | st0=>exact .st0
 | fp f h g=>exact .fp f h g
 | os h=>exact .os h
 | og h h1 h2 h3=>exact .og h h1 h2 h3
 | op h=>exact .op h
 | ag f hl h g=>exact .ag f hl h g
 | tu f hl h g=>exact .tu f hl h g
 | fn f hl h g=>exact .fn f hl h g
 | fb f hl h g=>exact .fb f hl h g
 | om h=>exact .om h
 | yl h=>exact .yl h
 | ls h=>exact .ls h
 | hv h=>exact .hv h
theorem Rep.unN{B B2:Bm}{r:Rd}(hB:∀i p,B i=some p→B2 i=some p):∀(k:Nat){t:T}{v:Value},Rep B r t v→Rep B2 r (unN k t) v
 | 0,_,_,_=> .u
 | k+1,t,y,h=>by
  have all:∀{cs:List T}{f:Nat→Value}{q:Nat→Option Value},(∀j t,cs[j]?=some t→q j=some (f j))→(∀j t,cs[j]?=some t→Rep B r t (f j))→(∀j t,(cs.map (Ev.unN k))[j]?=some t→q j=some (f j))∧∀j t,(cs.map (Ev.unN k))[j]?=some t→Rep B2 r t (f j):=fun h1 h2=>by
   refine⟨fun j t e=>?_,fun j t e=>?_⟩
   ·rw[List.getElem?_map]at e;obtain⟨t',e1,rfl⟩:=Option.map_eq_some_iff.1 e;exact h1 j t' e1
   ·rw[List.getElem?_map]at e;obtain⟨t',e1,rfl⟩:=Option.map_eq_some_iff.1 e;exact Rep.unN hB k (h2 j t' e1)
  cases h with
  | sn hn f h g hm hb=>exact .sl hn f (all h g).1 (all h g).2 hm
  | sn0 hm=>exact .sl0 hm
  | u=>exact .u
  | v h=>exact .v h
  | sl hn f h g hm=>exact .sl hn f (all h g).1 (all h g).2 hm
  | sl0 hm=>exact .sl0 hm
  | st f h g=>exact .st f (all h g).1 (all h g).2
  | st0=>exact .st0
  | fp f h g=>exact .fp f (all h g).1 (all h g).2
  | os h=>exact .os (hB _ _ h)
  | og h h1 h2 h3=>exact .og (hB _ _ h) h1 h2 h3
  | op h=>exact .op (hB _ _ h)
  | @ag cs vs f hl h g=>exact .ag f (by simpa using hl) (all (q:=fun j=>vs[j]?) h g).1 (all (q:=fun j=>vs[j]?) h g).2
  | @tu cs vs f hl h g=>exact .tu f (by simpa using hl) (all (q:=fun j=>vs[j]?) h g).1 (all (q:=fun j=>vs[j]?) h g).2
  | @fn _ cs vs f hl h g=>exact .fn f (by simpa using hl) (all (q:=fun j=>vs[j]?) h g).1 (all (q:=fun j=>vs[j]?) h g).2
  | @fb _ cs vs f hl h g=>exact .fb f (by simpa using hl) (all (q:=fun j=>vs[j]?) h g).1 (all (q:=fun j=>vs[j]?) h g).2
  | om h=>exact .om (hB _ _ h)
  | yl h=>exact .yl (hB _ _ h)
  | ls h=>exact .ls (qN.mono (Le.refl _) (fun b _=>Bm.In.any) _ _ _ h)
  | hv h=>exact .u
theorem Rep.mkN{B:Bm}{r:Rd}(hr:∀b j v,r ⟨b,j,none⟩=some v→B.N≤b):∀(k:Nat){t:T}{v:Value},Rep B r t v→Rep B r (mkN k t) v
 | 0,_,_,h=>h
 | k+1,t,y,h=>by
  have all:∀{cs:List T}{f:Nat→Value}{q:Nat→Option Value},(∀j t,cs[j]?=some t→q j=some (f j))→(∀j t,cs[j]?=some t→Rep B r t (f j))→(∀j t,(cs.map (Ev.mkN k))[j]?=some t→q j=some (f j))∧∀j t,(cs.map (Ev.mkN k))[j]?=some t→Rep B r t (f j):=fun h1 h2=>by
   refine⟨fun j t e=>?_,fun j t e=>?_⟩
   ·rw[List.getElem?_map]at e;obtain⟨t',e1,rfl⟩:=Option.map_eq_some_iff.1 e;exact h1 j t' e1
   ·rw[List.getElem?_map]at e;obtain⟨t',e1,rfl⟩:=Option.map_eq_some_iff.1 e;exact Rep.mkN hr k (h2 j t' e1)
  cases h with
  | sl hn f h g hm=>exact .sn hn f (all h g).1 (all h g).2 hm (fun j t e=>hr _ _ _ ((all h g).1 j t e))
  | sl0 hm=>exact .sn0 hm
  | sn hn f h g hm hb=>exact .sn hn f h g hm hb
  | sn0 hm=>exact .sn0 hm
  | u=>exact .u
  | v h=>exact .v h
  | st f h g=>exact .st f h g
  | st0=>exact .st0
  | fp f h g=>exact .fp f h g
  | os h=>exact .os h
  | og h h1 h2 h3=>exact .og h h1 h2 h3
  | op h=>exact .op h
  | @ag cs vs f hl h g=>exact .ag f (by simpa using hl) (all (q:=fun j=>vs[j]?) h g).1 (all (q:=fun j=>vs[j]?) h g).2
  | @tu cs vs f hl h g=>exact .tu f (by simpa using hl) (all (q:=fun j=>vs[j]?) h g).1 (all (q:=fun j=>vs[j]?) h g).2
  | @fn _ cs vs f hl h g=>exact .fn f (by simpa using hl) (all (q:=fun j=>vs[j]?) h g).1 (all (q:=fun j=>vs[j]?) h g).2
  | fb f hl h g=>exact .fb f hl h g
  | om h=>exact .om h
  | yl h=>exact .yl h
  | ls h=>exact .ls (qN.new (fun b j v e=>Bm.In.nw (hr b j v e)) _ _ _ h)
  | hv h=>exact .hv h
theorem zOd{α:Type}(d x:α)(l:List α):nth d (x::l) 0=x:=rfl
theorem rW{α:Type}(d x:α)(l:List α)(n:Nat):nth d (x::l) (n+1)=nth d l n:=rfl
theorem qIv{α:Type}(x:α)(n:Nat):Ev.put x [] n=[]:=rfl
theorem zOt{α:Type}(x y:α)(l:List α):Ev.put x (y::l) 0=x::l:=rfl
theorem zFm{α:Type}(x y:α)(l:List α)(n:Nat):Ev.put x (y::l) (n+1)=y::Ev.put x l n:=rfl
def zN(B:Bm)(r:Rd):List T→List Value→Prop
 | [],[]=>True
 | t::ts,v::vs=>Rep B r t v∧zN B r ts vs
 | _,_=>False
section
variable {B B':Bm}{r r':Rd}
theorem zN.mono(hB:BLe B B')(hr:Le r r'):∀{ts:List T}{vs:List Value},zN B r ts vs→zN B' r' ts vs
 | [],[],_=>trivial
 | _::_,_::_,h=>⟨h.1.mono hB hr,zN.mono hB hr h.2⟩
 | [],_::_,h=>h.elim
 | _::_,[],h=>h.elim
theorem zN.unN{B2:Bm}(hB:∀i p,B i=some p→B2 i=some p)(k:Nat):∀{ts:List T}{vs:List Value},zN B r ts vs→zN B2 r (ts.map (unN k)) vs
 | [],[],_=>trivial
 | _::_,_::_,h=>⟨h.1.unN hB k,zN.unN hB k h.2⟩
 | [],_::_,h=>h.elim
 | _::_,[],h=>h.elim
theorem zN.length:∀{ts:List T}{vs:List Value},zN B r ts vs→ts.length=vs.length
 | [],[],_=>rfl
 | _::_,_::_,h=>congrArg (·+1) (zN.length h.2)
 | [],_::_,h=>h.elim
 | _::_,[],h=>h.elim
theorem zN.get:∀{ts:List T}{vs:List Value},zN B r ts vs→∀{j:Nat}{t:T},ts[j]?=some t→∃v,vs[j]?=some v∧Rep B r t v
 | _::_,v::_,h,0,t,e=>by simp at e;subst e;exact⟨v,rfl,h.1⟩
 | _::_,_::_,h,j+1,t,e=>by simpa using zN.get h.2 (by simpa using e)
 | [],_,_,_,_,e=>by simp at e
 | _::_,[],h,_,_,_=>h.elim
theorem zN.getD:∀{ts:List T}{vs:List Value},zN B r ts vs→∀(j:Nat),Rep B r (nth .u ts j) (vs.getD j undef)
 | _::_,v::_,h,0=>by rw[zOd];simpa using h.1
 | _::_,_::_,h,j+1=>by rw[rW];simpa using zN.getD h.2 j
 | [],_,_,_=> .u
 | _::_,[],h,_=>h.elim
theorem zN.of:∀{ts:List T}{vs:List Value},ts.length=vs.length→(∀(j:Nat)(t:T)(v:Value),ts[j]?=some t→vs[j]?=some v→Rep B r t v)→zN B r ts vs
 | [],[],_,_=>trivial
 | t::ts,v::vs,hl,h=>⟨h 0 t v rfl rfl,zN.of (by simpa using hl) fun j t v e e'=>h (j+1) t v (by simpa using e) (by simpa using e')⟩
 | [],_::_,hl,_=>by simp at hl
 | _::_,[],hl,_=>by simp at hl
theorem zN.app:∀{ts us:List T}{vs ws:List Value},zN B r ts vs→zN B r us ws→zN B r (ts++us) (vs++ws)
 | [],_,[],_,_,h=>h
 | _::_,_,_::_,_,h,k=>⟨h.1,zN.app h.2 k⟩
 | [],_,_::_,_,h,_=>h.elim
 | _::_,_,[],_,h,_=>h.elim
theorem zN.split:∀{ts us:List T}{vs:List Value},zN B r (ts++us) vs→zN B r ts (vs.take ts.length)∧zN B r us (vs.drop ts.length)
 | [],_,_,h=>⟨trivial,h⟩
 | _::ts,us,v::vs,h=>by
  obtain⟨h1,h2⟩:=zN.split (ts:=ts) (us:=us) h.2;exact⟨⟨h.1,h1⟩,h2⟩
 | _::_,_,[],h=>h.elim
theorem zN.drop:∀(n:Nat){ts:List T}{vs:List Value},zN B r ts vs→zN B r (qX ts n) (vs.drop n)
 | 0,[],[],h=>h
 | 0,_::_,_::_,h=>h
 | n+1,_::_,_::_,h=>by simpa[qX]using zN.drop n h.2
 | _+1,[],[],_=>trivial
 | _,[],_::_,h=>h.elim
 | _,_::_,[],h=>h.elim
theorem zN.take:∀{n:Nat}{ts us:List T}{vs:List Value},zN B r ts vs→jC n ts=some us→zN B r us (vs.take n)∧(vs.take n).length=n
 | 0,_,_,_,_,e=>by simp[jC]at e;subst e;exact⟨trivial,by simp⟩
 | n+1,_::ts,us,v::vs,h,e=>by
  simp only[jC]at e;cases he:jC n ts with
  | none=>simp[he]at e
  | some x=>
   simp only[he,Option.some.injEq]at e;subst e;obtain⟨h1,h2⟩:=zN.take h.2 he;exact⟨⟨h.1,h1⟩,by simp[h2]⟩
 | _+1,[],_,_,_,e=>by simp[jC]at e
 | _+1,_::_,_,[],h,_=>h.elim
theorem zN.put:∀{ts:List T}{vs:List Value},zN B r ts vs→∀(j:Nat){t:T}{v:Value},Rep B r t v→zN B r (put t ts j) (vs.set j v)
 | [],[],_,_,_,_,_=>trivial
 | _::_,_::_,h,0,_,_,k=>⟨k,h.2⟩
 | _::_,_::_,h,j+1,_,_,k=>⟨h.1,zN.put h.2 j k⟩
 | [],_::_,h,_,_,_,_=>h.elim
 | _::_,[],h,_,_,_,_=>h.elim
theorem qL{α:Type}:∀l:List α,ln l=l.length
 | []=>rfl
 | _::l=>by simp[ln,qL l]
theorem qR{α:Type}(d:α):∀(l:List α)(n:Nat),nth d l n=l.getD n d
 | [],_=>rfl
 | _::_,0=>rfl
 | _::l,n+1=>by rw[rW];simpa using qR d l n
theorem jO{α:Type}(x:α):∀(l:List α)(n:Nat),Ev.put x l n=l.set n x
 | [],_=>rfl
 | _::_,0=>rfl
 | _::l,n+1=>by rw[zFm];simp[jO x l n]
theorem tT:∀(l:List T)(n:Nat),qX l n=l.drop n
 | [],_=>by simp[qX]
 | _::_,0=>rfl
 | _::l,n+1=>by simp[qX,tT l n]
theorem aW:∀{n:Nat}{l u:List T},jC n l=some u→n≤l.length∧u=l.take n
 | 0,_,_,h=>by simp[jC]at h;subst h;simp
 | n+1,x::l,u,h=>by
  simp only[jC]at h;cases he:jC n l with
  | none=>simp[he]at h
  | some y=>
   simp only[he,Option.some.injEq]at h;obtain⟨h1,h2⟩:=aW he;subst h;subst h2;simpa using h1
 | _+1,[],_,h=>by simp[jC]at h
theorem lU:∀l:List T,jC l.length l=some l
 | []=>rfl
 | _::l=>by simp[jC,lU l]
def Cls(B:Bm)(r:Rd)(b o:Nat)(cs:List T):Prop:=∀j t,cs[j]?=some t→∃v,r ⟨b,o+j,none⟩=some v∧Rep B r t v
theorem Cls.mono(hB:BLe B B')(hr:Le r r'){b o:Nat}{cs:List T}(h:Cls B r b o cs):Cls B' r' b o cs:=fun j t e=>by
 obtain⟨v,h1,h2⟩:=h j t e;exact⟨v,hr _ _ h1,h2.mono hB hr⟩
theorem Cls.drop{b o:Nat}{cs:List T}(h:Cls B r b o cs)(n:Nat):Cls B r b (o+n) (qX cs n):=fun j t e=>by
 rw[tT,List.getElem?_drop]at e;obtain⟨v,h1,h2⟩:=h _ t e;exact⟨v,by rw[Nat.add_assoc];exact h1,h2⟩
theorem Cls.fun{b o:Nat}{cs:List T}(h:Cls B r b o cs):∃f:Nat→Value,(∀j t,cs[j]?=some t→r ⟨b,o+j,none⟩=some (f j))∧∀j t,cs[j]?=some t→Rep B r t (f j):=by
 refine⟨fun j=>(r ⟨b,o+j,none⟩).getD undef,fun j t e=>?_,fun j t e=>?_⟩<;>obtain⟨v,h1,h2⟩:=h j t e
 ·simp[h1]
 ·simpa[h1]using h2
theorem Cls.sl{b o n c:Nat}{cs:List T}(h:Cls B r b o cs)(hn:n≤c)(hm:c≤maxLen):Rep B r (.sl cs n) (.slice (some ⟨b,o,none⟩) n c):=by
 obtain⟨f,h1,h2⟩:=h.fun;exact .sl hn f h1 h2 hm
theorem Cls.st{b o n:Nat}{cs:List T}(h:Cls B r b o cs):Rep B r (.st cs n) (.slice (some ⟨b,o,none⟩) n n):=by
 obtain⟨f,h1,h2⟩:=h.fun;exact .st f h1 h2
theorem Cls.fp{b o:Nat}{cs:List T}(h:Cls B r b o cs):Rep B r (.fp cs) (.pointer (some ⟨b,o,none⟩)):=by
 obtain⟨f,h1,h2⟩:=h.fun;exact .fp f h1 h2
theorem zJe{cs:List T}{vs:Array Value}(h:zN B r cs vs.toList):∃f:Nat→Value,cs.length=vs.size∧(∀j t,cs[j]?=some t→vs[j]?=some (f j))∧∀j t,cs[j]?=some t→Rep B r t (f j):=by
 refine⟨fun j=>vs.getD j undef,by simpa using h.length,fun j t e=>?_,fun j t e=>?_⟩<;>obtain⟨v,h1,h2⟩:=h.get e
 ·have:vs[j]?=some v:=by simpa using h1
  simp[this]
 ·have:vs[j]?=some v:=by simpa using h1
  simpa[this]using h2
theorem zEy{cs:List T}{vs:Array Value}(f:Nat→Value)(hl:cs.length=vs.size)(h:∀j t,cs[j]?=some t→vs[j]?=some (f j))(g:∀j t,cs[j]?=some t→Rep B r t (f j)):zN B r cs vs.toList:=
 zN.of (by simpa using hl) fun j t v e e'=>by
  have h1:=h j t e;have e2:vs[j]?=some v:=by simpa using e'
  rw[h1]at e2;cases e2;exact g j t e
theorem Rep.mkAg{cs:List T}{vs:List Value}(h:zN B r cs vs):Rep B r (.ag cs) (.agg vs.toArray):=by
 obtain⟨f,h1,h2,h3⟩:=zJe (vs:=vs.toArray) (by simpa using h)
 exact .ag f h1 h2 h3
theorem Rep.mkTu{cs:List T}{vs:List Value}(h:zN B r cs vs):Rep B r (.tu cs) (.tuple vs.toArray):=by
 obtain⟨f,h1,h2,h3⟩:=zJe (vs:=vs.toArray) (by simpa using h)
 exact .tu f h1 h2 h3
theorem Rep.mkFn{k:Nat}{cs:List T}{vs:List Value}(h:zN B r cs vs):Rep B r (.fn k cs) (.func (.func k) #[] vs.toArray):=by
 obtain⟨f,h1,h2,h3⟩:=zJe (vs:=vs.toArray) (by simpa using h)
 exact .fn f h1 h2 h3
theorem Rep.agI{cs:List T}{v:Value}(h:Rep B r (.ag cs) v):∃vs:List Value,v= .agg vs.toArray∧zN B r cs vs:=by
 cases h with
 | @ag _ vs f hl h g=>exact⟨vs.toList,by simp,zEy f hl h g⟩
theorem Rep.tuI{cs:List T}{v:Value}(h:Rep B r (.tu cs) v):∃vs:List Value,v= .tuple vs.toArray∧zN B r cs vs:=by
 cases h with
 | @tu _ vs f hl h g=>exact⟨vs.toList,by simp,zEy f hl h g⟩
theorem Rep.fbI{k:Nat}{cs:List T}{v:Value}(h:Rep B r (.fb k cs) v):∃vs:List Value,v= .func (.func k) vs.toArray #[]∧zN B r cs vs:=by
 cases h with
 | @fb _ _ vs f hl h g=>exact⟨vs.toList,by simp,zEy f hl h g⟩
theorem Rep.mkFb{k:Nat}{cs:List T}{vs:List Value}(h:zN B r cs vs):Rep B r (.fb k cs) (.func (.func k) vs.toArray #[]):=by
 obtain⟨f,h1,h2,h3⟩:=zJe (vs:=vs.toArray) (by simpa using h)
 exact .fb f h1 h2 h3
theorem Rep.fnI{k:Nat}{cs:List T}{v:Value}(h:Rep B r (.fn k cs) v):∃vs:List Value,v= .func (.func k) #[] vs.toArray∧zN B r cs vs:=by
 cases h with
 | @fn _ _ vs f hl h g=>exact⟨vs.toList,by simp,zEy f hl h g⟩
theorem Rep.fpI{cs:List T}{v:Value}(h:Rep B r (.fp cs) v):∃b o,v= .pointer (some ⟨b,o,none⟩)∧Cls B r b o cs:=by
 cases h with
 | @fp _ b o f h g=>exact⟨b,o,rfl,fun j t e=>⟨f j,h j t e,g j t e⟩⟩
theorem Rep.slI{cs:List T}{n:Nat}{v:Value}(h:Rep B r (.sl cs n) v):∃ad c,v= .slice ad n c∧n≤c∧((n=0∧cs=[])∨∃b o,ad=some ⟨b,o,none⟩∧Cls B r b o cs):=by
 cases h with
 | @sl _ _ b o c hn f h g hm=>exact⟨_,c,rfl,hn,.inr ⟨b,o,rfl,fun j t e=>⟨f j,h j t e,g j t e⟩⟩⟩
 | @sl0 ad c hm=>exact⟨ad,c,rfl,Nat.zero_le _,.inl ⟨rfl,rfl⟩⟩
theorem Rep.slB{cs:List T}{n m c:Nat}{ad:Option Addr}(h:Rep B r (.sl cs n) (.slice ad m c)):c≤maxLen:=by
 cases h with
 | sl hn f h g hm=>exact hm
 | sl0 hm=>exact hm
theorem Rep.ogB{i o n m c:Nat}{ad:Option Addr}(h:Rep B r (.og i o n) (.slice ad m c)):c≤maxLen:=by
 cases h with
 | og h h1 h2 h3=>exact h3
theorem Rep.stI{cs:List T}{n:Nat}{v:Value}(h:Rep B r (.st cs n) v):∃ad,v= .slice ad n n∧((n=0∧cs=[])∨∃b o,ad=some ⟨b,o,none⟩∧Cls B r b o cs):=by
 cases h with
 | @st _ _ b o f h g=>exact⟨_,rfl,.inr ⟨b,o,rfl,fun j t e=>⟨f j,h j t e,g j t e⟩⟩⟩
 | @st0 ad=>exact⟨ad,rfl,.inl ⟨rfl,rfl⟩⟩
theorem Rep.vI{x v:Value}(h:Rep B r (.v x) v):v=x∧sc x=true:=by
 cases h with
 | v h=>exact⟨rfl,h⟩
theorem Rep.osI{i o n c:Nat}{v:Value}(h:Rep B r (.os i o n c) v):∃b C,v= .slice (some ⟨b,o,none⟩) n c∧B i=some (b,C):=by
 cases h with
 | @os _ _ _ _ b C h=>exact⟨b,C,rfl,h⟩
theorem Rep.ogI{i o n:Nat}{v:Value}(h:Rep B r (.og i o n) v):∃b C c,v= .slice (some ⟨b,o,none⟩) n c∧B i=some (b,C)∧n≤c∧(o=0→c=C):=by
 cases h with
 | @og _ _ _ c b C h h1 h2 h3=>exact⟨b,C,c,rfl,h,h1,h2⟩
theorem Rep.opI{i o:Nat}{v:Value}(h:Rep B r (.op i o) v):∃b C,v= .pointer (some ⟨b,o,none⟩)∧B i=some (b,C):=by
 cases h with
 | @op _ _ b C h=>exact⟨b,C,rfl,h⟩
theorem Rep.omI{i:Nat}{v:Value}(h:Rep B r (.om i) v):∃b C,v= .map (some b)∧B i=some (b,C):=by
 cases h with
 | @om _ b C h=>exact⟨b,C,rfl,h⟩
theorem Rep.ylI{i:Nat}{v:Value}(h:Rep B r (.yl i) v):∃b C,v= .func (.yield b) #[] #[]∧B i=some (b,C):=by
 cases h with
 | @yl _ b C h=>exact⟨b,C,rfl,h⟩
theorem Rep.lsI{g:Tg}{A:Ty}{l:List A.den}{v:Value}(h:Rep B r (.ls g A l) v):∃ad c,v= .slice ad l.length c∧zJc r (B.In g) A.size (fun x us=>qN r (B.In g) A x us) ad c l:=by
 cases h with
 | ls h=>
  obtain⟨ad,c,e,h⟩:=h;cases e;exact⟨ad,c,rfl,h⟩
theorem qN.reps{g:Tg}:∀(A:Ty)(x:A.den)(vs:List Value),qN r (B.In g) A x vs→zN B r (qB g A x) vs
 | .lim,_,_,h=>by rw[h.1];exact⟨.v rfl,trivial⟩
 | .int _,_,_,h=>by rw[show _=_ from h];exact⟨.v rfl,trivial⟩
 | .bool,_,_,h=>by rw[show _=_ from h];exact⟨.v rfl,trivial⟩
 | .str,_,_,h=>by rw[show _=_ from h];exact⟨.v rfl,trivial⟩
 | .list _,_,_,h=>by
  obtain⟨ad,c,e,h'⟩:=h;subst e;exact⟨.ls ⟨ad,c,rfl,h'⟩,trivial⟩
 | .prod A B,_,_,⟨u,w,e,h1,h2⟩=>by rw[e];exact zN.app (qN.reps A _ _ h1) (qN.reps B _ _ h2)
theorem jA(g:Tg):∀(A:Ty)(x:A.den),(qB g A x).length=A.size
 | .lim,_=>rfl
 | .int _,_=>rfl
 | .bool,_=>rfl
 | .str,_=>rfl
 | .list _,_=>rfl
 | .prod A B,x=>by rw[qB,List.length_append,jA g A,jA g B];rfl
theorem gP(g:Tg)(A:Ty):∀l:List A.den,(yV g A l).length=l.length*A.size
 | []=>by simp[yV]
 | x::l=>by rw[yV,List.length_append,jA,gP g A l,List.length_cons,Nat.succ_mul,Nat.add_comm]
theorem zHp(g:Tg)(A:Ty):∀(l:List A.den)(j:Nat)(t:T),(yV g A l)[j]?=some t→∃i x q,j=i*A.size+q∧l[i]?=some x∧(qB g A x)[q]?=some t
 | [],_,_,h=>by simp[yV]at h
 | x::l,j,t,h=>by
  rw[yV,List.getElem?_append]at h;split at h
  ·exact⟨0,x,j,by simp,rfl,h⟩
  ·rename_i hj;rw[jA]at h hj;obtain⟨i,y,q,h1,h2,h3⟩:=zHp g A l _ t h;exact⟨i+1,y,q,by rw[Nat.succ_mul];omega,by simpa using h2,h3⟩
theorem Rep.lsS{g:Tg}{A:Ty}{l:List A.den}{v:Value}(h:Rep B r (.ls g A l) v):Rep B r (.sl (yV g A l) l.length) v:=by
 obtain⟨ad,c,rfl,hn,hm,hh⟩:=h.lsI;rcases hh with rfl | ⟨b,o,rfl,hb,k⟩
 ·exact .sl0 hm
 ·refine Cls.sl (fun j t e=>?_) hn hm;obtain⟨i,x,q,h1,h2,h3⟩:=zHp g A l j t e;obtain⟨vs,g1,g2,g3⟩:=k i x h2;obtain⟨v,e1,e2⟩:=(qN.reps A x vs g2).get h3;exact⟨v,by rw[h1];exact g3 q v e1,e2⟩
theorem Rep.lsE{g:Tg}{A:Ty}{l:List A.den}{v:Value}(h:Rep B r (.ls g A l) v){i:Nat}(hi:i<l.length):∃b o n c,v= .slice (some ⟨b,o,none⟩) n c∧Cls B r b (o+i*A.size) (qB g A (nth A.zero l i)):=by
 obtain⟨ad,c,rfl,hn,hm,hh⟩:=h.lsI;rcases hh with rfl | ⟨b,o,rfl,hb,k⟩
 ·simp at hi
 ·refine⟨b,o,_,_,rfl,fun j t e=>?_⟩;have hx:l[i]?=some (nth A.zero l i):=by rw[qR];simp[hi]
  obtain⟨vs,g1,g2,g3⟩:=k i _ hx;obtain⟨v,e1,e2⟩:=(qN.reps A _ vs g2).get e;exact⟨v,by rw[Nat.add_assoc];exact g3 j v e1,e2⟩
theorem Rep.lsP{g:Tg}{A:Ty}{l:List A.den}{b o n c lo k:Nat}(h:Rep B r (.ls g A l) (.slice (some ⟨b,o,none⟩) n c))(hk:lo+k≤l.length):Rep B r (.ls g A ((l.drop lo).take k)) (.slice (some ⟨b,o+lo*A.size,none⟩) k (c-lo)):=by
 obtain⟨ad,c',e,hn,hm,hh⟩:=h.lsI;cases e;refine .ls ⟨some ⟨b,o+lo*A.size,none⟩,c-lo,?_,?_,by omega,?_⟩
 ·rw[List.length_take,List.length_drop,Nat.min_eq_left (by omega)]
 ·rw[List.length_take,List.length_drop,Nat.min_eq_left (by omega)];omega
 rcases hh with rfl | ⟨b',o',e,hb,kk⟩
 ·left;simp
 ·cases e;right;refine⟨_,_,rfl,hb,fun i x hx=>?_⟩;have hx:l[lo+i]?=some x:=by
   rw[List.getElem?_take]at hx;split at hx
   ·rwa[List.getElem?_drop]at hx
   ·cases hx
  obtain⟨vs,g1,g2,g3⟩:=kk _ x hx;refine⟨vs,g1,g2,fun j v hv=>?_⟩;have:=g3 j v hv;rwa[show o+lo*A.size+(i*A.size+j)=o+((lo+i)*A.size+j)by rw[Nat.add_mul];omega]
theorem Rep.cells{t:T}{v:Value}(ht:t≠.u)(h:Rep B r t v):zN B r (cellsOf t) v.cells.toList:=by
 have one:∀{t:T}{v:Value},v.cells=#[v]→cellsOf t=[t]→Rep B r t v→zN B r (cellsOf t) v.cells.toList:=fun e1 e2 h=>by rw[e1,e2];exact⟨h,trivial⟩
 cases h with
 | u=>exact absurd rfl ht
 | v h'=>refine one ?_ rfl (.v h');cases v<;>first | rfl | (simp[sc]at h')
 | ag f hl h g=>exact zEy f hl h g
 | sl hn f h g hm=>exact one rfl rfl (.sl hn f h g hm)
 | sl0 hm=>exact one rfl rfl (.sl0 hm)
 | sn hn f h g hm hb=>exact one rfl rfl (.sn hn f h g hm hb)
 | sn0 hm=>exact one rfl rfl (.sn0 hm)
 | st f h g=>exact one rfl rfl (.st f h g)
 | st0=>exact one rfl rfl .st0
 | fp f h g=>exact one rfl rfl (.fp f h g)
 | os h=>exact one rfl rfl (.os h)
 | og h h1 h2 h3=>exact one rfl rfl (.og h h1 h2 h3)
 | op h=>exact one rfl rfl (.op h)
 | tu f hl h g=>exact one rfl rfl (.tu f hl h g)
 | fn f hl h g=>exact one rfl rfl (.fn f hl h g)
 | fb f hl h g=>exact one rfl rfl (.fb f hl h g)
 | om h=>exact one rfl rfl (.om h)
 | yl h=>exact one rfl rfl (.yl h)
 | ls h=>exact one (by obtain⟨_,_,e,_⟩:=h;cases e;rfl) rfl (.ls h)
 | hv h=>exact one (by obtain⟨_,_,e,_⟩:=h;cases e;rfl) rfl (.hv h)
theorem zTw(x:Value):Rep B r (ofV x) x:=by
 unfold ofV;cases h:sc x with
 | true=>exact .v h
 | false=>exact .u
theorem rY:∀l:List Value,zN B r (l.map ofV) l
 | []=>trivial
 | x::l=>⟨zTw x,rY l⟩
theorem aH(x:Value):Rep B r (ofC x) x:=by
 unfold ofC;split
 ·rename_i cs;have:=Rep.mkAg (B:=B) (r:=r) (rY cs.toList);simpa using this
 ·rename_i cs;have:=Rep.mkTu (B:=B) (r:=r) (rY cs.toList);simpa using this
 ·rename_i f;exact Rep.mkFn (vs:=[]) trivial
 ·exact zTw x
theorem Cls.cells{b o n:Nat}{cs us:List T}{w:World}{Y:Hid}(h:Cls B (rd w Y) b o cs)(ht:jC n cs=some us):∃vs,vs.length=n∧zN B (rd w Y) us vs∧qD w ⟨b,o,none⟩ vs:=by
 obtain⟨h1,h2⟩:=aW ht;obtain⟨f,h3,h4⟩:=h.fun;have hg:∀j,j<n→∃t,cs[j]?=some t:=fun j hj=>⟨cs[j],by simp⟩
 refine⟨(List.range n).map f,by simp,zN.of (by simp[h2,Nat.min_eq_left h1]) fun j t v e e'=>?_,fun j v e=>?_⟩
 ·have hj:j<n:=by
   have:=(List.getElem?_eq_some_iff.1 e').1;simpa using this
  rw[h2,List.getElem?_take,if_pos hj]at e;have:v=f j:=by simpa[hj]using e'.symm
  rw[this];exact h4 j t e
 ·have hj:j<n:=by
   have:=(List.getElem?_eq_some_iff.1 e).1;simpa using this
  obtain⟨t,ht⟩:=hg j hj;have:v=f j:=by simpa[hj]using e.symm
  rw[this,qG];exact jD (h3 j t ht)
end
def Iv(P:Program)(w:World):Prop:=P.globalNamed "internal/strconv.uint64pow10" ≠none→Lib.TabIs P w "internal/strconv.uint64pow10" .u64 Lib.pow10Tab
theorem Iv.upd{P:Program}{w w':World}(h:Iv P w)(hu:Upd E0 w w'):Iv P w':=fun hn=>Lib.tabBelow_of_tabIs (h hn) w' hu.below
def kV:TO→Bool
 | .row .. | .gro .. | .map _ | .mapd _ | .loop .. =>true
 | _=>false
def LSt:Bool→Option Code→Loop→Prop
 | true,none,rec=>rec.state= .ready∧rec.pending=none
 | true,some _,_=>False
 | false,none,rec=>rec.state= .busy
 | false,some c,rec=>rec.state= .done∧rec.pending=some c
def kF(B:Bm)(r:Rd):List (Value×T)→List MapEntry→Prop
 | [],[]=>True
 | e::l,f::es=>f.key=e.1∧Rep B r e.2 f.val∧kF B r l es
 | _,_=>False
theorem kF.mono{B B':Bm}{r r':Rd}(hB:BLe B B')(hr:Le r r'):∀{l:List (Value×T)}{es:List MapEntry},kF B r l es→kF B' r' l es
 | [],[],_=>trivial
 | _::_,_::_,h=>⟨h.1,h.2.1.mono hB hr,kF.mono hB hr h.2.2⟩
 | [],_::_,h=>h.elim
 | _::_,[],h=>h.elim
theorem kF.length{B:Bm}{r:Rd}:∀{l:List (Value×T)}{es:List MapEntry},kF B r l es→l.length=es.length
 | [],[],_=>rfl
 | _::_,_::_,h=>congrArg (·+1) (kF.length h.2.2)
 | [],_::_,h=>h.elim
 | _::_,[],h=>h.elim
inductive RO (P:Program) (B:Bm) (r:Rd) (C:Nat):TO→Obj→Prop
  | row {cs:List T} {e:TypeId} {c:Array Value} (h:zN B r cs c.toList):RO P B r C (.row cs e) (.cells c e (0,0))
  | gro {cs:Cs} {e:TypeId} {c:Array Value} {i0:TypeInfo} (hi:P.info? e=some i0) (hs:c.size=C*i0.size) (hC:C≤maxLen) (h:zN B r cs.list (c.toList.take cs.list.length)):RO P B r C (.gro cs e) (.cells c e (0,0))
  | map {l:List (Value×T)} {es:Array MapEntry} {clk:Nat} (h:kF B r l es.toList) (hc:clk=es.size) (hb:es.toList.map (·.born)=List.range es.size):RO P B r C (.map l) (.map es clk)
  | mapd {d:MD} {es:Array MapEntry} {clk:Nat} (h:kF B r d.ents es.toList) (hc:clk=es.size) (hb:es.toList.map (·.born)=List.range es.size):RO P B r C (.mapd d) (.map es clk)
  | loop {L:List T} {ps:List Nat} {a b:Code} {rec:Loop} {ready:Bool} {pend:Option Code} (hL:zN B r L rec.tmps.toList) (hp:rec.params.toList=ps) (ha:rec.assign=a) (hb:rec.body=b)
      (hna:noR a=true) (hnb:noR b=true) (hs:LSt ready pend rec):RO P B r C (.loop L ps a b ready pend) (.loop rec)
theorem RO.mono{P:Program}{B B':Bm}{r r':Rd}{C:Nat}{t:TO}{o:Obj}(hB:BLe B B')(hr:Le r r')(h:RO P B r C t o):RO P B' r' C t o:=by
 cases h with
 | row h=>exact .row (h.mono hB hr)
 | gro hi hs hC h=>exact .gro hi hs hC (h.mono hB hr)
 | map h hc hb=>exact .map (h.mono hB hr) hc hb
 | mapd h hc hb=>exact .mapd (h.mono hB hr) hc hb
 | loop hL hp ha hb hna hnb hs=>exact .loop (hL.mono hB hr) hp ha hb hna hnb hs
structure Wd(P:Program)(E:Nat→Prop)(w0:World)(X:Hid)(F:List Nat)(H:List TO)(B:Bm)(w:World)(Y:Hid)(Mo:List (Nat×Obj)):Prop where
 st:St E w0 X w Y (Mo++kE F)
 ob:∀(i:Nat)(o:TO),H[i]?=some o→kV o=true→∃b C ob,B i=some (b,C)∧(b,ob)∈Mo∧RO P B (rd w Y) C o ob
 fz:∀(i:Nat)(cs:List T),H[i]?=some (.fz cs)→∃b C,B i=some (b,C)∧Cls B (rd w Y) b 0 cs
 nn:∀i,H.length≤i→B i=none
 inj:∀(i j:Nat)(oi oj:TO)(p q:Nat×Nat),H[i]?=some oi→kV oi=true→H[j]?=some oj→kV oj=true→B i=some p→B j=some q→p.1=q.1→i=j
 bN:B.N=w0.heap.size
 iv:∀w',Upd E w0 w'→Iv P w'
section
variable {P:Program}{E:Nat→Prop}{w0:World}{X:Hid}{F:List Nat}{H:List TO}{B:Bm}{w w':World}{Y Y':Hid}{Mo:List (Nat×Obj)}
theorem St.perm{M M':List (Nat×Obj)}(hp:M.Perm M')(h:St E w0 X w Y M):St E w0 X w Y M':=
 ⟨h.upd,h.lt,h.hid,fun q hq=>h.own q (hp.mem_iff.2 hq),(hp.map (·.1)).nodup_iff.1 h.nd,h.ltX⟩
theorem Wd.step{F':List Nat}(h:Wd P E w0 X F H B w Y Mo)(hS:St E w0 X w' Y' (Mo++kE F'))(hle:Le (rd w Y) (rd w' Y')):Wd P E w0 X F' H B w' Y' Mo:=
 ⟨hS,fun i o ho hl=>by
  obtain⟨b,C,ob,h1,h2,h3⟩:=h.ob i o ho hl;exact⟨b,C,ob,h1,h2,h3.mono (BLe.refl B) hle⟩,fun i cs hc=>by
  obtain⟨b,C,h1,h2⟩:=h.fz i cs hc;exact⟨b,C,h1,h2.mono (BLe.refl B) hle⟩,h.nn,h.inj,h.bN,h.iv⟩
theorem Wd.call(h:Wd P E w0 X F H B w Y Mo)(k:Upd E0 w w'):Wd P E w0 X F H B w' Y Mo:=h.step (h.st.call k) (k.le Y)
theorem Wd.heap(h:Wd P E w0 X F H B w Y Mo){b:Nat}{ob:Obj}(hm:(b,ob)∈Mo):w.heap[b]?=some ob:=(h.st.own _ (List.mem_append_left _ hm)).1
theorem Wd.ivw(h:Wd P E w0 X F H B w Y Mo):Iv P w:=h.iv w h.st.upd
theorem Wd.bNle(h:Wd P E w0 X F H B w Y Mo):B.N≤w.heap.size:=by rw[h.bN];exact h.st.upd.size
theorem Wd.new{F':List Nat}(h:Wd P E w0 X F H B w Y Mo){g C:Nat}{o:TO}{ob:Obj}(hS:St E w0 X w' Y' (((g,ob)::Mo)++kE F'))(hle:Le (rd w Y) (rd w' Y'))(hl:kV o=true)(hR:RO P B (rd w' Y') C o ob):
  Wd P E w0 X F' (H++[o]) (wJ B H.length (g,C)) w' Y' ((g,ob)::Mo)∧BLe B (wJ B H.length (g,C)):=by
 have hB:BLe B (wJ B H.length (g,C)):=BLe.set (h.nn _ (Nat.le_refl _));have hg:∀p∈Mo,p.1≠g:=fun p hp e=>by
  have:=hS.nd;simp only[List.cons_append,List.map_cons,List.nodup_cons,List.mem_map,not_exists,not_and]at this;exact this.1 p (List.mem_append_left _ hp) e
 have hget:∀(i:Nat)(x:TO),(H++[o])[i]?=some x→(H[i]?=some x∧i≠H.length)∨(i=H.length∧x=o):=fun i x hx=>by
  rcases Nat.lt_trichotomy i H.length with hlt | rfl | hlt
  ·rw[List.getElem?_append_left hlt]at hx;exact .inl ⟨hx,Nat.ne_of_lt hlt⟩
  ·simp at hx;exact .inr ⟨rfl,hx.symm⟩
  ·rw[List.getElem?_eq_none (by simp;omega)]at hx;cases hx
 refine⟨⟨hS,fun i x hx hlx=>?_,fun i cs hx=>?_,fun i hi=>?_,fun i j oi oj p q hi li hj lj hp hq e=>?_,h.bN,h.iv⟩,hB⟩
 ·rcases hget i x hx with⟨hx,_⟩ | ⟨rfl,rfl⟩
  ·obtain⟨b,C',ob',h1,h2,h3⟩:=h.ob i x hx hlx;exact⟨b,C',ob',hB _ _ h1,List.mem_cons_of_mem _ h2,h3.mono hB hle⟩
  ·exact⟨g,C,ob,qA _ _ _,List.mem_cons_self,hR.mono hB (Le.refl _)⟩
 ·rcases hget i _ hx with⟨hx,_⟩ | ⟨rfl,e⟩
  ·obtain⟨b,C',h1,h2⟩:=h.fz i cs hx;exact⟨b,C',hB _ _ h1,h2.mono hB hle⟩
  ·subst e;cases hl
 ·rw[List.length_append,List.length_singleton]at hi;rw[jH _ _ (by omega)]
  exact h.nn i (by omega)
 ·have own:∀(i:Nat)(x:TO)(p:Nat×Nat),H[i]?=some x→kV x=true→B i=some p→p.1≠g:=fun i x p hx hl hp=>by
   obtain⟨b,C',ob',h1,h2,_⟩:=h.ob i x hx hl;rw[hp]at h1;cases h1;exact hg _ h2
  rcases hget i _ hi with⟨hi',ni⟩ | ⟨rfl,rfl⟩<;>rcases hget j _ hj with⟨hj',nj⟩ | ⟨rfl,rfl⟩
  ·rw[jH _ _ ni]at hp;rw[jH _ _ nj]at hq;exact h.inj i j oi oj p q hi' li hj' lj hp hq e
  ·rw[jH _ _ ni]at hp;rw[qA]at hq;cases hq;exact absurd e (own i _ p hi' li hp)
  ·rw[jH _ _ nj]at hq;rw[qA]at hp;cases hp;exact absurd e.symm (own j _ q hj' lj hq)
  ·rfl
theorem Wd.alloc(h:Wd P E w0 X F H B w Y Mo){C:Nat}{o:TO}{ob:Obj}(hl:kV o=true)(hR:RO P B (rd w Y) C o ob):
  Wd P E w0 X F (H++[o]) (wJ B H.length (w.heap.size,C)) (w.alloc ob) (bY w.heap.size Y) ((w.heap.size,ob)::Mo)∧BLe B (wJ B H.length (w.heap.size,C)):=
 h.new (h.st.alloc ob) (Le.hide_new ob) hl (hR.mono (BLe.refl B) (Le.hide_new ob))
theorem zRa{α:Type}{l:List α}{k:Nat}{p q x:α}(hk:l[k]?=some q)(hp:p∈l)(hne:p≠q):p∈l.set k x:=by
 obtain⟨j,hj⟩:=List.getElem?_of_mem hp;have:k≠j:=fun e=>by subst e;rw[hk]at hj;cases hj;exact hne rfl
 exact List.mem_of_getElem? (i:=j) (by rw[List.getElem?_set_ne this];exact hj)
theorem Wd.set(h:Wd P E w0 X F H B w Y Mo){i k b C:Nat}{o o':TO}{ob ob':Obj}(hi:H[i]?=some o)(hl:kV o=true)(hB:B i=some (b,C))(hk:Mo[k]?=some (b,ob))(hS:St E w0 X w' Y (Mo.set k (b,ob')++kE F))(hle:Le (rd w Y) (rd w' Y))
  (hl':∀cs,o'≠.fz cs) (hR:kV o'=true→RO P B (rd w' Y) C o' ob'):Wd P E w0 X F (H.set i o') B w' Y (Mo.set k (b,ob')):=by
 have hlt:i<H.length:=(List.getElem?_eq_some_iff.1 hi).1;have hget:∀(j:Nat)(x:TO),(H.set i o')[j]?=some x→(j≠i∧H[j]?=some x)∨(j=i∧x=o'):=fun j x hx=>by
  by_cases e:i=j
  ·subst e;rw[List.getElem?_set_self hlt]at hx;cases hx;exact .inr ⟨rfl,rfl⟩
  ·rw[List.getElem?_set_ne e]at hx;exact .inl ⟨fun e'=>e e'.symm,hx⟩
 refine⟨hS,fun j x hx hlx=>?_,fun j cs hx=>?_,fun j hj=>h.nn j (by simpa using hj),fun j1 j2 o1 o2 p q h1 l1 h2 l2 hp hq e=>?_,h.bN,h.iv⟩
 ·rcases hget j x hx with⟨hne,hx⟩ | ⟨rfl,rfl⟩
  ·obtain⟨b',C',ob2,g1,g2,g3⟩:=h.ob j x hx hlx;refine⟨b',C',ob2,g1,zRa hk g2 (fun e=>hne ?_),g3.mono (BLe.refl B) hle⟩;cases e;exact h.inj j i x o _ _ hx hlx hi hl g1 hB rfl
  ·exact⟨b,C,ob',hB,List.mem_of_getElem? (i:=k) (by rw[List.getElem?_set_self (List.getElem?_eq_some_iff.1 hk).1]),hR hlx⟩
 ·rcases hget j _ hx with⟨hne,hx⟩ | ⟨rfl,e⟩
  ·obtain⟨b',C',g1,g2⟩:=h.fz j cs hx;exact⟨b',C',g1,g2.mono (BLe.refl B) hle⟩
  ·exact absurd e.symm (hl' cs)
 ·rcases hget j1 _ h1 with⟨n1,g1⟩ | ⟨rfl,rfl⟩<;>rcases hget j2 _ h2 with⟨n2,g2⟩ | ⟨rfl,rfl⟩
  ·exact h.inj _ _ _ _ _ _ g1 l1 g2 l2 hp hq e
  ·exact h.inj _ _ _ _ _ _ g1 l1 hi hl hp hq e
  ·exact h.inj _ _ _ _ _ _ hi hl g2 l2 hp hq e
  ·rfl
theorem Wd.gone(h:Wd P E w0 X F H B w Y Mo)(i:Nat):Wd P E w0 X F (H.set i .gone) B w Y Mo:=by
 have hget:∀(j:Nat)(x:TO),(H.set i .gone)[j]?=some x→x≠.gone→H[j]?=some x:=fun j x hx hne=>by
  by_cases e:i=j
  ·subst e;rw[List.getElem?_set]at hx;split at hx
   ·split at hx
    ·cases hx;exact absurd rfl hne
    ·cases hx
   ·exact hx
  ·rwa[List.getElem?_set_ne e]at hx
 have ng:∀{x:TO},kV x=true→x≠.gone:=fun h e=>by subst e;cases h
 exact⟨h.st,fun j x hx hlx=>h.ob j x (hget j x hx (ng hlx)) hlx,fun j cs hx=>h.fz j cs (hget j _ hx (by simp)),fun j hj=>h.nn j (by simpa using hj),
  fun j1 j2 o1 o2 p q h1 l1 h2 l2 hp hq e=>h.inj j1 j2 o1 o2 p q (hget _ _ h1 (ng l1)) l1 (hget _ _ h2 (ng l2)) l2 hp hq e,h.bN,h.iv⟩
theorem Wd.rowCells(h:Wd P E w0 X F H B w Y Mo){i b C o n:Nat}{cs us:List T}(hB:B i=some (b,C))(hr:rX (nth .gone H i)=some cs)(ht:jC n (qX cs o)=some us):∃vs,vs.length=n∧zN B (rd w Y) us vs∧qD w ⟨b,o,none⟩ vs:=by
 rw[qR]at hr;cases hi:H[i]? with
 | none=>rw[List.getD_eq_getElem?_getD,hi]at hr;simp[rX]at hr
 | some x=>
  rw[List.getD_eq_getElem?_getD,hi]at hr;have cellsCase:∀(c:Array Value)(e:TypeId)(z:Nat×Nat),w.heap[b]?=some (.cells c e z)→zN B (rd w Y) cs (c.toList.take cs.length)→∃vs,vs.length=n∧zN B (rd w Y) us vs∧qD w ⟨b,o,none⟩ vs:=fun c e z hb hR=>by
   obtain⟨h1,h2⟩:=zN.take (hR.drop o) ht;refine⟨_,h2,h1,fun j v hj=>?_⟩;rw[qG,cell_of_row w b _ c e z hb];have hj':j<n:=by rw[←h2];exact(List.getElem?_eq_some_iff.1 hj).1
   rw[List.getElem?_take,if_pos hj',List.getElem?_drop,List.getElem?_take]at hj;split at hj
   ·simpa using hj
   ·cases hj
  cases x with
  | row cs' e=>
   simp only[Option.getD_some,rX,Option.some.injEq]at hr;subst hr;obtain⟨b',C',ob,g1,g2,g3⟩:=h.ob i _ hi rfl;rw[hB]at g1;cases g1;cases g3 with
   | @row _ _ c hR=>exact cellsCase c e _ (h.heap g2) (by rw[hR.length,List.take_length];exact hR)
  | gro cs' e=>
   simp only[Option.getD_some,rX,Option.some.injEq]at hr;subst hr;obtain⟨b',C',ob,g1,g2,g3⟩:=h.ob i _ hi rfl;rw[hB]at g1;cases g1;cases g3 with
   | @gro _ _ c i0 _ _ _ hR=>exact cellsCase c e _ (h.heap g2) hR
  | fz cs'=>
   simp only[Option.getD_some,rX,Option.some.injEq]at hr;subst hr;obtain⟨b',C',g1,g2⟩:=h.fz i _ hi;rw[hB]at g1;cases g1;have:=(g2.drop o).cells ht;simpa using this
  | _=>simp[rX]at hr
theorem Wd.from(h:Wd P E w0 X F H B w Y Mo){t:T}{v:Value}{n:Nat}{cs us:List T}(hR:Rep B (rd w Y) t v)(hf:dG H t=some cs)(ht:jC n cs=some us):∃b o vs,v= .pointer (some ⟨b,o,none⟩)∧vs.length=n∧zN B (rd w Y) us vs∧qD w ⟨b,o,none⟩ vs:=by
 cases t<;>simp only[dG]at hf<;>try cases hf
 ·obtain⟨b,o,rfl,hc⟩:=hR.fpI;obtain⟨vs,h1,h2,h3⟩:=hc.cells ht;exact⟨b,o,vs,rfl,h1,h2,h3⟩
 ·rename_i i o;cases hr:rX (nth .gone H i)with
  | none=>simp[hr]at hf
  | some cs'=>
   simp only[hr,Option.some.injEq]at hf;subst hf;cases hR with
   | @op _ _ b C hB=>
    obtain⟨vs,h1,h2,h3⟩:=h.rowCells hB hr ht;exact⟨b,o,vs,rfl,h1,h2,h3⟩
theorem Wd.slice(h:Wd P E w0 X F H B w Y Mo){t:T}{v:Value}{n s:Nat}{us:List T}(hR:Rep B (rd w Y) t v)(hn:qV t=some n)(hc:zX H s t=some us):∃ad c vs,v= .slice ad n c∧vs.length=n*s∧zN B (rd w Y) us vs∧(n*s≠0→∃a,ad=some a)∧∀a,ad=some a→qD w a vs:=by
 have nul:∀{us:List T},jC 0 ([]:List T)=some us→us=[]:=fun h=>by simpa[jC]using h.symm
 cases t with
 | u=>cases hc
 | fp=>cases hc
 | op=>cases hc
 | ag=>cases hc
 | tu=>cases hc
 | fn=>cases hc
 | fb=>cases hc
 | om=>cases hc
 | yl=>cases hc
 | hv=>cases hc
 | ls g A l=>
  simp only[qV,Option.some.injEq]at hn;subst hn;simp only[zX]at hc;cases hb:Nat.beq s A.size with
  | false=>simp[hb]at hc
  | true=>
   simp only[hb,cond_true,Option.some.injEq]at hc;obtain rfl:=Nat.eq_of_beq_eq_true hb;subst hc;have ht:jC (l.length*A.size) (yV g A l)=some (yV g A l):=by rw[←gP g A l];exact lU _
   obtain⟨ad,c,rfl,_,hh⟩:=hR.lsS.slI;rcases hh with⟨h0,h1⟩ | ⟨b,o,rfl,hc'⟩
   ·refine⟨ad,c,[],rfl,by simp[h0],?_,by simp[h0],fun a _ j v e=>by simp at e⟩
    rw[h1];trivial
   ·obtain⟨vs,h1,h2,h3⟩:=hc'.cells ht;exact⟨_,c,vs,rfl,h1,h2,fun _=>⟨_,rfl⟩,fun a e=>by cases e;exact h3⟩
 | v x=>
  obtain⟨rfl,_⟩:=hR.vI;unfold zX at hc;split at hc;all_goals first
   | (rename_i e;cases e;done)
   | (cases hc;done)
   | skip
  rename_i e;cases e;simp only[qV,Option.some.injEq]at hn;subst hn;obtain rfl:=Option.some.inj hc;exact⟨none,0,[],rfl,by simp,trivial,by simp,fun a e=>by cases e⟩
 | sl cs k=>
  simp only[qV,Option.some.injEq]at hn;subst hn;simp only[zX]at hc;obtain⟨ad,c,rfl,_,hh⟩:=hR.slI;rcases hh with⟨rfl,rfl⟩ | ⟨b,o,rfl,hc'⟩
  ·rw[Nat.zero_mul]at hc;obtain rfl:=nul hc;exact⟨ad,c,[],rfl,by simp,trivial,by simp,fun a _ j v e=>by simp at e⟩
  ·obtain⟨vs,h1,h2,h3⟩:=hc'.cells hc;exact⟨_,c,vs,rfl,h1,h2,fun _=>⟨_,rfl⟩,fun a e=>by cases e;exact h3⟩
 | sn cs k=>
  simp only[qV,Option.some.injEq]at hn;subst hn;simp only[zX]at hc;obtain⟨ad,c,rfl,_,hh⟩:=(show Rep B (rd w Y) (.sl cs k) v from hR.dn).slI;rcases hh with⟨rfl,rfl⟩ | ⟨b,o,rfl,hc'⟩
  ·rw[Nat.zero_mul]at hc;obtain rfl:=nul hc;exact⟨ad,c,[],rfl,by simp,trivial,by simp,fun a _ j v e=>by simp at e⟩
  ·obtain⟨vs,h1,h2,h3⟩:=hc'.cells hc;exact⟨_,c,vs,rfl,h1,h2,fun _=>⟨_,rfl⟩,fun a e=>by cases e;exact h3⟩
 | st cs k=>
  simp only[qV,Option.some.injEq]at hn;subst hn;simp only[zX]at hc;obtain⟨ad,rfl,hh⟩:=hR.stI;rcases hh with⟨rfl,rfl⟩ | ⟨b,o,rfl,hc'⟩
  ·rw[Nat.zero_mul]at hc;obtain rfl:=nul hc;exact⟨ad,0,[],rfl,by simp,trivial,by simp,fun a _ j v e=>by simp at e⟩
  ·obtain⟨vs,h1,h2,h3⟩:=hc'.cells hc;exact⟨_,_,vs,rfl,h1,h2,fun _=>⟨_,rfl⟩,fun a e=>by cases e;exact h3⟩
 | os i o k c=>
  simp only[qV,Option.some.injEq]at hn;subst hn;simp only[zX]at hc;cases hr:rX (nth .gone H i)with
  | none=>simp[hr]at hc
  | some cs'=>
   simp only[hr]at hc;cases hR with
   | @os _ _ _ _ b C hB=>
    obtain⟨vs,h1,h2,h3⟩:=h.rowCells hB hr hc;exact⟨_,c,vs,rfl,h1,h2,fun _=>⟨_,rfl⟩,fun a e=>by cases e;exact h3⟩
 | og i o k=>
  simp only[qV,Option.some.injEq]at hn;subst hn;simp only[zX]at hc;cases hr:rX (nth .gone H i)with
  | none=>simp[hr]at hc
  | some cs'=>
   simp only[hr]at hc;cases hR with
   | @og _ _ _ c b C hB _ _=>
    obtain⟨vs,h1,h2,h3⟩:=h.rowCells hB hr hc;exact⟨_,c,vs,rfl,h1,h2,fun _=>⟨_,rfl⟩,fun a e=>by cases e;exact h3⟩
end
def Ans(P:Program)(w:World)(ρ:Operand→Value)(o:Oper)(B:Bm)(r:Rd)(k:Nat):T×Option TO→Prop
 | (t,none)=>∃v,(execOp ρ o).run P w= .ok (.value v) w∧Rep B r t v
 | (t,some ob)=>∃(C:Nat)(obj:Obj)(vf:Nat→Value),(∀w',(execOp ρ o).run P w'= .ok (.value (vf w'.heap.size)) (w'.alloc obj))∧kV ob=true∧RO P B r C ob obj∧∀b,Rep (wJ B k (b,C)) r t (vf b)
section
variable {P:Program}{E:Nat→Prop}{w0:World}{X:Hid}{F:List Nat}{H:List TO}{B:Bm}{w:World}{Y:Hid}{Mo:List (Nat×Obj)}{ρ:Operand→Value}{ρT:Operand→T}{o:Oper}{r:Rd}{k:Nat}
theorem zW{t:T}{x:T×Option TO}(h:val t=some x)(hA:Ans P w ρ o B r k (t,none)):Ans P w ρ o B r k x:=by cases h;exact hA
theorem zBl{α:Type}:∀{s:Sem α}{a:α},zGs P s=some a→∀w,s.run P w= .ok a w:=by
 intro s;induction s with
 | pure x=>intro a h w;simp only[zGs,Option.some.injEq]at h;subst h;rfl
 | program f ih=>intro a h w;exact ih P h w
 | _=>intro a h w;simp[zGs]at h
theorem zPo:∀{cs:List T}{l vs:List Value},zSa cs=some l→zN B r cs vs→vs=l
 | [],_,[],h,_=>by simp[zSa]at h;exact h.symm
 | t::cs,l,v::vs,h,hR=>by
  simp only[zSa]at h;cases ht:vOf t with
  | none=>simp[ht]at h
  | some x=>
   cases hl:zSa cs with
   | none=>simp[ht,hl]at h
   | some y=>
    simp only[ht,hl,Option.some.injEq]at h;subst h;cases t<;>simp only[vOf]at ht<;>try cases ht
    rw[hR.1.vI.1,zPo hl hR.2]
 | [],_,_::_,_,h=>h.elim
 | _::_,_,[],_,h=>h.elim
theorem zKu{t:T}{x v:Value}(h:sOf t=some x)(hR:Rep B r t v):v=x:=by
 cases t<;>simp only[sOf]at h<;>try cases h
 ·exact hR.vI.1
 ·rename_i cs;obtain⟨vs,rfl,hR2⟩:=hR.agI;cases hl:zSa cs with
  | none=>simp[hl]at h
  | some l=>
   simp only[hl,Option.some.injEq]at h;rw[←h,zPo hl hR2]
theorem zPi:∀{l:List Operand},zPh ρT l=true→∀x∈l,∃v,sOf (ρT x)=some v
 | [],_,x,h=>by cases h
 | y::l,hs,x,h=>by
  simp only[zPh]at hs;cases hy:sOf (ρT y)with
  | none=>simp[hy]at hs
  | some v=>
   rcases List.mem_cons.1 h with rfl | h
   ·exact⟨v,hy⟩
   ·exact zPi (by simpa[hy]using hs) x h
theorem qBn(hρ:∀x,Rep B r (ρT x) (ρ x)){t:T}(h:aG P ρT o=some t):Ans P w ρ o B r k (t,none):=by
 unfold aG at h;cases hc:zOb o.op&&zPh ρT o.op.operands.toList with
 | false=>simp[hc]at h
 | true=>
  simp only[hc,cond_true]at h;simp only[Bool.and_eq_true]at hc;have he:execOp ρ o=execOp (sAt ρT) o:=execOp_congr o (nL hc.1) fun x hx=>by
   obtain⟨v,hv⟩:=zPi hc.2 x (by simpa using hx)
   rw[zKu hv (hρ x)];simp[sAt,hv]
  cases hr:zGs P (execOp (sAt ρT) o)with
  | none=>simp[hr,qBq]at h
  | some x=>
   cases x<;>simp only[hr,qBq,Option.some.injEq]at h<;>try cases h
   rename_i v;exact⟨v,by rw[he];exact zBl hr w,aH v⟩
theorem qEq(k:IntKind)(z:Int):wr k z=k.wrap z:=by
 unfold wr;split
 ·rename_i n;cases h:Nat.blt n (qGm k)with
  | false=>rfl
  | true=>
   have hn:n<qGm k:=by simpa[Nat.blt_eq]using h
   unfold IntKind.wrap;cases k<;>simp only[qGm]at hn<;>simp[IntKind.bits,IntKind.signed]<;>omega
 ·rfl
theorem qAl(a b:Int):ieq a b=(a==b):=by
 cases a<;>cases b<;>simp only[ieq]
 ·rename_i x y;rw[Bool.eq_iff_iff];simp[←Int.ofNat_inj]
 ·rfl
 ·rfl
 ·rename_i x y;rw[Bool.eq_iff_iff];simp
theorem qNr(a b:Int):ilt a b=decide (a<b):=by
 cases a<;>cases b<;>simp only[ilt]
 ·rename_i x y;rw[Bool.eq_iff_iff];simp[Nat.blt_eq]
 ·rename_i x y;rw[Bool.eq_iff_iff];simp;omega
 ·rename_i x y;rw[Bool.eq_iff_iff];simp;omega
 ·rename_i x y;rw[Bool.eq_iff_iff];simp[Nat.blt_eq];omega
theorem zTj{j k:IntKind}(h:Nat.beq (kind j) (kind k)=true):j=k:=by
 cases j<;>cases k<;>first | rfl | (revert h;decide)
theorem qFj{op:BinOp}{k:IntKind}{a b:Int}{c:Value}(h:zVk op k a b=some c)(t:TypeId)(w:World):(binOp op t (.int k a) (.int k b)).run P w= .ok c w∧sc c=true:=by
 cases op<;>simp only[zVk,Option.some.injEq]at h<;>try cases h
 all_goals simp only[binOp,ne_eq,not_true_eq_false,if_false,Op.intArith,Op.intCmp,Sem.run_pure,qEq,qAl,qNr,sc,and_true]
 all_goals first
  | rfl
  | (simp only[Result.ok.injEq,Value.bool.injEq,and_true,bne,GT.gt,GE.ge];rw[Bool.eq_iff_iff];simp;try omega)
theorem xG{t e:TypeId}(h:elT P t=some e):P.underlying t=some (.slice e):=by
 unfold elT at h;split at h
 ·rename_i x hx;cases h;exact hx
 ·cases h
theorem zZq{d:Nat}{t e:TypeId}{a:Addr}{n c:Nat}(ht:P.underlying t=some (.slice e)):(Op.equalIn (d+1) t (.slice (some a) n c) (.slice none 0 0)).run P w= .ok false w:=by
 unfold Op.equalIn;simp only[underlying,ht,Sem.run_bind,Sem.run_pure,run_program,Result.andThen_ok]
theorem vN{j k:IntKind}(h:Nat.beq (kind j) (kind k)=true):j=k:=by
 have:=Nat.eq_of_beq_eq_true h;cases j<;>cases k<;>first | rfl | cases this
theorem tY(a b:Int):(a==b)=ieq a b:=by
 cases a with
 | ofNat a=>cases b with
  | ofNat b=>
   cases h:Nat.beq a b with
   | true=>obtain rfl:=Nat.eq_of_beq_eq_true h;simp[ieq]
   | false=>simp only[ieq,h,beq_eq_false_iff_ne];intro e;cases e;simp at h
  | negSucc b=>rfl
 | negSucc a=>cases b with
  | ofNat b=>rfl
  | negSucc b=>
   cases h:Nat.beq a b with
   | true=>obtain rfl:=Nat.eq_of_beq_eq_true h;simp[ieq]
   | false=>simp only[ieq,h,beq_eq_false_iff_ne];intro e;cases e;simp at h
theorem zJk{P:Program}{w:World}{d:Nat}{t:TypeId}{k k':IntKind}{a b:Int}(ht:P.underlying t=some (.int k')):(Op.equalIn (d+1) t (.int k a) (.int k b)).run P w= .ok (a==b) w:=by
 unfold Op.equalIn;simp only[underlying,ht,Sem.run_bind,Sem.run_pure,run_program,Result.andThen_ok];simp
theorem aP{P:Program}{w:World}{t:TypeId}{k':IntKind}{cs:Array Value}{i:Nat}{v:Value}(ht:P.underlying t=some (.int k'))(h:cs[i]?=some v):(part t cs i).run P w= .ok v w:=by
 unfold part isAgg;simp only[underlying,ht,Sem.run_bind,Sem.run_pure,run_program,Result.andThen_ok];simp[h]
theorem qKk{P:Program}{w:World}{d:Nat}{t:TypeId}{f1 f2 f3:Field}{k1 k2 k3 q1 q2 q3:IntKind}{a1 a2 a3 b1 b2 b3:Int}(ht:P.underlying t=some (.struct #[f1,f2,f3]))(hs:P.stoodInHeld t=false)(h1:P.underlying f1.type=some (.int q1))(h2:P.underlying f2.type=some (.int q2))(h3:P.underlying f3.type=some (.int q3))
 (n1:f1.name≠ "_") (n2:f2.name≠ "_") (n3:f3.name≠ "_") (p1:f1.offset=0) (p2:f2.offset=1) (p3:f3.offset=2):
 (Op.equalIn (d+1+1) t (.agg #[.int k1 a1,.int k2 a2,.int k3 a3]) (.agg #[.int k1 b1,.int k2 b2,.int k3 b3])).run P w= .ok (a1==b1&&(a2==b2&&a3==b3)) w:=by
 unfold Op.equalIn;simp only[underlying,ht,Sem.run_bind,Sem.run_pure,run_program,Result.andThen_ok,hs];simp[n1,n2,n3,p1,p2,p3];simp only[aP (cs:=#[Value.int k1 a1,.int k2 a2,.int k3 a3]) (i:=0) h1 rfl,aP (cs:=#[Value.int k1 b1,.int k2 b2,.int k3 b3]) (i:=0) h1 rfl,aP (cs:=#[Value.int k1 a1,.int k2 a2,.int k3 a3]) (i:=1) h2 rfl,aP (cs:=#[Value.int k1 b1,.int k2 b2,.int k3 b3]) (i:=1) h2 rfl,aP (cs:=#[Value.int k1 a1,.int k2 a2,.int k3 a3]) (i:=2) h3 rfl,aP (cs:=#[Value.int k1 b1,.int k2 b2,.int k3 b3]) (i:=2) h3 rfl,Result.andThen_ok];simp only[List.getElem_toArray,List.getElem_cons_succ,List.getElem_cons_zero];have e1:=zJk (P:=P) (w:=w) (d:=d) (a:=a1) (b:=b1) (k:=k1) h1;have e2:=zJk (P:=P) (w:=w) (d:=d) (a:=a2) (b:=b2) (k:=k2) h2;have e3:=zJk (P:=P) (w:=w) (d:=d) (a:=a3) (b:=b3) (k:=k3) h3;rw[e1];cases a1==b1
 ·simp
 simp only[Result.andThen_ok];rw[if_neg (by simp),e2]
 cases a2==b2
 ·simp
 simp only[Result.andThen_ok];rw[if_neg (by simp),e3]
 cases a3==b3
 ·simp
 simp
theorem kI{k:IntKind}{o:Nat}{f:Field}(h:qAn P k o f=true):P.underlying f.type=some (.int k)∧f.offset=o∧f.name≠ "_" :=by
 unfold qAn at h;split at h
 ·rename_i k' hu;simp only[Bool.and_eq_true]at h;refine⟨by rw[hu,vN h.1],Nat.eq_of_beq_eq_true h.2.1,fun e=>?_⟩
  rw[e]at h;have:=h.2.2;simp at this
 ·cases h
theorem qNd{op:BinOp}{t t2:TypeId}{x y:Operand}{xs ys:List T}(ho:o.op= .binOp op t x y t2)(hx:Rep B r (.ag xs) (ρ x))(hy:Rep B r (.ag ys) (ρ y)){z:T×Option TO}(h:eq3 P op t xs ys=some z):Ans P w ρ o B r k z:=by
 unfold eq3 at h;split at h
 ·rename_i i a j b q c i' a' j' b' q' c';cases hc:xR P t (.prod (.int i) (.prod (.int j) (.int q)))&&(!P.eqGuardType P.depth t&&(Nat.beq (kind i) (kind i')&&(Nat.beq (kind j) (kind j')&&Nat.beq (kind q) (kind q'))))with
  | false=>simp[hc]at h
  | true=>
   simp only[hc,cond_true]at h;simp only[Bool.and_eq_true,Bool.not_eq_true']at hc;obtain⟨hk,hg,e1,e2,e3⟩:=hc;obtain rfl:=vN e1;obtain rfl:=vN e2;obtain rfl:=vN e3;obtain⟨vs,hvx,hvs⟩:=hx.agI;obtain⟨us,hvy,hus⟩:=hy.agI;match vs,hvs with
   | [v1,v2,v3],⟨g1,g2,g3,_⟩=>
    match us,hus with
    | [u1,u2,u3],⟨f1,f2,f3,_⟩=>
     obtain⟨rfl,_⟩:=g1.vI;obtain⟨rfl,_⟩:=g2.vI;obtain⟨rfl,_⟩:=g3.vI;obtain⟨rfl,_⟩:=f1.vI;obtain⟨rfl,_⟩:=f2.vI;obtain⟨rfl,_⟩:=f3.vI;unfold xR at hk;simp only at hk;split at hk
     ·rename_i f0 f1 f2 hu;simp only[Bool.and_eq_true,Bool.not_eq_true']at hk;obtain⟨hs,g0,g1,g2⟩:=hk;obtain⟨u0,o0,n0⟩:=kI g0;obtain⟨u1,o1,n1⟩:=kI g1;obtain⟨u2,o2,n2⟩:=kI g2;have he:(Op.equalIn 10000 t (.agg #[.int i a,.int j b,.int q c]) (.agg #[.int i a',.int j b',.int q c'])).run P w= .ok (ieq a a'&&(ieq b b'&&ieq c c')) w:=by
       have:=qKk (P:=P) (w:=w) (d:=9998) (k1:=i) (k2:=j) (k3:=q) (a1:=a) (a2:=b) (a3:=c) (b1:=a') (b2:=b') (b3:=c') hu hs u0 u1 u2 n0 n1 n2 o0 o1 o2;rw[tY,tY,tY]at this;exact this
      generalize (ieq a a'&&(ieq b b'&&ieq c c'))=bb at he h;split at h
      ·refine zW h ⟨_,?_,.v rfl⟩;unfold execOp;simp only[ho,hvx,hvy,binOp,Op.equal,Op.maxDepth,eqGuard,Sem.run_pure,Sem.run_bind,Result.andThen_ok];simp[hg,run_program,Sem.run_bind,Sem.run_pure];rw[he];rfl
      ·refine zW h ⟨_,?_,.v rfl⟩;unfold execOp;simp only[ho,hvx,hvy,binOp,Op.equal,Op.maxDepth,eqGuard,Sem.run_pure,Sem.run_bind,Result.andThen_ok];simp[hg,run_program,Sem.run_bind,Sem.run_pure];rw[he];rfl
      ·cases h
     ·cases hk
 ·cases h
theorem qIk(hρ:∀x,Rep B r (ρT x) (ρ x)){op:BinOp}{t t2:TypeId}{x y:Operand}(ho:o.op= .binOp op t x y t2){z:T×Option TO}(h:zWt P op t (ρT x) (ρT y)=some z):Ans P w ρ o B r k z:=by
 have hx:=hρ x;have hy:=hρ y;unfold zWt at h;have nil:∀{a:Option Addr}{n c:Nat},a.isSome=true→ρ x= .slice a n c→ρ y= .slice none 0 0→zEu P op t=some z→Ans P w ρ o B r k z:=fun{a n c}ha hx hy hz=>by
  obtain⟨a,rfl⟩:=Option.isSome_iff_exists.1 ha;unfold zEu at hz;cases he:elT P t with
  | none=>simp[he]at hz
  | some e=>
   have ht:=xG he;simp only[he]at hz;cases op<;>simp only[Option.some.injEq]at hz<;>try cases hz
   all_goals
    refine⟨_,?_,.v rfl⟩;unfold execOp;simp only[ho,hx,hy,eqGuard,binOp,Op.equal,Op.maxDepth,zZq (d:=9999) ht,Sem.run_bind,Sem.run_pure,Result.andThen_ok];simp[Sem.run_bind,Sem.run_pure]
 split at h
 ·rename_i a b e1 e2;rw[e1]at hx;rw[e2]at hy;obtain⟨hx,_⟩:=hx.vI;obtain⟨hy,_⟩:=hy.vI;cases hb:bin op a b with
  | none=>simp[hb]at h
  | some c=>
   simp only[hb]at h;refine zW h ?_;obtain⟨k1,a1,k2,b1,rfl,rfl⟩:∃k1 a1 k2 b1,a= .int k1 a1∧b= .int k2 b1:=by
    unfold bin at hb;split at hb
    ·exact⟨_,_,_,_,rfl,rfl⟩
    ·cases hb
   simp only[bin]at hb;cases hk:Nat.beq (kind k1) (kind k2)with
   | false=>simp[hk]at hb
   | true=>
    obtain rfl:=zTj hk;simp only[hk,cond_true]at hb;obtain⟨h1,h2⟩:=qFj (P:=P) hb t w;refine⟨c,?_,.v h2⟩;have hg:(eqGuard op t x y (.int k1 a1) (.int k1 b1)).run P w= .ok () w:=by
     unfold eqGuard;split<;>rfl
    unfold execOp;simp only[ho,hx,hy,Sem.run_bind,hg,Result.andThen_ok,h1,Sem.run_pure]
 ·rename_i e1 e2;rw[e1]at hx;rw[e2]at hy;obtain⟨b,C,hx,_⟩:=hx.osI;exact nil rfl hx hy.vI.1 h
 ·rename_i e1 e2;rw[e1]at hx;rw[e2]at hy;obtain⟨b,C,c,hx,_⟩:=hx.ogI;exact nil rfl hx hy.vI.1 h
 ·rename_i e1 e2;rw[e1]at hx;rw[e2]at hy;obtain⟨ad,c,hx,_,⟨_,h2⟩ | ⟨b,q,rfl,_⟩⟩:=hx.slI
  ·cases h2
  ·exact nil rfl hx hy.vI.1 h
 ·rename_i e1 e2;rw[e1]at hx;rw[e2]at hy;obtain⟨ad,hx,⟨_,h2⟩ | ⟨b,q,rfl,_⟩⟩:=hx.stI
  ·cases h2
  ·exact nil rfl hx hy.vI.1 h
 ·rename_i e1 e2;rw[e1]at hx;rw[e2]at hy;exact qNd ho hx hy h
 ·cases h
theorem Rep.bool{b:Bool}{v:Value}(h:Rep B r (.v (.bool b)) v):v= .bool b:=h.vI.1
theorem zSz{x:Operand}(ho:o.op= .move x∨o.op= .assign x)(w:World):(execOp ρ o).run P w= .ok (.value (ρ x)) w:=by
 unfold execOp;rcases ho with ho | ho<;>simp only[ho]<;>rfl
theorem qDf(hρ:∀x,Rep B r (ρT x) (ρ x)){c a b:Operand}(ho:o.op= .pick c a b){z:T×Option TO}(h:zIp (ρT c) (ρT a) (ρT b)=some z):Ans P w ρ o B r k z:=by
 have hc:=hρ c;unfold zIp at h;split at h
 ·rename_i q e;rw[e]at hc;refine zW h ?_;refine⟨bif q then ρ a else ρ b,?_,?_⟩
  ·unfold execOp;simp only[ho,hc.bool,asBool,Sem.run_bind,Sem.run_pure,Result.andThen_ok];cases q<;>rfl
  ·cases q
   ·exact hρ b
   ·exact hρ a
 ·cases h
theorem pY{e:TypeId}{cs:List T}(h:zer P e=some cs):∃i z,P.info? e=some i∧i.zero=some z∧cs=z.cells.toList.map ofV:=by
 unfold zer at h;cases hi:P.info? e with
 | none=>simp[hi]at h
 | some i=>
  simp only[hi]at h;cases hz:i.zero with
  | none=>simp[hz]at h
  | some z=>simp only[hz,Option.some.injEq]at h;exact⟨i,z,rfl,hz,h.symm⟩
theorem pF{e:TypeId}{i:TypeInfo}{z:Value}(hi:P.info? e=some i)(hz:i.zero=some z)(w:World):(zeroValue e).run P w= .ok z w:=by
 simp[zeroValue,typeInfo,hi,hz,Sem.run_bind,Sem.run_pure]
theorem zWs{e:TypeId}(ho:o.op= .alloc e){z:T×Option TO}(h:zRj P k e=some z):Ans P w ρ o B r k z:=by
 unfold zRj at h;cases hz:zer P e with
 | none=>simp[hz]at h
 | some cs=>
  simp only[hz,Option.some.injEq]at h;subst h;obtain⟨i,v,h1,h2,rfl⟩:=pY hz;refine⟨0,.cells v.cells e (0,0),fun n=> .pointer (some ⟨n,0,none⟩),fun w'=>?_,rfl,.row (rY _),fun b=> .op (qA _ _ _)⟩;unfold execOp;simp only[ho,Instr.alloc,Sem.run_bind,pF h1 h2,Result.andThen_ok,Sem.run_pure,newVar,newRow];rfl
theorem qAq{t:T}(h:isU t=false):t≠.u:=fun e=>by subst e;cases h
theorem qIl(hρ:∀x,Rep B r (ρT x) (ρ x)){e:TypeId}{x:Operand}(ho:o.op= .box e x){z:T×Option TO}(h:qPg k e (ρT x)=some z):Ans P w ρ o B r k z:=by
 unfold qPg at h;cases hu:isU (ρT x)with
 | true=>simp[hu]at h
 | false=>
  simp only[hu,cond_false,Option.some.injEq]at h;subst h;refine⟨0,.cells (ρ x).cells e (0,0),fun n=> .pointer (some ⟨n,0,none⟩),fun w'=>?_,rfl,.row ((hρ x).cells (qAq hu)),fun b=> .op (qA _ _ _)⟩;unfold execOp;simp only[ho,Instr.box,newVar,newRow,Sem.run_bind,Sem.run_pure];rfl
theorem qIq(hρ:∀x,Rep B r (ρT x) (ρ x)){x:Operand}(ho:o.op= .nilCheck x){z:T×Option TO}(h:qIp (ρT x)=some z):Ans P w ρ o B r k z:=by
 have hx:=hρ x;unfold qIp at h;split at h
 ·rename_i e;rw[e]at hx;obtain⟨b,C,hv,_⟩:=hx.opI;refine zW h ⟨ρ x,?_,hx⟩;unfold execOp;simp only[ho,hv,Sem.run_pure]
 ·rename_i e;rw[e]at hx;obtain⟨b,o',hv,_⟩:=hx.fpI;refine zW h ⟨ρ x,?_,hx⟩;unfold execOp;simp only[ho,hv,Sem.run_pure]
 ·rename_i e;rw[e]at hx;obtain⟨vs,hv,_⟩:=hx.fnI;refine zW h ⟨ρ x,?_,hx⟩;unfold execOp;simp only[ho,hv,Sem.run_pure]
 ·rename_i e;rw[e]at hx;obtain⟨b,C,hv,_⟩:=hx.ylI;refine zW h ⟨ρ x,?_,hx⟩;unfold execOp;simp only[ho,hv,Sem.run_pure]
 ·cases h
theorem zDd{g:Bool}{n:Nat}{us:List T}{vs:List Value}(hl:vs.length=n)(hg:(g||Nat.beq n 1)=true)(h:zN B r us vs):Rep B r (mkT g us) (ldV g vs)∧(g=true∨vs.length=1):=by
 cases g with
 | true=>exact⟨Rep.mkAg h,.inl rfl⟩
 | false=>
  have h1:vs.length=1:=by rw[hl];exact Nat.eq_of_beq_eq_true (by simpa using hg)
  obtain⟨v,rfl⟩:=List.length_eq_one_iff.1 h1;match us,h with
  | [t],h=>exact⟨h.1,.inr rfl⟩
structure zGh(B:Bm)(r:Rd)(w:World)(H:List TO):Prop where
 ptr:∀(t:T)(v:Value)(n:Nat)(cs us:List T),Rep B r t v→dG H t=some cs→jC n cs=some us→∃b o vs,v= .pointer (some ⟨b,o,none⟩)∧vs.length=n∧zN B r us vs∧qD w ⟨b,o,none⟩ vs
 map:∀(i b C:Nat)(l:List (Value×T)),B i=some (b,C)→nth .gone H i= .map l→∃es clk,w.heap[b]?=some (.map es clk)∧kF B r l es.toList
 mapd:∀(i b C:Nat)(d:MD),B i=some (b,C)→nth .gone H i= .mapd d→∃es clk,w.heap[b]?=some (.map es clk)∧kF B r d.ents es.toList
theorem Wd.hp(hW:Wd P E w0 X F H B w Y Mo):zGh B (rd w Y) w H:=⟨fun _ _ _ _ _ h1 h2 h3=>hW.from h1 h2 h3,fun i b C l hB hn=>by
 rw[qR,List.getD_eq_getElem?_getD]at hn;cases hi:H[i]? with
 | none=>rw[hi]at hn;cases hn
 | some x=>
  rw[hi]at hn;simp only[Option.getD_some]at hn;subst hn;obtain⟨b',C',ob,g1,g2,g3⟩:=hW.ob i _ hi rfl;rw[hB]at g1;cases g1;cases g3 with
  | @map _ es clk h _ _=>exact⟨es,clk,hW.heap g2,h⟩,fun i b C d hB hn=>by
 rw[qR,List.getD_eq_getElem?_getD]at hn;cases hi:H[i]? with
 | none=>rw[hi]at hn;cases hn
 | some x=>
  rw[hi]at hn;simp only[Option.getD_some]at hn;subst hn;obtain⟨b',C',ob,g1,g2,g3⟩:=hW.ob i _ hi rfl;rw[hB]at g1;cases g1;cases g3 with
  | @mapd _ es clk h _ _=>exact⟨es,clk,hW.heap g2,h⟩⟩
theorem zOo(hH:zGh B r w H)(hρ:∀x,Rep B r (ρT x) (ρ x)){t:TypeId}{x:Operand}(ho:o.op= .load t x){z:T×Option TO}(h:aN P H t (ρT x)=some z):Ans P w ρ o B r k z:=by
 unfold aN at h;cases hl:ldT P t with
 | none=>simp[hl]at h
 | some gs=>
  obtain⟨g,s⟩:=gs;cases hf:dG H (ρT x)with
  | none=>simp[hl,hf]at h
  | some cs=>
   cases ht:jC s cs with
   | none=>simp[hl,hf,ht]at h
   | some us=>
    simp only[hl,hf,ht]at h;cases hg:(g||Nat.beq s 1)with
    | false=>simp[hg]at h
    | true=>
     simp only[hg,cond_true]at h;obtain⟨b,off,vs,hv,h1,h2,h3⟩:=hH.ptr _ _ _ _ _ (hρ x) hf ht;obtain⟨h4,h5⟩:=zDd h1 hg h2;exact zW h ⟨_,zB ho hv (by rw[h1];exact hl) h5 h3,h4⟩
theorem zN.map(hρ:∀x,Rep B r (ρT x) (ρ x)):∀l:List Operand,zN B r (l.map ρT) (l.map ρ)
 | []=>trivial
 | x::l=>⟨hρ x,zN.map hρ l⟩
theorem zNx(hρ:∀x,Rep B r (ρT x) (ρ x)){f:FuncId}{caps:Array Operand}(ho:o.op= .makeFunc (.func f) #[] caps):Ans P w ρ o B r k (.fn f (caps.toList.map ρT),none):=by
 refine⟨.func (.func f) #[] (caps.map ρ),?_,?_⟩
 ·unfold execOp;simp[ho,Instr.makeFunc,Sem.run_bind,Sem.run_pure,Result.andThen_ok]
 ·have:=Rep.mkFn (k:=f) (zN.map hρ caps.toList);cases caps;simpa using this
theorem zKd(hρ:∀x,Rep B r (ρT x) (ρ x)){f:FuncId}{first:Array Operand}(ho:o.op= .makeFunc (.func f) first #[]):Ans P w ρ o B r k (.fb f (first.toList.map ρT),none):=by
 refine⟨.func (.func f) (first.map ρ) #[],?_,?_⟩
 ·unfold execOp;simp[ho,Instr.makeFunc,Sem.run_bind,Sem.run_pure,Result.andThen_ok]
 ·have:=Rep.mkFb (k:=f) (zN.map hρ first.toList)
  cases first
  simpa using this
theorem zOm(hρ:∀x,Rep B r (ρT x) (ρ x)){x:Operand}{i:Nat}(ho:o.op= .extract x i){z:T×Option TO}(h:aM (ρT x) i=some z):Ans P w ρ o B r k z:=by
 have hx:=hρ x;unfold aM at h;split at h
 ·rename_i ts e;rw[e]at hx;obtain⟨vs,hv,hR⟩:=hx.tuI;split at h
  ·rename_i t hi;obtain⟨v,h1,h2⟩:=hR.get hi;refine zW h ⟨v,?_,h2⟩;unfold execOp;simp only[ho,hv,Instr.extract,List.getElem?_toArray,h1,Sem.run_bind,Sem.run_pure,Result.andThen_ok]
  ·cases h
 ·cases h
theorem zWg{t:T}{n:Nat}{v:Value}(h:qV t=some n)(hR:Rep B r t v):∃ad c,v= .slice ad n c:=by
 cases t with
 | v x=>
  obtain⟨rfl,_⟩:=hR.vI;unfold qV at h;split at h<;>(try (rename_i e;cases e;done))<;>(try cases h)
  rename_i e;cases e;exact⟨_,_,rfl⟩
 | sl cs m=>simp only[qV,Option.some.injEq]at h;subst h;obtain⟨ad,c,hv,_⟩:=hR.slI;exact⟨ad,c,hv⟩
 | sn cs m=>simp only[qV,Option.some.injEq]at h;subst h;obtain⟨ad,c,hv,_⟩:=(show Rep B r (.sl cs m) v from hR.dn).slI;exact⟨ad,c,hv⟩
 | st cs m=>simp only[qV,Option.some.injEq]at h;subst h;obtain⟨ad,hv,_⟩:=hR.stI;exact⟨ad,_,hv⟩
 | os i o m c=>simp only[qV,Option.some.injEq]at h;subst h;obtain⟨b,C,hv,_⟩:=hR.osI;exact⟨_,_,hv⟩
 | og i o m=>simp only[qV,Option.some.injEq]at h;subst h;obtain⟨b,C,c,hv,_⟩:=hR.ogI;exact⟨_,_,hv⟩
 | ls g A l=>simp only[qV,Option.some.injEq]at h;subst h;obtain⟨ad,c,hv,_⟩:=hR.lsI;exact⟨_,_,hv⟩
 | _=>cases h
theorem qIo(hρ:∀x,Rep B r (ρT x) (ρ x)){c:Call}{x:Operand}(ho:o.op= .call c)(hc:c.callee= .builtin .len)(hx:c.args.toList=[x])(ht:∀n ad cp,ρ x= .slice ad n cp→∃t e,c.argTypes[0]?=some t∧P.underlying t=some (.slice e)){z:T×Option TO}(h:qPh (ρT x)=some z):Ans P w ρ o B r k z:=by
 unfold qPh at h;cases hn:qV (ρT x)with
 | none=>simp[hn]at h
 | some n=>
  simp only[hn]at h;obtain⟨ad,cp,hv⟩:=zWg hn (hρ x);obtain⟨t,e,h1,h2⟩:=ht _ _ _ hv;refine zW h ⟨.int .i64 (n:Int),?_,.v rfl⟩;have ha:c.args=#[x]:=Array.ext' (by simpa using hx)
  unfold execOp;simp only[ho,resolve,hc,Sem.run_bind,Sem.run_pure,Result.andThen_ok,invoke,builtin,Builtin.len_,ha,List.map_toArray,List.map_cons,List.map_nil,h1,hv];simp[underlying,h2,run_program,Sem.run_bind,Sem.run_pure,goInt]
theorem xW{t:T}{n:Nat}{v:Value}(h:wS t=some n)(hR:Rep B r t v):∃kd,v= .int kd (n:Int):=by
 unfold wS at h;split at h
 ·cases h;exact⟨_,hR.vI.1⟩
 ·cases h
def Bd(ρ:Operand→Value)(d l:Nat):Option Operand→Prop
 | none=>l=d
 | some a=>∃kd,ρ a= .int kd (l:Int)
theorem zUm{t e:TypeId}{x:Operand}{lo hi mx:Option Operand}{ad:Option Addr}{len cap g l h m:Nat}{q:Bool}(ho:o.op= .slice t x lo hi mx)(ht:P.underlying t=some (.slice e))(he:ldT P e=some (q,g))(hx:ρ x= .slice ad len cap)
  (hlo:Bd ρ 0 l lo) (hhi:Bd ρ len h hi) (hmx:Bd ρ cap m mx) (hm:hi=none→mx=none)
  (h1:l≤h) (h2:h≤m∨hi=none) (h3:m≤cap) (w:World):(execOp ρ o).run P w= .ok (.value (.slice (if m=l then ad else ad.map (·.add (l*g))) (h-l) (m-l))) w:=by
 unfold execOp;have c1:(l:Int)≤(h:Int):=by omega
 have c3:(m:Int)≤(cap:Int):=by omega
 have z1:(0:Int)≤(l:Int):=by omega
 have z2:(0:Int)≤(h:Int):=by omega
 have z3:(0:Int)≤(m:Int):=by omega
 have c2:∀a,hi=some a→(h:Int)≤(m:Int):=fun a e=>by
  rcases h2 with h2 | h2
  ·omega
  ·rw[e]at h2;cases h2
 cases lo<;>cases hi<;>cases mx<;>simp only[Bd]at hlo hhi hmx;all_goals try (obtain⟨_,hlo⟩:=hlo)
 all_goals try (obtain⟨_,hmx⟩:=hmx)
 all_goals try (cases hm rfl;done)
 all_goals try (obtain⟨_,hhi⟩:=hhi)
 all_goals try subst hlo
 all_goals try subst hmx
 all_goals try subst hhi
 all_goals try (have c2:=c2 _ rfl)
 all_goals simp[ho,hx,Instr.sliceAt,Instr.slice,Instr.sliceBounds,Instr.sliceBound,asIntOf,underlying,ht,Sem.run_bind,Sem.run_pure,run_program,Result.andThen_ok,Gv.run_sizeOf he, *]
 all_goals (intro hh;exfalso;omega)
end
section
variable {P:Program}{B:Bm}{r:Rd}{w:World}
theorem aV:∀(n:Nat)(l u:List T),lT n l=some u→n≤l.length∧u=l.take n
 | 0,_,_,h=>by simp[lT]at h;subst h;simp
 | _+1,[],_,h=>by simp[lT]at h
 | n+1,x::l,u,h=>by
  simp only[lT]at h;cases he:lT n l with
  | none=>simp[he]at h
  | some y=>
   simp only[he,Option.some.injEq]at h;obtain⟨h1,h2⟩:=aV n l y he;subst h;subst h2;exact⟨by simpa using h1,by simp⟩
theorem zDz:∀(l:List T)(n:Nat),zDy l n=l.drop n
 | [],_=>by simp[zDy]
 | _::_,0=>rfl
 | _::l,n+1=>by simp[zDy,zDz l n]
theorem mJ{A C:Ty}{l:List A.den}{m:List C.den}(h:vK A C l=some m):A=C∧HEq l m:=by
 unfold vK at h;split at h
 ·rename_i hb;have e:=Ty.beq_eq hb;subst e;cases h;exact⟨rfl,HEq.rfl⟩
 ·cases h
theorem mI{g:Tg}:∀(A:Ty){ts:List T}{x:A.den}{vs:List Value},rJ g A ts=some x→zN B r ts vs→zN B r (qB g A x) vs∧ts.length=A.size:=by
 intro A;induction A with
 | lim=>
  intro ts x vs h hR;replace h:zYu ts=some x:=h;unfold zYu at h;split at h
  ·rename_i k a;cases hk:Nat.beq (kind k) 6 with
   | false=>simp[hk]at h
   | true=>
    simp only[hk,cond_true,Option.some.injEq]at h;subst h;obtain rfl:k= .u32:=vN (k:= .u32) hk;exact⟨hR,rfl⟩
  ·cases h
 | int k=>
  intro ts x vs h hR;replace h:zYt k ts=some x:=h;unfold zYt at h;split at h
  ·rename_i k' a;cases hk:Nat.beq (kind k) (kind k')with
   | false=>simp[hk]at h
   | true=>
    simp only[hk,cond_true,Option.some.injEq]at h;subst h;obtain rfl:=vN hk;exact⟨hR,rfl⟩
  ·cases h
 | bool=>
  intro ts x vs h hR;replace h:zYs ts=some x:=h;unfold zYs at h;split at h
  ·cases h;exact⟨hR,rfl⟩
  ·cases h
 | str=>
  intro ts x vs h hR;replace h:zYw ts=some x:=h;unfold zYw at h;split at h
  ·cases h;exact⟨hR,rfl⟩
  ·cases h
 | list A ih=>
  intro ts x vs h hR;replace h:zYv g A ts=some x:=h;unfold zYv at h;split at h
  ·cases h;match vs,hR with
   | [v],hR=>
    obtain⟨rfl,_⟩:=hR.1.vI;exact⟨⟨.ls ⟨none,0,rfl,Nat.le_refl _,Nat.zero_le _,.inl rfl⟩,trivial⟩,rfl⟩
  ·rename_i g' A' l;cases hg:g.le g' with
   | false=>simp[hg]at h
   | true=>
    simp only[hg,cond_true]at h;obtain⟨rfl,he⟩:=mJ h;obtain rfl:=eq_of_heq he;match vs,hR with
    | [v],hR=>
     refine⟨⟨?_,trivial⟩,rfl⟩;have h1:=hR.1;cases h1 with
     | ls h1=>exact .ls (qN.mono (Le.refl _) (fun b h=>h.le hg) _ _ _ h1)
  ·cases h
 | prod A C ih1 ih2=>
  intro ts x vs h hR;simp only[rJ]at h;cases ht:lT A.size ts with
  | none=>simp[ht]at h
  | some u=>
   simp only[ht]at h;obtain⟨hle,rfl⟩:=aV _ _ _ ht;rw[zDz]at h;cases h1:rJ g A (ts.take A.size)with
   | none=>simp[h1]at h
   | some a=>
    cases h2:rJ g C (ts.drop A.size)with
    | none=>simp[h1,h2]at h
    | some c=>
     simp only[h1,h2,Option.some.injEq]at h;subst h;have hs:=zN.split (ts:=ts.take A.size) (us:=ts.drop A.size) (by rw[List.take_append_drop];exact hR)
     obtain⟨k1,k2⟩:=ih1 h1 hs.1;obtain⟨k3,k4⟩:=ih2 h2 hs.2;refine⟨?_,?_⟩
     ·have:=k1.app k3;rwa[List.take_append_drop]at this
     ·show _=A.size+C.size;rw[←List.take_append_drop A.size ts,List.length_append,k2,k4]
theorem bJ{g:Tg}{A:Ty}{t:T}{x:A.den}{v:Value}(h:zHh g A t=some x)(hR:Rep B r t v):Rep B r (unT g A x) v:=by
 have hl:=jA g A x;unfold zHh at h;split at h
 ·rename_i cs;cases hb:Nat.blt 1 A.size with
  | false=>simp[hb]at h
  | true=>
   simp only[hb,cond_true]at h;obtain⟨vs,rfl,hvs⟩:=hR.agI;have k:=(mI A h hvs).1;have hb:1<A.size:=by simpa using hb
   unfold unT;split
   ·rename_i t ht;rw[ht]at hl;simp at hl;omega
   ·exact Rep.mkAg k
 ·cases hb:Nat.beq A.size 1 with
  | false=>simp[hb]at h
  | true=>
   simp only[hb,cond_true]at h;have k:=(mI A h (vs:=[v]) ⟨hR,trivial⟩).1;rw[Nat.eq_of_beq_eq_true hb]at hl;obtain⟨t',ht⟩:=List.length_eq_one_iff.1 hl;unfold unT;rw[ht]at k ⊢;exact k.1
theorem zTh{kt:TypeId}{K:Ty}{k:K.den}{v:Value}(hk:xR P kt K=true)(hR:Rep B r (unT .a K k) v):v=kQ K k:=by
 unfold xR at hk;split at hk
 ·exact hR.vI.1
 ·exact hR.vI.1
 ·rename_i i j l;obtain⟨a,b,c⟩:=k;obtain⟨vs,rfl,hvs⟩:=Rep.agI (cs:=[.v (.int i a),.v (.int j b),.v (.int l c)]) hR;match vs,hvs with
  | [v1,v2,v3],⟨g1,g2,g3,_⟩=>
   obtain⟨rfl,_⟩:=g1.vI;obtain⟨rfl,_⟩:=g2.vI;obtain⟨rfl,_⟩:=g3.vI;rfl
 ·cases hk
theorem qNx{kt:TypeId}{K:Ty}{a b:K.den}(hk:xR P kt K=true)(h:keq K a b=true):a=b:=by
 have hi:∀{x y:Int},ieq x y=true→x=y:=fun h=>by rw[←tY]at h;exact eq_of_beq h
 unfold xR at hk;split at hk
 ·exact hi h
 ·exact of_decide_eq_true (p:=(a:ByteArray)=b) h
 ·obtain⟨a1,a2,a3⟩:=a;obtain⟨b1,b2,b3⟩:=b;have h:(ieq a1 b1&&(ieq a2 b2&&ieq a3 b3))=true:=h;simp only[Bool.and_eq_true]at h;rw[hi h.1,hi h.2.1,hi h.2.2]
 ·cases hk
theorem zUt(a b:ByteArray):(a==b)=decide (a=b):=by
 obtain⟨x⟩:=a;obtain⟨y⟩:=b;show(x==y)=_;by_cases h:x=y
 ·subst h;simp
 ·simp[h]
def Fnd{α:Type}(K:Ty)(R:α→Value→Prop)(k:K.den)(l:List (K.den×α))(es:List MapEntry)(i:Nat)(q:Option (Nat×Value)):Prop:=
 (q=none∧zQr K k l=false∧(∀z,jJ K z k l=z)∧∀y,dC K k y l=l++[(k,y)])∨
 ∃j e f,q=some (i+j,f.val)∧l[j]?=some e∧es[j]?=some f∧f.key=kQ K e.1∧keq K k e.1=true∧R e.2 f.val∧zQr K k l=true∧(∀z,jJ K z k l=e.2)∧∀y,dC K k y l=l.set j (k,y)
theorem Fnd.nil{α:Type}{K:Ty}{R:α→Value→Prop}{k:K.den}{es:List MapEntry}{i:Nat}:Fnd K R k [] es i none:= .inl ⟨rfl,rfl,fun _=>rfl,fun _=>rfl⟩
theorem Fnd.hit{α:Type}{K:Ty}{R:α→Value→Prop}{k:K.den}{e:K.den×α}{l:List (K.den×α)}{f:MapEntry}{es:List MapEntry}{i:Nat}(h:keq K k e.1=true)(hf:f.key=kQ K e.1)(hR:R e.2 f.val):Fnd K R k (e::l) (f::es) i (some (i,f.val)):=
 .inr ⟨0,e,f,rfl,rfl,rfl,hf,h,hR,by simp[zQr,h],fun z=>by simp[jJ,h],fun y=>by simp[dC,h]⟩
theorem Fnd.skip{α:Type}{K:Ty}{R:α→Value→Prop}{k:K.den}{e:K.den×α}{l:List (K.den×α)}{f:MapEntry}{es:List MapEntry}{i:Nat}{q:Option (Nat×Value)}(h:keq K k e.1=false)(hq:Fnd K R k l es (i+1) q):Fnd K R k (e::l) (f::es) i q:=by
 rcases hq with⟨h1,h2,h3,h4⟩ | ⟨j,e',f',h1,h2,h3,h4,h5,h6,h7,h8,h9⟩
 ·exact .inl ⟨h1,by simp[zQr,h,h2],fun z=>by simp[jJ,h,h3],fun y=>by simp[dC,h,h4]⟩
 ·exact .inr ⟨j+1,e',f',by rw[h1];congr 2;omega,by simpa using h2,by simpa using h3,h4,h5,h6,by simp[zQr,h7],fun z=>by simp[jJ,h,h8],fun y=>by simp[dC,h,h9]⟩
def zXp{α:Type}(K:Ty)(R:α→Value→Prop):List (K.den×α)→List MapEntry→Prop
 | [],[]=>True
 | e::l,f::es=>f.key=kQ K e.1∧R e.2 f.val∧zXp K R l es
 | _,_=>False
theorem zKg{α:Type}{K:Ty}{R:α→Value→Prop}{k:K.den}{d:TypeDesc}(hs:∀b:K.den,Instr.sameNow d (kQ K k) (kQ K b)=some (keq K k b)):∀(l:List (K.den×α))(es:List MapEntry)(i:Nat),zXp K R l es→∃q,Instr.findNow d (kQ K k) es i=some q∧Fnd K R k l es i q
 | [],[],i,_=>⟨none,rfl,.nil⟩
 | e::l,f::es,i,h=>by
  unfold Instr.findNow;rw[h.1,hs e.1];cases hq:keq K k e.1 with
  | true=>exact⟨_,rfl,.hit hq h.1 h.2.1⟩
  | false=>
   obtain⟨q,h1,h2⟩:=zKg hs l es (i+1) h.2.2;exact⟨q,h1,.skip hq h2⟩
 | [],_::_,_,h=>h.elim
 | _::_,[],_,h=>h.elim
theorem zSo{α:Type}{K:Ty}{R:α→Value→Prop}{k:K.den}{t:TypeId}(hs:∀b:K.den,(Op.equal t (kQ K k) (kQ K b)).run P w= .ok (keq K k b) w):∀(l:List (K.den×α))(es:List MapEntry)(i:Nat),zXp K R l es→∃q,(Instr.findAsking t (kQ K k) es i).run P w= .ok q w∧Fnd K R k l es i q
 | [],[],i,_=>⟨none,rfl,.nil⟩
 | e::l,f::es,i,h=>by
  unfold Instr.findAsking;rw[h.1];simp only[Sem.run_bind,hs e.1,Result.andThen_ok];cases hq:keq K k e.1 with
  | true=>exact⟨_,by simp[Sem.run_pure],.hit hq h.1 h.2.1⟩
  | false=>
   obtain⟨q,h1,h2⟩:=zSo hs l es (i+1) h.2.2;exact⟨q,by simpa using h1,.skip hq h2⟩
 | [],_::_,_,h=>h.elim
 | _::_,[],_,h=>h.elim
theorem zNd{α:Type}{K:Ty}{R:α→Value→Prop}{kt:TypeId}(hk:xR P kt K=true)(k:K.den)(l:List (K.den×α))(es:List MapEntry)(h:zXp K R l es):∃q,(Instr.findKey kt (kQ K k) es).run P w= .ok q w∧Fnd K R k l es 0 q:=by
 unfold xR at hk;split at hk
 ·rename_i i;split at hk
  ·rename_i j hu;obtain rfl:=vN hk;obtain⟨q,h1,h2⟩:=zKg (d:= .int i) (k:=k) (R:=R) (fun b=>by
    show(if i=i then some ((k:Int)==(b:Int))else none)=some (ieq k b)
    rw[if_pos rfl,tY]) l es 0 h
   refine⟨q,?_,h2⟩;unfold Instr.findKey;simp only[underlying,hu,Sem.run_bind,Sem.run_pure,run_program,Result.andThen_ok,h1]
  ·cases hk
 ·split at hk
  ·rename_i hu;obtain⟨q,h1,h2⟩:=zKg (d:= .string) (k:=k) (R:=R) (fun b=>by
    show some ((k:ByteArray)==(b:ByteArray))=some (decide ((k:ByteArray)=b));rw[zUt]) l es 0 h
   refine⟨q,?_,h2⟩;unfold Instr.findKey;simp only[underlying,hu,Sem.run_bind,Sem.run_pure,run_program,Result.andThen_ok,h1]
  ·cases hk
 ·rename_i i j n;split at hk
  ·rename_i f0 f1 f2 hu;simp only[Bool.and_eq_true,Bool.not_eq_true']at hk;obtain⟨hs,g0,g1,g2⟩:=hk;obtain⟨u0,o0,n0⟩:=kI g0;obtain⟨u1,o1,n1⟩:=kI g1;obtain⟨u2,o2,n2⟩:=kI g2;have hq:∀b:(Ty.prod (.int i) (.prod (.int j) (.int n))).den,(Op.equal kt (kQ (.prod (.int i) (.prod (.int j) (.int n))) k) (kQ (.prod (.int i) (.prod (.int j) (.int n))) b)).run P w= .ok (keq (.prod (.int i) (.prod (.int j) (.int n))) k b) w:=fun b=>by
    obtain⟨a1,a2,a3⟩:=k;obtain⟨b1,b2,b3⟩:=b;have:=qKk (P:=P) (w:=w) (d:=9998) (k1:=i) (k2:=j) (k3:=n) (a1:=a1) (a2:=a2) (a3:=a3) (b1:=b1) (b2:=b2) (b3:=b3) hu hs u0 u1 u2 n0 n1 n2 o0 o1 o2;rw[tY,tY,tY]at this;exact this
   obtain⟨q,h1,h2⟩:=zSo (k:=k) (R:=R) hq l es 0 h;unfold Instr.findKey;simp only[underlying,hu,Sem.run_bind,Sem.run_pure,run_program,Result.andThen_ok];match l,es,h with
   | [],[],h=>exact⟨none,rfl,.nil⟩
   | e::l,f::es,h=>
    refine⟨q,?_,h2⟩;have:Instr.findNow (.struct ⟨[f0,f1,f2]⟩) (kQ (.prod (.int i) (.prod (.int j) (.int n))) k) (f::es) 0=none:=rfl;rw[this];exact h1
  ·cases hk
 ·cases hk
theorem fB{K:Ty}{kt:TypeId}(hk:xR P kt K=true)(k:K.den)(e:Bool):(Instr.checkKey e 10000 kt (kQ K k)).run P w= .ok () w:=by
 unfold xR at hk;split at hk
 ·split at hk
  ·rename_i j hu;show(Instr.checkKey e (9999+1) kt _).run P w=_;unfold Instr.checkKey;simp only[underlying,hu,Sem.run_bind,Sem.run_pure,run_program,Result.andThen_ok]
  ·cases hk
 ·split at hk
  ·rename_i hu;show(Instr.checkKey e (9999+1) kt _).run P w=_;unfold Instr.checkKey;simp only[underlying,hu,Sem.run_bind,Sem.run_pure,run_program,Result.andThen_ok]
  ·cases hk
 ·rename_i i j n;split at hk
  ·rename_i f0 f1 f2 hu;simp only[Bool.and_eq_true,Bool.not_eq_true']at hk;obtain⟨hs,g0,g1,g2⟩:=hk;obtain⟨u0,o0,n0⟩:=kI g0;obtain⟨u1,o1,n1⟩:=kI g1;obtain⟨u2,o2,n2⟩:=kI g2;obtain⟨a1,a2,a3⟩:=k;have one:∀{f:Field}{q q':IntKind}{a:Int},P.underlying f.type=some (.int q)→(Instr.checkKey e 9999 f.type (.int q' a)).run P w= .ok () w:=fun{f q q' a}hu=>by
    show(Instr.checkKey e (9998+1) f.type _).run P w=_;unfold Instr.checkKey;simp only[underlying,hu,Sem.run_bind,Sem.run_pure,run_program,Result.andThen_ok]
   show(Instr.checkKey e (9999+1) kt (.agg #[.int i a1,.int j a2,.int n a3])).run P w=_;unfold Instr.checkKey;simp only[underlying,hu,Sem.run_bind,Sem.run_pure,run_program,Result.andThen_ok];simp[n0,n1,n2,o0,o1,o2];simp only[aP (cs:=#[Value.int i a1,.int j a2,.int n a3]) (i:=0) u0 rfl,aP (cs:=#[Value.int i a1,.int j a2,.int n a3]) (i:=1) u1 rfl,aP (cs:=#[Value.int i a1,.int j a2,.int n a3]) (i:=2) u2 rfl,Result.andThen_ok];simp only[List.getElem_toArray,List.getElem_cons_succ,List.getElem_cons_zero,one u0,one u1,one u2,Result.andThen_ok]
  ·cases hk
 ·cases hk
theorem qAu{K:Ty}{kt:TypeId}(hk:xR P kt K=true)(k:K.den):Instr.sameBits 10000 (kQ K k) (kQ K k)=true:=by
 unfold xR at hk;split at hk
 ·simp[kQ,Instr.sameBits]
 ·simp[kQ,Instr.sameBits,zUt]
 ·obtain⟨a,b,c⟩:=k;show Instr.sameBits (9999+1) _ _=true;simp[kQ,zJg,Instr.sameBits]
 ·cases hk
end
section
variable {P:Program}{E:Nat→Prop}{w0:World}{X:Hid}{F:List Nat}{H:List TO}{B:Bm}{w:World}{Y:Hid}{Mo:List (Nat×Obj)}{ρ:Operand→Value}{ρT:Operand→T}{o:Oper}{r:Rd}{k:Nat}
theorem rU{t k v:TypeId}(h:zEp P t=some (k,v)):P.underlying t=some (.map k v):=by
 unfold zEp at h;split at h
 ·rename_i hx;cases h;exact hx
 ·cases h
theorem zSy(hH:zGh B r w H){m:T}{v:Value}{l:List (Value×T)}(h:zHm H m=some l)(hR:Rep B r m v):(v= .map none∧l=[])∨∃b es clk,v= .map (some b)∧w.heap[b]?=some (.map es clk)∧kF B r l es.toList:=by
 unfold zHm at h;split at h
 ·cases h;exact .inl ⟨hR.vI.1,rfl⟩
 ·rename_i i;split at h
  ·rename_i l' hn;cases h;cases hR with
   | @om _ b C hB=>
    obtain⟨es,clk,h1,h2⟩:=hH.map _ _ _ _ hB hn;exact .inr ⟨b,es,clk,rfl,h1,h2⟩
  ·cases h
 ·cases h
theorem zAm{d:MD}:∀{l:List (d.K.den×d.V.den)}{es:List MapEntry},kF B r (l.map fun e=>(kQ d.K e.1,unT d.g d.V e.2)) es→zXp d.K (fun x v=>Rep B r (unT d.g d.V x) v) l es
 | [],[],_=>trivial
 | _::_,_::_,h=>⟨h.1,h.2.1,zAm h.2.2⟩
 | [],_::_,h=>h.elim
 | _::_,[],h=>h.elim
theorem zZd(hH:zGh B r w H){m:T}{v:Value}{d:MD}(h:dOf H m=some d)(hR:Rep B r m v):∃b es clk,v= .map (some b)∧w.heap[b]?=some (.map es clk)∧kF B r d.ents es.toList:=by
 unfold dOf at h;split at h
 ·rename_i i;split at h
  ·rename_i d' hn;cases h;cases hR with
   | @om _ b C hB=>
    obtain⟨es,clk,h1,h2⟩:=hH.mapd _ _ _ _ hB hn;exact⟨b,es,clk,rfl,h1,h2⟩
  ·cases h
 ·cases h
theorem jV{b:Nat}{es:Array MapEntry}{clk:Nat}(h:w.heap[b]?=some (.map es clk)):(getObj b).run P w= .ok (.map es clk) w:=by
 simp[getObj,Sem.run,h]
theorem qDb(hH:zGh B r w H)(hρ:∀x,Rep B r (ρT x) (ρ x)){c:Call}{x:Operand}{t:TypeId}{kv:TypeId×TypeId}(ho:o.op= .call c)(hc:c.callee= .builtin .len)(hx:c.args.toList=[x])(hts:c.argTypes.toList=[t])(ht:zEp P t=some kv){z:T×Option TO}(h:qDa H (ρT x)=some z):Ans P w ρ o B r k z:=by
 obtain⟨kt,vt⟩:=kv;have hu:=rU ht;unfold qDa at h;cases hd:dOf H (ρT x)with
 | some d=>
  simp only[hd]at h;have ha:c.args=#[x]:=Array.ext' (by simpa using hx)
  have hb:c.argTypes=#[t]:=Array.ext' (by simpa using hts)
  obtain⟨b,es,clk,hv,hg,hm⟩:=zZd hH hd (hρ x);refine zW h ⟨.int .i64 (d.l.length:Int),?_,.v rfl⟩;unfold execOp;simp only[ho,resolve,hc,Sem.run_bind,Sem.run_pure,Result.andThen_ok,invoke,builtin,Builtin.len_,ha,hb,List.map_toArray,List.map_cons,List.map_nil,hv];have:=hm.length;have e:d.ents.length=d.l.length:=by simp[MD.ents]
  rw[e]at this;simp[underlying,hu,run_program,Sem.run_bind,Sem.run_pure,goInt,jV hg,this]
 | none=>
 simp only[hd]at h;cases hl:zHm H (ρT x)with
 | none=>simp[hl]at h
 | some l=>
  simp only[hl]at h;have ha:c.args=#[x]:=Array.ext' (by simpa using hx)
  have hb:c.argTypes=#[t]:=Array.ext' (by simpa using hts)
  refine zW h ⟨.int .i64 (l.length:Int),?_,by rw[qL];exact .v rfl⟩
  unfold execOp;rcases zSy hH hl (hρ x)with⟨hv,rfl⟩ | ⟨b,es,clk,hv,hg,hm⟩
  ·simp only[ho,resolve,hc,Sem.run_bind,Sem.run_pure,Result.andThen_ok,invoke,builtin,Builtin.len_,ha,hb,List.map_toArray,List.map_cons,List.map_nil,hv];simp[underlying,hu,run_program,Sem.run_bind,Sem.run_pure,goInt]
  ·simp only[ho,resolve,hc,Sem.run_bind,Sem.run_pure,Result.andThen_ok,invoke,builtin,Builtin.len_,ha,hb,List.map_toArray,List.map_cons,List.map_nil,hv];have:=hm.length;simp[underlying,hu,run_program,Sem.run_bind,Sem.run_pure,goInt,jV hg,this]
theorem qCz(hH:zGh B r w H)(hρ:∀x,Rep B r (ρT x) (ρ x)){c:Call}(ho:o.op= .call c){z:T×Option TO}(h:zCd P H ρT c=some z):Ans P w ρ o B r k z:=by
 unfold zCd at h;split at h
 ·rename_i x t e1 e2 e3;cases he:elT P t with
  | none=>
   simp only[he]at h;cases hm:zEp P t with
   | none=>simp[hm]at h
   | some kv=>simp only[hm]at h;exact qDb hH hρ ho e1 e2 e3 hm h
  | some e=>
   simp only[he]at h;refine qIo hρ ho e1 e2 (fun n ad cp hv=>⟨t,e,?_,xG he⟩) h;have:c.argTypes=#[t]:=Array.ext' (by simpa using e3)
   rw[this];rfl
 ·cases h
theorem zTf{d:TypeDesc}{kv:Value}:∀{l:List (Value×T)}{es:List MapEntry}{i:Nat}{q:Option Nat},kF B r l es→zJu d kv l i=some q→
  (q=none∧Instr.findNow d kv es i=some none)∨∃j e f,q=some (i+j)∧l[j]?=some e∧es[j]?=some f∧Instr.findNow d kv es i=some (some (i+j,f.val))∧f.key=e.1∧Rep B r e.2 f.val
 | [],[],i,q,_,h=>by simp only[zJu,Option.some.injEq]at h;exact .inl ⟨h.symm,rfl⟩
 | e::l,f::es,i,q,hm,h=>by
  simp only[zJu]at h;unfold Instr.findNow;rw[hm.1];cases hs:Instr.sameNow d kv e.1 with
  | none=>simp[hs]at h
  | some b=>
   cases b with
   | true=>simp only[hs,Option.some.injEq]at h;exact .inr ⟨0,e,f,h.symm,rfl,rfl,rfl,hm.1,hm.2.1⟩
   | false=>
    simp only[hs]at h ⊢;rcases zTf hm.2.2 h with⟨h1,h2⟩ | ⟨j,e',f',h1,h2,h3,h4,h5,h6⟩
    ·exact .inl ⟨h1,h2⟩
    ·exact .inr ⟨j+1,e',f',by rw[h1];congr 1;omega,by simpa using h2,by simpa using h3,by rw[h4];congr 3;omega,h5,h6⟩
 | [],_::_,_,_,hm,_=>hm.elim
 | _::_,[],_,_,hm,_=>hm.elim
theorem zHy{d:TypeDesc}{kv:Value}:∀{l:List (Value×T)}{es:List MapEntry}{i:Nat},kF B r l es→zJu d kv l i=none→Instr.findNow d kv es i=none
 | [],[],i,_,h=>by simp[zJu]at h
 | e::l,f::es,i,hm,h=>by
  simp only[zJu]at h;unfold Instr.findNow;rw[hm.1];cases hs:Instr.sameNow d kv e.1 with
  | none=>rfl
  | some b=>
   cases b with
   | true=>simp[hs]at h
   | false=>simp only[hs]at h ⊢;exact zHy hm.2.2 h
 | [],_::_,_,hm,_=>hm.elim
 | _::_,[],_,hm,_=>hm.elim
theorem zTe{t:TypeId}{kv:Value}:∀{l:List (Value×T)}{es:List MapEntry}{i:Nat}{q:Option Nat},kF B r l es→qAs P t kv l i=some q→
  (q=none∧(Instr.findAsking t kv es i).run P w= .ok none w)∨∃j e f,q=some (i+j)∧l[j]?=some e∧es[j]?=some f∧(Instr.findAsking t kv es i).run P w= .ok (some (i+j,f.val)) w∧f.key=e.1∧Rep B r e.2 f.val
 | [],[],i,q,_,h=>by simp only[qAs,Option.some.injEq]at h;exact .inl ⟨h.symm,rfl⟩
 | e::l,f::es,i,q,hm,h=>by
  simp only[qAs]at h;unfold Instr.findAsking;rw[hm.1];cases hs:zGs P (Op.equal t kv e.1)with
  | none=>simp[hs]at h
  | some b=>
   simp only[Sem.run_bind,zBl hs w,Result.andThen_ok];cases b with
   | true=>simp only[hs,Option.some.injEq]at h;exact .inr ⟨0,e,f,h.symm,rfl,rfl,by simp[Sem.run_pure],hm.1,hm.2.1⟩
   | false=>
    simp only[hs]at h;rcases zTe hm.2.2 h with⟨h1,h2⟩ | ⟨j,e',f',h1,h2,h3,h4,h5,h6⟩
    ·exact .inl ⟨h1,by simpa using h2⟩
    ·exact .inr ⟨j+1,e',f',by rw[h1];congr 1;omega,by simpa using h2,by simpa using h3,by simp;rw[h4];congr 3;omega,h5,h6⟩
 | [],_::_,_,_,hm,_=>hm.elim
 | _::_,[],_,_,hm,_=>hm.elim
theorem zNq{t:TypeId}{kv:Value}{l:List (Value×T)}{es:List MapEntry}{q:Option Nat}(hm:kF B r l es)(h:zHx P t kv l=some q):
  (q=none∧(Instr.findKey t kv es).run P w= .ok none w)∨∃j e f,q=some j∧l[j]?=some e∧es[j]?=some f∧(Instr.findKey t kv es).run P w= .ok (some (j,f.val)) w∧f.key=e.1∧Rep B r e.2 f.val:=by
 unfold zHx at h;cases hu:P.underlying t with
 | none=>simp[hu]at h
 | some d=>
  simp only[hu]at h;unfold Instr.findKey;simp only[underlying,hu,Sem.run_bind,Sem.run_pure,run_program,Result.andThen_ok];cases hn:zJu d kv l 0 with
  | some q'=>
   simp only[hn,Option.some.injEq]at h;subst h;rcases zTf hm hn with⟨h1,h2⟩ | ⟨j,e',f',h1,h2,h3,h4,h5,h6⟩
   ·rw[h2];exact .inl ⟨h1,rfl⟩
   ·rw[h4];exact .inr ⟨j,e',f',by rw[h1,Nat.zero_add],h2,h3,by rw[Nat.zero_add];rfl,h5,h6⟩
  | none=>
   simp only[hn]at h;rw[zHy hm hn];rcases zTe (w:=w) hm h with⟨h1,h2⟩ | ⟨j,e',f',h1,h2,h3,h4,h5,h6⟩
   ·exact .inl ⟨h1,h2⟩
   ·exact .inr ⟨j,e',f',by rw[h1,Nat.zero_add],h2,h3,by rw[Nat.zero_add]at h4;exact h4,h5,h6⟩
theorem zNr{e:Bool}{t:TypeId}{kv:Value}(h:kOk P e t kv=true)(w:World):(Instr.checkKey e 10000 t kv).run P w= .ok () w:=by
 unfold kOk at h;cases hr:zGs P (Instr.checkKey e 10000 t kv)with
 | none=>simp[hr]at h
 | some u=>exact zBl hr w
def lkR(ok:Bool)(v:Value)(b:Bool):Value:=if ok then .tuple #[v,.bool b]else v
theorem zDf{ok b:Bool}{t:T}{v:Value}(h:Rep B r t v):Rep B r (okT ok t b) (lkR ok v b):=by
 cases ok with
 | false=>exact h
 | true=>exact Rep.mkTu (vs:=[v,.bool b]) ⟨h,.v rfl,trivial⟩
theorem qNb{l:List (Value×T)}{es:List MapEntry}(h:kF B r l es):emp l=es.toArray.isEmpty:=by
 cases l<;>cases es<;>first | rfl | exact h.elim
theorem zOp(hH:zGh B r w H)(hρ:∀x,Rep B r (ρT x) (ρ x)){t:TypeId}{m x:Operand}{ok:Bool}(ho:o.op= .lookup t m x ok){z:T×Option TO}(h:zFf P H t (ρT m) (ρT x) ok=some z):Ans P w ρ o B r k z:=by
 unfold zFf at h;cases hm:zEp P t with
 | none=>simp[hm]at h
 | some kv=>
  obtain⟨kt,vt⟩:=kv;cases hl:zHm H (ρT m)with
  | none=>simp[hm,hl]at h
  | some l=>
   cases hs:sOf (ρT x)with
   | none=>simp[hm,hl,hs]at h
   | some key=>
    simp only[hm,hl,hs]at h;cases hk:kOk P (emp l) kt key with
    | false=>simp[hk]at h
    | true=>
     simp only[hk,cond_true]at h;have hu:=rU hm;have hx:=zKu hs (hρ x);have fin:∀(es:Array MapEntry),kF B r l es.toList→
       (∀(n:Nat)(v:Value),(Instr.checkKey es.isEmpty 10000 kt key).run P w= .ok () w→(Instr.findKey kt key es.toList).run P w= .ok (some (n,v)) w→(Instr.lookup t (ρ m) key ok).run P w= .ok (lkR ok v true) w)→
       (∀(v:Value),(Instr.checkKey es.isEmpty 10000 kt key).run P w= .ok () w→(Instr.findKey kt key es.toList).run P w= .ok none w→(zeroValue vt).run P w= .ok v w→(Instr.lookup t (ρ m) key ok).run P w= .ok (lkR ok v false) w)→Ans P w ρ o B r k z:=fun es hme h1 h0=>by
      have hck:=zNr hk w;rw[qNb hme]at hck;have he2:es.toList.toArray=es:=by simp
      rw[he2]at hck;have hex:∀u,(Instr.lookup t (ρ m) key ok).run P w= .ok u w→(execOp ρ o).run P w= .ok (.value u) w:=fun u P2=>by
       unfold execOp;simp only[ho,hx,Sem.run_bind,P2,Result.andThen_ok,Sem.run_pure]
      cases hf:zHx P kt key l with
      | none=>simp[hf]at h
      | some q=>
       rcases zNq (w:=w) hme hf with⟨rfl,hr⟩ | ⟨j,e',f',rfl,h2,h3,hr,h5,h6⟩
       ·simp only[hf]at h;unfold qJo at h;cases hi:P.info? vt with
        | none=>simp[hi]at h
        | some i0=>
         cases hz:i0.zero with
         | none=>simp[hi,hz]at h
         | some zv=>
          simp only[hi,hz]at h;exact zW h ⟨_,hex _ (h0 zv hck hr (pF hi hz w)),zDf (aH zv)⟩
       ·simp only[hf]at h;have hn:qOo l j=some e'.2:=by unfold qOo;rw[h2]
        simp only[hn]at h;exact zW h ⟨_,hex _ (h1 j f'.val hck hr),zDf h6⟩
     rcases zSy hH hl (hρ m)with⟨hv,rfl⟩ | ⟨b,es,clk,hv,hg,hme⟩
     ·refine fin #[] trivial (fun n v g1 g2=>?_) (fun v g1 g2 g3=>?_)
      ·rw[hv];unfold Instr.lookup;simp only[underlying,hu,Sem.run_bind,Sem.run_pure,run_program,Result.andThen_ok,g1,g2];rfl
      ·rw[hv];unfold Instr.lookup;simp only[underlying,hu,Sem.run_bind,Sem.run_pure,run_program,Result.andThen_ok,g1,g2,g3];rfl
     ·refine fin es hme (fun n v g1 g2=>?_) (fun v g1 g2 g3=>?_)
      ·rw[hv];unfold Instr.lookup;simp only[underlying,hu,Sem.run_bind,Sem.run_pure,run_program,jV hg,Result.andThen_ok,g1,g2];rfl
      ·rw[hv];unfold Instr.lookup;simp only[underlying,hu,Sem.run_bind,Sem.run_pure,run_program,jV hg,Result.andThen_ok,g1,g2,g3];rfl
theorem zRm(hH:zGh B r w H)(hρ:∀x,Rep B r (ρT x) (ρ x)){t:TypeId}{m x:Operand}{ok:Bool}(ho:o.op= .lookup t m x ok){z:T×Option TO}(h:zKn P H t (ρT m) (ρT x) ok=some z):Ans P w ρ o B r k z:=by
 unfold zKn at h;cases hd:dOf H (ρT m)with
 | none=>simp only[hd]at h;exact zOp hH hρ ho h
 | some d=>
  simp only[hd]at h;cases hm:zEp P t with
  | none=>simp[hm]at h
  | some kv=>
   obtain⟨kt,vt⟩:=kv;simp only[hm]at h;unfold lkD at h;split at h
   ·rename_i key z' hk hz;split at h
    ·rename_i z0 hz0;cases hko:xR P kt d.K with
     | false=>simp[hko]at h
     | true=>
      simp only[hko,cond_true]at h;have hu:=rU hm;have hx:=zTh hko (bJ hk (hρ x));obtain⟨b,es,clk,hv,hg,hme⟩:=zZd hH hd (hρ m);obtain⟨q,hr,hf⟩:=zNd (w:=w) hko key d.l es.toList (zAm hme);unfold qJo at hz;cases hi:P.info? vt with
      | none=>simp[hi]at hz
      | some i0=>
       cases hzv:i0.zero with
       | none=>simp[hi,hzv]at hz
       | some zv=>
        simp only[hi,hzv,Option.some.injEq]at hz;subst hz;have hzr:=bJ hz0 (aH (B:=B) (r:=r) zv);have hex:∀u,(Instr.lookup t (ρ m) (kQ d.K key) ok).run P w= .ok u w→(execOp ρ o).run P w= .ok (.value u) w:=fun u P2=>by
         unfold execOp;simp only[ho,hx,Sem.run_bind,P2,Result.andThen_ok,Sem.run_pure]
        rcases hf with⟨rfl,h2,h3,_⟩ | ⟨j,e,f,rfl,_,_,_,_,h6,h7,h8,_⟩
        ·rw[h2,h3]at h;refine zW h ⟨_,hex (lkR ok zv false) ?_,zDf hzr⟩;rw[hv];unfold Instr.lookup;simp only[underlying,hu,Sem.run_bind,Sem.run_pure,run_program,Result.andThen_ok,jV hg,fB hko,hr,pF hi hzv w];rfl
        ·rw[h7,h8]at h;refine zW h ⟨_,hex (lkR ok f.val true) ?_,zDf h6⟩;rw[hv];unfold Instr.lookup;simp only[underlying,hu,Sem.run_bind,Sem.run_pure,run_program,Result.andThen_ok,jV hg,fB hko,hr];rfl
    ·cases h
   ·cases h
theorem qH{a b:Nat}(h:Nat.beq a b=true):a=b:=Nat.eq_of_beq_eq_true h
theorem vH(b o' j:Nat):(some (⟨b,o',none⟩:Addr)).map (·.add j)=some ⟨b,o'+j,none⟩:=by simp[qG]
def ad'(ad:Option Addr)(m l s:Nat):Option Addr:=if m=l then ad else ad.map (·.add (l*s))
theorem qMt{cs:List T}{ad:Option Addr}{lo hi m n s:Nat}(hmx:m≤maxLen)(h1:lo≤hi)(h2:hi≤m)(hn:hi≤n)(hh:(n=0∧cs=[])∨∃b o,ad=some ⟨b,o,none⟩∧Cls B r b o cs):
  Rep B r (bif Nat.beq lo hi then .sl [] 0 else .sl (qX cs (lo*s)) (hi-lo)) (.slice (ad' ad m lo s) (hi-lo) (m-lo)):=by
 cases e:Nat.beq lo hi with
 | true=>
  obtain rfl:=Nat.eq_of_beq_eq_true e;rw[Nat.sub_self];exact .sl0 (Nat.le_trans (Nat.sub_le _ _) hmx)
 | false=>
  have hne:lo≠hi:=fun e'=>by subst e';simp at e
  rcases hh with⟨rfl,rfl⟩ | ⟨b,o,rfl,hc⟩
  ·omega
  ·unfold ad';rw[if_neg (by omega),vH];exact(hc.drop _).sl (by omega) (Nat.le_trans (Nat.sub_le _ _) hmx)
theorem zQg{cs:List T}{ad:Option Addr}{lo hi n s:Nat}(h1:lo≤hi)(hn:hi≤n)(hh:(n=0∧cs=[])∨∃b o,ad=some ⟨b,o,none⟩∧Cls B r b o cs):
  Rep B r (bif Nat.beq lo hi then .st [] 0 else .st (qX cs (lo*s)) (hi-lo)) (.slice (ad' ad hi lo s) (hi-lo) (hi-lo)):=by
 cases e:Nat.beq lo hi with
 | true=>
  obtain rfl:=Nat.eq_of_beq_eq_true e;rw[Nat.sub_self];exact .st0
 | false=>
  have hne:lo≠hi:=fun e'=>by subst e';simp at e
  rcases hh with⟨rfl,rfl⟩ | ⟨b,o,rfl,hc⟩
  ·omega
  ·unfold ad';rw[if_neg (by omega),vH];exact(hc.drop _).st
theorem zXf{x t:T}{lo hi s n:Nat}{v:Value}(hn:qV x=some n)(h:sV x lo hi s=some t)(hR:Rep B r x v):
  ∃ad c,v= .slice ad n c∧lo≤hi∧hi≤c∧Rep B r t (.slice (ad' ad c lo s) (hi-lo) (c-lo)):=by
 cases x with
 | sl cs m=>
  simp only[qV,Option.some.injEq]at hn;subst hn;simp only[sV]at h;cases hc:Nat.ble lo hi&&Nat.ble hi m with
  | false=>simp[hc]at h
  | true=>
   simp only[hc,cond_true,Option.some.injEq]at h;subst h;simp only[Bool.and_eq_true,Nat.ble_eq]at hc;have hmx:=hR;obtain⟨ad,c,rfl,hcap,hh⟩:=hR.slI;exact⟨ad,c,rfl,hc.1,by omega,qMt hmx.slB hc.1 (by omega) hc.2 hh⟩
 | st cs m=>
  simp only[qV,Option.some.injEq]at hn;subst hn;simp only[sV]at h;cases hc:Nat.ble lo hi&&Nat.beq hi m with
  | false=>simp[hc]at h
  | true=>
   simp only[hc,cond_true,Option.some.injEq]at h;subst h;simp only[Bool.and_eq_true,Nat.ble_eq]at hc;obtain⟨h1,h2⟩:=hc;obtain rfl:=qH h2;obtain⟨ad,rfl,hh⟩:=hR.stI;exact⟨ad,hi,rfl,h1,Nat.le_refl _,zQg h1 (Nat.le_refl _) hh⟩
 | os i o m c=>
  simp only[qV,Option.some.injEq]at hn;subst hn;simp only[sV]at h;cases hc:Nat.ble lo hi&&Nat.ble hi c with
  | false=>simp[hc]at h
  | true=>
   simp only[hc,cond_true]at h;simp only[Bool.and_eq_true,Nat.ble_eq]at hc;obtain⟨b,C,rfl,hB⟩:=hR.osI;refine⟨_,c,rfl,hc.1,hc.2,?_⟩;unfold ad';cases e:Nat.beq lo c with
   | true=>
    simp only[e,cond_true,Option.some.injEq]at h;subst h;rw[if_pos (Nat.eq_of_beq_eq_true e).symm];exact .os hB
   | false=>
    simp only[e,cond_false,Option.some.injEq]at h;subst h;rw[if_neg (fun e'=>by subst e';simp at e),vH];exact .os hB
 | og i o m=>
  simp only[qV,Option.some.injEq]at hn;subst hn;simp only[sV]at h;obtain⟨b,C,c,rfl,hB,hcap,h0⟩:=hR.ogI;have hmx:=hR.ogB;cases hc:Nat.ble lo hi&&(Nat.ble hi m&&(Nat.blt lo m&&Nat.blt 0 s))with
  | true=>
   simp only[hc,cond_true,Option.some.injEq]at h;subst h;simp only[Bool.and_eq_true,Nat.ble_eq,Nat.blt_eq]at hc;refine⟨_,c,rfl,hc.1,by omega,?_⟩
   unfold ad';rw[if_neg (by omega),vH]
   refine .og hB (by omega) (fun e=>?_) (Nat.le_trans (Nat.sub_le _ _) hmx)
   have h1:o=0:=by omega
   have h2:lo*s=0:=by omega
   have h3:lo=0:=by
    rcases Nat.mul_eq_zero.1 h2 with h | h
    ·exact h
    ·omega
   rw[h3,Nat.sub_zero];exact h0 h1
  | false=>
   simp only[hc,cond_false]at h;cases hz:Nat.beq lo 0&&Nat.beq hi 0 with
   | false=>
    simp only[hz,cond_false]at h;cases hy:Nat.beq lo hi&&Nat.ble hi m with
    | false=>simp[hy]at h
    | true=>
     simp only[hy,cond_true,Option.some.injEq]at h;subst h;simp only[Bool.and_eq_true,Nat.ble_eq]at hy;obtain rfl:=qH hy.1;refine⟨_,c,rfl,Nat.le_refl _,by omega,?_⟩
     rw[Nat.sub_self];exact .sl0 (Nat.le_trans (Nat.sub_le _ _) hmx)
   | true=>
    simp only[hz,cond_true,Option.some.injEq]at h;subst h;simp only[Bool.and_eq_true]at hz;obtain rfl:=qH hz.1;obtain rfl:=qH hz.2;refine⟨_,c,rfl,Nat.le_refl _,Nat.zero_le _,?_⟩;unfold ad';have:(if c=0 then some (⟨b,o,none⟩:Addr)else(some (⟨b,o,none⟩:Addr)).map (·.add (0*s)))=some ⟨b,o,none⟩:=by
     split
     ·rfl
     ·rw[vH];simp
    rw[this];exact .og hB (Nat.zero_le _) h0 hmx
 | v x=>
  obtain⟨rfl,_⟩:=hR.vI;unfold sV at h;split at h<;>(try (rename_i e;cases e;done))<;>(try cases h)
  rename_i e;cases e;cases hz:Nat.beq hi 0&&Nat.beq lo 0 with
  | false=>simp[hz]at h
  | true=>
   simp only[hz,cond_true,Option.some.injEq]at h;subst h;simp only[Bool.and_eq_true]at hz;obtain rfl:=qH hz.1;obtain rfl:=qH hz.2;simp only[qV,Option.some.injEq]at hn;subst hn;exact⟨none,0,rfl,Nat.le_refl _,Nat.le_refl _,.v rfl⟩
 | sn=>simp[sV]at h
 | ls g A l=>
  simp only[qV,Option.some.injEq]at hn;subst hn;simp only[sV]at h;cases hc:Nat.beq s A.size&&(Nat.ble lo hi&&Nat.ble hi l.length)with
  | false=>simp[hc]at h
  | true=>
   simp only[hc,cond_true,Option.some.injEq]at h;subst h;simp only[Bool.and_eq_true,Nat.ble_eq]at hc;obtain⟨hs,h1,h2⟩:=hc;obtain rfl:=qH hs;have hR':=hR;obtain⟨ad,c,rfl,hn,hm,hh⟩:=hR.lsI;refine⟨ad,c,rfl,h1,by omega,?_⟩
   by_cases e:lo=hi
   ·subst e;rw[Nat.sub_self,List.take_zero];exact .ls ⟨_,c-lo,rfl,Nat.zero_le _,by omega,.inl rfl⟩
   ·rcases hh with rfl | ⟨b,o,rfl,_,_⟩
    ·simp at h2;omega
    ·unfold ad';rw[if_neg (by omega),vH]
     exact hR'.lsP (by omega)
 | _=>cases hn
theorem zXe{x t:T}{lo hi mx s n:Nat}{v:Value}(hn:qV x=some n)(h:nU x lo hi mx s=some t)(hR:Rep B r x v):
  ∃ad c,v= .slice ad n c∧lo≤hi∧hi≤mx∧mx≤c∧Rep B r t (.slice (ad' ad mx lo s) (hi-lo) (mx-lo)):=by
 cases x with
 | sl cs m=>
  simp only[qV,Option.some.injEq]at hn;subst hn;simp only[nU]at h;cases hc:Nat.ble lo hi&&(Nat.beq hi mx&&Nat.ble mx m)with
  | false=>simp[hc]at h
  | true=>
   simp only[hc,cond_true,Option.some.injEq]at h;subst h;simp only[Bool.and_eq_true,Nat.ble_eq]at hc;obtain⟨h1,h2,h3⟩:=hc;obtain rfl:=qH h2;obtain⟨ad,c,rfl,hcap,hh⟩:=hR.slI;exact⟨ad,c,rfl,h1,Nat.le_refl _,by omega,zQg h1 h3 hh⟩
 | st cs m=>
  simp only[qV,Option.some.injEq]at hn;subst hn;simp only[nU]at h;cases hc:Nat.ble lo hi&&(Nat.beq hi mx&&Nat.ble mx m)with
  | false=>simp[hc]at h
  | true=>
   simp only[hc,cond_true,Option.some.injEq]at h;subst h;simp only[Bool.and_eq_true,Nat.ble_eq]at hc;obtain⟨h1,h2,h3⟩:=hc;obtain rfl:=qH h2;obtain⟨ad,rfl,hh⟩:=hR.stI;exact⟨ad,m,rfl,h1,Nat.le_refl _,h3,zQg h1 h3 hh⟩
 | os i o m c=>
  simp only[qV,Option.some.injEq]at hn;subst hn;simp only[nU]at h;cases hc:Nat.ble lo hi&&(Nat.ble hi mx&&Nat.ble mx c)with
  | false=>simp[hc]at h
  | true=>
   simp only[hc,cond_true,Option.some.injEq]at h;subst h;simp only[Bool.and_eq_true,Nat.ble_eq]at hc;obtain⟨b,C,rfl,hB⟩:=hR.osI;refine⟨_,c,rfl,hc.1,hc.2.1,hc.2.2,?_⟩;unfold ad';cases e:Nat.beq lo mx with
   | true=>rw[if_pos (qH e).symm];exact .os hB
   | false=>rw[if_neg (fun e'=>by subst e';simp at e),vH];exact .os hB
 | og i o m=>
  simp only[qV,Option.some.injEq]at hn;subst hn;simp only[nU]at h;obtain⟨b,C,c,rfl,hB,hcap,h0⟩:=hR.ogI;have hmx:=hR.ogB;cases hc:Nat.ble lo hi&&(Nat.ble hi mx&&Nat.ble mx m)with
  | false=>simp[hc]at h
  | true=>
   simp only[hc,cond_true,Option.some.injEq]at h;subst h;simp only[Bool.and_eq_true,Nat.ble_eq]at hc;refine⟨_,c,rfl,hc.1,hc.2.1,by omega,?_⟩
   unfold ad';cases e:Nat.beq lo mx with
   | true=>rw[if_pos (qH e).symm];exact .os hB
   | false=>rw[if_neg (fun e'=>by subst e';simp at e),vH];exact .os hB
 | v x=>
  obtain⟨rfl,_⟩:=hR.vI;unfold nU at h;split at h<;>(try (rename_i e;cases e;done))<;>(try cases h)
  rename_i e;cases e;cases hz:Nat.beq hi 0&&(Nat.beq lo 0&&Nat.beq mx 0)with
  | false=>simp[hz]at h
  | true=>
   simp only[hz,cond_true,Option.some.injEq]at h;subst h;simp only[Bool.and_eq_true]at hz;obtain rfl:=qH hz.1;obtain rfl:=qH hz.2.1;obtain rfl:=qH hz.2.2;simp only[qV,Option.some.injEq]at hn;subst hn;exact⟨none,0,rfl,Nat.le_refl _,Nat.le_refl _,Nat.le_refl _,.v rfl⟩
 | sn=>simp[nU]at h
 | ls g A l=>
  simp only[qV,Option.some.injEq]at hn;subst hn;simp only[nU]at h;cases hc:(Nat.beq lo hi&&Nat.beq hi mx)&&Nat.ble mx l.length with
  | false=>simp[hc]at h
  | true=>
   simp only[hc,cond_true,Option.some.injEq]at h;subst h;simp only[Bool.and_eq_true,Nat.ble_eq]at hc;obtain⟨⟨h1,h2⟩,h3⟩:=hc;obtain rfl:=qH h1;obtain rfl:=qH h2;obtain⟨ad,c,rfl,hn,hm,hh⟩:=hR.lsI;refine⟨ad,c,rfl,Nat.le_refl _,Nat.le_refl _,by omega,?_⟩
   rw[Nat.sub_self];exact .st0
 | _=>cases hn
theorem zMf{t:Option T}{x:T×Option TO}(h:zXj t=some x):∃q,t=some q∧x=(q,none):=by
 cases t with
 | none=>cases h
 | some q=>cases h;exact⟨q,rfl,rfl⟩
theorem qCq{lo:Option Operand}{d l:Nat}(hρ:∀x,Rep B r (ρT x) (ρ x))(h:opt ρT d lo=some l):Bd ρ d l lo:=by
 cases lo with
 | none=>simp only[opt,Option.some.injEq]at h;exact h.symm
 | some a=>exact xW h (hρ a)
theorem zWw(hρ:∀x,Rep B r (ρT x) (ρ x)){t:TypeId}{x:Operand}{lo hi mx:Option Operand}(ho:o.op= .slice t x lo hi mx){z:T×Option TO}(h:sP P t (ρT x) ρT lo hi mx=some z):Ans P w ρ o B r k z:=by
 unfold sP at h;cases he:elT P t with
 | none=>simp[he]at h
 | some e=>
  cases hl:ldT P e with
  | none=>simp[he,hl]at h
  | some gs=>
   obtain⟨g,s⟩:=gs;cases hn:qV (ρT x)with
   | none=>simp[he,hl,hn]at h
   | some n=>
    simp only[he,hl,hn]at h;cases h1:opt ρT 0 lo with
    | none=>simp[h1]at h
    | some l=>
     cases h2:opt ρT n hi with
     | none=>simp[h1,h2]at h
     | some hh=>
      have e1:=qCq hρ h1;have e2:=qCq hρ h2;cases mx with
      | none=>
       simp only[h1,h2,vE]at h;obtain⟨tu,hu,rfl⟩:=zMf h;obtain⟨ad,c,hv,k1,k2,k3⟩:=zXf hn hu (hρ x);exact⟨_,zUm (m:=c) (l:=l) (h:=hh) ho (xG he) hl hv e1 e2 rfl (fun _=>rfl) k1 (.inl k2) (Nat.le_refl _) w,k3⟩
      | some mo=>
       cases h3:wS (ρT mo)with
       | none=>cases hi<;>simp[h1,h2,h3,vE]at h
       | some m=>
        cases hi with
        | none=>simp[h1,h2,vE]at h
        | some a=>
        simp only[h1,h2,h3,vE]at h;obtain⟨tu,hu,rfl⟩:=zMf h;obtain⟨ad,c,hv,k1,k2,k3,k4⟩:=zXe hn hu (hρ x);exact⟨_,zUm (m:=m) (l:=l) (h:=hh) ho (xG he) hl hv e1 e2 (xW h3 (hρ mo)) (fun e=>nomatch e) k1 (.inl k2) k3 w,k4⟩
end
section
variable {P:Program}{E:Nat→Prop}{w0:World}{X:Hid}{F:List Nat}{H:List TO}{B:Bm}{w:World}{Y:Hid}{Mo:List (Nat×Obj)}{ρ:Operand→Value}{ρT:Operand→T}{o:Oper}{r:Rd}{k:Nat}
theorem zHo{s f a t:Nat}(h:zVw P s f=some (a,t)):∃fs x,P.underlying s=some (.struct fs)∧fs[f]?=some x∧x.offset=a∧x.type=t:=by
 unfold zVw at h;split at h
 ·rename_i fs hs;cases hx:fs[f]? with
  | none=>simp[hx]at h
  | some x=>simp only[hx,Option.some.injEq,Prod.mk.injEq]at h;exact⟨fs,x,hs,hx,h.1,h.2⟩
 ·cases h
theorem zGq(hρ:∀x,Rep B r (ρT x) (ρ x)){s:TypeId}{x:Operand}{f:Nat}(ho:o.op= .fieldAddr s x f){z:T×Option TO}(h:nP P s (ρT x) f=some z):Ans P w ρ o B r k z:=by
 have hx:=hρ x;unfold nP at h;cases hf:zVw P s f with
 | none=>simp[hf]at h
 | some at_=>
  obtain⟨a,t⟩:=at_;cases hl:ldT P t with
  | none=>simp[hf,hl]at h
  | some gs=>
   obtain⟨g,n⟩:=gs;simp only[hf,hl]at h;cases hn:Nat.beq n 0 with
   | true=>simp[hn]at h
   | false=>
    have hn0:n≠0:=fun e=>by subst e;simp at hn
    simp only[hn,cond_false]at h;obtain⟨fs,fld,h1,h2,h3,h4⟩:=zHo hf;have run:∀b q,ρ x= .pointer (some ⟨b,q,none⟩)→(execOp ρ o).run P w= .ok (.value (.pointer (some ⟨b,q+a,none⟩))) w:=fun b q hv=>by
     unfold execOp;simp only[ho,hv,Instr.fieldAt,Instr.sureAddr,fieldPlace,underlying,h1,h2,h3,h4,Sem.run_bind,Sem.run_pure,run_program,Result.andThen_ok,Gv.run_sizeOf hl,hn0,if_false,qG]
    split at h
    ·rename_i i j e;rw[e]at hx;obtain⟨b,C,hv,hB⟩:=hx.opI;exact zW h ⟨_,run _ _ hv,.op hB⟩
    ·rename_i cs e;rw[e]at hx;obtain⟨b,q,hv,hc⟩:=hx.fpI;exact zW h ⟨_,run _ _ hv,(hc.drop a).fp⟩
    ·cases h
theorem zPd{t:TypeId}{g:Bool}{s a:Nat}{vs:List Value}(hl:ldT P t=some (g,s))(hg:g=true∨((vs.drop a).take s).length=1)(hs:((vs.drop a).take s).length=s)(w:World):(part t vs.toArray a).run P w= .ok (ldV g ((vs.drop a).take s)) w:=by
 unfold part;simp only[Sem.run_bind,zIs hl,Result.andThen_ok];cases g with
 | true=>
  simp only[if_true,Sem.run_bind,Gv.run_sizeOf hl,Result.andThen_ok,Sem.run_pure,ldV,cond_true];congr 2;apply Array.ext';simp[Nat.add_sub_cancel_left]
 | false=>
  have h1:((vs.drop a).take s).length=1:=by simpa using hg
  have:s=1:=hs.symm.trans h1;subst this;have hlt:a<vs.length:=by
   rcases Nat.lt_or_ge a vs.length with h | h
   ·exact h
   ·rw[List.drop_eq_nil_of_le h]at h1;simp at h1
  have e:(vs.drop a).take 1=[vs[a]]:=by
   rw[List.drop_eq_getElem_cons hlt];rfl
  rw[e];simp[hlt,ldV,Sem.run_pure]
theorem zWv(hρ:∀x,Rep B r (ρT x) (ρ x)){s:TypeId}{x:Operand}{f:Nat}(ho:o.op= .field s x f){z:T×Option TO}(h:zKm P s (ρT x) f=some z):Ans P w ρ o B r k z:=by
 have hx:=hρ x;unfold zKm at h;cases hf:zVw P s f with
 | none=>simp[hf]at h
 | some at_=>
  obtain⟨a,t⟩:=at_;simp only[hf]at h;split at h
  ·rename_i cs e;rw[e]at hx;cases hl:ldT P t with
   | none=>simp[hl]at h
   | some gs=>
    obtain⟨g,n⟩:=gs;cases ht:jC n (qX cs a)with
    | none=>simp[hl,ht]at h
    | some us=>
     simp only[hl,ht]at h;cases hg:g||Nat.beq n 1 with
     | false=>simp[hg]at h
     | true=>
      simp only[hg,cond_true]at h;obtain⟨vs,hv,hR⟩:=hx.agI;obtain⟨h5,h6⟩:=zN.take (hR.drop a) ht;obtain⟨h7,h8⟩:=zDd h6 hg h5;obtain⟨fs,fld,h1,h2,h3,h4⟩:=zHo hf;refine zW h ⟨_,?_,h7⟩;unfold execOp;simp only[ho,hv,Instr.field,asAgg,underlying,h1,h2,h3,h4,Sem.run_bind,Sem.run_pure,run_program,Result.andThen_ok,zPd hl h8 h6]
  ·cases h
theorem zOn(hρ:∀x,Rep B r (ρT x) (ρ x)){t:TypeId}{x ix:Operand}(ho:o.op= .indexAddr t x ix){z:T×Option TO}(h:vQ P t (ρT x) (ρT ix)=some z):Ans P w ρ o B r k z:=by
 have hx:=hρ x;unfold vQ at h;cases hi:wS (ρT ix)with
 | none=>simp[hi]at h
 | some i=>
  simp only[hi]at h;obtain⟨kd,hv⟩:=xW hi (hρ ix);split at h
  ·rename_i e ht;cases hl:ldT P e with
   | none=>simp[hl]at h
   | some gs=>
    obtain⟨g,s⟩:=gs;simp only[hl]at h;have run:∀b off n c,ρ x= .slice (some ⟨b,off,none⟩) n c→i<n→(execOp ρ o).run P w= .ok (.value (.pointer (some ⟨b,off+i*s,none⟩))) w:=fun b off n c hs hlt=>qQ ho ht hs hv hl (by omega) (by omega) (by simp) w
    split at h
    ·rename_i cs n e1;rw[e1]at hx;cases hb:Nat.blt i n with
     | false=>simp[hb]at h
     | true=>
      simp only[hb,cond_true]at h;rw[Nat.blt_eq]at hb;obtain⟨ad,c,hs,_,hh⟩:=hx.slI;rcases hh with⟨rfl,_⟩ | ⟨b,off,rfl,hc⟩
      ·omega
      ·exact zW h ⟨_,run _ _ _ _ hs hb,(hc.drop _).fp⟩
    ·rename_i cs n e1;rw[e1]at hx;cases hb:Nat.blt i n with
     | false=>simp[hb]at h
     | true=>
      simp only[hb,cond_true]at h;rw[Nat.blt_eq]at hb;obtain⟨ad,hs,hh⟩:=hx.stI;rcases hh with⟨rfl,_⟩ | ⟨b,off,rfl,hc⟩
      ·omega
      ·exact zW h ⟨_,run _ _ _ _ hs hb,(hc.drop _).fp⟩
    ·rename_i j off n c e1;rw[e1]at hx;cases hb:Nat.blt i n with
     | false=>simp[hb]at h
     | true=>
      simp only[hb,cond_true]at h;rw[Nat.blt_eq]at hb;obtain⟨b,C,hs,hB⟩:=hx.osI;exact zW h ⟨_,run _ _ _ _ hs hb,.op hB⟩
    ·rename_i j off n e1;rw[e1]at hx;cases hb:Nat.blt i n with
     | false=>simp[hb]at h
     | true=>
      simp only[hb,cond_true]at h;rw[Nat.blt_eq]at hb;obtain⟨b,C,c,hs,hB,_⟩:=hx.ogI;exact zW h ⟨_,run _ _ _ _ hs hb,.op hB⟩
    ·rename_i gg A l e1;rw[e1]at hx;cases hb:Nat.beq s A.size&&Nat.blt i l.length with
     | false=>simp[hb]at h
     | true=>
      simp only[hb,cond_true]at h;simp only[Bool.and_eq_true,Nat.blt_eq]at hb;obtain rfl:=qH hb.1;obtain⟨ad,c,hs,_⟩:=hx.lsI;obtain⟨b,o,n2,c2,e2,hc⟩:=hx.lsE hb.2;rw[e2]at hs;cases hs;exact zW h ⟨_,run _ _ _ _ e2 hb.2,hc.fp⟩
    ·cases h
  ·rename_i n e ht;cases hl:ldT P e with
   | none=>simp[hl]at h
   | some gs=>
    obtain⟨g,s⟩:=gs;simp only[hl]at h;have run:∀b off,ρ x= .pointer (some ⟨b,off,none⟩)→i<n→(execOp ρ o).run P w= .ok (.value (.pointer (some ⟨b,off+i*s,none⟩))) w:=fun b off hs hlt=>by
     have c1:(0:Int)≤(i:Int):=by omega
     have c2:(i:Int)<(n:Int):=by omega
     unfold execOp;simp only[ho,hs,hv,Instr.indexAt,asIntOf,underlying,Instr.sureAddr,ht,Sem.run_bind,Sem.run_pure,run_program,Result.andThen_ok,c1,c2,and_self,if_true,Gv.run_sizeOf hl,qG,Int.toNat_natCast]
    split at h
    ·rename_i j off e1;rw[e1]at hx;cases hb:Nat.blt i n with
     | false=>simp[hb]at h
     | true=>
      simp only[hb,cond_true]at h;rw[Nat.blt_eq]at hb;obtain⟨b,C,hs,hB⟩:=hx.opI;exact zW h ⟨_,run _ _ hs hb,.op hB⟩
    ·rename_i cs e1;rw[e1]at hx;cases hb:Nat.blt i n with
     | false=>simp[hb]at h
     | true=>
      simp only[hb,cond_true]at h;rw[Nat.blt_eq]at hb;obtain⟨b,off,hs,hc⟩:=hx.fpI;exact zW h ⟨_,run _ _ hs hb,(hc.drop _).fp⟩
    ·cases h
  ·cases h
theorem qIn(hρ:∀x,Rep B r (ρT x) (ρ x)){t:TypeId}{x ix:Operand}(ho:o.op= .index t x ix){z:T×Option TO}(h:qIm P t (ρT x) (ρT ix)=some z):Ans P w ρ o B r k z:=by
 have hx:=hρ x;unfold qIm at h;cases hi:wS (ρT ix)with
 | none=>simp[hi]at h
 | some i=>
  simp only[hi]at h;obtain⟨kd,hv⟩:=xW hi (hρ ix);split at h
  ·rename_i n e ht;cases hl:ldT P e with
   | none=>simp[hl]at h
   | some gs=>
    obtain⟨g,s⟩:=gs;simp only[hl]at h;split at h
    ·rename_i cs e1;rw[e1]at hx;cases hc:Nat.blt i n&&(g||Nat.beq s 1)with
     | false=>simp[hc]at h
     | true=>
      simp only[hc,cond_true]at h;simp only[Bool.and_eq_true]at hc;cases ht':jC s (qX cs (i*s))with
      | none=>simp[ht']at h
      | some us=>
       simp only[ht']at h;obtain⟨vs,hs,hR⟩:=hx.agI;obtain⟨h5,h6⟩:=zN.take (hR.drop (i*s)) ht';obtain⟨h7,h8⟩:=zDd h6 hc.2 h5;have hlt:=hc.1;rw[Nat.blt_eq]at hlt;have c1:(0:Int)≤(i:Int):=by omega
       have c2:(i:Int)<(n:Int):=by omega
       refine zW h ⟨_,?_,h7⟩;unfold execOp;simp only[ho,hs,hv,Instr.index,asIntOf,underlying,ht,Sem.run_bind,Sem.run_pure,run_program,Result.andThen_ok,c1,c2,and_self,if_true,Gv.run_sizeOf hl,Int.toNat_natCast,zPd hl h8 h6]
    ·cases h
  ·cases h
theorem aQ:∀{ts:List T}{vs:List Value}{cs:List T}{c:List Value}(o:Nat),zN B r ts vs→zN B r cs c→zN B r (jE cs o ts) ((vs.zipIdx o).foldl (fun c p=>c.set p.2 p.1) c)
 | [],[],_,_,_,_,h=>h
 | t::ts,v::vs,cs,c,o,k,h=>by
  simp only[jE,List.zipIdx_cons,List.foldl_cons];exact aQ (o+1) k.2 (h.put o k.1)
 | [],_::_,_,_,_,k,_=>k.elim
 | _::_,[],_,_,_,k,_=>k.elim
theorem zHs(off:Nat):∀(l:List (Value×Nat))(c:Array Value),(l.foldl (fun cs p=>cs.setIfInBounds (off+p.2) p.1) c).toList=(l.map fun p=>(p.1,off+p.2)).foldl (fun c p=>c.set p.2 p.1) c.toList
 | [],_=>rfl
 | p::l,c=>by
  simp only[List.foldl_cons,List.map_cons];rw[zHs off l];simp
theorem zVf(off:Nat):∀(l:List Value)(k:Nat),((l.zipIdx k).map fun p=>(p.1,off+p.2))=l.zipIdx (off+k)
 | [],_=>rfl
 | x::l,k=>by
  simp only[List.zipIdx_cons,List.map_cons,zVf off l (k+1)];rfl
theorem qGg(off:Nat)(v c:Array Value):(v.zipIdx.foldl (fun cs(p:Value×Nat)=>cs.setIfInBounds (off+p.2) p.1) c).toList=(v.toList.zipIdx off).foldl (fun c p=>c.set p.2 p.1) c.toList:=by
 rw[←Array.foldl_toList,zHs,Array.toList_zipIdx,zVf];rfl
theorem zJm{pl:Nat→Option (Nat×Nat)}(hρ:∀x,Rep B r (ρT x) (ρ x)):∀(ps:List (Nat×Operand)){cs us:List T}{c:Array Value},zN B r cs c.toList→zCa pl cs (ps.map fun p=>(p.1,ρT p.2))=some us→∃c',Instr.fill pl c (ps.map fun p=>(p.1,ρ p.2))=some c'∧zN B r us c'.toList
 | [],cs,us,c,h,e=>by
  simp only[List.map_nil,zCa,Option.some.injEq]at e;subst e;exact⟨c,rfl,h⟩
 | (i,x)::ps,cs,us,c,h,e=>by
  simp only[List.map_cons,zCa]at e;cases hp:pl i with
  | none=>simp[hp]at e
  | some os=>
   obtain⟨off,s⟩:=os;simp only[hp]at e;cases hc:!isU (ρT x)&&(Nat.beq (ln (cellsOf (ρT x))) s&&Nat.ble (off+s) (ln cs))with
   | false=>simp[hc]at e
   | true=>
    simp only[hc,cond_true]at e;simp only[Bool.and_eq_true,Bool.not_eq_true',Nat.ble_eq,qL]at hc;have hx:=(hρ x).cells (qAq hc.1);have h1:(ρ x).cells.size=s:=by rw[←qH hc.2.1,hx.length];simp
    have h2:off+s≤c.size:=by
     have:=hc.2.2;rw[h.length]at this;simpa using this
    have hstep:=aQ off hx h;rw[←qGg]at hstep;obtain⟨c',h3,h4⟩:=zJm hρ ps hstep e;refine⟨c',?_,h4⟩;simp only[List.map_cons,Instr.fill,hp];rw[if_neg (by simp[h1];omega)]
    exact h3
theorem zPe(w:World):∀{l:List Field}{q:List (Nat×Nat)},zRn P l=some q→(l.mapM fun f=>(do pure (f.offset,←sizeOf f.type):Sem (Nat×Nat))).run P w= .ok q w
 | [],q,h=>by simp only[zRn,Option.some.injEq]at h;subst h;rfl
 | f::l,q,h=>by
  simp only[zRn]at h;cases hl:ldT P f.type with
  | none=>simp[hl]at h
  | some gs=>
   obtain⟨g,s⟩:=gs;cases hq:zRn P l with
   | none=>simp[hl,hq]at h
   | some q'=>
    simp only[hl,hq,Option.some.injEq]at h;subst h;simp only[List.mapM_cons,Sem.run_bind,Gv.run_sizeOf hl,Result.andThen_ok,Sem.run_pure,zPe w hq]
theorem zWu(hρ:∀x,Rep B r (ρT x) (ρ x)){t:TypeId}{ps:Array (Nat×Operand)}(ho:o.op= .build t ps){z:T×Option TO}(h:zRk P t (evP ρT ps)=some z):Ans P w ρ o B r k z:=by
 unfold zRk at h;cases hz:zer P t with
 | none=>simp[hz]at h
 | some zs=>
  cases hp:qDj P t with
  | none=>simp[hz,hp]at h
  | some pl=>
   simp only[hz,hp]at h;cases hf:zCa pl zs (evP ρT ps)with
   | none=>simp[hf]at h
   | some us=>
    simp only[hf]at h;obtain⟨i0,zv,h1,h2,rfl⟩:=pY hz;obtain⟨c',h3,h4⟩:=zJm hρ ps.toList (rY zv.cells.toList) hf;have hm:(ps.map fun p=>(p.1,ρ p.2)).toList=ps.toList.map fun p=>(p.1,ρ p.2):=by simp
    refine zW h ⟨.agg c',?_,by have:=Rep.mkAg h4;simpa using this⟩
    unfold qDj at hp;unfold execOp;split at hp
    ·rename_i fs hs;cases hq:zRn P fs.toList with
     | none=>simp[hq]at hp
     | some q=>
      simp only[hq,Option.some.injEq]at hp;subst hp;have hfs:fs=fs.toList.toArray:=by simp
      have h3':Instr.fill (fun x=>q.toArray[x]?) zv.cells (ps.toList.map fun p=>(p.1,ρ p.2))=some c':=by
       simpa using h3
      simp only[ho,Instr.build,Sem.run_bind,pF h1 h2,Result.andThen_ok,underlying,hs,run_program,Sem.run_pure];rw[hfs];simp only[List.mapM_toArray,Sem.run_map,zPe w hq,Result.andThen_ok,Sem.run_bind,hm];rw[h3'];rfl
    ·rename_i n e hs;cases hl:ldT P e with
     | none=>simp[hl]at hp
     | some gs=>
      obtain⟨g,s⟩:=gs;simp only[hl,Option.some.injEq]at hp;subst hp;simp only[ho,Instr.build,Sem.run_bind,pF h1 h2,Result.andThen_ok,underlying,hs,run_program,Sem.run_pure,Gv.run_sizeOf hl,hm];rw[h3];rfl
    ·cases hp
def zOz(l:List Value):Nat→List Value
 | 0=>[]
 | n+1=>l++zOz l n
theorem zFo(l:List Value):∀n,zN B r (reps (l.map ofV) n) (zOz l n)
 | 0=>trivial
 | n+1=>(rY l).app (zFo l n)
theorem zPb(l:List Value):∀n,(zOz l n).length=n*l.length
 | 0=>by simp[zOz]
 | n+1=>by simp only[zOz,List.length_append,zPb l n];rw[Nat.succ_mul];omega
theorem zPa(l:List Value):∀(n j:Nat),j<n*l.length→(zOz l n)[j]?=l[j % l.length]?
 | 0,j,h=>by simp at h
 | n+1,j,h=>by
  simp only[zOz];rcases Nat.lt_or_ge j l.length with hj | hj
  ·rw[List.getElem?_append_left hj,Nat.mod_eq_of_lt hj]
  ·rw[List.getElem?_append_right hj,zPa l n _ (by rw[Nat.succ_mul]at h;omega)]
   rw[←Nat.mod_eq_sub_mod hj]
theorem zTq(z:Array Value)(n:Nat)(hz:0<z.size):(madeCells z (n*z.size)).toList=zOz z.toList n:=by
 apply List.ext_getElem?;intro j;by_cases hj:j<n*z.size
 ·rw[zPa _ _ _ (by simpa using hj)]
  have hm:j % z.size<z.size:=Nat.mod_lt _ hz;simp[madeCells,hj,hm]
 ·rw[List.getElem?_eq_none (by simp[size_madeCells];omega),List.getElem?_eq_none (by rw[zPb];simp;omega)]
theorem qDe(hρ:∀x,Rep B r (ρT x) (ρ x)){t:TypeId}{l c:Operand}(ho:o.op= .makeSlice t l c){z:T×Option TO}(h:qDd P k t (ρT l) (ρT c)=some z):Ans P w ρ o B r k z:=by
 unfold qDd at h;cases he:elT P t with
 | none=>simp[he]at h
 | some e=>
  cases hl:wS (ρT l)with
  | none=>simp[he,hl]at h
  | some nl=>
   cases hc:wS (ρT c)with
   | none=>simp[he,hl,hc]at h
   | some nc=>
    cases hz:zer P e with
    | none=>simp[he,hl,hc,hz]at h
    | some zs=>
     cases hd:ldT P e with
     | none=>simp[he,hl,hc,hz,hd]at h
     | some gs=>
      obtain⟨g,s⟩:=gs;obtain⟨i0,zv,h1,h2,rfl⟩:=pY hz;simp only[he,hl,hc,hz,hd,h1]at h;cases hcond:(Nat.ble nl nc&&Nat.ble nc 1000000)&&(Nat.ble i0.bytes 1000000&&(Nat.beq (ln (zv.cells.toList.map ofV)) s&&Nat.blt 0 s))with
      | false=>simp[hcond]at h
      | true=>
       simp only[hcond,cond_true,Option.some.injEq]at h;subst h;simp only[Bool.and_eq_true,Nat.ble_eq,Nat.blt_eq,qL,List.length_map,Array.length_toList]at hcond;obtain⟨⟨c1,c2⟩,c3,c4,c5⟩:=hcond;have c4:=qH c4;obtain⟨i1,d1,g1,_,g3,_⟩:=lF hd;rw[h1]at g1;cases g1;obtain⟨kl,vl⟩:=xW hl (hρ l);obtain⟨kc,vc⟩:=xW hc (hρ c);have hb:(i0.bytes:Int)*(nc:Int)≤281474976710656:=by
        have:i0.bytes*nc≤1000000*1000000:=Nat.mul_le_mul c3 c2;have h':((i0.bytes*nc:Nat):Int)≤281474976710656:=by omega
        rwa[Int.natCast_mul]at h'
       refine⟨0,.cells (madeCells zv.cells (nc*i0.size)) e (0,0),fun n=> .slice (some ⟨n,0,none⟩) nl nc,fun w'=>?_,rfl,.row ?_,fun b=> .os (qA _ _ _)⟩
       ·have hr:=run_make (P:=P) w' t e i0 zv (xG he) h1 h2 kl kc (nl:Int) (nc:Int) (by omega) (by omega) hb (by omega)
        unfold execOp;simp only[ho,vl,vc,hr,Sem.run_bind,Sem.run_pure,Result.andThen_ok,Int.toNat_natCast]
       ·rw[g3,←c4,zTq _ _ (by omega)]
        exact zFo _ _
theorem zFd(hρ:∀x,Rep B r (ρT x) (ρ x)){t:TypeId}{n:Nat}{ps:Array (Nat×Operand)}(ho:o.op= .buildSlice t n ps){z:T×Option TO}(h:lL P k t n (evP ρT ps)=some z):Ans P w ρ o B r k z:=by
 unfold lL at h;cases he:elT P t with
 | none=>simp[he]at h
 | some e=>
  cases hz:zer P e with
  | none=>simp[he,hz]at h
  | some zs=>
   cases hd:ldT P e with
   | none=>simp[he,hz,hd]at h
   | some gs=>
    obtain⟨g,s⟩:=gs;obtain⟨i0,zv,h1,h2,rfl⟩:=pY hz;simp only[he,hz,hd]at h;cases hcond:Nat.ble (n*s) 16777216&&(Nat.beq (ln (zv.cells.toList.map ofV)) s&&Nat.blt 0 s)with
    | false=>simp[hcond]at h
    | true=>
     simp only[hcond,cond_true]at h;simp only[Bool.and_eq_true,Nat.ble_eq,Nat.blt_eq,qL,List.length_map,Array.length_toList]at hcond;obtain⟨c1,c2,c3⟩:=hcond;have c2:=qH c2;cases hf:zCa (fun i=>some (i*s,s)) (reps (zv.cells.toList.map ofV) n) (evP ρT ps)with
     | none=>simp[hf]at h
     | some us=>
      simp only[hf,Option.some.injEq]at h;subst h;have hm0:zN B r (reps (zv.cells.toList.map ofV) n) (madeCells zv.cells (n*s)).toList:=by
       rw[←c2,zTq _ _ (by omega)];exact zFo _ _
      obtain⟨c',h3,h4⟩:=zJm hρ ps.toList hm0 hf;have hm:(ps.map fun p=>(p.1,ρ p.2)).toList=ps.toList.map fun p=>(p.1,ρ p.2):=by simp
      refine⟨0,.cells c' e (0,0),fun b=> .slice (some ⟨b,0,none⟩) n n,fun w'=>?_,rfl,.row h4,fun b=> .os (qA _ _ _)⟩;have nb:¬n*s>2^24:=by omega
      unfold execOp;simp only[ho,Instr.buildSlice,underlying,xG he,run_program,Sem.run_bind,Sem.run_pure,Result.andThen_ok,Gv.run_sizeOf hd];rw[if_neg nb];by_cases h0:n*s=0
      ·rw[if_pos h0];have hmc:(Array.range (n*s)).map (fun x=>(#[]:Array Value)[x % (#[]:Array Value).size]!)=madeCells zv.cells (n*s):=by rw[h0];simp[madeCells]
       simp only[Sem.run_bind,Sem.run_pure,Result.andThen_ok,hmc,hm,h3];rfl
      ·rw[if_neg h0];have hmc:(Array.range (n*s)).map (fun x=>zv.cells[x % zv.cells.size]!)=madeCells zv.cells (n*s):=rfl;simp only[Sem.run_bind,pF h1 h2,Sem.run_pure,Result.andThen_ok,hmc,hm,h3];rfl
theorem zUj(hH:zGh B r w H)(hρ:∀x,Rep B r (ρT x) (ρ x)){z:T×Option TO}(h:yX P H k ρT o.op=some z):Ans P w ρ o B r k z:=by
 generalize hop:o.op=op at h;cases op<;>simp only[yX]at h<;>try contradiction
 case move x=>exact zW h ⟨_,zSz (.inl hop) w,hρ x⟩
 case assign x=>exact zW h ⟨_,zSz (.inr hop) w,hρ x⟩
 case pick c a b=>exact qDf hρ hop h
 case alloc e=>exact zWs hop h
 case box e x=>exact qIl hρ hop h
 case build t ps=>exact zWu hρ hop h
 case buildSlice t n ps=>exact zFd hρ hop h
 case load t a=>exact zOo hH hρ hop h
 case nilCheck x=>exact qIq hρ hop h
 case binOp op t x y t2=>exact qIk (ρT:=fun y=>dn (ρT y)) (fun y=>(hρ y).dn) hop h
 case makeFunc fn first caps=>
  unfold pMkF at h;split at h
  ·rename_i e;obtain rfl:first=#[]:=Array.ext' (by simpa using e)
   exact zW h (zNx hρ hop)
  ·split at h
   ·rename_i e;obtain rfl:caps=#[]:=Array.ext' (by simpa using e)
    exact zW h (zKd hρ hop)
   ·cases h
  ·cases h
 case makeSlice t l c=>exact qDe hρ hop h
 case slice t x lo hi mx=>exact zWw (ρT:=fun y=>dn (ρT y)) (fun y=>(hρ y).dn) hop h
 case fieldAddr s x f=>exact zGq hρ hop h
 case field s x f=>exact zWv hρ hop h
 case indexAddr t x i=>exact zOn (ρT:=fun y=>dn (ρT y)) (fun y=>(hρ y).dn) hop h
 case index t x i=>exact qIn (ρT:=fun y=>dn (ρT y)) (fun y=>(hρ y).dn) hop h
 case extract x i=>exact zOm hρ hop h
 case call c=>exact qCz hH (ρT:=fun y=>dn (ρT y)) (fun y=>(hρ y).dn) hop h
 case lookup t m x ok=>exact zRm hH hρ hop h
 case makeMap t rs=>
  cases rs with
  | some q=>simp at h
  | none=>
   simp only[Option.some.injEq]at h;subst h;refine⟨0,.map #[] 0,fun n=> .map (some n),fun w'=>?_,rfl,.map trivial rfl rfl,fun b=> .om (qA _ _ _)⟩;unfold execOp;simp only[hop,Instr.makeMap,Option.map_none,Sem.run_bind,Sem.run_pure,newObj];rfl
end
structure FrT(n:Nat)(a:Act)(L:List T)(D:List Deferred)(B:Bm)(r:Rd):Prop where
 size:a.tmps.size=n
 reps:zN B r L a.tmps.toList
 defers:a.defers=D
section
variable {P:Program}{E:Nat→Prop}{w0:World}{X:Hid}{F:List Nat}{H:List TO}{B B':Bm}{w:World}{Y:Hid}{Mo:List (Nat×Obj)}{o:Oper}{r r':Rd}{n:Nat}{a:Act}{L:List T}{D:List Deferred}{Q:Exit→Act→World→Prop}{K:Act→World→Prop}
theorem FrT.mono(h:FrT n a L D B r)(hB:BLe B B')(hr:Le r r'):FrT n a L D B' r':=⟨h.size,h.reps.mono hB hr,h.defers⟩
theorem FrT.rep(h:FrT n a L D B r)(x:Operand):Rep B r (evO L x) (a.eval x):=by
 cases x with
 | tmp t=>
  have:=h.reps.getD t;simpa[evO,Act.eval]using this
 | const v=>exact aH v
 | global g=>exact .u
 | func f=>exact Rep.mkFn (vs:=[]) trivial
theorem FrT.put(h:FrT n a L D B r)(d:Option Nat){t:T}{v:Value}(k:Rep B r t v):FrT n (a.put d v) (dst d t L) D B r:=by
 cases d with
 | none=>exact h
 | some d=>
  refine⟨by simpa[Act.put]using h.size,?_,h.defers⟩
  have:=h.reps.put d k;simpa[Act.put,dst]using this
def vY(P:Program)(E:Nat→Prop)(w0:World)(X:Hid)(F:List Nat)(n:Nat)(D:List Deferred)(H:List TO)(L:List T)(B:Bm)(r:Rd)(K:Act→World→Prop):Prop:=
 ∀a' w' B' Y' Mo',Wd P E w0 X F H B' w' Y' Mo'→FrT n a' L D B' (rd w' Y')→BLe B B'→Le r (rd w' Y')→K a' w'
theorem qIc(hW:Wd P E w0 X F H B w Y Mo)(hF:FrT n a L D B (rd w Y)){z:T×Option TO}{s:S}(h:yX P H (ln H) (evO L) o.op=some z)(hs:zNb o.dst L H z=some s)(hk:vY P E w0 X F n D s.H s.L B (rd w Y) K):o.wp P a w K Q:=by
 have hA:=zUj (ρ:=a.eval) hW.hp hF.rep h;rw[qL]at hA;obtain⟨t,ob⟩:=z;unfold Oper.wp;cases ob with
 | none=>
  obtain⟨v,hr,hR⟩:=hA;rw[hr];simp only[zNb,Option.some.injEq]at hs;subst hs;exact hk _ _ _ _ _ hW (hF.put o.dst hR) (BLe.refl B) (Le.refl _)
 | some ob=>
  obtain⟨C,obj,vf,hr,hl,hR,hv⟩:=hA;rw[hr];simp only[zNb,Option.some.injEq]at hs;subst hs;obtain⟨hW',hB⟩:=hW.alloc hl hR;have hle:=Le.hide_new (w:=w) (Y:=Y) obj;exact hk _ _ _ _ _ hW' ((hF.mono hB hle).put o.dst ((hv _).mono (BLe.refl _) hle)) hB hle
theorem xO:∀{ts:List T}{vs:List Value}{cs:List T}{c:Array Value}(o:Nat),zN B r ts vs→zN B r cs c.toList→zN B r (jE cs o ts) (jM c o vs).toList
 | [],[],_,_,_,_,h=>h
 | t::ts,v::vs,cs,c,o,k,h=>by
  simp only[jE,jM];refine xO (o+1) k.2 ?_;have:=h.put o k.1;simpa using this
 | [],_::_,_,_,_,k,_=>k.elim
 | _::_,[],_,_,_,k,_=>k.elim
theorem sS(m:Nat):∀(vs:List Value)(c:Array Value)(o:Nat),(jM c o vs).toList.take m=(jM (c.toList.take m).toArray o vs).toList
 | [],c,o=>by simp[jM]
 | v::vs,c,o=>by
  simp only[jM];rw[sS m vs];congr 2;simp[List.take_set]
theorem qOu{t:T}{v:Value}(h:one t=true)(hR:Rep B r t v):v.oneCell'=true:=by
 cases hR<;>first | rfl | (simp[one]at h;done) | (rename_i hls;obtain⟨_,_,e,_⟩:=hls;cases e;rfl) | skip
 rename_i hsc;cases v<;>first | rfl | (simp[sc]at hsc)
theorem zDg:∀{ts:List T}{vs:List Value},kY ts=true→zN B r ts vs→∀v∈vs,v.oneCell'=true
 | [],[],_,_,v,h=>by cases h
 | t::ts,u::vs,h,k,v,hv=>by
  simp only[kY,Bool.and_eq_true]at h;rcases List.mem_cons.1 hv with rfl | hv
  ·exact qOu h.1 k.1
  ·exact zDg h.2 k.2 v hv
 | [],_::_,_,k,_,_=>k.elim
 | _::_,[],_,k,_,_=>k.elim
theorem nR:∀(ts cs:List T)(o:Nat),(jE cs o ts).length=cs.length
 | [],_,_=>rfl
 | t::ts,cs,o=>by rw[jE,nR ts,jO];simp
theorem zYx{t:T}(h:kY (cellsOf t)=true):t≠.u:=fun e=>by subst e;simp[cellsOf,kY,one]at h
theorem qOy{t:TypeId}{xa xv:Operand}(hW:Wd P E w0 X F H B w Y Mo)(hF:FrT n a L D B (rd w Y))(ho:o.op= .store t xa xv)(hd:o.dst=none){H':List TO}(h:qJd P H t (evO L xa) (evO L xv)=some H')(hk:vY P E w0 X F n D H' L B (rd w Y) K):o.wp P a w K Q:=by
 have ha:=hF.rep xa;have hv:=hF.rep xv;unfold qJd at h;split at h
 ·rename_i g m i off hl e;rw[e]at ha;cases hc:kY (cellsOf (evO L xv))&&Nat.beq (ln (cellsOf (evO L xv))) m with
  | false=>simp[hc]at h
  | true=>
   simp only[hc,cond_true]at h;simp only[Bool.and_eq_true,qL]at hc;have hcs:=hv.cells (zYx hc.1);have hm:(a.eval xv).cells.size=m:=by rw[←qH hc.2,hcs.length];simp
   obtain⟨b,C,hp,hB⟩:=ha.opI;have hone:=zDg hc.1 hcs;unfold zXc at h;rw[qR,List.getD_eq_getElem?_getD]at h;have fin:∀(o' o2:TO)(c:Array Value)(ty:TypeId),H[i]?=some o'→kV o'=true→(b,Obj.cells c ty (0,0))∈Mo→H'=H.set i o2→kV o2=true→off+(cellsOf (evO L xv)).length≤c.size→
     (∀(w':World),Le (rd w Y) (rd w' Y)→RO P B (rd w' Y) C o2 (.cells (jM c off (a.eval xv).cells.toList) ty (0,0)))→o.wp P a w K Q:=fun o' o2 c ty hi hl hmem hH hl2 hsz hR=>by
    subst hH;obtain⟨q,hq⟩:=List.getElem?_of_mem hmem;have hql:q<Mo.length:=(List.getElem?_eq_some_iff.1 hq).1;have hq2:(Mo++kE F)[q]?=some (b,.cells c ty (0,0)):=by rw[List.getElem?_append_left hql];exact hq
    obtain⟨w',hr,e1,e2,e3,e4,e5,e6⟩:=yG P (a.eval xv).cells.toList c w off 0 (hW.heap hmem) hone (by rw[hcs.length]at hsz;simpa using hsz)
    rw[Nat.add_zero]at e5;have hS:=hW.st.set q _ hq2 (Nat.le_of_eq e4.symm) e1 e2 e3 e5 (fun k _ hk=>e6 k hk);rw[List.set_append_left _ _ hql]at hS;have hle:=hW.st.le_set (w':=w') q hq2 (fun k _ hk=>e6 k hk);unfold Oper.wp;have hx:(execOp a.eval o).run P w= .ok .skip w':=by
     unfold execOp;simp only[ho,hp,Instr.storeAt,Instr.sureAddr,storeVar,Sem.run_bind,Sem.run_pure,Result.andThen_ok,Gv.run_sizeOf (by assumption),hm,ne_eq,not_true_eq_false,if_false,hr]
    rw[hx];show K (a.put o.dst undef) w';rw[hd];exact hk _ _ _ _ _ (hW.set hi hl hB hq hS hle (fun cs e=>by rw[e]at hl2;cases hl2) (fun _=>hR w' hle)) (hF.mono (BLe.refl B) hle) (BLe.refl B) hle
   cases hi:H[i]? with
   | none=>rw[hi]at h;simp at h
   | some x=>
    rw[hi]at h;cases x with
    | row cs ty=>
     simp only[Option.getD_some]at h;cases hz:Nat.ble (off+ln (cellsOf (evO L xv))) (ln cs)with
     | false=>simp[hz]at h
     | true=>
      simp only[hz,cond_true,Option.some.injEq,jO]at h;rw[Nat.ble_eq,qL,qL]at hz;obtain⟨b',C',ob,g1,g2,g3⟩:=hW.ob i _ hi rfl;rw[hB]at g1;cases g1;cases g3 with
      | @row _ _ c hR=>
       exact fin _ (.row (jE cs off (cellsOf (evO L xv))) ty) c ty hi rfl g2 h.symm rfl (by rw[hR.length]at hz;simpa using hz) fun w' hle=> .row (xO off (hcs.mono (BLe.refl B) hle) (hR.mono (BLe.refl B) hle))
    | gro cs ty=>
     simp only[Option.getD_some]at h;cases hz:Nat.ble (off+ln (cellsOf (evO L xv))) (ln cs.list)with
     | false=>simp[hz]at h
     | true=>
      simp only[hz,cond_true,Option.some.injEq,jO]at h;rw[Nat.ble_eq,qL,qL]at hz;obtain⟨b',C',ob,g1,g2,g3⟩:=hW.ob i _ hi rfl;rw[hB]at g1;cases g1;cases g3 with
      | @gro _ _ c i0 q1 q2 q3 hR=>
       have hlen:cs.list.length≤c.size:=by
        have:=hR.length;simp at this;omega
       refine fin _ (.gro (.l (jE cs.list off (cellsOf (evO L xv)))) ty) c ty hi rfl g2 h.symm rfl (by omega) fun w' hle=> .gro q1 (by rw[sU];exact q2) q3 ?_
       show zN B _ (jE cs.list off (cellsOf (evO L xv))) (List.take (jE cs.list off (cellsOf (evO L xv))).length _);rw[nR,sS];exact xO off (hcs.mono (BLe.refl B) hle) (by simpa using hR.mono (BLe.refl B) hle)
    | _=>simp at h
 ·cases h
theorem Wd.sto{i off b C:Nat}{ts:List T}{vs:List Value}{H':List TO}(hW:Wd P E w0 X F H B w Y Mo)(hB:B i=some (b,C))(h:zXc H i off ts=some H')(hcs:zN B (rd w Y) ts vs)(h1:kY ts=true):∃w' Mo',(storeCells ⟨b,off,none⟩ vs).run P w= .ok () w'∧Wd P E w0 X F H' B w' Y Mo'∧Le (rd w Y) (rd w' Y):=by
 have hone:=zDg h1 hcs;unfold zXc at h;rw[qR,List.getD_eq_getElem?_getD]at h;have fin:∀(o' o2:TO)(c:Array Value)(ty:TypeId),H[i]?=some o'→kV o'=true→(b,Obj.cells c ty (0,0))∈Mo→H'=H.set i o2→kV o2=true→off+ts.length≤c.size→
   (∀(w':World),Le (rd w Y) (rd w' Y)→RO P B (rd w' Y) C o2 (.cells (jM c off vs) ty (0,0)))→∃w' Mo',(storeCells ⟨b,off,none⟩ vs).run P w= .ok () w'∧Wd P E w0 X F H' B w' Y Mo'∧Le (rd w Y) (rd w' Y):=fun o' o2 c ty hi hl hmem hH hl2 hsz hR=>by
  subst hH;obtain⟨q,hq⟩:=List.getElem?_of_mem hmem;have hql:q<Mo.length:=(List.getElem?_eq_some_iff.1 hq).1;have hq2:(Mo++kE F)[q]?=some (b,.cells c ty (0,0)):=by rw[List.getElem?_append_left hql];exact hq
  obtain⟨w',hr,e1,e2,e3,e4,e5,e6⟩:=yG P vs c w off 0 (hW.heap hmem) hone (by rw[hcs.length]at hsz;simpa using hsz)
  rw[Nat.add_zero]at e5;have hS:=hW.st.set q _ hq2 (Nat.le_of_eq e4.symm) e1 e2 e3 e5 (fun k _ hk=>e6 k hk);rw[List.set_append_left _ _ hql]at hS;have hle:=hW.st.le_set (w':=w') q hq2 (fun k _ hk=>e6 k hk);exact⟨w',_,hr,hW.set hi hl hB hq hS hle (fun cs e=>by rw[e]at hl2;cases hl2) (fun _=>hR w' hle),hle⟩
 cases hi:H[i]? with
 | none=>rw[hi]at h;simp at h
 | some x=>
  rw[hi]at h;cases x with
  | row cs ty=>
   simp only[Option.getD_some]at h;cases hz:Nat.ble (off+ln ts) (ln cs)with
   | false=>simp[hz]at h
   | true=>
    simp only[hz,cond_true,Option.some.injEq,jO]at h;rw[Nat.ble_eq,qL,qL]at hz;obtain⟨b',C',ob,g1,g2,g3⟩:=hW.ob i _ hi rfl;rw[hB]at g1;cases g1;cases g3 with
    | @row _ _ c hR=>
     exact fin _ (.row (jE cs off ts) ty) c ty hi rfl g2 h.symm rfl (by rw[hR.length]at hz;simpa using hz) fun w' hle=> .row (xO off (hcs.mono (BLe.refl B) hle) (hR.mono (BLe.refl B) hle))
  | gro cs ty=>
   simp only[Option.getD_some]at h;cases hz:Nat.ble (off+ln ts) (ln cs.list)with
   | false=>simp[hz]at h
   | true=>
    simp only[hz,cond_true,Option.some.injEq,jO]at h;rw[Nat.ble_eq,qL,qL]at hz;obtain⟨b',C',ob,g1,g2,g3⟩:=hW.ob i _ hi rfl;rw[hB]at g1;cases g1;cases g3 with
    | @gro _ _ c i0 q1 q2 q3 hR=>
     have hlen:cs.list.length≤c.size:=by
      have:=hR.length;simp at this;omega
     refine fin _ (.gro (.l (jE cs.list off ts)) ty) c ty hi rfl g2 h.symm rfl (by omega) fun w' hle=> .gro q1 (by rw[sU];exact q2) q3 ?_
     show zN B _ (jE cs.list off ts) (List.take (jE cs.list off ts).length _);rw[nR,sS];exact xO off (hcs.mono (BLe.refl B) hle) (by simpa using hR.mono (BLe.refl B) hle)
  | _=>simp at h
theorem nT{b:Nat}{es:Array MapEntry}{clk:Nat}{ob:Obj}(h:w.heap[b]?=some (.map es clk)):(setObj b ob).run P w= .ok () (w.putObj b ob):=by
 simp[setObj,Sem.run,h,World.putObj]
theorem kF.app{l:List (Value×T)}{es:List MapEntry}{e:Value×T}{f:MapEntry}(h:kF B r l es)(h1:f.key=e.1)(h2:Rep B r e.2 f.val):kF B r (l++[e]) (es++[f]):=by
 induction l generalizing es with
 | nil=>cases es with
  | nil=>exact⟨h1,h2,trivial⟩
  | cons=>exact h.elim
 | cons x l ih=>cases es with
  | nil=>exact h.elim
  | cons y es=>exact⟨h.1,h.2.1,ih h.2.2⟩
theorem kF.put:∀{l:List (Value×T)}{es:List MapEntry}(j:Nat){e:Value×T}{v:Value},kF B r l es→Rep B r e.2 v→kF B r (Ev.put e l j) (es.modify j fun f=>{f with key:=e.1,val:=v})
 | [],[],_,_,_,_,_=>by simp[qIv,kF]
 | x::l,y::es,0,e,v,h,k=>by simpa[zOt]using⟨rfl,k,h.2.2⟩
 | x::l,y::es,j+1,e,v,h,k=>by simpa[zFm]using⟨h.1,h.2.1,kF.put j h.2.2 k⟩
 | [],_::_,_,_,_,h,_=>h.elim
 | _::_,[],_,_,_,h,_=>h.elim
theorem qOz{t:TypeId}{xm xk xv:Operand}(hW:Wd P E w0 X F H B w Y Mo)(hF:FrT n a L D B (rd w Y))(ho:o.op= .mapUpdate t xm xk xv)(hd:o.dst=none){H':List TO}(h:qJk P H t (evO L xm) (evO L xk) (evO L xv)=some H')(hk:vY P E w0 X F n D H' L B (rd w Y) K):o.wp P a w K Q:=by
 have hm:=hF.rep xm;have hv:=hF.rep xv;unfold qJk at h;split at h
 ·rename_i i em;rw[em]at hm;split at h
  ·rename_i l hn;split at h
   ·rename_i kt vt kv ht hs;have hu:=rU ht;have hx:=zKu hs (hF.rep xk);cases hup:qQy P kt kv (evO L xv) l with
    | none=>simp[hup]at h
    | some l2=>
     simp only[hup,Option.some.injEq,jO]at h;subst h;rw[qR,List.getD_eq_getElem?_getD]at hn;have hi:H[i]?=some (.map l):=by
      cases hi:H[i]? with
      | none=>rw[hi]at hn;cases hn
      | some x=>rw[hi]at hn;simp at hn;rw[hn]
     obtain⟨b,C,hmv,hB⟩:=hm.omI;obtain⟨b',C',ob,g1,g2,g3⟩:=hW.ob i _ hi rfl;rw[hB]at g1;cases g1;cases g3 with
     | @map _ es clk hme hclk hborn=>
      have hb:=hW.heap g2;obtain⟨q,hq⟩:=List.getElem?_of_mem g2;have hql:q<Mo.length:=(List.getElem?_eq_some_iff.1 hq).1;have hq2:(Mo++kE F)[q]?=some (b,.map es clk):=by rw[List.getElem?_append_left hql];exact hq
      have fin:∀(es2:Array MapEntry)(clk2:Nat),kF B (rd w Y) l2 es2.toList→clk2=es2.size→es2.toList.map (·.born)=List.range es2.size→(Instr.mapUpdate t (.map (some b)) kv (a.eval xv)).run P w= .ok () (w.putObj b (.map es2 clk2))→o.wp P a w K Q:=fun es2 clk2 hR J2 hb2 hrun=>by
       obtain⟨hS,hle⟩:=hW.st.putObj (o':= .map es2 clk2) q hq2;rw[List.set_append_left _ _ hql]at hS;have hW2:=hW.set hi rfl hB hq hS hle (o':= .map l2) (fun cs e=>by cases e) (fun _=> .map (hR.mono (BLe.refl B) hle) J2 hb2)
       have hx2:(execOp a.eval o).run P w= .ok .skip (w.putObj b (.map es2 clk2)):=by
        unfold execOp;simp only[ho,hmv,hx,Sem.run_bind,hrun,Result.andThen_ok,Sem.run_pure]
       unfold Oper.wp;rw[hx2];show K (a.put o.dst undef) _;rw[hd];exact hk _ _ _ _ _ hW2 (hF.mono (BLe.refl B) hle) (BLe.refl B) hle
      unfold qQy at hup;cases hck:kOk P false kt kv with
      | false=>simp[hck]at hup
      | true=>
       simp only[hck,cond_true]at hup;have hck:=zNr hck w;cases hf:zHx P kt kv l with
       | none=>simp[hf]at hup
       | some y=>
        simp only[hf]at hup;rcases zNq (w:=w) hme hf with⟨rfl,hr⟩ | ⟨j,e',f',rfl,h2,h3,hr,h5,h6⟩
        ·simp only[Option.some.injEq]at hup;subst hup;refine fin (es.push {key:=kv,val:=a.eval xv,born:=clk}) (clk+1) (by simpa using hme.app (e:=(kv,evO L xv)) (f:={key:=kv,val:=a.eval xv,born:=clk}) rfl hv) (by simp[hclk]) (by
          simp only[Array.toList_push,List.map_append,hborn,List.map_cons,List.map_nil,Array.size_push,List.range_succ,hclk]) ?_
         unfold Instr.mapUpdate;simp only[underlying,hu,Sem.run_bind,Sem.run_pure,run_program,jV hb,Result.andThen_ok,hck,hr,nT hb]
        ·simp only[h2]at hup;cases hsb:Instr.sameBits 10000 e'.1 kv with
         | false=>simp[hsb]at hup
         | true=>
          simp only[hsb,cond_true,Option.some.injEq]at hup;subst hup;refine fin (es.modify j fun f=>{f with key:=kv,val:=a.eval xv}) clk (by
           have:=hme.put j (e:=(kv,evO L xv)) hv;simpa[Array.toList_modify]using this) (by simpa using hclk) (by
           have hmb:∀(l:List MapEntry)(j:Nat)(kv v:Value),(l.modify j fun f=>{f with key:=kv,val:=v}).map (·.born)=l.map (·.born):=fun l=>by
            induction l with
            | nil=>intro j kv v;simp
            | cons x l ih=>
             intro j kv v;cases j with
             | zero=>simp
             | succ j=>simp[ih]
           rw[Array.toList_modify,hmb,hborn];simp) ?_
          have hkey:((es[j]?).map (·.key)).getD kv=e'.1:=by
           have:es[j]?=some f':=by simpa using h3
           rw[this];simp[h5]
          unfold Instr.mapUpdate;simp only[underlying,hu,Sem.run_bind,Sem.run_pure,run_program,jV hb,Result.andThen_ok,hck,hr,hkey,Instr.keyThatStays,hsb,if_true,nT hb]
   ·cases h
  ·rename_i d hn;split at h
   ·rename_i kt vt ht;have hu:=rU ht;cases hup:qQx P kt d (evO L xk) (evO L xv)with
    | none=>simp[hup]at h
    | some d2=>
     simp only[hup,Option.some.injEq,jO]at h;subst h;rw[qR,List.getD_eq_getElem?_getD]at hn;have hi:H[i]?=some (.mapd d):=by
      cases hi:H[i]? with
      | none=>rw[hi]at hn;cases hn
      | some x=>rw[hi]at hn;simp at hn;rw[hn]
     obtain⟨b,C,hmv,hB⟩:=hm.omI;obtain⟨b',C',ob,g1,g2,g3⟩:=hW.ob i _ hi rfl;rw[hB]at g1;cases g1;cases g3 with
     | @mapd _ es clk hme hclk hborn=>
      have hb:=hW.heap g2;obtain⟨q,hq⟩:=List.getElem?_of_mem g2;have hql:q<Mo.length:=(List.getElem?_eq_some_iff.1 hq).1;have hq2:(Mo++kE F)[q]?=some (b,.map es clk):=by rw[List.getElem?_append_left hql];exact hq
      unfold qQx at hup;split at hup
      ·rename_i key y hkey hy;cases hko:xR P kt d.K with
       | false=>simp[hko]at hup
       | true=>
        simp only[hko,cond_true,Option.some.injEq]at hup;subst hup;have hx:=zTh hko (bJ hkey (hF.rep xk));have hyr:=bJ hy hv;have fin:∀(es2:Array MapEntry)(clk2:Nat),kF B (rd w Y) (MD.ents ⟨d.g,d.K,d.V,dC d.K key y d.l⟩) es2.toList→clk2=es2.size→es2.toList.map (·.born)=List.range es2.size→(Instr.mapUpdate t (.map (some b)) (kQ d.K key) (a.eval xv)).run P w= .ok () (w.putObj b (.map es2 clk2))→o.wp P a w K Q:=fun es2 clk2 hR J2 hb2 hrun=>by
         obtain⟨hS,hle⟩:=hW.st.putObj (o':= .map es2 clk2) q hq2;rw[List.set_append_left _ _ hql]at hS;have hW2:=hW.set hi rfl hB hq hS hle (o':= .mapd ⟨d.g,d.K,d.V,dC d.K key y d.l⟩) (fun cs e=>by cases e) (fun _=> .mapd (hR.mono (BLe.refl B) hle) J2 hb2)
         have hx2:(execOp a.eval o).run P w= .ok .skip (w.putObj b (.map es2 clk2)):=by
          unfold execOp;simp only[ho,hmv,hx,Sem.run_bind,hrun,Result.andThen_ok,Sem.run_pure]
         unfold Oper.wp;rw[hx2];show K (a.put o.dst undef) _;rw[hd];exact hk _ _ _ _ _ hW2 (hF.mono (BLe.refl B) hle) (BLe.refl B) hle
        obtain⟨q',hr,hf⟩:=zNd (w:=w) hko key d.l es.toList (zAm hme);rcases hf with⟨rfl,_,_,h4⟩ | ⟨j,e,f,rfl,h2,h3,h4,h5,h6,_,_,h9⟩
        ·refine fin (es.push {key:=kQ d.K key,val:=a.eval xv,born:=clk}) (clk+1) ?_ (by simp[hclk]) (by
          simp only[Array.toList_push,List.map_append,hborn,List.map_cons,List.map_nil,Array.size_push,List.range_succ,hclk]) ?_
         ·have:=hme.app (e:=(kQ d.K key,unT d.g d.V y)) (f:={key:=kQ d.K key,val:=a.eval xv,born:=clk}) rfl hyr;simpa[MD.ents,h4]using this
         ·unfold Instr.mapUpdate;simp only[underlying,hu,Sem.run_bind,Sem.run_pure,run_program,jV hb,Result.andThen_ok,fB hko,hr,nT hb]
        ·obtain rfl:=qNx hko h5;have hsb:=qAu hko e.1;refine fin (es.modify j fun f=>{f with key:=kQ d.K e.1,val:=a.eval xv}) clk ?_ (by simpa using hclk) (by
          have hmb:∀(l:List MapEntry)(j:Nat)(kv v:Value),(l.modify j fun f=>{f with key:=kv,val:=v}).map (·.born)=l.map (·.born):=fun l=>by
           induction l with
           | nil=>intro j kv v;simp
           | cons x l ih=>
            intro j kv v;cases j with
            | zero=>simp
            | succ j=>simp[ih]
          rw[Array.toList_modify,hmb,hborn];simp) ?_
         ·have:=hme.put j (e:=(kQ d.K e.1,unT d.g d.V y)) hyr;rw[jO]at this;simpa[MD.ents,h9,List.map_set,Array.toList_modify]using this
         ·have hky:((es[j]?).map (·.key)).getD (kQ d.K e.1)=kQ d.K e.1:=by
           have:es[j]?=some f:=by simpa using h3
           rw[this];simp[h4]
          unfold Instr.mapUpdate;simp only[underlying,hu,Sem.run_bind,Sem.run_pure,run_program,jV hb,Result.andThen_ok,fB hko,hr,hky,Instr.keyThatStays,hsb,if_true,nT hb,Nat.zero_add]
      ·cases hup
   ·cases h
  ·cases h
 ·cases h
end
section
variable {P:Program}{E:Nat→Prop}{w0:World}{X:Hid}{F:List Nat}{H:List TO}{B B':Bm}{w w':World}{Y Y':Hid}{Mo:List (Nat×Obj)}{o:Oper}{r r':Rd}{n:Nat}{a:Act}{L:List T}{D:List Deferred}{Q:Exit→Act→World→Prop}{K:Act→World→Prop}
theorem Wd.move(h:Wd P E w0 X F H B w Y Mo){i:Nat}{x:TO}{p:Nat×Nat}(hi:H[i]?=some x)(hl:kV x=true)(hp:B i=some p):Wd P E w0 X F (H.set i .gone++[x]) (wJ B H.length p) w Y Mo∧BLe B (wJ B H.length p):=by
 have hB:BLe B (wJ B H.length p):=BLe.set (h.nn _ (Nat.le_refl _));have hlt:i<H.length:=(List.getElem?_eq_some_iff.1 hi).1;have hget:∀(j:Nat)(y:TO),(H.set i .gone++[x])[j]?=some y→y≠.gone→(H[j]?=some y∧j≠H.length∧j≠i)∨(j=H.length∧y=x):=fun j y hy hne=>by
  rcases Nat.lt_trichotomy j H.length with hlt | rfl | hlt
  ·rw[List.getElem?_append_left (by simpa using hlt)]at hy
   by_cases e:i=j
   ·subst e;rw[List.getElem?_set_self hlt]at hy;cases hy;exact absurd rfl hne
   ·rw[List.getElem?_set_ne e]at hy;exact .inl ⟨hy,Nat.ne_of_lt hlt,fun e'=>e e'.symm⟩
  ·rw[List.getElem?_append_right (by simp)]at hy;simp at hy;exact .inr ⟨rfl,hy.symm⟩
  ·rw[List.getElem?_eq_none (by simp;omega)]at hy;cases hy
 have ng:∀{y:TO},kV y=true→y≠.gone:=fun h e=>by subst e;cases h
 refine⟨⟨h.st,fun j y hy hly=>?_,fun j cs hy=>?_,fun j hj=>?_,fun j1 j2 o1 o2 p1 p2 h1 l1 h2 l2 hp1 hp2 e=>?_,h.bN,h.iv⟩,hB⟩
 ·rcases hget j y hy (ng hly)with⟨hy,_,_⟩ | ⟨rfl,rfl⟩
  ·obtain⟨b,C,ob,g1,g2,g3⟩:=h.ob j y hy hly;exact⟨b,C,ob,hB _ _ g1,g2,g3.mono hB (Le.refl _)⟩
  ·obtain⟨b,C,ob,g1,g2,g3⟩:=h.ob i _ hi hl;rw[hp]at g1;cases g1;exact⟨b,C,ob,qA _ _ _,g2,g3.mono hB (Le.refl _)⟩
 ·rcases hget j _ hy (by simp)with⟨hy,_,_⟩ | ⟨rfl,e⟩
  ·obtain⟨b,C,g1,g2⟩:=h.fz j cs hy;exact⟨b,C,hB _ _ g1,g2.mono hB (Le.refl _)⟩
  ·subst e;cases hl
 ·simp at hj;rw[jH _ _ (by omega)]
  exact h.nn j (by omega)
 ·rcases hget j1 _ h1 (ng l1)with⟨k1,n1,m1⟩ | ⟨rfl,rfl⟩<;>rcases hget j2 _ h2 (ng l2)with⟨k2,n2,m2⟩ | ⟨rfl,rfl⟩
  ·rw[jH _ _ n1]at hp1;rw[jH _ _ n2]at hp2;exact h.inj _ _ _ _ _ _ k1 l1 k2 l2 hp1 hp2 e
  ·rw[jH _ _ n1]at hp1;rw[qA]at hp2;cases hp2;exact absurd (h.inj _ _ _ _ _ _ k1 l1 hi hl hp1 hp e) m1
  ·rw[jH _ _ n2]at hp2;rw[qA]at hp1;cases hp1;exact absurd (h.inj _ _ _ _ _ _ k2 l2 hi hl hp2 hp e.symm) m2
  ·rfl
theorem zYf{N b:Nat}(h:N≤apM b)(h0:0<N):(N+N / 4+192)*b≤281474976710656∧N≤281474976710656:=by
 unfold apM at h;have h1:N*5≤(281474976710656 / b-192)*4:=by
  have:=Nat.div_mul_le_self ((281474976710656 / b-192)*4) 5;omega
 have h2:N+N / 4+192≤281474976710656 / b:=by omega
 have h3:=Nat.mul_le_mul_right b h2;have h4:=Nat.div_mul_le_self 281474976710656 b;have h5:=Nat.div_le_self 281474976710656 b;exact⟨by omega,by omega⟩
theorem zPy{e s N:Nat}(h:bG P e s N=true){g:Bool}(hd:ldT P e=some (g,s)):∃i z,P.info? e=some i∧i.zero=some z∧i.size=s∧z.cells.size=s∧N≤apM i.bytes∧0<s:=by
 unfold bG at h;split at h
 ·rename_i i z hi hz;obtain⟨i',v,h1,h2,rfl⟩:=pY hz;rw[hi]at h1;cases h1;simp only[Bool.and_eq_true,Nat.ble_eq,Nat.blt_eq,qL,List.length_map,Array.length_toList]at h;obtain⟨i1,d1,g1,_,g3,_⟩:=lF hd;rw[hi]at g1;cases g1;exact⟨i,v,hi,h2,g3,qH h.1,h.2.1,h.2.2⟩
 ·cases h
theorem qNm{e:TypeId}{i0:TypeInfo}{z:Value}{s C N:Nat}{us:List T}{olds news:List Value}{na nb:Nat}(hi:P.info? e=some i0)(hs:i0.size=s)(hz:z.cells.size=s)(hR:zN B r us (olds++news))(h1:olds.length=na*s)(h2:news.length=nb*s)(hN:na+nb=N)(hC:N≤C)(hm:C≤maxLen):
  RO P B r C (.gro (.l us) e) (.cells (olds.toArray++news.toArray++Builtin.zeroCells z.cells (C-N)) e (0,0)):=by
 subst hN;refine .gro hi ?_ hm ?_
 ·rw[qAi z s hz olds news na nb C h1 h2 hC,hs]
 ·simp only[Array.toList_append,List.append_assoc];show zN B r us (List.take us.length _);rw[←List.append_assoc,hR.length];have:olds++news=(olds++news):=rfl;rw[List.take_left];exact hR
theorem mX{c:Call}{x y:Operand}{t:TypeId}(ho:o.op= .call c)(hc:c.callee= .builtin .append)(hx:c.args=#[x,y])(ht:c.argTypes=#[t,t]){v:Value}(hr:(Builtin.append_ #[t,t] o.type #[a.eval x,a.eval y]).run P w= .ok v w'):(execOp a.eval o).run P w= .ok (.value v) w':=by
 unfold execOp;simp only[ho,resolve,hc,hx,ht,invoke,builtin,Sem.run_bind,Sem.run_pure,Result.andThen_ok,List.map_toArray,List.map_cons,List.map_nil,hr]
theorem xB(g:Tg)(A:Ty):∀l:List A.den,(qE g A l).length=l.length*A.size
 | []=>by simp[qE]
 | x::l=>by rw[qE,List.length_append,jA,xB g A l,List.length_cons,Nat.succ_mul]
theorem zMh{c:Cs}{b:List T}{vs:List Value}(h:zN B r (c.list++b) vs):zN B r (c.app b).list vs∧(c.app b).list.length=(c.list++b).length:=by
 cases c with
 | l cs=>exact⟨h,rfl⟩
 | d g A x=>
  cases hy:rJ g A b with
  | some y=>
   have e:(Cs.d g A x).app b= .d g A (y::x):=by simp only[Cs.app,hy]
   rw[e];have h1:zN B r (qE g A x) (vs.take (qE g A x).length)∧zN B r b (vs.drop (qE g A x).length):=zN.split h;obtain⟨h2,h3⟩:=mI A hy h1.2;refine⟨?_,?_⟩
   ·show zN B r (qE g A x++qB g A y) vs;have:=h1.1.app h2;rwa[List.take_append_drop]at this
   ·show(qE g A x++qB g A y).length=(qE g A x++b).length;rw[List.length_append,List.length_append,jA,h3]
  | none=>
   have e:(Cs.d g A x).app b= .l (qE g A x++b):=by simp only[Cs.app,hy]
   rw[e];exact⟨h,rfl⟩
theorem zAp(g:Tg)(A:Ty)(x:List A.den):∀l:List A.den,qE g A (l.reverse++x)=qE g A x++yV g A l:=by
 intro l;induction l generalizing x with
 | nil=>simp[yV]
 | cons a l ih=>
  rw[List.reverse_cons,List.append_assoc,ih,yV];show qE g A x++qB g A a++yV g A l=_;rw[List.append_assoc]
theorem gQ(g:Tg)(A:Ty)(l:List A.den):qE g A l.reverse=yV g A l:=by
 have:=zAp g A [] l;simpa[qE]using this
theorem gK{g g':Tg}(h:g'.le g=true):∀(A:Ty)(x:A.den){vs:List Value},zN B r (qB g A x) vs→zN B r (qB g' A x) vs
 | .lim,_,_,h=>h
 | .int _,_,_,h=>h
 | .bool,_,_,h=>h
 | .str,_,_,h=>h
 | .list _,_,[v],hR=>by
  refine⟨?_,trivial⟩;have h1:=hR.1;cases h1 with
  | ls h1=>exact .ls (qN.mono (Le.refl _) (fun b k=>k.le h) _ _ _ h1)
 | .list _,_,[],h=>h.elim
 | .list _,_,_::_::_,h=>h.2.elim
 | .prod A C,x,vs,hR=>by
  have hs:=zN.split (ts:=qB g A x.1) (us:=qB g C x.2) hR;have:=(gK h A _ hs.1).app (gK h C _ hs.2);rwa[List.take_append_drop]at this
theorem zEd{g g':Tg}(h:g'.le g=true)(A:Ty):∀(l:List A.den){vs:List Value},zN B r (yV g A l) vs→zN B r (yV g' A l) vs
 | [],_,h=>h
 | x::l,vs,hR=>by
  have hs:=zN.split (ts:=qB g A x) (us:=yV g A l) hR;have:=(gK h A _ hs.1).app (zEd h A l hs.2);rwa[List.take_append_drop]at this
theorem zYg{c:Cs}{y:T}{b:List T}{s:Nat}{vs:List Value}(hb:zX H s y=some b)(h:zN B r (c.list++b) vs):zN B r (c.apY y b).list vs∧(c.apY y b).list.length=(c.list++b).length:=by
 unfold Cs.apY;split
 ·rename_i g A l;simp only[zX]at hb;cases hs:Nat.beq s A.size with
  | false=>simp[hs]at hb
  | true=>
   simp only[hs,cond_true,Option.some.injEq]at hb;subst hb;unfold Cs.apL;split
   ·show zN B r (qE g A l.reverse) vs∧_;rw[gQ];refine⟨h,?_⟩;show(qE g A l.reverse).length=_;rw[gQ];rfl
   ·exact⟨h,rfl⟩
   ·rename_i g' A' x;split
    ·rename_i l' hl';obtain⟨rfl,he⟩:=mJ hl';obtain rfl:=eq_of_heq he;cases hg:g'.le g with
     | false=>exact⟨h,rfl⟩
     | true=>
      rw[cond_true];have hs:=zN.split (ts:=qE g' A x) (us:=yV g A l) h;refine⟨?_,?_⟩
      ·show zN B r (qE g' A (l.reverse++x)) vs;rw[zAp];have:=hs.1.app (zEd hg A l hs.2);rwa[List.take_append_drop]at this
      ·show(qE g' A (l.reverse++x)).length=(qE g' A x++yV g A l).length;rw[zAp,List.length_append,List.length_append,gP,gP]
    ·exact⟨h,rfl⟩
 ·exact zMh h
theorem RO.apY{C s:Nat}{c:Cs}{y:T}{b:List T}{e:TypeId}{ob:Obj}(hb:zX H s y=some b)(h:RO P B r C (.gro (.l (c.list++b)) e) ob):RO P B r C (.gro (c.apY y b) e) ob:=by
 cases h with
 | gro hi hs hC h=>
  obtain⟨h1,h2⟩:=zYg hb h;refine .gro hi hs hC ?_;rw[h2];exact h1
theorem RO.app{C:Nat}{c:Cs}{b:List T}{e:TypeId}{ob:Obj}(h:RO P B r C (.gro (.l (c.list++b)) e) ob):RO P B r C (.gro (c.app b) e) ob:=by
 cases h with
 | gro hi hs hC h=>
  obtain⟨h1,h2⟩:=zMh h;refine .gro hi hs hC ?_;rw[h2];exact h1
def zXn(P:Program)(E:Nat→Prop)(w0:World)(X:Hid)(F:List Nat)(B:Bm)(w:World)(Y:Hid)(Mo:List (Nat×Obj))(us:Cs)(e:TypeId)(N:Nat)(x:T)(run:Result Value):Prop:=
  ∃C,N≤C∧C≤maxLen∧
    ((∃obj,run= .ok (.slice (some ⟨w.heap.size,0,none⟩) N C) (w.drew.alloc obj)∧RO P B (rd w.drew Y) C (.gro us e) obj)∨
     ∃i o n b cur c2 q,x= .og i o n∧B i=some (b,C)∧Mo[q]?=some (b,.cells cur e (0,0))∧run= .ok (.slice (some ⟨b,0,none⟩) N C) (w.setRow b c2)∧
      St E w0 X (w.setRow b c2) Y (Mo.set q (b,.cells c2 e (0,0))++kE F)∧Le (rd w Y) (rd (w.setRow b c2) Y)∧RO P B (rd (w.setRow b c2) Y) C (.gro us e) (.cells c2 e (0,0)))
def zJa(H:List TO)(e:TypeId)(s nx:Nat)(us:Cs)(x:T):Prop:=
 (∃v,x= .v v)∨(∃cs n,x= .st cs n)∨(∃i o n,x= .os i o n n)∨∃i,x= .og i 0 nx∧H[i]?=some (.gro us e)∧us.list.length=nx*s
theorem zMi(hW:Wd P E w0 X F H B w Y Mo){x y:T}{xv yv:Value}{t ty e:TypeId}{g:Bool}{s nx ny:Nat}{uc:Cs}{vs:List T}(hx:Rep B (rd w Y) x xv)(hy:Rep B (rd w Y) y yv)(ht:P.underlying t=some (.slice e))(hd:ldT P e=some (g,s))
  (c1:zX H s x=some uc.list) (c2:zX H s y=some vs) (c3:qV x=some nx) (c4:qV y=some ny) (hny:0<ny) (hok:bG P e s (nx+ny)=true) (hon:kY vs=true) (hb:zJa H e s nx uc x):
  zXn P E w0 X F B w Y Mo (uc.apY y vs) e (nx+ny) x ((Builtin.append_ #[t,t] ty #[xv,yv]).run P w):=by
 obtain⟨adx,cx,olds,rfl,lx,rx,sx,ax⟩:=hW.slice hx c3 c1;have cy2:=c2;obtain⟨ady,cy,news,rfl,ly,ry,sy,ay⟩:=hW.slice hy c4 c2;obtain⟨i0,z,q1,q2,q3,q4,q5,q7⟩:=zPy hok hd;have hone:=zDg hon ry;obtain⟨ya,rfl⟩:=sy (Nat.mul_ne_zero (by omega) (by omega))
 have hnews:=ay _ rfl;obtain⟨hbyt,hnn⟩:=zYf q5 (by omega)
 have hmax:nx+ny≤maxLen:=by simp only[maxLen];omega
 have hge:=grownCap_ge w (nx+ny) cx e;have hgm:=grownCap_le_maxLen w (nx+ny) cx e hmax;have y1:=(Upd.drew w).le Y;have fresh:cx<nx+ny→(adx=none→nx=0∧cx=0)→zXn P E w0 X F B w Y Mo (uc.apY y vs) e (nx+ny) x ((Builtin.append_ #[t,t] ty #[.slice adx nx cx,.slice (some ya) ny cy]).run P w):=fun hlt hnil=>by
  refine⟨grownCap w (nx+ny) cx e,hge,hgm,.inl ⟨.cells (olds.toArray++news.toArray++Builtin.zeroCells z.cells (grownCap w (nx+ny) cx e-(nx+ny))) e (0,0),?_,RO.apY cy2 (qNm q1 q3 q4 ((rx.app ry).mono (BLe.refl B) y1) lx ly rfl hge hgm)⟩⟩;cases adx with
  | none=>
   obtain⟨rfl,rfl⟩:=hnil rfl;have ho0:olds=[]:=List.eq_nil_of_length_eq_zero (by rw[lx];simp)
   subst ho0;have hr:=run_append_nil (P:=P) w t ty e i0 z ht q1 q2 ya ny cy news (by rw[q3];exact ly) hnews hny (by omega) (by have:=hbyt;simp only[Nat.zero_add]at this;exact Nat.le_trans (Nat.mul_le_mul_right _ (by omega)) this)
   simp only[Nat.zero_add];simpa using hr
  | some xa=>exact run_append_grow (P:=P) w t ty e i0 z ht q1 q2 xa nx cx olds (by rw[q3];exact lx) (ax _ rfl) ya ny cy news (by rw[q3];exact ly) hnews hlt (by omega) (growslice_fits_wide (by omega) hbyt)
 rcases hb with⟨v,rfl⟩ | ⟨cs,m,rfl⟩ | ⟨i,o',m,rfl⟩ | ⟨i,rfl,hi,hcs⟩
 ·have hv:=hx.vI.1;subst hv;have:adx=none∧nx=0∧cx=0:=by
   unfold qV at c3;split at c3<;>(try (rename_i e2;cases e2;done))<;>(try cases c3)
   rename_i e2;cases e2;exact⟨rfl,rfl,rfl⟩
  obtain⟨rfl,rfl,rfl⟩:=this;exact fresh (by omega) (fun _=>⟨rfl,rfl⟩)
 ·obtain⟨ad2,hv,hh⟩:=hx.stI;simp only[qV,Option.some.injEq]at c3;subst c3;cases hv;refine fresh (by omega) (fun e0=>?_)
  rcases hh with⟨rfl,_⟩ | ⟨b,o',e2,_⟩
  ·exact⟨rfl,rfl⟩
  ·rw[e0]at e2;cases e2
 ·obtain⟨b,C,hv,hB⟩:=hx.osI;simp only[qV,Option.some.injEq]at c3;subst c3;cases hv;exact fresh (by omega) (fun e0=>by cases e0)
 ·obtain⟨b,C,c',hv,hB,hmc,h0⟩:=hx.ogI;cases hv;obtain rfl:=h0 rfl;rcases Nat.lt_or_ge cx (nx+ny)with hroom | hroom
  ·exact fresh hroom (fun e0=>by cases e0)
  ·obtain⟨b',C',ob,g1,g2,g3⟩:=hW.ob i _ hi rfl;rw[hB]at g1;cases g1;cases g3 with
   | @gro _ _ cur i1 r1 r2 r3 hR=>
    rw[q1]at r1;cases r1;have hfit:nx*i0.size+news.length≤cur.size:=by rw[ly,q3,r2,q3,←Nat.add_mul];exact Nat.mul_le_mul_right _ hroom
    have hr:=run_append_room (P:=P) w t ty e i0 ht q1 b nx cx cur (hW.heap g2) ya ny cy news (by rw[q3];exact ly) hnews hone hroom hfit
    obtain⟨q,hq⟩:=List.getElem?_of_mem g2;have hql:q<Mo.length:=(List.getElem?_eq_some_iff.1 hq).1;have hq2:(Mo++kE F)[q]?=some (b,.cells cur e (0,0)):=by rw[List.getElem?_append_left hql];exact hq
    rw[q3]at hfit;have hrow:cur.toList.take (nx*s)=olds:=by
     have h1:=ax _ rfl;have h2:(cur.toList.take (nx*s)).length=nx*s:=by simp;omega
     refine List.ext_getElem? fun j=>?_;by_cases hj:j<nx*s
     ·have e1:olds[j]?=some olds[j]:=by simp[lx,hj]
      have h3:=h1 j _ e1;rw[qG,cell_of_row w b _ cur e _ (hW.heap g2),Nat.zero_add]at h3;rw[e1,List.getElem?_take,if_pos hj];simpa using h3
     ·rw[List.getElem?_eq_none (by omega),List.getElem?_eq_none (by omega)]
    rw[q3,hrow]at hr;generalize J2:(olds++news++cur.toList.drop (nx*s+news.length)).toArray=c2 at hr;have hS:=hW.st.set (w':=w.setRow b c2) q _ hq2 (by simp) rfl rfl rfl (setRow_heap w b cur _ e _ (hW.heap g2)) (fun k _ hk=>setRow_other w b k _ hk)
    rw[List.set_append_left _ _ hql]at hS;have hle:=hW.st.le_set (w':=w.setRow b c2) q hq2 (fun k _ hk=>setRow_other w b k _ hk);have hlen:(uc.list++vs).length=(olds++news).length:=(rx.app ry).length;refine⟨cx,hroom,r3,.inr ⟨i,0,nx,b,cur,c2,q,rfl,hB,hq,hr,hS,hle,?_⟩⟩;refine RO.apY cy2 (.gro q1 ?_ r3 ?_)
    ·rw[←r2,←J2];simp[lx];omega
    ·have e0:c2.toList.take (olds++news).length=olds++news:=by rw[←J2];exact List.take_left
     show zN B _ (uc.list++vs) (List.take (uc.list++vs).length _);rw[hlen,e0];exact(rx.app ry).mono (BLe.refl B) hle
theorem qOx{c:Call}{x y:Operand}{t t2:TypeId}(hW:Wd P E w0 X F H B w Y Mo)(hF:FrT n a L D B (rd w Y))(ho:o.op= .call c)(hc:c.callee= .builtin .copy)(hargs:c.args=#[x,y])(hts:c.argTypes=#[t,t2])
  {tv:T} {H':List TO} (h:qFs P H t (evO L x) (evO L y)=some (tv,H')) (hk:vY P E w0 X F n D H' (dst o.dst tv L) B (rd w Y) K):o.wp P a w K Q:=by
 have hx:=hF.rep x;have hy:=hF.rep y;unfold qFs at h;split at h
 ·rename_i i off nx cx ex;rw[ex]at hx;obtain⟨b,C,hvx,hB⟩:=hx.osI;cases he:elT P t with
  | none=>simp[he]at h
  | some e=>
   have ht:=xG he;cases hd:ldT P e with
   | none=>simp[he,hd]at h
   | some gs=>
    obtain⟨g,s⟩:=gs;simp only[he,hd]at h;split at h
    ·rename_i us ny c1 c2;cases hk1:jC (Nat.min ny nx*s) us with
     | none=>simp[hk1]at h
     | some qs=>
      simp only[hk1]at h;cases hz:kY qs&&Nat.blt 0 (Nat.min ny nx*s)with
      | false=>simp[hz]at h
      | true=>
       simp only[hz,cond_true]at h;simp only[Bool.and_eq_true,Nat.blt_eq]at hz;cases hs:zXc H i off qs with
       | none=>simp[hs]at h
       | some H2=>
        simp only[hs,Option.some.injEq,Prod.mk.injEq]at h;obtain⟨rfl,rfl⟩:=h;obtain⟨ady,cy,vs,ey,ly,ry,sy,ay⟩:=hW.slice hy c2 c1;have y2:Nat.min ny nx*s≤ny*s:=Nat.mul_le_mul_right s (Nat.min_le_left ny nx);obtain⟨ad,rfl⟩:=sy (by omega)
        have hR:zN B (rd w Y) qs (vs.take (Nat.min ny nx*s)):=(ry.take hk1).1;obtain⟨w',Mo',hst,hW',hle⟩:=hW.sto hB hs hR hz.1;have hl:(loadCells ad (Nat.min ny nx*s)).run P w= .ok (vs.take (Nat.min ny nx*s)).toArray w:=by
         have:=run_loadCells_list (P:=P) w ad (vs.take (Nat.min ny nx*s)) (fun j v e=>by
          rw[List.getElem?_take]at e;split at e
          ·exact ay ad rfl j v e
          ·cases e)
         rwa[List.length_take,Nat.min_eq_left (by omega)]at this
        have hsz:(sizeOf e).run P w= .ok s w:=Gv.run_sizeOf hd w;have hex:(execOp a.eval o).run P w= .ok (.value (goInt (Nat.min ny nx))) w':=by
         unfold execOp;simp only[ho,resolve,hc,hargs,hts,invoke,builtin,Sem.run_bind,Sem.run_pure,Result.andThen_ok,List.map_toArray,List.map_cons,List.map_nil,hvx,ey];simp[Builtin.copy_,run_underlying ht,Builtin.lenOf,Builtin.firstCells,hsz,hl,hst]
        unfold Oper.wp;rw[hex];exact hk _ _ _ _ _ hW' ((hF.mono (BLe.refl B) hle).put o.dst (.v rfl)) (BLe.refl B) hle
    ·cases h
 ·cases h
theorem qCf{c:Call}{x y:Operand}{t:TypeId}(hW:Wd P E w0 X F H B w Y Mo)(hF:FrT n a L D B (rd w Y))(ho:o.op= .call c)(hc:c.callee= .builtin .append)(hargs:c.args=#[x,y])(hts:c.argTypes=#[t,t])
  {tv:T} {H':List TO} (h:zPz P H t (evO L x) (evO L y)=some (tv,H')) (hk:vY P E w0 X F n D H' (dst o.dst tv L) B (rd w Y) K):o.wp P a w K Q:=by
 have hx:=hF.rep x;have hy:=hF.rep y;unfold zPz at h;cases he:elT P t with
 | none=>simp[he]at h
 | some e=>
  have ht:=xG he;cases hd:ldT P e with
  | none=>simp[he,hd]at h
  | some gs=>
   obtain⟨g,s⟩:=gs;simp only[he,hd]at h;split at h
   ·rename_i us vs nx ny c1 c2 c3 c4;cases hz:Nat.beq ny 0 with
    | true=>
     obtain⟨adx,cx,olds,ex,lx,rx,sx,ax⟩:=hW.slice hx c3 c1;obtain⟨ady,cy,news,ey,ly,ry,sy,ay⟩:=hW.slice hy c4 c2;obtain rfl:=qH hz;simp only[hz,cond_true]at h;obtain⟨i0,_,g1,_,g3,_⟩:=lF hd;have hcap:tv=evO L x∧H'=H∧nx≤cx:=by
      unfold qFd at h;split at h
      ·rename_i v e1;cases h;rw[e1]at hx;obtain⟨hv,hsc⟩:=hx.vI;rw[ex]at hv;subst hv;rw[e1]at c3;refine⟨rfl,rfl,?_⟩;unfold qV at c3;split at c3<;>(try (rename_i e2;cases e2;done))<;>(try cases c3)
       exact Nat.zero_le _
      ·rename_i i o' m e1;cases h;rw[e1]at hx c3;obtain⟨b,C,c',hv,_,hle,_⟩:=hx.ogI;simp only[qV,Option.some.injEq]at c3;subst c3;rw[ex]at hv;cases hv;exact⟨rfl,rfl,hle⟩
      ·rename_i i o' m c' e1;cases hb:Nat.ble m c' with
       | false=>simp[hb]at h
       | true=>
        simp only[hb,cond_true,Option.some.injEq,Prod.mk.injEq]at h;rw[e1]at hx c3;obtain⟨b,C,hv,_⟩:=hx.osI;simp only[qV,Option.some.injEq]at c3;subst c3;rw[ex]at hv;cases hv;rw[Nat.ble_eq]at hb;exact⟨h.1.symm,h.2.symm,hb⟩
      ·rename_i cs m e1;cases h;rw[e1]at hx c3;obtain⟨ad2,hv,_⟩:=hx.stI;simp only[qV,Option.some.injEq]at c3;subst c3;rw[ex]at hv;cases hv;exact⟨rfl,rfl,Nat.le_refl _⟩
      ·cases h
     obtain⟨rfl,rfl,hle⟩:=hcap;have hrun:(Builtin.append_ #[t,t] o.type #[a.eval x,a.eval y]).run P w= .ok (a.eval x) w:=by
      rw[ex,ey];have hf:(Builtin.firstCells s 0 (.slice ady 0 cy)).run P w= .ok #[] w:=by
       cases ady with
       | none=>rfl
       | some q=>simp[Builtin.firstCells,loadCells,Sem.run_pure,Sem.run_bind];rfl
      cases adx with
      | none=>simp[Builtin.append_,run_underlying ht,sizeOf,typeInfo,g1,g3,Builtin.lenOf,Sem.run_bind,Sem.run_pure,hf,hle]
      | some q=>simp[Builtin.append_,run_underlying ht,sizeOf,typeInfo,g1,g3,Builtin.lenOf,Sem.run_bind,Sem.run_pure,hf,hle,storeCells]
     unfold Oper.wp;rw[mX ho hc hargs hts hrun];exact hk _ _ _ _ _ hW (hF.put o.dst hx) (BLe.refl B) (Le.refl _)
    | false=>
     have hny:0<ny:=by
      rcases Nat.eq_zero_or_pos ny with h0 | h0
      ·subst h0;simp at hz
      ·exact h0
     simp only[hz,cond_false]at h;cases hok:bG P e s (nx+ny)&&kY vs with
     | false=>simp[hok]at h
     | true=>
      simp only[hok,cond_true]at h;simp only[Bool.and_eq_true]at hok;have fin:∀(uc:Cs)(H0:List TO),uc.list=us→(tv,H')=(.og (ln H) 0 (nx+ny),H0++[.gro (uc.apY (evO L y) vs) e])→zJa H e s nx uc (evO L x)→(∀(w2:World)(Y2:Hid)(B2:Bm)(M2:List (Nat×Obj)),Wd P E w0 X F (H++[.gro (uc.apY (evO L y) vs) e]) B2 w2 Y2 M2→Wd P E w0 X F (H0++[.gro (uc.apY (evO L y) vs) e]) B2 w2 Y2 M2)→
        (∀i o n,evO L x= .og i o n→H0=H.set i .gone∧∃x,H[i]?=some x∧kV x=true)→o.wp P a w K Q:=fun uc H0 hus hres hb hH0 hog=>by
       subst hus;cases hres;obtain⟨C,hC1,hC2,hA⟩:=zMi (ty:=o.type) hW hx hy ht hd c1 c2 c3 c4 hny hok.1 hok.2 hb;unfold Oper.wp;rcases hA with⟨obj,hrun,hRO⟩ | ⟨i,o',n',b,cur,c2',q,ex,hB,hq,hrun,hS,hle,hRO⟩
       ·obtain⟨hW',hBl⟩:=(hW.call (Upd.drew w)).alloc (C:=C) rfl hRO;have hle:=((Upd.drew w).le Y).trans (Le.hide_new (w:=w.drew) (Y:=Y) obj);rw[mX ho hc hargs hts hrun];refine hk _ _ _ _ _ (hH0 _ _ _ _ hW') ((hF.mono hBl hle).put o.dst ?_) hBl hle;rw[qL];exact .og (qA _ _ _) hC1 (fun _=>rfl) hC2
       ·obtain⟨rfl,x0,hi,hlx⟩:=hog _ _ _ ex;have hlt:i<H.length:=(List.getElem?_eq_some_iff.1 hi).1;have hW2:=hW.set hi hlx hB hq hS hle (fun cs e=>by cases e) (fun _=>hRO)
        obtain⟨hW3,hB3⟩:=hW2.move (i:=i) (x:= .gro (uc.apY (evO L y) vs) e) (by rw[List.getElem?_set_self hlt]) rfl hB
        rw[List.set_set,List.length_set]at hW3;rw[List.length_set]at hB3;rw[mX ho hc hargs hts hrun];refine hk _ _ _ _ _ hW3 ((hF.mono hB3 hle).put o.dst ?_) hB3 hle;rw[qL];exact .og (qA _ _ _) hC1 (fun _=>rfl) hC2
      have id0:∀(w2:World)(Y2:Hid)(B2:Bm)(M2:List (Nat×Obj)),Wd P E w0 X F (H++[.gro ((Cs.l us).apY (evO L y) vs) e]) B2 w2 Y2 M2→Wd P E w0 X F (H++[.gro ((Cs.l us).apY (evO L y) vs) e]) B2 w2 Y2 M2:=fun _ _ _ _ h=>h;unfold qFf at h;split at h
      ·rename_i v e1;exact fin (.l us) H rfl (Option.some.inj h).symm (.inl ⟨v,e1⟩) id0 (fun i o n e2=>by rw[e1]at e2;cases e2)
      ·rename_i cs m e1;exact fin (.l us) H rfl (Option.some.inj h).symm (.inr (.inl ⟨_,_,e1⟩)) id0 (fun i o n e2=>by rw[e1]at e2;cases e2)
      ·rename_i i o' m c' e1;cases hb:Nat.beq m c' with
       | false=>simp[hb]at h
       | true=>
        obtain rfl:=qH hb;simp only[hb,cond_true]at h;exact fin (.l us) H rfl (Option.some.inj h).symm (.inr (.inr (.inl ⟨_,_,_,e1⟩))) id0 (fun i o n e2=>by rw[e1]at e2;cases e2)
      ·rename_i i o' m e1;unfold qLy at h;split at h
       ·rename_i cs e' hnth;cases hb:Nat.beq o' 0&&(Nat.beq (ln cs.list) (m*s)&&Nat.beq e e')with
        | false=>simp[hb]at h
        | true=>
         simp only[hb,cond_true]at h;simp only[Bool.and_eq_true,qL]at hb;obtain rfl:=qH hb.1;have hcs:=qH hb.2.1;obtain rfl:=qH hb.2.2;rw[qR,List.getD_eq_getElem?_getD]at hnth;have hi:H[i]?=some (.gro cs e):=by
          cases hi:H[i]? with
          | none=>rw[hi]at hnth;cases hnth
          | some q=>rw[hi]at hnth;simp at hnth;rw[hnth]
         rw[e1]at c1 c3;simp only[qV,Option.some.injEq]at c3;subst c3;have hus:cs.list=us:=by
          unfold zX at c1;simp only[qR,List.getD_eq_getElem?_getD,hi,Option.getD_some,rX]at c1;obtain⟨t1,t2⟩:=aW c1;rw[t2,tT,List.drop_zero,←hcs,List.take_length]
         have hlt:i<H.length:=(List.getElem?_eq_some_iff.1 hi).1;refine fin cs (H.set i .gone) hus ?_ (.inr (.inr (.inr ⟨i,e1,hi,hcs⟩))) (fun w2 Y2 B2 M2 h2=>?_) (fun i2 o2 n2 e2=>?_)
         ·rw[←Option.some.inj h,jO]
         ·have:=h2.gone i;rwa[List.set_append_left _ _ hlt]at this
         ·rw[e1]at e2;cases e2;exact⟨rfl,_,hi,rfl⟩
       ·cases h
      ·cases h
   ·cases h
end
def Kn(P:Program)(f:Nat)(az:List T)(H:List TO)(tv:T)(H':List TO):Prop:=
 ∀(E:Nat→Prop)(w0:World)(X:Hid)(F:List Nat)(B:Bm)(w:World)(Y:Hid)(Mo:List (Nat×Obj))(qJ:List Value)(R:Ending→World→Prop),
  Wd P E w0 X F H B w Y Mo→zN B (rd w Y) az qJ→
  (∀v w' B' Y' Mo',Wd P E w0 X F H' B' w' Y' Mo'→Rep B' (rd w' Y') tv v→BLe B B'→Le (rd w Y) (rd w' Y')→R (.returned v) w')→Calls P f qJ.toArray w R
def KnY(P:Program)(l:Nat)(az:List T)(H:List TO)(tv:T)(H':List TO):Prop:=
 ∀(E:Nat→Prop)(w0:World)(X:Hid)(F:List Nat)(B:Bm)(w:World)(Y:Hid)(Mo:List (Nat×Obj))(qJ:List Value)(R:Ending→World→Prop)(b C:Nat),
  Wd P E w0 X F H B w Y Mo→zN B (rd w Y) az qJ→B l=some (b,C)→
  (∀v w' B' Y' Mo',Wd P E w0 X F H' B' w' Y' Mo'→Rep B' (rd w' Y') tv v→BLe B B'→Le (rd w Y) (rd w' Y')→R (.returned v) w')→YieldAt (FF none) 0 P b qJ.toArray w R
def yN(P:Program)(cl:Cl):Prop:=∀f az H tv H',cl f az H=some (tv,H')→Kn P f az H tv H'
def kG(P:Program)(yd:Cl):Prop:=∀l az H tv H',yd l az H=some (tv,H')→KnY P l az H tv H'
section
variable {P:Program}{E:Nat→Prop}{w0:World}{X:Hid}{F:List Nat}{H:List TO}{B B':Bm}{w w':World}{Y Y':Hid}{Mo:List (Nat×Obj)}{o:Oper}{r r':Rd}{n:Nat}{a:Act}{L:List T}{D:List Deferred}{Q:Exit→Act→World→Prop}{K:Act→World→Prop}{cl yd:Cl}{rr:Option Nat}{ops:Array Oper}{rest:List Oper}
theorem vY.mono{H:List TO}{L:List T}{r0 r1:Rd}(h:vY P E w0 X F n D H L B r0 K)(hB:BLe B B')(hr:Le r0 r1):vY P E w0 X F n D H L B' r1 K:=fun a' w' B2 Y' Mo' h1 h2 h3 h4=>h a' w' B2 Y' Mo' h1 h2 (hB.trans h3) (hr.trans h4)
theorem tX{f:Nat}(h:jF P f=true)(vs:Array Value)(w:World):(callFunc f vs).run P w= .ok (.enter f vs) w:=by
 unfold jF at h;cases hf:P.funcs[f]? with
 | none=>simp[hf]at h
 | some fn=>
  simp only[hf]at h;cases hn:fn.name== "runtime.NumGoroutine" with
  | true=>simp[hn]at h
  | false=>
   simp only[hn,cond_false]at h;have hb:fn.body.isNone=false:=by cases hb:fn.body<;>simp_all
   unfold callFunc;simp only[Sem.run_bind,run_program,Result.andThen_ok,Sem.run_pure,hf,hn,hb];rfl
theorem zVa (hF : FrT n a L D B r) {q : Bool} (h : yK ops L o = some q) : Region.wanted o (yielded ops a.tmps) = q := by
  unfold yK at h
  unfold Region.wanted
  cases hg : o.guard with
  | none => simp only [hg, Option.some.injEq] at h; simpa using h
  | some jb =>
    obtain ⟨j, b⟩ := jb
    simp only [hg] at h
    cases hj : ops[j]? with
    | none => simp [hj] at h
    | some p =>
      simp only [hj] at h
      cases hd : p.dst with
      | none => simp [hd] at h
      | some t =>
        simp only [hd] at h
        have hR := hF.reps.getD t
        have hget : ∀ v, a.tmps.toList.getD t undef = v → (∃ u, a.tmps[t]? = some u ∧ u = v) ∨ (a.tmps[t]? = none ∧ undef = v) := fun v hv => by
          rw [List.getD_eq_getElem?_getD] at hv
          cases ht : a.tmps[t]? with
          | none => have : a.tmps.toList[t]? = none := by simpa using ht
                    rw [this] at hv; exact .inr ⟨rfl, hv⟩
          | some u => have : a.tmps.toList[t]? = some u := by simpa using ht
                      rw [this] at hv; exact .inl ⟨u, rfl, hv⟩
        split at h
        · rename_i c e
          rw [e] at hR
          obtain ⟨hv, _⟩ := hR.vI
          rcases hget _ hv with ⟨u, h1, rfl⟩ | ⟨_, h2⟩
          · simp only [yielded, hj, hd, Option.bind_some, h1]
            cases h
            cases c <;> cases b <;> rfl
          · cases h2
        · cases h
        · rename_i e
          rw [e] at hR
          obtain ⟨vs, hv, hl⟩ := hR.tuI
          cases vs with
          | cons x y => exact hl.elim
          | nil =>
            cases h
            rcases hget _ hv with ⟨u, h1, rfl⟩ | ⟨h1, _⟩
            · simp only [yielded, hj, hd, Option.bind_some, h1]
              cases b <;> rfl
            · simp only [yielded, hj, hd, Option.bind_some, h1]
              cases b <;> rfl
        · cases h
theorem zEw(op:Op):yR op=kN op:=by cases op<;>rfl
theorem zAo{c:Call}{fx:Operand}{f:Nat}{cap:List Value}(ho:o.op= .call c)(hc:c.callee= .value fx)(hf:a.eval fx= .func (.func f) #[] cap.toArray)(he:jF P f=true)(w:World):
  (execOp a.eval o).run P w= .ok (.enter f ((c.args.toList.map a.eval)++cap).toArray) w:=by
 have hm:c.args.map a.eval++cap.toArray=((c.args.toList.map a.eval)++cap).toArray:=by
  apply Array.ext';simp
 unfold execOp;simp only[ho,resolve,hc,hf,Deferred.ofValue,Sem.run_bind,Sem.run_pure,Result.andThen_ok,invoke];simp only[Array.empty_append,hm];exact tX he _ w
theorem zEb{c:Call}{fx:Operand}{f:Nat}{bs:List Value}(ho:o.op= .call c)(hc:c.callee= .value fx)(hf:a.eval fx= .func (.func f) bs.toArray #[])(he:jF P f=true)(w:World):
  (execOp a.eval o).run P w= .ok (.enter f (bs++(c.args.toList.map a.eval)).toArray) w:=by
 have hm:bs.toArray++c.args.map a.eval++#[]=(bs++(c.args.toList.map a.eval)).toArray:=by
  apply Array.ext';simp
 unfold execOp;simp only[ho,resolve,hc,hf,Deferred.ofValue,Sem.run_bind,Sem.run_pure,Result.andThen_ok,invoke];simp only[hm];exact tX he _ w
theorem zQo{c:Call}{fx:Operand}{b:Nat}(ho:o.op= .call c)(hc:c.callee= .value fx)(hf:a.eval fx= .func (.yield b) #[] #[]){fn:FuncId}{tmps:Array Value}{az body:Code}(w:World)(hy:(Instr.yield b (c.args.toList.map a.eval).toArray).run P w= .ok (.round b fn tmps az body) w):
  (execOp a.eval o).run P w= .ok (.round b fn tmps az body) w:=by
 have hm:c.args.map a.eval=(c.args.toList.map a.eval).toArray:=by
  apply Array.ext';simp
 unfold execOp;simp only[ho,resolve,hc,hf,Deferred.ofValue,Sem.run_bind,Sem.run_pure,Result.andThen_ok,invoke];simp only[Array.empty_append,hm];exact hy
theorem zEz(hcl:yN P cl)(hyd:kG P yd){s':S}(h:opE P cl yd ops o ⟨L,H⟩=some s')(hn:yR o.op=true)(hW:Wd P E w0 X F H B w Y Mo)(hF:FrT n a L D B (rd w Y))
  (hk:vY P E w0 X F n D s'.H s'.L B (rd w Y) K):if Region.wanted o (yielded ops a.tmps)then o.wpIn (FF rr) 0 P a w K Q else(∀f,o.about P w a.eval=some f→(FF rr).fn f)∧K (a.put o.dst undef) w:=by
 unfold opE at h;cases hw:yK ops L o with
 | none=>simp[hw]at h
 | some q=>
  rw[zVa hF hw];have hnd:kN o.op=true:=by rw[←zEw];exact hn
  cases q with
  | false=>
   simp only[hw,Option.some.injEq]at h;subst h;simp only[Bool.false_eq_true,if_false];refine⟨fun f _=>yY rr f,hk _ _ _ _ _ hW (hF.put o.dst ?_) (BLe.refl B) (Le.refl _)⟩;exact Rep.mkTu (vs:=[]) trivial
  | true=>
   simp only[hw]at h;simp only[if_true];unfold lJ at h;cases hp:yX P H (ln H) (evO L) o.op with
   | some z=>
    simp only[hp]at h;exact zKk hnd (qIc hW hF hp h hk)
   | none=>
    simp only[hp]at h;unfold zOf at h;cases he:zAk P H (evO L) o.op with
    | some z=>
     simp only[he]at h;obtain⟨z1,z2⟩:=z;refine zKk hnd ?_;generalize hop:o.op=op at he;unfold zAk at he;split at he
     ·rename_i t xa xv;cases hs:qJd P H t (evO L xa) (evO L xv)with
      | none=>simp[hs]at he
      | some H'=>
       simp only[hs,Option.some.injEq,Prod.mk.injEq]at he;obtain⟨rfl,rfl⟩:=he;unfold zNc at h;simp only at h;cases hd:o.dst with
       | some d=>simp[hd]at h
       | none=>
        simp only[hd,Option.some.injEq]at h;subst h;exact qOy hW hF hop hd hs hk
     ·rename_i t xm xk xv;cases hs:qJk P H t (evO L xm) (evO L xk) (evO L xv)with
      | none=>simp[hs]at he
      | some H'=>
       simp only[hs,Option.some.injEq,Prod.mk.injEq]at he;obtain⟨rfl,rfl⟩:=he;unfold zNc at h;simp only at h;cases hd:o.dst with
       | some d=>simp[hd]at h
       | none=>
        simp only[hd,Option.some.injEq]at h;subst h;exact qOz hW hF hop hd hs hk
     ·rename_i c;split at he
      ·rename_i x y t t' e1 e2 e3;cases ht:Nat.beq t t' with
       | false=>simp[ht]at he
       | true=>
        obtain rfl:=qH ht;simp only[ht,cond_true]at he;cases ha:zPz P H t (evO L x) (evO L y)with
        | none=>simp[ha]at he
        | some vh=>
         obtain⟨tv,H'⟩:=vh;simp only[ha,Option.some.injEq,Prod.mk.injEq]at he;obtain⟨rfl,rfl⟩:=he;simp only[zNc,Option.some.injEq]at h;subst h;exact qCf hW hF hop e1 (Array.ext' (by simpa using e2)) (Array.ext' (by simpa using e3)) ha hk
      ·rename_i x y t t' e1 e2 e3;cases ha:qFs P H t (evO L x) (evO L y)with
       | none=>simp[ha]at he
       | some vh=>
        obtain⟨tv,H'⟩:=vh;simp only[ha,Option.some.injEq,Prod.mk.injEq]at he;obtain⟨rfl,rfl⟩:=he;simp only[zNc,Option.some.injEq]at h;subst h;exact qOx hW hF hop e1 (Array.ext' (by simpa using e2)) (Array.ext' (by simpa using e3)) ha hk
      ·cases he
     ·cases he
    | none=>
     simp only[he]at h;cases hc:opC P cl yd o.dst L H o.op with
     | none=>
      simp only[hc]at h;unfold qCd at h;cases hm:aG P (evO L) o with
      | none=>simp[hm]at h
      | some t=>
       simp only[hm,Option.some.injEq]at h;subst h;obtain⟨v,hr,hR⟩:=qBn (P:=P) (w:=w) (ρ:=a.eval) (k:=0) hF.rep hm;refine zKk hnd ?_;unfold Oper.wp;rw[hr];exact hk _ _ _ _ _ hW (hF.put o.dst hR) (BLe.refl B) (Le.refl _)
     | some s2=>
      simp only[hc,Option.some.injEq]at h;subst h;generalize hop:o.op=op at hc;unfold opC at hc;split at hc
      ·rename_i c;split at hc
       ·rename_i fx e1;have hfx:=hF.rep fx;have hargs:=zN.map hF.rep c.args.toList;unfold zBx at hc;split at hc
        ·rename_i f cs e2;rw[e2]at hfx;obtain⟨caps,hv,hcs⟩:=hfx.fnI;cases hen:jF P f with
         | false=>simp[hen]at hc
         | true=>
          simp only[hen,cond_true]at hc;cases hr:cl f (c.args.toList.map (evO L)++cs) H with
          | none=>simp[hr,mY]at hc
          | some vh=>
           obtain⟨tv,H'⟩:=vh;simp only[hr,mY,Option.some.injEq]at hc;subst hc;refine zKk hnd ?_;unfold Oper.wp;rw[zAo hop e1 hv hen w];refine hcl _ _ _ _ _ hr E w0 X F B w Y Mo _ _ hW (hargs.app hcs) fun v w' B' Y' Mo' h1 h2 h3 h4=>?_;exact hk _ _ _ _ _ h1 ((hF.mono h3 h4).put o.dst h2) h3 h4
        ·rename_i f bs e2;rw[e2]at hfx;obtain⟨vs,hv,hcs⟩:=hfx.fbI;cases hen:jF P f with
         | false=>simp[hen]at hc
         | true=>
          simp only[hen,cond_true]at hc;cases hr:cl f (bs++c.args.toList.map (evO L)) H with
          | none=>simp[hr,mY]at hc
          | some vh=>
           obtain⟨tv,H'⟩:=vh;simp only[hr,mY,Option.some.injEq]at hc;subst hc;refine zKk hnd ?_;unfold Oper.wp;rw[zEb hop e1 hv hen w];refine hcl _ _ _ _ _ hr E w0 X F B w Y Mo _ _ hW (hcs.app hargs) fun v w' B' Y' Mo' h1 h2 h3 h4=>?_;exact hk _ _ _ _ _ h1 ((hF.mono h3 h4).put o.dst h2) h3 h4
        ·rename_i l e2;rw[e2]at hfx;obtain⟨b,C,hv,hB⟩:=hfx.ylI;cases hr:yd l (c.args.toList.map (evO L)) H with
         | none=>simp[hr,mY]at hc
         | some vh=>
          obtain⟨tv,H'⟩:=vh;simp only[hr,mY,Option.some.injEq]at hc;subst hc;obtain⟨fn,tmps,az,body,hrun,hround⟩:=hyd _ _ _ _ _ hr E w0 X F B w Y Mo _ (fun e w1=>∃v,e= .returned v∧K (a.put o.dst v) w1) b C hW hargs hB
           (fun v w' B' Y' Mo' h1 h2 h3 h4=>⟨v,rfl,hk _ _ _ _ _ h1 ((hF.mono h3 h4).put o.dst h2) h3 h4⟩)
          refine⟨fun f _=>yY rr f,?_⟩;show o.uponIn (FF rr) 0 P a _ Q ((o.semAt rr a.eval).run P w);rw[lQ rr a.eval o hnd,zQo hop e1 hv w hrun];refine⟨wP rr 0,hround.mono fun e w1 he=>?_⟩;obtain⟨v,rfl,hh⟩:=he;exact hh
        ·cases hc
       ·cases hc
      ·cases hc
theorem lK(hcl:yN P cl)(hyd:kG P yd){s':S}(h:opE P cl yd ops o ⟨L,H⟩=some s')(hn:yR o.op=true)(hW:Wd P E w0 X F H B w Y Mo)(hF:FrT n a L D B (rd w Y))
  (hk:vY P E w0 X F n D s'.H s'.L B (rd w Y) (wpListIn (FF rr) 0 P ops Q rest)):wpListIn (FF rr) 0 P ops Q (o::rest) a w:=zEz hcl hyd h hn hW hF hk
end
def KnP(P:Program)(k f:Nat)(az:List T)(tv:T)(nw:Bool):Prop:=
 ∀(B:Bm)(w:World)(X:Hid)(qJ:List Value)(R:Ending→World→Prop),Iv P w→(∀i,k≤i→B i=none)→(∀b o,X b o→b<w.heap.size)→zN B (rd w X) az qJ→
  (∀v w',Upd E0 w w'→Rep B (rd w' (bif nw then old w else X)) tv v→R (.returned v) w')→Calls P f qJ.toArray w R
theorem KnP.unN{P:Program}{k f j:Nat}{az:List T}{tv:T}{nw:Bool}(h:KnP P k f (az.map (Ev.unN j)) tv nw):KnP P k f az tv nw:=fun B w X qJ R hI hk hX hR hK=>h B w X qJ R hI hk hX (hR.unN (fun _ _ h=>h) j) hK
def qF(P:Program)(O:Po):Prop:=∀f az tv nw,O f az=some (tv,nw)→∀k,KnP P k f az tv nw
section
variable {P:Program}{E:Nat→Prop}{w0:World}{X:Hid}{F:List Nat}{H:List TO}{B B':Bm}{w w':World}{Y Y':Hid}{Mo:List (Nat×Obj)}{o:Oper}{r r':Rd}{n:Nat}{a:Act}{L:List T}{D:List Deferred}{Q:Exit→Act→World→Prop}{K:Act→World→Prop}{O:Po}{rn:Rn}
theorem xF{B2:Bm}:∀(k:Nat){t:T}{v:Value},clean k t=true→Rep B r t v→Rep B2 r t v
 | 0,_,_,h,_=>by simp[clean]at h
 | k+1,t,v,h,hR=>by
  have all:∀{cs:List T},cs.all (clean k)=true→∀(j:Nat)(t:T),cs[j]?=some t→clean k t=true:=fun h j t e=>List.all_eq_true.1 h t (List.mem_of_getElem? e);cases hR with
  | u=>simp[clean]at h
  | v hs=>exact .v hs
  | sl hn f h1 g hm=>simp only[clean]at h;exact .sl hn f h1 (fun j t e=>xF k (all h j t e) (g j t e)) hm
  | sl0 hm=>exact .sl0 hm
  | st f h1 g=>simp only[clean]at h;exact .st f h1 fun j t e=>xF k (all h j t e) (g j t e)
  | st0=>exact .st0
  | fp f h1 g=>simp only[clean]at h;exact .fp f h1 fun j t e=>xF k (all h j t e) (g j t e)
  | ag f hl h1 g=>simp only[clean]at h;exact .ag f hl h1 fun j t e=>xF k (all h j t e) (g j t e)
  | tu f hl h1 g=>simp only[clean]at h;exact .tu f hl h1 fun j t e=>xF k (all h j t e) (g j t e)
  | fn f hl h1 g=>simp only[clean]at h;exact .fn f hl h1 fun j t e=>xF k (all h j t e) (g j t e)
  | @ls g _ _ _ h1=>
   simp only[clean]at h;cases g with
   | n=>cases h
   | o=>cases h
   | a=>exact .ls (qN.mono (Le.refl _) (fun b _=>Bm.In.any) _ _ _ h1)
  | _=>simp[clean]at h
theorem fJ{B2:Bm}{f:T→Option T}{r1 r2:Rd}(hf:∀t t' v,f t=some t'→Rep B r1 t v→Rep B2 r2 t' v):∀{ts ts':List T}{vs:List Value},kX f ts=some ts'→zN B r1 ts vs→zN B2 r2 ts' vs
 | [],ts',[],h,_=>by simp only[kX,Option.some.injEq]at h;subst h;trivial
 | t::ts,ts',v::vs,h,hR=>by
  simp only[kX]at h;cases h1:f t with
  | none=>simp[h1]at h
  | some x=>
   cases h2:kX f ts with
   | none=>simp[h1,h2]at h
   | some y=>
    simp only[h1,h2,Option.some.injEq]at h;subst h;exact⟨hf _ _ _ h1 hR.1,fJ hf h2 hR.2⟩
 | [],_,_::_,_,h=>h.elim
 | _::_,_,[],_,h=>h.elim
theorem zNz{f:T→Option T}:∀{ts ts':List T},kX f ts=some ts'→∀{j:Nat}{t':T},ts'[j]?=some t'→∃t,ts[j]?=some t∧f t=some t'
 | [],ts',h,j,t',e=>by simp only[kX,Option.some.injEq]at h;subst h;simp at e
 | t::ts,ts',h,j,t',e=>by
  simp only[kX]at h;cases h1:f t with
  | none=>simp[h1]at h
  | some x=>
   cases h2:kX f ts with
   | none=>simp[h1,h2]at h
   | some y=>
    simp only[h1,h2,Option.some.injEq]at h;subst h;cases j with
    | zero=>simp at e;subst e;exact⟨t,rfl,h1⟩
    | succ j=>simpa using zNz h2 (by simpa using e)
theorem Wd.ownRow(hW:Wd P E w0 X F H B w Y Mo){i b C:Nat}{cs:List T}(hB:B i=some (b,C))(h:wZ (nth .gone H i)=some cs):∃(c:Array Value)(e:TypeId),(b,Obj.cells c e (0,0))∈Mo∧zN B (rd w Y) cs (c.toList.take cs.length):=by
 rw[qR,List.getD_eq_getElem?_getD]at h;cases hi:H[i]? with
 | none=>rw[hi]at h;simp[wZ]at h
 | some x=>
  rw[hi]at h;cases x with
  | row cs' e=>
   simp only[Option.getD_some,wZ,Option.some.injEq]at h;subst h;obtain⟨b',C',ob,g1,g2,g3⟩:=hW.ob i _ hi rfl;rw[hB]at g1;cases g1;cases g3 with
   | @row _ _ c hR=>exact⟨c,e,g2,by rw[hR.length,List.take_length];exact hR⟩
  | gro cs' e=>
   simp only[Option.getD_some,wZ,Option.some.injEq]at h;subst h;obtain⟨b',C',ob,g1,g2,g3⟩:=hW.ob i _ hi rfl;rw[hB]at g1;cases g1;cases g3 with
   | @gro _ _ c i0 _ _ _ hR=>exact⟨c,e,g2,hR⟩
  | _=>simp[wZ]at h
def Ow(B:Bm)(r:Rd)(w:World)(Z:Nat→Prop)(H:List TO):Prop:=∀(i b C:Nat)(cs:List T),B i=some (b,C)→wZ (nth .gone H i)=some cs→∃(c:Array Value)(e:TypeId),w.heap[b]?=some (.cells c e (0,0))∧Z b∧zN B r cs (c.toList.take cs.length)
theorem Wd.ow(hW:Wd P E w0 X F H B w Y Mo):Ow B (rd w Y) w (fun b=>∃ob,(b,ob)∈Mo) H:=fun i b C cs hB h=>by
 obtain⟨c,e,g1,g2⟩:=hW.ownRow hB h;exact⟨c,e,hW.heap g1,⟨_,g1⟩,g2⟩
theorem qN.of_reps{B2:Bm}{g:Tg}{p:Nat→Prop}(hls:∀(A:Ty)(l:List A.den)(v:Value),Rep B r (.ls g A l) v→qN r' p (.list A) l [v]):∀(A:Ty),lG A=true→∀(y:A.den)(us:List Value),zN B r (qB g A y) us→qN r' p A y us
 | .lim,h,_,_,_=>by cases h
 | .int _,_,_,[v],h=>by obtain⟨rfl,_⟩:=h.1.vI;rfl
 | .bool,_,_,[v],h=>by obtain⟨rfl,_⟩:=h.1.vI;rfl
 | .str,_,_,[v],h=>by obtain⟨rfl,_⟩:=h.1.vI;rfl
 | .list A,_,l,[v],h=>hls A l v h.1
 | .prod A C,h,y,us,hR=>by
  simp only[lG,Bool.and_eq_true]at h;have hs:=zN.split (ts:=qB g A y.1) (us:=qB g C y.2) hR;exact⟨_,_,(List.take_append_drop (qB g A y.1).length us).symm,qN.of_reps (B2:=B2) hls A h.1 _ _ hs.1,qN.of_reps (B2:=B2) hls C h.2 _ _ hs.2⟩
 | .int _,_,_,[],h=>h.elim
 | .bool,_,_,[],h=>h.elim
 | .str,_,_,[],h=>h.elim
 | .list _,_,_,[],h=>h.elim
 | .int _,_,_,_::_::_,h=>h.2.elim
 | .bool,_,_,_::_::_,h=>h.2.elim
 | .str,_,_,_::_::_,h=>h.2.elim
 | .list _,_,_,_::_::_,h=>h.2.elim
theorem zAq(g:Tg)(A:Ty):∀(l:List A.den)(i:Nat)(y:A.den),l.reverse[i]?=some y→∀(q:Nat)(t:T),(qB g A y)[q]?=some t→(qE g A l)[i*A.size+q]?=some t
 | [],i,y,h,q,t,ht=>by simp at h
 | x::l,i,y,h,q,t,ht=>by
  have hq:q<A.size:=by rw[←jA g A y];exact(List.getElem?_eq_some_iff.1 ht).1
  rw[List.reverse_cons,List.getElem?_append]at h;split at h
  ·rename_i hi;rw[List.length_reverse]at hi;have:=zAq g A l i y h q t ht;rw[qE,List.getElem?_append_left]
   ·exact this
   ·exact(List.getElem?_eq_some_iff.1 this).1
  ·rename_i hi;rw[List.length_reverse]at hi h;have h0:i-l.length=0:=by
    have:=(List.getElem?_eq_some_iff.1 h).1;simpa using this
   rw[h0]at h;simp at h;subst h;have:i=l.length:=by omega
   subst this;rw[qE,List.getElem?_append_right (by rw[xB];exact Nat.le_add_right _ _),xB,Nat.add_sub_cancel_left]
   exact ht
theorem qGh{B2:Bm}{Z:Nat→Prop}{nw:Bool}{off m i b C c:Nat}{t:T}(h:zQp nw off m (nth .gone H i)=some t)(hB:B i=some (b,C))(hO:Ow B r w Z H)(ho:∀(b:Nat)(c:Array Value)(e:TypeId),w.heap[b]?=some (.cells c e (0,0))→Z b→∀(j:Nat)(v:Value),c[j]?=some v→r' ⟨b,j,none⟩=some v)
  (hls:∀{g:Tg},(!nw||g.isN)=true→∀(A:Ty)(l:List A.den)(v:Value),Rep B r (.ls g A l) v→qN r' (B2.In .a) (.list A) l [v]) (hc:m≤c) (hm:c≤maxLen):Rep B2 r' t (.slice (some ⟨b,off,none⟩) m c):=by
 unfold zQp at h;split at h
 ·rename_i g A x e hn;cases hz:(Nat.beq off 0&&(lG A&&(!nw||g.isN)))&&Nat.beq m x.length with
  | false=>simp[hz]at h
  | true=>
   simp only[hz,cond_true,Option.some.injEq]at h;subst h;simp only[Bool.and_eq_true]at hz;obtain⟨⟨h0,h1,h2⟩,h3⟩:=hz;obtain rfl:=Nat.eq_of_beq_eq_true h0;obtain rfl:=Nat.eq_of_beq_eq_true h3;obtain⟨cc,e',g1,gz,g3⟩:=hO i b C (qE g A x) hB (by rw[hn];rfl)
   refine .ls ⟨some ⟨b,0,none⟩,c,by simp,by simpa using hc,hm,.inr ⟨b,0,rfl,Bm.In.any,fun j y hy=>?_⟩⟩
   have hj:j<x.length:=by
    have:=(List.getElem?_eq_some_iff.1 hy).1;simpa using this
   have hlen:x.length*A.size≤cc.toList.length:=by
    have:=g3.length;rw[xB,List.length_take]at this;omega
   have hj1:(j+1)*A.size≤x.length*A.size:=Nat.mul_le_mul_right _ hj;rw[Nat.add_mul,Nat.one_mul]at hj1;have hul:((cc.toList.drop (j*A.size)).take A.size).length=A.size:=by
    rw[List.length_take,List.length_drop];omega
   have hget:∀(q:Nat)(v:Value),((cc.toList.drop (j*A.size)).take A.size)[q]?=some v→q<A.size∧cc.toList[j*A.size+q]?=some v:=fun q v hq=>by
    rw[List.getElem?_take]at hq;split at hq
    ·rename_i hlt;rw[List.getElem?_drop]at hq;exact⟨hlt,hq⟩
    ·cases hq
   refine⟨(cc.toList.drop (j*A.size)).take A.size,hul,?_,fun q v hq=>?_⟩
   ·refine qN.of_reps (B2:=B2) (hls h2) A h1 y _ (zN.of (by rw[jA,hul]) fun q t v ht hv=>?_)
    have h4:=zAq g A x j y hy q t ht;obtain⟨hlt,h5⟩:=hget q v hv;obtain⟨v',h6,h7⟩:=g3.get h4;rw[List.getElem?_take]at h6;split at h6
    ·rw[h5]at h6;cases h6;exact h7
    ·cases h6
   ·obtain⟨_,h5⟩:=hget q v hq;rw[Nat.zero_add];exact ho b cc e' g1 gz _ v (by simpa using h5)
 ·cases h
theorem zJp{B2:Bm}{Z:Nat→Prop}(hO:Ow B r w Z H){nw:Bool}(ho:∀(b:Nat)(c:Array Value)(e:TypeId),w.heap[b]?=some (.cells c e (0,0))→Z b→∀(j:Nat)(v:Value),c[j]?=some v→r' ⟨b,j,none⟩=some v)(hl:nw=false→Le r r')(hN:∀b j v,B.N≤b→r ⟨b,j,none⟩=some v→r' ⟨b,j,none⟩=some v):
  ∀(k:Nat)(t t':T)(v:Value),jI nw H k t=some t'→Rep B r t v→Rep B2 r' t' v
 | 0,t,t',v,h,_=>by simp[jI]at h
 | k+1,t,t',v,h,hR=>by
  have ih:=zJp (B2:=B2) hO ho hl hN k;have far:∀{t:T},nw=false→clean 9 t=true→Rep B r t v→Rep B2 r' t v:=fun hn hc h=>xF 9 hc (h.mono (BLe.refl B) (hl hn));have own:∀{i b C off:Nat}{cs l:List T},B i=some (b,C)→wZ (nth .gone H i)=some cs→kX (jI nw H k) (qX cs off)=some l→Cls B2 r' b off l:=fun{i b C off cs l}hB h1 h2=>by
   obtain⟨c,e,g1,gz,g2⟩:=hO _ _ _ _ hB h1;have g3:=fJ ih h2 (g2.drop off);intro j t hj;obtain⟨v,e1,e2⟩:=g3.get hj;refine⟨v,ho b c e g1 gz _ _ ?_,e2⟩;rw[List.getElem?_drop,List.getElem?_take]at e1;split at e1
   ·simpa using e1
   ·cases e1
  cases t with
  | u=>simp[jI]at h
  | om i=>simp[jI]at h
  | fb f cs=>simp[jI]at h
  | yl i=>simp[jI]at h
  | hv A l=>simp[jI]at h
  | v x=>simp only[jI,Option.some.injEq]at h;subst h;obtain⟨rfl,hs⟩:=hR.vI;exact .v hs
  | ls g A l=>
   simp only[jI]at h;cases nw with
   | false=>
    simp only[cond_false,Option.some.injEq]at h;subst h;cases hR with
    | ls hR=>exact .ls (qN.mono (hl rfl) (fun b _=>Bm.In.any) _ _ _ hR)
   | true=>
    cases g with
    | a=>simp[Tg.isN]at h
    | o=>simp[Tg.isN]at h
    | n=>
     simp only[Tg.isN,cond_true,Option.some.injEq]at h;subst h;cases hR with
     | ls hR=>exact .ls (qN.far (fun _=>Bm.In.any) hN _ _ _ (qN.mono (Le.refl _) (fun b h=>h.1 rfl) _ _ _ hR))
  | sl cs m=>
   simp only[jI]at h;cases nw with
   | true=>
    simp only[cond_true]at h;split at h
    ·cases h;obtain⟨ad,c,rfl,_,_⟩:=hR.slI;exact .sl0 hR.slB
    ·cases h
   | false=>
    simp only[cond_false]at h;cases hc:clean 9 (.sl cs m)with
    | false=>simp[hc]at h
    | true=>simp only[hc,cond_true,Option.some.injEq]at h;subst h;exact far rfl hc hR
  | sn cs m=>
   simp only[jI]at h;cases hm:kX (jI nw H k) cs with
   | none=>simp[hm]at h
   | some l=>
    simp only[hm,Option.some.injEq]at h;subst h;cases hR with
    | @sn _ _ b off c hn f h1 g hmx hb=>
     have hc:Cls B2 r' b off l:=fun j t' e=>by
      obtain⟨t,e1,e2⟩:=zNz hm e;exact⟨f j,hN _ _ _ (hb j t e1) (h1 j t e1),ih _ _ _ e2 (g j t e1)⟩
     exact hc.sl hn hmx
    | sn0 hmx=>
     simp only[kX,Option.some.injEq]at hm;subst hm;exact .sl0 hmx
  | st cs m=>
   simp only[jI]at h;cases nw with
   | true=>
    simp only[cond_true]at h;split at h
    ·cases h;obtain⟨ad,rfl,_⟩:=hR.stI;exact .st0
    ·cases h
   | false=>
    simp only[cond_false]at h;cases hc:clean 9 (.st cs m)with
    | false=>simp[hc]at h
    | true=>simp only[hc,cond_true,Option.some.injEq]at h;subst h;exact far rfl hc hR
  | fp cs=>
   simp only[jI]at h;cases nw with
   | true=>simp at h
   | false=>
    simp only[cond_false]at h;cases hc:clean 9 (.fp cs)with
    | false=>simp[hc]at h
    | true=>simp only[hc,cond_true,Option.some.injEq]at h;subst h;exact far rfl hc hR
  | ag cs=>
   simp only[jI]at h;cases hm:kX (jI nw H k) cs with
   | none=>simp[hm]at h
   | some l=>
    simp only[hm,Option.some.injEq]at h;subst h;obtain⟨vs,rfl,g⟩:=hR.agI;exact Rep.mkAg (fJ ih hm g)
  | tu cs=>
   simp only[jI]at h;cases hm:kX (jI nw H k) cs with
   | none=>simp[hm]at h
   | some l=>
    simp only[hm,Option.some.injEq]at h;subst h;obtain⟨vs,rfl,g⟩:=hR.tuI;exact Rep.mkTu (fJ ih hm g)
  | fn f cs=>
   simp only[jI]at h;cases hm:kX (jI nw H k) cs with
   | none=>simp[hm]at h
   | some l=>
    simp only[hm,Option.some.injEq]at h;subst h;obtain⟨vs,rfl,g⟩:=hR.fnI;exact Rep.mkFn (fJ ih hm g)
  | os i off m c=>
   simp only[jI]at h;cases hc:Nat.ble m c&&Nat.ble c 9223372036854775807 with
   | false=>simp[hc]at h
   | true=>
    simp only[hc,cond_true]at h;rw[Bool.and_eq_true,Nat.ble_eq,Nat.ble_eq]at hc;cases h1:wZ (nth .gone H i)with
    | none=>simp[h1]at h
    | some cs=>
     cases h2:kX (jI nw H k) (qX cs off)with
     | none=>simp[h1,h2]at h
     | some l=>
      simp only[h1,h2,Option.some.injEq]at h;subst h;obtain⟨b,C,rfl,hB⟩:=hR.osI;exact(own hB h1 h2).sl hc.1 hc.2
  | og i off m=>
   simp only[jI]at h;cases hz:zQp nw off m (nth .gone H i)with
   | some tz=>
    simp only[hz,Option.some.injEq]at h;subst h;have hR2:=hR;obtain⟨b,C,c,rfl,hBi,hcc,_⟩:=hR2.ogI;have hmx:=hR.ogB;refine qGh hz hBi hO ho (fun{g}hg A' l' v' hv=>?_) hcc hmx;cases hv with
    | ls hv=>
     cases nw with
     | false=>exact qN.mono (hl rfl) (fun b _=>Bm.In.any) _ _ _ hv
     | true=>
      cases g with
      | a=>cases hg
      | o=>cases hg
      | n=>exact qN.far (fun _=>Bm.In.any) hN _ _ _ (qN.mono (Le.refl _) (fun b h=>h.1 rfl) _ _ _ hv)
   | none=>
   simp only[hz]at h;cases h1:wZ (nth .gone H i)with
   | none=>simp[h1]at h
   | some cs=>
    cases h2:kX (jI nw H k) (qX cs off)with
    | none=>simp[h1,h2]at h
    | some l=>
     simp only[h1,h2,Option.some.injEq]at h;subst h;have hmx:=hR;obtain⟨b,C,c,rfl,hB,hc,_⟩:=hR.ogI;exact(own hB h1 h2).sl hc hmx.ogB
  | op i off=>
   simp only[jI]at h;cases h1:wZ (nth .gone H i)with
   | none=>simp[h1]at h
   | some cs=>
    cases h2:kX (jI nw H k) (qX cs off)with
    | none=>simp[h1,h2]at h
    | some l=>
     simp only[h1,h2,Option.some.injEq]at h;subst h;obtain⟨b,C,rfl,hB⟩:=hR.opI;exact(own hB h1 h2).fp
def qBu:Hid:=fun _ _=>False
theorem qDl{po:Po}{k:Nat}{Z:Nat→Prop}(hpo:∀f az tv nw,po f az=some (tv,nw)→KnP P k f az tv nw){f:Nat}{az:List T}{tv:T}(h:poC po H f az=some tv){qJ:List Value}{R:Ending→World→Prop}
  (hO:Ow B (rd w Y) w Z H) (hI:Iv P w) (hBN:B.N≤w.heap.size) (hlt:∀b o,Y b o→b<w.heap.size) (hk:∀i,k≤i→B i=none) (hA:zN B (rd w Y) az qJ) (hR:∀v w',Upd E0 w w'→Rep B (rd w' Y) tv v→R (.returned v) w'):Calls P f qJ.toArray w R:=by
 have nwk:∀{t:T}{v:Value}{w':World},Rep B (rd w' (old w)) t v→Rep B (rd w' (old w)) (mkN 12 t) v:=fun h=>h.mkN (fun b j v e=>Nat.le_trans hBN (Nat.not_lt.1 (yS e))) 12;unfold poC at h;cases hw:zWr az with
 | false=>
  simp only[hw,cond_false]at h;cases hp:po f az with
  | none=>simp[hp]at h
  | some z=>
   obtain⟨t,nw⟩:=z;simp only[hp,Option.some.injEq]at h;subst h;refine hpo _ _ _ _ hp B w Y qJ R hI hk hlt hA fun v w' hu hv=>hR v w' hu ?_;cases nw with
   | false=>exact hv
   | true=>exact(nwk hv).mono (BLe.refl B) (Le.new hlt)
 | true=>
  simp only[hw,cond_true]at h;cases hm:kX (jI false H 12) az with
  | none=>simp[hm]at h
  | some az2=>
   simp only[hm]at h;split at h
   ·rename_i t hp;simp only[Option.some.injEq]at h;subst h;have hA':zN B (rd w qBu) az2 qJ:=fJ (zJp hO (r':=rd w qBu) (fun b c e hb _ j v hj=>by
     refine wC ?_ (fun h=>h) (frozen_of_row w b _ c e hb);rw[cell_of_row w b _ c e _ hb];exact hj) (fun _=>Le.unhide fun _ _ h=>h.elim) (fun b j v _ e=>wC (jD e) (fun h=>h) (sQ e)) 12) hm hA
    refine hpo _ _ _ _ hp B w qBu qJ R hI hk (fun _ _ h=>h.elim) hA' fun v w' hu hv=>hR v w' hu ?_;exact(nwk hv).mono (BLe.refl B) (Le.new hlt)
   ·cases h
theorem gW:∀(k i:Nat)(x:TO),(nX k)[i]?=some x→x= .gone
 | 0,_,_,h=>by simp[nX]at h
 | k+1,0,x,h=>by simp[nX]at h;exact h.symm
 | k+1,i+1,x,h=>gW k i x (by simpa[nX]using h)
theorem zHt:∀k,(nX k).length=k
 | 0=>rfl
 | k+1=>by simp[nX,zHt k]
theorem zAt(hen:yN P (mU P rn)){k f:Nat}{az:List T}{t tv:T}{H1:List TO}{nw:Bool}(he:mU P rn f (az.map (unN 12)) (nX k)=some (t,H1))(hf:jI nw H1 12 t=some tv):KnP P k f az tv nw:=by
 intro B w X qJ R hI hk hX hA hR;have hA2:zN ⟨B.f,w.heap.size⟩ (rd w X) (az.map (unN 12)) qJ:=zN.unN (B:=B) (B2:=⟨B.f,w.heap.size⟩) (fun _ _ h=>h) 12 hA;have hW:Wd P E0 w X [] (nX k) ⟨B.f,w.heap.size⟩ w X []:=by
  refine⟨St.start hX,fun i o hi hl=>?_,fun i cs hi=>?_,fun i hi=>hk i (by rwa[zHt]at hi),fun i j oi oj p q hi hl=>?_,rfl,fun w' hu=>hI.upd hu⟩
  ·rw[gW _ _ _ hi]at hl;cases hl
  ·have:=gW _ _ _ hi;cases this
  ·rw[gW _ _ _ hi]at hl;cases hl
 refine hen _ _ _ _ _ he E0 w X [] ⟨B.f,w.heap.size⟩ w X [] qJ R hW hA2 fun v w' B' Y' Mo' g1 g2 g3 g4=>?_;have see:∀(Z:Hid),(∀b o,Z b o→b<w.heap.size)→∀(b:Nat)(c:Array Value)(e:TypeId),w'.heap[b]?=some (.cells c e (0,0))→(∃ob,(b,ob)∈Mo')→∀(j:Nat)(v:Value),c[j]?=some v→rd w' Z ⟨b,j,none⟩=some v:=fun Z hZ b c e hb hm j v hj=>by
  obtain⟨ob,hm⟩:=hm;have hge:w.heap.size≤b:=by
   rcases(g1.st.own _ (List.mem_append_left _ hm)).2.1 with h | h
   ·exact h
   ·exact h.elim
  refine wC ?_ (fun h=>Nat.not_lt.2 hge (hZ _ _ h)) (frozen_of_row w' b _ c e hb);rw[cell_of_row w' b _ c e _ hb];exact hj
 have hu:Upd E0 w w':=g1.st.upd;cases nw with
 | true=>exact hR v w' hu (zJp g1.ow (see _ fun _ _ h=>h) (fun e=>by cases e) (fun b j v hb e=>wC (jD e) (fun h=>Nat.not_lt.2 (g1.bN▸hb) h) (sQ e)) 12 _ _ _ hf g2)
 | false=>exact hR v w' hu (zJp g1.ow (see _ hX) (fun _=>g1.st.le) (fun b j v _ e=>g1.st.le _ _ e) 12 _ _ _ hf g2)
theorem zEg(hen:yN P (mU P rn)){k f:Nat}{az:List T}{tv:T}{nw:Bool}(h:yC P rn k f az=some (tv,nw)):KnP P k f az tv nw:=by
 unfold yC at h;split at h
 ·rename_i t H1 he;unfold zZy at h;cases h1:jI true H1 12 t with
  | some t'=>
   simp only[h1,Option.some.injEq,Prod.mk.injEq]at h;obtain⟨rfl,rfl⟩:=h;exact zAt hen he h1
  | none=>
   cases h2:jI false H1 12 t with
   | none=>simp[h1,h2]at h
   | some t'=>
    simp only[h1,h2,Option.some.injEq,Prod.mk.injEq]at h;obtain⟨rfl,rfl⟩:=h;exact zAt hen he h2
 ·cases h
end
def QOk(Q:Exit→Act→World→Prop)(B:Bm)(r:Rd)(a:Act)(w:World):Ex→Prop
 | .n=>Q .normal a w
 | .x id=>Q (.exit id) a w
 | .r=>Q .ret a w
 | .p t=>∀v,Rep B r t v→Q (.panic [{v:=v,recovered:=false}]) a w
def mG(P:Program)(E:Nat→Prop)(w0:World)(X:Hid)(F:List Nat)(n:Nat)(D:List Deferred)(q:Bool)(e:Ex)(s:S)(B:Bm)(r:Rd)(Q:Exit→Act→World→Prop):Prop:=
 ∀a' w' B' Y' Mo'(bs:List Nat),(q=true→bs=[])→Wd P E w0 X (bs++F) s.H B' w' Y' Mo'→FrT n a' s.L (bs.map Gv.mark++D) B' (rd w' Y')→BLe B B'→Le r (rd w' Y')→QOk Q B' (rd w' Y') a' w' e
def KnX(P:Program)(f:Nat)(az:List T)(H:List TO)(tv:T)(H':List TO):Prop:=
 ∀(E:Nat→Prop)(w0:World)(X:Hid)(F:List Nat)(B:Bm)(w:World)(Y:Hid)(Mo:List (Nat×Obj))(qJ:List Value)(R:Ending→World→Prop),
  Wd P E w0 X F H B w Y Mo→zN B (rd w Y) az qJ→
  (∀v w' B' Y' Mo',Wd P E w0 X F H' B' w' Y' Mo'→Rep B' (rd w' Y') tv v→BLe B B'→Le (rd w Y) (rd w' Y')→R (.panicked [{v:=v,recovered:=false}]) w')→Calls P f qJ.toArray w R
def zXx(P:Program)(pc:Cl):Prop:=∀f az H tv H',pc f az H=some (tv,H')→KnX P f az H tv H'
def tF(P:Program)(rn:Rn):Prop:=
 ∀(c:Code)(s:S)(e:Ex)(s':S),rn c s=some (e,s')→∀(E:Nat→Prop)(w0:World)(X:Hid)(F:List Nat)(n:Nat)(a:Act)(D:List Deferred)(B:Bm)(w:World)(Y:Hid)(Mo:List (Nat×Obj))(rr:Option Nat)(Q:Exit→Act→World→Prop),
  (rr=none∨noR c=true)→Wd P E w0 X F s.H B w Y Mo→FrT n a s.L D B (rd w Y)→mG P E w0 X F n D (noR c) e s' B (rd w Y) Q→c.wpIn (FF rr) 0 P Q a w
section
variable {P:Program}{E:Nat→Prop}{w0:World}{X:Hid}{F:List Nat}{H:List TO}{B B':Bm}{w w':World}{Y Y':Hid}{Mo:List (Nat×Obj)}{o:Oper}{r r':Rd}{n:Nat}{a:Act}{L:List T}{D:List Deferred}{Q:Exit→Act→World→Prop}{K:Act→World→Prop}{cl yd pc:Cl}{O:Po}{rr:Option Nat}{ops:Array Oper}{rest:List Oper}{rn:Rn}
theorem zUf(hcl:yN P cl)(hyd:kG P yd):∀(l:List Oper)(s s':S){a:Act}{w:World}{B:Bm}{Y:Hid}{Mo:List (Nat×Obj)}{r0:Rd}{B0:Bm},zOk P cl yd ops l s=some s'→l.all (fun o=>yR o.op)=true→Wd P E w0 X F s.H B w Y Mo→FrT n a s.L D B (rd w Y)→BLe B0 B→Le r0 (rd w Y)→
  vY P E w0 X F n D s'.H s'.L B0 r0 (Q .normal)→wpListIn (FF rr) 0 P ops Q l a w
 | [],s,s',a,w,B,Y,Mo,r0,B0,h,_,hW,hF,hB,hr,hk=>by
  simp only[zOk,Option.some.injEq]at h;subst h;exact hk _ _ _ _ _ hW hF hB hr
 | o::l,⟨L,H⟩,s',a,w,B,Y,Mo,r0,B0,h,hn,hW,hF,hB,hr,hk=>by
  simp only[List.all_cons,Bool.and_eq_true]at hn;simp only[zOk]at h;cases h1:opE P cl yd ops o ⟨L,H⟩with
  | none=>simp[h1]at h
  | some s1=>
   simp only[h1]at h;exact lK hcl hyd h1 hn.1 hW hF fun a' w' B' Y' Mo' g1 g2 g3 g4=>zUf hcl hyd l s1 s' h hn.2 g1 g2 (hB.trans g3) (hr.trans g4) hk
theorem zZt{x:Operand}{t:TypeId}{k:IntKind}{z:Int}(ho:o.op= .panic x)(hx:a.eval x= .iface t (.int k z))(w:World):(execOp a.eval o).run P w= .halt (.panic (.iface t (.int k z))) w:=by
 unfold execOp;simp only[ho,hx];rfl
theorem qOw(hpc:zXx P pc){e:Ex}{s':S}(h:opP P pc ops o ⟨L,H⟩=some (e,s'))(hn:yR o.op=true)(hW:Wd P E w0 X F H B w Y Mo)(hF:FrT n a L D B (rd w Y))
  (hk:∀a' w' B' Y' Mo',Wd P E w0 X F s'.H B' w' Y' Mo'→FrT n a' s'.L D B' (rd w' Y')→BLe B B'→Le (rd w Y) (rd w' Y')→QOk Q B' (rd w' Y') a' w' e):wpListIn (FF rr) 0 P ops Q (o::rest) a w:=by
 unfold opP at h;have hnd:kN o.op=true:=by rw[←zEw];exact hn
 cases hw:yK ops L o with
 | none=>simp[hw]at h
 | some q=>
  cases q with
  | false=>simp[hw]at h
  | true=>
   simp only[hw]at h;show if Region.wanted o (yielded ops a.tmps)then _ else _
   rw[zVa hF hw];simp only[if_true];refine zKk hnd ?_;cases hp:qPj L o.op with
   | some t=>
    simp only[hp,Option.some.injEq,Prod.mk.injEq]at h;obtain⟨rfl,rfl⟩:=h;generalize hop:o.op=op at hp;unfold qPj at hp;split at hp
    ·rename_i x;split at hp
     ·rename_i t2 k z e2;cases hp;have hx:=hF.rep x;rw[e2]at hx;unfold Oper.wp;rw[zZt hop hx.vI.1 w];exact hk a w B Y Mo hW hF (BLe.refl B) (Le.refl _) _ (.v rfl)
     ·cases hp
    ·cases hp
   | none=>
    simp only[hp]at h;cases hc:qMk P pc ⟨L,H⟩ o.op with
    | none=>simp[hc,qNg]at h
    | some vh=>
     obtain⟨t,H'⟩:=vh;simp only[hc,qNg,Option.some.injEq,Prod.mk.injEq]at h;obtain⟨rfl,rfl⟩:=h;generalize hop:o.op=op at hc;unfold qMk at hc;split at hc
     ·rename_i c;split at hc
      ·rename_i fx e1;have hfx:=hF.rep fx;have hargs:=zN.map hF.rep c.args.toList;split at hc
       ·rename_i f cs e2;have e2:evO L fx= .fn f cs:=e2;rw[e2]at hfx;obtain⟨caps,hv,hcs⟩:=hfx.fnI;cases hen:jF P f with
        | false=>simp[hen]at hc
        | true=>
         simp only[hen,cond_true]at hc;unfold Oper.wp;rw[zAo hop e1 hv hen w];refine hpc _ _ _ _ _ hc E w0 X F B w Y Mo _ _ hW (hargs.app hcs) fun v w' B' Y' Mo' h1 h2 h3 h4=>?_;exact hk a w' B' Y' Mo' h1 (hF.mono h3 h4) h3 h4 v h2
       ·rename_i f bs e2;have e2:evO L fx= .fb f bs:=e2;rw[e2]at hfx;obtain⟨vs,hv,hcs⟩:=hfx.fbI;cases hen:jF P f with
        | false=>simp[hen]at hc
        | true=>
         simp only[hen,cond_true]at hc;unfold Oper.wp;rw[zEb hop e1 hv hen w];refine hpc _ _ _ _ _ hc E w0 X F B w Y Mo _ _ hW (hcs.app hargs) fun v w' B' Y' Mo' h1 h2 h3 h4=>?_;exact hk a w' B' Y' Mo' h1 (hF.mono h3 h4) h3 h4 v h2
       ·cases hc
      ·cases hc
     ·cases hc
theorem zUh(hcl:yN P cl)(hyd:kG P yd)(hpc:zXx P pc):∀(l:List Oper)(s s':S){e:Ex}{a:Act}{w:World}{B:Bm}{Y:Hid}{Mo:List (Nat×Obj)}{r0:Rd}{B0:Bm},qCp P cl yd pc ops l s=some (e,s')→l.all (fun o=>yR o.op)=true→Wd P E w0 X F s.H B w Y Mo→FrT n a s.L D B (rd w Y)→BLe B0 B→Le r0 (rd w Y)→
  (∀a' w' B' Y' Mo',Wd P E w0 X F s'.H B' w' Y' Mo'→FrT n a' s'.L D B' (rd w' Y')→BLe B0 B'→Le r0 (rd w' Y')→QOk Q B' (rd w' Y') a' w' e)→wpListIn (FF rr) 0 P ops Q l a w
 | [],s,s',e,a,w,B,Y,Mo,r0,B0,h,_,hW,hF,hB,hr,hk=>by
  simp only[qCp,Option.some.injEq,Prod.mk.injEq]at h;obtain⟨rfl,rfl⟩:=h;exact hk _ _ _ _ _ hW hF hB hr
 | o::l,⟨L,H⟩,s',e,a,w,B,Y,Mo,r0,B0,h,hn,hW,hF,hB,hr,hk=>by
  simp only[List.all_cons,Bool.and_eq_true]at hn;simp only[qCp]at h;cases h1:opE P cl yd ops o ⟨L,H⟩with
  | none=>
   simp only[h1]at h;exact qOw hpc h hn.1 hW hF fun a' w' B' Y' Mo' g1 g2 g3 g4=>hk a' w' B' Y' Mo' g1 g2 (hB.trans g3) (hr.trans g4)
  | some s1=>
   simp only[h1]at h;exact lK hcl hyd h1 hn.1 hW hF fun a' w' B' Y' Mo' g1 g2 g3 g4=>zUh hcl hyd hpc l s1 s' h hn.2 g1 g2 (hB.trans g3) (hr.trans g4) hk
theorem zQn{c:Call}{fx:Operand}{f:Nat}{cap:List Value}(ho:o.op= .defer c)(hc:c.callee= .value fx)(hargs:c.args.toList=[])(hf:a.eval fx= .func (.func f) #[] cap.toArray)(w:World):
  (execOp a.eval o).run P w= .ok (.defer {target:= .fn (.func f) cap.toArray,args:=#[]}) w:=by
 have ha:c.args=#[]:=Array.ext' (by simpa using hargs)
 unfold execOp;simp only[ho,resolve,hc,hf,Deferred.ofValue,ha,Sem.run_bind,Sem.run_pure,Result.andThen_ok];simp
theorem zUe(hcl:yN P cl)(hyd:kG P yd):∀(l:List Oper)(s s':S){g:T}{a:Act}{w:World}{B:Bm}{Y:Hid}{Mo:List (Nat×Obj)}{r0:Rd}{B0:Bm},zWn P cl yd ops l s=some (g,s')→Wd P E w0 X F s.H B w Y Mo→FrT n a s.L D B (rd w Y)→BLe B0 B→Le r0 (rd w Y)→
  (∀a' w' B' Y' Mo' f cs caps,g= .fn f cs→zN B' (rd w' Y') cs caps→jF P f=true→Wd P E w0 X F s'.H B' w' Y' Mo'→FrT n a' s'.L ({target:= .fn (.func f) caps.toArray,args:=#[]}::D) B' (rd w' Y')→BLe B0 B'→Le r0 (rd w' Y')→Q .normal a' w')→wpListIn (FF none) 0 P ops Q l a w
 | [],s,s',g,a,w,B,Y,Mo,r0,B0,h,_,_,_,_,_=>by simp[zWn]at h
 | o::l,⟨L,H⟩,s',g,a,w,B,Y,Mo,r0,B0,h,hW,hF,hB,hr,hk=>by
  simp only[zWn]at h;cases hnd:yR o.op with
  | true=>
   simp only[hnd,cond_true]at h;cases h1:opE P cl yd ops o ⟨L,H⟩with
   | none=>simp[h1]at h
   | some s1=>
    simp only[h1]at h;exact lK hcl hyd h1 hnd hW hF fun a' w' B' Y' Mo' g1 g2 g3 g4=>zUe hcl hyd l s1 s' h g1 g2 (hB.trans g3) (hr.trans g4) hk
  | false=>
   simp only[hnd,cond_false]at h;split at h
   ·rename_i c hop hgd hd;split at h
    ·rename_i fx e1 e2;split at h
     ·rename_i f cs e3;cases hen:jF P f with
      | false=>simp[hen]at h
      | true=>
       simp only[hen,cond_true,Option.some.injEq,Prod.mk.injEq]at h;obtain⟨rfl,rfl⟩:=h;have hfx:=hF.rep fx;rw[e3]at hfx;obtain⟨caps,hv,hcs⟩:=hfx.fnI;show if Region.wanted o (yielded ops a.tmps)then _ else _
       have hw:Region.wanted o (yielded ops a.tmps)=true:=by simp[Region.wanted,hgd]
       rw[hw];simp only[if_true];refine⟨fun f _=>yY none f,?_⟩;show o.uponIn (FF none) 0 P a _ Q ((o.semAt none a.eval).run P w);rw[Oper.semAt_none,zQn hop e1 e2 hv w];have hFd:FrT n ({a with defers:={target:= .fn (.func f) caps.toArray,args:=#[]}::a.defers}.put o.dst undef) L ({target:= .fn (.func f) caps.toArray,args:=#[]}::D) B (rd w Y):=by
        rw[hd];exact⟨hF.size,hF.reps,by show _::a.defers=_;rw[hF.defers]⟩
       exact hk _ w B Y Mo f cs caps rfl hcs hen hW hFd hB hr
     ·cases h
    ·cases h
   ·cases h
theorem qJa(hW:Wd P E w0 X F H B w Y Mo){x t:T}{v:Value}{e:TypeId}(h:qIz P H x e=some t)(hR:Rep B (rd w Y) x v):∃u,((do loadVar e (←asAddr v)):Sem Value).run P w= .ok u w∧Rep B (rd w Y) t u:=by
 unfold qIz at h;cases hl:ldT P e with
 | none=>simp[hl]at h
 | some gs=>
  obtain⟨g,s⟩:=gs;cases hf:dG H x with
  | none=>simp[hl,hf]at h
  | some cs=>
   cases ht:jC s cs with
   | none=>simp[hl,hf,ht]at h
   | some us=>
    simp only[hl,hf,ht]at h;cases hg:g||Nat.beq s 1 with
    | false=>simp[hg]at h
    | true=>
     simp only[hg,cond_true,Option.some.injEq]at h;subst h;obtain⟨b,off,vs,rfl,h1,h2,h3⟩:=hW.from hR hf ht;obtain⟨h4,h5⟩:=zDd h1 hg h2;refine⟨_,?_,h4⟩;simp only[asAddr,Sem.run_bind,Sem.run_pure,Result.andThen_ok,wX (by rw[h1];exact hl) h5 h3]
theorem zDj(hW:Wd P E w0 X F H B w Y Mo)(hF:zN B (rd w Y) L a.tmps.toList):∀{rs:List ResultVar}{ts:List T},lN P L H rs=some ts→∃vs,(rs.mapM (zCe a.tmps)).run P w= .ok vs w∧zN B (rd w Y) ts vs
 | [],ts,h=>by simp only[lN,Option.some.injEq]at h;subst h;exact⟨[],rfl,trivial⟩
 | .tmp t::rs,ts,h=>by
  simp only[lN]at h;cases h1:lN P L H rs with
  | none=>simp[h1]at h
  | some us=>
   simp only[h1,Option.some.injEq]at h;subst h;obtain⟨vs,g1,g2⟩:=zDj hW hF h1;refine⟨a.tmps.getD t undef::vs,?_,⟨?_,g2⟩⟩
   ·simp only[List.mapM_cons,Sem.run_bind,Sem.run_pure,Result.andThen_ok,g1,zCe]
   ·have:=hF.getD t;simpa using this
 | .cell t e::rs,ts,h=>by
  simp only[lN]at h;cases h0:qIz P H (nth .u L t) e with
  | none=>simp[h0]at h
  | some x=>
   cases h1:lN P L H rs with
   | none=>simp[h0,h1]at h
   | some us=>
    simp only[h0,h1,Option.some.injEq]at h;subst h;obtain⟨vs,g1,g2⟩:=zDj hW hF h1;have hR:Rep B (rd w Y) (nth .u L t) (a.tmps.getD t undef):=by
     have:=hF.getD t;simpa using this
    obtain⟨u,k1,k2⟩:=qJa hW h0 hR;refine⟨u::vs,?_,⟨k2,g2⟩⟩;simp only[List.mapM_cons,Sem.run_bind,Sem.run_pure,Result.andThen_ok,g1,zCe,k1]
theorem zOr{ts:List T}{vs:List Value}(h:zN B r ts vs):Rep B r (zOq ts) (aO vs):=by
 match ts,vs,h with
 | [],[],h=>exact Rep.mkTu h
 | [t],[v],h=>exact h.1
 | t::t'::ts,v::w::vs,h=>exact Rep.mkTu h
theorem zKt{fn:Func}{vs:List Value}{tmps:Array Value}(h:(fn.results.toList.mapM (zCe tmps)).run P w= .ok vs w):(results fn tmps).run P w= .ok (aO vs) w:=by
 have hr:fn.results=fn.results.toList.toArray:=by simp
 rw[zFp,hr];simp only[Sem.run_bind,List.mapM_toArray,Sem.run_map,h,Result.andThen_ok];rcases vs with _ | ⟨v,_ | ⟨u,vs⟩⟩<;>simp[aO]
theorem vO{fn:Func}{R:Ending→World→Prop}{tmps:Array Value}{u:FrameMode}(hu:u≠.run){ds:List Deferred}:∀(bs:List Nat){w:World}{B:Bm}{Y:Hid}{Mo:List (Nat×Obj)},Wd P E w0 X (bs++F) H B w Y Mo→
  (∀w',Wd P E w0 X F H B w' Y Mo→Le (rd w Y) (rd w' Y)→LeavesInM (FF none) 0 P fn tmps R ds u w')→LeavesInM (FF none) 0 P fn tmps R (bs.map Gv.mark++ds) u w
 | [],w,B,Y,Mo,hW,k=>k w hW (Le.refl _)
 | b::bs,w,B,Y,Mo,hW,k=>by
  have hp:(Mo++kE (b::bs++F)).Perm ((b,Obj.deferred (some []))::(Mo++kE (bs++F))):=List.perm_middle;have hS:=St.perm hp hW.st;obtain⟨h1,h2⟩:=hS.putObj (o':= .deferred none) 0 rfl;refine⟨hu,.inl ⟨b,_,rfl,run_takeDeferred (hS.get 0 rfl),?_⟩⟩;rw[List.set_cons_zero]at h1;exact vO hu bs (hW.step h1.tail h2) fun w' g1 g2=>k w' g1 (h2.trans g2)
theorem qBd{fn:Func}{R:Ending→World→Prop}{tmps:Array Value}(bs:List Nat){w:World}{B:Bm}{Y:Hid}{Mo:List (Nat×Obj)}(hW:Wd P E w0 X (bs++F) H B w Y Mo)
  (k:∀w',Wd P E w0 X F H B w' Y Mo→Le (rd w Y) (rd w' Y)→∃v,(results fn tmps).run P w'= .ok v w'∧R (.returned v) w'):LeavesInM (FF none) 0 P fn tmps R (bs.map Gv.mark) .returning w:=by
 have:=vO (P:=P) (fn:=fn) (R:=R) (tmps:=tmps) (u:= .returning) (ds:=[]) (by simp) bs hW fun w' g1 g2=>by
  obtain⟨v,h1,h2⟩:=k w' g1 g2;exact aC h1 h2
 simpa using this
theorem zGa:∀(m:Nat)(vs:List Value),vs.length=m→zN B r (us m) vs
 | 0,[],_=>trivial
 | m+1,_::vs,h=>⟨.u,zGa m vs (by simpa using h)⟩
 | 0,_::_,h=>by simp at h
 | _+1,[],h=>by simp at h
theorem zAl(hrn:tF P rn):yN P (sJ P rn):=by
 intro f az H tv H' h E w0 X F B w Y Mo qJ R hW hA hk;unfold sJ at h;cases hf:P.funcs[f]? with
 | none=>simp[hf]at h
 | some fn=>
  simp only[hf]at h;cases hb:fn.body with
  | none=>simp[hb]at h
  | some c=>
   simp only[hb]at h;cases hl:Nat.ble (ln az) fn.ntmps with
   | false=>simp[hl]at h
   | true=>
    simp only[hl,cond_true]at h;rw[Nat.ble_eq,qL]at hl;have hlen:=hA.length;refine tJ.1 (callsIn_of_wp_marks (n:=0) hf hb (yY none f) ?_);have hF:FrT fn.ntmps {tmps:=qJ.toArray++Array.replicate (fn.ntmps-qJ.toArray.size) undef,defers:=[]} (rest fn.ntmps az) [] B (rd w Y):=by
     refine⟨by simp;omega,?_,rfl⟩
     have:(qJ.toArray++Array.replicate (fn.ntmps-qJ.toArray.size) undef).toList=qJ++List.replicate (fn.ntmps-qJ.length) undef:=by simp
     rw[this];refine hA.app (zGa _ _ ?_);rw[qL];simp;omega
    have leave:∀(s:S)(ts:List T),lN P s.L s.H fn.results.toList=some ts→tv=zOq ts→H'=s.H→∀a' w' B' Y' Mo'(bs:List Nat),Wd P E w0 X (bs++F) s.H B' w' Y' Mo'→FrT fn.ntmps a' s.L (bs.map Gv.mark++[]) B' (rd w' Y')→BLe B B'→Le (rd w Y) (rd w' Y')→LeavesInM (FF none) 0 P fn a'.tmps R a'.defers .returning w':=
     fun s ts hr e1 e2 a' w' B' Y' Mo' bs g1 g2 g3 g4=>by
      subst e1;subst e2;rw[g2.defers,List.append_nil];refine qBd bs g1 fun w2 k1 k2=>?_;obtain⟨vs,q1,q2⟩:=zDj (a:=a') k1 (g2.reps.mono (BLe.refl B') k2) hr;exact⟨_,zKt q1,hk _ _ _ _ _ k1 (zOr q2) g3 (g4.trans k2)⟩
    cases hc:rn c ⟨rest fn.ntmps az,H⟩with
    | none=>simp[hc,zPc]at h
    | some es=>
     obtain⟨e,s⟩:=es;cases e with
     | x id=>simp[hc,zPc]at h
     | p t=>simp[hc,zPc]at h
     | n=>
      simp only[hc,zPc]at h;cases hr:lN P s.L s.H fn.results.toList with
      | none=>simp[hr]at h
      | some ts=>
       simp only[hr,Option.some.injEq,Prod.mk.injEq]at h;refine hrn _ _ _ _ hc E w0 X F fn.ntmps _ [] B w Y Mo none _ (.inl rfl) hW hF fun a' w' B' Y' Mo' bs _ g1 g2 g3 g4=>?_;exact leave s ts hr h.1.symm h.2.symm a' w' B' Y' Mo' bs g1 g2 g3 g4
     | r=>
      simp only[hc,zPc]at h;cases hr:lN P s.L s.H fn.results.toList with
      | none=>simp[hr]at h
      | some ts=>
       simp only[hr,Option.some.injEq,Prod.mk.injEq]at h;refine hrn _ _ _ _ hc E w0 X F fn.ntmps _ [] B w Y Mo none _ (.inl rfl) hW hF fun a' w' B' Y' Mo' bs _ g1 g2 g3 g4=>?_;exact leave s ts hr h.1.symm h.2.symm a' w' B' Y' Mo' bs g1 g2 g3 g4
end
end Go.Ev

import Derived.OpenShut
import Derived.WideShapes
import Derived.Shelf.Strings.Builder1
import Derived.Shelf.Strconv.Itoa3
import Derived.LaidSub
import Derived.Lib.LaidTab
import Derived.LaidMore
import Derived.Lay
import Derived.BigCall
import Derived.LoopTactic
import Derived.Lib.ItoaLen
import Derived.Test.YtjnpoeilfdbaaaaGreatDoorBaseD
set_option linter.unusedVariables false
set_option linter.unusedSimpArgs false
set_option linter.unnecessarySimpa false
namespace Go.Ev
open Go Go.Gv Go.RowKit IntKind
structure Dr where
 P:Program
 E:Nat→Prop
 w0:World
 X:Hid
 F:List Nat
 n:Nat
 D:List Deferred
 ops:Array Oper
 H0:List TO
 Hm:List TO
 L0:List T
 rs:List (T×Option TO)
 B0:Bm
 r0:Rd
noncomputable def Dr.ks(R:Dr):List (Option Nat):=ksE R.ops.toList R.rs R.L0
structure FrD(R:Dr)(l:Array Bool)(a:Act)(B:Bm)(r:Rd):Prop where
 size:a.tmps.size=R.n
 defers:a.defers=R.D
 done:∀(i:Nat)(z:T×Option TO)(o:Oper)(d:Nat)(v:Value),R.rs[i]?=some z→R.ops[i]?=some o→o.dst=some d→l.getD i false=true→a.tmps[d]?=some v→Rep B r z.1 v
 rest:∀(t:Nat)(v:Value),(∀(i:Nat)(o:Oper),i<R.rs.length→R.ops[i]?=some o→o.dst=some t→l.getD i false=false)→a.tmps[t]?=some v→Rep B r (nth .u R.L0 t) v
structure Inv(R:Dr)(l:Array Bool)(a:Act)(w:World)(B:Bm)(Y:Hid)(Mo:List (Nat×Obj)):Prop where
 wd:Wd R.P R.E R.w0 R.X R.F (vG l R.ks R.H0++jD l 0 R.rs) B w Y Mo
 fr:FrD R l a B (rd w Y)
 ble:BLe R.B0 B
 le:Le R.r0 (rd w Y)
 free:∀(i:Nat)(t:T)(ob:TO),R.rs[i]?=some (t,some ob)→l.getD i false=false→B (R.H0.length+pos R.rs i)=none
 head:∀i,R.rs.length≤i→l.getD i false=false
 lsz:l.size=R.ops.size
structure Ok(R:Dr)(po:Po)(K:Nat):Prop where
 spec:∀(i:Nat)(z:T×Option TO),R.rs[i]?=some z→∃o,R.ops.toList[i]?=some o∧xG R.P po R.H0 R.Hm (R.Hm++qD (R.rs.take i)) (kJ R.ops.toList (R.rs.take i) R.L0) R.ops o=some z
 hd:zGh R.ops (R.ops.toList.take R.rs.length) (R.ops.toList.take R.rs.length) 0=true
 tl:aQ R.ops R.rs.length (bZ R.ops R.rs.length) (vlR R.ops R.rs.length) (R.ops.toList.take R.rs.length) ((wP R.ops.toList []).drop R.rs.length) (R.ops.toList.drop R.rs.length) R.rs.length=true
 eg:zGa R.ops.toList 0=true
 len:R.rs.length≤R.ops.toList.length
 slots:R.L0.length=R.n
 po:∀f az tv nw,po f az=some (tv,nw)→KnP R.P K f az tv nw
 bd:R.H0.length+R.ops.size≤K
 nd:∀o∈R.ops.toList,kK o.op=true
 hml:R.Hm.length=R.H0.length
 hms:∀(q:Nat)(x:TO),R.Hm[q]?=some x→x≠.gone→R.H0[q]?=some x
 ksg:∀q,some q∈R.ks→nth .gone R.Hm q= .gone
 ks1:∀(i j q:Nat),R.ks[i]?=some (some q)→R.ks[j]?=some (some q)→i=j
section
variable {R:Dr}{po:Po}{k:Nat}{l:Array Bool}{a:Act}{w:World}{B:Bm}{Y:Hid}{Mo:List (Nat×Obj)}{o:Oper}{i:Nat}{rr:Option Nat}{Q:Exit→Act→World→Prop}
theorem Ok.hget(hOk:Ok R po k){i:Nat}{o:Oper}(hi:i<R.rs.length)(ho:R.ops[i]?=some o):(R.ops.toList.take R.rs.length)[i]?=some o:=by
 rw[List.getElem?_take,if_pos hi];simpa using ho
theorem Ok.once(hOk:Ok R po k){i j:Nat}{o o':Oper}{d:Nat}(hi:i<R.rs.length)(hj:j<R.rs.length)(ho:R.ops[i]?=some o)(ho':R.ops[j]?=some o')(hd:o.dst=some d)(hd':o'.dst=some d):i=j:=by
 rcases Nat.lt_trichotomy i j with h | h | h
 ·exact absurd hd' ((xL hOk.hd i o (hOk.hget hi ho)).2.2 d hd j o' h (hOk.hget hj ho'))
 ·exact h
 ·exact absurd hd ((xL hOk.hd j o' (hOk.hget hj ho')).2.2 d hd' i o h (hOk.hget hi ho))
theorem zWr(hOk:Ok R po k)(hI:Inv R l a w B Y Mo)(hi:i<R.rs.length)(ho:R.ops[i]?=some o)(hr:∀e∈o.after,Region.binds .any e=true→l.getD e.on false=true){t:Nat}(hs:zDu (R.ops.toList.take R.rs.length) o i t=true):
  Rep B (rd w Y) (nth .u (kJ R.ops.toList (R.rs.take i) R.L0) t) (a.tmps.getD t undef):=by
 cases hv:a.tmps[t]? with
 | none=>
  have ht:R.n≤t:=by
   rcases Nat.lt_or_ge t R.n with h | h
   ·rw[←hI.fr.size]at h;simp[h]at hv
   ·exact h
  have:nth .u (kJ R.ops.toList (R.rs.take i) R.L0) t= .u:=by
   rw[jA,List.getD_eq_getElem?_getD,List.getElem?_eq_none (by rw[dK,hOk.slots];exact ht)];rfl
  rw[this];exact .u
 | some v=>
  have hget:a.tmps.getD t undef=v:=by simp[hv]
  rw[hget];unfold zDu at hs;cases hw:wrt t (R.ops.toList.take R.rs.length) 0 with
  | none=>
   have hn:=fP hw;have h0:∀(j:Nat)(o':Oper),j<R.rs.length→R.ops[j]?=some o'→o'.dst≠some t:=fun j o' hj ho'=>hn j o' (hOk.hget hj ho');rw[nV _ _ _ _ (fun j o' hj ho'=>h0 j o' (by simp at hj;omega) (by simpa using ho'))]
   exact hI.fr.rest t v (fun j o' hj ho' hd=>absurd hd (h0 j o' hj ho')) hv
  | some j=>
   simp only[hw,Bool.and_eq_true,Nat.blt_eq]at hs;obtain⟨j',o',e1,h1,h2⟩:=zCk hw;obtain rfl:j=j':=by omega
   have hj:j<R.rs.length:=by omega
   have ho':R.ops[j]?=some o':=by
    rw[List.getElem?_take,if_pos hj]at h1;simpa using h1
   obtain⟨e,he,hb,hon⟩:=zEo hs.2;have hdone:l.getD j false=true:=by rw[←hon];exact hr e he hb
   obtain⟨z,hz⟩:∃z,R.rs[j]?=some z:=⟨R.rs[j],by simp[hj]⟩
   have ht:t<R.L0.length:=by
    have:=(Array.getElem?_eq_some_iff.1 hv).1;rw[hI.fr.size]at this;rw[hOk.slots];exact this
   rw[dL _ _ _ t j o' z ht (by simpa using ho') (by rw[List.getElem?_take,if_pos hs.1];exact hz) h2 fun q o2 hq hl ho2 hd2=>?_]
   ·exact hI.fr.done j z o' t v hz ho' h2 hdone hv
   ·exact hq (hOk.once (by simp at hl;omega) hj (by simpa using ho2) ho' hd2 h2)
theorem qLp(hOk:Ok R po k)(hI:Inv R l a w B Y Mo)(hi:i<R.rs.length)(ho:R.ops[i]?=some o)(hr:∀e∈o.after,Region.binds .any e=true→l.getD e.on false=true)(x:Operand)(hx:x∈o.op.operands):
  Rep B (rd w Y) (evO (kJ R.ops.toList (R.rs.take i) R.L0) x) (a.eval x):=by
 have h:=(xL hOk.hd i o (hOk.hget hi ho)).1 x (by simpa using hx)
 rw[Nat.zero_add]at h;cases x with
 | tmp t=>exact zWr hOk hI hi ho hr h
 | const v=>exact zBm v
 | global g=>exact .u
 | func f=>exact Rep.mkFn (vs:=[]) trivial
theorem qHp{ops:Array Oper}{L:List T}{r:Rd}(hg:∀j b p t,o.guard=some (j,b)→ops[j]?=some p→p.dst=some t→Rep B r (nth .u L t) (a.tmps.getD t undef)){q:Bool}(h:kT ops L o=some q):Region.wanted o (yielded ops a.tmps)=q:=by
 unfold kT at h;unfold Region.wanted;cases hgd:o.guard with
 | none=>simp only[hgd,Option.some.injEq]at h;simpa using h
 | some jb=>
  obtain⟨j,b⟩:=jb;simp only[hgd]at h;cases hj:ops[j]? with
  | none=>simp[hj]at h
  | some p=>
   simp only[hj]at h;cases hd:p.dst with
   | none=>simp[hd]at h
   | some t=>
    simp only[hd]at h;have hR:=hg j b p t hgd hj hd;split at h
    ·rename_i c e;rw[e]at hR;obtain⟨hv,_⟩:=hR.vI;cases ht:a.tmps[t]? with
     | none=>simp[ht]at hv;cases hv
     | some u=>
      have:u= .bool c:=by simpa[ht]using hv
      subst this;simp only[yielded,hj,hd,Option.bind_some,ht];cases h;cases c<;>cases b<;>rfl
    ·cases h
    ·rename_i e;rw[e]at hR;obtain⟨vs,hv,hl⟩:=hR.tuI;cases vs with
     | cons x y=>exact hl.elim
     | nil=>
      cases h;cases ht:a.tmps[t]? with
      | none=>simp only[yielded,hj,hd,Option.bind_some,ht];cases b<;>rfl
      | some u=>
       have:u= .tuple #[]:=by simpa[ht]using hv
       subst this;simp only[yielded,hj,hd,Option.bind_some,ht];cases b<;>rfl
    ·cases h
theorem zPs{l:List TO}{i:Nat}{x:TO}(h:nth .gone l i=x)(hx:x≠.gone):l[i]?=some x:=by
 rw[jA,List.getD_eq_getElem?_getD]at h;cases hi:l[i]? with
 | none=>rw[hi]at h;exact absurd h.symm hx
 | some y=>rw[hi]at h;simp at h;rw[h]
theorem FrD.step(hOk:Ok R po k){r:Rd}(h:FrD R l a B r)(hi:i<R.rs.length)(ho:R.ops[i]?=some o){z:T×Option TO}(hz:R.rs[i]?=some z){v:Value}(hv:Rep B r z.1 v)(hls:i<l.size):FrD R (l.setIfInBounds i true) (a.put o.dst v) B r:=by
 have htm:∀t,(a.put o.dst v).tmps[t]?=if o.dst=some t∧t<a.tmps.size then some v else a.tmps[t]?:=fun t=>by
  cases hd:o.dst with
  | none=>simp[Act.put]
  | some d=>
   simp only[Act.put,Option.some.injEq];by_cases e:d=t
   ·subst e;by_cases hlt:d<a.tmps.size
    ·simp[hlt]
    ·simp[hlt]
   ·rw[Array.getElem?_setIfInBounds_ne e,if_neg (fun h=>e h.1)]
 refine⟨?_,?_,fun j z' o' d u hz' ho' hd' hl hu=>?_,fun t u hn hu=>?_⟩
 ·cases hd:o.dst<;>simp[Act.put,h.size]
 ·cases hd:o.dst<;>simp[Act.put,h.defers]
 ·rw[htm]at hu;by_cases e:i=j
  ·subst e;rw[ho]at ho';cases ho';rw[hz]at hz';cases hz';split at hu
   ·cases hu;exact hv
   ·rename_i hn;have:=(Array.getElem?_eq_some_iff.1 hu).1;exact absurd ⟨hd',this⟩ hn
  ·rw[getD_set_ne false e]at hl;split at hu
   ·rename_i hc;exact absurd (hOk.once hi (List.getElem?_eq_some_iff.1 hz').1 ho ho' hc.1 hd') e
   ·exact h.done j z' o' d u hz' ho' hd' hl hu
 ·rw[htm]at hu;split at hu
  ·rename_i hc;have:=hn i o hi ho hc.1;rw[kU hls]at this;cases this
  ·refine h.rest t u (fun j o' hj ho' hd=>?_) hu;have:=hn j o' hj ho' hd;by_cases e:i=j
   ·subst e;rw[kU hls]at this;cases this
   ·rwa[getD_set_ne false e]at this
theorem FrD.mono{r r':Rd}{B':Bm}(h:FrD R l a B r)(hB:BLe B B')(hr:Le r r'):FrD R l a B' r':=
 ⟨h.size,h.defers,fun i z o d v h1 h2 h3 h4 h5=>(h.done i z o d v h1 h2 h3 h4 h5).mono hB hr,fun t v h1 h2=>(h.rest t v h1 h2).mono hB hr⟩
theorem Inv.val(hOk:Ok R po k)(hI:Inv R l a w B Y Mo){w':World}(hw:Upd E0 w w')(hi:i<R.rs.length)(ho:R.ops[i]?=some o){t:T}(hz:R.rs[i]?=some (t,none)){v:Value}(hv:Rep B (rd w' Y) t v)(hls:i<l.size):
  Inv R (l.setIfInBounds i true) (a.put o.dst v) w' B Y Mo:=by
 have e:=aI l R.rs 0 i t hz;rw[Nat.zero_add]at e;have ek:vG (l.setIfInBounds i true) R.ks R.H0=vG l R.ks R.H0:=zDe fun q hq=>by
  have:=zMa R.ops.toList R.rs R.L0 i o _ (by simpa using ho) hz
  rw[show ksE R.ops.toList R.rs R.L0=R.ks from rfl,hq]at this;cases this
 refine⟨by rw[e,ek];exact hI.wd.call hw,FrD.step hOk (hI.fr.mono (BLe.refl B) (hw.le Y)) hi ho hz hv hls,hI.ble,hI.le.trans (hw.le Y),fun j t' ob hj hl=>?_,fun j hj=>?_,by simpa using hI.lsz⟩
 ·by_cases e:i=j
  ·subst e;rw[hz]at hj;cases hj
  ·rw[getD_set_ne false e]at hl;exact hI.free j t' ob hj hl
 ·rw[getD_set_ne false (by omega)];exact hI.head j hj
theorem Ok.sub0(hOk:Ok R po k){q:Nat}{x:TO}(h:R.Hm[q]?=some x)(hx:x≠.gone):(vG l R.ks R.H0)[q]?=some x:=by
 rw[tF,hOk.hms q x h hx];have:kY l R.ks q=false:=by
  cases hk:kY l R.ks q with
  | false=>rfl
  | true=>
   obtain⟨i,h1,_⟩:=yU.1 hk;have h2:=hOk.ksg q (List.mem_of_getElem? h1);rw[jA,List.getD_eq_getElem?_getD,h]at h2;exact absurd h2 hx
 simp[this]
theorem zNh(hOk:Ok R po k)(hI:Inv R l a w B Y Mo){q:Nat}{x:TO}(hB:B q≠none)(h:(R.Hm++qD (R.rs.take i))[q]?=some x)(hx:x≠.gone):(vG l R.ks R.H0++jD l 0 R.rs)[q]?=some x:=by
 rcases Nat.lt_or_ge q R.H0.length with hlt | hge
 ·rw[List.getElem?_append_left (by rw[hOk.hml];exact hlt)]at h
  rw[List.getElem?_append_left (by rw[yF];exact hlt)]
  exact hOk.sub0 h hx
 ·rw[List.getElem?_append_right (by rw[hOk.hml];exact hge),hOk.hml]at h
  rw[List.getElem?_append_right (by rw[yF];exact hge),yF]
  obtain⟨j,t',h1,h2,h3⟩:=zDm _ _ _ _ h;have hlj:l.getD j false=true:=by
   cases hlj:l.getD j false with
   | true=>rfl
   | false=>exact absurd (by rw[←hI.free j t' x h2 hlj,h3];congr 1;omega) hB
  have:=dQ l R.rs 0 j t' x h2;rw[Nat.zero_add,hlj,h3]at this;rw[this];rfl
theorem zFg{H K:List TO}{q:Nat}{x:TO}(hs:∀x,H[q]?=some x→x≠.gone→K[q]?=some x)(h:nth .gone H q=x)(hx:x≠.gone):nth .gone K q=x:=by
 have:=hs x (zPs h hx) hx;rw[jA,List.getD_eq_getElem?_getD,this];rfl
theorem zHa{H K:List TO}{q:Nat}{cs:List T}(hs:∀x,H[q]?=some x→x≠.gone→K[q]?=some x)(h:nZ (nth .gone H q)=some cs):nZ (nth .gone K q)=some cs:=by
 cases hx:nth .gone H q with
 | gone=>rw[hx]at h;cases h
 | _=>rw[hx]at h;rw[zFg hs hx (by simp)];exact h
theorem zXz{H K:List TO}{t:T}{v:Value}{cs:List T}{r:Rd}(hR:Rep B r t v)(hs:∀(q:Nat)(x:TO),B q≠none→H[q]?=some x→x≠.gone→K[q]?=some x)(h:bG H t=some cs):bG K t=some cs:=by
 cases t<;>simp only[bG]at h ⊢<;>try exact h
 rename_i i o;obtain⟨b,C,_,hB⟩:=hR.opI;cases hr:nZ (nth .gone H i)with
 | none=>simp[hr]at h
 | some x=>rw[zHa (fun x=>hs i x (by rw[hB];simp)) hr];rw[hr]at h;exact h
theorem zCn{H K:List TO}{s:Nat}{t:T}{v:Value}{cs:List T}{r:Rd}(hR:Rep B r t v)(hs:∀(q:Nat)(x:TO),B q≠none→H[q]?=some x→x≠.gone→K[q]?=some x)(h:qI H s t=some cs):qI K s t=some cs:=by
 cases t with
 | os i o n c=>
  obtain⟨b,C,_,hB⟩:=hR.osI;simp only[qI]at h ⊢;cases hr:nZ (nth .gone H i)with
  | none=>simp[hr]at h
  | some x=>rw[zHa (fun x=>hs i x (by rw[hB];simp)) hr];rw[hr]at h;exact h
 | og i o n=>
  obtain⟨b,C,c,_,hB,_⟩:=hR.ogI;simp only[qI]at h ⊢;cases hr:nZ (nth .gone H i)with
  | none=>simp[hr]at h
  | some x=>rw[zHa (fun x=>hs i x (by rw[hB];simp)) hr];rw[hr]at h;exact h
 | v x=>
  unfold qI at h ⊢;split at h<;>first | exact h | (rename_i e;cases e;done) | skip
  all_goals first | (rename_i e;cases e;simp) | cases h
 | _=>exact h
open Classical in
theorem zYa(hOk:Ok R po k)(hI:Inv R l a w B Y Mo)(hi:i<R.rs.length)(hr:i∈Region.ready .any R.ops l){K:Act→World→Prop}
  (hk:∀a' w' B' Y' Mo',Inv R (l.setIfInBounds i true) a' w' B' Y' Mo'→K a' w'):wpOpIn (FF rr) 0 R.P R.ops Q i K a w:=by
 obtain⟨hun,o,ho,hall⟩:=mem_ready.1 hr;obtain⟨z,hz⟩:∃z,R.rs[i]?=some z:=⟨R.rs[i],by simp[hi]⟩
 obtain⟨o',ho',hop⟩:=hOk.spec i z hz;have hls:i<l.size:=by
  rw[hI.lsz];exact(Array.getElem?_eq_some_iff.1 ho).1
 have hunl:l.getD i false=false:=by simpa[hls]using hun
 obtain rfl:o=o':=by
  have h1:R.ops.toList[i]?=some o:=by simpa using ho
  rw[h1]at ho';exact Option.some.inj ho'
 have hopn:=qLp hOk hI hi ho hall;have hgr:∀j b p t,o.guard=some (j,b)→R.ops[j]?=some p→p.dst=some t→Rep B (rd w Y) (nth .u (kJ R.ops.toList (R.rs.take i) R.L0) t) (a.tmps.getD t undef):=fun j b p t h1 h2 h3=>by
  have:=(xL hOk.hd i o (hOk.hget hi ho)).2.1;rw[Nat.zero_add]at this;unfold qDe at this;simp only[h1,h2,h3]at this;exact zWr hOk hI hi ho hall this
 unfold wpOpIn;simp only[ho];unfold xG at hop;cases hw:kT R.ops (kJ R.ops.toList (R.rs.take i) R.L0) o with
 | none=>simp[hw]at hop
 | some q=>
  rw[qHp hgr hw];have hnd:xQ o.op=true:=by rw[←zGz];exact hOk.nd o (by simpa using Array.mem_of_getElem? ho)
  cases q with
  | false=>
   simp only[hw,Option.some.injEq]at hop;subst hop;simp only[Bool.false_eq_true,if_false];exact⟨fun f _=>xC rr f,hk _ _ _ _ _ (hI.val hOk (Upd.refl _ _) hi ho hz (Rep.mkTu (vs:=[]) trivial) hls)⟩
  | true=>
   simp only[hw]at hop;simp only[if_true];refine zMp hnd ?_;generalize hL:kJ R.ops.toList (R.rs.take i) R.L0=L at hop hopn;have hρ:∀x,Rep B (rd w Y) ((fun x=>if x∈o.op.operands then evO L x else T.u) x) (a.eval x):=fun x=>by
    by_cases hx:x∈o.op.operands
    ·simp only[hx,if_true];exact hopn x hx
    ·simp only[hx,if_false];exact .u
   have hcg:∀x∈o.op.operands,evO L x=(fun x=>if x∈o.op.operands then evO L x else T.u) x:=fun x hx=>by simp only[hx,if_true]
   have hsub:∀(q:Nat)(x:TO),R.Hm[q]?=some x→x≠.gone→(vG l R.ks R.H0++jD l 0 R.rs)[q]?=some x:=fun q x h1 h2=>by
    have hq:q<R.H0.length:=by rw[←hOk.hml];exact(List.getElem?_eq_some_iff.1 h1).1
    rw[List.getElem?_append_left (by rw[yF];exact hq)]
    exact hOk.sub0 h1 h2
   have hsubA:∀(q:Nat)(x:TO),B q≠none→(R.Hm++qD (R.rs.take i))[q]?=some x→x≠.gone→(vG l R.ks R.H0++jD l 0 R.rs)[q]?=some x:=fun q x h1 h2 h3=>zNh hOk hI h1 h2 h3;have hH:zIk B (rd w Y) w (R.Hm++qD (R.rs.take i)):=⟨fun t v n cs us h1 h2 h3=>hI.wd.from h1 (zXz h1 hsubA h2) h3,fun q b C ml hB hn=>hI.wd.hp.map q b C ml hB (zFg (fun x=>hsubA q x (by rw[hB];simp)) hn (by simp)),fun q b C md hB hn=>hI.wd.hp.mapd q b C md hB (zFg (fun x=>hsubA q x (by rw[hB];simp)) hn (by simp))⟩
   unfold nR at hop;have hid:ln (R.Hm++qD (R.rs.take i))=R.H0.length+pos R.rs i:=by rw[qR];simp[pos,hOk.hml]
   have hks:=zMa R.ops.toList R.rs R.L0 i o z (by simpa using ho) hz
   rw[show ksE R.ops.toList R.rs R.L0=R.ks from rfl,hL]at hks;have hgoneAt:∀(t:T)(ob:TO),z=(t,some ob)→(vG l R.ks R.H0++jD l 0 R.rs)[R.H0.length+pos R.rs i]?=some .gone:=fun t ob e=>by
    subst e;rw[List.getElem?_append_right (by rw[yF];exact Nat.le_add_right _ _),yF,Nat.add_sub_cancel_left,dQ l R.rs 0 i t ob hz,Nat.zero_add,hunl];rfl
   have hfree:∀(t:T)(ob:TO)(p:Nat×Nat),z=(t,some ob)→∀(j:Nat)(t':T)(ob':TO),R.rs[j]?=some (t',some ob')→(l.setIfInBounds i true).getD j false=false→sK B (R.H0.length+pos R.rs i) p (R.H0.length+pos R.rs j)=none:=fun t ob p e j t' ob' hj hlj=>by
    subst e;have hji:i≠j:=fun e=>by subst e;rw[kU hls]at hlj;cases hlj
    rw[getD_set_ne false hji]at hlj;have hne:R.H0.length+pos R.rs j≠R.H0.length+pos R.rs i:=fun e=>by
     have e':pos R.rs j=pos R.rs i:=by omega
     rcases Nat.lt_trichotomy i j with h | h | h
     ·have:=zTj R.rs i j t ob hz h;omega
     ·exact hji h
     ·have:=zTj R.rs j i t' ob' hj h;omega
    rw[jX _ _ hne];exact hI.free j t' ob' hj hlj
   have app:∀(kq:Option Nat),(z.2≠none→R.ks[i]?=some kq)→zFr R.P R.H0 (R.Hm++qD (R.rs.take i)) kq L o.op=some z→o.wp R.P a w K Q:=fun kq hkq hap=>by
    generalize hopq:o.op=op at hap;unfold zFr at hap;split at hap
    ·rename_i c;split at hap
     ·rename_i x y t t' e1 e2 e3;cases htt:Nat.beq t t' with
      | false=>simp[htt]at hap
      | true=>
       obtain rfl:=zY htt;simp only[htt,cond_true]at hap;have hargs:c.args=#[x,y]:=Array.ext' (by simpa using e2)
       have hts:c.argTypes=#[t,t]:=Array.ext' (by simpa using e3)
       have hmem:∀u,u=x∨u=y→u∈o.op.operands:=fun u hu=>by
        rw[hopq];simp only[Op.operands,Call.operands,hargs,Array.mem_append];right;rcases hu with rfl | rfl<;>simp
       have hx:=hopn x (hmem x (.inl rfl));have hy:=hopn y (hmem y (.inr rfl));unfold zXj at hap;cases he:elT R.P t with
       | none=>simp[he]at hap
       | some e=>
        have ht:=vV he;cases hd:ldT R.P e with
        | none=>simp[he,hd]at hap
        | some gs=>
         obtain⟨g,s⟩:=gs;simp only[he,hd]at hap;split at hap
         ·rename_i us nx vs ny c1 c2 c4;cases hcond:!Nat.beq ny 0&&(aW R.P e s (nx+ny)&&vC vs)with
          | false=>simp[hcond]at hap
          | true=>
           simp only[hcond,cond_true,Option.some.injEq]at hap;simp only[Bool.and_eq_true,Bool.not_eq_true']at hcond;obtain⟨hny0,hok1,hok2⟩:=hcond;have hny:0<ny:=by
            rcases Nat.eq_zero_or_pos ny with h0 | h0
            ·subst h0;simp at hny0
            ·exact h0
           have hsubB:∀(q:Nat)(x:TO),B q≠none→(R.Hm++qD (R.rs.take i))[q]?=some x→x≠.gone→(vG l R.ks R.H0++jD l 0 R.rs)[q]?=some x:=fun q x h1 h2 h3=>zNh hOk hI h1 h2 h3;have c2':=zCn hy hsubB c2;have hzz:=hap.symm;subst hzz;have hkq:=hkq (by simp)
           have hkill:∀q,kq=some q→kY l R.ks q=false:=fun q e=>by
            subst e;cases hk':kY l R.ks q with
            | false=>rfl
            | true=>
             obtain⟨j,h1,h2⟩:=yU.1 hk';obtain rfl:=hOk.ks1 i j q hkq h1;rw[hunl]at h2;cases h2
           have hbase:zKt (vG l R.ks R.H0++jD l 0 R.rs) e s nx us (evO L x)∧qI (vG l R.ks R.H0++jD l 0 R.rs) s (evO L x)=some us.list∧jJ (evO L x)=some nx∧
             (∀j o' m,evO L x= .og j o' m→kq=some j∧∃y,(vG l R.ks R.H0++jD l 0 R.rs)[j]?=some y∧vB y=true∧j<R.H0.length)∧(kq≠none→∃j o' m,evO L x= .og j o' m):=by
            unfold qAz at c1;cases kq with
            | none=>
             simp only at c1;split at c1
             ·rename_i e4;cases c1;rw[e4];exact⟨.inl ⟨_,rfl⟩,rfl,rfl,fun j o' m h=>(by cases h),fun h=>absurd rfl h⟩
             ·rename_i i' o' m c' e4;cases hb:Nat.beq m c' with
              | false=>simp[hb]at c1
              | true=>
               obtain rfl:=zY hb;simp only[hb,cond_true]at c1;cases hcl:qI (R.Hm++qD (R.rs.take i)) s (evO L x)with
               | none=>simp[hcl]at c1
               | some u=>
                simp only[hcl,Option.some.injEq,Prod.mk.injEq]at c1;obtain⟨rfl,rfl⟩:=c1;have:=zCn hx hsubB hcl;exact⟨.inr (.inr (.inl ⟨_,_,_,e4⟩)),this,by rw[e4];rfl,fun j o' m h=>(by rw[e4]at h;cases h),fun h=>absurd rfl h⟩
             ·rename_i cs m e4;cases hcl:qI (R.Hm++qD (R.rs.take i)) s (evO L x)with
              | none=>simp[hcl]at c1
              | some u=>
               simp only[hcl,Option.some.injEq,Prod.mk.injEq]at c1;obtain⟨rfl,rfl⟩:=c1;have:=zCn hx hsubB hcl;exact⟨.inr (.inl ⟨_,_,e4⟩),this,by rw[e4];rfl,fun j o' m h=>(by rw[e4]at h;cases h),fun h=>absurd rfl h⟩
             ·cases c1
            | some q=>
             simp only at c1;split at c1
             ·rename_i j o' m e4;cases hb:Nat.beq j q&&Nat.beq o' 0 with
              | false=>simp[hb]at c1
              | true=>
               simp only[hb,cond_true]at c1;simp only[Bool.and_eq_true]at hb;obtain rfl:=zY hb.1;obtain rfl:=zY hb.2;split at c1
               ·rename_i cs e' hn;cases hb2:Nat.beq (ln cs.list) (m*s)&&Nat.beq e e' with
                | false=>simp[hb2]at c1
                | true=>
                 simp only[hb2,cond_true,Option.some.injEq,Prod.mk.injEq]at c1;obtain⟨rfl,rfl⟩:=c1;simp only[Bool.and_eq_true,qR]at hb2;obtain rfl:=zY hb2.2;have hcs:=zY hb2.1;have hg:=zPs hn (by simp)
                 have hjl:j<R.H0.length:=(List.getElem?_eq_some_iff.1 hg).1;have hg2:(vG l R.ks R.H0++jD l 0 R.rs)[j]?=some (.gro cs e):=by
                  rw[List.getElem?_append_left (by rw[yF];exact hjl),tF,hg,hkill j rfl];rfl
                 refine⟨.inr (.inr (.inr ⟨j,e4,hg2,hcs⟩)),?_,by rw[e4];rfl,fun j' o' m' h=>?_,fun _=>⟨_,_,_,e4⟩⟩
                 ·rw[e4];simp only[qI,jA,List.getD_eq_getElem?_getD,hg2,Option.getD_some,nZ];have:jT (m*s) (jK cs.list 0)=some cs.list:=by
                   rw[rR,List.drop_zero,←hcs];exact zKo cs.list
                  exact this
                 ·rw[e4]at h;cases h;exact⟨rfl,_,hg2,rfl,hjl⟩
               ·cases c1
             ·cases c1
           obtain⟨hb1,c1',c3,hb4,hb5⟩:=hbase;obtain⟨C,hC1,hC2,hA⟩:=zNy (ty:=o.type) hI.wd hx hy ht hd c1' c2' c3 c4 hny hok1 hok2 hb1;have hgo:=hgoneAt _ _ rfl;have hBi:=hI.free i _ _ hz hunl;have hlist:∀(x0:TO),(match kq with | some q=>((vG l R.ks R.H0++jD l 0 R.rs).set q .gone).set (R.H0.length+pos R.rs i) (.gro (us.apY (evO L y) vs) e) | none=>(vG l R.ks R.H0++jD l 0 R.rs).set (R.H0.length+pos R.rs i) (.gro (us.apY (evO L y) vs) e))=vG (l.setIfInBounds i true) R.ks R.H0++jD (l.setIfInBounds i true) 0 R.rs:=fun _=>by
            have e1:=dU l R.rs 0 i _ _ hz (by omega)
            rw[Nat.zero_add]at e1;cases kq with
            | none=>
             rw[e1,zDe (fun q hq=>by rw[hkq]at hq;cases hq)]
             show List.set _ _ _=_;rw[List.set_append_right _ _ (by rw[yF];exact Nat.le_add_right _ _),yF,Nat.add_sub_cancel_left]
            | some q=>
             have hq:q<(vG l R.ks R.H0).length:=by
              obtain⟨j,o',m,e4⟩:=hb5 (by simp)
              obtain⟨e5,_,_,_,h⟩:=hb4 _ _ _ e4;cases e5;rw[yF];exact h
             rw[e1,qDr hkq hls];show List.set (List.set _ _ _) _ _=_;rw[List.set_append_left _ _ hq,List.set_append_right _ _ (by rw[List.length_set,yF];exact Nat.le_add_right _ _),List.length_set,yF,Nat.add_sub_cancel_left]
           unfold Oper.wp;rcases hA with⟨obj,hrun,hRO⟩ | ⟨j,o',n',b,cur,c2'',q,ex,hB,hq,hrun,hS,hle,hRO⟩
           ·rw[gG hopq e1 hargs hts hrun];obtain⟨hW',hBl⟩:=(hI.wd.call (Upd.drew w)).fill (C:=C) hgo hBi rfl hRO rfl;have hle:=((Upd.drew w).le Y).trans (Le.hide_new (w:=w.drew) (Y:=Y) obj);refine hk _ _ (sK B (R.H0.length+pos R.rs i) (w.drew.heap.size,C)) _ ((w.drew.heap.size,obj)::Mo) ⟨?_,FrD.step hOk (hI.fr.mono hBl hle) hi ho hz ?_ hls,hI.ble.trans hBl,hI.le.trans hle,hfree _ _ _ rfl,fun j hj=>?_,by simpa using hI.lsz⟩
            ·rw[←hlist .gone];cases kq with
             | none=>exact hW'
             | some q=>
              have hne:q≠R.H0.length+pos R.rs i:=by
               obtain⟨j,o',m,e4⟩:=hb5 (by simp)
               obtain⟨e5,_,_,_,h⟩:=hb4 _ _ _ e4;cases e5;omega
              have:=hW'.gone q;rwa[List.set_comm _ _ (Ne.symm hne)]at this
            ·rw[hid];exact .og (qJ _ _ _) hC1 (fun _=>rfl) hC2
            ·rw[getD_set_ne false (by omega)];exact hI.head j hj
           ·obtain⟨rfl,x0,hj,hlx,hjl⟩:=hb4 _ _ _ ex;rw[gG hopq e1 hargs hts hrun];have hW2:=hI.wd.set hj hlx hB hq hS hle (fun cs e=>by cases e) (fun _=>hRO)
            have hjl2:j<(vG l R.ks R.H0++jD l 0 R.rs).length:=(List.getElem?_eq_some_iff.1 hj).1;have hne:j≠R.H0.length+pos R.rs i:=by omega
            obtain⟨hW3,hB3⟩:=hW2.moveTo (i:=j) (j:=R.H0.length+pos R.rs i) (x:= .gro (us.apY (evO L y) vs) e) (by rw[List.getElem?_set_self hjl2]) rfl hB (by rw[List.getElem?_set_ne hne];exact hgo) hBi
            rw[List.set_set]at hW3;refine hk _ _ (sK B (R.H0.length+pos R.rs i) (b,C)) _ (Mo.set q (b,.cells c2'' e (0,0))) ⟨?_,FrD.step hOk (hI.fr.mono hB3 hle) hi ho hz ?_ hls,hI.ble.trans hB3,hI.le.trans hle,hfree _ _ _ rfl,fun j hj=>?_,by simpa using hI.lsz⟩
            ·rw[←hlist .gone];exact hW3
            ·rw[hid];exact .og (qJ _ _ _) hC1 (fun _=>rfl) hC2
            ·rw[getD_set_ne false (by omega)];exact hI.head j hj
         ·cases hap
     ·cases hap
    ·cases hap
   cases hau:sU L o.op with
   | some q=>
    simp only[hau]at hop;exact app (some q) (fun hne=>by
     rw[hks,hau];cases hz2:z.2 with
     | none=>exact absurd hz2 hne
     | some _=>rfl) hop
   | none=>
   simp only[hau]at hop;cases hp:xB R.P (R.Hm++qD (R.rs.take i)) (ln (R.Hm++qD (R.rs.take i))) (evO L) o.op with
   | some y=>
    simp only[hp,Option.some.injEq]at hop;subst hop;rw[lF o.op hcg]at hp;have hA:=zWi hH hρ hp;obtain⟨t,ob⟩:=y;unfold Oper.wp;cases ob with
    | none=>
     obtain⟨v,hrun,hR⟩:=hA;rw[hrun];exact hk _ _ _ _ _ (hI.val hOk (Upd.refl _ _) hi ho hz hR hls)
    | some ob=>
     obtain⟨C,obj,vf,hrun,hl,hR,hv⟩:=hA;rw[hrun];rw[hid]at hv;obtain⟨hW',hB⟩:=hI.wd.fill (hgoneAt t ob rfl) (hI.free i t ob hz hunl) hl hR rfl;have hle:=Le.hide_new (w:=w) (Y:=Y) obj;refine hk _ _ _ _ ((w.heap.size,obj)::Mo) ⟨?_,FrD.step hOk (hI.fr.mono hB hle) hi ho hz ((hv _).mono (BLe.refl _) hle) hls,hI.ble.trans hB,hI.le.trans hle,hfree t ob _ rfl,fun j hj=>?_,by simpa using hI.lsz⟩
     ·have e:=dU l R.rs 0 i t ob hz (by omega)
      rw[Nat.zero_add]at e;rw[e,zDe (fun q hq=>by rw[hks,hau]at hq;cases hq)]
      rw[List.set_append_right _ _ (by rw[yF];exact Nat.le_add_right _ _),yF,Nat.add_sub_cancel_left]at hW'
      exact hW'
     ·rw[getD_set_ne false (by omega)];exact hI.head j hj
   | none=>
    simp only[hp]at hop;cases hc:nQ R.P po (R.Hm++qD (R.rs.take i)) L o.op with
    | some t=>
     simp only[hc,Option.some.injEq]at hop;subst hop;generalize hopq:o.op=op at hc;unfold nQ at hc;split at hc
     ·rename_i c;split at hc
      ·rename_i fx e1;split at hc
       ·rename_i f cs e2;cases hen:jO R.P f with
        | false=>simp[hen]at hc
        | true=>
         simp only[hen,cond_true]at hc;have hmem:∀x,x=fx∨x∈c.args.toList→x∈o.op.operands:=fun x hx=>by
          rw[hopq];simp only[Op.operands,Call.operands,e1,Array.mem_append];rcases hx with rfl | hx
          ·left;simp
          ·right;simpa using hx
         have hfx:=hopn fx (hmem fx (.inl rfl));rw[e2]at hfx;obtain⟨caps,hv,hcs⟩:=hfx.fnI;have hargs:zN B (rd w Y) (c.args.toList.map (evO L)) (c.args.toList.map a.eval):=by
          have:∀l:List Operand,(∀x∈l,x∈o.op.operands)→zN B (rd w Y) (l.map (evO L)) (l.map a.eval):=by
           intro l;induction l with
           | nil=>intro _;trivial
           | cons x l ih=>exact fun h=>⟨hopn x (h x List.mem_cons_self),ih fun y hy=>h y (List.mem_cons_of_mem _ hy)⟩
          exact this _ fun x hx=>hmem x (.inr hx)
         unfold Oper.wp;rw[zCt hopq e1 hv hen w];have hOw:Ow B (rd w Y) w (fun b=>∃ob,(b,ob)∈Mo) (R.Hm++qD (R.rs.take i)):=fun q b C cs hB hown=>by
          refine hI.wd.ow q b C cs hB ?_;cases hx:nth .gone (R.Hm++qD (R.rs.take i)) q with
          | gone=>rw[hx]at hown;cases hown
          | _=>rw[hx]at hown;rw[zFg (fun x h1 h2=>zNh hOk hI (by rw[hB];simp) h1 h2) hx (by simp)];exact hown
         refine qGh (k:=k) hOk.po hc hOw hI.wd.ivw hI.wd.bNle hI.wd.st.lt (fun q hq=>?_) (hargs.app hcs) fun v w' hu hv=>?_
         ·refine hI.wd.nn q ?_;rw[List.length_append,zDk,yF];have hle:∀rs:List (T×Option TO),(qD rs).length≤rs.length:=by
           intro rs;induction rs with
           | nil=>simp[qD]
           | cons z rs ih=>obtain⟨t,ob⟩:=z;cases ob<;>simp[qD]<;>omega
          have h1:=hle R.rs;have h2:=hOk.len;have h3:=hOk.bd;simp at h2;omega
         ·exact hk _ _ _ _ _ (hI.val hOk hu hi ho hz hv hls)
       ·cases hc
      ·cases hc
     ·cases hc
    | none=>
     simp only[hc]at hop;cases hap:zFr R.P R.H0 (R.Hm++qD (R.rs.take i)) none L o.op with
     | some y=>
      simp only[hap,Option.some.injEq]at hop;subst hop;exact app none (fun _=>by
       rw[hks,hau];cases y.2<;>rfl) hap
     | none=>
     simp only[hap]at hop;cases hm:zBl R.P (evO L) o with
     | none=>simp[hm]at hop
     | some t=>
      simp only[hm,Option.some.injEq]at hop;subst hop;rw[aH o hcg]at hm;obtain⟨v,hrun,hR⟩:=qEg (P:=R.P) (w:=w) (ρ:=a.eval) (k:=0) hρ hm;unfold Oper.wp;rw[hrun];exact hk _ _ _ _ _ (hI.val hOk (Upd.refl _ _) hi ho hz hR hls)
theorem zTg{P:Program}{H:List TO}{t:TypeId}{x:T}{z:T×Option TO}(h:zBr P H t x=some z):z.2=none:=by
 unfold zBr at h
 repeat' split at h
 all_goals try simp only[Bool.cond_eq_ite]at h
 all_goals repeat' split at h
 all_goals first | exact qC h | cases h
theorem qKj{P:Program}{po:Po}{H0 Hm Hn:List TO}{L:List T}{ops:Array Oper}{p:Oper}{z:T×Option TO}(h:cB p=true)(hz:xG P po H0 Hm Hn L ops p=some z):z.2=none:=by
 unfold cB at h;simp only[Bool.and_eq_true]at h;have hg:p.guard=none:=by
  cases hg:p.guard with
  | none=>rfl
  | some _=>have:=h.1;rw[hg]at this;cases this
 have h2:=h.2;split at h2
 ·rename_i t x ho;unfold xG kT at hz;rw[hg]at hz;have hk:sU L p.op=none:=by rw[ho];rfl
  simp only[nR,hk]at hz;cases hp:xB P Hn (ln Hn) (evO L) p.op with
  | some y=>
   simp only[hp,Option.some.injEq]at hz;subst hz;rw[ho]at hp;simp only[xB]at hp;exact zTg hp
  | none=>
   have hc:nQ P po Hn L p.op=none:=by rw[ho];rfl
   have ha:zFr P H0 Hn none L p.op=none:=by rw[ho];rfl
   simp only[hp,hc,ha]at hz;cases hm:zBl P (evO L) p with
   | none=>simp[hm]at hz
   | some t=>simp only[hm,Option.some.injEq]at hz;subst hz;rfl
 ·cases h2
theorem zJe{P:Program}{E:Nat→Prop}{w0:World}{X:Hid}{F:List Nat}{n:Nat}{D:List Deferred}{ops:Array Oper}{cl yd:Cl}{po:Po}{id:Nat}(hm:P.follows .mixedOrders=true){s s':S}(hpo:∀f az tv nw,po f az=some (tv,nw)→KnP P (ln s.H+ops.size) f az tv nw)(hcl:kV P cl)(hyd:xK P yd)
  (hok:gQ ops=true) (hW:Wd P E w0 X F s.H B w Y Mo) (hF:FrT n a s.L D B (rd w Y)) (hk:pY P E w0 X F n D s'.H s'.L B (rd w Y) (Q .normal)) (Hm:List TO) (rs:List (T×Option TO)) (hml:Hm.length=s.H.length) (hms:∀(q:Nat)(x:TO),Hm[q]?=some x→x≠.gone→s.H[q]?=some x)
  (hrs:∀(i:Nat)(z:T×Option TO),rs[i]?=some z→∃o,ops.toList[i]?=some o∧xG P po s.H Hm (Hm++qD (rs.take i)) (kJ ops.toList (rs.take i) s.L) ops o=some z) (hlen:rs.length≤ops.toList.length) (h:drF P cl yd ops s Hm rs=some s'):(Code.region id ops true).wpIn (FF rr) 0 P Q a w:=by
 unfold drF at h;cases hd:qCg ops (ln rs)&&zLz Hm (ksE ops.toList rs s.L)with
 | false=>simp[hd]at h
 | true=>
 simp only[hd,cond_true]at h;simp only[Bool.and_eq_true]at hd;obtain⟨hd,hks⟩:=hd;unfold qCg at hd;simp only[Bool.and_eq_true]at hd;rw[qR]at hd h;unfold jAo at h;cases hld0:rX P ops ⟨kJ ops.toList rs s.L,xO (ksE ops.toList rs s.L) s.H++qD rs⟩ (bZ ops rs.length)with
 | false=>simp[hld0]at h
 | true=>
 simp only[hld0,cond_true]at h;have hnd:∀o∈ops.toList,kK o.op=true:=fun o ho=>List.all_eq_true.1 hok o ho;have hOk:Ok ⟨P,E,w0,X,F,n,D,ops,s.H,Hm,s.L,rs,B,rd w Y⟩ po (ln s.H+ops.size):=by
  refine⟨fun i z hz=>?_,hd.1,hd.2.1,hd.2.2,?_,?_,?_,?_,hnd,hml,hms,(dJ hks).1,(dJ hks).2⟩
  ·exact hrs i z hz
  ·exact hlen
  ·have:=hF.reps.length;rw[this];simpa using hF.size
  ·exact hpo
  ·show s.H.length+ops.size≤ln s.H+ops.size;rw[qR];exact Nat.le_refl _
 have htl:∀(j:Nat)(o:Oper),rs.length≤j→ops[j]?=some o→∀q,q<j→(∀S:Nat→Prop,zIn ops.toList S→(∀e∈o.after,Region.binds .any e=true→S e.on)→S q)∨∃p,ops[q]?=some p∧xP rs.length (bZ ops rs.length) (vlR ops rs.length) q p=true∧bF ops o p=true:=fun j o hj ho q hq=>by
  rcases zNj hd.2.1 j o hj (by simpa using ho) q hq with h1 | ⟨p,h2,h3⟩
  ·exact .inl h1
  ·exact .inr ⟨p,by simpa using h2,h3⟩
 have hdp:∀(i:Nat)(p:Oper)(t:Nat),i<rs.length→ops[i]?=some p→Operand.tmp t∈p.op.operands→∀(i':Nat)(p':Oper),i'<rs.length→ops[i']?=some p'→p'.dst=some t→i'<i∧∃e∈p.after,Region.binds .any e=true∧e.on=i':=fun i p t hi hp ht i' p' hi' hp' hd'=>by
  have h1:=(xL hOk.hd i p (hOk.hget hi hp)).1 (.tmp t) (by simpa using ht)
  rw[Nat.zero_add]at h1;have h1:zDu (ops.toList.take rs.length) p i t=true:=h1;unfold zDu at h1;cases hw:wrt t (ops.toList.take rs.length) 0 with
  | none=>exact absurd hd' (fP hw i' p' (hOk.hget hi' hp'))
  | some j=>
   simp only[hw,Bool.and_eq_true,Nat.blt_eq]at h1;obtain⟨j',o',e1,h3,h4⟩:=zCk hw;obtain rfl:j=j':=by omega
   have hj:j<rs.length:=by omega
   have ho':ops[j]?=some o':=by
    rw[List.getElem?_take,if_pos hj]at h3;simpa using h3
   obtain rfl:i'=j:=hOk.once hi' hj hp' ho' hd' h4;exact⟨h1.1,zEo h1.2⟩
 have heg:∀(j:Nat)(o:Oper),ops[j]?=some o→∀e∈o.after,Region.binds .any e=true→e.on<j:=fun j o ho e he hb=>by
  have:=zAf hd.2.2 j o (by simpa using ho) e he hb
  rwa[Nat.zero_add]at this
 refine wpIn_region_any hm ?_;have hup:=Upd.drew w;have hW0:Wd P E w0 X F s.H B w.drew Y Mo:=hW.call hup;have main:∀(fuel:Nat)(l:Array Bool)(a':Act)(w':World)(B':Bm)(Y':Hid)(Mo':List (Nat×Obj)),Inv ⟨P,E,w0,X,F,n,D,ops,s.H,Hm,s.L,rs,B,rd w Y⟩ l a' w' B' Y' Mo'→zNq l≤fuel→zIn ops.toList (fun q=>l.getD q false=true)→wpAnyIn (FF rr) 0 P .any ops Q fuel l a' w':=by
  have toTail:∀(fuel:Nat)(l:Array Bool)(a':Act)(w':World)(B':Bm)(Y':Hid)(Mo':List (Nat×Obj)),Inv ⟨P,E,w0,X,F,n,D,ops,s.H,Hm,s.L,rs,B,rd w Y⟩ l a' w' B' Y' Mo'→zNq l≤fuel→zIn ops.toList (fun q=>l.getD q false=true)→(∀(i:Nat)(p:Oper),i<rs.length→l.getD i false=false→ops[i]?=some p→xP rs.length (bZ ops rs.length) (vlR ops rs.length) i p=true)→wpAnyIn (FF rr) 0 P .any ops Q fuel l a' w':=fun fuel l a' w' B' Y' Mo' hI hu hsh hall=>by
   have hlz:l.size=ops.size:=hI.lsz;have hmle:rs.length≤ops.size:=by have:=hOk.len;simpa using this
   have hlate:∀(i:Nat)(z:T×Option TO),rs[i]?=some z→l.getD i false=false→∃p,ops[i]?=some p∧xP rs.length (bZ ops rs.length) (vlR ops rs.length) i p=true∧z.2=none∧(yG p=true→lK P (kJ ops.toList (rs.take i) s.L) p z.1):=fun i z hz hl=>by
    obtain⟨p,h1,h2⟩:=hOk.spec i z hz;have h1:ops.toList[i]?=some p:=h1;have h1':ops[i]?=some p:=by simpa using h1
    have hk:=hall i p (List.getElem?_eq_some_iff.1 hz).1 hl h1';rcases zAr hk with hk' | ⟨hk1,hk2⟩
    ·exact⟨p,h1',hk,(lK.of_head hk' h2).1,fun _=>(lK.of_head hk' h2).2⟩
    ·exact⟨p,h1',hk,qKj hk1 h2,fun hk'=>(lK.of_head hk' h2).2⟩
   have hW1:Wd P E w0 X F (xO (ksE ops.toList rs s.L) s.H++qD rs) B' w' Y' Mo':=by
    have:Wd P E w0 X F (vG l (ksE ops.toList rs s.L) s.H++jD l 0 rs) B' w' Y' Mo':=hI.wd;rw[zDj l rs 0 (fun i t ob hi=>?_),qDq (fun i q hq=>?_)]at this
    ·exact this
    ·cases hc:l.getD i false with
     | true=>rfl
     | false=>
      have hi:i<rs.length:=Nat.lt_of_lt_of_le (List.getElem?_eq_some_iff.1 hq).1 (qDt _ _ _);obtain⟨z,hz⟩:∃z,rs[i]?=some z:=⟨rs[i],by simp[hi]⟩
      obtain⟨p,h1,h2,h3,_⟩:=hlate i z hz hc;rw[zMa ops.toList rs s.L i p z (by simpa using h1) hz,h3]at hq;cases hq
    ·rw[Nat.zero_add];cases hc:l.getD i false with
     | true=>rfl
     | false=>
      obtain⟨p,_,_,h3,_⟩:=hlate i _ hi hc;cases h3
   have hF1:FrL n a' (kJ ops.toList rs s.L) D B' (rd w' Y') (Pnd ops rs.length l):=by
    refine⟨hI.fr.size,by rw[dK];exact hOk.slots,hI.fr.defers,fun t v hnp hv=>?_⟩
    by_cases he:∃(j:Nat)(o:Oper),j<rs.length∧ops[j]?=some o∧o.dst=some t
    ·obtain⟨j,o,hj,ho,hdt⟩:=he;obtain⟨z,hz⟩:∃z,rs[j]?=some z:=⟨rs[j],by simp[hj]⟩
     have ht:t<s.L.length:=by
      have h1:=(Array.getElem?_eq_some_iff.1 hv).1;have h2:a'.tmps.size=n:=hI.fr.size;have h3:s.L.length=n:=hOk.slots;omega
     rw[dL ops.toList rs s.L t j o z ht (by simpa using ho) hz hdt fun q o' hq hl ho' hd'=>hq (hOk.once hl hj (by simpa using ho') ho hd' hdt)]
     refine hI.fr.done j z o t v hz ho hdt ?_ hv;cases hc:l.getD j false with
     | true=>rfl
     | false=>exact absurd ⟨j,o,hj,hc,ho,hdt⟩ hnp
    ·rw[nV ops.toList rs s.L t (fun j o hj ho hd=>he ⟨j,o,hj,by simpa using ho,hd⟩)]
     exact hI.fr.rest t v (fun j o hj ho hd=>absurd ⟨j,o,hj,ho,hd⟩ he) hv
   refine qMr hcl hyd (m:=rs.length) htl (fun i o h1 h2=>qMy h2 h1) (fun i p t h1 h2 h3 i' p' h4 h5 h6=>(hdp i p t h1 h2 h3 i' p' h4 h5 h6).2) heg hnd fuel rs.length _ s' h (Nat.le_refl _) hu hlz (fun i hi=>?_) hsh (fun i p hi hl hp=>?_) hW1 hF1 hI.ble hI.le hk
   ·exact hI.head i hi
   ·obtain⟨z,hz⟩:∃z,rs[i]?=some z:=⟨rs[i],by simp[hi]⟩
    obtain⟨p',h1,h2,_,h4⟩:=hlate i z hz hl;rw[hp]at h1;cases h1;rcases zAr h2 with hkk | ⟨hk1,hk2⟩
    case inr=>
     obtain⟨d2,q1,q2⟩:=sG.of_ld hp hk1 hk2 hld0;exact⟨h2,_,q2,fun d' hd' _=>by rw[q1]at hd';cases hd';rfl⟩
    refine⟨h2,z.1,.inl ⟨hkk,(h4 hkk).congr fun x hx=>?_⟩,fun d hd' hlt=>?_⟩
    ·cases x with
     | tmp t=>
      show nth .u (kJ ops.toList (rs.take i) s.L) t=nth .u (kJ ops.toList rs s.L) t;by_cases he:∃(j:Nat)(o:Oper),j<rs.length∧ops[j]?=some o∧o.dst=some t
      ·obtain⟨j,o,hj,ho,hdt⟩:=he;obtain⟨hji,_⟩:=hdp i p t hi hp hx j o hj ho hdt;obtain⟨zj,hzj⟩:∃z,rs[j]?=some z:=⟨rs[j],by simp[hj]⟩
       rcases Nat.lt_or_ge t s.L.length with ht | ht
       ·rw[dL ops.toList rs s.L t j o zj ht (by simpa using ho) hzj hdt fun q o' hq hl ho' hd'=>hq (hOk.once hl hj (by simpa using ho') ho hd' hdt),
         dL ops.toList (rs.take i) s.L t j o zj ht (by simpa using ho) (by rw[List.getElem?_take,if_pos hji];exact hzj) hdt fun q o' hq hl ho' hd'=>hq (hOk.once (Nat.lt_of_lt_of_le hl (by rw[List.length_take];exact Nat.min_le_right _ _)) hj (by simpa using ho') ho hd' hdt)]
       ·simp only[jA,List.getD_eq_getElem?_getD];rw[List.getElem?_eq_none (by rw[dK];exact ht),List.getElem?_eq_none (by rw[dK];exact ht)]
      ·rw[nV ops.toList rs s.L t (fun j o hj ho hd=>he ⟨j,o,hj,by simpa using ho,hd⟩),nV ops.toList (rs.take i) s.L t (fun j o hj ho hd=>he ⟨j,o,Nat.lt_of_lt_of_le hj (by rw[List.length_take];exact Nat.min_le_right _ _),by simpa using ho,hd⟩)]
     | _=>rfl
    ·rw[dK]at hlt;exact dL ops.toList rs s.L d i p z hlt (by simpa using hp) hz hd' fun q o' hq hl ho' hd2=>hq (hOk.once hl hi (by simpa using ho') hp hd2 hd')
  intro fuel;induction fuel with
  | zero=>
   intro l a' w' B' Y' Mo' hI hu hsh;refine toTail 0 l a' w' B' Y' Mo' hI hu hsh fun i p hi hc=>?_;have hlz:l.size=ops.size:=hI.lsz;have hmle:rs.length≤ops.size:=by have:=hOk.len;simpa using this
   have:=zCg (by omega) hc
   omega
  | succ fuel ih=>
   intro l a' w' B' Y' Mo' hI hu hsh;by_cases hall:∀(i:Nat)(p:Oper),i<rs.length→l.getD i false=false→ops[i]?=some p→xP rs.length (bZ ops rs.length) (vlR ops rs.length) i p=true
   ·exact toTail _ l a' w' B' Y' Mo' hI hu hsh hall
   ·have hlz:l.size=ops.size:=hI.lsz;have hmle:rs.length≤ops.size:=by have:=hOk.len;simpa using this
    obtain⟨i1,p1,hi1,hl1,hp1,hk1⟩:∃(i:Nat)(p:Oper),i<rs.length∧l.getD i false=false∧ops[i]?=some p∧¬xP rs.length (bZ ops rs.length) (vlR ops rs.length) i p=true:=by
     refine Classical.byContradiction fun hn=>hall fun i p h1 h2 h3=>?_;exact Classical.byContradiction fun h4=>hn ⟨i,p,h1,h2,h3,h4⟩
    obtain⟨i0,hi0,hl0,hbelow⟩:=zJw ⟨i1,hi1,hl1⟩;obtain⟨o0,ho0⟩:∃o,ops[i0]?=some o:=⟨ops[i0]'(by omega),by simp⟩
    have hr0:i0∈Region.ready .any ops l:=zQn hlz ho0 hl0 fun e he hb=>hbelow _ (heg i0 o0 ho0 e he hb);refine⟨fun h0=>absurd (h0▸hr0) (by simp),fun i hi=>?_⟩
    obtain⟨hun,oi,hoi,hall'⟩:=mem_ready.1 hi;have him:i<rs.length:=by
     rcases Nat.lt_or_ge i rs.length with h1 | h1
     ·exact h1
     ·rcases htl i oi h1 hoi i1 (by omega)with h2 | ⟨p,h2,h3,_⟩
      ·have:=h2 (fun q=>l.getD q false=true) hsh hall';rw[hl1]at this;cases this
      ·rw[hp1]at h2;cases h2;exact absurd h3 hk1
    have hil:i<l.size:=by omega
    have hc:l.getD i false=false:=by simpa[hil]using hun
    refine zYa hOk hI him hi fun a2 w2 B2 Y2 Mo2 hI2=>ih _ a2 w2 B2 Y2 Mo2 hI2 ?_ (hsh.set (by simpa using hoi) hil hall')
    have:=zCg hil hc;omega
 have hz:∀i,(Array.replicate ops.size false).getD i false=false:=fun i=>by
  by_cases hi:i<ops.size<;>simp[hi]
 refine main ops.size _ a _ B Y Mo ⟨?_,⟨hF.size,hF.defers,fun i z o d v _ _ _ hl _=>?_,fun t v _ hv=>?_⟩,BLe.refl B,hup.le Y,fun i t ob _ _=>hW0.nn _ (Nat.le_add_right _ _),fun i _=>hz i,by simp⟩ ?_ (fun i _ _ h2=>absurd (show(Array.replicate ops.size false).getD i false=true from h2) (by rw[hz];simp))
 ·show Wd P E w0 X F (vG _ _ s.H++_) B _ Y Mo;rw[zYd (fun i _=>hz i)];have hgone:∀(i:Nat)(x:TO),(s.H++jD (Array.replicate ops.size false) 0 rs)[i]?=some x→x≠.gone→s.H[i]?=some x:=fun i x hx hne=>by
   rcases Nat.lt_or_ge i s.H.length with hi | hi
   ·rwa[List.getElem?_append_left hi]at hx
   ·rw[List.getElem?_append_right hi]at hx;exact absurd (zDl _ rs 0 _ x (fun i _=>hz _) hx) hne
  have ng:∀{y:TO},vB y=true→y≠.gone:=fun h e=>by subst e;cases h
  exact⟨hW0.st,fun i x hx hl=>hW0.ob i x (hgone i x hx (ng hl)) hl,fun i cs hx=>hW0.fz i cs (hgone i _ hx (by simp)),fun i hi=>hW0.nn i (by simp at hi;omega),
   fun i j oi oj p q h1 l1 h2 l2=>hW0.inj i j oi oj p q (hgone i _ h1 (ng l1)) l1 (hgone j _ h2 (ng l2)) l2,hW0.bN,hW0.iv⟩
 ·rw[hz]at hl;cases hl
 ·have hR:=hF.reps.getD t;have:a.tmps.toList.getD t undef=v:=by simp[hv]
  rw[this]at hR;exact hR.mono (BLe.refl B) (hup.le Y)
 ·have:zNq (Array.replicate ops.size false)=ops.size:=by
   have h:=zTw (l:=Array.replicate ops.size false) (j:=0) (fun i=>by rw[hz];simp) (Nat.zero_le _)
   simpa using h
  omega
theorem qJa{P:Program}{E:Nat→Prop}{w0:World}{X:Hid}{F:List Nat}{n:Nat}{D:List Deferred}{ops:Array Oper}{cl yd:Cl}{rn:Rn}{O:Po}{id:Nat}(hm:P.follows .mixedOrders=true)(hO:zL P O)(hrn:sS P rn)(hcl:kV P cl)(hyd:xK P yd)
  (hok:gQ ops=true) {s s':S} (h:drE P O rn cl yd ops s=some s') (hW:Wd P E w0 X F s.H B w Y Mo) (hF:FrT n a s.L D B (rd w Y)) (hk:pY P E w0 X F n D s'.H s'.L B (rd w Y) (Q .normal)):(Code.region id ops true).wpIn (FF rr) 0 P Q a w:=by
 have core:∀(Hm:List TO)(rs:List (T×Option TO)),Hm.length=s.H.length→(∀(q:Nat)(x:TO),Hm[q]?=some x→x≠.gone→s.H[q]?=some x)→(∃k,rs=(sH P (zHp P O rn (ln s.H+ops.size)) s.H Hm ops ops.toList [] Hm s.L).take k)→drF P cl yd ops s Hm rs=some s'→(Code.region id ops true).wpIn (FF rr) 0 P Q a w:=fun Hm rs hml hms hrs h=>by
  refine zJe (po:=zHp P O rn (ln s.H+ops.size)) hm (fun f az tv nw hp=>?_) hcl hyd hok hW hF hk Hm rs hml hms (fun i z hz=>?_) ?_ h
  ·unfold zHp at hp;cases ho:O f az with
   | some y=>simp only[ho,Option.some.injEq]at hp;subst hp;exact hO _ _ _ _ ho _
   | none=>simp only[ho]at hp;exact zGf (gD hm hrn) hp
  ·obtain⟨k,rfl⟩:=hrs;rw[List.getElem?_take]at hz;split at hz
   ·rename_i hik;have:=zJm _ _ _ _ _ _ hz;rw[List.take_take,Nat.min_eq_left (Nat.le_of_lt hik)];exact this
   ·cases hz
  ·obtain⟨k,rfl⟩:=hrs;rw[List.length_take];exact Nat.le_trans (Nat.min_le_right _ _) (zPb _ _ _ _)
 unfold drE drU at h;generalize qIx ops ops.toList (sH P (zHp P O rn (ln s.H+ops.size)) s.H s.H ops ops.toList [] s.H s.L) 0=kk at h;unfold drG at h;have hkm:∀ks:List (Option Nat),∀(q:Nat)(x:TO),(xO ks s.H)[q]?=some x→x≠.gone→s.H[q]?=some x:=fun ks q x h1 h2=>by
  rw[nU]at h1;split at h1
  ·cases hq:s.H[q]? with
   | none=>rw[hq]at h1;cases h1
   | some y=>rw[hq]at h1;cases h1;exact absurd rfl h2
  ·exact h1
 cases hany:qQk (ksE ops.toList ((sH P (zHp P O rn (ln s.H+ops.size)) s.H s.H ops ops.toList [] s.H s.L).take kk) s.L)with
 | true=>simp only[hany,cond_true]at h;exact core _ _ (zJq _ _) (hkm _) ⟨kk,rfl⟩ h
 | false=>simp only[hany,cond_false]at h;exact core s.H _ rfl (fun _ _ h _=>h) ⟨kk,rfl⟩ h
end
section
variable {P:Program}{E:Nat→Prop}{w0:World}{X:Hid}{F:List Nat}{H:List TO}{B B':Bm}{w w':World}{Y Y':Hid}{Mo:List (Nat×Obj)}{o:Oper}{r r':Rd}{n:Nat}{a:Act}{L:List T}{D:List Deferred}{Q:Exit→Act→World→Prop}{K:Act→World→Prop}{cl yd:Cl}{O:Po}{rr:Option Nat}{ops:Array Oper}{rest:List Oper}{rn:Rn}
theorem Wd.lp(hW:Wd P E w0 X F H B w Y Mo){i b0 C:Nat}{ps:List Nat}{c1 c2:Code}{q:Bool}{pd:Option Code}(hi:H[i]?=some (.loop L ps c1 c2 q pd))(hB:B i=some (b0,C)):
  ∃(rec:Loop)(k:Nat),(Mo++xH F)[k]?=some (b0,.loop rec)∧(zN B (rd w Y) L rec.tmps.toList∧rec.params.toList=ps∧rec.assign=c1∧rec.body=c2∧noR c1=true∧noR c2=true∧LSt q pd rec)∧
   (∀rec' q' pd',rec'.tmps=rec.tmps→rec'.params=rec.params→rec'.assign=rec.assign→rec'.body=rec.body→LSt q' pd' rec'→
    Wd P E w0 X F (H.set i (.loop L ps c1 c2 q' pd')) B (w.putObj b0 (.loop rec')) Y (Mo.set k (b0,.loop rec'))∧Le (rd w Y) (rd (w.putObj b0 (.loop rec')) Y))∧
   ∀rec',Wd P E w0 X F (H.set i .gone) B (w.putObj b0 (.loop rec')) Y (Mo.set k (b0,.loop rec'))∧Le (rd w Y) (rd (w.putObj b0 (.loop rec')) Y):=by
 obtain⟨b',C',ob,g1,g2,g3⟩:=hW.ob i _ hi rfl;rw[hB]at g1;cases g1;cases g3 with
 | @loop _ _ _ _ rec _ _ hL hp ha hb hna hnb hs=>
  obtain⟨k,hk⟩:=List.getElem?_of_mem g2;have hkl:k<Mo.length:=(List.getElem?_eq_some_iff.1 hk).1;have hk2:(Mo++xH F)[k]?=some (b0,.loop rec):=by rw[List.getElem?_append_left hkl];exact hk
  have hS:∀rec',St E w0 X (w.putObj b0 (.loop rec')) Y (Mo.set k (b0,.loop rec')++xH F)∧Le (rd w Y) (rd (w.putObj b0 (.loop rec')) Y):=fun rec'=>by
   obtain⟨h1,h2⟩:=hW.st.putObj (o':= .loop rec') k hk2;rw[List.set_append_left _ _ hkl]at h1;exact⟨h1,h2⟩
  refine⟨rec,k,hk2,⟨hL,hp,ha,hb,hna,hnb,hs⟩,fun rec' q' pd' e1 e2 e3 e4 hs'=>?_,fun rec'=>?_⟩
  ·obtain⟨h1,h2⟩:=hS rec';exact⟨hW.set hi rfl hB hk h1 h2 (fun cs e=>by cases e) (fun _=> .loop (by rw[e1];exact hL.mono (BLe.refl B) h2) (by rw[e2];exact hp) (by rw[e3];exact ha) (by rw[e4];exact hb) hna hnb hs'),h2⟩
  ·obtain⟨h1,h2⟩:=hS rec';exact⟨hW.set hi rfl hB hk h1 h2 (fun cs e=>by cases e) (fun e=>by cases e),h2⟩
theorem zQl:∀{ps:List Nat}{az L:List T}{qC:List Value}{tm:Array Value},ps.length=az.length→zN B r az qC→zN B r L tm.toList→zN B r (zHs L ps az) ((ps.zip qC).foldl (fun t(x:Nat×Value)=>t.setIfInBounds x.1 x.2) tm).toList
 | [],[],L,[],tm,_,_,h=>by simpa[zHs]using h
 | p::ps,t::az,L,v::qC,tm,hl,hA,h=>by
  simp only[zHs,List.zip_cons_cons,List.foldl_cons];refine zQl (by simpa using hl) hA.2 ?_
  have:=h.put p hA.1;simpa using this
 | [],_::_,_,_,_,hl,_,_=>by simp at hl
 | _::_,[],_,_,_,hl,_,_=>by simp at hl
 | _,[],_,_::_,_,_,hA,_=>hA.elim
 | _,_::_,_,[],_,_,hA,_=>hA.elim
theorem zQk:∀(ps:List Nat)(az L:List T),(zHs L ps az).length=L.length
 | [],_,_=>by simp[zHs]
 | _::_,[],_=>by simp[zHs]
 | p::ps,t::az,L=>by rw[zHs,zQk ps az,yP];simp
theorem mY{l:List TO}{i:Nat}{x:TO}(h:nth .gone l i=x)(hx:x≠.gone):l[i]?=some x:=by
 rw[jA,List.getD_eq_getElem?_getD]at h;cases hi:l[i]? with
 | none=>rw[hi]at h;exact absurd h.symm hx
 | some y=>rw[hi]at h;simp at h;rw[h]
theorem zRj(hrn:sS P rn):xK P (zEa rn):=by
 intro l az H tv H' h E w0 X F B w Y Mo qC R b0 C hW hA hB hk;unfold zEa at h;split at h
 ·rename_i L ps c1 c2 hl;have hi:=mY hl (by simp)
  cases hlen:Nat.beq (ln ps) (ln az)with
  | false=>simp[hlen]at h
  | true=>
   simp only[hlen,cond_true]at h;have hlen:=zY hlen;rw[qR,qR]at hlen;obtain⟨rec,k,hk2,⟨hL,hp,ha,hb,hna,hnb,hs⟩,_,_⟩:=hW.lp hi hB;have hpl:rec.params.size=az.length:=by rw[←hlen,←hp];simp
   refine zXd k hW.st hk2 (by rw[hpl,hA.length];simp) ?_
   have hF:FrT rec.tmps.size {tmps:=(rec.params.zip qC.toArray).foldl (fun tmps(t,a)=>tmps.setIfInBounds t a) rec.tmps,defers:=[]} (zHs L ps az) [] B (rd w Y):=by
    have hz:((rec.params.zip qC.toArray).foldl (fun tmps(x:Nat×Value)=>tmps.setIfInBounds x.1 x.2) rec.tmps)=(ps.zip qC).foldl (fun t(x:Nat×Value)=>t.setIfInBounds x.1 x.2) rec.tmps:=by
     rw[←Array.foldl_toList,Array.toList_zip,hp]
    have hR:=zQl (ps:=ps) hlen hA hL;refine⟨?_,?_,rfl⟩
    ·show((rec.params.zip qC.toArray).foldl (fun tmps(x:Nat×Value)=>tmps.setIfInBounds x.1 x.2) rec.tmps).size=_;rw[hz];have h1:=hR.length;rw[zQk]at h1;have h2:=hL.length;simp at h1 h2;omega
    ·show zN B (rd w Y) _ ((rec.params.zip qC.toArray).foldl (fun tmps(x:Nat×Value)=>tmps.setIfInBounds x.1 x.2) rec.tmps).toList;rw[hz];exact hR
   unfold qBb at h;split at h
   ·rename_i s1 J1;split at h
    ·rename_i L2 ps2 d1 d2 hl2;have hi2:=mY hl2 (by simp)
     subst ha;refine hrn _ _ _ _ J1 E w0 X F rec.tmps.size _ [] B w Y Mo (some b0) _ (.inr hna) hW hF fun a1 w1 B1 Y1 Mo1 bs hbs g1 g2 g3 g4=>?_;obtain rfl:=hbs hna;obtain⟨rec2,k2,hk3,⟨_,_,_,_,_,_,hs2⟩,hset,_⟩:=Wd.lp g1 hi2 (g3 _ _ hB);obtain⟨hWb,hleb⟩:=hset {rec2 with state:= .busy} false none rfl rfl rfl rfl rfl
     refine⟨_,run_beginRound (g1.st.get k2 hk3) hs2.1,?_⟩;unfold qSv at h;subst hb;split at h
     ·rename_i e s2 J2;rw[yP]at J2;refine hrn _ _ _ _ J2 E w0 X F rec.tmps.size a1 [] B1 _ Y1 _ (some b0) _ (.inr hnb) hWb (g2.mono (BLe.refl _) hleb) fun a3 w3 B3 Y3 Mo3 bs hbs f1 f2 f3 f4=>?_;obtain rfl:=hbs hnb;split at h
      ·rename_i L4 ps4 e1 e2 hl4;have hi4:=mY hl4 (by simp)
       obtain⟨rec4,k4,hk5,⟨_,_,_,_,_,_,hs4⟩,hset4,_⟩:=Wd.lp f1 hi4 (f3 _ _ (g3 _ _ hB));have G4:=(g4.trans hleb).trans f4;cases e with
       | n=>
        simp only[Option.some.injEq,Prod.mk.injEq,yP]at h;obtain⟨rfl,rfl⟩:=h;obtain⟨hWe,hlee⟩:=hset4 {rec4 with state:= .ready,pending:=none} true none rfl rfl rfl rfl ⟨rfl,rfl⟩
        exact⟨_,_,run_endRound none (f1.st.get k4 hk5),hk _ _ _ _ _ hWe (.v rfl) (g3.trans f3) (G4.trans hlee)⟩
       | r=>
        simp only[Option.some.injEq,Prod.mk.injEq,yP]at h;obtain⟨rfl,rfl⟩:=h;obtain⟨hWe,hlee⟩:=hset4 {rec4 with state:= .done,pending:=some .ret} false (some .ret) rfl rfl rfl rfl ⟨rfl,rfl⟩
        exact⟨_,_,run_endRound (some .ret) (f1.st.get k4 hk5),hk _ _ _ _ _ hWe (.v rfl) (g3.trans f3) (G4.trans hlee)⟩
       | x id=>
        simp only[Option.some.injEq,Prod.mk.injEq,yP]at h;obtain⟨rfl,rfl⟩:=h;obtain⟨hWe,hlee⟩:=hset4 {rec4 with state:= .done,pending:=some (.exit id)} false (some (.exit id)) rfl rfl rfl rfl ⟨rfl,rfl⟩
        exact⟨_,_,run_endRound (some (.exit id)) (f1.st.get k4 hk5),hk _ _ _ _ _ hWe (.v rfl) (g3.trans f3) (G4.trans hlee)⟩
       | p t=>simp at h
      ·cases h
     ·cases h
    ·cases h
   ·cases h
 ·cases h
theorem qGp(hcl:kV P cl){g:Operand}{ps:Array Tmp}{c1 c2:Code}{e:Ex}{s':S}(hW:Wd P E w0 X F H B w Y Mo)(hF:FrT n a L D B (rd w Y))(hna:noR c1=true)(hnb:noR c2=true)
  (h:qMh P cl ps.toList c1 c2 L H (evO L g)=some (e,s')) (hk:lU P E w0 X F n D false e s' B (rd w Y) Q):(Code.rangeFunc g ps c1 c2).wpIn (FF none) 0 P Q a w:=by
 have hg:=hF.rep g;unfold qMh at h;split at h
 ·rename_i f cs eg;rw[eg]at hg;obtain⟨caps,hv,hcs⟩:=hg.fnI;cases hen:jO P f with
  | false=>simp[hen]at h
  | true=>
   simp only[hen,cond_true]at h;refine wpIn_rangeFunc fun fn _=>?_;have h1:=hW.st.alloc (.deferred (some []));have h2:=h1.alloc (.loop {state:= .ready,pending:=none,fn:=fn,tmps:=a.tmps,params:=ps,assign:=c1,body:=c2,defers:=w.heap.size});have hle:Le (rd w Y) (rd ((w.alloc (.deferred (some []))).alloc (.loop {state:= .ready,pending:=none,fn:=fn,tmps:=a.tmps,params:=ps,assign:=c1,body:=c2,defers:=w.heap.size})) _):=(Le.hide_new (.deferred (some []))).trans (Le.hide_new _);have hrun:=run_enterLoop_outer (P:=P) (w:=w) fn a.tmps ps c1 c2;have hN:=Wd.new (F':=w.heap.size::F) (g:=(w.alloc (.deferred (some []))).heap.size) (C:=0) (o:= .loop L ps.toList c1 c2 true none) hW
    (St.perm (by
     show List.Perm _ ((_::Mo)++((w.heap.size,Obj.deferred (some []))::xH F));exact(List.Perm.cons _ List.perm_middle.symm)) h2) hle rfl
    (.loop (hF.reps.mono (BLe.refl B) hle) rfl rfl rfl hna hnb ⟨rfl,rfl⟩)
   obtain⟨hWn,hBn⟩:=hN;have hl1:(w.alloc (.deferred (some []))).heap.size=w.heap.size+1:=by simp
   cases hc:cl f (.yl (ln H)::cs) (H++[.loop L ps.toList c1 c2 true none])with
   | none=>simp[hc,qJd]at h
   | some vh=>
    obtain⟨tv,H1⟩:=vh;simp only[hc,qJd]at h;rw[hl1]at hWn hBn;have hy:Rep (sK B H.length (w.heap.size+1,0)) (rd ((w.alloc (.deferred (some []))).alloc (.loop {state:= .ready,pending:=none,fn:=fn,tmps:=a.tmps,params:=ps,assign:=c1,body:=c2,defers:=w.heap.size})) (zAo (w.heap.size+1) (zAo w.heap.size Y))) (.yl (ln H)) (.func (.yield (w.heap.size+1)) #[] #[]):=by
     rw[qR];exact .yl (qJ _ _ _)
    have hK:=hcl _ _ _ _ _ hc E w0 X (w.heap.size::F) _ _ _ _ (.func (.yield (w.heap.size+1)) #[] #[]::caps)
     (fun e w3=>(∃v,e= .returned v)∧∃rec,w3.heap[w.heap.size+1]?=some (.loop rec)∧rec.state≠.busy∧
      (match rec.pending with
       | none=>Q .normal {a with defers:=Gv.mark w.heap.size::a.defers} (w3.putObj (w.heap.size+1) (.loop {rec with state:= .exhausted}))
       | some c=>c.wpIn (FF none) 0 P Q {a with defers:=Gv.mark w.heap.size::a.defers} (w3.putObj (w.heap.size+1) (.loop {rec with state:= .exhausted}))))
     (by rw[←hl1];rw[hl1];exact hWn) ⟨by rw[hl1]at *;exact hy,hcs.mono hBn (by rw[hl1]at hle;exact hle)⟩ ?_
    ·clear hle h2;generalize (w.alloc (.deferred (some []))).alloc (.loop {state:= .ready,pending:=none,fn:=fn,tmps:=a.tmps,params:=ps,assign:=c1,body:=c2,defers:=w.heap.size})=W1 at hK hrun;refine⟨w.heap.size+1,[Gv.mark w.heap.size],W1,{target:= .fn (.func f) caps.toArray,args:=#[.func (.yield (w.heap.size+1)) #[] #[]]},W1,f,
      #[.func (.yield (w.heap.size+1)) #[] #[]]++caps.toArray,W1,hrun,?_,fun f' _=>xC none f',?_,sQ none 0,?_⟩
     ·simp only[resolve,hv];simp[go_sem]
     ·simp only[invoke];exact rU hen _ _
     ·refine rJ.2 ((show Calls P f (#[.func (.yield (w.heap.size+1)) #[] #[]]++caps.toArray) W1 _ by simpa using hK).mono ?_)
      rintro e w3 ⟨⟨v,rfl⟩,rec,hl,hb,hrest⟩;exact⟨rec.pending,_,run_endLoop hl hb,hrest⟩
    ·intro v w3 B3 Y3 Mo3 k1 k2 k3 k4;refine⟨⟨v,rfl⟩,?_⟩;have hBl:B3 H.length=some (w.heap.size+1,0):=k3 _ _ (qJ _ _ _);have fin:∀(L2:List T)(ps2:List Nat)(d1 d2:Code)(q:Bool)(pd:Option Code),H1[H.length]?=some (.loop L2 ps2 d1 d2 q pd)→q=true∨pd≠none→
       ∃rec,w3.heap[w.heap.size+1]?=some (.loop rec)∧rec.state≠.busy∧rec.pending=pd∧∃Mo4,Wd P E w0 X (w.heap.size::F) (H1.set H.length .gone) B3 (w3.putObj (w.heap.size+1) (.loop {rec with state:= .exhausted})) Y3 Mo4∧Le (rd w3 Y3) (rd (w3.putObj (w.heap.size+1) (.loop {rec with state:= .exhausted})) Y3):=fun L2 ps2 d1 d2 q pd hi hq=>by
      obtain⟨rec,k,hk2,⟨_,_,_,_,_,_,hs⟩,_,hgone⟩:=Wd.lp k1 hi hBl;refine⟨rec,k1.st.get k hk2,?_,?_,_,hgone _⟩
      ·cases q<;>cases pd<;>simp only[LSt]at hs
       ·rcases hq with h | h<;>simp at h
       ·rw[hs.1];simp
       ·rw[hs.1];simp
      ·cases q<;>cases pd<;>simp only[LSt]at hs
       ·rcases hq with h | h<;>simp at h
       ·exact hs.2
       ·exact hs.2
     have hBt:BLe B B3:=hBn.trans k3;have hlet:Le (rd w Y) (rd w3 Y3):=(by rw[hl1]at hle;exact hle:Le (rd w Y) _).trans k4
     have hFm:∀{r3:Rd},Le (rd w Y) r3→FrT n {a with defers:=Gv.mark w.heap.size::a.defers} L ([w.heap.size].map Gv.mark++D) B3 r3:=fun hr=>⟨hF.size,hF.reps.mono hBt hr,by show Gv.mark w.heap.size::a.defers=_;rw[hF.defers];rfl⟩
     split at h
     ·rename_i L2 ps2 d1 d2 hl2;rw[qR]at hl2;obtain⟨rec,f1,f2,f3,Mo4,f4,f5⟩:=fin _ _ _ _ _ _ (mY hl2 (by simp)) (.inl rfl)
      refine⟨rec,f1,f2,?_⟩;generalize w3.putObj (w.heap.size+1) (.loop {rec with state:= .exhausted})=w4 at f4 f5 ⊢
      rw[f3];simp only[Option.some.injEq,Prod.mk.injEq,yP,qR]at h;obtain⟨rfl,rfl⟩:=h;exact hk _ _ _ _ _ [w.heap.size] (fun e=>by cases e) f4 (hFm (hlet.trans f5)) hBt (hlet.trans f5)
     ·rename_i L2 ps2 d1 d2 hl2;rw[qR]at hl2;obtain⟨rec,f1,f2,f3,Mo4,f4,f5⟩:=fin _ _ _ _ _ _ (mY hl2 (by simp)) (.inr (by simp))
      refine⟨rec,f1,f2,?_⟩;generalize w3.putObj (w.heap.size+1) (.loop {rec with state:= .exhausted})=w4 at f4 f5 ⊢
      rw[f3];simp only[Option.some.injEq,Prod.mk.injEq,yP,qR]at h;obtain⟨rfl,rfl⟩:=h;exact nS (hk _ _ _ _ _ [w.heap.size] (fun e=>by cases e) f4 (hFm (hlet.trans f5)) hBt (hlet.trans f5))
     ·rename_i L2 ps2 d1 d2 id hl2;rw[qR]at hl2;obtain⟨rec,f1,f2,f3,Mo4,f4,f5⟩:=fin _ _ _ _ _ _ (mY hl2 (by simp)) (.inr (by simp))
      refine⟨rec,f1,f2,?_⟩;generalize w3.putObj (w.heap.size+1) (.loop {rec with state:= .exhausted})=w4 at f4 f5 ⊢
      rw[f3];simp only[Option.some.injEq,Prod.mk.injEq,yP,qR]at h;obtain⟨rfl,rfl⟩:=h;exact bV (hk _ _ _ _ _ [w.heap.size] (fun e=>by cases e) f4 (hFm (hlet.trans f5)) hBt (hlet.trans f5))
     ·cases h
 ·cases h
theorem lU.one{q:Bool}{e:Ex}{s':S}(h:lU P E w0 X F n D q e s' B r Q){a':Act}{w':World}{B':Bm}{Y':Hid}{Mo':List (Nat×Obj)}(h1:Wd P E w0 X F s'.H B' w' Y' Mo')(h2:FrT n a' s'.L D B' (rd w' Y'))(h3:BLe B B')(h4:Le r (rd w' Y')):QOk Q B' (rd w' Y') a' w' e:=
 h a' w' B' Y' Mo' [] (fun _=>rfl) h1 h2 h3 h4
theorem lU.next{q q1 q2:Bool}{e:Ex}{s':S}(h:lU P E w0 X F n D q e s' B r Q)(hq:q=true→q1=true∧q2=true){w':World}{B':Bm}{Y':Hid}{bs:List Nat}(hbs:q1=true→bs=[])(h3:BLe B B')(h4:Le r (rd w' Y')):lU P E w0 X (bs++F) n (bs.map Gv.mark++D) q2 e s' B' (rd w' Y') Q:=
 fun a2 w2 B2 Y2 Mo2 bs2 hb2 k1 k2 k3 k4=>h a2 w2 B2 Y2 Mo2 (bs2++bs) (fun e=>by rw[hbs (hq e).1,hb2 (hq e).2];rfl) (by rw[List.append_assoc];exact k1) (by rw[List.map_append,List.append_assoc];exact k2) (h3.trans k3) (h4.trans k4)
theorem qSx{SO:Oo}{O:Rn→Po}(hm:P.follows .mixedOrders=true)(hS:qAi P SO)(hO:∀rn,sS P rn→zL P (O rn)):∀k,sS P (evC P SO O k):=by
 intro k;induction k using Nat.strongRecOn with
 | _ k ih=>
  cases k with
  | zero=>intro c s e s' h;simp[evC]at h
  | succ k=>
   have hk:sS P (evC P SO O k):=ih k (Nat.lt_succ_self k);have hcl:=qBe (P:=P) hm hS (hO _ hk) hk;have hpc:=zXv (P:=P) hk;have hyd:=zRj (P:=P) hk;intro c s e s' h E w0 X F n a D B w Y Mo rr Q hr hW hF hA;have h:tQ P SO (O (evC P SO O k)) (evC P SO O k) c s=some (e,s'):=h;cases c with
   | skip=>simp only[tQ,Option.some.injEq,Prod.mk.injEq]at h;obtain⟨rfl,rfl⟩:=h;exact wM (hA.one hW hF (BLe.refl B) (Le.refl _))
   | label l=>simp only[tQ,Option.some.injEq,Prod.mk.injEq]at h;obtain⟨rfl,rfl⟩:=h;exact zLv (hA.one hW hF (BLe.refl B) (Le.refl _))
   | exit id=>simp only[tQ,Option.some.injEq,Prod.mk.injEq]at h;obtain⟨rfl,rfl⟩:=h;exact bV (hA.one hW hF (BLe.refl B) (Le.refl _))
   | ret=>simp only[tQ,Option.some.injEq,Prod.mk.injEq]at h;obtain⟨rfl,rfl⟩:=h;exact nS (hA.one hW hF (BLe.refl B) (Le.refl _))
   | seq x y=>
    simp only[tQ]at h;have hr1:rr=none∨noR x=true:=hr.imp id fun h=>by simp only[noR,Bool.and_eq_true]at h;exact h.1
    have hr2:rr=none∨noR y=true:=hr.imp id fun h=>by simp only[noR,Bool.and_eq_true]at h;exact h.2
    have hq:noR (.seq x y)=true→noR x=true∧noR y=true:=fun h=>by simpa[noR]using h
    cases hx:evC P SO O k x s with
    | none=>simp[hx,zEv]at h
    | some es=>
     obtain⟨e1,s1⟩:=es;refine wpIn_seq (hk _ _ _ _ hx E w0 X F n a D B w Y Mo rr _ hr1 hW hF fun a' w' B' Y' Mo' bs hbs g1 g2 g3 g4=>?_);cases e1 with
     | n=>
      simp only[hx,zEv]at h;exact hk _ _ _ _ h E w0 X _ n a' _ B' w' Y' Mo' rr Q hr2 g1 g2 (hA.next hq hbs g3 g4)
     | x id=>simp only[hx,zEv,Option.some.injEq,Prod.mk.injEq]at h;obtain⟨rfl,rfl⟩:=h;exact hA a' w' B' Y' Mo' bs (fun e=>hbs (hq e).1) g1 g2 g3 g4
     | r=>simp only[hx,zEv,Option.some.injEq,Prod.mk.injEq]at h;obtain⟨rfl,rfl⟩:=h;exact hA a' w' B' Y' Mo' bs (fun e=>hbs (hq e).1) g1 g2 g3 g4
     | p t=>simp only[hx,zEv,Option.some.injEq,Prod.mk.injEq]at h;obtain⟨rfl,rfl⟩:=h;exact hA a' w' B' Y' Mo' bs (fun e=>hbs (hq e).1) g1 g2 g3 g4
   | cond c x y=>
    simp only[tQ]at h;have hc:=hF.rep c;unfold qOe at h;split at h
    ·rename_i b eb;rw[eb]at hc;cases b with
     | true=>exact wpIn_cond_true hc.bool (hk _ _ _ _ h E w0 X F n a D B w Y Mo rr Q (hr.imp id fun h=>by simp only[noR,Bool.and_eq_true]at h;exact h.1) hW hF fun a' w' B' Y' Mo' bs hbs=>hA a' w' B' Y' Mo' bs fun e=>hbs (by simp only[noR,Bool.and_eq_true]at e;exact e.1))
     | false=>exact wpIn_cond_false hc.bool (hk _ _ _ _ h E w0 X F n a D B w Y Mo rr Q (hr.imp id fun h=>by simp only[noR,Bool.and_eq_true]at h;exact h.2) hW hF fun a' w' B' Y' Mo' bs hbs=>hA a' w' B' Y' Mo' bs fun e=>hbs (by simp only[noR,Bool.and_eq_true]at e;exact e.2))
    ·cases h
   | block id x=>
    simp only[tQ]at h;cases hx:evC P SO O k x s with
    | none=>simp[hx,zXl]at h
    | some es=>
     obtain⟨e1,s1⟩:=es;refine yY (hk _ _ _ _ hx E w0 X F n a D B w Y Mo rr _ hr hW hF fun a' w' B' Y' Mo' bs hbs g1 g2 g3 g4=>?_);cases e1 with
     | n=>simp only[hx,zXl,Option.some.injEq,Prod.mk.injEq]at h;obtain⟨rfl,rfl⟩:=h;exact hA a' w' B' Y' Mo' bs hbs g1 g2 g3 g4
     | r=>simp only[hx,zXl,Option.some.injEq,Prod.mk.injEq]at h;obtain⟨rfl,rfl⟩:=h;exact hA a' w' B' Y' Mo' bs hbs g1 g2 g3 g4
     | p t=>simp only[hx,zXl,Option.some.injEq,Prod.mk.injEq]at h;obtain⟨rfl,rfl⟩:=h;exact hA a' w' B' Y' Mo' bs hbs g1 g2 g3 g4
     | x j=>
      simp only[hx,zXl,Option.some.injEq,Prod.mk.injEq]at h;obtain⟨rfl,rfl⟩:=h;have:=hA a' w' B' Y' Mo' bs hbs g1 g2 g3 g4;cases hj:Nat.beq j id with
      | true=>rw[hj]at this;obtain rfl:=zY hj;exact nH this
      | false=>rw[hj]at this;exact zFu hj this
   | scope x=>
    simp only[tQ]at h;rcases hr with rfl | hr
    ·exact zLw (hk _ _ _ _ h E w0 X F n a D B w Y Mo none _ (.inl rfl) hW hF fun a' w' B' Y' Mo' bs _ g1 g2 g3 g4=>by
      have:=hA a' w' B' Y' Mo' bs (fun e=>by simp[noR]at e) g1 g2 g3 g4
      cases e<;>exact this)
    ·simp[noR]at hr
   | loop x=>
    have hr1:rr=none∨noR x=true:=hr.imp id fun h=>by simpa[noR]using h
    refine gK (γ:=Nat×S×List Nat) (fun g a w=>g.1≤k∧tQ P SO (O (evC P SO O g.1)) (evC P SO O g.1) (.loop x) g.2.1=some (e,s')∧∃B' Y' Mo',(noR x=true→g.2.2=[])∧Wd P E w0 X (g.2.2++F) g.2.1.H B' w Y' Mo'∧FrT n a g.2.1.L (g.2.2.map Gv.mark++D) B' (rd w Y')∧BLe B B'∧Le (rd _ Y) (rd w Y'))
     (fun g=>g.1) (k,s,[]) ⟨Nat.le_refl k,h,B,Y,Mo,fun _=>rfl,hW,hF,BLe.refl B,Le.refl _⟩ ?_
    rintro⟨j,s0,bs0⟩ a0 w1 ⟨hj,hstep,B1,Y1,Mo1,hb1,g1,g2,g3,g4⟩;simp only[tQ]at hstep hj hb1 g1 g2;cases hx:evC P SO O j x s0 with
    | none=>simp[hx,zEv]at hstep
    | some es=>
     obtain⟨e1,s1⟩:=es;refine ih j (by omega) _ _ _ _ hx E w0 X _ n a0 _ B1 w1 Y1 Mo1 rr _ hr1 g1 g2 fun a' w' B' Y' Mo' bs hbs k1 k2 k3 k4=>?_
     have hbs':noR x=true→bs++bs0=[]:=fun e=>by rw[hbs e,hb1 e];rfl
     have k1':Wd P E w0 X (bs++bs0++F) s1.H B' w' Y' Mo':=by rw[List.append_assoc];exact k1
     have k2':FrT n a' s1.L ((bs++bs0).map Gv.mark++D) B' (rd w' Y'):=by rw[List.map_append,List.append_assoc];exact k2
     cases e1 with
     | n=>
      simp only[hx,zEv]at hstep;cases j with
      | zero=>simp[evC]at hstep
      | succ j=>exact⟨(j,s1,bs++bs0),⟨by omega,hstep,B',Y',Mo',hbs',k1',k2',g3.trans k3,g4.trans k4⟩,Nat.lt_succ_self j⟩
     | x id=>simp only[hx,zEv,Option.some.injEq,Prod.mk.injEq]at hstep;obtain⟨rfl,rfl⟩:=hstep;exact hA a' w' B' Y' Mo' (bs++bs0) (fun e=>hbs' (by simpa[noR]using e)) k1' k2' (g3.trans k3) (g4.trans k4)
     | r=>simp only[hx,zEv,Option.some.injEq,Prod.mk.injEq]at hstep;obtain⟨rfl,rfl⟩:=hstep;exact hA a' w' B' Y' Mo' (bs++bs0) (fun e=>hbs' (by simpa[noR]using e)) k1' k2' (g3.trans k3) (g4.trans k4)
     | p t=>simp only[hx,zEv,Option.some.injEq,Prod.mk.injEq]at hstep;obtain⟨rfl,rfl⟩:=hstep;exact hA a' w' B' Y' Mo' (bs++bs0) (fun e=>hbs' (by simpa[noR]using e)) k1' k2' (g3.trans k3) (g4.trans k4)
   | region id ops draw=>
    cases draw with
    | false=>
     simp only[tQ]at h;cases hok:gQ ops with
     | false=>simp[hok]at h
     | true=>
      simp only[hok,cond_true]at h;refine wpIn_region_list ?_;exact zWc hcl hyd hpc _ _ _ h hok hW hF (BLe.refl B) (Le.refl _) fun a' w' B' Y' Mo' k1 k2 k3 k4=>hA.one k1 k2 k3 k4
    | true=>
     simp only[tQ]at h;cases hok:gQ ops with
     | false=>simp[hok,qMe]at h
     | true=>
      simp only[hok,cond_true]at h;cases ho:drE P (O (evC P SO O k)) (evC P SO O k) (zIx P SO (O (evC P SO O k)) (evC P SO O k)) (zEa (evC P SO O k)) ops s with
      | none=>simp[ho,qMe]at h
      | some s1=>
       simp only[ho,qMe,Option.some.injEq,Prod.mk.injEq]at h;obtain⟨rfl,rfl⟩:=h;exact qJa hm (hO _ hk) hk hcl hyd hok ho hW hF fun a' w' B' Y' Mo' k1 k2 k3 k4=>hA.one k1 k2 k3 k4
   | rangeFunc g ps c1 c2=>
    simp only[tQ]at h;cases hn:noR c1&&noR c2 with
    | false=>simp[hn]at h
    | true=>
     simp only[hn,cond_true]at h;simp only[Bool.and_eq_true]at hn;rcases hr with rfl | hr
     ·exact qGp hcl hW hF hn.1 hn.2 h hA
     ·simp[noR]at hr
   | goto l=>simp[tQ]at h
   | refuse why=>simp[tQ]at h
theorem qJe{SO:Oo}{O:Rn→Po}(hm:P.follows .mixedOrders=true)(hS:qAi P SO)(hO:∀rn,sS P rn→zL P (O rn)){k f m:Nat}{az:List T}{tv:T}{nw:Bool}(h:zQ P (evC P SO O k) m f az=some (tv,nw)):KnP P m f az tv nw:=
 zGf (gD hm (qSx hm hS hO k)) h
end
inductive Ar where
  | r (a:Raw)
  | i (n:Int)
  | b (b:Bool)
  | s (s:ByteArray)
inductive Rs where
  | one (a:Ar)
  | tup (l:List Ar)
noncomputable def zAv:Nat→List T→Option (List Nat)
 | 0,_=>some []
 | _+1,[]=>none
 | n+1,t::l=>match t with
  | .v (.int .u32 (.ofNat x))=>bif Nat.blt x 4294967296 then(match zAv n l with | some r=>some (x::r) | none=>none)else none
  | _=>none
noncomputable def zMc:T→Option (List Nat)
 | .v (.slice none 0 0)=>some []
 | .sl cs n=>zAv n cs
 | .st cs n=>bif Nat.ble n 9223372036854775807 then zAv n cs else none
 | _=>none
noncomputable def arT:T→Option Ar
 | .v (.int .i64 n)=>some (.i n)
 | .v (.bool b)=>some (.b b)
 | .v (.string s)=>some (.s s)
 | .ag [.v (.bool b),x,y]=>(match zMc x,zMc y with
  | some l,some l2=>some (.r ⟨b,l,l2⟩)
  | _,_=>none)
 | _=>none
noncomputable def zRt:List T→Option (List Ar)
 | []=>some []
 | t::l=>match arT t,zRt l with
  | some a,some r=>some (a::r)
  | _,_=>none
noncomputable def unL(l:List Nat):T:= .sl (l.map fun(x:Nat)=>T.v (.int .u32 (.ofNat x))) l.length
noncomputable def unA:Ar→T
 | .r a=> .ag [.v (.bool a.neg),unL a.ln,unL a.ld]
 | .i n=> .v (.int .i64 n)
 | .b b=> .v (.bool b)
 | .s s=> .v (.string s)
noncomputable def unR:Rs→T
 | .one a=>unA a
 | .tup l=> .tu (l.map unA)
def ArV(X:Hid)(w:World):Ar→Value→Prop
 | .r a,v=>nC X w v a
 | .i n,v=>v= .int .i64 n
 | .b b,v=>v= .bool b
 | .s s,v=>v= .string s
def zRk(X:Hid)(w:World):List Ar→List Value→Prop
 | [],[]=>True
 | a::az,v::vs=>ArV X w a v∧zRk X w az vs
 | _,_=>False
def RsV(X:Hid)(w:World):Rs→Value→Prop
 | .one a,v=>ArV X w a v
 | .tup l,v=>∃vs:List Value,v= .tuple vs.toArray∧zRk X w l vs
def KC(P:Program)(f:Nat)(p:List Ar→Option Rs)(nw:Bool):Prop:=
 ∀(w:World)(X:Hid)(_:∀b o,X b o→b<w.heap.size)(az:List Ar)(vs:List Value)(_:zRk X w az vs)(y:Rs),p az=some y→Calls P f vs.toArray w (Ret E0 w fun w' v=>RsV (bif nw then old w else X) w' y v)
section
variable {B:Bm}{X:Hid}{w:World}
theorem zGn:∀{n:Nat}{cs:List T}{l:List Nat},zAv n cs=some l→l.length=n∧∀x∈l,x<4294967296
 | 0,_,l,h=>by simp[zAv]at h;subst h;simp
 | n+1,[],l,h=>by simp[zAv]at h
 | n+1,t::cs,l,h=>by
  simp only[zAv]at h;split at h
  ·rename_i x;cases hb:Nat.blt x 4294967296 with
   | false=>simp[hb]at h
   | true=>
    simp only[hb,cond_true]at h;cases hr:zAv n cs with
    | none=>simp[hr]at h
    | some r=>
     simp only[hr,Option.some.injEq]at h;subst h;obtain⟨h1,h2⟩:=zGn hr;rw[Nat.blt_eq]at hb;refine⟨by simp[h1],fun y hy=>?_⟩
     rcases List.mem_cons.1 hy with rfl | hy
     ·exact hb
     ·exact h2 y hy
  ·cases h
theorem zPm:∀{n:Nat}{cs:List T}{l:List Nat},zAv n cs=some l→∀(j x:Nat),l[j]?=some x→cs[j]?=some (.v (.int .u32 (.ofNat x)))
 | 0,_,l,h,j,x,hx=>by simp[zAv]at h;subst h;simp at hx
 | n+1,[],l,h,j,x,hx=>by simp[zAv]at h
 | n+1,t::cs,l,h,j,x,hx=>by
  simp only[zAv]at h;split at h
  ·rename_i y;cases hb:Nat.blt y 4294967296 with
   | false=>simp[hb]at h
   | true=>
    simp only[hb,cond_true]at h;cases hr:zAv n cs with
    | none=>simp[hr]at h
    | some r=>
     simp only[hr,Option.some.injEq]at h;subst h;cases j with
     | zero=>simp at hx;subst hx;rfl
     | succ j=>exact zPm hr j x (by simpa using hx)
  ·cases h
theorem qAy{r:Rd}{b o n:Nat}{cs:List T}{l:List Nat}(h:zAv n cs=some l)(hc:Cls B r b o cs):At r ⟨b,o,none⟩ (U32 l):=by
 intro j v hv;simp only[U32,List.getElem?_map]at hv;cases hx:l[j]? with
 | none=>rw[hx]at hv;cases hv
 | some x=>
  rw[hx]at hv;cases hv;obtain⟨v,h1,h2⟩:=hc j _ (zPm h j x hx);obtain⟨rfl,_⟩:=h2.vI;rw[yC];exact h1
theorem zAu{t:T}{l:List Nat}{v:Value}(h:zMc t=some l)(hR:Rep B (rd w X) t v):∃ad n c,v= .slice ad n c∧zT (rd w X) ad n c l:=by
 unfold zMc at h;split at h
 ·cases h;obtain⟨rfl,_⟩:=hR.vI;exact⟨none,0,0,rfl,zT.nil none (by omega)⟩
 ·rename_i cs n;have hR2:=hR;obtain⟨ad,c,rfl,hn,hh⟩:=hR.slI;obtain⟨h1,h2⟩:=zGn h;refine⟨ad,n,c,rfl,h1.symm,hn,hR2.slB,h2,?_⟩;rcases hh with⟨rfl,rfl⟩ | ⟨b,o,rfl,hc⟩
  ·left;exact List.length_eq_zero_iff.1 h1
  ·exact .inr ⟨b,o,rfl,qAy h hc⟩
 ·rename_i cs n;cases hb:Nat.ble n 9223372036854775807 with
  | false=>simp[hb]at h
  | true=>
   simp only[hb,cond_true]at h;rw[Nat.ble_eq]at hb;obtain⟨ad,rfl,hh⟩:=hR.stI;obtain⟨h1,h2⟩:=zGn h;refine⟨ad,n,n,rfl,h1.symm,Nat.le_refl _,hb,h2,?_⟩;rcases hh with⟨rfl,rfl⟩ | ⟨b,o,rfl,hc⟩
   ·left;exact List.length_eq_zero_iff.1 h1
   ·exact .inr ⟨b,o,rfl,qAy h hc⟩
 ·cases h
theorem qAx{t:T}{a:Ar}{v:Value}(h:arT t=some a)(hR:Rep B (rd w X) t v):ArV X w a v:=by
 unfold arT at h;split at h
 ·cases h;exact hR.vI.1
 ·cases h;exact hR.vI.1
 ·cases h;exact hR.vI.1
 ·rename_i b x y;cases h1:zMc x with
  | none=>simp[h1]at h
  | some l=>
   cases h2:zMc y with
   | none=>simp[h1,h2]at h
   | some l2=>
    simp only[h1,h2,Option.some.injEq]at h;subst h;obtain⟨vs,rfl,hvs⟩:=hR.agI;match vs,hvs with
    | [v1,v2,v3],⟨g1,g2,g3,_⟩=>
     obtain⟨rfl,_⟩:=g1.vI;obtain⟨a1,n1,c1,rfl,k1⟩:=zAu h1 g2;obtain⟨a2,n2,c2,rfl,k2⟩:=zAu h2 g3;exact⟨_,_,_,_,_,_,rfl,k1,k2⟩
 ·cases h
theorem zUi:∀{ts:List T}{az:List Ar}{vs:List Value},zRt ts=some az→zN B (rd w X) ts vs→zRk X w az vs
 | [],az,[],h,_=>by simp[zRt]at h;subst h;trivial
 | t::ts,az,v::vs,h,hR=>by
  simp only[zRt]at h;cases h1:arT t with
  | none=>simp[h1]at h
  | some a=>
   cases h2:zRt ts with
   | none=>simp[h1,h2]at h
   | some r=>
    simp only[h1,h2,Option.some.injEq]at h;subst h;exact⟨qAx h1 hR.1,zUi h2 hR.2⟩
 | [],_,_::_,_,hR=>hR.elim
 | _::_,_,[],_,hR=>hR.elim
theorem zNp{ad:Option Addr}{n c:Nat}{l:List Nat}(h:zT (rd w X) ad n c l):Rep B (rd w X) (unL l) (.slice ad n c):=by
 have e:=h.hlen;subst e;unfold unL;rcases h.hat with rfl | ⟨b,o,rfl,ha⟩
 ·exact .sl0 h.hbig
 ·have get:∀(j:Nat)(t:T),(l.map fun(x:Nat)=>T.v (.int .u32 (.ofNat x)))[j]?=some t→∃x,l[j]?=some x∧t= .v (.int .u32 (.ofNat x))∧l.getD j 0=x:=fun j t ht=>by
   rw[List.getElem?_map]at ht;cases hx:l[j]? with
   | none=>rw[hx]at ht;cases ht
   | some x=>rw[hx]at ht;cases ht;exact⟨x,rfl,rfl,by simp[hx]⟩
  refine .sl h.hcap (fun j=> .int .u32 (.ofNat (l.getD j 0))) (fun j t ht=>?_) (fun j t ht=>?_) h.hbig
  ·obtain⟨x,hx,rfl,hg⟩:=get j t ht;have:=ha j (.int .u32 (.ofNat x)) (by simp only[U32,List.getElem?_map,hx];rfl)
   rw[yC]at this;rw[hg];exact this
  ·obtain⟨x,hx,rfl,hg⟩:=get j t ht;rw[hg];exact .v rfl
theorem qHk{a:Ar}{v:Value}(h:ArV X w a v):Rep B (rd w X) (unA a) v:=by
 cases a with
 | r a=>
  obtain⟨_,_,_,_,_,_,rfl,h1,h2⟩:=h;exact Rep.mkAg (vs:=[.bool a.neg,_,_]) ⟨.v rfl,zNp h1,zNp h2,trivial⟩
 | i n=>cases h;exact .v rfl
 | b b=>cases h;exact .v rfl
 | s s=>cases h;exact .v rfl
theorem zWu:∀{az:List Ar}{vs:List Value},zRk X w az vs→zN B (rd w X) (az.map unA) vs
 | [],[],_=>trivial
 | _::_,_::_,h=>⟨qHk h.1,zWu h.2⟩
 | [],_::_,h=>h.elim
 | _::_,[],h=>h.elim
theorem jAr{y:Rs}{v:Value}(h:RsV X w y v):Rep B (rd w X) (unR y) v:=by
 cases y with
 | one a=>exact qHk h
 | tup l=>
  obtain⟨vs,rfl,h⟩:=h;exact Rep.mkTu (zWu h)
end
noncomputable def kcE(p:List Ar→Option Rs)(nw:Bool)(az:List T):Option (T×Bool):=match zRt az with
 | some az=>(match p az with
  | some y=>some (unR y,nw)
  | none=>none)
 | none=>none
theorem zEj{P:Program}{f:Nat}{p:List Ar→Option Rs}{nw nw':Bool}(hc:KC P f p nw){az:List T}{tv:T}(h:kcE p nw az=some (tv,nw'))(k:Nat):KnP P k f az tv nw':=by
 unfold kcE at h;cases h1:zRt az with
 | none=>simp[h1]at h
 | some az2=>
  cases h2:p az2 with
  | none=>simp[h1,h2]at h
  | some y=>
   simp only[h1,h2,Option.some.injEq,Prod.mk.injEq]at h;obtain⟨rfl,rfl⟩:=h;intro B w X qC R _ _ hX hR hk;refine(hc w X hX az2 qC (zUi h1 hR) y h2).mono ?_;rintro e w' ⟨hu,v,rfl,hv⟩;exact hk v w' hu (jAr hv)
noncomputable def elsO(r d:Option (T×Bool)):Option (T×Bool):=match r with
 | some x=>some x
 | none=>d
noncomputable def zR:List (Nat×(List T→Option (T×Bool)))→Po
 | [],_,_=>none
 | (g,p)::l,f,az=>bif Nat.beq g f then elsO (p (az.map (unN 12))) (zR l f az)else zR l f az
theorem fF{P:Program}{l:List (Nat×(List T→Option (T×Bool)))}{g:Nat}{p:List T→Option (T×Bool)}(hp:∀az tv nw,p az=some (tv,nw)→∀k,KnP P k g az tv nw)(hl:zL P (zR l)):zL P (zR ((g,p)::l)):=by
 intro f az tv nw h k;simp only[zR]at h;cases hb:Nat.beq g f with
 | true=>
  obtain rfl:=zY hb;simp only[hb,cond_true]at h;unfold elsO at h;split at h
  ·rename_i r hr;cases h;exact(hp _ tv nw hr k).unN
  ·exact hl _ az tv nw h k
 | false=>
  simp only[hb,cond_false]at h;exact hl f az tv nw h k
theorem qHf{P:Program}:∀{l:List (Nat×(List T→Option (T×Bool)))},(∀g p,(g,p)∈l→∀az tv nw,p az=some (tv,nw)→∀k,KnP P k g az tv nw)→zL P (zR l)
 | [],_=>fun f az tv nw h=>by simp[zR]at h
 | (g,p)::l,hl=>fF (hl g p List.mem_cons_self) (qHf fun g p hm=>hl g p (List.mem_cons_of_mem _ hm))
noncomputable def eqT:Nat→T→T→Bool
 | 0,_,_=>false
 | k+1,a,b=>match a,b with
  | .v x,.v y=>eqV x y
  | .sl cs n,.sl ds m=>Nat.beq n m&&gF (eqT k) cs ds
  | .st cs n,.st ds m=>Nat.beq n m&&gF (eqT k) cs ds
  | .fp cs,.fp ds=>gF (eqT k) cs ds
  | .ag cs,.ag ds=>gF (eqT k) cs ds
  | .tu cs,.tu ds=>gF (eqT k) cs ds
  | .fn f cs,.fn g ds=>Nat.beq f g&&gF (eqT k) cs ds
  | _,_=>false
noncomputable def qM(az:List T)(r:T×Bool)(bs:List T):Option (T×Bool):=bif gF (eqT 12) az bs then some r else none
theorem bR:∀(k:Nat)(a b:T),eqT k a b=true→a=b
 | 0,a,b,h=>by cases h
 | k+1,a,b,h=>by
  simp only[eqT]at h;split at h
  ·rw[qCn h]
  ·simp only[Bool.and_eq_true]at h;rw[zY h.1,kZ (bR k) h.2]
  ·simp only[Bool.and_eq_true]at h;rw[zY h.1,kZ (bR k) h.2]
  ·rw[kZ (bR k) h]
  ·rw[kZ (bR k) h]
  ·rw[kZ (bR k) h]
  ·simp only[Bool.and_eq_true]at h;rw[zY h.1,kZ (bR k) h.2]
  ·cases h
section
variable {P:Program}{f:Nat}{az bs:List T}{tv:T}{nw:Bool}
theorem zJc{B B2:Bm}{r:Rd}:∀{az:List T}{vs:List Value},az.all (clean 12)=true→zN B r az vs→zN B2 r az vs
 | [],[],_,_=>trivial
 | a::az,v::vs,h,hR=>by
  simp only[List.all_cons,Bool.and_eq_true]at h;exact⟨vT 12 h.1 hR.1,zJc h.2 hR.2⟩
 | [],_::_,_,hR=>hR.elim
 | _::_,[],_,hR=>hR.elim
theorem KnP.clean(h:KnP P 0 f az tv nw)(ha:az.all (clean 12)=true)(ht:clean 12 tv=true)(k:Nat):KnP P k f az tv nw:=by
 intro B w X qC R hI _ hX hR hk;exact h ⟨fun _=>none,0⟩ w X qC R hI (fun _ _=>rfl) hX (zJc ha hR) fun v w' hu hv=>hk v w' hu (vT 12 ht hv)
theorem qZw(h:KnP P 0 f az tv nw)(hc:(az.all (Ev.clean 12)&&Ev.clean 12 tv)=true){tv':T}{nw':Bool}(hr:qM az (tv,nw) bs=some (tv',nw'))(k:Nat):KnP P k f bs tv' nw':=by
 unfold qM at hr;cases hb:gF (eqT 12) az bs with
 | false=>simp[hb]at hr
 | true=>
  obtain rfl:=kZ (bR 12) hb;simp only[hb,cond_true,Option.some.injEq,Prod.mk.injEq]at hr;obtain⟨rfl,rfl⟩:=hr;simp only[Bool.and_eq_true]at hc;exact h.clean hc.1 hc.2 k
theorem qYt{O:Po}(hm:P.follows .mixedOrders=true)(hO:zL P O)(fs:List Nat){rn:Rn}(hrn:sS P rn):zL P (orF P O fs rn):=by
 intro f az tv nw h k;unfold orF at h;cases ho:O f az with
 | some r=>simp only[ho,Option.some.injEq]at h;subst h;exact hO f az tv nw ho k
 | none=>
  simp only[ho]at h;cases hc:qTx f fs&&(az.map (unN 12)).all (Ev.clean 12)with
  | false=>rw[hc]at h;cases h
  | true=>
   simp only[hc,cond_true]at h;simp only[Bool.and_eq_true]at hc;cases hf:zQ P rn 0 f (az.map (unN 12))with
   | none=>simp[hf,zRz]at h
   | some r=>
    obtain⟨t,b⟩:=r;simp only[hf,zRz]at h;cases hct:Ev.clean 12 t with
    | false=>simp[hct]at h
    | true=>
     simp only[hct,cond_true,Option.some.injEq,Prod.mk.injEq]at h;obtain⟨rfl,rfl⟩:=h;exact((zGf (gD hm hrn) hf).clean hc.2 hct k).unN
theorem zS{SO:Oo}{O:Po}(hm:P.follows .mixedOrders=true)(hS:qAi P SO)(hO:zL P O)(fs:List Nat){n:Nat}(h:zQ P (evC P SO (orF P O fs) n) 0 f az=some (tv,nw)):KnP P 0 f az tv nw:=
 qJe hm hS (fun _ hrn=>qYt hm hO fs hrn) h
theorem zL.cons{l:List (Nat×(List T→Option (T×Bool)))}(hl:zL P (zR l))(h:KnP P 0 f az tv nw)(hc:(az.all (Ev.clean 12)&&Ev.clean 12 tv)=true):zL P (zR ((f,qM az (tv,nw))::l)):=
 fF (fun _ _ _ hr k=>qZw h hc hr k) hl
end
noncomputable def pRR(g:Raw→Raw→Option (Raw×Int)):List Ar→Option Rs
 | [.r a,.r b]=>(match g a b with | some (c,e)=>some (.tup [.r c,.i e]) | none=>none)
 | _=>none
noncomputable def pRI(g:Raw→Raw→Int×Int):List Ar→Option Rs
 | [.r a,.r b]=>some (.tup [.i (g a b).1,.i (g a b).2])
 | _=>none
noncomputable def pR(g:Raw→Int):List Ar→Option Rs
 | [.r a]=>some (.one (.i (g a)))
 | _=>none
noncomputable def pB(g:Raw→Raw→Bool):List Ar→Option Rs
 | [.r a,.r b]=>some (.one (.b (g a b)))
 | _=>none
noncomputable def xZ:Int→Bool
 | .ofNat n=>Nat.ble n 9223372036854775807
 | .negSucc n=>Nat.ble n 9223372036854775807
noncomputable def nz:Int→Bool
 | .ofNat n=>!Nat.beq n 0
 | .negSucc _=>true
noncomputable def pI(g:Int→Raw):List Ar→Option Rs
 | [.i n]=>bif xZ n then some (.one (.r (g n)))else none
 | _=>none
noncomputable def pII(g:Int→Int→Raw):List Ar→Option Rs
 | [.i n,.i m]=>bif(xZ n&&xZ m)&&nz m then some (.tup [.r (g n m),.i 0])else none
 | _=>none
theorem mW{n:Int}(h:xZ n=true): -9223372036854775808≤n∧n≤9223372036854775807:=by
 cases n with
 | ofNat n=>simp only[xZ,Nat.ble_eq]at h;exact⟨by rw[Int.ofNat_eq_natCast];omega,by rw[Int.ofNat_eq_natCast];omega⟩
 | negSucc n=>simp only[xZ,Nat.ble_eq]at h;rw[Int.negSucc_eq];omega
theorem jCe{n:Int}(h:nz n=true):n≠0:=by
 cases n with
 | ofNat n=>simp only[nz]at h;intro e;cases n with
  | zero=>simp at h
  | succ n=>cases e
 | negSucc n=>simp
section
variable {P:Program}{f:Nat}
theorem qDo{g:Raw→Raw→Option (Raw×Int)}(h:∀(w:World)(X:Hid)(_:∀b o,X b o→b<w.heap.size)(a:Raw)(va:Value)(_:nC X w va a)(b:Raw)(vb:Value)(_:nC X w vb b)(y:Raw×Int),g a b=some y→
  Calls P f #[va,vb] w (Ret E0 w fun w' v=>∃u,v= .tuple #[u,.int .i64 y.2]∧nC (old w) w' u y.1)):KC P f (pRR g) true:=by
 intro w X hX az vs hv y hp;unfold pRR at hp;split at hp
 ·rename_i a b;match vs,hv with
  | [va,vb],⟨ha,hb,_⟩=>
   cases hg:g a b with
   | none=>simp[hg]at hp
   | some z=>
    obtain⟨c,e⟩:=z;simp only[hg,Option.some.injEq]at hp;subst hp;refine(h w X hX a va ha b vb hb (c,e) hg).mono ?_;rintro e' w' ⟨hu,v,rfl,u,rfl,hr⟩;exact⟨hu,_,rfl,[u,.int .i64 e],rfl,hr,rfl,trivial⟩
 ·cases hp
theorem jBt{g:Raw→Raw→Int×Int}(h:∀(w:World)(X:Hid)(_:∀b o,X b o→b<w.heap.size)(a:Raw)(va:Value)(_:nC X w va a)(b:Raw)(vb:Value)(_:nC X w vb b),
  Calls P f #[va,vb] w (Ret E0 w fun _ v=>v= .tuple #[.int .i64 (g a b).1,.int .i64 (g a b).2])):KC P f (pRI g) true:=by
 intro w X hX az vs hv y hp;unfold pRI at hp;split at hp
 ·rename_i a b;match vs,hv with
  | [va,vb],⟨ha,hb,_⟩=>
   cases hp;refine(h w X hX a va ha b vb hb).mono ?_;rintro e' w' ⟨hu,v,rfl,rfl⟩;exact⟨hu,_,rfl,[.int .i64 (g a b).1,.int .i64 (g a b).2],rfl,rfl,rfl,trivial⟩
 ·cases hp
theorem kc_r{g:Raw→Int}(h:∀(w:World)(X:Hid)(_:∀b o,X b o→b<w.heap.size)(a:Raw)(va:Value)(_:nC X w va a),Calls P f #[va] w (Ret E0 w fun _ v=>v= .int .i64 (g a))):KC P f (pR g) true:=by
 intro w X hX az vs hv y hp;unfold pR at hp;split at hp
 ·rename_i a;match vs,hv with
  | [va],⟨ha,_⟩=>
   cases hp;refine(h w X hX a va ha).mono ?_;rintro e' w' ⟨hu,v,rfl,rfl⟩;exact⟨hu,_,rfl,rfl⟩
 ·cases hp
theorem kc_b{g:Raw→Raw→Bool}(h:∀(w:World)(X:Hid)(_:∀b o,X b o→b<w.heap.size)(a:Raw)(va:Value)(_:nC X w va a)(b:Raw)(vb:Value)(_:nC X w vb b),
  Calls P f #[va,vb] w (Ret E0 w fun _ v=>v= .bool (g a b))):KC P f (pB g) true:=by
 intro w X hX az vs hv y hp;unfold pB at hp;split at hp
 ·rename_i a b;match vs,hv with
  | [va,vb],⟨ha,hb,_⟩=>
   cases hp;refine(h w X hX a va ha b vb hb).mono ?_;rintro e' w' ⟨hu,v,rfl,rfl⟩;exact⟨hu,_,rfl,rfl⟩
 ·cases hp
theorem kc_i{g:Int→Raw}(h:∀(w:World)(n:Int),-9223372036854775808≤n→n≤9223372036854775807→Calls P f #[.int .i64 n] w (Ret E0 w fun w' v=>nC (old w) w' v (g n))):KC P f (pI g) true:=by
 intro w X hX az vs hv y hp;unfold pI at hp;split at hp
 ·rename_i n;match vs,hv with
  | [va],⟨hv1,_⟩=>
   have hv1:va= .int .i64 n:=hv1;subst hv1;cases hb:xZ n with
   | false=>simp[hb]at hp
   | true=>
    simp only[hb,cond_true,Option.some.injEq]at hp;subst hp;refine(h w n (mW hb).1 (mW hb).2).mono ?_;rintro e' w' ⟨hu,v,rfl,hr⟩;exact⟨hu,_,rfl,hr⟩
 ·cases hp
theorem jBs{g:Int→Int→Raw}(h:∀(w:World)(n m:Int),-9223372036854775808≤n→n≤9223372036854775807→ -9223372036854775808≤m→m≤9223372036854775807→m≠0→
  Calls P f #[.int .i64 n,.int .i64 m] w (Ret E0 w fun w' v=>∃u,v= .tuple #[u,.int .i64 0]∧nC (old w) w' u (g n m))):KC P f (pII g) true:=by
 intro w X hX az vs hv y hp;unfold pII at hp;split at hp
 ·rename_i n m;match vs,hv with
  | [va,vb],⟨hv1,hv2,_⟩=>
   have hv1:va= .int .i64 n:=hv1;have hv2:vb= .int .i64 m:=hv2;subst hv1;subst hv2;cases hb:(xZ n&&xZ m)&&nz m with
   | false=>simp[hb]at hp
   | true=>
    simp only[hb,cond_true,Option.some.injEq]at hp;subst hp;simp only[Bool.and_eq_true]at hb;refine(h w n m (mW hb.1.1).1 (mW hb.1.1).2 (mW hb.1.2).1 (mW hb.1.2).2 (jCe hb.2)).mono ?_;rintro e' w' ⟨hu,v,rfl,u,rfl,hr⟩;exact⟨hu,_,rfl,[u,.int .i64 0],rfl,hr,rfl,trivial⟩
 ·cases hp
end
inductive DT (α:Type) where
  | ret (a:α)
  | no
  | ite (b:Bool) (x y:DT α)
noncomputable def DT.run{α:Type}:DT α→Option α
 | .ret a=>some a
 | .no=>none
 | .ite b x y=>bif b then x.run else y.run
noncomputable def DT.bind{α β:Type}:DT α→(α→DT β)→DT β
 | .ret a,f=>f a
 | .no,_=> .no
 | .ite b x y,f=> .ite b (x.bind f) (y.bind f)
noncomputable def ofO{α:Type}:Option α→DT α
 | some a=> .ret a
 | none=> .no
noncomputable def grd{α:Type}(b:Bool)(d:DT α):DT α:= .ite b d .no
theorem run_bind{α β:Type}(f:α→DT β):∀d:DT α,(d.bind f).run=d.run.bind fun a=>(f a).run
 | .ret _=>rfl
 | .no=>rfl
 | .ite b x y=>by
  simp only[DT.bind,DT.run,run_bind f x,run_bind f y];cases b<;>rfl
theorem zM{α β:Type}{f:α→DT β}{d:DT α}{y:β}(h:(d.bind f).run=some y):∃a,d.run=some a∧(f a).run=some y:=by
 rw[run_bind]at h;exact Option.bind_eq_some_iff.1 h
theorem kM{α:Type}(x:Option α):(ofO x).run=x:=by cases x<;>rfl
theorem zV{α:Type}{b:Bool}{d:DT α}{y:α}(h:(grd b d).run=some y):b=true∧d.run=some y:=by
 cases b with
 | true=>exact⟨rfl,h⟩
 | false=>cases h
abbrev Od:=Nat→Option (List T→DT (T×Bool))
abbrev Rd':=Nat→List Bool→Code→S→DT (Ex×S)
abbrev Lo:=Nat→List Bool→S→Option (DT (Ex×S))
noncomputable def nng:Int→Bool
 | .ofNat _=>true
 | .negSucc _=>false
noncomputable def qKv:T→DT Nat
 | .v (.int _ a)=>grd (nng a) (.ret a.toNat)
 | _=> .no
noncomputable def inW:Int→Bool
 | .ofNat n=>Nat.blt n 9223372036854775808
 | .negSucc n=>Nat.blt n 9223372036854775808
noncomputable def arD(a:Int):DT Value:=grd (inW a) (.ret (.int .i64 a))
noncomputable def wq(a:Int):Int:=bif inW a then a else wr .i64 a
noncomputable def arW(a:Int):DT Value:= .ret (.int .i64 (wq a))
noncomputable def qUe:IntKind→Bool
 | .i64=>true
 | _=>false
noncomputable def arOp:BinOp→Bool
 | .add | .sub | .mul | .quo | .rem | .eql | .neq | .lss | .leq | .gtr | .geq=>true
 | _=>false
noncomputable def qQw(f:Bool)(op:BinOp)(k:IntKind)(a b:Int):DT Value:=bif qUe k then(match op with
 | .add=>bif f then arW (Int.add a b)else arD (Int.add a b)
 | .sub=>arD (Int.sub a b)
 | .mul=>arD (Int.mul a b)
 | .quo=>grd (!ieq b 0) (arD (Int.tdiv a b))
 | .rem=>grd (!ieq b 0) (.ret (.int .i64 (Int.tmod a b)))
 | _=>ofO (zOc op k a b))else ofO (zOc op k a b)
noncomputable def zDr(t:T):DT (T×Option TO):= .ret (t,none)
noncomputable def qQv(f:Bool)(op:BinOp)(x y:T):Option (DT (T×Option TO)):=match x,y with
 | .v (.int k a),.v (.int k' b)=>bif arOp op then some (bif Nat.beq (kind k) (kind k')then(qQw f op k a b).bind (fun v=>zDr (.v v))else .no)else none
 | _,_=>none
noncomputable def qGe(c a b:T):DT (T×Option TO):=match c with
 | .v (.bool c)=> .ite c (zDr a) (zDr b)
 | _=> .no
noncomputable def qUb(P:Program)(t:TypeId)(x i:T):DT (T×Option TO):=(qKv i).bind fun n=>match P.underlying t with
 | some (.slice e)=>(match ldT P e with
  | some (_,s)=>(match x with
   | .ls g A l=>bif Nat.beq s A.size then grd (Nat.blt n l.length) (zDr (.fp (qF g A (nth A.zero l n))))else .no
   | .hv A l=>bif Nat.beq s A.size then grd (Nat.blt n l.length) (zDr (.fp (zCm A (nth A.zero l n))))else .no
   | .sl cs m=>grd (Nat.blt n m) (zDr (.fp (jK cs (n*s))))
   | .st cs m=>grd (Nat.blt n m) (zDr (.fp (jK cs (n*s))))
   | .os j o m _=>grd (Nat.blt n m) (zDr (.op j (o+n*s)))
   | .og j o m=>grd (Nat.blt n m) (zDr (.op j (o+n*s)))
   | _=> .no)
  | none=> .no)
 | _=>ofO (tL P t x (.v (.int .i64 (.ofNat n))))
noncomputable def qYs(ρ:Operand→T)(d:Nat):Option Operand→DT Nat
 | some x=>qKv (ρ x)
 | none=> .ret d
noncomputable def jAe(P:Program)(t:TypeId)(g:Tg)(A:Ty)(l:List A.den)(ρ:Operand→T)(lo hi:Option Operand):DT (T×Option TO):=match elT P t with
 | some e=>(match ldT P e with
  | some (_,s)=>bif Nat.beq s A.size then(qYs ρ 0 lo).bind fun a=>(qYs ρ l.length hi).bind fun b=>grd (Nat.ble a b) (grd (Nat.ble b l.length) (zDr (.ls g A ((l.drop a).take (b-a)))))else .no
  | none=> .no)
 | none=> .no
noncomputable def qOq:Operand→Bool
 | .tmp _=>true
 | _=>false
noncomputable def zHo(P:Program)(ρ:Operand→T)(op:Op):Option (DT (T×Option TO)):=match op with
 | .binOp op _ x y _=>qQv (qOq x&&qOq y) op (dn (ρ x)) (dn (ρ y))
 | .pick c a b=>some (qGe (ρ c) (ρ a) (ρ b))
 | .indexAddr t x i=>some (qUb P t (dn (ρ x)) (dn (ρ i)))
 | .slice t x lo hi none=>(match dn (ρ x)with
  | .ls g A l=>some (jAe P t g A l (fun y=>dn (ρ y)) lo hi)
  | _=>none)
 | _=>none
noncomputable def zXi(P:Program)(e:TypeId)(s:Nat):Bool:=match zer P e with
 | some z=>Nat.beq (ln z) s&&Nat.blt 0 s
 | none=>false
noncomputable def apN(P:Program)(e:TypeId):Nat:=match P.info? e with
 | some i=>apM i.bytes
 | none=>0
noncomputable def qBn{α:Type}(c:Cs)(n s:Nat)(d:DT α):DT α:=match c with
 | .l cs=>grd (Nat.beq (ln cs) (n*s)) d
 | .d _ A x=>bif Nat.beq s A.size then grd (Nat.beq n x.length) d else .no
noncomputable def apG(H:List TO)(e:TypeId)(s:Nat)(y:T)(b:List T)(i o n m:Nat):TO→DT (T×List TO)
 | .gro cs e'=>bif Nat.beq o 0&&Nat.beq e e' then qBn cs n s (.ret (.og (ln H) 0 (n+m),put .gone H i++[.gro (cs.apY y b) e]))else .no
 | _=> .no
noncomputable def ap1(H:List TO)(e:TypeId)(s:Nat)(y:T)(b:List T)(m:Nat):T→DT (T×List TO)
 | .og i o n=>apG H e s y b i o n m (nth .gone H i)
 | x=>(match qI H s x,jJ x with
  | some a,some n=>ofO (qIh H e s y a b n m x)
  | _,_=> .no)
noncomputable def apL(P:Program)(e:TypeId)(s:Nat)(x:T)(m:Nat)(d:DT (T×List TO)):DT (T×List TO):=match jJ x with
 | some n=>bif zXi P e s then grd (Nat.ble (n+m) (apN P e)) d else .no
 | none=> .no
noncomputable def zVu(y:T)(b:List T):Bool:=match y with
 | .ls .. =>true
 | _=>vC b
noncomputable def qNv(H:List TO)(s:Nat)(x:T)(o n:Nat):TO→DT (T×List TO)
 | .gro cs _=>bif Nat.beq o 0 then qBn cs n s (.ret (x,H))else .no
 | _=> .no
noncomputable def qAv(H:List TO)(s:Nat):T→DT (T×List TO)
 | .og i o n=>qNv H s (.og i o n) o n (nth .gone H i)
 | x=>(match qI H s x,jJ x with
  | some _,some _=>ofO (qIf H x)
  | _,_=> .no)
noncomputable def apD(P:Program)(H:List TO)(t:TypeId)(x y:T):DT (T×List TO):=match elT P t with
 | none=> .no
 | some e=>match ldT P e with
  | none=> .no
  | some (_,s)=>match qI H s y,jJ y with
   | some b,some m=> .ite (Nat.beq m 0) (qAv H s x) (bif zVu y b then apL P e s x m (ap1 H e s y b m x)else .no)
   | _,_=> .no
noncomputable def poR(OD:Od):Po:=fun f az=>match OD f with
 | some g=>(g az).run
 | none=>none
noncomputable def zGq{α β:Type}(f:α→DT β):List α→DT (List β)
 | []=> .ret []
 | t::l=>(f t).bind fun x=>(zGq f l).bind fun r=> .ret (x::r)
noncomputable def qCx(nw:Bool)(o n:Nat):TO→Option (DT T)
 | .gro (.d g A x) _=>some (bif Nat.beq o 0&&(lQ A&&(!nw||g.isN))then grd (Nat.beq n x.length) (.ret (.ls .a A x.reverse))else .no)
 | _=>none
noncomputable def dZ(nw:Bool)(H:List TO):Nat→T→DT T
 | 0,_=> .no
 | k+1,t=>match t with
  | .ag cs=>(zGq (dZ nw H k) cs).bind fun l=> .ret (.ag l)
  | .tu cs=>(zGq (dZ nw H k) cs).bind fun l=> .ret (.tu l)
  | .fn f cs=>(zGq (dZ nw H k) cs).bind fun l=> .ret (.fn f l)
  | .os i o n c=>bif Nat.ble n c&&Nat.ble c 9223372036854775807 then(match rH (nth .gone H i)with
   | some cs=>(zGq (dZ nw H k) (jK cs o)).bind fun l=> .ret (.sl l n)
   | none=> .no)else .no
  | .og i o n=>(match qCx nw o n (nth .gone H i)with
   | some d=>d
   | none=>(match rH (nth .gone H i)with
    | some cs=>(zGq (dZ nw H k) (jK cs o)).bind fun l=> .ret (.sl l n)
    | none=> .no))
  | .op i o=>(match rH (nth .gone H i)with
   | some cs=>(zGq (dZ nw H k) (jK cs o)).bind fun l=> .ret (.fp l)
   | none=> .no)
  | t=>ofO (yD nw H (k+1) t)
noncomputable def zMk(H:List TO):Nat→T→Bool
 | 0,_=>false
 | k+1,t=>match t with
  | .v _=>true
  | .ls g _ _=>g.isN
  | .sl [] 0=>true
  | .st [] 0=>true
  | .sn cs _=>cs.all (zMk H k)
  | .ag cs=>cs.all (zMk H k)
  | .tu cs=>cs.all (zMk H k)
  | .fn _ cs=>cs.all (zMk H k)
  | .os i o _ _=>(match rH (nth .gone H i)with
   | some cs=>(jK cs o).all (zMk H k)
   | none=>false)
  | .og i o _=>(match nth .gone H i with
   | .gro (.d g _ _) _=>g.isN
   | x=>(match rH x with
    | some cs=>(jK cs o).all (zMk H k)
    | none=>false))
  | .op i o=>(match rH (nth .gone H i)with
   | some cs=>(jK cs o).all (zMk H k)
   | none=>false)
  | _=>false
noncomputable def jB(r:T×List TO):DT (T×Bool):=(dZ (zMk r.2 12 r.1) r.2 12 r.1).bind fun t=> .ret (t,zMk r.2 12 r.1)
noncomputable def newD(H:List TO):T×Bool→DT (T×List TO)
 | (t,true)=> .ret (mkN 12 t,H)
 | (_,false)=> .no
noncomputable def poD(g:List T→DT (T×Bool))(H:List TO)(az:List T):DT (T×List TO):=bif zYt az then(zGq (dZ false H 12) az).bind fun az=>(g az).bind (newD H)
 else(g az).bind fun r=> .ret (bif r.2 then mkN 12 r.1 else r.1,H)
noncomputable def qZs(P:Program)(fn:Func):Ex×S→DT (T×List TO)
 | (.x _,_)=> .no
 | (.p _,_)=> .no
 | (_,s)=>(match fB P s.L s.H fn.results.toList with
  | some r=> .ret (zQg r,s.H)
  | none=> .no)
noncomputable def qW(P:Program)(rn:Rd')(f:Nat)(az:List T)(H:List TO):DT (T×List TO):=match P.funcs[f]? with
 | none=> .no
 | some fn=>match fn.body with
  | none=> .no
  | some c=>bif Nat.ble (ln az) fn.ntmps then(rn f [] c ⟨rest fn.ntmps az,H⟩).bind (qZs P fn)else .no
noncomputable def vH(m:Nat):Nat→T→Bool
 | 0,_=>false
 | k+1,t=>match t with
  | .sl cs _=>cs.all (vH m k)
  | .sn cs _=>cs.all (vH m k)
  | .st cs _=>cs.all (vH m k)
  | .fp cs=>cs.all (vH m k)
  | .ag cs=>cs.all (vH m k)
  | .tu cs=>cs.all (vH m k)
  | .fn _ cs=>cs.all (vH m k)
  | .fb _ cs=>cs.all (vH m k)
  | .os i _ _ _=>Nat.blt i m
  | .og i _ _=>Nat.blt i m
  | .op i _=>Nat.blt i m
  | .om i=>Nat.blt i m
  | .yl i=>Nat.blt i m
  | _=>true
noncomputable def gcO(m:Nat):TO→Bool
 | .row cs _=>cs.all (vH m 12)
 | .gro (.d _ _ _) _=>true
 | .gro (.l cs) _=>cs.all (vH m 12)
 | .gone=>true
 | _=>false
noncomputable def gcD(H:List TO)(r:T×List TO):DT (T×List TO):=bif vH (ln H) 12 r.1&&(r.2.take (ln H)).all (gcO (ln H))then .ret (r.1,r.2.take (ln H))else .ret r
noncomputable def zXm(P:Program)(OD:Od)(rn:Rd')(f:Nat)(az:List T)(H:List TO):DT (T×List TO):=match OD f with
 | some g=>poD g H az
 | none=>(qW P rn f az H).bind (gcD H)
noncomputable def bodD(rn:Rd')(l:Nat)(b0:Code):Ex×S→DT (T×List TO)
 | (.n,s)=>(match nth .gone s.H l with
  | .loop L ps a b true none=>(rn 1000000 [] b0 ⟨s.L,put (.loop L ps a b false none) s.H l⟩).bind fun r=>ofO (qSv l (some r))
  | _=> .no)
 | _=> .no
noncomputable def jBb(rn:Rd')(l:Nat)(az:List T)(H:List TO):DT (T×List TO):=match nth .gone H l with
 | .loop L ps a b true none=>bif Nat.beq (ln ps) (ln az)then(rn 1000000 [] a ⟨zHs L ps az,H⟩).bind (bodD rn l b)else .no
 | _=> .no
noncomputable def qQy(P:Program)(OD:Od)(rn:Rd')(az:List T)(H:List TO):T→DT (T×List TO)
 | .fn f cs=>bif jO P f then zXm P OD rn f (az++cs) H else .no
 | .fb f bs=>bif jO P f then zXm P OD rn f (bs++az) H else .no
 | .yl l=>jBb rn l az H
 | _=> .no
noncomputable def qSy(d:Option Nat)(L:List T)(r:T×List TO):DT S:= .ret ⟨dst d r.1 L,r.2⟩
noncomputable def noC:Cl:=fun _ _ _=>none
noncomputable def qNz(P:Program)(OD:Od)(rn:Rd')(o:Oper)(L:List T)(H:List TO)(c:Call):DT S:=match c.callee with
 | .value f=>(qQy P OD rn (c.args.toList.map (evO L)) H (evO L f)).bind (qSy o.dst L)
 | .builtin .append=>(match c.args.toList,c.argTypes.toList with
  | [x,y],[t,t']=>bif Nat.beq t t' then(apD P H t (evO L x) (evO L y)).bind (qSy o.dst L)else .no
  | _,_=> .no)
 | _=>ofO (gT P noC noC o L H)
noncomputable def qLe(P:Program)(OD:Od)(rn:Rd')(o:Oper)(L:List T)(H:List TO):DT S:=match zHo P (evO L) o.op with
 | some d=>d.bind fun r=>ofO (zOt o.dst L H r)
 | none=>match o.op with
  | .call c=>qNz P OD rn o L H c
  | _=>ofO (gT P noC noC o L H)
inductive Gd where
  | no
  | free
  | skip
  | on (t:Nat) (c b:Bool)
noncomputable def gdT(ops:Array Oper)(L:List T)(o:Oper):Gd:=match o.guard with
 | none=> .free
 | some (j,b)=>match(match ops[j]? with | some p=>p.dst | none=>none)with
  | some t=>(match nth .u L t with
   | .v (.bool c)=> .on t c b
   | .tu []=> .skip
   | _=> .no)
  | none=> .no
noncomputable def onS{α:Type}(L:List T)(t:Nat)(c b:Bool)(y n:List T→DT α):DT α:= .ite c (bif b then y (put (.v (.bool true)) L t)else n (put (.v (.bool true)) L t)) (bif b then n (put (.v (.bool false)) L t)else y (put (.v (.bool false)) L t))
noncomputable def opD(P:Program)(OD:Od)(rn:Rd')(ops:Array Oper)(o:Oper)(s:S):DT S:=match gdT ops s.L o with
 | .no=> .no
 | .free=>qLe P OD rn o s.L s.H
 | .skip=> .ret ⟨dst o.dst (.tu []) s.L,s.H⟩
 | .on t c b=>onS s.L t c b (fun L=>qLe P OD rn o L s.H) (fun L=> .ret ⟨dst o.dst (.tu []) L,s.H⟩)
noncomputable def qFj(P:Program)(OD:Od)(rn:Rd')(ops:Array Oper):List Oper→S→DT S
 | [],s=> .ret s
 | o::l,s=>(opD P OD rn ops o s).bind (qFj P OD rn ops l)
noncomputable def frsD(P:Program)(rn:Rd')(k f:Nat)(az:List T):DT (T×Bool):=(qW P rn f (az.map (unN 12)) (lN k)).bind jB
noncomputable def puD(P:Program)(OD:Od)(rn:Rd')(k f:Nat)(az:List T):DT (T×Bool):=match OD f with
 | some g=>g az
 | none=>frsD P rn k f az
noncomputable def newH:T×Bool→DT (T×Option TO)
 | (t,true)=>zDr (mkN 12 t)
 | (_,false)=> .no
noncomputable def qZj(P:Program)(OD:Od)(rn:Rd')(k:Nat)(H:List TO)(f:Nat)(az:List T):DT (T×Option TO):=bif zYt az then(zGq (dZ false H 12) az).bind fun az=>(puD P OD rn k f az).bind newH
 else(puD P OD rn k f az).bind fun r=>zDr (bif r.2 then mkN 12 r.1 else r.1)
noncomputable def abG(Hn:List TO)(e:TypeId)(s:Nat)(y:T)(b:List T)(o n m:Nat):TO→DT (T×Option TO)
 | .gro cs e'=>bif Nat.beq o 0&&Nat.beq e e' then qBn cs n s (.ret (.og (ln Hn) 0 (n+m),some (.gro (cs.apY y b) e)))else .no
 | _=> .no
noncomputable def abX(P:Program)(H0 Hn:List TO)(e:TypeId)(s:Nat)(t:TypeId)(x y:T)(b:List T)(m:Nat):T→DT (T×Option TO)
 | .og i o n=>abG Hn e s y b o n m (nth .gone H0 i)
 | _=>ofO (zXj P H0 Hn none t x y)
noncomputable def abD(P:Program)(H0 Hn:List TO)(t:TypeId)(x y:T):DT (T×Option TO):=match elT P t with
 | none=> .no
 | some e=>match ldT P e with
  | none=> .no
  | some (_,s)=>match qI Hn s y,jJ y,jJ x with
   | some b,some m,some n=>bif vC b&&zXi P e s then grd (!Nat.beq m 0) (grd (Nat.ble (n+m) (apN P e)) (abX P H0 Hn e s t x y b m x))else .no
   | _,_,_=> .no
noncomputable def hcaD(P:Program)(OD:Od)(rn:Rd')(k:Nat)(H0 H Hn:List TO)(L:List T)(o:Oper)(c:Call):DT (T×Option TO):=match c.callee with
 | .value f=>(match evO L f with
  | .fn f cs=>bif jO P f then qZj P OD rn k Hn f (c.args.toList.map (evO L)++cs)else .no
  | _=> .no)
 | .builtin .append=>(match c.args.toList,c.argTypes.toList with
  | [x,y],[t,t']=>bif Nat.beq t t' then abD P H0 Hn t (evO L x) (evO L y)else .no
  | _,_=> .no)
 | _=>ofO (nR P (fun _ _=>none) H0 H Hn L o)
noncomputable def qDg(P:Program)(OD:Od)(rn:Rd')(k:Nat)(H0 H Hn:List TO)(L:List T)(o:Oper):DT (T×Option TO):=match zHo P (evO L) o.op with
 | some d=>d
 | none=>match o.op with
  | .call c=>hcaD P OD rn k H0 H Hn L o c
  | _=>ofO (nR P (fun _ _=>none) H0 H Hn L o)
noncomputable def zSn(g:List TO→List T→DT (List (T×Option TO)))(o:Oper)(Hn:List TO)(L:List T)(z:T×Option TO):DT (List (T×Option TO)):=(g (nxH Hn z.2) (dst o.dst z.1 L)).bind fun rs=> .ret (z::rs)
noncomputable def zIp(P:Program)(OD:Od)(rn:Rd')(k:Nat)(H0 H:List TO)(ops:Array Oper):List Oper→List TO→List T→DT (List (T×Option TO))
 | [],_,_=> .ret []
 | o::l,Hn,L=>match gdT ops L o with
  | .no=> .no
  | .free=>(qDg P OD rn k H0 H Hn L o).bind (zSn (zIp P OD rn k H0 H ops l) o Hn L)
  | .skip=>zSn (zIp P OD rn k H0 H ops l) o Hn L (.tu [],none)
  | .on t c b=>onS L t c b (fun L=>(qDg P OD rn k H0 H Hn L o).bind (zSn (zIp P OD rn k H0 H ops l) o Hn L)) (fun L=>zSn (zIp P OD rn k H0 H ops l) o Hn L (.tu [],none))
noncomputable def noHd(OD:Od)(L:List T)(o:Oper):Bool:=match o.op with
 | .store .. | .mapUpdate .. =>true
 | .call c=>(match c.callee with
  | .builtin .copy=>true
  | _=>false)
 | _=>false
noncomputable def hdN(OD:Od)(ops:Array Oper)(L:List T):List Oper→List Nat→Nat→Nat
 | [],_,i=>i
 | o::l,seen,i=>bif zNd o seen||(noHd OD L o||(qOo o&&tlK ops i))then i else hdN OD ops L l (zQy o seen) (i+1)
noncomputable def mvL(L:List T)(o:Oper):List T:=match o.op with
 | .move x=>dst o.dst (evO L x) L
 | .assign x=>dst o.dst (evO L x) L
 | _=>dst o.dst .u L
noncomputable def ksS(L:List T):List Oper→List (Option Nat)
 | []=>[]
 | o::l=>sU L o.op::ksS (mvL L o) l
noncomputable def qHg(P:Program)(OD:Od)(rn:Rd')(ops:Array Oper)(ld:List Nat):List Oper→S→DT S
 | [],s=> .ret s
 | o::l,s=>(opD P OD rn ops o s).bind fun s=>bif emp ld then qHg P OD rn ops ld l s else grd (rX P ops s ld) (qHg P OD rn ops ld l s)
noncomputable def drT(P:Program)(OD:Od)(rn:Rd')(ops:Array Oper)(m:Nat)(Hm:List TO)(s:S)(rs:List (T×Option TO)):DT S:=
 bif Nat.ble m ops.size&&(qCg ops m&&zLz Hm (ksE ops.toList rs s.L))then(bif emp (bZ ops m)then qHg P OD rn ops [] (ops.toList.drop m) ⟨kJ ops.toList rs s.L,xO (ksE ops.toList rs s.L) s.H++qD rs⟩
  else grd (rX P ops ⟨kJ ops.toList rs s.L,xO (ksE ops.toList rs s.L) s.H++qD rs⟩ (bZ ops m)) (qHg P OD rn ops (bZ ops m) (ops.toList.drop m) ⟨kJ ops.toList rs s.L,xO (ksE ops.toList rs s.L) s.H++qD rs⟩))else .no
noncomputable def drH(P:Program)(OD:Od)(rn:Rd')(ops:Array Oper)(m:Nat)(Hm:List TO)(s:S):DT S:=
 (zIp P OD rn (ln s.H+ops.size) s.H Hm ops (ops.toList.take m) Hm s.L).bind (drT P OD rn ops m Hm s)
noncomputable def drD(P:Program)(OD:Od)(rn:Rd')(ops:Array Oper)(s:S):DT S:=
 drH P OD rn ops (hdN OD ops s.L ops.toList [] 0) (xO (ksS s.L (ops.toList.take (hdN OD ops s.L ops.toList [] 0))) s.H) s
noncomputable def seqD(rn:S→DT (Ex×S)):Ex×S→DT (Ex×S)
 | (.n,s)=>rn s
 | r=> .ret r
noncomputable def blkD(id:Nat):Ex×S→DT (Ex×S)
 | (.x j,s)=> .ret (bif Nat.beq j id then .n else .x j,s)
 | r=> .ret r
noncomputable def qIv(x y:S→DT (Ex×S))(s:S):Operand→DT (Ex×S)
 | .tmp t=>(match nth .u s.L t with
  | .v (.bool b)=> .ite b (x ⟨put (.v (.bool true)) s.L t,s.H⟩) (y ⟨put (.v (.bool false)) s.L t,s.H⟩)
  | _=> .no)
 | c=>(match evO s.L c with
  | .v (.bool b)=> .ite b (x s) (y s)
  | _=> .no)
noncomputable def qKo(r:S→DT (Ex×S)):Nat→S→DT (Ex×S)
 | 0,_=> .no
 | n+1,s=>(r s).bind (seqD (qKo r n))
noncomputable def norD(s:S):DT (Ex×S):= .ret (.n,s)
noncomputable def rngD(P:Program)(OD:Od)(rn:Rd')(ps:List Nat)(a b:Code)(L:List T)(H:List TO):T→DT (Ex×S)
 | .fn f cs=>bif jO P f then(zXm P OD rn f (.yl (ln H)::cs) (H++[.loop L ps a b true none])).bind fun r=>ofO (qJd (ln H) L (some r))else .no
 | _=> .no
noncomputable def zTq(P:Program)(OD:Od)(LO:Lo)(rn:Rd')(f:Nat)(p:List Bool)(c:Code)(s:S):DT (Ex×S):=match c with
 | .skip=> .ret (.n,s)
 | .label _=> .ret (.n,s)
 | .seq x y=>(rn f (false::p) x s).bind (seqD (rn f (true::p) y))
 | .cond c x y=>qIv (rn f (false::p) x) (rn f (true::p) y) s c
 | .block id x=>(rn f (false::p) x s).bind (blkD id)
 | .exit id=> .ret (.x id,s)
 | .ret=> .ret (.r,s)
 | .scope x=>rn f (false::p) x s
 | .loop x=>(match bif Nat.blt f 1000000 then LO f p s else none with
  | some d=>d
  | none=>qKo (rn f (false::p) x) 5000 s)
 | .region _ ops false=>bif gQ ops then(qFj P OD rn ops ops.toList s).bind norD else .no
 | .region _ ops true=>bif gQ ops then(drD P OD rn ops s).bind norD else .no
 | .rangeFunc g ps a b=>bif noR a&&noR b then rngD P OD rn ps.toList a b s.L s.H (evO s.L g)else .no
 | _=> .no
noncomputable def evD(P:Program)(OD:Od)(LO:Lo):Nat→Rd'
 | 0=>fun _ _ _ _=> .no
 | k+1=>zTq P OD LO (evD P OD LO k)
noncomputable def zDb:T→Bool
 | .v _=>true
 | .ls _ _ _=>true
 | _=>false
noncomputable def zEf:T→Option T
 | .v x=>some (.v x)
 | .ls g A l=>some (.ls g A l)
 | .hv A l=>some (.hv A l)
 | .ag cs=>bif cs.all zDb then some (.ag cs)else none
 | _=>none
section
variable {P:Program}{E:Nat→Prop}{w0:World}{X:Hid}{F:List Nat}{H H':List TO}{B B':Bm}{w:World}{Y:Hid}{Mo:List (Nat×Obj)}{r:Rd}{m:Nat}
theorem Rep.low(hB:∀i,i<m→B' i=B i)(hN:B'.N=B.N):∀(k:Nat){t:T}{v:Value},vH m k t=true→Rep B r t v→Rep B' r t v
 | 0,_,_,h,_=>by cases h
 | k+1,t,y,h,hR=>by
  have all:∀{cs:List T},cs.all (vH m k)=true→∀(j:Nat)(t:T),cs[j]?=some t→vH m k t=true:=fun h j t e=>List.all_eq_true.1 h t (List.mem_of_getElem? e);have lt:∀{i:Nat},Nat.blt i m=true→i<m:=fun h=>by rwa[Nat.blt_eq]at h
  cases hR with
  | u=>exact .u
  | v hs=>exact .v hs
  | sl hn f h1 g hm=>simp only[vH]at h;exact .sl hn f h1 (fun j t e=>Rep.low hB hN k (all h j t e) (g j t e)) hm
  | sl0 hm=>exact .sl0 hm
  | sn hn f h1 g hm hb=>simp only[vH]at h;exact .sn hn f h1 (fun j t e=>Rep.low hB hN k (all h j t e) (g j t e)) hm (fun j t e=>hN▸hb j t e)
  | sn0 hm=>exact .sn0 hm
  | st f h1 g=>simp only[vH]at h;exact .st f h1 fun j t e=>Rep.low hB hN k (all h j t e) (g j t e)
  | st0=>exact .st0
  | fp f h1 g=>simp only[vH]at h;exact .fp f h1 fun j t e=>Rep.low hB hN k (all h j t e) (g j t e)
  | ag f hl h1 g=>simp only[vH]at h;exact .ag f hl h1 fun j t e=>Rep.low hB hN k (all h j t e) (g j t e)
  | tu f hl h1 g=>simp only[vH]at h;exact .tu f hl h1 fun j t e=>Rep.low hB hN k (all h j t e) (g j t e)
  | fn f hl h1 g=>simp only[vH]at h;exact .fn f hl h1 fun j t e=>Rep.low hB hN k (all h j t e) (g j t e)
  | fb f hl h1 g=>simp only[vH]at h;exact .fb f hl h1 fun j t e=>Rep.low hB hN k (all h j t e) (g j t e)
  | os h1=>exact .os (by rw[hB _ (lt h)];exact h1)
  | og h1 h2 h3 h4=>exact .og (by rw[hB _ (lt h)];exact h1) h2 h3 h4
  | op h1=>exact .op (by rw[hB _ (lt h)];exact h1)
  | om h1=>exact .om (by rw[hB _ (lt h)];exact h1)
  | yl h1=>exact .yl (by rw[hB _ (lt h)];exact h1)
  | ls h1=>exact .ls (jI.mono (Le.refl _) (fun b k=>k.eqN hN.symm) _ _ _ h1)
  | hv h1=>exact .hv (nD.mono (Le.refl _) (fun b k=>k.eqN hN.symm) _ _ _ h1)
theorem bW{t:T}(h:zDb t=true)(hN:B'.N=B.N){v:Value}(hR:Rep B r t v):Rep B' r t v:=by
 unfold zDb at h;split at h
 ·obtain⟨rfl,hs⟩:=hR.vI;exact .v hs
 ·cases hR with
  | ls h1=>exact .ls (jI.mono (Le.refl _) (fun b k=>k.eqN hN.symm) _ _ _ h1)
 ·cases h
theorem zEi(hN:B'.N=B.N):∀{ts:List T}{vs:List Value},ts.all zDb=true→zN B r ts vs→zN B' r ts vs
 | [],[],_,_=>trivial
 | t::ts,v::vs,h,hR=>by
  simp only[List.all_cons,Bool.and_eq_true]at h;exact⟨bW h.1 hN hR.1,zEi hN h.2 hR.2⟩
 | [],_::_,_,hR=>hR.elim
 | _::_,[],_,hR=>hR.elim
theorem zOp{t t':T}(h:zEf t=some t'):t'=t:=by
 unfold zEf at h;split at h
 ·cases h;rfl
 ·cases h;rfl
 ·cases h;rfl
 ·rename_i cs;cases hc:cs.all zDb with
  | false=>rw[hc]at h;cases h
  | true=>rw[hc]at h;cases h;rfl
 ·cases h
theorem zJd{t t':T}(h:zEf t=some t')(hN:B'.N=B.N){v:Value}(hR:Rep B r t v):Rep B' r t' v:=by
 obtain rfl:=zOp h;unfold zEf at h;split at h
 ·exact bW rfl hN hR
 ·exact bW rfl hN hR
 ·cases hR with
  | hv h1=>exact .hv (nD.mono (Le.refl _) (fun b k=>k.eqN hN.symm) _ _ _ h1)
 ·rename_i cs;cases hc:cs.all zDb with
  | false=>rw[hc]at h;cases h
  | true=>
   obtain⟨vs,rfl,hvs⟩:=hR.agI;exact Rep.mkAg (zEi hN hc hvs)
 ·cases h
theorem Wd.re(h:Wd P E w0 X F H B w Y Mo)(q:Nat→Option Nat)(hN:B'.N=B.N)(hn:∀i,H'.length≤i→B' i=none)
  (hq:∀(i:Nat)(o:TO),H'[i]?=some o→vB o=true→∃j o1,q i=some j∧B' i=B j∧H[j]?=some o1∧vB o1=true∧∀C ob,RO P B (rd w Y) C o1 ob→RO P B' (rd w Y) C o ob)
  (hf:∀(i:Nat)(cs:List T),H'[i]?≠some (.fz cs)) (hi:∀(i j k:Nat)(o1 o2:TO),H'[i]?=some o1→vB o1=true→H'[j]?=some o2→vB o2=true→q i=some k→q j=some k→i=j):Wd P E w0 X F H' B' w Y Mo:=
 ⟨h.st,fun i o ho hl=>by
  obtain⟨j,o1,_,e2,e3,e4,e5⟩:=hq i o ho hl;obtain⟨b,C,ob,g1,g2,g3⟩:=h.ob j o1 e3 e4;exact⟨b,C,ob,by rw[e2];exact g1,g2,e5 C ob g3⟩,fun i cs hc=>absurd hc (hf i cs),hn,fun i j oi oj p p' h1 l1 h2 l2 hp hp' e=>by
  obtain⟨a,o1,e1,e2,e3,e4,_⟩:=hq i oi h1 l1;obtain⟨a',o1',e1',e2',e3',e4',_⟩:=hq j oj h2 l2;rw[e2]at hp;rw[e2']at hp';have:=h.inj a a' o1 o1' p p' e3 e4 e3' e4' hp hp' e;subst this;exact hi i j a oi oj h1 l1 h2 l2 e1 e1',by rw[hN];exact h.bN,h.iv⟩
theorem dE{g:Tg}{A:Ty}(hN:B'.N=B.N):∀{ts:List T}{vs:List Value},(∀t∈ts,∃t',zEf t=some t')→zN B r ts vs→zN B' r ts vs
 | [],[],_,_=>trivial
 | t::ts,v::vs,h,hR=>by
  obtain⟨t',ht⟩:=h t List.mem_cons_self;obtain rfl:=zOp ht;exact⟨zJd ht hN hR.1,dE (g:=g) (A:=A) hN (fun t ht=>h t (List.mem_cons_of_mem _ ht)) hR.2⟩
 | [],_::_,_,hR=>hR.elim
 | _::_,[],_,hR=>hR.elim
theorem rO(g:Tg):∀(A:Ty)(x:A.den),∀t∈qF g A x,∃t',zEf t=some t'
 | .lim,_,t,h=>by simp only[qF,List.mem_singleton]at h;subst h;exact⟨_,rfl⟩
 | .int _,_,t,h=>by simp only[qF,List.mem_singleton]at h;subst h;exact⟨_,rfl⟩
 | .bool,_,t,h=>by simp only[qF,List.mem_singleton]at h;subst h;exact⟨_,rfl⟩
 | .str,_,t,h=>by simp only[qF,List.mem_singleton]at h;subst h;exact⟨_,rfl⟩
 | .list _,_,t,h=>by simp only[qF,List.mem_singleton]at h;subst h;exact⟨_,rfl⟩
 | .prod A C,x,t,h=>by
  rcases List.mem_append.1 h with h | h
  ·exact rO g A _ t h
  ·exact rO g C _ t h
theorem bS(g:Tg)(A:Ty):∀(l:List A.den),∀t∈qN g A l,∃t',zEf t=some t'
 | [],t,h=>by cases h
 | x::l,t,h=>by
  rcases List.mem_append.1 h with h | h
  ·exact bS g A l t h
  ·exact rO g A x t h
theorem zN.low(hB:∀i,i<m→B' i=B i)(hN:B'.N=B.N):∀{ts:List T}{vs:List Value},ts.all (vH m 12)=true→zN B r ts vs→zN B' r ts vs
 | [],[],_,_=>trivial
 | t::ts,v::vs,h,hR=>by
  simp only[List.all_cons,Bool.and_eq_true]at h;exact⟨Rep.low hB hN 12 h.1 hR.1,zN.low hB hN h.2 hR.2⟩
 | [],_::_,_,hR=>hR.elim
 | _::_,[],_,hR=>hR.elim
theorem qTd(hB:∀i,i<m→B' i=B i)(hN:B'.N=B.N){C:Nat}{o:TO}{ob:Obj}(h:gcO m o=true)(hro:RO P B r C o ob):RO P B' r C o ob:=by
 cases hro with
 | row hr=>exact .row (zN.low hB hN h hr)
 | @gro cs e c i0 hi hs hC hr=>
  cases cs with
  | l cs=>exact .gro hi hs hC (zN.low (m:=m) hB hN h hr)
  | d g A x=>exact .gro hi hs hC (dE (g:=g) (A:=A) hN (bS g A x) hr)
 | map=>cases h
 | mapd=>cases h
 | loop=>cases h
theorem Kn.gc{f:Nat}{az:List T}{tv:T}{H':List TO}(h:Kn P f az H tv H')(ht:vH H.length 12 tv=true)(ho:(H'.take H.length).all (gcO H.length)=true):Kn P f az H tv (H'.take H.length):=by
 intro E w0 X F B w Y Mo qC R hW hR hk;refine h E w0 X F B w Y Mo qC R hW hR fun v w' B' Y' Mo' k1 k2 k3 k4=>?_;let B2:Bm:=⟨fun i=>if i<H.length then B' i else none,B'.N⟩
 have hB:∀i,i<H.length→B2 i=B' i:=fun i hi=>if_pos hi;have hall:∀(i:Nat)(o:TO),(H'.take H.length)[i]?=some o→gcO H.length o=true∧i<H.length∧H'[i]?=some o:=fun i o e=>by
  refine⟨List.all_eq_true.1 ho o (List.mem_of_getElem? e),?_⟩;rw[List.getElem?_take]at e;split at e
  ·rename_i hi;exact⟨hi,e⟩
  ·cases e
 refine hk v w' B2 Y' Mo' (k1.re (H':=H'.take H.length) (B':=B2) (fun i=>some i) rfl (fun i hi=>?_) (fun i o e hl=>?_) (fun i cs e=>?_) (fun i j k p1 p2 g1 l1 g2 l2 e1 e2=>by cases e1;cases e2;rfl)) (Rep.low hB rfl 12 ht k2) ⟨fun i p e=>?_,k3.n⟩ k4
 ·show(if i<H.length then B' i else none)=none
  rw[List.length_take]at hi;split
  ·rename_i h1;exact k1.nn i (by omega)
  ·rfl
 ·obtain⟨g,hi,e'⟩:=hall i o e;exact⟨i,o,rfl,hB i hi,e',hl,fun C ob hro=>qTd hB rfl g hro⟩
 ·obtain⟨g,_,_⟩:=hall i _ e;cases g
 ·have hi:i<H.length:=by
   rcases Nat.lt_or_ge i H.length with h | h
   ·exact h
   ·rw[hW.nn i h]at e;cases e
  rw[hB i hi];exact k3 i p e
end
def zAa:Bool→Code→Option Code
 | false,.seq x _=>some x
 | true,.seq _ y=>some y
 | false,.cond _ x _=>some x
 | true,.cond _ _ y=>some y
 | false,.block _ x=>some x
 | false,.scope x=>some x
 | false,.loop x=>some x
 | _,_=>none
def cAt(P:Program)(f:Nat):List Bool→Option Code
 | []=>(P.funcs[f]?).bind fun fn=>fn.body
 | b::p=>(cAt P f p).bind (zAa b)
def Tr(P:Program)(c:Code)(s:S)(e:Ex)(s':S):Prop:=
 ∀(E:Nat→Prop)(w0:World)(X:Hid)(F:List Nat)(n:Nat)(a:Act)(D:List Deferred)(B:Bm)(w:World)(Y:Hid)(Mo:List (Nat×Obj))(rr:Option Nat)(Q:Exit→Act→World→Prop),
  (rr=none∨noR c=true)→Wd P E w0 X F s.H B w Y Mo→FrT n a s.L D B (rd w Y)→lU P E w0 X F n D (noR c) e s' B (rd w Y) Q→c.wpIn (FF rr) 0 P Q a w
def mQ(P:Program)(LO:Lo):Prop:=∀f p s d,LO f p s=some d→∀x,cAt P f p=some (.loop x)→∀e s',d.run=some (e,s')→Tr P (.loop x) s e s'
def vL(P:Program)(OD:Od):Prop:=∀f g,OD f=some g→∀az tv nw,(g az).run=some (tv,nw)→∀k,KnP P k f az tv nw
def dY(P:Program)(rn:Rd'):Prop:=∀f p c s e s',(cAt P f p=some c∨1000000≤f)→(rn f p c s).run=some (e,s')→Tr P c s e s'
section
variable {P:Program}{OD:Od}{LO:Lo}{rn:Rd'}{H H':List TO}{L:List T}{ops:Array Oper}{o:Oper}{s s':S}
theorem vL.po(h:vL P OD):zL P (poR OD):=by
 intro f az tv nw e;unfold poR at e;cases hf:OD f with
 | none=>simp[hf]at e
 | some g=>rw[hf]at e;exact h f g hf az tv nw e
theorem qEi{t:T}{n:Nat}(h:(qKv t).run=some n):sV t=some n:=by
 unfold qKv at h;split at h
 ·rename_i a;obtain⟨h1,h2⟩:=zV h;cases a with
  | ofNat m=>cases h2;rfl
  | negSucc m=>cases h1
 ·cases h
theorem zPc{a:Int}(h:inW a=true):i64.wrap a=a:=by
 have h2: -9223372036854775808≤a∧a<9223372036854775808:=by
  cases a with
  | ofNat n=>simp only[inW,Nat.blt_eq]at h;simp only[Int.ofNat_eq_natCast];omega
  | negSucc n=>simp only[inW,Nat.blt_eq]at h;omega
 have e:i64.wrap a=if a % 18446744073709551616≥9223372036854775808 then a % 18446744073709551616-18446744073709551616 else a % 18446744073709551616:=by
  unfold IntKind.wrap;simp[IntKind.bits,IntKind.signed]
 rw[e];split<;>omega
theorem zKz{a:Int}{v:Value}(h:(arD a).run=some v):v= .int .i64 (wr .i64 a):=by
 obtain⟨h1,h2⟩:=zV h;cases h2;rw[zXc,zPc h1]
theorem qQn{a:Int}{v:Value}(h:(arW a).run=some v):v= .int .i64 (wr .i64 a):=by
 cases h;unfold wq;cases hi:inW a with
 | true=>rw[cond_true,zXc,zPc hi]
 | false=>rfl
theorem qKa{k:IntKind}(h:qUe k=true):k= .i64:=by cases k<;>first | rfl | cases h
theorem qIm{f:Bool}{op:BinOp}{k:IntKind}{a b:Int}{v:Value}(h:(qQw f op k a b).run=some v):zOc op k a b=some v:=by
 unfold qQw at h;cases hk:qUe k with
 | false=>rw[hk,cond_false,kM]at h;exact h
 | true=>
  rw[hk,cond_true]at h;obtain rfl:=qKa hk;split at h
  ·cases f with
   | true=>rw[qQn h];rfl
   | false=>rw[zKz h];rfl
  ·rw[zKz h];rfl
  ·rw[zKz h];rfl
  ·obtain⟨h1,h2⟩:=zV h;rw[zKz h2];simp only[zOc];rw[show ieq b 0=false by cases e:ieq b 0<;>rw[e]at h1<;>first | rfl | cases h1]
   rfl
  ·obtain⟨h1,h2⟩:=zV h;cases h2;simp only[zOc];rw[show ieq b 0=false by cases e:ieq b 0<;>rw[e]at h1<;>first | rfl | cases h1]
   rfl
  ·rw[kM]at h;exact h
theorem wV{t:T}{z:T×Option TO}(h:(zDr t).run=some z):val t=some z:=by cases h;rfl
theorem qIk{f:Bool}{op:BinOp}{x y:T}{d:DT (T×Option TO)}{z:T×Option TO}(h:qQv f op x y=some d)(hz:d.run=some z)(t:TypeId):zYw P op t x y=some z:=by
 unfold qQv at h;split at h
 ·rename_i k a k' b;cases ha:arOp op with
  | false=>simp[ha]at h
  | true=>
   simp only[ha,cond_true,Option.some.injEq]at h;subst h;cases hk:Nat.beq (kind k) (kind k')with
   | false=>simp[hk,DT.run]at hz
   | true=>
    simp only[hk,cond_true]at hz;obtain⟨v,h1,h2⟩:=zM hz;simp only[zYw,bin,hk,cond_true,qIm h1];exact wV h2
 ·cases h
theorem qLx{c a b:T}{z:T×Option TO}(h:(qGe c a b).run=some z):zKg c a b=some z:=by
 unfold qGe at h;unfold zKg;split at h
 ·rename_i c;cases c with
  | true=>exact wV h
  | false=>exact wV h
 ·cases h
theorem qUc{t:TypeId}{x i:T}{z:T×Option TO}(h:(qUb P t x i).run=some z):tL P t x i=some z:=by
 unfold qUb at h;obtain⟨n,h1,h2⟩:=zM h;have h1:=qEi h1;unfold tL;simp only[h1];split at h2
 ·rename_i e he;simp only[he];cases hl:ldT P e with
  | none=>simp[hl,DT.run]at h2
  | some gs=>
   obtain⟨g,s⟩:=gs;simp only[hl]at h2 ⊢;split at h2
   ·rename_i g' A l;cases hb:Nat.beq s A.size with
    | false=>simp[hb,DT.run]at h2
    | true=>
     simp only[hb,cond_true]at h2;obtain⟨h3,h4⟩:=zV h2;simp only[hb,h3,Bool.and_self,cond_true];exact wV h4
   ·rename_i A l;cases hb:Nat.beq s A.size with
    | false=>simp[hb,DT.run]at h2
    | true=>
     simp only[hb,cond_true]at h2;obtain⟨h3,h4⟩:=zV h2;simp only[hb,h3,Bool.and_self,cond_true];exact wV h4
   ·obtain⟨h3,h4⟩:=zV h2;simp only[h3,cond_true];exact wV h4
   ·obtain⟨h3,h4⟩:=zV h2;simp only[h3,cond_true];exact wV h4
   ·obtain⟨h3,h4⟩:=zV h2;simp only[h3,cond_true];exact wV h4
   ·obtain⟨h3,h4⟩:=zV h2;simp only[h3,cond_true];exact wV h4
   ·cases h2
 ·rw[kM]at h2;unfold tL at h2;simp only[sV]at h2;exact h2
theorem qFm{ρ:Operand→T}{d n:Nat}{x:Option Operand}(h:(qYs ρ d x).run=some n):opt ρ d x=some n:=by
 cases x with
 | none=>cases h;rfl
 | some x=>exact qEi h
theorem jAf{t:TypeId}{g:Tg}{A:Ty}{l:List A.den}{ρ:Operand→T}{lo hi:Option Operand}{z:T×Option TO}(h:(jAe P t g A l ρ lo hi).run=some z):pQ P t (.ls g A l) ρ lo hi none=some z:=by
 unfold jAe at h;unfold pQ;cases he:elT P t with
 | none=>simp[he,DT.run]at h
 | some e=>
  simp only[he]at h ⊢;cases hl:ldT P e with
  | none=>simp[hl,DT.run]at h
  | some gs=>
   obtain⟨q,s⟩:=gs;simp only[hl]at h ⊢;cases hb:Nat.beq s A.size with
   | false=>simp[hb,DT.run]at h
   | true=>
    simp only[hb,cond_true]at h;obtain⟨a,h1,h⟩:=zM h;obtain⟨b,h2,h⟩:=zM h;obtain⟨h3,h⟩:=zV h;obtain⟨h4,h⟩:=zV h;simp only[jJ,qFm h1,qFm h2,wU,pW,hb,h3,h4,Bool.and_self,cond_true,zZk];exact wV h
theorem zQi{ρ:Operand→T}{op:Op}{d:DT (T×Option TO)}{z:T×Option TO}(h:zHo P ρ op=some d)(hz:d.run=some z)(H:List TO)(k:Nat):xB P H k ρ op=some z:=by
 unfold zHo at h;split at h
 ·exact qIk h hz _
 ·cases h;exact qLx hz
 ·cases h;exact qUc hz
 ·rename_i t x lo hi;split at h
  ·rename_i g A l e;cases h;show pQ P t (dn (ρ x)) (fun y=>dn (ρ y)) lo hi none=some z;rw[e];exact jAf hz
  ·cases h
 ·cases h
theorem qGg{ρ:Operand→T}{op:Op}{d:DT (T×Option TO)}(h:zHo P ρ op=some d):∀c,op≠.call c:=by
 intro c e;subst e;cases h
theorem zKy{e:TypeId}{s N:Nat}(h:zXi P e s=true)(hN:Nat.ble N (apN P e)=true):aW P e s N=true:=by
 unfold zXi at h;unfold aW;unfold apN at hN;cases h1:P.info? e with
 | none=>
  cases h2:zer P e with
  | none=>simp[h2]at h
  | some z=>obtain⟨i,v,h3,_⟩:=mO h2;rw[h1]at h3;cases h3
 | some i=>
  cases h2:zer P e with
  | none=>simp[h2]at h
  | some z=>
   simp only[h1,h2,Bool.and_eq_true]at h hN ⊢;exact⟨h.1,hN,h.2⟩
theorem zLe{α:Type}{c:Cs}{n s:Nat}{d:DT α}{y:α}(h:(qBn c n s d).run=some y):Nat.beq (ln c.list) (n*s)=true∧d.run=some y:=by
 unfold qBn at h;split at h
 ·exact zV h
 ·rename_i g A x;cases hs:Nat.beq s A.size with
  | false=>simp[hs,DT.run]at h
  | true=>
   rw[hs,cond_true]at h;obtain⟨h1,h2⟩:=zV h;obtain rfl:=zY hs;have h1:=zY h1;refine⟨?_,h2⟩;show Nat.beq (ln (qN g A x)) (n*A.size)=true;rw[qR,vF,h1];exact Nat.beq_refl _
theorem zPv{i o n s:Nat}{cs:Cs}{e':TypeId}(h:nth .gone H i= .gro cs e')(ho:Nat.beq o 0=true)(hn:Nat.beq (ln cs.list) (n*s)=true):qI H s (.og i o n)=some cs.list:=by
 obtain rfl:=zY ho;have hn:=zY hn;rw[qR]at hn;simp only[qI,h,nZ];rw[rR,List.drop_zero,←hn];exact fI cs.list
theorem aJ(g:Tg):∀(A:Ty)(x:A.den),vC (qF g A x)=true
 | .lim,_=>rfl
 | .int _,_=>rfl
 | .bool,_=>rfl
 | .str,_=>rfl
 | .list _,_=>rfl
 | .prod A C,x=>by
  have app:∀(u v:List T),vC u=true→vC v=true→vC (u++v)=true:=fun u v h1 h2=>by
   induction u with
   | nil=>exact h2
   | cons a u ih=>
    simp only[vC,Bool.and_eq_true]at h1;simp only[List.cons_append,vC,Bool.and_eq_true];exact⟨h1.1,ih h1.2⟩
  exact app _ _ (aJ g A _) (aJ g C _)
theorem zKc(g:Tg)(A:Ty):∀l:List A.den,vC (yA g A l)=true
 | []=>rfl
 | x::l=>by
  have app:∀(u v:List T),vC u=true→vC v=true→vC (u++v)=true:=fun u v h1 h2=>by
   induction u with
   | nil=>exact h2
   | cons a u ih=>
    simp only[vC,Bool.and_eq_true]at h1;simp only[List.cons_append,vC,Bool.and_eq_true];exact⟨h1.1,ih h1.2⟩
  exact app _ _ (aJ g A x) (zKc g A l)
theorem qEx{y:T}{b:List T}{s:Nat}(hb:qI H s y=some b)(h:zVu y b=true):vC b=true:=by
 unfold zVu at h;split at h
 ·rename_i g A l;simp only[qI]at hb;cases hs:Nat.beq s A.size with
  | false=>simp[hs]at hb
  | true=>
   simp only[hs,cond_true,Option.some.injEq]at hb;subst hb;exact zKc g A l
 ·exact h
theorem qIg{s:Nat}{x:T}{v:T×List TO}(h:(qAv H s x).run=some v):∃a n,qI H s x=some a∧jJ x=some n∧qIf H x=some v:=by
 unfold qAv at h;split at h
 ·rename_i i o n;unfold qNv at h;split at h
  ·rename_i cs e' hg;cases hz:Nat.beq o 0 with
   | false=>simp[hz,DT.run]at h
   | true=>
    rw[hz,cond_true]at h;obtain⟨h1,h2⟩:=zLe h;cases h2;exact⟨_,_,zPv hg hz h1,rfl,rfl⟩
  ·cases h
 ·split at h
  ·rename_i a n e1 e2;rw[kM]at h;exact⟨a,n,e1,e2,h⟩
  ·cases h
theorem jBm{t:TypeId}{x y:T}{v:T×List TO}(h:(apD P H t x y).run=some v):zRs P H t x y=some v:=by
 unfold apD at h;cases he:elT P t with
 | none=>simp[he,DT.run]at h
 | some e=>
  simp only[he]at h;cases hl:ldT P e with
  | none=>simp[hl,DT.run]at h
  | some gs=>
   obtain⟨q,s⟩:=gs;simp only[hl]at h;cases hb:qI H s y with
   | none=>simp[hb,DT.run]at h
   | some b=>
    cases hm:jJ y with
    | none=>simp[hb,hm,DT.run]at h
    | some m=>
     simp only[hb,hm]at h;cases h0:Nat.beq m 0 with
     | true=>
      rw[h0]at h;simp only[DT.run,cond_true]at h;obtain⟨a,n,h1,h2,h3⟩:=qIg h;unfold zRs;simp only[he,hl,hb,hm,h1,h2,h0,cond_true];exact h3
     | false=>
      rw[h0]at h;simp only[DT.run,cond_false]at h;cases ho:zVu y b with
      | false=>simp[ho,DT.run]at h
      | true=>
       rw[ho,cond_true]at h;have ho:=qEx hb ho;unfold apL at h;cases hn:jJ x with
       | none=>simp[hn,DT.run]at h
       | some n=>
        simp only[hn]at h;cases ha:zXi P e s with
        | false=>simp[ha,DT.run]at h
        | true=>
         rw[ha,cond_true]at h;obtain⟨h1,hk⟩:=zV h;clear h;have h:=hk;clear hk;unfold zRs;simp only[he,hl,hb,hm,hn];unfold ap1 at h;split at h
         ·rename_i i o n';simp only[jJ,Option.some.injEq]at hn;subst hn;unfold apG at h;split at h
          ·rename_i cs e' hg;cases hz:Nat.beq o 0&&Nat.beq e e' with
           | false=>simp[hz,DT.run]at h
           | true=>
            rw[hz,cond_true]at h;obtain⟨h2,h⟩:=zLe h;simp only[Bool.and_eq_true]at hz;simp only[zPv hg hz.1 h2,h0,cond_false,zKy ha h1,ho,Bool.and_self,cond_true,qIh,qQl,hg,hz.1,hz.2,h2];exact h
          ·cases h
         ·cases hc:qI H s x with
          | none=>simp[hc,DT.run]at h
          | some a=>
           simp only[hc,hn,kM]at h;simp only[h0,cond_false,zKy ha h1,ho,Bool.and_self,cond_true];exact h
noncomputable def clD(P:Program)(OD:Od)(rn:Rd'):Cl:=fun f az H=>(zXm P OD rn f az H).run
theorem qCj(hrn:dY P rn){f:Nat}{az:List T}{v:T×List TO}(h:(qW P rn f az H).run=some v):∃r:Rn,sS P r∧pG P r f az H=some v:=by
 unfold qW at h;cases hf:P.funcs[f]? with
 | none=>simp[hf,DT.run]at h
 | some fn=>
  simp only[hf]at h;cases hb:fn.body with
  | none=>simp[hb,DT.run]at h
  | some c=>
   simp only[hb]at h;cases hl:Nat.ble (ln az) fn.ntmps with
   | false=>simp[hl,DT.run]at h
   | true=>
    rw[hl,cond_true]at h;obtain⟨⟨e,s⟩,h1,h2⟩:=zM h;have hc:cAt P f []=some c:=by simp[cAt,hf,hb]
    refine⟨fun c' s0=>open Classical in if c'=c then(rn f [] c s0).run else none,fun c' s0 e' s' he=>?_,?_⟩
    ·simp only at he;split at he
     ·rename_i e1;subst e1;exact hrn f [] _ s0 e' s' (.inl hc) he
     ·cases he
    ·unfold pG;simp only[hf,hb,hl,cond_true,if_true,h1];cases e with
     | x id=>cases h2
     | p t=>cases h2
     | n=>
      simp only[qZs]at h2;simp only[zQr];cases hr:fB P s.L s.H fn.results.toList with
      | none=>rw[hr]at h2;cases h2
      | some r=>rw[hr]at h2;exact h2
     | r=>
      simp only[qZs]at h2;simp only[zQr];cases hr:fB P s.L s.H fn.results.toList with
      | none=>rw[hr]at h2;cases h2
      | some r=>rw[hr]at h2;exact h2
theorem dN{f:T→DT T}{g:T→Option T}(hf:∀x y,(f x).run=some y→g x=some y):∀(l:List T){r:List T},(zGq f l).run=some r→mapO g l=some r
 | [],r,h=>by cases h;rfl
 | x::l,r,h=>by
  obtain⟨y,h1,h2⟩:=zM h;obtain⟨r',h3,h4⟩:=zM h2;cases h4;simp only[mapO,hf _ _ h1,dN hf l h3]
theorem zEz{nw:Bool}:∀(k:Nat)(t:T){t':T},(dZ nw H k t).run=some t'→yD nw H k t=some t'
 | 0,t,t',h=>by cases h
 | k+1,t,t',h=>by
  have ih:∀(t:T){t':T},(dZ nw H k t).run=some t'→yD nw H k t=some t':=fun t t' h=>zEz k t h;have mp:∀(l:List T){r:List T},(zGq (dZ nw H k) l).run=some r→mapO (yD nw H k) l=some r:=fun l r h=>dN (fun x y h=>ih x h) l h;cases t with
  | ag cs=>obtain⟨l,h1,h2⟩:=zM h;cases h2;simp only[yD,mp _ h1]
  | tu cs=>obtain⟨l,h1,h2⟩:=zM h;cases h2;simp only[yD,mp _ h1]
  | fn f cs=>obtain⟨l,h1,h2⟩:=zM h;cases h2;simp only[yD,mp _ h1]
  | os i o n c=>
   simp only[dZ]at h;simp only[yD];cases hb:Nat.ble n c&&Nat.ble c 9223372036854775807 with
   | false=>rw[hb]at h;cases h
   | true=>
    rw[hb,cond_true]at h;rw[cond_true];cases ho:rH (nth .gone H i)with
    | none=>simp[ho,DT.run]at h
    | some cs=>
     simp only[ho]at h;obtain⟨l,h1,h2⟩:=zM h;cases h2;simp only[mp _ h1]
  | og i o n=>
   simp only[dZ]at h;simp only[yD];have hg:∀x,qCx nw o n x=none→zSl nw o n x=none:=fun x hx=>by
    unfold qCx at hx;unfold zSl;split at hx
    ·cases hx
    ·rename_i hne;split
     ·rename_i g A z e;exact absurd rfl (hne g A z e)
     ·rfl
   cases hz:qCx nw o n (nth .gone H i)with
   | some d=>
    simp only[hz]at h;unfold qCx at hz;split at hz
    ·rename_i g A x e hn;cases hz;cases hb:Nat.beq o 0&&(lQ A&&(!nw||g.isN))with
     | false=>rw[hb]at h;cases h
     | true=>
      rw[hb,cond_true]at h;obtain⟨h1,h2⟩:=zV h;cases h2;simp only[zSl,hn,hb,h1,Bool.and_self,cond_true]
    ·cases hz
   | none=>
    simp only[hz]at h;simp only[hg _ hz];cases ho:rH (nth .gone H i)with
    | none=>simp[ho,DT.run]at h
    | some cs=>
     simp only[ho]at h;obtain⟨l,h1,h2⟩:=zM h;cases h2;simp only[mp _ h1]
  | op i o=>
   simp only[dZ]at h;simp only[yD];cases ho:rH (nth .gone H i)with
   | none=>simp[ho,DT.run]at h
   | some cs=>
    simp only[ho]at h;obtain⟨l,h1,h2⟩:=zM h;cases h2;simp only[mp _ h1]
  | _=>simp only[dZ,kM]at h;exact h
theorem qZi{g:List T→DT (T×Bool)}{f:Nat}{az:List T}{v:T×List TO}(hg:OD f=some g)(h:(poD g H az).run=some v):poC (poR OD) H f az=some v.1∧v.2=H:=by
 unfold poD at h;unfold poC;cases ho:zYt az with
 | true=>
  rw[ho,cond_true]at h;rw[cond_true];obtain⟨az2,hm,h⟩:=zM h;rw[dN (fun x y h=>zEz 12 x h) _ hm];obtain⟨⟨t,b⟩,h1,h2⟩:=zM h
  ·simp only[poR,hg,h1];cases b with
   | true=>cases h2;exact⟨rfl,rfl⟩
   | false=>cases h2
 | false=>
  rw[ho,cond_false]at h;rw[cond_false];obtain⟨⟨t,b⟩,h1,h2⟩:=zM h;simp only[poR,hg,h1];cases h2;exact⟨rfl,rfl⟩
theorem zRy(hm:P.follows .mixedOrders=true)(hO:vL P OD)(hrn:dY P rn):kV P (clD P OD rn):=by
 intro f az H tv H' h;unfold clD zXm at h;cases hf:OD f with
 | some g=>
  simp only[hf]at h;obtain⟨h1,h2⟩:=qZi hf h;simp only at h1 h2;subst h2;intro E w0 X F B w Y Mo qC R hW hA hk;exact qGh (k:=H'.length) (fun f az tv nw h=>hO.po f az tv nw h _) h1 hW.ow hW.ivw hW.bNle hW.st.lt hW.nn hA fun v w' hu hv=>hk v w' B Y Mo (hW.call hu) hv (BLe.refl B) (hu.le Y)
 | none=>
  simp only[hf]at h;obtain⟨⟨t,H1⟩,h3,h4⟩:=zM h;obtain⟨r,h1,h2⟩:=qCj hrn h3;have hk:=zCq h1 _ _ _ _ _ h2;unfold gcD at h4;simp only[qR]at h4;cases hc:vH H.length 12 t&&(H1.take H.length).all (gcO H.length)with
  | false=>rw[hc]at h4;cases h4;exact hk
  | true=>
   rw[hc]at h4;cases h4;simp only[Bool.and_eq_true]at hc;exact hk.gc hc.1 hc.2
noncomputable def ydD(rn:Rd'):Cl:=fun l az H=>(jBb rn l az H).run
theorem qPo(hrn:dY P rn):xK P (ydD rn):=by
 have hr:sS P (fun c s=>(rn 1000000 [] c s).run):=fun c s e s' h=>hrn 1000000 [] c s e s' (.inr (Nat.le_refl _)) h;intro l az H tv H' h;refine zRj hr l az H tv H' ?_;unfold ydD jBb at h;unfold zEa;cases hl:nth .gone H l with
 | loop L ps a b q pd=>
  rw[hl]at h;cases q with
  | false=>cases h
  | true=>cases pd with
   | some c=>cases h
   | none=>
    simp only at h ⊢;cases hb:Nat.beq (ln ps) (ln az)with
    | false=>rw[hb]at h;cases h
    | true=>
     rw[hb,cond_true]at h;rw[cond_true];obtain⟨⟨e,s⟩,h1,h2⟩:=zM h;rw[h1];cases e with
     | n=>
      simp only[bodD,qBb]at h2 ⊢;cases hs:nth .gone s.H l with
      | loop L2 ps2 a2 b2 q2 pd2=>
       rw[hs]at h2;cases q2 with
       | false=>cases h2
       | true=>cases pd2 with
        | some c=>cases h2
        | none=>
         simp only at h2 ⊢;obtain⟨r,h3,h4⟩:=zM h2;rw[h3];rwa[kM]at h4
      | _=>rw[hs]at h2;cases h2
     | _=>cases h2
 | _=>rw[hl]at h;cases h
theorem qYm{cl cl' yd yd':Cl}{d:Option Nat}{op:Op}(h:∀c f,op= .call c→c.callee≠.value f):opC P cl yd d L H op=opC P cl' yd' d L H op:=by
 cases op with
 | call c=>
  simp only[opC];split
  ·rename_i f e;exact absurd e (h c f rfl)
  ·rfl
 | _=>rfl
theorem zVw{cl cl' yd yd':Cl}(h:∀c f,o.op= .call c→c.callee≠.value f):gT P cl yd o L H=gT P cl' yd' o L H:=by
 unfold gT zPx;rw[qYm h]
theorem qQz{az:List T}{t:T}{d:Option Nat}{cl:Cl}(hcl:∀f az H,cl f az H=(zXm P OD rn f az H).run)(h:((qQy P OD rn az H t).bind (qSy d L)).run=some s'):zEe P cl (ydD rn) d L H az t=some s':=by
 obtain⟨⟨v,H'⟩,h1,h2⟩:=zM h;unfold qQy at h1;unfold zEe;split at h1
 ·rename_i f cs;cases he:jO P f with
  | false=>simp[he,DT.run]at h1
  | true=>
   rw[he,cond_true]at h1;simp only[he,cond_true,hcl,h1,zAi];exact h2
 ·rename_i f bs;cases he:jO P f with
  | false=>simp[he,DT.run]at h1
  | true=>
   rw[he,cond_true]at h1;simp only[he,cond_true,hcl,h1,zAi];exact h2
 ·simp only[ydD,h1,zAi];exact h2
 ·cases h1
theorem zVv(h:(qLe P OD rn o L H).run=some s'):gT P (clD P OD rn) (ydD rn) o L H=some s':=by
 unfold qLe at h;cases hp:zHo P (evO L) o.op with
 | some d=>
  simp only[hp]at h;obtain⟨z,h1,h2⟩:=zM h;rw[kM]at h2;unfold gT;rw[zQi hp h1];exact h2
 | none=>
  simp only[hp]at h;have nc:(∀c,o.op≠.call c)→(ofO (gT P noC noC o L H)).run=some s'→gT P (clD P OD rn) (ydD rn) o L H=some s':=fun hn h=>by
   rw[kM]at h;rw[zVw (cl':=noC) (yd':=noC) fun c f e=>absurd e (hn c)];exact h
  split at h
  ·rename_i c ec;unfold qNz at h;split at h
   ·rename_i f ef;unfold gT;have hpl:xB P H (ln H) (evO L) o.op=none:=by
     rw[ec];simp only[xB,lS];rw[ef]
    rw[hpl];simp only[zPx];have hef:zAg P H (evO L) o.op=none:=by
     rw[ec];simp only[zAg];rw[ef]
    rw[hef];have:opC P (clD P OD rn) (ydD rn) o.dst L H o.op=some s':=by
     rw[ec];simp only[opC];rw[ef];exact qQz (OD:=OD) (rn:=rn) (fun _ _ _=>rfl) h
    simp only[this]
   ·rename_i ef;split at h
    ·rename_i x y t t' e1 e2;cases hb:Nat.beq t t' with
     | false=>simp[hb,DT.run]at h
     | true=>
      rw[hb,cond_true]at h;obtain⟨⟨v,H'⟩,h1,h2⟩:=zM h;have hef:zAg P H (evO L) o.op=some (some v,H'):=by
       rw[ec];simp only[zAg];rw[ef,e1,e2];simp only[hb,cond_true,jBm h1]
      have hpl:xB P H (ln H) (evO L) o.op=none:=by
       rw[ec];simp only[xB,lS];rw[ef]
      unfold gT;rw[hpl];simp only[zPx,hef,zOu];exact h2
    ·cases h
   ·rename_i hne1 hne2;rw[kM]at h;rw[zVw (cl':=noC) (yd':=noC) fun c' f e=>by rw[ec]at e;cases e;exact hne1 f]
    exact h
  ·rename_i hne;exact nc hne h
theorem zHq:∀(L:List T)(t:Nat){x:T},nth .u L t=x→x≠.u→put x L t=L
 | [],_,_,h,hx=>absurd h.symm hx
 | y::L,0,x,h,_=>by rw[zPu]at h;rw[zQj,h]
 | y::L,t+1,x,h,hx=>by rw[nY]at h;rw[zHr,zHq L t h hx]
theorem qOj(L:List T)(o:Oper):(gdT ops L o= .free→kT ops L o=some true)∧(gdT ops L o= .skip→kT ops L o=some false)∧∀t c b,gdT ops L o= .on t c b→kT ops L o=some (zXk c b)∧nth .u L t= .v (.bool c):=by
 unfold gdT kT;cases hg:o.guard with
 | none=>simp
 | some jb=>
  obtain⟨j,b0⟩:=jb;cases hj:ops[j]? with
  | none=>simp[hj]
  | some p=>
   cases hd:p.dst with
   | none=>simp[hj,hd]
   | some t=>
    cases hx:nth .u L t with
    | v z=>cases z<;>simp[hj,hd,hx]<;>(first | (intro t' c' b' e1 e2 e3;subst e1;subst e2;subst e3;exact⟨rfl,hx⟩) | skip)
    | tu l=>cases l<;>simp[hj,hd,hx]
    | _=>simp[hj,hd,hx]
theorem qRf{X Y:S→DT (Ex×S)}{s:S}{c:Operand}{z:Ex×S}(h:(qIv X Y s c).run=some z):∃b,evO s.L c= .v (.bool b)∧((bif b then X else Y) s).run=some z:=by
 cases c with
 | tmp t=>
  simp only[qIv]at h;split at h
  ·rename_i b eb;have hp:put (.v (.bool b)) s.L t=s.L:=zHq s.L t eb (by simp)
   refine⟨b,eb,?_⟩;cases b<;>simp only[DT.run,cond_true,cond_false,hp]at h ⊢<;>exact h
  ·cases h
 | _=>
  simp only[qIv]at h;split at h
  ·rename_i b eb;refine⟨b,eb,?_⟩;cases b<;>exact h
  ·cases h
theorem qEw{α:Type}{L:List T}{t:Nat}{c b:Bool}{y n:List T→DT α}{z:α}(hn:nth .u L t= .v (.bool c))(h:(onS L t c b y n).run=some z):(zXk c b=true∧(y L).run=some z)∨(zXk c b=false∧(n L).run=some z):=by
 have hp:put (.v (.bool c)) L t=L:=zHq L t hn (by simp)
 unfold onS at h;simp only[DT.run]at h;cases c<;>cases b<;>simp only[cond_true,cond_false,hp]at h<;>first | exact .inl ⟨rfl,h⟩ | exact .inr ⟨rfl,h⟩
theorem qEy(h:(opD P OD rn ops o s).run=some s'):opE P (clD P OD rn) (ydD rn) ops o s=some s':=by
 unfold opD at h;unfold opE;obtain⟨g1,g2,g3⟩:=qOj (ops:=ops) s.L o;cases hg:gdT ops s.L o with
 | no=>rw[hg]at h;cases h
 | free=>rw[hg]at h;rw[g1 hg];exact zVv h
 | skip=>rw[hg]at h;rw[g2 hg];exact h
 | on t c b=>
  rw[hg]at h;obtain⟨k1,k2⟩:=g3 t c b hg;rw[k1];rcases qEw k2 h with⟨e,h⟩ | ⟨e,h⟩
  ·rw[e];exact zVv h
  ·rw[e];exact h
theorem zQa:∀(l:List Oper)(s:S),(qFj P OD rn ops l s).run=some s'→zQb P (clD P OD rn) (ydD rn) ops l s=some s'
 | [],s,h=>h
 | o::l,s,h=>by
  obtain⟨s1,h1,h2⟩:=zM h;simp only[zQb,qEy h1];exact zQa l s1 h2
noncomputable def poH(P:Program)(OD:Od)(rn:Rd')(k:Nat):Po:=fun f az=>(puD P OD rn k f az).run
theorem qCv(hm:P.follows .mixedOrders=true)(hrn:dY P rn){k f:Nat}{az:List T}{t tv:T}{H1:List TO}{nw:Bool}(h1:(qW P rn f (az.map (unN 12)) (lN k)).run=some (t,H1))(h2:(jB (t,H1)).run=some (tv,nw)):KnP P k f az tv nw:=by
 obtain⟨r,hr,he⟩:=qCj hrn h1;obtain⟨t',h3,h4⟩:=zM h2;cases h4;exact zCx (rn:=r) (gD hm hr) (by unfold gB;rw[he]) (zEz 12 _ h3)
theorem qZh(hm:P.follows .mixedOrders=true)(hO:vL P OD)(hrn:dY P rn){k f:Nat}{az:List T}{tv:T}{nw:Bool}(h:poH P OD rn k f az=some (tv,nw)):KnP P k f az tv nw:=by
 unfold poH puD at h;cases hf:OD f with
 | some g=>simp only[hf]at h;exact hO f g hf az tv nw h k
 | none=>
  simp only[hf]at h;obtain⟨⟨t,H1⟩,h1,h2⟩:=zM h;exact qCv hm hrn h1 h2
theorem qZk{k f:Nat}{az:List T}{z:T×Option TO}(h:(qZj P OD rn k H f az).run=some z):∃t,poC (poH P OD rn k) H f az=some t∧z=(t,none):=by
 unfold qZj at h;unfold poC;cases ho:zYt az with
 | true=>
  rw[ho,cond_true]at h;rw[cond_true];obtain⟨az2,hm,h⟩:=zM h;rw[dN (fun x y h=>zEz 12 x h) _ hm];obtain⟨⟨t,b⟩,h1,h2⟩:=zM h
  ·simp only[poH,h1];cases b with
   | true=>cases h2;exact⟨_,rfl,rfl⟩
   | false=>cases h2
 | false=>
  rw[ho,cond_false]at h;rw[cond_false];obtain⟨⟨t,b⟩,h1,h2⟩:=zM h;simp only[poH,h1];cases h2;exact⟨_,rfl,rfl⟩
theorem jBk{H0 Hn:List TO}{t:TypeId}{x y:T}{z:T×Option TO}(h:(abD P H0 Hn t x y).run=some z):(∀i o n,x= .og i o n→zXj P H0 Hn (some i) t x y=some z)∧((∀i o n,x≠.og i o n)→zXj P H0 Hn none t x y=some z):=by
 unfold abD at h;cases he:elT P t with
 | none=>simp[he,DT.run]at h
 | some e=>
  simp only[he]at h;cases hl:ldT P e with
  | none=>simp[hl,DT.run]at h
  | some gs=>
   obtain⟨q,s⟩:=gs;simp only[hl]at h;cases hb:qI Hn s y with
   | none=>simp[hb,DT.run]at h
   | some b=>
    cases hm:jJ y with
    | none=>simp[hb,hm,DT.run]at h
    | some m=>
     cases hn:jJ x with
     | none=>simp[hb,hm,hn,DT.run]at h
     | some n=>
      simp only[hb,hm,hn]at h;cases hc:vC b&&zXi P e s with
      | false=>simp[hc,DT.run]at h
      | true=>
       rw[hc,cond_true]at h;obtain⟨hm0,hk0⟩:=zV h;obtain⟨h1,hk⟩:=zV hk0;clear h hk0;have h:=hk;clear hk;simp only[Bool.and_eq_true]at hc;obtain⟨ho,ha⟩:=hc;have hm1:Nat.beq m 0=false:=by simpa using hm0
       unfold abX at h;split at h
       ·rename_i i o n';simp only[jJ,Option.some.injEq]at hn;subst hn;refine⟨fun i' o' n'' e1=>?_,fun hne=>absurd rfl (hne i o n')⟩;cases e1;unfold abG at h;split at h
        ·rename_i cs e' hg;cases hz:Nat.beq o 0&&Nat.beq e e' with
         | false=>simp[hz,DT.run]at h
         | true=>
          rw[hz,cond_true]at h;obtain⟨h2,h⟩:=zLe h;simp only[Bool.and_eq_true]at hz;have hii:Nat.beq i i=true:=Nat.beq_refl i;unfold zXj;simp only[he,hl,hb,hm,qAz,hii,hz.1,hz.2,hg,h2,Bool.and_self,cond_true,hm1,Bool.not_false,zKy ha h1,ho];exact h
        ·cases h
       ·rename_i hne;refine⟨fun i o n' e1=>absurd e1 (hne i o n'),fun _=>?_⟩;rw[kM]at h;exact h
theorem zPa{H0 Hn:List TO}{po po':Po}(h:∀c f,o.op= .call c→c.callee≠.value f):nR P po H0 H Hn L o=nR P po' H0 H Hn L o:=by
 have e:nQ P po Hn L o.op=nQ P po' Hn L o.op:=by
  cases ho:o.op with
  | call c=>
   simp only[nQ];split
   ·rename_i f e;exact absurd e (h c f ho)
   ·rfl
  | _=>rfl
 unfold nR;rw[e]
theorem qJs{k:Nat}{H0 Hn:List TO}{z:T×Option TO}(h:(qDg P OD rn k H0 H Hn L o).run=some z):nR P (poH P OD rn k) H0 H Hn L o=some z:=by
 unfold qDg at h;cases hp:zHo P (evO L) o.op with
 | some d=>
  simp only[hp]at h;have ha:sU L o.op=none:=by
   cases ho:o.op with
   | call c=>exact absurd ho (qGg hp c)
   | _=>rfl
  unfold nR;rw[ha,zQi hp h]
 | none=>
  simp only[hp]at h;split at h
  ·rename_i c ec;unfold hcaD at h;split at h
   ·rename_i f ef;split at h
    ·rename_i g cs eg;cases he:jO P g with
     | false=>simp[he,DT.run]at h
     | true=>
      rw[he,cond_true]at h;obtain⟨t,h1,rfl⟩:=qZk h;have ha:sU L o.op=none:=by rw[ec];simp only[sU];rw[ef]
      have hpl:xB P Hn (ln Hn) (evO L) o.op=none:=by rw[ec];simp only[xB,lS];rw[ef]
      have hc:nQ P (poH P OD rn k) Hn L o.op=some t:=by
       rw[ec];simp only[nQ];rw[ef];simp only[eg,he,cond_true,h1]
      unfold nR;simp only[ha,hpl,hc]
    ·cases h
   ·rename_i ef;split at h
    ·rename_i x y t t' e1 e2;cases hb:Nat.beq t t' with
     | false=>simp[hb,DT.run]at h
     | true=>
      rw[hb,cond_true]at h;obtain⟨h1,h2⟩:=jBk h;unfold nR;by_cases hx:∃i o n,evO L x= .og i o n
      ·obtain⟨i,q,n,hx⟩:=hx;have ha:sU L o.op=some i:=by rw[ec];simp only[sU];rw[ef,e1];simp only[hx]
       simp only[ha];rw[ec];simp only[zFr];rw[ef,e1,e2];simp only[hb,cond_true];exact h1 i q n hx
      ·have hx':∀i o n,evO L x≠.og i o n:=fun i q n e=>hx ⟨i,q,n,e⟩;have ha:sU L o.op=none:=by
        rw[ec];simp only[sU];rw[ef,e1];first | (simp only;done) | (split<;>first | rfl | (rename_i e;exact absurd e (hx' _ _ _)))
       have hpl:xB P Hn (ln Hn) (evO L) o.op=none:=by rw[ec];simp only[xB,lS];rw[ef]
       have hc:nQ P (poH P OD rn k) Hn L o.op=none:=by rw[ec];simp only[nQ];rw[ef]
       have hap:zFr P H0 Hn none L o.op=some z:=by
        rw[ec];simp only[zFr];rw[ef,e1,e2];simp only[hb,cond_true];exact h2 hx'
       simp only[ha,hpl,hc,hap]
    ·cases h
   ·rename_i hne1 hne2;rw[kM]at h;rw[zPa (po':=fun _ _=>none) fun c' f e=>by rw[ec]at e;cases e;exact hne1 f]
    exact h
  ·rename_i hne;rw[kM]at h;rw[zPa (po':=fun _ _=>none) fun c f e=>absurd e (hne c)];exact h
theorem qDh{k:Nat}{H0:List TO}:∀(l:List Oper)(Hn:List TO)(L:List T){rs:List (T×Option TO)},(zIp P OD rn k H0 H ops l Hn L).run=some rs→rs.length=l.length∧∀(i:Nat)(z:T×Option TO),rs[i]?=some z→∃o,l[i]?=some o∧xG P (poH P OD rn k) H0 H (Hn++qD (rs.take i)) (kJ l (rs.take i) L) ops o=some z
 | [],Hn,L,rs,h=>by cases h;exact⟨rfl,fun i z e=>by simp at e⟩
 | o::l,Hn,L,rs,h=>by
  have fin:∀{z:T×Option TO},xG P (poH P OD rn k) H0 H Hn L ops o=some z→(zSn (zIp P OD rn k H0 H ops l) o Hn L z).run=some rs→rs.length=(o::l).length∧∀(i:Nat)(z:T×Option TO),rs[i]?=some z→∃o',(o::l)[i]?=some o'∧xG P (poH P OD rn k) H0 H (Hn++qD (rs.take i)) (kJ (o::l) (rs.take i) L) ops o'=some z:=fun{z}hop h2=>by
   obtain⟨rs',h3,h4⟩:=zM h2;cases h4;obtain⟨g1,g2⟩:=qDh l _ _ h3;refine⟨by simp[g1],fun i y hy=>?_⟩
   cases i with
   | zero=>
    simp only[List.getElem?_cons_zero,Option.some.injEq]at hy;subst hy;refine⟨o,rfl,?_⟩;simp only[List.take_zero,qD,kJ,List.append_nil];exact hop
   | succ i=>
    obtain⟨o',e1,e2⟩:=g2 i y (by simpa using hy)
    refine⟨o',by simpa using e1,?_⟩
    have en:Hn++qD ((z::rs').take (i+1))=nxH Hn z.2++qD (rs'.take i):=by
     obtain⟨t,ob⟩:=z;cases ob<;>simp[qD,nxH]
    rw[en];exact e2
  have yes:kT ops L o=some true→((qDg P OD rn k H0 H Hn L o).bind (zSn (zIp P OD rn k H0 H ops l) o Hn L)).run=some rs→rs.length=(o::l).length∧∀(i:Nat)(z:T×Option TO),rs[i]?=some z→∃o',(o::l)[i]?=some o'∧xG P (poH P OD rn k) H0 H (Hn++qD (rs.take i)) (kJ (o::l) (rs.take i) L) ops o'=some z:=fun hw h=>by
   obtain⟨z,h1,h2⟩:=zM h;exact fin (by unfold xG;simp only[hw];exact qJs h1) h2
  have no:kT ops L o=some false→(zSn (zIp P OD rn k H0 H ops l) o Hn L (.tu [],none)).run=some rs→rs.length=(o::l).length∧∀(i:Nat)(z:T×Option TO),rs[i]?=some z→∃o',(o::l)[i]?=some o'∧xG P (poH P OD rn k) H0 H (Hn++qD (rs.take i)) (kJ (o::l) (rs.take i) L) ops o'=some z:=fun hw h=>
   fin (by unfold xG;simp only[hw]) h
  simp only[zIp]at h;obtain⟨g1,g2,g3⟩:=qOj (ops:=ops) L o;cases hg:gdT ops L o with
  | no=>rw[hg]at h;cases h
  | free=>rw[hg]at h;exact yes (g1 hg) h
  | skip=>rw[hg]at h;exact no (g2 hg) h
  | on t c b=>
   rw[hg]at h;obtain⟨k1,k2⟩:=g3 t c b hg;rcases qEw k2 h with⟨e,h⟩ | ⟨e,h⟩
   ·exact yes (by rw[k1,e]) h
   ·exact no (by rw[k1,e]) h
theorem zPj:∀(l:List Oper)(rs:List (T×Option TO))(L:List T)(m:Nat),rs.length≤m→kJ (l.take m) rs L=kJ l rs L
 | [],_,_,m,_=>by simp
 | o::l,[],L,m,_=>by cases m<;>simp[kJ]
 | o::l,z::rs,L,0,h=>by simp at h
 | o::l,z::rs,L,m+1,h=>by
  simp only[List.take_succ_cons,kJ];exact zPj l rs _ m (by simpa using h)
theorem empN{α:Type}{l:List α}(h:emp l=true):l=[]:=by cases l<;>first | rfl | cases h
theorem zNk{ld:List Nat}:∀(l:List Oper)(s:S),(qHg P OD rn ops ld l s).run=some s'→fG P (clD P OD rn) (ydD rn) ops ld l s=some s'
 | [],s,h=>h
 | o::l,s,h=>by
  obtain⟨s1,h1,h2⟩:=zM h;simp only[fG,qEy h1];cases he:emp ld with
  | true=>
   obtain rfl:=empN he;rw[he,cond_true]at h2;show(bif rX P ops s1 []then _ else _)=_;simp only[rX,cond_true];exact zNk l s1 h2
  | false=>
   rw[he,cond_false]at h2;obtain⟨h3,h4⟩:=zV h2;simp only[h3,cond_true];exact zNk l s1 h4
theorem qRq{m:Nat}{Hm:List TO}{rs:List (T×Option TO)}(hl:ln rs=m)(h:(drT P OD rn ops m Hm s rs).run=some s'):drF P (clD P OD rn) (ydD rn) ops s Hm rs=some s':=by
 subst hl;unfold drT at h;unfold drF jAo;cases hmm:Nat.ble (ln rs) ops.size with
 | false=>simp[hmm,DT.run]at h
 | true=>
 rw[hmm,Bool.true_and]at h;cases hd:qCg ops (ln rs)&&zLz Hm (ksE ops.toList rs s.L)with
 | false=>simp[hd,DT.run]at h
 | true=>
  rw[hd,cond_true]at h;rw[cond_true];cases he:emp (bZ ops (ln rs))with
  | true=>
   rw[he,cond_true]at h;rw[empN he];simp only[rX,cond_true];exact zNk _ _ h
  | false=>
   rw[he,cond_false]at h;obtain⟨h3,h4⟩:=zV h;simp only[h3,cond_true];exact zNk _ _ h4
theorem qDs{ks:List (Option Nat)}(q:Nat)(x:TO)(h1:(xO ks H)[q]?=some x)(h2:x≠.gone):H[q]?=some x:=by
 rw[nU]at h1;split at h1
 ·cases hq:H[q]? with
  | none=>rw[hq]at h1;cases h1
  | some y=>rw[hq]at h1;cases h1;exact absurd rfl h2
 ·exact h1
end
section
variable {P:Program}{E:Nat→Prop}{w0:World}{X:Hid}{F:List Nat}{B:Bm}{w:World}{Y:Hid}{Mo:List (Nat×Obj)}{n:Nat}{a:Act}{D:List Deferred}{Q:Exit→Act→World→Prop}{OD:Od}{LO:Lo}{rn:Rd'}{rr:Option Nat}{ops:Array Oper}{s s':S}
theorem qRp{id:Nat}(hm:P.follows .mixedOrders=true)(hO:vL P OD)(hrn:dY P rn)(hok:gQ ops=true)(h:(drD P OD rn ops s).run=some s')(hW:Wd P E w0 X F s.H B w Y Mo)(hF:FrT n a s.L D B (rd w Y))(hk:pY P E w0 X F n D s'.H s'.L B (rd w Y) (Q .normal)):(Code.region id ops true).wpIn (FF rr) 0 P Q a w:=by
 unfold drD drH at h;generalize hdN OD ops s.L ops.toList [] 0=m at h;obtain⟨rs,h1,h2⟩:=zM h;obtain⟨g1,g2⟩:=qDh _ _ _ h1;have hle:rs.length≤m:=by rw[g1];exact List.length_take_le _ _
 have hlo:rs.length≤ops.toList.length:=by rw[g1];exact List.length_take_le' _ _
 by_cases hmo:Nat.ble m ops.size=true
 ·have hmo:m≤ops.toList.length:=by simpa using Nat.le_of_ble_eq_true hmo
  have hlen:ln rs=m:=by rw[qR,g1,List.length_take];exact Nat.min_eq_left hmo
  refine zJe (po:=poH P OD rn (ln s.H+ops.size)) hm (fun f az tv nw hp=>qZh hm hO hrn hp) (zRy hm hO hrn) (qPo hrn) hok hW hF hk _ rs (zJq _ _) (fun q x=>qDs q x) (fun i z hz=>?_) hlo (qRq hlen h2);obtain⟨o,e1,e2⟩:=g2 i z hz;refine⟨o,?_,?_⟩
  ·rw[List.getElem?_take]at e1;split at e1
   ·exact e1
   ·cases e1
  ·rwa[zPj _ _ _ _ (by rw[List.length_take];omega)]at e2
 ·exfalso;unfold drT at h2;have hf:Nat.ble m ops.size=false:=Bool.eq_false_iff.2 hmo;rw[hf]at h2;cases h2
theorem tT(hm:P.follows .mixedOrders=true)(hO:vL P OD)(hL:mQ P LO):∀k,dY P (evD P OD LO k):=by
 intro k;induction k using Nat.strongRecOn with
 | _ k ih=>
  cases k with
  | zero=>intro f p c s e s' _ h;cases h
  | succ k=>
   have hk:dY P (evD P OD LO k):=ih k (Nat.lt_succ_self k);intro f p c s e s' hc h E w0 X F n a D B w Y Mo rr Q hr hW hF hA;have h:(zTq P OD LO (evD P OD LO k) f p c s).run=some (e,s'):=h;cases c with
   | skip=>cases h;exact wM (hA.one hW hF (BLe.refl B) (Le.refl _))
   | label l=>cases h;exact zLv (hA.one hW hF (BLe.refl B) (Le.refl _))
   | exit id=>cases h;exact bV (hA.one hW hF (BLe.refl B) (Le.refl _))
   | ret=>cases h;exact nS (hA.one hW hF (BLe.refl B) (Le.refl _))
   | seq x y=>
    have hr1:rr=none∨noR x=true:=hr.imp id fun h=>by simp only[noR,Bool.and_eq_true]at h;exact h.1
    have hr2:rr=none∨noR y=true:=hr.imp id fun h=>by simp only[noR,Bool.and_eq_true]at h;exact h.2
    have hq:noR (.seq x y)=true→noR x=true∧noR y=true:=fun h=>by simpa[noR]using h
    have c1:cAt P f (false::p)=some x∨1000000≤f:=hc.imp (fun hc=>by simp[cAt,hc,zAa]) (fun h=>h)
    have c2:cAt P f (true::p)=some y∨1000000≤f:=hc.imp (fun hc=>by simp[cAt,hc,zAa]) (fun h=>h)
    obtain⟨⟨e1,s1⟩,h1,h2⟩:=zM h;refine wpIn_seq (hk _ _ _ _ _ _ c1 h1 E w0 X F n a D B w Y Mo rr _ hr1 hW hF fun a' w' B' Y' Mo' bs hbs g1 g2 g3 g4=>?_);cases e1 with
    | n=>exact hk _ _ _ _ _ _ c2 h2 E w0 X _ n a' _ B' w' Y' Mo' rr Q hr2 g1 g2 (hA.next hq hbs g3 g4)
    | x id=>cases h2;exact hA a' w' B' Y' Mo' bs (fun e=>hbs (hq e).1) g1 g2 g3 g4
    | r=>cases h2;exact hA a' w' B' Y' Mo' bs (fun e=>hbs (hq e).1) g1 g2 g3 g4
    | p t=>cases h2;exact hA a' w' B' Y' Mo' bs (fun e=>hbs (hq e).1) g1 g2 g3 g4
   | cond c x y=>
    have c1:cAt P f (false::p)=some x∨1000000≤f:=hc.imp (fun hc=>by simp[cAt,hc,zAa]) (fun h=>h)
    have c2:cAt P f (true::p)=some y∨1000000≤f:=hc.imp (fun hc=>by simp[cAt,hc,zAa]) (fun h=>h)
    simp only[zTq]at h;have hcr:=hF.rep c;have go:∀(b:Bool),evO s.L c= .v (.bool b)→((bif b then evD P OD LO k f (false::p) x else evD P OD LO k f (true::p) y) s).run=some (e,s')→(Code.cond c x y).wpIn (FF rr) 0 P Q a w:=fun b eb h=>by
     rw[eb]at hcr;cases b with
     | true=>exact wpIn_cond_true hcr.bool (hk _ _ _ _ _ _ c1 h E w0 X F n a D B w Y Mo rr Q (hr.imp id fun h=>by simp only[noR,Bool.and_eq_true]at h;exact h.1) hW hF fun a' w' B' Y' Mo' bs hbs=>hA a' w' B' Y' Mo' bs fun e=>hbs (by simp only[noR,Bool.and_eq_true]at e;exact e.1))
     | false=>exact wpIn_cond_false hcr.bool (hk _ _ _ _ _ _ c2 h E w0 X F n a D B w Y Mo rr Q (hr.imp id fun h=>by simp only[noR,Bool.and_eq_true]at h;exact h.2) hW hF fun a' w' B' Y' Mo' bs hbs=>hA a' w' B' Y' Mo' bs fun e=>hbs (by simp only[noR,Bool.and_eq_true]at e;exact e.2))
    obtain⟨b,eb,hb⟩:=qRf h;exact go b eb hb
   | block id x=>
    have c1:cAt P f (false::p)=some x∨1000000≤f:=hc.imp (fun hc=>by simp[cAt,hc,zAa]) (fun h=>h)
    obtain⟨⟨e1,s1⟩,h1,h2⟩:=zM h;refine yY (hk _ _ _ _ _ _ c1 h1 E w0 X F n a D B w Y Mo rr _ hr hW hF fun a' w' B' Y' Mo' bs hbs g1 g2 g3 g4=>?_);cases e1 with
    | n=>cases h2;exact hA a' w' B' Y' Mo' bs hbs g1 g2 g3 g4
    | r=>cases h2;exact hA a' w' B' Y' Mo' bs hbs g1 g2 g3 g4
    | p t=>cases h2;exact hA a' w' B' Y' Mo' bs hbs g1 g2 g3 g4
    | x j=>
     cases h2;have:=hA a' w' B' Y' Mo' bs hbs g1 g2 g3 g4;cases hj:Nat.beq j id with
     | true=>rw[hj]at this;obtain rfl:=zY hj;exact nH this
     | false=>rw[hj]at this;exact zFu hj this
   | scope x=>
    have c1:cAt P f (false::p)=some x∨1000000≤f:=hc.imp (fun hc=>by simp[cAt,hc,zAa]) (fun h=>h)
    rcases hr with rfl | hr
    ·exact zLw (hk _ _ _ _ _ _ c1 h E w0 X F n a D B w Y Mo none _ (.inl rfl) hW hF fun a' w' B' Y' Mo' bs _ g1 g2 g3 g4=>by
      have:=hA a' w' B' Y' Mo' bs (fun e=>by simp[noR]at e) g1 g2 g3 g4
      cases e<;>exact this)
    ·simp[noR]at hr
   | loop x=>
    have c1:cAt P f (false::p)=some x∨1000000≤f:=hc.imp (fun hc=>by simp[cAt,hc,zAa]) (fun h=>h)
    have hr1:rr=none∨noR x=true:=hr.imp id fun h=>by simpa[noR]using h
    simp only[zTq]at h;cases hlo:(bif Nat.blt f 1000000 then LO f p s else none)with
    | some d=>
     simp only[hlo]at h;cases hf:Nat.blt f 1000000 with
     | false=>rw[hf]at hlo;cases hlo
     | true=>
      rw[hf,cond_true]at hlo;rw[Nat.blt_eq]at hf;rcases hc with hc | hc
      ·exact hL f p s d hlo x hc e s' h E w0 X F n a D B w Y Mo rr Q hr hW hF hA
      ·omega
    | none=>
    simp only[hlo]at h;have key:∀(N:Nat),(qKo (evD P OD LO k f (false::p) x) N s).run=some (e,s')→(Code.loop x).wpIn (FF rr) 0 P Q a w:=fun N h=>by
     refine gK (γ:=Nat×S×List Nat) (fun g a w=>(qKo (evD P OD LO k f (false::p) x) g.1 g.2.1).run=some (e,s')∧∃B' Y' Mo',(noR x=true→g.2.2=[])∧Wd P E w0 X (g.2.2++F) g.2.1.H B' w Y' Mo'∧FrT n a g.2.1.L (g.2.2.map Gv.mark++D) B' (rd w Y')∧BLe B B'∧Le (rd _ Y) (rd w Y'))
      (fun g=>g.1) (N,s,[]) ⟨h,B,Y,Mo,fun _=>rfl,hW,hF,BLe.refl B,Le.refl _⟩ ?_
     rintro⟨j,s0,bs0⟩ a0 w1 ⟨hstep,B1,Y1,Mo1,hb1,g1,g2,g3,g4⟩;simp only at hstep hb1 g1 g2;cases j with
     | zero=>cases hstep
     | succ j=>
     obtain⟨⟨e1,s1⟩,h1,h2⟩:=zM hstep;refine hk _ _ _ _ _ _ c1 h1 E w0 X _ n a0 _ B1 w1 Y1 Mo1 rr _ hr1 g1 g2 fun a' w' B' Y' Mo' bs hbs k1 k2 k3 k4=>?_;have hbs':noR x=true→bs++bs0=[]:=fun e=>by rw[hbs e,hb1 e];rfl
     have k1':Wd P E w0 X (bs++bs0++F) s1.H B' w' Y' Mo':=by rw[List.append_assoc];exact k1
     have k2':FrT n a' s1.L ((bs++bs0).map Gv.mark++D) B' (rd w' Y'):=by rw[List.map_append,List.append_assoc];exact k2
     cases e1 with
     | n=>exact⟨(j,s1,bs++bs0),⟨h2,B',Y',Mo',hbs',k1',k2',g3.trans k3,g4.trans k4⟩,Nat.lt_succ_self j⟩
     | x id=>cases h2;exact hA a' w' B' Y' Mo' (bs++bs0) (fun e=>hbs' (by simpa[noR]using e)) k1' k2' (g3.trans k3) (g4.trans k4)
     | r=>cases h2;exact hA a' w' B' Y' Mo' (bs++bs0) (fun e=>hbs' (by simpa[noR]using e)) k1' k2' (g3.trans k3) (g4.trans k4)
     | p t=>cases h2;exact hA a' w' B' Y' Mo' (bs++bs0) (fun e=>hbs' (by simpa[noR]using e)) k1' k2' (g3.trans k3) (g4.trans k4)
    exact key _ h
   | region id ops draw=>
    cases draw with
    | false=>
     simp only[zTq]at h;cases hok:gQ ops with
     | false=>simp[hok,DT.run]at h
     | true=>
      rw[hok,cond_true]at h;obtain⟨s1,h1,h2⟩:=zM h;cases h2;refine wpIn_region_list ?_;exact zWa (zRy hm hO hk) (qPo hk) _ _ _ (zQa _ _ h1) hok hW hF (BLe.refl B) (Le.refl _) fun a' w' B' Y' Mo' k1 k2 k3 k4=>hA.one k1 k2 k3 k4
    | true=>
     simp only[zTq]at h;cases hok:gQ ops with
     | false=>simp[hok,DT.run]at h
     | true=>
      rw[hok,cond_true]at h;obtain⟨s1,h1,h2⟩:=zM h;cases h2;exact qRp hm hO hk hok h1 hW hF fun a' w' B' Y' Mo' k1 k2 k3 k4=>hA.one k1 k2 k3 k4
   | rangeFunc g ps c1 c2=>
    rcases hr with rfl | hr
    ·simp only[zTq]at h;cases hab:noR c1&&noR c2 with
     | false=>rw[hab]at h;cases h
     | true=>
      rw[hab,cond_true]at h;simp only[Bool.and_eq_true]at hab;refine qGp (zRy hm hO hk) hW hF hab.1 hab.2 ?_ fun a' w' B' Y' Mo' bs _=>hA a' w' B' Y' Mo' bs fun e=>by simp[noR]at e
      unfold rngD at h;unfold qMh;split at h
      ·rename_i f' cs ef;rw[ef];cases hen:jO P f' with
       | false=>rw[hen]at h;cases h
       | true=>
        rw[hen,cond_true]at h;simp only[hen,cond_true];obtain⟨r,h1,h2⟩:=zM h;rw[show clD P OD (evD P OD LO k) f' (.yl (ln s.H)::cs) (s.H++[.loop s.L ps.toList c1 c2 true none])=some r from h1];rwa[kM]at h2
      ·cases h
    ·simp[noR]at hr
   | goto l=>cases h
   | refuse why=>cases h
end
inductive Sl where
  | u
  | h
  | t (x:T)
  | a (g:Tg) (A:Ty) (e:TypeId)
inductive Ob' where
  | g
  | r (cs:List Sl) (e:TypeId)
  | m (g:Tg) (K V:Ty)
structure Sp where
 ss:List Sl
 os:List Ob'
structure Hs where
 hs:List T
 az:List T
 ks:List (List T)
noncomputable def chk(A:Ty):Nat→List T→Option (List (List T))
 | 0,_=>none
 | k+1,ts=>match ts with
  | []=>some []
  | _::_=>match fH A.size ts with
   | some u=>(match chk A k (lM ts A.size)with
    | some r=>some (u::r)
    | none=>none)
   | none=>none
noncomputable def zOg(g:Tg)(A:Ty):List (List T)→List A.den→Option (List A.den)
 | [],r=>some r
 | u::l,r=>match nM g A u with
  | some x=>zOg g A l (x::r)
  | none=>none
noncomputable def qAl(g:Tg)(A:Ty):Cs→Option (List A.den)
 | .d g' A' x=>bif g.le g' then wY A' A x else none
 | .l cs=>match chk A (ln cs+1) cs with
  | some l=>zOg g A l []
  | none=>none
noncomputable def qQj(g:Tg)(A:Ty)(e:TypeId)(n:Nat):TO→DT T
 | .gro c e'=>bif Nat.beq e e' then(match qAl g A c with
  | some (y::l)=>grd (Nat.beq n (y::l).length) (.ret (.ls g A (y::l)))
  | _=> .no)else .no
 | _=> .no
noncomputable def sN(m:Nat)(H:List TO):List Sl→List T→DT (List T×List T)
 | [],[]=> .ret ([],[])
 | .u::ss,_::ts=>sN m H ss ts
 | .h::ss,t::ts=>(match zEf t with
  | some t=>(sN m H ss ts).bind fun b=> .ret (t::b.1,b.2)
  | none=> .no)
 | .t x::ss,t::ts=>bif eqU 12 x t&&vH m 12 x then sN m H ss ts else .no
 | .a g A e::ss,t::ts=>(match t with
  | .v (.slice none 0 0)=>(sN m H ss ts).bind fun b=> .ret (b.1,.ls g A []::b.2)
  | .og i o n=>bif Nat.beq o 0 then(qQj g A e n (nth .gone H i)).bind fun x=>(sN m H ss ts).bind fun b=> .ret (b.1,x::b.2)else .no
  | _=> .no)
 | _,_=> .no
noncomputable def vJ:List Sl→List T→List (Option Nat)
 | .a .. ::ss,t::ts=>(match t with | .og i _ _=>some i | _=>none)::vJ ss ts
 | _::ss,_::ts=>vJ ss ts
 | _,_=>[]
noncomputable def mdE(g:Tg)(K V:Ty):TO→Option T
 | .mapd d=>bif g.le d.g then(match wY (.prod d.K d.V) (.prod K V) d.l with
  | some l=>some (.ls g (.prod K V) l)
  | none=>none)else none
 | .map []=>some (.ls g (.prod K V) [])
 | _=>none
noncomputable def moD(g:Tg)(K V:Ty):List T→TO
 | [.ls _ A l]=>(match wY A (.prod K V) l with
  | some l=> .mapd ⟨g,K,V,l⟩
  | none=> .gone)
 | _=> .gone
noncomputable def nA:List Sl→Nat
 | []=>0
 | .a .. ::ss=>nA ss+1
 | _::ss=>nA ss
noncomputable def zIq(m:Nat)(H0:List TO):List Ob'→List TO→DT (List (List T)×List T)
 | [],_=> .ret ([],[])
 | .g::os,_::H=>(zIq m H0 os H).bind fun r=> .ret ([]::r.1,r.2)
 | .r cs e::os,.row ts e'::H=>bif Nat.beq e e' then(sN m H0 cs ts).bind fun a=>(zIq m H0 os H).bind fun r=> .ret (a.1::r.1,a.2++r.2)else .no
 | .m g K V::os,o::H=>(match mdE g K V o with
  | some t=>(zIq m H0 os H).bind fun r=> .ret ([t]::r.1,r.2)
  | none=> .no)
 | _,_=> .no
noncomputable def mH:List Ob'→List TO→List (Option Nat)
 | .r cs _::os,.row ts _::H=>vJ cs ts++mH os H
 | _::os,_::H=>mH os H
 | _,_=>[]
noncomputable def isG:Ob'→Bool
 | .g=>true
 | _=>false
noncomputable def zKm(m:Nat)(os:List Ob'):List (Option Nat)→Bool
 | []=>true
 | none::l=>zKm m os l
 | some i::l=>(!zIo i l&&(!Nat.blt i m||isG (nth .g os i)))&&zKm m os l
noncomputable def zFv(m:Nat)(sp:Sp)(s:S):DT Hs:=bif zKm m sp.os (vJ sp.ss s.L++mH sp.os s.H)&&(Nat.beq (ln sp.os) m&&Nat.ble m (ln s.H))then(sN m s.H sp.ss s.L).bind fun a=>(zIq m s.H sp.os s.H).bind fun ks=> .ret ⟨a.1,a.2++ks.2,ks.1⟩else .no
noncomputable def rowT(j:Nat):T→T
 | .ls _ _ []=> .v (.slice none 0 0)
 | .ls _ _ (x::l)=> .og j 0 (x::l).length
 | _=> .u
noncomputable def qZv(e:TypeId):T→TO
 | .ls _ _ []=> .gone
 | .ls g A (x::l)=> .gro (.d g A (x::l)) e
 | _=> .gone
noncomputable def buL:List Sl→Nat→List T→List T→List T
 | .u::ss,j,hs,az=> .u::buL ss j hs az
 | .h::ss,j,x::hs,az=>x::buL ss j hs az
 | .t x::ss,j,hs,az=>x::buL ss j hs az
 | .a _ _ _::ss,j,hs,x::az=>rowT j x::buL ss (j+1) hs az
 | _,_,_,_=>[]
noncomputable def buA:List Sl→List T→List TO
 | .a _ _ e::ss,x::az=>qZv e x::buA ss az
 | .a _ _ _::_,[]=>[]
 | _::ss,az=>buA ss az
 | [],_=>[]
noncomputable def buO:List Ob'→Nat→List (List T)→List T→List TO
 | .g::os,j,_::ks,az=> .gone::buO os j ks az
 | .r cs e::os,j,k::ks,az=> .row (buL cs j k (az.take (nA cs))) e::buO os (j+nA cs) ks (lM az (nA cs))
 | .m g K V::os,j,k::ks,az=>moD g K V k::buO os j ks az
 | _,_,_,_=>[]
noncomputable def buB:List Ob'→List T→List TO
 | .r cs _::os,az=>buA cs (az.take (nA cs))++buB os (lM az (nA cs))
 | _::os,az=>buB os az
 | [],_=>[]
noncomputable def bu(m:Nat)(sp:Sp)(q:Hs):S:=⟨buL sp.ss m q.hs (q.az.take (nA sp.ss)),buO sp.os (m+nA sp.ss) q.ks (lM q.az (nA sp.ss))++(buA sp.ss (q.az.take (nA sp.ss))++buB sp.os (lM q.az (nA sp.ss)))⟩
section
variable {P:Program}{E:Nat→Prop}{w0:World}{X:Hid}{F:List Nat}{H H':List TO}{B B':Bm}{w:World}{Y:Hid}{Mo:List (Nat×Obj)}{r:Rd}{m:Nat}
theorem chk_ok{A:Ty}:∀(k:Nat)(ts:List T){l:List (List T)},chk A k ts=some l→ts=l.flatten
 | 0,ts,l,h=>by cases h
 | k+1,[],l,h=>by cases h;rfl
 | k+1,t::ts,l,h=>by
  simp only[chk]at h;cases h1:fH A.size (t::ts)with
  | none=>simp[h1]at h
  | some u=>
   simp only[h1]at h;cases h2:chk A k (lM (t::ts) A.size)with
   | none=>simp[h2]at h
   | some r'=>
    simp only[h2,Option.some.injEq]at h;subst h;obtain⟨_,rfl⟩:=zCc _ _ _ h1;rw[List.flatten_cons,←chk_ok k _ h2,zAd,List.take_append_drop]
theorem zFw{g:Tg}{A:Ty}:∀(l:List (List T))(p:List A.den){x:List A.den}{vs:List Value},zOg g A l p=some x→zN B r (qN g A p++l.flatten) vs→zN B r (qN g A x) vs∧(qN g A x).length=(qN g A p++l.flatten).length
 | [],p,x,vs,h,hR=>by cases h;simpa using hR
 | u::l,p,x,vs,h,hR=>by
  simp only[zOg]at h;cases hc:nM g A u with
  | none=>simp[hc]at h
  | some y=>
   simp only[hc]at h;rw[List.flatten_cons,←List.append_assoc]at hR;have hs:=zN.split (ts:=qN g A p++u) (us:=l.flatten) hR;have hs2:=zN.split (ts:=qN g A p) (us:=u) hs.1;obtain⟨k1,k2⟩:=lV A hc hs2.2;have hk:zN B r (qN g A (y::p)++l.flatten) vs:=by
    have:=(hs2.1.app k1).app hs.2;rw[List.take_append_drop,List.take_append_drop]at this;exact this
   obtain⟨g1,g2⟩:=zFw l (y::p) h hk;refine⟨g1,?_⟩;rw[g2];simp only[qN,List.flatten_cons,List.length_append,jN,k2,Nat.add_assoc]
theorem qIb{g:Tg}{A:Ty}{c:Cs}{x:List A.den}{vs:List Value}(h:qAl g A c=some x)(hR:zN B r c.list vs):zN B r (qN g A x) vs∧(qN g A x).length=c.list.length:=by
 unfold qAl at h;split at h
 ·rename_i g' A' x';cases hg:g.le g' with
  | false=>simp[hg]at h
  | true=>
   simp only[hg,cond_true]at h;obtain⟨rfl,he⟩:=lW h;obtain rfl:=eq_of_heq he;have e:∀(l:List A'.den),qN g' A' l=yA g' A' l.reverse:=fun l=>by rw[←nP,List.reverse_reverse]
   have e':∀(l:List A'.den),qN g A' l=yA g A' l.reverse:=fun l=>by rw[←nP,List.reverse_reverse]
   refine⟨?_,?_⟩
   ·rw[e'];have hR:zN B r (qN g' A' x') vs:=hR;rw[e]at hR;exact zGe (by simpa using hg) A' _ hR
   ·show(qN g A' x').length=(qN g' A' x').length;rw[vF,vF]
 ·rename_i cs;cases hc:chk A (ln cs+1) cs with
  | none=>simp[hc]at h
  | some l=>
   simp only[hc]at h;have e:=chk_ok _ _ hc;have hR:zN B r cs vs:=hR;obtain⟨h1,h2⟩:=zFw l [] h (by simpa[qN,←e]using hR)
   refine⟨h1,?_⟩;rw[h2];show([]++l.flatten).length=cs.length;rw[List.nil_append,←e]
theorem rF{m:Nat}{H:List TO}:∀(ss:List Sl)(ts:List T){b:List T×List T},(sN m H ss ts).run=some b→(vJ ss ts).length=b.2.length
 | [],[],b,h=>by cases h;rfl
 | [],_::_,b,h=>by cases h
 | .u::ss,[],b,h=>by cases h
 | .h::ss,[],b,h=>by cases h
 | .t _::ss,[],b,h=>by cases h
 | .a .. ::ss,[],b,h=>by cases h
 | .u::ss,t::ts,b,h=>rF ss ts (b:=b) h
 | .h::ss,t::ts,b,h=>by
  simp only[sN]at h;split at h
  ·obtain⟨b',h1,h2⟩:=zM h;cases h2;exact rF (b:=b') ss ts h1
  ·cases h
 | .t x::ss,t::ts,b,h=>by
  simp only[sN]at h;cases hc:eqU 12 x t&&vH m 12 x with
  | false=>rw[hc]at h;cases h
  | true=>rw[hc]at h;exact rF ss ts h
 | .a g A e::ss,t::ts,b,h=>by
  simp only[sN]at h;split at h
  ·obtain⟨b',h1,h2⟩:=zM h;cases h2;simp only[vJ,List.length_cons,rF (b:=b') ss ts h1]
  ·rename_i i o n;cases ho:Nat.beq o 0 with
   | false=>rw[ho]at h;cases h
   | true=>
    rw[ho,cond_true]at h;obtain⟨x,_,h⟩:=zM h;obtain⟨b',h1,h2⟩:=zM h;cases h2;simp only[vJ,List.length_cons,rF (b:=b') ss ts h1]
  ·cases h
theorem fE{m:Nat}{H:List TO}:∀(ss:List Sl)(ts:List T){b:List T×List T},(sN m H ss ts).run=some b→b.2.length=nA ss
 | [],[],b,h=>by cases h;rfl
 | [],_::_,b,h=>by cases h
 | .u::ss,[],b,h=>by cases h
 | .h::ss,[],b,h=>by cases h
 | .t _::ss,[],b,h=>by cases h
 | .a .. ::ss,[],b,h=>by cases h
 | .u::ss,t::ts,b,h=>fE ss ts (b:=b) h
 | .h::ss,t::ts,b,h=>by
  simp only[sN]at h;split at h
  ·obtain⟨b',h1,h2⟩:=zM h;cases h2;exact fE (b:=b') ss ts h1
  ·cases h
 | .t x::ss,t::ts,b,h=>by
  simp only[sN]at h;cases hc:eqU 12 x t&&vH m 12 x with
  | false=>rw[hc]at h;cases h
  | true=>rw[hc]at h;exact fE ss ts h
 | .a g A e::ss,t::ts,b,h=>by
  simp only[sN]at h;split at h
  ·obtain⟨b',h1,h2⟩:=zM h;cases h2;simp only[nA,List.length_cons,fE (b:=b') ss ts h1]
  ·rename_i i o n;cases ho:Nat.beq o 0 with
   | false=>rw[ho]at h;cases h
   | true=>
    rw[ho,cond_true]at h;obtain⟨x,_,h⟩:=zM h;obtain⟨b',h1,h2⟩:=zM h;cases h2;simp only[nA,List.length_cons,fE (b:=b') ss ts h1]
  ·cases h
theorem zHz{a b:List T}{n:Nat}(h:a.length=n):(a++b).take n=a∧lM (a++b) n=b:=by
 subst h;rw[zAd];exact⟨List.take_left,List.drop_left⟩
theorem aO(hB:∀i,i<m→B' i=B i)(hN:B'.N=B.N):∀(ss:List Sl)(ts:List T)(j:Nat){b:List T×List T}{vs:List Value},(sN m H ss ts).run=some b→(∀(q i:Nat),(vJ ss ts)[q]?=some (some i)→B' (j+q)=B i)→zN B r ts vs→zN B' r (buL ss j b.1 b.2) vs
 | [],[],j,b,vs,h,_,hR=>by
  cases h;cases vs with
  | nil=>trivial
  | cons=>exact hR.elim
 | [],_::_,j,b,vs,h,_,_=>by cases h
 | .u::ss,[],j,b,vs,h,_,_=>by cases h
 | .h::ss,[],j,b,vs,h,_,_=>by cases h
 | .t _::ss,[],j,b,vs,h,_,_=>by cases h
 | .a .. ::ss,[],j,b,vs,h,_,_=>by cases h
 | _::_,_::_,_,_,[],_,_,hR=>hR.elim
 | .u::ss,t::ts,j,b,v::vs,h,hq,hR=>⟨.u,aO hB hN ss ts j (b:=b) h hq hR.2⟩
 | .h::ss,t::ts,j,b,v::vs,h,hq,hR=>by
  simp only[sN]at h;split at h
  ·rename_i t' ht;obtain⟨b',h1,h2⟩:=zM h;cases h2;exact⟨zJd ht hN hR.1,aO hB hN ss ts j h1 hq hR.2⟩
  ·cases h
 | .t x::ss,t::ts,j,b,v::vs,h,hq,hR=>by
  simp only[sN]at h;cases hc:eqU 12 x t&&vH m 12 x with
  | false=>rw[hc]at h;cases h
  | true=>
   rw[hc]at h;simp only[Bool.and_eq_true]at hc;have e:=mV 12 x t hc.1;subst e;exact⟨Rep.low hB hN 12 hc.2 hR.1,aO hB hN ss ts j (b:=b) h hq hR.2⟩
 | .a g A e::ss,t::ts,j,b,v::vs,h,hq,hR=>by
  have hq':∀(q i:Nat),(vJ ss ts)[q]?=some (some i)→B' (j+1+q)=B i:=fun q i e=>by
   have:=hq (q+1) i (by simpa[vJ]using e)
   rwa[show j+(q+1)=j+1+q by omega]at this
  simp only[sN]at h;split at h
  ·obtain⟨b',h1,h2⟩:=zM h;cases h2;refine⟨?_,aO hB hN ss ts (j+1) h1 hq' hR.2⟩;obtain⟨rfl,hs⟩:=hR.1.vI;exact .v hs
  ·rename_i i o n;cases ho:Nat.beq o 0 with
   | false=>rw[ho]at h;cases h
   | true=>
    rw[ho,cond_true]at h;obtain⟨x,hx,h⟩:=zM h;obtain⟨b',h1,h2⟩:=zM h;cases h2;refine⟨?_,aO hB hN ss ts (j+1) h1 hq' hR.2⟩;obtain rfl:=zY ho;unfold qQj at hx;split at hx
    ·rename_i c e' hn;cases he:Nat.beq e e' with
     | false=>rw[he]at hx;cases hx
     | true=>
      rw[he,cond_true]at hx;split at hx
      ·rename_i y l hl;obtain⟨k1,k2⟩:=zV hx;cases k2;obtain rfl:=zY k1;have hBj:B' j=B i:=by
        have:=hq 0 i rfl;simpa using this
       have hv:=hR.1;cases hv with
       | og g1 g2 g3 g4=>exact .og (by rw[hBj];exact g1) g2 g3 g4
      ·cases hx
    ·cases hx
  ·cases h
end
section
variable {P:Program}{E:Nat→Prop}{w0:World}{X:Hid}{F:List Nat}{H H':List TO}{B B':Bm}{w:World}{Y:Hid}{Mo:List (Nat×Obj)}{r:Rd}{m:Nat}{n:Nat}{a:Act}{D:List Deferred}{s:S}
def reB(B:Bm)(m:Nat)(src:List (Option Nat)):Bm:=⟨fun i=>if i<m then B i else match src[i-m]? with
 | some (some j)=>B j
 | _=>none,B.N⟩
theorem zFm{src:List (Option Nat)}{i:Nat}(h:i<m):reB B m src i=B i:=if_pos h
theorem zMy{src:List (Option Nat)}{q j:Nat}(h:src[q]?=some (some j)):reB B m src (m+q)=B j:=by
 show(if m+q<m then B (m+q)else _)=_
 rw[if_neg (by omega),Nat.add_sub_cancel_left,h]
theorem qGo{B0:Bm}{src:List (Option Nat)}(h:BLe B0 B)(hm:∀i,m≤i→B0 i=none):BLe B0 (reB B m src):=⟨fun i p e=>by
 have hi:i<m:=by
  rcases Nat.lt_or_ge i m with h | h
  ·exact h
  ·rw[hm i h]at e;cases e
 rw[zFm hi];exact h i p e,h.n⟩
theorem fQ:∀(ss:List Sl)(ts:List T){b:List T×List T},(sN m H ss ts).run=some b→(buA ss b.2).length=(vJ ss ts).length∧
  ∀(q:Nat)(o:TO),(buA ss b.2)[q]?=some o→o≠.gone→∃(i:Nat)(c:Cs)(g:Tg)(A:Ty)(x:List A.den)(e:TypeId),o= .gro (.d g A x) e∧(vJ ss ts)[q]?=some (some i)∧nth .gone H i= .gro c e∧qAl g A c=some x
 | [],[],b,h=>by cases h;exact⟨rfl,fun q o e=>by simp[buA]at e⟩
 | [],_::_,b,h=>by cases h
 | .u::ss,[],b,h=>by cases h
 | .h::ss,[],b,h=>by cases h
 | .t _::ss,[],b,h=>by cases h
 | .a .. ::ss,[],b,h=>by cases h
 | .u::ss,t::ts,b,h=>fQ ss ts (b:=b) h
 | .h::ss,t::ts,b,h=>by
  simp only[sN]at h;split at h
  ·obtain⟨b',h1,h2⟩:=zM h;cases h2;exact fQ (b:=b') ss ts h1
  ·cases h
 | .t x::ss,t::ts,b,h=>by
  simp only[sN]at h;cases hc:eqU 12 x t&&vH m 12 x with
  | false=>rw[hc]at h;cases h
  | true=>rw[hc]at h;exact fQ (b:=b) ss ts h
 | .a g A e::ss,t::ts,b,h=>by
  simp only[sN]at h;split at h
  ·obtain⟨b',h1,h2⟩:=zM h;cases h2;obtain⟨k1,k2⟩:=fQ (b:=b') ss ts h1;refine⟨by simp only[buA,vJ,List.length_cons,k1],fun q o ho hne=>?_⟩
   cases q with
   | zero=>simp only[buA,qZv,List.getElem?_cons_zero,Option.some.injEq]at ho;exact absurd ho.symm hne
   | succ q=>
    obtain⟨i,c,g',A',x,e',r1,r2,r3⟩:=k2 q o (by simpa[buA]using ho) hne
    exact⟨i,c,g',A',x,e',r1,by simpa[vJ]using r2,r3⟩
  ·rename_i i o n;cases ho:Nat.beq o 0 with
   | false=>rw[ho]at h;cases h
   | true=>
    rw[ho,cond_true]at h;obtain⟨x,hx,h⟩:=zM h;obtain⟨b',h1,h2⟩:=zM h;cases h2;obtain⟨k1,k2⟩:=fQ (b:=b') ss ts h1;refine⟨by simp only[buA,vJ,List.length_cons,k1],fun q o ho hne=>?_⟩
    cases q with
    | succ q=>
     obtain⟨i,c,g',A',x,e',r1,r2,r3⟩:=k2 q o (by simpa[buA]using ho) hne
     exact⟨i,c,g',A',x,e',r1,by simpa[vJ]using r2,r3⟩
    | zero=>
     unfold qQj at hx;split at hx
     ·rename_i c e' hn;cases he:Nat.beq e e' with
      | false=>rw[he]at hx;cases hx
      | true=>
       rw[he,cond_true]at hx;obtain rfl:=zY he;split at hx
       ·rename_i y l hl;obtain⟨q1,q2⟩:=zV hx;cases q2;simp only[buA,qZv,List.getElem?_cons_zero,Option.some.injEq]at ho;subst ho;exact⟨i,c,g,A,y::l,e,rfl,rfl,hn,hl⟩
       ·cases hx
     ·cases hx
  ·cases h
def zZo(H l:List TO)(s:List (Option Nat)):Prop:=l.length=s.length∧∀(q:Nat)(o:TO),l[q]?=some o→o≠.gone→∃(i:Nat)(c:Cs)(g:Tg)(A:Ty)(x:List A.den)(e:TypeId),o= .gro (.d g A x) e∧s[q]?=some (some i)∧nth .gone H i= .gro c e∧qAl g A c=some x
theorem zUh{l1 l2:List TO}{s1 s2:List (Option Nat)}(h1:zZo H l1 s1)(h2:zZo H l2 s2):zZo H (l1++l2) (s1++s2):=by
 refine⟨by rw[List.length_append,List.length_append,h1.1,h2.1],fun q o ho hne=>?_⟩
 rw[List.getElem?_append]at ho;split at ho
 ·rename_i hq;obtain⟨i,c,g,A,x,e,r1,r2,r3⟩:=h1.2 q o ho hne;exact⟨i,c,g,A,x,e,r1,by rw[List.getElem?_append_left (by rw[←h1.1];exact hq)];exact r2,r3⟩
 ·rename_i hq;obtain⟨i,c,g,A,x,e,r1,r2,r3⟩:=h2.2 _ o ho hne;exact⟨i,c,g,A,x,e,r1,by rw[List.getElem?_append_right (by rw[←h1.1];omega),←h1.1];exact r2,r3⟩
theorem qAm(ss:List Sl)(ts:List T){b:List T×List T}(h:(sN m H ss ts).run=some b):zZo H (buA ss b.2) (vJ ss ts):=fQ ss ts h
theorem zEw{H0:List TO}:∀(os:List Ob')(H:List TO){ks:List (List T)×List T},(zIq m H0 os H).run=some ks→zZo H0 (buB os ks.2) (mH os H)
 | [],H,ks,h=>by cases h;exact⟨rfl,fun q o e=>by simp[buB]at e⟩
 | .g::os,[],ks,h=>by cases h
 | .r _ _::os,[],ks,h=>by cases h
 | .m _ _ _::os,[],ks,h=>by cases h
 | .g::os,x::H,ks,h=>by
  obtain⟨ks',h1,h2⟩:=zM h;cases h2;have:=zEw os H h1;simpa only[buB,mH]using this
 | .m g K V::os,x::H,ks,h=>by
  simp only[zIq]at h;split at h
  ·obtain⟨ks',h1,h2⟩:=zM h;cases h2;have:=zEw os H h1;simpa only[buB,mH]using this
  ·cases h
 | .r cs e::os,x::H,ks,h=>by
  cases x with
  | row ts e'=>
   simp only[zIq]at h;cases he:Nat.beq e e' with
   | false=>rw[he]at h;cases h
   | true=>
    rw[he,cond_true]at h;obtain⟨b,hb,h⟩:=zM h;obtain⟨ks',h1,h2⟩:=zM h;cases h2;obtain⟨t1,t2⟩:=zHz (b:=ks'.2) (fE cs ts hb);simp only[buB,mH,t1,t2];exact zUh (qAm cs ts hb) (zEw os H h1)
  | _=>cases h
def Obx(P:Program)(m:Nat)(src:List (Option Nat))(o1 o:TO):Prop:=vB o1=true∧(∀cs,o≠.fz cs)∧∀(B B':Bm)(r:Rd)(C:Nat)(ob:Obj),(∀i,i<m→B' i=B i)→(∀(q i:Nat),src[q]?=some (some i)→B' (m+q)=B i)→B'.N=B.N→RO P B r C o1 ob→RO P B' r C o ob
theorem qMu{g g':Tg}{V:Ty}{x:V.den}{v:Value}(h:g'.le g=true)(hN:B'.N=B.N)(hR:Rep B r (unT g V x) v):Rep B' r (unT g' V x) v:=by
 have l1:=jN g V x;have l2:=jN g' V x;have key:∀vs,zN B r (qF g V x) vs→zN B' r (qF g' V x) vs:=fun vs hv=>dE (g:=g') (A:=V) hN (rO g' V x) (fZ h V x hv);by_cases h1:V.size=1
 ·obtain⟨t,ht⟩:=List.length_eq_one_iff.1 (l1.trans h1);obtain⟨t',ht'⟩:=List.length_eq_one_iff.1 (l2.trans h1);unfold unT at hR ⊢;rw[ht]at hR;rw[ht'];have:=key [v] (by rw[ht];exact⟨hR,trivial⟩)
  rw[ht']at this;exact this.1
 ·have one:∀(g:Tg),unT g V x= .ag (qF g V x):=fun g=>by
   have l:=jN g V x;unfold unT;split
   ·rename_i t ht;rw[ht]at l;exact absurd l.symm h1
   ·rfl
  rw[one]at hR ⊢;obtain⟨vs,rfl,hvs⟩:=hR.agI;exact Rep.mkAg (key vs hvs)
theorem zOs{g g':Tg}{K V:Ty}(h:g'.le g=true)(hN:B'.N=B.N):∀(l:List (K.den×V.den))(es:List MapEntry),xD B r (l.map fun e=>(xS K e.1,unT g V e.2)) es→xD B' r (l.map fun e=>(xS K e.1,unT g' V e.2)) es
 | [],[],_=>trivial
 | _::l,_::es,k=>⟨k.1,qMu h hN k.2.1,zOs h hN l es k.2.2⟩
 | [],_::_,k=>k.elim
 | _::_,[],k=>k.elim
theorem qYa{src:List (Option Nat)}{g:Tg}{K V:Ty}{x:TO}{t:T}(h:mdE g K V x=some t):Obx P m src x (moD g K V [t]):=by
 unfold mdE at h;split at h
 ·rename_i d;obtain⟨g0,K0,V0,l⟩:=d;cases hg:g.le g0 with
  | false=>simp[hg]at h
  | true=>
   simp only[hg,cond_true]at h;split at h
   ·rename_i l' hl;cases h;obtain⟨e,he⟩:=lW hl;cases e;obtain rfl:=eq_of_heq he;have e2:wY (.prod K V) (.prod K V) l=some l:=hl;have e3:moD g K V [.ls g (.prod K V) l]= .mapd ⟨g,K,V,l⟩:=by
     show(match wY (.prod K V) (.prod K V) l with | some l=>TO.mapd ⟨g,K,V,l⟩ | none=> .gone)=_
     rw[e2]
    rw[e3];refine⟨rfl,fun cs e=>(by cases e),fun B B' r C ob _ _ hN hro=>?_⟩
    cases hro with
    | mapd h hc hb=>exact .mapd (zOs hg hN _ _ h) hc hb
   ·cases h
 ·cases h;have e2:wY (.prod K V) (.prod K V) ([]:List (Ty.prod K V).den)=some []:=by
   unfold wY;split
   ·rfl
   ·rename_i hn;exfalso;refine hn ?_;have self:∀A:Ty,A.beq A=true:=fun A=>by
     induction A with
     | int k=>simp[Ty.beq]
     | list A ih=>simpa[Ty.beq]using ih
     | prod A C ih1 ih2=>simp[Ty.beq,ih1,ih2]
     | _=>rfl
    exact self _
  have e3:moD g K V [.ls g (.prod K V) []]= .mapd ⟨g,K,V,[]⟩:=by
   show(match wY (.prod K V) (.prod K V) ([]:List (Ty.prod K V).den)with | some l=>TO.mapd ⟨g,K,V,l⟩ | none=> .gone)=_
   rw[e2]
  rw[e3];refine⟨rfl,fun cs e=>(by cases e),fun B B' r C ob _ _ hN hro=>?_⟩
  cases hro with
  | @map l es clk h hc hb=>
   refine .mapd ?_ hc hb;show xD B' r [] es.toList;match es.toList,h with
   | [],_=>trivial
 ·cases h
theorem zMm{H0:List TO}{src:List (Option Nat)}:∀(os:List Ob')(H:List TO)(j:Nat){ks:List (List T)×List T},(zIq m H0 os H).run=some ks→(∀(q i:Nat),(mH os H)[q]?=some (some i)→src[j+q]?=some (some i))→(buO os (m+j) ks.1 ks.2).length=os.length∧os.length≤H.length∧
  ∀(i:Nat)(o:TO),(buO os (m+j) ks.1 ks.2)[i]?=some o→o≠.gone→isG (nth .g os i)=false∧∃o1,H[i]?=some o1∧Obx P m src o1 o
 | [],H,j,ks,h,_=>by cases h;exact⟨rfl,Nat.zero_le _,fun i o e=>by simp[buO]at e⟩
 | .g::os,[],_,ks,h,_=>by cases h
 | .r _ _::os,[],_,ks,h,_=>by cases h
 | .m _ _ _::os,[],_,ks,h,_=>by cases h
 | .g::os,_::H,j,ks,h,hs=>by
  obtain⟨ks',h1,h2⟩:=zM h;cases h2;obtain⟨k1,k2,k3⟩:=zMm os H j h1 hs;refine⟨by simp only[buO,List.length_cons,k1],by simpa using k2,fun i o ho hne=>?_⟩
  cases i with
  | zero=>simp only[buO,List.getElem?_cons_zero,Option.some.injEq]at ho;exact absurd ho.symm hne
  | succ i=>simpa[nY]using k3 i o (by simpa[buO]using ho) hne
 | .m g K V::os,x::H,j,ks,h,hs=>by
  simp only[zIq]at h;split at h
  ·rename_i t ht;obtain⟨ks',h1,h2⟩:=zM h;cases h2;obtain⟨k1,k2,k3⟩:=zMm os H j h1 (by simpa only[mH]using hs)
   refine⟨by simp only[buO,List.length_cons,k1],by simpa using k2,fun i o ho hne=>?_⟩
   cases i with
   | succ i=>simpa[nY]using k3 i o (by simpa[buO]using ho) hne
   | zero=>
    simp only[buO,List.getElem?_cons_zero,Option.some.injEq]at ho;subst ho;exact⟨rfl,x,rfl,qYa ht⟩
  ·cases h
 | .r cs e::os,x::H,j,ks,h,hs=>by
  cases x with
  | row ts e'=>
   simp only[zIq]at h;cases he:Nat.beq e e' with
   | false=>rw[he]at h;cases h
   | true=>
    rw[he,cond_true]at h;obtain rfl:=zY he;obtain⟨b,hb,h⟩:=zM h;obtain⟨ks',h1,h2⟩:=zM h;cases h2;have hn:=fE cs ts hb;have hl:=rF cs ts hb;obtain⟨t1,t2⟩:=zHz (b:=ks'.2) hn;have hs0:∀(q i:Nat),(vJ cs ts)[q]?=some (some i)→src[j+q]?=some (some i):=fun q i e=>hs q i (by
     have hq:q<(vJ cs ts).length:=(List.getElem?_eq_some_iff.1 e).1;show(vJ cs ts++mH os H)[q]?=_;rw[List.getElem?_append_left hq];exact e)
    have hs1:∀(q i:Nat),(mH os H)[q]?=some (some i)→src[j+nA cs+q]?=some (some i):=fun q i e=>by
     have:=hs (nA cs+q) i (by
      show(vJ cs ts++mH os H)[nA cs+q]?=_;rw[List.getElem?_append_right (by omega),hl,hn,Nat.add_sub_cancel_left];exact e)
     rwa[Nat.add_assoc]
    obtain⟨k1,k2,k3⟩:=zMm os H (j+nA cs) h1 hs1;rw[←Nat.add_assoc]at k1 k3;refine⟨by simp only[buO,t2,List.length_cons,k1],by simpa using k2,fun i o ho hne=>?_⟩
    cases i with
    | succ i=>simpa[nY]using k3 i o (by simpa[buO,t2]using ho) hne
    | zero=>
     simp only[buO,t1,List.getElem?_cons_zero,Option.some.injEq]at ho;subst ho;refine⟨rfl,_,rfl,rfl,fun cs e=>(by cases e),fun B B' r C ob hB hq hN hro=>?_⟩
     cases hro with
     | row hr=>
      refine .row ?_;exact aO (H:=H0) hB hN cs ts (m+j) hb (fun q i e=>by
       have:=hq (j+q) i (hs0 q i e);rwa[←Nat.add_assoc]at this) hr
  | _=>cases h
theorem zTp {os : List Ob'} : ∀ (l : List (Option Nat)), zKm m os l = true → (∀ (q i : Nat), l[q]? = some (some i) → m ≤ i ∨ isG (nth .g os i) = true) ∧ ∀ (q q' i : Nat), l[q]? = some (some i) → l[q']? = some (some i) → q = q'
  | [], _ => ⟨fun q i e => by simp at e, fun q q' i e => by simp at e⟩
  | none :: l, h => by
    obtain ⟨h1, h2⟩ := zTp l h
    refine ⟨fun q i e => ?_, fun q q' i e e' => ?_⟩
    · cases q with
      | zero => simp at e
      | succ q => exact h1 q i (by simpa using e)
    · cases q with
      | zero => simp at e
      | succ q => cases q' with
        | zero => simp at e'
        | succ q' => rw [h2 q q' i (by simpa using e) (by simpa using e')]
  | some j :: l, h => by
    simp only [zKm, Bool.and_eq_true] at h
    obtain ⟨⟨h0, h0'⟩, h⟩ := h
    obtain ⟨h1, h2⟩ := zTp l h
    have no : ∀ (q : Nat), l[q]? ≠ some (some j) := by
      have : ∀ (l : List (Option Nat)), zIo j l = false → ∀ q : Nat, l[q]? ≠ some (some j) := by
        intro l
        induction l with
        | nil => intro _ q e; simp at e
        | cons x l ih =>
          intro hk q e
          cases x with
          | none =>
            cases q with
            | zero => simp at e
            | succ q => exact ih hk q (by simpa using e)
          | some y =>
            simp only [zIo, Bool.or_eq_false_iff] at hk
            cases q with
            | zero => simp at e; subst e; simp at hk
            | succ q => exact ih hk.2 q (by simpa using e)
      exact this l (by simpa using h0)
    refine ⟨fun q i e => ?_, fun q q' i e e' => ?_⟩
    · cases q with
      | zero =>
        simp at e; subst e
        cases hb : Nat.blt j m with
        | false => left; have : ¬ j < m := fun hlt => by rw [← Nat.blt_eq] at hlt; rw [hb] at hlt; cases hlt
                   omega
        | true => right; simpa [hb] using h0'
      | succ q => exact h1 q i (by simpa using e)
    · cases q with
      | zero =>
        simp at e; subst e
        cases q' with
        | zero => rfl
        | succ q' => exact absurd (by simpa using e') (no q')
      | succ q => cases q' with
        | zero => simp at e'; subst e'; exact absurd (by simpa using e) (no q)
        | succ q' => rw [h2 q q' i (by simpa using e) (by simpa using e')]
theorem qBf{sp:Sp}{q:Hs}(h:(zFv m sp s).run=some q)(hW:Wd P E w0 X F s.H B w Y Mo)(hF:FrT n a s.L D B (rd w Y)):
  ∃src,Wd P E w0 X F (bu m sp q).H (reB B m src) w Y Mo∧FrT n a (bu m sp q).L D (reB B m src) (rd w Y)∧m≤s.H.length:=by
 unfold zFv at h;cases hc:zKm m sp.os (vJ sp.ss s.L++mH sp.os s.H)&&(Nat.beq (ln sp.os) m&&Nat.ble m (ln s.H))with
 | false=>rw[hc]at h;cases h
 | true=>
  rw[hc,cond_true]at h;simp only[Bool.and_eq_true]at hc;obtain⟨c1,c2,c3⟩:=hc;obtain⟨b,h1,h⟩:=zM h;obtain⟨ks,h2,h3⟩:=zM h;cases h3;have c2:=zY c2;rw[qR]at c2;have c3:m≤s.H.length:=by rw[←qR];exact Nat.le_of_ble_eq_true c3
  obtain⟨s1,s2⟩:=zTp _ c1;obtain⟨a1,a2⟩:=zUh (qAm sp.ss s.L h1) (zEw sp.os s.H h2);have hn:=fE sp.ss s.L h1;have hl:=rF sp.ss s.L h1;obtain⟨t1,t2⟩:=zHz (b:=ks.2) hn;obtain⟨o1,o2,o3⟩:=zMm (P:=P) (src:=vJ sp.ss s.L++mH sp.os s.H) sp.os s.H (nA sp.ss) h2 fun q i e=>by
   rw[List.getElem?_append_right (by omega),hl,hn,Nat.add_sub_cancel_left];exact e
  have hbu:bu m sp ⟨b.1,b.2++ks.2,ks.1⟩=⟨buL sp.ss m b.1 b.2,buO sp.os (m+nA sp.ss) ks.1 ks.2++(buA sp.ss b.2++buB sp.os ks.2)⟩:=by
   unfold bu;simp only[t1,t2]
  rw[hbu];refine⟨vJ sp.ss s.L++mH sp.os s.H,?_,⟨hF.size,?_,hF.defers⟩,c3⟩
  ·have hgone:∀{o:TO},vB o=true→o≠.gone:=fun h e=>by subst e;cases h
   have get:∀(i:Nat)(o:TO),(buO sp.os (m+nA sp.ss) ks.1 ks.2++(buA sp.ss b.2++buB sp.os ks.2))[i]?=some o→vB o=true→(i<m∧(buO sp.os (m+nA sp.ss) ks.1 ks.2)[i]?=some o)∨(m≤i∧(buA sp.ss b.2++buB sp.os ks.2)[i-m]?=some o):=fun i o ho hl=>by
    rw[List.getElem?_append]at ho;split at ho
    ·rename_i hi;rw[o1,c2]at hi;exact .inl ⟨hi,ho⟩
    ·rename_i hi;rw[o1,c2]at hi ho;exact .inr ⟨by omega,ho⟩
   refine hW.re (fun i=>if i<m then some i else(match(vJ sp.ss s.L++mH sp.os s.H)[i-m]? with | some x=>x | none=>none)) rfl (fun i hi=>?_) (fun i o ho hl=>?_) (fun i cs hf=>?_) (fun i j k p1 p2 g1 l1 g2 l2 e1 e2=>?_)
   ·have hlen:(buO sp.os (m+nA sp.ss) ks.1 ks.2++(buA sp.ss b.2++buB sp.os ks.2)).length=m+(vJ sp.ss s.L++mH sp.os s.H).length:=by
     rw[List.length_append,o1,c2,a1]
    rw[hlen]at hi;show(if i<m then B i else _)=none
    rw[if_neg (by omega),List.getElem?_eq_none (by omega)]
   ·rcases get i o ho hl with⟨hi,ho⟩ | ⟨hi,ho⟩
    ·obtain⟨_,o1',r2,r3,_,r4⟩:=o3 i o ho (hgone hl);exact⟨i,o1',if_pos hi,zFm hi,r2,r3,fun C ob hro=>r4 _ _ _ C ob (fun i hi=>zFm hi) (fun q i e=>zMy e) rfl hro⟩
    ·obtain⟨j,c,g,A,x,e,r1,r2,r3,r4⟩:=a2 (i-m) o ho (hgone hl);have hj:=mY r3 (by simp)
     refine⟨j,_,?_,?_,hj,rfl,fun C ob hro=>?_⟩
     ·simp only[if_neg (show¬i<m by omega),r2]
     ·have:=zMy (B:=B) (m:=m) r2;rwa[Nat.add_sub_cancel' hi]at this
     ·subst r1;cases hro with
      | gro hi' hs hC hr=>
       obtain⟨k1,k2⟩:=qIb r4 hr;refine .gro hi' hs hC ?_;show zN _ _ (qN g A x) (List.take (qN g A x).length _);rw[k2];exact dE (g:=g) (A:=A) (B:=B) (B':=reB B m (vJ sp.ss s.L++mH sp.os s.H)) rfl (bS g A x) k1
   ·have hf:(buO sp.os (m+nA sp.ss) ks.1 ks.2++(buA sp.ss b.2++buB sp.os ks.2))[i]?=some (.fz cs):=hf;rw[List.getElem?_append]at hf;split at hf
    ·obtain⟨_,_,_,_,e,_⟩:=o3 i _ hf (by simp)
     exact e cs rfl
    ·obtain⟨_,_,_,_,_,_,e,_⟩:=a2 _ _ hf (by simp)
     cases e
   ·have G:∀(i:Nat)(o:TO),(buO sp.os (m+nA sp.ss) ks.1 ks.2++(buA sp.ss b.2++buB sp.os ks.2))[i]?=some o→vB o=true→i<m→isG (nth .g sp.os i)=false:=fun i o ho hl hi=>by
     rcases get i o ho hl with⟨_,ho⟩ | ⟨h,_⟩
     ·exact(o3 i o ho (hgone hl)).1
     ·omega
    have S:∀{i k:Nat},m≤i→(if i<m then some i else(match(vJ sp.ss s.L++mH sp.os s.H)[i-m]? with | some x=>x | none=>none))=some k→(vJ sp.ss s.L++mH sp.os s.H)[i-m]?=some (some k):=fun{i k}hi e=>by
     rw[if_neg (by omega)]at e
     split at e
     ·rename_i x hx;rw[hx,e]
     ·cases e
    rcases Nat.lt_or_ge i m with hi | hi<;>rcases Nat.lt_or_ge j m with hj | hj
    ·rw[if_pos hi]at e1;rw[if_pos hj]at e2;cases e1;cases e2;rfl
    ·rw[if_pos hi]at e1;cases e1;rcases s1 _ _ (S hj e2)with h | h
     ·omega
     ·rw[G i p1 g1 l1 hi]at h;cases h
    ·rw[if_pos hj]at e2;cases e2;rcases s1 _ _ (S hi e1)with h | h
     ·omega
     ·rw[G j p2 g2 l2 hj]at h;cases h
    ·have:=s2 _ _ _ (S hi e1) (S hj e2);omega
  ·exact aO (H:=s.H) (fun i hi=>zFm hi) rfl sp.ss s.L m h1 (fun q i e=>zMy (by
    have hq:q<(vJ sp.ss s.L).length:=(List.getElem?_eq_some_iff.1 e).1;rw[List.getElem?_append_left hq];exact e)) hF.reps
end
structure Lp where
 m:Nat
 sp:Sp
 sx:Sp
 sr:Sp
noncomputable def Lp.bx(l:Lp):Ex×Hs→Ex×S
 | (.r,q)=>(.r,bu l.m l.sr q)
 | (e,q)=>(e,bu l.m l.sx q)
noncomputable def Lp.end_(l:Lp):Ex×S→DT (Hs⊕(Ex×Hs))
 | (.n,s)=>(zFv l.m l.sp s).bind fun q=> .ret (.inl q)
 | (.x id,s)=>(zFv l.m l.sx s).bind fun q=> .ret (.inr (.x id,q))
 | (.r,s)=>(zFv l.m l.sr s).bind fun q=> .ret (.inr (.r,q))
 | _=> .no
noncomputable def Lp.stp(l:Lp)(rn:Rd')(f:Nat)(p:List Bool)(x:Code)(q:Hs):Option (Hs⊕(Ex×Hs)):=((rn f (false::p) x (bu l.m l.sp q)).bind l.end_).run
inductive It (st:Hs→Option (Hs⊕(Ex×Hs))):Nat→Hs→Ex×Hs→Prop
  | out {q:Hs} {y:Ex×Hs} (h:st q=some (.inr y)):It st 0 q y
  | go {n:Nat} {q q':Hs} {y:Ex×Hs} (h:st q=some (.inl q')) (k:It st n q' y):It st (n+1) q y
section
variable {P:Program}{OD:Od}{LO:Lo}{rn:Rd'}{l:Lp}{f:Nat}{p:List Bool}{x:Code}{s:S}
theorem qKn(hrn:dY P rn)(hc:cAt P f p=some (.loop x)){n:Nat}{q:Hs}{y:Ex×Hs}(hm:l.m=s.H.length)(h0:(zFv l.m l.sp s).run=some q)(h:It (l.stp rn f p x) n q y):Tr P (.loop x) s (l.bx y).1 (l.bx y).2:=by
 intro E w0 X F n0 a D B w Y Mo rr Q hr hW hF hA;have c1:cAt P f (false::p)=some x:=by simp[cAt,hc,zAa]
 have hr1:rr=none∨noR x=true:=hr.imp id fun h=>by simpa[noR]using h
 have hBm:∀i,l.m≤i→B i=none:=fun i hi=>hW.nn i (by rw[←hm];exact hi)
 refine gK (γ:=Nat×Hs×List Nat) (fun g a2 w2=>It (l.stp rn f p x) g.1 g.2.1 y∧∃B' Y' Mo',(noR x=true→g.2.2=[])∧Wd P E w0 X (g.2.2++F) (bu l.m l.sp g.2.1).H B' w2 Y' Mo'∧FrT n0 a2 (bu l.m l.sp g.2.1).L (g.2.2.map Gv.mark++D) B' (rd w2 Y')∧BLe B B'∧Le (rd w Y) (rd w2 Y'))
  (fun g=>g.1) (n,q,[]) ?_ ?_
 ·obtain⟨src,k1,k2,_⟩:=qBf h0 hW hF;exact⟨h,_,Y,Mo,fun _=>rfl,k1,k2,qGo (BLe.refl B) hBm,Le.refl _⟩
 ·rintro⟨j,q0,bs0⟩ a0 w1 ⟨hit,B1,Y1,Mo1,hb1,g1,g2,g3,g4⟩;simp only at hit hb1 g1 g2;have st:∀{z:Hs⊕(Ex×Hs)},l.stp rn f p x q0=some z→∃e1 s1,(rn f (false::p) x (bu l.m l.sp q0)).run=some (e1,s1)∧(l.end_ (e1,s1)).run=some z:=fun h=>by
   obtain⟨⟨e1,s1⟩,h1,h2⟩:=zM h;exact⟨e1,s1,h1,h2⟩
  have fin:∀{s1:S}{a':Act}{w':World}{B':Bm}{Y':Hid}{Mo':List (Nat×Obj)}{bs:List Nat}{sp:Sp}{q1:Hs},(zFv l.m sp s1).run=some q1→Wd P E w0 X (bs++(bs0++F)) s1.H B' w' Y' Mo'→FrT n0 a' s1.L (bs.map Gv.mark++(bs0.map Gv.mark++D)) B' (rd w' Y')→BLe B B'→
    ∃B2,Wd P E w0 X (bs++bs0++F) (bu l.m sp q1).H B2 w' Y' Mo'∧FrT n0 a' (bu l.m sp q1).L ((bs++bs0).map Gv.mark++D) B2 (rd w' Y')∧BLe B B2:=fun hq k1 k2 k3=>by
   obtain⟨src,r1,r2,_⟩:=qBf hq k1 k2;exact⟨_,by rw[List.append_assoc];exact r1,by rw[List.map_append,List.append_assoc];exact r2,qGo k3 hBm⟩
  have out:∀{e1:Ex}{s1:S},(rn f (false::p) x (bu l.m l.sp q0)).run=some (e1,s1)→((∃q1,(zFv l.m l.sp s1).run=some q1∧e1= .n∧∃j',j=j'+1∧It (l.stp rn f p x) j' q1 y)∨(∃q1,(zFv l.m l.sx s1).run=some q1∧(∃id,e1= .x id)∧l.bx y=(e1,bu l.m l.sx q1))∨(∃q1,(zFv l.m l.sr s1).run=some q1∧e1= .r∧l.bx y=(e1,bu l.m l.sr q1)))→
    x.wpIn (FF rr) 0 P (Exit.then (fun a' w'=>∃g':Nat×Hs×List Nat,(It (l.stp rn f p x) g'.1 g'.2.1 y∧∃B' Y' Mo',(noR x=true→g'.2.2=[])∧Wd P E w0 X (g'.2.2++F) (bu l.m l.sp g'.2.1).H B' w' Y' Mo'∧FrT n0 a' (bu l.m l.sp g'.2.1).L (g'.2.2.map Gv.mark++D) B' (rd w' Y')∧BLe B B'∧Le (rd w Y) (rd w' Y'))∧g'.1<j) Q) a0 w1:=fun h1 hh=>by
   refine hrn _ _ _ _ _ _ (.inl c1) h1 E w0 X _ n0 a0 _ B1 w1 Y1 Mo1 rr _ hr1 g1 g2 fun a' w' B' Y' Mo' bs hbs k1 k2 k3 k4=>?_;have hbs':noR x=true→bs++bs0=[]:=fun e=>by rw[hbs e,hb1 e];rfl
   rcases hh with⟨q1,hq,rfl,j',rfl,hit'⟩ | ⟨q1,hq,⟨id,rfl⟩,hy⟩ | ⟨q1,hq,rfl,hy⟩
   ·obtain⟨B2,r1,r2,r3⟩:=fin hq k1 k2 (g3.trans k3);exact⟨(j',q1,bs++bs0),⟨hit',B2,Y',Mo',hbs',r1,r2,r3,g4.trans k4⟩,Nat.lt_succ_self j'⟩
   ·obtain⟨B2,r1,r2,r3⟩:=fin hq k1 k2 (g3.trans k3);rw[hy]at hA;exact hA a' w' B2 Y' Mo' (bs++bs0) (fun e=>hbs' (by simpa[noR]using e)) r1 r2 r3 (g4.trans k4)
   ·obtain⟨B2,r1,r2,r3⟩:=fin hq k1 k2 (g3.trans k3);rw[hy]at hA;exact hA a' w' B2 Y' Mo' (bs++bs0) (fun e=>hbs' (by simpa[noR]using e)) r1 r2 r3 (g4.trans k4)
  cases hit with
  | go h k=>
   obtain⟨e1,s1,h1,h2⟩:=st h;refine out h1 ?_;cases e1 with
   | n=>obtain⟨q1,r1,r2⟩:=zM h2;cases r2;exact .inl ⟨_,r1,rfl,_,rfl,k⟩
   | x id=>obtain⟨q1,r1,r2⟩:=zM h2;cases r2
   | r=>obtain⟨q1,r1,r2⟩:=zM h2;cases r2
   | p t=>cases h2
  | out h=>
   obtain⟨e1,s1,h1,h2⟩:=st h;refine out h1 ?_;cases e1 with
   | n=>obtain⟨q1,r1,r2⟩:=zM h2;cases r2
   | x id=>obtain⟨q1,r1,r2⟩:=zM h2;cases r2;exact .inr (.inl ⟨q1,r1,⟨id,rfl⟩,rfl⟩)
   | r=>obtain⟨q1,r1,r2⟩:=zM h2;cases r2;exact .inr (.inr ⟨q1,r1,rfl,rfl⟩)
   | p t=>cases h2
noncomputable def Lp.row(l:Lp)(h:Hs→DT (Ex×Hs))(s:S):DT (Ex×S):=bif Nat.beq l.m (ln s.H)then(zFv l.m l.sp s).bind fun q=>(h q).bind fun y=> .ret (l.bx y)else .no
noncomputable def eqP:List Bool→List Bool→Bool
 | [],[]=>true
 | a::p,b::q=>zXk a b&&eqP p q
 | _,_=>false
theorem qCm:∀{p q:List Bool},eqP p q=true→p=q
 | [],[],_=>rfl
 | a::p,b::q,h=>by
  simp only[eqP,Bool.and_eq_true]at h;rw[qCm h.2];congr 1;cases a<;>cases b<;>first | rfl | cases h.1
noncomputable def loT:List (Nat×List Bool×(S→DT (Ex×S)))→Lo
 | [],_,_,_=>none
 | (g,p',h)::l,f,p,s=>bif Nat.beq g f&&eqP p' p then some (h s)else loT l f p s
theorem qZ:mQ P (loT []):=fun _ _ _ _ h=>by cases h
theorem yK{t:List (Nat×List Bool×(S→DT (Ex×S)))}(ht:mQ P (loT t)){h:Hs→DT (Ex×Hs)}(hrn:dY P rn)(hc:cAt P f p=some (.loop x))(hh:∀q y,(h q).run=some y→∃n,It (l.stp rn f p x) n q y):mQ P (loT ((f,p,l.row h)::t)):=by
 intro f' p' s d hd x' hx' e s' hrun;simp only[loT]at hd;cases hb:Nat.beq f f'&&eqP p p' with
 | false=>rw[hb,cond_false]at hd;exact ht f' p' s d hd x' hx' e s' hrun
 | true=>
  rw[hb,cond_true]at hd;cases hd;simp only[Bool.and_eq_true]at hb;obtain rfl:=zY hb.1;obtain rfl:=qCm hb.2;rw[hc]at hx';cases hx';unfold Lp.row at hrun;cases hm:Nat.beq l.m (ln s.H)with
  | false=>rw[hm]at hrun;cases hrun
  | true=>
   rw[hm,cond_true]at hrun;have hm:=zY hm;rw[qR]at hm;obtain⟨q,h1,h2⟩:=zM hrun;obtain⟨y,h3,h4⟩:=zM h2;obtain⟨n,hn⟩:=hh q y h3;have:=qKn hrn hc hm h1 hn;have e4:l.bx y=(e,s'):=Option.some.inj h4;rw[e4]at this;exact this
end
@[match_pattern] abbrev limsT:Ty:= .list .lim
@[match_pattern] abbrev zP:Ty:= .prod .bool (.prod (.list .lim) (.list .lim))
noncomputable def qZu(A:Ty):T→Option (List A.den)
 | .ls _ A' l=>wY A' A l
 | .v (.slice none 0 0)=>some []
 | .sl cs n=>bif lQ A then(match fH (n*A.size) cs with
  | some us=>(match chk A (n+1) us with
   | some l=>(match zOg .a A l []with
    | some x=>bif Nat.beq (ln x) n then some x.reverse else none
    | none=>none)
   | none=>none)
  | none=>none)else none
 | _=>none
noncomputable def qIi:Ty→T→Option T
 | .list A,t=>(match qZu A t with
  | some l=>some (.ls .a A l)
  | none=>none)
 | .prod A B,.ag cs=>(match nM .a (.prod A B) cs with
  | some x=>some (.ag (qF .a (.prod A B) x))
  | none=>none)
 | .int k,.v (.int k' a)=>bif Nat.beq (kind k) (kind k')then some (.v (.int k' a))else none
 | .bool,.v (.bool b)=>some (.v (.bool b))
 | .str,.v (.string b)=>some (.v (.string b))
 | _,_=>none
noncomputable def zNz:List Ty→List T→Option (List T)
 | [],[]=>some []
 | A::As,t::ts=>(match qIi A t,zNz As ts with
  | some x,some r=>some (x::r)
  | _,_=>none)
 | _,_=>none
section
variable {P:Program}{B:Bm}{r:Rd}{f k:Nat}{az cz:List T}{tv:T}{nw:Bool}
theorem zFq.of_flat{p:Nat→Prop}{g:Tg}{A:Ty}{x:List A.den}{vs:List Value}{b o c:Nat}(hg:∀(A:Ty)(l:List A.den)(v:Value),Rep B r (.ls g A l) v→jI r p (.list A) l [v])(hA:lQ A=true)(h:zN B r (qN g A x) vs)(hr:∀(j:Nat)(v:Value),vs[j]?=some v→r ⟨b,o+j,none⟩=some v)(hp:p b)(hc:x.length≤c)(hm:c≤maxLen):
  zFq r p A.size (fun y us=>jI r p A y us) (some ⟨b,o,none⟩) c x.reverse:=by
 refine⟨by simpa using hc,hm,.inr ⟨b,o,rfl,hp,fun j y hy=>?_⟩⟩
 have hj:j<x.length:=by
  have:=(List.getElem?_eq_some_iff.1 hy).1;simpa using this
 have hlen:x.length*A.size=vs.length:=by
  have:=h.length;rwa[vF]at this
 have hj1:(j+1)*A.size≤x.length*A.size:=Nat.mul_le_mul_right _ hj;rw[Nat.add_mul,Nat.one_mul]at hj1;have hul:((vs.drop (j*A.size)).take A.size).length=A.size:=by
  rw[List.length_take,List.length_drop];omega
 have hget:∀(q:Nat)(v:Value),((vs.drop (j*A.size)).take A.size)[q]?=some v→vs[j*A.size+q]?=some v:=fun q v hq=>by
  rw[List.getElem?_take]at hq;split at hq
  ·rwa[List.getElem?_drop]at hq
  ·cases hq
 refine⟨(vs.drop (j*A.size)).take A.size,hul,?_,fun q v hq=>hr _ _ (hget q v hq)⟩;refine jI.of_reps (B2:=B) hg A hA y _ (zN.of (by rw[jN,hul]) fun q t v ht hv=>?_)
 have h4:=zCv g A x j y hy q t ht;obtain⟨v',h6,h7⟩:=h.get h4;rw[hget q v hv]at h6;cases h6;exact h7
theorem qMi{A:Ty}{t:T}{l:List A.den}{v:Value}(h:qZu A t=some l)(hR:Rep B r t v):Rep B r (.ls .a A l) v:=by
 unfold qZu at h;split at h
 ·obtain⟨rfl,he⟩:=lW h;obtain rfl:=eq_of_heq he;cases hR with
  | ls h1=>exact .ls (jI.mono (Le.refl _) (fun b _=>Bm.In.any) _ _ _ h1)
 ·cases h;obtain⟨rfl,_⟩:=hR.vI;exact .ls ⟨none,0,rfl,Nat.le_refl _,Nat.zero_le _,.inl rfl⟩
 ·rename_i cs n;cases hA:lQ A with
  | false=>rw[hA]at h;cases h
  | true=>
   rw[hA,cond_true]at h;split at h
   ·rename_i us hu;split at h
    ·rename_i ch hch;split at h
     ·rename_i x hx;cases hn:Nat.beq (ln x) n with
      | false=>rw[hn]at h;cases h
      | true=>
       rw[hn,cond_true]at h;cases h;have hn:=zY hn;rw[qR]at hn;subst hn;have hb:=hR.dn;obtain⟨ad,c,rfl,hc,hh⟩:=hR.slI;have hm:=hR.slB;obtain⟨_,rfl⟩:=zCc _ _ _ hu;have he:=chk_ok _ _ hch;rcases hh with⟨h0,rfl⟩ | ⟨b,o,rfl,hcl⟩
       ·have:=List.eq_nil_of_length_eq_zero h0;subst this;exact .ls ⟨ad,c,rfl,Nat.zero_le _,hm,.inl rfl⟩
       ·obtain⟨fv,g1,g2⟩:=hcl.fun;have hRs:zN B r (cs.take (x.length*A.size)) ((List.range (cs.take (x.length*A.size)).length).map fv):=zN.of (by simp) fun j t v e e'=>by
         rw[List.getElem?_map]at e';obtain⟨j',e1,rfl⟩:=Option.map_eq_some_iff.1 e';have hj:=(List.getElem?_eq_some_iff.1 e1);obtain⟨hj1,hj2⟩:=hj;rw[List.getElem_range]at hj2;subst hj2;rw[List.getElem?_take]at e;split at e
         ·exact g2 _ _ e
         ·cases e
        have hk:=zFw ch [] hx (by simpa[qN,←he]using hRs)
        refine .ls ⟨some ⟨b,o,none⟩,c,by rw[List.length_reverse],zFq.of_flat (g:= .a) (fun A l v h=>by cases h with | ls h=>exact h) hA hk.1 (fun j v hv=>?_) Bm.In.any hc hm⟩
        rw[List.getElem?_map]at hv;obtain⟨j',e1,rfl⟩:=Option.map_eq_some_iff.1 hv;obtain⟨hj1,hj2⟩:=List.getElem?_eq_some_iff.1 e1;rw[List.getElem_range]at hj2;subst hj2;have hj3:j<cs.length:=by
         have:j<(cs.take (x.length*A.size)).length:=by simpa using hj1
         exact Nat.lt_of_lt_of_le this (List.length_take_le' _ _)
        exact g1 j cs[j] (by simp[hj3])
     ·cases h
    ·cases h
   ·cases h
 ·cases h
theorem qIj{A:Ty}{t t':T}{v:Value}(h:qIi A t=some t')(hR:Rep B r t v):Rep B r t' v:=by
 unfold qIi at h;split at h
 ·split at h
  ·rename_i l hl;cases h;exact qMi hl hR
  ·cases h
 ·split at h
  ·rename_i A C cs x hx;cases h;obtain⟨vs,rfl,hvs⟩:=hR.agI;exact Rep.mkAg (lV _ hx hvs).1
  ·cases h
 ·rename_i k k' a;cases hk:Nat.beq (kind k) (kind k')with
  | false=>rw[hk]at h;cases h
  | true=>rw[hk]at h;cases h;exact hR
 ·cases h;exact hR
 ·cases h;exact hR
 ·cases h
theorem zOa:∀{As:List Ty}{az cz:List T}{vs:List Value},zNz As az=some cz→zN B r az vs→zN B r cz vs
 | [],[],cz,vs,h,hR=>by cases h;exact hR
 | A::As,t::ts,cz,v::vs,h,hR=>by
  simp only[zNz]at h;cases h1:qIi A t with
  | none=>simp[h1]at h
  | some x=>
   cases h2:zNz As ts with
   | none=>simp[h1,h2]at h
   | some rr=>
    simp only[h1,h2,Option.some.injEq]at h;subst h;exact⟨qIj h1 hR.1,zOa h2 hR.2⟩
 | [],_::_,_,_,h,_=>by cases h
 | _::_,[],_,_,h,_=>by cases h
 | _::_,_::_,_,[],_,hR=>hR.elim
theorem KnP.arg(h:KnP P k f cz tv nw)(ha:∀(B:Bm)(r:Rd)(vs:List Value),zN B r az vs→zN B r cz vs):KnP P k f az tv nw:=fun B w X qC R hI hk hX hR hK=>h B w X qC R hI hk hX (ha B _ _ hR) hK
noncomputable def odR(As:List Ty)(h:List T→DT (T×Bool))(az:List T):DT (T×Bool):=match zNz As az with
 | some cz=>h cz
 | none=> .no
noncomputable def odT:List (Nat×(List T→DT (T×Bool)))→Od
 | [],_=>none
 | (g,h)::l,f=>bif Nat.beq g f then some h else odT l f
theorem yO:vL P (odT []):=fun _ _ h=>by cases h
theorem zX{t:List (Nat×(List T→DT (T×Bool)))}{h:List T→DT (T×Bool)}(ht:vL P (odT t))(hh:∀az tv nw,(h az).run=some (tv,nw)→∀k,KnP P k f az tv nw):vL P (odT ((f,h)::t)):=by
 intro g h' e;simp only[odT]at e;cases hb:Nat.beq f g with
 | false=>rw[hb,cond_false]at e;exact ht g h' e
 | true=>rw[hb,cond_true]at e;cases e;obtain rfl:=zY hb;exact hh
theorem jY{As:List Ty}{h:List T→DT (T×Bool)}(hh:∀cz tv nw,(h cz).run=some (tv,nw)→∀k,KnP P k f cz tv nw):∀az tv nw,(odR As h az).run=some (tv,nw)→∀k,KnP P k f az tv nw:=fun az tv nw e k=>by
 unfold odR at e;split at e
 ·rename_i cz hc;exact(hh cz tv nw e k).arg fun B r vs hR=>zOa hc hR
 ·cases e
theorem kQ{OD:Od}{LO:Lo}(hm:P.follows .mixedOrders=true)(hO:vL P OD)(hL:mQ P LO){n:Nat}(h:((qW P (evD P OD LO n) f (cz.map (unN 12)) []).bind jB).run=some (tv,nw))(hc:(cz.all (clean 12)&&clean 12 tv)=true)(k:Nat):KnP P k f cz tv nw:=by
 obtain⟨⟨t,H1⟩,h1,h2⟩:=zM h;simp only[Bool.and_eq_true]at hc;exact(qCv (k:=0) hm (tT hm hO hL n) h1 h2).clean hc.1 hc.2 k
noncomputable def zYi:T→Option (List Nat)
 | .ls _ .lim l=>some l
 | t=>zMc t
noncomputable def arX:T→Option Ar
 | .ag [.v (.bool b),x,y]=>(match zYi x,zYi y with
  | some l,some l2=>some (.r ⟨b,l,l2⟩)
  | _,_=>none)
 | t=>arT t
noncomputable def zRu:List T→Option (List Ar)
 | []=>some []
 | t::l=>match arX t,zRu l with
  | some a,some r=>some (a::r)
  | _,_=>none
noncomputable def unX:Ar→T
 | .r a=> .ag [.v (.bool a.neg),.ls .a .lim a.ln,.ls .a .lim a.ld]
 | .i n=> .v (.int .i64 n)
 | .b b=> .v (.bool b)
 | .s s=> .v (.string s)
noncomputable def jAs:Rs→T
 | .one a=>unX a
 | .tup l=> .tu (l.map unX)
variable {X:Hid}{w:World}
theorem qXw{g:Tg}{l:List Nat}{v:Value}(h:Rep B (rd w X) (.ls g .lim l) v):∃ad n c,v= .slice ad n c∧zT (rd w X) ad n c l:=by
 obtain⟨ad,c,rfl,hn,hm,hh⟩:=h.lsI;refine⟨ad,_,c,rfl,rfl,hn,hm,?_,?_⟩
 ·rcases hh with rfl | ⟨b,o,rfl,_,k⟩
  ·intro x hx;cases hx
  ·intro x hx;obtain⟨i,hi⟩:=List.getElem?_of_mem hx;obtain⟨vs,_,g2,_⟩:=k i x hi;exact g2.2
 ·rcases hh with rfl | ⟨b,o,rfl,_,k⟩
  ·exact .inl rfl
  ·refine .inr ⟨b,o,rfl,fun j v hv=>?_⟩;simp only[U32,List.getElem?_map]at hv;cases hx:l[j]? with
   | none=>rw[hx]at hv;cases hv
   | some x=>
    rw[hx]at hv;cases hv;obtain⟨vs,g1,g2,g3⟩:=k j x hx;obtain⟨rfl,_⟩:=g2;have:=g3 0 _ rfl;rw[yC];have e:o+(j*Ty.lim.size+0)=o+j:=by show o+(j*1+0)=o+j;omega
    rwa[e]at this
theorem qDx{ad:Option Addr}{n c:Nat}{l:List Nat}(h:zT (rd w X) ad n c l):Rep B (rd w X) (.ls .a .lim l) (.slice ad n c):=by
 have e:=h.hlen;subst e;refine .ls ⟨ad,c,rfl,h.hcap,h.hbig,?_⟩;rcases h.hat with rfl | ⟨b,o,rfl,ha⟩
 ·exact .inl rfl
 ·refine .inr ⟨b,o,rfl,Bm.In.any,fun i x hx=>⟨[.int .u32 (.ofNat x)],rfl,⟨rfl,h.hlt x (List.mem_of_getElem? hx)⟩,fun j v hv=>?_⟩⟩;cases j with
  | succ j=>simp at hv
  | zero=>
   cases hv;have:=ha i (.int .u32 (.ofNat x)) (by simp only[U32,List.getElem?_map,hx];rfl)
   rw[yC]at this;have e:o+(i*Ty.lim.size+0)=o+i:=by show o+(i*1+0)=o+i;omega
   rwa[e]
theorem zVh{t:T}{l:List Nat}{v:Value}(h:zYi t=some l)(hR:Rep B (rd w X) t v):∃ad n c,v= .slice ad n c∧zT (rd w X) ad n c l:=by
 unfold zYi at h;split at h
 ·cases h;exact qXw hR
 ·exact zAu h hR
theorem qQo{t:T}{a:Ar}{v:Value}(h:arX t=some a)(hR:Rep B (rd w X) t v):ArV X w a v:=by
 unfold arX at h;split at h
 ·rename_i b x y;cases h1:zYi x with
  | none=>simp[h1]at h
  | some l=>
   cases h2:zYi y with
   | none=>simp[h1,h2]at h
   | some l2=>
    simp only[h1,h2,Option.some.injEq]at h;subst h;obtain⟨vs,rfl,hvs⟩:=hR.agI;match vs,hvs with
    | [v1,v2,v3],⟨g1,g2,g3,_⟩=>
     obtain⟨rfl,_⟩:=g1.vI;obtain⟨a1,n1,c1,rfl,k1⟩:=zVh h1 g2;obtain⟨a2,n2,c2,rfl,k2⟩:=zVh h2 g3;exact⟨_,_,_,_,_,_,rfl,k1,k2⟩
 ·exact qAx h hR
theorem zLa:∀{ts:List T}{az:List Ar}{vs:List Value},zRu ts=some az→zN B (rd w X) ts vs→zRk X w az vs
 | [],az,[],h,_=>by simp[zRu]at h;subst h;trivial
 | t::ts,az,v::vs,h,hR=>by
  simp only[zRu]at h;cases h1:arX t with
  | none=>simp[h1]at h
  | some a=>
   cases h2:zRu ts with
   | none=>simp[h1,h2]at h
   | some r=>
    simp only[h1,h2,Option.some.injEq]at h;subst h;exact⟨qQo h1 hR.1,zLa h2 hR.2⟩
 | [],_,_::_,_,hR=>hR.elim
 | _::_,_,[],_,hR=>hR.elim
theorem qHl{a:Ar}{v:Value}(h:ArV X w a v):Rep B (rd w X) (unX a) v:=by
 cases a with
 | r a=>
  obtain⟨_,_,_,_,_,_,rfl,h1,h2⟩:=h;exact Rep.mkAg (vs:=[.bool a.neg,_,_]) ⟨.v rfl,qDx h1,qDx h2,trivial⟩
 | i n=>cases h;exact .v rfl
 | b b=>cases h;exact .v rfl
 | s s=>cases h;exact .v rfl
theorem zWw:∀{az:List Ar}{vs:List Value},zRk X w az vs→zN B (rd w X) (az.map unX) vs
 | [],[],_=>trivial
 | _::_,_::_,h=>⟨qHl h.1,zWw h.2⟩
 | [],_::_,h=>h.elim
 | _::_,[],h=>h.elim
theorem zWv{y:Rs}{v:Value}(h:RsV X w y v):Rep B (rd w X) (jAs y) v:=by
 cases y with
 | one a=>exact qHl h
 | tup l=>
  obtain⟨vs,rfl,h⟩:=h;exact Rep.mkTu (zWw h)
noncomputable def kcD(p:List Ar→Option Rs)(nw:Bool)(az:List T):DT (T×Bool):=match zRu az with
 | some az=>(ofO (p az)).bind fun y=> .ret (jAs y,nw)
 | none=> .no
theorem tX{p:List Ar→Option Rs}{nw nw':Bool}(hc:KC P f p nw):∀az tv,(kcD p nw az).run=some (tv,nw')→∀k,KnP P k f az tv nw':=by
 intro az tv h k;unfold kcD at h;split at h
 ·rename_i az2 h1;obtain⟨y,h2,h3⟩:=zM h;rw[kM]at h2;cases h3;intro B w X qC R _ _ hX hR hk;refine(hc w X hX az2 qC (zLa h1 hR) y h2).mono ?_;rintro e w' ⟨hu,v,rfl,hv⟩;exact hk v w' hu (zWv hv)
 ·cases h
end
noncomputable def us':Nat→List Sl
 | 0=>[]
 | n+1=> .u::us' n
noncomputable def lpc(P:Program)(f:Nat)(p:List Bool):Code:=match cAt P f p with
 | some (.loop x)=>x
 | _=> .skip
def fol{α γ:Type}(g:Nat→α→α⊕γ)(d:α→γ):Nat→Nat→α→γ
 | 0,_,a=>d a
 | k+1,i,a=>match g i a with
  | .inl b=>fol g d k (i+1) b
  | .inr y=>y
section
variable {P:Program}{f:Nat}
noncomputable def kcT(p:List Ar→DT Rs)(nw:Bool)(az:List T):DT (T×Bool):=match zRu az with
 | some az=>(p az).bind fun y=> .ret (jAs y,nw)
 | none=> .no
theorem zGk{p:List Ar→DT Rs}{nw:Bool}(hc:KC P f (fun az=>(p az).run) nw):∀az tv nw',(kcT p nw az).run=some (tv,nw')→∀k,KnP P k f az tv nw':=by
 intro az tv nw' h k;unfold kcT at h;split at h
 ·rename_i az2 h1;obtain⟨y,h2,h3⟩:=zM h;cases h3;intro B w X qC R _ _ hX hR hk;refine(hc w X hX az2 qC (zLa h1 hR) y h2).mono ?_;rintro e w' ⟨hu,v,rfl,hv⟩;exact hk v w' hu (zWv hv)
 ·cases h
end
theorem zO{a b:Nat}(h:a<b):Nat.blt a b=true:=by rw[Nat.blt_eq];exact h
theorem kE{a b:Nat}(h:b≤a):Nat.blt a b=false:=by
 cases e:Nat.blt a b with
 | false=>rfl
 | true=>rw[Nat.blt_eq]at e;omega
theorem vO{a b:Nat}(h:a≤b):Nat.ble a b=true:=by rw[Nat.ble_eq];exact h
theorem vN(a:Nat):Nat.beq a a=true:=Nat.beq_refl a
end Go.Ev
namespace Go.Ev
open Go Go.Gv Go.RowKit Go.ChangeShapes IntKind
def Ty.bts:Ty→Nat
 | .lim=>4
 | .int .i64=>8
 | .int .u64=>8
 | .int .i32=>4
 | .int .u32=>4
 | .int .i16=>2
 | .int .u16=>2
 | .int _=>1
 | .bool=>1
 | .str=>1
 | .list _=>24
 | .prod A B=>A.bts+B.bts
def bC:(A:Ty)→A.den→Prop
 | .lim,a=>a<4294967296
 | .int .i64,a=> -9223372036854775808≤a∧a≤9223372036854775807
 | .int _,_=>True
 | .bool,_=>True
 | .str,_=>True
 | .list A,l=>l.length*A.bts≤140737488351232∧∀x∈l,bC A x
 | .prod A B,x=>bC A x.1∧bC B x.2
mutual
inductive TyF (P:Program):Ty→TypeId→Prop
  | lim {t:TypeId} (h:P.underlying t=some (.int .u32)):TyF P .lim t
  | int {t:TypeId} {k:IntKind} (h:P.underlying t=some (.int k)):TyF P (.int k) t
  | bool {t:TypeId} (h:P.underlying t=some .bool):TyF P .bool t
  | list {t e:TypeId} {A:Ty} (h:P.underlying t=some (.slice e)) (hs:P.cellsOf e=A.size) (hb:A.bts≤P.bytesOf e) (he:TyF P A e):TyF P (.list A) t
  | arr {t e:TypeId} {n:Nat} {A:Ty} (h:P.underlying t=some (.array n e)) (hs:P.cellsOf t=A.size) (hf:ArF P A e n):TyF P A t
  | struct {t:TypeId} {A:Ty} {fs:Array Field} (h:P.underlying t=some (.struct fs)) (hs:P.cellsOf t=A.size) (hf:FsF P A 0 fs.toList):TyF P A t
inductive ArF (P:Program):Ty→TypeId→Nat→Prop
  | one {A:Ty} {e:TypeId} (hs:P.cellsOf e=A.size) (h:TyF P A e):ArF P A e 1
  | cons {A B:Ty} {e:TypeId} {n:Nat} (hs:P.cellsOf e=A.size) (h:TyF P A e) (hl:ArF P B e n):ArF P (.prod A B) e (n+1)
inductive FsF (P:Program):Ty→Nat→List Field→Prop
  | one {A:Ty} {off:Nat} {f:Field} (ho:f.offset=off) (hs:P.cellsOf f.type=A.size) (h:TyF P A f.type):FsF P A off [f]
  | cons {A B:Ty} {off:Nat} {f:Field} {l:List Field} (ho:f.offset=off) (hs:P.cellsOf f.type=A.size) (h:TyF P A f.type) (hl:FsF P B (off+A.size) l):FsF P (.prod A B) off (f::l)
end
section
variable {H:Type}{enc:TypeId×Value→H}{P:Program}{w:World}{spare:Nat→Bool}{held:Bool}
def Opn(enc:TypeId×Value→H)(P:Program)(w:World)(spare:Nat→Bool)(held:Bool)(A:Ty)(t:TypeId):Prop:=∀(n:Nat)(cs:List Value)(y:DataW H×List MemPlace),nE enc P w spare held n t cs y→∃x:A.den,bC A x∧jI (rd w X0) (fun _=>True) A x cs
def qAg(enc:TypeId×Value→H)(P:Program)(w:World)(spare:Nat→Bool)(held:Bool)(A:Ty)(off:Nat)(l:List Field):Prop:=∀(cs:List Value),cs.length=off+A.size→(∀f∈l,∃n y,nE enc P w spare held n f.type ((cs.drop f.offset).take (P.cellsOf f.type)) y)→∃x:A.den,bC A x∧jI (rd w X0) (fun _=>True) A x (cs.drop off)
theorem qLn{t:TypeId}(h:P.underlying t=some (.int .u32)):Opn enc P w spare held .lim t:=by
 intro n cs y k;obtain⟨z,rfl,_,hw⟩:=DataW.trod_int h k.1;have hz:0≤z∧z<4294967296:=by
  simp[Lit.wf,IntKind.min,IntKind.max,IntKind.signed,IntKind.bits]at hw;omega
 refine⟨z.toNat,show z.toNat<4294967296 by omega,?_,show z.toNat<4294967296 by omega⟩
 rw[Int.ofNat_eq_natCast,Int.toNat_of_nonneg hz.1]
theorem qLm{t:TypeId}{kk:IntKind}(h:P.underlying t=some (.int kk)):Opn enc P w spare held (.int kk) t:=by
 intro n cs y k';obtain⟨z,rfl,_,hw⟩:=DataW.trod_int h k'.1;refine⟨z,?_,rfl⟩;cases kk<;>first | trivial | skip
 simp[Lit.wf,IntKind.min,IntKind.max,IntKind.signed,IntKind.bits]at hw;exact⟨show -9223372036854775808≤z by omega,show z≤9223372036854775807 by omega⟩
theorem qFf{t:TypeId}(h:P.underlying t=some .bool):Opn enc P w spare held .bool t:=by
 intro n cs y k;obtain⟨b,rfl,_⟩:=DataW.trod_bool h k.1;exact⟨b,trivial,rfl⟩
theorem qFh{t e:TypeId}{A:Ty}(h:P.underlying t=some (.slice e))(hs:P.cellsOf e=A.size)(hb:A.bts≤P.bytesOf e)(ih:Opn enc P w spare held A e):Opn enc P w spare held (.list A) t:=by
 intro n cs y k;obtain⟨ad,len,cap,xs,rfl,hx,hl⟩:=qLk (α:=A.den) (El:=fun r a x=>bC A x∧∃us,us.length=A.size∧jI r (fun _=>True) A x us∧At r a us) (bts:=P.bytesOf e) h hs A.size_pos rfl (fun n cs y b off hz hcl hat=>by
  obtain⟨x,hv,hR⟩:=ih n cs y hz;exact⟨x,hv,cs,hcl,hR,hat⟩) k
 refine⟨xs,⟨?_,?_⟩,ad,cap,?_,?_⟩
 ·have:xs.length*A.bts≤xs.length*P.bytesOf e:=Nat.mul_le_mul_left _ hb;omega
 ·intro x hx';rcases hx.hat with rfl | ⟨b,off,_,ha⟩
  ·cases hx'
  ·obtain⟨i,hi⟩:=List.getElem?_of_mem hx';exact(ha i x hi).1
 ·rw[hx.hlen]
 ·refine⟨by rw[←hx.hlen];exact hx.hcap,hx.hbig,hx.hat.imp id fun⟨b,off,e,ha⟩=>⟨b,off,e,trivial,fun i x hi=>?_⟩⟩
  obtain⟨_,us,h1,h2,h3⟩:=ha i x hi;refine⟨us,h1,h2,fun j v hv=>?_⟩;have:=h3 j v hv;rwa[yC,Nat.add_assoc]at this
theorem zTc{t:TypeId}{A:Ty}{fs:Array Field}(h:P.underlying t=some (.struct fs))(hs:P.cellsOf t=A.size)(ih:qAg enc P w spare held A 0 fs.toList):Opn enc P w spare held A t:=by
 intro n cs y k;have hl:=flen h k hs;obtain⟨x,hv,hR⟩:=ih cs (by rw[hl,Nat.zero_add]) fun f hf=>by
  obtain⟨i,hi⟩:=List.getElem?_of_mem hf;exact fld h k i (by simpa using hi) rfl
 exact⟨x,hv,by simpa using hR⟩
theorem qQp{t e:TypeId}{n fuel:Nat}{cs:List Value}{x:DataW H×List MemPlace}(ht:P.underlying t=some (.array n e))(h:nE enc P w spare held fuel t cs x)(i:Nat)(hi:i<n):
  ∃m y,nE enc P w spare held m e ((cs.drop (i*P.cellsOf e)).take (P.cellsOf e)) y:=by
 obtain⟨xs,m,_,hx,_,hl,hf⟩:=DataW.trod_array ht h.1;have:=hf i hi;refine⟨m,xs[i]'(by omega),this.trans (List.getElem?_eq_getElem _),fun b off hm=>h.2.1 b off ?_,fun k hk=>h.2.2 k ?_⟩
 ·rw[hx];exact List.mem_flatMap.2 ⟨_,List.getElem_mem _,hm⟩
 ·rw[hx];simp only[DataW.weights,ht];exact jAw (d:=(xs[i]'(by omega)).1) hk (List.mem_map.2 ⟨_,List.getElem_mem _,rfl⟩)
def qAf(enc:TypeId×Value→H)(P:Program)(w:World)(spare:Nat→Bool)(held:Bool)(A:Ty)(e:TypeId)(n:Nat):Prop:=∀(cs:List Value),cs.length=A.size→(∀i,i<n→∃m y,nE enc P w spare held m e ((cs.drop (i*P.cellsOf e)).take (P.cellsOf e)) y)→∃x:A.den,bC A x∧jI (rd w X0) (fun _=>True) A x cs
theorem qLl{t e:TypeId}{n:Nat}{A:Ty}(h:P.underlying t=some (.array n e))(hs:P.cellsOf t=A.size)(ih:qAf enc P w spare held A e n):Opn enc P w spare held A t:=by
 intro m cs y k;obtain⟨_,_,_,_,hl,_⟩:=DataW.trod_array h k.1;exact ih cs (hl.trans hs) fun i hi=>qQp h k i hi
theorem qFe{A:Ty}{e:TypeId}(hs:P.cellsOf e=A.size)(ih:Opn enc P w spare held A e):qAf enc P w spare held A e 1:=by
 intro cs hl hf;obtain⟨m,y,k⟩:=hf 0 Nat.one_pos;rw[Nat.zero_mul,List.drop_zero,hs,List.take_of_length_le (by omega)]at k
 exact ih m _ y k
theorem zYp{A1 B1:Ty}{e:TypeId}{n:Nat}(hs:P.cellsOf e=A1.size)(ih:Opn enc P w spare held A1 e)(ih2:qAf enc P w spare held B1 e n):qAf enc P w spare held (.prod A1 B1) e (n+1):=by
 intro cs hl hf;obtain⟨m,y,k⟩:=hf 0 (Nat.succ_pos n);rw[Nat.zero_mul,List.drop_zero,hs]at k;obtain⟨x,hv,hR⟩:=ih m _ y k;have hl':cs.length=A1.size+B1.size:=hl;obtain⟨x2,hv2,hR2⟩:=ih2 (cs.drop A1.size) (by rw[List.length_drop];omega) fun i hi=>by
  obtain⟨m,y,k⟩:=hf (i+1) (Nat.succ_lt_succ hi);rw[hs,Nat.add_mul,Nat.one_mul,Nat.add_comm]at k;exact⟨m,y,by rw[hs,List.drop_drop];exact k⟩
 exact⟨(x,x2),⟨hv,hv2⟩,cs.take A1.size,cs.drop A1.size,(List.take_append_drop _ _).symm,hR,hR2⟩
theorem qLo{A:Ty}{off:Nat}{f:Field}(ho:f.offset=off)(hs:P.cellsOf f.type=A.size)(ih:Opn enc P w spare held A f.type):qAg enc P w spare held A off [f]:=by
 intro cs hl hf;obtain⟨n,y,k⟩:=hf _ List.mem_cons_self;obtain⟨x,hv,hR⟩:=ih n _ y k;refine⟨x,hv,?_⟩;rw[ho,hs,List.take_of_length_le (by rw[List.length_drop];omega)]at hR
 exact hR
theorem qFg{A1 B1:Ty}{off:Nat}{f:Field}{l:List Field}(ho:f.offset=off)(hs:P.cellsOf f.type=A1.size)(ih:Opn enc P w spare held A1 f.type)(ih2:qAg enc P w spare held B1 (off+A1.size) l):qAg enc P w spare held (.prod A1 B1) off (f::l):=by
 intro cs hl hf;obtain⟨n,y,k⟩:=hf _ List.mem_cons_self;obtain⟨x,hv,hR⟩:=ih n _ y k;obtain⟨x2,hv2,hR2⟩:=ih2 cs (by rw[hl];show off+(A1.size+B1.size)=_;omega) fun f hf'=>hf f (List.mem_cons_of_mem _ hf')
 refine⟨(x,x2),⟨hv,hv2⟩,(cs.drop off).take A1.size,(cs.drop off).drop A1.size,(List.take_append_drop _ _).symm,?_,?_⟩
 ·rw[ho,hs]at hR;exact hR
 ·rw[List.drop_drop];exact hR2
theorem TyF.open{A:Ty}{t:TypeId}(h:TyF P A t):Opn enc P w spare held A t:=
 TyF.rec (motive_1:=fun A t _=>Opn enc P w spare held A t) (motive_2:=fun A e n _=>qAf enc P w spare held A e n) (motive_3:=fun A off l _=>qAg enc P w spare held A off l) (fun h=>qLn h) (fun h=>qLm h) (fun h=>qFf h) (fun h hs hb _ ih=>qFh h hs hb ih) (fun h hs _ ih=>qLl h hs ih) (fun h hs _ ih=>zTc h hs ih) (fun hs _ ih=>qFe hs ih) (fun hs _ _ ih ih2=>zYp hs ih ih2) (fun ho hs _ ih=>qLo ho hs ih) (fun ho hs _ _ ih ih2=>qFg ho hs ih ih2) h
end
section
variable {H:Type}{enc:TypeId×Value→H}{P:Program}{w:World}{spare:Nat→Bool}{held:Bool}
theorem qLj{t:TypeId}{A:Ty}{v:Value}{d:DataW H}{ps:List MemPlace}{r:Reach}{base:Nat}(ht:(∃fs,P.underlying t=some (.struct fs))∨∃n e,P.underlying t=some (.array n e))(hF:TyF P A t)(hok:Value.okWide P w r base t v)(h:DataW.Trod enc P w 0 spare held t v d ps)(hz:w.noneFrozen ps)(hw:∀n∈d.weights P t,n≤140737488351232)(B:Bm):
  ∃x:A.den,bC A x∧Rep B (rd w X0) (.ag (qF .a A x)) v:=by
 have hv:∃cs,v= .agg cs:=by
  rcases ht with⟨fs,ht⟩ | ⟨n,e,ht⟩<;>(simp only[Value.okWide,ht]at hok;obtain⟨cs,h1,_⟩:=hok;exact⟨cs,h1⟩)
 obtain⟨cs,rfl⟩:=hv;obtain⟨n,h⟩:=h;have h:nE enc P w spare held n t _ _:=⟨h,hz,hw⟩;simp only[Value.cells]at h;obtain⟨x,hv,hR⟩:=TyF.open hF n _ _ h;refine⟨x,hv,?_⟩;have:=Rep.mkAg (B:=B) (r:=rd w X0) (jI.reps (g:= .a) A x cs.toList (jI.mono (Le.refl _) (fun _ _=>Bm.In.any) _ _ _ hR));simpa using this
theorem gW{t:TypeId}{k:IntKind}{v:Value}{d:DataW H}{ps:List MemPlace}{r:Reach}{base:Nat}(ht:P.underlying t=some (.int k))(hF:TyF P (.int k) t)(hok:Value.okWide P w r base t v)(h:DataW.Trod enc P w 0 spare held t v d ps)(hz:w.noneFrozen ps)(hw:∀n∈d.weights P t,n≤140737488351232)(B:Bm):
  ∃x:Int,bC (.int k) x∧Rep B (rd w X0) (.v (.int k x)) v:=by
 obtain⟨a,rfl⟩:=Go.WideShapes.okWide_int ht hok;obtain⟨n,h⟩:=h;have h:nE enc P w spare held n t _ _:=⟨h,hz,hw⟩;simp only[Value.cells]at h;obtain⟨x,hv,hR⟩:=TyF.open hF n _ _ h;have hR:[Value.int k a]=[Value.int k x]:=hR;cases hR;exact⟨_,hv,.v rfl⟩
end
end Go.Ev
namespace Go.Proofs.YtjnpoeilfdbaaaaGreatDoor
open Go Go.Gv Go.Ev Go.RowKit IntKind
theorem qUi:KC Tryz.prog 91 (pRR fun a b=>some (opR a b (a.rat+b.rat),opE a b (a.rat+b.rat))) true:=qDo fun w X hX a va ha b vb hb y hy=>by
 obtain⟨_,_,_,_,_,_,rfl,h1,h2⟩:=ha;obtain⟨_,_,_,_,_,_,rfl,h3,h4⟩:=hb;cases hy;exact qZl w X hX a _ _ _ h1 _ _ _ h2 b _ _ _ h3 _ _ _ h4
theorem qKc:KC Tryz.prog 68 (pRR fun a b=>some (opR a b (a.rat*b.rat),opE a b (a.rat*b.rat))) true:=qDo fun w X hX a va ha b vb hb y hy=>by
 obtain⟨_,_,_,_,_,_,rfl,h1,h2⟩:=ha;obtain⟨_,_,_,_,_,_,rfl,h3,h4⟩:=hb;cases hy;exact qZp w X hX a _ _ _ h1 _ _ _ h2 b _ _ _ h3 _ _ _ h4
theorem kDiv:KC Tryz.prog 11 (pRR fun a b=>bif Nat.beq (val b.ln) 0 then none else some (opR a b (a.rat / b.rat),opE a b (a.rat / b.rat))) true:=qDo fun w X hX a va ha b vb hb y hy=>by
 obtain⟨_,_,_,_,_,_,rfl,h1,h2⟩:=ha;obtain⟨_,_,_,_,_,_,rfl,h3,h4⟩:=hb;cases h0:Nat.beq (val b.ln) 0 with
 | true=>simp[h0]at hy
 | false=>
  simp only[h0,cond_false]at hy;cases hy;exact qZn w X hX a _ _ _ h1 _ _ _ h2 b _ _ _ h3 _ _ _ h4 (fun e=>by rw[e]at h0;cases h0)
theorem kCmp:KC Tryz.prog 16 (pRI fun a b=>(vU a b,nO a b)) true:=jBt fun w X hX a va ha b vb hb=>by
 obtain⟨_,_,_,_,_,_,rfl,h1,h2⟩:=ha;obtain⟨_,_,_,_,_,_,rfl,h3,h4⟩:=hb;exact qZm w X hX a _ _ _ h1 _ _ _ h2 b _ _ _ h3 _ _ _ h4
theorem kChk:KC Tryz.prog 32 (pR Raw.chk) true:=kc_r fun w X hX a va ha=>by
 obtain⟨_,_,_,_,_,_,rfl,h1,h2⟩:=ha;exact wD w X hX a _ _ _ h1 _ _ _ h2
theorem zVb:KC Tryz.prog 12 (pI fun n=>Raw.of (n:Rat)) true:=kc_i fun w n h1 h2=>qMb w (old w) (fun k _ h=>h) n h1 h2
theorem kOf:KC Tryz.prog 40 (pII fun n m=>Raw.of (mkRat (sgn (!(decide (n<0)==decide (m<0))) n.natAbs) m.natAbs)) true:=jBs fun w n m h1 h2 h3 h4 h5=>jCn w (old w) (fun k _ h=>h) n m h1 h2 h3 h4 h5
theorem kEq:KC Tryz.prog 13 (pB fun a b=>decide (a=b)) true:=kc_b fun w X hX a va ha b vb hb=>by
 obtain⟨_,_,_,_,_,_,rfl,h1,h2⟩:=ha;obtain⟨_,_,_,_,_,_,rfl,h3,h4⟩:=hb;exact zRl w X hX a _ _ _ h1 _ _ _ h2 b _ _ _ h3 _ _ _ h4
noncomputable def zSv:List (Nat×(List T→Option (T×Bool))):=[(91,kcE (pRR fun a b=>some (opR a b (a.rat+b.rat),opE a b (a.rat+b.rat))) true),(68,kcE (pRR fun a b=>some (opR a b (a.rat*b.rat),opE a b (a.rat*b.rat))) true),(11,kcE (pRR fun a b=>bif Nat.beq (val b.ln) 0 then none else some (opR a b (a.rat / b.rat),opE a b (a.rat / b.rat))) true),(16,kcE (pRI fun a b=>(vU a b,nO a b)) true),(32,kcE (pR Raw.chk) true),(12,kcE (pI fun n=>Raw.of (n:Rat)) true),(40,kcE (pII fun n m=>Raw.of (mkRat (sgn (!(decide (n<0)==decide (m<0))) n.natAbs) m.natAbs)) true),(13,kcE (pB fun a b=>decide (a=b)) true)]
theorem qYd:zL Tryz.prog (zR zSv):=qHf fun g p hm ts tv nw h k=>by
 simp only[zSv,List.mem_cons,List.not_mem_nil,or_false,Prod.mk.injEq]at hm;rcases hm with⟨rfl,rfl⟩ | ⟨rfl,rfl⟩ | ⟨rfl,rfl⟩ | ⟨rfl,rfl⟩ | ⟨rfl,rfl⟩ | ⟨rfl,rfl⟩ | ⟨rfl,rfl⟩ | ⟨rfl,rfl⟩
 ·exact zEj qUi h k
 ·exact zEj qKc h k
 ·exact zEj kDiv h k
 ·exact zEj kCmp h k
 ·exact zEj kChk h k
 ·exact zEj zVb h k
 ·exact zEj kOf h k
 ·exact zEj kEq h k
end Go.Proofs.YtjnpoeilfdbaaaaGreatDoor
namespace Go.Proofs.YtjnpoeilfdbaaaaGreatDoor
open Go Go.RowKit Go.Shelf IntKind
set_option maxRecDepth 100000
set_option maxHeartbeats 1000000
def qNx:Go.Shelf.Ren:=⟨fun | 166=>92 | 240=>135 | 276=>157 | n=>n,fun | 0=>0 | 3=>3 | 4=>4 | 5=>5 | 9=>9 | 20=>20 | 37=>162 | 70=>161 | 72=>164 | 75=>166 | 80=>171 | 164=>243 | n=>n,fun n=>n⟩
theorem qQs:Go.Proofs.Lays.n166 Tryz.prog qNx:={mixed:=by kernel_rfl,f166:=Tryz.func92.trans (congrArg some (by kernel_rfl)),f240:=Tryz.func135.trans (congrArg some (by kernel_rfl)),f276:=Tryz.func157.trans (congrArg some (by kernel_rfl)),t0:=Tryz.underlying0,a0:=Tryz.isAgg0,z0:=Tryz.sizeOf0,v0:=Tryz.zeroValue0,t3:=Tryz.underlying3,a3:=Tryz.isAgg3,z3:=Tryz.sizeOf3,v3:=Tryz.zeroValue3,t4:=Tryz.underlying4,a4:=Tryz.isAgg4,z4:=Tryz.sizeOf4,v4:=Tryz.zeroValue4,t9:=Tryz.underlying9,a9:=Tryz.isAgg9,z9:=Tryz.sizeOf9,v9:=Tryz.zeroValue9,t20:=Tryz.underlying20,a20:=Tryz.isAgg20,z20:=Tryz.sizeOf20,v20:=Tryz.zeroValue20,t37:=Tryz.underlying162,a37:=Tryz.isAgg162,z37:=Tryz.sizeOf162,v37:=Tryz.zeroValue162,t70:=Tryz.underlying161,a70:=Tryz.isAgg161,z70:=Tryz.sizeOf161,v70:=Tryz.zeroValue161,t72:=Tryz.underlying164,a72:=Tryz.isAgg164,z72:=Tryz.sizeOf164,v72:=Tryz.zeroValue164,t75:=Tryz.underlying166,a75:=Tryz.isAgg166,z75:=Tryz.sizeOf166,v75:=Tryz.zeroValue166,t164:=Tryz.underlying243,a164:=Tryz.isAgg243,z164:=Tryz.sizeOf243,v164:=Tryz.zeroValue243}
def qNw:Go.Shelf.Ren:=⟨fun | 167=>94 | 240=>135 | 276=>157 | n=>n,fun | 0=>0 | 3=>3 | 4=>4 | 5=>5 | 9=>9 | 20=>20 | 37=>162 | 70=>161 | 72=>164 | 75=>166 | 80=>171 | 164=>243 | n=>n,fun n=>n⟩
theorem qQq:Go.Proofs.Lays.n167 Tryz.prog qNw:={mixed:=by kernel_rfl,f167:=Tryz.func94.trans (congrArg some (by kernel_rfl)),f240:=Tryz.func135.trans (congrArg some (by kernel_rfl)),f276:=Tryz.func157.trans (congrArg some (by kernel_rfl)),t0:=Tryz.underlying0,a0:=Tryz.isAgg0,z0:=Tryz.sizeOf0,v0:=Tryz.zeroValue0,t4:=Tryz.underlying4,a4:=Tryz.isAgg4,z4:=Tryz.sizeOf4,v4:=Tryz.zeroValue4,t5:=Tryz.underlying5,a5:=Tryz.isAgg5,z5:=Tryz.sizeOf5,v5:=Tryz.zeroValue5,t9:=Tryz.underlying9,a9:=Tryz.isAgg9,z9:=Tryz.sizeOf9,v9:=Tryz.zeroValue9,t20:=Tryz.underlying20,a20:=Tryz.isAgg20,z20:=Tryz.sizeOf20,v20:=Tryz.zeroValue20,t37:=Tryz.underlying162,a37:=Tryz.isAgg162,z37:=Tryz.sizeOf162,v37:=Tryz.zeroValue162,t70:=Tryz.underlying161,a70:=Tryz.isAgg161,z70:=Tryz.sizeOf161,v70:=Tryz.zeroValue161,t72:=Tryz.underlying164,a72:=Tryz.isAgg164,z72:=Tryz.sizeOf164,v72:=Tryz.zeroValue164,t75:=Tryz.underlying166,a75:=Tryz.isAgg166,z75:=Tryz.sizeOf166,v75:=Tryz.zeroValue166,t164:=Tryz.underlying243,a164:=Tryz.isAgg243,z164:=Tryz.sizeOf243,v164:=Tryz.zeroValue243}
def qNy:Go.Shelf.Ren:=⟨fun | 169=>95 | n=>n,fun | 70=>161 | 9=>9 | 0=>0 | 72=>164 | 37=>162 | 127=>218 | 3=>3 | 5=>5 | n=>n,fun n=>n⟩
theorem qQt:Go.Proofs.Lays.n169 Tryz.prog qNy:={mixed:=by kernel_rfl,f169:=Tryz.func95.trans (congrArg some (by kernel_rfl)),t0:=Tryz.underlying0,a0:=Tryz.isAgg0,z0:=Tryz.sizeOf0,v0:=Tryz.zeroValue0,t3:=Tryz.underlying3,a3:=Tryz.isAgg3,z3:=Tryz.sizeOf3,v3:=Tryz.zeroValue3,t9:=Tryz.underlying9,a9:=Tryz.isAgg9,z9:=Tryz.sizeOf9,v9:=Tryz.zeroValue9,t37:=Tryz.underlying162,a37:=Tryz.isAgg162,z37:=Tryz.sizeOf162,v37:=Tryz.zeroValue162,t70:=Tryz.underlying161,a70:=Tryz.isAgg161,z70:=Tryz.sizeOf161,v70:=Tryz.zeroValue161,t72:=Tryz.underlying164,a72:=Tryz.isAgg164,z72:=Tryz.sizeOf164,v72:=Tryz.zeroValue164,t127:=Tryz.underlying218,a127:=Tryz.isAgg218,z127:=Tryz.sizeOf218,v127:=Tryz.zeroValue218}
def jBn:Go.Shelf.Ren:=⟨fun | 171=>93 | 243=>136 | 246=>158 | 283=>169 | 284=>170 | 285=>171 | 286=>172 | 129=>185 | 317=>186 | 318=>187 | 319=>188 | 320=>189 | 337=>195 | 338=>196 | n=>n,fun | 3=>3 | 9=>9 | 2=>2 | 4=>4 | 171=>253 | 0=>0 | 53=>141 | 37=>162 | 5=>5 | 173=>256 | 212=>269 | 51=>143 | 20=>20 | 213=>270 | 46=>181 | 232=>280 | 233=>281 | n=>n,fun | 17=>0 | 18=>1 | 19=>2 | n=>n⟩
theorem qQr:Go.Proofs.LaysM.n171 Tryz.prog jBn:={mixed:=by kernel_rfl,f129:=Tryz.func185.trans (congrArg some (by kernel_rfl)),f171:=Tryz.func93.trans (congrArg some (by kernel_rfl)),f243:=Tryz.func136.trans (congrArg some (by kernel_rfl)),f246:=Tryz.func158.trans (congrArg some (by kernel_rfl)),f283:=Tryz.func169.trans (congrArg some (by kernel_rfl)),f284:=Tryz.func170.trans (congrArg some (by kernel_rfl)),f285:=Tryz.func171.trans (congrArg some (by kernel_rfl)),f286:=Tryz.func172.trans (congrArg some (by kernel_rfl)),f317:=Tryz.func186.trans (congrArg some (by kernel_rfl)),f318:=Tryz.func187.trans (congrArg some (by kernel_rfl)),f319:=Tryz.func188.trans (congrArg some (by kernel_rfl)),f320:=Tryz.func189.trans (congrArg some (by kernel_rfl)),f337:=Tryz.func195.trans (congrArg some (by kernel_rfl)),f338:=Tryz.func196.trans (congrArg some (by kernel_rfl)),t0:=Tryz.underlying0,a0:=Tryz.isAgg0,z0:=Tryz.sizeOf0,v0:=Tryz.zeroValue0,t2:=Tryz.underlying2,a2:=Tryz.isAgg2,z2:=Tryz.sizeOf2,v2:=Tryz.zeroValue2,t3:=Tryz.underlying3,a3:=Tryz.isAgg3,z3:=Tryz.sizeOf3,v3:=Tryz.zeroValue3,t4:=Tryz.underlying4,a4:=Tryz.isAgg4,z4:=Tryz.sizeOf4,v4:=Tryz.zeroValue4,t5:=Tryz.underlying5,a5:=Tryz.isAgg5,z5:=Tryz.sizeOf5,v5:=Tryz.zeroValue5,t9:=Tryz.underlying9,a9:=Tryz.isAgg9,z9:=Tryz.sizeOf9,v9:=Tryz.zeroValue9,t20:=Tryz.underlying20,a20:=Tryz.isAgg20,z20:=Tryz.sizeOf20,v20:=Tryz.zeroValue20,t37:=Tryz.underlying162,a37:=Tryz.isAgg162,z37:=Tryz.sizeOf162,v37:=Tryz.zeroValue162,t46:=Tryz.underlying181,a46:=Tryz.isAgg181,z46:=Tryz.sizeOf181,v46:=Tryz.zeroValue181,t51:=Tryz.underlying143,a51:=Tryz.isAgg143,z51:=Tryz.sizeOf143,v51:=Tryz.zeroValue143,t53:=Tryz.underlying141,a53:=Tryz.isAgg141,z53:=Tryz.sizeOf141,v53:=Tryz.zeroValue141,t171:=Tryz.underlying253,a171:=Tryz.isAgg253,z171:=Tryz.sizeOf253,v171:=Tryz.zeroValue253,t173:=Tryz.underlying256,a173:=Tryz.isAgg256,z173:=Tryz.sizeOf256,v173:=Tryz.zeroValue256,t212:=Tryz.underlying269,a212:=Tryz.isAgg269,z212:=Tryz.sizeOf269,v212:=Tryz.zeroValue269,t213:=Tryz.underlying270,a213:=Tryz.isAgg270,z213:=Tryz.sizeOf270,t232:=Tryz.underlying280,a232:=Tryz.isAgg280,z232:=Tryz.sizeOf280,v232:=Tryz.zeroValue280,t233:=Tryz.underlying281,a233:=Tryz.isAgg281,z233:=Tryz.sizeOf281,v233:=Tryz.zeroValue281,g17:=by kernel_rfl,g18:=by kernel_rfl,g19:=by kernel_rfl,i0:=by kernel_rfl,i2:=by kernel_rfl,i3:=by kernel_rfl,i4:=by kernel_rfl,i5:=by kernel_rfl,i9:=by kernel_rfl,i20:=by kernel_rfl,i37:=by kernel_rfl,i46:=by kernel_rfl,i51:=by kernel_rfl,i53:=by kernel_rfl,i171:=by kernel_rfl,i173:=by kernel_rfl,i212:=by kernel_rfl,i232:=by kernel_rfl,i233:=by kernel_rfl,m17:=by kernel_rfl,m18:=by kernel_rfl,m19:=by kernel_rfl}
theorem bSX:Builder.Extra Tryz.prog qNx:={sizeBuilder:=by kernel_rfl,liesBuilder:=by kernel_rfl,t5:=Tryz.underlying5,a5:=Tryz.isAgg5,z5:=Tryz.sizeOf5,v5:=Tryz.zeroValue5,infoByte:=by kernel_rfl,cellsByte:=by kernel_rfl,sizeByte:=by kernel_rfl,neB5:=by decide}
theorem bBX:Builder.Extra Tryz.prog qNw:={sizeBuilder:=by kernel_rfl,liesBuilder:=by kernel_rfl,t5:=Tryz.underlying5,a5:=Tryz.isAgg5,z5:=Tryz.sizeOf5,v5:=Tryz.zeroValue5,infoByte:=by kernel_rfl,cellsByte:=by kernel_rfl,sizeByte:=by kernel_rfl,neB5:=by decide}
theorem bTX:Builder.Extra Tryz.prog qNy:={sizeBuilder:=by kernel_rfl,liesBuilder:=by kernel_rfl,t5:=Tryz.underlying5,a5:=Tryz.isAgg5,z5:=Tryz.sizeOf5,v5:=Tryz.zeroValue5,infoByte:=by kernel_rfl,cellsByte:=by kernel_rfl,sizeByte:=by kernel_rfl,neB5:=by decide}
theorem zIv(B b:Nat)(bs:List Value)(s:ByteArray)(w:World)(h:Lib.IsBuilder 164 5 B b bs w)(hlen:bs.length+s.size≤140737488355328)(hBw:B≤w.heap.size):
  Calls Tryz.prog 92 #[.pointer (some ⟨b,0,none⟩),.string s] w fun e w'=>e= .returned (.tuple #[.int .i64 s.size,.nilIface])∧(Lib.BuilderAt 164 5 B b (.pointer (some ⟨b,0,none⟩)) (bs++Lib.strCells s) w'∧Below B w w'):=Any.Builder_WriteString qQs bSX B b bs s w h hlen hBw
theorem zRi(B b:Nat)(bs:List Value)(c:Int)(w:World)(h:Lib.IsBuilder 164 5 B b bs w)(hlen:bs.length+1≤140737488355328)(hBw:B≤w.heap.size):
  Calls Tryz.prog 94 #[.pointer (some ⟨b,0,none⟩),.int .u8 c] w fun e w'=>e= .returned .nilIface∧(Lib.BuilderAt 164 5 B b (.pointer (some ⟨b,0,none⟩)) (bs++[.int .u8 c]) w'∧Below B w w'):=Any.Builder_WriteByte qQq bBX B b bs c w h hlen hBw
theorem qHb(B b:Nat)(l:List UInt8)(w:World)(h:Lib.IsBuilder 164 5 B b (Lib.byteCells l) w)(hBw:B≤w.heap.size):
  Calls Tryz.prog 95 #[.pointer (some ⟨b,0,none⟩)] w fun e w'=>e= .returned (.string ⟨l.toArray⟩)∧Below B w w':=Any.Builder_String_any qQt bTX B b l w h hBw
theorem qUf(i:Int)(h0: -9223372036854775808≤i)(h1:i≤9223372036854775807)(w:World)(ht:Lib.TabIs Tryz.prog w "internal/strconv.uint64pow10" .u64 Lib.pow10Tab):Calls Tryz.prog 93 #[.int .i64 i] w fun e w'=>e= .returned (.string ⟨(Lib.itoa i).toArray⟩)∧∃k os,w'=Sort.grow (w.drewN k) os:=Any.strconv_Itoa qQr i h0 h1 w ht
theorem qGi:Tryz.prog.globalNamed "internal/strconv.uint64pow10" =some 0:=by kernel_rfl
theorem qLz{l:List (String×DataW Unit)}{W:World}(h:laidMetH Tryz.prog l W)(hf:l.filter (fun x=>x.1== "internal/strconv.uint64pow10")=[("internal/strconv.uint64pow10",Lib.tabData .u64 Lib.pow10Tab)]):Lib.TabIs Tryz.prog W "internal/strconv.uint64pow10" .u64 Lib.pow10Tab:=by
 have h1:=h.filter fun x=>x.1== "internal/strconv.uint64pow10";rw[hf,MakeChecks.laidMetH_plain _ _ _ (by kernel_rfl)]at h1
 exact Lib.tabIs_of_head (rest:=[]) qGi (by kernel_rfl) Tryz.underlying269 Tryz.underlying181 (by kernel_rfl) (by kernel_rfl) h1
end Go.Proofs.YtjnpoeilfdbaaaaGreatDoor
namespace Go.Proofs.YtjnpoeilfdbaaaaGreatDoor
open Go Go.RowKit IntKind
def qIz:Nat→Nat→List UInt8
 | 0,_=>[]
 | n+1,x=>bif Nat.blt x 10 then[UInt8.ofNat (48+x)]else qIz n (x / 10)++[UInt8.ofNat (48+x % 10)]
theorem zUp:∀{n x:Nat},x<10^n→0<n→qIz n x=Lib.decDigits x
 | 0,_,_,h=>absurd h (by omega)
 | n+1,x,h,_=>by
  rw[Lib.decDigits,qIz];by_cases h1:x<10
  ·have:Nat.blt x 10=true:=by simpa[Nat.blt_eq]using h1
   simp[h1,this]
  ·have:Nat.blt x 10=false:=by
    cases hb:Nat.blt x 10
    ·rfl
    ·rw[Nat.blt_eq]at hb;exact absurd hb h1
   rw[Nat.pow_succ]at h;have hn:0<n:=by
    rcases Nat.eq_zero_or_pos n with rfl | h'
    ·simp at h;omega
    ·exact h'
   rw[zUp (n:=n) (x:=x / 10) (by omega) hn]
   simp[h1,this]
def zXt(x:Nat):List UInt8:=qIz 20 x
theorem zUq{x:Nat}(h:x≤9223372036854775807):Lib.itoa (x:Int)=zXt x:=by
 rw[Lib.itoa_nonneg];exact(zUp (by omega) (by omega)).symm
theorem qCd{x:Nat}(h:x≤9223372036854775807):(zXt x).length≤21:=by
 rw[←zUq h];exact Lib.itoa_length_le _ (by omega) (by omega)
def zDc:List Nat→List UInt8
 | []=>[]
 | x::l=>zXt x++(32::zDc l)
theorem zDd:∀(l:List Nat)(x:Nat),zDc (l++[x])=(zDc l++zXt x)++[32]
 | [],x=>by simp[zDc]
 | y::l,x=>by simp[zDc,zDd l x,List.append_assoc]
theorem qUk{T e:TypeId}{B b:Nat}{bs:List Value}{w:World}(h:Lib.IsBuilder T e B b bs w)(k:Nat)(os:Array Obj):Lib.IsBuilder T e B b bs (Sort.grow (w.drewN k) os):=by
 have q:∀p,Lib.BuilderAt T e B b p bs w→Lib.BuilderAt T e B b p bs (Sort.grow (w.drewN k) os):=fun p h=>by
  have hl:=h.lt;obtain⟨h1,v,h2,h3,h4⟩:=h;exact⟨h1,v,by rw[Lib.heap_grow_old w k os b hl];exact h2,Lib.ownsRow_grow h3 k os,h4⟩
 exact h.elim (fun h=> .inl (q _ h)) fun h=> .inr (q _ h)
set_option maxHeartbeats 4000000 in
set_option maxRecDepth 1000000 in
theorem zPg(b off c:Nat)(l:List Nat)(w:World)(hl:l.length*22≤140737488355328)(hx:∀x∈l,x≤9223372036854775807)(ht:Lib.TabIs Tryz.prog w "internal/strconv.uint64pow10" .u64 Lib.pow10Tab)(hc:∀(k x:Nat),l[k]?=some x→w.cell? ⟨b,off+k,none⟩=some (.int .i64 x)):
  Calls Tryz.prog 54 #[.slice (some ⟨b,off,none⟩) l.length c] w fun e w'=>e= .returned (.string ⟨(zDc l).toArray⟩)∧Below w.heap.size w w':=by
 go_enter Tryz.func54,Tryz.ntmps54
 go_wp2
 go_loopw [8] (fun i wr=>∃k:Nat,k≤l.length∧i= .int .i64 k∧Lib.IsBuilder 164 5 w.heap.size w.heap.size (Lib.byteCells (zDc (l.take k))) wr∧Below w.heap.size w wr∧(zDc (l.take k)).length≤22*k) (fun i _=>l.length-(intOf i).toNat)
 case atStart=>exact⟨0,Nat.zero_le _,rfl,Lib.fresh_isBuilder 164 5 w,(Below.refl _ w).alloc (Nat.le_refl _) _,by simp[zDc]⟩
 case round=>
  obtain⟨k,hk,rfl,hI,hbw,hle⟩:=hrel;have hsz:=hbw.size;by_cases hlt:k<l.length
  ·obtain⟨x,hx1⟩:∃x,l[k]?=some x:=⟨l[k],by simp[hlt]⟩
   have hxl:=hx x (List.mem_of_getElem? hx1);have hcw:=hc k x hx1;have hcx:wr.cell? ⟨b,off+k,none⟩=some (.int .i64 x):=(hbw.cell (p:=⟨b,off+k,none⟩) (World.block_lt_of_cell? _ _ hcw)).trans hcw
   go_wp2_with (go_at_call 93;refine(qUf x (by omega) (by omega) _ (Lib.tabBelow_of_tabIs ht _ hbw)).mono ?_;rintro e w1 ⟨rfl,kk,os,rfl⟩)
   rw[zUq hxl];have hI':=qUk hI kk os;have hbw':=hbw.trans (Lib.below_grow w.heap.size _ hsz kk os);have hsz':=hbw'.size;have hdl:=qCd hxl
   go_wp2_with (go_at_call 92;refine(zIv w.heap.size w.heap.size _ _ _ hI' (by rw[Lib.byteCells_length];show _+(zXt x).toArray.size≤_;simp;omega) hsz').mono ?_)
   rintro e w2 ⟨rfl,h2,b2⟩;have hI2:Lib.IsBuilder 164 5 w.heap.size w.heap.size (Lib.byteCells (zDc (l.take k)++zXt x)) w2:=by
    rw[Lib.byteCells_append];exact Or.inr h2
   have hsz2:w.heap.size≤w2.heap.size:=Nat.le_trans hsz' b2.size
   go_wp2_with (go_at_call 94;refine(zRi w.heap.size w.heap.size _ 32 _ hI2 (by rw[Lib.byteCells_length];simp;omega) hsz2).mono ?_)
   rintro e w3 ⟨rfl,h3,b3⟩
   go_wp2
   go_roundw
   case rel=>
    have ht:l.take (k+1)=l.take k++[x]:=by rw[List.take_add_one,hx1];rfl
    refine⟨k+1,by omega,by go_num,?_,(hbw'.trans b2).trans b3,?_⟩
    ·rw[ht,zDd,Lib.byteCells_append];exact Or.inr h3
    ·rw[ht,zDd];simp only[List.length_append,List.length_cons,List.length_nil];omega
   case measure=>simp[intOf];omega
  ·have:k=l.length:=by omega
   subst this;rw[List.take_length]at hI
   go_wp2_with (go_at_call 95;refine(qHb w.heap.size w.heap.size (zDc l) _ hI hsz).mono ?_)
   rintro e w1 ⟨rfl,b1⟩
   go_wp2
   go_ret
   exact⟨rfl,hbw.trans b1⟩
end Go.Proofs.YtjnpoeilfdbaaaaGreatDoor

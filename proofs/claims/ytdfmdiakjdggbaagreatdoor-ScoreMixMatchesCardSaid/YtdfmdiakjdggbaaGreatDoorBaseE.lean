import Derived.RecoverIn
import Derived.OrdersIn
import Derived.Test.YtdfmdiakjdggbaaGreatDoorBaseA
import Derived.Test.YtdfmdiakjdggbaaGreatDoorBaseB
import Derived.Test.YtdfmdiakjdggbaaGreatDoorBaseC
import Derived.Test.YtdfmdiakjdggbaaGreatDoorBaseD
set_option linter.unusedVariables false
set_option linter.unusedSimpArgs false
set_option linter.unnecessarySimpa false
namespace Go.Ev
open Go Go.Gv Go.RowKit IntKind
def Kn(P:Program)(f:Nat)(az:List T)(H:List TO)(tv:T)(H':List TO):Prop:=
 ∀(E:Nat→Prop)(w0:World)(X:Hid)(F:List Nat)(B:Bm)(w:World)(Y:Hid)(Mo:List (Nat×Obj))(qM:List Value)(R:Ending→World→Prop),
  Wd P E w0 X F H B w Y Mo→zN B (rd w Y) az qM→
  (∀v w' B' Y' Mo',Wd P E w0 X F H' B' w' Y' Mo'→Rep B' (rd w' Y') tv v→BLe B B'→Le (rd w Y) (rd w' Y')→R (.returned v) w')→Calls P f qM.toArray w R
def KnY(P:Program)(l:Nat)(az:List T)(H:List TO)(tv:T)(H':List TO):Prop:=
 ∀(E:Nat→Prop)(w0:World)(X:Hid)(F:List Nat)(B:Bm)(w:World)(Y:Hid)(Mo:List (Nat×Obj))(qM:List Value)(R:Ending→World→Prop)(b C:Nat),
  Wd P E w0 X F H B w Y Mo→zN B (rd w Y) az qM→B l=some (b,C)→
  (∀v w' B' Y' Mo',Wd P E w0 X F H' B' w' Y' Mo'→Rep B' (rd w' Y') tv v→BLe B B'→Le (rd w Y) (rd w' Y')→R (.returned v) w')→YieldAt (FF none) 0 P b qM.toArray w R
def kK(P:Program)(cl:Cl):Prop:=∀f az H tv H',cl f az H=some (tv,H')→Kn P f az H tv H'
def kY(P:Program)(yd:Cl):Prop:=∀l az H tv H',yd l az H=some (tv,H')→KnY P l az H tv H'
section
variable {P:Program}{E:Nat→Prop}{w0:World}{X:Hid}{F:List Nat}{H:List TO}{B B':Bm}{w w':World}{Y Y':Hid}{Mo:List (Nat×Obj)}{o:Oper}{r r':Rd}{n:Nat}{a:Act}{L:List T}{D:List Deferred}{Q:Exit→Act→World→Prop}{K:Act→World→Prop}{cl yd:Cl}{rr:Option Nat}{ops:Array Oper}{rest:List Oper}
theorem tK.mono{H:List TO}{L:List T}{r0 r1:Rd}(h:tK P E w0 X F n D H L B r0 K)(hB:BLe B B')(hr:Le r0 r1):tK P E w0 X F n D H L B' r1 K:=fun a' w' B2 Y' Mo' h1 h2 h3 h4=>h a' w' B2 Y' Mo' h1 h2 (hB.trans h3) (hr.trans h4)
theorem rT{f:Nat}(h:jE P f=true)(vs:Array Value)(w:World):(callFunc f vs).run P w= .ok (.enter f vs) w:=by
 unfold jE at h;cases hf:P.funcs[f]? with
 | none=>simp[hf]at h
 | some fn=>
  simp only[hf]at h;cases hn:fn.name== "runtime.NumGoroutine" with
  | true=>simp[hn]at h
  | false=>
   simp only[hn,cond_false]at h;have hb:fn.body.isNone=false:=by cases hb:fn.body<;>simp_all
   unfold callFunc;simp only[Sem.run_bind,run_program,Result.andThen_ok,Sem.run_pure,hf,hn,hb];rfl
theorem zYb (hF : FrT n a L D B r) {q : Bool} (h : kH ops L o = some q) : Region.wanted o (yielded ops a.tmps) = q := by
  unfold kH at h
  unfold Region.wanted
  cases hg : o.guard with
  | none => simp only [hg, Option.some.injEq] at h; simpa using h
  | some jb =>
    obtain ⟨j, b⟩ := jb
    simp only [hg] at h
    cases hj : ops[j]? with
    | none => simp [hj] at h
    | some p =>
      simp only [hj] at h
      cases hd : p.dst with
      | none => simp [hd] at h
      | some t =>
        simp only [hd] at h
        have hR := hF.reps.getD t
        have hget : ∀ v, a.tmps.toList.getD t undef = v → (∃ u, a.tmps[t]? = some u ∧ u = v) ∨ (a.tmps[t]? = none ∧ undef = v) := fun v hv => by
          rw [List.getD_eq_getElem?_getD] at hv
          cases ht : a.tmps[t]? with
          | none => have : a.tmps.toList[t]? = none := by simpa using ht
                    rw [this] at hv; exact .inr ⟨rfl, hv⟩
          | some u => have : a.tmps.toList[t]? = some u := by simpa using ht
                      rw [this] at hv; exact .inl ⟨u, rfl, hv⟩
        split at h
        · rename_i c e
          rw [e] at hR
          obtain ⟨hv, _⟩ := hR.vI
          rcases hget _ hv with ⟨u, h1, rfl⟩ | ⟨_, h2⟩
          · simp only [yielded, hj, hd, Option.bind_some, h1]
            cases h
            cases c <;> cases b <;> rfl
          · cases h2
        · cases h
        · rename_i e
          rw [e] at hR
          obtain ⟨vs, hv, hl⟩ := hR.tuI
          cases vs with
          | cons x y => exact hl.elim
          | nil =>
            cases h
            rcases hget _ hv with ⟨u, h1, rfl⟩ | ⟨h1, _⟩
            · simp only [yielded, hj, hd, Option.bind_some, h1]
              cases b <;> rfl
            · simp only [yielded, hj, hd, Option.bind_some, h1]
              cases b <;> rfl
        · cases h
theorem zBm(op:Op):yS op=kW op:=by cases op<;>rfl
theorem dI{c:Call}{fx:Operand}{f:Nat}{cap:List Value}(ho:o.op= .call c)(hc:c.callee= .value fx)(hf:a.eval fx= .func (.func f) #[] cap.toArray)(he:jE P f=true)(w:World):
  (execOp a.eval o).run P w= .ok (.enter f ((c.args.toList.map a.eval)++cap).toArray) w:=by
 have hm:c.args.map a.eval++cap.toArray=((c.args.toList.map a.eval)++cap).toArray:=by
  apply Array.ext';simp
 unfold execOp;simp only[ho,resolve,hc,hf,Deferred.ofValue,Sem.run_bind,Sem.run_pure,Result.andThen_ok,invoke];simp only[Array.empty_append,hm];exact rT he _ w
theorem zGi{c:Call}{fx:Operand}{f:Nat}{bs:List Value}(ho:o.op= .call c)(hc:c.callee= .value fx)(hf:a.eval fx= .func (.func f) bs.toArray #[])(he:jE P f=true)(w:World):
  (execOp a.eval o).run P w= .ok (.enter f (bs++(c.args.toList.map a.eval)).toArray) w:=by
 have hm:bs.toArray++c.args.map a.eval++#[]=(bs++(c.args.toList.map a.eval)).toArray:=by
  apply Array.ext';simp
 unfold execOp;simp only[ho,resolve,hc,hf,Deferred.ofValue,Sem.run_bind,Sem.run_pure,Result.andThen_ok,invoke];simp only[hm];exact rT he _ w
theorem zTd{c:Call}{fx:Operand}{b:Nat}(ho:o.op= .call c)(hc:c.callee= .value fx)(hf:a.eval fx= .func (.yield b) #[] #[]){fn:FuncId}{tmps:Array Value}{az body:Code}(w:World)(hy:(Instr.yield b (c.args.toList.map a.eval).toArray).run P w= .ok (.round b fn tmps az body) w):
  (execOp a.eval o).run P w= .ok (.round b fn tmps az body) w:=by
 have hm:c.args.map a.eval=(c.args.toList.map a.eval).toArray:=by
  apply Array.ext';simp
 unfold execOp;simp only[ho,resolve,hc,hf,Deferred.ofValue,Sem.run_bind,Sem.run_pure,Result.andThen_ok,invoke];simp only[Array.empty_append,hm];exact hy
theorem zHe(hcl:kK P cl)(hyd:kY P yd){s':S}(h:opE P cl yd ops o ⟨L,H⟩=some s')(hn:yS o.op=true)(hW:Wd P E w0 X F H B w Y Mo)(hF:FrT n a L D B (rd w Y))
  (hk:tK P E w0 X F n D s'.H s'.L B (rd w Y) K):if Region.wanted o (yielded ops a.tmps)then o.wpIn (FF rr) 0 P a w K Q else(∀f,o.about P w a.eval=some f→(FF rr).fn f)∧K (a.put o.dst undef) w:=by
 unfold opE at h;cases hw:kH ops L o with
 | none=>simp[hw]at h
 | some q=>
  rw[zYb hF hw];have hnd:kW o.op=true:=by rw[←zBm];exact hn
  cases q with
  | false=>
   simp only[hw,Option.some.injEq]at h;subst h;simp only[Bool.false_eq_true,if_false];refine⟨fun f _=>kU rr f,hk _ _ _ _ _ hW (hF.put o.dst ?_) (BLe.refl B) (Le.refl _)⟩;exact Rep.mkTu (vs:=[]) trivial
  | true=>
   simp only[hw]at h;simp only[if_true];unfold gQ at h;cases hp:kT P H (ln H) (evO L) o.op with
   | some z=>
    simp only[hp]at h;exact zIw hnd (qMi hW hF hp h hk)
   | none=>
    simp only[hp]at h;unfold zQo at h;cases he:zCs P H (evO L) o.op with
    | some z=>
     simp only[he]at h;obtain⟨z1,z2⟩:=z;refine zIw hnd ?_;generalize hop:o.op=op at he;unfold zCs at he;split at he
     ·rename_i t xa xv;cases hs:qNq P H t (evO L xa) (evO L xv)with
      | none=>simp[hs]at he
      | some H'=>
       simp only[hs,Option.some.injEq,Prod.mk.injEq]at he;obtain⟨rfl,rfl⟩:=he;unfold zPh at h;simp only at h;cases hd:o.dst with
       | some d=>simp[hd]at h
       | none=>
        simp only[hd,Option.some.injEq]at h;subst h;exact qVk hW hF hop hd hs hk
     ·rename_i t xm xk xv;cases hs:qOb P H t (evO L xm) (evO L xk) (evO L xv)with
      | none=>simp[hs]at he
      | some H'=>
       simp only[hs,Option.some.injEq,Prod.mk.injEq]at he;obtain⟨rfl,rfl⟩:=he;unfold zPh at h;simp only at h;cases hd:o.dst with
       | some d=>simp[hd]at h
       | none=>
        simp only[hd,Option.some.injEq]at h;subst h;exact qVl hW hF hop hd hs hk
     ·rename_i c;split at he
      ·rename_i x y t t' e1 e2 e3;cases ht:Nat.beq t t' with
       | false=>simp[ht]at he
       | true=>
        obtain rfl:=qB ht;simp only[ht,cond_true]at he;cases ha:zSj P H t (evO L x) (evO L y)with
        | none=>simp[ha]at he
        | some vh=>
         obtain⟨tv,H'⟩:=vh;simp only[ha,Option.some.injEq,Prod.mk.injEq]at he;obtain⟨rfl,rfl⟩:=he;simp only[zPh,Option.some.injEq]at h;subst h;exact qFt hW hF hop e1 (Array.ext' (by simpa using e2)) (Array.ext' (by simpa using e3)) ha hk
      ·rename_i x y t t' e1 e2 e3;cases ha:qJu P H t (evO L x) (evO L y)with
       | none=>simp[ha]at he
       | some vh=>
        obtain⟨tv,H'⟩:=vh;simp only[ha,Option.some.injEq,Prod.mk.injEq]at he;obtain⟨rfl,rfl⟩:=he;simp only[zPh,Option.some.injEq]at h;subst h;exact qVj hW hF hop e1 (Array.ext' (by simpa using e2)) (Array.ext' (by simpa using e3)) ha hk
      ·cases he
     ·cases he
    | none=>
     simp only[he]at h;cases hc:opC P cl yd o.dst L H o.op with
     | none=>
      simp only[hc]at h;unfold qFr at h;cases hm:zBl P (evO L) o with
      | none=>simp[hm]at h
      | some t=>
       simp only[hm,Option.some.injEq]at h;subst h;obtain⟨v,hr,hR⟩:=qFb (P:=P) (w:=w) (ρ:=a.eval) (k:=0) hF.rep hm;refine zIw hnd ?_;unfold Oper.wp;rw[hr];exact hk _ _ _ _ _ hW (hF.put o.dst hR) (BLe.refl B) (Le.refl _)
     | some s2=>
      simp only[hc,Option.some.injEq]at h;subst h;generalize hop:o.op=op at hc;unfold opC at hc;split at hc
      ·rename_i c;split at hc
       ·rename_i fx e1;have hfx:=hF.rep fx;have hargs:=zN.map hF.rep c.args.toList;unfold zEd at hc;split at hc
        ·rename_i f cs e2;rw[e2]at hfx;obtain⟨caps,hv,hcs⟩:=hfx.fnI;cases hen:jE P f with
         | false=>simp[hen]at hc
         | true=>
          simp only[hen,cond_true]at hc;cases hr:cl f (c.args.toList.map (evO L)++cs) H with
          | none=>simp[hr,gK]at hc
          | some vh=>
           obtain⟨tv,H'⟩:=vh;simp only[hr,gK,Option.some.injEq]at hc;subst hc;refine zIw hnd ?_;unfold Oper.wp;rw[dI hop e1 hv hen w];refine hcl _ _ _ _ _ hr E w0 X F B w Y Mo _ _ hW (hargs.app hcs) fun v w' B' Y' Mo' h1 h2 h3 h4=>?_;exact hk _ _ _ _ _ h1 ((hF.mono h3 h4).put o.dst h2) h3 h4
        ·rename_i f bs e2;rw[e2]at hfx;obtain⟨vs,hv,hcs⟩:=hfx.fbI;cases hen:jE P f with
         | false=>simp[hen]at hc
         | true=>
          simp only[hen,cond_true]at hc;cases hr:cl f (bs++c.args.toList.map (evO L)) H with
          | none=>simp[hr,gK]at hc
          | some vh=>
           obtain⟨tv,H'⟩:=vh;simp only[hr,gK,Option.some.injEq]at hc;subst hc;refine zIw hnd ?_;unfold Oper.wp;rw[zGi hop e1 hv hen w];refine hcl _ _ _ _ _ hr E w0 X F B w Y Mo _ _ hW (hcs.app hargs) fun v w' B' Y' Mo' h1 h2 h3 h4=>?_;exact hk _ _ _ _ _ h1 ((hF.mono h3 h4).put o.dst h2) h3 h4
        ·rename_i l e2;rw[e2]at hfx;obtain⟨b,C,hv,hB⟩:=hfx.ylI;cases hr:yd l (c.args.toList.map (evO L)) H with
         | none=>simp[hr,gK]at hc
         | some vh=>
          obtain⟨tv,H'⟩:=vh;simp only[hr,gK,Option.some.injEq]at hc;subst hc;obtain⟨fn,tmps,az,body,hrun,hround⟩:=hyd _ _ _ _ _ hr E w0 X F B w Y Mo _ (fun e w1=>∃v,e= .returned v∧K (a.put o.dst v) w1) b C hW hargs hB
           (fun v w' B' Y' Mo' h1 h2 h3 h4=>⟨v,rfl,hk _ _ _ _ _ h1 ((hF.mono h3 h4).put o.dst h2) h3 h4⟩)
          refine⟨fun f _=>kU rr f,?_⟩;show o.uponIn (FF rr) 0 P a _ Q ((o.semAt rr a.eval).run P w);rw[fE rr a.eval o hnd,zTd hop e1 hv w hrun];refine⟨sH rr 0,hround.mono fun e w1 he=>?_⟩;obtain⟨v,rfl,hh⟩:=he;exact hh
        ·cases hc
       ·cases hc
      ·cases hc
theorem sQ(hcl:kK P cl)(hyd:kY P yd){s':S}(h:opE P cl yd ops o ⟨L,H⟩=some s')(hn:yS o.op=true)(hW:Wd P E w0 X F H B w Y Mo)(hF:FrT n a L D B (rd w Y))
  (hk:tK P E w0 X F n D s'.H s'.L B (rd w Y) (wpListIn (FF rr) 0 P ops Q rest)):wpListIn (FF rr) 0 P ops Q (o::rest) a w:=zHe hcl hyd h hn hW hF hk
end
def KnP(P:Program)(k f:Nat)(az:List T)(tv:T)(nw:Bool):Prop:=
 ∀(B:Bm)(w:World)(X:Hid)(qM:List Value)(R:Ending→World→Prop),Iv P w→(∀i,k≤i→B i=none)→(∀b o,X b o→b<w.heap.size)→zN B (rd w X) az qM→
  (∀v w',Upd E0 w w'→Rep B (rd w' (bif nw then old w else X)) tv v→R (.returned v) w')→Calls P f qM.toArray w R
theorem KnP.unN{P:Program}{k f j:Nat}{az:List T}{tv:T}{nw:Bool}(h:KnP P k f (az.map (Ev.unN j)) tv nw):KnP P k f az tv nw:=fun B w X qM R hI hk hX hR hK=>h B w X qM R hI hk hX (hR.unN (fun _ _ h=>h) j) hK
def qI(P:Program)(O:Po):Prop:=∀f az tv nw,O f az=some (tv,nw)→∀k,KnP P k f az tv nw
section
variable {P:Program}{E:Nat→Prop}{w0:World}{X:Hid}{F:List Nat}{H:List TO}{B B':Bm}{w w':World}{Y Y':Hid}{Mo:List (Nat×Obj)}{o:Oper}{r r':Rd}{n:Nat}{a:Act}{L:List T}{D:List Deferred}{Q:Exit→Act→World→Prop}{K:Act→World→Prop}{O:Po}{rn:Rn}
theorem vD{B2:Bm}:∀(k:Nat){t:T}{v:Value},clean k t=true→Rep B r t v→Rep B2 r t v
 | 0,_,_,h,_=>by simp[clean]at h
 | k+1,t,v,h,hR=>by
  have all:∀{cs:List T},cs.all (clean k)=true→∀(j:Nat)(t:T),cs[j]?=some t→clean k t=true:=fun h j t e=>List.all_eq_true.1 h t (List.mem_of_getElem? e);cases hR with
  | u=>simp[clean]at h
  | v hs=>exact .v hs
  | sl hn f h1 g hm=>simp only[clean]at h;exact .sl hn f h1 (fun j t e=>vD k (all h j t e) (g j t e)) hm
  | sl0 hm=>exact .sl0 hm
  | st f h1 g=>simp only[clean]at h;exact .st f h1 fun j t e=>vD k (all h j t e) (g j t e)
  | st0=>exact .st0
  | fp f h1 g=>simp only[clean]at h;exact .fp f h1 fun j t e=>vD k (all h j t e) (g j t e)
  | ag f hl h1 g=>simp only[clean]at h;exact .ag f hl h1 fun j t e=>vD k (all h j t e) (g j t e)
  | tu f hl h1 g=>simp only[clean]at h;exact .tu f hl h1 fun j t e=>vD k (all h j t e) (g j t e)
  | fn f hl h1 g=>simp only[clean]at h;exact .fn f hl h1 fun j t e=>vD k (all h j t e) (g j t e)
  | @ls g _ _ _ h1=>
   simp only[clean]at h;cases g with
   | n=>cases h
   | o=>cases h
   | a=>exact .ls (qA.mono (Le.refl _) (fun b _=>Bm.In.any) _ _ _ h1)
  | _=>simp[clean]at h
theorem dZ{B2:Bm}{f:T→Option T}{r1 r2:Rd}(hf:∀t t' v,f t=some t'→Rep B r1 t v→Rep B2 r2 t' v):∀{ts ts':List T}{vs:List Value},xR f ts=some ts'→zN B r1 ts vs→zN B2 r2 ts' vs
 | [],ts',[],h,_=>by simp only[xR,Option.some.injEq]at h;subst h;trivial
 | t::ts,ts',v::vs,h,hR=>by
  simp only[xR]at h;cases h1:f t with
  | none=>simp[h1]at h
  | some x=>
   cases h2:xR f ts with
   | none=>simp[h1,h2]at h
   | some y=>
    simp only[h1,h2,Option.some.injEq]at h;subst h;exact⟨hf _ _ _ h1 hR.1,dZ hf h2 hR.2⟩
 | [],_,_::_,_,h=>h.elim
 | _::_,_,[],_,h=>h.elim
theorem zQe{f:T→Option T}:∀{ts ts':List T},xR f ts=some ts'→∀{j:Nat}{t':T},ts'[j]?=some t'→∃t,ts[j]?=some t∧f t=some t'
 | [],ts',h,j,t',e=>by simp only[xR,Option.some.injEq]at h;subst h;simp at e
 | t::ts,ts',h,j,t',e=>by
  simp only[xR]at h;cases h1:f t with
  | none=>simp[h1]at h
  | some x=>
   cases h2:xR f ts with
   | none=>simp[h1,h2]at h
   | some y=>
    simp only[h1,h2,Option.some.injEq]at h;subst h;cases j with
    | zero=>simp at e;subst e;exact⟨t,rfl,h1⟩
    | succ j=>simpa using zQe h2 (by simpa using e)
theorem Wd.ownRow(hW:Wd P E w0 X F H B w Y Mo){i b C:Nat}{cs:List T}(hB:B i=some (b,C))(h:sV (nth .gone H i)=some cs):∃(c:Array Value)(e:TypeId),(b,Obj.cells c e (0,0))∈Mo∧zN B (rd w Y) cs (c.toList.take cs.length):=by
 rw[qP,List.getD_eq_getElem?_getD]at h;cases hi:H[i]? with
 | none=>rw[hi]at h;simp[sV]at h
 | some x=>
  rw[hi]at h;cases x with
  | row cs' e=>
   simp only[Option.getD_some,sV,Option.some.injEq]at h;subst h;obtain⟨b',C',ob,g1,g2,g3⟩:=hW.ob i _ hi rfl;rw[hB]at g1;cases g1;cases g3 with
   | @row _ _ c hR=>exact⟨c,e,g2,by rw[hR.length,List.take_length];exact hR⟩
  | gro cs' e=>
   simp only[Option.getD_some,sV,Option.some.injEq]at h;subst h;obtain⟨b',C',ob,g1,g2,g3⟩:=hW.ob i _ hi rfl;rw[hB]at g1;cases g1;cases g3 with
   | @gro _ _ c i0 _ _ _ hR=>exact⟨c,e,g2,hR⟩
  | _=>simp[sV]at h
def Ow(B:Bm)(r:Rd)(w:World)(Z:Nat→Prop)(H:List TO):Prop:=∀(i b C:Nat)(cs:List T),B i=some (b,C)→sV (nth .gone H i)=some cs→∃(c:Array Value)(e:TypeId),w.heap[b]?=some (.cells c e (0,0))∧Z b∧zN B r cs (c.toList.take cs.length)
theorem Wd.ow(hW:Wd P E w0 X F H B w Y Mo):Ow B (rd w Y) w (fun b=>∃ob,(b,ob)∈Mo) H:=fun i b C cs hB h=>by
 obtain⟨c,e,g1,g2⟩:=hW.ownRow hB h;exact⟨c,e,hW.heap g1,⟨_,g1⟩,g2⟩
theorem qA.of_reps{B2:Bm}{g:Tg}{p:Nat→Prop}(hls:∀(A:Ty)(l:List A.den)(v:Value),Rep B r (.ls g A l) v→qA r' p (.list A) l [v]):∀(A:Ty),gN A=true→∀(y:A.den)(us:List Value),zN B r (cellsD g A y) us→qA r' p A y us
 | .lim,h,_,_,_=>by cases h
 | .int _,_,_,[v],h=>by obtain⟨rfl,_⟩:=h.1.vI;rfl
 | .bool,_,_,[v],h=>by obtain⟨rfl,_⟩:=h.1.vI;rfl
 | .str,_,_,[v],h=>by obtain⟨rfl,_⟩:=h.1.vI;rfl
 | .list A,_,l,[v],h=>hls A l v h.1
 | .prod A C,h,y,us,hR=>by
  simp only[gN,Bool.and_eq_true]at h;have hs:=zN.split (ts:=cellsD g A y.1) (us:=cellsD g C y.2) hR;exact⟨_,_,(List.take_append_drop (cellsD g A y.1).length us).symm,qA.of_reps (B2:=B2) hls A h.1 _ _ hs.1,qA.of_reps (B2:=B2) hls C h.2 _ _ hs.2⟩
 | .int _,_,_,[],h=>h.elim
 | .bool,_,_,[],h=>h.elim
 | .str,_,_,[],h=>h.elim
 | .list _,_,_,[],h=>h.elim
 | .int _,_,_,_::_::_,h=>h.2.elim
 | .bool,_,_,_::_::_,h=>h.2.elim
 | .str,_,_,_::_::_,h=>h.2.elim
 | .list _,_,_,_::_::_,h=>h.2.elim
theorem zCw(g:Tg)(A:Ty):∀(l:List A.den)(i:Nat)(y:A.den),l.reverse[i]?=some y→∀(q:Nat)(t:T),(cellsD g A y)[q]?=some t→(flatR g A l)[i*A.size+q]?=some t
 | [],i,y,h,q,t,ht=>by simp at h
 | x::l,i,y,h,q,t,ht=>by
  have hq:q<A.size:=by rw[←jB g A y];exact(List.getElem?_eq_some_iff.1 ht).1
  rw[List.reverse_cons,List.getElem?_append]at h;split at h
  ·rename_i hi;rw[List.length_reverse]at hi;have:=zCw g A l i y h q t ht;rw[flatR,List.getElem?_append_left]
   ·exact this
   ·exact(List.getElem?_eq_some_iff.1 this).1
  ·rename_i hi;rw[List.length_reverse]at hi h;have h0:i-l.length=0:=by
    have:=(List.getElem?_eq_some_iff.1 h).1;simpa using this
   rw[h0]at h;simp at h;subst h;have:i=l.length:=by omega
   subst this;rw[flatR,List.getElem?_append_right (by rw[jV];exact Nat.le_add_right _ _),jV,Nat.add_sub_cancel_left]
   exact ht
theorem qKl{B2:Bm}{Z:Nat→Prop}{nw:Bool}{off m i b C c:Nat}{t:T}(h:zTf nw off m (nth .gone H i)=some t)(hB:B i=some (b,C))(hO:Ow B r w Z H)(ho:∀(b:Nat)(c:Array Value)(e:TypeId),w.heap[b]?=some (.cells c e (0,0))→Z b→∀(j:Nat)(v:Value),c[j]?=some v→r' ⟨b,j,none⟩=some v)
  (hls:∀{g:Tg},(!nw||g.isN)=true→∀(A:Ty)(l:List A.den)(v:Value),Rep B r (.ls g A l) v→qA r' (B2.In .a) (.list A) l [v]) (hc:m≤c) (hm:c≤maxLen):Rep B2 r' t (.slice (some ⟨b,off,none⟩) m c):=by
 unfold zTf at h;split at h
 ·rename_i g A x e hn;cases hz:(Nat.beq off 0&&(gN A&&(!nw||g.isN)))&&Nat.beq m x.length with
  | false=>simp[hz]at h
  | true=>
   simp only[hz,cond_true,Option.some.injEq]at h;subst h;simp only[Bool.and_eq_true]at hz;obtain⟨⟨h0,h1,h2⟩,h3⟩:=hz;obtain rfl:=Nat.eq_of_beq_eq_true h0;obtain rfl:=Nat.eq_of_beq_eq_true h3;obtain⟨cc,e',g1,gz,g3⟩:=hO i b C (flatR g A x) hB (by rw[hn];rfl)
   refine .ls ⟨some ⟨b,0,none⟩,c,by simp,by simpa using hc,hm,.inr ⟨b,0,rfl,Bm.In.any,fun j y hy=>?_⟩⟩
   have hj:j<x.length:=by
    have:=(List.getElem?_eq_some_iff.1 hy).1;simpa using this
   have hlen:x.length*A.size≤cc.toList.length:=by
    have:=g3.length;rw[jV,List.length_take]at this;omega
   have hj1:(j+1)*A.size≤x.length*A.size:=Nat.mul_le_mul_right _ hj;rw[Nat.add_mul,Nat.one_mul]at hj1;have hul:((cc.toList.drop (j*A.size)).take A.size).length=A.size:=by
    rw[List.length_take,List.length_drop];omega
   have hget:∀(q:Nat)(v:Value),((cc.toList.drop (j*A.size)).take A.size)[q]?=some v→q<A.size∧cc.toList[j*A.size+q]?=some v:=fun q v hq=>by
    rw[List.getElem?_take]at hq;split at hq
    ·rename_i hlt;rw[List.getElem?_drop]at hq;exact⟨hlt,hq⟩
    ·cases hq
   refine⟨(cc.toList.drop (j*A.size)).take A.size,hul,?_,fun q v hq=>?_⟩
   ·refine qA.of_reps (B2:=B2) (hls h2) A h1 y _ (zN.of (by rw[jB,hul]) fun q t v ht hv=>?_)
    have h4:=zCw g A x j y hy q t ht;obtain⟨hlt,h5⟩:=hget q v hv;obtain⟨v',h6,h7⟩:=g3.get h4;rw[List.getElem?_take]at h6;split at h6
    ·rw[h5]at h6;cases h6;exact h7
    ·cases h6
   ·obtain⟨_,h5⟩:=hget q v hq;rw[Nat.zero_add];exact ho b cc e' g1 gz _ v (by simpa using h5)
 ·cases h
theorem zLz{B2:Bm}{Z:Nat→Prop}(hO:Ow B r w Z H){nw:Bool}(ho:∀(b:Nat)(c:Array Value)(e:TypeId),w.heap[b]?=some (.cells c e (0,0))→Z b→∀(j:Nat)(v:Value),c[j]?=some v→r' ⟨b,j,none⟩=some v)(hl:nw=false→Le r r')(hN:∀b j v,B.N≤b→r ⟨b,j,none⟩=some v→r' ⟨b,j,none⟩=some v):
  ∀(k:Nat)(t t':T)(v:Value),jL nw H k t=some t'→Rep B r t v→Rep B2 r' t' v
 | 0,t,t',v,h,_=>by simp[jL]at h
 | k+1,t,t',v,h,hR=>by
  have ih:=zLz (B2:=B2) hO ho hl hN k;have far:∀{t:T},nw=false→clean 9 t=true→Rep B r t v→Rep B2 r' t v:=fun hn hc h=>vD 9 hc (h.mono (BLe.refl B) (hl hn));have own:∀{i b C off:Nat}{cs l:List T},B i=some (b,C)→sV (nth .gone H i)=some cs→xR (jL nw H k) (jA cs off)=some l→Cls B2 r' b off l:=fun{i b C off cs l}hB h1 h2=>by
   obtain⟨c,e,g1,gz,g2⟩:=hO _ _ _ _ hB h1;have g3:=dZ ih h2 (g2.drop off);intro j t hj;obtain⟨v,e1,e2⟩:=g3.get hj;refine⟨v,ho b c e g1 gz _ _ ?_,e2⟩;rw[List.getElem?_drop,List.getElem?_take]at e1;split at e1
   ·simpa using e1
   ·cases e1
  cases t with
  | u=>simp[jL]at h
  | om i=>simp[jL]at h
  | fb f cs=>simp[jL]at h
  | yl i=>simp[jL]at h
  | hv A l=>simp[jL]at h
  | v x=>simp only[jL,Option.some.injEq]at h;subst h;obtain⟨rfl,hs⟩:=hR.vI;exact .v hs
  | ls g A l=>
   simp only[jL]at h;cases nw with
   | false=>
    simp only[cond_false,Option.some.injEq]at h;subst h;cases hR with
    | ls hR=>exact .ls (qA.mono (hl rfl) (fun b _=>Bm.In.any) _ _ _ hR)
   | true=>
    cases g with
    | a=>simp[Tg.isN]at h
    | o=>simp[Tg.isN]at h
    | n=>
     simp only[Tg.isN,cond_true,Option.some.injEq]at h;subst h;cases hR with
     | ls hR=>exact .ls (qA.far (fun _=>Bm.In.any) hN _ _ _ (qA.mono (Le.refl _) (fun b h=>h.1 rfl) _ _ _ hR))
  | sl cs m=>
   simp only[jL]at h;cases nw with
   | true=>
    simp only[cond_true]at h;split at h
    ·cases h;obtain⟨ad,c,rfl,_,_⟩:=hR.slI;exact .sl0 hR.slB
    ·cases h
   | false=>
    simp only[cond_false]at h;cases hc:clean 9 (.sl cs m)with
    | false=>simp[hc]at h
    | true=>simp only[hc,cond_true,Option.some.injEq]at h;subst h;exact far rfl hc hR
  | sn cs m=>
   simp only[jL]at h;cases hm:xR (jL nw H k) cs with
   | none=>simp[hm]at h
   | some l=>
    simp only[hm,Option.some.injEq]at h;subst h;cases hR with
    | @sn _ _ b off c hn f h1 g hmx hb=>
     have hc:Cls B2 r' b off l:=fun j t' e=>by
      obtain⟨t,e1,e2⟩:=zQe hm e;exact⟨f j,hN _ _ _ (hb j t e1) (h1 j t e1),ih _ _ _ e2 (g j t e1)⟩
     exact hc.sl hn hmx
    | sn0 hmx=>
     simp only[xR,Option.some.injEq]at hm;subst hm;exact .sl0 hmx
  | st cs m=>
   simp only[jL]at h;cases nw with
   | true=>
    simp only[cond_true]at h;split at h
    ·cases h;obtain⟨ad,rfl,_⟩:=hR.stI;exact .st0
    ·cases h
   | false=>
    simp only[cond_false]at h;cases hc:clean 9 (.st cs m)with
    | false=>simp[hc]at h
    | true=>simp only[hc,cond_true,Option.some.injEq]at h;subst h;exact far rfl hc hR
  | fp cs=>
   simp only[jL]at h;cases nw with
   | true=>simp at h
   | false=>
    simp only[cond_false]at h;cases hc:clean 9 (.fp cs)with
    | false=>simp[hc]at h
    | true=>simp only[hc,cond_true,Option.some.injEq]at h;subst h;exact far rfl hc hR
  | ag cs=>
   simp only[jL]at h;cases hm:xR (jL nw H k) cs with
   | none=>simp[hm]at h
   | some l=>
    simp only[hm,Option.some.injEq]at h;subst h;obtain⟨vs,rfl,g⟩:=hR.agI;exact Rep.mkAg (dZ ih hm g)
  | tu cs=>
   simp only[jL]at h;cases hm:xR (jL nw H k) cs with
   | none=>simp[hm]at h
   | some l=>
    simp only[hm,Option.some.injEq]at h;subst h;obtain⟨vs,rfl,g⟩:=hR.tuI;exact Rep.mkTu (dZ ih hm g)
  | fn f cs=>
   simp only[jL]at h;cases hm:xR (jL nw H k) cs with
   | none=>simp[hm]at h
   | some l=>
    simp only[hm,Option.some.injEq]at h;subst h;obtain⟨vs,rfl,g⟩:=hR.fnI;exact Rep.mkFn (dZ ih hm g)
  | os i off m c=>
   simp only[jL]at h;cases hc:Nat.ble m c&&Nat.ble c 9223372036854775807 with
   | false=>simp[hc]at h
   | true=>
    simp only[hc,cond_true]at h;rw[Bool.and_eq_true,Nat.ble_eq,Nat.ble_eq]at hc;cases h1:sV (nth .gone H i)with
    | none=>simp[h1]at h
    | some cs=>
     cases h2:xR (jL nw H k) (jA cs off)with
     | none=>simp[h1,h2]at h
     | some l=>
      simp only[h1,h2,Option.some.injEq]at h;subst h;obtain⟨b,C,rfl,hB⟩:=hR.osI;exact(own hB h1 h2).sl hc.1 hc.2
  | og i off m=>
   simp only[jL]at h;cases hz:zTf nw off m (nth .gone H i)with
   | some tz=>
    simp only[hz,Option.some.injEq]at h;subst h;have hR2:=hR;obtain⟨b,C,c,rfl,hBi,hcc,_⟩:=hR2.ogI;have hmx:=hR.ogB;refine qKl hz hBi hO ho (fun{g}hg A' l' v' hv=>?_) hcc hmx;cases hv with
    | ls hv=>
     cases nw with
     | false=>exact qA.mono (hl rfl) (fun b _=>Bm.In.any) _ _ _ hv
     | true=>
      cases g with
      | a=>cases hg
      | o=>cases hg
      | n=>exact qA.far (fun _=>Bm.In.any) hN _ _ _ (qA.mono (Le.refl _) (fun b h=>h.1 rfl) _ _ _ hv)
   | none=>
   simp only[hz]at h;cases h1:sV (nth .gone H i)with
   | none=>simp[h1]at h
   | some cs=>
    cases h2:xR (jL nw H k) (jA cs off)with
    | none=>simp[h1,h2]at h
    | some l=>
     simp only[h1,h2,Option.some.injEq]at h;subst h;have hmx:=hR;obtain⟨b,C,c,rfl,hB,hc,_⟩:=hR.ogI;exact(own hB h1 h2).sl hc hmx.ogB
  | op i off=>
   simp only[jL]at h;cases h1:sV (nth .gone H i)with
   | none=>simp[h1]at h
   | some cs=>
    cases h2:xR (jL nw H k) (jA cs off)with
    | none=>simp[h1,h2]at h
    | some l=>
     simp only[h1,h2,Option.some.injEq]at h;subst h;obtain⟨b,C,rfl,hB⟩:=hR.opI;exact(own hB h1 h2).fp
def qFi:Hid:=fun _ _=>False
theorem qHf{po:Po}{k:Nat}{Z:Nat→Prop}(hpo:∀f az tv nw,po f az=some (tv,nw)→KnP P k f az tv nw){f:Nat}{az:List T}{tv:T}(h:poC po H f az=some tv){qM:List Value}{R:Ending→World→Prop}
  (hO:Ow B (rd w Y) w Z H) (hI:Iv P w) (hBN:B.N≤w.heap.size) (hlt:∀b o,Y b o→b<w.heap.size) (hk:∀i,k≤i→B i=none) (hA:zN B (rd w Y) az qM) (hR:∀v w',Upd E0 w w'→Rep B (rd w' Y) tv v→R (.returned v) w'):Calls P f qM.toArray w R:=by
 have nwk:∀{t:T}{v:Value}{w':World},Rep B (rd w' (old w)) t v→Rep B (rd w' (old w)) (mkN 12 t) v:=fun h=>h.mkN (fun b j v e=>Nat.le_trans hBN (Nat.not_lt.1 (yK e))) 12;unfold poC at h;cases hw:zZv az with
 | false=>
  simp only[hw,cond_false]at h;cases hp:po f az with
  | none=>simp[hp]at h
  | some z=>
   obtain⟨t,nw⟩:=z;simp only[hp,Option.some.injEq]at h;subst h;refine hpo _ _ _ _ hp B w Y qM R hI hk hlt hA fun v w' hu hv=>hR v w' hu ?_;cases nw with
   | false=>exact hv
   | true=>exact(nwk hv).mono (BLe.refl B) (Le.new hlt)
 | true=>
  simp only[hw,cond_true]at h;cases hm:xR (jL false H 12) az with
  | none=>simp[hm]at h
  | some az2=>
   simp only[hm]at h;split at h
   ·rename_i t hp;simp only[Option.some.injEq]at h;subst h;have hA':zN B (rd w qFi) az2 qM:=dZ (zLz hO (r':=rd w qFi) (fun b c e hb _ j v hj=>by
     refine vR ?_ (fun h=>h) (frozen_of_row w b _ c e hb);rw[cell_of_row w b _ c e _ hb];exact hj) (fun _=>Le.unhide fun _ _ h=>h.elim) (fun b j v _ e=>vR (qU e) (fun h=>h) (tJ e)) 12) hm hA
    refine hpo _ _ _ _ hp B w qFi qM R hI hk (fun _ _ h=>h.elim) hA' fun v w' hu hv=>hR v w' hu ?_;exact(nwk hv).mono (BLe.refl B) (Le.new hlt)
   ·cases h
theorem dM:∀(k i:Nat)(x:TO),(lL k)[i]?=some x→x= .gone
 | 0,_,_,h=>by simp[lL]at h
 | k+1,0,x,h=>by simp[lL]at h;exact h.symm
 | k+1,i+1,x,h=>dM k i x (by simpa[lL]using h)
theorem zJz:∀k,(lL k).length=k
 | 0=>rfl
 | k+1=>by simp[lL,zJz k]
theorem zCz(hen:kK P (gF P rn)){k f:Nat}{az:List T}{t tv:T}{H1:List TO}{nw:Bool}(he:gF P rn f (az.map (unN 12)) (lL k)=some (t,H1))(hf:jL nw H1 12 t=some tv):KnP P k f az tv nw:=by
 intro B w X qM R hI hk hX hA hR;have hA2:zN ⟨B.f,w.heap.size⟩ (rd w X) (az.map (unN 12)) qM:=zN.unN (B:=B) (B2:=⟨B.f,w.heap.size⟩) (fun _ _ h=>h) 12 hA;have hW:Wd P E0 w X [] (lL k) ⟨B.f,w.heap.size⟩ w X []:=by
  refine⟨St.start hX,fun i o hi hl=>?_,fun i cs hi=>?_,fun i hi=>hk i (by rwa[zJz]at hi),fun i j oi oj p q hi hl=>?_,rfl,fun w' hu=>hI.upd hu⟩
  ·rw[dM _ _ _ hi]at hl;cases hl
  ·have:=dM _ _ _ hi;cases this
  ·rw[dM _ _ _ hi]at hl;cases hl
 refine hen _ _ _ _ _ he E0 w X [] ⟨B.f,w.heap.size⟩ w X [] qM R hW hA2 fun v w' B' Y' Mo' g1 g2 g3 g4=>?_;have see:∀(Z:Hid),(∀b o,Z b o→b<w.heap.size)→∀(b:Nat)(c:Array Value)(e:TypeId),w'.heap[b]?=some (.cells c e (0,0))→(∃ob,(b,ob)∈Mo')→∀(j:Nat)(v:Value),c[j]?=some v→rd w' Z ⟨b,j,none⟩=some v:=fun Z hZ b c e hb hm j v hj=>by
  obtain⟨ob,hm⟩:=hm;have hge:w.heap.size≤b:=by
   rcases(g1.st.own _ (List.mem_append_left _ hm)).2.1 with h | h
   ·exact h
   ·exact h.elim
  refine vR ?_ (fun h=>Nat.not_lt.2 hge (hZ _ _ h)) (frozen_of_row w' b _ c e hb);rw[cell_of_row w' b _ c e _ hb];exact hj
 have hu:Upd E0 w w':=g1.st.upd;cases nw with
 | true=>exact hR v w' hu (zLz g1.ow (see _ fun _ _ h=>h) (fun e=>by cases e) (fun b j v hb e=>vR (qU e) (fun h=>Nat.not_lt.2 (g1.bN▸hb) h) (tJ e)) 12 _ _ _ hf g2)
 | false=>exact hR v w' hu (zLz g1.ow (see _ hX) (fun _=>g1.st.le) (fun b j v _ e=>g1.st.le _ _ e) 12 _ _ _ hf g2)
theorem zGo(hen:kK P (gF P rn)){k f:Nat}{az:List T}{tv:T}{nw:Bool}(h:yV P rn k f az=some (tv,nw)):KnP P k f az tv nw:=by
 unfold yV at h;split at h
 ·rename_i t H1 he;unfold qDf at h;cases h1:jL true H1 12 t with
  | some t'=>
   simp only[h1,Option.some.injEq,Prod.mk.injEq]at h;obtain⟨rfl,rfl⟩:=h;exact zCz hen he h1
  | none=>
   cases h2:jL false H1 12 t with
   | none=>simp[h1,h2]at h
   | some t'=>
    simp only[h1,h2,Option.some.injEq,Prod.mk.injEq]at h;obtain⟨rfl,rfl⟩:=h;exact zCz hen he h2
 ·cases h
end
def QOk(Q:Exit→Act→World→Prop)(B:Bm)(r:Rd)(a:Act)(w:World):Ex→Prop
 | .n=>Q .normal a w
 | .x id=>Q (.exit id) a w
 | .r=>Q .ret a w
 | .p t=>∀v,Rep B r t v→Q (.panic [{v:=v,recovered:=false}]) a w
def lT(P:Program)(E:Nat→Prop)(w0:World)(X:Hid)(F:List Nat)(n:Nat)(D:List Deferred)(q:Bool)(e:Ex)(s:S)(B:Bm)(r:Rd)(Q:Exit→Act→World→Prop):Prop:=
 ∀a' w' B' Y' Mo'(bs:List Nat),(q=true→bs=[])→Wd P E w0 X (bs++F) s.H B' w' Y' Mo'→FrT n a' s.L (bs.map Gv.mark++D) B' (rd w' Y')→BLe B B'→Le r (rd w' Y')→QOk Q B' (rd w' Y') a' w' e
def KnX(P:Program)(f:Nat)(az:List T)(H:List TO)(tv:T)(H':List TO):Prop:=
 ∀(E:Nat→Prop)(w0:World)(X:Hid)(F:List Nat)(B:Bm)(w:World)(Y:Hid)(Mo:List (Nat×Obj))(qM:List Value)(R:Ending→World→Prop),
  Wd P E w0 X F H B w Y Mo→zN B (rd w Y) az qM→
  (∀v w' B' Y' Mo',Wd P E w0 X F H' B' w' Y' Mo'→Rep B' (rd w' Y') tv v→BLe B B'→Le (rd w Y) (rd w' Y')→R (.panicked [{v:=v,recovered:=false}]) w')→Calls P f qM.toArray w R
def qAy(P:Program)(pc:Cl):Prop:=∀f az H tv H',pc f az H=some (tv,H')→KnX P f az H tv H'
def sZ(P:Program)(rn:Rn):Prop:=
 ∀(c:Code)(s:S)(e:Ex)(s':S),rn c s=some (e,s')→∀(E:Nat→Prop)(w0:World)(X:Hid)(F:List Nat)(n:Nat)(a:Act)(D:List Deferred)(B:Bm)(w:World)(Y:Hid)(Mo:List (Nat×Obj))(rr:Option Nat)(Q:Exit→Act→World→Prop),
  (rr=none∨noR c=true)→Wd P E w0 X F s.H B w Y Mo→FrT n a s.L D B (rd w Y)→lT P E w0 X F n D (noR c) e s' B (rd w Y) Q→c.wpIn (FF rr) 0 P Q a w
section
variable {P:Program}{E:Nat→Prop}{w0:World}{X:Hid}{F:List Nat}{H:List TO}{B B':Bm}{w w':World}{Y Y':Hid}{Mo:List (Nat×Obj)}{o:Oper}{r r':Rd}{n:Nat}{a:Act}{L:List T}{D:List Deferred}{Q:Exit→Act→World→Prop}{K:Act→World→Prop}{cl yd pc:Cl}{O:Po}{rr:Option Nat}{ops:Array Oper}{rest:List Oper}{rn:Rn}
theorem zXf(hcl:kK P cl)(hyd:kY P yd):∀(l:List Oper)(s s':S){a:Act}{w:World}{B:Bm}{Y:Hid}{Mo:List (Nat×Obj)}{r0:Rd}{B0:Bm},zQs P cl yd ops l s=some s'→l.all (fun o=>yS o.op)=true→Wd P E w0 X F s.H B w Y Mo→FrT n a s.L D B (rd w Y)→BLe B0 B→Le r0 (rd w Y)→
  tK P E w0 X F n D s'.H s'.L B0 r0 (Q .normal)→wpListIn (FF rr) 0 P ops Q l a w
 | [],s,s',a,w,B,Y,Mo,r0,B0,h,_,hW,hF,hB,hr,hk=>by
  simp only[zQs,Option.some.injEq]at h;subst h;exact hk _ _ _ _ _ hW hF hB hr
 | o::l,⟨L,H⟩,s',a,w,B,Y,Mo,r0,B0,h,hn,hW,hF,hB,hr,hk=>by
  simp only[List.all_cons,Bool.and_eq_true]at hn;simp only[zQs]at h;cases h1:opE P cl yd ops o ⟨L,H⟩with
  | none=>simp[h1]at h
  | some s1=>
   simp only[h1]at h;exact sQ hcl hyd h1 hn.1 hW hF fun a' w' B' Y' Mo' g1 g2 g3 g4=>zXf hcl hyd l s1 s' h hn.2 g1 g2 (hB.trans g3) (hr.trans g4) hk
theorem qDa{x:Operand}{t:TypeId}{k:IntKind}{z:Int}(ho:o.op= .panic x)(hx:a.eval x= .iface t (.int k z))(w:World):(execOp a.eval o).run P w= .halt (.panic (.iface t (.int k z))) w:=by
 unfold execOp;simp only[ho,hx];rfl
theorem qVi(hpc:qAy P pc){e:Ex}{s':S}(h:opP P pc ops o ⟨L,H⟩=some (e,s'))(hn:yS o.op=true)(hW:Wd P E w0 X F H B w Y Mo)(hF:FrT n a L D B (rd w Y))
  (hk:∀a' w' B' Y' Mo',Wd P E w0 X F s'.H B' w' Y' Mo'→FrT n a' s'.L D B' (rd w' Y')→BLe B B'→Le (rd w Y) (rd w' Y')→QOk Q B' (rd w' Y') a' w' e):wpListIn (FF rr) 0 P ops Q (o::rest) a w:=by
 unfold opP at h;have hnd:kW o.op=true:=by rw[←zBm];exact hn
 cases hw:kH ops L o with
 | none=>simp[hw]at h
 | some q=>
  cases q with
  | false=>simp[hw]at h
  | true=>
   simp only[hw]at h;show if Region.wanted o (yielded ops a.tmps)then _ else _
   rw[zYb hF hw];simp only[if_true];refine zIw hnd ?_;cases hp:qVw L o.op with
   | some t=>
    simp only[hp,Option.some.injEq,Prod.mk.injEq]at h;obtain⟨rfl,rfl⟩:=h;generalize hop:o.op=op at hp;unfold qVw at hp;split at hp
    ·rename_i x;split at hp
     ·rename_i t2 k z e2;cases hp;have hx:=hF.rep x;rw[e2]at hx;unfold Oper.wp;rw[qDa hop hx.vI.1 w];exact hk a w B Y Mo hW hF (BLe.refl B) (Le.refl _) _ (.v rfl)
     ·cases hp
    ·cases hp
   | none=>
    simp only[hp]at h;cases hc:qSp P pc ⟨L,H⟩ o.op with
    | none=>simp[hc,qTk]at h
    | some vh=>
     obtain⟨t,H'⟩:=vh;simp only[hc,qTk,Option.some.injEq,Prod.mk.injEq]at h;obtain⟨rfl,rfl⟩:=h;generalize hop:o.op=op at hc;unfold qSp at hc;split at hc
     ·rename_i c;split at hc
      ·rename_i fx e1;have hfx:=hF.rep fx;have hargs:=zN.map hF.rep c.args.toList;split at hc
       ·rename_i f cs e2;have e2:evO L fx= .fn f cs:=e2;rw[e2]at hfx;obtain⟨caps,hv,hcs⟩:=hfx.fnI;cases hen:jE P f with
        | false=>simp[hen]at hc
        | true=>
         simp only[hen,cond_true]at hc;unfold Oper.wp;rw[dI hop e1 hv hen w];refine hpc _ _ _ _ _ hc E w0 X F B w Y Mo _ _ hW (hargs.app hcs) fun v w' B' Y' Mo' h1 h2 h3 h4=>?_;exact hk a w' B' Y' Mo' h1 (hF.mono h3 h4) h3 h4 v h2
       ·rename_i f bs e2;have e2:evO L fx= .fb f bs:=e2;rw[e2]at hfx;obtain⟨vs,hv,hcs⟩:=hfx.fbI;cases hen:jE P f with
        | false=>simp[hen]at hc
        | true=>
         simp only[hen,cond_true]at hc;unfold Oper.wp;rw[zGi hop e1 hv hen w];refine hpc _ _ _ _ _ hc E w0 X F B w Y Mo _ _ hW (hcs.app hargs) fun v w' B' Y' Mo' h1 h2 h3 h4=>?_;exact hk a w' B' Y' Mo' h1 (hF.mono h3 h4) h3 h4 v h2
       ·cases hc
      ·cases hc
     ·cases hc
theorem zXh(hcl:kK P cl)(hyd:kY P yd)(hpc:qAy P pc):∀(l:List Oper)(s s':S){e:Ex}{a:Act}{w:World}{B:Bm}{Y:Hid}{Mo:List (Nat×Obj)}{r0:Rd}{B0:Bm},qGe P cl yd pc ops l s=some (e,s')→l.all (fun o=>yS o.op)=true→Wd P E w0 X F s.H B w Y Mo→FrT n a s.L D B (rd w Y)→BLe B0 B→Le r0 (rd w Y)→
  (∀a' w' B' Y' Mo',Wd P E w0 X F s'.H B' w' Y' Mo'→FrT n a' s'.L D B' (rd w' Y')→BLe B0 B'→Le r0 (rd w' Y')→QOk Q B' (rd w' Y') a' w' e)→wpListIn (FF rr) 0 P ops Q l a w
 | [],s,s',e,a,w,B,Y,Mo,r0,B0,h,_,hW,hF,hB,hr,hk=>by
  simp only[qGe,Option.some.injEq,Prod.mk.injEq]at h;obtain⟨rfl,rfl⟩:=h;exact hk _ _ _ _ _ hW hF hB hr
 | o::l,⟨L,H⟩,s',e,a,w,B,Y,Mo,r0,B0,h,hn,hW,hF,hB,hr,hk=>by
  simp only[List.all_cons,Bool.and_eq_true]at hn;simp only[qGe]at h;cases h1:opE P cl yd ops o ⟨L,H⟩with
  | none=>
   simp only[h1]at h;exact qVi hpc h hn.1 hW hF fun a' w' B' Y' Mo' g1 g2 g3 g4=>hk a' w' B' Y' Mo' g1 g2 (hB.trans g3) (hr.trans g4)
  | some s1=>
   simp only[h1]at h;exact sQ hcl hyd h1 hn.1 hW hF fun a' w' B' Y' Mo' g1 g2 g3 g4=>zXh hcl hyd hpc l s1 s' h hn.2 g1 g2 (hB.trans g3) (hr.trans g4) hk
theorem zTc{c:Call}{fx:Operand}{f:Nat}{cap:List Value}(ho:o.op= .defer c)(hc:c.callee= .value fx)(hargs:c.args.toList=[])(hf:a.eval fx= .func (.func f) #[] cap.toArray)(w:World):
  (execOp a.eval o).run P w= .ok (.defer {target:= .fn (.func f) cap.toArray,args:=#[]}) w:=by
 have ha:c.args=#[]:=Array.ext' (by simpa using hargs)
 unfold execOp;simp only[ho,resolve,hc,hf,Deferred.ofValue,ha,Sem.run_bind,Sem.run_pure,Result.andThen_ok];simp
theorem zXe(hcl:kK P cl)(hyd:kY P yd):∀(l:List Oper)(s s':S){g:T}{a:Act}{w:World}{B:Bm}{Y:Hid}{Mo:List (Nat×Obj)}{r0:Rd}{B0:Bm},zZq P cl yd ops l s=some (g,s')→Wd P E w0 X F s.H B w Y Mo→FrT n a s.L D B (rd w Y)→BLe B0 B→Le r0 (rd w Y)→
  (∀a' w' B' Y' Mo' f cs caps,g= .fn f cs→zN B' (rd w' Y') cs caps→jE P f=true→Wd P E w0 X F s'.H B' w' Y' Mo'→FrT n a' s'.L ({target:= .fn (.func f) caps.toArray,args:=#[]}::D) B' (rd w' Y')→BLe B0 B'→Le r0 (rd w' Y')→Q .normal a' w')→wpListIn (FF none) 0 P ops Q l a w
 | [],s,s',g,a,w,B,Y,Mo,r0,B0,h,_,_,_,_,_=>by simp[zZq]at h
 | o::l,⟨L,H⟩,s',g,a,w,B,Y,Mo,r0,B0,h,hW,hF,hB,hr,hk=>by
  simp only[zZq]at h;cases hnd:yS o.op with
  | true=>
   simp only[hnd,cond_true]at h;cases h1:opE P cl yd ops o ⟨L,H⟩with
   | none=>simp[h1]at h
   | some s1=>
    simp only[h1]at h;exact sQ hcl hyd h1 hnd hW hF fun a' w' B' Y' Mo' g1 g2 g3 g4=>zXe hcl hyd l s1 s' h g1 g2 (hB.trans g3) (hr.trans g4) hk
  | false=>
   simp only[hnd,cond_false]at h;split at h
   ·rename_i c hop hgd hd;split at h
    ·rename_i fx e1 e2;split at h
     ·rename_i f cs e3;cases hen:jE P f with
      | false=>simp[hen]at h
      | true=>
       simp only[hen,cond_true,Option.some.injEq,Prod.mk.injEq]at h;obtain⟨rfl,rfl⟩:=h;have hfx:=hF.rep fx;rw[e3]at hfx;obtain⟨caps,hv,hcs⟩:=hfx.fnI;show if Region.wanted o (yielded ops a.tmps)then _ else _
       have hw:Region.wanted o (yielded ops a.tmps)=true:=by simp[Region.wanted,hgd]
       rw[hw];simp only[if_true];refine⟨fun f _=>kU none f,?_⟩;show o.uponIn (FF none) 0 P a _ Q ((o.semAt none a.eval).run P w);rw[Oper.semAt_none,zTc hop e1 e2 hv w];have hFd:FrT n ({a with defers:={target:= .fn (.func f) caps.toArray,args:=#[]}::a.defers}.put o.dst undef) L ({target:= .fn (.func f) caps.toArray,args:=#[]}::D) B (rd w Y):=by
        rw[hd];exact⟨hF.size,hF.reps,by show _::a.defers=_;rw[hF.defers]⟩
       exact hk _ w B Y Mo f cs caps rfl hcs hen hW hFd hB hr
     ·cases h
    ·cases h
   ·cases h
theorem qNl(hW:Wd P E w0 X F H B w Y Mo){x t:T}{v:Value}{e:TypeId}(h:qNk P H x e=some t)(hR:Rep B (rd w Y) x v):∃u,((do loadVar e (←asAddr v)):Sem Value).run P w= .ok u w∧Rep B (rd w Y) t u:=by
 unfold qNk at h;cases hl:ldT P e with
 | none=>simp[hl]at h
 | some gs=>
  obtain⟨g,s⟩:=gs;cases hf:bV H x with
  | none=>simp[hl,hf]at h
  | some cs=>
   cases ht:jD s cs with
   | none=>simp[hl,hf,ht]at h
   | some us=>
    simp only[hl,hf,ht]at h;cases hg:g||Nat.beq s 1 with
    | false=>simp[hg]at h
    | true=>
     simp only[hg,cond_true,Option.some.injEq]at h;subst h;obtain⟨b,off,vs,rfl,h1,h2,h3⟩:=hW.from hR hf ht;obtain⟨h4,h5⟩:=zFl h1 hg h2;refine⟨_,?_,h4⟩;simp only[asAddr,Sem.run_bind,Sem.run_pure,Result.andThen_ok,sS (by rw[h1];exact hl) h5 h3]
theorem zFr(hW:Wd P E w0 X F H B w Y Mo)(hF:zN B (rd w Y) L a.tmps.toList):∀{rs:List ResultVar}{ts:List T},fA P L H rs=some ts→∃vs,(rs.mapM (zEj a.tmps)).run P w= .ok vs w∧zN B (rd w Y) ts vs
 | [],ts,h=>by simp only[fA,Option.some.injEq]at h;subst h;exact⟨[],rfl,trivial⟩
 | .tmp t::rs,ts,h=>by
  simp only[fA]at h;cases h1:fA P L H rs with
  | none=>simp[h1]at h
  | some us=>
   simp only[h1,Option.some.injEq]at h;subst h;obtain⟨vs,g1,g2⟩:=zFr hW hF h1;refine⟨a.tmps.getD t undef::vs,?_,⟨?_,g2⟩⟩
   ·simp only[List.mapM_cons,Sem.run_bind,Sem.run_pure,Result.andThen_ok,g1,zEj]
   ·have:=hF.getD t;simpa using this
 | .cell t e::rs,ts,h=>by
  simp only[fA]at h;cases h0:qNk P H (nth .u L t) e with
  | none=>simp[h0]at h
  | some x=>
   cases h1:fA P L H rs with
   | none=>simp[h0,h1]at h
   | some us=>
    simp only[h0,h1,Option.some.injEq]at h;subst h;obtain⟨vs,g1,g2⟩:=zFr hW hF h1;have hR:Rep B (rd w Y) (nth .u L t) (a.tmps.getD t undef):=by
     have:=hF.getD t;simpa using this
    obtain⟨u,k1,k2⟩:=qNl hW h0 hR;refine⟨u::vs,?_,⟨k2,g2⟩⟩;simp only[List.mapM_cons,Sem.run_bind,Sem.run_pure,Result.andThen_ok,g1,zEj,k1]
theorem zQz{ts:List T}{vs:List Value}(h:zN B r ts vs):Rep B r (zQy ts) (zBt vs):=by
 match ts,vs,h with
 | [],[],h=>exact Rep.mkTu h
 | [t],[v],h=>exact h.1
 | t::t'::ts,v::w::vs,h=>exact Rep.mkTu h
theorem zNi{fn:Func}{vs:List Value}{tmps:Array Value}(h:(fn.results.toList.mapM (zEj tmps)).run P w= .ok vs w):(results fn tmps).run P w= .ok (zBt vs) w:=by
 have hr:fn.results=fn.results.toList.toArray:=by simp
 rw[zHy,hr];simp only[Sem.run_bind,List.mapM_toArray,Sem.run_map,h,Result.andThen_ok];rcases vs with _ | ⟨v,_ | ⟨u,vs⟩⟩<;>simp[zBt]
theorem wQ{fn:Func}{R:Ending→World→Prop}{tmps:Array Value}{u:FrameMode}(hu:u≠.run){ds:List Deferred}:∀(bs:List Nat){w:World}{B:Bm}{Y:Hid}{Mo:List (Nat×Obj)},Wd P E w0 X (bs++F) H B w Y Mo→
  (∀w',Wd P E w0 X F H B w' Y Mo→Le (rd w Y) (rd w' Y)→LeavesInM (FF none) 0 P fn tmps R ds u w')→LeavesInM (FF none) 0 P fn tmps R (bs.map Gv.mark++ds) u w
 | [],w,B,Y,Mo,hW,k=>k w hW (Le.refl _)
 | b::bs,w,B,Y,Mo,hW,k=>by
  have hp:(Mo++jK (b::bs++F)).Perm ((b,Obj.deferred (some []))::(Mo++jK (bs++F))):=List.perm_middle;have hS:=St.perm hp hW.st;obtain⟨h1,h2⟩:=hS.putObj (o':= .deferred none) 0 rfl;refine⟨hu,.inl ⟨b,_,rfl,run_takeDeferred (hS.get 0 rfl),?_⟩⟩;rw[List.set_cons_zero]at h1;exact wQ hu bs (hW.step h1.tail h2) fun w' g1 g2=>k w' g1 (h2.trans g2)
theorem qEm{fn:Func}{R:Ending→World→Prop}{tmps:Array Value}(bs:List Nat){w:World}{B:Bm}{Y:Hid}{Mo:List (Nat×Obj)}(hW:Wd P E w0 X (bs++F) H B w Y Mo)
  (k:∀w',Wd P E w0 X F H B w' Y Mo→Le (rd w Y) (rd w' Y)→∃v,(results fn tmps).run P w'= .ok v w'∧R (.returned v) w'):LeavesInM (FF none) 0 P fn tmps R (bs.map Gv.mark) .returning w:=by
 have:=wQ (P:=P) (fn:=fn) (R:=R) (tmps:=tmps) (u:= .returning) (ds:=[]) (by simp) bs hW fun w' g1 g2=>by
  obtain⟨v,h1,h2⟩:=k w' g1 g2;exact zBj h1 h2
 simpa using this
theorem zIg:∀(m:Nat)(vs:List Value),vs.length=m→zN B r (us m) vs
 | 0,[],_=>trivial
 | m+1,_::vs,h=>⟨.u,zIg m vs (by simpa using h)⟩
 | 0,_::_,h=>by simp at h
 | _+1,[],h=>by simp at h
theorem zCt(hrn:sZ P rn):kK P (pG P rn):=by
 intro f az H tv H' h E w0 X F B w Y Mo qM R hW hA hk;unfold pG at h;cases hf:P.funcs[f]? with
 | none=>simp[hf]at h
 | some fn=>
  simp only[hf]at h;cases hb:fn.body with
  | none=>simp[hb]at h
  | some c=>
   simp only[hb]at h;cases hl:Nat.ble (ln az) fn.ntmps with
   | false=>simp[hl]at h
   | true=>
    simp only[hl,cond_true]at h;rw[Nat.ble_eq,qN]at hl;have hlen:=hA.length;refine rE.1 (callsIn_of_wp_marks (n:=0) hf hb (kU none f) ?_);have hF:FrT fn.ntmps {tmps:=qM.toArray++Array.replicate (fn.ntmps-qM.toArray.size) undef,defers:=[]} (rest fn.ntmps az) [] B (rd w Y):=by
     refine⟨by simp;omega,?_,rfl⟩
     have:(qM.toArray++Array.replicate (fn.ntmps-qM.toArray.size) undef).toList=qM++List.replicate (fn.ntmps-qM.length) undef:=by simp
     rw[this];refine hA.app (zIg _ _ ?_);rw[qN];simp;omega
    have leave:∀(s:S)(ts:List T),fA P s.L s.H fn.results.toList=some ts→tv=zQy ts→H'=s.H→∀a' w' B' Y' Mo'(bs:List Nat),Wd P E w0 X (bs++F) s.H B' w' Y' Mo'→FrT fn.ntmps a' s.L (bs.map Gv.mark++[]) B' (rd w' Y')→BLe B B'→Le (rd w Y) (rd w' Y')→LeavesInM (FF none) 0 P fn a'.tmps R a'.defers .returning w':=
     fun s ts hr e1 e2 a' w' B' Y' Mo' bs g1 g2 g3 g4=>by
      subst e1;subst e2;rw[g2.defers,List.append_nil];refine qEm bs g1 fun w2 k1 k2=>?_;obtain⟨vs,q1,q2⟩:=zFr (a:=a') k1 (g2.reps.mono (BLe.refl B') k2) hr;exact⟨_,zNi q1,hk _ _ _ _ _ k1 (zQz q2) g3 (g4.trans k2)⟩
    cases hc:rn c ⟨rest fn.ntmps az,H⟩with
    | none=>simp[hc,zRj]at h
    | some es=>
     obtain⟨e,s⟩:=es;cases e with
     | x id=>simp[hc,zRj]at h
     | p t=>simp[hc,zRj]at h
     | n=>
      simp only[hc,zRj]at h;cases hr:fA P s.L s.H fn.results.toList with
      | none=>simp[hr]at h
      | some ts=>
       simp only[hr,Option.some.injEq,Prod.mk.injEq]at h;refine hrn _ _ _ _ hc E w0 X F fn.ntmps _ [] B w Y Mo none _ (.inl rfl) hW hF fun a' w' B' Y' Mo' bs _ g1 g2 g3 g4=>?_;exact leave s ts hr h.1.symm h.2.symm a' w' B' Y' Mo' bs g1 g2 g3 g4
     | r=>
      simp only[hc,zRj]at h;cases hr:fA P s.L s.H fn.results.toList with
      | none=>simp[hr]at h
      | some ts=>
       simp only[hr,Option.some.injEq,Prod.mk.injEq]at h;refine hrn _ _ _ _ hc E w0 X F fn.ntmps _ [] B w Y Mo none _ (.inl rfl) hW hF fun a' w' B' Y' Mo' bs _ g1 g2 g3 g4=>?_;exact leave s ts hr h.1.symm h.2.symm a' w' B' Y' Mo' bs g1 g2 g3 g4
end
section
variable {P:Program}{E:Nat→Prop}{w0:World}{X:Hid}{F:List Nat}{H:List TO}{B B':Bm}{w w':World}{Y Y':Hid}{Mo:List (Nat×Obj)}{o:Oper}{r r':Rd}{n:Nat}{a:Act}{L:List T}{D:List Deferred}{cl yd pc:Cl}{O:Po}{rr:Option Nat}{ops:Array Oper}{rest:List Oper}{rn:Rn}
theorem dH:∀{l m:List Nat},zLx l m=true→l=m
 | [],[],_=>rfl
 | a::l,b::m,h=>by
  simp only[zLx,Bool.and_eq_true]at h;rw[qB h.1,dH h.2]
 | [],_::_,h=>by cases h
 | _::_,[],h=>by cases h
theorem neN{a b:Nat}(h:Nat.beq a b=false):a≠b:=fun e=>by
 subst e;simp at h
theorem zBd{md:Region.Mode}{fuel t:Nat}{listed:Array Bool}{acc:List Nat}{l:List Nat}(h:Region.ready md ops listed=l):Region.linearise.go md ops (fuel+1) t listed acc=match l[t % l.length]? with
  | some i=>Region.linearise.go md ops fuel (t / l.length) (listed.setIfInBounds i true) (i::acc)
  | none=>acc.reverse:=by
 subst h;rfl
theorem qZp(hs:ops.size=4)(h:zXk ops=true)(t:Nat):Region.schedule true ops t=[0,1,2,3]∨Region.schedule true ops t=[1,0,2,3]:=by
 simp only[zXk,Bool.and_eq_true]at h;obtain⟨h1,h2,h3,h4,h5,h6⟩:=h;have h1:=dH h1;have h2:=dH h2;have h3:=dH h3;have h4:=dH h4;have h5:=dH h5;simp only[Region.schedule,Bool.true_or,if_true,Region.linearise,hs];have e0:Array.replicate 4 false=#[false,false,false,false]:=rfl;rw[e0,zBd h1];have fin:∀(t:Nat)(acc:List Nat),Region.linearise.go .any ops 2 t #[true,true,false,false] acc=acc.reverse++[2,3]:=fun t acc=>by
  rw[zBd h4];simp only[List.length_cons,List.length_nil,Nat.zero_add,Nat.mod_one,List.getElem?_cons_zero];have e1:(#[true,true,false,false]:Array Bool).setIfInBounds 2 true=#[true,true,true,false]:=rfl;rw[e1,zBd h5];simp only[List.length_cons,List.length_nil,Nat.zero_add,Nat.mod_one,List.getElem?_cons_zero];simp[Region.linearise.go]
 have hm:t % 2=0∨t % 2=1:=by omega
 rcases hm with hm | hm
 ·left;simp only[List.length_cons,List.length_nil,Nat.zero_add,Nat.reduceAdd,hm,List.getElem?_cons_zero];have e1:(#[false,false,false,false]:Array Bool).setIfInBounds 0 true=#[true,false,false,false]:=rfl;rw[e1,zBd h2];simp only[List.length_cons,List.length_nil,Nat.zero_add,Nat.mod_one,List.getElem?_cons_zero];have e2:(#[true,false,false,false]:Array Bool).setIfInBounds 1 true=#[true,true,false,false]:=rfl;rw[e2,fin];rfl
 ·right;simp only[List.length_cons,List.length_nil,Nat.zero_add,Nat.reduceAdd,hm,List.getElem?_cons_succ,List.getElem?_cons_zero];have e1:(#[false,false,false,false]:Array Bool).setIfInBounds 1 true=#[false,true,false,false]:=rfl;rw[e1,zBd h3];simp only[List.length_cons,List.length_nil,Nat.zero_add,Nat.mod_one,List.getElem?_cons_zero];have e2:(#[false,true,false,false]:Array Bool).setIfInBounds 0 true=#[true,true,false,false]:=rfl;rw[e2,fin];rfl
theorem qFh(h:noG o=true){q:Nat→Option Bool}:Region.wanted o q=true:=by
 unfold noG at h;cases hg:o.guard with
 | none=>simp[Region.wanted,hg]
 | some _=>simp[hg]at h
theorem qDx(h:zPv o=true)(ρ:Operand→Value)(w:World):(execOp ρ o).run P w= .ok .recover w:=by
 unfold zPv at h;split at h
 ·rename_i c hc;split at h
  ·rename_i e1 e2;have ha:c.args=#[]:=Array.ext' (by simpa using e2)
   unfold execOp;simp only[hc,resolve,e1,ha,Sem.run_bind,Sem.run_pure,Result.andThen_ok];rfl
  ·cases h
 ·cases h
def zFv(B:Bm)(r:Rd)(x:T)(v:Value)(u u':FrameMode):Prop:=
 (u= .returning∧u'= .returning∧x= .v .nilIface∧v= .nilIface)∨(∃v',Rep B r x v'∧v=v'∧u= .panicking [{v:=v',recovered:=false}]∧u'= .panicking [{v:=v',recovered:=true}])
theorem zFv.rep{x:T}{v:Value}{u u':FrameMode}(h:zFv B r x v u u'):Rep B r x v:=by
 rcases h with⟨_,_,rfl,rfl⟩ | ⟨v',h1,rfl,_,_⟩
 ·exact .v rfl
 ·exact h1
theorem zFv.settles{x:T}{v:Value}{u u':FrameMode}(h:zFv B r x v u u'):settle u'= .returning:=by
 rcases h with⟨_,rfl,_,_⟩ | ⟨v',_,_,_,rfl⟩<;>rfl
theorem zFv.mono{x:T}{v:Value}{u u':FrameMode}(h:zFv B r x v u u')(hB:BLe B B')(hr:Le r r'):zFv B' r' x v u u':=by
 rcases h with h | ⟨v',h1,h2,h3,h4⟩
 ·exact .inl h
 ·exact .inr ⟨v',h1.mono hB hr,h2,h3,h4⟩
theorem zRt{i:Nat}{rest:List Nat}{b:Frame}{k:List Item}{c0:Frame}{cs:List Frame}{x:T}{v:Value}{u u':FrameMode}(hb:b.kind= .deferred)(hro:b.roundOf=none)(ho:ops[i]?=some o)(hi:zPv o=true)(hg:noG o=true)
  (hu:c0.mode=u) (hM:zFv B r x v u u'):step P (lone (b.atR a (.inRegion ops (i::rest)::k)) (c0::cs) w)= .next (lone (b.atR (a.put o.dst v) (.inRegion ops rest::k)) ({c0 with mode:=u'}::cs) w):=by
 have hw:Region.wanted o (yielded ops a.tmps)=true:=qFh hg;have hgr:=stepGR_op (P:=P) (b:=b) (k:=k) (cs:=c0::cs) (w:=w) (rest:=rest) ho hw;rw[hro,Oper.semAt_none]at hgr;have hfin:∀v,(b.atR a (.inRegion ops (i::rest)::k)).finish v=b.atR (a.put o.dst v) (.inRegion ops rest::k):=by
  intro v;rw[Frame.finish_atR,ho];rfl
 have hk:(b.atR a (.inRegion ops (i::rest)::k)).kind= .deferred:=hb;have htr:=tryRecover_deferred hk (c0::cs);have hr:=qDx (P:=P) hi a.eval w;refine step_lone_go ?_;rw[hgr,←hfin];rcases hM with⟨rfl,rfl,_,rfl⟩ | ⟨v',_,rfl,rfl,rfl⟩
 ·have hrec:recoverD (c0::cs)=none:=by simp[recoverD,hu]
  have hc:({c0 with mode:= .returning}:Frame)=c0:=by cases c0;cases hu;rfl
  rw[hc];simp only[Frame.atR,hro]at htr ⊢;simp[stepG.apply,hr,htr,hrec]
 ·have hrec:recoverD (c0::cs)=some (v,{c0 with mode:= .panicking [{v:=v,recovered:=true}]}::cs):=by simp[recoverD,hu]
  simp only[Frame.atR,hro]at htr ⊢;simp[stepG.apply,hr,htr,hrec]
theorem zRu{i:Nat}{rest:List Nat}{b:Frame}{k:List Item}{cs:List Frame}{v:Value}(hro:b.roundOf=none)(ho:ops[i]?=some o)(hg:noG o=true)(hr:(execOp a.eval o).run P w= .ok (.value v) w):
  step P (lone (b.atR a (.inRegion ops (i::rest)::k)) cs w)= .next (lone (b.atR (a.put o.dst v) (.inRegion ops rest::k)) cs w):=by
 have hw:Region.wanted o (yielded ops a.tmps)=true:=qFh hg;have hgr:=stepGR_op (P:=P) (b:=b) (k:=k) (cs:=cs) (w:=w) (rest:=rest) ho hw;rw[hro,Oper.semAt_none]at hgr;have hfin:∀v,(b.atR a (.inRegion ops (i::rest)::k)).finish v=b.atR (a.put o.dst v) (.inRegion ops rest::k):=by
  intro v;rw[Frame.finish_atR,ho];rfl
 refine step_lone_go ?_;rw[hgr,←hfin];simp[stepG.apply,hr]
theorem zUq{id:Nat}{x:T}{v:Value}{u u':FrameMode}{c0:Frame}{cs:List Frame}{s s':S}(hm:P.follows .mixedOrders=true)(hcl:kK P cl)(hyd:kY P yd)(h:qNi P cl yd ops x s=some s')(hu:c0.mode=u)(hM:zFv B (rd w Y) x v u u')
  (hW:Wd P E w0 X F s.H B w Y Mo) (hF:FrT n a s.L D B (rd w Y)) {Q:Exit→Act→List Frame→World→Prop}
  (hk:∀a' w' B' Y' Mo',Wd P E w0 X F s'.H B' w' Y' Mo'→FrT n a' s'.L D B' (rd w' Y')→BLe B B'→Le (rd w Y) (rd w' Y')→Q .normal a' ({c0 with mode:=u'}::cs) w'):(Code.region id ops true).wpSIn (FF none) 0 P Q a (c0::cs) w:=by
 unfold qNi at h;split at h
 ·rename_i o0 o1 o2 o3 hops;have hops':ops=#[o0,o1,o2,o3]:=Array.ext' (by simpa using hops)
  have hsz:ops.size=4:=by rw[hops'];rfl
  have i0:ops[0]?=some o0:=by rw[hops'];rfl
  have i1:ops[1]?=some o1:=by rw[hops'];rfl
  have i2:ops[2]?=some o2:=by rw[hops'];rfl
  have i3:ops[3]?=some o3:=by rw[hops'];rfl
  cases hc:zPv o0&&(noG o0&&(noG o1&&(zXk ops&&(yS o2.op&&yS o3.op))))with
  | false=>simp[hc]at h
  | true=>
   simp only[hc,cond_true]at h;simp only[Bool.and_eq_true]at hc;obtain⟨c1,c2,c3,c4,c5,c6⟩:=hc;split at h
   ·rename_i d0 d1 t ta e0 e1 e2;cases hd:!Nat.beq d0 d1&&!Nat.beq d0 ta with
    | false=>simp[hd]at h
    | true=>
     simp only[hd,cond_true]at h;simp only[Bool.and_eq_true,Bool.not_eq_true']at hd;have hd:=And.intro (neN hd.1) (neN hd.2);split at h
     ·rename_i z hz;have tail:∀(a2:Act)(w2:World),Wd P E w0 X F s.H B w2 Y Mo→FrT n a2 (Ev.put z (Ev.put x s.L d0) d1) D B (rd w2 Y)→Le (rd w Y) (rd w2 Y)→wpOpsIn (FF none) 0 P ops (fun e a' w'=>Q e a' ({c0 with mode:=u'}::cs) w') [2,3] a2 w2:=fun a2 w2 g1 g2 g3=>by
       simp only[zQs]at h;cases h2:opE P cl yd ops o2 ⟨Ev.put z (Ev.put x s.L d0) d1,s.H⟩with
       | none=>simp[h2]at h
       | some s2=>
        simp only[h2]at h;cases h3:opE P cl yd ops o3 s2 with
        | none=>simp[h3]at h
        | some s3=>
         simp only[h3,Option.some.injEq]at h;subst h;simp only[wpOpsIn,i2,i3];refine zHe hcl hyd h2 c5 g1 g2 fun a3 w3 B3 Y3 Mo3 k1 k2 k3 k4=>zHe hcl hyd (L:=s2.L) (H:=s2.H) h3 c6 k1 k2 fun a4 w4 B4 Y4 Mo4 q1 q2 q3 q4=>?_;exact hk _ _ _ _ _ q1 q2 (k3.trans q3) ((g3.trans k4).trans q4)
      intro b k hb hro hFn hroom;have hup:=Upd.drew w;have hW0:Wd P E w0 X F s.H B w.drew Y Mo:=hW.call hup;have hle:Le (rd w Y) (rd w.drew Y):=hup.le Y;have Z0:FrT n a s.L D B (rd w.drew Y):=hF.mono (BLe.refl B) hle;obtain⟨v1,hr1,hR1⟩:∃v1,(execOp a.eval o1).run P w.drew= .ok (.value v1) w.drew∧Rep B (rd w.drew Y) z v1:=by
       have:=zQw (P:=P) (w:=w.drew) (k:=0) hW0.hp Z0.rep e2 (z:=(z,none)) (by show zBs P s.H t (nth .u s.L ta)=_;exact hz)
       exact this
      have hr1':(execOp (a.put (some d0) v).eval o1).run P w.drew= .ok (.value v1) w.drew:=by
       rw[←hr1];have:(a.put (some d0) v).eval (.tmp ta)=a.eval (.tmp ta):=Act.eval_put fun d hd'=>by
        cases hd';intro e;cases e;exact hd.2 rfl
       unfold execOp;simp only[e2,this]
      have hMv:Rep B (rd w.drew Y) x v:=hM.rep.mono (BLe.refl B) hle;have Z2:FrT n ((a.put (some d0) v).put (some d1) v1) (Ev.put z (Ev.put x s.L d0) d1) D B (rd w.drew Y):=(Z0.put (some d0) hMv).put (some d1) hR1;have hcomm:(a.put (some d1) v1).put (some d0) v=(a.put (some d0) v).put (some d1) v1:=(Act.put_comm a v v1 (fun d hd' e=>by cases hd';cases e;exact hd.1 rfl)).symm
      have hroom0:(FF none).room ((c0::cs).length+1+0):=hroom;have hroom1:(FF none).room (({c0 with mode:=u'}::cs).length+1+0):=hroom
      obtain⟨e,a',w',hq,harr⟩:=wp_opsIn [2,3] _ _ (tail _ _ hW0 Z2 hle) b k ({c0 with mode:=u'}::cs) hro hFn hroom1
      have hs0:=stepR_region_draw (P:=P) (b:=b) (a:=a) (k:=k) (cs:=c0::cs) (w:=w) (ops:=ops) (id:=id);rw[hm]at hs0;refine⟨e,a',{c0 with mode:=u'}::cs,w',rfl,hq,?_⟩
      refine .of_steps (.one (fenced_calm hFn hroom0 rfl) hs0) ?_;rcases qZp hsz c4 (w.tape w.drawn (.order b.fn id))with hsch | hsch
      ·rw[hsch];refine .of_steps (.one (fenced_oper hFn hroom0 i0 fun f _=>kU none f) (zRt hb hro i0 c1 c2 hu hM)) ?_;rw[e0];refine .of_steps (.one (fenced_oper hFn hroom1 i1 fun f _=>kU none f) (zRu hro i1 c3 hr1')) ?_;rw[e1];exact harr
      ·rw[hsch];refine .of_steps (.one (fenced_oper hFn hroom0 i1 fun f _=>kU none f) (zRu hro i1 c3 hr1)) ?_;rw[e1];refine .of_steps (.one (fenced_oper hFn hroom0 i0 fun f _=>kU none f) (zRt hb hro i0 c1 c2 hu hM)) ?_;rw[e0,hcomm];exact harr
     ·cases h
   ·cases h
 ·cases h
theorem qSs{x:T}{v:Value}{u u':FrameMode}{f:Nat}{cs:List T}{caps:List Value}{H':List TO}(hm:P.follows .mixedOrders=true)(hcl:kK P cl)(hyd:kY P yd)(hrn:sZ P rn)(h:zSq P cl yd rn x H (.fn f cs)=some H')(hM:zFv B (rd w Y) x v u u')
  (hW:Wd P E w0 X F H B w Y Mo) (hcs:zN B (rd w Y) cs caps) {R:Ending→FrameMode→World→Prop}
  (hk:∀v w' B' Y' Mo',Wd P E w0 X F H' B' w' Y' Mo'→BLe B B'→Le (rd w Y) (rd w' Y')→R (.returned v) u' w'):CallsDIn (FF none) 0 P f caps.toArray u w R:=by
 simp only[zSq]at h;cases hf:P.funcs[f]? with
 | none=>simp[hf]at h
 | some fn=>
  simp only[hf]at h;split at h
  ·rename_i id ops c hb hres;cases hl:Nat.ble (ln cs) fn.ntmps&&noR c with
   | false=>simp[hl]at h
   | true=>
    simp only[hl,cond_true]at h;simp only[Bool.and_eq_true,Nat.ble_eq,qN]at hl;have hlen:=hcs.length;refine callsDIn_of_wpSIn hf hb (kU none f) fun c0 fs hu=>?_;have hF:FrT fn.ntmps {tmps:=caps.toArray++Array.replicate (fn.ntmps-caps.toArray.size) undef,defers:=[]} (Ev.rest fn.ntmps cs) [] B (rd w Y):=by
     refine⟨by simp;omega,?_,rfl⟩
     have:(caps.toArray++Array.replicate (fn.ntmps-caps.toArray.size) undef).toList=caps++List.replicate (fn.ntmps-caps.length) undef:=by simp
     rw[this];refine hcs.app (zIg _ _ ?_);rw[qN];simp;omega
    cases h1:qNi P cl yd ops x ⟨Ev.rest fn.ntmps cs,H⟩with
    | none=>simp[h1]at h
    | some s1=>
     simp only[h1]at h;refine wpSIn_seq (zUq hm hcl hyd h1 hu hM hW hF fun a1 w1 B1 Y1 Mo1 g1 g2 g3 g4=>?_);show c.wpSIn (FF none) 0 P _ a1 _ w1;have hres':fn.results=#[]:=Array.ext' (by simpa using hres)
     have hrun:∀(tm:Array Value)(w2:World),(results fn tm).run P w2= .ok (zBt []) w2:=fun tm w2=>zNi (by rw[hres];rfl)
     have fin:∀(s2:S)(e:Ex),rn c s1=some (e,s2)→(e= .n∨e= .r)→s2.H=H'→c.wpSIn (FF none) 0 P (bodyPostS P fn c0 fs R) a1 ({c0 with mode:=u'}::fs) w1:=fun s2 e h2 he hH=>by
      refine wpSIn_of_wpIn rfl (hrn _ _ _ _ h2 E w0 X F fn.ntmps a1 [] B1 w1 Y1 Mo1 none _ (.inl rfl) g1 g2 fun a2 w2 B2 Y2 Mo2 bs hbs k1 k2 k3 k4=>?_);have hbs:=hbs hl.2;subst hbs;subst hH;have hd:a2.defers=[]:=k2.defers;have hq:a2.defers=[]∧∃u2,({c0 with mode:=u'}::fs:List Frame)={c0 with mode:=u2}::fs∧∃v,(results fn a2.tmps).run P w2= .ok v w2∧R (.returned v) u2 w2:=
       ⟨hd,u',rfl,_,hrun _ _,hk _ _ _ _ _ k1 (g3.trans k3) (g4.trans k4)⟩
      rcases he with rfl | rfl
      ·exact hq
      ·exact hq
     cases h2:rn c s1 with
     | none=>simp[h2]at h
     | some es=>
      obtain⟨e,s2⟩:=es;cases e with
      | n=>simp only[h2,Option.some.injEq]at h;exact fin s2 _ h2 (.inl rfl) h
      | r=>simp only[h2,Option.some.injEq]at h;exact fin s2 _ h2 (.inr rfl) h
      | x id=>simp[h2]at h
      | p t=>simp[h2]at h
  ·cases h
theorem zYe:kY P (fun _ _ _=>none):=fun l az H tv H' h=>by cases h
theorem zYw(hm:P.follows .mixedOrders=true)(hrn:sZ P rn):kK P (zSz P rn):=by
 intro f az H tv H' h E w0 X F B w Y Mo qM R hW hA hk;unfold zSz at h;cases hf:P.funcs[f]? with
 | none=>simp[hf]at h
 | some fn=>
  simp only[hf]at h;cases hb:fn.body with
  | none=>simp[hb]at h
  | some c=>
   simp only[hb]at h;cases hl:Nat.ble (ln az) fn.ntmps with
   | false=>simp[hl]at h
   | true=>
    simp only[hl,cond_true]at h;rw[Nat.ble_eq,qN]at hl;have hlen:=hA.length;have hcl:=zCt hrn;refine rE.1 (callsIn_of_wp_marks (n:=0) hf hb (kU none f) ?_);have hF:FrT fn.ntmps {tmps:=qM.toArray++Array.replicate (fn.ntmps-qM.toArray.size) undef,defers:=[]} (Ev.rest fn.ntmps az) [] B (rd w Y):=by
     refine⟨by simp;omega,?_,rfl⟩
     have:(qM.toArray++Array.replicate (fn.ntmps-qM.toArray.size) undef).toList=qM++List.replicate (fn.ntmps-qM.length) undef:=by simp
     rw[this];refine hA.app (zIg _ _ ?_);rw[qN];simp;omega
    generalize hs0:(⟨Ev.rest fn.ntmps az,H⟩:S)=s0 at h;unfold defE at h;split at h
    ·rename_i c0 id ops c2;cases h0:rn c0 s0 with
     | none=>simp[h0]at h
     | some es=>
      obtain⟨e0,s1⟩:=es;cases e0 with
      | x id=>simp[h0]at h
      | r=>simp[h0]at h
      | p t=>simp[h0]at h
      | n=>
       simp only[h0]at h;cases h1:zZq P (pG P rn) (fun _ _ _=>none) ops ops.toList s1 with
       | none=>simp[h1]at h
       | some gs=>
        obtain⟨g,s2⟩:=gs;simp only[h1]at h;subst hs0;refine wpIn_seq (hrn _ _ _ _ h0 E w0 X F fn.ntmps _ [] B w Y Mo none _ (.inl rfl) hW hF fun a1 w1 B1 Y1 Mo1 bs1 _ g1 g2 g3 g4=>?_);refine wpIn_seq (wpIn_region_list ?_);refine zXe hcl zYe ops.toList s1 s2 h1 g1 g2 (BLe.refl B1) (Le.refl _) fun a2 w2 B2 Y2 Mo2 f2 cs2 caps hg hcs hen k1 k2 k3 k4=>?_;subst hg;have leave:∀(s3:S)(x:T)(v:Value)(u u':FrameMode)(a3:Act)(w3:World)(B3:Bm)(Y3:Hid)(Mo3:List (Nat×Obj))(bs3:List Nat),u≠.run→zZh P fn s3 (zSq P (pG P rn) (fun _ _ _=>none) rn x s3.H (.fn f2 cs2))=some (tv,H')→zFv B3 (rd w3 Y3) x v u u'→
          Wd P E w0 X (bs3++(bs1++F)) s3.H B3 w3 Y3 Mo3→FrT fn.ntmps a3 s3.L (bs3.map Gv.mark++({target:= .fn (.func f2) caps.toArray,args:=#[]}::(bs1.map Gv.mark++[]))) B3 (rd w3 Y3)→BLe B2 B3→Le (rd w2 Y2) (rd w3 Y3)→LeavesInM (FF none) 0 P fn a3.tmps R a3.defers u w3:=fun s3 x v u u' a3 w3 B3 Y3 Mo3 bs3 hu hlea hM q1 q2 q3 q4=>by
         cases hc:zSq P (pG P rn) (fun _ _ _=>none) rn x s3.H (.fn f2 cs2)with
         | none=>simp[hc,zZh]at hlea
         | some H4=>
          simp only[hc,zZh]at hlea;cases hr:fA P s3.L H4 fn.results.toList with
          | none=>simp[hr]at hlea
          | some ts=>
           simp only[hr,Option.some.injEq,Prod.mk.injEq]at hlea;obtain⟨rfl,rfl⟩:=hlea;rw[q2.defers];refine wQ hu bs3 q1 fun w4 m1 m2=>?_;have hcs4:=hcs.mono q3 (q4.trans m2);refine⟨hu,.inr ⟨sH none 0,.func f2,caps.toArray,f2,caps.toArray,rfl,?_,fun g _=>kU none g,?_⟩⟩
           ·simp only[invoke];simpa using rT hen caps.toArray w4
           ·refine qSs hm hcl zYe hrn hc (hM.mono (BLe.refl B3) m2) m1 hcs4 fun v5 w5 B5 Y5 Mo5 p1 p2 p3=>?_;show LeavesInM (FF none) 0 P fn a3.tmps R (bs1.map Gv.mark++[]) (settle u') w5;rw[hM.settles];refine wQ (by simp) bs1 p1 fun w6 t1 t2=>?_
            have hreps:zN B5 (rd w6 Y5) s3.L a3.tmps.toList:=q2.reps.mono p2 ((m2.trans p3).trans t2);obtain⟨vs,z1,z2⟩:=zFr (a:=a3) t1 hreps hr;refine zBj (zNi z1) (hk _ _ _ _ _ t1 (zQz z2) (((g3.trans k3).trans q3).trans p2) ?_);exact((((g4.trans k4).trans q4).trans m2).trans p3).trans t2
        cases h3:rn c2 s2 with
        | none=>simp[h3,zYt]at h
        | some es=>
         obtain⟨e3,s3⟩:=es;refine hrn _ _ _ _ h3 E w0 X _ fn.ntmps a2 _ B2 w2 Y2 Mo2 none _ (.inl rfl) k1 k2 fun a3 w3 B3 Y3 Mo3 bs3 _ q1 q2 q3 q4=>?_;cases e3 with
         | x id=>simp[h3,zYt]at h
         | n=>
          simp only[h3,zYt]at h;exact leave s3 _ .nilIface .returning .returning a3 w3 B3 Y3 Mo3 bs3 (by simp) h (.inl ⟨rfl,rfl,rfl,rfl⟩) q1 q2 q3 q4
         | r=>
          simp only[h3,zYt]at h;exact leave s3 _ .nilIface .returning .returning a3 w3 B3 Y3 Mo3 bs3 (by simp) h (.inl ⟨rfl,rfl,rfl,rfl⟩) q1 q2 q3 q4
         | p t=>
          simp only[h3,zYt]at h;intro v hv;exact leave s3 t v _ _ a3 w3 B3 Y3 Mo3 bs3 (by simp) h (.inr ⟨v,hv,rfl,rfl,rfl⟩) q1 q2 q3 q4
    ·cases h
theorem gG(hm:P.follows .mixedOrders=true)(hrn:sZ P rn):kK P (gF P rn):=by
 intro f az H tv H' h;unfold gF at h;cases h0:pG P rn f az H with
 | some z=>
  simp only[h0,Option.some.injEq]at h;subst h;exact zCt hrn _ _ _ _ _ h0
 | none=>
  simp only[h0]at h;exact zYw hm hrn _ _ _ _ _ h
theorem zYx(hrn:sZ P rn):qAy P (zTa P rn):=by
 intro f az H tv H' h E w0 X F B w Y Mo qM R hW hA hk;unfold zTa at h;cases hf:P.funcs[f]? with
 | none=>simp[hf]at h
 | some fn=>
  simp only[hf]at h;cases hb:fn.body with
  | none=>simp[hb]at h
  | some c=>
   simp only[hb]at h;cases hl:Nat.ble (ln az) fn.ntmps with
   | false=>simp[hl]at h
   | true=>
    simp only[hl,cond_true]at h;rw[Nat.ble_eq,qN]at hl;have hlen:=hA.length;refine rE.1 (callsIn_of_wp_marks (n:=0) hf hb (kU none f) ?_);have hF:FrT fn.ntmps {tmps:=qM.toArray++Array.replicate (fn.ntmps-qM.toArray.size) undef,defers:=[]} (Ev.rest fn.ntmps az) [] B (rd w Y):=by
     refine⟨by simp;omega,?_,rfl⟩
     have:(qM.toArray++Array.replicate (fn.ntmps-qM.toArray.size) undef).toList=qM++List.replicate (fn.ntmps-qM.length) undef:=by simp
     rw[this];refine hA.app (zIg _ _ ?_);rw[qN];simp;omega
    cases hc:rn c ⟨Ev.rest fn.ntmps az,H⟩with
    | none=>simp[hc,qAb]at h
    | some es=>
     obtain⟨e,s⟩:=es;cases e with
     | n=>simp[hc,qAb]at h
     | x id=>simp[hc,qAb]at h
     | r=>simp[hc,qAb]at h
     | p t=>
      simp only[hc,qAb,Option.some.injEq,Prod.mk.injEq]at h;obtain⟨rfl,rfl⟩:=h;refine hrn _ _ _ _ hc E w0 X F fn.ntmps _ [] B w Y Mo none _ (.inl rfl) hW hF fun a' w' B' Y' Mo' bs _ g1 g2 g3 g4 v hv=>?_;show LeavesInM (FF none) 0 P fn a'.tmps R a'.defers (.panicking _) w';rw[g2.defers];refine wQ (by simp) bs g1 fun w2 k1 k2=>?_
      show R (.panicked _) w2;exact hk v w2 B' Y' Mo' k1 (hv.mono (BLe.refl B') k2) g3 (g4.trans k2)
def qAz(P:Program)(SO:Oo):Prop:=∀H f az tv,SO H f az=some tv→Kn P f az H tv H
theorem tF:qAz P noS:=fun H f az tv h=>by cases h
theorem qBs{SO:Oo}(hm:P.follows .mixedOrders=true)(hS:qAz P SO)(hO:qI P O)(hrn:sZ P rn):kK P (zJh P SO O rn):=by
 intro f az H tv H' h;unfold zJh at h;cases hs:SO H f az with
 | some z=>
  simp only[hs,Option.some.injEq,Prod.mk.injEq]at h;obtain⟨rfl,rfl⟩:=h;exact hS _ _ _ _ hs
 | none=>
 simp only[hs]at h;cases ho:poC O H f az with
 | some z=>
  simp only[ho,Option.some.injEq,Prod.mk.injEq]at h;obtain⟨rfl,rfl⟩:=h;intro E w0 X F B w Y Mo qM R hW hA hk;exact qHf (k:=H.length) (fun f az tv nw h=>hO f az tv nw h _) ho hW.ow hW.ivw hW.bNle hW.st.lt hW.nn hA fun v w' hu hv=>hk v w' B Y Mo (hW.call hu) hv (BLe.refl B) (hu.le Y)
 | none=>simp only[ho]at h;exact gG hm hrn _ _ _ _ _ h
end
section
variable {P:Program}{H:List TO}{k:Nat}{ρ ρ':Operand→T}
theorem zDf{l:List Operand}(h:∀x∈l,ρ x=ρ' x):l.map ρ=l.map ρ':=List.map_congr_left h
theorem zJs{ps:Array (Nat×Operand)}(h:∀x∈(ps.toList.map (·.2)),ρ x=ρ' x):evP ρ ps=evP ρ' ps:=by
 unfold evP;refine List.map_congr_left fun p hp=>?_;rw[h p.2 (List.mem_map.2 ⟨p,hp,rfl⟩)]
theorem lC(op:Op)(h:∀x∈op.operands,ρ x=ρ' x):kT P H k ρ op=kT P H k ρ' op:=by
 cases op with
 | build t ps=>simp only[kT];rw[zJs (fun x hx=>h x (by simpa[Op.operands]using hx))]
 | buildSlice t n ps=>simp only[kT];rw[zJs (fun x hx=>h x (by simpa[Op.operands]using hx))]
 | makeFunc fn first caps=>simp only[kT];rw[zDf (l:=caps.toList) (fun x hx=>h x (by simp[Op.operands];exact .inr (by simpa using hx))),zDf (l:=first.toList) (fun x hx=>h x (by simp[Op.operands];exact .inl (by simpa using hx)))]
 | slice t x lo hi mx=>
  have key:∀σ σ':Operand→T,(∀y∈(Op.slice t x lo hi mx).operands,σ y=σ' y)→pQ P t (σ x) σ lo hi mx=pQ P t (σ' x) σ' lo hi mx:=fun σ σ' h=>by
   have h0:=h x (by simp[Op.operands])
   have h1:∀a,lo=some a→σ a=σ' a:=fun a e=>h a (by simp[Op.operands,e])
   have h2:∀a,hi=some a→σ a=σ' a:=fun a e=>h a (by simp[Op.operands,e])
   have h3:∀a,mx=some a→σ a=σ' a:=fun a e=>h a (by simp[Op.operands,e])
   have o1:∀d,opt σ d lo=opt σ' d lo:=fun d=>by cases lo<;>simp[opt, *]
   have o2:∀d,opt σ d hi=opt σ' d hi:=fun d=>by cases hi<;>simp[opt, *]
   have o3:∀y s l u,wH σ y s l u hi mx=wH σ' y s l u hi mx:=fun y s l u=>by cases mx<;>simp[wH, *]
   simp only[pQ,h0,o1,o2,o3]
  exact key (fun y=>dn (ρ y)) (fun y=>dn (ρ' y)) fun y hy=>congrArg dn (h y hy)
 | call c=>
  simp only[kT,zEi];split
  ·rename_i x t e1 e2 e3;show _=_;simp only[h x (by simp only[Op.operands,Call.operands,Array.mem_append];right;rw[←Array.mem_toList_iff,e2];simp)]
  ·rfl
 | makeMap t q=>cases q<;>simp[kT]
 | _=>simp only[kT]<;>simp_all [Op.operands]
theorem zIa:∀{l:List Operand},(∀x∈l,ρ x=ρ' x)→zRo ρ l=zRo ρ' l
 | [],_=>rfl
 | x::l,h=>by
  simp only[zRo];rw[h x List.mem_cons_self,zIa fun y hy=>h y (List.mem_cons_of_mem _ hy)]
theorem aN(o:Oper)(h:∀x∈o.op.operands,ρ x=ρ' x):zBl P ρ o=zBl P ρ' o:=by
 unfold zBl;rw[zIa (fun x hx=>h x (by simpa using hx))]
 cases hn:zQh o.op with
 | false=>rfl
 | true=>
  rw[execOp_congr o (mU hn) fun x hx=>(by simp only[sAt,h x hx]:sAt ρ x=sAt ρ' x)]
end
section
variable {P:Program}{E:Nat→Prop}{w0:World}{X:Hid}{F:List Nat}{H:List TO}{B B':Bm}{w w':World}{Y Y':Hid}{Mo:List (Nat×Obj)}{o:Oper}{r r':Rd}{n:Nat}{a:Act}{L:List T}{D:List Deferred}{Q:Exit→Act→World→Prop}{K:Act→World→Prop}{po:Po}{ops:Array Oper}{rn:Rn}{cl yd:Cl}{rr:Option Nat}{O:Po}
theorem zKb{H0:List TO}:∀(l:List Oper)(seen:List Nat)(Hn:List TO)(L:List T)(i:Nat)(z:T×Option TO),(tQ P po H0 H ops l seen Hn L)[i]?=some z→
  ∃o,l[i]?=some o∧kV P po H0 H (Hn++qD ((tQ P po H0 H ops l seen Hn L).take i)) (yX l ((tQ P po H0 H ops l seen Hn L).take i) L) ops o=some z
 | [],seen,Hn,L,i,z,h=>by simp[tQ]at h
 | o::l,seen,Hn,L,i,z,h=>by
  simp only[tQ]at h ⊢;cases hs:zNk o seen with
  | true=>simp[hs]at h
  | false=>
  simp only[hs,cond_false]at h ⊢;cases ho:kV P po H0 H Hn L ops o with
  | none=>simp[ho]at h
  | some y=>
   simp only[ho]at h ⊢;cases i with
   | zero=>simp at h;subst h;exact⟨o,rfl,by simpa[qD,yX]using ho⟩
   | succ i=>
    obtain⟨o',h1,h2⟩:=zKb l (zRq o seen) (nxH Hn y.2) (dst o.dst y.1 L) i z (by simpa using h)
    refine⟨o',by simpa using h1,?_⟩
    simp only[List.take_succ_cons,yX];have e:Hn++qD (y::(tQ P po H0 H ops l (zRq o seen) (nxH Hn y.2) (dst o.dst y.1 L)).take i)=nxH Hn y.2++qD ((tQ P po H0 H ops l (zRq o seen) (nxH Hn y.2) (dst o.dst y.1 L)).take i):=by
     obtain⟨t,ob⟩:=y;cases ob<;>simp[qD,nxH]
    rw[e];exact h2
theorem zPs{H0:List TO}:∀(l:List Oper)(seen:List Nat)(Hn:List TO)(L:List T),(tQ P po H0 H ops l seen Hn L).length≤l.length
 | [],_,_,_=>by simp[tQ]
 | o::l,seen,Hn,L=>by
  simp only[tQ];cases zNk o seen with
  | true=>simp
  | false=>
   simp only[cond_false];split
   ·simp;exact zPs l _ _ _
   ·simp
theorem rR(d:Option Nat)(t:T)(L:List T):(dst d t L).length=L.length:=by
 cases d with
 | none=>rfl
 | some d=>simp[dst,jT]
theorem dS:∀(l:List Oper)(rs:List (T×Option TO))(L:List T),(yX l rs L).length=L.length
 | [],_,_=>rfl
 | _::_,[],_=>rfl
 | o::l,z::rs,L=>by rw[yX,dS l rs,rR]
theorem yH{d:Option Nat}{t:T}{L:List T}{x:Nat}(h:d≠some x):nth .u (dst d t L) x=nth .u L x:=by
 cases d with
 | none=>rfl
 | some d=>
  have:d≠x:=fun e=>h (by rw[e])
  simp only[dst,jT,qP,List.getD_eq_getElem?_getD,List.getElem?_set_ne this]
theorem zAy{t:T}{L:List T}{x:Nat}(h:x<L.length):nth .u (dst (some x) t L) x=t:=by
 simp[dst,jT,qP,h]
theorem nL:∀(l:List Oper)(rs:List (T×Option TO))(L:List T)(x:Nat),(∀(j:Nat)(o:Oper),j<rs.length→l[j]?=some o→o.dst≠some x)→nth .u (yX l rs L) x=nth .u L x
 | [],_,_,_,_=>rfl
 | _::_,[],_,_,_=>rfl
 | o::l,z::rs,L,x,h=>by
  rw[yX,nL l rs _ x (fun j o' hj ho=>h (j+1) o' (by simpa using hj) (by simpa using ho)),yH (h 0 o (by simp) rfl)]
theorem dU:∀(l:List Oper)(rs:List (T×Option TO))(L:List T)(x i:Nat)(o:Oper)(z:T×Option TO),x<L.length→l[i]?=some o→rs[i]?=some z→o.dst=some x→(∀(j:Nat)(o':Oper),j≠i→j<rs.length→l[j]?=some o'→o'.dst≠some x)→nth .u (yX l rs L) x=z.1
 | [],_,_,_,i,_,_,_,h,_,_,_=>by simp at h
 | _::_,[],_,_,i,_,_,_,_,h,_,_=>by simp at h
 | o1::l,z1::rs,L,x,0,o,z,hx,ho,hz,hd,h=>by
  simp at ho hz;subst ho;subst hz;rw[yX,nL l rs _ x (fun j o' hj ho=>h (j+1) o' (by simp) (by simpa using hj) (by simpa using ho)),hd,zAy hx]
 | o1::l,z1::rs,L,x,i+1,o,z,hx,ho,hz,hd,h=>by
  rw[yX];exact dU l rs _ x i o z (by rw[rR];exact hx) (by simpa using ho) (by simpa using hz) hd fun j o' hj hl ho'=>h (j+1) o' (by simpa using hj) (by simpa using hl) (by simpa using ho')
theorem fU{t:Nat}:∀{l:List Oper}{i:Nat},wrt t l i=none→∀(j:Nat)(o:Oper),l[j]?=some o→o.dst≠some t
 | [],_,_,j,o,h=>by simp at h
 | o1::l,i,h,j,o,ho=>by
  simp only[wrt]at h;cases hd:o1.dst with
  | none=>
   simp only[hd]at h;cases j with
   | zero=>simp at ho;subst ho;rw[hd];simp
   | succ j=>exact fU h j o (by simpa using ho)
  | some d=>
   simp only[hd]at h;cases hb:Nat.beq d t with
   | true=>simp[hb]at h
   | false=>
    simp only[hb,cond_false]at h;cases j with
    | zero=>simp at ho;subst ho;rw[hd];intro e;cases e;simp at hb
    | succ j=>exact fU h j o (by simpa using ho)
theorem zCi{t:Nat}:∀{l:List Oper}{i q:Nat},wrt t l i=some q→∃(j:Nat)(o:Oper),q=i+j∧l[j]?=some o∧o.dst=some t
 | [],_,_,h=>by simp[wrt]at h
 | o1::l,i,q,h=>by
  simp only[wrt]at h;cases hd:o1.dst with
  | none=>
   simp only[hd]at h;obtain⟨j,o,h1,h2,h3⟩:=zCi h;exact⟨j+1,o,by omega,by simpa using h2,h3⟩
  | some d=>
   simp only[hd]at h;cases hb:Nat.beq d t with
   | true=>
    simp only[hb,cond_true,Option.some.injEq]at h;obtain rfl:=qB hb;exact⟨0,o1,by omega,rfl,hd⟩
   | false=>
    simp only[hb,cond_false]at h;obtain⟨j,o,h1,h2,h3⟩:=zCi h;exact⟨j+1,o,by omega,by simpa using h2,h3⟩
theorem zEp{i:Nat}(h:zUz o i=true):∃e∈o.after,Region.binds .any e=true∧e.on=i:=by
 unfold zUz at h;rw[List.any_eq_true]at h;obtain⟨e,he,hb⟩:=h;simp only[Bool.and_eq_true]at hb;exact⟨e,by simpa using he,hb.1,qB hb.2⟩
theorem kZ{hd:List Oper}:∀{l:List Oper}{i:Nat},zGr ops hd l i=true→∀(j:Nat)(o:Oper),l[j]?=some o→
  (∀x∈o.op.operands.toList,qGc hd o (i+j) x=true)∧qDo ops hd o (i+j)=true∧∀d,o.dst=some d→∀(q:Nat)(o':Oper),j<q→l[q]?=some o'→o'.dst≠some d
 | [],_,_,j,o,h=>by simp at h
 | o1::l,i,h,j,o,ho=>by
  simp only[zGr,Bool.and_eq_true]at h;cases j with
  | zero=>
   simp at ho;subst ho;refine⟨fun x hx=>List.all_eq_true.1 h.1.1 x hx,h.1.2,fun d hd q o' hq ho'=>?_⟩;have h2:=h.2.1;simp only[hd]at h2;cases hw:wrt d l 0 with
   | some y=>simp[hw]at h2
   | none=>
    cases q with
    | zero=>omega
    | succ q=>exact fU hw q o' (by simpa using ho')
  | succ j=>
   obtain⟨g1,g2,g3⟩:=kZ h.2.2 j o (by simpa using ho)
   rw[show i+1+j=i+(j+1)by omega]at g1 g2
   refine⟨g1,g2,fun d hd q o' hq ho'=>?_⟩;cases q with
   | zero=>omega
   | succ q=>exact g3 d hd q o' (by omega) (by simpa using ho')
def zIs(ops:List Oper)(S:Nat→Prop):Prop:=∀(i:Nat)(o:Oper),ops[i]?=some o→S i→∀e∈o.after,Region.binds .any e=true→S e.on
theorem zGx{acc:List Nat}{q:Nat}:∀{es:List Edge},(zGw acc es).testBit q=true→∃e∈es,Region.binds .any e=true∧(e.on=q∨(nth 0 acc e.on).testBit q=true)
 | [],h=>by simp[zGw]at h
 | e::es,h=>by
  unfold zGw at h;cases hb:Region.binds .any e with
  | false=>
   simp only[hb,cond_false]at h;obtain⟨e',h1,h2⟩:=zGx h;exact⟨e',List.mem_cons_of_mem _ h1,h2⟩
  | true=>
   simp only[hb,cond_true]at h;have h:((2^e.on||| nth 0 acc e.on)||| zGw acc es).testBit q=true:=h
   rw[Nat.testBit_or,Nat.testBit_or,Nat.testBit_two_pow]at h;simp only[Bool.or_eq_true,decide_eq_true_eq]at h;rcases h with(h | h) | h
   ·exact⟨e,List.mem_cons_self,hb,.inl h⟩
   ·exact⟨e,List.mem_cons_self,hb,.inr h⟩
   ·obtain⟨e',h1,h2⟩:=zGx h;exact⟨e',List.mem_cons_of_mem _ h1,h2⟩
def qAv(ops:List Oper)(acc:List Nat):Prop:=∀(j k:Nat)(o:Oper),acc[j]?=some k→ops[j]?=some o→∀q,k.testBit q=true→∀S,zIs ops S→(∀e∈o.after,Region.binds .any e=true→S e.on)→S q
theorem zQf{ops:List Oper}:∀(l:List Oper)(acc:List Nat),ops.drop acc.length=l→qAv ops acc→qAv ops (vZ l acc)
 | [],acc,_,h=>h
 | o::l,acc,hd,h=>by
  unfold vZ;have ho:ops[acc.length]?=some o:=by
   have:=congrArg (·[0]?) hd;simpa using this
  refine zQf l _ ?_ ?_
  ·rw[List.length_append,List.length_singleton,←List.drop_drop,hd];rfl
  ·intro j k o' hj ho' q hq S hS hp;rcases Nat.lt_or_ge j acc.length with hlt | hge
   ·rw[List.getElem?_append_left hlt]at hj;exact h j k o' hj ho' q hq S hS hp
   ·have hje:j=acc.length:=by
     have:=(List.getElem?_eq_some_iff.1 hj).1;simp at this;omega
    subst hje;rw[ho]at ho';cases ho';simp at hj;subst hj;obtain⟨e,he,hb,h1⟩:=zGx hq;have hSe:=hp e (by simpa using he) hb
    rcases h1 with rfl | h1
    ·exact hSe
    ·cases hn:acc[e.on]? with
     | none=>rw[qP,List.getD_eq_getElem?_getD,hn]at h1;simp at h1
     | some k2=>
      have h2:nth 0 acc e.on=k2:=by rw[qP,List.getD_eq_getElem?_getD,hn];rfl
      rw[h2]at h1;have hlt:=(List.getElem?_eq_some_iff.1 hn).1;have hol:=(List.getElem?_eq_some_iff.1 ho).1;obtain⟨o2,ho2⟩:∃o2,ops[e.on]?=some o2:=⟨ops[e.on]'(by omega),by simp⟩
      exact h e.on k2 o2 hn ho2 q h1 S hS (hS e.on o2 ho2 hSe)
theorem zDd{m:Nat}{ld vl:List Nat}{o:Oper}{q:Nat}:∀{l:List Oper}{i:Nat},(zBi ops m ld vl o l i).testBit q=true→∃(j:Nat)(p:Oper),q=i+j∧l[j]?=some p∧xG m ld vl q p=true∧bU ops o p=true
 | [],i,h=>by simp[zBi]at h
 | p::l,i,h=>by
  unfold zBi at h;cases hb:xG m ld vl i p&&bU ops o p with
  | false=>
   simp only[hb,cond_false]at h;obtain⟨j,p',h1,h2,h3⟩:=zDd h;exact⟨j+1,p',by omega,by simpa using h2,h3⟩
  | true=>
   simp only[hb,cond_true]at h;have h:(2^i||| zBi ops m ld vl o l (i+1)).testBit q=true:=h
   rw[Nat.testBit_or,Nat.testBit_two_pow]at h;simp only[Bool.or_eq_true,decide_eq_true_eq]at h;rcases h with h | h
   ·simp only[Bool.and_eq_true]at hb;subst h;exact⟨0,p,by omega,rfl,hb.1,hb.2⟩
   ·obtain⟨j,p',h1,h2,h3⟩:=zDd h;exact⟨j+1,p',by omega,by simpa using h2,h3⟩
theorem zLf{m:Nat}{ld vl:List Nat}:∀{hd:List Oper}{l:List Nat}{l2:List Oper}{i:Nat},zAh ops m ld vl hd l l2 i=true→∀(j k:Nat)(o:Oper),l[j]?=some k→l2[j]?=some o→∀q,q<i+j→k.testBit q=true∨∃p,(hd++l2.take j)[q]?=some p∧xG m ld vl q p=true∧bU ops o p=true
 | _,[],_,_,_,j,k,o,h,_=>by simp at h
 | _,_::_,[],_,_,j,k,o,_,h=>by simp at h
 | hd,k1::l,o1::l2,i,h,j,k,o,hk,ho=>by
  simp only[zAh,Bool.and_eq_true]at h;cases j with
  | zero=>
   simp at ho hk;subst ho;subst hk;intro q hq;have hq:q<i:=by simpa using hq
   have h1:=h.1;cases hb:Nat.beq k1 (Nat.sub (Nat.pow 2 i) 1)with
   | true=>
    have e:k1=2^i-1:=qB hb;left;rw[e,Nat.testBit_two_pow_sub_one];simpa using hq
   | false=>
    simp only[hb,cond_false]at h1;have e:k1||| zBi ops m ld vl o1 hd 0=2^i-1:=qB h1
    have:(k1||| zBi ops m ld vl o1 hd 0).testBit q=true:=by rw[e,Nat.testBit_two_pow_sub_one];simpa using hq
    rw[Nat.testBit_or,Bool.or_eq_true]at this;rcases this with h2 | h2
    ·exact .inl h2
    ·obtain⟨j,p,h3,h4⟩:=zDd h2;obtain rfl:q=j:=by omega
     exact .inr ⟨p,by simpa using h4.1,h4.2⟩
  | succ j=>
   rw[show i+(j+1)=i+1+j by omega]
   intro q hq;have:=zLf h.2 j k o (by simpa using hk) (by simpa using ho) q hq
   simpa using this
theorem zKn:∀(l:List Oper)(acc:List Nat),(vZ l acc).length=acc.length+l.length
 | [],acc=>rfl
 | o::l,acc=>by unfold vZ;rw[zKn l,List.length_append,List.length_singleton,List.length_cons];omega
theorem zNq{ld vl:List Nat}{l:List Oper}{m:Nat}(h:zAh ops m ld vl (l.take m) ((vZ l []).drop m) (l.drop m) m=true)(j:Nat)(o:Oper)(hm:m≤j)(ho:l[j]?=some o)(q:Nat)(hq:q<j):
  (∀S:Nat→Prop,zIs l S→(∀e∈o.after,Region.binds .any e=true→S e.on)→S q)∨∃p,l[q]?=some p∧xG m ld vl q p=true∧bU ops o p=true:=by
 have hjl:=(List.getElem?_eq_some_iff.1 ho).1;have hl:j<(vZ l []).length:=by rw[zKn];simpa using hjl
 rcases zLf h (j-m) ((vZ l [])[j]) o (by rw[List.getElem?_drop,show m+(j-m)=j by omega];simp[hl]) (by rw[List.getElem?_drop,show m+(j-m)=j by omega];exact ho) q (by omega)with h1 | ⟨p,h1,h2⟩
 ·exact .inl fun S hS hp=>zQf l [] (by simp) (fun j k o h=>by simp at h) j ((vZ l [])[j]) o (by simp[hl]) ho q h1 S hS hp
 ·rw[←List.take_add,List.getElem?_take]at h1;split at h1
  ·exact .inr ⟨p,h1,h2⟩
  ·cases h1
theorem zOk{o:Oper}:∀{l:List Oper},qBf o l=true→∀p∈l,(jP p||bF p)=true→wfr o p=true
 | [],_,p,hp,_=>by cases hp
 | q::l,h,p,hp,hl=>by
  simp only[qBf,Bool.and_eq_true]at h;rcases List.mem_cons.1 hp with rfl | hp
  ·have:=h.1;rwa[hl,cond_true]at this
  ·exact zOk h.2 p hp hl
theorem qIl:∀{l pre:List Oper}{j q:Nat},inN q (vlE pre l j)=true→∃(k:Nat)(o:Oper),q=j+k∧l[k]?=some o∧jP o=true∧slf o=true∧∀p∈pre++l.take k,(jP p||bF p)=true→wfr o p=true
 | [],pre,j,q,h=>by cases h
 | o::l,pre,j,q,h=>by
  have next:inN q (vlE (pre++[o]) l (j+1))=true→∃(k:Nat)(o':Oper),q=j+k∧(o::l)[k]?=some o'∧jP o'=true∧slf o'=true∧∀p∈pre++(o::l).take k,(jP p||bF p)=true→wfr o' p=true:=fun h=>by
   obtain⟨k,o',h1,h2,h3,h4,h5⟩:=qIl h;exact⟨k+1,o',by omega,by simpa using h2,h3,h4,fun p hp=>h5 p (by simpa using hp)⟩
  unfold vlE at h;cases hb:jP o&&(slf o&&qBf o pre)with
  | false=>simp only[hb,cond_false]at h;exact next h
  | true=>
   simp only[hb,cond_true,inN,Bool.or_eq_true]at h;simp only[Bool.and_eq_true]at hb;rcases h with h | h
   ·exact⟨0,o,by rw[←qB h];rfl,rfl,hb.1,hb.2.1,fun p hp hl=>zOk hb.2.2 p (by simpa using hp) hl⟩
   ·exact next h
theorem qOc{m i:Nat}{o:Oper}(h:inN i (vlR ops m)=true)(ho:ops[i]?=some o):jP o=true∧slf o=true∧∀(q:Nat)(p:Oper),q<i→ops[q]?=some p→(jP p||bF p)=true→wfr o p=true:=by
 obtain⟨k,o',h1,h2,h3,h4,h5⟩:=qIl h;rw[List.getElem?_drop,←h1]at h2;have:ops.toList[i]?=some o:=by simpa using ho
 rw[this]at h2;cases h2;refine⟨h3,h4,fun q p hq hp hl=>h5 p ?_ hl⟩;rw[←List.take_add,←h1];have hp':ops.toList[q]?=some p:=by simpa using hp
 exact List.mem_of_getElem? (by rw[List.getElem?_take,if_pos hq];exact hp')
theorem zWu{d:Nat}{x:Operand}(h:gP d x=true){t:Nat}(e:x= .tmp t):t≠d:=by
 subst e;intro e;subst e;simp[gP]at h
theorem zRx{o p:Oper}(h:wfr o p=true):∀x,o.dst=some x→(∀d,p.dst=some d→x≠d)∧∀t,Operand.tmp t∈p.op.operands→t≠x:=by
 intro x hx;unfold wfr at h;rw[hx]at h;simp only[Bool.and_eq_true]at h;refine⟨fun d hd e=>?_,fun t ht=>zWu (List.all_eq_true.1 h.2 _ (by simpa using ht)) rfl⟩
 have h1:=h.1;rw[hd]at h1;subst e;simp at h1
theorem zRs{o:Oper}(h:slf o=true):∀x,o.dst=some x→∀t,Operand.tmp t∈o.op.operands→t≠x:=by
 intro x hx t ht;unfold slf at h;rw[hx]at h;exact zWu (List.all_eq_true.1 h _ (by simpa using ht)) rfl
theorem zAz:∀{l:List Oper}{i:Nat},zGh l i=true→∀(j:Nat)(o:Oper),l[j]?=some o→∀e∈o.after,Region.binds .any e=true→e.on<i+j
 | [],_,_,j,o,h=>by simp at h
 | o1::l,i,h,j,o,ho=>by
  simp only[zGh,Bool.and_eq_true]at h;cases j with
  | zero=>
   simp at ho;subst ho;intro e he hb;have:=List.all_eq_true.1 h.1 e (by simpa using he)
   rw[hb]at this;simpa[Nat.blt_eq]using this
  | succ j=>rw[show i+(j+1)=i+1+j by omega];exact zAz h.2 j o (by simpa using ho)
theorem zLg:∀l:List T,jD l.length l=some l
 | []=>rfl
 | x::l=>by simp[jD,zLg l]
theorem zMh:∀(l:List Oper)(rs:List (T×Option TO))(L:List T)(i:Nat)(o:Oper)(z:T×Option TO),l[i]?=some o→rs[i]?=some z→(ksE l rs L)[i]?=some (match z.2 with | some _=>rD (yX l (rs.take i) L) o.op | none=>none)
 | [],_,_,_,_,_,h,_=>by simp at h
 | _::_,[],_,_,_,_,_,h=>by simp at h
 | o1::l,z1::rs,L,0,o,z,h1,h2=>by simp at h1 h2;subst h1;subst h2;rfl
 | o1::l,z1::rs,L,i+1,o,z,h1,h2=>by
  simp only[ksE,List.take_succ_cons,yX];exact zMh l rs _ i o z (by simpa using h1) (by simpa using h2)
theorem qEh:∀(l:List Oper)(rs:List (T×Option TO))(L:List T),(ksE l rs L).length≤rs.length
 | [],_,_=>by simp[ksE]
 | _::_,[],_=>by simp[ksE]
 | o::l,z::rs,L=>by simp only[ksE,List.length_cons];have:=qEh l rs (dst o.dst z.1 L);omega
theorem zGq{q:Nat}:∀{ks:List (Option Nat)},zIu q ks=true↔some q∈ks
 | []=>by simp[zIu]
 | some k::ks=>by
  simp only[zIu,Bool.or_eq_true,List.mem_cons,Option.some.injEq,zGq];exact or_congr ⟨fun h=>(qB h).symm,fun h=>by subst h;simp⟩ Iff.rfl
 | none::ks=>by simp[zIu,zGq]
theorem dR{H:List TO}:∀{ks:List (Option Nat)},zMg H ks=true→(∀q,some q∈ks→nth .gone H q= .gone)∧∀(i j q:Nat),ks[i]?=some (some q)→ks[j]?=some (some q)→i=j
 | [],_=>⟨fun q h=>(nomatch h),fun i j q h=>(by simp at h)⟩
 | none::ks,h=>by
  obtain⟨h1,h2⟩:=dR (ks:=ks) (by simpa[zMg]using h)
  refine⟨fun q hq=>h1 q (by simpa using hq),fun i j q hi hj=>?_⟩
  cases i with
  | zero=>simp at hi
  | succ i=>cases j with
   | zero=>simp at hj
   | succ j=>rw[h2 i j q (by simpa using hi) (by simpa using hj)]
 | some k::ks,h=>by
  simp only[zMg,Bool.and_eq_true,Bool.not_eq_true']at h;obtain⟨h1,h2⟩:=dR (ks:=ks) h.2.2;have hn:∀q,q=k→some q∉ks:=fun q e hm=>by
   subst e;have:=h.1;rw[zGq.2 hm]at this;cases this
  refine⟨fun q hq=>?_,fun i j q hi hj=>?_⟩
  ·rcases List.mem_cons.1 hq with e | hq
   ·cases e;have:=h.2.1;cases hg:nth .gone H k<;>rw[hg]at this<;>first | rfl | (simp[qDw]at this)
   ·exact h1 q hq
  ·cases i with
   | zero=>
    simp at hi;cases j with
    | zero=>rfl
    | succ j=>exact absurd (List.mem_of_getElem? (by simpa using hj:ks[j]?=some (some q))) (hn q hi.symm)
   | succ i=>cases j with
    | zero=>simp at hj;exact absurd (List.mem_of_getElem? (by simpa using hi:ks[i]?=some (some q))) (hn q hj.symm)
    | succ j=>rw[h2 i j q (by simpa using hi) (by simpa using hj)]
theorem nK:∀(ks:List (Option Nat))(H:List TO)(q:Nat),(xF ks H)[q]?=if some q∈ks then H[q]?.map (fun _=>TO.gone)else H[q]?
 | [],H,q=>by simp[xF]
 | none::ks,H,q=>by simp[xF,nK ks H q]
 | some k::ks,H,q=>by
  simp only[xF];rw[nK ks,jT];by_cases e:k=q
  ·subst e;by_cases hq:k<H.length
   ·simp[hq]
   ·have:H[k]?=none:=List.getElem?_eq_none (by omega)
    simp[this,List.getElem?_set,hq]
  ·rw[List.getElem?_set_ne e];have:(some q∈some k::ks)↔some q∈ks:=by
    simp only[List.mem_cons,Option.some.injEq];exact⟨fun h=>h.resolve_left (fun e'=>e e'.symm),.inr⟩
   by_cases hm:some q∈ks
   ·rw[if_pos hm,if_pos (this.2 hm)]
   ·rw[if_neg hm,if_neg (fun h=>hm (this.1 h))]
theorem zKf(ks:List (Option Nat)):∀H:List TO,(xF ks H).length=H.length:=by
 induction ks with
 | nil=>intro H;rfl
 | cons k ks ih=>
  intro H;cases k with
  | none=>simpa[xF]using ih H
  | some q=>simp only[xF];rw[ih,jT];simp
end
section
variable {P:Program}{E:Nat→Prop}{w0:World}{X:Hid}{F:List Nat}{H:List TO}{B B' B0:Bm}{w w':World}{Y Y':Hid}{Mo:List (Nat×Obj)}{o:Oper}{r r' r0:Rd}{n:Nat}{a:Act}{L:List T}{D:List Deferred}{Q:Exit→Act→World→Prop}{K:Act→World→Prop}{po:Po}{ops:Array Oper}{rn:Rn}{cl yd:Cl}{rr:Option Nat}{O:Po}{rs:List (T×Option TO)}{l:Array Bool}
theorem Wd.fill(h:Wd P E w0 X F H B w Y Mo){i g C:Nat}{o:TO}{ob:Obj}(hi:H[i]?=some .gone)(hBi:B i=none)(hl:jN o=true)(hR:RO P B (rd w Y) C o ob)(hg:g=w.heap.size):
  Wd P E w0 X F (H.set i o) (tX B i (g,C)) (w.alloc ob) (zBe w.heap.size Y) ((g,ob)::Mo)∧BLe B (tX B i (g,C)):=by
 subst hg;have hS:=h.st.alloc ob;have hle:Le (rd w Y) (rd (w.alloc ob) (zBe w.heap.size Y)):=Le.hide_new ob;have hB:BLe B (tX B i (w.heap.size,C)):=BLe.set hBi;have hlt:i<H.length:=(List.getElem?_eq_some_iff.1 hi).1;have hgm:∀p∈Mo,p.1≠w.heap.size:=fun p hp e=>by
  have:=(Array.getElem?_eq_some_iff.1 (h.st.own p (List.mem_append_left _ hp)).1).1;omega
 have hget:∀(j:Nat)(x:TO),(H.set i o)[j]?=some x→(j≠i∧H[j]?=some x)∨(j=i∧x=o):=fun j x hx=>by
  by_cases e:i=j
  ·subst e;rw[List.getElem?_set_self hlt]at hx;cases hx;exact .inr ⟨rfl,rfl⟩
  ·rw[List.getElem?_set_ne e]at hx;exact .inl ⟨fun e'=>e e'.symm,hx⟩
 refine⟨⟨hS,fun j x hx hlx=>?_,fun j cs hx=>?_,fun j hj=>?_,fun j1 j2 o1 o2 p q h1 l1 h2 l2 hp hq e=>?_,h.bN,h.iv⟩,hB⟩
 ·rcases hget j x hx with⟨_,hx⟩ | ⟨rfl,rfl⟩
  ·obtain⟨b,C',ob',g1,g2,g3⟩:=h.ob j x hx hlx;exact⟨b,C',ob',hB _ _ g1,List.mem_cons_of_mem _ g2,g3.mono hB hle⟩
  ·exact⟨_,C,ob,qE _ _ _,List.mem_cons_self,hR.mono hB hle⟩
 ·rcases hget j _ hx with⟨_,hx⟩ | ⟨rfl,e⟩
  ·obtain⟨b,C',g1,g2⟩:=h.fz j cs hx;exact⟨b,C',hB _ _ g1,g2.mono hB hle⟩
  ·subst e;cases hl
 ·simp at hj;rw[jJ _ _ (by omega)]
  exact h.nn j hj
 ·have own:∀(i:Nat)(x:TO)(p:Nat×Nat),H[i]?=some x→jN x=true→B i=some p→p.1≠w.heap.size:=fun i x p hx hl hp=>by
   obtain⟨b,C',ob',h1,h2,_⟩:=h.ob i x hx hl;rw[hp]at h1;cases h1;exact hgm _ h2
  rcases hget j1 _ h1 with⟨n1,k1⟩ | ⟨rfl,rfl⟩<;>rcases hget j2 _ h2 with⟨n2,k2⟩ | ⟨rfl,rfl⟩
  ·rw[jJ _ _ n1]at hp;rw[jJ _ _ n2]at hq;exact h.inj _ _ _ _ _ _ k1 l1 k2 l2 hp hq e
  ·rw[jJ _ _ n1]at hp;rw[qE]at hq;cases hq;exact absurd e (own _ _ p k1 l1 hp)
  ·rw[jJ _ _ n2]at hq;rw[qE]at hp;cases hp;exact absurd e.symm (own _ _ q k2 l2 hq)
  ·rfl
def qR(l:Array Bool):Nat→List (T×Option TO)→List TO
 | _,[]=>[]
 | j,(_,some ob)::rs=>(if l.getD j false=true then ob else .gone)::qR l (j+1) rs
 | j,(_,none)::rs=>qR l (j+1) rs
noncomputable def pos(rs:List (T×Option TO))(i:Nat):Nat:=(qD (rs.take i)).length
theorem zDi(l:Array Bool):∀(j:Nat)(rs:List (T×Option TO)),(qR l j rs).length=(qD rs).length
 | _,[]=>rfl
 | j,(_,some ob)::rs=>by simp[qR,qD,zDi l (j+1) rs]
 | j,(_,none)::rs=>by simp[qR,qD,zDi l (j+1) rs]
theorem vL{t:T}{ob:Option TO}{rs:List (T×Option TO)}{i:Nat}:pos ((t,ob)::rs) (i+1)=(match ob with | some _=>1 | none=>0)+pos rs i:=by
 cases ob<;>simp[pos,qD]<;>omega
theorem cB(l:Array Bool):∀(rs:List (T×Option TO))(j i:Nat)(t:T)(ob:TO),rs[i]?=some (t,some ob)→(qR l j rs)[pos rs i]?=some (if l.getD (j+i) false=true then ob else .gone)
 | [],_,_,_,_,h=>by simp at h
 | (t1,some ob1)::rs,j,0,t,ob,h=>by simp at h;obtain⟨_,rfl⟩:=h;simp[qR,pos,qD]
 | (t1,none)::rs,j,0,t,ob,h=>by simp at h
 | (t1,some ob1)::rs,j,i+1,t,ob,h=>by
  rw[vL,show j+(i+1)=j+1+i by omega,←cB l rs (j+1) i t ob (by simpa using h)]
  simp only[qR];rw[Nat.add_comm 1,List.getElem?_cons_succ]
 | (t1,none)::rs,j,i+1,t,ob,h=>by
  rw[vL,show j+(i+1)=j+1+i by omega,←cB l rs (j+1) i t ob (by simpa using h)]
  simp[qR]
theorem cK(l:Array Bool){x:Nat}:∀(rs:List (T×Option TO))(j:Nat),(x<j∨j+rs.length≤x)→qR (l.setIfInBounds x true) j rs=qR l j rs
 | [],_,_=>rfl
 | (t,some ob)::rs,j,h=>by
  simp only[qR];rw[cK l rs (j+1) (by simp at h;omega),getD_set_ne false (by simp at h;omega)]
 | (t,none)::rs,j,h=>by
  simp only[qR];rw[cK l rs (j+1) (by simp at h;omega)]
theorem aO(l:Array Bool):∀(rs:List (T×Option TO))(j i:Nat)(t:T),rs[i]?=some (t,none)→qR (l.setIfInBounds (j+i) true) j rs=qR l j rs
 | [],_,_,_,h=>by simp at h
 | (t1,some ob1)::rs,j,0,t,h=>by simp at h
 | (t1,none)::rs,j,0,t,h=>by simp only[qR];exact cK l rs (j+1) (.inl (by omega))
 | (t1,some ob1)::rs,j,i+1,t,h=>by
  simp only[qR];rw[getD_set_ne false (by omega),show j+(i+1)=j+1+i by omega,aO l rs (j+1) i t (by simpa using h)]
 | (t1,none)::rs,j,i+1,t,h=>by
  simp only[qR];rw[show j+(i+1)=j+1+i by omega,aO l rs (j+1) i t (by simpa using h)]
theorem cZ(l:Array Bool):∀(rs:List (T×Option TO))(j i:Nat)(t:T)(ob:TO),rs[i]?=some (t,some ob)→j+i<l.size→qR (l.setIfInBounds (j+i) true) j rs=(qR l j rs).set (pos rs i) ob
 | [],_,_,_,_,h,_=>by simp at h
 | (t1,some ob1)::rs,j,0,t,ob,h,hl=>by
  simp at h;obtain⟨_,rfl⟩:=h;simp only[qR];rw[cK l rs (j+1) (.inl (by omega))]
  have:(l.setIfInBounds (j+0) true).getD j false=true:=by simp at hl;simp[hl]
  rw[this];simp[pos,qD]
 | (t1,none)::rs,j,0,t,ob,h,_=>by simp at h
 | (t1,some ob1)::rs,j,i+1,t,ob,h,hl=>by
  rw[vL,Nat.add_comm 1];simp only[qR,List.set_cons_succ];rw[getD_set_ne false (by omega),show j+(i+1)=j+1+i by omega,cZ l rs (j+1) i t ob (by simpa using h) (by omega)]
 | (t1,none)::rs,j,i+1,t,ob,h,hl=>by
  rw[vL,Nat.zero_add];simp only[qR];rw[show j+(i+1)=j+1+i by omega,cZ l rs (j+1) i t ob (by simpa using h) (by omega)]
theorem zDh(l:Array Bool):∀(rs:List (T×Option TO))(j:Nat),(∀(i:Nat)(t:T)(ob:TO),rs[i]?=some (t,some ob)→l.getD (j+i) false=true)→qR l j rs=qD rs
 | [],_,_=>rfl
 | (t,some ob)::rs,j,h=>by
  simp only[qR,qD];rw[zDh l rs (j+1) (fun i t ob hi=>by rw[show j+1+i=j+(i+1)by omega];exact h (i+1) t ob (by simpa using hi)),show l.getD j false=true from h 0 t ob (by simp)]
  simp
 | (t,none)::rs,j,h=>by
  simp only[qR,qD];exact zDh l rs (j+1) (fun i t ob hi=>by rw[show j+1+i=j+(i+1)by omega];exact h (i+1) t ob (by simpa using hi))
theorem zDj(l:Array Bool):∀(rs:List (T×Option TO))(j i:Nat)(x:TO),(∀i,i<rs.length→l.getD (j+i) false=false)→(qR l j rs)[i]?=some x→x= .gone
 | [],_,_,_,_,h=>by simp[qR]at h
 | (t,some ob)::rs,j,i,x,hl,h=>by
  simp only[qR]at h;have h0:=hl 0 (by simp)
  rw[Nat.add_zero]at h0;rw[h0]at h;cases i with
  | zero=>simp at h;exact h.symm
  | succ i=>exact zDj l rs (j+1) i x (fun i hi=>by rw[show j+1+i=j+(i+1)by omega];exact hl (i+1) (by simpa using hi)) (by simpa using h)
 | (t,none)::rs,j,i,x,hl,h=>zDj l rs (j+1) i x (fun i hi=>by rw[show j+1+i=j+(i+1)by omega];exact hl (i+1) (by simpa using hi)) (by simpa[qR]using h)
theorem zDk:∀(rs:List (T×Option TO))(i q:Nat)(x:TO),(qD (rs.take i))[q]?=some x→∃j t,j<i∧rs[j]?=some (t,some x)∧pos rs j=q
 | [],_,_,_,h=>by simp[qD]at h
 | _::_,0,_,_,h=>by simp[qD]at h
 | (t,some ob)::rs,i+1,0,x,h=>by simp[qD]at h;subst h;exact⟨0,t,by omega,rfl,by simp[pos,qD]⟩
 | (t,some ob)::rs,i+1,q+1,x,h=>by
  obtain⟨j,t',h1,h2,h3⟩:=zDk rs i q x (by simpa[qD]using h)
  exact⟨j+1,t',by omega,by simpa using h2,by rw[vL,h3];simp;omega⟩
 | (t,none)::rs,i+1,q,x,h=>by
  obtain⟨j,t',h1,h2,h3⟩:=zDk rs i q x (by simpa[qD]using h)
  exact⟨j+1,t',by omega,by simpa using h2,by rw[vL,h3];simp⟩
theorem zUm:∀(rs:List (T×Option TO))(i j:Nat)(t:T)(ob:TO),rs[i]?=some (t,some ob)→i<j→pos rs i<pos rs j
 | [],_,_,_,_,h,_=>by simp at h
 | _::_,_,0,_,_,_,h=>by omega
 | (t1,some ob1)::rs,0,j+1,t,ob,h,_=>by rw[vL];simp[pos,qD];omega
 | (t1,none)::rs,0,j+1,t,ob,h,_=>by simp at h
 | (t1,ob1)::rs,i+1,j+1,t,ob,h,hij=>by
  rw[vL,vL];have:=zUm rs i j t ob (by simpa using h) (by omega)
  omega
theorem Wd.moveTo(h:Wd P E w0 X F H B w Y Mo){i j:Nat}{x:TO}{p:Nat×Nat}(hi:H[i]?=some x)(hl:jN x=true)(hp:B i=some p)(hj:H[j]?=some .gone)(hBj:B j=none):Wd P E w0 X F ((H.set i .gone).set j x) (tX B j p) w Y Mo∧BLe B (tX B j p):=by
 have hB:BLe B (tX B j p):=BLe.set hBj;have hij:i≠j:=fun e=>by subst e;rw[hi]at hj;cases hj;cases hl
 have hjl:j<(H.set i TO.gone).length:=by simpa using(List.getElem?_eq_some_iff.1 hj).1
 have hil:i<H.length:=(List.getElem?_eq_some_iff.1 hi).1;have ng:∀{y:TO},jN y=true→y≠.gone:=fun h e=>by subst e;cases h
 have hget:∀(k:Nat)(y:TO),((H.set i .gone).set j x)[k]?=some y→y≠.gone→(H[k]?=some y∧k≠j∧k≠i)∨(k=j∧y=x):=fun k y hy hne=>by
  by_cases e:j=k
  ·subst e;rw[List.getElem?_set_self hjl]at hy;cases hy;exact .inr ⟨rfl,rfl⟩
  ·rw[List.getElem?_set_ne e]at hy;by_cases e2:i=k
   ·subst e2;rw[List.getElem?_set_self hil]at hy;cases hy;exact absurd rfl hne
   ·rw[List.getElem?_set_ne e2]at hy;exact .inl ⟨hy,fun e'=>e e'.symm,fun e'=>e2 e'.symm⟩
 refine⟨⟨h.st,fun k y hy hly=>?_,fun k cs hy=>?_,fun k hk=>?_,fun k1 k2 o1 o2 p1 p2 h1 l1 h2 l2 hp1 hp2 e=>?_,h.bN,h.iv⟩,hB⟩
 ·rcases hget k y hy (ng hly)with⟨hy,_,_⟩ | ⟨rfl,rfl⟩
  ·obtain⟨b,C,ob,g1,g2,g3⟩:=h.ob k y hy hly;exact⟨b,C,ob,hB _ _ g1,g2,g3.mono hB (Le.refl _)⟩
  ·obtain⟨b,C,ob,g1,g2,g3⟩:=h.ob i _ hi hl;rw[hp]at g1;cases g1;exact⟨b,C,ob,qE _ _ _,g2,g3.mono hB (Le.refl _)⟩
 ·rcases hget k _ hy (by simp)with⟨hy,_,_⟩ | ⟨rfl,e⟩
  ·obtain⟨b,C,g1,g2⟩:=h.fz k cs hy;exact⟨b,C,hB _ _ g1,g2.mono hB (Le.refl _)⟩
  ·subst e;cases hl
 ·simp at hk hjl;rw[jJ _ _ (by omega)]
  exact h.nn k hk
 ·rcases hget k1 _ h1 (ng l1)with⟨q1,n1,m1⟩ | ⟨rfl,rfl⟩<;>rcases hget k2 _ h2 (ng l2)with⟨q2,n2,m2⟩ | ⟨rfl,rfl⟩
  ·rw[jJ _ _ n1]at hp1;rw[jJ _ _ n2]at hp2;exact h.inj _ _ _ _ _ _ q1 l1 q2 l2 hp1 hp2 e
  ·rw[jJ _ _ n1]at hp1;rw[qE]at hp2;cases hp2;exact absurd (h.inj _ _ _ _ _ _ q1 l1 hi hl hp1 hp e) m1
  ·rw[jJ _ _ n2]at hp2;rw[qE]at hp1;cases hp1;exact absurd (h.inj _ _ _ _ _ _ q2 l2 hi hl hp2 hp e.symm) m2
  ·rfl
def kN(l:Array Bool)(ks:List (Option Nat))(q:Nat):Bool:=(List.range ks.length).any fun i=>ks[i]?==some (some q)&&l.getD i false
def vH(l:Array Bool)(ks:List (Option Nat))(H:List TO):List TO:=H.mapIdx fun q x=>if kN l ks q=true then .gone else x
theorem yJ{l:Array Bool}{ks:List (Option Nat)}{q:Nat}:kN l ks q=true↔∃i,ks[i]?=some (some q)∧l.getD i false=true:=by
 unfold kN;rw[List.any_eq_true];constructor
 ·rintro⟨i,_,h⟩;simp only[Bool.and_eq_true,beq_iff_eq]at h;exact⟨i,h⟩
 ·rintro⟨i,h1,h2⟩;refine⟨i,List.mem_range.2 (List.getElem?_eq_some_iff.1 h1).1,?_⟩;simp[h1,h2]
theorem jO(l:Array Bool)(ks:List (Option Nat))(H:List TO):(vH l ks H).length=H.length:=by simp[vH]
theorem wO(l:Array Bool)(ks:List (Option Nat))(H:List TO)(q:Nat):(vH l ks H)[q]?=H[q]?.map fun x=>if kN l ks q=true then TO.gone else x:=by simp[vH,List.getElem?_mapIdx]
theorem zDc{l:Array Bool}{ks:List (Option Nat)}{H:List TO}{i:Nat}(h:∀q,ks[i]?≠some (some q)):vH (l.setIfInBounds i true) ks H=vH l ks H:=by
 refine List.ext_getElem? fun q=>?_;rw[wO,wO];have:kN (l.setIfInBounds i true) ks q=kN l ks q:=by
  rw[Bool.eq_iff_iff,yJ,yJ];constructor<;>rintro⟨j,h1,h2⟩<;>refine⟨j,h1,?_⟩
  ·rwa[getD_set_ne false (fun e=>by subst e;exact h q h1)]at h2
  ·rwa[getD_set_ne false (fun e=>by subst e;exact h q h1)]
 rw[this]
theorem qEf{l:Array Bool}{ks:List (Option Nat)}{H:List TO}{i k:Nat}(h:ks[i]?=some (some k))(hi:i<l.size):vH (l.setIfInBounds i true) ks H=(vH l ks H).set k .gone:=by
 refine List.ext_getElem? fun q=>?_;rw[wO,List.getElem?_set,jO];by_cases e:k=q
 ·subst e;have:kN (l.setIfInBounds i true) ks k=true:=yJ.2 ⟨i,h,by simp[hi]⟩
  simp only[this,if_true];by_cases hq:k<H.length
  ·simp[hq]
  ·have:H[k]?=none:=List.getElem?_eq_none (by omega)
   simp[hq,this]
 ·rw[if_neg e,wO];have:kN (l.setIfInBounds i true) ks q=kN l ks q:=by
   rw[Bool.eq_iff_iff,yJ,yJ];constructor<;>rintro⟨j,h1,h2⟩<;>refine⟨j,h1,?_⟩
   ·rwa[getD_set_ne false (fun e'=>by subst e';rw[h]at h1;cases h1;exact e rfl)]at h2
   ·rwa[getD_set_ne false (fun e'=>by subst e';rw[h]at h1;cases h1;exact e rfl)]
  rw[this]
theorem zZd{l:Array Bool}{ks:List (Option Nat)}{H:List TO}(h:∀i,i<ks.length→l.getD i false=false):vH l ks H=H:=by
 refine List.ext_getElem? fun q=>?_;rw[wO];have:kN l ks q=false:=by
  cases hk:kN l ks q with
  | false=>rfl
  | true=>
   obtain⟨i,h1,h2⟩:=yJ.1 hk;rw[h i (List.getElem?_eq_some_iff.1 h1).1]at h2;cases h2
 simp[this]
theorem qEe{l:Array Bool}{ks:List (Option Nat)}{H:List TO}(h:∀i q,ks[i]?=some (some q)→l.getD i false=true):vH l ks H=xF ks H:=by
 refine List.ext_getElem? fun q=>?_;rw[wO,nK];by_cases hm:some q∈ks
 ·obtain⟨i,hi⟩:=List.getElem?_of_mem hm;have:kN l ks q=true:=yJ.2 ⟨i,hi,h i q hi⟩;rw[if_pos hm];simp[this]
 ·have:kN l ks q=false:=by
   cases hk:kN l ks q with
   | false=>rfl
   | true=>
    obtain⟨i,h1,_⟩:=yJ.1 hk;exact absurd (List.mem_of_getElem? h1) hm
  rw[if_neg hm];simp[this]
end
theorem kI{l:Array Bool}{i:Nat}(h:i<l.size):(l.setIfInBounds i true).getD i false=true:=by simp[h]
def qXz(l:Array Bool)(j:Nat):Prop:=∀i,l.getD i false=decide (i<j)
theorem zRf{ops:Array Oper}{l:Array Bool}{j:Nat}{o:Oper}(hl:l.size=ops.size)(ho:ops[j]?=some o)(hj:l.getD j false=false)(he:∀e∈o.after,Region.binds .any e=true→l.getD e.on false=true):j∈Region.ready .any ops l:=by
 refine mem_ready.2 ⟨?_,o,ho,he⟩;have:j<l.size:=by rw[hl];exact(Array.getElem?_eq_some_iff.1 ho).1
 simpa[this]using hj
def zNw(l:Array Bool):Nat:=l.toList.countP (fun b=>!b)
theorem zCe{l:Array Bool}{i:Nat}(hi:i<l.size)(h:l.getD i false=false):zNw (l.setIfInBounds i true)+1=zNw l:=by
 have h1:l[i]=false:=by simpa[hi]using h
 have h2:i<l.toList.length:=by simpa using hi
 have h3:l.toList[i]'h2=false:=by simpa using h1
 unfold zNw;rw[Array.toList_setIfInBounds,List.countP_set h2];have h4:0<l.toList.countP (fun b=>!b):=List.countP_pos_iff.2 ⟨_,List.getElem_mem h2,by simp[h3]⟩
 simp only[h3,Bool.not_false,if_true,Bool.not_true,Bool.false_eq_true,if_false];omega
theorem zUx{l:Array Bool}{j:Nat}(h:qXz l j)(hj:j≤l.size):zNw l=l.size-j:=by
 have e:l.toList=List.replicate j true++List.replicate (l.size-j) false:=by
  apply List.ext_getElem?;intro i;rcases Nat.lt_or_ge i l.size with hi | hi
  ·have h1:=h i;have h2:l[i]=decide (i<j):=by simpa[hi]using h1
   rw[Array.getElem?_toList,Array.getElem?_eq_getElem hi,h2];rcases Nat.lt_or_ge i j with hij | hij
   ·rw[List.getElem?_append_left (by simpa using hij)];simp[hij]
   ·rw[List.getElem?_append_right (by simpa using hij),List.length_replicate,List.getElem?_replicate,if_pos (by omega)]
    simp;omega
  ·rw[List.getElem?_eq_none (by simpa using hi),List.getElem?_eq_none (by simp;omega)]
 unfold zNw;rw[e,List.countP_append,List.countP_replicate,List.countP_replicate];simp
section
variable {P:Program}{H:List TO}{k:Nat}{ρ ρ':Operand→T}{L L2:List T}{cl yd:Cl}{d:Option Nat}{ops:Array Oper}
theorem zSy(op:Op)(h:∀x∈op.operands,ρ x=ρ' x):zCs P H ρ op=zCs P H ρ' op:=by
 cases op with
 | call c=>
  simp only[zCs];split
  ·rename_i x y t t' e1 e2 e3;have hm:∀z,z∈c.args.toList→z∈(Op.call c).operands:=fun z hz=>by
    simp only[Op.operands,Call.operands,Array.mem_append];right;simpa using hz
   rw[h x (hm x (by rw[e2];simp)),h y (hm y (by rw[e2];simp))]
  ·rename_i x y t t' e1 e2 e3;have hm:∀z,z∈c.args.toList→z∈(Op.call c).operands:=fun z hz=>by
    simp only[Op.operands,Call.operands,Array.mem_append];right;simpa using hz
   rw[h x (hm x (by rw[e2];simp)),h y (hm y (by rw[e2];simp))]
  ·rfl
 | _=>simp only[zCs]<;>simp_all [Op.operands]
def Par(d:Option Nat)(L L2:List T):Option S→Option S→Prop
 | none,none=>True
 | some s,some s2=>∃t,s.L=dst d t L∧s2.L=dst d t L2∧s.H=s2.H
 | _,_=>False
theorem qDb(r:T×Option TO):Par d L L2 (zPg d L H r) (zPg d L2 H r):=by
 obtain⟨t,ob⟩:=r;cases ob<;>exact⟨t,rfl,rfl,rfl⟩
theorem qDc(r:Option T×List TO):Par d L L2 (zPh d L r) (zPh d L2 r):=by
 obtain⟨t,H'⟩:=r;cases t with
 | some t=>exact⟨t,rfl,rfl,rfl⟩
 | none=>cases d with
  | none=>exact⟨.u,rfl,rfl,rfl⟩
  | some d=>trivial
theorem zGj(r:Option (T×List TO)):Par d L L2 (gK d L r) (gK d L2 r):=by
 cases r with
 | none=>trivial
 | some r=>exact⟨r.1,rfl,rfl,rfl⟩
theorem zYp(az:List T)(t:T):Par d L L2 (zEd P cl yd d L H az t) (zEd P cl yd d L2 H az t):=by
 cases t with
 | fn f cs=>
  simp only[zEd];cases jE P f with
  | true=>exact zGj _
  | false=>trivial
 | fb f bs=>
  simp only[zEd];cases jE P f with
  | true=>exact zGj _
  | false=>trivial
 | yl l=>exact zGj _
 | _=>trivial
theorem qMd(op:Op)(h:∀x∈op.operands,evO L x=evO L2 x):Par d L L2 (opC P cl yd d L H op) (opC P cl yd d L2 H op):=by
 cases op with
 | call c=>
  simp only[opC];split
  ·rename_i f e;rw[zDf (l:=c.args.toList) (ρ:=evO L) (ρ':=evO L2) (fun x hx=>h x (by simp only[Op.operands,Call.operands,Array.mem_append];right;simpa using hx)),h f (by simp[Op.operands,Call.operands,e])]
   exact zYp _ _
  ·trivial
 | _=>trivial
theorem qMf(o:Oper)(h:∀x∈o.op.operands,evO L x=evO L2 x)(hg:∀j b p t,o.guard=some (j,b)→ops[j]?=some p→p.dst=some t→nth .u L t=nth .u L2 t):Par o.dst L L2 (opE P cl yd ops o ⟨L,H⟩) (opE P cl yd ops o ⟨L2,H⟩):=by
 have hw:kH ops L o=kH ops L2 o:=by
  unfold kH;cases hgd:o.guard with
  | none=>rfl
  | some jb=>
   obtain⟨j,b⟩:=jb;cases hj:ops[j]? with
   | none=>simp only[hj]
   | some p=>
    cases hd:p.dst with
    | none=>simp only[hj,hd]
    | some t=>simp only[hj,hd,hg j b p t hgd hj hd]
 unfold opE;simp only[hw];cases kH ops L2 o with
 | none=>trivial
 | some q=>cases q with
  | false=>exact⟨_,rfl,rfl,rfl⟩
  | true=>
   simp only[gQ,lC o.op h];cases kT P H (ln H) (evO L2) o.op with
   | some r=>exact qDb r
   | none=>
    simp only[zQo,zSy o.op h];cases zCs P H (evO L2) o.op with
    | some r=>exact qDc r
    | none=>
     have hc:=qMd (P:=P) (cl:=cl) (yd:=yd) (d:=o.dst) (H:=H) o.op h;revert hc;cases opC P cl yd o.dst L H o.op with
     | some x=>cases opC P cl yd o.dst L2 H o.op with
      | some y=>exact fun hc=>hc
      | none=>exact fun hc=>hc.elim
     | none=>cases opC P cl yd o.dst L2 H o.op with
      | some y=>exact fun hc=>hc.elim
      | none=>
       intro _;simp only[qFr,aN o h];cases zBl P (evO L2) o with
       | none=>trivial
       | some t=>exact⟨t,rfl,rfl,rfl⟩
def lK(P:Program)(L:List T)(p:Oper)(v:T):Prop:=(∀H k,kT P H k (evO L) p.op=some (v,none))∨((∀H k,kT P H k (evO L) p.op=none)∧zBl P (evO L) p=some v)
theorem gL{p:Oper}(h:jP p=true):p.guard=none:=by
 unfold jP at h;simp only[Bool.and_eq_true]at h;cases hg:p.guard with
 | none=>rfl
 | some x=>rw[hg]at h;cases h.1
theorem vJ{p:Oper}(h:jP p=true):(match p.op with | .move _ | .assign _ | .pick .. | .nilCheck _ | .binOp .. | .unOp .. | .convert .. | .slice .. | .fieldAddr .. | .field .. | .indexAddr .. | .index .. | .extract .. =>True | _=>False):=by
 unfold jP at h;simp only[Bool.and_eq_true]at h;have h2:=h.2;split at h2<;>first | (rename_i e;rw[e];trivial) | cases h2
theorem dV{p:Oper}(h:jP p=true)(H H':List TO)(k k':Nat):kT P H k ρ p.op=kT P H' k' ρ p.op:=by
 have:=vJ h;split at this<;>first | (rename_i e;rw[e];rfl) | exact this.elim
theorem qM{t:T}{z:T×Option TO}(h:val t=some z):z.2=none:=by unfold val at h;cases h;rfl
theorem qZs{t:Option T}{z:T×Option TO}(h:qAl t=some z):z.2=none:=by
 unfold qAl at h;cases t with
 | none=>cases h
 | some t=>cases h;rfl
theorem qCx{op:BinOp}{t:TypeId}{xs ys:List T}{z:T×Option TO}(h:eq3 P op t xs ys=some z):z.2=none:=by
 unfold eq3 at h;split at h
 ·rename_i i a j b k c i' a' j' b' k' c';cases hc:vQ P t (.prod (.int i) (.prod (.int j) (.int k)))&&(!P.eqGuardType P.depth t&&(Nat.beq (kind i) (kind i')&&(Nat.beq (kind j) (kind j')&&Nat.beq (kind k) (kind k'))))with
  | false=>rw[hc]at h;cases h
  | true=>
   rw[hc,cond_true]at h;split at h<;>first | exact qM h | cases h
 ·cases h
theorem zKi{p:Oper}(h:jP p=true){z:T×Option TO}(hz:kT P H k ρ p.op=some z):z.2=none:=by
 have:=vJ h;split at this;all_goals try exact this.elim
 all_goals rename_i e;rw[e]at hz;simp only[kT]at hz
 all_goals try exact qM hz
 all_goals try cases hz
 all_goals first | unfold zKx at hz | unfold qMv at hz | unfold zZx at hz | unfold pQ wH at hz | unfold mZ at hz | unfold zMz at hz | unfold wU at hz | unfold qMs at hz | unfold zBr at hz
 all_goals repeat' split at hz
 all_goals try unfold zHa at hz
 all_goals repeat' split at hz
 all_goals try simp only[Bool.cond_eq_ite]at hz
 all_goals repeat' split at hz
 all_goals first | exact qM hz | exact qZs hz | exact qCx hz | (cases hz;done) | (cases hz;rfl) | skip
theorem zKh{p:Oper}(h:jP p=true):zCs P H ρ p.op=none:=by
 have:=vJ h;split at this<;>first | (rename_i e;rw[e];rfl) | exact this.elim
theorem zPz{p:Oper}(h:jP p=true):opC P cl yd d L H p.op=none:=by
 have:=vJ h;split at this<;>first | (rename_i e;rw[e];rfl) | exact this.elim
theorem qLd{p:Oper}(h:jP p=true):yS p.op=true:=by
 have:=vJ h;split at this<;>first | (rename_i e;rw[e];rfl) | exact this.elim
theorem zTo{p:Oper}(h:jP p=true):rD L p.op=none:=by
 have:=vJ h;split at this<;>first | (rename_i e;rw[e];rfl) | exact this.elim
theorem zTp{p:Oper}{po:Po}(h:jP p=true):lM P po H L p.op=none:=by
 have:=vJ h;split at this<;>first | (rename_i e;rw[e];rfl) | exact this.elim
theorem zZe{p:Oper}{H0:List TO}{q:Option Nat}(h:jP p=true):zIt P H0 H q L p.op=none:=by
 have:=vJ h;split at this<;>first | (rename_i e;rw[e];rfl) | exact this.elim
theorem qEi{p:Oper}(h:jP p=true){v:T}(hv:lK P L p v):opE P cl yd ops p ⟨L,H⟩=some ⟨dst p.dst v L,H⟩:=by
 unfold opE kH;rw[gL h];simp only[gQ];rcases hv with hv | ⟨hv,hm⟩
 ·rw[hv];rfl
 ·rw[hv];simp only[zQo,zKh h,zPz h,qFr,hm]
theorem lK.congr{p:Oper}{v:T}(hv:lK P L p v)(h:∀x∈p.op.operands,evO L x=evO L2 x):lK P L2 p v:=by
 rcases hv with hv | ⟨hv,hm⟩
 ·exact .inl fun H k=>by rw[←lC p.op h];exact hv H k
 ·exact .inr ⟨fun H k=>by rw[←lC p.op h];exact hv H k,by rw[←aN p h];exact hm⟩
theorem lK.of_head{p:Oper}{po:Po}{H0 Hm Hn:List TO}{z:T×Option TO}(h:jP p=true)(hz:kV P po H0 Hm Hn L ops p=some z):z.2=none∧lK P L p z.1:=by
 unfold kV kH at hz;rw[gL h]at hz;simp only[nI,zTo h]at hz;cases hp:kT P Hm (ln Hn) (evO L) p.op with
 | some y=>
  simp only[hp,Option.some.injEq]at hz;subst hz;have h2:=zKi h hp;refine⟨h2,.inl fun H k=>?_⟩;rw[dV h H Hm k (ln Hn),hp];obtain⟨t,ob⟩:=y;cases h2;rfl
 | none=>
  simp only[hp,zTp h,zZe h]at hz;cases hm:zBl P (evO L) p with
  | none=>simp[hm]at hz
  | some t=>
   simp only[hm,Option.some.injEq]at hz;subst hz;exact⟨rfl,.inr ⟨fun H k=>by rw[dV h H Hm k (ln Hn),hp],hm⟩⟩
def tL(P:Program)(H:List TO)(L:List T)(p:Oper)(v:T):Prop:=(jP p=true∧lK P L p v)∨(p.guard=none∧∃t x,p.op= .load t x∧zBs P H t (evO L x)=some (v,none))
theorem tL.opE{p:Oper}{v:T}(hv:tL P H L p v):opE P cl yd ops p ⟨L,H⟩=some ⟨dst p.dst v L,H⟩:=by
 rcases hv with⟨h,hv⟩ | ⟨hg,t,x,ho,hl⟩
 ·exact qEi h hv
 ·unfold Ev.opE kH;rw[hg];simp only[gQ,ho,kT,hl];rfl
theorem tL.nd{p:Oper}{v:T}(hv:tL P H L p v):yS p.op=true:=by
 rcases hv with⟨h,_⟩ | ⟨_,t,x,ho,_⟩
 ·exact qLd h
 ·rw[ho];rfl
theorem tL.congr{p:Oper}{v:T}(hv:tL P H L p v)(h:∀x∈p.op.operands,evO L x=evO L2 x):tL P H L2 p v:=by
 rcases hv with⟨h1,hv⟩ | ⟨hg,t,x,ho,hl⟩
 ·exact .inl ⟨h1,hv.congr h⟩
 ·refine .inr ⟨hg,t,x,ho,?_⟩;rw[←h x (by rw[ho];simp[Op.operands])]
  exact hl
theorem qCz{x y:Value}(h:eqV x y=true):x=y:=by
 unfold eqV at h;split at h
 ·simp only[Bool.and_eq_true]at h;obtain rfl:=zWm h.1;rw[qDt]at h;simp at h;rw[h]
 ·rename_i a b;cases a<;>cases b<;>first | rfl | cases h
 ·rfl
 ·rfl
 ·rfl
 ·cases h
theorem kQ{e:T→T→Bool}(he:∀a b,e a b=true→a=b):∀{l m:List T},gI e l m=true→l=m
 | [],[],_=>rfl
 | a::l,b::m,h=>by
  simp only[gI,Bool.and_eq_true]at h;rw[he a b h.1,kQ he h.2]
 | [],_::_,h=>by cases h
 | _::_,[],h=>by cases h
theorem mQ:∀(k:Nat)(a b:T),eqU k a b=true→a=b
 | 0,a,b,h=>by cases h
 | k+1,a,b,h=>by
  simp only[eqU]at h;split at h
  ·rw[qCz h]
  ·simp only[Bool.and_eq_true]at h;rw[qB h.1,kQ (mQ k) h.2]
  ·simp only[Bool.and_eq_true]at h;rw[qB h.1,kQ (mQ k) h.2]
  ·rw[kQ (mQ k) h]
  ·rw[kQ (mQ k) h]
  ·rw[kQ (mQ k) h]
  ·simp only[Bool.and_eq_true]at h;rw[qB h.1,kQ (mQ k) h.2]
  ·simp only[Bool.and_eq_true]at h;rw[qB h.1,qB h.2.1,qB h.2.2.1,qB h.2.2.2]
  ·simp only[Bool.and_eq_true]at h;rw[qB h.1,qB h.2.1,qB h.2.2]
  ·simp only[Bool.and_eq_true]at h;rw[qB h.1,qB h.2]
  ·rw[qB h]
  ·cases h
theorem zWf:∀{l:List Nat}{i:Nat},inN i l=true→i∈l
 | [],i,h=>by cases h
 | j::l,i,h=>by
  simp only[inN,Bool.or_eq_true]at h;rcases h with h | h
  ·rw[qB h];exact List.mem_cons_self
  ·exact List.mem_cons_of_mem _ (zWf h)
theorem zKk{s:S}:∀{l:List Nat},rV P ops s l=true→∀i∈l,∀p,ops[i]?=some p→qUh P s p=true
 | [],_,i,hi,_,_=>by cases hi
 | j::l,h,i,hi,p,hp=>by
  simp only[rV,Bool.and_eq_true]at h;rcases List.mem_cons.1 hi with rfl | hi
  ·have:=h.1;rwa[hp]at this
  ·exact zKk h.2 i hi p hp
theorem tL.of_ld{s:S}{ld:List Nat}{i:Nat}{p:Oper}(hp:ops[i]?=some p)(hi:bF p=true)(hin:inN i ld=true)(hl:rV P ops s ld=true):∃d,p.dst=some d∧tL P s.H s.L p (nth .u s.L d):=by
 have h1:=zKk hl i (zWf hin) p hp;unfold bF at hi;simp only[Bool.and_eq_true]at hi;have hg:p.guard=none:=by
  cases hg:p.guard with
  | none=>rfl
  | some _=>have:=hi.1;rw[hg]at this;cases this
 unfold qUh at h1;split at h1
 ·rename_i t x d ho hd;split at h1
  ·rename_i z hz;refine⟨d,hd,.inr ⟨hg,t,x,ho,?_⟩⟩;rw[hz,mQ 12 _ _ h1]
  ·cases h1
 ·cases h1
theorem zBh{m:Nat}{ld vl:List Nat}{i:Nat}{p:Oper}(h:xG m ld vl i p=true):jP p=true∨(bF p=true∧inN i ld=true):=by
 unfold xG at h;cases hb:Nat.blt i m with
 | true=>
  simp only[hb,cond_true,Bool.or_eq_true,Bool.and_eq_true]at h;exact h
 | false=>
  simp only[hb,cond_false,Bool.and_eq_true]at h;exact .inl h.1
theorem zKg{m:Nat}{ld vl:List Nat}{i:Nat}{p:Oper}(h:xG m ld vl i p=true):(jP p||bF p)=true:=by
 rcases zBh h with h | ⟨h,_⟩<;>rw[h]<;>simp
theorem aL{m:Nat}{ld vl:List Nat}{i:Nat}{p:Oper}(h:xG m ld vl i p=true)(hm:m≤i):inN i vl=true:=by
 unfold xG at h;have hb:Nat.blt i m=false:=by
  cases hb:Nat.blt i m with
  | true=>rw[Nat.blt_eq]at hb;omega
  | false=>rfl
 simp only[hb,cond_false,Bool.and_eq_true]at h;exact h.2
theorem zKq{d:Nat}{x:Operand}(h:gP d x=true){t:Nat}(e:x= .tmp t):t≠d:=by
 subst e;intro e;subst e;simp[gP]at h
theorem free_spec{o p:Oper}(h:bU ops o p=true):∃d,p.dst=some d∧(∀t,Operand.tmp t∈o.op.operands→t≠d)∧(∀j b g t,o.guard=some (j,b)→ops[j]?=some g→g.dst=some t→t≠d)∧∀x,o.dst=some x→x≠d∧∀t,Operand.tmp t∈p.op.operands→t≠x:=by
 unfold bU at h;cases hd:p.dst with
 | none=>simp[hd]at h
 | some d=>
  simp only[hd,Bool.and_eq_true]at h;refine⟨d,rfl,fun t ht=>zKq (List.all_eq_true.1 h.1 _ (by simpa using ht)) rfl,fun j b g t h1 h2 h3=>?_,fun x hx=>?_⟩
  ·have h4:=h.2.1;rw[h1]at h4;simp only[h2,h3]at h4;intro e;subst e;simp at h4
  ·have h4:=h.2.2;rw[hx]at h4;simp only[Bool.and_eq_true]at h4;refine⟨fun e=>?_,fun t ht=>zKq (List.all_eq_true.1 h4.2 _ (by simpa using ht)) rfl⟩
   have:=h4.1;subst e;simp at this
end
structure FrL(n:Nat)(a:Act)(L:List T)(D:List Deferred)(B:Bm)(r:Rd)(pd:Nat→Prop):Prop where
 size:a.tmps.size=n
 len:L.length=n
 defers:a.defers=D
 reps:∀(t:Nat)(v:Value),¬pd t→a.tmps[t]?=some v→Rep B r (nth .u L t) v
open Classical in
noncomputable def rX(pd:Nat→Prop)(L:List T):List T:=L.mapIdx fun t x=>if pd t then .u else x
section
variable {pd:Nat→Prop}{L:List T}{t:Nat}{n:Nat}{a:Act}{D:List Deferred}{B:Bm}{r:Rd}
theorem zGy:(rX pd L).length=L.length:=by simp[rX]
theorem nN(h:¬pd t):nth .u (rX pd L) t=nth .u L t:=by
 simp only[qP,List.getD_eq_getElem?_getD,rX,List.getElem?_mapIdx,if_neg h];cases L[t]?<;>rfl
theorem qLm(h:pd t):nth .u (rX pd L) t= .u:=by
 simp only[qP,List.getD_eq_getElem?_getD,rX,List.getElem?_mapIdx,if_pos h];cases L[t]?<;>rfl
theorem FrL.mask(h:FrL n a L D B r pd):FrT n a (rX pd L) D B r:=by
 refine⟨h.size,zN.of ?_ fun t x v hx hv=>?_,h.defers⟩
 ·rw[zGy,h.len];simpa using h.size.symm
 ·have hx':x=nth .u (rX pd L) t:=by rw[qP,List.getD_eq_getElem?_getD,hx];rfl
  rw[hx'];by_cases hp:pd t
  ·rw[qLm hp];exact .u
  ·rw[nN hp];exact h.reps t v hp (by simpa using hv)
theorem FrL.all(h:FrL n a L D B r pd)(hp:∀t,¬pd t):FrT n a L D B r:=by
 refine⟨h.size,zN.of ?_ fun t x v hx hv=>?_,h.defers⟩
 ·rw[h.len];simpa using h.size.symm
 ·have hx':x=nth .u L t:=by rw[qP,List.getD_eq_getElem?_getD,hx];rfl
  rw[hx'];exact h.reps t v (hp t) (by simpa using hv)
end
theorem zKl{l:Array Bool}:∀{n:Nat},(∃i,i<n∧l.getD i false=false)→∃i,i<n∧l.getD i false=false∧∀q,q<i→l.getD q false=true:=by
 intro n h;have:∀k,(∀q,q<k→l.getD q false=true)∨∃i,i<k∧l.getD i false=false∧∀q,q<i→l.getD q false=true:=by
  intro k;induction k with
  | zero=>exact .inl fun q hq=>by omega
  | succ k ihk=>
   rcases ihk with h1 | ⟨i,h1,h2,h3⟩
   ·cases hc:l.getD k false with
    | true=>
     refine .inl fun q hq=>?_;rcases Nat.lt_succ_iff_lt_or_eq.1 hq with h | rfl
     ·exact h1 q h
     ·exact hc
    | false=>exact .inr ⟨k,by omega,hc,h1⟩
   ·exact .inr ⟨i,by omega,h2,h3⟩
 rcases this n with h1 | h1
 ·obtain⟨i,h2,h3⟩:=h;rw[h1 i h2]at h3;cases h3
 ·exact h1
theorem zIs.set{ops:List Oper}{l:Array Bool}{i:Nat}{o:Oper}(h:zIs ops fun q=>l.getD q false=true)(ho:ops[i]?=some o)(hil:i<l.size)(hall:∀e∈o.after,Region.binds .any e=true→l.getD e.on false=true):zIs ops fun q=>(l.setIfInBounds i true).getD q false=true:=by
 intro i2 o2 ho2 h2 e he hb;show(l.setIfInBounds i true).getD e.on false=true;have h2:(l.setIfInBounds i true).getD i2 false=true:=h2;have hon:l.getD e.on false=true:=by
  by_cases hii:i2=i
  ·subst hii;rw[ho]at ho2;cases ho2;exact hall e he hb
  ·rw[getD_set_ne false (Ne.symm hii)]at h2;exact h i2 o2 ho2 h2 e he hb
 by_cases he2:e.on=i
 ·rw[he2];exact kI hil
 ·rw[getD_set_ne false (Ne.symm he2)];exact hon
theorem zMi{P:Program}{cl yd:Cl}{ops:Array Oper}{p:Oper}{s s1:S}(h:jP p=true)(h1:opE P cl yd ops p s=some s1):∃v,lK P s.L p v∧s1=⟨dst p.dst v s.L,s.H⟩:=by
 unfold opE kH at h1;rw[gL h]at h1;simp only[gQ]at h1;cases hp:kT P s.H (ln s.H) (evO s.L) p.op with
 | some y=>
  simp only[hp]at h1;obtain⟨t,ob⟩:=y;have h2:=zKi h hp;simp only at h2;subst h2;simp only[zPg,Option.some.injEq]at h1;exact⟨t,.inl fun H k=>by rw[dV h H s.H k (ln s.H),hp],h1.symm⟩
 | none=>
  simp only[hp,zQo,zKh h,zPz h,qFr]at h1;cases hm:zBl P (evO s.L) p with
  | none=>simp[hm]at h1
  | some t=>
   simp only[hm,Option.some.injEq]at h1;exact⟨t,.inr ⟨fun H k=>by rw[dV h H s.H k (ln s.H),hp],hm⟩,h1.symm⟩
def Pnd(ops:Array Oper)(m:Nat)(l:Array Bool)(t:Nat):Prop:=∃(i:Nat)(p:Oper),i<m∧l.getD i false=false∧ops[i]?=some p∧p.dst=some t
section
variable {P:Program}{E:Nat→Prop}{w0:World}{X:Hid}{F:List Nat}{n:Nat}{D:List Deferred}{ops:Array Oper}{cl yd:Cl}{Q:Exit→Act→World→Prop}{rr:Option Nat}
theorem qNx(hcl:kK P cl)(hyd:kY P yd){ld vl:List Nat}{m:Nat}
  (htl:∀(j:Nat)(o:Oper),m≤j→ops[j]?=some o→∀q,q<j→(∀S:Nat→Prop,zIs ops.toList S→(∀e∈o.after,Region.binds .any e=true→S e.on)→S q)∨∃p,ops[q]?=some p∧xG m ld vl q p=true∧bU ops o p=true)
  (hvl:∀(i:Nat)(o:Oper),ops[i]?=some o→inN i vl=true→jP o=true∧slf o=true∧∀(q:Nat)(p:Oper),q<i→ops[q]?=some p→(jP p||bF p)=true→wfr o p=true)
  (hdp:∀(i:Nat)(p:Oper)(t:Nat),i<m→ops[i]?=some p→Operand.tmp t∈p.op.operands→∀(i':Nat)(p':Oper),i'<m→ops[i']?=some p'→p'.dst=some t→∃e∈p.after,Region.binds .any e=true∧e.on=i')
  (heg:∀(j:Nat)(o:Oper),ops[j]?=some o→∀e∈o.after,Region.binds .any e=true→e.on<j) (hnd:∀o∈ops.toList,yS o.op=true):
  ∀(fuel j:Nat)(s s':S){a:Act}{w:World}{B:Bm}{Y:Hid}{Mo:List (Nat×Obj)}{l:Array Bool}{r0:Rd}{B0:Bm},fF P cl yd ops ld (ops.toList.drop j) s=some s'→m≤j→zNw l≤fuel→l.size=ops.size→(∀i,j≤i→l.getD i false=false)→zIs ops.toList (fun q=>l.getD q false=true)→
   (∀(i:Nat)(p:Oper),i<j→l.getD i false=false→ops[i]?=some p→xG m ld vl i p=true∧∃v,tL P s.H s.L p v∧∀d,p.dst=some d→d<s.L.length→nth .u s.L d=v)→
   Wd P E w0 X F s.H B w Y Mo→FrL n a s.L D B (rd w Y) (Pnd ops j l)→BLe B0 B→Le r0 (rd w Y)→tK P E w0 X F n D s'.H s'.L B0 r0 (Q .normal)→wpAnyIn (FF rr) 0 P .any ops Q fuel l a w:=by
 have qCv:∀{i:Nat}{o:Oper},ops[i]?=some o→ops.toList.drop i=o::ops.toList.drop (i+1):=fun{i o}hoi=>by
  have h1:i<ops.toList.length:=by rw[Array.length_toList];exact(Array.getElem?_eq_some_iff.1 hoi).1
  rw[List.drop_eq_getElem_cons h1];congr 1;have:=(Array.getElem?_eq_some_iff.1 hoi).2;simpa using this
 have virt:∀(c j:Nat)(s s':S){a:Act}{w:World}{B:Bm}{Y:Hid}{l:Array Bool},fF P cl yd ops ld (ops.toList.drop j) s=some s'→m≤j→j+c≤ops.size→(∀i,j≤i→l.getD i false=false)→(∀q,j≤q→q<j+c→∃p,ops[q]?=some p∧xG m ld vl q p=true)→
   (∀(i:Nat)(p:Oper),i<j→l.getD i false=false→ops[i]?=some p→xG m ld vl i p=true∧∃v,tL P s.H s.L p v∧∀d,p.dst=some d→d<s.L.length→nth .u s.L d=v)→FrL n a s.L D B (rd w Y) (Pnd ops j l)→
   ∃s2:S,s2.H=s.H∧fF P cl yd ops ld (ops.toList.drop (j+c)) s2=some s'∧(∀(i:Nat)(p:Oper),i<j+c→l.getD i false=false→ops[i]?=some p→xG m ld vl i p=true∧∃v,tL P s2.H s2.L p v∧∀d,p.dst=some d→d<s2.L.length→nth .u s2.L d=v)∧FrL n a s2.L D B (rd w Y) (Pnd ops (j+c) l):=by
  intro c;induction c with
  | zero=>exact fun j s s'{a w B Y l}h _ _ _ _ hp hF=>⟨s,rfl,h,hp,hF⟩
  | succ c ihc=>
   intro j s s' a w B Y l h hm hsz hT hq hp hF;obtain⟨oj,hoj,hlj⟩:=hq j (Nat.le_refl _) (by omega)
   obtain⟨hk,hslf,hw⟩:=hvl j oj hoj (aL hlj hm);rw[qCv hoj]at h;simp only[fF]at h;cases h1:opE P cl yd ops oj s with
   | none=>simp[h1]at h
   | some s1=>
    simp only[h1]at h;cases hld:rV P ops s1 ld with
    | false=>simp[hld]at h
    | true=>
     simp only[hld,cond_true]at h;obtain⟨v,hv,rfl⟩:=zMi hk h1;have hp1:∀(i:Nat)(p:Oper),i<j+1→l.getD i false=false→ops[i]?=some p→xG m ld vl i p=true∧∃v',tL P s.H (dst oj.dst v s.L) p v'∧∀d,p.dst=some d→d<(dst oj.dst v s.L).length→nth .u (dst oj.dst v s.L) d=v':=fun i p hi hl hpi=>by
      rcases Nat.lt_or_ge i j with hij | hij
      ·obtain⟨k4,v',k5,k6⟩:=hp i p hij hl hpi;have hwf:=zRx (hw i p hij hpi (zKg k4));refine⟨k4,v',k5.congr fun x hx=>?_,fun d hd hlt=>?_⟩
       ·cases x with
        | tmp t=>
         show nth .u s.L t=nth .u (dst oj.dst v s.L) t;rw[yH fun e=>(hwf t e).2 t hx rfl]
        | _=>rfl
       ·rw[rR]at hlt;rw[yH fun e=>(hwf d e).1 d hd rfl];exact k6 d hd hlt
      ·obtain rfl:i=j:=by omega
       rw[hoj]at hpi;cases hpi;refine⟨hlj,v,.inl ⟨hk,hv.congr fun x hx=>?_⟩,fun d hd hlt=>?_⟩
       ·cases x with
        | tmp t=>
         show nth .u s.L t=nth .u (dst oj.dst v s.L) t;rw[yH fun e=>zRs hslf t e t hx rfl]
        | _=>rfl
       ·rw[rR]at hlt;rw[hd,zAy hlt]
     have Z1:FrL n a (dst oj.dst v s.L) D B (rd w Y) (Pnd ops (j+1) l):=by
      refine⟨hF.size,by rw[rR];exact hF.len,hF.defers,fun t x hnp hx=>?_⟩
      have hne:oj.dst≠some t:=fun e=>hnp ⟨j,oj,Nat.lt_succ_self j,hT j (Nat.le_refl _),hoj,e⟩;rw[yH hne];exact hF.reps t x (fun⟨i',p',g1,g2,g3,g4⟩=>hnp ⟨i',p',by omega,g2,g3,g4⟩) hx
     obtain⟨s2,e1,e2,e3,e4⟩:=ihc (j+1) ⟨dst oj.dst v s.L,s.H⟩ s' h (by omega) (by omega) (fun i hi=>hT i (by omega)) (fun q h1 h2=>hq q (by omega) (by omega)) hp1 Z1
     have hjc:j+1+c=j+(c+1):=by omega
     rw[hjc]at e2 e3 e4;exact⟨s2,e1,e2,e3,e4⟩
 have done:∀(fuel j:Nat)(s s':S){a:Act}{w:World}{B:Bm}{Y:Hid}{Mo:List (Nat×Obj)}{l:Array Bool}{r0:Rd}{B0:Bm},fF P cl yd ops ld (ops.toList.drop j) s=some s'→m≤j→l.size=ops.size→(∀i,j≤i→l.getD i false=false)→(∀i,i<ops.size→l.getD i false=true)→
   Wd P E w0 X F s.H B w Y Mo→FrL n a s.L D B (rd w Y) (Pnd ops j l)→BLe B0 B→Le r0 (rd w Y)→tK P E w0 X F n D s'.H s'.L B0 r0 (Q .normal)→wpAnyIn (FF rr) 0 P .any ops Q fuel l a w:=fun fuel j s s'{a w B Y Mo l r0 B0}h hmj hl hT hall hW hF hB hr hk=>by
  have hj:ops.size≤j:=by
   rcases Nat.lt_or_ge j ops.size with h1 | h1
   ·have h2:=hall j h1;rw[hT j (Nat.le_refl _)]at h2;cases h2
   ·exact h1
  rw[List.drop_eq_nil_of_le (by simpa using hj)]at h
  simp only[fF,Option.some.injEq]at h;subst h;refine wpAnyIn_done ?_ (hk _ _ _ _ _ hW (hF.all fun t ht=>?_) hB hr) fuel
  ·cases he:Region.ready .any ops l with
   | nil=>rfl
   | cons x xs=>
    exfalso;obtain⟨hun,o,ho,_⟩:=mem_ready.1 (by rw[he];exact List.mem_cons_self:x∈Region.ready .any ops l)
    have hx:=(Array.getElem?_eq_some_iff.1 ho).1;have h1:=hall x hx;have hs:x<l.size:=by omega
    simp[hs]at hun h1;rw[h1]at hun;cases hun
  ·obtain⟨i,p,_,h2,h3,_⟩:=ht;rw[hall i (Array.getElem?_eq_some_iff.1 h3).1]at h2;cases h2
 intro fuel;induction fuel with
 | zero=>
  intro j s s' a w B Y Mo l r0 B0 h hm hf hl hT hS hp hW hF hB hr hk;refine done 0 j s s' h hm hl hT (fun i hi=>?_) hW hF hB hr hk;cases hc:l.getD i false with
  | true=>rfl
  | false=>have:=zCe (by omega) hc;omega
 | succ fuel ih=>
  intro j s s' a w B Y Mo l r0 B0 h hm hf hl hT hS hp hW hF hB hr hk;by_cases hex:∃i,i<ops.size∧l.getD i false=false
  ·obtain⟨i0,hi0,hl0,hbelow⟩:=zKl hex;obtain⟨o0,ho0⟩:∃o,ops[i0]?=some o:=⟨ops[i0],by simp[hi0]⟩
   have hr0:i0∈Region.ready .any ops l:=zRf hl ho0 hl0 fun e he hb=>hbelow _ (heg i0 o0 ho0 e he hb);refine⟨fun h0=>absurd (h0▸hr0) (by simp),fun i hi=>?_⟩
   obtain⟨hun,oi,hoi,hall⟩:=mem_ready.1 hi;have hil:i<l.size:=by rw[hl];exact(Array.getElem?_eq_some_iff.1 hoi).1
   have hli:l.getD i false=false:=by simpa[hil]using hun
   have hoi':ops.toList[i]?=some oi:=by simpa using hoi
   have hS':=hS.set hoi' hil hall;have hu:=zCe hil hli;rcases Nat.lt_or_ge i j with hij0 | hij0
   ·obtain⟨hk1,v,hv,hvd⟩:=hp i oi hij0 hli hoi;have hcg:∀x∈oi.op.operands,evO s.L x=evO (rX (Pnd ops j l) s.L) x:=fun x hx=>by
     cases x with
     | tmp t=>
      refine(nN fun⟨i',p',h1,h2,h3,h4⟩=>?_).symm;have hk1':=(hp i' p' h1 h2 h3).1;rcases Nat.lt_trichotomy i' i with hlt | heq | hgt
      ·rcases Nat.lt_or_ge i m with him | him
       ·obtain⟨e,he,hb,hon⟩:=hdp i oi t him hoi hx i' p' (by omega) h3 h4
        have:=hall e he hb;rw[hon,h2]at this;cases this
       ·rcases htl i oi him hoi i' hlt with q1 | ⟨p2,q1,_,q2⟩
        ·have:=q1 (fun q=>l.getD q false=true) hS hall;rw[h2]at this;cases this
        ·rw[h3]at q1;cases q1;obtain⟨d,f1,f2,_⟩:=free_spec q2;rw[h4]at f1;cases f1;exact f2 t hx rfl
      ·subst heq;rw[hoi]at h3;cases h3;rcases Nat.lt_or_ge i' m with him | him
       ·obtain⟨e,he,hb,hon⟩:=hdp i' oi t him hoi hx i' oi him hoi h4;have:=heg i' oi hoi e he hb;omega
       ·exact zRs (hvl i' oi hoi (aL hk1 him)).2.1 t h4 t hx rfl
      ·rcases Nat.lt_or_ge i' m with him | him
       ·obtain⟨e,he,hb,hon⟩:=hdp i oi t (by omega) hoi hx i' p' him h3 h4
        have:=heg i oi hoi e he hb;omega
       ·exact(zRx ((hvl i' p' h3 (aL hk1' him)).2.2 i oi hgt hoi (zKg hk1)) t h4).2 t hx rfl
     | _=>rfl
    have hv':=hv.congr hcg;have hlo:=hv'.opE (cl:=cl) (yd:=yd) (ops:=ops);unfold wpOpIn;simp only[hoi];refine zHe hcl hyd hlo hv'.nd hW hF.mask fun a' w' B' Y' Mo' g1 g2 g3 g4=>?_;refine ih j s s' h hm (by omega) (by simpa using hl) (fun q hq=>?_) hS' (fun i' p h1 h2 h3=>?_) g1 ⟨g2.size,hF.len,g2.defers,fun t x hnp hx=>?_⟩ (hB.trans g3) (hr.trans g4) hk
    ·rw[getD_set_ne false (by omega)];exact hT q hq
    ·refine hp i' p h1 ?_ h3;by_cases e:i=i'
     ·subst e;rw[kI hil]at h2;cases h2
     ·rwa[getD_set_ne false e]at h2
    ·have hR:=g2.reps.getD t;have:a'.tmps.toList.getD t undef=x:=by simp[hx]
     rw[this]at hR;by_cases e:oi.dst=some t
     ·rcases Nat.lt_or_ge t s.L.length with ht | ht
      ·rw[hvd t e ht];have hR:Rep B' (rd w' Y') (nth .u (dst oi.dst v (rX (Pnd ops j l) s.L)) t) x:=hR;rwa[e,zAy (by rw[zGy];exact ht)]at hR
      ·rw[qP,List.getD_eq_getElem?_getD,List.getElem?_eq_none ht];exact .u
     ·have hR:Rep B' (rd w' Y') (nth .u (dst oi.dst v (rX (Pnd ops j l) s.L)) t) x:=hR;have hmn:¬Pnd ops j l t:=fun⟨i',p',h1,h2,h3,h4⟩=>hnp ⟨i',p',h1,(by
       rw[getD_set_ne false (fun e'=>e (by subst e';rw[hoi]at h3;cases h3;exact h4))]
       exact h2),h3,h4⟩
      rwa[yH e,nN hmn]at hR
   ·have hpass:∀q,j≤q→q<j+(i-j)→∃p,ops[q]?=some p∧xG m ld vl q p=true:=fun q h1 h2=>by
     rcases htl i oi (by omega) hoi q (by omega)with h3 | ⟨p,h3,h4,_⟩
     ·have:=h3 (fun q=>l.getD q false=true) hS hall;rw[hT q h1]at this;cases this
     ·exact⟨p,h3,h4⟩
    obtain⟨s,hsH,h,hp,hF⟩:=virt (i-j) j s s' h hm (by have:=(Array.getElem?_eq_some_iff.1 hoi).1;omega) hT hpass hp hF
    have hji:j+(i-j)=i:=by omega
    rw[hji]at h hp hF;rw[←hsH]at hW;have him:m≤i:=by omega
    have hT:∀q,i≤q→l.getD q false=false:=fun q hq=>hT q (by omega)
    have hfree:∀(i':Nat)(p':Oper),i'<i→l.getD i' false=false→ops[i']?=some p'→bU ops oi p'=true:=fun i' p' h1 h2 h3=>by
     rcases htl i oi him hoi i' h1 with h4 | ⟨p,h4,_,h5⟩
     ·have:=h4 (fun q=>l.getD q false=true) hS hall;rw[this]at h2;cases h2
     ·rw[h3]at h4;cases h4;exact h5
    have hcg:∀x∈oi.op.operands,evO s.L x=evO (rX (Pnd ops i l) s.L) x:=fun x hx=>by
     cases x with
     | tmp t=>
      refine(nN fun⟨i',p',h1,h2,h3,h4⟩=>?_).symm;obtain⟨d,g1,g2,_⟩:=free_spec (hfree i' p' h1 h2 h3);rw[h4]at g1;cases g1;exact g2 t hx rfl
     | _=>rfl
    have hgd:∀j b p t,oi.guard=some (j,b)→ops[j]?=some p→p.dst=some t→nth .u s.L t=nth .u (rX (Pnd ops i l) s.L) t:=fun j b p t e1 e2 e3=>by
     refine(nN fun⟨i',p',h1,h2,h3,h4⟩=>?_).symm;obtain⟨d,g1,_,g2,_⟩:=free_spec (hfree i' p' h1 h2 h3);rw[h4]at g1;cases g1;exact g2 j b p t e1 e2 e3 rfl
    rw[qCv hoi]at h;simp only[fF]at h;cases h1:opE P cl yd ops oi s with
    | none=>simp[h1]at h
    | some s1=>
     simp only[h1]at h;cases hld:rV P ops s1 ld with
     | false=>simp[hld]at h
     | true=>
     simp only[hld,cond_true]at h;have hpar:=qMf (P:=P) (cl:=cl) (yd:=yd) (H:=s.H) oi hcg hgd;have h1':opE P cl yd ops oi ⟨s.L,s.H⟩=some s1:=h1;rw[h1']at hpar;cases h2:opE P cl yd ops oi ⟨rX (Pnd ops i l) s.L,s.H⟩with
     | none=>rw[h2]at hpar;exact hpar.elim
     | some s2=>
      rw[h2]at hpar;obtain⟨tv,e1,e2,e3⟩:=hpar;unfold wpOpIn;simp only[hoi];refine zHe hcl hyd h2 (hnd oi (by simpa using Array.mem_of_getElem? hoi)) hW hF.mask fun a' w' B' Y' Mo' g1 g2 g3 g4=>?_
      rw[←e3]at g1;rw[e2]at g2;refine ih (i+1) s1 s' h (by omega) (by omega) (by simpa using hl) (fun q hq=>?_) hS' (fun i' p k1 k2 k3=>?_) g1 ⟨g2.size,by rw[e1,rR];exact hF.len,g2.defers,fun t x hnp hx=>?_⟩ (hB.trans g3) (hr.trans g4) hk
      ·rw[getD_set_ne false (by omega)];exact hT q (by omega)
      ·have hne:i≠i':=fun e=>by
        subst e;rw[kI hil]at k2;cases k2
       rw[getD_set_ne false hne]at k2;obtain⟨k4,v,k5,k6⟩:=hp i' p (by omega) k2 k3
       obtain⟨d,f1,_,_,f4⟩:=free_spec (hfree i' p (by omega) k2 k3)
       rcases zBh k4 with hkk | ⟨hk1,hk2⟩
       case inr=>
        obtain⟨d2,q1,q2⟩:=tL.of_ld k3 hk1 hk2 hld;exact⟨k4,_,q2,fun d' hd' _=>by rw[q1]at hd';cases hd';rfl⟩
       have k5:tL P s1.H s.L p v:=by
        rcases k5 with k5 | ⟨_,t,x,ho,_⟩
        ·exact .inl k5
        ·have:=vJ hkk;rw[ho]at this;exact this.elim
       refine⟨k4,v,k5.congr fun x hx=>?_,fun d' hd' hlt=>?_⟩
       ·cases x with
        | tmp t=>
         show nth .u s.L t=nth .u s1.L t;rw[e1,yH fun e=>(f4 t e).2 t hx rfl]
        | _=>rfl
       ·rw[f1]at hd';cases hd';rw[e1,rR]at hlt;rw[e1,yH fun e=>(f4 d e).1 rfl];exact k6 d f1 hlt
      ·have hR:=g2.reps.getD t;have:a'.tmps.toList.getD t undef=x:=by simp[hx]
       rw[this]at hR;rw[e1];by_cases e:oi.dst=some t
       ·rcases Nat.lt_or_ge t s.L.length with ht | ht
        ·rw[e,zAy ht];rwa[e,zAy (by rw[zGy];exact ht)]at hR
        ·rw[qP,List.getD_eq_getElem?_getD,List.getElem?_eq_none (by rw[rR];exact ht)];exact .u
       ·rw[yH e];have hmn:¬Pnd ops i l t:=fun⟨i',p',h1,h2,h3,h4⟩=>hnp ⟨i',p',by omega,(by rw[getD_set_ne false (by omega)];exact h2),h3,h4⟩
        rwa[yH e,nN hmn]at hR
  ·refine done _ j s s' h hm hl hT (fun i hi=>?_) hW hF hB hr hk;cases hc:l.getD i false with
   | true=>rfl
   | false=>exact absurd ⟨i,hi,hc⟩ hex
end
structure Dr where
 P:Program
 E:Nat→Prop
 w0:World
 X:Hid
 F:List Nat
 n:Nat
 D:List Deferred
 ops:Array Oper
 H0:List TO
 Hm:List TO
 L0:List T
 rs:List (T×Option TO)
 B0:Bm
 r0:Rd
noncomputable def Dr.ks(R:Dr):List (Option Nat):=ksE R.ops.toList R.rs R.L0
structure FrD(R:Dr)(l:Array Bool)(a:Act)(B:Bm)(r:Rd):Prop where
 size:a.tmps.size=R.n
 defers:a.defers=R.D
 done:∀(i:Nat)(z:T×Option TO)(o:Oper)(d:Nat)(v:Value),R.rs[i]?=some z→R.ops[i]?=some o→o.dst=some d→l.getD i false=true→a.tmps[d]?=some v→Rep B r z.1 v
 rest:∀(t:Nat)(v:Value),(∀(i:Nat)(o:Oper),i<R.rs.length→R.ops[i]?=some o→o.dst=some t→l.getD i false=false)→a.tmps[t]?=some v→Rep B r (nth .u R.L0 t) v
structure Inv(R:Dr)(l:Array Bool)(a:Act)(w:World)(B:Bm)(Y:Hid)(Mo:List (Nat×Obj)):Prop where
 wd:Wd R.P R.E R.w0 R.X R.F (vH l R.ks R.H0++qR l 0 R.rs) B w Y Mo
 fr:FrD R l a B (rd w Y)
 ble:BLe R.B0 B
 le:Le R.r0 (rd w Y)
 free:∀(i:Nat)(t:T)(ob:TO),R.rs[i]?=some (t,some ob)→l.getD i false=false→B (R.H0.length+pos R.rs i)=none
 head:∀i,R.rs.length≤i→l.getD i false=false
 lsz:l.size=R.ops.size
structure Ok(R:Dr)(po:Po)(K:Nat):Prop where
 spec:∀(i:Nat)(z:T×Option TO),R.rs[i]?=some z→∃o,R.ops.toList[i]?=some o∧kV R.P po R.H0 R.Hm (R.Hm++qD (R.rs.take i)) (yX R.ops.toList (R.rs.take i) R.L0) R.ops o=some z
 hd:zGr R.ops (R.ops.toList.take R.rs.length) (R.ops.toList.take R.rs.length) 0=true
 tl:zAh R.ops R.rs.length (aM R.ops R.rs.length) (vlR R.ops R.rs.length) (R.ops.toList.take R.rs.length) ((vZ R.ops.toList []).drop R.rs.length) (R.ops.toList.drop R.rs.length) R.rs.length=true
 eg:zGh R.ops.toList 0=true
 len:R.rs.length≤R.ops.toList.length
 slots:R.L0.length=R.n
 po:∀f az tv nw,po f az=some (tv,nw)→KnP R.P K f az tv nw
 bd:R.H0.length+R.ops.size≤K
 nd:∀o∈R.ops.toList,yS o.op=true
 hml:R.Hm.length=R.H0.length
 hms:∀(q:Nat)(x:TO),R.Hm[q]?=some x→x≠.gone→R.H0[q]?=some x
 ksg:∀q,some q∈R.ks→nth .gone R.Hm q= .gone
 ks1:∀(i j q:Nat),R.ks[i]?=some (some q)→R.ks[j]?=some (some q)→i=j
section
variable {R:Dr}{po:Po}{k:Nat}{l:Array Bool}{a:Act}{w:World}{B:Bm}{Y:Hid}{Mo:List (Nat×Obj)}{o:Oper}{i:Nat}{rr:Option Nat}{Q:Exit→Act→World→Prop}
theorem Ok.hget(hOk:Ok R po k){i:Nat}{o:Oper}(hi:i<R.rs.length)(ho:R.ops[i]?=some o):(R.ops.toList.take R.rs.length)[i]?=some o:=by
 rw[List.getElem?_take,if_pos hi];simpa using ho
theorem Ok.once(hOk:Ok R po k){i j:Nat}{o o':Oper}{d:Nat}(hi:i<R.rs.length)(hj:j<R.rs.length)(ho:R.ops[i]?=some o)(ho':R.ops[j]?=some o')(hd:o.dst=some d)(hd':o'.dst=some d):i=j:=by
 rcases Nat.lt_trichotomy i j with h | h | h
 ·exact absurd hd' ((kZ hOk.hd i o (hOk.hget hi ho)).2.2 d hd j o' h (hOk.hget hj ho'))
 ·exact h
 ·exact absurd hd ((kZ hOk.hd j o' (hOk.hget hj ho')).2.2 d hd' i o h (hOk.hget hi ho))
theorem zXq(hOk:Ok R po k)(hI:Inv R l a w B Y Mo)(hi:i<R.rs.length)(ho:R.ops[i]?=some o)(hr:∀e∈o.after,Region.binds .any e=true→l.getD e.on false=true){t:Nat}(hs:zDs (R.ops.toList.take R.rs.length) o i t=true):
  Rep B (rd w Y) (nth .u (yX R.ops.toList (R.rs.take i) R.L0) t) (a.tmps.getD t undef):=by
 cases hv:a.tmps[t]? with
 | none=>
  have ht:R.n≤t:=by
   rcases Nat.lt_or_ge t R.n with h | h
   ·rw[←hI.fr.size]at h;simp[h]at hv
   ·exact h
  have:nth .u (yX R.ops.toList (R.rs.take i) R.L0) t= .u:=by
   rw[qP,List.getD_eq_getElem?_getD,List.getElem?_eq_none (by rw[dS,hOk.slots];exact ht)];rfl
  rw[this];exact .u
 | some v=>
  have hget:a.tmps.getD t undef=v:=by simp[hv]
  rw[hget];unfold zDs at hs;cases hw:wrt t (R.ops.toList.take R.rs.length) 0 with
  | none=>
   have hn:=fU hw;have h0:∀(j:Nat)(o':Oper),j<R.rs.length→R.ops[j]?=some o'→o'.dst≠some t:=fun j o' hj ho'=>hn j o' (hOk.hget hj ho');rw[nL _ _ _ _ (fun j o' hj ho'=>h0 j o' (by simp at hj;omega) (by simpa using ho'))]
   exact hI.fr.rest t v (fun j o' hj ho' hd=>absurd hd (h0 j o' hj ho')) hv
  | some j=>
   simp only[hw,Bool.and_eq_true,Nat.blt_eq]at hs;obtain⟨j',o',e1,h1,h2⟩:=zCi hw;obtain rfl:j=j':=by omega
   have hj:j<R.rs.length:=by omega
   have ho':R.ops[j]?=some o':=by
    rw[List.getElem?_take,if_pos hj]at h1;simpa using h1
   obtain⟨e,he,hb,hon⟩:=zEp hs.2;have hdone:l.getD j false=true:=by rw[←hon];exact hr e he hb
   obtain⟨z,hz⟩:∃z,R.rs[j]?=some z:=⟨R.rs[j],by simp[hj]⟩
   have ht:t<R.L0.length:=by
    have:=(Array.getElem?_eq_some_iff.1 hv).1;rw[hI.fr.size]at this;rw[hOk.slots];exact this
   rw[dU _ _ _ t j o' z ht (by simpa using ho') (by rw[List.getElem?_take,if_pos hs.1];exact hz) h2 fun q o2 hq hl ho2 hd2=>?_]
   ·exact hI.fr.done j z o' t v hz ho' h2 hdone hv
   ·exact hq (hOk.once (by simp at hl;omega) hj (by simpa using ho2) ho' hd2 h2)
theorem qMp(hOk:Ok R po k)(hI:Inv R l a w B Y Mo)(hi:i<R.rs.length)(ho:R.ops[i]?=some o)(hr:∀e∈o.after,Region.binds .any e=true→l.getD e.on false=true)(x:Operand)(hx:x∈o.op.operands):
  Rep B (rd w Y) (evO (yX R.ops.toList (R.rs.take i) R.L0) x) (a.eval x):=by
 have h:=(kZ hOk.hd i o (hOk.hget hi ho)).1 x (by simpa using hx)
 rw[Nat.zero_add]at h;cases x with
 | tmp t=>exact zXq hOk hI hi ho hr h
 | const v=>exact zBn v
 | global g=>exact .u
 | func f=>exact Rep.mkFn (vs:=[]) trivial
theorem qIn{ops:Array Oper}{L:List T}{r:Rd}(hg:∀j b p t,o.guard=some (j,b)→ops[j]?=some p→p.dst=some t→Rep B r (nth .u L t) (a.tmps.getD t undef)){q:Bool}(h:kH ops L o=some q):Region.wanted o (yielded ops a.tmps)=q:=by
 unfold kH at h;unfold Region.wanted;cases hgd:o.guard with
 | none=>simp only[hgd,Option.some.injEq]at h;simpa using h
 | some jb=>
  obtain⟨j,b⟩:=jb;simp only[hgd]at h;cases hj:ops[j]? with
  | none=>simp[hj]at h
  | some p=>
   simp only[hj]at h;cases hd:p.dst with
   | none=>simp[hd]at h
   | some t=>
    simp only[hd]at h;have hR:=hg j b p t hgd hj hd;split at h
    ·rename_i c e;rw[e]at hR;obtain⟨hv,_⟩:=hR.vI;cases ht:a.tmps[t]? with
     | none=>simp[ht]at hv;cases hv
     | some u=>
      have:u= .bool c:=by simpa[ht]using hv
      subst this;simp only[yielded,hj,hd,Option.bind_some,ht];cases h;cases c<;>cases b<;>rfl
    ·cases h
    ·rename_i e;rw[e]at hR;obtain⟨vs,hv,hl⟩:=hR.tuI;cases vs with
     | cons x y=>exact hl.elim
     | nil=>
      cases h;cases ht:a.tmps[t]? with
      | none=>simp only[yielded,hj,hd,Option.bind_some,ht];cases b<;>rfl
      | some u=>
       have:u= .tuple #[]:=by simpa[ht]using hv
       subst this;simp only[yielded,hj,hd,Option.bind_some,ht];cases b<;>rfl
    ·cases h
theorem zQi{l:List TO}{i:Nat}{x:TO}(h:nth .gone l i=x)(hx:x≠.gone):l[i]?=some x:=by
 rw[qP,List.getD_eq_getElem?_getD]at h;cases hi:l[i]? with
 | none=>rw[hi]at h;exact absurd h.symm hx
 | some y=>rw[hi]at h;simp at h;rw[h]
theorem FrD.step(hOk:Ok R po k){r:Rd}(h:FrD R l a B r)(hi:i<R.rs.length)(ho:R.ops[i]?=some o){z:T×Option TO}(hz:R.rs[i]?=some z){v:Value}(hv:Rep B r z.1 v)(hls:i<l.size):FrD R (l.setIfInBounds i true) (a.put o.dst v) B r:=by
 have htm:∀t,(a.put o.dst v).tmps[t]?=if o.dst=some t∧t<a.tmps.size then some v else a.tmps[t]?:=fun t=>by
  cases hd:o.dst with
  | none=>simp[Act.put]
  | some d=>
   simp only[Act.put,Option.some.injEq];by_cases e:d=t
   ·subst e;by_cases hlt:d<a.tmps.size
    ·simp[hlt]
    ·simp[hlt]
   ·rw[Array.getElem?_setIfInBounds_ne e,if_neg (fun h=>e h.1)]
 refine⟨?_,?_,fun j z' o' d u hz' ho' hd' hl hu=>?_,fun t u hn hu=>?_⟩
 ·cases hd:o.dst<;>simp[Act.put,h.size]
 ·cases hd:o.dst<;>simp[Act.put,h.defers]
 ·rw[htm]at hu;by_cases e:i=j
  ·subst e;rw[ho]at ho';cases ho';rw[hz]at hz';cases hz';split at hu
   ·cases hu;exact hv
   ·rename_i hn;have:=(Array.getElem?_eq_some_iff.1 hu).1;exact absurd ⟨hd',this⟩ hn
  ·rw[getD_set_ne false e]at hl;split at hu
   ·rename_i hc;exact absurd (hOk.once hi (List.getElem?_eq_some_iff.1 hz').1 ho ho' hc.1 hd') e
   ·exact h.done j z' o' d u hz' ho' hd' hl hu
 ·rw[htm]at hu;split at hu
  ·rename_i hc;have:=hn i o hi ho hc.1;rw[kI hls]at this;cases this
  ·refine h.rest t u (fun j o' hj ho' hd=>?_) hu;have:=hn j o' hj ho' hd;by_cases e:i=j
   ·subst e;rw[kI hls]at this;cases this
   ·rwa[getD_set_ne false e]at this
theorem FrD.mono{r r':Rd}{B':Bm}(h:FrD R l a B r)(hB:BLe B B')(hr:Le r r'):FrD R l a B' r':=
 ⟨h.size,h.defers,fun i z o d v h1 h2 h3 h4 h5=>(h.done i z o d v h1 h2 h3 h4 h5).mono hB hr,fun t v h1 h2=>(h.rest t v h1 h2).mono hB hr⟩
theorem Inv.val(hOk:Ok R po k)(hI:Inv R l a w B Y Mo){w':World}(hw:Upd E0 w w')(hi:i<R.rs.length)(ho:R.ops[i]?=some o){t:T}(hz:R.rs[i]?=some (t,none)){v:Value}(hv:Rep B (rd w' Y) t v)(hls:i<l.size):
  Inv R (l.setIfInBounds i true) (a.put o.dst v) w' B Y Mo:=by
 have e:=aO l R.rs 0 i t hz;rw[Nat.zero_add]at e;have ek:vH (l.setIfInBounds i true) R.ks R.H0=vH l R.ks R.H0:=zDc fun q hq=>by
  have:=zMh R.ops.toList R.rs R.L0 i o _ (by simpa using ho) hz
  rw[show ksE R.ops.toList R.rs R.L0=R.ks from rfl,hq]at this;cases this
 refine⟨by rw[e,ek];exact hI.wd.call hw,FrD.step hOk (hI.fr.mono (BLe.refl B) (hw.le Y)) hi ho hz hv hls,hI.ble,hI.le.trans (hw.le Y),fun j t' ob hj hl=>?_,fun j hj=>?_,by simpa using hI.lsz⟩
 ·by_cases e:i=j
  ·subst e;rw[hz]at hj;cases hj
  ·rw[getD_set_ne false e]at hl;exact hI.free j t' ob hj hl
 ·rw[getD_set_ne false (by omega)];exact hI.head j hj
theorem Ok.sub0(hOk:Ok R po k){q:Nat}{x:TO}(h:R.Hm[q]?=some x)(hx:x≠.gone):(vH l R.ks R.H0)[q]?=some x:=by
 rw[wO,hOk.hms q x h hx];have:kN l R.ks q=false:=by
  cases hk:kN l R.ks q with
  | false=>rfl
  | true=>
   obtain⟨i,h1,_⟩:=yJ.1 hk;have h2:=hOk.ksg q (List.mem_of_getElem? h1);rw[qP,List.getD_eq_getElem?_getD,h]at h2;exact absurd h2 hx
 simp[this]
theorem zXu(hOk:Ok R po k)(hI:Inv R l a w B Y Mo){q:Nat}{x:TO}(hB:B q≠none)(h:(R.Hm++qD (R.rs.take i))[q]?=some x)(hx:x≠.gone):(vH l R.ks R.H0++qR l 0 R.rs)[q]?=some x:=by
 rcases Nat.lt_or_ge q R.H0.length with hlt | hge
 ·rw[List.getElem?_append_left (by rw[hOk.hml];exact hlt)]at h
  rw[List.getElem?_append_left (by rw[jO];exact hlt)]
  exact hOk.sub0 h hx
 ·rw[List.getElem?_append_right (by rw[hOk.hml];exact hge),hOk.hml]at h
  rw[List.getElem?_append_right (by rw[jO];exact hge),jO]
  obtain⟨j,t',h1,h2,h3⟩:=zDk _ _ _ _ h;have hlj:l.getD j false=true:=by
   cases hlj:l.getD j false with
   | true=>rfl
   | false=>exact absurd (by rw[←hI.free j t' x h2 hlj,h3];congr 1;omega) hB
  have:=cB l R.rs 0 j t' x h2;rw[Nat.zero_add,hlj,h3]at this;rw[this];rfl
theorem zFm{H K:List TO}{q:Nat}{x:TO}(hs:∀x,H[q]?=some x→x≠.gone→K[q]?=some x)(h:nth .gone H q=x)(hx:x≠.gone):nth .gone K q=x:=by
 have:=hs x (zQi h hx) hx;rw[qP,List.getD_eq_getElem?_getD,this];rfl
theorem zHc{H K:List TO}{q:Nat}{cs:List T}(hs:∀x,H[q]?=some x→x≠.gone→K[q]?=some x)(h:nQ (nth .gone H q)=some cs):nQ (nth .gone K q)=some cs:=by
 cases hx:nth .gone H q with
 | gone=>rw[hx]at h;cases h
 | _=>rw[hx]at h;rw[zFm hs hx (by simp)];exact h
theorem qDi{H K:List TO}{t:T}{cs:List T}(hs:∀(q:Nat)(x:TO),H[q]?=some x→x≠.gone→K[q]?=some x)(h:bV H t=some cs):bV K t=some cs:=by
 cases t<;>simp only[bV]at h ⊢<;>try exact h
 rename_i i o;cases hr:nQ (nth .gone H i)with
 | none=>simp[hr]at h
 | some x=>rw[zHc (fun x=>hs i x) hr];rw[hr]at h;exact h
theorem zCo{H K:List TO}{s:Nat}{t:T}{v:Value}{cs:List T}{r:Rd}(hR:Rep B r t v)(hs:∀(q:Nat)(x:TO),B q≠none→H[q]?=some x→x≠.gone→K[q]?=some x)(h:qC H s t=some cs):qC K s t=some cs:=by
 cases t with
 | os i o n c=>
  obtain⟨b,C,_,hB⟩:=hR.osI;simp only[qC]at h ⊢;cases hr:nQ (nth .gone H i)with
  | none=>simp[hr]at h
  | some x=>rw[zHc (fun x=>hs i x (by rw[hB];simp)) hr];rw[hr]at h;exact h
 | og i o n=>
  obtain⟨b,C,c,_,hB,_⟩:=hR.ogI;simp only[qC]at h ⊢;cases hr:nQ (nth .gone H i)with
  | none=>simp[hr]at h
  | some x=>rw[zHc (fun x=>hs i x (by rw[hB];simp)) hr];rw[hr]at h;exact h
 | v x=>
  unfold qC at h ⊢;split at h<;>first | exact h | (rename_i e;cases e;done) | skip
  all_goals first | (rename_i e;cases e;simp) | cases h
 | _=>exact h
open Classical in
theorem zZc(hOk:Ok R po k)(hI:Inv R l a w B Y Mo)(hi:i<R.rs.length)(hr:i∈Region.ready .any R.ops l){K:Act→World→Prop}
  (hk:∀a' w' B' Y' Mo',Inv R (l.setIfInBounds i true) a' w' B' Y' Mo'→K a' w'):wpOpIn (FF rr) 0 R.P R.ops Q i K a w:=by
 obtain⟨hun,o,ho,hall⟩:=mem_ready.1 hr;obtain⟨z,hz⟩:∃z,R.rs[i]?=some z:=⟨R.rs[i],by simp[hi]⟩
 obtain⟨o',ho',hop⟩:=hOk.spec i z hz;have hls:i<l.size:=by
  rw[hI.lsz];exact(Array.getElem?_eq_some_iff.1 ho).1
 have hunl:l.getD i false=false:=by simpa[hls]using hun
 obtain rfl:o=o':=by
  have h1:R.ops.toList[i]?=some o:=by simpa using ho
  rw[h1]at ho';exact Option.some.inj ho'
 have hopn:=qMp hOk hI hi ho hall;have hgr:∀j b p t,o.guard=some (j,b)→R.ops[j]?=some p→p.dst=some t→Rep B (rd w Y) (nth .u (yX R.ops.toList (R.rs.take i) R.L0) t) (a.tmps.getD t undef):=fun j b p t h1 h2 h3=>by
  have:=(kZ hOk.hd i o (hOk.hget hi ho)).2.1;rw[Nat.zero_add]at this;unfold qDo at this;simp only[h1,h2,h3]at this;exact zXq hOk hI hi ho hall this
 unfold wpOpIn;simp only[ho];unfold kV at hop;cases hw:kH R.ops (yX R.ops.toList (R.rs.take i) R.L0) o with
 | none=>simp[hw]at hop
 | some q=>
  rw[qIn hgr hw];have hnd:kW o.op=true:=by rw[←zBm];exact hOk.nd o (by simpa using Array.mem_of_getElem? ho)
  cases q with
  | false=>
   simp only[hw,Option.some.injEq]at hop;subst hop;simp only[Bool.false_eq_true,if_false];exact⟨fun f _=>kU rr f,hk _ _ _ _ _ (hI.val hOk (Upd.refl _ _) hi ho hz (Rep.mkTu (vs:=[]) trivial) hls)⟩
  | true=>
   simp only[hw]at hop;simp only[if_true];refine zIw hnd ?_;generalize hL:yX R.ops.toList (R.rs.take i) R.L0=L at hop hopn;have hρ:∀x,Rep B (rd w Y) ((fun x=>if x∈o.op.operands then evO L x else T.u) x) (a.eval x):=fun x=>by
    by_cases hx:x∈o.op.operands
    ·simp only[hx,if_true];exact hopn x hx
    ·simp only[hx,if_false];exact .u
   have hcg:∀x∈o.op.operands,evO L x=(fun x=>if x∈o.op.operands then evO L x else T.u) x:=fun x hx=>by simp only[hx,if_true]
   have hsub:∀(q:Nat)(x:TO),R.Hm[q]?=some x→x≠.gone→(vH l R.ks R.H0++qR l 0 R.rs)[q]?=some x:=fun q x h1 h2=>by
    have hq:q<R.H0.length:=by rw[←hOk.hml];exact(List.getElem?_eq_some_iff.1 h1).1
    rw[List.getElem?_append_left (by rw[jO];exact hq)]
    exact hOk.sub0 h1 h2
   have hH:zIq B (rd w Y) w R.Hm:=⟨fun t v n cs us h1 h2 h3=>hI.wd.from h1 (qDi hsub h2) h3,fun q b C ml hB hn=>hI.wd.hp.map q b C ml hB (zFm (hsub q) hn (by simp)),fun q b C md hB hn=>hI.wd.hp.mapd q b C md hB (zFm (hsub q) hn (by simp))⟩
   unfold nI at hop;have hid:ln (R.Hm++qD (R.rs.take i))=R.H0.length+pos R.rs i:=by rw[qN];simp[pos,hOk.hml]
   have hks:=zMh R.ops.toList R.rs R.L0 i o z (by simpa using ho) hz
   rw[show ksE R.ops.toList R.rs R.L0=R.ks from rfl,hL]at hks;have hgoneAt:∀(t:T)(ob:TO),z=(t,some ob)→(vH l R.ks R.H0++qR l 0 R.rs)[R.H0.length+pos R.rs i]?=some .gone:=fun t ob e=>by
    subst e;rw[List.getElem?_append_right (by rw[jO];exact Nat.le_add_right _ _),jO,Nat.add_sub_cancel_left,cB l R.rs 0 i t ob hz,Nat.zero_add,hunl];rfl
   have hfree:∀(t:T)(ob:TO)(p:Nat×Nat),z=(t,some ob)→∀(j:Nat)(t':T)(ob':TO),R.rs[j]?=some (t',some ob')→(l.setIfInBounds i true).getD j false=false→tX B (R.H0.length+pos R.rs i) p (R.H0.length+pos R.rs j)=none:=fun t ob p e j t' ob' hj hlj=>by
    subst e;have hji:i≠j:=fun e=>by subst e;rw[kI hls]at hlj;cases hlj
    rw[getD_set_ne false hji]at hlj;have hne:R.H0.length+pos R.rs j≠R.H0.length+pos R.rs i:=fun e=>by
     have e':pos R.rs j=pos R.rs i:=by omega
     rcases Nat.lt_trichotomy i j with h | h | h
     ·have:=zUm R.rs i j t ob hz h;omega
     ·exact hji h
     ·have:=zUm R.rs j i t' ob' hj h;omega
    rw[jJ _ _ hne];exact hI.free j t' ob' hj hlj
   have app:∀(kq:Option Nat),(z.2≠none→R.ks[i]?=some kq)→zIt R.P R.H0 (R.Hm++qD (R.rs.take i)) kq L o.op=some z→o.wp R.P a w K Q:=fun kq hkq hap=>by
    generalize hopq:o.op=op at hap;unfold zIt at hap;split at hap
    ·rename_i c;split at hap
     ·rename_i x y t t' e1 e2 e3;cases htt:Nat.beq t t' with
      | false=>simp[htt]at hap
      | true=>
       obtain rfl:=qB htt;simp only[htt,cond_true]at hap;have hargs:c.args=#[x,y]:=Array.ext' (by simpa using e2)
       have hts:c.argTypes=#[t,t]:=Array.ext' (by simpa using e3)
       have hmem:∀u,u=x∨u=y→u∈o.op.operands:=fun u hu=>by
        rw[hopq];simp only[Op.operands,Call.operands,hargs,Array.mem_append];right;rcases hu with rfl | rfl<;>simp
       have hx:=hopn x (hmem x (.inl rfl));have hy:=hopn y (hmem y (.inr rfl));unfold zYl at hap;cases he:elT R.P t with
       | none=>simp[he]at hap
       | some e=>
        have ht:=vE he;cases hd:ldT R.P e with
        | none=>simp[he,hd]at hap
        | some gs=>
         obtain⟨g,s⟩:=gs;simp only[he,hd]at hap;split at hap
         ·rename_i us nx vs ny c1 c2 c4;cases hcond:!Nat.beq ny 0&&(zAn R.P e s (nx+ny)&&xV vs)with
          | false=>simp[hcond]at hap
          | true=>
           simp only[hcond,cond_true,Option.some.injEq]at hap;simp only[Bool.and_eq_true,Bool.not_eq_true']at hcond;obtain⟨hny0,hok1,hok2⟩:=hcond;have hny:0<ny:=by
            rcases Nat.eq_zero_or_pos ny with h0 | h0
            ·subst h0;simp at hny0
            ·exact h0
           have hsubB:∀(q:Nat)(x:TO),B q≠none→(R.Hm++qD (R.rs.take i))[q]?=some x→x≠.gone→(vH l R.ks R.H0++qR l 0 R.rs)[q]?=some x:=fun q x h1 h2 h3=>zXu hOk hI h1 h2 h3;have c2':=zCo hy hsubB c2;have hzz:=hap.symm;subst hzz;have hkq:=hkq (by simp)
           have hkill:∀q,kq=some q→kN l R.ks q=false:=fun q e=>by
            subst e;cases hk':kN l R.ks q with
            | false=>rfl
            | true=>
             obtain⟨j,h1,h2⟩:=yJ.1 hk';obtain rfl:=hOk.ks1 i j q hkq h1;rw[hunl]at h2;cases h2
           have hbase:zLj (vH l R.ks R.H0++qR l 0 R.rs) e s nx us (evO L x)∧qC (vH l R.ks R.H0++qR l 0 R.rs) s (evO L x)=some us.list∧qZ (evO L x)=some nx∧
             (∀j o' m,evO L x= .og j o' m→kq=some j∧∃y,(vH l R.ks R.H0++qR l 0 R.rs)[j]?=some y∧jN y=true∧j<R.H0.length)∧(kq≠none→∃j o' m,evO L x= .og j o' m):=by
            unfold qBn at c1;cases kq with
            | none=>
             simp only at c1;split at c1
             ·rename_i e4;cases c1;rw[e4];exact⟨.inl ⟨_,rfl⟩,rfl,rfl,fun j o' m h=>(by cases h),fun h=>absurd rfl h⟩
             ·rename_i i' o' m c' e4;cases hb:Nat.beq m c' with
              | false=>simp[hb]at c1
              | true=>
               obtain rfl:=qB hb;simp only[hb,cond_true]at c1;cases hcl:qC (R.Hm++qD (R.rs.take i)) s (evO L x)with
               | none=>simp[hcl]at c1
               | some u=>
                simp only[hcl,Option.some.injEq,Prod.mk.injEq]at c1;obtain⟨rfl,rfl⟩:=c1;have:=zCo hx hsubB hcl;exact⟨.inr (.inr (.inl ⟨_,_,_,e4⟩)),this,by rw[e4];rfl,fun j o' m h=>(by rw[e4]at h;cases h),fun h=>absurd rfl h⟩
             ·rename_i cs m e4;cases hcl:qC (R.Hm++qD (R.rs.take i)) s (evO L x)with
              | none=>simp[hcl]at c1
              | some u=>
               simp only[hcl,Option.some.injEq,Prod.mk.injEq]at c1;obtain⟨rfl,rfl⟩:=c1;have:=zCo hx hsubB hcl;exact⟨.inr (.inl ⟨_,_,e4⟩),this,by rw[e4];rfl,fun j o' m h=>(by rw[e4]at h;cases h),fun h=>absurd rfl h⟩
             ·cases c1
            | some q=>
             simp only at c1;split at c1
             ·rename_i j o' m e4;cases hb:Nat.beq j q&&Nat.beq o' 0 with
              | false=>simp[hb]at c1
              | true=>
               simp only[hb,cond_true]at c1;simp only[Bool.and_eq_true]at hb;obtain rfl:=qB hb.1;obtain rfl:=qB hb.2;split at c1
               ·rename_i cs e' hn;cases hb2:Nat.beq (ln cs.list) (m*s)&&Nat.beq e e' with
                | false=>simp[hb2]at c1
                | true=>
                 simp only[hb2,cond_true,Option.some.injEq,Prod.mk.injEq]at c1;obtain⟨rfl,rfl⟩:=c1;simp only[Bool.and_eq_true,qN]at hb2;obtain rfl:=qB hb2.2;have hcs:=qB hb2.1;have hg:=zQi hn (by simp)
                 have hjl:j<R.H0.length:=(List.getElem?_eq_some_iff.1 hg).1;have hg2:(vH l R.ks R.H0++qR l 0 R.rs)[j]?=some (.gro cs e):=by
                  rw[List.getElem?_append_left (by rw[jO];exact hjl),wO,hg,hkill j rfl];rfl
                 refine⟨.inr (.inr (.inr ⟨j,e4,hg2,hcs⟩)),?_,by rw[e4];rfl,fun j' o' m' h=>?_,fun _=>⟨_,_,_,e4⟩⟩
                 ·rw[e4];simp only[qC,qP,List.getD_eq_getElem?_getD,hg2,Option.getD_some,nQ];have:jD (m*s) (jA cs.list 0)=some cs.list:=by
                   rw[rQ,List.drop_zero,←hcs];exact zLg cs.list
                  exact this
                 ·rw[e4]at h;cases h;exact⟨rfl,_,hg2,rfl,hjl⟩
               ·cases c1
             ·cases c1
           obtain⟨hb1,c1',c3,hb4,hb5⟩:=hbase;obtain⟨C,hC1,hC2,hA⟩:=zOo (ty:=o.type) hI.wd hx hy ht hd c1' c2' c3 c4 hny hok1 hok2 hb1;have hgo:=hgoneAt _ _ rfl;have hBi:=hI.free i _ _ hz hunl;have hlist:∀(x0:TO),(match kq with | some q=>((vH l R.ks R.H0++qR l 0 R.rs).set q .gone).set (R.H0.length+pos R.rs i) (.gro (us.apY (evO L y) vs) e) | none=>(vH l R.ks R.H0++qR l 0 R.rs).set (R.H0.length+pos R.rs i) (.gro (us.apY (evO L y) vs) e))=vH (l.setIfInBounds i true) R.ks R.H0++qR (l.setIfInBounds i true) 0 R.rs:=fun _=>by
            have e1:=cZ l R.rs 0 i _ _ hz (by omega)
            rw[Nat.zero_add]at e1;cases kq with
            | none=>
             rw[e1,zDc (fun q hq=>by rw[hkq]at hq;cases hq)]
             show List.set _ _ _=_;rw[List.set_append_right _ _ (by rw[jO];exact Nat.le_add_right _ _),jO,Nat.add_sub_cancel_left]
            | some q=>
             have hq:q<(vH l R.ks R.H0).length:=by
              obtain⟨j,o',m,e4⟩:=hb5 (by simp)
              obtain⟨e5,_,_,_,h⟩:=hb4 _ _ _ e4;cases e5;rw[jO];exact h
             rw[e1,qEf hkq hls];show List.set (List.set _ _ _) _ _=_;rw[List.set_append_left _ _ hq,List.set_append_right _ _ (by rw[List.length_set,jO];exact Nat.le_add_right _ _),List.length_set,jO,Nat.add_sub_cancel_left]
           unfold Oper.wp;rcases hA with⟨obj,hrun,hRO⟩ | ⟨j,o',n',b,cur,c2'',q,ex,hB,hq,hrun,hS,hle,hRO⟩
           ·rw[gJ hopq e1 hargs hts hrun];obtain⟨hW',hBl⟩:=(hI.wd.call (Upd.drew w)).fill (C:=C) hgo hBi rfl hRO rfl;have hle:=((Upd.drew w).le Y).trans (Le.hide_new (w:=w.drew) (Y:=Y) obj);refine hk _ _ (tX B (R.H0.length+pos R.rs i) (w.drew.heap.size,C)) _ ((w.drew.heap.size,obj)::Mo) ⟨?_,FrD.step hOk (hI.fr.mono hBl hle) hi ho hz ?_ hls,hI.ble.trans hBl,hI.le.trans hle,hfree _ _ _ rfl,fun j hj=>?_,by simpa using hI.lsz⟩
            ·rw[←hlist .gone];cases kq with
             | none=>exact hW'
             | some q=>
              have hne:q≠R.H0.length+pos R.rs i:=by
               obtain⟨j,o',m,e4⟩:=hb5 (by simp)
               obtain⟨e5,_,_,_,h⟩:=hb4 _ _ _ e4;cases e5;omega
              have:=hW'.gone q;rwa[List.set_comm _ _ (Ne.symm hne)]at this
            ·rw[hid];exact .og (qE _ _ _) hC1 (fun _=>rfl) hC2
            ·rw[getD_set_ne false (by omega)];exact hI.head j hj
           ·obtain⟨rfl,x0,hj,hlx,hjl⟩:=hb4 _ _ _ ex;rw[gJ hopq e1 hargs hts hrun];have hW2:=hI.wd.set hj hlx hB hq hS hle (fun cs e=>by cases e) (fun _=>hRO)
            have hjl2:j<(vH l R.ks R.H0++qR l 0 R.rs).length:=(List.getElem?_eq_some_iff.1 hj).1;have hne:j≠R.H0.length+pos R.rs i:=by omega
            obtain⟨hW3,hB3⟩:=hW2.moveTo (i:=j) (j:=R.H0.length+pos R.rs i) (x:= .gro (us.apY (evO L y) vs) e) (by rw[List.getElem?_set_self hjl2]) rfl hB (by rw[List.getElem?_set_ne hne];exact hgo) hBi
            rw[List.set_set]at hW3;refine hk _ _ (tX B (R.H0.length+pos R.rs i) (b,C)) _ (Mo.set q (b,.cells c2'' e (0,0))) ⟨?_,FrD.step hOk (hI.fr.mono hB3 hle) hi ho hz ?_ hls,hI.ble.trans hB3,hI.le.trans hle,hfree _ _ _ rfl,fun j hj=>?_,by simpa using hI.lsz⟩
            ·rw[←hlist .gone];exact hW3
            ·rw[hid];exact .og (qE _ _ _) hC1 (fun _=>rfl) hC2
            ·rw[getD_set_ne false (by omega)];exact hI.head j hj
         ·cases hap
     ·cases hap
    ·cases hap
   cases hau:rD L o.op with
   | some q=>
    simp only[hau]at hop;exact app (some q) (fun hne=>by
     rw[hks,hau];cases hz2:z.2 with
     | none=>exact absurd hz2 hne
     | some _=>rfl) hop
   | none=>
   simp only[hau]at hop;cases hp:kT R.P R.Hm (ln (R.Hm++qD (R.rs.take i))) (evO L) o.op with
   | some y=>
    simp only[hp,Option.some.injEq]at hop;subst hop;rw[lC o.op hcg]at hp;have hA:=zXj hH hρ hp;obtain⟨t,ob⟩:=y;unfold Oper.wp;cases ob with
    | none=>
     obtain⟨v,hrun,hR⟩:=hA;rw[hrun];exact hk _ _ _ _ _ (hI.val hOk (Upd.refl _ _) hi ho hz hR hls)
    | some ob=>
     obtain⟨C,obj,vf,hrun,hl,hR,hv⟩:=hA;rw[hrun];rw[hid]at hv;obtain⟨hW',hB⟩:=hI.wd.fill (hgoneAt t ob rfl) (hI.free i t ob hz hunl) hl hR rfl;have hle:=Le.hide_new (w:=w) (Y:=Y) obj;refine hk _ _ _ _ ((w.heap.size,obj)::Mo) ⟨?_,FrD.step hOk (hI.fr.mono hB hle) hi ho hz ((hv _).mono (BLe.refl _) hle) hls,hI.ble.trans hB,hI.le.trans hle,hfree t ob _ rfl,fun j hj=>?_,by simpa using hI.lsz⟩
     ·have e:=cZ l R.rs 0 i t ob hz (by omega)
      rw[Nat.zero_add]at e;rw[e,zDc (fun q hq=>by rw[hks,hau]at hq;cases hq)]
      rw[List.set_append_right _ _ (by rw[jO];exact Nat.le_add_right _ _),jO,Nat.add_sub_cancel_left]at hW'
      exact hW'
     ·rw[getD_set_ne false (by omega)];exact hI.head j hj
   | none=>
    simp only[hp]at hop;cases hc:lM R.P po (R.Hm++qD (R.rs.take i)) L o.op with
    | some t=>
     simp only[hc,Option.some.injEq]at hop;subst hop;generalize hopq:o.op=op at hc;unfold lM at hc;split at hc
     ·rename_i c;split at hc
      ·rename_i fx e1;split at hc
       ·rename_i f cs e2;cases hen:jE R.P f with
        | false=>simp[hen]at hc
        | true=>
         simp only[hen,cond_true]at hc;have hmem:∀x,x=fx∨x∈c.args.toList→x∈o.op.operands:=fun x hx=>by
          rw[hopq];simp only[Op.operands,Call.operands,e1,Array.mem_append];rcases hx with rfl | hx
          ·left;simp
          ·right;simpa using hx
         have hfx:=hopn fx (hmem fx (.inl rfl));rw[e2]at hfx;obtain⟨caps,hv,hcs⟩:=hfx.fnI;have hargs:zN B (rd w Y) (c.args.toList.map (evO L)) (c.args.toList.map a.eval):=by
          have:∀l:List Operand,(∀x∈l,x∈o.op.operands)→zN B (rd w Y) (l.map (evO L)) (l.map a.eval):=by
           intro l;induction l with
           | nil=>intro _;trivial
           | cons x l ih=>exact fun h=>⟨hopn x (h x List.mem_cons_self),ih fun y hy=>h y (List.mem_cons_of_mem _ hy)⟩
          exact this _ fun x hx=>hmem x (.inr hx)
         unfold Oper.wp;rw[dI hopq e1 hv hen w];have hOw:Ow B (rd w Y) w (fun b=>∃ob,(b,ob)∈Mo) (R.Hm++qD (R.rs.take i)):=fun q b C cs hB hown=>by
          refine hI.wd.ow q b C cs hB ?_;cases hx:nth .gone (R.Hm++qD (R.rs.take i)) q with
          | gone=>rw[hx]at hown;cases hown
          | _=>rw[hx]at hown;rw[zFm (fun x h1 h2=>zXu hOk hI (by rw[hB];simp) h1 h2) hx (by simp)];exact hown
         refine qHf (k:=k) hOk.po hc hOw hI.wd.ivw hI.wd.bNle hI.wd.st.lt (fun q hq=>?_) (hargs.app hcs) fun v w' hu hv=>?_
         ·refine hI.wd.nn q ?_;rw[List.length_append,zDi,jO];have hle:∀rs:List (T×Option TO),(qD rs).length≤rs.length:=by
           intro rs;induction rs with
           | nil=>simp[qD]
           | cons z rs ih=>obtain⟨t,ob⟩:=z;cases ob<;>simp[qD]<;>omega
          have h1:=hle R.rs;have h2:=hOk.len;have h3:=hOk.bd;simp at h2;omega
         ·exact hk _ _ _ _ _ (hI.val hOk hu hi ho hz hv hls)
       ·cases hc
      ·cases hc
     ·cases hc
    | none=>
     simp only[hc]at hop;cases hap:zIt R.P R.H0 (R.Hm++qD (R.rs.take i)) none L o.op with
     | some y=>
      simp only[hap,Option.some.injEq]at hop;subst hop;exact app none (fun _=>by
       rw[hks,hau];cases y.2<;>rfl) hap
     | none=>
     simp only[hap]at hop;cases hm:zBl R.P (evO L) o with
     | none=>simp[hm]at hop
     | some t=>
      simp only[hm,Option.some.injEq]at hop;subst hop;rw[aN o hcg]at hm;obtain⟨v,hrun,hR⟩:=qFb (P:=R.P) (w:=w) (ρ:=a.eval) (k:=0) hρ hm;unfold Oper.wp;rw[hrun];exact hk _ _ _ _ _ (hI.val hOk (Upd.refl _ _) hi ho hz hR hls)
theorem zUj{P:Program}{H:List TO}{t:TypeId}{x:T}{z:T×Option TO}(h:zBs P H t x=some z):z.2=none:=by
 unfold zBs at h
 repeat' split at h
 all_goals try simp only[Bool.cond_eq_ite]at h
 all_goals repeat' split at h
 all_goals first | exact qM h | cases h
theorem qLg{P:Program}{po:Po}{H0 Hm Hn:List TO}{L:List T}{ops:Array Oper}{p:Oper}{z:T×Option TO}(h:bF p=true)(hz:kV P po H0 Hm Hn L ops p=some z):z.2=none:=by
 unfold bF at h;simp only[Bool.and_eq_true]at h;have hg:p.guard=none:=by
  cases hg:p.guard with
  | none=>rfl
  | some _=>have:=h.1;rw[hg]at this;cases this
 have h2:=h.2;split at h2
 ·rename_i t x ho;unfold kV kH at hz;rw[hg]at hz;have hk:rD L p.op=none:=by rw[ho];rfl
  simp only[nI,hk]at hz;cases hp:kT P Hm (ln Hn) (evO L) p.op with
  | some y=>
   simp only[hp,Option.some.injEq]at hz;subst hz;rw[ho]at hp;simp only[kT]at hp;exact zUj hp
  | none=>
   have hc:lM P po Hn L p.op=none:=by rw[ho];rfl
   have ha:zIt P H0 Hn none L p.op=none:=by rw[ho];rfl
   simp only[hp,hc,ha]at hz;cases hm:zBl P (evO L) p with
   | none=>simp[hm]at hz
   | some t=>simp only[hm,Option.some.injEq]at hz;subst hz;rfl
 ·cases h2
theorem zJq{P:Program}{E:Nat→Prop}{w0:World}{X:Hid}{F:List Nat}{n:Nat}{D:List Deferred}{ops:Array Oper}{cl yd:Cl}{po:Po}{id:Nat}(hm:P.follows .mixedOrders=true){s s':S}(hpo:∀f az tv nw,po f az=some (tv,nw)→KnP P (ln s.H+ops.size) f az tv nw)(hcl:kK P cl)(hyd:kY P yd)
  (hok:nS ops=true) (hW:Wd P E w0 X F s.H B w Y Mo) (hF:FrT n a s.L D B (rd w Y)) (hk:tK P E w0 X F n D s'.H s'.L B (rd w Y) (Q .normal)) (Hm:List TO) (rs:List (T×Option TO)) (hml:Hm.length=s.H.length) (hms:∀(q:Nat)(x:TO),Hm[q]?=some x→x≠.gone→s.H[q]?=some x)
  (hrs:∀(i:Nat)(z:T×Option TO),rs[i]?=some z→∃o,ops.toList[i]?=some o∧kV P po s.H Hm (Hm++qD (rs.take i)) (yX ops.toList (rs.take i) s.L) ops o=some z) (hlen:rs.length≤ops.toList.length) (h:drF P cl yd ops s Hm rs=some s'):(Code.region id ops true).wpIn (FF rr) 0 P Q a w:=by
 unfold drF at h;cases hd:qCu ops (ln rs)&&zMg Hm (ksE ops.toList rs s.L)with
 | false=>simp[hd]at h
 | true=>
 simp only[hd,cond_true]at h;simp only[Bool.and_eq_true]at hd;obtain⟨hd,hks⟩:=hd;unfold qCu at hd;simp only[Bool.and_eq_true]at hd;rw[qN]at hd h;unfold qXm at h;cases hld0:rV P ops ⟨yX ops.toList rs s.L,xF (ksE ops.toList rs s.L) s.H++qD rs⟩ (aM ops rs.length)with
 | false=>simp[hld0]at h
 | true=>
 simp only[hld0,cond_true]at h;have hnd:∀o∈ops.toList,yS o.op=true:=fun o ho=>List.all_eq_true.1 hok o ho;have hOk:Ok ⟨P,E,w0,X,F,n,D,ops,s.H,Hm,s.L,rs,B,rd w Y⟩ po (ln s.H+ops.size):=by
  refine⟨fun i z hz=>?_,hd.1,hd.2.1,hd.2.2,?_,?_,?_,?_,hnd,hml,hms,(dR hks).1,(dR hks).2⟩
  ·exact hrs i z hz
  ·exact hlen
  ·have:=hF.reps.length;rw[this];simpa using hF.size
  ·exact hpo
  ·show s.H.length+ops.size≤ln s.H+ops.size;rw[qN];exact Nat.le_refl _
 have htl:∀(j:Nat)(o:Oper),rs.length≤j→ops[j]?=some o→∀q,q<j→(∀S:Nat→Prop,zIs ops.toList S→(∀e∈o.after,Region.binds .any e=true→S e.on)→S q)∨∃p,ops[q]?=some p∧xG rs.length (aM ops rs.length) (vlR ops rs.length) q p=true∧bU ops o p=true:=fun j o hj ho q hq=>by
  rcases zNq hd.2.1 j o hj (by simpa using ho) q hq with h1 | ⟨p,h2,h3⟩
  ·exact .inl h1
  ·exact .inr ⟨p,by simpa using h2,h3⟩
 have hdp:∀(i:Nat)(p:Oper)(t:Nat),i<rs.length→ops[i]?=some p→Operand.tmp t∈p.op.operands→∀(i':Nat)(p':Oper),i'<rs.length→ops[i']?=some p'→p'.dst=some t→i'<i∧∃e∈p.after,Region.binds .any e=true∧e.on=i':=fun i p t hi hp ht i' p' hi' hp' hd'=>by
  have h1:=(kZ hOk.hd i p (hOk.hget hi hp)).1 (.tmp t) (by simpa using ht)
  rw[Nat.zero_add]at h1;have h1:zDs (ops.toList.take rs.length) p i t=true:=h1;unfold zDs at h1;cases hw:wrt t (ops.toList.take rs.length) 0 with
  | none=>exact absurd hd' (fU hw i' p' (hOk.hget hi' hp'))
  | some j=>
   simp only[hw,Bool.and_eq_true,Nat.blt_eq]at h1;obtain⟨j',o',e1,h3,h4⟩:=zCi hw;obtain rfl:j=j':=by omega
   have hj:j<rs.length:=by omega
   have ho':ops[j]?=some o':=by
    rw[List.getElem?_take,if_pos hj]at h3;simpa using h3
   obtain rfl:i'=j:=hOk.once hi' hj hp' ho' hd' h4;exact⟨h1.1,zEp h1.2⟩
 have heg:∀(j:Nat)(o:Oper),ops[j]?=some o→∀e∈o.after,Region.binds .any e=true→e.on<j:=fun j o ho e he hb=>by
  have:=zAz hd.2.2 j o (by simpa using ho) e he hb
  rwa[Nat.zero_add]at this
 refine wpIn_region_any hm ?_;have hup:=Upd.drew w;have hW0:Wd P E w0 X F s.H B w.drew Y Mo:=hW.call hup;have main:∀(fuel:Nat)(l:Array Bool)(a':Act)(w':World)(B':Bm)(Y':Hid)(Mo':List (Nat×Obj)),Inv ⟨P,E,w0,X,F,n,D,ops,s.H,Hm,s.L,rs,B,rd w Y⟩ l a' w' B' Y' Mo'→zNw l≤fuel→zIs ops.toList (fun q=>l.getD q false=true)→wpAnyIn (FF rr) 0 P .any ops Q fuel l a' w':=by
  have toTail:∀(fuel:Nat)(l:Array Bool)(a':Act)(w':World)(B':Bm)(Y':Hid)(Mo':List (Nat×Obj)),Inv ⟨P,E,w0,X,F,n,D,ops,s.H,Hm,s.L,rs,B,rd w Y⟩ l a' w' B' Y' Mo'→zNw l≤fuel→zIs ops.toList (fun q=>l.getD q false=true)→(∀(i:Nat)(p:Oper),i<rs.length→l.getD i false=false→ops[i]?=some p→xG rs.length (aM ops rs.length) (vlR ops rs.length) i p=true)→wpAnyIn (FF rr) 0 P .any ops Q fuel l a' w':=fun fuel l a' w' B' Y' Mo' hI hu hsh hall=>by
   have hlz:l.size=ops.size:=hI.lsz;have hmle:rs.length≤ops.size:=by have:=hOk.len;simpa using this
   have hlate:∀(i:Nat)(z:T×Option TO),rs[i]?=some z→l.getD i false=false→∃p,ops[i]?=some p∧xG rs.length (aM ops rs.length) (vlR ops rs.length) i p=true∧z.2=none∧(jP p=true→lK P (yX ops.toList (rs.take i) s.L) p z.1):=fun i z hz hl=>by
    obtain⟨p,h1,h2⟩:=hOk.spec i z hz;have h1:ops.toList[i]?=some p:=h1;have h1':ops[i]?=some p:=by simpa using h1
    have hk:=hall i p (List.getElem?_eq_some_iff.1 hz).1 hl h1';rcases zBh hk with hk' | ⟨hk1,hk2⟩
    ·exact⟨p,h1',hk,(lK.of_head hk' h2).1,fun _=>(lK.of_head hk' h2).2⟩
    ·exact⟨p,h1',hk,qLg hk1 h2,fun hk'=>(lK.of_head hk' h2).2⟩
   have hW1:Wd P E w0 X F (xF (ksE ops.toList rs s.L) s.H++qD rs) B' w' Y' Mo':=by
    have:Wd P E w0 X F (vH l (ksE ops.toList rs s.L) s.H++qR l 0 rs) B' w' Y' Mo':=hI.wd;rw[zDh l rs 0 (fun i t ob hi=>?_),qEe (fun i q hq=>?_)]at this
    ·exact this
    ·cases hc:l.getD i false with
     | true=>rfl
     | false=>
      have hi:i<rs.length:=Nat.lt_of_lt_of_le (List.getElem?_eq_some_iff.1 hq).1 (qEh _ _ _);obtain⟨z,hz⟩:∃z,rs[i]?=some z:=⟨rs[i],by simp[hi]⟩
      obtain⟨p,h1,h2,h3,_⟩:=hlate i z hz hc;rw[zMh ops.toList rs s.L i p z (by simpa using h1) hz,h3]at hq;cases hq
    ·rw[Nat.zero_add];cases hc:l.getD i false with
     | true=>rfl
     | false=>
      obtain⟨p,_,_,h3,_⟩:=hlate i _ hi hc;cases h3
   have Z1:FrL n a' (yX ops.toList rs s.L) D B' (rd w' Y') (Pnd ops rs.length l):=by
    refine⟨hI.fr.size,by rw[dS];exact hOk.slots,hI.fr.defers,fun t v hnp hv=>?_⟩
    by_cases he:∃(j:Nat)(o:Oper),j<rs.length∧ops[j]?=some o∧o.dst=some t
    ·obtain⟨j,o,hj,ho,hdt⟩:=he;obtain⟨z,hz⟩:∃z,rs[j]?=some z:=⟨rs[j],by simp[hj]⟩
     have ht:t<s.L.length:=by
      have h1:=(Array.getElem?_eq_some_iff.1 hv).1;have h2:a'.tmps.size=n:=hI.fr.size;have h3:s.L.length=n:=hOk.slots;omega
     rw[dU ops.toList rs s.L t j o z ht (by simpa using ho) hz hdt fun q o' hq hl ho' hd'=>hq (hOk.once hl hj (by simpa using ho') ho hd' hdt)]
     refine hI.fr.done j z o t v hz ho hdt ?_ hv;cases hc:l.getD j false with
     | true=>rfl
     | false=>exact absurd ⟨j,o,hj,hc,ho,hdt⟩ hnp
    ·rw[nL ops.toList rs s.L t (fun j o hj ho hd=>he ⟨j,o,hj,by simpa using ho,hd⟩)]
     exact hI.fr.rest t v (fun j o hj ho hd=>absurd ⟨j,o,hj,ho,hd⟩ he) hv
   refine qNx hcl hyd (m:=rs.length) htl (fun i o h1 h2=>qOc h2 h1) (fun i p t h1 h2 h3 i' p' h4 h5 h6=>(hdp i p t h1 h2 h3 i' p' h4 h5 h6).2) heg hnd fuel rs.length _ s' h (Nat.le_refl _) hu hlz (fun i hi=>?_) hsh (fun i p hi hl hp=>?_) hW1 Z1 hI.ble hI.le hk
   ·exact hI.head i hi
   ·obtain⟨z,hz⟩:∃z,rs[i]?=some z:=⟨rs[i],by simp[hi]⟩
    obtain⟨p',h1,h2,_,h4⟩:=hlate i z hz hl;rw[hp]at h1;cases h1;rcases zBh h2 with hkk | ⟨hk1,hk2⟩
    case inr=>
     obtain⟨d2,q1,q2⟩:=tL.of_ld hp hk1 hk2 hld0;exact⟨h2,_,q2,fun d' hd' _=>by rw[q1]at hd';cases hd';rfl⟩
    refine⟨h2,z.1,.inl ⟨hkk,(h4 hkk).congr fun x hx=>?_⟩,fun d hd' hlt=>?_⟩
    ·cases x with
     | tmp t=>
      show nth .u (yX ops.toList (rs.take i) s.L) t=nth .u (yX ops.toList rs s.L) t;by_cases he:∃(j:Nat)(o:Oper),j<rs.length∧ops[j]?=some o∧o.dst=some t
      ·obtain⟨j,o,hj,ho,hdt⟩:=he;obtain⟨hji,_⟩:=hdp i p t hi hp hx j o hj ho hdt;obtain⟨zj,hzj⟩:∃z,rs[j]?=some z:=⟨rs[j],by simp[hj]⟩
       rcases Nat.lt_or_ge t s.L.length with ht | ht
       ·rw[dU ops.toList rs s.L t j o zj ht (by simpa using ho) hzj hdt fun q o' hq hl ho' hd'=>hq (hOk.once hl hj (by simpa using ho') ho hd' hdt),
         dU ops.toList (rs.take i) s.L t j o zj ht (by simpa using ho) (by rw[List.getElem?_take,if_pos hji];exact hzj) hdt fun q o' hq hl ho' hd'=>hq (hOk.once (Nat.lt_of_lt_of_le hl (by rw[List.length_take];exact Nat.min_le_right _ _)) hj (by simpa using ho') ho hd' hdt)]
       ·simp only[qP,List.getD_eq_getElem?_getD];rw[List.getElem?_eq_none (by rw[dS];exact ht),List.getElem?_eq_none (by rw[dS];exact ht)]
      ·rw[nL ops.toList rs s.L t (fun j o hj ho hd=>he ⟨j,o,hj,by simpa using ho,hd⟩),nL ops.toList (rs.take i) s.L t (fun j o hj ho hd=>he ⟨j,o,Nat.lt_of_lt_of_le hj (by rw[List.length_take];exact Nat.min_le_right _ _),by simpa using ho,hd⟩)]
     | _=>rfl
    ·rw[dS]at hlt;exact dU ops.toList rs s.L d i p z hlt (by simpa using hp) hz hd' fun q o' hq hl ho' hd2=>hq (hOk.once hl hi (by simpa using ho') hp hd2 hd')
  intro fuel;induction fuel with
  | zero=>
   intro l a' w' B' Y' Mo' hI hu hsh;refine toTail 0 l a' w' B' Y' Mo' hI hu hsh fun i p hi hc=>?_;have hlz:l.size=ops.size:=hI.lsz;have hmle:rs.length≤ops.size:=by have:=hOk.len;simpa using this
   have:=zCe (by omega) hc
   omega
  | succ fuel ih=>
   intro l a' w' B' Y' Mo' hI hu hsh;by_cases hall:∀(i:Nat)(p:Oper),i<rs.length→l.getD i false=false→ops[i]?=some p→xG rs.length (aM ops rs.length) (vlR ops rs.length) i p=true
   ·exact toTail _ l a' w' B' Y' Mo' hI hu hsh hall
   ·have hlz:l.size=ops.size:=hI.lsz;have hmle:rs.length≤ops.size:=by have:=hOk.len;simpa using this
    obtain⟨i1,p1,hi1,hl1,hp1,hk1⟩:∃(i:Nat)(p:Oper),i<rs.length∧l.getD i false=false∧ops[i]?=some p∧¬xG rs.length (aM ops rs.length) (vlR ops rs.length) i p=true:=by
     refine Classical.byContradiction fun hn=>hall fun i p h1 h2 h3=>?_;exact Classical.byContradiction fun h4=>hn ⟨i,p,h1,h2,h3,h4⟩
    obtain⟨i0,hi0,hl0,hbelow⟩:=zKl ⟨i1,hi1,hl1⟩;obtain⟨o0,ho0⟩:∃o,ops[i0]?=some o:=⟨ops[i0]'(by omega),by simp⟩
    have hr0:i0∈Region.ready .any ops l:=zRf hlz ho0 hl0 fun e he hb=>hbelow _ (heg i0 o0 ho0 e he hb);refine⟨fun h0=>absurd (h0▸hr0) (by simp),fun i hi=>?_⟩
    obtain⟨hun,oi,hoi,hall'⟩:=mem_ready.1 hi;have him:i<rs.length:=by
     rcases Nat.lt_or_ge i rs.length with h1 | h1
     ·exact h1
     ·rcases htl i oi h1 hoi i1 (by omega)with h2 | ⟨p,h2,h3,_⟩
      ·have:=h2 (fun q=>l.getD q false=true) hsh hall';rw[hl1]at this;cases this
      ·rw[hp1]at h2;cases h2;exact absurd h3 hk1
    have hil:i<l.size:=by omega
    have hc:l.getD i false=false:=by simpa[hil]using hun
    refine zZc hOk hI him hi fun a2 w2 B2 Y2 Mo2 hI2=>ih _ a2 w2 B2 Y2 Mo2 hI2 ?_ (hsh.set (by simpa using hoi) hil hall')
    have:=zCe hil hc;omega
 have hz:∀i,(Array.replicate ops.size false).getD i false=false:=fun i=>by
  by_cases hi:i<ops.size<;>simp[hi]
 refine main ops.size _ a _ B Y Mo ⟨?_,⟨hF.size,hF.defers,fun i z o d v _ _ _ hl _=>?_,fun t v _ hv=>?_⟩,BLe.refl B,hup.le Y,fun i t ob _ _=>hW0.nn _ (Nat.le_add_right _ _),fun i _=>hz i,by simp⟩ ?_ (fun i _ _ h2=>absurd (show(Array.replicate ops.size false).getD i false=true from h2) (by rw[hz];simp))
 ·show Wd P E w0 X F (vH _ _ s.H++_) B _ Y Mo;rw[zZd (fun i _=>hz i)];have hgone:∀(i:Nat)(x:TO),(s.H++qR (Array.replicate ops.size false) 0 rs)[i]?=some x→x≠.gone→s.H[i]?=some x:=fun i x hx hne=>by
   rcases Nat.lt_or_ge i s.H.length with hi | hi
   ·rwa[List.getElem?_append_left hi]at hx
   ·rw[List.getElem?_append_right hi]at hx;exact absurd (zDj _ rs 0 _ x (fun i _=>hz _) hx) hne
  have ng:∀{y:TO},jN y=true→y≠.gone:=fun h e=>by subst e;cases h
  exact⟨hW0.st,fun i x hx hl=>hW0.ob i x (hgone i x hx (ng hl)) hl,fun i cs hx=>hW0.fz i cs (hgone i _ hx (by simp)),fun i hi=>hW0.nn i (by simp at hi;omega),
   fun i j oi oj p q h1 l1 h2 l2=>hW0.inj i j oi oj p q (hgone i _ h1 (ng l1)) l1 (hgone j _ h2 (ng l2)) l2,hW0.bN,hW0.iv⟩
 ·rw[hz]at hl;cases hl
 ·have hR:=hF.reps.getD t;have:a.tmps.toList.getD t undef=v:=by simp[hv]
  rw[this]at hR;exact hR.mono (BLe.refl B) (hup.le Y)
 ·have:zNw (Array.replicate ops.size false)=ops.size:=by
   have h:=zUx (l:=Array.replicate ops.size false) (j:=0) (fun i=>by rw[hz];simp) (Nat.zero_le _)
   simpa using h
  omega
theorem qKb{P:Program}{E:Nat→Prop}{w0:World}{X:Hid}{F:List Nat}{n:Nat}{D:List Deferred}{ops:Array Oper}{cl yd:Cl}{rn:Rn}{O:Po}{id:Nat}(hm:P.follows .mixedOrders=true)(hO:qI P O)(hrn:sZ P rn)(hcl:kK P cl)(hyd:kY P yd)
  (hok:nS ops=true) {s s':S} (h:drE P O rn cl yd ops s=some s') (hW:Wd P E w0 X F s.H B w Y Mo) (hF:FrT n a s.L D B (rd w Y)) (hk:tK P E w0 X F n D s'.H s'.L B (rd w Y) (Q .normal)):(Code.region id ops true).wpIn (FF rr) 0 P Q a w:=by
 have core:∀(Hm:List TO)(rs:List (T×Option TO)),Hm.length=s.H.length→(∀(q:Nat)(x:TO),Hm[q]?=some x→x≠.gone→s.H[q]?=some x)→(∃k,rs=(tQ P (zHs P O rn (ln s.H+ops.size)) s.H Hm ops ops.toList [] Hm s.L).take k)→drF P cl yd ops s Hm rs=some s'→(Code.region id ops true).wpIn (FF rr) 0 P Q a w:=fun Hm rs hml hms hrs h=>by
  refine zJq (po:=zHs P O rn (ln s.H+ops.size)) hm (fun f az tv nw hp=>?_) hcl hyd hok hW hF hk Hm rs hml hms (fun i z hz=>?_) ?_ h
  ·unfold zHs at hp;cases ho:O f az with
   | some y=>simp only[ho,Option.some.injEq]at hp;subst hp;exact hO _ _ _ _ ho _
   | none=>simp only[ho]at hp;exact zGo (gG hm hrn) hp
  ·obtain⟨k,rfl⟩:=hrs;rw[List.getElem?_take]at hz;split at hz
   ·rename_i hik;have:=zKb _ _ _ _ _ _ hz;rw[List.take_take,Nat.min_eq_left (Nat.le_of_lt hik)];exact this
   ·cases hz
  ·obtain⟨k,rfl⟩:=hrs;rw[List.length_take];exact Nat.le_trans (Nat.min_le_right _ _) (zPs _ _ _ _)
 unfold drE drU at h;generalize qJv ops ops.toList (tQ P (zHs P O rn (ln s.H+ops.size)) s.H s.H ops ops.toList [] s.H s.L) 0=kk at h;unfold drG at h;have hkm:∀ks:List (Option Nat),∀(q:Nat)(x:TO),(xF ks s.H)[q]?=some x→x≠.gone→s.H[q]?=some x:=fun ks q x h1 h2=>by
  rw[nK]at h1;split at h1
  ·cases hq:s.H[q]? with
   | none=>rw[hq]at h1;cases h1
   | some y=>rw[hq]at h1;cases h1;exact absurd rfl h2
  ·exact h1
 cases hany:qSa (ksE ops.toList ((tQ P (zHs P O rn (ln s.H+ops.size)) s.H s.H ops ops.toList [] s.H s.L).take kk) s.L)with
 | true=>simp only[hany,cond_true]at h;exact core _ _ (zKf _ _) (hkm _) ⟨kk,rfl⟩ h
 | false=>simp only[hany,cond_false]at h;exact core s.H _ rfl (fun _ _ h _=>h) ⟨kk,rfl⟩ h
end
section
variable {P:Program}{E:Nat→Prop}{w0:World}{X:Hid}{F:List Nat}{H:List TO}{B B':Bm}{w w':World}{Y Y':Hid}{Mo:List (Nat×Obj)}{o:Oper}{r r':Rd}{n:Nat}{a:Act}{L:List T}{D:List Deferred}{Q:Exit→Act→World→Prop}{K:Act→World→Prop}{cl yd:Cl}{O:Po}{rr:Option Nat}{ops:Array Oper}{rest:List Oper}{rn:Rn}
theorem Wd.lp(hW:Wd P E w0 X F H B w Y Mo){i b0 C:Nat}{ps:List Nat}{c1 c2:Code}{q:Bool}{pd:Option Code}(hi:H[i]?=some (.loop L ps c1 c2 q pd))(hB:B i=some (b0,C)):
  ∃(rec:Loop)(k:Nat),(Mo++jK F)[k]?=some (b0,.loop rec)∧(zN B (rd w Y) L rec.tmps.toList∧rec.params.toList=ps∧rec.assign=c1∧rec.body=c2∧noR c1=true∧noR c2=true∧LSt q pd rec)∧
   (∀rec' q' pd',rec'.tmps=rec.tmps→rec'.params=rec.params→rec'.assign=rec.assign→rec'.body=rec.body→LSt q' pd' rec'→
    Wd P E w0 X F (H.set i (.loop L ps c1 c2 q' pd')) B (w.putObj b0 (.loop rec')) Y (Mo.set k (b0,.loop rec'))∧Le (rd w Y) (rd (w.putObj b0 (.loop rec')) Y))∧
   ∀rec',Wd P E w0 X F (H.set i .gone) B (w.putObj b0 (.loop rec')) Y (Mo.set k (b0,.loop rec'))∧Le (rd w Y) (rd (w.putObj b0 (.loop rec')) Y):=by
 obtain⟨b',C',ob,g1,g2,g3⟩:=hW.ob i _ hi rfl;rw[hB]at g1;cases g1;cases g3 with
 | @loop _ _ _ _ rec _ _ hL hp ha hb hna hnb hs=>
  obtain⟨k,hk⟩:=List.getElem?_of_mem g2;have hkl:k<Mo.length:=(List.getElem?_eq_some_iff.1 hk).1;have hk2:(Mo++jK F)[k]?=some (b0,.loop rec):=by rw[List.getElem?_append_left hkl];exact hk
  have hS:∀rec',St E w0 X (w.putObj b0 (.loop rec')) Y (Mo.set k (b0,.loop rec')++jK F)∧Le (rd w Y) (rd (w.putObj b0 (.loop rec')) Y):=fun rec'=>by
   obtain⟨h1,h2⟩:=hW.st.putObj (o':= .loop rec') k hk2;rw[List.set_append_left _ _ hkl]at h1;exact⟨h1,h2⟩
  refine⟨rec,k,hk2,⟨hL,hp,ha,hb,hna,hnb,hs⟩,fun rec' q' pd' e1 e2 e3 e4 hs'=>?_,fun rec'=>?_⟩
  ·obtain⟨h1,h2⟩:=hS rec';exact⟨hW.set hi rfl hB hk h1 h2 (fun cs e=>by cases e) (fun _=> .loop (by rw[e1];exact hL.mono (BLe.refl B) h2) (by rw[e2];exact hp) (by rw[e3];exact ha) (by rw[e4];exact hb) hna hnb hs'),h2⟩
  ·obtain⟨h1,h2⟩:=hS rec';exact⟨hW.set hi rfl hB hk h1 h2 (fun cs e=>by cases e) (fun e=>by cases e),h2⟩
theorem zRd:∀{ps:List Nat}{az L:List T}{qM:List Value}{tm:Array Value},ps.length=az.length→zN B r az qM→zN B r L tm.toList→zN B r (zIz L ps az) ((ps.zip qM).foldl (fun t(x:Nat×Value)=>t.setIfInBounds x.1 x.2) tm).toList
 | [],[],L,[],tm,_,_,h=>by simpa[zIz]using h
 | p::ps,t::az,L,v::qM,tm,hl,hA,h=>by
  simp only[zIz,List.zip_cons_cons,List.foldl_cons];refine zRd (by simpa using hl) hA.2 ?_
  have:=h.put p hA.1;simpa using this
 | [],_::_,_,_,_,hl,_,_=>by simp at hl
 | _::_,[],_,_,_,hl,_,_=>by simp at hl
 | _,[],_,_::_,_,_,hA,_=>hA.elim
 | _,_::_,_,[],_,_,hA,_=>hA.elim
theorem zRc:∀(ps:List Nat)(az L:List T),(zIz L ps az).length=L.length
 | [],_,_=>by simp[zIz]
 | _::_,[],_=>by simp[zIz]
 | p::ps,t::az,L=>by rw[zIz,zRc ps az,jT];simp
theorem mV{l:List TO}{i:Nat}{x:TO}(h:nth .gone l i=x)(hx:x≠.gone):l[i]?=some x:=by
 rw[qP,List.getD_eq_getElem?_getD]at h;cases hi:l[i]? with
 | none=>rw[hi]at h;exact absurd h.symm hx
 | some y=>rw[hi]at h;simp at h;rw[h]
theorem qIs(hrn:sZ P rn):kY P (zIp rn):=by
 intro l az H tv H' h E w0 X F B w Y Mo qM R b0 C hW hA hB hk;unfold zIp at h;split at h
 ·rename_i L ps c1 c2 hl;have hi:=mV hl (by simp)
  cases hlen:Nat.beq (ln ps) (ln az)with
  | false=>simp[hlen]at h
  | true=>
   simp only[hlen,cond_true]at h;have hlen:=qB hlen;rw[qN,qN]at hlen;obtain⟨rec,k,hk2,⟨hL,hp,ha,hb,hna,hnb,hs⟩,_,_⟩:=hW.lp hi hB;have hpl:rec.params.size=az.length:=by rw[←hlen,←hp];simp
   refine zYd k hW.st hk2 (by rw[hpl,hA.length];simp) ?_
   have hF:FrT rec.tmps.size {tmps:=(rec.params.zip qM.toArray).foldl (fun tmps(t,a)=>tmps.setIfInBounds t a) rec.tmps,defers:=[]} (zIz L ps az) [] B (rd w Y):=by
    have hz:((rec.params.zip qM.toArray).foldl (fun tmps(x:Nat×Value)=>tmps.setIfInBounds x.1 x.2) rec.tmps)=(ps.zip qM).foldl (fun t(x:Nat×Value)=>t.setIfInBounds x.1 x.2) rec.tmps:=by
     rw[←Array.foldl_toList,Array.toList_zip,hp]
    have hR:=zRd (ps:=ps) hlen hA hL;refine⟨?_,?_,rfl⟩
    ·show((rec.params.zip qM.toArray).foldl (fun tmps(x:Nat×Value)=>tmps.setIfInBounds x.1 x.2) rec.tmps).size=_;rw[hz];have h1:=hR.length;rw[zRc]at h1;have h2:=hL.length;simp at h1 h2;omega
    ·show zN B (rd w Y) _ ((rec.params.zip qM.toArray).foldl (fun tmps(x:Nat×Value)=>tmps.setIfInBounds x.1 x.2) rec.tmps).toList;rw[hz];exact hR
   unfold qPj at h;split at h
   ·rename_i s1 J1;split at h
    ·rename_i L2 ps2 d1 d2 hl2;have hi2:=mV hl2 (by simp)
     subst ha;refine hrn _ _ _ _ J1 E w0 X F rec.tmps.size _ [] B w Y Mo (some b0) _ (.inr hna) hW hF fun a1 w1 B1 Y1 Mo1 bs hbs g1 g2 g3 g4=>?_;obtain rfl:=hbs hna;obtain⟨rec2,k2,hk3,⟨_,_,_,_,_,_,hs2⟩,hset,_⟩:=Wd.lp g1 hi2 (g3 _ _ hB);obtain⟨hWb,hleb⟩:=hset {rec2 with state:= .busy} false none rfl rfl rfl rfl rfl
     refine⟨_,run_beginRound (g1.st.get k2 hk3) hs2.1,?_⟩;unfold endY at h;subst hb;split at h
     ·rename_i e s2 J2;rw[jT]at J2;refine hrn _ _ _ _ J2 E w0 X F rec.tmps.size a1 [] B1 _ Y1 _ (some b0) _ (.inr hnb) hWb (g2.mono (BLe.refl _) hleb) fun a3 w3 B3 Y3 Mo3 bs hbs f1 f2 f3 f4=>?_;obtain rfl:=hbs hnb;split at h
      ·rename_i L4 ps4 e1 e2 hl4;have hi4:=mV hl4 (by simp)
       obtain⟨rec4,k4,hk5,⟨_,_,_,_,_,_,hs4⟩,hset4,_⟩:=Wd.lp f1 hi4 (f3 _ _ (g3 _ _ hB));have C4:=(g4.trans hleb).trans f4;cases e with
       | n=>
        simp only[Option.some.injEq,Prod.mk.injEq,jT]at h;obtain⟨rfl,rfl⟩:=h;obtain⟨hWe,hlee⟩:=hset4 {rec4 with state:= .ready,pending:=none} true none rfl rfl rfl rfl ⟨rfl,rfl⟩
        exact⟨_,_,run_endRound none (f1.st.get k4 hk5),hk _ _ _ _ _ hWe (.v rfl) (g3.trans f3) (C4.trans hlee)⟩
       | r=>
        simp only[Option.some.injEq,Prod.mk.injEq,jT]at h;obtain⟨rfl,rfl⟩:=h;obtain⟨hWe,hlee⟩:=hset4 {rec4 with state:= .done,pending:=some .ret} false (some .ret) rfl rfl rfl rfl ⟨rfl,rfl⟩
        exact⟨_,_,run_endRound (some .ret) (f1.st.get k4 hk5),hk _ _ _ _ _ hWe (.v rfl) (g3.trans f3) (C4.trans hlee)⟩
       | x id=>
        simp only[Option.some.injEq,Prod.mk.injEq,jT]at h;obtain⟨rfl,rfl⟩:=h;obtain⟨hWe,hlee⟩:=hset4 {rec4 with state:= .done,pending:=some (.exit id)} false (some (.exit id)) rfl rfl rfl rfl ⟨rfl,rfl⟩
        exact⟨_,_,run_endRound (some (.exit id)) (f1.st.get k4 hk5),hk _ _ _ _ _ hWe (.v rfl) (g3.trans f3) (C4.trans hlee)⟩
       | p t=>simp at h
      ·cases h
     ·cases h
    ·cases h
   ·cases h
 ·cases h
theorem qWr(hcl:kK P cl){g:Operand}{ps:Array Tmp}{c1 c2:Code}{e:Ex}{s':S}(hW:Wd P E w0 X F H B w Y Mo)(hF:FrT n a L D B (rd w Y))(hna:noR c1=true)(hnb:noR c2=true)
  (h:qWq P cl ps.toList c1 c2 L H (evO L g)=some (e,s')) (hk:lT P E w0 X F n D false e s' B (rd w Y) Q):(Code.rangeFunc g ps c1 c2).wpIn (FF none) 0 P Q a w:=by
 have hg:=hF.rep g;unfold qWq at h;split at h
 ·rename_i f cs eg;rw[eg]at hg;obtain⟨caps,hv,hcs⟩:=hg.fnI;cases hen:jE P f with
  | false=>simp[hen]at h
  | true=>
   simp only[hen,cond_true]at h;refine wpIn_rangeFunc fun fn _=>?_;have h1:=hW.st.alloc (.deferred (some []));have h2:=h1.alloc (.loop {state:= .ready,pending:=none,fn:=fn,tmps:=a.tmps,params:=ps,assign:=c1,body:=c2,defers:=w.heap.size});have hle:Le (rd w Y) (rd ((w.alloc (.deferred (some []))).alloc (.loop {state:= .ready,pending:=none,fn:=fn,tmps:=a.tmps,params:=ps,assign:=c1,body:=c2,defers:=w.heap.size})) _):=(Le.hide_new (.deferred (some []))).trans (Le.hide_new _);have hrun:=run_enterLoop_outer (P:=P) (w:=w) fn a.tmps ps c1 c2;have hN:=Wd.new (F':=w.heap.size::F) (g:=(w.alloc (.deferred (some []))).heap.size) (C:=0) (o:= .loop L ps.toList c1 c2 true none) hW
    (St.perm (by
     show List.Perm _ ((_::Mo)++((w.heap.size,Obj.deferred (some []))::jK F));exact(List.Perm.cons _ List.perm_middle.symm)) h2) hle rfl
    (.loop (hF.reps.mono (BLe.refl B) hle) rfl rfl rfl hna hnb ⟨rfl,rfl⟩)
   obtain⟨hWn,hBn⟩:=hN;have hl1:(w.alloc (.deferred (some []))).heap.size=w.heap.size+1:=by simp
   cases hc:cl f (.yl (ln H)::cs) (H++[.loop L ps.toList c1 c2 true none])with
   | none=>simp[hc,qTf]at h
   | some vh=>
    obtain⟨tv,H1⟩:=vh;simp only[hc,qTf]at h;rw[hl1]at hWn hBn;have hy:Rep (tX B H.length (w.heap.size+1,0)) (rd ((w.alloc (.deferred (some []))).alloc (.loop {state:= .ready,pending:=none,fn:=fn,tmps:=a.tmps,params:=ps,assign:=c1,body:=c2,defers:=w.heap.size})) (zBe (w.heap.size+1) (zBe w.heap.size Y))) (.yl (ln H)) (.func (.yield (w.heap.size+1)) #[] #[]):=by
     rw[qN];exact .yl (qE _ _ _)
    have hK:=hcl _ _ _ _ _ hc E w0 X (w.heap.size::F) _ _ _ _ (.func (.yield (w.heap.size+1)) #[] #[]::caps)
     (fun e w3=>(∃v,e= .returned v)∧∃rec,w3.heap[w.heap.size+1]?=some (.loop rec)∧rec.state≠.busy∧
      (match rec.pending with
       | none=>Q .normal {a with defers:=Gv.mark w.heap.size::a.defers} (w3.putObj (w.heap.size+1) (.loop {rec with state:= .exhausted}))
       | some c=>c.wpIn (FF none) 0 P Q {a with defers:=Gv.mark w.heap.size::a.defers} (w3.putObj (w.heap.size+1) (.loop {rec with state:= .exhausted}))))
     (by rw[←hl1];rw[hl1];exact hWn) ⟨by rw[hl1]at *;exact hy,hcs.mono hBn (by rw[hl1]at hle;exact hle)⟩ ?_
    ·clear hle h2;generalize (w.alloc (.deferred (some []))).alloc (.loop {state:= .ready,pending:=none,fn:=fn,tmps:=a.tmps,params:=ps,assign:=c1,body:=c2,defers:=w.heap.size})=W1 at hK hrun;refine⟨w.heap.size+1,[Gv.mark w.heap.size],W1,{target:= .fn (.func f) caps.toArray,args:=#[.func (.yield (w.heap.size+1)) #[] #[]]},W1,f,
      #[.func (.yield (w.heap.size+1)) #[] #[]]++caps.toArray,W1,hrun,?_,fun f' _=>kU none f',?_,sH none 0,?_⟩
     ·simp only[resolve,hv];simp[go_sem]
     ·simp only[invoke];exact rT hen _ _
     ·refine rE.2 ((show Calls P f (#[.func (.yield (w.heap.size+1)) #[] #[]]++caps.toArray) W1 _ by simpa using hK).mono ?_)
      rintro e w3 ⟨⟨v,rfl⟩,rec,hl,hb,hrest⟩;exact⟨rec.pending,_,run_endLoop hl hb,hrest⟩
    ·intro v w3 B3 Y3 Mo3 k1 k2 k3 k4;refine⟨⟨v,rfl⟩,?_⟩;have hBl:B3 H.length=some (w.heap.size+1,0):=k3 _ _ (qE _ _ _);have fin:∀(L2:List T)(ps2:List Nat)(d1 d2:Code)(q:Bool)(pd:Option Code),H1[H.length]?=some (.loop L2 ps2 d1 d2 q pd)→q=true∨pd≠none→
       ∃rec,w3.heap[w.heap.size+1]?=some (.loop rec)∧rec.state≠.busy∧rec.pending=pd∧∃Mo4,Wd P E w0 X (w.heap.size::F) (H1.set H.length .gone) B3 (w3.putObj (w.heap.size+1) (.loop {rec with state:= .exhausted})) Y3 Mo4∧Le (rd w3 Y3) (rd (w3.putObj (w.heap.size+1) (.loop {rec with state:= .exhausted})) Y3):=fun L2 ps2 d1 d2 q pd hi hq=>by
      obtain⟨rec,k,hk2,⟨_,_,_,_,_,_,hs⟩,_,hgone⟩:=Wd.lp k1 hi hBl;refine⟨rec,k1.st.get k hk2,?_,?_,_,hgone _⟩
      ·cases q<;>cases pd<;>simp only[LSt]at hs
       ·rcases hq with h | h<;>simp at h
       ·rw[hs.1];simp
       ·rw[hs.1];simp
      ·cases q<;>cases pd<;>simp only[LSt]at hs
       ·rcases hq with h | h<;>simp at h
       ·exact hs.2
       ·exact hs.2
     have hBt:BLe B B3:=hBn.trans k3;have hlet:Le (rd w Y) (rd w3 Y3):=(by rw[hl1]at hle;exact hle:Le (rd w Y) _).trans k4
     have hFm:∀{r3:Rd},Le (rd w Y) r3→FrT n {a with defers:=Gv.mark w.heap.size::a.defers} L ([w.heap.size].map Gv.mark++D) B3 r3:=fun hr=>⟨hF.size,hF.reps.mono hBt hr,by show Gv.mark w.heap.size::a.defers=_;rw[hF.defers];rfl⟩
     split at h
     ·rename_i L2 ps2 d1 d2 hl2;rw[qN]at hl2;obtain⟨rec,f1,f2,f3,Mo4,f4,f5⟩:=fin _ _ _ _ _ _ (mV hl2 (by simp)) (.inl rfl)
      refine⟨rec,f1,f2,?_⟩;generalize w3.putObj (w.heap.size+1) (.loop {rec with state:= .exhausted})=w4 at f4 f5 ⊢
      rw[f3];simp only[Option.some.injEq,Prod.mk.injEq,jT,qN]at h;obtain⟨rfl,rfl⟩:=h;exact hk _ _ _ _ _ [w.heap.size] (fun e=>by cases e) f4 (hFm (hlet.trans f5)) hBt (hlet.trans f5)
     ·rename_i L2 ps2 d1 d2 hl2;rw[qN]at hl2;obtain⟨rec,f1,f2,f3,Mo4,f4,f5⟩:=fin _ _ _ _ _ _ (mV hl2 (by simp)) (.inr (by simp))
      refine⟨rec,f1,f2,?_⟩;generalize w3.putObj (w.heap.size+1) (.loop {rec with state:= .exhausted})=w4 at f4 f5 ⊢
      rw[f3];simp only[Option.some.injEq,Prod.mk.injEq,jT,qN]at h;obtain⟨rfl,rfl⟩:=h;exact nJ (hk _ _ _ _ _ [w.heap.size] (fun e=>by cases e) f4 (hFm (hlet.trans f5)) hBt (hlet.trans f5))
     ·rename_i L2 ps2 d1 d2 id hl2;rw[qN]at hl2;obtain⟨rec,f1,f2,f3,Mo4,f4,f5⟩:=fin _ _ _ _ _ _ (mV hl2 (by simp)) (.inr (by simp))
      refine⟨rec,f1,f2,?_⟩;generalize w3.putObj (w.heap.size+1) (.loop {rec with state:= .exhausted})=w4 at f4 f5 ⊢
      rw[f3];simp only[Option.some.injEq,Prod.mk.injEq,jT,qN]at h;obtain⟨rfl,rfl⟩:=h;exact aJ (hk _ _ _ _ _ [w.heap.size] (fun e=>by cases e) f4 (hFm (hlet.trans f5)) hBt (hlet.trans f5))
     ·cases h
 ·cases h
theorem lT.one{q:Bool}{e:Ex}{s':S}(h:lT P E w0 X F n D q e s' B r Q){a':Act}{w':World}{B':Bm}{Y':Hid}{Mo':List (Nat×Obj)}(h1:Wd P E w0 X F s'.H B' w' Y' Mo')(h2:FrT n a' s'.L D B' (rd w' Y'))(h3:BLe B B')(h4:Le r (rd w' Y')):QOk Q B' (rd w' Y') a' w' e:=
 h a' w' B' Y' Mo' [] (fun _=>rfl) h1 h2 h3 h4
theorem lT.next{q q1 q2:Bool}{e:Ex}{s':S}(h:lT P E w0 X F n D q e s' B r Q)(hq:q=true→q1=true∧q2=true){w':World}{B':Bm}{Y':Hid}{bs:List Nat}(hbs:q1=true→bs=[])(h3:BLe B B')(h4:Le r (rd w' Y')):lT P E w0 X (bs++F) n (bs.map Gv.mark++D) q2 e s' B' (rd w' Y') Q:=
 fun a2 w2 B2 Y2 Mo2 bs2 hb2 k1 k2 k3 k4=>h a2 w2 B2 Y2 Mo2 (bs2++bs) (fun e=>by rw[hbs (hq e).1,hb2 (hq e).2];rfl) (by rw[List.append_assoc];exact k1) (by rw[List.map_append,List.append_assoc];exact k2) (h3.trans k3) (h4.trans k4)
theorem qTh{SO:Oo}{O:Rn→Po}(hm:P.follows .mixedOrders=true)(hS:qAz P SO)(hO:∀rn,sZ P rn→qI P (O rn)):∀k,sZ P (evC P SO O k):=by
 intro k;induction k using Nat.strongRecOn with
 | _ k ih=>
  cases k with
  | zero=>intro c s e s' h;simp[evC]at h
  | succ k=>
   have hk:sZ P (evC P SO O k):=ih k (Nat.lt_succ_self k);have hcl:=qBs (P:=P) hm hS (hO _ hk) hk;have hpc:=zYx (P:=P) hk;have hyd:=qIs (P:=P) hk;intro c s e s' h E w0 X F n a D B w Y Mo rr Q hr hW hF hA;have h:wW P SO (O (evC P SO O k)) (evC P SO O k) c s=some (e,s'):=h;cases c with
   | skip=>simp only[wW,Option.some.injEq,Prod.mk.injEq]at h;obtain⟨rfl,rfl⟩:=h;exact vX (hA.one hW hF (BLe.refl B) (Le.refl _))
   | label l=>simp only[wW,Option.some.injEq,Prod.mk.injEq]at h;obtain⟨rfl,rfl⟩:=h;exact zMc (hA.one hW hF (BLe.refl B) (Le.refl _))
   | exit id=>simp only[wW,Option.some.injEq,Prod.mk.injEq]at h;obtain⟨rfl,rfl⟩:=h;exact aJ (hA.one hW hF (BLe.refl B) (Le.refl _))
   | ret=>simp only[wW,Option.some.injEq,Prod.mk.injEq]at h;obtain⟨rfl,rfl⟩:=h;exact nJ (hA.one hW hF (BLe.refl B) (Le.refl _))
   | seq x y=>
    simp only[wW]at h;have hr1:rr=none∨noR x=true:=hr.imp id fun h=>by simp only[noR,Bool.and_eq_true]at h;exact h.1
    have hr2:rr=none∨noR y=true:=hr.imp id fun h=>by simp only[noR,Bool.and_eq_true]at h;exact h.2
    have hq:noR (.seq x y)=true→noR x=true∧noR y=true:=fun h=>by simpa[noR]using h
    cases hx:evC P SO O k x s with
    | none=>simp[hx,zEz]at h
    | some es=>
     obtain⟨e1,s1⟩:=es;refine wpIn_seq (hk _ _ _ _ hx E w0 X F n a D B w Y Mo rr _ hr1 hW hF fun a' w' B' Y' Mo' bs hbs g1 g2 g3 g4=>?_);cases e1 with
     | n=>
      simp only[hx,zEz]at h;exact hk _ _ _ _ h E w0 X _ n a' _ B' w' Y' Mo' rr Q hr2 g1 g2 (hA.next hq hbs g3 g4)
     | x id=>simp only[hx,zEz,Option.some.injEq,Prod.mk.injEq]at h;obtain⟨rfl,rfl⟩:=h;exact hA a' w' B' Y' Mo' bs (fun e=>hbs (hq e).1) g1 g2 g3 g4
     | r=>simp only[hx,zEz,Option.some.injEq,Prod.mk.injEq]at h;obtain⟨rfl,rfl⟩:=h;exact hA a' w' B' Y' Mo' bs (fun e=>hbs (hq e).1) g1 g2 g3 g4
     | p t=>simp only[hx,zEz,Option.some.injEq,Prod.mk.injEq]at h;obtain⟨rfl,rfl⟩:=h;exact hA a' w' B' Y' Mo' bs (fun e=>hbs (hq e).1) g1 g2 g3 g4
   | cond c x y=>
    simp only[wW]at h;have hc:=hF.rep c;unfold qPl at h;split at h
    ·rename_i b eb;rw[eb]at hc;cases b with
     | true=>exact wpIn_cond_true hc.bool (hk _ _ _ _ h E w0 X F n a D B w Y Mo rr Q (hr.imp id fun h=>by simp only[noR,Bool.and_eq_true]at h;exact h.1) hW hF fun a' w' B' Y' Mo' bs hbs=>hA a' w' B' Y' Mo' bs fun e=>hbs (by simp only[noR,Bool.and_eq_true]at e;exact e.1))
     | false=>exact wpIn_cond_false hc.bool (hk _ _ _ _ h E w0 X F n a D B w Y Mo rr Q (hr.imp id fun h=>by simp only[noR,Bool.and_eq_true]at h;exact h.2) hW hF fun a' w' B' Y' Mo' bs hbs=>hA a' w' B' Y' Mo' bs fun e=>hbs (by simp only[noR,Bool.and_eq_true]at e;exact e.2))
    ·cases h
   | block id x=>
    simp only[wW]at h;cases hx:evC P SO O k x s with
    | none=>simp[hx,zYo]at h
    | some es=>
     obtain⟨e1,s1⟩:=es;refine jZ (hk _ _ _ _ hx E w0 X F n a D B w Y Mo rr _ hr hW hF fun a' w' B' Y' Mo' bs hbs g1 g2 g3 g4=>?_);cases e1 with
     | n=>simp only[hx,zYo,Option.some.injEq,Prod.mk.injEq]at h;obtain⟨rfl,rfl⟩:=h;exact hA a' w' B' Y' Mo' bs hbs g1 g2 g3 g4
     | r=>simp only[hx,zYo,Option.some.injEq,Prod.mk.injEq]at h;obtain⟨rfl,rfl⟩:=h;exact hA a' w' B' Y' Mo' bs hbs g1 g2 g3 g4
     | p t=>simp only[hx,zYo,Option.some.injEq,Prod.mk.injEq]at h;obtain⟨rfl,rfl⟩:=h;exact hA a' w' B' Y' Mo' bs hbs g1 g2 g3 g4
     | x j=>
      simp only[hx,zYo,Option.some.injEq,Prod.mk.injEq]at h;obtain⟨rfl,rfl⟩:=h;have:=hA a' w' B' Y' Mo' bs hbs g1 g2 g3 g4;cases hj:Nat.beq j id with
      | true=>rw[hj]at this;obtain rfl:=qB hj;exact sJ this
      | false=>rw[hj]at this;exact zAq hj this
   | scope x=>
    simp only[wW]at h;rcases hr with rfl | hr
    ·exact zMd (hk _ _ _ _ h E w0 X F n a D B w Y Mo none _ (.inl rfl) hW hF fun a' w' B' Y' Mo' bs _ g1 g2 g3 g4=>by
      have:=hA a' w' B' Y' Mo' bs (fun e=>by simp[noR]at e) g1 g2 g3 g4
      cases e<;>exact this)
    ·simp[noR]at hr
   | loop x=>
    have hr1:rr=none∨noR x=true:=hr.imp id fun h=>by simpa[noR]using h
    refine pK (γ:=Nat×S×List Nat) (fun g a w=>g.1≤k∧wW P SO (O (evC P SO O g.1)) (evC P SO O g.1) (.loop x) g.2.1=some (e,s')∧∃B' Y' Mo',(noR x=true→g.2.2=[])∧Wd P E w0 X (g.2.2++F) g.2.1.H B' w Y' Mo'∧FrT n a g.2.1.L (g.2.2.map Gv.mark++D) B' (rd w Y')∧BLe B B'∧Le (rd _ Y) (rd w Y'))
     (fun g=>g.1) (k,s,[]) ⟨Nat.le_refl k,h,B,Y,Mo,fun _=>rfl,hW,hF,BLe.refl B,Le.refl _⟩ ?_
    rintro⟨j,s0,bs0⟩ a0 w1 ⟨hj,hstep,B1,Y1,Mo1,hb1,g1,g2,g3,g4⟩;simp only[wW]at hstep hj hb1 g1 g2;cases hx:evC P SO O j x s0 with
    | none=>simp[hx,zEz]at hstep
    | some es=>
     obtain⟨e1,s1⟩:=es;refine ih j (by omega) _ _ _ _ hx E w0 X _ n a0 _ B1 w1 Y1 Mo1 rr _ hr1 g1 g2 fun a' w' B' Y' Mo' bs hbs k1 k2 k3 k4=>?_
     have hbs':noR x=true→bs++bs0=[]:=fun e=>by rw[hbs e,hb1 e];rfl
     have k1':Wd P E w0 X (bs++bs0++F) s1.H B' w' Y' Mo':=by rw[List.append_assoc];exact k1
     have k2':FrT n a' s1.L ((bs++bs0).map Gv.mark++D) B' (rd w' Y'):=by rw[List.map_append,List.append_assoc];exact k2
     cases e1 with
     | n=>
      simp only[hx,zEz]at hstep;cases j with
      | zero=>simp[evC]at hstep
      | succ j=>exact⟨(j,s1,bs++bs0),⟨by omega,hstep,B',Y',Mo',hbs',k1',k2',g3.trans k3,g4.trans k4⟩,Nat.lt_succ_self j⟩
     | x id=>simp only[hx,zEz,Option.some.injEq,Prod.mk.injEq]at hstep;obtain⟨rfl,rfl⟩:=hstep;exact hA a' w' B' Y' Mo' (bs++bs0) (fun e=>hbs' (by simpa[noR]using e)) k1' k2' (g3.trans k3) (g4.trans k4)
     | r=>simp only[hx,zEz,Option.some.injEq,Prod.mk.injEq]at hstep;obtain⟨rfl,rfl⟩:=hstep;exact hA a' w' B' Y' Mo' (bs++bs0) (fun e=>hbs' (by simpa[noR]using e)) k1' k2' (g3.trans k3) (g4.trans k4)
     | p t=>simp only[hx,zEz,Option.some.injEq,Prod.mk.injEq]at hstep;obtain⟨rfl,rfl⟩:=hstep;exact hA a' w' B' Y' Mo' (bs++bs0) (fun e=>hbs' (by simpa[noR]using e)) k1' k2' (g3.trans k3) (g4.trans k4)
   | region id ops draw=>
    cases draw with
    | false=>
     simp only[wW]at h;cases hok:nS ops with
     | false=>simp[hok]at h
     | true=>
      simp only[hok,cond_true]at h;refine wpIn_region_list ?_;exact zXh hcl hyd hpc _ _ _ h hok hW hF (BLe.refl B) (Le.refl _) fun a' w' B' Y' Mo' k1 k2 k3 k4=>hA.one k1 k2 k3 k4
    | true=>
     simp only[wW]at h;cases hok:nS ops with
     | false=>simp[hok,qNj]at h
     | true=>
      simp only[hok,cond_true]at h;cases ho:drE P (O (evC P SO O k)) (evC P SO O k) (zJh P SO (O (evC P SO O k)) (evC P SO O k)) (zIp (evC P SO O k)) ops s with
      | none=>simp[ho,qNj]at h
      | some s1=>
       simp only[ho,qNj,Option.some.injEq,Prod.mk.injEq]at h;obtain⟨rfl,rfl⟩:=h;exact qKb hm (hO _ hk) hk hcl hyd hok ho hW hF fun a' w' B' Y' Mo' k1 k2 k3 k4=>hA.one k1 k2 k3 k4
   | rangeFunc g ps c1 c2=>
    simp only[wW]at h;cases hn:noR c1&&noR c2 with
    | false=>simp[hn]at h
    | true=>
     simp only[hn,cond_true]at h;simp only[Bool.and_eq_true]at hn;rcases hr with rfl | hr
     ·exact qWr hcl hW hF hn.1 hn.2 h hA
     ·simp[noR]at hr
   | goto l=>simp[wW]at h
   | refuse why=>simp[wW]at h
theorem qKe{SO:Oo}{O:Rn→Po}(hm:P.follows .mixedOrders=true)(hS:qAz P SO)(hO:∀rn,sZ P rn→qI P (O rn)){k f m:Nat}{az:List T}{tv:T}{nw:Bool}(h:yV P (evC P SO O k) m f az=some (tv,nw)):KnP P m f az tv nw:=
 zGo (gG hm (qTh hm hS hO k)) h
end
inductive Ar where
  | r (a:Raw)
  | i (n:Int)
  | b (b:Bool)
  | s (s:ByteArray)
inductive Rs where
  | one (a:Ar)
  | tup (l:List Ar)
noncomputable def zBk:Nat→List T→Option (List Nat)
 | 0,_=>some []
 | _+1,[]=>none
 | n+1,t::l=>match t with
  | .v (.int .u32 (.ofNat x))=>bif Nat.blt x 4294967296 then(match zBk n l with | some r=>some (x::r) | none=>none)else none
  | _=>none
noncomputable def zTq:T→Option (List Nat)
 | .v (.slice none 0 0)=>some []
 | .sl cs n=>zBk n cs
 | .st cs n=>bif Nat.ble n 9223372036854775807 then zBk n cs else none
 | _=>none
noncomputable def arT:T→Option Ar
 | .v (.int .i64 n)=>some (.i n)
 | .v (.bool b)=>some (.b b)
 | .v (.string s)=>some (.s s)
 | .ag [.v (.bool b),x,y]=>(match zTq x,zTq y with
  | some l,some l2=>some (.r ⟨b,l,l2⟩)
  | _,_=>none)
 | _=>none
noncomputable def zSl:List T→Option (List Ar)
 | []=>some []
 | t::l=>match arT t,zSl l with
  | some a,some r=>some (a::r)
  | _,_=>none
noncomputable def unL(l:List Nat):T:= .sl (l.map fun(x:Nat)=>T.v (.int .u32 (.ofNat x))) l.length
noncomputable def unA:Ar→T
 | .r a=> .ag [.v (.bool a.neg),unL a.ln,unL a.ld]
 | .i n=> .v (.int .i64 n)
 | .b b=> .v (.bool b)
 | .s s=> .v (.string s)
noncomputable def unR:Rs→T
 | .one a=>unA a
 | .tup l=> .tu (l.map unA)
def ArV(X:Hid)(w:World):Ar→Value→Prop
 | .r a,v=>xH X w v a
 | .i n,v=>v= .int .i64 n
 | .b b,v=>v= .bool b
 | .s s,v=>v= .string s
def zSd(X:Hid)(w:World):List Ar→List Value→Prop
 | [],[]=>True
 | a::az,v::vs=>ArV X w a v∧zSd X w az vs
 | _,_=>False
def RsV(X:Hid)(w:World):Rs→Value→Prop
 | .one a,v=>ArV X w a v
 | .tup l,v=>∃vs:List Value,v= .tuple vs.toArray∧zSd X w l vs
def KC(P:Program)(f:Nat)(p:List Ar→Option Rs)(nw:Bool):Prop:=
 ∀(w:World)(X:Hid)(_:∀b o,X b o→b<w.heap.size)(az:List Ar)(vs:List Value)(_:zSd X w az vs)(y:Rs),p az=some y→Calls P f vs.toArray w (Ret E0 w fun w' v=>RsV (bif nw then old w else X) w' y v)
section
variable {B:Bm}{X:Hid}{w:World}
theorem zGt:∀{n:Nat}{cs:List T}{l:List Nat},zBk n cs=some l→l.length=n∧∀x∈l,x<4294967296
 | 0,_,l,h=>by simp[zBk]at h;subst h;simp
 | n+1,[],l,h=>by simp[zBk]at h
 | n+1,t::cs,l,h=>by
  simp only[zBk]at h;split at h
  ·rename_i x;cases hb:Nat.blt x 4294967296 with
   | false=>simp[hb]at h
   | true=>
    simp only[hb,cond_true]at h;cases hr:zBk n cs with
    | none=>simp[hr]at h
    | some r=>
     simp only[hr,Option.some.injEq]at h;subst h;obtain⟨h1,h2⟩:=zGt hr;rw[Nat.blt_eq]at hb;refine⟨by simp[h1],fun y hy=>?_⟩
     rcases List.mem_cons.1 hy with rfl | hy
     ·exact hb
     ·exact h2 y hy
  ·cases h
theorem zQb:∀{n:Nat}{cs:List T}{l:List Nat},zBk n cs=some l→∀(j x:Nat),l[j]?=some x→cs[j]?=some (.v (.int .u32 (.ofNat x)))
 | 0,_,l,h,j,x,hx=>by simp[zBk]at h;subst h;simp at hx
 | n+1,[],l,h,j,x,hx=>by simp[zBk]at h
 | n+1,t::cs,l,h,j,x,hx=>by
  simp only[zBk]at h;split at h
  ·rename_i y;cases hb:Nat.blt y 4294967296 with
   | false=>simp[hb]at h
   | true=>
    simp only[hb,cond_true]at h;cases hr:zBk n cs with
    | none=>simp[hr]at h
    | some r=>
     simp only[hr,Option.some.injEq]at h;subst h;cases j with
     | zero=>simp at hx;subst hx;rfl
     | succ j=>exact zQb hr j x (by simpa using hx)
  ·cases h
theorem qBm{r:Rd}{b o n:Nat}{cs:List T}{l:List Nat}(h:zBk n cs=some l)(hc:Cls B r b o cs):At r ⟨b,o,none⟩ (U32 l):=by
 intro j v hv;simp only[U32,List.getElem?_map]at hv;cases hx:l[j]? with
 | none=>rw[hx]at hv;cases hv
 | some x=>
  rw[hx]at hv;cases hv;obtain⟨v,h1,h2⟩:=hc j _ (zQb h j x hx);obtain⟨rfl,_⟩:=h2.vI;rw[qJ];exact h1
theorem zMl{t:T}{l:List Nat}{v:Value}(h:zTq t=some l)(hR:Rep B (rd w X) t v):∃ad n c,v= .slice ad n c∧zL (rd w X) ad n c l:=by
 unfold zTq at h;split at h
 ·cases h;obtain⟨rfl,_⟩:=hR.vI;exact⟨none,0,0,rfl,zL.nil none (by omega)⟩
 ·rename_i cs n;have hR2:=hR;obtain⟨ad,c,rfl,hn,hh⟩:=hR.slI;obtain⟨h1,h2⟩:=zGt h;refine⟨ad,n,c,rfl,h1.symm,hn,hR2.slB,h2,?_⟩;rcases hh with⟨rfl,rfl⟩ | ⟨b,o,rfl,hc⟩
  ·left;exact List.length_eq_zero_iff.1 h1
  ·exact .inr ⟨b,o,rfl,qBm h hc⟩
 ·rename_i cs n;cases hb:Nat.ble n 9223372036854775807 with
  | false=>simp[hb]at h
  | true=>
   simp only[hb,cond_true]at h;rw[Nat.ble_eq]at hb;obtain⟨ad,rfl,hh⟩:=hR.stI;obtain⟨h1,h2⟩:=zGt h;refine⟨ad,n,n,rfl,h1.symm,Nat.le_refl _,hb,h2,?_⟩;rcases hh with⟨rfl,rfl⟩ | ⟨b,o,rfl,hc⟩
   ·left;exact List.length_eq_zero_iff.1 h1
   ·exact .inr ⟨b,o,rfl,qBm h hc⟩
 ·cases h
theorem qBl{t:T}{a:Ar}{v:Value}(h:arT t=some a)(hR:Rep B (rd w X) t v):ArV X w a v:=by
 unfold arT at h;split at h
 ·cases h;exact hR.vI.1
 ·cases h;exact hR.vI.1
 ·cases h;exact hR.vI.1
 ·rename_i b x y;cases h1:zTq x with
  | none=>simp[h1]at h
  | some l=>
   cases h2:zTq y with
   | none=>simp[h1,h2]at h
   | some l2=>
    simp only[h1,h2,Option.some.injEq]at h;subst h;obtain⟨vs,rfl,hvs⟩:=hR.agI;match vs,hvs with
    | [v1,v2,v3],⟨g1,g2,g3,_⟩=>
     obtain⟨rfl,_⟩:=g1.vI;obtain⟨a1,n1,c1,rfl,k1⟩:=zMl h1 g2;obtain⟨a2,n2,c2,rfl,k2⟩:=zMl h2 g3;exact⟨_,_,_,_,_,_,rfl,k1,k2⟩
 ·cases h
theorem zVn:∀{ts:List T}{az:List Ar}{vs:List Value},zSl ts=some az→zN B (rd w X) ts vs→zSd X w az vs
 | [],az,[],h,_=>by simp[zSl]at h;subst h;trivial
 | t::ts,az,v::vs,h,hR=>by
  simp only[zSl]at h;cases h1:arT t with
  | none=>simp[h1]at h
  | some a=>
   cases h2:zSl ts with
   | none=>simp[h1,h2]at h
   | some r=>
    simp only[h1,h2,Option.some.injEq]at h;subst h;exact⟨qBl h1 hR.1,zVn h2 hR.2⟩
 | [],_,_::_,_,hR=>hR.elim
 | _::_,_,[],_,hR=>hR.elim
theorem qIi{ad:Option Addr}{n c:Nat}{l:List Nat}(h:zL (rd w X) ad n c l):Rep B (rd w X) (unL l) (.slice ad n c):=by
 have e:=h.hlen;subst e;unfold unL;rcases h.hat with rfl | ⟨b,o,rfl,ha⟩
 ·exact .sl0 h.hbig
 ·have get:∀(j:Nat)(t:T),(l.map fun(x:Nat)=>T.v (.int .u32 (.ofNat x)))[j]?=some t→∃x,l[j]?=some x∧t= .v (.int .u32 (.ofNat x))∧l.getD j 0=x:=fun j t ht=>by
   rw[List.getElem?_map]at ht;cases hx:l[j]? with
   | none=>rw[hx]at ht;cases ht
   | some x=>rw[hx]at ht;cases ht;exact⟨x,rfl,rfl,by simp[hx]⟩
  refine .sl h.hcap (fun j=> .int .u32 (.ofNat (l.getD j 0))) (fun j t ht=>?_) (fun j t ht=>?_) h.hbig
  ·obtain⟨x,hx,rfl,hg⟩:=get j t ht;have:=ha j (.int .u32 (.ofNat x)) (by simp only[U32,List.getElem?_map,hx];rfl)
   rw[qJ]at this;rw[hg];exact this
  ·obtain⟨x,hx,rfl,hg⟩:=get j t ht;rw[hg];exact .v rfl
theorem qIh{a:Ar}{v:Value}(h:ArV X w a v):Rep B (rd w X) (unA a) v:=by
 cases a with
 | r a=>
  obtain⟨_,_,_,_,_,_,rfl,h1,h2⟩:=h;exact Rep.mkAg (vs:=[.bool a.neg,_,_]) ⟨.v rfl,qIi h1,qIi h2,trivial⟩
 | i n=>cases h;exact .v rfl
 | b b=>cases h;exact .v rfl
 | s s=>cases h;exact .v rfl
theorem zXw:∀{az:List Ar}{vs:List Value},zSd X w az vs→zN B (rd w X) (az.map unA) vs
 | [],[],_=>trivial
 | _::_,_::_,h=>⟨qIh h.1,zXw h.2⟩
 | [],_::_,h=>h.elim
 | _::_,[],h=>h.elim
theorem qXo{y:Rs}{v:Value}(h:RsV X w y v):Rep B (rd w X) (unR y) v:=by
 cases y with
 | one a=>exact qIh h
 | tup l=>
  obtain⟨vs,rfl,h⟩:=h;exact Rep.mkTu (zXw h)
end
noncomputable def kcE(p:List Ar→Option Rs)(nw:Bool)(az:List T):Option (T×Bool):=match zSl az with
 | some az=>(match p az with
  | some y=>some (unR y,nw)
  | none=>none)
 | none=>none
theorem lN{P:Program}{f:Nat}{p:List Ar→Option Rs}{nw nw':Bool}(hc:KC P f p nw){az:List T}{tv:T}(h:kcE p nw az=some (tv,nw'))(k:Nat):KnP P k f az tv nw':=by
 unfold kcE at h;cases h1:zSl az with
 | none=>simp[h1]at h
 | some az2=>
  cases h2:p az2 with
  | none=>simp[h1,h2]at h
  | some y=>
   simp only[h1,h2,Option.some.injEq,Prod.mk.injEq]at h;obtain⟨rfl,rfl⟩:=h;intro B w X qM R _ _ hX hR hk;refine(hc w X hX az2 qM (zVn h1 hR) y h2).mono ?_;rintro e w' ⟨hu,v,rfl,hv⟩;exact hk v w' hu (qXo hv)
noncomputable def elsO(r d:Option (T×Bool)):Option (T×Bool):=match r with
 | some x=>some x
 | none=>d
noncomputable def xD:List (Nat×(List T→Option (T×Bool)))→Po
 | [],_,_=>none
 | (g,p)::l,f,az=>bif Nat.beq g f then elsO (p (az.map (unN 12))) (xD l f az)else xD l f az
theorem zIb{P:Program}{l:List (Nat×(List T→Option (T×Bool)))}{g:Nat}{p:List T→Option (T×Bool)}(hp:∀az tv nw,p az=some (tv,nw)→∀k,KnP P k g az tv nw)(hl:qI P (xD l)):qI P (xD ((g,p)::l)):=by
 intro f az tv nw h k;simp only[xD]at h;cases hb:Nat.beq g f with
 | true=>
  obtain rfl:=qB hb;simp only[hb,cond_true]at h;unfold elsO at h;split at h
  ·rename_i r hr;cases h;exact(hp _ tv nw hr k).unN
  ·exact hl _ az tv nw h k
 | false=>
  simp only[hb,cond_false]at h;exact hl f az tv nw h k
theorem qIc{P:Program}:∀{l:List (Nat×(List T→Option (T×Bool)))},(∀g p,(g,p)∈l→∀az tv nw,p az=some (tv,nw)→∀k,KnP P k g az tv nw)→qI P (xD l)
 | [],_=>fun f az tv nw h=>by simp[xD]at h
 | (g,p)::l,hl=>zIb (hl g p List.mem_cons_self) (qIc fun g p hm=>hl g p (List.mem_cons_of_mem _ hm))
noncomputable def eqT:Nat→T→T→Bool
 | 0,_,_=>false
 | k+1,a,b=>match a,b with
  | .v x,.v y=>eqV x y
  | .sl cs n,.sl ds m=>Nat.beq n m&&gI (eqT k) cs ds
  | .st cs n,.st ds m=>Nat.beq n m&&gI (eqT k) cs ds
  | .fp cs,.fp ds=>gI (eqT k) cs ds
  | .ag cs,.ag ds=>gI (eqT k) cs ds
  | .tu cs,.tu ds=>gI (eqT k) cs ds
  | .fn f cs,.fn g ds=>Nat.beq f g&&gI (eqT k) cs ds
  | _,_=>false
noncomputable def zBx(az:List T)(r:T×Bool)(bs:List T):Option (T×Bool):=bif gI (eqT 12) az bs then some r else none
theorem aH:∀(k:Nat)(a b:T),eqT k a b=true→a=b
 | 0,a,b,h=>by cases h
 | k+1,a,b,h=>by
  simp only[eqT]at h;split at h
  ·rw[qCz h]
  ·simp only[Bool.and_eq_true]at h;rw[qB h.1,kQ (aH k) h.2]
  ·simp only[Bool.and_eq_true]at h;rw[qB h.1,kQ (aH k) h.2]
  ·rw[kQ (aH k) h]
  ·rw[kQ (aH k) h]
  ·rw[kQ (aH k) h]
  ·simp only[Bool.and_eq_true]at h;rw[qB h.1,kQ (aH k) h.2]
  ·cases h
section
variable {P:Program}{f:Nat}{az bs:List T}{tv:T}{nw:Bool}
theorem zJo{B B2:Bm}{r:Rd}:∀{az:List T}{vs:List Value},az.all (clean 12)=true→zN B r az vs→zN B2 r az vs
 | [],[],_,_=>trivial
 | a::az,v::vs,h,hR=>by
  simp only[List.all_cons,Bool.and_eq_true]at h;exact⟨vD 12 h.1 hR.1,zJo h.2 hR.2⟩
 | [],_::_,_,hR=>hR.elim
 | _::_,[],_,hR=>hR.elim
theorem KnP.clean(h:KnP P 0 f az tv nw)(ha:az.all (clean 12)=true)(ht:clean 12 tv=true)(k:Nat):KnP P k f az tv nw:=by
 intro B w X qM R hI _ hX hR hk;exact h ⟨fun _=>none,0⟩ w X qM R hI (fun _ _=>rfl) hX (zJo ha hR) fun v w' hu hv=>hk v w' hu (vD 12 ht hv)
theorem qWu(h:KnP P 0 f az tv nw)(hc:(az.all (Ev.clean 12)&&Ev.clean 12 tv)=true){tv':T}{nw':Bool}(hr:zBx az (tv,nw) bs=some (tv',nw'))(k:Nat):KnP P k f bs tv' nw':=by
 unfold zBx at hr;cases hb:gI (eqT 12) az bs with
 | false=>simp[hb]at hr
 | true=>
  obtain rfl:=kQ (aH 12) hb;simp only[hb,cond_true,Option.some.injEq,Prod.mk.injEq]at hr;obtain⟨rfl,rfl⟩:=hr;simp only[Bool.and_eq_true]at hc;exact h.clean hc.1 hc.2 k
theorem qVo{O:Po}(hm:P.follows .mixedOrders=true)(hO:qI P O)(fs:List Nat){rn:Rn}(hrn:sZ P rn):qI P (orF P O fs rn):=by
 intro f az tv nw h k;unfold orF at h;cases ho:O f az with
 | some r=>simp only[ho,Option.some.injEq]at h;subst h;exact hO f az tv nw ho k
 | none=>
  simp only[ho]at h;cases hc:qTt f fs&&(az.map (unN 12)).all (Ev.clean 12)with
  | false=>rw[hc]at h;cases h
  | true=>
   simp only[hc,cond_true]at h;simp only[Bool.and_eq_true]at hc;cases hf:yV P rn 0 f (az.map (unN 12))with
   | none=>simp[hf,zSp]at h
   | some r=>
    obtain⟨t,b⟩:=r;simp only[hf,zSp]at h;cases hct:Ev.clean 12 t with
    | false=>simp[hct]at h
    | true=>
     simp only[hct,cond_true,Option.some.injEq,Prod.mk.injEq]at h;obtain⟨rfl,rfl⟩:=h;exact((zGo (gG hm hrn) hf).clean hc.2 hct k).unN
theorem tC{SO:Oo}{O:Po}(hm:P.follows .mixedOrders=true)(hS:qAz P SO)(hO:qI P O)(fs:List Nat){n:Nat}(h:yV P (evC P SO (orF P O fs) n) 0 f az=some (tv,nw)):KnP P 0 f az tv nw:=
 qKe hm hS (fun _ hrn=>qVo hm hO fs hrn) h
theorem qI.cons{l:List (Nat×(List T→Option (T×Bool)))}(hl:qI P (xD l))(h:KnP P 0 f az tv nw)(hc:(az.all (Ev.clean 12)&&Ev.clean 12 tv)=true):qI P (xD ((f,zBx az (tv,nw))::l)):=
 zIb (fun _ _ _ hr k=>qWu h hc hr k) hl
end
noncomputable def pRR(g:Raw→Raw→Option (Raw×Int)):List Ar→Option Rs
 | [.r a,.r b]=>(match g a b with | some (c,e)=>some (.tup [.r c,.i e]) | none=>none)
 | _=>none
noncomputable def pRI(g:Raw→Raw→Int×Int):List Ar→Option Rs
 | [.r a,.r b]=>some (.tup [.i (g a b).1,.i (g a b).2])
 | _=>none
noncomputable def pR(g:Raw→Int):List Ar→Option Rs
 | [.r a]=>some (.one (.i (g a)))
 | _=>none
noncomputable def pB(g:Raw→Raw→Bool):List Ar→Option Rs
 | [.r a,.r b]=>some (.one (.b (g a b)))
 | _=>none
noncomputable def zMb:Int→Bool
 | .ofNat n=>Nat.ble n 9223372036854775807
 | .negSucc n=>Nat.ble n 9223372036854775807
noncomputable def nz:Int→Bool
 | .ofNat n=>!Nat.beq n 0
 | .negSucc _=>true
noncomputable def pI(g:Int→Raw):List Ar→Option Rs
 | [.i n]=>bif zMb n then some (.one (.r (g n)))else none
 | _=>none
noncomputable def pII(g:Int→Int→Raw):List Ar→Option Rs
 | [.i n,.i m]=>bif(zMb n&&zMb m)&&nz m then some (.tup [.r (g n m),.i 0])else none
 | _=>none
theorem dN{n:Int}(h:zMb n=true): -9223372036854775808≤n∧n≤9223372036854775807:=by
 cases n with
 | ofNat n=>simp only[zMb,Nat.ble_eq]at h;exact⟨by rw[Int.ofNat_eq_natCast];omega,by rw[Int.ofNat_eq_natCast];omega⟩
 | negSucc n=>simp only[zMb,Nat.ble_eq]at h;rw[Int.negSucc_eq];omega
theorem qZe{n:Int}(h:nz n=true):n≠0:=by
 cases n with
 | ofNat n=>simp only[nz]at h;intro e;cases n with
  | zero=>simp at h
  | succ n=>cases e
 | negSucc n=>simp
section
variable {P:Program}{f:Nat}
theorem zWi{g:Raw→Raw→Option (Raw×Int)}(h:∀(w:World)(X:Hid)(_:∀b o,X b o→b<w.heap.size)(a:Raw)(va:Value)(_:xH X w va a)(b:Raw)(vb:Value)(_:xH X w vb b)(y:Raw×Int),g a b=some y→
  Calls P f #[va,vb] w (Ret E0 w fun w' v=>∃u,v= .tuple #[u,.int .i64 y.2]∧xH (old w) w' u y.1)):KC P f (pRR g) true:=by
 intro w X hX az vs hv y hp;unfold pRR at hp;split at hp
 ·rename_i a b;match vs,hv with
  | [va,vb],⟨ha,hb,_⟩=>
   cases hg:g a b with
   | none=>simp[hg]at hp
   | some z=>
    obtain⟨c,e⟩:=z;simp only[hg,Option.some.injEq]at hp;subst hp;refine(h w X hX a va ha b vb hb (c,e) hg).mono ?_;rintro e' w' ⟨hu,v,rfl,u,rfl,hr⟩;exact⟨hu,_,rfl,[u,.int .i64 e],rfl,hr,rfl,trivial⟩
 ·cases hp
theorem qYv{g:Raw→Raw→Int×Int}(h:∀(w:World)(X:Hid)(_:∀b o,X b o→b<w.heap.size)(a:Raw)(va:Value)(_:xH X w va a)(b:Raw)(vb:Value)(_:xH X w vb b),
  Calls P f #[va,vb] w (Ret E0 w fun _ v=>v= .tuple #[.int .i64 (g a b).1,.int .i64 (g a b).2])):KC P f (pRI g) true:=by
 intro w X hX az vs hv y hp;unfold pRI at hp;split at hp
 ·rename_i a b;match vs,hv with
  | [va,vb],⟨ha,hb,_⟩=>
   cases hp;refine(h w X hX a va ha b vb hb).mono ?_;rintro e' w' ⟨hu,v,rfl,rfl⟩;exact⟨hu,_,rfl,[.int .i64 (g a b).1,.int .i64 (g a b).2],rfl,rfl,rfl,trivial⟩
 ·cases hp
theorem kc_r{g:Raw→Int}(h:∀(w:World)(X:Hid)(_:∀b o,X b o→b<w.heap.size)(a:Raw)(va:Value)(_:xH X w va a),Calls P f #[va] w (Ret E0 w fun _ v=>v= .int .i64 (g a))):KC P f (pR g) true:=by
 intro w X hX az vs hv y hp;unfold pR at hp;split at hp
 ·rename_i a;match vs,hv with
  | [va],⟨ha,_⟩=>
   cases hp;refine(h w X hX a va ha).mono ?_;rintro e' w' ⟨hu,v,rfl,rfl⟩;exact⟨hu,_,rfl,rfl⟩
 ·cases hp
theorem kc_b{g:Raw→Raw→Bool}(h:∀(w:World)(X:Hid)(_:∀b o,X b o→b<w.heap.size)(a:Raw)(va:Value)(_:xH X w va a)(b:Raw)(vb:Value)(_:xH X w vb b),
  Calls P f #[va,vb] w (Ret E0 w fun _ v=>v= .bool (g a b))):KC P f (pB g) true:=by
 intro w X hX az vs hv y hp;unfold pB at hp;split at hp
 ·rename_i a b;match vs,hv with
  | [va,vb],⟨ha,hb,_⟩=>
   cases hp;refine(h w X hX a va ha b vb hb).mono ?_;rintro e' w' ⟨hu,v,rfl,rfl⟩;exact⟨hu,_,rfl,rfl⟩
 ·cases hp
theorem kc_i{g:Int→Raw}(h:∀(w:World)(n:Int),-9223372036854775808≤n→n≤9223372036854775807→Calls P f #[.int .i64 n] w (Ret E0 w fun w' v=>xH (old w) w' v (g n))):KC P f (pI g) true:=by
 intro w X hX az vs hv y hp;unfold pI at hp;split at hp
 ·rename_i n;match vs,hv with
  | [va],⟨hv1,_⟩=>
   have hv1:va= .int .i64 n:=hv1;subst hv1;cases hb:zMb n with
   | false=>simp[hb]at hp
   | true=>
    simp only[hb,cond_true,Option.some.injEq]at hp;subst hp;refine(h w n (dN hb).1 (dN hb).2).mono ?_;rintro e' w' ⟨hu,v,rfl,hr⟩;exact⟨hu,_,rfl,hr⟩
 ·cases hp
theorem qPw{g:Int→Int→Raw}(h:∀(w:World)(n m:Int),-9223372036854775808≤n→n≤9223372036854775807→ -9223372036854775808≤m→m≤9223372036854775807→m≠0→
  Calls P f #[.int .i64 n,.int .i64 m] w (Ret E0 w fun w' v=>∃u,v= .tuple #[u,.int .i64 0]∧xH (old w) w' u (g n m))):KC P f (pII g) true:=by
 intro w X hX az vs hv y hp;unfold pII at hp;split at hp
 ·rename_i n m;match vs,hv with
  | [va,vb],⟨hv1,hv2,_⟩=>
   have hv1:va= .int .i64 n:=hv1;have hv2:vb= .int .i64 m:=hv2;subst hv1;subst hv2;cases hb:(zMb n&&zMb m)&&nz m with
   | false=>simp[hb]at hp
   | true=>
    simp only[hb,cond_true,Option.some.injEq]at hp;subst hp;simp only[Bool.and_eq_true]at hb;refine(h w n m (dN hb.1.1).1 (dN hb.1.1).2 (dN hb.1.2).1 (dN hb.1.2).2 (qZe hb.2)).mono ?_;rintro e' w' ⟨hu,v,rfl,u,rfl,hr⟩;exact⟨hu,_,rfl,[u,.int .i64 0],rfl,hr,rfl,trivial⟩
 ·cases hp
end
end Go.Ev

import Derived.Deep.DeepAppendWide
import Derived.RecoverIn
import Derived.OrdersIn
import Derived.Test.YtjnpoeilfdbaaaaGreatDoorBaseC
set_option linter.unusedVariables false
set_option linter.unusedSimpArgs false
set_option linter.unnecessarySimpa false
namespace Go.Ev
open Go Go.Gv Go.RowKit IntKind
section
variable {P:Program}{E:Nat→Prop}{w0:World}{X:Hid}{F:List Nat}{H:List TO}{B:Bm}{w:World}{Y:Hid}{Mo:List (Nat×Obj)}{ρ:Operand→Value}{ρT:Operand→T}{o:Oper}{r:Rd}{k:Nat}
theorem zJh{s f a t:Nat}(h:zXw P s f=some (a,t)):∃fs x,P.underlying s=some (.struct fs)∧fs[f]?=some x∧x.offset=a∧x.type=t:=by
 unfold zXw at h;split at h
 ·rename_i fs hs;cases hx:fs[f]? with
  | none=>simp[hx]at h
  | some x=>simp only[hx,Option.some.injEq,Prod.mk.injEq]at h;exact⟨fs,x,hs,hx,h.1,h.2⟩
 ·cases h
theorem zIs(hρ:∀x,Rep B r (ρT x) (ρ x)){s:TypeId}{x:Operand}{f:Nat}(ho:o.op= .fieldAddr s x f){z:T×Option TO}(h:lD P s (ρT x) f=some z):Ans P w ρ o B r k z:=by
 have hx:=hρ x;unfold lD at h;cases hf:zXw P s f with
 | none=>simp[hf]at h
 | some at_=>
  obtain⟨a,t⟩:=at_;cases hl:ldT P t with
  | none=>simp[hf,hl]at h
  | some gs=>
   obtain⟨g,n⟩:=gs;simp only[hf,hl]at h;cases hn:Nat.beq n 0 with
   | true=>simp[hn]at h
   | false=>
    have hn0:n≠0:=fun e=>by subst e;simp at hn
    simp only[hn,cond_false]at h;obtain⟨fs,fld,h1,h2,h3,h4⟩:=zJh hf;have run:∀b q,ρ x= .pointer (some ⟨b,q,none⟩)→(execOp ρ o).run P w= .ok (.value (.pointer (some ⟨b,q+a,none⟩))) w:=fun b q hv=>by
     unfold execOp;simp only[ho,hv,Instr.fieldAt,Instr.sureAddr,fieldPlace,underlying,h1,h2,h3,h4,Sem.run_bind,Sem.run_pure,run_program,Result.andThen_ok,Gv.run_sizeOf hl,hn0,if_false,yC]
    split at h
    ·rename_i i j e;rw[e]at hx;obtain⟨b,C,hv,hB⟩:=hx.opI;exact qB h ⟨_,run _ _ hv,.op hB⟩
    ·rename_i cs e;rw[e]at hx;obtain⟨b,q,hv,hc⟩:=hx.fpI;exact qB h ⟨_,run _ _ hv,(hc.drop a).fp⟩
    ·cases h
theorem zQs{t:TypeId}{g:Bool}{s a:Nat}{vs:List Value}(hl:ldT P t=some (g,s))(hg:g=true∨((vs.drop a).take s).length=1)(hs:((vs.drop a).take s).length=s)(w:World):(part t vs.toArray a).run P w= .ok (ldV g ((vs.drop a).take s)) w:=by
 unfold part;simp only[Sem.run_bind,zKj hl,Result.andThen_ok];cases g with
 | true=>
  simp only[if_true,Sem.run_bind,Gv.run_sizeOf hl,Result.andThen_ok,Sem.run_pure,ldV,cond_true];congr 2;apply Array.ext';simp[Nat.add_sub_cancel_left]
 | false=>
  have h1:((vs.drop a).take s).length=1:=by simpa using hg
  have:s=1:=hs.symm.trans h1;subst this;have hlt:a<vs.length:=by
   rcases Nat.lt_or_ge a vs.length with h | h
   ·exact h
   ·rw[List.drop_eq_nil_of_le h]at h1;simp at h1
  have e:(vs.drop a).take 1=[vs[a]]:=by
   rw[List.drop_eq_getElem_cons hlt];rfl
  rw[e];simp[hlt,ldV,Sem.run_pure]
theorem zYy(hρ:∀x,Rep B r (ρT x) (ρ x)){s:TypeId}{x:Operand}{f:Nat}(ho:o.op= .field s x f){z:T×Option TO}(h:zMq P s (ρT x) f=some z):Ans P w ρ o B r k z:=by
 have hx:=hρ x;unfold zMq at h;cases hf:zXw P s f with
 | none=>simp[hf]at h
 | some at_=>
  obtain⟨a,t⟩:=at_;simp only[hf]at h;split at h
  ·rename_i cs e;rw[e]at hx;cases hl:ldT P t with
   | none=>simp[hl]at h
   | some gs=>
    obtain⟨g,n⟩:=gs;cases ht:jT n (jK cs a)with
    | none=>simp[hl,ht]at h
    | some us=>
     simp only[hl,ht]at h;cases hg:g||Nat.beq n 1 with
     | false=>simp[hg]at h
     | true=>
      simp only[hg,cond_true]at h;obtain⟨vs,hv,hR⟩:=hx.agI;obtain⟨h5,h6⟩:=zN.take (hR.drop a) ht;obtain⟨h7,h8⟩:=zFe h6 hg h5;obtain⟨fs,fld,h1,h2,h3,h4⟩:=zJh hf;refine qB h ⟨_,?_,h7⟩;unfold execOp;simp only[ho,hv,Instr.field,asAgg,underlying,h1,h2,h3,h4,Sem.run_bind,Sem.run_pure,run_program,Result.andThen_ok,zQs hl h8 h6]
  ·cases h
theorem zQd(hρ:∀x,Rep B r (ρT x) (ρ x)){t:TypeId}{x ix:Operand}(ho:o.op= .indexAddr t x ix){z:T×Option TO}(h:tL P t (ρT x) (ρT ix)=some z):Ans P w ρ o B r k z:=by
 have hx:=hρ x;unfold tL at h;cases hi:sV (ρT ix)with
 | none=>simp[hi]at h
 | some i=>
  simp only[hi]at h;obtain⟨kd,hv⟩:=wO hi (hρ ix);split at h
  ·rename_i e ht;cases hl:ldT P e with
   | none=>simp[hl]at h
   | some gs=>
    obtain⟨g,s⟩:=gs;simp only[hl]at h;have run:∀b off n c,ρ x= .slice (some ⟨b,off,none⟩) n c→i<n→(execOp ρ o).run P w= .ok (.value (.pointer (some ⟨b,off+i*s,none⟩))) w:=fun b off n c hs hlt=>jH ho ht hs hv hl (by omega) (by omega) (by simp) w
    split at h
    ·rename_i cs n e1;rw[e1]at hx;cases hb:Nat.blt i n with
     | false=>simp[hb]at h
     | true=>
      simp only[hb,cond_true]at h;rw[Nat.blt_eq]at hb;obtain⟨ad,c,hs,_,hh⟩:=hx.slI;rcases hh with⟨rfl,_⟩ | ⟨b,off,rfl,hc⟩
      ·omega
      ·exact qB h ⟨_,run _ _ _ _ hs hb,(hc.drop _).fp⟩
    ·rename_i cs n e1;rw[e1]at hx;cases hb:Nat.blt i n with
     | false=>simp[hb]at h
     | true=>
      simp only[hb,cond_true]at h;rw[Nat.blt_eq]at hb;obtain⟨ad,hs,hh⟩:=hx.stI;rcases hh with⟨rfl,_⟩ | ⟨b,off,rfl,hc⟩
      ·omega
      ·exact qB h ⟨_,run _ _ _ _ hs hb,(hc.drop _).fp⟩
    ·rename_i j off n c e1;rw[e1]at hx;cases hb:Nat.blt i n with
     | false=>simp[hb]at h
     | true=>
      simp only[hb,cond_true]at h;rw[Nat.blt_eq]at hb;obtain⟨b,C,hs,hB⟩:=hx.osI;exact qB h ⟨_,run _ _ _ _ hs hb,.op hB⟩
    ·rename_i j off n e1;rw[e1]at hx;cases hb:Nat.blt i n with
     | false=>simp[hb]at h
     | true=>
      simp only[hb,cond_true]at h;rw[Nat.blt_eq]at hb;obtain⟨b,C,c,hs,hB,_⟩:=hx.ogI;exact qB h ⟨_,run _ _ _ _ hs hb,.op hB⟩
    ·rename_i gg A l e1;rw[e1]at hx;cases hb:Nat.beq s A.size&&Nat.blt i l.length with
     | false=>simp[hb]at h
     | true=>
      simp only[hb,cond_true]at h;simp only[Bool.and_eq_true,Nat.blt_eq]at hb;obtain rfl:=zY hb.1;obtain⟨ad,c,hs,_⟩:=hx.lsI;obtain⟨b,o,n2,c2,e2,hc⟩:=hx.lsE hb.2;rw[e2]at hs;cases hs;exact qB h ⟨_,run _ _ _ _ e2 hb.2,hc.fp⟩
    ·rename_i A l e1;rw[e1]at hx;cases hb:Nat.beq s A.size&&Nat.blt i l.length with
     | false=>simp[hb]at h
     | true=>
      simp only[hb,cond_true]at h;simp only[Bool.and_eq_true,Nat.blt_eq]at hb;obtain rfl:=zY hb.1;obtain⟨ad,c,hs,_⟩:=hx.hvI;obtain⟨b,o,n2,c2,e2,hc⟩:=hx.hvE hb.2;rw[e2]at hs;cases hs;exact qB h ⟨_,run _ _ _ _ e2 hb.2,hc.fp⟩
    ·cases h
  ·rename_i n e ht;cases hl:ldT P e with
   | none=>simp[hl]at h
   | some gs=>
    obtain⟨g,s⟩:=gs;simp only[hl]at h;have run:∀b off,ρ x= .pointer (some ⟨b,off,none⟩)→i<n→(execOp ρ o).run P w= .ok (.value (.pointer (some ⟨b,off+i*s,none⟩))) w:=fun b off hs hlt=>by
     have c1:(0:Int)≤(i:Int):=by omega
     have c2:(i:Int)<(n:Int):=by omega
     unfold execOp;simp only[ho,hs,hv,Instr.indexAt,asIntOf,underlying,Instr.sureAddr,ht,Sem.run_bind,Sem.run_pure,run_program,Result.andThen_ok,c1,c2,and_self,if_true,Gv.run_sizeOf hl,yC,Int.toNat_natCast]
    split at h
    ·rename_i j off e1;rw[e1]at hx;cases hb:Nat.blt i n with
     | false=>simp[hb]at h
     | true=>
      simp only[hb,cond_true]at h;rw[Nat.blt_eq]at hb;obtain⟨b,C,hs,hB⟩:=hx.opI;exact qB h ⟨_,run _ _ hs hb,.op hB⟩
    ·rename_i cs e1;rw[e1]at hx;cases hb:Nat.blt i n with
     | false=>simp[hb]at h
     | true=>
      simp only[hb,cond_true]at h;rw[Nat.blt_eq]at hb;obtain⟨b,off,hs,hc⟩:=hx.fpI;exact qB h ⟨_,run _ _ hs hb,(hc.drop _).fp⟩
    ·cases h
  ·cases h
theorem qLt(hρ:∀x,Rep B r (ρT x) (ρ x)){t:TypeId}{x ix:Operand}(ho:o.op= .index t x ix){z:T×Option TO}(h:qLs P t (ρT x) (ρT ix)=some z):Ans P w ρ o B r k z:=by
 have hx:=hρ x;unfold qLs at h;cases hi:sV (ρT ix)with
 | none=>simp[hi]at h
 | some i=>
  simp only[hi]at h;obtain⟨kd,hv⟩:=wO hi (hρ ix);split at h
  ·rename_i n e ht;cases hl:ldT P e with
   | none=>simp[hl]at h
   | some gs=>
    obtain⟨g,s⟩:=gs;simp only[hl]at h;split at h
    ·rename_i cs e1;rw[e1]at hx;cases hc:Nat.blt i n&&(g||Nat.beq s 1)with
     | false=>simp[hc]at h
     | true=>
      simp only[hc,cond_true]at h;simp only[Bool.and_eq_true]at hc;cases ht':jT s (jK cs (i*s))with
      | none=>simp[ht']at h
      | some us=>
       simp only[ht']at h;obtain⟨vs,hs,hR⟩:=hx.agI;obtain⟨h5,h6⟩:=zN.take (hR.drop (i*s)) ht';obtain⟨h7,h8⟩:=zFe h6 hc.2 h5;have hlt:=hc.1;rw[Nat.blt_eq]at hlt;have c1:(0:Int)≤(i:Int):=by omega
       have c2:(i:Int)<(n:Int):=by omega
       refine qB h ⟨_,?_,h7⟩;unfold execOp;simp only[ho,hs,hv,Instr.index,asIntOf,underlying,ht,Sem.run_bind,Sem.run_pure,run_program,Result.andThen_ok,c1,c2,and_self,if_true,Gv.run_sizeOf hl,Int.toNat_natCast,zQs hl h8 h6]
    ·cases h
  ·cases h
theorem zBu:∀{ts:List T}{vs:List Value}{cs:List T}{c:List Value}(o:Nat),zN B r ts vs→zN B r cs c→zN B r (jV cs o ts) ((vs.zipIdx o).foldl (fun c p=>c.set p.2 p.1) c)
 | [],[],_,_,_,_,h=>h
 | t::ts,v::vs,cs,c,o,k,h=>by
  simp only[jV,List.zipIdx_cons,List.foldl_cons];exact zBu (o+1) k.2 (h.put o k.1)
 | [],_::_,_,_,_,k,_=>k.elim
 | _::_,[],_,_,_,k,_=>k.elim
theorem zJj(off:Nat):∀(l:List (Value×Nat))(c:Array Value),(l.foldl (fun cs p=>cs.setIfInBounds (off+p.2) p.1) c).toList=(l.map fun p=>(p.1,off+p.2)).foldl (fun c p=>c.set p.2 p.1) c.toList
 | [],_=>rfl
 | p::l,c=>by
  simp only[List.foldl_cons,List.map_cons];rw[zJj off l];simp
theorem zXg(off:Nat):∀(l:List Value)(k:Nat),((l.zipIdx k).map fun p=>(p.1,off+p.2))=l.zipIdx (off+k)
 | [],_=>rfl
 | x::l,k=>by
  simp only[List.zipIdx_cons,List.map_cons,zXg off l (k+1)];rfl
theorem qJi(off:Nat)(v c:Array Value):(v.zipIdx.foldl (fun cs(p:Value×Nat)=>cs.setIfInBounds (off+p.2) p.1) c).toList=(v.toList.zipIdx off).foldl (fun c p=>c.set p.2 p.1) c.toList:=by
 rw[←Array.foldl_toList,zJj,Array.toList_zipIdx,zXg];rfl
theorem zLr{pl:Nat→Option (Nat×Nat)}(hρ:∀x,Rep B r (ρT x) (ρ x)):∀(ps:List (Nat×Operand)){cs us:List T}{c:Array Value},zN B r cs c.toList→zEg pl cs (ps.map fun p=>(p.1,ρT p.2))=some us→∃c',Instr.fill pl c (ps.map fun p=>(p.1,ρ p.2))=some c'∧zN B r us c'.toList
 | [],cs,us,c,h,e=>by
  simp only[List.map_nil,zEg,Option.some.injEq]at e;subst e;exact⟨c,rfl,h⟩
 | (i,x)::ps,cs,us,c,h,e=>by
  simp only[List.map_cons,zEg]at e;cases hp:pl i with
  | none=>simp[hp]at e
  | some os=>
   obtain⟨off,s⟩:=os;simp only[hp]at e;cases hc:!isU (ρT x)&&(Nat.beq (ln (cellsOf (ρT x))) s&&Nat.ble (off+s) (ln cs))with
   | false=>simp[hc]at e
   | true=>
    simp only[hc,cond_true]at e;simp only[Bool.and_eq_true,Bool.not_eq_true',Nat.ble_eq,qR]at hc;have hx:=(hρ x).cells (qDl hc.1);have h1:(ρ x).cells.size=s:=by rw[←zY hc.2.1,hx.length];simp
    have h2:off+s≤c.size:=by
     have:=hc.2.2;rw[h.length]at this;simpa using this
    have hstep:=zBu off hx h;rw[←qJi]at hstep;obtain⟨c',h3,h4⟩:=zLr hρ ps hstep e;refine⟨c',?_,h4⟩;simp only[List.map_cons,Instr.fill,hp];rw[if_neg (by simp[h1];omega)]
    exact h3
theorem zQt(w:World):∀{l:List Field}{q:List (Nat×Nat)},zTi P l=some q→(l.mapM fun f=>(do pure (f.offset,←sizeOf f.type):Sem (Nat×Nat))).run P w= .ok q w
 | [],q,h=>by simp only[zTi,Option.some.injEq]at h;subst h;rfl
 | f::l,q,h=>by
  simp only[zTi]at h;cases hl:ldT P f.type with
  | none=>simp[hl]at h
  | some gs=>
   obtain⟨g,s⟩:=gs;cases hq:zTi P l with
   | none=>simp[hl,hq]at h
   | some q'=>
    simp only[hl,hq,Option.some.injEq]at h;subst h;simp only[List.mapM_cons,Sem.run_bind,Gv.run_sizeOf hl,Result.andThen_ok,Sem.run_pure,zQt w hq]
theorem zYx(hρ:∀x,Rep B r (ρT x) (ρ x)){t:TypeId}{ps:Array (Nat×Operand)}(ho:o.op= .build t ps){z:T×Option TO}(h:zTf P t (evP ρT ps)=some z):Ans P w ρ o B r k z:=by
 unfold zTf at h;cases hz:zer P t with
 | none=>simp[hz]at h
 | some zs=>
  cases hp:qGf P t with
  | none=>simp[hz,hp]at h
  | some pl=>
   simp only[hz,hp]at h;cases hf:zEg pl zs (evP ρT ps)with
   | none=>simp[hf]at h
   | some us=>
    simp only[hf]at h;obtain⟨i0,zv,h1,h2,rfl⟩:=mO hz;obtain⟨c',h3,h4⟩:=zLr hρ ps.toList (mD zv.cells.toList) hf;have hm:(ps.map fun p=>(p.1,ρ p.2)).toList=ps.toList.map fun p=>(p.1,ρ p.2):=by simp
    refine qB h ⟨.agg c',?_,by have:=Rep.mkAg h4;simpa using this⟩
    unfold qGf at hp;unfold execOp;split at hp
    ·rename_i fs hs;cases hq:zTi P fs.toList with
     | none=>simp[hq]at hp
     | some q=>
      simp only[hq,Option.some.injEq]at hp;subst hp;have hfs:fs=fs.toList.toArray:=by simp
      have h3':Instr.fill (fun x=>q.toArray[x]?) zv.cells (ps.toList.map fun p=>(p.1,ρ p.2))=some c':=by
       simpa using h3
      simp only[ho,Instr.build,Sem.run_bind,mG h1 h2,Result.andThen_ok,underlying,hs,run_program,Sem.run_pure];rw[hfs];simp only[List.mapM_toArray,Sem.run_map,zQt w hq,Result.andThen_ok,Sem.run_bind,hm];rw[h3'];rfl
    ·rename_i n e hs;cases hl:ldT P e with
     | none=>simp[hl]at hp
     | some gs=>
      obtain⟨g,s⟩:=gs;simp only[hl,Option.some.injEq]at hp;subst hp;simp only[ho,Instr.build,Sem.run_bind,mG h1 h2,Result.andThen_ok,underlying,hs,run_program,Sem.run_pure,Gv.run_sizeOf hl,hm];rw[h3];rfl
    ·cases hp
def zQo(l:List Value):Nat→List Value
 | 0=>[]
 | n+1=>l++zQo l n
theorem zHu(l:List Value):∀n,zN B r (reps (l.map ofV) n) (zQo l n)
 | 0=>trivial
 | n+1=>(mD l).app (zHu l n)
theorem zQq(l:List Value):∀n,(zQo l n).length=n*l.length
 | 0=>by simp[zQo]
 | n+1=>by simp only[zQo,List.length_append,zQq l n];rw[Nat.succ_mul];omega
theorem zQp(l:List Value):∀(n j:Nat),j<n*l.length→(zQo l n)[j]?=l[j % l.length]?
 | 0,j,h=>by simp at h
 | n+1,j,h=>by
  simp only[zQo];rcases Nat.lt_or_ge j l.length with hj | hj
  ·rw[List.getElem?_append_left hj,Nat.mod_eq_of_lt hj]
  ·rw[List.getElem?_append_right hj,zQp l n _ (by rw[Nat.succ_mul]at h;omega)]
   rw[←Nat.mod_eq_sub_mod hj]
theorem zVm(z:Array Value)(n:Nat)(hz:0<z.size):(madeCells z (n*z.size)).toList=zQo z.toList n:=by
 apply List.ext_getElem?;intro j;by_cases hj:j<n*z.size
 ·rw[zQp _ _ _ (by simpa using hj)]
  have hm:j % z.size<z.size:=Nat.mod_lt _ hz;simp[madeCells,hj,hm]
 ·rw[List.getElem?_eq_none (by simp[size_madeCells];omega),List.getElem?_eq_none (by rw[zQq];simp;omega)]
theorem qFz(hρ:∀x,Rep B r (ρT x) (ρ x)){t:TypeId}{l c:Operand}(ho:o.op= .makeSlice t l c){z:T×Option TO}(h:qFy P k t (ρT l) (ρT c)=some z):Ans P w ρ o B r k z:=by
 unfold qFy at h;cases he:elT P t with
 | none=>simp[he]at h
 | some e=>
  cases hl:sV (ρT l)with
  | none=>simp[he,hl]at h
  | some nl=>
   cases hc:sV (ρT c)with
   | none=>simp[he,hl,hc]at h
   | some nc=>
    cases hz:zer P e with
    | none=>simp[he,hl,hc,hz]at h
    | some zs=>
     cases hd:ldT P e with
     | none=>simp[he,hl,hc,hz,hd]at h
     | some gs=>
      obtain⟨g,s⟩:=gs;obtain⟨i0,zv,h1,h2,rfl⟩:=mO hz;simp only[he,hl,hc,hz,hd,h1]at h;cases hcond:(Nat.ble nl nc&&Nat.ble nc 1000000)&&(Nat.ble i0.bytes 1000000&&(Nat.beq (ln (zv.cells.toList.map ofV)) s&&Nat.blt 0 s))with
      | false=>simp[hcond]at h
      | true=>
       simp only[hcond,cond_true,Option.some.injEq]at h;subst h;simp only[Bool.and_eq_true,Nat.ble_eq,Nat.blt_eq,qR,List.length_map,Array.length_toList]at hcond;obtain⟨⟨c1,c2⟩,c3,c4,c5⟩:=hcond;have c4:=zY c4;obtain⟨i1,d1,g1,_,g3,_⟩:=gM hd;rw[h1]at g1;cases g1;obtain⟨kl,vl⟩:=wO hl (hρ l);obtain⟨kc,vc⟩:=wO hc (hρ c);have hb:(i0.bytes:Int)*(nc:Int)≤281474976710656:=by
        have:i0.bytes*nc≤1000000*1000000:=Nat.mul_le_mul c3 c2;have h':((i0.bytes*nc:Nat):Int)≤281474976710656:=by omega
        rwa[Int.natCast_mul]at h'
       refine⟨0,.cells (madeCells zv.cells (nc*i0.size)) e (0,0),fun n=> .slice (some ⟨n,0,none⟩) nl nc,fun w'=>?_,rfl,.row ?_,fun b=> .os (qJ _ _ _)⟩
       ·have hr:=run_make (P:=P) w' t e i0 zv (vV he) h1 h2 kl kc (nl:Int) (nc:Int) (by omega) (by omega) hb (by omega)
        unfold execOp;simp only[ho,vl,vc,hr,Sem.run_bind,Sem.run_pure,Result.andThen_ok,Int.toNat_natCast]
       ·rw[g3,←c4,zVm _ _ (by omega)]
        exact zHu _ _
theorem zHi(hρ:∀x,Rep B r (ρT x) (ρ x)){t:TypeId}{n:Nat}{ps:Array (Nat×Operand)}(ho:o.op= .buildSlice t n ps){z:T×Option TO}(h:gZ P k t n (evP ρT ps)=some z):Ans P w ρ o B r k z:=by
 unfold gZ at h;cases he:elT P t with
 | none=>simp[he]at h
 | some e=>
  cases hz:zer P e with
  | none=>simp[he,hz]at h
  | some zs=>
   cases hd:ldT P e with
   | none=>simp[he,hz,hd]at h
   | some gs=>
    obtain⟨g,s⟩:=gs;obtain⟨i0,zv,h1,h2,rfl⟩:=mO hz;simp only[he,hz,hd]at h;cases hcond:Nat.ble (n*s) 16777216&&(Nat.beq (ln (zv.cells.toList.map ofV)) s&&Nat.blt 0 s)with
    | false=>simp[hcond]at h
    | true=>
     simp only[hcond,cond_true]at h;simp only[Bool.and_eq_true,Nat.ble_eq,Nat.blt_eq,qR,List.length_map,Array.length_toList]at hcond;obtain⟨c1,c2,c3⟩:=hcond;have c2:=zY c2;cases hf:zEg (fun i=>some (i*s,s)) (reps (zv.cells.toList.map ofV) n) (evP ρT ps)with
     | none=>simp[hf]at h
     | some us=>
      simp only[hf,Option.some.injEq]at h;subst h;have hm0:zN B r (reps (zv.cells.toList.map ofV) n) (madeCells zv.cells (n*s)).toList:=by
       rw[←c2,zVm _ _ (by omega)];exact zHu _ _
      obtain⟨c',h3,h4⟩:=zLr hρ ps.toList hm0 hf;have hm:(ps.map fun p=>(p.1,ρ p.2)).toList=ps.toList.map fun p=>(p.1,ρ p.2):=by simp
      refine⟨0,.cells c' e (0,0),fun b=> .slice (some ⟨b,0,none⟩) n n,fun w'=>?_,rfl,.row h4,fun b=> .os (qJ _ _ _)⟩;have nb:¬n*s>2^24:=by omega
      unfold execOp;simp only[ho,Instr.buildSlice,underlying,vV he,run_program,Sem.run_bind,Sem.run_pure,Result.andThen_ok,Gv.run_sizeOf hd];rw[if_neg nb];by_cases h0:n*s=0
      ·rw[if_pos h0];have hmc:(Array.range (n*s)).map (fun x=>(#[]:Array Value)[x % (#[]:Array Value).size]!)=madeCells zv.cells (n*s):=by rw[h0];simp[madeCells]
       simp only[Sem.run_bind,Sem.run_pure,Result.andThen_ok,hmc,hm,h3];rfl
      ·rw[if_neg h0];have hmc:(Array.range (n*s)).map (fun x=>zv.cells[x % zv.cells.size]!)=madeCells zv.cells (n*s):=rfl;simp only[Sem.run_bind,mG h1 h2,Sem.run_pure,Result.andThen_ok,hmc,hm,h3];rfl
theorem zWi(hH:zIk B r w H)(hρ:∀x,Rep B r (ρT x) (ρ x)){z:T×Option TO}(h:xB P H k ρT o.op=some z):Ans P w ρ o B r k z:=by
 generalize hop:o.op=op at h;cases op<;>simp only[xB]at h<;>try contradiction
 case move x=>exact qB h ⟨_,zUu (.inl hop) w,hρ x⟩
 case assign x=>exact qB h ⟨_,zUu (.inr hop) w,hρ x⟩
 case pick c a b=>exact qGb hρ hop h
 case alloc e=>exact zYv hop h
 case box e x=>exact qLr hρ hop h
 case build t ps=>exact zYx hρ hop h
 case buildSlice t n ps=>exact zHi hρ hop h
 case load t a=>exact zQe hH hρ hop h
 case nilCheck x=>exact qLw hρ hop h
 case binOp op t x y t2=>exact qLq (ρT:=fun y=>dn (ρT y)) (fun y=>(hρ y).dn) hop h
 case makeFunc fn first caps=>
  unfold pMkF at h;split at h
  ·rename_i e;obtain rfl:first=#[]:=Array.ext' (by simpa using e)
   exact qB h (zPn hρ hop)
  ·split at h
   ·rename_i e;obtain rfl:caps=#[]:=Array.ext' (by simpa using e)
    exact qB h (zMh hρ hop)
   ·cases h
  ·cases h
 case makeSlice t l c=>exact qFz hρ hop h
 case slice t x lo hi mx=>exact zYz (ρT:=fun y=>dn (ρT y)) (fun y=>(hρ y).dn) hop h
 case fieldAddr s x f=>exact zIs hρ hop h
 case field s x f=>exact zYy hρ hop h
 case indexAddr t x i=>exact zQd (ρT:=fun y=>dn (ρT y)) (fun y=>(hρ y).dn) hop h
 case index t x i=>exact qLt (ρT:=fun y=>dn (ρT y)) (fun y=>(hρ y).dn) hop h
 case extract x i=>exact zQc hρ hop h
 case call c=>exact qFt hH (ρT:=fun y=>dn (ρT y)) (fun y=>(hρ y).dn) hop h
 case lookup t m x ok=>exact zTh hH hρ hop h
 case makeMap t rs=>
  cases rs with
  | some q=>simp at h
  | none=>
   simp only[Option.some.injEq]at h;subst h;refine⟨0,.map #[] 0,fun n=> .map (some n),fun w'=>?_,rfl,.map trivial rfl rfl,fun b=> .om (qJ _ _ _)⟩;unfold execOp;simp only[hop,Instr.makeMap,Option.map_none,Sem.run_bind,Sem.run_pure,newObj];rfl
end
structure FrT(n:Nat)(a:Act)(L:List T)(D:List Deferred)(B:Bm)(r:Rd):Prop where
 size:a.tmps.size=n
 reps:zN B r L a.tmps.toList
 defers:a.defers=D
section
variable {P:Program}{E:Nat→Prop}{w0:World}{X:Hid}{F:List Nat}{H:List TO}{B B':Bm}{w:World}{Y:Hid}{Mo:List (Nat×Obj)}{o:Oper}{r r':Rd}{n:Nat}{a:Act}{L:List T}{D:List Deferred}{Q:Exit→Act→World→Prop}{K:Act→World→Prop}
theorem FrT.mono(h:FrT n a L D B r)(hB:BLe B B')(hr:Le r r'):FrT n a L D B' r':=⟨h.size,h.reps.mono hB hr,h.defers⟩
theorem FrT.rep(h:FrT n a L D B r)(x:Operand):Rep B r (evO L x) (a.eval x):=by
 cases x with
 | tmp t=>
  have:=h.reps.getD t;simpa[evO,Act.eval]using this
 | const v=>exact zBm v
 | global g=>exact .u
 | func f=>exact Rep.mkFn (vs:=[]) trivial
theorem FrT.put(h:FrT n a L D B r)(d:Option Nat){t:T}{v:Value}(k:Rep B r t v):FrT n (a.put d v) (dst d t L) D B r:=by
 cases d with
 | none=>exact h
 | some d=>
  refine⟨by simpa[Act.put]using h.size,?_,h.defers⟩
  have:=h.reps.put d k;simpa[Act.put,dst]using this
def pY(P:Program)(E:Nat→Prop)(w0:World)(X:Hid)(F:List Nat)(n:Nat)(D:List Deferred)(H:List TO)(L:List T)(B:Bm)(r:Rd)(K:Act→World→Prop):Prop:=
 ∀a' w' B' Y' Mo',Wd P E w0 X F H B' w' Y' Mo'→FrT n a' L D B' (rd w' Y')→BLe B B'→Le r (rd w' Y')→K a' w'
theorem qLi(hW:Wd P E w0 X F H B w Y Mo)(hF:FrT n a L D B (rd w Y)){z:T×Option TO}{s:S}(h:xB P H (ln H) (evO L) o.op=some z)(hs:zOt o.dst L H z=some s)(hk:pY P E w0 X F n D s.H s.L B (rd w Y) K):o.wp P a w K Q:=by
 have hA:=zWi (ρ:=a.eval) hW.hp hF.rep h;rw[qR]at hA;obtain⟨t,ob⟩:=z;unfold Oper.wp;cases ob with
 | none=>
  obtain⟨v,hr,hR⟩:=hA;rw[hr];simp only[zOt,Option.some.injEq]at hs;subst hs;exact hk _ _ _ _ _ hW (hF.put o.dst hR) (BLe.refl B) (Le.refl _)
 | some ob=>
  obtain⟨C,obj,vf,hr,hl,hR,hv⟩:=hA;rw[hr];simp only[zOt,Option.some.injEq]at hs;subst hs;obtain⟨hW',hB⟩:=hW.alloc hl hR;have hle:=Le.hide_new (w:=w) (Y:=Y) obj;exact hk _ _ _ _ _ hW' ((hF.mono hB hle).put o.dst ((hv _).mono (BLe.refl _) hle)) hB hle
theorem wG:∀{ts:List T}{vs:List Value}{cs:List T}{c:Array Value}(o:Nat),zN B r ts vs→zN B r cs c.toList→zN B r (jV cs o ts) (yH c o vs).toList
 | [],[],_,_,_,_,h=>h
 | t::ts,v::vs,cs,c,o,k,h=>by
  simp only[jV,yH];refine wG (o+1) k.2 ?_;have:=h.put o k.1;simpa using this
 | [],_::_,_,_,_,k,_=>k.elim
 | _::_,[],_,_,_,k,_=>k.elim
theorem pU(m:Nat):∀(vs:List Value)(c:Array Value)(o:Nat),(yH c o vs).toList.take m=(yH (c.toList.take m).toArray o vs).toList
 | [],c,o=>by simp[yH]
 | v::vs,c,o=>by
  simp only[yH];rw[pU m vs];congr 2;simp[List.take_set]
theorem qYl{t:T}{v:Value}(h:one t=true)(hR:Rep B r t v):v.oneCell'=true:=by
 cases hR<;>first | rfl | (simp[one]at h;done) | (rename_i hls;obtain⟨_,_,e,_⟩:=hls;cases e;rfl) | skip
 rename_i hsc;cases v<;>first | rfl | (simp[sc]at hsc)
theorem zFj:∀{ts:List T}{vs:List Value},vC ts=true→zN B r ts vs→∀v∈vs,v.oneCell'=true
 | [],[],_,_,v,h=>by cases h
 | t::ts,u::vs,h,k,v,hv=>by
  simp only[vC,Bool.and_eq_true]at h;rcases List.mem_cons.1 hv with rfl | hv
  ·exact qYl h.1 k.1
  ·exact zFj h.2 k.2 v hv
 | [],_::_,_,k,_,_=>k.elim
 | _::_,[],_,k,_,_=>k.elim
theorem lG:∀(ts cs:List T)(o:Nat),(jV cs o ts).length=cs.length
 | [],_,_=>rfl
 | t::ts,cs,o=>by rw[jV,lG ts,yP];simp
theorem qBm{t:T}(h:vC (cellsOf t)=true):t≠.u:=fun e=>by subst e;simp[cellsOf,vC,one]at h
theorem qYp{t:TypeId}{xa xv:Operand}(hW:Wd P E w0 X F H B w Y Mo)(hF:FrT n a L D B (rd w Y))(ho:o.op= .store t xa xv)(hd:o.dst=none){H':List TO}(h:qMp P H t (evO L xa) (evO L xv)=some H')(hk:pY P E w0 X F n D H' L B (rd w Y) K):o.wp P a w K Q:=by
 have ha:=hF.rep xa;have hv:=hF.rep xv;unfold qMp at h;split at h
 ·rename_i g m i off hl e;rw[e]at ha;cases hc:vC (cellsOf (evO L xv))&&Nat.beq (ln (cellsOf (evO L xv))) m with
  | false=>simp[hc]at h
  | true=>
   simp only[hc,cond_true]at h;simp only[Bool.and_eq_true,qR]at hc;have hcs:=hv.cells (qBm hc.1);have hm:(a.eval xv).cells.size=m:=by rw[←zY hc.2,hcs.length];simp
   obtain⟨b,C,hp,hB⟩:=ha.opI;have hone:=zFj hc.1 hcs;unfold zZd at h;rw[jA,List.getD_eq_getElem?_getD]at h;have fin:∀(o' o2:TO)(c:Array Value)(ty:TypeId),H[i]?=some o'→vB o'=true→(b,Obj.cells c ty (0,0))∈Mo→H'=H.set i o2→vB o2=true→off+(cellsOf (evO L xv)).length≤c.size→
     (∀(w':World),Le (rd w Y) (rd w' Y)→RO P B (rd w' Y) C o2 (.cells (yH c off (a.eval xv).cells.toList) ty (0,0)))→o.wp P a w K Q:=fun o' o2 c ty hi hl hmem hH hl2 hsz hR=>by
    subst hH;obtain⟨q,hq⟩:=List.getElem?_of_mem hmem;have hql:q<Mo.length:=(List.getElem?_eq_some_iff.1 hq).1;have hq2:(Mo++xH F)[q]?=some (b,.cells c ty (0,0)):=by rw[List.getElem?_append_left hql];exact hq
    obtain⟨w',hr,e1,e2,e3,e4,e5,e6⟩:=kN P (a.eval xv).cells.toList c w off 0 (hW.heap hmem) hone (by rw[hcs.length]at hsz;simpa using hsz)
    rw[Nat.add_zero]at e5;have hS:=hW.st.set q _ hq2 (Nat.le_of_eq e4.symm) e1 e2 e3 e5 (fun k _ hk=>e6 k hk);rw[List.set_append_left _ _ hql]at hS;have hle:=hW.st.le_set (w':=w') q hq2 (fun k _ hk=>e6 k hk);unfold Oper.wp;have hx:(execOp a.eval o).run P w= .ok .skip w':=by
     unfold execOp;simp only[ho,hp,Instr.storeAt,Instr.sureAddr,storeVar,Sem.run_bind,Sem.run_pure,Result.andThen_ok,Gv.run_sizeOf (by assumption),hm,ne_eq,not_true_eq_false,if_false,hr]
    rw[hx];show K (a.put o.dst undef) w';rw[hd];exact hk _ _ _ _ _ (hW.set hi hl hB hq hS hle (fun cs e=>by rw[e]at hl2;cases hl2) (fun _=>hR w' hle)) (hF.mono (BLe.refl B) hle) (BLe.refl B) hle
   cases hi:H[i]? with
   | none=>rw[hi]at h;simp at h
   | some x=>
    rw[hi]at h;cases x with
    | row cs ty=>
     simp only[Option.getD_some]at h;cases hz:Nat.ble (off+ln (cellsOf (evO L xv))) (ln cs)with
     | false=>simp[hz]at h
     | true=>
      simp only[hz,cond_true,Option.some.injEq,yP]at h;rw[Nat.ble_eq,qR,qR]at hz;obtain⟨b',C',ob,g1,g2,g3⟩:=hW.ob i _ hi rfl;rw[hB]at g1;cases g1;cases g3 with
      | @row _ _ c hR=>
       exact fin _ (.row (jV cs off (cellsOf (evO L xv))) ty) c ty hi rfl g2 h.symm rfl (by rw[hR.length]at hz;simpa using hz) fun w' hle=> .row (wG off (hcs.mono (BLe.refl B) hle) (hR.mono (BLe.refl B) hle))
    | gro cs ty=>
     simp only[Option.getD_some]at h;cases hz:Nat.ble (off+ln (cellsOf (evO L xv))) (ln cs.list)with
     | false=>simp[hz]at h
     | true=>
      simp only[hz,cond_true,Option.some.injEq,yP]at h;rw[Nat.ble_eq,qR,qR]at hz;obtain⟨b',C',ob,g1,g2,g3⟩:=hW.ob i _ hi rfl;rw[hB]at g1;cases g1;cases g3 with
      | @gro _ _ c i0 q1 q2 q3 hR=>
       have hlen:cs.list.length≤c.size:=by
        have:=hR.length;simp at this;omega
       refine fin _ (.gro (.l (jV cs.list off (cellsOf (evO L xv)))) ty) c ty hi rfl g2 h.symm rfl (by omega) fun w' hle=> .gro q1 (by rw[pV];exact q2) q3 ?_
       show zN B _ (jV cs.list off (cellsOf (evO L xv))) (List.take (jV cs.list off (cellsOf (evO L xv))).length _);rw[lG,pU];exact wG off (hcs.mono (BLe.refl B) hle) (by simpa using hR.mono (BLe.refl B) hle)
    | _=>simp at h
 ·cases h
theorem Wd.sto{i off b C:Nat}{ts:List T}{vs:List Value}{H':List TO}(hW:Wd P E w0 X F H B w Y Mo)(hB:B i=some (b,C))(h:zZd H i off ts=some H')(hcs:zN B (rd w Y) ts vs)(h1:vC ts=true):∃w' Mo',(storeCells ⟨b,off,none⟩ vs).run P w= .ok () w'∧Wd P E w0 X F H' B w' Y Mo'∧Le (rd w Y) (rd w' Y):=by
 have hone:=zFj h1 hcs;unfold zZd at h;rw[jA,List.getD_eq_getElem?_getD]at h;have fin:∀(o' o2:TO)(c:Array Value)(ty:TypeId),H[i]?=some o'→vB o'=true→(b,Obj.cells c ty (0,0))∈Mo→H'=H.set i o2→vB o2=true→off+ts.length≤c.size→
   (∀(w':World),Le (rd w Y) (rd w' Y)→RO P B (rd w' Y) C o2 (.cells (yH c off vs) ty (0,0)))→∃w' Mo',(storeCells ⟨b,off,none⟩ vs).run P w= .ok () w'∧Wd P E w0 X F H' B w' Y Mo'∧Le (rd w Y) (rd w' Y):=fun o' o2 c ty hi hl hmem hH hl2 hsz hR=>by
  subst hH;obtain⟨q,hq⟩:=List.getElem?_of_mem hmem;have hql:q<Mo.length:=(List.getElem?_eq_some_iff.1 hq).1;have hq2:(Mo++xH F)[q]?=some (b,.cells c ty (0,0)):=by rw[List.getElem?_append_left hql];exact hq
  obtain⟨w',hr,e1,e2,e3,e4,e5,e6⟩:=kN P vs c w off 0 (hW.heap hmem) hone (by rw[hcs.length]at hsz;simpa using hsz)
  rw[Nat.add_zero]at e5;have hS:=hW.st.set q _ hq2 (Nat.le_of_eq e4.symm) e1 e2 e3 e5 (fun k _ hk=>e6 k hk);rw[List.set_append_left _ _ hql]at hS;have hle:=hW.st.le_set (w':=w') q hq2 (fun k _ hk=>e6 k hk);exact⟨w',_,hr,hW.set hi hl hB hq hS hle (fun cs e=>by rw[e]at hl2;cases hl2) (fun _=>hR w' hle),hle⟩
 cases hi:H[i]? with
 | none=>rw[hi]at h;simp at h
 | some x=>
  rw[hi]at h;cases x with
  | row cs ty=>
   simp only[Option.getD_some]at h;cases hz:Nat.ble (off+ln ts) (ln cs)with
   | false=>simp[hz]at h
   | true=>
    simp only[hz,cond_true,Option.some.injEq,yP]at h;rw[Nat.ble_eq,qR,qR]at hz;obtain⟨b',C',ob,g1,g2,g3⟩:=hW.ob i _ hi rfl;rw[hB]at g1;cases g1;cases g3 with
    | @row _ _ c hR=>
     exact fin _ (.row (jV cs off ts) ty) c ty hi rfl g2 h.symm rfl (by rw[hR.length]at hz;simpa using hz) fun w' hle=> .row (wG off (hcs.mono (BLe.refl B) hle) (hR.mono (BLe.refl B) hle))
  | gro cs ty=>
   simp only[Option.getD_some]at h;cases hz:Nat.ble (off+ln ts) (ln cs.list)with
   | false=>simp[hz]at h
   | true=>
    simp only[hz,cond_true,Option.some.injEq,yP]at h;rw[Nat.ble_eq,qR,qR]at hz;obtain⟨b',C',ob,g1,g2,g3⟩:=hW.ob i _ hi rfl;rw[hB]at g1;cases g1;cases g3 with
    | @gro _ _ c i0 q1 q2 q3 hR=>
     have hlen:cs.list.length≤c.size:=by
      have:=hR.length;simp at this;omega
     refine fin _ (.gro (.l (jV cs.list off ts)) ty) c ty hi rfl g2 h.symm rfl (by omega) fun w' hle=> .gro q1 (by rw[pV];exact q2) q3 ?_
     show zN B _ (jV cs.list off ts) (List.take (jV cs.list off ts).length _);rw[lG,pU];exact wG off (hcs.mono (BLe.refl B) hle) (by simpa using hR.mono (BLe.refl B) hle)
  | _=>simp at h
theorem lH{b:Nat}{es:Array MapEntry}{clk:Nat}{ob:Obj}(h:w.heap[b]?=some (.map es clk)):(setObj b ob).run P w= .ok () (w.putObj b ob):=by
 simp[setObj,Sem.run,h,World.putObj]
theorem xD.app{l:List (Value×T)}{es:List MapEntry}{e:Value×T}{f:MapEntry}(h:xD B r l es)(h1:f.key=e.1)(h2:Rep B r e.2 f.val):xD B r (l++[e]) (es++[f]):=by
 induction l generalizing es with
 | nil=>cases es with
  | nil=>exact⟨h1,h2,trivial⟩
  | cons=>exact h.elim
 | cons x l ih=>cases es with
  | nil=>exact h.elim
  | cons y es=>exact⟨h.1,h.2.1,ih h.2.2⟩
theorem xD.put:∀{l:List (Value×T)}{es:List MapEntry}(j:Nat){e:Value×T}{v:Value},xD B r l es→Rep B r e.2 v→xD B r (Ev.put e l j) (es.modify j fun f=>{f with key:=e.1,val:=v})
 | [],[],_,_,_,_,_=>by simp[qMa,xD]
 | x::l,y::es,0,e,v,h,k=>by simpa[zQj]using⟨rfl,k,h.2.2⟩
 | x::l,y::es,j+1,e,v,h,k=>by simpa[zHr]using⟨h.1,h.2.1,xD.put j h.2.2 k⟩
 | [],_::_,_,_,_,h,_=>h.elim
 | _::_,[],_,_,_,h,_=>h.elim
theorem qYq{t:TypeId}{xm xk xv:Operand}(hW:Wd P E w0 X F H B w Y Mo)(hF:FrT n a L D B (rd w Y))(ho:o.op= .mapUpdate t xm xk xv)(hd:o.dst=none){H':List TO}(h:qMw P H t (evO L xm) (evO L xk) (evO L xv)=some H')(hk:pY P E w0 X F n D H' L B (rd w Y) K):o.wp P a w K Q:=by
 have hm:=hF.rep xm;have hv:=hF.rep xv;unfold qMw at h;split at h
 ·rename_i i em;rw[em]at hm;split at h
  ·rename_i l hn;split at h
   ·rename_i kt vt kv ht hs;have hu:=nW ht;have hx:=zNc hs (hF.rep xk);cases hup:jAu P kt kv (evO L xv) l with
    | none=>simp[hup]at h
    | some l2=>
     simp only[hup,Option.some.injEq,yP]at h;subst h;rw[jA,List.getD_eq_getElem?_getD]at hn;have hi:H[i]?=some (.map l):=by
      cases hi:H[i]? with
      | none=>rw[hi]at hn;cases hn
      | some x=>rw[hi]at hn;simp at hn;rw[hn]
     obtain⟨b,C,hmv,hB⟩:=hm.omI;obtain⟨b',C',ob,g1,g2,g3⟩:=hW.ob i _ hi rfl;rw[hB]at g1;cases g1;cases g3 with
     | @map _ es clk hme hclk hborn=>
      have hb:=hW.heap g2;obtain⟨q,hq⟩:=List.getElem?_of_mem g2;have hql:q<Mo.length:=(List.getElem?_eq_some_iff.1 hq).1;have hq2:(Mo++xH F)[q]?=some (b,.map es clk):=by rw[List.getElem?_append_left hql];exact hq
      have fin:∀(es2:Array MapEntry)(clk2:Nat),xD B (rd w Y) l2 es2.toList→clk2=es2.size→es2.toList.map (·.born)=List.range es2.size→(Instr.mapUpdate t (.map (some b)) kv (a.eval xv)).run P w= .ok () (w.putObj b (.map es2 clk2))→o.wp P a w K Q:=fun es2 clk2 hR J2 hb2 hrun=>by
       obtain⟨hS,hle⟩:=hW.st.putObj (o':= .map es2 clk2) q hq2;rw[List.set_append_left _ _ hql]at hS;have hW2:=hW.set hi rfl hB hq hS hle (o':= .map l2) (fun cs e=>by cases e) (fun _=> .map (hR.mono (BLe.refl B) hle) J2 hb2)
       have hx2:(execOp a.eval o).run P w= .ok .skip (w.putObj b (.map es2 clk2)):=by
        unfold execOp;simp only[ho,hmv,hx,Sem.run_bind,hrun,Result.andThen_ok,Sem.run_pure]
       unfold Oper.wp;rw[hx2];show K (a.put o.dst undef) _;rw[hd];exact hk _ _ _ _ _ hW2 (hF.mono (BLe.refl B) hle) (BLe.refl B) hle
      unfold jAu at hup;cases hck:kOk P false kt kv with
      | false=>simp[hck]at hup
      | true=>
       simp only[hck,cond_true]at hup;have hck:=zPf hck w;cases hf:zJo P kt kv l with
       | none=>simp[hf]at hup
       | some y=>
        simp only[hf]at hup;rcases zPe (w:=w) hme hf with⟨rfl,hr⟩ | ⟨j,e',f',rfl,h2,h3,hr,h5,h6⟩
        ·simp only[Option.some.injEq]at hup;subst hup;refine fin (es.push {key:=kv,val:=a.eval xv,born:=clk}) (clk+1) (by simpa using hme.app (e:=(kv,evO L xv)) (f:={key:=kv,val:=a.eval xv,born:=clk}) rfl hv) (by simp[hclk]) (by
          simp only[Array.toList_push,List.map_append,hborn,List.map_cons,List.map_nil,Array.size_push,List.range_succ,hclk]) ?_
         unfold Instr.mapUpdate;simp only[underlying,hu,Sem.run_bind,Sem.run_pure,run_program,yV hb,Result.andThen_ok,hck,hr,lH hb]
        ·simp only[h2]at hup;cases hsb:Instr.sameBits 10000 e'.1 kv with
         | false=>simp[hsb]at hup
         | true=>
          simp only[hsb,cond_true,Option.some.injEq]at hup;subst hup;refine fin (es.modify j fun f=>{f with key:=kv,val:=a.eval xv}) clk (by
           have:=hme.put j (e:=(kv,evO L xv)) hv;simpa[Array.toList_modify]using this) (by simpa using hclk) (by
           have hmb:∀(l:List MapEntry)(j:Nat)(kv v:Value),(l.modify j fun f=>{f with key:=kv,val:=v}).map (·.born)=l.map (·.born):=fun l=>by
            induction l with
            | nil=>intro j kv v;simp
            | cons x l ih=>
             intro j kv v;cases j with
             | zero=>simp
             | succ j=>simp[ih]
           rw[Array.toList_modify,hmb,hborn];simp) ?_
          have hkey:((es[j]?).map (·.key)).getD kv=e'.1:=by
           have:es[j]?=some f':=by simpa using h3
           rw[this];simp[h5]
          unfold Instr.mapUpdate;simp only[underlying,hu,Sem.run_bind,Sem.run_pure,run_program,yV hb,Result.andThen_ok,hck,hr,hkey,Instr.keyThatStays,hsb,if_true,lH hb]
   ·cases h
  ·rename_i d hn;split at h
   ·rename_i kt vt ht;have hu:=nW ht;cases hup:jAt P kt d (evO L xk) (evO L xv)with
    | none=>simp[hup]at h
    | some d2=>
     simp only[hup,Option.some.injEq,yP]at h;subst h;rw[jA,List.getD_eq_getElem?_getD]at hn;have hi:H[i]?=some (.mapd d):=by
      cases hi:H[i]? with
      | none=>rw[hi]at hn;cases hn
      | some x=>rw[hi]at hn;simp at hn;rw[hn]
     obtain⟨b,C,hmv,hB⟩:=hm.omI;obtain⟨b',C',ob,g1,g2,g3⟩:=hW.ob i _ hi rfl;rw[hB]at g1;cases g1;cases g3 with
     | @mapd _ es clk hme hclk hborn=>
      have hb:=hW.heap g2;obtain⟨q,hq⟩:=List.getElem?_of_mem g2;have hql:q<Mo.length:=(List.getElem?_eq_some_iff.1 hq).1;have hq2:(Mo++xH F)[q]?=some (b,.map es clk):=by rw[List.getElem?_append_left hql];exact hq
      unfold jAt at hup;split at hup
      ·rename_i key y hkey hy;cases hko:wJ P kt d.K with
       | false=>simp[hko]at hup
       | true=>
        simp only[hko,cond_true,Option.some.injEq]at hup;subst hup;have hx:=zVd hko (aZ hkey (hF.rep xk));have hyr:=aZ hy hv;have fin:∀(es2:Array MapEntry)(clk2:Nat),xD B (rd w Y) (MD.ents ⟨d.g,d.K,d.V,lT d.K key y d.l⟩) es2.toList→clk2=es2.size→es2.toList.map (·.born)=List.range es2.size→(Instr.mapUpdate t (.map (some b)) (xS d.K key) (a.eval xv)).run P w= .ok () (w.putObj b (.map es2 clk2))→o.wp P a w K Q:=fun es2 clk2 hR J2 hb2 hrun=>by
         obtain⟨hS,hle⟩:=hW.st.putObj (o':= .map es2 clk2) q hq2;rw[List.set_append_left _ _ hql]at hS;have hW2:=hW.set hi rfl hB hq hS hle (o':= .mapd ⟨d.g,d.K,d.V,lT d.K key y d.l⟩) (fun cs e=>by cases e) (fun _=> .mapd (hR.mono (BLe.refl B) hle) J2 hb2)
         have hx2:(execOp a.eval o).run P w= .ok .skip (w.putObj b (.map es2 clk2)):=by
          unfold execOp;simp only[ho,hmv,hx,Sem.run_bind,hrun,Result.andThen_ok,Sem.run_pure]
         unfold Oper.wp;rw[hx2];show K (a.put o.dst undef) _;rw[hd];exact hk _ _ _ _ _ hW2 (hF.mono (BLe.refl B) hle) (BLe.refl B) hle
        obtain⟨q',hr,hf⟩:=zOv (w:=w) hko key d.l es.toList (zCs hme);rcases hf with⟨rfl,_,_,h4⟩ | ⟨j,e,f,rfl,h2,h3,h4,h5,h6,_,_,h9⟩
        ·refine fin (es.push {key:=xS d.K key,val:=a.eval xv,born:=clk}) (clk+1) ?_ (by simp[hclk]) (by
          simp only[Array.toList_push,List.map_append,hborn,List.map_cons,List.map_nil,Array.size_push,List.range_succ,hclk]) ?_
         ·have:=hme.app (e:=(xS d.K key,unT d.g d.V y)) (f:={key:=xS d.K key,val:=a.eval xv,born:=clk}) rfl hyr;simpa[MD.ents,h4]using this
         ·unfold Instr.mapUpdate;simp only[underlying,hu,Sem.run_bind,Sem.run_pure,run_program,yV hb,Result.andThen_ok,dI hko,hr,lH hb]
        ·obtain rfl:=qUl hko h5;have hsb:=qDp hko e.1;refine fin (es.modify j fun f=>{f with key:=xS d.K e.1,val:=a.eval xv}) clk ?_ (by simpa using hclk) (by
          have hmb:∀(l:List MapEntry)(j:Nat)(kv v:Value),(l.modify j fun f=>{f with key:=kv,val:=v}).map (·.born)=l.map (·.born):=fun l=>by
           induction l with
           | nil=>intro j kv v;simp
           | cons x l ih=>
            intro j kv v;cases j with
            | zero=>simp
            | succ j=>simp[ih]
          rw[Array.toList_modify,hmb,hborn];simp) ?_
         ·have:=hme.put j (e:=(xS d.K e.1,unT d.g d.V y)) hyr;rw[yP]at this;simpa[MD.ents,h9,List.map_set,Array.toList_modify]using this
         ·have hky:((es[j]?).map (·.key)).getD (xS d.K e.1)=xS d.K e.1:=by
           have:es[j]?=some f:=by simpa using h3
           rw[this];simp[h4]
          unfold Instr.mapUpdate;simp only[underlying,hu,Sem.run_bind,Sem.run_pure,run_program,yV hb,Result.andThen_ok,dI hko,hr,hky,Instr.keyThatStays,hsb,if_true,lH hb,Nat.zero_add]
      ·cases hup
   ·cases h
  ·cases h
 ·cases h
end
section
variable {P:Program}{E:Nat→Prop}{w0:World}{X:Hid}{F:List Nat}{H:List TO}{B B':Bm}{w w':World}{Y Y':Hid}{Mo:List (Nat×Obj)}{o:Oper}{r r':Rd}{n:Nat}{a:Act}{L:List T}{D:List Deferred}{Q:Exit→Act→World→Prop}{K:Act→World→Prop}
theorem Wd.move(h:Wd P E w0 X F H B w Y Mo){i:Nat}{x:TO}{p:Nat×Nat}(hi:H[i]?=some x)(hl:vB x=true)(hp:B i=some p):Wd P E w0 X F (H.set i .gone++[x]) (sK B H.length p) w Y Mo∧BLe B (sK B H.length p):=by
 have hB:BLe B (sK B H.length p):=BLe.set (h.nn _ (Nat.le_refl _));have hlt:i<H.length:=(List.getElem?_eq_some_iff.1 hi).1;have hget:∀(j:Nat)(y:TO),(H.set i .gone++[x])[j]?=some y→y≠.gone→(H[j]?=some y∧j≠H.length∧j≠i)∨(j=H.length∧y=x):=fun j y hy hne=>by
  rcases Nat.lt_trichotomy j H.length with hlt | rfl | hlt
  ·rw[List.getElem?_append_left (by simpa using hlt)]at hy
   by_cases e:i=j
   ·subst e;rw[List.getElem?_set_self hlt]at hy;cases hy;exact absurd rfl hne
   ·rw[List.getElem?_set_ne e]at hy;exact .inl ⟨hy,Nat.ne_of_lt hlt,fun e'=>e e'.symm⟩
  ·rw[List.getElem?_append_right (by simp)]at hy;simp at hy;exact .inr ⟨rfl,hy.symm⟩
  ·rw[List.getElem?_eq_none (by simp;omega)]at hy;cases hy
 have ng:∀{y:TO},vB y=true→y≠.gone:=fun h e=>by subst e;cases h
 refine⟨⟨h.st,fun j y hy hly=>?_,fun j cs hy=>?_,fun j hj=>?_,fun j1 j2 o1 o2 p1 p2 h1 l1 h2 l2 hp1 hp2 e=>?_,h.bN,h.iv⟩,hB⟩
 ·rcases hget j y hy (ng hly)with⟨hy,_,_⟩ | ⟨rfl,rfl⟩
  ·obtain⟨b,C,ob,g1,g2,g3⟩:=h.ob j y hy hly;exact⟨b,C,ob,hB _ _ g1,g2,g3.mono hB (Le.refl _)⟩
  ·obtain⟨b,C,ob,g1,g2,g3⟩:=h.ob i _ hi hl;rw[hp]at g1;cases g1;exact⟨b,C,ob,qJ _ _ _,g2,g3.mono hB (Le.refl _)⟩
 ·rcases hget j _ hy (by simp)with⟨hy,_,_⟩ | ⟨rfl,e⟩
  ·obtain⟨b,C,g1,g2⟩:=h.fz j cs hy;exact⟨b,C,hB _ _ g1,g2.mono hB (Le.refl _)⟩
  ·subst e;cases hl
 ·simp at hj;rw[jX _ _ (by omega)]
  exact h.nn j (by omega)
 ·rcases hget j1 _ h1 (ng l1)with⟨k1,n1,m1⟩ | ⟨rfl,rfl⟩<;>rcases hget j2 _ h2 (ng l2)with⟨k2,n2,m2⟩ | ⟨rfl,rfl⟩
  ·rw[jX _ _ n1]at hp1;rw[jX _ _ n2]at hp2;exact h.inj _ _ _ _ _ _ k1 l1 k2 l2 hp1 hp2 e
  ·rw[jX _ _ n1]at hp1;rw[qJ]at hp2;cases hp2;exact absurd (h.inj _ _ _ _ _ _ k1 l1 hi hl hp1 hp e) m1
  ·rw[jX _ _ n2]at hp2;rw[qJ]at hp1;cases hp1;exact absurd (h.inj _ _ _ _ _ _ k2 l2 hi hl hp2 hp e.symm) m2
  ·rfl
theorem qAt{N b:Nat}(h:N≤apM b)(h0:0<N):(N+N / 4+192)*b≤281474976710656∧N≤281474976710656:=by
 unfold apM at h;have h1:N*5≤(281474976710656 / b-192)*4:=by
  have:=Nat.div_mul_le_self ((281474976710656 / b-192)*4) 5;omega
 have h2:N+N / 4+192≤281474976710656 / b:=by omega
 have h3:=Nat.mul_le_mul_right b h2;have h4:=Nat.div_mul_le_self 281474976710656 b;have h5:=Nat.div_le_self 281474976710656 b;exact⟨by omega,by omega⟩
theorem zRr{e s N:Nat}(h:aW P e s N=true){g:Bool}(hd:ldT P e=some (g,s)):∃i z,P.info? e=some i∧i.zero=some z∧i.size=s∧z.cells.size=s∧N≤apM i.bytes∧0<s:=by
 unfold aW at h;split at h
 ·rename_i i z hi hz;obtain⟨i',v,h1,h2,rfl⟩:=mO hz;rw[hi]at h1;cases h1;simp only[Bool.and_eq_true,Nat.ble_eq,Nat.blt_eq,qR,List.length_map,Array.length_toList]at h;obtain⟨i1,d1,g1,_,g3,_⟩:=gM hd;rw[hi]at g1;cases g1;exact⟨i,v,hi,h2,g3,zY h.1,h.2.1,h.2.2⟩
 ·cases h
theorem qTe{e:TypeId}{i0:TypeInfo}{z:Value}{s C N:Nat}{us:List T}{olds news:List Value}{na nb:Nat}(hi:P.info? e=some i0)(hs:i0.size=s)(hz:z.cells.size=s)(hR:zN B r us (olds++news))(h1:olds.length=na*s)(h2:news.length=nb*s)(hN:na+nb=N)(hC:N≤C)(hm:C≤maxLen):
  RO P B r C (.gro (.l us) e) (.cells (olds.toArray++news.toArray++Builtin.zeroCells z.cells (C-N)) e (0,0)):=by
 subst hN;refine .gro hi ?_ hm ?_
 ·rw[qDf z s hz olds news na nb C h1 h2 hC,hs]
 ·simp only[Array.toList_append,List.append_assoc];show zN B r us (List.take us.length _);rw[←List.append_assoc,hR.length];have:olds++news=(olds++news):=rfl;rw[List.take_left];exact hR
theorem gG{c:Call}{x y:Operand}{t:TypeId}(ho:o.op= .call c)(hc:c.callee= .builtin .append)(hx:c.args=#[x,y])(ht:c.argTypes=#[t,t]){v:Value}(hr:(Builtin.append_ #[t,t] o.type #[a.eval x,a.eval y]).run P w= .ok v w'):(execOp a.eval o).run P w= .ok (.value v) w':=by
 unfold execOp;simp only[ho,resolve,hc,hx,ht,invoke,builtin,Sem.run_bind,Sem.run_pure,Result.andThen_ok,List.map_toArray,List.map_cons,List.map_nil,hr]
theorem vF(g:Tg)(A:Ty):∀l:List A.den,(qN g A l).length=l.length*A.size
 | []=>by simp[qN]
 | x::l=>by rw[qN,List.length_append,jN,vF g A l,List.length_cons,Nat.succ_mul]
theorem qAw{c:Cs}{b:List T}{vs:List Value}(h:zN B r (c.list++b) vs):zN B r (c.app b).list vs∧(c.app b).list.length=(c.list++b).length:=by
 cases c with
 | l cs=>exact⟨h,rfl⟩
 | d g A x=>
  cases hy:nM g A b with
  | some y=>
   have e:(Cs.d g A x).app b= .d g A (y::x):=by simp only[Cs.app,hy]
   rw[e];have h1:zN B r (qN g A x) (vs.take (qN g A x).length)∧zN B r b (vs.drop (qN g A x).length):=zN.split h;obtain⟨h2,h3⟩:=lV A hy h1.2;refine⟨?_,?_⟩
   ·show zN B r (qN g A x++qF g A y) vs;have:=h1.1.app h2;rwa[List.take_append_drop]at this
   ·show(qN g A x++qF g A y).length=(qN g A x++b).length;rw[List.length_append,List.length_append,jN,h3]
  | none=>
   have e:(Cs.d g A x).app b= .l (qN g A x++b):=by simp only[Cs.app,hy]
   rw[e];exact⟨h,rfl⟩
theorem zCu(g:Tg)(A:Ty)(x:List A.den):∀l:List A.den,qN g A (l.reverse++x)=qN g A x++yA g A l:=by
 intro l;induction l generalizing x with
 | nil=>simp[yA]
 | cons a l ih=>
  rw[List.reverse_cons,List.append_assoc,ih,yA];show qN g A x++qF g A a++yA g A l=_;rw[List.append_assoc]
theorem nP(g:Tg)(A:Ty)(l:List A.den):qN g A l.reverse=yA g A l:=by
 have:=zCu g A [] l;simpa[qN]using this
theorem fZ{g g':Tg}(h:g'.le g=true):∀(A:Ty)(x:A.den){vs:List Value},zN B r (qF g A x) vs→zN B r (qF g' A x) vs
 | .lim,_,_,h=>h
 | .int _,_,_,h=>h
 | .bool,_,_,h=>h
 | .str,_,_,h=>h
 | .list _,_,[v],hR=>by
  refine⟨?_,trivial⟩;have h1:=hR.1;cases h1 with
  | ls h1=>exact .ls (jI.mono (Le.refl _) (fun b k=>k.le h) _ _ _ h1)
 | .list _,_,[],h=>h.elim
 | .list _,_,_::_::_,h=>h.2.elim
 | .prod A C,x,vs,hR=>by
  have hs:=zN.split (ts:=qF g A x.1) (us:=qF g C x.2) hR;have:=(fZ h A _ hs.1).app (fZ h C _ hs.2);rwa[List.take_append_drop]at this
theorem zGe{g g':Tg}(h:g'.le g=true)(A:Ty):∀(l:List A.den){vs:List Value},zN B r (yA g A l) vs→zN B r (yA g' A l) vs
 | [],_,h=>h
 | x::l,vs,hR=>by
  have hs:=zN.split (ts:=qF g A x) (us:=yA g A l) hR;have:=(fZ h A _ hs.1).app (zGe h A l hs.2);rwa[List.take_append_drop]at this
theorem qAu{c:Cs}{y:T}{b:List T}{s:Nat}{vs:List Value}(hb:qI H s y=some b)(h:zN B r (c.list++b) vs):zN B r (c.apY y b).list vs∧(c.apY y b).list.length=(c.list++b).length:=by
 unfold Cs.apY;split
 ·rename_i g A l;simp only[qI]at hb;cases hs:Nat.beq s A.size with
  | false=>simp[hs]at hb
  | true=>
   simp only[hs,cond_true,Option.some.injEq]at hb;subst hb;unfold Cs.apL;split
   ·show zN B r (qN g A l.reverse) vs∧_;rw[nP];refine⟨h,?_⟩;show(qN g A l.reverse).length=_;rw[nP];rfl
   ·exact⟨h,rfl⟩
   ·rename_i g' A' x;split
    ·rename_i l' hl';obtain⟨rfl,he⟩:=lW hl';obtain rfl:=eq_of_heq he;cases hg:g'.le g with
     | false=>exact⟨h,rfl⟩
     | true=>
      rw[cond_true];have hs:=zN.split (ts:=qN g' A x) (us:=yA g A l) h;refine⟨?_,?_⟩
      ·show zN B r (qN g' A (l.reverse++x)) vs;rw[zCu];have:=hs.1.app (zGe hg A l hs.2);rwa[List.take_append_drop]at this
      ·show(qN g' A (l.reverse++x)).length=(qN g' A x++yA g A l).length;rw[zCu,List.length_append,List.length_append,dD,dD]
    ·exact⟨h,rfl⟩
 ·exact qAw h
theorem RO.apY{C s:Nat}{c:Cs}{y:T}{b:List T}{e:TypeId}{ob:Obj}(hb:qI H s y=some b)(h:RO P B r C (.gro (.l (c.list++b)) e) ob):RO P B r C (.gro (c.apY y b) e) ob:=by
 cases h with
 | gro hi hs hC h=>
  obtain⟨h1,h2⟩:=qAu hb h;refine .gro hi hs hC ?_;rw[h2];exact h1
def zZp(P:Program)(E:Nat→Prop)(w0:World)(X:Hid)(F:List Nat)(B:Bm)(w:World)(Y:Hid)(Mo:List (Nat×Obj))(us:Cs)(e:TypeId)(N:Nat)(x:T)(run:Result Value):Prop:=
  ∃C,N≤C∧C≤maxLen∧
    ((∃obj,run= .ok (.slice (some ⟨w.heap.size,0,none⟩) N C) (w.drew.alloc obj)∧RO P B (rd w.drew Y) C (.gro us e) obj)∨
     ∃i o n b cur c2 q,x= .og i o n∧B i=some (b,C)∧Mo[q]?=some (b,.cells cur e (0,0))∧run= .ok (.slice (some ⟨b,0,none⟩) N C) (w.setRow b c2)∧
      St E w0 X (w.setRow b c2) Y (Mo.set q (b,.cells c2 e (0,0))++xH F)∧Le (rd w Y) (rd (w.setRow b c2) Y)∧RO P B (rd (w.setRow b c2) Y) C (.gro us e) (.cells c2 e (0,0)))
def zKt(H:List TO)(e:TypeId)(s nx:Nat)(us:Cs)(x:T):Prop:=
 (∃v,x= .v v)∨(∃cs n,x= .st cs n)∨(∃i o n,x= .os i o n n)∨∃i,x= .og i 0 nx∧H[i]?=some (.gro us e)∧us.list.length=nx*s
theorem zNy(hW:Wd P E w0 X F H B w Y Mo){x y:T}{xv yv:Value}{t ty e:TypeId}{g:Bool}{s nx ny:Nat}{uc:Cs}{vs:List T}(hx:Rep B (rd w Y) x xv)(hy:Rep B (rd w Y) y yv)(ht:P.underlying t=some (.slice e))(hd:ldT P e=some (g,s))
  (c1:qI H s x=some uc.list) (c2:qI H s y=some vs) (c3:jJ x=some nx) (c4:jJ y=some ny) (hny:0<ny) (hok:aW P e s (nx+ny)=true) (hon:vC vs=true) (hb:zKt H e s nx uc x):
  zZp P E w0 X F B w Y Mo (uc.apY y vs) e (nx+ny) x ((Builtin.append_ #[t,t] ty #[xv,yv]).run P w):=by
 obtain⟨adx,cx,olds,rfl,lx,rx,sx,ax⟩:=hW.slice hx c3 c1;have cy2:=c2;obtain⟨ady,cy,news,rfl,ly,ry,sy,ay⟩:=hW.slice hy c4 c2;obtain⟨i0,z,q1,q2,q3,q4,q5,q7⟩:=zRr hok hd;have hone:=zFj hon ry;obtain⟨ya,rfl⟩:=sy (Nat.mul_ne_zero (by omega) (by omega))
 have hnews:=ay _ rfl;obtain⟨hbyt,hnn⟩:=qAt q5 (by omega)
 have hmax:nx+ny≤maxLen:=by simp only[maxLen];omega
 have hge:=grownCap_ge w (nx+ny) cx e;have hgm:=grownCap_le_maxLen w (nx+ny) cx e hmax;have G1:=(Upd.drew w).le Y;have fresh:cx<nx+ny→(adx=none→nx=0∧cx=0)→zZp P E w0 X F B w Y Mo (uc.apY y vs) e (nx+ny) x ((Builtin.append_ #[t,t] ty #[.slice adx nx cx,.slice (some ya) ny cy]).run P w):=fun hlt hnil=>by
  refine⟨grownCap w (nx+ny) cx e,hge,hgm,.inl ⟨.cells (olds.toArray++news.toArray++Builtin.zeroCells z.cells (grownCap w (nx+ny) cx e-(nx+ny))) e (0,0),?_,RO.apY cy2 (qTe q1 q3 q4 ((rx.app ry).mono (BLe.refl B) G1) lx ly rfl hge hgm)⟩⟩;cases adx with
  | none=>
   obtain⟨rfl,rfl⟩:=hnil rfl;have ho0:olds=[]:=List.eq_nil_of_length_eq_zero (by rw[lx];simp)
   subst ho0;have hr:=run_append_nil (P:=P) w t ty e i0 z ht q1 q2 ya ny cy news (by rw[q3];exact ly) hnews hny (by omega) (by have:=hbyt;simp only[Nat.zero_add]at this;exact Nat.le_trans (Nat.mul_le_mul_right _ (by omega)) this)
   simp only[Nat.zero_add];simpa using hr
  | some xa=>exact run_append_grow (P:=P) w t ty e i0 z ht q1 q2 xa nx cx olds (by rw[q3];exact lx) (ax _ rfl) ya ny cy news (by rw[q3];exact ly) hnews hlt (by omega) (growslice_fits_wide (by omega) hbyt)
 rcases hb with⟨v,rfl⟩ | ⟨cs,m,rfl⟩ | ⟨i,o',m,rfl⟩ | ⟨i,rfl,hi,hcs⟩
 ·have hv:=hx.vI.1;subst hv;have:adx=none∧nx=0∧cx=0:=by
   unfold jJ at c3;split at c3<;>(try (rename_i e2;cases e2;done))<;>(try cases c3)
   rename_i e2;cases e2;exact⟨rfl,rfl,rfl⟩
  obtain⟨rfl,rfl,rfl⟩:=this;exact fresh (by omega) (fun _=>⟨rfl,rfl⟩)
 ·obtain⟨ad2,hv,hh⟩:=hx.stI;simp only[jJ,Option.some.injEq]at c3;subst c3;cases hv;refine fresh (by omega) (fun e0=>?_)
  rcases hh with⟨rfl,_⟩ | ⟨b,o',e2,_⟩
  ·exact⟨rfl,rfl⟩
  ·rw[e0]at e2;cases e2
 ·obtain⟨b,C,hv,hB⟩:=hx.osI;simp only[jJ,Option.some.injEq]at c3;subst c3;cases hv;exact fresh (by omega) (fun e0=>by cases e0)
 ·obtain⟨b,C,c',hv,hB,hmc,h0⟩:=hx.ogI;cases hv;obtain rfl:=h0 rfl;rcases Nat.lt_or_ge cx (nx+ny)with hroom | hroom
  ·exact fresh hroom (fun e0=>by cases e0)
  ·obtain⟨b',C',ob,g1,g2,g3⟩:=hW.ob i _ hi rfl;rw[hB]at g1;cases g1;cases g3 with
   | @gro _ _ cur i1 r1 r2 r3 hR=>
    rw[q1]at r1;cases r1;have hfit:nx*i0.size+news.length≤cur.size:=by rw[ly,q3,r2,q3,←Nat.add_mul];exact Nat.mul_le_mul_right _ hroom
    have hr:=run_append_room (P:=P) w t ty e i0 ht q1 b nx cx cur (hW.heap g2) ya ny cy news (by rw[q3];exact ly) hnews hone hroom hfit
    obtain⟨q,hq⟩:=List.getElem?_of_mem g2;have hql:q<Mo.length:=(List.getElem?_eq_some_iff.1 hq).1;have hq2:(Mo++xH F)[q]?=some (b,.cells cur e (0,0)):=by rw[List.getElem?_append_left hql];exact hq
    rw[q3]at hfit;have hrow:cur.toList.take (nx*s)=olds:=by
     have h1:=ax _ rfl;have h2:(cur.toList.take (nx*s)).length=nx*s:=by simp;omega
     refine List.ext_getElem? fun j=>?_;by_cases hj:j<nx*s
     ·have e1:olds[j]?=some olds[j]:=by simp[lx,hj]
      have h3:=h1 j _ e1;rw[yC,cell_of_row w b _ cur e _ (hW.heap g2),Nat.zero_add]at h3;rw[e1,List.getElem?_take,if_pos hj];simpa using h3
     ·rw[List.getElem?_eq_none (by omega),List.getElem?_eq_none (by omega)]
    rw[q3,hrow]at hr;generalize J2:(olds++news++cur.toList.drop (nx*s+news.length)).toArray=c2 at hr;have hS:=hW.st.set (w':=w.setRow b c2) q _ hq2 (by simp) rfl rfl rfl (setRow_heap w b cur _ e _ (hW.heap g2)) (fun k _ hk=>setRow_other w b k _ hk)
    rw[List.set_append_left _ _ hql]at hS;have hle:=hW.st.le_set (w':=w.setRow b c2) q hq2 (fun k _ hk=>setRow_other w b k _ hk);have hlen:(uc.list++vs).length=(olds++news).length:=(rx.app ry).length;refine⟨cx,hroom,r3,.inr ⟨i,0,nx,b,cur,c2,q,rfl,hB,hq,hr,hS,hle,?_⟩⟩;refine RO.apY cy2 (.gro q1 ?_ r3 ?_)
    ·rw[←r2,←J2];simp[lx];omega
    ·have e0:c2.toList.take (olds++news).length=olds++news:=by rw[←J2];exact List.take_left
     show zN B _ (uc.list++vs) (List.take (uc.list++vs).length _);rw[hlen,e0];exact(rx.app ry).mono (BLe.refl B) hle
theorem qYo{c:Call}{x y:Operand}{t t2:TypeId}(hW:Wd P E w0 X F H B w Y Mo)(hF:FrT n a L D B (rd w Y))(ho:o.op= .call c)(hc:c.callee= .builtin .copy)(hargs:c.args=#[x,y])(hts:c.argTypes=#[t,t2])
  {tv:T} {H':List TO} (h:qIw P H t (evO L x) (evO L y)=some (tv,H')) (hk:pY P E w0 X F n D H' (dst o.dst tv L) B (rd w Y) K):o.wp P a w K Q:=by
 have hx:=hF.rep x;have hy:=hF.rep y;unfold qIw at h;split at h
 ·rename_i i off nx cx ex;rw[ex]at hx;obtain⟨b,C,hvx,hB⟩:=hx.osI;cases he:elT P t with
  | none=>simp[he]at h
  | some e=>
   have ht:=vV he;cases hd:ldT P e with
   | none=>simp[he,hd]at h
   | some gs=>
    obtain⟨g,s⟩:=gs;simp only[he,hd]at h;split at h
    ·rename_i us ny c1 c2;cases hk1:jT (Nat.min ny nx*s) us with
     | none=>simp[hk1]at h
     | some qs=>
      simp only[hk1]at h;cases hz:vC qs&&Nat.blt 0 (Nat.min ny nx*s)with
      | false=>simp[hz]at h
      | true=>
       simp only[hz,cond_true]at h;simp only[Bool.and_eq_true,Nat.blt_eq]at hz;cases hs:zZd H i off qs with
       | none=>simp[hs]at h
       | some H2=>
        simp only[hs,Option.some.injEq,Prod.mk.injEq]at h;obtain⟨rfl,rfl⟩:=h;obtain⟨ady,cy,vs,ey,ly,ry,sy,ay⟩:=hW.slice hy c2 c1;have G2:Nat.min ny nx*s≤ny*s:=Nat.mul_le_mul_right s (Nat.min_le_left ny nx);obtain⟨ad,rfl⟩:=sy (by omega)
        have hR:zN B (rd w Y) qs (vs.take (Nat.min ny nx*s)):=(ry.take hk1).1;obtain⟨w',Mo',hst,hW',hle⟩:=hW.sto hB hs hR hz.1;have hl:(loadCells ad (Nat.min ny nx*s)).run P w= .ok (vs.take (Nat.min ny nx*s)).toArray w:=by
         have:=run_loadCells_list (P:=P) w ad (vs.take (Nat.min ny nx*s)) (fun j v e=>by
          rw[List.getElem?_take]at e;split at e
          ·exact ay ad rfl j v e
          ·cases e)
         rwa[List.length_take,Nat.min_eq_left (by omega)]at this
        have hsz:(sizeOf e).run P w= .ok s w:=Gv.run_sizeOf hd w;have hex:(execOp a.eval o).run P w= .ok (.value (goInt (Nat.min ny nx))) w':=by
         unfold execOp;simp only[ho,resolve,hc,hargs,hts,invoke,builtin,Sem.run_bind,Sem.run_pure,Result.andThen_ok,List.map_toArray,List.map_cons,List.map_nil,hvx,ey];simp[Builtin.copy_,run_underlying ht,Builtin.lenOf,Builtin.firstCells,hsz,hl,hst]
        unfold Oper.wp;rw[hex];exact hk _ _ _ _ _ hW' ((hF.mono (BLe.refl B) hle).put o.dst (.v rfl)) (BLe.refl B) hle
    ·cases h
 ·cases h
theorem qFb{c:Call}{x y:Operand}{t:TypeId}(hW:Wd P E w0 X F H B w Y Mo)(hF:FrT n a L D B (rd w Y))(ho:o.op= .call c)(hc:c.callee= .builtin .append)(hargs:c.args=#[x,y])(hts:c.argTypes=#[t,t])
  {tv:T} {H':List TO} (h:zRs P H t (evO L x) (evO L y)=some (tv,H')) (hk:pY P E w0 X F n D H' (dst o.dst tv L) B (rd w Y) K):o.wp P a w K Q:=by
 have hx:=hF.rep x;have hy:=hF.rep y;unfold zRs at h;cases he:elT P t with
 | none=>simp[he]at h
 | some e=>
  have ht:=vV he;cases hd:ldT P e with
  | none=>simp[he,hd]at h
  | some gs=>
   obtain⟨g,s⟩:=gs;simp only[he,hd]at h;split at h
   ·rename_i us vs nx ny c1 c2 c3 c4;cases hz:Nat.beq ny 0 with
    | true=>
     obtain⟨adx,cx,olds,ex,lx,rx,sx,ax⟩:=hW.slice hx c3 c1;obtain⟨ady,cy,news,ey,ly,ry,sy,ay⟩:=hW.slice hy c4 c2;obtain rfl:=zY hz;simp only[hz,cond_true]at h;obtain⟨i0,_,g1,_,g3,_⟩:=gM hd;have hcap:tv=evO L x∧H'=H∧nx≤cx:=by
      unfold qIf at h;split at h
      ·rename_i v e1;cases h;rw[e1]at hx;obtain⟨hv,hsc⟩:=hx.vI;rw[ex]at hv;subst hv;rw[e1]at c3;refine⟨rfl,rfl,?_⟩;unfold jJ at c3;split at c3<;>(try (rename_i e2;cases e2;done))<;>(try cases c3)
       exact Nat.zero_le _
      ·rename_i i o' m e1;cases h;rw[e1]at hx c3;obtain⟨b,C,c',hv,_,hle,_⟩:=hx.ogI;simp only[jJ,Option.some.injEq]at c3;subst c3;rw[ex]at hv;cases hv;exact⟨rfl,rfl,hle⟩
      ·rename_i i o' m c' e1;cases hb:Nat.ble m c' with
       | false=>simp[hb]at h
       | true=>
        simp only[hb,cond_true,Option.some.injEq,Prod.mk.injEq]at h;rw[e1]at hx c3;obtain⟨b,C,hv,_⟩:=hx.osI;simp only[jJ,Option.some.injEq]at c3;subst c3;rw[ex]at hv;cases hv;rw[Nat.ble_eq]at hb;exact⟨h.1.symm,h.2.symm,hb⟩
      ·rename_i cs m e1;cases h;rw[e1]at hx c3;obtain⟨ad2,hv,_⟩:=hx.stI;simp only[jJ,Option.some.injEq]at c3;subst c3;rw[ex]at hv;cases hv;exact⟨rfl,rfl,Nat.le_refl _⟩
      ·cases h
     obtain⟨rfl,rfl,hle⟩:=hcap;have hrun:(Builtin.append_ #[t,t] o.type #[a.eval x,a.eval y]).run P w= .ok (a.eval x) w:=by
      rw[ex,ey];have hf:(Builtin.firstCells s 0 (.slice ady 0 cy)).run P w= .ok #[] w:=by
       cases ady with
       | none=>rfl
       | some q=>simp[Builtin.firstCells,loadCells,Sem.run_pure,Sem.run_bind];rfl
      cases adx with
      | none=>simp[Builtin.append_,run_underlying ht,sizeOf,typeInfo,g1,g3,Builtin.lenOf,Sem.run_bind,Sem.run_pure,hf,hle]
      | some q=>simp[Builtin.append_,run_underlying ht,sizeOf,typeInfo,g1,g3,Builtin.lenOf,Sem.run_bind,Sem.run_pure,hf,hle,storeCells]
     unfold Oper.wp;rw[gG ho hc hargs hts hrun];exact hk _ _ _ _ _ hW (hF.put o.dst hx) (BLe.refl B) (Le.refl _)
    | false=>
     have hny:0<ny:=by
      rcases Nat.eq_zero_or_pos ny with h0 | h0
      ·subst h0;simp at hz
      ·exact h0
     simp only[hz,cond_false]at h;cases hok:aW P e s (nx+ny)&&vC vs with
     | false=>simp[hok]at h
     | true=>
      simp only[hok,cond_true]at h;simp only[Bool.and_eq_true]at hok;have fin:∀(uc:Cs)(H0:List TO),uc.list=us→(tv,H')=(.og (ln H) 0 (nx+ny),H0++[.gro (uc.apY (evO L y) vs) e])→zKt H e s nx uc (evO L x)→(∀(w2:World)(Y2:Hid)(B2:Bm)(M2:List (Nat×Obj)),Wd P E w0 X F (H++[.gro (uc.apY (evO L y) vs) e]) B2 w2 Y2 M2→Wd P E w0 X F (H0++[.gro (uc.apY (evO L y) vs) e]) B2 w2 Y2 M2)→
        (∀i o n,evO L x= .og i o n→H0=H.set i .gone∧∃x,H[i]?=some x∧vB x=true)→o.wp P a w K Q:=fun uc H0 hus hres hb hH0 hog=>by
       subst hus;cases hres;obtain⟨C,hC1,hC2,hA⟩:=zNy (ty:=o.type) hW hx hy ht hd c1 c2 c3 c4 hny hok.1 hok.2 hb;unfold Oper.wp;rcases hA with⟨obj,hrun,hRO⟩ | ⟨i,o',n',b,cur,c2',q,ex,hB,hq,hrun,hS,hle,hRO⟩
       ·obtain⟨hW',hBl⟩:=(hW.call (Upd.drew w)).alloc (C:=C) rfl hRO;have hle:=((Upd.drew w).le Y).trans (Le.hide_new (w:=w.drew) (Y:=Y) obj);rw[gG ho hc hargs hts hrun];refine hk _ _ _ _ _ (hH0 _ _ _ _ hW') ((hF.mono hBl hle).put o.dst ?_) hBl hle;rw[qR];exact .og (qJ _ _ _) hC1 (fun _=>rfl) hC2
       ·obtain⟨rfl,x0,hi,hlx⟩:=hog _ _ _ ex;have hlt:i<H.length:=(List.getElem?_eq_some_iff.1 hi).1;have hW2:=hW.set hi hlx hB hq hS hle (fun cs e=>by cases e) (fun _=>hRO)
        obtain⟨hW3,hB3⟩:=hW2.move (i:=i) (x:= .gro (uc.apY (evO L y) vs) e) (by rw[List.getElem?_set_self hlt]) rfl hB
        rw[List.set_set,List.length_set]at hW3;rw[List.length_set]at hB3;rw[gG ho hc hargs hts hrun];refine hk _ _ _ _ _ hW3 ((hF.mono hB3 hle).put o.dst ?_) hB3 hle;rw[qR];exact .og (qJ _ _ _) hC1 (fun _=>rfl) hC2
      have id0:∀(w2:World)(Y2:Hid)(B2:Bm)(M2:List (Nat×Obj)),Wd P E w0 X F (H++[.gro ((Cs.l us).apY (evO L y) vs) e]) B2 w2 Y2 M2→Wd P E w0 X F (H++[.gro ((Cs.l us).apY (evO L y) vs) e]) B2 w2 Y2 M2:=fun _ _ _ _ h=>h;unfold qIh at h;split at h
      ·rename_i v e1;exact fin (.l us) H rfl (Option.some.inj h).symm (.inl ⟨v,e1⟩) id0 (fun i o n e2=>by rw[e1]at e2;cases e2)
      ·rename_i cs m e1;exact fin (.l us) H rfl (Option.some.inj h).symm (.inr (.inl ⟨_,_,e1⟩)) id0 (fun i o n e2=>by rw[e1]at e2;cases e2)
      ·rename_i i o' m c' e1;cases hb:Nat.beq m c' with
       | false=>simp[hb]at h
       | true=>
        obtain rfl:=zY hb;simp only[hb,cond_true]at h;exact fin (.l us) H rfl (Option.some.inj h).symm (.inr (.inr (.inl ⟨_,_,_,e1⟩))) id0 (fun i o n e2=>by rw[e1]at e2;cases e2)
      ·rename_i i o' m e1;unfold qQl at h;split at h
       ·rename_i cs e' hnth;cases hb:Nat.beq o' 0&&(Nat.beq (ln cs.list) (m*s)&&Nat.beq e e')with
        | false=>simp[hb]at h
        | true=>
         simp only[hb,cond_true]at h;simp only[Bool.and_eq_true,qR]at hb;obtain rfl:=zY hb.1;have hcs:=zY hb.2.1;obtain rfl:=zY hb.2.2;rw[jA,List.getD_eq_getElem?_getD]at hnth;have hi:H[i]?=some (.gro cs e):=by
          cases hi:H[i]? with
          | none=>rw[hi]at hnth;cases hnth
          | some q=>rw[hi]at hnth;simp at hnth;rw[hnth]
         rw[e1]at c1 c3;simp only[jJ,Option.some.injEq]at c3;subst c3;have hus:cs.list=us:=by
          unfold qI at c1;simp only[jA,List.getD_eq_getElem?_getD,hi,Option.getD_some,nZ]at c1;obtain⟨t1,t2⟩:=zCd c1;rw[t2,rR,List.drop_zero,←hcs,List.take_length]
         have hlt:i<H.length:=(List.getElem?_eq_some_iff.1 hi).1;refine fin cs (H.set i .gone) hus ?_ (.inr (.inr (.inr ⟨i,e1,hi,hcs⟩))) (fun w2 Y2 B2 M2 h2=>?_) (fun i2 o2 n2 e2=>?_)
         ·rw[←Option.some.inj h,yP]
         ·have:=h2.gone i;rwa[List.set_append_left _ _ hlt]at this
         ·rw[e1]at e2;cases e2;exact⟨rfl,_,hi,rfl⟩
       ·cases h
      ·cases h
   ·cases h
end
def Kn(P:Program)(f:Nat)(az:List T)(H:List TO)(tv:T)(H':List TO):Prop:=
 ∀(E:Nat→Prop)(w0:World)(X:Hid)(F:List Nat)(B:Bm)(w:World)(Y:Hid)(Mo:List (Nat×Obj))(qC:List Value)(R:Ending→World→Prop),
  Wd P E w0 X F H B w Y Mo→zN B (rd w Y) az qC→
  (∀v w' B' Y' Mo',Wd P E w0 X F H' B' w' Y' Mo'→Rep B' (rd w' Y') tv v→BLe B B'→Le (rd w Y) (rd w' Y')→R (.returned v) w')→Calls P f qC.toArray w R
def KnY(P:Program)(l:Nat)(az:List T)(H:List TO)(tv:T)(H':List TO):Prop:=
 ∀(E:Nat→Prop)(w0:World)(X:Hid)(F:List Nat)(B:Bm)(w:World)(Y:Hid)(Mo:List (Nat×Obj))(qC:List Value)(R:Ending→World→Prop)(b C:Nat),
  Wd P E w0 X F H B w Y Mo→zN B (rd w Y) az qC→B l=some (b,C)→
  (∀v w' B' Y' Mo',Wd P E w0 X F H' B' w' Y' Mo'→Rep B' (rd w' Y') tv v→BLe B B'→Le (rd w Y) (rd w' Y')→R (.returned v) w')→YieldAt (FF none) 0 P b qC.toArray w R
def kV(P:Program)(cl:Cl):Prop:=∀f az H tv H',cl f az H=some (tv,H')→Kn P f az H tv H'
def xK(P:Program)(yd:Cl):Prop:=∀l az H tv H',yd l az H=some (tv,H')→KnY P l az H tv H'
section
variable {P:Program}{E:Nat→Prop}{w0:World}{X:Hid}{F:List Nat}{H:List TO}{B B':Bm}{w w':World}{Y Y':Hid}{Mo:List (Nat×Obj)}{o:Oper}{r r':Rd}{n:Nat}{a:Act}{L:List T}{D:List Deferred}{Q:Exit→Act→World→Prop}{K:Act→World→Prop}{cl yd:Cl}{rr:Option Nat}{ops:Array Oper}{rest:List Oper}
theorem rU{f:Nat}(h:jO P f=true)(vs:Array Value)(w:World):(callFunc f vs).run P w= .ok (.enter f vs) w:=by
 unfold jO at h;cases hf:P.funcs[f]? with
 | none=>simp[hf]at h
 | some fn=>
  simp only[hf]at h;cases hn:fn.name== "runtime.NumGoroutine" with
  | true=>simp[hn]at h
  | false=>
   simp only[hn,cond_false]at h;have hb:fn.body.isNone=false:=by cases hb:fn.body<;>simp_all
   unfold callFunc;simp only[Sem.run_bind,run_program,Result.andThen_ok,Sem.run_pure,hf,hn,hb];rfl
theorem zXa (hF : FrT n a L D B r) {q : Bool} (h : kT ops L o = some q) : Region.wanted o (yielded ops a.tmps) = q := by
  unfold kT at h
  unfold Region.wanted
  cases hg : o.guard with
  | none => simp only [hg, Option.some.injEq] at h; simpa using h
  | some jb =>
    obtain ⟨j, b⟩ := jb
    simp only [hg] at h
    cases hj : ops[j]? with
    | none => simp [hj] at h
    | some p =>
      simp only [hj] at h
      cases hd : p.dst with
      | none => simp [hd] at h
      | some t =>
        simp only [hd] at h
        have hR := hF.reps.getD t
        have hget : ∀ v, a.tmps.toList.getD t undef = v → (∃ u, a.tmps[t]? = some u ∧ u = v) ∨ (a.tmps[t]? = none ∧ undef = v) := fun v hv => by
          rw [List.getD_eq_getElem?_getD] at hv
          cases ht : a.tmps[t]? with
          | none => have : a.tmps.toList[t]? = none := by simpa using ht
                    rw [this] at hv; exact .inr ⟨rfl, hv⟩
          | some u => have : a.tmps.toList[t]? = some u := by simpa using ht
                      rw [this] at hv; exact .inl ⟨u, rfl, hv⟩
        split at h
        · rename_i c e
          rw [e] at hR
          obtain ⟨hv, _⟩ := hR.vI
          rcases hget _ hv with ⟨u, h1, rfl⟩ | ⟨_, h2⟩
          · simp only [yielded, hj, hd, Option.bind_some, h1]
            cases h
            cases c <;> cases b <;> rfl
          · cases h2
        · cases h
        · rename_i e
          rw [e] at hR
          obtain ⟨vs, hv, hl⟩ := hR.tuI
          cases vs with
          | cons x y => exact hl.elim
          | nil =>
            cases h
            rcases hget _ hv with ⟨u, h1, rfl⟩ | ⟨h1, _⟩
            · simp only [yielded, hj, hd, Option.bind_some, h1]
              cases b <;> rfl
            · simp only [yielded, hj, hd, Option.bind_some, h1]
              cases b <;> rfl
        · cases h
theorem zGz(op:Op):kK op=xQ op:=by cases op<;>rfl
theorem zCt{c:Call}{fx:Operand}{f:Nat}{cap:List Value}(ho:o.op= .call c)(hc:c.callee= .value fx)(hf:a.eval fx= .func (.func f) #[] cap.toArray)(he:jO P f=true)(w:World):
  (execOp a.eval o).run P w= .ok (.enter f ((c.args.toList.map a.eval)++cap).toArray) w:=by
 have hm:c.args.map a.eval++cap.toArray=((c.args.toList.map a.eval)++cap).toArray:=by
  apply Array.ext';simp
 unfold execOp;simp only[ho,resolve,hc,hf,Deferred.ofValue,Sem.run_bind,Sem.run_pure,Result.andThen_ok,invoke];simp only[Array.empty_append,hm];exact rU he _ w
theorem zGc{c:Call}{fx:Operand}{f:Nat}{bs:List Value}(ho:o.op= .call c)(hc:c.callee= .value fx)(hf:a.eval fx= .func (.func f) bs.toArray #[])(he:jO P f=true)(w:World):
  (execOp a.eval o).run P w= .ok (.enter f (bs++(c.args.toList.map a.eval)).toArray) w:=by
 have hm:bs.toArray++c.args.map a.eval++#[]=(bs++(c.args.toList.map a.eval)).toArray:=by
  apply Array.ext';simp
 unfold execOp;simp only[ho,resolve,hc,hf,Deferred.ofValue,Sem.run_bind,Sem.run_pure,Result.andThen_ok,invoke];simp only[hm];exact rU he _ w
theorem zSk{c:Call}{fx:Operand}{b:Nat}(ho:o.op= .call c)(hc:c.callee= .value fx)(hf:a.eval fx= .func (.yield b) #[] #[]){fn:FuncId}{tmps:Array Value}{az body:Code}(w:World)(hy:(Instr.yield b (c.args.toList.map a.eval).toArray).run P w= .ok (.round b fn tmps az body) w):
  (execOp a.eval o).run P w= .ok (.round b fn tmps az body) w:=by
 have hm:c.args.map a.eval=(c.args.toList.map a.eval).toArray:=by
  apply Array.ext';simp
 unfold execOp;simp only[ho,resolve,hc,hf,Deferred.ofValue,Sem.run_bind,Sem.run_pure,Result.andThen_ok,invoke];simp only[Array.empty_append,hm];exact hy
theorem zHc(hcl:kV P cl)(hyd:xK P yd){s':S}(h:opE P cl yd ops o ⟨L,H⟩=some s')(hn:kK o.op=true)(hW:Wd P E w0 X F H B w Y Mo)(hF:FrT n a L D B (rd w Y))
  (hk:pY P E w0 X F n D s'.H s'.L B (rd w Y) K):if Region.wanted o (yielded ops a.tmps)then o.wpIn (FF rr) 0 P a w K Q else(∀f,o.about P w a.eval=some f→(FF rr).fn f)∧K (a.put o.dst undef) w:=by
 unfold opE at h;cases hw:kT ops L o with
 | none=>simp[hw]at h
 | some q=>
  rw[zXa hF hw];have hnd:xQ o.op=true:=by rw[←zGz];exact hn
  cases q with
  | false=>
   simp only[hw,Option.some.injEq]at h;subst h;simp only[Bool.false_eq_true,if_false];refine⟨fun f _=>xC rr f,hk _ _ _ _ _ hW (hF.put o.dst ?_) (BLe.refl B) (Le.refl _)⟩;exact Rep.mkTu (vs:=[]) trivial
  | true=>
   simp only[hw]at h;simp only[if_true];unfold gT at h;cases hp:xB P H (ln H) (evO L) o.op with
   | some z=>
    simp only[hp]at h;exact zMp hnd (qLi hW hF hp h hk)
   | none=>
    simp only[hp]at h;unfold zPx at h;cases he:zAg P H (evO L) o.op with
    | some z=>
     simp only[he]at h;obtain⟨z1,z2⟩:=z;refine zMp hnd ?_;generalize hop:o.op=op at he;unfold zAg at he;split at he
     ·rename_i t xa xv;cases hs:qMp P H t (evO L xa) (evO L xv)with
      | none=>simp[hs]at he
      | some H'=>
       simp only[hs,Option.some.injEq,Prod.mk.injEq]at he;obtain⟨rfl,rfl⟩:=he;unfold zOu at h;simp only at h;cases hd:o.dst with
       | some d=>simp[hd]at h
       | none=>
        simp only[hd,Option.some.injEq]at h;subst h;exact qYp hW hF hop hd hs hk
     ·rename_i t xm xk xv;cases hs:qMw P H t (evO L xm) (evO L xk) (evO L xv)with
      | none=>simp[hs]at he
      | some H'=>
       simp only[hs,Option.some.injEq,Prod.mk.injEq]at he;obtain⟨rfl,rfl⟩:=he;unfold zOu at h;simp only at h;cases hd:o.dst with
       | some d=>simp[hd]at h
       | none=>
        simp only[hd,Option.some.injEq]at h;subst h;exact qYq hW hF hop hd hs hk
     ·rename_i c;split at he
      ·rename_i x y t t' e1 e2 e3;cases ht:Nat.beq t t' with
       | false=>simp[ht]at he
       | true=>
        obtain rfl:=zY ht;simp only[ht,cond_true]at he;cases ha:zRs P H t (evO L x) (evO L y)with
        | none=>simp[ha]at he
        | some vh=>
         obtain⟨tv,H'⟩:=vh;simp only[ha,Option.some.injEq,Prod.mk.injEq]at he;obtain⟨rfl,rfl⟩:=he;simp only[zOu,Option.some.injEq]at h;subst h;exact qFb hW hF hop e1 (Array.ext' (by simpa using e2)) (Array.ext' (by simpa using e3)) ha hk
      ·rename_i x y t t' e1 e2 e3;cases ha:qIw P H t (evO L x) (evO L y)with
       | none=>simp[ha]at he
       | some vh=>
        obtain⟨tv,H'⟩:=vh;simp only[ha,Option.some.injEq,Prod.mk.injEq]at he;obtain⟨rfl,rfl⟩:=he;simp only[zOu,Option.some.injEq]at h;subst h;exact qYo hW hF hop e1 (Array.ext' (by simpa using e2)) (Array.ext' (by simpa using e3)) ha hk
      ·cases he
     ·cases he
    | none=>
     simp only[he]at h;cases hc:opC P cl yd o.dst L H o.op with
     | none=>
      simp only[hc]at h;unfold qEz at h;cases hm:zBl P (evO L) o with
      | none=>simp[hm]at h
      | some t=>
       simp only[hm,Option.some.injEq]at h;subst h;obtain⟨v,hr,hR⟩:=qEg (P:=P) (w:=w) (ρ:=a.eval) (k:=0) hF.rep hm;refine zMp hnd ?_;unfold Oper.wp;rw[hr];exact hk _ _ _ _ _ hW (hF.put o.dst hR) (BLe.refl B) (Le.refl _)
     | some s2=>
      simp only[hc,Option.some.injEq]at h;subst h;generalize hop:o.op=op at hc;unfold opC at hc;split at hc
      ·rename_i c;split at hc
       ·rename_i fx e1;have hfx:=hF.rep fx;have hargs:=zN.map hF.rep c.args.toList;unfold zEe at hc;split at hc
        ·rename_i f cs e2;rw[e2]at hfx;obtain⟨caps,hv,hcs⟩:=hfx.fnI;cases hen:jO P f with
         | false=>simp[hen]at hc
         | true=>
          simp only[hen,cond_true]at hc;cases hr:cl f (c.args.toList.map (evO L)++cs) H with
          | none=>simp[hr,zAi]at hc
          | some vh=>
           obtain⟨tv,H'⟩:=vh;simp only[hr,zAi,Option.some.injEq]at hc;subst hc;refine zMp hnd ?_;unfold Oper.wp;rw[zCt hop e1 hv hen w];refine hcl _ _ _ _ _ hr E w0 X F B w Y Mo _ _ hW (hargs.app hcs) fun v w' B' Y' Mo' h1 h2 h3 h4=>?_;exact hk _ _ _ _ _ h1 ((hF.mono h3 h4).put o.dst h2) h3 h4
        ·rename_i f bs e2;rw[e2]at hfx;obtain⟨vs,hv,hcs⟩:=hfx.fbI;cases hen:jO P f with
         | false=>simp[hen]at hc
         | true=>
          simp only[hen,cond_true]at hc;cases hr:cl f (bs++c.args.toList.map (evO L)) H with
          | none=>simp[hr,zAi]at hc
          | some vh=>
           obtain⟨tv,H'⟩:=vh;simp only[hr,zAi,Option.some.injEq]at hc;subst hc;refine zMp hnd ?_;unfold Oper.wp;rw[zGc hop e1 hv hen w];refine hcl _ _ _ _ _ hr E w0 X F B w Y Mo _ _ hW (hcs.app hargs) fun v w' B' Y' Mo' h1 h2 h3 h4=>?_;exact hk _ _ _ _ _ h1 ((hF.mono h3 h4).put o.dst h2) h3 h4
        ·rename_i l e2;rw[e2]at hfx;obtain⟨b,C,hv,hB⟩:=hfx.ylI;cases hr:yd l (c.args.toList.map (evO L)) H with
         | none=>simp[hr,zAi]at hc
         | some vh=>
          obtain⟨tv,H'⟩:=vh;simp only[hr,zAi,Option.some.injEq]at hc;subst hc;obtain⟨fn,tmps,az,body,hrun,hround⟩:=hyd _ _ _ _ _ hr E w0 X F B w Y Mo _ (fun e w1=>∃v,e= .returned v∧K (a.put o.dst v) w1) b C hW hargs hB
           (fun v w' B' Y' Mo' h1 h2 h3 h4=>⟨v,rfl,hk _ _ _ _ _ h1 ((hF.mono h3 h4).put o.dst h2) h3 h4⟩)
          refine⟨fun f _=>xC rr f,?_⟩;show o.uponIn (FF rr) 0 P a _ Q ((o.semAt rr a.eval).run P w);rw[fD rr a.eval o hnd,zSk hop e1 hv w hrun];refine⟨sQ rr 0,hround.mono fun e w1 he=>?_⟩;obtain⟨v,rfl,hh⟩:=he;exact hh
        ·cases hc
       ·cases hc
      ·cases hc
theorem zMo(hcl:kV P cl)(hyd:xK P yd){s':S}(h:opE P cl yd ops o ⟨L,H⟩=some s')(hn:kK o.op=true)(hW:Wd P E w0 X F H B w Y Mo)(hF:FrT n a L D B (rd w Y))
  (hk:pY P E w0 X F n D s'.H s'.L B (rd w Y) (wpListIn (FF rr) 0 P ops Q rest)):wpListIn (FF rr) 0 P ops Q (o::rest) a w:=zHc hcl hyd h hn hW hF hk
end
def KnP(P:Program)(k f:Nat)(az:List T)(tv:T)(nw:Bool):Prop:=
 ∀(B:Bm)(w:World)(X:Hid)(qC:List Value)(R:Ending→World→Prop),Iv P w→(∀i,k≤i→B i=none)→(∀b o,X b o→b<w.heap.size)→zN B (rd w X) az qC→
  (∀v w',Upd E0 w w'→Rep B (rd w' (bif nw then old w else X)) tv v→R (.returned v) w')→Calls P f qC.toArray w R
theorem KnP.unN{P:Program}{k f j:Nat}{az:List T}{tv:T}{nw:Bool}(h:KnP P k f (az.map (Ev.unN j)) tv nw):KnP P k f az tv nw:=fun B w X qC R hI hk hX hR hK=>h B w X qC R hI hk hX (hR.unN (fun _ _ h=>h) j) hK
def zL(P:Program)(O:Po):Prop:=∀f az tv nw,O f az=some (tv,nw)→∀k,KnP P k f az tv nw
section
variable {P:Program}{E:Nat→Prop}{w0:World}{X:Hid}{F:List Nat}{H:List TO}{B B':Bm}{w w':World}{Y Y':Hid}{Mo:List (Nat×Obj)}{o:Oper}{r r':Rd}{n:Nat}{a:Act}{L:List T}{D:List Deferred}{Q:Exit→Act→World→Prop}{K:Act→World→Prop}{O:Po}{rn:Rn}
theorem vT{B2:Bm}:∀(k:Nat){t:T}{v:Value},clean k t=true→Rep B r t v→Rep B2 r t v
 | 0,_,_,h,_=>by simp[clean]at h
 | k+1,t,v,h,hR=>by
  have all:∀{cs:List T},cs.all (clean k)=true→∀(j:Nat)(t:T),cs[j]?=some t→clean k t=true:=fun h j t e=>List.all_eq_true.1 h t (List.mem_of_getElem? e);cases hR with
  | u=>simp[clean]at h
  | v hs=>exact .v hs
  | sl hn f h1 g hm=>simp only[clean]at h;exact .sl hn f h1 (fun j t e=>vT k (all h j t e) (g j t e)) hm
  | sl0 hm=>exact .sl0 hm
  | st f h1 g=>simp only[clean]at h;exact .st f h1 fun j t e=>vT k (all h j t e) (g j t e)
  | st0=>exact .st0
  | fp f h1 g=>simp only[clean]at h;exact .fp f h1 fun j t e=>vT k (all h j t e) (g j t e)
  | ag f hl h1 g=>simp only[clean]at h;exact .ag f hl h1 fun j t e=>vT k (all h j t e) (g j t e)
  | tu f hl h1 g=>simp only[clean]at h;exact .tu f hl h1 fun j t e=>vT k (all h j t e) (g j t e)
  | fn f hl h1 g=>simp only[clean]at h;exact .fn f hl h1 fun j t e=>vT k (all h j t e) (g j t e)
  | @ls g _ _ _ h1=>
   simp only[clean]at h;cases g with
   | n=>cases h
   | o=>cases h
   | a=>exact .ls (jI.mono (Le.refl _) (fun b _=>Bm.In.any) _ _ _ h1)
  | _=>simp[clean]at h
theorem dO{B2:Bm}{f:T→Option T}{r1 r2:Rd}(hf:∀t t' v,f t=some t'→Rep B r1 t v→Rep B2 r2 t' v):∀{ts ts':List T}{vs:List Value},mapO f ts=some ts'→zN B r1 ts vs→zN B2 r2 ts' vs
 | [],ts',[],h,_=>by simp only[mapO,Option.some.injEq]at h;subst h;trivial
 | t::ts,ts',v::vs,h,hR=>by
  simp only[mapO]at h;cases h1:f t with
  | none=>simp[h1]at h
  | some x=>
   cases h2:mapO f ts with
   | none=>simp[h1,h2]at h
   | some y=>
    simp only[h1,h2,Option.some.injEq]at h;subst h;exact⟨hf _ _ _ h1 hR.1,dO hf h2 hR.2⟩
 | [],_,_::_,_,h=>h.elim
 | _::_,_,[],_,h=>h.elim
theorem zPp{f:T→Option T}:∀{ts ts':List T},mapO f ts=some ts'→∀{j:Nat}{t':T},ts'[j]?=some t'→∃t,ts[j]?=some t∧f t=some t'
 | [],ts',h,j,t',e=>by simp only[mapO,Option.some.injEq]at h;subst h;simp at e
 | t::ts,ts',h,j,t',e=>by
  simp only[mapO]at h;cases h1:f t with
  | none=>simp[h1]at h
  | some x=>
   cases h2:mapO f ts with
   | none=>simp[h1,h2]at h
   | some y=>
    simp only[h1,h2,Option.some.injEq]at h;subst h;cases j with
    | zero=>simp at e;subst e;exact⟨t,rfl,h1⟩
    | succ j=>simpa using zPp h2 (by simpa using e)
theorem Wd.ownRow(hW:Wd P E w0 X F H B w Y Mo){i b C:Nat}{cs:List T}(hB:B i=some (b,C))(h:rH (nth .gone H i)=some cs):∃(c:Array Value)(e:TypeId),(b,Obj.cells c e (0,0))∈Mo∧zN B (rd w Y) cs (c.toList.take cs.length):=by
 rw[jA,List.getD_eq_getElem?_getD]at h;cases hi:H[i]? with
 | none=>rw[hi]at h;simp[rH]at h
 | some x=>
  rw[hi]at h;cases x with
  | row cs' e=>
   simp only[Option.getD_some,rH,Option.some.injEq]at h;subst h;obtain⟨b',C',ob,g1,g2,g3⟩:=hW.ob i _ hi rfl;rw[hB]at g1;cases g1;cases g3 with
   | @row _ _ c hR=>exact⟨c,e,g2,by rw[hR.length,List.take_length];exact hR⟩
  | gro cs' e=>
   simp only[Option.getD_some,rH,Option.some.injEq]at h;subst h;obtain⟨b',C',ob,g1,g2,g3⟩:=hW.ob i _ hi rfl;rw[hB]at g1;cases g1;cases g3 with
   | @gro _ _ c i0 _ _ _ hR=>exact⟨c,e,g2,hR⟩
  | _=>simp[rH]at h
def Ow(B:Bm)(r:Rd)(w:World)(Z:Nat→Prop)(H:List TO):Prop:=∀(i b C:Nat)(cs:List T),B i=some (b,C)→rH (nth .gone H i)=some cs→∃(c:Array Value)(e:TypeId),w.heap[b]?=some (.cells c e (0,0))∧Z b∧zN B r cs (c.toList.take cs.length)
theorem Wd.ow(hW:Wd P E w0 X F H B w Y Mo):Ow B (rd w Y) w (fun b=>∃ob,(b,ob)∈Mo) H:=fun i b C cs hB h=>by
 obtain⟨c,e,g1,g2⟩:=hW.ownRow hB h;exact⟨c,e,hW.heap g1,⟨_,g1⟩,g2⟩
theorem jI.of_reps{B2:Bm}{g:Tg}{p:Nat→Prop}(hls:∀(A:Ty)(l:List A.den)(v:Value),Rep B r (.ls g A l) v→jI r' p (.list A) l [v]):∀(A:Ty),lQ A=true→∀(y:A.den)(us:List Value),zN B r (qF g A y) us→jI r' p A y us
 | .lim,h,_,_,_=>by cases h
 | .int _,_,_,[v],h=>by obtain⟨rfl,_⟩:=h.1.vI;rfl
 | .bool,_,_,[v],h=>by obtain⟨rfl,_⟩:=h.1.vI;rfl
 | .str,_,_,[v],h=>by obtain⟨rfl,_⟩:=h.1.vI;rfl
 | .list A,_,l,[v],h=>hls A l v h.1
 | .prod A C,h,y,us,hR=>by
  simp only[lQ,Bool.and_eq_true]at h;have hs:=zN.split (ts:=qF g A y.1) (us:=qF g C y.2) hR;exact⟨_,_,(List.take_append_drop (qF g A y.1).length us).symm,jI.of_reps (B2:=B2) hls A h.1 _ _ hs.1,jI.of_reps (B2:=B2) hls C h.2 _ _ hs.2⟩
 | .int _,_,_,[],h=>h.elim
 | .bool,_,_,[],h=>h.elim
 | .str,_,_,[],h=>h.elim
 | .list _,_,_,[],h=>h.elim
 | .int _,_,_,_::_::_,h=>h.2.elim
 | .bool,_,_,_::_::_,h=>h.2.elim
 | .str,_,_,_::_::_,h=>h.2.elim
 | .list _,_,_,_::_::_,h=>h.2.elim
theorem zCv(g:Tg)(A:Ty):∀(l:List A.den)(i:Nat)(y:A.den),l.reverse[i]?=some y→∀(q:Nat)(t:T),(qF g A y)[q]?=some t→(qN g A l)[i*A.size+q]?=some t
 | [],i,y,h,q,t,ht=>by simp at h
 | x::l,i,y,h,q,t,ht=>by
  have hq:q<A.size:=by rw[←jN g A y];exact(List.getElem?_eq_some_iff.1 ht).1
  rw[List.reverse_cons,List.getElem?_append]at h;split at h
  ·rename_i hi;rw[List.length_reverse]at hi;have:=zCv g A l i y h q t ht;rw[qN,List.getElem?_append_left]
   ·exact this
   ·exact(List.getElem?_eq_some_iff.1 this).1
  ·rename_i hi;rw[List.length_reverse]at hi h;have h0:i-l.length=0:=by
    have:=(List.getElem?_eq_some_iff.1 h).1;simpa using this
   rw[h0]at h;simp at h;subst h;have:i=l.length:=by omega
   subst this;rw[qN,List.getElem?_append_right (by rw[vF];exact Nat.le_add_right _ _),vF,Nat.add_sub_cancel_left]
   exact ht
theorem qJj{B2:Bm}{Z:Nat→Prop}{nw:Bool}{off m i b C c:Nat}{t:T}(h:zSl nw off m (nth .gone H i)=some t)(hB:B i=some (b,C))(hO:Ow B r w Z H)(ho:∀(b:Nat)(c:Array Value)(e:TypeId),w.heap[b]?=some (.cells c e (0,0))→Z b→∀(j:Nat)(v:Value),c[j]?=some v→r' ⟨b,j,none⟩=some v)
  (hls:∀{g:Tg},(!nw||g.isN)=true→∀(A:Ty)(l:List A.den)(v:Value),Rep B r (.ls g A l) v→jI r' (B2.In .a) (.list A) l [v]) (hc:m≤c) (hm:c≤maxLen):Rep B2 r' t (.slice (some ⟨b,off,none⟩) m c):=by
 unfold zSl at h;split at h
 ·rename_i g A x e hn;cases hz:(Nat.beq off 0&&(lQ A&&(!nw||g.isN)))&&Nat.beq m x.length with
  | false=>simp[hz]at h
  | true=>
   simp only[hz,cond_true,Option.some.injEq]at h;subst h;simp only[Bool.and_eq_true]at hz;obtain⟨⟨h0,h1,h2⟩,h3⟩:=hz;obtain rfl:=Nat.eq_of_beq_eq_true h0;obtain rfl:=Nat.eq_of_beq_eq_true h3;obtain⟨cc,e',g1,gz,g3⟩:=hO i b C (qN g A x) hB (by rw[hn];rfl)
   refine .ls ⟨some ⟨b,0,none⟩,c,by simp,by simpa using hc,hm,.inr ⟨b,0,rfl,Bm.In.any,fun j y hy=>?_⟩⟩
   have hj:j<x.length:=by
    have:=(List.getElem?_eq_some_iff.1 hy).1;simpa using this
   have hlen:x.length*A.size≤cc.toList.length:=by
    have:=g3.length;rw[vF,List.length_take]at this;omega
   have hj1:(j+1)*A.size≤x.length*A.size:=Nat.mul_le_mul_right _ hj;rw[Nat.add_mul,Nat.one_mul]at hj1;have hul:((cc.toList.drop (j*A.size)).take A.size).length=A.size:=by
    rw[List.length_take,List.length_drop];omega
   have hget:∀(q:Nat)(v:Value),((cc.toList.drop (j*A.size)).take A.size)[q]?=some v→q<A.size∧cc.toList[j*A.size+q]?=some v:=fun q v hq=>by
    rw[List.getElem?_take]at hq;split at hq
    ·rename_i hlt;rw[List.getElem?_drop]at hq;exact⟨hlt,hq⟩
    ·cases hq
   refine⟨(cc.toList.drop (j*A.size)).take A.size,hul,?_,fun q v hq=>?_⟩
   ·refine jI.of_reps (B2:=B2) (hls h2) A h1 y _ (zN.of (by rw[jN,hul]) fun q t v ht hv=>?_)
    have h4:=zCv g A x j y hy q t ht;obtain⟨hlt,h5⟩:=hget q v hv;obtain⟨v',h6,h7⟩:=g3.get h4;rw[List.getElem?_take]at h6;split at h6
    ·rw[h5]at h6;cases h6;exact h7
    ·cases h6
   ·obtain⟨_,h5⟩:=hget q v hq;rw[Nat.zero_add];exact ho b cc e' g1 gz _ v (by simpa using h5)
 ·cases h
theorem zLs{B2:Bm}{Z:Nat→Prop}(hO:Ow B r w Z H){nw:Bool}(ho:∀(b:Nat)(c:Array Value)(e:TypeId),w.heap[b]?=some (.cells c e (0,0))→Z b→∀(j:Nat)(v:Value),c[j]?=some v→r' ⟨b,j,none⟩=some v)(hl:nw=false→Le r r')(hN:∀b j v,B.N≤b→r ⟨b,j,none⟩=some v→r' ⟨b,j,none⟩=some v):
  ∀(k:Nat)(t t':T)(v:Value),yD nw H k t=some t'→Rep B r t v→Rep B2 r' t' v
 | 0,t,t',v,h,_=>by simp[yD]at h
 | k+1,t,t',v,h,hR=>by
  have ih:=zLs (B2:=B2) hO ho hl hN k;have far:∀{t:T},nw=false→clean 9 t=true→Rep B r t v→Rep B2 r' t v:=fun hn hc h=>vT 9 hc (h.mono (BLe.refl B) (hl hn));have own:∀{i b C off:Nat}{cs l:List T},B i=some (b,C)→rH (nth .gone H i)=some cs→mapO (yD nw H k) (jK cs off)=some l→Cls B2 r' b off l:=fun{i b C off cs l}hB h1 h2=>by
   obtain⟨c,e,g1,gz,g2⟩:=hO _ _ _ _ hB h1;have g3:=dO ih h2 (g2.drop off);intro j t hj;obtain⟨v,e1,e2⟩:=g3.get hj;refine⟨v,ho b c e g1 gz _ _ ?_,e2⟩;rw[List.getElem?_drop,List.getElem?_take]at e1;split at e1
   ·simpa using e1
   ·cases e1
  cases t with
  | u=>simp[yD]at h
  | om i=>simp[yD]at h
  | fb f cs=>simp[yD]at h
  | yl i=>simp[yD]at h
  | hv A l=>simp[yD]at h
  | v x=>simp only[yD,Option.some.injEq]at h;subst h;obtain⟨rfl,hs⟩:=hR.vI;exact .v hs
  | ls g A l=>
   simp only[yD]at h;cases nw with
   | false=>
    simp only[cond_false,Option.some.injEq]at h;subst h;cases hR with
    | ls hR=>exact .ls (jI.mono (hl rfl) (fun b _=>Bm.In.any) _ _ _ hR)
   | true=>
    cases g with
    | a=>simp[Tg.isN]at h
    | o=>simp[Tg.isN]at h
    | n=>
     simp only[Tg.isN,cond_true,Option.some.injEq]at h;subst h;cases hR with
     | ls hR=>exact .ls (jI.far (fun _=>Bm.In.any) hN _ _ _ (jI.mono (Le.refl _) (fun b h=>h.1 rfl) _ _ _ hR))
  | sl cs m=>
   simp only[yD]at h;cases nw with
   | true=>
    simp only[cond_true]at h;split at h
    ·cases h;obtain⟨ad,c,rfl,_,_⟩:=hR.slI;exact .sl0 hR.slB
    ·cases h
   | false=>
    simp only[cond_false]at h;cases hc:clean 9 (.sl cs m)with
    | false=>simp[hc]at h
    | true=>simp only[hc,cond_true,Option.some.injEq]at h;subst h;exact far rfl hc hR
  | sn cs m=>
   simp only[yD]at h;cases hm:mapO (yD nw H k) cs with
   | none=>simp[hm]at h
   | some l=>
    simp only[hm,Option.some.injEq]at h;subst h;cases hR with
    | @sn _ _ b off c hn f h1 g hmx hb=>
     have hc:Cls B2 r' b off l:=fun j t' e=>by
      obtain⟨t,e1,e2⟩:=zPp hm e;exact⟨f j,hN _ _ _ (hb j t e1) (h1 j t e1),ih _ _ _ e2 (g j t e1)⟩
     exact hc.sl hn hmx
    | sn0 hmx=>
     simp only[mapO,Option.some.injEq]at hm;subst hm;exact .sl0 hmx
  | st cs m=>
   simp only[yD]at h;cases nw with
   | true=>
    simp only[cond_true]at h;split at h
    ·cases h;obtain⟨ad,rfl,_⟩:=hR.stI;exact .st0
    ·cases h
   | false=>
    simp only[cond_false]at h;cases hc:clean 9 (.st cs m)with
    | false=>simp[hc]at h
    | true=>simp only[hc,cond_true,Option.some.injEq]at h;subst h;exact far rfl hc hR
  | fp cs=>
   simp only[yD]at h;cases nw with
   | true=>simp at h
   | false=>
    simp only[cond_false]at h;cases hc:clean 9 (.fp cs)with
    | false=>simp[hc]at h
    | true=>simp only[hc,cond_true,Option.some.injEq]at h;subst h;exact far rfl hc hR
  | ag cs=>
   simp only[yD]at h;cases hm:mapO (yD nw H k) cs with
   | none=>simp[hm]at h
   | some l=>
    simp only[hm,Option.some.injEq]at h;subst h;obtain⟨vs,rfl,g⟩:=hR.agI;exact Rep.mkAg (dO ih hm g)
  | tu cs=>
   simp only[yD]at h;cases hm:mapO (yD nw H k) cs with
   | none=>simp[hm]at h
   | some l=>
    simp only[hm,Option.some.injEq]at h;subst h;obtain⟨vs,rfl,g⟩:=hR.tuI;exact Rep.mkTu (dO ih hm g)
  | fn f cs=>
   simp only[yD]at h;cases hm:mapO (yD nw H k) cs with
   | none=>simp[hm]at h
   | some l=>
    simp only[hm,Option.some.injEq]at h;subst h;obtain⟨vs,rfl,g⟩:=hR.fnI;exact Rep.mkFn (dO ih hm g)
  | os i off m c=>
   simp only[yD]at h;cases hc:Nat.ble m c&&Nat.ble c 9223372036854775807 with
   | false=>simp[hc]at h
   | true=>
    simp only[hc,cond_true]at h;rw[Bool.and_eq_true,Nat.ble_eq,Nat.ble_eq]at hc;cases h1:rH (nth .gone H i)with
    | none=>simp[h1]at h
    | some cs=>
     cases h2:mapO (yD nw H k) (jK cs off)with
     | none=>simp[h1,h2]at h
     | some l=>
      simp only[h1,h2,Option.some.injEq]at h;subst h;obtain⟨b,C,rfl,hB⟩:=hR.osI;exact(own hB h1 h2).sl hc.1 hc.2
  | og i off m=>
   simp only[yD]at h;cases hz:zSl nw off m (nth .gone H i)with
   | some tz=>
    simp only[hz,Option.some.injEq]at h;subst h;have hR2:=hR;obtain⟨b,C,c,rfl,hBi,hcc,_⟩:=hR2.ogI;have hmx:=hR.ogB;refine qJj hz hBi hO ho (fun{g}hg A' l' v' hv=>?_) hcc hmx;cases hv with
    | ls hv=>
     cases nw with
     | false=>exact jI.mono (hl rfl) (fun b _=>Bm.In.any) _ _ _ hv
     | true=>
      cases g with
      | a=>cases hg
      | o=>cases hg
      | n=>exact jI.far (fun _=>Bm.In.any) hN _ _ _ (jI.mono (Le.refl _) (fun b h=>h.1 rfl) _ _ _ hv)
   | none=>
   simp only[hz]at h;cases h1:rH (nth .gone H i)with
   | none=>simp[h1]at h
   | some cs=>
    cases h2:mapO (yD nw H k) (jK cs off)with
    | none=>simp[h1,h2]at h
    | some l=>
     simp only[h1,h2,Option.some.injEq]at h;subst h;have hmx:=hR;obtain⟨b,C,c,rfl,hB,hc,_⟩:=hR.ogI;exact(own hB h1 h2).sl hc hmx.ogB
  | op i off=>
   simp only[yD]at h;cases h1:rH (nth .gone H i)with
   | none=>simp[h1]at h
   | some cs=>
    cases h2:mapO (yD nw H k) (jK cs off)with
    | none=>simp[h1,h2]at h
    | some l=>
     simp only[h1,h2,Option.some.injEq]at h;subst h;obtain⟨b,C,rfl,hB⟩:=hR.opI;exact(own hB h1 h2).fp
def qEm:Hid:=fun _ _=>False
theorem qGh{po:Po}{k:Nat}{Z:Nat→Prop}(hpo:∀f az tv nw,po f az=some (tv,nw)→KnP P k f az tv nw){f:Nat}{az:List T}{tv:T}(h:poC po H f az=some tv){qC:List Value}{R:Ending→World→Prop}
  (hO:Ow B (rd w Y) w Z H) (hI:Iv P w) (hBN:B.N≤w.heap.size) (hlt:∀b o,Y b o→b<w.heap.size) (hk:∀i,k≤i→B i=none) (hA:zN B (rd w Y) az qC) (hR:∀v w',Upd E0 w w'→Rep B (rd w' Y) tv v→R (.returned v) w'):Calls P f qC.toArray w R:=by
 have nwk:∀{t:T}{v:Value}{w':World},Rep B (rd w' (old w)) t v→Rep B (rd w' (old w)) (mkN 12 t) v:=fun h=>h.mkN (fun b j v e=>Nat.le_trans hBN (Nat.not_lt.1 (wE e))) 12;unfold poC at h;cases hw:zYt az with
 | false=>
  simp only[hw,cond_false]at h;cases hp:po f az with
  | none=>simp[hp]at h
  | some z=>
   obtain⟨t,nw⟩:=z;simp only[hp,Option.some.injEq]at h;subst h;refine hpo _ _ _ _ hp B w Y qC R hI hk hlt hA fun v w' hu hv=>hR v w' hu ?_;cases nw with
   | false=>exact hv
   | true=>exact(nwk hv).mono (BLe.refl B) (Le.new hlt)
 | true=>
  simp only[hw,cond_true]at h;cases hm:mapO (yD false H 12) az with
  | none=>simp[hm]at h
  | some az2=>
   simp only[hm]at h;split at h
   ·rename_i t hp;simp only[Option.some.injEq]at h;subst h;have hA':zN B (rd w qEm) az2 qC:=dO (zLs hO (r':=rd w qEm) (fun b c e hb _ j v hj=>by
     refine rD ?_ (fun h=>h) (frozen_of_row w b _ c e hb);rw[cell_of_row w b _ c e _ hb];exact hj) (fun _=>Le.unhide fun _ _ h=>h.elim) (fun b j v _ e=>rD (yQ e) (fun h=>h) (aM e)) 12) hm hA
    refine hpo _ _ _ _ hp B w qEm qC R hI hk (fun _ _ h=>h.elim) hA' fun v w' hu hv=>hR v w' hu ?_;exact(nwk hv).mono (BLe.refl B) (Le.new hlt)
   ·cases h
theorem dF:∀(k i:Nat)(x:TO),(lN k)[i]?=some x→x= .gone
 | 0,_,_,h=>by simp[lN]at h
 | k+1,0,x,h=>by simp[lN]at h;exact h.symm
 | k+1,i+1,x,h=>dF k i x (by simpa[lN]using h)
theorem zJk:∀k,(lN k).length=k
 | 0=>rfl
 | k+1=>by simp[lN,zJk k]
theorem zCx(hen:kV P (gB P rn)){k f:Nat}{az:List T}{t tv:T}{H1:List TO}{nw:Bool}(he:gB P rn f (az.map (unN 12)) (lN k)=some (t,H1))(hf:yD nw H1 12 t=some tv):KnP P k f az tv nw:=by
 intro B w X qC R hI hk hX hA hR;have hA2:zN ⟨B.f,w.heap.size⟩ (rd w X) (az.map (unN 12)) qC:=zN.unN (B:=B) (B2:=⟨B.f,w.heap.size⟩) (fun _ _ h=>h) 12 hA;have hW:Wd P E0 w X [] (lN k) ⟨B.f,w.heap.size⟩ w X []:=by
  refine⟨St.start hX,fun i o hi hl=>?_,fun i cs hi=>?_,fun i hi=>hk i (by rwa[zJk]at hi),fun i j oi oj p q hi hl=>?_,rfl,fun w' hu=>hI.upd hu⟩
  ·rw[dF _ _ _ hi]at hl;cases hl
  ·have:=dF _ _ _ hi;cases this
  ·rw[dF _ _ _ hi]at hl;cases hl
 refine hen _ _ _ _ _ he E0 w X [] ⟨B.f,w.heap.size⟩ w X [] qC R hW hA2 fun v w' B' Y' Mo' g1 g2 g3 g4=>?_;have see:∀(Z:Hid),(∀b o,Z b o→b<w.heap.size)→∀(b:Nat)(c:Array Value)(e:TypeId),w'.heap[b]?=some (.cells c e (0,0))→(∃ob,(b,ob)∈Mo')→∀(j:Nat)(v:Value),c[j]?=some v→rd w' Z ⟨b,j,none⟩=some v:=fun Z hZ b c e hb hm j v hj=>by
  obtain⟨ob,hm⟩:=hm;have hge:w.heap.size≤b:=by
   rcases(g1.st.own _ (List.mem_append_left _ hm)).2.1 with h | h
   ·exact h
   ·exact h.elim
  refine rD ?_ (fun h=>Nat.not_lt.2 hge (hZ _ _ h)) (frozen_of_row w' b _ c e hb);rw[cell_of_row w' b _ c e _ hb];exact hj
 have hu:Upd E0 w w':=g1.st.upd;cases nw with
 | true=>exact hR v w' hu (zLs g1.ow (see _ fun _ _ h=>h) (fun e=>by cases e) (fun b j v hb e=>rD (yQ e) (fun h=>Nat.not_lt.2 (g1.bN▸hb) h) (aM e)) 12 _ _ _ hf g2)
 | false=>exact hR v w' hu (zLs g1.ow (see _ hX) (fun _=>g1.st.le) (fun b j v _ e=>g1.st.le _ _ e) 12 _ _ _ hf g2)
theorem zGf(hen:kV P (gB P rn)){k f:Nat}{az:List T}{tv:T}{nw:Bool}(h:zQ P rn k f az=some (tv,nw)):KnP P k f az tv nw:=by
 unfold zQ at h;split at h
 ·rename_i t H1 he;unfold qCw at h;cases h1:yD true H1 12 t with
  | some t'=>
   simp only[h1,Option.some.injEq,Prod.mk.injEq]at h;obtain⟨rfl,rfl⟩:=h;exact zCx hen he h1
  | none=>
   cases h2:yD false H1 12 t with
   | none=>simp[h1,h2]at h
   | some t'=>
    simp only[h1,h2,Option.some.injEq,Prod.mk.injEq]at h;obtain⟨rfl,rfl⟩:=h;exact zCx hen he h2
 ·cases h
end
def QOk(Q:Exit→Act→World→Prop)(B:Bm)(r:Rd)(a:Act)(w:World):Ex→Prop
 | .n=>Q .normal a w
 | .x id=>Q (.exit id) a w
 | .r=>Q .ret a w
 | .p t=>∀v,Rep B r t v→Q (.panic [{v:=v,recovered:=false}]) a w
def lU(P:Program)(E:Nat→Prop)(w0:World)(X:Hid)(F:List Nat)(n:Nat)(D:List Deferred)(q:Bool)(e:Ex)(s:S)(B:Bm)(r:Rd)(Q:Exit→Act→World→Prop):Prop:=
 ∀a' w' B' Y' Mo'(bs:List Nat),(q=true→bs=[])→Wd P E w0 X (bs++F) s.H B' w' Y' Mo'→FrT n a' s.L (bs.map Gv.mark++D) B' (rd w' Y')→BLe B B'→Le r (rd w' Y')→QOk Q B' (rd w' Y') a' w' e
def KnX(P:Program)(f:Nat)(az:List T)(H:List TO)(tv:T)(H':List TO):Prop:=
 ∀(E:Nat→Prop)(w0:World)(X:Hid)(F:List Nat)(B:Bm)(w:World)(Y:Hid)(Mo:List (Nat×Obj))(qC:List Value)(R:Ending→World→Prop),
  Wd P E w0 X F H B w Y Mo→zN B (rd w Y) az qC→
  (∀v w' B' Y' Mo',Wd P E w0 X F H' B' w' Y' Mo'→Rep B' (rd w' Y') tv v→BLe B B'→Le (rd w Y) (rd w' Y')→R (.panicked [{v:=v,recovered:=false}]) w')→Calls P f qC.toArray w R
def qAh(P:Program)(pc:Cl):Prop:=∀f az H tv H',pc f az H=some (tv,H')→KnX P f az H tv H'
def sS(P:Program)(rn:Rn):Prop:=
 ∀(c:Code)(s:S)(e:Ex)(s':S),rn c s=some (e,s')→∀(E:Nat→Prop)(w0:World)(X:Hid)(F:List Nat)(n:Nat)(a:Act)(D:List Deferred)(B:Bm)(w:World)(Y:Hid)(Mo:List (Nat×Obj))(rr:Option Nat)(Q:Exit→Act→World→Prop),
  (rr=none∨noR c=true)→Wd P E w0 X F s.H B w Y Mo→FrT n a s.L D B (rd w Y)→lU P E w0 X F n D (noR c) e s' B (rd w Y) Q→c.wpIn (FF rr) 0 P Q a w
section
variable {P:Program}{E:Nat→Prop}{w0:World}{X:Hid}{F:List Nat}{H:List TO}{B B':Bm}{w w':World}{Y Y':Hid}{Mo:List (Nat×Obj)}{o:Oper}{r r':Rd}{n:Nat}{a:Act}{L:List T}{D:List Deferred}{Q:Exit→Act→World→Prop}{K:Act→World→Prop}{cl yd pc:Cl}{O:Po}{rr:Option Nat}{ops:Array Oper}{rest:List Oper}{rn:Rn}
theorem zWa(hcl:kV P cl)(hyd:xK P yd):∀(l:List Oper)(s s':S){a:Act}{w:World}{B:Bm}{Y:Hid}{Mo:List (Nat×Obj)}{r0:Rd}{B0:Bm},zQb P cl yd ops l s=some s'→l.all (fun o=>kK o.op)=true→Wd P E w0 X F s.H B w Y Mo→FrT n a s.L D B (rd w Y)→BLe B0 B→Le r0 (rd w Y)→
  pY P E w0 X F n D s'.H s'.L B0 r0 (Q .normal)→wpListIn (FF rr) 0 P ops Q l a w
 | [],s,s',a,w,B,Y,Mo,r0,B0,h,_,hW,hF,hB,hr,hk=>by
  simp only[zQb,Option.some.injEq]at h;subst h;exact hk _ _ _ _ _ hW hF hB hr
 | o::l,⟨L,H⟩,s',a,w,B,Y,Mo,r0,B0,h,hn,hW,hF,hB,hr,hk=>by
  simp only[List.all_cons,Bool.and_eq_true]at hn;simp only[zQb]at h;cases h1:opE P cl yd ops o ⟨L,H⟩with
  | none=>simp[h1]at h
  | some s1=>
   simp only[h1]at h;exact zMo hcl hyd h1 hn.1 hW hF fun a' w' B' Y' Mo' g1 g2 g3 g4=>zWa hcl hyd l s1 s' h hn.2 g1 g2 (hB.trans g3) (hr.trans g4) hk
theorem qCp{x:Operand}{t:TypeId}{k:IntKind}{z:Int}(ho:o.op= .panic x)(hx:a.eval x= .iface t (.int k z))(w:World):(execOp a.eval o).run P w= .halt (.panic (.iface t (.int k z))) w:=by
 unfold execOp;simp only[ho,hx];rfl
theorem qYn(hpc:qAh P pc){e:Ex}{s':S}(h:opP P pc ops o ⟨L,H⟩=some (e,s'))(hn:kK o.op=true)(hW:Wd P E w0 X F H B w Y Mo)(hF:FrT n a L D B (rd w Y))
  (hk:∀a' w' B' Y' Mo',Wd P E w0 X F s'.H B' w' Y' Mo'→FrT n a' s'.L D B' (rd w' Y')→BLe B B'→Le (rd w Y) (rd w' Y')→QOk Q B' (rd w' Y') a' w' e):wpListIn (FF rr) 0 P ops Q (o::rest) a w:=by
 unfold opP at h;have hnd:xQ o.op=true:=by rw[←zGz];exact hn
 cases hw:kT ops L o with
 | none=>simp[hw]at h
 | some q=>
  cases q with
  | false=>simp[hw]at h
  | true=>
   simp only[hw]at h;show if Region.wanted o (yielded ops a.tmps)then _ else _
   rw[zXa hF hw];simp only[if_true];refine zMp hnd ?_;cases hp:qZc L o.op with
   | some t=>
    simp only[hp,Option.some.injEq,Prod.mk.injEq]at h;obtain⟨rfl,rfl⟩:=h;generalize hop:o.op=op at hp;unfold qZc at hp;split at hp
    ·rename_i x;split at hp
     ·rename_i t2 k z e2;cases hp;have hx:=hF.rep x;rw[e2]at hx;unfold Oper.wp;rw[qCp hop hx.vI.1 w];exact hk a w B Y Mo hW hF (BLe.refl B) (Le.refl _) _ (.v rfl)
     ·cases hp
    ·cases hp
   | none=>
    simp only[hp]at h;cases hc:qQx P pc ⟨L,H⟩ o.op with
    | none=>simp[hc,qSz]at h
    | some vh=>
     obtain⟨t,H'⟩:=vh;simp only[hc,qSz,Option.some.injEq,Prod.mk.injEq]at h;obtain⟨rfl,rfl⟩:=h;generalize hop:o.op=op at hc;unfold qQx at hc;split at hc
     ·rename_i c;split at hc
      ·rename_i fx e1;have hfx:=hF.rep fx;have hargs:=zN.map hF.rep c.args.toList;split at hc
       ·rename_i f cs e2;have e2:evO L fx= .fn f cs:=e2;rw[e2]at hfx;obtain⟨caps,hv,hcs⟩:=hfx.fnI;cases hen:jO P f with
        | false=>simp[hen]at hc
        | true=>
         simp only[hen,cond_true]at hc;unfold Oper.wp;rw[zCt hop e1 hv hen w];refine hpc _ _ _ _ _ hc E w0 X F B w Y Mo _ _ hW (hargs.app hcs) fun v w' B' Y' Mo' h1 h2 h3 h4=>?_;exact hk a w' B' Y' Mo' h1 (hF.mono h3 h4) h3 h4 v h2
       ·rename_i f bs e2;have e2:evO L fx= .fb f bs:=e2;rw[e2]at hfx;obtain⟨vs,hv,hcs⟩:=hfx.fbI;cases hen:jO P f with
        | false=>simp[hen]at hc
        | true=>
         simp only[hen,cond_true]at hc;unfold Oper.wp;rw[zGc hop e1 hv hen w];refine hpc _ _ _ _ _ hc E w0 X F B w Y Mo _ _ hW (hcs.app hargs) fun v w' B' Y' Mo' h1 h2 h3 h4=>?_;exact hk a w' B' Y' Mo' h1 (hF.mono h3 h4) h3 h4 v h2
       ·cases hc
      ·cases hc
     ·cases hc
theorem zWc(hcl:kV P cl)(hyd:xK P yd)(hpc:qAh P pc):∀(l:List Oper)(s s':S){e:Ex}{a:Act}{w:World}{B:Bm}{Y:Hid}{Mo:List (Nat×Obj)}{r0:Rd}{B0:Bm},qFk P cl yd pc ops l s=some (e,s')→l.all (fun o=>kK o.op)=true→Wd P E w0 X F s.H B w Y Mo→FrT n a s.L D B (rd w Y)→BLe B0 B→Le r0 (rd w Y)→
  (∀a' w' B' Y' Mo',Wd P E w0 X F s'.H B' w' Y' Mo'→FrT n a' s'.L D B' (rd w' Y')→BLe B0 B'→Le r0 (rd w' Y')→QOk Q B' (rd w' Y') a' w' e)→wpListIn (FF rr) 0 P ops Q l a w
 | [],s,s',e,a,w,B,Y,Mo,r0,B0,h,_,hW,hF,hB,hr,hk=>by
  simp only[qFk,Option.some.injEq,Prod.mk.injEq]at h;obtain⟨rfl,rfl⟩:=h;exact hk _ _ _ _ _ hW hF hB hr
 | o::l,⟨L,H⟩,s',e,a,w,B,Y,Mo,r0,B0,h,hn,hW,hF,hB,hr,hk=>by
  simp only[List.all_cons,Bool.and_eq_true]at hn;simp only[qFk]at h;cases h1:opE P cl yd ops o ⟨L,H⟩with
  | none=>
   simp only[h1]at h;exact qYn hpc h hn.1 hW hF fun a' w' B' Y' Mo' g1 g2 g3 g4=>hk a' w' B' Y' Mo' g1 g2 (hB.trans g3) (hr.trans g4)
  | some s1=>
   simp only[h1]at h;exact zMo hcl hyd h1 hn.1 hW hF fun a' w' B' Y' Mo' g1 g2 g3 g4=>zWc hcl hyd hpc l s1 s' h hn.2 g1 g2 (hB.trans g3) (hr.trans g4) hk
theorem zSj{c:Call}{fx:Operand}{f:Nat}{cap:List Value}(ho:o.op= .defer c)(hc:c.callee= .value fx)(hargs:c.args.toList=[])(hf:a.eval fx= .func (.func f) #[] cap.toArray)(w:World):
  (execOp a.eval o).run P w= .ok (.defer {target:= .fn (.func f) cap.toArray,args:=#[]}) w:=by
 have ha:c.args=#[]:=Array.ext' (by simpa using hargs)
 unfold execOp;simp only[ho,resolve,hc,hf,Deferred.ofValue,ha,Sem.run_bind,Sem.run_pure,Result.andThen_ok];simp
theorem zVz(hcl:kV P cl)(hyd:xK P yd):∀(l:List Oper)(s s':S){g:T}{a:Act}{w:World}{B:Bm}{Y:Hid}{Mo:List (Nat×Obj)}{r0:Rd}{B0:Bm},zYq P cl yd ops l s=some (g,s')→Wd P E w0 X F s.H B w Y Mo→FrT n a s.L D B (rd w Y)→BLe B0 B→Le r0 (rd w Y)→
  (∀a' w' B' Y' Mo' f cs caps,g= .fn f cs→zN B' (rd w' Y') cs caps→jO P f=true→Wd P E w0 X F s'.H B' w' Y' Mo'→FrT n a' s'.L ({target:= .fn (.func f) caps.toArray,args:=#[]}::D) B' (rd w' Y')→BLe B0 B'→Le r0 (rd w' Y')→Q .normal a' w')→wpListIn (FF none) 0 P ops Q l a w
 | [],s,s',g,a,w,B,Y,Mo,r0,B0,h,_,_,_,_,_=>by simp[zYq]at h
 | o::l,⟨L,H⟩,s',g,a,w,B,Y,Mo,r0,B0,h,hW,hF,hB,hr,hk=>by
  simp only[zYq]at h;cases hnd:kK o.op with
  | true=>
   simp only[hnd,cond_true]at h;cases h1:opE P cl yd ops o ⟨L,H⟩with
   | none=>simp[h1]at h
   | some s1=>
    simp only[h1]at h;exact zMo hcl hyd h1 hnd hW hF fun a' w' B' Y' Mo' g1 g2 g3 g4=>zVz hcl hyd l s1 s' h g1 g2 (hB.trans g3) (hr.trans g4) hk
  | false=>
   simp only[hnd,cond_false]at h;split at h
   ·rename_i c hop hgd hd;split at h
    ·rename_i fx e1 e2;split at h
     ·rename_i f cs e3;cases hen:jO P f with
      | false=>simp[hen]at h
      | true=>
       simp only[hen,cond_true,Option.some.injEq,Prod.mk.injEq]at h;obtain⟨rfl,rfl⟩:=h;have hfx:=hF.rep fx;rw[e3]at hfx;obtain⟨caps,hv,hcs⟩:=hfx.fnI;show if Region.wanted o (yielded ops a.tmps)then _ else _
       have hw:Region.wanted o (yielded ops a.tmps)=true:=by simp[Region.wanted,hgd]
       rw[hw];simp only[if_true];refine⟨fun f _=>xC none f,?_⟩;show o.uponIn (FF none) 0 P a _ Q ((o.semAt none a.eval).run P w);rw[Oper.semAt_none,zSj hop e1 e2 hv w];have hFd:FrT n ({a with defers:={target:= .fn (.func f) caps.toArray,args:=#[]}::a.defers}.put o.dst undef) L ({target:= .fn (.func f) caps.toArray,args:=#[]}::D) B (rd w Y):=by
        rw[hd];exact⟨hF.size,hF.reps,by show _::a.defers=_;rw[hF.defers]⟩
       exact hk _ w B Y Mo f cs caps rfl hcs hen hW hFd hB hr
     ·cases h
    ·cases h
   ·cases h
theorem qMg(hW:Wd P E w0 X F H B w Y Mo){x t:T}{v:Value}{e:TypeId}(h:qMf P H x e=some t)(hR:Rep B (rd w Y) x v):∃u,((do loadVar e (←asAddr v)):Sem Value).run P w= .ok u w∧Rep B (rd w Y) t u:=by
 unfold qMf at h;cases hl:ldT P e with
 | none=>simp[hl]at h
 | some gs=>
  obtain⟨g,s⟩:=gs;cases hf:bG H x with
  | none=>simp[hl,hf]at h
  | some cs=>
   cases ht:jT s cs with
   | none=>simp[hl,hf,ht]at h
   | some us=>
    simp only[hl,hf,ht]at h;cases hg:g||Nat.beq s 1 with
    | false=>simp[hg]at h
    | true=>
     simp only[hg,cond_true,Option.some.injEq]at h;subst h;obtain⟨b,off,vs,rfl,h1,h2,h3⟩:=hW.from hR hf ht;obtain⟨h4,h5⟩:=zFe h1 hg h2;refine⟨_,?_,h4⟩;simp only[asAddr,Sem.run_bind,Sem.run_pure,Result.andThen_ok,rE (by rw[h1];exact hl) h5 h3]
theorem zFn(hW:Wd P E w0 X F H B w Y Mo)(hF:zN B (rd w Y) L a.tmps.toList):∀{rs:List ResultVar}{ts:List T},fB P L H rs=some ts→∃vs,(rs.mapM (zEk a.tmps)).run P w= .ok vs w∧zN B (rd w Y) ts vs
 | [],ts,h=>by simp only[fB,Option.some.injEq]at h;subst h;exact⟨[],rfl,trivial⟩
 | .tmp t::rs,ts,h=>by
  simp only[fB]at h;cases h1:fB P L H rs with
  | none=>simp[h1]at h
  | some us=>
   simp only[h1,Option.some.injEq]at h;subst h;obtain⟨vs,g1,g2⟩:=zFn hW hF h1;refine⟨a.tmps.getD t undef::vs,?_,⟨?_,g2⟩⟩
   ·simp only[List.mapM_cons,Sem.run_bind,Sem.run_pure,Result.andThen_ok,g1,zEk]
   ·have:=hF.getD t;simpa using this
 | .cell t e::rs,ts,h=>by
  simp only[fB]at h;cases h0:qMf P H (nth .u L t) e with
  | none=>simp[h0]at h
  | some x=>
   cases h1:fB P L H rs with
   | none=>simp[h0,h1]at h
   | some us=>
    simp only[h0,h1,Option.some.injEq]at h;subst h;obtain⟨vs,g1,g2⟩:=zFn hW hF h1;have hR:Rep B (rd w Y) (nth .u L t) (a.tmps.getD t undef):=by
     have:=hF.getD t;simpa using this
    obtain⟨u,k1,k2⟩:=qMg hW h0 hR;refine⟨u::vs,?_,⟨k2,g2⟩⟩;simp only[List.mapM_cons,Sem.run_bind,Sem.run_pure,Result.andThen_ok,g1,zEk,k1]
theorem zQh{ts:List T}{vs:List Value}(h:zN B r ts vs):Rep B r (zQg ts) (zBs vs):=by
 match ts,vs,h with
 | [],[],h=>exact Rep.mkTu h
 | [t],[v],h=>exact h.1
 | t::t'::ts,v::w::vs,h=>exact Rep.mkTu h
theorem zMz{fn:Func}{vs:List Value}{tmps:Array Value}(h:(fn.results.toList.mapM (zEk tmps)).run P w= .ok vs w):(results fn tmps).run P w= .ok (zBs vs) w:=by
 have hr:fn.results=fn.results.toList.toArray:=by simp
 rw[zHv,hr];simp only[Sem.run_bind,List.mapM_toArray,Sem.run_map,h,Result.andThen_ok];rcases vs with _ | ⟨v,_ | ⟨u,vs⟩⟩<;>simp[zBs]
theorem tJ{fn:Func}{R:Ending→World→Prop}{tmps:Array Value}{u:FrameMode}(hu:u≠.run){ds:List Deferred}:∀(bs:List Nat){w:World}{B:Bm}{Y:Hid}{Mo:List (Nat×Obj)},Wd P E w0 X (bs++F) H B w Y Mo→
  (∀w',Wd P E w0 X F H B w' Y Mo→Le (rd w Y) (rd w' Y)→LeavesInM (FF none) 0 P fn tmps R ds u w')→LeavesInM (FF none) 0 P fn tmps R (bs.map Gv.mark++ds) u w
 | [],w,B,Y,Mo,hW,k=>k w hW (Le.refl _)
 | b::bs,w,B,Y,Mo,hW,k=>by
  have hp:(Mo++xH (b::bs++F)).Perm ((b,Obj.deferred (some []))::(Mo++xH (bs++F))):=List.perm_middle;have hS:=St.perm hp hW.st;obtain⟨h1,h2⟩:=hS.putObj (o':= .deferred none) 0 rfl;refine⟨hu,.inl ⟨b,_,rfl,run_takeDeferred (hS.get 0 rfl),?_⟩⟩;rw[List.set_cons_zero]at h1;exact tJ hu bs (hW.step h1.tail h2) fun w' g1 g2=>k w' g1 (h2.trans g2)
theorem qDv{fn:Func}{R:Ending→World→Prop}{tmps:Array Value}(bs:List Nat){w:World}{B:Bm}{Y:Hid}{Mo:List (Nat×Obj)}(hW:Wd P E w0 X (bs++F) H B w Y Mo)
  (k:∀w',Wd P E w0 X F H B w' Y Mo→Le (rd w Y) (rd w' Y)→∃v,(results fn tmps).run P w'= .ok v w'∧R (.returned v) w'):LeavesInM (FF none) 0 P fn tmps R (bs.map Gv.mark) .returning w:=by
 have:=tJ (P:=P) (fn:=fn) (R:=R) (tmps:=tmps) (u:= .returning) (ds:=[]) (by simp) bs hW fun w' g1 g2=>by
  obtain⟨v,h1,h2⟩:=k w' g1 g2;exact zAt h1 h2
 simpa using this
theorem zIc:∀(m:Nat)(vs:List Value),vs.length=m→zN B r (us m) vs
 | 0,[],_=>trivial
 | m+1,_::vs,h=>⟨.u,zIc m vs (by simpa using h)⟩
 | 0,_::_,h=>by simp at h
 | _+1,[],h=>by simp at h
theorem zCq(hrn:sS P rn):kV P (pG P rn):=by
 intro f az H tv H' h E w0 X F B w Y Mo qC R hW hA hk;unfold pG at h;cases hf:P.funcs[f]? with
 | none=>simp[hf]at h
 | some fn=>
  simp only[hf]at h;cases hb:fn.body with
  | none=>simp[hb]at h
  | some c=>
   simp only[hb]at h;cases hl:Nat.ble (ln az) fn.ntmps with
   | false=>simp[hl]at h
   | true=>
    simp only[hl,cond_true]at h;rw[Nat.ble_eq,qR]at hl;have hlen:=hA.length;refine rJ.1 (callsIn_of_wp_marks (n:=0) hf hb (xC none f) ?_);have hF:FrT fn.ntmps {tmps:=qC.toArray++Array.replicate (fn.ntmps-qC.toArray.size) undef,defers:=[]} (rest fn.ntmps az) [] B (rd w Y):=by
     refine⟨by simp;omega,?_,rfl⟩
     have:(qC.toArray++Array.replicate (fn.ntmps-qC.toArray.size) undef).toList=qC++List.replicate (fn.ntmps-qC.length) undef:=by simp
     rw[this];refine hA.app (zIc _ _ ?_);rw[qR];simp;omega
    have leave:∀(s:S)(ts:List T),fB P s.L s.H fn.results.toList=some ts→tv=zQg ts→H'=s.H→∀a' w' B' Y' Mo'(bs:List Nat),Wd P E w0 X (bs++F) s.H B' w' Y' Mo'→FrT fn.ntmps a' s.L (bs.map Gv.mark++[]) B' (rd w' Y')→BLe B B'→Le (rd w Y) (rd w' Y')→LeavesInM (FF none) 0 P fn a'.tmps R a'.defers .returning w':=
     fun s ts hr e1 e2 a' w' B' Y' Mo' bs g1 g2 g3 g4=>by
      subst e1;subst e2;rw[g2.defers,List.append_nil];refine qDv bs g1 fun w2 k1 k2=>?_;obtain⟨vs,q1,q2⟩:=zFn (a:=a') k1 (g2.reps.mono (BLe.refl B') k2) hr;exact⟨_,zMz q1,hk _ _ _ _ _ k1 (zQh q2) g3 (g4.trans k2)⟩
    cases hc:rn c ⟨rest fn.ntmps az,H⟩with
    | none=>simp[hc,zQr]at h
    | some es=>
     obtain⟨e,s⟩:=es;cases e with
     | x id=>simp[hc,zQr]at h
     | p t=>simp[hc,zQr]at h
     | n=>
      simp only[hc,zQr]at h;cases hr:fB P s.L s.H fn.results.toList with
      | none=>simp[hr]at h
      | some ts=>
       simp only[hr,Option.some.injEq,Prod.mk.injEq]at h;refine hrn _ _ _ _ hc E w0 X F fn.ntmps _ [] B w Y Mo none _ (.inl rfl) hW hF fun a' w' B' Y' Mo' bs _ g1 g2 g3 g4=>?_;exact leave s ts hr h.1.symm h.2.symm a' w' B' Y' Mo' bs g1 g2 g3 g4
     | r=>
      simp only[hc,zQr]at h;cases hr:fB P s.L s.H fn.results.toList with
      | none=>simp[hr]at h
      | some ts=>
       simp only[hr,Option.some.injEq,Prod.mk.injEq]at h;refine hrn _ _ _ _ hc E w0 X F fn.ntmps _ [] B w Y Mo none _ (.inl rfl) hW hF fun a' w' B' Y' Mo' bs _ g1 g2 g3 g4=>?_;exact leave s ts hr h.1.symm h.2.symm a' w' B' Y' Mo' bs g1 g2 g3 g4
end
section
variable {P:Program}{E:Nat→Prop}{w0:World}{X:Hid}{F:List Nat}{H:List TO}{B B':Bm}{w w':World}{Y Y':Hid}{Mo:List (Nat×Obj)}{o:Oper}{r r':Rd}{n:Nat}{a:Act}{L:List T}{D:List Deferred}{cl yd pc:Cl}{O:Po}{rr:Option Nat}{ops:Array Oper}{rest:List Oper}{rn:Rn}
theorem dC:∀{l m:List Nat},zLq l m=true→l=m
 | [],[],_=>rfl
 | a::l,b::m,h=>by
  simp only[zLq,Bool.and_eq_true]at h;rw[zY h.1,dC h.2]
 | [],_::_,h=>by cases h
 | _::_,[],h=>by cases h
theorem neN{a b:Nat}(h:Nat.beq a b=false):a≠b:=fun e=>by
 subst e;simp at h
theorem zAm{md:Region.Mode}{fuel t:Nat}{listed:Array Bool}{acc:List Nat}{l:List Nat}(h:Region.ready md ops listed=l):Region.linearise.go md ops (fuel+1) t listed acc=match l[t % l.length]? with
  | some i=>Region.linearise.go md ops fuel (t / l.length) (listed.setIfInBounds i true) (i::acc)
  | none=>acc.reverse:=by
 subst h;rfl
theorem jCp(hs:ops.size=4)(h:zWj ops=true)(t:Nat):Region.schedule true ops t=[0,1,2,3]∨Region.schedule true ops t=[1,0,2,3]:=by
 simp only[zWj,Bool.and_eq_true]at h;obtain⟨h1,h2,h3,h4,h5,h6⟩:=h;have h1:=dC h1;have h2:=dC h2;have h3:=dC h3;have h4:=dC h4;have h5:=dC h5;simp only[Region.schedule,Bool.true_or,if_true,Region.linearise,hs];have e0:Array.replicate 4 false=#[false,false,false,false]:=rfl;rw[e0,zAm h1];have fin:∀(t:Nat)(acc:List Nat),Region.linearise.go .any ops 2 t #[true,true,false,false] acc=acc.reverse++[2,3]:=fun t acc=>by
  rw[zAm h4];simp only[List.length_cons,List.length_nil,Nat.zero_add,Nat.mod_one,List.getElem?_cons_zero];have e1:(#[true,true,false,false]:Array Bool).setIfInBounds 2 true=#[true,true,true,false]:=rfl;rw[e1,zAm h5];simp only[List.length_cons,List.length_nil,Nat.zero_add,Nat.mod_one,List.getElem?_cons_zero];simp[Region.linearise.go]
 have hm:t % 2=0∨t % 2=1:=by omega
 rcases hm with hm | hm
 ·left;simp only[List.length_cons,List.length_nil,Nat.zero_add,Nat.reduceAdd,hm,List.getElem?_cons_zero];have e1:(#[false,false,false,false]:Array Bool).setIfInBounds 0 true=#[true,false,false,false]:=rfl;rw[e1,zAm h2];simp only[List.length_cons,List.length_nil,Nat.zero_add,Nat.mod_one,List.getElem?_cons_zero];have e2:(#[true,false,false,false]:Array Bool).setIfInBounds 1 true=#[true,true,false,false]:=rfl;rw[e2,fin];rfl
 ·right;simp only[List.length_cons,List.length_nil,Nat.zero_add,Nat.reduceAdd,hm,List.getElem?_cons_succ,List.getElem?_cons_zero];have e1:(#[false,false,false,false]:Array Bool).setIfInBounds 1 true=#[false,true,false,false]:=rfl;rw[e1,zAm h3];simp only[List.length_cons,List.length_nil,Nat.zero_add,Nat.mod_one,List.getElem?_cons_zero];have e2:(#[false,true,false,false]:Array Bool).setIfInBounds 0 true=#[true,true,false,false]:=rfl;rw[e2,fin];rfl
theorem qEl(h:noG o=true){q:Nat→Option Bool}:Region.wanted o q=true:=by
 unfold noG at h;cases hg:o.guard with
 | none=>simp[Region.wanted,hg]
 | some _=>simp[hg]at h
theorem qDk(h:zPd o=true)(ρ:Operand→Value)(w:World):(execOp ρ o).run P w= .ok .recover w:=by
 unfold zPd at h;split at h
 ·rename_i c hc;split at h
  ·rename_i e1 e2;have ha:c.args=#[]:=Array.ext' (by simpa using e2)
   unfold execOp;simp only[hc,resolve,e1,ha,Sem.run_bind,Sem.run_pure,Result.andThen_ok];rfl
  ·cases h
 ·cases h
def zFp(B:Bm)(r:Rd)(x:T)(v:Value)(u u':FrameMode):Prop:=
 (u= .returning∧u'= .returning∧x= .v .nilIface∧v= .nilIface)∨(∃v',Rep B r x v'∧v=v'∧u= .panicking [{v:=v',recovered:=false}]∧u'= .panicking [{v:=v',recovered:=true}])
theorem zFp.rep{x:T}{v:Value}{u u':FrameMode}(h:zFp B r x v u u'):Rep B r x v:=by
 rcases h with⟨_,_,rfl,rfl⟩ | ⟨v',h1,rfl,_,_⟩
 ·exact .v rfl
 ·exact h1
theorem zFp.settles{x:T}{v:Value}{u u':FrameMode}(h:zFp B r x v u u'):settle u'= .returning:=by
 rcases h with⟨_,rfl,_,_⟩ | ⟨v',_,_,_,rfl⟩<;>rfl
theorem zFp.mono{x:T}{v:Value}{u u':FrameMode}(h:zFp B r x v u u')(hB:BLe B B')(hr:Le r r'):zFp B' r' x v u u':=by
 rcases h with h | ⟨v',h1,h2,h3,h4⟩
 ·exact .inl h
 ·exact .inr ⟨v',h1.mono hB hr,h2,h3,h4⟩
theorem zRb{i:Nat}{rest:List Nat}{b:Frame}{k:List Item}{c0:Frame}{cs:List Frame}{x:T}{v:Value}{u u':FrameMode}(hb:b.kind= .deferred)(hro:b.roundOf=none)(ho:ops[i]?=some o)(hi:zPd o=true)(hg:noG o=true)
  (hu:c0.mode=u) (hM:zFp B r x v u u'):step P (lone (b.atR a (.inRegion ops (i::rest)::k)) (c0::cs) w)= .next (lone (b.atR (a.put o.dst v) (.inRegion ops rest::k)) ({c0 with mode:=u'}::cs) w):=by
 have hw:Region.wanted o (yielded ops a.tmps)=true:=qEl hg;have hgr:=stepGR_op (P:=P) (b:=b) (k:=k) (cs:=c0::cs) (w:=w) (rest:=rest) ho hw;rw[hro,Oper.semAt_none]at hgr;have hfin:∀v,(b.atR a (.inRegion ops (i::rest)::k)).finish v=b.atR (a.put o.dst v) (.inRegion ops rest::k):=by
  intro v;rw[Frame.finish_atR,ho];rfl
 have hk:(b.atR a (.inRegion ops (i::rest)::k)).kind= .deferred:=hb;have htr:=tryRecover_deferred hk (c0::cs);have hr:=qDk (P:=P) hi a.eval w;refine step_lone_go ?_;rw[hgr,←hfin];rcases hM with⟨rfl,rfl,_,rfl⟩ | ⟨v',_,rfl,rfl,rfl⟩
 ·have hrec:recoverD (c0::cs)=none:=by simp[recoverD,hu]
  have hc:({c0 with mode:= .returning}:Frame)=c0:=by cases c0;cases hu;rfl
  rw[hc];simp only[Frame.atR,hro]at htr ⊢;simp[stepG.apply,hr,htr,hrec]
 ·have hrec:recoverD (c0::cs)=some (v,{c0 with mode:= .panicking [{v:=v,recovered:=true}]}::cs):=by simp[recoverD,hu]
  simp only[Frame.atR,hro]at htr ⊢;simp[stepG.apply,hr,htr,hrec]
theorem zRc{i:Nat}{rest:List Nat}{b:Frame}{k:List Item}{cs:List Frame}{v:Value}(hro:b.roundOf=none)(ho:ops[i]?=some o)(hg:noG o=true)(hr:(execOp a.eval o).run P w= .ok (.value v) w):
  step P (lone (b.atR a (.inRegion ops (i::rest)::k)) cs w)= .next (lone (b.atR (a.put o.dst v) (.inRegion ops rest::k)) cs w):=by
 have hw:Region.wanted o (yielded ops a.tmps)=true:=qEl hg;have hgr:=stepGR_op (P:=P) (b:=b) (k:=k) (cs:=cs) (w:=w) (rest:=rest) ho hw;rw[hro,Oper.semAt_none]at hgr;have hfin:∀v,(b.atR a (.inRegion ops (i::rest)::k)).finish v=b.atR (a.put o.dst v) (.inRegion ops rest::k):=by
  intro v;rw[Frame.finish_atR,ho];rfl
 refine step_lone_go ?_;rw[hgr,←hfin];simp[stepG.apply,hr]
theorem zTl{id:Nat}{x:T}{v:Value}{u u':FrameMode}{c0:Frame}{cs:List Frame}{s s':S}(hm:P.follows .mixedOrders=true)(hcl:kV P cl)(hyd:xK P yd)(h:qMd P cl yd ops x s=some s')(hu:c0.mode=u)(hM:zFp B (rd w Y) x v u u')
  (hW:Wd P E w0 X F s.H B w Y Mo) (hF:FrT n a s.L D B (rd w Y)) {Q:Exit→Act→List Frame→World→Prop}
  (hk:∀a' w' B' Y' Mo',Wd P E w0 X F s'.H B' w' Y' Mo'→FrT n a' s'.L D B' (rd w' Y')→BLe B B'→Le (rd w Y) (rd w' Y')→Q .normal a' ({c0 with mode:=u'}::cs) w'):(Code.region id ops true).wpSIn (FF none) 0 P Q a (c0::cs) w:=by
 unfold qMd at h;split at h
 ·rename_i o0 o1 o2 o3 hops;have hops':ops=#[o0,o1,o2,o3]:=Array.ext' (by simpa using hops)
  have hsz:ops.size=4:=by rw[hops'];rfl
  have i0:ops[0]?=some o0:=by rw[hops'];rfl
  have i1:ops[1]?=some o1:=by rw[hops'];rfl
  have i2:ops[2]?=some o2:=by rw[hops'];rfl
  have i3:ops[3]?=some o3:=by rw[hops'];rfl
  cases hc:zPd o0&&(noG o0&&(noG o1&&(zWj ops&&(kK o2.op&&kK o3.op))))with
  | false=>simp[hc]at h
  | true=>
   simp only[hc,cond_true]at h;simp only[Bool.and_eq_true]at hc;obtain⟨c1,c2,c3,c4,c5,c6⟩:=hc;split at h
   ·rename_i d0 d1 t ta e0 e1 e2;cases hd:!Nat.beq d0 d1&&!Nat.beq d0 ta with
    | false=>simp[hd]at h
    | true=>
     simp only[hd,cond_true]at h;simp only[Bool.and_eq_true,Bool.not_eq_true']at hd;have hd:=And.intro (neN hd.1) (neN hd.2);split at h
     ·rename_i z hz;have tail:∀(a2:Act)(w2:World),Wd P E w0 X F s.H B w2 Y Mo→FrT n a2 (Ev.put z (Ev.put x s.L d0) d1) D B (rd w2 Y)→Le (rd w Y) (rd w2 Y)→wpOpsIn (FF none) 0 P ops (fun e a' w'=>Q e a' ({c0 with mode:=u'}::cs) w') [2,3] a2 w2:=fun a2 w2 g1 g2 g3=>by
       simp only[zQb]at h;cases h2:opE P cl yd ops o2 ⟨Ev.put z (Ev.put x s.L d0) d1,s.H⟩with
       | none=>simp[h2]at h
       | some s2=>
        simp only[h2]at h;cases h3:opE P cl yd ops o3 s2 with
        | none=>simp[h3]at h
        | some s3=>
         simp only[h3,Option.some.injEq]at h;subst h;simp only[wpOpsIn,i2,i3];refine zHc hcl hyd h2 c5 g1 g2 fun a3 w3 B3 Y3 Mo3 k1 k2 k3 k4=>zHc hcl hyd (L:=s2.L) (H:=s2.H) h3 c6 k1 k2 fun a4 w4 B4 Y4 Mo4 q1 q2 q3 q4=>?_;exact hk _ _ _ _ _ q1 q2 (k3.trans q3) ((g3.trans k4).trans q4)
      intro b k hb hro hFn hroom;have hup:=Upd.drew w;have hW0:Wd P E w0 X F s.H B w.drew Y Mo:=hW.call hup;have hle:Le (rd w Y) (rd w.drew Y):=hup.le Y;have hF0:FrT n a s.L D B (rd w.drew Y):=hF.mono (BLe.refl B) hle;obtain⟨v1,hr1,hR1⟩:∃v1,(execOp a.eval o1).run P w.drew= .ok (.value v1) w.drew∧Rep B (rd w.drew Y) z v1:=by
       have:=zQe (P:=P) (w:=w.drew) (k:=0) hW0.hp hF0.rep e2 (z:=(z,none)) (by show zBr P s.H t (nth .u s.L ta)=_;exact hz)
       exact this
      have hr1':(execOp (a.put (some d0) v).eval o1).run P w.drew= .ok (.value v1) w.drew:=by
       rw[←hr1];have:(a.put (some d0) v).eval (.tmp ta)=a.eval (.tmp ta):=Act.eval_put fun d hd'=>by
        cases hd';intro e;cases e;exact hd.2 rfl
       unfold execOp;simp only[e2,this]
      have hMv:Rep B (rd w.drew Y) x v:=hM.rep.mono (BLe.refl B) hle;have hF2:FrT n ((a.put (some d0) v).put (some d1) v1) (Ev.put z (Ev.put x s.L d0) d1) D B (rd w.drew Y):=(hF0.put (some d0) hMv).put (some d1) hR1;have hcomm:(a.put (some d1) v1).put (some d0) v=(a.put (some d0) v).put (some d1) v1:=(Act.put_comm a v v1 (fun d hd' e=>by cases hd';cases e;exact hd.1 rfl)).symm
      have hroom0:(FF none).room ((c0::cs).length+1+0):=hroom;have hroom1:(FF none).room (({c0 with mode:=u'}::cs).length+1+0):=hroom
      obtain⟨e,a',w',hq,harr⟩:=wp_opsIn [2,3] _ _ (tail _ _ hW0 hF2 hle) b k ({c0 with mode:=u'}::cs) hro hFn hroom1
      have hs0:=stepR_region_draw (P:=P) (b:=b) (a:=a) (k:=k) (cs:=c0::cs) (w:=w) (ops:=ops) (id:=id);rw[hm]at hs0;refine⟨e,a',{c0 with mode:=u'}::cs,w',rfl,hq,?_⟩
      refine .of_steps (.one (fenced_calm hFn hroom0 rfl) hs0) ?_;rcases jCp hsz c4 (w.tape w.drawn (.order b.fn id))with hsch | hsch
      ·rw[hsch];refine .of_steps (.one (fenced_oper hFn hroom0 i0 fun f _=>xC none f) (zRb hb hro i0 c1 c2 hu hM)) ?_;rw[e0];refine .of_steps (.one (fenced_oper hFn hroom1 i1 fun f _=>xC none f) (zRc hro i1 c3 hr1')) ?_;rw[e1];exact harr
      ·rw[hsch];refine .of_steps (.one (fenced_oper hFn hroom0 i1 fun f _=>xC none f) (zRc hro i1 c3 hr1)) ?_;rw[e1];refine .of_steps (.one (fenced_oper hFn hroom0 i0 fun f _=>xC none f) (zRb hb hro i0 c1 c2 hu hM)) ?_;rw[e0,hcomm];exact harr
     ·cases h
   ·cases h
 ·cases h
theorem qRc{x:T}{v:Value}{u u':FrameMode}{f:Nat}{cs:List T}{caps:List Value}{H':List TO}(hm:P.follows .mixedOrders=true)(hcl:kV P cl)(hyd:xK P yd)(hrn:sS P rn)(h:zSa P cl yd rn x H (.fn f cs)=some H')(hM:zFp B (rd w Y) x v u u')
  (hW:Wd P E w0 X F H B w Y Mo) (hcs:zN B (rd w Y) cs caps) {R:Ending→FrameMode→World→Prop}
  (hk:∀v w' B' Y' Mo',Wd P E w0 X F H' B' w' Y' Mo'→BLe B B'→Le (rd w Y) (rd w' Y')→R (.returned v) u' w'):CallsDIn (FF none) 0 P f caps.toArray u w R:=by
 simp only[zSa]at h;cases hf:P.funcs[f]? with
 | none=>simp[hf]at h
 | some fn=>
  simp only[hf]at h;split at h
  ·rename_i id ops c hb hres;cases hl:Nat.ble (ln cs) fn.ntmps&&noR c with
   | false=>simp[hl]at h
   | true=>
    simp only[hl,cond_true]at h;simp only[Bool.and_eq_true,Nat.ble_eq,qR]at hl;have hlen:=hcs.length;refine callsDIn_of_wpSIn hf hb (xC none f) fun c0 fs hu=>?_;have hF:FrT fn.ntmps {tmps:=caps.toArray++Array.replicate (fn.ntmps-caps.toArray.size) undef,defers:=[]} (Ev.rest fn.ntmps cs) [] B (rd w Y):=by
     refine⟨by simp;omega,?_,rfl⟩
     have:(caps.toArray++Array.replicate (fn.ntmps-caps.toArray.size) undef).toList=caps++List.replicate (fn.ntmps-caps.length) undef:=by simp
     rw[this];refine hcs.app (zIc _ _ ?_);rw[qR];simp;omega
    cases h1:qMd P cl yd ops x ⟨Ev.rest fn.ntmps cs,H⟩with
    | none=>simp[h1]at h
    | some s1=>
     simp only[h1]at h;refine wpSIn_seq (zTl hm hcl hyd h1 hu hM hW hF fun a1 w1 B1 Y1 Mo1 g1 g2 g3 g4=>?_);show c.wpSIn (FF none) 0 P _ a1 _ w1;have hres':fn.results=#[]:=Array.ext' (by simpa using hres)
     have hrun:∀(tm:Array Value)(w2:World),(results fn tm).run P w2= .ok (zBs []) w2:=fun tm w2=>zMz (by rw[hres];rfl)
     have fin:∀(s2:S)(e:Ex),rn c s1=some (e,s2)→(e= .n∨e= .r)→s2.H=H'→c.wpSIn (FF none) 0 P (bodyPostS P fn c0 fs R) a1 ({c0 with mode:=u'}::fs) w1:=fun s2 e h2 he hH=>by
      refine wpSIn_of_wpIn rfl (hrn _ _ _ _ h2 E w0 X F fn.ntmps a1 [] B1 w1 Y1 Mo1 none _ (.inl rfl) g1 g2 fun a2 w2 B2 Y2 Mo2 bs hbs k1 k2 k3 k4=>?_);have hbs:=hbs hl.2;subst hbs;subst hH;have hd:a2.defers=[]:=k2.defers;have hq:a2.defers=[]∧∃u2,({c0 with mode:=u'}::fs:List Frame)={c0 with mode:=u2}::fs∧∃v,(results fn a2.tmps).run P w2= .ok v w2∧R (.returned v) u2 w2:=
       ⟨hd,u',rfl,_,hrun _ _,hk _ _ _ _ _ k1 (g3.trans k3) (g4.trans k4)⟩
      rcases he with rfl | rfl
      ·exact hq
      ·exact hq
     cases h2:rn c s1 with
     | none=>simp[h2]at h
     | some es=>
      obtain⟨e,s2⟩:=es;cases e with
      | n=>simp only[h2,Option.some.injEq]at h;exact fin s2 _ h2 (.inl rfl) h
      | r=>simp only[h2,Option.some.injEq]at h;exact fin s2 _ h2 (.inr rfl) h
      | x id=>simp[h2]at h
      | p t=>simp[h2]at h
  ·cases h
theorem zXe:xK P (fun _ _ _=>none):=fun l az H tv H' h=>by cases h
theorem zXu(hm:P.follows .mixedOrders=true)(hrn:sS P rn):kV P (zSf P rn):=by
 intro f az H tv H' h E w0 X F B w Y Mo qC R hW hA hk;unfold zSf at h;cases hf:P.funcs[f]? with
 | none=>simp[hf]at h
 | some fn=>
  simp only[hf]at h;cases hb:fn.body with
  | none=>simp[hb]at h
  | some c=>
   simp only[hb]at h;cases hl:Nat.ble (ln az) fn.ntmps with
   | false=>simp[hl]at h
   | true=>
    simp only[hl,cond_true]at h;rw[Nat.ble_eq,qR]at hl;have hlen:=hA.length;have hcl:=zCq hrn;refine rJ.1 (callsIn_of_wp_marks (n:=0) hf hb (xC none f) ?_);have hF:FrT fn.ntmps {tmps:=qC.toArray++Array.replicate (fn.ntmps-qC.toArray.size) undef,defers:=[]} (Ev.rest fn.ntmps az) [] B (rd w Y):=by
     refine⟨by simp;omega,?_,rfl⟩
     have:(qC.toArray++Array.replicate (fn.ntmps-qC.toArray.size) undef).toList=qC++List.replicate (fn.ntmps-qC.length) undef:=by simp
     rw[this];refine hA.app (zIc _ _ ?_);rw[qR];simp;omega
    generalize hs0:(⟨Ev.rest fn.ntmps az,H⟩:S)=s0 at h;unfold defE at h;split at h
    ·rename_i c0 id ops c2;cases h0:rn c0 s0 with
     | none=>simp[h0]at h
     | some es=>
      obtain⟨e0,s1⟩:=es;cases e0 with
      | x id=>simp[h0]at h
      | r=>simp[h0]at h
      | p t=>simp[h0]at h
      | n=>
       simp only[h0]at h;cases h1:zYq P (pG P rn) (fun _ _ _=>none) ops ops.toList s1 with
       | none=>simp[h1]at h
       | some gs=>
        obtain⟨g,s2⟩:=gs;simp only[h1]at h;subst hs0;refine wpIn_seq (hrn _ _ _ _ h0 E w0 X F fn.ntmps _ [] B w Y Mo none _ (.inl rfl) hW hF fun a1 w1 B1 Y1 Mo1 bs1 _ g1 g2 g3 g4=>?_);refine wpIn_seq (wpIn_region_list ?_);refine zVz hcl zXe ops.toList s1 s2 h1 g1 g2 (BLe.refl B1) (Le.refl _) fun a2 w2 B2 Y2 Mo2 f2 cs2 caps hg hcs hen k1 k2 k3 k4=>?_;subst hg;have leave:∀(s3:S)(x:T)(v:Value)(u u':FrameMode)(a3:Act)(w3:World)(B3:Bm)(Y3:Hid)(Mo3:List (Nat×Obj))(bs3:List Nat),u≠.run→zYf P fn s3 (zSa P (pG P rn) (fun _ _ _=>none) rn x s3.H (.fn f2 cs2))=some (tv,H')→zFp B3 (rd w3 Y3) x v u u'→
          Wd P E w0 X (bs3++(bs1++F)) s3.H B3 w3 Y3 Mo3→FrT fn.ntmps a3 s3.L (bs3.map Gv.mark++({target:= .fn (.func f2) caps.toArray,args:=#[]}::(bs1.map Gv.mark++[]))) B3 (rd w3 Y3)→BLe B2 B3→Le (rd w2 Y2) (rd w3 Y3)→LeavesInM (FF none) 0 P fn a3.tmps R a3.defers u w3:=fun s3 x v u u' a3 w3 B3 Y3 Mo3 bs3 hu hlea hM q1 q2 q3 q4=>by
         cases hc:zSa P (pG P rn) (fun _ _ _=>none) rn x s3.H (.fn f2 cs2)with
         | none=>simp[hc,zYf]at hlea
         | some H4=>
          simp only[hc,zYf]at hlea;cases hr:fB P s3.L H4 fn.results.toList with
          | none=>simp[hr]at hlea
          | some ts=>
           simp only[hr,Option.some.injEq,Prod.mk.injEq]at hlea;obtain⟨rfl,rfl⟩:=hlea;rw[q2.defers];refine tJ hu bs3 q1 fun w4 m1 m2=>?_;have hcs4:=hcs.mono q3 (q4.trans m2);refine⟨hu,.inr ⟨sQ none 0,.func f2,caps.toArray,f2,caps.toArray,rfl,?_,fun g _=>xC none g,?_⟩⟩
           ·simp only[invoke];simpa using rU hen caps.toArray w4
           ·refine qRc hm hcl zXe hrn hc (hM.mono (BLe.refl B3) m2) m1 hcs4 fun v5 w5 B5 Y5 Mo5 p1 p2 p3=>?_;show LeavesInM (FF none) 0 P fn a3.tmps R (bs1.map Gv.mark++[]) (settle u') w5;rw[hM.settles];refine tJ (by simp) bs1 p1 fun w6 t1 t2=>?_
            have hreps:zN B5 (rd w6 Y5) s3.L a3.tmps.toList:=q2.reps.mono p2 ((m2.trans p3).trans t2);obtain⟨vs,z1,z2⟩:=zFn (a:=a3) t1 hreps hr;refine zAt (zMz z1) (hk _ _ _ _ _ t1 (zQh z2) (((g3.trans k3).trans q3).trans p2) ?_);exact((((g4.trans k4).trans q4).trans m2).trans p3).trans t2
        cases h3:rn c2 s2 with
        | none=>simp[h3,zXr]at h
        | some es=>
         obtain⟨e3,s3⟩:=es;refine hrn _ _ _ _ h3 E w0 X _ fn.ntmps a2 _ B2 w2 Y2 Mo2 none _ (.inl rfl) k1 k2 fun a3 w3 B3 Y3 Mo3 bs3 _ q1 q2 q3 q4=>?_;cases e3 with
         | x id=>simp[h3,zXr]at h
         | n=>
          simp only[h3,zXr]at h;exact leave s3 _ .nilIface .returning .returning a3 w3 B3 Y3 Mo3 bs3 (by simp) h (.inl ⟨rfl,rfl,rfl,rfl⟩) q1 q2 q3 q4
         | r=>
          simp only[h3,zXr]at h;exact leave s3 _ .nilIface .returning .returning a3 w3 B3 Y3 Mo3 bs3 (by simp) h (.inl ⟨rfl,rfl,rfl,rfl⟩) q1 q2 q3 q4
         | p t=>
          simp only[h3,zXr]at h;intro v hv;exact leave s3 t v _ _ a3 w3 B3 Y3 Mo3 bs3 (by simp) h (.inr ⟨v,hv,rfl,rfl,rfl⟩) q1 q2 q3 q4
    ·cases h
theorem gD(hm:P.follows .mixedOrders=true)(hrn:sS P rn):kV P (gB P rn):=by
 intro f az H tv H' h;unfold gB at h;cases h0:pG P rn f az H with
 | some z=>
  simp only[h0,Option.some.injEq]at h;subst h;exact zCq hrn _ _ _ _ _ h0
 | none=>
  simp only[h0]at h;exact zXu hm hrn _ _ _ _ _ h
theorem zXv(hrn:sS P rn):qAh P (zSg P rn):=by
 intro f az H tv H' h E w0 X F B w Y Mo qC R hW hA hk;unfold zSg at h;cases hf:P.funcs[f]? with
 | none=>simp[hf]at h
 | some fn=>
  simp only[hf]at h;cases hb:fn.body with
  | none=>simp[hb]at h
  | some c=>
   simp only[hb]at h;cases hl:Nat.ble (ln az) fn.ntmps with
   | false=>simp[hl]at h
   | true=>
    simp only[hl,cond_true]at h;rw[Nat.ble_eq,qR]at hl;have hlen:=hA.length;refine rJ.1 (callsIn_of_wp_marks (n:=0) hf hb (xC none f) ?_);have hF:FrT fn.ntmps {tmps:=qC.toArray++Array.replicate (fn.ntmps-qC.toArray.size) undef,defers:=[]} (Ev.rest fn.ntmps az) [] B (rd w Y):=by
     refine⟨by simp;omega,?_,rfl⟩
     have:(qC.toArray++Array.replicate (fn.ntmps-qC.toArray.size) undef).toList=qC++List.replicate (fn.ntmps-qC.length) undef:=by simp
     rw[this];refine hA.app (zIc _ _ ?_);rw[qR];simp;omega
    cases hc:rn c ⟨Ev.rest fn.ntmps az,H⟩with
    | none=>simp[hc,zZa]at h
    | some es=>
     obtain⟨e,s⟩:=es;cases e with
     | n=>simp[hc,zZa]at h
     | x id=>simp[hc,zZa]at h
     | r=>simp[hc,zZa]at h
     | p t=>
      simp only[hc,zZa,Option.some.injEq,Prod.mk.injEq]at h;obtain⟨rfl,rfl⟩:=h;refine hrn _ _ _ _ hc E w0 X F fn.ntmps _ [] B w Y Mo none _ (.inl rfl) hW hF fun a' w' B' Y' Mo' bs _ g1 g2 g3 g4 v hv=>?_;show LeavesInM (FF none) 0 P fn a'.tmps R a'.defers (.panicking _) w';rw[g2.defers];refine tJ (by simp) bs g1 fun w2 k1 k2=>?_
      show R (.panicked _) w2;exact hk v w2 B' Y' Mo' k1 (hv.mono (BLe.refl B') k2) g3 (g4.trans k2)
def qAi(P:Program)(SO:Oo):Prop:=∀H f az tv,SO H f az=some tv→Kn P f az H tv H
theorem qBe{SO:Oo}(hm:P.follows .mixedOrders=true)(hS:qAi P SO)(hO:zL P O)(hrn:sS P rn):kV P (zIx P SO O rn):=by
 intro f az H tv H' h;unfold zIx at h;cases hs:SO H f az with
 | some z=>
  simp only[hs,Option.some.injEq,Prod.mk.injEq]at h;obtain⟨rfl,rfl⟩:=h;exact hS _ _ _ _ hs
 | none=>
 simp only[hs]at h;cases ho:poC O H f az with
 | some z=>
  simp only[ho,Option.some.injEq,Prod.mk.injEq]at h;obtain⟨rfl,rfl⟩:=h;intro E w0 X F B w Y Mo qC R hW hA hk;exact qGh (k:=H.length) (fun f az tv nw h=>hO f az tv nw h _) ho hW.ow hW.ivw hW.bNle hW.st.lt hW.nn hA fun v w' hu hv=>hk v w' B Y Mo (hW.call hu) hv (BLe.refl B) (hu.le Y)
 | none=>simp only[ho]at h;exact gD hm hrn _ _ _ _ _ h
end
section
variable {P:Program}{H:List TO}{k:Nat}{ρ ρ':Operand→T}
theorem zDg{l:List Operand}(h:∀x∈l,ρ x=ρ' x):l.map ρ=l.map ρ':=List.map_congr_left h
theorem zJg{ps:Array (Nat×Operand)}(h:∀x∈(ps.toList.map (·.2)),ρ x=ρ' x):evP ρ ps=evP ρ' ps:=by
 unfold evP;refine List.map_congr_left fun p hp=>?_;rw[h p.2 (List.mem_map.2 ⟨p,hp,rfl⟩)]
theorem lF(op:Op)(h:∀x∈op.operands,ρ x=ρ' x):xB P H k ρ op=xB P H k ρ' op:=by
 cases op with
 | build t ps=>simp only[xB];rw[zJg (fun x hx=>h x (by simpa[Op.operands]using hx))]
 | buildSlice t n ps=>simp only[xB];rw[zJg (fun x hx=>h x (by simpa[Op.operands]using hx))]
 | makeFunc fn first caps=>simp only[xB];rw[zDg (l:=caps.toList) (fun x hx=>h x (by simp[Op.operands];exact .inr (by simpa using hx))),zDg (l:=first.toList) (fun x hx=>h x (by simp[Op.operands];exact .inl (by simpa using hx)))]
 | slice t x lo hi mx=>
  have key:∀σ σ':Operand→T,(∀y∈(Op.slice t x lo hi mx).operands,σ y=σ' y)→pQ P t (σ x) σ lo hi mx=pQ P t (σ' x) σ' lo hi mx:=fun σ σ' h=>by
   have h0:=h x (by simp[Op.operands])
   have h1:∀a,lo=some a→σ a=σ' a:=fun a e=>h a (by simp[Op.operands,e])
   have h2:∀a,hi=some a→σ a=σ' a:=fun a e=>h a (by simp[Op.operands,e])
   have h3:∀a,mx=some a→σ a=σ' a:=fun a e=>h a (by simp[Op.operands,e])
   have o1:∀d,opt σ d lo=opt σ' d lo:=fun d=>by cases lo<;>simp[opt, *]
   have o2:∀d,opt σ d hi=opt σ' d hi:=fun d=>by cases hi<;>simp[opt, *]
   have o3:∀y s l u,wU σ y s l u hi mx=wU σ' y s l u hi mx:=fun y s l u=>by cases mx<;>simp[wU, *]
   simp only[pQ,h0,o1,o2,o3]
  exact key (fun y=>dn (ρ y)) (fun y=>dn (ρ' y)) fun y hy=>congrArg dn (h y hy)
 | call c=>
  simp only[xB,lS];split
  ·rename_i x y t t' e1 e2 e3;show mnT _ _ _=mnT _ _ _;simp only[h x (by simp only[Op.operands,Call.operands,Array.mem_append];right;rw[←Array.mem_toList_iff,e2];simp),h y (by simp only[Op.operands,Call.operands,Array.mem_append];right;rw[←Array.mem_toList_iff,e2];simp)]
  ·rename_i x y t t' e1 e2 e3;show mnT _ _ _=mnT _ _ _;simp only[h x (by simp only[Op.operands,Call.operands,Array.mem_append];right;rw[←Array.mem_toList_iff,e2];simp),h y (by simp only[Op.operands,Call.operands,Array.mem_append];right;rw[←Array.mem_toList_iff,e2];simp)]
  ·rename_i x t e1 e2 e3;show _=_;simp only[h x (by simp only[Op.operands,Call.operands,Array.mem_append];right;rw[←Array.mem_toList_iff,e2];simp)]
  ·rfl
 | makeMap t q=>cases q<;>simp[xB]
 | _=>simp only[xB]<;>simp_all [Op.operands]
theorem zHx:∀{l:List Operand},(∀x∈l,ρ x=ρ' x)→zQw ρ l=zQw ρ' l
 | [],_=>rfl
 | x::l,h=>by
  simp only[zQw];rw[h x List.mem_cons_self,zHx fun y hy=>h y (List.mem_cons_of_mem _ hy)]
theorem aH(o:Oper)(h:∀x∈o.op.operands,ρ x=ρ' x):zBl P ρ o=zBl P ρ' o:=by
 unfold zBl;rw[zHx (fun x hx=>h x (by simpa using hx))]
 cases hn:zPr o.op with
 | false=>rfl
 | true=>
  rw[execOp_congr o (mX hn) fun x hx=>(by simp only[sAt,h x hx]:sAt ρ x=sAt ρ' x)]
end
section
variable {P:Program}{E:Nat→Prop}{w0:World}{X:Hid}{F:List Nat}{H:List TO}{B B':Bm}{w w':World}{Y Y':Hid}{Mo:List (Nat×Obj)}{o:Oper}{r r':Rd}{n:Nat}{a:Act}{L:List T}{D:List Deferred}{Q:Exit→Act→World→Prop}{K:Act→World→Prop}{po:Po}{ops:Array Oper}{rn:Rn}{cl yd:Cl}{rr:Option Nat}{O:Po}
theorem zJm{H0:List TO}:∀(l:List Oper)(seen:List Nat)(Hn:List TO)(L:List T)(i:Nat)(z:T×Option TO),(sH P po H0 H ops l seen Hn L)[i]?=some z→
  ∃o,l[i]?=some o∧xG P po H0 H (Hn++qD ((sH P po H0 H ops l seen Hn L).take i)) (kJ l ((sH P po H0 H ops l seen Hn L).take i) L) ops o=some z
 | [],seen,Hn,L,i,z,h=>by simp[sH]at h
 | o::l,seen,Hn,L,i,z,h=>by
  simp only[sH]at h ⊢;cases hs:zNd o seen with
  | true=>simp[hs]at h
  | false=>
  simp only[hs,cond_false]at h ⊢;cases ho:xG P po H0 H Hn L ops o with
  | none=>simp[ho]at h
  | some y=>
   simp only[ho]at h ⊢;cases i with
   | zero=>simp at h;subst h;exact⟨o,rfl,by simpa[qD,kJ]using ho⟩
   | succ i=>
    obtain⟨o',h1,h2⟩:=zJm l (zQy o seen) (nxH Hn y.2) (dst o.dst y.1 L) i z (by simpa using h)
    refine⟨o',by simpa using h1,?_⟩
    simp only[List.take_succ_cons,kJ];have e:Hn++qD (y::(sH P po H0 H ops l (zQy o seen) (nxH Hn y.2) (dst o.dst y.1 L)).take i)=nxH Hn y.2++qD ((sH P po H0 H ops l (zQy o seen) (nxH Hn y.2) (dst o.dst y.1 L)).take i):=by
     obtain⟨t,ob⟩:=y;cases ob<;>simp[qD,nxH]
    rw[e];exact h2
theorem zPb{H0:List TO}:∀(l:List Oper)(seen:List Nat)(Hn:List TO)(L:List T),(sH P po H0 H ops l seen Hn L).length≤l.length
 | [],_,_,_=>by simp[sH]
 | o::l,seen,Hn,L=>by
  simp only[sH];cases zNd o seen with
  | true=>simp
  | false=>
   simp only[cond_false];split
   ·simp;exact zPb l _ _ _
   ·simp
theorem rT(d:Option Nat)(t:T)(L:List T):(dst d t L).length=L.length:=by
 cases d with
 | none=>rfl
 | some d=>simp[dst,yP]
theorem dK:∀(l:List Oper)(rs:List (T×Option TO))(L:List T),(kJ l rs L).length=L.length
 | [],_,_=>rfl
 | _::_,[],_=>rfl
 | o::l,z::rs,L=>by rw[kJ,dK l rs,rT]
theorem yT{d:Option Nat}{t:T}{L:List T}{x:Nat}(h:d≠some x):nth .u (dst d t L) x=nth .u L x:=by
 cases d with
 | none=>rfl
 | some d=>
  have:d≠x:=fun e=>h (by rw[e])
  simp only[dst,yP,jA,List.getD_eq_getElem?_getD,List.getElem?_set_ne this]
theorem zAe{t:T}{L:List T}{x:Nat}(h:x<L.length):nth .u (dst (some x) t L) x=t:=by
 simp[dst,yP,jA,h]
theorem nV:∀(l:List Oper)(rs:List (T×Option TO))(L:List T)(x:Nat),(∀(j:Nat)(o:Oper),j<rs.length→l[j]?=some o→o.dst≠some x)→nth .u (kJ l rs L) x=nth .u L x
 | [],_,_,_,_=>rfl
 | _::_,[],_,_,_=>rfl
 | o::l,z::rs,L,x,h=>by
  rw[kJ,nV l rs _ x (fun j o' hj ho=>h (j+1) o' (by simpa using hj) (by simpa using ho)),yT (h 0 o (by simp) rfl)]
theorem dL:∀(l:List Oper)(rs:List (T×Option TO))(L:List T)(x i:Nat)(o:Oper)(z:T×Option TO),x<L.length→l[i]?=some o→rs[i]?=some z→o.dst=some x→(∀(j:Nat)(o':Oper),j≠i→j<rs.length→l[j]?=some o'→o'.dst≠some x)→nth .u (kJ l rs L) x=z.1
 | [],_,_,_,i,_,_,_,h,_,_,_=>by simp at h
 | _::_,[],_,_,i,_,_,_,_,h,_,_=>by simp at h
 | o1::l,z1::rs,L,x,0,o,z,hx,ho,hz,hd,h=>by
  simp at ho hz;subst ho;subst hz;rw[kJ,nV l rs _ x (fun j o' hj ho=>h (j+1) o' (by simp) (by simpa using hj) (by simpa using ho)),hd,zAe hx]
 | o1::l,z1::rs,L,x,i+1,o,z,hx,ho,hz,hd,h=>by
  rw[kJ];exact dL l rs _ x i o z (by rw[rT];exact hx) (by simpa using ho) (by simpa using hz) hd fun j o' hj hl ho'=>h (j+1) o' (by simpa using hj) (by simpa using hl) (by simpa using ho')
theorem fP{t:Nat}:∀{l:List Oper}{i:Nat},wrt t l i=none→∀(j:Nat)(o:Oper),l[j]?=some o→o.dst≠some t
 | [],_,_,j,o,h=>by simp at h
 | o1::l,i,h,j,o,ho=>by
  simp only[wrt]at h;cases hd:o1.dst with
  | none=>
   simp only[hd]at h;cases j with
   | zero=>simp at ho;subst ho;rw[hd];simp
   | succ j=>exact fP h j o (by simpa using ho)
  | some d=>
   simp only[hd]at h;cases hb:Nat.beq d t with
   | true=>simp[hb]at h
   | false=>
    simp only[hb,cond_false]at h;cases j with
    | zero=>simp at ho;subst ho;rw[hd];intro e;cases e;simp at hb
    | succ j=>exact fP h j o (by simpa using ho)
theorem zCk{t:Nat}:∀{l:List Oper}{i q:Nat},wrt t l i=some q→∃(j:Nat)(o:Oper),q=i+j∧l[j]?=some o∧o.dst=some t
 | [],_,_,h=>by simp[wrt]at h
 | o1::l,i,q,h=>by
  simp only[wrt]at h;cases hd:o1.dst with
  | none=>
   simp only[hd]at h;obtain⟨j,o,h1,h2,h3⟩:=zCk h;exact⟨j+1,o,by omega,by simpa using h2,h3⟩
  | some d=>
   simp only[hd]at h;cases hb:Nat.beq d t with
   | true=>
    simp only[hb,cond_true,Option.some.injEq]at h;obtain rfl:=zY hb;exact⟨0,o1,by omega,rfl,hd⟩
   | false=>
    simp only[hb,cond_false]at h;obtain⟨j,o,h1,h2,h3⟩:=zCk h;exact⟨j+1,o,by omega,by simpa using h2,h3⟩
theorem zEo{i:Nat}(h:zTz o i=true):∃e∈o.after,Region.binds .any e=true∧e.on=i:=by
 unfold zTz at h;rw[List.any_eq_true]at h;obtain⟨e,he,hb⟩:=h;simp only[Bool.and_eq_true]at hb;exact⟨e,by simpa using he,hb.1,zY hb.2⟩
theorem xL{hd:List Oper}:∀{l:List Oper}{i:Nat},zGh ops hd l i=true→∀(j:Nat)(o:Oper),l[j]?=some o→
  (∀x∈o.op.operands.toList,qFi hd o (i+j) x=true)∧qDe ops hd o (i+j)=true∧∀d,o.dst=some d→∀(q:Nat)(o':Oper),j<q→l[q]?=some o'→o'.dst≠some d
 | [],_,_,j,o,h=>by simp at h
 | o1::l,i,h,j,o,ho=>by
  simp only[zGh,Bool.and_eq_true]at h;cases j with
  | zero=>
   simp at ho;subst ho;refine⟨fun x hx=>List.all_eq_true.1 h.1.1 x hx,h.1.2,fun d hd q o' hq ho'=>?_⟩;have h2:=h.2.1;simp only[hd]at h2;cases hw:wrt d l 0 with
   | some y=>simp[hw]at h2
   | none=>
    cases q with
    | zero=>omega
    | succ q=>exact fP hw q o' (by simpa using ho')
  | succ j=>
   obtain⟨g1,g2,g3⟩:=xL h.2.2 j o (by simpa using ho)
   rw[show i+1+j=i+(j+1)by omega]at g1 g2
   refine⟨g1,g2,fun d hd q o' hq ho'=>?_⟩;cases q with
   | zero=>omega
   | succ q=>exact g3 d hd q o' (by omega) (by simpa using ho')
def zIn(ops:List Oper)(S:Nat→Prop):Prop:=∀(i:Nat)(o:Oper),ops[i]?=some o→S i→∀e∈o.after,Region.binds .any e=true→S e.on
theorem zGt{acc:List Nat}{q:Nat}:∀{es:List Edge},(zGs acc es).testBit q=true→∃e∈es,Region.binds .any e=true∧(e.on=q∨(nth 0 acc e.on).testBit q=true)
 | [],h=>by simp[zGs]at h
 | e::es,h=>by
  unfold zGs at h;cases hb:Region.binds .any e with
  | false=>
   simp only[hb,cond_false]at h;obtain⟨e',h1,h2⟩:=zGt h;exact⟨e',List.mem_cons_of_mem _ h1,h2⟩
  | true=>
   simp only[hb,cond_true]at h;have h:((2^e.on||| nth 0 acc e.on)||| zGs acc es).testBit q=true:=h
   rw[Nat.testBit_or,Nat.testBit_or,Nat.testBit_two_pow]at h;simp only[Bool.or_eq_true,decide_eq_true_eq]at h;rcases h with(h | h) | h
   ·exact⟨e,List.mem_cons_self,hb,.inl h⟩
   ·exact⟨e,List.mem_cons_self,hb,.inr h⟩
   ·obtain⟨e',h1,h2⟩:=zGt h;exact⟨e',List.mem_cons_of_mem _ h1,h2⟩
def qAe(ops:List Oper)(acc:List Nat):Prop:=∀(j k:Nat)(o:Oper),acc[j]?=some k→ops[j]?=some o→∀q,k.testBit q=true→∀S,zIn ops S→(∀e∈o.after,Region.binds .any e=true→S e.on)→S q
theorem zPq{ops:List Oper}:∀(l:List Oper)(acc:List Nat),ops.drop acc.length=l→qAe ops acc→qAe ops (wP l acc)
 | [],acc,_,h=>h
 | o::l,acc,hd,h=>by
  unfold wP;have ho:ops[acc.length]?=some o:=by
   have:=congrArg (·[0]?) hd;simpa using this
  refine zPq l _ ?_ ?_
  ·rw[List.length_append,List.length_singleton,←List.drop_drop,hd];rfl
  ·intro j k o' hj ho' q hq S hS hp;rcases Nat.lt_or_ge j acc.length with hlt | hge
   ·rw[List.getElem?_append_left hlt]at hj;exact h j k o' hj ho' q hq S hS hp
   ·have hje:j=acc.length:=by
     have:=(List.getElem?_eq_some_iff.1 hj).1;simp at this;omega
    subst hje;rw[ho]at ho';cases ho';simp at hj;subst hj;obtain⟨e,he,hb,h1⟩:=zGt hq;have hSe:=hp e (by simpa using he) hb
    rcases h1 with rfl | h1
    ·exact hSe
    ·cases hn:acc[e.on]? with
     | none=>rw[jA,List.getD_eq_getElem?_getD,hn]at h1;simp at h1
     | some k2=>
      have h2:nth 0 acc e.on=k2:=by rw[jA,List.getD_eq_getElem?_getD,hn];rfl
      rw[h2]at h1;have hlt:=(List.getElem?_eq_some_iff.1 hn).1;have hol:=(List.getElem?_eq_some_iff.1 ho).1;obtain⟨o2,ho2⟩:∃o2,ops[e.on]?=some o2:=⟨ops[e.on]'(by omega),by simp⟩
      exact h e.on k2 o2 hn ho2 q h1 S hS (hS e.on o2 ho2 hSe)
theorem zDf{m:Nat}{ld vl:List Nat}{o:Oper}{q:Nat}:∀{l:List Oper}{i:Nat},(zAs ops m ld vl o l i).testBit q=true→∃(j:Nat)(p:Oper),q=i+j∧l[j]?=some p∧xP m ld vl q p=true∧bF ops o p=true
 | [],i,h=>by simp[zAs]at h
 | p::l,i,h=>by
  unfold zAs at h;cases hb:xP m ld vl i p&&bF ops o p with
  | false=>
   simp only[hb,cond_false]at h;obtain⟨j,p',h1,h2,h3⟩:=zDf h;exact⟨j+1,p',by omega,by simpa using h2,h3⟩
  | true=>
   simp only[hb,cond_true]at h;have h:(2^i||| zAs ops m ld vl o l (i+1)).testBit q=true:=h
   rw[Nat.testBit_or,Nat.testBit_two_pow]at h;simp only[Bool.or_eq_true,decide_eq_true_eq]at h;rcases h with h | h
   ·simp only[Bool.and_eq_true]at hb;subst h;exact⟨0,p,by omega,rfl,hb.1,hb.2⟩
   ·obtain⟨j,p',h1,h2,h3⟩:=zDf h;exact⟨j+1,p',by omega,by simpa using h2,h3⟩
theorem zKn{m:Nat}{ld vl:List Nat}:∀{hd:List Oper}{l:List Nat}{l2:List Oper}{i:Nat},aQ ops m ld vl hd l l2 i=true→∀(j k:Nat)(o:Oper),l[j]?=some k→l2[j]?=some o→∀q,q<i+j→k.testBit q=true∨∃p,(hd++l2.take j)[q]?=some p∧xP m ld vl q p=true∧bF ops o p=true
 | _,[],_,_,_,j,k,o,h,_=>by simp at h
 | _,_::_,[],_,_,j,k,o,_,h=>by simp at h
 | hd,k1::l,o1::l2,i,h,j,k,o,hk,ho=>by
  simp only[aQ,Bool.and_eq_true]at h;cases j with
  | zero=>
   simp at ho hk;subst ho;subst hk;intro q hq;have hq:q<i:=by simpa using hq
   have h1:=h.1;cases hb:Nat.beq k1 (Nat.sub (Nat.pow 2 i) 1)with
   | true=>
    have e:k1=2^i-1:=zY hb;left;rw[e,Nat.testBit_two_pow_sub_one];simpa using hq
   | false=>
    simp only[hb,cond_false]at h1;have e:k1||| zAs ops m ld vl o1 hd 0=2^i-1:=zY h1
    have:(k1||| zAs ops m ld vl o1 hd 0).testBit q=true:=by rw[e,Nat.testBit_two_pow_sub_one];simpa using hq
    rw[Nat.testBit_or,Bool.or_eq_true]at this;rcases this with h2 | h2
    ·exact .inl h2
    ·obtain⟨j,p,h3,h4⟩:=zDf h2;obtain rfl:q=j:=by omega
     exact .inr ⟨p,by simpa using h4.1,h4.2⟩
  | succ j=>
   rw[show i+(j+1)=i+1+j by omega]
   intro q hq;have:=zKn h.2 j k o (by simpa using hk) (by simpa using ho) q hq
   simpa using this
theorem zJx:∀(l:List Oper)(acc:List Nat),(wP l acc).length=acc.length+l.length
 | [],acc=>rfl
 | o::l,acc=>by unfold wP;rw[zJx l,List.length_append,List.length_singleton,List.length_cons];omega
theorem zNj{ld vl:List Nat}{l:List Oper}{m:Nat}(h:aQ ops m ld vl (l.take m) ((wP l []).drop m) (l.drop m) m=true)(j:Nat)(o:Oper)(hm:m≤j)(ho:l[j]?=some o)(q:Nat)(hq:q<j):
  (∀S:Nat→Prop,zIn l S→(∀e∈o.after,Region.binds .any e=true→S e.on)→S q)∨∃p,l[q]?=some p∧xP m ld vl q p=true∧bF ops o p=true:=by
 have hjl:=(List.getElem?_eq_some_iff.1 ho).1;have hl:j<(wP l []).length:=by rw[zJx];simpa using hjl
 rcases zKn h (j-m) ((wP l [])[j]) o (by rw[List.getElem?_drop,show m+(j-m)=j by omega];simp[hl]) (by rw[List.getElem?_drop,show m+(j-m)=j by omega];exact ho) q (by omega)with h1 | ⟨p,h1,h2⟩
 ·exact .inl fun S hS hp=>zPq l [] (by simp) (fun j k o h=>by simp at h) j ((wP l [])[j]) o (by simp[hl]) ho q h1 S hS hp
 ·rw[←List.take_add,List.getElem?_take]at h1;split at h1
  ·exact .inr ⟨p,h1,h2⟩
  ·cases h1
theorem zNw{o:Oper}:∀{l:List Oper},qAq o l=true→∀p∈l,(yG p||cB p)=true→wfr o p=true
 | [],_,p,hp,_=>by cases hp
 | q::l,h,p,hp,hl=>by
  simp only[qAq,Bool.and_eq_true]at h;rcases List.mem_cons.1 hp with rfl | hp
  ·have:=h.1;rwa[hl,cond_true]at this
  ·exact zNw h.2 p hp hl
theorem qHm:∀{l pre:List Oper}{j q:Nat},inN q (vlE pre l j)=true→∃(k:Nat)(o:Oper),q=j+k∧l[k]?=some o∧yG o=true∧slf o=true∧∀p∈pre++l.take k,(yG p||cB p)=true→wfr o p=true
 | [],pre,j,q,h=>by cases h
 | o::l,pre,j,q,h=>by
  have next:inN q (vlE (pre++[o]) l (j+1))=true→∃(k:Nat)(o':Oper),q=j+k∧(o::l)[k]?=some o'∧yG o'=true∧slf o'=true∧∀p∈pre++(o::l).take k,(yG p||cB p)=true→wfr o' p=true:=fun h=>by
   obtain⟨k,o',h1,h2,h3,h4,h5⟩:=qHm h;exact⟨k+1,o',by omega,by simpa using h2,h3,h4,fun p hp=>h5 p (by simpa using hp)⟩
  unfold vlE at h;cases hb:yG o&&(slf o&&qAq o pre)with
  | false=>simp only[hb,cond_false]at h;exact next h
  | true=>
   simp only[hb,cond_true,inN,Bool.or_eq_true]at h;simp only[Bool.and_eq_true]at hb;rcases h with h | h
   ·exact⟨0,o,by rw[←zY h];rfl,rfl,hb.1,hb.2.1,fun p hp hl=>zNw hb.2.2 p (by simpa using hp) hl⟩
   ·exact next h
theorem qMy{m i:Nat}{o:Oper}(h:inN i (vlR ops m)=true)(ho:ops[i]?=some o):yG o=true∧slf o=true∧∀(q:Nat)(p:Oper),q<i→ops[q]?=some p→(yG p||cB p)=true→wfr o p=true:=by
 obtain⟨k,o',h1,h2,h3,h4,h5⟩:=qHm h;rw[List.getElem?_drop,←h1]at h2;have:ops.toList[i]?=some o:=by simpa using ho
 rw[this]at h2;cases h2;refine⟨h3,h4,fun q p hq hp hl=>h5 p ?_ hl⟩;rw[←List.take_add,←h1];have hp':ops.toList[q]?=some p:=by simpa using hp
 exact List.mem_of_getElem? (by rw[List.getElem?_take,if_pos hq];exact hp')
theorem zVp{d:Nat}{x:Operand}(h:gP d x=true){t:Nat}(e:x= .tmp t):t≠d:=by
 subst e;intro e;subst e;simp[gP]at h
theorem zRh{o p:Oper}(h:wfr o p=true):∀x,o.dst=some x→(∀d,p.dst=some d→x≠d)∧∀t,Operand.tmp t∈p.op.operands→t≠x:=by
 intro x hx;unfold wfr at h;rw[hx]at h;simp only[Bool.and_eq_true]at h;refine⟨fun d hd e=>?_,fun t ht=>zVp (List.all_eq_true.1 h.2 _ (by simpa using ht)) rfl⟩
 have h1:=h.1;rw[hd]at h1;subst e;simp at h1
theorem zQz{o:Oper}(h:slf o=true):∀x,o.dst=some x→∀t,Operand.tmp t∈o.op.operands→t≠x:=by
 intro x hx t ht;unfold slf at h;rw[hx]at h;exact zVp (List.all_eq_true.1 h _ (by simpa using ht)) rfl
theorem zAf:∀{l:List Oper}{i:Nat},zGa l i=true→∀(j:Nat)(o:Oper),l[j]?=some o→∀e∈o.after,Region.binds .any e=true→e.on<i+j
 | [],_,_,j,o,h=>by simp at h
 | o1::l,i,h,j,o,ho=>by
  simp only[zGa,Bool.and_eq_true]at h;cases j with
  | zero=>
   simp at ho;subst ho;intro e he hb;have:=List.all_eq_true.1 h.1 e (by simpa using he)
   rw[hb]at this;simpa[Nat.blt_eq]using this
  | succ j=>rw[show i+(j+1)=i+1+j by omega];exact zAf h.2 j o (by simpa using ho)
theorem zKo:∀l:List T,jT l.length l=some l
 | []=>rfl
 | x::l=>by simp[jT,zKo l]
theorem zMa:∀(l:List Oper)(rs:List (T×Option TO))(L:List T)(i:Nat)(o:Oper)(z:T×Option TO),l[i]?=some o→rs[i]?=some z→(ksE l rs L)[i]?=some (match z.2 with | some _=>sU (kJ l (rs.take i) L) o.op | none=>none)
 | [],_,_,_,_,_,h,_=>by simp at h
 | _::_,[],_,_,_,_,_,h=>by simp at h
 | o1::l,z1::rs,L,0,o,z,h1,h2=>by simp at h1 h2;subst h1;subst h2;rfl
 | o1::l,z1::rs,L,i+1,o,z,h1,h2=>by
  simp only[ksE,List.take_succ_cons,kJ];exact zMa l rs _ i o z (by simpa using h1) (by simpa using h2)
theorem qDt:∀(l:List Oper)(rs:List (T×Option TO))(L:List T),(ksE l rs L).length≤rs.length
 | [],_,_=>by simp[ksE]
 | _::_,[],_=>by simp[ksE]
 | o::l,z::rs,L=>by simp only[ksE,List.length_cons];have:=qDt l rs (dst o.dst z.1 L);omega
theorem zGg{q:Nat}:∀{ks:List (Option Nat)},zIo q ks=true↔some q∈ks
 | []=>by simp[zIo]
 | some k::ks=>by
  simp only[zIo,Bool.or_eq_true,List.mem_cons,Option.some.injEq,zGg];exact or_congr ⟨fun h=>(zY h).symm,fun h=>by subst h;simp⟩ Iff.rfl
 | none::ks=>by simp[zIo,zGg]
theorem dJ{H:List TO}:∀{ks:List (Option Nat)},zLz H ks=true→(∀q,some q∈ks→nth .gone H q= .gone)∧∀(i j q:Nat),ks[i]?=some (some q)→ks[j]?=some (some q)→i=j
 | [],_=>⟨fun q h=>(nomatch h),fun i j q h=>(by simp at h)⟩
 | none::ks,h=>by
  obtain⟨h1,h2⟩:=dJ (ks:=ks) (by simpa[zLz]using h)
  refine⟨fun q hq=>h1 q (by simpa using hq),fun i j q hi hj=>?_⟩
  cases i with
  | zero=>simp at hi
  | succ i=>cases j with
   | zero=>simp at hj
   | succ j=>rw[h2 i j q (by simpa using hi) (by simpa using hj)]
 | some k::ks,h=>by
  simp only[zLz,Bool.and_eq_true,Bool.not_eq_true']at h;obtain⟨h1,h2⟩:=dJ (ks:=ks) h.2.2;have hn:∀q,q=k→some q∉ks:=fun q e hm=>by
   subst e;have:=h.1;rw[zGg.2 hm]at this;cases this
  refine⟨fun q hq=>?_,fun i j q hi hj=>?_⟩
  ·rcases List.mem_cons.1 hq with e | hq
   ·cases e;have:=h.2.1;cases hg:nth .gone H k<;>rw[hg]at this<;>first | rfl | (simp[qDj]at this)
   ·exact h1 q hq
  ·cases i with
   | zero=>
    simp at hi;cases j with
    | zero=>rfl
    | succ j=>exact absurd (List.mem_of_getElem? (by simpa using hj:ks[j]?=some (some q))) (hn q hi.symm)
   | succ i=>cases j with
    | zero=>simp at hj;exact absurd (List.mem_of_getElem? (by simpa using hi:ks[i]?=some (some q))) (hn q hj.symm)
    | succ j=>rw[h2 i j q (by simpa using hi) (by simpa using hj)]
theorem nU:∀(ks:List (Option Nat))(H:List TO)(q:Nat),(xO ks H)[q]?=if some q∈ks then H[q]?.map (fun _=>TO.gone)else H[q]?
 | [],H,q=>by simp[xO]
 | none::ks,H,q=>by simp[xO,nU ks H q]
 | some k::ks,H,q=>by
  simp only[xO];rw[nU ks,yP];by_cases e:k=q
  ·subst e;by_cases hq:k<H.length
   ·simp[hq]
   ·have:H[k]?=none:=List.getElem?_eq_none (by omega)
    simp[this,List.getElem?_set,hq]
  ·rw[List.getElem?_set_ne e];have:(some q∈some k::ks)↔some q∈ks:=by
    simp only[List.mem_cons,Option.some.injEq];exact⟨fun h=>h.resolve_left (fun e'=>e e'.symm),.inr⟩
   by_cases hm:some q∈ks
   ·rw[if_pos hm,if_pos (this.2 hm)]
   ·rw[if_neg hm,if_neg (fun h=>hm (this.1 h))]
theorem zJq(ks:List (Option Nat)):∀H:List TO,(xO ks H).length=H.length:=by
 induction ks with
 | nil=>intro H;rfl
 | cons k ks ih=>
  intro H;cases k with
  | none=>simpa[xO]using ih H
  | some q=>simp only[xO];rw[ih,yP];simp
end
section
variable {P:Program}{E:Nat→Prop}{w0:World}{X:Hid}{F:List Nat}{H:List TO}{B B' B0:Bm}{w w':World}{Y Y':Hid}{Mo:List (Nat×Obj)}{o:Oper}{r r' r0:Rd}{n:Nat}{a:Act}{L:List T}{D:List Deferred}{Q:Exit→Act→World→Prop}{K:Act→World→Prop}{po:Po}{ops:Array Oper}{rn:Rn}{cl yd:Cl}{rr:Option Nat}{O:Po}{rs:List (T×Option TO)}{l:Array Bool}
theorem Wd.fill(h:Wd P E w0 X F H B w Y Mo){i g C:Nat}{o:TO}{ob:Obj}(hi:H[i]?=some .gone)(hBi:B i=none)(hl:vB o=true)(hR:RO P B (rd w Y) C o ob)(hg:g=w.heap.size):
  Wd P E w0 X F (H.set i o) (sK B i (g,C)) (w.alloc ob) (zAo w.heap.size Y) ((g,ob)::Mo)∧BLe B (sK B i (g,C)):=by
 subst hg;have hS:=h.st.alloc ob;have hle:Le (rd w Y) (rd (w.alloc ob) (zAo w.heap.size Y)):=Le.hide_new ob;have hB:BLe B (sK B i (w.heap.size,C)):=BLe.set hBi;have hlt:i<H.length:=(List.getElem?_eq_some_iff.1 hi).1;have hgm:∀p∈Mo,p.1≠w.heap.size:=fun p hp e=>by
  have:=(Array.getElem?_eq_some_iff.1 (h.st.own p (List.mem_append_left _ hp)).1).1;omega
 have hget:∀(j:Nat)(x:TO),(H.set i o)[j]?=some x→(j≠i∧H[j]?=some x)∨(j=i∧x=o):=fun j x hx=>by
  by_cases e:i=j
  ·subst e;rw[List.getElem?_set_self hlt]at hx;cases hx;exact .inr ⟨rfl,rfl⟩
  ·rw[List.getElem?_set_ne e]at hx;exact .inl ⟨fun e'=>e e'.symm,hx⟩
 refine⟨⟨hS,fun j x hx hlx=>?_,fun j cs hx=>?_,fun j hj=>?_,fun j1 j2 o1 o2 p q h1 l1 h2 l2 hp hq e=>?_,h.bN,h.iv⟩,hB⟩
 ·rcases hget j x hx with⟨_,hx⟩ | ⟨rfl,rfl⟩
  ·obtain⟨b,C',ob',g1,g2,g3⟩:=h.ob j x hx hlx;exact⟨b,C',ob',hB _ _ g1,List.mem_cons_of_mem _ g2,g3.mono hB hle⟩
  ·exact⟨_,C,ob,qJ _ _ _,List.mem_cons_self,hR.mono hB hle⟩
 ·rcases hget j _ hx with⟨_,hx⟩ | ⟨rfl,e⟩
  ·obtain⟨b,C',g1,g2⟩:=h.fz j cs hx;exact⟨b,C',hB _ _ g1,g2.mono hB hle⟩
  ·subst e;cases hl
 ·simp at hj;rw[jX _ _ (by omega)]
  exact h.nn j hj
 ·have own:∀(i:Nat)(x:TO)(p:Nat×Nat),H[i]?=some x→vB x=true→B i=some p→p.1≠w.heap.size:=fun i x p hx hl hp=>by
   obtain⟨b,C',ob',h1,h2,_⟩:=h.ob i x hx hl;rw[hp]at h1;cases h1;exact hgm _ h2
  rcases hget j1 _ h1 with⟨n1,k1⟩ | ⟨rfl,rfl⟩<;>rcases hget j2 _ h2 with⟨n2,k2⟩ | ⟨rfl,rfl⟩
  ·rw[jX _ _ n1]at hp;rw[jX _ _ n2]at hq;exact h.inj _ _ _ _ _ _ k1 l1 k2 l2 hp hq e
  ·rw[jX _ _ n1]at hp;rw[qJ]at hq;cases hq;exact absurd e (own _ _ p k1 l1 hp)
  ·rw[jX _ _ n2]at hq;rw[qJ]at hp;cases hp;exact absurd e.symm (own _ _ q k2 l2 hq)
  ·rfl
def jD(l:Array Bool):Nat→List (T×Option TO)→List TO
 | _,[]=>[]
 | j,(_,some ob)::rs=>(if l.getD j false=true then ob else .gone)::jD l (j+1) rs
 | j,(_,none)::rs=>jD l (j+1) rs
noncomputable def pos(rs:List (T×Option TO))(i:Nat):Nat:=(qD (rs.take i)).length
theorem zDk(l:Array Bool):∀(j:Nat)(rs:List (T×Option TO)),(jD l j rs).length=(qD rs).length
 | _,[]=>rfl
 | j,(_,some ob)::rs=>by simp[jD,qD,zDk l (j+1) rs]
 | j,(_,none)::rs=>by simp[jD,qD,zDk l (j+1) rs]
theorem wC{t:T}{ob:Option TO}{rs:List (T×Option TO)}{i:Nat}:pos ((t,ob)::rs) (i+1)=(match ob with | some _=>1 | none=>0)+pos rs i:=by
 cases ob<;>simp[pos,qD]<;>omega
theorem dQ(l:Array Bool):∀(rs:List (T×Option TO))(j i:Nat)(t:T)(ob:TO),rs[i]?=some (t,some ob)→(jD l j rs)[pos rs i]?=some (if l.getD (j+i) false=true then ob else .gone)
 | [],_,_,_,_,h=>by simp at h
 | (t1,some ob1)::rs,j,0,t,ob,h=>by simp at h;obtain⟨_,rfl⟩:=h;simp[jD,pos,qD]
 | (t1,none)::rs,j,0,t,ob,h=>by simp at h
 | (t1,some ob1)::rs,j,i+1,t,ob,h=>by
  rw[wC,show j+(i+1)=j+1+i by omega,←dQ l rs (j+1) i t ob (by simpa using h)]
  simp only[jD];rw[Nat.add_comm 1,List.getElem?_cons_succ]
 | (t1,none)::rs,j,i+1,t,ob,h=>by
  rw[wC,show j+(i+1)=j+1+i by omega,←dQ l rs (j+1) i t ob (by simpa using h)]
  simp[jD]
theorem dS(l:Array Bool){x:Nat}:∀(rs:List (T×Option TO))(j:Nat),(x<j∨j+rs.length≤x)→jD (l.setIfInBounds x true) j rs=jD l j rs
 | [],_,_=>rfl
 | (t,some ob)::rs,j,h=>by
  simp only[jD];rw[dS l rs (j+1) (by simp at h;omega),getD_set_ne false (by simp at h;omega)]
 | (t,none)::rs,j,h=>by
  simp only[jD];rw[dS l rs (j+1) (by simp at h;omega)]
theorem aI(l:Array Bool):∀(rs:List (T×Option TO))(j i:Nat)(t:T),rs[i]?=some (t,none)→jD (l.setIfInBounds (j+i) true) j rs=jD l j rs
 | [],_,_,_,h=>by simp at h
 | (t1,some ob1)::rs,j,0,t,h=>by simp at h
 | (t1,none)::rs,j,0,t,h=>by simp only[jD];exact dS l rs (j+1) (.inl (by omega))
 | (t1,some ob1)::rs,j,i+1,t,h=>by
  simp only[jD];rw[getD_set_ne false (by omega),show j+(i+1)=j+1+i by omega,aI l rs (j+1) i t (by simpa using h)]
 | (t1,none)::rs,j,i+1,t,h=>by
  simp only[jD];rw[show j+(i+1)=j+1+i by omega,aI l rs (j+1) i t (by simpa using h)]
theorem dU(l:Array Bool):∀(rs:List (T×Option TO))(j i:Nat)(t:T)(ob:TO),rs[i]?=some (t,some ob)→j+i<l.size→jD (l.setIfInBounds (j+i) true) j rs=(jD l j rs).set (pos rs i) ob
 | [],_,_,_,_,h,_=>by simp at h
 | (t1,some ob1)::rs,j,0,t,ob,h,hl=>by
  simp at h;obtain⟨_,rfl⟩:=h;simp only[jD];rw[dS l rs (j+1) (.inl (by omega))]
  have:(l.setIfInBounds (j+0) true).getD j false=true:=by simp at hl;simp[hl]
  rw[this];simp[pos,qD]
 | (t1,none)::rs,j,0,t,ob,h,_=>by simp at h
 | (t1,some ob1)::rs,j,i+1,t,ob,h,hl=>by
  rw[wC,Nat.add_comm 1];simp only[jD,List.set_cons_succ];rw[getD_set_ne false (by omega),show j+(i+1)=j+1+i by omega,dU l rs (j+1) i t ob (by simpa using h) (by omega)]
 | (t1,none)::rs,j,i+1,t,ob,h,hl=>by
  rw[wC,Nat.zero_add];simp only[jD];rw[show j+(i+1)=j+1+i by omega,dU l rs (j+1) i t ob (by simpa using h) (by omega)]
theorem zDj(l:Array Bool):∀(rs:List (T×Option TO))(j:Nat),(∀(i:Nat)(t:T)(ob:TO),rs[i]?=some (t,some ob)→l.getD (j+i) false=true)→jD l j rs=qD rs
 | [],_,_=>rfl
 | (t,some ob)::rs,j,h=>by
  simp only[jD,qD];rw[zDj l rs (j+1) (fun i t ob hi=>by rw[show j+1+i=j+(i+1)by omega];exact h (i+1) t ob (by simpa using hi)),show l.getD j false=true from h 0 t ob (by simp)]
  simp
 | (t,none)::rs,j,h=>by
  simp only[jD,qD];exact zDj l rs (j+1) (fun i t ob hi=>by rw[show j+1+i=j+(i+1)by omega];exact h (i+1) t ob (by simpa using hi))
theorem zDl(l:Array Bool):∀(rs:List (T×Option TO))(j i:Nat)(x:TO),(∀i,i<rs.length→l.getD (j+i) false=false)→(jD l j rs)[i]?=some x→x= .gone
 | [],_,_,_,_,h=>by simp[jD]at h
 | (t,some ob)::rs,j,i,x,hl,h=>by
  simp only[jD]at h;have h0:=hl 0 (by simp)
  rw[Nat.add_zero]at h0;rw[h0]at h;cases i with
  | zero=>simp at h;exact h.symm
  | succ i=>exact zDl l rs (j+1) i x (fun i hi=>by rw[show j+1+i=j+(i+1)by omega];exact hl (i+1) (by simpa using hi)) (by simpa using h)
 | (t,none)::rs,j,i,x,hl,h=>zDl l rs (j+1) i x (fun i hi=>by rw[show j+1+i=j+(i+1)by omega];exact hl (i+1) (by simpa using hi)) (by simpa[jD]using h)
theorem zDm:∀(rs:List (T×Option TO))(i q:Nat)(x:TO),(qD (rs.take i))[q]?=some x→∃j t,j<i∧rs[j]?=some (t,some x)∧pos rs j=q
 | [],_,_,_,h=>by simp[qD]at h
 | _::_,0,_,_,h=>by simp[qD]at h
 | (t,some ob)::rs,i+1,0,x,h=>by simp[qD]at h;subst h;exact⟨0,t,by omega,rfl,by simp[pos,qD]⟩
 | (t,some ob)::rs,i+1,q+1,x,h=>by
  obtain⟨j,t',h1,h2,h3⟩:=zDm rs i q x (by simpa[qD]using h)
  exact⟨j+1,t',by omega,by simpa using h2,by rw[wC,h3];simp;omega⟩
 | (t,none)::rs,i+1,q,x,h=>by
  obtain⟨j,t',h1,h2,h3⟩:=zDm rs i q x (by simpa[qD]using h)
  exact⟨j+1,t',by omega,by simpa using h2,by rw[wC,h3];simp⟩
theorem zTj:∀(rs:List (T×Option TO))(i j:Nat)(t:T)(ob:TO),rs[i]?=some (t,some ob)→i<j→pos rs i<pos rs j
 | [],_,_,_,_,h,_=>by simp at h
 | _::_,_,0,_,_,_,h=>by omega
 | (t1,some ob1)::rs,0,j+1,t,ob,h,_=>by rw[wC];simp[pos,qD];omega
 | (t1,none)::rs,0,j+1,t,ob,h,_=>by simp at h
 | (t1,ob1)::rs,i+1,j+1,t,ob,h,hij=>by
  rw[wC,wC];have:=zTj rs i j t ob (by simpa using h) (by omega)
  omega
theorem Wd.moveTo(h:Wd P E w0 X F H B w Y Mo){i j:Nat}{x:TO}{p:Nat×Nat}(hi:H[i]?=some x)(hl:vB x=true)(hp:B i=some p)(hj:H[j]?=some .gone)(hBj:B j=none):Wd P E w0 X F ((H.set i .gone).set j x) (sK B j p) w Y Mo∧BLe B (sK B j p):=by
 have hB:BLe B (sK B j p):=BLe.set hBj;have hij:i≠j:=fun e=>by subst e;rw[hi]at hj;cases hj;cases hl
 have hjl:j<(H.set i TO.gone).length:=by simpa using(List.getElem?_eq_some_iff.1 hj).1
 have hil:i<H.length:=(List.getElem?_eq_some_iff.1 hi).1;have ng:∀{y:TO},vB y=true→y≠.gone:=fun h e=>by subst e;cases h
 have hget:∀(k:Nat)(y:TO),((H.set i .gone).set j x)[k]?=some y→y≠.gone→(H[k]?=some y∧k≠j∧k≠i)∨(k=j∧y=x):=fun k y hy hne=>by
  by_cases e:j=k
  ·subst e;rw[List.getElem?_set_self hjl]at hy;cases hy;exact .inr ⟨rfl,rfl⟩
  ·rw[List.getElem?_set_ne e]at hy;by_cases e2:i=k
   ·subst e2;rw[List.getElem?_set_self hil]at hy;cases hy;exact absurd rfl hne
   ·rw[List.getElem?_set_ne e2]at hy;exact .inl ⟨hy,fun e'=>e e'.symm,fun e'=>e2 e'.symm⟩
 refine⟨⟨h.st,fun k y hy hly=>?_,fun k cs hy=>?_,fun k hk=>?_,fun k1 k2 o1 o2 p1 p2 h1 l1 h2 l2 hp1 hp2 e=>?_,h.bN,h.iv⟩,hB⟩
 ·rcases hget k y hy (ng hly)with⟨hy,_,_⟩ | ⟨rfl,rfl⟩
  ·obtain⟨b,C,ob,g1,g2,g3⟩:=h.ob k y hy hly;exact⟨b,C,ob,hB _ _ g1,g2,g3.mono hB (Le.refl _)⟩
  ·obtain⟨b,C,ob,g1,g2,g3⟩:=h.ob i _ hi hl;rw[hp]at g1;cases g1;exact⟨b,C,ob,qJ _ _ _,g2,g3.mono hB (Le.refl _)⟩
 ·rcases hget k _ hy (by simp)with⟨hy,_,_⟩ | ⟨rfl,e⟩
  ·obtain⟨b,C,g1,g2⟩:=h.fz k cs hy;exact⟨b,C,hB _ _ g1,g2.mono hB (Le.refl _)⟩
  ·subst e;cases hl
 ·simp at hk hjl;rw[jX _ _ (by omega)]
  exact h.nn k hk
 ·rcases hget k1 _ h1 (ng l1)with⟨q1,n1,m1⟩ | ⟨rfl,rfl⟩<;>rcases hget k2 _ h2 (ng l2)with⟨q2,n2,m2⟩ | ⟨rfl,rfl⟩
  ·rw[jX _ _ n1]at hp1;rw[jX _ _ n2]at hp2;exact h.inj _ _ _ _ _ _ q1 l1 q2 l2 hp1 hp2 e
  ·rw[jX _ _ n1]at hp1;rw[qJ]at hp2;cases hp2;exact absurd (h.inj _ _ _ _ _ _ q1 l1 hi hl hp1 hp e) m1
  ·rw[jX _ _ n2]at hp2;rw[qJ]at hp1;cases hp1;exact absurd (h.inj _ _ _ _ _ _ q2 l2 hi hl hp2 hp e.symm) m2
  ·rfl
def kY(l:Array Bool)(ks:List (Option Nat))(q:Nat):Bool:=(List.range ks.length).any fun i=>ks[i]?==some (some q)&&l.getD i false
def vG(l:Array Bool)(ks:List (Option Nat))(H:List TO):List TO:=H.mapIdx fun q x=>if kY l ks q=true then .gone else x
theorem yU{l:Array Bool}{ks:List (Option Nat)}{q:Nat}:kY l ks q=true↔∃i,ks[i]?=some (some q)∧l.getD i false=true:=by
 unfold kY;rw[List.any_eq_true];constructor
 ·rintro⟨i,_,h⟩;simp only[Bool.and_eq_true,beq_iff_eq]at h;exact⟨i,h⟩
 ·rintro⟨i,h1,h2⟩;refine⟨i,List.mem_range.2 (List.getElem?_eq_some_iff.1 h1).1,?_⟩;simp[h1,h2]
theorem yF(l:Array Bool)(ks:List (Option Nat))(H:List TO):(vG l ks H).length=H.length:=by simp[vG]
theorem tF(l:Array Bool)(ks:List (Option Nat))(H:List TO)(q:Nat):(vG l ks H)[q]?=H[q]?.map fun x=>if kY l ks q=true then TO.gone else x:=by simp[vG,List.getElem?_mapIdx]
theorem zDe{l:Array Bool}{ks:List (Option Nat)}{H:List TO}{i:Nat}(h:∀q,ks[i]?≠some (some q)):vG (l.setIfInBounds i true) ks H=vG l ks H:=by
 refine List.ext_getElem? fun q=>?_;rw[tF,tF];have:kY (l.setIfInBounds i true) ks q=kY l ks q:=by
  rw[Bool.eq_iff_iff,yU,yU];constructor<;>rintro⟨j,h1,h2⟩<;>refine⟨j,h1,?_⟩
  ·rwa[getD_set_ne false (fun e=>by subst e;exact h q h1)]at h2
  ·rwa[getD_set_ne false (fun e=>by subst e;exact h q h1)]
 rw[this]
theorem qDr{l:Array Bool}{ks:List (Option Nat)}{H:List TO}{i k:Nat}(h:ks[i]?=some (some k))(hi:i<l.size):vG (l.setIfInBounds i true) ks H=(vG l ks H).set k .gone:=by
 refine List.ext_getElem? fun q=>?_;rw[tF,List.getElem?_set,yF];by_cases e:k=q
 ·subst e;have:kY (l.setIfInBounds i true) ks k=true:=yU.2 ⟨i,h,by simp[hi]⟩
  simp only[this,if_true];by_cases hq:k<H.length
  ·simp[hq]
  ·have:H[k]?=none:=List.getElem?_eq_none (by omega)
   simp[hq,this]
 ·rw[if_neg e,tF];have:kY (l.setIfInBounds i true) ks q=kY l ks q:=by
   rw[Bool.eq_iff_iff,yU,yU];constructor<;>rintro⟨j,h1,h2⟩<;>refine⟨j,h1,?_⟩
   ·rwa[getD_set_ne false (fun e'=>by subst e';rw[h]at h1;cases h1;exact e rfl)]at h2
   ·rwa[getD_set_ne false (fun e'=>by subst e';rw[h]at h1;cases h1;exact e rfl)]
  rw[this]
theorem zYd{l:Array Bool}{ks:List (Option Nat)}{H:List TO}(h:∀i,i<ks.length→l.getD i false=false):vG l ks H=H:=by
 refine List.ext_getElem? fun q=>?_;rw[tF];have:kY l ks q=false:=by
  cases hk:kY l ks q with
  | false=>rfl
  | true=>
   obtain⟨i,h1,h2⟩:=yU.1 hk;rw[h i (List.getElem?_eq_some_iff.1 h1).1]at h2;cases h2
 simp[this]
theorem qDq{l:Array Bool}{ks:List (Option Nat)}{H:List TO}(h:∀i q,ks[i]?=some (some q)→l.getD i false=true):vG l ks H=xO ks H:=by
 refine List.ext_getElem? fun q=>?_;rw[tF,nU];by_cases hm:some q∈ks
 ·obtain⟨i,hi⟩:=List.getElem?_of_mem hm;have:kY l ks q=true:=yU.2 ⟨i,hi,h i q hi⟩;rw[if_pos hm];simp[this]
 ·have:kY l ks q=false:=by
   cases hk:kY l ks q with
   | false=>rfl
   | true=>
    obtain⟨i,h1,_⟩:=yU.1 hk;exact absurd (List.mem_of_getElem? h1) hm
  rw[if_neg hm];simp[this]
end
theorem kU{l:Array Bool}{i:Nat}(h:i<l.size):(l.setIfInBounds i true).getD i false=true:=by simp[h]
def jBe(l:Array Bool)(j:Nat):Prop:=∀i,l.getD i false=decide (i<j)
theorem zQn{ops:Array Oper}{l:Array Bool}{j:Nat}{o:Oper}(hl:l.size=ops.size)(ho:ops[j]?=some o)(hj:l.getD j false=false)(he:∀e∈o.after,Region.binds .any e=true→l.getD e.on false=true):j∈Region.ready .any ops l:=by
 refine mem_ready.2 ⟨?_,o,ho,he⟩;have:j<l.size:=by rw[hl];exact(Array.getElem?_eq_some_iff.1 ho).1
 simpa[this]using hj
def zNq(l:Array Bool):Nat:=l.toList.countP (fun b=>!b)
theorem zCg{l:Array Bool}{i:Nat}(hi:i<l.size)(h:l.getD i false=false):zNq (l.setIfInBounds i true)+1=zNq l:=by
 have h1:l[i]=false:=by simpa[hi]using h
 have h2:i<l.toList.length:=by simpa using hi
 have h3:l.toList[i]'h2=false:=by simpa using h1
 unfold zNq;rw[Array.toList_setIfInBounds,List.countP_set h2];have h4:0<l.toList.countP (fun b=>!b):=List.countP_pos_iff.2 ⟨_,List.getElem_mem h2,by simp[h3]⟩
 simp only[h3,Bool.not_false,if_true,Bool.not_true,Bool.false_eq_true,if_false];omega
theorem zTw{l:Array Bool}{j:Nat}(h:jBe l j)(hj:j≤l.size):zNq l=l.size-j:=by
 have e:l.toList=List.replicate j true++List.replicate (l.size-j) false:=by
  apply List.ext_getElem?;intro i;rcases Nat.lt_or_ge i l.size with hi | hi
  ·have h1:=h i;have h2:l[i]=decide (i<j):=by simpa[hi]using h1
   rw[Array.getElem?_toList,Array.getElem?_eq_getElem hi,h2];rcases Nat.lt_or_ge i j with hij | hij
   ·rw[List.getElem?_append_left (by simpa using hij)];simp[hij]
   ·rw[List.getElem?_append_right (by simpa using hij),List.length_replicate,List.getElem?_replicate,if_pos (by omega)]
    simp;omega
  ·rw[List.getElem?_eq_none (by simpa using hi),List.getElem?_eq_none (by simp;omega)]
 unfold zNq;rw[e,List.countP_append,List.countP_replicate,List.countP_replicate];simp
section
variable {P:Program}{H:List TO}{k:Nat}{ρ ρ':Operand→T}{L L2:List T}{cl yd:Cl}{d:Option Nat}{ops:Array Oper}
theorem zSe(op:Op)(h:∀x∈op.operands,ρ x=ρ' x):zAg P H ρ op=zAg P H ρ' op:=by
 cases op with
 | call c=>
  simp only[zAg];split
  ·rename_i x y t t' e1 e2 e3;have hm:∀z,z∈c.args.toList→z∈(Op.call c).operands:=fun z hz=>by
    simp only[Op.operands,Call.operands,Array.mem_append];right;simpa using hz
   rw[h x (hm x (by rw[e2];simp)),h y (hm y (by rw[e2];simp))]
  ·rename_i x y t t' e1 e2 e3;have hm:∀z,z∈c.args.toList→z∈(Op.call c).operands:=fun z hz=>by
    simp only[Op.operands,Call.operands,Array.mem_append];right;simpa using hz
   rw[h x (hm x (by rw[e2];simp)),h y (hm y (by rw[e2];simp))]
  ·rfl
 | _=>simp only[zAg]<;>simp_all [Op.operands]
def Par(d:Option Nat)(L L2:List T):Option S→Option S→Prop
 | none,none=>True
 | some s,some s2=>∃t,s.L=dst d t L∧s2.L=dst d t L2∧s.H=s2.H
 | _,_=>False
theorem qCq(r:T×Option TO):Par d L L2 (zOt d L H r) (zOt d L2 H r):=by
 obtain⟨t,ob⟩:=r;cases ob<;>exact⟨t,rfl,rfl,rfl⟩
theorem qCr(r:Option T×List TO):Par d L L2 (zOu d L r) (zOu d L2 r):=by
 obtain⟨t,H'⟩:=r;cases t with
 | some t=>exact⟨t,rfl,rfl,rfl⟩
 | none=>cases d with
  | none=>exact⟨.u,rfl,rfl,rfl⟩
  | some d=>trivial
theorem zGd(r:Option (T×List TO)):Par d L L2 (zAi d L r) (zAi d L2 r):=by
 cases r with
 | none=>trivial
 | some r=>exact⟨r.1,rfl,rfl,rfl⟩
theorem zXn(az:List T)(t:T):Par d L L2 (zEe P cl yd d L H az t) (zEe P cl yd d L2 H az t):=by
 cases t with
 | fn f cs=>
  simp only[zEe];cases jO P f with
  | true=>exact zGd _
  | false=>trivial
 | fb f bs=>
  simp only[zEe];cases jO P f with
  | true=>exact zGd _
  | false=>trivial
 | yl l=>exact zGd _
 | _=>trivial
theorem qLd(op:Op)(h:∀x∈op.operands,evO L x=evO L2 x):Par d L L2 (opC P cl yd d L H op) (opC P cl yd d L2 H op):=by
 cases op with
 | call c=>
  simp only[opC];split
  ·rename_i f e;rw[zDg (l:=c.args.toList) (ρ:=evO L) (ρ':=evO L2) (fun x hx=>h x (by simp only[Op.operands,Call.operands,Array.mem_append];right;simpa using hx)),h f (by simp[Op.operands,Call.operands,e])]
   exact zXn _ _
  ·trivial
 | _=>trivial
theorem qLf(o:Oper)(h:∀x∈o.op.operands,evO L x=evO L2 x)(hg:∀j b p t,o.guard=some (j,b)→ops[j]?=some p→p.dst=some t→nth .u L t=nth .u L2 t):Par o.dst L L2 (opE P cl yd ops o ⟨L,H⟩) (opE P cl yd ops o ⟨L2,H⟩):=by
 have hw:kT ops L o=kT ops L2 o:=by
  unfold kT;cases hgd:o.guard with
  | none=>rfl
  | some jb=>
   obtain⟨j,b⟩:=jb;cases hj:ops[j]? with
   | none=>simp only[hj]
   | some p=>
    cases hd:p.dst with
    | none=>simp only[hj,hd]
    | some t=>simp only[hj,hd,hg j b p t hgd hj hd]
 unfold opE;simp only[hw];cases kT ops L2 o with
 | none=>trivial
 | some q=>cases q with
  | false=>exact⟨_,rfl,rfl,rfl⟩
  | true=>
   simp only[gT,lF o.op h];cases xB P H (ln H) (evO L2) o.op with
   | some r=>exact qCq r
   | none=>
    simp only[zPx,zSe o.op h];cases zAg P H (evO L2) o.op with
    | some r=>exact qCr r
    | none=>
     have hc:=qLd (P:=P) (cl:=cl) (yd:=yd) (d:=o.dst) (H:=H) o.op h;revert hc;cases opC P cl yd o.dst L H o.op with
     | some x=>cases opC P cl yd o.dst L2 H o.op with
      | some y=>exact fun hc=>hc
      | none=>exact fun hc=>hc.elim
     | none=>cases opC P cl yd o.dst L2 H o.op with
      | some y=>exact fun hc=>hc.elim
      | none=>
       intro _;simp only[qEz,aH o h];cases zBl P (evO L2) o with
       | none=>trivial
       | some t=>exact⟨t,rfl,rfl,rfl⟩
def lK(P:Program)(L:List T)(p:Oper)(v:T):Prop:=(∀H k,xB P H k (evO L) p.op=some (v,none))∨((∀H k,xB P H k (evO L) p.op=none)∧zBl P (evO L) p=some v)
theorem gL{p:Oper}(h:yG p=true):p.guard=none:=by
 unfold yG at h;simp only[Bool.and_eq_true]at h;cases hg:p.guard with
 | none=>rfl
 | some x=>rw[hg]at h;cases h.1
theorem vZ{p:Oper}(h:yG p=true):(∃c,p.op= .call c∧(c.callee= .builtin .min∨c.callee= .builtin .max))∨(match p.op with | .move _ | .assign _ | .pick .. | .nilCheck _ | .binOp .. | .unOp .. | .convert .. | .slice .. | .fieldAddr .. | .field .. | .indexAddr .. | .index .. | .extract .. =>True | _=>False):=by
 unfold yG at h;simp only[Bool.and_eq_true]at h;have h2:=h.2;split at h2<;>first | (rename_i e;rw[e];exact .inr trivial) | cases h2 | skip
 rename_i c e;refine .inl ⟨c,e,?_⟩;unfold mmC at h2;split at h2
 ·exact .inl ‹_›
 ·exact .inr ‹_›
 ·cases h2
theorem zVo{c:Call}(hc:c.callee= .builtin .min∨c.callee= .builtin .max):∃r:R1,(∀H,lS P H ρ c=r)∧∀z,r=some z→z.2=none:=by
 have hm:∀f a b(z:T×Option TO),mnT f a b=some z→z.2=none:=fun f a b z h=>by
  unfold mnT at h;split at h
  ·cases h;rfl
  ·cases h
 generalize e1:c.args.toList=l1;generalize e2:c.argTypes.toList=l2;rcases hc with hc | hc<;>rcases l1 with _ | ⟨x,_ | ⟨y,_ | ⟨z,l⟩⟩⟩<;>rcases l2 with _ | ⟨x2,_ | ⟨y2,_ | ⟨z2,l2⟩⟩⟩<;>first
  | (refine⟨none,fun H=>?_,fun z h=>(by cases h)⟩;unfold lS;rw[hc,e1,e2]<;>rfl)
  | (refine⟨mnT true (ρ x) (ρ y),fun H=>?_,hm _ _ _⟩;unfold lS;rw[hc,e1,e2]<;>rfl)
  | (refine⟨mnT false (ρ x) (ρ y),fun H=>?_,hm _ _ _⟩;unfold lS;rw[hc,e1,e2]<;>rfl)
theorem dM{p:Oper}(h:yG p=true)(H H':List TO)(k k':Nat):xB P H k ρ p.op=xB P H' k' ρ p.op:=by
 rcases vZ h with⟨c,e,hc⟩ | this
 ·obtain⟨r,hr,_⟩:=zVo (P:=P) (ρ:=fun y=>dn (ρ y)) hc;rw[e];exact(hr H).trans (hr H').symm
 split at this<;>first | (rename_i e;rw[e];rfl) | exact this.elim
theorem qC{t:T}{z:T×Option TO}(h:val t=some z):z.2=none:=by unfold val at h;cases h;rfl
theorem jCv{t:Option T}{z:T×Option TO}(h:zZk t=some z):z.2=none:=by
 unfold zZk at h;cases t with
 | none=>cases h
 | some t=>cases h;rfl
theorem qCk{op:BinOp}{t:TypeId}{xs ys:List T}{z:T×Option TO}(h:eq3 P op t xs ys=some z):z.2=none:=by
 unfold eq3 at h;split at h
 ·rename_i i a j b k c i' a' j' b' k' c';cases hc:wJ P t (.prod (.int i) (.prod (.int j) (.int k)))&&(!P.eqGuardType P.depth t&&(Nat.beq (kind i) (kind i')&&(Nat.beq (kind j) (kind j')&&Nat.beq (kind k) (kind k'))))with
  | false=>rw[hc]at h;cases h
  | true=>
   rw[hc,cond_true]at h;split at h<;>first | exact qC h | cases h
 ·cases h
theorem zJt{p:Oper}(h:yG p=true){z:T×Option TO}(hz:xB P H k ρ p.op=some z):z.2=none:=by
 rcases vZ h with⟨c,e,hc⟩ | this
 ·obtain⟨r,hr,hn⟩:=zVo (P:=P) (ρ:=fun y=>dn (ρ y)) hc;rw[e]at hz;exact hn z ((hr H).symm.trans hz)
 split at this;all_goals try exact this.elim
 all_goals rename_i e;rw[e]at hz;simp only[xB]at hz
 all_goals try exact qC hz
 all_goals try cases hz
 all_goals first | unfold zKg at hz | unfold qLv at hz | unfold zYw at hz | unfold pQ wU at hz | unfold lD at hz | unfold zMq at hz | unfold tL at hz | unfold qLs at hz | unfold zBq at hz
 all_goals repeat' split at hz
 all_goals try unfold zGx at hz
 all_goals repeat' split at hz
 all_goals try simp only[Bool.cond_eq_ite]at hz
 all_goals repeat' split at hz
 all_goals first | exact qC hz | exact jCv hz | exact qCk hz | (cases hz;done) | (cases hz;rfl) | skip
theorem zJs{p:Oper}(h:yG p=true):zAg P H ρ p.op=none:=by
 rcases vZ h with⟨c,e,hc⟩ | this
 ·rw[e];rcases hc with hc | hc<;>simp[zAg,hc]
 split at this<;>first | (rename_i e;rw[e];rfl) | exact this.elim
theorem zPk{p:Oper}(h:yG p=true):opC P cl yd d L H p.op=none:=by
 rcases vZ h with⟨c,e,hc⟩ | this
 ·rw[e];rcases hc with hc | hc<;>simp[opC,hc]
 split at this<;>first | (rename_i e;rw[e];rfl) | exact this.elim
theorem qKf{p:Oper}(h:yG p=true):kK p.op=true:=by
 rcases vZ h with⟨c,e,hc⟩ | this
 ·rw[e];rcases hc with hc | hc<;>simp[kK,hc]
 split at this<;>first | (rename_i e;rw[e];rfl) | exact this.elim
theorem zSr{p:Oper}(h:yG p=true):sU L p.op=none:=by
 rcases vZ h with⟨c,e,hc⟩ | this
 ·rw[e];rcases hc with hc | hc<;>simp[sU,hc]
 split at this<;>first | (rename_i e;rw[e];rfl) | exact this.elim
theorem zSs{p:Oper}{po:Po}(h:yG p=true):nQ P po H L p.op=none:=by
 rcases vZ h with⟨c,e,hc⟩ | this
 ·rw[e];rcases hc with hc | hc<;>simp[nQ,hc]
 split at this<;>first | (rename_i e;rw[e];rfl) | exact this.elim
theorem zYe{p:Oper}{H0:List TO}{q:Option Nat}(h:yG p=true):zFr P H0 H q L p.op=none:=by
 rcases vZ h with⟨c,e,hc⟩ | this
 ·rw[e];rcases hc with hc | hc<;>simp[zFr,hc]
 split at this<;>first | (rename_i e;rw[e];rfl) | exact this.elim
theorem qDu{p:Oper}(h:yG p=true){v:T}(hv:lK P L p v):opE P cl yd ops p ⟨L,H⟩=some ⟨dst p.dst v L,H⟩:=by
 unfold opE kT;rw[gL h];simp only[gT];rcases hv with hv | ⟨hv,hm⟩
 ·rw[hv];rfl
 ·rw[hv];simp only[zPx,zJs h,zPk h,qEz,hm]
theorem lK.congr{p:Oper}{v:T}(hv:lK P L p v)(h:∀x∈p.op.operands,evO L x=evO L2 x):lK P L2 p v:=by
 rcases hv with hv | ⟨hv,hm⟩
 ·exact .inl fun H k=>by rw[←lF p.op h];exact hv H k
 ·exact .inr ⟨fun H k=>by rw[←lF p.op h];exact hv H k,by rw[←aH p h];exact hm⟩
theorem lK.of_head{p:Oper}{po:Po}{H0 Hm Hn:List TO}{z:T×Option TO}(h:yG p=true)(hz:xG P po H0 Hm Hn L ops p=some z):z.2=none∧lK P L p z.1:=by
 unfold xG kT at hz;rw[gL h]at hz;simp only[nR,zSr h]at hz;cases hp:xB P Hn (ln Hn) (evO L) p.op with
 | some y=>
  simp only[hp,Option.some.injEq]at hz;subst hz;have h2:=zJt h hp;refine⟨h2,.inl fun H k=>?_⟩;rw[dM h H Hn k (ln Hn),hp];obtain⟨t,ob⟩:=y;cases h2;rfl
 | none=>
  simp only[hp,zSs h,zYe h]at hz;cases hm:zBl P (evO L) p with
  | none=>simp[hm]at hz
  | some t=>
   simp only[hm,Option.some.injEq]at hz;subst hz;exact⟨rfl,.inr ⟨fun H k=>by rw[dM h H Hn k (ln Hn),hp],hm⟩⟩
def sG(P:Program)(H:List TO)(L:List T)(p:Oper)(v:T):Prop:=(yG p=true∧lK P L p v)∨(p.guard=none∧∃t x,p.op= .load t x∧zBr P H t (evO L x)=some (v,none))
theorem sG.opE{p:Oper}{v:T}(hv:sG P H L p v):opE P cl yd ops p ⟨L,H⟩=some ⟨dst p.dst v L,H⟩:=by
 rcases hv with⟨h,hv⟩ | ⟨hg,t,x,ho,hl⟩
 ·exact qDu h hv
 ·unfold Ev.opE kT;rw[hg];simp only[gT,ho,xB,hl];rfl
theorem sG.nd{p:Oper}{v:T}(hv:sG P H L p v):kK p.op=true:=by
 rcases hv with⟨h,_⟩ | ⟨_,t,x,ho,_⟩
 ·exact qKf h
 ·rw[ho];rfl
theorem sG.congr{p:Oper}{v:T}(hv:sG P H L p v)(h:∀x∈p.op.operands,evO L x=evO L2 x):sG P H L2 p v:=by
 rcases hv with⟨h1,hv⟩ | ⟨hg,t,x,ho,hl⟩
 ·exact .inl ⟨h1,hv.congr h⟩
 ·refine .inr ⟨hg,t,x,ho,?_⟩;rw[←h x (by rw[ho];simp[Op.operands])]
  exact hl
theorem qCn{x y:Value}(h:eqV x y=true):x=y:=by
 unfold eqV at h;split at h
 ·simp only[Bool.and_eq_true]at h;obtain rfl:=zVf h.1;rw[zLx]at h;simp at h;rw[h]
 ·rename_i a b;cases a<;>cases b<;>first | rfl | cases h
 ·rfl
 ·rfl
 ·rfl
 ·cases h
theorem kZ{e:T→T→Bool}(he:∀a b,e a b=true→a=b):∀{l m:List T},gF e l m=true→l=m
 | [],[],_=>rfl
 | a::l,b::m,h=>by
  simp only[gF,Bool.and_eq_true]at h;rw[he a b h.1,kZ he h.2]
 | [],_::_,h=>by cases h
 | _::_,[],h=>by cases h
theorem mV:∀(k:Nat)(a b:T),eqU k a b=true→a=b
 | 0,a,b,h=>by cases h
 | k+1,a,b,h=>by
  simp only[eqU]at h;split at h
  ·rw[qCn h]
  ·simp only[Bool.and_eq_true]at h;rw[zY h.1,kZ (mV k) h.2]
  ·simp only[Bool.and_eq_true]at h;rw[zY h.1,kZ (mV k) h.2]
  ·rw[kZ (mV k) h]
  ·rw[kZ (mV k) h]
  ·rw[kZ (mV k) h]
  ·simp only[Bool.and_eq_true]at h;rw[zY h.1,kZ (mV k) h.2]
  ·simp only[Bool.and_eq_true]at h;rw[zY h.1,zY h.2.1,zY h.2.2.1,zY h.2.2.2]
  ·simp only[Bool.and_eq_true]at h;rw[zY h.1,zY h.2.1,zY h.2.2]
  ·simp only[Bool.and_eq_true]at h;rw[zY h.1,zY h.2]
  ·rw[zY h]
  ·cases h
theorem zUy:∀{l:List Nat}{i:Nat},inN i l=true→i∈l
 | [],i,h=>by cases h
 | j::l,i,h=>by
  simp only[inN,Bool.or_eq_true]at h;rcases h with h | h
  ·rw[zY h];exact List.mem_cons_self
  ·exact List.mem_cons_of_mem _ (zUy h)
theorem zJv{s:S}:∀{l:List Nat},rX P ops s l=true→∀i∈l,∀p,ops[i]?=some p→qXh P s p=true
 | [],_,i,hi,_,_=>by cases hi
 | j::l,h,i,hi,p,hp=>by
  simp only[rX,Bool.and_eq_true]at h;rcases List.mem_cons.1 hi with rfl | hi
  ·have:=h.1;rwa[hp]at this
  ·exact zJv h.2 i hi p hp
theorem sG.of_ld{s:S}{ld:List Nat}{i:Nat}{p:Oper}(hp:ops[i]?=some p)(hi:cB p=true)(hin:inN i ld=true)(hl:rX P ops s ld=true):∃d,p.dst=some d∧sG P s.H s.L p (nth .u s.L d):=by
 have h1:=zJv hl i (zUy hin) p hp;unfold cB at hi;simp only[Bool.and_eq_true]at hi;have hg:p.guard=none:=by
  cases hg:p.guard with
  | none=>rfl
  | some _=>have:=hi.1;rw[hg]at this;cases this
 unfold qXh at h1;split at h1
 ·rename_i t x d ho hd;split at h1
  ·rename_i z hz;refine⟨d,hd,.inr ⟨hg,t,x,ho,?_⟩⟩;rw[hz,mV 12 _ _ h1]
  ·cases h1
 ·cases h1
theorem zAr{m:Nat}{ld vl:List Nat}{i:Nat}{p:Oper}(h:xP m ld vl i p=true):yG p=true∨(cB p=true∧inN i ld=true):=by
 unfold xP at h;cases hb:Nat.blt i m with
 | true=>
  simp only[hb,cond_true,Bool.or_eq_true,Bool.and_eq_true]at h;exact h
 | false=>
  simp only[hb,cond_false,Bool.and_eq_true]at h;exact .inl h.1
theorem zJr{m:Nat}{ld vl:List Nat}{i:Nat}{p:Oper}(h:xP m ld vl i p=true):(yG p||cB p)=true:=by
 rcases zAr h with h | ⟨h,_⟩<;>rw[h]<;>simp
theorem bY{m:Nat}{ld vl:List Nat}{i:Nat}{p:Oper}(h:xP m ld vl i p=true)(hm:m≤i):inN i vl=true:=by
 unfold xP at h;have hb:Nat.blt i m=false:=by
  cases hb:Nat.blt i m with
  | true=>rw[Nat.blt_eq]at hb;omega
  | false=>rfl
 simp only[hb,cond_false,Bool.and_eq_true]at h;exact h.2
theorem zJz{d:Nat}{x:Operand}(h:gP d x=true){t:Nat}(e:x= .tmp t):t≠d:=by
 subst e;intro e;subst e;simp[gP]at h
theorem free_spec{o p:Oper}(h:bF ops o p=true):∃d,p.dst=some d∧(∀t,Operand.tmp t∈o.op.operands→t≠d)∧(∀j b g t,o.guard=some (j,b)→ops[j]?=some g→g.dst=some t→t≠d)∧∀x,o.dst=some x→x≠d∧∀t,Operand.tmp t∈p.op.operands→t≠x:=by
 unfold bF at h;cases hd:p.dst with
 | none=>simp[hd]at h
 | some d=>
  simp only[hd,Bool.and_eq_true]at h;refine⟨d,rfl,fun t ht=>zJz (List.all_eq_true.1 h.1 _ (by simpa using ht)) rfl,fun j b g t h1 h2 h3=>?_,fun x hx=>?_⟩
  ·have h4:=h.2.1;rw[h1]at h4;simp only[h2,h3]at h4;intro e;subst e;simp at h4
  ·have h4:=h.2.2;rw[hx]at h4;simp only[Bool.and_eq_true]at h4;refine⟨fun e=>?_,fun t ht=>zJz (List.all_eq_true.1 h4.2 _ (by simpa using ht)) rfl⟩
   have:=h4.1;subst e;simp at this
end
structure FrL(n:Nat)(a:Act)(L:List T)(D:List Deferred)(B:Bm)(r:Rd)(pd:Nat→Prop):Prop where
 size:a.tmps.size=n
 len:L.length=n
 defers:a.defers=D
 reps:∀(t:Nat)(v:Value),¬pd t→a.tmps[t]?=some v→Rep B r (nth .u L t) v
open Classical in
noncomputable def rY(pd:Nat→Prop)(L:List T):List T:=L.mapIdx fun t x=>if pd t then .u else x
section
variable {pd:Nat→Prop}{L:List T}{t:Nat}{n:Nat}{a:Act}{D:List Deferred}{B:Bm}{r:Rd}
theorem zGu:(rY pd L).length=L.length:=by simp[rY]
theorem nX(h:¬pd t):nth .u (rY pd L) t=nth .u L t:=by
 simp only[jA,List.getD_eq_getElem?_getD,rY,List.getElem?_mapIdx,if_neg h];cases L[t]?<;>rfl
theorem qKq(h:pd t):nth .u (rY pd L) t= .u:=by
 simp only[jA,List.getD_eq_getElem?_getD,rY,List.getElem?_mapIdx,if_pos h];cases L[t]?<;>rfl
theorem FrL.mask(h:FrL n a L D B r pd):FrT n a (rY pd L) D B r:=by
 refine⟨h.size,zN.of ?_ fun t x v hx hv=>?_,h.defers⟩
 ·rw[zGu,h.len];simpa using h.size.symm
 ·have hx':x=nth .u (rY pd L) t:=by rw[jA,List.getD_eq_getElem?_getD,hx];rfl
  rw[hx'];by_cases hp:pd t
  ·rw[qKq hp];exact .u
  ·rw[nX hp];exact h.reps t v hp (by simpa using hv)
theorem FrL.all(h:FrL n a L D B r pd)(hp:∀t,¬pd t):FrT n a L D B r:=by
 refine⟨h.size,zN.of ?_ fun t x v hx hv=>?_,h.defers⟩
 ·rw[h.len];simpa using h.size.symm
 ·have hx':x=nth .u L t:=by rw[jA,List.getD_eq_getElem?_getD,hx];rfl
  rw[hx'];exact h.reps t v (hp t) (by simpa using hv)
end
theorem zJw{l:Array Bool}:∀{n:Nat},(∃i,i<n∧l.getD i false=false)→∃i,i<n∧l.getD i false=false∧∀q,q<i→l.getD q false=true:=by
 intro n h;have:∀k,(∀q,q<k→l.getD q false=true)∨∃i,i<k∧l.getD i false=false∧∀q,q<i→l.getD q false=true:=by
  intro k;induction k with
  | zero=>exact .inl fun q hq=>by omega
  | succ k ihk=>
   rcases ihk with h1 | ⟨i,h1,h2,h3⟩
   ·cases hc:l.getD k false with
    | true=>
     refine .inl fun q hq=>?_;rcases Nat.lt_succ_iff_lt_or_eq.1 hq with h | rfl
     ·exact h1 q h
     ·exact hc
    | false=>exact .inr ⟨k,by omega,hc,h1⟩
   ·exact .inr ⟨i,by omega,h2,h3⟩
 rcases this n with h1 | h1
 ·obtain⟨i,h2,h3⟩:=h;rw[h1 i h2]at h3;cases h3
 ·exact h1
theorem zIn.set{ops:List Oper}{l:Array Bool}{i:Nat}{o:Oper}(h:zIn ops fun q=>l.getD q false=true)(ho:ops[i]?=some o)(hil:i<l.size)(hall:∀e∈o.after,Region.binds .any e=true→l.getD e.on false=true):zIn ops fun q=>(l.setIfInBounds i true).getD q false=true:=by
 intro i2 o2 ho2 h2 e he hb;show(l.setIfInBounds i true).getD e.on false=true;have h2:(l.setIfInBounds i true).getD i2 false=true:=h2;have hon:l.getD e.on false=true:=by
  by_cases hii:i2=i
  ·subst hii;rw[ho]at ho2;cases ho2;exact hall e he hb
  ·rw[getD_set_ne false (Ne.symm hii)]at h2;exact h i2 o2 ho2 h2 e he hb
 by_cases he2:e.on=i
 ·rw[he2];exact kU hil
 ·rw[getD_set_ne false (Ne.symm he2)];exact hon
theorem zMb{P:Program}{cl yd:Cl}{ops:Array Oper}{p:Oper}{s s1:S}(h:yG p=true)(h1:opE P cl yd ops p s=some s1):∃v,lK P s.L p v∧s1=⟨dst p.dst v s.L,s.H⟩:=by
 unfold opE kT at h1;rw[gL h]at h1;simp only[gT]at h1;cases hp:xB P s.H (ln s.H) (evO s.L) p.op with
 | some y=>
  simp only[hp]at h1;obtain⟨t,ob⟩:=y;have h2:=zJt h hp;simp only at h2;subst h2;simp only[zOt,Option.some.injEq]at h1;exact⟨t,.inl fun H k=>by rw[dM h H s.H k (ln s.H),hp],h1.symm⟩
 | none=>
  simp only[hp,zPx,zJs h,zPk h,qEz]at h1;cases hm:zBl P (evO s.L) p with
  | none=>simp[hm]at h1
  | some t=>
   simp only[hm,Option.some.injEq]at h1;exact⟨t,.inr ⟨fun H k=>by rw[dM h H s.H k (ln s.H),hp],hm⟩,h1.symm⟩
def Pnd(ops:Array Oper)(m:Nat)(l:Array Bool)(t:Nat):Prop:=∃(i:Nat)(p:Oper),i<m∧l.getD i false=false∧ops[i]?=some p∧p.dst=some t
section
variable {P:Program}{E:Nat→Prop}{w0:World}{X:Hid}{F:List Nat}{n:Nat}{D:List Deferred}{ops:Array Oper}{cl yd:Cl}{Q:Exit→Act→World→Prop}{rr:Option Nat}
theorem qMr(hcl:kV P cl)(hyd:xK P yd){ld vl:List Nat}{m:Nat}
  (htl:∀(j:Nat)(o:Oper),m≤j→ops[j]?=some o→∀q,q<j→(∀S:Nat→Prop,zIn ops.toList S→(∀e∈o.after,Region.binds .any e=true→S e.on)→S q)∨∃p,ops[q]?=some p∧xP m ld vl q p=true∧bF ops o p=true)
  (hvl:∀(i:Nat)(o:Oper),ops[i]?=some o→inN i vl=true→yG o=true∧slf o=true∧∀(q:Nat)(p:Oper),q<i→ops[q]?=some p→(yG p||cB p)=true→wfr o p=true)
  (hdp:∀(i:Nat)(p:Oper)(t:Nat),i<m→ops[i]?=some p→Operand.tmp t∈p.op.operands→∀(i':Nat)(p':Oper),i'<m→ops[i']?=some p'→p'.dst=some t→∃e∈p.after,Region.binds .any e=true∧e.on=i')
  (heg:∀(j:Nat)(o:Oper),ops[j]?=some o→∀e∈o.after,Region.binds .any e=true→e.on<j) (hnd:∀o∈ops.toList,kK o.op=true):
  ∀(fuel j:Nat)(s s':S){a:Act}{w:World}{B:Bm}{Y:Hid}{Mo:List (Nat×Obj)}{l:Array Bool}{r0:Rd}{B0:Bm},fG P cl yd ops ld (ops.toList.drop j) s=some s'→m≤j→zNq l≤fuel→l.size=ops.size→(∀i,j≤i→l.getD i false=false)→zIn ops.toList (fun q=>l.getD q false=true)→
   (∀(i:Nat)(p:Oper),i<j→l.getD i false=false→ops[i]?=some p→xP m ld vl i p=true∧∃v,sG P s.H s.L p v∧∀d,p.dst=some d→d<s.L.length→nth .u s.L d=v)→
   Wd P E w0 X F s.H B w Y Mo→FrL n a s.L D B (rd w Y) (Pnd ops j l)→BLe B0 B→Le r0 (rd w Y)→pY P E w0 X F n D s'.H s'.L B0 r0 (Q .normal)→wpAnyIn (FF rr) 0 P .any ops Q fuel l a w:=by
 have qCh:∀{i:Nat}{o:Oper},ops[i]?=some o→ops.toList.drop i=o::ops.toList.drop (i+1):=fun{i o}hoi=>by
  have h1:i<ops.toList.length:=by rw[Array.length_toList];exact(Array.getElem?_eq_some_iff.1 hoi).1
  rw[List.drop_eq_getElem_cons h1];congr 1;have:=(Array.getElem?_eq_some_iff.1 hoi).2;simpa using this
 have virt:∀(c j:Nat)(s s':S){a:Act}{w:World}{B:Bm}{Y:Hid}{l:Array Bool},fG P cl yd ops ld (ops.toList.drop j) s=some s'→m≤j→j+c≤ops.size→(∀i,j≤i→l.getD i false=false)→(∀q,j≤q→q<j+c→∃p,ops[q]?=some p∧xP m ld vl q p=true)→
   (∀(i:Nat)(p:Oper),i<j→l.getD i false=false→ops[i]?=some p→xP m ld vl i p=true∧∃v,sG P s.H s.L p v∧∀d,p.dst=some d→d<s.L.length→nth .u s.L d=v)→FrL n a s.L D B (rd w Y) (Pnd ops j l)→
   ∃s2:S,s2.H=s.H∧fG P cl yd ops ld (ops.toList.drop (j+c)) s2=some s'∧(∀(i:Nat)(p:Oper),i<j+c→l.getD i false=false→ops[i]?=some p→xP m ld vl i p=true∧∃v,sG P s2.H s2.L p v∧∀d,p.dst=some d→d<s2.L.length→nth .u s2.L d=v)∧FrL n a s2.L D B (rd w Y) (Pnd ops (j+c) l):=by
  intro c;induction c with
  | zero=>exact fun j s s'{a w B Y l}h _ _ _ _ hp hF=>⟨s,rfl,h,hp,hF⟩
  | succ c ihc=>
   intro j s s' a w B Y l h hm hsz hT hq hp hF;obtain⟨oj,hoj,hlj⟩:=hq j (Nat.le_refl _) (by omega)
   obtain⟨hk,hslf,hw⟩:=hvl j oj hoj (bY hlj hm);rw[qCh hoj]at h;simp only[fG]at h;cases h1:opE P cl yd ops oj s with
   | none=>simp[h1]at h
   | some s1=>
    simp only[h1]at h;cases hld:rX P ops s1 ld with
    | false=>simp[hld]at h
    | true=>
     simp only[hld,cond_true]at h;obtain⟨v,hv,rfl⟩:=zMb hk h1;have hp1:∀(i:Nat)(p:Oper),i<j+1→l.getD i false=false→ops[i]?=some p→xP m ld vl i p=true∧∃v',sG P s.H (dst oj.dst v s.L) p v'∧∀d,p.dst=some d→d<(dst oj.dst v s.L).length→nth .u (dst oj.dst v s.L) d=v':=fun i p hi hl hpi=>by
      rcases Nat.lt_or_ge i j with hij | hij
      ·obtain⟨k4,v',k5,k6⟩:=hp i p hij hl hpi;have hwf:=zRh (hw i p hij hpi (zJr k4));refine⟨k4,v',k5.congr fun x hx=>?_,fun d hd hlt=>?_⟩
       ·cases x with
        | tmp t=>
         show nth .u s.L t=nth .u (dst oj.dst v s.L) t;rw[yT fun e=>(hwf t e).2 t hx rfl]
        | _=>rfl
       ·rw[rT]at hlt;rw[yT fun e=>(hwf d e).1 d hd rfl];exact k6 d hd hlt
      ·obtain rfl:i=j:=by omega
       rw[hoj]at hpi;cases hpi;refine⟨hlj,v,.inl ⟨hk,hv.congr fun x hx=>?_⟩,fun d hd hlt=>?_⟩
       ·cases x with
        | tmp t=>
         show nth .u s.L t=nth .u (dst oj.dst v s.L) t;rw[yT fun e=>zQz hslf t e t hx rfl]
        | _=>rfl
       ·rw[rT]at hlt;rw[hd,zAe hlt]
     have hF1:FrL n a (dst oj.dst v s.L) D B (rd w Y) (Pnd ops (j+1) l):=by
      refine⟨hF.size,by rw[rT];exact hF.len,hF.defers,fun t x hnp hx=>?_⟩
      have hne:oj.dst≠some t:=fun e=>hnp ⟨j,oj,Nat.lt_succ_self j,hT j (Nat.le_refl _),hoj,e⟩;rw[yT hne];exact hF.reps t x (fun⟨i',p',g1,g2,g3,g4⟩=>hnp ⟨i',p',by omega,g2,g3,g4⟩) hx
     obtain⟨s2,e1,e2,e3,e4⟩:=ihc (j+1) ⟨dst oj.dst v s.L,s.H⟩ s' h (by omega) (by omega) (fun i hi=>hT i (by omega)) (fun q h1 h2=>hq q (by omega) (by omega)) hp1 hF1
     have hjc:j+1+c=j+(c+1):=by omega
     rw[hjc]at e2 e3 e4;exact⟨s2,e1,e2,e3,e4⟩
 have done:∀(fuel j:Nat)(s s':S){a:Act}{w:World}{B:Bm}{Y:Hid}{Mo:List (Nat×Obj)}{l:Array Bool}{r0:Rd}{B0:Bm},fG P cl yd ops ld (ops.toList.drop j) s=some s'→m≤j→l.size=ops.size→(∀i,j≤i→l.getD i false=false)→(∀i,i<ops.size→l.getD i false=true)→
   Wd P E w0 X F s.H B w Y Mo→FrL n a s.L D B (rd w Y) (Pnd ops j l)→BLe B0 B→Le r0 (rd w Y)→pY P E w0 X F n D s'.H s'.L B0 r0 (Q .normal)→wpAnyIn (FF rr) 0 P .any ops Q fuel l a w:=fun fuel j s s'{a w B Y Mo l r0 B0}h hmj hl hT hall hW hF hB hr hk=>by
  have hj:ops.size≤j:=by
   rcases Nat.lt_or_ge j ops.size with h1 | h1
   ·have h2:=hall j h1;rw[hT j (Nat.le_refl _)]at h2;cases h2
   ·exact h1
  rw[List.drop_eq_nil_of_le (by simpa using hj)]at h
  simp only[fG,Option.some.injEq]at h;subst h;refine wpAnyIn_done ?_ (hk _ _ _ _ _ hW (hF.all fun t ht=>?_) hB hr) fuel
  ·cases he:Region.ready .any ops l with
   | nil=>rfl
   | cons x xs=>
    exfalso;obtain⟨hun,o,ho,_⟩:=mem_ready.1 (by rw[he];exact List.mem_cons_self:x∈Region.ready .any ops l)
    have hx:=(Array.getElem?_eq_some_iff.1 ho).1;have h1:=hall x hx;have hs:x<l.size:=by omega
    simp[hs]at hun h1;rw[h1]at hun;cases hun
  ·obtain⟨i,p,_,h2,h3,_⟩:=ht;rw[hall i (Array.getElem?_eq_some_iff.1 h3).1]at h2;cases h2
 intro fuel;induction fuel with
 | zero=>
  intro j s s' a w B Y Mo l r0 B0 h hm hf hl hT hS hp hW hF hB hr hk;refine done 0 j s s' h hm hl hT (fun i hi=>?_) hW hF hB hr hk;cases hc:l.getD i false with
  | true=>rfl
  | false=>have:=zCg (by omega) hc;omega
 | succ fuel ih=>
  intro j s s' a w B Y Mo l r0 B0 h hm hf hl hT hS hp hW hF hB hr hk;by_cases hex:∃i,i<ops.size∧l.getD i false=false
  ·obtain⟨i0,hi0,hl0,hbelow⟩:=zJw hex;obtain⟨o0,ho0⟩:∃o,ops[i0]?=some o:=⟨ops[i0],by simp[hi0]⟩
   have hr0:i0∈Region.ready .any ops l:=zQn hl ho0 hl0 fun e he hb=>hbelow _ (heg i0 o0 ho0 e he hb);refine⟨fun h0=>absurd (h0▸hr0) (by simp),fun i hi=>?_⟩
   obtain⟨hun,oi,hoi,hall⟩:=mem_ready.1 hi;have hil:i<l.size:=by rw[hl];exact(Array.getElem?_eq_some_iff.1 hoi).1
   have hli:l.getD i false=false:=by simpa[hil]using hun
   have hoi':ops.toList[i]?=some oi:=by simpa using hoi
   have hS':=hS.set hoi' hil hall;have hu:=zCg hil hli;rcases Nat.lt_or_ge i j with hij0 | hij0
   ·obtain⟨hk1,v,hv,hvd⟩:=hp i oi hij0 hli hoi;have hcg:∀x∈oi.op.operands,evO s.L x=evO (rY (Pnd ops j l) s.L) x:=fun x hx=>by
     cases x with
     | tmp t=>
      refine(nX fun⟨i',p',h1,h2,h3,h4⟩=>?_).symm;have hk1':=(hp i' p' h1 h2 h3).1;rcases Nat.lt_trichotomy i' i with hlt | heq | hgt
      ·rcases Nat.lt_or_ge i m with him | him
       ·obtain⟨e,he,hb,hon⟩:=hdp i oi t him hoi hx i' p' (by omega) h3 h4
        have:=hall e he hb;rw[hon,h2]at this;cases this
       ·rcases htl i oi him hoi i' hlt with q1 | ⟨p2,q1,_,q2⟩
        ·have:=q1 (fun q=>l.getD q false=true) hS hall;rw[h2]at this;cases this
        ·rw[h3]at q1;cases q1;obtain⟨d,f1,f2,_⟩:=free_spec q2;rw[h4]at f1;cases f1;exact f2 t hx rfl
      ·subst heq;rw[hoi]at h3;cases h3;rcases Nat.lt_or_ge i' m with him | him
       ·obtain⟨e,he,hb,hon⟩:=hdp i' oi t him hoi hx i' oi him hoi h4;have:=heg i' oi hoi e he hb;omega
       ·exact zQz (hvl i' oi hoi (bY hk1 him)).2.1 t h4 t hx rfl
      ·rcases Nat.lt_or_ge i' m with him | him
       ·obtain⟨e,he,hb,hon⟩:=hdp i oi t (by omega) hoi hx i' p' him h3 h4
        have:=heg i oi hoi e he hb;omega
       ·exact(zRh ((hvl i' p' h3 (bY hk1' him)).2.2 i oi hgt hoi (zJr hk1)) t h4).2 t hx rfl
     | _=>rfl
    have hv':=hv.congr hcg;have hlo:=hv'.opE (cl:=cl) (yd:=yd) (ops:=ops);unfold wpOpIn;simp only[hoi];refine zHc hcl hyd hlo hv'.nd hW hF.mask fun a' w' B' Y' Mo' g1 g2 g3 g4=>?_;refine ih j s s' h hm (by omega) (by simpa using hl) (fun q hq=>?_) hS' (fun i' p h1 h2 h3=>?_) g1 ⟨g2.size,hF.len,g2.defers,fun t x hnp hx=>?_⟩ (hB.trans g3) (hr.trans g4) hk
    ·rw[getD_set_ne false (by omega)];exact hT q hq
    ·refine hp i' p h1 ?_ h3;by_cases e:i=i'
     ·subst e;rw[kU hil]at h2;cases h2
     ·rwa[getD_set_ne false e]at h2
    ·have hR:=g2.reps.getD t;have:a'.tmps.toList.getD t undef=x:=by simp[hx]
     rw[this]at hR;by_cases e:oi.dst=some t
     ·rcases Nat.lt_or_ge t s.L.length with ht | ht
      ·rw[hvd t e ht];have hR:Rep B' (rd w' Y') (nth .u (dst oi.dst v (rY (Pnd ops j l) s.L)) t) x:=hR;rwa[e,zAe (by rw[zGu];exact ht)]at hR
      ·rw[jA,List.getD_eq_getElem?_getD,List.getElem?_eq_none ht];exact .u
     ·have hR:Rep B' (rd w' Y') (nth .u (dst oi.dst v (rY (Pnd ops j l) s.L)) t) x:=hR;have hmn:¬Pnd ops j l t:=fun⟨i',p',h1,h2,h3,h4⟩=>hnp ⟨i',p',h1,(by
       rw[getD_set_ne false (fun e'=>e (by subst e';rw[hoi]at h3;cases h3;exact h4))]
       exact h2),h3,h4⟩
      rwa[yT e,nX hmn]at hR
   ·have hpass:∀q,j≤q→q<j+(i-j)→∃p,ops[q]?=some p∧xP m ld vl q p=true:=fun q h1 h2=>by
     rcases htl i oi (by omega) hoi q (by omega)with h3 | ⟨p,h3,h4,_⟩
     ·have:=h3 (fun q=>l.getD q false=true) hS hall;rw[hT q h1]at this;cases this
     ·exact⟨p,h3,h4⟩
    obtain⟨s,hsH,h,hp,hF⟩:=virt (i-j) j s s' h hm (by have:=(Array.getElem?_eq_some_iff.1 hoi).1;omega) hT hpass hp hF
    have hji:j+(i-j)=i:=by omega
    rw[hji]at h hp hF;rw[←hsH]at hW;have him:m≤i:=by omega
    have hT:∀q,i≤q→l.getD q false=false:=fun q hq=>hT q (by omega)
    have hfree:∀(i':Nat)(p':Oper),i'<i→l.getD i' false=false→ops[i']?=some p'→bF ops oi p'=true:=fun i' p' h1 h2 h3=>by
     rcases htl i oi him hoi i' h1 with h4 | ⟨p,h4,_,h5⟩
     ·have:=h4 (fun q=>l.getD q false=true) hS hall;rw[this]at h2;cases h2
     ·rw[h3]at h4;cases h4;exact h5
    have hcg:∀x∈oi.op.operands,evO s.L x=evO (rY (Pnd ops i l) s.L) x:=fun x hx=>by
     cases x with
     | tmp t=>
      refine(nX fun⟨i',p',h1,h2,h3,h4⟩=>?_).symm;obtain⟨d,g1,g2,_⟩:=free_spec (hfree i' p' h1 h2 h3);rw[h4]at g1;cases g1;exact g2 t hx rfl
     | _=>rfl
    have hgd:∀j b p t,oi.guard=some (j,b)→ops[j]?=some p→p.dst=some t→nth .u s.L t=nth .u (rY (Pnd ops i l) s.L) t:=fun j b p t e1 e2 e3=>by
     refine(nX fun⟨i',p',h1,h2,h3,h4⟩=>?_).symm;obtain⟨d,g1,_,g2,_⟩:=free_spec (hfree i' p' h1 h2 h3);rw[h4]at g1;cases g1;exact g2 j b p t e1 e2 e3 rfl
    rw[qCh hoi]at h;simp only[fG]at h;cases h1:opE P cl yd ops oi s with
    | none=>simp[h1]at h
    | some s1=>
     simp only[h1]at h;cases hld:rX P ops s1 ld with
     | false=>simp[hld]at h
     | true=>
     simp only[hld,cond_true]at h;have hpar:=qLf (P:=P) (cl:=cl) (yd:=yd) (H:=s.H) oi hcg hgd;have h1':opE P cl yd ops oi ⟨s.L,s.H⟩=some s1:=h1;rw[h1']at hpar;cases h2:opE P cl yd ops oi ⟨rY (Pnd ops i l) s.L,s.H⟩with
     | none=>rw[h2]at hpar;exact hpar.elim
     | some s2=>
      rw[h2]at hpar;obtain⟨tv,e1,e2,e3⟩:=hpar;unfold wpOpIn;simp only[hoi];refine zHc hcl hyd h2 (hnd oi (by simpa using Array.mem_of_getElem? hoi)) hW hF.mask fun a' w' B' Y' Mo' g1 g2 g3 g4=>?_
      rw[←e3]at g1;rw[e2]at g2;refine ih (i+1) s1 s' h (by omega) (by omega) (by simpa using hl) (fun q hq=>?_) hS' (fun i' p k1 k2 k3=>?_) g1 ⟨g2.size,by rw[e1,rT];exact hF.len,g2.defers,fun t x hnp hx=>?_⟩ (hB.trans g3) (hr.trans g4) hk
      ·rw[getD_set_ne false (by omega)];exact hT q (by omega)
      ·have hne:i≠i':=fun e=>by
        subst e;rw[kU hil]at k2;cases k2
       rw[getD_set_ne false hne]at k2;obtain⟨k4,v,k5,k6⟩:=hp i' p (by omega) k2 k3
       obtain⟨d,f1,_,_,f4⟩:=free_spec (hfree i' p (by omega) k2 k3)
       rcases zAr k4 with hkk | ⟨hk1,hk2⟩
       case inr=>
        obtain⟨d2,q1,q2⟩:=sG.of_ld k3 hk1 hk2 hld;exact⟨k4,_,q2,fun d' hd' _=>by rw[q1]at hd';cases hd';rfl⟩
       have k5:sG P s1.H s.L p v:=by
        rcases k5 with k5 | ⟨_,t,x,ho,_⟩
        ·exact .inl k5
        ·rcases vZ hkk with⟨c,e,_⟩ | this
         ·rw[ho]at e;cases e
         ·rw[ho]at this;exact this.elim
       refine⟨k4,v,k5.congr fun x hx=>?_,fun d' hd' hlt=>?_⟩
       ·cases x with
        | tmp t=>
         show nth .u s.L t=nth .u s1.L t;rw[e1,yT fun e=>(f4 t e).2 t hx rfl]
        | _=>rfl
       ·rw[f1]at hd';cases hd';rw[e1,rT]at hlt;rw[e1,yT fun e=>(f4 d e).1 rfl];exact k6 d f1 hlt
      ·have hR:=g2.reps.getD t;have:a'.tmps.toList.getD t undef=x:=by simp[hx]
       rw[this]at hR;rw[e1];by_cases e:oi.dst=some t
       ·rcases Nat.lt_or_ge t s.L.length with ht | ht
        ·rw[e,zAe ht];rwa[e,zAe (by rw[zGu];exact ht)]at hR
        ·rw[jA,List.getD_eq_getElem?_getD,List.getElem?_eq_none (by rw[rT];exact ht)];exact .u
       ·rw[yT e];have hmn:¬Pnd ops i l t:=fun⟨i',p',h1,h2,h3,h4⟩=>hnp ⟨i',p',by omega,(by rw[getD_set_ne false (by omega)];exact h2),h3,h4⟩
        rwa[yT e,nX hmn]at hR
  ·refine done _ j s s' h hm hl hT (fun i hi=>?_) hW hF hB hr hk;cases hc:l.getD i false with
   | true=>rfl
   | false=>exact absurd ⟨i,hi,hc⟩ hex
end
end Go.Ev

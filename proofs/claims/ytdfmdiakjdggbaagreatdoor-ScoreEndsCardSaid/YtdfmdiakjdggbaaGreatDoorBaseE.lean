import Derived.OrdersIn
import Derived.Test.YtdfmdiakjdggbaaGreatDoorBaseA
import Derived.Test.YtdfmdiakjdggbaaGreatDoorBaseB
import Derived.Test.YtdfmdiakjdggbaaGreatDoorBaseC
import Derived.Test.YtdfmdiakjdggbaaGreatDoorBaseD
set_option linter.unusedVariables false
set_option linter.unusedSimpArgs false
set_option linter.unnecessarySimpa false
namespace Go.Ev
open Go Go.Gv Go.RowKit IntKind
section
variable {P:Program}{E:Nat→Prop}{w0:World}{X:Hid}{F:List Nat}{H:List TO}{B B':Bm}{w w':World}{Y Y':Hid}{Mo:List (Nat×Obj)}{o:Oper}{r r':Rd}{n:Nat}{a:Act}{L:List T}{D:List Deferred}{cl yd pc:Cl}{O:Po}{rr:Option Nat}{ops:Array Oper}{rest:List Oper}{rn:Rn}
theorem gN:∀{l m:List Nat},zJl l m=true→l=m
 | [],[],_=>rfl
 | a::l,b::m,h=>by
  simp only[zJl,Bool.and_eq_true]at h;rw[qH h.1,gN h.2]
 | [],_::_,h=>by cases h
 | _::_,[],h=>by cases h
theorem neN{a b:Nat}(h:Nat.beq a b=false):a≠b:=fun e=>by
 subst e;simp at h
theorem bX{md:Region.Mode}{fuel t:Nat}{listed:Array Bool}{acc:List Nat}{l:List Nat}(h:Region.ready md ops listed=l):Region.linearise.go md ops (fuel+1) t listed acc=match l[t % l.length]? with
  | some i=>Region.linearise.go md ops fuel (t / l.length) (listed.setIfInBounds i true) (i::acc)
  | none=>acc.reverse:=by
 subst h;rfl
theorem qSm(hs:ops.size=4)(h:zUk ops=true)(t:Nat):Region.schedule true ops t=[0,1,2,3]∨Region.schedule true ops t=[1,0,2,3]:=by
 simp only[zUk,Bool.and_eq_true]at h;obtain⟨h1,h2,h3,h4,h5,h6⟩:=h;have h1:=gN h1;have h2:=gN h2;have h3:=gN h3;have h4:=gN h4;have h5:=gN h5;simp only[Region.schedule,Bool.true_or,if_true,Region.linearise,hs];have e0:Array.replicate 4 false=#[false,false,false,false]:=rfl;rw[e0,bX h1];have fin:∀(t:Nat)(acc:List Nat),Region.linearise.go .any ops 2 t #[true,true,false,false] acc=acc.reverse++[2,3]:=fun t acc=>by
  rw[bX h4];simp only[List.length_cons,List.length_nil,Nat.zero_add,Nat.mod_one,List.getElem?_cons_zero];have e1:(#[true,true,false,false]:Array Bool).setIfInBounds 2 true=#[true,true,true,false]:=rfl;rw[e1,bX h5];simp only[List.length_cons,List.length_nil,Nat.zero_add,Nat.mod_one,List.getElem?_cons_zero];simp[Region.linearise.go]
 have hm:t % 2=0∨t % 2=1:=by omega
 rcases hm with hm | hm
 ·left;simp only[List.length_cons,List.length_nil,Nat.zero_add,Nat.reduceAdd,hm,List.getElem?_cons_zero];have e1:(#[false,false,false,false]:Array Bool).setIfInBounds 0 true=#[true,false,false,false]:=rfl;rw[e1,bX h2];simp only[List.length_cons,List.length_nil,Nat.zero_add,Nat.mod_one,List.getElem?_cons_zero];have e2:(#[true,false,false,false]:Array Bool).setIfInBounds 1 true=#[true,true,false,false]:=rfl;rw[e2,fin];rfl
 ·right;simp only[List.length_cons,List.length_nil,Nat.zero_add,Nat.reduceAdd,hm,List.getElem?_cons_succ,List.getElem?_cons_zero];have e1:(#[false,false,false,false]:Array Bool).setIfInBounds 1 true=#[false,true,false,false]:=rfl;rw[e1,bX h3];simp only[List.length_cons,List.length_nil,Nat.zero_add,Nat.mod_one,List.getElem?_cons_zero];have e2:(#[false,true,false,false]:Array Bool).setIfInBounds 0 true=#[true,true,false,false]:=rfl;rw[e2,fin];rfl
theorem qBt(h:noG o=true){q:Nat→Option Bool}:Region.wanted o q=true:=by
 unfold noG at h;cases hg:o.guard with
 | none=>simp[Region.wanted,hg]
 | some _=>simp[hg]at h
theorem qAp(h:zNp o=true)(ρ:Operand→Value)(w:World):(execOp ρ o).run P w= .ok .recover w:=by
 unfold zNp at h;split at h
 ·rename_i c hc;split at h
  ·rename_i e1 e2;have ha:c.args=#[]:=Array.ext' (by simpa using e2)
   unfold execOp;simp only[hc,resolve,e1,ha,Sem.run_bind,Sem.run_pure,Result.andThen_ok];rfl
  ·cases h
 ·cases h
def zDl(B:Bm)(r:Rd)(x:T)(v:Value)(u u':FrameMode):Prop:=
 (u= .returning∧u'= .returning∧x= .v .nilIface∧v= .nilIface)∨(∃v',Rep B r x v'∧v=v'∧u= .panicking [{v:=v',recovered:=false}]∧u'= .panicking [{v:=v',recovered:=true}])
theorem zDl.rep{x:T}{v:Value}{u u':FrameMode}(h:zDl B r x v u u'):Rep B r x v:=by
 rcases h with⟨_,_,rfl,rfl⟩ | ⟨v',h1,rfl,_,_⟩
 ·exact .v rfl
 ·exact h1
theorem zDl.settles{x:T}{v:Value}{u u':FrameMode}(h:zDl B r x v u u'):settle u'= .returning:=by
 rcases h with⟨_,rfl,_,_⟩ | ⟨v',_,_,_,rfl⟩<;>rfl
theorem zDl.mono{x:T}{v:Value}{u u':FrameMode}(h:zDl B r x v u u')(hB:BLe B B')(hr:Le r r'):zDl B' r' x v u u':=by
 rcases h with h | ⟨v',h1,h2,h3,h4⟩
 ·exact .inl h
 ·exact .inr ⟨v',h1.mono hB hr,h2,h3,h4⟩
theorem zPl{i:Nat}{rest:List Nat}{b:Frame}{k:List Item}{c0:Frame}{cs:List Frame}{x:T}{v:Value}{u u':FrameMode}(hb:b.kind= .deferred)(hro:b.roundOf=none)(ho:ops[i]?=some o)(hi:zNp o=true)(hg:noG o=true)
  (hu:c0.mode=u) (hM:zDl B r x v u u'):step P (lone (b.atR a (.inRegion ops (i::rest)::k)) (c0::cs) w)= .next (lone (b.atR (a.put o.dst v) (.inRegion ops rest::k)) ({c0 with mode:=u'}::cs) w):=by
 have hw:Region.wanted o (yielded ops a.tmps)=true:=qBt hg;have hgr:=stepGR_op (P:=P) (b:=b) (k:=k) (cs:=c0::cs) (w:=w) (rest:=rest) ho hw;rw[hro,Oper.semAt_none]at hgr;have hfin:∀v,(b.atR a (.inRegion ops (i::rest)::k)).finish v=b.atR (a.put o.dst v) (.inRegion ops rest::k):=by
  intro v;rw[Frame.finish_atR,ho];rfl
 have hk:(b.atR a (.inRegion ops (i::rest)::k)).kind= .deferred:=hb;have htr:=tryRecover_deferred hk (c0::cs);have hr:=qAp (P:=P) hi a.eval w;refine step_lone_go ?_;rw[hgr,←hfin];rcases hM with⟨rfl,rfl,_,rfl⟩ | ⟨v',_,rfl,rfl,rfl⟩
 ·have hrec:recoverD (c0::cs)=none:=by simp[recoverD,hu]
  have hc:({c0 with mode:= .returning}:Frame)=c0:=by cases c0;cases hu;rfl
  rw[hc];simp only[Frame.atR,hro]at htr ⊢;simp[stepG.apply,hr,htr,hrec]
 ·have hrec:recoverD (c0::cs)=some (v,{c0 with mode:= .panicking [{v:=v,recovered:=true}]}::cs):=by simp[recoverD,hu]
  simp only[Frame.atR,hro]at htr ⊢;simp[stepG.apply,hr,htr,hrec]
theorem zPm{i:Nat}{rest:List Nat}{b:Frame}{k:List Item}{cs:List Frame}{v:Value}(hro:b.roundOf=none)(ho:ops[i]?=some o)(hg:noG o=true)(hr:(execOp a.eval o).run P w= .ok (.value v) w):
  step P (lone (b.atR a (.inRegion ops (i::rest)::k)) cs w)= .next (lone (b.atR (a.put o.dst v) (.inRegion ops rest::k)) cs w):=by
 have hw:Region.wanted o (yielded ops a.tmps)=true:=qBt hg;have hgr:=stepGR_op (P:=P) (b:=b) (k:=k) (cs:=cs) (w:=w) (rest:=rest) ho hw;rw[hro,Oper.semAt_none]at hgr;have hfin:∀v,(b.atR a (.inRegion ops (i::rest)::k)).finish v=b.atR (a.put o.dst v) (.inRegion ops rest::k):=by
  intro v;rw[Frame.finish_atR,ho];rfl
 refine step_lone_go ?_;rw[hgr,←hfin];simp[stepG.apply,hr]
theorem zRt{id:Nat}{x:T}{v:Value}{u u':FrameMode}{c0:Frame}{cs:List Frame}{s s':S}(hm:P.follows .mixedOrders=true)(hcl:yN P cl)(hyd:kG P yd)(h:qIx P cl yd ops x s=some s')(hu:c0.mode=u)(hM:zDl B (rd w Y) x v u u')
  (hW:Wd P E w0 X F s.H B w Y Mo) (hF:FrT n a s.L D B (rd w Y)) {Q:Exit→Act→List Frame→World→Prop}
  (hk:∀a' w' B' Y' Mo',Wd P E w0 X F s'.H B' w' Y' Mo'→FrT n a' s'.L D B' (rd w' Y')→BLe B B'→Le (rd w Y) (rd w' Y')→Q .normal a' ({c0 with mode:=u'}::cs) w'):(Code.region id ops true).wpSIn (FF none) 0 P Q a (c0::cs) w:=by
 unfold qIx at h;split at h
 ·rename_i o0 o1 o2 o3 hops;have hops':ops=#[o0,o1,o2,o3]:=Array.ext' (by simpa using hops)
  have hsz:ops.size=4:=by rw[hops'];rfl
  have i0:ops[0]?=some o0:=by rw[hops'];rfl
  have i1:ops[1]?=some o1:=by rw[hops'];rfl
  have i2:ops[2]?=some o2:=by rw[hops'];rfl
  have i3:ops[3]?=some o3:=by rw[hops'];rfl
  cases hc:zNp o0&&(noG o0&&(noG o1&&(zUk ops&&(yR o2.op&&yR o3.op))))with
  | false=>simp[hc]at h
  | true=>
   simp only[hc,cond_true]at h;simp only[Bool.and_eq_true]at hc;obtain⟨c1,c2,c3,c4,c5,c6⟩:=hc;split at h
   ·rename_i d0 d1 t ta e0 e1 e2;cases hd:!Nat.beq d0 d1&&!Nat.beq d0 ta with
    | false=>simp[hd]at h
    | true=>
     simp only[hd,cond_true]at h;simp only[Bool.and_eq_true,Bool.not_eq_true']at hd;have hd:=And.intro (neN hd.1) (neN hd.2);split at h
     ·rename_i z hz;have tail:∀(a2:Act)(w2:World),Wd P E w0 X F s.H B w2 Y Mo→FrT n a2 (Ev.put z (Ev.put x s.L d0) d1) D B (rd w2 Y)→Le (rd w Y) (rd w2 Y)→wpOpsIn (FF none) 0 P ops (fun e a' w'=>Q e a' ({c0 with mode:=u'}::cs) w') [2,3] a2 w2:=fun a2 w2 g1 g2 g3=>by
       simp only[zOk]at h;cases h2:opE P cl yd ops o2 ⟨Ev.put z (Ev.put x s.L d0) d1,s.H⟩with
       | none=>simp[h2]at h
       | some s2=>
        simp only[h2]at h;cases h3:opE P cl yd ops o3 s2 with
        | none=>simp[h3]at h
        | some s3=>
         simp only[h3,Option.some.injEq]at h;subst h;simp only[wpOpsIn,i2,i3];refine zEz hcl hyd h2 c5 g1 g2 fun a3 w3 B3 Y3 Mo3 k1 k2 k3 k4=>?_;refine zEz hcl hyd (L:=s2.L) (H:=s2.H) h3 c6 k1 k2 fun a4 w4 B4 Y4 Mo4 q1 q2 q3 q4=>?_;exact hk _ _ _ _ _ q1 q2 (k3.trans q3) ((g3.trans k4).trans q4)
      intro b k hb hro hFn hroom;have hup:=Upd.drew w;have hW0:Wd P E w0 X F s.H B w.drew Y Mo:=hW.call hup;have hle:Le (rd w Y) (rd w.drew Y):=hup.le Y;have G0:FrT n a s.L D B (rd w.drew Y):=hF.mono (BLe.refl B) hle;obtain⟨v1,hr1,hR1⟩:∃v1,(execOp a.eval o1).run P w.drew= .ok (.value v1) w.drew∧Rep B (rd w.drew Y) z v1:=by
       have:=zOo (P:=P) (w:=w.drew) (k:=0) hW0.hp G0.rep e2 (z:=(z,none)) (by show aN P s.H t (nth .u s.L ta)=_;exact hz)
       exact this
      have hr1':(execOp (a.put (some d0) v).eval o1).run P w.drew= .ok (.value v1) w.drew:=by
       rw[←hr1];have:(a.put (some d0) v).eval (.tmp ta)=a.eval (.tmp ta):=Act.eval_put fun d hd'=>by
        cases hd';intro e;cases e;exact hd.2 rfl
       unfold execOp;simp only[e2,this]
      have hMv:Rep B (rd w.drew Y) x v:=hM.rep.mono (BLe.refl B) hle;have G2:FrT n ((a.put (some d0) v).put (some d1) v1) (Ev.put z (Ev.put x s.L d0) d1) D B (rd w.drew Y):=(G0.put (some d0) hMv).put (some d1) hR1;have hcomm:(a.put (some d1) v1).put (some d0) v=(a.put (some d0) v).put (some d1) v1:=(Act.put_comm a v v1 (fun d hd' e=>by cases hd';cases e;exact hd.1 rfl)).symm
      have hroom0:(FF none).room ((c0::cs).length+1+0):=hroom;have hroom1:(FF none).room (({c0 with mode:=u'}::cs).length+1+0):=hroom
      obtain⟨e,a',w',hq,harr⟩:=wp_opsIn [2,3] _ _ (tail _ _ hW0 G2 hle) b k ({c0 with mode:=u'}::cs) hro hFn hroom1
      have hs0:=stepR_region_draw (P:=P) (b:=b) (a:=a) (k:=k) (cs:=c0::cs) (w:=w) (ops:=ops) (id:=id);rw[hm]at hs0;refine⟨e,a',{c0 with mode:=u'}::cs,w',rfl,hq,?_⟩
      refine .of_steps (.one (fenced_calm hFn hroom0 rfl) hs0) ?_;rcases qSm hsz c4 (w.tape w.drawn (.order b.fn id))with hsch | hsch
      ·rw[hsch];refine .of_steps (.one (fenced_oper hFn hroom0 i0 fun f _=>yY none f) (zPl hb hro i0 c1 c2 hu hM)) ?_;rw[e0];refine .of_steps (.one (fenced_oper hFn hroom1 i1 fun f _=>yY none f) (zPm hro i1 c3 hr1')) ?_;rw[e1];exact harr
      ·rw[hsch];refine .of_steps (.one (fenced_oper hFn hroom0 i1 fun f _=>yY none f) (zPm hro i1 c3 hr1)) ?_;rw[e1];refine .of_steps (.one (fenced_oper hFn hroom0 i0 fun f _=>yY none f) (zPl hb hro i0 c1 c2 hu hM)) ?_;rw[e0,hcomm];exact harr
     ·cases h
   ·cases h
 ·cases h
theorem qMn{x:T}{v:Value}{u u':FrameMode}{f:Nat}{cs:List T}{caps:List Value}{H':List TO}(hm:P.follows .mixedOrders=true)(hcl:yN P cl)(hyd:kG P yd)(hrn:tF P rn)(h:zQf P cl yd rn x H (.fn f cs)=some H')(hM:zDl B (rd w Y) x v u u')
  (hW:Wd P E w0 X F H B w Y Mo) (hcs:zN B (rd w Y) cs caps) {R:Ending→FrameMode→World→Prop}
  (hk:∀v w' B' Y' Mo',Wd P E w0 X F H' B' w' Y' Mo'→BLe B B'→Le (rd w Y) (rd w' Y')→R (.returned v) u' w'):CallsDIn (FF none) 0 P f caps.toArray u w R:=by
 simp only[zQf]at h;cases hf:P.funcs[f]? with
 | none=>simp[hf]at h
 | some fn=>
  simp only[hf]at h;split at h
  ·rename_i id ops c hb hres;cases hl:Nat.ble (ln cs) fn.ntmps&&noR c with
   | false=>simp[hl]at h
   | true=>
    simp only[hl,cond_true]at h;simp only[Bool.and_eq_true,Nat.ble_eq,qL]at hl;have hlen:=hcs.length;refine callsDIn_of_wpSIn hf hb (yY none f) fun c0 fs hu=>?_;have hF:FrT fn.ntmps {tmps:=caps.toArray++Array.replicate (fn.ntmps-caps.toArray.size) undef,defers:=[]} (Ev.rest fn.ntmps cs) [] B (rd w Y):=by
     refine⟨by simp;omega,?_,rfl⟩
     have:(caps.toArray++Array.replicate (fn.ntmps-caps.toArray.size) undef).toList=caps++List.replicate (fn.ntmps-caps.length) undef:=by simp
     rw[this];refine hcs.app (zGa _ _ ?_);rw[qL];simp;omega
    cases h1:qIx P cl yd ops x ⟨Ev.rest fn.ntmps cs,H⟩with
    | none=>simp[h1]at h
    | some s1=>
     simp only[h1]at h;refine wpSIn_seq (zRt hm hcl hyd h1 hu hM hW hF fun a1 w1 B1 Y1 Mo1 g1 g2 g3 g4=>?_);show c.wpSIn (FF none) 0 P _ a1 _ w1;have hres':fn.results=#[]:=Array.ext' (by simpa using hres)
     have hrun:∀(tm:Array Value)(w2:World),(results fn tm).run P w2= .ok (aO []) w2:=fun tm w2=>zKt (by rw[hres];rfl)
     have fin:∀(s2:S)(e:Ex),rn c s1=some (e,s2)→(e= .n∨e= .r)→s2.H=H'→c.wpSIn (FF none) 0 P (bodyPostS P fn c0 fs R) a1 ({c0 with mode:=u'}::fs) w1:=fun s2 e h2 he hH=>by
      refine wpSIn_of_wpIn rfl (hrn _ _ _ _ h2 E w0 X F fn.ntmps a1 [] B1 w1 Y1 Mo1 none _ (.inl rfl) g1 g2 fun a2 w2 B2 Y2 Mo2 bs hbs k1 k2 k3 k4=>?_);have hbs:=hbs hl.2;subst hbs;subst hH;have hd:a2.defers=[]:=k2.defers;have hq:a2.defers=[]∧∃u2,({c0 with mode:=u'}::fs:List Frame)={c0 with mode:=u2}::fs∧∃v,(results fn a2.tmps).run P w2= .ok v w2∧R (.returned v) u2 w2:=
       ⟨hd,u',rfl,_,hrun _ _,hk _ _ _ _ _ k1 (g3.trans k3) (g4.trans k4)⟩
      rcases he with rfl | rfl
      ·exact hq
      ·exact hq
     cases h2:rn c s1 with
     | none=>simp[h2]at h
     | some es=>
      obtain⟨e,s2⟩:=es;cases e with
      | n=>simp only[h2,Option.some.injEq]at h;exact fin s2 _ h2 (.inl rfl) h
      | r=>simp only[h2,Option.some.injEq]at h;exact fin s2 _ h2 (.inr rfl) h
      | x id=>simp[h2]at h
      | p t=>simp[h2]at h
  ·cases h
theorem zVd:kG P (fun _ _ _=>none):=fun l az H tv H' h=>by cases h
theorem zVt(hm:P.follows .mixedOrders=true)(hrn:tF P rn):yN P (zQl P rn):=by
 intro f az H tv H' h E w0 X F B w Y Mo qJ R hW hA hk;unfold zQl at h;cases hf:P.funcs[f]? with
 | none=>simp[hf]at h
 | some fn=>
  simp only[hf]at h;cases hb:fn.body with
  | none=>simp[hb]at h
  | some c=>
   simp only[hb]at h;cases hl:Nat.ble (ln az) fn.ntmps with
   | false=>simp[hl]at h
   | true=>
    simp only[hl,cond_true]at h;rw[Nat.ble_eq,qL]at hl;have hlen:=hA.length;have hcl:=zAl hrn;refine tJ.1 (callsIn_of_wp_marks (n:=0) hf hb (yY none f) ?_);have hF:FrT fn.ntmps {tmps:=qJ.toArray++Array.replicate (fn.ntmps-qJ.toArray.size) undef,defers:=[]} (Ev.rest fn.ntmps az) [] B (rd w Y):=by
     refine⟨by simp;omega,?_,rfl⟩
     have:(qJ.toArray++Array.replicate (fn.ntmps-qJ.toArray.size) undef).toList=qJ++List.replicate (fn.ntmps-qJ.length) undef:=by simp
     rw[this];refine hA.app (zGa _ _ ?_);rw[qL];simp;omega
    generalize hs0:(⟨Ev.rest fn.ntmps az,H⟩:S)=s0 at h;unfold defE at h;split at h
    ·rename_i c0 id ops c2;cases h0:rn c0 s0 with
     | none=>simp[h0]at h
     | some es=>
      obtain⟨e0,s1⟩:=es;cases e0 with
      | x id=>simp[h0]at h
      | r=>simp[h0]at h
      | p t=>simp[h0]at h
      | n=>
       simp only[h0]at h;cases h1:zWn P (sJ P rn) (fun _ _ _=>none) ops ops.toList s1 with
       | none=>simp[h1]at h
       | some gs=>
        obtain⟨g,s2⟩:=gs;simp only[h1]at h;subst hs0;refine wpIn_seq (hrn _ _ _ _ h0 E w0 X F fn.ntmps _ [] B w Y Mo none _ (.inl rfl) hW hF fun a1 w1 B1 Y1 Mo1 bs1 _ g1 g2 g3 g4=>?_);refine wpIn_seq (wpIn_region_list ?_);refine zUe hcl zVd ops.toList s1 s2 h1 g1 g2 (BLe.refl B1) (Le.refl _) fun a2 w2 B2 Y2 Mo2 f2 cs2 caps hg hcs hen k1 k2 k3 k4=>?_;subst hg;have leave:∀(s3:S)(x:T)(v:Value)(u u':FrameMode)(a3:Act)(w3:World)(B3:Bm)(Y3:Hid)(Mo3:List (Nat×Obj))(bs3:List Nat),u≠.run→zWe P fn s3 (zQf P (sJ P rn) (fun _ _ _=>none) rn x s3.H (.fn f2 cs2))=some (tv,H')→zDl B3 (rd w3 Y3) x v u u'→
          Wd P E w0 X (bs3++(bs1++F)) s3.H B3 w3 Y3 Mo3→FrT fn.ntmps a3 s3.L (bs3.map Gv.mark++({target:= .fn (.func f2) caps.toArray,args:=#[]}::(bs1.map Gv.mark++[]))) B3 (rd w3 Y3)→BLe B2 B3→Le (rd w2 Y2) (rd w3 Y3)→LeavesInM (FF none) 0 P fn a3.tmps R a3.defers u w3:=fun s3 x v u u' a3 w3 B3 Y3 Mo3 bs3 hu hlea hM q1 q2 q3 q4=>by
         cases hc:zQf P (sJ P rn) (fun _ _ _=>none) rn x s3.H (.fn f2 cs2)with
         | none=>simp[hc,zWe]at hlea
         | some H4=>
          simp only[hc,zWe]at hlea;cases hr:lN P s3.L H4 fn.results.toList with
          | none=>simp[hr]at hlea
          | some ts=>
           simp only[hr,Option.some.injEq,Prod.mk.injEq]at hlea;obtain⟨rfl,rfl⟩:=hlea;rw[q2.defers];refine vO hu bs3 q1 fun w4 m1 m2=>?_;have hcs4:=hcs.mono q3 (q4.trans m2);refine⟨hu,.inr ⟨wP none 0,.func f2,caps.toArray,f2,caps.toArray,rfl,?_,fun g _=>yY none g,?_⟩⟩
           ·simp only[invoke];simpa using tX hen caps.toArray w4
           ·refine qMn hm hcl zVd hrn hc (hM.mono (BLe.refl B3) m2) m1 hcs4 fun v5 w5 B5 Y5 Mo5 p1 p2 p3=>?_;show LeavesInM (FF none) 0 P fn a3.tmps R (bs1.map Gv.mark++[]) (settle u') w5;rw[hM.settles];refine vO (by simp) bs1 p1 fun w6 t1 t2=>?_
            have hreps:zN B5 (rd w6 Y5) s3.L a3.tmps.toList:=q2.reps.mono p2 ((m2.trans p3).trans t2);obtain⟨vs,z1,z2⟩:=zDj (a:=a3) t1 hreps hr;refine aC (zKt z1) (hk _ _ _ _ _ t1 (zOr z2) (((g3.trans k3).trans q3).trans p2) ?_);exact((((g4.trans k4).trans q4).trans m2).trans p3).trans t2
        cases h3:rn c2 s2 with
        | none=>simp[h3,zVq]at h
        | some es=>
         obtain⟨e3,s3⟩:=es;refine hrn _ _ _ _ h3 E w0 X _ fn.ntmps a2 _ B2 w2 Y2 Mo2 none _ (.inl rfl) k1 k2 fun a3 w3 B3 Y3 Mo3 bs3 _ q1 q2 q3 q4=>?_;cases e3 with
         | x id=>simp[h3,zVq]at h
         | n=>
          simp only[h3,zVq]at h;exact leave s3 _ .nilIface .returning .returning a3 w3 B3 Y3 Mo3 bs3 (by simp) h (.inl ⟨rfl,rfl,rfl,rfl⟩) q1 q2 q3 q4
         | r=>
          simp only[h3,zVq]at h;exact leave s3 _ .nilIface .returning .returning a3 w3 B3 Y3 Mo3 bs3 (by simp) h (.inl ⟨rfl,rfl,rfl,rfl⟩) q1 q2 q3 q4
         | p t=>
          simp only[h3,zVq]at h;intro v hv;exact leave s3 t v _ _ a3 w3 B3 Y3 Mo3 bs3 (by simp) h (.inr ⟨v,hv,rfl,rfl,rfl⟩) q1 q2 q3 q4
    ·cases h
theorem mV(hm:P.follows .mixedOrders=true)(hrn:tF P rn):yN P (mU P rn):=by
 intro f az H tv H' h;unfold mU at h;cases h0:sJ P rn f az H with
 | some z=>
  simp only[h0,Option.some.injEq]at h;subst h;exact zAl hrn _ _ _ _ _ h0
 | none=>
  simp only[h0]at h;exact zVt hm hrn _ _ _ _ _ h
theorem zVu(hrn:tF P rn):zXx P (zQm P rn):=by
 intro f az H tv H' h E w0 X F B w Y Mo qJ R hW hA hk;unfold zQm at h;cases hf:P.funcs[f]? with
 | none=>simp[hf]at h
 | some fn=>
  simp only[hf]at h;cases hb:fn.body with
  | none=>simp[hb]at h
  | some c=>
   simp only[hb]at h;cases hl:Nat.ble (ln az) fn.ntmps with
   | false=>simp[hl]at h
   | true=>
    simp only[hl,cond_true]at h;rw[Nat.ble_eq,qL]at hl;have hlen:=hA.length;refine tJ.1 (callsIn_of_wp_marks (n:=0) hf hb (yY none f) ?_);have hF:FrT fn.ntmps {tmps:=qJ.toArray++Array.replicate (fn.ntmps-qJ.toArray.size) undef,defers:=[]} (Ev.rest fn.ntmps az) [] B (rd w Y):=by
     refine⟨by simp;omega,?_,rfl⟩
     have:(qJ.toArray++Array.replicate (fn.ntmps-qJ.toArray.size) undef).toList=qJ++List.replicate (fn.ntmps-qJ.length) undef:=by simp
     rw[this];refine hA.app (zGa _ _ ?_);rw[qL];simp;omega
    cases hc:rn c ⟨Ev.rest fn.ntmps az,H⟩with
    | none=>simp[hc,zWx]at h
    | some es=>
     obtain⟨e,s⟩:=es;cases e with
     | n=>simp[hc,zWx]at h
     | x id=>simp[hc,zWx]at h
     | r=>simp[hc,zWx]at h
     | p t=>
      simp only[hc,zWx,Option.some.injEq,Prod.mk.injEq]at h;obtain⟨rfl,rfl⟩:=h;refine hrn _ _ _ _ hc E w0 X F fn.ntmps _ [] B w Y Mo none _ (.inl rfl) hW hF fun a' w' B' Y' Mo' bs _ g1 g2 g3 g4 v hv=>?_;show LeavesInM (FF none) 0 P fn a'.tmps R a'.defers (.panicking _) w';rw[g2.defers];refine vO (by simp) bs g1 fun w2 k1 k2=>?_
      show R (.panicked _) w2;exact hk v w2 B' Y' Mo' k1 (hv.mono (BLe.refl B') k2) g3 (g4.trans k2)
def zXy(P:Program)(SO:Oo):Prop:=∀H f az tv,SO H f az=some tv→Kn P f az H tv H
theorem vX:zXy P noS:=fun H f az tv h=>by cases h
theorem zYq{SO:Oo}(hm:P.follows .mixedOrders=true)(hS:zXy P SO)(hO:qF P O)(hrn:tF P rn):yN P (zHc P SO O rn):=by
 intro f az H tv H' h;unfold zHc at h;cases hs:SO H f az with
 | some z=>
  simp only[hs,Option.some.injEq,Prod.mk.injEq]at h;obtain⟨rfl,rfl⟩:=h;exact hS _ _ _ _ hs
 | none=>
 simp only[hs]at h;cases ho:poC O H f az with
 | some z=>
  simp only[ho,Option.some.injEq,Prod.mk.injEq]at h;obtain⟨rfl,rfl⟩:=h;intro E w0 X F B w Y Mo qJ R hW hA hk;exact qDl (k:=H.length) (fun f az tv nw h=>hO f az tv nw h _) ho hW.ow hW.ivw hW.bNle hW.st.lt hW.nn hA fun v w' hu hv=>hk v w' B Y Mo (hW.call hu) hv (BLe.refl B) (hu.le Y)
 | none=>simp only[ho]at h;exact mV hm hrn _ _ _ _ _ h
end
section
variable {P:Program}{H:List TO}{k:Nat}{ρ ρ':Operand→T}
theorem zAz{l:List Operand}(h:∀x∈l,ρ x=ρ' x):l.map ρ=l.map ρ':=List.map_congr_left h
theorem zHn{ps:Array (Nat×Operand)}(h:∀x∈(ps.toList.map (·.2)),ρ x=ρ' x):evP ρ ps=evP ρ' ps:=by
 unfold evP;refine List.map_congr_left fun p hp=>?_;rw[h p.2 (List.mem_map.2 ⟨p,hp,rfl⟩)]
theorem nQ(op:Op)(h:∀x∈op.operands,ρ x=ρ' x):yX P H k ρ op=yX P H k ρ' op:=by
 cases op with
 | build t ps=>simp only[yX];rw[zHn (fun x hx=>h x (by simpa[Op.operands]using hx))]
 | buildSlice t n ps=>simp only[yX];rw[zHn (fun x hx=>h x (by simpa[Op.operands]using hx))]
 | makeFunc fn first caps=>simp only[yX];rw[zAz (l:=caps.toList) (fun x hx=>h x (by simp[Op.operands];exact .inr (by simpa using hx))),zAz (l:=first.toList) (fun x hx=>h x (by simp[Op.operands];exact .inl (by simpa using hx)))]
 | slice t x lo hi mx=>
  have key:∀σ σ':Operand→T,(∀y∈(Op.slice t x lo hi mx).operands,σ y=σ' y)→sP P t (σ x) σ lo hi mx=sP P t (σ' x) σ' lo hi mx:=fun σ σ' h=>by
   have h0:=h x (by simp[Op.operands])
   have h1:∀a,lo=some a→σ a=σ' a:=fun a e=>h a (by simp[Op.operands,e])
   have h2:∀a,hi=some a→σ a=σ' a:=fun a e=>h a (by simp[Op.operands,e])
   have h3:∀a,mx=some a→σ a=σ' a:=fun a e=>h a (by simp[Op.operands,e])
   have o1:∀d,opt σ d lo=opt σ' d lo:=fun d=>by cases lo<;>simp[opt, *]
   have o2:∀d,opt σ d hi=opt σ' d hi:=fun d=>by cases hi<;>simp[opt, *]
   have o3:∀y s l u,vE σ y s l u hi mx=vE σ' y s l u hi mx:=fun y s l u=>by cases mx<;>simp[vE, *]
   simp only[sP,h0,o1,o2,o3]
  exact key (fun y=>dn (ρ y)) (fun y=>dn (ρ' y)) fun y hy=>congrArg dn (h y hy)
 | call c=>
  simp only[yX,zCd];split
  ·rename_i x t e1 e2 e3;show _=_;simp only[h x (by simp only[Op.operands,Call.operands,Array.mem_append];right;rw[←Array.mem_toList_iff,e2];simp)]
  ·rfl
 | makeMap t q=>cases q<;>simp[yX]
 | _=>simp only[yX]<;>simp_all [Op.operands]
theorem zFr:∀{l:List Operand},(∀x∈l,ρ x=ρ' x)→zPh ρ l=zPh ρ' l
 | [],_=>rfl
 | x::l,h=>by
  simp only[zPh];rw[h x List.mem_cons_self,zFr fun y hy=>h y (List.mem_cons_of_mem _ hy)]
theorem dU(o:Oper)(h:∀x∈o.op.operands,ρ x=ρ' x):aG P ρ o=aG P ρ' o:=by
 unfold aG;rw[zFr (fun x hx=>h x (by simpa using hx))]
 cases hn:zOb o.op with
 | false=>rfl
 | true=>
  rw[execOp_congr o (nL hn) fun x hx=>(by simp only[sAt,h x hx]:sAt ρ x=sAt ρ' x)]
end
section
variable {P:Program}{E:Nat→Prop}{w0:World}{X:Hid}{F:List Nat}{H:List TO}{B B':Bm}{w w':World}{Y Y':Hid}{Mo:List (Nat×Obj)}{o:Oper}{r r':Rd}{n:Nat}{a:Act}{L:List T}{D:List Deferred}{Q:Exit→Act→World→Prop}{K:Act→World→Prop}{po:Po}{ops:Array Oper}{rn:Rn}{cl yd:Cl}{rr:Option Nat}{O:Po}
theorem zHv{H0:List TO}:∀(l:List Oper)(seen:List Nat)(Hn:List TO)(L:List T)(i:Nat)(z:T×Option TO),(wB P po H0 H ops l seen Hn L)[i]?=some z→
  ∃o,l[i]?=some o∧kD P po H0 H (Hn++zZ ((wB P po H0 H ops l seen Hn L).take i)) (yD l ((wB P po H0 H ops l seen Hn L).take i) L) ops o=some z
 | [],seen,Hn,L,i,z,h=>by simp[wB]at h
 | o::l,seen,Hn,L,i,z,h=>by
  simp only[wB]at h ⊢;cases hs:zLh o seen with
  | true=>simp[hs]at h
  | false=>
  simp only[hs,cond_false]at h ⊢;cases ho:kD P po H0 H Hn L ops o with
  | none=>simp[ho]at h
  | some y=>
   simp only[ho]at h ⊢;cases i with
   | zero=>simp at h;subst h;exact⟨o,rfl,by simpa[zZ,yD]using ho⟩
   | succ i=>
    obtain⟨o',h1,h2⟩:=zHv l (zPj o seen) (nxH Hn y.2) (dst o.dst y.1 L) i z (by simpa using h)
    refine⟨o',by simpa using h1,?_⟩
    simp only[List.take_succ_cons,yD];have e:Hn++zZ (y::(wB P po H0 H ops l (zPj o seen) (nxH Hn y.2) (dst o.dst y.1 L)).take i)=nxH Hn y.2++zZ ((wB P po H0 H ops l (zPj o seen) (nxH Hn y.2) (dst o.dst y.1 L)).take i):=by
     obtain⟨t,ob⟩:=y;cases ob<;>simp[zZ,nxH]
    rw[e];exact h2
theorem zNm{H0:List TO}:∀(l:List Oper)(seen:List Nat)(Hn:List TO)(L:List T),(wB P po H0 H ops l seen Hn L).length≤l.length
 | [],_,_,_=>by simp[wB]
 | o::l,seen,Hn,L=>by
  simp only[wB];cases zLh o seen with
  | true=>simp
  | false=>
   simp only[cond_false];split
   ·simp;exact zNm l _ _ _
   ·simp
theorem tV(d:Option Nat)(t:T)(L:List T):(dst d t L).length=L.length:=by
 cases d with
 | none=>rfl
 | some d=>simp[dst,jO]
theorem fD:∀(l:List Oper)(rs:List (T×Option TO))(L:List T),(yD l rs L).length=L.length
 | [],_,_=>rfl
 | _::_,[],_=>rfl
 | o::l,z::rs,L=>by rw[yD,fD l rs,tV]
theorem jT{d:Option Nat}{t:T}{L:List T}{x:Nat}(h:d≠some x):nth .u (dst d t L) x=nth .u L x:=by
 cases d with
 | none=>rfl
 | some d=>
  have:d≠x:=fun e=>h (by rw[e])
  simp only[dst,jO,qR,List.getD_eq_getElem?_getD,List.getElem?_set_ne this]
theorem bS{t:T}{L:List T}{x:Nat}(h:x<L.length):nth .u (dst (some x) t L) x=t:=by
 simp[dst,jO,qR,h]
theorem rT:∀(l:List Oper)(rs:List (T×Option TO))(L:List T)(x:Nat),(∀(j:Nat)(o:Oper),j<rs.length→l[j]?=some o→o.dst≠some x)→nth .u (yD l rs L) x=nth .u L x
 | [],_,_,_,_=>rfl
 | _::_,[],_,_,_=>rfl
 | o::l,z::rs,L,x,h=>by
  rw[yD,rT l rs _ x (fun j o' hj ho=>h (j+1) o' (by simpa using hj) (by simpa using ho)),jT (h 0 o (by simp) rfl)]
theorem fE:∀(l:List Oper)(rs:List (T×Option TO))(L:List T)(x i:Nat)(o:Oper)(z:T×Option TO),x<L.length→l[i]?=some o→rs[i]?=some z→o.dst=some x→(∀(j:Nat)(o':Oper),j≠i→j<rs.length→l[j]?=some o'→o'.dst≠some x)→nth .u (yD l rs L) x=z.1
 | [],_,_,_,i,_,_,_,h,_,_,_=>by simp at h
 | _::_,[],_,_,i,_,_,_,_,h,_,_=>by simp at h
 | o1::l,z1::rs,L,x,0,o,z,hx,ho,hz,hd,h=>by
  simp at ho hz;subst ho;subst hz;rw[yD,rT l rs _ x (fun j o' hj ho=>h (j+1) o' (by simp) (by simpa using hj) (by simpa using ho)),hd,bS hx]
 | o1::l,z1::rs,L,x,i+1,o,z,hx,ho,hz,hd,h=>by
  rw[yD];exact fE l rs _ x i o z (by rw[tV];exact hx) (by simpa using ho) (by simpa using hz) hd fun j o' hj hl ho'=>h (j+1) o' (by simpa using hj) (by simpa using hl) (by simpa using ho')
theorem gD{t:Nat}:∀{l:List Oper}{i:Nat},wrt t l i=none→∀(j:Nat)(o:Oper),l[j]?=some o→o.dst≠some t
 | [],_,_,j,o,h=>by simp at h
 | o1::l,i,h,j,o,ho=>by
  simp only[wrt]at h;cases hd:o1.dst with
  | none=>
   simp only[hd]at h;cases j with
   | zero=>simp at ho;subst ho;rw[hd];simp
   | succ j=>exact gD h j o (by simpa using ho)
  | some d=>
   simp only[hd]at h;cases hb:Nat.beq d t with
   | true=>simp[hb]at h
   | false=>
    simp only[hb,cond_false]at h;cases j with
    | zero=>simp at ho;subst ho;rw[hd];intro e;cases e;simp at hb
    | succ j=>exact gD h j o (by simpa using ho)
theorem zAd{t:Nat}:∀{l:List Oper}{i q:Nat},wrt t l i=some q→∃(j:Nat)(o:Oper),q=i+j∧l[j]?=some o∧o.dst=some t
 | [],_,_,h=>by simp[wrt]at h
 | o1::l,i,q,h=>by
  simp only[wrt]at h;cases hd:o1.dst with
  | none=>
   simp only[hd]at h;obtain⟨j,o,h1,h2,h3⟩:=zAd h;exact⟨j+1,o,by omega,by simpa using h2,h3⟩
  | some d=>
   simp only[hd]at h;cases hb:Nat.beq d t with
   | true=>
    simp only[hb,cond_true,Option.some.injEq]at h;obtain rfl:=qH hb;exact⟨0,o1,by omega,rfl,hd⟩
   | false=>
    simp only[hb,cond_false]at h;obtain⟨j,o,h1,h2,h3⟩:=zAd h;exact⟨j+1,o,by omega,by simpa using h2,h3⟩
theorem zCj{i:Nat}(h:zSc o i=true):∃e∈o.after,Region.binds .any e=true∧e.on=i:=by
 unfold zSc at h;rw[List.any_eq_true]at h;obtain⟨e,he,hb⟩:=h;simp only[Bool.and_eq_true]at hb;exact⟨e,by simpa using he,hb.1,qH hb.2⟩
theorem kH{hd:List Oper}:∀{l:List Oper}{i:Nat},zEi ops hd l i=true→∀(j:Nat)(o:Oper),l[j]?=some o→
  (∀x∈o.op.operands.toList,qCn hd o (i+j) x=true)∧qAh ops hd o (i+j)=true∧∀d,o.dst=some d→∀(q:Nat)(o':Oper),j<q→l[q]?=some o'→o'.dst≠some d
 | [],_,_,j,o,h=>by simp at h
 | o1::l,i,h,j,o,ho=>by
  simp only[zEi,Bool.and_eq_true]at h;cases j with
  | zero=>
   simp at ho;subst ho;refine⟨fun x hx=>List.all_eq_true.1 h.1.1 x hx,h.1.2,fun d hd q o' hq ho'=>?_⟩;have h2:=h.2.1;simp only[hd]at h2;cases hw:wrt d l 0 with
   | some y=>simp[hw]at h2
   | none=>
    cases q with
    | zero=>omega
    | succ q=>exact gD hw q o' (by simpa using ho')
  | succ j=>
   obtain⟨g1,g2,g3⟩:=kH h.2.2 j o (by simpa using ho)
   rw[show i+1+j=i+(j+1)by omega]at g1 g2
   refine⟨g1,g2,fun d hd q o' hq ho'=>?_⟩;cases q with
   | zero=>omega
   | succ q=>exact g3 d hd q o' (by omega) (by simpa using ho')
def zGj(ops:List Oper)(S:Nat→Prop):Prop:=∀(i:Nat)(o:Oper),ops[i]?=some o→S i→∀e∈o.after,Region.binds .any e=true→S e.on
theorem zEr{acc:List Nat}{q:Nat}:∀{es:List Edge},(zEq acc es).testBit q=true→∃e∈es,Region.binds .any e=true∧(e.on=q∨(nth 0 acc e.on).testBit q=true)
 | [],h=>by simp[zEq]at h
 | e::es,h=>by
  unfold zEq at h;cases hb:Region.binds .any e with
  | false=>
   simp only[hb,cond_false]at h;obtain⟨e',h1,h2⟩:=zEr h;exact⟨e',List.mem_cons_of_mem _ h1,h2⟩
  | true=>
   simp only[hb,cond_true]at h;have h:((2^e.on||| nth 0 acc e.on)||| zEq acc es).testBit q=true:=h
   rw[Nat.testBit_or,Nat.testBit_or,Nat.testBit_two_pow]at h;simp only[Bool.or_eq_true,decide_eq_true_eq]at h;rcases h with(h | h) | h
   ·exact⟨e,List.mem_cons_self,hb,.inl h⟩
   ·exact⟨e,List.mem_cons_self,hb,.inr h⟩
   ·obtain⟨e',h1,h2⟩:=zEr h;exact⟨e',List.mem_cons_of_mem _ h1,h2⟩
def zXu(ops:List Oper)(acc:List Nat):Prop:=∀(j k:Nat)(o:Oper),acc[j]?=some k→ops[j]?=some o→∀q,k.testBit q=true→∀S,zGj ops S→(∀e∈o.after,Region.binds .any e=true→S e.on)→S q
theorem zOa{ops:List Oper}:∀(l:List Oper)(acc:List Nat),ops.drop acc.length=l→zXu ops acc→zXu ops (xX l acc)
 | [],acc,_,h=>h
 | o::l,acc,hd,h=>by
  unfold xX;have ho:ops[acc.length]?=some o:=by
   have:=congrArg (·[0]?) hd;simpa using this
  refine zOa l _ ?_ ?_
  ·rw[List.length_append,List.length_singleton,←List.drop_drop,hd];rfl
  ·intro j k o' hj ho' q hq S hS hp;rcases Nat.lt_or_ge j acc.length with hlt | hge
   ·rw[List.getElem?_append_left hlt]at hj;exact h j k o' hj ho' q hq S hS hp
   ·have hje:j=acc.length:=by
     have:=(List.getElem?_eq_some_iff.1 hj).1;simp at this;omega
    subst hje;rw[ho]at ho';cases ho';simp at hj;subst hj;obtain⟨e,he,hb,h1⟩:=zEr hq;have hSe:=hp e (by simpa using he) hb
    rcases h1 with rfl | h1
    ·exact hSe
    ·cases hn:acc[e.on]? with
     | none=>rw[qR,List.getD_eq_getElem?_getD,hn]at h1;simp at h1
     | some k2=>
      have h2:nth 0 acc e.on=k2:=by rw[qR,List.getD_eq_getElem?_getD,hn];rfl
      rw[h2]at h1;have hlt:=(List.getElem?_eq_some_iff.1 hn).1;have hol:=(List.getElem?_eq_some_iff.1 ho).1;obtain⟨o2,ho2⟩:∃o2,ops[e.on]?=some o2:=⟨ops[e.on]'(by omega),by simp⟩
      exact h e.on k2 o2 hn ho2 q h1 S hS (hS e.on o2 ho2 hSe)
theorem zAx{m:Nat}{ld vl:List Nat}{o:Oper}{q:Nat}:∀{l:List Oper}{i:Nat},(aB ops m ld vl o l i).testBit q=true→∃(j:Nat)(p:Oper),q=i+j∧l[j]?=some p∧kM m ld vl q p=true∧dF ops o p=true
 | [],i,h=>by simp[aB]at h
 | p::l,i,h=>by
  unfold aB at h;cases hb:kM m ld vl i p&&dF ops o p with
  | false=>
   simp only[hb,cond_false]at h;obtain⟨j,p',h1,h2,h3⟩:=zAx h;exact⟨j+1,p',by omega,by simpa using h2,h3⟩
  | true=>
   simp only[hb,cond_true]at h;have h:(2^i||| aB ops m ld vl o l (i+1)).testBit q=true:=h
   rw[Nat.testBit_or,Nat.testBit_two_pow]at h;simp only[Bool.or_eq_true,decide_eq_true_eq]at h;rcases h with h | h
   ·simp only[Bool.and_eq_true]at hb;subst h;exact⟨0,p,by omega,rfl,hb.1,hb.2⟩
   ·obtain⟨j,p',h1,h2,h3⟩:=zAx h;exact⟨j+1,p',by omega,by simpa using h2,h3⟩
theorem zIv{m:Nat}{ld vl:List Nat}:∀{hd:List Oper}{l:List Nat}{l2:List Oper}{i:Nat},cB ops m ld vl hd l l2 i=true→∀(j k:Nat)(o:Oper),l[j]?=some k→l2[j]?=some o→∀q,q<i+j→k.testBit q=true∨∃p,(hd++l2.take j)[q]?=some p∧kM m ld vl q p=true∧dF ops o p=true
 | _,[],_,_,_,j,k,o,h,_=>by simp at h
 | _,_::_,[],_,_,j,k,o,_,h=>by simp at h
 | hd,k1::l,o1::l2,i,h,j,k,o,hk,ho=>by
  simp only[cB,Bool.and_eq_true]at h;cases j with
  | zero=>
   simp at ho hk;subst ho;subst hk;intro q hq;have hq:q<i:=by simpa using hq
   have h1:=h.1;cases hb:Nat.beq k1 (Nat.sub (Nat.pow 2 i) 1)with
   | true=>
    have e:k1=2^i-1:=qH hb;left;rw[e,Nat.testBit_two_pow_sub_one];simpa using hq
   | false=>
    simp only[hb,cond_false]at h1;have e:k1||| aB ops m ld vl o1 hd 0=2^i-1:=qH h1
    have:(k1||| aB ops m ld vl o1 hd 0).testBit q=true:=by rw[e,Nat.testBit_two_pow_sub_one];simpa using hq
    rw[Nat.testBit_or,Bool.or_eq_true]at this;rcases this with h2 | h2
    ·exact .inl h2
    ·obtain⟨j,p,h3,h4⟩:=zAx h2;obtain rfl:q=j:=by omega
     exact .inr ⟨p,by simpa using h4.1,h4.2⟩
  | succ j=>
   rw[show i+(j+1)=i+1+j by omega]
   intro q hq;have:=zIv h.2 j k o (by simpa using hk) (by simpa using ho) q hq
   simpa using this
theorem zIh:∀(l:List Oper)(acc:List Nat),(xX l acc).length=acc.length+l.length
 | [],acc=>rfl
 | o::l,acc=>by unfold xX;rw[zIh l,List.length_append,List.length_singleton,List.length_cons];omega
theorem zLm{ld vl:List Nat}{l:List Oper}{m:Nat}(h:cB ops m ld vl (l.take m) ((xX l []).drop m) (l.drop m) m=true)(j:Nat)(o:Oper)(hm:m≤j)(ho:l[j]?=some o)(q:Nat)(hq:q<j):
  (∀S:Nat→Prop,zGj l S→(∀e∈o.after,Region.binds .any e=true→S e.on)→S q)∨∃p,l[q]?=some p∧kM m ld vl q p=true∧dF ops o p=true:=by
 have hjl:=(List.getElem?_eq_some_iff.1 ho).1;have hl:j<(xX l []).length:=by rw[zIh];simpa using hjl
 rcases zIv h (j-m) ((xX l [])[j]) o (by rw[List.getElem?_drop,show m+(j-m)=j by omega];simp[hl]) (by rw[List.getElem?_drop,show m+(j-m)=j by omega];exact ho) q (by omega)with h1 | ⟨p,h1,h2⟩
 ·exact .inl fun S hS hp=>zOa l [] (by simp) (fun j k o h=>by simp at h) j ((xX l [])[j]) o (by simp[hl]) ho q h1 S hS hp
 ·rw[←List.take_add,List.getElem?_take]at h1;split at h1
  ·exact .inr ⟨p,h1,h2⟩
  ·cases h1
theorem zMe{o:Oper}:∀{l:List Oper},zYe o l=true→∀p∈l,(jL p||dA p)=true→wfr o p=true
 | [],_,p,hp,_=>by cases hp
 | q::l,h,p,hp,hl=>by
  simp only[zYe,Bool.and_eq_true]at h;rcases List.mem_cons.1 hp with rfl | hp
  ·have:=h.1;rwa[hl,cond_true]at this
  ·exact zMe h.2 p hp hl
theorem qEn:∀{l pre:List Oper}{j q:Nat},inN q (vlE pre l j)=true→∃(k:Nat)(o:Oper),q=j+k∧l[k]?=some o∧jL o=true∧slf o=true∧∀p∈pre++l.take k,(jL p||dA p)=true→wfr o p=true
 | [],pre,j,q,h=>by cases h
 | o::l,pre,j,q,h=>by
  have next:inN q (vlE (pre++[o]) l (j+1))=true→∃(k:Nat)(o':Oper),q=j+k∧(o::l)[k]?=some o'∧jL o'=true∧slf o'=true∧∀p∈pre++(o::l).take k,(jL p||dA p)=true→wfr o' p=true:=fun h=>by
   obtain⟨k,o',h1,h2,h3,h4,h5⟩:=qEn h;exact⟨k+1,o',by omega,by simpa using h2,h3,h4,fun p hp=>h5 p (by simpa using hp)⟩
  unfold vlE at h;cases hb:jL o&&(slf o&&zYe o pre)with
  | false=>simp only[hb,cond_false]at h;exact next h
  | true=>
   simp only[hb,cond_true,inN,Bool.or_eq_true]at h;simp only[Bool.and_eq_true]at hb;rcases h with h | h
   ·exact⟨0,o,by rw[←qH h];rfl,rfl,hb.1,hb.2.1,fun p hp hl=>zMe hb.2.2 p (by simpa using hp) hl⟩
   ·exact next h
theorem qJl{m i:Nat}{o:Oper}(h:inN i (vlR ops m)=true)(ho:ops[i]?=some o):jL o=true∧slf o=true∧∀(q:Nat)(p:Oper),q<i→ops[q]?=some p→(jL p||dA p)=true→wfr o p=true:=by
 obtain⟨k,o',h1,h2,h3,h4,h5⟩:=qEn h;rw[List.getElem?_drop,←h1]at h2;have:ops.toList[i]?=some o:=by simpa using ho
 rw[this]at h2;cases h2;refine⟨h3,h4,fun q p hq hp hl=>h5 p ?_ hl⟩;rw[←List.take_add,←h1];have hp':ops.toList[q]?=some p:=by simpa using hp
 exact List.mem_of_getElem? (by rw[List.getElem?_take,if_pos hq];exact hp')
theorem zTt{d:Nat}{x:Operand}(h:lH d x=true){t:Nat}(e:x= .tmp t):t≠d:=by
 subst e;intro e;subst e;simp[lH]at h
theorem zPp{o p:Oper}(h:wfr o p=true):∀x,o.dst=some x→(∀d,p.dst=some d→x≠d)∧∀t,Operand.tmp t∈p.op.operands→t≠x:=by
 intro x hx;unfold wfr at h;rw[hx]at h;simp only[Bool.and_eq_true]at h;refine⟨fun d hd e=>?_,fun t ht=>zTt (List.all_eq_true.1 h.2 _ (by simpa using ht)) rfl⟩
 have h1:=h.1;rw[hd]at h1;subst e;simp at h1
theorem zPk{o:Oper}(h:slf o=true):∀x,o.dst=some x→∀t,Operand.tmp t∈o.op.operands→t≠x:=by
 intro x hx t ht;unfold slf at h;rw[hx]at h;exact zTt (List.all_eq_true.1 h _ (by simpa using ht)) rfl
theorem bT:∀{l:List Oper}{i:Nat},zEa l i=true→∀(j:Nat)(o:Oper),l[j]?=some o→∀e∈o.after,Region.binds .any e=true→e.on<i+j
 | [],_,_,j,o,h=>by simp at h
 | o1::l,i,h,j,o,ho=>by
  simp only[zEa,Bool.and_eq_true]at h;cases j with
  | zero=>
   simp at ho;subst ho;intro e he hb;have:=List.all_eq_true.1 h.1 e (by simpa using he)
   rw[hb]at this;simpa[Nat.blt_eq]using this
  | succ j=>rw[show i+(j+1)=i+1+j by omega];exact bT h.2 j o (by simpa using ho)
theorem zIw:∀l:List T,jC l.length l=some l
 | []=>rfl
 | x::l=>by simp[jC,zIw l]
theorem zJx:∀(l:List Oper)(rs:List (T×Option TO))(L:List T)(i:Nat)(o:Oper)(z:T×Option TO),l[i]?=some o→rs[i]?=some z→(ksE l rs L)[i]?=some (match z.2 with | some _=>tH (yD l (rs.take i) L) o.op | none=>none)
 | [],_,_,_,_,_,h,_=>by simp at h
 | _::_,[],_,_,_,_,_,h=>by simp at h
 | o1::l,z1::rs,L,0,o,z,h1,h2=>by simp at h1 h2;subst h1;subst h2;rfl
 | o1::l,z1::rs,L,i+1,o,z,h1,h2=>by
  simp only[ksE,List.take_succ_cons,yD];exact zJx l rs _ i o z (by simpa using h1) (by simpa using h2)
theorem qAz:∀(l:List Oper)(rs:List (T×Option TO))(L:List T),(ksE l rs L).length≤rs.length
 | [],_,_=>by simp[ksE]
 | _::_,[],_=>by simp[ksE]
 | o::l,z::rs,L=>by simp only[ksE,List.length_cons];have:=qAz l rs (dst o.dst z.1 L);omega
theorem zEh{q:Nat}:∀{ks:List (Option Nat)},zGl q ks=true↔some q∈ks
 | []=>by simp[zGl]
 | some k::ks=>by
  simp only[zGl,Bool.or_eq_true,List.mem_cons,Option.some.injEq,zEh];exact or_congr ⟨fun h=>(qH h).symm,fun h=>by subst h;simp⟩ Iff.rfl
 | none::ks=>by simp[zGl,zEh]
theorem fC{H:List TO}:∀{ks:List (Option Nat)},zJw H ks=true→(∀q,some q∈ks→nth .gone H q= .gone)∧∀(i j q:Nat),ks[i]?=some (some q)→ks[j]?=some (some q)→i=j
 | [],_=>⟨fun q h=>(nomatch h),fun i j q h=>(by simp at h)⟩
 | none::ks,h=>by
  obtain⟨h1,h2⟩:=fC (ks:=ks) (by simpa[zJw]using h)
  refine⟨fun q hq=>h1 q (by simpa using hq),fun i j q hi hj=>?_⟩
  cases i with
  | zero=>simp at hi
  | succ i=>cases j with
   | zero=>simp at hj
   | succ j=>rw[h2 i j q (by simpa using hi) (by simpa using hj)]
 | some k::ks,h=>by
  simp only[zJw,Bool.and_eq_true,Bool.not_eq_true']at h;obtain⟨h1,h2⟩:=fC (ks:=ks) h.2.2;have hn:∀q,q=k→some q∉ks:=fun q e hm=>by
   subst e;have:=h.1;rw[zEh.2 hm]at this;cases this
  refine⟨fun q hq=>?_,fun i j q hi hj=>?_⟩
  ·rcases List.mem_cons.1 hq with e | hq
   ·cases e;have:=h.2.1;cases hg:nth .gone H k<;>rw[hg]at this<;>first | rfl | (simp[qAo]at this)
   ·exact h1 q hq
  ·cases i with
   | zero=>
    simp at hi;cases j with
    | zero=>rfl
    | succ j=>exact absurd (List.mem_of_getElem? (by simpa using hj:ks[j]?=some (some q))) (hn q hi.symm)
   | succ i=>cases j with
    | zero=>simp at hj;exact absurd (List.mem_of_getElem? (by simpa using hi:ks[i]?=some (some q))) (hn q hj.symm)
    | succ j=>rw[h2 i j q (by simpa using hi) (by simpa using hj)]
theorem rR:∀(ks:List (Option Nat))(H:List TO)(q:Nat),(kL ks H)[q]?=if some q∈ks then H[q]?.map (fun _=>TO.gone)else H[q]?
 | [],H,q=>by simp[kL]
 | none::ks,H,q=>by simp[kL,rR ks H q]
 | some k::ks,H,q=>by
  simp only[kL];rw[rR ks,jO];by_cases e:k=q
  ·subst e;by_cases hq:k<H.length
   ·simp[hq]
   ·have:H[k]?=none:=List.getElem?_eq_none (by omega)
    simp[this,List.getElem?_set,hq]
  ·rw[List.getElem?_set_ne e];have:(some q∈some k::ks)↔some q∈ks:=by
    simp only[List.mem_cons,Option.some.injEq];exact⟨fun h=>h.resolve_left (fun e'=>e e'.symm),.inr⟩
   by_cases hm:some q∈ks
   ·rw[if_pos hm,if_pos (this.2 hm)]
   ·rw[if_neg hm,if_neg (fun h=>hm (this.1 h))]
theorem zHz(ks:List (Option Nat)):∀H:List TO,(kL ks H).length=H.length:=by
 induction ks with
 | nil=>intro H;rfl
 | cons k ks ih=>
  intro H;cases k with
  | none=>simpa[kL]using ih H
  | some q=>simp only[kL];rw[ih,jO];simp
end
section
variable {P:Program}{E:Nat→Prop}{w0:World}{X:Hid}{F:List Nat}{H:List TO}{B B' B0:Bm}{w w':World}{Y Y':Hid}{Mo:List (Nat×Obj)}{o:Oper}{r r' r0:Rd}{n:Nat}{a:Act}{L:List T}{D:List Deferred}{Q:Exit→Act→World→Prop}{K:Act→World→Prop}{po:Po}{ops:Array Oper}{rn:Rn}{cl yd:Cl}{rr:Option Nat}{O:Po}{rs:List (T×Option TO)}{l:Array Bool}
theorem Wd.fill(h:Wd P E w0 X F H B w Y Mo){i g C:Nat}{o:TO}{ob:Obj}(hi:H[i]?=some .gone)(hBi:B i=none)(hl:kV o=true)(hR:RO P B (rd w Y) C o ob)(hg:g=w.heap.size):
  Wd P E w0 X F (H.set i o) (wJ B i (g,C)) (w.alloc ob) (bY w.heap.size Y) ((g,ob)::Mo)∧BLe B (wJ B i (g,C)):=by
 subst hg;have hS:=h.st.alloc ob;have hle:Le (rd w Y) (rd (w.alloc ob) (bY w.heap.size Y)):=Le.hide_new ob;have hB:BLe B (wJ B i (w.heap.size,C)):=BLe.set hBi;have hlt:i<H.length:=(List.getElem?_eq_some_iff.1 hi).1;have hgm:∀p∈Mo,p.1≠w.heap.size:=fun p hp e=>by
  have:=(Array.getElem?_eq_some_iff.1 (h.st.own p (List.mem_append_left _ hp)).1).1;omega
 have hget:∀(j:Nat)(x:TO),(H.set i o)[j]?=some x→(j≠i∧H[j]?=some x)∨(j=i∧x=o):=fun j x hx=>by
  by_cases e:i=j
  ·subst e;rw[List.getElem?_set_self hlt]at hx;cases hx;exact .inr ⟨rfl,rfl⟩
  ·rw[List.getElem?_set_ne e]at hx;exact .inl ⟨fun e'=>e e'.symm,hx⟩
 refine⟨⟨hS,fun j x hx hlx=>?_,fun j cs hx=>?_,fun j hj=>?_,fun j1 j2 o1 o2 p q h1 l1 h2 l2 hp hq e=>?_,h.bN,h.iv⟩,hB⟩
 ·rcases hget j x hx with⟨_,hx⟩ | ⟨rfl,rfl⟩
  ·obtain⟨b,C',ob',g1,g2,g3⟩:=h.ob j x hx hlx;exact⟨b,C',ob',hB _ _ g1,List.mem_cons_of_mem _ g2,g3.mono hB hle⟩
  ·exact⟨_,C,ob,qA _ _ _,List.mem_cons_self,hR.mono hB hle⟩
 ·rcases hget j _ hx with⟨_,hx⟩ | ⟨rfl,e⟩
  ·obtain⟨b,C',g1,g2⟩:=h.fz j cs hx;exact⟨b,C',hB _ _ g1,g2.mono hB hle⟩
  ·subst e;cases hl
 ·simp at hj;rw[jH _ _ (by omega)]
  exact h.nn j hj
 ·have own:∀(i:Nat)(x:TO)(p:Nat×Nat),H[i]?=some x→kV x=true→B i=some p→p.1≠w.heap.size:=fun i x p hx hl hp=>by
   obtain⟨b,C',ob',h1,h2,_⟩:=h.ob i x hx hl;rw[hp]at h1;cases h1;exact hgm _ h2
  rcases hget j1 _ h1 with⟨n1,k1⟩ | ⟨rfl,rfl⟩<;>rcases hget j2 _ h2 with⟨n2,k2⟩ | ⟨rfl,rfl⟩
  ·rw[jH _ _ n1]at hp;rw[jH _ _ n2]at hq;exact h.inj _ _ _ _ _ _ k1 l1 k2 l2 hp hq e
  ·rw[jH _ _ n1]at hp;rw[qA]at hq;cases hq;exact absurd e (own _ _ p k1 l1 hp)
  ·rw[jH _ _ n2]at hq;rw[qA]at hp;cases hp;exact absurd e.symm (own _ _ q k2 l2 hq)
  ·rfl
def qP(l:Array Bool):Nat→List (T×Option TO)→List TO
 | _,[]=>[]
 | j,(_,some ob)::rs=>(if l.getD j false=true then ob else .gone)::qP l (j+1) rs
 | j,(_,none)::rs=>qP l (j+1) rs
noncomputable def pos(rs:List (T×Option TO))(i:Nat):Nat:=(zZ (rs.take i)).length
theorem zBc(l:Array Bool):∀(j:Nat)(rs:List (T×Option TO)),(qP l j rs).length=(zZ rs).length
 | _,[]=>rfl
 | j,(_,some ob)::rs=>by simp[qP,zZ,zBc l (j+1) rs]
 | j,(_,none)::rs=>by simp[qP,zZ,zBc l (j+1) rs]
theorem xM{t:T}{ob:Option TO}{rs:List (T×Option TO)}{i:Nat}:pos ((t,ob)::rs) (i+1)=(match ob with | some _=>1 | none=>0)+pos rs i:=by
 cases ob<;>simp[pos,zZ]<;>omega
theorem fM(l:Array Bool):∀(rs:List (T×Option TO))(j i:Nat)(t:T)(ob:TO),rs[i]?=some (t,some ob)→(qP l j rs)[pos rs i]?=some (if l.getD (j+i) false=true then ob else .gone)
 | [],_,_,_,_,h=>by simp at h
 | (t1,some ob1)::rs,j,0,t,ob,h=>by simp at h;obtain⟨_,rfl⟩:=h;simp[qP,pos,zZ]
 | (t1,none)::rs,j,0,t,ob,h=>by simp at h
 | (t1,some ob1)::rs,j,i+1,t,ob,h=>by
  rw[xM,show j+(i+1)=j+1+i by omega,←fM l rs (j+1) i t ob (by simpa using h)]
  simp only[qP];rw[Nat.add_comm 1,List.getElem?_cons_succ]
 | (t1,none)::rs,j,i+1,t,ob,h=>by
  rw[xM,show j+(i+1)=j+1+i by omega,←fM l rs (j+1) i t ob (by simpa using h)]
  simp[qP]
theorem fP(l:Array Bool){x:Nat}:∀(rs:List (T×Option TO))(j:Nat),(x<j∨j+rs.length≤x)→qP (l.setIfInBounds x true) j rs=qP l j rs
 | [],_,_=>rfl
 | (t,some ob)::rs,j,h=>by
  simp only[qP];rw[fP l rs (j+1) (by simp at h;omega),getD_set_ne false (by simp at h;omega)]
 | (t,none)::rs,j,h=>by
  simp only[qP];rw[fP l rs (j+1) (by simp at h;omega)]
theorem dV(l:Array Bool):∀(rs:List (T×Option TO))(j i:Nat)(t:T),rs[i]?=some (t,none)→qP (l.setIfInBounds (j+i) true) j rs=qP l j rs
 | [],_,_,_,h=>by simp at h
 | (t1,some ob1)::rs,j,0,t,h=>by simp at h
 | (t1,none)::rs,j,0,t,h=>by simp only[qP];exact fP l rs (j+1) (.inl (by omega))
 | (t1,some ob1)::rs,j,i+1,t,h=>by
  simp only[qP];rw[getD_set_ne false (by omega),show j+(i+1)=j+1+i by omega,dV l rs (j+1) i t (by simpa using h)]
 | (t1,none)::rs,j,i+1,t,h=>by
  simp only[qP];rw[show j+(i+1)=j+1+i by omega,dV l rs (j+1) i t (by simpa using h)]
theorem fQ(l:Array Bool):∀(rs:List (T×Option TO))(j i:Nat)(t:T)(ob:TO),rs[i]?=some (t,some ob)→j+i<l.size→qP (l.setIfInBounds (j+i) true) j rs=(qP l j rs).set (pos rs i) ob
 | [],_,_,_,_,h,_=>by simp at h
 | (t1,some ob1)::rs,j,0,t,ob,h,hl=>by
  simp at h;obtain⟨_,rfl⟩:=h;simp only[qP];rw[fP l rs (j+1) (.inl (by omega))]
  have:(l.setIfInBounds (j+0) true).getD j false=true:=by simp at hl;simp[hl]
  rw[this];simp[pos,zZ]
 | (t1,none)::rs,j,0,t,ob,h,_=>by simp at h
 | (t1,some ob1)::rs,j,i+1,t,ob,h,hl=>by
  rw[xM,Nat.add_comm 1];simp only[qP,List.set_cons_succ];rw[getD_set_ne false (by omega),show j+(i+1)=j+1+i by omega,fQ l rs (j+1) i t ob (by simpa using h) (by omega)]
 | (t1,none)::rs,j,i+1,t,ob,h,hl=>by
  rw[xM,Nat.zero_add];simp only[qP];rw[show j+(i+1)=j+1+i by omega,fQ l rs (j+1) i t ob (by simpa using h) (by omega)]
theorem zBb(l:Array Bool):∀(rs:List (T×Option TO))(j:Nat),(∀(i:Nat)(t:T)(ob:TO),rs[i]?=some (t,some ob)→l.getD (j+i) false=true)→qP l j rs=zZ rs
 | [],_,_=>rfl
 | (t,some ob)::rs,j,h=>by
  simp only[qP,zZ];rw[zBb l rs (j+1) (fun i t ob hi=>by rw[show j+1+i=j+(i+1)by omega];exact h (i+1) t ob (by simpa using hi)),show l.getD j false=true from h 0 t ob (by simp)]
  simp
 | (t,none)::rs,j,h=>by
  simp only[qP,zZ];exact zBb l rs (j+1) (fun i t ob hi=>by rw[show j+1+i=j+(i+1)by omega];exact h (i+1) t ob (by simpa using hi))
theorem zBd(l:Array Bool):∀(rs:List (T×Option TO))(j i:Nat)(x:TO),(∀i,i<rs.length→l.getD (j+i) false=false)→(qP l j rs)[i]?=some x→x= .gone
 | [],_,_,_,_,h=>by simp[qP]at h
 | (t,some ob)::rs,j,i,x,hl,h=>by
  simp only[qP]at h;have h0:=hl 0 (by simp)
  rw[Nat.add_zero]at h0;rw[h0]at h;cases i with
  | zero=>simp at h;exact h.symm
  | succ i=>exact zBd l rs (j+1) i x (fun i hi=>by rw[show j+1+i=j+(i+1)by omega];exact hl (i+1) (by simpa using hi)) (by simpa using h)
 | (t,none)::rs,j,i,x,hl,h=>zBd l rs (j+1) i x (fun i hi=>by rw[show j+1+i=j+(i+1)by omega];exact hl (i+1) (by simpa using hi)) (by simpa[qP]using h)
theorem zBe:∀(rs:List (T×Option TO))(i q:Nat)(x:TO),(zZ (rs.take i))[q]?=some x→∃j t,j<i∧rs[j]?=some (t,some x)∧pos rs j=q
 | [],_,_,_,h=>by simp[zZ]at h
 | _::_,0,_,_,h=>by simp[zZ]at h
 | (t,some ob)::rs,i+1,0,x,h=>by simp[zZ]at h;subst h;exact⟨0,t,by omega,rfl,by simp[pos,zZ]⟩
 | (t,some ob)::rs,i+1,q+1,x,h=>by
  obtain⟨j,t',h1,h2,h3⟩:=zBe rs i q x (by simpa[zZ]using h)
  exact⟨j+1,t',by omega,by simpa using h2,by rw[xM,h3];simp;omega⟩
 | (t,none)::rs,i+1,q,x,h=>by
  obtain⟨j,t',h1,h2,h3⟩:=zBe rs i q x (by simpa[zZ]using h)
  exact⟨j+1,t',by omega,by simpa using h2,by rw[xM,h3];simp⟩
theorem zRo:∀(rs:List (T×Option TO))(i j:Nat)(t:T)(ob:TO),rs[i]?=some (t,some ob)→i<j→pos rs i<pos rs j
 | [],_,_,_,_,h,_=>by simp at h
 | _::_,_,0,_,_,_,h=>by omega
 | (t1,some ob1)::rs,0,j+1,t,ob,h,_=>by rw[xM];simp[pos,zZ];omega
 | (t1,none)::rs,0,j+1,t,ob,h,_=>by simp at h
 | (t1,ob1)::rs,i+1,j+1,t,ob,h,hij=>by
  rw[xM,xM];have:=zRo rs i j t ob (by simpa using h) (by omega)
  omega
theorem Wd.moveTo(h:Wd P E w0 X F H B w Y Mo){i j:Nat}{x:TO}{p:Nat×Nat}(hi:H[i]?=some x)(hl:kV x=true)(hp:B i=some p)(hj:H[j]?=some .gone)(hBj:B j=none):Wd P E w0 X F ((H.set i .gone).set j x) (wJ B j p) w Y Mo∧BLe B (wJ B j p):=by
 have hB:BLe B (wJ B j p):=BLe.set hBj;have hij:i≠j:=fun e=>by subst e;rw[hi]at hj;cases hj;cases hl
 have hjl:j<(H.set i TO.gone).length:=by simpa using(List.getElem?_eq_some_iff.1 hj).1
 have hil:i<H.length:=(List.getElem?_eq_some_iff.1 hi).1;have ng:∀{y:TO},kV y=true→y≠.gone:=fun h e=>by subst e;cases h
 have hget:∀(k:Nat)(y:TO),((H.set i .gone).set j x)[k]?=some y→y≠.gone→(H[k]?=some y∧k≠j∧k≠i)∨(k=j∧y=x):=fun k y hy hne=>by
  by_cases e:j=k
  ·subst e;rw[List.getElem?_set_self hjl]at hy;cases hy;exact .inr ⟨rfl,rfl⟩
  ·rw[List.getElem?_set_ne e]at hy;by_cases e2:i=k
   ·subst e2;rw[List.getElem?_set_self hil]at hy;cases hy;exact absurd rfl hne
   ·rw[List.getElem?_set_ne e2]at hy;exact .inl ⟨hy,fun e'=>e e'.symm,fun e'=>e2 e'.symm⟩
 refine⟨⟨h.st,fun k y hy hly=>?_,fun k cs hy=>?_,fun k hk=>?_,fun k1 k2 o1 o2 p1 p2 h1 l1 h2 l2 hp1 hp2 e=>?_,h.bN,h.iv⟩,hB⟩
 ·rcases hget k y hy (ng hly)with⟨hy,_,_⟩ | ⟨rfl,rfl⟩
  ·obtain⟨b,C,ob,g1,g2,g3⟩:=h.ob k y hy hly;exact⟨b,C,ob,hB _ _ g1,g2,g3.mono hB (Le.refl _)⟩
  ·obtain⟨b,C,ob,g1,g2,g3⟩:=h.ob i _ hi hl;rw[hp]at g1;cases g1;exact⟨b,C,ob,qA _ _ _,g2,g3.mono hB (Le.refl _)⟩
 ·rcases hget k _ hy (by simp)with⟨hy,_,_⟩ | ⟨rfl,e⟩
  ·obtain⟨b,C,g1,g2⟩:=h.fz k cs hy;exact⟨b,C,hB _ _ g1,g2.mono hB (Le.refl _)⟩
  ·subst e;cases hl
 ·simp at hk hjl;rw[jH _ _ (by omega)]
  exact h.nn k hk
 ·rcases hget k1 _ h1 (ng l1)with⟨q1,n1,m1⟩ | ⟨rfl,rfl⟩<;>rcases hget k2 _ h2 (ng l2)with⟨q2,n2,m2⟩ | ⟨rfl,rfl⟩
  ·rw[jH _ _ n1]at hp1;rw[jH _ _ n2]at hp2;exact h.inj _ _ _ _ _ _ q1 l1 q2 l2 hp1 hp2 e
  ·rw[jH _ _ n1]at hp1;rw[qA]at hp2;cases hp2;exact absurd (h.inj _ _ _ _ _ _ q1 l1 hi hl hp1 hp e) m1
  ·rw[jH _ _ n2]at hp2;rw[qA]at hp1;cases hp1;exact absurd (h.inj _ _ _ _ _ _ q2 l2 hi hl hp2 hp e.symm) m2
  ·rfl
def yQ(l:Array Bool)(ks:List (Option Nat))(q:Nat):Bool:=(List.range ks.length).any fun i=>ks[i]?==some (some q)&&l.getD i false
def xI(l:Array Bool)(ks:List (Option Nat))(H:List TO):List TO:=H.mapIdx fun q x=>if yQ l ks q=true then .gone else x
theorem jU{l:Array Bool}{ks:List (Option Nat)}{q:Nat}:yQ l ks q=true↔∃i,ks[i]?=some (some q)∧l.getD i false=true:=by
 unfold yQ;rw[List.any_eq_true];constructor
 ·rintro⟨i,_,h⟩;simp only[Bool.and_eq_true,beq_iff_eq]at h;exact⟨i,h⟩
 ·rintro⟨i,h1,h2⟩;refine⟨i,List.mem_range.2 (List.getElem?_eq_some_iff.1 h1).1,?_⟩;simp[h1,h2]
theorem jK(l:Array Bool)(ks:List (Option Nat))(H:List TO):(xI l ks H).length=H.length:=by simp[xI]
theorem vM(l:Array Bool)(ks:List (Option Nat))(H:List TO)(q:Nat):(xI l ks H)[q]?=H[q]?.map fun x=>if yQ l ks q=true then TO.gone else x:=by simp[xI,List.getElem?_mapIdx]
theorem zAw{l:Array Bool}{ks:List (Option Nat)}{H:List TO}{i:Nat}(h:∀q,ks[i]?≠some (some q)):xI (l.setIfInBounds i true) ks H=xI l ks H:=by
 refine List.ext_getElem? fun q=>?_;rw[vM,vM];have:yQ (l.setIfInBounds i true) ks q=yQ l ks q:=by
  rw[Bool.eq_iff_iff,jU,jU];constructor<;>rintro⟨j,h1,h2⟩<;>refine⟨j,h1,?_⟩
  ·rwa[getD_set_ne false (fun e=>by subst e;exact h q h1)]at h2
  ·rwa[getD_set_ne false (fun e=>by subst e;exact h q h1)]
 rw[this]
theorem qAx{l:Array Bool}{ks:List (Option Nat)}{H:List TO}{i k:Nat}(h:ks[i]?=some (some k))(hi:i<l.size):xI (l.setIfInBounds i true) ks H=(xI l ks H).set k .gone:=by
 refine List.ext_getElem? fun q=>?_;rw[vM,List.getElem?_set,jK];by_cases e:k=q
 ·subst e;have:yQ (l.setIfInBounds i true) ks k=true:=jU.2 ⟨i,h,by simp[hi]⟩
  simp only[this,if_true];by_cases hq:k<H.length
  ·simp[hq]
  ·have:H[k]?=none:=List.getElem?_eq_none (by omega)
   simp[hq,this]
 ·rw[if_neg e,vM];have:yQ (l.setIfInBounds i true) ks q=yQ l ks q:=by
   rw[Bool.eq_iff_iff,jU,jU];constructor<;>rintro⟨j,h1,h2⟩<;>refine⟨j,h1,?_⟩
   ·rwa[getD_set_ne false (fun e'=>by subst e';rw[h]at h1;cases h1;exact e rfl)]at h2
   ·rwa[getD_set_ne false (fun e'=>by subst e';rw[h]at h1;cases h1;exact e rfl)]
  rw[this]
theorem zWa{l:Array Bool}{ks:List (Option Nat)}{H:List TO}(h:∀i,i<ks.length→l.getD i false=false):xI l ks H=H:=by
 refine List.ext_getElem? fun q=>?_;rw[vM];have:yQ l ks q=false:=by
  cases hk:yQ l ks q with
  | false=>rfl
  | true=>
   obtain⟨i,h1,h2⟩:=jU.1 hk;rw[h i (List.getElem?_eq_some_iff.1 h1).1]at h2;cases h2
 simp[this]
theorem qAw{l:Array Bool}{ks:List (Option Nat)}{H:List TO}(h:∀i q,ks[i]?=some (some q)→l.getD i false=true):xI l ks H=kL ks H:=by
 refine List.ext_getElem? fun q=>?_;rw[vM,rR];by_cases hm:some q∈ks
 ·obtain⟨i,hi⟩:=List.getElem?_of_mem hm;have:yQ l ks q=true:=jU.2 ⟨i,hi,h i q hi⟩;rw[if_pos hm];simp[this]
 ·have:yQ l ks q=false:=by
   cases hk:yQ l ks q with
   | false=>rfl
   | true=>
    obtain⟨i,h1,_⟩:=jU.1 hk;exact absurd (List.mem_of_getElem? h1) hm
  rw[if_neg hm];simp[this]
end
theorem yM{l:Array Bool}{i:Nat}(h:i<l.size):(l.setIfInBounds i true).getD i false=true:=by simp[h]
def qRf(l:Array Bool)(j:Nat):Prop:=∀i,l.getD i false=decide (i<j)
theorem zOy{ops:Array Oper}{l:Array Bool}{j:Nat}{o:Oper}(hl:l.size=ops.size)(ho:ops[j]?=some o)(hj:l.getD j false=false)(he:∀e∈o.after,Region.binds .any e=true→l.getD e.on false=true):j∈Region.ready .any ops l:=by
 refine mem_ready.2 ⟨?_,o,ho,he⟩;have:j<l.size:=by rw[hl];exact(Array.getElem?_eq_some_iff.1 ho).1
 simpa[this]using hj
def zLt(l:Array Bool):Nat:=l.toList.countP (fun b=>!b)
theorem aZ{l:Array Bool}{i:Nat}(hi:i<l.size)(h:l.getD i false=false):zLt (l.setIfInBounds i true)+1=zLt l:=by
 have h1:l[i]=false:=by simpa[hi]using h
 have h2:i<l.toList.length:=by simpa using hi
 have h3:l.toList[i]'h2=false:=by simpa using h1
 unfold zLt;rw[Array.toList_setIfInBounds,List.countP_set h2];have h4:0<l.toList.countP (fun b=>!b):=List.countP_pos_iff.2 ⟨_,List.getElem_mem h2,by simp[h3]⟩
 simp only[h3,Bool.not_false,if_true,Bool.not_true,Bool.false_eq_true,if_false];omega
theorem zRz{l:Array Bool}{j:Nat}(h:qRf l j)(hj:j≤l.size):zLt l=l.size-j:=by
 have e:l.toList=List.replicate j true++List.replicate (l.size-j) false:=by
  apply List.ext_getElem?;intro i;rcases Nat.lt_or_ge i l.size with hi | hi
  ·have h1:=h i;have h2:l[i]=decide (i<j):=by simpa[hi]using h1
   rw[Array.getElem?_toList,Array.getElem?_eq_getElem hi,h2];rcases Nat.lt_or_ge i j with hij | hij
   ·rw[List.getElem?_append_left (by simpa using hij)];simp[hij]
   ·rw[List.getElem?_append_right (by simpa using hij),List.length_replicate,List.getElem?_replicate,if_pos (by omega)]
    simp;omega
  ·rw[List.getElem?_eq_none (by simpa using hi),List.getElem?_eq_none (by simp;omega)]
 unfold zLt;rw[e,List.countP_append,List.countP_replicate,List.countP_replicate];simp
section
variable {P:Program}{H:List TO}{k:Nat}{ρ ρ':Operand→T}{L L2:List T}{cl yd:Cl}{d:Option Nat}{ops:Array Oper}
theorem zQk(op:Op)(h:∀x∈op.operands,ρ x=ρ' x):zAk P H ρ op=zAk P H ρ' op:=by
 cases op with
 | call c=>
  simp only[zAk];split
  ·rename_i x y t t' e1 e2 e3;have hm:∀z,z∈c.args.toList→z∈(Op.call c).operands:=fun z hz=>by
    simp only[Op.operands,Call.operands,Array.mem_append];right;simpa using hz
   rw[h x (hm x (by rw[e2];simp)),h y (hm y (by rw[e2];simp))]
  ·rename_i x y t t' e1 e2 e3;have hm:∀z,z∈c.args.toList→z∈(Op.call c).operands:=fun z hz=>by
    simp only[Op.operands,Call.operands,Array.mem_append];right;simpa using hz
   rw[h x (hm x (by rw[e2];simp)),h y (hm y (by rw[e2];simp))]
  ·rfl
 | _=>simp only[zAk]<;>simp_all [Op.operands]
def Par(d:Option Nat)(L L2:List T):Option S→Option S→Prop
 | none,none=>True
 | some s,some s2=>∃t,s.L=dst d t L∧s2.L=dst d t L2∧s.H=s2.H
 | _,_=>False
theorem zZu(r:T×Option TO):Par d L L2 (zNb d L H r) (zNb d L2 H r):=by
 obtain⟨t,ob⟩:=r;cases ob<;>exact⟨t,rfl,rfl,rfl⟩
theorem zZv(r:Option T×List TO):Par d L L2 (zNc d L r) (zNc d L2 r):=by
 obtain⟨t,H'⟩:=r;cases t with
 | some t=>exact⟨t,rfl,rfl,rfl⟩
 | none=>cases d with
  | none=>exact⟨.u,rfl,rfl,rfl⟩
  | some d=>trivial
theorem zEc(r:Option (T×List TO)):Par d L L2 (mY d L r) (mY d L2 r):=by
 cases r with
 | none=>trivial
 | some r=>exact⟨r.1,rfl,rfl,rfl⟩
theorem zVm(az:List T)(t:T):Par d L L2 (zBx P cl yd d L H az t) (zBx P cl yd d L2 H az t):=by
 cases t with
 | fn f cs=>
  simp only[zBx];cases jF P f with
  | true=>exact zEc _
  | false=>trivial
 | fb f bs=>
  simp only[zBx];cases jF P f with
  | true=>exact zEc _
  | false=>trivial
 | yl l=>exact zEc _
 | _=>trivial
theorem qHx(op:Op)(h:∀x∈op.operands,evO L x=evO L2 x):Par d L L2 (opC P cl yd d L H op) (opC P cl yd d L2 H op):=by
 cases op with
 | call c=>
  simp only[opC];split
  ·rename_i f e;rw[zAz (l:=c.args.toList) (ρ:=evO L) (ρ':=evO L2) (fun x hx=>h x (by simp only[Op.operands,Call.operands,Array.mem_append];right;simpa using hx)),h f (by simp[Op.operands,Call.operands,e])]
   exact zVm _ _
  ·trivial
 | _=>trivial
theorem qHz(o:Oper)(h:∀x∈o.op.operands,evO L x=evO L2 x)(hg:∀j b p t,o.guard=some (j,b)→ops[j]?=some p→p.dst=some t→nth .u L t=nth .u L2 t):Par o.dst L L2 (opE P cl yd ops o ⟨L,H⟩) (opE P cl yd ops o ⟨L2,H⟩):=by
 have hw:yK ops L o=yK ops L2 o:=by
  unfold yK;cases hgd:o.guard with
  | none=>rfl
  | some jb=>
   obtain⟨j,b⟩:=jb;cases hj:ops[j]? with
   | none=>simp only[hj]
   | some p=>
    cases hd:p.dst with
    | none=>simp only[hj,hd]
    | some t=>simp only[hj,hd,hg j b p t hgd hj hd]
 unfold opE;simp only[hw];cases yK ops L2 o with
 | none=>trivial
 | some q=>cases q with
  | false=>exact⟨_,rfl,rfl,rfl⟩
  | true=>
   simp only[lJ,nQ o.op h];cases yX P H (ln H) (evO L2) o.op with
   | some r=>exact zZu r
   | none=>
    simp only[zOf,zQk o.op h];cases zAk P H (evO L2) o.op with
    | some r=>exact zZv r
    | none=>
     have hc:=qHx (P:=P) (cl:=cl) (yd:=yd) (d:=o.dst) (H:=H) o.op h;revert hc;cases opC P cl yd o.dst L H o.op with
     | some x=>cases opC P cl yd o.dst L2 H o.op with
      | some y=>exact fun hc=>hc
      | none=>exact fun hc=>hc.elim
     | none=>cases opC P cl yd o.dst L2 H o.op with
      | some y=>exact fun hc=>hc.elim
      | none=>
       intro _;simp only[qCd,dU o h];cases aG P (evO L2) o with
       | none=>trivial
       | some t=>exact⟨t,rfl,rfl,rfl⟩
def nW(P:Program)(L:List T)(p:Oper)(v:T):Prop:=(∀H k,yX P H k (evO L) p.op=some (v,none))∨((∀H k,yX P H k (evO L) p.op=none)∧aG P (evO L) p=some v)
theorem lD{p:Oper}(h:jL p=true):p.guard=none:=by
 unfold jL at h;simp only[Bool.and_eq_true]at h;cases hg:p.guard with
 | none=>rfl
 | some x=>rw[hg]at h;cases h.1
theorem xK{p:Oper}(h:jL p=true):(match p.op with | .move _ | .assign _ | .pick .. | .nilCheck _ | .binOp .. | .unOp .. | .convert .. | .slice .. | .fieldAddr .. | .field .. | .indexAddr .. | .index .. | .extract .. =>True | _=>False):=by
 unfold jL at h;simp only[Bool.and_eq_true]at h;have h2:=h.2;split at h2<;>first | (rename_i e;rw[e];trivial) | cases h2
theorem fF{p:Oper}(h:jL p=true)(H H':List TO)(k k':Nat):yX P H k ρ p.op=yX P H' k' ρ p.op:=by
 have:=xK h;split at this<;>first | (rename_i e;rw[e];rfl) | exact this.elim
theorem qJ{t:T}{z:T×Option TO}(h:val t=some z):z.2=none:=by unfold val at h;cases h;rfl
theorem qSp{t:Option T}{z:T×Option TO}(h:zXj t=some z):z.2=none:=by
 unfold zXj at h;cases t with
 | none=>cases h
 | some t=>cases h;rfl
theorem zZp{op:BinOp}{t:TypeId}{xs ys:List T}{z:T×Option TO}(h:eq3 P op t xs ys=some z):z.2=none:=by
 unfold eq3 at h;split at h
 ·rename_i i a j b k c i' a' j' b' k' c';cases hc:xR P t (.prod (.int i) (.prod (.int j) (.int k)))&&(!P.eqGuardType P.depth t&&(Nat.beq (kind i) (kind i')&&(Nat.beq (kind j) (kind j')&&Nat.beq (kind k) (kind k'))))with
  | false=>rw[hc]at h;cases h
  | true=>
   rw[hc,cond_true]at h;split at h<;>first | exact qJ h | cases h
 ·cases h
theorem zIc{p:Oper}(h:jL p=true){z:T×Option TO}(hz:yX P H k ρ p.op=some z):z.2=none:=by
 have:=xK h;split at this;all_goals try exact this.elim
 all_goals rename_i e;rw[e]at hz;simp only[yX]at hz
 all_goals try exact qJ hz
 all_goals try cases hz
 all_goals first | unfold zIp at hz | unfold qIp at hz | unfold zWt at hz | unfold sP vE at hz | unfold nP at hz | unfold zKm at hz | unfold vQ at hz | unfold qIm at hz | unfold aM at hz
 all_goals repeat' split at hz
 all_goals try unfold zEu at hz
 all_goals repeat' split at hz
 all_goals try simp only[Bool.cond_eq_ite]at hz
 all_goals repeat' split at hz
 all_goals first | exact qJ hz | exact qSp hz | exact zZp hz | (cases hz;done) | (cases hz;rfl) | skip
theorem zIb{p:Oper}(h:jL p=true):zAk P H ρ p.op=none:=by
 have:=xK h;split at this<;>first | (rename_i e;rw[e];rfl) | exact this.elim
theorem zNu{p:Oper}(h:jL p=true):opC P cl yd d L H p.op=none:=by
 have:=xK h;split at this<;>first | (rename_i e;rw[e];rfl) | exact this.elim
theorem qGx{p:Oper}(h:jL p=true):yR p.op=true:=by
 have:=xK h;split at this<;>first | (rename_i e;rw[e];rfl) | exact this.elim
theorem zQv{p:Oper}(h:jL p=true):tH L p.op=none:=by
 have:=xK h;split at this<;>first | (rename_i e;rw[e];rfl) | exact this.elim
theorem zQw{p:Oper}{po:Po}(h:jL p=true):nY P po H L p.op=none:=by
 have:=xK h;split at this<;>first | (rename_i e;rw[e];rfl) | exact this.elim
theorem zWb{p:Oper}{H0:List TO}{q:Option Nat}(h:jL p=true):zGk P H0 H q L p.op=none:=by
 have:=xK h;split at this<;>first | (rename_i e;rw[e];rfl) | exact this.elim
theorem qBa{p:Oper}(h:jL p=true){v:T}(hv:nW P L p v):opE P cl yd ops p ⟨L,H⟩=some ⟨dst p.dst v L,H⟩:=by
 unfold opE yK;rw[lD h];simp only[lJ];rcases hv with hv | ⟨hv,hm⟩
 ·rw[hv];rfl
 ·rw[hv];simp only[zOf,zIb h,zNu h,qCd,hm]
theorem nW.congr{p:Oper}{v:T}(hv:nW P L p v)(h:∀x∈p.op.operands,evO L x=evO L2 x):nW P L2 p v:=by
 rcases hv with hv | ⟨hv,hm⟩
 ·exact .inl fun H k=>by rw[←nQ p.op h];exact hv H k
 ·exact .inr ⟨fun H k=>by rw[←nQ p.op h];exact hv H k,by rw[←dU p h];exact hm⟩
theorem nW.of_head{p:Oper}{po:Po}{H0 Hm Hn:List TO}{z:T×Option TO}(h:jL p=true)(hz:kD P po H0 Hm Hn L ops p=some z):z.2=none∧nW P L p z.1:=by
 unfold kD yK at hz;rw[lD h]at hz;simp only[rP,zQv h]at hz;cases hp:yX P Hm (ln Hn) (evO L) p.op with
 | some y=>
  simp only[hp,Option.some.injEq]at hz;subst hz;have h2:=zIc h hp;refine⟨h2,.inl fun H k=>?_⟩;rw[fF h H Hm k (ln Hn),hp];obtain⟨t,ob⟩:=y;cases h2;rfl
 | none=>
  simp only[hp,zQw h,zWb h]at hz;cases hm:aG P (evO L) p with
  | none=>simp[hm]at hz
  | some t=>
   simp only[hm,Option.some.injEq]at hz;subst hz;exact⟨rfl,.inr ⟨fun H k=>by rw[fF h H Hm k (ln Hn),hp],hm⟩⟩
def vZ(P:Program)(H:List TO)(L:List T)(p:Oper)(v:T):Prop:=(jL p=true∧nW P L p v)∨(p.guard=none∧∃t x,p.op= .load t x∧aN P H t (evO L x)=some (v,none))
theorem vZ.opE{p:Oper}{v:T}(hv:vZ P H L p v):opE P cl yd ops p ⟨L,H⟩=some ⟨dst p.dst v L,H⟩:=by
 rcases hv with⟨h,hv⟩ | ⟨hg,t,x,ho,hl⟩
 ·exact qBa h hv
 ·unfold Ev.opE yK;rw[hg];simp only[lJ,ho,yX,hl];rfl
theorem vZ.nd{p:Oper}{v:T}(hv:vZ P H L p v):yR p.op=true:=by
 rcases hv with⟨h,_⟩ | ⟨_,t,x,ho,_⟩
 ·exact qGx h
 ·rw[ho];rfl
theorem vZ.congr{p:Oper}{v:T}(hv:vZ P H L p v)(h:∀x∈p.op.operands,evO L x=evO L2 x):vZ P H L2 p v:=by
 rcases hv with⟨h1,hv⟩ | ⟨hg,t,x,ho,hl⟩
 ·exact .inl ⟨h1,hv.congr h⟩
 ·refine .inr ⟨hg,t,x,ho,?_⟩;rw[←h x (by rw[ho];simp[Op.operands])]
  exact hl
theorem zZs{x y:Value}(h:eqV x y=true):x=y:=by
 unfold eqV at h;split at h
 ·simp only[Bool.and_eq_true]at h;obtain rfl:=zTj h.1;rw[qAl]at h;simp at h;rw[h]
 ·rename_i a b;cases a<;>cases b<;>first | rfl | cases h
 ·rfl
 ·rfl
 ·rfl
 ·cases h
theorem yU{e:T→T→Bool}(he:∀a b,e a b=true→a=b):∀{l m:List T},mW e l m=true→l=m
 | [],[],_=>rfl
 | a::l,b::m,h=>by
  simp only[mW,Bool.and_eq_true]at h;rw[he a b h.1,yU he h.2]
 | [],_::_,h=>by cases h
 | _::_,[],h=>by cases h
theorem nG:∀(k:Nat)(a b:T),eqU k a b=true→a=b
 | 0,a,b,h=>by cases h
 | k+1,a,b,h=>by
  simp only[eqU]at h;split at h
  ·rw[zZs h]
  ·simp only[Bool.and_eq_true]at h;rw[qH h.1,yU (nG k) h.2]
  ·simp only[Bool.and_eq_true]at h;rw[qH h.1,yU (nG k) h.2]
  ·rw[yU (nG k) h]
  ·rw[yU (nG k) h]
  ·rw[yU (nG k) h]
  ·simp only[Bool.and_eq_true]at h;rw[qH h.1,yU (nG k) h.2]
  ·simp only[Bool.and_eq_true]at h;rw[qH h.1,qH h.2.1,qH h.2.2.1,qH h.2.2.2]
  ·simp only[Bool.and_eq_true]at h;rw[qH h.1,qH h.2.1,qH h.2.2]
  ·simp only[Bool.and_eq_true]at h;rw[qH h.1,qH h.2]
  ·rw[qH h]
  ·cases h
theorem zTd:∀{l:List Nat}{i:Nat},inN i l=true→i∈l
 | [],i,h=>by cases h
 | j::l,i,h=>by
  simp only[inN,Bool.or_eq_true]at h;rcases h with h | h
  ·rw[qH h];exact List.mem_cons_self
  ·exact List.mem_cons_of_mem _ (zTd h)
theorem zIe{s:S}:∀{l:List Nat},sD P ops s l=true→∀i∈l,∀p,ops[i]?=some p→qOb P s p=true
 | [],_,i,hi,_,_=>by cases hi
 | j::l,h,i,hi,p,hp=>by
  simp only[sD,Bool.and_eq_true]at h;rcases List.mem_cons.1 hi with rfl | hi
  ·have:=h.1;rwa[hp]at this
  ·exact zIe h.2 i hi p hp
theorem vZ.of_ld{s:S}{ld:List Nat}{i:Nat}{p:Oper}(hp:ops[i]?=some p)(hi:dA p=true)(hin:inN i ld=true)(hl:sD P ops s ld=true):∃d,p.dst=some d∧vZ P s.H s.L p (nth .u s.L d):=by
 have h1:=zIe hl i (zTd hin) p hp;unfold dA at hi;simp only[Bool.and_eq_true]at hi;have hg:p.guard=none:=by
  cases hg:p.guard with
  | none=>rfl
  | some _=>have:=hi.1;rw[hg]at this;cases this
 unfold qOb at h1;split at h1
 ·rename_i t x d ho hd;split at h1
  ·rename_i z hz;refine⟨d,hd,.inr ⟨hg,t,x,ho,?_⟩⟩;rw[hz,nG 12 _ _ h1]
  ·cases h1
 ·cases h1
theorem aA{m:Nat}{ld vl:List Nat}{i:Nat}{p:Oper}(h:kM m ld vl i p=true):jL p=true∨(dA p=true∧inN i ld=true):=by
 unfold kM at h;cases hb:Nat.blt i m with
 | true=>
  simp only[hb,cond_true,Bool.or_eq_true,Bool.and_eq_true]at h;exact h
 | false=>
  simp only[hb,cond_false,Bool.and_eq_true]at h;exact .inl h.1
theorem zIa{m:Nat}{ld vl:List Nat}{i:Nat}{p:Oper}(h:kM m ld vl i p=true):(jL p||dA p)=true:=by
 rcases aA h with h | ⟨h,_⟩<;>rw[h]<;>simp
theorem dR{m:Nat}{ld vl:List Nat}{i:Nat}{p:Oper}(h:kM m ld vl i p=true)(hm:m≤i):inN i vl=true:=by
 unfold kM at h;have hb:Nat.blt i m=false:=by
  cases hb:Nat.blt i m with
  | true=>rw[Nat.blt_eq]at hb;omega
  | false=>rfl
 simp only[hb,cond_false,Bool.and_eq_true]at h;exact h.2
theorem zIj{d:Nat}{x:Operand}(h:lH d x=true){t:Nat}(e:x= .tmp t):t≠d:=by
 subst e;intro e;subst e;simp[lH]at h
theorem free_spec{o p:Oper}(h:dF ops o p=true):∃d,p.dst=some d∧(∀t,Operand.tmp t∈o.op.operands→t≠d)∧(∀j b g t,o.guard=some (j,b)→ops[j]?=some g→g.dst=some t→t≠d)∧∀x,o.dst=some x→x≠d∧∀t,Operand.tmp t∈p.op.operands→t≠x:=by
 unfold dF at h;cases hd:p.dst with
 | none=>simp[hd]at h
 | some d=>
  simp only[hd,Bool.and_eq_true]at h;refine⟨d,rfl,fun t ht=>zIj (List.all_eq_true.1 h.1 _ (by simpa using ht)) rfl,fun j b g t h1 h2 h3=>?_,fun x hx=>?_⟩
  ·have h4:=h.2.1;rw[h1]at h4;simp only[h2,h3]at h4;intro e;subst e;simp at h4
  ·have h4:=h.2.2;rw[hx]at h4;simp only[Bool.and_eq_true]at h4;refine⟨fun e=>?_,fun t ht=>zIj (List.all_eq_true.1 h4.2 _ (by simpa using ht)) rfl⟩
   have:=h4.1;subst e;simp at this
end
structure FrL(n:Nat)(a:Act)(L:List T)(D:List Deferred)(B:Bm)(r:Rd)(pd:Nat→Prop):Prop where
 size:a.tmps.size=n
 len:L.length=n
 defers:a.defers=D
 reps:∀(t:Nat)(v:Value),¬pd t→a.tmps[t]?=some v→Rep B r (nth .u L t) v
open Classical in
noncomputable def sG(pd:Nat→Prop)(L:List T):List T:=L.mapIdx fun t x=>if pd t then .u else x
section
variable {pd:Nat→Prop}{L:List T}{t:Nat}{n:Nat}{a:Act}{D:List Deferred}{B:Bm}{r:Rd}
theorem zEs:(sG pd L).length=L.length:=by simp[sG]
theorem rV(h:¬pd t):nth .u (sG pd L) t=nth .u L t:=by
 simp only[qR,List.getD_eq_getElem?_getD,sG,List.getElem?_mapIdx,if_neg h];cases L[t]?<;>rfl
theorem qHi(h:pd t):nth .u (sG pd L) t= .u:=by
 simp only[qR,List.getD_eq_getElem?_getD,sG,List.getElem?_mapIdx,if_pos h];cases L[t]?<;>rfl
theorem FrL.mask(h:FrL n a L D B r pd):FrT n a (sG pd L) D B r:=by
 refine⟨h.size,zN.of ?_ fun t x v hx hv=>?_,h.defers⟩
 ·rw[zEs,h.len];simpa using h.size.symm
 ·have hx':x=nth .u (sG pd L) t:=by rw[qR,List.getD_eq_getElem?_getD,hx];rfl
  rw[hx'];by_cases hp:pd t
  ·rw[qHi hp];exact .u
  ·rw[rV hp];exact h.reps t v hp (by simpa using hv)
theorem FrL.all(h:FrL n a L D B r pd)(hp:∀t,¬pd t):FrT n a L D B r:=by
 refine⟨h.size,zN.of ?_ fun t x v hx hv=>?_,h.defers⟩
 ·rw[h.len];simpa using h.size.symm
 ·have hx':x=nth .u L t:=by rw[qR,List.getD_eq_getElem?_getD,hx];rfl
  rw[hx'];exact h.reps t v (hp t) (by simpa using hv)
end
theorem zIf{l:Array Bool}:∀{n:Nat},(∃i,i<n∧l.getD i false=false)→∃i,i<n∧l.getD i false=false∧∀q,q<i→l.getD q false=true:=by
 intro n h;have:∀k,(∀q,q<k→l.getD q false=true)∨∃i,i<k∧l.getD i false=false∧∀q,q<i→l.getD q false=true:=by
  intro k;induction k with
  | zero=>exact .inl fun q hq=>by omega
  | succ k ihk=>
   rcases ihk with h1 | ⟨i,h1,h2,h3⟩
   ·cases hc:l.getD k false with
    | true=>
     refine .inl fun q hq=>?_;rcases Nat.lt_succ_iff_lt_or_eq.1 hq with h | rfl
     ·exact h1 q h
     ·exact hc
    | false=>exact .inr ⟨k,by omega,hc,h1⟩
   ·exact .inr ⟨i,by omega,h2,h3⟩
 rcases this n with h1 | h1
 ·obtain⟨i,h2,h3⟩:=h;rw[h1 i h2]at h3;cases h3
 ·exact h1
theorem zGj.set{ops:List Oper}{l:Array Bool}{i:Nat}{o:Oper}(h:zGj ops fun q=>l.getD q false=true)(ho:ops[i]?=some o)(hil:i<l.size)(hall:∀e∈o.after,Region.binds .any e=true→l.getD e.on false=true):zGj ops fun q=>(l.setIfInBounds i true).getD q false=true:=by
 intro i2 o2 ho2 h2 e he hb;show(l.setIfInBounds i true).getD e.on false=true;have h2:(l.setIfInBounds i true).getD i2 false=true:=h2;have hon:l.getD e.on false=true:=by
  by_cases hii:i2=i
  ·subst hii;rw[ho]at ho2;cases ho2;exact hall e he hb
  ·rw[getD_set_ne false (Ne.symm hii)]at h2;exact h i2 o2 ho2 h2 e he hb
 by_cases he2:e.on=i
 ·rw[he2];exact yM hil
 ·rw[getD_set_ne false (Ne.symm he2)];exact hon
theorem zJy{P:Program}{cl yd:Cl}{ops:Array Oper}{p:Oper}{s s1:S}(h:jL p=true)(h1:opE P cl yd ops p s=some s1):∃v,nW P s.L p v∧s1=⟨dst p.dst v s.L,s.H⟩:=by
 unfold opE yK at h1;rw[lD h]at h1;simp only[lJ]at h1;cases hp:yX P s.H (ln s.H) (evO s.L) p.op with
 | some y=>
  simp only[hp]at h1;obtain⟨t,ob⟩:=y;have h2:=zIc h hp;simp only at h2;subst h2;simp only[zNb,Option.some.injEq]at h1;exact⟨t,.inl fun H k=>by rw[fF h H s.H k (ln s.H),hp],h1.symm⟩
 | none=>
  simp only[hp,zOf,zIb h,zNu h,qCd]at h1;cases hm:aG P (evO s.L) p with
  | none=>simp[hm]at h1
  | some t=>
   simp only[hm,Option.some.injEq]at h1;exact⟨t,.inr ⟨fun H k=>by rw[fF h H s.H k (ln s.H),hp],hm⟩,h1.symm⟩
def Pnd(ops:Array Oper)(m:Nat)(l:Array Bool)(t:Nat):Prop:=∃(i:Nat)(p:Oper),i<m∧l.getD i false=false∧ops[i]?=some p∧p.dst=some t
section
variable {P:Program}{E:Nat→Prop}{w0:World}{X:Hid}{F:List Nat}{n:Nat}{D:List Deferred}{ops:Array Oper}{cl yd:Cl}{Q:Exit→Act→World→Prop}{rr:Option Nat}
theorem qJg(hcl:yN P cl)(hyd:kG P yd){ld vl:List Nat}{m:Nat}
  (htl:∀(j:Nat)(o:Oper),m≤j→ops[j]?=some o→∀q,q<j→(∀S:Nat→Prop,zGj ops.toList S→(∀e∈o.after,Region.binds .any e=true→S e.on)→S q)∨∃p,ops[q]?=some p∧kM m ld vl q p=true∧dF ops o p=true)
  (hvl:∀(i:Nat)(o:Oper),ops[i]?=some o→inN i vl=true→jL o=true∧slf o=true∧∀(q:Nat)(p:Oper),q<i→ops[q]?=some p→(jL p||dA p)=true→wfr o p=true)
  (hdp:∀(i:Nat)(p:Oper)(t:Nat),i<m→ops[i]?=some p→Operand.tmp t∈p.op.operands→∀(i':Nat)(p':Oper),i'<m→ops[i']?=some p'→p'.dst=some t→∃e∈p.after,Region.binds .any e=true∧e.on=i')
  (heg:∀(j:Nat)(o:Oper),ops[j]?=some o→∀e∈o.after,Region.binds .any e=true→e.on<j) (hnd:∀o∈ops.toList,yR o.op=true):
  ∀(fuel j:Nat)(s s':S){a:Act}{w:World}{B:Bm}{Y:Hid}{Mo:List (Nat×Obj)}{l:Array Bool}{r0:Rd}{B0:Bm},lS P cl yd ops ld (ops.toList.drop j) s=some s'→m≤j→zLt l≤fuel→l.size=ops.size→(∀i,j≤i→l.getD i false=false)→zGj ops.toList (fun q=>l.getD q false=true)→
   (∀(i:Nat)(p:Oper),i<j→l.getD i false=false→ops[i]?=some p→kM m ld vl i p=true∧∃v,vZ P s.H s.L p v∧∀d,p.dst=some d→d<s.L.length→nth .u s.L d=v)→
   Wd P E w0 X F s.H B w Y Mo→FrL n a s.L D B (rd w Y) (Pnd ops j l)→BLe B0 B→Le r0 (rd w Y)→vY P E w0 X F n D s'.H s'.L B0 r0 (Q .normal)→wpAnyIn (FF rr) 0 P .any ops Q fuel l a w:=by
 have zZn:∀{i:Nat}{o:Oper},ops[i]?=some o→ops.toList.drop i=o::ops.toList.drop (i+1):=fun{i o}hoi=>by
  have h1:i<ops.toList.length:=by rw[Array.length_toList];exact(Array.getElem?_eq_some_iff.1 hoi).1
  rw[List.drop_eq_getElem_cons h1];congr 1;have:=(Array.getElem?_eq_some_iff.1 hoi).2;simpa using this
 have virt:∀(c j:Nat)(s s':S){a:Act}{w:World}{B:Bm}{Y:Hid}{l:Array Bool},lS P cl yd ops ld (ops.toList.drop j) s=some s'→m≤j→j+c≤ops.size→(∀i,j≤i→l.getD i false=false)→(∀q,j≤q→q<j+c→∃p,ops[q]?=some p∧kM m ld vl q p=true)→
   (∀(i:Nat)(p:Oper),i<j→l.getD i false=false→ops[i]?=some p→kM m ld vl i p=true∧∃v,vZ P s.H s.L p v∧∀d,p.dst=some d→d<s.L.length→nth .u s.L d=v)→FrL n a s.L D B (rd w Y) (Pnd ops j l)→
   ∃s2:S,s2.H=s.H∧lS P cl yd ops ld (ops.toList.drop (j+c)) s2=some s'∧(∀(i:Nat)(p:Oper),i<j+c→l.getD i false=false→ops[i]?=some p→kM m ld vl i p=true∧∃v,vZ P s2.H s2.L p v∧∀d,p.dst=some d→d<s2.L.length→nth .u s2.L d=v)∧FrL n a s2.L D B (rd w Y) (Pnd ops (j+c) l):=by
  intro c;induction c with
  | zero=>exact fun j s s'{a w B Y l}h _ _ _ _ hp hF=>⟨s,rfl,h,hp,hF⟩
  | succ c ihc=>
   intro j s s' a w B Y l h hm hsz hT hq hp hF;obtain⟨oj,hoj,hlj⟩:=hq j (Nat.le_refl _) (by omega)
   obtain⟨hk,hslf,hw⟩:=hvl j oj hoj (dR hlj hm);rw[zZn hoj]at h;simp only[lS]at h;cases h1:opE P cl yd ops oj s with
   | none=>simp[h1]at h
   | some s1=>
    simp only[h1]at h;cases hld:sD P ops s1 ld with
    | false=>simp[hld]at h
    | true=>
     simp only[hld,cond_true]at h;obtain⟨v,hv,rfl⟩:=zJy hk h1;have hp1:∀(i:Nat)(p:Oper),i<j+1→l.getD i false=false→ops[i]?=some p→kM m ld vl i p=true∧∃v',vZ P s.H (dst oj.dst v s.L) p v'∧∀d,p.dst=some d→d<(dst oj.dst v s.L).length→nth .u (dst oj.dst v s.L) d=v':=fun i p hi hl hpi=>by
      rcases Nat.lt_or_ge i j with hij | hij
      ·obtain⟨k4,v',k5,k6⟩:=hp i p hij hl hpi;have hwf:=zPp (hw i p hij hpi (zIa k4));refine⟨k4,v',k5.congr fun x hx=>?_,fun d hd hlt=>?_⟩
       ·cases x with
        | tmp t=>
         show nth .u s.L t=nth .u (dst oj.dst v s.L) t;rw[jT fun e=>(hwf t e).2 t hx rfl]
        | _=>rfl
       ·rw[tV]at hlt;rw[jT fun e=>(hwf d e).1 d hd rfl];exact k6 d hd hlt
      ·obtain rfl:i=j:=by omega
       rw[hoj]at hpi;cases hpi;refine⟨hlj,v,.inl ⟨hk,hv.congr fun x hx=>?_⟩,fun d hd hlt=>?_⟩
       ·cases x with
        | tmp t=>
         show nth .u s.L t=nth .u (dst oj.dst v s.L) t;rw[jT fun e=>zPk hslf t e t hx rfl]
        | _=>rfl
       ·rw[tV]at hlt;rw[hd,bS hlt]
     have G1:FrL n a (dst oj.dst v s.L) D B (rd w Y) (Pnd ops (j+1) l):=by
      refine⟨hF.size,by rw[tV];exact hF.len,hF.defers,fun t x hnp hx=>?_⟩
      have hne:oj.dst≠some t:=fun e=>hnp ⟨j,oj,Nat.lt_succ_self j,hT j (Nat.le_refl _),hoj,e⟩;rw[jT hne];exact hF.reps t x (fun⟨i',p',g1,g2,g3,g4⟩=>hnp ⟨i',p',by omega,g2,g3,g4⟩) hx
     obtain⟨s2,e1,e2,e3,e4⟩:=ihc (j+1) ⟨dst oj.dst v s.L,s.H⟩ s' h (by omega) (by omega) (fun i hi=>hT i (by omega)) (fun q h1 h2=>hq q (by omega) (by omega)) hp1 G1
     have hjc:j+1+c=j+(c+1):=by omega
     rw[hjc]at e2 e3 e4;exact⟨s2,e1,e2,e3,e4⟩
 have done:∀(fuel j:Nat)(s s':S){a:Act}{w:World}{B:Bm}{Y:Hid}{Mo:List (Nat×Obj)}{l:Array Bool}{r0:Rd}{B0:Bm},lS P cl yd ops ld (ops.toList.drop j) s=some s'→m≤j→l.size=ops.size→(∀i,j≤i→l.getD i false=false)→(∀i,i<ops.size→l.getD i false=true)→
   Wd P E w0 X F s.H B w Y Mo→FrL n a s.L D B (rd w Y) (Pnd ops j l)→BLe B0 B→Le r0 (rd w Y)→vY P E w0 X F n D s'.H s'.L B0 r0 (Q .normal)→wpAnyIn (FF rr) 0 P .any ops Q fuel l a w:=fun fuel j s s'{a w B Y Mo l r0 B0}h hmj hl hT hall hW hF hB hr hk=>by
  have hj:ops.size≤j:=by
   rcases Nat.lt_or_ge j ops.size with h1 | h1
   ·have h2:=hall j h1;rw[hT j (Nat.le_refl _)]at h2;cases h2
   ·exact h1
  rw[List.drop_eq_nil_of_le (by simpa using hj)]at h
  simp only[lS,Option.some.injEq]at h;subst h;refine wpAnyIn_done ?_ (hk _ _ _ _ _ hW (hF.all fun t ht=>?_) hB hr) fuel
  ·cases he:Region.ready .any ops l with
   | nil=>rfl
   | cons x xs=>
    exfalso;obtain⟨hun,o,ho,_⟩:=mem_ready.1 (by rw[he];exact List.mem_cons_self:x∈Region.ready .any ops l)
    have hx:=(Array.getElem?_eq_some_iff.1 ho).1;have h1:=hall x hx;have hs:x<l.size:=by omega
    simp[hs]at hun h1;rw[h1]at hun;cases hun
  ·obtain⟨i,p,_,h2,h3,_⟩:=ht;rw[hall i (Array.getElem?_eq_some_iff.1 h3).1]at h2;cases h2
 intro fuel;induction fuel with
 | zero=>
  intro j s s' a w B Y Mo l r0 B0 h hm hf hl hT hS hp hW hF hB hr hk;refine done 0 j s s' h hm hl hT (fun i hi=>?_) hW hF hB hr hk;cases hc:l.getD i false with
  | true=>rfl
  | false=>have:=aZ (by omega) hc;omega
 | succ fuel ih=>
  intro j s s' a w B Y Mo l r0 B0 h hm hf hl hT hS hp hW hF hB hr hk;by_cases hex:∃i,i<ops.size∧l.getD i false=false
  ·obtain⟨i0,hi0,hl0,hbelow⟩:=zIf hex;obtain⟨o0,ho0⟩:∃o,ops[i0]?=some o:=⟨ops[i0],by simp[hi0]⟩
   have hr0:i0∈Region.ready .any ops l:=zOy hl ho0 hl0 fun e he hb=>hbelow _ (heg i0 o0 ho0 e he hb);refine⟨fun h0=>absurd (h0▸hr0) (by simp),fun i hi=>?_⟩
   obtain⟨hun,oi,hoi,hall⟩:=mem_ready.1 hi;have hil:i<l.size:=by rw[hl];exact(Array.getElem?_eq_some_iff.1 hoi).1
   have hli:l.getD i false=false:=by simpa[hil]using hun
   have hoi':ops.toList[i]?=some oi:=by simpa using hoi
   have hS':=hS.set hoi' hil hall;have hu:=aZ hil hli;rcases Nat.lt_or_ge i j with hij0 | hij0
   ·obtain⟨hk1,v,hv,hvd⟩:=hp i oi hij0 hli hoi;have hcg:∀x∈oi.op.operands,evO s.L x=evO (sG (Pnd ops j l) s.L) x:=fun x hx=>by
     cases x with
     | tmp t=>
      refine(rV fun⟨i',p',h1,h2,h3,h4⟩=>?_).symm;have hk1':=(hp i' p' h1 h2 h3).1;rcases Nat.lt_trichotomy i' i with hlt | heq | hgt
      ·rcases Nat.lt_or_ge i m with him | him
       ·obtain⟨e,he,hb,hon⟩:=hdp i oi t him hoi hx i' p' (by omega) h3 h4
        have:=hall e he hb;rw[hon,h2]at this;cases this
       ·rcases htl i oi him hoi i' hlt with q1 | ⟨p2,q1,_,q2⟩
        ·have:=q1 (fun q=>l.getD q false=true) hS hall;rw[h2]at this;cases this
        ·rw[h3]at q1;cases q1;obtain⟨d,f1,f2,_⟩:=free_spec q2;rw[h4]at f1;cases f1;exact f2 t hx rfl
      ·subst heq;rw[hoi]at h3;cases h3;rcases Nat.lt_or_ge i' m with him | him
       ·obtain⟨e,he,hb,hon⟩:=hdp i' oi t him hoi hx i' oi him hoi h4;have:=heg i' oi hoi e he hb;omega
       ·exact zPk (hvl i' oi hoi (dR hk1 him)).2.1 t h4 t hx rfl
      ·rcases Nat.lt_or_ge i' m with him | him
       ·obtain⟨e,he,hb,hon⟩:=hdp i oi t (by omega) hoi hx i' p' him h3 h4
        have:=heg i oi hoi e he hb;omega
       ·exact(zPp ((hvl i' p' h3 (dR hk1' him)).2.2 i oi hgt hoi (zIa hk1)) t h4).2 t hx rfl
     | _=>rfl
    have hv':=hv.congr hcg;have hlo:=hv'.opE (cl:=cl) (yd:=yd) (ops:=ops);unfold wpOpIn;simp only[hoi];refine zEz hcl hyd hlo hv'.nd hW hF.mask fun a' w' B' Y' Mo' g1 g2 g3 g4=>?_;refine ih j s s' h hm (by omega) (by simpa using hl) (fun q hq=>?_) hS' (fun i' p h1 h2 h3=>?_) g1 ⟨g2.size,hF.len,g2.defers,fun t x hnp hx=>?_⟩ (hB.trans g3) (hr.trans g4) hk
    ·rw[getD_set_ne false (by omega)];exact hT q hq
    ·refine hp i' p h1 ?_ h3;by_cases e:i=i'
     ·subst e;rw[yM hil]at h2;cases h2
     ·rwa[getD_set_ne false e]at h2
    ·have hR:=g2.reps.getD t;have:a'.tmps.toList.getD t undef=x:=by simp[hx]
     rw[this]at hR;by_cases e:oi.dst=some t
     ·rcases Nat.lt_or_ge t s.L.length with ht | ht
      ·rw[hvd t e ht];have hR:Rep B' (rd w' Y') (nth .u (dst oi.dst v (sG (Pnd ops j l) s.L)) t) x:=hR;rwa[e,bS (by rw[zEs];exact ht)]at hR
      ·rw[qR,List.getD_eq_getElem?_getD,List.getElem?_eq_none ht];exact .u
     ·have hR:Rep B' (rd w' Y') (nth .u (dst oi.dst v (sG (Pnd ops j l) s.L)) t) x:=hR;have hmn:¬Pnd ops j l t:=fun⟨i',p',h1,h2,h3,h4⟩=>hnp ⟨i',p',h1,(by
       rw[getD_set_ne false (fun e'=>e (by subst e';rw[hoi]at h3;cases h3;exact h4))]
       exact h2),h3,h4⟩
      rwa[jT e,rV hmn]at hR
   ·have hpass:∀q,j≤q→q<j+(i-j)→∃p,ops[q]?=some p∧kM m ld vl q p=true:=fun q h1 h2=>by
     rcases htl i oi (by omega) hoi q (by omega)with h3 | ⟨p,h3,h4,_⟩
     ·have:=h3 (fun q=>l.getD q false=true) hS hall;rw[hT q h1]at this;cases this
     ·exact⟨p,h3,h4⟩
    obtain⟨s,hsH,h,hp,hF⟩:=virt (i-j) j s s' h hm (by have:=(Array.getElem?_eq_some_iff.1 hoi).1;omega) hT hpass hp hF
    have hji:j+(i-j)=i:=by omega
    rw[hji]at h hp hF;rw[←hsH]at hW;have him:m≤i:=by omega
    have hT:∀q,i≤q→l.getD q false=false:=fun q hq=>hT q (by omega)
    have hfree:∀(i':Nat)(p':Oper),i'<i→l.getD i' false=false→ops[i']?=some p'→dF ops oi p'=true:=fun i' p' h1 h2 h3=>by
     rcases htl i oi him hoi i' h1 with h4 | ⟨p,h4,_,h5⟩
     ·have:=h4 (fun q=>l.getD q false=true) hS hall;rw[this]at h2;cases h2
     ·rw[h3]at h4;cases h4;exact h5
    have hcg:∀x∈oi.op.operands,evO s.L x=evO (sG (Pnd ops i l) s.L) x:=fun x hx=>by
     cases x with
     | tmp t=>
      refine(rV fun⟨i',p',h1,h2,h3,h4⟩=>?_).symm;obtain⟨d,g1,g2,_⟩:=free_spec (hfree i' p' h1 h2 h3);rw[h4]at g1;cases g1;exact g2 t hx rfl
     | _=>rfl
    have hgd:∀j b p t,oi.guard=some (j,b)→ops[j]?=some p→p.dst=some t→nth .u s.L t=nth .u (sG (Pnd ops i l) s.L) t:=fun j b p t e1 e2 e3=>by
     refine(rV fun⟨i',p',h1,h2,h3,h4⟩=>?_).symm;obtain⟨d,g1,_,g2,_⟩:=free_spec (hfree i' p' h1 h2 h3);rw[h4]at g1;cases g1;exact g2 j b p t e1 e2 e3 rfl
    rw[zZn hoi]at h;simp only[lS]at h;cases h1:opE P cl yd ops oi s with
    | none=>simp[h1]at h
    | some s1=>
     simp only[h1]at h;cases hld:sD P ops s1 ld with
     | false=>simp[hld]at h
     | true=>
     simp only[hld,cond_true]at h;have hpar:=qHz (P:=P) (cl:=cl) (yd:=yd) (H:=s.H) oi hcg hgd;have h1':opE P cl yd ops oi ⟨s.L,s.H⟩=some s1:=h1;rw[h1']at hpar;cases h2:opE P cl yd ops oi ⟨sG (Pnd ops i l) s.L,s.H⟩with
     | none=>rw[h2]at hpar;exact hpar.elim
     | some s2=>
      rw[h2]at hpar;obtain⟨tv,e1,e2,e3⟩:=hpar;unfold wpOpIn;simp only[hoi];refine zEz hcl hyd h2 (hnd oi (by simpa using Array.mem_of_getElem? hoi)) hW hF.mask fun a' w' B' Y' Mo' g1 g2 g3 g4=>?_
      rw[←e3]at g1;rw[e2]at g2;refine ih (i+1) s1 s' h (by omega) (by omega) (by simpa using hl) (fun q hq=>?_) hS' (fun i' p k1 k2 k3=>?_) g1 ⟨g2.size,by rw[e1,tV];exact hF.len,g2.defers,fun t x hnp hx=>?_⟩ (hB.trans g3) (hr.trans g4) hk
      ·rw[getD_set_ne false (by omega)];exact hT q (by omega)
      ·have hne:i≠i':=fun e=>by
        subst e;rw[yM hil]at k2;cases k2
       rw[getD_set_ne false hne]at k2;obtain⟨k4,v,k5,k6⟩:=hp i' p (by omega) k2 k3
       obtain⟨d,f1,_,_,f4⟩:=free_spec (hfree i' p (by omega) k2 k3)
       rcases aA k4 with hkk | ⟨hk1,hk2⟩
       case inr=>
        obtain⟨d2,q1,q2⟩:=vZ.of_ld k3 hk1 hk2 hld;exact⟨k4,_,q2,fun d' hd' _=>by rw[q1]at hd';cases hd';rfl⟩
       have k5:vZ P s1.H s.L p v:=by
        rcases k5 with k5 | ⟨_,t,x,ho,_⟩
        ·exact .inl k5
        ·have:=xK hkk;rw[ho]at this;exact this.elim
       refine⟨k4,v,k5.congr fun x hx=>?_,fun d' hd' hlt=>?_⟩
       ·cases x with
        | tmp t=>
         show nth .u s.L t=nth .u s1.L t;rw[e1,jT fun e=>(f4 t e).2 t hx rfl]
        | _=>rfl
       ·rw[f1]at hd';cases hd';rw[e1,tV]at hlt;rw[e1,jT fun e=>(f4 d e).1 rfl];exact k6 d f1 hlt
      ·have hR:=g2.reps.getD t;have:a'.tmps.toList.getD t undef=x:=by simp[hx]
       rw[this]at hR;rw[e1];by_cases e:oi.dst=some t
       ·rcases Nat.lt_or_ge t s.L.length with ht | ht
        ·rw[e,bS ht];rwa[e,bS (by rw[zEs];exact ht)]at hR
        ·rw[qR,List.getD_eq_getElem?_getD,List.getElem?_eq_none (by rw[tV];exact ht)];exact .u
       ·rw[jT e];have hmn:¬Pnd ops i l t:=fun⟨i',p',h1,h2,h3,h4⟩=>hnp ⟨i',p',by omega,(by rw[getD_set_ne false (by omega)];exact h2),h3,h4⟩
        rwa[jT e,rV hmn]at hR
  ·refine done _ j s s' h hm hl hT (fun i hi=>?_) hW hF hB hr hk;cases hc:l.getD i false with
   | true=>rfl
   | false=>exact absurd ⟨i,hi,hc⟩ hex
end
structure Dr where
 P:Program
 E:Nat→Prop
 w0:World
 X:Hid
 F:List Nat
 n:Nat
 D:List Deferred
 ops:Array Oper
 H0:List TO
 Hm:List TO
 L0:List T
 rs:List (T×Option TO)
 B0:Bm
 r0:Rd
noncomputable def Dr.ks(R:Dr):List (Option Nat):=ksE R.ops.toList R.rs R.L0
structure FrD(R:Dr)(l:Array Bool)(a:Act)(B:Bm)(r:Rd):Prop where
 size:a.tmps.size=R.n
 defers:a.defers=R.D
 done:∀(i:Nat)(z:T×Option TO)(o:Oper)(d:Nat)(v:Value),R.rs[i]?=some z→R.ops[i]?=some o→o.dst=some d→l.getD i false=true→a.tmps[d]?=some v→Rep B r z.1 v
 rest:∀(t:Nat)(v:Value),(∀(i:Nat)(o:Oper),i<R.rs.length→R.ops[i]?=some o→o.dst=some t→l.getD i false=false)→a.tmps[t]?=some v→Rep B r (nth .u R.L0 t) v
structure Inv(R:Dr)(l:Array Bool)(a:Act)(w:World)(B:Bm)(Y:Hid)(Mo:List (Nat×Obj)):Prop where
 wd:Wd R.P R.E R.w0 R.X R.F (xI l R.ks R.H0++qP l 0 R.rs) B w Y Mo
 fr:FrD R l a B (rd w Y)
 ble:BLe R.B0 B
 le:Le R.r0 (rd w Y)
 free:∀(i:Nat)(t:T)(ob:TO),R.rs[i]?=some (t,some ob)→l.getD i false=false→B (R.H0.length+pos R.rs i)=none
 head:∀i,R.rs.length≤i→l.getD i false=false
 lsz:l.size=R.ops.size
structure Ok(R:Dr)(po:Po)(K:Nat):Prop where
 spec:∀(i:Nat)(z:T×Option TO),R.rs[i]?=some z→∃o,R.ops.toList[i]?=some o∧kD R.P po R.H0 R.Hm (R.Hm++zZ (R.rs.take i)) (yD R.ops.toList (R.rs.take i) R.L0) R.ops o=some z
 hd:zEi R.ops (R.ops.toList.take R.rs.length) (R.ops.toList.take R.rs.length) 0=true
 tl:cB R.ops R.rs.length (dS R.ops R.rs.length) (vlR R.ops R.rs.length) (R.ops.toList.take R.rs.length) ((xX R.ops.toList []).drop R.rs.length) (R.ops.toList.drop R.rs.length) R.rs.length=true
 eg:zEa R.ops.toList 0=true
 len:R.rs.length≤R.ops.toList.length
 slots:R.L0.length=R.n
 po:∀f az tv nw,po f az=some (tv,nw)→KnP R.P K f az tv nw
 bd:R.H0.length+R.ops.size≤K
 nd:∀o∈R.ops.toList,yR o.op=true
 hml:R.Hm.length=R.H0.length
 hms:∀(q:Nat)(x:TO),R.Hm[q]?=some x→x≠.gone→R.H0[q]?=some x
 ksg:∀q,some q∈R.ks→nth .gone R.Hm q= .gone
 ks1:∀(i j q:Nat),R.ks[i]?=some (some q)→R.ks[j]?=some (some q)→i=j
section
variable {R:Dr}{po:Po}{k:Nat}{l:Array Bool}{a:Act}{w:World}{B:Bm}{Y:Hid}{Mo:List (Nat×Obj)}{o:Oper}{i:Nat}{rr:Option Nat}{Q:Exit→Act→World→Prop}
theorem Ok.hget(hOk:Ok R po k){i:Nat}{o:Oper}(hi:i<R.rs.length)(ho:R.ops[i]?=some o):(R.ops.toList.take R.rs.length)[i]?=some o:=by
 rw[List.getElem?_take,if_pos hi];simpa using ho
theorem Ok.once(hOk:Ok R po k){i j:Nat}{o o':Oper}{d:Nat}(hi:i<R.rs.length)(hj:j<R.rs.length)(ho:R.ops[i]?=some o)(ho':R.ops[j]?=some o')(hd:o.dst=some d)(hd':o'.dst=some d):i=j:=by
 rcases Nat.lt_trichotomy i j with h | h | h
 ·exact absurd hd' ((kH hOk.hd i o (hOk.hget hi ho)).2.2 d hd j o' h (hOk.hget hj ho'))
 ·exact h
 ·exact absurd hd ((kH hOk.hd j o' (hOk.hget hj ho')).2.2 d hd' i o h (hOk.hget hi ho))
theorem zUq(hOk:Ok R po k)(hI:Inv R l a w B Y Mo)(hi:i<R.rs.length)(ho:R.ops[i]?=some o)(hr:∀e∈o.after,Region.binds .any e=true→l.getD e.on false=true){t:Nat}(hs:zBm (R.ops.toList.take R.rs.length) o i t=true):
  Rep B (rd w Y) (nth .u (yD R.ops.toList (R.rs.take i) R.L0) t) (a.tmps.getD t undef):=by
 cases hv:a.tmps[t]? with
 | none=>
  have ht:R.n≤t:=by
   rcases Nat.lt_or_ge t R.n with h | h
   ·rw[←hI.fr.size]at h;simp[h]at hv
   ·exact h
  have:nth .u (yD R.ops.toList (R.rs.take i) R.L0) t= .u:=by
   rw[qR,List.getD_eq_getElem?_getD,List.getElem?_eq_none (by rw[fD,hOk.slots];exact ht)];rfl
  rw[this];exact .u
 | some v=>
  have hget:a.tmps.getD t undef=v:=by simp[hv]
  rw[hget];unfold zBm at hs;cases hw:wrt t (R.ops.toList.take R.rs.length) 0 with
  | none=>
   have hn:=gD hw;have h0:∀(j:Nat)(o':Oper),j<R.rs.length→R.ops[j]?=some o'→o'.dst≠some t:=fun j o' hj ho'=>hn j o' (hOk.hget hj ho');rw[rT _ _ _ _ (fun j o' hj ho'=>h0 j o' (by simp at hj;omega) (by simpa using ho'))]
   exact hI.fr.rest t v (fun j o' hj ho' hd=>absurd hd (h0 j o' hj ho')) hv
  | some j=>
   simp only[hw,Bool.and_eq_true,Nat.blt_eq]at hs;obtain⟨j',o',e1,h1,h2⟩:=zAd hw;obtain rfl:j=j':=by omega
   have hj:j<R.rs.length:=by omega
   have ho':R.ops[j]?=some o':=by
    rw[List.getElem?_take,if_pos hj]at h1;simpa using h1
   obtain⟨e,he,hb,hon⟩:=zCj hs.2;have hdone:l.getD j false=true:=by rw[←hon];exact hr e he hb
   obtain⟨z,hz⟩:∃z,R.rs[j]?=some z:=⟨R.rs[j],by simp[hj]⟩
   have ht:t<R.L0.length:=by
    have:=(Array.getElem?_eq_some_iff.1 hv).1;rw[hI.fr.size]at this;rw[hOk.slots];exact this
   rw[fE _ _ _ t j o' z ht (by simpa using ho') (by rw[List.getElem?_take,if_pos hs.1];exact hz) h2 fun q o2 hq hl ho2 hd2=>?_]
   ·exact hI.fr.done j z o' t v hz ho' h2 hdone hv
   ·exact hq (hOk.once (by simp at hl;omega) hj (by simpa using ho2) ho' hd2 h2)
theorem qIj(hOk:Ok R po k)(hI:Inv R l a w B Y Mo)(hi:i<R.rs.length)(ho:R.ops[i]?=some o)(hr:∀e∈o.after,Region.binds .any e=true→l.getD e.on false=true)(x:Operand)(hx:x∈o.op.operands):
  Rep B (rd w Y) (evO (yD R.ops.toList (R.rs.take i) R.L0) x) (a.eval x):=by
 have h:=(kH hOk.hd i o (hOk.hget hi ho)).1 x (by simpa using hx)
 rw[Nat.zero_add]at h;cases x with
 | tmp t=>exact zUq hOk hI hi ho hr h
 | const v=>exact aH v
 | global g=>exact .u
 | func f=>exact Rep.mkFn (vs:=[]) trivial
theorem qEp{ops:Array Oper}{L:List T}{r:Rd}(hg:∀j b p t,o.guard=some (j,b)→ops[j]?=some p→p.dst=some t→Rep B r (nth .u L t) (a.tmps.getD t undef)){q:Bool}(h:yK ops L o=some q):Region.wanted o (yielded ops a.tmps)=q:=by
 unfold yK at h;unfold Region.wanted;cases hgd:o.guard with
 | none=>simp only[hgd,Option.some.injEq]at h;simpa using h
 | some jb=>
  obtain⟨j,b⟩:=jb;simp only[hgd]at h;cases hj:ops[j]? with
  | none=>simp[hj]at h
  | some p=>
   simp only[hj]at h;cases hd:p.dst with
   | none=>simp[hd]at h
   | some t=>
    simp only[hd]at h;have hR:=hg j b p t hgd hj hd;split at h
    ·rename_i c e;rw[e]at hR;obtain⟨hv,_⟩:=hR.vI;cases ht:a.tmps[t]? with
     | none=>simp[ht]at hv;cases hv
     | some u=>
      have:u= .bool c:=by simpa[ht]using hv
      subst this;simp only[yielded,hj,hd,Option.bind_some,ht];cases h;cases c<;>cases b<;>rfl
    ·cases h
    ·rename_i e;rw[e]at hR;obtain⟨vs,hv,hl⟩:=hR.tuI;cases vs with
     | cons x y=>exact hl.elim
     | nil=>
      cases h;cases ht:a.tmps[t]? with
      | none=>simp only[yielded,hj,hd,Option.bind_some,ht];cases b<;>rfl
      | some u=>
       have:u= .tuple #[]:=by simpa[ht]using hv
       subst this;simp only[yielded,hj,hd,Option.bind_some,ht];cases b<;>rfl
    ·cases h
theorem zOc{l:List TO}{i:Nat}{x:TO}(h:nth .gone l i=x)(hx:x≠.gone):l[i]?=some x:=by
 rw[qR,List.getD_eq_getElem?_getD]at h;cases hi:l[i]? with
 | none=>rw[hi]at h;exact absurd h.symm hx
 | some y=>rw[hi]at h;simp at h;rw[h]
theorem FrD.step(hOk:Ok R po k){r:Rd}(h:FrD R l a B r)(hi:i<R.rs.length)(ho:R.ops[i]?=some o){z:T×Option TO}(hz:R.rs[i]?=some z){v:Value}(hv:Rep B r z.1 v)(hls:i<l.size):FrD R (l.setIfInBounds i true) (a.put o.dst v) B r:=by
 have htm:∀t,(a.put o.dst v).tmps[t]?=if o.dst=some t∧t<a.tmps.size then some v else a.tmps[t]?:=fun t=>by
  cases hd:o.dst with
  | none=>simp[Act.put]
  | some d=>
   simp only[Act.put,Option.some.injEq];by_cases e:d=t
   ·subst e;by_cases hlt:d<a.tmps.size
    ·simp[hlt]
    ·simp[hlt]
   ·rw[Array.getElem?_setIfInBounds_ne e,if_neg (fun h=>e h.1)]
 refine⟨?_,?_,fun j z' o' d u hz' ho' hd' hl hu=>?_,fun t u hn hu=>?_⟩
 ·cases hd:o.dst<;>simp[Act.put,h.size]
 ·cases hd:o.dst<;>simp[Act.put,h.defers]
 ·rw[htm]at hu;by_cases e:i=j
  ·subst e;rw[ho]at ho';cases ho';rw[hz]at hz';cases hz';split at hu
   ·cases hu;exact hv
   ·rename_i hn;have:=(Array.getElem?_eq_some_iff.1 hu).1;exact absurd ⟨hd',this⟩ hn
  ·rw[getD_set_ne false e]at hl;split at hu
   ·rename_i hc;exact absurd (hOk.once hi (List.getElem?_eq_some_iff.1 hz').1 ho ho' hc.1 hd') e
   ·exact h.done j z' o' d u hz' ho' hd' hl hu
 ·rw[htm]at hu;split at hu
  ·rename_i hc;have:=hn i o hi ho hc.1;rw[yM hls]at this;cases this
  ·refine h.rest t u (fun j o' hj ho' hd=>?_) hu;have:=hn j o' hj ho' hd;by_cases e:i=j
   ·subst e;rw[yM hls]at this;cases this
   ·rwa[getD_set_ne false e]at this
theorem FrD.mono{r r':Rd}{B':Bm}(h:FrD R l a B r)(hB:BLe B B')(hr:Le r r'):FrD R l a B' r':=
 ⟨h.size,h.defers,fun i z o d v h1 h2 h3 h4 h5=>(h.done i z o d v h1 h2 h3 h4 h5).mono hB hr,fun t v h1 h2=>(h.rest t v h1 h2).mono hB hr⟩
theorem Inv.val(hOk:Ok R po k)(hI:Inv R l a w B Y Mo){w':World}(hw:Upd E0 w w')(hi:i<R.rs.length)(ho:R.ops[i]?=some o){t:T}(hz:R.rs[i]?=some (t,none)){v:Value}(hv:Rep B (rd w' Y) t v)(hls:i<l.size):
  Inv R (l.setIfInBounds i true) (a.put o.dst v) w' B Y Mo:=by
 have e:=dV l R.rs 0 i t hz;rw[Nat.zero_add]at e;have ek:xI (l.setIfInBounds i true) R.ks R.H0=xI l R.ks R.H0:=zAw fun q hq=>by
  have:=zJx R.ops.toList R.rs R.L0 i o _ (by simpa using ho) hz
  rw[show ksE R.ops.toList R.rs R.L0=R.ks from rfl,hq]at this;cases this
 refine⟨by rw[e,ek];exact hI.wd.call hw,FrD.step hOk (hI.fr.mono (BLe.refl B) (hw.le Y)) hi ho hz hv hls,hI.ble,hI.le.trans (hw.le Y),fun j t' ob hj hl=>?_,fun j hj=>?_,by simpa using hI.lsz⟩
 ·by_cases e:i=j
  ·subst e;rw[hz]at hj;cases hj
  ·rw[getD_set_ne false e]at hl;exact hI.free j t' ob hj hl
 ·rw[getD_set_ne false (by omega)];exact hI.head j hj
theorem Ok.sub0(hOk:Ok R po k){q:Nat}{x:TO}(h:R.Hm[q]?=some x)(hx:x≠.gone):(xI l R.ks R.H0)[q]?=some x:=by
 rw[vM,hOk.hms q x h hx];have:yQ l R.ks q=false:=by
  cases hk:yQ l R.ks q with
  | false=>rfl
  | true=>
   obtain⟨i,h1,_⟩:=jU.1 hk;have h2:=hOk.ksg q (List.mem_of_getElem? h1);rw[qR,List.getD_eq_getElem?_getD,h]at h2;exact absurd h2 hx
 simp[this]
theorem zUv(hOk:Ok R po k)(hI:Inv R l a w B Y Mo){q:Nat}{x:TO}(hB:B q≠none)(h:(R.Hm++zZ (R.rs.take i))[q]?=some x)(hx:x≠.gone):(xI l R.ks R.H0++qP l 0 R.rs)[q]?=some x:=by
 rcases Nat.lt_or_ge q R.H0.length with hlt | hge
 ·rw[List.getElem?_append_left (by rw[hOk.hml];exact hlt)]at h
  rw[List.getElem?_append_left (by rw[jK];exact hlt)]
  exact hOk.sub0 h hx
 ·rw[List.getElem?_append_right (by rw[hOk.hml];exact hge),hOk.hml]at h
  rw[List.getElem?_append_right (by rw[jK];exact hge),jK]
  obtain⟨j,t',h1,h2,h3⟩:=zBe _ _ _ _ h;have hlj:l.getD j false=true:=by
   cases hlj:l.getD j false with
   | true=>rfl
   | false=>exact absurd (by rw[←hI.free j t' x h2 hlj,h3];congr 1;omega) hB
  have:=fM l R.rs 0 j t' x h2;rw[Nat.zero_add,hlj,h3]at this;rw[this];rfl
theorem zDe{H K:List TO}{q:Nat}{x:TO}(hs:∀x,H[q]?=some x→x≠.gone→K[q]?=some x)(h:nth .gone H q=x)(hx:x≠.gone):nth .gone K q=x:=by
 have:=hs x (zOc h hx) hx;rw[qR,List.getD_eq_getElem?_getD,this];rfl
theorem zEx{H K:List TO}{q:Nat}{cs:List T}(hs:∀x,H[q]?=some x→x≠.gone→K[q]?=some x)(h:rX (nth .gone H q)=some cs):rX (nth .gone K q)=some cs:=by
 cases hx:nth .gone H q with
 | gone=>rw[hx]at h;cases h
 | _=>rw[hx]at h;rw[zDe hs hx (by simp)];exact h
theorem qAb{H K:List TO}{t:T}{cs:List T}(hs:∀(q:Nat)(x:TO),H[q]?=some x→x≠.gone→K[q]?=some x)(h:dG H t=some cs):dG K t=some cs:=by
 cases t<;>simp only[dG]at h ⊢<;>try exact h
 rename_i i o;cases hr:rX (nth .gone H i)with
 | none=>simp[hr]at h
 | some x=>rw[zEx (fun x=>hs i x) hr];rw[hr]at h;exact h
theorem zAi{H K:List TO}{s:Nat}{t:T}{v:Value}{cs:List T}{r:Rd}(hR:Rep B r t v)(hs:∀(q:Nat)(x:TO),B q≠none→H[q]?=some x→x≠.gone→K[q]?=some x)(h:zX H s t=some cs):zX K s t=some cs:=by
 cases t with
 | os i o n c=>
  obtain⟨b,C,_,hB⟩:=hR.osI;simp only[zX]at h ⊢;cases hr:rX (nth .gone H i)with
  | none=>simp[hr]at h
  | some x=>rw[zEx (fun x=>hs i x (by rw[hB];simp)) hr];rw[hr]at h;exact h
 | og i o n=>
  obtain⟨b,C,c,_,hB,_⟩:=hR.ogI;simp only[zX]at h ⊢;cases hr:rX (nth .gone H i)with
  | none=>simp[hr]at h
  | some x=>rw[zEx (fun x=>hs i x (by rw[hB];simp)) hr];rw[hr]at h;exact h
 | v x=>
  unfold zX at h ⊢;split at h<;>first | exact h | (rename_i e;cases e;done) | skip
  all_goals first | (rename_i e;cases e;simp) | cases h
 | _=>exact h
open Classical in
theorem zVz(hOk:Ok R po k)(hI:Inv R l a w B Y Mo)(hi:i<R.rs.length)(hr:i∈Region.ready .any R.ops l){K:Act→World→Prop}
  (hk:∀a' w' B' Y' Mo',Inv R (l.setIfInBounds i true) a' w' B' Y' Mo'→K a' w'):wpOpIn (FF rr) 0 R.P R.ops Q i K a w:=by
 obtain⟨hun,o,ho,hall⟩:=mem_ready.1 hr;obtain⟨z,hz⟩:∃z,R.rs[i]?=some z:=⟨R.rs[i],by simp[hi]⟩
 obtain⟨o',ho',hop⟩:=hOk.spec i z hz;have hls:i<l.size:=by
  rw[hI.lsz];exact(Array.getElem?_eq_some_iff.1 ho).1
 have hunl:l.getD i false=false:=by simpa[hls]using hun
 obtain rfl:o=o':=by
  have h1:R.ops.toList[i]?=some o:=by simpa using ho
  rw[h1]at ho';exact Option.some.inj ho'
 have hopn:=qIj hOk hI hi ho hall;have hgr:∀j b p t,o.guard=some (j,b)→R.ops[j]?=some p→p.dst=some t→Rep B (rd w Y) (nth .u (yD R.ops.toList (R.rs.take i) R.L0) t) (a.tmps.getD t undef):=fun j b p t h1 h2 h3=>by
  have:=(kH hOk.hd i o (hOk.hget hi ho)).2.1;rw[Nat.zero_add]at this;unfold qAh at this;simp only[h1,h2,h3]at this;exact zUq hOk hI hi ho hall this
 unfold wpOpIn;simp only[ho];unfold kD at hop;cases hw:yK R.ops (yD R.ops.toList (R.rs.take i) R.L0) o with
 | none=>simp[hw]at hop
 | some q=>
  rw[qEp hgr hw];have hnd:kN o.op=true:=by rw[←zEw];exact hOk.nd o (by simpa using Array.mem_of_getElem? ho)
  cases q with
  | false=>
   simp only[hw,Option.some.injEq]at hop;subst hop;simp only[Bool.false_eq_true,if_false];exact⟨fun f _=>yY rr f,hk _ _ _ _ _ (hI.val hOk (Upd.refl _ _) hi ho hz (Rep.mkTu (vs:=[]) trivial) hls)⟩
  | true=>
   simp only[hw]at hop;simp only[if_true];refine zKk hnd ?_;generalize hL:yD R.ops.toList (R.rs.take i) R.L0=L at hop hopn;have hρ:∀x,Rep B (rd w Y) ((fun x=>if x∈o.op.operands then evO L x else T.u) x) (a.eval x):=fun x=>by
    by_cases hx:x∈o.op.operands
    ·simp only[hx,if_true];exact hopn x hx
    ·simp only[hx,if_false];exact .u
   have hcg:∀x∈o.op.operands,evO L x=(fun x=>if x∈o.op.operands then evO L x else T.u) x:=fun x hx=>by simp only[hx,if_true]
   have hsub:∀(q:Nat)(x:TO),R.Hm[q]?=some x→x≠.gone→(xI l R.ks R.H0++qP l 0 R.rs)[q]?=some x:=fun q x h1 h2=>by
    have hq:q<R.H0.length:=by rw[←hOk.hml];exact(List.getElem?_eq_some_iff.1 h1).1
    rw[List.getElem?_append_left (by rw[jK];exact hq)]
    exact hOk.sub0 h1 h2
   have hH:zGh B (rd w Y) w R.Hm:=⟨fun t v n cs us h1 h2 h3=>hI.wd.from h1 (qAb hsub h2) h3,fun q b C ml hB hn=>hI.wd.hp.map q b C ml hB (zDe (hsub q) hn (by simp)),fun q b C md hB hn=>hI.wd.hp.mapd q b C md hB (zDe (hsub q) hn (by simp))⟩
   unfold rP at hop;have hid:ln (R.Hm++zZ (R.rs.take i))=R.H0.length+pos R.rs i:=by rw[qL];simp[pos,hOk.hml]
   have hks:=zJx R.ops.toList R.rs R.L0 i o z (by simpa using ho) hz
   rw[show ksE R.ops.toList R.rs R.L0=R.ks from rfl,hL]at hks;have hgoneAt:∀(t:T)(ob:TO),z=(t,some ob)→(xI l R.ks R.H0++qP l 0 R.rs)[R.H0.length+pos R.rs i]?=some .gone:=fun t ob e=>by
    subst e;rw[List.getElem?_append_right (by rw[jK];exact Nat.le_add_right _ _),jK,Nat.add_sub_cancel_left,fM l R.rs 0 i t ob hz,Nat.zero_add,hunl];rfl
   have hfree:∀(t:T)(ob:TO)(p:Nat×Nat),z=(t,some ob)→∀(j:Nat)(t':T)(ob':TO),R.rs[j]?=some (t',some ob')→(l.setIfInBounds i true).getD j false=false→wJ B (R.H0.length+pos R.rs i) p (R.H0.length+pos R.rs j)=none:=fun t ob p e j t' ob' hj hlj=>by
    subst e;have hji:i≠j:=fun e=>by subst e;rw[yM hls]at hlj;cases hlj
    rw[getD_set_ne false hji]at hlj;have hne:R.H0.length+pos R.rs j≠R.H0.length+pos R.rs i:=fun e=>by
     have e':pos R.rs j=pos R.rs i:=by omega
     rcases Nat.lt_trichotomy i j with h | h | h
     ·have:=zRo R.rs i j t ob hz h;omega
     ·exact hji h
     ·have:=zRo R.rs j i t' ob' hj h;omega
    rw[jH _ _ hne];exact hI.free j t' ob' hj hlj
   have app:∀(kq:Option Nat),(z.2≠none→R.ks[i]?=some kq)→zGk R.P R.H0 (R.Hm++zZ (R.rs.take i)) kq L o.op=some z→o.wp R.P a w K Q:=fun kq hkq hap=>by
    generalize hopq:o.op=op at hap;unfold zGk at hap;split at hap
    ·rename_i c;split at hap
     ·rename_i x y t t' e1 e2 e3;cases htt:Nat.beq t t' with
      | false=>simp[htt]at hap
      | true=>
       obtain rfl:=qH htt;simp only[htt,cond_true]at hap;have hargs:c.args=#[x,y]:=Array.ext' (by simpa using e2)
       have hts:c.argTypes=#[t,t]:=Array.ext' (by simpa using e3)
       have hmem:∀u,u=x∨u=y→u∈o.op.operands:=fun u hu=>by
        rw[hopq];simp only[Op.operands,Call.operands,hargs,Array.mem_append];right;rcases hu with rfl | rfl<;>simp
       have hx:=hopn x (hmem x (.inl rfl));have hy:=hopn y (hmem y (.inr rfl));unfold zVh at hap;cases he:elT R.P t with
       | none=>simp[he]at hap
       | some e=>
        have ht:=xG he;cases hd:ldT R.P e with
        | none=>simp[he,hd]at hap
        | some gs=>
         obtain⟨g,s⟩:=gs;simp only[he,hd]at hap;split at hap
         ·rename_i us nx vs ny c1 c2 c4;cases hcond:!Nat.beq ny 0&&(bG R.P e s (nx+ny)&&kY vs)with
          | false=>simp[hcond]at hap
          | true=>
           simp only[hcond,cond_true,Option.some.injEq]at hap;simp only[Bool.and_eq_true,Bool.not_eq_true']at hcond;obtain⟨hny0,hok1,hok2⟩:=hcond;have hny:0<ny:=by
            rcases Nat.eq_zero_or_pos ny with h0 | h0
            ·subst h0;simp at hny0
            ·exact h0
           have hsubB:∀(q:Nat)(x:TO),B q≠none→(R.Hm++zZ (R.rs.take i))[q]?=some x→x≠.gone→(xI l R.ks R.H0++qP l 0 R.rs)[q]?=some x:=fun q x h1 h2 h3=>zUv hOk hI h1 h2 h3;have c2':=zAi hy hsubB c2;have hzz:=hap.symm;subst hzz;have hkq:=hkq (by simp)
           have hkill:∀q,kq=some q→yQ l R.ks q=false:=fun q e=>by
            subst e;cases hk':yQ l R.ks q with
            | false=>rfl
            | true=>
             obtain⟨j,h1,h2⟩:=jU.1 hk';obtain rfl:=hOk.ks1 i j q hkq h1;rw[hunl]at h2;cases h2
           have hbase:zJa (xI l R.ks R.H0++qP l 0 R.rs) e s nx us (evO L x)∧zX (xI l R.ks R.H0++qP l 0 R.rs) s (evO L x)=some us.list∧qV (evO L x)=some nx∧
             (∀j o' m,evO L x= .og j o' m→kq=some j∧∃y,(xI l R.ks R.H0++qP l 0 R.rs)[j]?=some y∧kV y=true∧j<R.H0.length)∧(kq≠none→∃j o' m,evO L x= .og j o' m):=by
            unfold zYl at c1;cases kq with
            | none=>
             simp only at c1;split at c1
             ·rename_i e4;cases c1;rw[e4];exact⟨.inl ⟨_,rfl⟩,rfl,rfl,fun j o' m h=>(by cases h),fun h=>absurd rfl h⟩
             ·rename_i i' o' m c' e4;cases hb:Nat.beq m c' with
              | false=>simp[hb]at c1
              | true=>
               obtain rfl:=qH hb;simp only[hb,cond_true]at c1;cases hcl:zX (R.Hm++zZ (R.rs.take i)) s (evO L x)with
               | none=>simp[hcl]at c1
               | some u=>
                simp only[hcl,Option.some.injEq,Prod.mk.injEq]at c1;obtain⟨rfl,rfl⟩:=c1;have:=zAi hx hsubB hcl;exact⟨.inr (.inr (.inl ⟨_,_,_,e4⟩)),this,by rw[e4];rfl,fun j o' m h=>(by rw[e4]at h;cases h),fun h=>absurd rfl h⟩
             ·rename_i cs m e4;cases hcl:zX (R.Hm++zZ (R.rs.take i)) s (evO L x)with
              | none=>simp[hcl]at c1
              | some u=>
               simp only[hcl,Option.some.injEq,Prod.mk.injEq]at c1;obtain⟨rfl,rfl⟩:=c1;have:=zAi hx hsubB hcl;exact⟨.inr (.inl ⟨_,_,e4⟩),this,by rw[e4];rfl,fun j o' m h=>(by rw[e4]at h;cases h),fun h=>absurd rfl h⟩
             ·cases c1
            | some q=>
             simp only at c1;split at c1
             ·rename_i j o' m e4;cases hb:Nat.beq j q&&Nat.beq o' 0 with
              | false=>simp[hb]at c1
              | true=>
               simp only[hb,cond_true]at c1;simp only[Bool.and_eq_true]at hb;obtain rfl:=qH hb.1;obtain rfl:=qH hb.2;split at c1
               ·rename_i cs e' hn;cases hb2:Nat.beq (ln cs.list) (m*s)&&Nat.beq e e' with
                | false=>simp[hb2]at c1
                | true=>
                 simp only[hb2,cond_true,Option.some.injEq,Prod.mk.injEq]at c1;obtain⟨rfl,rfl⟩:=c1;simp only[Bool.and_eq_true,qL]at hb2;obtain rfl:=qH hb2.2;have hcs:=qH hb2.1;have hg:=zOc hn (by simp)
                 have hjl:j<R.H0.length:=(List.getElem?_eq_some_iff.1 hg).1;have hg2:(xI l R.ks R.H0++qP l 0 R.rs)[j]?=some (.gro cs e):=by
                  rw[List.getElem?_append_left (by rw[jK];exact hjl),vM,hg,hkill j rfl];rfl
                 refine⟨.inr (.inr (.inr ⟨j,e4,hg2,hcs⟩)),?_,by rw[e4];rfl,fun j' o' m' h=>?_,fun _=>⟨_,_,_,e4⟩⟩
                 ·rw[e4];simp only[zX,qR,List.getD_eq_getElem?_getD,hg2,Option.getD_some,rX];have:jC (m*s) (qX cs.list 0)=some cs.list:=by
                   rw[tT,List.drop_zero,←hcs];exact zIw cs.list
                  exact this
                 ·rw[e4]at h;cases h;exact⟨rfl,_,hg2,rfl,hjl⟩
               ·cases c1
             ·cases c1
           obtain⟨hb1,c1',c3,hb4,hb5⟩:=hbase;obtain⟨C,hC1,hC2,hA⟩:=zMi (ty:=o.type) hI.wd hx hy ht hd c1' c2' c3 c4 hny hok1 hok2 hb1;have hgo:=hgoneAt _ _ rfl;have hBi:=hI.free i _ _ hz hunl;have hlist:∀(x0:TO),(match kq with | some q=>((xI l R.ks R.H0++qP l 0 R.rs).set q .gone).set (R.H0.length+pos R.rs i) (.gro (us.apY (evO L y) vs) e) | none=>(xI l R.ks R.H0++qP l 0 R.rs).set (R.H0.length+pos R.rs i) (.gro (us.apY (evO L y) vs) e))=xI (l.setIfInBounds i true) R.ks R.H0++qP (l.setIfInBounds i true) 0 R.rs:=fun _=>by
            have e1:=fQ l R.rs 0 i _ _ hz (by omega)
            rw[Nat.zero_add]at e1;cases kq with
            | none=>
             rw[e1,zAw (fun q hq=>by rw[hkq]at hq;cases hq)]
             show List.set _ _ _=_;rw[List.set_append_right _ _ (by rw[jK];exact Nat.le_add_right _ _),jK,Nat.add_sub_cancel_left]
            | some q=>
             have hq:q<(xI l R.ks R.H0).length:=by
              obtain⟨j,o',m,e4⟩:=hb5 (by simp)
              obtain⟨e5,_,_,_,h⟩:=hb4 _ _ _ e4;cases e5;rw[jK];exact h
             rw[e1,qAx hkq hls];show List.set (List.set _ _ _) _ _=_;rw[List.set_append_left _ _ hq,List.set_append_right _ _ (by rw[List.length_set,jK];exact Nat.le_add_right _ _),List.length_set,jK,Nat.add_sub_cancel_left]
           unfold Oper.wp;rcases hA with⟨obj,hrun,hRO⟩ | ⟨j,o',n',b,cur,c2'',q,ex,hB,hq,hrun,hS,hle,hRO⟩
           ·rw[mX hopq e1 hargs hts hrun];obtain⟨hW',hBl⟩:=(hI.wd.call (Upd.drew w)).fill (C:=C) hgo hBi rfl hRO rfl;have hle:=((Upd.drew w).le Y).trans (Le.hide_new (w:=w.drew) (Y:=Y) obj);refine hk _ _ (wJ B (R.H0.length+pos R.rs i) (w.drew.heap.size,C)) _ ((w.drew.heap.size,obj)::Mo) ⟨?_,FrD.step hOk (hI.fr.mono hBl hle) hi ho hz ?_ hls,hI.ble.trans hBl,hI.le.trans hle,hfree _ _ _ rfl,fun j hj=>?_,by simpa using hI.lsz⟩
            ·rw[←hlist .gone];cases kq with
             | none=>exact hW'
             | some q=>
              have hne:q≠R.H0.length+pos R.rs i:=by
               obtain⟨j,o',m,e4⟩:=hb5 (by simp)
               obtain⟨e5,_,_,_,h⟩:=hb4 _ _ _ e4;cases e5;omega
              have:=hW'.gone q;rwa[List.set_comm _ _ (Ne.symm hne)]at this
            ·rw[hid];exact .og (qA _ _ _) hC1 (fun _=>rfl) hC2
            ·rw[getD_set_ne false (by omega)];exact hI.head j hj
           ·obtain⟨rfl,x0,hj,hlx,hjl⟩:=hb4 _ _ _ ex;rw[mX hopq e1 hargs hts hrun];have hW2:=hI.wd.set hj hlx hB hq hS hle (fun cs e=>by cases e) (fun _=>hRO)
            have hjl2:j<(xI l R.ks R.H0++qP l 0 R.rs).length:=(List.getElem?_eq_some_iff.1 hj).1;have hne:j≠R.H0.length+pos R.rs i:=by omega
            obtain⟨hW3,hB3⟩:=hW2.moveTo (i:=j) (j:=R.H0.length+pos R.rs i) (x:= .gro (us.apY (evO L y) vs) e) (by rw[List.getElem?_set_self hjl2]) rfl hB (by rw[List.getElem?_set_ne hne];exact hgo) hBi
            rw[List.set_set]at hW3;refine hk _ _ (wJ B (R.H0.length+pos R.rs i) (b,C)) _ (Mo.set q (b,.cells c2'' e (0,0))) ⟨?_,FrD.step hOk (hI.fr.mono hB3 hle) hi ho hz ?_ hls,hI.ble.trans hB3,hI.le.trans hle,hfree _ _ _ rfl,fun j hj=>?_,by simpa using hI.lsz⟩
            ·rw[←hlist .gone];exact hW3
            ·rw[hid];exact .og (qA _ _ _) hC1 (fun _=>rfl) hC2
            ·rw[getD_set_ne false (by omega)];exact hI.head j hj
         ·cases hap
     ·cases hap
    ·cases hap
   cases hau:tH L o.op with
   | some q=>
    simp only[hau]at hop;exact app (some q) (fun hne=>by
     rw[hks,hau];cases hz2:z.2 with
     | none=>exact absurd hz2 hne
     | some _=>rfl) hop
   | none=>
   simp only[hau]at hop;cases hp:yX R.P R.Hm (ln (R.Hm++zZ (R.rs.take i))) (evO L) o.op with
   | some y=>
    simp only[hp,Option.some.injEq]at hop;subst hop;rw[nQ o.op hcg]at hp;have hA:=zUj hH hρ hp;obtain⟨t,ob⟩:=y;unfold Oper.wp;cases ob with
    | none=>
     obtain⟨v,hrun,hR⟩:=hA;rw[hrun];exact hk _ _ _ _ _ (hI.val hOk (Upd.refl _ _) hi ho hz hR hls)
    | some ob=>
     obtain⟨C,obj,vf,hrun,hl,hR,hv⟩:=hA;rw[hrun];rw[hid]at hv;obtain⟨hW',hB⟩:=hI.wd.fill (hgoneAt t ob rfl) (hI.free i t ob hz hunl) hl hR rfl;have hle:=Le.hide_new (w:=w) (Y:=Y) obj;refine hk _ _ _ _ ((w.heap.size,obj)::Mo) ⟨?_,FrD.step hOk (hI.fr.mono hB hle) hi ho hz ((hv _).mono (BLe.refl _) hle) hls,hI.ble.trans hB,hI.le.trans hle,hfree t ob _ rfl,fun j hj=>?_,by simpa using hI.lsz⟩
     ·have e:=fQ l R.rs 0 i t ob hz (by omega)
      rw[Nat.zero_add]at e;rw[e,zAw (fun q hq=>by rw[hks,hau]at hq;cases hq)]
      rw[List.set_append_right _ _ (by rw[jK];exact Nat.le_add_right _ _),jK,Nat.add_sub_cancel_left]at hW'
      exact hW'
     ·rw[getD_set_ne false (by omega)];exact hI.head j hj
   | none=>
    simp only[hp]at hop;cases hc:nY R.P po (R.Hm++zZ (R.rs.take i)) L o.op with
    | some t=>
     simp only[hc,Option.some.injEq]at hop;subst hop;generalize hopq:o.op=op at hc;unfold nY at hc;split at hc
     ·rename_i c;split at hc
      ·rename_i fx e1;split at hc
       ·rename_i f cs e2;cases hen:jF R.P f with
        | false=>simp[hen]at hc
        | true=>
         simp only[hen,cond_true]at hc;have hmem:∀x,x=fx∨x∈c.args.toList→x∈o.op.operands:=fun x hx=>by
          rw[hopq];simp only[Op.operands,Call.operands,e1,Array.mem_append];rcases hx with rfl | hx
          ·left;simp
          ·right;simpa using hx
         have hfx:=hopn fx (hmem fx (.inl rfl));rw[e2]at hfx;obtain⟨caps,hv,hcs⟩:=hfx.fnI;have hargs:zN B (rd w Y) (c.args.toList.map (evO L)) (c.args.toList.map a.eval):=by
          have:∀l:List Operand,(∀x∈l,x∈o.op.operands)→zN B (rd w Y) (l.map (evO L)) (l.map a.eval):=by
           intro l;induction l with
           | nil=>intro _;trivial
           | cons x l ih=>exact fun h=>⟨hopn x (h x List.mem_cons_self),ih fun y hy=>h y (List.mem_cons_of_mem _ hy)⟩
          exact this _ fun x hx=>hmem x (.inr hx)
         unfold Oper.wp;rw[zAo hopq e1 hv hen w];have hOw:Ow B (rd w Y) w (fun b=>∃ob,(b,ob)∈Mo) (R.Hm++zZ (R.rs.take i)):=fun q b C cs hB hown=>by
          refine hI.wd.ow q b C cs hB ?_;cases hx:nth .gone (R.Hm++zZ (R.rs.take i)) q with
          | gone=>rw[hx]at hown;cases hown
          | _=>rw[hx]at hown;rw[zDe (fun x h1 h2=>zUv hOk hI (by rw[hB];simp) h1 h2) hx (by simp)];exact hown
         refine qDl (k:=k) hOk.po hc hOw hI.wd.ivw hI.wd.bNle hI.wd.st.lt (fun q hq=>?_) (hargs.app hcs) fun v w' hu hv=>?_
         ·refine hI.wd.nn q ?_;rw[List.length_append,zBc,jK];have hle:∀rs:List (T×Option TO),(zZ rs).length≤rs.length:=by
           intro rs;induction rs with
           | nil=>simp[zZ]
           | cons z rs ih=>obtain⟨t,ob⟩:=z;cases ob<;>simp[zZ]<;>omega
          have h1:=hle R.rs;have h2:=hOk.len;have h3:=hOk.bd;simp at h2;omega
         ·exact hk _ _ _ _ _ (hI.val hOk hu hi ho hz hv hls)
       ·cases hc
      ·cases hc
     ·cases hc
    | none=>
     simp only[hc]at hop;cases hap:zGk R.P R.H0 (R.Hm++zZ (R.rs.take i)) none L o.op with
     | some y=>
      simp only[hap,Option.some.injEq]at hop;subst hop;exact app none (fun _=>by
       rw[hks,hau];cases y.2<;>rfl) hap
     | none=>
     simp only[hap]at hop;cases hm:aG R.P (evO L) o with
     | none=>simp[hm]at hop
     | some t=>
      simp only[hm,Option.some.injEq]at hop;subst hop;rw[dU o hcg]at hm;obtain⟨v,hrun,hR⟩:=qBn (P:=R.P) (w:=w) (ρ:=a.eval) (k:=0) hρ hm;unfold Oper.wp;rw[hrun];exact hk _ _ _ _ _ (hI.val hOk (Upd.refl _ _) hi ho hz hR hls)
theorem zRl{P:Program}{H:List TO}{t:TypeId}{x:T}{z:T×Option TO}(h:aN P H t x=some z):z.2=none:=by
 unfold aN at h
 repeat' split at h
 all_goals try simp only[Bool.cond_eq_ite]at h
 all_goals repeat' split at h
 all_goals first | exact qJ h | cases h
theorem qHc{P:Program}{po:Po}{H0 Hm Hn:List TO}{L:List T}{ops:Array Oper}{p:Oper}{z:T×Option TO}(h:dA p=true)(hz:kD P po H0 Hm Hn L ops p=some z):z.2=none:=by
 unfold dA at h;simp only[Bool.and_eq_true]at h;have hg:p.guard=none:=by
  cases hg:p.guard with
  | none=>rfl
  | some _=>have:=h.1;rw[hg]at this;cases this
 have h2:=h.2;split at h2
 ·rename_i t x ho;unfold kD yK at hz;rw[hg]at hz;have hk:tH L p.op=none:=by rw[ho];rfl
  simp only[rP,hk]at hz;cases hp:yX P Hm (ln Hn) (evO L) p.op with
  | some y=>
   simp only[hp,Option.some.injEq]at hz;subst hz;rw[ho]at hp;simp only[yX]at hp;exact zRl hp
  | none=>
   have hc:nY P po Hn L p.op=none:=by rw[ho];rfl
   have ha:zGk P H0 Hn none L p.op=none:=by rw[ho];rfl
   simp only[hp,hc,ha]at hz;cases hm:aG P (evO L) p with
   | none=>simp[hm]at hz
   | some t=>simp only[hm,Option.some.injEq]at hz;subst hz;rfl
 ·cases h2
theorem zHl{P:Program}{E:Nat→Prop}{w0:World}{X:Hid}{F:List Nat}{n:Nat}{D:List Deferred}{ops:Array Oper}{cl yd:Cl}{po:Po}{id:Nat}(hm:P.follows .mixedOrders=true){s s':S}(hpo:∀f az tv nw,po f az=some (tv,nw)→KnP P (ln s.H+ops.size) f az tv nw)(hcl:yN P cl)(hyd:kG P yd)
  (hok:lI ops=true) (hW:Wd P E w0 X F s.H B w Y Mo) (hF:FrT n a s.L D B (rd w Y)) (hk:vY P E w0 X F n D s'.H s'.L B (rd w Y) (Q .normal)) (Hm:List TO) (rs:List (T×Option TO)) (hml:Hm.length=s.H.length) (hms:∀(q:Nat)(x:TO),Hm[q]?=some x→x≠.gone→s.H[q]?=some x)
  (hrs:∀(i:Nat)(z:T×Option TO),rs[i]?=some z→∃o,ops.toList[i]?=some o∧kD P po s.H Hm (Hm++zZ (rs.take i)) (yD ops.toList (rs.take i) s.L) ops o=some z) (hlen:rs.length≤ops.toList.length) (h:drF P cl yd ops s Hm rs=some s'):(Code.region id ops true).wpIn (FF rr) 0 P Q a w:=by
 unfold drF at h;cases hd:zZm ops (ln rs)&&zJw Hm (ksE ops.toList rs s.L)with
 | false=>simp[hd]at h
 | true=>
 simp only[hd,cond_true]at h;simp only[Bool.and_eq_true]at hd;obtain⟨hd,hks⟩:=hd;unfold zZm at hd;simp only[Bool.and_eq_true]at hd;rw[qL]at hd h;unfold qQt at h;cases hld0:sD P ops ⟨yD ops.toList rs s.L,kL (ksE ops.toList rs s.L) s.H++zZ rs⟩ (dS ops rs.length)with
 | false=>simp[hld0]at h
 | true=>
 simp only[hld0,cond_true]at h;have hnd:∀o∈ops.toList,yR o.op=true:=fun o ho=>List.all_eq_true.1 hok o ho;have hOk:Ok ⟨P,E,w0,X,F,n,D,ops,s.H,Hm,s.L,rs,B,rd w Y⟩ po (ln s.H+ops.size):=by
  refine⟨fun i z hz=>?_,hd.1,hd.2.1,hd.2.2,?_,?_,?_,?_,hnd,hml,hms,(fC hks).1,(fC hks).2⟩
  ·exact hrs i z hz
  ·exact hlen
  ·have:=hF.reps.length;rw[this];simpa using hF.size
  ·exact hpo
  ·show s.H.length+ops.size≤ln s.H+ops.size;rw[qL];exact Nat.le_refl _
 have htl:∀(j:Nat)(o:Oper),rs.length≤j→ops[j]?=some o→∀q,q<j→(∀S:Nat→Prop,zGj ops.toList S→(∀e∈o.after,Region.binds .any e=true→S e.on)→S q)∨∃p,ops[q]?=some p∧kM rs.length (dS ops rs.length) (vlR ops rs.length) q p=true∧dF ops o p=true:=fun j o hj ho q hq=>by
  rcases zLm hd.2.1 j o hj (by simpa using ho) q hq with h1 | ⟨p,h2,h3⟩
  ·exact .inl h1
  ·exact .inr ⟨p,by simpa using h2,h3⟩
 have hdp:∀(i:Nat)(p:Oper)(t:Nat),i<rs.length→ops[i]?=some p→Operand.tmp t∈p.op.operands→∀(i':Nat)(p':Oper),i'<rs.length→ops[i']?=some p'→p'.dst=some t→i'<i∧∃e∈p.after,Region.binds .any e=true∧e.on=i':=fun i p t hi hp ht i' p' hi' hp' hd'=>by
  have h1:=(kH hOk.hd i p (hOk.hget hi hp)).1 (.tmp t) (by simpa using ht)
  rw[Nat.zero_add]at h1;have h1:zBm (ops.toList.take rs.length) p i t=true:=h1;unfold zBm at h1;cases hw:wrt t (ops.toList.take rs.length) 0 with
  | none=>exact absurd hd' (gD hw i' p' (hOk.hget hi' hp'))
  | some j=>
   simp only[hw,Bool.and_eq_true,Nat.blt_eq]at h1;obtain⟨j',o',e1,h3,h4⟩:=zAd hw;obtain rfl:j=j':=by omega
   have hj:j<rs.length:=by omega
   have ho':ops[j]?=some o':=by
    rw[List.getElem?_take,if_pos hj]at h3;simpa using h3
   obtain rfl:i'=j:=hOk.once hi' hj hp' ho' hd' h4;exact⟨h1.1,zCj h1.2⟩
 have heg:∀(j:Nat)(o:Oper),ops[j]?=some o→∀e∈o.after,Region.binds .any e=true→e.on<j:=fun j o ho e he hb=>by
  have:=bT hd.2.2 j o (by simpa using ho) e he hb
  rwa[Nat.zero_add]at this
 refine wpIn_region_any hm ?_;have hup:=Upd.drew w;have hW0:Wd P E w0 X F s.H B w.drew Y Mo:=hW.call hup;have main:∀(fuel:Nat)(l:Array Bool)(a':Act)(w':World)(B':Bm)(Y':Hid)(Mo':List (Nat×Obj)),Inv ⟨P,E,w0,X,F,n,D,ops,s.H,Hm,s.L,rs,B,rd w Y⟩ l a' w' B' Y' Mo'→zLt l≤fuel→zGj ops.toList (fun q=>l.getD q false=true)→wpAnyIn (FF rr) 0 P .any ops Q fuel l a' w':=by
  have toTail:∀(fuel:Nat)(l:Array Bool)(a':Act)(w':World)(B':Bm)(Y':Hid)(Mo':List (Nat×Obj)),Inv ⟨P,E,w0,X,F,n,D,ops,s.H,Hm,s.L,rs,B,rd w Y⟩ l a' w' B' Y' Mo'→zLt l≤fuel→zGj ops.toList (fun q=>l.getD q false=true)→(∀(i:Nat)(p:Oper),i<rs.length→l.getD i false=false→ops[i]?=some p→kM rs.length (dS ops rs.length) (vlR ops rs.length) i p=true)→wpAnyIn (FF rr) 0 P .any ops Q fuel l a' w':=fun fuel l a' w' B' Y' Mo' hI hu hsh hall=>by
   have hlz:l.size=ops.size:=hI.lsz;have hmle:rs.length≤ops.size:=by have:=hOk.len;simpa using this
   have hlate:∀(i:Nat)(z:T×Option TO),rs[i]?=some z→l.getD i false=false→∃p,ops[i]?=some p∧kM rs.length (dS ops rs.length) (vlR ops rs.length) i p=true∧z.2=none∧(jL p=true→nW P (yD ops.toList (rs.take i) s.L) p z.1):=fun i z hz hl=>by
    obtain⟨p,h1,h2⟩:=hOk.spec i z hz;have h1:ops.toList[i]?=some p:=h1;have h1':ops[i]?=some p:=by simpa using h1
    have hk:=hall i p (List.getElem?_eq_some_iff.1 hz).1 hl h1';rcases aA hk with hk' | ⟨hk1,hk2⟩
    ·exact⟨p,h1',hk,(nW.of_head hk' h2).1,fun _=>(nW.of_head hk' h2).2⟩
    ·exact⟨p,h1',hk,qHc hk1 h2,fun hk'=>(nW.of_head hk' h2).2⟩
   have hW1:Wd P E w0 X F (kL (ksE ops.toList rs s.L) s.H++zZ rs) B' w' Y' Mo':=by
    have:Wd P E w0 X F (xI l (ksE ops.toList rs s.L) s.H++qP l 0 rs) B' w' Y' Mo':=hI.wd;rw[zBb l rs 0 (fun i t ob hi=>?_),qAw (fun i q hq=>?_)]at this
    ·exact this
    ·cases hc:l.getD i false with
     | true=>rfl
     | false=>
      have hi:i<rs.length:=Nat.lt_of_lt_of_le (List.getElem?_eq_some_iff.1 hq).1 (qAz _ _ _);obtain⟨z,hz⟩:∃z,rs[i]?=some z:=⟨rs[i],by simp[hi]⟩
      obtain⟨p,h1,h2,h3,_⟩:=hlate i z hz hc;rw[zJx ops.toList rs s.L i p z (by simpa using h1) hz,h3]at hq;cases hq
    ·rw[Nat.zero_add];cases hc:l.getD i false with
     | true=>rfl
     | false=>
      obtain⟨p,_,_,h3,_⟩:=hlate i _ hi hc;cases h3
   have G1:FrL n a' (yD ops.toList rs s.L) D B' (rd w' Y') (Pnd ops rs.length l):=by
    refine⟨hI.fr.size,by rw[fD];exact hOk.slots,hI.fr.defers,fun t v hnp hv=>?_⟩
    by_cases he:∃(j:Nat)(o:Oper),j<rs.length∧ops[j]?=some o∧o.dst=some t
    ·obtain⟨j,o,hj,ho,hdt⟩:=he;obtain⟨z,hz⟩:∃z,rs[j]?=some z:=⟨rs[j],by simp[hj]⟩
     have ht:t<s.L.length:=by
      have h1:=(Array.getElem?_eq_some_iff.1 hv).1;have h2:a'.tmps.size=n:=hI.fr.size;have h3:s.L.length=n:=hOk.slots;omega
     rw[fE ops.toList rs s.L t j o z ht (by simpa using ho) hz hdt fun q o' hq hl ho' hd'=>hq (hOk.once hl hj (by simpa using ho') ho hd' hdt)]
     refine hI.fr.done j z o t v hz ho hdt ?_ hv;cases hc:l.getD j false with
     | true=>rfl
     | false=>exact absurd ⟨j,o,hj,hc,ho,hdt⟩ hnp
    ·rw[rT ops.toList rs s.L t (fun j o hj ho hd=>he ⟨j,o,hj,by simpa using ho,hd⟩)]
     exact hI.fr.rest t v (fun j o hj ho hd=>absurd ⟨j,o,hj,ho,hd⟩ he) hv
   refine qJg hcl hyd (m:=rs.length) htl (fun i o h1 h2=>qJl h2 h1) (fun i p t h1 h2 h3 i' p' h4 h5 h6=>(hdp i p t h1 h2 h3 i' p' h4 h5 h6).2) heg hnd fuel rs.length _ s' h (Nat.le_refl _) hu hlz (fun i hi=>?_) hsh (fun i p hi hl hp=>?_) hW1 G1 hI.ble hI.le hk
   ·exact hI.head i hi
   ·obtain⟨z,hz⟩:∃z,rs[i]?=some z:=⟨rs[i],by simp[hi]⟩
    obtain⟨p',h1,h2,_,h4⟩:=hlate i z hz hl;rw[hp]at h1;cases h1;rcases aA h2 with hkk | ⟨hk1,hk2⟩
    case inr=>
     obtain⟨d2,q1,q2⟩:=vZ.of_ld hp hk1 hk2 hld0;exact⟨h2,_,q2,fun d' hd' _=>by rw[q1]at hd';cases hd';rfl⟩
    refine⟨h2,z.1,.inl ⟨hkk,(h4 hkk).congr fun x hx=>?_⟩,fun d hd' hlt=>?_⟩
    ·cases x with
     | tmp t=>
      show nth .u (yD ops.toList (rs.take i) s.L) t=nth .u (yD ops.toList rs s.L) t;by_cases he:∃(j:Nat)(o:Oper),j<rs.length∧ops[j]?=some o∧o.dst=some t
      ·obtain⟨j,o,hj,ho,hdt⟩:=he;obtain⟨hji,_⟩:=hdp i p t hi hp hx j o hj ho hdt;obtain⟨zj,hzj⟩:∃z,rs[j]?=some z:=⟨rs[j],by simp[hj]⟩
       rcases Nat.lt_or_ge t s.L.length with ht | ht
       ·rw[fE ops.toList rs s.L t j o zj ht (by simpa using ho) hzj hdt fun q o' hq hl ho' hd'=>hq (hOk.once hl hj (by simpa using ho') ho hd' hdt),
         fE ops.toList (rs.take i) s.L t j o zj ht (by simpa using ho) (by rw[List.getElem?_take,if_pos hji];exact hzj) hdt fun q o' hq hl ho' hd'=>hq (hOk.once (Nat.lt_of_lt_of_le hl (by rw[List.length_take];exact Nat.min_le_right _ _)) hj (by simpa using ho') ho hd' hdt)]
       ·simp only[qR,List.getD_eq_getElem?_getD];rw[List.getElem?_eq_none (by rw[fD];exact ht),List.getElem?_eq_none (by rw[fD];exact ht)]
      ·rw[rT ops.toList rs s.L t (fun j o hj ho hd=>he ⟨j,o,hj,by simpa using ho,hd⟩),rT ops.toList (rs.take i) s.L t (fun j o hj ho hd=>he ⟨j,o,Nat.lt_of_lt_of_le hj (by rw[List.length_take];exact Nat.min_le_right _ _),by simpa using ho,hd⟩)]
     | _=>rfl
    ·rw[fD]at hlt;exact fE ops.toList rs s.L d i p z hlt (by simpa using hp) hz hd' fun q o' hq hl ho' hd2=>hq (hOk.once hl hi (by simpa using ho') hp hd2 hd')
  intro fuel;induction fuel with
  | zero=>
   intro l a' w' B' Y' Mo' hI hu hsh;refine toTail 0 l a' w' B' Y' Mo' hI hu hsh fun i p hi hc=>?_;have hlz:l.size=ops.size:=hI.lsz;have hmle:rs.length≤ops.size:=by have:=hOk.len;simpa using this
   have:=aZ (by omega) hc
   omega
  | succ fuel ih=>
   intro l a' w' B' Y' Mo' hI hu hsh;by_cases hall:∀(i:Nat)(p:Oper),i<rs.length→l.getD i false=false→ops[i]?=some p→kM rs.length (dS ops rs.length) (vlR ops rs.length) i p=true
   ·exact toTail _ l a' w' B' Y' Mo' hI hu hsh hall
   ·have hlz:l.size=ops.size:=hI.lsz;have hmle:rs.length≤ops.size:=by have:=hOk.len;simpa using this
    obtain⟨i1,p1,hi1,hl1,hp1,hk1⟩:∃(i:Nat)(p:Oper),i<rs.length∧l.getD i false=false∧ops[i]?=some p∧¬kM rs.length (dS ops rs.length) (vlR ops rs.length) i p=true:=by
     refine Classical.byContradiction fun hn=>hall fun i p h1 h2 h3=>?_;exact Classical.byContradiction fun h4=>hn ⟨i,p,h1,h2,h3,h4⟩
    obtain⟨i0,hi0,hl0,hbelow⟩:=zIf ⟨i1,hi1,hl1⟩;obtain⟨o0,ho0⟩:∃o,ops[i0]?=some o:=⟨ops[i0]'(by omega),by simp⟩
    have hr0:i0∈Region.ready .any ops l:=zOy hlz ho0 hl0 fun e he hb=>hbelow _ (heg i0 o0 ho0 e he hb);refine⟨fun h0=>absurd (h0▸hr0) (by simp),fun i hi=>?_⟩
    obtain⟨hun,oi,hoi,hall'⟩:=mem_ready.1 hi;have him:i<rs.length:=by
     rcases Nat.lt_or_ge i rs.length with h1 | h1
     ·exact h1
     ·rcases htl i oi h1 hoi i1 (by omega)with h2 | ⟨p,h2,h3,_⟩
      ·have:=h2 (fun q=>l.getD q false=true) hsh hall';rw[hl1]at this;cases this
      ·rw[hp1]at h2;cases h2;exact absurd h3 hk1
    have hil:i<l.size:=by omega
    have hc:l.getD i false=false:=by simpa[hil]using hun
    refine zVz hOk hI him hi fun a2 w2 B2 Y2 Mo2 hI2=>ih _ a2 w2 B2 Y2 Mo2 hI2 ?_ (hsh.set (by simpa using hoi) hil hall')
    have:=aZ hil hc;omega
 have hz:∀i,(Array.replicate ops.size false).getD i false=false:=fun i=>by
  by_cases hi:i<ops.size<;>simp[hi]
 refine main ops.size _ a _ B Y Mo ⟨?_,⟨hF.size,hF.defers,fun i z o d v _ _ _ hl _=>?_,fun t v _ hv=>?_⟩,BLe.refl B,hup.le Y,fun i t ob _ _=>hW0.nn _ (Nat.le_add_right _ _),fun i _=>hz i,by simp⟩ ?_ (fun i _ _ h2=>absurd (show(Array.replicate ops.size false).getD i false=true from h2) (by rw[hz];simp))
 ·show Wd P E w0 X F (xI _ _ s.H++_) B _ Y Mo;rw[zWa (fun i _=>hz i)];have hgone:∀(i:Nat)(x:TO),(s.H++qP (Array.replicate ops.size false) 0 rs)[i]?=some x→x≠.gone→s.H[i]?=some x:=fun i x hx hne=>by
   rcases Nat.lt_or_ge i s.H.length with hi | hi
   ·rwa[List.getElem?_append_left hi]at hx
   ·rw[List.getElem?_append_right hi]at hx;exact absurd (zBd _ rs 0 _ x (fun i _=>hz _) hx) hne
  have ng:∀{y:TO},kV y=true→y≠.gone:=fun h e=>by subst e;cases h
  exact⟨hW0.st,fun i x hx hl=>hW0.ob i x (hgone i x hx (ng hl)) hl,fun i cs hx=>hW0.fz i cs (hgone i _ hx (by simp)),fun i hi=>hW0.nn i (by simp at hi;omega),
   fun i j oi oj p q h1 l1 h2 l2=>hW0.inj i j oi oj p q (hgone i _ h1 (ng l1)) l1 (hgone j _ h2 (ng l2)) l2,hW0.bN,hW0.iv⟩
 ·rw[hz]at hl;cases hl
 ·have hR:=hF.reps.getD t;have:a.tmps.toList.getD t undef=v:=by simp[hv]
  rw[this]at hR;exact hR.mono (BLe.refl B) (hup.le Y)
 ·have:zLt (Array.replicate ops.size false)=ops.size:=by
   have h:=zRz (l:=Array.replicate ops.size false) (j:=0) (fun i=>by rw[hz];simp) (Nat.zero_le _)
   simpa using h
  omega
theorem qFz{P:Program}{E:Nat→Prop}{w0:World}{X:Hid}{F:List Nat}{n:Nat}{D:List Deferred}{ops:Array Oper}{cl yd:Cl}{rn:Rn}{O:Po}{id:Nat}(hm:P.follows .mixedOrders=true)(hO:qF P O)(hrn:tF P rn)(hcl:yN P cl)(hyd:kG P yd)
  (hok:lI ops=true) {s s':S} (h:drE P O rn cl yd ops s=some s') (hW:Wd P E w0 X F s.H B w Y Mo) (hF:FrT n a s.L D B (rd w Y)) (hk:vY P E w0 X F n D s'.H s'.L B (rd w Y) (Q .normal)):(Code.region id ops true).wpIn (FF rr) 0 P Q a w:=by
 have core:∀(Hm:List TO)(rs:List (T×Option TO)),Hm.length=s.H.length→(∀(q:Nat)(x:TO),Hm[q]?=some x→x≠.gone→s.H[q]?=some x)→(∃k,rs=(wB P (zFk P O rn (ln s.H+ops.size)) s.H Hm ops ops.toList [] Hm s.L).take k)→drF P cl yd ops s Hm rs=some s'→(Code.region id ops true).wpIn (FF rr) 0 P Q a w:=fun Hm rs hml hms hrs h=>by
  refine zHl (po:=zFk P O rn (ln s.H+ops.size)) hm (fun f az tv nw hp=>?_) hcl hyd hok hW hF hk Hm rs hml hms (fun i z hz=>?_) ?_ h
  ·unfold zFk at hp;cases ho:O f az with
   | some y=>simp only[ho,Option.some.injEq]at hp;subst hp;exact hO _ _ _ _ ho _
   | none=>simp only[ho]at hp;exact zEg (mV hm hrn) hp
  ·obtain⟨k,rfl⟩:=hrs;rw[List.getElem?_take]at hz;split at hz
   ·rename_i hik;have:=zHv _ _ _ _ _ _ hz;rw[List.take_take,Nat.min_eq_left (Nat.le_of_lt hik)];exact this
   ·cases hz
  ·obtain⟨k,rfl⟩:=hrs;rw[List.length_take];exact Nat.le_trans (Nat.min_le_right _ _) (zNm _ _ _ _)
 unfold drE drU at h;generalize qFt ops ops.toList (wB P (zFk P O rn (ln s.H+ops.size)) s.H s.H ops ops.toList [] s.H s.L) 0=kk at h;unfold drG at h;have hkm:∀ks:List (Option Nat),∀(q:Nat)(x:TO),(kL ks s.H)[q]?=some x→x≠.gone→s.H[q]?=some x:=fun ks q x h1 h2=>by
  rw[rR]at h1;split at h1
  ·cases hq:s.H[q]? with
   | none=>rw[hq]at h1;cases h1
   | some y=>rw[hq]at h1;cases h1;exact absurd rfl h2
  ·exact h1
 cases hany:qLx (ksE ops.toList ((wB P (zFk P O rn (ln s.H+ops.size)) s.H s.H ops ops.toList [] s.H s.L).take kk) s.L)with
 | true=>simp only[hany,cond_true]at h;exact core _ _ (zHz _ _) (hkm _) ⟨kk,rfl⟩ h
 | false=>simp only[hany,cond_false]at h;exact core s.H _ rfl (fun _ _ h _=>h) ⟨kk,rfl⟩ h
end
section
variable {P:Program}{E:Nat→Prop}{w0:World}{X:Hid}{F:List Nat}{H:List TO}{B B':Bm}{w w':World}{Y Y':Hid}{Mo:List (Nat×Obj)}{o:Oper}{r r':Rd}{n:Nat}{a:Act}{L:List T}{D:List Deferred}{Q:Exit→Act→World→Prop}{K:Act→World→Prop}{cl yd:Cl}{O:Po}{rr:Option Nat}{ops:Array Oper}{rest:List Oper}{rn:Rn}
theorem Wd.lp(hW:Wd P E w0 X F H B w Y Mo){i b0 C:Nat}{ps:List Nat}{c1 c2:Code}{q:Bool}{pd:Option Code}(hi:H[i]?=some (.loop L ps c1 c2 q pd))(hB:B i=some (b0,C)):
  ∃(rec:Loop)(k:Nat),(Mo++kE F)[k]?=some (b0,.loop rec)∧(zN B (rd w Y) L rec.tmps.toList∧rec.params.toList=ps∧rec.assign=c1∧rec.body=c2∧noR c1=true∧noR c2=true∧LSt q pd rec)∧
   (∀rec' q' pd',rec'.tmps=rec.tmps→rec'.params=rec.params→rec'.assign=rec.assign→rec'.body=rec.body→LSt q' pd' rec'→
    Wd P E w0 X F (H.set i (.loop L ps c1 c2 q' pd')) B (w.putObj b0 (.loop rec')) Y (Mo.set k (b0,.loop rec'))∧Le (rd w Y) (rd (w.putObj b0 (.loop rec')) Y))∧
   ∀rec',Wd P E w0 X F (H.set i .gone) B (w.putObj b0 (.loop rec')) Y (Mo.set k (b0,.loop rec'))∧Le (rd w Y) (rd (w.putObj b0 (.loop rec')) Y):=by
 obtain⟨b',C',ob,g1,g2,g3⟩:=hW.ob i _ hi rfl;rw[hB]at g1;cases g1;cases g3 with
 | @loop _ _ _ _ rec _ _ hL hp ha hb hna hnb hs=>
  obtain⟨k,hk⟩:=List.getElem?_of_mem g2;have hkl:k<Mo.length:=(List.getElem?_eq_some_iff.1 hk).1;have hk2:(Mo++kE F)[k]?=some (b0,.loop rec):=by rw[List.getElem?_append_left hkl];exact hk
  have hS:∀rec',St E w0 X (w.putObj b0 (.loop rec')) Y (Mo.set k (b0,.loop rec')++kE F)∧Le (rd w Y) (rd (w.putObj b0 (.loop rec')) Y):=fun rec'=>by
   obtain⟨h1,h2⟩:=hW.st.putObj (o':= .loop rec') k hk2;rw[List.set_append_left _ _ hkl]at h1;exact⟨h1,h2⟩
  refine⟨rec,k,hk2,⟨hL,hp,ha,hb,hna,hnb,hs⟩,fun rec' q' pd' e1 e2 e3 e4 hs'=>?_,fun rec'=>?_⟩
  ·obtain⟨h1,h2⟩:=hS rec';exact⟨hW.set hi rfl hB hk h1 h2 (fun cs e=>by cases e) (fun _=> .loop (by rw[e1];exact hL.mono (BLe.refl B) h2) (by rw[e2];exact hp) (by rw[e3];exact ha) (by rw[e4];exact hb) hna hnb hs'),h2⟩
  ·obtain⟨h1,h2⟩:=hS rec';exact⟨hW.set hi rfl hB hk h1 h2 (fun cs e=>by cases e) (fun e=>by cases e),h2⟩
theorem zOv:∀{ps:List Nat}{az L:List T}{qJ:List Value}{tm:Array Value},ps.length=az.length→zN B r az qJ→zN B r L tm.toList→zN B r (zGr L ps az) ((ps.zip qJ).foldl (fun t(x:Nat×Value)=>t.setIfInBounds x.1 x.2) tm).toList
 | [],[],L,[],tm,_,_,h=>by simpa[zGr]using h
 | p::ps,t::az,L,v::qJ,tm,hl,hA,h=>by
  simp only[zGr,List.zip_cons_cons,List.foldl_cons];refine zOv (by simpa using hl) hA.2 ?_
  have:=h.put p hA.1;simpa using this
 | [],_::_,_,_,_,hl,_,_=>by simp at hl
 | _::_,[],_,_,_,hl,_,_=>by simp at hl
 | _,[],_,_::_,_,_,hA,_=>hA.elim
 | _,_::_,_,[],_,_,hA,_=>hA.elim
theorem zOu:∀(ps:List Nat)(az L:List T),(zGr L ps az).length=L.length
 | [],_,_=>by simp[zGr]
 | _::_,[],_=>by simp[zGr]
 | p::ps,t::az,L=>by rw[zGr,zOu ps az,jO];simp
theorem nM{l:List TO}{i:Nat}{x:TO}(h:nth .gone l i=x)(hx:x≠.gone):l[i]?=some x:=by
 rw[qR,List.getD_eq_getElem?_getD]at h;cases hi:l[i]? with
 | none=>rw[hi]at h;exact absurd h.symm hx
 | some y=>rw[hi]at h;simp at h;rw[h]
theorem qEu(hrn:tF P rn):kG P (zGg rn):=by
 intro l az H tv H' h E w0 X F B w Y Mo qJ R b0 C hW hA hB hk;unfold zGg at h;split at h
 ·rename_i L ps c1 c2 hl;have hi:=nM hl (by simp)
  cases hlen:Nat.beq (ln ps) (ln az)with
  | false=>simp[hlen]at h
  | true=>
   simp only[hlen,cond_true]at h;have hlen:=qH hlen;rw[qL,qL]at hlen;obtain⟨rec,k,hk2,⟨hL,hp,ha,hb,hna,hnb,hs⟩,_,_⟩:=hW.lp hi hB;have hpl:rec.params.size=az.length:=by rw[←hlen,←hp];simp
   refine zVc k hW.st hk2 (by rw[hpl,hA.length];simp) ?_
   have hF:FrT rec.tmps.size {tmps:=(rec.params.zip qJ.toArray).foldl (fun tmps(t,a)=>tmps.setIfInBounds t a) rec.tmps,defers:=[]} (zGr L ps az) [] B (rd w Y):=by
    have hz:((rec.params.zip qJ.toArray).foldl (fun tmps(x:Nat×Value)=>tmps.setIfInBounds x.1 x.2) rec.tmps)=(ps.zip qJ).foldl (fun t(x:Nat×Value)=>t.setIfInBounds x.1 x.2) rec.tmps:=by
     rw[←Array.foldl_toList,Array.toList_zip,hp]
    have hR:=zOv (ps:=ps) hlen hA hL;refine⟨?_,?_,rfl⟩
    ·show((rec.params.zip qJ.toArray).foldl (fun tmps(x:Nat×Value)=>tmps.setIfInBounds x.1 x.2) rec.tmps).size=_;rw[hz];have h1:=hR.length;rw[zOu]at h1;have h2:=hL.length;simp at h1 h2;omega
    ·show zN B (rd w Y) _ ((rec.params.zip qJ.toArray).foldl (fun tmps(x:Nat×Value)=>tmps.setIfInBounds x.1 x.2) rec.tmps).toList;rw[hz];exact hR
   unfold qKh at h;split at h
   ·rename_i s1 J1;split at h
    ·rename_i L2 ps2 d1 d2 hl2;have hi2:=nM hl2 (by simp)
     subst ha;refine hrn _ _ _ _ J1 E w0 X F rec.tmps.size _ [] B w Y Mo (some b0) _ (.inr hna) hW hF fun a1 w1 B1 Y1 Mo1 bs hbs g1 g2 g3 g4=>?_;obtain rfl:=hbs hna;obtain⟨rec2,k2,hk3,⟨_,_,_,_,_,_,hs2⟩,hset,_⟩:=Wd.lp g1 hi2 (g3 _ _ hB);obtain⟨hWb,hleb⟩:=hset {rec2 with state:= .busy} false none rfl rfl rfl rfl rfl
     refine⟨_,run_beginRound (g1.st.get k2 hk3) hs2.1,?_⟩;unfold endY at h;subst hb;split at h
     ·rename_i e s2 J2;rw[jO]at J2;refine hrn _ _ _ _ J2 E w0 X F rec.tmps.size a1 [] B1 _ Y1 _ (some b0) _ (.inr hnb) hWb (g2.mono (BLe.refl _) hleb) fun a3 w3 B3 Y3 Mo3 bs hbs f1 f2 f3 f4=>?_;obtain rfl:=hbs hnb;split at h
      ·rename_i L4 ps4 e1 e2 hl4;have hi4:=nM hl4 (by simp)
       obtain⟨rec4,k4,hk5,⟨_,_,_,_,_,_,hs4⟩,hset4,_⟩:=Wd.lp f1 hi4 (f3 _ _ (g3 _ _ hB));have y4:=(g4.trans hleb).trans f4;cases e with
       | n=>
        simp only[Option.some.injEq,Prod.mk.injEq,jO]at h;obtain⟨rfl,rfl⟩:=h;obtain⟨hWe,hlee⟩:=hset4 {rec4 with state:= .ready,pending:=none} true none rfl rfl rfl rfl ⟨rfl,rfl⟩
        exact⟨_,_,run_endRound none (f1.st.get k4 hk5),hk _ _ _ _ _ hWe (.v rfl) (g3.trans f3) (y4.trans hlee)⟩
       | r=>
        simp only[Option.some.injEq,Prod.mk.injEq,jO]at h;obtain⟨rfl,rfl⟩:=h;obtain⟨hWe,hlee⟩:=hset4 {rec4 with state:= .done,pending:=some .ret} false (some .ret) rfl rfl rfl rfl ⟨rfl,rfl⟩
        exact⟨_,_,run_endRound (some .ret) (f1.st.get k4 hk5),hk _ _ _ _ _ hWe (.v rfl) (g3.trans f3) (y4.trans hlee)⟩
       | x id=>
        simp only[Option.some.injEq,Prod.mk.injEq,jO]at h;obtain⟨rfl,rfl⟩:=h;obtain⟨hWe,hlee⟩:=hset4 {rec4 with state:= .done,pending:=some (.exit id)} false (some (.exit id)) rfl rfl rfl rfl ⟨rfl,rfl⟩
        exact⟨_,_,run_endRound (some (.exit id)) (f1.st.get k4 hk5),hk _ _ _ _ _ hWe (.v rfl) (g3.trans f3) (y4.trans hlee)⟩
       | p t=>simp at h
      ·cases h
     ·cases h
    ·cases h
   ·cases h
 ·cases h
theorem qQa(hcl:yN P cl){g:Operand}{ps:Array Tmp}{c1 c2:Code}{e:Ex}{s':S}(hW:Wd P E w0 X F H B w Y Mo)(hF:FrT n a L D B (rd w Y))(hna:noR c1=true)(hnb:noR c2=true)
  (h:qPz P cl ps.toList c1 c2 L H (evO L g)=some (e,s')) (hk:mG P E w0 X F n D false e s' B (rd w Y) Q):(Code.rangeFunc g ps c1 c2).wpIn (FF none) 0 P Q a w:=by
 have hg:=hF.rep g;unfold qPz at h;split at h
 ·rename_i f cs eg;rw[eg]at hg;obtain⟨caps,hv,hcs⟩:=hg.fnI;cases hen:jF P f with
  | false=>simp[hen]at h
  | true=>
   simp only[hen,cond_true]at h;refine wpIn_rangeFunc fun fn _=>?_;have h1:=hW.st.alloc (.deferred (some []));have h2:=h1.alloc (.loop {state:= .ready,pending:=none,fn:=fn,tmps:=a.tmps,params:=ps,assign:=c1,body:=c2,defers:=w.heap.size});have hle:Le (rd w Y) (rd ((w.alloc (.deferred (some []))).alloc (.loop {state:= .ready,pending:=none,fn:=fn,tmps:=a.tmps,params:=ps,assign:=c1,body:=c2,defers:=w.heap.size})) _):=(Le.hide_new (.deferred (some []))).trans (Le.hide_new _);have hrun:=run_enterLoop_outer (P:=P) (w:=w) fn a.tmps ps c1 c2;have hN:=Wd.new (F':=w.heap.size::F) (g:=(w.alloc (.deferred (some []))).heap.size) (C:=0) (o:= .loop L ps.toList c1 c2 true none) hW
    (St.perm (by
     show List.Perm _ ((_::Mo)++((w.heap.size,Obj.deferred (some []))::kE F));exact(List.Perm.cons _ List.perm_middle.symm)) h2) hle rfl
    (.loop (hF.reps.mono (BLe.refl B) hle) rfl rfl rfl hna hnb ⟨rfl,rfl⟩)
   obtain⟨hWn,hBn⟩:=hN;have hl1:(w.alloc (.deferred (some []))).heap.size=w.heap.size+1:=by simp
   cases hc:cl f (.yl (ln H)::cs) (H++[.loop L ps.toList c1 c2 true none])with
   | none=>simp[hc,qNc]at h
   | some vh=>
    obtain⟨tv,H1⟩:=vh;simp only[hc,qNc]at h;rw[hl1]at hWn hBn;have hy:Rep (wJ B H.length (w.heap.size+1,0)) (rd ((w.alloc (.deferred (some []))).alloc (.loop {state:= .ready,pending:=none,fn:=fn,tmps:=a.tmps,params:=ps,assign:=c1,body:=c2,defers:=w.heap.size})) (bY (w.heap.size+1) (bY w.heap.size Y))) (.yl (ln H)) (.func (.yield (w.heap.size+1)) #[] #[]):=by
     rw[qL];exact .yl (qA _ _ _)
    have hK:=hcl _ _ _ _ _ hc E w0 X (w.heap.size::F) _ _ _ _ (.func (.yield (w.heap.size+1)) #[] #[]::caps)
     (fun e w3=>(∃v,e= .returned v)∧∃rec,w3.heap[w.heap.size+1]?=some (.loop rec)∧rec.state≠.busy∧
      (match rec.pending with
       | none=>Q .normal {a with defers:=Gv.mark w.heap.size::a.defers} (w3.putObj (w.heap.size+1) (.loop {rec with state:= .exhausted}))
       | some c=>c.wpIn (FF none) 0 P Q {a with defers:=Gv.mark w.heap.size::a.defers} (w3.putObj (w.heap.size+1) (.loop {rec with state:= .exhausted}))))
     (by rw[←hl1];rw[hl1];exact hWn) ⟨by rw[hl1]at *;exact hy,hcs.mono hBn (by rw[hl1]at hle;exact hle)⟩ ?_
    ·clear hle h2;generalize (w.alloc (.deferred (some []))).alloc (.loop {state:= .ready,pending:=none,fn:=fn,tmps:=a.tmps,params:=ps,assign:=c1,body:=c2,defers:=w.heap.size})=W1 at hK hrun;refine⟨w.heap.size+1,[Gv.mark w.heap.size],W1,{target:= .fn (.func f) caps.toArray,args:=#[.func (.yield (w.heap.size+1)) #[] #[]]},W1,f,
      #[.func (.yield (w.heap.size+1)) #[] #[]]++caps.toArray,W1,hrun,?_,fun f' _=>yY none f',?_,wP none 0,?_⟩
     ·simp only[resolve,hv];simp[go_sem]
     ·simp only[invoke];exact tX hen _ _
     ·refine tJ.2 ((show Calls P f (#[.func (.yield (w.heap.size+1)) #[] #[]]++caps.toArray) W1 _ by simpa using hK).mono ?_)
      rintro e w3 ⟨⟨v,rfl⟩,rec,hl,hb,hrest⟩;exact⟨rec.pending,_,run_endLoop hl hb,hrest⟩
    ·intro v w3 B3 Y3 Mo3 k1 k2 k3 k4;refine⟨⟨v,rfl⟩,?_⟩;have hBl:B3 H.length=some (w.heap.size+1,0):=k3 _ _ (qA _ _ _);have fin:∀(L2:List T)(ps2:List Nat)(d1 d2:Code)(q:Bool)(pd:Option Code),H1[H.length]?=some (.loop L2 ps2 d1 d2 q pd)→q=true∨pd≠none→
       ∃rec,w3.heap[w.heap.size+1]?=some (.loop rec)∧rec.state≠.busy∧rec.pending=pd∧∃Mo4,Wd P E w0 X (w.heap.size::F) (H1.set H.length .gone) B3 (w3.putObj (w.heap.size+1) (.loop {rec with state:= .exhausted})) Y3 Mo4∧Le (rd w3 Y3) (rd (w3.putObj (w.heap.size+1) (.loop {rec with state:= .exhausted})) Y3):=fun L2 ps2 d1 d2 q pd hi hq=>by
      obtain⟨rec,k,hk2,⟨_,_,_,_,_,_,hs⟩,_,hgone⟩:=Wd.lp k1 hi hBl;refine⟨rec,k1.st.get k hk2,?_,?_,_,hgone _⟩
      ·cases q<;>cases pd<;>simp only[LSt]at hs
       ·rcases hq with h | h<;>simp at h
       ·rw[hs.1];simp
       ·rw[hs.1];simp
      ·cases q<;>cases pd<;>simp only[LSt]at hs
       ·rcases hq with h | h<;>simp at h
       ·exact hs.2
       ·exact hs.2
     have hBt:BLe B B3:=hBn.trans k3;have hlet:Le (rd w Y) (rd w3 Y3):=(by rw[hl1]at hle;exact hle:Le (rd w Y) _).trans k4
     have hFm:∀{r3:Rd},Le (rd w Y) r3→FrT n {a with defers:=Gv.mark w.heap.size::a.defers} L ([w.heap.size].map Gv.mark++D) B3 r3:=fun hr=>⟨hF.size,hF.reps.mono hBt hr,by show Gv.mark w.heap.size::a.defers=_;rw[hF.defers];rfl⟩
     split at h
     ·rename_i L2 ps2 d1 d2 hl2;rw[qL]at hl2;obtain⟨rec,f1,f2,f3,Mo4,f4,f5⟩:=fin _ _ _ _ _ _ (nM hl2 (by simp)) (.inl rfl)
      refine⟨rec,f1,f2,?_⟩;generalize w3.putObj (w.heap.size+1) (.loop {rec with state:= .exhausted})=w4 at f4 f5 ⊢
      rw[f3];simp only[Option.some.injEq,Prod.mk.injEq,jO,qL]at h;obtain⟨rfl,rfl⟩:=h;exact hk _ _ _ _ _ [w.heap.size] (fun e=>by cases e) f4 (hFm (hlet.trans f5)) hBt (hlet.trans f5)
     ·rename_i L2 ps2 d1 d2 hl2;rw[qL]at hl2;obtain⟨rec,f1,f2,f3,Mo4,f4,f5⟩:=fin _ _ _ _ _ _ (nM hl2 (by simp)) (.inr (by simp))
      refine⟨rec,f1,f2,?_⟩;generalize w3.putObj (w.heap.size+1) (.loop {rec with state:= .exhausted})=w4 at f4 f5 ⊢
      rw[f3];simp only[Option.some.injEq,Prod.mk.injEq,jO,qL]at h;obtain⟨rfl,rfl⟩:=h;exact rQ (hk _ _ _ _ _ [w.heap.size] (fun e=>by cases e) f4 (hFm (hlet.trans f5)) hBt (hlet.trans f5))
     ·rename_i L2 ps2 d1 d2 id hl2;rw[qL]at hl2;obtain⟨rec,f1,f2,f3,Mo4,f4,f5⟩:=fin _ _ _ _ _ _ (nM hl2 (by simp)) (.inr (by simp))
      refine⟨rec,f1,f2,?_⟩;generalize w3.putObj (w.heap.size+1) (.loop {rec with state:= .exhausted})=w4 at f4 f5 ⊢
      rw[f3];simp only[Option.some.injEq,Prod.mk.injEq,jO,qL]at h;obtain⟨rfl,rfl⟩:=h;exact dP (hk _ _ _ _ _ [w.heap.size] (fun e=>by cases e) f4 (hFm (hlet.trans f5)) hBt (hlet.trans f5))
     ·cases h
 ·cases h
theorem mG.one{q:Bool}{e:Ex}{s':S}(h:mG P E w0 X F n D q e s' B r Q){a':Act}{w':World}{B':Bm}{Y':Hid}{Mo':List (Nat×Obj)}(h1:Wd P E w0 X F s'.H B' w' Y' Mo')(h2:FrT n a' s'.L D B' (rd w' Y'))(h3:BLe B B')(h4:Le r (rd w' Y')):QOk Q B' (rd w' Y') a' w' e:=
 h a' w' B' Y' Mo' [] (fun _=>rfl) h1 h2 h3 h4
theorem mG.next{q q1 q2:Bool}{e:Ex}{s':S}(h:mG P E w0 X F n D q e s' B r Q)(hq:q=true→q1=true∧q2=true){w':World}{B':Bm}{Y':Hid}{bs:List Nat}(hbs:q1=true→bs=[])(h3:BLe B B')(h4:Le r (rd w' Y')):mG P E w0 X (bs++F) n (bs.map Gv.mark++D) q2 e s' B' (rd w' Y') Q:=
 fun a2 w2 B2 Y2 Mo2 bs2 hb2 k1 k2 k3 k4=>h a2 w2 B2 Y2 Mo2 (bs2++bs) (fun e=>by rw[hbs (hq e).1,hb2 (hq e).2];rfl) (by rw[List.append_assoc];exact k1) (by rw[List.map_append,List.append_assoc];exact k2) (h3.trans k3) (h4.trans k4)
theorem qNe{SO:Oo}{O:Rn→Po}(hm:P.follows .mixedOrders=true)(hS:zXy P SO)(hO:∀rn,tF P rn→qF P (O rn)):∀k,tF P (evC P SO O k):=by
 intro k;induction k using Nat.strongRecOn with
 | _ k ih=>
  cases k with
  | zero=>intro c s e s' h;simp[evC]at h
  | succ k=>
   have hk:tF P (evC P SO O k):=ih k (Nat.lt_succ_self k);have hcl:=zYq (P:=P) hm hS (hO _ hk) hk;have hpc:=zVu (P:=P) hk;have hyd:=qEu (P:=P) hk;intro c s e s' h E w0 X F n a D B w Y Mo rr Q hr hW hF hA;have h:vS P SO (O (evC P SO O k)) (evC P SO O k) c s=some (e,s'):=h;cases c with
   | skip=>simp only[vS,Option.some.injEq,Prod.mk.injEq]at h;obtain⟨rfl,rfl⟩:=h;exact xV (hA.one hW hF (BLe.refl B) (Le.refl _))
   | label l=>simp only[vS,Option.some.injEq,Prod.mk.injEq]at h;obtain⟨rfl,rfl⟩:=h;exact zJs (hA.one hW hF (BLe.refl B) (Le.refl _))
   | exit id=>simp only[vS,Option.some.injEq,Prod.mk.injEq]at h;obtain⟨rfl,rfl⟩:=h;exact dP (hA.one hW hF (BLe.refl B) (Le.refl _))
   | ret=>simp only[vS,Option.some.injEq,Prod.mk.injEq]at h;obtain⟨rfl,rfl⟩:=h;exact rQ (hA.one hW hF (BLe.refl B) (Le.refl _))
   | seq x y=>
    simp only[vS]at h;have hr1:rr=none∨noR x=true:=hr.imp id fun h=>by simp only[noR,Bool.and_eq_true]at h;exact h.1
    have hr2:rr=none∨noR y=true:=hr.imp id fun h=>by simp only[noR,Bool.and_eq_true]at h;exact h.2
    have hq:noR (.seq x y)=true→noR x=true∧noR y=true:=fun h=>by simpa[noR]using h
    cases hx:evC P SO O k x s with
    | none=>simp[hx,zCu]at h
    | some es=>
     obtain⟨e1,s1⟩:=es;refine wpIn_seq (hk _ _ _ _ hx E w0 X F n a D B w Y Mo rr _ hr1 hW hF fun a' w' B' Y' Mo' bs hbs g1 g2 g3 g4=>?_);cases e1 with
     | n=>
      simp only[hx,zCu]at h;exact hk _ _ _ _ h E w0 X _ n a' _ B' w' Y' Mo' rr Q hr2 g1 g2 (hA.next hq hbs g3 g4)
     | x id=>simp only[hx,zCu,Option.some.injEq,Prod.mk.injEq]at h;obtain⟨rfl,rfl⟩:=h;exact hA a' w' B' Y' Mo' bs (fun e=>hbs (hq e).1) g1 g2 g3 g4
     | r=>simp only[hx,zCu,Option.some.injEq,Prod.mk.injEq]at h;obtain⟨rfl,rfl⟩:=h;exact hA a' w' B' Y' Mo' bs (fun e=>hbs (hq e).1) g1 g2 g3 g4
     | p t=>simp only[hx,zCu,Option.some.injEq,Prod.mk.injEq]at h;obtain⟨rfl,rfl⟩:=h;exact hA a' w' B' Y' Mo' bs (fun e=>hbs (hq e).1) g1 g2 g3 g4
   | cond c x y=>
    simp only[vS]at h;have hc:=hF.rep c;unfold qKj at h;split at h
    ·rename_i b eb;rw[eb]at hc;cases b with
     | true=>exact wpIn_cond_true hc.bool (hk _ _ _ _ h E w0 X F n a D B w Y Mo rr Q (hr.imp id fun h=>by simp only[noR,Bool.and_eq_true]at h;exact h.1) hW hF fun a' w' B' Y' Mo' bs hbs=>hA a' w' B' Y' Mo' bs fun e=>hbs (by simp only[noR,Bool.and_eq_true]at e;exact e.1))
     | false=>exact wpIn_cond_false hc.bool (hk _ _ _ _ h E w0 X F n a D B w Y Mo rr Q (hr.imp id fun h=>by simp only[noR,Bool.and_eq_true]at h;exact h.2) hW hF fun a' w' B' Y' Mo' bs hbs=>hA a' w' B' Y' Mo' bs fun e=>hbs (by simp only[noR,Bool.and_eq_true]at e;exact e.2))
    ·cases h
   | block id x=>
    simp only[vS]at h;cases hx:evC P SO O k x s with
    | none=>simp[hx,zVl]at h
    | some es=>
     obtain⟨e1,s1⟩:=es;refine jX (hk _ _ _ _ hx E w0 X F n a D B w Y Mo rr _ hr hW hF fun a' w' B' Y' Mo' bs hbs g1 g2 g3 g4=>?_);cases e1 with
     | n=>simp only[hx,zVl,Option.some.injEq,Prod.mk.injEq]at h;obtain⟨rfl,rfl⟩:=h;exact hA a' w' B' Y' Mo' bs hbs g1 g2 g3 g4
     | r=>simp only[hx,zVl,Option.some.injEq,Prod.mk.injEq]at h;obtain⟨rfl,rfl⟩:=h;exact hA a' w' B' Y' Mo' bs hbs g1 g2 g3 g4
     | p t=>simp only[hx,zVl,Option.some.injEq,Prod.mk.injEq]at h;obtain⟨rfl,rfl⟩:=h;exact hA a' w' B' Y' Mo' bs hbs g1 g2 g3 g4
     | x j=>
      simp only[hx,zVl,Option.some.injEq,Prod.mk.injEq]at h;obtain⟨rfl,rfl⟩:=h;have:=hA a' w' B' Y' Mo' bs hbs g1 g2 g3 g4;cases hj:Nat.beq j id with
      | true=>rw[hj]at this;obtain rfl:=qH hj;exact rH this
      | false=>rw[hj]at this;exact zDo hj this
   | scope x=>
    simp only[vS]at h;rcases hr with rfl | hr
    ·exact zJt (hk _ _ _ _ h E w0 X F n a D B w Y Mo none _ (.inl rfl) hW hF fun a' w' B' Y' Mo' bs _ g1 g2 g3 g4=>by
      have:=hA a' w' B' Y' Mo' bs (fun e=>by simp[noR]at e) g1 g2 g3 g4
      cases e<;>exact this)
    ·simp[noR]at hr
   | loop x=>
    have hr1:rr=none∨noR x=true:=hr.imp id fun h=>by simpa[noR]using h
    refine lC (γ:=Nat×S×List Nat) (fun g a w=>g.1≤k∧vS P SO (O (evC P SO O g.1)) (evC P SO O g.1) (.loop x) g.2.1=some (e,s')∧∃B' Y' Mo',(noR x=true→g.2.2=[])∧Wd P E w0 X (g.2.2++F) g.2.1.H B' w Y' Mo'∧FrT n a g.2.1.L (g.2.2.map Gv.mark++D) B' (rd w Y')∧BLe B B'∧Le (rd _ Y) (rd w Y'))
     (fun g=>g.1) (k,s,[]) ⟨Nat.le_refl k,h,B,Y,Mo,fun _=>rfl,hW,hF,BLe.refl B,Le.refl _⟩ ?_
    rintro⟨j,s0,bs0⟩ a0 w1 ⟨hj,hstep,B1,Y1,Mo1,hb1,g1,g2,g3,g4⟩;simp only[vS]at hstep hj hb1 g1 g2;cases hx:evC P SO O j x s0 with
    | none=>simp[hx,zCu]at hstep
    | some es=>
     obtain⟨e1,s1⟩:=es;refine ih j (by omega) _ _ _ _ hx E w0 X _ n a0 _ B1 w1 Y1 Mo1 rr _ hr1 g1 g2 fun a' w' B' Y' Mo' bs hbs k1 k2 k3 k4=>?_
     have hbs':noR x=true→bs++bs0=[]:=fun e=>by rw[hbs e,hb1 e];rfl
     have k1':Wd P E w0 X (bs++bs0++F) s1.H B' w' Y' Mo':=by rw[List.append_assoc];exact k1
     have k2':FrT n a' s1.L ((bs++bs0).map Gv.mark++D) B' (rd w' Y'):=by rw[List.map_append,List.append_assoc];exact k2
     cases e1 with
     | n=>
      simp only[hx,zCu]at hstep;cases j with
      | zero=>simp[evC]at hstep
      | succ j=>exact⟨(j,s1,bs++bs0),⟨by omega,hstep,B',Y',Mo',hbs',k1',k2',g3.trans k3,g4.trans k4⟩,Nat.lt_succ_self j⟩
     | x id=>simp only[hx,zCu,Option.some.injEq,Prod.mk.injEq]at hstep;obtain⟨rfl,rfl⟩:=hstep;exact hA a' w' B' Y' Mo' (bs++bs0) (fun e=>hbs' (by simpa[noR]using e)) k1' k2' (g3.trans k3) (g4.trans k4)
     | r=>simp only[hx,zCu,Option.some.injEq,Prod.mk.injEq]at hstep;obtain⟨rfl,rfl⟩:=hstep;exact hA a' w' B' Y' Mo' (bs++bs0) (fun e=>hbs' (by simpa[noR]using e)) k1' k2' (g3.trans k3) (g4.trans k4)
     | p t=>simp only[hx,zCu,Option.some.injEq,Prod.mk.injEq]at hstep;obtain⟨rfl,rfl⟩:=hstep;exact hA a' w' B' Y' Mo' (bs++bs0) (fun e=>hbs' (by simpa[noR]using e)) k1' k2' (g3.trans k3) (g4.trans k4)
   | region id ops draw=>
    cases draw with
    | false=>
     simp only[vS]at h;cases hok:lI ops with
     | false=>simp[hok]at h
     | true=>
      simp only[hok,cond_true]at h;refine wpIn_region_list ?_;exact zUh hcl hyd hpc _ _ _ h hok hW hF (BLe.refl B) (Le.refl _) fun a' w' B' Y' Mo' k1 k2 k3 k4=>hA.one k1 k2 k3 k4
    | true=>
     simp only[vS]at h;cases hok:lI ops with
     | false=>simp[hok,qIy]at h
     | true=>
      simp only[hok,cond_true]at h;cases ho:drE P (O (evC P SO O k)) (evC P SO O k) (zHc P SO (O (evC P SO O k)) (evC P SO O k)) (zGg (evC P SO O k)) ops s with
      | none=>simp[ho,qIy]at h
      | some s1=>
       simp only[ho,qIy,Option.some.injEq,Prod.mk.injEq]at h;obtain⟨rfl,rfl⟩:=h;exact qFz hm (hO _ hk) hk hcl hyd hok ho hW hF fun a' w' B' Y' Mo' k1 k2 k3 k4=>hA.one k1 k2 k3 k4
   | rangeFunc g ps c1 c2=>
    simp only[vS]at h;cases hn:noR c1&&noR c2 with
    | false=>simp[hn]at h
    | true=>
     simp only[hn,cond_true]at h;simp only[Bool.and_eq_true]at hn;rcases hr with rfl | hr
     ·exact qQa hcl hW hF hn.1 hn.2 h hA
     ·simp[noR]at hr
   | goto l=>simp[vS]at h
   | refuse why=>simp[vS]at h
theorem qGc{SO:Oo}{O:Rn→Po}(hm:P.follows .mixedOrders=true)(hS:zXy P SO)(hO:∀rn,tF P rn→qF P (O rn)){k f m:Nat}{az:List T}{tv:T}{nw:Bool}(h:yC P (evC P SO O k) m f az=some (tv,nw)):KnP P m f az tv nw:=
 zEg (mV hm (qNe hm hS hO k)) h
end
inductive Ar where
  | r (a:Raw)
  | i (n:Int)
  | b (b:Bool)
  | s (s:ByteArray)
inductive Rs where
  | one (a:Ar)
  | tup (l:List Ar)
noncomputable def aD:Nat→List T→Option (List Nat)
 | 0,_=>some []
 | _+1,[]=>none
 | n+1,t::l=>match t with
  | .v (.int .u32 (.ofNat x))=>bif Nat.blt x 4294967296 then(match aD n l with | some r=>some (x::r) | none=>none)else none
  | _=>none
noncomputable def zQx:T→Option (List Nat)
 | .v (.slice none 0 0)=>some []
 | .sl cs n=>aD n cs
 | .st cs n=>bif Nat.ble n 9223372036854775807 then aD n cs else none
 | _=>none
noncomputable def arT:T→Option Ar
 | .v (.int .i64 n)=>some (.i n)
 | .v (.bool b)=>some (.b b)
 | .v (.string s)=>some (.s s)
 | .ag [.v (.bool b),x,y]=>(match zQx x,zQx y with
  | some l,some l2=>some (.r ⟨b,l,l2⟩)
  | _,_=>none)
 | _=>none
noncomputable def zQb:List T→Option (List Ar)
 | []=>some []
 | t::l=>match arT t,zQb l with
  | some a,some r=>some (a::r)
  | _,_=>none
noncomputable def unL(l:List Nat):T:= .sl (l.map fun(x:Nat)=>T.v (.int .u32 (.ofNat x))) l.length
noncomputable def unA:Ar→T
 | .r a=> .ag [.v (.bool a.neg),unL a.ln,unL a.ld]
 | .i n=> .v (.int .i64 n)
 | .b b=> .v (.bool b)
 | .s s=> .v (.string s)
noncomputable def unR:Rs→T
 | .one a=>unA a
 | .tup l=> .tu (l.map unA)
def ArV(X:Hid)(w:World):Ar→Value→Prop
 | .r a,v=>vG X w v a
 | .i n,v=>v= .int .i64 n
 | .b b,v=>v= .bool b
 | .s s,v=>v= .string s
def zPu(X:Hid)(w:World):List Ar→List Value→Prop
 | [],[]=>True
 | a::az,v::vs=>ArV X w a v∧zPu X w az vs
 | _,_=>False
def RsV(X:Hid)(w:World):Rs→Value→Prop
 | .one a,v=>ArV X w a v
 | .tup l,v=>∃vs:List Value,v= .tuple vs.toArray∧zPu X w l vs
def KC(P:Program)(f:Nat)(p:List Ar→Option Rs)(nw:Bool):Prop:=
 ∀(w:World)(X:Hid)(_:∀b o,X b o→b<w.heap.size)(az:List Ar)(vs:List Value)(_:zPu X w az vs)(y:Rs),p az=some y→Calls P f vs.toArray w (Ret E0 w fun w' v=>RsV (bif nw then old w else X) w' y v)
section
variable {B:Bm}{X:Hid}{w:World}
theorem zEm:∀{n:Nat}{cs:List T}{l:List Nat},aD n cs=some l→l.length=n∧∀x∈l,x<4294967296
 | 0,_,l,h=>by simp[aD]at h;subst h;simp
 | n+1,[],l,h=>by simp[aD]at h
 | n+1,t::cs,l,h=>by
  simp only[aD]at h;split at h
  ·rename_i x;cases hb:Nat.blt x 4294967296 with
   | false=>simp[hb]at h
   | true=>
    simp only[hb,cond_true]at h;cases hr:aD n cs with
    | none=>simp[hr]at h
    | some r=>
     simp only[hr,Option.some.injEq]at h;subst h;obtain⟨h1,h2⟩:=zEm hr;rw[Nat.blt_eq]at hb;refine⟨by simp[h1],fun y hy=>?_⟩
     rcases List.mem_cons.1 hy with rfl | hy
     ·exact hb
     ·exact h2 y hy
  ·cases h
theorem zNw:∀{n:Nat}{cs:List T}{l:List Nat},aD n cs=some l→∀(j x:Nat),l[j]?=some x→cs[j]?=some (.v (.int .u32 (.ofNat x)))
 | 0,_,l,h,j,x,hx=>by simp[aD]at h;subst h;simp at hx
 | n+1,[],l,h,j,x,hx=>by simp[aD]at h
 | n+1,t::cs,l,h,j,x,hx=>by
  simp only[aD]at h;split at h
  ·rename_i y;cases hb:Nat.blt y 4294967296 with
   | false=>simp[hb]at h
   | true=>
    simp only[hb,cond_true]at h;cases hr:aD n cs with
    | none=>simp[hr]at h
    | some r=>
     simp only[hr,Option.some.injEq]at h;subst h;cases j with
     | zero=>simp at hx;subst hx;rfl
     | succ j=>exact zNw hr j x (by simpa using hx)
  ·cases h
theorem zYk{r:Rd}{b o n:Nat}{cs:List T}{l:List Nat}(h:aD n cs=some l)(hc:Cls B r b o cs):At r ⟨b,o,none⟩ (U32 l):=by
 intro j v hv;simp only[U32,List.getElem?_map]at hv;cases hx:l[j]? with
 | none=>rw[hx]at hv;cases hv
 | some x=>
  rw[hx]at hv;cases hv;obtain⟨v,h1,h2⟩:=hc j _ (zNw h j x hx);obtain⟨rfl,_⟩:=h2.vI;rw[qG];exact h1
theorem zJz{t:T}{l:List Nat}{v:Value}(h:zQx t=some l)(hR:Rep B (rd w X) t v):∃ad n c,v= .slice ad n c∧zL (rd w X) ad n c l:=by
 unfold zQx at h;split at h
 ·cases h;obtain⟨rfl,_⟩:=hR.vI;exact⟨none,0,0,rfl,zL.nil none (by omega)⟩
 ·rename_i cs n;have hR2:=hR;obtain⟨ad,c,rfl,hn,hh⟩:=hR.slI;obtain⟨h1,h2⟩:=zEm h;refine⟨ad,n,c,rfl,h1.symm,hn,hR2.slB,h2,?_⟩;rcases hh with⟨rfl,rfl⟩ | ⟨b,o,rfl,hc⟩
  ·left;exact List.length_eq_zero_iff.1 h1
  ·exact .inr ⟨b,o,rfl,zYk h hc⟩
 ·rename_i cs n;cases hb:Nat.ble n 9223372036854775807 with
  | false=>simp[hb]at h
  | true=>
   simp only[hb,cond_true]at h;rw[Nat.ble_eq]at hb;obtain⟨ad,rfl,hh⟩:=hR.stI;obtain⟨h1,h2⟩:=zEm h;refine⟨ad,n,n,rfl,h1.symm,Nat.le_refl _,hb,h2,?_⟩;rcases hh with⟨rfl,rfl⟩ | ⟨b,o,rfl,hc⟩
   ·left;exact List.length_eq_zero_iff.1 h1
   ·exact .inr ⟨b,o,rfl,zYk h hc⟩
 ·cases h
theorem zYj{t:T}{a:Ar}{v:Value}(h:arT t=some a)(hR:Rep B (rd w X) t v):ArV X w a v:=by
 unfold arT at h;split at h
 ·cases h;exact hR.vI.1
 ·cases h;exact hR.vI.1
 ·cases h;exact hR.vI.1
 ·rename_i b x y;cases h1:zQx x with
  | none=>simp[h1]at h
  | some l=>
   cases h2:zQx y with
   | none=>simp[h1,h2]at h
   | some l2=>
    simp only[h1,h2,Option.some.injEq]at h;subst h;obtain⟨vs,rfl,hvs⟩:=hR.agI;match vs,hvs with
    | [v1,v2,v3],⟨g1,g2,g3,_⟩=>
     obtain⟨rfl,_⟩:=g1.vI;obtain⟨a1,n1,c1,rfl,k1⟩:=zJz h1 g2;obtain⟨a2,n2,c2,rfl,k2⟩:=zJz h2 g3;exact⟨_,_,_,_,_,_,rfl,k1,k2⟩
 ·cases h
theorem zSm:∀{ts:List T}{az:List Ar}{vs:List Value},zQb ts=some az→zN B (rd w X) ts vs→zPu X w az vs
 | [],az,[],h,_=>by simp[zQb]at h;subst h;trivial
 | t::ts,az,v::vs,h,hR=>by
  simp only[zQb]at h;cases h1:arT t with
  | none=>simp[h1]at h
  | some a=>
   cases h2:zQb ts with
   | none=>simp[h1,h2]at h
   | some r=>
    simp only[h1,h2,Option.some.injEq]at h;subst h;exact⟨zYj h1 hR.1,zSm h2 hR.2⟩
 | [],_,_::_,_,hR=>hR.elim
 | _::_,_,[],_,hR=>hR.elim
theorem qEk{ad:Option Addr}{n c:Nat}{l:List Nat}(h:zL (rd w X) ad n c l):Rep B (rd w X) (unL l) (.slice ad n c):=by
 have e:=h.hlen;subst e;unfold unL;rcases h.hat with rfl | ⟨b,o,rfl,ha⟩
 ·exact .sl0 h.hbig
 ·have get:∀(j:Nat)(t:T),(l.map fun(x:Nat)=>T.v (.int .u32 (.ofNat x)))[j]?=some t→∃x,l[j]?=some x∧t= .v (.int .u32 (.ofNat x))∧l.getD j 0=x:=fun j t ht=>by
   rw[List.getElem?_map]at ht;cases hx:l[j]? with
   | none=>rw[hx]at ht;cases ht
   | some x=>rw[hx]at ht;cases ht;exact⟨x,rfl,rfl,by simp[hx]⟩
  refine .sl h.hcap (fun j=> .int .u32 (.ofNat (l.getD j 0))) (fun j t ht=>?_) (fun j t ht=>?_) h.hbig
  ·obtain⟨x,hx,rfl,hg⟩:=get j t ht;have:=ha j (.int .u32 (.ofNat x)) (by simp only[U32,List.getElem?_map,hx];rfl)
   rw[qG]at this;rw[hg];exact this
  ·obtain⟨x,hx,rfl,hg⟩:=get j t ht;rw[hg];exact .v rfl
theorem qEj{a:Ar}{v:Value}(h:ArV X w a v):Rep B (rd w X) (unA a) v:=by
 cases a with
 | r a=>
  obtain⟨_,_,_,_,_,_,rfl,h1,h2⟩:=h;exact Rep.mkAg (vs:=[.bool a.neg,_,_]) ⟨.v rfl,qEk h1,qEk h2,trivial⟩
 | i n=>cases h;exact .v rfl
 | b b=>cases h;exact .v rfl
 | s s=>cases h;exact .v rfl
theorem zUw:∀{az:List Ar}{vs:List Value},zPu X w az vs→zN B (rd w X) (az.map unA) vs
 | [],[],_=>trivial
 | _::_,_::_,h=>⟨qEj h.1,zUw h.2⟩
 | [],_::_,h=>h.elim
 | _::_,[],h=>h.elim
theorem qQw{y:Rs}{v:Value}(h:RsV X w y v):Rep B (rd w X) (unR y) v:=by
 cases y with
 | one a=>exact qEj h
 | tup l=>
  obtain⟨vs,rfl,h⟩:=h;exact Rep.mkTu (zUw h)
end
noncomputable def kcE(p:List Ar→Option Rs)(nw:Bool)(az:List T):Option (T×Bool):=match zQb az with
 | some az=>(match p az with
  | some y=>some (unR y,nw)
  | none=>none)
 | none=>none
theorem nZ{P:Program}{f:Nat}{p:List Ar→Option Rs}{nw nw':Bool}(hc:KC P f p nw){az:List T}{tv:T}(h:kcE p nw az=some (tv,nw'))(k:Nat):KnP P k f az tv nw':=by
 unfold kcE at h;cases h1:zQb az with
 | none=>simp[h1]at h
 | some az2=>
  cases h2:p az2 with
  | none=>simp[h1,h2]at h
  | some y=>
   simp only[h1,h2,Option.some.injEq,Prod.mk.injEq]at h;obtain⟨rfl,rfl⟩:=h;intro B w X qJ R _ _ hX hR hk;refine(hc w X hX az2 qJ (zSm h1 hR) y h2).mono ?_;rintro e w' ⟨hu,v,rfl,hv⟩;exact hk v w' hu (qQw hv)
noncomputable def elsO(r d:Option (T×Bool)):Option (T×Bool):=match r with
 | some x=>some x
 | none=>d
noncomputable def kK:List (Nat×(List T→Option (T×Bool)))→Po
 | [],_,_=>none
 | (g,p)::l,f,az=>bif Nat.beq g f then elsO (p (az.map (unN 12))) (kK l f az)else kK l f az
theorem zFv{P:Program}{l:List (Nat×(List T→Option (T×Bool)))}{g:Nat}{p:List T→Option (T×Bool)}(hp:∀az tv nw,p az=some (tv,nw)→∀k,KnP P k g az tv nw)(hl:qF P (kK l)):qF P (kK ((g,p)::l)):=by
 intro f az tv nw h k;simp only[kK]at h;cases hb:Nat.beq g f with
 | true=>
  obtain rfl:=qH hb;simp only[hb,cond_true]at h;unfold elsO at h;split at h
  ·rename_i r hr;cases h;exact(hp _ tv nw hr k).unN
  ·exact hl _ az tv nw h k
 | false=>
  simp only[hb,cond_false]at h;exact hl f az tv nw h k
theorem qEf{P:Program}:∀{l:List (Nat×(List T→Option (T×Bool)))},(∀g p,(g,p)∈l→∀az tv nw,p az=some (tv,nw)→∀k,KnP P k g az tv nw)→qF P (kK l)
 | [],_=>fun f az tv nw h=>by simp[kK]at h
 | (g,p)::l,hl=>zFv (hl g p List.mem_cons_self) (qEf fun g p hm=>hl g p (List.mem_cons_of_mem _ hm))
noncomputable def eqT:Nat→T→T→Bool
 | 0,_,_=>false
 | k+1,a,b=>match a,b with
  | .v x,.v y=>eqV x y
  | .sl cs n,.sl ds m=>Nat.beq n m&&mW (eqT k) cs ds
  | .st cs n,.st ds m=>Nat.beq n m&&mW (eqT k) cs ds
  | .fp cs,.fp ds=>mW (eqT k) cs ds
  | .ag cs,.ag ds=>mW (eqT k) cs ds
  | .tu cs,.tu ds=>mW (eqT k) cs ds
  | .fn f cs,.fn g ds=>Nat.beq f g&&mW (eqT k) cs ds
  | _,_=>false
noncomputable def aR(az:List T)(r:T×Bool)(bs:List T):Option (T×Bool):=bif mW (eqT 12) az bs then some r else none
theorem dN:∀(k:Nat)(a b:T),eqT k a b=true→a=b
 | 0,a,b,h=>by cases h
 | k+1,a,b,h=>by
  simp only[eqT]at h;split at h
  ·rw[zZs h]
  ·simp only[Bool.and_eq_true]at h;rw[qH h.1,yU (dN k) h.2]
  ·simp only[Bool.and_eq_true]at h;rw[qH h.1,yU (dN k) h.2]
  ·rw[yU (dN k) h]
  ·rw[yU (dN k) h]
  ·rw[yU (dN k) h]
  ·simp only[Bool.and_eq_true]at h;rw[qH h.1,yU (dN k) h.2]
  ·cases h
section
variable {P:Program}{f:Nat}{az bs:List T}{tv:T}{nw:Bool}
theorem zHj{B B2:Bm}{r:Rd}:∀{az:List T}{vs:List Value},az.all (clean 12)=true→zN B r az vs→zN B2 r az vs
 | [],[],_,_=>trivial
 | a::az,v::vs,h,hR=>by
  simp only[List.all_cons,Bool.and_eq_true]at h;exact⟨xF 12 h.1 hR.1,zHj h.2 hR.2⟩
 | [],_::_,_,hR=>hR.elim
 | _::_,[],_,hR=>hR.elim
theorem KnP.clean(h:KnP P 0 f az tv nw)(ha:az.all (clean 12)=true)(ht:clean 12 tv=true)(k:Nat):KnP P k f az tv nw:=by
 intro B w X qJ R hI _ hX hR hk;exact h ⟨fun _=>none,0⟩ w X qJ R hI (fun _ _=>rfl) hX (zHj ha hR) fun v w' hu hv=>hk v w' hu (xF 12 ht hv)
theorem qQd(h:KnP P 0 f az tv nw)(hc:(az.all (Ev.clean 12)&&Ev.clean 12 tv)=true){tv':T}{nw':Bool}(hr:aR az (tv,nw) bs=some (tv',nw'))(k:Nat):KnP P k f bs tv' nw':=by
 unfold aR at hr;cases hb:mW (eqT 12) az bs with
 | false=>simp[hb]at hr
 | true=>
  obtain rfl:=yU (dN 12) hb;simp only[hb,cond_true,Option.some.injEq,Prod.mk.injEq]at hr;obtain⟨rfl,rfl⟩:=hr;simp only[Bool.and_eq_true]at hc;exact h.clean hc.1 hc.2 k
theorem qPc{O:Po}(hm:P.follows .mixedOrders=true)(hO:qF P O)(fs:List Nat){rn:Rn}(hrn:tF P rn):qF P (orF P O fs rn):=by
 intro f az tv nw h k;unfold orF at h;cases ho:O f az with
 | some r=>simp only[ho,Option.some.injEq]at h;subst h;exact hO f az tv nw ho k
 | none=>
  simp only[ho]at h;cases hc:qNn f fs&&(az.map (unN 12)).all (Ev.clean 12)with
  | false=>rw[hc]at h;cases h
  | true=>
   simp only[hc,cond_true]at h;simp only[Bool.and_eq_true]at hc;cases hf:yC P rn 0 f (az.map (unN 12))with
   | none=>simp[hf,zQe]at h
   | some r=>
    obtain⟨t,b⟩:=r;simp only[hf,zQe]at h;cases hct:Ev.clean 12 t with
    | false=>simp[hct]at h
    | true=>
     simp only[hct,cond_true,Option.some.injEq,Prod.mk.injEq]at h;obtain⟨rfl,rfl⟩:=h;exact((zEg (mV hm hrn) hf).clean hc.2 hct k).unN
theorem vV{SO:Oo}{O:Po}(hm:P.follows .mixedOrders=true)(hS:zXy P SO)(hO:qF P O)(fs:List Nat){n:Nat}(h:yC P (evC P SO (orF P O fs) n) 0 f az=some (tv,nw)):KnP P 0 f az tv nw:=
 qGc hm hS (fun _ hrn=>qPc hm hO fs hrn) h
theorem qF.cons{l:List (Nat×(List T→Option (T×Bool)))}(hl:qF P (kK l))(h:KnP P 0 f az tv nw)(hc:(az.all (Ev.clean 12)&&Ev.clean 12 tv)=true):qF P (kK ((f,aR az (tv,nw))::l)):=
 zFv (fun _ _ _ hr k=>qQd h hc hr k) hl
end
noncomputable def pRR(g:Raw→Raw→Option (Raw×Int)):List Ar→Option Rs
 | [.r a,.r b]=>(match g a b with | some (c,e)=>some (.tup [.r c,.i e]) | none=>none)
 | _=>none
noncomputable def pRI(g:Raw→Raw→Int×Int):List Ar→Option Rs
 | [.r a,.r b]=>some (.tup [.i (g a b).1,.i (g a b).2])
 | _=>none
noncomputable def pR(g:Raw→Int):List Ar→Option Rs
 | [.r a]=>some (.one (.i (g a)))
 | _=>none
noncomputable def pB(g:Raw→Raw→Bool):List Ar→Option Rs
 | [.r a,.r b]=>some (.one (.b (g a b)))
 | _=>none
noncomputable def zJr:Int→Bool
 | .ofNat n=>Nat.ble n 9223372036854775807
 | .negSucc n=>Nat.ble n 9223372036854775807
noncomputable def nz:Int→Bool
 | .ofNat n=>!Nat.beq n 0
 | .negSucc _=>true
noncomputable def pI(g:Int→Raw):List Ar→Option Rs
 | [.i n]=>bif zJr n then some (.one (.r (g n)))else none
 | _=>none
noncomputable def pII(g:Int→Int→Raw):List Ar→Option Rs
 | [.i n,.i m]=>bif(zJr n&&zJr m)&&nz m then some (.tup [.r (g n m),.i 0])else none
 | _=>none
theorem gY{n:Int}(h:zJr n=true): -9223372036854775808≤n∧n≤9223372036854775807:=by
 cases n with
 | ofNat n=>simp only[zJr,Nat.ble_eq]at h;exact⟨by rw[Int.ofNat_eq_natCast];omega,by rw[Int.ofNat_eq_natCast];omega⟩
 | negSucc n=>simp only[zJr,Nat.ble_eq]at h;rw[Int.negSucc_eq];omega
theorem qSf{n:Int}(h:nz n=true):n≠0:=by
 cases n with
 | ofNat n=>simp only[nz]at h;intro e;cases n with
  | zero=>simp at h
  | succ n=>cases e
 | negSucc n=>simp
section
variable {P:Program}{f:Nat}
theorem zTg{g:Raw→Raw→Option (Raw×Int)}(h:∀(w:World)(X:Hid)(_:∀b o,X b o→b<w.heap.size)(a:Raw)(va:Value)(_:vG X w va a)(b:Raw)(vb:Value)(_:vG X w vb b)(y:Raw×Int),g a b=some y→
  Calls P f #[va,vb] w (Ret E0 w fun w' v=>∃u,v= .tuple #[u,.int .i64 y.2]∧vG (old w) w' u y.1)):KC P f (pRR g) true:=by
 intro w X hX az vs hv y hp;unfold pRR at hp;split at hp
 ·rename_i a b;match vs,hv with
  | [va,vb],⟨ha,hb,_⟩=>
   cases hg:g a b with
   | none=>simp[hg]at hp
   | some z=>
    obtain⟨c,e⟩:=z;simp only[hg,Option.some.injEq]at hp;subst hp;refine(h w X hX a va ha b vb hb (c,e) hg).mono ?_;rintro e' w' ⟨hu,v,rfl,u,rfl,hr⟩;exact⟨hu,_,rfl,[u,.int .i64 e],rfl,hr,rfl,trivial⟩
 ·cases hp
theorem qRv{g:Raw→Raw→Int×Int}(h:∀(w:World)(X:Hid)(_:∀b o,X b o→b<w.heap.size)(a:Raw)(va:Value)(_:vG X w va a)(b:Raw)(vb:Value)(_:vG X w vb b),
  Calls P f #[va,vb] w (Ret E0 w fun _ v=>v= .tuple #[.int .i64 (g a b).1,.int .i64 (g a b).2])):KC P f (pRI g) true:=by
 intro w X hX az vs hv y hp;unfold pRI at hp;split at hp
 ·rename_i a b;match vs,hv with
  | [va,vb],⟨ha,hb,_⟩=>
   cases hp;refine(h w X hX a va ha b vb hb).mono ?_;rintro e' w' ⟨hu,v,rfl,rfl⟩;exact⟨hu,_,rfl,[.int .i64 (g a b).1,.int .i64 (g a b).2],rfl,rfl,rfl,trivial⟩
 ·cases hp
theorem kc_r{g:Raw→Int}(h:∀(w:World)(X:Hid)(_:∀b o,X b o→b<w.heap.size)(a:Raw)(va:Value)(_:vG X w va a),Calls P f #[va] w (Ret E0 w fun _ v=>v= .int .i64 (g a))):KC P f (pR g) true:=by
 intro w X hX az vs hv y hp;unfold pR at hp;split at hp
 ·rename_i a;match vs,hv with
  | [va],⟨ha,_⟩=>
   cases hp;refine(h w X hX a va ha).mono ?_;rintro e' w' ⟨hu,v,rfl,rfl⟩;exact⟨hu,_,rfl,rfl⟩
 ·cases hp
theorem kc_b{g:Raw→Raw→Bool}(h:∀(w:World)(X:Hid)(_:∀b o,X b o→b<w.heap.size)(a:Raw)(va:Value)(_:vG X w va a)(b:Raw)(vb:Value)(_:vG X w vb b),
  Calls P f #[va,vb] w (Ret E0 w fun _ v=>v= .bool (g a b))):KC P f (pB g) true:=by
 intro w X hX az vs hv y hp;unfold pB at hp;split at hp
 ·rename_i a b;match vs,hv with
  | [va,vb],⟨ha,hb,_⟩=>
   cases hp;refine(h w X hX a va ha b vb hb).mono ?_;rintro e' w' ⟨hu,v,rfl,rfl⟩;exact⟨hu,_,rfl,rfl⟩
 ·cases hp
theorem kc_i{g:Int→Raw}(h:∀(w:World)(n:Int),-9223372036854775808≤n→n≤9223372036854775807→Calls P f #[.int .i64 n] w (Ret E0 w fun w' v=>vG (old w) w' v (g n))):KC P f (pI g) true:=by
 intro w X hX az vs hv y hp;unfold pI at hp;split at hp
 ·rename_i n;match vs,hv with
  | [va],⟨hv1,_⟩=>
   have hv1:va= .int .i64 n:=hv1;subst hv1;cases hb:zJr n with
   | false=>simp[hb]at hp
   | true=>
    simp only[hb,cond_true,Option.some.injEq]at hp;subst hp;refine(h w n (gY hb).1 (gY hb).2).mono ?_;rintro e' w' ⟨hu,v,rfl,hr⟩;exact⟨hu,_,rfl,hr⟩
 ·cases hp
theorem qKq{g:Int→Int→Raw}(h:∀(w:World)(n m:Int),-9223372036854775808≤n→n≤9223372036854775807→ -9223372036854775808≤m→m≤9223372036854775807→m≠0→
  Calls P f #[.int .i64 n,.int .i64 m] w (Ret E0 w fun w' v=>∃u,v= .tuple #[u,.int .i64 0]∧vG (old w) w' u (g n m))):KC P f (pII g) true:=by
 intro w X hX az vs hv y hp;unfold pII at hp;split at hp
 ·rename_i n m;match vs,hv with
  | [va,vb],⟨hv1,hv2,_⟩=>
   have hv1:va= .int .i64 n:=hv1;have hv2:vb= .int .i64 m:=hv2;subst hv1;subst hv2;cases hb:(zJr n&&zJr m)&&nz m with
   | false=>simp[hb]at hp
   | true=>
    simp only[hb,cond_true,Option.some.injEq]at hp;subst hp;simp only[Bool.and_eq_true]at hb;refine(h w n m (gY hb.1.1).1 (gY hb.1.1).2 (gY hb.1.2).1 (gY hb.1.2).2 (qSf hb.2)).mono ?_;rintro e' w' ⟨hu,v,rfl,u,rfl,hr⟩;exact⟨hu,_,rfl,[u,.int .i64 0],rfl,hr,rfl,trivial⟩
 ·cases hp
end
inductive DT (α:Type) where
  | ret (a:α)
  | no
  | ite (b:Bool) (x y:DT α)
noncomputable def DT.run{α:Type}:DT α→Option α
 | .ret a=>some a
 | .no=>none
 | .ite b x y=>bif b then x.run else y.run
noncomputable def DT.bind{α β:Type}:DT α→(α→DT β)→DT β
 | .ret a,f=>f a
 | .no,_=> .no
 | .ite b x y,f=> .ite b (x.bind f) (y.bind f)
noncomputable def ofO{α:Type}:Option α→DT α
 | some a=> .ret a
 | none=> .no
noncomputable def grd{α:Type}(b:Bool)(d:DT α):DT α:= .ite b d .no
theorem run_bind{α β:Type}(f:α→DT β):∀d:DT α,(d.bind f).run=d.run.bind fun a=>(f a).run
 | .ret _=>rfl
 | .no=>rfl
 | .ite b x y=>by
  simp only[DT.bind,DT.run,run_bind f x,run_bind f y];cases b<;>rfl
theorem zM{α β:Type}{f:α→DT β}{d:DT α}{y:β}(h:(d.bind f).run=some y):∃a,d.run=some a∧(f a).run=some y:=by
 rw[run_bind]at h;exact Option.bind_eq_some_iff.1 h
theorem kJ{α:Type}(x:Option α):(ofO x).run=x:=by cases x<;>rfl
theorem qZ{α:Type}{b:Bool}{d:DT α}{y:α}(h:(grd b d).run=some y):b=true∧d.run=some y:=by
 cases b with
 | true=>exact⟨rfl,h⟩
 | false=>cases h
abbrev Od:=Nat→Option (List T→DT (T×Bool))
abbrev Rd':=Nat→List Bool→Code→S→DT (Ex×S)
abbrev Lo:=Nat→List Bool→S→Option (DT (Ex×S))
noncomputable def nng:Int→Bool
 | .ofNat _=>true
 | .negSucc _=>false
noncomputable def qHr:T→DT Nat
 | .v (.int _ a)=>grd (nng a) (.ret a.toNat)
 | _=> .no
noncomputable def inW:Int→Bool
 | .ofNat n=>Nat.blt n 9223372036854775808
 | .negSucc n=>Nat.blt n 9223372036854775808
noncomputable def arD(a:Int):DT Value:=grd (inW a) (.ret (.int .i64 a))
noncomputable def arW(a:Int):DT Value:= .ite (inW a) (.ret (.int .i64 a)) (.ret (.int .i64 (wr .i64 a)))
noncomputable def qNt:IntKind→Bool
 | .i64=>true
 | _=>false
noncomputable def arOp:BinOp→Bool
 | .add | .sub | .mul | .eql | .neq | .lss | .leq | .gtr | .geq=>true
 | _=>false
noncomputable def qMj(f:Bool)(op:BinOp)(k:IntKind)(a b:Int):DT Value:=bif qNt k then(match op with
 | .add=>bif f then arW (Int.add a b)else arD (Int.add a b)
 | .sub=>arD (Int.sub a b)
 | .mul=>arD (Int.mul a b)
 | _=>ofO (zVk op k a b))else ofO (zVk op k a b)
noncomputable def zCr(t:T):DT (T×Option TO):= .ret (t,none)
noncomputable def qMi(f:Bool)(op:BinOp)(x y:T):Option (DT (T×Option TO)):=match x,y with
 | .v (.int k a),.v (.int k' b)=>bif arOp op then some (bif Nat.beq (kind k) (kind k')then(qMj f op k a b).bind (fun v=>zCr (.v v))else .no)else none
 | _,_=>none
noncomputable def qDi(c a b:T):DT (T×Option TO):=match c with
 | .v (.bool c)=> .ite c (zCr a) (zCr b)
 | _=> .no
noncomputable def qNp(P:Program)(t:TypeId)(x i:T):DT (T×Option TO):=(qHr i).bind fun n=>match P.underlying t with
 | some (.slice e)=>(match ldT P e with
  | some (_,s)=>(match x with
   | .ls g A l=>bif Nat.beq s A.size then grd (Nat.blt n l.length) (zCr (.fp (qB g A (nth A.zero l n))))else .no
   | .sl cs m=>grd (Nat.blt n m) (zCr (.fp (qX cs (n*s))))
   | .st cs m=>grd (Nat.blt n m) (zCr (.fp (qX cs (n*s))))
   | .os j o m _=>grd (Nat.blt n m) (zCr (.op j (o+n*s)))
   | .og j o m=>grd (Nat.blt n m) (zCr (.op j (o+n*s)))
   | _=> .no)
  | none=> .no)
 | _=>ofO (vQ P t x (.v (.int .i64 (.ofNat n))))
noncomputable def qPa(ρ:Operand→T)(d:Nat):Option Operand→DT Nat
 | some x=>qHr (ρ x)
 | none=> .ret d
noncomputable def qQl(P:Program)(t:TypeId)(g:Tg)(A:Ty)(l:List A.den)(ρ:Operand→T)(lo hi:Option Operand):DT (T×Option TO):=match elT P t with
 | some e=>(match ldT P e with
  | some (_,s)=>bif Nat.beq s A.size then(qPa ρ 0 lo).bind fun a=>(qPa ρ l.length hi).bind fun b=>grd (Nat.ble a b) (grd (Nat.ble b l.length) (zCr (.ls g A ((l.drop a).take (b-a)))))else .no
  | none=> .no)
 | none=> .no
noncomputable def qKp:Operand→Bool
 | .tmp _=>true
 | _=>false
noncomputable def zFj(P:Program)(ρ:Operand→T)(op:Op):Option (DT (T×Option TO)):=match op with
 | .binOp op _ x y _=>qMi (qKp x&&qKp y) op (dn (ρ x)) (dn (ρ y))
 | .pick c a b=>some (qDi (ρ c) (ρ a) (ρ b))
 | .indexAddr t x i=>some (qNp P t (dn (ρ x)) (dn (ρ i)))
 | .slice t x lo hi none=>(match dn (ρ x)with
  | .ls g A l=>some (qQl P t g A l (fun y=>dn (ρ y)) lo hi)
  | _=>none)
 | _=>none
noncomputable def zVg(P:Program)(e:TypeId)(s:Nat):Bool:=match zer P e with
 | some z=>Nat.beq (ln z) s&&Nat.blt 0 s
 | none=>false
noncomputable def apN(P:Program)(e:TypeId):Nat:=match P.info? e with
 | some i=>apM i.bytes
 | none=>0
noncomputable def zYy{α:Type}(c:Cs)(n s:Nat)(d:DT α):DT α:=match c with
 | .l cs=>grd (Nat.beq (ln cs) (n*s)) d
 | .d _ A x=>bif Nat.beq s A.size then grd (Nat.beq n x.length) d else .no
noncomputable def apG(H:List TO)(e:TypeId)(s:Nat)(y:T)(b:List T)(i o n m:Nat):TO→DT (T×List TO)
 | .gro cs e'=>bif Nat.beq o 0&&Nat.beq e e' then zYy cs n s (.ret (.og (ln H) 0 (n+m),put .gone H i++[.gro (cs.apY y b) e]))else .no
 | _=> .no
noncomputable def ap1(H:List TO)(e:TypeId)(s:Nat)(y:T)(b:List T)(m:Nat):T→DT (T×List TO)
 | .og i o n=>apG H e s y b i o n m (nth .gone H i)
 | x=>(match zX H s x,qV x with
  | some a,some n=>ofO (qFf H e s y a b n m x)
  | _,_=> .no)
noncomputable def apL(P:Program)(e:TypeId)(s:Nat)(x:T)(m:Nat)(d:DT (T×List TO)):DT (T×List TO):=match qV x with
 | some n=>bif zVg P e s then grd (Nat.ble (n+m) (apN P e)) d else .no
 | none=> .no
noncomputable def zTx(y:T)(b:List T):Bool:=match y with
 | .ls .. =>true
 | _=>kY b
noncomputable def qKd(H:List TO)(s:Nat)(x:T)(o n:Nat):TO→DT (T×List TO)
 | .gro cs _=>bif Nat.beq o 0 then zYy cs n s (.ret (x,H))else .no
 | _=> .no
noncomputable def zYh(H:List TO)(s:Nat):T→DT (T×List TO)
 | .og i o n=>qKd H s (.og i o n) o n (nth .gone H i)
 | x=>(match zX H s x,qV x with
  | some _,some _=>ofO (qFd H x)
  | _,_=> .no)
noncomputable def apD(P:Program)(H:List TO)(t:TypeId)(x y:T):DT (T×List TO):=match elT P t with
 | none=> .no
 | some e=>match ldT P e with
  | none=> .no
  | some (_,s)=>match zX H s y,qV y with
   | some b,some m=> .ite (Nat.beq m 0) (zYh H s x) (bif zTx y b then apL P e s x m (ap1 H e s y b m x)else .no)
   | _,_=> .no
noncomputable def poR(OD:Od):Po:=fun f az=>match OD f with
 | some g=>(g az).run
 | none=>none
noncomputable def zEo{α β:Type}(f:α→DT β):List α→DT (List β)
 | []=> .ret []
 | t::l=>(f t).bind fun x=>(zEo f l).bind fun r=> .ret (x::r)
noncomputable def zZz(nw:Bool)(o n:Nat):TO→Option (DT T)
 | .gro (.d g A x) _=>some (bif Nat.beq o 0&&(lG A&&(!nw||g.isN))then grd (Nat.beq n x.length) (.ret (.ls .a A x.reverse))else .no)
 | _=>none
noncomputable def fZ(nw:Bool)(H:List TO):Nat→T→DT T
 | 0,_=> .no
 | k+1,t=>match t with
  | .ag cs=>(zEo (fZ nw H k) cs).bind fun l=> .ret (.ag l)
  | .tu cs=>(zEo (fZ nw H k) cs).bind fun l=> .ret (.tu l)
  | .fn f cs=>(zEo (fZ nw H k) cs).bind fun l=> .ret (.fn f l)
  | .os i o n c=>bif Nat.ble n c&&Nat.ble c 9223372036854775807 then(match wZ (nth .gone H i)with
   | some cs=>(zEo (fZ nw H k) (qX cs o)).bind fun l=> .ret (.sl l n)
   | none=> .no)else .no
  | .og i o n=>(match zZz nw o n (nth .gone H i)with
   | some d=>d
   | none=>(match wZ (nth .gone H i)with
    | some cs=>(zEo (fZ nw H k) (qX cs o)).bind fun l=> .ret (.sl l n)
    | none=> .no))
  | .op i o=>(match wZ (nth .gone H i)with
   | some cs=>(zEo (fZ nw H k) (qX cs o)).bind fun l=> .ret (.fp l)
   | none=> .no)
  | t=>ofO (jI nw H (k+1) t)
noncomputable def zKf(H:List TO):Nat→T→Bool
 | 0,_=>false
 | k+1,t=>match t with
  | .v _=>true
  | .ls g _ _=>g.isN
  | .sl [] 0=>true
  | .st [] 0=>true
  | .sn cs _=>cs.all (zKf H k)
  | .ag cs=>cs.all (zKf H k)
  | .tu cs=>cs.all (zKf H k)
  | .fn _ cs=>cs.all (zKf H k)
  | .os i o _ _=>(match wZ (nth .gone H i)with
   | some cs=>(qX cs o).all (zKf H k)
   | none=>false)
  | .og i o _=>(match nth .gone H i with
   | .gro (.d g _ _) _=>g.isN
   | x=>(match wZ x with
    | some cs=>(qX cs o).all (zKf H k)
    | none=>false))
  | .op i o=>(match wZ (nth .gone H i)with
   | some cs=>(qX cs o).all (zKf H k)
   | none=>false)
  | _=>false
noncomputable def vW(r:T×List TO):DT (T×Bool):=(fZ (zKf r.2 12 r.1) r.2 12 r.1).bind fun t=> .ret (t,zKf r.2 12 r.1)
noncomputable def newD(H:List TO):T×Bool→DT (T×List TO)
 | (t,true)=> .ret (mkN 12 t,H)
 | (_,false)=> .no
noncomputable def poD(g:List T→DT (T×Bool))(H:List TO)(az:List T):DT (T×List TO):=bif zWr az then(zEo (fZ false H 12) az).bind fun az=>(g az).bind (newD H)
 else(g az).bind fun r=> .ret (bif r.2 then mkN 12 r.1 else r.1,H)
noncomputable def qPx(P:Program)(fn:Func):Ex×S→DT (T×List TO)
 | (.x _,_)=> .no
 | (.p _,_)=> .no
 | (_,s)=>(match lN P s.L s.H fn.results.toList with
  | some r=> .ret (zOq r,s.H)
  | none=> .no)
noncomputable def xQ(P:Program)(rn:Rd')(f:Nat)(az:List T)(H:List TO):DT (T×List TO):=match P.funcs[f]? with
 | none=> .no
 | some fn=>match fn.body with
  | none=> .no
  | some c=>bif Nat.ble (ln az) fn.ntmps then(rn f [] c ⟨rest fn.ntmps az,H⟩).bind (qPx P fn)else .no
noncomputable def zYp(P:Program)(OD:Od)(rn:Rd')(f:Nat)(az:List T)(H:List TO):DT (T×List TO):=match OD f with
 | some g=>poD g H az
 | none=>xQ P rn f az H
noncomputable def qMl(P:Program)(OD:Od)(rn:Rd')(az:List T)(H:List TO):T→DT (T×List TO)
 | .fn f cs=>bif jF P f then zYp P OD rn f (az++cs) H else .no
 | .fb f bs=>bif jF P f then zYp P OD rn f (bs++az) H else .no
 | _=> .no
noncomputable def qNf(d:Option Nat)(L:List T)(r:T×List TO):DT S:= .ret ⟨dst d r.1 L,r.2⟩
noncomputable def noC:Cl:=fun _ _ _=>none
noncomputable def qKi(P:Program)(OD:Od)(rn:Rd')(o:Oper)(L:List T)(H:List TO)(c:Call):DT S:=match c.callee with
 | .value f=>(qMl P OD rn (c.args.toList.map (evO L)) H (evO L f)).bind (qNf o.dst L)
 | .builtin .append=>(match c.args.toList,c.argTypes.toList with
  | [x,y],[t,t']=>bif Nat.beq t t' then(apD P H t (evO L x) (evO L y)).bind (qNf o.dst L)else .no
  | _,_=> .no)
 | _=>ofO (lJ P noC noC o L H)
noncomputable def qHy(P:Program)(OD:Od)(rn:Rd')(o:Oper)(L:List T)(H:List TO):DT S:=match zFj P (evO L) o.op with
 | some d=>d.bind fun r=>ofO (zNb o.dst L H r)
 | none=>match o.op with
  | .call c=>qKi P OD rn o L H c
  | _=>ofO (lJ P noC noC o L H)
inductive Gd where
  | no
  | free
  | skip
  | on (t:Nat) (c b:Bool)
noncomputable def gdT(ops:Array Oper)(L:List T)(o:Oper):Gd:=match o.guard with
 | none=> .free
 | some (j,b)=>match(match ops[j]? with | some p=>p.dst | none=>none)with
  | some t=>(match nth .u L t with
   | .v (.bool c)=> .on t c b
   | .tu []=> .skip
   | _=> .no)
  | none=> .no
noncomputable def onS{α:Type}(L:List T)(t:Nat)(c b:Bool)(y n:List T→DT α):DT α:= .ite c (bif b then y (put (.v (.bool true)) L t)else n (put (.v (.bool true)) L t)) (bif b then n (put (.v (.bool false)) L t)else y (put (.v (.bool false)) L t))
noncomputable def opD(P:Program)(OD:Od)(rn:Rd')(ops:Array Oper)(o:Oper)(s:S):DT S:=match gdT ops s.L o with
 | .no=> .no
 | .free=>qHy P OD rn o s.L s.H
 | .skip=> .ret ⟨dst o.dst (.tu []) s.L,s.H⟩
 | .on t c b=>onS s.L t c b (fun L=>qHy P OD rn o L s.H) (fun L=> .ret ⟨dst o.dst (.tu []) L,s.H⟩)
noncomputable def qCo(P:Program)(OD:Od)(rn:Rd')(ops:Array Oper):List Oper→S→DT S
 | [],s=> .ret s
 | o::l,s=>(opD P OD rn ops o s).bind (qCo P OD rn ops l)
noncomputable def frsD(P:Program)(rn:Rd')(k f:Nat)(az:List T):DT (T×Bool):=(xQ P rn f (az.map (unN 12)) (nX k)).bind vW
noncomputable def puD(P:Program)(OD:Od)(rn:Rd')(k f:Nat)(az:List T):DT (T×Bool):=match OD f with
 | some g=>g az
 | none=>frsD P rn k f az
noncomputable def newH:T×Bool→DT (T×Option TO)
 | (t,true)=>zCr (mkN 12 t)
 | (_,false)=> .no
noncomputable def qPn(P:Program)(OD:Od)(rn:Rd')(k:Nat)(H:List TO)(f:Nat)(az:List T):DT (T×Option TO):=bif zWr az then(zEo (fZ false H 12) az).bind fun az=>(puD P OD rn k f az).bind newH
 else(puD P OD rn k f az).bind fun r=>zCr (bif r.2 then mkN 12 r.1 else r.1)
noncomputable def abG(Hn:List TO)(e:TypeId)(s:Nat)(y:T)(b:List T)(o n m:Nat):TO→DT (T×Option TO)
 | .gro cs e'=>bif Nat.beq o 0&&Nat.beq e e' then zYy cs n s (.ret (.og (ln Hn) 0 (n+m),some (.gro (cs.apY y b) e)))else .no
 | _=> .no
noncomputable def abX(P:Program)(H0 Hn:List TO)(e:TypeId)(s:Nat)(t:TypeId)(x y:T)(b:List T)(m:Nat):T→DT (T×Option TO)
 | .og i o n=>abG Hn e s y b o n m (nth .gone H0 i)
 | _=>ofO (zVh P H0 Hn none t x y)
noncomputable def abD(P:Program)(H0 Hn:List TO)(t:TypeId)(x y:T):DT (T×Option TO):=match elT P t with
 | none=> .no
 | some e=>match ldT P e with
  | none=> .no
  | some (_,s)=>match zX Hn s y,qV y,qV x with
   | some b,some m,some n=>bif kY b&&zVg P e s then grd (!Nat.beq m 0) (grd (Nat.ble (n+m) (apN P e)) (abX P H0 Hn e s t x y b m x))else .no
   | _,_,_=> .no
noncomputable def hcaD(P:Program)(OD:Od)(rn:Rd')(k:Nat)(H0 H Hn:List TO)(L:List T)(o:Oper)(c:Call):DT (T×Option TO):=match c.callee with
 | .value f=>(match evO L f with
  | .fn f cs=>bif jF P f then qPn P OD rn k Hn f (c.args.toList.map (evO L)++cs)else .no
  | _=> .no)
 | .builtin .append=>(match c.args.toList,c.argTypes.toList with
  | [x,y],[t,t']=>bif Nat.beq t t' then abD P H0 Hn t (evO L x) (evO L y)else .no
  | _,_=> .no)
 | _=>ofO (rP P (fun _ _=>none) H0 H Hn L o)
noncomputable def qAj(P:Program)(OD:Od)(rn:Rd')(k:Nat)(H0 H Hn:List TO)(L:List T)(o:Oper):DT (T×Option TO):=match zFj P (evO L) o.op with
 | some d=>d
 | none=>match o.op with
  | .call c=>hcaD P OD rn k H0 H Hn L o c
  | _=>ofO (rP P (fun _ _=>none) H0 H Hn L o)
noncomputable def zQs(g:List TO→List T→DT (List (T×Option TO)))(o:Oper)(Hn:List TO)(L:List T)(z:T×Option TO):DT (List (T×Option TO)):=(g (nxH Hn z.2) (dst o.dst z.1 L)).bind fun rs=> .ret (z::rs)
noncomputable def zGm(P:Program)(OD:Od)(rn:Rd')(k:Nat)(H0 H:List TO)(ops:Array Oper):List Oper→List TO→List T→DT (List (T×Option TO))
 | [],_,_=> .ret []
 | o::l,Hn,L=>match gdT ops L o with
  | .no=> .no
  | .free=>(qAj P OD rn k H0 H Hn L o).bind (zQs (zGm P OD rn k H0 H ops l) o Hn L)
  | .skip=>zQs (zGm P OD rn k H0 H ops l) o Hn L (.tu [],none)
  | .on t c b=>onS L t c b (fun L=>(qAj P OD rn k H0 H Hn L o).bind (zQs (zGm P OD rn k H0 H ops l) o Hn L)) (fun L=>zQs (zGm P OD rn k H0 H ops l) o Hn L (.tu [],none))
noncomputable def noHd(OD:Od)(L:List T)(o:Oper):Bool:=match o.op with
 | .store .. | .mapUpdate .. =>true
 | .call c=>(match c.callee with
  | .builtin .copy=>true
  | _=>false)
 | _=>false
noncomputable def hdN(OD:Od)(ops:Array Oper)(L:List T):List Oper→List Nat→Nat→Nat
 | [],_,i=>i
 | o::l,seen,i=>bif zLh o seen||(noHd OD L o||(qKo o&&tlK ops i))then i else hdN OD ops L l (zPj o seen) (i+1)
noncomputable def ksS(L:List T):List Oper→List (Option Nat)
 | []=>[]
 | o::l=>tH L o.op::ksS L l
noncomputable def qEg(P:Program)(OD:Od)(rn:Rd')(ops:Array Oper)(ld:List Nat):List Oper→S→DT S
 | [],s=> .ret s
 | o::l,s=>(opD P OD rn ops o s).bind fun s=>bif emp ld then qEg P OD rn ops ld l s else grd (sD P ops s ld) (qEg P OD rn ops ld l s)
noncomputable def drT(P:Program)(OD:Od)(rn:Rd')(ops:Array Oper)(m:Nat)(Hm:List TO)(s:S)(rs:List (T×Option TO)):DT S:=
 bif Nat.ble m ops.size&&(zZm ops m&&zJw Hm (ksE ops.toList rs s.L))then(bif emp (dS ops m)then qEg P OD rn ops [] (ops.toList.drop m) ⟨yD ops.toList rs s.L,kL (ksE ops.toList rs s.L) s.H++zZ rs⟩
  else grd (sD P ops ⟨yD ops.toList rs s.L,kL (ksE ops.toList rs s.L) s.H++zZ rs⟩ (dS ops m)) (qEg P OD rn ops (dS ops m) (ops.toList.drop m) ⟨yD ops.toList rs s.L,kL (ksE ops.toList rs s.L) s.H++zZ rs⟩))else .no
noncomputable def drH(P:Program)(OD:Od)(rn:Rd')(ops:Array Oper)(m:Nat)(Hm:List TO)(s:S):DT S:=
 (zGm P OD rn (ln s.H+ops.size) s.H Hm ops (ops.toList.take m) Hm s.L).bind (drT P OD rn ops m Hm s)
noncomputable def drD(P:Program)(OD:Od)(rn:Rd')(ops:Array Oper)(s:S):DT S:=
 drH P OD rn ops (hdN OD ops s.L ops.toList [] 0) (kL (ksS s.L (ops.toList.take (hdN OD ops s.L ops.toList [] 0))) s.H) s
noncomputable def seqD(rn:S→DT (Ex×S)):Ex×S→DT (Ex×S)
 | (.n,s)=>rn s
 | r=> .ret r
noncomputable def blkD(id:Nat):Ex×S→DT (Ex×S)
 | (.x j,s)=> .ret (bif Nat.beq j id then .n else .x j,s)
 | r=> .ret r
noncomputable def qFr(x y:S→DT (Ex×S))(s:S):Operand→DT (Ex×S)
 | .tmp t=>(match nth .u s.L t with
  | .v (.bool b)=> .ite b (x ⟨put (.v (.bool true)) s.L t,s.H⟩) (y ⟨put (.v (.bool false)) s.L t,s.H⟩)
  | _=> .no)
 | c=>(match evO s.L c with
  | .v (.bool b)=> .ite b (x s) (y s)
  | _=> .no)
noncomputable def qHg(r:S→DT (Ex×S)):Nat→S→DT (Ex×S)
 | 0,_=> .no
 | n+1,s=>(r s).bind (seqD (qHg r n))
noncomputable def norD(s:S):DT (Ex×S):= .ret (.n,s)
noncomputable def zXg(P:Program)(OD:Od)(LO:Lo)(rn:Rd')(f:Nat)(p:List Bool)(c:Code)(s:S):DT (Ex×S):=match c with
 | .skip=> .ret (.n,s)
 | .label _=> .ret (.n,s)
 | .seq x y=>(rn f (false::p) x s).bind (seqD (rn f (true::p) y))
 | .cond c x y=>qFr (rn f (false::p) x) (rn f (true::p) y) s c
 | .block id x=>(rn f (false::p) x s).bind (blkD id)
 | .exit id=> .ret (.x id,s)
 | .ret=> .ret (.r,s)
 | .scope x=>rn f (false::p) x s
 | .loop x=>(match LO f p s with
  | some d=>d
  | none=>qHg (rn f (false::p) x) 5000 s)
 | .region _ ops false=>bif lI ops then(qCo P OD rn ops ops.toList s).bind norD else .no
 | .region _ ops true=>bif lI ops then(drD P OD rn ops s).bind norD else .no
 | _=> .no
noncomputable def evD(P:Program)(OD:Od)(LO:Lo):Nat→Rd'
 | 0=>fun _ _ _ _=> .no
 | k+1=>zXg P OD LO (evD P OD LO k)
def bK:Bool→Code→Option Code
 | false,.seq x _=>some x
 | true,.seq _ y=>some y
 | false,.cond _ x _=>some x
 | true,.cond _ _ y=>some y
 | false,.block _ x=>some x
 | false,.scope x=>some x
 | false,.loop x=>some x
 | _,_=>none
def cAt(P:Program)(f:Nat):List Bool→Option Code
 | []=>(P.funcs[f]?).bind fun fn=>fn.body
 | b::p=>(cAt P f p).bind (bK b)
def Tr(P:Program)(c:Code)(s:S)(e:Ex)(s':S):Prop:=
 ∀(E:Nat→Prop)(w0:World)(X:Hid)(F:List Nat)(n:Nat)(a:Act)(D:List Deferred)(B:Bm)(w:World)(Y:Hid)(Mo:List (Nat×Obj))(rr:Option Nat)(Q:Exit→Act→World→Prop),
  (rr=none∨noR c=true)→Wd P E w0 X F s.H B w Y Mo→FrT n a s.L D B (rd w Y)→mG P E w0 X F n D (noR c) e s' B (rd w Y) Q→c.wpIn (FF rr) 0 P Q a w
def zDk(P:Program)(LO:Lo):Prop:=∀f p s d,LO f p s=some d→∀x,cAt P f p=some (.loop x)→∀e s',d.run=some (e,s')→Tr P (.loop x) s e s'
def mH(P:Program)(OD:Od):Prop:=∀f g,OD f=some g→∀az tv nw,(g az).run=some (tv,nw)→∀k,KnP P k f az tv nw
def bF(P:Program)(rn:Rd'):Prop:=∀f p c s e s',cAt P f p=some c→(rn f p c s).run=some (e,s')→Tr P c s e s'
section
variable {P:Program}{OD:Od}{LO:Lo}{rn:Rd'}{H H':List TO}{L:List T}{ops:Array Oper}{o:Oper}{s s':S}
theorem mH.po(h:mH P OD):qF P (poR OD):=by
 intro f az tv nw e;unfold poR at e;cases hf:OD f with
 | none=>simp[hf]at e
 | some g=>rw[hf]at e;exact h f g hf az tv nw e
theorem qBp{t:T}{n:Nat}(h:(qHr t).run=some n):wS t=some n:=by
 unfold qHr at h;split at h
 ·rename_i a;obtain⟨h1,h2⟩:=qZ h;cases a with
  | ofNat m=>cases h2;rfl
  | negSucc m=>cases h1
 ·cases h
theorem zNo{a:Int}(h:inW a=true):i64.wrap a=a:=by
 have h2: -9223372036854775808≤a∧a<9223372036854775808:=by
  cases a with
  | ofNat n=>simp only[inW,Nat.blt_eq]at h;simp only[Int.ofNat_eq_natCast];omega
  | negSucc n=>simp only[inW,Nat.blt_eq]at h;omega
 have e:i64.wrap a=if a % 18446744073709551616≥9223372036854775808 then a % 18446744073709551616-18446744073709551616 else a % 18446744073709551616:=by
  unfold IntKind.wrap;simp[IntKind.bits,IntKind.signed]
 rw[e];split<;>omega
theorem zQa{a:Int}{v:Value}(h:(arD a).run=some v):v= .int .i64 (wr .i64 a):=by
 obtain⟨h1,h2⟩:=qZ h;cases h2;rw[qEq,zNo h1]
theorem qMa{a:Int}{v:Value}(h:(arW a).run=some v):v= .int .i64 (wr .i64 a):=by
 unfold arW at h;cases hi:inW a with
 | true=>
  simp only[hi,DT.run,cond_true,Option.some.injEq]at h;subst h;rw[qEq,zNo hi]
 | false=>simp only[hi,DT.run,cond_false,Option.some.injEq]at h;exact h.symm
theorem qGu{k:IntKind}(h:qNt k=true):k= .i64:=by cases k<;>first | rfl | cases h
theorem qFk{f:Bool}{op:BinOp}{k:IntKind}{a b:Int}{v:Value}(h:(qMj f op k a b).run=some v):zVk op k a b=some v:=by
 unfold qMj at h;cases hk:qNt k with
 | false=>rw[hk,cond_false,kJ]at h;exact h
 | true=>
  rw[hk,cond_true]at h;obtain rfl:=qGu hk;split at h
  ·cases f with
   | true=>rw[qMa h];rfl
   | false=>rw[zQa h];rfl
  ·rw[zQa h];rfl
  ·rw[zQa h];rfl
  ·rw[kJ]at h;exact h
theorem wI{t:T}{z:T×Option TO}(h:(zCr t).run=some z):val t=some z:=by cases h;rfl
theorem qFi{f:Bool}{op:BinOp}{x y:T}{d:DT (T×Option TO)}{z:T×Option TO}(h:qMi f op x y=some d)(hz:d.run=some z)(t:TypeId):zWt P op t x y=some z:=by
 unfold qMi at h;split at h
 ·rename_i k a k' b;cases ha:arOp op with
  | false=>simp[ha]at h
  | true=>
   simp only[ha,cond_true,Option.some.injEq]at h;subst h;cases hk:Nat.beq (kind k) (kind k')with
   | false=>simp[hk,DT.run]at hz
   | true=>
    simp only[hk,cond_true]at hz;obtain⟨v,h1,h2⟩:=zM hz;simp only[zWt,bin,hk,cond_true,qFk h1];exact wI h2
 ·cases h
theorem qIr{c a b:T}{z:T×Option TO}(h:(qDi c a b).run=some z):zIp c a b=some z:=by
 unfold qDi at h;unfold zIp;split at h
 ·rename_i c;cases c with
  | true=>exact wI h
  | false=>exact wI h
 ·cases h
theorem qNq{t:TypeId}{x i:T}{z:T×Option TO}(h:(qNp P t x i).run=some z):vQ P t x i=some z:=by
 unfold qNp at h;obtain⟨n,h1,h2⟩:=zM h;have h1:=qBp h1;unfold vQ;simp only[h1];split at h2
 ·rename_i e he;simp only[he];cases hl:ldT P e with
  | none=>simp[hl,DT.run]at h2
  | some gs=>
   obtain⟨g,s⟩:=gs;simp only[hl]at h2 ⊢;split at h2
   ·rename_i g' A l;cases hb:Nat.beq s A.size with
    | false=>simp[hb,DT.run]at h2
    | true=>
     simp only[hb,cond_true]at h2;obtain⟨h3,h4⟩:=qZ h2;simp only[hb,h3,Bool.and_self,cond_true];exact wI h4
   ·obtain⟨h3,h4⟩:=qZ h2;simp only[h3,cond_true];exact wI h4
   ·obtain⟨h3,h4⟩:=qZ h2;simp only[h3,cond_true];exact wI h4
   ·obtain⟨h3,h4⟩:=qZ h2;simp only[h3,cond_true];exact wI h4
   ·obtain⟨h3,h4⟩:=qZ h2;simp only[h3,cond_true];exact wI h4
   ·cases h2
 ·rw[kJ]at h2;unfold vQ at h2;simp only[wS]at h2;exact h2
theorem qCr{ρ:Operand→T}{d n:Nat}{x:Option Operand}(h:(qPa ρ d x).run=some n):opt ρ d x=some n:=by
 cases x with
 | none=>cases h;rfl
 | some x=>exact qBp h
theorem qQm{t:TypeId}{g:Tg}{A:Ty}{l:List A.den}{ρ:Operand→T}{lo hi:Option Operand}{z:T×Option TO}(h:(qQl P t g A l ρ lo hi).run=some z):sP P t (.ls g A l) ρ lo hi none=some z:=by
 unfold qQl at h;unfold sP;cases he:elT P t with
 | none=>simp[he,DT.run]at h
 | some e=>
  simp only[he]at h ⊢;cases hl:ldT P e with
  | none=>simp[hl,DT.run]at h
  | some gs=>
   obtain⟨q,s⟩:=gs;simp only[hl]at h ⊢;cases hb:Nat.beq s A.size with
   | false=>simp[hb,DT.run]at h
   | true=>
    simp only[hb,cond_true]at h;obtain⟨a,h1,h⟩:=zM h;obtain⟨b,h2,h⟩:=zM h;obtain⟨h3,h⟩:=qZ h;obtain⟨h4,h⟩:=qZ h;simp only[qV,qCr h1,qCr h2,vE,sV,hb,h3,h4,Bool.and_self,cond_true,zXj];exact wI h
theorem zOs{ρ:Operand→T}{op:Op}{d:DT (T×Option TO)}{z:T×Option TO}(h:zFj P ρ op=some d)(hz:d.run=some z)(H:List TO)(k:Nat):yX P H k ρ op=some z:=by
 unfold zFj at h;split at h
 ·exact qFi h hz _
 ·cases h;exact qIr hz
 ·cases h;exact qNq hz
 ·rename_i t x lo hi;split at h
  ·rename_i g A l e;cases h;show sP P t (dn (ρ x)) (fun y=>dn (ρ y)) lo hi none=some z;rw[e];exact qQm hz
  ·cases h
 ·cases h
theorem qDk{ρ:Operand→T}{op:Op}{d:DT (T×Option TO)}(h:zFj P ρ op=some d):∀c,op≠.call c:=by
 intro c e;subst e;cases h
theorem zJd{e:TypeId}{s N:Nat}(h:zVg P e s=true)(hN:Nat.ble N (apN P e)=true):bG P e s N=true:=by
 unfold zVg at h;unfold bG;unfold apN at hN;cases h1:P.info? e with
 | none=>
  cases h2:zer P e with
  | none=>simp[h2]at h
  | some z=>obtain⟨i,v,h3,_⟩:=pY h2;rw[h1]at h3;cases h3
 | some i=>
  cases h2:zer P e with
  | none=>simp[h2]at h
  | some z=>
   simp only[h1,h2,Bool.and_eq_true]at h hN ⊢;exact⟨h.1,hN,h.2⟩
theorem zJh{α:Type}{c:Cs}{n s:Nat}{d:DT α}{y:α}(h:(zYy c n s d).run=some y):Nat.beq (ln c.list) (n*s)=true∧d.run=some y:=by
 unfold zYy at h;split at h
 ·exact qZ h
 ·rename_i g A x;cases hs:Nat.beq s A.size with
  | false=>simp[hs,DT.run]at h
  | true=>
   rw[hs,cond_true]at h;obtain⟨h1,h2⟩:=qZ h;obtain rfl:=qH hs;have h1:=qH h1;refine⟨?_,h2⟩;show Nat.beq (ln (qE g A x)) (n*A.size)=true;rw[qL,xB,h1];exact Nat.beq_refl _
theorem zOe{i o n s:Nat}{cs:Cs}{e':TypeId}(h:nth .gone H i= .gro cs e')(ho:Nat.beq o 0=true)(hn:Nat.beq (ln cs.list) (n*s)=true):zX H s (.og i o n)=some cs.list:=by
 obtain rfl:=qH ho;have hn:=qH hn;rw[qL]at hn;simp only[zX,h,rX];rw[tT,List.drop_zero,←hn];exact lU cs.list
theorem dW(g:Tg):∀(A:Ty)(x:A.den),kY (qB g A x)=true
 | .lim,_=>rfl
 | .int _,_=>rfl
 | .bool,_=>rfl
 | .str,_=>rfl
 | .list _,_=>rfl
 | .prod A C,x=>by
  have app:∀(u v:List T),kY u=true→kY v=true→kY (u++v)=true:=fun u v h1 h2=>by
   induction u with
   | nil=>exact h2
   | cons a u ih=>
    simp only[kY,Bool.and_eq_true]at h1;simp only[List.cons_append,kY,Bool.and_eq_true];exact⟨h1.1,ih h1.2⟩
  exact app _ _ (dW g A _) (dW g C _)
theorem zIm(g:Tg)(A:Ty):∀l:List A.den,kY (yV g A l)=true
 | []=>rfl
 | x::l=>by
  have app:∀(u v:List T),kY u=true→kY v=true→kY (u++v)=true:=fun u v h1 h2=>by
   induction u with
   | nil=>exact h2
   | cons a u ih=>
    simp only[kY,Bool.and_eq_true]at h1;simp only[List.cons_append,kY,Bool.and_eq_true];exact⟨h1.1,ih h1.2⟩
  exact app _ _ (dW g A x) (zIm g A l)
theorem qCb{y:T}{b:List T}{s:Nat}(hb:zX H s y=some b)(h:zTx y b=true):kY b=true:=by
 unfold zTx at h;split at h
 ·rename_i g A l;simp only[zX]at hb;cases hs:Nat.beq s A.size with
  | false=>simp[hs]at hb
  | true=>
   simp only[hs,cond_true,Option.some.injEq]at hb;subst hb;exact zIm g A l
 ·exact h
theorem qFe{s:Nat}{x:T}{v:T×List TO}(h:(zYh H s x).run=some v):∃a n,zX H s x=some a∧qV x=some n∧qFd H x=some v:=by
 unfold zYh at h;split at h
 ·rename_i i o n;unfold qKd at h;split at h
  ·rename_i cs e' hg;cases hz:Nat.beq o 0 with
   | false=>simp[hz,DT.run]at h
   | true=>
    rw[hz,cond_true]at h;obtain⟨h1,h2⟩:=zJh h;cases h2;exact⟨_,_,zOe hg hz h1,rfl,rfl⟩
  ·cases h
 ·split at h
  ·rename_i a n e1 e2;rw[kJ]at h;exact⟨a,n,e1,e2,h⟩
  ·cases h
theorem zMg{t:TypeId}{x y:T}{v:T×List TO}(h:(apD P H t x y).run=some v):zPz P H t x y=some v:=by
 unfold apD at h;cases he:elT P t with
 | none=>simp[he,DT.run]at h
 | some e=>
  simp only[he]at h;cases hl:ldT P e with
  | none=>simp[hl,DT.run]at h
  | some gs=>
   obtain⟨q,s⟩:=gs;simp only[hl]at h;cases hb:zX H s y with
   | none=>simp[hb,DT.run]at h
   | some b=>
    cases hm:qV y with
    | none=>simp[hb,hm,DT.run]at h
    | some m=>
     simp only[hb,hm]at h;cases h0:Nat.beq m 0 with
     | true=>
      rw[h0]at h;simp only[DT.run,cond_true]at h;obtain⟨a,n,h1,h2,h3⟩:=qFe h;unfold zPz;simp only[he,hl,hb,hm,h1,h2,h0,cond_true];exact h3
     | false=>
      rw[h0]at h;simp only[DT.run,cond_false]at h;cases ho:zTx y b with
      | false=>simp[ho,DT.run]at h
      | true=>
       rw[ho,cond_true]at h;have ho:=qCb hb ho;unfold apL at h;cases hn:qV x with
       | none=>simp[hn,DT.run]at h
       | some n=>
        simp only[hn]at h;cases ha:zVg P e s with
        | false=>simp[ha,DT.run]at h
        | true=>
         rw[ha,cond_true]at h;obtain⟨h1,hk⟩:=qZ h;clear h;have h:=hk;clear hk;unfold zPz;simp only[he,hl,hb,hm,hn];unfold ap1 at h;split at h
         ·rename_i i o n';simp only[qV,Option.some.injEq]at hn;subst hn;unfold apG at h;split at h
          ·rename_i cs e' hg;cases hz:Nat.beq o 0&&Nat.beq e e' with
           | false=>simp[hz,DT.run]at h
           | true=>
            rw[hz,cond_true]at h;obtain⟨h2,h⟩:=zJh h;simp only[Bool.and_eq_true]at hz;simp only[zOe hg hz.1 h2,h0,cond_false,zJd ha h1,ho,Bool.and_self,cond_true,qFf,qLy,hg,hz.1,hz.2,h2];exact h
          ·cases h
         ·cases hc:zX H s x with
          | none=>simp[hc,DT.run]at h
          | some a=>
           simp only[hc,hn,kJ]at h;simp only[h0,cond_false,zJd ha h1,ho,Bool.and_self,cond_true];exact h
noncomputable def clD(P:Program)(OD:Od)(rn:Rd'):Cl:=fun f az H=>(zYp P OD rn f az H).run
theorem zZo(hrn:bF P rn){f:Nat}{az:List T}{v:T×List TO}(h:(xQ P rn f az H).run=some v):∃r:Rn,tF P r∧sJ P r f az H=some v:=by
 unfold xQ at h;cases hf:P.funcs[f]? with
 | none=>simp[hf,DT.run]at h
 | some fn=>
  simp only[hf]at h;cases hb:fn.body with
  | none=>simp[hb,DT.run]at h
  | some c=>
   simp only[hb]at h;cases hl:Nat.ble (ln az) fn.ntmps with
   | false=>simp[hl,DT.run]at h
   | true=>
    rw[hl,cond_true]at h;obtain⟨⟨e,s⟩,h1,h2⟩:=zM h;have hc:cAt P f []=some c:=by simp[cAt,hf,hb]
    refine⟨fun c' s0=>open Classical in if c'=c then(rn f [] c s0).run else none,fun c' s0 e' s' he=>?_,?_⟩
    ·simp only at he;split at he
     ·rename_i e1;subst e1;exact hrn f [] _ s0 e' s' hc he
     ·cases he
    ·unfold sJ;simp only[hf,hb,hl,cond_true,if_true,h1];cases e with
     | x id=>cases h2
     | p t=>cases h2
     | n=>
      simp only[qPx]at h2;simp only[zPc];cases hr:lN P s.L s.H fn.results.toList with
      | none=>rw[hr]at h2;cases h2
      | some r=>rw[hr]at h2;exact h2
     | r=>
      simp only[qPx]at h2;simp only[zPc];cases hr:lN P s.L s.H fn.results.toList with
      | none=>rw[hr]at h2;cases h2
      | some r=>rw[hr]at h2;exact h2
theorem fI{f:T→DT T}{g:T→Option T}(hf:∀x y,(f x).run=some y→g x=some y):∀(l:List T){r:List T},(zEo f l).run=some r→kX g l=some r
 | [],r,h=>by cases h;rfl
 | x::l,r,h=>by
  obtain⟨y,h1,h2⟩:=zM h;obtain⟨r',h3,h4⟩:=zM h2;cases h4;simp only[kX,hf _ _ h1,fI hf l h3]
theorem zCz{nw:Bool}:∀(k:Nat)(t:T){t':T},(fZ nw H k t).run=some t'→jI nw H k t=some t'
 | 0,t,t',h=>by cases h
 | k+1,t,t',h=>by
  have ih:∀(t:T){t':T},(fZ nw H k t).run=some t'→jI nw H k t=some t':=fun t t' h=>zCz k t h;have mp:∀(l:List T){r:List T},(zEo (fZ nw H k) l).run=some r→kX (jI nw H k) l=some r:=fun l r h=>fI (fun x y h=>ih x h) l h;cases t with
  | ag cs=>obtain⟨l,h1,h2⟩:=zM h;cases h2;simp only[jI,mp _ h1]
  | tu cs=>obtain⟨l,h1,h2⟩:=zM h;cases h2;simp only[jI,mp _ h1]
  | fn f cs=>obtain⟨l,h1,h2⟩:=zM h;cases h2;simp only[jI,mp _ h1]
  | os i o n c=>
   simp only[fZ]at h;simp only[jI];cases hb:Nat.ble n c&&Nat.ble c 9223372036854775807 with
   | false=>rw[hb]at h;cases h
   | true=>
    rw[hb,cond_true]at h;rw[cond_true];cases ho:wZ (nth .gone H i)with
    | none=>simp[ho,DT.run]at h
    | some cs=>
     simp only[ho]at h;obtain⟨l,h1,h2⟩:=zM h;cases h2;simp only[mp _ h1]
  | og i o n=>
   simp only[fZ]at h;simp only[jI];have hg:∀x,zZz nw o n x=none→zQp nw o n x=none:=fun x hx=>by
    unfold zZz at hx;unfold zQp;split at hx
    ·cases hx
    ·rename_i hne;split
     ·rename_i g A z e;exact absurd rfl (hne g A z e)
     ·rfl
   cases hz:zZz nw o n (nth .gone H i)with
   | some d=>
    simp only[hz]at h;unfold zZz at hz;split at hz
    ·rename_i g A x e hn;cases hz;cases hb:Nat.beq o 0&&(lG A&&(!nw||g.isN))with
     | false=>rw[hb]at h;cases h
     | true=>
      rw[hb,cond_true]at h;obtain⟨h1,h2⟩:=qZ h;cases h2;simp only[zQp,hn,hb,h1,Bool.and_self,cond_true]
    ·cases hz
   | none=>
    simp only[hz]at h;simp only[hg _ hz];cases ho:wZ (nth .gone H i)with
    | none=>simp[ho,DT.run]at h
    | some cs=>
     simp only[ho]at h;obtain⟨l,h1,h2⟩:=zM h;cases h2;simp only[mp _ h1]
  | op i o=>
   simp only[fZ]at h;simp only[jI];cases ho:wZ (nth .gone H i)with
   | none=>simp[ho,DT.run]at h
   | some cs=>
    simp only[ho]at h;obtain⟨l,h1,h2⟩:=zM h;cases h2;simp only[mp _ h1]
  | _=>simp only[fZ,kJ]at h;exact h
theorem qPm{g:List T→DT (T×Bool)}{f:Nat}{az:List T}{v:T×List TO}(hg:OD f=some g)(h:(poD g H az).run=some v):poC (poR OD) H f az=some v.1∧v.2=H:=by
 unfold poD at h;unfold poC;cases ho:zWr az with
 | true=>
  rw[ho,cond_true]at h;rw[cond_true];obtain⟨az2,hm,h⟩:=zM h;rw[fI (fun x y h=>zCz 12 x h) _ hm];obtain⟨⟨t,b⟩,h1,h2⟩:=zM h
  ·simp only[poR,hg,h1];cases b with
   | true=>cases h2;exact⟨rfl,rfl⟩
   | false=>cases h2
 | false=>
  rw[ho,cond_false]at h;rw[cond_false];obtain⟨⟨t,b⟩,h1,h2⟩:=zM h;simp only[poR,hg,h1];cases h2;exact⟨rfl,rfl⟩
theorem zYz(hm:P.follows .mixedOrders=true)(hO:mH P OD)(hrn:bF P rn):yN P (clD P OD rn):=by
 intro f az H tv H' h;unfold clD zYp at h;cases hf:OD f with
 | some g=>
  simp only[hf]at h;obtain⟨h1,h2⟩:=qPm hf h;simp only at h1 h2;subst h2;intro E w0 X F B w Y Mo qJ R hW hA hk;exact qDl (k:=H'.length) (fun f az tv nw h=>hO.po f az tv nw h _) h1 hW.ow hW.ivw hW.bNle hW.st.lt hW.nn hA fun v w' hu hv=>hk v w' B Y Mo (hW.call hu) hv (BLe.refl B) (hu.le Y)
 | none=>
  simp only[hf]at h;obtain⟨r,h1,h2⟩:=zZo hrn h;exact zAl h1 _ _ _ _ _ h2
theorem qBv:kG P noC:=fun _ _ _ _ _ h=>by cases h
theorem qOv{cl cl' yd yd':Cl}{d:Option Nat}{op:Op}(h:∀c f,op= .call c→c.callee≠.value f):opC P cl yd d L H op=opC P cl' yd' d L H op:=by
 cases op with
 | call c=>
  simp only[opC];split
  ·rename_i f e;exact absurd e (h c f rfl)
  ·rfl
 | _=>rfl
theorem zTz{cl cl' yd yd':Cl}(h:∀c f,o.op= .call c→c.callee≠.value f):lJ P cl yd o L H=lJ P cl' yd' o L H:=by
 unfold lJ zOf;rw[qOv h]
theorem qMm{az:List T}{t:T}{d:Option Nat}{cl:Cl}(hcl:∀f az H,cl f az H=(zYp P OD rn f az H).run)(h:((qMl P OD rn az H t).bind (qNf d L)).run=some s')(yd:Cl):zBx P cl yd d L H az t=some s':=by
 obtain⟨⟨v,H'⟩,h1,h2⟩:=zM h;unfold qMl at h1;unfold zBx;split at h1
 ·rename_i f cs;cases he:jF P f with
  | false=>simp[he,DT.run]at h1
  | true=>
   rw[he,cond_true]at h1;simp only[he,cond_true,hcl,h1,mY];exact h2
 ·rename_i f bs;cases he:jF P f with
  | false=>simp[he,DT.run]at h1
  | true=>
   rw[he,cond_true]at h1;simp only[he,cond_true,hcl,h1,mY];exact h2
 ·cases h1
theorem zTy(h:(qHy P OD rn o L H).run=some s'):lJ P (clD P OD rn) noC o L H=some s':=by
 unfold qHy at h;cases hp:zFj P (evO L) o.op with
 | some d=>
  simp only[hp]at h;obtain⟨z,h1,h2⟩:=zM h;rw[kJ]at h2;unfold lJ;rw[zOs hp h1];exact h2
 | none=>
  simp only[hp]at h;have nc:(∀c,o.op≠.call c)→(ofO (lJ P noC noC o L H)).run=some s'→lJ P (clD P OD rn) noC o L H=some s':=fun hn h=>by
   rw[kJ]at h;rw[zTz (cl':=noC) (yd':=noC) fun c f e=>absurd e (hn c)];exact h
  split at h
  ·rename_i c ec;unfold qKi at h;split at h
   ·rename_i f ef;unfold lJ;have hpl:yX P H (ln H) (evO L) o.op=none:=by
     rw[ec];simp only[yX,zCd];rw[ef]
    rw[hpl];simp only[zOf];have hef:zAk P H (evO L) o.op=none:=by
     rw[ec];simp only[zAk];rw[ef]
    rw[hef];have:opC P (clD P OD rn) noC o.dst L H o.op=some s':=by
     rw[ec];simp only[opC];rw[ef];exact qMm (OD:=OD) (rn:=rn) (fun _ _ _=>rfl) h noC
    simp only[this]
   ·rename_i ef;split at h
    ·rename_i x y t t' e1 e2;cases hb:Nat.beq t t' with
     | false=>simp[hb,DT.run]at h
     | true=>
      rw[hb,cond_true]at h;obtain⟨⟨v,H'⟩,h1,h2⟩:=zM h;have hef:zAk P H (evO L) o.op=some (some v,H'):=by
       rw[ec];simp only[zAk];rw[ef,e1,e2];simp only[hb,cond_true,zMg h1]
      have hpl:yX P H (ln H) (evO L) o.op=none:=by
       rw[ec];simp only[yX,zCd];rw[ef]
      unfold lJ;rw[hpl];simp only[zOf,hef,zNc];exact h2
    ·cases h
   ·rename_i hne1 hne2;rw[kJ]at h;rw[zTz (cl':=noC) (yd':=noC) fun c' f e=>by rw[ec]at e;cases e;exact hne1 f]
    exact h
  ·rename_i hne;exact nc hne h
theorem zFl:∀(L:List T)(t:Nat){x:T},nth .u L t=x→x≠.u→put x L t=L
 | [],_,_,h,hx=>absurd h.symm hx
 | y::L,0,x,h,_=>by rw[zOd]at h;rw[zOt,h]
 | y::L,t+1,x,h,hx=>by rw[rW]at h;rw[zFm,zFl L t h hx]
theorem qKn(L:List T)(o:Oper):(gdT ops L o= .free→yK ops L o=some true)∧(gdT ops L o= .skip→yK ops L o=some false)∧∀t c b,gdT ops L o= .on t c b→yK ops L o=some (zVj c b)∧nth .u L t= .v (.bool c):=by
 unfold gdT yK;cases hg:o.guard with
 | none=>simp
 | some jb=>
  obtain⟨j,b0⟩:=jb;cases hj:ops[j]? with
  | none=>simp[hj]
  | some p=>
   cases hd:p.dst with
   | none=>simp[hj,hd]
   | some t=>
    cases hx:nth .u L t with
    | v z=>cases z<;>simp[hj,hd,hx]<;>(first | (intro t' c' b' e1 e2 e3;subst e1;subst e2;subst e3;exact⟨rfl,hx⟩) | skip)
    | tu l=>cases l<;>simp[hj,hd,hx]
    | _=>simp[hj,hd,hx]
theorem qMr{X Y:S→DT (Ex×S)}{s:S}{c:Operand}{z:Ex×S}(h:(qFr X Y s c).run=some z):∃b,evO s.L c= .v (.bool b)∧((bif b then X else Y) s).run=some z:=by
 cases c with
 | tmp t=>
  simp only[qFr]at h;split at h
  ·rename_i b eb;have hp:put (.v (.bool b)) s.L t=s.L:=zFl s.L t eb (by simp)
   refine⟨b,eb,?_⟩;cases b<;>simp only[DT.run,cond_true,cond_false,hp]at h ⊢<;>exact h
  ·cases h
 | _=>
  simp only[qFr]at h;split at h
  ·rename_i b eb;refine⟨b,eb,?_⟩;cases b<;>exact h
  ·cases h
theorem qCa{α:Type}{L:List T}{t:Nat}{c b:Bool}{y n:List T→DT α}{z:α}(hn:nth .u L t= .v (.bool c))(h:(onS L t c b y n).run=some z):(zVj c b=true∧(y L).run=some z)∨(zVj c b=false∧(n L).run=some z):=by
 have hp:put (.v (.bool c)) L t=L:=zFl L t hn (by simp)
 unfold onS at h;simp only[DT.run]at h;cases c<;>cases b<;>simp only[cond_true,cond_false,hp]at h<;>first | exact .inl ⟨rfl,h⟩ | exact .inr ⟨rfl,h⟩
theorem qCc(h:(opD P OD rn ops o s).run=some s'):opE P (clD P OD rn) noC ops o s=some s':=by
 unfold opD at h;unfold opE;obtain⟨g1,g2,g3⟩:=qKn (ops:=ops) s.L o;cases hg:gdT ops s.L o with
 | no=>rw[hg]at h;cases h
 | free=>rw[hg]at h;rw[g1 hg];exact zTy h
 | skip=>rw[hg]at h;rw[g2 hg];exact h
 | on t c b=>
  rw[hg]at h;obtain⟨k1,k2⟩:=g3 t c b hg;rw[k1];rcases qCa k2 h with⟨e,h⟩ | ⟨e,h⟩
  ·rw[e];exact zTy h
  ·rw[e];exact h
theorem zOj:∀(l:List Oper)(s:S),(qCo P OD rn ops l s).run=some s'→zOk P (clD P OD rn) noC ops l s=some s'
 | [],s,h=>h
 | o::l,s,h=>by
  obtain⟨s1,h1,h2⟩:=zM h;simp only[zOk,qCc h1];exact zOj l s1 h2
noncomputable def poH(P:Program)(OD:Od)(rn:Rd')(k:Nat):Po:=fun f az=>(puD P OD rn k f az).run
theorem zZx(hm:P.follows .mixedOrders=true)(hrn:bF P rn){k f:Nat}{az:List T}{t tv:T}{H1:List TO}{nw:Bool}(h1:(xQ P rn f (az.map (unN 12)) (nX k)).run=some (t,H1))(h2:(vW (t,H1)).run=some (tv,nw)):KnP P k f az tv nw:=by
 obtain⟨r,hr,he⟩:=zZo hrn h1;obtain⟨t',h3,h4⟩:=zM h2;cases h4;exact zAt (rn:=r) (mV hm hr) (by unfold mU;rw[he]) (zCz 12 _ h3)
theorem qPl(hm:P.follows .mixedOrders=true)(hO:mH P OD)(hrn:bF P rn){k f:Nat}{az:List T}{tv:T}{nw:Bool}(h:poH P OD rn k f az=some (tv,nw)):KnP P k f az tv nw:=by
 unfold poH puD at h;cases hf:OD f with
 | some g=>simp only[hf]at h;exact hO f g hf az tv nw h k
 | none=>
  simp only[hf]at h;obtain⟨⟨t,H1⟩,h1,h2⟩:=zM h;exact zZx hm hrn h1 h2
theorem qPo{k f:Nat}{az:List T}{z:T×Option TO}(h:(qPn P OD rn k H f az).run=some z):∃t,poC (poH P OD rn k) H f az=some t∧z=(t,none):=by
 unfold qPn at h;unfold poC;cases ho:zWr az with
 | true=>
  rw[ho,cond_true]at h;rw[cond_true];obtain⟨az2,hm,h⟩:=zM h;rw[fI (fun x y h=>zCz 12 x h) _ hm];obtain⟨⟨t,b⟩,h1,h2⟩:=zM h
  ·simp only[poH,h1];cases b with
   | true=>cases h2;exact⟨_,rfl,rfl⟩
   | false=>cases h2
 | false=>
  rw[ho,cond_false]at h;rw[cond_false];obtain⟨⟨t,b⟩,h1,h2⟩:=zM h;simp only[poH,h1];cases h2;exact⟨_,rfl,rfl⟩
theorem qRl{H0 Hn:List TO}{t:TypeId}{x y:T}{z:T×Option TO}(h:(abD P H0 Hn t x y).run=some z):(∀i o n,x= .og i o n→zVh P H0 Hn (some i) t x y=some z)∧((∀i o n,x≠.og i o n)→zVh P H0 Hn none t x y=some z):=by
 unfold abD at h;cases he:elT P t with
 | none=>simp[he,DT.run]at h
 | some e=>
  simp only[he]at h;cases hl:ldT P e with
  | none=>simp[hl,DT.run]at h
  | some gs=>
   obtain⟨q,s⟩:=gs;simp only[hl]at h;cases hb:zX Hn s y with
   | none=>simp[hb,DT.run]at h
   | some b=>
    cases hm:qV y with
    | none=>simp[hb,hm,DT.run]at h
    | some m=>
     cases hn:qV x with
     | none=>simp[hb,hm,hn,DT.run]at h
     | some n=>
      simp only[hb,hm,hn]at h;cases hc:kY b&&zVg P e s with
      | false=>simp[hc,DT.run]at h
      | true=>
       rw[hc,cond_true]at h;obtain⟨hm0,hk0⟩:=qZ h;obtain⟨h1,hk⟩:=qZ hk0;clear h hk0;have h:=hk;clear hk;simp only[Bool.and_eq_true]at hc;obtain⟨ho,ha⟩:=hc;have hm1:Nat.beq m 0=false:=by simpa using hm0
       unfold abX at h;split at h
       ·rename_i i o n';simp only[qV,Option.some.injEq]at hn;subst hn;refine⟨fun i' o' n'' e1=>?_,fun hne=>absurd rfl (hne i o n')⟩;cases e1;unfold abG at h;split at h
        ·rename_i cs e' hg;cases hz:Nat.beq o 0&&Nat.beq e e' with
         | false=>simp[hz,DT.run]at h
         | true=>
          rw[hz,cond_true]at h;obtain⟨h2,h⟩:=zJh h;simp only[Bool.and_eq_true]at hz;have hii:Nat.beq i i=true:=Nat.beq_refl i;unfold zVh;simp only[he,hl,hb,hm,zYl,hii,hz.1,hz.2,hg,h2,Bool.and_self,cond_true,hm1,Bool.not_false,zJd ha h1,ho];exact h
        ·cases h
       ·rename_i hne;refine⟨fun i o n' e1=>absurd e1 (hne i o n'),fun _=>?_⟩;rw[kJ]at h;exact h
theorem zNl{H0 Hn:List TO}{po po':Po}(h:∀c f,o.op= .call c→c.callee≠.value f):rP P po H0 H Hn L o=rP P po' H0 H Hn L o:=by
 have e:nY P po Hn L o.op=nY P po' Hn L o.op:=by
  cases ho:o.op with
  | call c=>
   simp only[nY];split
   ·rename_i f e;exact absurd e (h c f ho)
   ·rfl
  | _=>rfl
 unfold rP;rw[e]
theorem qGn{k:Nat}{H0 Hn:List TO}{z:T×Option TO}(h:(qAj P OD rn k H0 H Hn L o).run=some z):rP P (poH P OD rn k) H0 H Hn L o=some z:=by
 unfold qAj at h;cases hp:zFj P (evO L) o.op with
 | some d=>
  simp only[hp]at h;have ha:tH L o.op=none:=by
   cases ho:o.op with
   | call c=>exact absurd ho (qDk hp c)
   | _=>rfl
  unfold rP;rw[ha,zOs hp h]
 | none=>
  simp only[hp]at h;split at h
  ·rename_i c ec;unfold hcaD at h;split at h
   ·rename_i f ef;split at h
    ·rename_i g cs eg;cases he:jF P g with
     | false=>simp[he,DT.run]at h
     | true=>
      rw[he,cond_true]at h;obtain⟨t,h1,rfl⟩:=qPo h;have ha:tH L o.op=none:=by rw[ec];simp only[tH];rw[ef]
      have hpl:yX P H (ln Hn) (evO L) o.op=none:=by rw[ec];simp only[yX,zCd];rw[ef]
      have hc:nY P (poH P OD rn k) Hn L o.op=some t:=by
       rw[ec];simp only[nY];rw[ef];simp only[eg,he,cond_true,h1]
      unfold rP;simp only[ha,hpl,hc]
    ·cases h
   ·rename_i ef;split at h
    ·rename_i x y t t' e1 e2;cases hb:Nat.beq t t' with
     | false=>simp[hb,DT.run]at h
     | true=>
      rw[hb,cond_true]at h;obtain⟨h1,h2⟩:=qRl h;unfold rP;by_cases hx:∃i o n,evO L x= .og i o n
      ·obtain⟨i,q,n,hx⟩:=hx;have ha:tH L o.op=some i:=by rw[ec];simp only[tH];rw[ef,e1];simp only[hx]
       simp only[ha];rw[ec];simp only[zGk];rw[ef,e1,e2];simp only[hb,cond_true];exact h1 i q n hx
      ·have hx':∀i o n,evO L x≠.og i o n:=fun i q n e=>hx ⟨i,q,n,e⟩;have ha:tH L o.op=none:=by
        rw[ec];simp only[tH];rw[ef,e1];first | (simp only;done) | (split<;>first | rfl | (rename_i e;exact absurd e (hx' _ _ _)))
       have hpl:yX P H (ln Hn) (evO L) o.op=none:=by rw[ec];simp only[yX,zCd];rw[ef]
       have hc:nY P (poH P OD rn k) Hn L o.op=none:=by rw[ec];simp only[nY];rw[ef]
       have hap:zGk P H0 Hn none L o.op=some z:=by
        rw[ec];simp only[zGk];rw[ef,e1,e2];simp only[hb,cond_true];exact h2 hx'
       simp only[ha,hpl,hc,hap]
    ·cases h
   ·rename_i hne1 hne2;rw[kJ]at h;rw[zNl (po':=fun _ _=>none) fun c' f e=>by rw[ec]at e;cases e;exact hne1 f]
    exact h
  ·rename_i hne;rw[kJ]at h;rw[zNl (po':=fun _ _=>none) fun c f e=>absurd e (hne c)];exact h
theorem qAk{k:Nat}{H0:List TO}:∀(l:List Oper)(Hn:List TO)(L:List T){rs:List (T×Option TO)},(zGm P OD rn k H0 H ops l Hn L).run=some rs→rs.length=l.length∧∀(i:Nat)(z:T×Option TO),rs[i]?=some z→∃o,l[i]?=some o∧kD P (poH P OD rn k) H0 H (Hn++zZ (rs.take i)) (yD l (rs.take i) L) ops o=some z
 | [],Hn,L,rs,h=>by cases h;exact⟨rfl,fun i z e=>by simp at e⟩
 | o::l,Hn,L,rs,h=>by
  have fin:∀{z:T×Option TO},kD P (poH P OD rn k) H0 H Hn L ops o=some z→(zQs (zGm P OD rn k H0 H ops l) o Hn L z).run=some rs→rs.length=(o::l).length∧∀(i:Nat)(z:T×Option TO),rs[i]?=some z→∃o',(o::l)[i]?=some o'∧kD P (poH P OD rn k) H0 H (Hn++zZ (rs.take i)) (yD (o::l) (rs.take i) L) ops o'=some z:=fun{z}hop h2=>by
   obtain⟨rs',h3,h4⟩:=zM h2;cases h4;obtain⟨g1,g2⟩:=qAk l _ _ h3;refine⟨by simp[g1],fun i y hy=>?_⟩
   cases i with
   | zero=>
    simp only[List.getElem?_cons_zero,Option.some.injEq]at hy;subst hy;refine⟨o,rfl,?_⟩;simp only[List.take_zero,zZ,yD,List.append_nil];exact hop
   | succ i=>
    obtain⟨o',e1,e2⟩:=g2 i y (by simpa using hy)
    refine⟨o',by simpa using e1,?_⟩
    have en:Hn++zZ ((z::rs').take (i+1))=nxH Hn z.2++zZ (rs'.take i):=by
     obtain⟨t,ob⟩:=z;cases ob<;>simp[zZ,nxH]
    rw[en];exact e2
  have yes:yK ops L o=some true→((qAj P OD rn k H0 H Hn L o).bind (zQs (zGm P OD rn k H0 H ops l) o Hn L)).run=some rs→rs.length=(o::l).length∧∀(i:Nat)(z:T×Option TO),rs[i]?=some z→∃o',(o::l)[i]?=some o'∧kD P (poH P OD rn k) H0 H (Hn++zZ (rs.take i)) (yD (o::l) (rs.take i) L) ops o'=some z:=fun hw h=>by
   obtain⟨z,h1,h2⟩:=zM h;exact fin (by unfold kD;simp only[hw];exact qGn h1) h2
  have no:yK ops L o=some false→(zQs (zGm P OD rn k H0 H ops l) o Hn L (.tu [],none)).run=some rs→rs.length=(o::l).length∧∀(i:Nat)(z:T×Option TO),rs[i]?=some z→∃o',(o::l)[i]?=some o'∧kD P (poH P OD rn k) H0 H (Hn++zZ (rs.take i)) (yD (o::l) (rs.take i) L) ops o'=some z:=fun hw h=>
   fin (by unfold kD;simp only[hw]) h
  simp only[zGm]at h;obtain⟨g1,g2,g3⟩:=qKn (ops:=ops) L o;cases hg:gdT ops L o with
  | no=>rw[hg]at h;cases h
  | free=>rw[hg]at h;exact yes (g1 hg) h
  | skip=>rw[hg]at h;exact no (g2 hg) h
  | on t c b=>
   rw[hg]at h;obtain⟨k1,k2⟩:=g3 t c b hg;rcases qCa k2 h with⟨e,h⟩ | ⟨e,h⟩
   ·exact yes (by rw[k1,e]) h
   ·exact no (by rw[k1,e]) h
theorem zNt:∀(l:List Oper)(rs:List (T×Option TO))(L:List T)(m:Nat),rs.length≤m→yD (l.take m) rs L=yD l rs L
 | [],_,_,m,_=>by simp
 | o::l,[],L,m,_=>by cases m<;>simp[yD]
 | o::l,z::rs,L,0,h=>by simp at h
 | o::l,z::rs,L,m+1,h=>by
  simp only[List.take_succ_cons,yD];exact zNt l rs _ m (by simpa using h)
theorem qNa{α:Type}{l:List α}(h:emp l=true):l=[]:=by cases l<;>first | rfl | cases h
theorem zLn{ld:List Nat}:∀(l:List Oper)(s:S),(qEg P OD rn ops ld l s).run=some s'→lS P (clD P OD rn) noC ops ld l s=some s'
 | [],s,h=>h
 | o::l,s,h=>by
  obtain⟨s1,h1,h2⟩:=zM h;simp only[lS,qCc h1];cases he:emp ld with
  | true=>
   obtain rfl:=qNa he;rw[he,cond_true]at h2;show(bif sD P ops s1 []then _ else _)=_;simp only[sD,cond_true];exact zLn l s1 h2
  | false=>
   rw[he,cond_false]at h2;obtain⟨h3,h4⟩:=qZ h2;simp only[h3,cond_true];exact zLn l s1 h4
theorem qMy{m:Nat}{Hm:List TO}{rs:List (T×Option TO)}(hl:ln rs=m)(h:(drT P OD rn ops m Hm s rs).run=some s'):drF P (clD P OD rn) noC ops s Hm rs=some s':=by
 subst hl;unfold drT at h;unfold drF qQt;cases hmm:Nat.ble (ln rs) ops.size with
 | false=>simp[hmm,DT.run]at h
 | true=>
 rw[hmm,Bool.true_and]at h;cases hd:zZm ops (ln rs)&&zJw Hm (ksE ops.toList rs s.L)with
 | false=>simp[hd,DT.run]at h
 | true=>
  rw[hd,cond_true]at h;rw[cond_true];cases he:emp (dS ops (ln rs))with
  | true=>
   rw[he,cond_true]at h;rw[qNa he];simp only[sD,cond_true];exact zLn _ _ h
  | false=>
   rw[he,cond_false]at h;obtain⟨h3,h4⟩:=qZ h;simp only[h3,cond_true];exact zLn _ _ h4
theorem qAy{ks:List (Option Nat)}(q:Nat)(x:TO)(h1:(kL ks H)[q]?=some x)(h2:x≠.gone):H[q]?=some x:=by
 rw[rR]at h1;split at h1
 ·cases hq:H[q]? with
  | none=>rw[hq]at h1;cases h1
  | some y=>rw[hq]at h1;cases h1;exact absurd rfl h2
 ·exact h1
end
section
variable {P:Program}{E:Nat→Prop}{w0:World}{X:Hid}{F:List Nat}{B:Bm}{w:World}{Y:Hid}{Mo:List (Nat×Obj)}{n:Nat}{a:Act}{D:List Deferred}{Q:Exit→Act→World→Prop}{OD:Od}{LO:Lo}{rn:Rd'}{rr:Option Nat}{ops:Array Oper}{s s':S}
theorem qMx{id:Nat}(hm:P.follows .mixedOrders=true)(hO:mH P OD)(hrn:bF P rn)(hok:lI ops=true)(h:(drD P OD rn ops s).run=some s')(hW:Wd P E w0 X F s.H B w Y Mo)(hF:FrT n a s.L D B (rd w Y))(hk:vY P E w0 X F n D s'.H s'.L B (rd w Y) (Q .normal)):(Code.region id ops true).wpIn (FF rr) 0 P Q a w:=by
 unfold drD drH at h;generalize hdN OD ops s.L ops.toList [] 0=m at h;obtain⟨rs,h1,h2⟩:=zM h;obtain⟨g1,g2⟩:=qAk _ _ _ h1;have hle:rs.length≤m:=by rw[g1];exact List.length_take_le _ _
 have hlo:rs.length≤ops.toList.length:=by rw[g1];exact List.length_take_le' _ _
 by_cases hmo:Nat.ble m ops.size=true
 ·have hmo:m≤ops.toList.length:=by simpa using Nat.le_of_ble_eq_true hmo
  have hlen:ln rs=m:=by rw[qL,g1,List.length_take];exact Nat.min_eq_left hmo
  refine zHl (po:=poH P OD rn (ln s.H+ops.size)) hm (fun f az tv nw hp=>qPl hm hO hrn hp) (zYz hm hO hrn) qBv hok hW hF hk _ rs (zHz _ _) (fun q x=>qAy q x) (fun i z hz=>?_) hlo (qMy hlen h2);obtain⟨o,e1,e2⟩:=g2 i z hz;refine⟨o,?_,?_⟩
  ·rw[List.getElem?_take]at e1;split at e1
   ·exact e1
   ·cases e1
  ·rwa[zNt _ _ _ _ (by rw[List.length_take];omega)]at e2
 ·exfalso;unfold drT at h2;have hf:Nat.ble m ops.size=false:=Bool.eq_false_iff.2 hmo;rw[hf]at h2;cases h2
theorem zAn(hm:P.follows .mixedOrders=true)(hO:mH P OD)(hL:zDk P LO):∀k,bF P (evD P OD LO k):=by
 intro k;induction k using Nat.strongRecOn with
 | _ k ih=>
  cases k with
  | zero=>intro f p c s e s' _ h;cases h
  | succ k=>
   have hk:bF P (evD P OD LO k):=ih k (Nat.lt_succ_self k);intro f p c s e s' hc h E w0 X F n a D B w Y Mo rr Q hr hW hF hA;have h:(zXg P OD LO (evD P OD LO k) f p c s).run=some (e,s'):=h;cases c with
   | skip=>cases h;exact xV (hA.one hW hF (BLe.refl B) (Le.refl _))
   | label l=>cases h;exact zJs (hA.one hW hF (BLe.refl B) (Le.refl _))
   | exit id=>cases h;exact dP (hA.one hW hF (BLe.refl B) (Le.refl _))
   | ret=>cases h;exact rQ (hA.one hW hF (BLe.refl B) (Le.refl _))
   | seq x y=>
    have hr1:rr=none∨noR x=true:=hr.imp id fun h=>by simp only[noR,Bool.and_eq_true]at h;exact h.1
    have hr2:rr=none∨noR y=true:=hr.imp id fun h=>by simp only[noR,Bool.and_eq_true]at h;exact h.2
    have hq:noR (.seq x y)=true→noR x=true∧noR y=true:=fun h=>by simpa[noR]using h
    have c1:cAt P f (false::p)=some x:=by simp[cAt,hc,bK]
    have c2:cAt P f (true::p)=some y:=by simp[cAt,hc,bK]
    obtain⟨⟨e1,s1⟩,h1,h2⟩:=zM h;refine wpIn_seq (hk _ _ _ _ _ _ c1 h1 E w0 X F n a D B w Y Mo rr _ hr1 hW hF fun a' w' B' Y' Mo' bs hbs g1 g2 g3 g4=>?_);cases e1 with
    | n=>exact hk _ _ _ _ _ _ c2 h2 E w0 X _ n a' _ B' w' Y' Mo' rr Q hr2 g1 g2 (hA.next hq hbs g3 g4)
    | x id=>cases h2;exact hA a' w' B' Y' Mo' bs (fun e=>hbs (hq e).1) g1 g2 g3 g4
    | r=>cases h2;exact hA a' w' B' Y' Mo' bs (fun e=>hbs (hq e).1) g1 g2 g3 g4
    | p t=>cases h2;exact hA a' w' B' Y' Mo' bs (fun e=>hbs (hq e).1) g1 g2 g3 g4
   | cond c x y=>
    have c1:cAt P f (false::p)=some x:=by simp[cAt,hc,bK]
    have c2:cAt P f (true::p)=some y:=by simp[cAt,hc,bK]
    simp only[zXg]at h;have hcr:=hF.rep c;have go:∀(b:Bool),evO s.L c= .v (.bool b)→((bif b then evD P OD LO k f (false::p) x else evD P OD LO k f (true::p) y) s).run=some (e,s')→(Code.cond c x y).wpIn (FF rr) 0 P Q a w:=fun b eb h=>by
     rw[eb]at hcr;cases b with
     | true=>exact wpIn_cond_true hcr.bool (hk _ _ _ _ _ _ c1 h E w0 X F n a D B w Y Mo rr Q (hr.imp id fun h=>by simp only[noR,Bool.and_eq_true]at h;exact h.1) hW hF fun a' w' B' Y' Mo' bs hbs=>hA a' w' B' Y' Mo' bs fun e=>hbs (by simp only[noR,Bool.and_eq_true]at e;exact e.1))
     | false=>exact wpIn_cond_false hcr.bool (hk _ _ _ _ _ _ c2 h E w0 X F n a D B w Y Mo rr Q (hr.imp id fun h=>by simp only[noR,Bool.and_eq_true]at h;exact h.2) hW hF fun a' w' B' Y' Mo' bs hbs=>hA a' w' B' Y' Mo' bs fun e=>hbs (by simp only[noR,Bool.and_eq_true]at e;exact e.2))
    obtain⟨b,eb,hb⟩:=qMr h;exact go b eb hb
   | block id x=>
    have c1:cAt P f (false::p)=some x:=by simp[cAt,hc,bK]
    obtain⟨⟨e1,s1⟩,h1,h2⟩:=zM h;refine jX (hk _ _ _ _ _ _ c1 h1 E w0 X F n a D B w Y Mo rr _ hr hW hF fun a' w' B' Y' Mo' bs hbs g1 g2 g3 g4=>?_);cases e1 with
    | n=>cases h2;exact hA a' w' B' Y' Mo' bs hbs g1 g2 g3 g4
    | r=>cases h2;exact hA a' w' B' Y' Mo' bs hbs g1 g2 g3 g4
    | p t=>cases h2;exact hA a' w' B' Y' Mo' bs hbs g1 g2 g3 g4
    | x j=>
     cases h2;have:=hA a' w' B' Y' Mo' bs hbs g1 g2 g3 g4;cases hj:Nat.beq j id with
     | true=>rw[hj]at this;obtain rfl:=qH hj;exact rH this
     | false=>rw[hj]at this;exact zDo hj this
   | scope x=>
    have c1:cAt P f (false::p)=some x:=by simp[cAt,hc,bK]
    rcases hr with rfl | hr
    ·exact zJt (hk _ _ _ _ _ _ c1 h E w0 X F n a D B w Y Mo none _ (.inl rfl) hW hF fun a' w' B' Y' Mo' bs _ g1 g2 g3 g4=>by
      have:=hA a' w' B' Y' Mo' bs (fun e=>by simp[noR]at e) g1 g2 g3 g4
      cases e<;>exact this)
    ·simp[noR]at hr
   | loop x=>
    have c1:cAt P f (false::p)=some x:=by simp[cAt,hc,bK]
    have hr1:rr=none∨noR x=true:=hr.imp id fun h=>by simpa[noR]using h
    simp only[zXg]at h;cases hlo:LO f p s with
    | some d=>
     simp only[hlo]at h;exact hL f p s d hlo x hc e s' h E w0 X F n a D B w Y Mo rr Q hr hW hF hA
    | none=>
    simp only[hlo]at h;have key:∀(N:Nat),(qHg (evD P OD LO k f (false::p) x) N s).run=some (e,s')→(Code.loop x).wpIn (FF rr) 0 P Q a w:=fun N h=>by
     refine lC (γ:=Nat×S×List Nat) (fun g a w=>(qHg (evD P OD LO k f (false::p) x) g.1 g.2.1).run=some (e,s')∧∃B' Y' Mo',(noR x=true→g.2.2=[])∧Wd P E w0 X (g.2.2++F) g.2.1.H B' w Y' Mo'∧FrT n a g.2.1.L (g.2.2.map Gv.mark++D) B' (rd w Y')∧BLe B B'∧Le (rd _ Y) (rd w Y'))
      (fun g=>g.1) (N,s,[]) ⟨h,B,Y,Mo,fun _=>rfl,hW,hF,BLe.refl B,Le.refl _⟩ ?_
     rintro⟨j,s0,bs0⟩ a0 w1 ⟨hstep,B1,Y1,Mo1,hb1,g1,g2,g3,g4⟩;simp only at hstep hb1 g1 g2;cases j with
     | zero=>cases hstep
     | succ j=>
     obtain⟨⟨e1,s1⟩,h1,h2⟩:=zM hstep;refine hk _ _ _ _ _ _ c1 h1 E w0 X _ n a0 _ B1 w1 Y1 Mo1 rr _ hr1 g1 g2 fun a' w' B' Y' Mo' bs hbs k1 k2 k3 k4=>?_;have hbs':noR x=true→bs++bs0=[]:=fun e=>by rw[hbs e,hb1 e];rfl
     have k1':Wd P E w0 X (bs++bs0++F) s1.H B' w' Y' Mo':=by rw[List.append_assoc];exact k1
     have k2':FrT n a' s1.L ((bs++bs0).map Gv.mark++D) B' (rd w' Y'):=by rw[List.map_append,List.append_assoc];exact k2
     cases e1 with
     | n=>exact⟨(j,s1,bs++bs0),⟨h2,B',Y',Mo',hbs',k1',k2',g3.trans k3,g4.trans k4⟩,Nat.lt_succ_self j⟩
     | x id=>cases h2;exact hA a' w' B' Y' Mo' (bs++bs0) (fun e=>hbs' (by simpa[noR]using e)) k1' k2' (g3.trans k3) (g4.trans k4)
     | r=>cases h2;exact hA a' w' B' Y' Mo' (bs++bs0) (fun e=>hbs' (by simpa[noR]using e)) k1' k2' (g3.trans k3) (g4.trans k4)
     | p t=>cases h2;exact hA a' w' B' Y' Mo' (bs++bs0) (fun e=>hbs' (by simpa[noR]using e)) k1' k2' (g3.trans k3) (g4.trans k4)
    exact key _ h
   | region id ops draw=>
    cases draw with
    | false=>
     simp only[zXg]at h;cases hok:lI ops with
     | false=>simp[hok,DT.run]at h
     | true=>
      rw[hok,cond_true]at h;obtain⟨s1,h1,h2⟩:=zM h;cases h2;refine wpIn_region_list ?_;exact zUf (zYz hm hO hk) qBv _ _ _ (zOj _ _ h1) hok hW hF (BLe.refl B) (Le.refl _) fun a' w' B' Y' Mo' k1 k2 k3 k4=>hA.one k1 k2 k3 k4
    | true=>
     simp only[zXg]at h;cases hok:lI ops with
     | false=>simp[hok,DT.run]at h
     | true=>
      rw[hok,cond_true]at h;obtain⟨s1,h1,h2⟩:=zM h;cases h2;exact qMx hm hO hk hok h1 hW hF fun a' w' B' Y' Mo' k1 k2 k3 k4=>hA.one k1 k2 k3 k4
   | rangeFunc g ps c1 c2=>cases h
   | goto l=>cases h
   | refuse why=>cases h
end
end Go.Ev

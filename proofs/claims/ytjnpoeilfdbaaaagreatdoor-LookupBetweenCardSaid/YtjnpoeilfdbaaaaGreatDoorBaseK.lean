import Derived.ProofKit
import Derived.OpenShut
import Derived.LaidMore
import Derived.Lay
import Derived.Stop.Joined
import Derived.SizedLaws
import Derived.Test.YtjnpoeilfdbaaaaGreatDoorRows
import Derived.Test.YtjnpoeilfdbaaaaGreatDoorBaseA
import Derived.Test.YtjnpoeilfdbaaaaGreatDoorBaseB
import Derived.Test.YtjnpoeilfdbaaaaGreatDoorBaseC
import Derived.Test.YtjnpoeilfdbaaaaGreatDoorBaseD
import Derived.Test.YtjnpoeilfdbaaaaGreatDoorBaseE
import Derived.Test.YtjnpoeilfdbaaaaGreatDoorBaseF
import Derived.Test.YtjnpoeilfdbaaaaGreatDoorBaseG
import Derived.Test.YtjnpoeilfdbaaaaGreatDoorBaseH
import Derived.Test.YtjnpoeilfdbaaaaGreatDoorBaseI
import Derived.Test.YtjnpoeilfdbaaaaGreatDoorBaseJ
set_option linter.unusedVariables false
set_option linter.unusedSimpArgs false
set_option linter.unnecessarySimpa false
namespace Go.Proofs.YtjnpoeilfdbaaaaGreatDoor
open Go Go.Gv Go.Ev Go.ChangeShapes Go.WideShapes Go.ChangeAt Go.RowKit IntKind
theorem zTr{H:Type}{enc:TypeId×Value→H}{w:World}{spare:Nat→Bool}{held:Bool}{P:Program}{base:Nat}{t0 t1 t2 t3 t4 t5:TypeId}{args:Array Value}{ds:List (DataW H)}{ps:List MemPlace}(h:DataW.TrodAll enc P w base spare held [t0,t1,t2,t3,t4,t5] args.toList ds ps):∃v0 v1 v2 v3 v4 v5 d0 d1 d2 d3 d4 d5 p0 p1 p2 p3 p4 p5,args=#[v0,v1,v2,v3,v4,v5]∧ds=[d0,d1,d2,d3,d4,d5]∧ps=p0++p1++p2++p3++p4++p5∧DataW.Trod enc P w base spare held t0 v0 d0 p0∧DataW.Trod enc P w base spare held t1 v1 d1 p1∧DataW.Trod enc P w base spare held t2 v2 d2 p2∧DataW.Trod enc P w base spare held t3 v3 d3 p3∧DataW.Trod enc P w base spare held t4 v4 d4 p4∧DataW.Trod enc P w base spare held t5 v5 d5 p5:=by
 obtain⟨v0,vs0,d0,ds0,p0,q0,hargs,rfl,rfl,hd0,h0⟩:=trodAll_cons h;obtain⟨v1,vs1,d1,ds1,p1,q1,rfl,rfl,rfl,hd1,h1⟩:=trodAll_cons h0;obtain⟨v2,vs2,d2,ds2,p2,q2,rfl,rfl,rfl,hd2,h2⟩:=trodAll_cons h1;obtain⟨v3,vs3,d3,ds3,p3,q3,rfl,rfl,rfl,hd3,h3⟩:=trodAll_cons h2;obtain⟨v4,vs4,d4,ds4,p4,q4,rfl,rfl,rfl,hd4,h4⟩:=trodAll_cons h3;obtain⟨v5,vs5,d5,ds5,p5,q5,rfl,rfl,rfl,hd5,h5⟩:=trodAll_cons h4;obtain⟨rfl,rfl,rfl⟩:=trodAll_nil h5;exact⟨v0,v1,v2,v3,v4,v5,d0,d1,d2,d3,d4,d5,p0,p1,p2,p3,p4,p5,by cases args;simp_all,rfl,by simp,hd0,hd1,hd2,hd3,hd4,hd5⟩
theorem zNh{H:Type}{enc:TypeId×Value→H}{w:World}{spare:Nat→Bool}{held:Bool}{P:Program}{base:Nat}{t0 t1 t2 t3 t4 t5:TypeId}{v0 v1 v2 v3 v4 v5:Value}{d0 d1 d2 d3 d4 d5:DataW H}{p0 p1 p2 p3 p4 p5:List MemPlace}(h0:DataW.Trod enc P w base spare held t0 v0 d0 p0)(h1:DataW.Trod enc P w base spare held t1 v1 d1 p1)(h2:DataW.Trod enc P w base spare held t2 v2 d2 p2)(h3:DataW.Trod enc P w base spare held t3 v3 d3 p3)(h4:DataW.Trod enc P w base spare held t4 v4 d4 p4)(h5:DataW.Trod enc P w base spare held t5 v5 d5 p5):DataW.TrodAll enc P w base spare held [t0,t1,t2,t3,t4,t5] [v0,v1,v2,v3,v4,v5] [d0,d1,d2,d3,d4,d5] (p0++(p1++(p2++(p3++(p4++(p5)))))):=⟨p0,p1++(p2++(p3++(p4++(p5)))),h0,⟨p1,p2++(p3++(p4++(p5))),h1,⟨p2,p3++(p4++(p5)),h2,⟨p3,p4++(p5),h3,⟨p4,p5,h4,trodAll_mk1 h5,rfl⟩,rfl⟩,rfl⟩,rfl⟩,rfl⟩
theorem qMq:TyF Tryz.prog (.list (.int .i64)) 22:= .list Tryz.underlying22 (by kernel_rfl) (Nat.le_of_ble_eq_true (by kernel_rfl)) (.int Tryz.underlying3)
theorem tf31:TyF Tryz.prog (.list (.list (.int .i64))) 31:= .list Tryz.underlying31 (by kernel_rfl) (Nat.le_of_ble_eq_true (by kernel_rfl)) qMq
theorem tf26:TyF Tryz.prog (.list (.lim)) 26:= .list Tryz.underlying26 (by kernel_rfl) (Nat.le_of_ble_eq_true (by kernel_rfl)) (.lim Tryz.underlying143)
theorem qMr:TyF Tryz.prog (.prod (.bool) (.prod (.list (.lim)) (.list (.lim)))) 28:= .struct Tryz.underlying28 (by kernel_rfl) (.cons rfl (by kernel_rfl) (.bool Tryz.underlying4) (.cons rfl (by kernel_rfl) tf26 (.one rfl (by kernel_rfl) tf26)))
theorem tf24:TyF Tryz.prog (.list (.prod (.int .i64) (.prod (.bool) (.prod (.list (.lim)) (.list (.lim)))))) 24:= .list Tryz.underlying24 (by kernel_rfl) (Nat.le_of_ble_eq_true (by kernel_rfl)) (.struct Tryz.underlying87 (by kernel_rfl) (.cons rfl (by kernel_rfl) (.int Tryz.underlying3) (.one rfl (by kernel_rfl) qMr)))
theorem zAx:ownKnob Tryz.prog.godebug=Option.none:=by kernel_rfl
theorem jC:laidOutB Tryz.prog=true:=by kernel_rfl
set_option maxRecDepth 100000 in
theorem lookupBetween_lifted(os:Os)(started:os.Started)(H:Type)(enc:TypeId×Value→H):
  ReturnsInHanded {} Tryz.checked os 4 .any (fun w args=>(Rows.lookupBetweenSpec.pre enc Tryz.prog Tryz.f4 Rows.lookupBetweenRow.domain false w args∧laidMetH Tryz.prog [("math/bits.deBruijn32tab",Rows.laid_math_bits_deBruijn32tab),("math/bits.deBruijn64tab",Rows.laid_math_bits_deBruijn64tab),("internal/strconv.uint64pow10",Rows.laid_internal_strconv_uint64pow10)] w)∧sizedMet enc Tryz.prog Tryz.f4 (OpenSpec.ofChange Rows.lookupBetweenSpec) false w args)
   (Rows.lookupBetweenSpec.post enc Tryz.prog Tryz.f4 false true false false):=by
 refine returnsInHanded_of_change_and (C:=Tryz.checked) (X:=fun w _=>laidMetH Tryz.prog [("math/bits.deBruijn32tab",Rows.laid_math_bits_deBruijn32tab),("math/bits.deBruijn64tab",Rows.laid_math_bits_deBruijn64tab),("internal/strconv.uint64pow10",Rows.laid_internal_strconv_uint64pow10)] w) (fun _ _ _ hh h=>h.of_heap hh) zAx started (by kernel_rfl) Tryz.func4
  (ChangeSpec.witness_shaped (enc:=enc) (C:=Tryz.checked) (os:=os) (X:=fun w _=>laidMetH Tryz.prog [("math/bits.deBruijn32tab",Rows.laid_math_bits_deBruijn32tab),("math/bits.deBruijn64tab",Rows.laid_math_bits_deBruijn64tab),("internal/strconv.uint64pow10",Rows.laid_internal_strconv_uint64pow10)] w) false (World.laidAll Tryz.prog os [("math/bits.deBruijn32tab",Rows.laid_math_bits_deBruijn32tab),("math/bits.deBruijn64tab",Rows.laid_math_bits_deBruijn64tab),("internal/strconv.uint64pow10",Rows.laid_internal_strconv_uint64pow10)]) #[.agg #[.slice none 0 0,.slice none 0 0,.slice none 0 0,.slice none 0 0,.int .i64 0,.int .i64 0,.int .i64 0,.slice none 0 0,.slice none 0 0,.bool false,.slice none 0 0,.slice none 0 0,.bool false,.slice none 0 0,.slice none 0 0,.bool false,.slice none 0 0,.slice none 0 0,.int .i64 0,.slice none 0 0,.slice none 0 0],.int .i64 0,.int .i64 0,.int .i64 0,.int .i64 0,.int .i64 0] 8 (World.laidAll_os _ _ _)
   (World.shaped_of_ZipB (by kernel_rfl) (by kernel_rfl)) (by kernel_rfl) (by kernel_rfl) (by kernel_rfl)
   (by rw[MakeChecks.laidMetH_plain _ _ _ (by kernel_rfl)];exact laidMet_laidAll _ (by kernel_rfl) (by kernel_rfl))) ?_
 intro W base args ds gs before hval0 hW hcnd hwt hL _;have hval:∀(j:Nat)t v,Tryz.f4.params[j]?=some t→args[j]?=some v→Value.okWide Tryz.prog W .any base t v:=hval0;have hW':=hW;obtain⟨p,q,hA0,hV,rfl,hfz,hnd⟩:=hW;have hA:DataW.TrodAll enc Tryz.prog W 0 (fun _=>true) true Tryz.f4.params.toList args.toList ds p:=hA0;rw[Tryz.params4]at hA hval;obtain⟨v0,v1,v2,v3,v4,v5,d0,d1,d2,d3,d4,d5,p0,p1,p2,p3,p4,p5,rfl,rfl,rfl,h0,h1,h2,h3,h4,h5⟩:=zTr hA;obtain⟨rfl,rfl⟩:=trodVars_none hV;obtain⟨x0,w0,g0⟩:=qLi (A:=tbN) (.inl ⟨_,Tryz.underlying33⟩) (.struct Tryz.underlying33 (by kernel_rfl) (.cons rfl (by kernel_rfl) (.struct Tryz.underlying30 (by kernel_rfl) (.cons rfl (by kernel_rfl) qMq (.cons rfl (by kernel_rfl) qMq (.cons rfl (by kernel_rfl) qMq (.cons rfl (by kernel_rfl) (.list Tryz.underlying23 (by kernel_rfl) (Nat.le_of_ble_eq_true (by kernel_rfl)) (.struct Tryz.underlying111 (by kernel_rfl) (.cons rfl (by kernel_rfl) (.int Tryz.underlying5) (.cons rfl (by kernel_rfl) (.int Tryz.underlying3) (.one rfl (by kernel_rfl) (.int Tryz.underlying3)))))) (.cons rfl (by kernel_rfl) (.int Tryz.underlying3) (.cons rfl (by kernel_rfl) (.int Tryz.underlying3) (.cons rfl (by kernel_rfl) (.int Tryz.underlying3) (.cons rfl (by kernel_rfl) tf24 (.cons rfl (by kernel_rfl) tf24 (.cons rfl (by kernel_rfl) qMr (.cons rfl (by kernel_rfl) qMr (.one rfl (by kernel_rfl) qMr))))))))))))) (.cons rfl (by kernel_rfl) (.int Tryz.underlying3) (.cons rfl (by kernel_rfl) tf31 (.one rfl (by kernel_rfl) tf31))))) (hval 0 33 v0 rfl rfl) h0 (fun b off hm=>hfz b off (by simp[hm])) (fun n hn=>of_decide_eq_true (List.all_eq_true.1 hwt n (DataW.weights_mem_each (j:=0) (t:=33) (d:=d0) (by kernel_rfl) rfl n hn))) ⟨fun _=>none,0⟩
 obtain⟨x1,w1,g1⟩:=gT (k:= .i64) Tryz.underlying3 (.int Tryz.underlying3) (hval 1 3 v1 rfl rfl) h1 (fun b off hm=>hfz b off (by simp[hm])) (fun n hn=>of_decide_eq_true (List.all_eq_true.1 hwt n (DataW.weights_mem_each (j:=1) (t:=3) (d:=d1) (by kernel_rfl) rfl n hn))) ⟨fun _=>none,0⟩
 obtain⟨x2,w2,g2⟩:=gT (k:= .i64) Tryz.underlying3 (.int Tryz.underlying3) (hval 2 3 v2 rfl rfl) h2 (fun b off hm=>hfz b off (by simp[hm])) (fun n hn=>of_decide_eq_true (List.all_eq_true.1 hwt n (DataW.weights_mem_each (j:=2) (t:=3) (d:=d2) (by kernel_rfl) rfl n hn))) ⟨fun _=>none,0⟩
 obtain⟨x3,w3,g3⟩:=gT (k:= .i64) Tryz.underlying3 (.int Tryz.underlying3) (hval 3 3 v3 rfl rfl) h3 (fun b off hm=>hfz b off (by simp[hm])) (fun n hn=>of_decide_eq_true (List.all_eq_true.1 hwt n (DataW.weights_mem_each (j:=3) (t:=3) (d:=d3) (by kernel_rfl) rfl n hn))) ⟨fun _=>none,0⟩
 obtain⟨x4,w4,g4⟩:=gT (k:= .i64) Tryz.underlying3 (.int Tryz.underlying3) (hval 4 3 v4 rfl rfl) h4 (fun b off hm=>hfz b off (by simp[hm])) (fun n hn=>of_decide_eq_true (List.all_eq_true.1 hwt n (DataW.weights_mem_each (j:=4) (t:=3) (d:=d4) (by kernel_rfl) rfl n hn))) ⟨fun _=>none,0⟩
 obtain⟨x5,w5,g5⟩:=gT (k:= .i64) Tryz.underlying3 (.int Tryz.underlying3) (hval 5 3 v5 rfl rfl) h5 (fun b off hm=>hfz b off (by simp[hm])) (fun n hn=>of_decide_eq_true (List.all_eq_true.1 hwt n (DataW.weights_mem_each (j:=5) (t:=3) (d:=d5) (by kernel_rfl) rfl n hn))) ⟨fun _=>none,0⟩
 clear hA0 hval0;simp only[List.append_nil]at hW';refine qKh x0 x1 x2 x3 x4 x5 w0 w1 w2 w3 w4 w5 ⟨fun _=>none,0⟩ W X0 [v0,v1,v2,v3,v4,v5] _ (fun _=>qLy hL (by kernel_rfl)) (fun _ _=>rfl) (qQ _) ⟨g0,g1,g2,g3,g4,g5,trivial⟩ fun v W1 hu hv=>?_
 obtain⟨rfl,_⟩:=Rep.vI hv;have hb:=Upd.below hu;exact⟨_,rfl,_,_,_,[]++[],_,[],hW',trodAll_mk1 (shut_bool (by kernel_rfl) true),(zNh (Below.trod jC (by kernel_rfl) (of_decide_eq_true (by kernel_rfl)) h0 hb (fun x hx=>by simpa using hW'.lt x (by simp[hx]))) (Below.trod jC (by kernel_rfl) (of_decide_eq_true (by kernel_rfl)) h1 hb (fun x hx=>by simpa using hW'.lt x (by simp[hx]))) (Below.trod jC (by kernel_rfl) (of_decide_eq_true (by kernel_rfl)) h2 hb (fun x hx=>by simpa using hW'.lt x (by simp[hx]))) (Below.trod jC (by kernel_rfl) (of_decide_eq_true (by kernel_rfl)) h3 hb (fun x hx=>by simpa using hW'.lt x (by simp[hx]))) (Below.trod jC (by kernel_rfl) (of_decide_eq_true (by kernel_rfl)) h4 hb (fun x hx=>by simpa using hW'.lt x (by simp[hx]))) (Below.trod jC (by kernel_rfl) (of_decide_eq_true (by kernel_rfl)) h5 hb (fun x hx=>by simpa using hW'.lt x (by simp[hx])))),rfl,hb.frame _,fun h=>by cases h⟩
theorem zCp:Rows.lookupBetweenRow.wf (OpenSpec.ofChange Rows.lookupBetweenSpec)=true:=by kernel_rfl
theorem zCq:laidOutB Tryz.prog=true:=by kernel_rfl
theorem zCr:mapsRowed Tryz.prog=true:=by kernel_rfl
theorem zCs:namedTie Tryz.prog Rows.lookupBetweenRow.named Rows.lookupBetweenSpec.vars=true:=by kernel_rfl
theorem zAm:(Rows.lookupBetweenRow.inPlace==Tryz.prog.inPlace 4)=true:=by kernel_rfl
theorem zAn:(Rows.lookupBetweenRow.unfollowed==Tryz.prog.unfollowed 4)=true:=by kernel_rfl
theorem zAo:(Rows.lookupBetweenRow.recurses==Tryz.prog.recurses 4)=true:=by kernel_rfl
theorem zAp:(Rows.lookupBetweenRow.named==Tryz.prog.varsNamed 4)=true:=by kernel_rfl
theorem zAq:(Rows.lookupBetweenRow.plainKeys==Tryz.prog.plainKeys)=true:=by kernel_rfl
theorem bX:Tryz.prog.stopsHeard=true:=by kernel_rfl
theorem zAr:Tryz.prog.mayEnter=true:=by kernel_rfl
theorem bY:(Rows.lookupBetweenRow.lifted==Tryz.prog.liftsFinal)=true:=by kernel_rfl
theorem bZ:(Tryz.prog.make==some Rows.lookupBetweenRow.make)=true:=by kernel_rfl
theorem cB:joinedFacts Tryz.prog 4 Tryz.f4 Rows.lookupBetweenSpec Rows.lookupBetweenRow=true:=by
 unfold joinedFacts;simp only[zCp,zCq,zCr,zCs,zAm,zAn,zAo,zAp,zAq,bX,zAr,bY,bZ,Bool.true_and];kernel_rfl
theorem lookupBetween_holds:Rows.LookupBetweenSaid:=
 OpenClaim.holds_of_wide 4 Tryz.f4 rfl rfl rfl rfl rfl rfl rfl ⟨rfl,rfl,rfl,rfl,rfl⟩ rfl rfl rfl rfl rfl (by kernel_rfl) Tryz.func4 cB
  (of_decide_eq_true (by kernel_rfl)) (by unfold Func.isWrapper;first | (rw[if_pos (by decide+kernel)];kernel_rfl) | (rw[if_neg (by decide+kernel)];exact⟨rfl,rfl⟩))
  (fun os started H enc _=>lookupBetween_lifted os started H enc)
end Go.Proofs.YtjnpoeilfdbaaaaGreatDoor

import Derived.ProofKit
import Derived.OpenShut
import Derived.LaidMore
import Derived.Lay
import Derived.Stop.Joined
import Derived.SizedLaws
import Derived.Test.YtdfmdiakjdggbaaGreatDoorRows
import Derived.Test.YtdfmdiakjdggbaaGreatDoorBaseA
import Derived.Test.YtdfmdiakjdggbaaGreatDoorBaseB
import Derived.Test.YtdfmdiakjdggbaaGreatDoorBaseC
import Derived.Test.YtdfmdiakjdggbaaGreatDoorBaseD
import Derived.Test.YtdfmdiakjdggbaaGreatDoorBaseE
import Derived.Test.YtdfmdiakjdggbaaGreatDoorBaseF
import Derived.Test.YtdfmdiakjdggbaaGreatDoorBaseG
set_option linter.unusedVariables false
set_option linter.unusedSimpArgs false
set_option linter.unnecessarySimpa false
namespace Go.Proofs.YtdfmdiakjdggbaaGreatDoor
open Go Go.Gv Go.Ev Go.ChangeShapes Go.WideShapes Go.ChangeAt Go.RowKit IntKind
theorem zUw{H:Type}{enc:TypeId×Value→H}{w:World}{spare:Nat→Bool}{held:Bool}{P:Program}{base:Nat}{t0 t1 t2:TypeId}{args:Array Value}{ds:List (DataW H)}{ps:List MemPlace}(h:DataW.TrodAll enc P w base spare held [t0,t1,t2] args.toList ds ps):∃v0 v1 v2 d0 d1 d2 p0 p1 p2,args=#[v0,v1,v2]∧ds=[d0,d1,d2]∧ps=p0++p1++p2∧DataW.Trod enc P w base spare held t0 v0 d0 p0∧DataW.Trod enc P w base spare held t1 v1 d1 p1∧DataW.Trod enc P w base spare held t2 v2 d2 p2:=by
 obtain⟨v0,vs0,d0,ds0,p0,q0,hargs,rfl,rfl,hd0,h0⟩:=trodAll_cons h;obtain⟨v1,vs1,d1,ds1,p1,q1,rfl,rfl,rfl,hd1,h1⟩:=trodAll_cons h0;obtain⟨v2,vs2,d2,ds2,p2,q2,rfl,rfl,rfl,hd2,h2⟩:=trodAll_cons h1;obtain⟨rfl,rfl,rfl⟩:=trodAll_nil h2;exact⟨v0,v1,v2,d0,d1,d2,p0,p1,p2,by cases args;simp_all,rfl,by simp,hd0,hd1,hd2⟩
theorem zNu{H:Type}{enc:TypeId×Value→H}{w:World}{spare:Nat→Bool}{held:Bool}{P:Program}{base:Nat}{t0 t1 t2:TypeId}{v0 v1 v2:Value}{d0 d1 d2:DataW H}{p0 p1 p2:List MemPlace}(h0:DataW.Trod enc P w base spare held t0 v0 d0 p0)(h1:DataW.Trod enc P w base spare held t1 v1 d1 p1)(h2:DataW.Trod enc P w base spare held t2 v2 d2 p2):DataW.TrodAll enc P w base spare held [t0,t1,t2] [v0,v1,v2] [d0,d1,d2] (p0++(p1++(p2))):=⟨p0,p1++(p2),h0,⟨p1,p2,h1,trodAll_mk1 h2,rfl⟩,rfl⟩
theorem bG:ownKnob Tryz.prog.godebug=Option.none:=by kernel_rfl
theorem yR:laidOutB Tryz.prog=true:=by kernel_rfl
set_option maxRecDepth 100000 in
theorem scoreMixMatches_lifted(os:Os)(started:os.Started)(H:Type)(enc:TypeId×Value→H):
  ReturnsInHanded {} Tryz.checked os 7 .any (fun w args=>(Rows.scoreMixMatchesSpec.pre enc Tryz.prog Tryz.f7 Rows.scoreMixMatchesRow.domain false w args∧laidMetH Tryz.prog [("math/bits.deBruijn32tab",Rows.laid_math_bits_deBruijn32tab),("math/bits.deBruijn64tab",Rows.laid_math_bits_deBruijn64tab),("internal/strconv.uint64pow10",Rows.laid_internal_strconv_uint64pow10)] w)∧sizedMet enc Tryz.prog Tryz.f7 (OpenSpec.ofChange Rows.scoreMixMatchesSpec) false w args)
   (Rows.scoreMixMatchesSpec.post enc Tryz.prog Tryz.f7 false true false false):=by
 refine returnsInHanded_of_change_and (C:=Tryz.checked) (X:=fun w _=>laidMetH Tryz.prog [("math/bits.deBruijn32tab",Rows.laid_math_bits_deBruijn32tab),("math/bits.deBruijn64tab",Rows.laid_math_bits_deBruijn64tab),("internal/strconv.uint64pow10",Rows.laid_internal_strconv_uint64pow10)] w) (fun _ _ _ hh h=>h.of_heap hh) bG started (by kernel_rfl) Tryz.func7
  (ChangeSpec.witness_shaped (enc:=enc) (C:=Tryz.checked) (os:=os) (X:=fun w _=>laidMetH Tryz.prog [("math/bits.deBruijn32tab",Rows.laid_math_bits_deBruijn32tab),("math/bits.deBruijn64tab",Rows.laid_math_bits_deBruijn64tab),("internal/strconv.uint64pow10",Rows.laid_internal_strconv_uint64pow10)] w) false (World.laidAll Tryz.prog os [("math/bits.deBruijn32tab",Rows.laid_math_bits_deBruijn32tab),("math/bits.deBruijn64tab",Rows.laid_math_bits_deBruijn64tab),("internal/strconv.uint64pow10",Rows.laid_internal_strconv_uint64pow10)]) #[.slice none 0 0,.slice none 0 0,.agg #[.bool false,.slice none 0 0,.slice none 0 0]] 8 (World.laidAll_os _ _ _)
   (World.shaped_of_ZipB (by kernel_rfl) (by kernel_rfl)) (by kernel_rfl) (by kernel_rfl) (by kernel_rfl)
   (by rw[MakeChecks.laidMetH_plain _ _ _ (by kernel_rfl)];exact laidMet_laidAll _ (by kernel_rfl) (by kernel_rfl))) ?_
 intro W base args ds gs before hval0 hW hcnd hwt hL _;have hval:∀(j:Nat)t v,Tryz.f7.params[j]?=some t→args[j]?=some v→Value.okWide Tryz.prog W .any base t v:=hval0;have hW':=hW;obtain⟨p,q,hA0,hV,rfl,hfz,hnd⟩:=hW;have hA:DataW.TrodAll enc Tryz.prog W 0 (fun _=>true) true Tryz.f7.params.toList args.toList ds p:=hA0;rw[Tryz.params7]at hA hval;obtain⟨v0,v1,v2,d0,d1,d2,p0,p1,p2,rfl,rfl,rfl,h0,h1,h2⟩:=zUw hA;obtain⟨rfl,rfl⟩:=trodVars_none hV;obtain⟨x0,w0,g0⟩:=zXd (A:=wT) Tryz.underlying38 (.list Tryz.underlying38 (by kernel_rfl) (Nat.le_of_ble_eq_true (by kernel_rfl)) (.struct Tryz.underlying63 (by kernel_rfl) (.cons rfl (by kernel_rfl) (.struct Tryz.underlying61 (by kernel_rfl) (.cons rfl (by kernel_rfl) (.int Tryz.underlying3) (.cons rfl (by kernel_rfl) (.int Tryz.underlying3) (.one rfl (by kernel_rfl) (.int Tryz.underlying3))))) (.one rfl (by kernel_rfl) (.struct Tryz.underlying28 (by kernel_rfl) (.cons rfl (by kernel_rfl) (.bool Tryz.underlying4) (.cons rfl (by kernel_rfl) (.list Tryz.underlying26 (by kernel_rfl) (Nat.le_of_ble_eq_true (by kernel_rfl)) (.lim Tryz.underlying214)) (.one rfl (by kernel_rfl) (.list Tryz.underlying26 (by kernel_rfl) (Nat.le_of_ble_eq_true (by kernel_rfl)) (.lim Tryz.underlying214)))))))))) (hval 0 38 v0 rfl rfl) h0 (fun b off hm=>hfz b off (by simp[hm])) (fun n hn=>of_decide_eq_true (List.all_eq_true.1 hwt n (DataW.weights_mem_each (j:=0) (t:=38) (d:=d0) (by kernel_rfl) rfl n hn))) ⟨fun _=>none,0⟩
 obtain⟨x1,w1,g1⟩:=zXd (A:=wT) Tryz.underlying38 (.list Tryz.underlying38 (by kernel_rfl) (Nat.le_of_ble_eq_true (by kernel_rfl)) (.struct Tryz.underlying63 (by kernel_rfl) (.cons rfl (by kernel_rfl) (.struct Tryz.underlying61 (by kernel_rfl) (.cons rfl (by kernel_rfl) (.int Tryz.underlying3) (.cons rfl (by kernel_rfl) (.int Tryz.underlying3) (.one rfl (by kernel_rfl) (.int Tryz.underlying3))))) (.one rfl (by kernel_rfl) (.struct Tryz.underlying28 (by kernel_rfl) (.cons rfl (by kernel_rfl) (.bool Tryz.underlying4) (.cons rfl (by kernel_rfl) (.list Tryz.underlying26 (by kernel_rfl) (Nat.le_of_ble_eq_true (by kernel_rfl)) (.lim Tryz.underlying214)) (.one rfl (by kernel_rfl) (.list Tryz.underlying26 (by kernel_rfl) (Nat.le_of_ble_eq_true (by kernel_rfl)) (.lim Tryz.underlying214)))))))))) (hval 1 38 v1 rfl rfl) h1 (fun b off hm=>hfz b off (by simp[hm])) (fun n hn=>of_decide_eq_true (List.all_eq_true.1 hwt n (DataW.weights_mem_each (j:=1) (t:=38) (d:=d1) (by kernel_rfl) rfl n hn))) ⟨fun _=>none,0⟩
 obtain⟨x2,w2,g2⟩:=qMj (A:=jI) (.inl ⟨_,Tryz.underlying28⟩) (.struct Tryz.underlying28 (by kernel_rfl) (.cons rfl (by kernel_rfl) (.bool Tryz.underlying4) (.cons rfl (by kernel_rfl) (.list Tryz.underlying26 (by kernel_rfl) (Nat.le_of_ble_eq_true (by kernel_rfl)) (.lim Tryz.underlying214)) (.one rfl (by kernel_rfl) (.list Tryz.underlying26 (by kernel_rfl) (Nat.le_of_ble_eq_true (by kernel_rfl)) (.lim Tryz.underlying214)))))) (hval 2 28 v2 rfl rfl) h2 (fun b off hm=>hfz b off (by simp[hm])) (fun n hn=>of_decide_eq_true (List.all_eq_true.1 hwt n (DataW.weights_mem_each (j:=2) (t:=28) (d:=d2) (by kernel_rfl) rfl n hn))) ⟨fun _=>none,0⟩
 clear hA0 hval0;simp only[List.append_nil]at hW';refine qLf x0 x1 x2 w0 w1 w2 ⟨fun _=>none,0⟩ W X0 [v0,v1,v2] _ (fun _=>qNa hL (by kernel_rfl)) (fun _ _=>rfl) (zT _) ⟨g0,g1,g2,trivial⟩ fun v W1 hu hv=>?_
 obtain⟨rfl,_⟩:=Rep.vI hv;have hb:=Upd.below hu;exact⟨_,rfl,_,_,_,[]++[],_,[],hW',trodAll_mk1 (shut_bool (by kernel_rfl) true),(zNu (Below.trod yR (by kernel_rfl) (of_decide_eq_true (by kernel_rfl)) h0 hb (fun x hx=>by simpa using hW'.lt x (by simp[hx]))) (Below.trod yR (by kernel_rfl) (of_decide_eq_true (by kernel_rfl)) h1 hb (fun x hx=>by simpa using hW'.lt x (by simp[hx]))) (Below.trod yR (by kernel_rfl) (of_decide_eq_true (by kernel_rfl)) h2 hb (fun x hx=>by simpa using hW'.lt x (by simp[hx])))),rfl,hb.frame _,fun h=>by cases h⟩
theorem aY:Rows.scoreMixMatchesRow.wf (OpenSpec.ofChange Rows.scoreMixMatchesSpec)=true:=by kernel_rfl
theorem aZ:laidOutB Tryz.prog=true:=by kernel_rfl
theorem zAa:mapsRowed Tryz.prog=true:=by kernel_rfl
theorem zAb:namedTie Tryz.prog Rows.scoreMixMatchesRow.named Rows.scoreMixMatchesSpec.vars=true:=by kernel_rfl
theorem bJ:(Rows.scoreMixMatchesRow.inPlace==Tryz.prog.inPlace 7)=true:=by kernel_rfl
theorem bK:(Rows.scoreMixMatchesRow.unfollowed==Tryz.prog.unfollowed 7)=true:=by kernel_rfl
theorem bL:(Rows.scoreMixMatchesRow.recurses==Tryz.prog.recurses 7)=true:=by kernel_rfl
theorem bM:(Rows.scoreMixMatchesRow.named==Tryz.prog.varsNamed 7)=true:=by kernel_rfl
theorem bP:(Rows.scoreMixMatchesRow.plainKeys==Tryz.prog.plainKeys)=true:=by kernel_rfl
theorem fB:Tryz.prog.stopsHeard=true:=by kernel_rfl
theorem bQ:Tryz.prog.mayEnter=true:=by kernel_rfl
theorem fC:(Rows.scoreMixMatchesRow.lifted==Tryz.prog.liftsFinal)=true:=by kernel_rfl
theorem fD:(Tryz.prog.make==some Rows.scoreMixMatchesRow.make)=true:=by kernel_rfl
theorem lS:joinedFacts Tryz.prog 7 Tryz.f7 Rows.scoreMixMatchesSpec Rows.scoreMixMatchesRow=true:=by
 unfold joinedFacts;simp only[aY,aZ,zAa,zAb,bJ,bK,bL,bM,bP,fB,bQ,fC,fD,Bool.true_and];kernel_rfl
theorem scoreMixMatches_holds:Rows.ScoreMixMatchesSaid:=
 OpenClaim.holds_of_wide 7 Tryz.f7 rfl rfl rfl rfl rfl rfl rfl ⟨rfl,rfl,rfl,rfl,rfl⟩ rfl rfl rfl rfl rfl (by kernel_rfl) Tryz.func7 lS
  (of_decide_eq_true (by kernel_rfl)) (by unfold Func.isWrapper;first | (rw[if_pos (by decide+kernel)];kernel_rfl) | (rw[if_neg (by decide+kernel)];exact⟨rfl,rfl⟩))
  (fun os started H enc _=>scoreMixMatches_lifted os started H enc)
end Go.Proofs.YtdfmdiakjdggbaaGreatDoor

import Derived.ProofKit
import Derived.OpenShut
import Derived.LaidMore
import Derived.Lay
import Derived.Stop.Joined
import Derived.SizedLaws
import Derived.Test.YtdfmdiakjdggbaaGreatDoorRows
import Derived.Test.YtdfmdiakjdggbaaGreatDoorBaseA
import Derived.Test.YtdfmdiakjdggbaaGreatDoorBaseB
import Derived.Test.YtdfmdiakjdggbaaGreatDoorBaseC
import Derived.Test.YtdfmdiakjdggbaaGreatDoorBaseD
import Derived.Test.YtdfmdiakjdggbaaGreatDoorBaseE
import Derived.Test.YtdfmdiakjdggbaaGreatDoorBaseF
import Derived.Test.YtdfmdiakjdggbaaGreatDoorBaseG
import Derived.Test.YtdfmdiakjdggbaaGreatDoorBaseH
set_option linter.unusedVariables false
set_option linter.unusedSimpArgs false
set_option linter.unnecessarySimpa false
namespace Go.Proofs.YtdfmdiakjdggbaaGreatDoor
open Go Go.Gv Go.Ev Go.ChangeShapes Go.WideShapes Go.ChangeAt Go.RowKit IntKind
theorem tyA:TyF Tryz.prog (.list .lim) 26:=.list Tryz.underlying26 (by kernel_rfl) (Nat.le_of_ble_eq_true (by kernel_rfl)) (.lim Tryz.underlying214)
theorem tyB:TyF Tryz.prog (.prod .bool (.prod (.list .lim) (.list .lim))) 28:=.struct Tryz.underlying28 (by kernel_rfl) (.cons rfl (by kernel_rfl) (.bool Tryz.underlying4) (.cons rfl (by kernel_rfl) tyA (.one rfl (by kernel_rfl) tyA)))
theorem zUn{H:Type}{enc:TypeId×Value→H}{w:World}{spare:Nat→Bool}{held:Bool}{P:Program}{base:Nat}{C D:TypeId}{args:Array Value}{ds:List (DataW H)}{ps:List MemPlace}(h:DataW.TrodAll enc P w base spare held [C,D] args.toList ds ps):∃q y e f j k,args=#[q,y]∧ds=[e,f]∧ps=j++k∧DataW.Trod enc P w base spare held C q e j∧DataW.Trod enc P w base spare held D y f k:=by
 obtain⟨q,J,e,E,j,L,z,rfl,rfl,A,G⟩:=trodAll_cons h;obtain⟨y,K,f,F,k,M,rfl,rfl,rfl,B,I⟩:=trodAll_cons G;obtain⟨rfl,rfl,rfl⟩:=trodAll_nil I;exact⟨q,y,e,f,j,k,by cases args;simp_all,rfl,by simp,A,B⟩
theorem zNw{H:Type}{enc:TypeId×Value→H}{w:World}{spare:Nat→Bool}{held:Bool}{P:Program}{base:Nat}{q y:TypeId}{z A:Value}{j k:DataW H}{e f:List MemPlace}(B:DataW.Trod enc P w base spare held q z j e)(C:DataW.Trod enc P w base spare held y A k f):DataW.TrodAll enc P w base spare held [q,y] [z,A] [j,k] (e++(f)):=⟨e,f,B,trodAll_mk1 C,rfl⟩
theorem zDh:ownKnob Tryz.prog.godebug=Option.none:=by kernel_rfl
theorem sG:laidOutB Tryz.prog=true:=by kernel_rfl
set_option maxRecDepth 100000 in
theorem scoreBetween_lifted(os:Os)(started:os.Started)(H:Type)(enc:TypeId×Value→H):
  ReturnsInHanded {} Tryz.checked os 5 .any (fun w args=>(Rows.scoreBetweenSpec.pre enc Tryz.prog Tryz.f5 Rows.scoreBetweenRow.domain false w args∧laidMetH Tryz.prog [("math/bits.deBruijn32tab",Rows.laid_math_bits_deBruijn32tab),("math/bits.deBruijn64tab",Rows.laid_math_bits_deBruijn64tab),("internal/strconv.uint64pow10",Rows.laid_internal_strconv_uint64pow10)] w)∧sizedMet enc Tryz.prog Tryz.f5 (OpenSpec.ofChange Rows.scoreBetweenSpec) false w args)
   (Rows.scoreBetweenSpec.post enc Tryz.prog Tryz.f5 false true false false):=by
 refine returnsInHanded_of_change_and (C:=Tryz.checked) (X:=fun w _=>laidMetH Tryz.prog [("math/bits.deBruijn32tab",Rows.laid_math_bits_deBruijn32tab),("math/bits.deBruijn64tab",Rows.laid_math_bits_deBruijn64tab),("internal/strconv.uint64pow10",Rows.laid_internal_strconv_uint64pow10)] w) (fun _ _ _ hh h=>h.of_heap hh) zDh started (by kernel_rfl) Tryz.func5
  (ChangeSpec.witness_shaped (enc:=enc) (C:=Tryz.checked) (os:=os) (X:=fun w _=>laidMetH Tryz.prog [("math/bits.deBruijn32tab",Rows.laid_math_bits_deBruijn32tab),("math/bits.deBruijn64tab",Rows.laid_math_bits_deBruijn64tab),("internal/strconv.uint64pow10",Rows.laid_internal_strconv_uint64pow10)] w) false (World.laidAll Tryz.prog os [("math/bits.deBruijn32tab",Rows.laid_math_bits_deBruijn32tab),("math/bits.deBruijn64tab",Rows.laid_math_bits_deBruijn64tab),("internal/strconv.uint64pow10",Rows.laid_internal_strconv_uint64pow10)]) #[.agg #[.slice none 0 0,.slice none 0 0,.slice none 0 0,.slice none 0 0,.int .i64 0,.int .i64 0,.int .i64 0,.slice none 0 0,.slice none 0 0,.bool false,.slice none 0 0,.slice none 0 0,.bool false,.slice none 0 0,.slice none 0 0,.bool false,.slice none 0 0,.slice none 0 0,.int .i64 0,.slice none 0 0,.slice none 0 0,.int .i64 0,.int .i64 0,.bool false,.slice none 0 0,.slice none 0 0,.bool false,.slice none 0 0,.slice none 0 0,.bool false,.slice none 0 0,.slice none 0 0,.int .u8 0],.slice none 0 0] 8 (World.laidAll_os _ _ _)
   (World.shaped_of_ZipB (by kernel_rfl) (by kernel_rfl)) (by kernel_rfl) (by kernel_rfl) (by kernel_rfl)
   (by rw[MakeChecks.laidMetH_plain _ _ _ (by kernel_rfl)];exact laidMet_laidAll _ (by kernel_rfl) (by kernel_rfl))) ?_
 intro W base args ds gs before f J K B Q _;have e:∀(j:Nat)t v,Tryz.f5.params[j]?=some t→args[j]?=some v→Value.okWide Tryz.prog W .any base t v:=f;have k:=J;obtain⟨p,q,y,R,rfl,z,S⟩:=J;have I:DataW.TrodAll enc Tryz.prog W 0 (fun _=>true) true Tryz.f5.params.toList args.toList ds p:=y;rw[Tryz.params5]at I e;obtain⟨L,M,N,O,V,Y,rfl,rfl,rfl,F,G⟩:=zUn I;obtain⟨rfl,rfl⟩:=trodVars_none R;obtain⟨x0,w0,P⟩:=qNf (A:=zEe) (.inl ⟨_,Tryz.underlying37⟩) (.struct Tryz.underlying37 (by kernel_rfl) (.cons rfl (by kernel_rfl) (.struct Tryz.underlying33 (by kernel_rfl) (.cons rfl (by kernel_rfl) (.struct Tryz.underlying30 (by kernel_rfl) (.cons rfl (by kernel_rfl) (.list Tryz.underlying22 (by kernel_rfl) (Nat.le_of_ble_eq_true (by kernel_rfl)) (.int Tryz.underlying3)) (.cons rfl (by kernel_rfl) (.list Tryz.underlying22 (by kernel_rfl) (Nat.le_of_ble_eq_true (by kernel_rfl)) (.int Tryz.underlying3)) (.cons rfl (by kernel_rfl) (.list Tryz.underlying22 (by kernel_rfl) (Nat.le_of_ble_eq_true (by kernel_rfl)) (.int Tryz.underlying3)) (.cons rfl (by kernel_rfl) (.list Tryz.underlying23 (by kernel_rfl) (Nat.le_of_ble_eq_true (by kernel_rfl)) (.struct Tryz.underlying72 (by kernel_rfl) (.cons rfl (by kernel_rfl) (.int Tryz.underlying5) (.cons rfl (by kernel_rfl) (.int Tryz.underlying3) (.one rfl (by kernel_rfl) (.int Tryz.underlying3)))))) (.cons rfl (by kernel_rfl) (.int Tryz.underlying3) (.cons rfl (by kernel_rfl) (.int Tryz.underlying3) (.cons rfl (by kernel_rfl) (.int Tryz.underlying3) (.cons rfl (by kernel_rfl) (.list Tryz.underlying24 (by kernel_rfl) (Nat.le_of_ble_eq_true (by kernel_rfl)) (.struct Tryz.underlying89 (by kernel_rfl) (.cons rfl (by kernel_rfl) (.int Tryz.underlying3) (.one rfl (by kernel_rfl) tyB)))) (.cons rfl (by kernel_rfl) (.list Tryz.underlying24 (by kernel_rfl) (Nat.le_of_ble_eq_true (by kernel_rfl)) (.struct Tryz.underlying89 (by kernel_rfl) (.cons rfl (by kernel_rfl) (.int Tryz.underlying3) (.one rfl (by kernel_rfl) tyB)))) (.cons rfl (by kernel_rfl) tyB (.cons rfl (by kernel_rfl) tyB (.one rfl (by kernel_rfl) tyB))))))))))))) (.cons rfl (by kernel_rfl) (.int Tryz.underlying3) (.cons rfl (by kernel_rfl) (.list Tryz.underlying31 (by kernel_rfl) (Nat.le_of_ble_eq_true (by kernel_rfl)) (.list Tryz.underlying22 (by kernel_rfl) (Nat.le_of_ble_eq_true (by kernel_rfl)) (.int Tryz.underlying3))) (.one rfl (by kernel_rfl) (.list Tryz.underlying31 (by kernel_rfl) (Nat.le_of_ble_eq_true (by kernel_rfl)) (.list Tryz.underlying22 (by kernel_rfl) (Nat.le_of_ble_eq_true (by kernel_rfl)) (.int Tryz.underlying3)))))))) (.cons rfl (by kernel_rfl) (.int Tryz.underlying3) (.cons rfl (by kernel_rfl) (.int Tryz.underlying3) (.cons rfl (by kernel_rfl) (.struct Tryz.underlying35 (by kernel_rfl) (.cons rfl (by kernel_rfl) tyB (.cons rfl (by kernel_rfl) tyB (.one rfl (by kernel_rfl) tyB)))) (.one rfl (by kernel_rfl) (.int Tryz.underlying5))))))) (e 0 37 L rfl rfl) F (fun b off D=>z b off (by simp[D])) (fun n hn=>of_decide_eq_true (List.all_eq_true.1 B n (DataW.weights_mem_each (j:=0) (t:=37) (d:=N) (by kernel_rfl) rfl n hn))) ⟨fun _=>none,0⟩
 obtain⟨x1,w1,g1⟩:=qNg (A:=wT) Tryz.underlying38 (.list Tryz.underlying38 (by kernel_rfl) (Nat.le_of_ble_eq_true (by kernel_rfl)) (.struct Tryz.underlying63 (by kernel_rfl) (.cons rfl (by kernel_rfl) (.struct Tryz.underlying61 (by kernel_rfl) (.cons rfl (by kernel_rfl) (.int Tryz.underlying3) (.cons rfl (by kernel_rfl) (.int Tryz.underlying3) (.one rfl (by kernel_rfl) (.int Tryz.underlying3))))) (.one rfl (by kernel_rfl) tyB)))) (e 1 38 M rfl rfl) G (fun b off D=>z b off (by simp[D])) (fun n hn=>of_decide_eq_true (List.all_eq_true.1 B n (DataW.weights_mem_each (j:=1) (t:=38) (d:=O) (by kernel_rfl) rfl n hn))) ⟨fun _=>none,0⟩
 clear y f;simp only[List.append_nil]at k;refine qMa x0 x1 w0 w1 ⟨fun _=>none,0⟩ W X0 [L,M] _ (fun _=>qNx Q (by kernel_rfl)) (fun _ _=>rfl) (zZ _) ⟨P,g1,trivial⟩ fun v U T hv=>?_
 obtain⟨rfl,_⟩:=Rep.vI hv;have hb:=Upd.below T;exact⟨_,rfl,_,_,_,[]++[],_,[],k,trodAll_mk1 (shut_bool (by kernel_rfl) true),(zNw (Below.trod sG (by kernel_rfl) (of_decide_eq_true (by kernel_rfl)) F hb (fun x E=>by simpa using k.lt x (by simp[E]))) (Below.trod sG (by kernel_rfl) (of_decide_eq_true (by kernel_rfl)) G hb (fun x E=>by simpa using k.lt x (by simp[E])))),rfl,hb.frame _,fun h=>by cases h⟩
theorem zFc:Rows.scoreBetweenRow.wf (OpenSpec.ofChange Rows.scoreBetweenSpec)=true:=by kernel_rfl
theorem zFd:laidOutB Tryz.prog=true:=by kernel_rfl
theorem zFe:mapsRowed Tryz.prog=true:=by kernel_rfl
theorem zFf:namedTie Tryz.prog Rows.scoreBetweenRow.named Rows.scoreBetweenSpec.vars=true:=by kernel_rfl
theorem zDl:(Rows.scoreBetweenRow.inPlace==Tryz.prog.inPlace 5)=true:=by kernel_rfl
theorem zDm:(Rows.scoreBetweenRow.unfollowed==Tryz.prog.unfollowed 5)=true:=by kernel_rfl
theorem zDn:(Rows.scoreBetweenRow.recurses==Tryz.prog.recurses 5)=true:=by kernel_rfl
theorem zDo:(Rows.scoreBetweenRow.named==Tryz.prog.varsNamed 5)=true:=by kernel_rfl
theorem zDp:(Rows.scoreBetweenRow.plainKeys==Tryz.prog.plainKeys)=true:=by kernel_rfl
theorem zBn:Tryz.prog.stopsHeard=true:=by kernel_rfl
theorem zDq:Tryz.prog.mayEnter=true:=by kernel_rfl
theorem zBo:(Rows.scoreBetweenRow.lifted==Tryz.prog.liftsFinal)=true:=by kernel_rfl
theorem zBp:(Tryz.prog.make==some Rows.scoreBetweenRow.make)=true:=by kernel_rfl
theorem aT:joinedFacts Tryz.prog 5 Tryz.f5 Rows.scoreBetweenSpec Rows.scoreBetweenRow=true:=by
 unfold joinedFacts;simp only[zFc,zFd,zFe,zFf,zDl,zDm,zDn,zDo,zDp,zBn,zDq,zBo,zBp,Bool.true_and];kernel_rfl
theorem scoreBetween_holds:Rows.ScoreBetweenSaid:=
 OpenClaim.holds_of_wide 5 Tryz.f5 rfl rfl rfl rfl rfl rfl rfl ⟨rfl,rfl,rfl,rfl,rfl⟩ rfl rfl rfl rfl rfl (by kernel_rfl) Tryz.func5 aT
  (of_decide_eq_true (by kernel_rfl)) (by unfold Func.isWrapper;first | (rw[if_pos (by decide+kernel)];kernel_rfl) | (rw[if_neg (by decide+kernel)];exact⟨rfl,rfl⟩))
  (fun os started H enc _=>scoreBetween_lifted os started H enc)
end Go.Proofs.YtdfmdiakjdggbaaGreatDoor

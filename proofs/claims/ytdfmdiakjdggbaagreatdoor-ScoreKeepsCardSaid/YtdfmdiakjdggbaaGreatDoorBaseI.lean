import Derived.Stop.Joined
import Derived.Test.YtdfmdiakjdggbaaGreatDoorBaseH
set_option linter.unusedVariables false
set_option linter.unusedSimpArgs false
set_option linter.unnecessarySimpa false
namespace Go.Proofs.YtdfmdiakjdggbaaGreatDoor
open Go Go.Gv Go.Ev Go.ChangeShapes Go.WideShapes Go.ChangeAt Go.RowKit IntKind
theorem zVm{H:Type}{q:TypeId×Value→H}{w:World}{e:Nat→Bool}{k:Bool}{P:Program}{j:Nat}{K L:TypeId}{f:Array Value}{I:List (DataW H)}{J:List MemPlace}(h:DataW.TrodAll q P w j e k [K,L] f.toList I J):∃C D y z A B,f=#[C,D]∧I=[y,z]∧J=A++B∧DataW.Trod q P w j e k K C y A∧DataW.Trod q P w j e k L D z B:=by
 obtain⟨C,R,y,M,A,T,E,rfl,rfl,F,O⟩:=trodAll_cons h;obtain⟨D,S,z,N,B,U,rfl,rfl,rfl,G,Q⟩:=trodAll_cons O;obtain⟨rfl,rfl,rfl⟩:=trodAll_nil Q;exact⟨C,D,y,z,A,B,by cases f;simp_all,rfl,by simp,F,G⟩
theorem zOq{H:Type}{k:TypeId×Value→H}{w:World}{e:Nat→Bool}{j:Bool}{P:Program}{f:Nat}{B C:TypeId}{D E:Value}{z A:DataW H}{q y:List MemPlace}(F:DataW.Trod k P w f e j B D z q)(G:DataW.Trod k P w f e j C E A y):DataW.TrodAll k P w f e j [B,C] [D,E] [z,A] (q++(y)):=⟨q,y,F,trodAll_mk1 G,rfl⟩
theorem tf26:TyF Tryz.prog (.list (.lim)) 26:= .list Tryz.underlying26 (by kernel_rfl) (je (by kernel_rfl)) (.lim Tryz.underlying214)
theorem zSk:TyF Tryz.prog (.prod (.bool) (.prod (.list (.lim)) (.list (.lim)))) 28:= .struct Tryz.underlying28 (by kernel_rfl) (.cons rfl (by kernel_rfl) (.bool Tryz.underlying4) (.cons rfl (by kernel_rfl) tf26 (.one rfl (by kernel_rfl) tf26)))
theorem qQl:TyF Tryz.prog (.list (.int .i64)) 22:= .list Tryz.underlying22 (by kernel_rfl) (je (by kernel_rfl)) (.int Tryz.underlying3)
theorem tf31:TyF Tryz.prog (.list (.list (.int .i64))) 31:= .list Tryz.underlying31 (by kernel_rfl) (je (by kernel_rfl)) qQl
theorem tf24:TyF Tryz.prog (.list (.prod (.int .i64) (.prod (.bool) (.prod (.list (.lim)) (.list (.lim)))))) 24:= .list Tryz.underlying24 (by kernel_rfl) (je (by kernel_rfl)) (.struct Tryz.underlying89 (by kernel_rfl) (.cons rfl (by kernel_rfl) (.int Tryz.underlying3) (.one rfl (by kernel_rfl) zSk)))
theorem zHl:ownKnob Tryz.prog.godebug=Option.none:=by kernel_rfl
theorem rY:laidOutB Tryz.prog=true:=by kernel_rfl
set_option maxRecDepth 100000 in
theorem scoreKeeps_lifted(os:Os)(y:os.Started)(H:Type)(enc:TypeId×Value→H):
  ReturnsInHanded {} Tryz.checked os 6 .any (fun w e=>(Rows.scoreKeepsSpec.pre enc Tryz.prog Tryz.f6 Rows.scoreKeepsRow.domain false w e∧laidMetH Tryz.prog [("math/bits.deBruijn32tab",Rows.laid_math_bits_deBruijn32tab),("math/bits.deBruijn64tab",Rows.laid_math_bits_deBruijn64tab),("internal/strconv.uint64pow10",Rows.laid_internal_strconv_uint64pow10)] w)∧sizedMet enc Tryz.prog Tryz.f6 (OpenSpec.ofChange Rows.scoreKeepsSpec) false w e)
   (Rows.scoreKeepsSpec.post enc Tryz.prog Tryz.f6 false true false false):=by
 refine returnsInHanded_of_change_and (C:=Tryz.checked) (X:=fun w _=>laidMetH Tryz.prog [("math/bits.deBruijn32tab",Rows.laid_math_bits_deBruijn32tab),("math/bits.deBruijn64tab",Rows.laid_math_bits_deBruijn64tab),("internal/strconv.uint64pow10",Rows.laid_internal_strconv_uint64pow10)] w) (fun _ _ _ hh h=>h.of_heap hh) zHl y (by kernel_rfl) Tryz.func6
  (ChangeSpec.witness_shaped (enc:=enc) (C:=Tryz.checked) (os:=os) (X:=fun w _=>laidMetH Tryz.prog [("math/bits.deBruijn32tab",Rows.laid_math_bits_deBruijn32tab),("math/bits.deBruijn64tab",Rows.laid_math_bits_deBruijn64tab),("internal/strconv.uint64pow10",Rows.laid_internal_strconv_uint64pow10)] w) false (World.laidAll Tryz.prog os [("math/bits.deBruijn32tab",Rows.laid_math_bits_deBruijn32tab),("math/bits.deBruijn64tab",Rows.laid_math_bits_deBruijn64tab),("internal/strconv.uint64pow10",Rows.laid_internal_strconv_uint64pow10)]) #[.agg #[.slice none 0 0,.slice none 0 0,.slice none 0 0,.slice none 0 0,.int .i64 0,.int .i64 0,.int .i64 0,.slice none 0 0,.slice none 0 0,.bool false,.slice none 0 0,.slice none 0 0,.bool false,.slice none 0 0,.slice none 0 0,.bool false,.slice none 0 0,.slice none 0 0,.int .i64 0,.slice none 0 0,.slice none 0 0,.int .i64 0,.int .i64 0,.bool false,.slice none 0 0,.slice none 0 0,.bool false,.slice none 0 0,.slice none 0 0,.bool false,.slice none 0 0,.slice none 0 0,.int .u8 0],.slice none 0 0] 8 (World.laidAll_os _ _ _)
   (World.shaped_of_ZipB (by kernel_rfl) (by kernel_rfl)) (by kernel_rfl) (by kernel_rfl) (by kernel_rfl)
   (by rw[gA _ _ _ (by kernel_rfl)];exact laidMet_laidAll _ (by kernel_rfl) (by kernel_rfl))) ?_
 intro W D e V gs I k P Q G Z _;have f:∀(j:Nat)t v,Tryz.f6.params[j]?=some t→e[j]?=some v→Value.okWide Tryz.prog W .any D t v:=k;have z:=P;obtain⟨p,q,E,hV,rfl,F,hnd⟩:=P;have O:DataW.TrodAll enc Tryz.prog W 0 (fun _=>true) true Tryz.f6.params.toList e.toList V p:=E;rw[Tryz.params6]at O f;obtain⟨R,S,T,U,p0,p1,rfl,rfl,rfl,M,N⟩:=zVm O;obtain⟨rfl,rfl⟩:=trodVars_none hV;obtain⟨x0,w0,Y⟩:=qOy (A:=zEd) (.inl ⟨_,Tryz.underlying37⟩) (.struct Tryz.underlying37 (by kernel_rfl) (.cons rfl (by kernel_rfl) (.struct Tryz.underlying33 (by kernel_rfl) (.cons rfl (by kernel_rfl) (.struct Tryz.underlying30 (by kernel_rfl) (.cons rfl (by kernel_rfl) qQl (.cons rfl (by kernel_rfl) qQl (.cons rfl (by kernel_rfl) qQl (.cons rfl (by kernel_rfl) (.list Tryz.underlying23 (by kernel_rfl) (je (by kernel_rfl)) (.struct Tryz.underlying72 (by kernel_rfl) (.cons rfl (by kernel_rfl) (.int Tryz.underlying5) (.cons rfl (by kernel_rfl) (.int Tryz.underlying3) (.one rfl (by kernel_rfl) (.int Tryz.underlying3)))))) (.cons rfl (by kernel_rfl) (.int Tryz.underlying3) (.cons rfl (by kernel_rfl) (.int Tryz.underlying3) (.cons rfl (by kernel_rfl) (.int Tryz.underlying3) (.cons rfl (by kernel_rfl) tf24 (.cons rfl (by kernel_rfl) tf24 (.cons rfl (by kernel_rfl) zSk (.cons rfl (by kernel_rfl) zSk (.one rfl (by kernel_rfl) zSk))))))))))))) (.cons rfl (by kernel_rfl) (.int Tryz.underlying3) (.cons rfl (by kernel_rfl) tf31 (.one rfl (by kernel_rfl) tf31))))) (.cons rfl (by kernel_rfl) (.int Tryz.underlying3) (.cons rfl (by kernel_rfl) (.int Tryz.underlying3) (.cons rfl (by kernel_rfl) (.struct Tryz.underlying35 (by kernel_rfl) (.cons rfl (by kernel_rfl) zSk (.cons rfl (by kernel_rfl) zSk (.one rfl (by kernel_rfl) zSk)))) (.one rfl (by kernel_rfl) (.int Tryz.underlying5))))))) (f 0 37 R rfl rfl) M (fun b B hm=>F b B (by simp[hm])) (fun n K=>jc (qa.1 G n (uK (j:=0) (t:=37) (d:=T) (by kernel_rfl) rfl n K))) ⟨fun _=>none,0⟩
 obtain⟨x1,w1,g1⟩:=qOz (A:=wT) Tryz.underlying38 (.list Tryz.underlying38 (by kernel_rfl) (je (by kernel_rfl)) (.struct Tryz.underlying63 (by kernel_rfl) (.cons rfl (by kernel_rfl) (.struct Tryz.underlying61 (by kernel_rfl) (.cons rfl (by kernel_rfl) (.int Tryz.underlying3) (.cons rfl (by kernel_rfl) (.int Tryz.underlying3) (.one rfl (by kernel_rfl) (.int Tryz.underlying3))))) (.one rfl (by kernel_rfl) zSk)))) (f 1 38 S rfl rfl) N (fun b B hm=>F b B (by simp[hm])) (fun n K=>jc (qa.1 G n (uK (j:=1) (t:=38) (d:=U) (by kernel_rfl) rfl n K))) ⟨fun _=>none,0⟩
 clear E k;simp only[jw]at z;refine qNs x0 x1 w0 w1 ⟨fun _=>none,0⟩ W X0 [R,S] _ (fun _=>qPr Z (by kernel_rfl)) (fun _ _=>rfl) (qA _) ⟨Y,g1,trivial⟩ fun v W1 hu hv=>?_
 obtain⟨rfl,_⟩:=Rep.vI hv;have J:=Upd.below hu;exact⟨_,rfl,_,_,_,[]++[],_,[],z,trodAll_mk1 (shut_bool (by kernel_rfl) true),(zOq (Below.trod rY (by kernel_rfl) (jc (by kernel_rfl)) M J (fun x L=>by simpa using z.lt x (by simp[L]))) (Below.trod rY (by kernel_rfl) (jc (by kernel_rfl)) N J (fun x L=>by simpa using z.lt x (by simp[L])))),rfl,J.frame _,fun h=>by cases h⟩
theorem zJo:Rows.scoreKeepsRow.wf (OpenSpec.ofChange Rows.scoreKeepsSpec)=true:=by kernel_rfl
theorem zJp:laidOutB Tryz.prog=true:=by kernel_rfl
theorem zJq:mapsRowed Tryz.prog=true:=by kernel_rfl
theorem zJr:namedTie Tryz.prog Rows.scoreKeepsRow.named Rows.scoreKeepsSpec.vars=true:=by kernel_rfl
theorem zIc:(Rows.scoreKeepsRow.inPlace==Tryz.prog.inPlace 6)=true:=by kernel_rfl
theorem zId:(Rows.scoreKeepsRow.unfollowed==Tryz.prog.unfollowed 6)=true:=by kernel_rfl
theorem zIe:(Rows.scoreKeepsRow.recurses==Tryz.prog.recurses 6)=true:=by kernel_rfl
theorem zIf:(Rows.scoreKeepsRow.named==Tryz.prog.varsNamed 6)=true:=by kernel_rfl
theorem zIg:(Rows.scoreKeepsRow.plainKeys==Tryz.prog.plainKeys)=true:=by kernel_rfl
theorem zEu:Tryz.prog.stopsHeard=true:=by kernel_rfl
theorem zIh:Tryz.prog.mayEnter=true:=by kernel_rfl
theorem zEv:(Rows.scoreKeepsRow.lifted==Tryz.prog.liftsFinal)=true:=by kernel_rfl
theorem zEw:(Tryz.prog.make==some Rows.scoreKeepsRow.make)=true:=by kernel_rfl
theorem zDp:joinedFacts Tryz.prog 6 Tryz.f6 Rows.scoreKeepsSpec Rows.scoreKeepsRow=true:=by
 unfold joinedFacts;simp only[zJo,zJp,zJq,zJr,zIc,zId,zIe,zIf,zIg,zEu,zIh,zEv,zEw,xp];kernel_rfl
theorem scoreKeeps_holds:Rows.ScoreKeepsSaid:=
 OpenClaim.holds_of_wide 6 Tryz.f6 rfl rfl rfl rfl rfl rfl rfl ⟨rfl,rfl,rfl,rfl,rfl⟩ rfl rfl rfl rfl rfl (by kernel_rfl) Tryz.func6 zDp
  (jc (by kernel_rfl)) (by unfold Func.isWrapper;first | (rw[qn (by decide+kernel)];kernel_rfl) | (rw[qm (by decide+kernel)];exact⟨rfl,rfl⟩))
  (fun os e H f _=>scoreKeeps_lifted os e H f)
end Go.Proofs.YtdfmdiakjdggbaaGreatDoor

import Derived.Stop.Joined
import Derived.Test.YtdfmdiakjdggbaaGreatDoorBaseH
set_option linter.unusedVariables false
set_option linter.unusedSimpArgs false
set_option linter.unnecessarySimpa false
namespace Go.Proofs.YtdfmdiakjdggbaaGreatDoor
open Go Go.Gv Go.Ev Go.ChangeShapes Go.WideShapes Go.ChangeAt Go.RowKit IntKind
theorem zWq{H:Type}{q:TypeId×Value→H}{w:World}{e:Nat→Bool}{j:Bool}{P:Program}{f:Nat}{O Q R:TypeId}{k:Array Value}{M:List (DataW H)}{N:List MemPlace}(h:DataW.TrodAll q P w f e j [O,Q,R] k.toList M N):∃E F G y z A B C D,k=#[E,F,G]∧M=[y,z,A]∧N=B++C++D∧DataW.Trod q P w f e j O E y B∧DataW.Trod q P w f e j Q F z C∧DataW.Trod q P w f e j R G A D:=by
 obtain⟨E,Y,y,S,B,q0,I,rfl,rfl,J,V⟩:=trodAll_cons h;obtain⟨F,Z,z,T,C,q1,rfl,rfl,rfl,K,W⟩:=trodAll_cons V;obtain⟨G,vs2,A,U,D,q2,rfl,rfl,rfl,L,X⟩:=trodAll_cons W;obtain⟨rfl,rfl,rfl⟩:=trodAll_nil X;exact⟨E,F,G,y,z,A,B,C,D,by cases k;simp_all,rfl,by simp,J,K,L⟩
theorem zPp{H:Type}{k:TypeId×Value→H}{w:World}{e:Nat→Bool}{j:Bool}{P:Program}{f:Nat}{D E F:TypeId}{G I J:Value}{A B C:DataW H}{z q y:List MemPlace}(K:DataW.Trod k P w f e j D G A z)(L:DataW.Trod k P w f e j E I B q)(M:DataW.Trod k P w f e j F J C y):DataW.TrodAll k P w f e j [D,E,F] [G,I,J] [A,B,C] (z++(q++(y))):=⟨z,q++(y),K,⟨q,y,L,trodAll_mk1 M,rfl⟩,rfl⟩
theorem tf26:TyF Tryz.prog (.list (.lim)) 26:= .list Tryz.underlying26 (by kernel_rfl) (jn (by kernel_rfl)) (.lim Tryz.underlying214)
theorem zPn:TyF Tryz.prog (.prod (.bool) (.prod (.list (.lim)) (.list (.lim)))) 28:= .struct Tryz.underlying28 (by kernel_rfl) (.cons rfl (by kernel_rfl) (.bool Tryz.underlying4) (.cons rfl (by kernel_rfl) tf26 (.one rfl (by kernel_rfl) tf26)))
theorem qSh:TyF Tryz.prog (.list (.int .i64)) 22:= .list Tryz.underlying22 (by kernel_rfl) (jn (by kernel_rfl)) (.int Tryz.underlying3)
theorem tf31:TyF Tryz.prog (.list (.list (.int .i64))) 31:= .list Tryz.underlying31 (by kernel_rfl) (jn (by kernel_rfl)) qSh
theorem tf24:TyF Tryz.prog (.list (.prod (.int .i64) (.prod (.bool) (.prod (.list (.lim)) (.list (.lim)))))) 24:= .list Tryz.underlying24 (by kernel_rfl) (jn (by kernel_rfl)) (.struct Tryz.underlying89 (by kernel_rfl) (.cons rfl (by kernel_rfl) (.int Tryz.underlying3) (.one rfl (by kernel_rfl) zPn)))
theorem tf38:TyF Tryz.prog (.list (.prod (.prod (.int .i64) (.prod (.int .i64) (.int .i64))) (.prod (.bool) (.prod (.list (.lim)) (.list (.lim)))))) 38:= .list Tryz.underlying38 (by kernel_rfl) (jn (by kernel_rfl)) (.struct Tryz.underlying63 (by kernel_rfl) (.cons rfl (by kernel_rfl) (.struct Tryz.underlying61 (by kernel_rfl) (.cons rfl (by kernel_rfl) (.int Tryz.underlying3) (.cons rfl (by kernel_rfl) (.int Tryz.underlying3) (.one rfl (by kernel_rfl) (.int Tryz.underlying3))))) (.one rfl (by kernel_rfl) zPn)))
theorem zIe:ownKnob Tryz.prog.godebug=Option.none:=by kernel_rfl
theorem vQ:laidOutB Tryz.prog=true:=by kernel_rfl
set_option maxRecDepth 100000 in
theorem scoreMixes_lifted(os:Os)(B:os.Started)(H:Type)(enc:TypeId×Value→H):
  ReturnsInHanded {} Tryz.checked os 9 .any (fun w e=>(Rows.scoreMixesSpec.pre enc Tryz.prog Tryz.f9 Rows.scoreMixesRow.domain false w e∧laidMetH Tryz.prog [("math/bits.deBruijn32tab",Rows.laid_math_bits_deBruijn32tab),("math/bits.deBruijn64tab",Rows.laid_math_bits_deBruijn64tab),("internal/strconv.uint64pow10",Rows.laid_internal_strconv_uint64pow10)] w)∧sizedMet enc Tryz.prog Tryz.f9 (OpenSpec.ofChange Rows.scoreMixesSpec) false w e)
   (Rows.scoreMixesSpec.post enc Tryz.prog Tryz.f9 false true false false):=by
 refine returnsInHanded_of_change_and (C:=Tryz.checked) (X:=fun w _=>laidMetH Tryz.prog [("math/bits.deBruijn32tab",Rows.laid_math_bits_deBruijn32tab),("math/bits.deBruijn64tab",Rows.laid_math_bits_deBruijn64tab),("internal/strconv.uint64pow10",Rows.laid_internal_strconv_uint64pow10)] w) (fun _ _ _ hh h=>h.of_heap hh) zIe B (by kernel_rfl) Tryz.func9
  (ChangeSpec.witness_shaped (enc:=enc) (C:=Tryz.checked) (os:=os) (X:=fun w _=>laidMetH Tryz.prog [("math/bits.deBruijn32tab",Rows.laid_math_bits_deBruijn32tab),("math/bits.deBruijn64tab",Rows.laid_math_bits_deBruijn64tab),("internal/strconv.uint64pow10",Rows.laid_internal_strconv_uint64pow10)] w) false (World.laidAll Tryz.prog os [("math/bits.deBruijn32tab",Rows.laid_math_bits_deBruijn32tab),("math/bits.deBruijn64tab",Rows.laid_math_bits_deBruijn64tab),("internal/strconv.uint64pow10",Rows.laid_internal_strconv_uint64pow10)]) #[.agg #[.slice none 0 0,.slice none 0 0,.slice none 0 0,.slice none 0 0,.int .i64 0,.int .i64 0,.int .i64 0,.slice none 0 0,.slice none 0 0,.bool false,.slice none 0 0,.slice none 0 0,.bool false,.slice none 0 0,.slice none 0 0,.bool false,.slice none 0 0,.slice none 0 0,.int .i64 0,.slice none 0 0,.slice none 0 0,.int .i64 0,.int .i64 0,.bool false,.slice none 0 0,.slice none 0 0,.bool false,.slice none 0 0,.slice none 0 0,.bool false,.slice none 0 0,.slice none 0 0,.int .u8 0],.agg #[.slice none 0 0,.slice none 0 0],.agg #[.bool false,.slice none 0 0,.slice none 0 0]] 8 (World.laidAll_os _ _ _)
   (World.shaped_of_ZipB (by kernel_rfl) (by kernel_rfl)) (by kernel_rfl) (by kernel_rfl) (by kernel_rfl)
   (by rw[gq _ _ _ (by kernel_rfl)];exact laidMet_laidAll _ (by kernel_rfl) (by kernel_rfl))) ?_
 intro W F e Z gs K y P Q E hL _;have f:∀(j:Nat)t v,Tryz.f9.params[j]?=some t→e[j]?=some v→Value.okWide Tryz.prog W .any F t v:=y;have k:=P;obtain⟨p,q,G,hV,rfl,D,hnd⟩:=P;have O:DataW.TrodAll enc Tryz.prog W 0 (fun _=>true) true Tryz.f9.params.toList e.toList Z p:=G;rw[Tryz.params9]at O f;obtain⟨R,S,T,U,V,Y,p0,p1,p2,rfl,rfl,rfl,L,M,N⟩:=zWq O;obtain⟨rfl,rfl⟩:=trodVars_none hV;obtain⟨x0,w0,g0⟩:=zOs (A:=zEr) (.inl ⟨_,Tryz.underlying37⟩) (.struct Tryz.underlying37 (by kernel_rfl) (.cons rfl (by kernel_rfl) (.struct Tryz.underlying33 (by kernel_rfl) (.cons rfl (by kernel_rfl) (.struct Tryz.underlying30 (by kernel_rfl) (.cons rfl (by kernel_rfl) qSh (.cons rfl (by kernel_rfl) qSh (.cons rfl (by kernel_rfl) qSh (.cons rfl (by kernel_rfl) (.list Tryz.underlying23 (by kernel_rfl) (jn (by kernel_rfl)) (.struct Tryz.underlying72 (by kernel_rfl) (.cons rfl (by kernel_rfl) (.int Tryz.underlying5) (.cons rfl (by kernel_rfl) (.int Tryz.underlying3) (.one rfl (by kernel_rfl) (.int Tryz.underlying3)))))) (.cons rfl (by kernel_rfl) (.int Tryz.underlying3) (.cons rfl (by kernel_rfl) (.int Tryz.underlying3) (.cons rfl (by kernel_rfl) (.int Tryz.underlying3) (.cons rfl (by kernel_rfl) tf24 (.cons rfl (by kernel_rfl) tf24 (.cons rfl (by kernel_rfl) zPn (.cons rfl (by kernel_rfl) zPn (.one rfl (by kernel_rfl) zPn))))))))))))) (.cons rfl (by kernel_rfl) (.int Tryz.underlying3) (.cons rfl (by kernel_rfl) tf31 (.one rfl (by kernel_rfl) tf31))))) (.cons rfl (by kernel_rfl) (.int Tryz.underlying3) (.cons rfl (by kernel_rfl) (.int Tryz.underlying3) (.cons rfl (by kernel_rfl) (.struct Tryz.underlying35 (by kernel_rfl) (.cons rfl (by kernel_rfl) zPn (.cons rfl (by kernel_rfl) zPn (.one rfl (by kernel_rfl) zPn)))) (.one rfl (by kernel_rfl) (.int Tryz.underlying5))))))) (f 0 37 R rfl rfl) L (fun b z hm=>D b z (by simp[hm])) (fun n I=>qu (qa.1 E n (ym (j:=0) (t:=37) (d:=U) (by kernel_rfl) rfl n I))) ⟨fun _=>none,0⟩
 obtain⟨x1,w1,g1⟩:=zOs (A:=arW) (.inr ⟨_,_,Tryz.underlying84⟩) (.arr Tryz.underlying84 (by kernel_rfl) (.cons (by kernel_rfl) tf38 (.one (by kernel_rfl) tf38))) (f 1 84 S rfl rfl) M (fun b z hm=>D b z (by simp[hm])) (fun n I=>qu (qa.1 E n (ym (j:=1) (t:=84) (d:=V) (by kernel_rfl) rfl n I))) ⟨fun _=>none,0⟩
 obtain⟨x2,w2,g2⟩:=zOs (A:=zL) (.inl ⟨_,Tryz.underlying28⟩) zPn (f 2 28 T rfl rfl) N (fun b z hm=>D b z (by simp[hm])) (fun n I=>qu (qa.1 E n (ym (j:=2) (t:=28) (d:=Y) (by kernel_rfl) rfl n I))) ⟨fun _=>none,0⟩
 clear G y;simp only[jw]at k;refine qPm x0 x1 x2 w0 w1 w2 ⟨fun _=>none,0⟩ W X0 [R,S,T] _ (fun _=>qRp hL (by kernel_rfl)) (fun _ _=>rfl) (qC _) ⟨g0,g1,g2,trivial⟩ fun v W1 hu hv=>?_
 obtain⟨rfl,_⟩:=Rep.vI hv;have hb:=Upd.below hu;exact⟨_,rfl,_,_,_,[]++[],_,[],k,trodAll_mk1 (shut_bool (by kernel_rfl) true),(zPp (Below.trod vQ (by kernel_rfl) (qu (by kernel_rfl)) L hb (fun x J=>by simpa using k.lt x (by simp[J]))) (Below.trod vQ (by kernel_rfl) (qu (by kernel_rfl)) M hb (fun x J=>by simpa using k.lt x (by simp[J]))) (Below.trod vQ (by kernel_rfl) (qu (by kernel_rfl)) N hb (fun x J=>by simpa using k.lt x (by simp[J])))),rfl,hb.frame _,fun h=>by cases h⟩
theorem zKf:Rows.scoreMixesRow.wf (OpenSpec.ofChange Rows.scoreMixesSpec)=true:=by kernel_rfl
theorem zKg:laidOutB Tryz.prog=true:=by kernel_rfl
theorem zKh:mapsRowed Tryz.prog=true:=by kernel_rfl
theorem zKi:namedTie Tryz.prog Rows.scoreMixesRow.named Rows.scoreMixesSpec.vars=true:=by kernel_rfl
theorem zIv:(Rows.scoreMixesRow.inPlace==Tryz.prog.inPlace 9)=true:=by kernel_rfl
theorem zIw:(Rows.scoreMixesRow.unfollowed==Tryz.prog.unfollowed 9)=true:=by kernel_rfl
theorem zIx:(Rows.scoreMixesRow.recurses==Tryz.prog.recurses 9)=true:=by kernel_rfl
theorem zIy:(Rows.scoreMixesRow.named==Tryz.prog.varsNamed 9)=true:=by kernel_rfl
theorem zIz:(Rows.scoreMixesRow.plainKeys==Tryz.prog.plainKeys)=true:=by kernel_rfl
theorem zFl:Tryz.prog.stopsHeard=true:=by kernel_rfl
theorem zJa:Tryz.prog.mayEnter=true:=by kernel_rfl
theorem zFm:(Rows.scoreMixesRow.lifted==Tryz.prog.liftsFinal)=true:=by kernel_rfl
theorem zFn:(Tryz.prog.make==some Rows.scoreMixesRow.make)=true:=by kernel_rfl
theorem zEe:joinedFacts Tryz.prog 9 Tryz.f9 Rows.scoreMixesSpec Rows.scoreMixesRow=true:=by
 unfold joinedFacts;simp only[zKf,zKg,zKh,zKi,zIv,zIw,zIx,zIy,zIz,zFl,zJa,zFm,zFn,kx];kernel_rfl
theorem scoreMixes_holds:Rows.ScoreMixesSaid:=
 OpenClaim.holds_of_wide 9 Tryz.f9 rfl rfl rfl rfl rfl rfl rfl ⟨rfl,rfl,rfl,rfl,rfl⟩ rfl rfl rfl rfl rfl (by kernel_rfl) Tryz.func9 zEe
  (qu (by kernel_rfl)) (by unfold Func.isWrapper;first | (rw[qj (by decide+kernel)];kernel_rfl) | (rw[ql (by decide+kernel)];exact⟨rfl,rfl⟩))
  (fun os e H f _=>scoreMixes_lifted os e H f)
end Go.Proofs.YtdfmdiakjdggbaaGreatDoor

import Derived.ProofKit
import Derived.OpenShut
import Derived.LaidMore
import Derived.Lay
import Derived.Stop.Joined
import Derived.SizedLaws
import Derived.Test.YtfijdjigiapnbaaGreatDoorRows
import Derived.Test.YtfijdjigiapnbaaGreatDoorBaseA
import Derived.Test.YtfijdjigiapnbaaGreatDoorBaseB
import Derived.Test.YtfijdjigiapnbaaGreatDoorBaseC
import Derived.Test.YtfijdjigiapnbaaGreatDoorBaseD
import Derived.Test.YtfijdjigiapnbaaGreatDoorBaseE
import Derived.Test.YtfijdjigiapnbaaGreatDoorBaseF
import Derived.Test.YtfijdjigiapnbaaGreatDoorBaseG
import Derived.Test.YtfijdjigiapnbaaGreatDoorBaseH
import Derived.Test.YtfijdjigiapnbaaGreatDoorBaseI
set_option linter.unusedVariables false
set_option linter.unusedSimpArgs false
set_option linter.unnecessarySimpa false
namespace Go.Proofs.YtfijdjigiapnbaaGreatDoor
open Go Go.Gv Go.Ev Go.ChangeShapes Go.WideShapes Go.ChangeAt Go.RowKit IntKind
theorem zQs {H : Type} {enc : TypeId × Value → H} {w : World} {spare : Nat → Bool} {held : Bool} {P : Program} {base : Nat} {t0 t1 : TypeId} {args : Array Value} {ds : List (DataW H)} {ps : List MemPlace} (h : DataW.TrodAll enc P w base spare held [t0,t1] args.toList ds ps) : ∃ v0 v1 d0 d1 p0 p1,args = #[v0,v1] ∧ ds = [d0,d1] ∧ ps = p0 ++ p1 ∧ DataW.Trod enc P w base spare held t0 v0 d0 p0 ∧ DataW.Trod enc P w base spare held t1 v1 d1 p1 := by
 obtain ⟨v0,vs0,d0,ds0,p0,q0,hargs,rfl,rfl,hd0,h0⟩ := trodAll_cons h
 obtain ⟨v1,vs1,d1,ds1,p1,q1,rfl,rfl,rfl,hd1,h1⟩ := trodAll_cons h0
 obtain ⟨rfl,rfl,rfl⟩ := trodAll_nil h1
 exact ⟨v0,v1,d0,d1,p0,p1,by cases args; simp_all,rfl,by simp,hd0,hd1⟩
theorem zKr {H : Type} {enc : TypeId × Value → H} {w : World} {spare : Nat → Bool} {held : Bool} {P : Program} {base : Nat} {t0 t1 : TypeId} {v0 v1 : Value} {d0 d1 : DataW H} {p0 p1 : List MemPlace} (h0 : DataW.Trod enc P w base spare held t0 v0 d0 p0) (h1 : DataW.Trod enc P w base spare held t1 v1 d1 p1) : DataW.TrodAll enc P w base spare held [t0,t1] [v0,v1] [d0,d1] (p0 ++ (p1)) := ⟨p0,p1,h0,trodAll_mk1 h1,rfl⟩
theorem zBq : ownKnob Tryz.prog.godebug = Option.none := by kernel_rfl
theorem vV : laidOutB Tryz.prog = true := by kernel_rfl
set_option maxRecDepth 100000 in
theorem lookupLeast_lifted (os : Os) (started : os.Started) (H : Type) (enc : TypeId × Value → H) :
  ReturnsInHanded {} Tryz.checked os 4 .any (fun w args => (Rows.lookupLeastSpec.pre enc Tryz.prog Tryz.f4 Rows.lookupLeastRow.domain false w args ∧ laidMetH Tryz.prog [("math/bits.deBruijn32tab", Rows.laid_math_bits_deBruijn32tab), ("math/bits.deBruijn64tab", Rows.laid_math_bits_deBruijn64tab), ("internal/strconv.uint64pow10", Rows.laid_internal_strconv_uint64pow10)] w) ∧ sizedMet enc Tryz.prog Tryz.f4 (OpenSpec.ofChange Rows.lookupLeastSpec) false w args)
   (Rows.lookupLeastSpec.post enc Tryz.prog Tryz.f4 false true false false) := by
 refine returnsInHanded_of_change_and (C := Tryz.checked) (X := fun w _ => laidMetH Tryz.prog [("math/bits.deBruijn32tab", Rows.laid_math_bits_deBruijn32tab), ("math/bits.deBruijn64tab", Rows.laid_math_bits_deBruijn64tab), ("internal/strconv.uint64pow10", Rows.laid_internal_strconv_uint64pow10)] w) (fun _ _ _ hh h => h.of_heap hh) zBq started (by kernel_rfl) Tryz.func4
  (ChangeSpec.witness_shaped (enc := enc) (C := Tryz.checked) (os := os) (X := fun w _ => laidMetH Tryz.prog [("math/bits.deBruijn32tab", Rows.laid_math_bits_deBruijn32tab), ("math/bits.deBruijn64tab", Rows.laid_math_bits_deBruijn64tab), ("internal/strconv.uint64pow10", Rows.laid_internal_strconv_uint64pow10)] w) false (World.laidAll Tryz.prog os [("math/bits.deBruijn32tab", Rows.laid_math_bits_deBruijn32tab), ("math/bits.deBruijn64tab", Rows.laid_math_bits_deBruijn64tab), ("internal/strconv.uint64pow10", Rows.laid_internal_strconv_uint64pow10)]) #[.slice none 0 0, .slice none 0 0] 8 (World.laidAll_os _ _ _)
   (World.shaped_of_ZipB (by kernel_rfl) (by kernel_rfl)) (by kernel_rfl) (by kernel_rfl) (by kernel_rfl)
   (by rw [MakeChecks.laidMetH_plain _ _ _ (by kernel_rfl)]; exact laidMet_laidAll _ (by kernel_rfl) (by kernel_rfl))) ?_
 intro W base args ds gs before hval0 hW hcnd hwt hL _
 have hval : ∀ (j : Nat) t v, Tryz.f4.params[j]? = some t → args[j]? = some v → Value.okWide Tryz.prog W .any base t v := hval0
 have hW' := hW
 obtain ⟨p, q, hA0, hV, rfl, hfz, hnd⟩ := hW
 have hA : DataW.TrodAll enc Tryz.prog W 0 (fun _ => true) true Tryz.f4.params.toList args.toList ds p := hA0
 rw [Tryz.params4] at hA hval
 obtain ⟨v0, v1, d0, d1, p0, p1, rfl, rfl, rfl, h0, h1⟩ := zQs hA
 obtain ⟨rfl, rfl⟩ := trodVars_none hV
 obtain ⟨x0, _, g0⟩ := zSq (A := zZ) Tryz.underlying46 (.list Tryz.underlying46 (by kernel_rfl) (Nat.le_of_ble_eq_true (by kernel_rfl)) (.struct Tryz.underlying28 (by kernel_rfl) (.cons rfl (by kernel_rfl) (.bool Tryz.underlying4) (.cons rfl (by kernel_rfl) (.list Tryz.underlying26 (by kernel_rfl) (Nat.le_of_ble_eq_true (by kernel_rfl)) (.lim Tryz.underlying195)) (.one rfl (by kernel_rfl) (.list Tryz.underlying26 (by kernel_rfl) (Nat.le_of_ble_eq_true (by kernel_rfl)) (.lim Tryz.underlying195))))))) (hval 0 46 v0 rfl rfl) h0 (fun b off hm => hfz b off (by simp [hm])) (fun n hn => of_decide_eq_true (List.all_eq_true.1 hwt n (DataW.weights_mem_each (j := 0) (t := 46) (d := d0) (by kernel_rfl) rfl n hn))) ⟨fun _ => none, 0⟩
 obtain ⟨x1, _, g1⟩ := zSq (A := .bool) Tryz.underlying47 (.list Tryz.underlying47 (by kernel_rfl) (Nat.le_of_ble_eq_true (by kernel_rfl)) (.bool Tryz.underlying4)) (hval 1 47 v1 rfl rfl) h1 (fun b off hm => hfz b off (by simp [hm])) (fun n hn => of_decide_eq_true (List.all_eq_true.1 hwt n (DataW.weights_mem_each (j := 1) (t := 47) (d := d1) (by kernel_rfl) rfl n hn))) ⟨fun _ => none, 0⟩
 clear hA0 hval0
 simp only [List.append_nil] at hW'
 refine qFf x0 x1 ⟨fun _ => none, 0⟩ W X0 [v0, v1] _ (fun _ => qGt hL (by kernel_rfl)) (fun _ _ => rfl) (qB _) ⟨g0, g1, trivial⟩ fun v W1 hu hv => ?_
 obtain ⟨rfl, _⟩ := Rep.vI hv
 have hb := Upd.below hu
 exact ⟨_, rfl, _, _, _, [] ++ [], _, [], hW', trodAll_mk1 (shut_bool (by kernel_rfl) true), (zKr (Below.trod vV (by kernel_rfl) (of_decide_eq_true (by kernel_rfl)) h0 hb (fun x hx => by simpa using hW'.lt x (by simp [hx]))) (Below.trod vV (by kernel_rfl) (of_decide_eq_true (by kernel_rfl)) h1 hb (fun x hx => by simpa using hW'.lt x (by simp [hx])))), rfl, hb.frame _, fun h => by cases h⟩
theorem zDv : Rows.lookupLeastRow.wf (OpenSpec.ofChange Rows.lookupLeastSpec) = true := by kernel_rfl
theorem zDw : laidOutB Tryz.prog = true := by kernel_rfl
theorem zDx : mapsRowed Tryz.prog = true := by kernel_rfl
theorem zDy : namedTie Tryz.prog Rows.lookupLeastRow.named Rows.lookupLeastSpec.vars = true := by kernel_rfl
theorem zBk : (Rows.lookupLeastRow.inPlace == Tryz.prog.inPlace 4) = true := by kernel_rfl
theorem zBl : (Rows.lookupLeastRow.unfollowed == Tryz.prog.unfollowed 4) = true := by kernel_rfl
theorem zBm : (Rows.lookupLeastRow.recurses == Tryz.prog.recurses 4) = true := by kernel_rfl
theorem zBn : (Rows.lookupLeastRow.named == Tryz.prog.varsNamed 4) = true := by kernel_rfl
theorem zBo : (Rows.lookupLeastRow.plainKeys == Tryz.prog.plainKeys) = true := by kernel_rfl
theorem aR : Tryz.prog.stopsHeard = true := by kernel_rfl
theorem zBp : Tryz.prog.mayEnter = true := by kernel_rfl
theorem aS : (Rows.lookupLeastRow.lifted == Tryz.prog.liftsFinal) = true := by kernel_rfl
theorem aT : (Tryz.prog.make == some Rows.lookupLeastRow.make) = true := by kernel_rfl
theorem dX : joinedFacts Tryz.prog 4 Tryz.f4 Rows.lookupLeastSpec Rows.lookupLeastRow = true := by
 unfold joinedFacts
 simp only [zDv,zDw,zDx,zDy,zBk,zBl,zBm,zBn,zBo,aR,zBp,aS,aT,Bool.true_and]
 kernel_rfl
theorem lookupLeast_holds : Rows.LookupLeastSaid :=
 OpenClaim.holds_of_wide 4 Tryz.f4 rfl rfl rfl rfl rfl rfl rfl ⟨rfl,rfl,rfl,rfl,rfl⟩ rfl rfl rfl rfl rfl (by kernel_rfl) Tryz.func4 dX
  (of_decide_eq_true (by kernel_rfl)) (by unfold Func.isWrapper; first | (rw [if_pos (by decide +kernel)]; kernel_rfl) | (rw [if_neg (by decide +kernel)]; exact ⟨rfl,rfl⟩))
  (fun os started H enc _ => lookupLeast_lifted os started H enc)
end Go.Proofs.YtfijdjigiapnbaaGreatDoor

/- Parts of the proof: WC. By an AI agent. -/
import Derived.ProofKit
import Derived.OpenShut
import Derived.LaidMore
import Derived.Lay
import Derived.Stop.Joined
import Derived.SizedLaws
import Derived.Test.YtdfmdiakjdggbaaGreatDoorRows
import Derived.Test.YtdfmdiakjdggbaaGreatDoorBaseA
import Derived.Test.YtdfmdiakjdggbaaGreatDoorBaseB
import Derived.Test.YtdfmdiakjdggbaaGreatDoorBaseC
import Derived.Test.YtdfmdiakjdggbaaGreatDoorBaseD
import Derived.Test.YtdfmdiakjdggbaaGreatDoorBaseE
import Derived.Test.YtdfmdiakjdggbaaGreatDoorBaseF
import Derived.Test.YtdfmdiakjdggbaaGreatDoorBaseG
import Derived.Test.YtdfmdiakjdggbaaGreatDoorBaseH
import Derived.Test.YtdfmdiakjdggbaaGreatDoorBaseI
import Derived.Test.YtdfmdiakjdggbaaGreatDoorBaseJ
set_option linter.unusedVariables false
set_option linter.unusedSimpArgs false
set_option linter.unnecessarySimpa false
/- PackExamples. Conditions: none. By an AI agent. -/
namespace Go.Proofs.YtdfmdiakjdggbaaGreatDoor
open Go Go.Gv Go.Ev Go.ChangeShapes Go.WideShapes Go.ChangeAt Go.RowKit
theorem own_packExamples : ownKnob Tryz.prog.godebug = Option.none := by kernel_rfl
set_option maxRecDepth 100000 in
theorem packExamples_lifted (os : Os) (started : os.Started) (H : Type) (enc : TypeId × Value → H) :
    ReturnsInHanded {} Tryz.checked os 12 .any (fun w args => (Rows.packExamplesSpec.pre enc Tryz.prog Tryz.f12 Rows.packExamplesRow.domain false w args ∧ laidMetH Tryz.prog [("math/bits.deBruijn32tab", Rows.laid_math_bits_deBruijn32tab), ("math/bits.deBruijn64tab", Rows.laid_math_bits_deBruijn64tab), ("internal/strconv.uint64pow10", Rows.laid_internal_strconv_uint64pow10)] w) ∧ sizedMet enc Tryz.prog Tryz.f12 (OpenSpec.ofChange Rows.packExamplesSpec) false w args)
      (Rows.packExamplesSpec.post enc Tryz.prog Tryz.f12 false true false false) := by
  refine returnsInHanded_of_change_and (C := Tryz.checked) (X := fun w _ => laidMetH Tryz.prog [("math/bits.deBruijn32tab", Rows.laid_math_bits_deBruijn32tab), ("math/bits.deBruijn64tab", Rows.laid_math_bits_deBruijn64tab), ("internal/strconv.uint64pow10", Rows.laid_internal_strconv_uint64pow10)] w) (fun _ _ _ hh h => h.of_heap hh) own_packExamples started (by kernel_rfl) Tryz.func12
    (ChangeSpec.witness_shaped (enc := enc) (C := Tryz.checked) (os := os) (X := fun w _ => laidMetH Tryz.prog [("math/bits.deBruijn32tab", Rows.laid_math_bits_deBruijn32tab), ("math/bits.deBruijn64tab", Rows.laid_math_bits_deBruijn64tab), ("internal/strconv.uint64pow10", Rows.laid_internal_strconv_uint64pow10)] w) false (World.laidAll Tryz.prog os [("math/bits.deBruijn32tab", Rows.laid_math_bits_deBruijn32tab), ("math/bits.deBruijn64tab", Rows.laid_math_bits_deBruijn64tab), ("internal/strconv.uint64pow10", Rows.laid_internal_strconv_uint64pow10)]) #[] 8 (World.laidAll_os _ _ _)
      (World.shaped_of_ZipB (by kernel_rfl) (by kernel_rfl)) (by kernel_rfl) (by kernel_rfl) (by kernel_rfl)
      (by rw [MakeChecks.laidMetH_plain _ _ _ (by kernel_rfl)]; exact laidMet_laidAll _ (by kernel_rfl) (by kernel_rfl))) ?_
  intro W base args ds gs before hval0 hW hcnd _ hL _
  have hW' := hW
  obtain ⟨p, q, hA0, hV, rfl, hfz, hnd⟩ := hW
  have hA : DataW.TrodAll enc Tryz.prog W 0 (fun _ => true) true Tryz.f12.params.toList args.toList ds p := hA0
  rw [Tryz.params12] at hA
  obtain ⟨ha0, rfl, rfl⟩ := trodAll_nil hA
  obtain rfl : args = #[] := by cases args; simp_all
  obtain ⟨rfl, rfl⟩ := trodVars_none hV
  clear hA0 hval0
  simp only [List.append_nil] at hW'
  refine kn_pex ⟨fun _ => none, 0⟩ W (fun _ _ => False) [] _ (fun _ => pow_tab hL (by kernel_rfl)) (fun _ _ => rfl) (fun _ _ h => h.elim) trivial fun v W1 hu hv => ?_
  obtain ⟨rfl, _⟩ := Rep.vI hv
  have hb := Upd.below hu
  exact ⟨_, rfl, _, _, _, [] ++ [], _, [], hW', trodAll_mk1 (shut_bool (by kernel_rfl) true), rfl, rfl, hb.frame _, fun h => by cases h⟩
theorem packExamples_k1 : Rows.packExamplesRow.wf (OpenSpec.ofChange Rows.packExamplesSpec) = true := by kernel_rfl
theorem packExamples_k2 : laidOutB Tryz.prog = true := by kernel_rfl
theorem packExamples_k3 : mapsRowed Tryz.prog = true := by kernel_rfl
theorem packExamples_k5 : namedTie Tryz.prog Rows.packExamplesRow.named Rows.packExamplesSpec.vars = true := by kernel_rfl
theorem packExamples_k10 : (Rows.packExamplesRow.inPlace == Tryz.prog.inPlace 12) = true := by kernel_rfl
theorem packExamples_k11 : (Rows.packExamplesRow.unfollowed == Tryz.prog.unfollowed 12) = true := by kernel_rfl
theorem packExamples_k12 : (Rows.packExamplesRow.recurses == Tryz.prog.recurses 12) = true := by kernel_rfl
theorem packExamples_k13 : (Rows.packExamplesRow.named == Tryz.prog.varsNamed 12) = true := by kernel_rfl
theorem packExamples_k22 : (Rows.packExamplesRow.plainKeys == Tryz.prog.plainKeys) = true := by kernel_rfl
theorem packExamples_k23b : Tryz.prog.stopsHeard = true := by kernel_rfl
theorem packExamples_k24 : Tryz.prog.mayEnter = true := by kernel_rfl
theorem packExamples_k24b : (Rows.packExamplesRow.lifted == Tryz.prog.liftsFinal) = true := by kernel_rfl
theorem packExamples_k24c : (Tryz.prog.make == some Rows.packExamplesRow.make) = true := by kernel_rfl
theorem packExamples_facts : joinedFacts Tryz.prog 12 Tryz.f12 Rows.packExamplesSpec Rows.packExamplesRow = true := by
  unfold joinedFacts
  simp only [packExamples_k1, packExamples_k2, packExamples_k3, packExamples_k5, packExamples_k10, packExamples_k11, packExamples_k12, packExamples_k13, packExamples_k22, packExamples_k23b, packExamples_k24, packExamples_k24b, packExamples_k24c, Bool.true_and]
  kernel_rfl
theorem packExamples_holds : Rows.PackExamplesSaid :=
  OpenClaim.holds_of_wide 12 Tryz.f12 rfl rfl rfl rfl rfl rfl rfl ⟨rfl, rfl, rfl, rfl, rfl⟩ rfl rfl rfl rfl rfl (by kernel_rfl) Tryz.func12 packExamples_facts
    (of_decide_eq_true (by kernel_rfl)) (by unfold Func.isWrapper; first | (rw [if_pos (by decide +kernel)]; kernel_rfl) | (rw [if_neg (by decide +kernel)]; exact ⟨rfl, rfl⟩))
    (fun os started H enc _ => packExamples_lifted os started H enc)
end Go.Proofs.YtdfmdiakjdggbaaGreatDoor

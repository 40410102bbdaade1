/- DynamicsMatches returns true for every model and all numbers. Conditions: none. By an AI agent. -/
import Derived.ProofKit
import Derived.SizedLaws
import Derived.Test.YtjnbipmlmafahaaGreatRows
import Derived.Test.YtjnbipmlmafahaaGreatBaseA
import Derived.Test.YtjnbipmlmafahaaGreatBaseB
import Derived.Test.YtjnbipmlmafahaaGreatBaseC
import Derived.Test.YtjnbipmlmafahaaGreatBaseD
import Derived.Test.YtjnbipmlmafahaaGreatBaseE
import Derived.Test.YtjnbipmlmafahaaGreatBaseF
import Derived.Test.YtjnbipmlmafahaaGreatBaseG
set_option linter.unusedVariables false
set_option linter.unusedSimpArgs false
set_option linter.unnecessarySimpa false
namespace Go.Proofs.YtjnbipmlmafahaaGreat
open Go Go.Gv Go.ChangeShapes Go.WideShapes Go.ChangeAt Go.RowKit IntKind
theorem zBu : ownKnob Tryz.prog.godebug = Option.none := by kernel_rfl
theorem bE : laidOutB Tryz.prog = true := by kernel_rfl
set_option maxRecDepth 100000 in
theorem dynamicsMatches_lifted (os : Os) (started : os.Started) (H : Type) (enc : TypeId × Value → H) :
    ReturnsInHanded {} Tryz.checked os 3 .any (Rows.dynamicsMatchesSpec.pre6 enc Tryz.prog Tryz.f3 Rows.dynamicsMatchesRow.domain false) (Rows.dynamicsMatchesSpec.post enc Tryz.prog Tryz.f3 false true false false) := by
  refine returnsInHanded_of_change_sized (C := Tryz.checked) zBu started (by kernel_rfl) Tryz.func3
    (ChangeSpec.witness6 (enc := enc) (C := Tryz.checked) false ⟨#[], #[.agg #[.slice none 0 0, .slice none 0 0, .slice none 0 0, .slice none 0 0, .int .i64 0, .int .i64 0, .int .i64 0, .slice none 0 0, .slice none 0 0, .bool false, .slice none 0 0, .slice none 0 0, .bool false, .slice none 0 0, .slice none 0 0, .bool false, .slice none 0 0, .slice none 0 0], .int .i64 0, .int .i64 0, .int .i64 0, .int .i64 0, .int .i64 0], []⟩ 8 (by kernel_rfl) (by kernel_rfl) (by kernel_rfl) (by kernel_rfl)) ?_
  intro W base args ds gs before hval0 hW hcnd hwt _
  have hval : ∀ (j : Nat) t v, Tryz.f3.params[j]? = some t → args[j]? = some v → Value.okWide Tryz.prog W .any base t v := hval0
  have hW' := hW
  obtain ⟨p, q, hA0, hV, rfl, hfz, hnd⟩ := hW
  have hA : DataW.TrodAll enc Tryz.prog W 0 (fun _ => true) true Tryz.f3.params.toList args.toList ds p := hA0
  rw [Tryz.params3] at hA hval
  obtain ⟨v0, v1, v2, v3, v4, v5, d0, d1, d2, d3, d4, d5, p0, p1, p2, p3, p4, p5, rfl, rfl, rfl, h0, h1, h2, h3, h4, h5⟩ := zOz hA
  obtain ⟨rfl, rfl⟩ := trodVars_none hV
  have h0k := h0
  obtain ⟨x0, g0⟩ := zPd (hval 0 30 v0 rfl rfl) h0 (fun b off hm => hfz b off (by simp [hm])) (fun n hn => of_decide_eq_true (List.all_eq_true.1 hwt n (DataW.weights_mem_each (j := 0) (t := 30) (d := d0) (by kernel_rfl) rfl n hn)))
  have h1k := h1
  obtain ⟨z1, rfl, rfl, rfl, wz1⟩ := open_int Tryz.underlying3 (hval 1 3 v1 rfl rfl) h1
  have h2k := h2
  obtain ⟨z2, rfl, rfl, rfl, wz2⟩ := open_int Tryz.underlying3 (hval 2 3 v2 rfl rfl) h2
  have h3k := h3
  obtain ⟨z3, rfl, rfl, rfl, wz3⟩ := open_int Tryz.underlying3 (hval 3 3 v3 rfl rfl) h3
  have h4k := h4
  obtain ⟨z4, rfl, rfl, rfl, wz4⟩ := open_int Tryz.underlying3 (hval 4 3 v4 rfl rfl) h4
  have h5k := h5
  obtain ⟨z5, rfl, rfl, rfl, wz5⟩ := open_int Tryz.underlying3 (hval 5 3 v5 rfl rfl) h5
  clear hA0 hval0
  simp only [List.append_nil] at hW'
  refine (mM W X0 (zM _) x0 _ g0 z1 z2 z3 z4 z5 true (zMn x0 (zW.limC g0) z1 z2 z3 z4 z5)).mono ?_
  rintro e W' ⟨hu, v, rfl, rfl⟩
  have hb := Upd.below hu
  exact ⟨_, rfl, _, _, _, [] ++ [], _, [], hW', trodAll_mk1 (shut_bool (by kernel_rfl) true), (zLz (Below.trod bE (by kernel_rfl) (of_decide_eq_true (by kernel_rfl)) h0k hb (fun x hx => by simpa using hW'.lt x (by simp [hx]))) (shut_int Tryz.underlying3 wz1) (shut_int Tryz.underlying3 wz2) (shut_int Tryz.underlying3 wz3) (shut_int Tryz.underlying3 wz4) (shut_int Tryz.underlying3 wz5)), rfl, hb.frame _, fun h => by cases h⟩
theorem dynamicsMatches_holds : Rows.DynamicsMatchesSaid :=
  OpenClaim.holds_of_wide 3 Tryz.f3 rfl rfl rfl rfl rfl rfl rfl ⟨rfl, rfl, rfl, rfl, rfl⟩ rfl rfl rfl rfl rfl (by kernel_rfl) Tryz.func3 (by kernel_rfl)
    (of_decide_eq_true (by kernel_rfl)) (by unfold Func.isWrapper; first | (rw [if_pos (by decide +kernel)]; kernel_rfl) | (rw [if_neg (by decide +kernel)]; exact ⟨rfl, rfl⟩))
    (fun os started H enc _ => dynamicsMatches_lifted os started H enc)
end Go.Proofs.YtjnbipmlmafahaaGreat

/- Response, Number and Split of a model, for every model, rate, advisory and state. Conditions: none. By an AI agent. -/
import Derived.ProofKit
import Derived.SizedLaws
import Derived.Test.YtppalofalmieaaaGreatRows
import Derived.Test.YtppalofalmieaaaGreatBaseA
import Derived.Test.YtppalofalmieaaaGreatBaseB
import Derived.Test.YtppalofalmieaaaGreatBaseC
import Derived.Test.YtppalofalmieaaaGreatBaseD
import Derived.Test.YtppalofalmieaaaGreatBaseE
import Derived.Test.YtppalofalmieaaaGreatBaseF
set_option linter.unusedVariables false
set_option linter.unusedSimpArgs false
set_option linter.unnecessarySimpa false
/- DynamicsResponds as plain Lean. By an AI agent. -/
namespace Go.Proofs.YtppalofalmieaaaGreat
open Go Go.Gv Go.RowKit
set_option maxRecDepth 100000
set_option maxHeartbeats 1000000
theorem long6 : ∀ l : List Raw, ∃ b, clearwaylaw06_Long_p l = some b := by
  have h : ∀ l : List Raw, ∃ b, clearwaylaw06_Long_l4 (some false) l = some b := by
    intro l
    induction l with
    | nil => exact ⟨false, by rw [clearwaylaw06_Long_l4]⟩
    | cons x l ih =>
      rw [clearwaylaw06_Long_l4]
      repeat' split
      all_goals first | exact ⟨_, rfl⟩ | exact ih
  intro l
  unfold clearwaylaw06_Long_p lt
  exact h _
theorem long24 (x : ModelD) : ∃ b, clearwaylaw24_Long_p x = some b := by
  have h18 : ∀ (J : Option Bool), (∃ b, J = some b) → ∀ l : List NoiseD, ∃ b, clearwaylaw24_Long_l18 J l = some b := by
    intro J hJ l
    induction l with
    | nil => rw [clearwaylaw24_Long_l18]; exact hJ
    | cons x l ih =>
      rw [clearwaylaw24_Long_l18]
      obtain ⟨b, hb⟩ := long6 [x.p]
      rw [bnds hb]
      split
      · exact ⟨_, rfl⟩
      · exact ih
  have h28 : ∀ (J : Option Bool), (∃ b, J = some b) → ∀ l : List NoiseD, ∃ b, clearwaylaw24_Long_l28 J l = some b := by
    intro J hJ l
    induction l with
    | nil => rw [clearwaylaw24_Long_l28]; exact hJ
    | cons x l ih =>
      rw [clearwaylaw24_Long_l28]
      obtain ⟨b, hb⟩ := long6 [x.p]
      rw [bnds hb]
      split
      · exact ⟨_, rfl⟩
      · exact ih
  unfold clearwaylaw24_Long_p
  repeat' split
  all_goals try exact ⟨_, rfl⟩
  obtain ⟨b, hb⟩ := long6 [x.alert, x.strengthen, x.reversal]
  rw [lt, lt, bnds hb]
  exact h28 _ (h18 _ ⟨b, rfl⟩ _) _
def nV (x : ModelD) : Nat := x.height.length * x.own.length * x.other.length
theorem Good.size {x : ModelD} (g : Good x) : dynamics_size_p x = some ((nV x * x.advisories.length : Nat) : Int) := by
  obtain ⟨n, h, k⟩ := size_p x
  rw [h, k g.h2 g.o2 g.t2 g.a2]
  rfl
theorem Good.nV_le {x : ModelD} (g : Good x) : nV x ≤ 32768 := by
  have e1 : x.height.length * x.own.length ≤ 32 * 32 := Nat.mul_le_mul g.h2 g.o2
  exact Nat.mul_le_mul e1 g.t2
theorem Good.n_le {x : ModelD} (g : Good x) : nV x * x.advisories.length ≤ 196608 := Nat.mul_le_mul g.nV_le g.a2
theorem known_p {x : ModelD} (hc : dynamics_Check_p x = some 0) (g : Good x) (z : Int) : dynamics_known_p x [z] = some (if 0 ≤ z ∧ z < (x.advisories.length : Int) then 0 else 8) := by
  have h1 := g.a1
  have h2 := g.a2
  unfold dynamics_known_p
  rw [bnds hc, if_neg (by decide), wi64 (by omega) (by omega), has_p, Option.bind_some]
  by_cases hz : 0 ≤ z ∧ z < (x.advisories.length : Int)
  · rw [if_pos hz, if_neg]
    have : inS 0 ((x.advisories.length : Int) - 1) [z] = true := inS_iff.2 fun y hy => by
      rw [List.mem_singleton] at hy; subst hy; omega
    simp [this]
  · rw [if_neg hz, if_pos]
    have : inS 0 ((x.advisories.length : Int) - 1) [z] = false := by
      rw [Bool.eq_false_iff]
      intro h
      have := inS_iff.1 h z (by simp)
      omega
    simp [this]
theorem respond_eq {x : ModelD} (g : Good x) {u b : Int} (hb : 0 ≤ b ∧ b < (x.advisories.length : Int)) (hu : -100 ≤ u ∧ u ≤ 100) : ∃ y, ix x.advisories b = some y ∧ (b ≠ 0 → y.lo ≤ y.hi ∧ -100 ≤ y.lo ∧ y.lo ≤ 100 ∧ -100 ≤ y.hi ∧ y.hi ≤ 100) ∧
    dynamics_respond_p x u b = some (if b = 0 then u else if u < y.lo then (if y.lo < u + x.pull then y.lo else u + x.pull) else if u > y.hi then (if y.hi > u - x.pull then y.hi else u - x.pull) else u) := by
  have hp1 := g.p1
  have hp2 := g.p2
  obtain ⟨k, rfl⟩ := Int.eq_ofNat_of_zero_le hb.1
  have hk : k < x.advisories.length := by omega
  have hy := List.getElem?_eq_getElem hk
  have hix := ixT (i := (k : Int)) rfl hy
  refine ⟨_, hix, fun h0 => ?_, ?_⟩
  · have hk0 : k ≠ 0 := by rintro rfl; exact h0 rfl
    refine g.adv _ (List.mem_of_getElem? (i := k - 1) ?_)
    rw [List.getElem?_drop, show 1 + (k - 1) = k by omega]
    exact hy
  · unfold dynamics_respond_p
    rw [bnds hix, wi64 (x := u + x.pull) (by omega) (by omega), wi64 (x := u - x.pull) (by omega) (by omega)]
    by_cases hk0 : (k : Int) = 0
    · rw [if_pos (by simpa using hk0), if_pos hk0]
    · rw [if_neg (by simpa using hk0), if_neg hk0]
      simp only [Option.bind_some]
      repeat' split
      all_goals rfl
theorem Respond_p {x : ModelD} {e : Int} (hc : dynamics_Check_p x = some e) (g : e = 0 → Good x) (u b : Int) : ∃ r f, dynamics_Respond_p x u b = some (r, f) ∧ (f ≠ 0 → r = 0) ∧
    (f = 0 → e = 0 ∧ (-100 ≤ u ∧ u ≤ 100) ∧ (0 ≤ b ∧ b < (x.advisories.length : Int)) ∧ dynamics_respond_p x u b = some r) := by
  unfold dynamics_Respond_p
  rw [bnds hc]
  split
  · rename_i hn; exact ⟨0, e, rfl, fun _ => rfl, fun h => absurd h (nz_of hn)⟩
  rename_i hz
  obtain rfl := z_of hz
  have g := g rfl
  rw [show dynamics_within_p (100 : Int) = some 100 from rfl, Option.bind_some, within1 _ 100 (by decide), Option.bind_some]
  split
  · exact ⟨0, 1, rfl, fun _ => rfl, fun h => by cases h⟩
  rename_i hu
  have hu' : inS (-100) 100 [u] = true := by simpa using hu
  have hu2 := inS_iff.1 hu' u (by simp)
  rw [known_p hc g, Option.bind_some]
  by_cases hb : 0 ≤ b ∧ b < (x.advisories.length : Int)
  · rw [if_pos hb, if_neg (by decide)]
    obtain ⟨y, _, _, h3⟩ := respond_eq g hb hu2
    rw [bnds h3]
    exact ⟨_, 0, rfl, fun h => absurd rfl h, fun _ => ⟨rfl, hu2, hb, h3⟩⟩
  · rw [if_neg hb, if_pos (by decide)]
    exact ⟨0, 8, rfl, fun _ => rfl, fun h => by cases h⟩
theorem responds_p (x : ModelD) (u b s : Int) : clearwaylaw24_DynamicsResponds_p x u b s = some true := by
  obtain ⟨lg, hl⟩ := long24 x
  obtain ⟨e, hc, g⟩ := check_p x
  unfold clearwaylaw24_DynamicsResponds_p
  rw [bnds hl, awake_p]
  by_cases hlg : lg = true
  · rw [if_pos hlg]; rfl
  rw [if_neg hlg, Option.bind_some, if_neg (by decide)]
  -- the response
  have hJ : ((dynamics_Respond_p x (u) (b)).bind fun y23 => if ((y23.2) != 0) = true then (some ((y23.1) == 0)) else (if (b) < 0 then (some false) else (if (b) ≥ (x.advisories.length : Int) then (some false) else (if (IntKind.i64.wrap ((y23.1) - u)) > x.pull then (some false) else (if (IntKind.i64.wrap ((u) - y23.1)) > x.pull then (some false) else ((ix x.advisories (b)).bind fun x30 => lt (if (u) < x30.lo then (if (y23.1) ≥ u then (if (y23.1) ≤ x30.lo then (if ((y23.1) == x30.lo) = true then (some true) else (some ((y23.1) == (IntKind.i64.wrap ((u) + x.pull))))) else (some false)) else (some false)) else (if (y23.1) ≤ u then (if (y23.1) ≥ x30.hi then (if ((y23.1) == x30.hi) = true then (some true) else (some ((y23.1) == (IntKind.i64.wrap ((u) - x.pull))))) else (some false)) else (some false))) fun J35 => if ((b) == 0) = true then (some ((y23.1) == u)) else (if (u) ≥ x30.lo then (if (u) ≤ x30.hi then (some ((y23.1) == u)) else (J35)) else (J35)))))))) = some true := by
    obtain ⟨r, f, hr, h1, h2⟩ := Respond_p hc g u b
    rw [bnds hr]
    by_cases hf : f = 0
    · subst hf
      obtain ⟨rfl, hu, hb, h3⟩ := h2 rfl
      have g := g rfl
      have hp1 := g.p1
      have hp2 := g.p2
      obtain ⟨y, hy, hyr, h4⟩ := respond_eq g hb hu
      have h5 : r = if b = 0 then u else if u < y.lo then (if y.lo < u + x.pull then y.lo else u + x.pull) else if u > y.hi then (if y.hi > u - x.pull then y.hi else u - x.pull) else u := Option.some.inj (h3.symm.trans h4)
      have hrr : u - x.pull ≤ r ∧ r ≤ u + x.pull := by
        rw [h5]
        by_cases h0 : b = 0
        · rw [if_pos h0]; omega
        · have := hyr h0
          rw [if_neg h0]
          repeat' split
          all_goals omega
      rw [if_neg (by simp), if_neg (by omega), if_neg (by omega), wi64 (x := r - u) (by omega) (by omega), wi64 (x := u - r) (by omega) (by omega), if_neg (by omega), if_neg (by omega), bnds hy, lt, wi64 (x := u + x.pull) (by omega) (by omega), wi64 (x := u - x.pull) (by omega) (by omega)]
      by_cases h0 : b = 0
      · rw [if_pos h0] at h5
        rw [if_pos (by simpa using h0), h5]
        simp
      · have hq := hyr h0
        rw [if_neg h0] at h5
        rw [if_neg (by simpa using h0)]
        by_cases hlo : u < y.lo
        · rw [if_pos hlo] at h5
          rw [if_neg (by omega), if_pos hlo]
          split at h5
          · rw [if_pos (by omega), if_pos (by omega), if_pos (by simpa using h5)]
          · rw [if_pos (by omega), if_pos (by omega)]
            split
            · rfl
            · simpa using h5
        · rw [if_neg hlo] at h5
          by_cases hhi : u > y.hi
          · rw [if_pos hhi] at h5
            rw [if_pos (by omega), if_neg (by omega), if_neg hlo]
            split at h5
            · rw [if_pos (by omega), if_pos (by omega), if_pos (by simpa using h5)]
            · rw [if_pos (by omega), if_pos (by omega)]
              split
              · rfl
              · simpa using h5
          · rw [if_neg hhi] at h5
            rw [if_pos (by omega), if_pos (by omega), h5]
            simp
    · rw [if_pos (by simpa using hf), h1 hf]
      rfl
  by_cases he : e = 0
  · subst he
    have g := g rfl
    have hn := g.size
    have hn2 := g.n_le
    have ha1 := g.a1
    have ha2 := g.a2
    have hsp : dynamics_Split_p x s = if s < 0 then some (0, 0, 8) else if s ≥ ((nV x * x.advisories.length : Nat) : Int) then some (0, 0, 8) else some (Int.tdiv s (x.advisories.length : Int), Int.tmod s (x.advisories.length : Int), 0) := by
      unfold dynamics_Split_p
      rw [bnds hc, if_neg (by decide), bnds hn, grdT (by omega), grdT (by omega)]
      split
      · rfl
      split
      · rfl
      rename_i h1 h2
      have h3 : Int.tdiv s (x.advisories.length : Int) ≤ s := Int.tdiv_le_self _ (by omega)
      have h4 : 0 ≤ Int.tdiv s (x.advisories.length : Int) := Int.tdiv_nonneg (by omega) (by omega)
      rw [wi64 (by omega) (by omega)]
    rw [hsp]
    by_cases h1 : s < 0
    · rw [if_pos h1, Option.bind_some, lt, hJ]; rfl
    rw [if_neg h1]
    by_cases h2 : s ≥ ((nV x * x.advisories.length : Nat) : Int)
    · rw [if_pos h2, Option.bind_some, lt, hJ]; rfl
    rw [if_neg h2, Option.bind_some, lt, hJ, if_pos (by rfl)]
    obtain ⟨t, rfl⟩ := Int.eq_ofNat_of_zero_le (show 0 ≤ s by omega)
    have hd : Int.tdiv (t : Int) (x.advisories.length : Int) = ((t / x.advisories.length : Nat) : Int) := rfl
    have hm : Int.tmod (t : Int) (x.advisories.length : Int) = ((t % x.advisories.length : Nat) : Int) := rfl
    have hml : t % x.advisories.length < x.advisories.length := Nat.mod_lt _ ha1
    have hlt : t < nV x * x.advisories.length := by omega
    have hdl : t / x.advisories.length < nV x := Nat.div_lt_of_lt_mul (by rw [Nat.mul_comm]; exact hlt)
    have hnv := g.nV_le
    have heq : t / x.advisories.length * x.advisories.length + t % x.advisories.length = t := by rw [Nat.mul_comm]; exact Nat.div_add_mod t _
    simp only [hd, hm]
    clear hd hm hsp
    generalize t / x.advisories.length = q at *
    generalize t % x.advisories.length = m at *
    have hnum : dynamics_Number_p x (q : Int) (m : Int) = some ((t : Int), 0) := by
      unfold dynamics_Number_p
      have hq : Int.tdiv ((nV x * x.advisories.length : Nat) : Int) (x.advisories.length : Int) = ((nV x : Nat) : Int) := by
        show (((nV x * x.advisories.length) / x.advisories.length : Nat) : Int) = _
        rw [Nat.mul_div_cancel _ ha1]
      have hle : q * x.advisories.length ≤ t := by omega
      rw [known_p hc g, if_pos ⟨by omega, by omega⟩, Option.bind_some, if_neg (by decide), if_neg (by omega), bnds hn, grdT (by omega), hq, wi64 (x := ((nV x : Nat) : Int)) (by omega) (by omega), if_neg (by omega), ← Int.natCast_mul, wi64 (x := ((q * x.advisories.length : Nat) : Int)) (by omega) (by omega), ← Int.natCast_add, heq, wi64 (by omega) (by omega)]
    have hsz : dynamics_Size_p x = some (((nV x * x.advisories.length : Nat) : Int), 0) := by
      unfold dynamics_Size_p
      rw [bnds hc, if_neg (by decide), bnds hn]
    rw [bnds hnum, bnds hsz, if_neg (by simp), if_neg (by simp), if_neg (by simp), if_neg (by omega), if_neg (by omega), if_neg (by omega), if_neg (by omega)]
  · have hsp : dynamics_Split_p x s = some (0, 0, e) := by
      unfold dynamics_Split_p
      rw [bnds hc, if_pos (by simpa using he)]
    rw [hsp, Option.bind_some, lt, hJ]
    split
    · rename_i h; exact absurd (by simpa using h) he
    · rfl
end Go.Proofs.YtppalofalmieaaaGreat
namespace Go.Proofs.YtppalofalmieaaaGreat
open Go Go.Gv Go.ChangeShapes Go.WideShapes Go.ChangeAt Go.RowKit
theorem own_dynamicsResponds : ownKnob Tryz.prog.godebug = Option.none := by kernel_rfl
theorem laidOut_dynamicsResponds : laidOutB Tryz.prog = true := by kernel_rfl
set_option maxRecDepth 100000 in
theorem dynamicsResponds_lifted (os : Os) (started : os.Started) (H : Type) (enc : TypeId × Value → H) :
    ReturnsInHanded {} Tryz.checked os 6 .any (Rows.dynamicsRespondsSpec.pre6 enc Tryz.prog Tryz.f6 Rows.dynamicsRespondsRow.domain false) (Rows.dynamicsRespondsSpec.post enc Tryz.prog Tryz.f6 false true false false) := by
  refine returnsInHanded_of_change_sized (C := Tryz.checked) own_dynamicsResponds started (by kernel_rfl) Tryz.func6
    (ChangeSpec.witness6 (enc := enc) (C := Tryz.checked) false ⟨#[], #[.agg #[.slice none 0 0, .slice none 0 0, .slice none 0 0, .slice none 0 0, .int .i64 0, .int .i64 0, .int .i64 0, .slice none 0 0, .slice none 0 0, .bool false, .slice none 0 0, .slice none 0 0, .bool false, .slice none 0 0, .slice none 0 0, .bool false, .slice none 0 0, .slice none 0 0], .int .i64 0, .int .i64 0, .int .i64 0], []⟩ 8 (by kernel_rfl) (by kernel_rfl) (by kernel_rfl) (by kernel_rfl)) ?_
  intro W base args ds gs before hval0 hW hcnd hwt _
  have hval : ∀ (j : Nat) t v, Tryz.f6.params[j]? = some t → args[j]? = some v → Value.okWide Tryz.prog W .any base t v := hval0
  have hW' := hW
  obtain ⟨p, q, hA0, hV, rfl, hfz, hnd⟩ := hW
  have hA : DataW.TrodAll enc Tryz.prog W 0 (fun _ => true) true Tryz.f6.params.toList args.toList ds p := hA0
  rw [Tryz.params6] at hA hval
  obtain ⟨v0, v1, v2, v3, d0, d1, d2, d3, p0, p1, p2, p3, rfl, rfl, rfl, h0, h1, h2, h3⟩ := trodAllO_4 hA
  obtain ⟨rfl, rfl⟩ := trodVars_none hV
  have h0k := h0
  obtain ⟨x0, g0⟩ := open_model (hval 0 30 v0 rfl rfl) h0 (fun b off hm => hfz b off (by simp [hm])) (fun n hn => of_decide_eq_true (List.all_eq_true.1 hwt n (DataW.weights_mem_each (j := 0) (t := 30) (d := d0) (by kernel_rfl) rfl n hn)))
  have h1k := h1
  obtain ⟨z1, rfl, rfl, rfl, wz1⟩ := open_int Tryz.underlying3 (hval 1 3 v1 rfl rfl) h1
  have h2k := h2
  obtain ⟨z2, rfl, rfl, rfl, wz2⟩ := open_int Tryz.underlying3 (hval 2 3 v2 rfl rfl) h2
  have h3k := h3
  obtain ⟨z3, rfl, rfl, rfl, wz3⟩ := open_int Tryz.underlying3 (hval 3 3 v3 rfl rfl) h3
  clear hA0 hval0
  simp only [List.append_nil] at hW'
  refine (clearwaylaw24_DynamicsResponds_c W X0 (X0_lt _) x0 _ g0 z1 z2 z3 true (responds_p x0 z1 z2 z3)).mono ?_
  rintro e W' ⟨hu, v, rfl, rfl⟩
  have hb := Upd.below hu
  exact ⟨_, rfl, _, _, _, [] ++ [], _, [], hW', trodAll_mk1 (shut_bool (by kernel_rfl) true), (trodAllO_mk4 (Below.trod laidOut_dynamicsResponds (by kernel_rfl) (of_decide_eq_true (by kernel_rfl)) h0k hb (fun x hx => by simpa using hW'.lt x (by simp [hx]))) (shut_int Tryz.underlying3 wz1) (shut_int Tryz.underlying3 wz2) (shut_int Tryz.underlying3 wz3)), rfl, hb.frame _, fun h => by cases h⟩
theorem dynamicsResponds_holds : Rows.DynamicsRespondsSaid :=
  OpenClaim.holds_of_wide 6 Tryz.f6 rfl rfl rfl rfl rfl rfl rfl ⟨rfl, rfl, rfl, rfl, rfl⟩ rfl rfl rfl rfl rfl (by kernel_rfl) Tryz.func6 (by kernel_rfl)
    (of_decide_eq_true (by kernel_rfl)) (by unfold Func.isWrapper; first | (rw [if_pos (by decide +kernel)]; kernel_rfl) | (rw [if_neg (by decide +kernel)]; exact ⟨rfl, rfl⟩))
    (fun os started H enc _ => dynamicsResponds_lifted os started H enc)
end Go.Proofs.YtppalofalmieaaaGreat

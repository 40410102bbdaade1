/- Parts of the proof: P11. By an AI agent. -/
import Derived.Test.YtjnbipmlmafahaaGreatBaseA
import Derived.Test.YtjnbipmlmafahaaGreatBaseB
import Derived.Test.YtjnbipmlmafahaaGreatBaseC
import Derived.Test.YtjnbipmlmafahaaGreatBaseD
import Derived.Test.YtjnbipmlmafahaaGreatBaseE
set_option linter.unusedVariables false
set_option linter.unusedSimpArgs false
set_option linter.unnecessarySimpa false
/- DynamicsValid as plain Lean. By an AI agent. -/
namespace Go.Proofs.YtjnbipmlmafahaaGreat
open Go Go.Gv Go.RowKit
set_option maxRecDepth 100000
set_option maxHeartbeats 1000000
theorem opR_chk (a b : Raw) (z : Rat) : (opR a b z).chk = 0 := by
  unfold opR
  split
  · rename_i h
    exact Raw.of_chk (or2_zero (x := or2 a.chk b.chk) (y := ratE z) h).2
  · rfl
theorem known_lV {x : ModelD} (hc : dynamics_Check_p x = some 0) (g : Good x) (l : List Int) : dynamics_known_p x l = some (if inS 0 ((x.advisories.length : Int) - 1) l = true then 0 else 8) := by
  have h1 := g.a1
  have h2 := g.a2
  unfold dynamics_known_p
  rw [bnds hc, if_neg (by decide), wi64 (by omega) (by omega), has_p, Option.bind_some]
  cases inS 0 ((x.advisories.length : Int) - 1) l <;> simp
theorem ip2 {p : Prop} [Decidable p] {A B : Option (Raw × Int)} (h : ∃ c, A = some (c, 0) ∧ c.chk = 0) (k : ∃ c, B = some (c, 0) ∧ c.chk = 0) : ∃ c, (if p then A else B) = some (c, 0) ∧ c.chk = 0 := by
  by_cases hp : p
  · rw [if_pos hp]; exact h
  · rw [if_neg hp]; exact k
theorem cost_ok {x : ModelD} (hc : dynamics_Check_p x = some 0) (g : Good x) {a b : Int} (ha : 0 ≤ a ∧ a < (x.advisories.length : Int)) (hb : 0 ≤ b ∧ b < (x.advisories.length : Int)) : ∃ c, dynamics_Cost_p x a b = some (c, 0) ∧ c.chk = 0 := by
  have hk : inS 0 ((x.advisories.length : Int) - 1) [a, b] = true := inS_iff.2 fun z hz => by
    rcases List.mem_cons.1 hz with rfl | hz
    · omega
    · rw [List.mem_singleton.1 hz]; omega
  obtain ⟨i, rfl⟩ := Int.eq_ofNat_of_zero_le ha.1
  obtain ⟨j, rfl⟩ := Int.eq_ofNat_of_zero_le hb.1
  unfold dynamics_Cost_p
  rw [known_lV hc g, Option.bind_some, if_pos hk, if_neg (by decide), bnds (ixT (k := i) rfl (List.getElem?_eq_getElem (by omega))), bnds (ixT (k := j) rfl (List.getElem?_eq_getElem (by omega)))]
  simp only [lt, rat_Add_p, Option.bind_some]
  have z : Raw.zero.chk = 0 := rfl
  repeat' first | exact ⟨_, rfl, opR_chk _ _ _⟩ | exact ⟨_, rfl, z⟩ | apply ip2
/-- An action that Build makes. -/
def ActOK (x : ModelD) (a h u v : Int) (j : Nat) (act : Actn) : Prop := (∃ c, dynamics_Cost_p x a (j : Int) = some (c, 0) ∧ c.chk = 0 ∧ act.cost = c) ∧ ∃ r, SpOK x h u v (j : Int) r ∧ act.next = outs x h u v (j : Int) r
def StOK (x : ModelD) (i : Nat) (st : List Actn) : Prop := st.length = x.advisories.length ∧ ∀ j act, st[j]? = some act → ActOK x ((i % x.advisories.length : Nat) : Int) (f0 x (i / x.advisories.length)) (f1 x (i / x.advisories.length)) (f2 x (i / x.advisories.length)) j act
theorem snoc_get {α : Type} {l : List α} {x y : α} {i : Nat} (h : (l ++ [x])[i]? = some y) : l[i]? = some y ∨ (i = l.length ∧ y = x) := by
  rw [List.getElem?_append] at h
  split at h
  · exact .inl h
  · rename_i hi
    obtain ⟨h1, h2⟩ := List.getElem?_eq_some_iff.1 h
    simp at h1
    have : i - l.length = 0 := by omega
    refine .inr ⟨by omega, ?_⟩
    rw [← h2]
    simp [this]
theorem b44 {x : ModelD} (hl : LimM x) (f : Full x) {a h u v : Int} (ha : 0 ≤ a ∧ a < (x.advisories.length : Int)) (hh : -100000 ≤ h ∧ h ≤ 100000) (hu : -100 ≤ u ∧ u ≤ 100) (hv : -100 ≤ v ∧ v ≤ 100) {y25 : Int × Int × Int} {y31 : List Int × Int} (hy : y25.2.1 = a) (hp : y31.1 = [h, u, v]) (J : List Actn → Option (Mdp × Int)) :
    ∀ (l : List BoundsD) (k : Nat) (acc : List Actn), l = x.advisories.drop k → k ≤ x.advisories.length → acc.length = k → (∀ i act, acc[i]? = some act → ActOK x a h u v i act) →
    (∃ e, e ≠ 0 ∧ dynamics_Build_l44 x y25 y31 J l k acc = some (Mdp.mk Raw.zero [], e)) ∨ ∃ acts, dynamics_Build_l44 x y25 y31 J l k acc = J acts ∧ acts.length = x.advisories.length ∧ ∀ i act, acts[i]? = some act → ActOK x a h u v i act
  | [], k, acc, hk, hle, hac, hok => by
    have : x.advisories.length ≤ k := by have := congrArg List.length hk; simp at this; omega
    exact .inr ⟨acc, by rw [dynamics_Build_l44], by omega, hok⟩
  | y :: l, k, acc, hk, hle, hac, hok => by
    obtain ⟨hkl, hr⟩ := drop_cons hk
    obtain ⟨hc, g⟩ := f.good hl
    have hb : 0 ≤ (k : Int) ∧ (k : Int) < (x.advisories.length : Int) := by omega
    obtain ⟨c, c1, c2⟩ := cost_ok hc g ha hb
    obtain ⟨r, r1, _⟩ := resp_bd f g hb hu
    have E := f.env hl hh hu hv hb r1
    have a2 := f.a2
    rw [dynamics_Build_l44, hy, hp, bnds c1, bnds (ixT (i := (0 : Int)) (k := 0) (x := h) rfl rfl), bnds (ixT (i := (1 : Int)) (k := 1) (x := u) rfl rfl), bnds (ixT (i := (2 : Int)) (k := 2) (x := v) rfl rfl), bnds (spread_spec E)]
    by_cases hs : (sums x h u v (k : Int) r).length ≤ 64
    · rw [if_neg (show ¬ (((sums x h u v (k : Int) r).length : Int) > 64) by omega), if_neg (by simp), grdT (by omega)]
      refine b44 hl f ha hh hu hv hy hp J l (k + 1) _ hr (by omega) (by simp [hac]) fun i act hi => ?_
      rcases snoc_get hi with hi | ⟨rfl, rfl⟩
      · exact hok i act hi
      · rw [hac]
        exact ⟨⟨c, c1, c2, rfl⟩, r, ⟨f, hh, hu, hv, hb, r1, hs⟩, rfl⟩
    · rw [if_pos (show ((sums x h u v (k : Int) r).length : Int) > 64 by omega), if_pos (by decide)]
      exact .inl ⟨10, by decide, rfl⟩
theorem f1_rng {x : ModelD} (f : Full x) (w : Nat) : -100 ≤ f1 x w ∧ f1 x w ≤ 100 := by
  have h := f.go.n1
  have hlt : w / x.other.length % x.own.length < x.own.length := Nat.mod_lt _ (by omega)
  unfold f1
  rw [List.getD_eq_getElem?_getD, List.getElem?_eq_getElem hlt]
  exact f.bo _ (List.getElem_mem _)
theorem f2_rng {x : ModelD} (f : Full x) (w : Nat) : -100 ≤ f2 x w ∧ f2 x w ≤ 100 := by
  have h := f.gt.n1
  have hlt : w % x.other.length < x.other.length := Nat.mod_lt _ (by omega)
  unfold f2
  rw [List.getD_eq_getElem?_getD, List.getElem?_eq_getElem hlt]
  exact f.bt _ (List.getElem_mem _)
theorem env0 {x : ModelD} (hl : LimM x) (f : Full x) : ∃ r, Env x 0 0 0 0 r := by
  obtain ⟨_, g⟩ := f.good hl
  have hb : 0 ≤ (0 : Int) ∧ (0 : Int) < (x.advisories.length : Int) := by have := f.a1; omega
  obtain ⟨r, r1, _⟩ := resp_bd f g hb (u := 0) (by omega)
  exact ⟨r, f.env hl (by omega) (by omega) (by omega) hb r1⟩
/-- Where a state lies. -/
theorem state_split {x : ModelD} (hl : LimM x) (f : Full x) {k : Nat} (hk : k < nV x * x.advisories.length) : dynamics_Split_p x (k : Int) = some (((k / x.advisories.length : Nat) : Int), ((k % x.advisories.length : Nat) : Int), 0) ∧ k / x.advisories.length < nV x ∧ k % x.advisories.length < x.advisories.length := by
  obtain ⟨hc, g⟩ := f.good hl
  have a1 := f.a1
  have hm : k % x.advisories.length < x.advisories.length := Nat.mod_lt _ a1
  have hd : k / x.advisories.length < nV x := Nat.div_lt_of_lt_mul (by rw [Nat.mul_comm]; exact hk)
  have e : keyZ x.advisories.length ((k % x.advisories.length : Nat) : Int) (k / x.advisories.length) = (k : Int) := by
    unfold keyZ
    have := Nat.div_add_mod k x.advisories.length
    rw [Nat.mul_comm] at this
    omega
  have := split_keyM hc g (b := ((k % x.advisories.length : Nat) : Int)) (w := k / x.advisories.length) hd (by omega)
  rw [e] at this
  exact ⟨this, hd, hm⟩
theorem b22 {x : ModelD} (hl : LimM x) (f : Full x) (J : List (List Actn) → Option (Mdp × Int)) : ∀ (r k : Nat) (acc : List (List Actn)), r + k = nV x * x.advisories.length → acc.length = k → (∀ i st, acc[i]? = some st → StOK x i st) →
    (∃ e, e ≠ 0 ∧ dynamics_Build_l22 x J r k acc = some (Mdp.mk Raw.zero [], e)) ∨ ∃ sts, dynamics_Build_l22 x J r k acc = J sts ∧ sts.length = nV x * x.advisories.length ∧ ∀ i st, sts[i]? = some st → StOK x i st
  | 0, k, acc, hk, hac, hok => .inr ⟨acc, by rw [dynamics_Build_l22], by omega, hok⟩
  | r + 1, k, acc, hk, hac, hok => by
    obtain ⟨hc, g⟩ := f.good hl
    obtain ⟨s1, s2, s3⟩ := state_split hl f (k := k) (by omega)
    obtain ⟨r0, E⟩ := env0 hl f
    obtain ⟨p1, p2, _, _⟩ := point_f E s2
    have hn := g.n_le
    rw [dynamics_Build_l22, bnds s1, show dynamics_grid_p x = some [x.height, x.own, x.other] from rfl, Option.bind_some, bnds p1, lt, List.drop_zero]
    rcases b44 hl f (a := ((k % x.advisories.length : Nat) : Int)) (h := f0 x (k / x.advisories.length)) (u := f1 x (k / x.advisories.length)) (v := f2 x (k / x.advisories.length)) (by omega) (by omega) (f1_rng f _) (f2_rng f _) (y25 := (((k / x.advisories.length : Nat) : Int), ((k % x.advisories.length : Nat) : Int), 0)) (y31 := ([f0 x (k / x.advisories.length), f1 x (k / x.advisories.length), f2 x (k / x.advisories.length)], 0)) rfl rfl
      (fun (v33_0 : List Actn) => grd ((acc.length + 1) * 24 ≤ 140737488355328) <| dynamics_Build_l22 x J r (k + 1) (acc ++ [v33_0])) x.advisories 0 [] List.drop_zero.symm (Nat.zero_le _) rfl (by simp) with ⟨e, h1, h2⟩ | ⟨acts, h1, h2, h3⟩
    · exact .inl ⟨e, h1, h2⟩
    · rw [h1, grdT (by omega)]
      refine b22 hl f J r (k + 1) _ (by omega) (by simp [hac]) fun i st hi => ?_
      rcases snoc_get hi with hi | ⟨rfl, rfl⟩
      · exact hok i st hi
      · rw [hac]; exact ⟨h2, h3⟩
theorem build_ok {x : ModelD} (hl : LimM x) (f : Full x) : (∃ e, e ≠ 0 ∧ dynamics_Build_p x = some (Mdp.mk Raw.zero [], e)) ∨ ∃ sts, dynamics_Build_p x = some (Mdp.mk (Raw.of 1) sts, 0) ∧ sts.length = nV x * x.advisories.length ∧ ∀ i st, sts[i]? = some st → StOK x i st := by
  obtain ⟨hc, g⟩ := f.good hl
  unfold dynamics_Build_p
  rw [bnds hc, if_neg (by decide), bnds (from_fit (z := 1) (by decide) (by decide)), lt, bnds g.size, Int.toNat_natCast, Nat.sub_zero]
  rcases b22 hl f (fun (v15_0 : List (List Actn)) => some ((Mdp.mk (Raw.of ((1 : Int) : Rat)) v15_0), 0)) (nV x * x.advisories.length) 0 [] (by omega) rfl (by simp) with ⟨e, h1, h2⟩ | ⟨sts, h1, h2, h3⟩
  · exact .inl ⟨e, h1, h2⟩
  · exact .inr ⟨sts, h1, h2, h3⟩
/-! ### The process is valid -/
section
variable {x : ModelD} {h u v b r : Int}
theorem ca36 (hl : LimM x) (s : SpOK x h u v b r) (c : Raw) (J : Option Int) : ∀ (l : List Out) (k : Nat), l = (outs x h u v b r).drop k → mdp_checkAction_l36 (Actn.mk c (outs x h u v b r)) ((nV x * x.advisories.length : Nat) : Int) J l k = J
  | [], k, _ => by rw [mdp_checkAction_l36]
  | o :: l, k, hk => by
    obtain ⟨hkl, hr⟩ := drop_cons hk
    have ho : (outs x h u v b r)[k]? = some o := by
      have := congrArg List.head? hk
      rw [List.head?_drop] at this
      exact this.symm
    have hm := List.mem_of_getElem? ho
    have E := s.f.env hl s.hh s.hu s.hv s.hb s.hr
    have h64 := outs_le s
    obtain ⟨g1, g2⟩ := outs_rng hl s hm
    have q0 := prob_gt E s.f hm
    obtain ⟨q1, q2⟩ := of_gt q0
    have q3 := Raw.of_chk (prob_fit E o)
    have ih := ca36 hl s c J l (k + 1) hr
    rw [mdp_checkAction_l36, lt, lt, if_neg (by omega), outs_p hm]
    have hd : decide (o.to ≥ ((nV x * x.advisories.length : Nat) : Int)) = false := by simp; omega
    have tail : ((rat_Check_p (Raw.of (prob x h u v b r o))).bind fun y44 => if ((y44) != 0) = true then (some y44) else (if (Raw.of (prob x h u v b r o)).neg = true then (some 1) else (if (((Raw.of (prob x h u v b r o)).ln.length : Int) == 0) = true then (some 1) else (mdp_checkAction_l36 (Actn.mk c (outs x h u v b r)) ((nV x * x.advisories.length : Nat) : Int) J l (k + 1))))) = J := by
      unfold rat_Check_p
      rw [q3, Option.bind_some, if_neg (by decide), if_neg (by rw [q1]; decide), if_neg (len_ne.2 q2), ih]
    rw [hd]
    show (if (k : Int) > 0 then _ else _) = J
    by_cases h0 : (k : Int) > 0
    · rw [if_pos h0]
      have hp : (outs x h u v b r)[k - 1]? = some (outs x h u v b r)[k - 1] := List.getElem?_eq_getElem (by omega)
      have hlt : ((outs x h u v b r)[k - 1]).to < o.to := by
        obtain ⟨hkk, e⟩ := List.getElem?_eq_some_iff.1 ho
        rw [← e]
        exact List.pairwise_iff_getElem.1 outs_asc (k - 1) k (by omega) hkk (by omega)
      rw [bnds (ixT (k := k - 1) (by rw [wi64 (by omega) (by omega)]; omega) hp), if_neg (by omega)]
      exact tail
    · rw [if_neg h0]
      exact tail
theorem ca24 (hl : LimM x) (s : SpOK x h u v b r) (J : Raw → Option Int) : ∀ (l q : List Out), outs x h u v b r = q ++ l → mdp_checkAction_l24 J l (Raw.of (osum x h u v b r (fun _ => 1) q)) = J (Raw.of 1)
  | [], q, e => by rw [mdp_checkAction_l24, ← outs_one hl s, e, List.append_nil]
  | o :: l, q, e => by
    rw [mdp_checkAction_l24, bnds (osum_step hl s e), if_neg (by simp)]
    exact ca24 hl s J l (q ++ [o]) (by rw [e]; simp)
theorem ca_ok (hl : LimM x) (s : SpOK x h u v b r) {c : Raw} (hc : c.chk = 0) : mdp_checkAction_p (Actn.mk c (outs x h u v b r)) ((nV x * x.advisories.length : Nat) : Int) = some 0 := by
  have h64 := outs_le s
  unfold mdp_checkAction_p rat_Check_p
  simp only [List.drop_zero]
  rw [hc, Option.bind_some, if_neg (by decide), if_neg (len_ne.2 (outs_ne hl s)), if_neg (by omega), lt, lt, ca36 hl s c _ _ 0 List.drop_zero.symm]
  rw [show Raw.zero = Raw.of (osum x h u v b r (fun _ => 1) []) from of0.symm, ca24 hl s _ (outs x h u v b r) [] rfl, bnds (from_fit (z := 1) (by decide) (by decide)), cmp1 (by decide)]
end
theorem mc_ok {x : ModelD} (hl : LimM x) (f : Full x) {sts : List (List Actn)} (h1 : sts.length = nV x * x.advisories.length) (h2 : ∀ i st, sts[i]? = some st → StOK x i st) : mdp_Check_p (Mdp.mk (Raw.of 1) sts) = some 0 := by
  have fit1 : ratE (1 : Rat) = 0 := by decide
  have hn := f.n
  have a1 := f.a1
  have a2 := f.a2
  have g1 := f.gh.n1; have g2 := f.go.n1; have g3 := f.gt.n1
  have hpos : 0 < nV x * x.advisories.length := Nat.mul_pos (Nat.mul_pos (Nat.mul_pos g1 g2) g3) a1
  have hn2 : nV x * x.advisories.length ≤ 200 := hn
  have l28 : ∀ (J : Option Int) (l : List Actn), (∀ act ∈ l, ∃ a h u v j, ActOK x a h u v j act) → mdp_Check_l28 (Mdp.mk (Raw.of 1) sts) J l = J := by
    intro J l
    induction l with
    | nil => intro _; rw [mdp_Check_l28]
    | cons act l ih =>
      intro hok
      obtain ⟨a, h, u, v, j, ⟨c, _, c2, c3⟩, r, s, e⟩ := hok act (by simp)
      obtain ⟨cost, next⟩ := act
      simp only at c3 e
      subst c3 e
      rw [mdp_Check_l28, h1, ca_ok hl s c2, Option.bind_some, if_neg (by decide)]
      exact ih fun b hb => hok b (by simp [hb])
  have l21 : ∀ (l : List (List Actn)), (∀ st ∈ l, ∃ i, StOK x i st) → mdp_Check_l21 (Mdp.mk (Raw.of 1) sts) (some 0) l = some 0 := by
    intro l
    induction l with
    | nil => intro _; rw [mdp_Check_l21]
    | cons st l ih =>
      intro hok
      obtain ⟨i, k1, k2⟩ := hok st (by simp)
      rw [mdp_Check_l21, lt, if_neg (len_ne.2 fun e => by rw [e] at k1; simp at k1; omega), if_neg (by omega), List.drop_zero, l28]
      · exact ih fun b hb => hok b (by simp [hb])
      · intro act hact
        obtain ⟨j, hj⟩ := List.getElem?_of_mem hact
        exact ⟨_, _, _, _, j, k2 j act hj⟩
  unfold mdp_Check_p rat_Check_p
  rw [show (Mdp.mk (Raw.of 1) sts).disc = Raw.of 1 from rfl, Raw.of_chk fit1, Option.bind_some, if_neg (by decide), bnds (from_fit (z := 1) (by decide) (by decide))]
  have hcmp : rat_Cmp_p (Raw.of 1) (Raw.of ((1 : Int) : Rat)) = some (0, 0) := by decide +kernel
  rw [hcmp, Option.bind_some, if_neg (by decide), if_neg (by decide), if_neg (len_ne.2 fun e => by have e : sts = [] := e; subst e; simp at h1; omega), if_neg (show ¬ ((sts.length : Int) > 200) by omega), lt, List.drop_zero]
  refine l21 sts fun st hst => ?_
  obtain ⟨i, hi⟩ := List.getElem?_of_mem hst
  exact ⟨i, h2 i st hi⟩
theorem eqO_refl (l : List Out) : clearwaykit_EqualOutcomes_p l l = some true := by
  have go : ∀ (r : List Out) (k : Nat), r = l.drop k → clearwaykit_EqualOutcomes_l5 l (some true) r k = some true := by
    intro r
    induction r with
    | nil => intro k _; rw [clearwaykit_EqualOutcomes_l5]
    | cons o r ih =>
      intro k hk
      obtain ⟨hkl, hr⟩ := drop_cons hk
      have ho : l[k]? = some o := by
        have := congrArg List.head? hk
        rw [List.head?_drop] at this
        exact this.symm
      rw [clearwaykit_EqualOutcomes_l5, bnds (ixT rfl ho)]
      unfold clearwaykit_EqualOutcome_p clearwaykit_EqualRat_p
      rw [if_pos (by simp), Option.bind_some, Option.bind_some, if_neg (by simp)]
      exact ih (k + 1) hr
  unfold clearwaykit_EqualOutcomes_p
  rw [if_neg (by simp), lt, List.drop_zero]
  exact go l 0 List.drop_zero.symm
theorem large_tot (x : ModelD) : ∃ b, clearwaylaw24_Large_p x = some b := by
  obtain ⟨lg, hlg⟩ := long24 x
  unfold clearwaylaw24_Large_p
  rw [Option.bind_some, bnds hlg]
  have ti : ∀ {p : Prop} [Decidable p] {A B : Option Bool}, (∃ c, A = some c) → (∃ c, B = some c) → ∃ c, (if p then A else B) = some c := fun {p} _ {A B} h k => by
    by_cases hp : p
    · rw [if_pos hp]; exact h
    · rw [if_neg hp]; exact k
  simp only [Option.bind_some]
  repeat' first | exact ⟨_, rfl⟩ | apply ti
theorem v96 {x : ModelD} {sts : List (List Actn)} (h1 : sts.length = nV x * x.advisories.length) (h2 : ∀ i st, sts[i]? = some st → StOK x i st) (d : Raw) (e : Int) (J : Option Bool) : ∀ (r k : Nat), r + k = sts.length → clearwaylaw24_DynamicsValid_l96 x (Mdp.mk d sts, e) J r k = J
  | 0, k, _ => by rw [clearwaylaw24_DynamicsValid_l96]
  | r + 1, k, hk => by
    have hg : sts[k]? = some sts[k] := List.getElem?_eq_getElem (by omega)
    have := (h2 k _ hg).1
    rw [clearwaylaw24_DynamicsValid_l96]
    show ((ix sts (k : Int)).bind _) = _
    rw [bnds (ixT rfl hg), if_neg (by simp [this])]
    exact v96 h1 h2 d e J r (k + 1) (by omega)
theorem valid_law (x : ModelD) (hl : LimM x) (s b : Int) : clearwaylaw24_DynamicsValid_p x s b = some true := by
  obtain ⟨lg, hlg⟩ := large_tot x
  unfold clearwaylaw24_DynamicsValid_p
  rw [bnds hlg, awake_p]
  by_cases hg : lg = true
  · rw [if_pos hg]; rfl
  rw [if_neg hg, Option.bind_some, if_neg (by decide)]
  have eqz : clearwaykit_EqualMDP_p (Mdp.mk Raw.zero []) (Mdp.mk Raw.zero []) = some true := by decide +kernel
  obtain ⟨ec, hc0, _⟩ := check_p x
  by_cases hz : ec = 0
  · subst hz
    have f := (check_iff x hl).1 hc0
    obtain ⟨hc, g⟩ := f.good hl
    rcases build_ok hl f with ⟨e, h1, h2⟩ | ⟨sts, h1, h2, h3⟩
    · rw [bnds h2, if_pos (by simpa using h1), bnds eqz]
    · have hsz : dynamics_Size_p x = some (((nV x * x.advisories.length : Nat) : Int), 0) := by
        unfold dynamics_Size_p
        rw [bnds hc, if_neg (by decide), bnds g.size]
      rw [bnds h1, if_neg (by simp), bnds hsz, bnds (mc_ok hl f h2 h3), if_neg (by decide), if_neg (by simp), if_neg (by simp [h2]), bnds (from_fit (z := 1) (by decide) (by decide))]
      unfold clearwaykit_EqualRat_p
      rw [Option.bind_some, if_neg (by simp), lt, Int.toNat_natCast, Nat.sub_zero, v96 h2 h3 _ _ _ _ 0 (by omega)]
      by_cases hs : 0 ≤ s ∧ s < ((nV x * x.advisories.length : Nat) : Int)
      · obtain ⟨k, rfl⟩ := Int.eq_ofNat_of_zero_le hs.1
        obtain ⟨s1, s2, s3⟩ := state_split hl f (k := k) (by omega)
        obtain ⟨r0, E⟩ := env0 hl f
        obtain ⟨p1, p2, _, _⟩ := point_f E s2
        rw [bnds s1, if_neg (by simp)]
        by_cases hb0 : b < 0
        · rw [if_pos hb0]
        rw [if_neg hb0]
        by_cases hb1 : b ≥ (x.advisories.length : Int)
        · rw [if_pos hb1]
        rw [if_neg hb1, bnds p1, if_neg (by simp), if_neg (by simp), bnds (ixT (i := (0 : Int)) (k := 0) (x := f0 x (k / x.advisories.length)) rfl rfl), bnds (ixT (i := (1 : Int)) (k := 1) (x := f1 x (k / x.advisories.length)) rfl rfl), bnds (ixT (i := (2 : Int)) (k := 2) (x := f2 x (k / x.advisories.length)) rfl rfl)]
        obtain ⟨j, rfl⟩ := Int.eq_ofNat_of_zero_le (show 0 ≤ b by omega)
        have hst : sts[k]? = some sts[k] := List.getElem?_eq_getElem (by omega)
        obtain ⟨k1, k2⟩ := h3 k _ hst
        have hact : (sts[k])[j]? = some (sts[k])[j] := List.getElem?_eq_getElem (by omega)
        obtain ⟨⟨c, c1, _, c3⟩, r, sp, e⟩ := k2 j _ hact
        rw [bnds (Spread_ok hl sp), bnds c1, if_pos (by simp), if_pos (by simp)]
        show ((ix sts (k : Int)).bind _) = _
        rw [bnds (ixT rfl hst), bnds (ixT rfl hact), e, c3]
        show ((clearwaykit_EqualOutcomes_p (outs x _ _ _ _ r) (outs x _ _ _ _ r)).bind _) = _
        rw [bnds (eqO_refl _), if_pos rfl]
        simp
      · have hsp : dynamics_Split_p x s = some (0, 0, 8) := by
          unfold dynamics_Split_p
          rw [bnds hc, if_neg (by decide)]
          by_cases h0 : s < 0
          · rw [if_pos h0]
          · rw [if_neg h0, bnds g.size, if_pos (by omega)]
        rw [bnds hsp, if_pos (by simp)]
  · have hb : dynamics_Build_p x = some (Mdp.mk Raw.zero [], ec) := by
      unfold dynamics_Build_p
      rw [bnds hc0, if_pos (by simpa using hz)]
    rw [bnds hb, if_pos (by simpa using hz), bnds eqz]
end Go.Proofs.YtjnbipmlmafahaaGreat

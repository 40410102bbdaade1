/- Parts of the proof: P2 P3 Q1 Q2 Q3 Q4 P4 P5 P7 HxF A11 P8 A12 P9. By an AI agent. -/
import Derived.OrdersIn
import Derived.LoopNIn
import Derived.Test.YtjnbipmlmafahaaGreatBaseA
import Derived.Test.YtjnbipmlmafahaaGreatBaseB
import Derived.Test.YtjnbipmlmafahaaGreatBaseC
import Derived.Test.YtjnbipmlmafahaaGreatBaseD
set_option linter.unusedVariables false
set_option linter.unusedSimpArgs false
set_option linter.unnecessarySimpa false
/- What Check answers, in plain words. By an AI agent. -/
namespace Go.Proofs.YtjnbipmlmafahaaGreat
open Go Go.Gv Go.RowKit
set_option maxRecDepth 100000
set_option maxHeartbeats 1000000
theorem bnds {α β : Type} {o : Option α} {a : α} {f : α → Option β} (h : o = some a) : o.bind f = f a := by subst h; rfl
/-- The first answers; where it answers 0 the second does too. -/
def Z0 (o J : Option Int) : Prop := ∃ e, o = some e ∧ (e = 0 → J = some 0)
theorem Z0.self {J : Option Int} (h : ∃ e, J = some e) : Z0 J J := h.elim fun e he => ⟨e, he, fun h => h ▸ he⟩
theorem Z0.nz {e : Int} {J : Option Int} (h : e ≠ 0) : Z0 (some e) J := ⟨e, rfl, fun h' => absurd h' h⟩
theorem Z0.trans {o J K : Option Int} (h : Z0 o J) (k : Z0 J K) : Z0 o K := by
  obtain ⟨e, h1, h2⟩ := h
  obtain ⟨f, k1, k2⟩ := k
  exact ⟨e, h1, fun h => k2 (by have := h2 h; rw [k1] at this; exact Option.some.inj this)⟩
theorem grdT {p : Prop} [Decidable p] {α : Type} {x : Option α} (h : p) : grd p x = x := if_pos h
theorem ixT {α : Type} {l : List α} {i : Int} {k : Nat} {x : α} (hi : i = (k : Int)) (h : l[k]? = some x) : ix l i = some x := by
  subst hi
  unfold ix
  rw [if_pos (Int.natCast_nonneg k)]
  simpa using h
theorem has1 (z : Int) (s : SpanD) : dynamics_span_has_1_p z s = some (decide (z < s.lo) || decide (z > s.hi)) := by
  unfold dynamics_span_has_1_p
  split
  · rename_i h; simp [h]
  · rename_i h; simp [h]
theorem idxf (s : SpanD) : ∀ (l : List Int) (k : Nat), ∃ r, slices_IndexFunc_int_int_sdynamics_span_has_1_l4 s (some (-1)) l k = some r ∧ (decide (r ≥ 0) = l.any fun z => decide (z < s.lo) || decide (z > s.hi))
  | [], k => ⟨-1, by simp [slices_IndexFunc_int_int_sdynamics_span_has_1_l4], by simp⟩
  | z :: l, k => by
    obtain ⟨r, h1, h2⟩ := idxf s l (k + 1)
    rw [slices_IndexFunc_int_int_sdynamics_span_has_1_l4, bnds (has1 z s), List.any_cons]
    cases hz : (decide (z < s.lo) || decide (z > s.hi))
    · exact ⟨r, by simpa using h1, by simpa using h2⟩
    · exact ⟨k, by simp, by simp⟩
def inS (lo hi : Int) (l : List Int) : Bool := l.all fun z => decide (lo ≤ z) && decide (z ≤ hi)
theorem inS_iff {lo hi : Int} {l : List Int} : inS lo hi l = true ↔ ∀ z ∈ l, lo ≤ z ∧ z ≤ hi := by simp [inS]
theorem has_p (lo hi : Int) (l : List Int) : dynamics_span_has_p ⟨lo, hi⟩ l = some (inS lo hi l) := by
  obtain ⟨r, h1, h2⟩ := idxf ⟨lo, hi⟩ l 0
  unfold dynamics_span_has_p slices_ContainsFunc_int_int_sdynamics_span_has_1_p slices_IndexFunc_int_int_sdynamics_span_has_1_p
  simp only [lt, List.drop_zero, h1, Option.bind_some, h2, Option.some.injEq]
  rw [List.not_any_eq_all_not, inS]
  congr 1
  funext z
  by_cases h3 : z < lo <;> by_cases h4 : z > hi <;> simp [h3, h4] <;> omega
theorem within1 (l : List Int) (m : Int) (hm : IntKind.i64.wrap (0 - m) = -m) : dynamics_within_1_p l m = some (inS (-m) m l) := by
  unfold dynamics_within_1_p
  rw [hm, has_p]
  rfl
/-! ### The grid -/
theorem drop_cons {α : Type} {l r : List α} {x : α} {k : Nat} (h : x :: r = l.drop k) : k < l.length ∧ r = l.drop (k + 1) := by
  constructor
  · apply Classical.byContradiction
    intro hk
    rw [List.drop_eq_nil_of_le (by omega)] at h
    cases h
  · rw [← List.tail_drop, ← h]; rfl
theorem iCheck17 (x : List Int) (J : Option Int) (hx : x.length ≤ 32) (hJ : ∃ e, J = some e) : ∀ (l : List Int) (k : Nat), l = x.drop k → Z0 (interp_Check_l17 x J l k) J
  | [], k, _ => by rw [interp_Check_l17]; exact Z0.self hJ
  | z :: l, k, h => by
    obtain ⟨hk, hr⟩ := drop_cons h
    have ih := iCheck17 x J hx hJ l (k + 1) hr
    rw [interp_Check_l17]
    split
    · exact Z0.nz (by decide)
    split
    · exact Z0.nz (by decide)
    split
    · rename_i h0
      obtain ⟨q, hq⟩ : ∃ q, x[k - 1]? = some q := ⟨x[k - 1]'(by omega), by simp⟩
      rw [bnds (ixT (k := k - 1) (by rw [wi64 (by omega) (by omega)]; omega) hq)]
      split
      · exact Z0.nz (by decide)
      · exact ih
    · exact ih
theorem iCheck10 (J : Option Int) (hJ : ∃ e, J = some e) : ∀ l : List (List Int), ∃ e, interp_Check_l10 J l = some e ∧ (e = 0 → J = some 0 ∧ ∀ x ∈ l, 1 ≤ x.length ∧ x.length ≤ 32)
  | [] => by
    obtain ⟨e, he⟩ := hJ
    exact ⟨e, by rw [interp_Check_l10]; exact he, fun h => ⟨h ▸ he, fun _ h => by cases h⟩⟩
  | x :: l => by
    obtain ⟨e, h1, h2⟩ := iCheck10 J hJ l
    rw [interp_Check_l10, lt]
    split
    · exact ⟨3, rfl, fun h => by cases h⟩
    rename_i h3
    split
    · exact ⟨4, rfl, fun h => by cases h⟩
    rename_i h4
    have hx : x.length ≤ 32 := by omega
    have h0 : 1 ≤ x.length := by
      rcases Nat.eq_zero_or_pos x.length with h | h
      · rw [h] at h3; exact absurd rfl h3
      · exact h
    obtain ⟨e', h5, h6⟩ := iCheck17 x (interp_Check_l10 J l) hx ⟨e, h1⟩ (x.drop 0) 0 rfl
    refine ⟨e', h5, fun h => ?_⟩
    have h7 := h6 h
    rw [h1] at h7
    obtain ⟨h8, h9⟩ := h2 (Option.some.inj h7)
    exact ⟨h8, fun y hy => by
      rcases List.mem_cons.1 hy with rfl | hy
      · exact ⟨h0, hx⟩
      · exact h9 y hy⟩
theorem isize3 (a b c : List Int) : interp_size_p [a, b, c] = some (IntKind.i64.wrap (IntKind.i64.wrap (IntKind.i64.wrap (1 * (a.length : Int)) * (b.length : Int)) * (c.length : Int))) := by
  unfold interp_size_p lt
  simp only [List.drop_zero, interp_size_l4]
theorem iCheck (a b c : List Int) : ∃ e, interp_Check_p [a, b, c] = some e ∧ (e = 0 → ∀ x ∈ [a, b, c], 1 ≤ x.length ∧ x.length ≤ 32) := by
  unfold interp_Check_p
  rw [if_neg (by simp), if_neg (by simp), lt, bnds (isize3 a b c)]
  have hJ : ∀ p : Prop, [Decidable p] → ∃ e, (if p then some (10 : Int) else some 0) = some e := fun p _ => by
    split
    · exact ⟨_, rfl⟩
    · exact ⟨_, rfl⟩
  obtain ⟨e, h1, h2⟩ := iCheck10 _ (hJ (IntKind.i64.wrap (IntKind.i64.wrap (IntKind.i64.wrap (1 * (a.length : Int)) * (b.length : Int)) * (c.length : Int)) > 256)) ([a, b, c].drop 0)
  exact ⟨e, h1, fun h => (h2 h).2⟩
/-! ### Numbers and noises -/
theorem cRat (r : Raw) : ∃ e, dynamics_checkRat_p r = some e := by
  unfold dynamics_checkRat_p rat_Check_p
  simp only [Option.bind_some]
  split
  · exact ⟨_, rfl⟩
  split
  · exact ⟨_, rfl⟩
  split
  · exact ⟨_, rfl⟩
  · exact ⟨_, rfl⟩
theorem nz_of {e : Int} (h : (e != 0) = true) : e ≠ 0 := by simpa using h
theorem z_of {e : Int} (h : ¬ (e != 0) = true) : e = 0 := by simpa using h
theorem cNoise17 (p0 : List NoiseD) (hp : p0.length ≤ 5) (J : Raw → Option Int) (hJ : ∀ v, ∃ e, J v = some e) : ∀ (l : List NoiseD) (k : Nat) (v : Raw), l = p0.drop k → ∃ e, dynamics_checkNoise_l17 p0 J l k v = some e
  | [], k, v, _ => by rw [dynamics_checkNoise_l17]; exact hJ v
  | x :: l, k, v, h => by
    obtain ⟨hk, hr⟩ := drop_cons h
    rw [dynamics_checkNoise_l17, lt]
    obtain ⟨e, he⟩ := cRat x.p
    have hA : ∃ e, (dynamics_checkRat_p x.p).bind (fun y25 => if ((y25) != 0) = true then (some y25) else (if x.p.neg = true then (some 1) else (if ((x.p.ln.length : Int) == 0) = true then (some 1) else ((rat_Add_p v x.p).bind fun y31 => dynamics_checkNoise_l17 p0 J l (k + 1) y31.1)))) = some e := by
      rw [bnds he]
      split
      · exact ⟨_, rfl⟩
      split
      · exact ⟨_, rfl⟩
      split
      · exact ⟨_, rfl⟩
      · unfold rat_Add_p
        rw [Option.bind_some]
        exact cNoise17 p0 hp J hJ l (k + 1) _ hr
    rw [show dynamics_within_p (100 : Int) = some 100 from rfl, Option.bind_some, within1 _ 100 (by decide), Option.bind_some]
    split
    · exact ⟨_, rfl⟩
    split
    · rename_i h0
      obtain ⟨q, hq⟩ : ∃ q, p0[k - 1]? = some q := ⟨p0[k - 1]'(by omega), by simp⟩
      rw [bnds (ixT (k := k - 1) (by rw [wi64 (by omega) (by omega)]; omega) hq)]
      split
      · exact ⟨_, rfl⟩
      · exact hA
    · exact hA
theorem cNoise (l : List NoiseD) : ∃ e, dynamics_checkNoise_p l = some e := by
  unfold dynamics_checkNoise_p
  split
  · exact ⟨_, rfl⟩
  split
  · exact ⟨_, rfl⟩
  rename_i h5
  rw [lt]
  refine cNoise17 l (by omega) _ (fun v => ?_) _ 0 _ rfl
  rw [show rat_From_p (1 : Int) = some (Raw.of ((1 : Int) : Rat)) from grdT (by decide), Option.bind_some]
  unfold rat_Cmp_p
  rw [Option.bind_some]
  split
  · exact ⟨_, rfl⟩
  · exact ⟨_, rfl⟩
theorem c62 (x : ModelD) (J : Option Int) (hJ : ∃ e, J = some e) : ∀ (r k : Nat), r + k = 3 → Z0 (dynamics_Check_l62 x J r k) J
  | 0, k, _ => by rw [dynamics_Check_l62]; exact Z0.self hJ
  | r + 1, k, h => by
    have ih := c62 x J hJ r (k + 1) (by omega)
    rw [dynamics_Check_l62]
    obtain ⟨q, hq⟩ : ∃ q, [x.alert, x.strengthen, x.reversal][k]? = some q := ⟨[x.alert, x.strengthen, x.reversal][k]'(by simp; omega), by simp⟩
    rw [bnds (ixT (k := k) rfl hq)]
    obtain ⟨e, he⟩ := cRat q
    rw [bnds he]
    split
    · rename_i hn; exact Z0.nz (nz_of hn)
    split
    · exact Z0.nz (by decide)
    · exact ih
theorem c78 (x : ModelD) (J : Option Int) (hJ : ∃ e, J = some e) : ∀ (r k : Nat), r + k = 2 → Z0 (dynamics_Check_l78 x J r k) J
  | 0, k, _ => by rw [dynamics_Check_l78]; exact Z0.self hJ
  | r + 1, k, h => by
    have ih := c78 x J hJ r (k + 1) (by omega)
    rw [dynamics_Check_l78]
    obtain ⟨q, hq⟩ : ∃ q, [x.ownNoise, x.otherNoise][k]? = some q := ⟨[x.ownNoise, x.otherNoise][k]'(by simp; omega), by simp⟩
    rw [bnds (ixT (k := k) rfl hq)]
    obtain ⟨e, he⟩ := cNoise q
    rw [bnds he]
    split
    · rename_i hn; exact Z0.nz (nz_of hn)
    · exact ih
theorem c92 (J : Option Int) (hJ : ∃ e, J = some e) : ∀ l : List BoundsD, ∃ e, dynamics_Check_l92 100 J l = some e ∧ (e = 0 → J = some 0 ∧ ∀ y ∈ l, y.lo ≤ y.hi ∧ -100 ≤ y.lo ∧ y.lo ≤ 100 ∧ -100 ≤ y.hi ∧ y.hi ≤ 100)
  | [] => by
    obtain ⟨e, he⟩ := hJ
    exact ⟨e, by rw [dynamics_Check_l92]; exact he, fun h => ⟨h ▸ he, fun _ h => by cases h⟩⟩
  | y :: l => by
    obtain ⟨e, h1, h2⟩ := c92 J hJ l
    have key : ∀ v : Bool, ∃ e, (if v = true then (some 6) else (if (y.lo) > y.hi then (some 1) else ((dynamics_within_1_p ([y.lo, y.hi]) 100).bind fun y104 => if (!y104) = true then (some 1) else (dynamics_Check_l92 100 J l)))) = some e ∧ (e = 0 → J = some 0 ∧ ∀ z ∈ y :: l, z.lo ≤ z.hi ∧ -100 ≤ z.lo ∧ z.lo ≤ 100 ∧ -100 ≤ z.hi ∧ z.hi ≤ 100) := fun v => by
      split
      · exact ⟨6, rfl, fun h => by cases h⟩
      split
      · exact ⟨1, rfl, fun h => by cases h⟩
      rename_i hlo
      rw [within1 _ 100 (by decide), Option.bind_some]
      split
      · exact ⟨1, rfl, fun h => by cases h⟩
      rename_i hin
      have hin' : inS (-100) 100 [y.lo, y.hi] = true := by simpa using hin
      have h9 := inS_iff.1 hin'
      have h10 := h9 y.lo (by simp)
      have h11 := h9 y.hi (by simp)
      refine ⟨e, h1, fun h => ⟨(h2 h).1, fun z hz => ?_⟩⟩
      rcases List.mem_cons.1 hz with rfl | hz
      · exact ⟨by omega, h10.1, h10.2, h11.1, h11.2⟩
      · exact (h2 h).2 z hz
    rw [dynamics_Check_l92, lt]
    split
    · exact key _
    · exact key _
/-! ### Check -/
structure Good (x : ModelD) : Prop where
  h1 : 1 ≤ x.height.length
  h2 : x.height.length ≤ 32
  o1 : 1 ≤ x.own.length
  o2 : x.own.length ≤ 32
  t1 : 1 ≤ x.other.length
  t2 : x.other.length ≤ 32
  a1 : 1 ≤ x.advisories.length
  a2 : x.advisories.length ≤ 6
  p1 : 0 ≤ x.pull
  p2 : x.pull ≤ 100
  adv : ∀ y ∈ x.advisories.drop 1, y.lo ≤ y.hi ∧ -100 ≤ y.lo ∧ y.lo ≤ 100 ∧ -100 ≤ y.hi ∧ y.hi ≤ 100
theorem size_p (x : ModelD) : ∃ n, dynamics_size_p x = some n ∧ (x.height.length ≤ 32 → x.own.length ≤ 32 → x.other.length ≤ 32 → x.advisories.length ≤ 6 → n = ((x.height.length * x.own.length * x.other.length * x.advisories.length : Nat) : Int)) := by
  unfold dynamics_size_p
  rw [Option.bind_some]
  refine ⟨_, rfl, fun h1 h2 h3 h4 => ?_⟩
  have e1 : x.height.length * x.own.length ≤ 32 * 32 := Nat.mul_le_mul h1 h2
  have e2 : x.height.length * x.own.length * x.other.length ≤ 32 * 32 * 32 := Nat.mul_le_mul e1 h3
  have e3 : x.height.length * x.own.length * x.other.length * x.advisories.length ≤ 32 * 32 * 32 * 6 := Nat.mul_le_mul e2 h4
  have w1 : ∀ a b : Nat, a * b ≤ 196608 → IntKind.i64.wrap ((a : Int) * (b : Int)) = ((a * b : Nat) : Int) := fun a b h => by
    rw [← Int.natCast_mul]
    exact wi64 (by omega) (by omega)
  rw [w1 _ _ (by omega), w1 _ _ (by omega), w1 _ _ (by omega)]
theorem check_p (x : ModelD) : ∃ e, dynamics_Check_p x = some e ∧ (e = 0 → Good x) := by
  unfold dynamics_Check_p
  rw [show dynamics_within_p (100 : Int) = some 100 from rfl, Option.bind_some, show dynamics_grid_p x = some [x.height, x.own, x.other] from rfl, Option.bind_some]
  obtain ⟨e1, h1, g1⟩ := iCheck x.height x.own x.other
  rw [bnds h1]
  split
  · rename_i hn; exact ⟨e1, rfl, fun h => absurd h (nz_of hn)⟩
  rename_i hz1
  have hg := g1 (z_of hz1)
  rw [show dynamics_within_p (50000 : Int) = some 50000 from rfl, Option.bind_some, within1 _ 50000 (by decide), Option.bind_some]
  split
  · exact ⟨1, rfl, fun h => by cases h⟩
  rw [within1 _ 100 (by decide), Option.bind_some]
  split
  · exact ⟨1, rfl, fun h => by cases h⟩
  rw [within1 _ 100 (by decide), Option.bind_some]
  split
  · exact ⟨1, rfl, fun h => by cases h⟩
  split
  · exact ⟨3, rfl, fun h => by cases h⟩
  rename_i ha1
  split
  · exact ⟨4, rfl, fun h => by cases h⟩
  rename_i ha2
  have ha1' : 1 ≤ x.advisories.length := by
    rcases Nat.eq_zero_or_pos x.advisories.length with h | h
    · rw [h] at ha1; exact absurd rfl ha1
    · exact h
  rw [lt, grdT (by omega)]
  have hJ : ∃ e, ((dynamics_span_has_p (SpanD.mk 0 100) ([x.pull])).bind fun y38 => if (!y38) = true then (some 1) else ((dynamics_span_has_p (SpanD.mk 0 50000) ([x.near])).bind fun y44 => if (!y44) = true then (some 1) else ((dynamics_span_has_p (SpanD.mk 0 24) ([x.steps])).bind fun y50 => if (!y50) = true then (some 1) else (lt (lt ((dynamics_size_p x).bind fun y56 => if (y56) > 200 then (some 10) else (some 0)) fun J54 => dynamics_Check_l62 x J54 ((3 : Int).toNat - 0) 0) fun J53 => dynamics_Check_l78 x J53 ((2 : Int).toNat - 0) 0)))) = some e ∧ (e = 0 → 0 ≤ x.pull ∧ x.pull ≤ 100) := by
    rw [has_p, Option.bind_some]
    split
    · exact ⟨1, rfl, fun h => by cases h⟩
    rename_i hp
    have hp' : inS 0 100 [x.pull] = true := by simpa using hp
    have hp2 := inS_iff.1 hp' x.pull (by simp)
    rw [has_p, Option.bind_some]
    split
    · exact ⟨1, rfl, fun h => by cases h⟩
    rw [has_p, Option.bind_some]
    split
    · exact ⟨1, rfl, fun h => by cases h⟩
    obtain ⟨n, hn, _⟩ := size_p x
    rw [lt, lt, bnds hn]
    have hJ0 : ∃ e, (if n > 200 then some (10 : Int) else some 0) = some e := by
      split
      · exact ⟨_, rfl⟩
      · exact ⟨_, rfl⟩
    obtain ⟨e6, h6, _⟩ := c62 x _ hJ0 3 0 rfl
    obtain ⟨e7, h7, _⟩ := c78 x _ ⟨e6, h6⟩ 2 0 rfl
    exact ⟨e7, h7, fun _ => hp2⟩
  obtain ⟨e2, h2, g2⟩ := hJ
  obtain ⟨e3, h3, g3⟩ := c92 _ ⟨e2, h2⟩ ((x.advisories.drop 1).drop 0)
  refine ⟨e3, h3, fun h => ?_⟩
  obtain ⟨g4, g5⟩ := g3 h
  rw [h2] at g4
  have g6 := g2 (Option.some.inj g4)
  have b1 := hg x.height (by simp)
  have b2 := hg x.own (by simp)
  have b3 := hg x.other (by simp)
  exact ⟨b1.1, b1.2, b2.1, b2.2, b3.1, b3.2, ha1', by omega, g6.1, g6.2, g5⟩
end Go.Proofs.YtjnbipmlmafahaaGreat
/- DynamicsResponds as plain Lean. By an AI agent. -/
namespace Go.Proofs.YtjnbipmlmafahaaGreat
open Go Go.Gv Go.RowKit
set_option maxRecDepth 100000
set_option maxHeartbeats 1000000
theorem long6 : ∀ l : List Raw, ∃ b, clearwaylaw06_Long_p l = some b := by
  have h : ∀ l : List Raw, ∃ b, clearwaylaw06_Long_l4 (some false) l = some b := by
    intro l
    induction l with
    | nil => exact ⟨false, by rw [clearwaylaw06_Long_l4]⟩
    | cons x l ih =>
      rw [clearwaylaw06_Long_l4]
      repeat' split
      all_goals first | exact ⟨_, rfl⟩ | exact ih
  intro l
  unfold clearwaylaw06_Long_p lt
  exact h _
theorem long24 (x : ModelD) : ∃ b, clearwaylaw24_Long_p x = some b := by
  have h18 : ∀ (J : Option Bool), (∃ b, J = some b) → ∀ l : List NoiseD, ∃ b, clearwaylaw24_Long_l18 J l = some b := by
    intro J hJ l
    induction l with
    | nil => rw [clearwaylaw24_Long_l18]; exact hJ
    | cons x l ih =>
      rw [clearwaylaw24_Long_l18]
      obtain ⟨b, hb⟩ := long6 [x.p]
      rw [bnds hb]
      split
      · exact ⟨_, rfl⟩
      · exact ih
  have h28 : ∀ (J : Option Bool), (∃ b, J = some b) → ∀ l : List NoiseD, ∃ b, clearwaylaw24_Long_l28 J l = some b := by
    intro J hJ l
    induction l with
    | nil => rw [clearwaylaw24_Long_l28]; exact hJ
    | cons x l ih =>
      rw [clearwaylaw24_Long_l28]
      obtain ⟨b, hb⟩ := long6 [x.p]
      rw [bnds hb]
      split
      · exact ⟨_, rfl⟩
      · exact ih
  unfold clearwaylaw24_Long_p
  repeat' split
  all_goals try exact ⟨_, rfl⟩
  obtain ⟨b, hb⟩ := long6 [x.alert, x.strengthen, x.reversal]
  rw [lt, lt, bnds hb]
  exact h28 _ (h18 _ ⟨b, rfl⟩ _) _
def nV (x : ModelD) : Nat := x.height.length * x.own.length * x.other.length
theorem Good.size {x : ModelD} (g : Good x) : dynamics_size_p x = some ((nV x * x.advisories.length : Nat) : Int) := by
  obtain ⟨n, h, k⟩ := size_p x
  rw [h, k g.h2 g.o2 g.t2 g.a2]
  rfl
theorem Good.nV_le {x : ModelD} (g : Good x) : nV x ≤ 32768 := by
  have e1 : x.height.length * x.own.length ≤ 32 * 32 := Nat.mul_le_mul g.h2 g.o2
  exact Nat.mul_le_mul e1 g.t2
theorem Good.n_le {x : ModelD} (g : Good x) : nV x * x.advisories.length ≤ 196608 := Nat.mul_le_mul g.nV_le g.a2
theorem known_p {x : ModelD} (hc : dynamics_Check_p x = some 0) (g : Good x) (z : Int) : dynamics_known_p x [z] = some (if 0 ≤ z ∧ z < (x.advisories.length : Int) then 0 else 8) := by
  have h1 := g.a1
  have h2 := g.a2
  unfold dynamics_known_p
  rw [bnds hc, if_neg (by decide), wi64 (by omega) (by omega), has_p, Option.bind_some]
  by_cases hz : 0 ≤ z ∧ z < (x.advisories.length : Int)
  · rw [if_pos hz, if_neg]
    have : inS 0 ((x.advisories.length : Int) - 1) [z] = true := inS_iff.2 fun y hy => by
      rw [List.mem_singleton] at hy; subst hy; omega
    simp [this]
  · rw [if_neg hz, if_pos]
    have : inS 0 ((x.advisories.length : Int) - 1) [z] = false := by
      rw [Bool.eq_false_iff]
      intro h
      have := inS_iff.1 h z (by simp)
      omega
    simp [this]
theorem respond_eq {x : ModelD} (g : Good x) {u b : Int} (hb : 0 ≤ b ∧ b < (x.advisories.length : Int)) (hu : -100 ≤ u ∧ u ≤ 100) : ∃ y, ix x.advisories b = some y ∧ (b ≠ 0 → y.lo ≤ y.hi ∧ -100 ≤ y.lo ∧ y.lo ≤ 100 ∧ -100 ≤ y.hi ∧ y.hi ≤ 100) ∧
    dynamics_respond_p x u b = some (if b = 0 then u else if u < y.lo then (if y.lo < u + x.pull then y.lo else u + x.pull) else if u > y.hi then (if y.hi > u - x.pull then y.hi else u - x.pull) else u) := by
  have hp1 := g.p1
  have hp2 := g.p2
  obtain ⟨k, rfl⟩ := Int.eq_ofNat_of_zero_le hb.1
  have hk : k < x.advisories.length := by omega
  have hy := List.getElem?_eq_getElem hk
  have hix := ixT (i := (k : Int)) rfl hy
  refine ⟨_, hix, fun h0 => ?_, ?_⟩
  · have hk0 : k ≠ 0 := by rintro rfl; exact h0 rfl
    refine g.adv _ (List.mem_of_getElem? (i := k - 1) ?_)
    rw [List.getElem?_drop, show 1 + (k - 1) = k by omega]
    exact hy
  · unfold dynamics_respond_p
    rw [bnds hix, wi64 (x := u + x.pull) (by omega) (by omega), wi64 (x := u - x.pull) (by omega) (by omega)]
    by_cases hk0 : (k : Int) = 0
    · rw [if_pos (by simpa using hk0), if_pos hk0]
    · rw [if_neg (by simpa using hk0), if_neg hk0]
      simp only [Option.bind_some]
      repeat' split
      all_goals rfl
end Go.Proofs.YtjnbipmlmafahaaGreat
/- Numbers that fit: sums of fractions with one denominator. By an AI agent. -/
namespace Go.Gv
/-- q is a fraction over D whose numerator is at most B. -/
def DB (D B : Nat) (q : Rat) : Prop := ∃ n : Int, q = mkRat n D ∧ n.natAbs ≤ B
theorem fit_mk {n : Int} {d : Nat} (h1 : n.natAbs < K128) (h2 : d < K128) : ratE (mkRat n d) = 0 := by
  unfold ratE
  refine if_pos ⟨?_, ?_⟩
  · rw [Rat.num_mkRat]
    split
    · exact Nat.lt_of_le_of_lt (Nat.zero_le _) h2
    · refine Nat.lt_of_le_of_lt ?_ h1
      rw [Int.natAbs_ediv_of_dvd (Int.ofNat_dvd_left.2 (Nat.gcd_dvd_right _ _))]
      exact Nat.div_le_self _ _
  · have hd : (mkRat n d).den ≤ d ∨ (mkRat n d).den = 1 := by
      rw [Rat.den_mkRat]
      split
      · exact .inr rfl
      · exact .inl (Nat.div_le_self _ _)
    unfold den1
    split
    · exact Nat.lt_of_le_of_lt (Nat.zero_le _) h2
    · rcases hd with h | h
      · exact Nat.lt_of_le_of_lt h h2
      · rename_i h9; exact absurd h h9
theorem DB.fit {D B : Nat} {q : Rat} (h : DB D B q) (hD : D < K128) (hB : B < K128) : ratE q = 0 := by
  obtain ⟨n, rfl, h2⟩ := h
  exact fit_mk (Nat.lt_of_le_of_lt h2 hB) hD
theorem DB.mono {D B C : Nat} {q : Rat} (h : DB D B q) (k : B ≤ C) : DB D C q := by
  obtain ⟨n, h1, h2⟩ := h
  exact ⟨n, h1, Nat.le_trans h2 k⟩
theorem DB.zero {D : Nat} : DB D 0 0 := ⟨0, by simp, Nat.le_refl _⟩
theorem DB.add {D A B : Nat} {p q : Rat} (hD : D ≠ 0) (h : DB D A p) (k : DB D B q) : DB D (A + B) (p + q) := by
  obtain ⟨m, rfl, h2⟩ := h
  obtain ⟨n, rfl, k2⟩ := k
  refine ⟨m + n, ?_, ?_⟩
  · rw [Rat.mkRat_add_mkRat _ _ hD hD, ← Int.add_mul, Rat.mkRat_mul_right hD]
  · have := Int.natAbs_add_le m n
    omega
theorem DB.mul {D E A B : Nat} {p q : Rat} (h : DB D A p) (k : DB E B q) : DB (D * E) (A * B) (p * q) := by
  obtain ⟨m, rfl, h2⟩ := h
  obtain ⟨n, rfl, k2⟩ := k
  refine ⟨m * n, Rat.mkRat_mul_mkRat _ _ _ _, ?_⟩
  rw [Int.natAbs_mul]
  exact Nat.mul_le_mul h2 k2
theorem DB.lift {D B k : Nat} {q : Rat} (h : DB D B q) (hk : k ≠ 0) : DB (D * k) (B * k) q := by
  obtain ⟨n, rfl, h2⟩ := h
  refine ⟨n * k, ?_, ?_⟩
  · rw [Rat.mkRat_mul_right hk]
  · rw [Int.natAbs_mul, Int.natAbs_natCast]
    exact Nat.mul_le_mul_right _ h2
theorem DB.dvd {D E B : Nat} {q : Rat} (h : DB D B q) (hd : D ∣ E) (hE : E ≠ 0) : DB E (B * E) q := by
  obtain ⟨k, rfl⟩ := hd
  have hk : k ≠ 0 := fun e => hE (by rw [e, Nat.mul_zero])
  have hD : D ≠ 0 := fun e => hE (by rw [e, Nat.zero_mul])
  refine (h.lift hk).mono (Nat.mul_le_mul_left _ ?_)
  exact Nat.le_mul_of_pos_left _ (Nat.pos_of_ne_zero hD)
/-- The product of all. -/
def prodN : List Nat → Nat
  | [] => 1
  | x :: l => x * prodN l
theorem prodN_dvd : ∀ {l : List Nat} {x : Nat}, x ∈ l → x ∣ prodN l
  | y :: l, x, h => by
    rcases List.mem_cons.1 h with rfl | h
    · exact Nat.dvd_mul_right _ _
    · exact Nat.dvd_trans (prodN_dvd h) (Nat.dvd_mul_left _ _)
theorem prodN_pos : ∀ {l : List Nat}, (∀ x ∈ l, x ≠ 0) → prodN l ≠ 0
  | [], _ => by decide
  | y :: l, h => Nat.mul_ne_zero (h y (by simp)) (prodN_pos fun x hx => h x (by simp [hx]))
theorem prodN_le {K : Nat} (hK : 1 ≤ K) : ∀ {l : List Nat} {n : Nat}, (∀ x ∈ l, x ≤ K) → l.length ≤ n → prodN l ≤ K ^ n
  | [], n, _, _ => Nat.one_le_pow _ _ hK
  | y :: l, 0, _, h => by simp at h
  | y :: l, n + 1, h, hn => by
    rw [Nat.pow_succ, Nat.mul_comm]
    exact Nat.mul_le_mul (h y (by simp)) (prodN_le hK (fun x hx => h x (by simp [hx])) (by simpa using hn))
/-! ### The operations of package rat where all fits -/
theorem of_fit {q : Rat} (h : ratE q = 0) : (Raw.of q).chk = 0 ∧ (Raw.of q).rat = q := ⟨Raw.of_chk h, Raw.of_rat q⟩
theorem opR_fit {a b : Raw} {q : Rat} (ha : a.chk = 0) (hb : b.chk = 0) (h : ratE q = 0) : opR a b q = Raw.of q ∧ opE a b q = 0 := by
  have e : opE a b q = 0 := by unfold opE; rw [ha, hb, h]; rfl
  exact ⟨if_pos e, e⟩
end Go.Gv
/- Shares of an axis and the weights of the vertices, in plain words. By an AI agent. -/
namespace Go.Proofs.YtjnbipmlmafahaaGreat
open Go Go.Gv Go.RowKit
set_option maxRecDepth 100000
set_option maxHeartbeats 1000000
/-- An axis: ascending, of small numbers. -/
structure Axis (l : List Int) : Prop where
  ne : 1 ≤ l.length
  le : l.length ≤ 32
  asc : l.Pairwise (· < ·)
  bd : ∀ z ∈ l, -50000 ≤ z ∧ z ≤ 50000
theorem Axis.lt {l : List Int} (h : Axis l) {i j : Nat} {x y : Int} (hij : i < j) (hx : l[i]? = some x) (hy : l[j]? = some y) : x < y := by
  obtain ⟨hi, rfl⟩ := List.getElem?_eq_some_iff.1 hx
  obtain ⟨hj, rfl⟩ := List.getElem?_eq_some_iff.1 hy
  exact List.pairwise_iff_getElem.1 h.asc i j hi hj hij
theorem Axis.bdi {l : List Int} (h : Axis l) {i : Nat} {x : Int} (hx : l[i]? = some x) : -50000 ≤ x ∧ x ≤ 50000 := h.bd x (List.mem_of_getElem? hx)
def clampZ (a z x : Int) : Int := if (if z < x then z else x) > a then if z < x then z else x else a
def clampL (l : List Int) (x : Int) : Int := clampZ (l.head?.getD 0) (l.getLast?.getD 0) x
theorem clamp_in {a z x : Int} (h : a ≤ z) : a ≤ clampZ a z x ∧ clampZ a z x ≤ z := by
  unfold clampZ
  split <;> split <;> omega
/-- The shares of c in an axis. -/
def ShSpec (l : List Int) (c : Int) (S : List (Nat × Rat)) : Prop :=
  (∃ k, l[k]? = some c ∧ S = [(k, 1)]) ∨ (∃ k a b, l[k]? = some a ∧ l[k + 1]? = some b ∧ a < c ∧ c < b ∧ S = [(k, mkRat (b - c) (b - a).toNat), (k + 1, mkRat (c - a) (b - a).toNat)])
def toSh (p : Nat × Rat) : ShareD := ⟨(p.1 : Int), Raw.of p.2⟩
def toWt (p : Nat × Rat) : WeightD := ⟨(p.1 : Int), Raw.of p.2⟩
theorem of_p {n d : Int} (h1 : -9223372036854775808 ≤ n ∧ n ≤ 9223372036854775807) (h2 : 0 < d ∧ d ≤ 9223372036854775807) : rat_Of_p n d = some (Raw.of (mkRat n d.toNat), 0) := by
  unfold rat_Of_p
  rw [grdT ⟨h1, ⟨by omega, h2.2⟩, by omega⟩]
  have e : decide (d < 0) = false := by simp; omega
  have e2 : (!(decide (n < 0) == decide (d < 0))) = decide (n < 0) := by rw [e]; cases decide (n < 0) <;> rfl
  rw [e2, sgn_num]
  have e3 : d.natAbs = d.toNat := by omega
  rw [e3]
theorem shares_go {l : List Int} (h : Axis l) {p1 x4 x6 : Int} (h4 : l[0]? = some x4) (h6 : l[l.length - 1]? = some x6) (J : List ShareD → Option (List ShareD)) :
    ∀ (r : List Int) (k : Nat), r = l.drop k → (∀ j y, j < k → l[j]? = some y → y < clampZ x4 x6 p1) → ∃ S, ShSpec l (clampZ x4 x6 p1) S ∧ interp_shares_l13 l p1 x4 x6 J r k = J (S.map toSh) := by
  have hle : x4 ≤ x6 := by
    rcases Nat.eq_zero_or_pos (l.length - 1) with e | e
    · rw [e] at h6; rw [h4] at h6; cases h6; exact Int.le_refl _
    · exact Int.le_of_lt (h.lt e h4 h6)
  obtain ⟨c1, c2⟩ := clamp_in (x := p1) hle
  intro r
  induction r with
  | nil =>
    intro k hk hb
    have : l.length ≤ k := by
      have := congrArg List.length hk
      simp at this
      omega
    have hne := h.ne
    have := hb (l.length - 1) x6 (by omega) h6
    omega
  | cons x r ih =>
    intro k hk hb
    obtain ⟨hkl, hr⟩ := drop_cons hk
    have hx : l[k]? = some x := by
      have := congrArg List.head? hk
      rw [List.head?_drop] at this
      exact this.symm
    have bx := h.bdi hx
    have b4 := h.bdi h4
    have b6 := h.bdi h6
    rw [interp_shares_l13]
    show ∃ S, ShSpec l (clampZ x4 x6 p1) S ∧ ((some (clampZ x4 x6 p1 == x)).bind _) = _
    rw [Option.bind_some]
    by_cases e : clampZ x4 x6 p1 = x
    · refine ⟨[(k, 1)], .inl ⟨k, by rw [e]; exact hx, rfl⟩, ?_⟩
      rw [if_pos (by simp [e]), bnds (of_p (by omega) (by omega)), grdT (by decide)]
      rfl
    · rw [if_neg (by simp [e])]
      show ∃ S, _ ∧ ((some (decide (clampZ x4 x6 p1 < x))).bind _) = _
      rw [Option.bind_some]
      by_cases e2 : clampZ x4 x6 p1 < x
      · rw [if_pos (by simp [e2])]
        have hk0 : 0 < k := by
          rcases Nat.eq_zero_or_pos k with h0 | h0
          · subst h0; rw [h4] at hx; cases hx; omega
          · exact h0
        obtain ⟨q, hq⟩ : ∃ q, l[k - 1]? = some q := ⟨l[k - 1]'(by omega), by simp⟩
        have bq := h.bdi hq
        have hqc := hb (k - 1) q (by omega) hq
        have hk32 := h.le
        have w1 : IntKind.i64.wrap ((k : Int) - 1) = ((k - 1 : Nat) : Int) := by rw [wi64 (by omega) (by omega)]; omega
        rw [bnds (ixT (k := k - 1) w1 hq)]
        show ∃ S, _ ∧ ((some (IntKind.i64.wrap (x - clampZ x4 x6 p1))).bind _) = _
        rw [Option.bind_some, wi64 (x := x - clampZ x4 x6 p1) (by omega) (by omega), wi64 (x := x - q) (by omega) (by omega), bnds (of_p (by omega) (by omega)), grdT (by decide)]
        show ∃ S, _ ∧ ((some (IntKind.i64.wrap (clampZ x4 x6 p1 - q))).bind _) = _
        rw [Option.bind_some, wi64 (x := clampZ x4 x6 p1 - q) (by omega) (by omega), bnds (of_p (by omega) (by omega)), grdT (by show (1 + 1) * 64 ≤ 140737488355328; decide), w1]
        refine ⟨[(k - 1, mkRat (x - clampZ x4 x6 p1) (x - q).toNat), (k - 1 + 1, mkRat (clampZ x4 x6 p1 - q) (x - q).toNat)], .inr ⟨k - 1, q, x, hq, by rw [Nat.sub_add_cancel hk0]; exact hx, hqc, e2, rfl⟩, ?_⟩
        rw [Nat.sub_add_cancel hk0]
        rfl
      · rw [if_neg (by simp [e2])]
        exact ih (k + 1) hr fun j y hj hy => by
          rcases Nat.lt_succ_iff_lt_or_eq.1 hj with h' | h'
          · exact hb j y h' hy
          · subst h'; rw [hx] at hy; cases hy; omega
theorem head0 {l : List Int} {x : Int} (h : l[0]? = some x) : l.head?.getD 0 = x := by
  cases l <;> simp_all
theorem last0 {l : List Int} {x : Int} (h : l[l.length - 1]? = some x) : l.getLast?.getD 0 = x := by
  rw [List.getLast?_eq_getElem?, h]; rfl
theorem shares_p {l : List Int} (h : Axis l) (x : Int) : ∃ S, ShSpec l (clampL l x) S ∧ interp_shares_p l x = some (S.map toSh) := by
  have hn := h.ne
  have hn2 := h.le
  obtain ⟨a, ha⟩ : ∃ a, l[0]? = some a := ⟨l[0]'(by omega), by simp⟩
  obtain ⟨z, hz⟩ : ∃ z, l[l.length - 1]? = some z := ⟨l[l.length - 1]'(by omega), by simp⟩
  obtain ⟨S, h1, h2⟩ := shares_go h (p1 := x) ha hz (fun v => some v) (l.drop 0) 0 rfl (fun j y hj _ => by omega)
  refine ⟨S, ?_, ?_⟩
  · rw [clampL, head0 ha, last0 hz]; exact h1
  · unfold interp_shares_p
    rw [bnds (ixT (l := l) (i := 0) (k := 0) rfl ha), bnds (ixT (k := l.length - 1) (by rw [wi64 (by omega) (by omega)]; omega) hz)]
    exact h2
/-- The shares are few, small and sum to one. -/
theorem ShSpec.db {l : List Int} (h : Axis l) {c : Int} {S : List (Nat × Rat)} (hs : ShSpec l c S) : S.length ≤ 2 ∧ (∀ s ∈ S, s.1 < l.length) ∧ ∃ d, d ≠ 0 ∧ d ≤ 100000 ∧ ∀ s ∈ S, DB d d s.2 := by
  rcases hs with ⟨k, h1, rfl⟩ | ⟨k, a, b, h1, h2, h3, h4, rfl⟩
  · refine ⟨by simp, fun s hs => ?_, 1, by decide, by decide, fun s hs => ?_⟩
    · rw [List.mem_singleton.1 hs]; exact (List.getElem?_eq_some_iff.1 h1).1
    · rw [List.mem_singleton.1 hs]; exact ⟨1, rfl, Nat.le_refl _⟩
  · have ba := h.bdi h1
    have bb := h.bdi h2
    refine ⟨by simp, fun s hs => ?_, (b - a).toNat, by omega, by omega, fun s hs => ?_⟩
    · rcases List.mem_cons.1 hs with rfl | hs
      · exact (List.getElem?_eq_some_iff.1 h1).1
      · rw [List.mem_singleton.1 hs]; exact (List.getElem?_eq_some_iff.1 h2).1
    · rcases List.mem_cons.1 hs with rfl | hs
      · exact ⟨_, rfl, by omega⟩
      · rw [List.mem_singleton.1 hs]; exact ⟨_, rfl, by omega⟩
/-! ### Weights -/
def wstep (len : Nat) (W S : List (Nat × Rat)) : List (Nat × Rat) := W.flatMap fun p => S.map fun s => (p.1 * len + s.1, p.2 * s.2)
theorem wstep_nil (len : Nat) (S : List (Nat × Rat)) : wstep len [] S = [] := rfl
theorem wstep_cons (len : Nat) (p : Nat × Rat) (W S : List (Nat × Rat)) : wstep len (p :: W) S = (S.map fun s => (p.1 * len + s.1, p.2 * s.2)) ++ wstep len W S := by simp [wstep]
theorem wstep_len {len : Nat} {S : List (Nat × Rat)} (hs : S.length ≤ 2) : ∀ {W : List (Nat × Rat)} {n : Nat}, W.length ≤ n → (wstep len W S).length ≤ 2 * n
  | [], n, _ => by simp [wstep_nil]
  | p :: W, 0, h => by simp at h
  | p :: W, n + 1, h => by
    rw [wstep_cons, List.length_append, List.length_map]
    have := wstep_len (len := len) hs (W := W) (n := n) (by simpa using h)
    omega
theorem wstep_db {len D B d b : Nat} {W S : List (Nat × Rat)} (hw : ∀ p ∈ W, DB D B p.2) (hs : ∀ s ∈ S, DB d b s.2) : ∀ q ∈ wstep len W S, DB (D * d) (B * b) q.2 := by
  intro q hq
  obtain ⟨p, hp, hq⟩ := List.mem_flatMap.1 hq
  obtain ⟨s, h1, rfl⟩ := List.mem_map.1 hq
  exact (hw p hp).mul (hs s h1)
theorem wstep_lt {len N : Nat} {W S : List (Nat × Rat)} (hw : ∀ p ∈ W, p.1 < N) (hs : ∀ s ∈ S, s.1 < len) : ∀ q ∈ wstep len W S, q.1 < N * len := by
  intro q hq
  obtain ⟨p, hp, hq⟩ := List.mem_flatMap.1 hq
  obtain ⟨s, h1, rfl⟩ := List.mem_map.1 hq
  have a := hw p hp
  have c := hs s h1
  show p.1 * len + s.1 < N * len
  calc p.1 * len + s.1 < p.1 * len + len := by omega
    _ = (p.1 + 1) * len := by rw [Nat.succ_mul]
    _ ≤ N * len := Nat.mul_le_mul_right _ a
theorem l34 {l : List Int} {p : Nat × Rat} (J : List WeightD → Option (List WeightD × Int)) (hp : ratE p.2 = 0) : ∀ (S : List (Nat × Rat)) (acc : List WeightD), acc.length + S.length ≤ 1000 → (∀ s ∈ S, ratE s.2 = 0 ∧ ratE (p.2 * s.2) = 0 ∧ p.1 * l.length + s.1 < 100000) →
    interp_Weights_l34 l (toWt p) J (S.map toSh) acc = J (acc ++ (S.map fun s => toWt (p.1 * l.length + s.1, p.2 * s.2)))
  | [], acc, _, _ => by simp [interp_Weights_l34]
  | s :: S, acc, hl, hs => by
    obtain ⟨h1, h2, h3⟩ := hs s (by simp)
    rw [List.map_cons, interp_Weights_l34]
    have e : rat_Mul_p (toWt p).w (toSh s).w = some (Raw.of (p.2 * s.2), 0) := by
      unfold rat_Mul_p
      rw [show (toWt p).w = Raw.of p.2 from rfl, show (toSh s).w = Raw.of s.2 from rfl, Raw.of_rat, Raw.of_rat, (opR_fit (of_fit hp).1 (of_fit h1).1 h2).1, (opR_fit (of_fit hp).1 (of_fit h1).1 h2).2]
    rw [bnds e, grdT (by simp at hl; omega)]
    have w : IntKind.i64.wrap (IntKind.i64.wrap ((toWt p).vertex * (l.length : Int)) + (toSh s).index) = ((p.1 * l.length + s.1 : Nat) : Int) := by
      show IntKind.i64.wrap (IntKind.i64.wrap ((p.1 : Int) * (l.length : Int)) + (s.1 : Int)) = _
      obtain ⟨t, ht⟩ : ∃ t, t = p.1 * l.length := ⟨_, rfl⟩
      rw [← ht] at h3
      rw [← Int.natCast_mul, ← ht, wi64 (x := (t : Int)) (by omega) (by omega), wi64 (by omega) (by omega)]
      simp
    rw [w, l34 J hp S _ (by simp at hl ⊢; omega) fun s hs' => hs s (by simp [hs'])]
    simp [toWt]
theorem l21 {l : List Int} {p1 : List Int} {k : Nat} {z : Int} {S : List (Nat × Rat)} (J : List WeightD → Option (List WeightD × Int)) (hz : p1[k]? = some z) (hS : interp_shares_p l z = some (S.map toSh)) (hs : ∀ s ∈ S, ratE s.2 = 0) (h2 : S.length ≤ 2) :
    ∀ (W : List (Nat × Rat)) (acc : List WeightD), acc.length + 2 * W.length ≤ 1000 → (∀ p ∈ W, ratE p.2 = 0 ∧ ∀ s ∈ S, ratE (p.2 * s.2) = 0 ∧ p.1 * l.length + s.1 < 100000) →
    interp_Weights_l21 p1 k l J (W.map toWt) acc = J (acc ++ (wstep l.length W S).map toWt)
  | [], acc, _, _ => by simp [interp_Weights_l21, wstep_nil]
  | p :: W, acc, hl, hw => by
    obtain ⟨g1, g2⟩ := hw p (by simp)
    rw [List.map_cons, interp_Weights_l21, lt, bnds (ixT (k := k) rfl hz), bnds hS, List.drop_zero, l34 _ g1 S acc (by simp at hl; omega) fun s h => ⟨hs s h, g2 s h⟩]
    rw [l21 J hz hS hs h2 W _ (by simp at hl ⊢; omega) fun q hq => hw q (by simp [hq]), wstep_cons, List.map_append, List.append_assoc, List.map_map]
    rfl
theorem k128 : 1000000000000000 < K128 := by
  refine Nat.lt_of_lt_of_le (show 1000000000000000 < 4294967296 ^ 2 by decide) ?_
  exact Nat.pow_le_pow_right (by decide) (by decide)
/-- The weights of a situation. -/
def WSpec (a b c : List Int) (x y z : Int) (W : List (Nat × Rat)) : Prop :=
  ∃ Sa Sb Sc, ShSpec a (clampL a x) Sa ∧ ShSpec b (clampL b y) Sb ∧ ShSpec c (clampL c z) Sc ∧ W = wstep c.length (wstep b.length (wstep a.length [(0, 1)] Sa) Sb) Sc
theorem WSpec.db {a b c : List Int} (ha : Axis a) (hb : Axis b) (hc : Axis c) {x y z : Int} {W : List (Nat × Rat)} (h : WSpec a b c x y z W) : W.length ≤ 8 ∧ (∀ p ∈ W, p.1 < a.length * b.length * c.length) ∧ ∃ d, d ≠ 0 ∧ d ≤ 1000000000000000 ∧ ∀ p ∈ W, DB d d p.2 := by
  obtain ⟨Sa, Sb, Sc, h1, h2, h3, rfl⟩ := h
  obtain ⟨a1, a2, da, a3, a4, a5⟩ := h1.db ha
  obtain ⟨b1, b2, db, b3, b4, b5⟩ := h2.db hb
  obtain ⟨c1, c2, dc, c3, c4, c5⟩ := h3.db hc
  refine ⟨?_, ?_, (1 * da) * db * dc, ?_, ?_, ?_⟩
  · exact wstep_len c1 (wstep_len b1 (wstep_len a1 (n := 1) (by simp)))
  · have := wstep_lt (wstep_lt (wstep_lt (N := 1) (W := [(0, 1)]) (fun p hp => by rw [List.mem_singleton.1 hp]; decide) a2) b2) c2
    simpa using this
  · exact Nat.mul_ne_zero (Nat.mul_ne_zero (Nat.mul_ne_zero (by decide) a3) b3) c3
  · have e1 : 1 * da * db ≤ 1 * 100000 * 100000 := Nat.mul_le_mul (Nat.mul_le_mul (Nat.le_refl _) a4) b4
    exact Nat.le_trans (Nat.mul_le_mul e1 c4) (by decide)
  · exact wstep_db (wstep_db (wstep_db (D := 1) (B := 1) (fun p hp => by rw [List.mem_singleton.1 hp]; exact ⟨1, rfl, Nat.le_refl _⟩) a5) b5) c5
theorem weights_p {a b c : List Int} (ha : Axis a) (hb : Axis b) (hc : Axis c) (hck : interp_Check_p [a, b, c] = some 0) (x y z : Int) : ∃ W, WSpec a b c x y z W ∧ interp_Weights_p [a, b, c] [x, y, z] = some (W.map toWt, 0) := by
  obtain ⟨Sa, h1, e1⟩ := shares_p ha x
  obtain ⟨Sb, h2, e2⟩ := shares_p hb y
  obtain ⟨Sc, h3, e3⟩ := shares_p hc z
  refine ⟨_, ⟨Sa, Sb, Sc, h1, h2, h3, rfl⟩, ?_⟩
  obtain ⟨a1, a2, da, a3, a4, a5⟩ := h1.db ha
  obtain ⟨b1, b2, db, b3, b4, b5⟩ := h2.db hb
  obtain ⟨c1, c2, dc, c3, c4, c5⟩ := h3.db hc
  have la := ha.le
  have lb := hb.le
  have lc := hc.le
  have w1 : ∀ p ∈ [((0 : Nat), (1 : Rat))], DB 1 1 p.2 := fun p hp => by rw [List.mem_singleton.1 hp]; exact ⟨1, rfl, Nat.le_refl _⟩
  have w2 := wstep_db (len := a.length) w1 a5
  have w3 := wstep_db (len := b.length) w2 b5
  have w4 := wstep_db (len := c.length) w3 c5
  have v1 : ∀ p ∈ [((0 : Nat), (1 : Rat))], p.1 < 1 := fun p hp => by rw [List.mem_singleton.1 hp]; decide
  have v2 := wstep_lt v1 a2
  have v3 := wstep_lt v2 b2
  have v4 := wstep_lt v3 c2
  have n2 := wstep_len (len := a.length) a1 (W := [((0 : Nat), (1 : Rat))]) (n := 1) (by simp)
  have n3 := wstep_len (len := b.length) b1 n2
  have m1 : 1 * a.length ≤ 32 := by omega
  have m2 : 1 * a.length * b.length ≤ 32 * 32 := Nat.mul_le_mul m1 lb
  have m3 : 1 * a.length * b.length * c.length ≤ 32 * 32 * 32 := Nat.mul_le_mul m2 lc
  have d1 : 1 * da ≤ 100000 := by omega
  have d2 : 1 * da * db ≤ 100000 * 100000 := Nat.mul_le_mul d1 b4
  have d3 : 1 * da * db * dc ≤ 100000 * 100000 * 100000 := Nat.mul_le_mul d2 c4
  have kk := k128
  have fz : ∀ {d : Nat} {q : Rat}, d ≤ 1000000000000000 → DB d d q → ratE q = 0 := fun hd h => h.fit (Nat.lt_of_le_of_lt hd kk) (Nat.lt_of_le_of_lt hd kk)
  unfold interp_Weights_p
  rw [bnds hck, if_neg (by decide), if_neg (by simp), show rat_From_p (1 : Int) = some (Raw.of ((1 : Int) : Rat)) from grdT (by decide), Option.bind_some, lt]
  show interp_Weights_l14 [x, y, z] _ [a, b, c] 0 ([((0 : Nat), (1 : Rat))].map toWt) = _
  rw [interp_Weights_l14, lt, List.drop_zero, l21 _ (z := x) rfl e1 (fun s h => fz (by omega) (a5 s h)) a1 _ _ (by simp) fun p hp => ⟨fz (by omega) (w1 p hp), fun s h => ⟨fz (by omega) ((w1 p hp).mul (a5 s h)), by
    have := v2 (p.1 * a.length + s.1, p.2 * s.2) (List.mem_flatMap.2 ⟨p, hp, List.mem_map.2 ⟨s, h, rfl⟩⟩)
    simp only [] at this; omega⟩⟩, List.nil_append]
  rw [interp_Weights_l14, lt, List.drop_zero, l21 _ (z := y) rfl e2 (fun s h => fz (by omega) (b5 s h)) b1 _ _ (by simp; omega) fun p hp => ⟨fz (by omega) (w2 p hp), fun s h => ⟨fz (by omega) ((w2 p hp).mul (b5 s h)), by
    have := v3 (p.1 * b.length + s.1, p.2 * s.2) (List.mem_flatMap.2 ⟨p, hp, List.mem_map.2 ⟨s, h, rfl⟩⟩)
    simp only [] at this; omega⟩⟩, List.nil_append]
  rw [interp_Weights_l14, lt, List.drop_zero, l21 _ (z := z) rfl e3 (fun s h => fz (by omega) (c5 s h)) c1 _ _ (by simp; omega) fun p hp => ⟨fz (by omega) (w3 p hp), fun s h => ⟨fz (by omega) ((w3 p hp).mul (c5 s h)), by
    have := v4 (p.1 * c.length + s.1, p.2 * s.2) (List.mem_flatMap.2 ⟨p, hp, List.mem_map.2 ⟨s, h, rfl⟩⟩)
    simp only [] at this; omega⟩⟩, List.nil_append]
  rw [interp_Weights_l14]
end Go.Proofs.YtjnbipmlmafahaaGreat
/- What spread answers, in plain words. By an AI agent. -/
namespace Go.Proofs.YtjnbipmlmafahaaGreat
open Go Go.Gv Go.RowKit
set_option maxRecDepth 100000
set_option maxHeartbeats 1000000
theorem Axis.inj {l : List Int} (h : Axis l) {i j : Nat} {x : Int} (hx : l[i]? = some x) (hy : l[j]? = some x) : i = j := by
  rcases Nat.lt_trichotomy i j with e | e | e
  · exact absurd (h.lt e hx hy) (Int.lt_irrefl _)
  · exact e
  · exact absurd (h.lt e hy hx) (Int.lt_irrefl _)
theorem Axis.mid {l : List Int} (h : Axis l) {k j : Nat} {a b c : Int} (h1 : l[k]? = some a) (h2 : l[k + 1]? = some b) (h3 : a < c) (h4 : c < b) (hc : l[j]? = some c) : False := by
  rcases Nat.lt_trichotomy j k with e | e | e
  · have := h.lt e hc h1; omega
  · subst e; rw [hc] at h1; cases h1; omega
  · rcases Nat.lt_or_eq_of_le (Nat.succ_le_of_lt e) with e2 | e2
    · have := h.lt e2 h2 hc; omega
    · have e3 : j = k + 1 := by omega
      subst e3; rw [hc] at h2; cases h2; omega
theorem Axis.mid2 {l : List Int} (h : Axis l) {k j : Nat} {a b a' b' c : Int} (h1 : l[k]? = some a) (h2 : l[k + 1]? = some b) (h3 : a < c) (h4 : c < b) (k1 : l[j]? = some a') (k2 : l[j + 1]? = some b') (k3 : a' < c) (k4 : c < b') : ¬ k < j := by
  intro e
  rcases Nat.lt_or_eq_of_le (Nat.succ_le_of_lt e) with e2 | e2
  · have := h.lt e2 h2 k1; omega
  · have e3 : j = k + 1 := by omega
    subst e3; rw [k1] at h2; cases h2; omega
theorem ShSpec.unique {l : List Int} (h : Axis l) {c : Int} {S S' : List (Nat × Rat)} (h1 : ShSpec l c S) (h2 : ShSpec l c S') : S = S' := by
  rcases h1 with ⟨k, a1, rfl⟩ | ⟨k, a, b, a1, a2, a3, a4, rfl⟩
  · rcases h2 with ⟨j, b1, rfl⟩ | ⟨j, a', b', b1, b2, b3, b4, rfl⟩
    · rw [h.inj a1 b1]
    · exact (h.mid b1 b2 b3 b4 a1).elim
  · rcases h2 with ⟨j, b1, rfl⟩ | ⟨j, a', b', b1, b2, b3, b4, rfl⟩
    · exact (h.mid a1 a2 a3 a4 b1).elim
    · have e : k = j := by
        have e1 := h.mid2 a1 a2 a3 a4 b1 b2 b3 b4
        have e2 := h.mid2 b1 b2 b3 b4 a1 a2 a3 a4
        omega
      subst e
      rw [a1] at b1; cases b1
      rw [a2] at b2; cases b2
      rfl
theorem WSpec.unique {a b c : List Int} (ha : Axis a) (hb : Axis b) (hc : Axis c) {x y z : Int} {W W' : List (Nat × Rat)} (h : WSpec a b c x y z W) (k : WSpec a b c x y z W') : W = W' := by
  obtain ⟨Sa, Sb, Sc, h1, h2, h3, rfl⟩ := h
  obtain ⟨Ta, Tb, Tc, k1, k2, k3, rfl⟩ := k
  rw [h1.unique ha k1, h2.unique hb k2, h3.unique hc k3]
noncomputable def Wf (a b c : List Int) (x y z : Int) : List (Nat × Rat) := Classical.epsilon (WSpec a b c x y z)
theorem Wf_spec {a b c : List Int} (ha : Axis a) (hb : Axis b) (hc : Axis c) (hck : interp_Check_p [a, b, c] = some 0) (x y z : Int) : WSpec a b c x y z (Wf a b c x y z) ∧ interp_Weights_p [a, b, c] [x, y, z] = some ((Wf a b c x y z).map toWt, 0) := by
  obtain ⟨W, h1, h2⟩ := weights_p ha hb hc hck x y z
  have h3 : WSpec a b c x y z (Wf a b c x y z) := Classical.epsilon_spec ⟨W, h1⟩
  exact ⟨h3, by rw [h3.unique ha hb hc h1]; exact h2⟩
/-! ### Maps of sums -/
def addK (m : List (Int × Rat)) (t : Int × Rat) : List (Int × Rat) := putP t.1 (getP t.1 0 m + t.2) m
def mapR (m : List (Int × Rat)) : List (Int × Raw) := m.map fun p => (p.1, Raw.of p.2)
theorem of0 : Raw.of 0 = Raw.zero := by kernel_rfl
theorem getP_map (k : Int) : ∀ m : List (Int × Rat), getP k Raw.zero (mapR m) = Raw.of (getP k 0 m)
  | [] => of0.symm
  | p :: m => by
    show (bif k == p.1 then Raw.of p.2 else getP k Raw.zero (mapR m)) = Raw.of (bif k == p.1 then p.2 else getP k 0 m)
    rw [getP_map k m]
    cases k == p.1 <;> rfl
theorem putP_map (k : Int) (q : Rat) : ∀ m : List (Int × Rat), putP k (Raw.of q) (mapR m) = mapR (putP k q m)
  | [] => rfl
  | p :: m => by
    show (bif k == p.1 then (k, Raw.of q) :: mapR m else (p.1, Raw.of p.2) :: putP k (Raw.of q) (mapR m)) = mapR (bif k == p.1 then (k, q) :: m else p :: putP k q m)
    rw [putP_map k q m]
    cases k == p.1 <;> rfl
theorem beqT {k j : Int} (h : k = j) : (k == j) = true := by simpa using h
theorem beqF {k j : Int} (h : ¬ k = j) : (k == j) = false := by simpa using h
theorem getP_put {α : Type} (k j : Int) (z v : α) : ∀ m : List (Int × α), getP k z (putP j v m) = if k = j then v else getP k z m
  | [] => by
    show (bif k == j then v else z) = if k = j then v else z
    by_cases h : k = j
    · rw [beqT h, if_pos h]; rfl
    · rw [beqF h, if_neg h]; rfl
  | p :: m => by
    show getP k z (bif j == p.1 then (j, v) :: m else p :: putP j v m) = if k = j then v else (bif k == p.1 then p.2 else getP k z m)
    by_cases h : j = p.1
    · rw [beqT h, cond_true]
      show (bif k == j then v else getP k z m) = _
      by_cases h2 : k = j
      · rw [beqT h2, if_pos h2]; rfl
      · have h3 : ¬ k = p.1 := h ▸ h2
        rw [beqF h2, if_neg h2, beqF h3]; rfl
    · rw [beqF h, cond_false]
      show (bif k == p.1 then p.2 else getP k z (putP j v m)) = _
      rw [getP_put k j z v m]
      by_cases h2 : k = p.1
      · have h3 : ¬ k = j := fun e => h (e ▸ h2)
        rw [beqT h2, cond_true, cond_true, if_neg h3]
      · rw [beqF h2, cond_false, cond_false]
theorem keys_put {α : Type} (j : Int) (v : α) : ∀ m : List (Int × α), (putP j v m).map Prod.fst = if j ∈ m.map Prod.fst then m.map Prod.fst else m.map Prod.fst ++ [j]
  | [] => rfl
  | p :: m => by
    show (bif j == p.1 then (j, v) :: m else p :: putP j v m).map Prod.fst = _
    by_cases h : j = p.1
    · simp [h]
    · rw [show (j == p.1) = false by simp [h], cond_false, List.map_cons, keys_put j v m, List.map_cons]
      by_cases h2 : j ∈ m.map Prod.fst
      · rw [if_pos h2, if_pos (List.mem_cons_of_mem _ h2)]
      · rw [if_neg h2, if_neg (by simp only [List.mem_cons, not_or]; exact ⟨h, h2⟩), List.cons_append]
def sumAt (k : Int) : List (Int × Rat) → Rat
  | [] => 0
  | t :: l => (if t.1 = k then t.2 else 0) + sumAt k l
theorem getP_fold (k : Int) : ∀ (T m : List (Int × Rat)), getP k 0 (T.foldl addK m) = getP k 0 m + sumAt k T
  | [], m => by simp [sumAt, Rat.add_zero]
  | t :: T, m => by
    rw [List.foldl_cons, getP_fold k T, addK, getP_put, sumAt]
    by_cases h : k = t.1
    · subst h; simp only [if_true]; rw [Rat.add_assoc]
    · rw [if_neg h, if_neg (fun e => h e.symm), Rat.zero_add]
theorem keys_fold : ∀ (T m : List (Int × Rat)), (m.map Prod.fst).Nodup → ((T.foldl addK m).map Prod.fst).Nodup ∧ ∀ k, k ∈ (T.foldl addK m).map Prod.fst ↔ k ∈ m.map Prod.fst ∨ k ∈ T.map Prod.fst
  | [], m, h => ⟨h, fun k => by simp⟩
  | t :: T, m, h => by
    have hn : ((addK m t).map Prod.fst).Nodup := by
      rw [addK, keys_put]
      split
      · exact h
      · rename_i h2; exact List.nodup_append.2 ⟨h, by simp, fun a ha b hb => by rw [List.mem_singleton.1 hb]; exact fun e => h2 (e ▸ ha)⟩
    obtain ⟨h1, h2⟩ := keys_fold T (addK m t) hn
    refine ⟨h1, fun k => ?_⟩
    rw [List.foldl_cons, h2 k, addK, keys_put, List.map_cons, List.mem_cons]
    split
    · rename_i h3
      constructor
      · rintro (h4 | h4)
        · exact .inl h4
        · exact .inr (.inr h4)
      · rintro (h4 | rfl | h4)
        · exact .inl h4
        · exact .inl h3
        · exact .inr h4
    · rw [List.mem_append, List.mem_singleton]
      constructor
      · rintro ((h4 | rfl) | h4)
        · exact .inl h4
        · exact .inr (.inl rfl)
        · exact .inr (.inr h4)
      · rintro (h4 | rfl | h4)
        · exact .inl (.inl h4)
        · exact .inl (.inr rfl)
        · exact .inr h4
/-! ### spread -/
def keyZ (n : Nat) (b : Int) (v : Nat) : Int := ((v * n : Nat) : Int) + b
theorem l72 {x : ModelD} {b : Int} {pq : Rat} {e : Int} {D B : Nat} (J : List (Int × Raw) → Option (List Out × Int)) (ha : x.advisories.length ≤ 6) (hb : 0 ≤ b ∧ b < 6) (hpq : ratE pq = 0) (hD0 : D ≠ 0) (hD : D < K128) : ∀ (W : List (Nat × Rat)) (m : List (Int × Rat)) (n : Nat), (∀ w ∈ W, ratE w.2 = 0 ∧ ratE (pq * w.2) = 0 ∧ DB D B (pq * w.2) ∧ w.1 < 100000) → (∀ k, DB D (B * n) (getP k 0 m)) → B * (n + W.length) < K128 →
    dynamics_spread_l72 x b (Raw.of pq, e) J (W.map toWt) (mapR m) = J (mapR ((W.map fun w => (keyZ x.advisories.length b w.1, pq * w.2)).foldl addK m)) ∧ ∀ k, DB D (B * (n + W.length)) (getP k 0 ((W.map fun w => (keyZ x.advisories.length b w.1, pq * w.2)).foldl addK m))
  | [], m, n, _, hm, _ => ⟨by simp [dynamics_spread_l72], fun k => hm k⟩
  | w :: W, m, n, hw, hm, hB => by
    obtain ⟨w1, w2, w3, w4⟩ := hw w (by simp)
    have hB1 : B * (n + 1) ≤ B * (n + (w :: W).length) := Nat.mul_le_mul_left _ (by simp)
    have hB0 : B * n ≤ B * (n + (w :: W).length) := Nat.mul_le_mul_left _ (by simp)
    have hadd := (hm (keyZ x.advisories.length b w.1)).add hD0 w3
    have hadd' : DB D (B * (n + 1)) (getP (keyZ x.advisories.length b w.1) 0 m + pq * w.2) := by rw [Nat.mul_succ]; exact hadd
    have hm' : ∀ k, DB D (B * (n + 1)) (getP k 0 (addK m (keyZ x.advisories.length b w.1, pq * w.2))) := fun k => by
      rw [addK, getP_put]
      split
      · exact hadd'
      · exact (hm k).mono (Nat.mul_le_mul_left _ (by omega))
    obtain ⟨i1, i2⟩ := l72 J ha hb hpq hD0 hD W (addK m (keyZ x.advisories.length b w.1, pq * w.2)) (n + 1) (fun q hq => hw q (by simp [hq])) hm' (by rw [show n + 1 + W.length = n + (w :: W).length by simp; omega]; exact hB)
    refine ⟨?_, fun k => ?_⟩
    · rw [List.map_cons, dynamics_spread_l72]
      have e1 : rat_Mul_p (Raw.of pq, e).1 (toWt w).w = some (Raw.of (pq * w.2), 0) := by
        unfold rat_Mul_p
        rw [show (toWt w).w = Raw.of w.2 from rfl, Raw.of_rat, Raw.of_rat, (opR_fit (of_fit hpq).1 (of_fit w1).1 w2).1, (opR_fit (of_fit hpq).1 (of_fit w1).1 w2).2]
      have ek : IntKind.i64.wrap (IntKind.i64.wrap ((toWt w).vertex * (x.advisories.length : Int)) + b) = keyZ x.advisories.length b w.1 := by
        show IntKind.i64.wrap (IntKind.i64.wrap ((w.1 : Int) * (x.advisories.length : Int)) + b) = _
        have hle : w.1 * x.advisories.length ≤ 100000 * 6 := Nat.mul_le_mul (Nat.le_of_lt w4) ha
        unfold keyZ
        obtain ⟨t, ht⟩ : ∃ t, t = w.1 * x.advisories.length := ⟨_, rfl⟩
        rw [← ht] at hle ⊢
        rw [← Int.natCast_mul, ← ht, wi64 (x := (t : Int)) (by omega) (by omega), wi64 (by omega) (by omega)]
      have hkr : -9223372036854775808 ≤ keyZ x.advisories.length b w.1 ∧ keyZ x.advisories.length b w.1 ≤ 9223372036854775807 := by
        have hle : w.1 * x.advisories.length ≤ 100000 * 6 := Nat.mul_le_mul (Nat.le_of_lt w4) ha
        unfold keyZ
        omega
      have f0 : ratE (getP (keyZ x.advisories.length b w.1) 0 m) = 0 := (hm _).fit hD (Nat.lt_of_le_of_lt hB0 hB)
      have f1 : ratE (getP (keyZ x.advisories.length b w.1) 0 m + pq * w.2) = 0 := hadd'.fit hD (Nat.lt_of_le_of_lt hB1 hB)
      rw [bnds e1, ek]
      show ((some (getP (keyZ x.advisories.length b w.1) Raw.zero (mapR m))).bind _) = _
      rw [Option.bind_some, getP_map]
      have e2 : rat_Add_p (Raw.of (getP (keyZ x.advisories.length b w.1) 0 m)) (Raw.of (pq * w.2)) = some (Raw.of (getP (keyZ x.advisories.length b w.1) 0 m + pq * w.2), 0) := by
        unfold rat_Add_p
        rw [Raw.of_rat, Raw.of_rat, (opR_fit (of_fit f0).1 (of_fit w2).1 f1).1, (opR_fit (of_fit f0).1 (of_fit w2).1 f1).2]
      show ((rat_Add_p (Raw.of (getP (keyZ x.advisories.length b w.1) 0 m)) (Raw.of (pq * w.2))).bind _) = _
      rw [bnds e2, grdT hkr]
      show dynamics_spread_l72 x b (Raw.of pq, e) J (W.map toWt) (putP _ (Raw.of _) (mapR m)) = _
      rw [putP_map]
      exact i1
    · rw [List.map_cons, List.foldl_cons, show n + (w :: W).length = n + 1 + W.length by simp; omega]
      exact i2 k
/-- A noise whose number is good. -/
structure NZ (n : NoiseD) : Prop where
  chk : n.p.chk = 0
  db : DB n.p.d (2 ^ 256) n.p.rat
  d : n.p.d ≤ 2 ^ 256
  lo : -100 ≤ n.delta
  hi : n.delta ≤ 100
structure Env (x : ModelD) (h u v b r : Int) : Prop where
  h1 : Axis x.height
  h2 : Axis x.own
  h3 : Axis x.other
  ck : interp_Check_p [x.height, x.own, x.other] = some 0
  a0 : 1 ≤ x.advisories.length
  a : x.advisories.length ≤ 6
  b0 : 0 ≤ b
  b1 : b < 6
  rr : dynamics_respond_p x u b = some r
  r0 : -1000 ≤ r
  r1 : r ≤ 1000
  hb : -100000 ≤ h ∧ h ≤ 100000
  ub : -100 ≤ u ∧ u ≤ 100
  vb : -100 ≤ v ∧ v ≤ 100
  o1 : ∀ n ∈ x.ownNoise, NZ n
  o2 : ∀ n ∈ x.otherNoise, NZ n
  l1 : x.ownNoise.length ≤ 5
  l2 : x.otherNoise.length ≤ 5
/-- The terms of one pair of noises. -/
noncomputable def pairT (x : ModelD) (h u v b r : Int) (n o : NoiseD) : List (Int × Rat) :=
  (Wf x.height x.own x.other (h + v - u) (r + n.delta) (v + o.delta)).map fun w => (keyZ x.advisories.length b w.1, n.p.rat * o.p.rat * w.2)
noncomputable def termsT (x : ModelD) (h u v b r : Int) : List (Int × Rat) := x.ownNoise.flatMap fun n => x.otherNoise.flatMap fun o => pairT x h u v b r n o
section
variable {x : ModelD} {h u v b r : Int}
/-- Denominators of the shares. -/
theorem Env.dens (E : Env x h u v b r) : ∃ (da : Nat) (fo ft : NoiseD → Nat), (da ≠ 0 ∧ da ≤ 100000) ∧ (∀ n, fo n ≠ 0 ∧ fo n ≤ 100000) ∧ (∀ n, ft n ≠ 0 ∧ ft n ≤ 100000) ∧ ∀ n o, ∀ w ∈ Wf x.height x.own x.other (h + v - u) (r + n.delta) (v + o.delta), DB (da * fo n * ft o) (da * fo n * ft o) w.2 := by
  have key : ∀ (l : List Int) (hl : Axis l) (c : Int), ∃ d, (d ≠ 0 ∧ d ≤ 100000) ∧ ∀ S, ShSpec l (clampL l c) S → ∀ s ∈ S, DB d d s.2 := fun l hl c => by
    obtain ⟨S, h1, _⟩ := shares_p hl c
    obtain ⟨_, _, d, h2, h3, h4⟩ := h1.db hl
    exact ⟨d, ⟨h2, h3⟩, fun T hT => by rw [hT.unique hl h1]; exact h4⟩
  obtain ⟨da, k1, k2⟩ := key _ E.h1 (h + v - u)
  obtain ⟨fo, k3⟩ := Classical.skolem.1 fun n : NoiseD => key _ E.h2 (r + n.delta)
  obtain ⟨ft, k4⟩ := Classical.skolem.1 fun n : NoiseD => key _ E.h3 (v + n.delta)
  refine ⟨da, fo, ft, k1, fun n => (k3 n).1, fun n => (k4 n).1, fun n o => ?_⟩
  obtain ⟨Sa, Sb, Sc, s1, s2, s3, e⟩ := (Wf_spec E.h1 E.h2 E.h3 E.ck (h + v - u) (r + n.delta) (v + o.delta)).1
  rw [e]
  have := wstep_db (len := x.other.length) (wstep_db (len := x.own.length) (wstep_db (len := x.height.length) (D := 1) (B := 1) (W := [(0, 1)]) (fun p hp => by rw [List.mem_singleton.1 hp]; exact ⟨1, rfl, Nat.le_refl _⟩) (k2 Sa s1)) ((k3 n).2 Sb s2)) ((k4 o).2 Sc s3)
  simpa only [Nat.one_mul] using this
/-- One denominator for all. -/
theorem Env.common (E : Env x h u v b r) : ∃ D B : Nat, D ≠ 0 ∧ D < K128 ∧ B * 1000000000000 < K128 ∧ ∀ n ∈ x.ownNoise, ∀ o ∈ x.otherNoise, ratE (n.p.rat * o.p.rat) = 0 ∧ ∀ w ∈ Wf x.height x.own x.other (h + v - u) (r + n.delta) (v + o.delta), ratE w.2 = 0 ∧ ratE (n.p.rat * o.p.rat * w.2) = 0 ∧ DB D B (n.p.rat * o.p.rat * w.2) ∧ w.1 < 100000 := by
  obtain ⟨da, fo, ft, k1, k2, k3, k4⟩ := E.dens
  obtain ⟨D, hD⟩ : ∃ D, D = prodN (x.ownNoise.map (·.p.d)) * prodN (x.otherNoise.map (·.p.d)) * (da * prodN (x.ownNoise.map fo) * prodN (x.otherNoise.map ft)) := ⟨_, rfl⟩
  have p1 : prodN (x.ownNoise.map (·.p.d)) ≤ (2 ^ 256) ^ 5 := prodN_le (by decide) (fun y hy => by obtain ⟨n, hn, rfl⟩ := List.mem_map.1 hy; exact (E.o1 n hn).d) (by simpa using E.l1)
  have p2 : prodN (x.otherNoise.map (·.p.d)) ≤ (2 ^ 256) ^ 5 := prodN_le (by decide) (fun y hy => by obtain ⟨n, hn, rfl⟩ := List.mem_map.1 hy; exact (E.o2 n hn).d) (by simpa using E.l2)
  have p3 : prodN (x.ownNoise.map fo) ≤ 100000 ^ 5 := prodN_le (by decide) (fun y hy => by obtain ⟨n, hn, rfl⟩ := List.mem_map.1 hy; exact (k2 n).2) (by simpa using E.l1)
  have p4 : prodN (x.otherNoise.map ft) ≤ 100000 ^ 5 := prodN_le (by decide) (fun y hy => by obtain ⟨n, hn, rfl⟩ := List.mem_map.1 hy; exact (k3 n).2) (by simpa using E.l2)
  have hD0 : D ≠ 0 := by
    rw [hD]
    refine Nat.mul_ne_zero (Nat.mul_ne_zero ?_ ?_) (Nat.mul_ne_zero (Nat.mul_ne_zero k1.1 ?_) ?_)
    · exact prodN_pos fun y hy => by obtain ⟨n, hn, rfl⟩ := List.mem_map.1 hy; exact Nat.ne_of_gt (Raw.d_pos _)
    · exact prodN_pos fun y hy => by obtain ⟨n, hn, rfl⟩ := List.mem_map.1 hy; exact Nat.ne_of_gt (Raw.d_pos _)
    · exact prodN_pos fun y hy => by obtain ⟨n, hn, rfl⟩ := List.mem_map.1 hy; exact (k2 n).1
    · exact prodN_pos fun y hy => by obtain ⟨n, hn, rfl⟩ := List.mem_map.1 hy; exact (k3 n).1
  have hDle : D ≤ (2 ^ 256) ^ 5 * (2 ^ 256) ^ 5 * (100000 * 100000 ^ 5 * 100000 ^ 5) := by
    rw [hD]
    exact Nat.mul_le_mul (Nat.mul_le_mul p1 p2) (Nat.mul_le_mul (Nat.mul_le_mul k1.2 p3) p4)
  refine ⟨D, (2 ^ 256 * 2 ^ 256 * (100000 * 100000 * 100000)) * D, hD0, Nat.lt_of_le_of_lt hDle (by decide), ?_, fun n hn o ho => ?_⟩
  · refine Nat.lt_of_le_of_lt (Nat.mul_le_mul_right _ (Nat.mul_le_mul_left _ hDle)) (by decide)
  have zn := E.o1 n hn
  have zo := E.o2 o ho
  have b0 := zn.db.mul zo.db
  have hw3 : da * fo n * ft o ≤ 100000 * 100000 * 100000 := Nat.mul_le_mul (Nat.mul_le_mul k1.2 (k2 n).2) (k3 o).2
  refine ⟨b0.fit (Nat.lt_of_le_of_lt (Nat.mul_le_mul zn.d zo.d) (by decide)) (by decide), fun w hw => ?_⟩
  have b1 := k4 n o w hw
  have b2 := b0.mul b1
  have hdv : n.p.d * o.p.d * (da * fo n * ft o) ∣ D := by
    rw [hD]
    refine Nat.mul_dvd_mul (Nat.mul_dvd_mul (prodN_dvd ?_) (prodN_dvd ?_)) (Nat.mul_dvd_mul (Nat.mul_dvd_mul (Nat.dvd_refl _) (prodN_dvd ?_)) (prodN_dvd ?_))
    · exact List.mem_map.2 ⟨n, hn, rfl⟩
    · exact List.mem_map.2 ⟨o, ho, rfl⟩
    · exact List.mem_map.2 ⟨n, hn, rfl⟩
    · exact List.mem_map.2 ⟨o, ho, rfl⟩
  have hW := (Wf_spec E.h1 E.h2 E.h3 E.ck (h + v - u) (r + n.delta) (v + o.delta)).1.db E.h1 E.h2 E.h3
  have hv := hW.2.1 w hw
  have n1 := E.h1.le
  have n2 := E.h2.le
  have n3 := E.h3.le
  have nn : x.height.length * x.own.length * x.other.length ≤ 32 * 32 * 32 := Nat.mul_le_mul (Nat.mul_le_mul n1 n2) n3
  refine ⟨b1.fit (Nat.lt_of_le_of_lt hw3 (by decide)) (Nat.lt_of_le_of_lt hw3 (by decide)), b2.fit (Nat.lt_of_le_of_lt (Nat.mul_le_mul (Nat.mul_le_mul zn.d zo.d) hw3) (by decide)) (Nat.lt_of_le_of_lt (Nat.mul_le_mul_left _ hw3) (by decide)), ?_, by omega⟩
  exact (b2.dvd hdv hD0).mono (Nat.mul_le_mul_right _ (Nat.mul_le_mul_left _ hw3))
end
end Go.Proofs.YtjnbipmlmafahaaGreat
/- What spread answers: the list of the sums. By an AI agent. -/
namespace Go.Proofs.YtjnbipmlmafahaaGreat
open Go Go.Gv Go.RowKit
set_option maxRecDepth 100000
set_option maxHeartbeats 1000000
section
variable {x : ModelD} {h u v b r : Int}
theorem nz_out {n o : NoiseD} (h1 : NZ n) (h2 : NZ o) (hf : ratE (n.p.rat * o.p.rat) = 0) : rat_Mul_p n.p o.p = some (Raw.of (n.p.rat * o.p.rat), 0) := by
  unfold rat_Mul_p
  rw [(opR_fit h1.chk h2.chk hf).1, (opR_fit h1.chk h2.chk hf).2]
theorem l35 (E : Env x h u v b r) {D B : Nat} (hD0 : D ≠ 0) (hD : D < K128) {n : NoiseD} (hn : n ∈ x.ownNoise)
    (hc : ∀ o ∈ x.otherNoise, ratE (n.p.rat * o.p.rat) = 0 ∧ ∀ w ∈ Wf x.height x.own x.other (h + v - u) (r + n.delta) (v + o.delta), ratE w.2 = 0 ∧ ratE (n.p.rat * o.p.rat * w.2) = 0 ∧ DB D B (n.p.rat * o.p.rat * w.2) ∧ w.1 < 100000)
    (J : List (Int × Raw) → Option (List Out × Int)) : ∀ (os : List NoiseD) (m : List (Int × Rat)) (c : Nat), (∀ o ∈ os, o ∈ x.otherNoise) → (∀ k, DB D (B * c) (getP k 0 m)) → B * (c + 8 * os.length) < K128 →
    dynamics_spread_l35 x h u v b n J os (mapR m) = J (mapR ((os.flatMap fun o => pairT x h u v b r n o).foldl addK m)) ∧ ∀ k, DB D (B * (c + 8 * os.length)) (getP k 0 ((os.flatMap fun o => pairT x h u v b r n o).foldl addK m))
  | [], m, c, _, hm, _ => ⟨by simp [dynamics_spread_l35], fun k => by simpa using hm k⟩
  | o :: os, m, c, hos, hm, hB => by
    have ho := hos o (by simp)
    obtain ⟨f1, f2⟩ := hc o ho
    obtain ⟨s1, s2⟩ := Wf_spec E.h1 E.h2 E.h3 E.ck (h + v - u) (r + n.delta) (v + o.delta)
    obtain ⟨g1, _, _⟩ := s1.db E.h1 E.h2 E.h3
    have hlen : c + 8 * (o :: os).length = c + 8 + 8 * os.length := by simp; omega
    have hle : B * (c + (Wf x.height x.own x.other (h + v - u) (r + n.delta) (v + o.delta)).length) ≤ B * (c + 8 * (o :: os).length) := Nat.mul_le_mul_left _ (by rw [hlen]; omega)
    obtain ⟨i1, i2⟩ := l72 (x := x) (b := b) (pq := n.p.rat * o.p.rat) (e := 0) (D := D) (B := B) (fun v72 => dynamics_spread_l35 x h u v b n J os v72) E.a ⟨E.b0, E.b1⟩ f1 hD0 hD _ m c f2 hm (Nat.lt_of_le_of_lt hle hB)
    have hm' : ∀ k, DB D (B * (c + 8)) (getP k 0 ((pairT x h u v b r n o).foldl addK m)) := fun k => (i2 k).mono (Nat.mul_le_mul_left _ (by omega))
    obtain ⟨j1, j2⟩ := l35 E hD0 hD hn hc J os _ (c + 8) (fun q hq => hos q (by simp [hq])) hm' (by rw [← hlen]; exact hB)
    have zn := E.o1 n hn
    have zo := E.o2 o ho
    have q1 := E.hb; have q2 := E.ub; have q3 := E.vb; have q4 := E.r0; have q5 := E.r1; have q6 := zn.lo; have q7 := zn.hi; have q8 := zo.lo; have q9 := zo.hi
    rw [List.flatMap_cons, List.foldl_append, hlen]
    refine ⟨?_, j2⟩
    rw [dynamics_spread_l35, bnds (nz_out zn zo f1), show dynamics_grid_p x = some [x.height, x.own, x.other] from rfl, Option.bind_some, bnds E.rr]
    rw [wi64 (x := h + v) (by omega) (by omega), wi64 (x := h + v - u) (by omega) (by omega), wi64 (x := r + n.delta) (by omega) (by omega), wi64 (x := v + o.delta) (by omega) (by omega), bnds s2, if_neg (by show ¬ ((0 : Int) != 0) = true; decide), lt, List.drop_zero]
    exact i1.trans j1
theorem l27 (E : Env x h u v b r) {D B : Nat} (hD0 : D ≠ 0) (hD : D < K128)
    (hc : ∀ n ∈ x.ownNoise, ∀ o ∈ x.otherNoise, ratE (n.p.rat * o.p.rat) = 0 ∧ ∀ w ∈ Wf x.height x.own x.other (h + v - u) (r + n.delta) (v + o.delta), ratE w.2 = 0 ∧ ratE (n.p.rat * o.p.rat * w.2) = 0 ∧ DB D B (n.p.rat * o.p.rat * w.2) ∧ w.1 < 100000) :
    ∀ (ns : List NoiseD) (m : List (Int × Rat)) (c : Nat), (∀ n ∈ ns, n ∈ x.ownNoise) → (∀ k, DB D (B * c) (getP k 0 m)) → B * (c + 40 * ns.length) < K128 →
    dynamics_spread_l27 x h u v b ns (mapR m) = dynamics_spread_l27 x h u v b [] (mapR ((ns.flatMap fun n => x.otherNoise.flatMap fun o => pairT x h u v b r n o).foldl addK m)) ∧ ∀ k, DB D (B * (c + 40 * ns.length)) (getP k 0 ((ns.flatMap fun n => x.otherNoise.flatMap fun o => pairT x h u v b r n o).foldl addK m))
  | [], m, c, _, hm, _ => ⟨rfl, fun k => by simpa using hm k⟩
  | n :: ns, m, c, hns, hm, hB => by
    have hn := hns n (by simp)
    have hlen : c + 40 * (n :: ns).length = c + 40 + 40 * ns.length := by simp; omega
    have l2 := E.l2
    have hle : B * (c + 8 * x.otherNoise.length) ≤ B * (c + 40 * (n :: ns).length) := Nat.mul_le_mul_left _ (by rw [hlen]; omega)
    obtain ⟨i1, i2⟩ := l35 E hD0 hD hn (hc n hn) (fun v29 => dynamics_spread_l27 x h u v b ns v29) x.otherNoise m c (fun _ h => h) hm (Nat.lt_of_le_of_lt hle hB)
    have hm' : ∀ k, DB D (B * (c + 40)) (getP k 0 ((x.otherNoise.flatMap fun o => pairT x h u v b r n o).foldl addK m)) := fun k => (i2 k).mono (Nat.mul_le_mul_left _ (by omega))
    obtain ⟨j1, j2⟩ := l27 E hD0 hD hc ns _ (c + 40) (fun q hq => hns q (by simp [hq])) hm' (by rw [← hlen]; exact hB)
    rw [List.flatMap_cons, List.foldl_append, hlen]
    refine ⟨?_, j2⟩
    conv => lhs; rw [dynamics_spread_l27, lt, List.drop_zero]
    exact i1.trans j1
/-- The sums by their keys. -/
noncomputable def sums (x : ModelD) (h u v b r : Int) : List (Int × Rat) := (termsT x h u v b r).foldl addK []
theorem l117 (J : List Out → Option (List Out × Int)) (m : List (Int × Rat)) : ∀ (ks : List Int) (acc : List Out), acc.length + ks.length ≤ 1000 → dynamics_spread_l117 (mapR m) J ks acc = J (acc ++ ks.map fun k => Out.mk k (Raw.of (getP k 0 m)))
  | [], acc, _ => by simp [dynamics_spread_l117]
  | k :: ks, acc, hl => by
    rw [dynamics_spread_l117, Option.bind_some, grdT (by simp at hl; omega), l117 J m ks _ (by simp at hl ⊢; omega), getP_map]
    simp
theorem Env.fits (E : Env x h u v b r) : ∀ k, ratE (getP k 0 (sums x h u v b r)) = 0 := by
  obtain ⟨D, B, d0, d1, d2, hc⟩ := E.common
  have hl : B * (0 + 40 * x.ownNoise.length) < K128 := Nat.lt_of_le_of_lt (Nat.mul_le_mul_left _ (by have := E.l1; omega)) d2
  obtain ⟨_, h2⟩ := l27 E d0 d1 hc x.ownNoise [] 0 (fun _ h => h) (fun k => show DB D (B * 0) 0 by rw [Nat.mul_zero]; exact DB.zero) hl
  exact fun k => (h2 k).fit d1 hl
theorem spread_spec (E : Env x h u v b r) : dynamics_spread_p x h u v b = some (if ((sums x h u v b r).length : Int) > 64 then ([], 10) else ((sortZ ((sums x h u v b r).map Prod.fst)).map fun k => Out.mk k (Raw.of (getP k 0 (sums x h u v b r))), 0)) := by
  obtain ⟨D, B, d0, d1, d2, hc⟩ := E.common
  have hl : B * (0 + 40 * x.ownNoise.length) < K128 := Nat.lt_of_le_of_lt (Nat.mul_le_mul_left _ (by have := E.l1; omega)) d2
  obtain ⟨h1, _⟩ := l27 E d0 d1 hc x.ownNoise [] 0 (fun _ h => h) (fun k => show DB D (B * 0) 0 by rw [Nat.mul_zero]; exact DB.zero) hl
  unfold dynamics_spread_p
  rw [List.drop_zero]
  refine h1.trans ?_
  show dynamics_spread_l27 x h u v b [] (mapR (sums x h u v b r)) = _
  have hlen : (mapR (sums x h u v b r)).length = (sums x h u v b r).length := by simp [mapR]
  rw [dynamics_spread_l27, hlen]
  split
  · rfl
  · rename_i h9
    have h10 : (sums x h u v b r).length ≤ 64 := by omega
    have hk : (mapR (sums x h u v b r)).map Prod.fst = (sums x h u v b r).map Prod.fst := by simp [mapR]
    rw [lt, grdT (by omega), Option.bind_some, hk, List.drop_zero, l117 _ _ _ _ (by rw [(sortZ_perm _).length_eq]; simp; omega), List.nil_append]
end
end Go.Proofs.YtjnbipmlmafahaaGreat
/- What passes Check, in full. By an AI agent. -/
namespace Go.Proofs.YtjnbipmlmafahaaGreat
open Go Go.Gv Go.RowKit
set_option maxRecDepth 100000
set_option maxHeartbeats 1000000
/-- Limbs below the base. -/
def Lim (r : Raw) : Prop := (∀ y ∈ r.ln, y < 4294967296) ∧ ∀ y ∈ r.ld, y < 4294967296
structure LimM (x : ModelD) : Prop where
  o : ∀ n ∈ x.ownNoise, Lim n.p
  t : ∀ n ∈ x.otherNoise, Lim n.p
theorem NoiseDS.lim {r : Rd} {ad : Option Addr} {len cap : Nat} {xs : List NoiseD} (h : NoiseDS r ad len cap xs) : ∀ n ∈ xs, Lim n.p := fun n hn => by
  obtain ⟨k, hk⟩ := List.getElem?_of_mem hn
  obtain ⟨b, off, _, _, a1, a2, a3, a4, _, h1, h2⟩ := SlR.opn h hk
  exact ⟨h1.hlt, h2.hlt⟩
theorem ModelDV.lim {r : Rd} {v : Value} {x : ModelD} (h : ModelDV r v x) : LimM x := by
  refine ModelDV.op h ?_
  intros
  exact ⟨NoiseDS.lim (by assumption), NoiseDS.lim (by assumption)⟩
theorem ifz {c : Prop} [Decidable c] {e : Int} {o : Option Int} (he : e ≠ 0) : (if c then some e else o) = some 0 ↔ ¬ c ∧ o = some 0 := by
  by_cases h : c
  · rw [if_pos h]; simp [h, he]
  · rw [if_neg h]; simp [h]
theorem bnz {o J : Option Int} : (o.bind fun y => if (y != 0) = true then some y else J) = some 0 ↔ o = some 0 ∧ J = some 0 := by
  cases o with
  | none => simp
  | some e =>
    rw [Option.bind_some]
    by_cases h : e = 0
    · subst h; simp
    · rw [if_pos (by simpa using h)]; simp [h]
/-- A short number. -/
structure ShortR (r : Raw) : Prop where
  chk : r.chk = 0
  n8 : r.ln.length ≤ 8
  d8 : r.ld.length ≤ 8
theorem checkRat_iff (r : Raw) : dynamics_checkRat_p r = some 0 ↔ ShortR r := by
  unfold dynamics_checkRat_p rat_Check_p
  rw [bnz, ifz (by decide), ifz (by decide)]
  constructor
  · rintro ⟨h1, h2, h3, _⟩
    exact ⟨Option.some.inj h1, by omega, by omega⟩
  · intro h
    have h1 := h.n8
    have h2 := h.d8
    exact ⟨by rw [h.chk], by omega, by omega, rfl⟩
theorem two256 : (4294967296 : Nat) ^ 8 = 2 ^ 256 := by decide
theorem val8 {l : List Nat} (h : ∀ y ∈ l, y < 4294967296) (h8 : l.length ≤ 8) : val l < 2 ^ 256 := by
  rw [← two256]
  exact Nat.lt_of_lt_of_le (val_lt h) (Nat.pow_le_pow_right (by decide) h8)
theorem ShortR.db {r : Raw} (h : ShortR r) (l : Lim r) : DB r.d (2 ^ 256) r.rat :=
  ⟨_, rfl, by rw [sgn_natAbs]; exact Nat.le_of_lt (val8 l.1 h.n8)⟩
theorem ShortR.d {r : Raw} (h : ShortR r) (l : Lim r) : r.d ≤ 2 ^ 256 := by
  have := val8 l.2 h.d8
  unfold Raw.d
  split
  · exact Nat.one_le_pow _ _ (by decide)
  · exact Nat.le_of_lt this
/-! ### Sums -/
def rsum (l : List Rat) : Rat := l.foldr (· + ·) 0
theorem rsum_nil : rsum [] = 0 := rfl
theorem rsum_cons (q : Rat) (l : List Rat) : rsum (q :: l) = q + rsum l := rfl
theorem rsum_append : ∀ a b : List Rat, rsum (a ++ b) = rsum a + rsum b
  | [], b => by rw [List.nil_append, rsum_nil, Rat.zero_add]
  | q :: a, b => by rw [List.cons_append, rsum_cons, rsum_cons, rsum_append a b, Rat.add_assoc]
theorem rsum_db {E B : Nat} (hE : E ≠ 0) : ∀ {l : List Rat}, (∀ q ∈ l, DB E B q) → DB E (l.length * B) (rsum l)
  | [], _ => by rw [rsum_nil]; simpa using DB.zero
  | q :: l, h => by
    have h1 := (h q (by simp)).add hE (rsum_db hE fun p (hp : p ∈ l) => h p (List.mem_cons_of_mem _ hp))
    rw [rsum_cons]
    exact h1.mono (by simp [Nat.add_mul]; omega)
/-! ### Ascending lists -/
theorem adj_pw {α : Type} (f : α → Int) : ∀ l : List α, (∀ i a b, l[i]? = some a → l[i + 1]? = some b → f a < f b) ↔ l.Pairwise fun a b => f a < f b
  | [] => by simp
  | [x] => by simp
  | x :: y :: l => by
    have ih := adj_pw f (y :: l)
    rw [List.pairwise_cons, ← ih]
    constructor
    · intro h
      have h1 : ∀ i a b, (y :: l)[i]? = some a → (y :: l)[i + 1]? = some b → f a < f b := fun i a b ha hb => h (i + 1) a b (by simpa using ha) (by simpa using hb)
      refine ⟨fun b hb => ?_, h1⟩
      have h0 := h 0 x y (by simp) (by simp)
      rcases List.mem_cons.1 hb with rfl | hb
      · exact h0
      · exact Int.lt_trans h0 ((List.pairwise_cons.1 (ih.1 h1)).1 b hb)
    · rintro ⟨h0, h1⟩ i a b ha hb
      cases i with
      | zero =>
        obtain rfl : x = a := by simpa using ha
        obtain rfl : y = b := by simpa using hb
        exact h0 _ (by simp)
      | succ i => exact h1 i a b (by simpa using ha) (by simpa using hb)
/-! ### Noises -/
structure Nz1 (n : NoiseD) : Prop where
  lo : -100 ≤ n.delta
  hi : n.delta ≤ 100
  sh : ShortR n.p
  pos : n.p.neg = false
  ne : n.p.ln ≠ []
structure NzL (l : List NoiseD) : Prop where
  n1 : 1 ≤ l.length
  n5 : l.length ≤ 5
  el : ∀ n ∈ l, Nz1 n
  asc : l.Pairwise fun a b => a.delta < b.delta
  sum : rsum (l.map (·.p.rat)) = 1
theorem nz_fit {q : List NoiseD} (h : ∀ n ∈ q, Nz1 n ∧ Lim n.p) (h5 : q.length ≤ 5) : ratE (rsum (q.map (·.p.rat))) = 0 := by
  have hE0 : prodN (q.map (·.p.d)) ≠ 0 := prodN_pos fun y hy => by obtain ⟨n, hn, rfl⟩ := List.mem_map.1 hy; exact Nat.ne_of_gt (Raw.d_pos _)
  have hE : prodN (q.map (·.p.d)) ≤ (2 ^ 256) ^ 5 := prodN_le (by decide) (fun y hy => by obtain ⟨n, hn, rfl⟩ := List.mem_map.1 hy; exact (h n hn).1.sh.d (h n hn).2) (by simpa using h5)
  have h1 : DB (prodN (q.map (·.p.d))) ((q.map (·.p.rat)).length * (2 ^ 256 * prodN (q.map (·.p.d)))) (rsum (q.map (·.p.rat))) := rsum_db hE0 fun r hr => by
    obtain ⟨n, hn, rfl⟩ := List.mem_map.1 hr
    exact ((h n hn).1.sh.db (h n hn).2).dvd (prodN_dvd (List.mem_map.2 ⟨n, hn, rfl⟩)) hE0
  refine h1.fit (Nat.lt_of_le_of_lt hE (by decide)) (Nat.lt_of_le_of_lt (Nat.mul_le_mul (show (q.map (·.p.rat)).length ≤ 5 by simpa using h5) (Nat.mul_le_mul_left _ hE)) (by decide))
theorem delta_iff (z : Int) : ¬ (!inS (-100) 100 [z]) = true ↔ -100 ≤ z ∧ z ≤ 100 := by simp [inS]
theorem len_ne {α : Type} {l : List α} : ¬ ((l.length : Int) == 0) = true ↔ l ≠ [] := by
  cases l <;> simp
  omega
theorem cn17 (p0 : List NoiseD) (h5 : p0.length ≤ 5) (hl : ∀ n ∈ p0, Lim n.p) (J : Raw → Option Int) : ∀ (l q : List NoiseD), p0 = q ++ l → (∀ n ∈ q, Nz1 n) →
    (dynamics_checkNoise_l17 p0 J l q.length (Raw.of (rsum (q.map (·.p.rat)))) = some 0 ↔ (∀ n ∈ l, Nz1 n) ∧ (∀ i, q.length ≤ i + 1 → ∀ a b, p0[i]? = some a → p0[i + 1]? = some b → a.delta < b.delta) ∧ J (Raw.of (rsum (p0.map (·.p.rat)))) = some 0)
  | [], q, e, _ => by
    rw [dynamics_checkNoise_l17]
    subst e
    rw [List.append_nil]
    constructor
    · intro h
      refine ⟨by simp, fun i hi a b _ hb => ?_, h⟩
      rw [List.getElem?_eq_none (by omega)] at hb
      cases hb
    · exact fun h => h.2.2
  | x :: l, q, e, hq => by
    have hx : p0[q.length]? = some x := by rw [e]; simp
    have hxm : x ∈ p0 := by rw [e]; simp
    have hk : q.length < p0.length := by rw [e]; simp
    have ih := fun hx1 : Nz1 x => cn17 p0 h5 hl J l (q ++ [x]) (by rw [e]; simp) fun n hn => by
      rcases List.mem_append.1 hn with hn | hn
      · exact hq n hn
      · rw [List.mem_singleton.1 hn]; exact hx1
    rw [dynamics_checkNoise_l17, lt]
    have key : ((dynamics_checkRat_p x.p).bind (fun y25 => if ((y25) != 0) = true then (some y25) else (if x.p.neg = true then (some 1) else (if ((x.p.ln.length : Int) == 0) = true then (some 1) else ((rat_Add_p (Raw.of (rsum (q.map (·.p.rat)))) x.p).bind fun y31 => dynamics_checkNoise_l17 p0 J l (q.length + 1) y31.1)))) = some 0) ↔ (ShortR x.p ∧ x.p.neg = false ∧ x.p.ln ≠ []) ∧ (ShortR x.p ∧ x.p.neg = false ∧ x.p.ln ≠ [] → (rat_Add_p (Raw.of (rsum (q.map (·.p.rat)))) x.p).bind (fun y31 => dynamics_checkNoise_l17 p0 J l (q.length + 1) y31.1) = some 0) := by
      rw [bnz, checkRat_iff, ifz (by decide), ifz (by decide), len_ne]
      constructor
      · rintro ⟨a, b, c, d⟩; exact ⟨⟨a, by simpa using b, c⟩, fun _ => d⟩
      · rintro ⟨⟨a, b, c⟩, d⟩; exact ⟨a, by simp [b], c, d ⟨a, b, c⟩⟩
    have add : ∀ hx1 : Nz1 x, (rat_Add_p (Raw.of (rsum (q.map (·.p.rat)))) x.p).bind (fun y31 => dynamics_checkNoise_l17 p0 J l (q.length + 1) y31.1) = dynamics_checkNoise_l17 p0 J l (q ++ [x]).length (Raw.of (rsum ((q ++ [x]).map (·.p.rat)))) := fun hx1 => by
      have f0 : ratE (rsum (q.map (·.p.rat))) = 0 := nz_fit (fun n hn => ⟨hq n hn, hl n (by rw [e]; simp [hn])⟩) (by omega)
      have e1 : rsum ((q ++ [x]).map (·.p.rat)) = rsum (q.map (·.p.rat)) + x.p.rat := by rw [List.map_append, rsum_append]; simp [rsum, Rat.add_zero]
      have f1 : ratE (rsum (q.map (·.p.rat)) + x.p.rat) = 0 := by
        rw [← e1]
        exact nz_fit (fun n hn => by
          rcases List.mem_append.1 hn with hn | hn
          · exact ⟨hq n hn, hl n (by rw [e]; simp [hn])⟩
          · rw [List.mem_singleton.1 hn]; exact ⟨hx1, hl x hxm⟩) (by simp; omega)
      unfold rat_Add_p
      rw [Option.bind_some, Raw.of_rat, (opR_fit (of_fit f0).1 hx1.sh.chk f1).1, e1, List.length_append]
      rfl
    rw [show dynamics_within_p (100 : Int) = some 100 from rfl, Option.bind_some, within1 _ 100 (by decide), Option.bind_some, ifz (by decide), delta_iff]
    have step : ∀ {A : Prop}, ((-100 ≤ x.delta ∧ x.delta ≤ 100) ∧ (A ∧ ((dynamics_checkRat_p x.p).bind (fun y25 => if ((y25) != 0) = true then (some y25) else (if x.p.neg = true then (some 1) else (if ((x.p.ln.length : Int) == 0) = true then (some 1) else ((rat_Add_p (Raw.of (rsum (q.map (·.p.rat)))) x.p).bind fun y31 => dynamics_checkNoise_l17 p0 J l (q.length + 1) y31.1)))) = some 0))) ↔ A ∧ Nz1 x ∧ (∀ n ∈ l, Nz1 n) ∧ (∀ i, q.length + 1 ≤ i + 1 → ∀ a b, p0[i]? = some a → p0[i + 1]? = some b → a.delta < b.delta) ∧ J (Raw.of (rsum (p0.map (·.p.rat)))) = some 0 := by
      intro A
      rw [key]
      constructor
      · rintro ⟨⟨a, b⟩, c, ⟨d1, d2, d3⟩, f⟩
        have hx1 : Nz1 x := ⟨a, b, d1, d2, d3⟩
        have f := f ⟨d1, d2, d3⟩
        rw [add hx1, ih hx1] at f
        exact ⟨c, hx1, f.1, fun i hi => f.2.1 i (by simp; omega), f.2.2⟩
      · rintro ⟨c, hx1, f1, f2, f3⟩
        refine ⟨⟨hx1.lo, hx1.hi⟩, c, ⟨hx1.sh, hx1.pos, hx1.ne⟩, fun _ => ?_⟩
        rw [add hx1, ih hx1]
        exact ⟨f1, fun i hi => f2 i (by simp at hi; omega), f3⟩
    have fin : ∀ {A : Prop}, (A ↔ ∀ a, q.length ≠ 0 → p0[q.length - 1]? = some a → a.delta < x.delta) → (A ∧ Nz1 x ∧ (∀ n ∈ l, Nz1 n) ∧ (∀ i, q.length + 1 ≤ i + 1 → ∀ a b, p0[i]? = some a → p0[i + 1]? = some b → a.delta < b.delta) ∧ J (Raw.of (rsum (p0.map (·.p.rat)))) = some 0 ↔ (∀ n ∈ x :: l, Nz1 n) ∧ (∀ i, q.length ≤ i + 1 → ∀ a b, p0[i]? = some a → p0[i + 1]? = some b → a.delta < b.delta) ∧ J (Raw.of (rsum (p0.map (·.p.rat)))) = some 0) := by
      intro A hA
      rw [hA]
      constructor
      · rintro ⟨h1, h2, h3, h4, h5⟩
        refine ⟨fun n hn => ?_, fun i hi a b ha hb => ?_, h5⟩
        · rcases List.mem_cons.1 hn with rfl | hn
          · exact h2
          · exact h3 n hn
        · rcases Nat.eq_or_lt_of_le hi with hi | hi
          · rw [← hi, hx] at hb
            cases hb
            exact h1 a (by omega) (by rw [hi]; exact ha)
          · exact h4 i hi a b ha hb
      · rintro ⟨h1, h2, h3⟩
        refine ⟨fun a h0 ha => h2 (q.length - 1) (by omega) a x ha (by rw [Nat.sub_add_cancel (by omega)]; exact hx), h1 x (by simp), fun n hn => h1 n (by simp [hn]), fun i hi => h2 i (by omega), h3⟩
    split
    · rename_i h0
      obtain ⟨y, hy⟩ : ∃ y, p0[q.length - 1]? = some y := ⟨p0[q.length - 1]'(by omega), by simp⟩
      rw [bnds (ixT (k := q.length - 1) (by rw [wi64 (by omega) (by omega)]; omega) hy), ifz (by decide), step, fin]
      constructor
      · intro h a _ ha; rw [hy] at ha; cases ha; omega
      · intro h; have := h y (by omega) hy; omega
    · rename_i h0
      rw [← true_and ((dynamics_checkRat_p x.p).bind _ = some 0), step, fin]
      exact ⟨fun _ a h1 _ => absurd h1 (by omega), fun _ => trivial⟩
theorem cmp1 {q : Rat} (h : ratE q = 0) : (rat_Cmp_p (Raw.of q) (Raw.of ((1 : Int) : Rat))).bind (fun y12 => if ((y12.1) != 0) = true then (some (2 : Int)) else (some 0)) = some 0 ↔ q = 1 := by
  have h1 : ratE (1 : Rat) = 0 := by decide
  unfold rat_Cmp_p
  rw [Option.bind_some, ifz (by decide)]
  have e : cmpR (Raw.of q) (Raw.of ((1 : Int) : Rat)) = cmpQ q 1 := by
    unfold cmpR cmpE
    rw [Raw.of_chk h, show Raw.of ((1 : Int) : Rat) = Raw.of 1 from rfl, Raw.of_chk h1, Raw.of_rat, Raw.of_rat]
    rfl
  rw [e]
  unfold cmpQ
  constructor
  · rintro ⟨h, _⟩
    apply Classical.byContradiction
    intro hq
    rw [if_neg hq] at h
    split at h <;> simp at h
  · intro hq
    rw [if_pos hq]
    simp
theorem noise_iff (l : List NoiseD) (hl : ∀ n ∈ l, Lim n.p) : dynamics_checkNoise_p l = some 0 ↔ NzL l := by
  unfold dynamics_checkNoise_p
  rw [ifz (by decide), ifz (by decide), lt, List.drop_zero]
  constructor
  · rintro ⟨h1, h2, h3⟩
    have h5 : l.length ≤ 5 := by omega
    have := (cn17 l h5 hl _ l [] rfl (by simp)).1 h3
    obtain ⟨g1, g2, g3⟩ := this
    have hf := nz_fit (fun n hn => ⟨g1 n hn, hl n hn⟩) h5
    rw [show rat_From_p (1 : Int) = some (Raw.of ((1 : Int) : Rat)) from grdT (by decide), Option.bind_some, cmp1 hf] at g3
    refine ⟨?_, h5, g1, (adj_pw (fun n : NoiseD => n.delta) l).1 fun i => g2 i (by simp), g3⟩
    rw [len_ne] at h1
    exact List.length_pos_iff.2 h1
  · intro h
    have h1 := h.n1
    have h5 := h.n5
    refine ⟨len_ne.2 (List.length_pos_iff.1 h1), by omega, ?_⟩
    refine (cn17 l h5 hl _ l [] rfl (by simp)).2 ⟨h.el, fun i _ => (adj_pw (fun n : NoiseD => n.delta) l).2 h.asc i, ?_⟩
    have hf := nz_fit (fun n hn => ⟨h.el n hn, hl n hn⟩) h5
    rw [show rat_From_p (1 : Int) = some (Raw.of ((1 : Int) : Rat)) from grdT (by decide), Option.bind_some, cmp1 hf]
    exact h.sum
/-! ### The grid -/
structure AxisW (l : List Int) : Prop where
  n1 : 1 ≤ l.length
  n2 : l.length ≤ 32
  bd : ∀ z ∈ l, -1073741824 ≤ z ∧ z ≤ 1073741824
  asc : l.Pairwise (· < ·)
theorem ic17 (x : List Int) (J : Option Int) (hx : x.length ≤ 32) : ∀ (l : List Int) (k : Nat), l = x.drop k →
    (interp_Check_l17 x J l k = some 0 ↔ (∀ z ∈ l, -1073741824 ≤ z ∧ z ≤ 1073741824) ∧ (∀ i, k ≤ i + 1 → ∀ a b, x[i]? = some a → x[i + 1]? = some b → a < b) ∧ J = some 0)
  | [], k, h => by
    have hk : x.length ≤ k := by have := congrArg List.length h; simp at this; omega
    rw [interp_Check_l17]
    refine ⟨fun h => ⟨by simp, fun i hi a b _ hb => ?_, h⟩, fun h => h.2.2⟩
    rw [List.getElem?_eq_none (by omega)] at hb
    cases hb
  | z :: l, k, h => by
    obtain ⟨hk, hr⟩ := drop_cons h
    have hz : x[k]? = some z := by
      have := congrArg List.head? h
      rw [List.head?_drop] at this
      exact this.symm
    have ih := ic17 x J hx l (k + 1) hr
    rw [interp_Check_l17, ifz (by decide), ifz (by decide)]
    have fin : ∀ {A : Prop}, (A ↔ ∀ a, k ≠ 0 → x[k - 1]? = some a → a < z) → (¬ z < -1073741824 ∧ ¬ z > 1073741824 ∧ A ∧ (∀ z ∈ l, -1073741824 ≤ z ∧ z ≤ 1073741824) ∧ (∀ i, k + 1 ≤ i + 1 → ∀ a b, x[i]? = some a → x[i + 1]? = some b → a < b) ∧ J = some 0 ↔ (∀ y ∈ z :: l, -1073741824 ≤ y ∧ y ≤ 1073741824) ∧ (∀ i, k ≤ i + 1 → ∀ a b, x[i]? = some a → x[i + 1]? = some b → a < b) ∧ J = some 0) := by
      intro A hA
      rw [hA]
      constructor
      · rintro ⟨h1, h2, h3, h4, h5, h6⟩
        refine ⟨fun y hy => ?_, fun i hi a b ha hb => ?_, h6⟩
        · rcases List.mem_cons.1 hy with rfl | hy
          · omega
          · exact h4 y hy
        · rcases Nat.eq_or_lt_of_le hi with hi | hi
          · rw [← hi, hz] at hb
            cases hb
            exact h3 a (by omega) (by rw [hi]; exact ha)
          · exact h5 i hi a b ha hb
      · rintro ⟨h1, h2, h3⟩
        have := h1 z (by simp)
        refine ⟨by omega, by omega, fun a h0 ha => h2 (k - 1) (by omega) a z ha (by rw [Nat.sub_add_cancel (by omega)]; exact hz), fun n hn => h1 n (by simp [hn]), fun i hi => h2 i (by omega), h3⟩
    split
    · rename_i h0
      obtain ⟨y, hy⟩ : ∃ y, x[k - 1]? = some y := ⟨x[k - 1]'(by omega), by simp⟩
      rw [bnds (ixT (k := k - 1) (by rw [wi64 (by omega) (by omega)]; omega) hy), ifz (by decide), ih]
      refine fin ?_
      constructor
      · intro h a _ ha; rw [hy] at ha; cases ha; omega
      · intro h; have := h y (by omega) hy; omega
    · rename_i h0
      rw [ih]
      have := fin (A := True) ⟨fun _ a h1 _ => absurd h1 (by omega), fun _ => trivial⟩
      simpa only [true_and] using this
theorem ic10 (J : Option Int) : ∀ l : List (List Int), interp_Check_l10 J l = some 0 ↔ (∀ x ∈ l, AxisW x) ∧ J = some 0
  | [] => by rw [interp_Check_l10]; simp
  | x :: l => by
    have ih := ic10 J l
    rw [interp_Check_l10, lt, ifz (by decide), ifz (by decide), List.drop_zero]
    constructor
    · rintro ⟨h1, h2, h3⟩
      rw [ic17 x _ (by omega) x 0 rfl, ih] at h3
      obtain ⟨g1, g2, g3, g4⟩ := h3
      refine ⟨fun y hy => ?_, g4⟩
      rcases List.mem_cons.1 hy with rfl | hy
      · exact ⟨List.length_pos_iff.2 (len_ne.1 h1), by omega, g1, (adj_pw (fun z => z) y).1 fun i => g2 i (by omega)⟩
      · exact g3 y hy
    · rintro ⟨h1, h2⟩
      have hx := h1 x (by simp)
      have n1 := hx.n1
      have n2 := hx.n2
      refine ⟨len_ne.2 (List.length_pos_iff.1 n1), by omega, ?_⟩
      rw [ic17 x _ n2 x 0 rfl, ih]
      exact ⟨hx.bd, fun i _ => (adj_pw (fun z => z) x).2 hx.asc i, fun y hy => h1 y (by simp [hy]), h2⟩
theorem ic3 (a b c : List Int) : interp_Check_p [a, b, c] = some 0 ↔ AxisW a ∧ AxisW b ∧ AxisW c ∧ a.length * b.length * c.length ≤ 256 := by
  unfold interp_Check_p
  rw [ifz (by decide), ifz (by decide), lt, List.drop_zero, ic10, isize3, Option.bind_some]
  have sz : ∀ ha : AxisW a, ∀ hb : AxisW b, ∀ hc : AxisW c, IntKind.i64.wrap (IntKind.i64.wrap (IntKind.i64.wrap (1 * (a.length : Int)) * (b.length : Int)) * (c.length : Int)) = ((a.length * b.length * c.length : Nat) : Int) := fun ha hb hc => by
    have n1 := ha.n2
    have e1 : a.length * b.length ≤ 32 * 32 := Nat.mul_le_mul ha.n2 hb.n2
    have e2 : a.length * b.length * c.length ≤ 32 * 32 * 32 := Nat.mul_le_mul e1 hc.n2
    rw [Int.one_mul, wi64 (x := (a.length : Int)) (by omega) (by omega), ← Int.natCast_mul, wi64 (x := ((a.length * b.length : Nat) : Int)) (by omega) (by omega), ← Int.natCast_mul, wi64 (by omega) (by omega)]
  constructor
  · rintro ⟨_, _, h1, h2⟩
    have ha := h1 a (by simp)
    have hb := h1 b (by simp)
    have hc := h1 c (by simp)
    rw [sz ha hb hc, ifz (by decide)] at h2
    exact ⟨ha, hb, hc, by omega⟩
  · rintro ⟨ha, hb, hc, h⟩
    refine ⟨by simp, by simp, fun x hx => ?_, ?_⟩
    · simp only [List.mem_cons, List.not_mem_nil, or_false] at hx
      rcases hx with rfl | rfl | rfl <;> assumption
    · rw [sz ha hb hc, ifz (by decide)]
      exact ⟨by omega, rfl⟩
/-! ### The model -/
structure AdvOK (y : BoundsD) : Prop where
  s : y.sense = 1 ∨ y.sense = 2
  le : y.lo ≤ y.hi
  l0 : -100 ≤ y.lo
  l1 : y.lo ≤ 100
  h0 : -100 ≤ y.hi
  h1 : y.hi ≤ 100
structure Full (x : ModelD) : Prop where
  gh : AxisW x.height
  go : AxisW x.own
  gt : AxisW x.other
  gn : x.height.length * x.own.length * x.other.length ≤ 256
  bh : ∀ z ∈ x.height, -50000 ≤ z ∧ z ≤ 50000
  bo : ∀ z ∈ x.own, -100 ≤ z ∧ z ≤ 100
  bt : ∀ z ∈ x.other, -100 ≤ z ∧ z ≤ 100
  a1 : 1 ≤ x.advisories.length
  a2 : x.advisories.length ≤ 6
  adv : ∀ y ∈ x.advisories.drop 1, AdvOK y
  p : 0 ≤ x.pull ∧ x.pull ≤ 100
  nr : 0 ≤ x.near ∧ x.near ≤ 50000
  st : 0 ≤ x.steps ∧ x.steps ≤ 24
  no : NzL x.ownNoise
  nt : NzL x.otherNoise
  c1 : ShortR x.alert ∧ x.alert.neg = false
  c2 : ShortR x.strengthen ∧ x.strengthen.neg = false
  c3 : ShortR x.reversal ∧ x.reversal.neg = false
  n : x.height.length * x.own.length * x.other.length * x.advisories.length ≤ 200
theorem cc62 (x : ModelD) (J : Option Int) : dynamics_Check_l62 x J 3 0 = some 0 ↔ (ShortR x.alert ∧ x.alert.neg = false) ∧ (ShortR x.strengthen ∧ x.strengthen.neg = false) ∧ (ShortR x.reversal ∧ x.reversal.neg = false) ∧ J = some 0 := by
  have st : ∀ (r k : Nat) (q : Raw), [x.alert, x.strengthen, x.reversal][k]? = some q → (dynamics_Check_l62 x J (r + 1) k = some 0 ↔ (ShortR q ∧ q.neg = false) ∧ dynamics_Check_l62 x J r (k + 1) = some 0) := fun r k q hq => by
    rw [dynamics_Check_l62, bnds (ixT (k := k) rfl hq), bnz, checkRat_iff, ifz (by decide)]
    simp [and_assoc]
  rw [st 2 0 _ rfl, st 1 1 _ rfl, st 0 2 _ rfl, dynamics_Check_l62]
theorem cc78 (x : ModelD) (J : Option Int) (hl : LimM x) : dynamics_Check_l78 x J 2 0 = some 0 ↔ NzL x.ownNoise ∧ NzL x.otherNoise ∧ J = some 0 := by
  have st : ∀ (r k : Nat) (q : List NoiseD), [x.ownNoise, x.otherNoise][k]? = some q → (∀ n ∈ q, Lim n.p) → (dynamics_Check_l78 x J (r + 1) k = some 0 ↔ NzL q ∧ dynamics_Check_l78 x J r (k + 1) = some 0) := fun r k q hq hn => by
    rw [dynamics_Check_l78, bnds (ixT (k := k) rfl hq), bnz, noise_iff q hn]
  rw [st 1 0 _ rfl hl.o, st 0 1 _ rfl hl.t, dynamics_Check_l78]
theorem cc92 (J : Option Int) : ∀ l : List BoundsD, dynamics_Check_l92 100 J l = some 0 ↔ (∀ y ∈ l, AdvOK y) ∧ J = some 0
  | [] => by rw [dynamics_Check_l92]; simp
  | y :: l => by
    have ih := cc92 J l
    have key : ∀ v : Bool, (if v = true then (some (6 : Int)) else (if (y.lo) > y.hi then (some 1) else ((dynamics_within_1_p ([y.lo, y.hi]) 100).bind fun y104 => if (!y104) = true then (some 1) else (dynamics_Check_l92 100 J l)))) = some 0 ↔ v = false ∧ y.lo ≤ y.hi ∧ (-100 ≤ y.lo ∧ y.lo ≤ 100 ∧ -100 ≤ y.hi ∧ y.hi ≤ 100) ∧ (∀ y ∈ l, AdvOK y) ∧ J = some 0 := fun v => by
      rw [ifz (by decide), ifz (by decide), within1 _ 100 (by decide), Option.bind_some, ifz (by decide), ih]
      simp [inS, and_assoc]
    have fin : ((y.sense = 1 ∨ y.sense = 2) ∧ y.lo ≤ y.hi ∧ (-100 ≤ y.lo ∧ y.lo ≤ 100 ∧ -100 ≤ y.hi ∧ y.hi ≤ 100) ∧ (∀ y ∈ l, AdvOK y) ∧ J = some 0) ↔ (∀ z ∈ y :: l, AdvOK z) ∧ J = some 0 := by
      constructor
      · rintro ⟨h1, h2, ⟨h3, h4, h5, h6⟩, h7, h8⟩
        refine ⟨fun z hz => ?_, h8⟩
        rcases List.mem_cons.1 hz with rfl | hz
        · exact ⟨h1, h2, h3, h4, h5, h6⟩
        · exact h7 z hz
      · rintro ⟨h1, h2⟩
        have h := h1 y (by simp)
        exact ⟨h.s, h.le, ⟨h.l0, h.l1, h.h0, h.h1⟩, fun z hz => h1 z (by simp [hz]), h2⟩
    rw [dynamics_Check_l92, lt, ← fin]
    split
    · rename_i h1
      rw [key]
      have h1' : y.sense ≠ 1 := by simpa using h1
      simp [h1']
    · rename_i h1
      rw [key]
      have h1' : y.sense = 1 := by simpa using h1
      simp [h1']
theorem inSn {lo hi : Int} {l : List Int} : ¬ (!inS lo hi l) = true ↔ ∀ z ∈ l, lo ≤ z ∧ z ≤ hi := by
  rw [← inS_iff]; simp
theorem check_iff (x : ModelD) (hl : LimM x) : dynamics_Check_p x = some 0 ↔ Full x := by
  unfold dynamics_Check_p
  rw [show dynamics_within_p (100 : Int) = some 100 from rfl, Option.bind_some, show dynamics_grid_p x = some [x.height, x.own, x.other] from rfl, Option.bind_some, bnz, ic3, show dynamics_within_p (50000 : Int) = some 50000 from rfl, Option.bind_some, within1 _ 50000 (by decide), Option.bind_some, ifz (by decide), within1 _ 100 (by decide), Option.bind_some, ifz (by decide), within1 _ 100 (by decide), Option.bind_some, ifz (by decide), ifz (by decide), ifz (by decide), inSn, inSn, inSn, len_ne]
  have tail : ∀ h1 : 1 ≤ x.advisories.length, lt ((dynamics_span_has_p (SpanD.mk 0 100) ([x.pull])).bind fun y38 => if (!y38) = true then (some (1 : Int)) else ((dynamics_span_has_p (SpanD.mk 0 50000) ([x.near])).bind fun y44 => if (!y44) = true then (some 1) else ((dynamics_span_has_p (SpanD.mk 0 24) ([x.steps])).bind fun y50 => if (!y50) = true then (some 1) else (lt (lt ((dynamics_size_p x).bind fun y56 => if (y56) > 200 then (some 10) else (some 0)) fun J54 => dynamics_Check_l62 x J54 ((3 : Int).toNat - 0) 0) fun J53 => dynamics_Check_l78 x J53 ((2 : Int).toNat - 0) 0)))) (fun J34 => grd (0 ≤ (1 : Int) ∧ (1 : Int) ≤ (x.advisories.length : Int) ∧ (x.advisories.length : Int) ≤ (x.advisories.length : Int)) <| dynamics_Check_l92 100 J34 ((x.advisories.drop 1).drop 0)) = some 0 ↔ (∀ y ∈ x.advisories.drop 1, AdvOK y) ∧ (0 ≤ x.pull ∧ x.pull ≤ 100) ∧ (0 ≤ x.near ∧ x.near ≤ 50000) ∧ (0 ≤ x.steps ∧ x.steps ≤ 24) ∧ NzL x.ownNoise ∧ NzL x.otherNoise ∧ (ShortR x.alert ∧ x.alert.neg = false) ∧ (ShortR x.strengthen ∧ x.strengthen.neg = false) ∧ (ShortR x.reversal ∧ x.reversal.neg = false) ∧ ((dynamics_size_p x).bind fun y56 => if (y56) > 200 then (some (10 : Int)) else (some 0)) = some 0 := fun h1 => by
    rw [lt, grdT (by omega), List.drop_zero, cc92, has_p, Option.bind_some, ifz (by decide), has_p, Option.bind_some, ifz (by decide), has_p, Option.bind_some, ifz (by decide), lt, lt]
    show _ ∧ _ ∧ _ ∧ _ ∧ dynamics_Check_l78 x (dynamics_Check_l62 x _ 3 0) 2 0 = some 0 ↔ _
    rw [cc78 x _ hl, cc62, inSn, inSn, inSn]
    simp
  obtain ⟨n, hn, hn2⟩ := size_p x
  constructor
  · rintro ⟨⟨g1, g2, g3, g4⟩, b1, b2, b3, a1, a2, t⟩
    have a1' := List.length_pos_iff.2 a1
    rw [tail a1', hn, Option.bind_some, ifz (by decide)] at t
    obtain ⟨t1, t2, t3, t4, t5, t6, t7, t8, t9, t10, _⟩ := t
    have hn3 := hn2 g1.n2 g2.n2 g3.n2 (by omega)
    exact ⟨g1, g2, g3, g4, b1, b2, b3, a1', by omega, t1, t2, t3, t4, t5, t6, t7, t8, t9, by omega⟩
  · intro h
    have a2 := h.a2
    refine ⟨⟨h.gh, h.go, h.gt, h.gn⟩, h.bh, h.bo, h.bt, List.length_pos_iff.1 h.a1, by omega, ?_⟩
    rw [tail h.a1, hn, Option.bind_some, ifz (by decide), hn2 h.gh.n2 h.go.n2 h.gt.n2 a2]
    have := h.n
    exact ⟨h.adv, h.p, h.nr, h.st, h.no, h.nt, h.c1, h.c2, h.c3, by omega, rfl⟩
end Go.Proofs.YtjnbipmlmafahaaGreat
/- The mirrored model, in plain words. By an AI agent. -/
namespace Go.Proofs.YtjnbipmlmafahaaGreat
open Go Go.Gv Go.RowKit
set_option maxRecDepth 100000
set_option maxHeartbeats 1000000
def negB (y : BoundsD) : BoundsD := ⟨3 - y.sense, -y.hi, -y.lo⟩
/-! ### The mirrored model passes -/
theorem AdvOK.neg {y : BoundsD} (h : AdvOK y) : AdvOK (negB y) := by
  have h1 := h.s; have h2 := h.le; have h3 := h.l0; have h4 := h.l1; have h5 := h.h0; have h6 := h.h1
  exact ⟨by show 3 - y.sense = 1 ∨ 3 - y.sense = 2; omega, by show -y.hi ≤ -y.lo; omega, by show -100 ≤ -y.hi; omega, by show -y.hi ≤ 100; omega, by show -100 ≤ -y.lo; omega, by show -y.lo ≤ 100; omega⟩
theorem Full.good {x : ModelD} (f : Full x) (hl : LimM x) : dynamics_Check_p x = some 0 ∧ Good x := by
  have hc := (check_iff x hl).2 f
  obtain ⟨e, h1, h2⟩ := check_p x
  rw [hc] at h1
  cases h1
  exact ⟨hc, h2 rfl⟩
/-! ### Where Spread comes from -/
theorem AxisW.axis {l : List Int} (h : AxisW l) (hb : ∀ z ∈ l, -50000 ≤ z ∧ z ≤ 50000) : Axis l := ⟨h.n1, h.n2, h.asc, hb⟩
theorem Nz1.nz {n : NoiseD} (h : Nz1 n) (l : Lim n.p) : NZ n := ⟨h.sh.chk, h.sh.db l, h.sh.d l, h.lo, h.hi⟩
theorem resp_bd {x : ModelD} (f : Full x) (g : Good x) {u b : Int} (hb : 0 ≤ b ∧ b < (x.advisories.length : Int)) (hu : -100 ≤ u ∧ u ≤ 100) : ∃ r, dynamics_respond_p x u b = some r ∧ -1000 ≤ r ∧ r ≤ 1000 := by
  obtain ⟨y, _, h2, h3⟩ := respond_eq g hb hu
  have hp := f.p
  refine ⟨_, h3, ?_⟩
  by_cases h0 : b = 0
  · rw [if_pos h0]; omega
  · have := h2 h0
    rw [if_neg h0]
    repeat' split
    all_goals omega
theorem Full.env {x : ModelD} (f : Full x) (hl : LimM x) {h u v b r : Int} (hh : -100000 ≤ h ∧ h ≤ 100000) (hu : -100 ≤ u ∧ u ≤ 100) (hv : -100 ≤ v ∧ v ≤ 100) (hb : 0 ≤ b ∧ b < (x.advisories.length : Int)) (hr : dynamics_respond_p x u b = some r) : Env x h u v b r := by
  obtain ⟨hc, g⟩ := f.good hl
  obtain ⟨r', h1, h2, h3⟩ := resp_bd f g hb hu
  rw [hr] at h1
  cases h1
  have a2 := f.a2
  exact ⟨f.gh.axis f.bh, f.go.axis fun z hz => by have := f.bo z hz; omega, f.gt.axis fun z hz => by have := f.bt z hz; omega, (ic3 _ _ _).2 ⟨f.gh, f.go, f.gt, f.gn⟩, f.a1, a2, hb.1, by omega, hr, h2, h3, hh, hu, hv, fun n hn => (f.no.el n hn).nz (hl.o n hn), fun n hn => (f.nt.el n hn).nz (hl.t n hn), f.no.n5, f.nt.n5⟩
noncomputable def outs (x : ModelD) (h u v b r : Int) : List Out := (sortZ ((sums x h u v b r).map Prod.fst)).map fun k => Out.mk k (Raw.of (getP k 0 (sums x h u v b r)))
structure SpOK (x : ModelD) (h u v b r : Int) : Prop where
  f : Full x
  hh : -100000 ≤ h ∧ h ≤ 100000
  hu : -100 ≤ u ∧ u ≤ 100
  hv : -100 ≤ v ∧ v ≤ 100
  hb : 0 ≤ b ∧ b < (x.advisories.length : Int)
  hr : dynamics_respond_p x u b = some r
  hs : (sums x h u v b r).length ≤ 64
theorem Spread_ok {x : ModelD} (hl : LimM x) {h u v b r : Int} (s : SpOK x h u v b r) : dynamics_Spread_p x h u v b = some (outs x h u v b r, 0) := by
  obtain ⟨hc, g⟩ := s.f.good hl
  have E := s.f.env hl s.hh s.hu s.hv s.hb s.hr
  have hs := s.hs
  unfold dynamics_Spread_p
  rw [bnds hc, if_neg (by decide), show dynamics_within_p (100000 : Int) = some 100000 from rfl, Option.bind_some, within1 _ 100000 (by decide), Option.bind_some, if_neg (inSn.2 fun z hz => by rw [List.mem_singleton.1 hz]; exact s.hh), show dynamics_within_p (100 : Int) = some 100 from rfl, Option.bind_some, within1 _ 100 (by decide), Option.bind_some, if_neg (inSn.2 fun z hz => by
    rcases List.mem_cons.1 hz with rfl | hz
    · exact s.hu
    · rw [List.mem_singleton.1 hz]; exact s.hv), bnds (known_p hc g b), if_pos s.hb, if_neg (by decide), bnds (spread_spec E), if_neg (by omega)]
  rfl
/-! ### The response, mirrored -/
/-! ### The weights, mirrored -/
section
variable {x : ModelD} {h u v b r : Int}
theorem sums_get (k : Int) : getP k 0 (sums x h u v b r) = sumAt k (termsT x h u v b r) := by
  unfold sums
  rw [getP_fold]
  show (0 : Rat) + _ = _
  rw [Rat.zero_add]
theorem sums_keys : ((sums x h u v b r).map Prod.fst).Nodup ∧ ∀ k, k ∈ (sums x h u v b r).map Prod.fst ↔ k ∈ (termsT x h u v b r).map Prod.fst := by
  obtain ⟨h1, h2⟩ := keys_fold (termsT x h u v b r) [] (by simp)
  refine ⟨h1, fun k => ?_⟩
  have := h2 k
  simp only [List.map_nil, List.not_mem_nil, false_or] at this
  exact this
/-- Where the outcomes lie. -/
theorem outs_key (E : Env x h u v b r) {o : Out} (ho : o ∈ outs x h u v b r) : ∃ w, w < nV x ∧ o.to = keyZ x.advisories.length b w := by
  obtain ⟨k, hk, rfl⟩ := List.mem_map.1 ho
  have hk := (sums_keys.2 k).1 ((sortZ_perm _).mem_iff.1 hk)
  obtain ⟨t, ht, rfl⟩ := List.mem_map.1 hk
  obtain ⟨n, _, ht⟩ := List.mem_flatMap.1 ht
  obtain ⟨o, _, ht⟩ := List.mem_flatMap.1 ht
  obtain ⟨w, hw, rfl⟩ := List.mem_map.1 ht
  exact ⟨w.1, ((Wf_spec E.h1 E.h2 E.h3 E.ck _ _ _).1.db E.h1 E.h2 E.h3).2.1 w hw, rfl⟩
end
end Go.Proofs.YtjnbipmlmafahaaGreat
/- The means of the outcomes, in plain words. By an AI agent. -/
namespace Go.Proofs.YtjnbipmlmafahaaGreat
open Go Go.Gv Go.RowKit
set_option maxRecDepth 100000
set_option maxHeartbeats 1000000
/-! ### Sums -/
section
variable {α β : Type}
theorem rsum_mul (c : Rat) (f : α → Rat) : ∀ l : List α, rsum (l.map fun x => c * f x) = c * rsum (l.map f)
  | [] => (Rat.mul_zero c).symm
  | x :: l => by rw [List.map_cons, List.map_cons, rsum_cons, rsum_cons, rsum_mul c f l, Rat.mul_add]
theorem rsum_add (f g : α → Rat) : ∀ l : List α, rsum (l.map fun x => f x + g x) = rsum (l.map f) + rsum (l.map g)
  | [] => (Rat.add_zero 0).symm
  | x :: l => by
    rw [List.map_cons, List.map_cons, List.map_cons, rsum_cons, rsum_cons, rsum_cons, rsum_add f g l, Rat.add_assoc, Rat.add_assoc]
    congr 1
    rw [← Rat.add_assoc, ← Rat.add_assoc, Rat.add_comm (g x)]
theorem rsum_flat (f : α → List β) (g : β → Rat) : ∀ l : List α, rsum ((l.flatMap f).map g) = rsum (l.map fun a => rsum ((f a).map g))
  | [] => rfl
  | x :: l => by rw [List.flatMap_cons, List.map_append, rsum_append, rsum_flat f g l, List.map_cons, rsum_cons]
theorem rsum_two (f : α → Rat) (g : β → Rat) (l : List α) (m : List β) : rsum (l.map fun a => rsum (m.map fun b => f a * g b)) = rsum (l.map f) * rsum (m.map g) := by
  rw [Rat.mul_comm, ← rsum_mul]
  congr 1
  refine List.map_congr_left fun a _ => ?_
  rw [rsum_mul, Rat.mul_comm]
end
theorem sum_one (c : Rat) (φ : Int → Rat) (j : Int) : ∀ ks : List Int, ks.Nodup → j ∈ ks → rsum (ks.map fun k => (if j = k then c else 0) * φ k) = c * φ j
  | k :: ks, hn, hj => by
    have hn := List.nodup_cons.1 hn
    rw [List.map_cons, rsum_cons]
    by_cases h : j = k
    · subst h
      have : ∀ l : List Int, j ∉ l → rsum (l.map fun k => (if j = k then c else 0) * φ k) = 0 := by
        intro l
        induction l with
        | nil => intro _; rfl
        | cons a l ih =>
          intro ha
          rw [List.map_cons, rsum_cons, ih fun h => ha (List.mem_cons_of_mem _ h), if_neg fun e => ha (by simp [e]), Rat.zero_mul, Rat.add_zero]
      rw [if_pos rfl, this ks hn.1, Rat.add_zero]
    · rw [if_neg h, Rat.zero_mul, Rat.zero_add]
      exact sum_one c φ j ks hn.2 ((List.mem_cons.1 hj).resolve_left h)
theorem sum_keys (φ : Int → Rat) (ks : List Int) (hn : ks.Nodup) : ∀ T : List (Int × Rat), (∀ t ∈ T, t.1 ∈ ks) → rsum (ks.map fun k => sumAt k T * φ k) = rsum (T.map fun t => t.2 * φ t.1)
  | [], _ => by
    have : ∀ l : List Int, rsum (l.map fun k => sumAt k [] * φ k) = 0 := by
      intro l
      induction l with
      | nil => rfl
      | cons a l ih => rw [List.map_cons, rsum_cons, ih, sumAt, Rat.zero_mul, Rat.add_zero]
    exact this ks
  | t :: T, h => by
    rw [List.map_cons, rsum_cons, ← sum_keys φ ks hn T fun s hs => h s (by simp [hs]), ← sum_one t.2 φ t.1 ks hn (h t (by simp)), ← rsum_add]
    congr 1
    refine List.map_congr_left fun k _ => ?_
    rw [sumAt, Rat.add_mul]
/-! ### The mean of the weights -/
theorem wsum {len : Nat} (f g : Nat → Rat) {S : List (Nat × Rat)} (hs : ∀ s ∈ S, s.1 < len) : ∀ W : List (Nat × Rat), rsum ((wstep len W S).map fun q => q.2 * (f (q.1 / len) * g (q.1 % len))) = rsum (W.map fun p => p.2 * f p.1) * rsum (S.map fun s => s.2 * g s.1)
  | [] => (Rat.zero_mul _).symm
  | p :: W => by
    have e : rsum (S.map ((fun q : Nat × Rat => q.2 * (f (q.1 / len) * g (q.1 % len))) ∘ fun s => (p.1 * len + s.1, p.2 * s.2))) = p.2 * f p.1 * rsum (S.map fun s => s.2 * g s.1) := by
      rw [← rsum_mul]
      congr 1
      refine List.map_congr_left fun s h => ?_
      have h1 := hs s h
      show p.2 * s.2 * (f ((p.1 * len + s.1) / len) * g ((p.1 * len + s.1) % len)) = p.2 * f p.1 * (s.2 * g s.1)
      rw [Nat.mul_comm p.1, Nat.mul_add_div (by omega), Nat.div_eq_of_lt h1, Nat.add_zero, Nat.mul_add_mod, Nat.mod_eq_of_lt h1, Rat.mul_assoc, Rat.mul_assoc]
      congr 1
      rw [← Rat.mul_assoc, ← Rat.mul_assoc, Rat.mul_comm s.2]
    rw [wstep_cons, List.map_append, rsum_append, wsum f g hs W, List.map_cons, rsum_cons, Rat.add_mul, List.map_map, e]
def FS (f : Nat → Rat) (S : List (Nat × Rat)) : Rat := rsum (S.map fun s => s.2 * f s.1)
theorem WSpec.mean {a b c : List Int} (ha : Axis a) (hb : Axis b) (hc : Axis c) {x y z : Int} {W : List (Nat × Rat)} (h : WSpec a b c x y z W) : ∃ Sa Sb Sc, ShSpec a (clampL a x) Sa ∧ ShSpec b (clampL b y) Sb ∧ ShSpec c (clampL c z) Sc ∧
    ∀ f g k : Nat → Rat, rsum (W.map fun w => w.2 * (f (w.1 / c.length / b.length) * g (w.1 / c.length % b.length) * k (w.1 % c.length))) = FS f Sa * FS g Sb * FS k Sc := by
  obtain ⟨Sa, Sb, Sc, h1, h2, h3, rfl⟩ := h
  refine ⟨Sa, Sb, Sc, h1, h2, h3, fun f g k => ?_⟩
  obtain ⟨_, b2, _⟩ := h2.db hb
  obtain ⟨_, c2, _⟩ := h3.db hc
  rw [wsum (fun q => f (q / b.length) * g (q % b.length)) k c2, wsum f g b2]
  congr 2
  unfold FS wstep
  rw [List.flatMap_cons, List.flatMap_nil, List.append_nil, List.map_map]
  congr 1
  refine List.map_congr_left fun s _ => ?_
  show 1 * s.2 * f (0 * a.length + s.1) = s.2 * f s.1
  rw [Rat.one_mul, Nat.zero_mul, Nat.zero_add]
def axV (l : List Int) (i : Nat) : Rat := ((l.getD i 0 : Int) : Rat)
def one1 (_ : Nat) : Rat := 1
theorem mk_div (n : Int) (d : Nat) : mkRat n d = (n : Rat) / (d : Rat) := by
  rw [Rat.mkRat_eq_div]
theorem share_alg {a b c d : Rat} (hd : d ≠ 0) (h : b - a = d) : (b - c) / d * 1 + ((c - a) / d * 1 + 0) = 1 ∧ (b - c) / d * a + ((c - a) / d * b + 0) = c := by
  constructor <;> grind
theorem ShSpec.mean {l : List Int} {c : Int} {S : List (Nat × Rat)} (hs : ShSpec l c S) : FS one1 S = 1 ∧ FS (axV l) S = (c : Rat) := by
  rcases hs with ⟨k, h1, rfl⟩ | ⟨k, a, b, h1, h2, h3, h4, rfl⟩
  · have e : axV l k = (c : Rat) := by unfold axV; rw [List.getD_eq_getElem?_getD, h1]; rfl
    constructor
    · show (1 : Rat) * 1 + 0 = 1
      rw [Rat.add_zero, Rat.mul_one]
    · show (1 : Rat) * axV l k + 0 = _
      rw [Rat.add_zero, Rat.one_mul, e]
  · have ea : axV l k = (a : Rat) := by unfold axV; rw [List.getD_eq_getElem?_getD, h1]; rfl
    have eb : axV l (k + 1) = (b : Rat) := by unfold axV; rw [List.getD_eq_getElem?_getD, h2]; rfl
    obtain ⟨d, hd⟩ : ∃ d : Nat, b - a = (d : Int) := ⟨(b - a).toNat, by omega⟩
    have hd0 : (d : Rat) ≠ 0 := by
      have : d ≠ 0 := by omega
      exact_mod_cast this
    have hba : (b : Rat) - (a : Rat) = (d : Rat) := by exact_mod_cast congrArg (fun z : Int => (z : Rat)) hd
    have e1 : (b - a).toNat = d := by omega
    have m1 : mkRat (b - c) d = ((b : Rat) - (c : Rat)) / (d : Rat) := by rw [mk_div]; congr 1; exact_mod_cast rfl
    have m2 : mkRat (c - a) d = ((c : Rat) - (a : Rat)) / (d : Rat) := by rw [mk_div]; congr 1; exact_mod_cast rfl
    obtain ⟨g1, g2⟩ := share_alg (c := (c : Rat)) hd0 hba
    rw [e1, m1, m2]
    constructor
    · exact g1
    · show ((b : Rat) - (c : Rat)) / (d : Rat) * axV l k + (((c : Rat) - (a : Rat)) / (d : Rat) * axV l (k + 1) + 0) = _
      rw [ea, eb]
      exact g2
/-! ### The mean of the terms -/
section
variable {x : ModelD} {h u v b r : Int}
/-- The place of a vertex: what the cuts are there. -/
def vx (x : ModelD) (b k : Int) : Nat := ((k - b) / (x.advisories.length : Int)).toNat
theorem vx_key (x : ModelD) (b : Int) (w : Nat) (h1 : 1 ≤ x.advisories.length) : vx x b (keyZ x.advisories.length b w) = w := by
  unfold vx keyZ
  rw [show ((w * x.advisories.length : Nat) : Int) + b - b = ((w * x.advisories.length : Nat) : Int) by omega, ← Int.natCast_ediv, Nat.mul_div_cancel _ (by omega), Int.toNat_natCast]
/-- A function of the three indices. -/
def fgk (x : ModelD) (f g k : Nat → Rat) (w : Nat) : Rat := f (w / x.other.length / x.own.length) * g (w / x.other.length % x.own.length) * k (w % x.other.length)
theorem pair_mean (E : Env x h u v b r) (n o : NoiseD) : ∃ Sa Sb Sc, ShSpec x.height (clampL x.height (h + v - u)) Sa ∧ ShSpec x.own (clampL x.own (r + n.delta)) Sb ∧ ShSpec x.other (clampL x.other (v + o.delta)) Sc ∧
    ∀ f g k : Nat → Rat, rsum ((pairT x h u v b r n o).map fun t => t.2 * fgk x f g k (vx x b t.1)) = n.p.rat * o.p.rat * (FS f Sa * FS g Sb * FS k Sc) := by
  obtain ⟨Sa, Sb, Sc, h1, h2, h3, h4⟩ := (Wf_spec E.h1 E.h2 E.h3 E.ck (h + v - u) (r + n.delta) (v + o.delta)).1.mean E.h1 E.h2 E.h3
  refine ⟨Sa, Sb, Sc, h1, h2, h3, fun f g k => ?_⟩
  rw [← h4, ← rsum_mul]
  unfold pairT
  rw [List.map_map]
  congr 1
  refine List.map_congr_left fun w _ => ?_
  show n.p.rat * o.p.rat * w.2 * fgk x f g k (vx x b (keyZ x.advisories.length b w.1)) = _
  rw [vx_key x b w.1 E.a0, Rat.mul_assoc]
  rfl
theorem terms_flat (φ : Int × Rat → Rat) : rsum ((termsT x h u v b r).map φ) = rsum (x.ownNoise.map fun n => rsum (x.otherNoise.map fun o => rsum ((pairT x h u v b r n o).map φ))) := by
  unfold termsT
  rw [rsum_flat]
  congr 1
  refine List.map_congr_left fun n _ => ?_
  rw [rsum_flat]
/-- The means of the terms. -/
theorem terms_mean (E : Env x h u v b r) (s1 : rsum (x.ownNoise.map (·.p.rat)) = 1) (s2 : rsum (x.otherNoise.map (·.p.rat)) = 1) :
    rsum ((termsT x h u v b r).map fun t => t.2 * fgk x one1 one1 one1 (vx x b t.1)) = 1 ∧
    rsum ((termsT x h u v b r).map fun t => t.2 * fgk x (axV x.height) one1 one1 (vx x b t.1)) = (clampL x.height (h + v - u) : Int) ∧
    rsum ((termsT x h u v b r).map fun t => t.2 * fgk x one1 (axV x.own) one1 (vx x b t.1)) = rsum (x.ownNoise.map fun n => n.p.rat * (clampL x.own (r + n.delta) : Int)) ∧
    rsum ((termsT x h u v b r).map fun t => t.2 * fgk x one1 one1 (axV x.other) (vx x b t.1)) = rsum (x.otherNoise.map fun o => o.p.rat * (clampL x.other (v + o.delta) : Int)) := by
  have key : ∀ (f g k : Nat → Rat) (F G : NoiseD → Rat), (∀ n o Sa Sb Sc, ShSpec x.height (clampL x.height (h + v - u)) Sa → ShSpec x.own (clampL x.own (r + n.delta)) Sb → ShSpec x.other (clampL x.other (v + o.delta)) Sc → FS f Sa * FS g Sb * FS k Sc = F n * G o) →
      rsum ((termsT x h u v b r).map fun t => t.2 * fgk x f g k (vx x b t.1)) = rsum (x.ownNoise.map fun n => n.p.rat * F n) * rsum (x.otherNoise.map fun o => o.p.rat * G o) := by
    intro f g k F G hFG
    rw [terms_flat, ← rsum_two]
    congr 1
    refine List.map_congr_left fun n _ => ?_
    congr 1
    refine List.map_congr_left fun o _ => ?_
    obtain ⟨Sa, Sb, Sc, h1, h2, h3, h4⟩ := pair_mean E n o
    rw [h4, hFG n o Sa Sb Sc h1 h2 h3, Rat.mul_assoc, Rat.mul_assoc]
    congr 1
    rw [← Rat.mul_assoc, ← Rat.mul_assoc, Rat.mul_comm o.p.rat]
  have c1 : ∀ l : List NoiseD, rsum (l.map fun n => n.p.rat * (1 : Rat)) = rsum (l.map (·.p.rat)) := fun l => by
    congr 1
    exact List.map_congr_left fun n _ => Rat.mul_one _
  have cc : ∀ (c : Rat) (l : List NoiseD), rsum (l.map fun n => n.p.rat * c) = c * rsum (l.map (·.p.rat)) := fun c l => by
    rw [← rsum_mul]
    congr 1
    exact List.map_congr_left fun n _ => Rat.mul_comm _ _
  refine ⟨?_, ?_, ?_, ?_⟩
  · rw [key one1 one1 one1 (fun _ => 1) (fun _ => 1) fun n o Sa Sb Sc h1 h2 h3 => by rw [h1.mean.1, h2.mean.1, h3.mean.1, Rat.mul_one], c1, c1, s1, s2, Rat.mul_one]
  · rw [key (axV x.height) one1 one1 (fun _ => (clampL x.height (h + v - u) : Int)) (fun _ => 1) fun n o Sa Sb Sc h1 h2 h3 => by rw [h1.mean.2, h2.mean.1, h3.mean.1, Rat.mul_one], cc, c1, s1, s2, Rat.mul_one, Rat.mul_one]
  · rw [key one1 (axV x.own) one1 (fun n => (clampL x.own (r + n.delta) : Int)) (fun _ => 1) fun n o Sa Sb Sc h1 h2 h3 => by rw [h1.mean.1, h2.mean.2, h3.mean.1, Rat.one_mul], c1, s2, Rat.mul_one]
  · rw [key one1 one1 (axV x.other) (fun _ => 1) (fun o => (clampL x.other (v + o.delta) : Int)) fun n o Sa Sb Sc h1 h2 h3 => by rw [h1.mean.1, h2.mean.1, h3.mean.2, Rat.mul_one], c1, s1, Rat.one_mul]
/-- The same sums over the outcomes. -/
theorem outs_mean (φ : Int → Rat) : rsum ((outs x h u v b r).map fun o => getP o.to 0 (sums x h u v b r) * φ o.to) = rsum ((termsT x h u v b r).map fun t => t.2 * φ t.1) := by
  obtain ⟨h1, h2⟩ := sums_keys (x := x) (h := h) (u := u) (v := v) (b := b) (r := r)
  have hp := sortZ_perm ((sums x h u v b r).map Prod.fst)
  rw [← sum_keys φ (sortZ ((sums x h u v b r).map Prod.fst)) (hp.nodup_iff.2 h1) _ fun t ht => hp.mem_iff.2 ((h2 _).2 (List.mem_map.2 ⟨t, ht, rfl⟩))]
  unfold outs
  rw [List.map_map]
  congr 1
  refine List.map_congr_left fun k _ => ?_
  show getP k 0 (sums x h u v b r) * φ k = _
  rw [sums_get]
/-- All sums are fractions with one denominator. -/
theorem Env.bd (E : Env x h u v b r) : ∃ D B : Nat, D ≠ 0 ∧ D < K128 ∧ B * 5000000000 < K128 ∧ ∀ k, DB D B (getP k 0 (sums x h u v b r)) := by
  obtain ⟨D, B, d0, d1, d2, hc⟩ := E.common
  have hl : B * (0 + 40 * x.ownNoise.length) < K128 := Nat.lt_of_le_of_lt (Nat.mul_le_mul_left _ (by have := E.l1; omega)) d2
  obtain ⟨_, h2⟩ := l27 E d0 d1 hc x.ownNoise [] 0 (fun _ h => h) (fun k => show DB D (B * 0) 0 by rw [Nat.mul_zero]; exact DB.zero) hl
  refine ⟨D, B * 200, d0, d1, ?_, fun k => (h2 k).mono (Nat.mul_le_mul_left _ (by have := E.l1; omega))⟩
  rw [Nat.mul_assoc]
  exact d2
end
end Go.Proofs.YtjnbipmlmafahaaGreat
/- A region that draws its order and yields: what stands ahead of the yield changes nothing. By an AI agent; over any program. -/
namespace Go.Gv
open Go.RowKit
attribute [local semireducible] Go
/-- Operations that leave the world as it is, one after the other. -/
inductive PR (P : Program) (n : Nat) (w : World) : List Oper → List (Nat × Value) → List (Nat × Value) → Prop
  | nil {L : List (Nat × Value)} : PR P n w [] L L
  | step {o : Oper} {l : List Oper} {L L' : List (Nat × Value)} {d : Nat} {v : Value} (hd : dstIs o d n = true) (hg : okOp L o = true) (hr : (execOp (evL L) o).run P w = .ok (.value v) w) (h : PR P n w l ((d, v) :: L) L') : PR P n w (o :: l) L L'
def tabL : List (Nat × Value) → Nat → List (Nat × Value) → List (Nat × Value)
  | _, 0, L => L
  | [], _, L => L
  | p :: T, k + 1, L => tabL T k (p :: L)
theorem PR.tab {P : Program} {n : Nat} {w : World} {l : List Oper} {L L' : List (Nat × Value)} (h : PR P n w l L L') : ∃ T : List (Nat × Value), T.length = l.length ∧ L' = tabL T l.length L ∧
    ∀ j o, l[j]? = some o → ∃ d v, T[j]? = some (d, v) ∧ dstIs o d n = true ∧ okOp (tabL T j L) o = true ∧ (execOp (evL (tabL T j L)) o).run P w = .ok (.value v) w := by
  induction h with
  | nil => exact ⟨[], rfl, rfl, fun j o h => by simp at h⟩
  | @step o l L L' d v hd hg hr h ih =>
    obtain ⟨T, h1, h2, h3⟩ := ih
    refine ⟨(d, v) :: T, by simp [h1], h2, fun j q hj => ?_⟩
    cases j with
    | zero =>
      obtain rfl : o = q := by simpa using hj
      exact ⟨d, v, rfl, hd, hg, hr⟩
    | succ j => exact h3 j q (by simpa using hj)
/-- What the table says of a slot. -/
def dof (ops : Array Oper) (j : Nat) : Option Nat := (ops[j]?).bind (·.dst)
def inPre (ops : Array Oper) (i t : Nat) : Bool := (List.range i).any fun j => dof ops j == some t
/-- The operands of operation j are those of the frame, or stand listed. -/
def opnOk (ops : Array Oper) (i : Nat) (l : Array Bool) (j : Nat) : Bool :=
  match ops[j]? with
  | some o => o.guard.isNone && noDef o.op && o.op.operands.toList.all fun x => match x with
    | .tmp t => (List.range i).all fun q => !(dof ops q == some t) || (Nat.blt q j && l.getD q false)
    | _ => true
  | none => false
/-- From these listed on: all orders lead to the yield. -/
def expl (ops : Array Oper) (i : Nat) : Nat → Array Bool → Bool
  | 0, _ => false
  | f + 1, l => let rs := Region.ready .any ops l
    if rs = [i] then (List.range i).all fun j => l.getD j false else !rs.isEmpty && rs.all fun j => Nat.blt j i && (opnOk ops i l j && expl ops i f (l.setIfInBounds j true))
/-- Behind it one after the other. -/
def chain (ops : Array Oper) : Nat → Nat → Array Bool → Bool
  | _, 0, l => Region.ready .any ops l == []
  | k, f + 1, l => Region.ready .any ops l == [k] && chain ops (k + 1) f (l.setIfInBounds k true)
/-- No slot twice. -/
def uniq (ops : Array Oper) (i : Nat) : Bool := (List.range i).all fun j => (List.range i).all fun q => j == q || !(dof ops j == dof ops q)
section
variable {r : Option Nat} {m : Nat} {P : Program} {ops : Array Oper} {Q : Exit → Act → World → Prop} {n : Nat} {w : World}
theorem chain_seq : ∀ (f k : Nat) (l : Array Bool) (a : Act) (w : World), chain ops k f l = true → f + k = ops.size → wpListIn (FF r) m P ops Q (ops.toList.drop k) a w → ∀ fuel, f ≤ fuel → wpAnyIn (FF r) m P .any ops Q fuel l a w
  | 0, k, l, a, w, hc, hk, h, fuel, _ => by
    simp only [chain, beq_iff_eq] at hc
    rw [List.drop_eq_nil_of_le (by simp; omega)] at h
    exact wpAnyIn_done hc h fuel
  | f + 1, k, l, a, w, hc, hk, h, 0, hf => by omega
  | f + 1, k, l, a, w, hc, hk, h, fuel + 1, hf => by
    simp only [chain, Bool.and_eq_true, beq_iff_eq] at hc
    have hlt : k < ops.size := by omega
    rw [List.drop_eq_getElem_cons (by simpa using hlt)] at h
    refine wpAnyIn_all hc.1 (by simp) fun j hj => ?_
    rw [List.mem_singleton.1 hj]
    have ih := fun a w h => chain_seq f (k + 1) (l.setIfInBounds k true) a w hc.2 (by omega) h fuel (by omega)
    unfold wpOpIn
    have ho : ops[k]? = some ops[k] := by simp [hlt]
    rw [ho]
    unfold wpListIn at h
    rw [Array.getElem_toList] at h
    show if Region.wanted ops[k] (yielded ops a.tmps) = true then _ else _
    split
    · rename_i hw
      rw [if_pos hw] at h
      exact Oper.wpIn_mono ih h
    · rename_i hw
      rw [if_neg hw] at h
      exact ⟨h.1, ih _ _ h.2⟩
end
theorem tabL_succ : ∀ (T : List (Nat × Value)) (j : Nat) (L : List (Nat × Value)) (p : Nat × Value), T[j]? = some p → tabL T (j + 1) L = p :: tabL T j L
  | q :: T, 0, L, p, h => by
    obtain rfl : q = p := by simpa using h
    cases T <;> rfl
  | q :: T, j + 1, L, p, h => tabL_succ T j (q :: L) p (by simpa using h)
section
variable {r : Option Nat} {m : Nat} {P : Program} {ops : Array Oper} {Q : Exit → Act → World → Prop} {n i : Nat} {w : World} {L : List (Nat × Value)} {D : List Deferred} {T : List (Nat × Value)}
/-- What a table's list says of a slot: the last entry, or what was known ahead. -/
theorem tab_look (hT : ∀ j, j < i → ∃ v, T[j]? = some ((dof ops j).getD 0, v) ∧ (dof ops j).isSome = true) (hu : uniq ops i = true) : ∀ (j : Nat), j ≤ i → ∀ t, (∀ q v, q < j → T[q]? = some (t, v) → has (tabL T j L) t = true ∧ look (tabL T j L) t = v) ∧ ((∀ q, q < j → dof ops q ≠ some t) → has (tabL T j L) t = has L t ∧ look (tabL T j L) t = look L t)
  | 0, _, t => ⟨fun q v h => absurd h (Nat.not_lt_zero _), fun _ => by cases T <;> exact ⟨rfl, rfl⟩⟩
  | j + 1, hj, t => by
    obtain ⟨v, hv, hs⟩ := hT j (by omega)
    obtain ⟨d, hd⟩ := Option.isSome_iff_exists.1 hs
    rw [hd, Option.getD_some] at hv
    obtain ⟨ih1, ih2⟩ := tab_look hT hu j (by omega) t
    rw [tabL_succ T j L _ hv]
    simp only [has, look]
    cases hb : Nat.beq d t with
    | true =>
      have e := Nat.eq_of_beq_eq_true hb
      subst e
      simp only [cond_true]
      refine ⟨fun q v' hq hq2 => ⟨trivial, ?_⟩, fun hn => absurd hd (hn j (by omega))⟩
      have : q = j := by
        apply Classical.byContradiction
        intro hne
        obtain ⟨v'', hv'', hs''⟩ := hT q (by omega)
        rw [hq2] at hv''
        obtain ⟨d', hd'⟩ := Option.isSome_iff_exists.1 hs''
        rw [hd', Option.getD_some] at hv''
        obtain ⟨rfl, _⟩ := Prod.mk.inj (Option.some.inj hv'')
        have h1 := List.all_eq_true.1 (List.all_eq_true.1 hu j (List.mem_range.2 (by omega))) q (List.mem_range.2 (by omega))
        rw [hd, hd'] at h1
        simp at h1
        omega
      subst this
      rw [hv] at hq2
      exact (Prod.mk.inj (Option.some.inj hq2)).2
    | false =>
      simp only [cond_false]
      have hne : d ≠ t := fun e => by subst e; simp at hb
      refine ⟨fun q v' hq hq2 => ?_, fun hn => ih2 fun q hq => hn q (by omega)⟩
      rcases Nat.lt_succ_iff_lt_or_eq.1 hq with hq | rfl
      · exact ih1 q v' hq hq2
      · rw [hv] at hq2
        exact absurd (Prod.mk.inj (Option.some.inj hq2)).1 hne
/-- Between two operations: those listed have put their values. -/
structure Mid (ops : Array Oper) (i n : Nat) (D : List Deferred) (L T : List (Nat × Value)) (l : Array Bool) (a : Act) : Prop where
  size : a.tmps.size = n
  defers : a.defers = D
  base : ∀ t, has L t = true → inPre ops i t = false → a.tmps[t]? = some (look L t)
  put : ∀ j d v, j < i → l.getD j false = true → T[j]? = some (d, v) → a.tmps[d]? = some v
theorem inPre_spec {t : Nat} : inPre ops i t = false ↔ ∀ q, q < i → dof ops q ≠ some t := by
  unfold inPre
  rw [List.any_eq_false]
  constructor
  · intro h q hq e
    exact h q (List.mem_range.2 hq) (by simp [e])
  · intro h q hq
    have := h q (List.mem_range.1 hq)
    simpa using this
theorem expl_sound (hT : ∀ j o, j < i → ops[j]? = some o → ∃ d v, T[j]? = some (d, v) ∧ dstIs o d n = true ∧ okOp (tabL T j L) o = true ∧ (execOp (evL (tabL T j L)) o).run P w = .ok (.value v) w)
    (hi : i ≤ ops.size) (hu : uniq ops i = true)
    (fin : ∀ l a, Fr n a (tabL T i L) D → Region.ready .any ops l = [i] → (∀ j, j < i → l.getD j false = true) → ∀ fuel, unl l ≤ fuel → l.size = ops.size → (∀ k, i ≤ k → k < ops.size → l.getD k true = false) → wpAnyIn (FF r) m P .any ops Q fuel l a w) :
    ∀ (f : Nat) (l : Array Bool) (a : Act), expl ops i f l = true → Mid ops i n D L T l a → l.size = ops.size → (∀ k, i ≤ k → k < ops.size → l.getD k true = false) → ∀ fuel, unl l ≤ fuel → wpAnyIn (FF r) m P .any ops Q fuel l a w
  | 0, l, a, he, _, _, _, _, _ => by cases he
  | f + 1, l, a, he, hM, hs, hl, fuel, hf => by
    have hT1 : ∀ j, j < i → ∃ v, T[j]? = some ((dof ops j).getD 0, v) ∧ (dof ops j).isSome = true := fun j hj => by
      have hlt : j < ops.size := by omega
      obtain ⟨d, v, h1, h2, _⟩ := hT j ops[j] hj (by simp [hlt])
      have hd := (dstIs_spec h2).1
      have : dof ops j = some d := by unfold dof; simp [hlt, hd]
      exact ⟨v, by rw [this]; exact h1, by rw [this]; rfl⟩
    unfold expl at he
    simp only at he
    split at he
    · rename_i hr
      have hall : ∀ j, j < i → l.getD j false = true := fun j hj => List.all_eq_true.1 he j (List.mem_range.2 hj)
      refine fin l a ⟨hM.size, hM.defers, fun t ht => ?_⟩ hr hall fuel hf hs hl
      obtain ⟨k1, k2⟩ := tab_look (L := L) hT1 hu i (Nat.le_refl _) t
      cases hp : inPre ops i t with
      | false =>
        obtain ⟨g1, g2⟩ := k2 (inPre_spec.1 hp)
        rw [g2]
        exact hM.base t (by rw [← g1]; exact ht) hp
      | true =>
        obtain ⟨q, hq, e⟩ := List.any_eq_true.1 hp
        have hq := List.mem_range.1 hq
        have e : dof ops q = some t := by simpa using e
        obtain ⟨v, hv, _⟩ := hT1 q hq
        rw [e, Option.getD_some] at hv
        rw [(k1 q v hq hv).2]
        exact hM.put q t v hq (hall q hq) hv
    · rename_i hr
      simp only [Bool.and_eq_true, Bool.not_eq_true', List.isEmpty_eq_false_iff] at he
      have hmem := List.all_eq_true.1 he.2
      obtain ⟨fuel, rfl⟩ : ∃ g, fuel = g + 1 := by
        obtain ⟨j, hj⟩ := List.exists_mem_of_ne_nil _ he.1
        have := unl_set (mem_ready.1 hj).1
        exact ⟨fuel - 1, by omega⟩
      refine wpAnyIn_all rfl he.1 fun j hj => ?_
      have h1 := hmem j hj
      simp only [Bool.and_eq_true] at h1
      obtain ⟨hji, hop, hrec⟩ := h1
      have hji : j < i := by simpa [Nat.blt_eq] using hji
      have hlt : j < ops.size := by omega
      have ho : ops[j]? = some ops[j] := by simp [hlt]
      obtain ⟨d, v, t1, t2, t3, t4⟩ := hT j ops[j] hji ho
      obtain ⟨hd, hdn⟩ := dstIs_spec t2
      have hun := (mem_ready.1 hj).1
      unfold opnOk at hop
      rw [ho] at hop
      simp only [Bool.and_eq_true] at hop
      obtain ⟨⟨hg, hnd⟩, hops⟩ := hop
      have hg : (ops[j]).guard = none := by simpa using hg
      simp only [okOp, Bool.and_eq_true] at t3
      have hev : execOp a.eval ops[j] = execOp (evL (tabL T j L)) ops[j] := by
        refine execOp_congr _ (noSel_spec t3.1) fun x hx => ?_
        have hcov := covAll_spec t3.2 x (by simpa using hx)
        have hx2 := List.all_eq_true.1 hops x (by simpa using hx)
        cases x with
        | tmp t =>
          obtain ⟨k1, k2⟩ := tab_look (L := L) hT1 hu j (by omega) t
          show a.tmps.getD t undef = look (tabL T j L) t
          have hcov : has (tabL T j L) t = true := hcov
          cases hp : inPre ops i t with
          | false =>
            obtain ⟨g1, g2⟩ := k2 fun q hq => inPre_spec.1 hp q (by omega)
            rw [g2]
            have := hM.base t (by rw [← g1]; exact hcov) hp
            simp [this]
          | true =>
            obtain ⟨q, hq, e⟩ := List.any_eq_true.1 hp
            have hq1 := List.mem_range.1 hq
            have e' : dof ops q = some t := by simpa using e
            have h3 := List.all_eq_true.1 hx2 q hq
            rw [e] at h3
            simp only [Bool.not_true, Bool.false_or, Bool.and_eq_true] at h3
            have hqj : q < j := by simpa [Nat.blt_eq] using h3.1
            obtain ⟨v', hv', _⟩ := hT1 q hq1
            rw [e', Option.getD_some] at hv'
            rw [(k1 q v' hqj hv').2]
            have := hM.put q t v' hq1 h3.2 hv'
            simp [this]
        | _ => rfl
      have hset : (l.setIfInBounds j true).size = ops.size := by simp [hs]
      have hM' : Mid ops i n D L T (l.setIfInBounds j true) (a.put (some d) v) := by
        refine ⟨by simpa [Act.put] using hM.size, hM.defers, fun t ht hp => ?_, fun q d' v' hq hlq hv' => ?_⟩
        · have hne : d ≠ t := fun e => inPre_spec.1 hp j hji (by unfold dof; simp [hlt, hd, e])
          show (a.tmps.setIfInBounds d v)[t]? = _
          rw [Array.getElem?_setIfInBounds_ne hne]
          exact hM.base t ht hp
        · show (a.tmps.setIfInBounds d v)[d']? = _
          by_cases hqj : q = j
          · subst hqj
            rw [t1] at hv'
            obtain ⟨rfl, rfl⟩ := Prod.mk.inj (Option.some.inj hv')
            have : d < a.tmps.size := by rw [hM.size]; exact hdn
            simp [this]
          · have hdd : d ≠ d' := by
              intro e
              subst e
              obtain ⟨v1, hv1, hs1⟩ := hT1 q hq
              rw [hv'] at hv1
              obtain ⟨d2, hd2⟩ := Option.isSome_iff_exists.1 hs1
              rw [hd2, Option.getD_some] at hv1
              obtain ⟨rfl, _⟩ := Prod.mk.inj (Option.some.inj hv1)
              have hdj : dof ops j = some d := by unfold dof; simp [hlt, hd]
              have h1 := List.all_eq_true.1 (List.all_eq_true.1 hu q (List.mem_range.2 hq)) j (List.mem_range.2 hji)
              rw [hdj, hd2] at h1
              simp at h1
              exact hqj h1
            rw [Array.getElem?_setIfInBounds_ne hdd]
            refine hM.put q d' v' hq ?_ hv'
            rwa [Array.getD_eq_getD_getElem?, Array.getElem?_setIfInBounds_ne (fun e => hqj e.symm), ← Array.getD_eq_getD_getElem?] at hlq
      have hl' : ∀ k, i ≤ k → k < ops.size → (l.setIfInBounds j true).getD k true = false := fun k hk hk2 => by
        rw [Array.getD_eq_getD_getElem?, Array.getElem?_setIfInBounds_ne (by omega), ← Array.getD_eq_getD_getElem?]
        exact hl k hk hk2
      have hf' : unl (l.setIfInBounds j true) ≤ fuel := by have := unl_set hun; omega
      have ih := expl_sound hT hi hu fin f (l.setIfInBounds j true) (a.put (some d) v) hrec hM' hset hl' fuel hf'
      unfold wpOpIn
      rw [ho]
      have hw : Region.wanted ops[j] (yielded ops a.tmps) = true := by unfold Region.wanted; rw [hg]
      show if Region.wanted ops[j] (yielded ops a.tmps) = true then _ else _
      rw [if_pos hw]
      refine opIn hnd ?_
      unfold Oper.wp
      rw [hev, t4]
      show wpAnyIn (FF r) m P .any ops Q fuel (l.setIfInBounds j true) (a.put (ops[j]).dst v) w
      rw [hd]
      exact ih
end
section
variable {r : Option Nat} {m : Nat} {P : Program} {Q : Exit → Act → World → Prop} {n : Nat} {D : List Deferred} {w : World} {c : Cf} {E : Nat → Prop} {w0 : World} {X Y : Hid} {M : List (Nat × Obj)}
def cl (c : Cf) : List Oper := match c.cu with
  | .ops _ l => l
  | _ => []
/-- So many quiet steps, then K. -/
def Qt (P : Program) (n : Nat) (w : World) (N : Nat) (c : Cf) (K : Cf → Prop) : Prop := ∃ L', PR P n w ((cl c).take N) c.L L' ∧ K ⟨.ops (cops c) ((cl c).drop N), c.k, L'⟩
theorem q0 {K : Cf → Prop} (h : K ⟨.ops (cops c) (cl c), c.k, c.L⟩) : Qt P n w 0 c K := ⟨c.L, .nil, h⟩
theorem qv_ {N : Nat} {K : Cf → Prop} {v : Value} (hr : (execOp (evL c.L) (cop c)).run P w = .ok (.value v) w) (h : Qt P n w N (nv c v) K) (hc : isv n c = true) : Qt P n w (N + 1) c K := by
  obtain ⟨h1, h2⟩ := isv_spec hc
  rw [nv_eq] at h
  obtain ⟨L', h3, h4⟩ := h
  simp only [opk, Bool.and_eq_true] at h2
  obtain ⟨cu, k, L⟩ := c
  cases cu with
  | ops o l =>
    cases l with
    | nil => simp [isop] at h1
    | cons x l => exact ⟨L', .step h2.2 h2.1 hr h3, h4⟩
  | _ => simp [isop] at h1
def qv (P : Program) (w : World) (c : Cf) : Value := match (execOp (evL c.L) (cop c)).run P w with
  | .ok (.value v) _ => v
  | _ => undef
theorem qz {N : Nat} {K : Cf → Prop} (h : Qt P n w N (nv c (qv P w c)) K) (hc : isv n c = true := by kernel_rfl) (hr : (execOp (evL c.L) (cop c)).run P w = .ok (.value (qv P w c)) w := by kernel_rfl) : Qt P n w (N + 1) c K := qv_ hr h hc
theorem qH {N : Nat} {K : Cf → Prop} {v : Value} (hr : Unit → (execOp (evL c.L) (cop c)).run P w = .ok (.value v) w) (h : Qt P n w N (nv c v) K) (hc : isv n c = true := by kernel_rfl) : Qt P n w (N + 1) c K := qv_ (hr ()) h hc
theorem qo {N : Nat} {K : Cf → Prop} (i : Nat) (hS : St E w0 X w Y M) (h : Qt P n w N (nv c (ldV (ldG P (cop c)) (own P c M i))) K) (hc : isv n c = true := by kernel_rfl)
    (ho : (cop c).op = .load (ldT' (cop c)) (ldX (cop c)) := by kernel_rfl) (hx : evL c.L (ldX (cop c)) = .pointer (some ⟨bO M i, pOff (evL c.L (ldX (cop c))), none⟩) := by kernel_rfl)
    (ht : ldT P (ldT' (cop c)) = some (ldG P (cop c), (own P c M i).length) := by kernel_rfl) (hg : (ldG P (cop c) || (own P c M i).length == 1) = true := by kernel_rfl) (hi : M[i]? = some (bO M i, .cells (cO M i) (tO M i) (fO M i)) := by kernel_rfl) (hm : (own P c M i).length = ldM P (cop c) := by kernel_rfl) : Qt P n w (N + 1) c K :=
  qv_ (zB ho hx ht (by simpa using hg) (hS.cells i hi (by rw [hm]; rfl))) h hc
def firstA (n i : Nat) : Array Bool := ((List.range n).map fun j => Nat.blt j i).toArray
def dqk (ops : Array Oper) (i : Nat) : Bool := Nat.ble i ops.size && (uniq ops i && (expl ops i (i + 1) (Array.replicate ops.size false) && (chain ops i (ops.size - i) (firstA ops.size i) && Nat.beq (unl (firstA ops.size i)) (ops.size - i))))
theorem zdq (i : Nat) (hS : St E w0 X w Y M) (k : ∀ w1, St E w0 X w1 Y M → Le (rd w Y) (rd w1 Y) → Qt P n w1 i ⟨.ops (dops c) (dops c).toList, c.k, c.L⟩ fun c' => Go r m P Q n D w1 c')
    (hx : c.cu = .code (.region (did c) (dops c) true) := by kernel_rfl) (hm : P.follows .mixedOrders = true := by kernel_rfl) (hk : dqk (dops c) i = true := by kernel_rfl) : Go r m P Q n D w c := by
  intro a hF
  rw [hx]
  refine wpIn_region_any hm ?_
  obtain ⟨L', hp, hg⟩ := k w.drew (hS.call (Upd.drew w)) ((Upd.drew w).le Y)
  simp only [dqk, Bool.and_eq_true] at hk
  obtain ⟨k1, k2, k3, k4, k5⟩ := hk
  have k1 := Nat.le_of_ble_eq_true k1
  have k5 := Nat.eq_of_beq_eq_true k5
  obtain ⟨T, t1, t2, t3⟩ := hp.tab
  have hl : ((dops c).toList.take i).length = i := by simp; omega
  simp only [cl] at *
  rw [hl] at t1 t2
  have hT : ∀ j o, j < i → (dops c)[j]? = some o → ∃ d v, T[j]? = some (d, v) ∧ dstIs o d n = true ∧ okOp (tabL T j c.L) o = true ∧ (execOp (evL (tabL T j c.L)) o).run P w.drew = .ok (.value v) w.drew := fun j o hj ho => t3 j o (by rw [List.getElem?_take, if_pos hj]; simpa using ho)
  refine expl_sound (D := D) (L := c.L) hT k1 k2 ?_ (i + 1) _ a k3 ?_ (by simp) ?_ (dops c).size ?_
  · intro l a' hF' hr hall fuel hf hs hrest
    have e : l = firstA (dops c).size i := by
      apply Array.ext
      · simp [firstA, hs]
      · intro j h1 h2
        have h3 : j < (dops c).size := by omega
        have h4 : (firstA (dops c).size i)[j] = Nat.blt j i := by simp [firstA]
        rw [h4]
        by_cases hj : j < i
        · have := hall j hj
          have hb : Nat.blt j i = true := by simpa [Nat.blt_eq] using hj
          simpa [h1, hb] using this
        · have := hrest j (by omega) h3
          have hb : Nat.blt j i = false := by
            cases hb : Nat.blt j i with
            | false => rfl
            | true => exact absurd (by simpa [Nat.blt_eq] using hb) hj
          simpa [h1, hb] using this
    subst e
    refine chain_seq _ i _ a' _ k4 (by omega) ?_ fuel (by omega)
    rw [← t2] at hF'
    have := hg a' hF'
    exact this
  · refine ⟨hF.size, hF.defers, fun t ht _ => hF.get t ht, fun j d v hj hl' _ => ?_⟩
    have : j < (dops c).size := by omega
    simp [this] at hl'
  · intro k hk1 hk2
    simp [hk2]
  · unfold unl
    refine Nat.le_trans List.countP_le_length (by simp)
theorem zround2k {rec : Loop} {a : Act} {ps : Array Tmp} {assign body : Code} {l : Nat} {L : List (Nat × Value)} {R : Ending → World → Prop} (i p q : Nat) {v u : Value} (hr : RecOk rec a.tmps ps assign body) (hF : Fr n a L D) (hS : St E w0 X w Y M) (h : Go (some l) 0 P (rpost P l R body) n [] w ⟨.code assign, [], (q, u) :: (p, v) :: L⟩)
    (hps : ps = #[p, q] := by kernel_rfl) (hi : M[i]? = some (l, .loop rec) := by rfl) (hp : Nat.blt p n = true := by kernel_rfl) (hq : Nat.blt q n = true := by kernel_rfl) : YieldAt (FF none) 0 P l #[v, u] w R := by
  subst hps
  exact zround2 i hr hF hS h hi hp hq
end
end Go.Gv
namespace Go.Proofs.YtjnbipmlmafahaaGreat
open Go Go.Gv Go.RowKit
set_option maxRecDepth 100000
set_option maxHeartbeats 1000000
noncomputable def interp_Point_l6 (p0 : List (List Int)) (J3 : (List Int) → Option ((List Int) × Int)) : List Int → Nat → (List Int) → Option ((List Int) × Int)
  | [], k6, v6_1 => J3 v6_1
  | x6 :: r6, k6, v6_1 => (ix v6_1 (k6 : Int)).bind fun x8 => (ix p0 (k6 : Int)).bind fun x10 => (ix x10 (x8)).bind fun x12 => interp_Point_l6 p0 J3 r6 (k6 + 1) (v6_1.set k6 x12)
noncomputable def interp_Point_l50 (p0 : List (List Int)) (J2 : (List Int) → Int → Option ((List Int) × Int)) : Nat → Int → (List Int) → Int → Option ((List Int) × Int)
  | 0, _, _, _ => none
  | n50 + 1, v50_0, v50_1, v50_2 => if (v50_0) ≥ 0 then ((ix p0 (v50_0)).bind fun x52 => grd ((x52.length : Int) ≠ 0) <| (ix v50_1 (v50_0)).bind fun x60 => grd ((x52.length : Int) ≠ 0) <| interp_Point_l50 p0 J2 n50 (IntKind.i64.wrap ((v50_0) - 1)) (v50_1.set (v50_0).toNat (Int.tmod v50_2 (x52.length : Int))) (IntKind.i64.wrap (Int.tdiv v50_2 (x52.length : Int)))) else (J2 v50_1 0)
noncomputable def interp_Point_p (p0 : List (List Int)) (p1 : Int) : Option ((List Int) × Int) :=
  lt (fun (v2_0 : List Int) (v2_1 : Int) => lt (fun (v3_0 : List Int) => some (v3_0, v2_1)) fun J3 => interp_Point_l6 p0 J3 (v2_0.drop 0) 0 v2_0) fun J2 => (interp_Check_p p0).bind fun y21 => if ((y21) != 0) = true then (J2 ([] : List Int) y21) else (if (p1) < 0 then (J2 ([] : List Int) 8) else ((interp_size_p p0).bind fun y26 => if (p1) ≥ y26 then (J2 ([] : List Int) 8) else (grd (0 ≤ (p0.length : Int) ∧ 8 * p0.length ≤ 281474976710656 ∧ p0.length ≤ 140737488355328) <| interp_Point_l50 p0 J2 (p0.length + 1) (IntKind.i64.wrap ((p0.length : Int) - 1)) (List.replicate p0.length (0 : Int)) p1)))
theorem interp_Point_c (w : World) (X : Hid) (hX : ∀ k o, X k o → k < w.heap.size) (p0 : List (List Int)) (vp0 : Value) (hp0 : SV IntsS (rd w X) vp0 p0) (p1 : Int) (y : (List Int) × Int) (hp : interp_Point_p p0 p1 = some y) : Calls Tryz.prog 39 #[vp0, .int .i64 p1] w (Ret E0 w fun w' v => ∃ uu0, v = .tuple #[uu0, .int .i64 y.2] ∧ SV Ints (rd w' (old w)) uu0 y.1) := by
 obtain ⟨p0a1, p0a2, rfl, p0a_h0⟩ := hp0
 unfold interp_Point_p at hp
 refine zen Tryz.func39 ?_
 have C0 : St E0 w X w X [] := St.start hX
 refine zz 6 ?_
 have hob := ltd2 hp
 obtain ⟨J2, hJ2, hp⟩ := hob
 refine zjoin (fun ((v2_0, v2_1, rb2_0, ad2_0, m2_0, cap2_0) : (List Int) × Int × (List (Nat × Obj)) × (Option Addr) × Nat × Nat) => [(7, .int .i64 v2_1), (6, .slice ad2_0 m2_0 cap2_0), (0, .slice p0a1 p0.length p0a2)]) (fun ((v2_0, v2_1, rb2_0, ad2_0, m2_0, cap2_0) : (List Int) × Int × (List (Nat × Obj)) × (Option Addr) × Nat × Nat) w1 => ∃ Y1 : Hid, St E0 w X w1 Y1 (rb2_0) ∧ Le (rd w X) (rd w1 Y1) ∧ GRow IntCs 3 1 (rd w1 (orN Y1 w.heap.size)) rb2_0 ad2_0 m2_0 cap2_0 v2_0 ∧ J2 v2_0 v2_1 = some y) ?_ ?_
 ·
  rintro ⟨v2_0, v2_1, rb2_0, ad2_0, m2_0, cap2_0⟩ w2 ⟨Y2, C2, B2, hfv2_0_0, hp⟩
  have hp := (hJ2 _ _).symm.trans hp
  have hob := ltd1 hp
  obtain ⟨J3, hJ3, hp⟩ := hob
  refine zjoin (fun ((v3_0, rb3_0) : (List Int) × (List (Nat × Obj))) => [(6, .slice ad2_0 m2_0 cap2_0), (7, .int .i64 v2_1)]) (fun ((v3_0, rb3_0) : (List Int) × (List (Nat × Obj))) w1 => ∃ Y1 : Hid, St E0 w X w1 Y1 (rb3_0) ∧ Le (rd w2 Y2) (rd w1 Y1) ∧ GRow IntCs 3 1 (rd w1 (orN Y1 w.heap.size)) rb3_0 ad2_0 m2_0 cap2_0 v3_0 ∧ J3 v3_0 = some y) ?_ ?_
  ·
   rintro ⟨v3_0, rb3_0⟩ w3 ⟨Y3, C3, B3, hfv3_0_0, hp⟩
   have hp := (hJ3 _).symm.trans hp
   refine zz 9 ?_
   refine zr' (v := .tuple #[.slice ad2_0 m2_0 cap2_0, .int .i64 v2_1]) ?_
   have hob := St.pubGRN (A := []) (B := []) (fun rb => (rb)) C3 (fun _ => by simp only [List.append_assoc, List.cons_append, List.nil_append, List.append_nil]) hfv3_0_0 (Nat.le_refl _) IntCs.at
   obtain ⟨Y4, hSx4, B4, hRx4⟩ := hob
   have C4 : St E0 w X w3 Y4 [] := hSx4
   have hob := hRx4.hlen
   subst hob
   have hR4 : Ints (rd w3 (orN Y4 w.heap.size)) ad2_0 v3_0.length cap2_0 v3_0 := hRx4
   have hob := Option.some.inj hp
   subst hob
   exact ⟨C4.upd, _, rfl, ⟨_, rfl, ⟨_, _, rfl, ((hR4.mono (Le.or (Le.refl _) _))).mono Le.orr⟩⟩⟩
  intro K5 H5
  refine zz 4 ?_
  refine zs 17 (v := .int .i64 (m2_0 : Int)) (v' := .int .i64 (v2_0.length : Int)) (vint (congrArg (fun n : Nat => (n : Int)) (GRow.len hfv2_0_0))) ?_
  refine zz 4 ?_
  have hb6 : (v2_0.length : Int) ≤ 9223372036854775807 := GRow.bnd hfv2_0_0
  refine zlp Tryz.f39 [K5] [1, 1, 9, 1, 0] (fun ((k6, v6_1, rb6_1) : Nat × (List Int) × (List (Nat × Obj))) => [(0, .slice p0a1 p0.length p0a2), (6, .slice ad2_0 m2_0 cap2_0), (7, .int .i64 v2_1), (16, .slice ad2_0 m2_0 cap2_0), (17, .int .i64 (v2_0.length : Int)), (18, .int .i64 (k6 : Int))]) (fun ((k6, v6_1, rb6_1) : Nat × (List Int) × (List (Nat × Obj))) w1 => ∃ Y1 : Hid, St E0 w X w1 Y1 (rb6_1) ∧ Le (rd w2 Y2) (rd w1 Y1) ∧ GRow IntCs 3 1 (rd w1 (orN Y1 w.heap.size)) rb6_1 ad2_0 m2_0 cap2_0 v6_1 ∧ interp_Point_l6 p0 J3 (v2_0.drop k6) k6 v6_1 = some y) (fun ((k6, v6_1, rb6_1) : Nat × (List Int) × (List (Nat × Obj))) => v2_0.length - k6) (0, v2_0, rb2_0) ?_ ?_
  ·
   exact ⟨_, C2, Le.refl _, hfv2_0_0, hp⟩
  rintro ⟨k6, v6_1, rb6_1⟩ w6 K6 H6 ⟨Y6, C6, B6, hfv6_1_0, hp⟩
  refine zz 6 ?_
  refine zt 19 (p := (k6 : Int) < (v2_0.length : Int)) (fun ht7 => ?_) (fun ht7 => ?_)
  ·
   have hob := get_lt (l := v2_0) (k := k6) (lt_of_int ht7)
   obtain ⟨x6, hqx6⟩ := hob
   rw [dropC hqx6, interp_Point_l6] at hp
   have hzx6 : (0 : Int) ≤ (k6 : Int) := Int.natCast_nonneg _
   refine zz 8 ?_
   refine bndk hp fun x8 hx8 hp => ?_
   have hob := ix_some hx8
   obtain ⟨hzx8, hqx8⟩ := hob
   have hwx8 : v6_1[k6]? = some x8 := hqx8
   have hob := hfv6_1_0.opn hwx8
   obtain ⟨ge9, cure9, cse9, rfl, rfl, B9, hce9, hcue9⟩ := hob
   have hese9 : cse9 = [.int .i64 x8] := (hce9.2 _ (Le.refl _))
   subst hese9
   refine zi (b := ge9) (off := 0) (len := m2_0) (cap := cap2_0) (kd := .i64) (i := (k6 : Int)) 1 (0 + k6 * 1) ?_ (h0 := hzx8) (h1 := (ix_b hzx8 B9))
   refine zl (cells_row (C6.getMem (List.mem_singleton.2 rfl)) hcue9) ?_
   refine zz 9 ?_
   refine bndk hp fun x10 hx10 hp => ?_
   have hob := ix_some hx10
   obtain ⟨hzx10, hqx10⟩ := hob
   have hwx10 : p0[k6]? = some x10 := hqx10
   have hob := p0a_h0.opn hwx10
   obtain ⟨be11, oe11, rfl, B11, hEe11⟩ := hob
   obtain ⟨e111, e112, e11_at, e11_h0⟩ := hEe11
   refine zi (b := be11) (off := oe11) (len := p0.length) (cap := p0a2) (kd := .i64) (i := (k6 : Int)) 1 (oe11 + k6 * 1) ?_ (h0 := hzx10) (h1 := (ix_b hzx10 B11))
   refine zl ((e11_at.mono (Le2 B2 B6))).cells ?_
   refine zz 1 ?_
   refine bndk hp fun x12 hx12 hp => ?_
   have hob := ix_some hx12
   obtain ⟨hzx12, hqx12⟩ := hob
   have hob := e11_h0.opn hqx12
   obtain ⟨be13, oe13, rfl, B13, hEe13⟩ := hob
   have hAe13 : At (rd w X) ⟨be13, oe13 + (x8).toNat * 1, none⟩ [.int .i64 x12] := hEe13
   refine zi (b := be13) (off := oe13) (len := x10.length) (cap := e112) (kd := .i64) (i := x8) 1 (oe13 + (x8).toNat * 1) ?_ (h0 := hzx12) (h1 := (ix_b hzx12 B13))
   refine zl ((hAe13.mono (Le2 B2 B6))).cells ?_
   have hob := hfv6_1_0.opn2 hwx8
   obtain ⟨cse14, B14, hce14, hcue14⟩ := hob
   have hese14 : cse14 = [.int .i64 x8] := (hce14.2 _ (Le.refl _))
   subst hese14
   refine zi (b := ge9) (off := 0) (len := m2_0) (cap := cap2_0) (kd := .i64) (i := (k6 : Int)) 1 (0 + k6 * 1) ?_ (h0 := hzx8) (h1 := (ix_b hzx8 B14))
   have hgs16 := GRow.set (cs := [.int .i64 x12]) (x := x12) hfv6_1_0 B14 ⟨rfl, fun r2 h2 => rfl⟩
   refine zop (at1 [K5, K6] Tryz.f39 [1, 1, 9, 1, 0, 0, 1, 1, 0, 0, 1]) 10 (fun a15 _ G15 hz15 => op_storeGZ (k := 0 + k6 * 1) (k' := k6 * 1) (vs := [.int .i64 x12]) (A := []) (B := []) (fun rb => (rb)) G15 kr C6 (fun _ => by simp only [List.append_assoc, List.cons_append, List.nil_append, List.append_nil]) kr kr kr (q := false) kr kr (Nat.zero_add _) hgs16.2 ?_)
   intro w17 hSx17 B17
   obtain ⟨cur17, hcu17⟩ : ∃ c, c = setCells cure9 (k6 * 1) [.int .i64 x12] := ⟨_, rfl⟩
   rw [← hcu17] at hSx17 hgs16
   have C17 : St E0 w X w17 Y6 ([(ge9, .cells cur17 3 (0, 0))]) := hSx17
   have hg17 := hgs16.1.mono (Le.or B17 _)
   refine hz15 G15 ?_
   refine zz 5 ?_
   refine zs 33 (v := .int .i64 (IntKind.i64.wrap ((k6 : Int) + 1))) (v' := .int .i64 ((k6 : Int) + 1)) (vint (wi64 (wk0 k6) (wk1 ht7 hb6))) ?_
   refine zz 2 ?_
   refine znext (fun a h => H6 (k6 + 1, (v6_1.set k6 x12), [(ge9, .cells cur17 3 (0, 0))]) _ a h ⟨_, C17, (Le2 B6 B17), hg17, hp⟩ ?_)
   exact mu_lt ht7
  rw [List.drop_eq_nil_of_le (nlt_of_int ht7), interp_Point_l6] at hp
  refine zz 5 ?_
  exact znext (fun a h => H5 (v6_1, rb6_1) _ a h ⟨_, C6, B6, hfv6_1_0, hp⟩)
 intro K18 H18
 refine zz 3 ?_
 refine zciM (vs := #[.slice p0a1 p0.length p0a2, .int .i64 p1]) Tryz.func83 (fun R19 hR19 => ?_)
 refine zz 10 ?_
 refine bndk hp fun y21 hy21 hp => ?_
 refine zc C0 (interp_Check_c _ X0 (X0_lt _) p0 _ ⟨_, _, rfl, (p0a_h0.mono Le.x0)⟩ y21 hy21) ?_
 rintro v22 w22 C22 B22 hu22 rfl
 refine zz 11 ?_
 refine zb 12 (b := ((y21) != 0)) (fun hc23 => ?_) (fun hc23 => ?_)
 ·
  have hp := ipb hc23 hp
  refine zz 11 ?_
  refine zrM0 [.tmp 4, .tmp 5] (v := .tuple #[.slice none 0 0, .int .i64 y21]) (Res.tZ (Res.tZ Res.nil)) ?_
  refine hR19 _ _ ?_
  refine zz 6 ?_
  exact znext (fun a h => H18 (([] : List Int), y21, [], none, 0, 0) _ a h ⟨_, C22, B22, GRow.nil, hp⟩)
 have hp := iqb hc23 hp
 refine zz 6 ?_
 refine zt 19 (p := (p1) < 0) (fun ht24 => ?_) (fun ht24 => ?_)
 ·
  have hp := ip ht24 hp
  refine zz 18 ?_
  refine zrM0 [.tmp 4, .tmp 5] (v := .tuple #[.slice none 0 0, .int .i64 8]) (Res.tZ (Res.tZ Res.nil)) ?_
  refine hR19 _ _ ?_
  refine zz 6 ?_
  exact znext (fun a h => H18 (([] : List Int), 8, [], none, 0, 0) _ a h ⟨_, C22, B22, GRow.nil, hp⟩)
 have hp := iq ht24 hp
 refine zz 2 ?_
 refine bndk hp fun y26 hy26 hp => ?_
 refine zc C22 (interp_size_c _ X0 (X0_lt _) p0 _ ⟨_, _, rfl, ((p0a_h0.mono B22).mono Le.x0)⟩ y26 hy26) ?_
 rintro v27 w27 C27 B27 hu27 rfl
 refine zz 5 ?_
 refine zt 16 (p := (p1) ≥ y26) (fun ht28 => ?_) (fun ht28 => ?_)
 ·
  have hp := ip ht28 hp
  refine zz 10 ?_
  refine zrM0 [.tmp 4, .tmp 5] (v := .tuple #[.slice none 0 0, .int .i64 8]) (Res.tZ (Res.tZ Res.nil)) ?_
  refine hR19 _ _ ?_
  refine zz 6 ?_
  exact znext (fun a h => H18 (([] : List Int), 8, [], none, 0, 0) _ a h ⟨_, C27, (Le2 B22 B27), GRow.nil, hp⟩)
 have hp := iq ht28 hp
 refine zz 8 ?_
 have hob := grdp hp
 obtain ⟨hg30, hp⟩ := hob
 refine zop (at1 [] Tryz.f83 [1, 1, 0]) 2 (fun a29 _ G29 hz29 => op_makeG (d := 27) (Cl := IntCs) (l := (p0.length : Int)) (m := p0.length) (size := 1) (b := 8) (e := 3) (i0 := Tryz.t3) (z0 := (0 : Int)) (A := []) (B := []) (r := fun w1 Y1 => rd w1 (orN Y1 w.heap.size)) (fun rb => (rb)) G29 kr C27 (fun _ => by simp only [List.append_assoc, List.cons_append, List.nil_append, List.append_nil]) rfl kr rfl kr kr kr kr kr kr hg30.2.1 hg30.2.2 (fun _ => (show _ = _ by kernel_rfl)) ?_)
 intro rb31 ad31 w31 Y31 hg31 C31 B31 a32 G32
 refine hz29 G32 ?_
 refine zn pn (.cells #[.slice none 0 0] 22 (0, 0)) C31 ?_
 intro b34 w34 Y34 C34 B34 hu34
 refine zx 0 #[.slice ad31 p0.length p0.length] C34 ?_
 intro w35 C35 B35
 refine zz 7 ?_
 refine zci (vs := #[.slice p0a1 p0.length p0a2, .int .i64 p1]) Tryz.func117 (fun R36 hR36 => ?_)
 refine zz 2 ?_
 refine zn pn (.cells #[.slice p0a1 p0.length p0a2] 70 (0, 0)) C35 ?_
 intro b38 w38 Y38 C38 B38 hu38
 refine zn pn (.cells #[.int .i64 p1] 3 (0, 0)) C38 ?_
 intro b40 w40 Y40 C40 B40 hu40
 refine zz 10 ?_
 refine zr' (v := .func (.func 152) #[] #[.pointer (some ⟨b38, 0, none⟩), .pointer (some ⟨b40, 0, none⟩)]) ?_
 refine hR36 _ _ ?_
 refine zz 3 ?_
 refine zrng (caps := #[.pointer (some ⟨b38, 0, none⟩), .pointer (some ⟨b40, 0, none⟩)]) C40 (fun a41 rec41 l41 b41 w41 Y41 hFa41 hr41 C41 B41 hu41 => ?_) (hcall := fun args w => Tryz.call152 args w)
 refine zenM Tryz.func152 ?_
 refine zz 2 ?_
 refine zn pn (.cells #[.func (.yield l41) #[] #[]] 86 (0, 0)) C41 ?_
 intro b44 w44 Y44 C44 B44 hu44
 refine zz 4 ?_
 refine zo 4 C44 ?_
 refine zci (vs := #[.slice p0a1 p0.length p0a2]) Tryz.func153 (fun R45 hR45 => ?_)
 refine zz 2 ?_
 refine zn pn (.cells #[.slice p0a1 p0.length p0a2] 70 (0, 0)) C44 ?_
 intro b47 w47 Y47 C47 B47 hu47
 refine zz 10 ?_
 refine zr' (v := .func (.func 169) #[] #[.pointer (some ⟨b47, 0, none⟩)]) ?_
 refine hR45 _ _ ?_
 refine zz 3 ?_
 refine zrng (caps := #[.pointer (some ⟨b47, 0, none⟩)]) C47 (fun a48 rec48 l48 b48 w48 Y48 hFa48 hr48 C48 B48 hu48 => ?_) (hcall := fun args w => Tryz.call169 args w)
 refine zen Tryz.func169 ?_
 refine zz 2 ?_
 refine zo 2 C48 ?_
 refine zz 6 ?_
 have hc1_ := (Le7 B34 B35 B38 B40 B41 B44 B47).trans B48
 refine zlp Tryz.f169 [] [1, 0] (fun ((n50, v50_0, v50_1, v50_2, rb50_1) : Nat × Int × (List Int) × Int × (List (Nat × Obj))) => [(0, .func (.yield l48) #[] #[]), (1, .pointer (some ⟨b47, 0, none⟩)), (3, .int .i64 v50_0)]) (fun ((n50, v50_0, v50_1, v50_2, rb50_1) : Nat × Int × (List Int) × Int × (List (Nat × Obj))) w1 => ∃ Y1 : Hid, St E0 w X w1 Y1 ((l48, .loop rec48) :: (b48, .deferred (some [])) :: (b47, .cells #[.slice p0a1 p0.length p0a2] 70 (0, 0)) :: (b44, .cells #[.func (.yield l41) #[] #[]] 86 (0, 0)) :: (l41, .loop rec41) :: (b41, .deferred (some [])) :: (b40, .cells #[.int .i64 v50_2] 3 (0, 0)) :: (b38, .cells #[.slice p0a1 p0.length p0a2] 70 (0, 0)) :: (b34, .cells #[.slice ad31 p0.length p0.length] 22 (0, 0)) :: rb50_1) ∧ Le (rd w48 Y48) (rd w1 Y1) ∧ GRow IntCs 3 1 (rd w1 (orN Y1 w.heap.size)) rb50_1 ad31 p0.length p0.length v50_1 ∧ interp_Point_l50 p0 J2 n50 v50_0 v50_1 v50_2 = some y) (fun ((n50, v50_0, v50_1, v50_2, rb50_1) : Nat × Int × (List Int) × Int × (List (Nat × Obj))) => n50) ((p0.length + 1), IntKind.i64.wrap ((p0.length : Int) - 1), (List.replicate p0.length (0 : Int)), p1, rb31) ?_ ?_
 ·
  exact ⟨_, C48, Le.refl _, (hg31.mono (Le.or hc1_ _)), hp⟩
 rintro ⟨n50, v50_0, v50_1, v50_2, rb50_1⟩ w50 K50 H50 ⟨Y50, C50, B50, hfv50_1_0, hp⟩
 obtain _ | n50 := n50
 ·
  rw [interp_Point_l50] at hp; cases hp
 rw [interp_Point_l50] at hp
 refine zz 7 ?_
 refine zt 8 (p := (v50_0) ≥ 0) (fun ht51 => ?_) (fun ht51 => ?_)
 ·
  have hp := ip ht51 hp
  refine zz 9 ?_
  refine zo 2 C50 ?_
  refine zz 1 ?_
  refine bndk hp fun x52 hx52 hp => ?_
  have hob := ix_some hx52
  obtain ⟨hzx52, hqx52⟩ := hob
  have hob := p0a_h0.opn hqx52
  obtain ⟨be53, oe53, rfl, B53, hEe53⟩ := hob
  obtain ⟨e531, e532, e53_at, e53_h0⟩ := hEe53
  refine zi (b := be53) (off := oe53) (len := p0.length) (cap := p0a2) (kd := .i64) (i := v50_0) 1 (oe53 + (v50_0).toNat * 1) ?_ (h0 := hzx52) (h1 := (ix_b hzx52 B53))
  have hc2_ := (Le11 B22 B27 B31 B34 B35 B38 B40 B41 B44 B47 B48).trans B50
  refine zl ((e53_at.mono hc2_)).cells ?_
  refine zyld (l := l48) (vs := #[.int .i64 v50_0, .slice e531 x52.length e532]) (fun R54 hR54 => ?_)
  refine zround2 0 hr48 hFa48 C50 ?_
  refine zz 8 ?_
  refine zbody 0 hr48 C50 (fun w55 C55 B55 => ?_)
  refine zz 3 ?_
  refine zdq 6 C55 (fun w56 C56 B56 => ?_)
  refine qo 3 C56 ?_
  refine qz ?_
  refine qo 6 C56 ?_
  refine qz ?_
  refine qz ?_
  have hob := grdp hp
  obtain ⟨hg57, hp⟩ := hob
  refine qH (v := .int .i64 (Int.tmod v50_2 (x52.length : Int))) (fun _ => run_remV (a := v50_2) (b := (x52.length : Int)) rfl kr kr hg57 _) ?_
  refine q0 ?_
  refine zyld (l := l41) (vs := #[.int .i64 v50_0, .int .i64 (Int.tmod v50_2 (x52.length : Int))]) (fun R58 hR58 => ?_)
  refine zround2k 4 31 32 hr41 hFa41 C56 ?_
  refine zz 8 ?_
  refine zbody 4 hr41 C56 (fun w59 C59 B59 => ?_)
  refine zz 2 ?_
  refine zo 8 C59 ?_
  refine zz 2 ?_
  refine bndk hp fun x60 hx60 hp => ?_
  have hob := ix_some hx60
  obtain ⟨hzx60, hqx60⟩ := hob
  have hob := (hfv50_1_0.mono (Le.or (Le3 B55 B56 B59) _)).opn hqx60
  obtain ⟨ge61, cure61, cse61, rfl, rfl, B61, hce61, hcue61⟩ := hob
  have hese61 : cse61 = [.int .i64 x60] := (hce61.2 _ (Le.refl _))
  subst hese61
  refine zi (b := ge61) (off := 0) (len := p0.length) (cap := p0.length) (kd := .i64) (i := v50_0) 1 (0 + (v50_0).toNat * 1) ?_ (h0 := hzx60) (h1 := (ix_b hzx60 B61))
  have hgs63 := GRow.set (cs := [.int .i64 (Int.tmod v50_2 (x52.length : Int))]) (x := Int.tmod v50_2 (x52.length : Int)) (hfv50_1_0.mono (Le.or (Le3 B55 B56 B59) _)) B61 ⟨rfl, fun r2 h2 => rfl⟩
  refine zop (at1 [] Tryz.f83 [1, 1, 1, 0, 1, 0, 1, 0]) 4 (fun a62 _ G62 hz62 => op_storeGZ (k := 0 + (v50_0).toNat * 1) (k' := (v50_0).toNat * 1) (vs := [.int .i64 (Int.tmod v50_2 (x52.length : Int))]) (A := [(l48, .loop (busyL rec48)), (b48, .deferred (some [])), (b47, .cells #[.slice (some ⟨be53, oe53, none⟩) p0.length p0a2] 70 (0, 0)), (b44, .cells #[.func (.yield l41) #[] #[]] 86 (0, 0)), (l41, .loop (busyL rec41)), (b41, .deferred (some [])), (b40, .cells #[.int .i64 v50_2] 3 (0, 0)), (b38, .cells #[.slice (some ⟨be53, oe53, none⟩) p0.length p0a2] 70 (0, 0)), (b34, .cells #[.slice (some ⟨ge61, 0, none⟩) p0.length p0.length] 22 (0, 0))]) (B := []) (fun rb => ((l48, .loop (busyL rec48)) :: (b48, .deferred (some [])) :: (b47, .cells #[.slice (some ⟨be53, oe53, none⟩) p0.length p0a2] 70 (0, 0)) :: (b44, .cells #[.func (.yield l41) #[] #[]] 86 (0, 0)) :: (l41, .loop (busyL rec41)) :: (b41, .deferred (some [])) :: (b40, .cells #[.int .i64 v50_2] 3 (0, 0)) :: (b38, .cells #[.slice (some ⟨be53, oe53, none⟩) p0.length p0a2] 70 (0, 0)) :: (b34, .cells #[.slice (some ⟨ge61, 0, none⟩) p0.length p0.length] 22 (0, 0)) :: rb)) G62 kr C59 (fun _ => by simp only [List.append_assoc, List.cons_append, List.nil_append, List.append_nil]) kr kr kr (q := false) kr kr (Nat.zero_add _) hgs63.2 ?_)
  intro w64 hSx64 B64
  obtain ⟨cur64, hcu64⟩ : ∃ c, c = setCells cure61 ((v50_0).toNat * 1) [.int .i64 (Int.tmod v50_2 (x52.length : Int))] := ⟨_, rfl⟩
  rw [← hcu64] at hSx64 hgs63
  have C64 : St E0 w X w64 Y50 ((l48, .loop (busyL rec48)) :: (b48, .deferred (some [])) :: (b47, .cells #[.slice (some ⟨be53, oe53, none⟩) p0.length p0a2] 70 (0, 0)) :: (b44, .cells #[.func (.yield l41) #[] #[]] 86 (0, 0)) :: (l41, .loop (busyL rec41)) :: (b41, .deferred (some [])) :: (b40, .cells #[.int .i64 v50_2] 3 (0, 0)) :: (b38, .cells #[.slice (some ⟨be53, oe53, none⟩) p0.length p0a2] 70 (0, 0)) :: (b34, .cells #[.slice (some ⟨ge61, 0, none⟩) p0.length p0.length] 22 (0, 0)) :: [(ge61, .cells cur64 3 (0, 0))]) := hSx64
  have hg64 := hgs63.1.mono (Le.or B64 _)
  refine hz62 G62 ?_
  refine zz 2 ?_
  refine zrnext 4 hr41 C64 (fun w65 C65 B65 => ?_)
  refine hR58 _ _ ?_
  refine zz 7 ?_
  refine zo 6 C65 ?_
  refine zz 2 ?_
  have hob := grdp hp
  obtain ⟨hg67, hp⟩ := hob
  refine zop (at1 [] Tryz.f152 [1, 1, 0, 1, 0, 1]) 3 (fun a66 _ G66 hz66 => zF (d := 21) (v := .int .i64 (IntKind.i64.wrap (Int.tdiv v50_2 (x52.length : Int)))) G66 kr (run_quoV (a := v50_2) (b := (x52.length : Int)) rfl kr kr hg67 _) ?_)
  intro a68 G68
  refine hz66 G68 ?_
  refine zx 6 #[.int .i64 (IntKind.i64.wrap (Int.tdiv v50_2 (x52.length : Int)))] C65 ?_
  intro w69 C69 B69
  refine zz 2 ?_
  refine zrnext 0 hr48 C69 (fun w70 C70 B70 => ?_)
  refine hR54 _ _ ?_
  refine zz 12 ?_
  have hc3_ := (Le7 B50 B55 B56 B59 B64 B65 B69).trans B70
  refine znext (fun a h => H50 (n50, IntKind.i64.wrap ((v50_0) - 1), (v50_1.set (v50_0).toNat (Int.tmod v50_2 (x52.length : Int))), IntKind.i64.wrap (Int.tdiv v50_2 (x52.length : Int)), [(ge61, .cells cur64 3 (0, 0))]) _ a h ⟨_, C70, hc3_, (hg64.mono (Le.or (Le3 B65 B69 B70) _)), hp⟩ ?_)
  exact Nat.lt_succ_self _
 have hp := iq ht51 hp
 refine zz 5 ?_
 refine zr' (v := .tuple #[]) ?_
 refine ⟨⟨_, rfl⟩, ?_⟩
 refine zrend 0 b48 hr48 hFa48 C50 (fun w71 C71 B71 => ?_)
 refine zz 1 ?_
 refine zrM1 1 [] (v := .tuple #[]) C71 (fun w72 C72 B72 => ⟨Res.nil, ?_⟩)
 refine ⟨⟨_, rfl⟩, ?_⟩
 refine zrend 4 b41 hr41 hFa41 C72 (fun w73 C73 B73 => ?_)
 refine zz 4 ?_
 refine zo 8 C73 ?_
 refine zz 5 ?_
 refine zrM1 5 [.tmp 4, .tmp 5] (v := .tuple #[.slice ad31 p0.length p0.length, .int .i64 0]) C73 (fun w74 C74 B74 => ⟨(Res.tZ (Res.tZ Res.nil)), ?_⟩)
 refine hR19 _ _ ?_
 refine zz 6 ?_
 have hc4_ := (Le3 B71 B72 B73).trans B74
 have hc5_ := (Le15 B22 B27 B31 B34 B35 B38 B40 B41 B44 B47 B48 B50 B71 B72 B73).trans B74
 exact znext (fun a h => H18 (v50_1, 0, rb50_1, ad31, p0.length, p0.length) _ a h ⟨_, C74.tail.tail.tail.tail.tail.tail.tail.tail.tail, hc5_, (hfv50_1_0.mono (Le.or hc4_ _)), hp⟩)
end Go.Proofs.YtjnbipmlmafahaaGreat
/- DynamicsMeans as plain Lean. By an AI agent. -/
namespace Go.Proofs.YtjnbipmlmafahaaGreat
open Go Go.Gv Go.RowKit
set_option maxRecDepth 100000
set_option maxHeartbeats 1000000
theorem split_keyM {x : ModelD} (hc : dynamics_Check_p x = some 0) (g : Good x) {b : Int} {w : Nat} (hw : w < nV x) (hb : 0 ≤ b ∧ b < (x.advisories.length : Int)) : dynamics_Split_p x (keyZ x.advisories.length b w) = some ((w : Int), b, 0) := by
  have hn := g.n_le
  have a1 := g.a1
  have a2 := g.a2
  have hnv := g.nV_le
  obtain ⟨c, rfl⟩ := Int.eq_ofNat_of_zero_le hb.1
  have hc' : c < x.advisories.length := by omega
  have e : keyZ x.advisories.length (c : Int) w = ((w * x.advisories.length + c : Nat) : Int) := by unfold keyZ; omega
  have hlt : w * x.advisories.length + c < nV x * x.advisories.length := by
    have : (w + 1) * x.advisories.length ≤ nV x * x.advisories.length := Nat.mul_le_mul_right _ (by omega)
    rw [Nat.succ_mul] at this
    omega
  have hd : (w * x.advisories.length + c) / x.advisories.length = w := by
    rw [Nat.mul_comm, Nat.mul_add_div (by omega), Nat.div_eq_of_lt hc', Nat.add_zero]
  have hm : (w * x.advisories.length + c) % x.advisories.length = c := by
    rw [Nat.mul_comm, Nat.mul_add_mod, Nat.mod_eq_of_lt hc']
  unfold dynamics_Split_p
  rw [bnds hc, if_neg (by decide), e, if_neg (by omega), bnds g.size, if_neg (by omega), grdT (by omega), grdT (by omega)]
  have h1 : Int.tdiv ((w * x.advisories.length + c : Nat) : Int) (x.advisories.length : Int) = (w : Int) := by
    show (((w * x.advisories.length + c) / x.advisories.length : Nat) : Int) = _
    rw [hd]
  have h2 : Int.tmod ((w * x.advisories.length + c : Nat) : Int) (x.advisories.length : Int) = (c : Int) := by
    show (((w * x.advisories.length + c) % x.advisories.length : Nat) : Int) = _
    rw [hm]
  rw [h1, h2, wi64 (by omega) (by omega)]
section
variable {x : ModelD} {h u v b r : Int}
theorem axV_get {l : List Int} (ha : Axis l) {i : Nat} (hi : i < l.length) : ∃ a, l[i]? = some a ∧ (a : Rat) = axV l i ∧ -50000 ≤ a ∧ a ≤ 50000 := by
  have hg := List.getElem?_eq_getElem hi
  refine ⟨l[i], hg, ?_, ha.bdi hg⟩
  unfold axV
  rw [List.getD_eq_getElem?_getD, hg]
  rfl
theorem point_w (E : Env x h u v b r) {w : Nat} (hw : w < nV x) : ∃ a c d : Int, interp_Point_p [x.height, x.own, x.other] (w : Int) = some ([a, c, d], 0) ∧ (a : Rat) = axV x.height (w / x.other.length / x.own.length) ∧ (c : Rat) = axV x.own (w / x.other.length % x.own.length) ∧ (d : Rat) = axV x.other (w % x.other.length) ∧
    (-50000 ≤ a ∧ a ≤ 50000) ∧ (-50000 ≤ c ∧ c ≤ 50000) ∧ (-50000 ≤ d ∧ d ≤ 50000) := by
  have n1 := E.h1.ne; have n2 := E.h2.ne; have n3 := E.h3.ne
  have m1 := E.h1.le; have m2 := E.h2.le; have m3 := E.h3.le
  have hw2 : w < x.height.length * x.own.length * x.other.length := hw
  have d1 : w / x.other.length < x.height.length * x.own.length := Nat.div_lt_of_lt_mul (by rw [Nat.mul_comm]; exact hw2)
  have d2 : w / x.other.length / x.own.length < x.height.length := Nat.div_lt_of_lt_mul (by rw [Nat.mul_comm]; exact d1)
  have e1 : x.height.length * x.own.length ≤ 32 * 32 := Nat.mul_le_mul m1 m2
  have e2 : x.height.length * x.own.length * x.other.length ≤ 32 * 32 * 32 := Nat.mul_le_mul e1 m3
  obtain ⟨a, a1, a2, a3⟩ := axV_get E.h1 d2
  obtain ⟨c, c1, c2, c3⟩ := axV_get E.h2 (Nat.mod_lt (w / x.other.length) (by omega : 0 < x.own.length))
  obtain ⟨d, g1, g2, g3⟩ := axV_get E.h3 (Nat.mod_lt w (by omega : 0 < x.other.length))
  refine ⟨a, c, d, ?_, a2, c2, g2, a3, c3, g3⟩
  have sz : IntKind.i64.wrap (IntKind.i64.wrap (IntKind.i64.wrap (1 * (x.height.length : Int)) * (x.own.length : Int)) * (x.other.length : Int)) = ((x.height.length * x.own.length * x.other.length : Nat) : Int) := by
    rw [Int.one_mul, wi64 (x := (x.height.length : Int)) (by omega) (by omega), ← Int.natCast_mul, wi64 (x := ((x.height.length * x.own.length : Nat) : Int)) (by omega) (by omega), ← Int.natCast_mul, wi64 (by omega) (by omega)]
  have tm : ∀ p q : Nat, Int.tmod (p : Int) (q : Int) = ((p % q : Nat) : Int) := fun _ _ => rfl
  have td : ∀ p q : Nat, p ≤ 32768 → IntKind.i64.wrap (Int.tdiv (p : Int) (q : Int)) = ((p / q : Nat) : Int) := fun p q hp => by
    have : p / q ≤ p := Nat.div_le_self _ _
    show IntKind.i64.wrap ((p / q : Nat) : Int) = _
    generalize p / q = t at this ⊢
    exact wi64 (by omega) (by omega)
  have l1 := Nat.div_le_self w x.other.length
  have l2 := Nat.div_le_self (w / x.other.length) x.own.length
  have hh : w / x.other.length / x.own.length % x.height.length = w / x.other.length / x.own.length := Nat.mod_eq_of_lt d2
  unfold interp_Point_p
  rw [lt, bnds E.ck, if_neg (by decide), if_neg (by omega), isize3, Option.bind_some, sz, if_neg (by omega), grdT (by simp), show IntKind.i64.wrap ((([x.height, x.own, x.other].length : Nat) : Int) - 1) = 2 from by show IntKind.i64.wrap (((3 : Nat) : Int) - 1) = 2; decide]
  show interp_Point_l50 [x.height, x.own, x.other] _ 4 2 [0, 0, 0] (w : Int) = _
  rw [interp_Point_l50, if_pos (by decide), bnds (ixT (i := (2 : Int)) (k := 2) (x := x.other) rfl rfl), grdT (by omega), bnds (ixT (i := (2 : Int)) (k := 2) (x := (0 : Int)) rfl rfl), grdT (by omega), tm, td _ _ (by omega), show IntKind.i64.wrap ((2 : Int) - 1) = 1 from by decide]
  show interp_Point_l50 [x.height, x.own, x.other] _ 3 1 [0, 0, ((w % x.other.length : Nat) : Int)] _ = _
  rw [interp_Point_l50, if_pos (by decide), bnds (ixT (i := (1 : Int)) (k := 1) (x := x.own) rfl rfl), grdT (by omega), bnds (ixT (i := (1 : Int)) (k := 1) (x := (0 : Int)) rfl rfl), grdT (by omega), tm, td _ _ (by omega), show IntKind.i64.wrap ((1 : Int) - 1) = 0 from by decide]
  show interp_Point_l50 [x.height, x.own, x.other] _ 2 0 [0, ((w / x.other.length % x.own.length : Nat) : Int), ((w % x.other.length : Nat) : Int)] _ = _
  rw [interp_Point_l50, if_pos (by decide), bnds (ixT (i := (0 : Int)) (k := 0) (x := x.height) rfl rfl), grdT (by omega), bnds (ixT (i := (0 : Int)) (k := 0) (x := (0 : Int)) rfl rfl), grdT (by omega), tm, td _ _ (by omega), hh, show IntKind.i64.wrap ((0 : Int) - 1) = -1 from by decide]
  show interp_Point_l50 [x.height, x.own, x.other] _ 1 (-1) [((w / x.other.length / x.own.length : Nat) : Int), ((w / x.other.length % x.own.length : Nat) : Int), ((w % x.other.length : Nat) : Int)] _ = _
  rw [interp_Point_l50, if_neg (by decide), lt, List.drop_zero]
  rw [interp_Point_l6, bnds (ixT (k := 0) rfl rfl), bnds (ixT (k := 0) (x := x.height) rfl rfl), bnds (ixT rfl a1)]
  rw [interp_Point_l6, bnds (ixT (k := 1) (x := ((w / x.other.length % x.own.length : Nat) : Int)) rfl rfl), bnds (ixT (k := 1) (x := x.own) rfl rfl), bnds (ixT rfl c1)]
  rw [interp_Point_l6, bnds (ixT (k := 2) (x := ((w % x.other.length : Nat) : Int)) rfl rfl), bnds (ixT (k := 2) (x := x.other) rfl rfl), bnds (ixT rfl g1)]
  rw [interp_Point_l6]
  rfl
/-! ### Numbers that fit -/
theorem int_db {z : Int} {B : Nat} (h : z.natAbs ≤ B) : DB 1 B (z : Rat) := ⟨z, by rw [Rat.mkRat_one], h⟩
theorem from_fit {z : Int} (h0 : -200000 ≤ z) (h1 : z ≤ 200000) : rat_From_p z = some (Raw.of (z : Rat)) := grdT (by omega)
theorem add_fit {p q : Rat} (hp : ratE p = 0) (hq : ratE q = 0) (h : ratE (p + q) = 0) : rat_Add_p (Raw.of p) (Raw.of q) = some (Raw.of (p + q), 0) := by
  unfold rat_Add_p
  rw [Raw.of_rat, Raw.of_rat, (opR_fit (of_fit hp).1 (of_fit hq).1 h).1, (opR_fit (of_fit hp).1 (of_fit hq).1 h).2]
/-! ### The sums over the outcomes -/
noncomputable def prob (x : ModelD) (h u v b r : Int) (o : Out) : Rat := getP o.to 0 (sums x h u v b r)
theorem outs_p {o : Out} (ho : o ∈ outs x h u v b r) : o.p = Raw.of (prob x h u v b r o) := by
  obtain ⟨k, _, rfl⟩ := List.mem_map.1 ho
  rfl
noncomputable def osum (x : ModelD) (h u v b r : Int) (φ : Nat → Int) (q : List Out) : Rat := rsum (q.map fun o => prob x h u v b r o * (φ (vx x b o.to) : Rat))
theorem osum_fit (E : Env x h u v b r) (φ : Nat → Int) {q : List Out} (h6 : q.length ≤ 64) (hφ : ∀ o ∈ q, (φ (vx x b o.to)).natAbs ≤ 50000) : ratE (osum x h u v b r φ q) = 0 := by
  obtain ⟨D, B, d0, d1, d2, d3⟩ := E.bd
  have h1 : DB (D * 1) ((q.map fun o => prob x h u v b r o * (φ (vx x b o.to) : Rat)).length * (B * 50000)) (osum x h u v b r φ q) := rsum_db (by rw [Nat.mul_one]; exact d0) fun p hp => by
    obtain ⟨o, ho, rfl⟩ := List.mem_map.1 hp
    exact (d3 o.to).mul (int_db (hφ o ho))
  refine h1.fit (by rw [Nat.mul_one]; exact d1) (Nat.lt_of_le_of_lt (Nat.mul_le_mul_right _ (show (q.map fun o => prob x h u v b r o * (φ (vx x b o.to) : Rat)).length ≤ 64 by simpa using h6)) ?_)
  refine Nat.lt_of_le_of_lt ?_ d2
  omega
theorem prob_fit (E : Env x h u v b r) (o : Out) : ratE (prob x h u v b r o) = 0 := E.fits o.to
theorem osum_snoc (φ : Nat → Int) (q : List Out) (o : Out) : osum x h u v b r φ (q ++ [o]) = osum x h u v b r φ q + prob x h u v b r o * (φ (vx x b o.to) : Rat) := by
  unfold osum
  rw [List.map_append, rsum_append]
  congr 1
  exact Rat.add_zero _
def f0 (x : ModelD) (w : Nat) : Int := x.height.getD (w / x.other.length / x.own.length) 0
def f1 (x : ModelD) (w : Nat) : Int := x.own.getD (w / x.other.length % x.own.length) 0
def f2 (x : ModelD) (w : Nat) : Int := x.other.getD (w % x.other.length) 0
theorem point_f (E : Env x h u v b r) {w : Nat} (hw : w < nV x) : interp_Point_p [x.height, x.own, x.other] (w : Int) = some ([f0 x w, f1 x w, f2 x w], 0) ∧ (-50000 ≤ f0 x w ∧ f0 x w ≤ 50000) ∧ (-50000 ≤ f1 x w ∧ f1 x w ≤ 50000) ∧ (-50000 ≤ f2 x w ∧ f2 x w ≤ 50000) := by
  obtain ⟨a, c, d, h1, h2, h3, h4, h5, h6, h7⟩ := point_w E hw
  have inj : ∀ {p q : Int}, (p : Rat) = (q : Rat) → p = q := fun h => by exact_mod_cast h
  have e0 : a = f0 x w := inj h2
  have e1 : c = f1 x w := inj h3
  have e2 : d = f2 x w := inj h4
  subst e0 e1 e2
  exact ⟨h1, h5, h6, h7⟩
theorem osum_mean (φ : Nat → Int) (ψ : Nat → Rat) (hφ : ∀ w, (φ w : Rat) = ψ w) : osum x h u v b r φ (outs x h u v b r) = rsum ((termsT x h u v b r).map fun t => t.2 * ψ (vx x b t.1)) := by
  rw [← outs_mean (fun k => ψ (vx x b k))]
  unfold osum prob
  congr 1
  refine List.map_congr_left fun o _ => ?_
  rw [hφ]
theorem fgkc (w : Nat) : (((fun _ => 1 : Nat → Int) w : Int) : Rat) = fgk x one1 one1 one1 w := by unfold fgk one1; rw [Rat.one_mul, Rat.one_mul]; rfl
end
end Go.Proofs.YtjnbipmlmafahaaGreat
namespace Go.Proofs.YtjnbipmlmafahaaGreat
open Go Go.Gv Go.RowKit
set_option maxRecDepth 100000
set_option maxHeartbeats 1000000
def ActnV (r : Rd) (v : Value) (x : Actn) : Prop := ∃ a1 a2 a3 a4 a5 a6 a7 a8 a9, v = .agg #[.bool x.cost.neg, .slice a1 a2 a3, .slice a4 a5 a6, .slice a7 a8 a9] ∧ Limbs r a1 a2 a3 x.cost.ln ∧ Limbs r a4 a5 a6 x.cost.ld ∧ OutsR r a7 a8 a9 x.next
theorem ActnV.op {r : Rd} {v : Value} {x : Actn} {C : Prop} (h : ActnV r v x) (k : ∀ (a1 : Option Addr) (a2 : Nat) (a3 : Nat) (a4 : Option Addr) (a5 : Nat) (a6 : Nat) (a7 : Option Addr) (a8 : Nat) (a9 : Nat), v = .agg #[.bool x.cost.neg, .slice a1 a2 a3, .slice a4 a5 a6, .slice a7 a8 a9] → Limbs r a1 a2 a3 x.cost.ln → Limbs r a4 a5 a6 x.cost.ld → OutsR r a7 a8 a9 x.next → C) : C := by
  obtain ⟨a1, a2, a3, a4, a5, a6, a7, a8, a9, h0, h1, h2, h3⟩ := h
  exact k a1 a2 a3 a4 a5 a6 a7 a8 a9 h0 h1 h2 h3
theorem ActAt.op {r : Rd} {a : Addr} {x : Actn} {C : Prop} (h : ActAt r a x) (k : ∀ (a1 : Option Addr) (a2 : Nat) (a3 : Nat) (a4 : Option Addr) (a5 : Nat) (a6 : Nat) (a7 : Option Addr) (a8 : Nat) (a9 : Nat), At r a [.bool x.cost.neg, .slice a1 a2 a3, .slice a4 a5 a6, .slice a7 a8 a9] → Limbs r a1 a2 a3 x.cost.ln → Limbs r a4 a5 a6 x.cost.ld → OutsR r a7 a8 a9 x.next → C) : C := by
  obtain ⟨a1, a2, a3, a4, a5, a6, a7, a8, a9, h0, h1, h2, h3⟩ := h
  exact k a1 a2 a3 a4 a5 a6 a7 a8 a9 h0 h1 h2 h3
theorem ActnV.mono {r r' : Rd} {v : Value} {x : Actn} (h : ActnV r v x) (k : Le r r') : ActnV r' v x := by
  obtain ⟨a1, a2, a3, a4, a5, a6, a7, a8, a9, h0, h1, h2, h3⟩ := h
  exact ⟨a1, a2, a3, a4, a5, a6, a7, a8, a9, h0, h1.mono k, h2.mono k, h3.mono k⟩
def ActCs (r : Rd) (cs : List Value) (x : Actn) : Prop := ∃ a1 a2 a3 a4 a5 a6 a7 a8 a9, cs = [.bool x.cost.neg, .slice a1 a2 a3, .slice a4 a5 a6, .slice a7 a8 a9] ∧ Limbs r a1 a2 a3 x.cost.ln ∧ Limbs r a4 a5 a6 x.cost.ld ∧ OutsR r a7 a8 a9 x.next
theorem ActCs.at (r : Rd) (a : Addr) (cs : List Value) (x : Actn) (h : ActCs r cs x) (k : At r a cs) : ActAt r a x := by
  obtain ⟨a1, a2, a3, a4, a5, a6, a7, a8, a9, rfl, h0, h1, h2⟩ := h
  exact ⟨a1, a2, a3, a4, a5, a6, a7, a8, a9, k, h0, h1, h2⟩
def StateCs (r : Rd) (cs : List Value) (x : List Actn) : Prop := ∃ a1 a2 a3, cs = [.slice a1 a2 a3] ∧ ActsR r a1 a2 a3 x
theorem StateCs.at (r : Rd) (a : Addr) (cs : List Value) (x : List Actn) (h : StateCs r cs x) (k : At r a cs) : StateAt r a x := by
  obtain ⟨a1, a2, a3, rfl, h2⟩ := h
  exact ⟨a1, a2, a3, k, h2⟩
def MdpAt (r : Rd) (a : Addr) (x : Mdp) : Prop := ∃ a1 a2 a3 a4 a5 a6 a7 a8 a9, At r a [.bool x.disc.neg, .slice a1 a2 a3, .slice a4 a5 a6, .slice a7 a8 a9] ∧ Limbs r a1 a2 a3 x.disc.ln ∧ Limbs r a4 a5 a6 x.disc.ld ∧ StatesR r a7 a8 a9 x.states
theorem MdpAt.mono (r r' : Rd) (a : Addr) (x : Mdp) (k : Le r r') (h : MdpAt r a x) : MdpAt r' a x := by
  obtain ⟨a1, a2, a3, a4, a5, a6, a7, a8, a9, h0, h1, h2, h3⟩ := h
  exact ⟨a1, a2, a3, a4, a5, a6, a7, a8, a9, h0.mono k, h1.mono k, h2.mono k, h3.mono k⟩
def MdpV (r : Rd) (v : Value) (x : Mdp) : Prop := ∃ a1 a2 a3 a4 a5 a6 a7 a8 a9, v = .agg #[.bool x.disc.neg, .slice a1 a2 a3, .slice a4 a5 a6, .slice a7 a8 a9] ∧ Limbs r a1 a2 a3 x.disc.ln ∧ Limbs r a4 a5 a6 x.disc.ld ∧ StatesR r a7 a8 a9 x.states
theorem MdpV.op {r : Rd} {v : Value} {x : Mdp} {C : Prop} (h : MdpV r v x) (k : ∀ (a1 : Option Addr) (a2 : Nat) (a3 : Nat) (a4 : Option Addr) (a5 : Nat) (a6 : Nat) (a7 : Option Addr) (a8 : Nat) (a9 : Nat), v = .agg #[.bool x.disc.neg, .slice a1 a2 a3, .slice a4 a5 a6, .slice a7 a8 a9] → Limbs r a1 a2 a3 x.disc.ln → Limbs r a4 a5 a6 x.disc.ld → StatesR r a7 a8 a9 x.states → C) : C := by
  obtain ⟨a1, a2, a3, a4, a5, a6, a7, a8, a9, h0, h1, h2, h3⟩ := h
  exact k a1 a2 a3 a4 a5 a6 a7 a8 a9 h0 h1 h2 h3
theorem MdpAt.op {r : Rd} {a : Addr} {x : Mdp} {C : Prop} (h : MdpAt r a x) (k : ∀ (a1 : Option Addr) (a2 : Nat) (a3 : Nat) (a4 : Option Addr) (a5 : Nat) (a6 : Nat) (a7 : Option Addr) (a8 : Nat) (a9 : Nat), At r a [.bool x.disc.neg, .slice a1 a2 a3, .slice a4 a5 a6, .slice a7 a8 a9] → Limbs r a1 a2 a3 x.disc.ln → Limbs r a4 a5 a6 x.disc.ld → StatesR r a7 a8 a9 x.states → C) : C := by
  obtain ⟨a1, a2, a3, a4, a5, a6, a7, a8, a9, h0, h1, h2, h3⟩ := h
  exact k a1 a2 a3 a4 a5 a6 a7 a8 a9 h0 h1 h2 h3
theorem MdpV.mono {r r' : Rd} {v : Value} {x : Mdp} (h : MdpV r v x) (k : Le r r') : MdpV r' v x := by
  obtain ⟨a1, a2, a3, a4, a5, a6, a7, a8, a9, h0, h1, h2, h3⟩ := h
  exact ⟨a1, a2, a3, a4, a5, a6, a7, a8, a9, h0, h1.mono k, h2.mono k, h3.mono k⟩
theorem size_le {x : ModelD} {y : Int} (h : dynamics_size_p x = some y) : y ≤ 9223372036854775807 := by
  unfold dynamics_size_p at h
  rw [← Option.some.inj h]
  exact wrap_le _
theorem Size_le {x : ModelD} {y : Int × Int} (h : dynamics_Size_p x = some y) : y.1 ≤ 9223372036854775807 := by
  unfold dynamics_Size_p at h
  obtain ⟨c, _, h⟩ := Option.bind_eq_some_iff.1 h
  split at h
  · rw [← Option.some.inj h]; exact (by decide : (0 : Int) ≤ 9223372036854775807)
  · obtain ⟨z, hz, h⟩ := Option.bind_eq_some_iff.1 h
    rw [← Option.some.inj h]; exact size_le hz
noncomputable def dynamics_Build_l44 (p0 : ModelD) (y25 : Int × Int × Int) (y31 : (List Int) × Int) (J33 : (List Actn) → Option (Mdp × Int)) : List BoundsD → Nat → (List Actn) → Option (Mdp × Int)
  | [], k44, v44_0 => J33 v44_0
  | x44 :: r44, k44, v44_0 => (dynamics_Cost_p p0 (y25.2.1) (k44 : Int)).bind fun y47 => (ix y31.1 (0 : Int)).bind fun x52 => (ix y31.1 (1 : Int)).bind fun x54 => (ix y31.1 (2 : Int)).bind fun x56 => (dynamics_spread_p p0 (x52) (x54) (x56) (k44 : Int)).bind fun y59 => if ((y59.2) != 0) = true then (some ((Mdp.mk Raw.zero ([] : List (List Actn))), y59.2)) else (grd ((v44_0.length + 1) * 80 ≤ 140737488355328) <| dynamics_Build_l44 p0 y25 y31 J33 r44 (k44 + 1) (v44_0 ++ [(Actn.mk y47.1 y59.1)]))
noncomputable def dynamics_Build_l22 (p0 : ModelD) (J15 : (List (List Actn)) → Option (Mdp × Int)) : Nat → Nat → (List (List Actn)) → Option (Mdp × Int)
  | 0, k22, v22_1 => J15 v22_1
  | r22 + 1, k22, v22_1 => (dynamics_Split_p p0 (k22 : Int)).bind fun y25 => (dynamics_grid_p p0).bind fun y28 => (interp_Point_p y28 (y25.1)).bind fun y31 => lt (fun (v33_0 : List Actn) => grd ((v22_1.length + 1) * 24 ≤ 140737488355328) <| dynamics_Build_l22 p0 J15 r22 (k22 + 1) (v22_1 ++ [v33_0])) fun J33 => dynamics_Build_l44 p0 y25 y31 J33 (p0.advisories.drop 0) 0 ([] : List Actn)
noncomputable def dynamics_Build_p (p0 : ModelD) : Option (Mdp × Int) :=
  (dynamics_Check_p p0).bind fun y7 => if ((y7) != 0) = true then (some ((Mdp.mk Raw.zero ([] : List (List Actn))), y7)) else ((rat_From_p (1 : Int)).bind fun y12 => lt (fun (v15_0 : List (List Actn)) => some ((Mdp.mk y12 v15_0), 0)) fun J15 => (dynamics_size_p p0).bind fun y20 => dynamics_Build_l22 p0 J15 ((y20).toNat - 0) 0 ([] : List (List Actn)))
theorem dynamics_Build_c (w : World) (X : Hid) (hX : ∀ k o, X k o → k < w.heap.size) (p0 : ModelD) (vp0 : Value) (hp0 : ModelDV (rd w X) vp0 p0) (y : Mdp × Int) (hp : dynamics_Build_p p0 = some y) : Calls Tryz.prog 32 #[vp0] w (Ret E0 w fun w' v => ∃ uu0, v = .tuple #[uu0, .int .i64 y.2] ∧ MdpV (rd w' (old w)) uu0 y.1) := by
 have hVp0 := hp0
 refine ModelDV.op hp0 fun p0a1 p0a2 p0a3 p0a4 p0a5 p0a6 p0a7 p0a8 p0a9 p0a10 p0a11 p0a12 p0a13 p0a14 p0a15 p0a16 p0a17 p0a18 p0a19 p0a20 p0a21 p0a22 p0a23 p0a24 hv9 p0a_h0 p0a_h1 p0a_h2 p0a_h3 p0a_h4 p0a_h5 p0a_h6 p0a_h7 p0a_h8 p0a_h9 p0a_h10 p0a_h11 => ?_
 subst hv9
 unfold dynamics_Build_p at hp
 refine zen Tryz.func32 ?_
 have C0 : St E0 w X w X [] := St.start hX
 refine zz 2 ?_
 refine zn pn (.cells #[.slice p0a1 p0.height.length p0a2, .slice p0a3 p0.own.length p0a4, .slice p0a5 p0.other.length p0a6, .slice p0a7 p0.advisories.length p0a8, .int .i64 p0.pull, .int .i64 p0.near, .int .i64 p0.steps, .slice p0a9 p0.ownNoise.length p0a10, .slice p0a11 p0.otherNoise.length p0a12, .bool p0.alert.neg, .slice p0a13 p0.alert.ln.length p0a14, .slice p0a15 p0.alert.ld.length p0a16, .bool p0.strengthen.neg, .slice p0a17 p0.strengthen.ln.length p0a18, .slice p0a19 p0.strengthen.ld.length p0a20, .bool p0.reversal.neg, .slice p0a21 p0.reversal.ln.length p0a22, .slice p0a23 p0.reversal.ld.length p0a24] 30 (0, 0)) C0 ?_
 intro b3 w3 Y3 C3 B3 hu3
 refine zn pn (.cells #[.bool false, .slice none 0 0, .slice none 0 0, .slice none 0 0] 57 (0, 0)) C3 ?_
 intro b5 w5 Y5 C5 B5 hu5
 refine zz 6 ?_
 refine zo 1 C5 ?_
 refine bndk hp fun y7 hy7 hp => ?_
 refine zc C5 (dynamics_Check_c _ X0 (X0_lt _) p0 _ ((hVp0.mono (Le2 B3 B5)).mono Le.x0) y7 hy7) ?_
 rintro v8 w8 C8 B8 hu8 rfl
 refine zz 9 ?_
 refine zb 20 (b := ((y7) != 0)) (fun hc9 => ?_) (fun hc9 => ?_)
 ·
  have hp := ipb hc9 hp
  refine zz 3 ?_
  refine zo 0 C8 ?_
  refine zz 1 ?_
  refine zx 0 #[.bool false, .slice none 0 0, .slice none 0 0, .slice none 0 0] C8 ?_
  intro w10 C10 B10
  refine zz 5 ?_
  refine zrS [.cell 2 57, .tmp 3] (v := .tuple #[.agg #[.bool false, .slice none 0 0, .slice none 0 0, .slice none 0 0], .int .i64 y7]) (Res.cM C10 0 (Res.tZ Res.nil)) ?_
  have hob := Option.some.inj hp
  subst hob
  exact ⟨C10.upd, _, rfl, ⟨_, rfl, ⟨_, _, _, _, _, _, _, _, _, rfl, Limbs.nil0, Limbs.nil0, (show StatesR _ none 0 0 [] from SlR.nil none (by decide))⟩⟩⟩
 have hp := iqb hc9 hp
 refine zz 5 ?_
 refine bndk hp fun y12 hy12 hp => ?_
 refine zc C8 (rat_From_c _ X0 (X0_lt _) (1 : Int) y12 hy12) ?_
 rintro v13 w13 C13 B13 hu13 ⟨u13_0_1, u13_0_2, u13_0_3, u13_0_4, u13_0_5, u13_0_6, rfl, u13_0__h0, u13_0__h1⟩
 have hob := u13_0__h0.hlen
 subst hob
 have hob := u13_0__h1.hlen
 subst hob
 refine zz 1 ?_
 refine zx 0 #[.bool y12.neg, .slice u13_0_1 y12.ln.length u13_0_3, .slice u13_0_4 y12.ld.length u13_0_6, .slice none 0 0] C13 ?_
 intro w14 C14 B14
 refine zz 2 ?_
 have hob := ltd1 hp
 obtain ⟨J15, hJ15, hp⟩ := hob
 refine zjoin (fun ((v15_0, rb15_0, ad15_0, m15_0, cap15_0) : (List (List Actn)) × (List (Nat × Obj)) × (Option Addr) × Nat × Nat) => [(2, .pointer (some ⟨b5, 0, none⟩))]) (fun ((v15_0, rb15_0, ad15_0, m15_0, cap15_0) : (List (List Actn)) × (List (Nat × Obj)) × (Option Addr) × Nat × Nat) w1 => ∃ Y1 : Hid, St E0 w X w1 Y1 ((b5, .cells #[.bool y12.neg, .slice u13_0_1 y12.ln.length u13_0_3, .slice u13_0_4 y12.ld.length u13_0_6, .slice ad15_0 m15_0 cap15_0] 57 (0, 0)) :: (b3, .cells #[.slice p0a1 p0.height.length p0a2, .slice p0a3 p0.own.length p0a4, .slice p0a5 p0.other.length p0a6, .slice p0a7 p0.advisories.length p0a8, .int .i64 p0.pull, .int .i64 p0.near, .int .i64 p0.steps, .slice p0a9 p0.ownNoise.length p0a10, .slice p0a11 p0.otherNoise.length p0a12, .bool p0.alert.neg, .slice p0a13 p0.alert.ln.length p0a14, .slice p0a15 p0.alert.ld.length p0a16, .bool p0.strengthen.neg, .slice p0a17 p0.strengthen.ln.length p0a18, .slice p0a19 p0.strengthen.ld.length p0a20, .bool p0.reversal.neg, .slice p0a21 p0.reversal.ln.length p0a22, .slice p0a23 p0.reversal.ld.length p0a24] 30 (0, 0)) :: rb15_0) ∧ Le (rd w14 Y5) (rd w1 Y1) ∧ GRow StateCs 66 1 (rd w1 (orN Y1 w.heap.size)) rb15_0 ad15_0 m15_0 cap15_0 v15_0 ∧ J15 v15_0 = some y) ?_ ?_
 ·
  rintro ⟨v15_0, rb15_0, ad15_0, m15_0, cap15_0⟩ w15 ⟨Y15, C15, B15, hfv15_0_0, hp⟩
  have hp := (hJ15 _).symm.trans hp
  refine zz 2 ?_
  refine zo 0 C15 ?_
  refine zx 0 #[.bool y12.neg, .slice u13_0_1 y12.ln.length u13_0_3, .slice u13_0_4 y12.ld.length u13_0_6, .slice ad15_0 m15_0 cap15_0] C15 ?_
  intro w16 C16 B16
  refine zz 4 ?_
  refine zrS [.cell 2 57, .tmp 3] (v := .tuple #[.agg #[.bool y12.neg, .slice u13_0_1 y12.ln.length u13_0_3, .slice u13_0_4 y12.ld.length u13_0_6, .slice ad15_0 m15_0 cap15_0], .int .i64 0]) (Res.cM C16 0 (Res.tZ Res.nil)) ?_
  have hob := St.pubGRN (A := [(b5, .cells #[.bool y12.neg, .slice u13_0_1 y12.ln.length u13_0_3, .slice u13_0_4 y12.ld.length u13_0_6, .slice ad15_0 m15_0 cap15_0] 57 (0, 0)), (b3, .cells #[.slice p0a1 p0.height.length p0a2, .slice p0a3 p0.own.length p0a4, .slice p0a5 p0.other.length p0a6, .slice p0a7 p0.advisories.length p0a8, .int .i64 p0.pull, .int .i64 p0.near, .int .i64 p0.steps, .slice p0a9 p0.ownNoise.length p0a10, .slice p0a11 p0.otherNoise.length p0a12, .bool p0.alert.neg, .slice p0a13 p0.alert.ln.length p0a14, .slice p0a15 p0.alert.ld.length p0a16, .bool p0.strengthen.neg, .slice p0a17 p0.strengthen.ln.length p0a18, .slice p0a19 p0.strengthen.ld.length p0a20, .bool p0.reversal.neg, .slice p0a21 p0.reversal.ln.length p0a22, .slice p0a23 p0.reversal.ld.length p0a24] 30 (0, 0))]) (B := []) (fun rb => ((b5, .cells #[.bool y12.neg, .slice u13_0_1 y12.ln.length u13_0_3, .slice u13_0_4 y12.ld.length u13_0_6, .slice ad15_0 m15_0 cap15_0] 57 (0, 0)) :: (b3, .cells #[.slice p0a1 p0.height.length p0a2, .slice p0a3 p0.own.length p0a4, .slice p0a5 p0.other.length p0a6, .slice p0a7 p0.advisories.length p0a8, .int .i64 p0.pull, .int .i64 p0.near, .int .i64 p0.steps, .slice p0a9 p0.ownNoise.length p0a10, .slice p0a11 p0.otherNoise.length p0a12, .bool p0.alert.neg, .slice p0a13 p0.alert.ln.length p0a14, .slice p0a15 p0.alert.ld.length p0a16, .bool p0.strengthen.neg, .slice p0a17 p0.strengthen.ln.length p0a18, .slice p0a19 p0.strengthen.ld.length p0a20, .bool p0.reversal.neg, .slice p0a21 p0.reversal.ln.length p0a22, .slice p0a23 p0.reversal.ld.length p0a24] 30 (0, 0)) :: rb)) C16 (fun _ => by simp only [List.append_assoc, List.cons_append, List.nil_append, List.append_nil]) (hfv15_0_0.mono (Le.or B16 _)) (Nat.le_refl _) StateCs.at
  obtain ⟨Y17, hSx17, B17, hRx17⟩ := hob
  have C17 : St E0 w X w16 Y17 [(b5, .cells #[.bool y12.neg, .slice u13_0_1 y12.ln.length u13_0_3, .slice u13_0_4 y12.ld.length u13_0_6, .slice ad15_0 m15_0 cap15_0] 57 (0, 0)), (b3, .cells #[.slice p0a1 p0.height.length p0a2, .slice p0a3 p0.own.length p0a4, .slice p0a5 p0.other.length p0a6, .slice p0a7 p0.advisories.length p0a8, .int .i64 p0.pull, .int .i64 p0.near, .int .i64 p0.steps, .slice p0a9 p0.ownNoise.length p0a10, .slice p0a11 p0.otherNoise.length p0a12, .bool p0.alert.neg, .slice p0a13 p0.alert.ln.length p0a14, .slice p0a15 p0.alert.ld.length p0a16, .bool p0.strengthen.neg, .slice p0a17 p0.strengthen.ln.length p0a18, .slice p0a19 p0.strengthen.ld.length p0a20, .bool p0.reversal.neg, .slice p0a21 p0.reversal.ln.length p0a22, .slice p0a23 p0.reversal.ld.length p0a24] 30 (0, 0))] := hSx17
  have hob := hRx17.hlen
  subst hob
  have hR17 : StatesR (rd w16 (orN Y17 w.heap.size)) ad15_0 v15_0.length cap15_0 v15_0 := hRx17
  have hob := Option.some.inj hp
  subst hob
  have hc1_ := (Le3 B14 B15 B16).trans B17
  exact ⟨C17.upd, _, rfl, ⟨_, rfl, ⟨_, _, _, _, _, _, _, _, _, rfl, ((u13_0__h0.mono (Le.own C8.lt C8.upd.size hc1_))).mono Le.orr, ((u13_0__h1.mono (Le.own C8.lt C8.upd.size hc1_))).mono Le.orr, ((hR17.mono (Le.or (Le.refl _) _))).mono Le.orr⟩⟩⟩
 intro K18 H18
 refine zz 2 ?_
 refine zo 1 C14 ?_
 have hc2_ := (Le4 B3 B5 B8 B13).trans B14
 refine bndk hp fun y20 hy20 hp => ?_
 refine zc C14 (dynamics_size_c _ X0 (X0_lt _) p0 _ ((hVp0.mono hc2_).mono Le.x0) y20 hy20) ?_
 rintro v21 w21 C21 B21 hu21 rfl
 refine zz 4 ?_
 have hb22 : (y20) ≤ 9223372036854775807 := by first | exact wrap_le _ | exact size_le (by assumption) | exact Size_le (by assumption) | omega
 refine zlp Tryz.f32 [K18] [1, 1, 1, 9, 1, 0] (fun ((k22, v22_1, rb22_1, ad22_1, m22_1, cap22_1) : Nat × (List (List Actn)) × (List (Nat × Obj)) × (Option Addr) × Nat × Nat) => [(1, .pointer (some ⟨b3, 0, none⟩)), (2, .pointer (some ⟨b5, 0, none⟩)), (26, .int .i64 y20), (27, .int .i64 (k22 : Int))]) (fun ((k22, v22_1, rb22_1, ad22_1, m22_1, cap22_1) : Nat × (List (List Actn)) × (List (Nat × Obj)) × (Option Addr) × Nat × Nat) w1 => ∃ Y1 : Hid, St E0 w X w1 Y1 ((b5, .cells #[.bool y12.neg, .slice u13_0_1 y12.ln.length u13_0_3, .slice u13_0_4 y12.ld.length u13_0_6, .slice ad22_1 m22_1 cap22_1] 57 (0, 0)) :: (b3, .cells #[.slice p0a1 p0.height.length p0a2, .slice p0a3 p0.own.length p0a4, .slice p0a5 p0.other.length p0a6, .slice p0a7 p0.advisories.length p0a8, .int .i64 p0.pull, .int .i64 p0.near, .int .i64 p0.steps, .slice p0a9 p0.ownNoise.length p0a10, .slice p0a11 p0.otherNoise.length p0a12, .bool p0.alert.neg, .slice p0a13 p0.alert.ln.length p0a14, .slice p0a15 p0.alert.ld.length p0a16, .bool p0.strengthen.neg, .slice p0a17 p0.strengthen.ln.length p0a18, .slice p0a19 p0.strengthen.ld.length p0a20, .bool p0.reversal.neg, .slice p0a21 p0.reversal.ln.length p0a22, .slice p0a23 p0.reversal.ld.length p0a24] 30 (0, 0)) :: rb22_1) ∧ Le (rd w21 Y5) (rd w1 Y1) ∧ GRow StateCs 66 1 (rd w1 (orN Y1 w.heap.size)) rb22_1 ad22_1 m22_1 cap22_1 v22_1 ∧ dynamics_Build_l22 p0 J15 ((y20).toNat - k22) k22 v22_1 = some y) (fun ((k22, v22_1, rb22_1, ad22_1, m22_1, cap22_1) : Nat × (List (List Actn)) × (List (Nat × Obj)) × (Option Addr) × Nat × Nat) => (y20).toNat - k22) (0, ([] : List (List Actn)), [], none, 0, 0) ?_ ?_
 ·
  exact ⟨_, C21, Le.refl _, GRow.nil, hp⟩
 rintro ⟨k22, v22_1, rb22_1, ad22_1, m22_1, cap22_1⟩ w22 K22 H22 ⟨Y22, C22, B22, hfv22_1_0, hp⟩
 refine zz 6 ?_
 refine zt 28 (p := (k22 : Int) < y20) (fun ht23 => ?_) (fun ht23 => ?_)
 ·
  have hob := cnt_ltI (N := (y20)) (k := k22) ht23
  obtain ⟨r22, hm22, hn22⟩ := hob
  rw [hm22, dynamics_Build_l22] at hp
  refine zz 13 ?_
  refine zo 1 C22 ?_
  refine zz 1 ?_
  have hc3_ := (hc2_.trans B21).trans B22
  refine bndk hp fun y25 hy25 hp => ?_
  refine zc C22 (dynamics_Split_c _ X0 (X0_lt _) p0 _ ((hVp0.mono hc3_).mono Le.x0) (k22 : Int) y25 hy25) ?_
  rintro v26 w26 C26 B26 hu26 rfl
  refine zz 11 ?_
  refine zo 1 C26 ?_
  have hc4_ := hc3_.trans B26
  refine bndk hp fun y28 hy28 hp => ?_
  refine zc C26 (dynamics_grid_c _ _ C26.lt p0 _ (hVp0.mono hc4_) y28 hy28) ?_
  rintro v29 w29 C29 B29 hu29 ⟨u29_0_1, u29_0_2, rfl, u29_0__h0⟩
  refine zz 1 ?_
  refine bndk hp fun y31 hy31 hp => ?_
  refine zc C29 (interp_Point_c _ X0 (X0_lt _) y28 _ ⟨_, _, rfl, (u29_0__h0.mono Le.x0)⟩ (y25.1) y31 hy31) ?_
  rintro v32 w32 C32 B32 hu32 ⟨uu32_0, rfl, ⟨u32_0_1, u32_0_2, rfl, u32_0__h0⟩⟩
  refine zz 12 ?_
  have hob := ltd1 hp
  obtain ⟨J33, hJ33, hp⟩ := hob
  refine zjoin (fun ((v33_0, rb33_0, ad33_0, m33_0, cap33_0) : (List Actn) × (List (Nat × Obj)) × (Option Addr) × Nat × Nat) => [(11, .slice ad33_0 m33_0 cap33_0), (1, .pointer (some ⟨b3, 0, none⟩)), (2, .pointer (some ⟨b5, 0, none⟩)), (26, .int .i64 y20), (27, .int .i64 (k22 : Int))]) (fun ((v33_0, rb33_0, ad33_0, m33_0, cap33_0) : (List Actn) × (List (Nat × Obj)) × (Option Addr) × Nat × Nat) w1 => ∃ Y1 : Hid, St E0 w X w1 Y1 ((b5, .cells #[.bool y12.neg, .slice u13_0_1 y12.ln.length u13_0_3, .slice u13_0_4 y12.ld.length u13_0_6, .slice ad22_1 m22_1 cap22_1] 57 (0, 0)) :: (b3, .cells #[.slice p0a1 p0.height.length p0a2, .slice p0a3 p0.own.length p0a4, .slice p0a5 p0.other.length p0a6, .slice p0a7 p0.advisories.length p0a8, .int .i64 p0.pull, .int .i64 p0.near, .int .i64 p0.steps, .slice p0a9 p0.ownNoise.length p0a10, .slice p0a11 p0.otherNoise.length p0a12, .bool p0.alert.neg, .slice p0a13 p0.alert.ln.length p0a14, .slice p0a15 p0.alert.ld.length p0a16, .bool p0.strengthen.neg, .slice p0a17 p0.strengthen.ln.length p0a18, .slice p0a19 p0.strengthen.ld.length p0a20, .bool p0.reversal.neg, .slice p0a21 p0.reversal.ln.length p0a22, .slice p0a23 p0.reversal.ld.length p0a24] 30 (0, 0)) :: (rb33_0 ++ rb22_1)) ∧ Le (rd w32 Y22) (rd w1 Y1) ∧ GRow ActCs 72 4 (rd w1 (orN Y1 w.heap.size)) rb33_0 ad33_0 m33_0 cap33_0 v33_0 ∧ J33 v33_0 = some y) ?_ ?_
  ·
   rintro ⟨v33_0, rb33_0, ad33_0, m33_0, cap33_0⟩ w33 ⟨Y33, C33, B33, hfv33_0_0, hp⟩
   have hp := (hJ33 _).symm.trans hp
   refine zz 2 ?_
   refine zo 0 C33 ?_
   refine zz 1 ?_
   refine zn (fun b => .slice (some ⟨b, 0, none⟩) 1 1) (.cells #[.slice ad33_0 m33_0 cap33_0] 66 (0, 0)) C33 ?_
   intro b35 w35 Y35 C35 B35 hu35
   have hob := St.pubGRN (A := [(b35, .cells #[.slice ad33_0 m33_0 cap33_0] 66 (0, 0)), (b5, .cells #[.bool y12.neg, .slice u13_0_1 y12.ln.length u13_0_3, .slice u13_0_4 y12.ld.length u13_0_6, .slice ad22_1 m22_1 cap22_1] 57 (0, 0)), (b3, .cells #[.slice p0a1 p0.height.length p0a2, .slice p0a3 p0.own.length p0a4, .slice p0a5 p0.other.length p0a6, .slice p0a7 p0.advisories.length p0a8, .int .i64 p0.pull, .int .i64 p0.near, .int .i64 p0.steps, .slice p0a9 p0.ownNoise.length p0a10, .slice p0a11 p0.otherNoise.length p0a12, .bool p0.alert.neg, .slice p0a13 p0.alert.ln.length p0a14, .slice p0a15 p0.alert.ld.length p0a16, .bool p0.strengthen.neg, .slice p0a17 p0.strengthen.ln.length p0a18, .slice p0a19 p0.strengthen.ld.length p0a20, .bool p0.reversal.neg, .slice p0a21 p0.reversal.ln.length p0a22, .slice p0a23 p0.reversal.ld.length p0a24] 30 (0, 0))]) (B := rb22_1) (fun rb => ((b35, .cells #[.slice ad33_0 m33_0 cap33_0] 66 (0, 0)) :: (b5, .cells #[.bool y12.neg, .slice u13_0_1 y12.ln.length u13_0_3, .slice u13_0_4 y12.ld.length u13_0_6, .slice ad22_1 m22_1 cap22_1] 57 (0, 0)) :: (b3, .cells #[.slice p0a1 p0.height.length p0a2, .slice p0a3 p0.own.length p0a4, .slice p0a5 p0.other.length p0a6, .slice p0a7 p0.advisories.length p0a8, .int .i64 p0.pull, .int .i64 p0.near, .int .i64 p0.steps, .slice p0a9 p0.ownNoise.length p0a10, .slice p0a11 p0.otherNoise.length p0a12, .bool p0.alert.neg, .slice p0a13 p0.alert.ln.length p0a14, .slice p0a15 p0.alert.ld.length p0a16, .bool p0.strengthen.neg, .slice p0a17 p0.strengthen.ln.length p0a18, .slice p0a19 p0.strengthen.ld.length p0a20, .bool p0.reversal.neg, .slice p0a21 p0.reversal.ln.length p0a22, .slice p0a23 p0.reversal.ld.length p0a24] 30 (0, 0)) :: (rb ++ rb22_1))) C35 (fun _ => by simp only [List.append_assoc, List.cons_append, List.nil_append, List.append_nil]) (hfv33_0_0.mono (Le.or B35 _)) (Nat.le_refl _) ActCs.at
   obtain ⟨Y36, hSx36, B36, hRx36⟩ := hob
   have C36 : St E0 w X w35 Y36 ((b35, .cells #[.slice ad33_0 m33_0 cap33_0] 66 (0, 0)) :: (b5, .cells #[.bool y12.neg, .slice u13_0_1 y12.ln.length u13_0_3, .slice u13_0_4 y12.ld.length u13_0_6, .slice ad22_1 m22_1 cap22_1] 57 (0, 0)) :: (b3, .cells #[.slice p0a1 p0.height.length p0a2, .slice p0a3 p0.own.length p0a4, .slice p0a5 p0.other.length p0a6, .slice p0a7 p0.advisories.length p0a8, .int .i64 p0.pull, .int .i64 p0.near, .int .i64 p0.steps, .slice p0a9 p0.ownNoise.length p0a10, .slice p0a11 p0.otherNoise.length p0a12, .bool p0.alert.neg, .slice p0a13 p0.alert.ln.length p0a14, .slice p0a15 p0.alert.ld.length p0a16, .bool p0.strengthen.neg, .slice p0a17 p0.strengthen.ln.length p0a18, .slice p0a19 p0.strengthen.ld.length p0a20, .bool p0.reversal.neg, .slice p0a21 p0.reversal.ln.length p0a22, .slice p0a23 p0.reversal.ld.length p0a24] 30 (0, 0)) :: rb22_1) := by simpa only [List.append_assoc, List.append_nil, List.cons_append, List.nil_append] using hSx36
   have hob := hRx36.hlen
   subst hob
   have hR36 : ActsR (rd w35 (orN Y36 w.heap.size)) ad33_0 v33_0.length cap33_0 v33_0 := hRx36
   have hob := grdp hp
   obtain ⟨hg38, hp⟩ := hob
   have hln39 : m22_1 = v22_1.length := GRow.len hfv22_1_0
   have hc5_ := (Le5 B26 B29 B32 B33 B35).trans B36
   have hob := (hfv22_1_0.mono (Le.or hc5_ _))
   obtain ⟨es39, hr39, hq39, hk39, hm39⟩ := hob
   refine zop (at1 [K18, K22] Tryz.f32 [1, 1, 1, 9, 1, 0, 0, 1, 1, 0, 0, 1, 1, 1, 1, 1]) 4 (fun a37 _ G37 hz37 => op_appEZ (b := 24) (m := 1) (c := 1) (ad := ⟨b35, 0, none⟩) (news := [.slice ad33_0 v33_0.length cap33_0]) (i0 := Tryz.t66) (rb := rb22_1) (R1 := []) 3 G37 C36 rfl hr39 (C36.cells 0 rfl rfl) (app_b1 hg38 hln39 rfl) (app_b2 hg38 hln39) ?_)
   intro rb40 ad40 cap40 w40 Y40 hrow40 C40 B40 a41 G41
   have hg40 : GRow StateCs 66 1 (rd w40 (orN Y40 w.heap.size)) rb40 ad40 (m22_1 + 1) cap40 (v22_1 ++ [v33_0]) := GRow.snoc hrow40 hq39 hk39 hm39 (Le.or B40 _) ⟨rfl, fun r2 h2 => ⟨_, _, _, rfl, ((hR36.mono (Le.or B40 _)).mono h2)⟩⟩
   refine hz37 G41 ?_
   refine zz 1 ?_
   refine zx 1 #[.bool y12.neg, .slice u13_0_1 y12.ln.length u13_0_3, .slice u13_0_4 y12.ld.length u13_0_6, .slice ad40 (m22_1 + 1) cap40] C40 ?_
   intro w42 C42 B42
   refine zz 5 ?_
   refine zs 89 (v := .int .i64 (IntKind.i64.wrap ((k22 : Int) + 1))) (v' := .int .i64 ((k22 : Int) + 1)) (vint (wi64 (wk0 k22) (wk1 ht23 hb22))) ?_
   refine zz 2 ?_
   have hc6_ := (Le8 B22 B26 B29 B32 B33 B35 B36 B40).trans B42
   refine znext (fun a h => H22 (k22 + 1, (v22_1 ++ [v33_0]), rb40, ad40, (m22_1 + 1), cap40) _ a h ⟨_, C42.tail, hc6_, (hg40.mono (Le.or B42 _)), (by rw [hn22]; exact hp)⟩ ?_)
   exact mu_ltN ht23
  intro K43 H43
  refine zz 3 ?_
  refine zo 1 C32 ?_
  refine zz 5 ?_
  have hb44 : (p0.advisories.length : Int) ≤ 9223372036854775807 := lenb (p0a_h3).hcap (p0a_h3).hbig
  refine zlp Tryz.f32 [K18, K22, K43] [1, 1, 1, 9, 1, 0, 0, 1, 1, 0, 0, 1, 1, 1, 1, 9, 1, 0] (fun ((v44_0, k44, rb44_0, ad44_0, m44_0, cap44_0) : (List Actn) × Nat × (List (Nat × Obj)) × (Option Addr) × Nat × Nat) => [(1, .pointer (some ⟨b3, 0, none⟩)), (2, .pointer (some ⟨b5, 0, none⟩)), (7, .int .i64 y25.2.1), (9, .slice u32_0_1 y31.1.length u32_0_2), (11, .slice ad44_0 m44_0 cap44_0), (26, .int .i64 y20), (27, .int .i64 (k22 : Int)), (46, .int .i64 (p0.advisories.length : Int)), (47, .int .i64 (k44 : Int))]) (fun ((v44_0, k44, rb44_0, ad44_0, m44_0, cap44_0) : (List Actn) × Nat × (List (Nat × Obj)) × (Option Addr) × Nat × Nat) w1 => ∃ Y1 : Hid, St E0 w X w1 Y1 ((b5, .cells #[.bool y12.neg, .slice u13_0_1 y12.ln.length u13_0_3, .slice u13_0_4 y12.ld.length u13_0_6, .slice ad22_1 m22_1 cap22_1] 57 (0, 0)) :: (b3, .cells #[.slice p0a1 p0.height.length p0a2, .slice p0a3 p0.own.length p0a4, .slice p0a5 p0.other.length p0a6, .slice p0a7 p0.advisories.length p0a8, .int .i64 p0.pull, .int .i64 p0.near, .int .i64 p0.steps, .slice p0a9 p0.ownNoise.length p0a10, .slice p0a11 p0.otherNoise.length p0a12, .bool p0.alert.neg, .slice p0a13 p0.alert.ln.length p0a14, .slice p0a15 p0.alert.ld.length p0a16, .bool p0.strengthen.neg, .slice p0a17 p0.strengthen.ln.length p0a18, .slice p0a19 p0.strengthen.ld.length p0a20, .bool p0.reversal.neg, .slice p0a21 p0.reversal.ln.length p0a22, .slice p0a23 p0.reversal.ld.length p0a24] 30 (0, 0)) :: (rb44_0 ++ rb22_1)) ∧ Le (rd w32 Y22) (rd w1 Y1) ∧ GRow ActCs 72 4 (rd w1 (orN Y1 w.heap.size)) rb44_0 ad44_0 m44_0 cap44_0 v44_0 ∧ dynamics_Build_l44 p0 y25 y31 J33 (p0.advisories.drop k44) k44 v44_0 = some y) (fun ((v44_0, k44, rb44_0, ad44_0, m44_0, cap44_0) : (List Actn) × Nat × (List (Nat × Obj)) × (Option Addr) × Nat × Nat) => p0.advisories.length - k44) (([] : List Actn), 0, [], none, 0, 0) ?_ ?_
  ·
   exact ⟨_, C32, Le.refl _, GRow.nil, hp⟩
  rintro ⟨v44_0, k44, rb44_0, ad44_0, m44_0, cap44_0⟩ w44 K44 H44 ⟨Y44, C44, B44, hfv44_0_0, hp⟩
  refine zz 6 ?_
  refine zt 48 (p := (k44 : Int) < (p0.advisories.length : Int)) (fun ht45 => ?_) (fun ht45 => ?_)
  ·
   have hob := get_lt (l := p0.advisories) (k := k44) (lt_of_int ht45)
   obtain ⟨x44, hqx44⟩ := hob
   rw [dropC hqx44, dynamics_Build_l44] at hp
   have hzx44 : (0 : Int) ≤ (k44 : Int) := Int.natCast_nonneg _
   refine zz 13 ?_
   refine zo 1 C44 ?_
   refine zz 2 ?_
   have hc7_ := ((hc4_.trans B29).trans B32).trans B44
   refine bndk hp fun y47 hy47 hp => ?_
   refine zc C44 (dynamics_Cost_c _ X0 (X0_lt _) p0 _ ((hVp0.mono hc7_).mono Le.x0) (y25.2.1) (k44 : Int) y47 hy47) ?_
   rintro v48 w48 C48 B48 hu48 ⟨uu48_0, rfl, ⟨u48_0_1, u48_0_2, u48_0_3, u48_0_4, u48_0_5, u48_0_6, rfl, u48_0__h0, u48_0__h1⟩⟩
   have hob := u48_0__h0.hlen
   subst hob
   have hob := u48_0__h1.hlen
   subst hob
   refine zz 3 ?_
   refine zn pn (.cells #[.bool false, .slice none 0 0, .slice none 0 0] 28 (0, 0)) C48 ?_
   intro b50 w50 Y50 C50 B50 hu50
   refine zx 0 #[.bool y47.1.neg, .slice u48_0_1 y47.1.ln.length u48_0_3, .slice u48_0_4 y47.1.ld.length u48_0_6] C50 ?_
   intro w51 C51 B51
   refine zz 4 ?_
   refine zdraw [0, 1, 2] C51 ?_
   refine gw 0 2 ?_
   refine bndk hp fun x52 hx52 hp => ?_
   have hob := ix_some hx52
   obtain ⟨hzx52, hqx52⟩ := hob
   have hwx52 : y31.1[0]? = some x52 := hqx52
   have hob := (u32_0__h0.mono (Le.new C29.lt)).opn hwx52
   obtain ⟨be53, oe53, rfl, B53, hEe53⟩ := hob
   have hAe53 : At (rd w32 Y22) ⟨be53, oe53 + 0 * 1, none⟩ [.int .i64 x52] := hEe53
   refine gz [1] ?_
   refine gi 2 (b := be53) (off := oe53) (len := y31.1.length) (cap := u32_0_2) (kd := .i64) (i := 0) 1 (oe53 + 0 * 1) ?_ (h0 := hzx52) (h1 := (ix_b hzx52 B53))
   have hc8_ := (Le3 B44 B48 B50).trans B51
   refine gl 3 ((hAe53.mono hc8_)) ?_
   refine bndk hp fun x54 hx54 hp => ?_
   have hob := ix_some hx54
   obtain ⟨hzx54, hqx54⟩ := hob
   have hwx54 : y31.1[1]? = some x54 := hqx54
   have hob := (u32_0__h0.mono (Le.new C29.lt)).opn2 hwx54
   obtain ⟨B55, hEe55⟩ := hob
   have hAe55 : At (rd w32 Y22) ⟨be53, oe53 + 1 * 1, none⟩ [.int .i64 x54] := hEe55
   refine gz [4] ?_
   refine gi 5 (b := be53) (off := oe53) (len := y31.1.length) (cap := u32_0_2) (kd := .i64) (i := 1) 1 (oe53 + 1 * 1) ?_ (h0 := hzx54) (h1 := (ix_b hzx54 B55))
   have hc9_ := (Le3 B44 B48 B50).trans B51
   refine gl 6 ((hAe55.mono hc9_)) ?_
   refine bndk hp fun x56 hx56 hp => ?_
   have hob := ix_some hx56
   obtain ⟨hzx56, hqx56⟩ := hob
   have hwx56 : y31.1[2]? = some x56 := hqx56
   have hob := (u32_0__h0.mono (Le.new C29.lt)).opn2 hwx56
   obtain ⟨B57, hEe57⟩ := hob
   have hAe57 : At (rd w32 Y22) ⟨be53, oe53 + 2 * 1, none⟩ [.int .i64 x56] := hEe57
   refine gz [7] ?_
   refine gi 8 (b := be53) (off := oe53) (len := y31.1.length) (cap := u32_0_2) (kd := .i64) (i := 2) 1 (oe53 + 2 * 1) ?_ (h0 := hzx56) (h1 := (ix_b hzx56 B57))
   have hc10_ := (Le3 B44 B48 B50).trans B51
   refine gl 9 ((hAe57.mono hc10_)) ?_
   refine gz [10] ?_
   have hc11_ := ((hc7_.trans B48).trans B50).trans B51
   refine bndk hp fun y59 hy59 hp => ?_
   refine gC 11 (fun w58 Y58 _ C58 B58 => (dynamics_spread_c _ X0 (X0_lt _) p0 _ ((hVp0.mono (hc11_.trans B58)).mono Le.x0) (x52) (x54) (x56) (k44 : Int) y59 hy59)) ?_
   rintro v60 w58 Y60 w60 C58 B60 ⟨uu60_0, rfl, ⟨u60_0_1, u60_0_2, rfl, u60_0__h0⟩⟩
   refine gz [12, 13, 14, 15, 16] ?_
   refine gend (fun w61 Y61 C61 B61 => ?_)
   refine zz 8 ?_
   refine zb 73 (b := ((y59.2) != 0)) (fun hc62 => ?_) (fun hc62 => ?_)
   ·
    have hp := ipb hc62 hp
    refine zz 5 ?_
    refine zx 1 #[.bool false, .slice none 0 0, .slice none 0 0, .slice none 0 0] C61 ?_
    intro w63 C63 B63
    refine zz 15 ?_
    refine zrS [.cell 2 57, .tmp 3] (v := .tuple #[.agg #[.bool false, .slice none 0 0, .slice none 0 0, .slice none 0 0], .int .i64 y59.2]) (Res.cM C63 1 (Res.tZ Res.nil)) ?_
    have hob := Option.some.inj hp
    subst hob
    exact ⟨C63.upd, _, rfl, ⟨_, rfl, ⟨_, _, _, _, _, _, _, _, _, rfl, Limbs.nil0, Limbs.nil0, (show StatesR _ none 0 0 [] from SlR.nil none (by decide))⟩⟩⟩
   have hp := iqb hc62 hp
   refine zz 5 ?_
   refine zo 0 C61 ?_
   refine zz 2 ?_
   refine zn (fun b => .slice (some ⟨b, 0, none⟩) 1 1) (.cells #[.bool y47.1.neg, .slice u48_0_1 y47.1.ln.length u48_0_3, .slice u48_0_4 y47.1.ld.length u48_0_6, .slice u60_0_1 y59.1.length u60_0_2] 72 (0, 0)) C61 ?_
   intro b65 w65 Y65 C65 B65 hu65
   have hob := grdp hp
   obtain ⟨hg67, hp⟩ := hob
   have hln68 : m44_0 = v44_0.length := GRow.len hfv44_0_0
   have hc12_ := (Le5 B48 B50 B51 B60 B61).trans B65
   have hob := (hfv44_0_0.mono (Le.or hc12_ _))
   obtain ⟨es68, hr68, hq68, hk68, hm68⟩ := hob
   refine zop (at1 [K18, K22, K43, K44] Tryz.f32 [1, 1, 1, 9, 1, 0, 0, 1, 1, 0, 0, 1, 1, 1, 1, 9, 1, 0, 0, 1, 1, 0, 0, 1, 1, 1, 1]) 5 (fun a66 _ G66 hz66 => op_appZ (b := 80) (m := 1) (c := 1) (ad := ⟨b65, 0, none⟩) (news := [.bool y47.1.neg, .slice u48_0_1 y47.1.ln.length u48_0_3, .slice u48_0_4 y47.1.ld.length u48_0_6, .slice u60_0_1 y59.1.length u60_0_2]) (i0 := Tryz.t72) (rb := rb44_0) (R1 := []) (B := rb22_1) 4 G66 C65 rfl hr68 (C65.cells 0 rfl rfl) (app_b1 hg67 hln68 rfl) (app_b2 hg67 hln68) ?_)
   intro rb69 ad69 cap69 w69 Y69 hrow69 C69 B69 a70 G70
   have hc13_ := (Le5 B50 B51 B60 B61 B65).trans B69
   have hg69 : GRow ActCs 72 4 (rd w69 (orN Y69 w.heap.size)) rb69 ad69 (m44_0 + 1) cap69 (v44_0 ++ [(Actn.mk y47.1 y59.1)]) := GRow.snoc hrow69 hq68 hk68 hm68 (Le.or B69 _) ⟨rfl, fun r2 h2 => ⟨_, _, _, _, _, _, _, _, _, rfl, ((u48_0__h0.mono (Le.own C44.lt C44.upd.size hc13_)).mono h2), ((u48_0__h1.mono (Le.own C44.lt C44.upd.size hc13_)).mono h2), ((u60_0__h0.mono (Le.own C58.lt C58.upd.size (Le3 B61 B65 B69))).mono h2)⟩⟩
   refine hz66 G70 ?_
   refine zz 6 ?_
   refine zs 82 (v := .int .i64 (IntKind.i64.wrap ((k44 : Int) + 1))) (v' := .int .i64 ((k44 : Int) + 1)) (vint (wi64 (wk0 k44) (wk1 ht45 hb44))) ?_
   refine zz 2 ?_
   have hc14_ := (Le7 B44 B48 B50 B51 B60 B61 B65).trans B69
   refine znext (fun a h => H44 ((v44_0 ++ [(Actn.mk y47.1 y59.1)]), k44 + 1, rb69, ad69, (m44_0 + 1), cap69) _ a h ⟨_, C69.tail.tail, hc14_, hg69, hp⟩ ?_)
   exact mu_lt ht45
  rw [List.drop_eq_nil_of_le (nlt_of_int ht45), dynamics_Build_l44] at hp
  refine zz 5 ?_
  exact znext (fun a h => H43 (v44_0, rb44_0, ad44_0, m44_0, cap44_0) _ a h ⟨_, C44, B44, hfv44_0_0, hp⟩)
 rw [cnt_end (N := (y20)) ht23, dynamics_Build_l22] at hp
 refine zz 5 ?_
 exact znext (fun a h => H18 (v22_1, rb22_1, ad22_1, m22_1, cap22_1) _ a h ⟨_, C22, (Le2 B21 B22), hfv22_1_0, hp⟩)
noncomputable def clearwaykit_EqualAction_p (p0 : Actn) (p1 : Actn) : Option (Bool) :=
  (clearwaykit_EqualRat_p p0.cost p1.cost).bind fun y7 => if y7 = true then ((clearwaykit_EqualOutcomes_p p0.next p1.next).bind fun y11 => some y11) else (some false)
theorem clearwaykit_EqualAction_c (w : World) (X : Hid) (hX : ∀ k o, X k o → k < w.heap.size) (p0 : Actn) (vp0 : Value) (hp0 : ActnV (rd w X) vp0 p0) (p1 : Actn) (vp1 : Value) (hp1 : ActnV (rd w X) vp1 p1) (y : Bool) (hp : clearwaykit_EqualAction_p p0 p1 = some y) : Calls Tryz.prog 143 #[vp0, vp1] w (Ret E0 w fun _ v => v = .bool y) := by
 have hVp0 := hp0
 refine ActnV.op hp0 fun p0a1 p0a2 p0a3 p0a4 p0a5 p0a6 p0a7 p0a8 p0a9 hv9 p0a_h0 p0a_h1 p0a_h2 => ?_
 subst hv9
 have hob := p0a_h0.hlen
 subst hob
 have hob := p0a_h1.hlen
 subst hob
 have hob := p0a_h2.hlen
 subst hob
 have hVp1 := hp1
 refine ActnV.op hp1 fun p1a1 p1a2 p1a3 p1a4 p1a5 p1a6 p1a7 p1a8 p1a9 hv9 p1a_h0 p1a_h1 p1a_h2 => ?_
 subst hv9
 have hob := p1a_h0.hlen
 subst hob
 have hob := p1a_h1.hlen
 subst hob
 have hob := p1a_h2.hlen
 subst hob
 unfold clearwaykit_EqualAction_p at hp
 refine zen Tryz.func143 ?_
 have C0 : St E0 w X w X [] := St.start hX
 refine zz 2 ?_
 refine zn pn (.cells #[.bool p0.cost.neg, .slice p0a1 p0.cost.ln.length p0a3, .slice p0a4 p0.cost.ld.length p0a6, .slice p0a7 p0.next.length p0a9] 72 (0, 0)) C0 ?_
 intro b3 w3 Y3 C3 B3 hu3
 refine zn pn (.cells #[.bool p1.cost.neg, .slice p1a1 p1.cost.ln.length p1a3, .slice p1a4 p1.cost.ld.length p1a6, .slice p1a7 p1.next.length p1a9] 72 (0, 0)) C3 ?_
 intro b5 w5 Y5 C5 B5 hu5
 refine zz 6 ?_
 refine zo 1 C5 ?_
 refine zz 1 ?_
 refine zo 0 C5 ?_
 refine bndk hp fun y7 hy7 hp => ?_
 refine zc C5 (clearwaykit_EqualRat_c _ X0 (X0_lt _) p0.cost _ ⟨_, _, _, _, _, _, rfl, ((p0a_h0.mono (Le2 B3 B5)).mono Le.x0), ((p0a_h1.mono (Le2 B3 B5)).mono Le.x0)⟩ p1.cost _ ⟨_, _, _, _, _, _, rfl, ((p1a_h0.mono (Le2 B3 B5)).mono Le.x0), ((p1a_h1.mono (Le2 B3 B5)).mono Le.x0)⟩ y7 hy7) ?_
 rintro v8 w8 C8 B8 hu8 rfl
 refine zz 1 ?_
 refine zb 10 (b := y7) (fun hc9 => ?_) (fun hc9 => ?_)
 ·
  have hp := ipb hc9 hp
  refine zz 1 ?_
  refine zo 1 C8 ?_
  refine zz 1 ?_
  refine zo 0 C8 ?_
  refine bndk hp fun y11 hy11 hp => ?_
  refine zc C8 (clearwaykit_EqualOutcomes_c _ X0 (X0_lt _) p0.next _ ⟨_, _, rfl, ((p0a_h2.mono (Le3 B3 B5 B8)).mono Le.x0)⟩ p1.next _ ⟨_, _, rfl, ((p1a_h2.mono (Le3 B3 B5 B8)).mono Le.x0)⟩ y11 hy11) ?_
  rintro v12 w12 C12 B12 hu12 rfl
  refine zz 5 ?_
  refine zr' (v := .bool y11) ?_
  have hob := Option.some.inj hp
  subst hob
  exact ⟨C12.upd, _, rfl, rfl⟩
 have hp := iqb hc9 hp
 refine zz 10 ?_
 refine zr' (v := .bool false) ?_
 have hob := Option.some.inj hp
 subst hob
 exact ⟨C8.upd, _, rfl, rfl⟩
noncomputable def clearwaykit_EqualActions_l5 (p1 : List Actn) (J3 : Option (Bool)) : List Actn → Nat → Option (Bool)
  | [], k5 => J3
  | x5 :: r5, k5 => (ix p1 (k5 : Int)).bind fun x8 => (clearwaykit_EqualAction_p x5 x8).bind fun y11 => if (!y11) = true then (some false) else (clearwaykit_EqualActions_l5 p1 J3 r5 (k5 + 1))
noncomputable def clearwaykit_EqualActions_p (p0 : List Actn) (p1 : List Actn) : Option (Bool) :=
  if ((p0.length : Int) != (p1.length : Int)) = true then (some false) else (lt (some true) fun J3 => clearwaykit_EqualActions_l5 p1 J3 (p0.drop 0) 0)
theorem clearwaykit_EqualActions_c (w : World) (X : Hid) (hX : ∀ k o, X k o → k < w.heap.size) (p0 : List Actn) (vp0 : Value) (hp0 : SV ActsR (rd w X) vp0 p0) (p1 : List Actn) (vp1 : Value) (hp1 : SV ActsR (rd w X) vp1 p1) (y : Bool) (hp : clearwaykit_EqualActions_p p0 p1 = some y) : Calls Tryz.prog 109 #[vp0, vp1] w (Ret E0 w fun _ v => v = .bool y) := by
 obtain ⟨p0a1, p0a2, rfl, p0a_h0⟩ := hp0
 obtain ⟨p1a1, p1a2, rfl, p1a_h0⟩ := hp1
 unfold clearwaykit_EqualActions_p at hp
 refine zen Tryz.func109 ?_
 have C0 : St E0 w X w X [] := St.start hX
 refine zz 15 ?_
 refine zb 10 (b := ((p0.length : Int) != (p1.length : Int))) (fun hc2 => ?_) (fun hc2 => ?_)
 ·
  have hp := ipb hc2 hp
  refine zz 8 ?_
  refine zr' (v := .bool false) ?_
  have hob := Option.some.inj hp
  subst hob
  exact ⟨C0.upd, _, rfl, rfl⟩
 have hp := iqb hc2 hp
 refine zz 3 ?_
 have hob := ltd0 hp
 obtain ⟨J3, hJ3, hp⟩ := hob
 refine zjoin (fun (_ : Unit) => []) (fun (_ : Unit) w1 => ∃ Y1 : Hid, St E0 w X w1 Y1 [] ∧ Le (rd w X) (rd w1 Y1) ∧ J3 = some y) ?_ ?_
 ·
  rintro _ w3 ⟨Y3, C3, B3, hp⟩
  have hp := hJ3.symm.trans hp
  refine zz 6 ?_
  refine zr' (v := .bool true) ?_
  have hob := Option.some.inj hp
  subst hob
  exact ⟨C3.upd, _, rfl, rfl⟩
 intro K4 H4
 refine zz 6 ?_
 have hb5 : (p0.length : Int) ≤ 9223372036854775807 := lenb (p0a_h0).hcap (p0a_h0).hbig
 refine zlp Tryz.f109 [K4] [1, 1, 9, 1, 0] (fun (k5 : Nat) => [(0, .slice p0a1 p0.length p0a2), (1, .slice p1a1 p1.length p1a2), (5, .int .i64 (k5 : Int))]) (fun (k5 : Nat) w1 => ∃ Y1 : Hid, St E0 w X w1 Y1 [] ∧ Le (rd w X) (rd w1 Y1) ∧ clearwaykit_EqualActions_l5 p1 J3 (p0.drop k5) k5 = some y) (fun (k5 : Nat) => p0.length - k5) 0 ?_ ?_
 ·
  exact ⟨_, C0, Le.refl _, hp⟩
 rintro k5 w5 K5 H5 ⟨Y5, C5, B5, hp⟩
 refine zz 9 ?_
 refine zt 14 (p := (k5 : Int) < (p0.length : Int)) (fun ht6 => ?_) (fun ht6 => ?_)
 ·
  have hob := get_lt (l := p0) (k := k5) (lt_of_int ht6)
  obtain ⟨x5, hqx5⟩ := hob
  rw [dropC hqx5, clearwaykit_EqualActions_l5] at hp
  have hzx5 : (0 : Int) ≤ (k5 : Int) := Int.natCast_nonneg _
  refine zz 6 ?_
  refine zdr C5 ?_
  have hob := p0a_h0.opn hqx5
  obtain ⟨be7, oe7, rfl, B7, hEe7⟩ := hob
  refine ActAt.op hEe7 fun e71 e72 e73 e74 e75 e76 e77 e78 e79 e7_at e7_h0 e7_h1 e7_h2 => ?_
  have hob := e7_h0.hlen
  subst hob
  have hob := e7_h1.hlen
  subst hob
  have hob := e7_h2.hlen
  subst hob
  refine gz [0, 1] ?_
  refine gi 2 (b := be7) (off := oe7) (len := p0.length) (cap := p0a2) (kd := .i64) (i := (k5 : Int)) 4 (oe7 + k5 * 4) ?_ (h0 := hzx5) (h1 := (ix_b hzx5 B7))
  refine gl 3 ((e7_at.mono B5)) ?_
  refine bndk hp fun x8 hx8 hp => ?_
  have hob := ix_some hx8
  obtain ⟨hzx8, hqx8⟩ := hob
  have hwx8 : p1[k5]? = some x8 := hqx8
  have hob := p1a_h0.opn hwx8
  obtain ⟨be9, oe9, rfl, B9, hEe9⟩ := hob
  refine ActAt.op hEe9 fun e91 e92 e93 e94 e95 e96 e97 e98 e99 e9_at e9_h0 e9_h1 e9_h2 => ?_
  have hob := e9_h0.hlen
  subst hob
  have hob := e9_h1.hlen
  subst hob
  have hob := e9_h2.hlen
  subst hob
  refine gz [4, 5] ?_
  refine gi 6 (b := be9) (off := oe9) (len := p1.length) (cap := p1a2) (kd := .i64) (i := (k5 : Int)) 4 (oe9 + k5 * 4) ?_ (h0 := hzx8) (h1 := (ix_b hzx8 B9))
  refine gl 7 ((e9_at.mono B5)) ?_
  refine bndk hp fun y11 hy11 hp => ?_
  refine gC 8 (fun w10 Y10 _ C10 B10 => (clearwaykit_EqualAction_c _ X0 (X0_lt _) x5 _ ⟨_, _, _, _, _, _, _, _, _, rfl, ((e7_h0.mono (Le2 B5 B10)).mono Le.x0), ((e7_h1.mono (Le2 B5 B10)).mono Le.x0), ((e7_h2.mono (Le2 B5 B10)).mono Le.x0)⟩ x8 _ ⟨_, _, _, _, _, _, _, _, _, rfl, ((e9_h0.mono (Le2 B5 B10)).mono Le.x0), ((e9_h1.mono (Le2 B5 B10)).mono Le.x0), ((e9_h2.mono (Le2 B5 B10)).mono Le.x0)⟩ y11 hy11)) ?_
  rintro v12 w10 Y12 w12 C10 B12 rfl
  refine gz [9] ?_
  refine gend (fun w13 Y13 C13 B13 => ?_)
  refine zz 1 ?_
  refine zb 26 (b := !y11) (fun hc14 => ?_) (fun hc14 => ?_)
  ·
   have hp := ipb hc14 hp
   refine zz 12 ?_
   refine zr' (v := .bool false) ?_
   have hob := Option.some.inj hp
   subst hob
   exact ⟨C13.upd, _, rfl, rfl⟩
  have hp := iqb hc14 hp
  refine zz 7 ?_
  refine zs 16 (v := .int .i64 (IntKind.i64.wrap ((k5 : Int) + 1))) (v' := .int .i64 ((k5 : Int) + 1)) (vint (wi64 (wk0 k5) (wk1 ht6 hb5))) ?_
  refine zz 2 ?_
  refine znext (fun a h => H5 (k5 + 1) _ a h ⟨_, C13, (Le3 B5 B12 B13), hp⟩ ?_)
  exact mu_lt ht6
 rw [List.drop_eq_nil_of_le (nlt_of_int ht6), clearwaykit_EqualActions_l5] at hp
 refine zz 5 ?_
 exact znext (fun a h => H4 () _ a h ⟨_, C5, B5, hp⟩)
noncomputable def clearwaykit_EqualStates_l5 (p1 : List (List Actn)) (J3 : Option (Bool)) : List (List Actn) → Nat → Option (Bool)
  | [], k5 => J3
  | x5 :: r5, k5 => (ix p1 (k5 : Int)).bind fun x8 => (clearwaykit_EqualActions_p x5 x8).bind fun y11 => if (!y11) = true then (some false) else (clearwaykit_EqualStates_l5 p1 J3 r5 (k5 + 1))
noncomputable def clearwaykit_EqualStates_p (p0 : List (List Actn)) (p1 : List (List Actn)) : Option (Bool) :=
  if ((p0.length : Int) != (p1.length : Int)) = true then (some false) else (lt (some true) fun J3 => clearwaykit_EqualStates_l5 p1 J3 (p0.drop 0) 0)
theorem clearwaykit_EqualStates_c (w : World) (X : Hid) (hX : ∀ k o, X k o → k < w.heap.size) (p0 : List (List Actn)) (vp0 : Value) (hp0 : SV StatesR (rd w X) vp0 p0) (p1 : List (List Actn)) (vp1 : Value) (hp1 : SV StatesR (rd w X) vp1 p1) (y : Bool) (hp : clearwaykit_EqualStates_p p0 p1 = some y) : Calls Tryz.prog 77 #[vp0, vp1] w (Ret E0 w fun _ v => v = .bool y) := by
 obtain ⟨p0a1, p0a2, rfl, p0a_h0⟩ := hp0
 obtain ⟨p1a1, p1a2, rfl, p1a_h0⟩ := hp1
 unfold clearwaykit_EqualStates_p at hp
 refine zen Tryz.func77 ?_
 have C0 : St E0 w X w X [] := St.start hX
 refine zz 15 ?_
 refine zb 10 (b := ((p0.length : Int) != (p1.length : Int))) (fun hc2 => ?_) (fun hc2 => ?_)
 ·
  have hp := ipb hc2 hp
  refine zz 8 ?_
  refine zr' (v := .bool false) ?_
  have hob := Option.some.inj hp
  subst hob
  exact ⟨C0.upd, _, rfl, rfl⟩
 have hp := iqb hc2 hp
 refine zz 3 ?_
 have hob := ltd0 hp
 obtain ⟨J3, hJ3, hp⟩ := hob
 refine zjoin (fun (_ : Unit) => []) (fun (_ : Unit) w1 => ∃ Y1 : Hid, St E0 w X w1 Y1 [] ∧ Le (rd w X) (rd w1 Y1) ∧ J3 = some y) ?_ ?_
 ·
  rintro _ w3 ⟨Y3, C3, B3, hp⟩
  have hp := hJ3.symm.trans hp
  refine zz 6 ?_
  refine zr' (v := .bool true) ?_
  have hob := Option.some.inj hp
  subst hob
  exact ⟨C3.upd, _, rfl, rfl⟩
 intro K4 H4
 refine zz 6 ?_
 have hb5 : (p0.length : Int) ≤ 9223372036854775807 := lenb (p0a_h0).hcap (p0a_h0).hbig
 refine zlp Tryz.f77 [K4] [1, 1, 9, 1, 0] (fun (k5 : Nat) => [(0, .slice p0a1 p0.length p0a2), (1, .slice p1a1 p1.length p1a2), (5, .int .i64 (k5 : Int))]) (fun (k5 : Nat) w1 => ∃ Y1 : Hid, St E0 w X w1 Y1 [] ∧ Le (rd w X) (rd w1 Y1) ∧ clearwaykit_EqualStates_l5 p1 J3 (p0.drop k5) k5 = some y) (fun (k5 : Nat) => p0.length - k5) 0 ?_ ?_
 ·
  exact ⟨_, C0, Le.refl _, hp⟩
 rintro k5 w5 K5 H5 ⟨Y5, C5, B5, hp⟩
 refine zz 9 ?_
 refine zt 14 (p := (k5 : Int) < (p0.length : Int)) (fun ht6 => ?_) (fun ht6 => ?_)
 ·
  have hob := get_lt (l := p0) (k := k5) (lt_of_int ht6)
  obtain ⟨x5, hqx5⟩ := hob
  rw [dropC hqx5, clearwaykit_EqualStates_l5] at hp
  have hzx5 : (0 : Int) ≤ (k5 : Int) := Int.natCast_nonneg _
  refine zz 6 ?_
  refine zdr C5 ?_
  have hob := p0a_h0.opn hqx5
  obtain ⟨be7, oe7, rfl, B7, hEe7⟩ := hob
  obtain ⟨e71, e72, e73, e7_at, e7_h0⟩ := hEe7
  have hob := e7_h0.hlen
  subst hob
  refine gz [0, 1] ?_
  refine gi 2 (b := be7) (off := oe7) (len := p0.length) (cap := p0a2) (kd := .i64) (i := (k5 : Int)) 1 (oe7 + k5 * 1) ?_ (h0 := hzx5) (h1 := (ix_b hzx5 B7))
  refine gl 3 ((e7_at.mono B5)) ?_
  refine bndk hp fun x8 hx8 hp => ?_
  have hob := ix_some hx8
  obtain ⟨hzx8, hqx8⟩ := hob
  have hwx8 : p1[k5]? = some x8 := hqx8
  have hob := p1a_h0.opn hwx8
  obtain ⟨be9, oe9, rfl, B9, hEe9⟩ := hob
  obtain ⟨e91, e92, e93, e9_at, e9_h0⟩ := hEe9
  have hob := e9_h0.hlen
  subst hob
  refine gz [4, 5] ?_
  refine gi 6 (b := be9) (off := oe9) (len := p1.length) (cap := p1a2) (kd := .i64) (i := (k5 : Int)) 1 (oe9 + k5 * 1) ?_ (h0 := hzx8) (h1 := (ix_b hzx8 B9))
  refine gl 7 ((e9_at.mono B5)) ?_
  refine bndk hp fun y11 hy11 hp => ?_
  refine gC 8 (fun w10 Y10 _ C10 B10 => (clearwaykit_EqualActions_c _ X0 (X0_lt _) x5 _ ⟨_, _, rfl, ((e7_h0.mono (Le2 B5 B10)).mono Le.x0)⟩ x8 _ ⟨_, _, rfl, ((e9_h0.mono (Le2 B5 B10)).mono Le.x0)⟩ y11 hy11)) ?_
  rintro v12 w10 Y12 w12 C10 B12 rfl
  refine gz [9] ?_
  refine gend (fun w13 Y13 C13 B13 => ?_)
  refine zz 1 ?_
  refine zb 26 (b := !y11) (fun hc14 => ?_) (fun hc14 => ?_)
  ·
   have hp := ipb hc14 hp
   refine zz 12 ?_
   refine zr' (v := .bool false) ?_
   have hob := Option.some.inj hp
   subst hob
   exact ⟨C13.upd, _, rfl, rfl⟩
  have hp := iqb hc14 hp
  refine zz 7 ?_
  refine zs 16 (v := .int .i64 (IntKind.i64.wrap ((k5 : Int) + 1))) (v' := .int .i64 ((k5 : Int) + 1)) (vint (wi64 (wk0 k5) (wk1 ht6 hb5))) ?_
  refine zz 2 ?_
  refine znext (fun a h => H5 (k5 + 1) _ a h ⟨_, C13, (Le3 B5 B12 B13), hp⟩ ?_)
  exact mu_lt ht6
 rw [List.drop_eq_nil_of_le (nlt_of_int ht6), clearwaykit_EqualStates_l5] at hp
 refine zz 5 ?_
 exact znext (fun a h => H4 () _ a h ⟨_, C5, B5, hp⟩)
noncomputable def clearwaykit_EqualMDP_p (p0 : Mdp) (p1 : Mdp) : Option (Bool) :=
  (clearwaykit_EqualRat_p p0.disc p1.disc).bind fun y7 => if y7 = true then ((clearwaykit_EqualStates_p p0.states p1.states).bind fun y11 => some y11) else (some false)
theorem clearwaykit_EqualMDP_c (w : World) (X : Hid) (hX : ∀ k o, X k o → k < w.heap.size) (p0 : Mdp) (vp0 : Value) (hp0 : MdpV (rd w X) vp0 p0) (p1 : Mdp) (vp1 : Value) (hp1 : MdpV (rd w X) vp1 p1) (y : Bool) (hp : clearwaykit_EqualMDP_p p0 p1 = some y) : Calls Tryz.prog 34 #[vp0, vp1] w (Ret E0 w fun _ v => v = .bool y) := by
 have hVp0 := hp0
 refine MdpV.op hp0 fun p0a1 p0a2 p0a3 p0a4 p0a5 p0a6 p0a7 p0a8 p0a9 hv9 p0a_h0 p0a_h1 p0a_h2 => ?_
 subst hv9
 have hob := p0a_h0.hlen
 subst hob
 have hob := p0a_h1.hlen
 subst hob
 have hob := p0a_h2.hlen
 subst hob
 have hVp1 := hp1
 refine MdpV.op hp1 fun p1a1 p1a2 p1a3 p1a4 p1a5 p1a6 p1a7 p1a8 p1a9 hv9 p1a_h0 p1a_h1 p1a_h2 => ?_
 subst hv9
 have hob := p1a_h0.hlen
 subst hob
 have hob := p1a_h1.hlen
 subst hob
 have hob := p1a_h2.hlen
 subst hob
 unfold clearwaykit_EqualMDP_p at hp
 refine zen Tryz.func34 ?_
 have C0 : St E0 w X w X [] := St.start hX
 refine zz 2 ?_
 refine zn pn (.cells #[.bool p0.disc.neg, .slice p0a1 p0.disc.ln.length p0a3, .slice p0a4 p0.disc.ld.length p0a6, .slice p0a7 p0.states.length p0a9] 57 (0, 0)) C0 ?_
 intro b3 w3 Y3 C3 B3 hu3
 refine zn pn (.cells #[.bool p1.disc.neg, .slice p1a1 p1.disc.ln.length p1a3, .slice p1a4 p1.disc.ld.length p1a6, .slice p1a7 p1.states.length p1a9] 57 (0, 0)) C3 ?_
 intro b5 w5 Y5 C5 B5 hu5
 refine zz 6 ?_
 refine zo 1 C5 ?_
 refine zz 1 ?_
 refine zo 0 C5 ?_
 refine bndk hp fun y7 hy7 hp => ?_
 refine zc C5 (clearwaykit_EqualRat_c _ X0 (X0_lt _) p0.disc _ ⟨_, _, _, _, _, _, rfl, ((p0a_h0.mono (Le2 B3 B5)).mono Le.x0), ((p0a_h1.mono (Le2 B3 B5)).mono Le.x0)⟩ p1.disc _ ⟨_, _, _, _, _, _, rfl, ((p1a_h0.mono (Le2 B3 B5)).mono Le.x0), ((p1a_h1.mono (Le2 B3 B5)).mono Le.x0)⟩ y7 hy7) ?_
 rintro v8 w8 C8 B8 hu8 rfl
 refine zz 1 ?_
 refine zb 10 (b := y7) (fun hc9 => ?_) (fun hc9 => ?_)
 ·
  have hp := ipb hc9 hp
  refine zz 1 ?_
  refine zo 1 C8 ?_
  refine zz 1 ?_
  refine zo 0 C8 ?_
  refine bndk hp fun y11 hy11 hp => ?_
  refine zc C8 (clearwaykit_EqualStates_c _ X0 (X0_lt _) p0.states _ ⟨_, _, rfl, ((p0a_h2.mono (Le3 B3 B5 B8)).mono Le.x0)⟩ p1.states _ ⟨_, _, rfl, ((p1a_h2.mono (Le3 B3 B5 B8)).mono Le.x0)⟩ y11 hy11) ?_
  rintro v12 w12 C12 B12 hu12 rfl
  refine zz 5 ?_
  refine zr' (v := .bool y11) ?_
  have hob := Option.some.inj hp
  subst hob
  exact ⟨C12.upd, _, rfl, rfl⟩
 have hp := iqb hc9 hp
 refine zz 10 ?_
 refine zr' (v := .bool false) ?_
 have hob := Option.some.inj hp
 subst hob
 exact ⟨C8.upd, _, rfl, rfl⟩
noncomputable def mdp_checkAction_l24 (J14 : Raw → Option (Int)) : List Out → Raw → Option (Int)
  | [], v24_1 => J14 v24_1
  | x24 :: r24, v24_1 => (rat_Add_p v24_1 x24.p).bind fun y31 => if ((y31.2) != 0) = true then (some y31.2) else (mdp_checkAction_l24 J14 r24 y31.1)
noncomputable def mdp_checkAction_l36 (p0 : Actn) (p1 : Int) (J10 : Option (Int)) : List Out → Nat → Option (Int)
  | [], k36 => J10
  | x36 :: r36, k36 => lt ((rat_Check_p x36.p).bind fun y44 => if ((y44) != 0) = true then (some y44) else (if x36.p.neg = true then (some 1) else (if ((x36.p.ln.length : Int) == 0) = true then (some 1) else (mdp_checkAction_l36 p0 p1 J10 r36 (k36 + 1))))) fun J42 => lt (fun (v50_0 : Bool) => if v50_0 = true then (some 8) else (if (k36 : Int) > 0 then ((ix p0.next (IntKind.i64.wrap ((k36 : Int) - 1))).bind fun x53 => if (x36.to) ≤ x53.to then (some 16) else (J42)) else (J42))) fun J50 => if (x36.to) < 0 then (J50 true) else (J50 (decide ((x36.to) ≥ p1)))
noncomputable def mdp_checkAction_p (p0 : Actn) (p1 : Int) : Option (Int) :=
  (rat_Check_p p0.cost).bind fun y5 => if ((y5) != 0) = true then (some y5) else (if ((p0.next.length : Int) == 0) = true then (some 3) else (if (p0.next.length : Int) > 64 then (some 4) else (lt (lt (fun (v14_0 : Raw) => (rat_From_p (1 : Int)).bind fun y16 => (rat_Cmp_p v14_0 y16).bind fun y19 => if ((y19.1) != 0) = true then (some 2) else (some 0)) fun J14 => mdp_checkAction_l24 J14 (p0.next.drop 0)  Raw.zero) fun J10 => mdp_checkAction_l36 p0 p1 J10 (p0.next.drop 0) 0)))
theorem mdp_checkAction_c (w : World) (X : Hid) (hX : ∀ k o, X k o → k < w.heap.size) (p0 : Actn) (vp0 : Value) (hp0 : ActnV (rd w X) vp0 p0) (p1 : Int) (y : Int) (hp : mdp_checkAction_p p0 p1 = some y) : Calls Tryz.prog 81 #[vp0, .int .i64 p1] w (Ret E0 w fun _ v => v = .int .i64 y) := by
 have hVp0 := hp0
 refine ActnV.op hp0 fun p0a1 p0a2 p0a3 p0a4 p0a5 p0a6 p0a7 p0a8 p0a9 hv9 p0a_h0 p0a_h1 p0a_h2 => ?_
 subst hv9
 have hob := p0a_h0.hlen
 subst hob
 have hob := p0a_h1.hlen
 subst hob
 have hob := p0a_h2.hlen
 subst hob
 unfold mdp_checkAction_p at hp
 refine zen Tryz.func81 ?_
 have C0 : St E0 w X w X [] := St.start hX
 refine zz 2 ?_
 refine zn pn (.cells #[.bool p0.cost.neg, .slice p0a1 p0.cost.ln.length p0a3, .slice p0a4 p0.cost.ld.length p0a6, .slice p0a7 p0.next.length p0a9] 72 (0, 0)) C0 ?_
 intro b3 w3 Y3 C3 B3 hu3
 refine zz 7 ?_
 refine zo 0 C3 ?_
 refine bndk hp fun y5 hy5 hp => ?_
 refine zc C3 (rat_Check_c _ X0 (X0_lt _) p0.cost _ ⟨_, _, _, _, _, _, rfl, ((p0a_h0.mono B3).mono Le.x0), ((p0a_h1.mono B3).mono Le.x0)⟩ y5 hy5) ?_
 rintro v6 w6 C6 B6 hu6 rfl
 refine zz 11 ?_
 refine zb 18 (b := ((y5) != 0)) (fun hc7 => ?_) (fun hc7 => ?_)
 ·
  have hp := ipb hc7 hp
  refine zz 10 ?_
  refine zr' (v := .int .i64 y5) ?_
  have hob := Option.some.inj hp
  subst hob
  exact ⟨C6.upd, _, rfl, rfl⟩
 have hp := iqb hc7 hp
 refine zz 4 ?_
 refine zo 0 C6 ?_
 refine zz 5 ?_
 refine zb 22 (b := ((p0.next.length : Int) == 0)) (fun hc8 => ?_) (fun hc8 => ?_)
 ·
  have hp := ipb hc8 hp
  refine zz 9 ?_
  refine zr' (v := .int .i64 3) ?_
  have hob := Option.some.inj hp
  subst hob
  exact ⟨C6.upd, _, rfl, rfl⟩
 have hp := iqb hc8 hp
 refine zz 4 ?_
 refine zo 0 C6 ?_
 refine zz 5 ?_
 refine zt 27 (p := (p0.next.length : Int) > 64) (fun ht9 => ?_) (fun ht9 => ?_)
 ·
  have hp := ip ht9 hp
  refine zz 9 ?_
  refine zr' (v := .int .i64 4) ?_
  have hob := Option.some.inj hp
  subst hob
  exact ⟨C6.upd, _, rfl, rfl⟩
 have hp := iq ht9 hp
 refine zz 4 ?_
 have hob := ltd0 hp
 obtain ⟨J10, hJ10, hp⟩ := hob
 refine zjoin (fun (_ : Unit) => [(2, .pointer (some ⟨b3, 0, none⟩))]) (fun (_ : Unit) w1 => ∃ Y1 : Hid, St E0 w X w1 Y1 [(b3, .cells #[.bool p0.cost.neg, .slice p0a1 p0.cost.ln.length p0a3, .slice p0a4 p0.cost.ld.length p0a6, .slice p0a7 p0.next.length p0a9] 72 (0, 0))] ∧ Le (rd w6 Y3) (rd w1 Y1) ∧ J10 = some y) ?_ ?_
 ·
  rintro _ w10 ⟨Y10, C10, B10, hp⟩
  have hp := hJ10.symm.trans hp
  refine zz 3 ?_
  refine zn pn (.cells #[.bool false, .slice none 0 0, .slice none 0 0] 28 (0, 0)) C10 ?_
  intro b12 w12 Y12 C12 B12 hu12
  refine zx 0 #[.bool false, .slice none 0 0, .slice none 0 0] C12 ?_
  intro w13 C13 B13
  refine zz 3 ?_
  have hob := ltd1 hp
  obtain ⟨J14, hJ14, hp⟩ := hob
  refine zjoin (fun ((v14_0, a14_0_1, a14_0_2, a14_0_3, a14_0_4) : Raw × (Option Addr) × Nat × (Option Addr) × Nat) => [(9, .pointer (some ⟨b12, 0, none⟩))]) (fun ((v14_0, a14_0_1, a14_0_2, a14_0_3, a14_0_4) : Raw × (Option Addr) × Nat × (Option Addr) × Nat) w1 => ∃ Y1 : Hid, St E0 w X w1 Y1 [(b12, .cells #[.bool v14_0.neg, .slice a14_0_1 v14_0.ln.length a14_0_2, .slice a14_0_3 v14_0.ld.length a14_0_4] 28 (0, 0)), (b3, .cells #[.bool p0.cost.neg, .slice p0a1 p0.cost.ln.length p0a3, .slice p0a4 p0.cost.ld.length p0a6, .slice p0a7 p0.next.length p0a9] 72 (0, 0))] ∧ Le (rd w13 Y12) (rd w1 Y1) ∧ Limbs (rd w1 (orN Y1 w.heap.size)) a14_0_1 v14_0.ln.length a14_0_2 v14_0.ln ∧ Limbs (rd w1 (orN Y1 w.heap.size)) a14_0_3 v14_0.ld.length a14_0_4 v14_0.ld ∧ J14 v14_0 = some y) ?_ ?_
  ·
   rintro ⟨v14_0, a14_0_1, a14_0_2, a14_0_3, a14_0_4⟩ w14 ⟨Y14, C14, B14, hfv14_0_0, hfv14_0_1, hp⟩
   have hp := (hJ14 _).symm.trans hp
   refine zz 2 ?_
   refine zdr C14 ?_
   refine gw 0 0 ?_
   refine bndk hp fun y16 hy16 hp => ?_
   refine gC 1 (fun w15 Y15 _ C15 B15 => (rat_From_c _ X0 (X0_lt _) (1 : Int) y16 hy16)) ?_
   rintro v17 w15 Y17 w17 C15 B17 ⟨u17_0_1, u17_0_2, u17_0_3, u17_0_4, u17_0_5, u17_0_6, rfl, u17_0__h0, u17_0__h1⟩
   have hob := u17_0__h0.hlen
   subst hob
   have hob := u17_0__h1.hlen
   subst hob
   refine bndk hp fun y19 hy19 hp => ?_
   refine gC 2 (fun w18 Y18 _ C18 B18 => (rat_Cmp_c _ X0 (X0_lt _) v14_0 _ ⟨_, _, _, _, _, _, rfl, (((hfv14_0_0.mono Le.orl).mono (Le2 B17 B18)).mono Le.x0), (((hfv14_0_1.mono Le.orl).mono (Le2 B17 B18)).mono Le.x0)⟩ y16 _ ⟨_, _, _, _, _, _, rfl, (((u17_0__h0.mono (Le.new C15.lt)).mono B18).mono Le.x0), (((u17_0__h1.mono (Le.new C15.lt)).mono B18).mono Le.x0)⟩ y19 hy19)) ?_
   rintro v20 w18 Y20 w20 C18 B20 rfl
   refine gz [3, 4, 5, 6, 7] ?_
   refine gend (fun w21 Y21 C21 B21 => ?_)
   refine zz 7 ?_
   refine zb 110 (b := ((y19.1) != 0)) (fun hc22 => ?_) (fun hc22 => ?_)
   ·
    have hp := ipb hc22 hp
    refine zz 8 ?_
    refine zr' (v := .int .i64 2) ?_
    have hob := Option.some.inj hp
    subst hob
    exact ⟨C21.upd, _, rfl, rfl⟩
   have hp := iqb hc22 hp
   refine zz 9 ?_
   refine zr' (v := .int .i64 0) ?_
   have hob := Option.some.inj hp
   subst hob
   exact ⟨C21.upd, _, rfl, rfl⟩
  intro K23 H23
  refine zz 3 ?_
  refine zo 1 C13 ?_
  refine zz 5 ?_
  have hb24 : (p0.next.length : Int) ≤ 9223372036854775807 := lenb (p0a_h2).hcap (p0a_h2).hbig
  refine zlp Tryz.f81 [K23] [1, 1, 1, 1, 9, 1, 0] (fun ((k24, v24_1, a24_1_1, a24_1_2, a24_1_3, a24_1_4) : Nat × Raw × (Option Addr) × Nat × (Option Addr) × Nat) => [(9, .pointer (some ⟨b12, 0, none⟩)), (86, .slice p0a7 p0.next.length p0a9), (87, .int .i64 (p0.next.length : Int)), (88, .int .i64 (k24 : Int))]) (fun ((k24, v24_1, a24_1_1, a24_1_2, a24_1_3, a24_1_4) : Nat × Raw × (Option Addr) × Nat × (Option Addr) × Nat) w1 => ∃ Y1 : Hid, St E0 w X w1 Y1 [(b12, .cells #[.bool v24_1.neg, .slice a24_1_1 v24_1.ln.length a24_1_2, .slice a24_1_3 v24_1.ld.length a24_1_4] 28 (0, 0)), (b3, .cells #[.bool p0.cost.neg, .slice p0a1 p0.cost.ln.length p0a3, .slice p0a4 p0.cost.ld.length p0a6, .slice p0a7 p0.next.length p0a9] 72 (0, 0))] ∧ Le (rd w13 Y12) (rd w1 Y1) ∧ Limbs (rd w1 (orN Y1 w.heap.size)) a24_1_1 v24_1.ln.length a24_1_2 v24_1.ln ∧ Limbs (rd w1 (orN Y1 w.heap.size)) a24_1_3 v24_1.ld.length a24_1_4 v24_1.ld ∧ mdp_checkAction_l24 J14 (p0.next.drop k24)  v24_1 = some y) (fun ((k24, v24_1, a24_1_1, a24_1_2, a24_1_3, a24_1_4) : Nat × Raw × (Option Addr) × Nat × (Option Addr) × Nat) => p0.next.length - k24) (0, Raw.zero, none, 0, none, 0) ?_ ?_
  ·
   exact ⟨_, C13, Le.refl _, Limbs.nil0, Limbs.nil0, hp⟩
  rintro ⟨k24, v24_1, a24_1_1, a24_1_2, a24_1_3, a24_1_4⟩ w24 K24 H24 ⟨Y24, C24, B24, hfv24_1_0, hfv24_1_1, hp⟩
  refine zz 6 ?_
  refine zt 89 (p := (k24 : Int) < (p0.next.length : Int)) (fun ht25 => ?_) (fun ht25 => ?_)
  ·
   have hob := get_lt (l := p0.next) (k := k24) (lt_of_int ht25)
   obtain ⟨x24, hqx24⟩ := hob
   rw [dropC hqx24, mdp_checkAction_l24] at hp
   have hzx24 : (0 : Int) ≤ (k24 : Int) := Int.natCast_nonneg _
   refine zz 7 ?_
   have hob := p0a_h2.opn hqx24
   obtain ⟨be26, oe26, rfl, B26, hEe26⟩ := hob
   obtain ⟨e261, e262, e263, e264, e265, e266, e26_at, e26_h0, e26_h1⟩ := hEe26
   have hob := e26_h0.hlen
   subst hob
   have hob := e26_h1.hlen
   subst hob
   refine zi (b := be26) (off := oe26) (len := p0.next.length) (cap := p0a9) (kd := .i64) (i := (k24 : Int)) 4 (oe26 + k24 * 4) ?_ (h0 := hzx24) (h1 := (ix_b hzx24 B26))
   have hc1_ := (Le5 B3 B6 B10 B12 B13).trans B24
   refine zl ((e26_at.mono hc1_)).cells ?_
   refine zn pn (.cells #[.int .i64 0, .bool false, .slice none 0 0, .slice none 0 0] 80 (0, 0)) C24 ?_
   intro b28 w28 Y28 C28 B28 hu28
   refine zx 0 #[.int .i64 x24.to, .bool x24.p.neg, .slice e261 x24.p.ln.length e263, .slice e264 x24.p.ld.length e266] C28 ?_
   intro w29 C29 B29
   refine zz 4 ?_
   refine zo 1 C29 ?_
   refine zz 1 ?_
   refine zo 0 C29 ?_
   have hc2_ := (hc1_.trans B28).trans B29
   refine bndk hp fun y31 hy31 hp => ?_
   refine zc C29 (rat_Add_c _ X0 (X0_lt _) v24_1 _ ⟨_, _, _, _, _, _, rfl, (((hfv24_1_0.mono Le.orl).mono (Le2 B28 B29)).mono Le.x0), (((hfv24_1_1.mono Le.orl).mono (Le2 B28 B29)).mono Le.x0)⟩ x24.p _ ⟨_, _, _, _, _, _, rfl, ((e26_h0.mono hc2_).mono Le.x0), ((e26_h1.mono hc2_).mono Le.x0)⟩ y31 hy31) ?_
   rintro v32 w32 C32 B32 hu32 ⟨uu32_0, rfl, ⟨u32_0_1, u32_0_2, u32_0_3, u32_0_4, u32_0_5, u32_0_6, rfl, u32_0__h0, u32_0__h1⟩⟩
   have hob := u32_0__h0.hlen
   subst hob
   have hob := u32_0__h1.hlen
   subst hob
   refine zz 3 ?_
   refine zx 1 #[.bool y31.1.neg, .slice u32_0_1 y31.1.ln.length u32_0_3, .slice u32_0_4 y31.1.ld.length u32_0_6] C32 ?_
   intro w33 C33 B33
   refine zz 9 ?_
   refine zb 100 (b := ((y31.2) != 0)) (fun hc34 => ?_) (fun hc34 => ?_)
   ·
    have hp := ipb hc34 hp
    refine zz 13 ?_
    refine zr' (v := .int .i64 y31.2) ?_
    have hob := Option.some.inj hp
    subst hob
    exact ⟨C33.upd, _, rfl, rfl⟩
   have hp := iqb hc34 hp
   refine zz 6 ?_
   refine zs 102 (v := .int .i64 (IntKind.i64.wrap ((k24 : Int) + 1))) (v' := .int .i64 ((k24 : Int) + 1)) (vint (wi64 (wk0 k24) (wk1 ht25 hb24))) ?_
   refine zz 2 ?_
   have hc3_ := (Le4 B24 B28 B29 B32).trans B33
   refine znext (fun a h => H24 (k24 + 1, y31.1, u32_0_1, u32_0_3, u32_0_4, u32_0_6) _ a h ⟨_, C33.tail, hc3_, (u32_0__h0.mono (Le.own C29.lt C29.upd.size B33)), (u32_0__h1.mono (Le.own C29.lt C29.upd.size B33)), hp⟩ ?_)
   exact mu_lt ht25
  rw [List.drop_eq_nil_of_le (nlt_of_int ht25), mdp_checkAction_l24] at hp
  refine zz 5 ?_
  exact znext (fun a h => H23 (v24_1, a24_1_1, a24_1_2, a24_1_3, a24_1_4) _ a h ⟨_, C24, B24, (hfv24_1_0.mono (Le.or (Le.refl _) _)), (hfv24_1_1.mono (Le.or (Le.refl _) _)), hp⟩)
 intro K35 H35
 refine zz 3 ?_
 refine zo 0 C6 ?_
 refine zz 5 ?_
 have hb36 : (p0.next.length : Int) ≤ 9223372036854775807 := lenb (p0a_h2).hcap (p0a_h2).hbig
 refine zlp Tryz.f81 [K35] [1, 1, 9, 1, 0] (fun (k36 : Nat) => [(1, .int .i64 p1), (2, .pointer (some ⟨b3, 0, none⟩)), (33, .slice p0a7 p0.next.length p0a9), (34, .int .i64 (p0.next.length : Int)), (35, .int .i64 (k36 : Int))]) (fun (k36 : Nat) w1 => ∃ Y1 : Hid, St E0 w X w1 Y1 [(b3, .cells #[.bool p0.cost.neg, .slice p0a1 p0.cost.ln.length p0a3, .slice p0a4 p0.cost.ld.length p0a6, .slice p0a7 p0.next.length p0a9] 72 (0, 0))] ∧ Le (rd w6 Y3) (rd w1 Y1) ∧ mdp_checkAction_l36 p0 p1 J10 (p0.next.drop k36) k36 = some y) (fun (k36 : Nat) => p0.next.length - k36) 0 ?_ ?_
 ·
  exact ⟨_, C6, Le.refl _, hp⟩
 rintro k36 w36 K36 H36 ⟨Y36, C36, B36, hp⟩
 refine zz 6 ?_
 refine zt 36 (p := (k36 : Int) < (p0.next.length : Int)) (fun ht37 => ?_) (fun ht37 => ?_)
 ·
  have hob := get_lt (l := p0.next) (k := k36) (lt_of_int ht37)
  obtain ⟨x36, hqx36⟩ := hob
  rw [dropC hqx36, mdp_checkAction_l36] at hp
  have hzx36 : (0 : Int) ≤ (k36 : Int) := Int.natCast_nonneg _
  refine zz 8 ?_
  have hob := p0a_h2.opn hqx36
  obtain ⟨be38, oe38, rfl, B38, hEe38⟩ := hob
  obtain ⟨e381, e382, e383, e384, e385, e386, e38_at, e38_h0, e38_h1⟩ := hEe38
  have hob := e38_h0.hlen
  subst hob
  have hob := e38_h1.hlen
  subst hob
  refine zi (b := be38) (off := oe38) (len := p0.next.length) (cap := p0a9) (kd := .i64) (i := (k36 : Int)) 4 (oe38 + k36 * 4) ?_ (h0 := hzx36) (h1 := (ix_b hzx36 B38))
  refine zl ((e38_at.mono (Le3 B3 B6 B36))).cells ?_
  refine zn pn (.cells #[.int .i64 0, .bool false, .slice none 0 0, .slice none 0 0] 80 (0, 0)) C36 ?_
  intro b40 w40 Y40 C40 B40 hu40
  refine zz 1 ?_
  refine zx 0 #[.int .i64 x36.to, .bool x36.p.neg, .slice e381 x36.p.ln.length e383, .slice e384 x36.p.ld.length e386] C40 ?_
  intro w41 C41 B41
  refine zz 2 ?_
  have hob := ltd0 hp
  obtain ⟨J42, hJ42, hp⟩ := hob
  refine zjoin (fun (_ : Unit) => [(1, .int .i64 p1), (2, .pointer (some ⟨b3, 0, none⟩)), (7, .pointer (some ⟨b40, 0, none⟩)), (33, .slice (some ⟨be38, oe38, none⟩) p0.next.length p0a9), (34, .int .i64 (p0.next.length : Int)), (35, .int .i64 (k36 : Int))]) (fun (_ : Unit) w1 => ∃ Y1 : Hid, St E0 w X w1 Y1 [(b40, .cells #[.int .i64 x36.to, .bool x36.p.neg, .slice e381 x36.p.ln.length e383, .slice e384 x36.p.ld.length e386] 80 (0, 0)), (b3, .cells #[.bool p0.cost.neg, .slice p0a1 p0.cost.ln.length p0a3, .slice p0a4 p0.cost.ld.length p0a6, .slice (some ⟨be38, oe38, none⟩) p0.next.length p0a9] 72 (0, 0))] ∧ Le (rd w41 Y40) (rd w1 Y1) ∧ J42 = some y) ?_ ?_
  ·
   rintro _ w42 ⟨Y42, C42, B42, hp⟩
   have hp := hJ42.symm.trans hp
   refine zz 3 ?_
   refine zo 0 C42 ?_
   have hc4_ := (Le5 B3 B6 B36 B40 B41).trans B42
   refine bndk hp fun y44 hy44 hp => ?_
   refine zc C42 (rat_Check_c _ X0 (X0_lt _) x36.p _ ⟨_, _, _, _, _, _, rfl, ((e38_h0.mono hc4_).mono Le.x0), ((e38_h1.mono hc4_).mono Le.x0)⟩ y44 hy44) ?_
   rintro v45 w45 C45 B45 hu45 rfl
   refine zz 11 ?_
   refine zb 68 (b := ((y44) != 0)) (fun hc46 => ?_) (fun hc46 => ?_)
   ·
    have hp := ipb hc46 hp
    refine zz 14 ?_
    refine zr' (v := .int .i64 y44) ?_
    have hob := Option.some.inj hp
    subst hob
    exact ⟨C45.upd, _, rfl, rfl⟩
   have hp := iqb hc46 hp
   refine zz 5 ?_
   refine zo 0 C45 ?_
   refine zz 1 ?_
   refine zb 76 (b := x36.p.neg) (fun hc47 => ?_) (fun hc47 => ?_)
   ·
    have hp := ipb hc47 hp
    refine zz 22 ?_
    refine zr' (v := .int .i64 1) ?_
    have hob := Option.some.inj hp
    subst hob
    exact ⟨C45.upd, _, rfl, rfl⟩
   have hp := iqb hc47 hp
   refine zz 2 ?_
   refine zo 0 C45 ?_
   refine zz 6 ?_
   refine zb 72 (b := ((x36.p.ln.length : Int) == 0)) (fun hc48 => ?_) (fun hc48 => ?_)
   ·
    have hp := ipb hc48 hp
    refine zz 13 ?_
    refine zr' (v := .int .i64 1) ?_
    have hob := Option.some.inj hp
    subst hob
    exact ⟨C45.upd, _, rfl, rfl⟩
   have hp := iqb hc48 hp
   refine zz 7 ?_
   refine zs 83 (v := .int .i64 (IntKind.i64.wrap ((k36 : Int) + 1))) (v' := .int .i64 ((k36 : Int) + 1)) (vint (wi64 (wk0 k36) (wk1 ht37 hb36))) ?_
   refine zz 2 ?_
   have hc5_ := (Le4 B36 B40 B41 B42).trans B45
   refine znext (fun a h => H36 (k36 + 1) _ a h ⟨_, C45.tail, hc5_, hp⟩ ?_)
   exact mu_lt ht37
  intro K49 H49
  refine zz 1 ?_
  have hob := ltd1 hp
  obtain ⟨J50, hJ50, hp⟩ := hob
  refine zjoin (fun (v50_0 : Bool) => [(40, .bool v50_0), (1, .int .i64 p1), (2, .pointer (some ⟨b3, 0, none⟩)), (6, .int .i64 (k36 : Int)), (7, .pointer (some ⟨b40, 0, none⟩)), (33, .slice (some ⟨be38, oe38, none⟩) p0.next.length p0a9), (34, .int .i64 (p0.next.length : Int)), (35, .int .i64 (k36 : Int))]) (fun (v50_0 : Bool) w1 => ∃ Y1 : Hid, St E0 w X w1 Y1 [(b40, .cells #[.int .i64 x36.to, .bool x36.p.neg, .slice e381 x36.p.ln.length e383, .slice e384 x36.p.ld.length e386] 80 (0, 0)), (b3, .cells #[.bool p0.cost.neg, .slice p0a1 p0.cost.ln.length p0a3, .slice p0a4 p0.cost.ld.length p0a6, .slice (some ⟨be38, oe38, none⟩) p0.next.length p0a9] 72 (0, 0))] ∧ Le (rd w41 Y40) (rd w1 Y1) ∧ J50 v50_0 = some y) ?_ ?_
  ·
   rintro v50_0 w50 ⟨Y50, C50, B50, hp⟩
   have hp := (hJ50 _).symm.trans hp
   refine zb 40 (b := v50_0) (fun hc51 => ?_) (fun hc51 => ?_)
   ·
    have hp := ipb hc51 hp
    refine zz 14 ?_
    refine zr' (v := .int .i64 8) ?_
    have hob := Option.some.inj hp
    subst hob
    exact ⟨C50.upd, _, rfl, rfl⟩
   have hp := iqb hc51 hp
   refine zz 2 ?_
   refine zdr C50 ?_
   refine gz [0, 1, 2] ?_
   refine gt 53 (p := (k36 : Int) > 0) (fun ht52 => ?_) (fun ht52 => ?_)
   ·
    have hp := ip ht52 hp
    refine gz [3] ?_
    refine gw 4 0 ?_
    refine gz [5] ?_
    refine gw 6 1 ?_
    refine bndk hp fun x53 hx53 hp => ?_
    have hob := ix_some hx53
    obtain ⟨hzx53, hqx53⟩ := hob
    have hob := p0a_h2.opn2 hqx53
    obtain ⟨B54, hEe54⟩ := hob
    obtain ⟨e541, e542, e543, e544, e545, e546, e54_at, e54_h0, e54_h1⟩ := hEe54
    have hob := e54_h0.hlen
    subst hob
    have hob := e54_h1.hlen
    subst hob
    refine gz [7, 8] ?_
    refine gi 9 (b := be38) (off := oe38) (len := p0.next.length) (cap := p0a9) (kd := .i64) (i := IntKind.i64.wrap ((k36 : Int) - 1)) 4 (oe38 + (IntKind.i64.wrap ((k36 : Int) - 1)).toNat * 4) ?_ (h0 := hzx53) (h1 := (ix_b hzx53 B54))
    have hc6_ := (Le5 B3 B6 B36 B40 B41).trans B50
    refine gz [10] ?_
    refine gl 11 ((e54_at.mono hc6_).sub 0 1) ?_
    refine gz [12, 13, 14] ?_
    refine gend (fun w55 Y55 C55 B55 => ?_)
    refine zz 1 ?_
    refine zt 50 (p := (x36.to) ≤ x53.to) (fun ht56 => ?_) (fun ht56 => ?_)
    ·
     have hp := ip ht56 hp
     refine zz 14 ?_
     refine zr' (v := .int .i64 16) ?_
     have hob := Option.some.inj hp
     subst hob
     exact ⟨C55.upd, _, rfl, rfl⟩
    have hp := iq ht56 hp
    refine zz 3 ?_
    exact znext (fun a h => H49 () _ a h ⟨_, C55, (Le2 B50 B55), hp⟩)
   have hp := iq ht52 hp
   refine gz [3, 4, 5, 6, 7, 8, 9, 10, 11, 12, 13, 14] ?_
   refine gend (fun w57 Y57 C57 B57 => ?_)
   refine zz 4 ?_
   exact znext (fun a h => H49 () _ a h ⟨_, C57, (Le2 B50 B57), hp⟩)
  intro K58 H58
  refine zz 2 ?_
  refine zo 0 C41 ?_
  refine zz 2 ?_
  refine zt 44 (p := (x36.to) < 0) (fun ht59 => ?_) (fun ht59 => ?_)
  ·
   have hp := ip ht59 hp
   refine zz 7 ?_
   exact znext (fun a h => H58 true _ a h ⟨_, C41, (Le.refl _), hp⟩)
  have hp := iq ht59 hp
  refine zz 1 ?_
  refine zo 0 C41 ?_
  refine zz 5 ?_
  exact znext (fun a h => H58 (decide ((x36.to) ≥ p1)) _ a h ⟨_, C41, (Le.refl _), hp⟩)
 rw [List.drop_eq_nil_of_le (nlt_of_int ht37), mdp_checkAction_l36] at hp
 refine zz 5 ?_
 exact znext (fun a h => H35 () _ a h ⟨_, C36, B36, hp⟩)
noncomputable def mdp_Check_l28 (p0 : Mdp) (J23 : Option (Int)) : List Actn → Option (Int)
  | [] => J23
  | x28 :: r28 => (mdp_checkAction_p x28 (p0.states.length : Int)).bind fun y35 => if ((y35) != 0) = true then (some y35) else (mdp_Check_l28 p0 J23 r28 )
noncomputable def mdp_Check_l21 (p0 : Mdp) (J19 : Option (Int)) : List (List Actn) → Option (Int)
  | [] => J19
  | x21 :: r21 => lt (mdp_Check_l21 p0 J19 r21 ) fun J23 => if ((x21.length : Int) == 0) = true then (some 3) else (if (x21.length : Int) > 6 then (some 4) else (mdp_Check_l28 p0 J23 (x21.drop 0) ))
noncomputable def mdp_Check_p (p0 : Mdp) : Option (Int) :=
  (rat_Check_p p0.disc).bind fun y5 => if ((y5) != 0) = true then (some y5) else ((rat_From_p (1 : Int)).bind fun y9 => (rat_Cmp_p p0.disc y9).bind fun y12 => if p0.disc.neg = true then (some 1) else (if (y12.1) > 0 then (some 1) else (if ((p0.states.length : Int) == 0) = true then (some 3) else (if (p0.states.length : Int) > 200 then (some 4) else (lt (some 0) fun J19 => mdp_Check_l21 p0 J19 (p0.states.drop 0) )))))
theorem mdp_Check_c (w : World) (X : Hid) (hX : ∀ k o, X k o → k < w.heap.size) (p0 : Mdp) (vp0 : Value) (hp0 : MdpV (rd w X) vp0 p0) (y : Int) (hp : mdp_Check_p p0 = some y) : Calls Tryz.prog 37 #[vp0] w (Ret E0 w fun _ v => v = .int .i64 y) := by
 have hVp0 := hp0
 refine MdpV.op hp0 fun p0a1 p0a2 p0a3 p0a4 p0a5 p0a6 p0a7 p0a8 p0a9 hv9 p0a_h0 p0a_h1 p0a_h2 => ?_
 subst hv9
 have hob := p0a_h0.hlen
 subst hob
 have hob := p0a_h1.hlen
 subst hob
 have hob := p0a_h2.hlen
 subst hob
 unfold mdp_Check_p at hp
 refine zen Tryz.func37 ?_
 have C0 : St E0 w X w X [] := St.start hX
 refine zz 2 ?_
 refine zn pn (.cells #[.bool p0.disc.neg, .slice p0a1 p0.disc.ln.length p0a3, .slice p0a4 p0.disc.ld.length p0a6, .slice p0a7 p0.states.length p0a9] 57 (0, 0)) C0 ?_
 intro b3 w3 Y3 C3 B3 hu3
 refine zz 7 ?_
 refine zo 0 C3 ?_
 refine bndk hp fun y5 hy5 hp => ?_
 refine zc C3 (rat_Check_c _ X0 (X0_lt _) p0.disc _ ⟨_, _, _, _, _, _, rfl, ((p0a_h0.mono B3).mono Le.x0), ((p0a_h1.mono B3).mono Le.x0)⟩ y5 hy5) ?_
 rintro v6 w6 C6 B6 hu6 rfl
 refine zz 9 ?_
 refine zb 15 (b := ((y5) != 0)) (fun hc7 => ?_) (fun hc7 => ?_)
 ·
  have hp := ipb hc7 hp
  refine zz 9 ?_
  refine zr' (v := .int .i64 y5) ?_
  have hob := Option.some.inj hp
  subst hob
  exact ⟨C6.upd, _, rfl, rfl⟩
 have hp := iqb hc7 hp
 refine zz 4 ?_
 refine zdr C6 ?_
 refine gz [0] ?_
 refine gw 1 0 ?_
 refine bndk hp fun y9 hy9 hp => ?_
 refine gC 2 (fun w8 Y8 _ C8 B8 => (rat_From_c _ X0 (X0_lt _) (1 : Int) y9 hy9)) ?_
 rintro v10 w8 Y10 w10 C8 B10 ⟨u10_0_1, u10_0_2, u10_0_3, u10_0_4, u10_0_5, u10_0_6, rfl, u10_0__h0, u10_0__h1⟩
 have hob := u10_0__h0.hlen
 subst hob
 have hob := u10_0__h1.hlen
 subst hob
 have hc1_ := (Le2 B3 B6).trans B10
 refine bndk hp fun y12 hy12 hp => ?_
 refine gC 3 (fun w11 Y11 _ C11 B11 => (rat_Cmp_c _ X0 (X0_lt _) p0.disc _ ⟨_, _, _, _, _, _, rfl, ((p0a_h0.mono (hc1_.trans B11)).mono Le.x0), ((p0a_h1.mono (hc1_.trans B11)).mono Le.x0)⟩ y9 _ ⟨_, _, _, _, _, _, rfl, (((u10_0__h0.mono (Le.new C8.lt)).mono B11).mono Le.x0), (((u10_0__h1.mono (Le.new C8.lt)).mono B11).mono Le.x0)⟩ y12 hy12)) ?_
 rintro v13 w11 Y13 w13 C11 B13 rfl
 refine gz [4, 5, 6, 7, 8] ?_
 refine gend (fun w14 Y14 C14 B14 => ?_)
 refine zz 7 ?_
 refine zo 0 C14 ?_
 refine zz 1 ?_
 refine zb 28 (b := p0.disc.neg) (fun hc15 => ?_) (fun hc15 => ?_)
 ·
  have hp := ipb hc15 hp
  refine zz 15 ?_
  refine zr' (v := .int .i64 1) ?_
  have hob := Option.some.inj hp
  subst hob
  exact ⟨C14.upd, _, rfl, rfl⟩
 have hp := iqb hc15 hp
 refine zz 6 ?_
 refine zt 24 (p := (y12.1) > 0) (fun ht16 => ?_) (fun ht16 => ?_)
 ·
  have hp := ip ht16 hp
  refine zz 9 ?_
  refine zr' (v := .int .i64 1) ?_
  have hob := Option.some.inj hp
  subst hob
  exact ⟨C14.upd, _, rfl, rfl⟩
 have hp := iq ht16 hp
 refine zz 4 ?_
 refine zo 0 C14 ?_
 refine zz 5 ?_
 refine zb 32 (b := ((p0.states.length : Int) == 0)) (fun hc17 => ?_) (fun hc17 => ?_)
 ·
  have hp := ipb hc17 hp
  refine zz 9 ?_
  refine zr' (v := .int .i64 3) ?_
  have hob := Option.some.inj hp
  subst hob
  exact ⟨C14.upd, _, rfl, rfl⟩
 have hp := iqb hc17 hp
 refine zz 4 ?_
 refine zo 0 C14 ?_
 refine zz 5 ?_
 refine zt 37 (p := (p0.states.length : Int) > 200) (fun ht18 => ?_) (fun ht18 => ?_)
 ·
  have hp := ip ht18 hp
  refine zz 9 ?_
  refine zr' (v := .int .i64 4) ?_
  have hob := Option.some.inj hp
  subst hob
  exact ⟨C14.upd, _, rfl, rfl⟩
 have hp := iq ht18 hp
 refine zz 4 ?_
 have hob := ltd0 hp
 obtain ⟨J19, hJ19, hp⟩ := hob
 refine zjoin (fun (_ : Unit) => []) (fun (_ : Unit) w1 => ∃ Y1 : Hid, St E0 w X w1 Y1 [(b3, .cells #[.bool p0.disc.neg, .slice p0a1 p0.disc.ln.length p0a3, .slice p0a4 p0.disc.ld.length p0a6, .slice p0a7 p0.states.length p0a9] 57 (0, 0))] ∧ Le (rd w14 Y14) (rd w1 Y1) ∧ J19 = some y) ?_ ?_
 ·
  rintro _ w19 ⟨Y19, C19, B19, hp⟩
  have hp := hJ19.symm.trans hp
  refine zz 6 ?_
  refine zr' (v := .int .i64 0) ?_
  have hob := Option.some.inj hp
  subst hob
  exact ⟨C19.upd, _, rfl, rfl⟩
 intro K20 H20
 refine zz 3 ?_
 refine zo 0 C14 ?_
 refine zz 5 ?_
 have hb21 : (p0.states.length : Int) ≤ 9223372036854775807 := lenb (p0a_h2).hcap (p0a_h2).hbig
 refine zlp Tryz.f37 [K20] [1, 1, 1, 1, 9, 1, 0] (fun (k21 : Nat) => [(1, .pointer (some ⟨b3, 0, none⟩)), (43, .slice p0a7 p0.states.length p0a9), (44, .int .i64 (p0.states.length : Int)), (45, .int .i64 (k21 : Int))]) (fun (k21 : Nat) w1 => ∃ Y1 : Hid, St E0 w X w1 Y1 [(b3, .cells #[.bool p0.disc.neg, .slice p0a1 p0.disc.ln.length p0a3, .slice p0a4 p0.disc.ld.length p0a6, .slice p0a7 p0.states.length p0a9] 57 (0, 0))] ∧ Le (rd w14 Y14) (rd w1 Y1) ∧ mdp_Check_l21 p0 J19 (p0.states.drop k21)  = some y) (fun (k21 : Nat) => p0.states.length - k21) 0 ?_ ?_
 ·
  exact ⟨_, C14, Le.refl _, hp⟩
 rintro k21 w21 K21 H21 ⟨Y21, C21, B21, hp⟩
 refine zz 6 ?_
 refine zt 46 (p := (k21 : Int) < (p0.states.length : Int)) (fun ht22 => ?_) (fun ht22 => ?_)
 ·
  have hob := get_lt (l := p0.states) (k := k21) (lt_of_int ht22)
  obtain ⟨x21, hqx21⟩ := hob
  rw [dropC hqx21, mdp_Check_l21] at hp
  have hzx21 : (0 : Int) ≤ (k21 : Int) := Int.natCast_nonneg _
  refine zz 3 ?_
  have hob := ltd0 hp
  obtain ⟨J23, hJ23, hp⟩ := hob
  refine zjoin (fun (_ : Unit) => [(1, .pointer (some ⟨b3, 0, none⟩)), (43, .slice p0a7 p0.states.length p0a9), (44, .int .i64 (p0.states.length : Int)), (45, .int .i64 (k21 : Int))]) (fun (_ : Unit) w1 => ∃ Y1 : Hid, St E0 w X w1 Y1 [(b3, .cells #[.bool p0.disc.neg, .slice p0a1 p0.disc.ln.length p0a3, .slice p0a4 p0.disc.ld.length p0a6, .slice p0a7 p0.states.length p0a9] 57 (0, 0))] ∧ Le (rd w21 Y21) (rd w1 Y1) ∧ J23 = some y) ?_ ?_
  ·
   rintro _ w23 ⟨Y23, C23, B23, hp⟩
   have hp := hJ23.symm.trans hp
   refine zz 2 ?_
   refine zs 72 (v := .int .i64 (IntKind.i64.wrap ((k21 : Int) + 1))) (v' := .int .i64 ((k21 : Int) + 1)) (vint (wi64 (wk0 k21) (wk1 ht22 hb21))) ?_
   refine zz 2 ?_
   refine znext (fun a h => H21 (k21 + 1) _ a h ⟨_, C23, (Le2 B21 B23), hp⟩ ?_)
   exact mu_lt ht22
  intro K24 H24
  refine zz 3 ?_
  have hob := p0a_h2.opn hqx21
  obtain ⟨be25, oe25, rfl, B25, hEe25⟩ := hob
  obtain ⟨e251, e252, e253, e25_at, e25_h0⟩ := hEe25
  have hob := e25_h0.hlen
  subst hob
  refine zi (b := be25) (off := oe25) (len := p0.states.length) (cap := p0a9) (kd := .i64) (i := (k21 : Int)) 1 (oe25 + k21 * 1) ?_ (h0 := hzx21) (h1 := (ix_b hzx21 B25))
  have hc2_ := ((hc1_.trans B13).trans B14).trans B21
  refine zl ((e25_at.mono hc2_)).cells ?_
  refine zz 13 ?_
  refine zb 49 (b := ((x21.length : Int) == 0)) (fun hc26 => ?_) (fun hc26 => ?_)
  ·
   have hp := ipb hc26 hp
   refine zz 14 ?_
   refine zr' (v := .int .i64 3) ?_
   have hob := Option.some.inj hp
   subst hob
   exact ⟨C21.upd, _, rfl, rfl⟩
  have hp := iqb hc26 hp
  refine zz 9 ?_
  refine zt 53 (p := (x21.length : Int) > 6) (fun ht27 => ?_) (fun ht27 => ?_)
  ·
   have hp := ip ht27 hp
   refine zz 14 ?_
   refine zr' (v := .int .i64 4) ?_
   have hob := Option.some.inj hp
   subst hob
   exact ⟨C21.upd, _, rfl, rfl⟩
  have hp := iq ht27 hp
  refine zz 12 ?_
  have hb28 : (x21.length : Int) ≤ 9223372036854775807 := lenb (e25_h0).hcap (e25_h0).hbig
  refine zlp Tryz.f37 [K20, K21, K24] [1, 1, 1, 1, 9, 1, 0, 0, 1, 1, 9, 0, 1, 1, 1, 0] (fun (k28 : Nat) => [(1, .pointer (some ⟨b3, 0, none⟩)), (43, .slice (some ⟨be25, oe25, none⟩) p0.states.length p0a9), (44, .int .i64 (p0.states.length : Int)), (45, .int .i64 (k21 : Int)), (57, .slice e251 x21.length e253), (58, .int .i64 (x21.length : Int)), (59, .int .i64 (k28 : Int))]) (fun (k28 : Nat) w1 => ∃ Y1 : Hid, St E0 w X w1 Y1 [(b3, .cells #[.bool p0.disc.neg, .slice p0a1 p0.disc.ln.length p0a3, .slice p0a4 p0.disc.ld.length p0a6, .slice (some ⟨be25, oe25, none⟩) p0.states.length p0a9] 57 (0, 0))] ∧ Le (rd w21 Y21) (rd w1 Y1) ∧ mdp_Check_l28 p0 J23 (x21.drop k28)  = some y) (fun (k28 : Nat) => x21.length - k28) 0 ?_ ?_
  ·
   exact ⟨_, C21, Le.refl _, hp⟩
  rintro k28 w28 K28 H28 ⟨Y28, C28, B28, hp⟩
  refine zz 6 ?_
  refine zt 60 (p := (k28 : Int) < (x21.length : Int)) (fun ht29 => ?_) (fun ht29 => ?_)
  ·
   have hob := get_lt (l := x21) (k := k28) (lt_of_int ht29)
   obtain ⟨x28, hqx28⟩ := hob
   rw [dropC hqx28, mdp_Check_l28] at hp
   have hzx28 : (0 : Int) ≤ (k28 : Int) := Int.natCast_nonneg _
   refine zz 7 ?_
   have hob := e25_h0.opn hqx28
   obtain ⟨be30, oe30, rfl, B30, hEe30⟩ := hob
   refine ActAt.op hEe30 fun e301 e302 e303 e304 e305 e306 e307 e308 e309 e30_at e30_h0 e30_h1 e30_h2 => ?_
   have hob := e30_h0.hlen
   subst hob
   have hob := e30_h1.hlen
   subst hob
   have hob := e30_h2.hlen
   subst hob
   refine zi (b := be30) (off := oe30) (len := x21.length) (cap := e253) (kd := .i64) (i := (k28 : Int)) 4 (oe30 + k28 * 4) ?_ (h0 := hzx28) (h1 := (ix_b hzx28 B30))
   have hc3_ := hc2_.trans B28
   refine zl ((e30_at.mono hc3_)).cells ?_
   refine zn pn (.cells #[.bool false, .slice none 0 0, .slice none 0 0, .slice none 0 0] 72 (0, 0)) C28 ?_
   intro b32 w32 Y32 C32 B32 hu32
   refine zx 0 #[.bool x28.cost.neg, .slice e301 x28.cost.ln.length e303, .slice e304 x28.cost.ld.length e306, .slice e307 x28.next.length e309] C32 ?_
   intro w33 C33 B33
   refine zz 4 ?_
   refine zo 0 C33 ?_
   refine zz 1 ?_
   refine zo 1 C33 ?_
   refine zz 1 ?_
   have hc4_ := (hc3_.trans B32).trans B33
   refine bndk hp fun y35 hy35 hp => ?_
   refine zc C33 (mdp_checkAction_c _ X0 (X0_lt _) x28 _ ⟨_, _, _, _, _, _, _, _, _, rfl, ((e30_h0.mono hc4_).mono Le.x0), ((e30_h1.mono hc4_).mono Le.x0), ((e30_h2.mono hc4_).mono Le.x0)⟩ (p0.states.length : Int) y35 hy35) ?_
   rintro v36 w36 C36 B36 hu36 rfl
   refine zz 9 ?_
   refine zb 69 (b := ((y35) != 0)) (fun hc37 => ?_) (fun hc37 => ?_)
   ·
    have hp := ipb hc37 hp
    refine zz 17 ?_
    refine zr' (v := .int .i64 y35) ?_
    have hob := Option.some.inj hp
    subst hob
    exact ⟨C36.upd, _, rfl, rfl⟩
   have hp := iqb hc37 hp
   refine zz 6 ?_
   refine zs 71 (v := .int .i64 (IntKind.i64.wrap ((k28 : Int) + 1))) (v' := .int .i64 ((k28 : Int) + 1)) (vint (wi64 (wk0 k28) (wk1 ht29 hb28))) ?_
   refine zz 2 ?_
   have hc5_ := (Le3 B28 B32 B33).trans B36
   refine znext (fun a h => H28 (k28 + 1) _ a h ⟨_, C36.tail, hc5_, hp⟩ ?_)
   exact mu_lt ht29
  rw [List.drop_eq_nil_of_le (nlt_of_int ht29), mdp_Check_l28] at hp
  refine zz 6 ?_
  exact znext (fun a h => H24 () _ a h ⟨_, C28, B28, hp⟩)
 rw [List.drop_eq_nil_of_le (nlt_of_int ht22), mdp_Check_l21] at hp
 refine zz 5 ?_
 exact znext (fun a h => H20 () _ a h ⟨_, C21, B21, hp⟩)
noncomputable def clearwaylaw24_Large_p (p0 : ModelD) : Option (Bool) :=
  (some (IntKind.i64.wrap ((IntKind.i64.wrap ((p0.height.length : Int) * (p0.own.length : Int))) * (p0.other.length : Int)))).bind fun z4 => (clearwaylaw24_Long_p p0).bind fun y6 => if y6 = true then (some true) else (if (IntKind.i64.wrap ((z4) * (p0.advisories.length : Int))) > 48 then (if (IntKind.i64.wrap ((z4) * (p0.advisories.length : Int))) ≤ 200 then (some true) else ((some (decide ((IntKind.i64.wrap ((p0.ownNoise.length : Int) * (p0.otherNoise.length : Int))) > 9))).bind fun z11 => some z11)) else ((some (decide ((IntKind.i64.wrap ((p0.ownNoise.length : Int) * (p0.otherNoise.length : Int))) > 9))).bind fun z12 => some z12))
theorem clearwaylaw24_Large_c (w : World) (X : Hid) (hX : ∀ k o, X k o → k < w.heap.size) (p0 : ModelD) (vp0 : Value) (hp0 : ModelDV (rd w X) vp0 p0) (y : Bool) (hp : clearwaylaw24_Large_p p0 = some y) : Calls Tryz.prog 28 #[vp0] w (Ret E0 w fun _ v => v = .bool y) := by
 have hVp0 := hp0
 refine ModelDV.op hp0 fun p0a1 p0a2 p0a3 p0a4 p0a5 p0a6 p0a7 p0a8 p0a9 p0a10 p0a11 p0a12 p0a13 p0a14 p0a15 p0a16 p0a17 p0a18 p0a19 p0a20 p0a21 p0a22 p0a23 p0a24 hv9 p0a_h0 p0a_h1 p0a_h2 p0a_h3 p0a_h4 p0a_h5 p0a_h6 p0a_h7 p0a_h8 p0a_h9 p0a_h10 p0a_h11 => ?_
 subst hv9
 unfold clearwaylaw24_Large_p at hp
 refine zen Tryz.func28 ?_
 have C0 : St E0 w X w X [] := St.start hX
 refine zz 2 ?_
 refine zn pn (.cells #[.slice p0a1 p0.height.length p0a2, .slice p0a3 p0.own.length p0a4, .slice p0a5 p0.other.length p0a6, .slice p0a7 p0.advisories.length p0a8, .int .i64 p0.pull, .int .i64 p0.near, .int .i64 p0.steps, .slice p0a9 p0.ownNoise.length p0a10, .slice p0a11 p0.otherNoise.length p0a12, .bool p0.alert.neg, .slice p0a13 p0.alert.ln.length p0a14, .slice p0a15 p0.alert.ld.length p0a16, .bool p0.strengthen.neg, .slice p0a17 p0.strengthen.ln.length p0a18, .slice p0a19 p0.strengthen.ld.length p0a20, .bool p0.reversal.neg, .slice p0a21 p0.reversal.ln.length p0a22, .slice p0a23 p0.reversal.ld.length p0a24] 30 (0, 0)) C0 ?_
 intro b3 w3 Y3 C3 B3 hu3
 refine zz 6 ?_
 refine zo 0 C3 ?_
 refine zz 2 ?_
 refine zo 0 C3 ?_
 refine zz 3 ?_
 refine zo 0 C3 ?_
 refine bndk hp fun z4 hz4 hp => ?_
 refine zz 2 ?_
 refine zs 14 (v := .int .i64 (IntKind.i64.wrap ((IntKind.i64.wrap ((p0.height.length : Int) * (p0.own.length : Int))) * (p0.other.length : Int)))) (v' := .int .i64 z4) (vint (Option.some.inj hz4)) ?_
 refine zz 1 ?_
 refine zo 0 C3 ?_
 refine zz 7 ?_
 refine zo 0 C3 ?_
 refine bndk hp fun y6 hy6 hp => ?_
 refine zc C3 (clearwaylaw24_Long_c _ X0 (X0_lt _) p0 _ ((hVp0.mono B3).mono Le.x0) y6 hy6) ?_
 rintro v7 w7 C7 B7 hu7 rfl
 refine zz 1 ?_
 refine zb 21 (b := y6) (fun hc8 => ?_) (fun hc8 => ?_)
 ·
  have hp := ipb hc8 hp
  refine zz 21 ?_
  refine zr' (v := .bool true) ?_
  have hob := Option.some.inj hp
  subst hob
  exact ⟨C7.upd, _, rfl, rfl⟩
 have hp := iqb hc8 hp
 refine zz 3 ?_
 refine zt 24 (p := (IntKind.i64.wrap ((z4) * (p0.advisories.length : Int))) > 48) (fun ht9 => ?_) (fun ht9 => ?_)
 ·
  have hp := ip ht9 hp
  refine zz 5 ?_
  refine zt 29 (p := (IntKind.i64.wrap ((z4) * (p0.advisories.length : Int))) ≤ 200) (fun ht10 => ?_) (fun ht10 => ?_)
  ·
   have hp := ip ht10 hp
   refine zz 13 ?_
   refine zr' (v := .bool true) ?_
   have hob := Option.some.inj hp
   subst hob
   exact ⟨C7.upd, _, rfl, rfl⟩
  have hp := iq ht10 hp
  refine zz 1 ?_
  refine zo 0 C7 ?_
  refine zz 2 ?_
  refine zo 0 C7 ?_
  refine bndk hp fun z11 hz11 hp => ?_
  refine zz 3 ?_
  refine zs 37 (v := .bool (decide ((IntKind.i64.wrap ((p0.ownNoise.length : Int) * (p0.otherNoise.length : Int))) > 9))) (v' := .bool z11) (zJ (Option.some.inj hz11)) ?_
  refine zz 5 ?_
  refine zr' (v := .bool z11) ?_
  have hob := Option.some.inj hp
  subst hob
  exact ⟨C7.upd, _, rfl, rfl⟩
 have hp := iq ht9 hp
 refine zz 6 ?_
 refine zo 0 C7 ?_
 refine zz 2 ?_
 refine zo 0 C7 ?_
 refine bndk hp fun z12 hz12 hp => ?_
 refine zz 3 ?_
 refine zs 37 (v := .bool (decide ((IntKind.i64.wrap ((p0.ownNoise.length : Int) * (p0.otherNoise.length : Int))) > 9))) (v' := .bool z12) (zJ (Option.some.inj hz12)) ?_
 refine zz 5 ?_
 refine zr' (v := .bool z12) ?_
 have hob := Option.some.inj hp
 subst hob
 exact ⟨C7.upd, _, rfl, rfl⟩
noncomputable def clearwaylaw24_DynamicsValid_l96 (p0 : ModelD) (y19 : Mdp × Int) (J48 : Option (Bool)) : Nat → Nat → Option (Bool)
  | 0, k96 => J48
  | r96 + 1, k96 => (ix y19.1.states (k96 : Int)).bind fun x98 => if ((x98.length : Int) != (p0.advisories.length : Int)) = true then (some false) else (clearwaylaw24_DynamicsValid_l96 p0 y19 J48 r96 (k96 + 1))
noncomputable def clearwaylaw24_DynamicsValid_p (p0 : ModelD) (p1 : Int) (p2 : Int) : Option (Bool) :=
  (clearwaylaw24_Large_p p0).bind fun y5 => if y5 = true then ((clearwaylaw24_awake_p).bind fun y9 => some y9) else ((clearwaylaw24_awake_p).bind fun y12 => if (!y12) = true then ((clearwaylaw24_awake_p).bind fun y16 => some y16) else ((dynamics_Build_p p0).bind fun y19 => if ((y19.2) != 0) = true then ((clearwaykit_EqualMDP_p y19.1 (Mdp.mk Raw.zero ([] : List (List Actn)))).bind fun y26 => some y26) else ((dynamics_Size_p p0).bind fun y29 => (mdp_Check_p y19.1).bind fun y32 => if ((y32) != 0) = true then (some false) else (if ((y29.2) != 0) = true then (some false) else (if ((y19.1.states.length : Int) != y29.1) = true then (some false) else ((rat_From_p (1 : Int)).bind fun y41 => (clearwaykit_EqualRat_p y19.1.disc y41).bind fun y44 => if (!y44) = true then (some false) else (lt ((dynamics_Split_p p0 (p1)).bind fun y50 => if ((y50.2.2) != 0) = true then (some true) else (if (p2) < 0 then (some true) else (if (p2) ≥ (p0.advisories.length : Int) then (some true) else ((interp_Point_p ([p0.height, p0.own, p0.other]) (y50.1)).bind fun y58 => if ((y58.2) != 0) = true then (some false) else (if ((y58.1.length : Int) != 3) = true then (some false) else ((ix y58.1 (0 : Int)).bind fun x62 => (ix y58.1 (1 : Int)).bind fun x64 => (ix y58.1 (2 : Int)).bind fun x66 => (dynamics_Spread_p p0 (x62) (x64) (x66) (p2)).bind fun y69 => (dynamics_Cost_p p0 (y50.2.1) (p2)).bind fun y73 => if ((y69.2) == 0) = true then (if ((y73.2) == 0) = true then ((ix y19.1.states (p1)).bind fun x80 => (ix x80 (p2)).bind fun x82 => (clearwaykit_EqualOutcomes_p x82.next y69.1).bind fun y85 => if y85 = true then ((clearwaykit_EqualRat_p x82.cost y73.1).bind fun y89 => some y89) else (some false)) else (some false)) else (some false))))))) fun J48 => clearwaylaw24_DynamicsValid_l96 p0 y19 J48 ((y29.1).toNat - 0) 0)))))))
theorem clearwaylaw24_DynamicsValid_c (w : World) (X : Hid) (hX : ∀ k o, X k o → k < w.heap.size) (p0 : ModelD) (vp0 : Value) (hp0 : ModelDV (rd w X) vp0 p0) (p1 : Int) (p2 : Int) (y : Bool) (hp : clearwaylaw24_DynamicsValid_p p0 p1 p2 = some y) : Calls Tryz.prog 5 #[vp0, .int .i64 p1, .int .i64 p2] w (Ret E0 w fun _ v => v = .bool y) := by
 have hVp0 := hp0
 refine ModelDV.op hp0 fun p0a1 p0a2 p0a3 p0a4 p0a5 p0a6 p0a7 p0a8 p0a9 p0a10 p0a11 p0a12 p0a13 p0a14 p0a15 p0a16 p0a17 p0a18 p0a19 p0a20 p0a21 p0a22 p0a23 p0a24 hv9 p0a_h0 p0a_h1 p0a_h2 p0a_h3 p0a_h4 p0a_h5 p0a_h6 p0a_h7 p0a_h8 p0a_h9 p0a_h10 p0a_h11 => ?_
 subst hv9
 unfold clearwaylaw24_DynamicsValid_p at hp
 refine zen Tryz.func5 ?_
 have C0 : St E0 w X w X [] := St.start hX
 refine zz 2 ?_
 refine zn pn (.cells #[.slice p0a1 p0.height.length p0a2, .slice p0a3 p0.own.length p0a4, .slice p0a5 p0.other.length p0a6, .slice p0a7 p0.advisories.length p0a8, .int .i64 p0.pull, .int .i64 p0.near, .int .i64 p0.steps, .slice p0a9 p0.ownNoise.length p0a10, .slice p0a11 p0.otherNoise.length p0a12, .bool p0.alert.neg, .slice p0a13 p0.alert.ln.length p0a14, .slice p0a15 p0.alert.ld.length p0a16, .bool p0.strengthen.neg, .slice p0a17 p0.strengthen.ln.length p0a18, .slice p0a19 p0.strengthen.ld.length p0a20, .bool p0.reversal.neg, .slice p0a21 p0.reversal.ln.length p0a22, .slice p0a23 p0.reversal.ld.length p0a24] 30 (0, 0)) C0 ?_
 intro b3 w3 Y3 C3 B3 hu3
 refine zz 6 ?_
 refine zo 0 C3 ?_
 refine bndk hp fun y5 hy5 hp => ?_
 refine zc C3 (clearwaylaw24_Large_c _ X0 (X0_lt _) p0 _ ((hVp0.mono B3).mono Le.x0) y5 hy5) ?_
 rintro v6 w6 C6 B6 hu6 rfl
 refine zz 1 ?_
 refine zb 23 (b := y5) (fun hc7 => ?_) (fun hc7 => ?_)
 ·
  have hp := ipb hc7 hp
  refine zz 8 ?_
  refine bndk hp fun y9 hy9 hp => ?_
  refine zc C6 (clearwaylaw24_awake_c _ X0 (X0_lt _)  y9 hy9) ?_
  rintro v10 w10 C10 B10 hu10 rfl
  refine zz 5 ?_
  refine zr' (v := .bool y9) ?_
  have hob := Option.some.inj hp
  subst hob
  exact ⟨C10.upd, _, rfl, rfl⟩
 have hp := iqb hc7 hp
 refine bndk hp fun y12 hy12 hp => ?_
 refine zc C6 (clearwaylaw24_awake_c _ X0 (X0_lt _)  y12 hy12) ?_
 rintro v13 w13 C13 B13 hu13 rfl
 refine zz 4 ?_
 refine zb 26 (b := !y12) (fun hc14 => ?_) (fun hc14 => ?_)
 ·
  have hp := ipb hc14 hp
  refine zz 3 ?_
  refine bndk hp fun y16 hy16 hp => ?_
  refine zc C13 (clearwaylaw24_awake_c _ X0 (X0_lt _)  y16 hy16) ?_
  rintro v17 w17 C17 B17 hu17 rfl
  refine zz 5 ?_
  refine zr' (v := .bool y16) ?_
  have hob := Option.some.inj hp
  subst hob
  exact ⟨C17.upd, _, rfl, rfl⟩
 have hp := iqb hc14 hp
 refine zz 5 ?_
 refine zo 0 C13 ?_
 refine bndk hp fun y19 hy19 hp => ?_
 refine zc C13 (dynamics_Build_c _ X0 (X0_lt _) p0 _ ((hVp0.mono (Le3 B3 B6 B13)).mono Le.x0) y19 hy19) ?_
 rintro v20 w20 C20 B20 hu20 ⟨uu20_0, rfl, u20_0_o⟩
 refine MdpV.op u20_0_o fun u20_0_1 u20_0_2 u20_0_3 u20_0_4 u20_0_5 u20_0_6 u20_0_7 u20_0_8 u20_0_9 hv9 u20_0__h0 u20_0__h1 u20_0__h2 => ?_
 subst hv9
 have hob := u20_0__h0.hlen
 subst hob
 have hob := u20_0__h1.hlen
 subst hob
 have hob := u20_0__h2.hlen
 subst hob
 refine zz 3 ?_
 refine zn pn (.cells #[.bool false, .slice none 0 0, .slice none 0 0, .slice none 0 0] 57 (0, 0)) C20 ?_
 intro b22 w22 Y22 C22 B22 hu22
 refine zx 0 #[.bool y19.1.disc.neg, .slice u20_0_1 y19.1.disc.ln.length u20_0_3, .slice u20_0_4 y19.1.disc.ld.length u20_0_6, .slice u20_0_7 y19.1.states.length u20_0_9] C22 ?_
 intro w23 C23 B23
 refine zz 10 ?_
 refine zb 34 (b := ((y19.2) != 0)) (fun hc24 => ?_) (fun hc24 => ?_)
 ·
  have hp := ipb hc24 hp
  refine zz 3 ?_
  refine zo 0 C23 ?_
  refine zz 1 ?_
  refine bndk hp fun y26 hy26 hp => ?_
  refine zc C23 (clearwaykit_EqualMDP_c _ X0 (X0_lt _) y19.1 _ ⟨_, _, _, _, _, _, _, _, _, rfl, (((u20_0__h0.mono (Le.new C13.lt)).mono (Le2 B22 B23)).mono Le.x0), (((u20_0__h1.mono (Le.new C13.lt)).mono (Le2 B22 B23)).mono Le.x0), (((u20_0__h2.mono (Le.new C13.lt)).mono (Le2 B22 B23)).mono Le.x0)⟩ (Mdp.mk Raw.zero ([] : List (List Actn))) _ ⟨_, _, _, _, _, _, _, _, _, rfl, Limbs.nil0, Limbs.nil0, (show StatesR _ none 0 0 [] from SlR.nil none (by decide))⟩ y26 hy26) ?_ (vs := #[.agg #[.bool y19.1.disc.neg, .slice u20_0_1 y19.1.disc.ln.length u20_0_3, .slice u20_0_4 y19.1.disc.ld.length u20_0_6, .slice u20_0_7 y19.1.states.length u20_0_9], .agg #[.bool false, .slice none 0 0, .slice none 0 0, .slice none 0 0]])
  rintro v27 w27 C27 B27 hu27 rfl
  refine zz 5 ?_
  refine zr' (v := .bool y26) ?_
  have hob := Option.some.inj hp
  subst hob
  exact ⟨C27.upd, _, rfl, rfl⟩
 have hp := iqb hc24 hp
 refine zz 5 ?_
 refine zo 1 C23 ?_
 have hc1_ := (Le5 B3 B6 B13 B20 B22).trans B23
 refine bndk hp fun y29 hy29 hp => ?_
 refine zc C23 (dynamics_Size_c _ X0 (X0_lt _) p0 _ ((hVp0.mono hc1_).mono Le.x0) y29 hy29) ?_
 rintro v30 w30 C30 B30 hu30 rfl
 refine zz 9 ?_
 refine zdr C30 ?_
 refine gw 0 0 ?_
 have hc2_ := (Le2 B22 B23).trans B30
 refine bndk hp fun y32 hy32 hp => ?_
 refine gC 1 (fun w31 Y31 _ C31 B31 => (mdp_Check_c _ X0 (X0_lt _) y19.1 _ ⟨_, _, _, _, _, _, _, _, _, rfl, (((u20_0__h0.mono (Le.new C13.lt)).mono (hc2_.trans B31)).mono Le.x0), (((u20_0__h1.mono (Le.new C13.lt)).mono (hc2_.trans B31)).mono Le.x0), (((u20_0__h2.mono (Le.new C13.lt)).mono (hc2_.trans B31)).mono Le.x0)⟩ y32 hy32)) ?_
 rintro v33 w31 Y33 w33 C31 B33 rfl
 refine gz [2, 3] ?_
 refine gb 46 (b := ((y32) != 0)) (fun hc34 => ?_) (fun hc34 => ?_)
 ·
  have hp := ipb hc34 hp
  refine gz [4, 5, 6, 7, 8, 9, 10, 11, 12, 13, 14, 15, 16, 17, 18, 19, 20] ?_
  refine gend (fun w35 Y35 C35 B35 => ?_)
  refine zz 9 ?_
  refine zr' (v := .bool false) ?_
  have hob := Option.some.inj hp
  subst hob
  exact ⟨C35.upd, _, rfl, rfl⟩
 have hp := iqb hc34 hp
 refine gz [4, 5, 6, 7] ?_
 refine gb 50 (b := ((y29.2) != 0)) (fun hc36 => ?_) (fun hc36 => ?_)
 ·
  have hp := ipb hc36 hp
  refine gz [8, 9, 10, 11, 12, 13, 14, 15, 16, 17, 18, 19, 20] ?_
  refine gend (fun w37 Y37 C37 B37 => ?_)
  refine zz 9 ?_
  refine zr' (v := .bool false) ?_
  have hob := Option.some.inj hp
  subst hob
  exact ⟨C37.upd, _, rfl, rfl⟩
 have hp := iqb hc36 hp
 refine gz [8] ?_
 refine gw 9 0 ?_
 refine gz [10, 11, 12, 13, 14] ?_
 refine gb 57 (b := ((y19.1.states.length : Int) != y29.1)) (fun hc38 => ?_) (fun hc38 => ?_)
 ·
  have hp := ipb hc38 hp
  refine gz [15, 16, 17, 18, 19, 20] ?_
  refine gend (fun w39 Y39 C39 B39 => ?_)
  refine zz 9 ?_
  refine zr' (v := .bool false) ?_
  have hob := Option.some.inj hp
  subst hob
  exact ⟨C39.upd, _, rfl, rfl⟩
 have hp := iqb hc38 hp
 refine gz [15] ?_
 refine gw 16 0 ?_
 refine bndk hp fun y41 hy41 hp => ?_
 refine gC 17 (fun w40 Y40 _ C40 B40 => (rat_From_c _ X0 (X0_lt _) (1 : Int) y41 hy41)) ?_
 rintro v42 w40 Y42 w42 C40 B42 ⟨u42_0_1, u42_0_2, u42_0_3, u42_0_4, u42_0_5, u42_0_6, rfl, u42_0__h0, u42_0__h1⟩
 have hob := u42_0__h0.hlen
 subst hob
 have hob := u42_0__h1.hlen
 subst hob
 have hc3_ := (hc2_.trans B33).trans B42
 refine bndk hp fun y44 hy44 hp => ?_
 refine gC 18 (fun w43 Y43 _ C43 B43 => (clearwaykit_EqualRat_c _ X0 (X0_lt _) y19.1.disc _ ⟨_, _, _, _, _, _, rfl, (((u20_0__h0.mono (Le.new C13.lt)).mono (hc3_.trans B43)).mono Le.x0), (((u20_0__h1.mono (Le.new C13.lt)).mono (hc3_.trans B43)).mono Le.x0)⟩ y41 _ ⟨_, _, _, _, _, _, rfl, (((u42_0__h0.mono (Le.new C40.lt)).mono B43).mono Le.x0), (((u42_0__h1.mono (Le.new C40.lt)).mono B43).mono Le.x0)⟩ y44 hy44)) ?_
 rintro v45 w43 Y45 w45 C43 B45 rfl
 refine gz [19, 20] ?_
 refine gend (fun w46 Y46 C46 B46 => ?_)
 refine zz 1 ?_
 refine zb 63 (b := !y44) (fun hc47 => ?_) (fun hc47 => ?_)
 ·
  have hp := ipb hc47 hp
  refine zz 8 ?_
  refine zr' (v := .bool false) ?_
  have hob := Option.some.inj hp
  subst hob
  exact ⟨C46.upd, _, rfl, rfl⟩
 have hp := iqb hc47 hp
 refine zz 3 ?_
 have hob := ltd0 hp
 obtain ⟨J48, hJ48, hp⟩ := hob
 refine zjoin (fun (_ : Unit) => [(1, .int .i64 p1), (2, .int .i64 p2), (3, .pointer (some ⟨b3, 0, none⟩)), (7, .pointer (some ⟨b22, 0, none⟩))]) (fun (_ : Unit) w1 => ∃ Y1 : Hid, St E0 w X w1 Y1 [(b22, .cells #[.bool y19.1.disc.neg, .slice u20_0_1 y19.1.disc.ln.length u20_0_3, .slice u20_0_4 y19.1.disc.ld.length u20_0_6, .slice u20_0_7 y19.1.states.length u20_0_9] 57 (0, 0)), (b3, .cells #[.slice p0a1 p0.height.length p0a2, .slice p0a3 p0.own.length p0a4, .slice p0a5 p0.other.length p0a6, .slice p0a7 p0.advisories.length p0a8, .int .i64 p0.pull, .int .i64 p0.near, .int .i64 p0.steps, .slice p0a9 p0.ownNoise.length p0a10, .slice p0a11 p0.otherNoise.length p0a12, .bool p0.alert.neg, .slice p0a13 p0.alert.ln.length p0a14, .slice p0a15 p0.alert.ld.length p0a16, .bool p0.strengthen.neg, .slice p0a17 p0.strengthen.ln.length p0a18, .slice p0a19 p0.strengthen.ld.length p0a20, .bool p0.reversal.neg, .slice p0a21 p0.reversal.ln.length p0a22, .slice p0a23 p0.reversal.ld.length p0a24] 30 (0, 0))] ∧ Le (rd w46 Y46) (rd w1 Y1) ∧ J48 = some y) ?_ ?_
 ·
  rintro _ w48 ⟨Y48, C48, B48, hp⟩
  have hp := hJ48.symm.trans hp
  refine zz 2 ?_
  refine zo 1 C48 ?_
  refine zz 1 ?_
  have hc4_ := (((((hc1_.trans B30).trans B33).trans B42).trans B45).trans B46).trans B48
  refine bndk hp fun y50 hy50 hp => ?_
  refine zc C48 (dynamics_Split_c _ X0 (X0_lt _) p0 _ ((hVp0.mono hc4_).mono Le.x0) (p1) y50 hy50) ?_
  rintro v51 w51 C51 B51 hu51 rfl
  refine zz 15 ?_
  refine zb 88 (b := ((y50.2.2) != 0)) (fun hc52 => ?_) (fun hc52 => ?_)
  ·
   have hp := ipb hc52 hp
   refine zz 20 ?_
   refine zr' (v := .bool true) ?_
   have hob := Option.some.inj hp
   subst hob
   exact ⟨C51.upd, _, rfl, rfl⟩
  have hp := iqb hc52 hp
  refine zz 4 ?_
  refine zt 92 (p := (p2) < 0) (fun ht53 => ?_) (fun ht53 => ?_)
  ·
   have hp := ip ht53 hp
   refine zz 16 ?_
   refine zr' (v := .bool true) ?_
   have hob := Option.some.inj hp
   subst hob
   exact ⟨C51.upd, _, rfl, rfl⟩
  have hp := iq ht53 hp
  refine zz 2 ?_
  refine zo 1 C51 ?_
  refine zz 5 ?_
  refine zt 98 (p := (p2) ≥ (p0.advisories.length : Int)) (fun ht54 => ?_) (fun ht54 => ?_)
  ·
   have hp := ip ht54 hp
   refine zz 8 ?_
   refine zr' (v := .bool true) ?_
   have hob := Option.some.inj hp
   subst hob
   exact ⟨C51.upd, _, rfl, rfl⟩
  have hp := iq ht54 hp
  refine zz 6 ?_
  refine zo 1 C51 ?_
  refine zz 1 ?_
  refine zo 1 C51 ?_
  refine zz 1 ?_
  refine zo 1 C51 ?_
  refine zn (fun b => .slice (some ⟨b, 0, none⟩) 3 3) (.cells #[.slice p0a1 p0.height.length p0a2, .slice p0a3 p0.own.length p0a4, .slice p0a5 p0.other.length p0a6] 22 (0, 0)) C51 ?_
  intro b56 w56 Y56 C56 B56 hu56
  refine zz 1 ?_
  have hc5_ := (hc4_.trans B51).trans B56
  refine bndk hp fun y58 hy58 hp => ?_
  refine zc C56 (interp_Point_c _ X0 (X0_lt _) ([p0.height, p0.own, p0.other]) _ ⟨_, _, rfl, (SlR.lit (El := IntsAt) (size := 1) (n := 3) [⟨p0.height, [.slice p0a1 p0.height.length p0a2]⟩, ⟨p0.own, [.slice p0a3 p0.own.length p0a4]⟩, ⟨p0.other, [.slice p0a5 p0.other.length p0a6]⟩] (C56.at0 0 rfl rfl) (List.forall_mem_cons.2 ⟨⟨rfl, fun r2 h2 b o h9 => ⟨_, _, h9, (((p0a_h0.mono hc5_).mono Le.x0).mono h2)⟩⟩, (List.forall_mem_cons.2 ⟨⟨rfl, fun r2 h2 b o h9 => ⟨_, _, h9, (((p0a_h1.mono hc5_).mono Le.x0).mono h2)⟩⟩, (List.forall_mem_cons.2 ⟨⟨rfl, fun r2 h2 b o h9 => ⟨_, _, h9, (((p0a_h2.mono hc5_).mono Le.x0).mono h2)⟩⟩, (List.forall_mem_nil _)⟩)⟩)⟩) rfl (by decide))⟩ (y50.1) y58 hy58) ?_ (vs := #[.slice (some ⟨b56, 0, none⟩) 3 3, .int .i64 y50.1])
  rintro v59 w59 C59 B59 hu59 ⟨uu59_0, rfl, ⟨u59_0_1, u59_0_2, rfl, u59_0__h0⟩⟩
  refine zz 13 ?_
  refine zb 113 (b := ((y58.2) != 0)) (fun hc60 => ?_) (fun hc60 => ?_)
  ·
   have hp := ipb hc60 hp
   refine zz 14 ?_
   refine zr' (v := .bool false) ?_
   have hob := Option.some.inj hp
   subst hob
   exact ⟨C59.upd, _, rfl, rfl⟩
  have hp := iqb hc60 hp
  refine zz 6 ?_
  refine zb 117 (b := ((y58.1.length : Int) != 3)) (fun hc61 => ?_) (fun hc61 => ?_)
  ·
   have hp := ipb hc61 hp
   refine zz 8 ?_
   refine zr' (v := .bool false) ?_
   have hob := Option.some.inj hp
   subst hob
   exact ⟨C59.upd, _, rfl, rfl⟩
  have hp := iqb hc61 hp
  refine zz 4 ?_
  refine zdr C59 ?_
  refine gw 0 2 ?_
  refine bndk hp fun x62 hx62 hp => ?_
  have hob := ix_some hx62
  obtain ⟨hzx62, hqx62⟩ := hob
  have hwx62 : y58.1[0]? = some x62 := hqx62
  have hob := (u59_0__h0.mono (Le.new C56.lt)).opn hwx62
  obtain ⟨be63, oe63, rfl, B63, hEe63⟩ := hob
  have hAe63 : At (rd w59 Y56) ⟨be63, oe63 + 0 * 1, none⟩ [.int .i64 x62] := hEe63
  refine gz [1] ?_
  refine gi 2 (b := be63) (off := oe63) (len := y58.1.length) (cap := u59_0_2) (kd := .i64) (i := 0) 1 (oe63 + 0 * 1) ?_ (h0 := hzx62) (h1 := (ix_b hzx62 B63))
  refine gl 3 (hAe63) ?_
  refine bndk hp fun x64 hx64 hp => ?_
  have hob := ix_some hx64
  obtain ⟨hzx64, hqx64⟩ := hob
  have hwx64 : y58.1[1]? = some x64 := hqx64
  have hob := (u59_0__h0.mono (Le.new C56.lt)).opn2 hwx64
  obtain ⟨B65, hEe65⟩ := hob
  have hAe65 : At (rd w59 Y56) ⟨be63, oe63 + 1 * 1, none⟩ [.int .i64 x64] := hEe65
  refine gz [4] ?_
  refine gi 5 (b := be63) (off := oe63) (len := y58.1.length) (cap := u59_0_2) (kd := .i64) (i := 1) 1 (oe63 + 1 * 1) ?_ (h0 := hzx64) (h1 := (ix_b hzx64 B65))
  refine gl 6 (hAe65) ?_
  refine bndk hp fun x66 hx66 hp => ?_
  have hob := ix_some hx66
  obtain ⟨hzx66, hqx66⟩ := hob
  have hwx66 : y58.1[2]? = some x66 := hqx66
  have hob := (u59_0__h0.mono (Le.new C56.lt)).opn2 hwx66
  obtain ⟨B67, hEe67⟩ := hob
  have hAe67 : At (rd w59 Y56) ⟨be63, oe63 + 2 * 1, none⟩ [.int .i64 x66] := hEe67
  refine gz [7] ?_
  refine gi 8 (b := be63) (off := oe63) (len := y58.1.length) (cap := u59_0_2) (kd := .i64) (i := 2) 1 (oe63 + 2 * 1) ?_ (h0 := hzx66) (h1 := (ix_b hzx66 B67))
  refine gl 9 (hAe67) ?_
  refine gz [10] ?_
  have hc6_ := hc5_.trans B59
  refine bndk hp fun y69 hy69 hp => ?_
  refine gC 11 (fun w68 Y68 _ C68 B68 => (dynamics_Spread_c _ X0 (X0_lt _) p0 _ ((hVp0.mono (hc6_.trans B68)).mono Le.x0) (x62) (x64) (x66) (p2) y69 hy69)) ?_
  rintro v70 w68 Y70 w70 C68 B70 ⟨uu70_0, rfl, ⟨u70_0_1, u70_0_2, rfl, u70_0__h0⟩⟩
  refine gz [12, 13, 14, 15, 16] ?_
  refine gend (fun w71 Y71 C71 B71 => ?_)
  refine zz 3 ?_
  refine zo 2 C71 ?_
  refine zz 2 ?_
  have hc7_ := (hc6_.trans B70).trans B71
  refine bndk hp fun y73 hy73 hp => ?_
  refine zc C71 (dynamics_Cost_c _ X0 (X0_lt _) p0 _ ((hVp0.mono hc7_).mono Le.x0) (y50.2.1) (p2) y73 hy73) ?_
  rintro v74 w74 C74 B74 hu74 ⟨uu74_0, rfl, ⟨u74_0_1, u74_0_2, u74_0_3, u74_0_4, u74_0_5, u74_0_6, rfl, u74_0__h0, u74_0__h1⟩⟩
  have hob := u74_0__h0.hlen
  subst hob
  have hob := u74_0__h1.hlen
  subst hob
  refine zz 3 ?_
  refine zn pn (.cells #[.bool false, .slice none 0 0, .slice none 0 0] 28 (0, 0)) C74 ?_
  intro b76 w76 Y76 C76 B76 hu76
  refine zx 0 #[.bool y73.1.neg, .slice u74_0_1 y73.1.ln.length u74_0_3, .slice u74_0_4 y73.1.ld.length u74_0_6] C76 ?_
  intro w77 C77 B77
  refine zz 4 ?_
  refine zdr C77 ?_
  refine gz [0, 1, 2] ?_
  refine gb 142 (b := ((y69.2) == 0)) (fun hc78 => ?_) (fun hc78 => ?_)
  ·
   have hp := ipb hc78 hp
   refine gz [3, 4, 5, 6] ?_
   refine gb 146 (b := ((y73.2) == 0)) (fun hc79 => ?_) (fun hc79 => ?_)
   ·
    have hp := ipb hc79 hp
    refine gz [7] ?_
    refine gw 8 2 ?_
    refine bndk hp fun x80 hx80 hp => ?_
    have hob := ix_some hx80
    obtain ⟨hzx80, hqx80⟩ := hob
    have hob := (u20_0__h2.mono (Le.new C13.lt)).opn hqx80
    obtain ⟨be81, oe81, rfl, B81, hEe81⟩ := hob
    obtain ⟨e811, e812, e813, e81_at, e81_h0⟩ := hEe81
    have hob := e81_h0.hlen
    subst hob
    refine gz [9] ?_
    refine gi 10 (b := be81) (off := oe81) (len := y19.1.states.length) (cap := u20_0_9) (kd := .i64) (i := p1) 1 (oe81 + (p1).toNat * 1) ?_ (h0 := hzx80) (h1 := (ix_b hzx80 B81))
    have hc8_ := ((((((((((hc3_.trans B45).trans B46).trans B48).trans B51).trans B56).trans B59).trans B70).trans B71).trans B74).trans B76).trans B77
    refine gl 11 ((e81_at.mono hc8_)) ?_
    refine bndk hp fun x82 hx82 hp => ?_
    have hob := ix_some hx82
    obtain ⟨hzx82, hqx82⟩ := hob
    have hob := e81_h0.opn hqx82
    obtain ⟨be83, oe83, rfl, B83, hEe83⟩ := hob
    refine ActAt.op hEe83 fun e831 e832 e833 e834 e835 e836 e837 e838 e839 e83_at e83_h0 e83_h1 e83_h2 => ?_
    have hob := e83_h0.hlen
    subst hob
    have hob := e83_h1.hlen
    subst hob
    have hob := e83_h2.hlen
    subst hob
    refine gz [12] ?_
    refine gi 13 (b := be83) (off := oe83) (len := x80.length) (cap := e813) (kd := .i64) (i := p2) 4 (oe83 + (p2).toNat * 4) ?_ (h0 := hzx82) (h1 := (ix_b hzx82 B83))
    have hc9_ := ((((((((((hc3_.trans B45).trans B46).trans B48).trans B51).trans B56).trans B59).trans B70).trans B71).trans B74).trans B76).trans B77
    refine gz [14] ?_
    refine gl 15 ((e83_at.mono hc9_).sub 3 1) ?_
    refine gz [16] ?_
    have hc10_ := ((((((((((hc3_.trans B45).trans B46).trans B48).trans B51).trans B56).trans B59).trans B70).trans B71).trans B74).trans B76).trans B77
    have hc11_ := (Le3 B71 B74 B76).trans B77
    refine bndk hp fun y85 hy85 hp => ?_
    refine gC 17 (fun w84 Y84 _ C84 B84 => (clearwaykit_EqualOutcomes_c _ X0 (X0_lt _) x82.next _ ⟨_, _, rfl, ((e83_h2.mono (hc10_.trans B84)).mono Le.x0)⟩ y69.1 _ ⟨_, _, rfl, (((u70_0__h0.mono (Le.new C68.lt)).mono (hc11_.trans B84)).mono Le.x0)⟩ y85 hy85)) ?_
    rintro v86 w84 Y86 w86 C84 B86 rfl
    refine gz [18, 19] ?_
    refine gb 159 (b := y85) (fun hc87 => ?_) (fun hc87 => ?_)
    ·
     have hp := ipb hc87 hp
     refine gz [20] ?_
     refine gw 21 2 ?_
     refine gz [22] ?_
     refine gi 23 (b := be81) (off := oe81) (len := y19.1.states.length) (cap := u20_0_9) (kd := .i64) (i := p1) 1 (oe81 + (p1).toNat * 1) ?_ (h0 := hzx80) (h1 := (ix_b hzx80 B81))
     refine gl 24 ((e81_at.mono hc10_)) ?_
     refine gz [25] ?_
     refine gi 26 (b := be83) (off := oe83) (len := x80.length) (cap := e813) (kd := .i64) (i := p2) 4 (oe83 + (p2).toNat * 4) ?_ (h0 := hzx82) (h1 := (ix_b hzx82 B83))
     refine gz [27] ?_
     refine gl 28 ((e83_at.mono hc10_).sub 0 3) ?_
     refine gw 29 0 ?_
     have hc12_ := hc10_.trans B86
     have hc13_ := (Le2 B76 B77).trans B86
     refine bndk hp fun y89 hy89 hp => ?_
     refine gC 30 (fun w88 Y88 _ C88 B88 => (clearwaykit_EqualRat_c _ X0 (X0_lt _) x82.cost _ ⟨_, _, _, _, _, _, rfl, ((e83_h0.mono (hc12_.trans B88)).mono Le.x0), ((e83_h1.mono (hc12_.trans B88)).mono Le.x0)⟩ y73.1 _ ⟨_, _, _, _, _, _, rfl, (((u74_0__h0.mono (Le.new C71.lt)).mono (hc13_.trans B88)).mono Le.x0), (((u74_0__h1.mono (Le.new C71.lt)).mono (hc13_.trans B88)).mono Le.x0)⟩ y89 hy89)) ?_
     rintro v90 w88 Y90 w90 C88 B90 rfl
     refine gz [31, 32] ?_
     refine gend (fun w91 Y91 C91 B91 => ?_)
     refine zz 2 ?_
     refine zr' (v := .bool y89) ?_
     have hob := Option.some.inj hp
     subst hob
     exact ⟨C91.upd, _, rfl, rfl⟩
    have hp := iqb hc87 hp
    refine gz [20, 21, 22, 23, 24, 25, 26, 27, 28, 29, 30, 31, 32] ?_
    refine gend (fun w92 Y92 C92 B92 => ?_)
    refine zz 2 ?_
    refine zr' (v := .bool false) ?_
    have hob := Option.some.inj hp
    subst hob
    exact ⟨C92.upd, _, rfl, rfl⟩
   have hp := iqb hc79 hp
   refine gz [7, 8, 9, 10, 11, 12, 13, 14, 15, 16, 17, 18, 19, 20, 21, 22, 23, 24, 25, 26, 27, 28, 29, 30, 31, 32] ?_
   refine gend (fun w93 Y93 C93 B93 => ?_)
   refine zz 2 ?_
   refine zr' (v := .bool false) ?_
   have hob := Option.some.inj hp
   subst hob
   exact ⟨C93.upd, _, rfl, rfl⟩
  have hp := iqb hc78 hp
  refine gz [3, 4, 5, 6, 7, 8, 9, 10, 11, 12, 13, 14, 15, 16, 17, 18, 19, 20, 21, 22, 23, 24, 25, 26, 27, 28, 29, 30, 31, 32] ?_
  refine gend (fun w94 Y94 C94 B94 => ?_)
  refine zz 2 ?_
  refine zr' (v := .bool false) ?_
  have hob := Option.some.inj hp
  subst hob
  exact ⟨C94.upd, _, rfl, rfl⟩
 intro K95 H95
 refine zz 6 ?_
 have hb96 : (y29.1) ≤ 9223372036854775807 := by first | exact wrap_le _ | exact size_le (by assumption) | exact Size_le (by assumption) | omega
 refine zlp Tryz.f5 [K95] [1, 1, 1, 1, 1, 1, 9, 1, 0] (fun (k96 : Nat) => [(1, .int .i64 p1), (2, .int .i64 p2), (3, .pointer (some ⟨b3, 0, none⟩)), (7, .pointer (some ⟨b22, 0, none⟩)), (9, .int .i64 y29.1), (11, .int .i64 (k96 : Int))]) (fun (k96 : Nat) w1 => ∃ Y1 : Hid, St E0 w X w1 Y1 [(b22, .cells #[.bool y19.1.disc.neg, .slice u20_0_1 y19.1.disc.ln.length u20_0_3, .slice u20_0_4 y19.1.disc.ld.length u20_0_6, .slice u20_0_7 y19.1.states.length u20_0_9] 57 (0, 0)), (b3, .cells #[.slice p0a1 p0.height.length p0a2, .slice p0a3 p0.own.length p0a4, .slice p0a5 p0.other.length p0a6, .slice p0a7 p0.advisories.length p0a8, .int .i64 p0.pull, .int .i64 p0.near, .int .i64 p0.steps, .slice p0a9 p0.ownNoise.length p0a10, .slice p0a11 p0.otherNoise.length p0a12, .bool p0.alert.neg, .slice p0a13 p0.alert.ln.length p0a14, .slice p0a15 p0.alert.ld.length p0a16, .bool p0.strengthen.neg, .slice p0a17 p0.strengthen.ln.length p0a18, .slice p0a19 p0.strengthen.ld.length p0a20, .bool p0.reversal.neg, .slice p0a21 p0.reversal.ln.length p0a22, .slice p0a23 p0.reversal.ld.length p0a24] 30 (0, 0))] ∧ Le (rd w46 Y46) (rd w1 Y1) ∧ clearwaylaw24_DynamicsValid_l96 p0 y19 J48 ((y29.1).toNat - k96) k96 = some y) (fun (k96 : Nat) => (y29.1).toNat - k96) 0 ?_ ?_
 ·
  exact ⟨_, C46, Le.refl _, hp⟩
 rintro k96 w96 K96 H96 ⟨Y96, C96, B96, hp⟩
 refine zz 8 ?_
 refine zt 66 (p := (k96 : Int) < y29.1) (fun ht97 => ?_) (fun ht97 => ?_)
 ·
  have hob := cnt_ltI (N := (y29.1)) (k := k96) ht97
  obtain ⟨r96, hm96, hn96⟩ := hob
  rw [hm96, clearwaylaw24_DynamicsValid_l96] at hp
  refine zz 6 ?_
  refine zdr C96 ?_
  refine gz [0] ?_
  refine gw 1 0 ?_
  refine bndk hp fun x98 hx98 hp => ?_
  have hob := ix_some hx98
  obtain ⟨hzx98, hqx98⟩ := hob
  have hwx98 : y19.1.states[k96]? = some x98 := hqx98
  have hob := (u20_0__h2.mono (Le.new C13.lt)).opn hwx98
  obtain ⟨be99, oe99, rfl, B99, hEe99⟩ := hob
  obtain ⟨e991, e992, e993, e99_at, e99_h0⟩ := hEe99
  have hob := e99_h0.hlen
  subst hob
  refine gz [2] ?_
  refine gi 3 (b := be99) (off := oe99) (len := y19.1.states.length) (cap := u20_0_9) (kd := .i64) (i := (k96 : Int)) 1 (oe99 + k96 * 1) ?_ (h0 := hzx98) (h1 := (ix_b hzx98 B99))
  have hc14_ := ((hc3_.trans B45).trans B46).trans B96
  refine gl 4 ((e99_at.mono hc14_)) ?_
  refine gz [5, 6] ?_
  refine gw 7 1 ?_
  refine gz [8, 9] ?_
  refine gend (fun w100 Y100 C100 B100 => ?_)
  refine zz 1 ?_
  refine zb 78 (b := ((x98.length : Int) != (p0.advisories.length : Int))) (fun hc101 => ?_) (fun hc101 => ?_)
  ·
   have hp := ipb hc101 hp
   refine zz 12 ?_
   refine zr' (v := .bool false) ?_
   have hob := Option.some.inj hp
   subst hob
   exact ⟨C100.upd, _, rfl, rfl⟩
  have hp := iqb hc101 hp
  refine zz 7 ?_
  refine zs 68 (v := .int .i64 (IntKind.i64.wrap ((k96 : Int) + 1))) (v' := .int .i64 ((k96 : Int) + 1)) (vint (wi64 (wk0 k96) (wk1 ht97 hb96))) ?_
  refine zz 2 ?_
  refine znext (fun a h => H96 (k96 + 1) _ a h ⟨_, C100, (Le2 B96 B100), (by rw [hn96]; exact hp)⟩ ?_)
  exact mu_ltN ht97
 rw [cnt_end (N := (y29.1)) ht97, clearwaylaw24_DynamicsValid_l96] at hp
 refine zz 5 ?_
 exact znext (fun a h => H95 () _ a h ⟨_, C96, B96, hp⟩)
end Go.Proofs.YtjnbipmlmafahaaGreat
/- What spread answers is a distribution. By an AI agent. -/
namespace Go.Proofs.YtjnbipmlmafahaaGreat
open Go Go.Gv Go.RowKit
set_option maxRecDepth 100000
set_option maxHeartbeats 1000000
theorem mk_pos {n : Int} {d : Nat} (hn : 0 < n) (hd : 0 < d) : 0 < mkRat n d := by
  rw [mk_div, Rat.div_def]
  exact Rat.mul_pos (Rat.intCast_pos.2 hn) (Rat.inv_pos.2 (Rat.natCast_pos.2 hd))
theorem Nz1.gt {n : NoiseD} (h : Nz1 n) : 0 < n.p.rat := by
  have hc := (Raw.chk_ok h.sh.chk).2.2.1
  have hv : 0 < val n.p.ln := by
    rcases Nat.eq_zero_or_pos (val n.p.ln) with e | e
    · exact absurd (canon_zero hc e) h.ne
    · exact e
  unfold Raw.rat
  rw [h.pos]
  refine mk_pos ?_ (Raw.d_pos _)
  show (0 : Int) < sgn false (val n.p.ln)
  simp only [sgn, Bool.false_eq_true, if_false]
  omega
theorem of_gt {q : Rat} (h : 0 < q) : (Raw.of q).neg = false ∧ (Raw.of q).ln ≠ [] := by
  have h0 : 0 ≤ q.num := Rat.num_nonneg.2 (Rat.le_of_lt h)
  have h1 : q.num ≠ 0 := fun e => by
    rw [Rat.num_eq_zero.1 e] at h
    exact absurd h (by decide)
  have hn : 0 < q.num := Int.lt_iff_le_and_ne.2 ⟨h0, h1.symm⟩
  constructor
  · show decide (q.num < 0) = false
    exact decide_eq_false (Int.not_lt.2 h0)
  · intro e
    have e2 := congrArg val e
    rw [show (Raw.of q).ln = nlimbs q.num.natAbs from rfl, val_nlimbs, show val [] = 0 from rfl] at e2
    exact h1 (Int.natAbs_eq_zero.1 e2)
theorem ShSpec.gt {l : List Int} {c : Int} {S : List (Nat × Rat)} (hs : ShSpec l c S) : ∀ s ∈ S, 0 < s.2 := by
  rcases hs with ⟨k, _, rfl⟩ | ⟨k, a, b, _, _, h3, h4, rfl⟩
  · intro s h
    rw [List.mem_singleton.1 h]
    show (0 : Rat) < 1
    decide
  · intro s h
    rcases List.mem_cons.1 h with rfl | h
    · exact mk_pos (by omega) (by omega)
    · rw [List.mem_singleton.1 h]; exact mk_pos (by omega) (by omega)
theorem wstep_gt {len : Nat} {W S : List (Nat × Rat)} (hw : ∀ p ∈ W, 0 < p.2) (hs : ∀ s ∈ S, 0 < s.2) : ∀ q ∈ wstep len W S, 0 < q.2 := by
  intro q hq
  obtain ⟨p, hp, hq⟩ := List.mem_flatMap.1 hq
  obtain ⟨s, h1, rfl⟩ := List.mem_map.1 hq
  exact Rat.mul_pos (hw p hp) (hs s h1)
theorem sumAt_nonneg (k : Int) : ∀ T : List (Int × Rat), (∀ t ∈ T, 0 < t.2) → 0 ≤ sumAt k T
  | [], _ => by show (0 : Rat) ≤ 0; decide
  | t :: T, h => by
    have ih := sumAt_nonneg k T fun s hs => h s (by simp [hs])
    have ht := h t (by simp)
    rw [sumAt]
    split
    · exact Rat.add_nonneg (Rat.le_of_lt ht) ih
    · rw [Rat.zero_add]; exact ih
theorem sumAt_gt (k : Int) : ∀ T : List (Int × Rat), (∀ t ∈ T, 0 < t.2) → k ∈ T.map Prod.fst → 0 < sumAt k T
  | t :: T, h, hk => by
    have ht := h t (by simp)
    have hT : ∀ s ∈ T, 0 < s.2 := fun s hs => h s (by simp [hs])
    rw [sumAt]
    by_cases e : t.1 = k
    · rw [if_pos e]
      have h1 := sumAt_nonneg k T hT
      have h2 : t.2 + 0 ≤ t.2 + sumAt k T := Rat.add_le_add_left.2 h1
      rw [Rat.add_zero] at h2
      exact Rat.not_le.1 fun h0 => Rat.not_le.2 ht (Rat.le_trans h2 h0)
    · rw [if_neg e, Rat.zero_add]
      refine sumAt_gt k T hT ?_
      rw [List.map_cons] at hk
      exact (List.mem_cons.1 hk).resolve_left fun e' => e e'.symm
section
variable {x : ModelD} {h u v b r : Int}
theorem terms_gt (E : Env x h u v b r) (f : Full x) : ∀ t ∈ termsT x h u v b r, 0 < t.2 := by
  intro t ht
  obtain ⟨n, hn, ht⟩ := List.mem_flatMap.1 ht
  obtain ⟨o, ho, ht⟩ := List.mem_flatMap.1 ht
  obtain ⟨w, hw, rfl⟩ := List.mem_map.1 ht
  obtain ⟨Sa, Sb, Sc, h1, h2, h3, e⟩ := (Wf_spec E.h1 E.h2 E.h3 E.ck (h + v - u) (r + n.delta) (v + o.delta)).1
  rw [e] at hw
  refine Rat.mul_pos (Rat.mul_pos (f.no.el n hn).gt (f.nt.el o ho).gt) ?_
  exact wstep_gt (wstep_gt (wstep_gt (W := [((0 : Nat), (1 : Rat))]) (fun p hp => by rw [List.mem_singleton.1 hp]; show (0 : Rat) < 1; decide) h1.gt) h2.gt) h3.gt w hw
theorem prob_gt (E : Env x h u v b r) (f : Full x) {o : Out} (ho : o ∈ outs x h u v b r) : 0 < prob x h u v b r o := by
  obtain ⟨k, hk, rfl⟩ := List.mem_map.1 ho
  have hk := (sums_keys.2 k).1 ((sortZ_perm _).mem_iff.1 hk)
  unfold prob
  rw [sums_get]
  exact sumAt_gt _ _ (terms_gt E f) hk
theorem outs_asc : (outs x h u v b r).Pairwise fun a c => a.to < c.to := by
  unfold outs
  rw [List.pairwise_map]
  have h1 := sortZ_sorted ((sums x h u v b r).map Prod.fst)
  have h2 : (sortZ ((sums x h u v b r).map Prod.fst)).Nodup := (sortZ_perm _).nodup_iff.2 sums_keys.1
  exact (h1.and h2).imp fun hab => Int.lt_iff_le_and_ne.2 hab
theorem outs_le (s : SpOK x h u v b r) : (outs x h u v b r).length ≤ 64 := by
  have := s.hs
  unfold outs
  rw [List.length_map, (sortZ_perm _).length_eq, List.length_map]
  exact this
theorem outs_one (hl : LimM x) (s : SpOK x h u v b r) : osum x h u v b r (fun _ => 1) (outs x h u v b r) = 1 := by
  have E := s.f.env hl s.hh s.hu s.hv s.hb s.hr
  exact (osum_mean _ _ fgkc).trans (terms_mean E s.f.no.sum s.f.nt.sum).1
theorem outs_ne (hl : LimM x) (s : SpOK x h u v b r) : outs x h u v b r ≠ [] := fun e => by
  have := outs_one hl s
  rw [e] at this
  exact absurd (show (0 : Rat) = 1 from this) (by decide)
theorem outs_rng (hl : LimM x) (s : SpOK x h u v b r) {o : Out} (ho : o ∈ outs x h u v b r) : 0 ≤ o.to ∧ o.to < ((nV x * x.advisories.length : Nat) : Int) := by
  have E := s.f.env hl s.hh s.hu s.hv s.hb s.hr
  obtain ⟨w, hw, hto⟩ := outs_key E ho
  have hb := s.hb
  rw [hto]
  unfold keyZ
  have : (w + 1) * x.advisories.length ≤ nV x * x.advisories.length := Nat.mul_le_mul_right _ (by omega)
  rw [Nat.succ_mul] at this
  omega
/-- The sum of the first ones fits. -/
theorem osum_step (hl : LimM x) (s : SpOK x h u v b r) {q l : List Out} {o : Out} (e : outs x h u v b r = q ++ o :: l) : rat_Add_p (Raw.of (osum x h u v b r (fun _ => 1) q)) o.p = some (Raw.of (osum x h u v b r (fun _ => 1) (q ++ [o])), 0) := by
  have E := s.f.env hl s.hh s.hu s.hv s.hb s.hr
  have ho : o ∈ outs x h u v b r := by rw [e]; simp
  have h6 := outs_le s
  rw [e] at h6
  simp at h6
  have f1 := osum_fit E (fun _ => 1) (q := q) (by omega) fun _ _ => by show (1 : Int).natAbs ≤ 50000; decide
  have f2 := osum_fit E (fun _ => 1) (q := q ++ [o]) (by simp; omega) fun _ _ => by show (1 : Int).natAbs ≤ 50000; decide
  have e2 : osum x h u v b r (fun _ => 1) (q ++ [o]) = osum x h u v b r (fun _ => 1) q + prob x h u v b r o := by
    rw [osum_snoc]
    congr 1
    show prob x h u v b r o * ((1 : Int) : Rat) = _
    exact Rat.mul_one _
  rw [e2] at f2 ⊢
  rw [outs_p ho]
  exact add_fit f1 (prob_fit E o) f2
end
end Go.Proofs.YtjnbipmlmafahaaGreat

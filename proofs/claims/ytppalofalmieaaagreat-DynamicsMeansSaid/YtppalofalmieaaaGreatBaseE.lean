/- Parts of the proof: P1 P2 P3 Q1 Q2 Q3 Q4 P4 P5 P7 HxF A11 P8. By an AI agent. -/
import Derived.OrdersIn
import Derived.LoopNIn
import Derived.Test.YtppalofalmieaaaGreatBaseA
import Derived.Test.YtppalofalmieaaaGreatBaseB
import Derived.Test.YtppalofalmieaaaGreatBaseC
import Derived.Test.YtppalofalmieaaaGreatBaseD
set_option linter.unusedVariables false
set_option linter.unusedSimpArgs false
set_option linter.unnecessarySimpa false
/- The chapter's example: awake. By an AI agent. -/
namespace Go.Proofs.YtppalofalmieaaaGreat
open Go Go.Gv Go.RowKit
set_option maxRecDepth 100000
set_option maxHeartbeats 1000000
theorem awake_p : clearwaylaw24_awake_p = some true := by kernel_rfl
end Go.Proofs.YtppalofalmieaaaGreat
/- What Check answers, in plain words. By an AI agent. -/
namespace Go.Proofs.YtppalofalmieaaaGreat
open Go Go.Gv Go.RowKit
set_option maxRecDepth 100000
set_option maxHeartbeats 1000000
theorem bnds {α β : Type} {o : Option α} {a : α} {f : α → Option β} (h : o = some a) : o.bind f = f a := by subst h; rfl
/-- The first answers; where it answers 0 the second does too. -/
def Z0 (o J : Option Int) : Prop := ∃ e, o = some e ∧ (e = 0 → J = some 0)
theorem Z0.self {J : Option Int} (h : ∃ e, J = some e) : Z0 J J := h.elim fun e he => ⟨e, he, fun h => h ▸ he⟩
theorem Z0.nz {e : Int} {J : Option Int} (h : e ≠ 0) : Z0 (some e) J := ⟨e, rfl, fun h' => absurd h' h⟩
theorem Z0.trans {o J K : Option Int} (h : Z0 o J) (k : Z0 J K) : Z0 o K := by
  obtain ⟨e, h1, h2⟩ := h
  obtain ⟨f, k1, k2⟩ := k
  exact ⟨e, h1, fun h => k2 (by have := h2 h; rw [k1] at this; exact Option.some.inj this)⟩
theorem grdT {p : Prop} [Decidable p] {α : Type} {x : Option α} (h : p) : grd p x = x := if_pos h
theorem ixT {α : Type} {l : List α} {i : Int} {k : Nat} {x : α} (hi : i = (k : Int)) (h : l[k]? = some x) : ix l i = some x := by
  subst hi
  unfold ix
  rw [if_pos (Int.natCast_nonneg k)]
  simpa using h
theorem has1 (z : Int) (s : SpanD) : dynamics_span_has_1_p z s = some (decide (z < s.lo) || decide (z > s.hi)) := by
  unfold dynamics_span_has_1_p
  split
  · rename_i h; simp [h]
  · rename_i h; simp [h]
theorem idxf (s : SpanD) : ∀ (l : List Int) (k : Nat), ∃ r, slices_IndexFunc_int_int_s109_l4 s (some (-1)) l k = some r ∧ (decide (r ≥ 0) = l.any fun z => decide (z < s.lo) || decide (z > s.hi))
  | [], k => ⟨-1, by simp [slices_IndexFunc_int_int_s109_l4], by simp⟩
  | z :: l, k => by
    obtain ⟨r, h1, h2⟩ := idxf s l (k + 1)
    rw [slices_IndexFunc_int_int_s109_l4, bnds (has1 z s), List.any_cons]
    cases hz : (decide (z < s.lo) || decide (z > s.hi))
    · exact ⟨r, by simpa using h1, by simpa using h2⟩
    · exact ⟨k, by simp, by simp⟩
def inS (lo hi : Int) (l : List Int) : Bool := l.all fun z => decide (lo ≤ z) && decide (z ≤ hi)
theorem inS_iff {lo hi : Int} {l : List Int} : inS lo hi l = true ↔ ∀ z ∈ l, lo ≤ z ∧ z ≤ hi := by simp [inS]
theorem has_p (lo hi : Int) (l : List Int) : dynamics_span_has_p ⟨lo, hi⟩ l = some (inS lo hi l) := by
  obtain ⟨r, h1, h2⟩ := idxf ⟨lo, hi⟩ l 0
  unfold dynamics_span_has_p slices_ContainsFunc_int_int_s109_p slices_IndexFunc_int_int_s109_p
  simp only [lt, List.drop_zero, h1, Option.bind_some, h2, Option.some.injEq]
  rw [List.not_any_eq_all_not, inS]
  congr 1
  funext z
  by_cases h3 : z < lo <;> by_cases h4 : z > hi <;> simp [h3, h4] <;> omega
theorem within1 (l : List Int) (m : Int) (hm : IntKind.i64.wrap (0 - m) = -m) : dynamics_within_1_p l m = some (inS (-m) m l) := by
  unfold dynamics_within_1_p
  rw [hm, has_p]
  rfl
/-! ### The grid -/
theorem drop_cons {α : Type} {l r : List α} {x : α} {k : Nat} (h : x :: r = l.drop k) : k < l.length ∧ r = l.drop (k + 1) := by
  constructor
  · apply Classical.byContradiction
    intro hk
    rw [List.drop_eq_nil_of_le (by omega)] at h
    cases h
  · rw [← List.tail_drop, ← h]; rfl
theorem iCheck17 (x : List Int) (J : Option Int) (hx : x.length ≤ 32) (hJ : ∃ e, J = some e) : ∀ (l : List Int) (k : Nat), l = x.drop k → Z0 (interp_Check_l17 x J l k) J
  | [], k, _ => by rw [interp_Check_l17]; exact Z0.self hJ
  | z :: l, k, h => by
    obtain ⟨hk, hr⟩ := drop_cons h
    have ih := iCheck17 x J hx hJ l (k + 1) hr
    rw [interp_Check_l17]
    split
    · exact Z0.nz (by decide)
    split
    · exact Z0.nz (by decide)
    split
    · rename_i h0
      obtain ⟨q, hq⟩ : ∃ q, x[k - 1]? = some q := ⟨x[k - 1]'(by omega), by simp⟩
      rw [bnds (ixT (k := k - 1) (by rw [wi64 (by omega) (by omega)]; omega) hq)]
      split
      · exact Z0.nz (by decide)
      · exact ih
    · exact ih
theorem iCheck10 (J : Option Int) (hJ : ∃ e, J = some e) : ∀ l : List (List Int), ∃ e, interp_Check_l10 J l = some e ∧ (e = 0 → J = some 0 ∧ ∀ x ∈ l, 1 ≤ x.length ∧ x.length ≤ 32)
  | [] => by
    obtain ⟨e, he⟩ := hJ
    exact ⟨e, by rw [interp_Check_l10]; exact he, fun h => ⟨h ▸ he, fun _ h => by cases h⟩⟩
  | x :: l => by
    obtain ⟨e, h1, h2⟩ := iCheck10 J hJ l
    rw [interp_Check_l10, lt]
    split
    · exact ⟨3, rfl, fun h => by cases h⟩
    rename_i h3
    split
    · exact ⟨4, rfl, fun h => by cases h⟩
    rename_i h4
    have hx : x.length ≤ 32 := by omega
    have h0 : 1 ≤ x.length := by
      rcases Nat.eq_zero_or_pos x.length with h | h
      · rw [h] at h3; exact absurd rfl h3
      · exact h
    obtain ⟨e', h5, h6⟩ := iCheck17 x (interp_Check_l10 J l) hx ⟨e, h1⟩ (x.drop 0) 0 rfl
    refine ⟨e', h5, fun h => ?_⟩
    have h7 := h6 h
    rw [h1] at h7
    obtain ⟨h8, h9⟩ := h2 (Option.some.inj h7)
    exact ⟨h8, fun y hy => by
      rcases List.mem_cons.1 hy with rfl | hy
      · exact ⟨h0, hx⟩
      · exact h9 y hy⟩
theorem isize3 (a b c : List Int) : interp_size_p [a, b, c] = some (IntKind.i64.wrap (IntKind.i64.wrap (IntKind.i64.wrap (1 * (a.length : Int)) * (b.length : Int)) * (c.length : Int))) := by
  unfold interp_size_p lt
  simp only [List.drop_zero, interp_size_l4]
theorem iCheck (a b c : List Int) : ∃ e, interp_Check_p [a, b, c] = some e ∧ (e = 0 → ∀ x ∈ [a, b, c], 1 ≤ x.length ∧ x.length ≤ 32) := by
  unfold interp_Check_p
  rw [if_neg (by simp), if_neg (by simp), lt, bnds (isize3 a b c)]
  have hJ : ∀ p : Prop, [Decidable p] → ∃ e, (if p then some (10 : Int) else some 0) = some e := fun p _ => by
    split
    · exact ⟨_, rfl⟩
    · exact ⟨_, rfl⟩
  obtain ⟨e, h1, h2⟩ := iCheck10 _ (hJ (IntKind.i64.wrap (IntKind.i64.wrap (IntKind.i64.wrap (1 * (a.length : Int)) * (b.length : Int)) * (c.length : Int)) > 256)) ([a, b, c].drop 0)
  exact ⟨e, h1, fun h => (h2 h).2⟩
/-! ### Numbers and noises -/
theorem cRat (r : Raw) : ∃ e, dynamics_checkRat_p r = some e := by
  unfold dynamics_checkRat_p rat_Check_p
  simp only [Option.bind_some]
  split
  · exact ⟨_, rfl⟩
  split
  · exact ⟨_, rfl⟩
  split
  · exact ⟨_, rfl⟩
  · exact ⟨_, rfl⟩
theorem nz_of {e : Int} (h : (e != 0) = true) : e ≠ 0 := by simpa using h
theorem z_of {e : Int} (h : ¬ (e != 0) = true) : e = 0 := by simpa using h
theorem cNoise17 (p0 : List NoiseD) (hp : p0.length ≤ 5) (J : Raw → Option Int) (hJ : ∀ v, ∃ e, J v = some e) : ∀ (l : List NoiseD) (k : Nat) (v : Raw), l = p0.drop k → ∃ e, dynamics_checkNoise_l17 p0 J l k v = some e
  | [], k, v, _ => by rw [dynamics_checkNoise_l17]; exact hJ v
  | x :: l, k, v, h => by
    obtain ⟨hk, hr⟩ := drop_cons h
    rw [dynamics_checkNoise_l17, lt]
    obtain ⟨e, he⟩ := cRat x.p
    have hA : ∃ e, (dynamics_checkRat_p x.p).bind (fun y25 => if ((y25) != 0) = true then (some y25) else (if x.p.neg = true then (some 1) else (if ((x.p.ln.length : Int) == 0) = true then (some 1) else ((rat_Add_p v x.p).bind fun y31 => dynamics_checkNoise_l17 p0 J l (k + 1) y31.1)))) = some e := by
      rw [bnds he]
      split
      · exact ⟨_, rfl⟩
      split
      · exact ⟨_, rfl⟩
      split
      · exact ⟨_, rfl⟩
      · unfold rat_Add_p
        rw [Option.bind_some]
        exact cNoise17 p0 hp J hJ l (k + 1) _ hr
    rw [show dynamics_within_p (100 : Int) = some 100 from rfl, Option.bind_some, within1 _ 100 (by decide), Option.bind_some]
    split
    · exact ⟨_, rfl⟩
    split
    · rename_i h0
      obtain ⟨q, hq⟩ : ∃ q, p0[k - 1]? = some q := ⟨p0[k - 1]'(by omega), by simp⟩
      rw [bnds (ixT (k := k - 1) (by rw [wi64 (by omega) (by omega)]; omega) hq)]
      split
      · exact ⟨_, rfl⟩
      · exact hA
    · exact hA
theorem cNoise (l : List NoiseD) : ∃ e, dynamics_checkNoise_p l = some e := by
  unfold dynamics_checkNoise_p
  split
  · exact ⟨_, rfl⟩
  split
  · exact ⟨_, rfl⟩
  rename_i h5
  rw [lt]
  refine cNoise17 l (by omega) _ (fun v => ?_) _ 0 _ rfl
  rw [show rat_From_p (1 : Int) = some (Raw.of ((1 : Int) : Rat)) from grdT (by decide), Option.bind_some]
  unfold rat_Cmp_p
  rw [Option.bind_some]
  split
  · exact ⟨_, rfl⟩
  · exact ⟨_, rfl⟩
theorem c62 (x : ModelD) (J : Option Int) (hJ : ∃ e, J = some e) : ∀ (r k : Nat), r + k = 3 → Z0 (dynamics_Check_l62 x J r k) J
  | 0, k, _ => by rw [dynamics_Check_l62]; exact Z0.self hJ
  | r + 1, k, h => by
    have ih := c62 x J hJ r (k + 1) (by omega)
    rw [dynamics_Check_l62]
    obtain ⟨q, hq⟩ : ∃ q, [x.alert, x.strengthen, x.reversal][k]? = some q := ⟨[x.alert, x.strengthen, x.reversal][k]'(by simp; omega), by simp⟩
    rw [bnds (ixT (k := k) rfl hq)]
    obtain ⟨e, he⟩ := cRat q
    rw [bnds he]
    split
    · rename_i hn; exact Z0.nz (nz_of hn)
    split
    · exact Z0.nz (by decide)
    · exact ih
theorem c78 (x : ModelD) (J : Option Int) (hJ : ∃ e, J = some e) : ∀ (r k : Nat), r + k = 2 → Z0 (dynamics_Check_l78 x J r k) J
  | 0, k, _ => by rw [dynamics_Check_l78]; exact Z0.self hJ
  | r + 1, k, h => by
    have ih := c78 x J hJ r (k + 1) (by omega)
    rw [dynamics_Check_l78]
    obtain ⟨q, hq⟩ : ∃ q, [x.ownNoise, x.otherNoise][k]? = some q := ⟨[x.ownNoise, x.otherNoise][k]'(by simp; omega), by simp⟩
    rw [bnds (ixT (k := k) rfl hq)]
    obtain ⟨e, he⟩ := cNoise q
    rw [bnds he]
    split
    · rename_i hn; exact Z0.nz (nz_of hn)
    · exact ih
theorem c92 (J : Option Int) (hJ : ∃ e, J = some e) : ∀ l : List BoundsD, ∃ e, dynamics_Check_l92 100 J l = some e ∧ (e = 0 → J = some 0 ∧ ∀ y ∈ l, y.lo ≤ y.hi ∧ -100 ≤ y.lo ∧ y.lo ≤ 100 ∧ -100 ≤ y.hi ∧ y.hi ≤ 100)
  | [] => by
    obtain ⟨e, he⟩ := hJ
    exact ⟨e, by rw [dynamics_Check_l92]; exact he, fun h => ⟨h ▸ he, fun _ h => by cases h⟩⟩
  | y :: l => by
    obtain ⟨e, h1, h2⟩ := c92 J hJ l
    have key : ∀ v : Bool, ∃ e, (if v = true then (some 6) else (if (y.lo) > y.hi then (some 1) else ((dynamics_within_1_p ([y.lo, y.hi]) 100).bind fun y104 => if (!y104) = true then (some 1) else (dynamics_Check_l92 100 J l)))) = some e ∧ (e = 0 → J = some 0 ∧ ∀ z ∈ y :: l, z.lo ≤ z.hi ∧ -100 ≤ z.lo ∧ z.lo ≤ 100 ∧ -100 ≤ z.hi ∧ z.hi ≤ 100) := fun v => by
      split
      · exact ⟨6, rfl, fun h => by cases h⟩
      split
      · exact ⟨1, rfl, fun h => by cases h⟩
      rename_i hlo
      rw [within1 _ 100 (by decide), Option.bind_some]
      split
      · exact ⟨1, rfl, fun h => by cases h⟩
      rename_i hin
      have hin' : inS (-100) 100 [y.lo, y.hi] = true := by simpa using hin
      have h9 := inS_iff.1 hin'
      have h10 := h9 y.lo (by simp)
      have h11 := h9 y.hi (by simp)
      refine ⟨e, h1, fun h => ⟨(h2 h).1, fun z hz => ?_⟩⟩
      rcases List.mem_cons.1 hz with rfl | hz
      · exact ⟨by omega, h10.1, h10.2, h11.1, h11.2⟩
      · exact (h2 h).2 z hz
    rw [dynamics_Check_l92, lt]
    split
    · exact key _
    · exact key _
/-! ### Check -/
structure Good (x : ModelD) : Prop where
  h1 : 1 ≤ x.height.length
  h2 : x.height.length ≤ 32
  o1 : 1 ≤ x.own.length
  o2 : x.own.length ≤ 32
  t1 : 1 ≤ x.other.length
  t2 : x.other.length ≤ 32
  a1 : 1 ≤ x.advisories.length
  a2 : x.advisories.length ≤ 6
  p1 : 0 ≤ x.pull
  p2 : x.pull ≤ 100
  adv : ∀ y ∈ x.advisories.drop 1, y.lo ≤ y.hi ∧ -100 ≤ y.lo ∧ y.lo ≤ 100 ∧ -100 ≤ y.hi ∧ y.hi ≤ 100
theorem size_p (x : ModelD) : ∃ n, dynamics_size_p x = some n ∧ (x.height.length ≤ 32 → x.own.length ≤ 32 → x.other.length ≤ 32 → x.advisories.length ≤ 6 → n = ((x.height.length * x.own.length * x.other.length * x.advisories.length : Nat) : Int)) := by
  unfold dynamics_size_p
  rw [Option.bind_some]
  refine ⟨_, rfl, fun h1 h2 h3 h4 => ?_⟩
  have e1 : x.height.length * x.own.length ≤ 32 * 32 := Nat.mul_le_mul h1 h2
  have e2 : x.height.length * x.own.length * x.other.length ≤ 32 * 32 * 32 := Nat.mul_le_mul e1 h3
  have e3 : x.height.length * x.own.length * x.other.length * x.advisories.length ≤ 32 * 32 * 32 * 6 := Nat.mul_le_mul e2 h4
  have w1 : ∀ a b : Nat, a * b ≤ 196608 → IntKind.i64.wrap ((a : Int) * (b : Int)) = ((a * b : Nat) : Int) := fun a b h => by
    rw [← Int.natCast_mul]
    exact wi64 (by omega) (by omega)
  rw [w1 _ _ (by omega), w1 _ _ (by omega), w1 _ _ (by omega)]
theorem check_p (x : ModelD) : ∃ e, dynamics_Check_p x = some e ∧ (e = 0 → Good x) := by
  unfold dynamics_Check_p
  rw [show dynamics_within_p (100 : Int) = some 100 from rfl, Option.bind_some, show dynamics_grid_p x = some [x.height, x.own, x.other] from rfl, Option.bind_some]
  obtain ⟨e1, h1, g1⟩ := iCheck x.height x.own x.other
  rw [bnds h1]
  split
  · rename_i hn; exact ⟨e1, rfl, fun h => absurd h (nz_of hn)⟩
  rename_i hz1
  have hg := g1 (z_of hz1)
  rw [show dynamics_within_p (50000 : Int) = some 50000 from rfl, Option.bind_some, within1 _ 50000 (by decide), Option.bind_some]
  split
  · exact ⟨1, rfl, fun h => by cases h⟩
  rw [within1 _ 100 (by decide), Option.bind_some]
  split
  · exact ⟨1, rfl, fun h => by cases h⟩
  rw [within1 _ 100 (by decide), Option.bind_some]
  split
  · exact ⟨1, rfl, fun h => by cases h⟩
  split
  · exact ⟨3, rfl, fun h => by cases h⟩
  rename_i ha1
  split
  · exact ⟨4, rfl, fun h => by cases h⟩
  rename_i ha2
  have ha1' : 1 ≤ x.advisories.length := by
    rcases Nat.eq_zero_or_pos x.advisories.length with h | h
    · rw [h] at ha1; exact absurd rfl ha1
    · exact h
  rw [lt, grdT (by omega)]
  have hJ : ∃ e, ((dynamics_span_has_p (SpanD.mk 0 100) ([x.pull])).bind fun y38 => if (!y38) = true then (some 1) else ((dynamics_span_has_p (SpanD.mk 0 50000) ([x.near])).bind fun y44 => if (!y44) = true then (some 1) else ((dynamics_span_has_p (SpanD.mk 0 24) ([x.steps])).bind fun y50 => if (!y50) = true then (some 1) else (lt (lt ((dynamics_size_p x).bind fun y56 => if (y56) > 200 then (some 10) else (some 0)) fun J54 => dynamics_Check_l62 x J54 ((3 : Int).toNat - 0) 0) fun J53 => dynamics_Check_l78 x J53 ((2 : Int).toNat - 0) 0)))) = some e ∧ (e = 0 → 0 ≤ x.pull ∧ x.pull ≤ 100) := by
    rw [has_p, Option.bind_some]
    split
    · exact ⟨1, rfl, fun h => by cases h⟩
    rename_i hp
    have hp' : inS 0 100 [x.pull] = true := by simpa using hp
    have hp2 := inS_iff.1 hp' x.pull (by simp)
    rw [has_p, Option.bind_some]
    split
    · exact ⟨1, rfl, fun h => by cases h⟩
    rw [has_p, Option.bind_some]
    split
    · exact ⟨1, rfl, fun h => by cases h⟩
    obtain ⟨n, hn, _⟩ := size_p x
    rw [lt, lt, bnds hn]
    have hJ0 : ∃ e, (if n > 200 then some (10 : Int) else some 0) = some e := by
      split
      · exact ⟨_, rfl⟩
      · exact ⟨_, rfl⟩
    obtain ⟨e6, h6, _⟩ := c62 x _ hJ0 3 0 rfl
    obtain ⟨e7, h7, _⟩ := c78 x _ ⟨e6, h6⟩ 2 0 rfl
    exact ⟨e7, h7, fun _ => hp2⟩
  obtain ⟨e2, h2, g2⟩ := hJ
  obtain ⟨e3, h3, g3⟩ := c92 _ ⟨e2, h2⟩ ((x.advisories.drop 1).drop 0)
  refine ⟨e3, h3, fun h => ?_⟩
  obtain ⟨g4, g5⟩ := g3 h
  rw [h2] at g4
  have g6 := g2 (Option.some.inj g4)
  have b1 := hg x.height (by simp)
  have b2 := hg x.own (by simp)
  have b3 := hg x.other (by simp)
  exact ⟨b1.1, b1.2, b2.1, b2.2, b3.1, b3.2, ha1', by omega, g6.1, g6.2, g5⟩
end Go.Proofs.YtppalofalmieaaaGreat
/- DynamicsResponds as plain Lean. By an AI agent. -/
namespace Go.Proofs.YtppalofalmieaaaGreat
open Go Go.Gv Go.RowKit
set_option maxRecDepth 100000
set_option maxHeartbeats 1000000
theorem long6 : ∀ l : List Raw, ∃ b, clearwaylaw06_Long_p l = some b := by
  have h : ∀ l : List Raw, ∃ b, clearwaylaw06_Long_l4 (some false) l = some b := by
    intro l
    induction l with
    | nil => exact ⟨false, by rw [clearwaylaw06_Long_l4]⟩
    | cons x l ih =>
      rw [clearwaylaw06_Long_l4]
      repeat' split
      all_goals first | exact ⟨_, rfl⟩ | exact ih
  intro l
  unfold clearwaylaw06_Long_p lt
  exact h _
theorem long24 (x : ModelD) : ∃ b, clearwaylaw24_Long_p x = some b := by
  have h18 : ∀ (J : Option Bool), (∃ b, J = some b) → ∀ l : List NoiseD, ∃ b, clearwaylaw24_Long_l18 J l = some b := by
    intro J hJ l
    induction l with
    | nil => rw [clearwaylaw24_Long_l18]; exact hJ
    | cons x l ih =>
      rw [clearwaylaw24_Long_l18]
      obtain ⟨b, hb⟩ := long6 [x.p]
      rw [bnds hb]
      split
      · exact ⟨_, rfl⟩
      · exact ih
  have h28 : ∀ (J : Option Bool), (∃ b, J = some b) → ∀ l : List NoiseD, ∃ b, clearwaylaw24_Long_l28 J l = some b := by
    intro J hJ l
    induction l with
    | nil => rw [clearwaylaw24_Long_l28]; exact hJ
    | cons x l ih =>
      rw [clearwaylaw24_Long_l28]
      obtain ⟨b, hb⟩ := long6 [x.p]
      rw [bnds hb]
      split
      · exact ⟨_, rfl⟩
      · exact ih
  unfold clearwaylaw24_Long_p
  repeat' split
  all_goals try exact ⟨_, rfl⟩
  obtain ⟨b, hb⟩ := long6 [x.alert, x.strengthen, x.reversal]
  rw [lt, lt, bnds hb]
  exact h28 _ (h18 _ ⟨b, rfl⟩ _) _
def nV (x : ModelD) : Nat := x.height.length * x.own.length * x.other.length
theorem Good.size {x : ModelD} (g : Good x) : dynamics_size_p x = some ((nV x * x.advisories.length : Nat) : Int) := by
  obtain ⟨n, h, k⟩ := size_p x
  rw [h, k g.h2 g.o2 g.t2 g.a2]
  rfl
theorem Good.nV_le {x : ModelD} (g : Good x) : nV x ≤ 32768 := by
  have e1 : x.height.length * x.own.length ≤ 32 * 32 := Nat.mul_le_mul g.h2 g.o2
  exact Nat.mul_le_mul e1 g.t2
theorem Good.n_le {x : ModelD} (g : Good x) : nV x * x.advisories.length ≤ 196608 := Nat.mul_le_mul g.nV_le g.a2
theorem known_p {x : ModelD} (hc : dynamics_Check_p x = some 0) (g : Good x) (z : Int) : dynamics_known_p x [z] = some (if 0 ≤ z ∧ z < (x.advisories.length : Int) then 0 else 8) := by
  have h1 := g.a1
  have h2 := g.a2
  unfold dynamics_known_p
  rw [bnds hc, if_neg (by decide), wi64 (by omega) (by omega), has_p, Option.bind_some]
  by_cases hz : 0 ≤ z ∧ z < (x.advisories.length : Int)
  · rw [if_pos hz, if_neg]
    have : inS 0 ((x.advisories.length : Int) - 1) [z] = true := inS_iff.2 fun y hy => by
      rw [List.mem_singleton] at hy; subst hy; omega
    simp [this]
  · rw [if_neg hz, if_pos]
    have : inS 0 ((x.advisories.length : Int) - 1) [z] = false := by
      rw [Bool.eq_false_iff]
      intro h
      have := inS_iff.1 h z (by simp)
      omega
    simp [this]
theorem respond_eq {x : ModelD} (g : Good x) {u b : Int} (hb : 0 ≤ b ∧ b < (x.advisories.length : Int)) (hu : -100 ≤ u ∧ u ≤ 100) : ∃ y, ix x.advisories b = some y ∧ (b ≠ 0 → y.lo ≤ y.hi ∧ -100 ≤ y.lo ∧ y.lo ≤ 100 ∧ -100 ≤ y.hi ∧ y.hi ≤ 100) ∧
    dynamics_respond_p x u b = some (if b = 0 then u else if u < y.lo then (if y.lo < u + x.pull then y.lo else u + x.pull) else if u > y.hi then (if y.hi > u - x.pull then y.hi else u - x.pull) else u) := by
  have hp1 := g.p1
  have hp2 := g.p2
  obtain ⟨k, rfl⟩ := Int.eq_ofNat_of_zero_le hb.1
  have hk : k < x.advisories.length := by omega
  have hy := List.getElem?_eq_getElem hk
  have hix := ixT (i := (k : Int)) rfl hy
  refine ⟨_, hix, fun h0 => ?_, ?_⟩
  · have hk0 : k ≠ 0 := by rintro rfl; exact h0 rfl
    refine g.adv _ (List.mem_of_getElem? (i := k - 1) ?_)
    rw [List.getElem?_drop, show 1 + (k - 1) = k by omega]
    exact hy
  · unfold dynamics_respond_p
    rw [bnds hix, wi64 (x := u + x.pull) (by omega) (by omega), wi64 (x := u - x.pull) (by omega) (by omega)]
    by_cases hk0 : (k : Int) = 0
    · rw [if_pos (by simpa using hk0), if_pos hk0]
    · rw [if_neg (by simpa using hk0), if_neg hk0]
      simp only [Option.bind_some]
      repeat' split
      all_goals rfl
theorem Respond_p {x : ModelD} {e : Int} (hc : dynamics_Check_p x = some e) (g : e = 0 → Good x) (u b : Int) : ∃ r f, dynamics_Respond_p x u b = some (r, f) ∧ (f ≠ 0 → r = 0) ∧
    (f = 0 → e = 0 ∧ (-100 ≤ u ∧ u ≤ 100) ∧ (0 ≤ b ∧ b < (x.advisories.length : Int)) ∧ dynamics_respond_p x u b = some r) := by
  unfold dynamics_Respond_p
  rw [bnds hc]
  split
  · rename_i hn; exact ⟨0, e, rfl, fun _ => rfl, fun h => absurd h (nz_of hn)⟩
  rename_i hz
  obtain rfl := z_of hz
  have g := g rfl
  rw [show dynamics_within_p (100 : Int) = some 100 from rfl, Option.bind_some, within1 _ 100 (by decide), Option.bind_some]
  split
  · exact ⟨0, 1, rfl, fun _ => rfl, fun h => by cases h⟩
  rename_i hu
  have hu' : inS (-100) 100 [u] = true := by simpa using hu
  have hu2 := inS_iff.1 hu' u (by simp)
  rw [known_p hc g, Option.bind_some]
  by_cases hb : 0 ≤ b ∧ b < (x.advisories.length : Int)
  · rw [if_pos hb, if_neg (by decide)]
    obtain ⟨y, _, _, h3⟩ := respond_eq g hb hu2
    rw [bnds h3]
    exact ⟨_, 0, rfl, fun h => absurd rfl h, fun _ => ⟨rfl, hu2, hb, h3⟩⟩
  · rw [if_neg hb, if_pos (by decide)]
    exact ⟨0, 8, rfl, fun _ => rfl, fun h => by cases h⟩
end Go.Proofs.YtppalofalmieaaaGreat
/- Numbers that fit: sums of fractions with one denominator. By an AI agent. -/
namespace Go.Gv
/-- q is a fraction over D whose numerator is at most B. -/
def DB (D B : Nat) (q : Rat) : Prop := ∃ n : Int, q = mkRat n D ∧ n.natAbs ≤ B
theorem fit_mk {n : Int} {d : Nat} (h1 : n.natAbs < K128) (h2 : d < K128) : ratE (mkRat n d) = 0 := by
  unfold ratE
  refine if_pos ⟨?_, ?_⟩
  · rw [Rat.num_mkRat]
    split
    · exact Nat.lt_of_le_of_lt (Nat.zero_le _) h2
    · refine Nat.lt_of_le_of_lt ?_ h1
      rw [Int.natAbs_ediv_of_dvd (Int.ofNat_dvd_left.2 (Nat.gcd_dvd_right _ _))]
      exact Nat.div_le_self _ _
  · have hd : (mkRat n d).den ≤ d ∨ (mkRat n d).den = 1 := by
      rw [Rat.den_mkRat]
      split
      · exact .inr rfl
      · exact .inl (Nat.div_le_self _ _)
    unfold den1
    split
    · exact Nat.lt_of_le_of_lt (Nat.zero_le _) h2
    · rcases hd with h | h
      · exact Nat.lt_of_le_of_lt h h2
      · rename_i h9; exact absurd h h9
theorem DB.fit {D B : Nat} {q : Rat} (h : DB D B q) (hD : D < K128) (hB : B < K128) : ratE q = 0 := by
  obtain ⟨n, rfl, h2⟩ := h
  exact fit_mk (Nat.lt_of_le_of_lt h2 hB) hD
theorem DB.mono {D B C : Nat} {q : Rat} (h : DB D B q) (k : B ≤ C) : DB D C q := by
  obtain ⟨n, h1, h2⟩ := h
  exact ⟨n, h1, Nat.le_trans h2 k⟩
theorem DB.zero {D : Nat} : DB D 0 0 := ⟨0, by simp, Nat.le_refl _⟩
theorem DB.add {D A B : Nat} {p q : Rat} (hD : D ≠ 0) (h : DB D A p) (k : DB D B q) : DB D (A + B) (p + q) := by
  obtain ⟨m, rfl, h2⟩ := h
  obtain ⟨n, rfl, k2⟩ := k
  refine ⟨m + n, ?_, ?_⟩
  · rw [Rat.mkRat_add_mkRat _ _ hD hD, ← Int.add_mul, Rat.mkRat_mul_right hD]
  · have := Int.natAbs_add_le m n
    omega
theorem DB.mul {D E A B : Nat} {p q : Rat} (h : DB D A p) (k : DB E B q) : DB (D * E) (A * B) (p * q) := by
  obtain ⟨m, rfl, h2⟩ := h
  obtain ⟨n, rfl, k2⟩ := k
  refine ⟨m * n, Rat.mkRat_mul_mkRat _ _ _ _, ?_⟩
  rw [Int.natAbs_mul]
  exact Nat.mul_le_mul h2 k2
theorem DB.lift {D B k : Nat} {q : Rat} (h : DB D B q) (hk : k ≠ 0) : DB (D * k) (B * k) q := by
  obtain ⟨n, rfl, h2⟩ := h
  refine ⟨n * k, ?_, ?_⟩
  · rw [Rat.mkRat_mul_right hk]
  · rw [Int.natAbs_mul, Int.natAbs_natCast]
    exact Nat.mul_le_mul_right _ h2
theorem DB.dvd {D E B : Nat} {q : Rat} (h : DB D B q) (hd : D ∣ E) (hE : E ≠ 0) : DB E (B * E) q := by
  obtain ⟨k, rfl⟩ := hd
  have hk : k ≠ 0 := fun e => hE (by rw [e, Nat.mul_zero])
  have hD : D ≠ 0 := fun e => hE (by rw [e, Nat.zero_mul])
  refine (h.lift hk).mono (Nat.mul_le_mul_left _ ?_)
  exact Nat.le_mul_of_pos_left _ (Nat.pos_of_ne_zero hD)
/-- The product of all. -/
def prodN : List Nat → Nat
  | [] => 1
  | x :: l => x * prodN l
theorem prodN_dvd : ∀ {l : List Nat} {x : Nat}, x ∈ l → x ∣ prodN l
  | y :: l, x, h => by
    rcases List.mem_cons.1 h with rfl | h
    · exact Nat.dvd_mul_right _ _
    · exact Nat.dvd_trans (prodN_dvd h) (Nat.dvd_mul_left _ _)
theorem prodN_pos : ∀ {l : List Nat}, (∀ x ∈ l, x ≠ 0) → prodN l ≠ 0
  | [], _ => by decide
  | y :: l, h => Nat.mul_ne_zero (h y (by simp)) (prodN_pos fun x hx => h x (by simp [hx]))
theorem prodN_le {K : Nat} (hK : 1 ≤ K) : ∀ {l : List Nat} {n : Nat}, (∀ x ∈ l, x ≤ K) → l.length ≤ n → prodN l ≤ K ^ n
  | [], n, _, _ => Nat.one_le_pow _ _ hK
  | y :: l, 0, _, h => by simp at h
  | y :: l, n + 1, h, hn => by
    rw [Nat.pow_succ, Nat.mul_comm]
    exact Nat.mul_le_mul (h y (by simp)) (prodN_le hK (fun x hx => h x (by simp [hx])) (by simpa using hn))
/-! ### The operations of package rat where all fits -/
theorem of_fit {q : Rat} (h : ratE q = 0) : (Raw.of q).chk = 0 ∧ (Raw.of q).rat = q := ⟨Raw.of_chk h, Raw.of_rat q⟩
theorem opR_fit {a b : Raw} {q : Rat} (ha : a.chk = 0) (hb : b.chk = 0) (h : ratE q = 0) : opR a b q = Raw.of q ∧ opE a b q = 0 := by
  have e : opE a b q = 0 := by unfold opE; rw [ha, hb, h]; rfl
  exact ⟨if_pos e, e⟩
end Go.Gv
/- Shares of an axis and the weights of the vertices, in plain words. By an AI agent. -/
namespace Go.Proofs.YtppalofalmieaaaGreat
open Go Go.Gv Go.RowKit
set_option maxRecDepth 100000
set_option maxHeartbeats 1000000
/-- An axis: ascending, of small numbers. -/
structure Axis (l : List Int) : Prop where
  ne : 1 ≤ l.length
  le : l.length ≤ 32
  asc : l.Pairwise (· < ·)
  bd : ∀ z ∈ l, -50000 ≤ z ∧ z ≤ 50000
theorem Axis.lt {l : List Int} (h : Axis l) {i j : Nat} {x y : Int} (hij : i < j) (hx : l[i]? = some x) (hy : l[j]? = some y) : x < y := by
  obtain ⟨hi, rfl⟩ := List.getElem?_eq_some_iff.1 hx
  obtain ⟨hj, rfl⟩ := List.getElem?_eq_some_iff.1 hy
  exact List.pairwise_iff_getElem.1 h.asc i j hi hj hij
theorem Axis.bdi {l : List Int} (h : Axis l) {i : Nat} {x : Int} (hx : l[i]? = some x) : -50000 ≤ x ∧ x ≤ 50000 := h.bd x (List.mem_of_getElem? hx)
def clampZ (a z x : Int) : Int := if (if z < x then z else x) > a then if z < x then z else x else a
def clampL (l : List Int) (x : Int) : Int := clampZ (l.head?.getD 0) (l.getLast?.getD 0) x
theorem clamp_in {a z x : Int} (h : a ≤ z) : a ≤ clampZ a z x ∧ clampZ a z x ≤ z := by
  unfold clampZ
  split <;> split <;> omega
/-- The shares of c in an axis. -/
def ShSpec (l : List Int) (c : Int) (S : List (Nat × Rat)) : Prop :=
  (∃ k, l[k]? = some c ∧ S = [(k, 1)]) ∨ (∃ k a b, l[k]? = some a ∧ l[k + 1]? = some b ∧ a < c ∧ c < b ∧ S = [(k, mkRat (b - c) (b - a).toNat), (k + 1, mkRat (c - a) (b - a).toNat)])
def toSh (p : Nat × Rat) : ShareD := ⟨(p.1 : Int), Raw.of p.2⟩
def toWt (p : Nat × Rat) : WeightD := ⟨(p.1 : Int), Raw.of p.2⟩
theorem of_p {n d : Int} (h1 : -9223372036854775808 ≤ n ∧ n ≤ 9223372036854775807) (h2 : 0 < d ∧ d ≤ 9223372036854775807) : rat_Of_p n d = some (Raw.of (mkRat n d.toNat), 0) := by
  unfold rat_Of_p
  rw [grdT ⟨h1, ⟨by omega, h2.2⟩, by omega⟩]
  have e : decide (d < 0) = false := by simp; omega
  have e2 : (!(decide (n < 0) == decide (d < 0))) = decide (n < 0) := by rw [e]; cases decide (n < 0) <;> rfl
  rw [e2, sgn_num]
  have e3 : d.natAbs = d.toNat := by omega
  rw [e3]
theorem shares_go {l : List Int} (h : Axis l) {p1 x4 x6 : Int} (h4 : l[0]? = some x4) (h6 : l[l.length - 1]? = some x6) (J : List ShareD → Option (List ShareD)) :
    ∀ (r : List Int) (k : Nat), r = l.drop k → (∀ j y, j < k → l[j]? = some y → y < clampZ x4 x6 p1) → ∃ S, ShSpec l (clampZ x4 x6 p1) S ∧ interp_shares_l13 l p1 x4 x6 J r k = J (S.map toSh) := by
  have hle : x4 ≤ x6 := by
    rcases Nat.eq_zero_or_pos (l.length - 1) with e | e
    · rw [e] at h6; rw [h4] at h6; cases h6; exact Int.le_refl _
    · exact Int.le_of_lt (h.lt e h4 h6)
  obtain ⟨c1, c2⟩ := clamp_in (x := p1) hle
  intro r
  induction r with
  | nil =>
    intro k hk hb
    have : l.length ≤ k := by
      have := congrArg List.length hk
      simp at this
      omega
    have hne := h.ne
    have := hb (l.length - 1) x6 (by omega) h6
    omega
  | cons x r ih =>
    intro k hk hb
    obtain ⟨hkl, hr⟩ := drop_cons hk
    have hx : l[k]? = some x := by
      have := congrArg List.head? hk
      rw [List.head?_drop] at this
      exact this.symm
    have bx := h.bdi hx
    have b4 := h.bdi h4
    have b6 := h.bdi h6
    rw [interp_shares_l13]
    show ∃ S, ShSpec l (clampZ x4 x6 p1) S ∧ ((some (clampZ x4 x6 p1 == x)).bind _) = _
    rw [Option.bind_some]
    by_cases e : clampZ x4 x6 p1 = x
    · refine ⟨[(k, 1)], .inl ⟨k, by rw [e]; exact hx, rfl⟩, ?_⟩
      rw [if_pos (by simp [e]), bnds (of_p (by omega) (by omega)), grdT (by decide)]
      rfl
    · rw [if_neg (by simp [e])]
      show ∃ S, _ ∧ ((some (decide (clampZ x4 x6 p1 < x))).bind _) = _
      rw [Option.bind_some]
      by_cases e2 : clampZ x4 x6 p1 < x
      · rw [if_pos (by simp [e2])]
        have hk0 : 0 < k := by
          rcases Nat.eq_zero_or_pos k with h0 | h0
          · subst h0; rw [h4] at hx; cases hx; omega
          · exact h0
        obtain ⟨q, hq⟩ : ∃ q, l[k - 1]? = some q := ⟨l[k - 1]'(by omega), by simp⟩
        have bq := h.bdi hq
        have hqc := hb (k - 1) q (by omega) hq
        have hk32 := h.le
        have w1 : IntKind.i64.wrap ((k : Int) - 1) = ((k - 1 : Nat) : Int) := by rw [wi64 (by omega) (by omega)]; omega
        rw [bnds (ixT (k := k - 1) w1 hq)]
        show ∃ S, _ ∧ ((some (IntKind.i64.wrap (x - clampZ x4 x6 p1))).bind _) = _
        rw [Option.bind_some, wi64 (x := x - clampZ x4 x6 p1) (by omega) (by omega), wi64 (x := x - q) (by omega) (by omega), bnds (of_p (by omega) (by omega)), grdT (by decide)]
        show ∃ S, _ ∧ ((some (IntKind.i64.wrap (clampZ x4 x6 p1 - q))).bind _) = _
        rw [Option.bind_some, wi64 (x := clampZ x4 x6 p1 - q) (by omega) (by omega), bnds (of_p (by omega) (by omega)), grdT (by show (1 + 1) * 64 ≤ 140737488355328; decide), w1]
        refine ⟨[(k - 1, mkRat (x - clampZ x4 x6 p1) (x - q).toNat), (k - 1 + 1, mkRat (clampZ x4 x6 p1 - q) (x - q).toNat)], .inr ⟨k - 1, q, x, hq, by rw [Nat.sub_add_cancel hk0]; exact hx, hqc, e2, rfl⟩, ?_⟩
        rw [Nat.sub_add_cancel hk0]
        rfl
      · rw [if_neg (by simp [e2])]
        exact ih (k + 1) hr fun j y hj hy => by
          rcases Nat.lt_succ_iff_lt_or_eq.1 hj with h' | h'
          · exact hb j y h' hy
          · subst h'; rw [hx] at hy; cases hy; omega
theorem head0 {l : List Int} {x : Int} (h : l[0]? = some x) : l.head?.getD 0 = x := by
  cases l <;> simp_all
theorem last0 {l : List Int} {x : Int} (h : l[l.length - 1]? = some x) : l.getLast?.getD 0 = x := by
  rw [List.getLast?_eq_getElem?, h]; rfl
theorem shares_p {l : List Int} (h : Axis l) (x : Int) : ∃ S, ShSpec l (clampL l x) S ∧ interp_shares_p l x = some (S.map toSh) := by
  have hn := h.ne
  have hn2 := h.le
  obtain ⟨a, ha⟩ : ∃ a, l[0]? = some a := ⟨l[0]'(by omega), by simp⟩
  obtain ⟨z, hz⟩ : ∃ z, l[l.length - 1]? = some z := ⟨l[l.length - 1]'(by omega), by simp⟩
  obtain ⟨S, h1, h2⟩ := shares_go h (p1 := x) ha hz (fun v => some v) (l.drop 0) 0 rfl (fun j y hj _ => by omega)
  refine ⟨S, ?_, ?_⟩
  · rw [clampL, head0 ha, last0 hz]; exact h1
  · unfold interp_shares_p
    rw [bnds (ixT (l := l) (i := 0) (k := 0) rfl ha), bnds (ixT (k := l.length - 1) (by rw [wi64 (by omega) (by omega)]; omega) hz)]
    exact h2
/-- The shares are few, small and sum to one. -/
theorem ShSpec.db {l : List Int} (h : Axis l) {c : Int} {S : List (Nat × Rat)} (hs : ShSpec l c S) : S.length ≤ 2 ∧ (∀ s ∈ S, s.1 < l.length) ∧ ∃ d, d ≠ 0 ∧ d ≤ 100000 ∧ ∀ s ∈ S, DB d d s.2 := by
  rcases hs with ⟨k, h1, rfl⟩ | ⟨k, a, b, h1, h2, h3, h4, rfl⟩
  · refine ⟨by simp, fun s hs => ?_, 1, by decide, by decide, fun s hs => ?_⟩
    · rw [List.mem_singleton.1 hs]; exact (List.getElem?_eq_some_iff.1 h1).1
    · rw [List.mem_singleton.1 hs]; exact ⟨1, rfl, Nat.le_refl _⟩
  · have ba := h.bdi h1
    have bb := h.bdi h2
    refine ⟨by simp, fun s hs => ?_, (b - a).toNat, by omega, by omega, fun s hs => ?_⟩
    · rcases List.mem_cons.1 hs with rfl | hs
      · exact (List.getElem?_eq_some_iff.1 h1).1
      · rw [List.mem_singleton.1 hs]; exact (List.getElem?_eq_some_iff.1 h2).1
    · rcases List.mem_cons.1 hs with rfl | hs
      · exact ⟨_, rfl, by omega⟩
      · rw [List.mem_singleton.1 hs]; exact ⟨_, rfl, by omega⟩
/-! ### Weights -/
def wstep (len : Nat) (W S : List (Nat × Rat)) : List (Nat × Rat) := W.flatMap fun p => S.map fun s => (p.1 * len + s.1, p.2 * s.2)
theorem wstep_nil (len : Nat) (S : List (Nat × Rat)) : wstep len [] S = [] := rfl
theorem wstep_cons (len : Nat) (p : Nat × Rat) (W S : List (Nat × Rat)) : wstep len (p :: W) S = (S.map fun s => (p.1 * len + s.1, p.2 * s.2)) ++ wstep len W S := by simp [wstep]
theorem wstep_len {len : Nat} {S : List (Nat × Rat)} (hs : S.length ≤ 2) : ∀ {W : List (Nat × Rat)} {n : Nat}, W.length ≤ n → (wstep len W S).length ≤ 2 * n
  | [], n, _ => by simp [wstep_nil]
  | p :: W, 0, h => by simp at h
  | p :: W, n + 1, h => by
    rw [wstep_cons, List.length_append, List.length_map]
    have := wstep_len (len := len) hs (W := W) (n := n) (by simpa using h)
    omega
theorem wstep_db {len D B d b : Nat} {W S : List (Nat × Rat)} (hw : ∀ p ∈ W, DB D B p.2) (hs : ∀ s ∈ S, DB d b s.2) : ∀ q ∈ wstep len W S, DB (D * d) (B * b) q.2 := by
  intro q hq
  obtain ⟨p, hp, hq⟩ := List.mem_flatMap.1 hq
  obtain ⟨s, h1, rfl⟩ := List.mem_map.1 hq
  exact (hw p hp).mul (hs s h1)
theorem wstep_lt {len N : Nat} {W S : List (Nat × Rat)} (hw : ∀ p ∈ W, p.1 < N) (hs : ∀ s ∈ S, s.1 < len) : ∀ q ∈ wstep len W S, q.1 < N * len := by
  intro q hq
  obtain ⟨p, hp, hq⟩ := List.mem_flatMap.1 hq
  obtain ⟨s, h1, rfl⟩ := List.mem_map.1 hq
  have a := hw p hp
  have c := hs s h1
  show p.1 * len + s.1 < N * len
  calc p.1 * len + s.1 < p.1 * len + len := by omega
    _ = (p.1 + 1) * len := by rw [Nat.succ_mul]
    _ ≤ N * len := Nat.mul_le_mul_right _ a
theorem l34 {l : List Int} {p : Nat × Rat} (J : List WeightD → Option (List WeightD × Int)) (hp : ratE p.2 = 0) : ∀ (S : List (Nat × Rat)) (acc : List WeightD), acc.length + S.length ≤ 1000 → (∀ s ∈ S, ratE s.2 = 0 ∧ ratE (p.2 * s.2) = 0 ∧ p.1 * l.length + s.1 < 100000) →
    interp_Weights_l34 l (toWt p) J (S.map toSh) acc = J (acc ++ (S.map fun s => toWt (p.1 * l.length + s.1, p.2 * s.2)))
  | [], acc, _, _ => by simp [interp_Weights_l34]
  | s :: S, acc, hl, hs => by
    obtain ⟨h1, h2, h3⟩ := hs s (by simp)
    rw [List.map_cons, interp_Weights_l34]
    have e : rat_Mul_p (toWt p).w (toSh s).w = some (Raw.of (p.2 * s.2), 0) := by
      unfold rat_Mul_p
      rw [show (toWt p).w = Raw.of p.2 from rfl, show (toSh s).w = Raw.of s.2 from rfl, Raw.of_rat, Raw.of_rat, (opR_fit (of_fit hp).1 (of_fit h1).1 h2).1, (opR_fit (of_fit hp).1 (of_fit h1).1 h2).2]
    rw [bnds e, grdT (by simp at hl; omega)]
    have w : IntKind.i64.wrap (IntKind.i64.wrap ((toWt p).vertex * (l.length : Int)) + (toSh s).index) = ((p.1 * l.length + s.1 : Nat) : Int) := by
      show IntKind.i64.wrap (IntKind.i64.wrap ((p.1 : Int) * (l.length : Int)) + (s.1 : Int)) = _
      obtain ⟨t, ht⟩ : ∃ t, t = p.1 * l.length := ⟨_, rfl⟩
      rw [← ht] at h3
      rw [← Int.natCast_mul, ← ht, wi64 (x := (t : Int)) (by omega) (by omega), wi64 (by omega) (by omega)]
      simp
    rw [w, l34 J hp S _ (by simp at hl ⊢; omega) fun s hs' => hs s (by simp [hs'])]
    simp [toWt]
theorem l21 {l : List Int} {p1 : List Int} {k : Nat} {z : Int} {S : List (Nat × Rat)} (J : List WeightD → Option (List WeightD × Int)) (hz : p1[k]? = some z) (hS : interp_shares_p l z = some (S.map toSh)) (hs : ∀ s ∈ S, ratE s.2 = 0) (h2 : S.length ≤ 2) :
    ∀ (W : List (Nat × Rat)) (acc : List WeightD), acc.length + 2 * W.length ≤ 1000 → (∀ p ∈ W, ratE p.2 = 0 ∧ ∀ s ∈ S, ratE (p.2 * s.2) = 0 ∧ p.1 * l.length + s.1 < 100000) →
    interp_Weights_l21 p1 k l J (W.map toWt) acc = J (acc ++ (wstep l.length W S).map toWt)
  | [], acc, _, _ => by simp [interp_Weights_l21, wstep_nil]
  | p :: W, acc, hl, hw => by
    obtain ⟨g1, g2⟩ := hw p (by simp)
    rw [List.map_cons, interp_Weights_l21, lt, bnds (ixT (k := k) rfl hz), bnds hS, List.drop_zero, l34 _ g1 S acc (by simp at hl; omega) fun s h => ⟨hs s h, g2 s h⟩]
    rw [l21 J hz hS hs h2 W _ (by simp at hl ⊢; omega) fun q hq => hw q (by simp [hq]), wstep_cons, List.map_append, List.append_assoc, List.map_map]
    rfl
theorem k128 : 1000000000000000 < K128 := by
  refine Nat.lt_of_lt_of_le (show 1000000000000000 < 4294967296 ^ 2 by decide) ?_
  exact Nat.pow_le_pow_right (by decide) (by decide)
/-- The weights of a situation. -/
def WSpec (a b c : List Int) (x y z : Int) (W : List (Nat × Rat)) : Prop :=
  ∃ Sa Sb Sc, ShSpec a (clampL a x) Sa ∧ ShSpec b (clampL b y) Sb ∧ ShSpec c (clampL c z) Sc ∧ W = wstep c.length (wstep b.length (wstep a.length [(0, 1)] Sa) Sb) Sc
theorem WSpec.db {a b c : List Int} (ha : Axis a) (hb : Axis b) (hc : Axis c) {x y z : Int} {W : List (Nat × Rat)} (h : WSpec a b c x y z W) : W.length ≤ 8 ∧ (∀ p ∈ W, p.1 < a.length * b.length * c.length) ∧ ∃ d, d ≠ 0 ∧ d ≤ 1000000000000000 ∧ ∀ p ∈ W, DB d d p.2 := by
  obtain ⟨Sa, Sb, Sc, h1, h2, h3, rfl⟩ := h
  obtain ⟨a1, a2, da, a3, a4, a5⟩ := h1.db ha
  obtain ⟨b1, b2, db, b3, b4, b5⟩ := h2.db hb
  obtain ⟨c1, c2, dc, c3, c4, c5⟩ := h3.db hc
  refine ⟨?_, ?_, (1 * da) * db * dc, ?_, ?_, ?_⟩
  · exact wstep_len c1 (wstep_len b1 (wstep_len a1 (n := 1) (by simp)))
  · have := wstep_lt (wstep_lt (wstep_lt (N := 1) (W := [(0, 1)]) (fun p hp => by rw [List.mem_singleton.1 hp]; decide) a2) b2) c2
    simpa using this
  · exact Nat.mul_ne_zero (Nat.mul_ne_zero (Nat.mul_ne_zero (by decide) a3) b3) c3
  · have e1 : 1 * da * db ≤ 1 * 100000 * 100000 := Nat.mul_le_mul (Nat.mul_le_mul (Nat.le_refl _) a4) b4
    exact Nat.le_trans (Nat.mul_le_mul e1 c4) (by decide)
  · exact wstep_db (wstep_db (wstep_db (D := 1) (B := 1) (fun p hp => by rw [List.mem_singleton.1 hp]; exact ⟨1, rfl, Nat.le_refl _⟩) a5) b5) c5
theorem weights_p {a b c : List Int} (ha : Axis a) (hb : Axis b) (hc : Axis c) (hck : interp_Check_p [a, b, c] = some 0) (x y z : Int) : ∃ W, WSpec a b c x y z W ∧ interp_Weights_p [a, b, c] [x, y, z] = some (W.map toWt, 0) := by
  obtain ⟨Sa, h1, e1⟩ := shares_p ha x
  obtain ⟨Sb, h2, e2⟩ := shares_p hb y
  obtain ⟨Sc, h3, e3⟩ := shares_p hc z
  refine ⟨_, ⟨Sa, Sb, Sc, h1, h2, h3, rfl⟩, ?_⟩
  obtain ⟨a1, a2, da, a3, a4, a5⟩ := h1.db ha
  obtain ⟨b1, b2, db, b3, b4, b5⟩ := h2.db hb
  obtain ⟨c1, c2, dc, c3, c4, c5⟩ := h3.db hc
  have la := ha.le
  have lb := hb.le
  have lc := hc.le
  have w1 : ∀ p ∈ [((0 : Nat), (1 : Rat))], DB 1 1 p.2 := fun p hp => by rw [List.mem_singleton.1 hp]; exact ⟨1, rfl, Nat.le_refl _⟩
  have w2 := wstep_db (len := a.length) w1 a5
  have w3 := wstep_db (len := b.length) w2 b5
  have w4 := wstep_db (len := c.length) w3 c5
  have v1 : ∀ p ∈ [((0 : Nat), (1 : Rat))], p.1 < 1 := fun p hp => by rw [List.mem_singleton.1 hp]; decide
  have v2 := wstep_lt v1 a2
  have v3 := wstep_lt v2 b2
  have v4 := wstep_lt v3 c2
  have n2 := wstep_len (len := a.length) a1 (W := [((0 : Nat), (1 : Rat))]) (n := 1) (by simp)
  have n3 := wstep_len (len := b.length) b1 n2
  have m1 : 1 * a.length ≤ 32 := by omega
  have m2 : 1 * a.length * b.length ≤ 32 * 32 := Nat.mul_le_mul m1 lb
  have m3 : 1 * a.length * b.length * c.length ≤ 32 * 32 * 32 := Nat.mul_le_mul m2 lc
  have d1 : 1 * da ≤ 100000 := by omega
  have d2 : 1 * da * db ≤ 100000 * 100000 := Nat.mul_le_mul d1 b4
  have d3 : 1 * da * db * dc ≤ 100000 * 100000 * 100000 := Nat.mul_le_mul d2 c4
  have kk := k128
  have fz : ∀ {d : Nat} {q : Rat}, d ≤ 1000000000000000 → DB d d q → ratE q = 0 := fun hd h => h.fit (Nat.lt_of_le_of_lt hd kk) (Nat.lt_of_le_of_lt hd kk)
  unfold interp_Weights_p
  rw [bnds hck, if_neg (by decide), if_neg (by simp), show rat_From_p (1 : Int) = some (Raw.of ((1 : Int) : Rat)) from grdT (by decide), Option.bind_some, lt]
  show interp_Weights_l14 [x, y, z] _ [a, b, c] 0 ([((0 : Nat), (1 : Rat))].map toWt) = _
  rw [interp_Weights_l14, lt, List.drop_zero, l21 _ (z := x) rfl e1 (fun s h => fz (by omega) (a5 s h)) a1 _ _ (by simp) fun p hp => ⟨fz (by omega) (w1 p hp), fun s h => ⟨fz (by omega) ((w1 p hp).mul (a5 s h)), by
    have := v2 (p.1 * a.length + s.1, p.2 * s.2) (List.mem_flatMap.2 ⟨p, hp, List.mem_map.2 ⟨s, h, rfl⟩⟩)
    simp only [] at this; omega⟩⟩, List.nil_append]
  rw [interp_Weights_l14, lt, List.drop_zero, l21 _ (z := y) rfl e2 (fun s h => fz (by omega) (b5 s h)) b1 _ _ (by simp; omega) fun p hp => ⟨fz (by omega) (w2 p hp), fun s h => ⟨fz (by omega) ((w2 p hp).mul (b5 s h)), by
    have := v3 (p.1 * b.length + s.1, p.2 * s.2) (List.mem_flatMap.2 ⟨p, hp, List.mem_map.2 ⟨s, h, rfl⟩⟩)
    simp only [] at this; omega⟩⟩, List.nil_append]
  rw [interp_Weights_l14, lt, List.drop_zero, l21 _ (z := z) rfl e3 (fun s h => fz (by omega) (c5 s h)) c1 _ _ (by simp; omega) fun p hp => ⟨fz (by omega) (w3 p hp), fun s h => ⟨fz (by omega) ((w3 p hp).mul (c5 s h)), by
    have := v4 (p.1 * c.length + s.1, p.2 * s.2) (List.mem_flatMap.2 ⟨p, hp, List.mem_map.2 ⟨s, h, rfl⟩⟩)
    simp only [] at this; omega⟩⟩, List.nil_append]
  rw [interp_Weights_l14]
end Go.Proofs.YtppalofalmieaaaGreat
/- What spread answers, in plain words. By an AI agent. -/
namespace Go.Proofs.YtppalofalmieaaaGreat
open Go Go.Gv Go.RowKit
set_option maxRecDepth 100000
set_option maxHeartbeats 1000000
theorem Axis.inj {l : List Int} (h : Axis l) {i j : Nat} {x : Int} (hx : l[i]? = some x) (hy : l[j]? = some x) : i = j := by
  rcases Nat.lt_trichotomy i j with e | e | e
  · exact absurd (h.lt e hx hy) (Int.lt_irrefl _)
  · exact e
  · exact absurd (h.lt e hy hx) (Int.lt_irrefl _)
theorem Axis.mid {l : List Int} (h : Axis l) {k j : Nat} {a b c : Int} (h1 : l[k]? = some a) (h2 : l[k + 1]? = some b) (h3 : a < c) (h4 : c < b) (hc : l[j]? = some c) : False := by
  rcases Nat.lt_trichotomy j k with e | e | e
  · have := h.lt e hc h1; omega
  · subst e; rw [hc] at h1; cases h1; omega
  · rcases Nat.lt_or_eq_of_le (Nat.succ_le_of_lt e) with e2 | e2
    · have := h.lt e2 h2 hc; omega
    · have e3 : j = k + 1 := by omega
      subst e3; rw [hc] at h2; cases h2; omega
theorem Axis.mid2 {l : List Int} (h : Axis l) {k j : Nat} {a b a' b' c : Int} (h1 : l[k]? = some a) (h2 : l[k + 1]? = some b) (h3 : a < c) (h4 : c < b) (k1 : l[j]? = some a') (k2 : l[j + 1]? = some b') (k3 : a' < c) (k4 : c < b') : ¬ k < j := by
  intro e
  rcases Nat.lt_or_eq_of_le (Nat.succ_le_of_lt e) with e2 | e2
  · have := h.lt e2 h2 k1; omega
  · have e3 : j = k + 1 := by omega
    subst e3; rw [k1] at h2; cases h2; omega
theorem ShSpec.unique {l : List Int} (h : Axis l) {c : Int} {S S' : List (Nat × Rat)} (h1 : ShSpec l c S) (h2 : ShSpec l c S') : S = S' := by
  rcases h1 with ⟨k, a1, rfl⟩ | ⟨k, a, b, a1, a2, a3, a4, rfl⟩
  · rcases h2 with ⟨j, b1, rfl⟩ | ⟨j, a', b', b1, b2, b3, b4, rfl⟩
    · rw [h.inj a1 b1]
    · exact (h.mid b1 b2 b3 b4 a1).elim
  · rcases h2 with ⟨j, b1, rfl⟩ | ⟨j, a', b', b1, b2, b3, b4, rfl⟩
    · exact (h.mid a1 a2 a3 a4 b1).elim
    · have e : k = j := by
        have e1 := h.mid2 a1 a2 a3 a4 b1 b2 b3 b4
        have e2 := h.mid2 b1 b2 b3 b4 a1 a2 a3 a4
        omega
      subst e
      rw [a1] at b1; cases b1
      rw [a2] at b2; cases b2
      rfl
theorem WSpec.unique {a b c : List Int} (ha : Axis a) (hb : Axis b) (hc : Axis c) {x y z : Int} {W W' : List (Nat × Rat)} (h : WSpec a b c x y z W) (k : WSpec a b c x y z W') : W = W' := by
  obtain ⟨Sa, Sb, Sc, h1, h2, h3, rfl⟩ := h
  obtain ⟨Ta, Tb, Tc, k1, k2, k3, rfl⟩ := k
  rw [h1.unique ha k1, h2.unique hb k2, h3.unique hc k3]
noncomputable def Wf (a b c : List Int) (x y z : Int) : List (Nat × Rat) := Classical.epsilon (WSpec a b c x y z)
theorem Wf_spec {a b c : List Int} (ha : Axis a) (hb : Axis b) (hc : Axis c) (hck : interp_Check_p [a, b, c] = some 0) (x y z : Int) : WSpec a b c x y z (Wf a b c x y z) ∧ interp_Weights_p [a, b, c] [x, y, z] = some ((Wf a b c x y z).map toWt, 0) := by
  obtain ⟨W, h1, h2⟩ := weights_p ha hb hc hck x y z
  have h3 : WSpec a b c x y z (Wf a b c x y z) := Classical.epsilon_spec ⟨W, h1⟩
  exact ⟨h3, by rw [h3.unique ha hb hc h1]; exact h2⟩
/-! ### Maps of sums -/
def addK (m : List (Int × Rat)) (t : Int × Rat) : List (Int × Rat) := putP t.1 (getP t.1 0 m + t.2) m
def mapR (m : List (Int × Rat)) : List (Int × Raw) := m.map fun p => (p.1, Raw.of p.2)
theorem of0 : Raw.of 0 = Raw.zero := by kernel_rfl
theorem getP_map (k : Int) : ∀ m : List (Int × Rat), getP k Raw.zero (mapR m) = Raw.of (getP k 0 m)
  | [] => of0.symm
  | p :: m => by
    show (bif k == p.1 then Raw.of p.2 else getP k Raw.zero (mapR m)) = Raw.of (bif k == p.1 then p.2 else getP k 0 m)
    rw [getP_map k m]
    cases k == p.1 <;> rfl
theorem putP_map (k : Int) (q : Rat) : ∀ m : List (Int × Rat), putP k (Raw.of q) (mapR m) = mapR (putP k q m)
  | [] => rfl
  | p :: m => by
    show (bif k == p.1 then (k, Raw.of q) :: mapR m else (p.1, Raw.of p.2) :: putP k (Raw.of q) (mapR m)) = mapR (bif k == p.1 then (k, q) :: m else p :: putP k q m)
    rw [putP_map k q m]
    cases k == p.1 <;> rfl
theorem beqT {k j : Int} (h : k = j) : (k == j) = true := by simpa using h
theorem beqF {k j : Int} (h : ¬ k = j) : (k == j) = false := by simpa using h
theorem getP_put {α : Type} (k j : Int) (z v : α) : ∀ m : List (Int × α), getP k z (putP j v m) = if k = j then v else getP k z m
  | [] => by
    show (bif k == j then v else z) = if k = j then v else z
    by_cases h : k = j
    · rw [beqT h, if_pos h]; rfl
    · rw [beqF h, if_neg h]; rfl
  | p :: m => by
    show getP k z (bif j == p.1 then (j, v) :: m else p :: putP j v m) = if k = j then v else (bif k == p.1 then p.2 else getP k z m)
    by_cases h : j = p.1
    · rw [beqT h, cond_true]
      show (bif k == j then v else getP k z m) = _
      by_cases h2 : k = j
      · rw [beqT h2, if_pos h2]; rfl
      · have h3 : ¬ k = p.1 := h ▸ h2
        rw [beqF h2, if_neg h2, beqF h3]; rfl
    · rw [beqF h, cond_false]
      show (bif k == p.1 then p.2 else getP k z (putP j v m)) = _
      rw [getP_put k j z v m]
      by_cases h2 : k = p.1
      · have h3 : ¬ k = j := fun e => h (e ▸ h2)
        rw [beqT h2, cond_true, cond_true, if_neg h3]
      · rw [beqF h2, cond_false, cond_false]
theorem keys_put {α : Type} (j : Int) (v : α) : ∀ m : List (Int × α), (putP j v m).map Prod.fst = if j ∈ m.map Prod.fst then m.map Prod.fst else m.map Prod.fst ++ [j]
  | [] => rfl
  | p :: m => by
    show (bif j == p.1 then (j, v) :: m else p :: putP j v m).map Prod.fst = _
    by_cases h : j = p.1
    · simp [h]
    · rw [show (j == p.1) = false by simp [h], cond_false, List.map_cons, keys_put j v m, List.map_cons]
      by_cases h2 : j ∈ m.map Prod.fst
      · rw [if_pos h2, if_pos (List.mem_cons_of_mem _ h2)]
      · rw [if_neg h2, if_neg (by simp only [List.mem_cons, not_or]; exact ⟨h, h2⟩), List.cons_append]
def sumAt (k : Int) : List (Int × Rat) → Rat
  | [] => 0
  | t :: l => (if t.1 = k then t.2 else 0) + sumAt k l
theorem getP_fold (k : Int) : ∀ (T m : List (Int × Rat)), getP k 0 (T.foldl addK m) = getP k 0 m + sumAt k T
  | [], m => by simp [sumAt, Rat.add_zero]
  | t :: T, m => by
    rw [List.foldl_cons, getP_fold k T, addK, getP_put, sumAt]
    by_cases h : k = t.1
    · subst h; simp only [if_true]; rw [Rat.add_assoc]
    · rw [if_neg h, if_neg (fun e => h e.symm), Rat.zero_add]
theorem keys_fold : ∀ (T m : List (Int × Rat)), (m.map Prod.fst).Nodup → ((T.foldl addK m).map Prod.fst).Nodup ∧ ∀ k, k ∈ (T.foldl addK m).map Prod.fst ↔ k ∈ m.map Prod.fst ∨ k ∈ T.map Prod.fst
  | [], m, h => ⟨h, fun k => by simp⟩
  | t :: T, m, h => by
    have hn : ((addK m t).map Prod.fst).Nodup := by
      rw [addK, keys_put]
      split
      · exact h
      · rename_i h2; exact List.nodup_append.2 ⟨h, by simp, fun a ha b hb => by rw [List.mem_singleton.1 hb]; exact fun e => h2 (e ▸ ha)⟩
    obtain ⟨h1, h2⟩ := keys_fold T (addK m t) hn
    refine ⟨h1, fun k => ?_⟩
    rw [List.foldl_cons, h2 k, addK, keys_put, List.map_cons, List.mem_cons]
    split
    · rename_i h3
      constructor
      · rintro (h4 | h4)
        · exact .inl h4
        · exact .inr (.inr h4)
      · rintro (h4 | rfl | h4)
        · exact .inl h4
        · exact .inl h3
        · exact .inr h4
    · rw [List.mem_append, List.mem_singleton]
      constructor
      · rintro ((h4 | rfl) | h4)
        · exact .inl h4
        · exact .inr (.inl rfl)
        · exact .inr (.inr h4)
      · rintro (h4 | rfl | h4)
        · exact .inl (.inl h4)
        · exact .inl (.inr rfl)
        · exact .inr h4
/-! ### spread -/
def keyZ (n : Nat) (b : Int) (v : Nat) : Int := ((v * n : Nat) : Int) + b
theorem l72 {x : ModelD} {b : Int} {pq : Rat} {e : Int} {D B : Nat} (J : List (Int × Raw) → Option (List Out × Int)) (ha : x.advisories.length ≤ 6) (hb : 0 ≤ b ∧ b < 6) (hpq : ratE pq = 0) (hD0 : D ≠ 0) (hD : D < K128) : ∀ (W : List (Nat × Rat)) (m : List (Int × Rat)) (n : Nat), (∀ w ∈ W, ratE w.2 = 0 ∧ ratE (pq * w.2) = 0 ∧ DB D B (pq * w.2) ∧ w.1 < 100000) → (∀ k, DB D (B * n) (getP k 0 m)) → B * (n + W.length) < K128 →
    dynamics_spread_l72 x b (Raw.of pq, e) J (W.map toWt) (mapR m) = J (mapR ((W.map fun w => (keyZ x.advisories.length b w.1, pq * w.2)).foldl addK m)) ∧ ∀ k, DB D (B * (n + W.length)) (getP k 0 ((W.map fun w => (keyZ x.advisories.length b w.1, pq * w.2)).foldl addK m))
  | [], m, n, _, hm, _ => ⟨by simp [dynamics_spread_l72], fun k => hm k⟩
  | w :: W, m, n, hw, hm, hB => by
    obtain ⟨w1, w2, w3, w4⟩ := hw w (by simp)
    have hB1 : B * (n + 1) ≤ B * (n + (w :: W).length) := Nat.mul_le_mul_left _ (by simp)
    have hB0 : B * n ≤ B * (n + (w :: W).length) := Nat.mul_le_mul_left _ (by simp)
    have hadd := (hm (keyZ x.advisories.length b w.1)).add hD0 w3
    have hadd' : DB D (B * (n + 1)) (getP (keyZ x.advisories.length b w.1) 0 m + pq * w.2) := by rw [Nat.mul_succ]; exact hadd
    have hm' : ∀ k, DB D (B * (n + 1)) (getP k 0 (addK m (keyZ x.advisories.length b w.1, pq * w.2))) := fun k => by
      rw [addK, getP_put]
      split
      · exact hadd'
      · exact (hm k).mono (Nat.mul_le_mul_left _ (by omega))
    obtain ⟨i1, i2⟩ := l72 J ha hb hpq hD0 hD W (addK m (keyZ x.advisories.length b w.1, pq * w.2)) (n + 1) (fun q hq => hw q (by simp [hq])) hm' (by rw [show n + 1 + W.length = n + (w :: W).length by simp; omega]; exact hB)
    refine ⟨?_, fun k => ?_⟩
    · rw [List.map_cons, dynamics_spread_l72]
      have e1 : rat_Mul_p (Raw.of pq, e).1 (toWt w).w = some (Raw.of (pq * w.2), 0) := by
        unfold rat_Mul_p
        rw [show (toWt w).w = Raw.of w.2 from rfl, Raw.of_rat, Raw.of_rat, (opR_fit (of_fit hpq).1 (of_fit w1).1 w2).1, (opR_fit (of_fit hpq).1 (of_fit w1).1 w2).2]
      have ek : IntKind.i64.wrap (IntKind.i64.wrap ((toWt w).vertex * (x.advisories.length : Int)) + b) = keyZ x.advisories.length b w.1 := by
        show IntKind.i64.wrap (IntKind.i64.wrap ((w.1 : Int) * (x.advisories.length : Int)) + b) = _
        have hle : w.1 * x.advisories.length ≤ 100000 * 6 := Nat.mul_le_mul (Nat.le_of_lt w4) ha
        unfold keyZ
        obtain ⟨t, ht⟩ : ∃ t, t = w.1 * x.advisories.length := ⟨_, rfl⟩
        rw [← ht] at hle ⊢
        rw [← Int.natCast_mul, ← ht, wi64 (x := (t : Int)) (by omega) (by omega), wi64 (by omega) (by omega)]
      have hkr : -9223372036854775808 ≤ keyZ x.advisories.length b w.1 ∧ keyZ x.advisories.length b w.1 ≤ 9223372036854775807 := by
        have hle : w.1 * x.advisories.length ≤ 100000 * 6 := Nat.mul_le_mul (Nat.le_of_lt w4) ha
        unfold keyZ
        omega
      have f0 : ratE (getP (keyZ x.advisories.length b w.1) 0 m) = 0 := (hm _).fit hD (Nat.lt_of_le_of_lt hB0 hB)
      have f1 : ratE (getP (keyZ x.advisories.length b w.1) 0 m + pq * w.2) = 0 := hadd'.fit hD (Nat.lt_of_le_of_lt hB1 hB)
      rw [bnds e1, ek]
      show ((some (getP (keyZ x.advisories.length b w.1) Raw.zero (mapR m))).bind _) = _
      rw [Option.bind_some, getP_map]
      have e2 : rat_Add_p (Raw.of (getP (keyZ x.advisories.length b w.1) 0 m)) (Raw.of (pq * w.2)) = some (Raw.of (getP (keyZ x.advisories.length b w.1) 0 m + pq * w.2), 0) := by
        unfold rat_Add_p
        rw [Raw.of_rat, Raw.of_rat, (opR_fit (of_fit f0).1 (of_fit w2).1 f1).1, (opR_fit (of_fit f0).1 (of_fit w2).1 f1).2]
      show ((rat_Add_p (Raw.of (getP (keyZ x.advisories.length b w.1) 0 m)) (Raw.of (pq * w.2))).bind _) = _
      rw [bnds e2, grdT hkr]
      show dynamics_spread_l72 x b (Raw.of pq, e) J (W.map toWt) (putP _ (Raw.of _) (mapR m)) = _
      rw [putP_map]
      exact i1
    · rw [List.map_cons, List.foldl_cons, show n + (w :: W).length = n + 1 + W.length by simp; omega]
      exact i2 k
/-- A noise whose number is good. -/
structure NZ (n : NoiseD) : Prop where
  chk : n.p.chk = 0
  db : DB n.p.d (2 ^ 256) n.p.rat
  d : n.p.d ≤ 2 ^ 256
  lo : -100 ≤ n.delta
  hi : n.delta ≤ 100
structure Env (x : ModelD) (h u v b r : Int) : Prop where
  h1 : Axis x.height
  h2 : Axis x.own
  h3 : Axis x.other
  ck : interp_Check_p [x.height, x.own, x.other] = some 0
  a0 : 1 ≤ x.advisories.length
  a : x.advisories.length ≤ 6
  b0 : 0 ≤ b
  b1 : b < 6
  rr : dynamics_respond_p x u b = some r
  r0 : -1000 ≤ r
  r1 : r ≤ 1000
  hb : -100000 ≤ h ∧ h ≤ 100000
  ub : -100 ≤ u ∧ u ≤ 100
  vb : -100 ≤ v ∧ v ≤ 100
  o1 : ∀ n ∈ x.ownNoise, NZ n
  o2 : ∀ n ∈ x.otherNoise, NZ n
  l1 : x.ownNoise.length ≤ 5
  l2 : x.otherNoise.length ≤ 5
/-- The terms of one pair of noises. -/
noncomputable def pairT (x : ModelD) (h u v b r : Int) (n o : NoiseD) : List (Int × Rat) :=
  (Wf x.height x.own x.other (h + v - u) (r + n.delta) (v + o.delta)).map fun w => (keyZ x.advisories.length b w.1, n.p.rat * o.p.rat * w.2)
noncomputable def termsT (x : ModelD) (h u v b r : Int) : List (Int × Rat) := x.ownNoise.flatMap fun n => x.otherNoise.flatMap fun o => pairT x h u v b r n o
section
variable {x : ModelD} {h u v b r : Int}
/-- Denominators of the shares. -/
theorem Env.dens (E : Env x h u v b r) : ∃ (da : Nat) (fo ft : NoiseD → Nat), (da ≠ 0 ∧ da ≤ 100000) ∧ (∀ n, fo n ≠ 0 ∧ fo n ≤ 100000) ∧ (∀ n, ft n ≠ 0 ∧ ft n ≤ 100000) ∧ ∀ n o, ∀ w ∈ Wf x.height x.own x.other (h + v - u) (r + n.delta) (v + o.delta), DB (da * fo n * ft o) (da * fo n * ft o) w.2 := by
  have key : ∀ (l : List Int) (hl : Axis l) (c : Int), ∃ d, (d ≠ 0 ∧ d ≤ 100000) ∧ ∀ S, ShSpec l (clampL l c) S → ∀ s ∈ S, DB d d s.2 := fun l hl c => by
    obtain ⟨S, h1, _⟩ := shares_p hl c
    obtain ⟨_, _, d, h2, h3, h4⟩ := h1.db hl
    exact ⟨d, ⟨h2, h3⟩, fun T hT => by rw [hT.unique hl h1]; exact h4⟩
  obtain ⟨da, k1, k2⟩ := key _ E.h1 (h + v - u)
  obtain ⟨fo, k3⟩ := Classical.skolem.1 fun n : NoiseD => key _ E.h2 (r + n.delta)
  obtain ⟨ft, k4⟩ := Classical.skolem.1 fun n : NoiseD => key _ E.h3 (v + n.delta)
  refine ⟨da, fo, ft, k1, fun n => (k3 n).1, fun n => (k4 n).1, fun n o => ?_⟩
  obtain ⟨Sa, Sb, Sc, s1, s2, s3, e⟩ := (Wf_spec E.h1 E.h2 E.h3 E.ck (h + v - u) (r + n.delta) (v + o.delta)).1
  rw [e]
  have := wstep_db (len := x.other.length) (wstep_db (len := x.own.length) (wstep_db (len := x.height.length) (D := 1) (B := 1) (W := [(0, 1)]) (fun p hp => by rw [List.mem_singleton.1 hp]; exact ⟨1, rfl, Nat.le_refl _⟩) (k2 Sa s1)) ((k3 n).2 Sb s2)) ((k4 o).2 Sc s3)
  simpa only [Nat.one_mul] using this
/-- One denominator for all. -/
theorem Env.common (E : Env x h u v b r) : ∃ D B : Nat, D ≠ 0 ∧ D < K128 ∧ B * 1000000000000 < K128 ∧ ∀ n ∈ x.ownNoise, ∀ o ∈ x.otherNoise, ratE (n.p.rat * o.p.rat) = 0 ∧ ∀ w ∈ Wf x.height x.own x.other (h + v - u) (r + n.delta) (v + o.delta), ratE w.2 = 0 ∧ ratE (n.p.rat * o.p.rat * w.2) = 0 ∧ DB D B (n.p.rat * o.p.rat * w.2) ∧ w.1 < 100000 := by
  obtain ⟨da, fo, ft, k1, k2, k3, k4⟩ := E.dens
  obtain ⟨D, hD⟩ : ∃ D, D = prodN (x.ownNoise.map (·.p.d)) * prodN (x.otherNoise.map (·.p.d)) * (da * prodN (x.ownNoise.map fo) * prodN (x.otherNoise.map ft)) := ⟨_, rfl⟩
  have p1 : prodN (x.ownNoise.map (·.p.d)) ≤ (2 ^ 256) ^ 5 := prodN_le (by decide) (fun y hy => by obtain ⟨n, hn, rfl⟩ := List.mem_map.1 hy; exact (E.o1 n hn).d) (by simpa using E.l1)
  have p2 : prodN (x.otherNoise.map (·.p.d)) ≤ (2 ^ 256) ^ 5 := prodN_le (by decide) (fun y hy => by obtain ⟨n, hn, rfl⟩ := List.mem_map.1 hy; exact (E.o2 n hn).d) (by simpa using E.l2)
  have p3 : prodN (x.ownNoise.map fo) ≤ 100000 ^ 5 := prodN_le (by decide) (fun y hy => by obtain ⟨n, hn, rfl⟩ := List.mem_map.1 hy; exact (k2 n).2) (by simpa using E.l1)
  have p4 : prodN (x.otherNoise.map ft) ≤ 100000 ^ 5 := prodN_le (by decide) (fun y hy => by obtain ⟨n, hn, rfl⟩ := List.mem_map.1 hy; exact (k3 n).2) (by simpa using E.l2)
  have hD0 : D ≠ 0 := by
    rw [hD]
    refine Nat.mul_ne_zero (Nat.mul_ne_zero ?_ ?_) (Nat.mul_ne_zero (Nat.mul_ne_zero k1.1 ?_) ?_)
    · exact prodN_pos fun y hy => by obtain ⟨n, hn, rfl⟩ := List.mem_map.1 hy; exact Nat.ne_of_gt (Raw.d_pos _)
    · exact prodN_pos fun y hy => by obtain ⟨n, hn, rfl⟩ := List.mem_map.1 hy; exact Nat.ne_of_gt (Raw.d_pos _)
    · exact prodN_pos fun y hy => by obtain ⟨n, hn, rfl⟩ := List.mem_map.1 hy; exact (k2 n).1
    · exact prodN_pos fun y hy => by obtain ⟨n, hn, rfl⟩ := List.mem_map.1 hy; exact (k3 n).1
  have hDle : D ≤ (2 ^ 256) ^ 5 * (2 ^ 256) ^ 5 * (100000 * 100000 ^ 5 * 100000 ^ 5) := by
    rw [hD]
    exact Nat.mul_le_mul (Nat.mul_le_mul p1 p2) (Nat.mul_le_mul (Nat.mul_le_mul k1.2 p3) p4)
  refine ⟨D, (2 ^ 256 * 2 ^ 256 * (100000 * 100000 * 100000)) * D, hD0, Nat.lt_of_le_of_lt hDle (by decide), ?_, fun n hn o ho => ?_⟩
  · refine Nat.lt_of_le_of_lt (Nat.mul_le_mul_right _ (Nat.mul_le_mul_left _ hDle)) (by decide)
  have zn := E.o1 n hn
  have zo := E.o2 o ho
  have b0 := zn.db.mul zo.db
  have hw3 : da * fo n * ft o ≤ 100000 * 100000 * 100000 := Nat.mul_le_mul (Nat.mul_le_mul k1.2 (k2 n).2) (k3 o).2
  refine ⟨b0.fit (Nat.lt_of_le_of_lt (Nat.mul_le_mul zn.d zo.d) (by decide)) (by decide), fun w hw => ?_⟩
  have b1 := k4 n o w hw
  have b2 := b0.mul b1
  have hdv : n.p.d * o.p.d * (da * fo n * ft o) ∣ D := by
    rw [hD]
    refine Nat.mul_dvd_mul (Nat.mul_dvd_mul (prodN_dvd ?_) (prodN_dvd ?_)) (Nat.mul_dvd_mul (Nat.mul_dvd_mul (Nat.dvd_refl _) (prodN_dvd ?_)) (prodN_dvd ?_))
    · exact List.mem_map.2 ⟨n, hn, rfl⟩
    · exact List.mem_map.2 ⟨o, ho, rfl⟩
    · exact List.mem_map.2 ⟨n, hn, rfl⟩
    · exact List.mem_map.2 ⟨o, ho, rfl⟩
  have hW := (Wf_spec E.h1 E.h2 E.h3 E.ck (h + v - u) (r + n.delta) (v + o.delta)).1.db E.h1 E.h2 E.h3
  have hv := hW.2.1 w hw
  have n1 := E.h1.le
  have n2 := E.h2.le
  have n3 := E.h3.le
  have nn : x.height.length * x.own.length * x.other.length ≤ 32 * 32 * 32 := Nat.mul_le_mul (Nat.mul_le_mul n1 n2) n3
  refine ⟨b1.fit (Nat.lt_of_le_of_lt hw3 (by decide)) (Nat.lt_of_le_of_lt hw3 (by decide)), b2.fit (Nat.lt_of_le_of_lt (Nat.mul_le_mul (Nat.mul_le_mul zn.d zo.d) hw3) (by decide)) (Nat.lt_of_le_of_lt (Nat.mul_le_mul_left _ hw3) (by decide)), ?_, by omega⟩
  exact (b2.dvd hdv hD0).mono (Nat.mul_le_mul_right _ (Nat.mul_le_mul_left _ hw3))
end
end Go.Proofs.YtppalofalmieaaaGreat
/- What spread answers: the list of the sums. By an AI agent. -/
namespace Go.Proofs.YtppalofalmieaaaGreat
open Go Go.Gv Go.RowKit
set_option maxRecDepth 100000
set_option maxHeartbeats 1000000
section
variable {x : ModelD} {h u v b r : Int}
theorem nz_out {n o : NoiseD} (h1 : NZ n) (h2 : NZ o) (hf : ratE (n.p.rat * o.p.rat) = 0) : rat_Mul_p n.p o.p = some (Raw.of (n.p.rat * o.p.rat), 0) := by
  unfold rat_Mul_p
  rw [(opR_fit h1.chk h2.chk hf).1, (opR_fit h1.chk h2.chk hf).2]
theorem l35 (E : Env x h u v b r) {D B : Nat} (hD0 : D ≠ 0) (hD : D < K128) {n : NoiseD} (hn : n ∈ x.ownNoise)
    (hc : ∀ o ∈ x.otherNoise, ratE (n.p.rat * o.p.rat) = 0 ∧ ∀ w ∈ Wf x.height x.own x.other (h + v - u) (r + n.delta) (v + o.delta), ratE w.2 = 0 ∧ ratE (n.p.rat * o.p.rat * w.2) = 0 ∧ DB D B (n.p.rat * o.p.rat * w.2) ∧ w.1 < 100000)
    (J : List (Int × Raw) → Option (List Out × Int)) : ∀ (os : List NoiseD) (m : List (Int × Rat)) (c : Nat), (∀ o ∈ os, o ∈ x.otherNoise) → (∀ k, DB D (B * c) (getP k 0 m)) → B * (c + 8 * os.length) < K128 →
    dynamics_spread_l35 x h u v b n J os (mapR m) = J (mapR ((os.flatMap fun o => pairT x h u v b r n o).foldl addK m)) ∧ ∀ k, DB D (B * (c + 8 * os.length)) (getP k 0 ((os.flatMap fun o => pairT x h u v b r n o).foldl addK m))
  | [], m, c, _, hm, _ => ⟨by simp [dynamics_spread_l35], fun k => by simpa using hm k⟩
  | o :: os, m, c, hos, hm, hB => by
    have ho := hos o (by simp)
    obtain ⟨f1, f2⟩ := hc o ho
    obtain ⟨s1, s2⟩ := Wf_spec E.h1 E.h2 E.h3 E.ck (h + v - u) (r + n.delta) (v + o.delta)
    obtain ⟨g1, _, _⟩ := s1.db E.h1 E.h2 E.h3
    have hlen : c + 8 * (o :: os).length = c + 8 + 8 * os.length := by simp; omega
    have hle : B * (c + (Wf x.height x.own x.other (h + v - u) (r + n.delta) (v + o.delta)).length) ≤ B * (c + 8 * (o :: os).length) := Nat.mul_le_mul_left _ (by rw [hlen]; omega)
    obtain ⟨i1, i2⟩ := l72 (x := x) (b := b) (pq := n.p.rat * o.p.rat) (e := 0) (D := D) (B := B) (fun v72 => dynamics_spread_l35 x h u v b n J os v72) E.a ⟨E.b0, E.b1⟩ f1 hD0 hD _ m c f2 hm (Nat.lt_of_le_of_lt hle hB)
    have hm' : ∀ k, DB D (B * (c + 8)) (getP k 0 ((pairT x h u v b r n o).foldl addK m)) := fun k => (i2 k).mono (Nat.mul_le_mul_left _ (by omega))
    obtain ⟨j1, j2⟩ := l35 E hD0 hD hn hc J os _ (c + 8) (fun q hq => hos q (by simp [hq])) hm' (by rw [← hlen]; exact hB)
    have zn := E.o1 n hn
    have zo := E.o2 o ho
    have q1 := E.hb; have q2 := E.ub; have q3 := E.vb; have q4 := E.r0; have q5 := E.r1; have q6 := zn.lo; have q7 := zn.hi; have q8 := zo.lo; have q9 := zo.hi
    rw [List.flatMap_cons, List.foldl_append, hlen]
    refine ⟨?_, j2⟩
    rw [dynamics_spread_l35, bnds (nz_out zn zo f1), show dynamics_grid_p x = some [x.height, x.own, x.other] from rfl, Option.bind_some, bnds E.rr]
    rw [wi64 (x := h + v) (by omega) (by omega), wi64 (x := h + v - u) (by omega) (by omega), wi64 (x := r + n.delta) (by omega) (by omega), wi64 (x := v + o.delta) (by omega) (by omega), bnds s2, if_neg (by show ¬ ((0 : Int) != 0) = true; decide), lt, List.drop_zero]
    exact i1.trans j1
theorem l27 (E : Env x h u v b r) {D B : Nat} (hD0 : D ≠ 0) (hD : D < K128)
    (hc : ∀ n ∈ x.ownNoise, ∀ o ∈ x.otherNoise, ratE (n.p.rat * o.p.rat) = 0 ∧ ∀ w ∈ Wf x.height x.own x.other (h + v - u) (r + n.delta) (v + o.delta), ratE w.2 = 0 ∧ ratE (n.p.rat * o.p.rat * w.2) = 0 ∧ DB D B (n.p.rat * o.p.rat * w.2) ∧ w.1 < 100000) :
    ∀ (ns : List NoiseD) (m : List (Int × Rat)) (c : Nat), (∀ n ∈ ns, n ∈ x.ownNoise) → (∀ k, DB D (B * c) (getP k 0 m)) → B * (c + 40 * ns.length) < K128 →
    dynamics_spread_l27 x h u v b ns (mapR m) = dynamics_spread_l27 x h u v b [] (mapR ((ns.flatMap fun n => x.otherNoise.flatMap fun o => pairT x h u v b r n o).foldl addK m)) ∧ ∀ k, DB D (B * (c + 40 * ns.length)) (getP k 0 ((ns.flatMap fun n => x.otherNoise.flatMap fun o => pairT x h u v b r n o).foldl addK m))
  | [], m, c, _, hm, _ => ⟨rfl, fun k => by simpa using hm k⟩
  | n :: ns, m, c, hns, hm, hB => by
    have hn := hns n (by simp)
    have hlen : c + 40 * (n :: ns).length = c + 40 + 40 * ns.length := by simp; omega
    have l2 := E.l2
    have hle : B * (c + 8 * x.otherNoise.length) ≤ B * (c + 40 * (n :: ns).length) := Nat.mul_le_mul_left _ (by rw [hlen]; omega)
    obtain ⟨i1, i2⟩ := l35 E hD0 hD hn (hc n hn) (fun v29 => dynamics_spread_l27 x h u v b ns v29) x.otherNoise m c (fun _ h => h) hm (Nat.lt_of_le_of_lt hle hB)
    have hm' : ∀ k, DB D (B * (c + 40)) (getP k 0 ((x.otherNoise.flatMap fun o => pairT x h u v b r n o).foldl addK m)) := fun k => (i2 k).mono (Nat.mul_le_mul_left _ (by omega))
    obtain ⟨j1, j2⟩ := l27 E hD0 hD hc ns _ (c + 40) (fun q hq => hns q (by simp [hq])) hm' (by rw [← hlen]; exact hB)
    rw [List.flatMap_cons, List.foldl_append, hlen]
    refine ⟨?_, j2⟩
    conv => lhs; rw [dynamics_spread_l27, lt, List.drop_zero]
    exact i1.trans j1
/-- The sums by their keys. -/
noncomputable def sums (x : ModelD) (h u v b r : Int) : List (Int × Rat) := (termsT x h u v b r).foldl addK []
theorem l117 (J : List Out → Option (List Out × Int)) (m : List (Int × Rat)) : ∀ (ks : List Int) (acc : List Out), acc.length + ks.length ≤ 1000 → dynamics_spread_l117 (mapR m) J ks acc = J (acc ++ ks.map fun k => Out.mk k (Raw.of (getP k 0 m)))
  | [], acc, _ => by simp [dynamics_spread_l117]
  | k :: ks, acc, hl => by
    rw [dynamics_spread_l117, Option.bind_some, grdT (by simp at hl; omega), l117 J m ks _ (by simp at hl ⊢; omega), getP_map]
    simp
theorem Env.fits (E : Env x h u v b r) : ∀ k, ratE (getP k 0 (sums x h u v b r)) = 0 := by
  obtain ⟨D, B, d0, d1, d2, hc⟩ := E.common
  have hl : B * (0 + 40 * x.ownNoise.length) < K128 := Nat.lt_of_le_of_lt (Nat.mul_le_mul_left _ (by have := E.l1; omega)) d2
  obtain ⟨_, h2⟩ := l27 E d0 d1 hc x.ownNoise [] 0 (fun _ h => h) (fun k => show DB D (B * 0) 0 by rw [Nat.mul_zero]; exact DB.zero) hl
  exact fun k => (h2 k).fit d1 hl
theorem spread_spec (E : Env x h u v b r) : dynamics_spread_p x h u v b = some (if ((sums x h u v b r).length : Int) > 64 then ([], 10) else ((sortZ ((sums x h u v b r).map Prod.fst)).map fun k => Out.mk k (Raw.of (getP k 0 (sums x h u v b r))), 0)) := by
  obtain ⟨D, B, d0, d1, d2, hc⟩ := E.common
  have hl : B * (0 + 40 * x.ownNoise.length) < K128 := Nat.lt_of_le_of_lt (Nat.mul_le_mul_left _ (by have := E.l1; omega)) d2
  obtain ⟨h1, _⟩ := l27 E d0 d1 hc x.ownNoise [] 0 (fun _ h => h) (fun k => show DB D (B * 0) 0 by rw [Nat.mul_zero]; exact DB.zero) hl
  unfold dynamics_spread_p
  rw [List.drop_zero]
  refine h1.trans ?_
  show dynamics_spread_l27 x h u v b [] (mapR (sums x h u v b r)) = _
  have hlen : (mapR (sums x h u v b r)).length = (sums x h u v b r).length := by simp [mapR]
  rw [dynamics_spread_l27, hlen]
  split
  · rfl
  · rename_i h9
    have h10 : (sums x h u v b r).length ≤ 64 := by omega
    have hk : (mapR (sums x h u v b r)).map Prod.fst = (sums x h u v b r).map Prod.fst := by simp [mapR]
    rw [lt, grdT (by omega), Option.bind_some, hk, List.drop_zero, l117 _ _ _ _ (by rw [(sortZ_perm _).length_eq]; simp; omega), List.nil_append]
end
end Go.Proofs.YtppalofalmieaaaGreat
/- What passes Check, in full. By an AI agent. -/
namespace Go.Proofs.YtppalofalmieaaaGreat
open Go Go.Gv Go.RowKit
set_option maxRecDepth 100000
set_option maxHeartbeats 1000000
/-- Limbs below the base. -/
def Lim (r : Raw) : Prop := (∀ y ∈ r.ln, y < 4294967296) ∧ ∀ y ∈ r.ld, y < 4294967296
structure LimM (x : ModelD) : Prop where
  o : ∀ n ∈ x.ownNoise, Lim n.p
  t : ∀ n ∈ x.otherNoise, Lim n.p
theorem NoiseDS.lim {r : Rd} {ad : Option Addr} {len cap : Nat} {xs : List NoiseD} (h : NoiseDS r ad len cap xs) : ∀ n ∈ xs, Lim n.p := fun n hn => by
  obtain ⟨k, hk⟩ := List.getElem?_of_mem hn
  obtain ⟨b, off, _, _, a1, a2, a3, a4, _, h1, h2⟩ := SlR.opn h hk
  exact ⟨h1.hlt, h2.hlt⟩
theorem ModelDV.lim {r : Rd} {v : Value} {x : ModelD} (h : ModelDV r v x) : LimM x := by
  refine ModelDV.op h ?_
  intros
  exact ⟨NoiseDS.lim (by assumption), NoiseDS.lim (by assumption)⟩
theorem ifz {c : Prop} [Decidable c] {e : Int} {o : Option Int} (he : e ≠ 0) : (if c then some e else o) = some 0 ↔ ¬ c ∧ o = some 0 := by
  by_cases h : c
  · rw [if_pos h]; simp [h, he]
  · rw [if_neg h]; simp [h]
theorem bnz {o J : Option Int} : (o.bind fun y => if (y != 0) = true then some y else J) = some 0 ↔ o = some 0 ∧ J = some 0 := by
  cases o with
  | none => simp
  | some e =>
    rw [Option.bind_some]
    by_cases h : e = 0
    · subst h; simp
    · rw [if_pos (by simpa using h)]; simp [h]
/-- A short number. -/
structure ShortR (r : Raw) : Prop where
  chk : r.chk = 0
  n8 : r.ln.length ≤ 8
  d8 : r.ld.length ≤ 8
theorem checkRat_iff (r : Raw) : dynamics_checkRat_p r = some 0 ↔ ShortR r := by
  unfold dynamics_checkRat_p rat_Check_p
  rw [bnz, ifz (by decide), ifz (by decide)]
  constructor
  · rintro ⟨h1, h2, h3, _⟩
    exact ⟨Option.some.inj h1, by omega, by omega⟩
  · intro h
    have h1 := h.n8
    have h2 := h.d8
    exact ⟨by rw [h.chk], by omega, by omega, rfl⟩
theorem two256 : (4294967296 : Nat) ^ 8 = 2 ^ 256 := by decide
theorem val8 {l : List Nat} (h : ∀ y ∈ l, y < 4294967296) (h8 : l.length ≤ 8) : val l < 2 ^ 256 := by
  rw [← two256]
  exact Nat.lt_of_lt_of_le (val_lt h) (Nat.pow_le_pow_right (by decide) h8)
theorem ShortR.db {r : Raw} (h : ShortR r) (l : Lim r) : DB r.d (2 ^ 256) r.rat :=
  ⟨_, rfl, by rw [sgn_natAbs]; exact Nat.le_of_lt (val8 l.1 h.n8)⟩
theorem ShortR.d {r : Raw} (h : ShortR r) (l : Lim r) : r.d ≤ 2 ^ 256 := by
  have := val8 l.2 h.d8
  unfold Raw.d
  split
  · exact Nat.one_le_pow _ _ (by decide)
  · exact Nat.le_of_lt this
/-! ### Sums -/
def rsum (l : List Rat) : Rat := l.foldr (· + ·) 0
theorem rsum_nil : rsum [] = 0 := rfl
theorem rsum_cons (q : Rat) (l : List Rat) : rsum (q :: l) = q + rsum l := rfl
theorem rsum_append : ∀ a b : List Rat, rsum (a ++ b) = rsum a + rsum b
  | [], b => by rw [List.nil_append, rsum_nil, Rat.zero_add]
  | q :: a, b => by rw [List.cons_append, rsum_cons, rsum_cons, rsum_append a b, Rat.add_assoc]
theorem rsum_db {E B : Nat} (hE : E ≠ 0) : ∀ {l : List Rat}, (∀ q ∈ l, DB E B q) → DB E (l.length * B) (rsum l)
  | [], _ => by rw [rsum_nil]; simpa using DB.zero
  | q :: l, h => by
    have h1 := (h q (by simp)).add hE (rsum_db hE fun p (hp : p ∈ l) => h p (List.mem_cons_of_mem _ hp))
    rw [rsum_cons]
    exact h1.mono (by simp [Nat.add_mul]; omega)
/-! ### Ascending lists -/
theorem adj_pw {α : Type} (f : α → Int) : ∀ l : List α, (∀ i a b, l[i]? = some a → l[i + 1]? = some b → f a < f b) ↔ l.Pairwise fun a b => f a < f b
  | [] => by simp
  | [x] => by simp
  | x :: y :: l => by
    have ih := adj_pw f (y :: l)
    rw [List.pairwise_cons, ← ih]
    constructor
    · intro h
      have h1 : ∀ i a b, (y :: l)[i]? = some a → (y :: l)[i + 1]? = some b → f a < f b := fun i a b ha hb => h (i + 1) a b (by simpa using ha) (by simpa using hb)
      refine ⟨fun b hb => ?_, h1⟩
      have h0 := h 0 x y (by simp) (by simp)
      rcases List.mem_cons.1 hb with rfl | hb
      · exact h0
      · exact Int.lt_trans h0 ((List.pairwise_cons.1 (ih.1 h1)).1 b hb)
    · rintro ⟨h0, h1⟩ i a b ha hb
      cases i with
      | zero =>
        obtain rfl : x = a := by simpa using ha
        obtain rfl : y = b := by simpa using hb
        exact h0 _ (by simp)
      | succ i => exact h1 i a b (by simpa using ha) (by simpa using hb)
/-! ### Noises -/
structure Nz1 (n : NoiseD) : Prop where
  lo : -100 ≤ n.delta
  hi : n.delta ≤ 100
  sh : ShortR n.p
  pos : n.p.neg = false
  ne : n.p.ln ≠ []
structure NzL (l : List NoiseD) : Prop where
  n1 : 1 ≤ l.length
  n5 : l.length ≤ 5
  el : ∀ n ∈ l, Nz1 n
  asc : l.Pairwise fun a b => a.delta < b.delta
  sum : rsum (l.map (·.p.rat)) = 1
theorem nz_fit {q : List NoiseD} (h : ∀ n ∈ q, Nz1 n ∧ Lim n.p) (h5 : q.length ≤ 5) : ratE (rsum (q.map (·.p.rat))) = 0 := by
  have hE0 : prodN (q.map (·.p.d)) ≠ 0 := prodN_pos fun y hy => by obtain ⟨n, hn, rfl⟩ := List.mem_map.1 hy; exact Nat.ne_of_gt (Raw.d_pos _)
  have hE : prodN (q.map (·.p.d)) ≤ (2 ^ 256) ^ 5 := prodN_le (by decide) (fun y hy => by obtain ⟨n, hn, rfl⟩ := List.mem_map.1 hy; exact (h n hn).1.sh.d (h n hn).2) (by simpa using h5)
  have h1 : DB (prodN (q.map (·.p.d))) ((q.map (·.p.rat)).length * (2 ^ 256 * prodN (q.map (·.p.d)))) (rsum (q.map (·.p.rat))) := rsum_db hE0 fun r hr => by
    obtain ⟨n, hn, rfl⟩ := List.mem_map.1 hr
    exact ((h n hn).1.sh.db (h n hn).2).dvd (prodN_dvd (List.mem_map.2 ⟨n, hn, rfl⟩)) hE0
  refine h1.fit (Nat.lt_of_le_of_lt hE (by decide)) (Nat.lt_of_le_of_lt (Nat.mul_le_mul (show (q.map (·.p.rat)).length ≤ 5 by simpa using h5) (Nat.mul_le_mul_left _ hE)) (by decide))
theorem delta_iff (z : Int) : ¬ (!inS (-100) 100 [z]) = true ↔ -100 ≤ z ∧ z ≤ 100 := by simp [inS]
theorem len_ne {α : Type} {l : List α} : ¬ ((l.length : Int) == 0) = true ↔ l ≠ [] := by
  cases l <;> simp
  omega
theorem cn17 (p0 : List NoiseD) (h5 : p0.length ≤ 5) (hl : ∀ n ∈ p0, Lim n.p) (J : Raw → Option Int) : ∀ (l q : List NoiseD), p0 = q ++ l → (∀ n ∈ q, Nz1 n) →
    (dynamics_checkNoise_l17 p0 J l q.length (Raw.of (rsum (q.map (·.p.rat)))) = some 0 ↔ (∀ n ∈ l, Nz1 n) ∧ (∀ i, q.length ≤ i + 1 → ∀ a b, p0[i]? = some a → p0[i + 1]? = some b → a.delta < b.delta) ∧ J (Raw.of (rsum (p0.map (·.p.rat)))) = some 0)
  | [], q, e, _ => by
    rw [dynamics_checkNoise_l17]
    subst e
    rw [List.append_nil]
    constructor
    · intro h
      refine ⟨by simp, fun i hi a b _ hb => ?_, h⟩
      rw [List.getElem?_eq_none (by omega)] at hb
      cases hb
    · exact fun h => h.2.2
  | x :: l, q, e, hq => by
    have hx : p0[q.length]? = some x := by rw [e]; simp
    have hxm : x ∈ p0 := by rw [e]; simp
    have hk : q.length < p0.length := by rw [e]; simp
    have ih := fun hx1 : Nz1 x => cn17 p0 h5 hl J l (q ++ [x]) (by rw [e]; simp) fun n hn => by
      rcases List.mem_append.1 hn with hn | hn
      · exact hq n hn
      · rw [List.mem_singleton.1 hn]; exact hx1
    rw [dynamics_checkNoise_l17, lt]
    have key : ((dynamics_checkRat_p x.p).bind (fun y25 => if ((y25) != 0) = true then (some y25) else (if x.p.neg = true then (some 1) else (if ((x.p.ln.length : Int) == 0) = true then (some 1) else ((rat_Add_p (Raw.of (rsum (q.map (·.p.rat)))) x.p).bind fun y31 => dynamics_checkNoise_l17 p0 J l (q.length + 1) y31.1)))) = some 0) ↔ (ShortR x.p ∧ x.p.neg = false ∧ x.p.ln ≠ []) ∧ (ShortR x.p ∧ x.p.neg = false ∧ x.p.ln ≠ [] → (rat_Add_p (Raw.of (rsum (q.map (·.p.rat)))) x.p).bind (fun y31 => dynamics_checkNoise_l17 p0 J l (q.length + 1) y31.1) = some 0) := by
      rw [bnz, checkRat_iff, ifz (by decide), ifz (by decide), len_ne]
      constructor
      · rintro ⟨a, b, c, d⟩; exact ⟨⟨a, by simpa using b, c⟩, fun _ => d⟩
      · rintro ⟨⟨a, b, c⟩, d⟩; exact ⟨a, by simp [b], c, d ⟨a, b, c⟩⟩
    have add : ∀ hx1 : Nz1 x, (rat_Add_p (Raw.of (rsum (q.map (·.p.rat)))) x.p).bind (fun y31 => dynamics_checkNoise_l17 p0 J l (q.length + 1) y31.1) = dynamics_checkNoise_l17 p0 J l (q ++ [x]).length (Raw.of (rsum ((q ++ [x]).map (·.p.rat)))) := fun hx1 => by
      have f0 : ratE (rsum (q.map (·.p.rat))) = 0 := nz_fit (fun n hn => ⟨hq n hn, hl n (by rw [e]; simp [hn])⟩) (by omega)
      have e1 : rsum ((q ++ [x]).map (·.p.rat)) = rsum (q.map (·.p.rat)) + x.p.rat := by rw [List.map_append, rsum_append]; simp [rsum, Rat.add_zero]
      have f1 : ratE (rsum (q.map (·.p.rat)) + x.p.rat) = 0 := by
        rw [← e1]
        exact nz_fit (fun n hn => by
          rcases List.mem_append.1 hn with hn | hn
          · exact ⟨hq n hn, hl n (by rw [e]; simp [hn])⟩
          · rw [List.mem_singleton.1 hn]; exact ⟨hx1, hl x hxm⟩) (by simp; omega)
      unfold rat_Add_p
      rw [Option.bind_some, Raw.of_rat, (opR_fit (of_fit f0).1 hx1.sh.chk f1).1, e1, List.length_append]
      rfl
    rw [show dynamics_within_p (100 : Int) = some 100 from rfl, Option.bind_some, within1 _ 100 (by decide), Option.bind_some, ifz (by decide), delta_iff]
    have step : ∀ {A : Prop}, ((-100 ≤ x.delta ∧ x.delta ≤ 100) ∧ (A ∧ ((dynamics_checkRat_p x.p).bind (fun y25 => if ((y25) != 0) = true then (some y25) else (if x.p.neg = true then (some 1) else (if ((x.p.ln.length : Int) == 0) = true then (some 1) else ((rat_Add_p (Raw.of (rsum (q.map (·.p.rat)))) x.p).bind fun y31 => dynamics_checkNoise_l17 p0 J l (q.length + 1) y31.1)))) = some 0))) ↔ A ∧ Nz1 x ∧ (∀ n ∈ l, Nz1 n) ∧ (∀ i, q.length + 1 ≤ i + 1 → ∀ a b, p0[i]? = some a → p0[i + 1]? = some b → a.delta < b.delta) ∧ J (Raw.of (rsum (p0.map (·.p.rat)))) = some 0 := by
      intro A
      rw [key]
      constructor
      · rintro ⟨⟨a, b⟩, c, ⟨d1, d2, d3⟩, f⟩
        have hx1 : Nz1 x := ⟨a, b, d1, d2, d3⟩
        have f := f ⟨d1, d2, d3⟩
        rw [add hx1, ih hx1] at f
        exact ⟨c, hx1, f.1, fun i hi => f.2.1 i (by simp; omega), f.2.2⟩
      · rintro ⟨c, hx1, f1, f2, f3⟩
        refine ⟨⟨hx1.lo, hx1.hi⟩, c, ⟨hx1.sh, hx1.pos, hx1.ne⟩, fun _ => ?_⟩
        rw [add hx1, ih hx1]
        exact ⟨f1, fun i hi => f2 i (by simp at hi; omega), f3⟩
    have fin : ∀ {A : Prop}, (A ↔ ∀ a, q.length ≠ 0 → p0[q.length - 1]? = some a → a.delta < x.delta) → (A ∧ Nz1 x ∧ (∀ n ∈ l, Nz1 n) ∧ (∀ i, q.length + 1 ≤ i + 1 → ∀ a b, p0[i]? = some a → p0[i + 1]? = some b → a.delta < b.delta) ∧ J (Raw.of (rsum (p0.map (·.p.rat)))) = some 0 ↔ (∀ n ∈ x :: l, Nz1 n) ∧ (∀ i, q.length ≤ i + 1 → ∀ a b, p0[i]? = some a → p0[i + 1]? = some b → a.delta < b.delta) ∧ J (Raw.of (rsum (p0.map (·.p.rat)))) = some 0) := by
      intro A hA
      rw [hA]
      constructor
      · rintro ⟨h1, h2, h3, h4, h5⟩
        refine ⟨fun n hn => ?_, fun i hi a b ha hb => ?_, h5⟩
        · rcases List.mem_cons.1 hn with rfl | hn
          · exact h2
          · exact h3 n hn
        · rcases Nat.eq_or_lt_of_le hi with hi | hi
          · rw [← hi, hx] at hb
            cases hb
            exact h1 a (by omega) (by rw [hi]; exact ha)
          · exact h4 i hi a b ha hb
      · rintro ⟨h1, h2, h3⟩
        refine ⟨fun a h0 ha => h2 (q.length - 1) (by omega) a x ha (by rw [Nat.sub_add_cancel (by omega)]; exact hx), h1 x (by simp), fun n hn => h1 n (by simp [hn]), fun i hi => h2 i (by omega), h3⟩
    split
    · rename_i h0
      obtain ⟨y, hy⟩ : ∃ y, p0[q.length - 1]? = some y := ⟨p0[q.length - 1]'(by omega), by simp⟩
      rw [bnds (ixT (k := q.length - 1) (by rw [wi64 (by omega) (by omega)]; omega) hy), ifz (by decide), step, fin]
      constructor
      · intro h a _ ha; rw [hy] at ha; cases ha; omega
      · intro h; have := h y (by omega) hy; omega
    · rename_i h0
      rw [← true_and ((dynamics_checkRat_p x.p).bind _ = some 0), step, fin]
      exact ⟨fun _ a h1 _ => absurd h1 (by omega), fun _ => trivial⟩
theorem cmp1 {q : Rat} (h : ratE q = 0) : (rat_Cmp_p (Raw.of q) (Raw.of ((1 : Int) : Rat))).bind (fun y12 => if ((y12.1) != 0) = true then (some (2 : Int)) else (some 0)) = some 0 ↔ q = 1 := by
  have h1 : ratE (1 : Rat) = 0 := by decide
  unfold rat_Cmp_p
  rw [Option.bind_some, ifz (by decide)]
  have e : cmpR (Raw.of q) (Raw.of ((1 : Int) : Rat)) = cmpQ q 1 := by
    unfold cmpR cmpE
    rw [Raw.of_chk h, show Raw.of ((1 : Int) : Rat) = Raw.of 1 from rfl, Raw.of_chk h1, Raw.of_rat, Raw.of_rat]
    rfl
  rw [e]
  unfold cmpQ
  constructor
  · rintro ⟨h, _⟩
    apply Classical.byContradiction
    intro hq
    rw [if_neg hq] at h
    split at h <;> simp at h
  · intro hq
    rw [if_pos hq]
    simp
theorem noise_iff (l : List NoiseD) (hl : ∀ n ∈ l, Lim n.p) : dynamics_checkNoise_p l = some 0 ↔ NzL l := by
  unfold dynamics_checkNoise_p
  rw [ifz (by decide), ifz (by decide), lt, List.drop_zero]
  constructor
  · rintro ⟨h1, h2, h3⟩
    have h5 : l.length ≤ 5 := by omega
    have := (cn17 l h5 hl _ l [] rfl (by simp)).1 h3
    obtain ⟨g1, g2, g3⟩ := this
    have hf := nz_fit (fun n hn => ⟨g1 n hn, hl n hn⟩) h5
    rw [show rat_From_p (1 : Int) = some (Raw.of ((1 : Int) : Rat)) from grdT (by decide), Option.bind_some, cmp1 hf] at g3
    refine ⟨?_, h5, g1, (adj_pw (fun n : NoiseD => n.delta) l).1 fun i => g2 i (by simp), g3⟩
    rw [len_ne] at h1
    exact List.length_pos_iff.2 h1
  · intro h
    have h1 := h.n1
    have h5 := h.n5
    refine ⟨len_ne.2 (List.length_pos_iff.1 h1), by omega, ?_⟩
    refine (cn17 l h5 hl _ l [] rfl (by simp)).2 ⟨h.el, fun i _ => (adj_pw (fun n : NoiseD => n.delta) l).2 h.asc i, ?_⟩
    have hf := nz_fit (fun n hn => ⟨h.el n hn, hl n hn⟩) h5
    rw [show rat_From_p (1 : Int) = some (Raw.of ((1 : Int) : Rat)) from grdT (by decide), Option.bind_some, cmp1 hf]
    exact h.sum
/-! ### The grid -/
structure AxisW (l : List Int) : Prop where
  n1 : 1 ≤ l.length
  n2 : l.length ≤ 32
  bd : ∀ z ∈ l, -1073741824 ≤ z ∧ z ≤ 1073741824
  asc : l.Pairwise (· < ·)
theorem ic17 (x : List Int) (J : Option Int) (hx : x.length ≤ 32) : ∀ (l : List Int) (k : Nat), l = x.drop k →
    (interp_Check_l17 x J l k = some 0 ↔ (∀ z ∈ l, -1073741824 ≤ z ∧ z ≤ 1073741824) ∧ (∀ i, k ≤ i + 1 → ∀ a b, x[i]? = some a → x[i + 1]? = some b → a < b) ∧ J = some 0)
  | [], k, h => by
    have hk : x.length ≤ k := by have := congrArg List.length h; simp at this; omega
    rw [interp_Check_l17]
    refine ⟨fun h => ⟨by simp, fun i hi a b _ hb => ?_, h⟩, fun h => h.2.2⟩
    rw [List.getElem?_eq_none (by omega)] at hb
    cases hb
  | z :: l, k, h => by
    obtain ⟨hk, hr⟩ := drop_cons h
    have hz : x[k]? = some z := by
      have := congrArg List.head? h
      rw [List.head?_drop] at this
      exact this.symm
    have ih := ic17 x J hx l (k + 1) hr
    rw [interp_Check_l17, ifz (by decide), ifz (by decide)]
    have fin : ∀ {A : Prop}, (A ↔ ∀ a, k ≠ 0 → x[k - 1]? = some a → a < z) → (¬ z < -1073741824 ∧ ¬ z > 1073741824 ∧ A ∧ (∀ z ∈ l, -1073741824 ≤ z ∧ z ≤ 1073741824) ∧ (∀ i, k + 1 ≤ i + 1 → ∀ a b, x[i]? = some a → x[i + 1]? = some b → a < b) ∧ J = some 0 ↔ (∀ y ∈ z :: l, -1073741824 ≤ y ∧ y ≤ 1073741824) ∧ (∀ i, k ≤ i + 1 → ∀ a b, x[i]? = some a → x[i + 1]? = some b → a < b) ∧ J = some 0) := by
      intro A hA
      rw [hA]
      constructor
      · rintro ⟨h1, h2, h3, h4, h5, h6⟩
        refine ⟨fun y hy => ?_, fun i hi a b ha hb => ?_, h6⟩
        · rcases List.mem_cons.1 hy with rfl | hy
          · omega
          · exact h4 y hy
        · rcases Nat.eq_or_lt_of_le hi with hi | hi
          · rw [← hi, hz] at hb
            cases hb
            exact h3 a (by omega) (by rw [hi]; exact ha)
          · exact h5 i hi a b ha hb
      · rintro ⟨h1, h2, h3⟩
        have := h1 z (by simp)
        refine ⟨by omega, by omega, fun a h0 ha => h2 (k - 1) (by omega) a z ha (by rw [Nat.sub_add_cancel (by omega)]; exact hz), fun n hn => h1 n (by simp [hn]), fun i hi => h2 i (by omega), h3⟩
    split
    · rename_i h0
      obtain ⟨y, hy⟩ : ∃ y, x[k - 1]? = some y := ⟨x[k - 1]'(by omega), by simp⟩
      rw [bnds (ixT (k := k - 1) (by rw [wi64 (by omega) (by omega)]; omega) hy), ifz (by decide), ih]
      refine fin ?_
      constructor
      · intro h a _ ha; rw [hy] at ha; cases ha; omega
      · intro h; have := h y (by omega) hy; omega
    · rename_i h0
      rw [ih]
      have := fin (A := True) ⟨fun _ a h1 _ => absurd h1 (by omega), fun _ => trivial⟩
      simpa only [true_and] using this
theorem ic10 (J : Option Int) : ∀ l : List (List Int), interp_Check_l10 J l = some 0 ↔ (∀ x ∈ l, AxisW x) ∧ J = some 0
  | [] => by rw [interp_Check_l10]; simp
  | x :: l => by
    have ih := ic10 J l
    rw [interp_Check_l10, lt, ifz (by decide), ifz (by decide), List.drop_zero]
    constructor
    · rintro ⟨h1, h2, h3⟩
      rw [ic17 x _ (by omega) x 0 rfl, ih] at h3
      obtain ⟨g1, g2, g3, g4⟩ := h3
      refine ⟨fun y hy => ?_, g4⟩
      rcases List.mem_cons.1 hy with rfl | hy
      · exact ⟨List.length_pos_iff.2 (len_ne.1 h1), by omega, g1, (adj_pw (fun z => z) y).1 fun i => g2 i (by omega)⟩
      · exact g3 y hy
    · rintro ⟨h1, h2⟩
      have hx := h1 x (by simp)
      have n1 := hx.n1
      have n2 := hx.n2
      refine ⟨len_ne.2 (List.length_pos_iff.1 n1), by omega, ?_⟩
      rw [ic17 x _ n2 x 0 rfl, ih]
      exact ⟨hx.bd, fun i _ => (adj_pw (fun z => z) x).2 hx.asc i, fun y hy => h1 y (by simp [hy]), h2⟩
theorem ic3 (a b c : List Int) : interp_Check_p [a, b, c] = some 0 ↔ AxisW a ∧ AxisW b ∧ AxisW c ∧ a.length * b.length * c.length ≤ 256 := by
  unfold interp_Check_p
  rw [ifz (by decide), ifz (by decide), lt, List.drop_zero, ic10, isize3, Option.bind_some]
  have sz : ∀ ha : AxisW a, ∀ hb : AxisW b, ∀ hc : AxisW c, IntKind.i64.wrap (IntKind.i64.wrap (IntKind.i64.wrap (1 * (a.length : Int)) * (b.length : Int)) * (c.length : Int)) = ((a.length * b.length * c.length : Nat) : Int) := fun ha hb hc => by
    have n1 := ha.n2
    have e1 : a.length * b.length ≤ 32 * 32 := Nat.mul_le_mul ha.n2 hb.n2
    have e2 : a.length * b.length * c.length ≤ 32 * 32 * 32 := Nat.mul_le_mul e1 hc.n2
    rw [Int.one_mul, wi64 (x := (a.length : Int)) (by omega) (by omega), ← Int.natCast_mul, wi64 (x := ((a.length * b.length : Nat) : Int)) (by omega) (by omega), ← Int.natCast_mul, wi64 (by omega) (by omega)]
  constructor
  · rintro ⟨_, _, h1, h2⟩
    have ha := h1 a (by simp)
    have hb := h1 b (by simp)
    have hc := h1 c (by simp)
    rw [sz ha hb hc, ifz (by decide)] at h2
    exact ⟨ha, hb, hc, by omega⟩
  · rintro ⟨ha, hb, hc, h⟩
    refine ⟨by simp, by simp, fun x hx => ?_, ?_⟩
    · simp only [List.mem_cons, List.not_mem_nil, or_false] at hx
      rcases hx with rfl | rfl | rfl <;> assumption
    · rw [sz ha hb hc, ifz (by decide)]
      exact ⟨by omega, rfl⟩
/-! ### The model -/
structure AdvOK (y : BoundsD) : Prop where
  s : y.sense = 1 ∨ y.sense = 2
  le : y.lo ≤ y.hi
  l0 : -100 ≤ y.lo
  l1 : y.lo ≤ 100
  h0 : -100 ≤ y.hi
  h1 : y.hi ≤ 100
structure Full (x : ModelD) : Prop where
  gh : AxisW x.height
  go : AxisW x.own
  gt : AxisW x.other
  gn : x.height.length * x.own.length * x.other.length ≤ 256
  bh : ∀ z ∈ x.height, -50000 ≤ z ∧ z ≤ 50000
  bo : ∀ z ∈ x.own, -100 ≤ z ∧ z ≤ 100
  bt : ∀ z ∈ x.other, -100 ≤ z ∧ z ≤ 100
  a1 : 1 ≤ x.advisories.length
  a2 : x.advisories.length ≤ 6
  adv : ∀ y ∈ x.advisories.drop 1, AdvOK y
  p : 0 ≤ x.pull ∧ x.pull ≤ 100
  nr : 0 ≤ x.near ∧ x.near ≤ 50000
  st : 0 ≤ x.steps ∧ x.steps ≤ 24
  no : NzL x.ownNoise
  nt : NzL x.otherNoise
  c1 : ShortR x.alert ∧ x.alert.neg = false
  c2 : ShortR x.strengthen ∧ x.strengthen.neg = false
  c3 : ShortR x.reversal ∧ x.reversal.neg = false
  n : x.height.length * x.own.length * x.other.length * x.advisories.length ≤ 200
theorem cc62 (x : ModelD) (J : Option Int) : dynamics_Check_l62 x J 3 0 = some 0 ↔ (ShortR x.alert ∧ x.alert.neg = false) ∧ (ShortR x.strengthen ∧ x.strengthen.neg = false) ∧ (ShortR x.reversal ∧ x.reversal.neg = false) ∧ J = some 0 := by
  have st : ∀ (r k : Nat) (q : Raw), [x.alert, x.strengthen, x.reversal][k]? = some q → (dynamics_Check_l62 x J (r + 1) k = some 0 ↔ (ShortR q ∧ q.neg = false) ∧ dynamics_Check_l62 x J r (k + 1) = some 0) := fun r k q hq => by
    rw [dynamics_Check_l62, bnds (ixT (k := k) rfl hq), bnz, checkRat_iff, ifz (by decide)]
    simp [and_assoc]
  rw [st 2 0 _ rfl, st 1 1 _ rfl, st 0 2 _ rfl, dynamics_Check_l62]
theorem cc78 (x : ModelD) (J : Option Int) (hl : LimM x) : dynamics_Check_l78 x J 2 0 = some 0 ↔ NzL x.ownNoise ∧ NzL x.otherNoise ∧ J = some 0 := by
  have st : ∀ (r k : Nat) (q : List NoiseD), [x.ownNoise, x.otherNoise][k]? = some q → (∀ n ∈ q, Lim n.p) → (dynamics_Check_l78 x J (r + 1) k = some 0 ↔ NzL q ∧ dynamics_Check_l78 x J r (k + 1) = some 0) := fun r k q hq hn => by
    rw [dynamics_Check_l78, bnds (ixT (k := k) rfl hq), bnz, noise_iff q hn]
  rw [st 1 0 _ rfl hl.o, st 0 1 _ rfl hl.t, dynamics_Check_l78]
theorem cc92 (J : Option Int) : ∀ l : List BoundsD, dynamics_Check_l92 100 J l = some 0 ↔ (∀ y ∈ l, AdvOK y) ∧ J = some 0
  | [] => by rw [dynamics_Check_l92]; simp
  | y :: l => by
    have ih := cc92 J l
    have key : ∀ v : Bool, (if v = true then (some (6 : Int)) else (if (y.lo) > y.hi then (some 1) else ((dynamics_within_1_p ([y.lo, y.hi]) 100).bind fun y104 => if (!y104) = true then (some 1) else (dynamics_Check_l92 100 J l)))) = some 0 ↔ v = false ∧ y.lo ≤ y.hi ∧ (-100 ≤ y.lo ∧ y.lo ≤ 100 ∧ -100 ≤ y.hi ∧ y.hi ≤ 100) ∧ (∀ y ∈ l, AdvOK y) ∧ J = some 0 := fun v => by
      rw [ifz (by decide), ifz (by decide), within1 _ 100 (by decide), Option.bind_some, ifz (by decide), ih]
      simp [inS, and_assoc]
    have fin : ((y.sense = 1 ∨ y.sense = 2) ∧ y.lo ≤ y.hi ∧ (-100 ≤ y.lo ∧ y.lo ≤ 100 ∧ -100 ≤ y.hi ∧ y.hi ≤ 100) ∧ (∀ y ∈ l, AdvOK y) ∧ J = some 0) ↔ (∀ z ∈ y :: l, AdvOK z) ∧ J = some 0 := by
      constructor
      · rintro ⟨h1, h2, ⟨h3, h4, h5, h6⟩, h7, h8⟩
        refine ⟨fun z hz => ?_, h8⟩
        rcases List.mem_cons.1 hz with rfl | hz
        · exact ⟨h1, h2, h3, h4, h5, h6⟩
        · exact h7 z hz
      · rintro ⟨h1, h2⟩
        have h := h1 y (by simp)
        exact ⟨h.s, h.le, ⟨h.l0, h.l1, h.h0, h.h1⟩, fun z hz => h1 z (by simp [hz]), h2⟩
    rw [dynamics_Check_l92, lt, ← fin]
    split
    · rename_i h1
      rw [key]
      have h1' : y.sense ≠ 1 := by simpa using h1
      simp [h1']
    · rename_i h1
      rw [key]
      have h1' : y.sense = 1 := by simpa using h1
      simp [h1']
theorem inSn {lo hi : Int} {l : List Int} : ¬ (!inS lo hi l) = true ↔ ∀ z ∈ l, lo ≤ z ∧ z ≤ hi := by
  rw [← inS_iff]; simp
theorem check_iff (x : ModelD) (hl : LimM x) : dynamics_Check_p x = some 0 ↔ Full x := by
  unfold dynamics_Check_p
  rw [show dynamics_within_p (100 : Int) = some 100 from rfl, Option.bind_some, show dynamics_grid_p x = some [x.height, x.own, x.other] from rfl, Option.bind_some, bnz, ic3, show dynamics_within_p (50000 : Int) = some 50000 from rfl, Option.bind_some, within1 _ 50000 (by decide), Option.bind_some, ifz (by decide), within1 _ 100 (by decide), Option.bind_some, ifz (by decide), within1 _ 100 (by decide), Option.bind_some, ifz (by decide), ifz (by decide), ifz (by decide), inSn, inSn, inSn, len_ne]
  have tail : ∀ h1 : 1 ≤ x.advisories.length, lt ((dynamics_span_has_p (SpanD.mk 0 100) ([x.pull])).bind fun y38 => if (!y38) = true then (some (1 : Int)) else ((dynamics_span_has_p (SpanD.mk 0 50000) ([x.near])).bind fun y44 => if (!y44) = true then (some 1) else ((dynamics_span_has_p (SpanD.mk 0 24) ([x.steps])).bind fun y50 => if (!y50) = true then (some 1) else (lt (lt ((dynamics_size_p x).bind fun y56 => if (y56) > 200 then (some 10) else (some 0)) fun J54 => dynamics_Check_l62 x J54 ((3 : Int).toNat - 0) 0) fun J53 => dynamics_Check_l78 x J53 ((2 : Int).toNat - 0) 0)))) (fun J34 => grd (0 ≤ (1 : Int) ∧ (1 : Int) ≤ (x.advisories.length : Int) ∧ (x.advisories.length : Int) ≤ (x.advisories.length : Int)) <| dynamics_Check_l92 100 J34 ((x.advisories.drop 1).drop 0)) = some 0 ↔ (∀ y ∈ x.advisories.drop 1, AdvOK y) ∧ (0 ≤ x.pull ∧ x.pull ≤ 100) ∧ (0 ≤ x.near ∧ x.near ≤ 50000) ∧ (0 ≤ x.steps ∧ x.steps ≤ 24) ∧ NzL x.ownNoise ∧ NzL x.otherNoise ∧ (ShortR x.alert ∧ x.alert.neg = false) ∧ (ShortR x.strengthen ∧ x.strengthen.neg = false) ∧ (ShortR x.reversal ∧ x.reversal.neg = false) ∧ ((dynamics_size_p x).bind fun y56 => if (y56) > 200 then (some (10 : Int)) else (some 0)) = some 0 := fun h1 => by
    rw [lt, grdT (by omega), List.drop_zero, cc92, has_p, Option.bind_some, ifz (by decide), has_p, Option.bind_some, ifz (by decide), has_p, Option.bind_some, ifz (by decide), lt, lt]
    show _ ∧ _ ∧ _ ∧ _ ∧ dynamics_Check_l78 x (dynamics_Check_l62 x _ 3 0) 2 0 = some 0 ↔ _
    rw [cc78 x _ hl, cc62, inSn, inSn, inSn]
    simp
  obtain ⟨n, hn, hn2⟩ := size_p x
  constructor
  · rintro ⟨⟨g1, g2, g3, g4⟩, b1, b2, b3, a1, a2, t⟩
    have a1' := List.length_pos_iff.2 a1
    rw [tail a1', hn, Option.bind_some, ifz (by decide)] at t
    obtain ⟨t1, t2, t3, t4, t5, t6, t7, t8, t9, t10, _⟩ := t
    have hn3 := hn2 g1.n2 g2.n2 g3.n2 (by omega)
    exact ⟨g1, g2, g3, g4, b1, b2, b3, a1', by omega, t1, t2, t3, t4, t5, t6, t7, t8, t9, by omega⟩
  · intro h
    have a2 := h.a2
    refine ⟨⟨h.gh, h.go, h.gt, h.gn⟩, h.bh, h.bo, h.bt, List.length_pos_iff.1 h.a1, by omega, ?_⟩
    rw [tail h.a1, hn, Option.bind_some, ifz (by decide), hn2 h.gh.n2 h.go.n2 h.gt.n2 a2]
    have := h.n
    exact ⟨h.adv, h.p, h.nr, h.st, h.no, h.nt, h.c1, h.c2, h.c3, by omega, rfl⟩
end Go.Proofs.YtppalofalmieaaaGreat
/- The mirrored model, in plain words. By an AI agent. -/
namespace Go.Proofs.YtppalofalmieaaaGreat
open Go Go.Gv Go.RowKit
set_option maxRecDepth 100000
set_option maxHeartbeats 1000000
def negB (y : BoundsD) : BoundsD := ⟨3 - y.sense, -y.hi, -y.lo⟩
/-! ### The mirrored model passes -/
theorem AdvOK.neg {y : BoundsD} (h : AdvOK y) : AdvOK (negB y) := by
  have h1 := h.s; have h2 := h.le; have h3 := h.l0; have h4 := h.l1; have h5 := h.h0; have h6 := h.h1
  exact ⟨by show 3 - y.sense = 1 ∨ 3 - y.sense = 2; omega, by show -y.hi ≤ -y.lo; omega, by show -100 ≤ -y.hi; omega, by show -y.hi ≤ 100; omega, by show -100 ≤ -y.lo; omega, by show -y.lo ≤ 100; omega⟩
theorem Full.good {x : ModelD} (f : Full x) (hl : LimM x) : dynamics_Check_p x = some 0 ∧ Good x := by
  have hc := (check_iff x hl).2 f
  obtain ⟨e, h1, h2⟩ := check_p x
  rw [hc] at h1
  cases h1
  exact ⟨hc, h2 rfl⟩
/-! ### Where Spread comes from -/
theorem AxisW.axis {l : List Int} (h : AxisW l) (hb : ∀ z ∈ l, -50000 ≤ z ∧ z ≤ 50000) : Axis l := ⟨h.n1, h.n2, h.asc, hb⟩
theorem Nz1.nz {n : NoiseD} (h : Nz1 n) (l : Lim n.p) : NZ n := ⟨h.sh.chk, h.sh.db l, h.sh.d l, h.lo, h.hi⟩
theorem resp_bd {x : ModelD} (f : Full x) (g : Good x) {u b : Int} (hb : 0 ≤ b ∧ b < (x.advisories.length : Int)) (hu : -100 ≤ u ∧ u ≤ 100) : ∃ r, dynamics_respond_p x u b = some r ∧ -1000 ≤ r ∧ r ≤ 1000 := by
  obtain ⟨y, _, h2, h3⟩ := respond_eq g hb hu
  have hp := f.p
  refine ⟨_, h3, ?_⟩
  by_cases h0 : b = 0
  · rw [if_pos h0]; omega
  · have := h2 h0
    rw [if_neg h0]
    repeat' split
    all_goals omega
theorem Full.env {x : ModelD} (f : Full x) (hl : LimM x) {h u v b r : Int} (hh : -100000 ≤ h ∧ h ≤ 100000) (hu : -100 ≤ u ∧ u ≤ 100) (hv : -100 ≤ v ∧ v ≤ 100) (hb : 0 ≤ b ∧ b < (x.advisories.length : Int)) (hr : dynamics_respond_p x u b = some r) : Env x h u v b r := by
  obtain ⟨hc, g⟩ := f.good hl
  obtain ⟨r', h1, h2, h3⟩ := resp_bd f g hb hu
  rw [hr] at h1
  cases h1
  have a2 := f.a2
  exact ⟨f.gh.axis f.bh, f.go.axis fun z hz => by have := f.bo z hz; omega, f.gt.axis fun z hz => by have := f.bt z hz; omega, (ic3 _ _ _).2 ⟨f.gh, f.go, f.gt, f.gn⟩, f.a1, a2, hb.1, by omega, hr, h2, h3, hh, hu, hv, fun n hn => (f.no.el n hn).nz (hl.o n hn), fun n hn => (f.nt.el n hn).nz (hl.t n hn), f.no.n5, f.nt.n5⟩
noncomputable def outs (x : ModelD) (h u v b r : Int) : List Out := (sortZ ((sums x h u v b r).map Prod.fst)).map fun k => Out.mk k (Raw.of (getP k 0 (sums x h u v b r)))
structure SpOK (x : ModelD) (h u v b r : Int) : Prop where
  f : Full x
  hh : -100000 ≤ h ∧ h ≤ 100000
  hu : -100 ≤ u ∧ u ≤ 100
  hv : -100 ≤ v ∧ v ≤ 100
  hb : 0 ≤ b ∧ b < (x.advisories.length : Int)
  hr : dynamics_respond_p x u b = some r
  hs : (sums x h u v b r).length ≤ 64
theorem Spread_ok {x : ModelD} (hl : LimM x) {h u v b r : Int} (s : SpOK x h u v b r) : dynamics_Spread_p x h u v b = some (outs x h u v b r, 0) := by
  obtain ⟨hc, g⟩ := s.f.good hl
  have E := s.f.env hl s.hh s.hu s.hv s.hb s.hr
  have hs := s.hs
  unfold dynamics_Spread_p
  rw [bnds hc, if_neg (by decide), show dynamics_within_p (100000 : Int) = some 100000 from rfl, Option.bind_some, within1 _ 100000 (by decide), Option.bind_some, if_neg (inSn.2 fun z hz => by rw [List.mem_singleton.1 hz]; exact s.hh), show dynamics_within_p (100 : Int) = some 100 from rfl, Option.bind_some, within1 _ 100 (by decide), Option.bind_some, if_neg (inSn.2 fun z hz => by
    rcases List.mem_cons.1 hz with rfl | hz
    · exact s.hu
    · rw [List.mem_singleton.1 hz]; exact s.hv), bnds (known_p hc g b), if_pos s.hb, if_neg (by decide), bnds (spread_spec E), if_neg (by omega)]
  rfl
theorem Spread_cases {x : ModelD} (hl : LimM x) (h u v b : Int) : ∃ l e, dynamics_Spread_p x h u v b = some (l, e) ∧ (e ≠ 0 → l = []) ∧ (e = 0 → ∃ r, SpOK x h u v b r ∧ l = outs x h u v b r) := by
  obtain ⟨e, hc, g⟩ := check_p x
  by_cases he : e = 0
  · subst he
    have g := g rfl
    have f := (check_iff x hl).1 hc
    by_cases hh : ∀ z ∈ [h], -100000 ≤ z ∧ z ≤ 100000
    · by_cases hu : ∀ z ∈ [u, v], -100 ≤ z ∧ z ≤ 100
      · by_cases hb : 0 ≤ b ∧ b < (x.advisories.length : Int)
        · obtain ⟨r, hr, _⟩ := resp_bd f g hb (hu u (by simp))
          by_cases hs : (sums x h u v b r).length ≤ 64
          · have s : SpOK x h u v b r := ⟨f, hh h (by simp), hu u (by simp), hu v (by simp), hb, hr, hs⟩
            exact ⟨_, _, Spread_ok hl s, fun h => absurd rfl h, fun _ => ⟨r, s, rfl⟩⟩
          · have E := f.env hl (hh h (by simp)) (hu u (by simp)) (hu v (by simp)) hb hr
            refine ⟨[], 10, ?_, fun _ => rfl, fun h => by cases h⟩
            unfold dynamics_Spread_p
            rw [bnds hc, if_neg (by decide), show dynamics_within_p (100000 : Int) = some 100000 from rfl, Option.bind_some, within1 _ 100000 (by decide), Option.bind_some, if_neg (inSn.2 hh), show dynamics_within_p (100 : Int) = some 100 from rfl, Option.bind_some, within1 _ 100 (by decide), Option.bind_some, if_neg (inSn.2 hu), bnds (known_p hc g b), if_pos hb, if_neg (by decide), bnds (spread_spec E), if_pos (by omega)]
        · refine ⟨[], 8, ?_, fun _ => rfl, fun h => by cases h⟩
          unfold dynamics_Spread_p
          rw [bnds hc, if_neg (by decide), show dynamics_within_p (100000 : Int) = some 100000 from rfl, Option.bind_some, within1 _ 100000 (by decide), Option.bind_some, if_neg (inSn.2 hh), show dynamics_within_p (100 : Int) = some 100 from rfl, Option.bind_some, within1 _ 100 (by decide), Option.bind_some, if_neg (inSn.2 hu), bnds (known_p hc g b), if_neg hb, if_pos (by decide)]
      · refine ⟨[], 1, ?_, fun _ => rfl, fun h => by cases h⟩
        unfold dynamics_Spread_p
        rw [bnds hc, if_neg (by decide), show dynamics_within_p (100000 : Int) = some 100000 from rfl, Option.bind_some, within1 _ 100000 (by decide), Option.bind_some, if_neg (inSn.2 hh), show dynamics_within_p (100 : Int) = some 100 from rfl, Option.bind_some, within1 _ 100 (by decide), Option.bind_some, if_pos (Classical.not_not.1 fun h => hu (inSn.1 h))]
    · refine ⟨[], 1, ?_, fun _ => rfl, fun h => by cases h⟩
      unfold dynamics_Spread_p
      rw [bnds hc, if_neg (by decide), show dynamics_within_p (100000 : Int) = some 100000 from rfl, Option.bind_some, within1 _ 100000 (by decide), Option.bind_some, if_pos (Classical.not_not.1 fun h => hh (inSn.1 h))]
  · refine ⟨[], e, ?_, fun _ => rfl, fun h => absurd h he⟩
    unfold dynamics_Spread_p
    rw [bnds hc, if_pos (by simpa using he)]
/-! ### The response, mirrored -/
/-! ### The weights, mirrored -/
section
variable {x : ModelD} {h u v b r : Int}
theorem sums_get (k : Int) : getP k 0 (sums x h u v b r) = sumAt k (termsT x h u v b r) := by
  unfold sums
  rw [getP_fold]
  show (0 : Rat) + _ = _
  rw [Rat.zero_add]
theorem sums_keys : ((sums x h u v b r).map Prod.fst).Nodup ∧ ∀ k, k ∈ (sums x h u v b r).map Prod.fst ↔ k ∈ (termsT x h u v b r).map Prod.fst := by
  obtain ⟨h1, h2⟩ := keys_fold (termsT x h u v b r) [] (by simp)
  refine ⟨h1, fun k => ?_⟩
  have := h2 k
  simp only [List.map_nil, List.not_mem_nil, false_or] at this
  exact this
/-- Where the outcomes lie. -/
theorem outs_key (E : Env x h u v b r) {o : Out} (ho : o ∈ outs x h u v b r) : ∃ w, w < nV x ∧ o.to = keyZ x.advisories.length b w := by
  obtain ⟨k, hk, rfl⟩ := List.mem_map.1 ho
  have hk := (sums_keys.2 k).1 ((sortZ_perm _).mem_iff.1 hk)
  obtain ⟨t, ht, rfl⟩ := List.mem_map.1 hk
  obtain ⟨n, _, ht⟩ := List.mem_flatMap.1 ht
  obtain ⟨o, _, ht⟩ := List.mem_flatMap.1 ht
  obtain ⟨w, hw, rfl⟩ := List.mem_map.1 ht
  exact ⟨w.1, ((Wf_spec E.h1 E.h2 E.h3 E.ck _ _ _).1.db E.h1 E.h2 E.h3).2.1 w hw, rfl⟩
end
end Go.Proofs.YtppalofalmieaaaGreat
/- The means of the outcomes, in plain words. By an AI agent. -/
namespace Go.Proofs.YtppalofalmieaaaGreat
open Go Go.Gv Go.RowKit
set_option maxRecDepth 100000
set_option maxHeartbeats 1000000
/-! ### Sums -/
section
variable {α β : Type}
theorem rsum_mul (c : Rat) (f : α → Rat) : ∀ l : List α, rsum (l.map fun x => c * f x) = c * rsum (l.map f)
  | [] => (Rat.mul_zero c).symm
  | x :: l => by rw [List.map_cons, List.map_cons, rsum_cons, rsum_cons, rsum_mul c f l, Rat.mul_add]
theorem rsum_add (f g : α → Rat) : ∀ l : List α, rsum (l.map fun x => f x + g x) = rsum (l.map f) + rsum (l.map g)
  | [] => (Rat.add_zero 0).symm
  | x :: l => by
    rw [List.map_cons, List.map_cons, List.map_cons, rsum_cons, rsum_cons, rsum_cons, rsum_add f g l, Rat.add_assoc, Rat.add_assoc]
    congr 1
    rw [← Rat.add_assoc, ← Rat.add_assoc, Rat.add_comm (g x)]
theorem rsum_flat (f : α → List β) (g : β → Rat) : ∀ l : List α, rsum ((l.flatMap f).map g) = rsum (l.map fun a => rsum ((f a).map g))
  | [] => rfl
  | x :: l => by rw [List.flatMap_cons, List.map_append, rsum_append, rsum_flat f g l, List.map_cons, rsum_cons]
theorem rsum_two (f : α → Rat) (g : β → Rat) (l : List α) (m : List β) : rsum (l.map fun a => rsum (m.map fun b => f a * g b)) = rsum (l.map f) * rsum (m.map g) := by
  rw [Rat.mul_comm, ← rsum_mul]
  congr 1
  refine List.map_congr_left fun a _ => ?_
  rw [rsum_mul, Rat.mul_comm]
end
theorem sum_one (c : Rat) (φ : Int → Rat) (j : Int) : ∀ ks : List Int, ks.Nodup → j ∈ ks → rsum (ks.map fun k => (if j = k then c else 0) * φ k) = c * φ j
  | k :: ks, hn, hj => by
    have hn := List.nodup_cons.1 hn
    rw [List.map_cons, rsum_cons]
    by_cases h : j = k
    · subst h
      have : ∀ l : List Int, j ∉ l → rsum (l.map fun k => (if j = k then c else 0) * φ k) = 0 := by
        intro l
        induction l with
        | nil => intro _; rfl
        | cons a l ih =>
          intro ha
          rw [List.map_cons, rsum_cons, ih fun h => ha (List.mem_cons_of_mem _ h), if_neg fun e => ha (by simp [e]), Rat.zero_mul, Rat.add_zero]
      rw [if_pos rfl, this ks hn.1, Rat.add_zero]
    · rw [if_neg h, Rat.zero_mul, Rat.zero_add]
      exact sum_one c φ j ks hn.2 ((List.mem_cons.1 hj).resolve_left h)
theorem sum_keys (φ : Int → Rat) (ks : List Int) (hn : ks.Nodup) : ∀ T : List (Int × Rat), (∀ t ∈ T, t.1 ∈ ks) → rsum (ks.map fun k => sumAt k T * φ k) = rsum (T.map fun t => t.2 * φ t.1)
  | [], _ => by
    have : ∀ l : List Int, rsum (l.map fun k => sumAt k [] * φ k) = 0 := by
      intro l
      induction l with
      | nil => rfl
      | cons a l ih => rw [List.map_cons, rsum_cons, ih, sumAt, Rat.zero_mul, Rat.add_zero]
    exact this ks
  | t :: T, h => by
    rw [List.map_cons, rsum_cons, ← sum_keys φ ks hn T fun s hs => h s (by simp [hs]), ← sum_one t.2 φ t.1 ks hn (h t (by simp)), ← rsum_add]
    congr 1
    refine List.map_congr_left fun k _ => ?_
    rw [sumAt, Rat.add_mul]
/-! ### The mean of the weights -/
theorem wsum {len : Nat} (f g : Nat → Rat) {S : List (Nat × Rat)} (hs : ∀ s ∈ S, s.1 < len) : ∀ W : List (Nat × Rat), rsum ((wstep len W S).map fun q => q.2 * (f (q.1 / len) * g (q.1 % len))) = rsum (W.map fun p => p.2 * f p.1) * rsum (S.map fun s => s.2 * g s.1)
  | [] => (Rat.zero_mul _).symm
  | p :: W => by
    have e : rsum (S.map ((fun q : Nat × Rat => q.2 * (f (q.1 / len) * g (q.1 % len))) ∘ fun s => (p.1 * len + s.1, p.2 * s.2))) = p.2 * f p.1 * rsum (S.map fun s => s.2 * g s.1) := by
      rw [← rsum_mul]
      congr 1
      refine List.map_congr_left fun s h => ?_
      have h1 := hs s h
      show p.2 * s.2 * (f ((p.1 * len + s.1) / len) * g ((p.1 * len + s.1) % len)) = p.2 * f p.1 * (s.2 * g s.1)
      rw [Nat.mul_comm p.1, Nat.mul_add_div (by omega), Nat.div_eq_of_lt h1, Nat.add_zero, Nat.mul_add_mod, Nat.mod_eq_of_lt h1, Rat.mul_assoc, Rat.mul_assoc]
      congr 1
      rw [← Rat.mul_assoc, ← Rat.mul_assoc, Rat.mul_comm s.2]
    rw [wstep_cons, List.map_append, rsum_append, wsum f g hs W, List.map_cons, rsum_cons, Rat.add_mul, List.map_map, e]
def FS (f : Nat → Rat) (S : List (Nat × Rat)) : Rat := rsum (S.map fun s => s.2 * f s.1)
theorem WSpec.mean {a b c : List Int} (ha : Axis a) (hb : Axis b) (hc : Axis c) {x y z : Int} {W : List (Nat × Rat)} (h : WSpec a b c x y z W) : ∃ Sa Sb Sc, ShSpec a (clampL a x) Sa ∧ ShSpec b (clampL b y) Sb ∧ ShSpec c (clampL c z) Sc ∧
    ∀ f g k : Nat → Rat, rsum (W.map fun w => w.2 * (f (w.1 / c.length / b.length) * g (w.1 / c.length % b.length) * k (w.1 % c.length))) = FS f Sa * FS g Sb * FS k Sc := by
  obtain ⟨Sa, Sb, Sc, h1, h2, h3, rfl⟩ := h
  refine ⟨Sa, Sb, Sc, h1, h2, h3, fun f g k => ?_⟩
  obtain ⟨_, b2, _⟩ := h2.db hb
  obtain ⟨_, c2, _⟩ := h3.db hc
  rw [wsum (fun q => f (q / b.length) * g (q % b.length)) k c2, wsum f g b2]
  congr 2
  unfold FS wstep
  rw [List.flatMap_cons, List.flatMap_nil, List.append_nil, List.map_map]
  congr 1
  refine List.map_congr_left fun s _ => ?_
  show 1 * s.2 * f (0 * a.length + s.1) = s.2 * f s.1
  rw [Rat.one_mul, Nat.zero_mul, Nat.zero_add]
def axV (l : List Int) (i : Nat) : Rat := ((l.getD i 0 : Int) : Rat)
def one1 (_ : Nat) : Rat := 1
theorem mk_div (n : Int) (d : Nat) : mkRat n d = (n : Rat) / (d : Rat) := by
  rw [Rat.mkRat_eq_div]
theorem share_alg {a b c d : Rat} (hd : d ≠ 0) (h : b - a = d) : (b - c) / d * 1 + ((c - a) / d * 1 + 0) = 1 ∧ (b - c) / d * a + ((c - a) / d * b + 0) = c := by
  constructor <;> grind
theorem ShSpec.mean {l : List Int} {c : Int} {S : List (Nat × Rat)} (hs : ShSpec l c S) : FS one1 S = 1 ∧ FS (axV l) S = (c : Rat) := by
  rcases hs with ⟨k, h1, rfl⟩ | ⟨k, a, b, h1, h2, h3, h4, rfl⟩
  · have e : axV l k = (c : Rat) := by unfold axV; rw [List.getD_eq_getElem?_getD, h1]; rfl
    constructor
    · show (1 : Rat) * 1 + 0 = 1
      rw [Rat.add_zero, Rat.mul_one]
    · show (1 : Rat) * axV l k + 0 = _
      rw [Rat.add_zero, Rat.one_mul, e]
  · have ea : axV l k = (a : Rat) := by unfold axV; rw [List.getD_eq_getElem?_getD, h1]; rfl
    have eb : axV l (k + 1) = (b : Rat) := by unfold axV; rw [List.getD_eq_getElem?_getD, h2]; rfl
    obtain ⟨d, hd⟩ : ∃ d : Nat, b - a = (d : Int) := ⟨(b - a).toNat, by omega⟩
    have hd0 : (d : Rat) ≠ 0 := by
      have : d ≠ 0 := by omega
      exact_mod_cast this
    have hba : (b : Rat) - (a : Rat) = (d : Rat) := by exact_mod_cast congrArg (fun z : Int => (z : Rat)) hd
    have e1 : (b - a).toNat = d := by omega
    have m1 : mkRat (b - c) d = ((b : Rat) - (c : Rat)) / (d : Rat) := by rw [mk_div]; congr 1; exact_mod_cast rfl
    have m2 : mkRat (c - a) d = ((c : Rat) - (a : Rat)) / (d : Rat) := by rw [mk_div]; congr 1; exact_mod_cast rfl
    obtain ⟨g1, g2⟩ := share_alg (c := (c : Rat)) hd0 hba
    rw [e1, m1, m2]
    constructor
    · exact g1
    · show ((b : Rat) - (c : Rat)) / (d : Rat) * axV l k + (((c : Rat) - (a : Rat)) / (d : Rat) * axV l (k + 1) + 0) = _
      rw [ea, eb]
      exact g2
theorem clamp_id {l : List Int} {c a z : Int} (ha : l[0]? = some a) (hz : l[l.length - 1]? = some z) (h1 : a ≤ c) (h2 : c ≤ z) : clampL l c = c := by
  unfold clampL clampZ
  rw [head0 ha, last0 hz]
  repeat' split
  all_goals omega
/-! ### The mean of the terms -/
section
variable {x : ModelD} {h u v b r : Int}
/-- The place of a vertex: what the cuts are there. -/
def vx (x : ModelD) (b k : Int) : Nat := ((k - b) / (x.advisories.length : Int)).toNat
theorem vx_key (x : ModelD) (b : Int) (w : Nat) (h1 : 1 ≤ x.advisories.length) : vx x b (keyZ x.advisories.length b w) = w := by
  unfold vx keyZ
  rw [show ((w * x.advisories.length : Nat) : Int) + b - b = ((w * x.advisories.length : Nat) : Int) by omega, ← Int.natCast_ediv, Nat.mul_div_cancel _ (by omega), Int.toNat_natCast]
/-- A function of the three indices. -/
def fgk (x : ModelD) (f g k : Nat → Rat) (w : Nat) : Rat := f (w / x.other.length / x.own.length) * g (w / x.other.length % x.own.length) * k (w % x.other.length)
theorem pair_mean (E : Env x h u v b r) (n o : NoiseD) : ∃ Sa Sb Sc, ShSpec x.height (clampL x.height (h + v - u)) Sa ∧ ShSpec x.own (clampL x.own (r + n.delta)) Sb ∧ ShSpec x.other (clampL x.other (v + o.delta)) Sc ∧
    ∀ f g k : Nat → Rat, rsum ((pairT x h u v b r n o).map fun t => t.2 * fgk x f g k (vx x b t.1)) = n.p.rat * o.p.rat * (FS f Sa * FS g Sb * FS k Sc) := by
  obtain ⟨Sa, Sb, Sc, h1, h2, h3, h4⟩ := (Wf_spec E.h1 E.h2 E.h3 E.ck (h + v - u) (r + n.delta) (v + o.delta)).1.mean E.h1 E.h2 E.h3
  refine ⟨Sa, Sb, Sc, h1, h2, h3, fun f g k => ?_⟩
  rw [← h4, ← rsum_mul]
  unfold pairT
  rw [List.map_map]
  congr 1
  refine List.map_congr_left fun w _ => ?_
  show n.p.rat * o.p.rat * w.2 * fgk x f g k (vx x b (keyZ x.advisories.length b w.1)) = _
  rw [vx_key x b w.1 E.a0, Rat.mul_assoc]
  rfl
theorem terms_flat (φ : Int × Rat → Rat) : rsum ((termsT x h u v b r).map φ) = rsum (x.ownNoise.map fun n => rsum (x.otherNoise.map fun o => rsum ((pairT x h u v b r n o).map φ))) := by
  unfold termsT
  rw [rsum_flat]
  congr 1
  refine List.map_congr_left fun n _ => ?_
  rw [rsum_flat]
/-- The means of the terms. -/
theorem terms_mean (E : Env x h u v b r) (s1 : rsum (x.ownNoise.map (·.p.rat)) = 1) (s2 : rsum (x.otherNoise.map (·.p.rat)) = 1) :
    rsum ((termsT x h u v b r).map fun t => t.2 * fgk x one1 one1 one1 (vx x b t.1)) = 1 ∧
    rsum ((termsT x h u v b r).map fun t => t.2 * fgk x (axV x.height) one1 one1 (vx x b t.1)) = (clampL x.height (h + v - u) : Int) ∧
    rsum ((termsT x h u v b r).map fun t => t.2 * fgk x one1 (axV x.own) one1 (vx x b t.1)) = rsum (x.ownNoise.map fun n => n.p.rat * (clampL x.own (r + n.delta) : Int)) ∧
    rsum ((termsT x h u v b r).map fun t => t.2 * fgk x one1 one1 (axV x.other) (vx x b t.1)) = rsum (x.otherNoise.map fun o => o.p.rat * (clampL x.other (v + o.delta) : Int)) := by
  have key : ∀ (f g k : Nat → Rat) (F G : NoiseD → Rat), (∀ n o Sa Sb Sc, ShSpec x.height (clampL x.height (h + v - u)) Sa → ShSpec x.own (clampL x.own (r + n.delta)) Sb → ShSpec x.other (clampL x.other (v + o.delta)) Sc → FS f Sa * FS g Sb * FS k Sc = F n * G o) →
      rsum ((termsT x h u v b r).map fun t => t.2 * fgk x f g k (vx x b t.1)) = rsum (x.ownNoise.map fun n => n.p.rat * F n) * rsum (x.otherNoise.map fun o => o.p.rat * G o) := by
    intro f g k F G hFG
    rw [terms_flat, ← rsum_two]
    congr 1
    refine List.map_congr_left fun n _ => ?_
    congr 1
    refine List.map_congr_left fun o _ => ?_
    obtain ⟨Sa, Sb, Sc, h1, h2, h3, h4⟩ := pair_mean E n o
    rw [h4, hFG n o Sa Sb Sc h1 h2 h3, Rat.mul_assoc, Rat.mul_assoc]
    congr 1
    rw [← Rat.mul_assoc, ← Rat.mul_assoc, Rat.mul_comm o.p.rat]
  have c1 : ∀ l : List NoiseD, rsum (l.map fun n => n.p.rat * (1 : Rat)) = rsum (l.map (·.p.rat)) := fun l => by
    congr 1
    exact List.map_congr_left fun n _ => Rat.mul_one _
  have cc : ∀ (c : Rat) (l : List NoiseD), rsum (l.map fun n => n.p.rat * c) = c * rsum (l.map (·.p.rat)) := fun c l => by
    rw [← rsum_mul]
    congr 1
    exact List.map_congr_left fun n _ => Rat.mul_comm _ _
  refine ⟨?_, ?_, ?_, ?_⟩
  · rw [key one1 one1 one1 (fun _ => 1) (fun _ => 1) fun n o Sa Sb Sc h1 h2 h3 => by rw [h1.mean.1, h2.mean.1, h3.mean.1, Rat.mul_one], c1, c1, s1, s2, Rat.mul_one]
  · rw [key (axV x.height) one1 one1 (fun _ => (clampL x.height (h + v - u) : Int)) (fun _ => 1) fun n o Sa Sb Sc h1 h2 h3 => by rw [h1.mean.2, h2.mean.1, h3.mean.1, Rat.mul_one], cc, c1, s1, s2, Rat.mul_one, Rat.mul_one]
  · rw [key one1 (axV x.own) one1 (fun n => (clampL x.own (r + n.delta) : Int)) (fun _ => 1) fun n o Sa Sb Sc h1 h2 h3 => by rw [h1.mean.1, h2.mean.2, h3.mean.1, Rat.one_mul], c1, s2, Rat.mul_one]
  · rw [key one1 one1 (axV x.other) (fun _ => 1) (fun o => (clampL x.other (v + o.delta) : Int)) fun n o Sa Sb Sc h1 h2 h3 => by rw [h1.mean.1, h2.mean.1, h3.mean.2, Rat.mul_one], c1, s1, Rat.one_mul]
/-- The same sums over the outcomes. -/
theorem outs_mean (φ : Int → Rat) : rsum ((outs x h u v b r).map fun o => getP o.to 0 (sums x h u v b r) * φ o.to) = rsum ((termsT x h u v b r).map fun t => t.2 * φ t.1) := by
  obtain ⟨h1, h2⟩ := sums_keys (x := x) (h := h) (u := u) (v := v) (b := b) (r := r)
  have hp := sortZ_perm ((sums x h u v b r).map Prod.fst)
  rw [← sum_keys φ (sortZ ((sums x h u v b r).map Prod.fst)) (hp.nodup_iff.2 h1) _ fun t ht => hp.mem_iff.2 ((h2 _).2 (List.mem_map.2 ⟨t, ht, rfl⟩))]
  unfold outs
  rw [List.map_map]
  congr 1
  refine List.map_congr_left fun k _ => ?_
  show getP k 0 (sums x h u v b r) * φ k = _
  rw [sums_get]
/-- All sums are fractions with one denominator. -/
theorem Env.bd (E : Env x h u v b r) : ∃ D B : Nat, D ≠ 0 ∧ D < K128 ∧ B * 5000000000 < K128 ∧ ∀ k, DB D B (getP k 0 (sums x h u v b r)) := by
  obtain ⟨D, B, d0, d1, d2, hc⟩ := E.common
  have hl : B * (0 + 40 * x.ownNoise.length) < K128 := Nat.lt_of_le_of_lt (Nat.mul_le_mul_left _ (by have := E.l1; omega)) d2
  obtain ⟨_, h2⟩ := l27 E d0 d1 hc x.ownNoise [] 0 (fun _ h => h) (fun k => show DB D (B * 0) 0 by rw [Nat.mul_zero]; exact DB.zero) hl
  refine ⟨D, B * 200, d0, d1, ?_, fun k => (h2 k).mono (Nat.mul_le_mul_left _ (by have := E.l1; omega))⟩
  rw [Nat.mul_assoc]
  exact d2
end
end Go.Proofs.YtppalofalmieaaaGreat
/- A region that draws its order and yields: what stands ahead of the yield changes nothing. By an AI agent; over any program. -/
namespace Go.Gv
open Go.RowKit
attribute [local semireducible] Go
/-- Operations that leave the world as it is, one after the other. -/
inductive PR (P : Program) (n : Nat) (w : World) : List Oper → List (Nat × Value) → List (Nat × Value) → Prop
  | nil {L : List (Nat × Value)} : PR P n w [] L L
  | step {o : Oper} {l : List Oper} {L L' : List (Nat × Value)} {d : Nat} {v : Value} (hd : dstIs o d n = true) (hg : okOp L o = true) (hr : (execOp (evL L) o).run P w = .ok (.value v) w) (h : PR P n w l ((d, v) :: L) L') : PR P n w (o :: l) L L'
def tabL : List (Nat × Value) → Nat → List (Nat × Value) → List (Nat × Value)
  | _, 0, L => L
  | [], _, L => L
  | p :: T, k + 1, L => tabL T k (p :: L)
theorem PR.tab {P : Program} {n : Nat} {w : World} {l : List Oper} {L L' : List (Nat × Value)} (h : PR P n w l L L') : ∃ T : List (Nat × Value), T.length = l.length ∧ L' = tabL T l.length L ∧
    ∀ j o, l[j]? = some o → ∃ d v, T[j]? = some (d, v) ∧ dstIs o d n = true ∧ okOp (tabL T j L) o = true ∧ (execOp (evL (tabL T j L)) o).run P w = .ok (.value v) w := by
  induction h with
  | nil => exact ⟨[], rfl, rfl, fun j o h => by simp at h⟩
  | @step o l L L' d v hd hg hr h ih =>
    obtain ⟨T, h1, h2, h3⟩ := ih
    refine ⟨(d, v) :: T, by simp [h1], h2, fun j q hj => ?_⟩
    cases j with
    | zero =>
      obtain rfl : o = q := by simpa using hj
      exact ⟨d, v, rfl, hd, hg, hr⟩
    | succ j => exact h3 j q (by simpa using hj)
/-- What the table says of a slot. -/
def dof (ops : Array Oper) (j : Nat) : Option Nat := (ops[j]?).bind (·.dst)
def inPre (ops : Array Oper) (i t : Nat) : Bool := (List.range i).any fun j => dof ops j == some t
/-- The operands of operation j are those of the frame, or stand listed. -/
def opnOk (ops : Array Oper) (i : Nat) (l : Array Bool) (j : Nat) : Bool :=
  match ops[j]? with
  | some o => o.guard.isNone && noDef o.op && o.op.operands.toList.all fun x => match x with
    | .tmp t => (List.range i).all fun q => !(dof ops q == some t) || (Nat.blt q j && l.getD q false)
    | _ => true
  | none => false
/-- From these listed on: all orders lead to the yield. -/
def expl (ops : Array Oper) (i : Nat) : Nat → Array Bool → Bool
  | 0, _ => false
  | f + 1, l => let rs := Region.ready .any ops l
    if rs = [i] then (List.range i).all fun j => l.getD j false else !rs.isEmpty && rs.all fun j => Nat.blt j i && (opnOk ops i l j && expl ops i f (l.setIfInBounds j true))
/-- Behind it one after the other. -/
def chain (ops : Array Oper) : Nat → Nat → Array Bool → Bool
  | _, 0, l => Region.ready .any ops l == []
  | k, f + 1, l => Region.ready .any ops l == [k] && chain ops (k + 1) f (l.setIfInBounds k true)
/-- No slot twice. -/
def uniq (ops : Array Oper) (i : Nat) : Bool := (List.range i).all fun j => (List.range i).all fun q => j == q || !(dof ops j == dof ops q)
section
variable {r : Option Nat} {m : Nat} {P : Program} {ops : Array Oper} {Q : Exit → Act → World → Prop} {n : Nat} {w : World}
theorem chain_seq : ∀ (f k : Nat) (l : Array Bool) (a : Act) (w : World), chain ops k f l = true → f + k = ops.size → wpListIn (FF r) m P ops Q (ops.toList.drop k) a w → ∀ fuel, f ≤ fuel → wpAnyIn (FF r) m P .any ops Q fuel l a w
  | 0, k, l, a, w, hc, hk, h, fuel, _ => by
    simp only [chain, beq_iff_eq] at hc
    rw [List.drop_eq_nil_of_le (by simp; omega)] at h
    exact wpAnyIn_done hc h fuel
  | f + 1, k, l, a, w, hc, hk, h, 0, hf => by omega
  | f + 1, k, l, a, w, hc, hk, h, fuel + 1, hf => by
    simp only [chain, Bool.and_eq_true, beq_iff_eq] at hc
    have hlt : k < ops.size := by omega
    rw [List.drop_eq_getElem_cons (by simpa using hlt)] at h
    refine wpAnyIn_all hc.1 (by simp) fun j hj => ?_
    rw [List.mem_singleton.1 hj]
    have ih := fun a w h => chain_seq f (k + 1) (l.setIfInBounds k true) a w hc.2 (by omega) h fuel (by omega)
    unfold wpOpIn
    have ho : ops[k]? = some ops[k] := by simp [hlt]
    rw [ho]
    unfold wpListIn at h
    rw [Array.getElem_toList] at h
    show if Region.wanted ops[k] (yielded ops a.tmps) = true then _ else _
    split
    · rename_i hw
      rw [if_pos hw] at h
      exact Oper.wpIn_mono ih h
    · rename_i hw
      rw [if_neg hw] at h
      exact ⟨h.1, ih _ _ h.2⟩
end
theorem tabL_succ : ∀ (T : List (Nat × Value)) (j : Nat) (L : List (Nat × Value)) (p : Nat × Value), T[j]? = some p → tabL T (j + 1) L = p :: tabL T j L
  | q :: T, 0, L, p, h => by
    obtain rfl : q = p := by simpa using h
    cases T <;> rfl
  | q :: T, j + 1, L, p, h => tabL_succ T j (q :: L) p (by simpa using h)
section
variable {r : Option Nat} {m : Nat} {P : Program} {ops : Array Oper} {Q : Exit → Act → World → Prop} {n i : Nat} {w : World} {L : List (Nat × Value)} {D : List Deferred} {T : List (Nat × Value)}
/-- What a table's list says of a slot: the last entry, or what was known ahead. -/
theorem tab_look (hT : ∀ j, j < i → ∃ v, T[j]? = some ((dof ops j).getD 0, v) ∧ (dof ops j).isSome = true) (hu : uniq ops i = true) : ∀ (j : Nat), j ≤ i → ∀ t, (∀ q v, q < j → T[q]? = some (t, v) → has (tabL T j L) t = true ∧ look (tabL T j L) t = v) ∧ ((∀ q, q < j → dof ops q ≠ some t) → has (tabL T j L) t = has L t ∧ look (tabL T j L) t = look L t)
  | 0, _, t => ⟨fun q v h => absurd h (Nat.not_lt_zero _), fun _ => by cases T <;> exact ⟨rfl, rfl⟩⟩
  | j + 1, hj, t => by
    obtain ⟨v, hv, hs⟩ := hT j (by omega)
    obtain ⟨d, hd⟩ := Option.isSome_iff_exists.1 hs
    rw [hd, Option.getD_some] at hv
    obtain ⟨ih1, ih2⟩ := tab_look hT hu j (by omega) t
    rw [tabL_succ T j L _ hv]
    simp only [has, look]
    cases hb : Nat.beq d t with
    | true =>
      have e := Nat.eq_of_beq_eq_true hb
      subst e
      simp only [cond_true]
      refine ⟨fun q v' hq hq2 => ⟨trivial, ?_⟩, fun hn => absurd hd (hn j (by omega))⟩
      have : q = j := by
        apply Classical.byContradiction
        intro hne
        obtain ⟨v'', hv'', hs''⟩ := hT q (by omega)
        rw [hq2] at hv''
        obtain ⟨d', hd'⟩ := Option.isSome_iff_exists.1 hs''
        rw [hd', Option.getD_some] at hv''
        obtain ⟨rfl, _⟩ := Prod.mk.inj (Option.some.inj hv'')
        have h1 := List.all_eq_true.1 (List.all_eq_true.1 hu j (List.mem_range.2 (by omega))) q (List.mem_range.2 (by omega))
        rw [hd, hd'] at h1
        simp at h1
        omega
      subst this
      rw [hv] at hq2
      exact (Prod.mk.inj (Option.some.inj hq2)).2
    | false =>
      simp only [cond_false]
      have hne : d ≠ t := fun e => by subst e; simp at hb
      refine ⟨fun q v' hq hq2 => ?_, fun hn => ih2 fun q hq => hn q (by omega)⟩
      rcases Nat.lt_succ_iff_lt_or_eq.1 hq with hq | rfl
      · exact ih1 q v' hq hq2
      · rw [hv] at hq2
        exact absurd (Prod.mk.inj (Option.some.inj hq2)).1 hne
/-- Between two operations: those listed have put their values. -/
structure Mid (ops : Array Oper) (i n : Nat) (D : List Deferred) (L T : List (Nat × Value)) (l : Array Bool) (a : Act) : Prop where
  size : a.tmps.size = n
  defers : a.defers = D
  base : ∀ t, has L t = true → inPre ops i t = false → a.tmps[t]? = some (look L t)
  put : ∀ j d v, j < i → l.getD j false = true → T[j]? = some (d, v) → a.tmps[d]? = some v
theorem inPre_spec {t : Nat} : inPre ops i t = false ↔ ∀ q, q < i → dof ops q ≠ some t := by
  unfold inPre
  rw [List.any_eq_false]
  constructor
  · intro h q hq e
    exact h q (List.mem_range.2 hq) (by simp [e])
  · intro h q hq
    have := h q (List.mem_range.1 hq)
    simpa using this
theorem expl_sound (hT : ∀ j o, j < i → ops[j]? = some o → ∃ d v, T[j]? = some (d, v) ∧ dstIs o d n = true ∧ okOp (tabL T j L) o = true ∧ (execOp (evL (tabL T j L)) o).run P w = .ok (.value v) w)
    (hi : i ≤ ops.size) (hu : uniq ops i = true)
    (fin : ∀ l a, Fr n a (tabL T i L) D → Region.ready .any ops l = [i] → (∀ j, j < i → l.getD j false = true) → ∀ fuel, unl l ≤ fuel → l.size = ops.size → (∀ k, i ≤ k → k < ops.size → l.getD k true = false) → wpAnyIn (FF r) m P .any ops Q fuel l a w) :
    ∀ (f : Nat) (l : Array Bool) (a : Act), expl ops i f l = true → Mid ops i n D L T l a → l.size = ops.size → (∀ k, i ≤ k → k < ops.size → l.getD k true = false) → ∀ fuel, unl l ≤ fuel → wpAnyIn (FF r) m P .any ops Q fuel l a w
  | 0, l, a, he, _, _, _, _, _ => by cases he
  | f + 1, l, a, he, hM, hs, hl, fuel, hf => by
    have hT1 : ∀ j, j < i → ∃ v, T[j]? = some ((dof ops j).getD 0, v) ∧ (dof ops j).isSome = true := fun j hj => by
      have hlt : j < ops.size := by omega
      obtain ⟨d, v, h1, h2, _⟩ := hT j ops[j] hj (by simp [hlt])
      have hd := (dstIs_spec h2).1
      have : dof ops j = some d := by unfold dof; simp [hlt, hd]
      exact ⟨v, by rw [this]; exact h1, by rw [this]; rfl⟩
    unfold expl at he
    simp only at he
    split at he
    · rename_i hr
      have hall : ∀ j, j < i → l.getD j false = true := fun j hj => List.all_eq_true.1 he j (List.mem_range.2 hj)
      refine fin l a ⟨hM.size, hM.defers, fun t ht => ?_⟩ hr hall fuel hf hs hl
      obtain ⟨k1, k2⟩ := tab_look (L := L) hT1 hu i (Nat.le_refl _) t
      cases hp : inPre ops i t with
      | false =>
        obtain ⟨g1, g2⟩ := k2 (inPre_spec.1 hp)
        rw [g2]
        exact hM.base t (by rw [← g1]; exact ht) hp
      | true =>
        obtain ⟨q, hq, e⟩ := List.any_eq_true.1 hp
        have hq := List.mem_range.1 hq
        have e : dof ops q = some t := by simpa using e
        obtain ⟨v, hv, _⟩ := hT1 q hq
        rw [e, Option.getD_some] at hv
        rw [(k1 q v hq hv).2]
        exact hM.put q t v hq (hall q hq) hv
    · rename_i hr
      simp only [Bool.and_eq_true, Bool.not_eq_true', List.isEmpty_eq_false_iff] at he
      have hmem := List.all_eq_true.1 he.2
      obtain ⟨fuel, rfl⟩ : ∃ g, fuel = g + 1 := by
        obtain ⟨j, hj⟩ := List.exists_mem_of_ne_nil _ he.1
        have := unl_set (mem_ready.1 hj).1
        exact ⟨fuel - 1, by omega⟩
      refine wpAnyIn_all rfl he.1 fun j hj => ?_
      have h1 := hmem j hj
      simp only [Bool.and_eq_true] at h1
      obtain ⟨hji, hop, hrec⟩ := h1
      have hji : j < i := by simpa [Nat.blt_eq] using hji
      have hlt : j < ops.size := by omega
      have ho : ops[j]? = some ops[j] := by simp [hlt]
      obtain ⟨d, v, t1, t2, t3, t4⟩ := hT j ops[j] hji ho
      obtain ⟨hd, hdn⟩ := dstIs_spec t2
      have hun := (mem_ready.1 hj).1
      unfold opnOk at hop
      rw [ho] at hop
      simp only [Bool.and_eq_true] at hop
      obtain ⟨⟨hg, hnd⟩, hops⟩ := hop
      have hg : (ops[j]).guard = none := by simpa using hg
      simp only [okOp, Bool.and_eq_true] at t3
      have hev : execOp a.eval ops[j] = execOp (evL (tabL T j L)) ops[j] := by
        refine execOp_congr _ (noSel_spec t3.1) fun x hx => ?_
        have hcov := covAll_spec t3.2 x (by simpa using hx)
        have hx2 := List.all_eq_true.1 hops x (by simpa using hx)
        cases x with
        | tmp t =>
          obtain ⟨k1, k2⟩ := tab_look (L := L) hT1 hu j (by omega) t
          show a.tmps.getD t undef = look (tabL T j L) t
          have hcov : has (tabL T j L) t = true := hcov
          cases hp : inPre ops i t with
          | false =>
            obtain ⟨g1, g2⟩ := k2 fun q hq => inPre_spec.1 hp q (by omega)
            rw [g2]
            have := hM.base t (by rw [← g1]; exact hcov) hp
            simp [this]
          | true =>
            obtain ⟨q, hq, e⟩ := List.any_eq_true.1 hp
            have hq1 := List.mem_range.1 hq
            have e' : dof ops q = some t := by simpa using e
            have h3 := List.all_eq_true.1 hx2 q hq
            rw [e] at h3
            simp only [Bool.not_true, Bool.false_or, Bool.and_eq_true] at h3
            have hqj : q < j := by simpa [Nat.blt_eq] using h3.1
            obtain ⟨v', hv', _⟩ := hT1 q hq1
            rw [e', Option.getD_some] at hv'
            rw [(k1 q v' hqj hv').2]
            have := hM.put q t v' hq1 h3.2 hv'
            simp [this]
        | _ => rfl
      have hset : (l.setIfInBounds j true).size = ops.size := by simp [hs]
      have hM' : Mid ops i n D L T (l.setIfInBounds j true) (a.put (some d) v) := by
        refine ⟨by simpa [Act.put] using hM.size, hM.defers, fun t ht hp => ?_, fun q d' v' hq hlq hv' => ?_⟩
        · have hne : d ≠ t := fun e => inPre_spec.1 hp j hji (by unfold dof; simp [hlt, hd, e])
          show (a.tmps.setIfInBounds d v)[t]? = _
          rw [Array.getElem?_setIfInBounds_ne hne]
          exact hM.base t ht hp
        · show (a.tmps.setIfInBounds d v)[d']? = _
          by_cases hqj : q = j
          · subst hqj
            rw [t1] at hv'
            obtain ⟨rfl, rfl⟩ := Prod.mk.inj (Option.some.inj hv')
            have : d < a.tmps.size := by rw [hM.size]; exact hdn
            simp [this]
          · have hdd : d ≠ d' := by
              intro e
              subst e
              obtain ⟨v1, hv1, hs1⟩ := hT1 q hq
              rw [hv'] at hv1
              obtain ⟨d2, hd2⟩ := Option.isSome_iff_exists.1 hs1
              rw [hd2, Option.getD_some] at hv1
              obtain ⟨rfl, _⟩ := Prod.mk.inj (Option.some.inj hv1)
              have hdj : dof ops j = some d := by unfold dof; simp [hlt, hd]
              have h1 := List.all_eq_true.1 (List.all_eq_true.1 hu q (List.mem_range.2 hq)) j (List.mem_range.2 hji)
              rw [hdj, hd2] at h1
              simp at h1
              exact hqj h1
            rw [Array.getElem?_setIfInBounds_ne hdd]
            refine hM.put q d' v' hq ?_ hv'
            rwa [Array.getD_eq_getD_getElem?, Array.getElem?_setIfInBounds_ne (fun e => hqj e.symm), ← Array.getD_eq_getD_getElem?] at hlq
      have hl' : ∀ k, i ≤ k → k < ops.size → (l.setIfInBounds j true).getD k true = false := fun k hk hk2 => by
        rw [Array.getD_eq_getD_getElem?, Array.getElem?_setIfInBounds_ne (by omega), ← Array.getD_eq_getD_getElem?]
        exact hl k hk hk2
      have hf' : unl (l.setIfInBounds j true) ≤ fuel := by have := unl_set hun; omega
      have ih := expl_sound hT hi hu fin f (l.setIfInBounds j true) (a.put (some d) v) hrec hM' hset hl' fuel hf'
      unfold wpOpIn
      rw [ho]
      have hw : Region.wanted ops[j] (yielded ops a.tmps) = true := by unfold Region.wanted; rw [hg]
      show if Region.wanted ops[j] (yielded ops a.tmps) = true then _ else _
      rw [if_pos hw]
      refine opIn hnd ?_
      unfold Oper.wp
      rw [hev, t4]
      show wpAnyIn (FF r) m P .any ops Q fuel (l.setIfInBounds j true) (a.put (ops[j]).dst v) w
      rw [hd]
      exact ih
end
section
variable {r : Option Nat} {m : Nat} {P : Program} {Q : Exit → Act → World → Prop} {n : Nat} {D : List Deferred} {w : World} {c : Cf} {E : Nat → Prop} {w0 : World} {X Y : Hid} {M : List (Nat × Obj)}
def cl (c : Cf) : List Oper := match c.cu with
  | .ops _ l => l
  | _ => []
/-- So many quiet steps, then K. -/
def Qt (P : Program) (n : Nat) (w : World) (N : Nat) (c : Cf) (K : Cf → Prop) : Prop := ∃ L', PR P n w ((cl c).take N) c.L L' ∧ K ⟨.ops (cops c) ((cl c).drop N), c.k, L'⟩
theorem q0 {K : Cf → Prop} (h : K ⟨.ops (cops c) (cl c), c.k, c.L⟩) : Qt P n w 0 c K := ⟨c.L, .nil, h⟩
theorem qv_ {N : Nat} {K : Cf → Prop} {v : Value} (hr : (execOp (evL c.L) (cop c)).run P w = .ok (.value v) w) (h : Qt P n w N (nv c v) K) (hc : isv n c = true) : Qt P n w (N + 1) c K := by
  obtain ⟨h1, h2⟩ := isv_spec hc
  rw [nv_eq] at h
  obtain ⟨L', h3, h4⟩ := h
  simp only [opk, Bool.and_eq_true] at h2
  obtain ⟨cu, k, L⟩ := c
  cases cu with
  | ops o l =>
    cases l with
    | nil => simp [isop] at h1
    | cons x l => exact ⟨L', .step h2.2 h2.1 hr h3, h4⟩
  | _ => simp [isop] at h1
def qv (P : Program) (w : World) (c : Cf) : Value := match (execOp (evL c.L) (cop c)).run P w with
  | .ok (.value v) _ => v
  | _ => undef
theorem qz {N : Nat} {K : Cf → Prop} (h : Qt P n w N (nv c (qv P w c)) K) (hc : isv n c = true := by kernel_rfl) (hr : (execOp (evL c.L) (cop c)).run P w = .ok (.value (qv P w c)) w := by kernel_rfl) : Qt P n w (N + 1) c K := qv_ hr h hc
theorem qH {N : Nat} {K : Cf → Prop} {v : Value} (hr : Unit → (execOp (evL c.L) (cop c)).run P w = .ok (.value v) w) (h : Qt P n w N (nv c v) K) (hc : isv n c = true := by kernel_rfl) : Qt P n w (N + 1) c K := qv_ (hr ()) h hc
theorem qo {N : Nat} {K : Cf → Prop} (i : Nat) (hS : St E w0 X w Y M) (h : Qt P n w N (nv c (ldV (ldG P (cop c)) (own P c M i))) K) (hc : isv n c = true := by kernel_rfl)
    (ho : (cop c).op = .load (ldT' (cop c)) (ldX (cop c)) := by kernel_rfl) (hx : evL c.L (ldX (cop c)) = .pointer (some ⟨bO M i, pOff (evL c.L (ldX (cop c))), none⟩) := by kernel_rfl)
    (ht : ldT P (ldT' (cop c)) = some (ldG P (cop c), (own P c M i).length) := by kernel_rfl) (hg : (ldG P (cop c) || (own P c M i).length == 1) = true := by kernel_rfl) (hi : M[i]? = some (bO M i, .cells (cO M i) (tO M i) (fO M i)) := by kernel_rfl) (hm : (own P c M i).length = ldM P (cop c) := by kernel_rfl) : Qt P n w (N + 1) c K :=
  qv_ (zB ho hx ht (by simpa using hg) (hS.cells i hi (by rw [hm]; rfl))) h hc
def firstA (n i : Nat) : Array Bool := ((List.range n).map fun j => Nat.blt j i).toArray
def dqk (ops : Array Oper) (i : Nat) : Bool := Nat.ble i ops.size && (uniq ops i && (expl ops i (i + 1) (Array.replicate ops.size false) && (chain ops i (ops.size - i) (firstA ops.size i) && Nat.beq (unl (firstA ops.size i)) (ops.size - i))))
theorem zdq (i : Nat) (hS : St E w0 X w Y M) (k : ∀ w1, St E w0 X w1 Y M → Le (rd w Y) (rd w1 Y) → Qt P n w1 i ⟨.ops (dops c) (dops c).toList, c.k, c.L⟩ fun c' => Go r m P Q n D w1 c')
    (hx : c.cu = .code (.region (did c) (dops c) true) := by kernel_rfl) (hm : P.follows .mixedOrders = true := by kernel_rfl) (hk : dqk (dops c) i = true := by kernel_rfl) : Go r m P Q n D w c := by
  intro a hF
  rw [hx]
  refine wpIn_region_any hm ?_
  obtain ⟨L', hp, hg⟩ := k w.drew (hS.call (Upd.drew w)) ((Upd.drew w).le Y)
  simp only [dqk, Bool.and_eq_true] at hk
  obtain ⟨k1, k2, k3, k4, k5⟩ := hk
  have k1 := Nat.le_of_ble_eq_true k1
  have k5 := Nat.eq_of_beq_eq_true k5
  obtain ⟨T, t1, t2, t3⟩ := hp.tab
  have hl : ((dops c).toList.take i).length = i := by simp; omega
  simp only [cl] at *
  rw [hl] at t1 t2
  have hT : ∀ j o, j < i → (dops c)[j]? = some o → ∃ d v, T[j]? = some (d, v) ∧ dstIs o d n = true ∧ okOp (tabL T j c.L) o = true ∧ (execOp (evL (tabL T j c.L)) o).run P w.drew = .ok (.value v) w.drew := fun j o hj ho => t3 j o (by rw [List.getElem?_take, if_pos hj]; simpa using ho)
  refine expl_sound (D := D) (L := c.L) hT k1 k2 ?_ (i + 1) _ a k3 ?_ (by simp) ?_ (dops c).size ?_
  · intro l a' hF' hr hall fuel hf hs hrest
    have e : l = firstA (dops c).size i := by
      apply Array.ext
      · simp [firstA, hs]
      · intro j h1 h2
        have h3 : j < (dops c).size := by omega
        have h4 : (firstA (dops c).size i)[j] = Nat.blt j i := by simp [firstA]
        rw [h4]
        by_cases hj : j < i
        · have := hall j hj
          have hb : Nat.blt j i = true := by simpa [Nat.blt_eq] using hj
          simpa [h1, hb] using this
        · have := hrest j (by omega) h3
          have hb : Nat.blt j i = false := by
            cases hb : Nat.blt j i with
            | false => rfl
            | true => exact absurd (by simpa [Nat.blt_eq] using hb) hj
          simpa [h1, hb] using this
    subst e
    refine chain_seq _ i _ a' _ k4 (by omega) ?_ fuel (by omega)
    rw [← t2] at hF'
    have := hg a' hF'
    exact this
  · refine ⟨hF.size, hF.defers, fun t ht _ => hF.get t ht, fun j d v hj hl' _ => ?_⟩
    have : j < (dops c).size := by omega
    simp [this] at hl'
  · intro k hk1 hk2
    simp [hk2]
  · unfold unl
    refine Nat.le_trans List.countP_le_length (by simp)
/-- A loop of so many rounds, round by round. -/
theorem zunr (j : Nat) (h : ∀ Kf : Nat → Act → World → Prop, (∀ i L' w', Go r m P Q n D w' ⟨.code (lbody (cuC c)), .kk (Kf i) :: c.k, L'⟩ → ∀ a2, Fr n a2 L' D → Kf (i + 1) a2 w') → Go r m P Q n D w ⟨.code (lbody (cuC c)), .kk (Kf j) :: c.k, c.L⟩)
    (hx : c.cu = .code (cuC c) := by kernel_rfl) (hl : cuC c = .loop (lbody (cuC c)) := by kernel_rfl) : Go r m P Q n D w c := by
  intro a hF
  rw [hx, hl]
  refine wpIn_loop_rounds (j + 1) ?_
  exact h (fun i => Code.roundsIn (FF r) m P (lbody (cuC c)) (QQ r m P Q c.k) i) (fun i L' w' hg a2 G2 => hg a2 G2) a hF
theorem zunr1 {b : Code} {k : List Fm} {Kf : Nat → Act → World → Prop} (hK : ∀ i L' w', Go r m P Q n D w' ⟨.code b, .kk (Kf i) :: k, L'⟩ → ∀ a2, Fr n a2 L' D → Kf (i + 1) a2 w') (i : Nat) (ts : List Nat) (h : Go r m P Q n D w ⟨.code b, .kk (Kf i) :: k, keep c.L ts⟩)
    (hx : c.cu = .ex .normal := by kernel_rfl) (hk : c.k = .kk (Kf (i + 1)) :: c.k.tail := by kernel_rfl) (hs : hasAll c.L ts = true := by kernel_rfl) : Go r m P Q n D w c := by
  intro a hF
  rw [hx, hk]
  exact hK i _ _ h a (hF.keep ts hs)
theorem zround2k {rec : Loop} {a : Act} {ps : Array Tmp} {assign body : Code} {l : Nat} {L : List (Nat × Value)} {R : Ending → World → Prop} (i p q : Nat) {v u : Value} (hr : RecOk rec a.tmps ps assign body) (hF : Fr n a L D) (hS : St E w0 X w Y M) (h : Go (some l) 0 P (rpost P l R body) n [] w ⟨.code assign, [], (q, u) :: (p, v) :: L⟩)
    (hps : ps = #[p, q] := by kernel_rfl) (hi : M[i]? = some (l, .loop rec) := by rfl) (hp : Nat.blt p n = true := by kernel_rfl) (hq : Nat.blt q n = true := by kernel_rfl) : YieldAt (FF none) 0 P l #[v, u] w R := by
  subst hps
  exact zround2 i hr hF hS h hi hp hq
end
end Go.Gv
namespace Go.Proofs.YtppalofalmieaaaGreat
open Go Go.Gv Go.RowKit
set_option maxRecDepth 100000
set_option maxHeartbeats 1000000
noncomputable def interp_Point_l6 (p0 : List (List Int)) (J3 : (List Int) → Option ((List Int) × Int)) : List Int → Nat → (List Int) → Option ((List Int) × Int)
  | [], k6, v6_1 => J3 v6_1
  | x6 :: r6, k6, v6_1 => (ix v6_1 (k6 : Int)).bind fun x8 => (ix p0 (k6 : Int)).bind fun x10 => (ix x10 (x8)).bind fun x12 => interp_Point_l6 p0 J3 r6 (k6 + 1) (v6_1.set k6 x12)
noncomputable def interp_Point_l50 (p0 : List (List Int)) (J2 : (List Int) → Int → Option ((List Int) × Int)) : Nat → Int → (List Int) → Int → Option ((List Int) × Int)
  | 0, _, _, _ => none
  | n50 + 1, v50_0, v50_1, v50_2 => if (v50_0) ≥ 0 then ((ix p0 (v50_0)).bind fun x52 => grd ((x52.length : Int) ≠ 0) <| (ix v50_1 (v50_0)).bind fun x60 => grd ((x52.length : Int) ≠ 0) <| interp_Point_l50 p0 J2 n50 (IntKind.i64.wrap ((v50_0) - 1)) (v50_1.set (v50_0).toNat (Int.tmod v50_2 (x52.length : Int))) (IntKind.i64.wrap (Int.tdiv v50_2 (x52.length : Int)))) else (J2 v50_1 0)
noncomputable def interp_Point_p (p0 : List (List Int)) (p1 : Int) : Option ((List Int) × Int) :=
  lt (fun (v2_0 : List Int) (v2_1 : Int) => lt (fun (v3_0 : List Int) => some (v3_0, v2_1)) fun J3 => interp_Point_l6 p0 J3 (v2_0.drop 0) 0 v2_0) fun J2 => (interp_Check_p p0).bind fun y21 => if ((y21) != 0) = true then (J2 ([] : List Int) y21) else (if (p1) < 0 then (J2 ([] : List Int) 8) else ((interp_size_p p0).bind fun y26 => if (p1) ≥ y26 then (J2 ([] : List Int) 8) else (grd (0 ≤ (p0.length : Int) ∧ 8 * p0.length ≤ 281474976710656 ∧ p0.length ≤ 140737488355328) <| interp_Point_l50 p0 J2 (p0.length + 1) (IntKind.i64.wrap ((p0.length : Int) - 1)) (List.replicate p0.length (0 : Int)) p1)))
theorem interp_Point_c (w : World) (X : Hid) (hX : ∀ k o, X k o → k < w.heap.size) (p0 : List (List Int)) (vp0 : Value) (hp0 : SV IntsS (rd w X) vp0 p0) (p1 : Int) (y : (List Int) × Int) (hp : interp_Point_p p0 p1 = some y) : Calls Tryz.prog 34 #[vp0, .int .i64 p1] w (Ret E0 w fun w' v => ∃ uu0, v = .tuple #[uu0, .int .i64 y.2] ∧ SV Ints (rd w' (old w)) uu0 y.1) := by
 obtain ⟨p0a1, p0a2, rfl, p0a_h0⟩ := hp0
 unfold interp_Point_p at hp
 refine zen Tryz.func34 ?_
 have C0 : St E0 w X w X [] := St.start hX
 refine zz 6 ?_
 have hob := ltd2 hp
 obtain ⟨J2, hJ2, hp⟩ := hob
 refine zjoin (fun ((v2_0, v2_1, rb2_0, ad2_0, m2_0, cap2_0) : (List Int) × Int × (List (Nat × Obj)) × (Option Addr) × Nat × Nat) => [(7, .int .i64 v2_1), (6, .slice ad2_0 m2_0 cap2_0), (0, .slice p0a1 p0.length p0a2)]) (fun ((v2_0, v2_1, rb2_0, ad2_0, m2_0, cap2_0) : (List Int) × Int × (List (Nat × Obj)) × (Option Addr) × Nat × Nat) w1 => ∃ Y1 : Hid, St E0 w X w1 Y1 (rb2_0) ∧ Le (rd w X) (rd w1 Y1) ∧ GRow IntCs 3 1 (rd w1 (orN Y1 w.heap.size)) rb2_0 ad2_0 m2_0 cap2_0 v2_0 ∧ J2 v2_0 v2_1 = some y) ?_ ?_
 ·
  rintro ⟨v2_0, v2_1, rb2_0, ad2_0, m2_0, cap2_0⟩ w2 ⟨Y2, C2, B2, hfv2_0_0, hp⟩
  have hp := (hJ2 _ _).symm.trans hp
  have hob := ltd1 hp
  obtain ⟨J3, hJ3, hp⟩ := hob
  refine zjoin (fun ((v3_0, rb3_0) : (List Int) × (List (Nat × Obj))) => [(6, .slice ad2_0 m2_0 cap2_0), (7, .int .i64 v2_1)]) (fun ((v3_0, rb3_0) : (List Int) × (List (Nat × Obj))) w1 => ∃ Y1 : Hid, St E0 w X w1 Y1 (rb3_0) ∧ Le (rd w2 Y2) (rd w1 Y1) ∧ GRow IntCs 3 1 (rd w1 (orN Y1 w.heap.size)) rb3_0 ad2_0 m2_0 cap2_0 v3_0 ∧ J3 v3_0 = some y) ?_ ?_
  ·
   rintro ⟨v3_0, rb3_0⟩ w3 ⟨Y3, C3, B3, hfv3_0_0, hp⟩
   have hp := (hJ3 _).symm.trans hp
   refine zz 9 ?_
   refine zr' (v := .tuple #[.slice ad2_0 m2_0 cap2_0, .int .i64 v2_1]) ?_
   have hob := St.pubGRN (A := []) (B := []) (fun rb => (rb)) C3 (fun _ => by simp only [List.append_assoc, List.cons_append, List.nil_append, List.append_nil]) hfv3_0_0 (Nat.le_refl _) IntCs.at
   obtain ⟨Y4, hSx4, B4, hRx4⟩ := hob
   have C4 : St E0 w X w3 Y4 [] := hSx4
   have hob := hRx4.hlen
   subst hob
   have hR4 : Ints (rd w3 (orN Y4 w.heap.size)) ad2_0 v3_0.length cap2_0 v3_0 := hRx4
   have hob := Option.some.inj hp
   subst hob
   exact ⟨C4.upd, _, rfl, ⟨_, rfl, ⟨_, _, rfl, ((hR4.mono (Le.or (Le.refl _) _))).mono Le.orr⟩⟩⟩
  intro K5 H5
  refine zz 4 ?_
  refine zs 17 (v := .int .i64 (m2_0 : Int)) (v' := .int .i64 (v2_0.length : Int)) (vint (congrArg (fun n : Nat => (n : Int)) (GRow.len hfv2_0_0))) ?_
  refine zz 4 ?_
  have hb6 : (v2_0.length : Int) ≤ 9223372036854775807 := GRow.bnd hfv2_0_0
  refine zlp Tryz.f34 [K5] [1, 1, 9, 1, 0] (fun ((k6, v6_1, rb6_1) : Nat × (List Int) × (List (Nat × Obj))) => [(0, .slice p0a1 p0.length p0a2), (6, .slice ad2_0 m2_0 cap2_0), (7, .int .i64 v2_1), (16, .slice ad2_0 m2_0 cap2_0), (17, .int .i64 (v2_0.length : Int)), (18, .int .i64 (k6 : Int))]) (fun ((k6, v6_1, rb6_1) : Nat × (List Int) × (List (Nat × Obj))) w1 => ∃ Y1 : Hid, St E0 w X w1 Y1 (rb6_1) ∧ Le (rd w2 Y2) (rd w1 Y1) ∧ GRow IntCs 3 1 (rd w1 (orN Y1 w.heap.size)) rb6_1 ad2_0 m2_0 cap2_0 v6_1 ∧ interp_Point_l6 p0 J3 (v2_0.drop k6) k6 v6_1 = some y) (fun ((k6, v6_1, rb6_1) : Nat × (List Int) × (List (Nat × Obj))) => v2_0.length - k6) (0, v2_0, rb2_0) ?_ ?_
  ·
   exact ⟨_, C2, Le.refl _, hfv2_0_0, hp⟩
  rintro ⟨k6, v6_1, rb6_1⟩ w6 K6 H6 ⟨Y6, C6, B6, hfv6_1_0, hp⟩
  refine zz 6 ?_
  refine zt 19 (p := (k6 : Int) < (v2_0.length : Int)) (fun ht7 => ?_) (fun ht7 => ?_)
  ·
   have hob := get_lt (l := v2_0) (k := k6) (lt_of_int ht7)
   obtain ⟨x6, hqx6⟩ := hob
   rw [dropC hqx6, interp_Point_l6] at hp
   have hzx6 : (0 : Int) ≤ (k6 : Int) := Int.natCast_nonneg _
   refine zz 8 ?_
   refine bndk hp fun x8 hx8 hp => ?_
   have hob := ix_some hx8
   obtain ⟨hzx8, hqx8⟩ := hob
   have hwx8 : v6_1[k6]? = some x8 := hqx8
   have hob := hfv6_1_0.opn hwx8
   obtain ⟨ge9, cure9, cse9, rfl, rfl, B9, hce9, hcue9⟩ := hob
   have hese9 : cse9 = [.int .i64 x8] := (hce9.2 _ (Le.refl _))
   subst hese9
   refine zi (b := ge9) (off := 0) (len := m2_0) (cap := cap2_0) (kd := .i64) (i := (k6 : Int)) 1 (0 + k6 * 1) ?_ (h0 := hzx8) (h1 := (ix_b hzx8 B9))
   refine zl (cells_row (C6.getMem (List.mem_singleton.2 rfl)) hcue9) ?_
   refine zz 9 ?_
   refine bndk hp fun x10 hx10 hp => ?_
   have hob := ix_some hx10
   obtain ⟨hzx10, hqx10⟩ := hob
   have hwx10 : p0[k6]? = some x10 := hqx10
   have hob := p0a_h0.opn hwx10
   obtain ⟨be11, oe11, rfl, B11, hEe11⟩ := hob
   obtain ⟨e111, e112, e11_at, e11_h0⟩ := hEe11
   refine zi (b := be11) (off := oe11) (len := p0.length) (cap := p0a2) (kd := .i64) (i := (k6 : Int)) 1 (oe11 + k6 * 1) ?_ (h0 := hzx10) (h1 := (ix_b hzx10 B11))
   refine zl ((e11_at.mono (Le2 B2 B6))).cells ?_
   refine zz 1 ?_
   refine bndk hp fun x12 hx12 hp => ?_
   have hob := ix_some hx12
   obtain ⟨hzx12, hqx12⟩ := hob
   have hob := e11_h0.opn hqx12
   obtain ⟨be13, oe13, rfl, B13, hEe13⟩ := hob
   have hAe13 : At (rd w X) ⟨be13, oe13 + (x8).toNat * 1, none⟩ [.int .i64 x12] := hEe13
   refine zi (b := be13) (off := oe13) (len := x10.length) (cap := e112) (kd := .i64) (i := x8) 1 (oe13 + (x8).toNat * 1) ?_ (h0 := hzx12) (h1 := (ix_b hzx12 B13))
   refine zl ((hAe13.mono (Le2 B2 B6))).cells ?_
   have hob := hfv6_1_0.opn2 hwx8
   obtain ⟨cse14, B14, hce14, hcue14⟩ := hob
   have hese14 : cse14 = [.int .i64 x8] := (hce14.2 _ (Le.refl _))
   subst hese14
   refine zi (b := ge9) (off := 0) (len := m2_0) (cap := cap2_0) (kd := .i64) (i := (k6 : Int)) 1 (0 + k6 * 1) ?_ (h0 := hzx8) (h1 := (ix_b hzx8 B14))
   have hgs16 := GRow.set (cs := [.int .i64 x12]) (x := x12) hfv6_1_0 B14 ⟨rfl, fun r2 h2 => rfl⟩
   refine zop (at1 [K5, K6] Tryz.f34 [1, 1, 9, 1, 0, 0, 1, 1, 0, 0, 1]) 10 (fun a15 _ G15 hz15 => op_storeGZ (k := 0 + k6 * 1) (k' := k6 * 1) (vs := [.int .i64 x12]) (A := []) (B := []) (fun rb => (rb)) G15 kr C6 (fun _ => by simp only [List.append_assoc, List.cons_append, List.nil_append, List.append_nil]) kr kr kr (q := false) kr kr (Nat.zero_add _) hgs16.2 ?_)
   intro w17 hSx17 B17
   obtain ⟨cur17, hcu17⟩ : ∃ c, c = setCells cure9 (k6 * 1) [.int .i64 x12] := ⟨_, rfl⟩
   rw [← hcu17] at hSx17 hgs16
   have C17 : St E0 w X w17 Y6 ([(ge9, .cells cur17 3 (0, 0))]) := hSx17
   have hg17 := hgs16.1.mono (Le.or B17 _)
   refine hz15 G15 ?_
   refine zz 5 ?_
   refine zs 33 (v := .int .i64 (IntKind.i64.wrap ((k6 : Int) + 1))) (v' := .int .i64 ((k6 : Int) + 1)) (vint (wi64 (wk0 k6) (wk1 ht7 hb6))) ?_
   refine zz 2 ?_
   refine znext (fun a h => H6 (k6 + 1, (v6_1.set k6 x12), [(ge9, .cells cur17 3 (0, 0))]) _ a h ⟨_, C17, (Le2 B6 B17), hg17, hp⟩ ?_)
   exact mu_lt ht7
  rw [List.drop_eq_nil_of_le (nlt_of_int ht7), interp_Point_l6] at hp
  refine zz 5 ?_
  exact znext (fun a h => H5 (v6_1, rb6_1) _ a h ⟨_, C6, B6, hfv6_1_0, hp⟩)
 intro K18 H18
 refine zz 3 ?_
 refine zciM (vs := #[.slice p0a1 p0.length p0a2, .int .i64 p1]) Tryz.func87 (fun R19 hR19 => ?_)
 refine zz 10 ?_
 refine bndk hp fun y21 hy21 hp => ?_
 refine zc C0 (interp_Check_c _ X0 (X0_lt _) p0 _ ⟨_, _, rfl, (p0a_h0.mono Le.x0)⟩ y21 hy21) ?_
 rintro v22 w22 C22 B22 hu22 rfl
 refine zz 11 ?_
 refine zb 12 (b := ((y21) != 0)) (fun hc23 => ?_) (fun hc23 => ?_)
 ·
  have hp := ipb hc23 hp
  refine zz 11 ?_
  refine zrM0 [.tmp 4, .tmp 5] (v := .tuple #[.slice none 0 0, .int .i64 y21]) (Res.tZ (Res.tZ Res.nil)) ?_
  refine hR19 _ _ ?_
  refine zz 6 ?_
  exact znext (fun a h => H18 (([] : List Int), y21, [], none, 0, 0) _ a h ⟨_, C22, B22, GRow.nil, hp⟩)
 have hp := iqb hc23 hp
 refine zz 6 ?_
 refine zt 19 (p := (p1) < 0) (fun ht24 => ?_) (fun ht24 => ?_)
 ·
  have hp := ip ht24 hp
  refine zz 18 ?_
  refine zrM0 [.tmp 4, .tmp 5] (v := .tuple #[.slice none 0 0, .int .i64 8]) (Res.tZ (Res.tZ Res.nil)) ?_
  refine hR19 _ _ ?_
  refine zz 6 ?_
  exact znext (fun a h => H18 (([] : List Int), 8, [], none, 0, 0) _ a h ⟨_, C22, B22, GRow.nil, hp⟩)
 have hp := iq ht24 hp
 refine zz 2 ?_
 refine bndk hp fun y26 hy26 hp => ?_
 refine zc C22 (interp_size_c _ X0 (X0_lt _) p0 _ ⟨_, _, rfl, ((p0a_h0.mono B22).mono Le.x0)⟩ y26 hy26) ?_
 rintro v27 w27 C27 B27 hu27 rfl
 refine zz 5 ?_
 refine zt 16 (p := (p1) ≥ y26) (fun ht28 => ?_) (fun ht28 => ?_)
 ·
  have hp := ip ht28 hp
  refine zz 10 ?_
  refine zrM0 [.tmp 4, .tmp 5] (v := .tuple #[.slice none 0 0, .int .i64 8]) (Res.tZ (Res.tZ Res.nil)) ?_
  refine hR19 _ _ ?_
  refine zz 6 ?_
  exact znext (fun a h => H18 (([] : List Int), 8, [], none, 0, 0) _ a h ⟨_, C27, (Le2 B22 B27), GRow.nil, hp⟩)
 have hp := iq ht28 hp
 refine zz 8 ?_
 have hob := grdp hp
 obtain ⟨hg30, hp⟩ := hob
 refine zop (at1 [] Tryz.f87 [1, 1, 0]) 2 (fun a29 _ G29 hz29 => op_makeG (d := 27) (Cl := IntCs) (l := (p0.length : Int)) (m := p0.length) (size := 1) (b := 8) (e := 3) (i0 := Tryz.t3) (z0 := (0 : Int)) (A := []) (B := []) (r := fun w1 Y1 => rd w1 (orN Y1 w.heap.size)) (fun rb => (rb)) G29 kr C27 (fun _ => by simp only [List.append_assoc, List.cons_append, List.nil_append, List.append_nil]) rfl kr rfl kr kr kr kr kr kr hg30.2.1 hg30.2.2 (fun _ => (show _ = _ by kernel_rfl)) ?_)
 intro rb31 ad31 w31 Y31 hg31 C31 B31 a32 G32
 refine hz29 G32 ?_
 refine zn pn (.cells #[.slice none 0 0] 22 (0, 0)) C31 ?_
 intro b34 w34 Y34 C34 B34 hu34
 refine zx 0 #[.slice ad31 p0.length p0.length] C34 ?_
 intro w35 C35 B35
 refine zz 7 ?_
 refine zci (vs := #[.slice p0a1 p0.length p0a2, .int .i64 p1]) Tryz.func118 (fun R36 hR36 => ?_)
 refine zz 2 ?_
 refine zn pn (.cells #[.slice p0a1 p0.length p0a2] 63 (0, 0)) C35 ?_
 intro b38 w38 Y38 C38 B38 hu38
 refine zn pn (.cells #[.int .i64 p1] 3 (0, 0)) C38 ?_
 intro b40 w40 Y40 C40 B40 hu40
 refine zz 10 ?_
 refine zr' (v := .func (.func 150) #[] #[.pointer (some ⟨b38, 0, none⟩), .pointer (some ⟨b40, 0, none⟩)]) ?_
 refine hR36 _ _ ?_
 refine zz 3 ?_
 refine zrng (caps := #[.pointer (some ⟨b38, 0, none⟩), .pointer (some ⟨b40, 0, none⟩)]) C40 (fun a41 rec41 l41 b41 w41 Y41 hFa41 hr41 C41 B41 hu41 => ?_) (hcall := fun args w => Tryz.call150 args w)
 refine zenM Tryz.func150 ?_
 refine zz 2 ?_
 refine zn pn (.cells #[.func (.yield l41) #[] #[]] 96 (0, 0)) C41 ?_
 intro b44 w44 Y44 C44 B44 hu44
 refine zz 4 ?_
 refine zo 4 C44 ?_
 refine zci (vs := #[.slice p0a1 p0.length p0a2]) Tryz.func151 (fun R45 hR45 => ?_)
 refine zz 2 ?_
 refine zn pn (.cells #[.slice p0a1 p0.length p0a2] 63 (0, 0)) C44 ?_
 intro b47 w47 Y47 C47 B47 hu47
 refine zz 10 ?_
 refine zr' (v := .func (.func 170) #[] #[.pointer (some ⟨b47, 0, none⟩)]) ?_
 refine hR45 _ _ ?_
 refine zz 3 ?_
 refine zrng (caps := #[.pointer (some ⟨b47, 0, none⟩)]) C47 (fun a48 rec48 l48 b48 w48 Y48 hFa48 hr48 C48 B48 hu48 => ?_) (hcall := fun args w => Tryz.call170 args w)
 refine zen Tryz.func170 ?_
 refine zz 2 ?_
 refine zo 2 C48 ?_
 refine zz 6 ?_
 have hc1_ := (Le7 B34 B35 B38 B40 B41 B44 B47).trans B48
 refine zlp Tryz.f170 [] [1, 0] (fun ((n50, v50_0, v50_1, v50_2, rb50_1) : Nat × Int × (List Int) × Int × (List (Nat × Obj))) => [(0, .func (.yield l48) #[] #[]), (1, .pointer (some ⟨b47, 0, none⟩)), (3, .int .i64 v50_0)]) (fun ((n50, v50_0, v50_1, v50_2, rb50_1) : Nat × Int × (List Int) × Int × (List (Nat × Obj))) w1 => ∃ Y1 : Hid, St E0 w X w1 Y1 ((l48, .loop rec48) :: (b48, .deferred (some [])) :: (b47, .cells #[.slice p0a1 p0.length p0a2] 63 (0, 0)) :: (b44, .cells #[.func (.yield l41) #[] #[]] 96 (0, 0)) :: (l41, .loop rec41) :: (b41, .deferred (some [])) :: (b40, .cells #[.int .i64 v50_2] 3 (0, 0)) :: (b38, .cells #[.slice p0a1 p0.length p0a2] 63 (0, 0)) :: (b34, .cells #[.slice ad31 p0.length p0.length] 22 (0, 0)) :: rb50_1) ∧ Le (rd w48 Y48) (rd w1 Y1) ∧ GRow IntCs 3 1 (rd w1 (orN Y1 w.heap.size)) rb50_1 ad31 p0.length p0.length v50_1 ∧ interp_Point_l50 p0 J2 n50 v50_0 v50_1 v50_2 = some y) (fun ((n50, v50_0, v50_1, v50_2, rb50_1) : Nat × Int × (List Int) × Int × (List (Nat × Obj))) => n50) ((p0.length + 1), IntKind.i64.wrap ((p0.length : Int) - 1), (List.replicate p0.length (0 : Int)), p1, rb31) ?_ ?_
 ·
  exact ⟨_, C48, Le.refl _, (hg31.mono (Le.or hc1_ _)), hp⟩
 rintro ⟨n50, v50_0, v50_1, v50_2, rb50_1⟩ w50 K50 H50 ⟨Y50, C50, B50, hfv50_1_0, hp⟩
 obtain _ | n50 := n50
 ·
  rw [interp_Point_l50] at hp; cases hp
 rw [interp_Point_l50] at hp
 refine zz 7 ?_
 refine zt 8 (p := (v50_0) ≥ 0) (fun ht51 => ?_) (fun ht51 => ?_)
 ·
  have hp := ip ht51 hp
  refine zz 9 ?_
  refine zo 2 C50 ?_
  refine zz 1 ?_
  refine bndk hp fun x52 hx52 hp => ?_
  have hob := ix_some hx52
  obtain ⟨hzx52, hqx52⟩ := hob
  have hob := p0a_h0.opn hqx52
  obtain ⟨be53, oe53, rfl, B53, hEe53⟩ := hob
  obtain ⟨e531, e532, e53_at, e53_h0⟩ := hEe53
  refine zi (b := be53) (off := oe53) (len := p0.length) (cap := p0a2) (kd := .i64) (i := v50_0) 1 (oe53 + (v50_0).toNat * 1) ?_ (h0 := hzx52) (h1 := (ix_b hzx52 B53))
  have hc2_ := (Le11 B22 B27 B31 B34 B35 B38 B40 B41 B44 B47 B48).trans B50
  refine zl ((e53_at.mono hc2_)).cells ?_
  refine zyld (l := l48) (vs := #[.int .i64 v50_0, .slice e531 x52.length e532]) (fun R54 hR54 => ?_)
  refine zround2 0 hr48 hFa48 C50 ?_
  refine zz 8 ?_
  refine zbody 0 hr48 C50 (fun w55 C55 B55 => ?_)
  refine zz 3 ?_
  refine zdq 6 C55 (fun w56 C56 B56 => ?_)
  refine qo 3 C56 ?_
  refine qz ?_
  refine qo 6 C56 ?_
  refine qz ?_
  refine qz ?_
  have hob := grdp hp
  obtain ⟨hg57, hp⟩ := hob
  refine qH (v := .int .i64 (Int.tmod v50_2 (x52.length : Int))) (fun _ => run_remV (a := v50_2) (b := (x52.length : Int)) rfl kr kr hg57 _) ?_
  refine q0 ?_
  refine zyld (l := l41) (vs := #[.int .i64 v50_0, .int .i64 (Int.tmod v50_2 (x52.length : Int))]) (fun R58 hR58 => ?_)
  refine zround2k 4 31 32 hr41 hFa41 C56 ?_
  refine zz 8 ?_
  refine zbody 4 hr41 C56 (fun w59 C59 B59 => ?_)
  refine zz 2 ?_
  refine zo 8 C59 ?_
  refine zz 2 ?_
  refine bndk hp fun x60 hx60 hp => ?_
  have hob := ix_some hx60
  obtain ⟨hzx60, hqx60⟩ := hob
  have hob := (hfv50_1_0.mono (Le.or (Le3 B55 B56 B59) _)).opn hqx60
  obtain ⟨ge61, cure61, cse61, rfl, rfl, B61, hce61, hcue61⟩ := hob
  have hese61 : cse61 = [.int .i64 x60] := (hce61.2 _ (Le.refl _))
  subst hese61
  refine zi (b := ge61) (off := 0) (len := p0.length) (cap := p0.length) (kd := .i64) (i := v50_0) 1 (0 + (v50_0).toNat * 1) ?_ (h0 := hzx60) (h1 := (ix_b hzx60 B61))
  have hgs63 := GRow.set (cs := [.int .i64 (Int.tmod v50_2 (x52.length : Int))]) (x := Int.tmod v50_2 (x52.length : Int)) (hfv50_1_0.mono (Le.or (Le3 B55 B56 B59) _)) B61 ⟨rfl, fun r2 h2 => rfl⟩
  refine zop (at1 [] Tryz.f87 [1, 1, 1, 0, 1, 0, 1, 0]) 4 (fun a62 _ G62 hz62 => op_storeGZ (k := 0 + (v50_0).toNat * 1) (k' := (v50_0).toNat * 1) (vs := [.int .i64 (Int.tmod v50_2 (x52.length : Int))]) (A := [(l48, .loop (busyL rec48)), (b48, .deferred (some [])), (b47, .cells #[.slice (some ⟨be53, oe53, none⟩) p0.length p0a2] 63 (0, 0)), (b44, .cells #[.func (.yield l41) #[] #[]] 96 (0, 0)), (l41, .loop (busyL rec41)), (b41, .deferred (some [])), (b40, .cells #[.int .i64 v50_2] 3 (0, 0)), (b38, .cells #[.slice (some ⟨be53, oe53, none⟩) p0.length p0a2] 63 (0, 0)), (b34, .cells #[.slice (some ⟨ge61, 0, none⟩) p0.length p0.length] 22 (0, 0))]) (B := []) (fun rb => ((l48, .loop (busyL rec48)) :: (b48, .deferred (some [])) :: (b47, .cells #[.slice (some ⟨be53, oe53, none⟩) p0.length p0a2] 63 (0, 0)) :: (b44, .cells #[.func (.yield l41) #[] #[]] 96 (0, 0)) :: (l41, .loop (busyL rec41)) :: (b41, .deferred (some [])) :: (b40, .cells #[.int .i64 v50_2] 3 (0, 0)) :: (b38, .cells #[.slice (some ⟨be53, oe53, none⟩) p0.length p0a2] 63 (0, 0)) :: (b34, .cells #[.slice (some ⟨ge61, 0, none⟩) p0.length p0.length] 22 (0, 0)) :: rb)) G62 kr C59 (fun _ => by simp only [List.append_assoc, List.cons_append, List.nil_append, List.append_nil]) kr kr kr (q := false) kr kr (Nat.zero_add _) hgs63.2 ?_)
  intro w64 hSx64 B64
  obtain ⟨cur64, hcu64⟩ : ∃ c, c = setCells cure61 ((v50_0).toNat * 1) [.int .i64 (Int.tmod v50_2 (x52.length : Int))] := ⟨_, rfl⟩
  rw [← hcu64] at hSx64 hgs63
  have C64 : St E0 w X w64 Y50 ((l48, .loop (busyL rec48)) :: (b48, .deferred (some [])) :: (b47, .cells #[.slice (some ⟨be53, oe53, none⟩) p0.length p0a2] 63 (0, 0)) :: (b44, .cells #[.func (.yield l41) #[] #[]] 96 (0, 0)) :: (l41, .loop (busyL rec41)) :: (b41, .deferred (some [])) :: (b40, .cells #[.int .i64 v50_2] 3 (0, 0)) :: (b38, .cells #[.slice (some ⟨be53, oe53, none⟩) p0.length p0a2] 63 (0, 0)) :: (b34, .cells #[.slice (some ⟨ge61, 0, none⟩) p0.length p0.length] 22 (0, 0)) :: [(ge61, .cells cur64 3 (0, 0))]) := hSx64
  have hg64 := hgs63.1.mono (Le.or B64 _)
  refine hz62 G62 ?_
  refine zz 2 ?_
  refine zrnext 4 hr41 C64 (fun w65 C65 B65 => ?_)
  refine hR58 _ _ ?_
  refine zz 7 ?_
  refine zo 6 C65 ?_
  refine zz 2 ?_
  have hob := grdp hp
  obtain ⟨hg67, hp⟩ := hob
  refine zop (at1 [] Tryz.f150 [1, 1, 0, 1, 0, 1]) 3 (fun a66 _ G66 hz66 => zF (d := 21) (v := .int .i64 (IntKind.i64.wrap (Int.tdiv v50_2 (x52.length : Int)))) G66 kr (run_quoV (a := v50_2) (b := (x52.length : Int)) rfl kr kr hg67 _) ?_)
  intro a68 G68
  refine hz66 G68 ?_
  refine zx 6 #[.int .i64 (IntKind.i64.wrap (Int.tdiv v50_2 (x52.length : Int)))] C65 ?_
  intro w69 C69 B69
  refine zz 2 ?_
  refine zrnext 0 hr48 C69 (fun w70 C70 B70 => ?_)
  refine hR54 _ _ ?_
  refine zz 12 ?_
  have hc3_ := (Le7 B50 B55 B56 B59 B64 B65 B69).trans B70
  refine znext (fun a h => H50 (n50, IntKind.i64.wrap ((v50_0) - 1), (v50_1.set (v50_0).toNat (Int.tmod v50_2 (x52.length : Int))), IntKind.i64.wrap (Int.tdiv v50_2 (x52.length : Int)), [(ge61, .cells cur64 3 (0, 0))]) _ a h ⟨_, C70, hc3_, (hg64.mono (Le.or (Le3 B65 B69 B70) _)), hp⟩ ?_)
  exact Nat.lt_succ_self _
 have hp := iq ht51 hp
 refine zz 5 ?_
 refine zr' (v := .tuple #[]) ?_
 refine ⟨⟨_, rfl⟩, ?_⟩
 refine zrend 0 b48 hr48 hFa48 C50 (fun w71 C71 B71 => ?_)
 refine zz 1 ?_
 refine zrM1 1 [] (v := .tuple #[]) C71 (fun w72 C72 B72 => ⟨Res.nil, ?_⟩)
 refine ⟨⟨_, rfl⟩, ?_⟩
 refine zrend 4 b41 hr41 hFa41 C72 (fun w73 C73 B73 => ?_)
 refine zz 4 ?_
 refine zo 8 C73 ?_
 refine zz 5 ?_
 refine zrM1 5 [.tmp 4, .tmp 5] (v := .tuple #[.slice ad31 p0.length p0.length, .int .i64 0]) C73 (fun w74 C74 B74 => ⟨(Res.tZ (Res.tZ Res.nil)), ?_⟩)
 refine hR19 _ _ ?_
 refine zz 6 ?_
 have hc4_ := (Le3 B71 B72 B73).trans B74
 have hc5_ := (Le15 B22 B27 B31 B34 B35 B38 B40 B41 B44 B47 B48 B50 B71 B72 B73).trans B74
 exact znext (fun a h => H18 (v50_1, 0, rb50_1, ad31, p0.length, p0.length) _ a h ⟨_, C74.tail.tail.tail.tail.tail.tail.tail.tail.tail, hc5_, (hfv50_1_0.mono (Le.or hc4_ _)), hp⟩)
noncomputable def clearwaylaw24_DynamicsMeans_l119 (p0 : ModelD) (p4 : Int) (J35 : Raw → Raw → Raw → Raw → Option (Bool)) : List Out → Raw → Raw → Raw → Raw → Option (Bool)
  | [], v119_1, v119_2, v119_3, v119_4 => J35 v119_1 v119_2 v119_3 v119_4
  | x119 :: r119, v119_1, v119_2, v119_3, v119_4 => lt (fun (v121_0 : Raw) (v121_1 : Raw) (v121_2 : Raw) (v121_3 : Raw) => clearwaylaw24_DynamicsMeans_l119 p0 p4 J35 r119 v121_0 v121_1 v121_2 v121_3) fun J121 => (dynamics_Split_p p0 (x119.to)).bind fun y125 => (interp_Point_p ([p0.height, p0.own, p0.other]) (y125.1)).bind fun y129 => if ((y125.2.2) != 0) = true then (some false) else (if ((y125.2.1) != p4) = true then (some false) else (if ((y129.2) != 0) = true then (some false) else (if ((y129.1.length : Int) != 3) = true then (some false) else ((rat_Add_p v119_4 x119.p).bind fun y136 => if ((y136.2) != 0) = true then (some false) else ((ix y129.1 (0 : Int)).bind fun x142 => (rat_From_p (x142)).bind fun y145 => (rat_Mul_p x119.p y145).bind fun y148 => if ((y148.2) != 0) = true then (some false) else ((rat_Add_p v119_1 y148.1).bind fun y155 => if ((y155.2) != 0) = true then (some false) else ((ix y129.1 (1 : Int)).bind fun x160 => (rat_From_p (x160)).bind fun y163 => (rat_Mul_p x119.p y163).bind fun y166 => if ((y166.2) != 0) = true then (some false) else ((rat_Add_p v119_2 y166.1).bind fun y173 => if ((y173.2) != 0) = true then (some false) else ((ix y129.1 (2 : Int)).bind fun x178 => (rat_From_p (x178)).bind fun y181 => (rat_Mul_p x119.p y181).bind fun y184 => if ((y184.2) != 0) = true then (some false) else ((rat_Add_p v119_3 y184.1).bind fun y191 => if ((y191.2) != 0) = true then (some false) else (J121 y155.1 y173.1 y191.1 y136.1)))))))))))
theorem clearwaylaw24_DynamicsMeans_cut96 (w : World) (X : Hid) (y : Bool) (Y95 : Hid) (a35_0_1 : Option Addr) (a35_0_2 : Nat) (a35_0_3 : Option Addr) (a35_0_4 : Nat) (a35_1_1 : Option Addr) (a35_1_2 : Nat) (a35_1_3 : Option Addr) (a35_1_4 : Nat) (a35_2_1 : Option Addr) (a35_2_2 : Nat) (a35_2_3 : Option Addr) (a35_2_4 : Nat) (a35_3_1 : Option Addr) (a35_3_2 : Nat) (a35_3_3 : Option Addr) (a35_3_4 : Nat) (b29 : Nat) (b3 : Nat) (b31 : Nat) (b34 : Nat) (b80 : Nat) (b93 : Nat) (be53 : Nat) (be62 : Nat) (oe53 : Nat) (oe62 : Nat) (p0 : ModelD) (p0a1 : Option Addr) (p0a10 : Nat) (p0a12 : Nat) (p0a13 : Option Addr) (p0a14 : Nat) (p0a15 : Option Addr) (p0a16 : Nat) (p0a17 : Option Addr) (p0a18 : Nat) (p0a19 : Option Addr) (p0a2 : Nat) (p0a20 : Nat) (p0a21 : Option Addr) (p0a22 : Nat) (p0a23 : Option Addr) (p0a24 : Nat) (p0a3 : Option Addr) (p0a4 : Nat) (p0a5 : Option Addr) (p0a6 : Nat) (p0a7 : Option Addr) (p0a8 : Nat) (p1 : Int) (p2 : Int) (p3 : Int) (u79_0_1 : Option Addr) (u79_0_3 : Nat) (u79_0_4 : Option Addr) (u79_0_6 : Nat) (u92_0_1 : Option Addr) (u92_0_3 : Nat) (u92_0_4 : Option Addr) (u92_0_6 : Nat) (v35_0 : Raw) (v35_1 : Raw) (v35_2 : Raw) (v35_3 : Raw) (w95 : World) (y78 : Raw × Int) (y91 : Raw × Int) (C95 : St E0 w X w95 Y95 [(b93, .cells #[.bool y91.1.neg, .slice u92_0_1 y91.1.ln.length u92_0_3, .slice u92_0_4 y91.1.ld.length u92_0_6] 28 (0, 0)), (b80, .cells #[.bool y78.1.neg, .slice u79_0_1 y78.1.ln.length u79_0_3, .slice u79_0_4 y78.1.ld.length u79_0_6] 28 (0, 0)), (b34, .cells #[.bool v35_0.neg, .slice a35_0_1 v35_0.ln.length a35_0_2, .slice a35_0_3 v35_0.ld.length a35_0_4, .bool v35_1.neg, .slice a35_1_1 v35_1.ln.length a35_1_2, .slice a35_1_3 v35_1.ld.length a35_1_4, .bool v35_2.neg, .slice a35_2_1 v35_2.ln.length a35_2_2, .slice a35_2_3 v35_2.ld.length a35_2_4] 64 (0, 0)), (b31, .cells #[.bool v35_3.neg, .slice a35_3_1 v35_3.ln.length a35_3_2, .slice a35_3_3 v35_3.ld.length a35_3_4] 28 (0, 0)), (b29, .cells #[.slice p0a1 p0.height.length p0a2, .slice p0a3 p0.own.length p0a4, .slice p0a5 p0.other.length p0a6] 22 (0, 0)), (b3, .cells #[.slice p0a1 p0.height.length p0a2, .slice p0a3 p0.own.length p0a4, .slice p0a5 p0.other.length p0a6, .slice p0a7 p0.advisories.length p0a8, .int .i64 p0.pull, .int .i64 p0.near, .int .i64 p0.steps, .slice (some ⟨be53, oe53, none⟩) p0.ownNoise.length p0a10, .slice (some ⟨be62, oe62, none⟩) p0.otherNoise.length p0a12, .bool p0.alert.neg, .slice p0a13 p0.alert.ln.length p0a14, .slice p0a15 p0.alert.ld.length p0a16, .bool p0.strengthen.neg, .slice p0a17 p0.strengthen.ln.length p0a18, .slice p0a19 p0.strengthen.ld.length p0a20, .bool p0.reversal.neg, .slice p0a21 p0.reversal.ln.length p0a22, .slice p0a23 p0.reversal.ld.length p0a24] 30 (0, 0))]) (hk96_1 : Limbs (rd w95 (orN Y95 w.heap.size)) u92_0_4 y91.1.ld.length u92_0_6 y91.1.ld) (hk96_2 : Limbs (rd w95 (orN Y95 w.heap.size)) u92_0_1 y91.1.ln.length u92_0_3 y91.1.ln) (hk96_7 : Limbs (rd w95 (orN Y95 w.heap.size)) u79_0_4 y78.1.ld.length u79_0_6 y78.1.ld) (hk96_8 : Limbs (rd w95 (orN Y95 w.heap.size)) u79_0_1 y78.1.ln.length u79_0_3 y78.1.ln) (hk96_25 : Limbs (rd w95 Y95) a35_2_3 v35_2.ld.length a35_2_4 v35_2.ld) (hk96_26 : Limbs (rd w95 Y95) a35_2_1 v35_2.ln.length a35_2_2 v35_2.ln) (hk96_27 : Limbs (rd w95 Y95) a35_1_3 v35_1.ld.length a35_1_4 v35_1.ld) (hk96_28 : Limbs (rd w95 Y95) a35_1_1 v35_1.ln.length a35_1_2 v35_1.ln) (hk96_29 : Limbs (rd w95 Y95) a35_0_3 v35_0.ld.length a35_0_4 v35_0.ld) (hk96_30 : Limbs (rd w95 Y95) a35_0_1 v35_0.ln.length a35_0_2 v35_0.ln) (hp : (if ((y78.2) == 0) = true then (if ((y91.2) == 0) = true then ((rat_From_p (IntKind.i64.wrap ((IntKind.i64.wrap ((p1) + p3)) - p2))).bind fun y100 => (clearwaykit_EqualRat_p v35_0 y100).bind fun y103 => if y103 = true then ((clearwaykit_EqualRat_p v35_1 y78.1).bind fun y107 => if y107 = true then ((clearwaykit_EqualRat_p v35_2 y91.1).bind fun y111 => some y111) else (some false)) else (some false)) else (some false)) else (some false)) = some y) : Go none 0 Tryz.prog (bodyPost Tryz.prog Tryz.f7 (Ret E0 w fun w' v => v = .bool y)) Tryz.f7.ntmps [] w95 ⟨.code (at1 [] Tryz.f7 [1, 1, 1, 1, 1, 1, 1, 1, 1, 1, 1, 1, 1, 1, 1]), at2 [] Tryz.f7 [1, 1, 1, 1, 1, 1, 1, 1, 1, 1, 1, 1, 1, 1, 1], [(1, .int .i64 p1), (2, .int .i64 p2), (3, .int .i64 p3), (17, .pointer (some ⟨b34, 0, none⟩)), (29, .pointer (some ⟨b80, 0, none⟩)), (30, .int .i64 y78.2), (31, .pointer (some ⟨b93, 0, none⟩)), (32, .int .i64 y91.2)]⟩ := by
 refine zz 1 ?_
 refine zN ⟨.code (at1 [] Tryz.f7 [1, 1, 1, 1, 1, 1, 1, 1, 1, 1, 1, 1, 1, 1, 1, 0]), at2 [] Tryz.f7 [1, 1, 1, 1, 1, 1, 1, 1, 1, 1, 1, 1, 1, 1, 1, 0], [(1, .int .i64 p1), (2, .int .i64 p2), (3, .int .i64 p3), (17, .pointer (some ⟨b34, 0, none⟩)), (29, .pointer (some ⟨b80, 0, none⟩)), (30, .int .i64 y78.2), (31, .pointer (some ⟨b93, 0, none⟩)), (32, .int .i64 y91.2)]⟩ ?_
 refine zdr C95 ?_
 refine gz [0, 1, 2] ?_
 refine gb 247 (b := ((y78.2) == 0)) (fun hc97 => ?_) (fun hc97 => ?_)
 ·
  have hp := ipb hc97 hp
  refine gz [3, 4, 5, 6] ?_
  refine gb 251 (b := ((y91.2) == 0)) (fun hc98 => ?_) (fun hc98 => ?_)
  ·
   have hp := ipb hc98 hp
   refine gH (v := .pointer (some ⟨b34, 0, none⟩)) 7 (fun w => run_indexArr (e := 28) (nn := 3) (b := b34) (off := 0) (kd := .i64) (i := 0) (g := true) (m := 3) (off' := 0) rfl kr kr kr kr (by decide) (by decide) (by decide)) ?_
   refine gw 8 2 ?_
   refine gz [9, 10, 11, 12, 13] ?_
   refine bndk hp fun y100 hy100 hp => ?_
   refine gC 14 (fun w99 Y99 _ C99 B99 => (rat_From_c _ X0 (X0_lt _) (IntKind.i64.wrap ((IntKind.i64.wrap ((p1) + p3)) - p2)) y100 hy100)) ?_
   rintro v101 w99 Y101 w101 C99 B101 ⟨u101_0_1, u101_0_2, u101_0_3, u101_0_4, u101_0_5, u101_0_6, rfl, u101_0__h0, u101_0__h1⟩
   have hob := u101_0__h0.hlen
   subst hob
   have hob := u101_0__h1.hlen
   subst hob
   refine bndk hp fun y103 hy103 hp => ?_
   refine gC 15 (fun w102 Y102 _ C102 B102 => (clearwaykit_EqualRat_c _ X0 (X0_lt _) v35_0 _ ⟨_, _, _, _, _, _, rfl, ((hk96_30.mono (Le2 B101 B102)).mono Le.x0), ((hk96_29.mono (Le2 B101 B102)).mono Le.x0)⟩ y100 _ ⟨_, _, _, _, _, _, rfl, (((u101_0__h0.mono (Le.new C99.lt)).mono B102).mono Le.x0), (((u101_0__h1.mono (Le.new C99.lt)).mono B102).mono Le.x0)⟩ y103 hy103)) ?_
   rintro v104 w102 Y104 w104 C102 B104 rfl
   refine gz [16, 17] ?_
   refine gb 262 (b := y103) (fun hc105 => ?_) (fun hc105 => ?_)
   ·
    have hp := ipb hc105 hp
    refine gH (v := .pointer (some ⟨b34, 3, none⟩)) 18 (fun w => run_indexArr (e := 28) (nn := 3) (b := b34) (off := 0) (kd := .i64) (i := 1) (g := true) (m := 3) (off' := 3) rfl kr kr kr kr (by decide) (by decide) (by decide)) ?_
    refine gw 19 2 ?_
    refine gw 20 1 ?_
    refine bndk hp fun y107 hy107 hp => ?_
    refine gC 21 (fun w106 Y106 _ C106 B106 => (clearwaykit_EqualRat_c _ X0 (X0_lt _) v35_1 _ ⟨_, _, _, _, _, _, rfl, ((hk96_28.mono (Le3 B101 B104 B106)).mono Le.x0), ((hk96_27.mono (Le3 B101 B104 B106)).mono Le.x0)⟩ y78.1 _ ⟨_, _, _, _, _, _, rfl, (((hk96_8.mono Le.orl).mono (Le3 B101 B104 B106)).mono Le.x0), (((hk96_7.mono Le.orl).mono (Le3 B101 B104 B106)).mono Le.x0)⟩ y107 hy107)) ?_
    rintro v108 w106 Y108 w108 C106 B108 rfl
    refine gz [22, 23] ?_
    refine gb 268 (b := y107) (fun hc109 => ?_) (fun hc109 => ?_)
    ·
     have hp := ipb hc109 hp
     refine gH (v := .pointer (some ⟨b34, 6, none⟩)) 24 (fun w => run_indexArr (e := 28) (nn := 3) (b := b34) (off := 0) (kd := .i64) (i := 2) (g := true) (m := 3) (off' := 6) rfl kr kr kr kr (by decide) (by decide) (by decide)) ?_
     refine gw 25 2 ?_
     refine gw 26 0 ?_
     have hc148_ := (Le2 B101 B104).trans B108
     refine bndk hp fun y111 hy111 hp => ?_
     refine gC 27 (fun w110 Y110 _ C110 B110 => (clearwaykit_EqualRat_c _ X0 (X0_lt _) v35_2 _ ⟨_, _, _, _, _, _, rfl, ((hk96_26.mono (hc148_.trans B110)).mono Le.x0), ((hk96_25.mono (hc148_.trans B110)).mono Le.x0)⟩ y91.1 _ ⟨_, _, _, _, _, _, rfl, (((hk96_2.mono Le.orl).mono (hc148_.trans B110)).mono Le.x0), (((hk96_1.mono Le.orl).mono (hc148_.trans B110)).mono Le.x0)⟩ y111 hy111)) ?_
     rintro v112 w110 Y112 w112 C110 B112 rfl
     refine gz [28, 29] ?_
     refine gend (fun w113 Y113 C113 B113 => ?_)
     refine zz 2 ?_
     refine zr' (v := .bool y111) ?_
     have hob := Option.some.inj hp
     subst hob
     exact ⟨C113.upd, _, rfl, rfl⟩
    have hp := iqb hc109 hp
    refine gz [24, 25, 26, 27, 28, 29] ?_
    refine gend (fun w114 Y114 C114 B114 => ?_)
    refine zz 2 ?_
    refine zr' (v := .bool false) ?_
    have hob := Option.some.inj hp
    subst hob
    exact ⟨C114.upd, _, rfl, rfl⟩
   have hp := iqb hc105 hp
   refine gz [18, 19, 20, 21, 22, 23, 24, 25, 26, 27, 28, 29] ?_
   refine gend (fun w115 Y115 C115 B115 => ?_)
   refine zz 2 ?_
   refine zr' (v := .bool false) ?_
   have hob := Option.some.inj hp
   subst hob
   exact ⟨C115.upd, _, rfl, rfl⟩
  have hp := iqb hc98 hp
  refine gz [7, 8, 9, 10, 11, 12, 13, 14, 15, 16, 17, 18, 19, 20, 21, 22, 23, 24, 25, 26, 27, 28, 29] ?_
  refine gend (fun w116 Y116 C116 B116 => ?_)
  refine zz 2 ?_
  refine zr' (v := .bool false) ?_
  have hob := Option.some.inj hp
  subst hob
  exact ⟨C116.upd, _, rfl, rfl⟩
 have hp := iqb hc97 hp
 refine gz [3, 4, 5, 6, 7, 8, 9, 10, 11, 12, 13, 14, 15, 16, 17, 18, 19, 20, 21, 22, 23, 24, 25, 26, 27, 28, 29] ?_
 refine gend (fun w117 Y117 C117 B117 => ?_)
 refine zz 2 ?_
 refine zr' (v := .bool false) ?_
 have hob := Option.some.inj hp
 subst hob
 exact ⟨C117.upd, _, rfl, rfl⟩
theorem clearwaylaw24_DynamicsMeans_cut83 (w : World) (X : Hid) (y : Bool) (Y82 : Hid) (a35_0_1 : Option Addr) (a35_0_2 : Nat) (a35_0_3 : Option Addr) (a35_0_4 : Nat) (a35_1_1 : Option Addr) (a35_1_2 : Nat) (a35_1_3 : Option Addr) (a35_1_4 : Nat) (a35_2_1 : Option Addr) (a35_2_2 : Nat) (a35_2_3 : Option Addr) (a35_2_4 : Nat) (a35_3_1 : Option Addr) (a35_3_2 : Nat) (a35_3_3 : Option Addr) (a35_3_4 : Nat) (b29 : Nat) (b3 : Nat) (b31 : Nat) (b34 : Nat) (b80 : Nat) (be53 : Nat) (be62 : Nat) (oe53 : Nat) (oe62 : Nat) (p0 : ModelD) (p0a1 : Option Addr) (p0a10 : Nat) (p0a12 : Nat) (p0a13 : Option Addr) (p0a14 : Nat) (p0a15 : Option Addr) (p0a16 : Nat) (p0a17 : Option Addr) (p0a18 : Nat) (p0a19 : Option Addr) (p0a2 : Nat) (p0a20 : Nat) (p0a21 : Option Addr) (p0a22 : Nat) (p0a23 : Option Addr) (p0a24 : Nat) (p0a3 : Option Addr) (p0a4 : Nat) (p0a5 : Option Addr) (p0a6 : Nat) (p0a7 : Option Addr) (p0a8 : Nat) (p1 : Int) (p2 : Int) (p3 : Int) (u79_0_1 : Option Addr) (u79_0_3 : Nat) (u79_0_4 : Option Addr) (u79_0_6 : Nat) (v35_0 : Raw) (v35_1 : Raw) (v35_2 : Raw) (v35_3 : Raw) (w82 : World) (y78 : Raw × Int) (C82 : St E0 w X w82 Y82 [(b80, .cells #[.bool y78.1.neg, .slice u79_0_1 y78.1.ln.length u79_0_3, .slice u79_0_4 y78.1.ld.length u79_0_6] 28 (0, 0)), (b34, .cells #[.bool v35_0.neg, .slice a35_0_1 v35_0.ln.length a35_0_2, .slice a35_0_3 v35_0.ld.length a35_0_4, .bool v35_1.neg, .slice a35_1_1 v35_1.ln.length a35_1_2, .slice a35_1_3 v35_1.ld.length a35_1_4, .bool v35_2.neg, .slice a35_2_1 v35_2.ln.length a35_2_2, .slice a35_2_3 v35_2.ld.length a35_2_4] 64 (0, 0)), (b31, .cells #[.bool v35_3.neg, .slice a35_3_1 v35_3.ln.length a35_3_2, .slice a35_3_3 v35_3.ld.length a35_3_4] 28 (0, 0)), (b29, .cells #[.slice p0a1 p0.height.length p0a2, .slice p0a3 p0.own.length p0a4, .slice p0a5 p0.other.length p0a6] 22 (0, 0)), (b3, .cells #[.slice p0a1 p0.height.length p0a2, .slice p0a3 p0.own.length p0a4, .slice p0a5 p0.other.length p0a6, .slice p0a7 p0.advisories.length p0a8, .int .i64 p0.pull, .int .i64 p0.near, .int .i64 p0.steps, .slice (some ⟨be53, oe53, none⟩) p0.ownNoise.length p0a10, .slice (some ⟨be62, oe62, none⟩) p0.otherNoise.length p0a12, .bool p0.alert.neg, .slice p0a13 p0.alert.ln.length p0a14, .slice p0a15 p0.alert.ld.length p0a16, .bool p0.strengthen.neg, .slice p0a17 p0.strengthen.ln.length p0a18, .slice p0a19 p0.strengthen.ld.length p0a20, .bool p0.reversal.neg, .slice p0a21 p0.reversal.ln.length p0a22, .slice p0a23 p0.reversal.ld.length p0a24] 30 (0, 0))]) (hk83_1 : Limbs (rd w82 (orN Y82 w.heap.size)) u79_0_4 y78.1.ld.length u79_0_6 y78.1.ld) (hk83_2 : Limbs (rd w82 (orN Y82 w.heap.size)) u79_0_1 y78.1.ln.length u79_0_3 y78.1.ln) (hk83_19 : Limbs (rd w82 Y82) a35_2_3 v35_2.ld.length a35_2_4 v35_2.ld) (hk83_20 : Limbs (rd w82 Y82) a35_2_1 v35_2.ln.length a35_2_2 v35_2.ln) (hk83_21 : Limbs (rd w82 Y82) a35_1_3 v35_1.ld.length a35_1_4 v35_1.ld) (hk83_22 : Limbs (rd w82 Y82) a35_1_1 v35_1.ln.length a35_1_2 v35_1.ln) (hk83_23 : Limbs (rd w82 Y82) a35_0_3 v35_0.ld.length a35_0_4 v35_0.ld) (hk83_24 : Limbs (rd w82 Y82) a35_0_1 v35_0.ln.length a35_0_2 v35_0.ln) (hk83_33 : NoiseDS (rd w82 Y82) (some ⟨be62, oe62, none⟩) p0.otherNoise.length p0a12 p0.otherNoise) (hp : ((rat_From_p (p3)).bind fun y85 => (clearwaylaw24_mean_p p0.otherNoise).bind fun y88 => (rat_Add_p y85 y88).bind fun y91 => if ((y78.2) == 0) = true then (if ((y91.2) == 0) = true then ((rat_From_p (IntKind.i64.wrap ((IntKind.i64.wrap ((p1) + p3)) - p2))).bind fun y100 => (clearwaykit_EqualRat_p v35_0 y100).bind fun y103 => if y103 = true then ((clearwaykit_EqualRat_p v35_1 y78.1).bind fun y107 => if y107 = true then ((clearwaykit_EqualRat_p v35_2 y91.1).bind fun y111 => some y111) else (some false)) else (some false)) else (some false)) else (some false)) = some y) : Go none 0 Tryz.prog (bodyPost Tryz.prog Tryz.f7 (Ret E0 w fun w' v => v = .bool y)) Tryz.f7.ntmps [] w82 ⟨.code (at1 [] Tryz.f7 [1, 1, 1, 1, 1, 1, 1, 1, 1, 1, 1, 1, 1, 1]), at2 [] Tryz.f7 [1, 1, 1, 1, 1, 1, 1, 1, 1, 1, 1, 1, 1, 1], [(1, .int .i64 p1), (2, .int .i64 p2), (3, .int .i64 p3), (5, .pointer (some ⟨b3, 0, none⟩)), (17, .pointer (some ⟨b34, 0, none⟩)), (29, .pointer (some ⟨b80, 0, none⟩)), (30, .int .i64 y78.2)]⟩ := by
 refine zz 1 ?_
 refine zdr C82 ?_
 refine gz [0, 2] ?_
 refine gw 3 4 ?_
 refine gp (al 9 31 pn (.cells #[.bool false, .slice none 0 0, .slice none 0 0] 28 (0, 0))) ?_
 refine bndk hp fun y85 hy85 hp => ?_
 refine gC 1 (fun w84 Y84 _ C84 B84 => (rat_From_c _ X0 (X0_lt _) (p3) y85 hy85)) ?_ (hPd := PdOk.nil.k)
 rintro v86 w84 Y86 w86 C84 B86 ⟨u86_0_1, u86_0_2, u86_0_3, u86_0_4, u86_0_5, u86_0_6, rfl, u86_0__h0, u86_0__h1⟩
 have hob := u86_0__h0.hlen
 subst hob
 have hob := u86_0__h1.hlen
 subst hob
 refine bndk hp fun y88 hy88 hp => ?_
 refine gC 4 (fun w87 Y87 _ C87 B87 => (clearwaylaw24_mean_c _ X0 (X0_lt _) p0.otherNoise _ ⟨_, _, rfl, ((hk83_33.mono (Le2 B86 B87)).mono Le.x0)⟩ y88 hy88)) ?_ (hPd := PdOk.nil.k)
 rintro v89 w87 Y89 w89 C87 B89 ⟨u89_0_1, u89_0_2, u89_0_3, u89_0_4, u89_0_5, u89_0_6, rfl, u89_0__h0, u89_0__h1⟩
 have hob := u89_0__h0.hlen
 subst hob
 have hob := u89_0__h1.hlen
 subst hob
 refine bndk hp fun y91 hy91 hp => ?_
 refine gC 5 (fun w90 Y90 _ C90 B90 => (rat_Add_c _ X0 (X0_lt _) y85 _ ⟨_, _, _, _, _, _, rfl, (((u86_0__h0.mono (Le.new C84.lt)).mono (Le2 B89 B90)).mono Le.x0), (((u86_0__h1.mono (Le.new C84.lt)).mono (Le2 B89 B90)).mono Le.x0)⟩ y88 _ ⟨_, _, _, _, _, _, rfl, (((u89_0__h0.mono (Le.new C87.lt)).mono B90).mono Le.x0), (((u89_0__h1.mono (Le.new C87.lt)).mono B90).mono Le.x0)⟩ y91 hy91)) ?_ (hPd := PdOk.nil.k)
 rintro v92 w90 Y92 w92 C90 B92 ⟨uu92_0, rfl, ⟨u92_0_1, u92_0_2, u92_0_3, u92_0_4, u92_0_5, u92_0_6, rfl, u92_0__h0, u92_0__h1⟩⟩
 have hob := u92_0__h0.hlen
 subst hob
 have hob := u92_0__h1.hlen
 subst hob
 refine gz [6, 7, 8] ?_
 refine gs1 (fun b93 => ?_) PdOk.nil.k
 refine gX 10 0 #[.bool y91.1.neg, .slice u92_0_1 y91.1.ln.length u92_0_3, .slice u92_0_4 y91.1.ld.length u92_0_6] ?_
 intro w94 Y94 B94
 refine gz [11] ?_
 refine gend (fun w95 Y95 C95 B95 => ?_)
 refine zz 1 ?_
 have hc104_ := (Le3 B89 B92 B94).trans B95
 have hc105_ := (Le3 B89 B92 B94).trans B95
 have hc106_ := (Le4 B86 B89 B92 B94).trans B95
 have hc107_ := (Le4 B86 B89 B92 B94).trans B95
 have hc108_ := (Le4 B86 B89 B92 B94).trans B95
 have hc109_ := (Le4 B86 B89 B92 B94).trans B95
 have hc110_ := (Le4 B86 B89 B92 B94).trans B95
 have hc111_ := (Le4 B86 B89 B92 B94).trans B95
 have hc112_ := (Le4 B86 B89 B92 B94).trans B95
 have hc113_ := (Le4 B86 B89 B92 B94).trans B95
 have hc114_ := (Le4 B86 B89 B92 B94).trans B95
 have hc115_ := (Le4 B86 B89 B92 B94).trans B95
 have hc116_ := (Le4 B86 B89 B92 B94).trans B95
 have hc117_ := (Le4 B86 B89 B92 B94).trans B95
 have hc118_ := (Le4 B86 B89 B92 B94).trans B95
 have hc119_ := (Le4 B86 B89 B92 B94).trans B95
 have hc120_ := (Le4 B86 B89 B92 B94).trans B95
 have hc121_ := (Le4 B86 B89 B92 B94).trans B95
 have hc122_ := (Le4 B86 B89 B92 B94).trans B95
 have hc123_ := (Le4 B86 B89 B92 B94).trans B95
 have hc124_ := (Le4 B86 B89 B92 B94).trans B95
 have hc125_ := (Le4 B86 B89 B92 B94).trans B95
 have hc126_ := (Le4 B86 B89 B92 B94).trans B95
 have hc127_ := (Le4 B86 B89 B92 B94).trans B95
 have hc128_ := (Le4 B86 B89 B92 B94).trans B95
 have hc129_ := (Le4 B86 B89 B92 B94).trans B95
 have hc130_ := (Le4 B86 B89 B92 B94).trans B95
 have hc131_ := (Le4 B86 B89 B92 B94).trans B95
 have hc132_ := (Le4 B86 B89 B92 B94).trans B95
 have hc133_ := (Le4 B86 B89 B92 B94).trans B95
 have hc134_ := (Le4 B86 B89 B92 B94).trans B95
 have hc135_ := (Le4 B86 B89 B92 B94).trans B95
 have hc136_ := (Le4 B86 B89 B92 B94).trans B95
 have hc137_ := (Le4 B86 B89 B92 B94).trans B95
 have hc138_ := (Le4 B86 B89 B92 B94).trans B95
 have hc139_ := (Le4 B86 B89 B92 B94).trans B95
 have hc140_ := (Le4 B86 B89 B92 B94).trans B95
 have hc141_ := (Le4 B86 B89 B92 B94).trans B95
 have hc142_ := (Le4 B86 B89 B92 B94).trans B95
 have hc143_ := (Le4 B86 B89 B92 B94).trans B95
 have hc144_ := (Le4 B86 B89 B92 B94).trans B95
 have hc145_ := (Le4 B86 B89 B92 B94).trans B95
 have hc146_ := (Le4 B86 B89 B92 B94).trans B95
 have hc147_ := (Le4 B86 B89 B92 B94).trans B95
 refine zN ⟨.code (at1 [] Tryz.f7 [1, 1, 1, 1, 1, 1, 1, 1, 1, 1, 1, 1, 1, 1, 1]), at2 [] Tryz.f7 [1, 1, 1, 1, 1, 1, 1, 1, 1, 1, 1, 1, 1, 1, 1], [(1, .int .i64 p1), (2, .int .i64 p2), (3, .int .i64 p3), (17, .pointer (some ⟨b34, 0, none⟩)), (29, .pointer (some ⟨b80, 0, none⟩)), (30, .int .i64 y78.2), (31, .pointer (some ⟨b93, 0, none⟩)), (32, .int .i64 y91.2)]⟩ ?_
 exact clearwaylaw24_DynamicsMeans_cut96 w X y Y95 a35_0_1 a35_0_2 a35_0_3 a35_0_4 a35_1_1 a35_1_2 a35_1_3 a35_1_4 a35_2_1 a35_2_2 a35_2_3 a35_2_4 a35_3_1 a35_3_2 a35_3_3 a35_3_4 b29 b3 b31 b34 b80 b93 be53 be62 oe53 oe62 p0 p0a1 p0a10 p0a12 p0a13 p0a14 p0a15 p0a16 p0a17 p0a18 p0a19 p0a2 p0a20 p0a21 p0a22 p0a23 p0a24 p0a3 p0a4 p0a5 p0a6 p0a7 p0a8 p1 p2 p3 u79_0_1 u79_0_3 u79_0_4 u79_0_6 u92_0_1 u92_0_3 u92_0_4 u92_0_6 v35_0 v35_1 v35_2 v35_3 w95 y78 y91 C95 (u92_0__h1.mono (Le.own C90.lt C90.upd.size (Le2 B94 B95))) (u92_0__h0.mono (Le.own C90.lt C90.upd.size (Le2 B94 B95))) (hk83_1.mono (Le.or hc106_ _)) (hk83_2.mono (Le.or hc107_ _)) (hk83_19.mono hc124_) (hk83_20.mono hc125_) (hk83_21.mono hc126_) (hk83_22.mono hc127_) (hk83_23.mono hc128_) (hk83_24.mono hc129_) hp
theorem clearwaylaw24_DynamicsMeans_cut70 (w : World) (X : Hid) (y : Bool) (Y68 : Hid) (a35_0_1 : Option Addr) (a35_0_2 : Nat) (a35_0_3 : Option Addr) (a35_0_4 : Nat) (a35_1_1 : Option Addr) (a35_1_2 : Nat) (a35_1_3 : Option Addr) (a35_1_4 : Nat) (a35_2_1 : Option Addr) (a35_2_2 : Nat) (a35_2_3 : Option Addr) (a35_2_4 : Nat) (a35_3_1 : Option Addr) (a35_3_2 : Nat) (a35_3_3 : Option Addr) (a35_3_4 : Nat) (b29 : Nat) (b3 : Nat) (b31 : Nat) (b34 : Nat) (be53 : Nat) (be62 : Nat) (oe53 : Nat) (oe62 : Nat) (p0 : ModelD) (p0a1 : Option Addr) (p0a10 : Nat) (p0a12 : Nat) (p0a13 : Option Addr) (p0a14 : Nat) (p0a15 : Option Addr) (p0a16 : Nat) (p0a17 : Option Addr) (p0a18 : Nat) (p0a19 : Option Addr) (p0a2 : Nat) (p0a20 : Nat) (p0a21 : Option Addr) (p0a22 : Nat) (p0a23 : Option Addr) (p0a24 : Nat) (p0a3 : Option Addr) (p0a4 : Nat) (p0a5 : Option Addr) (p0a6 : Nat) (p0a7 : Option Addr) (p0a8 : Nat) (p1 : Int) (p2 : Int) (p3 : Int) (v35_0 : Raw) (v35_1 : Raw) (v35_2 : Raw) (v35_3 : Raw) (w68 : World) (y22 : Int × Int) (C68 : St E0 w X w68 Y68 [(b34, .cells #[.bool v35_0.neg, .slice a35_0_1 v35_0.ln.length a35_0_2, .slice a35_0_3 v35_0.ld.length a35_0_4, .bool v35_1.neg, .slice a35_1_1 v35_1.ln.length a35_1_2, .slice a35_1_3 v35_1.ld.length a35_1_4, .bool v35_2.neg, .slice a35_2_1 v35_2.ln.length a35_2_2, .slice a35_2_3 v35_2.ld.length a35_2_4] 64 (0, 0)), (b31, .cells #[.bool v35_3.neg, .slice a35_3_1 v35_3.ln.length a35_3_2, .slice a35_3_3 v35_3.ld.length a35_3_4] 28 (0, 0)), (b29, .cells #[.slice p0a1 p0.height.length p0a2, .slice p0a3 p0.own.length p0a4, .slice p0a5 p0.other.length p0a6] 22 (0, 0)), (b3, .cells #[.slice p0a1 p0.height.length p0a2, .slice p0a3 p0.own.length p0a4, .slice p0a5 p0.other.length p0a6, .slice p0a7 p0.advisories.length p0a8, .int .i64 p0.pull, .int .i64 p0.near, .int .i64 p0.steps, .slice (some ⟨be53, oe53, none⟩) p0.ownNoise.length p0a10, .slice (some ⟨be62, oe62, none⟩) p0.otherNoise.length p0a12, .bool p0.alert.neg, .slice p0a13 p0.alert.ln.length p0a14, .slice p0a15 p0.alert.ld.length p0a16, .bool p0.strengthen.neg, .slice p0a17 p0.strengthen.ln.length p0a18, .slice p0a19 p0.strengthen.ld.length p0a20, .bool p0.reversal.neg, .slice p0a21 p0.reversal.ln.length p0a22, .slice p0a23 p0.reversal.ld.length p0a24] 30 (0, 0))]) (hk70_13 : Limbs (rd w68 Y68) a35_2_3 v35_2.ld.length a35_2_4 v35_2.ld) (hk70_14 : Limbs (rd w68 Y68) a35_2_1 v35_2.ln.length a35_2_2 v35_2.ln) (hk70_15 : Limbs (rd w68 Y68) a35_1_3 v35_1.ld.length a35_1_4 v35_1.ld) (hk70_16 : Limbs (rd w68 Y68) a35_1_1 v35_1.ln.length a35_1_2 v35_1.ln) (hk70_17 : Limbs (rd w68 Y68) a35_0_3 v35_0.ld.length a35_0_4 v35_0.ld) (hk70_18 : Limbs (rd w68 Y68) a35_0_1 v35_0.ln.length a35_0_2 v35_0.ln) (hk70_27 : NoiseDS (rd w68 Y68) (some ⟨be62, oe62, none⟩) p0.otherNoise.length p0a12 p0.otherNoise) (hk70_28 : NoiseDS (rd w68 Y68) (some ⟨be53, oe53, none⟩) p0.ownNoise.length p0a10 p0.ownNoise) (hp : ((rat_From_p (y22.1)).bind fun y72 => (clearwaylaw24_mean_p p0.ownNoise).bind fun y75 => (rat_Add_p y72 y75).bind fun y78 => (rat_From_p (p3)).bind fun y85 => (clearwaylaw24_mean_p p0.otherNoise).bind fun y88 => (rat_Add_p y85 y88).bind fun y91 => if ((y78.2) == 0) = true then (if ((y91.2) == 0) = true then ((rat_From_p (IntKind.i64.wrap ((IntKind.i64.wrap ((p1) + p3)) - p2))).bind fun y100 => (clearwaykit_EqualRat_p v35_0 y100).bind fun y103 => if y103 = true then ((clearwaykit_EqualRat_p v35_1 y78.1).bind fun y107 => if y107 = true then ((clearwaykit_EqualRat_p v35_2 y91.1).bind fun y111 => some y111) else (some false)) else (some false)) else (some false)) else (some false)) = some y) : Go none 0 Tryz.prog (bodyPost Tryz.prog Tryz.f7 (Ret E0 w fun w' v => v = .bool y)) Tryz.f7.ntmps [] w68 ⟨.code (at1 [] Tryz.f7 [1, 1, 1, 1, 1, 1, 1, 1, 1, 1, 1, 1, 1]), at2 [] Tryz.f7 [1, 1, 1, 1, 1, 1, 1, 1, 1, 1, 1, 1, 1], [(1, .int .i64 p1), (2, .int .i64 p2), (3, .int .i64 p3), (5, .pointer (some ⟨b3, 0, none⟩)), (13, .int .i64 y22.1), (17, .pointer (some ⟨b34, 0, none⟩))]⟩ := by
 refine zz 1 ?_
 refine zdr C68 ?_
 refine gz [0, 2] ?_
 refine gw 3 3 ?_
 refine gp (al 9 29 pn (.cells #[.bool false, .slice none 0 0, .slice none 0 0] 28 (0, 0))) ?_
 refine bndk hp fun y72 hy72 hp => ?_
 refine gC 1 (fun w71 Y71 _ C71 B71 => (rat_From_c _ X0 (X0_lt _) (y22.1) y72 hy72)) ?_ (hPd := PdOk.nil.k)
 rintro v73 w71 Y73 w73 C71 B73 ⟨u73_0_1, u73_0_2, u73_0_3, u73_0_4, u73_0_5, u73_0_6, rfl, u73_0__h0, u73_0__h1⟩
 have hob := u73_0__h0.hlen
 subst hob
 have hob := u73_0__h1.hlen
 subst hob
 refine bndk hp fun y75 hy75 hp => ?_
 refine gC 4 (fun w74 Y74 _ C74 B74 => (clearwaylaw24_mean_c _ X0 (X0_lt _) p0.ownNoise _ ⟨_, _, rfl, ((hk70_28.mono (Le2 B73 B74)).mono Le.x0)⟩ y75 hy75)) ?_ (hPd := PdOk.nil.k)
 rintro v76 w74 Y76 w76 C74 B76 ⟨u76_0_1, u76_0_2, u76_0_3, u76_0_4, u76_0_5, u76_0_6, rfl, u76_0__h0, u76_0__h1⟩
 have hob := u76_0__h0.hlen
 subst hob
 have hob := u76_0__h1.hlen
 subst hob
 refine bndk hp fun y78 hy78 hp => ?_
 refine gC 5 (fun w77 Y77 _ C77 B77 => (rat_Add_c _ X0 (X0_lt _) y72 _ ⟨_, _, _, _, _, _, rfl, (((u73_0__h0.mono (Le.new C71.lt)).mono (Le2 B76 B77)).mono Le.x0), (((u73_0__h1.mono (Le.new C71.lt)).mono (Le2 B76 B77)).mono Le.x0)⟩ y75 _ ⟨_, _, _, _, _, _, rfl, (((u76_0__h0.mono (Le.new C74.lt)).mono B77).mono Le.x0), (((u76_0__h1.mono (Le.new C74.lt)).mono B77).mono Le.x0)⟩ y78 hy78)) ?_ (hPd := PdOk.nil.k)
 rintro v79 w77 Y79 w79 C77 B79 ⟨uu79_0, rfl, ⟨u79_0_1, u79_0_2, u79_0_3, u79_0_4, u79_0_5, u79_0_6, rfl, u79_0__h0, u79_0__h1⟩⟩
 have hob := u79_0__h0.hlen
 subst hob
 have hob := u79_0__h1.hlen
 subst hob
 refine gz [6, 7, 8] ?_
 refine gs1 (fun b80 => ?_) PdOk.nil.k
 refine gX 10 0 #[.bool y78.1.neg, .slice u79_0_1 y78.1.ln.length u79_0_3, .slice u79_0_4 y78.1.ld.length u79_0_6] ?_
 intro w81 Y81 B81
 refine gz [11] ?_
 refine gend (fun w82 Y82 C82 B82 => ?_)
 refine zz 1 ?_
 have hc66_ := (Le3 B76 B79 B81).trans B82
 have hc67_ := (Le3 B76 B79 B81).trans B82
 have hc68_ := (Le4 B73 B76 B79 B81).trans B82
 have hc69_ := (Le4 B73 B76 B79 B81).trans B82
 have hc70_ := (Le4 B73 B76 B79 B81).trans B82
 have hc71_ := (Le4 B73 B76 B79 B81).trans B82
 have hc72_ := (Le4 B73 B76 B79 B81).trans B82
 have hc73_ := (Le4 B73 B76 B79 B81).trans B82
 have hc74_ := (Le4 B73 B76 B79 B81).trans B82
 have hc75_ := (Le4 B73 B76 B79 B81).trans B82
 have hc76_ := (Le4 B73 B76 B79 B81).trans B82
 have hc77_ := (Le4 B73 B76 B79 B81).trans B82
 have hc78_ := (Le4 B73 B76 B79 B81).trans B82
 have hc79_ := (Le4 B73 B76 B79 B81).trans B82
 have hc80_ := (Le4 B73 B76 B79 B81).trans B82
 have hc81_ := (Le4 B73 B76 B79 B81).trans B82
 have hc82_ := (Le4 B73 B76 B79 B81).trans B82
 have hc83_ := (Le4 B73 B76 B79 B81).trans B82
 have hc84_ := (Le4 B73 B76 B79 B81).trans B82
 have hc85_ := (Le4 B73 B76 B79 B81).trans B82
 have hc86_ := (Le4 B73 B76 B79 B81).trans B82
 have hc87_ := (Le4 B73 B76 B79 B81).trans B82
 have hc88_ := (Le4 B73 B76 B79 B81).trans B82
 have hc89_ := (Le4 B73 B76 B79 B81).trans B82
 have hc90_ := (Le4 B73 B76 B79 B81).trans B82
 have hc91_ := (Le4 B73 B76 B79 B81).trans B82
 have hc92_ := (Le4 B73 B76 B79 B81).trans B82
 have hc93_ := (Le4 B73 B76 B79 B81).trans B82
 have hc94_ := (Le4 B73 B76 B79 B81).trans B82
 have hc95_ := (Le4 B73 B76 B79 B81).trans B82
 have hc96_ := (Le4 B73 B76 B79 B81).trans B82
 have hc97_ := (Le4 B73 B76 B79 B81).trans B82
 have hc98_ := (Le4 B73 B76 B79 B81).trans B82
 have hc99_ := (Le4 B73 B76 B79 B81).trans B82
 have hc100_ := (Le4 B73 B76 B79 B81).trans B82
 have hc101_ := (Le4 B73 B76 B79 B81).trans B82
 have hc102_ := (Le4 B73 B76 B79 B81).trans B82
 have hc103_ := (Le4 B73 B76 B79 B81).trans B82
 refine zN ⟨.code (at1 [] Tryz.f7 [1, 1, 1, 1, 1, 1, 1, 1, 1, 1, 1, 1, 1, 1]), at2 [] Tryz.f7 [1, 1, 1, 1, 1, 1, 1, 1, 1, 1, 1, 1, 1, 1], [(1, .int .i64 p1), (2, .int .i64 p2), (3, .int .i64 p3), (5, .pointer (some ⟨b3, 0, none⟩)), (17, .pointer (some ⟨b34, 0, none⟩)), (29, .pointer (some ⟨b80, 0, none⟩)), (30, .int .i64 y78.2)]⟩ ?_
 exact clearwaylaw24_DynamicsMeans_cut83 w X y Y82 a35_0_1 a35_0_2 a35_0_3 a35_0_4 a35_1_1 a35_1_2 a35_1_3 a35_1_4 a35_2_1 a35_2_2 a35_2_3 a35_2_4 a35_3_1 a35_3_2 a35_3_3 a35_3_4 b29 b3 b31 b34 b80 be53 be62 oe53 oe62 p0 p0a1 p0a10 p0a12 p0a13 p0a14 p0a15 p0a16 p0a17 p0a18 p0a19 p0a2 p0a20 p0a21 p0a22 p0a23 p0a24 p0a3 p0a4 p0a5 p0a6 p0a7 p0a8 p1 p2 p3 u79_0_1 u79_0_3 u79_0_4 u79_0_6 v35_0 v35_1 v35_2 v35_3 w82 y78 C82 (u79_0__h1.mono (Le.own C77.lt C77.upd.size (Le2 B81 B82))) (u79_0__h0.mono (Le.own C77.lt C77.upd.size (Le2 B81 B82))) (hk70_13.mono hc80_) (hk70_14.mono hc81_) (hk70_15.mono hc82_) (hk70_16.mono hc83_) (hk70_17.mono hc84_) (hk70_18.mono hc85_) (hk70_27.mono hc94_) hp
theorem clearwaylaw24_DynamicsMeans_cut45 (w : World) (X : Hid) (y : Bool) (Y43 : Hid) (a35_0_1 : Option Addr) (a35_0_2 : Nat) (a35_0_3 : Option Addr) (a35_0_4 : Nat) (a35_1_1 : Option Addr) (a35_1_2 : Nat) (a35_1_3 : Option Addr) (a35_1_4 : Nat) (a35_2_1 : Option Addr) (a35_2_2 : Nat) (a35_2_3 : Option Addr) (a35_2_4 : Nat) (a35_3_1 : Option Addr) (a35_3_2 : Nat) (a35_3_3 : Option Addr) (a35_3_4 : Nat) (b29 : Nat) (b3 : Nat) (b31 : Nat) (b34 : Nat) (p0 : ModelD) (p0a1 : Option Addr) (p0a10 : Nat) (p0a11 : Option Addr) (p0a12 : Nat) (p0a13 : Option Addr) (p0a14 : Nat) (p0a15 : Option Addr) (p0a16 : Nat) (p0a17 : Option Addr) (p0a18 : Nat) (p0a19 : Option Addr) (p0a2 : Nat) (p0a20 : Nat) (p0a21 : Option Addr) (p0a22 : Nat) (p0a23 : Option Addr) (p0a24 : Nat) (p0a3 : Option Addr) (p0a4 : Nat) (p0a5 : Option Addr) (p0a6 : Nat) (p0a7 : Option Addr) (p0a8 : Nat) (p0a9 : Option Addr) (p1 : Int) (p2 : Int) (p3 : Int) (v35_0 : Raw) (v35_1 : Raw) (v35_2 : Raw) (v35_3 : Raw) (w43 : World) (y22 : Int × Int) (C43 : St E0 w X w43 Y43 [(b34, .cells #[.bool v35_0.neg, .slice a35_0_1 v35_0.ln.length a35_0_2, .slice a35_0_3 v35_0.ld.length a35_0_4, .bool v35_1.neg, .slice a35_1_1 v35_1.ln.length a35_1_2, .slice a35_1_3 v35_1.ld.length a35_1_4, .bool v35_2.neg, .slice a35_2_1 v35_2.ln.length a35_2_2, .slice a35_2_3 v35_2.ld.length a35_2_4] 64 (0, 0)), (b31, .cells #[.bool v35_3.neg, .slice a35_3_1 v35_3.ln.length a35_3_2, .slice a35_3_3 v35_3.ld.length a35_3_4] 28 (0, 0)), (b29, .cells #[.slice p0a1 p0.height.length p0a2, .slice p0a3 p0.own.length p0a4, .slice p0a5 p0.other.length p0a6] 22 (0, 0)), (b3, .cells #[.slice p0a1 p0.height.length p0a2, .slice p0a3 p0.own.length p0a4, .slice p0a5 p0.other.length p0a6, .slice p0a7 p0.advisories.length p0a8, .int .i64 p0.pull, .int .i64 p0.near, .int .i64 p0.steps, .slice p0a9 p0.ownNoise.length p0a10, .slice p0a11 p0.otherNoise.length p0a12, .bool p0.alert.neg, .slice p0a13 p0.alert.ln.length p0a14, .slice p0a15 p0.alert.ld.length p0a16, .bool p0.strengthen.neg, .slice p0a17 p0.strengthen.ln.length p0a18, .slice p0a19 p0.strengthen.ld.length p0a20, .bool p0.reversal.neg, .slice p0a21 p0.reversal.ln.length p0a22, .slice p0a23 p0.reversal.ld.length p0a24] 30 (0, 0))]) (hk45_5 : Limbs (rd w43 (orN Y43 w.heap.size)) a35_2_3 v35_2.ld.length a35_2_4 v35_2.ld) (hk45_6 : Limbs (rd w43 (orN Y43 w.heap.size)) a35_2_1 v35_2.ln.length a35_2_2 v35_2.ln) (hk45_7 : Limbs (rd w43 (orN Y43 w.heap.size)) a35_1_3 v35_1.ld.length a35_1_4 v35_1.ld) (hk45_8 : Limbs (rd w43 (orN Y43 w.heap.size)) a35_1_1 v35_1.ln.length a35_1_2 v35_1.ln) (hk45_9 : Limbs (rd w43 (orN Y43 w.heap.size)) a35_0_3 v35_0.ld.length a35_0_4 v35_0.ld) (hk45_10 : Limbs (rd w43 (orN Y43 w.heap.size)) a35_0_1 v35_0.ln.length a35_0_2 v35_0.ln) (hk45_19 : NoiseDS (rd w43 Y43) p0a11 p0.otherNoise.length p0a12 p0.otherNoise) (hk45_20 : NoiseDS (rd w43 Y43) p0a9 p0.ownNoise.length p0a10 p0.ownNoise) (hk45_22 : Ints (rd w43 Y43) p0a5 p0.other.length p0a6 p0.other) (hk45_23 : Ints (rd w43 Y43) p0a3 p0.own.length p0a4 p0.own) (hk45_24 : Ints (rd w43 Y43) p0a1 p0.height.length p0a2 p0.height) (hp : ((clearwaylaw24_inside_p p0.height (IntKind.i64.wrap ((IntKind.i64.wrap ((p1) + p3)) - p2)) (IntKind.i64.wrap ((IntKind.i64.wrap ((p1) + p3)) - p2))).bind fun y48 => if (!y48) = true then (some true) else ((ix p0.ownNoise (0 : Int)).bind fun x52 => (ix p0.ownNoise (IntKind.i64.wrap ((p0.ownNoise.length : Int) - 1))).bind fun x54 => (clearwaylaw24_inside_p p0.own (IntKind.i64.wrap ((y22.1) + x52.delta)) (IntKind.i64.wrap ((y22.1) + x54.delta))).bind fun y57 => if (!y57) = true then (some true) else ((ix p0.otherNoise (0 : Int)).bind fun x61 => (ix p0.otherNoise (IntKind.i64.wrap ((p0.otherNoise.length : Int) - 1))).bind fun x63 => (clearwaylaw24_inside_p p0.other (IntKind.i64.wrap ((p3) + x61.delta)) (IntKind.i64.wrap ((p3) + x63.delta))).bind fun y66 => if (!y66) = true then (some true) else ((rat_From_p (y22.1)).bind fun y72 => (clearwaylaw24_mean_p p0.ownNoise).bind fun y75 => (rat_Add_p y72 y75).bind fun y78 => (rat_From_p (p3)).bind fun y85 => (clearwaylaw24_mean_p p0.otherNoise).bind fun y88 => (rat_Add_p y85 y88).bind fun y91 => if ((y78.2) == 0) = true then (if ((y91.2) == 0) = true then ((rat_From_p (IntKind.i64.wrap ((IntKind.i64.wrap ((p1) + p3)) - p2))).bind fun y100 => (clearwaykit_EqualRat_p v35_0 y100).bind fun y103 => if y103 = true then ((clearwaykit_EqualRat_p v35_1 y78.1).bind fun y107 => if y107 = true then ((clearwaykit_EqualRat_p v35_2 y91.1).bind fun y111 => some y111) else (some false)) else (some false)) else (some false)) else (some false))))) = some y) : Go none 0 Tryz.prog (bodyPost Tryz.prog Tryz.f7 (Ret E0 w fun w' v => v = .bool y)) Tryz.f7.ntmps [] w43 ⟨.code (at1 [] Tryz.f7 [1, 1, 1, 1, 1, 1, 1, 1, 1, 1, 1]), at2 [] Tryz.f7 [1, 1, 1, 1, 1, 1, 1, 1, 1, 1, 1], [(1, .int .i64 p1), (2, .int .i64 p2), (3, .int .i64 p3), (5, .pointer (some ⟨b3, 0, none⟩)), (13, .int .i64 y22.1), (17, .pointer (some ⟨b34, 0, none⟩))]⟩ := by
 refine zz 1 ?_
 refine zdr C43 ?_
 refine gz [0] ?_
 refine gw 1 3 ?_
 refine gz [2, 3, 4] ?_
 refine gw 5 3 ?_
 refine gz [6, 7, 8, 9] ?_
 refine gend (fun w46 Y46 C46 B46 => ?_)
 refine zz 3 ?_
 refine zN ⟨.code (at1 [] Tryz.f7 [1, 1, 1, 1, 1, 1, 1, 1, 1, 1, 1, 1, 0, 0]), at2 [] Tryz.f7 [1, 1, 1, 1, 1, 1, 1, 1, 1, 1, 1, 1, 0, 0], [(1, .int .i64 p1), (2, .int .i64 p2), (3, .int .i64 p3), (5, .pointer (some ⟨b3, 0, none⟩)), (13, .int .i64 y22.1), (17, .pointer (some ⟨b34, 0, none⟩)), (27, .int .i64 (IntKind.i64.wrap ((p0.ownNoise.length : Int) - 1))), (28, .int .i64 (IntKind.i64.wrap ((p0.otherNoise.length : Int) - 1)))]⟩ ?_
 refine zdr C46 ?_
 refine gz [0] ?_
 refine gw 1 3 ?_
 refine gz [2, 3, 4, 5, 6, 7, 8, 9, 10, 11] ?_
 refine bndk hp fun y48 hy48 hp => ?_
 refine gC 12 (fun w47 Y47 _ C47 B47 => (clearwaylaw24_inside_c _ X0 (X0_lt _) p0.height _ ⟨_, _, rfl, ((hk45_24.mono (Le2 B46 B47)).mono Le.x0)⟩ (IntKind.i64.wrap ((IntKind.i64.wrap ((p1) + p3)) - p2)) (IntKind.i64.wrap ((IntKind.i64.wrap ((p1) + p3)) - p2)) y48 hy48)) ?_
 rintro v49 w47 Y49 w49 C47 B49 rfl
 refine gz [13, 14] ?_
 refine gb 185 (b := !y48) (fun hc50 => ?_) (fun hc50 => ?_)
 ·
  have hp := ipb hc50 hp
  refine gz [15, 16, 17, 18, 19, 20, 21, 22, 23, 24, 25, 26, 27, 28, 29, 30, 31, 32, 33, 34, 35, 36, 37, 38, 39, 40, 41, 42, 43, 44, 45, 46, 47, 48, 49, 50, 51, 52, 53, 54, 55] ?_
  refine gend (fun w51 Y51 C51 B51 => ?_)
  refine zz 9 ?_
  refine zr' (v := .bool true) ?_
  have hob := Option.some.inj hp
  subst hob
  exact ⟨C51.upd, _, rfl, rfl⟩
 have hp := iqb hc50 hp
 refine gz [15] ?_
 refine gw 16 3 ?_
 refine gz [17, 18] ?_
 refine gw 19 3 ?_
 refine bndk hp fun x52 hx52 hp => ?_
 have hob := ix_some hx52
 obtain ⟨hzx52, hqx52⟩ := hob
 have hwx52 : p0.ownNoise[0]? = some x52 := hqx52
 have hob := hk45_20.opn hwx52
 obtain ⟨be53, oe53, rfl, B53, hEe53⟩ := hob
 obtain ⟨e531, e532, e533, e534, e53_at, e53_h0, e53_h1⟩ := hEe53
 refine gi 20 (b := be53) (off := oe53) (len := p0.ownNoise.length) (cap := p0a10) (kd := .i64) (i := 0) 4 (oe53 + 0 * 4) ?_ (h0 := hzx52) (h1 := (ix_b hzx52 B53))
 refine gz [21] ?_
 refine gl 22 ((e53_at.mono B46).sub 0 1) ?_
 refine gz [23, 24, 25] ?_
 refine gw 26 3 ?_
 refine bndk hp fun x54 hx54 hp => ?_
 have hob := ix_some hx54
 obtain ⟨hzx54, hqx54⟩ := hob
 have hob := hk45_20.opn2 hqx54
 obtain ⟨B55, hEe55⟩ := hob
 obtain ⟨e551, e552, e553, e554, e55_at, e55_h0, e55_h1⟩ := hEe55
 refine gz [27] ?_
 refine gi 28 (b := be53) (off := oe53) (len := p0.ownNoise.length) (cap := p0a10) (kd := .i64) (i := IntKind.i64.wrap ((p0.ownNoise.length : Int) - 1)) 4 (oe53 + (IntKind.i64.wrap ((p0.ownNoise.length : Int) - 1)).toNat * 4) ?_ (h0 := hzx54) (h1 := (ix_b hzx54 B55))
 refine gz [29] ?_
 refine gl 30 ((e55_at.mono B46).sub 0 1) ?_
 refine gz [31] ?_
 refine bndk hp fun y57 hy57 hp => ?_
 refine gC 32 (fun w56 Y56 _ C56 B56 => (clearwaylaw24_inside_c _ X0 (X0_lt _) p0.own _ ⟨_, _, rfl, ((hk45_23.mono (Le3 B46 B49 B56)).mono Le.x0)⟩ (IntKind.i64.wrap ((y22.1) + x52.delta)) (IntKind.i64.wrap ((y22.1) + x54.delta)) y57 hy57)) ?_
 rintro v58 w56 Y58 w58 C56 B58 rfl
 refine gz [33, 34, 35] ?_
 refine gb 206 (b := !y57) (fun hc59 => ?_) (fun hc59 => ?_)
 ·
  have hp := ipb hc59 hp
  refine gz [36, 37, 38, 39, 40, 41, 42, 43, 44, 45, 46, 47, 48, 49, 50, 51, 52, 53, 54, 55] ?_
  refine gend (fun w60 Y60 C60 B60 => ?_)
  refine zz 9 ?_
  refine zr' (v := .bool true) ?_
  have hob := Option.some.inj hp
  subst hob
  exact ⟨C60.upd, _, rfl, rfl⟩
 have hp := iqb hc59 hp
 refine gz [36] ?_
 refine gw 37 3 ?_
 refine gz [38, 39] ?_
 refine gw 40 3 ?_
 refine bndk hp fun x61 hx61 hp => ?_
 have hob := ix_some hx61
 obtain ⟨hzx61, hqx61⟩ := hob
 have hwx61 : p0.otherNoise[0]? = some x61 := hqx61
 have hob := hk45_19.opn hwx61
 obtain ⟨be62, oe62, rfl, B62, hEe62⟩ := hob
 obtain ⟨e621, e622, e623, e624, e62_at, e62_h0, e62_h1⟩ := hEe62
 refine gi 41 (b := be62) (off := oe62) (len := p0.otherNoise.length) (cap := p0a12) (kd := .i64) (i := 0) 4 (oe62 + 0 * 4) ?_ (h0 := hzx61) (h1 := (ix_b hzx61 B62))
 refine gz [42] ?_
 refine gl 43 ((e62_at.mono B46).sub 0 1) ?_
 refine gz [44, 45, 46] ?_
 refine gw 47 3 ?_
 refine bndk hp fun x63 hx63 hp => ?_
 have hob := ix_some hx63
 obtain ⟨hzx63, hqx63⟩ := hob
 have hob := hk45_19.opn2 hqx63
 obtain ⟨B64, hEe64⟩ := hob
 obtain ⟨e641, e642, e643, e644, e64_at, e64_h0, e64_h1⟩ := hEe64
 refine gz [48] ?_
 refine gi 49 (b := be62) (off := oe62) (len := p0.otherNoise.length) (cap := p0a12) (kd := .i64) (i := IntKind.i64.wrap ((p0.otherNoise.length : Int) - 1)) 4 (oe62 + (IntKind.i64.wrap ((p0.otherNoise.length : Int) - 1)).toNat * 4) ?_ (h0 := hzx63) (h1 := (ix_b hzx63 B64))
 refine gz [50] ?_
 refine gl 51 ((e64_at.mono B46).sub 0 1) ?_
 refine gz [52] ?_
 have hc29_ := (Le2 B46 B49).trans B58
 refine bndk hp fun y66 hy66 hp => ?_
 refine gC 53 (fun w65 Y65 _ C65 B65 => (clearwaylaw24_inside_c _ X0 (X0_lt _) p0.other _ ⟨_, _, rfl, ((hk45_22.mono (hc29_.trans B65)).mono Le.x0)⟩ (IntKind.i64.wrap ((p3) + x61.delta)) (IntKind.i64.wrap ((p3) + x63.delta)) y66 hy66)) ?_
 rintro v67 w65 Y67 w67 C65 B67 rfl
 refine gz [54, 55] ?_
 refine gend (fun w68 Y68 C68 B68 => ?_)
 refine zz 1 ?_
 refine zb 226 (b := !y66) (fun hc69 => ?_) (fun hc69 => ?_)
 ·
  have hp := ipb hc69 hp
  refine zz 8 ?_
  refine zr' (v := .bool true) ?_
  have hob := Option.some.inj hp
  subst hob
  exact ⟨C68.upd, _, rfl, rfl⟩
 have hp := iqb hc69 hp
 refine zz 3 ?_
 have hc30_ := (hc29_.trans B67).trans B68
 have hc31_ := (hc29_.trans B67).trans B68
 have hc32_ := (hc29_.trans B67).trans B68
 have hc33_ := (hc29_.trans B67).trans B68
 have hc34_ := (hc29_.trans B67).trans B68
 have hc35_ := (hc29_.trans B67).trans B68
 have hc36_ := (hc29_.trans B67).trans B68
 have hc37_ := (hc29_.trans B67).trans B68
 have hc38_ := (hc29_.trans B67).trans B68
 have hc39_ := (hc29_.trans B67).trans B68
 have hc40_ := (hc29_.trans B67).trans B68
 have hc41_ := (hc29_.trans B67).trans B68
 have hc42_ := (hc29_.trans B67).trans B68
 have hc43_ := (hc29_.trans B67).trans B68
 have hc44_ := (hc29_.trans B67).trans B68
 have hc45_ := (hc29_.trans B67).trans B68
 have hc46_ := (hc29_.trans B67).trans B68
 have hc47_ := (hc29_.trans B67).trans B68
 have hc48_ := (hc29_.trans B67).trans B68
 have hc49_ := (hc29_.trans B67).trans B68
 have hc50_ := (hc29_.trans B67).trans B68
 have hc51_ := (hc29_.trans B67).trans B68
 have hc52_ := (hc29_.trans B67).trans B68
 have hc53_ := (hc29_.trans B67).trans B68
 have hc54_ := (hc29_.trans B67).trans B68
 have hc55_ := (hc29_.trans B67).trans B68
 have hc56_ := (hc29_.trans B67).trans B68
 have hc57_ := (hc29_.trans B67).trans B68
 have hc58_ := (hc29_.trans B67).trans B68
 have hc59_ := (hc29_.trans B67).trans B68
 have hc60_ := (hc29_.trans B67).trans B68
 have hc61_ := (hc29_.trans B67).trans B68
 have hc62_ := (hc29_.trans B67).trans B68
 have hc63_ := (hc29_.trans B67).trans B68
 have hc64_ := (hc29_.trans B67).trans B68
 have hc65_ := (hc29_.trans B67).trans B68
 refine zN ⟨.code (at1 [] Tryz.f7 [1, 1, 1, 1, 1, 1, 1, 1, 1, 1, 1, 1, 1]), at2 [] Tryz.f7 [1, 1, 1, 1, 1, 1, 1, 1, 1, 1, 1, 1, 1], [(1, .int .i64 p1), (2, .int .i64 p2), (3, .int .i64 p3), (5, .pointer (some ⟨b3, 0, none⟩)), (13, .int .i64 y22.1), (17, .pointer (some ⟨b34, 0, none⟩))]⟩ ?_
 exact clearwaylaw24_DynamicsMeans_cut70 w X y Y68 a35_0_1 a35_0_2 a35_0_3 a35_0_4 a35_1_1 a35_1_2 a35_1_3 a35_1_4 a35_2_1 a35_2_2 a35_2_3 a35_2_4 a35_3_1 a35_3_2 a35_3_3 a35_3_4 b29 b3 b31 b34 be53 be62 oe53 oe62 p0 p0a1 p0a10 p0a12 p0a13 p0a14 p0a15 p0a16 p0a17 p0a18 p0a19 p0a2 p0a20 p0a21 p0a22 p0a23 p0a24 p0a3 p0a4 p0a5 p0a6 p0a7 p0a8 p1 p2 p3 v35_0 v35_1 v35_2 v35_3 w68 y22 C68 ((hk45_5.mono Le.orl).mono hc42_) ((hk45_6.mono Le.orl).mono hc43_) ((hk45_7.mono Le.orl).mono hc44_) ((hk45_8.mono Le.orl).mono hc45_) ((hk45_9.mono Le.orl).mono hc46_) ((hk45_10.mono Le.orl).mono hc47_) (hk45_19.mono hc56_) (hk45_20.mono hc57_) hp
theorem clearwaylaw24_DynamicsMeans_cut36 (w : World) (X : Hid) (y : Bool) (Y35 : Hid) (a35_0_1 : Option Addr) (a35_0_2 : Nat) (a35_0_3 : Option Addr) (a35_0_4 : Nat) (a35_1_1 : Option Addr) (a35_1_2 : Nat) (a35_1_3 : Option Addr) (a35_1_4 : Nat) (a35_2_1 : Option Addr) (a35_2_2 : Nat) (a35_2_3 : Option Addr) (a35_2_4 : Nat) (a35_3_1 : Option Addr) (a35_3_2 : Nat) (a35_3_3 : Option Addr) (a35_3_4 : Nat) (b29 : Nat) (b3 : Nat) (b31 : Nat) (b34 : Nat) (p0 : ModelD) (p0a1 : Option Addr) (p0a10 : Nat) (p0a11 : Option Addr) (p0a12 : Nat) (p0a13 : Option Addr) (p0a14 : Nat) (p0a15 : Option Addr) (p0a16 : Nat) (p0a17 : Option Addr) (p0a18 : Nat) (p0a19 : Option Addr) (p0a2 : Nat) (p0a20 : Nat) (p0a21 : Option Addr) (p0a22 : Nat) (p0a23 : Option Addr) (p0a24 : Nat) (p0a3 : Option Addr) (p0a4 : Nat) (p0a5 : Option Addr) (p0a6 : Nat) (p0a7 : Option Addr) (p0a8 : Nat) (p0a9 : Option Addr) (p1 : Int) (p2 : Int) (p3 : Int) (v35_0 : Raw) (v35_1 : Raw) (v35_2 : Raw) (v35_3 : Raw) (w35 : World) (y22 : Int × Int) (C35 : St E0 w X w35 Y35 [(b34, .cells #[.bool v35_0.neg, .slice a35_0_1 v35_0.ln.length a35_0_2, .slice a35_0_3 v35_0.ld.length a35_0_4, .bool v35_1.neg, .slice a35_1_1 v35_1.ln.length a35_1_2, .slice a35_1_3 v35_1.ld.length a35_1_4, .bool v35_2.neg, .slice a35_2_1 v35_2.ln.length a35_2_2, .slice a35_2_3 v35_2.ld.length a35_2_4] 64 (0, 0)), (b31, .cells #[.bool v35_3.neg, .slice a35_3_1 v35_3.ln.length a35_3_2, .slice a35_3_3 v35_3.ld.length a35_3_4] 28 (0, 0)), (b29, .cells #[.slice p0a1 p0.height.length p0a2, .slice p0a3 p0.own.length p0a4, .slice p0a5 p0.other.length p0a6] 22 (0, 0)), (b3, .cells #[.slice p0a1 p0.height.length p0a2, .slice p0a3 p0.own.length p0a4, .slice p0a5 p0.other.length p0a6, .slice p0a7 p0.advisories.length p0a8, .int .i64 p0.pull, .int .i64 p0.near, .int .i64 p0.steps, .slice p0a9 p0.ownNoise.length p0a10, .slice p0a11 p0.otherNoise.length p0a12, .bool p0.alert.neg, .slice p0a13 p0.alert.ln.length p0a14, .slice p0a15 p0.alert.ld.length p0a16, .bool p0.strengthen.neg, .slice p0a17 p0.strengthen.ln.length p0a18, .slice p0a19 p0.strengthen.ld.length p0a20, .bool p0.reversal.neg, .slice p0a21 p0.reversal.ln.length p0a22, .slice p0a23 p0.reversal.ld.length p0a24] 30 (0, 0))]) (hk36_1 : Limbs (rd w35 Y35) a35_3_3 v35_3.ld.length a35_3_4 v35_3.ld) (hk36_2 : Limbs (rd w35 Y35) a35_3_1 v35_3.ln.length a35_3_2 v35_3.ln) (hk36_3 : Limbs (rd w35 (orN Y35 w.heap.size)) a35_2_3 v35_2.ld.length a35_2_4 v35_2.ld) (hk36_4 : Limbs (rd w35 (orN Y35 w.heap.size)) a35_2_1 v35_2.ln.length a35_2_2 v35_2.ln) (hk36_5 : Limbs (rd w35 (orN Y35 w.heap.size)) a35_1_3 v35_1.ld.length a35_1_4 v35_1.ld) (hk36_6 : Limbs (rd w35 (orN Y35 w.heap.size)) a35_1_1 v35_1.ln.length a35_1_2 v35_1.ln) (hk36_7 : Limbs (rd w35 (orN Y35 w.heap.size)) a35_0_3 v35_0.ld.length a35_0_4 v35_0.ld) (hk36_8 : Limbs (rd w35 (orN Y35 w.heap.size)) a35_0_1 v35_0.ln.length a35_0_2 v35_0.ln) (hk36_17 : NoiseDS (rd w35 Y35) p0a11 p0.otherNoise.length p0a12 p0.otherNoise) (hk36_18 : NoiseDS (rd w35 Y35) p0a9 p0.ownNoise.length p0a10 p0.ownNoise) (hk36_20 : Ints (rd w35 Y35) p0a5 p0.other.length p0a6 p0.other) (hk36_21 : Ints (rd w35 Y35) p0a3 p0.own.length p0a4 p0.own) (hk36_22 : Ints (rd w35 Y35) p0a1 p0.height.length p0a2 p0.height) (hp : ((rat_From_p (1 : Int)).bind fun y38 => (clearwaykit_EqualRat_p v35_3 y38).bind fun y41 => if (!y41) = true then (some false) else ((clearwaylaw24_inside_p p0.height (IntKind.i64.wrap ((IntKind.i64.wrap ((p1) + p3)) - p2)) (IntKind.i64.wrap ((IntKind.i64.wrap ((p1) + p3)) - p2))).bind fun y48 => if (!y48) = true then (some true) else ((ix p0.ownNoise (0 : Int)).bind fun x52 => (ix p0.ownNoise (IntKind.i64.wrap ((p0.ownNoise.length : Int) - 1))).bind fun x54 => (clearwaylaw24_inside_p p0.own (IntKind.i64.wrap ((y22.1) + x52.delta)) (IntKind.i64.wrap ((y22.1) + x54.delta))).bind fun y57 => if (!y57) = true then (some true) else ((ix p0.otherNoise (0 : Int)).bind fun x61 => (ix p0.otherNoise (IntKind.i64.wrap ((p0.otherNoise.length : Int) - 1))).bind fun x63 => (clearwaylaw24_inside_p p0.other (IntKind.i64.wrap ((p3) + x61.delta)) (IntKind.i64.wrap ((p3) + x63.delta))).bind fun y66 => if (!y66) = true then (some true) else ((rat_From_p (y22.1)).bind fun y72 => (clearwaylaw24_mean_p p0.ownNoise).bind fun y75 => (rat_Add_p y72 y75).bind fun y78 => (rat_From_p (p3)).bind fun y85 => (clearwaylaw24_mean_p p0.otherNoise).bind fun y88 => (rat_Add_p y85 y88).bind fun y91 => if ((y78.2) == 0) = true then (if ((y91.2) == 0) = true then ((rat_From_p (IntKind.i64.wrap ((IntKind.i64.wrap ((p1) + p3)) - p2))).bind fun y100 => (clearwaykit_EqualRat_p v35_0 y100).bind fun y103 => if y103 = true then ((clearwaykit_EqualRat_p v35_1 y78.1).bind fun y107 => if y107 = true then ((clearwaykit_EqualRat_p v35_2 y91.1).bind fun y111 => some y111) else (some false)) else (some false)) else (some false)) else (some false)))))) = some y) : Go none 0 Tryz.prog (bodyPost Tryz.prog Tryz.f7 (Ret E0 w fun w' v => v = .bool y)) Tryz.f7.ntmps [] w35 ⟨.code (at1 [] Tryz.f7 [1, 1, 1, 1, 1, 1, 1, 1, 1, 1]), at2 [] Tryz.f7 [1, 1, 1, 1, 1, 1, 1, 1, 1, 1], [(1, .int .i64 p1), (2, .int .i64 p2), (3, .int .i64 p3), (5, .pointer (some ⟨b3, 0, none⟩)), (13, .int .i64 y22.1), (16, .pointer (some ⟨b31, 0, none⟩)), (17, .pointer (some ⟨b34, 0, none⟩))]⟩ := by
 refine zz 2 ?_
 refine zdr C35 ?_
 refine gw 0 1 ?_
 refine bndk hp fun y38 hy38 hp => ?_
 refine gC 1 (fun w37 Y37 _ C37 B37 => (rat_From_c _ X0 (X0_lt _) (1 : Int) y38 hy38)) ?_
 rintro v39 w37 Y39 w39 C37 B39 ⟨u39_0_1, u39_0_2, u39_0_3, u39_0_4, u39_0_5, u39_0_6, rfl, u39_0__h0, u39_0__h1⟩
 have hob := u39_0__h0.hlen
 subst hob
 have hob := u39_0__h1.hlen
 subst hob
 refine bndk hp fun y41 hy41 hp => ?_
 refine gC 2 (fun w40 Y40 _ C40 B40 => (clearwaykit_EqualRat_c _ X0 (X0_lt _) v35_3 _ ⟨_, _, _, _, _, _, rfl, ((hk36_2.mono (Le2 B39 B40)).mono Le.x0), ((hk36_1.mono (Le2 B39 B40)).mono Le.x0)⟩ y38 _ ⟨_, _, _, _, _, _, rfl, (((u39_0__h0.mono (Le.new C37.lt)).mono B40).mono Le.x0), (((u39_0__h1.mono (Le.new C37.lt)).mono B40).mono Le.x0)⟩ y41 hy41)) ?_
 rintro v42 w40 Y42 w42 C40 B42 rfl
 refine gz [3] ?_
 refine gend (fun w43 Y43 C43 B43 => ?_)
 refine zz 1 ?_
 refine zb 162 (b := !y41) (fun hc44 => ?_) (fun hc44 => ?_)
 ·
  have hp := ipb hc44 hp
  refine zz 8 ?_
  refine zr' (v := .bool false) ?_
  have hob := Option.some.inj hp
  subst hob
  exact ⟨C43.upd, _, rfl, rfl⟩
 have hp := iqb hc44 hp
 refine zz 3 ?_
 refine zN ⟨.code (at1 [] Tryz.f7 [1, 1, 1, 1, 1, 1, 1, 1, 1, 1, 1]), at2 [] Tryz.f7 [1, 1, 1, 1, 1, 1, 1, 1, 1, 1, 1], [(1, .int .i64 p1), (2, .int .i64 p2), (3, .int .i64 p3), (5, .pointer (some ⟨b3, 0, none⟩)), (13, .int .i64 y22.1), (17, .pointer (some ⟨b34, 0, none⟩))]⟩ ?_
 exact clearwaylaw24_DynamicsMeans_cut45 w X y Y43 a35_0_1 a35_0_2 a35_0_3 a35_0_4 a35_1_1 a35_1_2 a35_1_3 a35_1_4 a35_2_1 a35_2_2 a35_2_3 a35_2_4 a35_3_1 a35_3_2 a35_3_3 a35_3_4 b29 b3 b31 b34 p0 p0a1 p0a10 p0a11 p0a12 p0a13 p0a14 p0a15 p0a16 p0a17 p0a18 p0a19 p0a2 p0a20 p0a21 p0a22 p0a23 p0a24 p0a3 p0a4 p0a5 p0a6 p0a7 p0a8 p0a9 p1 p2 p3 v35_0 v35_1 v35_2 v35_3 w43 y22 C43 (hk36_3.mono (Le.or (Le3 B39 B42 B43) _)) (hk36_4.mono (Le.or (Le3 B39 B42 B43) _)) (hk36_5.mono (Le.or (Le3 B39 B42 B43) _)) (hk36_6.mono (Le.or (Le3 B39 B42 B43) _)) (hk36_7.mono (Le.or (Le3 B39 B42 B43) _)) (hk36_8.mono (Le.or (Le3 B39 B42 B43) _)) (hk36_17.mono (Le3 B39 B42 B43)) (hk36_18.mono (Le3 B39 B42 B43)) (hk36_20.mono (Le3 B39 B42 B43)) (hk36_21.mono (Le3 B39 B42 B43)) (hk36_22.mono (Le3 B39 B42 B43)) hp
theorem clearwaylaw24_DynamicsMeans_cut27 (w : World) (X : Hid) (y : Bool) (Y3 : Hid) (b3 : Nat) (p0 : ModelD) (p0a1 : Option Addr) (p0a10 : Nat) (p0a11 : Option Addr) (p0a12 : Nat) (p0a13 : Option Addr) (p0a14 : Nat) (p0a15 : Option Addr) (p0a16 : Nat) (p0a17 : Option Addr) (p0a18 : Nat) (p0a19 : Option Addr) (p0a2 : Nat) (p0a20 : Nat) (p0a21 : Option Addr) (p0a22 : Nat) (p0a23 : Option Addr) (p0a24 : Nat) (p0a3 : Option Addr) (p0a4 : Nat) (p0a5 : Option Addr) (p0a6 : Nat) (p0a7 : Option Addr) (p0a8 : Nat) (p0a9 : Option Addr) (p1 : Int) (p2 : Int) (p3 : Int) (p4 : Int) (u20_0_1 : Option Addr) (u20_0_2 : Nat) (w23 : World) (y19 : (List Out) × Int) (y22 : Int × Int) (C23 : St E0 w X w23 Y3 [(b3, .cells #[.slice p0a1 p0.height.length p0a2, .slice p0a3 p0.own.length p0a4, .slice p0a5 p0.other.length p0a6, .slice p0a7 p0.advisories.length p0a8, .int .i64 p0.pull, .int .i64 p0.near, .int .i64 p0.steps, .slice p0a9 p0.ownNoise.length p0a10, .slice p0a11 p0.otherNoise.length p0a12, .bool p0.alert.neg, .slice p0a13 p0.alert.ln.length p0a14, .slice p0a15 p0.alert.ld.length p0a16, .bool p0.strengthen.neg, .slice p0a17 p0.strengthen.ln.length p0a18, .slice p0a19 p0.strengthen.ld.length p0a20, .bool p0.reversal.neg, .slice p0a21 p0.reversal.ln.length p0a22, .slice p0a23 p0.reversal.ld.length p0a24] 30 (0, 0))]) (hk27_1 : OutsR (rd w23 (orN Y3 w.heap.size)) u20_0_1 y19.1.length u20_0_2 y19.1) (hk27_2 : ModelDV (rd w23 Y3) (.agg #[.slice p0a1 p0.height.length p0a2, .slice p0a3 p0.own.length p0a4, .slice p0a5 p0.other.length p0a6, .slice p0a7 p0.advisories.length p0a8, .int .i64 p0.pull, .int .i64 p0.near, .int .i64 p0.steps, .slice p0a9 p0.ownNoise.length p0a10, .slice p0a11 p0.otherNoise.length p0a12, .bool p0.alert.neg, .slice p0a13 p0.alert.ln.length p0a14, .slice p0a15 p0.alert.ld.length p0a16, .bool p0.strengthen.neg, .slice p0a17 p0.strengthen.ln.length p0a18, .slice p0a19 p0.strengthen.ld.length p0a20, .bool p0.reversal.neg, .slice p0a21 p0.reversal.ln.length p0a22, .slice p0a23 p0.reversal.ld.length p0a24]) p0) (hk27_9 : NoiseDS (rd w23 Y3) p0a11 p0.otherNoise.length p0a12 p0.otherNoise) (hk27_10 : NoiseDS (rd w23 Y3) p0a9 p0.ownNoise.length p0a10 p0.ownNoise) (hk27_12 : Ints (rd w23 Y3) p0a5 p0.other.length p0a6 p0.other) (hk27_13 : Ints (rd w23 Y3) p0a3 p0.own.length p0a4 p0.own) (hk27_14 : Ints (rd w23 Y3) p0a1 p0.height.length p0a2 p0.height) (hp : (lt (fun (v35_0 : Raw) (v35_1 : Raw) (v35_2 : Raw) (v35_3 : Raw) => (rat_From_p (1 : Int)).bind fun y38 => (clearwaykit_EqualRat_p v35_3 y38).bind fun y41 => if (!y41) = true then (some false) else ((clearwaylaw24_inside_p p0.height (IntKind.i64.wrap ((IntKind.i64.wrap ((p1) + p3)) - p2)) (IntKind.i64.wrap ((IntKind.i64.wrap ((p1) + p3)) - p2))).bind fun y48 => if (!y48) = true then (some true) else ((ix p0.ownNoise (0 : Int)).bind fun x52 => (ix p0.ownNoise (IntKind.i64.wrap ((p0.ownNoise.length : Int) - 1))).bind fun x54 => (clearwaylaw24_inside_p p0.own (IntKind.i64.wrap ((y22.1) + x52.delta)) (IntKind.i64.wrap ((y22.1) + x54.delta))).bind fun y57 => if (!y57) = true then (some true) else ((ix p0.otherNoise (0 : Int)).bind fun x61 => (ix p0.otherNoise (IntKind.i64.wrap ((p0.otherNoise.length : Int) - 1))).bind fun x63 => (clearwaylaw24_inside_p p0.other (IntKind.i64.wrap ((p3) + x61.delta)) (IntKind.i64.wrap ((p3) + x63.delta))).bind fun y66 => if (!y66) = true then (some true) else ((rat_From_p (y22.1)).bind fun y72 => (clearwaylaw24_mean_p p0.ownNoise).bind fun y75 => (rat_Add_p y72 y75).bind fun y78 => (rat_From_p (p3)).bind fun y85 => (clearwaylaw24_mean_p p0.otherNoise).bind fun y88 => (rat_Add_p y85 y88).bind fun y91 => if ((y78.2) == 0) = true then (if ((y91.2) == 0) = true then ((rat_From_p (IntKind.i64.wrap ((IntKind.i64.wrap ((p1) + p3)) - p2))).bind fun y100 => (clearwaykit_EqualRat_p v35_0 y100).bind fun y103 => if y103 = true then ((clearwaykit_EqualRat_p v35_1 y78.1).bind fun y107 => if y107 = true then ((clearwaykit_EqualRat_p v35_2 y91.1).bind fun y111 => some y111) else (some false)) else (some false)) else (some false)) else (some false)))))) fun J35 => clearwaylaw24_DynamicsMeans_l119 p0 p4 J35 (y19.1.drop 0)  Raw.zero Raw.zero Raw.zero Raw.zero) = some y) : Go none 0 Tryz.prog (bodyPost Tryz.prog Tryz.f7 (Ret E0 w fun w' v => v = .bool y)) Tryz.f7.ntmps [] w23 ⟨.code (at1 [] Tryz.f7 [1, 1, 1, 1, 1, 1]), at2 [] Tryz.f7 [1, 1, 1, 1, 1, 1], [(1, .int .i64 p1), (2, .int .i64 p2), (3, .int .i64 p3), (4, .int .i64 p4), (5, .pointer (some ⟨b3, 0, none⟩)), (11, .slice u20_0_1 y19.1.length u20_0_2), (13, .int .i64 y22.1)]⟩ := by
 refine zz 3 ?_
 refine zo 0 C23 ?_
 refine zz 1 ?_
 refine zo 0 C23 ?_
 refine zz 1 ?_
 refine zo 0 C23 ?_
 refine zn (fun b => .slice (some ⟨b, 0, none⟩) 3 3) (.cells #[.slice p0a1 p0.height.length p0a2, .slice p0a3 p0.own.length p0a4, .slice p0a5 p0.other.length p0a6] 22 (0, 0)) C23 ?_
 intro b29 w29 Y29 C29 B29 hu29
 refine zz 6 ?_
 refine zn pn (.cells #[.bool false, .slice none 0 0, .slice none 0 0] 28 (0, 0)) C29 ?_
 intro b31 w31 Y31 C31 B31 hu31
 refine zx 0 #[.bool false, .slice none 0 0, .slice none 0 0] C31 ?_
 intro w32 C32 B32
 refine zz 4 ?_
 refine zn pn (.cells #[.bool false, .slice none 0 0, .slice none 0 0, .bool false, .slice none 0 0, .slice none 0 0, .bool false, .slice none 0 0, .slice none 0 0] 64 (0, 0)) C32 ?_
 intro b34 w34 Y34 C34 B34 hu34
 refine zz 2 ?_
 have hob := ltd4 hp
 obtain ⟨J35, hJ35, hp⟩ := hob
 refine zjoin (fun ((v35_0, v35_1, v35_2, v35_3, a35_0_1, a35_0_2, a35_0_3, a35_0_4, a35_1_1, a35_1_2, a35_1_3, a35_1_4, a35_2_1, a35_2_2, a35_2_3, a35_2_4, a35_3_1, a35_3_2, a35_3_3, a35_3_4) : Raw × Raw × Raw × Raw × (Option Addr) × Nat × (Option Addr) × Nat × (Option Addr) × Nat × (Option Addr) × Nat × (Option Addr) × Nat × (Option Addr) × Nat × (Option Addr) × Nat × (Option Addr) × Nat) => [(1, .int .i64 p1), (2, .int .i64 p2), (3, .int .i64 p3), (5, .pointer (some ⟨b3, 0, none⟩)), (13, .int .i64 y22.1), (16, .pointer (some ⟨b31, 0, none⟩)), (17, .pointer (some ⟨b34, 0, none⟩))]) (fun ((v35_0, v35_1, v35_2, v35_3, a35_0_1, a35_0_2, a35_0_3, a35_0_4, a35_1_1, a35_1_2, a35_1_3, a35_1_4, a35_2_1, a35_2_2, a35_2_3, a35_2_4, a35_3_1, a35_3_2, a35_3_3, a35_3_4) : Raw × Raw × Raw × Raw × (Option Addr) × Nat × (Option Addr) × Nat × (Option Addr) × Nat × (Option Addr) × Nat × (Option Addr) × Nat × (Option Addr) × Nat × (Option Addr) × Nat × (Option Addr) × Nat) w1 => ∃ Y1 : Hid, St E0 w X w1 Y1 [(b34, .cells #[.bool v35_0.neg, .slice a35_0_1 v35_0.ln.length a35_0_2, .slice a35_0_3 v35_0.ld.length a35_0_4, .bool v35_1.neg, .slice a35_1_1 v35_1.ln.length a35_1_2, .slice a35_1_3 v35_1.ld.length a35_1_4, .bool v35_2.neg, .slice a35_2_1 v35_2.ln.length a35_2_2, .slice a35_2_3 v35_2.ld.length a35_2_4] 64 (0, 0)), (b31, .cells #[.bool v35_3.neg, .slice a35_3_1 v35_3.ln.length a35_3_2, .slice a35_3_3 v35_3.ld.length a35_3_4] 28 (0, 0)), (b29, .cells #[.slice p0a1 p0.height.length p0a2, .slice p0a3 p0.own.length p0a4, .slice p0a5 p0.other.length p0a6] 22 (0, 0)), (b3, .cells #[.slice p0a1 p0.height.length p0a2, .slice p0a3 p0.own.length p0a4, .slice p0a5 p0.other.length p0a6, .slice p0a7 p0.advisories.length p0a8, .int .i64 p0.pull, .int .i64 p0.near, .int .i64 p0.steps, .slice p0a9 p0.ownNoise.length p0a10, .slice p0a11 p0.otherNoise.length p0a12, .bool p0.alert.neg, .slice p0a13 p0.alert.ln.length p0a14, .slice p0a15 p0.alert.ld.length p0a16, .bool p0.strengthen.neg, .slice p0a17 p0.strengthen.ln.length p0a18, .slice p0a19 p0.strengthen.ld.length p0a20, .bool p0.reversal.neg, .slice p0a21 p0.reversal.ln.length p0a22, .slice p0a23 p0.reversal.ld.length p0a24] 30 (0, 0))] ∧ Le (rd w34 Y34) (rd w1 Y1) ∧ Limbs (rd w1 (orN Y1 w.heap.size)) a35_0_1 v35_0.ln.length a35_0_2 v35_0.ln ∧ Limbs (rd w1 (orN Y1 w.heap.size)) a35_0_3 v35_0.ld.length a35_0_4 v35_0.ld ∧ Limbs (rd w1 (orN Y1 w.heap.size)) a35_1_1 v35_1.ln.length a35_1_2 v35_1.ln ∧ Limbs (rd w1 (orN Y1 w.heap.size)) a35_1_3 v35_1.ld.length a35_1_4 v35_1.ld ∧ Limbs (rd w1 (orN Y1 w.heap.size)) a35_2_1 v35_2.ln.length a35_2_2 v35_2.ln ∧ Limbs (rd w1 (orN Y1 w.heap.size)) a35_2_3 v35_2.ld.length a35_2_4 v35_2.ld ∧ Limbs (rd w1 Y1) a35_3_1 v35_3.ln.length a35_3_2 v35_3.ln ∧ Limbs (rd w1 Y1) a35_3_3 v35_3.ld.length a35_3_4 v35_3.ld ∧ J35 v35_0 v35_1 v35_2 v35_3 = some y) ?_ ?_
 ·
  rintro ⟨v35_0, v35_1, v35_2, v35_3, a35_0_1, a35_0_2, a35_0_3, a35_0_4, a35_1_1, a35_1_2, a35_1_3, a35_1_4, a35_2_1, a35_2_2, a35_2_3, a35_2_4, a35_3_1, a35_3_2, a35_3_3, a35_3_4⟩ w35 ⟨Y35, C35, B35, hfv35_0_0, hfv35_0_1, hfv35_1_0, hfv35_1_1, hfv35_2_0, hfv35_2_1, hfv35_3_0, hfv35_3_1, hp⟩
  have hp := (hJ35 _ _ _ _).symm.trans hp
  have hc15_ := (Le4 B29 B31 B32 B34).trans B35
  have hc16_ := (Le4 B29 B31 B32 B34).trans B35
  have hc17_ := (Le4 B29 B31 B32 B34).trans B35
  have hc18_ := (Le4 B29 B31 B32 B34).trans B35
  have hc19_ := (Le4 B29 B31 B32 B34).trans B35
  have hc20_ := (Le4 B29 B31 B32 B34).trans B35
  have hc21_ := (Le4 B29 B31 B32 B34).trans B35
  have hc22_ := (Le4 B29 B31 B32 B34).trans B35
  have hc23_ := (Le4 B29 B31 B32 B34).trans B35
  have hc24_ := (Le4 B29 B31 B32 B34).trans B35
  have hc25_ := (Le4 B29 B31 B32 B34).trans B35
  have hc26_ := (Le4 B29 B31 B32 B34).trans B35
  have hc27_ := (Le4 B29 B31 B32 B34).trans B35
  have hc28_ := (Le4 B29 B31 B32 B34).trans B35
  refine zN ⟨.code (at1 [] Tryz.f7 [1, 1, 1, 1, 1, 1, 1, 1, 1, 1]), at2 [] Tryz.f7 [1, 1, 1, 1, 1, 1, 1, 1, 1, 1], [(1, .int .i64 p1), (2, .int .i64 p2), (3, .int .i64 p3), (5, .pointer (some ⟨b3, 0, none⟩)), (13, .int .i64 y22.1), (16, .pointer (some ⟨b31, 0, none⟩)), (17, .pointer (some ⟨b34, 0, none⟩))]⟩ ?_
  exact clearwaylaw24_DynamicsMeans_cut36 w X y Y35 a35_0_1 a35_0_2 a35_0_3 a35_0_4 a35_1_1 a35_1_2 a35_1_3 a35_1_4 a35_2_1 a35_2_2 a35_2_3 a35_2_4 a35_3_1 a35_3_2 a35_3_3 a35_3_4 b29 b3 b31 b34 p0 p0a1 p0a10 p0a11 p0a12 p0a13 p0a14 p0a15 p0a16 p0a17 p0a18 p0a19 p0a2 p0a20 p0a21 p0a22 p0a23 p0a24 p0a3 p0a4 p0a5 p0a6 p0a7 p0a8 p0a9 p1 p2 p3 v35_0 v35_1 v35_2 v35_3 w35 y22 C35 hfv35_3_1 hfv35_3_0 (hfv35_2_1.mono (Le.or (Le.refl _) _)) (hfv35_2_0.mono (Le.or (Le.refl _) _)) (hfv35_1_1.mono (Le.or (Le.refl _) _)) (hfv35_1_0.mono (Le.or (Le.refl _) _)) (hfv35_0_1.mono (Le.or (Le.refl _) _)) (hfv35_0_0.mono (Le.or (Le.refl _) _)) (hk27_9.mono hc23_) (hk27_10.mono hc24_) (hk27_12.mono hc26_) (hk27_13.mono hc27_) (hk27_14.mono hc28_) hp
 intro K118 H118
 refine zz 6 ?_
 have hb119 : (y19.1.length : Int) ≤ 9223372036854775807 := lenb ((hk27_1.mono Le.orl)).hcap ((hk27_1.mono Le.orl)).hbig
 refine zlp Tryz.f7 [K118] [1, 1, 1, 1, 1, 1, 1, 1, 1, 9, 1, 0] (fun ((k119, v119_1, v119_2, v119_3, v119_4, a119_1_1, a119_1_2, a119_1_3, a119_1_4, a119_2_1, a119_2_2, a119_2_3, a119_2_4, a119_3_1, a119_3_2, a119_3_3, a119_3_4, a119_4_1, a119_4_2, a119_4_3, a119_4_4) : Nat × Raw × Raw × Raw × Raw × (Option Addr) × Nat × (Option Addr) × Nat × (Option Addr) × Nat × (Option Addr) × Nat × (Option Addr) × Nat × (Option Addr) × Nat × (Option Addr) × Nat × (Option Addr) × Nat) => [(1, .int .i64 p1), (2, .int .i64 p2), (3, .int .i64 p3), (4, .int .i64 p4), (5, .pointer (some ⟨b3, 0, none⟩)), (11, .slice u20_0_1 y19.1.length u20_0_2), (13, .int .i64 y22.1), (15, .slice (some ⟨b29, 0, none⟩) 3 3), (16, .pointer (some ⟨b31, 0, none⟩)), (17, .pointer (some ⟨b34, 0, none⟩)), (18, .int .i64 (k119 : Int))]) (fun ((k119, v119_1, v119_2, v119_3, v119_4, a119_1_1, a119_1_2, a119_1_3, a119_1_4, a119_2_1, a119_2_2, a119_2_3, a119_2_4, a119_3_1, a119_3_2, a119_3_3, a119_3_4, a119_4_1, a119_4_2, a119_4_3, a119_4_4) : Nat × Raw × Raw × Raw × Raw × (Option Addr) × Nat × (Option Addr) × Nat × (Option Addr) × Nat × (Option Addr) × Nat × (Option Addr) × Nat × (Option Addr) × Nat × (Option Addr) × Nat × (Option Addr) × Nat) w1 => ∃ Y1 : Hid, St E0 w X w1 Y1 [(b34, .cells #[.bool v119_1.neg, .slice a119_1_1 v119_1.ln.length a119_1_2, .slice a119_1_3 v119_1.ld.length a119_1_4, .bool v119_2.neg, .slice a119_2_1 v119_2.ln.length a119_2_2, .slice a119_2_3 v119_2.ld.length a119_2_4, .bool v119_3.neg, .slice a119_3_1 v119_3.ln.length a119_3_2, .slice a119_3_3 v119_3.ld.length a119_3_4] 64 (0, 0)), (b31, .cells #[.bool v119_4.neg, .slice a119_4_1 v119_4.ln.length a119_4_2, .slice a119_4_3 v119_4.ld.length a119_4_4] 28 (0, 0)), (b29, .cells #[.slice p0a1 p0.height.length p0a2, .slice p0a3 p0.own.length p0a4, .slice p0a5 p0.other.length p0a6] 22 (0, 0)), (b3, .cells #[.slice p0a1 p0.height.length p0a2, .slice p0a3 p0.own.length p0a4, .slice p0a5 p0.other.length p0a6, .slice p0a7 p0.advisories.length p0a8, .int .i64 p0.pull, .int .i64 p0.near, .int .i64 p0.steps, .slice p0a9 p0.ownNoise.length p0a10, .slice p0a11 p0.otherNoise.length p0a12, .bool p0.alert.neg, .slice p0a13 p0.alert.ln.length p0a14, .slice p0a15 p0.alert.ld.length p0a16, .bool p0.strengthen.neg, .slice p0a17 p0.strengthen.ln.length p0a18, .slice p0a19 p0.strengthen.ld.length p0a20, .bool p0.reversal.neg, .slice p0a21 p0.reversal.ln.length p0a22, .slice p0a23 p0.reversal.ld.length p0a24] 30 (0, 0))] ∧ Le (rd w34 Y34) (rd w1 Y1) ∧ Limbs (rd w1 (orN Y1 w.heap.size)) a119_1_1 v119_1.ln.length a119_1_2 v119_1.ln ∧ Limbs (rd w1 (orN Y1 w.heap.size)) a119_1_3 v119_1.ld.length a119_1_4 v119_1.ld ∧ Limbs (rd w1 (orN Y1 w.heap.size)) a119_2_1 v119_2.ln.length a119_2_2 v119_2.ln ∧ Limbs (rd w1 (orN Y1 w.heap.size)) a119_2_3 v119_2.ld.length a119_2_4 v119_2.ld ∧ Limbs (rd w1 (orN Y1 w.heap.size)) a119_3_1 v119_3.ln.length a119_3_2 v119_3.ln ∧ Limbs (rd w1 (orN Y1 w.heap.size)) a119_3_3 v119_3.ld.length a119_3_4 v119_3.ld ∧ Limbs (rd w1 Y1) a119_4_1 v119_4.ln.length a119_4_2 v119_4.ln ∧ Limbs (rd w1 Y1) a119_4_3 v119_4.ld.length a119_4_4 v119_4.ld ∧ clearwaylaw24_DynamicsMeans_l119 p0 p4 J35 (y19.1.drop k119)  v119_1 v119_2 v119_3 v119_4 = some y) (fun ((k119, v119_1, v119_2, v119_3, v119_4, a119_1_1, a119_1_2, a119_1_3, a119_1_4, a119_2_1, a119_2_2, a119_2_3, a119_2_4, a119_3_1, a119_3_2, a119_3_3, a119_3_4, a119_4_1, a119_4_2, a119_4_3, a119_4_4) : Nat × Raw × Raw × Raw × Raw × (Option Addr) × Nat × (Option Addr) × Nat × (Option Addr) × Nat × (Option Addr) × Nat × (Option Addr) × Nat × (Option Addr) × Nat × (Option Addr) × Nat × (Option Addr) × Nat) => y19.1.length - k119) (0, Raw.zero, Raw.zero, Raw.zero, Raw.zero, none, 0, none, 0, none, 0, none, 0, none, 0, none, 0, none, 0, none, 0) ?_ ?_
 ·
  exact ⟨_, C34, Le.refl _, Limbs.nil0, Limbs.nil0, Limbs.nil0, Limbs.nil0, Limbs.nil0, Limbs.nil0, Limbs.nil0, Limbs.nil0, hp⟩
 rintro ⟨k119, v119_1, v119_2, v119_3, v119_4, a119_1_1, a119_1_2, a119_1_3, a119_1_4, a119_2_1, a119_2_2, a119_2_3, a119_2_4, a119_3_1, a119_3_2, a119_3_3, a119_3_4, a119_4_1, a119_4_2, a119_4_3, a119_4_4⟩ w119 K119 H119 ⟨Y119, C119, B119, hfv119_1_0, hfv119_1_1, hfv119_2_0, hfv119_2_1, hfv119_3_0, hfv119_3_1, hfv119_4_0, hfv119_4_1, hp⟩
 refine zz 9 ?_
 refine zt 79 (p := (k119 : Int) < (y19.1.length : Int)) (fun ht120 => ?_) (fun ht120 => ?_)
 ·
  have hob := get_lt (l := y19.1) (k := k119) (lt_of_int ht120)
  obtain ⟨x119, hqx119⟩ := hob
  rw [dropC hqx119, clearwaylaw24_DynamicsMeans_l119] at hp
  have hzx119 : (0 : Int) ≤ (k119 : Int) := Int.natCast_nonneg _
  refine zz 3 ?_
  have hob := ltd4 hp
  obtain ⟨J121, hJ121, hp⟩ := hob
  refine zjoin (fun ((v121_0, v121_1, v121_2, v121_3, a121_0_1, a121_0_2, a121_0_3, a121_0_4, a121_1_1, a121_1_2, a121_1_3, a121_1_4, a121_2_1, a121_2_2, a121_2_3, a121_2_4, a121_3_1, a121_3_2, a121_3_3, a121_3_4) : Raw × Raw × Raw × Raw × (Option Addr) × Nat × (Option Addr) × Nat × (Option Addr) × Nat × (Option Addr) × Nat × (Option Addr) × Nat × (Option Addr) × Nat × (Option Addr) × Nat × (Option Addr) × Nat) => [(1, .int .i64 p1), (2, .int .i64 p2), (3, .int .i64 p3), (4, .int .i64 p4), (5, .pointer (some ⟨b3, 0, none⟩)), (11, .slice u20_0_1 y19.1.length u20_0_2), (13, .int .i64 y22.1), (15, .slice (some ⟨b29, 0, none⟩) 3 3), (16, .pointer (some ⟨b31, 0, none⟩)), (17, .pointer (some ⟨b34, 0, none⟩)), (18, .int .i64 (k119 : Int))]) (fun ((v121_0, v121_1, v121_2, v121_3, a121_0_1, a121_0_2, a121_0_3, a121_0_4, a121_1_1, a121_1_2, a121_1_3, a121_1_4, a121_2_1, a121_2_2, a121_2_3, a121_2_4, a121_3_1, a121_3_2, a121_3_3, a121_3_4) : Raw × Raw × Raw × Raw × (Option Addr) × Nat × (Option Addr) × Nat × (Option Addr) × Nat × (Option Addr) × Nat × (Option Addr) × Nat × (Option Addr) × Nat × (Option Addr) × Nat × (Option Addr) × Nat) w1 => ∃ Y1 : Hid, St E0 w X w1 Y1 [(b34, .cells #[.bool v121_0.neg, .slice a121_0_1 v121_0.ln.length a121_0_2, .slice a121_0_3 v121_0.ld.length a121_0_4, .bool v121_1.neg, .slice a121_1_1 v121_1.ln.length a121_1_2, .slice a121_1_3 v121_1.ld.length a121_1_4, .bool v121_2.neg, .slice a121_2_1 v121_2.ln.length a121_2_2, .slice a121_2_3 v121_2.ld.length a121_2_4] 64 (0, 0)), (b31, .cells #[.bool v121_3.neg, .slice a121_3_1 v121_3.ln.length a121_3_2, .slice a121_3_3 v121_3.ld.length a121_3_4] 28 (0, 0)), (b29, .cells #[.slice p0a1 p0.height.length p0a2, .slice p0a3 p0.own.length p0a4, .slice p0a5 p0.other.length p0a6] 22 (0, 0)), (b3, .cells #[.slice p0a1 p0.height.length p0a2, .slice p0a3 p0.own.length p0a4, .slice p0a5 p0.other.length p0a6, .slice p0a7 p0.advisories.length p0a8, .int .i64 p0.pull, .int .i64 p0.near, .int .i64 p0.steps, .slice p0a9 p0.ownNoise.length p0a10, .slice p0a11 p0.otherNoise.length p0a12, .bool p0.alert.neg, .slice p0a13 p0.alert.ln.length p0a14, .slice p0a15 p0.alert.ld.length p0a16, .bool p0.strengthen.neg, .slice p0a17 p0.strengthen.ln.length p0a18, .slice p0a19 p0.strengthen.ld.length p0a20, .bool p0.reversal.neg, .slice p0a21 p0.reversal.ln.length p0a22, .slice p0a23 p0.reversal.ld.length p0a24] 30 (0, 0))] ∧ Le (rd w119 Y119) (rd w1 Y1) ∧ Limbs (rd w1 (orN Y1 w.heap.size)) a121_0_1 v121_0.ln.length a121_0_2 v121_0.ln ∧ Limbs (rd w1 (orN Y1 w.heap.size)) a121_0_3 v121_0.ld.length a121_0_4 v121_0.ld ∧ Limbs (rd w1 (orN Y1 w.heap.size)) a121_1_1 v121_1.ln.length a121_1_2 v121_1.ln ∧ Limbs (rd w1 (orN Y1 w.heap.size)) a121_1_3 v121_1.ld.length a121_1_4 v121_1.ld ∧ Limbs (rd w1 (orN Y1 w.heap.size)) a121_2_1 v121_2.ln.length a121_2_2 v121_2.ln ∧ Limbs (rd w1 (orN Y1 w.heap.size)) a121_2_3 v121_2.ld.length a121_2_4 v121_2.ld ∧ Limbs (rd w1 Y1) a121_3_1 v121_3.ln.length a121_3_2 v121_3.ln ∧ Limbs (rd w1 Y1) a121_3_3 v121_3.ld.length a121_3_4 v121_3.ld ∧ J121 v121_0 v121_1 v121_2 v121_3 = some y) ?_ ?_
  ·
   rintro ⟨v121_0, v121_1, v121_2, v121_3, a121_0_1, a121_0_2, a121_0_3, a121_0_4, a121_1_1, a121_1_2, a121_1_3, a121_1_4, a121_2_1, a121_2_2, a121_2_3, a121_2_4, a121_3_1, a121_3_2, a121_3_3, a121_3_4⟩ w121 ⟨Y121, C121, B121, hfv121_0_0, hfv121_0_1, hfv121_1_0, hfv121_1_1, hfv121_2_0, hfv121_2_1, hfv121_3_0, hfv121_3_1, hp⟩
   have hp := (hJ121 _ _ _ _).symm.trans hp
   refine zz 3 ?_
   refine zs 81 (v := .int .i64 (IntKind.i64.wrap ((k119 : Int) + 1))) (v' := .int .i64 ((k119 : Int) + 1)) (vint (wi64 (wk0 k119) (wk1 ht120 hb119))) ?_
   refine zz 2 ?_
   refine znext (fun a h => H119 (k119 + 1, v121_0, v121_1, v121_2, v121_3, a121_0_1, a121_0_2, a121_0_3, a121_0_4, a121_1_1, a121_1_2, a121_1_3, a121_1_4, a121_2_1, a121_2_2, a121_2_3, a121_2_4, a121_3_1, a121_3_2, a121_3_3, a121_3_4) _ a h ⟨_, C121, (Le2 B119 B121), (hfv121_0_0.mono (Le.or (Le.refl _) _)), (hfv121_0_1.mono (Le.or (Le.refl _) _)), (hfv121_1_0.mono (Le.or (Le.refl _) _)), (hfv121_1_1.mono (Le.or (Le.refl _) _)), (hfv121_2_0.mono (Le.or (Le.refl _) _)), (hfv121_2_1.mono (Le.or (Le.refl _) _)), hfv121_3_0, hfv121_3_1, hp⟩ ?_)
   exact mu_lt ht120
  intro K122 H122
  refine zz 2 ?_
  refine zdr C119 ?_
  refine gw 0 3 ?_
  have hob := (hk27_1.mono Le.orl).opn hqx119
  obtain ⟨be123, oe123, rfl, B123, hEe123⟩ := hob
  obtain ⟨e1231, e1232, e1233, e1234, e1235, e1236, e123_at, e123_h0, e123_h1⟩ := hEe123
  have hob := e123_h0.hlen
  subst hob
  have hob := e123_h1.hlen
  subst hob
  refine gz [1, 2] ?_
  refine gi 3 (b := be123) (off := oe123) (len := y19.1.length) (cap := u20_0_2) (kd := .i64) (i := (k119 : Int)) 4 (oe123 + k119 * 4) ?_ (h0 := hzx119) (h1 := (ix_b hzx119 B123))
  have hc149_ := (Le4 B29 B31 B32 B34).trans B119
  refine gz [4] ?_
  refine gl 5 ((e123_at.mono hc149_).sub 0 1) ?_
  have hc150_ := (Le4 B29 B31 B32 B34).trans B119
  refine bndk hp fun y125 hy125 hp => ?_
  refine gC 6 (fun w124 Y124 _ C124 B124 => (dynamics_Split_c _ X0 (X0_lt _) p0 _ ((hk27_2.mono (hc150_.trans B124)).mono Le.x0) (x119.to) y125 hy125)) ?_
  rintro v126 w124 Y126 w126 C124 B126 rfl
  refine gz [7, 8, 9, 10, 11, 12, 13] ?_
  refine gend (fun w127 Y127 C127 B127 => ?_)
  refine zz 5 ?_
  have hc151_ := (hc150_.trans B126).trans B127
  refine bndk hp fun y129 hy129 hp => ?_
  refine zc C127 (interp_Point_c _ X0 (X0_lt _) ([p0.height, p0.own, p0.other]) _ ⟨_, _, rfl, (SlR.lit (El := IntsAt) (size := 1) (n := 3) [⟨p0.height, [.slice p0a1 p0.height.length p0a2]⟩, ⟨p0.own, [.slice p0a3 p0.own.length p0a4]⟩, ⟨p0.other, [.slice p0a5 p0.other.length p0a6]⟩] (C127.at0 2 rfl rfl) (List.forall_mem_cons.2 ⟨⟨rfl, fun r2 h2 b o h9 => ⟨_, _, h9, (((hk27_14.mono hc151_).mono Le.x0).mono h2)⟩⟩, (List.forall_mem_cons.2 ⟨⟨rfl, fun r2 h2 b o h9 => ⟨_, _, h9, (((hk27_13.mono hc151_).mono Le.x0).mono h2)⟩⟩, (List.forall_mem_cons.2 ⟨⟨rfl, fun r2 h2 b o h9 => ⟨_, _, h9, (((hk27_12.mono hc151_).mono Le.x0).mono h2)⟩⟩, (List.forall_mem_nil _)⟩)⟩)⟩) rfl (by decide))⟩ (y125.1) y129 hy129) ?_ (vs := #[.slice (some ⟨b29, 0, none⟩) 3 3, .int .i64 y125.1])
  rintro v130 w130 C130 B130 hu130 ⟨uu130_0, rfl, ⟨u130_0_1, u130_0_2, rfl, u130_0__h0⟩⟩
  refine zz 13 ?_
  refine zb 101 (b := ((y125.2.2) != 0)) (fun hc131 => ?_) (fun hc131 => ?_)
  ·
   have hp := ipb hc131 hp
   refine zz 28 ?_
   refine zr' (v := .bool false) ?_
   have hob := Option.some.inj hp
   subst hob
   exact ⟨C130.upd, _, rfl, rfl⟩
  have hp := iqb hc131 hp
  refine zz 5 ?_
  refine zb 106 (b := ((y125.2.1) != p4)) (fun hc132 => ?_) (fun hc132 => ?_)
  ·
   have hp := ipb hc132 hp
   refine zz 23 ?_
   refine zr' (v := .bool false) ?_
   have hob := Option.some.inj hp
   subst hob
   exact ⟨C130.upd, _, rfl, rfl⟩
  have hp := iqb hc132 hp
  refine zz 4 ?_
  refine zb 110 (b := ((y129.2) != 0)) (fun hc133 => ?_) (fun hc133 => ?_)
  ·
   have hp := ipb hc133 hp
   refine zz 19 ?_
   refine zr' (v := .bool false) ?_
   have hob := Option.some.inj hp
   subst hob
   exact ⟨C130.upd, _, rfl, rfl⟩
  have hp := iqb hc133 hp
  refine zz 6 ?_
  refine zb 114 (b := ((y129.1.length : Int) != 3)) (fun hc134 => ?_) (fun hc134 => ?_)
  ·
   have hp := ipb hc134 hp
   refine zz 13 ?_
   refine zr' (v := .bool false) ?_
   have hob := Option.some.inj hp
   subst hob
   exact ⟨C130.upd, _, rfl, rfl⟩
  have hp := iqb hc134 hp
  refine zz 4 ?_
  refine zdr C130 ?_
  refine gw 0 1 ?_
  refine gz [1, 2] ?_
  refine gi 3 (b := be123) (off := oe123) (len := y19.1.length) (cap := u20_0_2) (kd := .i64) (i := (k119 : Int)) 4 (oe123 + k119 * 4) ?_ (h0 := hzx119) (h1 := (ix_b hzx119 B123))
  have hc152_ := hc151_.trans B130
  refine gz [4] ?_
  refine gl 5 ((e123_at.mono hc152_).sub 1 3) ?_
  have hc153_ := (Le2 B126 B127).trans B130
  have hc154_ := hc151_.trans B130
  refine bndk hp fun y136 hy136 hp => ?_
  refine gC 6 (fun w135 Y135 _ C135 B135 => (rat_Add_c _ X0 (X0_lt _) v119_4 _ ⟨_, _, _, _, _, _, rfl, ((hfv119_4_0.mono (hc153_.trans B135)).mono Le.x0), ((hfv119_4_1.mono (hc153_.trans B135)).mono Le.x0)⟩ x119.p _ ⟨_, _, _, _, _, _, rfl, ((e123_h0.mono (hc154_.trans B135)).mono Le.x0), ((e123_h1.mono (hc154_.trans B135)).mono Le.x0)⟩ y136 hy136)) ?_
  rintro v137 w135 Y137 w137 C135 B137 ⟨uu137_0, rfl, ⟨u137_0_1, u137_0_2, u137_0_3, u137_0_4, u137_0_5, u137_0_6, rfl, u137_0__h0, u137_0__h1⟩⟩
  have hob := u137_0__h0.hlen
  subst hob
  have hob := u137_0__h1.hlen
  subst hob
  refine gz [7, 8, 9] ?_
  refine gX 10 1 #[.bool y136.1.neg, .slice u137_0_1 y136.1.ln.length u137_0_3, .slice u137_0_4 y136.1.ld.length u137_0_6] ?_
  intro w138 Y138 B138
  refine gz [11] ?_
  refine gend (fun w139 Y139 C139 B139 => ?_)
  refine zz 8 ?_
  refine zb 126 (b := ((y136.2) != 0)) (fun hc140 => ?_) (fun hc140 => ?_)
  ·
   have hp := ipb hc140 hp
   refine zz 13 ?_
   refine zr' (v := .bool false) ?_
   have hob := Option.some.inj hp
   subst hob
   exact ⟨C139.upd, _, rfl, rfl⟩
  have hp := iqb hc140 hp
  refine zz 9 ?_
  refine zunr 3 (fun Kf141 hKf141 => ?_)
  refine zz 13 ?_
  refine zdr C139 ?_
  refine gz [0, 1] ?_
  refine gi 2 (b := be123) (off := oe123) (len := y19.1.length) (cap := u20_0_2) (kd := .i64) (i := (k119 : Int)) 4 (oe123 + k119 * 4) ?_ (h0 := hzx119) (h1 := (ix_b hzx119 B123))
  have hc155_ := ((hc154_.trans B137).trans B138).trans B139
  refine gz [3] ?_
  refine gl 4 ((e123_at.mono hc155_).sub 1 3) ?_
  refine bndk hp fun x142 hx142 hp => ?_
  have hob := ix_some hx142
  obtain ⟨hzx142, hqx142⟩ := hob
  have hwx142 : y129.1[0]? = some x142 := hqx142
  have hob := (u130_0__h0.mono (Le.new C127.lt)).opn hwx142
  obtain ⟨be143, oe143, rfl, B143, hEe143⟩ := hob
  have hAe143 : At (rd w130 Y127) ⟨be143, oe143 + 0 * 1, none⟩ [.int .i64 x142] := hEe143
  refine gz [5, 6] ?_
  refine gi 7 (b := be143) (off := oe143) (len := y129.1.length) (cap := u130_0_2) (kd := .i64) (i := 0) 1 (oe143 + 0 * 1) ?_ (h0 := hzx142) (h1 := (ix_b hzx142 B143))
  refine gl 8 ((hAe143.mono (Le3 B137 B138 B139))) ?_
  refine gp (al 14 25 pn (.cells #[.bool false, .slice none 0 0, .slice none 0 0] 28 (0, 0))) ?_
  refine bndk hp fun y145 hy145 hp => ?_
  refine gC 9 (fun w144 Y144 _ C144 B144 => (rat_From_c _ X0 (X0_lt _) (x142) y145 hy145)) ?_ (hPd := PdOk.nil.k)
  rintro v146 w144 Y146 w146 C144 B146 ⟨u146_0_1, u146_0_2, u146_0_3, u146_0_4, u146_0_5, u146_0_6, rfl, u146_0__h0, u146_0__h1⟩
  have hob := u146_0__h0.hlen
  subst hob
  have hob := u146_0__h1.hlen
  subst hob
  have hc156_ := (((hc154_.trans B137).trans B138).trans B139).trans B146
  refine bndk hp fun y148 hy148 hp => ?_
  refine gC 10 (fun w147 Y147 _ C147 B147 => (rat_Mul_c _ X0 (X0_lt _) x119.p _ ⟨_, _, _, _, _, _, rfl, ((e123_h0.mono (hc156_.trans B147)).mono Le.x0), ((e123_h1.mono (hc156_.trans B147)).mono Le.x0)⟩ y145 _ ⟨_, _, _, _, _, _, rfl, (((u146_0__h0.mono (Le.new C144.lt)).mono B147).mono Le.x0), (((u146_0__h1.mono (Le.new C144.lt)).mono B147).mono Le.x0)⟩ y148 hy148)) ?_ (hPd := PdOk.nil.k)
  rintro v149 w147 Y149 w149 C147 B149 ⟨uu149_0, rfl, ⟨u149_0_1, u149_0_2, u149_0_3, u149_0_4, u149_0_5, u149_0_6, rfl, u149_0__h0, u149_0__h1⟩⟩
  have hob := u149_0__h0.hlen
  subst hob
  have hob := u149_0__h1.hlen
  subst hob
  refine gz [11, 12, 13] ?_
  refine gs1 (fun b150 => ?_) PdOk.nil.k
  refine gX 15 0 #[.bool y148.1.neg, .slice u149_0_1 y148.1.ln.length u149_0_3, .slice u149_0_4 y148.1.ld.length u149_0_6] ?_
  intro w151 Y151 B151
  refine gz [16] ?_
  refine gend (fun w152 Y152 C152 B152 => ?_)
  refine zz 8 ?_
  refine zb 146 (b := ((y148.2) != 0)) (fun hc153 => ?_) (fun hc153 => ?_)
  ·
   have hp := ipb hc153 hp
   refine zz 17 ?_
   refine zr' (v := .bool false) ?_
   have hob := Option.some.inj hp
   subst hob
   exact ⟨C152.upd, _, rfl, rfl⟩
  have hp := iqb hc153 hp
  refine zz 4 ?_
  refine zN ⟨.code (at1 [K118, K119, K122, (Kf141 3)] Tryz.f7 [1, 1, 1, 1, 1, 1, 1, 1, 1, 9, 1, 0, 0, 1, 9, 0, 1, 1, 1, 1, 1, 1, 0, 0, 1, 0, 0, 1, 1, 0]), at2 [K118, K119, K122, (Kf141 3)] Tryz.f7 [1, 1, 1, 1, 1, 1, 1, 1, 1, 9, 1, 0, 0, 1, 9, 0, 1, 1, 1, 1, 1, 1, 0, 0, 1, 0, 0, 1, 1, 0], [(1, .int .i64 p1), (2, .int .i64 p2), (3, .int .i64 p3), (4, .int .i64 p4), (5, .pointer (some ⟨b3, 0, none⟩)), (11, .slice (some ⟨be123, oe123, none⟩) y19.1.length u20_0_2), (13, .int .i64 y22.1), (15, .slice (some ⟨b29, 0, none⟩) 3 3), (16, .pointer (some ⟨b31, 0, none⟩)), (17, .pointer (some ⟨b34, 0, none⟩)), (18, .int .i64 (k119 : Int)), (22, .slice (some ⟨be143, oe143, none⟩) y129.1.length u130_0_2), (24, .int .i64 0), (25, .pointer (some ⟨b150, 0, none⟩))]⟩ ?_
  refine zdr C152 ?_
  refine gz [0, 1] ?_
  refine gH (v := .pointer (some ⟨b34, 0, none⟩)) 2 (fun w => run_indexArr (e := 28) (nn := 3) (b := b34) (off := 0) (kd := .i64) (i := 0) (g := true) (m := 3) (off' := 0) rfl kr kr kr kr (by decide) (by decide) (by decide)) ?_
  refine gw 3 1 ?_
  refine gw 4 0 ?_
  have hc157_ := ((((((hc153_.trans B137).trans B138).trans B139).trans B146).trans B149).trans B151).trans B152
  refine bndk hp fun y155 hy155 hp => ?_
  refine gC 5 (fun w154 Y154 _ C154 B154 => (rat_Add_c _ X0 (X0_lt _) v119_1 _ ⟨_, _, _, _, _, _, rfl, (((hfv119_1_0.mono Le.orl).mono (hc157_.trans B154)).mono Le.x0), (((hfv119_1_1.mono Le.orl).mono (hc157_.trans B154)).mono Le.x0)⟩ y148.1 _ ⟨_, _, _, _, _, _, rfl, (((u149_0__h0.mono (Le.new C147.lt)).mono (Le3 B151 B152 B154)).mono Le.x0), (((u149_0__h1.mono (Le.new C147.lt)).mono (Le3 B151 B152 B154)).mono Le.x0)⟩ y155 hy155)) ?_
  rintro v156 w154 Y156 w156 C154 B156 ⟨uu156_0, rfl, ⟨u156_0_1, u156_0_2, u156_0_3, u156_0_4, u156_0_5, u156_0_6, rfl, u156_0__h0, u156_0__h1⟩⟩
  have hob := u156_0__h0.hlen
  subst hob
  have hob := u156_0__h1.hlen
  subst hob
  refine gz [6, 7, 8] ?_
  refine gH (v := .pointer (some ⟨b34, 0, none⟩)) 9 (fun w => run_indexArr (e := 28) (nn := 3) (b := b34) (off := 0) (kd := .i64) (i := 0) (g := true) (m := 3) (off' := 0) rfl kr kr kr kr (by decide) (by decide) (by decide)) ?_
  refine gX 10 1 #[.bool y155.1.neg, .slice u156_0_1 y155.1.ln.length u156_0_3, .slice u156_0_4 y155.1.ld.length u156_0_6, .bool v119_2.neg, .slice a119_2_1 v119_2.ln.length a119_2_2, .slice a119_2_3 v119_2.ld.length a119_2_4, .bool v119_3.neg, .slice a119_3_1 v119_3.ln.length a119_3_2, .slice a119_3_3 v119_3.ld.length a119_3_4] ?_
  intro w157 Y157 B157
  refine gz [11] ?_
  refine gend (fun w158 Y158 C158 B158 => ?_)
  refine zz 7 ?_
  refine zb 158 (b := ((y155.2) != 0)) (fun hc159 => ?_) (fun hc159 => ?_)
  ·
   have hp := ipb hc159 hp
   refine zz 16 ?_
   refine zr' (v := .bool false) ?_
   have hob := Option.some.inj hp
   subst hob
   exact ⟨C158.upd, _, rfl, rfl⟩
  have hp := iqb hc159 hp
  refine zz 9 ?_
  refine zunr1 hKf141 2 [1, 2, 3, 4, 5, 11, 13, 15, 16, 17, 18, 22, 24] ?_
  refine zz 13 ?_
  refine zdr C158 ?_
  refine gz [0, 1] ?_
  refine gi 2 (b := be123) (off := oe123) (len := y19.1.length) (cap := u20_0_2) (kd := .i64) (i := (k119 : Int)) 4 (oe123 + k119 * 4) ?_ (h0 := hzx119) (h1 := (ix_b hzx119 B123))
  have hc158_ := (((((hc156_.trans B149).trans B151).trans B152).trans B156).trans B157).trans B158
  refine gz [3] ?_
  refine gl 4 ((e123_at.mono hc158_).sub 1 3) ?_
  refine bndk hp fun x160 hx160 hp => ?_
  have hob := ix_some hx160
  obtain ⟨hzx160, hqx160⟩ := hob
  have hwx160 : y129.1[1]? = some x160 := hqx160
  have hob := (u130_0__h0.mono (Le.new C127.lt)).opn2 hwx160
  obtain ⟨B161, hEe161⟩ := hob
  have hAe161 : At (rd w130 Y127) ⟨be143, oe143 + 1 * 1, none⟩ [.int .i64 x160] := hEe161
  refine gz [5, 6] ?_
  refine gi 7 (b := be143) (off := oe143) (len := y129.1.length) (cap := u130_0_2) (kd := .i64) (i := 1) 1 (oe143 + 1 * 1) ?_ (h0 := hzx160) (h1 := (ix_b hzx160 B161))
  have hc159_ := (Le9 B137 B138 B139 B146 B149 B151 B152 B156 B157).trans B158
  refine gl 8 ((hAe161.mono hc159_)) ?_
  refine gp (al 14 25 pn (.cells #[.bool false, .slice none 0 0, .slice none 0 0] 28 (0, 0))) ?_
  refine bndk hp fun y163 hy163 hp => ?_
  refine gC 9 (fun w162 Y162 _ C162 B162 => (rat_From_c _ X0 (X0_lt _) (x160) y163 hy163)) ?_ (hPd := PdOk.nil.k)
  rintro v164 w162 Y164 w164 C162 B164 ⟨u164_0_1, u164_0_2, u164_0_3, u164_0_4, u164_0_5, u164_0_6, rfl, u164_0__h0, u164_0__h1⟩
  have hob := u164_0__h0.hlen
  subst hob
  have hob := u164_0__h1.hlen
  subst hob
  have hc160_ := ((((((hc156_.trans B149).trans B151).trans B152).trans B156).trans B157).trans B158).trans B164
  refine bndk hp fun y166 hy166 hp => ?_
  refine gC 10 (fun w165 Y165 _ C165 B165 => (rat_Mul_c _ X0 (X0_lt _) x119.p _ ⟨_, _, _, _, _, _, rfl, ((e123_h0.mono (hc160_.trans B165)).mono Le.x0), ((e123_h1.mono (hc160_.trans B165)).mono Le.x0)⟩ y163 _ ⟨_, _, _, _, _, _, rfl, (((u164_0__h0.mono (Le.new C162.lt)).mono B165).mono Le.x0), (((u164_0__h1.mono (Le.new C162.lt)).mono B165).mono Le.x0)⟩ y166 hy166)) ?_ (hPd := PdOk.nil.k)
  rintro v167 w165 Y167 w167 C165 B167 ⟨uu167_0, rfl, ⟨u167_0_1, u167_0_2, u167_0_3, u167_0_4, u167_0_5, u167_0_6, rfl, u167_0__h0, u167_0__h1⟩⟩
  have hob := u167_0__h0.hlen
  subst hob
  have hob := u167_0__h1.hlen
  subst hob
  refine gz [11, 12, 13] ?_
  refine gs1 (fun b168 => ?_) PdOk.nil.k
  refine gX 15 0 #[.bool y166.1.neg, .slice u167_0_1 y166.1.ln.length u167_0_3, .slice u167_0_4 y166.1.ld.length u167_0_6] ?_
  intro w169 Y169 B169
  refine gz [16] ?_
  refine gend (fun w170 Y170 C170 B170 => ?_)
  refine zz 8 ?_
  refine zb 146 (b := ((y166.2) != 0)) (fun hc171 => ?_) (fun hc171 => ?_)
  ·
   have hp := ipb hc171 hp
   refine zz 17 ?_
   refine zr' (v := .bool false) ?_
   have hob := Option.some.inj hp
   subst hob
   exact ⟨C170.upd, _, rfl, rfl⟩
  have hp := iqb hc171 hp
  refine zz 4 ?_
  refine zN ⟨.code (at1 [K118, K119, K122, (Kf141 2)] Tryz.f7 [1, 1, 1, 1, 1, 1, 1, 1, 1, 9, 1, 0, 0, 1, 9, 0, 1, 1, 1, 1, 1, 1, 0, 0, 1, 0, 0, 1, 1, 0]), at2 [K118, K119, K122, (Kf141 2)] Tryz.f7 [1, 1, 1, 1, 1, 1, 1, 1, 1, 9, 1, 0, 0, 1, 9, 0, 1, 1, 1, 1, 1, 1, 0, 0, 1, 0, 0, 1, 1, 0], [(1, .int .i64 p1), (2, .int .i64 p2), (3, .int .i64 p3), (4, .int .i64 p4), (5, .pointer (some ⟨b3, 0, none⟩)), (11, .slice (some ⟨be123, oe123, none⟩) y19.1.length u20_0_2), (13, .int .i64 y22.1), (15, .slice (some ⟨b29, 0, none⟩) 3 3), (16, .pointer (some ⟨b31, 0, none⟩)), (17, .pointer (some ⟨b34, 0, none⟩)), (18, .int .i64 (k119 : Int)), (22, .slice (some ⟨be143, oe143, none⟩) y129.1.length u130_0_2), (24, .int .i64 1), (25, .pointer (some ⟨b168, 0, none⟩))]⟩ ?_
  refine zdr C170 ?_
  refine gz [0, 1] ?_
  refine gH (v := .pointer (some ⟨b34, 3, none⟩)) 2 (fun w => run_indexArr (e := 28) (nn := 3) (b := b34) (off := 0) (kd := .i64) (i := 1) (g := true) (m := 3) (off' := 3) rfl kr kr kr kr (by decide) (by decide) (by decide)) ?_
  refine gw 3 2 ?_
  refine gw 4 0 ?_
  have hc161_ := ((((((hc157_.trans B156).trans B157).trans B158).trans B164).trans B167).trans B169).trans B170
  refine bndk hp fun y173 hy173 hp => ?_
  refine gC 5 (fun w172 Y172 _ C172 B172 => (rat_Add_c _ X0 (X0_lt _) v119_2 _ ⟨_, _, _, _, _, _, rfl, (((hfv119_2_0.mono Le.orl).mono (hc161_.trans B172)).mono Le.x0), (((hfv119_2_1.mono Le.orl).mono (hc161_.trans B172)).mono Le.x0)⟩ y166.1 _ ⟨_, _, _, _, _, _, rfl, (((u167_0__h0.mono (Le.new C165.lt)).mono (Le3 B169 B170 B172)).mono Le.x0), (((u167_0__h1.mono (Le.new C165.lt)).mono (Le3 B169 B170 B172)).mono Le.x0)⟩ y173 hy173)) ?_
  rintro v174 w172 Y174 w174 C172 B174 ⟨uu174_0, rfl, ⟨u174_0_1, u174_0_2, u174_0_3, u174_0_4, u174_0_5, u174_0_6, rfl, u174_0__h0, u174_0__h1⟩⟩
  have hob := u174_0__h0.hlen
  subst hob
  have hob := u174_0__h1.hlen
  subst hob
  refine gz [6, 7, 8] ?_
  refine gH (v := .pointer (some ⟨b34, 3, none⟩)) 9 (fun w => run_indexArr (e := 28) (nn := 3) (b := b34) (off := 0) (kd := .i64) (i := 1) (g := true) (m := 3) (off' := 3) rfl kr kr kr kr (by decide) (by decide) (by decide)) ?_
  refine gX 10 2 #[.bool y155.1.neg, .slice u156_0_1 y155.1.ln.length u156_0_3, .slice u156_0_4 y155.1.ld.length u156_0_6, .bool y173.1.neg, .slice u174_0_1 y173.1.ln.length u174_0_3, .slice u174_0_4 y173.1.ld.length u174_0_6, .bool v119_3.neg, .slice a119_3_1 v119_3.ln.length a119_3_2, .slice a119_3_3 v119_3.ld.length a119_3_4] ?_
  intro w175 Y175 B175
  refine gz [11] ?_
  refine gend (fun w176 Y176 C176 B176 => ?_)
  refine zz 7 ?_
  refine zb 158 (b := ((y173.2) != 0)) (fun hc177 => ?_) (fun hc177 => ?_)
  ·
   have hp := ipb hc177 hp
   refine zz 16 ?_
   refine zr' (v := .bool false) ?_
   have hob := Option.some.inj hp
   subst hob
   exact ⟨C176.upd, _, rfl, rfl⟩
  have hp := iqb hc177 hp
  refine zz 9 ?_
  refine zunr1 hKf141 1 [1, 2, 3, 4, 5, 11, 13, 15, 16, 17, 18, 22, 24] ?_
  refine zz 13 ?_
  refine zdr C176 ?_
  refine gz [0, 1] ?_
  refine gi 2 (b := be123) (off := oe123) (len := y19.1.length) (cap := u20_0_2) (kd := .i64) (i := (k119 : Int)) 4 (oe123 + k119 * 4) ?_ (h0 := hzx119) (h1 := (ix_b hzx119 B123))
  have hc162_ := (((((hc160_.trans B167).trans B169).trans B170).trans B174).trans B175).trans B176
  refine gz [3] ?_
  refine gl 4 ((e123_at.mono hc162_).sub 1 3) ?_
  refine bndk hp fun x178 hx178 hp => ?_
  have hob := ix_some hx178
  obtain ⟨hzx178, hqx178⟩ := hob
  have hwx178 : y129.1[2]? = some x178 := hqx178
  have hob := (u130_0__h0.mono (Le.new C127.lt)).opn2 hwx178
  obtain ⟨B179, hEe179⟩ := hob
  have hAe179 : At (rd w130 Y127) ⟨be143, oe143 + 2 * 1, none⟩ [.int .i64 x178] := hEe179
  refine gz [5, 6] ?_
  refine gi 7 (b := be143) (off := oe143) (len := y129.1.length) (cap := u130_0_2) (kd := .i64) (i := 2) 1 (oe143 + 2 * 1) ?_ (h0 := hzx178) (h1 := (ix_b hzx178 B179))
  have hc163_ := (Le16 B137 B138 B139 B146 B149 B151 B152 B156 B157 B158 B164 B167 B169 B170 B174 B175).trans B176
  refine gl 8 ((hAe179.mono hc163_)) ?_
  refine gp (al 14 25 pn (.cells #[.bool false, .slice none 0 0, .slice none 0 0] 28 (0, 0))) ?_
  refine bndk hp fun y181 hy181 hp => ?_
  refine gC 9 (fun w180 Y180 _ C180 B180 => (rat_From_c _ X0 (X0_lt _) (x178) y181 hy181)) ?_ (hPd := PdOk.nil.k)
  rintro v182 w180 Y182 w182 C180 B182 ⟨u182_0_1, u182_0_2, u182_0_3, u182_0_4, u182_0_5, u182_0_6, rfl, u182_0__h0, u182_0__h1⟩
  have hob := u182_0__h0.hlen
  subst hob
  have hob := u182_0__h1.hlen
  subst hob
  have hc164_ := ((((((hc160_.trans B167).trans B169).trans B170).trans B174).trans B175).trans B176).trans B182
  refine bndk hp fun y184 hy184 hp => ?_
  refine gC 10 (fun w183 Y183 _ C183 B183 => (rat_Mul_c _ X0 (X0_lt _) x119.p _ ⟨_, _, _, _, _, _, rfl, ((e123_h0.mono (hc164_.trans B183)).mono Le.x0), ((e123_h1.mono (hc164_.trans B183)).mono Le.x0)⟩ y181 _ ⟨_, _, _, _, _, _, rfl, (((u182_0__h0.mono (Le.new C180.lt)).mono B183).mono Le.x0), (((u182_0__h1.mono (Le.new C180.lt)).mono B183).mono Le.x0)⟩ y184 hy184)) ?_ (hPd := PdOk.nil.k)
  rintro v185 w183 Y185 w185 C183 B185 ⟨uu185_0, rfl, ⟨u185_0_1, u185_0_2, u185_0_3, u185_0_4, u185_0_5, u185_0_6, rfl, u185_0__h0, u185_0__h1⟩⟩
  have hob := u185_0__h0.hlen
  subst hob
  have hob := u185_0__h1.hlen
  subst hob
  refine gz [11, 12, 13] ?_
  refine gs1 (fun b186 => ?_) PdOk.nil.k
  refine gX 15 0 #[.bool y184.1.neg, .slice u185_0_1 y184.1.ln.length u185_0_3, .slice u185_0_4 y184.1.ld.length u185_0_6] ?_
  intro w187 Y187 B187
  refine gz [16] ?_
  refine gend (fun w188 Y188 C188 B188 => ?_)
  refine zz 8 ?_
  refine zb 146 (b := ((y184.2) != 0)) (fun hc189 => ?_) (fun hc189 => ?_)
  ·
   have hp := ipb hc189 hp
   refine zz 17 ?_
   refine zr' (v := .bool false) ?_
   have hob := Option.some.inj hp
   subst hob
   exact ⟨C188.upd, _, rfl, rfl⟩
  have hp := iqb hc189 hp
  refine zz 4 ?_
  refine zN ⟨.code (at1 [K118, K119, K122, (Kf141 1)] Tryz.f7 [1, 1, 1, 1, 1, 1, 1, 1, 1, 9, 1, 0, 0, 1, 9, 0, 1, 1, 1, 1, 1, 1, 0, 0, 1, 0, 0, 1, 1, 0]), at2 [K118, K119, K122, (Kf141 1)] Tryz.f7 [1, 1, 1, 1, 1, 1, 1, 1, 1, 9, 1, 0, 0, 1, 9, 0, 1, 1, 1, 1, 1, 1, 0, 0, 1, 0, 0, 1, 1, 0], [(1, .int .i64 p1), (2, .int .i64 p2), (3, .int .i64 p3), (4, .int .i64 p4), (5, .pointer (some ⟨b3, 0, none⟩)), (11, .slice (some ⟨be123, oe123, none⟩) y19.1.length u20_0_2), (13, .int .i64 y22.1), (15, .slice (some ⟨b29, 0, none⟩) 3 3), (16, .pointer (some ⟨b31, 0, none⟩)), (17, .pointer (some ⟨b34, 0, none⟩)), (18, .int .i64 (k119 : Int)), (22, .slice (some ⟨be143, oe143, none⟩) y129.1.length u130_0_2), (24, .int .i64 2), (25, .pointer (some ⟨b186, 0, none⟩))]⟩ ?_
  refine zdr C188 ?_
  refine gz [0, 1] ?_
  refine gH (v := .pointer (some ⟨b34, 6, none⟩)) 2 (fun w => run_indexArr (e := 28) (nn := 3) (b := b34) (off := 0) (kd := .i64) (i := 2) (g := true) (m := 3) (off' := 6) rfl kr kr kr kr (by decide) (by decide) (by decide)) ?_
  refine gw 3 3 ?_
  refine gw 4 0 ?_
  have hc165_ := ((((((hc161_.trans B174).trans B175).trans B176).trans B182).trans B185).trans B187).trans B188
  refine bndk hp fun y191 hy191 hp => ?_
  refine gC 5 (fun w190 Y190 _ C190 B190 => (rat_Add_c _ X0 (X0_lt _) v119_3 _ ⟨_, _, _, _, _, _, rfl, (((hfv119_3_0.mono Le.orl).mono (hc165_.trans B190)).mono Le.x0), (((hfv119_3_1.mono Le.orl).mono (hc165_.trans B190)).mono Le.x0)⟩ y184.1 _ ⟨_, _, _, _, _, _, rfl, (((u185_0__h0.mono (Le.new C183.lt)).mono (Le3 B187 B188 B190)).mono Le.x0), (((u185_0__h1.mono (Le.new C183.lt)).mono (Le3 B187 B188 B190)).mono Le.x0)⟩ y191 hy191)) ?_
  rintro v192 w190 Y192 w192 C190 B192 ⟨uu192_0, rfl, ⟨u192_0_1, u192_0_2, u192_0_3, u192_0_4, u192_0_5, u192_0_6, rfl, u192_0__h0, u192_0__h1⟩⟩
  have hob := u192_0__h0.hlen
  subst hob
  have hob := u192_0__h1.hlen
  subst hob
  refine gz [6, 7, 8] ?_
  refine gH (v := .pointer (some ⟨b34, 6, none⟩)) 9 (fun w => run_indexArr (e := 28) (nn := 3) (b := b34) (off := 0) (kd := .i64) (i := 2) (g := true) (m := 3) (off' := 6) rfl kr kr kr kr (by decide) (by decide) (by decide)) ?_
  refine gX 10 3 #[.bool y155.1.neg, .slice u156_0_1 y155.1.ln.length u156_0_3, .slice u156_0_4 y155.1.ld.length u156_0_6, .bool y173.1.neg, .slice u174_0_1 y173.1.ln.length u174_0_3, .slice u174_0_4 y173.1.ld.length u174_0_6, .bool y191.1.neg, .slice u192_0_1 y191.1.ln.length u192_0_3, .slice u192_0_4 y191.1.ld.length u192_0_6] ?_
  intro w193 Y193 B193
  refine gz [11] ?_
  refine gend (fun w194 Y194 C194 B194 => ?_)
  refine zz 7 ?_
  refine zb 158 (b := ((y191.2) != 0)) (fun hc195 => ?_) (fun hc195 => ?_)
  ·
   have hp := ipb hc195 hp
   refine zz 16 ?_
   refine zr' (v := .bool false) ?_
   have hob := Option.some.inj hp
   subst hob
   exact ⟨C194.upd, _, rfl, rfl⟩
  have hp := iqb hc195 hp
  refine zz 9 ?_
  refine zunr1 hKf141 0 [1, 2, 3, 4, 5, 11, 13, 15, 16, 17, 18, 22, 24] ?_
  refine zz 13 ?_
  have hc166_ := (Le15 B157 B158 B164 B167 B169 B170 B174 B175 B176 B182 B185 B187 B188 B192 B193).trans B194
  have hc167_ := (Le8 B175 B176 B182 B185 B187 B188 B192 B193).trans B194
  have hc168_ := (Le22 B138 B139 B146 B149 B151 B152 B156 B157 B158 B164 B167 B169 B170 B174 B175 B176 B182 B185 B187 B188 B192 B193).trans B194
  have hc169_ := ((hc165_.trans B192).trans B193).trans B194
  exact znext (fun a h => H122 (y155.1, y173.1, y191.1, y136.1, u156_0_1, u156_0_3, u156_0_4, u156_0_6, u174_0_1, u174_0_3, u174_0_4, u174_0_6, u192_0_1, u192_0_3, u192_0_4, u192_0_6, u137_0_1, u137_0_3, u137_0_4, u137_0_6) _ a h ⟨_, C194.tail.tail.tail, hc169_, (u156_0__h0.mono (Le.own C154.lt C154.upd.size hc166_)), (u156_0__h1.mono (Le.own C154.lt C154.upd.size hc166_)), (u174_0__h0.mono (Le.own C172.lt C172.upd.size hc167_)), (u174_0__h1.mono (Le.own C172.lt C172.upd.size hc167_)), (u192_0__h0.mono (Le.own C190.lt C190.upd.size (Le2 B193 B194))), (u192_0__h1.mono (Le.own C190.lt C190.upd.size (Le2 B193 B194))), ((u137_0__h0.mono (Le.new C135.lt)).mono hc168_), ((u137_0__h1.mono (Le.new C135.lt)).mono hc168_), hp⟩)
 rw [List.drop_eq_nil_of_le (nlt_of_int ht120), clearwaylaw24_DynamicsMeans_l119] at hp
 refine zz 5 ?_
 exact znext (fun a h => H118 (v119_1, v119_2, v119_3, v119_4, a119_1_1, a119_1_2, a119_1_3, a119_1_4, a119_2_1, a119_2_2, a119_2_3, a119_2_4, a119_3_1, a119_3_2, a119_3_3, a119_3_4, a119_4_1, a119_4_2, a119_4_3, a119_4_4) _ a h ⟨_, C119, B119, (hfv119_1_0.mono (Le.or (Le.refl _) _)), (hfv119_1_1.mono (Le.or (Le.refl _) _)), (hfv119_2_0.mono (Le.or (Le.refl _) _)), (hfv119_2_1.mono (Le.or (Le.refl _) _)), (hfv119_3_0.mono (Le.or (Le.refl _) _)), (hfv119_3_1.mono (Le.or (Le.refl _) _)), hfv119_4_0, hfv119_4_1, hp⟩)
noncomputable def clearwaylaw24_DynamicsMeans_p (p0 : ModelD) (p1 : Int) (p2 : Int) (p3 : Int) (p4 : Int) : Option (Bool) :=
  (clearwaylaw24_Long_p p0).bind fun y5 => if y5 = true then ((clearwaylaw24_awake_p).bind fun y9 => some y9) else ((clearwaylaw24_awake_p).bind fun y12 => if (!y12) = true then ((clearwaylaw24_awake_p).bind fun y16 => some y16) else ((dynamics_Spread_p p0 (p1) (p2) (p3) (p4)).bind fun y19 => (dynamics_Respond_p p0 (p2) (p4)).bind fun y22 => if ((y19.2) != 0) = true then (some ((y19.1.length : Int) == 0)) else (if ((y22.2) != 0) = true then (some false) else (if ((y19.1.length : Int) == 0) = true then (some false) else (lt (fun (v35_0 : Raw) (v35_1 : Raw) (v35_2 : Raw) (v35_3 : Raw) => (rat_From_p (1 : Int)).bind fun y38 => (clearwaykit_EqualRat_p v35_3 y38).bind fun y41 => if (!y41) = true then (some false) else ((clearwaylaw24_inside_p p0.height (IntKind.i64.wrap ((IntKind.i64.wrap ((p1) + p3)) - p2)) (IntKind.i64.wrap ((IntKind.i64.wrap ((p1) + p3)) - p2))).bind fun y48 => if (!y48) = true then (some true) else ((ix p0.ownNoise (0 : Int)).bind fun x52 => (ix p0.ownNoise (IntKind.i64.wrap ((p0.ownNoise.length : Int) - 1))).bind fun x54 => (clearwaylaw24_inside_p p0.own (IntKind.i64.wrap ((y22.1) + x52.delta)) (IntKind.i64.wrap ((y22.1) + x54.delta))).bind fun y57 => if (!y57) = true then (some true) else ((ix p0.otherNoise (0 : Int)).bind fun x61 => (ix p0.otherNoise (IntKind.i64.wrap ((p0.otherNoise.length : Int) - 1))).bind fun x63 => (clearwaylaw24_inside_p p0.other (IntKind.i64.wrap ((p3) + x61.delta)) (IntKind.i64.wrap ((p3) + x63.delta))).bind fun y66 => if (!y66) = true then (some true) else ((rat_From_p (y22.1)).bind fun y72 => (clearwaylaw24_mean_p p0.ownNoise).bind fun y75 => (rat_Add_p y72 y75).bind fun y78 => (rat_From_p (p3)).bind fun y85 => (clearwaylaw24_mean_p p0.otherNoise).bind fun y88 => (rat_Add_p y85 y88).bind fun y91 => if ((y78.2) == 0) = true then (if ((y91.2) == 0) = true then ((rat_From_p (IntKind.i64.wrap ((IntKind.i64.wrap ((p1) + p3)) - p2))).bind fun y100 => (clearwaykit_EqualRat_p v35_0 y100).bind fun y103 => if y103 = true then ((clearwaykit_EqualRat_p v35_1 y78.1).bind fun y107 => if y107 = true then ((clearwaykit_EqualRat_p v35_2 y91.1).bind fun y111 => some y111) else (some false)) else (some false)) else (some false)) else (some false)))))) fun J35 => clearwaylaw24_DynamicsMeans_l119 p0 p4 J35 (y19.1.drop 0)  Raw.zero Raw.zero Raw.zero Raw.zero)))))
theorem clearwaylaw24_DynamicsMeans_c (w : World) (X : Hid) (hX : ∀ k o, X k o → k < w.heap.size) (p0 : ModelD) (vp0 : Value) (hp0 : ModelDV (rd w X) vp0 p0) (p1 : Int) (p2 : Int) (p3 : Int) (p4 : Int) (y : Bool) (hp : clearwaylaw24_DynamicsMeans_p p0 p1 p2 p3 p4 = some y) : Calls Tryz.prog 7 #[vp0, .int .i64 p1, .int .i64 p2, .int .i64 p3, .int .i64 p4] w (Ret E0 w fun _ v => v = .bool y) := by
 have hVp0 := hp0
 refine ModelDV.op hp0 fun p0a1 p0a2 p0a3 p0a4 p0a5 p0a6 p0a7 p0a8 p0a9 p0a10 p0a11 p0a12 p0a13 p0a14 p0a15 p0a16 p0a17 p0a18 p0a19 p0a20 p0a21 p0a22 p0a23 p0a24 hv9 p0a_h0 p0a_h1 p0a_h2 p0a_h3 p0a_h4 p0a_h5 p0a_h6 p0a_h7 p0a_h8 p0a_h9 p0a_h10 p0a_h11 => ?_
 subst hv9
 unfold clearwaylaw24_DynamicsMeans_p at hp
 refine zen Tryz.func7 ?_
 have C0 : St E0 w X w X [] := St.start hX
 refine zz 2 ?_
 refine zn pn (.cells #[.slice p0a1 p0.height.length p0a2, .slice p0a3 p0.own.length p0a4, .slice p0a5 p0.other.length p0a6, .slice p0a7 p0.advisories.length p0a8, .int .i64 p0.pull, .int .i64 p0.near, .int .i64 p0.steps, .slice p0a9 p0.ownNoise.length p0a10, .slice p0a11 p0.otherNoise.length p0a12, .bool p0.alert.neg, .slice p0a13 p0.alert.ln.length p0a14, .slice p0a15 p0.alert.ld.length p0a16, .bool p0.strengthen.neg, .slice p0a17 p0.strengthen.ln.length p0a18, .slice p0a19 p0.strengthen.ld.length p0a20, .bool p0.reversal.neg, .slice p0a21 p0.reversal.ln.length p0a22, .slice p0a23 p0.reversal.ld.length p0a24] 30 (0, 0)) C0 ?_
 intro b3 w3 Y3 C3 B3 hu3
 refine zz 6 ?_
 refine zo 0 C3 ?_
 refine bndk hp fun y5 hy5 hp => ?_
 refine zc C3 (clearwaylaw24_Long_c _ X0 (X0_lt _) p0 _ ((hVp0.mono B3).mono Le.x0) y5 hy5) ?_
 rintro v6 w6 C6 B6 hu6 rfl
 refine zz 1 ?_
 refine zb 35 (b := y5) (fun hc7 => ?_) (fun hc7 => ?_)
 ·
  have hp := ipb hc7 hp
  refine zz 8 ?_
  refine bndk hp fun y9 hy9 hp => ?_
  refine zc C6 (clearwaylaw24_awake_c _ X0 (X0_lt _)  y9 hy9) ?_
  rintro v10 w10 C10 B10 hu10 rfl
  refine zz 5 ?_
  refine zr' (v := .bool y9) ?_
  have hob := Option.some.inj hp
  subst hob
  exact ⟨C10.upd, _, rfl, rfl⟩
 have hp := iqb hc7 hp
 refine bndk hp fun y12 hy12 hp => ?_
 refine zc C6 (clearwaylaw24_awake_c _ X0 (X0_lt _)  y12 hy12) ?_
 rintro v13 w13 C13 B13 hu13 rfl
 refine zz 4 ?_
 refine zb 38 (b := !y12) (fun hc14 => ?_) (fun hc14 => ?_)
 ·
  have hp := ipb hc14 hp
  refine zz 3 ?_
  refine bndk hp fun y16 hy16 hp => ?_
  refine zc C13 (clearwaylaw24_awake_c _ X0 (X0_lt _)  y16 hy16) ?_
  rintro v17 w17 C17 B17 hu17 rfl
  refine zz 5 ?_
  refine zr' (v := .bool y16) ?_
  have hob := Option.some.inj hp
  subst hob
  exact ⟨C17.upd, _, rfl, rfl⟩
 have hp := iqb hc14 hp
 refine zz 5 ?_
 refine zo 0 C13 ?_
 refine zz 4 ?_
 refine bndk hp fun y19 hy19 hp => ?_
 refine zc C13 (dynamics_Spread_c _ X0 (X0_lt _) p0 _ ((hVp0.mono (Le3 B3 B6 B13)).mono Le.x0) (p1) (p2) (p3) (p4) y19 hy19) ?_
 rintro v20 w20 C20 B20 hu20 ⟨uu20_0, rfl, ⟨u20_0_1, u20_0_2, rfl, u20_0__h0⟩⟩
 refine zz 9 ?_
 refine zo 0 C20 ?_
 refine zz 2 ?_
 have hc1_ := (Le3 B3 B6 B13).trans B20
 refine bndk hp fun y22 hy22 hp => ?_
 refine zc C20 (dynamics_Respond_c _ X0 (X0_lt _) p0 _ ((hVp0.mono hc1_).mono Le.x0) (p2) (p4) y22 hy22) ?_
 rintro v23 w23 C23 B23 hu23 rfl
 refine zz 14 ?_
 refine zb 57 (b := ((y19.2) != 0)) (fun hc24 => ?_) (fun hc24 => ?_)
 ·
  have hp := ipb hc24 hp
  refine zz 11 ?_
  refine zr' (v := .bool ((y19.1.length : Int) == 0)) ?_
  have hob := Option.some.inj hp
  subst hob
  exact ⟨C23.upd, _, rfl, rfl⟩
 have hp := iqb hc24 hp
 refine zz 9 ?_
 refine zb 63 (b := ((y22.2) != 0)) (fun hc25 => ?_) (fun hc25 => ?_)
 ·
  have hp := ipb hc25 hp
  refine zz 14 ?_
  refine zr' (v := .bool false) ?_
  have hob := Option.some.inj hp
  subst hob
  exact ⟨C23.upd, _, rfl, rfl⟩
 have hp := iqb hc25 hp
 refine zz 6 ?_
 refine zb 67 (b := ((y19.1.length : Int) == 0)) (fun hc26 => ?_) (fun hc26 => ?_)
 ·
  have hp := ipb hc26 hp
  refine zz 8 ?_
  refine zr' (v := .bool false) ?_
  have hob := Option.some.inj hp
  subst hob
  exact ⟨C23.upd, _, rfl, rfl⟩
 have hp := iqb hc26 hp
 refine zz 3 ?_
 have hc2_ := hc1_.trans B23
 have hc3_ := hc1_.trans B23
 have hc4_ := hc1_.trans B23
 have hc5_ := hc1_.trans B23
 have hc6_ := hc1_.trans B23
 have hc7_ := hc1_.trans B23
 have hc8_ := hc1_.trans B23
 have hc9_ := hc1_.trans B23
 have hc10_ := hc1_.trans B23
 have hc11_ := hc1_.trans B23
 have hc12_ := hc1_.trans B23
 have hc13_ := hc1_.trans B23
 have hc14_ := hc1_.trans B23
 refine zN ⟨.code (at1 [] Tryz.f7 [1, 1, 1, 1, 1, 1]), at2 [] Tryz.f7 [1, 1, 1, 1, 1, 1], [(1, .int .i64 p1), (2, .int .i64 p2), (3, .int .i64 p3), (4, .int .i64 p4), (5, .pointer (some ⟨b3, 0, none⟩)), (11, .slice u20_0_1 y19.1.length u20_0_2), (13, .int .i64 y22.1)]⟩ ?_
 exact clearwaylaw24_DynamicsMeans_cut27 w X y Y3 b3 p0 p0a1 p0a10 p0a11 p0a12 p0a13 p0a14 p0a15 p0a16 p0a17 p0a18 p0a19 p0a2 p0a20 p0a21 p0a22 p0a23 p0a24 p0a3 p0a4 p0a5 p0a6 p0a7 p0a8 p0a9 p1 p2 p3 p4 u20_0_1 u20_0_2 w23 y19 y22 C23 (u20_0__h0.mono (Le.own C13.lt C13.upd.size B23)) (hVp0.mono hc2_) (p0a_h5.mono hc9_) (p0a_h4.mono hc10_) (p0a_h2.mono hc12_) (p0a_h1.mono hc13_) (p0a_h0.mono hc14_) hp
end Go.Proofs.YtppalofalmieaaaGreat
/- DynamicsMeans as plain Lean. By an AI agent. -/
namespace Go.Proofs.YtppalofalmieaaaGreat
open Go Go.Gv Go.RowKit
set_option maxRecDepth 100000
set_option maxHeartbeats 1000000
theorem split_keyM {x : ModelD} (hc : dynamics_Check_p x = some 0) (g : Good x) {b : Int} {w : Nat} (hw : w < nV x) (hb : 0 ≤ b ∧ b < (x.advisories.length : Int)) : dynamics_Split_p x (keyZ x.advisories.length b w) = some ((w : Int), b, 0) := by
  have hn := g.n_le
  have a1 := g.a1
  have a2 := g.a2
  have hnv := g.nV_le
  obtain ⟨c, rfl⟩ := Int.eq_ofNat_of_zero_le hb.1
  have hc' : c < x.advisories.length := by omega
  have e : keyZ x.advisories.length (c : Int) w = ((w * x.advisories.length + c : Nat) : Int) := by unfold keyZ; omega
  have hlt : w * x.advisories.length + c < nV x * x.advisories.length := by
    have : (w + 1) * x.advisories.length ≤ nV x * x.advisories.length := Nat.mul_le_mul_right _ (by omega)
    rw [Nat.succ_mul] at this
    omega
  have hd : (w * x.advisories.length + c) / x.advisories.length = w := by
    rw [Nat.mul_comm, Nat.mul_add_div (by omega), Nat.div_eq_of_lt hc', Nat.add_zero]
  have hm : (w * x.advisories.length + c) % x.advisories.length = c := by
    rw [Nat.mul_comm, Nat.mul_add_mod, Nat.mod_eq_of_lt hc']
  unfold dynamics_Split_p
  rw [bnds hc, if_neg (by decide), e, if_neg (by omega), bnds g.size, if_neg (by omega), grdT (by omega), grdT (by omega)]
  have h1 : Int.tdiv ((w * x.advisories.length + c : Nat) : Int) (x.advisories.length : Int) = (w : Int) := by
    show (((w * x.advisories.length + c) / x.advisories.length : Nat) : Int) = _
    rw [hd]
  have h2 : Int.tmod ((w * x.advisories.length + c : Nat) : Int) (x.advisories.length : Int) = (c : Int) := by
    show (((w * x.advisories.length + c) % x.advisories.length : Nat) : Int) = _
    rw [hm]
  rw [h1, h2, wi64 (by omega) (by omega)]
section
variable {x : ModelD} {h u v b r : Int}
theorem axV_get {l : List Int} (ha : Axis l) {i : Nat} (hi : i < l.length) : ∃ a, l[i]? = some a ∧ (a : Rat) = axV l i ∧ -50000 ≤ a ∧ a ≤ 50000 := by
  have hg := List.getElem?_eq_getElem hi
  refine ⟨l[i], hg, ?_, ha.bdi hg⟩
  unfold axV
  rw [List.getD_eq_getElem?_getD, hg]
  rfl
theorem point_w (E : Env x h u v b r) {w : Nat} (hw : w < nV x) : ∃ a c d : Int, interp_Point_p [x.height, x.own, x.other] (w : Int) = some ([a, c, d], 0) ∧ (a : Rat) = axV x.height (w / x.other.length / x.own.length) ∧ (c : Rat) = axV x.own (w / x.other.length % x.own.length) ∧ (d : Rat) = axV x.other (w % x.other.length) ∧
    (-50000 ≤ a ∧ a ≤ 50000) ∧ (-50000 ≤ c ∧ c ≤ 50000) ∧ (-50000 ≤ d ∧ d ≤ 50000) := by
  have n1 := E.h1.ne; have n2 := E.h2.ne; have n3 := E.h3.ne
  have m1 := E.h1.le; have m2 := E.h2.le; have m3 := E.h3.le
  have hw2 : w < x.height.length * x.own.length * x.other.length := hw
  have d1 : w / x.other.length < x.height.length * x.own.length := Nat.div_lt_of_lt_mul (by rw [Nat.mul_comm]; exact hw2)
  have d2 : w / x.other.length / x.own.length < x.height.length := Nat.div_lt_of_lt_mul (by rw [Nat.mul_comm]; exact d1)
  have e1 : x.height.length * x.own.length ≤ 32 * 32 := Nat.mul_le_mul m1 m2
  have e2 : x.height.length * x.own.length * x.other.length ≤ 32 * 32 * 32 := Nat.mul_le_mul e1 m3
  obtain ⟨a, a1, a2, a3⟩ := axV_get E.h1 d2
  obtain ⟨c, c1, c2, c3⟩ := axV_get E.h2 (Nat.mod_lt (w / x.other.length) (by omega : 0 < x.own.length))
  obtain ⟨d, g1, g2, g3⟩ := axV_get E.h3 (Nat.mod_lt w (by omega : 0 < x.other.length))
  refine ⟨a, c, d, ?_, a2, c2, g2, a3, c3, g3⟩
  have sz : IntKind.i64.wrap (IntKind.i64.wrap (IntKind.i64.wrap (1 * (x.height.length : Int)) * (x.own.length : Int)) * (x.other.length : Int)) = ((x.height.length * x.own.length * x.other.length : Nat) : Int) := by
    rw [Int.one_mul, wi64 (x := (x.height.length : Int)) (by omega) (by omega), ← Int.natCast_mul, wi64 (x := ((x.height.length * x.own.length : Nat) : Int)) (by omega) (by omega), ← Int.natCast_mul, wi64 (by omega) (by omega)]
  have tm : ∀ p q : Nat, Int.tmod (p : Int) (q : Int) = ((p % q : Nat) : Int) := fun _ _ => rfl
  have td : ∀ p q : Nat, p ≤ 32768 → IntKind.i64.wrap (Int.tdiv (p : Int) (q : Int)) = ((p / q : Nat) : Int) := fun p q hp => by
    have : p / q ≤ p := Nat.div_le_self _ _
    show IntKind.i64.wrap ((p / q : Nat) : Int) = _
    generalize p / q = t at this ⊢
    exact wi64 (by omega) (by omega)
  have l1 := Nat.div_le_self w x.other.length
  have l2 := Nat.div_le_self (w / x.other.length) x.own.length
  have hh : w / x.other.length / x.own.length % x.height.length = w / x.other.length / x.own.length := Nat.mod_eq_of_lt d2
  unfold interp_Point_p
  rw [lt, bnds E.ck, if_neg (by decide), if_neg (by omega), isize3, Option.bind_some, sz, if_neg (by omega), grdT (by simp), show IntKind.i64.wrap ((([x.height, x.own, x.other].length : Nat) : Int) - 1) = 2 from by show IntKind.i64.wrap (((3 : Nat) : Int) - 1) = 2; decide]
  show interp_Point_l50 [x.height, x.own, x.other] _ 4 2 [0, 0, 0] (w : Int) = _
  rw [interp_Point_l50, if_pos (by decide), bnds (ixT (i := (2 : Int)) (k := 2) (x := x.other) rfl rfl), grdT (by omega), bnds (ixT (i := (2 : Int)) (k := 2) (x := (0 : Int)) rfl rfl), grdT (by omega), tm, td _ _ (by omega), show IntKind.i64.wrap ((2 : Int) - 1) = 1 from by decide]
  show interp_Point_l50 [x.height, x.own, x.other] _ 3 1 [0, 0, ((w % x.other.length : Nat) : Int)] _ = _
  rw [interp_Point_l50, if_pos (by decide), bnds (ixT (i := (1 : Int)) (k := 1) (x := x.own) rfl rfl), grdT (by omega), bnds (ixT (i := (1 : Int)) (k := 1) (x := (0 : Int)) rfl rfl), grdT (by omega), tm, td _ _ (by omega), show IntKind.i64.wrap ((1 : Int) - 1) = 0 from by decide]
  show interp_Point_l50 [x.height, x.own, x.other] _ 2 0 [0, ((w / x.other.length % x.own.length : Nat) : Int), ((w % x.other.length : Nat) : Int)] _ = _
  rw [interp_Point_l50, if_pos (by decide), bnds (ixT (i := (0 : Int)) (k := 0) (x := x.height) rfl rfl), grdT (by omega), bnds (ixT (i := (0 : Int)) (k := 0) (x := (0 : Int)) rfl rfl), grdT (by omega), tm, td _ _ (by omega), hh, show IntKind.i64.wrap ((0 : Int) - 1) = -1 from by decide]
  show interp_Point_l50 [x.height, x.own, x.other] _ 1 (-1) [((w / x.other.length / x.own.length : Nat) : Int), ((w / x.other.length % x.own.length : Nat) : Int), ((w % x.other.length : Nat) : Int)] _ = _
  rw [interp_Point_l50, if_neg (by decide), lt, List.drop_zero]
  rw [interp_Point_l6, bnds (ixT (k := 0) rfl rfl), bnds (ixT (k := 0) (x := x.height) rfl rfl), bnds (ixT rfl a1)]
  rw [interp_Point_l6, bnds (ixT (k := 1) (x := ((w / x.other.length % x.own.length : Nat) : Int)) rfl rfl), bnds (ixT (k := 1) (x := x.own) rfl rfl), bnds (ixT rfl c1)]
  rw [interp_Point_l6, bnds (ixT (k := 2) (x := ((w % x.other.length : Nat) : Int)) rfl rfl), bnds (ixT (k := 2) (x := x.other) rfl rfl), bnds (ixT rfl g1)]
  rw [interp_Point_l6]
  rfl
/-! ### Numbers that fit -/
theorem int_db {z : Int} {B : Nat} (h : z.natAbs ≤ B) : DB 1 B (z : Rat) := ⟨z, by rw [Rat.mkRat_one], h⟩
theorem int_fit {z : Int} (h0 : -200000 ≤ z) (h1 : z ≤ 200000) : ratE (z : Rat) = 0 := (int_db (B := 200000) (by omega)).fit (by decide) (by decide)
theorem from_fit {z : Int} (h0 : -200000 ≤ z) (h1 : z ≤ 200000) : rat_From_p z = some (Raw.of (z : Rat)) := grdT (by omega)
theorem add_fit {p q : Rat} (hp : ratE p = 0) (hq : ratE q = 0) (h : ratE (p + q) = 0) : rat_Add_p (Raw.of p) (Raw.of q) = some (Raw.of (p + q), 0) := by
  unfold rat_Add_p
  rw [Raw.of_rat, Raw.of_rat, (opR_fit (of_fit hp).1 (of_fit hq).1 h).1, (opR_fit (of_fit hp).1 (of_fit hq).1 h).2]
theorem mul_fit {p q : Rat} (hp : ratE p = 0) (hq : ratE q = 0) (h : ratE (p * q) = 0) : rat_Mul_p (Raw.of p) (Raw.of q) = some (Raw.of (p * q), 0) := by
  unfold rat_Mul_p
  rw [Raw.of_rat, Raw.of_rat, (opR_fit (of_fit hp).1 (of_fit hq).1 h).1, (opR_fit (of_fit hp).1 (of_fit hq).1 h).2]
theorem nzc_fit {q : List NoiseD} (h : ∀ n ∈ q, Nz1 n ∧ Lim n.p) (h5 : q.length ≤ 5) (c : NoiseD → Int) (hc : ∀ n ∈ q, (c n).natAbs ≤ 100000) : ratE (rsum (q.map fun n => n.p.rat * (c n : Rat))) = 0 := by
  have hE0 : prodN (q.map (·.p.d)) ≠ 0 := prodN_pos fun y hy => by obtain ⟨n, hn, rfl⟩ := List.mem_map.1 hy; exact Nat.ne_of_gt (Raw.d_pos _)
  have hE : prodN (q.map (·.p.d)) ≤ (2 ^ 256) ^ 5 := prodN_le (by decide) (fun y hy => by obtain ⟨n, hn, rfl⟩ := List.mem_map.1 hy; exact (h n hn).1.sh.d (h n hn).2) (by simpa using h5)
  have h1 : DB (prodN (q.map (·.p.d)) * 1) ((q.map fun n => n.p.rat * (c n : Rat)).length * (2 ^ 256 * prodN (q.map (·.p.d)) * 100000)) (rsum (q.map fun n => n.p.rat * (c n : Rat))) := rsum_db (by rw [Nat.mul_one]; exact hE0) fun r hr => by
    obtain ⟨n, hn, rfl⟩ := List.mem_map.1 hr
    exact (((h n hn).1.sh.db (h n hn).2).dvd (prodN_dvd (List.mem_map.2 ⟨n, hn, rfl⟩)) hE0).mul (int_db (hc n hn))
  refine h1.fit (by rw [Nat.mul_one]; exact Nat.lt_of_le_of_lt hE (by decide)) (Nat.lt_of_le_of_lt (Nat.mul_le_mul (show (q.map fun n => n.p.rat * (c n : Rat)).length ≤ 5 by simpa using h5) (Nat.mul_le_mul_right _ (Nat.mul_le_mul_left _ hE))) (by decide))
theorem mean_go (p0 : List NoiseD) (h5 : p0.length ≤ 5) (h : ∀ n ∈ p0, Nz1 n ∧ Lim n.p) (J : Raw → Option Raw) : ∀ (l q : List NoiseD), p0 = q ++ l → clearwaylaw24_mean_l10 J l (Raw.of (rsum (q.map fun n => n.p.rat * (n.delta : Rat)))) = J (Raw.of (rsum (p0.map fun n => n.p.rat * (n.delta : Rat))))
  | [], q, e => by rw [clearwaylaw24_mean_l10, e, List.append_nil]
  | n :: l, q, e => by
    have hn : n ∈ p0 := by rw [e]; simp
    have hnz := (h n hn).1
    have b1 := hnz.lo
    have b2 := hnz.hi
    have hq : ∀ m ∈ q, Nz1 m ∧ Lim m.p := fun m hm => h m (by rw [e]; simp [hm])
    have hq1 : ∀ m ∈ q ++ [n], Nz1 m ∧ Lim m.p := fun m hm => by
      rcases List.mem_append.1 hm with hm | hm
      · exact hq m hm
      · rw [List.mem_singleton.1 hm]; exact h n hn
    have hlen : q.length + 1 + l.length ≤ 5 := by have := h5; rw [e] at this; simp at this; omega
    have bd : ∀ m : NoiseD, Nz1 m → m.delta.natAbs ≤ 100000 := fun m hm => by have := hm.lo; have := hm.hi; omega
    have f0 := nzc_fit hq (by omega) (fun m => m.delta) fun m hm => bd m (hq m hm).1
    have f1 := nzc_fit (q := [n]) (fun m hm => by rw [List.mem_singleton.1 hm]; exact h n hn) (by simp) (fun m => m.delta) fun m hm => by rw [List.mem_singleton.1 hm]; exact bd n hnz
    have f2 := nzc_fit hq1 (by simp; omega) (fun m => m.delta) fun m hm => bd m (hq1 m hm).1
    have e1 : rsum ([n].map fun n => n.p.rat * (n.delta : Rat)) = n.p.rat * (n.delta : Rat) := by show _ + 0 = _; rw [Rat.add_zero]
    have e2 : rsum ((q ++ [n]).map fun n => n.p.rat * (n.delta : Rat)) = rsum (q.map fun n => n.p.rat * (n.delta : Rat)) + n.p.rat * (n.delta : Rat) := by rw [List.map_append, rsum_append, e1]
    rw [e1] at f1
    rw [e2] at f2
    have hm : rat_Mul_p n.p (Raw.of (n.delta : Rat)) = some (Raw.of (n.p.rat * (n.delta : Rat)), 0) := by
      have hf := int_fit (z := n.delta) (by omega) (by omega)
      unfold rat_Mul_p
      rw [Raw.of_rat, (opR_fit hnz.sh.chk (of_fit hf).1 f1).1, (opR_fit hnz.sh.chk (of_fit hf).1 f1).2]
    rw [clearwaylaw24_mean_l10, bnds (from_fit (z := n.delta) (by omega) (by omega)), bnds hm]
    show (rat_Add_p (Raw.of (rsum (q.map fun n => n.p.rat * (n.delta : Rat)))) (Raw.of (n.p.rat * (n.delta : Rat)))).bind _ = _
    rw [bnds (add_fit f0 f1 f2), ← e2]
    exact mean_go p0 h5 h J l (q ++ [n]) (by rw [e]; simp)
theorem mean_eq {l : List NoiseD} (h : NzL l) (hl : ∀ n ∈ l, Lim n.p) : clearwaylaw24_mean_p l = some (Raw.of (rsum (l.map fun n => n.p.rat * (n.delta : Rat)))) := by
  unfold clearwaylaw24_mean_p
  rw [lt, List.drop_zero, ← of0]
  exact mean_go l h.n5 (fun n hn => ⟨h.el n hn, hl n hn⟩) _ l [] rfl
/-- The mean of a rate and a noise. -/
theorem noise_shift {l : List NoiseD} (h : NzL l) (z : Int) : rsum (l.map fun n => n.p.rat * ((z + n.delta : Int) : Rat)) = (z : Rat) + rsum (l.map fun n => n.p.rat * (n.delta : Rat)) := by
  have e : rsum (l.map fun n => n.p.rat * ((z + n.delta : Int) : Rat)) = rsum (l.map fun n => (z : Rat) * n.p.rat + n.p.rat * (n.delta : Rat)) := by
    congr 1
    refine List.map_congr_left fun n _ => ?_
    rw [Rat.intCast_add, Rat.mul_add, Rat.mul_comm (z : Rat)]
  rw [e, rsum_add (fun n : NoiseD => (z : Rat) * n.p.rat), rsum_mul, h.sum, Rat.mul_one]
theorem add_mean {l : List NoiseD} (h : NzL l) (hl : ∀ n ∈ l, Lim n.p) {z : Int} (h0 : -1000 ≤ z) (h1 : z ≤ 1000) : rat_Add_p (Raw.of (z : Rat)) (Raw.of (rsum (l.map fun n => n.p.rat * (n.delta : Rat)))) = some (Raw.of (rsum (l.map fun n => n.p.rat * ((z + n.delta : Int) : Rat))), 0) := by
  have hq : ∀ n ∈ l, Nz1 n ∧ Lim n.p := fun n hn => ⟨h.el n hn, hl n hn⟩
  have f0 := nzc_fit hq h.n5 (fun m => m.delta) fun m hm => by have := (hq m hm).1.lo; have := (hq m hm).1.hi; omega
  have f1 := nzc_fit hq h.n5 (fun m => z + m.delta) fun m hm => by have := (hq m hm).1.lo; have := (hq m hm).1.hi; omega
  rw [noise_shift h] at f1 ⊢
  exact add_fit (int_fit (by omega) (by omega)) f0 f1
/-! ### The sums over the outcomes -/
noncomputable def prob (x : ModelD) (h u v b r : Int) (o : Out) : Rat := getP o.to 0 (sums x h u v b r)
theorem outs_p {o : Out} (ho : o ∈ outs x h u v b r) : o.p = Raw.of (prob x h u v b r o) := by
  obtain ⟨k, _, rfl⟩ := List.mem_map.1 ho
  rfl
noncomputable def osum (x : ModelD) (h u v b r : Int) (φ : Nat → Int) (q : List Out) : Rat := rsum (q.map fun o => prob x h u v b r o * (φ (vx x b o.to) : Rat))
theorem osum_fit (E : Env x h u v b r) (φ : Nat → Int) {q : List Out} (h6 : q.length ≤ 64) (hφ : ∀ o ∈ q, (φ (vx x b o.to)).natAbs ≤ 50000) : ratE (osum x h u v b r φ q) = 0 := by
  obtain ⟨D, B, d0, d1, d2, d3⟩ := E.bd
  have h1 : DB (D * 1) ((q.map fun o => prob x h u v b r o * (φ (vx x b o.to) : Rat)).length * (B * 50000)) (osum x h u v b r φ q) := rsum_db (by rw [Nat.mul_one]; exact d0) fun p hp => by
    obtain ⟨o, ho, rfl⟩ := List.mem_map.1 hp
    exact (d3 o.to).mul (int_db (hφ o ho))
  refine h1.fit (by rw [Nat.mul_one]; exact d1) (Nat.lt_of_le_of_lt (Nat.mul_le_mul_right _ (show (q.map fun o => prob x h u v b r o * (φ (vx x b o.to) : Rat)).length ≤ 64 by simpa using h6)) ?_)
  refine Nat.lt_of_le_of_lt ?_ d2
  omega
theorem prob_fit (E : Env x h u v b r) (o : Out) : ratE (prob x h u v b r o) = 0 := E.fits o.to
theorem osum_snoc (φ : Nat → Int) (q : List Out) (o : Out) : osum x h u v b r φ (q ++ [o]) = osum x h u v b r φ q + prob x h u v b r o * (φ (vx x b o.to) : Rat) := by
  unfold osum
  rw [List.map_append, rsum_append]
  congr 1
  exact Rat.add_zero _
def f0 (x : ModelD) (w : Nat) : Int := x.height.getD (w / x.other.length / x.own.length) 0
def f1 (x : ModelD) (w : Nat) : Int := x.own.getD (w / x.other.length % x.own.length) 0
def f2 (x : ModelD) (w : Nat) : Int := x.other.getD (w % x.other.length) 0
theorem point_f (E : Env x h u v b r) {w : Nat} (hw : w < nV x) : interp_Point_p [x.height, x.own, x.other] (w : Int) = some ([f0 x w, f1 x w, f2 x w], 0) ∧ (-50000 ≤ f0 x w ∧ f0 x w ≤ 50000) ∧ (-50000 ≤ f1 x w ∧ f1 x w ≤ 50000) ∧ (-50000 ≤ f2 x w ∧ f2 x w ≤ 50000) := by
  obtain ⟨a, c, d, h1, h2, h3, h4, h5, h6, h7⟩ := point_w E hw
  have inj : ∀ {p q : Int}, (p : Rat) = (q : Rat) → p = q := fun h => by exact_mod_cast h
  have e0 : a = f0 x w := inj h2
  have e1 : c = f1 x w := inj h3
  have e2 : d = f2 x w := inj h4
  subst e0 e1 e2
  exact ⟨h1, h5, h6, h7⟩
theorem l119go (hl : LimM x) (s : SpOK x h u v b r) (J : Raw → Raw → Raw → Raw → Option Bool) : ∀ (l q : List Out), outs x h u v b r = q ++ l →
    clearwaylaw24_DynamicsMeans_l119 x b J l (Raw.of (osum x h u v b r (f0 x) q)) (Raw.of (osum x h u v b r (f1 x) q)) (Raw.of (osum x h u v b r (f2 x) q)) (Raw.of (osum x h u v b r (fun _ => 1) q)) =
    J (Raw.of (osum x h u v b r (f0 x) (outs x h u v b r))) (Raw.of (osum x h u v b r (f1 x) (outs x h u v b r))) (Raw.of (osum x h u v b r (f2 x) (outs x h u v b r))) (Raw.of (osum x h u v b r (fun _ => 1) (outs x h u v b r)))
  | [], q, e => by rw [clearwaylaw24_DynamicsMeans_l119, e, List.append_nil]
  | o :: l, q, e => by
    have E := s.f.env hl s.hh s.hu s.hv s.hb s.hr
    obtain ⟨hc, g⟩ := s.f.good hl
    have ho : o ∈ outs x h u v b r := by rw [e]; simp
    obtain ⟨w, hw, hto⟩ := outs_key E ho
    have hvx : vx x b o.to = w := by rw [hto]; exact vx_key x b w E.a0
    obtain ⟨pw, b0, b1, b2⟩ := point_f E hw
    have hlen : (outs x h u v b r).length ≤ 64 := by
      have := s.hs
      unfold outs
      rw [List.length_map, (sortZ_perm _).length_eq, List.length_map]
      exact this
    have hq : q.length + 1 ≤ 64 := by rw [e] at hlen; simp at hlen; omega
    have all : ∀ φ : Nat → Int, (∀ w, w < nV x → (φ w).natAbs ≤ 50000) → ratE (osum x h u v b r φ q) = 0 ∧ ratE (prob x h u v b r o * (φ w : Rat)) = 0 ∧ ratE (osum x h u v b r φ q + prob x h u v b r o * (φ w : Rat)) = 0 ∧ osum x h u v b r φ (q ++ [o]) = osum x h u v b r φ q + prob x h u v b r o * (φ w : Rat) := fun φ hφ => by
      have bd : ∀ p ∈ outs x h u v b r, (φ (vx x b p.to)).natAbs ≤ 50000 := fun p hp => by
        obtain ⟨w', hw', hto'⟩ := outs_key E hp
        rw [hto', vx_key x b w' E.a0]
        exact hφ w' hw'
      have e2 := osum_snoc (x := x) (h := h) (u := u) (v := v) (b := b) (r := r) φ q o
      rw [hvx] at e2
      refine ⟨osum_fit E φ (by omega) fun p hp => bd p (by rw [e]; simp [hp]), ?_, ?_, e2⟩
      · have := osum_fit E φ (q := [o]) (by simp) fun p hp => bd p (by rw [List.mem_singleton.1 hp]; exact ho)
        rw [show osum x h u v b r φ [o] = prob x h u v b r o * (φ (vx x b o.to) : Rat) from Rat.add_zero _, hvx] at this
        exact this
      · rw [← e2]
        exact osum_fit E φ (by simp; omega) fun p hp => by
          rcases List.mem_append.1 hp with hp | hp
          · exact bd p (by rw [e]; simp [hp])
          · rw [List.mem_singleton.1 hp]; exact bd o ho
    have q0 := all (f0 x) fun w hw => by obtain ⟨_, k, _⟩ := point_f E hw; omega
    have q1 := all (f1 x) fun w hw => by obtain ⟨_, _, k, _⟩ := point_f E hw; omega
    have q2 := all (f2 x) fun w hw => by obtain ⟨_, _, _, k⟩ := point_f E hw; omega
    have q3 := all (fun _ => 1) fun w hw => by show (1 : Int).natAbs ≤ 50000; decide
    have hp := prob_fit E o
    have e3 : prob x h u v b r o * (((fun _ => 1 : Nat → Int) w : Int) : Rat) = prob x h u v b r o := by show prob x h u v b r o * ((1 : Int) : Rat) = _; exact Rat.mul_one _
    rw [e3] at q3
    rw [clearwaylaw24_DynamicsMeans_l119, lt, hto, bnds (split_keyM hc g hw s.hb), bnds pw, outs_p ho]
    rw [if_neg (by simp), if_neg (by simp), if_neg (by simp), if_neg (by simp), bnds (add_fit q3.1 hp q3.2.2.1), if_neg (by simp), ← q3.2.2.2]
    rw [bnds (ixT (i := (0 : Int)) (k := 0) (x := f0 x w) rfl rfl), bnds (from_fit (z := f0 x w) (by omega) (by omega)), bnds (mul_fit hp (int_fit (by omega) (by omega)) q0.2.1), if_neg (by simp), bnds (add_fit q0.1 q0.2.1 q0.2.2.1), if_neg (by simp), ← q0.2.2.2]
    rw [bnds (ixT (i := (1 : Int)) (k := 1) (x := f1 x w) rfl rfl), bnds (from_fit (z := f1 x w) (by omega) (by omega)), bnds (mul_fit hp (int_fit (by omega) (by omega)) q1.2.1), if_neg (by simp), bnds (add_fit q1.1 q1.2.1 q1.2.2.1), if_neg (by simp), ← q1.2.2.2]
    rw [bnds (ixT (i := (2 : Int)) (k := 2) (x := f2 x w) rfl rfl), bnds (from_fit (z := f2 x w) (by omega) (by omega)), bnds (mul_fit hp (int_fit (by omega) (by omega)) q2.2.1), if_neg (by simp), bnds (add_fit q2.1 q2.2.1 q2.2.2.1), if_neg (by simp), ← q2.2.2.2]
    exact l119go hl s J l (q ++ [o]) (by rw [e]; simp)
theorem osum_mean (φ : Nat → Int) (ψ : Nat → Rat) (hφ : ∀ w, (φ w : Rat) = ψ w) : osum x h u v b r φ (outs x h u v b r) = rsum ((termsT x h u v b r).map fun t => t.2 * ψ (vx x b t.1)) := by
  rw [← outs_mean (fun k => ψ (vx x b k))]
  unfold osum prob
  congr 1
  refine List.map_congr_left fun o _ => ?_
  rw [hφ]
theorem fgk0 (w : Nat) : ((f0 x w : Int) : Rat) = fgk x (axV x.height) one1 one1 w := by unfold fgk one1; rw [Rat.mul_one, Rat.mul_one]; rfl
theorem fgk1 (w : Nat) : ((f1 x w : Int) : Rat) = fgk x one1 (axV x.own) one1 w := by unfold fgk one1; rw [Rat.mul_one, Rat.one_mul]; rfl
theorem fgk2 (w : Nat) : ((f2 x w : Int) : Rat) = fgk x one1 one1 (axV x.other) w := by unfold fgk one1; rw [Rat.one_mul, Rat.one_mul]; rfl
theorem fgkc (w : Nat) : (((fun _ => 1 : Nat → Int) w : Int) : Rat) = fgk x one1 one1 one1 w := by unfold fgk one1; rw [Rat.one_mul, Rat.one_mul]; rfl
theorem inside_p (l : List Int) (hl : Axis l) (p q : Int) : ∃ a z, l[0]? = some a ∧ l[l.length - 1]? = some z ∧ clearwaylaw24_inside_p l p q = some (decide (a ≤ p) && decide (q ≤ z)) := by
  have n1 := hl.ne
  have n2 := hl.le
  obtain ⟨a, ha⟩ : ∃ a, l[0]? = some a := ⟨l[0]'(by omega), by simp⟩
  obtain ⟨z, hz⟩ : ∃ z, l[l.length - 1]? = some z := ⟨l[l.length - 1]'(by omega), by simp⟩
  refine ⟨a, z, ha, hz, ?_⟩
  unfold clearwaylaw24_inside_p
  rw [bnds (ixT (i := (0 : Int)) (k := 0) rfl ha)]
  by_cases h1 : a ≤ p
  · rw [if_pos h1, bnds (ixT (k := l.length - 1) (by rw [wi64 (by omega) (by omega)]; omega) hz)]
    simp [h1]
  · rw [if_neg h1]
    simp [h1]
/-- The noises lie between the first and the last. -/
theorem noise_between {l : List NoiseD} (h : NzL l) {p q n : NoiseD} (hp : l[0]? = some p) (hq : l[l.length - 1]? = some q) (hn : n ∈ l) : p.delta ≤ n.delta ∧ n.delta ≤ q.delta := by
  obtain ⟨i, hi⟩ := List.getElem?_of_mem hn
  have hpw := List.pairwise_iff_getElem.1 h.asc
  obtain ⟨hil, rfl⟩ := List.getElem?_eq_some_iff.1 hi
  obtain ⟨h0, rfl⟩ := List.getElem?_eq_some_iff.1 hp
  obtain ⟨h1, rfl⟩ := List.getElem?_eq_some_iff.1 hq
  constructor
  · rcases Nat.eq_zero_or_pos i with e | e
    · subst e; exact Int.le_refl _
    · exact Int.le_of_lt (hpw 0 i h0 hil e)
  · rcases Nat.lt_or_ge i (l.length - 1) with e | e
    · exact Int.le_of_lt (hpw i _ hil h1 e)
    · have : i = l.length - 1 := by omega
      subst this; exact Int.le_refl _
theorem noise_ends {l : List NoiseD} (h : NzL l) : ∃ p q, l[0]? = some p ∧ l[l.length - 1]? = some q ∧ ix l (0 : Int) = some p ∧ ix l (IntKind.i64.wrap ((l.length : Int) - 1)) = some q := by
  have n1 := h.n1
  have n5 := h.n5
  obtain ⟨a, ha⟩ : ∃ a, l[0]? = some a := ⟨l[0]'(by omega), by simp⟩
  obtain ⟨z, hz⟩ : ∃ z, l[l.length - 1]? = some z := ⟨l[l.length - 1]'(by omega), by simp⟩
  exact ⟨a, z, ha, hz, ixT (i := (0 : Int)) (k := 0) rfl ha, ixT (k := l.length - 1) (by rw [wi64 (by omega) (by omega)]; omega) hz⟩
theorem clamp_mean {l : List NoiseD} (h : NzL l) {c : List Int} {z a e : Int} {p q : NoiseD} (hp : l[0]? = some p) (hq : l[l.length - 1]? = some q) (ha : c[0]? = some a) (he : c[c.length - 1]? = some e) (h1 : a ≤ z + p.delta) (h2 : z + q.delta ≤ e) :
    rsum (l.map fun n => n.p.rat * ((clampL c (z + n.delta) : Int) : Rat)) = rsum (l.map fun n => n.p.rat * ((z + n.delta : Int) : Rat)) := by
  congr 1
  refine List.map_congr_left fun n hn => ?_
  have := noise_between h hp hq hn
  rw [clamp_id ha he (by omega) (by omega)]
end
theorem means_law (x : ModelD) (hl : LimM x) (h u v b : Int) : clearwaylaw24_DynamicsMeans_p x h u v b = some true := by
  obtain ⟨lg, hlg⟩ := long24 x
  unfold clearwaylaw24_DynamicsMeans_p
  rw [bnds hlg, awake_p]
  by_cases hg : lg = true
  · rw [if_pos hg]; rfl
  rw [if_neg hg, Option.bind_some, if_neg (by decide)]
  obtain ⟨l, e, hs, h1, h2⟩ := Spread_cases hl h u v b
  obtain ⟨ec, hc0, gc⟩ := check_p x
  obtain ⟨rr, f, hR, _, _⟩ := Respond_p hc0 gc u b
  rw [bnds hs]
  by_cases he : e = 0
  · subst he
    obtain ⟨r, s, rfl⟩ := h2 rfl
    have ff := s.f
    obtain ⟨hc, g⟩ := ff.good hl
    have E := ff.env hl s.hh s.hu s.hv s.hb s.hr
    have hb := s.hb
    have hR : dynamics_Respond_p x u b = some (r, 0) := by
      unfold dynamics_Respond_p
      rw [bnds hc, if_neg (by decide), show dynamics_within_p (100 : Int) = some 100 from rfl, Option.bind_some, within1 _ 100 (by decide), Option.bind_some, if_neg (inSn.2 fun z hz => by rw [List.mem_singleton.1 hz]; exact s.hu), bnds (known_p hc g b), if_pos hb, if_neg (by decide), bnds s.hr]
    have b1 := s.hh; have b2 := s.hu; have b3 := s.hv; have b4 := E.r0; have b5 := E.r1
    obtain ⟨t1, t2, t3, t4⟩ := terms_mean E ff.no.sum ff.nt.sum
    have o1 := (osum_mean (x := x) (h := h) (u := u) (v := v) (b := b) (r := r) _ _ fgkc).trans t1
    have o2 := (osum_mean (x := x) (h := h) (u := u) (v := v) (b := b) (r := r) _ _ fgk0).trans t2
    have o3 := (osum_mean (x := x) (h := h) (u := u) (v := v) (b := b) (r := r) _ _ fgk1).trans t3
    have o4 := (osum_mean (x := x) (h := h) (u := u) (v := v) (b := b) (r := r) _ _ fgk2).trans t4
    have hne : outs x h u v b r ≠ [] := fun e => by
      rw [e] at o1
      exact absurd (show (0 : Rat) = 1 from o1) (by decide)
    rw [bnds hR, if_neg (by simp), if_neg (by simp), if_neg (by simpa using hne), lt, List.drop_zero]
    rw [show Raw.zero = Raw.of (osum x h u v b r (f0 x) []) from of0.symm]
    show clearwaylaw24_DynamicsMeans_l119 x b _ (outs x h u v b r) (Raw.of (osum x h u v b r (f0 x) [])) (Raw.of (osum x h u v b r (f1 x) [])) (Raw.of (osum x h u v b r (f2 x) [])) (Raw.of (osum x h u v b r (fun _ => 1) [])) = some true
    rw [l119go hl s _ (outs x h u v b r) [] rfl]
    simp only []
    rw [o1, o2, o3, o4, bnds (from_fit (z := 1) (by decide) (by decide))]
    unfold clearwaykit_EqualRat_p
    rw [Option.bind_some, if_neg (by simp)]
    rw [wi64 (x := h + v) (by omega) (by omega), wi64 (x := h + v - u) (by omega) (by omega)]
    obtain ⟨a0, z0, p1, p2, p3⟩ := inside_p x.height E.h1 (h + v - u) (h + v - u)
    rw [bnds p3]
    by_cases i0 : a0 ≤ h + v - u ∧ h + v - u ≤ z0
    · rw [if_neg (by simp [i0])]
      obtain ⟨n0, n1, m0, m1, m2, m3⟩ := noise_ends ff.no
      have w0 := ff.no.el n0 (List.mem_of_getElem? m0)
      have w1 := ff.no.el n1 (List.mem_of_getElem? m1)
      have w01 := w0.lo; have w02 := w0.hi; have w11 := w1.lo; have w12 := w1.hi
      rw [bnds m2, bnds m3, wi64 (x := r + n0.delta) (by omega) (by omega), wi64 (x := r + n1.delta) (by omega) (by omega)]
      obtain ⟨a1, z1, q1, q2, q3⟩ := inside_p x.own E.h2 (r + n0.delta) (r + n1.delta)
      rw [bnds q3]
      by_cases i1 : a1 ≤ r + n0.delta ∧ r + n1.delta ≤ z1
      · rw [if_neg (by simp [i1])]
        obtain ⟨k0, k1, l0, l1, l2, l3⟩ := noise_ends ff.nt
        have v0 := ff.nt.el k0 (List.mem_of_getElem? l0)
        have v1 := ff.nt.el k1 (List.mem_of_getElem? l1)
        have v01 := v0.lo; have v02 := v0.hi; have v11 := v1.lo; have v12 := v1.hi
        rw [bnds l2, bnds l3, wi64 (x := v + k0.delta) (by omega) (by omega), wi64 (x := v + k1.delta) (by omega) (by omega)]
        obtain ⟨a2, z2, s1, s2, s3⟩ := inside_p x.other E.h3 (v + k0.delta) (v + k1.delta)
        rw [bnds s3]
        by_cases i2 : a2 ≤ v + k0.delta ∧ v + k1.delta ≤ z2
        · rw [if_neg (by simp [i2]), bnds (from_fit (z := r) (by omega) (by omega)), bnds (mean_eq ff.no hl.o), bnds (add_mean ff.no hl.o (by omega) (by omega)), bnds (from_fit (z := v) (by omega) (by omega)), bnds (mean_eq ff.nt hl.t), bnds (add_mean ff.nt hl.t (by omega) (by omega))]
          rw [if_pos (by simp), if_pos (by simp), bnds (from_fit (z := h + v - u) (by omega) (by omega)), Option.bind_some, clamp_id p1 p2 i0.1 i0.2, if_pos (by simp), clamp_mean ff.no m0 m1 q1 q2 i1.1 i1.2, Option.bind_some, if_pos (by simp), clamp_mean ff.nt l0 l1 s1 s2 i2.1 i2.2]
          simp
        · rw [if_pos (by simp; omega)]
      · rw [if_pos (by simp; omega)]
    · rw [if_pos (by simp; omega)]
  · rw [bnds hR, if_pos (by simpa using he), h1 he]
    rfl
end Go.Proofs.YtppalofalmieaaaGreat

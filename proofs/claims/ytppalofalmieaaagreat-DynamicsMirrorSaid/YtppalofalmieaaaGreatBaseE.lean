/- Parts of the proof: P2 A7 A9a A9b P3 Q1 Q2 Q3 Q4 P4 P5. By an AI agent. -/
import Derived.Test.YtppalofalmieaaaGreatBaseA
import Derived.Test.YtppalofalmieaaaGreatBaseB
import Derived.Test.YtppalofalmieaaaGreatBaseC
import Derived.Test.YtppalofalmieaaaGreatBaseD
set_option linter.unusedVariables false
set_option linter.unusedSimpArgs false
set_option linter.unnecessarySimpa false
/- What Check answers, in plain words. By an AI agent. -/
namespace Go.Proofs.YtppalofalmieaaaGreat
open Go Go.Gv Go.RowKit
set_option maxRecDepth 100000
set_option maxHeartbeats 1000000
theorem bnds {α β : Type} {o : Option α} {a : α} {f : α → Option β} (h : o = some a) : o.bind f = f a := by subst h; rfl
/-- The first answers; where it answers 0 the second does too. -/
def Z0 (o J : Option Int) : Prop := ∃ e, o = some e ∧ (e = 0 → J = some 0)
theorem Z0.self {J : Option Int} (h : ∃ e, J = some e) : Z0 J J := h.elim fun e he => ⟨e, he, fun h => h ▸ he⟩
theorem Z0.nz {e : Int} {J : Option Int} (h : e ≠ 0) : Z0 (some e) J := ⟨e, rfl, fun h' => absurd h' h⟩
theorem Z0.trans {o J K : Option Int} (h : Z0 o J) (k : Z0 J K) : Z0 o K := by
  obtain ⟨e, h1, h2⟩ := h
  obtain ⟨f, k1, k2⟩ := k
  exact ⟨e, h1, fun h => k2 (by have := h2 h; rw [k1] at this; exact Option.some.inj this)⟩
theorem grdT {p : Prop} [Decidable p] {α : Type} {x : Option α} (h : p) : grd p x = x := if_pos h
theorem ixT {α : Type} {l : List α} {i : Int} {k : Nat} {x : α} (hi : i = (k : Int)) (h : l[k]? = some x) : ix l i = some x := by
  subst hi
  unfold ix
  rw [if_pos (Int.natCast_nonneg k)]
  simpa using h
theorem has1 (z : Int) (s : SpanD) : dynamics_span_has_1_p z s = some (decide (z < s.lo) || decide (z > s.hi)) := by
  unfold dynamics_span_has_1_p
  split
  · rename_i h; simp [h]
  · rename_i h; simp [h]
theorem idxf (s : SpanD) : ∀ (l : List Int) (k : Nat), ∃ r, slices_IndexFunc_int_int_s109_l4 s (some (-1)) l k = some r ∧ (decide (r ≥ 0) = l.any fun z => decide (z < s.lo) || decide (z > s.hi))
  | [], k => ⟨-1, by simp [slices_IndexFunc_int_int_s109_l4], by simp⟩
  | z :: l, k => by
    obtain ⟨r, h1, h2⟩ := idxf s l (k + 1)
    rw [slices_IndexFunc_int_int_s109_l4, bnds (has1 z s), List.any_cons]
    cases hz : (decide (z < s.lo) || decide (z > s.hi))
    · exact ⟨r, by simpa using h1, by simpa using h2⟩
    · exact ⟨k, by simp, by simp⟩
def inS (lo hi : Int) (l : List Int) : Bool := l.all fun z => decide (lo ≤ z) && decide (z ≤ hi)
theorem inS_iff {lo hi : Int} {l : List Int} : inS lo hi l = true ↔ ∀ z ∈ l, lo ≤ z ∧ z ≤ hi := by simp [inS]
theorem has_p (lo hi : Int) (l : List Int) : dynamics_span_has_p ⟨lo, hi⟩ l = some (inS lo hi l) := by
  obtain ⟨r, h1, h2⟩ := idxf ⟨lo, hi⟩ l 0
  unfold dynamics_span_has_p slices_ContainsFunc_int_int_s109_p slices_IndexFunc_int_int_s109_p
  simp only [lt, List.drop_zero, h1, Option.bind_some, h2, Option.some.injEq]
  rw [List.not_any_eq_all_not, inS]
  congr 1
  funext z
  by_cases h3 : z < lo <;> by_cases h4 : z > hi <;> simp [h3, h4] <;> omega
theorem within1 (l : List Int) (m : Int) (hm : IntKind.i64.wrap (0 - m) = -m) : dynamics_within_1_p l m = some (inS (-m) m l) := by
  unfold dynamics_within_1_p
  rw [hm, has_p]
  rfl
/-! ### The grid -/
theorem drop_cons {α : Type} {l r : List α} {x : α} {k : Nat} (h : x :: r = l.drop k) : k < l.length ∧ r = l.drop (k + 1) := by
  constructor
  · apply Classical.byContradiction
    intro hk
    rw [List.drop_eq_nil_of_le (by omega)] at h
    cases h
  · rw [← List.tail_drop, ← h]; rfl
theorem iCheck17 (x : List Int) (J : Option Int) (hx : x.length ≤ 32) (hJ : ∃ e, J = some e) : ∀ (l : List Int) (k : Nat), l = x.drop k → Z0 (interp_Check_l17 x J l k) J
  | [], k, _ => by rw [interp_Check_l17]; exact Z0.self hJ
  | z :: l, k, h => by
    obtain ⟨hk, hr⟩ := drop_cons h
    have ih := iCheck17 x J hx hJ l (k + 1) hr
    rw [interp_Check_l17]
    split
    · exact Z0.nz (by decide)
    split
    · exact Z0.nz (by decide)
    split
    · rename_i h0
      obtain ⟨q, hq⟩ : ∃ q, x[k - 1]? = some q := ⟨x[k - 1]'(by omega), by simp⟩
      rw [bnds (ixT (k := k - 1) (by rw [wi64 (by omega) (by omega)]; omega) hq)]
      split
      · exact Z0.nz (by decide)
      · exact ih
    · exact ih
theorem iCheck10 (J : Option Int) (hJ : ∃ e, J = some e) : ∀ l : List (List Int), ∃ e, interp_Check_l10 J l = some e ∧ (e = 0 → J = some 0 ∧ ∀ x ∈ l, 1 ≤ x.length ∧ x.length ≤ 32)
  | [] => by
    obtain ⟨e, he⟩ := hJ
    exact ⟨e, by rw [interp_Check_l10]; exact he, fun h => ⟨h ▸ he, fun _ h => by cases h⟩⟩
  | x :: l => by
    obtain ⟨e, h1, h2⟩ := iCheck10 J hJ l
    rw [interp_Check_l10, lt]
    split
    · exact ⟨3, rfl, fun h => by cases h⟩
    rename_i h3
    split
    · exact ⟨4, rfl, fun h => by cases h⟩
    rename_i h4
    have hx : x.length ≤ 32 := by omega
    have h0 : 1 ≤ x.length := by
      rcases Nat.eq_zero_or_pos x.length with h | h
      · rw [h] at h3; exact absurd rfl h3
      · exact h
    obtain ⟨e', h5, h6⟩ := iCheck17 x (interp_Check_l10 J l) hx ⟨e, h1⟩ (x.drop 0) 0 rfl
    refine ⟨e', h5, fun h => ?_⟩
    have h7 := h6 h
    rw [h1] at h7
    obtain ⟨h8, h9⟩ := h2 (Option.some.inj h7)
    exact ⟨h8, fun y hy => by
      rcases List.mem_cons.1 hy with rfl | hy
      · exact ⟨h0, hx⟩
      · exact h9 y hy⟩
theorem isize3 (a b c : List Int) : interp_size_p [a, b, c] = some (IntKind.i64.wrap (IntKind.i64.wrap (IntKind.i64.wrap (1 * (a.length : Int)) * (b.length : Int)) * (c.length : Int))) := by
  unfold interp_size_p lt
  simp only [List.drop_zero, interp_size_l4]
theorem iCheck (a b c : List Int) : ∃ e, interp_Check_p [a, b, c] = some e ∧ (e = 0 → ∀ x ∈ [a, b, c], 1 ≤ x.length ∧ x.length ≤ 32) := by
  unfold interp_Check_p
  rw [if_neg (by simp), if_neg (by simp), lt, bnds (isize3 a b c)]
  have hJ : ∀ p : Prop, [Decidable p] → ∃ e, (if p then some (10 : Int) else some 0) = some e := fun p _ => by
    split
    · exact ⟨_, rfl⟩
    · exact ⟨_, rfl⟩
  obtain ⟨e, h1, h2⟩ := iCheck10 _ (hJ (IntKind.i64.wrap (IntKind.i64.wrap (IntKind.i64.wrap (1 * (a.length : Int)) * (b.length : Int)) * (c.length : Int)) > 256)) ([a, b, c].drop 0)
  exact ⟨e, h1, fun h => (h2 h).2⟩
/-! ### Numbers and noises -/
theorem cRat (r : Raw) : ∃ e, dynamics_checkRat_p r = some e := by
  unfold dynamics_checkRat_p rat_Check_p
  simp only [Option.bind_some]
  split
  · exact ⟨_, rfl⟩
  split
  · exact ⟨_, rfl⟩
  split
  · exact ⟨_, rfl⟩
  · exact ⟨_, rfl⟩
theorem nz_of {e : Int} (h : (e != 0) = true) : e ≠ 0 := by simpa using h
theorem z_of {e : Int} (h : ¬ (e != 0) = true) : e = 0 := by simpa using h
theorem cNoise17 (p0 : List NoiseD) (hp : p0.length ≤ 5) (J : Raw → Option Int) (hJ : ∀ v, ∃ e, J v = some e) : ∀ (l : List NoiseD) (k : Nat) (v : Raw), l = p0.drop k → ∃ e, dynamics_checkNoise_l17 p0 J l k v = some e
  | [], k, v, _ => by rw [dynamics_checkNoise_l17]; exact hJ v
  | x :: l, k, v, h => by
    obtain ⟨hk, hr⟩ := drop_cons h
    rw [dynamics_checkNoise_l17, lt]
    obtain ⟨e, he⟩ := cRat x.p
    have hA : ∃ e, (dynamics_checkRat_p x.p).bind (fun y25 => if ((y25) != 0) = true then (some y25) else (if x.p.neg = true then (some 1) else (if ((x.p.ln.length : Int) == 0) = true then (some 1) else ((rat_Add_p v x.p).bind fun y31 => dynamics_checkNoise_l17 p0 J l (k + 1) y31.1)))) = some e := by
      rw [bnds he]
      split
      · exact ⟨_, rfl⟩
      split
      · exact ⟨_, rfl⟩
      split
      · exact ⟨_, rfl⟩
      · unfold rat_Add_p
        rw [Option.bind_some]
        exact cNoise17 p0 hp J hJ l (k + 1) _ hr
    rw [show dynamics_within_p (100 : Int) = some 100 from rfl, Option.bind_some, within1 _ 100 (by decide), Option.bind_some]
    split
    · exact ⟨_, rfl⟩
    split
    · rename_i h0
      obtain ⟨q, hq⟩ : ∃ q, p0[k - 1]? = some q := ⟨p0[k - 1]'(by omega), by simp⟩
      rw [bnds (ixT (k := k - 1) (by rw [wi64 (by omega) (by omega)]; omega) hq)]
      split
      · exact ⟨_, rfl⟩
      · exact hA
    · exact hA
theorem cNoise (l : List NoiseD) : ∃ e, dynamics_checkNoise_p l = some e := by
  unfold dynamics_checkNoise_p
  split
  · exact ⟨_, rfl⟩
  split
  · exact ⟨_, rfl⟩
  rename_i h5
  rw [lt]
  refine cNoise17 l (by omega) _ (fun v => ?_) _ 0 _ rfl
  rw [show rat_From_p (1 : Int) = some (Raw.of ((1 : Int) : Rat)) from grdT (by decide), Option.bind_some]
  unfold rat_Cmp_p
  rw [Option.bind_some]
  split
  · exact ⟨_, rfl⟩
  · exact ⟨_, rfl⟩
theorem c62 (x : ModelD) (J : Option Int) (hJ : ∃ e, J = some e) : ∀ (r k : Nat), r + k = 3 → Z0 (dynamics_Check_l62 x J r k) J
  | 0, k, _ => by rw [dynamics_Check_l62]; exact Z0.self hJ
  | r + 1, k, h => by
    have ih := c62 x J hJ r (k + 1) (by omega)
    rw [dynamics_Check_l62]
    obtain ⟨q, hq⟩ : ∃ q, [x.alert, x.strengthen, x.reversal][k]? = some q := ⟨[x.alert, x.strengthen, x.reversal][k]'(by simp; omega), by simp⟩
    rw [bnds (ixT (k := k) rfl hq)]
    obtain ⟨e, he⟩ := cRat q
    rw [bnds he]
    split
    · rename_i hn; exact Z0.nz (nz_of hn)
    split
    · exact Z0.nz (by decide)
    · exact ih
theorem c78 (x : ModelD) (J : Option Int) (hJ : ∃ e, J = some e) : ∀ (r k : Nat), r + k = 2 → Z0 (dynamics_Check_l78 x J r k) J
  | 0, k, _ => by rw [dynamics_Check_l78]; exact Z0.self hJ
  | r + 1, k, h => by
    have ih := c78 x J hJ r (k + 1) (by omega)
    rw [dynamics_Check_l78]
    obtain ⟨q, hq⟩ : ∃ q, [x.ownNoise, x.otherNoise][k]? = some q := ⟨[x.ownNoise, x.otherNoise][k]'(by simp; omega), by simp⟩
    rw [bnds (ixT (k := k) rfl hq)]
    obtain ⟨e, he⟩ := cNoise q
    rw [bnds he]
    split
    · rename_i hn; exact Z0.nz (nz_of hn)
    · exact ih
theorem c92 (J : Option Int) (hJ : ∃ e, J = some e) : ∀ l : List BoundsD, ∃ e, dynamics_Check_l92 100 J l = some e ∧ (e = 0 → J = some 0 ∧ ∀ y ∈ l, y.lo ≤ y.hi ∧ -100 ≤ y.lo ∧ y.lo ≤ 100 ∧ -100 ≤ y.hi ∧ y.hi ≤ 100)
  | [] => by
    obtain ⟨e, he⟩ := hJ
    exact ⟨e, by rw [dynamics_Check_l92]; exact he, fun h => ⟨h ▸ he, fun _ h => by cases h⟩⟩
  | y :: l => by
    obtain ⟨e, h1, h2⟩ := c92 J hJ l
    have key : ∀ v : Bool, ∃ e, (if v = true then (some 6) else (if (y.lo) > y.hi then (some 1) else ((dynamics_within_1_p ([y.lo, y.hi]) 100).bind fun y104 => if (!y104) = true then (some 1) else (dynamics_Check_l92 100 J l)))) = some e ∧ (e = 0 → J = some 0 ∧ ∀ z ∈ y :: l, z.lo ≤ z.hi ∧ -100 ≤ z.lo ∧ z.lo ≤ 100 ∧ -100 ≤ z.hi ∧ z.hi ≤ 100) := fun v => by
      split
      · exact ⟨6, rfl, fun h => by cases h⟩
      split
      · exact ⟨1, rfl, fun h => by cases h⟩
      rename_i hlo
      rw [within1 _ 100 (by decide), Option.bind_some]
      split
      · exact ⟨1, rfl, fun h => by cases h⟩
      rename_i hin
      have hin' : inS (-100) 100 [y.lo, y.hi] = true := by simpa using hin
      have h9 := inS_iff.1 hin'
      have h10 := h9 y.lo (by simp)
      have h11 := h9 y.hi (by simp)
      refine ⟨e, h1, fun h => ⟨(h2 h).1, fun z hz => ?_⟩⟩
      rcases List.mem_cons.1 hz with rfl | hz
      · exact ⟨by omega, h10.1, h10.2, h11.1, h11.2⟩
      · exact (h2 h).2 z hz
    rw [dynamics_Check_l92, lt]
    split
    · exact key _
    · exact key _
/-! ### Check -/
structure Good (x : ModelD) : Prop where
  h1 : 1 ≤ x.height.length
  h2 : x.height.length ≤ 32
  o1 : 1 ≤ x.own.length
  o2 : x.own.length ≤ 32
  t1 : 1 ≤ x.other.length
  t2 : x.other.length ≤ 32
  a1 : 1 ≤ x.advisories.length
  a2 : x.advisories.length ≤ 6
  p1 : 0 ≤ x.pull
  p2 : x.pull ≤ 100
  adv : ∀ y ∈ x.advisories.drop 1, y.lo ≤ y.hi ∧ -100 ≤ y.lo ∧ y.lo ≤ 100 ∧ -100 ≤ y.hi ∧ y.hi ≤ 100
theorem size_p (x : ModelD) : ∃ n, dynamics_size_p x = some n ∧ (x.height.length ≤ 32 → x.own.length ≤ 32 → x.other.length ≤ 32 → x.advisories.length ≤ 6 → n = ((x.height.length * x.own.length * x.other.length * x.advisories.length : Nat) : Int)) := by
  unfold dynamics_size_p
  rw [Option.bind_some]
  refine ⟨_, rfl, fun h1 h2 h3 h4 => ?_⟩
  have e1 : x.height.length * x.own.length ≤ 32 * 32 := Nat.mul_le_mul h1 h2
  have e2 : x.height.length * x.own.length * x.other.length ≤ 32 * 32 * 32 := Nat.mul_le_mul e1 h3
  have e3 : x.height.length * x.own.length * x.other.length * x.advisories.length ≤ 32 * 32 * 32 * 6 := Nat.mul_le_mul e2 h4
  have w1 : ∀ a b : Nat, a * b ≤ 196608 → IntKind.i64.wrap ((a : Int) * (b : Int)) = ((a * b : Nat) : Int) := fun a b h => by
    rw [← Int.natCast_mul]
    exact wi64 (by omega) (by omega)
  rw [w1 _ _ (by omega), w1 _ _ (by omega), w1 _ _ (by omega)]
theorem check_p (x : ModelD) : ∃ e, dynamics_Check_p x = some e ∧ (e = 0 → Good x) := by
  unfold dynamics_Check_p
  rw [show dynamics_within_p (100 : Int) = some 100 from rfl, Option.bind_some, show dynamics_grid_p x = some [x.height, x.own, x.other] from rfl, Option.bind_some]
  obtain ⟨e1, h1, g1⟩ := iCheck x.height x.own x.other
  rw [bnds h1]
  split
  · rename_i hn; exact ⟨e1, rfl, fun h => absurd h (nz_of hn)⟩
  rename_i hz1
  have hg := g1 (z_of hz1)
  rw [show dynamics_within_p (50000 : Int) = some 50000 from rfl, Option.bind_some, within1 _ 50000 (by decide), Option.bind_some]
  split
  · exact ⟨1, rfl, fun h => by cases h⟩
  rw [within1 _ 100 (by decide), Option.bind_some]
  split
  · exact ⟨1, rfl, fun h => by cases h⟩
  rw [within1 _ 100 (by decide), Option.bind_some]
  split
  · exact ⟨1, rfl, fun h => by cases h⟩
  split
  · exact ⟨3, rfl, fun h => by cases h⟩
  rename_i ha1
  split
  · exact ⟨4, rfl, fun h => by cases h⟩
  rename_i ha2
  have ha1' : 1 ≤ x.advisories.length := by
    rcases Nat.eq_zero_or_pos x.advisories.length with h | h
    · rw [h] at ha1; exact absurd rfl ha1
    · exact h
  rw [lt, grdT (by omega)]
  have hJ : ∃ e, ((dynamics_span_has_p (SpanD.mk 0 100) ([x.pull])).bind fun y38 => if (!y38) = true then (some 1) else ((dynamics_span_has_p (SpanD.mk 0 50000) ([x.near])).bind fun y44 => if (!y44) = true then (some 1) else ((dynamics_span_has_p (SpanD.mk 0 24) ([x.steps])).bind fun y50 => if (!y50) = true then (some 1) else (lt (lt ((dynamics_size_p x).bind fun y56 => if (y56) > 200 then (some 10) else (some 0)) fun J54 => dynamics_Check_l62 x J54 ((3 : Int).toNat - 0) 0) fun J53 => dynamics_Check_l78 x J53 ((2 : Int).toNat - 0) 0)))) = some e ∧ (e = 0 → 0 ≤ x.pull ∧ x.pull ≤ 100) := by
    rw [has_p, Option.bind_some]
    split
    · exact ⟨1, rfl, fun h => by cases h⟩
    rename_i hp
    have hp' : inS 0 100 [x.pull] = true := by simpa using hp
    have hp2 := inS_iff.1 hp' x.pull (by simp)
    rw [has_p, Option.bind_some]
    split
    · exact ⟨1, rfl, fun h => by cases h⟩
    rw [has_p, Option.bind_some]
    split
    · exact ⟨1, rfl, fun h => by cases h⟩
    obtain ⟨n, hn, _⟩ := size_p x
    rw [lt, lt, bnds hn]
    have hJ0 : ∃ e, (if n > 200 then some (10 : Int) else some 0) = some e := by
      split
      · exact ⟨_, rfl⟩
      · exact ⟨_, rfl⟩
    obtain ⟨e6, h6, _⟩ := c62 x _ hJ0 3 0 rfl
    obtain ⟨e7, h7, _⟩ := c78 x _ ⟨e6, h6⟩ 2 0 rfl
    exact ⟨e7, h7, fun _ => hp2⟩
  obtain ⟨e2, h2, g2⟩ := hJ
  obtain ⟨e3, h3, g3⟩ := c92 _ ⟨e2, h2⟩ ((x.advisories.drop 1).drop 0)
  refine ⟨e3, h3, fun h => ?_⟩
  obtain ⟨g4, g5⟩ := g3 h
  rw [h2] at g4
  have g6 := g2 (Option.some.inj g4)
  have b1 := hg x.height (by simp)
  have b2 := hg x.own (by simp)
  have b3 := hg x.other (by simp)
  exact ⟨b1.1, b1.2, b2.1, b2.2, b3.1, b3.2, ha1', by omega, g6.1, g6.2, g5⟩
end Go.Proofs.YtppalofalmieaaaGreat
namespace Go.Proofs.YtppalofalmieaaaGreat
open Go Go.Gv Go.RowKit
set_option maxRecDepth 100000
set_option maxHeartbeats 1000000
noncomputable def clearwaykit_CopyRat_p (p0 : Raw) : Option (Raw) :=
  grd (p0.ln.length * 4 ≤ 140737488351232 ∧ p0.ld.length * 4 ≤ 140737488351232) (some p0)
theorem clearwaykit_CopyRat_c (w : World) (X : Hid) (hX : ∀ k o, X k o → k < w.heap.size) (p0 : Raw) (vp0 : Value) (hp0 : RawV (rd w X) vp0 p0) (y : Raw) (hp : clearwaykit_CopyRat_p p0 = some y) : Calls Tryz.prog 62 #[vp0] w (Ret E0 w fun w' v => RawV (rd w' X) v y) := by
  obtain ⟨a01, a02, a03, a04, a05, a06, rfl, h01, h02⟩ := hp0
  obtain ⟨⟨hm1, hm2⟩, hp⟩ := grdp hp
  obtain rfl := Option.some.inj hp
  obtain rfl := h01.hlen
  obtain rfl := h02.hlen
  exact (CopyRat_c w X hX p0 _ _ _ h01 _ _ _ h02 hm1 hm2).mono (by rintro e w' ⟨hu, v, rfl, h⟩; exact ⟨hu, _, rfl, h⟩)
noncomputable def clearwaykit_CopyInts_l5 (J2 : (List Int) → Option ((List Int))) : List Int → (List Int) → Option ((List Int))
  | [], v5_0 => J2 v5_0
  | x5 :: r5, v5_0 => grd ((v5_0.length + 1) * 8 ≤ 140737488355328) <| clearwaykit_CopyInts_l5 J2 r5 (v5_0 ++ [x5])
noncomputable def clearwaykit_CopyInts_p (p0 : List Int) : Option ((List Int)) :=
  lt (fun (v2_0 : List Int) => some v2_0) fun J2 => clearwaykit_CopyInts_l5 J2 (p0.drop 0)  ([] : List Int)
theorem clearwaykit_CopyInts_c (w : World) (X : Hid) (hX : ∀ k o, X k o → k < w.heap.size) (p0 : List Int) (vp0 : Value) (hp0 : SV Ints (rd w X) vp0 p0) (y : (List Int)) (hp : clearwaykit_CopyInts_p p0 = some y) : Calls Tryz.prog 59 #[vp0] w (Ret E0 w fun w' v => SV Ints (rd w' (old w)) v y) := by
 obtain ⟨p0a1, p0a2, rfl, p0a_h0⟩ := hp0
 unfold clearwaykit_CopyInts_p at hp
 refine zen Tryz.func59 ?_
 have C0 : St E0 w X w X [] := St.start hX
 refine zz 10 ?_
 have hob := ltd1 hp
 obtain ⟨J2, hJ2, hp⟩ := hob
 refine zjoin (fun ((v2_0, rb2_0, ad2_0, m2_0, cap2_0) : (List Int) × (List (Nat × Obj)) × (Option Addr) × Nat × Nat) => [(3, .slice ad2_0 m2_0 cap2_0)]) (fun ((v2_0, rb2_0, ad2_0, m2_0, cap2_0) : (List Int) × (List (Nat × Obj)) × (Option Addr) × Nat × Nat) w1 => ∃ Y1 : Hid, St E0 w X w1 Y1 (rb2_0) ∧ Le (rd w X) (rd w1 Y1) ∧ GRow IntCs 3 1 (rd w1 (orN Y1 w.heap.size)) rb2_0 ad2_0 m2_0 cap2_0 v2_0 ∧ J2 v2_0 = some y) ?_ ?_
 ·
  rintro ⟨v2_0, rb2_0, ad2_0, m2_0, cap2_0⟩ w2 ⟨Y2, C2, B2, hfv2_0_0, hp⟩
  have hp := (hJ2 _).symm.trans hp
  refine zz 7 ?_
  refine zr' (v := .slice ad2_0 m2_0 cap2_0) ?_
  have hob := St.pubGRN (A := []) (B := []) (fun rb => (rb)) C2 (fun _ => by simp only [List.append_assoc, List.cons_append, List.nil_append, List.append_nil]) hfv2_0_0 (Nat.le_refl _) IntCs.at
  obtain ⟨Y3, hSx3, B3, hRx3⟩ := hob
  have C3 : St E0 w X w2 Y3 [] := hSx3
  have hob := hRx3.hlen
  subst hob
  have hR3 : Ints (rd w2 (orN Y3 w.heap.size)) ad2_0 v2_0.length cap2_0 v2_0 := hRx3
  have hob := Option.some.inj hp
  subst hob
  exact ⟨C3.upd, _, rfl, ⟨_, _, rfl, ((hR3.mono (Le.or (Le.refl _) _))).mono Le.orr⟩⟩
 intro K4 H4
 refine zz 6 ?_
 have hb5 : (p0.length : Int) ≤ 9223372036854775807 := lenb (p0a_h0).hcap (p0a_h0).hbig
 refine zlp Tryz.f59 [K4] [1, 1, 9, 1, 0] (fun ((v5_0, k5, rb5_0, ad5_0, m5_0, cap5_0) : (List Int) × Nat × (List (Nat × Obj)) × (Option Addr) × Nat × Nat) => [(0, .slice p0a1 p0.length p0a2), (3, .slice ad5_0 m5_0 cap5_0), (4, .int .i64 (k5 : Int))]) (fun ((v5_0, k5, rb5_0, ad5_0, m5_0, cap5_0) : (List Int) × Nat × (List (Nat × Obj)) × (Option Addr) × Nat × Nat) w1 => ∃ Y1 : Hid, St E0 w X w1 Y1 (rb5_0) ∧ Le (rd w X) (rd w1 Y1) ∧ GRow IntCs 3 1 (rd w1 (orN Y1 w.heap.size)) rb5_0 ad5_0 m5_0 cap5_0 v5_0 ∧ clearwaykit_CopyInts_l5 J2 (p0.drop k5)  v5_0 = some y) (fun ((v5_0, k5, rb5_0, ad5_0, m5_0, cap5_0) : (List Int) × Nat × (List (Nat × Obj)) × (Option Addr) × Nat × Nat) => p0.length - k5) (([] : List Int), 0, [], none, 0, 0) ?_ ?_
 ·
  exact ⟨_, C0, Le.refl _, GRow.nil, hp⟩
 rintro ⟨v5_0, k5, rb5_0, ad5_0, m5_0, cap5_0⟩ w5 K5 H5 ⟨Y5, C5, B5, hfv5_0_0, hp⟩
 refine zz 9 ?_
 refine zt 8 (p := (k5 : Int) < (p0.length : Int)) (fun ht6 => ?_) (fun ht6 => ?_)
 ·
  have hob := get_lt (l := p0) (k := k5) (lt_of_int ht6)
  obtain ⟨x5, hqx5⟩ := hob
  rw [dropC hqx5, clearwaykit_CopyInts_l5] at hp
  have hzx5 : (0 : Int) ≤ (k5 : Int) := Int.natCast_nonneg _
  refine zz 9 ?_
  have hob := p0a_h0.opn hqx5
  obtain ⟨be7, oe7, rfl, B7, hEe7⟩ := hob
  have hAe7 : At (rd w X) ⟨be7, oe7 + k5 * 1, none⟩ [.int .i64 x5] := hEe7
  refine zi (b := be7) (off := oe7) (len := p0.length) (cap := p0a2) (kd := .i64) (i := (k5 : Int)) 1 (oe7 + k5 * 1) ?_ (h0 := hzx5) (h1 := (ix_b hzx5 B7))
  refine zl ((hAe7.mono B5)).cells ?_
  refine zn (fun b => .slice (some ⟨b, 0, none⟩) 1 1) (.cells #[.int .i64 x5] 3 (0, 0)) C5 ?_
  intro b9 w9 Y9 C9 B9 hu9
  have hob := grdp hp
  obtain ⟨hg11, hp⟩ := hob
  have hln12 : m5_0 = v5_0.length := GRow.len hfv5_0_0
  have hob := (hfv5_0_0.mono (Le.or B9 _))
  obtain ⟨es12, hr12, hq12, hk12, hm12⟩ := hob
  refine zop (at1 [K4, K5] Tryz.f59 [1, 1, 9, 1, 0, 0, 1, 0, 0]) 6 (fun a10 _ G10 hz10 => op_appEZ (b := 8) (m := 1) (c := 1) (ad := ⟨b9, 0, none⟩) (news := [.int .i64 x5]) (i0 := Tryz.t3) (rb := rb5_0) (R1 := []) 1 G10 C9 rfl hr12 (C9.cells 0 rfl rfl) (app_b1 hg11 hln12 rfl) (app_b2 hg11 hln12) ?_)
  intro rb13 ad13 cap13 w13 Y13 hrow13 C13 B13 a14 G14
  have hg13 : GRow IntCs 3 1 (rd w13 (orN Y13 w.heap.size)) rb13 ad13 (m5_0 + 1) cap13 (v5_0 ++ [x5]) := GRow.snoc hrow13 hq12 hk12 hm12 (Le.or B13 _) ⟨rfl, fun r2 h2 => rfl⟩
  refine hz10 G14 ?_
  refine zz 7 ?_
  refine zs 10 (v := .int .i64 (IntKind.i64.wrap ((k5 : Int) + 1))) (v' := .int .i64 ((k5 : Int) + 1)) (vint (wi64 (wk0 k5) (wk1 ht6 hb5))) ?_
  refine zz 2 ?_
  refine znext (fun a h => H5 ((v5_0 ++ [x5]), k5 + 1, rb13, ad13, (m5_0 + 1), cap13) _ a h ⟨_, C13.tail, (Le3 B5 B9 B13), hg13, hp⟩ ?_)
  exact mu_lt ht6
 rw [List.drop_eq_nil_of_le (nlt_of_int ht6), clearwaykit_CopyInts_l5] at hp
 refine zz 5 ?_
 exact znext (fun a h => H4 (v5_0, rb5_0, ad5_0, m5_0, cap5_0) _ a h ⟨_, C5, B5, hfv5_0_0, hp⟩)
noncomputable def clearwaykit_CopyNoise_p (p0 : NoiseD) : Option (NoiseD) :=
  (clearwaykit_CopyRat_p p0.p).bind fun y7 => some (NoiseD.mk p0.delta y7)
theorem clearwaykit_CopyNoise_c (w : World) (X : Hid) (hX : ∀ k o, X k o → k < w.heap.size) (p0 : NoiseD) (vp0 : Value) (hp0 : NoiseDV (rd w X) vp0 p0) (y : NoiseD) (hp : clearwaykit_CopyNoise_p p0 = some y) : Calls Tryz.prog 102 #[vp0] w (Ret E0 w fun w' v => NoiseDV (rd w' X) v y) := by
 have hVp0 := hp0
 obtain ⟨p0a1, p0a2, p0a3, p0a4, rfl, p0a_h0, p0a_h1⟩ := hp0
 unfold clearwaykit_CopyNoise_p at hp
 refine zen Tryz.func102 ?_
 have C0 : St E0 w X w X [] := St.start hX
 refine zz 2 ?_
 refine zn pn (.cells #[.int .i64 p0.delta, .bool p0.p.neg, .slice p0a1 p0.p.ln.length p0a2, .slice p0a3 p0.p.ld.length p0a4] 58 (0, 0)) C0 ?_
 intro b3 w3 Y3 C3 B3 hu3
 refine zn pn (.cells #[.int .i64 0, .bool false, .slice none 0 0, .slice none 0 0] 58 (0, 0)) C3 ?_
 intro b5 w5 Y5 C5 B5 hu5
 refine zz 3 ?_
 refine zdr C5 ?_
 refine gz [0] ?_
 refine gw 1 1 ?_
 refine gz [2] ?_
 refine gw 3 1 ?_
 refine bndk hp fun y7 hy7 hp => ?_
 refine gC 4 (fun w6 Y6 _ C6 B6 => (clearwaykit_CopyRat_c _ _ C6.lt p0.p _ ⟨_, _, _, _, _, _, rfl, (p0a_h0.mono (Le3 B3 B5 B6)), (p0a_h1.mono (Le3 B3 B5 B6))⟩ y7 hy7)) ?_
 rintro v8 w6 Y8 w8 C6 B8 ⟨u8_0_1, u8_0_2, u8_0_3, u8_0_4, u8_0_5, u8_0_6, rfl, u8_0__h0, u8_0__h1⟩
 have hob := u8_0__h0.hlen
 subst hob
 have hob := u8_0__h1.hlen
 subst hob
 refine gz [5] ?_
 refine gX 6 0 #[.int .i64 p0.delta, .bool y7.neg, .slice u8_0_1 y7.ln.length u8_0_3, .slice u8_0_4 y7.ld.length u8_0_6] ?_
 intro w9 Y9 B9
 refine gend (fun w10 Y10 C10 B10 => ?_)
 refine zz 2 ?_
 refine zrS [.cell 2 58] (v := .agg #[.int .i64 p0.delta, .bool y7.neg, .slice u8_0_1 y7.ln.length u8_0_3, .slice u8_0_4 y7.ld.length u8_0_6]) (Res.cM C10 0 Res.nil) ?_
 have hob := Option.some.inj hp
 subst hob
 exact ⟨C10.upd, _, rfl, ⟨_, _, _, _, rfl, ((u8_0__h0.mono (Le2 B9 B10))).mono C10.le, ((u8_0__h1.mono (Le2 B9 B10))).mono C10.le⟩⟩
end Go.Proofs.YtppalofalmieaaaGreat
namespace Go.Proofs.YtppalofalmieaaaGreat
open Go Go.Gv Go.RowKit
set_option maxRecDepth 100000
set_option maxHeartbeats 1000000
noncomputable def clearwaylaw24_mirror_l64 (p0 : ModelD) (v28_0 : List NoiseD) (J58 : (List NoiseD) → Option (ModelD)) : List NoiseD → Nat → (List NoiseD) → Option (ModelD)
  | [], k64, v64_1 => J58 v64_1
  | x64 :: r64, k64, v64_1 => (ix p0.otherNoise (k64 : Int)).bind fun x66 => (ix v64_1 (IntKind.i64.wrap ((IntKind.i64.wrap ((v28_0.length : Int) - 1)) - (k64 : Int)))).bind fun x68 => clearwaylaw24_mirror_l64 p0 v28_0 J58 r64 (k64 + 1) (v64_1.set (IntKind.i64.wrap ((IntKind.i64.wrap ((v28_0.length : Int) - 1)) - (k64 : Int))).toNat (NoiseD.mk (IntKind.i64.wrap ((0 : Int) - x66.delta)) x66.p))
noncomputable def clearwaylaw24_mirror_l75 (p0 : ModelD) (v25_0 : List NoiseD) (J57 : (List NoiseD) → Option (ModelD)) : List NoiseD → Nat → (List NoiseD) → Option (ModelD)
  | [], k75, v75_1 => J57 v75_1
  | x75 :: r75, k75, v75_1 => (ix p0.ownNoise (k75 : Int)).bind fun x77 => (ix v75_1 (IntKind.i64.wrap ((IntKind.i64.wrap ((v25_0.length : Int) - 1)) - (k75 : Int)))).bind fun x79 => clearwaylaw24_mirror_l75 p0 v25_0 J57 r75 (k75 + 1) (v75_1.set (IntKind.i64.wrap ((IntKind.i64.wrap ((v25_0.length : Int) - 1)) - (k75 : Int))).toNat (NoiseD.mk (IntKind.i64.wrap ((0 : Int) - x77.delta)) x77.p))
noncomputable def clearwaylaw24_mirror_l86 (p0 : ModelD) (J56 : (List BoundsD) → Option (ModelD)) : List BoundsD → Nat → (List BoundsD) → Option (ModelD)
  | [], k86, v86_1 => J56 v86_1
  | x86 :: r86, k86, v86_1 => (ix p0.advisories (k86 : Int)).bind fun x88 => (ix v86_1 (k86 : Int)).bind fun x90 => clearwaylaw24_mirror_l86 p0 J56 r86 (k86 + 1) (v86_1.set k86 (BoundsD.mk (IntKind.u8.wrap ((3 : Int) - x88.sense)) (IntKind.i64.wrap ((0 : Int) - x88.hi)) (IntKind.i64.wrap ((0 : Int) - x88.lo))))
noncomputable def clearwaylaw24_mirror_l97 (J28 : (List NoiseD) → Option (ModelD)) : List NoiseD → (List NoiseD) → Option (ModelD)
  | [], v97_0 => J28 v97_0
  | x97 :: r97, v97_0 => (clearwaykit_CopyNoise_p x97).bind fun y101 => grd ((v97_0.length + 1) * 64 ≤ 140737488355328) <| clearwaylaw24_mirror_l97 J28 r97 (v97_0 ++ [y101])
noncomputable def clearwaylaw24_mirror_l111 (J25 : (List NoiseD) → Option (ModelD)) : List NoiseD → (List NoiseD) → Option (ModelD)
  | [], v111_0 => J25 v111_0
  | x111 :: r111, v111_0 => (clearwaykit_CopyNoise_p x111).bind fun y115 => grd ((v111_0.length + 1) * 64 ≤ 140737488355328) <| clearwaylaw24_mirror_l111 J25 r111 (v111_0 ++ [y115])
noncomputable def clearwaylaw24_mirror_l125 (J22 : (List BoundsD) → Option (ModelD)) : List BoundsD → (List BoundsD) → Option (ModelD)
  | [], v125_0 => J22 v125_0
  | x125 :: r125, v125_0 => grd ((v125_0.length + 1) * 24 ≤ 140737488355328) <| clearwaylaw24_mirror_l125 J22 r125 (v125_0 ++ [x125])
noncomputable def clearwaylaw24_mirror_p (p0 : ModelD) : Option (ModelD) :=
  (clearwaykit_CopyInts_p p0.height).bind fun y12 => (clearwaykit_CopyInts_p p0.own).bind fun y15 => (clearwaykit_CopyInts_p p0.other).bind fun y18 => lt (fun (v22_0 : List BoundsD) => lt (fun (v25_0 : List NoiseD) => lt (fun (v28_0 : List NoiseD) => (clearwaykit_CopyRat_p p0.alert).bind fun y30 => (clearwaykit_CopyRat_p p0.strengthen).bind fun y33 => (clearwaykit_CopyRat_p p0.reversal).bind fun y36 => (clearwaylaw24_turned_p p0.height).bind fun y44 => (clearwaylaw24_turned_p p0.own).bind fun y47 => (clearwaylaw24_turned_p p0.other).bind fun y50 => lt (fun (v56_0 : List BoundsD) => lt (fun (v57_0 : List NoiseD) => lt (fun (v58_0 : List NoiseD) => some (ModelD.mk y44 y47 y50 v56_0 p0.pull p0.near p0.steps v57_0 v58_0 y30 y33 y36)) fun J58 => clearwaylaw24_mirror_l64 p0 v28_0 J58 (v28_0.drop 0) 0 v28_0) fun J57 => clearwaylaw24_mirror_l75 p0 v25_0 J57 (v25_0.drop 0) 0 v25_0) fun J56 => clearwaylaw24_mirror_l86 p0 J56 (v22_0.drop 1) 1 v22_0) fun J28 => clearwaylaw24_mirror_l97 J28 (p0.otherNoise.drop 0)  ([] : List NoiseD)) fun J25 => clearwaylaw24_mirror_l111 J25 (p0.ownNoise.drop 0)  ([] : List NoiseD)) fun J22 => clearwaylaw24_mirror_l125 J22 (p0.advisories.drop 0)  ([] : List BoundsD)
theorem clearwaylaw24_mirror_c (w : World) (X : Hid) (hX : ∀ k o, X k o → k < w.heap.size) (p0 : ModelD) (vp0 : Value) (hp0 : ModelDV (rd w X) vp0 p0) (y : ModelD) (hp : clearwaylaw24_mirror_p p0 = some y) : Calls Tryz.prog 12 #[vp0] w (Ret E0 w fun w' v => ModelDV (rd w' X) v y) := by
 have hVp0 := hp0
 refine ModelDV.op hp0 fun p0a1 p0a2 p0a3 p0a4 p0a5 p0a6 p0a7 p0a8 p0a9 p0a10 p0a11 p0a12 p0a13 p0a14 p0a15 p0a16 p0a17 p0a18 p0a19 p0a20 p0a21 p0a22 p0a23 p0a24 hv9 p0a_h0 p0a_h1 p0a_h2 p0a_h3 p0a_h4 p0a_h5 p0a_h6 p0a_h7 p0a_h8 p0a_h9 p0a_h10 p0a_h11 => ?_
 subst hv9
 unfold clearwaylaw24_mirror_p at hp
 refine zen Tryz.func12 ?_
 have C0 : St E0 w X w X [] := St.start hX
 refine zz 2 ?_
 refine zn pn (.cells #[.slice p0a1 p0.height.length p0a2, .slice p0a3 p0.own.length p0a4, .slice p0a5 p0.other.length p0a6, .slice p0a7 p0.advisories.length p0a8, .int .i64 p0.pull, .int .i64 p0.near, .int .i64 p0.steps, .slice p0a9 p0.ownNoise.length p0a10, .slice p0a11 p0.otherNoise.length p0a12, .bool p0.alert.neg, .slice p0a13 p0.alert.ln.length p0a14, .slice p0a15 p0.alert.ld.length p0a16, .bool p0.strengthen.neg, .slice p0a17 p0.strengthen.ln.length p0a18, .slice p0a19 p0.strengthen.ld.length p0a20, .bool p0.reversal.neg, .slice p0a21 p0.reversal.ln.length p0a22, .slice p0a23 p0.reversal.ld.length p0a24] 30 (0, 0)) C0 ?_
 intro b3 w3 Y3 C3 B3 hu3
 refine zn pn (.cells #[.slice none 0 0, .slice none 0 0, .slice none 0 0, .slice none 0 0, .int .i64 0, .int .i64 0, .int .i64 0, .slice none 0 0, .slice none 0 0, .bool false, .slice none 0 0, .slice none 0 0, .bool false, .slice none 0 0, .slice none 0 0, .bool false, .slice none 0 0, .slice none 0 0] 30 (0, 0)) C3 ?_
 intro b5 w5 Y5 C5 B5 hu5
 refine zz 4 ?_
 refine zo 1 C5 ?_
 refine zci (vs := #[.agg #[.slice p0a1 p0.height.length p0a2, .slice p0a3 p0.own.length p0a4, .slice p0a5 p0.other.length p0a6, .slice p0a7 p0.advisories.length p0a8, .int .i64 p0.pull, .int .i64 p0.near, .int .i64 p0.steps, .slice p0a9 p0.ownNoise.length p0a10, .slice p0a11 p0.otherNoise.length p0a12, .bool p0.alert.neg, .slice p0a13 p0.alert.ln.length p0a14, .slice p0a15 p0.alert.ld.length p0a16, .bool p0.strengthen.neg, .slice p0a17 p0.strengthen.ln.length p0a18, .slice p0a19 p0.strengthen.ld.length p0a20, .bool p0.reversal.neg, .slice p0a21 p0.reversal.ln.length p0a22, .slice p0a23 p0.reversal.ld.length p0a24]]) Tryz.func16 (fun R6 hR6 => ?_)
 refine zz 2 ?_
 refine zn pn (.cells #[.slice p0a1 p0.height.length p0a2, .slice p0a3 p0.own.length p0a4, .slice p0a5 p0.other.length p0a6, .slice p0a7 p0.advisories.length p0a8, .int .i64 p0.pull, .int .i64 p0.near, .int .i64 p0.steps, .slice p0a9 p0.ownNoise.length p0a10, .slice p0a11 p0.otherNoise.length p0a12, .bool p0.alert.neg, .slice p0a13 p0.alert.ln.length p0a14, .slice p0a15 p0.alert.ld.length p0a16, .bool p0.strengthen.neg, .slice p0a17 p0.strengthen.ln.length p0a18, .slice p0a19 p0.strengthen.ld.length p0a20, .bool p0.reversal.neg, .slice p0a21 p0.reversal.ln.length p0a22, .slice p0a23 p0.reversal.ld.length p0a24] 30 (0, 0)) C5 ?_
 intro b8 w8 Y8 C8 B8 hu8
 refine zn pn (.cells #[.slice none 0 0, .slice none 0 0, .slice none 0 0, .slice none 0 0, .int .i64 0, .int .i64 0, .int .i64 0, .slice none 0 0, .slice none 0 0, .bool false, .slice none 0 0, .slice none 0 0, .bool false, .slice none 0 0, .slice none 0 0, .bool false, .slice none 0 0, .slice none 0 0] 30 (0, 0)) C8 ?_
 intro b10 w10 Y10 C10 B10 hu10
 refine zz 3 ?_
 refine zdr C10 ?_
 refine gz [0] ?_
 refine gw 1 1 ?_
 refine gz [3] ?_
 refine gw 4 1 ?_
 refine gz [6] ?_
 refine gw 7 1 ?_
 refine gz [9] ?_
 refine gw 10 1 ?_
 refine gz [12] ?_
 refine gw 13 1 ?_
 refine gz [14] ?_
 refine gw 15 1 ?_
 refine gz [16] ?_
 refine gw 17 1 ?_
 refine gz [18] ?_
 refine gw 19 1 ?_
 refine gz [21] ?_
 refine gw 22 1 ?_
 refine gz [24] ?_
 refine gw 25 1 ?_
 refine gz [27] ?_
 refine gw 28 1 ?_
 refine gz [30] ?_
 refine gw 31 1 ?_
 have hc1_ := (Le3 B3 B5 B8).trans B10
 refine bndk hp fun y12 hy12 hp => ?_
 refine gC 2 (fun w11 Y11 _ C11 B11 => (clearwaykit_CopyInts_c _ X0 (X0_lt _) p0.height _ ⟨_, _, rfl, ((p0a_h0.mono (hc1_.trans B11)).mono Le.x0)⟩ y12 hy12)) ?_
 rintro v13 w11 Y13 w13 C11 B13 ⟨u13_0_1, u13_0_2, rfl, u13_0__h0⟩
 have hc2_ := hc1_.trans B13
 refine bndk hp fun y15 hy15 hp => ?_
 refine gC 5 (fun w14 Y14 _ C14 B14 => (clearwaykit_CopyInts_c _ X0 (X0_lt _) p0.own _ ⟨_, _, rfl, ((p0a_h1.mono (hc2_.trans B14)).mono Le.x0)⟩ y15 hy15)) ?_
 rintro v16 w14 Y16 w16 C14 B16 ⟨u16_0_1, u16_0_2, rfl, u16_0__h0⟩
 have hc3_ := hc2_.trans B16
 refine bndk hp fun y18 hy18 hp => ?_
 refine gC 8 (fun w17 Y17 _ C17 B17 => (clearwaykit_CopyInts_c _ X0 (X0_lt _) p0.other _ ⟨_, _, rfl, ((p0a_h2.mono (hc3_.trans B17)).mono Le.x0)⟩ y18 hy18)) ?_
 rintro v19 w17 Y19 w19 C17 B19 ⟨u19_0_1, u19_0_2, rfl, u19_0__h0⟩
 refine gci 11 (vs := #[.slice p0a7 p0.advisories.length p0a8]) Tryz.func60 (fun w20 Y20 C20 B20 R21 hR21 => ?_)
 refine zz 10 ?_
 have hob := ltd1 hp
 obtain ⟨J22, hJ22, hp⟩ := hob
 refine zjoin (fun ((v22_0, rb22_0, ad22_0, m22_0, cap22_0) : (List BoundsD) × (List (Nat × Obj)) × (Option Addr) × Nat × Nat) => [(3, .slice ad22_0 m22_0 cap22_0)]) (fun ((v22_0, rb22_0, ad22_0, m22_0, cap22_0) : (List BoundsD) × (List (Nat × Obj)) × (Option Addr) × Nat × Nat) w1 => ∃ Y1 : Hid, St E0 w X w1 Y1 ((b10, .cells #[.slice none 0 0, .slice none 0 0, .slice none 0 0, .slice none 0 0, .int .i64 0, .int .i64 0, .int .i64 0, .slice none 0 0, .slice none 0 0, .bool false, .slice none 0 0, .slice none 0 0, .bool false, .slice none 0 0, .slice none 0 0, .bool false, .slice none 0 0, .slice none 0 0] 30 (0, 0)) :: (b8, .cells #[.slice p0a1 p0.height.length p0a2, .slice p0a3 p0.own.length p0a4, .slice p0a5 p0.other.length p0a6, .slice p0a7 p0.advisories.length p0a8, .int .i64 p0.pull, .int .i64 p0.near, .int .i64 p0.steps, .slice p0a9 p0.ownNoise.length p0a10, .slice p0a11 p0.otherNoise.length p0a12, .bool p0.alert.neg, .slice p0a13 p0.alert.ln.length p0a14, .slice p0a15 p0.alert.ld.length p0a16, .bool p0.strengthen.neg, .slice p0a17 p0.strengthen.ln.length p0a18, .slice p0a19 p0.strengthen.ld.length p0a20, .bool p0.reversal.neg, .slice p0a21 p0.reversal.ln.length p0a22, .slice p0a23 p0.reversal.ld.length p0a24] 30 (0, 0)) :: (b5, .cells #[.slice none 0 0, .slice none 0 0, .slice none 0 0, .slice none 0 0, .int .i64 0, .int .i64 0, .int .i64 0, .slice none 0 0, .slice none 0 0, .bool false, .slice none 0 0, .slice none 0 0, .bool false, .slice none 0 0, .slice none 0 0, .bool false, .slice none 0 0, .slice none 0 0] 30 (0, 0)) :: (b3, .cells #[.slice p0a1 p0.height.length p0a2, .slice p0a3 p0.own.length p0a4, .slice p0a5 p0.other.length p0a6, .slice p0a7 p0.advisories.length p0a8, .int .i64 p0.pull, .int .i64 p0.near, .int .i64 p0.steps, .slice p0a9 p0.ownNoise.length p0a10, .slice p0a11 p0.otherNoise.length p0a12, .bool p0.alert.neg, .slice p0a13 p0.alert.ln.length p0a14, .slice p0a15 p0.alert.ld.length p0a16, .bool p0.strengthen.neg, .slice p0a17 p0.strengthen.ln.length p0a18, .slice p0a19 p0.strengthen.ld.length p0a20, .bool p0.reversal.neg, .slice p0a21 p0.reversal.ln.length p0a22, .slice p0a23 p0.reversal.ld.length p0a24] 30 (0, 0)) :: rb22_0) ∧ Le (rd w20 Y20) (rd w1 Y1) ∧ GRow BoundsDCs 60 3 (rd w1 Y1) rb22_0 ad22_0 m22_0 cap22_0 v22_0 ∧ J22 v22_0 = some y) ?_ ?_
 ·
  rintro ⟨v22_0, rb22_0, ad22_0, m22_0, cap22_0⟩ w22 ⟨Y22, C22, B22, hfv22_0_0, hp⟩
  have hp := (hJ22 _).symm.trans hp
  refine zz 7 ?_
  refine zr' (v := .slice ad22_0 m22_0 cap22_0) ?_
  refine hR21 _ _ _ _ C22 (Le2 B20 B22) (.inr fun _ => selm [0, 1, 2, 3]) ?_
  refine gci 20 (vs := #[.slice p0a9 p0.ownNoise.length p0a10]) Tryz.func61 (fun w23 Y23 C23 B23 R24 hR24 => ?_)
  refine zz 10 ?_
  have hob := ltd1 hp
  obtain ⟨J25, hJ25, hp⟩ := hob
  refine zjoin (fun ((v25_0, rb25_0, ad25_0, m25_0, cap25_0) : (List NoiseD) × (List (Nat × Obj)) × (Option Addr) × Nat × Nat) => [(3, .slice ad25_0 m25_0 cap25_0)]) (fun ((v25_0, rb25_0, ad25_0, m25_0, cap25_0) : (List NoiseD) × (List (Nat × Obj)) × (Option Addr) × Nat × Nat) w1 => ∃ Y1 : Hid, St E0 w X w1 Y1 ((b10, .cells #[.slice none 0 0, .slice none 0 0, .slice none 0 0, .slice none 0 0, .int .i64 0, .int .i64 0, .int .i64 0, .slice none 0 0, .slice none 0 0, .bool false, .slice none 0 0, .slice none 0 0, .bool false, .slice none 0 0, .slice none 0 0, .bool false, .slice none 0 0, .slice none 0 0] 30 (0, 0)) :: (b8, .cells #[.slice p0a1 p0.height.length p0a2, .slice p0a3 p0.own.length p0a4, .slice p0a5 p0.other.length p0a6, .slice p0a7 p0.advisories.length p0a8, .int .i64 p0.pull, .int .i64 p0.near, .int .i64 p0.steps, .slice p0a9 p0.ownNoise.length p0a10, .slice p0a11 p0.otherNoise.length p0a12, .bool p0.alert.neg, .slice p0a13 p0.alert.ln.length p0a14, .slice p0a15 p0.alert.ld.length p0a16, .bool p0.strengthen.neg, .slice p0a17 p0.strengthen.ln.length p0a18, .slice p0a19 p0.strengthen.ld.length p0a20, .bool p0.reversal.neg, .slice p0a21 p0.reversal.ln.length p0a22, .slice p0a23 p0.reversal.ld.length p0a24] 30 (0, 0)) :: (b5, .cells #[.slice none 0 0, .slice none 0 0, .slice none 0 0, .slice none 0 0, .int .i64 0, .int .i64 0, .int .i64 0, .slice none 0 0, .slice none 0 0, .bool false, .slice none 0 0, .slice none 0 0, .bool false, .slice none 0 0, .slice none 0 0, .bool false, .slice none 0 0, .slice none 0 0] 30 (0, 0)) :: (b3, .cells #[.slice p0a1 p0.height.length p0a2, .slice p0a3 p0.own.length p0a4, .slice p0a5 p0.other.length p0a6, .slice p0a7 p0.advisories.length p0a8, .int .i64 p0.pull, .int .i64 p0.near, .int .i64 p0.steps, .slice p0a9 p0.ownNoise.length p0a10, .slice p0a11 p0.otherNoise.length p0a12, .bool p0.alert.neg, .slice p0a13 p0.alert.ln.length p0a14, .slice p0a15 p0.alert.ld.length p0a16, .bool p0.strengthen.neg, .slice p0a17 p0.strengthen.ln.length p0a18, .slice p0a19 p0.strengthen.ld.length p0a20, .bool p0.reversal.neg, .slice p0a21 p0.reversal.ln.length p0a22, .slice p0a23 p0.reversal.ld.length p0a24] 30 (0, 0)) :: (rb25_0 ++ rb22_0)) ∧ Le (rd w23 Y23) (rd w1 Y1) ∧ GRow NoiseDCs 58 4 (rd w1 Y1) rb25_0 ad25_0 m25_0 cap25_0 v25_0 ∧ J25 v25_0 = some y) ?_ ?_
  ·
   rintro ⟨v25_0, rb25_0, ad25_0, m25_0, cap25_0⟩ w25 ⟨Y25, C25, B25, hfv25_0_0, hp⟩
   have hp := (hJ25 _).symm.trans hp
   refine zz 7 ?_
   refine zr' (v := .slice ad25_0 m25_0 cap25_0) ?_
   refine hR24 _ _ _ _ C25 (Le2 B23 B25) (.inr fun _ => selm [0, 1, 2, 3]) ?_
   refine gci 23 (vs := #[.slice p0a11 p0.otherNoise.length p0a12]) Tryz.func61 (fun w26 Y26 C26 B26 R27 hR27 => ?_)
   refine zz 10 ?_
   have hob := ltd1 hp
   obtain ⟨J28, hJ28, hp⟩ := hob
   refine zjoin (fun ((v28_0, rb28_0, ad28_0, m28_0, cap28_0) : (List NoiseD) × (List (Nat × Obj)) × (Option Addr) × Nat × Nat) => [(3, .slice ad28_0 m28_0 cap28_0)]) (fun ((v28_0, rb28_0, ad28_0, m28_0, cap28_0) : (List NoiseD) × (List (Nat × Obj)) × (Option Addr) × Nat × Nat) w1 => ∃ Y1 : Hid, St E0 w X w1 Y1 ((b10, .cells #[.slice none 0 0, .slice none 0 0, .slice none 0 0, .slice none 0 0, .int .i64 0, .int .i64 0, .int .i64 0, .slice none 0 0, .slice none 0 0, .bool false, .slice none 0 0, .slice none 0 0, .bool false, .slice none 0 0, .slice none 0 0, .bool false, .slice none 0 0, .slice none 0 0] 30 (0, 0)) :: (b8, .cells #[.slice p0a1 p0.height.length p0a2, .slice p0a3 p0.own.length p0a4, .slice p0a5 p0.other.length p0a6, .slice p0a7 p0.advisories.length p0a8, .int .i64 p0.pull, .int .i64 p0.near, .int .i64 p0.steps, .slice p0a9 p0.ownNoise.length p0a10, .slice p0a11 p0.otherNoise.length p0a12, .bool p0.alert.neg, .slice p0a13 p0.alert.ln.length p0a14, .slice p0a15 p0.alert.ld.length p0a16, .bool p0.strengthen.neg, .slice p0a17 p0.strengthen.ln.length p0a18, .slice p0a19 p0.strengthen.ld.length p0a20, .bool p0.reversal.neg, .slice p0a21 p0.reversal.ln.length p0a22, .slice p0a23 p0.reversal.ld.length p0a24] 30 (0, 0)) :: (b5, .cells #[.slice none 0 0, .slice none 0 0, .slice none 0 0, .slice none 0 0, .int .i64 0, .int .i64 0, .int .i64 0, .slice none 0 0, .slice none 0 0, .bool false, .slice none 0 0, .slice none 0 0, .bool false, .slice none 0 0, .slice none 0 0, .bool false, .slice none 0 0, .slice none 0 0] 30 (0, 0)) :: (b3, .cells #[.slice p0a1 p0.height.length p0a2, .slice p0a3 p0.own.length p0a4, .slice p0a5 p0.other.length p0a6, .slice p0a7 p0.advisories.length p0a8, .int .i64 p0.pull, .int .i64 p0.near, .int .i64 p0.steps, .slice p0a9 p0.ownNoise.length p0a10, .slice p0a11 p0.otherNoise.length p0a12, .bool p0.alert.neg, .slice p0a13 p0.alert.ln.length p0a14, .slice p0a15 p0.alert.ld.length p0a16, .bool p0.strengthen.neg, .slice p0a17 p0.strengthen.ln.length p0a18, .slice p0a19 p0.strengthen.ld.length p0a20, .bool p0.reversal.neg, .slice p0a21 p0.reversal.ln.length p0a22, .slice p0a23 p0.reversal.ld.length p0a24] 30 (0, 0)) :: (rb28_0 ++ (rb25_0 ++ rb22_0))) ∧ Le (rd w26 Y26) (rd w1 Y1) ∧ GRow NoiseDCs 58 4 (rd w1 Y1) rb28_0 ad28_0 m28_0 cap28_0 v28_0 ∧ J28 v28_0 = some y) ?_ ?_
   ·
    rintro ⟨v28_0, rb28_0, ad28_0, m28_0, cap28_0⟩ w28 ⟨Y28, C28, B28, hfv28_0_0, hp⟩
    have hp := (hJ28 _).symm.trans hp
    refine zz 7 ?_
    refine zr' (v := .slice ad28_0 m28_0 cap28_0) ?_
    refine hR27 _ _ _ _ C28 (Le2 B26 B28) (.inr fun _ => selm [0, 1, 2, 3]) ?_
    have hc4_ := ((((((hc3_.trans B19).trans B20).trans B22).trans B23).trans B25).trans B26).trans B28
    refine bndk hp fun y30 hy30 hp => ?_
    refine gC 26 (fun w29 Y29 _ C29 B29 => (clearwaykit_CopyRat_c _ _ C29.lt p0.alert _ ⟨_, _, _, _, _, _, rfl, (p0a_h6.mono (hc4_.trans B29)), (p0a_h7.mono (hc4_.trans B29))⟩ y30 hy30)) ?_
    rintro v31 w29 Y31 w31 C29 B31 ⟨u31_0_1, u31_0_2, u31_0_3, u31_0_4, u31_0_5, u31_0_6, rfl, u31_0__h0, u31_0__h1⟩
    have hob := u31_0__h0.hlen
    subst hob
    have hob := u31_0__h1.hlen
    subst hob
    have hc5_ := hc4_.trans B31
    refine bndk hp fun y33 hy33 hp => ?_
    refine gC 29 (fun w32 Y32 _ C32 B32 => (clearwaykit_CopyRat_c _ _ C32.lt p0.strengthen _ ⟨_, _, _, _, _, _, rfl, (p0a_h8.mono (hc5_.trans B32)), (p0a_h9.mono (hc5_.trans B32))⟩ y33 hy33)) ?_
    rintro v34 w32 Y34 w34 C32 B34 ⟨u34_0_1, u34_0_2, u34_0_3, u34_0_4, u34_0_5, u34_0_6, rfl, u34_0__h0, u34_0__h1⟩
    have hob := u34_0__h0.hlen
    subst hob
    have hob := u34_0__h1.hlen
    subst hob
    have hc6_ := hc5_.trans B34
    refine bndk hp fun y36 hy36 hp => ?_
    refine gC 32 (fun w35 Y35 _ C35 B35 => (clearwaykit_CopyRat_c _ _ C35.lt p0.reversal _ ⟨_, _, _, _, _, _, rfl, (p0a_h10.mono (hc6_.trans B35)), (p0a_h11.mono (hc6_.trans B35))⟩ y36 hy36)) ?_
    rintro v37 w35 Y37 w37 C35 B37 ⟨u37_0_1, u37_0_2, u37_0_3, u37_0_4, u37_0_5, u37_0_6, rfl, u37_0__h0, u37_0__h1⟩
    have hob := u37_0__h0.hlen
    subst hob
    have hob := u37_0__h1.hlen
    subst hob
    refine gz [33] ?_
    refine gX 34 0 #[.slice u13_0_1 y12.length u13_0_2, .slice u16_0_1 y15.length u16_0_2, .slice u19_0_1 y18.length u19_0_2, .slice ad22_0 m22_0 cap22_0, .int .i64 p0.pull, .int .i64 p0.near, .int .i64 p0.steps, .slice ad25_0 m25_0 cap25_0, .slice ad28_0 m28_0 cap28_0, .bool y30.neg, .slice u31_0_1 y30.ln.length u31_0_3, .slice u31_0_4 y30.ld.length u31_0_6, .bool y33.neg, .slice u34_0_1 y33.ln.length u34_0_3, .slice u34_0_4 y33.ld.length u34_0_6, .bool y36.neg, .slice u37_0_1 y36.ln.length u37_0_3, .slice u37_0_4 y36.ld.length u37_0_6] ?_
    intro w38 Y38 B38
    refine gend (fun w39 Y39 C39 B39 => ?_)
    refine zz 2 ?_
    refine zrS [.cell 2 30] (v := .agg #[.slice u13_0_1 y12.length u13_0_2, .slice u16_0_1 y15.length u16_0_2, .slice u19_0_1 y18.length u19_0_2, .slice ad22_0 m22_0 cap22_0, .int .i64 p0.pull, .int .i64 p0.near, .int .i64 p0.steps, .slice ad25_0 m25_0 cap25_0, .slice ad28_0 m28_0 cap28_0, .bool y30.neg, .slice u31_0_1 y30.ln.length u31_0_3, .slice u31_0_4 y30.ld.length u31_0_6, .bool y33.neg, .slice u34_0_1 y33.ln.length u34_0_3, .slice u34_0_4 y33.ld.length u34_0_6, .bool y36.neg, .slice u37_0_1 y36.ln.length u37_0_3, .slice u37_0_4 y36.ld.length u37_0_6]) (Res.cM C39 0 Res.nil) ?_
    refine hR6 _ _ ?_
    refine zn pn (.cells #[.slice none 0 0, .slice none 0 0, .slice none 0 0, .slice none 0 0, .int .i64 0, .int .i64 0, .int .i64 0, .slice none 0 0, .slice none 0 0, .bool false, .slice none 0 0, .slice none 0 0, .bool false, .slice none 0 0, .slice none 0 0, .bool false, .slice none 0 0, .slice none 0 0] 30 (0, 0)) C39 ?_
    intro b41 w41 Y41 C41 B41 hu41
    refine zx 0 #[.slice u13_0_1 y12.length u13_0_2, .slice u16_0_1 y15.length u16_0_2, .slice u19_0_1 y18.length u19_0_2, .slice ad22_0 m22_0 cap22_0, .int .i64 p0.pull, .int .i64 p0.near, .int .i64 p0.steps, .slice ad25_0 m25_0 cap25_0, .slice ad28_0 m28_0 cap28_0, .bool y30.neg, .slice u31_0_1 y30.ln.length u31_0_3, .slice u31_0_4 y30.ld.length u31_0_6, .bool y33.neg, .slice u34_0_1 y33.ln.length u34_0_3, .slice u34_0_4 y33.ld.length u34_0_6, .bool y36.neg, .slice u37_0_1 y36.ln.length u37_0_3, .slice u37_0_4 y36.ld.length u37_0_6] C41 ?_
    intro w42 C42 B42
    refine zz 3 ?_
    refine zdrs [1, 2, 3, 4] C42 ?_
    refine gz [0] ?_
    refine gw 1 3 ?_
    refine gz [3] ?_
    refine gw 4 3 ?_
    refine gz [6] ?_
    refine gw 7 3 ?_
    have hc7_ := ((((hc6_.trans B37).trans B38).trans B39).trans B41).trans B42
    refine bndk hp fun y44 hy44 hp => ?_
    refine gC 2 (fun w43 Y43 _ C43 B43 => (clearwaylaw24_turned_c _ X0 (X0_lt _) p0.height _ ⟨_, _, rfl, ((p0a_h0.mono (hc7_.trans B43)).mono Le.x0)⟩ y44 hy44)) ?_
    rintro v45 w43 Y45 w45 C43 B45 ⟨u45_0_1, u45_0_2, rfl, u45_0__h0⟩
    refine gz [9] ?_
    have hc8_ := hc7_.trans B45
    refine bndk hp fun y47 hy47 hp => ?_
    refine gC 5 (fun w46 Y46 _ C46 B46 => (clearwaylaw24_turned_c _ X0 (X0_lt _) p0.own _ ⟨_, _, rfl, ((p0a_h1.mono (hc8_.trans B46)).mono Le.x0)⟩ y47 hy47)) ?_
    rintro v48 w46 Y48 w48 C46 B48 ⟨u48_0_1, u48_0_2, rfl, u48_0__h0⟩
    have hc9_ := hc8_.trans B48
    refine bndk hp fun y50 hy50 hp => ?_
    refine gC 8 (fun w49 Y49 _ C49 B49 => (clearwaylaw24_turned_c _ X0 (X0_lt _) p0.other _ ⟨_, _, rfl, ((p0a_h2.mono (hc9_.trans B49)).mono Le.x0)⟩ y50 hy50)) ?_
    rintro v51 w49 Y51 w51 C49 B51 ⟨u51_0_1, u51_0_2, rfl, u51_0__h0⟩
    refine gXs 10 0 [1, 2, 3, 4] #[.slice u45_0_1 y44.length u45_0_2, .slice u16_0_1 y15.length u16_0_2, .slice u19_0_1 y18.length u19_0_2, .slice ad22_0 m22_0 cap22_0, .int .i64 p0.pull, .int .i64 p0.near, .int .i64 p0.steps, .slice ad25_0 m25_0 cap25_0, .slice ad28_0 m28_0 cap28_0, .bool y30.neg, .slice u31_0_1 y30.ln.length u31_0_3, .slice u31_0_4 y30.ld.length u31_0_6, .bool y33.neg, .slice u34_0_1 y33.ln.length u34_0_3, .slice u34_0_4 y33.ld.length u34_0_6, .bool y36.neg, .slice u37_0_1 y36.ln.length u37_0_3, .slice u37_0_4 y36.ld.length u37_0_6] ?_
    intro w52 Y52 B52
    refine gz [11] ?_
    refine gXs 12 0 [1, 2, 3, 4] #[.slice u45_0_1 y44.length u45_0_2, .slice u48_0_1 y47.length u48_0_2, .slice u19_0_1 y18.length u19_0_2, .slice ad22_0 m22_0 cap22_0, .int .i64 p0.pull, .int .i64 p0.near, .int .i64 p0.steps, .slice ad25_0 m25_0 cap25_0, .slice ad28_0 m28_0 cap28_0, .bool y30.neg, .slice u31_0_1 y30.ln.length u31_0_3, .slice u31_0_4 y30.ld.length u31_0_6, .bool y33.neg, .slice u34_0_1 y33.ln.length u34_0_3, .slice u34_0_4 y33.ld.length u34_0_6, .bool y36.neg, .slice u37_0_1 y36.ln.length u37_0_3, .slice u37_0_4 y36.ld.length u37_0_6] ?_
    intro w53 Y53 B53
    refine gz [13] ?_
    refine gXs 14 0 [1, 2, 3, 4] #[.slice u45_0_1 y44.length u45_0_2, .slice u48_0_1 y47.length u48_0_2, .slice u51_0_1 y50.length u51_0_2, .slice ad22_0 m22_0 cap22_0, .int .i64 p0.pull, .int .i64 p0.near, .int .i64 p0.steps, .slice ad25_0 m25_0 cap25_0, .slice ad28_0 m28_0 cap28_0, .bool y30.neg, .slice u31_0_1 y30.ln.length u31_0_3, .slice u31_0_4 y30.ld.length u31_0_6, .bool y33.neg, .slice u34_0_1 y33.ln.length u34_0_3, .slice u34_0_4 y33.ld.length u34_0_6, .bool y36.neg, .slice u37_0_1 y36.ln.length u37_0_3, .slice u37_0_4 y36.ld.length u37_0_6] ?_
    intro w54 Y54 B54
    refine gend (fun w55 Y55 C55 B55 => ?_)
    refine zz 1 ?_
    have hob := ltd1 hp
    obtain ⟨J56, hJ56, hp⟩ := hob
    refine zjoin (fun ((v56_0, rb56_0) : (List BoundsD) × (List (Nat × Obj))) => [(1, .pointer (some ⟨b3, 0, none⟩)), (2, .pointer (some ⟨b5, 0, none⟩)), (3, .pointer (some ⟨b41, 0, none⟩))]) (fun ((v56_0, rb56_0) : (List BoundsD) × (List (Nat × Obj))) w1 => ∃ Y1 : Hid, St E0 w X w1 Y1 ((b41, .cells #[.slice u45_0_1 y44.length u45_0_2, .slice u48_0_1 y47.length u48_0_2, .slice u51_0_1 y50.length u51_0_2, .slice ad22_0 m22_0 cap22_0, .int .i64 p0.pull, .int .i64 p0.near, .int .i64 p0.steps, .slice ad25_0 m25_0 cap25_0, .slice ad28_0 m28_0 cap28_0, .bool y30.neg, .slice u31_0_1 y30.ln.length u31_0_3, .slice u31_0_4 y30.ld.length u31_0_6, .bool y33.neg, .slice u34_0_1 y33.ln.length u34_0_3, .slice u34_0_4 y33.ld.length u34_0_6, .bool y36.neg, .slice u37_0_1 y36.ln.length u37_0_3, .slice u37_0_4 y36.ld.length u37_0_6] 30 (0, 0)) :: (b10, .cells #[.slice u13_0_1 y12.length u13_0_2, .slice u16_0_1 y15.length u16_0_2, .slice u19_0_1 y18.length u19_0_2, .slice ad22_0 m22_0 cap22_0, .int .i64 p0.pull, .int .i64 p0.near, .int .i64 p0.steps, .slice ad25_0 m25_0 cap25_0, .slice ad28_0 m28_0 cap28_0, .bool y30.neg, .slice u31_0_1 y30.ln.length u31_0_3, .slice u31_0_4 y30.ld.length u31_0_6, .bool y33.neg, .slice u34_0_1 y33.ln.length u34_0_3, .slice u34_0_4 y33.ld.length u34_0_6, .bool y36.neg, .slice u37_0_1 y36.ln.length u37_0_3, .slice u37_0_4 y36.ld.length u37_0_6] 30 (0, 0)) :: (b8, .cells #[.slice p0a1 p0.height.length p0a2, .slice p0a3 p0.own.length p0a4, .slice p0a5 p0.other.length p0a6, .slice p0a7 p0.advisories.length p0a8, .int .i64 p0.pull, .int .i64 p0.near, .int .i64 p0.steps, .slice p0a9 p0.ownNoise.length p0a10, .slice p0a11 p0.otherNoise.length p0a12, .bool p0.alert.neg, .slice p0a13 p0.alert.ln.length p0a14, .slice p0a15 p0.alert.ld.length p0a16, .bool p0.strengthen.neg, .slice p0a17 p0.strengthen.ln.length p0a18, .slice p0a19 p0.strengthen.ld.length p0a20, .bool p0.reversal.neg, .slice p0a21 p0.reversal.ln.length p0a22, .slice p0a23 p0.reversal.ld.length p0a24] 30 (0, 0)) :: (b5, .cells #[.slice none 0 0, .slice none 0 0, .slice none 0 0, .slice none 0 0, .int .i64 0, .int .i64 0, .int .i64 0, .slice none 0 0, .slice none 0 0, .bool false, .slice none 0 0, .slice none 0 0, .bool false, .slice none 0 0, .slice none 0 0, .bool false, .slice none 0 0, .slice none 0 0] 30 (0, 0)) :: (b3, .cells #[.slice p0a1 p0.height.length p0a2, .slice p0a3 p0.own.length p0a4, .slice p0a5 p0.other.length p0a6, .slice p0a7 p0.advisories.length p0a8, .int .i64 p0.pull, .int .i64 p0.near, .int .i64 p0.steps, .slice p0a9 p0.ownNoise.length p0a10, .slice p0a11 p0.otherNoise.length p0a12, .bool p0.alert.neg, .slice p0a13 p0.alert.ln.length p0a14, .slice p0a15 p0.alert.ld.length p0a16, .bool p0.strengthen.neg, .slice p0a17 p0.strengthen.ln.length p0a18, .slice p0a19 p0.strengthen.ld.length p0a20, .bool p0.reversal.neg, .slice p0a21 p0.reversal.ln.length p0a22, .slice p0a23 p0.reversal.ld.length p0a24] 30 (0, 0)) :: (rb28_0 ++ (rb25_0 ++ rb56_0))) ∧ Le (rd w55 Y55) (rd w1 Y1) ∧ GRow BoundsDCs 60 3 (rd w1 Y1) rb56_0 ad22_0 m22_0 cap22_0 v56_0 ∧ J56 v56_0 = some y) ?_ ?_
    ·
     rintro ⟨v56_0, rb56_0⟩ w56 ⟨Y56, C56, B56, hfv56_0_0, hp⟩
     have hp := (hJ56 _).symm.trans hp
     have hob := ltd1 hp
     obtain ⟨J57, hJ57, hp⟩ := hob
     refine zjoin (fun ((v57_0, rb57_0) : (List NoiseD) × (List (Nat × Obj))) => [(1, .pointer (some ⟨b3, 0, none⟩)), (2, .pointer (some ⟨b5, 0, none⟩)), (3, .pointer (some ⟨b41, 0, none⟩))]) (fun ((v57_0, rb57_0) : (List NoiseD) × (List (Nat × Obj))) w1 => ∃ Y1 : Hid, St E0 w X w1 Y1 ((b41, .cells #[.slice u45_0_1 y44.length u45_0_2, .slice u48_0_1 y47.length u48_0_2, .slice u51_0_1 y50.length u51_0_2, .slice ad22_0 m22_0 cap22_0, .int .i64 p0.pull, .int .i64 p0.near, .int .i64 p0.steps, .slice ad25_0 m25_0 cap25_0, .slice ad28_0 m28_0 cap28_0, .bool y30.neg, .slice u31_0_1 y30.ln.length u31_0_3, .slice u31_0_4 y30.ld.length u31_0_6, .bool y33.neg, .slice u34_0_1 y33.ln.length u34_0_3, .slice u34_0_4 y33.ld.length u34_0_6, .bool y36.neg, .slice u37_0_1 y36.ln.length u37_0_3, .slice u37_0_4 y36.ld.length u37_0_6] 30 (0, 0)) :: (b10, .cells #[.slice u13_0_1 y12.length u13_0_2, .slice u16_0_1 y15.length u16_0_2, .slice u19_0_1 y18.length u19_0_2, .slice ad22_0 m22_0 cap22_0, .int .i64 p0.pull, .int .i64 p0.near, .int .i64 p0.steps, .slice ad25_0 m25_0 cap25_0, .slice ad28_0 m28_0 cap28_0, .bool y30.neg, .slice u31_0_1 y30.ln.length u31_0_3, .slice u31_0_4 y30.ld.length u31_0_6, .bool y33.neg, .slice u34_0_1 y33.ln.length u34_0_3, .slice u34_0_4 y33.ld.length u34_0_6, .bool y36.neg, .slice u37_0_1 y36.ln.length u37_0_3, .slice u37_0_4 y36.ld.length u37_0_6] 30 (0, 0)) :: (b8, .cells #[.slice p0a1 p0.height.length p0a2, .slice p0a3 p0.own.length p0a4, .slice p0a5 p0.other.length p0a6, .slice p0a7 p0.advisories.length p0a8, .int .i64 p0.pull, .int .i64 p0.near, .int .i64 p0.steps, .slice p0a9 p0.ownNoise.length p0a10, .slice p0a11 p0.otherNoise.length p0a12, .bool p0.alert.neg, .slice p0a13 p0.alert.ln.length p0a14, .slice p0a15 p0.alert.ld.length p0a16, .bool p0.strengthen.neg, .slice p0a17 p0.strengthen.ln.length p0a18, .slice p0a19 p0.strengthen.ld.length p0a20, .bool p0.reversal.neg, .slice p0a21 p0.reversal.ln.length p0a22, .slice p0a23 p0.reversal.ld.length p0a24] 30 (0, 0)) :: (b5, .cells #[.slice none 0 0, .slice none 0 0, .slice none 0 0, .slice none 0 0, .int .i64 0, .int .i64 0, .int .i64 0, .slice none 0 0, .slice none 0 0, .bool false, .slice none 0 0, .slice none 0 0, .bool false, .slice none 0 0, .slice none 0 0, .bool false, .slice none 0 0, .slice none 0 0] 30 (0, 0)) :: (b3, .cells #[.slice p0a1 p0.height.length p0a2, .slice p0a3 p0.own.length p0a4, .slice p0a5 p0.other.length p0a6, .slice p0a7 p0.advisories.length p0a8, .int .i64 p0.pull, .int .i64 p0.near, .int .i64 p0.steps, .slice p0a9 p0.ownNoise.length p0a10, .slice p0a11 p0.otherNoise.length p0a12, .bool p0.alert.neg, .slice p0a13 p0.alert.ln.length p0a14, .slice p0a15 p0.alert.ld.length p0a16, .bool p0.strengthen.neg, .slice p0a17 p0.strengthen.ln.length p0a18, .slice p0a19 p0.strengthen.ld.length p0a20, .bool p0.reversal.neg, .slice p0a21 p0.reversal.ln.length p0a22, .slice p0a23 p0.reversal.ld.length p0a24] 30 (0, 0)) :: (rb28_0 ++ (rb57_0 ++ rb56_0))) ∧ Le (rd w56 Y56) (rd w1 Y1) ∧ GRow NoiseDCs 58 4 (rd w1 Y1) rb57_0 ad25_0 m25_0 cap25_0 v57_0 ∧ J57 v57_0 = some y) ?_ ?_
     ·
      rintro ⟨v57_0, rb57_0⟩ w57 ⟨Y57, C57, B57, hfv57_0_0, hp⟩
      have hp := (hJ57 _).symm.trans hp
      have hob := ltd1 hp
      obtain ⟨J58, hJ58, hp⟩ := hob
      refine zjoin (fun ((v58_0, rb58_0) : (List NoiseD) × (List (Nat × Obj))) => [(2, .pointer (some ⟨b5, 0, none⟩)), (3, .pointer (some ⟨b41, 0, none⟩))]) (fun ((v58_0, rb58_0) : (List NoiseD) × (List (Nat × Obj))) w1 => ∃ Y1 : Hid, St E0 w X w1 Y1 ((b41, .cells #[.slice u45_0_1 y44.length u45_0_2, .slice u48_0_1 y47.length u48_0_2, .slice u51_0_1 y50.length u51_0_2, .slice ad22_0 m22_0 cap22_0, .int .i64 p0.pull, .int .i64 p0.near, .int .i64 p0.steps, .slice ad25_0 m25_0 cap25_0, .slice ad28_0 m28_0 cap28_0, .bool y30.neg, .slice u31_0_1 y30.ln.length u31_0_3, .slice u31_0_4 y30.ld.length u31_0_6, .bool y33.neg, .slice u34_0_1 y33.ln.length u34_0_3, .slice u34_0_4 y33.ld.length u34_0_6, .bool y36.neg, .slice u37_0_1 y36.ln.length u37_0_3, .slice u37_0_4 y36.ld.length u37_0_6] 30 (0, 0)) :: (b10, .cells #[.slice u13_0_1 y12.length u13_0_2, .slice u16_0_1 y15.length u16_0_2, .slice u19_0_1 y18.length u19_0_2, .slice ad22_0 m22_0 cap22_0, .int .i64 p0.pull, .int .i64 p0.near, .int .i64 p0.steps, .slice ad25_0 m25_0 cap25_0, .slice ad28_0 m28_0 cap28_0, .bool y30.neg, .slice u31_0_1 y30.ln.length u31_0_3, .slice u31_0_4 y30.ld.length u31_0_6, .bool y33.neg, .slice u34_0_1 y33.ln.length u34_0_3, .slice u34_0_4 y33.ld.length u34_0_6, .bool y36.neg, .slice u37_0_1 y36.ln.length u37_0_3, .slice u37_0_4 y36.ld.length u37_0_6] 30 (0, 0)) :: (b8, .cells #[.slice p0a1 p0.height.length p0a2, .slice p0a3 p0.own.length p0a4, .slice p0a5 p0.other.length p0a6, .slice p0a7 p0.advisories.length p0a8, .int .i64 p0.pull, .int .i64 p0.near, .int .i64 p0.steps, .slice p0a9 p0.ownNoise.length p0a10, .slice p0a11 p0.otherNoise.length p0a12, .bool p0.alert.neg, .slice p0a13 p0.alert.ln.length p0a14, .slice p0a15 p0.alert.ld.length p0a16, .bool p0.strengthen.neg, .slice p0a17 p0.strengthen.ln.length p0a18, .slice p0a19 p0.strengthen.ld.length p0a20, .bool p0.reversal.neg, .slice p0a21 p0.reversal.ln.length p0a22, .slice p0a23 p0.reversal.ld.length p0a24] 30 (0, 0)) :: (b5, .cells #[.slice none 0 0, .slice none 0 0, .slice none 0 0, .slice none 0 0, .int .i64 0, .int .i64 0, .int .i64 0, .slice none 0 0, .slice none 0 0, .bool false, .slice none 0 0, .slice none 0 0, .bool false, .slice none 0 0, .slice none 0 0, .bool false, .slice none 0 0, .slice none 0 0] 30 (0, 0)) :: (b3, .cells #[.slice p0a1 p0.height.length p0a2, .slice p0a3 p0.own.length p0a4, .slice p0a5 p0.other.length p0a6, .slice p0a7 p0.advisories.length p0a8, .int .i64 p0.pull, .int .i64 p0.near, .int .i64 p0.steps, .slice p0a9 p0.ownNoise.length p0a10, .slice p0a11 p0.otherNoise.length p0a12, .bool p0.alert.neg, .slice p0a13 p0.alert.ln.length p0a14, .slice p0a15 p0.alert.ld.length p0a16, .bool p0.strengthen.neg, .slice p0a17 p0.strengthen.ln.length p0a18, .slice p0a19 p0.strengthen.ld.length p0a20, .bool p0.reversal.neg, .slice p0a21 p0.reversal.ln.length p0a22, .slice p0a23 p0.reversal.ld.length p0a24] 30 (0, 0)) :: (rb58_0 ++ (rb57_0 ++ rb56_0))) ∧ Le (rd w57 Y57) (rd w1 Y1) ∧ GRow NoiseDCs 58 4 (rd w1 Y1) rb58_0 ad28_0 m28_0 cap28_0 v58_0 ∧ J58 v58_0 = some y) ?_ ?_
      ·
       rintro ⟨v58_0, rb58_0⟩ w58 ⟨Y58, C58, B58, hfv58_0_0, hp⟩
       have hp := (hJ58 _).symm.trans hp
       refine zz 2 ?_
       refine zo 0 C58 ?_
       refine zx 3 #[.slice u45_0_1 y44.length u45_0_2, .slice u48_0_1 y47.length u48_0_2, .slice u51_0_1 y50.length u51_0_2, .slice ad22_0 m22_0 cap22_0, .int .i64 p0.pull, .int .i64 p0.near, .int .i64 p0.steps, .slice ad25_0 m25_0 cap25_0, .slice ad28_0 m28_0 cap28_0, .bool y30.neg, .slice u31_0_1 y30.ln.length u31_0_3, .slice u31_0_4 y30.ld.length u31_0_6, .bool y33.neg, .slice u34_0_1 y33.ln.length u34_0_3, .slice u34_0_4 y33.ld.length u34_0_6, .bool y36.neg, .slice u37_0_1 y36.ln.length u37_0_3, .slice u37_0_4 y36.ld.length u37_0_6] C58 ?_
       intro w59 C59 B59
       refine zz 3 ?_
       refine zrS [.cell 2 30] (v := .agg #[.slice u45_0_1 y44.length u45_0_2, .slice u48_0_1 y47.length u48_0_2, .slice u51_0_1 y50.length u51_0_2, .slice ad22_0 m22_0 cap22_0, .int .i64 p0.pull, .int .i64 p0.near, .int .i64 p0.steps, .slice ad25_0 m25_0 cap25_0, .slice ad28_0 m28_0 cap28_0, .bool y30.neg, .slice u31_0_1 y30.ln.length u31_0_3, .slice u31_0_4 y30.ld.length u31_0_6, .bool y33.neg, .slice u34_0_1 y33.ln.length u34_0_3, .slice u34_0_4 y33.ld.length u34_0_6, .bool y36.neg, .slice u37_0_1 y36.ln.length u37_0_3, .slice u37_0_4 y36.ld.length u37_0_6]) (Res.cM C59 3 Res.nil) ?_
       have hob := St.pubGR (A := ([(b41, .cells #[.slice u45_0_1 y44.length u45_0_2, .slice u48_0_1 y47.length u48_0_2, .slice u51_0_1 y50.length u51_0_2, .slice ad22_0 m22_0 cap22_0, .int .i64 p0.pull, .int .i64 p0.near, .int .i64 p0.steps, .slice ad25_0 m25_0 cap25_0, .slice ad28_0 m28_0 cap28_0, .bool y30.neg, .slice u31_0_1 y30.ln.length u31_0_3, .slice u31_0_4 y30.ld.length u31_0_6, .bool y33.neg, .slice u34_0_1 y33.ln.length u34_0_3, .slice u34_0_4 y33.ld.length u34_0_6, .bool y36.neg, .slice u37_0_1 y36.ln.length u37_0_3, .slice u37_0_4 y36.ld.length u37_0_6] 30 (0, 0)), (b10, .cells #[.slice u13_0_1 y12.length u13_0_2, .slice u16_0_1 y15.length u16_0_2, .slice u19_0_1 y18.length u19_0_2, .slice ad22_0 m22_0 cap22_0, .int .i64 p0.pull, .int .i64 p0.near, .int .i64 p0.steps, .slice ad25_0 m25_0 cap25_0, .slice ad28_0 m28_0 cap28_0, .bool y30.neg, .slice u31_0_1 y30.ln.length u31_0_3, .slice u31_0_4 y30.ld.length u31_0_6, .bool y33.neg, .slice u34_0_1 y33.ln.length u34_0_3, .slice u34_0_4 y33.ld.length u34_0_6, .bool y36.neg, .slice u37_0_1 y36.ln.length u37_0_3, .slice u37_0_4 y36.ld.length u37_0_6] 30 (0, 0)), (b8, .cells #[.slice p0a1 p0.height.length p0a2, .slice p0a3 p0.own.length p0a4, .slice p0a5 p0.other.length p0a6, .slice p0a7 p0.advisories.length p0a8, .int .i64 p0.pull, .int .i64 p0.near, .int .i64 p0.steps, .slice p0a9 p0.ownNoise.length p0a10, .slice p0a11 p0.otherNoise.length p0a12, .bool p0.alert.neg, .slice p0a13 p0.alert.ln.length p0a14, .slice p0a15 p0.alert.ld.length p0a16, .bool p0.strengthen.neg, .slice p0a17 p0.strengthen.ln.length p0a18, .slice p0a19 p0.strengthen.ld.length p0a20, .bool p0.reversal.neg, .slice p0a21 p0.reversal.ln.length p0a22, .slice p0a23 p0.reversal.ld.length p0a24] 30 (0, 0)), (b5, .cells #[.slice u45_0_1 y44.length u45_0_2, .slice u48_0_1 y47.length u48_0_2, .slice u51_0_1 y50.length u51_0_2, .slice ad22_0 m22_0 cap22_0, .int .i64 p0.pull, .int .i64 p0.near, .int .i64 p0.steps, .slice ad25_0 m25_0 cap25_0, .slice ad28_0 m28_0 cap28_0, .bool y30.neg, .slice u31_0_1 y30.ln.length u31_0_3, .slice u31_0_4 y30.ld.length u31_0_6, .bool y33.neg, .slice u34_0_1 y33.ln.length u34_0_3, .slice u34_0_4 y33.ld.length u34_0_6, .bool y36.neg, .slice u37_0_1 y36.ln.length u37_0_3, .slice u37_0_4 y36.ld.length u37_0_6] 30 (0, 0)), (b3, .cells #[.slice p0a1 p0.height.length p0a2, .slice p0a3 p0.own.length p0a4, .slice p0a5 p0.other.length p0a6, .slice p0a7 p0.advisories.length p0a8, .int .i64 p0.pull, .int .i64 p0.near, .int .i64 p0.steps, .slice p0a9 p0.ownNoise.length p0a10, .slice p0a11 p0.otherNoise.length p0a12, .bool p0.alert.neg, .slice p0a13 p0.alert.ln.length p0a14, .slice p0a15 p0.alert.ld.length p0a16, .bool p0.strengthen.neg, .slice p0a17 p0.strengthen.ln.length p0a18, .slice p0a19 p0.strengthen.ld.length p0a20, .bool p0.reversal.neg, .slice p0a21 p0.reversal.ln.length p0a22, .slice p0a23 p0.reversal.ld.length p0a24] 30 (0, 0))] ++ rb58_0 ++ rb57_0)) (B := []) (fun rb => ((b41, .cells #[.slice u45_0_1 y44.length u45_0_2, .slice u48_0_1 y47.length u48_0_2, .slice u51_0_1 y50.length u51_0_2, .slice ad22_0 m22_0 cap22_0, .int .i64 p0.pull, .int .i64 p0.near, .int .i64 p0.steps, .slice ad25_0 m25_0 cap25_0, .slice ad28_0 m28_0 cap28_0, .bool y30.neg, .slice u31_0_1 y30.ln.length u31_0_3, .slice u31_0_4 y30.ld.length u31_0_6, .bool y33.neg, .slice u34_0_1 y33.ln.length u34_0_3, .slice u34_0_4 y33.ld.length u34_0_6, .bool y36.neg, .slice u37_0_1 y36.ln.length u37_0_3, .slice u37_0_4 y36.ld.length u37_0_6] 30 (0, 0)) :: (b10, .cells #[.slice u13_0_1 y12.length u13_0_2, .slice u16_0_1 y15.length u16_0_2, .slice u19_0_1 y18.length u19_0_2, .slice ad22_0 m22_0 cap22_0, .int .i64 p0.pull, .int .i64 p0.near, .int .i64 p0.steps, .slice ad25_0 m25_0 cap25_0, .slice ad28_0 m28_0 cap28_0, .bool y30.neg, .slice u31_0_1 y30.ln.length u31_0_3, .slice u31_0_4 y30.ld.length u31_0_6, .bool y33.neg, .slice u34_0_1 y33.ln.length u34_0_3, .slice u34_0_4 y33.ld.length u34_0_6, .bool y36.neg, .slice u37_0_1 y36.ln.length u37_0_3, .slice u37_0_4 y36.ld.length u37_0_6] 30 (0, 0)) :: (b8, .cells #[.slice p0a1 p0.height.length p0a2, .slice p0a3 p0.own.length p0a4, .slice p0a5 p0.other.length p0a6, .slice p0a7 p0.advisories.length p0a8, .int .i64 p0.pull, .int .i64 p0.near, .int .i64 p0.steps, .slice p0a9 p0.ownNoise.length p0a10, .slice p0a11 p0.otherNoise.length p0a12, .bool p0.alert.neg, .slice p0a13 p0.alert.ln.length p0a14, .slice p0a15 p0.alert.ld.length p0a16, .bool p0.strengthen.neg, .slice p0a17 p0.strengthen.ln.length p0a18, .slice p0a19 p0.strengthen.ld.length p0a20, .bool p0.reversal.neg, .slice p0a21 p0.reversal.ln.length p0a22, .slice p0a23 p0.reversal.ld.length p0a24] 30 (0, 0)) :: (b5, .cells #[.slice u45_0_1 y44.length u45_0_2, .slice u48_0_1 y47.length u48_0_2, .slice u51_0_1 y50.length u51_0_2, .slice ad22_0 m22_0 cap22_0, .int .i64 p0.pull, .int .i64 p0.near, .int .i64 p0.steps, .slice ad25_0 m25_0 cap25_0, .slice ad28_0 m28_0 cap28_0, .bool y30.neg, .slice u31_0_1 y30.ln.length u31_0_3, .slice u31_0_4 y30.ld.length u31_0_6, .bool y33.neg, .slice u34_0_1 y33.ln.length u34_0_3, .slice u34_0_4 y33.ld.length u34_0_6, .bool y36.neg, .slice u37_0_1 y36.ln.length u37_0_3, .slice u37_0_4 y36.ld.length u37_0_6] 30 (0, 0)) :: (b3, .cells #[.slice p0a1 p0.height.length p0a2, .slice p0a3 p0.own.length p0a4, .slice p0a5 p0.other.length p0a6, .slice p0a7 p0.advisories.length p0a8, .int .i64 p0.pull, .int .i64 p0.near, .int .i64 p0.steps, .slice p0a9 p0.ownNoise.length p0a10, .slice p0a11 p0.otherNoise.length p0a12, .bool p0.alert.neg, .slice p0a13 p0.alert.ln.length p0a14, .slice p0a15 p0.alert.ld.length p0a16, .bool p0.strengthen.neg, .slice p0a17 p0.strengthen.ln.length p0a18, .slice p0a19 p0.strengthen.ld.length p0a20, .bool p0.reversal.neg, .slice p0a21 p0.reversal.ln.length p0a22, .slice p0a23 p0.reversal.ld.length p0a24] 30 (0, 0)) :: (rb58_0 ++ (rb57_0 ++ rb)))) C59 (fun _ => by simp only [List.append_assoc, List.cons_append, List.nil_append, List.append_nil]) (hfv56_0_0.mono (Le3 B57 B58 B59)) BoundsDCs.at
       obtain ⟨Y60, hSx60, B60, hRx60⟩ := hob
       have C60 : St E0 w X w59 Y60 ((b41, .cells #[.slice u45_0_1 y44.length u45_0_2, .slice u48_0_1 y47.length u48_0_2, .slice u51_0_1 y50.length u51_0_2, .slice ad22_0 m22_0 cap22_0, .int .i64 p0.pull, .int .i64 p0.near, .int .i64 p0.steps, .slice ad25_0 m25_0 cap25_0, .slice ad28_0 m28_0 cap28_0, .bool y30.neg, .slice u31_0_1 y30.ln.length u31_0_3, .slice u31_0_4 y30.ld.length u31_0_6, .bool y33.neg, .slice u34_0_1 y33.ln.length u34_0_3, .slice u34_0_4 y33.ld.length u34_0_6, .bool y36.neg, .slice u37_0_1 y36.ln.length u37_0_3, .slice u37_0_4 y36.ld.length u37_0_6] 30 (0, 0)) :: (b10, .cells #[.slice u13_0_1 y12.length u13_0_2, .slice u16_0_1 y15.length u16_0_2, .slice u19_0_1 y18.length u19_0_2, .slice ad22_0 m22_0 cap22_0, .int .i64 p0.pull, .int .i64 p0.near, .int .i64 p0.steps, .slice ad25_0 m25_0 cap25_0, .slice ad28_0 m28_0 cap28_0, .bool y30.neg, .slice u31_0_1 y30.ln.length u31_0_3, .slice u31_0_4 y30.ld.length u31_0_6, .bool y33.neg, .slice u34_0_1 y33.ln.length u34_0_3, .slice u34_0_4 y33.ld.length u34_0_6, .bool y36.neg, .slice u37_0_1 y36.ln.length u37_0_3, .slice u37_0_4 y36.ld.length u37_0_6] 30 (0, 0)) :: (b8, .cells #[.slice p0a1 p0.height.length p0a2, .slice p0a3 p0.own.length p0a4, .slice p0a5 p0.other.length p0a6, .slice p0a7 p0.advisories.length p0a8, .int .i64 p0.pull, .int .i64 p0.near, .int .i64 p0.steps, .slice p0a9 p0.ownNoise.length p0a10, .slice p0a11 p0.otherNoise.length p0a12, .bool p0.alert.neg, .slice p0a13 p0.alert.ln.length p0a14, .slice p0a15 p0.alert.ld.length p0a16, .bool p0.strengthen.neg, .slice p0a17 p0.strengthen.ln.length p0a18, .slice p0a19 p0.strengthen.ld.length p0a20, .bool p0.reversal.neg, .slice p0a21 p0.reversal.ln.length p0a22, .slice p0a23 p0.reversal.ld.length p0a24] 30 (0, 0)) :: (b5, .cells #[.slice u45_0_1 y44.length u45_0_2, .slice u48_0_1 y47.length u48_0_2, .slice u51_0_1 y50.length u51_0_2, .slice ad22_0 m22_0 cap22_0, .int .i64 p0.pull, .int .i64 p0.near, .int .i64 p0.steps, .slice ad25_0 m25_0 cap25_0, .slice ad28_0 m28_0 cap28_0, .bool y30.neg, .slice u31_0_1 y30.ln.length u31_0_3, .slice u31_0_4 y30.ld.length u31_0_6, .bool y33.neg, .slice u34_0_1 y33.ln.length u34_0_3, .slice u34_0_4 y33.ld.length u34_0_6, .bool y36.neg, .slice u37_0_1 y36.ln.length u37_0_3, .slice u37_0_4 y36.ld.length u37_0_6] 30 (0, 0)) :: (b3, .cells #[.slice p0a1 p0.height.length p0a2, .slice p0a3 p0.own.length p0a4, .slice p0a5 p0.other.length p0a6, .slice p0a7 p0.advisories.length p0a8, .int .i64 p0.pull, .int .i64 p0.near, .int .i64 p0.steps, .slice p0a9 p0.ownNoise.length p0a10, .slice p0a11 p0.otherNoise.length p0a12, .bool p0.alert.neg, .slice p0a13 p0.alert.ln.length p0a14, .slice p0a15 p0.alert.ld.length p0a16, .bool p0.strengthen.neg, .slice p0a17 p0.strengthen.ln.length p0a18, .slice p0a19 p0.strengthen.ld.length p0a20, .bool p0.reversal.neg, .slice p0a21 p0.reversal.ln.length p0a22, .slice p0a23 p0.reversal.ld.length p0a24] 30 (0, 0)) :: (rb58_0 ++ rb57_0)) := by simpa only [List.append_assoc, List.append_nil, List.cons_append, List.nil_append] using hSx60
       have hob := hRx60.hlen
       subst hob
       have hR60 : BoundsDS (rd w59 Y60) ad22_0 v56_0.length cap22_0 v56_0 := hRx60
       have hob := St.pubGR (A := ([(b41, .cells #[.slice u45_0_1 y44.length u45_0_2, .slice u48_0_1 y47.length u48_0_2, .slice u51_0_1 y50.length u51_0_2, .slice ad22_0 v56_0.length cap22_0, .int .i64 p0.pull, .int .i64 p0.near, .int .i64 p0.steps, .slice ad25_0 m25_0 cap25_0, .slice ad28_0 m28_0 cap28_0, .bool y30.neg, .slice u31_0_1 y30.ln.length u31_0_3, .slice u31_0_4 y30.ld.length u31_0_6, .bool y33.neg, .slice u34_0_1 y33.ln.length u34_0_3, .slice u34_0_4 y33.ld.length u34_0_6, .bool y36.neg, .slice u37_0_1 y36.ln.length u37_0_3, .slice u37_0_4 y36.ld.length u37_0_6] 30 (0, 0)), (b10, .cells #[.slice u13_0_1 y12.length u13_0_2, .slice u16_0_1 y15.length u16_0_2, .slice u19_0_1 y18.length u19_0_2, .slice ad22_0 v56_0.length cap22_0, .int .i64 p0.pull, .int .i64 p0.near, .int .i64 p0.steps, .slice ad25_0 m25_0 cap25_0, .slice ad28_0 m28_0 cap28_0, .bool y30.neg, .slice u31_0_1 y30.ln.length u31_0_3, .slice u31_0_4 y30.ld.length u31_0_6, .bool y33.neg, .slice u34_0_1 y33.ln.length u34_0_3, .slice u34_0_4 y33.ld.length u34_0_6, .bool y36.neg, .slice u37_0_1 y36.ln.length u37_0_3, .slice u37_0_4 y36.ld.length u37_0_6] 30 (0, 0)), (b8, .cells #[.slice p0a1 p0.height.length p0a2, .slice p0a3 p0.own.length p0a4, .slice p0a5 p0.other.length p0a6, .slice p0a7 p0.advisories.length p0a8, .int .i64 p0.pull, .int .i64 p0.near, .int .i64 p0.steps, .slice p0a9 p0.ownNoise.length p0a10, .slice p0a11 p0.otherNoise.length p0a12, .bool p0.alert.neg, .slice p0a13 p0.alert.ln.length p0a14, .slice p0a15 p0.alert.ld.length p0a16, .bool p0.strengthen.neg, .slice p0a17 p0.strengthen.ln.length p0a18, .slice p0a19 p0.strengthen.ld.length p0a20, .bool p0.reversal.neg, .slice p0a21 p0.reversal.ln.length p0a22, .slice p0a23 p0.reversal.ld.length p0a24] 30 (0, 0)), (b5, .cells #[.slice u45_0_1 y44.length u45_0_2, .slice u48_0_1 y47.length u48_0_2, .slice u51_0_1 y50.length u51_0_2, .slice ad22_0 v56_0.length cap22_0, .int .i64 p0.pull, .int .i64 p0.near, .int .i64 p0.steps, .slice ad25_0 m25_0 cap25_0, .slice ad28_0 m28_0 cap28_0, .bool y30.neg, .slice u31_0_1 y30.ln.length u31_0_3, .slice u31_0_4 y30.ld.length u31_0_6, .bool y33.neg, .slice u34_0_1 y33.ln.length u34_0_3, .slice u34_0_4 y33.ld.length u34_0_6, .bool y36.neg, .slice u37_0_1 y36.ln.length u37_0_3, .slice u37_0_4 y36.ld.length u37_0_6] 30 (0, 0)), (b3, .cells #[.slice p0a1 p0.height.length p0a2, .slice p0a3 p0.own.length p0a4, .slice p0a5 p0.other.length p0a6, .slice p0a7 p0.advisories.length p0a8, .int .i64 p0.pull, .int .i64 p0.near, .int .i64 p0.steps, .slice p0a9 p0.ownNoise.length p0a10, .slice p0a11 p0.otherNoise.length p0a12, .bool p0.alert.neg, .slice p0a13 p0.alert.ln.length p0a14, .slice p0a15 p0.alert.ld.length p0a16, .bool p0.strengthen.neg, .slice p0a17 p0.strengthen.ln.length p0a18, .slice p0a19 p0.strengthen.ld.length p0a20, .bool p0.reversal.neg, .slice p0a21 p0.reversal.ln.length p0a22, .slice p0a23 p0.reversal.ld.length p0a24] 30 (0, 0))] ++ rb58_0)) (B := []) (fun rb => ((b41, .cells #[.slice u45_0_1 y44.length u45_0_2, .slice u48_0_1 y47.length u48_0_2, .slice u51_0_1 y50.length u51_0_2, .slice ad22_0 v56_0.length cap22_0, .int .i64 p0.pull, .int .i64 p0.near, .int .i64 p0.steps, .slice ad25_0 m25_0 cap25_0, .slice ad28_0 m28_0 cap28_0, .bool y30.neg, .slice u31_0_1 y30.ln.length u31_0_3, .slice u31_0_4 y30.ld.length u31_0_6, .bool y33.neg, .slice u34_0_1 y33.ln.length u34_0_3, .slice u34_0_4 y33.ld.length u34_0_6, .bool y36.neg, .slice u37_0_1 y36.ln.length u37_0_3, .slice u37_0_4 y36.ld.length u37_0_6] 30 (0, 0)) :: (b10, .cells #[.slice u13_0_1 y12.length u13_0_2, .slice u16_0_1 y15.length u16_0_2, .slice u19_0_1 y18.length u19_0_2, .slice ad22_0 v56_0.length cap22_0, .int .i64 p0.pull, .int .i64 p0.near, .int .i64 p0.steps, .slice ad25_0 m25_0 cap25_0, .slice ad28_0 m28_0 cap28_0, .bool y30.neg, .slice u31_0_1 y30.ln.length u31_0_3, .slice u31_0_4 y30.ld.length u31_0_6, .bool y33.neg, .slice u34_0_1 y33.ln.length u34_0_3, .slice u34_0_4 y33.ld.length u34_0_6, .bool y36.neg, .slice u37_0_1 y36.ln.length u37_0_3, .slice u37_0_4 y36.ld.length u37_0_6] 30 (0, 0)) :: (b8, .cells #[.slice p0a1 p0.height.length p0a2, .slice p0a3 p0.own.length p0a4, .slice p0a5 p0.other.length p0a6, .slice p0a7 p0.advisories.length p0a8, .int .i64 p0.pull, .int .i64 p0.near, .int .i64 p0.steps, .slice p0a9 p0.ownNoise.length p0a10, .slice p0a11 p0.otherNoise.length p0a12, .bool p0.alert.neg, .slice p0a13 p0.alert.ln.length p0a14, .slice p0a15 p0.alert.ld.length p0a16, .bool p0.strengthen.neg, .slice p0a17 p0.strengthen.ln.length p0a18, .slice p0a19 p0.strengthen.ld.length p0a20, .bool p0.reversal.neg, .slice p0a21 p0.reversal.ln.length p0a22, .slice p0a23 p0.reversal.ld.length p0a24] 30 (0, 0)) :: (b5, .cells #[.slice u45_0_1 y44.length u45_0_2, .slice u48_0_1 y47.length u48_0_2, .slice u51_0_1 y50.length u51_0_2, .slice ad22_0 v56_0.length cap22_0, .int .i64 p0.pull, .int .i64 p0.near, .int .i64 p0.steps, .slice ad25_0 m25_0 cap25_0, .slice ad28_0 m28_0 cap28_0, .bool y30.neg, .slice u31_0_1 y30.ln.length u31_0_3, .slice u31_0_4 y30.ld.length u31_0_6, .bool y33.neg, .slice u34_0_1 y33.ln.length u34_0_3, .slice u34_0_4 y33.ld.length u34_0_6, .bool y36.neg, .slice u37_0_1 y36.ln.length u37_0_3, .slice u37_0_4 y36.ld.length u37_0_6] 30 (0, 0)) :: (b3, .cells #[.slice p0a1 p0.height.length p0a2, .slice p0a3 p0.own.length p0a4, .slice p0a5 p0.other.length p0a6, .slice p0a7 p0.advisories.length p0a8, .int .i64 p0.pull, .int .i64 p0.near, .int .i64 p0.steps, .slice p0a9 p0.ownNoise.length p0a10, .slice p0a11 p0.otherNoise.length p0a12, .bool p0.alert.neg, .slice p0a13 p0.alert.ln.length p0a14, .slice p0a15 p0.alert.ld.length p0a16, .bool p0.strengthen.neg, .slice p0a17 p0.strengthen.ln.length p0a18, .slice p0a19 p0.strengthen.ld.length p0a20, .bool p0.reversal.neg, .slice p0a21 p0.reversal.ln.length p0a22, .slice p0a23 p0.reversal.ld.length p0a24] 30 (0, 0)) :: (rb58_0 ++ rb))) C60 (fun _ => by simp only [List.append_assoc, List.cons_append, List.nil_append, List.append_nil]) (hfv57_0_0.mono (Le3 B58 B59 B60)) NoiseDCs.at
       obtain ⟨Y61, hSx61, B61, hRx61⟩ := hob
       have C61 : St E0 w X w59 Y61 ((b41, .cells #[.slice u45_0_1 y44.length u45_0_2, .slice u48_0_1 y47.length u48_0_2, .slice u51_0_1 y50.length u51_0_2, .slice ad22_0 v56_0.length cap22_0, .int .i64 p0.pull, .int .i64 p0.near, .int .i64 p0.steps, .slice ad25_0 m25_0 cap25_0, .slice ad28_0 m28_0 cap28_0, .bool y30.neg, .slice u31_0_1 y30.ln.length u31_0_3, .slice u31_0_4 y30.ld.length u31_0_6, .bool y33.neg, .slice u34_0_1 y33.ln.length u34_0_3, .slice u34_0_4 y33.ld.length u34_0_6, .bool y36.neg, .slice u37_0_1 y36.ln.length u37_0_3, .slice u37_0_4 y36.ld.length u37_0_6] 30 (0, 0)) :: (b10, .cells #[.slice u13_0_1 y12.length u13_0_2, .slice u16_0_1 y15.length u16_0_2, .slice u19_0_1 y18.length u19_0_2, .slice ad22_0 v56_0.length cap22_0, .int .i64 p0.pull, .int .i64 p0.near, .int .i64 p0.steps, .slice ad25_0 m25_0 cap25_0, .slice ad28_0 m28_0 cap28_0, .bool y30.neg, .slice u31_0_1 y30.ln.length u31_0_3, .slice u31_0_4 y30.ld.length u31_0_6, .bool y33.neg, .slice u34_0_1 y33.ln.length u34_0_3, .slice u34_0_4 y33.ld.length u34_0_6, .bool y36.neg, .slice u37_0_1 y36.ln.length u37_0_3, .slice u37_0_4 y36.ld.length u37_0_6] 30 (0, 0)) :: (b8, .cells #[.slice p0a1 p0.height.length p0a2, .slice p0a3 p0.own.length p0a4, .slice p0a5 p0.other.length p0a6, .slice p0a7 p0.advisories.length p0a8, .int .i64 p0.pull, .int .i64 p0.near, .int .i64 p0.steps, .slice p0a9 p0.ownNoise.length p0a10, .slice p0a11 p0.otherNoise.length p0a12, .bool p0.alert.neg, .slice p0a13 p0.alert.ln.length p0a14, .slice p0a15 p0.alert.ld.length p0a16, .bool p0.strengthen.neg, .slice p0a17 p0.strengthen.ln.length p0a18, .slice p0a19 p0.strengthen.ld.length p0a20, .bool p0.reversal.neg, .slice p0a21 p0.reversal.ln.length p0a22, .slice p0a23 p0.reversal.ld.length p0a24] 30 (0, 0)) :: (b5, .cells #[.slice u45_0_1 y44.length u45_0_2, .slice u48_0_1 y47.length u48_0_2, .slice u51_0_1 y50.length u51_0_2, .slice ad22_0 v56_0.length cap22_0, .int .i64 p0.pull, .int .i64 p0.near, .int .i64 p0.steps, .slice ad25_0 m25_0 cap25_0, .slice ad28_0 m28_0 cap28_0, .bool y30.neg, .slice u31_0_1 y30.ln.length u31_0_3, .slice u31_0_4 y30.ld.length u31_0_6, .bool y33.neg, .slice u34_0_1 y33.ln.length u34_0_3, .slice u34_0_4 y33.ld.length u34_0_6, .bool y36.neg, .slice u37_0_1 y36.ln.length u37_0_3, .slice u37_0_4 y36.ld.length u37_0_6] 30 (0, 0)) :: (b3, .cells #[.slice p0a1 p0.height.length p0a2, .slice p0a3 p0.own.length p0a4, .slice p0a5 p0.other.length p0a6, .slice p0a7 p0.advisories.length p0a8, .int .i64 p0.pull, .int .i64 p0.near, .int .i64 p0.steps, .slice p0a9 p0.ownNoise.length p0a10, .slice p0a11 p0.otherNoise.length p0a12, .bool p0.alert.neg, .slice p0a13 p0.alert.ln.length p0a14, .slice p0a15 p0.alert.ld.length p0a16, .bool p0.strengthen.neg, .slice p0a17 p0.strengthen.ln.length p0a18, .slice p0a19 p0.strengthen.ld.length p0a20, .bool p0.reversal.neg, .slice p0a21 p0.reversal.ln.length p0a22, .slice p0a23 p0.reversal.ld.length p0a24] 30 (0, 0)) :: rb58_0) := by simpa only [List.append_assoc, List.append_nil, List.cons_append, List.nil_append] using hSx61
       have hob := hRx61.hlen
       subst hob
       have hR61 : NoiseDS (rd w59 Y61) ad25_0 v57_0.length cap25_0 v57_0 := hRx61
       have hob := St.pubGR (A := [(b41, .cells #[.slice u45_0_1 y44.length u45_0_2, .slice u48_0_1 y47.length u48_0_2, .slice u51_0_1 y50.length u51_0_2, .slice ad22_0 v56_0.length cap22_0, .int .i64 p0.pull, .int .i64 p0.near, .int .i64 p0.steps, .slice ad25_0 v57_0.length cap25_0, .slice ad28_0 m28_0 cap28_0, .bool y30.neg, .slice u31_0_1 y30.ln.length u31_0_3, .slice u31_0_4 y30.ld.length u31_0_6, .bool y33.neg, .slice u34_0_1 y33.ln.length u34_0_3, .slice u34_0_4 y33.ld.length u34_0_6, .bool y36.neg, .slice u37_0_1 y36.ln.length u37_0_3, .slice u37_0_4 y36.ld.length u37_0_6] 30 (0, 0)), (b10, .cells #[.slice u13_0_1 y12.length u13_0_2, .slice u16_0_1 y15.length u16_0_2, .slice u19_0_1 y18.length u19_0_2, .slice ad22_0 v56_0.length cap22_0, .int .i64 p0.pull, .int .i64 p0.near, .int .i64 p0.steps, .slice ad25_0 v57_0.length cap25_0, .slice ad28_0 m28_0 cap28_0, .bool y30.neg, .slice u31_0_1 y30.ln.length u31_0_3, .slice u31_0_4 y30.ld.length u31_0_6, .bool y33.neg, .slice u34_0_1 y33.ln.length u34_0_3, .slice u34_0_4 y33.ld.length u34_0_6, .bool y36.neg, .slice u37_0_1 y36.ln.length u37_0_3, .slice u37_0_4 y36.ld.length u37_0_6] 30 (0, 0)), (b8, .cells #[.slice p0a1 p0.height.length p0a2, .slice p0a3 p0.own.length p0a4, .slice p0a5 p0.other.length p0a6, .slice p0a7 p0.advisories.length p0a8, .int .i64 p0.pull, .int .i64 p0.near, .int .i64 p0.steps, .slice p0a9 p0.ownNoise.length p0a10, .slice p0a11 p0.otherNoise.length p0a12, .bool p0.alert.neg, .slice p0a13 p0.alert.ln.length p0a14, .slice p0a15 p0.alert.ld.length p0a16, .bool p0.strengthen.neg, .slice p0a17 p0.strengthen.ln.length p0a18, .slice p0a19 p0.strengthen.ld.length p0a20, .bool p0.reversal.neg, .slice p0a21 p0.reversal.ln.length p0a22, .slice p0a23 p0.reversal.ld.length p0a24] 30 (0, 0)), (b5, .cells #[.slice u45_0_1 y44.length u45_0_2, .slice u48_0_1 y47.length u48_0_2, .slice u51_0_1 y50.length u51_0_2, .slice ad22_0 v56_0.length cap22_0, .int .i64 p0.pull, .int .i64 p0.near, .int .i64 p0.steps, .slice ad25_0 v57_0.length cap25_0, .slice ad28_0 m28_0 cap28_0, .bool y30.neg, .slice u31_0_1 y30.ln.length u31_0_3, .slice u31_0_4 y30.ld.length u31_0_6, .bool y33.neg, .slice u34_0_1 y33.ln.length u34_0_3, .slice u34_0_4 y33.ld.length u34_0_6, .bool y36.neg, .slice u37_0_1 y36.ln.length u37_0_3, .slice u37_0_4 y36.ld.length u37_0_6] 30 (0, 0)), (b3, .cells #[.slice p0a1 p0.height.length p0a2, .slice p0a3 p0.own.length p0a4, .slice p0a5 p0.other.length p0a6, .slice p0a7 p0.advisories.length p0a8, .int .i64 p0.pull, .int .i64 p0.near, .int .i64 p0.steps, .slice p0a9 p0.ownNoise.length p0a10, .slice p0a11 p0.otherNoise.length p0a12, .bool p0.alert.neg, .slice p0a13 p0.alert.ln.length p0a14, .slice p0a15 p0.alert.ld.length p0a16, .bool p0.strengthen.neg, .slice p0a17 p0.strengthen.ln.length p0a18, .slice p0a19 p0.strengthen.ld.length p0a20, .bool p0.reversal.neg, .slice p0a21 p0.reversal.ln.length p0a22, .slice p0a23 p0.reversal.ld.length p0a24] 30 (0, 0))]) (B := []) (fun rb => ((b41, .cells #[.slice u45_0_1 y44.length u45_0_2, .slice u48_0_1 y47.length u48_0_2, .slice u51_0_1 y50.length u51_0_2, .slice ad22_0 v56_0.length cap22_0, .int .i64 p0.pull, .int .i64 p0.near, .int .i64 p0.steps, .slice ad25_0 v57_0.length cap25_0, .slice ad28_0 m28_0 cap28_0, .bool y30.neg, .slice u31_0_1 y30.ln.length u31_0_3, .slice u31_0_4 y30.ld.length u31_0_6, .bool y33.neg, .slice u34_0_1 y33.ln.length u34_0_3, .slice u34_0_4 y33.ld.length u34_0_6, .bool y36.neg, .slice u37_0_1 y36.ln.length u37_0_3, .slice u37_0_4 y36.ld.length u37_0_6] 30 (0, 0)) :: (b10, .cells #[.slice u13_0_1 y12.length u13_0_2, .slice u16_0_1 y15.length u16_0_2, .slice u19_0_1 y18.length u19_0_2, .slice ad22_0 v56_0.length cap22_0, .int .i64 p0.pull, .int .i64 p0.near, .int .i64 p0.steps, .slice ad25_0 v57_0.length cap25_0, .slice ad28_0 m28_0 cap28_0, .bool y30.neg, .slice u31_0_1 y30.ln.length u31_0_3, .slice u31_0_4 y30.ld.length u31_0_6, .bool y33.neg, .slice u34_0_1 y33.ln.length u34_0_3, .slice u34_0_4 y33.ld.length u34_0_6, .bool y36.neg, .slice u37_0_1 y36.ln.length u37_0_3, .slice u37_0_4 y36.ld.length u37_0_6] 30 (0, 0)) :: (b8, .cells #[.slice p0a1 p0.height.length p0a2, .slice p0a3 p0.own.length p0a4, .slice p0a5 p0.other.length p0a6, .slice p0a7 p0.advisories.length p0a8, .int .i64 p0.pull, .int .i64 p0.near, .int .i64 p0.steps, .slice p0a9 p0.ownNoise.length p0a10, .slice p0a11 p0.otherNoise.length p0a12, .bool p0.alert.neg, .slice p0a13 p0.alert.ln.length p0a14, .slice p0a15 p0.alert.ld.length p0a16, .bool p0.strengthen.neg, .slice p0a17 p0.strengthen.ln.length p0a18, .slice p0a19 p0.strengthen.ld.length p0a20, .bool p0.reversal.neg, .slice p0a21 p0.reversal.ln.length p0a22, .slice p0a23 p0.reversal.ld.length p0a24] 30 (0, 0)) :: (b5, .cells #[.slice u45_0_1 y44.length u45_0_2, .slice u48_0_1 y47.length u48_0_2, .slice u51_0_1 y50.length u51_0_2, .slice ad22_0 v56_0.length cap22_0, .int .i64 p0.pull, .int .i64 p0.near, .int .i64 p0.steps, .slice ad25_0 v57_0.length cap25_0, .slice ad28_0 m28_0 cap28_0, .bool y30.neg, .slice u31_0_1 y30.ln.length u31_0_3, .slice u31_0_4 y30.ld.length u31_0_6, .bool y33.neg, .slice u34_0_1 y33.ln.length u34_0_3, .slice u34_0_4 y33.ld.length u34_0_6, .bool y36.neg, .slice u37_0_1 y36.ln.length u37_0_3, .slice u37_0_4 y36.ld.length u37_0_6] 30 (0, 0)) :: (b3, .cells #[.slice p0a1 p0.height.length p0a2, .slice p0a3 p0.own.length p0a4, .slice p0a5 p0.other.length p0a6, .slice p0a7 p0.advisories.length p0a8, .int .i64 p0.pull, .int .i64 p0.near, .int .i64 p0.steps, .slice p0a9 p0.ownNoise.length p0a10, .slice p0a11 p0.otherNoise.length p0a12, .bool p0.alert.neg, .slice p0a13 p0.alert.ln.length p0a14, .slice p0a15 p0.alert.ld.length p0a16, .bool p0.strengthen.neg, .slice p0a17 p0.strengthen.ln.length p0a18, .slice p0a19 p0.strengthen.ld.length p0a20, .bool p0.reversal.neg, .slice p0a21 p0.reversal.ln.length p0a22, .slice p0a23 p0.reversal.ld.length p0a24] 30 (0, 0)) :: rb)) C61 (fun _ => by simp only [List.append_assoc, List.cons_append, List.nil_append, List.append_nil]) (hfv58_0_0.mono (Le3 B59 B60 B61)) NoiseDCs.at
       obtain ⟨Y62, hSx62, B62, hRx62⟩ := hob
       have C62 : St E0 w X w59 Y62 [(b41, .cells #[.slice u45_0_1 y44.length u45_0_2, .slice u48_0_1 y47.length u48_0_2, .slice u51_0_1 y50.length u51_0_2, .slice ad22_0 v56_0.length cap22_0, .int .i64 p0.pull, .int .i64 p0.near, .int .i64 p0.steps, .slice ad25_0 v57_0.length cap25_0, .slice ad28_0 m28_0 cap28_0, .bool y30.neg, .slice u31_0_1 y30.ln.length u31_0_3, .slice u31_0_4 y30.ld.length u31_0_6, .bool y33.neg, .slice u34_0_1 y33.ln.length u34_0_3, .slice u34_0_4 y33.ld.length u34_0_6, .bool y36.neg, .slice u37_0_1 y36.ln.length u37_0_3, .slice u37_0_4 y36.ld.length u37_0_6] 30 (0, 0)), (b10, .cells #[.slice u13_0_1 y12.length u13_0_2, .slice u16_0_1 y15.length u16_0_2, .slice u19_0_1 y18.length u19_0_2, .slice ad22_0 v56_0.length cap22_0, .int .i64 p0.pull, .int .i64 p0.near, .int .i64 p0.steps, .slice ad25_0 v57_0.length cap25_0, .slice ad28_0 m28_0 cap28_0, .bool y30.neg, .slice u31_0_1 y30.ln.length u31_0_3, .slice u31_0_4 y30.ld.length u31_0_6, .bool y33.neg, .slice u34_0_1 y33.ln.length u34_0_3, .slice u34_0_4 y33.ld.length u34_0_6, .bool y36.neg, .slice u37_0_1 y36.ln.length u37_0_3, .slice u37_0_4 y36.ld.length u37_0_6] 30 (0, 0)), (b8, .cells #[.slice p0a1 p0.height.length p0a2, .slice p0a3 p0.own.length p0a4, .slice p0a5 p0.other.length p0a6, .slice p0a7 p0.advisories.length p0a8, .int .i64 p0.pull, .int .i64 p0.near, .int .i64 p0.steps, .slice p0a9 p0.ownNoise.length p0a10, .slice p0a11 p0.otherNoise.length p0a12, .bool p0.alert.neg, .slice p0a13 p0.alert.ln.length p0a14, .slice p0a15 p0.alert.ld.length p0a16, .bool p0.strengthen.neg, .slice p0a17 p0.strengthen.ln.length p0a18, .slice p0a19 p0.strengthen.ld.length p0a20, .bool p0.reversal.neg, .slice p0a21 p0.reversal.ln.length p0a22, .slice p0a23 p0.reversal.ld.length p0a24] 30 (0, 0)), (b5, .cells #[.slice u45_0_1 y44.length u45_0_2, .slice u48_0_1 y47.length u48_0_2, .slice u51_0_1 y50.length u51_0_2, .slice ad22_0 v56_0.length cap22_0, .int .i64 p0.pull, .int .i64 p0.near, .int .i64 p0.steps, .slice ad25_0 v57_0.length cap25_0, .slice ad28_0 m28_0 cap28_0, .bool y30.neg, .slice u31_0_1 y30.ln.length u31_0_3, .slice u31_0_4 y30.ld.length u31_0_6, .bool y33.neg, .slice u34_0_1 y33.ln.length u34_0_3, .slice u34_0_4 y33.ld.length u34_0_6, .bool y36.neg, .slice u37_0_1 y36.ln.length u37_0_3, .slice u37_0_4 y36.ld.length u37_0_6] 30 (0, 0)), (b3, .cells #[.slice p0a1 p0.height.length p0a2, .slice p0a3 p0.own.length p0a4, .slice p0a5 p0.other.length p0a6, .slice p0a7 p0.advisories.length p0a8, .int .i64 p0.pull, .int .i64 p0.near, .int .i64 p0.steps, .slice p0a9 p0.ownNoise.length p0a10, .slice p0a11 p0.otherNoise.length p0a12, .bool p0.alert.neg, .slice p0a13 p0.alert.ln.length p0a14, .slice p0a15 p0.alert.ld.length p0a16, .bool p0.strengthen.neg, .slice p0a17 p0.strengthen.ln.length p0a18, .slice p0a19 p0.strengthen.ld.length p0a20, .bool p0.reversal.neg, .slice p0a21 p0.reversal.ln.length p0a22, .slice p0a23 p0.reversal.ld.length p0a24] 30 (0, 0))] := hSx62
       have hob := hRx62.hlen
       subst hob
       have hR62 : NoiseDS (rd w59 Y62) ad28_0 v58_0.length cap28_0 v58_0 := hRx62
       have hob := Option.some.inj hp
       subst hob
       have hc10_ := (Le12 B48 B51 B52 B53 B54 B55 B56 B57 B58 B59 B60 B61).trans B62
       have hc11_ := (Le11 B51 B52 B53 B54 B55 B56 B57 B58 B59 B60 B61).trans B62
       have hc12_ := (Le10 B52 B53 B54 B55 B56 B57 B58 B59 B60 B61).trans B62
       have hc13_ := (Le19 B34 B37 B38 B39 B41 B42 B45 B48 B51 B52 B53 B54 B55 B56 B57 B58 B59 B60 B61).trans B62
       have hc14_ := (Le18 B37 B38 B39 B41 B42 B45 B48 B51 B52 B53 B54 B55 B56 B57 B58 B59 B60 B61).trans B62
       have hc15_ := (Le17 B38 B39 B41 B42 B45 B48 B51 B52 B53 B54 B55 B56 B57 B58 B59 B60 B61).trans B62
       exact ⟨C62.upd, _, rfl, ⟨_, _, _, _, _, _, _, _, _, _, _, _, _, _, _, _, _, _, _, _, _, _, _, _, rfl, (((u45_0__h0.mono (Le.new C43.lt)).mono hc10_)).mono C62.le, (((u48_0__h0.mono (Le.new C46.lt)).mono hc11_)).mono C62.le, (((u51_0__h0.mono (Le.new C49.lt)).mono hc12_)).mono C62.le, ((hR60.mono (Le2 B61 B62))).mono C62.le, ((hR61.mono B62)).mono C62.le, (hR62).mono C62.le, ((u31_0__h0.mono hc13_)).mono C62.le, ((u31_0__h1.mono hc13_)).mono C62.le, ((u34_0__h0.mono hc14_)).mono C62.le, ((u34_0__h1.mono hc14_)).mono C62.le, ((u37_0__h0.mono hc15_)).mono C62.le, ((u37_0__h1.mono hc15_)).mono C62.le⟩⟩
      intro K63 H63
      refine zz 6 ?_
      have hc16_ := (Le15 B31 B34 B37 B38 B39 B41 B42 B45 B48 B51 B52 B53 B54 B55 B56).trans B57
      have hb64 : (v28_0.length : Int) ≤ 9223372036854775807 := GRow.bnd hfv28_0_0
      refine zlp Tryz.f12 [K63] [1, 1, 1, 1, 1, 9, 1, 0] (fun ((k64, v64_1, rb64_1) : Nat × (List NoiseD) × (List (Nat × Obj))) => [(1, .pointer (some ⟨b3, 0, none⟩)), (2, .pointer (some ⟨b5, 0, none⟩)), (3, .pointer (some ⟨b41, 0, none⟩)), (6, .int .i64 (k64 : Int))]) (fun ((k64, v64_1, rb64_1) : Nat × (List NoiseD) × (List (Nat × Obj))) w1 => ∃ Y1 : Hid, St E0 w X w1 Y1 ((b41, .cells #[.slice u45_0_1 y44.length u45_0_2, .slice u48_0_1 y47.length u48_0_2, .slice u51_0_1 y50.length u51_0_2, .slice ad22_0 m22_0 cap22_0, .int .i64 p0.pull, .int .i64 p0.near, .int .i64 p0.steps, .slice ad25_0 m25_0 cap25_0, .slice ad28_0 m28_0 cap28_0, .bool y30.neg, .slice u31_0_1 y30.ln.length u31_0_3, .slice u31_0_4 y30.ld.length u31_0_6, .bool y33.neg, .slice u34_0_1 y33.ln.length u34_0_3, .slice u34_0_4 y33.ld.length u34_0_6, .bool y36.neg, .slice u37_0_1 y36.ln.length u37_0_3, .slice u37_0_4 y36.ld.length u37_0_6] 30 (0, 0)) :: (b10, .cells #[.slice u13_0_1 y12.length u13_0_2, .slice u16_0_1 y15.length u16_0_2, .slice u19_0_1 y18.length u19_0_2, .slice ad22_0 m22_0 cap22_0, .int .i64 p0.pull, .int .i64 p0.near, .int .i64 p0.steps, .slice ad25_0 m25_0 cap25_0, .slice ad28_0 m28_0 cap28_0, .bool y30.neg, .slice u31_0_1 y30.ln.length u31_0_3, .slice u31_0_4 y30.ld.length u31_0_6, .bool y33.neg, .slice u34_0_1 y33.ln.length u34_0_3, .slice u34_0_4 y33.ld.length u34_0_6, .bool y36.neg, .slice u37_0_1 y36.ln.length u37_0_3, .slice u37_0_4 y36.ld.length u37_0_6] 30 (0, 0)) :: (b8, .cells #[.slice p0a1 p0.height.length p0a2, .slice p0a3 p0.own.length p0a4, .slice p0a5 p0.other.length p0a6, .slice p0a7 p0.advisories.length p0a8, .int .i64 p0.pull, .int .i64 p0.near, .int .i64 p0.steps, .slice p0a9 p0.ownNoise.length p0a10, .slice p0a11 p0.otherNoise.length p0a12, .bool p0.alert.neg, .slice p0a13 p0.alert.ln.length p0a14, .slice p0a15 p0.alert.ld.length p0a16, .bool p0.strengthen.neg, .slice p0a17 p0.strengthen.ln.length p0a18, .slice p0a19 p0.strengthen.ld.length p0a20, .bool p0.reversal.neg, .slice p0a21 p0.reversal.ln.length p0a22, .slice p0a23 p0.reversal.ld.length p0a24] 30 (0, 0)) :: (b5, .cells #[.slice none 0 0, .slice none 0 0, .slice none 0 0, .slice none 0 0, .int .i64 0, .int .i64 0, .int .i64 0, .slice none 0 0, .slice none 0 0, .bool false, .slice none 0 0, .slice none 0 0, .bool false, .slice none 0 0, .slice none 0 0, .bool false, .slice none 0 0, .slice none 0 0] 30 (0, 0)) :: (b3, .cells #[.slice p0a1 p0.height.length p0a2, .slice p0a3 p0.own.length p0a4, .slice p0a5 p0.other.length p0a6, .slice p0a7 p0.advisories.length p0a8, .int .i64 p0.pull, .int .i64 p0.near, .int .i64 p0.steps, .slice p0a9 p0.ownNoise.length p0a10, .slice p0a11 p0.otherNoise.length p0a12, .bool p0.alert.neg, .slice p0a13 p0.alert.ln.length p0a14, .slice p0a15 p0.alert.ld.length p0a16, .bool p0.strengthen.neg, .slice p0a17 p0.strengthen.ln.length p0a18, .slice p0a19 p0.strengthen.ld.length p0a20, .bool p0.reversal.neg, .slice p0a21 p0.reversal.ln.length p0a22, .slice p0a23 p0.reversal.ld.length p0a24] 30 (0, 0)) :: (rb64_1 ++ (rb57_0 ++ rb56_0))) ∧ Le (rd w57 Y57) (rd w1 Y1) ∧ GRow NoiseDCs 58 4 (rd w1 Y1) rb64_1 ad28_0 m28_0 cap28_0 v64_1 ∧ clearwaylaw24_mirror_l64 p0 v28_0 J58 (v28_0.drop k64) k64 v64_1 = some y) (fun ((k64, v64_1, rb64_1) : Nat × (List NoiseD) × (List (Nat × Obj))) => v28_0.length - k64) (0, v28_0, rb28_0) ?_ ?_
      ·
       exact ⟨_, C57, Le.refl _, (hfv28_0_0.mono hc16_), hp⟩
      rintro ⟨k64, v64_1, rb64_1⟩ w64 K64 H64 ⟨Y64, C64, B64, hfv64_1_0, hp⟩
      refine zz 5 ?_
      refine zo 0 C64 ?_
      refine zz 1 ?_
      refine zs 87 (v := .int .i64 (m28_0 : Int)) (v' := .int .i64 (v28_0.length : Int)) (vint (congrArg (fun n : Nat => (n : Int)) (GRow.len hfv28_0_0))) ?_
      refine zz 3 ?_
      refine zt 88 (p := (k64 : Int) < (v28_0.length : Int)) (fun ht65 => ?_) (fun ht65 => ?_)
      ·
       have hob := get_lt (l := v28_0) (k := k64) (lt_of_int ht65)
       obtain ⟨x64, hqx64⟩ := hob
       rw [dropC hqx64, clearwaylaw24_mirror_l64] at hp
       have hzx64 : (0 : Int) ≤ (k64 : Int) := Int.natCast_nonneg _
       refine zz 5 ?_
       refine zdraw [0, 1, 2, 3, 4] C64 ?_
       refine gz [0] ?_
       refine gw 1 0 ?_
       refine gz [2] ?_
       refine gw 3 0 ?_
       refine gz [4] ?_
       refine gset 95 (v := .int .i64 (m28_0 : Int)) (v' := .int .i64 (v28_0.length : Int)) (vint (congrArg (fun n : Nat => (n : Int)) (GRow.len hfv28_0_0))) ?_
       refine gz [5, 6, 7, 8] ?_
       refine gw 9 4 ?_
       refine bndk hp fun x66 hx66 hp => ?_
       have hob := ix_some hx66
       obtain ⟨hzx66, hqx66⟩ := hob
       have hwx66 : p0.otherNoise[k64]? = some x66 := hqx66
       have hob := p0a_h5.opn hwx66
       obtain ⟨be67, oe67, rfl, B67, hEe67⟩ := hob
       obtain ⟨e671, e672, e673, e674, e67_at, e67_h0, e67_h1⟩ := hEe67
       refine gz [10] ?_
       refine gi 11 (b := be67) (off := oe67) (len := p0.otherNoise.length) (cap := p0a12) (kd := .i64) (i := (k64 : Int)) 4 (oe67 + k64 * 4) ?_ (h0 := hzx66) (h1 := (ix_b hzx66 B67))
       have hc17_ := (((((((hc9_.trans B51).trans B52).trans B53).trans B54).trans B55).trans B56).trans B57).trans B64
       refine gz [12] ?_
       refine gl 13 ((e67_at.mono hc17_).sub 0 1) ?_
       refine gz [14, 15] ?_
       refine gw 16 4 ?_
       refine gz [17] ?_
       refine gi 18 (b := be67) (off := oe67) (len := p0.otherNoise.length) (cap := p0a12) (kd := .i64) (i := (k64 : Int)) 4 (oe67 + k64 * 4) ?_ (h0 := hzx66) (h1 := (ix_b hzx66 B67))
       have hc18_ := (((((((hc9_.trans B51).trans B52).trans B53).trans B54).trans B55).trans B56).trans B57).trans B64
       refine gz [19] ?_
       refine gl 20 ((e67_at.mono hc18_).sub 1 3) ?_
       refine bndk hp fun x68 hx68 hp => ?_
       have hob := ix_some hx68
       obtain ⟨hzx68, hqx68⟩ := hob
       have hob := hfv64_1_0.opn hqx68
       obtain ⟨ge69, cure69, cse69, rfl, rfl, B69, hce69, hcue69⟩ := hob
       have hob := (hce69.2 _ (Le.refl _))
       obtain ⟨e691, e692, e693, e694, rfl, e69_h0, e69_h1⟩ := hob
       refine gz [21] ?_
       refine gi 22 (b := ge69) (off := 0) (len := m28_0) (cap := cap28_0) (kd := .i64) (i := IntKind.i64.wrap ((IntKind.i64.wrap ((v28_0.length : Int) - 1)) - (k64 : Int))) 4 (0 + (IntKind.i64.wrap ((IntKind.i64.wrap ((v28_0.length : Int) - 1)) - (k64 : Int))).toNat * 4) ?_ (h0 := hzx68) (h1 := (ix_b hzx68 B69))
       refine gO 23 (fun a70 w70 Y70 G70 C70 B70 => ?_)
       have hc19_ := ((((((((hc9_.trans B51).trans B52).trans B53).trans B54).trans B55).trans B56).trans B57).trans B64).trans B70
       have hgs71 := GRow.set (cs := [.int .i64 (IntKind.i64.wrap ((0 : Int) - x66.delta)), .bool x66.p.neg, .slice e671 x66.p.ln.length e672, .slice e673 x66.p.ld.length e674]) (x := (NoiseD.mk (IntKind.i64.wrap ((0 : Int) - x66.delta)) x66.p)) (hfv64_1_0.mono B70) B69 ⟨rfl, fun r2 h2 => ⟨_, _, _, _, rfl, ((e67_h0.mono hc19_).mono h2), ((e67_h1.mono hc19_).mono h2)⟩⟩
       refine op_storeGZ (k := 0 + (IntKind.i64.wrap ((IntKind.i64.wrap ((v28_0.length : Int) - 1)) - (k64 : Int))).toNat * 4) (k' := (IntKind.i64.wrap ((IntKind.i64.wrap ((v28_0.length : Int) - 1)) - (k64 : Int))).toNat * 4) (vs := [.int .i64 (IntKind.i64.wrap ((0 : Int) - x66.delta)), .bool x66.p.neg, .slice e671 x66.p.ln.length e672, .slice e673 x66.p.ld.length e674]) (A := [(b41, .cells #[.slice u45_0_1 y44.length u45_0_2, .slice u48_0_1 y47.length u48_0_2, .slice u51_0_1 y50.length u51_0_2, .slice ad22_0 m22_0 cap22_0, .int .i64 p0.pull, .int .i64 p0.near, .int .i64 p0.steps, .slice ad25_0 m25_0 cap25_0, .slice (some ⟨ge69, 0, none⟩) m28_0 cap28_0, .bool y30.neg, .slice u31_0_1 y30.ln.length u31_0_3, .slice u31_0_4 y30.ld.length u31_0_6, .bool y33.neg, .slice u34_0_1 y33.ln.length u34_0_3, .slice u34_0_4 y33.ld.length u34_0_6, .bool y36.neg, .slice u37_0_1 y36.ln.length u37_0_3, .slice u37_0_4 y36.ld.length u37_0_6] 30 (0, 0)), (b10, .cells #[.slice u13_0_1 y12.length u13_0_2, .slice u16_0_1 y15.length u16_0_2, .slice u19_0_1 y18.length u19_0_2, .slice ad22_0 m22_0 cap22_0, .int .i64 p0.pull, .int .i64 p0.near, .int .i64 p0.steps, .slice ad25_0 m25_0 cap25_0, .slice (some ⟨ge69, 0, none⟩) m28_0 cap28_0, .bool y30.neg, .slice u31_0_1 y30.ln.length u31_0_3, .slice u31_0_4 y30.ld.length u31_0_6, .bool y33.neg, .slice u34_0_1 y33.ln.length u34_0_3, .slice u34_0_4 y33.ld.length u34_0_6, .bool y36.neg, .slice u37_0_1 y36.ln.length u37_0_3, .slice u37_0_4 y36.ld.length u37_0_6] 30 (0, 0)), (b8, .cells #[.slice p0a1 p0.height.length p0a2, .slice p0a3 p0.own.length p0a4, .slice p0a5 p0.other.length p0a6, .slice p0a7 p0.advisories.length p0a8, .int .i64 p0.pull, .int .i64 p0.near, .int .i64 p0.steps, .slice p0a9 p0.ownNoise.length p0a10, .slice (some ⟨be67, oe67, none⟩) p0.otherNoise.length p0a12, .bool p0.alert.neg, .slice p0a13 p0.alert.ln.length p0a14, .slice p0a15 p0.alert.ld.length p0a16, .bool p0.strengthen.neg, .slice p0a17 p0.strengthen.ln.length p0a18, .slice p0a19 p0.strengthen.ld.length p0a20, .bool p0.reversal.neg, .slice p0a21 p0.reversal.ln.length p0a22, .slice p0a23 p0.reversal.ld.length p0a24] 30 (0, 0)), (b5, .cells #[.slice none 0 0, .slice none 0 0, .slice none 0 0, .slice none 0 0, .int .i64 0, .int .i64 0, .int .i64 0, .slice none 0 0, .slice none 0 0, .bool false, .slice none 0 0, .slice none 0 0, .bool false, .slice none 0 0, .slice none 0 0, .bool false, .slice none 0 0, .slice none 0 0] 30 (0, 0)), (b3, .cells #[.slice p0a1 p0.height.length p0a2, .slice p0a3 p0.own.length p0a4, .slice p0a5 p0.other.length p0a6, .slice p0a7 p0.advisories.length p0a8, .int .i64 p0.pull, .int .i64 p0.near, .int .i64 p0.steps, .slice p0a9 p0.ownNoise.length p0a10, .slice (some ⟨be67, oe67, none⟩) p0.otherNoise.length p0a12, .bool p0.alert.neg, .slice p0a13 p0.alert.ln.length p0a14, .slice p0a15 p0.alert.ld.length p0a16, .bool p0.strengthen.neg, .slice p0a17 p0.strengthen.ln.length p0a18, .slice p0a19 p0.strengthen.ld.length p0a20, .bool p0.reversal.neg, .slice p0a21 p0.reversal.ln.length p0a22, .slice p0a23 p0.reversal.ld.length p0a24] 30 (0, 0))]) (B := (rb57_0 ++ rb56_0)) (fun rb => ((b41, .cells #[.slice u45_0_1 y44.length u45_0_2, .slice u48_0_1 y47.length u48_0_2, .slice u51_0_1 y50.length u51_0_2, .slice ad22_0 m22_0 cap22_0, .int .i64 p0.pull, .int .i64 p0.near, .int .i64 p0.steps, .slice ad25_0 m25_0 cap25_0, .slice (some ⟨ge69, 0, none⟩) m28_0 cap28_0, .bool y30.neg, .slice u31_0_1 y30.ln.length u31_0_3, .slice u31_0_4 y30.ld.length u31_0_6, .bool y33.neg, .slice u34_0_1 y33.ln.length u34_0_3, .slice u34_0_4 y33.ld.length u34_0_6, .bool y36.neg, .slice u37_0_1 y36.ln.length u37_0_3, .slice u37_0_4 y36.ld.length u37_0_6] 30 (0, 0)) :: (b10, .cells #[.slice u13_0_1 y12.length u13_0_2, .slice u16_0_1 y15.length u16_0_2, .slice u19_0_1 y18.length u19_0_2, .slice ad22_0 m22_0 cap22_0, .int .i64 p0.pull, .int .i64 p0.near, .int .i64 p0.steps, .slice ad25_0 m25_0 cap25_0, .slice (some ⟨ge69, 0, none⟩) m28_0 cap28_0, .bool y30.neg, .slice u31_0_1 y30.ln.length u31_0_3, .slice u31_0_4 y30.ld.length u31_0_6, .bool y33.neg, .slice u34_0_1 y33.ln.length u34_0_3, .slice u34_0_4 y33.ld.length u34_0_6, .bool y36.neg, .slice u37_0_1 y36.ln.length u37_0_3, .slice u37_0_4 y36.ld.length u37_0_6] 30 (0, 0)) :: (b8, .cells #[.slice p0a1 p0.height.length p0a2, .slice p0a3 p0.own.length p0a4, .slice p0a5 p0.other.length p0a6, .slice p0a7 p0.advisories.length p0a8, .int .i64 p0.pull, .int .i64 p0.near, .int .i64 p0.steps, .slice p0a9 p0.ownNoise.length p0a10, .slice (some ⟨be67, oe67, none⟩) p0.otherNoise.length p0a12, .bool p0.alert.neg, .slice p0a13 p0.alert.ln.length p0a14, .slice p0a15 p0.alert.ld.length p0a16, .bool p0.strengthen.neg, .slice p0a17 p0.strengthen.ln.length p0a18, .slice p0a19 p0.strengthen.ld.length p0a20, .bool p0.reversal.neg, .slice p0a21 p0.reversal.ln.length p0a22, .slice p0a23 p0.reversal.ld.length p0a24] 30 (0, 0)) :: (b5, .cells #[.slice none 0 0, .slice none 0 0, .slice none 0 0, .slice none 0 0, .int .i64 0, .int .i64 0, .int .i64 0, .slice none 0 0, .slice none 0 0, .bool false, .slice none 0 0, .slice none 0 0, .bool false, .slice none 0 0, .slice none 0 0, .bool false, .slice none 0 0, .slice none 0 0] 30 (0, 0)) :: (b3, .cells #[.slice p0a1 p0.height.length p0a2, .slice p0a3 p0.own.length p0a4, .slice p0a5 p0.other.length p0a6, .slice p0a7 p0.advisories.length p0a8, .int .i64 p0.pull, .int .i64 p0.near, .int .i64 p0.steps, .slice p0a9 p0.ownNoise.length p0a10, .slice (some ⟨be67, oe67, none⟩) p0.otherNoise.length p0a12, .bool p0.alert.neg, .slice p0a13 p0.alert.ln.length p0a14, .slice p0a15 p0.alert.ld.length p0a16, .bool p0.strengthen.neg, .slice p0a17 p0.strengthen.ln.length p0a18, .slice p0a19 p0.strengthen.ld.length p0a20, .bool p0.reversal.neg, .slice p0a21 p0.reversal.ln.length p0a22, .slice p0a23 p0.reversal.ld.length p0a24] 30 (0, 0)) :: (rb ++ (rb57_0 ++ rb56_0)))) G70 kr C70 (fun _ => by simp only [List.append_assoc, List.cons_append, List.nil_append, List.append_nil]) kr kr kr (q := true) kr kr (Nat.zero_add _) hgs71.2 ?_
       intro w72 hSx72 B72
       obtain ⟨cur72, hcu72⟩ : ∃ c, c = setCells cure69 ((IntKind.i64.wrap ((IntKind.i64.wrap ((v28_0.length : Int) - 1)) - (k64 : Int))).toNat * 4) [.int .i64 (IntKind.i64.wrap ((0 : Int) - x66.delta)), .bool x66.p.neg, .slice e671 x66.p.ln.length e672, .slice e673 x66.p.ld.length e674] := ⟨_, rfl⟩
       rw [← hcu72] at hSx72 hgs71
       have C72 : St E0 w X w72 Y70 ((b41, .cells #[.slice u45_0_1 y44.length u45_0_2, .slice u48_0_1 y47.length u48_0_2, .slice u51_0_1 y50.length u51_0_2, .slice ad22_0 m22_0 cap22_0, .int .i64 p0.pull, .int .i64 p0.near, .int .i64 p0.steps, .slice ad25_0 m25_0 cap25_0, .slice (some ⟨ge69, 0, none⟩) m28_0 cap28_0, .bool y30.neg, .slice u31_0_1 y30.ln.length u31_0_3, .slice u31_0_4 y30.ld.length u31_0_6, .bool y33.neg, .slice u34_0_1 y33.ln.length u34_0_3, .slice u34_0_4 y33.ld.length u34_0_6, .bool y36.neg, .slice u37_0_1 y36.ln.length u37_0_3, .slice u37_0_4 y36.ld.length u37_0_6] 30 (0, 0)) :: (b10, .cells #[.slice u13_0_1 y12.length u13_0_2, .slice u16_0_1 y15.length u16_0_2, .slice u19_0_1 y18.length u19_0_2, .slice ad22_0 m22_0 cap22_0, .int .i64 p0.pull, .int .i64 p0.near, .int .i64 p0.steps, .slice ad25_0 m25_0 cap25_0, .slice (some ⟨ge69, 0, none⟩) m28_0 cap28_0, .bool y30.neg, .slice u31_0_1 y30.ln.length u31_0_3, .slice u31_0_4 y30.ld.length u31_0_6, .bool y33.neg, .slice u34_0_1 y33.ln.length u34_0_3, .slice u34_0_4 y33.ld.length u34_0_6, .bool y36.neg, .slice u37_0_1 y36.ln.length u37_0_3, .slice u37_0_4 y36.ld.length u37_0_6] 30 (0, 0)) :: (b8, .cells #[.slice p0a1 p0.height.length p0a2, .slice p0a3 p0.own.length p0a4, .slice p0a5 p0.other.length p0a6, .slice p0a7 p0.advisories.length p0a8, .int .i64 p0.pull, .int .i64 p0.near, .int .i64 p0.steps, .slice p0a9 p0.ownNoise.length p0a10, .slice (some ⟨be67, oe67, none⟩) p0.otherNoise.length p0a12, .bool p0.alert.neg, .slice p0a13 p0.alert.ln.length p0a14, .slice p0a15 p0.alert.ld.length p0a16, .bool p0.strengthen.neg, .slice p0a17 p0.strengthen.ln.length p0a18, .slice p0a19 p0.strengthen.ld.length p0a20, .bool p0.reversal.neg, .slice p0a21 p0.reversal.ln.length p0a22, .slice p0a23 p0.reversal.ld.length p0a24] 30 (0, 0)) :: (b5, .cells #[.slice none 0 0, .slice none 0 0, .slice none 0 0, .slice none 0 0, .int .i64 0, .int .i64 0, .int .i64 0, .slice none 0 0, .slice none 0 0, .bool false, .slice none 0 0, .slice none 0 0, .bool false, .slice none 0 0, .slice none 0 0, .bool false, .slice none 0 0, .slice none 0 0] 30 (0, 0)) :: (b3, .cells #[.slice p0a1 p0.height.length p0a2, .slice p0a3 p0.own.length p0a4, .slice p0a5 p0.other.length p0a6, .slice p0a7 p0.advisories.length p0a8, .int .i64 p0.pull, .int .i64 p0.near, .int .i64 p0.steps, .slice p0a9 p0.ownNoise.length p0a10, .slice (some ⟨be67, oe67, none⟩) p0.otherNoise.length p0a12, .bool p0.alert.neg, .slice p0a13 p0.alert.ln.length p0a14, .slice p0a15 p0.alert.ld.length p0a16, .bool p0.strengthen.neg, .slice p0a17 p0.strengthen.ln.length p0a18, .slice p0a19 p0.strengthen.ld.length p0a20, .bool p0.reversal.neg, .slice p0a21 p0.reversal.ln.length p0a22, .slice p0a23 p0.reversal.ld.length p0a24] 30 (0, 0)) :: ([(ge69, .cells cur72 58 (0, 0))] ++ (rb57_0 ++ rb56_0))) := hSx72
       have hg72 := hgs71.1.mono B72
       refine ⟨_, _, _, _, G70, C72, Le.refl _, .inl kr, ?_⟩
       refine gend (fun w73 Y73 C73 B73 => ?_)
       refine zz 5 ?_
       refine zs 90 (v := .int .i64 (IntKind.i64.wrap ((k64 : Int) + 1))) (v' := .int .i64 ((k64 : Int) + 1)) (vint (wi64 (wk0 k64) (wk1 ht65 hb64))) ?_
       refine zz 2 ?_
       have hc20_ := (Le3 B64 B70 B72).trans B73
       refine znext (fun a h => H64 (k64 + 1, (v64_1.set (IntKind.i64.wrap ((IntKind.i64.wrap ((v28_0.length : Int) - 1)) - (k64 : Int))).toNat (NoiseD.mk (IntKind.i64.wrap ((0 : Int) - x66.delta)) x66.p)), [(ge69, .cells cur72 58 (0, 0))]) _ a h ⟨_, C73, hc20_, (hg72.mono B73), hp⟩ ?_)
       exact mu_lt ht65
      rw [List.drop_eq_nil_of_le (nlt_of_int ht65), clearwaylaw24_mirror_l64] at hp
      refine zz 5 ?_
      exact znext (fun a h => H63 (v64_1, rb64_1) _ a h ⟨_, C64, B64, hfv64_1_0, hp⟩)
     intro K74 H74
     refine zz 6 ?_
     have hc21_ := (Le16 B26 B28 B31 B34 B37 B38 B39 B41 B42 B45 B48 B51 B52 B53 B54 B55).trans B56
     have hb75 : (v25_0.length : Int) ≤ 9223372036854775807 := GRow.bnd hfv25_0_0
     refine zlp Tryz.f12 [K74] [1, 1, 1, 1, 9, 1, 0] (fun ((k75, v75_1, rb75_1) : Nat × (List NoiseD) × (List (Nat × Obj))) => [(1, .pointer (some ⟨b3, 0, none⟩)), (2, .pointer (some ⟨b5, 0, none⟩)), (3, .pointer (some ⟨b41, 0, none⟩)), (5, .int .i64 (k75 : Int))]) (fun ((k75, v75_1, rb75_1) : Nat × (List NoiseD) × (List (Nat × Obj))) w1 => ∃ Y1 : Hid, St E0 w X w1 Y1 ((b41, .cells #[.slice u45_0_1 y44.length u45_0_2, .slice u48_0_1 y47.length u48_0_2, .slice u51_0_1 y50.length u51_0_2, .slice ad22_0 m22_0 cap22_0, .int .i64 p0.pull, .int .i64 p0.near, .int .i64 p0.steps, .slice ad25_0 m25_0 cap25_0, .slice ad28_0 m28_0 cap28_0, .bool y30.neg, .slice u31_0_1 y30.ln.length u31_0_3, .slice u31_0_4 y30.ld.length u31_0_6, .bool y33.neg, .slice u34_0_1 y33.ln.length u34_0_3, .slice u34_0_4 y33.ld.length u34_0_6, .bool y36.neg, .slice u37_0_1 y36.ln.length u37_0_3, .slice u37_0_4 y36.ld.length u37_0_6] 30 (0, 0)) :: (b10, .cells #[.slice u13_0_1 y12.length u13_0_2, .slice u16_0_1 y15.length u16_0_2, .slice u19_0_1 y18.length u19_0_2, .slice ad22_0 m22_0 cap22_0, .int .i64 p0.pull, .int .i64 p0.near, .int .i64 p0.steps, .slice ad25_0 m25_0 cap25_0, .slice ad28_0 m28_0 cap28_0, .bool y30.neg, .slice u31_0_1 y30.ln.length u31_0_3, .slice u31_0_4 y30.ld.length u31_0_6, .bool y33.neg, .slice u34_0_1 y33.ln.length u34_0_3, .slice u34_0_4 y33.ld.length u34_0_6, .bool y36.neg, .slice u37_0_1 y36.ln.length u37_0_3, .slice u37_0_4 y36.ld.length u37_0_6] 30 (0, 0)) :: (b8, .cells #[.slice p0a1 p0.height.length p0a2, .slice p0a3 p0.own.length p0a4, .slice p0a5 p0.other.length p0a6, .slice p0a7 p0.advisories.length p0a8, .int .i64 p0.pull, .int .i64 p0.near, .int .i64 p0.steps, .slice p0a9 p0.ownNoise.length p0a10, .slice p0a11 p0.otherNoise.length p0a12, .bool p0.alert.neg, .slice p0a13 p0.alert.ln.length p0a14, .slice p0a15 p0.alert.ld.length p0a16, .bool p0.strengthen.neg, .slice p0a17 p0.strengthen.ln.length p0a18, .slice p0a19 p0.strengthen.ld.length p0a20, .bool p0.reversal.neg, .slice p0a21 p0.reversal.ln.length p0a22, .slice p0a23 p0.reversal.ld.length p0a24] 30 (0, 0)) :: (b5, .cells #[.slice none 0 0, .slice none 0 0, .slice none 0 0, .slice none 0 0, .int .i64 0, .int .i64 0, .int .i64 0, .slice none 0 0, .slice none 0 0, .bool false, .slice none 0 0, .slice none 0 0, .bool false, .slice none 0 0, .slice none 0 0, .bool false, .slice none 0 0, .slice none 0 0] 30 (0, 0)) :: (b3, .cells #[.slice p0a1 p0.height.length p0a2, .slice p0a3 p0.own.length p0a4, .slice p0a5 p0.other.length p0a6, .slice p0a7 p0.advisories.length p0a8, .int .i64 p0.pull, .int .i64 p0.near, .int .i64 p0.steps, .slice p0a9 p0.ownNoise.length p0a10, .slice p0a11 p0.otherNoise.length p0a12, .bool p0.alert.neg, .slice p0a13 p0.alert.ln.length p0a14, .slice p0a15 p0.alert.ld.length p0a16, .bool p0.strengthen.neg, .slice p0a17 p0.strengthen.ln.length p0a18, .slice p0a19 p0.strengthen.ld.length p0a20, .bool p0.reversal.neg, .slice p0a21 p0.reversal.ln.length p0a22, .slice p0a23 p0.reversal.ld.length p0a24] 30 (0, 0)) :: (rb28_0 ++ (rb75_1 ++ rb56_0))) ∧ Le (rd w56 Y56) (rd w1 Y1) ∧ GRow NoiseDCs 58 4 (rd w1 Y1) rb75_1 ad25_0 m25_0 cap25_0 v75_1 ∧ clearwaylaw24_mirror_l75 p0 v25_0 J57 (v25_0.drop k75) k75 v75_1 = some y) (fun ((k75, v75_1, rb75_1) : Nat × (List NoiseD) × (List (Nat × Obj))) => v25_0.length - k75) (0, v25_0, rb25_0) ?_ ?_
     ·
      exact ⟨_, C56, Le.refl _, (hfv25_0_0.mono hc21_), hp⟩
     rintro ⟨k75, v75_1, rb75_1⟩ w75 K75 H75 ⟨Y75, C75, B75, hfv75_1_0, hp⟩
     refine zz 5 ?_
     refine zo 0 C75 ?_
     refine zz 1 ?_
     refine zs 57 (v := .int .i64 (m25_0 : Int)) (v' := .int .i64 (v25_0.length : Int)) (vint (congrArg (fun n : Nat => (n : Int)) (GRow.len hfv25_0_0))) ?_
     refine zz 3 ?_
     refine zt 58 (p := (k75 : Int) < (v25_0.length : Int)) (fun ht76 => ?_) (fun ht76 => ?_)
     ·
      have hob := get_lt (l := v25_0) (k := k75) (lt_of_int ht76)
      obtain ⟨x75, hqx75⟩ := hob
      rw [dropC hqx75, clearwaylaw24_mirror_l75] at hp
      have hzx75 : (0 : Int) ≤ (k75 : Int) := Int.natCast_nonneg _
      refine zz 5 ?_
      refine zdraw [0, 1, 2, 3, 4] C75 ?_
      refine gz [0] ?_
      refine gw 1 0 ?_
      refine gz [2] ?_
      refine gw 3 0 ?_
      refine gz [4] ?_
      refine gset 65 (v := .int .i64 (m25_0 : Int)) (v' := .int .i64 (v25_0.length : Int)) (vint (congrArg (fun n : Nat => (n : Int)) (GRow.len hfv25_0_0))) ?_
      refine gz [5, 6, 7, 8] ?_
      refine gw 9 4 ?_
      refine bndk hp fun x77 hx77 hp => ?_
      have hob := ix_some hx77
      obtain ⟨hzx77, hqx77⟩ := hob
      have hwx77 : p0.ownNoise[k75]? = some x77 := hqx77
      have hob := p0a_h4.opn hwx77
      obtain ⟨be78, oe78, rfl, B78, hEe78⟩ := hob
      obtain ⟨e781, e782, e783, e784, e78_at, e78_h0, e78_h1⟩ := hEe78
      refine gz [10] ?_
      refine gi 11 (b := be78) (off := oe78) (len := p0.ownNoise.length) (cap := p0a10) (kd := .i64) (i := (k75 : Int)) 4 (oe78 + k75 * 4) ?_ (h0 := hzx77) (h1 := (ix_b hzx77 B78))
      have hc22_ := ((((((hc9_.trans B51).trans B52).trans B53).trans B54).trans B55).trans B56).trans B75
      refine gz [12] ?_
      refine gl 13 ((e78_at.mono hc22_).sub 0 1) ?_
      refine gz [14, 15] ?_
      refine gw 16 4 ?_
      refine gz [17] ?_
      refine gi 18 (b := be78) (off := oe78) (len := p0.ownNoise.length) (cap := p0a10) (kd := .i64) (i := (k75 : Int)) 4 (oe78 + k75 * 4) ?_ (h0 := hzx77) (h1 := (ix_b hzx77 B78))
      have hc23_ := ((((((hc9_.trans B51).trans B52).trans B53).trans B54).trans B55).trans B56).trans B75
      refine gz [19] ?_
      refine gl 20 ((e78_at.mono hc23_).sub 1 3) ?_
      refine bndk hp fun x79 hx79 hp => ?_
      have hob := ix_some hx79
      obtain ⟨hzx79, hqx79⟩ := hob
      have hob := hfv75_1_0.opn hqx79
      obtain ⟨ge80, cure80, cse80, rfl, rfl, B80, hce80, hcue80⟩ := hob
      have hob := (hce80.2 _ (Le.refl _))
      obtain ⟨e801, e802, e803, e804, rfl, e80_h0, e80_h1⟩ := hob
      refine gz [21] ?_
      refine gi 22 (b := ge80) (off := 0) (len := m25_0) (cap := cap25_0) (kd := .i64) (i := IntKind.i64.wrap ((IntKind.i64.wrap ((v25_0.length : Int) - 1)) - (k75 : Int))) 4 (0 + (IntKind.i64.wrap ((IntKind.i64.wrap ((v25_0.length : Int) - 1)) - (k75 : Int))).toNat * 4) ?_ (h0 := hzx79) (h1 := (ix_b hzx79 B80))
      refine gO 23 (fun a81 w81 Y81 G81 C81 B81 => ?_)
      have hc24_ := (((((((hc9_.trans B51).trans B52).trans B53).trans B54).trans B55).trans B56).trans B75).trans B81
      have hgs82 := GRow.set (cs := [.int .i64 (IntKind.i64.wrap ((0 : Int) - x77.delta)), .bool x77.p.neg, .slice e781 x77.p.ln.length e782, .slice e783 x77.p.ld.length e784]) (x := (NoiseD.mk (IntKind.i64.wrap ((0 : Int) - x77.delta)) x77.p)) (hfv75_1_0.mono B81) B80 ⟨rfl, fun r2 h2 => ⟨_, _, _, _, rfl, ((e78_h0.mono hc24_).mono h2), ((e78_h1.mono hc24_).mono h2)⟩⟩
      refine op_storeGZ (k := 0 + (IntKind.i64.wrap ((IntKind.i64.wrap ((v25_0.length : Int) - 1)) - (k75 : Int))).toNat * 4) (k' := (IntKind.i64.wrap ((IntKind.i64.wrap ((v25_0.length : Int) - 1)) - (k75 : Int))).toNat * 4) (vs := [.int .i64 (IntKind.i64.wrap ((0 : Int) - x77.delta)), .bool x77.p.neg, .slice e781 x77.p.ln.length e782, .slice e783 x77.p.ld.length e784]) (A := ([(b41, .cells #[.slice u45_0_1 y44.length u45_0_2, .slice u48_0_1 y47.length u48_0_2, .slice u51_0_1 y50.length u51_0_2, .slice ad22_0 m22_0 cap22_0, .int .i64 p0.pull, .int .i64 p0.near, .int .i64 p0.steps, .slice (some ⟨ge80, 0, none⟩) m25_0 cap25_0, .slice ad28_0 m28_0 cap28_0, .bool y30.neg, .slice u31_0_1 y30.ln.length u31_0_3, .slice u31_0_4 y30.ld.length u31_0_6, .bool y33.neg, .slice u34_0_1 y33.ln.length u34_0_3, .slice u34_0_4 y33.ld.length u34_0_6, .bool y36.neg, .slice u37_0_1 y36.ln.length u37_0_3, .slice u37_0_4 y36.ld.length u37_0_6] 30 (0, 0)), (b10, .cells #[.slice u13_0_1 y12.length u13_0_2, .slice u16_0_1 y15.length u16_0_2, .slice u19_0_1 y18.length u19_0_2, .slice ad22_0 m22_0 cap22_0, .int .i64 p0.pull, .int .i64 p0.near, .int .i64 p0.steps, .slice (some ⟨ge80, 0, none⟩) m25_0 cap25_0, .slice ad28_0 m28_0 cap28_0, .bool y30.neg, .slice u31_0_1 y30.ln.length u31_0_3, .slice u31_0_4 y30.ld.length u31_0_6, .bool y33.neg, .slice u34_0_1 y33.ln.length u34_0_3, .slice u34_0_4 y33.ld.length u34_0_6, .bool y36.neg, .slice u37_0_1 y36.ln.length u37_0_3, .slice u37_0_4 y36.ld.length u37_0_6] 30 (0, 0)), (b8, .cells #[.slice p0a1 p0.height.length p0a2, .slice p0a3 p0.own.length p0a4, .slice p0a5 p0.other.length p0a6, .slice p0a7 p0.advisories.length p0a8, .int .i64 p0.pull, .int .i64 p0.near, .int .i64 p0.steps, .slice (some ⟨be78, oe78, none⟩) p0.ownNoise.length p0a10, .slice p0a11 p0.otherNoise.length p0a12, .bool p0.alert.neg, .slice p0a13 p0.alert.ln.length p0a14, .slice p0a15 p0.alert.ld.length p0a16, .bool p0.strengthen.neg, .slice p0a17 p0.strengthen.ln.length p0a18, .slice p0a19 p0.strengthen.ld.length p0a20, .bool p0.reversal.neg, .slice p0a21 p0.reversal.ln.length p0a22, .slice p0a23 p0.reversal.ld.length p0a24] 30 (0, 0)), (b5, .cells #[.slice none 0 0, .slice none 0 0, .slice none 0 0, .slice none 0 0, .int .i64 0, .int .i64 0, .int .i64 0, .slice none 0 0, .slice none 0 0, .bool false, .slice none 0 0, .slice none 0 0, .bool false, .slice none 0 0, .slice none 0 0, .bool false, .slice none 0 0, .slice none 0 0] 30 (0, 0)), (b3, .cells #[.slice p0a1 p0.height.length p0a2, .slice p0a3 p0.own.length p0a4, .slice p0a5 p0.other.length p0a6, .slice p0a7 p0.advisories.length p0a8, .int .i64 p0.pull, .int .i64 p0.near, .int .i64 p0.steps, .slice (some ⟨be78, oe78, none⟩) p0.ownNoise.length p0a10, .slice p0a11 p0.otherNoise.length p0a12, .bool p0.alert.neg, .slice p0a13 p0.alert.ln.length p0a14, .slice p0a15 p0.alert.ld.length p0a16, .bool p0.strengthen.neg, .slice p0a17 p0.strengthen.ln.length p0a18, .slice p0a19 p0.strengthen.ld.length p0a20, .bool p0.reversal.neg, .slice p0a21 p0.reversal.ln.length p0a22, .slice p0a23 p0.reversal.ld.length p0a24] 30 (0, 0))] ++ rb28_0)) (B := rb56_0) (fun rb => ((b41, .cells #[.slice u45_0_1 y44.length u45_0_2, .slice u48_0_1 y47.length u48_0_2, .slice u51_0_1 y50.length u51_0_2, .slice ad22_0 m22_0 cap22_0, .int .i64 p0.pull, .int .i64 p0.near, .int .i64 p0.steps, .slice (some ⟨ge80, 0, none⟩) m25_0 cap25_0, .slice ad28_0 m28_0 cap28_0, .bool y30.neg, .slice u31_0_1 y30.ln.length u31_0_3, .slice u31_0_4 y30.ld.length u31_0_6, .bool y33.neg, .slice u34_0_1 y33.ln.length u34_0_3, .slice u34_0_4 y33.ld.length u34_0_6, .bool y36.neg, .slice u37_0_1 y36.ln.length u37_0_3, .slice u37_0_4 y36.ld.length u37_0_6] 30 (0, 0)) :: (b10, .cells #[.slice u13_0_1 y12.length u13_0_2, .slice u16_0_1 y15.length u16_0_2, .slice u19_0_1 y18.length u19_0_2, .slice ad22_0 m22_0 cap22_0, .int .i64 p0.pull, .int .i64 p0.near, .int .i64 p0.steps, .slice (some ⟨ge80, 0, none⟩) m25_0 cap25_0, .slice ad28_0 m28_0 cap28_0, .bool y30.neg, .slice u31_0_1 y30.ln.length u31_0_3, .slice u31_0_4 y30.ld.length u31_0_6, .bool y33.neg, .slice u34_0_1 y33.ln.length u34_0_3, .slice u34_0_4 y33.ld.length u34_0_6, .bool y36.neg, .slice u37_0_1 y36.ln.length u37_0_3, .slice u37_0_4 y36.ld.length u37_0_6] 30 (0, 0)) :: (b8, .cells #[.slice p0a1 p0.height.length p0a2, .slice p0a3 p0.own.length p0a4, .slice p0a5 p0.other.length p0a6, .slice p0a7 p0.advisories.length p0a8, .int .i64 p0.pull, .int .i64 p0.near, .int .i64 p0.steps, .slice (some ⟨be78, oe78, none⟩) p0.ownNoise.length p0a10, .slice p0a11 p0.otherNoise.length p0a12, .bool p0.alert.neg, .slice p0a13 p0.alert.ln.length p0a14, .slice p0a15 p0.alert.ld.length p0a16, .bool p0.strengthen.neg, .slice p0a17 p0.strengthen.ln.length p0a18, .slice p0a19 p0.strengthen.ld.length p0a20, .bool p0.reversal.neg, .slice p0a21 p0.reversal.ln.length p0a22, .slice p0a23 p0.reversal.ld.length p0a24] 30 (0, 0)) :: (b5, .cells #[.slice none 0 0, .slice none 0 0, .slice none 0 0, .slice none 0 0, .int .i64 0, .int .i64 0, .int .i64 0, .slice none 0 0, .slice none 0 0, .bool false, .slice none 0 0, .slice none 0 0, .bool false, .slice none 0 0, .slice none 0 0, .bool false, .slice none 0 0, .slice none 0 0] 30 (0, 0)) :: (b3, .cells #[.slice p0a1 p0.height.length p0a2, .slice p0a3 p0.own.length p0a4, .slice p0a5 p0.other.length p0a6, .slice p0a7 p0.advisories.length p0a8, .int .i64 p0.pull, .int .i64 p0.near, .int .i64 p0.steps, .slice (some ⟨be78, oe78, none⟩) p0.ownNoise.length p0a10, .slice p0a11 p0.otherNoise.length p0a12, .bool p0.alert.neg, .slice p0a13 p0.alert.ln.length p0a14, .slice p0a15 p0.alert.ld.length p0a16, .bool p0.strengthen.neg, .slice p0a17 p0.strengthen.ln.length p0a18, .slice p0a19 p0.strengthen.ld.length p0a20, .bool p0.reversal.neg, .slice p0a21 p0.reversal.ln.length p0a22, .slice p0a23 p0.reversal.ld.length p0a24] 30 (0, 0)) :: (rb28_0 ++ (rb ++ rb56_0)))) G81 kr C81 (fun _ => by simp only [List.append_assoc, List.cons_append, List.nil_append, List.append_nil]) kr kr kr (q := true) kr kr (Nat.zero_add _) hgs82.2 ?_
      intro w83 hSx83 B83
      obtain ⟨cur83, hcu83⟩ : ∃ c, c = setCells cure80 ((IntKind.i64.wrap ((IntKind.i64.wrap ((v25_0.length : Int) - 1)) - (k75 : Int))).toNat * 4) [.int .i64 (IntKind.i64.wrap ((0 : Int) - x77.delta)), .bool x77.p.neg, .slice e781 x77.p.ln.length e782, .slice e783 x77.p.ld.length e784] := ⟨_, rfl⟩
      rw [← hcu83] at hSx83 hgs82
      have C83 : St E0 w X w83 Y81 ((b41, .cells #[.slice u45_0_1 y44.length u45_0_2, .slice u48_0_1 y47.length u48_0_2, .slice u51_0_1 y50.length u51_0_2, .slice ad22_0 m22_0 cap22_0, .int .i64 p0.pull, .int .i64 p0.near, .int .i64 p0.steps, .slice (some ⟨ge80, 0, none⟩) m25_0 cap25_0, .slice ad28_0 m28_0 cap28_0, .bool y30.neg, .slice u31_0_1 y30.ln.length u31_0_3, .slice u31_0_4 y30.ld.length u31_0_6, .bool y33.neg, .slice u34_0_1 y33.ln.length u34_0_3, .slice u34_0_4 y33.ld.length u34_0_6, .bool y36.neg, .slice u37_0_1 y36.ln.length u37_0_3, .slice u37_0_4 y36.ld.length u37_0_6] 30 (0, 0)) :: (b10, .cells #[.slice u13_0_1 y12.length u13_0_2, .slice u16_0_1 y15.length u16_0_2, .slice u19_0_1 y18.length u19_0_2, .slice ad22_0 m22_0 cap22_0, .int .i64 p0.pull, .int .i64 p0.near, .int .i64 p0.steps, .slice (some ⟨ge80, 0, none⟩) m25_0 cap25_0, .slice ad28_0 m28_0 cap28_0, .bool y30.neg, .slice u31_0_1 y30.ln.length u31_0_3, .slice u31_0_4 y30.ld.length u31_0_6, .bool y33.neg, .slice u34_0_1 y33.ln.length u34_0_3, .slice u34_0_4 y33.ld.length u34_0_6, .bool y36.neg, .slice u37_0_1 y36.ln.length u37_0_3, .slice u37_0_4 y36.ld.length u37_0_6] 30 (0, 0)) :: (b8, .cells #[.slice p0a1 p0.height.length p0a2, .slice p0a3 p0.own.length p0a4, .slice p0a5 p0.other.length p0a6, .slice p0a7 p0.advisories.length p0a8, .int .i64 p0.pull, .int .i64 p0.near, .int .i64 p0.steps, .slice (some ⟨be78, oe78, none⟩) p0.ownNoise.length p0a10, .slice p0a11 p0.otherNoise.length p0a12, .bool p0.alert.neg, .slice p0a13 p0.alert.ln.length p0a14, .slice p0a15 p0.alert.ld.length p0a16, .bool p0.strengthen.neg, .slice p0a17 p0.strengthen.ln.length p0a18, .slice p0a19 p0.strengthen.ld.length p0a20, .bool p0.reversal.neg, .slice p0a21 p0.reversal.ln.length p0a22, .slice p0a23 p0.reversal.ld.length p0a24] 30 (0, 0)) :: (b5, .cells #[.slice none 0 0, .slice none 0 0, .slice none 0 0, .slice none 0 0, .int .i64 0, .int .i64 0, .int .i64 0, .slice none 0 0, .slice none 0 0, .bool false, .slice none 0 0, .slice none 0 0, .bool false, .slice none 0 0, .slice none 0 0, .bool false, .slice none 0 0, .slice none 0 0] 30 (0, 0)) :: (b3, .cells #[.slice p0a1 p0.height.length p0a2, .slice p0a3 p0.own.length p0a4, .slice p0a5 p0.other.length p0a6, .slice p0a7 p0.advisories.length p0a8, .int .i64 p0.pull, .int .i64 p0.near, .int .i64 p0.steps, .slice (some ⟨be78, oe78, none⟩) p0.ownNoise.length p0a10, .slice p0a11 p0.otherNoise.length p0a12, .bool p0.alert.neg, .slice p0a13 p0.alert.ln.length p0a14, .slice p0a15 p0.alert.ld.length p0a16, .bool p0.strengthen.neg, .slice p0a17 p0.strengthen.ln.length p0a18, .slice p0a19 p0.strengthen.ld.length p0a20, .bool p0.reversal.neg, .slice p0a21 p0.reversal.ln.length p0a22, .slice p0a23 p0.reversal.ld.length p0a24] 30 (0, 0)) :: (rb28_0 ++ ([(ge80, .cells cur83 58 (0, 0))] ++ rb56_0))) := hSx83
      have hg83 := hgs82.1.mono B83
      refine ⟨_, _, _, _, G81, C83, Le.refl _, .inl kr, ?_⟩
      refine gend (fun w84 Y84 C84 B84 => ?_)
      refine zz 5 ?_
      refine zs 60 (v := .int .i64 (IntKind.i64.wrap ((k75 : Int) + 1))) (v' := .int .i64 ((k75 : Int) + 1)) (vint (wi64 (wk0 k75) (wk1 ht76 hb75))) ?_
      refine zz 2 ?_
      have hc25_ := (Le3 B75 B81 B83).trans B84
      refine znext (fun a h => H75 (k75 + 1, (v75_1.set (IntKind.i64.wrap ((IntKind.i64.wrap ((v25_0.length : Int) - 1)) - (k75 : Int))).toNat (NoiseD.mk (IntKind.i64.wrap ((0 : Int) - x77.delta)) x77.p)), [(ge80, .cells cur83 58 (0, 0))]) _ a h ⟨_, C84, hc25_, (hg83.mono B84), hp⟩ ?_)
      exact mu_lt ht76
     rw [List.drop_eq_nil_of_le (nlt_of_int ht76), clearwaylaw24_mirror_l75] at hp
     refine zz 5 ?_
     exact znext (fun a h => H74 (v75_1, rb75_1) _ a h ⟨_, C75, B75, hfv75_1_0, hp⟩)
    intro K85 H85
    refine zz 6 ?_
    have hc26_ := (Le17 B23 B25 B26 B28 B31 B34 B37 B38 B39 B41 B42 B45 B48 B51 B52 B53 B54).trans B55
    have hb86 : (v22_0.length : Int) ≤ 9223372036854775807 := GRow.bnd hfv22_0_0
    refine zlp Tryz.f12 [K85] [1, 1, 1, 9, 1, 0] (fun ((k86, v86_1, rb86_1) : Nat × (List BoundsD) × (List (Nat × Obj))) => [(1, .pointer (some ⟨b3, 0, none⟩)), (2, .pointer (some ⟨b5, 0, none⟩)), (3, .pointer (some ⟨b41, 0, none⟩)), (4, .int .i64 (k86 : Int))]) (fun ((k86, v86_1, rb86_1) : Nat × (List BoundsD) × (List (Nat × Obj))) w1 => ∃ Y1 : Hid, St E0 w X w1 Y1 ((b41, .cells #[.slice u45_0_1 y44.length u45_0_2, .slice u48_0_1 y47.length u48_0_2, .slice u51_0_1 y50.length u51_0_2, .slice ad22_0 m22_0 cap22_0, .int .i64 p0.pull, .int .i64 p0.near, .int .i64 p0.steps, .slice ad25_0 m25_0 cap25_0, .slice ad28_0 m28_0 cap28_0, .bool y30.neg, .slice u31_0_1 y30.ln.length u31_0_3, .slice u31_0_4 y30.ld.length u31_0_6, .bool y33.neg, .slice u34_0_1 y33.ln.length u34_0_3, .slice u34_0_4 y33.ld.length u34_0_6, .bool y36.neg, .slice u37_0_1 y36.ln.length u37_0_3, .slice u37_0_4 y36.ld.length u37_0_6] 30 (0, 0)) :: (b10, .cells #[.slice u13_0_1 y12.length u13_0_2, .slice u16_0_1 y15.length u16_0_2, .slice u19_0_1 y18.length u19_0_2, .slice ad22_0 m22_0 cap22_0, .int .i64 p0.pull, .int .i64 p0.near, .int .i64 p0.steps, .slice ad25_0 m25_0 cap25_0, .slice ad28_0 m28_0 cap28_0, .bool y30.neg, .slice u31_0_1 y30.ln.length u31_0_3, .slice u31_0_4 y30.ld.length u31_0_6, .bool y33.neg, .slice u34_0_1 y33.ln.length u34_0_3, .slice u34_0_4 y33.ld.length u34_0_6, .bool y36.neg, .slice u37_0_1 y36.ln.length u37_0_3, .slice u37_0_4 y36.ld.length u37_0_6] 30 (0, 0)) :: (b8, .cells #[.slice p0a1 p0.height.length p0a2, .slice p0a3 p0.own.length p0a4, .slice p0a5 p0.other.length p0a6, .slice p0a7 p0.advisories.length p0a8, .int .i64 p0.pull, .int .i64 p0.near, .int .i64 p0.steps, .slice p0a9 p0.ownNoise.length p0a10, .slice p0a11 p0.otherNoise.length p0a12, .bool p0.alert.neg, .slice p0a13 p0.alert.ln.length p0a14, .slice p0a15 p0.alert.ld.length p0a16, .bool p0.strengthen.neg, .slice p0a17 p0.strengthen.ln.length p0a18, .slice p0a19 p0.strengthen.ld.length p0a20, .bool p0.reversal.neg, .slice p0a21 p0.reversal.ln.length p0a22, .slice p0a23 p0.reversal.ld.length p0a24] 30 (0, 0)) :: (b5, .cells #[.slice none 0 0, .slice none 0 0, .slice none 0 0, .slice none 0 0, .int .i64 0, .int .i64 0, .int .i64 0, .slice none 0 0, .slice none 0 0, .bool false, .slice none 0 0, .slice none 0 0, .bool false, .slice none 0 0, .slice none 0 0, .bool false, .slice none 0 0, .slice none 0 0] 30 (0, 0)) :: (b3, .cells #[.slice p0a1 p0.height.length p0a2, .slice p0a3 p0.own.length p0a4, .slice p0a5 p0.other.length p0a6, .slice p0a7 p0.advisories.length p0a8, .int .i64 p0.pull, .int .i64 p0.near, .int .i64 p0.steps, .slice p0a9 p0.ownNoise.length p0a10, .slice p0a11 p0.otherNoise.length p0a12, .bool p0.alert.neg, .slice p0a13 p0.alert.ln.length p0a14, .slice p0a15 p0.alert.ld.length p0a16, .bool p0.strengthen.neg, .slice p0a17 p0.strengthen.ln.length p0a18, .slice p0a19 p0.strengthen.ld.length p0a20, .bool p0.reversal.neg, .slice p0a21 p0.reversal.ln.length p0a22, .slice p0a23 p0.reversal.ld.length p0a24] 30 (0, 0)) :: (rb28_0 ++ (rb25_0 ++ rb86_1))) ∧ Le (rd w55 Y55) (rd w1 Y1) ∧ GRow BoundsDCs 60 3 (rd w1 Y1) rb86_1 ad22_0 m22_0 cap22_0 v86_1 ∧ clearwaylaw24_mirror_l86 p0 J56 (v22_0.drop k86) k86 v86_1 = some y) (fun ((k86, v86_1, rb86_1) : Nat × (List BoundsD) × (List (Nat × Obj))) => v22_0.length - k86) (1, v22_0, rb22_0) ?_ ?_
    ·
     exact ⟨_, C55, Le.refl _, (hfv22_0_0.mono hc26_), hp⟩
    rintro ⟨k86, v86_1, rb86_1⟩ w86 K86 H86 ⟨Y86, C86, B86, hfv86_1_0, hp⟩
    refine zz 5 ?_
    refine zo 0 C86 ?_
    refine zz 1 ?_
    refine zs 24 (v := .int .i64 (m22_0 : Int)) (v' := .int .i64 (v22_0.length : Int)) (vint (congrArg (fun n : Nat => (n : Int)) (GRow.len hfv22_0_0))) ?_
    refine zz 3 ?_
    refine zt 25 (p := (k86 : Int) < (v22_0.length : Int)) (fun ht87 => ?_) (fun ht87 => ?_)
    ·
     have hob := get_lt (l := v22_0) (k := k86) (lt_of_int ht87)
     obtain ⟨x86, hqx86⟩ := hob
     rw [dropC hqx86, clearwaylaw24_mirror_l86] at hp
     have hzx86 : (0 : Int) ≤ (k86 : Int) := Int.natCast_nonneg _
     refine zz 5 ?_
     refine zdraw [0, 1, 2, 3, 4] C86 ?_
     refine gz [0] ?_
     refine gw 1 0 ?_
     refine gz [2, 3] ?_
     refine gw 4 4 ?_
     refine bndk hp fun x88 hx88 hp => ?_
     have hob := ix_some hx88
     obtain ⟨hzx88, hqx88⟩ := hob
     have hwx88 : p0.advisories[k86]? = some x88 := hqx88
     have hob := p0a_h3.opn hwx88
     obtain ⟨be89, oe89, rfl, B89, hEe89⟩ := hob
     have e89_at : At (rd w X) ⟨be89, oe89 + k86 * 3, none⟩ [.int .u8 x88.sense, .int .i64 x88.lo, .int .i64 x88.hi] := hEe89
     refine gz [5] ?_
     refine gi 6 (b := be89) (off := oe89) (len := p0.advisories.length) (cap := p0a8) (kd := .i64) (i := (k86 : Int)) 3 (oe89 + k86 * 3) ?_ (h0 := hzx88) (h1 := (ix_b hzx88 B89))
     have hc27_ := (((((hc9_.trans B51).trans B52).trans B53).trans B54).trans B55).trans B86
     refine gz [7] ?_
     refine gl 8 ((e89_at.mono hc27_).sub 0 1) ?_
     refine gz [9, 10] ?_
     refine gw 11 4 ?_
     refine gz [12] ?_
     refine gi 13 (b := be89) (off := oe89) (len := p0.advisories.length) (cap := p0a8) (kd := .i64) (i := (k86 : Int)) 3 (oe89 + k86 * 3) ?_ (h0 := hzx88) (h1 := (ix_b hzx88 B89))
     have hc28_ := (((((hc9_.trans B51).trans B52).trans B53).trans B54).trans B55).trans B86
     refine gz [14] ?_
     refine gl 15 ((e89_at.mono hc28_).sub 2 1) ?_
     refine gz [16, 17] ?_
     refine gw 18 4 ?_
     refine gz [19] ?_
     refine gi 20 (b := be89) (off := oe89) (len := p0.advisories.length) (cap := p0a8) (kd := .i64) (i := (k86 : Int)) 3 (oe89 + k86 * 3) ?_ (h0 := hzx88) (h1 := (ix_b hzx88 B89))
     have hc29_ := (((((hc9_.trans B51).trans B52).trans B53).trans B54).trans B55).trans B86
     refine gz [21] ?_
     refine gl 22 ((e89_at.mono hc29_).sub 1 1) ?_
     refine bndk hp fun x90 hx90 hp => ?_
     have hob := ix_some hx90
     obtain ⟨hzx90, hqx90⟩ := hob
     have hwx90 : v86_1[k86]? = some x90 := hqx90
     have hob := hfv86_1_0.opn hwx90
     obtain ⟨ge91, cure91, cse91, rfl, rfl, B91, hce91, hcue91⟩ := hob
     have hob := (hce91.2 _ (Le.refl _))
     obtain ⟨rfl⟩ := hob
     refine gz [23, 24] ?_
     refine gi 25 (b := ge91) (off := 0) (len := m22_0) (cap := cap22_0) (kd := .i64) (i := (k86 : Int)) 3 (0 + k86 * 3) ?_ (h0 := hzx90) (h1 := (ix_b hzx90 B91))
     refine gO 26 (fun a92 w92 Y92 G92 C92 B92 => ?_)
     have hgs93 := GRow.set (cs := [.int .u8 (IntKind.u8.wrap ((3 : Int) - x88.sense)), .int .i64 (IntKind.i64.wrap ((0 : Int) - x88.hi)), .int .i64 (IntKind.i64.wrap ((0 : Int) - x88.lo))]) (x := (BoundsD.mk (IntKind.u8.wrap ((3 : Int) - x88.sense)) (IntKind.i64.wrap ((0 : Int) - x88.hi)) (IntKind.i64.wrap ((0 : Int) - x88.lo)))) (hfv86_1_0.mono B92) B91 ⟨rfl, fun r2 h2 => rfl⟩
     refine op_storeGZ (k := 0 + k86 * 3) (k' := k86 * 3) (vs := [.int .u8 (IntKind.u8.wrap ((3 : Int) - x88.sense)), .int .i64 (IntKind.i64.wrap ((0 : Int) - x88.hi)), .int .i64 (IntKind.i64.wrap ((0 : Int) - x88.lo))]) (A := ([(b41, .cells #[.slice u45_0_1 y44.length u45_0_2, .slice u48_0_1 y47.length u48_0_2, .slice u51_0_1 y50.length u51_0_2, .slice (some ⟨ge91, 0, none⟩) m22_0 cap22_0, .int .i64 p0.pull, .int .i64 p0.near, .int .i64 p0.steps, .slice ad25_0 m25_0 cap25_0, .slice ad28_0 m28_0 cap28_0, .bool y30.neg, .slice u31_0_1 y30.ln.length u31_0_3, .slice u31_0_4 y30.ld.length u31_0_6, .bool y33.neg, .slice u34_0_1 y33.ln.length u34_0_3, .slice u34_0_4 y33.ld.length u34_0_6, .bool y36.neg, .slice u37_0_1 y36.ln.length u37_0_3, .slice u37_0_4 y36.ld.length u37_0_6] 30 (0, 0)), (b10, .cells #[.slice u13_0_1 y12.length u13_0_2, .slice u16_0_1 y15.length u16_0_2, .slice u19_0_1 y18.length u19_0_2, .slice (some ⟨ge91, 0, none⟩) m22_0 cap22_0, .int .i64 p0.pull, .int .i64 p0.near, .int .i64 p0.steps, .slice ad25_0 m25_0 cap25_0, .slice ad28_0 m28_0 cap28_0, .bool y30.neg, .slice u31_0_1 y30.ln.length u31_0_3, .slice u31_0_4 y30.ld.length u31_0_6, .bool y33.neg, .slice u34_0_1 y33.ln.length u34_0_3, .slice u34_0_4 y33.ld.length u34_0_6, .bool y36.neg, .slice u37_0_1 y36.ln.length u37_0_3, .slice u37_0_4 y36.ld.length u37_0_6] 30 (0, 0)), (b8, .cells #[.slice p0a1 p0.height.length p0a2, .slice p0a3 p0.own.length p0a4, .slice p0a5 p0.other.length p0a6, .slice (some ⟨be89, oe89, none⟩) p0.advisories.length p0a8, .int .i64 p0.pull, .int .i64 p0.near, .int .i64 p0.steps, .slice p0a9 p0.ownNoise.length p0a10, .slice p0a11 p0.otherNoise.length p0a12, .bool p0.alert.neg, .slice p0a13 p0.alert.ln.length p0a14, .slice p0a15 p0.alert.ld.length p0a16, .bool p0.strengthen.neg, .slice p0a17 p0.strengthen.ln.length p0a18, .slice p0a19 p0.strengthen.ld.length p0a20, .bool p0.reversal.neg, .slice p0a21 p0.reversal.ln.length p0a22, .slice p0a23 p0.reversal.ld.length p0a24] 30 (0, 0)), (b5, .cells #[.slice none 0 0, .slice none 0 0, .slice none 0 0, .slice none 0 0, .int .i64 0, .int .i64 0, .int .i64 0, .slice none 0 0, .slice none 0 0, .bool false, .slice none 0 0, .slice none 0 0, .bool false, .slice none 0 0, .slice none 0 0, .bool false, .slice none 0 0, .slice none 0 0] 30 (0, 0)), (b3, .cells #[.slice p0a1 p0.height.length p0a2, .slice p0a3 p0.own.length p0a4, .slice p0a5 p0.other.length p0a6, .slice (some ⟨be89, oe89, none⟩) p0.advisories.length p0a8, .int .i64 p0.pull, .int .i64 p0.near, .int .i64 p0.steps, .slice p0a9 p0.ownNoise.length p0a10, .slice p0a11 p0.otherNoise.length p0a12, .bool p0.alert.neg, .slice p0a13 p0.alert.ln.length p0a14, .slice p0a15 p0.alert.ld.length p0a16, .bool p0.strengthen.neg, .slice p0a17 p0.strengthen.ln.length p0a18, .slice p0a19 p0.strengthen.ld.length p0a20, .bool p0.reversal.neg, .slice p0a21 p0.reversal.ln.length p0a22, .slice p0a23 p0.reversal.ld.length p0a24] 30 (0, 0))] ++ rb28_0 ++ rb25_0)) (B := []) (fun rb => ((b41, .cells #[.slice u45_0_1 y44.length u45_0_2, .slice u48_0_1 y47.length u48_0_2, .slice u51_0_1 y50.length u51_0_2, .slice (some ⟨ge91, 0, none⟩) m22_0 cap22_0, .int .i64 p0.pull, .int .i64 p0.near, .int .i64 p0.steps, .slice ad25_0 m25_0 cap25_0, .slice ad28_0 m28_0 cap28_0, .bool y30.neg, .slice u31_0_1 y30.ln.length u31_0_3, .slice u31_0_4 y30.ld.length u31_0_6, .bool y33.neg, .slice u34_0_1 y33.ln.length u34_0_3, .slice u34_0_4 y33.ld.length u34_0_6, .bool y36.neg, .slice u37_0_1 y36.ln.length u37_0_3, .slice u37_0_4 y36.ld.length u37_0_6] 30 (0, 0)) :: (b10, .cells #[.slice u13_0_1 y12.length u13_0_2, .slice u16_0_1 y15.length u16_0_2, .slice u19_0_1 y18.length u19_0_2, .slice (some ⟨ge91, 0, none⟩) m22_0 cap22_0, .int .i64 p0.pull, .int .i64 p0.near, .int .i64 p0.steps, .slice ad25_0 m25_0 cap25_0, .slice ad28_0 m28_0 cap28_0, .bool y30.neg, .slice u31_0_1 y30.ln.length u31_0_3, .slice u31_0_4 y30.ld.length u31_0_6, .bool y33.neg, .slice u34_0_1 y33.ln.length u34_0_3, .slice u34_0_4 y33.ld.length u34_0_6, .bool y36.neg, .slice u37_0_1 y36.ln.length u37_0_3, .slice u37_0_4 y36.ld.length u37_0_6] 30 (0, 0)) :: (b8, .cells #[.slice p0a1 p0.height.length p0a2, .slice p0a3 p0.own.length p0a4, .slice p0a5 p0.other.length p0a6, .slice (some ⟨be89, oe89, none⟩) p0.advisories.length p0a8, .int .i64 p0.pull, .int .i64 p0.near, .int .i64 p0.steps, .slice p0a9 p0.ownNoise.length p0a10, .slice p0a11 p0.otherNoise.length p0a12, .bool p0.alert.neg, .slice p0a13 p0.alert.ln.length p0a14, .slice p0a15 p0.alert.ld.length p0a16, .bool p0.strengthen.neg, .slice p0a17 p0.strengthen.ln.length p0a18, .slice p0a19 p0.strengthen.ld.length p0a20, .bool p0.reversal.neg, .slice p0a21 p0.reversal.ln.length p0a22, .slice p0a23 p0.reversal.ld.length p0a24] 30 (0, 0)) :: (b5, .cells #[.slice none 0 0, .slice none 0 0, .slice none 0 0, .slice none 0 0, .int .i64 0, .int .i64 0, .int .i64 0, .slice none 0 0, .slice none 0 0, .bool false, .slice none 0 0, .slice none 0 0, .bool false, .slice none 0 0, .slice none 0 0, .bool false, .slice none 0 0, .slice none 0 0] 30 (0, 0)) :: (b3, .cells #[.slice p0a1 p0.height.length p0a2, .slice p0a3 p0.own.length p0a4, .slice p0a5 p0.other.length p0a6, .slice (some ⟨be89, oe89, none⟩) p0.advisories.length p0a8, .int .i64 p0.pull, .int .i64 p0.near, .int .i64 p0.steps, .slice p0a9 p0.ownNoise.length p0a10, .slice p0a11 p0.otherNoise.length p0a12, .bool p0.alert.neg, .slice p0a13 p0.alert.ln.length p0a14, .slice p0a15 p0.alert.ld.length p0a16, .bool p0.strengthen.neg, .slice p0a17 p0.strengthen.ln.length p0a18, .slice p0a19 p0.strengthen.ld.length p0a20, .bool p0.reversal.neg, .slice p0a21 p0.reversal.ln.length p0a22, .slice p0a23 p0.reversal.ld.length p0a24] 30 (0, 0)) :: (rb28_0 ++ (rb25_0 ++ rb)))) G92 kr C92 (fun _ => by simp only [List.append_assoc, List.cons_append, List.nil_append, List.append_nil]) kr kr kr (q := true) kr kr (Nat.zero_add _) hgs93.2 ?_
     intro w94 hSx94 B94
     obtain ⟨cur94, hcu94⟩ : ∃ c, c = setCells cure91 (k86 * 3) [.int .u8 (IntKind.u8.wrap ((3 : Int) - x88.sense)), .int .i64 (IntKind.i64.wrap ((0 : Int) - x88.hi)), .int .i64 (IntKind.i64.wrap ((0 : Int) - x88.lo))] := ⟨_, rfl⟩
     rw [← hcu94] at hSx94 hgs93
     have C94 : St E0 w X w94 Y92 ((b41, .cells #[.slice u45_0_1 y44.length u45_0_2, .slice u48_0_1 y47.length u48_0_2, .slice u51_0_1 y50.length u51_0_2, .slice (some ⟨ge91, 0, none⟩) m22_0 cap22_0, .int .i64 p0.pull, .int .i64 p0.near, .int .i64 p0.steps, .slice ad25_0 m25_0 cap25_0, .slice ad28_0 m28_0 cap28_0, .bool y30.neg, .slice u31_0_1 y30.ln.length u31_0_3, .slice u31_0_4 y30.ld.length u31_0_6, .bool y33.neg, .slice u34_0_1 y33.ln.length u34_0_3, .slice u34_0_4 y33.ld.length u34_0_6, .bool y36.neg, .slice u37_0_1 y36.ln.length u37_0_3, .slice u37_0_4 y36.ld.length u37_0_6] 30 (0, 0)) :: (b10, .cells #[.slice u13_0_1 y12.length u13_0_2, .slice u16_0_1 y15.length u16_0_2, .slice u19_0_1 y18.length u19_0_2, .slice (some ⟨ge91, 0, none⟩) m22_0 cap22_0, .int .i64 p0.pull, .int .i64 p0.near, .int .i64 p0.steps, .slice ad25_0 m25_0 cap25_0, .slice ad28_0 m28_0 cap28_0, .bool y30.neg, .slice u31_0_1 y30.ln.length u31_0_3, .slice u31_0_4 y30.ld.length u31_0_6, .bool y33.neg, .slice u34_0_1 y33.ln.length u34_0_3, .slice u34_0_4 y33.ld.length u34_0_6, .bool y36.neg, .slice u37_0_1 y36.ln.length u37_0_3, .slice u37_0_4 y36.ld.length u37_0_6] 30 (0, 0)) :: (b8, .cells #[.slice p0a1 p0.height.length p0a2, .slice p0a3 p0.own.length p0a4, .slice p0a5 p0.other.length p0a6, .slice (some ⟨be89, oe89, none⟩) p0.advisories.length p0a8, .int .i64 p0.pull, .int .i64 p0.near, .int .i64 p0.steps, .slice p0a9 p0.ownNoise.length p0a10, .slice p0a11 p0.otherNoise.length p0a12, .bool p0.alert.neg, .slice p0a13 p0.alert.ln.length p0a14, .slice p0a15 p0.alert.ld.length p0a16, .bool p0.strengthen.neg, .slice p0a17 p0.strengthen.ln.length p0a18, .slice p0a19 p0.strengthen.ld.length p0a20, .bool p0.reversal.neg, .slice p0a21 p0.reversal.ln.length p0a22, .slice p0a23 p0.reversal.ld.length p0a24] 30 (0, 0)) :: (b5, .cells #[.slice none 0 0, .slice none 0 0, .slice none 0 0, .slice none 0 0, .int .i64 0, .int .i64 0, .int .i64 0, .slice none 0 0, .slice none 0 0, .bool false, .slice none 0 0, .slice none 0 0, .bool false, .slice none 0 0, .slice none 0 0, .bool false, .slice none 0 0, .slice none 0 0] 30 (0, 0)) :: (b3, .cells #[.slice p0a1 p0.height.length p0a2, .slice p0a3 p0.own.length p0a4, .slice p0a5 p0.other.length p0a6, .slice (some ⟨be89, oe89, none⟩) p0.advisories.length p0a8, .int .i64 p0.pull, .int .i64 p0.near, .int .i64 p0.steps, .slice p0a9 p0.ownNoise.length p0a10, .slice p0a11 p0.otherNoise.length p0a12, .bool p0.alert.neg, .slice p0a13 p0.alert.ln.length p0a14, .slice p0a15 p0.alert.ld.length p0a16, .bool p0.strengthen.neg, .slice p0a17 p0.strengthen.ln.length p0a18, .slice p0a19 p0.strengthen.ld.length p0a20, .bool p0.reversal.neg, .slice p0a21 p0.reversal.ln.length p0a22, .slice p0a23 p0.reversal.ld.length p0a24] 30 (0, 0)) :: (rb28_0 ++ (rb25_0 ++ [(ge91, .cells cur94 60 (0, 0))]))) := hSx94
     have hg94 := hgs93.1.mono B94
     refine ⟨_, _, _, _, G92, C94, Le.refl _, .inl kr, ?_⟩
     refine gend (fun w95 Y95 C95 B95 => ?_)
     refine zz 5 ?_
     refine zs 27 (v := .int .i64 (IntKind.i64.wrap ((k86 : Int) + 1))) (v' := .int .i64 ((k86 : Int) + 1)) (vint (wi64 (wk0 k86) (wk1 ht87 hb86))) ?_
     refine zz 2 ?_
     have hc30_ := (Le3 B86 B92 B94).trans B95
     refine znext (fun a h => H86 (k86 + 1, (v86_1.set k86 (BoundsD.mk (IntKind.u8.wrap ((3 : Int) - x88.sense)) (IntKind.i64.wrap ((0 : Int) - x88.hi)) (IntKind.i64.wrap ((0 : Int) - x88.lo)))), [(ge91, .cells cur94 60 (0, 0))]) _ a h ⟨_, C95, hc30_, (hg94.mono B95), hp⟩ ?_)
     exact mu_lt ht87
    rw [List.drop_eq_nil_of_le (nlt_of_int ht87), clearwaylaw24_mirror_l86] at hp
    refine zz 5 ?_
    exact znext (fun a h => H85 (v86_1, rb86_1) _ a h ⟨_, C86, B86, hfv86_1_0, hp⟩)
   intro K96 H96
   refine zz 6 ?_
   have hb97 : (p0.otherNoise.length : Int) ≤ 9223372036854775807 := lenb (p0a_h5).hcap (p0a_h5).hbig
   refine zlp Tryz.f61 [K96] [1, 1, 9, 1, 0] (fun ((v97_0, k97, rb97_0, ad97_0, m97_0, cap97_0) : (List NoiseD) × Nat × (List (Nat × Obj)) × (Option Addr) × Nat × Nat) => [(0, .slice p0a11 p0.otherNoise.length p0a12), (3, .slice ad97_0 m97_0 cap97_0), (4, .int .i64 (k97 : Int))]) (fun ((v97_0, k97, rb97_0, ad97_0, m97_0, cap97_0) : (List NoiseD) × Nat × (List (Nat × Obj)) × (Option Addr) × Nat × Nat) w1 => ∃ Y1 : Hid, St E0 w X w1 Y1 ((b10, .cells #[.slice none 0 0, .slice none 0 0, .slice none 0 0, .slice none 0 0, .int .i64 0, .int .i64 0, .int .i64 0, .slice none 0 0, .slice none 0 0, .bool false, .slice none 0 0, .slice none 0 0, .bool false, .slice none 0 0, .slice none 0 0, .bool false, .slice none 0 0, .slice none 0 0] 30 (0, 0)) :: (b8, .cells #[.slice p0a1 p0.height.length p0a2, .slice p0a3 p0.own.length p0a4, .slice p0a5 p0.other.length p0a6, .slice p0a7 p0.advisories.length p0a8, .int .i64 p0.pull, .int .i64 p0.near, .int .i64 p0.steps, .slice p0a9 p0.ownNoise.length p0a10, .slice p0a11 p0.otherNoise.length p0a12, .bool p0.alert.neg, .slice p0a13 p0.alert.ln.length p0a14, .slice p0a15 p0.alert.ld.length p0a16, .bool p0.strengthen.neg, .slice p0a17 p0.strengthen.ln.length p0a18, .slice p0a19 p0.strengthen.ld.length p0a20, .bool p0.reversal.neg, .slice p0a21 p0.reversal.ln.length p0a22, .slice p0a23 p0.reversal.ld.length p0a24] 30 (0, 0)) :: (b5, .cells #[.slice none 0 0, .slice none 0 0, .slice none 0 0, .slice none 0 0, .int .i64 0, .int .i64 0, .int .i64 0, .slice none 0 0, .slice none 0 0, .bool false, .slice none 0 0, .slice none 0 0, .bool false, .slice none 0 0, .slice none 0 0, .bool false, .slice none 0 0, .slice none 0 0] 30 (0, 0)) :: (b3, .cells #[.slice p0a1 p0.height.length p0a2, .slice p0a3 p0.own.length p0a4, .slice p0a5 p0.other.length p0a6, .slice p0a7 p0.advisories.length p0a8, .int .i64 p0.pull, .int .i64 p0.near, .int .i64 p0.steps, .slice p0a9 p0.ownNoise.length p0a10, .slice p0a11 p0.otherNoise.length p0a12, .bool p0.alert.neg, .slice p0a13 p0.alert.ln.length p0a14, .slice p0a15 p0.alert.ld.length p0a16, .bool p0.strengthen.neg, .slice p0a17 p0.strengthen.ln.length p0a18, .slice p0a19 p0.strengthen.ld.length p0a20, .bool p0.reversal.neg, .slice p0a21 p0.reversal.ln.length p0a22, .slice p0a23 p0.reversal.ld.length p0a24] 30 (0, 0)) :: (rb97_0 ++ (rb25_0 ++ rb22_0))) ∧ Le (rd w26 Y26) (rd w1 Y1) ∧ GRow NoiseDCs 58 4 (rd w1 Y1) rb97_0 ad97_0 m97_0 cap97_0 v97_0 ∧ clearwaylaw24_mirror_l97 J28 (p0.otherNoise.drop k97)  v97_0 = some y) (fun ((v97_0, k97, rb97_0, ad97_0, m97_0, cap97_0) : (List NoiseD) × Nat × (List (Nat × Obj)) × (Option Addr) × Nat × Nat) => p0.otherNoise.length - k97) (([] : List NoiseD), 0, [], none, 0, 0) ?_ ?_
   ·
    exact ⟨_, C26, Le.refl _, GRow.nil, hp⟩
   rintro ⟨v97_0, k97, rb97_0, ad97_0, m97_0, cap97_0⟩ w97 K97 H97 ⟨Y97, C97, B97, hfv97_0_0, hp⟩
   refine zz 9 ?_
   refine zt 8 (p := (k97 : Int) < (p0.otherNoise.length : Int)) (fun ht98 => ?_) (fun ht98 => ?_)
   ·
    have hob := get_lt (l := p0.otherNoise) (k := k97) (lt_of_int ht98)
    obtain ⟨x97, hqx97⟩ := hob
    rw [dropC hqx97, clearwaylaw24_mirror_l97] at hp
    have hzx97 : (0 : Int) ≤ (k97 : Int) := Int.natCast_nonneg _
    refine zz 9 ?_
    have hob := p0a_h5.opn hqx97
    obtain ⟨be99, oe99, rfl, B99, hEe99⟩ := hob
    obtain ⟨e991, e992, e993, e994, e99_at, e99_h0, e99_h1⟩ := hEe99
    refine zi (b := be99) (off := oe99) (len := p0.otherNoise.length) (cap := p0a12) (kd := .i64) (i := (k97 : Int)) 4 (oe99 + k97 * 4) ?_ (h0 := hzx97) (h1 := (ix_b hzx97 B99))
    have hc31_ := ((((((hc3_.trans B19).trans B20).trans B22).trans B23).trans B25).trans B26).trans B97
    refine zl ((e99_at.mono hc31_)).cells ?_
    refine bndk hp fun y101 hy101 hp => ?_
    refine zc C97 (clearwaykit_CopyNoise_c _ _ C97.lt x97 _ ⟨_, _, _, _, rfl, (e99_h0.mono hc31_), (e99_h1.mono hc31_)⟩ y101 hy101) ?_
    rintro v102 w102 C102 B102 hu102 ⟨u102_0_1, u102_0_2, u102_0_3, u102_0_4, rfl, u102_0__h0, u102_0__h1⟩
    refine zn (fun b => .slice (some ⟨b, 0, none⟩) 1 1) (.cells #[.int .i64 y101.delta, .bool y101.p.neg, .slice u102_0_1 y101.p.ln.length u102_0_2, .slice u102_0_3 y101.p.ld.length u102_0_4] 58 (0, 0)) C102 ?_
    intro b104 w104 Y104 C104 B104 hu104
    have hob := grdp hp
    obtain ⟨hg106, hp⟩ := hob
    have hln107 : m97_0 = v97_0.length := GRow.len hfv97_0_0
    have hob := (hfv97_0_0.mono (Le2 B102 B104))
    obtain ⟨es107, hr107, hq107, hk107, hm107⟩ := hob
    refine zop (at1 [K96, K97] Tryz.f61 [1, 1, 9, 1, 0, 0, 1, 0, 0]) 7 (fun a105 _ G105 hz105 => op_appZ (b := 64) (m := 1) (c := 1) (ad := ⟨b104, 0, none⟩) (news := [.int .i64 y101.delta, .bool y101.p.neg, .slice u102_0_1 y101.p.ln.length u102_0_2, .slice u102_0_3 y101.p.ld.length u102_0_4]) (i0 := Tryz.t58) (rb := rb97_0) (R1 := []) (B := (rb25_0 ++ rb22_0)) 5 G105 C104 rfl hr107 (C104.cells 0 rfl rfl) (app_b1 hg106 hln107 rfl) (app_b2 hg106 hln107) ?_)
    intro rb108 ad108 cap108 w108 Y108 hrow108 C108 B108 a109 G109
    have hg108 : GRow NoiseDCs 58 4 (rd w108 Y108) rb108 ad108 (m97_0 + 1) cap108 (v97_0 ++ [y101]) := GRow.snoc hrow108 hq107 hk107 hm107 B108 ⟨rfl, fun r2 h2 => ⟨_, _, _, _, rfl, ((u102_0__h0.mono (Le2 B104 B108)).mono h2), ((u102_0__h1.mono (Le2 B104 B108)).mono h2)⟩⟩
    refine hz105 G109 ?_
    refine zz 7 ?_
    refine zs 10 (v := .int .i64 (IntKind.i64.wrap ((k97 : Int) + 1))) (v' := .int .i64 ((k97 : Int) + 1)) (vint (wi64 (wk0 k97) (wk1 ht98 hb97))) ?_
    refine zz 2 ?_
    have hc32_ := (Le3 B97 B102 B104).trans B108
    refine znext (fun a h => H97 ((v97_0 ++ [y101]), k97 + 1, rb108, ad108, (m97_0 + 1), cap108) _ a h ⟨_, C108.tail, hc32_, hg108, hp⟩ ?_)
    exact mu_lt ht98
   rw [List.drop_eq_nil_of_le (nlt_of_int ht98), clearwaylaw24_mirror_l97] at hp
   refine zz 5 ?_
   exact znext (fun a h => H96 (v97_0, rb97_0, ad97_0, m97_0, cap97_0) _ a h ⟨_, C97, B97, hfv97_0_0, hp⟩)
  intro K110 H110
  refine zz 6 ?_
  have hb111 : (p0.ownNoise.length : Int) ≤ 9223372036854775807 := lenb (p0a_h4).hcap (p0a_h4).hbig
  refine zlp Tryz.f61 [K110] [1, 1, 9, 1, 0] (fun ((v111_0, k111, rb111_0, ad111_0, m111_0, cap111_0) : (List NoiseD) × Nat × (List (Nat × Obj)) × (Option Addr) × Nat × Nat) => [(0, .slice p0a9 p0.ownNoise.length p0a10), (3, .slice ad111_0 m111_0 cap111_0), (4, .int .i64 (k111 : Int))]) (fun ((v111_0, k111, rb111_0, ad111_0, m111_0, cap111_0) : (List NoiseD) × Nat × (List (Nat × Obj)) × (Option Addr) × Nat × Nat) w1 => ∃ Y1 : Hid, St E0 w X w1 Y1 ((b10, .cells #[.slice none 0 0, .slice none 0 0, .slice none 0 0, .slice none 0 0, .int .i64 0, .int .i64 0, .int .i64 0, .slice none 0 0, .slice none 0 0, .bool false, .slice none 0 0, .slice none 0 0, .bool false, .slice none 0 0, .slice none 0 0, .bool false, .slice none 0 0, .slice none 0 0] 30 (0, 0)) :: (b8, .cells #[.slice p0a1 p0.height.length p0a2, .slice p0a3 p0.own.length p0a4, .slice p0a5 p0.other.length p0a6, .slice p0a7 p0.advisories.length p0a8, .int .i64 p0.pull, .int .i64 p0.near, .int .i64 p0.steps, .slice p0a9 p0.ownNoise.length p0a10, .slice p0a11 p0.otherNoise.length p0a12, .bool p0.alert.neg, .slice p0a13 p0.alert.ln.length p0a14, .slice p0a15 p0.alert.ld.length p0a16, .bool p0.strengthen.neg, .slice p0a17 p0.strengthen.ln.length p0a18, .slice p0a19 p0.strengthen.ld.length p0a20, .bool p0.reversal.neg, .slice p0a21 p0.reversal.ln.length p0a22, .slice p0a23 p0.reversal.ld.length p0a24] 30 (0, 0)) :: (b5, .cells #[.slice none 0 0, .slice none 0 0, .slice none 0 0, .slice none 0 0, .int .i64 0, .int .i64 0, .int .i64 0, .slice none 0 0, .slice none 0 0, .bool false, .slice none 0 0, .slice none 0 0, .bool false, .slice none 0 0, .slice none 0 0, .bool false, .slice none 0 0, .slice none 0 0] 30 (0, 0)) :: (b3, .cells #[.slice p0a1 p0.height.length p0a2, .slice p0a3 p0.own.length p0a4, .slice p0a5 p0.other.length p0a6, .slice p0a7 p0.advisories.length p0a8, .int .i64 p0.pull, .int .i64 p0.near, .int .i64 p0.steps, .slice p0a9 p0.ownNoise.length p0a10, .slice p0a11 p0.otherNoise.length p0a12, .bool p0.alert.neg, .slice p0a13 p0.alert.ln.length p0a14, .slice p0a15 p0.alert.ld.length p0a16, .bool p0.strengthen.neg, .slice p0a17 p0.strengthen.ln.length p0a18, .slice p0a19 p0.strengthen.ld.length p0a20, .bool p0.reversal.neg, .slice p0a21 p0.reversal.ln.length p0a22, .slice p0a23 p0.reversal.ld.length p0a24] 30 (0, 0)) :: (rb111_0 ++ rb22_0)) ∧ Le (rd w23 Y23) (rd w1 Y1) ∧ GRow NoiseDCs 58 4 (rd w1 Y1) rb111_0 ad111_0 m111_0 cap111_0 v111_0 ∧ clearwaylaw24_mirror_l111 J25 (p0.ownNoise.drop k111)  v111_0 = some y) (fun ((v111_0, k111, rb111_0, ad111_0, m111_0, cap111_0) : (List NoiseD) × Nat × (List (Nat × Obj)) × (Option Addr) × Nat × Nat) => p0.ownNoise.length - k111) (([] : List NoiseD), 0, [], none, 0, 0) ?_ ?_
  ·
   exact ⟨_, C23, Le.refl _, GRow.nil, hp⟩
  rintro ⟨v111_0, k111, rb111_0, ad111_0, m111_0, cap111_0⟩ w111 K111 H111 ⟨Y111, C111, B111, hfv111_0_0, hp⟩
  refine zz 9 ?_
  refine zt 8 (p := (k111 : Int) < (p0.ownNoise.length : Int)) (fun ht112 => ?_) (fun ht112 => ?_)
  ·
   have hob := get_lt (l := p0.ownNoise) (k := k111) (lt_of_int ht112)
   obtain ⟨x111, hqx111⟩ := hob
   rw [dropC hqx111, clearwaylaw24_mirror_l111] at hp
   have hzx111 : (0 : Int) ≤ (k111 : Int) := Int.natCast_nonneg _
   refine zz 9 ?_
   have hob := p0a_h4.opn hqx111
   obtain ⟨be113, oe113, rfl, B113, hEe113⟩ := hob
   obtain ⟨e1131, e1132, e1133, e1134, e113_at, e113_h0, e113_h1⟩ := hEe113
   refine zi (b := be113) (off := oe113) (len := p0.ownNoise.length) (cap := p0a10) (kd := .i64) (i := (k111 : Int)) 4 (oe113 + k111 * 4) ?_ (h0 := hzx111) (h1 := (ix_b hzx111 B113))
   have hc33_ := ((((hc3_.trans B19).trans B20).trans B22).trans B23).trans B111
   refine zl ((e113_at.mono hc33_)).cells ?_
   refine bndk hp fun y115 hy115 hp => ?_
   refine zc C111 (clearwaykit_CopyNoise_c _ _ C111.lt x111 _ ⟨_, _, _, _, rfl, (e113_h0.mono hc33_), (e113_h1.mono hc33_)⟩ y115 hy115) ?_
   rintro v116 w116 C116 B116 hu116 ⟨u116_0_1, u116_0_2, u116_0_3, u116_0_4, rfl, u116_0__h0, u116_0__h1⟩
   refine zn (fun b => .slice (some ⟨b, 0, none⟩) 1 1) (.cells #[.int .i64 y115.delta, .bool y115.p.neg, .slice u116_0_1 y115.p.ln.length u116_0_2, .slice u116_0_3 y115.p.ld.length u116_0_4] 58 (0, 0)) C116 ?_
   intro b118 w118 Y118 C118 B118 hu118
   have hob := grdp hp
   obtain ⟨hg120, hp⟩ := hob
   have hln121 : m111_0 = v111_0.length := GRow.len hfv111_0_0
   have hob := (hfv111_0_0.mono (Le2 B116 B118))
   obtain ⟨es121, hr121, hq121, hk121, hm121⟩ := hob
   refine zop (at1 [K110, K111] Tryz.f61 [1, 1, 9, 1, 0, 0, 1, 0, 0]) 7 (fun a119 _ G119 hz119 => op_appZ (b := 64) (m := 1) (c := 1) (ad := ⟨b118, 0, none⟩) (news := [.int .i64 y115.delta, .bool y115.p.neg, .slice u116_0_1 y115.p.ln.length u116_0_2, .slice u116_0_3 y115.p.ld.length u116_0_4]) (i0 := Tryz.t58) (rb := rb111_0) (R1 := []) (B := rb22_0) 5 G119 C118 rfl hr121 (C118.cells 0 rfl rfl) (app_b1 hg120 hln121 rfl) (app_b2 hg120 hln121) ?_)
   intro rb122 ad122 cap122 w122 Y122 hrow122 C122 B122 a123 G123
   have hg122 : GRow NoiseDCs 58 4 (rd w122 Y122) rb122 ad122 (m111_0 + 1) cap122 (v111_0 ++ [y115]) := GRow.snoc hrow122 hq121 hk121 hm121 B122 ⟨rfl, fun r2 h2 => ⟨_, _, _, _, rfl, ((u116_0__h0.mono (Le2 B118 B122)).mono h2), ((u116_0__h1.mono (Le2 B118 B122)).mono h2)⟩⟩
   refine hz119 G123 ?_
   refine zz 7 ?_
   refine zs 10 (v := .int .i64 (IntKind.i64.wrap ((k111 : Int) + 1))) (v' := .int .i64 ((k111 : Int) + 1)) (vint (wi64 (wk0 k111) (wk1 ht112 hb111))) ?_
   refine zz 2 ?_
   have hc34_ := (Le3 B111 B116 B118).trans B122
   refine znext (fun a h => H111 ((v111_0 ++ [y115]), k111 + 1, rb122, ad122, (m111_0 + 1), cap122) _ a h ⟨_, C122.tail, hc34_, hg122, hp⟩ ?_)
   exact mu_lt ht112
  rw [List.drop_eq_nil_of_le (nlt_of_int ht112), clearwaylaw24_mirror_l111] at hp
  refine zz 5 ?_
  exact znext (fun a h => H110 (v111_0, rb111_0, ad111_0, m111_0, cap111_0) _ a h ⟨_, C111, B111, hfv111_0_0, hp⟩)
 intro K124 H124
 refine zz 6 ?_
 have hb125 : (p0.advisories.length : Int) ≤ 9223372036854775807 := lenb (p0a_h3).hcap (p0a_h3).hbig
 refine zlp Tryz.f60 [K124] [1, 1, 9, 1, 0] (fun ((v125_0, k125, rb125_0, ad125_0, m125_0, cap125_0) : (List BoundsD) × Nat × (List (Nat × Obj)) × (Option Addr) × Nat × Nat) => [(0, .slice p0a7 p0.advisories.length p0a8), (3, .slice ad125_0 m125_0 cap125_0), (4, .int .i64 (k125 : Int))]) (fun ((v125_0, k125, rb125_0, ad125_0, m125_0, cap125_0) : (List BoundsD) × Nat × (List (Nat × Obj)) × (Option Addr) × Nat × Nat) w1 => ∃ Y1 : Hid, St E0 w X w1 Y1 ((b10, .cells #[.slice none 0 0, .slice none 0 0, .slice none 0 0, .slice none 0 0, .int .i64 0, .int .i64 0, .int .i64 0, .slice none 0 0, .slice none 0 0, .bool false, .slice none 0 0, .slice none 0 0, .bool false, .slice none 0 0, .slice none 0 0, .bool false, .slice none 0 0, .slice none 0 0] 30 (0, 0)) :: (b8, .cells #[.slice p0a1 p0.height.length p0a2, .slice p0a3 p0.own.length p0a4, .slice p0a5 p0.other.length p0a6, .slice p0a7 p0.advisories.length p0a8, .int .i64 p0.pull, .int .i64 p0.near, .int .i64 p0.steps, .slice p0a9 p0.ownNoise.length p0a10, .slice p0a11 p0.otherNoise.length p0a12, .bool p0.alert.neg, .slice p0a13 p0.alert.ln.length p0a14, .slice p0a15 p0.alert.ld.length p0a16, .bool p0.strengthen.neg, .slice p0a17 p0.strengthen.ln.length p0a18, .slice p0a19 p0.strengthen.ld.length p0a20, .bool p0.reversal.neg, .slice p0a21 p0.reversal.ln.length p0a22, .slice p0a23 p0.reversal.ld.length p0a24] 30 (0, 0)) :: (b5, .cells #[.slice none 0 0, .slice none 0 0, .slice none 0 0, .slice none 0 0, .int .i64 0, .int .i64 0, .int .i64 0, .slice none 0 0, .slice none 0 0, .bool false, .slice none 0 0, .slice none 0 0, .bool false, .slice none 0 0, .slice none 0 0, .bool false, .slice none 0 0, .slice none 0 0] 30 (0, 0)) :: (b3, .cells #[.slice p0a1 p0.height.length p0a2, .slice p0a3 p0.own.length p0a4, .slice p0a5 p0.other.length p0a6, .slice p0a7 p0.advisories.length p0a8, .int .i64 p0.pull, .int .i64 p0.near, .int .i64 p0.steps, .slice p0a9 p0.ownNoise.length p0a10, .slice p0a11 p0.otherNoise.length p0a12, .bool p0.alert.neg, .slice p0a13 p0.alert.ln.length p0a14, .slice p0a15 p0.alert.ld.length p0a16, .bool p0.strengthen.neg, .slice p0a17 p0.strengthen.ln.length p0a18, .slice p0a19 p0.strengthen.ld.length p0a20, .bool p0.reversal.neg, .slice p0a21 p0.reversal.ln.length p0a22, .slice p0a23 p0.reversal.ld.length p0a24] 30 (0, 0)) :: rb125_0) ∧ Le (rd w20 Y20) (rd w1 Y1) ∧ GRow BoundsDCs 60 3 (rd w1 Y1) rb125_0 ad125_0 m125_0 cap125_0 v125_0 ∧ clearwaylaw24_mirror_l125 J22 (p0.advisories.drop k125)  v125_0 = some y) (fun ((v125_0, k125, rb125_0, ad125_0, m125_0, cap125_0) : (List BoundsD) × Nat × (List (Nat × Obj)) × (Option Addr) × Nat × Nat) => p0.advisories.length - k125) (([] : List BoundsD), 0, [], none, 0, 0) ?_ ?_
 ·
  exact ⟨_, C20, Le.refl _, GRow.nil, hp⟩
 rintro ⟨v125_0, k125, rb125_0, ad125_0, m125_0, cap125_0⟩ w125 K125 H125 ⟨Y125, C125, B125, hfv125_0_0, hp⟩
 refine zz 9 ?_
 refine zt 8 (p := (k125 : Int) < (p0.advisories.length : Int)) (fun ht126 => ?_) (fun ht126 => ?_)
 ·
  have hob := get_lt (l := p0.advisories) (k := k125) (lt_of_int ht126)
  obtain ⟨x125, hqx125⟩ := hob
  rw [dropC hqx125, clearwaylaw24_mirror_l125] at hp
  have hzx125 : (0 : Int) ≤ (k125 : Int) := Int.natCast_nonneg _
  refine zz 9 ?_
  have hob := p0a_h3.opn hqx125
  obtain ⟨be127, oe127, rfl, B127, hEe127⟩ := hob
  have e127_at : At (rd w X) ⟨be127, oe127 + k125 * 3, none⟩ [.int .u8 x125.sense, .int .i64 x125.lo, .int .i64 x125.hi] := hEe127
  refine zi (b := be127) (off := oe127) (len := p0.advisories.length) (cap := p0a8) (kd := .i64) (i := (k125 : Int)) 3 (oe127 + k125 * 3) ?_ (h0 := hzx125) (h1 := (ix_b hzx125 B127))
  have hc35_ := ((hc3_.trans B19).trans B20).trans B125
  refine zl ((e127_at.mono hc35_)).cells ?_
  refine zn (fun b => .slice (some ⟨b, 0, none⟩) 1 1) (.cells #[.int .u8 x125.sense, .int .i64 x125.lo, .int .i64 x125.hi] 60 (0, 0)) C125 ?_
  intro b129 w129 Y129 C129 B129 hu129
  have hob := grdp hp
  obtain ⟨hg131, hp⟩ := hob
  have hln132 : m125_0 = v125_0.length := GRow.len hfv125_0_0
  have hob := (hfv125_0_0.mono B129)
  obtain ⟨es132, hr132, hq132, hk132, hm132⟩ := hob
  refine zop (at1 [K124, K125] Tryz.f60 [1, 1, 9, 1, 0, 0, 1, 0, 0]) 6 (fun a130 _ G130 hz130 => op_appEZ (b := 24) (m := 1) (c := 1) (ad := ⟨b129, 0, none⟩) (news := [.int .u8 x125.sense, .int .i64 x125.lo, .int .i64 x125.hi]) (i0 := Tryz.t60) (rb := rb125_0) (R1 := []) 5 G130 C129 rfl hr132 (C129.cells 0 rfl rfl) (app_b1 hg131 hln132 rfl) (app_b2 hg131 hln132) ?_)
  intro rb133 ad133 cap133 w133 Y133 hrow133 C133 B133 a134 G134
  have hg133 : GRow BoundsDCs 60 3 (rd w133 Y133) rb133 ad133 (m125_0 + 1) cap133 (v125_0 ++ [x125]) := GRow.snoc hrow133 hq132 hk132 hm132 B133 ⟨rfl, fun r2 h2 => rfl⟩
  refine hz130 G134 ?_
  refine zz 7 ?_
  refine zs 10 (v := .int .i64 (IntKind.i64.wrap ((k125 : Int) + 1))) (v' := .int .i64 ((k125 : Int) + 1)) (vint (wi64 (wk0 k125) (wk1 ht126 hb125))) ?_
  refine zz 2 ?_
  refine znext (fun a h => H125 ((v125_0 ++ [x125]), k125 + 1, rb133, ad133, (m125_0 + 1), cap133) _ a h ⟨_, C133.tail, (Le3 B125 B129 B133), hg133, hp⟩ ?_)
  exact mu_lt ht126
 rw [List.drop_eq_nil_of_le (nlt_of_int ht126), clearwaylaw24_mirror_l125] at hp
 refine zz 5 ?_
 exact znext (fun a h => H124 (v125_0, rb125_0, ad125_0, m125_0, cap125_0) _ a h ⟨_, C125, B125, hfv125_0_0, hp⟩)

end Go.Proofs.YtppalofalmieaaaGreat
namespace Go.Proofs.YtppalofalmieaaaGreat
open Go Go.Gv Go.RowKit
set_option maxRecDepth 100000
set_option maxHeartbeats 1000000
noncomputable def clearwaylaw24_DynamicsMirror_l52 (p0 : ModelD) (y23 : ModelD) (y29 : (List Out) × Int) (z33 : Int) (J34 : Option (Bool)) : List Out → Nat → Option (Bool)
  | [], k52 => J34
  | x52 :: r52, k52 => (dynamics_Split_p p0 (x52.to)).bind fun y56 => (ix y29.1 (IntKind.i64.wrap ((IntKind.i64.wrap ((y29.1.length : Int) - 1)) - (k52 : Int)))).bind fun x59 => (dynamics_Split_p y23 (x59.to)).bind fun y65 => if ((y56.2.2) != 0) = true then (some false) else (if ((y65.2.2) != 0) = true then (some false) else (if ((IntKind.i64.wrap ((y56.1) + y65.1)) != (IntKind.i64.wrap ((z33) - 1))) = true then (some false) else ((clearwaykit_EqualRat_p x52.p x59.p).bind fun y74 => if (!y74) = true then (some false) else (clearwaylaw24_DynamicsMirror_l52 p0 y23 y29 z33 J34 r52 (k52 + 1)))))
noncomputable def clearwaylaw24_DynamicsMirror_p (p0 : ModelD) (p1 : Int) (p2 : Int) (p3 : Int) (p4 : Int) (p5 : Int) : Option (Bool) :=
  (clearwaylaw24_Long_p p0).bind fun y5 => if y5 = true then ((clearwaylaw24_awake_p).bind fun y9 => some y9) else ((clearwaylaw24_awake_p).bind fun y12 => if (!y12) = true then ((clearwaylaw24_awake_p).bind fun y16 => some y16) else ((dynamics_Spread_p p0 (p1) (p2) (p3) (p5)).bind fun y19 => if ((y19.2) != 0) = true then (some ((y19.1.length : Int) == 0)) else ((clearwaylaw24_mirror_p p0).bind fun y23 => (dynamics_Spread_p y23 (IntKind.i64.wrap ((0 : Int) - p1)) (IntKind.i64.wrap ((0 : Int) - p2)) (IntKind.i64.wrap ((0 : Int) - p3)) (p5)).bind fun y29 => if ((y29.2) != 0) = true then (some false) else (if ((y29.1.length : Int) != (y19.1.length : Int)) = true then (some false) else ((some (IntKind.i64.wrap ((IntKind.i64.wrap ((p0.height.length : Int) * (p0.own.length : Int))) * (p0.other.length : Int)))).bind fun z33 => lt ((dynamics_Cost_p p0 (p4) (p5)).bind fun y36 => (dynamics_Cost_p y23 (p4) (p5)).bind fun y42 => if ((y36.2) == y42.2) = true then ((clearwaykit_EqualRat_p y36.1 y42.1).bind fun y49 => some y49) else (some false)) fun J34 => clearwaylaw24_DynamicsMirror_l52 p0 y23 y29 z33 J34 (y19.1.drop 0) 0)))))
theorem clearwaylaw24_DynamicsMirror_c (w : World) (X : Hid) (hX : ∀ k o, X k o → k < w.heap.size) (p0 : ModelD) (vp0 : Value) (hp0 : ModelDV (rd w X) vp0 p0) (p1 : Int) (p2 : Int) (p3 : Int) (p4 : Int) (p5 : Int) (y : Bool) (hp : clearwaylaw24_DynamicsMirror_p p0 p1 p2 p3 p4 p5 = some y) : Calls Tryz.prog 3 #[vp0, .int .i64 p1, .int .i64 p2, .int .i64 p3, .int .i64 p4, .int .i64 p5] w (Ret E0 w fun _ v => v = .bool y) := by
 have hVp0 := hp0
 refine ModelDV.op hp0 fun p0a1 p0a2 p0a3 p0a4 p0a5 p0a6 p0a7 p0a8 p0a9 p0a10 p0a11 p0a12 p0a13 p0a14 p0a15 p0a16 p0a17 p0a18 p0a19 p0a20 p0a21 p0a22 p0a23 p0a24 hv9 p0a_h0 p0a_h1 p0a_h2 p0a_h3 p0a_h4 p0a_h5 p0a_h6 p0a_h7 p0a_h8 p0a_h9 p0a_h10 p0a_h11 => ?_
 subst hv9
 unfold clearwaylaw24_DynamicsMirror_p at hp
 refine zen Tryz.func3 ?_
 have C0 : St E0 w X w X [] := St.start hX
 refine zz 2 ?_
 refine zn pn (.cells #[.slice p0a1 p0.height.length p0a2, .slice p0a3 p0.own.length p0a4, .slice p0a5 p0.other.length p0a6, .slice p0a7 p0.advisories.length p0a8, .int .i64 p0.pull, .int .i64 p0.near, .int .i64 p0.steps, .slice p0a9 p0.ownNoise.length p0a10, .slice p0a11 p0.otherNoise.length p0a12, .bool p0.alert.neg, .slice p0a13 p0.alert.ln.length p0a14, .slice p0a15 p0.alert.ld.length p0a16, .bool p0.strengthen.neg, .slice p0a17 p0.strengthen.ln.length p0a18, .slice p0a19 p0.strengthen.ld.length p0a20, .bool p0.reversal.neg, .slice p0a21 p0.reversal.ln.length p0a22, .slice p0a23 p0.reversal.ld.length p0a24] 30 (0, 0)) C0 ?_
 intro b3 w3 Y3 C3 B3 hu3
 refine zz 6 ?_
 refine zo 0 C3 ?_
 refine bndk hp fun y5 hy5 hp => ?_
 refine zc C3 (clearwaylaw24_Long_c _ X0 (X0_lt _) p0 _ ((hVp0.mono B3).mono Le.x0) y5 hy5) ?_
 rintro v6 w6 C6 B6 hu6 rfl
 refine zz 1 ?_
 refine zb 33 (b := y5) (fun hc7 => ?_) (fun hc7 => ?_)
 ·
  have hp := ipb hc7 hp
  refine zz 8 ?_
  refine bndk hp fun y9 hy9 hp => ?_
  refine zc C6 (clearwaylaw24_awake_c _ X0 (X0_lt _)  y9 hy9) ?_
  rintro v10 w10 C10 B10 hu10 rfl
  refine zz 5 ?_
  refine zr' (v := .bool y9) ?_
  have hob := Option.some.inj hp
  subst hob
  exact ⟨C10.upd, _, rfl, rfl⟩
 have hp := iqb hc7 hp
 refine bndk hp fun y12 hy12 hp => ?_
 refine zc C6 (clearwaylaw24_awake_c _ X0 (X0_lt _)  y12 hy12) ?_
 rintro v13 w13 C13 B13 hu13 rfl
 refine zz 4 ?_
 refine zb 36 (b := !y12) (fun hc14 => ?_) (fun hc14 => ?_)
 ·
  have hp := ipb hc14 hp
  refine zz 3 ?_
  refine bndk hp fun y16 hy16 hp => ?_
  refine zc C13 (clearwaylaw24_awake_c _ X0 (X0_lt _)  y16 hy16) ?_
  rintro v17 w17 C17 B17 hu17 rfl
  refine zz 5 ?_
  refine zr' (v := .bool y16) ?_
  have hob := Option.some.inj hp
  subst hob
  exact ⟨C17.upd, _, rfl, rfl⟩
 have hp := iqb hc14 hp
 refine zz 5 ?_
 refine zo 0 C13 ?_
 refine zz 4 ?_
 refine bndk hp fun y19 hy19 hp => ?_
 refine zc C13 (dynamics_Spread_c _ X0 (X0_lt _) p0 _ ((hVp0.mono (Le3 B3 B6 B13)).mono Le.x0) (p1) (p2) (p3) (p5) y19 hy19) ?_
 rintro v20 w20 C20 B20 hu20 ⟨uu20_0, rfl, ⟨u20_0_1, u20_0_2, rfl, u20_0__h0⟩⟩
 refine zz 14 ?_
 refine zb 48 (b := ((y19.2) != 0)) (fun hc21 => ?_) (fun hc21 => ?_)
 ·
  have hp := ipb hc21 hp
  refine zz 11 ?_
  refine zr' (v := .bool ((y19.1.length : Int) == 0)) ?_
  have hob := Option.some.inj hp
  subst hob
  exact ⟨C20.upd, _, rfl, rfl⟩
 have hp := iqb hc21 hp
 refine zz 5 ?_
 refine zo 0 C20 ?_
 have hc1_ := (Le3 B3 B6 B13).trans B20
 refine bndk hp fun y23 hy23 hp => ?_
 refine zc C20 (clearwaylaw24_mirror_c _ _ C20.lt p0 _ (hVp0.mono hc1_) y23 hy23) ?_
 rintro v24 w24 C24 B24 hu24 u24_0_o
 refine ModelDV.op u24_0_o fun u24_0_1 u24_0_2 u24_0_3 u24_0_4 u24_0_5 u24_0_6 u24_0_7 u24_0_8 u24_0_9 u24_0_10 u24_0_11 u24_0_12 u24_0_13 u24_0_14 u24_0_15 u24_0_16 u24_0_17 u24_0_18 u24_0_19 u24_0_20 u24_0_21 u24_0_22 u24_0_23 u24_0_24 hv9 u24_0__h0 u24_0__h1 u24_0__h2 u24_0__h3 u24_0__h4 u24_0__h5 u24_0__h6 u24_0__h7 u24_0__h8 u24_0__h9 u24_0__h10 u24_0__h11 => ?_
 subst hv9
 refine zn pn (.cells #[.slice none 0 0, .slice none 0 0, .slice none 0 0, .slice none 0 0, .int .i64 0, .int .i64 0, .int .i64 0, .slice none 0 0, .slice none 0 0, .bool false, .slice none 0 0, .slice none 0 0, .bool false, .slice none 0 0, .slice none 0 0, .bool false, .slice none 0 0, .slice none 0 0] 30 (0, 0)) C24 ?_
 intro b26 w26 Y26 C26 B26 hu26
 refine zx 0 #[.slice u24_0_1 y23.height.length u24_0_2, .slice u24_0_3 y23.own.length u24_0_4, .slice u24_0_5 y23.other.length u24_0_6, .slice u24_0_7 y23.advisories.length u24_0_8, .int .i64 y23.pull, .int .i64 y23.near, .int .i64 y23.steps, .slice u24_0_9 y23.ownNoise.length u24_0_10, .slice u24_0_11 y23.otherNoise.length u24_0_12, .bool y23.alert.neg, .slice u24_0_13 y23.alert.ln.length u24_0_14, .slice u24_0_15 y23.alert.ld.length u24_0_16, .bool y23.strengthen.neg, .slice u24_0_17 y23.strengthen.ln.length u24_0_18, .slice u24_0_19 y23.strengthen.ld.length u24_0_20, .bool y23.reversal.neg, .slice u24_0_21 y23.reversal.ln.length u24_0_22, .slice u24_0_23 y23.reversal.ld.length u24_0_24] C26 ?_
 intro w27 C27 B27
 refine zz 4 ?_
 refine zo 0 C27 ?_
 refine zz 7 ?_
 refine bndk hp fun y29 hy29 hp => ?_
 refine zc C27 (dynamics_Spread_c _ X0 (X0_lt _) y23 _ ⟨_, _, _, _, _, _, _, _, _, _, _, _, _, _, _, _, _, _, _, _, _, _, _, _, rfl, ((u24_0__h0.mono (Le2 B26 B27)).mono Le.x0), ((u24_0__h1.mono (Le2 B26 B27)).mono Le.x0), ((u24_0__h2.mono (Le2 B26 B27)).mono Le.x0), ((u24_0__h3.mono (Le2 B26 B27)).mono Le.x0), ((u24_0__h4.mono (Le2 B26 B27)).mono Le.x0), ((u24_0__h5.mono (Le2 B26 B27)).mono Le.x0), ((u24_0__h6.mono (Le2 B26 B27)).mono Le.x0), ((u24_0__h7.mono (Le2 B26 B27)).mono Le.x0), ((u24_0__h8.mono (Le2 B26 B27)).mono Le.x0), ((u24_0__h9.mono (Le2 B26 B27)).mono Le.x0), ((u24_0__h10.mono (Le2 B26 B27)).mono Le.x0), ((u24_0__h11.mono (Le2 B26 B27)).mono Le.x0)⟩ (IntKind.i64.wrap ((0 : Int) - p1)) (IntKind.i64.wrap ((0 : Int) - p2)) (IntKind.i64.wrap ((0 : Int) - p3)) (p5) y29 hy29) ?_
 rintro v30 w30 C30 B30 hu30 ⟨uu30_0, rfl, ⟨u30_0_1, u30_0_2, rfl, u30_0__h0⟩⟩
 refine zz 13 ?_
 refine zb 68 (b := ((y29.2) != 0)) (fun hc31 => ?_) (fun hc31 => ?_)
 ·
  have hp := ipb hc31 hp
  refine zz 16 ?_
  refine zr' (v := .bool false) ?_
  have hob := Option.some.inj hp
  subst hob
  exact ⟨C30.upd, _, rfl, rfl⟩
 have hp := iqb hc31 hp
 refine zz 8 ?_
 refine zb 74 (b := ((y29.1.length : Int) != (y19.1.length : Int))) (fun hc32 => ?_) (fun hc32 => ?_)
 ·
  have hp := ipb hc32 hp
  refine zz 8 ?_
  refine zr' (v := .bool false) ?_
  have hob := Option.some.inj hp
  subst hob
  exact ⟨C30.upd, _, rfl, rfl⟩
 have hp := iqb hc32 hp
 refine zz 6 ?_
 refine zo 1 C30 ?_
 refine zz 2 ?_
 refine zo 1 C30 ?_
 refine zz 3 ?_
 refine zo 1 C30 ?_
 refine bndk hp fun z33 hz33 hp => ?_
 refine zz 2 ?_
 refine zs 85 (v := .int .i64 (IntKind.i64.wrap ((IntKind.i64.wrap ((p0.height.length : Int) * (p0.own.length : Int))) * (p0.other.length : Int)))) (v' := .int .i64 z33) (vint (Option.some.inj hz33)) ?_
 refine zz 3 ?_
 have hob := ltd0 hp
 obtain ⟨J34, hJ34, hp⟩ := hob
 refine zjoin (fun (_ : Unit) => [(4, .int .i64 p4), (5, .int .i64 p5), (6, .pointer (some ⟨b3, 0, none⟩)), (15, .pointer (some ⟨b26, 0, none⟩))]) (fun (_ : Unit) w1 => ∃ Y1 : Hid, St E0 w X w1 Y1 [(b26, .cells #[.slice u24_0_1 y23.height.length u24_0_2, .slice u24_0_3 y23.own.length u24_0_4, .slice u24_0_5 y23.other.length u24_0_6, .slice u24_0_7 y23.advisories.length u24_0_8, .int .i64 y23.pull, .int .i64 y23.near, .int .i64 y23.steps, .slice u24_0_9 y23.ownNoise.length u24_0_10, .slice u24_0_11 y23.otherNoise.length u24_0_12, .bool y23.alert.neg, .slice u24_0_13 y23.alert.ln.length u24_0_14, .slice u24_0_15 y23.alert.ld.length u24_0_16, .bool y23.strengthen.neg, .slice u24_0_17 y23.strengthen.ln.length u24_0_18, .slice u24_0_19 y23.strengthen.ld.length u24_0_20, .bool y23.reversal.neg, .slice u24_0_21 y23.reversal.ln.length u24_0_22, .slice u24_0_23 y23.reversal.ld.length u24_0_24] 30 (0, 0)), (b3, .cells #[.slice p0a1 p0.height.length p0a2, .slice p0a3 p0.own.length p0a4, .slice p0a5 p0.other.length p0a6, .slice p0a7 p0.advisories.length p0a8, .int .i64 p0.pull, .int .i64 p0.near, .int .i64 p0.steps, .slice p0a9 p0.ownNoise.length p0a10, .slice p0a11 p0.otherNoise.length p0a12, .bool p0.alert.neg, .slice p0a13 p0.alert.ln.length p0a14, .slice p0a15 p0.alert.ld.length p0a16, .bool p0.strengthen.neg, .slice p0a17 p0.strengthen.ln.length p0a18, .slice p0a19 p0.strengthen.ld.length p0a20, .bool p0.reversal.neg, .slice p0a21 p0.reversal.ln.length p0a22, .slice p0a23 p0.reversal.ld.length p0a24] 30 (0, 0))] ∧ Le (rd w30 Y26) (rd w1 Y1) ∧ J34 = some y) ?_ ?_
 ·
  rintro _ w34 ⟨Y34, C34, B34, hp⟩
  have hp := hJ34.symm.trans hp
  refine zz 2 ?_
  refine zo 1 C34 ?_
  refine zz 2 ?_
  have hc2_ := ((((hc1_.trans B24).trans B26).trans B27).trans B30).trans B34
  refine bndk hp fun y36 hy36 hp => ?_
  refine zc C34 (dynamics_Cost_c _ X0 (X0_lt _) p0 _ ((hVp0.mono hc2_).mono Le.x0) (p4) (p5) y36 hy36) ?_
  rintro v37 w37 C37 B37 hu37 ⟨uu37_0, rfl, ⟨u37_0_1, u37_0_2, u37_0_3, u37_0_4, u37_0_5, u37_0_6, rfl, u37_0__h0, u37_0__h1⟩⟩
  have hob := u37_0__h0.hlen
  subst hob
  have hob := u37_0__h1.hlen
  subst hob
  refine zz 3 ?_
  refine zn pn (.cells #[.bool false, .slice none 0 0, .slice none 0 0] 28 (0, 0)) C37 ?_
  intro b39 w39 Y39 C39 B39 hu39
  refine zx 0 #[.bool y36.1.neg, .slice u37_0_1 y36.1.ln.length u37_0_3, .slice u37_0_4 y36.1.ld.length u37_0_6] C39 ?_
  intro w40 C40 B40
  refine zz 5 ?_
  refine zo 1 C40 ?_
  refine zz 2 ?_
  have hc3_ := (Le6 B26 B27 B30 B34 B37 B39).trans B40
  refine bndk hp fun y42 hy42 hp => ?_
  refine zc C40 (dynamics_Cost_c _ X0 (X0_lt _) y23 _ ⟨_, _, _, _, _, _, _, _, _, _, _, _, _, _, _, _, _, _, _, _, _, _, _, _, rfl, ((u24_0__h0.mono hc3_).mono Le.x0), ((u24_0__h1.mono hc3_).mono Le.x0), ((u24_0__h2.mono hc3_).mono Le.x0), ((u24_0__h3.mono hc3_).mono Le.x0), ((u24_0__h4.mono hc3_).mono Le.x0), ((u24_0__h5.mono hc3_).mono Le.x0), ((u24_0__h6.mono hc3_).mono Le.x0), ((u24_0__h7.mono hc3_).mono Le.x0), ((u24_0__h8.mono hc3_).mono Le.x0), ((u24_0__h9.mono hc3_).mono Le.x0), ((u24_0__h10.mono hc3_).mono Le.x0), ((u24_0__h11.mono hc3_).mono Le.x0)⟩ (p4) (p5) y42 hy42) ?_
  rintro v43 w43 C43 B43 hu43 ⟨uu43_0, rfl, ⟨u43_0_1, u43_0_2, u43_0_3, u43_0_4, u43_0_5, u43_0_6, rfl, u43_0__h0, u43_0__h1⟩⟩
  have hob := u43_0__h0.hlen
  subst hob
  have hob := u43_0__h1.hlen
  subst hob
  refine zz 3 ?_
  refine zn pn (.cells #[.bool false, .slice none 0 0, .slice none 0 0] 28 (0, 0)) C43 ?_
  intro b45 w45 Y45 C45 B45 hu45
  refine zx 0 #[.bool y42.1.neg, .slice u43_0_1 y42.1.ln.length u43_0_3, .slice u43_0_4 y42.1.ld.length u43_0_6] C45 ?_
  intro w46 C46 B46
  refine zz 9 ?_
  refine zb 161 (b := ((y36.2) == y42.2)) (fun hc47 => ?_) (fun hc47 => ?_)
  ·
   have hp := ipb hc47 hp
   refine zo 1 C46 ?_
   refine zo 0 C46 ?_
   have hc4_ := (Le4 B39 B40 B43 B45).trans B46
   refine bndk hp fun y49 hy49 hp => ?_
   refine zc C46 (clearwaykit_EqualRat_c _ X0 (X0_lt _) y36.1 _ ⟨_, _, _, _, _, _, rfl, (((u37_0__h0.mono (Le.new C34.lt)).mono hc4_).mono Le.x0), (((u37_0__h1.mono (Le.new C34.lt)).mono hc4_).mono Le.x0)⟩ y42.1 _ ⟨_, _, _, _, _, _, rfl, (((u43_0__h0.mono (Le.new C40.lt)).mono (Le2 B45 B46)).mono Le.x0), (((u43_0__h1.mono (Le.new C40.lt)).mono (Le2 B45 B46)).mono Le.x0)⟩ y49 hy49) ?_
   rintro v50 w50 C50 B50 hu50 rfl
   refine zz 5 ?_
   refine zr' (v := .bool y49) ?_
   have hob := Option.some.inj hp
   subst hob
   exact ⟨C50.upd, _, rfl, rfl⟩
  have hp := iqb hc47 hp
  refine zz 8 ?_
  refine zr' (v := .bool false) ?_
  have hob := Option.some.inj hp
  subst hob
  exact ⟨C46.upd, _, rfl, rfl⟩
 intro K51 H51
 refine zz 6 ?_
 have hb52 : (y19.1.length : Int) ≤ 9223372036854775807 := lenb ((u20_0__h0.mono (Le.new C13.lt))).hcap ((u20_0__h0.mono (Le.new C13.lt))).hbig
 refine zlp Tryz.f3 [K51] [1, 1, 1, 1, 1, 1, 1, 1, 9, 1, 0] (fun (k52 : Nat) => [(4, .int .i64 p4), (5, .int .i64 p5), (6, .pointer (some ⟨b3, 0, none⟩)), (13, .slice u20_0_1 y19.1.length u20_0_2), (15, .pointer (some ⟨b26, 0, none⟩)), (16, .slice u30_0_1 y29.1.length u30_0_2), (18, .int .i64 z33), (19, .int .i64 (k52 : Int))]) (fun (k52 : Nat) w1 => ∃ Y1 : Hid, St E0 w X w1 Y1 [(b26, .cells #[.slice u24_0_1 y23.height.length u24_0_2, .slice u24_0_3 y23.own.length u24_0_4, .slice u24_0_5 y23.other.length u24_0_6, .slice u24_0_7 y23.advisories.length u24_0_8, .int .i64 y23.pull, .int .i64 y23.near, .int .i64 y23.steps, .slice u24_0_9 y23.ownNoise.length u24_0_10, .slice u24_0_11 y23.otherNoise.length u24_0_12, .bool y23.alert.neg, .slice u24_0_13 y23.alert.ln.length u24_0_14, .slice u24_0_15 y23.alert.ld.length u24_0_16, .bool y23.strengthen.neg, .slice u24_0_17 y23.strengthen.ln.length u24_0_18, .slice u24_0_19 y23.strengthen.ld.length u24_0_20, .bool y23.reversal.neg, .slice u24_0_21 y23.reversal.ln.length u24_0_22, .slice u24_0_23 y23.reversal.ld.length u24_0_24] 30 (0, 0)), (b3, .cells #[.slice p0a1 p0.height.length p0a2, .slice p0a3 p0.own.length p0a4, .slice p0a5 p0.other.length p0a6, .slice p0a7 p0.advisories.length p0a8, .int .i64 p0.pull, .int .i64 p0.near, .int .i64 p0.steps, .slice p0a9 p0.ownNoise.length p0a10, .slice p0a11 p0.otherNoise.length p0a12, .bool p0.alert.neg, .slice p0a13 p0.alert.ln.length p0a14, .slice p0a15 p0.alert.ld.length p0a16, .bool p0.strengthen.neg, .slice p0a17 p0.strengthen.ln.length p0a18, .slice p0a19 p0.strengthen.ld.length p0a20, .bool p0.reversal.neg, .slice p0a21 p0.reversal.ln.length p0a22, .slice p0a23 p0.reversal.ld.length p0a24] 30 (0, 0))] ∧ Le (rd w30 Y26) (rd w1 Y1) ∧ clearwaylaw24_DynamicsMirror_l52 p0 y23 y29 z33 J34 (y19.1.drop k52) k52 = some y) (fun (k52 : Nat) => y19.1.length - k52) 0 ?_ ?_
 ·
  exact ⟨_, C30, Le.refl _, hp⟩
 rintro k52 w52 K52 H52 ⟨Y52, C52, B52, hp⟩
 refine zz 9 ?_
 refine zt 89 (p := (k52 : Int) < (y19.1.length : Int)) (fun ht53 => ?_) (fun ht53 => ?_)
 ·
  have hob := get_lt (l := y19.1) (k := k52) (lt_of_int ht53)
  obtain ⟨x52, hqx52⟩ := hob
  rw [dropC hqx52, clearwaylaw24_DynamicsMirror_l52] at hp
  have hzx52 : (0 : Int) ≤ (k52 : Int) := Int.natCast_nonneg _
  refine zz 6 ?_
  refine zdr C52 ?_
  refine gw 0 1 ?_
  have hob := (u20_0__h0.mono (Le.new C13.lt)).opn hqx52
  obtain ⟨be54, oe54, rfl, B54, hEe54⟩ := hob
  obtain ⟨e541, e542, e543, e544, e545, e546, e54_at, e54_h0, e54_h1⟩ := hEe54
  have hob := e54_h0.hlen
  subst hob
  have hob := e54_h1.hlen
  subst hob
  refine gz [1, 2] ?_
  refine gi 3 (b := be54) (off := oe54) (len := y19.1.length) (cap := u20_0_2) (kd := .i64) (i := (k52 : Int)) 4 (oe54 + k52 * 4) ?_ (h0 := hzx52) (h1 := (ix_b hzx52 B54))
  have hc5_ := (Le4 B24 B26 B27 B30).trans B52
  refine gz [4] ?_
  refine gl 5 ((e54_at.mono hc5_).sub 0 1) ?_
  have hc6_ := ((((hc1_.trans B24).trans B26).trans B27).trans B30).trans B52
  refine bndk hp fun y56 hy56 hp => ?_
  refine gC 6 (fun w55 Y55 _ C55 B55 => (dynamics_Split_c _ X0 (X0_lt _) p0 _ ((hVp0.mono (hc6_.trans B55)).mono Le.x0) (x52.to) y56 hy56)) ?_
  rintro v57 w55 Y57 w57 C55 B57 rfl
  refine gz [7, 8, 9, 10, 11, 12, 13] ?_
  refine gend (fun w58 Y58 C58 B58 => ?_)
  refine zz 9 ?_
  refine bndk hp fun x59 hx59 hp => ?_
  have hob := ix_some hx59
  obtain ⟨hzx59, hqx59⟩ := hob
  have hob := (u30_0__h0.mono (Le.new C27.lt)).opn hqx59
  obtain ⟨be60, oe60, rfl, B60, hEe60⟩ := hob
  obtain ⟨e601, e602, e603, e604, e605, e606, e60_at, e60_h0, e60_h1⟩ := hEe60
  have hob := e60_h0.hlen
  subst hob
  have hob := e60_h1.hlen
  subst hob
  refine zi (b := be60) (off := oe60) (len := y29.1.length) (cap := u30_0_2) (kd := .i64) (i := IntKind.i64.wrap ((IntKind.i64.wrap ((y29.1.length : Int) - 1)) - (k52 : Int))) 4 (oe60 + (IntKind.i64.wrap ((IntKind.i64.wrap ((y29.1.length : Int) - 1)) - (k52 : Int))).toNat * 4) ?_ (h0 := hzx59) (h1 := (ix_b hzx59 B60))
  refine zl ((e60_at.mono (Le3 B52 B57 B58))).cells ?_
  refine zn pn (.cells #[.int .i64 0, .bool false, .slice none 0 0, .slice none 0 0] 41 (0, 0)) C58 ?_
  intro b62 w62 Y62 C62 B62 hu62
  refine zx 0 #[.int .i64 x59.to, .bool x59.p.neg, .slice e601 x59.p.ln.length e603, .slice e604 x59.p.ld.length e606] C62 ?_
  intro w63 C63 B63
  refine zz 4 ?_
  refine zo 1 C63 ?_
  refine zz 1 ?_
  refine zo 0 C63 ?_
  have hc7_ := (Le7 B26 B27 B30 B52 B57 B58 B62).trans B63
  refine bndk hp fun y65 hy65 hp => ?_
  refine zc C63 (dynamics_Split_c _ X0 (X0_lt _) y23 _ ⟨_, _, _, _, _, _, _, _, _, _, _, _, _, _, _, _, _, _, _, _, _, _, _, _, rfl, ((u24_0__h0.mono hc7_).mono Le.x0), ((u24_0__h1.mono hc7_).mono Le.x0), ((u24_0__h2.mono hc7_).mono Le.x0), ((u24_0__h3.mono hc7_).mono Le.x0), ((u24_0__h4.mono hc7_).mono Le.x0), ((u24_0__h5.mono hc7_).mono Le.x0), ((u24_0__h6.mono hc7_).mono Le.x0), ((u24_0__h7.mono hc7_).mono Le.x0), ((u24_0__h8.mono hc7_).mono Le.x0), ((u24_0__h9.mono hc7_).mono Le.x0), ((u24_0__h10.mono hc7_).mono Le.x0), ((u24_0__h11.mono hc7_).mono Le.x0)⟩ (x59.to) y65 hy65) ?_
  rintro v66 w66 C66 B66 hu66 rfl
  refine zz 10 ?_
  refine zdr C66 ?_
  refine gz [0, 1, 2] ?_
  refine gb 121 (b := ((y56.2.2) != 0)) (fun hc67 => ?_) (fun hc67 => ?_)
  ·
   have hp := ipb hc67 hp
   refine gz [3, 4, 5, 6, 7, 8, 9, 10, 11, 12, 13, 14, 15, 16, 17, 18, 19, 20, 21, 22, 23, 24] ?_
   refine gend (fun w68 Y68 C68 B68 => ?_)
   refine zz 13 ?_
   refine zr' (v := .bool false) ?_
   have hob := Option.some.inj hp
   subst hob
   exact ⟨C68.upd, _, rfl, rfl⟩
  have hp := iqb hc67 hp
  refine gz [3, 4, 5, 6] ?_
  refine gb 125 (b := ((y65.2.2) != 0)) (fun hc69 => ?_) (fun hc69 => ?_)
  ·
   have hp := ipb hc69 hp
   refine gz [7, 8, 9, 10, 11, 12, 13, 14, 15, 16, 17, 18, 19, 20, 21, 22, 23, 24] ?_
   refine gend (fun w70 Y70 C70 B70 => ?_)
   refine zz 13 ?_
   refine zr' (v := .bool false) ?_
   have hob := Option.some.inj hp
   subst hob
   exact ⟨C70.upd, _, rfl, rfl⟩
  have hp := iqb hc69 hp
  refine gz [7, 8, 9, 10, 11, 12, 13, 14] ?_
  refine gb 133 (b := ((IntKind.i64.wrap ((y56.1) + y65.1)) != (IntKind.i64.wrap ((z33) - 1)))) (fun hc71 => ?_) (fun hc71 => ?_)
  ·
   have hp := ipb hc71 hp
   refine gz [15, 16, 17, 18, 19, 20, 21, 22, 23, 24] ?_
   refine gend (fun w72 Y72 C72 B72 => ?_)
   refine zz 13 ?_
   refine zr' (v := .bool false) ?_
   have hob := Option.some.inj hp
   subst hob
   exact ⟨C72.upd, _, rfl, rfl⟩
  have hp := iqb hc71 hp
  refine gz [15, 16] ?_
  refine gi 17 (b := be54) (off := oe54) (len := y19.1.length) (cap := u20_0_2) (kd := .i64) (i := (k52 : Int)) 4 (oe54 + k52 * 4) ?_ (h0 := hzx52) (h1 := (ix_b hzx52 B54))
  have hc8_ := (Le9 B24 B26 B27 B30 B52 B57 B58 B62 B63).trans B66
  refine gz [18] ?_
  refine gl 19 ((e54_at.mono hc8_).sub 1 3) ?_
  refine gz [20] ?_
  refine gw 21 0 ?_
  have hc9_ := (Le9 B24 B26 B27 B30 B52 B57 B58 B62 B63).trans B66
  have hc10_ := (Le5 B52 B57 B58 B62 B63).trans B66
  refine bndk hp fun y74 hy74 hp => ?_
  refine gC 22 (fun w73 Y73 _ C73 B73 => (clearwaykit_EqualRat_c _ X0 (X0_lt _) x52.p _ ⟨_, _, _, _, _, _, rfl, ((e54_h0.mono (hc9_.trans B73)).mono Le.x0), ((e54_h1.mono (hc9_.trans B73)).mono Le.x0)⟩ x59.p _ ⟨_, _, _, _, _, _, rfl, ((e60_h0.mono (hc10_.trans B73)).mono Le.x0), ((e60_h1.mono (hc10_.trans B73)).mono Le.x0)⟩ y74 hy74)) ?_
  rintro v75 w73 Y75 w75 C73 B75 rfl
  refine gz [23, 24] ?_
  refine gend (fun w76 Y76 C76 B76 => ?_)
  refine zz 1 ?_
  refine zb 143 (b := !y74) (fun hc77 => ?_) (fun hc77 => ?_)
  ·
   have hp := ipb hc77 hp
   refine zz 12 ?_
   refine zr' (v := .bool false) ?_
   have hob := Option.some.inj hp
   subst hob
   exact ⟨C76.upd, _, rfl, rfl⟩
  have hp := iqb hc77 hp
  refine zz 7 ?_
  refine zs 91 (v := .int .i64 (IntKind.i64.wrap ((k52 : Int) + 1))) (v' := .int .i64 ((k52 : Int) + 1)) (vint (wi64 (wk0 k52) (wk1 ht53 hb52))) ?_
  refine zz 2 ?_
  have hc11_ := (hc10_.trans B75).trans B76
  refine znext (fun a h => H52 (k52 + 1) _ a h ⟨_, C76.tail, hc11_, hp⟩ ?_)
  exact mu_lt ht53
 rw [List.drop_eq_nil_of_le (nlt_of_int ht53), clearwaylaw24_DynamicsMirror_l52] at hp
 refine zz 5 ?_
 exact znext (fun a h => H51 () _ a h ⟨_, C52, B52, hp⟩)
end Go.Proofs.YtppalofalmieaaaGreat
/- DynamicsResponds as plain Lean. By an AI agent. -/
namespace Go.Proofs.YtppalofalmieaaaGreat
open Go Go.Gv Go.RowKit
set_option maxRecDepth 100000
set_option maxHeartbeats 1000000
theorem long6 : ∀ l : List Raw, ∃ b, clearwaylaw06_Long_p l = some b := by
  have h : ∀ l : List Raw, ∃ b, clearwaylaw06_Long_l4 (some false) l = some b := by
    intro l
    induction l with
    | nil => exact ⟨false, by rw [clearwaylaw06_Long_l4]⟩
    | cons x l ih =>
      rw [clearwaylaw06_Long_l4]
      repeat' split
      all_goals first | exact ⟨_, rfl⟩ | exact ih
  intro l
  unfold clearwaylaw06_Long_p lt
  exact h _
theorem long24 (x : ModelD) : ∃ b, clearwaylaw24_Long_p x = some b := by
  have h18 : ∀ (J : Option Bool), (∃ b, J = some b) → ∀ l : List NoiseD, ∃ b, clearwaylaw24_Long_l18 J l = some b := by
    intro J hJ l
    induction l with
    | nil => rw [clearwaylaw24_Long_l18]; exact hJ
    | cons x l ih =>
      rw [clearwaylaw24_Long_l18]
      obtain ⟨b, hb⟩ := long6 [x.p]
      rw [bnds hb]
      split
      · exact ⟨_, rfl⟩
      · exact ih
  have h28 : ∀ (J : Option Bool), (∃ b, J = some b) → ∀ l : List NoiseD, ∃ b, clearwaylaw24_Long_l28 J l = some b := by
    intro J hJ l
    induction l with
    | nil => rw [clearwaylaw24_Long_l28]; exact hJ
    | cons x l ih =>
      rw [clearwaylaw24_Long_l28]
      obtain ⟨b, hb⟩ := long6 [x.p]
      rw [bnds hb]
      split
      · exact ⟨_, rfl⟩
      · exact ih
  unfold clearwaylaw24_Long_p
  repeat' split
  all_goals try exact ⟨_, rfl⟩
  obtain ⟨b, hb⟩ := long6 [x.alert, x.strengthen, x.reversal]
  rw [lt, lt, bnds hb]
  exact h28 _ (h18 _ ⟨b, rfl⟩ _) _
def nV (x : ModelD) : Nat := x.height.length * x.own.length * x.other.length
theorem Good.size {x : ModelD} (g : Good x) : dynamics_size_p x = some ((nV x * x.advisories.length : Nat) : Int) := by
  obtain ⟨n, h, k⟩ := size_p x
  rw [h, k g.h2 g.o2 g.t2 g.a2]
  rfl
theorem Good.nV_le {x : ModelD} (g : Good x) : nV x ≤ 32768 := by
  have e1 : x.height.length * x.own.length ≤ 32 * 32 := Nat.mul_le_mul g.h2 g.o2
  exact Nat.mul_le_mul e1 g.t2
theorem Good.n_le {x : ModelD} (g : Good x) : nV x * x.advisories.length ≤ 196608 := Nat.mul_le_mul g.nV_le g.a2
theorem known_p {x : ModelD} (hc : dynamics_Check_p x = some 0) (g : Good x) (z : Int) : dynamics_known_p x [z] = some (if 0 ≤ z ∧ z < (x.advisories.length : Int) then 0 else 8) := by
  have h1 := g.a1
  have h2 := g.a2
  unfold dynamics_known_p
  rw [bnds hc, if_neg (by decide), wi64 (by omega) (by omega), has_p, Option.bind_some]
  by_cases hz : 0 ≤ z ∧ z < (x.advisories.length : Int)
  · rw [if_pos hz, if_neg]
    have : inS 0 ((x.advisories.length : Int) - 1) [z] = true := inS_iff.2 fun y hy => by
      rw [List.mem_singleton] at hy; subst hy; omega
    simp [this]
  · rw [if_neg hz, if_pos]
    have : inS 0 ((x.advisories.length : Int) - 1) [z] = false := by
      rw [Bool.eq_false_iff]
      intro h
      have := inS_iff.1 h z (by simp)
      omega
    simp [this]
theorem respond_eq {x : ModelD} (g : Good x) {u b : Int} (hb : 0 ≤ b ∧ b < (x.advisories.length : Int)) (hu : -100 ≤ u ∧ u ≤ 100) : ∃ y, ix x.advisories b = some y ∧ (b ≠ 0 → y.lo ≤ y.hi ∧ -100 ≤ y.lo ∧ y.lo ≤ 100 ∧ -100 ≤ y.hi ∧ y.hi ≤ 100) ∧
    dynamics_respond_p x u b = some (if b = 0 then u else if u < y.lo then (if y.lo < u + x.pull then y.lo else u + x.pull) else if u > y.hi then (if y.hi > u - x.pull then y.hi else u - x.pull) else u) := by
  have hp1 := g.p1
  have hp2 := g.p2
  obtain ⟨k, rfl⟩ := Int.eq_ofNat_of_zero_le hb.1
  have hk : k < x.advisories.length := by omega
  have hy := List.getElem?_eq_getElem hk
  have hix := ixT (i := (k : Int)) rfl hy
  refine ⟨_, hix, fun h0 => ?_, ?_⟩
  · have hk0 : k ≠ 0 := by rintro rfl; exact h0 rfl
    refine g.adv _ (List.mem_of_getElem? (i := k - 1) ?_)
    rw [List.getElem?_drop, show 1 + (k - 1) = k by omega]
    exact hy
  · unfold dynamics_respond_p
    rw [bnds hix, wi64 (x := u + x.pull) (by omega) (by omega), wi64 (x := u - x.pull) (by omega) (by omega)]
    by_cases hk0 : (k : Int) = 0
    · rw [if_pos (by simpa using hk0), if_pos hk0]
    · rw [if_neg (by simpa using hk0), if_neg hk0]
      simp only [Option.bind_some]
      repeat' split
      all_goals rfl
end Go.Proofs.YtppalofalmieaaaGreat
/- Numbers that fit: sums of fractions with one denominator. By an AI agent. -/
namespace Go.Gv
/-- q is a fraction over D whose numerator is at most B. -/
def DB (D B : Nat) (q : Rat) : Prop := ∃ n : Int, q = mkRat n D ∧ n.natAbs ≤ B
theorem fit_mk {n : Int} {d : Nat} (h1 : n.natAbs < K128) (h2 : d < K128) : ratE (mkRat n d) = 0 := by
  unfold ratE
  refine if_pos ⟨?_, ?_⟩
  · rw [Rat.num_mkRat]
    split
    · exact Nat.lt_of_le_of_lt (Nat.zero_le _) h2
    · refine Nat.lt_of_le_of_lt ?_ h1
      rw [Int.natAbs_ediv_of_dvd (Int.ofNat_dvd_left.2 (Nat.gcd_dvd_right _ _))]
      exact Nat.div_le_self _ _
  · have hd : (mkRat n d).den ≤ d ∨ (mkRat n d).den = 1 := by
      rw [Rat.den_mkRat]
      split
      · exact .inr rfl
      · exact .inl (Nat.div_le_self _ _)
    unfold den1
    split
    · exact Nat.lt_of_le_of_lt (Nat.zero_le _) h2
    · rcases hd with h | h
      · exact Nat.lt_of_le_of_lt h h2
      · rename_i h9; exact absurd h h9
theorem DB.fit {D B : Nat} {q : Rat} (h : DB D B q) (hD : D < K128) (hB : B < K128) : ratE q = 0 := by
  obtain ⟨n, rfl, h2⟩ := h
  exact fit_mk (Nat.lt_of_le_of_lt h2 hB) hD
theorem DB.mono {D B C : Nat} {q : Rat} (h : DB D B q) (k : B ≤ C) : DB D C q := by
  obtain ⟨n, h1, h2⟩ := h
  exact ⟨n, h1, Nat.le_trans h2 k⟩
theorem DB.zero {D : Nat} : DB D 0 0 := ⟨0, by simp, Nat.le_refl _⟩
theorem DB.add {D A B : Nat} {p q : Rat} (hD : D ≠ 0) (h : DB D A p) (k : DB D B q) : DB D (A + B) (p + q) := by
  obtain ⟨m, rfl, h2⟩ := h
  obtain ⟨n, rfl, k2⟩ := k
  refine ⟨m + n, ?_, ?_⟩
  · rw [Rat.mkRat_add_mkRat _ _ hD hD, ← Int.add_mul, Rat.mkRat_mul_right hD]
  · have := Int.natAbs_add_le m n
    omega
theorem DB.mul {D E A B : Nat} {p q : Rat} (h : DB D A p) (k : DB E B q) : DB (D * E) (A * B) (p * q) := by
  obtain ⟨m, rfl, h2⟩ := h
  obtain ⟨n, rfl, k2⟩ := k
  refine ⟨m * n, Rat.mkRat_mul_mkRat _ _ _ _, ?_⟩
  rw [Int.natAbs_mul]
  exact Nat.mul_le_mul h2 k2
theorem DB.lift {D B k : Nat} {q : Rat} (h : DB D B q) (hk : k ≠ 0) : DB (D * k) (B * k) q := by
  obtain ⟨n, rfl, h2⟩ := h
  refine ⟨n * k, ?_, ?_⟩
  · rw [Rat.mkRat_mul_right hk]
  · rw [Int.natAbs_mul, Int.natAbs_natCast]
    exact Nat.mul_le_mul_right _ h2
theorem DB.dvd {D E B : Nat} {q : Rat} (h : DB D B q) (hd : D ∣ E) (hE : E ≠ 0) : DB E (B * E) q := by
  obtain ⟨k, rfl⟩ := hd
  have hk : k ≠ 0 := fun e => hE (by rw [e, Nat.mul_zero])
  have hD : D ≠ 0 := fun e => hE (by rw [e, Nat.zero_mul])
  refine (h.lift hk).mono (Nat.mul_le_mul_left _ ?_)
  exact Nat.le_mul_of_pos_left _ (Nat.pos_of_ne_zero hD)
/-- The product of all. -/
def prodN : List Nat → Nat
  | [] => 1
  | x :: l => x * prodN l
theorem prodN_dvd : ∀ {l : List Nat} {x : Nat}, x ∈ l → x ∣ prodN l
  | y :: l, x, h => by
    rcases List.mem_cons.1 h with rfl | h
    · exact Nat.dvd_mul_right _ _
    · exact Nat.dvd_trans (prodN_dvd h) (Nat.dvd_mul_left _ _)
theorem prodN_pos : ∀ {l : List Nat}, (∀ x ∈ l, x ≠ 0) → prodN l ≠ 0
  | [], _ => by decide
  | y :: l, h => Nat.mul_ne_zero (h y (by simp)) (prodN_pos fun x hx => h x (by simp [hx]))
theorem prodN_le {K : Nat} (hK : 1 ≤ K) : ∀ {l : List Nat} {n : Nat}, (∀ x ∈ l, x ≤ K) → l.length ≤ n → prodN l ≤ K ^ n
  | [], n, _, _ => Nat.one_le_pow _ _ hK
  | y :: l, 0, _, h => by simp at h
  | y :: l, n + 1, h, hn => by
    rw [Nat.pow_succ, Nat.mul_comm]
    exact Nat.mul_le_mul (h y (by simp)) (prodN_le hK (fun x hx => h x (by simp [hx])) (by simpa using hn))
/-! ### The operations of package rat where all fits -/
theorem of_fit {q : Rat} (h : ratE q = 0) : (Raw.of q).chk = 0 ∧ (Raw.of q).rat = q := ⟨Raw.of_chk h, Raw.of_rat q⟩
theorem opR_fit {a b : Raw} {q : Rat} (ha : a.chk = 0) (hb : b.chk = 0) (h : ratE q = 0) : opR a b q = Raw.of q ∧ opE a b q = 0 := by
  have e : opE a b q = 0 := by unfold opE; rw [ha, hb, h]; rfl
  exact ⟨if_pos e, e⟩
end Go.Gv
/- Shares of an axis and the weights of the vertices, in plain words. By an AI agent. -/
namespace Go.Proofs.YtppalofalmieaaaGreat
open Go Go.Gv Go.RowKit
set_option maxRecDepth 100000
set_option maxHeartbeats 1000000
/-- An axis: ascending, of small numbers. -/
structure Axis (l : List Int) : Prop where
  ne : 1 ≤ l.length
  le : l.length ≤ 32
  asc : l.Pairwise (· < ·)
  bd : ∀ z ∈ l, -50000 ≤ z ∧ z ≤ 50000
theorem Axis.lt {l : List Int} (h : Axis l) {i j : Nat} {x y : Int} (hij : i < j) (hx : l[i]? = some x) (hy : l[j]? = some y) : x < y := by
  obtain ⟨hi, rfl⟩ := List.getElem?_eq_some_iff.1 hx
  obtain ⟨hj, rfl⟩ := List.getElem?_eq_some_iff.1 hy
  exact List.pairwise_iff_getElem.1 h.asc i j hi hj hij
theorem Axis.bdi {l : List Int} (h : Axis l) {i : Nat} {x : Int} (hx : l[i]? = some x) : -50000 ≤ x ∧ x ≤ 50000 := h.bd x (List.mem_of_getElem? hx)
def clampZ (a z x : Int) : Int := if (if z < x then z else x) > a then if z < x then z else x else a
def clampL (l : List Int) (x : Int) : Int := clampZ (l.head?.getD 0) (l.getLast?.getD 0) x
theorem clamp_in {a z x : Int} (h : a ≤ z) : a ≤ clampZ a z x ∧ clampZ a z x ≤ z := by
  unfold clampZ
  split <;> split <;> omega
/-- The shares of c in an axis. -/
def ShSpec (l : List Int) (c : Int) (S : List (Nat × Rat)) : Prop :=
  (∃ k, l[k]? = some c ∧ S = [(k, 1)]) ∨ (∃ k a b, l[k]? = some a ∧ l[k + 1]? = some b ∧ a < c ∧ c < b ∧ S = [(k, mkRat (b - c) (b - a).toNat), (k + 1, mkRat (c - a) (b - a).toNat)])
def toSh (p : Nat × Rat) : ShareD := ⟨(p.1 : Int), Raw.of p.2⟩
def toWt (p : Nat × Rat) : WeightD := ⟨(p.1 : Int), Raw.of p.2⟩
theorem of_p {n d : Int} (h1 : -9223372036854775808 ≤ n ∧ n ≤ 9223372036854775807) (h2 : 0 < d ∧ d ≤ 9223372036854775807) : rat_Of_p n d = some (Raw.of (mkRat n d.toNat), 0) := by
  unfold rat_Of_p
  rw [grdT ⟨h1, ⟨by omega, h2.2⟩, by omega⟩]
  have e : decide (d < 0) = false := by simp; omega
  have e2 : (!(decide (n < 0) == decide (d < 0))) = decide (n < 0) := by rw [e]; cases decide (n < 0) <;> rfl
  rw [e2, sgn_num]
  have e3 : d.natAbs = d.toNat := by omega
  rw [e3]
theorem shares_go {l : List Int} (h : Axis l) {p1 x4 x6 : Int} (h4 : l[0]? = some x4) (h6 : l[l.length - 1]? = some x6) (J : List ShareD → Option (List ShareD)) :
    ∀ (r : List Int) (k : Nat), r = l.drop k → (∀ j y, j < k → l[j]? = some y → y < clampZ x4 x6 p1) → ∃ S, ShSpec l (clampZ x4 x6 p1) S ∧ interp_shares_l13 l p1 x4 x6 J r k = J (S.map toSh) := by
  have hle : x4 ≤ x6 := by
    rcases Nat.eq_zero_or_pos (l.length - 1) with e | e
    · rw [e] at h6; rw [h4] at h6; cases h6; exact Int.le_refl _
    · exact Int.le_of_lt (h.lt e h4 h6)
  obtain ⟨c1, c2⟩ := clamp_in (x := p1) hle
  intro r
  induction r with
  | nil =>
    intro k hk hb
    have : l.length ≤ k := by
      have := congrArg List.length hk
      simp at this
      omega
    have hne := h.ne
    have := hb (l.length - 1) x6 (by omega) h6
    omega
  | cons x r ih =>
    intro k hk hb
    obtain ⟨hkl, hr⟩ := drop_cons hk
    have hx : l[k]? = some x := by
      have := congrArg List.head? hk
      rw [List.head?_drop] at this
      exact this.symm
    have bx := h.bdi hx
    have b4 := h.bdi h4
    have b6 := h.bdi h6
    rw [interp_shares_l13]
    show ∃ S, ShSpec l (clampZ x4 x6 p1) S ∧ ((some (clampZ x4 x6 p1 == x)).bind _) = _
    rw [Option.bind_some]
    by_cases e : clampZ x4 x6 p1 = x
    · refine ⟨[(k, 1)], .inl ⟨k, by rw [e]; exact hx, rfl⟩, ?_⟩
      rw [if_pos (by simp [e]), bnds (of_p (by omega) (by omega)), grdT (by decide)]
      rfl
    · rw [if_neg (by simp [e])]
      show ∃ S, _ ∧ ((some (decide (clampZ x4 x6 p1 < x))).bind _) = _
      rw [Option.bind_some]
      by_cases e2 : clampZ x4 x6 p1 < x
      · rw [if_pos (by simp [e2])]
        have hk0 : 0 < k := by
          rcases Nat.eq_zero_or_pos k with h0 | h0
          · subst h0; rw [h4] at hx; cases hx; omega
          · exact h0
        obtain ⟨q, hq⟩ : ∃ q, l[k - 1]? = some q := ⟨l[k - 1]'(by omega), by simp⟩
        have bq := h.bdi hq
        have hqc := hb (k - 1) q (by omega) hq
        have hk32 := h.le
        have w1 : IntKind.i64.wrap ((k : Int) - 1) = ((k - 1 : Nat) : Int) := by rw [wi64 (by omega) (by omega)]; omega
        rw [bnds (ixT (k := k - 1) w1 hq)]
        show ∃ S, _ ∧ ((some (IntKind.i64.wrap (x - clampZ x4 x6 p1))).bind _) = _
        rw [Option.bind_some, wi64 (x := x - clampZ x4 x6 p1) (by omega) (by omega), wi64 (x := x - q) (by omega) (by omega), bnds (of_p (by omega) (by omega)), grdT (by decide)]
        show ∃ S, _ ∧ ((some (IntKind.i64.wrap (clampZ x4 x6 p1 - q))).bind _) = _
        rw [Option.bind_some, wi64 (x := clampZ x4 x6 p1 - q) (by omega) (by omega), bnds (of_p (by omega) (by omega)), grdT (by show (1 + 1) * 64 ≤ 140737488355328; decide), w1]
        refine ⟨[(k - 1, mkRat (x - clampZ x4 x6 p1) (x - q).toNat), (k - 1 + 1, mkRat (clampZ x4 x6 p1 - q) (x - q).toNat)], .inr ⟨k - 1, q, x, hq, by rw [Nat.sub_add_cancel hk0]; exact hx, hqc, e2, rfl⟩, ?_⟩
        rw [Nat.sub_add_cancel hk0]
        rfl
      · rw [if_neg (by simp [e2])]
        exact ih (k + 1) hr fun j y hj hy => by
          rcases Nat.lt_succ_iff_lt_or_eq.1 hj with h' | h'
          · exact hb j y h' hy
          · subst h'; rw [hx] at hy; cases hy; omega
theorem head0 {l : List Int} {x : Int} (h : l[0]? = some x) : l.head?.getD 0 = x := by
  cases l <;> simp_all
theorem last0 {l : List Int} {x : Int} (h : l[l.length - 1]? = some x) : l.getLast?.getD 0 = x := by
  rw [List.getLast?_eq_getElem?, h]; rfl
theorem shares_p {l : List Int} (h : Axis l) (x : Int) : ∃ S, ShSpec l (clampL l x) S ∧ interp_shares_p l x = some (S.map toSh) := by
  have hn := h.ne
  have hn2 := h.le
  obtain ⟨a, ha⟩ : ∃ a, l[0]? = some a := ⟨l[0]'(by omega), by simp⟩
  obtain ⟨z, hz⟩ : ∃ z, l[l.length - 1]? = some z := ⟨l[l.length - 1]'(by omega), by simp⟩
  obtain ⟨S, h1, h2⟩ := shares_go h (p1 := x) ha hz (fun v => some v) (l.drop 0) 0 rfl (fun j y hj _ => by omega)
  refine ⟨S, ?_, ?_⟩
  · rw [clampL, head0 ha, last0 hz]; exact h1
  · unfold interp_shares_p
    rw [bnds (ixT (l := l) (i := 0) (k := 0) rfl ha), bnds (ixT (k := l.length - 1) (by rw [wi64 (by omega) (by omega)]; omega) hz)]
    exact h2
/-- The shares are few, small and sum to one. -/
theorem ShSpec.db {l : List Int} (h : Axis l) {c : Int} {S : List (Nat × Rat)} (hs : ShSpec l c S) : S.length ≤ 2 ∧ (∀ s ∈ S, s.1 < l.length) ∧ ∃ d, d ≠ 0 ∧ d ≤ 100000 ∧ ∀ s ∈ S, DB d d s.2 := by
  rcases hs with ⟨k, h1, rfl⟩ | ⟨k, a, b, h1, h2, h3, h4, rfl⟩
  · refine ⟨by simp, fun s hs => ?_, 1, by decide, by decide, fun s hs => ?_⟩
    · rw [List.mem_singleton.1 hs]; exact (List.getElem?_eq_some_iff.1 h1).1
    · rw [List.mem_singleton.1 hs]; exact ⟨1, rfl, Nat.le_refl _⟩
  · have ba := h.bdi h1
    have bb := h.bdi h2
    refine ⟨by simp, fun s hs => ?_, (b - a).toNat, by omega, by omega, fun s hs => ?_⟩
    · rcases List.mem_cons.1 hs with rfl | hs
      · exact (List.getElem?_eq_some_iff.1 h1).1
      · rw [List.mem_singleton.1 hs]; exact (List.getElem?_eq_some_iff.1 h2).1
    · rcases List.mem_cons.1 hs with rfl | hs
      · exact ⟨_, rfl, by omega⟩
      · rw [List.mem_singleton.1 hs]; exact ⟨_, rfl, by omega⟩
/-! ### Weights -/
def wstep (len : Nat) (W S : List (Nat × Rat)) : List (Nat × Rat) := W.flatMap fun p => S.map fun s => (p.1 * len + s.1, p.2 * s.2)
theorem wstep_nil (len : Nat) (S : List (Nat × Rat)) : wstep len [] S = [] := rfl
theorem wstep_cons (len : Nat) (p : Nat × Rat) (W S : List (Nat × Rat)) : wstep len (p :: W) S = (S.map fun s => (p.1 * len + s.1, p.2 * s.2)) ++ wstep len W S := by simp [wstep]
theorem wstep_len {len : Nat} {S : List (Nat × Rat)} (hs : S.length ≤ 2) : ∀ {W : List (Nat × Rat)} {n : Nat}, W.length ≤ n → (wstep len W S).length ≤ 2 * n
  | [], n, _ => by simp [wstep_nil]
  | p :: W, 0, h => by simp at h
  | p :: W, n + 1, h => by
    rw [wstep_cons, List.length_append, List.length_map]
    have := wstep_len (len := len) hs (W := W) (n := n) (by simpa using h)
    omega
theorem wstep_db {len D B d b : Nat} {W S : List (Nat × Rat)} (hw : ∀ p ∈ W, DB D B p.2) (hs : ∀ s ∈ S, DB d b s.2) : ∀ q ∈ wstep len W S, DB (D * d) (B * b) q.2 := by
  intro q hq
  obtain ⟨p, hp, hq⟩ := List.mem_flatMap.1 hq
  obtain ⟨s, h1, rfl⟩ := List.mem_map.1 hq
  exact (hw p hp).mul (hs s h1)
theorem wstep_lt {len N : Nat} {W S : List (Nat × Rat)} (hw : ∀ p ∈ W, p.1 < N) (hs : ∀ s ∈ S, s.1 < len) : ∀ q ∈ wstep len W S, q.1 < N * len := by
  intro q hq
  obtain ⟨p, hp, hq⟩ := List.mem_flatMap.1 hq
  obtain ⟨s, h1, rfl⟩ := List.mem_map.1 hq
  have a := hw p hp
  have c := hs s h1
  show p.1 * len + s.1 < N * len
  calc p.1 * len + s.1 < p.1 * len + len := by omega
    _ = (p.1 + 1) * len := by rw [Nat.succ_mul]
    _ ≤ N * len := Nat.mul_le_mul_right _ a
theorem l34 {l : List Int} {p : Nat × Rat} (J : List WeightD → Option (List WeightD × Int)) (hp : ratE p.2 = 0) : ∀ (S : List (Nat × Rat)) (acc : List WeightD), acc.length + S.length ≤ 1000 → (∀ s ∈ S, ratE s.2 = 0 ∧ ratE (p.2 * s.2) = 0 ∧ p.1 * l.length + s.1 < 100000) →
    interp_Weights_l34 l (toWt p) J (S.map toSh) acc = J (acc ++ (S.map fun s => toWt (p.1 * l.length + s.1, p.2 * s.2)))
  | [], acc, _, _ => by simp [interp_Weights_l34]
  | s :: S, acc, hl, hs => by
    obtain ⟨h1, h2, h3⟩ := hs s (by simp)
    rw [List.map_cons, interp_Weights_l34]
    have e : rat_Mul_p (toWt p).w (toSh s).w = some (Raw.of (p.2 * s.2), 0) := by
      unfold rat_Mul_p
      rw [show (toWt p).w = Raw.of p.2 from rfl, show (toSh s).w = Raw.of s.2 from rfl, Raw.of_rat, Raw.of_rat, (opR_fit (of_fit hp).1 (of_fit h1).1 h2).1, (opR_fit (of_fit hp).1 (of_fit h1).1 h2).2]
    rw [bnds e, grdT (by simp at hl; omega)]
    have w : IntKind.i64.wrap (IntKind.i64.wrap ((toWt p).vertex * (l.length : Int)) + (toSh s).index) = ((p.1 * l.length + s.1 : Nat) : Int) := by
      show IntKind.i64.wrap (IntKind.i64.wrap ((p.1 : Int) * (l.length : Int)) + (s.1 : Int)) = _
      obtain ⟨t, ht⟩ : ∃ t, t = p.1 * l.length := ⟨_, rfl⟩
      rw [← ht] at h3
      rw [← Int.natCast_mul, ← ht, wi64 (x := (t : Int)) (by omega) (by omega), wi64 (by omega) (by omega)]
      simp
    rw [w, l34 J hp S _ (by simp at hl ⊢; omega) fun s hs' => hs s (by simp [hs'])]
    simp [toWt]
theorem l21 {l : List Int} {p1 : List Int} {k : Nat} {z : Int} {S : List (Nat × Rat)} (J : List WeightD → Option (List WeightD × Int)) (hz : p1[k]? = some z) (hS : interp_shares_p l z = some (S.map toSh)) (hs : ∀ s ∈ S, ratE s.2 = 0) (h2 : S.length ≤ 2) :
    ∀ (W : List (Nat × Rat)) (acc : List WeightD), acc.length + 2 * W.length ≤ 1000 → (∀ p ∈ W, ratE p.2 = 0 ∧ ∀ s ∈ S, ratE (p.2 * s.2) = 0 ∧ p.1 * l.length + s.1 < 100000) →
    interp_Weights_l21 p1 k l J (W.map toWt) acc = J (acc ++ (wstep l.length W S).map toWt)
  | [], acc, _, _ => by simp [interp_Weights_l21, wstep_nil]
  | p :: W, acc, hl, hw => by
    obtain ⟨g1, g2⟩ := hw p (by simp)
    rw [List.map_cons, interp_Weights_l21, lt, bnds (ixT (k := k) rfl hz), bnds hS, List.drop_zero, l34 _ g1 S acc (by simp at hl; omega) fun s h => ⟨hs s h, g2 s h⟩]
    rw [l21 J hz hS hs h2 W _ (by simp at hl ⊢; omega) fun q hq => hw q (by simp [hq]), wstep_cons, List.map_append, List.append_assoc, List.map_map]
    rfl
theorem k128 : 1000000000000000 < K128 := by
  refine Nat.lt_of_lt_of_le (show 1000000000000000 < 4294967296 ^ 2 by decide) ?_
  exact Nat.pow_le_pow_right (by decide) (by decide)
/-- The weights of a situation. -/
def WSpec (a b c : List Int) (x y z : Int) (W : List (Nat × Rat)) : Prop :=
  ∃ Sa Sb Sc, ShSpec a (clampL a x) Sa ∧ ShSpec b (clampL b y) Sb ∧ ShSpec c (clampL c z) Sc ∧ W = wstep c.length (wstep b.length (wstep a.length [(0, 1)] Sa) Sb) Sc
theorem WSpec.db {a b c : List Int} (ha : Axis a) (hb : Axis b) (hc : Axis c) {x y z : Int} {W : List (Nat × Rat)} (h : WSpec a b c x y z W) : W.length ≤ 8 ∧ (∀ p ∈ W, p.1 < a.length * b.length * c.length) ∧ ∃ d, d ≠ 0 ∧ d ≤ 1000000000000000 ∧ ∀ p ∈ W, DB d d p.2 := by
  obtain ⟨Sa, Sb, Sc, h1, h2, h3, rfl⟩ := h
  obtain ⟨a1, a2, da, a3, a4, a5⟩ := h1.db ha
  obtain ⟨b1, b2, db, b3, b4, b5⟩ := h2.db hb
  obtain ⟨c1, c2, dc, c3, c4, c5⟩ := h3.db hc
  refine ⟨?_, ?_, (1 * da) * db * dc, ?_, ?_, ?_⟩
  · exact wstep_len c1 (wstep_len b1 (wstep_len a1 (n := 1) (by simp)))
  · have := wstep_lt (wstep_lt (wstep_lt (N := 1) (W := [(0, 1)]) (fun p hp => by rw [List.mem_singleton.1 hp]; decide) a2) b2) c2
    simpa using this
  · exact Nat.mul_ne_zero (Nat.mul_ne_zero (Nat.mul_ne_zero (by decide) a3) b3) c3
  · have e1 : 1 * da * db ≤ 1 * 100000 * 100000 := Nat.mul_le_mul (Nat.mul_le_mul (Nat.le_refl _) a4) b4
    exact Nat.le_trans (Nat.mul_le_mul e1 c4) (by decide)
  · exact wstep_db (wstep_db (wstep_db (D := 1) (B := 1) (fun p hp => by rw [List.mem_singleton.1 hp]; exact ⟨1, rfl, Nat.le_refl _⟩) a5) b5) c5
theorem weights_p {a b c : List Int} (ha : Axis a) (hb : Axis b) (hc : Axis c) (hck : interp_Check_p [a, b, c] = some 0) (x y z : Int) : ∃ W, WSpec a b c x y z W ∧ interp_Weights_p [a, b, c] [x, y, z] = some (W.map toWt, 0) := by
  obtain ⟨Sa, h1, e1⟩ := shares_p ha x
  obtain ⟨Sb, h2, e2⟩ := shares_p hb y
  obtain ⟨Sc, h3, e3⟩ := shares_p hc z
  refine ⟨_, ⟨Sa, Sb, Sc, h1, h2, h3, rfl⟩, ?_⟩
  obtain ⟨a1, a2, da, a3, a4, a5⟩ := h1.db ha
  obtain ⟨b1, b2, db, b3, b4, b5⟩ := h2.db hb
  obtain ⟨c1, c2, dc, c3, c4, c5⟩ := h3.db hc
  have la := ha.le
  have lb := hb.le
  have lc := hc.le
  have w1 : ∀ p ∈ [((0 : Nat), (1 : Rat))], DB 1 1 p.2 := fun p hp => by rw [List.mem_singleton.1 hp]; exact ⟨1, rfl, Nat.le_refl _⟩
  have w2 := wstep_db (len := a.length) w1 a5
  have w3 := wstep_db (len := b.length) w2 b5
  have w4 := wstep_db (len := c.length) w3 c5
  have v1 : ∀ p ∈ [((0 : Nat), (1 : Rat))], p.1 < 1 := fun p hp => by rw [List.mem_singleton.1 hp]; decide
  have v2 := wstep_lt v1 a2
  have v3 := wstep_lt v2 b2
  have v4 := wstep_lt v3 c2
  have n2 := wstep_len (len := a.length) a1 (W := [((0 : Nat), (1 : Rat))]) (n := 1) (by simp)
  have n3 := wstep_len (len := b.length) b1 n2
  have m1 : 1 * a.length ≤ 32 := by omega
  have m2 : 1 * a.length * b.length ≤ 32 * 32 := Nat.mul_le_mul m1 lb
  have m3 : 1 * a.length * b.length * c.length ≤ 32 * 32 * 32 := Nat.mul_le_mul m2 lc
  have d1 : 1 * da ≤ 100000 := by omega
  have d2 : 1 * da * db ≤ 100000 * 100000 := Nat.mul_le_mul d1 b4
  have d3 : 1 * da * db * dc ≤ 100000 * 100000 * 100000 := Nat.mul_le_mul d2 c4
  have kk := k128
  have fz : ∀ {d : Nat} {q : Rat}, d ≤ 1000000000000000 → DB d d q → ratE q = 0 := fun hd h => h.fit (Nat.lt_of_le_of_lt hd kk) (Nat.lt_of_le_of_lt hd kk)
  unfold interp_Weights_p
  rw [bnds hck, if_neg (by decide), if_neg (by simp), show rat_From_p (1 : Int) = some (Raw.of ((1 : Int) : Rat)) from grdT (by decide), Option.bind_some, lt]
  show interp_Weights_l14 [x, y, z] _ [a, b, c] 0 ([((0 : Nat), (1 : Rat))].map toWt) = _
  rw [interp_Weights_l14, lt, List.drop_zero, l21 _ (z := x) rfl e1 (fun s h => fz (by omega) (a5 s h)) a1 _ _ (by simp) fun p hp => ⟨fz (by omega) (w1 p hp), fun s h => ⟨fz (by omega) ((w1 p hp).mul (a5 s h)), by
    have := v2 (p.1 * a.length + s.1, p.2 * s.2) (List.mem_flatMap.2 ⟨p, hp, List.mem_map.2 ⟨s, h, rfl⟩⟩)
    simp only [] at this; omega⟩⟩, List.nil_append]
  rw [interp_Weights_l14, lt, List.drop_zero, l21 _ (z := y) rfl e2 (fun s h => fz (by omega) (b5 s h)) b1 _ _ (by simp; omega) fun p hp => ⟨fz (by omega) (w2 p hp), fun s h => ⟨fz (by omega) ((w2 p hp).mul (b5 s h)), by
    have := v3 (p.1 * b.length + s.1, p.2 * s.2) (List.mem_flatMap.2 ⟨p, hp, List.mem_map.2 ⟨s, h, rfl⟩⟩)
    simp only [] at this; omega⟩⟩, List.nil_append]
  rw [interp_Weights_l14, lt, List.drop_zero, l21 _ (z := z) rfl e3 (fun s h => fz (by omega) (c5 s h)) c1 _ _ (by simp; omega) fun p hp => ⟨fz (by omega) (w3 p hp), fun s h => ⟨fz (by omega) ((w3 p hp).mul (c5 s h)), by
    have := v4 (p.1 * c.length + s.1, p.2 * s.2) (List.mem_flatMap.2 ⟨p, hp, List.mem_map.2 ⟨s, h, rfl⟩⟩)
    simp only [] at this; omega⟩⟩, List.nil_append]
  rw [interp_Weights_l14]
end Go.Proofs.YtppalofalmieaaaGreat
/- What spread answers, in plain words. By an AI agent. -/
namespace Go.Proofs.YtppalofalmieaaaGreat
open Go Go.Gv Go.RowKit
set_option maxRecDepth 100000
set_option maxHeartbeats 1000000
theorem Axis.inj {l : List Int} (h : Axis l) {i j : Nat} {x : Int} (hx : l[i]? = some x) (hy : l[j]? = some x) : i = j := by
  rcases Nat.lt_trichotomy i j with e | e | e
  · exact absurd (h.lt e hx hy) (Int.lt_irrefl _)
  · exact e
  · exact absurd (h.lt e hy hx) (Int.lt_irrefl _)
theorem Axis.mid {l : List Int} (h : Axis l) {k j : Nat} {a b c : Int} (h1 : l[k]? = some a) (h2 : l[k + 1]? = some b) (h3 : a < c) (h4 : c < b) (hc : l[j]? = some c) : False := by
  rcases Nat.lt_trichotomy j k with e | e | e
  · have := h.lt e hc h1; omega
  · subst e; rw [hc] at h1; cases h1; omega
  · rcases Nat.lt_or_eq_of_le (Nat.succ_le_of_lt e) with e2 | e2
    · have := h.lt e2 h2 hc; omega
    · have e3 : j = k + 1 := by omega
      subst e3; rw [hc] at h2; cases h2; omega
theorem Axis.mid2 {l : List Int} (h : Axis l) {k j : Nat} {a b a' b' c : Int} (h1 : l[k]? = some a) (h2 : l[k + 1]? = some b) (h3 : a < c) (h4 : c < b) (k1 : l[j]? = some a') (k2 : l[j + 1]? = some b') (k3 : a' < c) (k4 : c < b') : ¬ k < j := by
  intro e
  rcases Nat.lt_or_eq_of_le (Nat.succ_le_of_lt e) with e2 | e2
  · have := h.lt e2 h2 k1; omega
  · have e3 : j = k + 1 := by omega
    subst e3; rw [k1] at h2; cases h2; omega
theorem ShSpec.unique {l : List Int} (h : Axis l) {c : Int} {S S' : List (Nat × Rat)} (h1 : ShSpec l c S) (h2 : ShSpec l c S') : S = S' := by
  rcases h1 with ⟨k, a1, rfl⟩ | ⟨k, a, b, a1, a2, a3, a4, rfl⟩
  · rcases h2 with ⟨j, b1, rfl⟩ | ⟨j, a', b', b1, b2, b3, b4, rfl⟩
    · rw [h.inj a1 b1]
    · exact (h.mid b1 b2 b3 b4 a1).elim
  · rcases h2 with ⟨j, b1, rfl⟩ | ⟨j, a', b', b1, b2, b3, b4, rfl⟩
    · exact (h.mid a1 a2 a3 a4 b1).elim
    · have e : k = j := by
        have e1 := h.mid2 a1 a2 a3 a4 b1 b2 b3 b4
        have e2 := h.mid2 b1 b2 b3 b4 a1 a2 a3 a4
        omega
      subst e
      rw [a1] at b1; cases b1
      rw [a2] at b2; cases b2
      rfl
theorem WSpec.unique {a b c : List Int} (ha : Axis a) (hb : Axis b) (hc : Axis c) {x y z : Int} {W W' : List (Nat × Rat)} (h : WSpec a b c x y z W) (k : WSpec a b c x y z W') : W = W' := by
  obtain ⟨Sa, Sb, Sc, h1, h2, h3, rfl⟩ := h
  obtain ⟨Ta, Tb, Tc, k1, k2, k3, rfl⟩ := k
  rw [h1.unique ha k1, h2.unique hb k2, h3.unique hc k3]
noncomputable def Wf (a b c : List Int) (x y z : Int) : List (Nat × Rat) := Classical.epsilon (WSpec a b c x y z)
theorem Wf_spec {a b c : List Int} (ha : Axis a) (hb : Axis b) (hc : Axis c) (hck : interp_Check_p [a, b, c] = some 0) (x y z : Int) : WSpec a b c x y z (Wf a b c x y z) ∧ interp_Weights_p [a, b, c] [x, y, z] = some ((Wf a b c x y z).map toWt, 0) := by
  obtain ⟨W, h1, h2⟩ := weights_p ha hb hc hck x y z
  have h3 : WSpec a b c x y z (Wf a b c x y z) := Classical.epsilon_spec ⟨W, h1⟩
  exact ⟨h3, by rw [h3.unique ha hb hc h1]; exact h2⟩
/-! ### Maps of sums -/
def addK (m : List (Int × Rat)) (t : Int × Rat) : List (Int × Rat) := putP t.1 (getP t.1 0 m + t.2) m
def mapR (m : List (Int × Rat)) : List (Int × Raw) := m.map fun p => (p.1, Raw.of p.2)
theorem of0 : Raw.of 0 = Raw.zero := by kernel_rfl
theorem getP_map (k : Int) : ∀ m : List (Int × Rat), getP k Raw.zero (mapR m) = Raw.of (getP k 0 m)
  | [] => of0.symm
  | p :: m => by
    show (bif k == p.1 then Raw.of p.2 else getP k Raw.zero (mapR m)) = Raw.of (bif k == p.1 then p.2 else getP k 0 m)
    rw [getP_map k m]
    cases k == p.1 <;> rfl
theorem putP_map (k : Int) (q : Rat) : ∀ m : List (Int × Rat), putP k (Raw.of q) (mapR m) = mapR (putP k q m)
  | [] => rfl
  | p :: m => by
    show (bif k == p.1 then (k, Raw.of q) :: mapR m else (p.1, Raw.of p.2) :: putP k (Raw.of q) (mapR m)) = mapR (bif k == p.1 then (k, q) :: m else p :: putP k q m)
    rw [putP_map k q m]
    cases k == p.1 <;> rfl
theorem beqT {k j : Int} (h : k = j) : (k == j) = true := by simpa using h
theorem beqF {k j : Int} (h : ¬ k = j) : (k == j) = false := by simpa using h
theorem getP_put {α : Type} (k j : Int) (z v : α) : ∀ m : List (Int × α), getP k z (putP j v m) = if k = j then v else getP k z m
  | [] => by
    show (bif k == j then v else z) = if k = j then v else z
    by_cases h : k = j
    · rw [beqT h, if_pos h]; rfl
    · rw [beqF h, if_neg h]; rfl
  | p :: m => by
    show getP k z (bif j == p.1 then (j, v) :: m else p :: putP j v m) = if k = j then v else (bif k == p.1 then p.2 else getP k z m)
    by_cases h : j = p.1
    · rw [beqT h, cond_true]
      show (bif k == j then v else getP k z m) = _
      by_cases h2 : k = j
      · rw [beqT h2, if_pos h2]; rfl
      · have h3 : ¬ k = p.1 := h ▸ h2
        rw [beqF h2, if_neg h2, beqF h3]; rfl
    · rw [beqF h, cond_false]
      show (bif k == p.1 then p.2 else getP k z (putP j v m)) = _
      rw [getP_put k j z v m]
      by_cases h2 : k = p.1
      · have h3 : ¬ k = j := fun e => h (e ▸ h2)
        rw [beqT h2, cond_true, cond_true, if_neg h3]
      · rw [beqF h2, cond_false, cond_false]
theorem keys_put {α : Type} (j : Int) (v : α) : ∀ m : List (Int × α), (putP j v m).map Prod.fst = if j ∈ m.map Prod.fst then m.map Prod.fst else m.map Prod.fst ++ [j]
  | [] => rfl
  | p :: m => by
    show (bif j == p.1 then (j, v) :: m else p :: putP j v m).map Prod.fst = _
    by_cases h : j = p.1
    · simp [h]
    · rw [show (j == p.1) = false by simp [h], cond_false, List.map_cons, keys_put j v m, List.map_cons]
      by_cases h2 : j ∈ m.map Prod.fst
      · rw [if_pos h2, if_pos (List.mem_cons_of_mem _ h2)]
      · rw [if_neg h2, if_neg (by simp only [List.mem_cons, not_or]; exact ⟨h, h2⟩), List.cons_append]
def sumAt (k : Int) : List (Int × Rat) → Rat
  | [] => 0
  | t :: l => (if t.1 = k then t.2 else 0) + sumAt k l
theorem getP_fold (k : Int) : ∀ (T m : List (Int × Rat)), getP k 0 (T.foldl addK m) = getP k 0 m + sumAt k T
  | [], m => by simp [sumAt, Rat.add_zero]
  | t :: T, m => by
    rw [List.foldl_cons, getP_fold k T, addK, getP_put, sumAt]
    by_cases h : k = t.1
    · subst h; simp only [if_true]; rw [Rat.add_assoc]
    · rw [if_neg h, if_neg (fun e => h e.symm), Rat.zero_add]
theorem keys_fold : ∀ (T m : List (Int × Rat)), (m.map Prod.fst).Nodup → ((T.foldl addK m).map Prod.fst).Nodup ∧ ∀ k, k ∈ (T.foldl addK m).map Prod.fst ↔ k ∈ m.map Prod.fst ∨ k ∈ T.map Prod.fst
  | [], m, h => ⟨h, fun k => by simp⟩
  | t :: T, m, h => by
    have hn : ((addK m t).map Prod.fst).Nodup := by
      rw [addK, keys_put]
      split
      · exact h
      · rename_i h2; exact List.nodup_append.2 ⟨h, by simp, fun a ha b hb => by rw [List.mem_singleton.1 hb]; exact fun e => h2 (e ▸ ha)⟩
    obtain ⟨h1, h2⟩ := keys_fold T (addK m t) hn
    refine ⟨h1, fun k => ?_⟩
    rw [List.foldl_cons, h2 k, addK, keys_put, List.map_cons, List.mem_cons]
    split
    · rename_i h3
      constructor
      · rintro (h4 | h4)
        · exact .inl h4
        · exact .inr (.inr h4)
      · rintro (h4 | rfl | h4)
        · exact .inl h4
        · exact .inl h3
        · exact .inr h4
    · rw [List.mem_append, List.mem_singleton]
      constructor
      · rintro ((h4 | rfl) | h4)
        · exact .inl h4
        · exact .inr (.inl rfl)
        · exact .inr (.inr h4)
      · rintro (h4 | rfl | h4)
        · exact .inl (.inl h4)
        · exact .inl (.inr rfl)
        · exact .inr h4
/-! ### spread -/
def keyZ (n : Nat) (b : Int) (v : Nat) : Int := ((v * n : Nat) : Int) + b
theorem l72 {x : ModelD} {b : Int} {pq : Rat} {e : Int} {D B : Nat} (J : List (Int × Raw) → Option (List Out × Int)) (ha : x.advisories.length ≤ 6) (hb : 0 ≤ b ∧ b < 6) (hpq : ratE pq = 0) (hD0 : D ≠ 0) (hD : D < K128) : ∀ (W : List (Nat × Rat)) (m : List (Int × Rat)) (n : Nat), (∀ w ∈ W, ratE w.2 = 0 ∧ ratE (pq * w.2) = 0 ∧ DB D B (pq * w.2) ∧ w.1 < 100000) → (∀ k, DB D (B * n) (getP k 0 m)) → B * (n + W.length) < K128 →
    dynamics_spread_l72 x b (Raw.of pq, e) J (W.map toWt) (mapR m) = J (mapR ((W.map fun w => (keyZ x.advisories.length b w.1, pq * w.2)).foldl addK m)) ∧ ∀ k, DB D (B * (n + W.length)) (getP k 0 ((W.map fun w => (keyZ x.advisories.length b w.1, pq * w.2)).foldl addK m))
  | [], m, n, _, hm, _ => ⟨by simp [dynamics_spread_l72], fun k => hm k⟩
  | w :: W, m, n, hw, hm, hB => by
    obtain ⟨w1, w2, w3, w4⟩ := hw w (by simp)
    have hB1 : B * (n + 1) ≤ B * (n + (w :: W).length) := Nat.mul_le_mul_left _ (by simp)
    have hB0 : B * n ≤ B * (n + (w :: W).length) := Nat.mul_le_mul_left _ (by simp)
    have hadd := (hm (keyZ x.advisories.length b w.1)).add hD0 w3
    have hadd' : DB D (B * (n + 1)) (getP (keyZ x.advisories.length b w.1) 0 m + pq * w.2) := by rw [Nat.mul_succ]; exact hadd
    have hm' : ∀ k, DB D (B * (n + 1)) (getP k 0 (addK m (keyZ x.advisories.length b w.1, pq * w.2))) := fun k => by
      rw [addK, getP_put]
      split
      · exact hadd'
      · exact (hm k).mono (Nat.mul_le_mul_left _ (by omega))
    obtain ⟨i1, i2⟩ := l72 J ha hb hpq hD0 hD W (addK m (keyZ x.advisories.length b w.1, pq * w.2)) (n + 1) (fun q hq => hw q (by simp [hq])) hm' (by rw [show n + 1 + W.length = n + (w :: W).length by simp; omega]; exact hB)
    refine ⟨?_, fun k => ?_⟩
    · rw [List.map_cons, dynamics_spread_l72]
      have e1 : rat_Mul_p (Raw.of pq, e).1 (toWt w).w = some (Raw.of (pq * w.2), 0) := by
        unfold rat_Mul_p
        rw [show (toWt w).w = Raw.of w.2 from rfl, Raw.of_rat, Raw.of_rat, (opR_fit (of_fit hpq).1 (of_fit w1).1 w2).1, (opR_fit (of_fit hpq).1 (of_fit w1).1 w2).2]
      have ek : IntKind.i64.wrap (IntKind.i64.wrap ((toWt w).vertex * (x.advisories.length : Int)) + b) = keyZ x.advisories.length b w.1 := by
        show IntKind.i64.wrap (IntKind.i64.wrap ((w.1 : Int) * (x.advisories.length : Int)) + b) = _
        have hle : w.1 * x.advisories.length ≤ 100000 * 6 := Nat.mul_le_mul (Nat.le_of_lt w4) ha
        unfold keyZ
        obtain ⟨t, ht⟩ : ∃ t, t = w.1 * x.advisories.length := ⟨_, rfl⟩
        rw [← ht] at hle ⊢
        rw [← Int.natCast_mul, ← ht, wi64 (x := (t : Int)) (by omega) (by omega), wi64 (by omega) (by omega)]
      have hkr : -9223372036854775808 ≤ keyZ x.advisories.length b w.1 ∧ keyZ x.advisories.length b w.1 ≤ 9223372036854775807 := by
        have hle : w.1 * x.advisories.length ≤ 100000 * 6 := Nat.mul_le_mul (Nat.le_of_lt w4) ha
        unfold keyZ
        omega
      have f0 : ratE (getP (keyZ x.advisories.length b w.1) 0 m) = 0 := (hm _).fit hD (Nat.lt_of_le_of_lt hB0 hB)
      have f1 : ratE (getP (keyZ x.advisories.length b w.1) 0 m + pq * w.2) = 0 := hadd'.fit hD (Nat.lt_of_le_of_lt hB1 hB)
      rw [bnds e1, ek]
      show ((some (getP (keyZ x.advisories.length b w.1) Raw.zero (mapR m))).bind _) = _
      rw [Option.bind_some, getP_map]
      have e2 : rat_Add_p (Raw.of (getP (keyZ x.advisories.length b w.1) 0 m)) (Raw.of (pq * w.2)) = some (Raw.of (getP (keyZ x.advisories.length b w.1) 0 m + pq * w.2), 0) := by
        unfold rat_Add_p
        rw [Raw.of_rat, Raw.of_rat, (opR_fit (of_fit f0).1 (of_fit w2).1 f1).1, (opR_fit (of_fit f0).1 (of_fit w2).1 f1).2]
      show ((rat_Add_p (Raw.of (getP (keyZ x.advisories.length b w.1) 0 m)) (Raw.of (pq * w.2))).bind _) = _
      rw [bnds e2, grdT hkr]
      show dynamics_spread_l72 x b (Raw.of pq, e) J (W.map toWt) (putP _ (Raw.of _) (mapR m)) = _
      rw [putP_map]
      exact i1
    · rw [List.map_cons, List.foldl_cons, show n + (w :: W).length = n + 1 + W.length by simp; omega]
      exact i2 k
/-- A noise whose number is good. -/
structure NZ (n : NoiseD) : Prop where
  chk : n.p.chk = 0
  db : DB n.p.d (2 ^ 256) n.p.rat
  d : n.p.d ≤ 2 ^ 256
  lo : -100 ≤ n.delta
  hi : n.delta ≤ 100
structure Env (x : ModelD) (h u v b r : Int) : Prop where
  h1 : Axis x.height
  h2 : Axis x.own
  h3 : Axis x.other
  ck : interp_Check_p [x.height, x.own, x.other] = some 0
  a0 : 1 ≤ x.advisories.length
  a : x.advisories.length ≤ 6
  b0 : 0 ≤ b
  b1 : b < 6
  rr : dynamics_respond_p x u b = some r
  r0 : -1000 ≤ r
  r1 : r ≤ 1000
  hb : -100000 ≤ h ∧ h ≤ 100000
  ub : -100 ≤ u ∧ u ≤ 100
  vb : -100 ≤ v ∧ v ≤ 100
  o1 : ∀ n ∈ x.ownNoise, NZ n
  o2 : ∀ n ∈ x.otherNoise, NZ n
  l1 : x.ownNoise.length ≤ 5
  l2 : x.otherNoise.length ≤ 5
/-- The terms of one pair of noises. -/
noncomputable def pairT (x : ModelD) (h u v b r : Int) (n o : NoiseD) : List (Int × Rat) :=
  (Wf x.height x.own x.other (h + v - u) (r + n.delta) (v + o.delta)).map fun w => (keyZ x.advisories.length b w.1, n.p.rat * o.p.rat * w.2)
noncomputable def termsT (x : ModelD) (h u v b r : Int) : List (Int × Rat) := x.ownNoise.flatMap fun n => x.otherNoise.flatMap fun o => pairT x h u v b r n o
section
variable {x : ModelD} {h u v b r : Int}
/-- Denominators of the shares. -/
theorem Env.dens (E : Env x h u v b r) : ∃ (da : Nat) (fo ft : NoiseD → Nat), (da ≠ 0 ∧ da ≤ 100000) ∧ (∀ n, fo n ≠ 0 ∧ fo n ≤ 100000) ∧ (∀ n, ft n ≠ 0 ∧ ft n ≤ 100000) ∧ ∀ n o, ∀ w ∈ Wf x.height x.own x.other (h + v - u) (r + n.delta) (v + o.delta), DB (da * fo n * ft o) (da * fo n * ft o) w.2 := by
  have key : ∀ (l : List Int) (hl : Axis l) (c : Int), ∃ d, (d ≠ 0 ∧ d ≤ 100000) ∧ ∀ S, ShSpec l (clampL l c) S → ∀ s ∈ S, DB d d s.2 := fun l hl c => by
    obtain ⟨S, h1, _⟩ := shares_p hl c
    obtain ⟨_, _, d, h2, h3, h4⟩ := h1.db hl
    exact ⟨d, ⟨h2, h3⟩, fun T hT => by rw [hT.unique hl h1]; exact h4⟩
  obtain ⟨da, k1, k2⟩ := key _ E.h1 (h + v - u)
  obtain ⟨fo, k3⟩ := Classical.skolem.1 fun n : NoiseD => key _ E.h2 (r + n.delta)
  obtain ⟨ft, k4⟩ := Classical.skolem.1 fun n : NoiseD => key _ E.h3 (v + n.delta)
  refine ⟨da, fo, ft, k1, fun n => (k3 n).1, fun n => (k4 n).1, fun n o => ?_⟩
  obtain ⟨Sa, Sb, Sc, s1, s2, s3, e⟩ := (Wf_spec E.h1 E.h2 E.h3 E.ck (h + v - u) (r + n.delta) (v + o.delta)).1
  rw [e]
  have := wstep_db (len := x.other.length) (wstep_db (len := x.own.length) (wstep_db (len := x.height.length) (D := 1) (B := 1) (W := [(0, 1)]) (fun p hp => by rw [List.mem_singleton.1 hp]; exact ⟨1, rfl, Nat.le_refl _⟩) (k2 Sa s1)) ((k3 n).2 Sb s2)) ((k4 o).2 Sc s3)
  simpa only [Nat.one_mul] using this
/-- One denominator for all. -/
theorem Env.common (E : Env x h u v b r) : ∃ D B : Nat, D ≠ 0 ∧ D < K128 ∧ B * 200 < K128 ∧ ∀ n ∈ x.ownNoise, ∀ o ∈ x.otherNoise, ratE (n.p.rat * o.p.rat) = 0 ∧ ∀ w ∈ Wf x.height x.own x.other (h + v - u) (r + n.delta) (v + o.delta), ratE w.2 = 0 ∧ ratE (n.p.rat * o.p.rat * w.2) = 0 ∧ DB D B (n.p.rat * o.p.rat * w.2) ∧ w.1 < 100000 := by
  obtain ⟨da, fo, ft, k1, k2, k3, k4⟩ := E.dens
  obtain ⟨D, hD⟩ : ∃ D, D = prodN (x.ownNoise.map (·.p.d)) * prodN (x.otherNoise.map (·.p.d)) * (da * prodN (x.ownNoise.map fo) * prodN (x.otherNoise.map ft)) := ⟨_, rfl⟩
  have p1 : prodN (x.ownNoise.map (·.p.d)) ≤ (2 ^ 256) ^ 5 := prodN_le (by decide) (fun y hy => by obtain ⟨n, hn, rfl⟩ := List.mem_map.1 hy; exact (E.o1 n hn).d) (by simpa using E.l1)
  have p2 : prodN (x.otherNoise.map (·.p.d)) ≤ (2 ^ 256) ^ 5 := prodN_le (by decide) (fun y hy => by obtain ⟨n, hn, rfl⟩ := List.mem_map.1 hy; exact (E.o2 n hn).d) (by simpa using E.l2)
  have p3 : prodN (x.ownNoise.map fo) ≤ 100000 ^ 5 := prodN_le (by decide) (fun y hy => by obtain ⟨n, hn, rfl⟩ := List.mem_map.1 hy; exact (k2 n).2) (by simpa using E.l1)
  have p4 : prodN (x.otherNoise.map ft) ≤ 100000 ^ 5 := prodN_le (by decide) (fun y hy => by obtain ⟨n, hn, rfl⟩ := List.mem_map.1 hy; exact (k3 n).2) (by simpa using E.l2)
  have hD0 : D ≠ 0 := by
    rw [hD]
    refine Nat.mul_ne_zero (Nat.mul_ne_zero ?_ ?_) (Nat.mul_ne_zero (Nat.mul_ne_zero k1.1 ?_) ?_)
    · exact prodN_pos fun y hy => by obtain ⟨n, hn, rfl⟩ := List.mem_map.1 hy; exact Nat.ne_of_gt (Raw.d_pos _)
    · exact prodN_pos fun y hy => by obtain ⟨n, hn, rfl⟩ := List.mem_map.1 hy; exact Nat.ne_of_gt (Raw.d_pos _)
    · exact prodN_pos fun y hy => by obtain ⟨n, hn, rfl⟩ := List.mem_map.1 hy; exact (k2 n).1
    · exact prodN_pos fun y hy => by obtain ⟨n, hn, rfl⟩ := List.mem_map.1 hy; exact (k3 n).1
  have hDle : D ≤ (2 ^ 256) ^ 5 * (2 ^ 256) ^ 5 * (100000 * 100000 ^ 5 * 100000 ^ 5) := by
    rw [hD]
    exact Nat.mul_le_mul (Nat.mul_le_mul p1 p2) (Nat.mul_le_mul (Nat.mul_le_mul k1.2 p3) p4)
  refine ⟨D, (2 ^ 256 * 2 ^ 256 * (100000 * 100000 * 100000)) * D, hD0, Nat.lt_of_le_of_lt hDle (by decide), ?_, fun n hn o ho => ?_⟩
  · refine Nat.lt_of_le_of_lt (Nat.mul_le_mul_right _ (Nat.mul_le_mul_left _ hDle)) (by decide)
  have zn := E.o1 n hn
  have zo := E.o2 o ho
  have b0 := zn.db.mul zo.db
  have hw3 : da * fo n * ft o ≤ 100000 * 100000 * 100000 := Nat.mul_le_mul (Nat.mul_le_mul k1.2 (k2 n).2) (k3 o).2
  refine ⟨b0.fit (Nat.lt_of_le_of_lt (Nat.mul_le_mul zn.d zo.d) (by decide)) (by decide), fun w hw => ?_⟩
  have b1 := k4 n o w hw
  have b2 := b0.mul b1
  have hdv : n.p.d * o.p.d * (da * fo n * ft o) ∣ D := by
    rw [hD]
    refine Nat.mul_dvd_mul (Nat.mul_dvd_mul (prodN_dvd ?_) (prodN_dvd ?_)) (Nat.mul_dvd_mul (Nat.mul_dvd_mul (Nat.dvd_refl _) (prodN_dvd ?_)) (prodN_dvd ?_))
    · exact List.mem_map.2 ⟨n, hn, rfl⟩
    · exact List.mem_map.2 ⟨o, ho, rfl⟩
    · exact List.mem_map.2 ⟨n, hn, rfl⟩
    · exact List.mem_map.2 ⟨o, ho, rfl⟩
  have hW := (Wf_spec E.h1 E.h2 E.h3 E.ck (h + v - u) (r + n.delta) (v + o.delta)).1.db E.h1 E.h2 E.h3
  have hv := hW.2.1 w hw
  have n1 := E.h1.le
  have n2 := E.h2.le
  have n3 := E.h3.le
  have nn : x.height.length * x.own.length * x.other.length ≤ 32 * 32 * 32 := Nat.mul_le_mul (Nat.mul_le_mul n1 n2) n3
  refine ⟨b1.fit (Nat.lt_of_le_of_lt hw3 (by decide)) (Nat.lt_of_le_of_lt hw3 (by decide)), b2.fit (Nat.lt_of_le_of_lt (Nat.mul_le_mul (Nat.mul_le_mul zn.d zo.d) hw3) (by decide)) (Nat.lt_of_le_of_lt (Nat.mul_le_mul_left _ hw3) (by decide)), ?_, by omega⟩
  exact (b2.dvd hdv hD0).mono (Nat.mul_le_mul_right _ (Nat.mul_le_mul_left _ hw3))
end
end Go.Proofs.YtppalofalmieaaaGreat
/- What spread answers: the list of the sums. By an AI agent. -/
namespace Go.Proofs.YtppalofalmieaaaGreat
open Go Go.Gv Go.RowKit
set_option maxRecDepth 100000
set_option maxHeartbeats 1000000
section
variable {x : ModelD} {h u v b r : Int}
theorem nz_out {n o : NoiseD} (h1 : NZ n) (h2 : NZ o) (hf : ratE (n.p.rat * o.p.rat) = 0) : rat_Mul_p n.p o.p = some (Raw.of (n.p.rat * o.p.rat), 0) := by
  unfold rat_Mul_p
  rw [(opR_fit h1.chk h2.chk hf).1, (opR_fit h1.chk h2.chk hf).2]
theorem l35 (E : Env x h u v b r) {D B : Nat} (hD0 : D ≠ 0) (hD : D < K128) {n : NoiseD} (hn : n ∈ x.ownNoise)
    (hc : ∀ o ∈ x.otherNoise, ratE (n.p.rat * o.p.rat) = 0 ∧ ∀ w ∈ Wf x.height x.own x.other (h + v - u) (r + n.delta) (v + o.delta), ratE w.2 = 0 ∧ ratE (n.p.rat * o.p.rat * w.2) = 0 ∧ DB D B (n.p.rat * o.p.rat * w.2) ∧ w.1 < 100000)
    (J : List (Int × Raw) → Option (List Out × Int)) : ∀ (os : List NoiseD) (m : List (Int × Rat)) (c : Nat), (∀ o ∈ os, o ∈ x.otherNoise) → (∀ k, DB D (B * c) (getP k 0 m)) → B * (c + 8 * os.length) < K128 →
    dynamics_spread_l35 x h u v b n J os (mapR m) = J (mapR ((os.flatMap fun o => pairT x h u v b r n o).foldl addK m)) ∧ ∀ k, DB D (B * (c + 8 * os.length)) (getP k 0 ((os.flatMap fun o => pairT x h u v b r n o).foldl addK m))
  | [], m, c, _, hm, _ => ⟨by simp [dynamics_spread_l35], fun k => by simpa using hm k⟩
  | o :: os, m, c, hos, hm, hB => by
    have ho := hos o (by simp)
    obtain ⟨f1, f2⟩ := hc o ho
    obtain ⟨s1, s2⟩ := Wf_spec E.h1 E.h2 E.h3 E.ck (h + v - u) (r + n.delta) (v + o.delta)
    obtain ⟨g1, _, _⟩ := s1.db E.h1 E.h2 E.h3
    have hlen : c + 8 * (o :: os).length = c + 8 + 8 * os.length := by simp; omega
    have hle : B * (c + (Wf x.height x.own x.other (h + v - u) (r + n.delta) (v + o.delta)).length) ≤ B * (c + 8 * (o :: os).length) := Nat.mul_le_mul_left _ (by rw [hlen]; omega)
    obtain ⟨i1, i2⟩ := l72 (x := x) (b := b) (pq := n.p.rat * o.p.rat) (e := 0) (D := D) (B := B) (fun v72 => dynamics_spread_l35 x h u v b n J os v72) E.a ⟨E.b0, E.b1⟩ f1 hD0 hD _ m c f2 hm (Nat.lt_of_le_of_lt hle hB)
    have hm' : ∀ k, DB D (B * (c + 8)) (getP k 0 ((pairT x h u v b r n o).foldl addK m)) := fun k => (i2 k).mono (Nat.mul_le_mul_left _ (by omega))
    obtain ⟨j1, j2⟩ := l35 E hD0 hD hn hc J os _ (c + 8) (fun q hq => hos q (by simp [hq])) hm' (by rw [← hlen]; exact hB)
    have zn := E.o1 n hn
    have zo := E.o2 o ho
    have q1 := E.hb; have q2 := E.ub; have q3 := E.vb; have q4 := E.r0; have q5 := E.r1; have q6 := zn.lo; have q7 := zn.hi; have q8 := zo.lo; have q9 := zo.hi
    rw [List.flatMap_cons, List.foldl_append, hlen]
    refine ⟨?_, j2⟩
    rw [dynamics_spread_l35, bnds (nz_out zn zo f1), show dynamics_grid_p x = some [x.height, x.own, x.other] from rfl, Option.bind_some, bnds E.rr]
    rw [wi64 (x := h + v) (by omega) (by omega), wi64 (x := h + v - u) (by omega) (by omega), wi64 (x := r + n.delta) (by omega) (by omega), wi64 (x := v + o.delta) (by omega) (by omega), bnds s2, if_neg (by show ¬ ((0 : Int) != 0) = true; decide), lt, List.drop_zero]
    exact i1.trans j1
theorem l27 (E : Env x h u v b r) {D B : Nat} (hD0 : D ≠ 0) (hD : D < K128)
    (hc : ∀ n ∈ x.ownNoise, ∀ o ∈ x.otherNoise, ratE (n.p.rat * o.p.rat) = 0 ∧ ∀ w ∈ Wf x.height x.own x.other (h + v - u) (r + n.delta) (v + o.delta), ratE w.2 = 0 ∧ ratE (n.p.rat * o.p.rat * w.2) = 0 ∧ DB D B (n.p.rat * o.p.rat * w.2) ∧ w.1 < 100000) :
    ∀ (ns : List NoiseD) (m : List (Int × Rat)) (c : Nat), (∀ n ∈ ns, n ∈ x.ownNoise) → (∀ k, DB D (B * c) (getP k 0 m)) → B * (c + 40 * ns.length) < K128 →
    dynamics_spread_l27 x h u v b ns (mapR m) = dynamics_spread_l27 x h u v b [] (mapR ((ns.flatMap fun n => x.otherNoise.flatMap fun o => pairT x h u v b r n o).foldl addK m)) ∧ ∀ k, DB D (B * (c + 40 * ns.length)) (getP k 0 ((ns.flatMap fun n => x.otherNoise.flatMap fun o => pairT x h u v b r n o).foldl addK m))
  | [], m, c, _, hm, _ => ⟨rfl, fun k => by simpa using hm k⟩
  | n :: ns, m, c, hns, hm, hB => by
    have hn := hns n (by simp)
    have hlen : c + 40 * (n :: ns).length = c + 40 + 40 * ns.length := by simp; omega
    have l2 := E.l2
    have hle : B * (c + 8 * x.otherNoise.length) ≤ B * (c + 40 * (n :: ns).length) := Nat.mul_le_mul_left _ (by rw [hlen]; omega)
    obtain ⟨i1, i2⟩ := l35 E hD0 hD hn (hc n hn) (fun v29 => dynamics_spread_l27 x h u v b ns v29) x.otherNoise m c (fun _ h => h) hm (Nat.lt_of_le_of_lt hle hB)
    have hm' : ∀ k, DB D (B * (c + 40)) (getP k 0 ((x.otherNoise.flatMap fun o => pairT x h u v b r n o).foldl addK m)) := fun k => (i2 k).mono (Nat.mul_le_mul_left _ (by omega))
    obtain ⟨j1, j2⟩ := l27 E hD0 hD hc ns _ (c + 40) (fun q hq => hns q (by simp [hq])) hm' (by rw [← hlen]; exact hB)
    rw [List.flatMap_cons, List.foldl_append, hlen]
    refine ⟨?_, j2⟩
    conv => lhs; rw [dynamics_spread_l27, lt, List.drop_zero]
    exact i1.trans j1
/-- The sums by their keys. -/
noncomputable def sums (x : ModelD) (h u v b r : Int) : List (Int × Rat) := (termsT x h u v b r).foldl addK []
theorem l117 (J : List Out → Option (List Out × Int)) (m : List (Int × Rat)) : ∀ (ks : List Int) (acc : List Out), acc.length + ks.length ≤ 1000 → dynamics_spread_l117 (mapR m) J ks acc = J (acc ++ ks.map fun k => Out.mk k (Raw.of (getP k 0 m)))
  | [], acc, _ => by simp [dynamics_spread_l117]
  | k :: ks, acc, hl => by
    rw [dynamics_spread_l117, Option.bind_some, grdT (by simp at hl; omega), l117 J m ks _ (by simp at hl ⊢; omega), getP_map]
    simp
theorem Env.fits (E : Env x h u v b r) : ∀ k, ratE (getP k 0 (sums x h u v b r)) = 0 := by
  obtain ⟨D, B, d0, d1, d2, hc⟩ := E.common
  have hl : B * (0 + 40 * x.ownNoise.length) < K128 := Nat.lt_of_le_of_lt (Nat.mul_le_mul_left _ (by have := E.l1; omega)) d2
  obtain ⟨_, h2⟩ := l27 E d0 d1 hc x.ownNoise [] 0 (fun _ h => h) (fun k => show DB D (B * 0) 0 by rw [Nat.mul_zero]; exact DB.zero) hl
  exact fun k => (h2 k).fit d1 hl
theorem spread_spec (E : Env x h u v b r) : dynamics_spread_p x h u v b = some (if ((sums x h u v b r).length : Int) > 64 then ([], 10) else ((sortZ ((sums x h u v b r).map Prod.fst)).map fun k => Out.mk k (Raw.of (getP k 0 (sums x h u v b r))), 0)) := by
  obtain ⟨D, B, d0, d1, d2, hc⟩ := E.common
  have hl : B * (0 + 40 * x.ownNoise.length) < K128 := Nat.lt_of_le_of_lt (Nat.mul_le_mul_left _ (by have := E.l1; omega)) d2
  obtain ⟨h1, _⟩ := l27 E d0 d1 hc x.ownNoise [] 0 (fun _ h => h) (fun k => show DB D (B * 0) 0 by rw [Nat.mul_zero]; exact DB.zero) hl
  unfold dynamics_spread_p
  rw [List.drop_zero]
  refine h1.trans ?_
  show dynamics_spread_l27 x h u v b [] (mapR (sums x h u v b r)) = _
  have hlen : (mapR (sums x h u v b r)).length = (sums x h u v b r).length := by simp [mapR]
  rw [dynamics_spread_l27, hlen]
  split
  · rfl
  · rename_i h9
    have h10 : (sums x h u v b r).length ≤ 64 := by omega
    have hk : (mapR (sums x h u v b r)).map Prod.fst = (sums x h u v b r).map Prod.fst := by simp [mapR]
    rw [lt, grdT (by omega), Option.bind_some, hk, List.drop_zero, l117 _ _ _ _ (by rw [(sortZ_perm _).length_eq]; simp; omega), List.nil_append]
end
end Go.Proofs.YtppalofalmieaaaGreat
/- What passes Check, in full. By an AI agent. -/
namespace Go.Proofs.YtppalofalmieaaaGreat
open Go Go.Gv Go.RowKit
set_option maxRecDepth 100000
set_option maxHeartbeats 1000000
/-- Limbs below the base. -/
def Lim (r : Raw) : Prop := (∀ y ∈ r.ln, y < 4294967296) ∧ ∀ y ∈ r.ld, y < 4294967296
structure LimM (x : ModelD) : Prop where
  o : ∀ n ∈ x.ownNoise, Lim n.p
  t : ∀ n ∈ x.otherNoise, Lim n.p
theorem NoiseDS.lim {r : Rd} {ad : Option Addr} {len cap : Nat} {xs : List NoiseD} (h : NoiseDS r ad len cap xs) : ∀ n ∈ xs, Lim n.p := fun n hn => by
  obtain ⟨k, hk⟩ := List.getElem?_of_mem hn
  obtain ⟨b, off, _, _, a1, a2, a3, a4, _, h1, h2⟩ := SlR.opn h hk
  exact ⟨h1.hlt, h2.hlt⟩
theorem ModelDV.lim {r : Rd} {v : Value} {x : ModelD} (h : ModelDV r v x) : LimM x := by
  refine ModelDV.op h ?_
  intros
  exact ⟨NoiseDS.lim (by assumption), NoiseDS.lim (by assumption)⟩
theorem ifz {c : Prop} [Decidable c] {e : Int} {o : Option Int} (he : e ≠ 0) : (if c then some e else o) = some 0 ↔ ¬ c ∧ o = some 0 := by
  by_cases h : c
  · rw [if_pos h]; simp [h, he]
  · rw [if_neg h]; simp [h]
theorem bnz {o J : Option Int} : (o.bind fun y => if (y != 0) = true then some y else J) = some 0 ↔ o = some 0 ∧ J = some 0 := by
  cases o with
  | none => simp
  | some e =>
    rw [Option.bind_some]
    by_cases h : e = 0
    · subst h; simp
    · rw [if_pos (by simpa using h)]; simp [h]
/-- A short number. -/
structure ShortR (r : Raw) : Prop where
  chk : r.chk = 0
  n8 : r.ln.length ≤ 8
  d8 : r.ld.length ≤ 8
theorem checkRat_iff (r : Raw) : dynamics_checkRat_p r = some 0 ↔ ShortR r := by
  unfold dynamics_checkRat_p rat_Check_p
  rw [bnz, ifz (by decide), ifz (by decide)]
  constructor
  · rintro ⟨h1, h2, h3, _⟩
    exact ⟨Option.some.inj h1, by omega, by omega⟩
  · intro h
    have h1 := h.n8
    have h2 := h.d8
    exact ⟨by rw [h.chk], by omega, by omega, rfl⟩
theorem two256 : (4294967296 : Nat) ^ 8 = 2 ^ 256 := by decide
theorem val8 {l : List Nat} (h : ∀ y ∈ l, y < 4294967296) (h8 : l.length ≤ 8) : val l < 2 ^ 256 := by
  rw [← two256]
  exact Nat.lt_of_lt_of_le (val_lt h) (Nat.pow_le_pow_right (by decide) h8)
theorem ShortR.db {r : Raw} (h : ShortR r) (l : Lim r) : DB r.d (2 ^ 256) r.rat :=
  ⟨_, rfl, by rw [sgn_natAbs]; exact Nat.le_of_lt (val8 l.1 h.n8)⟩
theorem ShortR.d {r : Raw} (h : ShortR r) (l : Lim r) : r.d ≤ 2 ^ 256 := by
  have := val8 l.2 h.d8
  unfold Raw.d
  split
  · exact Nat.one_le_pow _ _ (by decide)
  · exact Nat.le_of_lt this
/-! ### Sums -/
def rsum (l : List Rat) : Rat := l.foldr (· + ·) 0
theorem rsum_nil : rsum [] = 0 := rfl
theorem rsum_cons (q : Rat) (l : List Rat) : rsum (q :: l) = q + rsum l := rfl
theorem rsum_append : ∀ a b : List Rat, rsum (a ++ b) = rsum a + rsum b
  | [], b => by rw [List.nil_append, rsum_nil, Rat.zero_add]
  | q :: a, b => by rw [List.cons_append, rsum_cons, rsum_cons, rsum_append a b, Rat.add_assoc]
theorem rsum_reverse : ∀ a : List Rat, rsum a.reverse = rsum a
  | [] => rfl
  | q :: a => by rw [List.reverse_cons, rsum_append, rsum_reverse a, rsum_cons, rsum_cons, rsum_nil, Rat.add_zero, Rat.add_comm]
theorem rsum_db {E B : Nat} (hE : E ≠ 0) : ∀ {l : List Rat}, (∀ q ∈ l, DB E B q) → DB E (l.length * B) (rsum l)
  | [], _ => by rw [rsum_nil]; simpa using DB.zero
  | q :: l, h => by
    have h1 := (h q (by simp)).add hE (rsum_db hE fun p (hp : p ∈ l) => h p (List.mem_cons_of_mem _ hp))
    rw [rsum_cons]
    exact h1.mono (by simp [Nat.add_mul]; omega)
/-! ### Ascending lists -/
theorem adj_pw {α : Type} (f : α → Int) : ∀ l : List α, (∀ i a b, l[i]? = some a → l[i + 1]? = some b → f a < f b) ↔ l.Pairwise fun a b => f a < f b
  | [] => by simp
  | [x] => by simp
  | x :: y :: l => by
    have ih := adj_pw f (y :: l)
    rw [List.pairwise_cons, ← ih]
    constructor
    · intro h
      have h1 : ∀ i a b, (y :: l)[i]? = some a → (y :: l)[i + 1]? = some b → f a < f b := fun i a b ha hb => h (i + 1) a b (by simpa using ha) (by simpa using hb)
      refine ⟨fun b hb => ?_, h1⟩
      have h0 := h 0 x y (by simp) (by simp)
      rcases List.mem_cons.1 hb with rfl | hb
      · exact h0
      · exact Int.lt_trans h0 ((List.pairwise_cons.1 (ih.1 h1)).1 b hb)
    · rintro ⟨h0, h1⟩ i a b ha hb
      cases i with
      | zero =>
        obtain rfl : x = a := by simpa using ha
        obtain rfl : y = b := by simpa using hb
        exact h0 _ (by simp)
      | succ i => exact h1 i a b (by simpa using ha) (by simpa using hb)
/-! ### Noises -/
structure Nz1 (n : NoiseD) : Prop where
  lo : -100 ≤ n.delta
  hi : n.delta ≤ 100
  sh : ShortR n.p
  pos : n.p.neg = false
  ne : n.p.ln ≠ []
structure NzL (l : List NoiseD) : Prop where
  n1 : 1 ≤ l.length
  n5 : l.length ≤ 5
  el : ∀ n ∈ l, Nz1 n
  asc : l.Pairwise fun a b => a.delta < b.delta
  sum : rsum (l.map (·.p.rat)) = 1
theorem nz_fit {q : List NoiseD} (h : ∀ n ∈ q, Nz1 n ∧ Lim n.p) (h5 : q.length ≤ 5) : ratE (rsum (q.map (·.p.rat))) = 0 := by
  have hE0 : prodN (q.map (·.p.d)) ≠ 0 := prodN_pos fun y hy => by obtain ⟨n, hn, rfl⟩ := List.mem_map.1 hy; exact Nat.ne_of_gt (Raw.d_pos _)
  have hE : prodN (q.map (·.p.d)) ≤ (2 ^ 256) ^ 5 := prodN_le (by decide) (fun y hy => by obtain ⟨n, hn, rfl⟩ := List.mem_map.1 hy; exact (h n hn).1.sh.d (h n hn).2) (by simpa using h5)
  have h1 : DB (prodN (q.map (·.p.d))) ((q.map (·.p.rat)).length * (2 ^ 256 * prodN (q.map (·.p.d)))) (rsum (q.map (·.p.rat))) := rsum_db hE0 fun r hr => by
    obtain ⟨n, hn, rfl⟩ := List.mem_map.1 hr
    exact ((h n hn).1.sh.db (h n hn).2).dvd (prodN_dvd (List.mem_map.2 ⟨n, hn, rfl⟩)) hE0
  refine h1.fit (Nat.lt_of_le_of_lt hE (by decide)) (Nat.lt_of_le_of_lt (Nat.mul_le_mul (show (q.map (·.p.rat)).length ≤ 5 by simpa using h5) (Nat.mul_le_mul_left _ hE)) (by decide))
theorem delta_iff (z : Int) : ¬ (!inS (-100) 100 [z]) = true ↔ -100 ≤ z ∧ z ≤ 100 := by simp [inS]
theorem len_ne {α : Type} {l : List α} : ¬ ((l.length : Int) == 0) = true ↔ l ≠ [] := by
  cases l <;> simp
  omega
theorem cn17 (p0 : List NoiseD) (h5 : p0.length ≤ 5) (hl : ∀ n ∈ p0, Lim n.p) (J : Raw → Option Int) : ∀ (l q : List NoiseD), p0 = q ++ l → (∀ n ∈ q, Nz1 n) →
    (dynamics_checkNoise_l17 p0 J l q.length (Raw.of (rsum (q.map (·.p.rat)))) = some 0 ↔ (∀ n ∈ l, Nz1 n) ∧ (∀ i, q.length ≤ i + 1 → ∀ a b, p0[i]? = some a → p0[i + 1]? = some b → a.delta < b.delta) ∧ J (Raw.of (rsum (p0.map (·.p.rat)))) = some 0)
  | [], q, e, _ => by
    rw [dynamics_checkNoise_l17]
    subst e
    rw [List.append_nil]
    constructor
    · intro h
      refine ⟨by simp, fun i hi a b _ hb => ?_, h⟩
      rw [List.getElem?_eq_none (by omega)] at hb
      cases hb
    · exact fun h => h.2.2
  | x :: l, q, e, hq => by
    have hx : p0[q.length]? = some x := by rw [e]; simp
    have hxm : x ∈ p0 := by rw [e]; simp
    have hk : q.length < p0.length := by rw [e]; simp
    have ih := fun hx1 : Nz1 x => cn17 p0 h5 hl J l (q ++ [x]) (by rw [e]; simp) fun n hn => by
      rcases List.mem_append.1 hn with hn | hn
      · exact hq n hn
      · rw [List.mem_singleton.1 hn]; exact hx1
    rw [dynamics_checkNoise_l17, lt]
    have key : ((dynamics_checkRat_p x.p).bind (fun y25 => if ((y25) != 0) = true then (some y25) else (if x.p.neg = true then (some 1) else (if ((x.p.ln.length : Int) == 0) = true then (some 1) else ((rat_Add_p (Raw.of (rsum (q.map (·.p.rat)))) x.p).bind fun y31 => dynamics_checkNoise_l17 p0 J l (q.length + 1) y31.1)))) = some 0) ↔ (ShortR x.p ∧ x.p.neg = false ∧ x.p.ln ≠ []) ∧ (ShortR x.p ∧ x.p.neg = false ∧ x.p.ln ≠ [] → (rat_Add_p (Raw.of (rsum (q.map (·.p.rat)))) x.p).bind (fun y31 => dynamics_checkNoise_l17 p0 J l (q.length + 1) y31.1) = some 0) := by
      rw [bnz, checkRat_iff, ifz (by decide), ifz (by decide), len_ne]
      constructor
      · rintro ⟨a, b, c, d⟩; exact ⟨⟨a, by simpa using b, c⟩, fun _ => d⟩
      · rintro ⟨⟨a, b, c⟩, d⟩; exact ⟨a, by simp [b], c, d ⟨a, b, c⟩⟩
    have add : ∀ hx1 : Nz1 x, (rat_Add_p (Raw.of (rsum (q.map (·.p.rat)))) x.p).bind (fun y31 => dynamics_checkNoise_l17 p0 J l (q.length + 1) y31.1) = dynamics_checkNoise_l17 p0 J l (q ++ [x]).length (Raw.of (rsum ((q ++ [x]).map (·.p.rat)))) := fun hx1 => by
      have f0 : ratE (rsum (q.map (·.p.rat))) = 0 := nz_fit (fun n hn => ⟨hq n hn, hl n (by rw [e]; simp [hn])⟩) (by omega)
      have e1 : rsum ((q ++ [x]).map (·.p.rat)) = rsum (q.map (·.p.rat)) + x.p.rat := by rw [List.map_append, rsum_append]; simp [rsum, Rat.add_zero]
      have f1 : ratE (rsum (q.map (·.p.rat)) + x.p.rat) = 0 := by
        rw [← e1]
        exact nz_fit (fun n hn => by
          rcases List.mem_append.1 hn with hn | hn
          · exact ⟨hq n hn, hl n (by rw [e]; simp [hn])⟩
          · rw [List.mem_singleton.1 hn]; exact ⟨hx1, hl x hxm⟩) (by simp; omega)
      unfold rat_Add_p
      rw [Option.bind_some, Raw.of_rat, (opR_fit (of_fit f0).1 hx1.sh.chk f1).1, e1, List.length_append]
      rfl
    rw [show dynamics_within_p (100 : Int) = some 100 from rfl, Option.bind_some, within1 _ 100 (by decide), Option.bind_some, ifz (by decide), delta_iff]
    have step : ∀ {A : Prop}, ((-100 ≤ x.delta ∧ x.delta ≤ 100) ∧ (A ∧ ((dynamics_checkRat_p x.p).bind (fun y25 => if ((y25) != 0) = true then (some y25) else (if x.p.neg = true then (some 1) else (if ((x.p.ln.length : Int) == 0) = true then (some 1) else ((rat_Add_p (Raw.of (rsum (q.map (·.p.rat)))) x.p).bind fun y31 => dynamics_checkNoise_l17 p0 J l (q.length + 1) y31.1)))) = some 0))) ↔ A ∧ Nz1 x ∧ (∀ n ∈ l, Nz1 n) ∧ (∀ i, q.length + 1 ≤ i + 1 → ∀ a b, p0[i]? = some a → p0[i + 1]? = some b → a.delta < b.delta) ∧ J (Raw.of (rsum (p0.map (·.p.rat)))) = some 0 := by
      intro A
      rw [key]
      constructor
      · rintro ⟨⟨a, b⟩, c, ⟨d1, d2, d3⟩, f⟩
        have hx1 : Nz1 x := ⟨a, b, d1, d2, d3⟩
        have f := f ⟨d1, d2, d3⟩
        rw [add hx1, ih hx1] at f
        exact ⟨c, hx1, f.1, fun i hi => f.2.1 i (by simp; omega), f.2.2⟩
      · rintro ⟨c, hx1, f1, f2, f3⟩
        refine ⟨⟨hx1.lo, hx1.hi⟩, c, ⟨hx1.sh, hx1.pos, hx1.ne⟩, fun _ => ?_⟩
        rw [add hx1, ih hx1]
        exact ⟨f1, fun i hi => f2 i (by simp at hi; omega), f3⟩
    have fin : ∀ {A : Prop}, (A ↔ ∀ a, q.length ≠ 0 → p0[q.length - 1]? = some a → a.delta < x.delta) → (A ∧ Nz1 x ∧ (∀ n ∈ l, Nz1 n) ∧ (∀ i, q.length + 1 ≤ i + 1 → ∀ a b, p0[i]? = some a → p0[i + 1]? = some b → a.delta < b.delta) ∧ J (Raw.of (rsum (p0.map (·.p.rat)))) = some 0 ↔ (∀ n ∈ x :: l, Nz1 n) ∧ (∀ i, q.length ≤ i + 1 → ∀ a b, p0[i]? = some a → p0[i + 1]? = some b → a.delta < b.delta) ∧ J (Raw.of (rsum (p0.map (·.p.rat)))) = some 0) := by
      intro A hA
      rw [hA]
      constructor
      · rintro ⟨h1, h2, h3, h4, h5⟩
        refine ⟨fun n hn => ?_, fun i hi a b ha hb => ?_, h5⟩
        · rcases List.mem_cons.1 hn with rfl | hn
          · exact h2
          · exact h3 n hn
        · rcases Nat.eq_or_lt_of_le hi with hi | hi
          · rw [← hi, hx] at hb
            cases hb
            exact h1 a (by omega) (by rw [hi]; exact ha)
          · exact h4 i hi a b ha hb
      · rintro ⟨h1, h2, h3⟩
        refine ⟨fun a h0 ha => h2 (q.length - 1) (by omega) a x ha (by rw [Nat.sub_add_cancel (by omega)]; exact hx), h1 x (by simp), fun n hn => h1 n (by simp [hn]), fun i hi => h2 i (by omega), h3⟩
    split
    · rename_i h0
      obtain ⟨y, hy⟩ : ∃ y, p0[q.length - 1]? = some y := ⟨p0[q.length - 1]'(by omega), by simp⟩
      rw [bnds (ixT (k := q.length - 1) (by rw [wi64 (by omega) (by omega)]; omega) hy), ifz (by decide), step, fin]
      constructor
      · intro h a _ ha; rw [hy] at ha; cases ha; omega
      · intro h; have := h y (by omega) hy; omega
    · rename_i h0
      rw [← true_and ((dynamics_checkRat_p x.p).bind _ = some 0), step, fin]
      exact ⟨fun _ a h1 _ => absurd h1 (by omega), fun _ => trivial⟩
theorem cmp1 {q : Rat} (h : ratE q = 0) : (rat_Cmp_p (Raw.of q) (Raw.of ((1 : Int) : Rat))).bind (fun y12 => if ((y12.1) != 0) = true then (some (2 : Int)) else (some 0)) = some 0 ↔ q = 1 := by
  have h1 : ratE (1 : Rat) = 0 := by decide
  unfold rat_Cmp_p
  rw [Option.bind_some, ifz (by decide)]
  have e : cmpR (Raw.of q) (Raw.of ((1 : Int) : Rat)) = cmpQ q 1 := by
    unfold cmpR cmpE
    rw [Raw.of_chk h, show Raw.of ((1 : Int) : Rat) = Raw.of 1 from rfl, Raw.of_chk h1, Raw.of_rat, Raw.of_rat]
    rfl
  rw [e]
  unfold cmpQ
  constructor
  · rintro ⟨h, _⟩
    apply Classical.byContradiction
    intro hq
    rw [if_neg hq] at h
    split at h <;> simp at h
  · intro hq
    rw [if_pos hq]
    simp
theorem noise_iff (l : List NoiseD) (hl : ∀ n ∈ l, Lim n.p) : dynamics_checkNoise_p l = some 0 ↔ NzL l := by
  unfold dynamics_checkNoise_p
  rw [ifz (by decide), ifz (by decide), lt, List.drop_zero]
  constructor
  · rintro ⟨h1, h2, h3⟩
    have h5 : l.length ≤ 5 := by omega
    have := (cn17 l h5 hl _ l [] rfl (by simp)).1 h3
    obtain ⟨g1, g2, g3⟩ := this
    have hf := nz_fit (fun n hn => ⟨g1 n hn, hl n hn⟩) h5
    rw [show rat_From_p (1 : Int) = some (Raw.of ((1 : Int) : Rat)) from grdT (by decide), Option.bind_some, cmp1 hf] at g3
    refine ⟨?_, h5, g1, (adj_pw (fun n : NoiseD => n.delta) l).1 fun i => g2 i (by simp), g3⟩
    rw [len_ne] at h1
    exact List.length_pos_iff.2 h1
  · intro h
    have h1 := h.n1
    have h5 := h.n5
    refine ⟨len_ne.2 (List.length_pos_iff.1 h1), by omega, ?_⟩
    refine (cn17 l h5 hl _ l [] rfl (by simp)).2 ⟨h.el, fun i _ => (adj_pw (fun n : NoiseD => n.delta) l).2 h.asc i, ?_⟩
    have hf := nz_fit (fun n hn => ⟨h.el n hn, hl n hn⟩) h5
    rw [show rat_From_p (1 : Int) = some (Raw.of ((1 : Int) : Rat)) from grdT (by decide), Option.bind_some, cmp1 hf]
    exact h.sum
/-! ### The grid -/
structure AxisW (l : List Int) : Prop where
  n1 : 1 ≤ l.length
  n2 : l.length ≤ 32
  bd : ∀ z ∈ l, -1073741824 ≤ z ∧ z ≤ 1073741824
  asc : l.Pairwise (· < ·)
theorem ic17 (x : List Int) (J : Option Int) (hx : x.length ≤ 32) : ∀ (l : List Int) (k : Nat), l = x.drop k →
    (interp_Check_l17 x J l k = some 0 ↔ (∀ z ∈ l, -1073741824 ≤ z ∧ z ≤ 1073741824) ∧ (∀ i, k ≤ i + 1 → ∀ a b, x[i]? = some a → x[i + 1]? = some b → a < b) ∧ J = some 0)
  | [], k, h => by
    have hk : x.length ≤ k := by have := congrArg List.length h; simp at this; omega
    rw [interp_Check_l17]
    refine ⟨fun h => ⟨by simp, fun i hi a b _ hb => ?_, h⟩, fun h => h.2.2⟩
    rw [List.getElem?_eq_none (by omega)] at hb
    cases hb
  | z :: l, k, h => by
    obtain ⟨hk, hr⟩ := drop_cons h
    have hz : x[k]? = some z := by
      have := congrArg List.head? h
      rw [List.head?_drop] at this
      exact this.symm
    have ih := ic17 x J hx l (k + 1) hr
    rw [interp_Check_l17, ifz (by decide), ifz (by decide)]
    have fin : ∀ {A : Prop}, (A ↔ ∀ a, k ≠ 0 → x[k - 1]? = some a → a < z) → (¬ z < -1073741824 ∧ ¬ z > 1073741824 ∧ A ∧ (∀ z ∈ l, -1073741824 ≤ z ∧ z ≤ 1073741824) ∧ (∀ i, k + 1 ≤ i + 1 → ∀ a b, x[i]? = some a → x[i + 1]? = some b → a < b) ∧ J = some 0 ↔ (∀ y ∈ z :: l, -1073741824 ≤ y ∧ y ≤ 1073741824) ∧ (∀ i, k ≤ i + 1 → ∀ a b, x[i]? = some a → x[i + 1]? = some b → a < b) ∧ J = some 0) := by
      intro A hA
      rw [hA]
      constructor
      · rintro ⟨h1, h2, h3, h4, h5, h6⟩
        refine ⟨fun y hy => ?_, fun i hi a b ha hb => ?_, h6⟩
        · rcases List.mem_cons.1 hy with rfl | hy
          · omega
          · exact h4 y hy
        · rcases Nat.eq_or_lt_of_le hi with hi | hi
          · rw [← hi, hz] at hb
            cases hb
            exact h3 a (by omega) (by rw [hi]; exact ha)
          · exact h5 i hi a b ha hb
      · rintro ⟨h1, h2, h3⟩
        have := h1 z (by simp)
        refine ⟨by omega, by omega, fun a h0 ha => h2 (k - 1) (by omega) a z ha (by rw [Nat.sub_add_cancel (by omega)]; exact hz), fun n hn => h1 n (by simp [hn]), fun i hi => h2 i (by omega), h3⟩
    split
    · rename_i h0
      obtain ⟨y, hy⟩ : ∃ y, x[k - 1]? = some y := ⟨x[k - 1]'(by omega), by simp⟩
      rw [bnds (ixT (k := k - 1) (by rw [wi64 (by omega) (by omega)]; omega) hy), ifz (by decide), ih]
      refine fin ?_
      constructor
      · intro h a _ ha; rw [hy] at ha; cases ha; omega
      · intro h; have := h y (by omega) hy; omega
    · rename_i h0
      rw [ih]
      have := fin (A := True) ⟨fun _ a h1 _ => absurd h1 (by omega), fun _ => trivial⟩
      simpa only [true_and] using this
theorem ic10 (J : Option Int) : ∀ l : List (List Int), interp_Check_l10 J l = some 0 ↔ (∀ x ∈ l, AxisW x) ∧ J = some 0
  | [] => by rw [interp_Check_l10]; simp
  | x :: l => by
    have ih := ic10 J l
    rw [interp_Check_l10, lt, ifz (by decide), ifz (by decide), List.drop_zero]
    constructor
    · rintro ⟨h1, h2, h3⟩
      rw [ic17 x _ (by omega) x 0 rfl, ih] at h3
      obtain ⟨g1, g2, g3, g4⟩ := h3
      refine ⟨fun y hy => ?_, g4⟩
      rcases List.mem_cons.1 hy with rfl | hy
      · exact ⟨List.length_pos_iff.2 (len_ne.1 h1), by omega, g1, (adj_pw (fun z => z) y).1 fun i => g2 i (by omega)⟩
      · exact g3 y hy
    · rintro ⟨h1, h2⟩
      have hx := h1 x (by simp)
      have n1 := hx.n1
      have n2 := hx.n2
      refine ⟨len_ne.2 (List.length_pos_iff.1 n1), by omega, ?_⟩
      rw [ic17 x _ n2 x 0 rfl, ih]
      exact ⟨hx.bd, fun i _ => (adj_pw (fun z => z) x).2 hx.asc i, fun y hy => h1 y (by simp [hy]), h2⟩
theorem ic3 (a b c : List Int) : interp_Check_p [a, b, c] = some 0 ↔ AxisW a ∧ AxisW b ∧ AxisW c ∧ a.length * b.length * c.length ≤ 256 := by
  unfold interp_Check_p
  rw [ifz (by decide), ifz (by decide), lt, List.drop_zero, ic10, isize3, Option.bind_some]
  have sz : ∀ ha : AxisW a, ∀ hb : AxisW b, ∀ hc : AxisW c, IntKind.i64.wrap (IntKind.i64.wrap (IntKind.i64.wrap (1 * (a.length : Int)) * (b.length : Int)) * (c.length : Int)) = ((a.length * b.length * c.length : Nat) : Int) := fun ha hb hc => by
    have n1 := ha.n2
    have e1 : a.length * b.length ≤ 32 * 32 := Nat.mul_le_mul ha.n2 hb.n2
    have e2 : a.length * b.length * c.length ≤ 32 * 32 * 32 := Nat.mul_le_mul e1 hc.n2
    rw [Int.one_mul, wi64 (x := (a.length : Int)) (by omega) (by omega), ← Int.natCast_mul, wi64 (x := ((a.length * b.length : Nat) : Int)) (by omega) (by omega), ← Int.natCast_mul, wi64 (by omega) (by omega)]
  constructor
  · rintro ⟨_, _, h1, h2⟩
    have ha := h1 a (by simp)
    have hb := h1 b (by simp)
    have hc := h1 c (by simp)
    rw [sz ha hb hc, ifz (by decide)] at h2
    exact ⟨ha, hb, hc, by omega⟩
  · rintro ⟨ha, hb, hc, h⟩
    refine ⟨by simp, by simp, fun x hx => ?_, ?_⟩
    · simp only [List.mem_cons, List.not_mem_nil, or_false] at hx
      rcases hx with rfl | rfl | rfl <;> assumption
    · rw [sz ha hb hc, ifz (by decide)]
      exact ⟨by omega, rfl⟩
/-! ### The model -/
structure AdvOK (y : BoundsD) : Prop where
  s : y.sense = 1 ∨ y.sense = 2
  le : y.lo ≤ y.hi
  l0 : -100 ≤ y.lo
  l1 : y.lo ≤ 100
  h0 : -100 ≤ y.hi
  h1 : y.hi ≤ 100
structure Full (x : ModelD) : Prop where
  gh : AxisW x.height
  go : AxisW x.own
  gt : AxisW x.other
  gn : x.height.length * x.own.length * x.other.length ≤ 256
  bh : ∀ z ∈ x.height, -50000 ≤ z ∧ z ≤ 50000
  bo : ∀ z ∈ x.own, -100 ≤ z ∧ z ≤ 100
  bt : ∀ z ∈ x.other, -100 ≤ z ∧ z ≤ 100
  a1 : 1 ≤ x.advisories.length
  a2 : x.advisories.length ≤ 6
  adv : ∀ y ∈ x.advisories.drop 1, AdvOK y
  p : 0 ≤ x.pull ∧ x.pull ≤ 100
  nr : 0 ≤ x.near ∧ x.near ≤ 50000
  st : 0 ≤ x.steps ∧ x.steps ≤ 24
  no : NzL x.ownNoise
  nt : NzL x.otherNoise
  c1 : ShortR x.alert ∧ x.alert.neg = false
  c2 : ShortR x.strengthen ∧ x.strengthen.neg = false
  c3 : ShortR x.reversal ∧ x.reversal.neg = false
  n : x.height.length * x.own.length * x.other.length * x.advisories.length ≤ 200
theorem cc62 (x : ModelD) (J : Option Int) : dynamics_Check_l62 x J 3 0 = some 0 ↔ (ShortR x.alert ∧ x.alert.neg = false) ∧ (ShortR x.strengthen ∧ x.strengthen.neg = false) ∧ (ShortR x.reversal ∧ x.reversal.neg = false) ∧ J = some 0 := by
  have st : ∀ (r k : Nat) (q : Raw), [x.alert, x.strengthen, x.reversal][k]? = some q → (dynamics_Check_l62 x J (r + 1) k = some 0 ↔ (ShortR q ∧ q.neg = false) ∧ dynamics_Check_l62 x J r (k + 1) = some 0) := fun r k q hq => by
    rw [dynamics_Check_l62, bnds (ixT (k := k) rfl hq), bnz, checkRat_iff, ifz (by decide)]
    simp [and_assoc]
  rw [st 2 0 _ rfl, st 1 1 _ rfl, st 0 2 _ rfl, dynamics_Check_l62]
theorem cc78 (x : ModelD) (J : Option Int) (hl : LimM x) : dynamics_Check_l78 x J 2 0 = some 0 ↔ NzL x.ownNoise ∧ NzL x.otherNoise ∧ J = some 0 := by
  have st : ∀ (r k : Nat) (q : List NoiseD), [x.ownNoise, x.otherNoise][k]? = some q → (∀ n ∈ q, Lim n.p) → (dynamics_Check_l78 x J (r + 1) k = some 0 ↔ NzL q ∧ dynamics_Check_l78 x J r (k + 1) = some 0) := fun r k q hq hn => by
    rw [dynamics_Check_l78, bnds (ixT (k := k) rfl hq), bnz, noise_iff q hn]
  rw [st 1 0 _ rfl hl.o, st 0 1 _ rfl hl.t, dynamics_Check_l78]
theorem cc92 (J : Option Int) : ∀ l : List BoundsD, dynamics_Check_l92 100 J l = some 0 ↔ (∀ y ∈ l, AdvOK y) ∧ J = some 0
  | [] => by rw [dynamics_Check_l92]; simp
  | y :: l => by
    have ih := cc92 J l
    have key : ∀ v : Bool, (if v = true then (some (6 : Int)) else (if (y.lo) > y.hi then (some 1) else ((dynamics_within_1_p ([y.lo, y.hi]) 100).bind fun y104 => if (!y104) = true then (some 1) else (dynamics_Check_l92 100 J l)))) = some 0 ↔ v = false ∧ y.lo ≤ y.hi ∧ (-100 ≤ y.lo ∧ y.lo ≤ 100 ∧ -100 ≤ y.hi ∧ y.hi ≤ 100) ∧ (∀ y ∈ l, AdvOK y) ∧ J = some 0 := fun v => by
      rw [ifz (by decide), ifz (by decide), within1 _ 100 (by decide), Option.bind_some, ifz (by decide), ih]
      simp [inS, and_assoc]
    have fin : ((y.sense = 1 ∨ y.sense = 2) ∧ y.lo ≤ y.hi ∧ (-100 ≤ y.lo ∧ y.lo ≤ 100 ∧ -100 ≤ y.hi ∧ y.hi ≤ 100) ∧ (∀ y ∈ l, AdvOK y) ∧ J = some 0) ↔ (∀ z ∈ y :: l, AdvOK z) ∧ J = some 0 := by
      constructor
      · rintro ⟨h1, h2, ⟨h3, h4, h5, h6⟩, h7, h8⟩
        refine ⟨fun z hz => ?_, h8⟩
        rcases List.mem_cons.1 hz with rfl | hz
        · exact ⟨h1, h2, h3, h4, h5, h6⟩
        · exact h7 z hz
      · rintro ⟨h1, h2⟩
        have h := h1 y (by simp)
        exact ⟨h.s, h.le, ⟨h.l0, h.l1, h.h0, h.h1⟩, fun z hz => h1 z (by simp [hz]), h2⟩
    rw [dynamics_Check_l92, lt, ← fin]
    split
    · rename_i h1
      rw [key]
      have h1' : y.sense ≠ 1 := by simpa using h1
      simp [h1']
    · rename_i h1
      rw [key]
      have h1' : y.sense = 1 := by simpa using h1
      simp [h1']
theorem inSn {lo hi : Int} {l : List Int} : ¬ (!inS lo hi l) = true ↔ ∀ z ∈ l, lo ≤ z ∧ z ≤ hi := by
  rw [← inS_iff]; simp
theorem check_iff (x : ModelD) (hl : LimM x) : dynamics_Check_p x = some 0 ↔ Full x := by
  unfold dynamics_Check_p
  rw [show dynamics_within_p (100 : Int) = some 100 from rfl, Option.bind_some, show dynamics_grid_p x = some [x.height, x.own, x.other] from rfl, Option.bind_some, bnz, ic3, show dynamics_within_p (50000 : Int) = some 50000 from rfl, Option.bind_some, within1 _ 50000 (by decide), Option.bind_some, ifz (by decide), within1 _ 100 (by decide), Option.bind_some, ifz (by decide), within1 _ 100 (by decide), Option.bind_some, ifz (by decide), ifz (by decide), ifz (by decide), inSn, inSn, inSn, len_ne]
  have tail : ∀ h1 : 1 ≤ x.advisories.length, lt ((dynamics_span_has_p (SpanD.mk 0 100) ([x.pull])).bind fun y38 => if (!y38) = true then (some (1 : Int)) else ((dynamics_span_has_p (SpanD.mk 0 50000) ([x.near])).bind fun y44 => if (!y44) = true then (some 1) else ((dynamics_span_has_p (SpanD.mk 0 24) ([x.steps])).bind fun y50 => if (!y50) = true then (some 1) else (lt (lt ((dynamics_size_p x).bind fun y56 => if (y56) > 200 then (some 10) else (some 0)) fun J54 => dynamics_Check_l62 x J54 ((3 : Int).toNat - 0) 0) fun J53 => dynamics_Check_l78 x J53 ((2 : Int).toNat - 0) 0)))) (fun J34 => grd (0 ≤ (1 : Int) ∧ (1 : Int) ≤ (x.advisories.length : Int) ∧ (x.advisories.length : Int) ≤ (x.advisories.length : Int)) <| dynamics_Check_l92 100 J34 ((x.advisories.drop 1).drop 0)) = some 0 ↔ (∀ y ∈ x.advisories.drop 1, AdvOK y) ∧ (0 ≤ x.pull ∧ x.pull ≤ 100) ∧ (0 ≤ x.near ∧ x.near ≤ 50000) ∧ (0 ≤ x.steps ∧ x.steps ≤ 24) ∧ NzL x.ownNoise ∧ NzL x.otherNoise ∧ (ShortR x.alert ∧ x.alert.neg = false) ∧ (ShortR x.strengthen ∧ x.strengthen.neg = false) ∧ (ShortR x.reversal ∧ x.reversal.neg = false) ∧ ((dynamics_size_p x).bind fun y56 => if (y56) > 200 then (some (10 : Int)) else (some 0)) = some 0 := fun h1 => by
    rw [lt, grdT (by omega), List.drop_zero, cc92, has_p, Option.bind_some, ifz (by decide), has_p, Option.bind_some, ifz (by decide), has_p, Option.bind_some, ifz (by decide), lt, lt]
    show _ ∧ _ ∧ _ ∧ _ ∧ dynamics_Check_l78 x (dynamics_Check_l62 x _ 3 0) 2 0 = some 0 ↔ _
    rw [cc78 x _ hl, cc62, inSn, inSn, inSn]
    simp
  obtain ⟨n, hn, hn2⟩ := size_p x
  constructor
  · rintro ⟨⟨g1, g2, g3, g4⟩, b1, b2, b3, a1, a2, t⟩
    have a1' := List.length_pos_iff.2 a1
    rw [tail a1', hn, Option.bind_some, ifz (by decide)] at t
    obtain ⟨t1, t2, t3, t4, t5, t6, t7, t8, t9, t10, _⟩ := t
    have hn3 := hn2 g1.n2 g2.n2 g3.n2 (by omega)
    exact ⟨g1, g2, g3, g4, b1, b2, b3, a1', by omega, t1, t2, t3, t4, t5, t6, t7, t8, t9, by omega⟩
  · intro h
    have a2 := h.a2
    refine ⟨⟨h.gh, h.go, h.gt, h.gn⟩, h.bh, h.bo, h.bt, List.length_pos_iff.1 h.a1, by omega, ?_⟩
    rw [tail h.a1, hn, Option.bind_some, ifz (by decide), hn2 h.gh.n2 h.go.n2 h.gt.n2 a2]
    have := h.n
    exact ⟨h.adv, h.p, h.nr, h.st, h.no, h.nt, h.c1, h.c2, h.c3, by omega, rfl⟩
end Go.Proofs.YtppalofalmieaaaGreat
/- The mirrored model, in plain words. By an AI agent. -/
namespace Go.Proofs.YtppalofalmieaaaGreat
open Go Go.Gv Go.RowKit
set_option maxRecDepth 100000
set_option maxHeartbeats 1000000
def negB (y : BoundsD) : BoundsD := ⟨3 - y.sense, -y.hi, -y.lo⟩
def negN (n : NoiseD) : NoiseD := ⟨-n.delta, n.p⟩
def turnL (l : List Int) : List Int := (l.map fun z => -z).reverse
def turnN (l : List NoiseD) : List NoiseD := (l.map negN).reverse
def mirB : List BoundsD → List BoundsD
  | [] => []
  | y :: l => y :: l.map negB
def mirrorD (x : ModelD) : ModelD := ⟨turnL x.height, turnL x.own, turnL x.other, mirB x.advisories, x.pull, x.near, x.steps, turnN x.ownNoise, turnN x.otherNoise, x.alert, x.strengthen, x.reversal⟩
theorem turnL_len (l : List Int) : (turnL l).length = l.length := by simp [turnL]
theorem turnN_len (l : List NoiseD) : (turnN l).length = l.length := by simp [turnN]
theorem mirB_len (l : List BoundsD) : (mirB l).length = l.length := by cases l <;> simp [mirB]
theorem turnL_get {l : List Int} {k : Nat} {z : Int} (h : l[k]? = some z) : (turnL l)[l.length - 1 - k]? = some (-z) := by
  obtain ⟨hk, rfl⟩ := List.getElem?_eq_some_iff.1 h
  unfold turnL
  rw [List.getElem?_reverse (by simp; omega), List.length_map, List.getElem?_map, show l.length - 1 - (l.length - 1 - k) = k by omega, List.getElem?_eq_getElem hk]
  rfl
theorem mirB_0 (l : List BoundsD) : (mirB l)[0]? = l[0]? := by cases l <;> simp [mirB]
theorem mirB_S (l : List BoundsD) (k : Nat) : (mirB l)[k + 1]? = l[k + 1]?.map negB := by cases l <;> simp [mirB]
theorem mirB_drop (l : List BoundsD) : (mirB l).drop 1 = (l.drop 1).map negB := by cases l <;> simp [mirB]
/-! ### The mirrored model passes -/
theorem mem_turnL {l : List Int} {z : Int} (h : z ∈ turnL l) : -z ∈ l := by
  unfold turnL at h
  rw [List.mem_reverse] at h
  obtain ⟨y, hy, rfl⟩ := List.mem_map.1 h
  simpa using hy
theorem AxisW.turn {l : List Int} (h : AxisW l) : AxisW (turnL l) := by
  refine ⟨by rw [turnL_len]; exact h.n1, by rw [turnL_len]; exact h.n2, fun z hz => ?_, ?_⟩
  · have := h.bd _ (mem_turnL hz); omega
  · unfold turnL
    rw [List.pairwise_reverse, List.pairwise_map]
    exact h.asc.imp fun hab => by omega
theorem NzL.turn {l : List NoiseD} (h : NzL l) : NzL (turnN l) := by
  have e : ∀ n ∈ turnN l, ∃ m ∈ l, n = negN m := fun n hn => by
    unfold turnN at hn
    rw [List.mem_reverse] at hn
    obtain ⟨m, hm, rfl⟩ := List.mem_map.1 hn
    exact ⟨m, hm, rfl⟩
  refine ⟨by rw [turnN_len]; exact h.n1, by rw [turnN_len]; exact h.n5, fun n hn => ?_, ?_, ?_⟩
  · obtain ⟨m, hm, rfl⟩ := e n hn
    have g := h.el m hm
    have g1 := g.lo
    have g2 := g.hi
    exact ⟨show -100 ≤ -m.delta by omega, show -m.delta ≤ 100 by omega, g.sh, g.pos, g.ne⟩
  · unfold turnN
    rw [List.pairwise_reverse, List.pairwise_map]
    exact h.asc.imp fun {a b} hab => by show -b.delta < -a.delta; omega
  · unfold turnN
    rw [List.map_reverse, rsum_reverse, List.map_map]
    exact h.sum
theorem AdvOK.neg {y : BoundsD} (h : AdvOK y) : AdvOK (negB y) := by
  have h1 := h.s; have h2 := h.le; have h3 := h.l0; have h4 := h.l1; have h5 := h.h0; have h6 := h.h1
  exact ⟨by show 3 - y.sense = 1 ∨ 3 - y.sense = 2; omega, by show -y.hi ≤ -y.lo; omega, by show -100 ≤ -y.hi; omega, by show -y.hi ≤ 100; omega, by show -100 ≤ -y.lo; omega, by show -y.lo ≤ 100; omega⟩
theorem Full.mir {x : ModelD} (f : Full x) : Full (mirrorD x) := by
  refine ⟨f.gh.turn, f.go.turn, f.gt.turn, ?_, fun z hz => ?_, fun z hz => ?_, fun z hz => ?_, ?_, ?_, fun y hy => ?_, f.p, f.nr, f.st, f.no.turn, f.nt.turn, f.c1, f.c2, f.c3, ?_⟩
  · show (turnL x.height).length * (turnL x.own).length * (turnL x.other).length ≤ 256
    simpa only [turnL_len] using f.gn
  · have := f.bh _ (mem_turnL hz); omega
  · have := f.bo _ (mem_turnL hz); omega
  · have := f.bt _ (mem_turnL hz); omega
  · show 1 ≤ (mirB x.advisories).length
    rw [mirB_len]; exact f.a1
  · show (mirB x.advisories).length ≤ 6
    rw [mirB_len]; exact f.a2
  · have hy : y ∈ (mirB x.advisories).drop 1 := hy
    rw [mirB_drop] at hy
    obtain ⟨z, hz, rfl⟩ := List.mem_map.1 hy
    exact (f.adv z hz).neg
  · show (turnL x.height).length * (turnL x.own).length * (turnL x.other).length * (mirB x.advisories).length ≤ 200
    simpa only [turnL_len, mirB_len] using f.n
theorem LimM.mir {x : ModelD} (h : LimM x) : LimM (mirrorD x) := by
  have e : ∀ {l : List NoiseD}, (∀ n ∈ l, Lim n.p) → ∀ n ∈ turnN l, Lim n.p := fun {l} h n hn => by
    unfold turnN at hn
    rw [List.mem_reverse] at hn
    obtain ⟨m, hm, rfl⟩ := List.mem_map.1 hn
    exact h m hm
  exact ⟨e h.o, e h.t⟩
theorem Full.good {x : ModelD} (f : Full x) (hl : LimM x) : dynamics_Check_p x = some 0 ∧ Good x := by
  have hc := (check_iff x hl).2 f
  obtain ⟨e, h1, h2⟩ := check_p x
  rw [hc] at h1
  cases h1
  exact ⟨hc, h2 rfl⟩
/-! ### Where Spread comes from -/
theorem AxisW.axis {l : List Int} (h : AxisW l) (hb : ∀ z ∈ l, -50000 ≤ z ∧ z ≤ 50000) : Axis l := ⟨h.n1, h.n2, h.asc, hb⟩
theorem Nz1.nz {n : NoiseD} (h : Nz1 n) (l : Lim n.p) : NZ n := ⟨h.sh.chk, h.sh.db l, h.sh.d l, h.lo, h.hi⟩
theorem resp_bd {x : ModelD} (f : Full x) (g : Good x) {u b : Int} (hb : 0 ≤ b ∧ b < (x.advisories.length : Int)) (hu : -100 ≤ u ∧ u ≤ 100) : ∃ r, dynamics_respond_p x u b = some r ∧ -1000 ≤ r ∧ r ≤ 1000 := by
  obtain ⟨y, _, h2, h3⟩ := respond_eq g hb hu
  have hp := f.p
  refine ⟨_, h3, ?_⟩
  by_cases h0 : b = 0
  · rw [if_pos h0]; omega
  · have := h2 h0
    rw [if_neg h0]
    repeat' split
    all_goals omega
theorem Full.env {x : ModelD} (f : Full x) (hl : LimM x) {h u v b r : Int} (hh : -100000 ≤ h ∧ h ≤ 100000) (hu : -100 ≤ u ∧ u ≤ 100) (hv : -100 ≤ v ∧ v ≤ 100) (hb : 0 ≤ b ∧ b < (x.advisories.length : Int)) (hr : dynamics_respond_p x u b = some r) : Env x h u v b r := by
  obtain ⟨hc, g⟩ := f.good hl
  obtain ⟨r', h1, h2, h3⟩ := resp_bd f g hb hu
  rw [hr] at h1
  cases h1
  have a2 := f.a2
  exact ⟨f.gh.axis f.bh, f.go.axis fun z hz => by have := f.bo z hz; omega, f.gt.axis fun z hz => by have := f.bt z hz; omega, (ic3 _ _ _).2 ⟨f.gh, f.go, f.gt, f.gn⟩, f.a1, a2, hb.1, by omega, hr, h2, h3, hh, hu, hv, fun n hn => (f.no.el n hn).nz (hl.o n hn), fun n hn => (f.nt.el n hn).nz (hl.t n hn), f.no.n5, f.nt.n5⟩
noncomputable def outs (x : ModelD) (h u v b r : Int) : List Out := (sortZ ((sums x h u v b r).map Prod.fst)).map fun k => Out.mk k (Raw.of (getP k 0 (sums x h u v b r)))
structure SpOK (x : ModelD) (h u v b r : Int) : Prop where
  f : Full x
  hh : -100000 ≤ h ∧ h ≤ 100000
  hu : -100 ≤ u ∧ u ≤ 100
  hv : -100 ≤ v ∧ v ≤ 100
  hb : 0 ≤ b ∧ b < (x.advisories.length : Int)
  hr : dynamics_respond_p x u b = some r
  hs : (sums x h u v b r).length ≤ 64
theorem Spread_ok {x : ModelD} (hl : LimM x) {h u v b r : Int} (s : SpOK x h u v b r) : dynamics_Spread_p x h u v b = some (outs x h u v b r, 0) := by
  obtain ⟨hc, g⟩ := s.f.good hl
  have E := s.f.env hl s.hh s.hu s.hv s.hb s.hr
  have hs := s.hs
  unfold dynamics_Spread_p
  rw [bnds hc, if_neg (by decide), show dynamics_within_p (100000 : Int) = some 100000 from rfl, Option.bind_some, within1 _ 100000 (by decide), Option.bind_some, if_neg (inSn.2 fun z hz => by rw [List.mem_singleton.1 hz]; exact s.hh), show dynamics_within_p (100 : Int) = some 100 from rfl, Option.bind_some, within1 _ 100 (by decide), Option.bind_some, if_neg (inSn.2 fun z hz => by
    rcases List.mem_cons.1 hz with rfl | hz
    · exact s.hu
    · rw [List.mem_singleton.1 hz]; exact s.hv), bnds (known_p hc g b), if_pos s.hb, if_neg (by decide), bnds (spread_spec E), if_neg (by omega)]
  rfl
theorem Spread_cases {x : ModelD} (hl : LimM x) (h u v b : Int) : ∃ l e, dynamics_Spread_p x h u v b = some (l, e) ∧ (e ≠ 0 → l = []) ∧ (e = 0 → ∃ r, SpOK x h u v b r ∧ l = outs x h u v b r) := by
  obtain ⟨e, hc, g⟩ := check_p x
  by_cases he : e = 0
  · subst he
    have g := g rfl
    have f := (check_iff x hl).1 hc
    by_cases hh : ∀ z ∈ [h], -100000 ≤ z ∧ z ≤ 100000
    · by_cases hu : ∀ z ∈ [u, v], -100 ≤ z ∧ z ≤ 100
      · by_cases hb : 0 ≤ b ∧ b < (x.advisories.length : Int)
        · obtain ⟨r, hr, _⟩ := resp_bd f g hb (hu u (by simp))
          by_cases hs : (sums x h u v b r).length ≤ 64
          · have s : SpOK x h u v b r := ⟨f, hh h (by simp), hu u (by simp), hu v (by simp), hb, hr, hs⟩
            exact ⟨_, _, Spread_ok hl s, fun h => absurd rfl h, fun _ => ⟨r, s, rfl⟩⟩
          · have E := f.env hl (hh h (by simp)) (hu u (by simp)) (hu v (by simp)) hb hr
            refine ⟨[], 10, ?_, fun _ => rfl, fun h => by cases h⟩
            unfold dynamics_Spread_p
            rw [bnds hc, if_neg (by decide), show dynamics_within_p (100000 : Int) = some 100000 from rfl, Option.bind_some, within1 _ 100000 (by decide), Option.bind_some, if_neg (inSn.2 hh), show dynamics_within_p (100 : Int) = some 100 from rfl, Option.bind_some, within1 _ 100 (by decide), Option.bind_some, if_neg (inSn.2 hu), bnds (known_p hc g b), if_pos hb, if_neg (by decide), bnds (spread_spec E), if_pos (by omega)]
        · refine ⟨[], 8, ?_, fun _ => rfl, fun h => by cases h⟩
          unfold dynamics_Spread_p
          rw [bnds hc, if_neg (by decide), show dynamics_within_p (100000 : Int) = some 100000 from rfl, Option.bind_some, within1 _ 100000 (by decide), Option.bind_some, if_neg (inSn.2 hh), show dynamics_within_p (100 : Int) = some 100 from rfl, Option.bind_some, within1 _ 100 (by decide), Option.bind_some, if_neg (inSn.2 hu), bnds (known_p hc g b), if_neg hb, if_pos (by decide)]
      · refine ⟨[], 1, ?_, fun _ => rfl, fun h => by cases h⟩
        unfold dynamics_Spread_p
        rw [bnds hc, if_neg (by decide), show dynamics_within_p (100000 : Int) = some 100000 from rfl, Option.bind_some, within1 _ 100000 (by decide), Option.bind_some, if_neg (inSn.2 hh), show dynamics_within_p (100 : Int) = some 100 from rfl, Option.bind_some, within1 _ 100 (by decide), Option.bind_some, if_pos (Classical.not_not.1 fun h => hu (inSn.1 h))]
    · refine ⟨[], 1, ?_, fun _ => rfl, fun h => by cases h⟩
      unfold dynamics_Spread_p
      rw [bnds hc, if_neg (by decide), show dynamics_within_p (100000 : Int) = some 100000 from rfl, Option.bind_some, within1 _ 100000 (by decide), Option.bind_some, if_pos (Classical.not_not.1 fun h => hh (inSn.1 h))]
  · refine ⟨[], e, ?_, fun _ => rfl, fun h => absurd h he⟩
    unfold dynamics_Spread_p
    rw [bnds hc, if_pos (by simpa using he)]
/-! ### The response, mirrored -/
theorem mirB_ix {l : List BoundsD} {b : Int} {y : BoundsD} (h : ix l b = some y) : ix (mirB l) b = some (if b = 0 then y else negB y) := by
  obtain ⟨h0, h1⟩ := ix_some h
  obtain ⟨k, rfl⟩ := Int.eq_ofNat_of_zero_le h0
  rw [ix_nat]
  have h1 : l[k]? = some y := by simpa using h1
  cases k with
  | zero => rw [mirB_0, h1]; rfl
  | succ k => rw [mirB_S, h1, if_neg (by omega)]; rfl
theorem resp_mir {x : ModelD} (f : Full x) (hl : LimM x) {u b r : Int} (hb : 0 ≤ b ∧ b < (x.advisories.length : Int)) (hu : -100 ≤ u ∧ u ≤ 100) (hr : dynamics_respond_p x u b = some r) : dynamics_respond_p (mirrorD x) (-u) b = some (-r) := by
  obtain ⟨_, g⟩ := f.good hl
  obtain ⟨_, g'⟩ := f.mir.good hl.mir
  obtain ⟨y, h1, h2, h3⟩ := respond_eq g hb hu
  obtain ⟨z, k1, k2, k3⟩ := respond_eq g' (b := b) (u := -u) (by show 0 ≤ b ∧ b < ((mirB x.advisories).length : Int); rw [mirB_len]; exact hb) (by omega)
  rw [h3] at hr
  have hr := Option.some.inj hr
  rw [k3, ← hr]
  have k1 : ix (mirB x.advisories) b = some z := k1
  rw [mirB_ix h1] at k1
  by_cases h0 : b = 0
  · rw [if_pos h0, if_pos h0]
  · rw [if_neg h0] at k1
    obtain rfl := Option.some.inj k1
    have hy := h2 h0
    have hp := f.p
    rw [if_neg h0, if_neg h0]
    show some (if -u < -y.hi then if -y.hi < -u + x.pull then -y.hi else -u + x.pull else if -u > -y.lo then if -y.lo > -u - x.pull then -y.lo else -u - x.pull else -u) = _
    congr 1
    repeat' split
    all_goals omega
/-! ### The weights, mirrored -/
theorem Axis.turn {l : List Int} (h : Axis l) : Axis (turnL l) := by
  refine ⟨by rw [turnL_len]; exact h.ne, by rw [turnL_len]; exact h.le, ?_, fun z hz => ?_⟩
  · unfold turnL
    rw [List.pairwise_reverse, List.pairwise_map]
    exact h.asc.imp fun hab => by omega
  · have := h.bd _ (mem_turnL hz); omega
def mirW (N : Nat) (W : List (Nat × Rat)) : List (Nat × Rat) := (W.map fun p => (N - 1 - p.1, p.2)).reverse
theorem ShSpec.mir {l : List Int} {c : Int} {S : List (Nat × Rat)} (hs : ShSpec l c S) : ShSpec (turnL l) (-c) (mirW l.length S) := by
  rcases hs with ⟨k, h1, rfl⟩ | ⟨k, a, b, h1, h2, h3, h4, rfl⟩
  · exact .inl ⟨l.length - 1 - k, turnL_get h1, rfl⟩
  · have hk := (List.getElem?_eq_some_iff.1 h2).1
    refine .inr ⟨l.length - 1 - (k + 1), -b, -a, turnL_get h2, ?_, by omega, by omega, ?_⟩
    · rw [show l.length - 1 - (k + 1) + 1 = l.length - 1 - k by omega]; exact turnL_get h1
    · rw [show -a - -c = c - a by omega, show -c - -b = b - c by omega, show -a - -b = b - a by omega, show l.length - 1 - (k + 1) + 1 = l.length - 1 - k by omega]
      rfl
theorem clampL_mir {l : List Int} (h : Axis l) (x : Int) : clampL (turnL l) (-x) = -clampL l x := by
  have hn := h.ne
  obtain ⟨a, ha⟩ : ∃ a, l[0]? = some a := ⟨l[0]'(by omega), by simp⟩
  obtain ⟨z, hz⟩ : ∃ z, l[l.length - 1]? = some z := ⟨l[l.length - 1]'(by omega), by simp⟩
  have hle : a ≤ z := by
    rcases Nat.eq_zero_or_pos (l.length - 1) with e | e
    · rw [e] at hz; rw [ha] at hz; cases hz; exact Int.le_refl _
    · exact Int.le_of_lt (h.lt e ha hz)
  have ha' := turnL_get ha
  have hz' := turnL_get hz
  rw [Nat.sub_self] at hz'
  unfold clampL
  rw [head0 ha, last0 hz, head0 hz', last0 (l := turnL l) (x := -a) (by rw [turnL_len]; exact ha')]
  unfold clampZ
  repeat' split
  all_goals omega
theorem revFlat {α β : Type} (l : List α) (f : α → List β) : l.reverse.flatMap f = (l.flatMap fun a => (f a).reverse).reverse := by
  rw [List.reverse_flatMap]
  congr 1
  funext a
  simp
theorem wstep_map {len N : Nat} {S : List (Nat × Rat)} (hs : ∀ s ∈ S, s.1 < len) : ∀ {W : List (Nat × Rat)}, (∀ p ∈ W, p.1 < N) → wstep len (W.map fun p => (N - 1 - p.1, p.2)) (S.map fun s => (len - 1 - s.1, s.2)) = (wstep len W S).map fun q => (N * len - 1 - q.1, q.2)
  | [], _ => rfl
  | p :: W, hw => by
    rw [List.map_cons, wstep_cons, wstep_cons, wstep_map hs fun q hq => hw q (by simp [hq]), List.map_append, List.map_map, List.map_map]
    congr 1
    refine List.map_congr_left fun s h => ?_
    have h1 := hw p (by simp)
    have h2 := hs s h
    have e : (N - 1 - p.1) * len + (len - 1 - s.1) = N * len - 1 - (p.1 * len + s.1) := by
      obtain ⟨m, rfl⟩ : ∃ m, N = p.1 + 1 + m := ⟨N - (p.1 + 1), by omega⟩
      rw [show p.1 + 1 + m - 1 - p.1 = m by omega, Nat.add_mul, Nat.add_mul]
      omega
    show ((N - 1 - p.1) * len + (len - 1 - s.1), p.2 * s.2) = (N * len - 1 - (p.1 * len + s.1), p.2 * s.2)
    rw [e]
theorem wstep_mir {len N : Nat} {W S : List (Nat × Rat)} (hs : ∀ s ∈ S, s.1 < len) (hw : ∀ p ∈ W, p.1 < N) : wstep len (mirW N W) (mirW len S) = mirW (N * len) (wstep len W S) := by
  unfold mirW
  rw [← wstep_map hs hw]
  unfold wstep
  rw [revFlat]
  congr 2
  funext p
  rw [List.map_reverse, List.reverse_reverse]
theorem mem_one {p : Nat × Rat} (hp : p ∈ [((0 : Nat), (1 : Rat))]) : p.1 < 1 := by rw [List.mem_singleton.1 hp]; decide
theorem WSpec.mir {a b c : List Int} (ha : Axis a) (hb : Axis b) (hc : Axis c) {x y z : Int} {W : List (Nat × Rat)} (h : WSpec a b c x y z W) : WSpec (turnL a) (turnL b) (turnL c) (-x) (-y) (-z) (mirW (a.length * b.length * c.length) W) := by
  obtain ⟨Sa, Sb, Sc, h1, h2, h3, rfl⟩ := h
  obtain ⟨_, a2, _⟩ := h1.db ha
  obtain ⟨_, b2, _⟩ := h2.db hb
  obtain ⟨_, c2, _⟩ := h3.db hc
  refine ⟨_, _, _, by rw [clampL_mir ha]; exact h1.mir, by rw [clampL_mir hb]; exact h2.mir, by rw [clampL_mir hc]; exact h3.mir, ?_⟩
  have v2 := wstep_lt (N := 1) (W := [((0 : Nat), (1 : Rat))]) (fun p hp => mem_one hp) a2
  have v3 := wstep_lt v2 b2
  rw [turnL_len, turnL_len, turnL_len, show a.length * b.length * c.length = 1 * a.length * b.length * c.length by rw [Nat.one_mul], ← wstep_mir c2 v3, ← wstep_mir b2 v2, ← wstep_mir (N := 1) a2 fun p hp => mem_one hp]
  rfl
section
variable {x : ModelD} {h u v b r : Int}
theorem Wf_mir (E : Env x h u v b r) (p q s : Int) : Wf (turnL x.height) (turnL x.own) (turnL x.other) (-p) (-q) (-s) = mirW (nV x) (Wf x.height x.own x.other p q s) := by
  have h1 := (Wf_spec E.h1 E.h2 E.h3 E.ck p q s).1.mir E.h1 E.h2 E.h3
  exact WSpec.unique E.h1.turn E.h2.turn E.h3.turn (Classical.epsilon_spec ⟨_, h1⟩) h1
/-- A key of the mirrored model is C minus the key. -/
def mC (x : ModelD) (b : Int) : Int := (((nV x - 1) * x.advisories.length : Nat) : Int) + 2 * b
def mirT (C : Int) (T : List (Int × Rat)) : List (Int × Rat) := (T.map fun t => (C - t.1, t.2)).reverse
theorem pair_mir (E : Env x h u v b r) (n o : NoiseD) : pairT (mirrorD x) (-h) (-u) (-v) b (-r) (negN n) (negN o) = mirT (mC x b) (pairT x h u v b r n o) := by
  have hW := (Wf_spec E.h1 E.h2 E.h3 E.ck (h + v - u) (r + n.delta) (v + o.delta)).1.db E.h1 E.h2 E.h3
  show (Wf (turnL x.height) (turnL x.own) (turnL x.other) (-h + -v - -u) (-r + -n.delta) (-v + -o.delta)).map (fun w => (keyZ (mirB x.advisories).length b w.1, n.p.rat * o.p.rat * w.2)) = _
  rw [show -h + -v - -u = -(h + v - u) by omega, show -r + -n.delta = -(r + n.delta) by omega, show -v + -o.delta = -(v + o.delta) by omega, Wf_mir E, mirB_len]
  unfold mirW mirT pairT
  rw [List.map_reverse, List.map_map, List.map_map]
  congr 1
  refine List.map_congr_left fun w hw => ?_
  have h1 : w.1 < nV x := hW.2.1 w hw
  show (keyZ x.advisories.length b (nV x - 1 - w.1), _) = (mC x b - keyZ x.advisories.length b w.1, _)
  congr 1
  unfold keyZ mC
  rw [Nat.sub_mul]
  have h2 : w.1 * x.advisories.length ≤ (nV x - 1) * x.advisories.length := Nat.mul_le_mul_right _ (by omega)
  omega
theorem terms_mir (E : Env x h u v b r) : termsT (mirrorD x) (-h) (-u) (-v) b (-r) = mirT (mC x b) (termsT x h u v b r) := by
  have inner : ∀ n, ((turnN x.otherNoise).flatMap fun o => pairT (mirrorD x) (-h) (-u) (-v) b (-r) (negN n) o) = mirT (mC x b) (x.otherNoise.flatMap fun o => pairT x h u v b r n o) := fun n => by
    unfold turnN
    rw [revFlat, List.flatMap_map]
    unfold mirT
    rw [List.map_flatMap]
    congr 2
    funext o
    rw [pair_mir E, mirT, List.reverse_reverse]
  show (turnN x.ownNoise).flatMap (fun n => (turnN x.otherNoise).flatMap fun o => pairT (mirrorD x) (-h) (-u) (-v) b (-r) n o) = _
  unfold turnN
  rw [revFlat, List.flatMap_map]
  unfold mirT termsT
  rw [List.map_flatMap]
  congr 2
  funext n
  have := inner n
  unfold turnN at this
  rw [this, mirT, List.reverse_reverse]
theorem sumAt_append (k : Int) : ∀ S T : List (Int × Rat), sumAt k (S ++ T) = sumAt k S + sumAt k T
  | [], T => by simp [sumAt, Rat.zero_add]
  | t :: S, T => by rw [List.cons_append, sumAt, sumAt, sumAt_append k S T, Rat.add_assoc]
theorem sumAt_mir (C k : Int) : ∀ T : List (Int × Rat), sumAt (C - k) (mirT C T) = sumAt k T
  | [] => rfl
  | t :: T => by
    have e : mirT C (t :: T) = mirT C T ++ [(C - t.1, t.2)] := by simp [mirT]
    rw [e, sumAt_append, sumAt_mir C k T, sumAt, Rat.add_comm]
    congr 1
    show (if C - t.1 = C - k then t.2 else 0) + 0 = _
    rw [Rat.add_zero]
    by_cases hk : t.1 = k
    · rw [if_pos hk, if_pos (by omega)]
    · rw [if_neg hk, if_neg (by omega)]
theorem sums_get (k : Int) : getP k 0 (sums x h u v b r) = sumAt k (termsT x h u v b r) := by
  unfold sums
  rw [getP_fold]
  show (0 : Rat) + _ = _
  rw [Rat.zero_add]
theorem sums_keys : ((sums x h u v b r).map Prod.fst).Nodup ∧ ∀ k, k ∈ (sums x h u v b r).map Prod.fst ↔ k ∈ (termsT x h u v b r).map Prod.fst := by
  obtain ⟨h1, h2⟩ := keys_fold (termsT x h u v b r) [] (by simp)
  refine ⟨h1, fun k => ?_⟩
  have := h2 k
  simp only [List.map_nil, List.not_mem_nil, false_or] at this
  exact this
theorem keys_mir (E : Env x h u v b r) : ((sums (mirrorD x) (-h) (-u) (-v) b (-r)).map Prod.fst).Perm (((sums x h u v b r).map Prod.fst).map fun k => mC x b - k) := by
  obtain ⟨h1, h2⟩ := sums_keys (x := x) (h := h) (u := u) (v := v) (b := b) (r := r)
  obtain ⟨k1, k2⟩ := sums_keys (x := mirrorD x) (h := -h) (u := -u) (v := -v) (b := b) (r := -r)
  have hn : (((sums x h u v b r).map Prod.fst).map fun k => mC x b - k).Nodup := by
    unfold List.Nodup
    rw [List.pairwise_map]
    exact List.Pairwise.imp (fun hab e => hab (by omega)) h1
  refine (List.perm_ext_iff_of_nodup k1 hn).2 fun k => ?_
  rw [k2, terms_mir E, mirT, List.map_reverse, List.mem_reverse, List.map_map, List.mem_map, List.mem_map]
  constructor
  · rintro ⟨t, ht, rfl⟩
    exact ⟨t.1, (h2 _).2 (List.mem_map.2 ⟨t, ht, rfl⟩), rfl⟩
  · rintro ⟨j, hj, rfl⟩
    obtain ⟨t, ht, rfl⟩ := List.mem_map.1 ((h2 _).1 hj)
    exact ⟨t, ht, rfl⟩
theorem outs_mir (E : Env x h u v b r) : (sums (mirrorD x) (-h) (-u) (-v) b (-r)).length = (sums x h u v b r).length ∧ outs (mirrorD x) (-h) (-u) (-v) b (-r) = ((outs x h u v b r).map fun o => Out.mk (mC x b - o.to) o.p).reverse := by
  have hp := keys_mir E
  have hs : sortZ ((sums (mirrorD x) (-h) (-u) (-v) b (-r)).map Prod.fst) = ((sortZ ((sums x h u v b r).map Prod.fst)).map fun k => mC x b - k).reverse := by
    refine sorted_unique ?_ (sortZ_sorted _) ?_
    · exact (sortZ_perm _).trans (hp.trans (((sortZ_perm _).map _).symm.trans (List.reverse_perm _).symm))
    · rw [List.pairwise_reverse, List.pairwise_map]
      exact (sortZ_sorted _).imp fun hab => by omega
  refine ⟨by simpa using hp.length_eq, ?_⟩
  unfold outs
  rw [hs, List.map_reverse, List.map_map, List.map_map]
  congr 1
  refine List.map_congr_left fun k _ => ?_
  show Out.mk (mC x b - k) (Raw.of (getP (mC x b - k) 0 (sums (mirrorD x) (-h) (-u) (-v) b (-r)))) = Out.mk (mC x b - k) (Raw.of (getP k 0 (sums x h u v b r)))
  rw [sums_get, sums_get, terms_mir E, sumAt_mir]
theorem SpOK.mir (hl : LimM x) (s : SpOK x h u v b r) : SpOK (mirrorD x) (-h) (-u) (-v) b (-r) := by
  have E := s.f.env hl s.hh s.hu s.hv s.hb s.hr
  have h1 := s.hh; have h2 := s.hu; have h3 := s.hv
  exact ⟨s.f.mir, by omega, by omega, by omega, by show 0 ≤ b ∧ b < ((mirB x.advisories).length : Int); rw [mirB_len]; exact s.hb, resp_mir s.f hl s.hb s.hu s.hr, by rw [(outs_mir E).1]; exact s.hs⟩
/-- Where the outcomes lie. -/
theorem outs_key (E : Env x h u v b r) {o : Out} (ho : o ∈ outs x h u v b r) : ∃ w, w < nV x ∧ o.to = keyZ x.advisories.length b w := by
  obtain ⟨k, hk, rfl⟩ := List.mem_map.1 ho
  have hk := (sums_keys.2 k).1 ((sortZ_perm _).mem_iff.1 hk)
  obtain ⟨t, ht, rfl⟩ := List.mem_map.1 hk
  obtain ⟨n, _, ht⟩ := List.mem_flatMap.1 ht
  obtain ⟨o, _, ht⟩ := List.mem_flatMap.1 ht
  obtain ⟨w, hw, rfl⟩ := List.mem_map.1 ht
  exact ⟨w.1, ((Wf_spec E.h1 E.h2 E.h3 E.ck _ _ _).1.db E.h1 E.h2 E.h3).2.1 w hw, rfl⟩
end
end Go.Proofs.YtppalofalmieaaaGreat

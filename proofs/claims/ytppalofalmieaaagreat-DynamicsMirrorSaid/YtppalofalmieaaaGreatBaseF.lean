/- Parts of the proof: P6. By an AI agent. -/
import Derived.Test.YtppalofalmieaaaGreatBaseA
import Derived.Test.YtppalofalmieaaaGreatBaseB
import Derived.Test.YtppalofalmieaaaGreatBaseC
import Derived.Test.YtppalofalmieaaaGreatBaseD
import Derived.Test.YtppalofalmieaaaGreatBaseE
set_option linter.unusedVariables false
set_option linter.unusedSimpArgs false
set_option linter.unnecessarySimpa false
/- DynamicsMirror as plain Lean. By an AI agent. -/
namespace Go.Proofs.YtppalofalmieaaaGreat
open Go Go.Gv Go.RowKit
set_option maxRecDepth 100000
set_option maxHeartbeats 1000000
theorem take_one {α : Type} {l : List α} {k : Nat} {x : α} (h : l[k]? = some x) : l.take (k + 1) = l.take k ++ [x] := by rw [List.take_add_one, h]; rfl
theorem turned_go (l : List Int) (hb : ∀ z ∈ l, -50000 ≤ z ∧ z ≤ 50000) (J : List Int → Option (List Int)) : ∀ (k : Nat) (acc : List Int), k ≤ l.length → acc.length + k ≤ 1000 → clearwaylaw24_turned_l5 l J (k + 1) acc ((k : Int) - 1) = J (acc ++ ((l.take k).map fun z => -z).reverse)
  | 0, acc, _, _ => by
    rw [clearwaylaw24_turned_l5, if_neg (by omega)]
    simp
  | k + 1, acc, hk, ha => by
    have hz : l[k]? = some l[k] := List.getElem?_eq_getElem (by omega)
    have bz := hb _ (List.mem_of_getElem? hz)
    rw [clearwaylaw24_turned_l5, if_pos (by omega), bnds (ixT (k := k) (by omega) hz), grdT (by omega), wi64 (x := 0 - l[k]) (by omega) (by omega), wi64 (x := ((k + 1 : Nat) : Int) - 1 - 1) (by omega) (by omega), show ((k + 1 : Nat) : Int) - 1 - 1 = (k : Int) - 1 by omega, turned_go l hb J k _ (by omega) (by simp; omega)]
    rw [take_one hz, List.map_append, List.reverse_append, Int.zero_sub, List.append_assoc]
    rfl
theorem turned_p (l : List Int) (h : l.length ≤ 32) (hb : ∀ z ∈ l, -50000 ≤ z ∧ z ≤ 50000) : clearwaylaw24_turned_p l = some (turnL l) := by
  unfold clearwaylaw24_turned_p
  rw [lt, wi64 (by omega) (by omega), turned_go l hb _ l.length [] (by omega) (by simp; omega)]
  simp [turnL]
theorem copyInts (l : List Int) (h : l.length ≤ 32) : clearwaykit_CopyInts_p l = some l := by
  have go : ∀ (J : List Int → Option (List Int)) (r acc : List Int), acc.length + r.length ≤ 1000 → clearwaykit_CopyInts_l5 J r acc = J (acc ++ r) := by
    intro J r
    induction r with
    | nil => intro acc _; rw [clearwaykit_CopyInts_l5, List.append_nil]
    | cons z r ih => intro acc ha; rw [clearwaykit_CopyInts_l5, grdT (by simp at ha; omega), ih _ (by simp at ha ⊢; omega)]; simp
  unfold clearwaykit_CopyInts_p
  rw [lt, List.drop_zero, go _ _ _ (by simp; omega), List.nil_append]
theorem copyRat {r : Raw} (h : ShortR r) : clearwaykit_CopyRat_p r = some r := by
  have h1 := h.n8
  have h2 := h.d8
  exact grdT (by omega)
theorem l97go (J : List NoiseD → Option ModelD) : ∀ (r acc : List NoiseD), (∀ n ∈ r, ShortR n.p) → acc.length + r.length ≤ 1000 → clearwaylaw24_mirror_l97 J r acc = J (acc ++ r)
  | [], acc, _, _ => by rw [clearwaylaw24_mirror_l97, List.append_nil]
  | n :: r, acc, h, ha => by
    rw [clearwaylaw24_mirror_l97]
    unfold clearwaykit_CopyNoise_p
    rw [copyRat (h n (by simp)), Option.bind_some, Option.bind_some, grdT (by simp at ha; omega), l97go J r _ (fun m hm => h m (by simp [hm])) (by simp at ha ⊢; omega)]
    simp
theorem l111go (J : List NoiseD → Option ModelD) : ∀ (r acc : List NoiseD), (∀ n ∈ r, ShortR n.p) → acc.length + r.length ≤ 1000 → clearwaylaw24_mirror_l111 J r acc = J (acc ++ r)
  | [], acc, _, _ => by rw [clearwaylaw24_mirror_l111, List.append_nil]
  | n :: r, acc, h, ha => by
    rw [clearwaylaw24_mirror_l111]
    unfold clearwaykit_CopyNoise_p
    rw [copyRat (h n (by simp)), Option.bind_some, Option.bind_some, grdT (by simp at ha; omega), l111go J r _ (fun m hm => h m (by simp [hm])) (by simp at ha ⊢; omega)]
    simp
theorem l125go (J : List BoundsD → Option ModelD) : ∀ (r acc : List BoundsD), acc.length + r.length ≤ 1000 → clearwaylaw24_mirror_l125 J r acc = J (acc ++ r)
  | [], acc, _ => by rw [clearwaylaw24_mirror_l125, List.append_nil]
  | n :: r, acc, ha => by
    rw [clearwaylaw24_mirror_l125, grdT (by simp at ha; omega), l125go J r _ (by simp at ha ⊢; omega)]
    simp
/-- A row that is overwritten from its end. -/
theorem set_turn {α : Type} {v : List α} {g : α → α} {k : Nat} {x : α} (hx : v[k]? = some x) : (v.take (v.length - k) ++ ((v.take k).map g).reverse).set (v.length - 1 - k) (g x) = v.take (v.length - (k + 1)) ++ ((v.take (k + 1)).map g).reverse := by
  obtain ⟨hk, rfl⟩ := List.getElem?_eq_some_iff.1 hx
  rw [List.set_append_left _ _ (by simp; omega)]
  obtain ⟨m, hm⟩ : ∃ m, v.length - k = m + 1 := ⟨v.length - k - 1, by omega⟩
  rw [hm, show v.length - 1 - k = m by omega, show v.length - (k + 1) = m by omega, take_one (List.getElem?_eq_getElem (show m < v.length by omega)), take_one (List.getElem?_eq_getElem hk), List.set_append_right _ _ (by simp; omega), List.map_append, List.reverse_append, List.length_take, Nat.min_eq_left (show m ≤ v.length by omega), Nat.sub_self, List.append_assoc]
  rfl
theorem l64go {x : ModelD} {v : List NoiseD} (hv : v = x.otherNoise) (h5 : v.length ≤ 5) (hd : ∀ n ∈ v, -100 ≤ n.delta ∧ n.delta ≤ 100) (J : List NoiseD → Option ModelD) : ∀ (r : List NoiseD) (k : Nat) (acc : List NoiseD), r = v.drop k → k ≤ v.length → acc = v.take (v.length - k) ++ ((v.take k).map negN).reverse → clearwaylaw24_mirror_l64 x v J r k acc = J (turnN v)
  | [], k, acc, hr, hk, ha => by
    have hk2 : v.length ≤ k := by have := congrArg List.length hr; simp at this; omega
    obtain rfl : k = v.length := by omega
    rw [clearwaylaw24_mirror_l64, ha]
    simp [turnN]
  | n :: r, k, acc, hr, hk, ha => by
    obtain ⟨hk1, hr1⟩ := drop_cons hr
    have hx : v[k]? = some v[k] := List.getElem?_eq_getElem hk1
    have hdk := hd _ (List.mem_of_getElem? hx)
    have hal : acc.length = v.length := by rw [ha]; simp; omega
    have iw : IntKind.i64.wrap (IntKind.i64.wrap ((v.length : Int) - 1) - (k : Int)) = ((v.length - 1 - k : Nat) : Int) := by rw [wi64 (x := (v.length : Int) - 1) (by omega) (by omega), wi64 (by omega) (by omega)]; omega
    have hq : acc[v.length - 1 - k]? = some acc[v.length - 1 - k] := List.getElem?_eq_getElem (by omega)
    rw [clearwaylaw24_mirror_l64, bnds (ixT (k := k) rfl (by rw [← hv]; exact hx)), iw, bnds (ixT (k := v.length - 1 - k) rfl hq), wi64 (x := 0 - (v[k]).delta) (by omega) (by omega), Int.toNat_natCast]
    refine l64go hv h5 hd J r (k + 1) _ hr1 (by omega) ?_
    rw [Int.zero_sub, ha]
    exact set_turn hx
theorem l75go {x : ModelD} {v : List NoiseD} (hv : v = x.ownNoise) (h5 : v.length ≤ 5) (hd : ∀ n ∈ v, -100 ≤ n.delta ∧ n.delta ≤ 100) (J : List NoiseD → Option ModelD) : ∀ (r : List NoiseD) (k : Nat) (acc : List NoiseD), r = v.drop k → k ≤ v.length → acc = v.take (v.length - k) ++ ((v.take k).map negN).reverse → clearwaylaw24_mirror_l75 x v J r k acc = J (turnN v)
  | [], k, acc, hr, hk, ha => by
    have hk2 : v.length ≤ k := by have := congrArg List.length hr; simp at this; omega
    obtain rfl : k = v.length := by omega
    rw [clearwaylaw24_mirror_l75, ha]
    simp [turnN]
  | n :: r, k, acc, hr, hk, ha => by
    obtain ⟨hk1, hr1⟩ := drop_cons hr
    have hx : v[k]? = some v[k] := List.getElem?_eq_getElem hk1
    have hdk := hd _ (List.mem_of_getElem? hx)
    have hal : acc.length = v.length := by rw [ha]; simp; omega
    have iw : IntKind.i64.wrap (IntKind.i64.wrap ((v.length : Int) - 1) - (k : Int)) = ((v.length - 1 - k : Nat) : Int) := by rw [wi64 (x := (v.length : Int) - 1) (by omega) (by omega), wi64 (by omega) (by omega)]; omega
    have hq : acc[v.length - 1 - k]? = some acc[v.length - 1 - k] := List.getElem?_eq_getElem (by omega)
    rw [clearwaylaw24_mirror_l75, bnds (ixT (k := k) rfl (by rw [← hv]; exact hx)), iw, bnds (ixT (k := v.length - 1 - k) rfl hq), wi64 (x := 0 - (v[k]).delta) (by omega) (by omega), Int.toNat_natCast]
    refine l75go hv h5 hd J r (k + 1) _ hr1 (by omega) ?_
    rw [Int.zero_sub, ha]
    exact set_turn hx
theorem l86go {x : ModelD} {v : List BoundsD} (hv : v = x.advisories) (h6 : v.length ≤ 6) (hd : ∀ y ∈ v.drop 1, AdvOK y) (J : List BoundsD → Option ModelD) : ∀ (r : List BoundsD) (k : Nat) (acc : List BoundsD), r = v.drop k → 1 ≤ k → acc = (mirB v).take k ++ v.drop k → clearwaylaw24_mirror_l86 x J r k acc = J (mirB v)
  | [], k, acc, hr, hk, ha => by
    have hk2 : v.length ≤ k := by have := congrArg List.length hr; simp at this; omega
    rw [clearwaylaw24_mirror_l86, ha, ← hr, List.append_nil, List.take_of_length_le (by rw [mirB_len]; exact hk2)]
  | y :: r, k, acc, hr, hk, ha => by
    obtain ⟨hk1, hr1⟩ := drop_cons hr
    obtain ⟨j, rfl⟩ : ∃ j, k = j + 1 := ⟨k - 1, by omega⟩
    have hx : v[j + 1]? = some v[j + 1] := List.getElem?_eq_getElem hk1
    have hy := hd v[j + 1] (List.mem_of_getElem? (i := j) (by rw [List.getElem?_drop, Nat.add_comm]; exact hx))
    have hal : acc.length = v.length := by rw [ha]; simp [mirB_len]; omega
    have hq : acc[j + 1]? = some acc[j + 1] := List.getElem?_eq_getElem (by omega)
    have e1 := hy.l0; have e2 := hy.l1; have e3 := hy.h0; have e4 := hy.h1
    have es : IntKind.u8.wrap ((3 : Int) - (v[j + 1]).sense) = 3 - (v[j + 1]).sense := by
      rcases hy.s with h | h <;> rw [h] <;> decide
    rw [clearwaylaw24_mirror_l86, bnds (ixT (k := j + 1) rfl (by rw [← hv]; exact hx)), bnds (ixT (k := j + 1) rfl hq), es, wi64 (x := 0 - (v[j + 1]).hi) (by omega) (by omega), wi64 (x := 0 - (v[j + 1]).lo) (by omega) (by omega)]
    refine l86go hv h6 hd J r (j + 1 + 1) _ hr1 (by omega) ?_
    have hml : ((mirB v).take (j + 1)).length = j + 1 := by rw [List.length_take, mirB_len]; omega
    rw [ha, List.set_append_right _ _ (by omega), hml, Nat.sub_self, List.drop_eq_getElem_cons hk1, List.set_cons_zero, List.take_add_one (i := j + 1), mirB_S, hx]
    simp [negB, Int.zero_sub]
theorem mirror_p {x : ModelD} (f : Full x) : clearwaylaw24_mirror_p x = some (mirrorD x) := by
  have a2 := f.a2
  have bo : ∀ z ∈ x.own, -50000 ≤ z ∧ z ≤ 50000 := fun z hz => by have := f.bo z hz; omega
  have bt : ∀ z ∈ x.other, -50000 ≤ z ∧ z ≤ 50000 := fun z hz => by have := f.bt z hz; omega
  have n1 := f.no.n5
  have n2 := f.nt.n5
  unfold clearwaylaw24_mirror_p
  simp only [List.drop_zero]
  rw [bnds (copyInts _ f.gh.n2), bnds (copyInts _ f.go.n2), bnds (copyInts _ f.gt.n2), lt, l125go _ _ _ (by simp; omega), List.nil_append, lt, l111go _ _ _ (fun n hn => (f.no.el n hn).sh) (by simp; omega), List.nil_append, lt, l97go _ _ _ (fun n hn => (f.nt.el n hn).sh) (by simp; omega), List.nil_append]
  rw [bnds (copyRat f.c1.1), bnds (copyRat f.c2.1), bnds (copyRat f.c3.1), bnds (turned_p _ f.gh.n2 f.bh), bnds (turned_p _ f.go.n2 bo), bnds (turned_p _ f.gt.n2 bt)]
  rw [lt, l86go rfl a2 f.adv _ _ 1 _ rfl (by omega) (by
    rcases hx : x.advisories with _ | ⟨y, l⟩
    · rfl
    · simp [mirB])]
  rw [lt, l75go rfl n1 (fun n hn => ⟨(f.no.el n hn).lo, (f.no.el n hn).hi⟩) _ _ 0 _ List.drop_zero.symm (by omega) (by simp)]
  rw [lt, l64go rfl n2 (fun n hn => ⟨(f.nt.el n hn).lo, (f.nt.el n hn).hi⟩) _ _ 0 _ List.drop_zero.symm (by omega) (by simp)]
  rfl
theorem split_key {x : ModelD} (hc : dynamics_Check_p x = some 0) (g : Good x) {b : Int} {w : Nat} (hw : w < nV x) (hb : 0 ≤ b ∧ b < (x.advisories.length : Int)) : dynamics_Split_p x (keyZ x.advisories.length b w) = some ((w : Int), b, 0) := by
  have hn := g.n_le
  have a1 := g.a1
  have a2 := g.a2
  have hnv := g.nV_le
  obtain ⟨c, rfl⟩ := Int.eq_ofNat_of_zero_le hb.1
  have hc' : c < x.advisories.length := by omega
  have e : keyZ x.advisories.length (c : Int) w = ((w * x.advisories.length + c : Nat) : Int) := by unfold keyZ; omega
  have hlt : w * x.advisories.length + c < nV x * x.advisories.length := by
    have : (w + 1) * x.advisories.length ≤ nV x * x.advisories.length := Nat.mul_le_mul_right _ (by omega)
    rw [Nat.succ_mul] at this
    omega
  have hd : (w * x.advisories.length + c) / x.advisories.length = w := by
    rw [Nat.mul_comm, Nat.mul_add_div (by omega), Nat.div_eq_of_lt hc', Nat.add_zero]
  have hm : (w * x.advisories.length + c) % x.advisories.length = c := by
    rw [Nat.mul_comm, Nat.mul_add_mod, Nat.mod_eq_of_lt hc']
  unfold dynamics_Split_p
  rw [bnds hc, if_neg (by decide), e, if_neg (by omega), bnds g.size, if_neg (by omega), grdT (by omega), grdT (by omega)]
  have h1 : Int.tdiv ((w * x.advisories.length + c : Nat) : Int) (x.advisories.length : Int) = (w : Int) := by
    show (((w * x.advisories.length + c) / x.advisories.length : Nat) : Int) = _
    rw [hd]
  have h2 : Int.tmod ((w * x.advisories.length + c : Nat) : Int) (x.advisories.length : Int) = (c : Int) := by
    show (((w * x.advisories.length + c) % x.advisories.length : Nat) : Int) = _
    rw [hm]
  rw [h1, h2, wi64 (by omega) (by omega)]
theorem known_l {x : ModelD} (hc : dynamics_Check_p x = some 0) (g : Good x) (l : List Int) : dynamics_known_p x l = some (if inS 0 ((x.advisories.length : Int) - 1) l = true then 0 else 8) := by
  have h1 := g.a1
  have h2 := g.a2
  unfold dynamics_known_p
  rw [bnds hc, if_neg (by decide), wi64 (by omega) (by omega), has_p, Option.bind_some]
  cases inS 0 ((x.advisories.length : Int) - 1) l <;> simp
theorem cost_tot {x : ModelD} (hc : dynamics_Check_p x = some 0) (g : Good x) (a b : Int) : ∃ c, dynamics_Cost_p x a b = some c := by
  unfold dynamics_Cost_p
  rw [known_l hc g, Option.bind_some]
  by_cases hk : inS 0 ((x.advisories.length : Int) - 1) [a, b] = true
  · rw [if_pos hk, if_neg (by decide)]
    have ha := inS_iff.1 hk a (by simp)
    have hb := inS_iff.1 hk b (by simp)
    obtain ⟨i, rfl⟩ := Int.eq_ofNat_of_zero_le ha.1
    obtain ⟨j, rfl⟩ := Int.eq_ofNat_of_zero_le hb.1
    rw [bnds (ixT (k := i) rfl (List.getElem?_eq_getElem (by omega))), bnds (ixT (k := j) rfl (List.getElem?_eq_getElem (by omega)))]
    simp only [lt, rat_Add_p, Option.bind_some]
    have ti : ∀ {p : Prop} [Decidable p] {A B : Option (Raw × Int)}, (∃ c, A = some c) → (∃ c, B = some c) → ∃ c, (if p then A else B) = some c := fun {p} _ {A B} h k => by
      by_cases hp : p
      · rw [if_pos hp]; exact h
      · rw [if_neg hp]; exact k
    repeat' first | exact ⟨_, rfl⟩ | apply ti
  · rw [if_neg hk, if_pos (by decide)]
    exact ⟨_, rfl⟩
theorem cost_mir {x : ModelD} (f : Full x) (hl : LimM x) (a b : Int) : dynamics_Cost_p (mirrorD x) a b = dynamics_Cost_p x a b := by
  obtain ⟨hc, g⟩ := f.good hl
  obtain ⟨hc', g'⟩ := f.mir.good hl.mir
  unfold dynamics_Cost_p
  rw [known_l hc g, known_l hc' g', Option.bind_some, Option.bind_some, show (mirrorD x).advisories.length = x.advisories.length from mirB_len _]
  by_cases hk : inS 0 ((x.advisories.length : Int) - 1) [a, b] = true
  · rw [if_pos hk, if_neg (by decide), if_neg (by decide)]
    have ha := inS_iff.1 hk a (by simp)
    have hb := inS_iff.1 hk b (by simp)
    obtain ⟨p, hp⟩ : ∃ p, ix x.advisories a = some p := by
      obtain ⟨i, rfl⟩ := Int.eq_ofNat_of_zero_le ha.1
      exact ⟨_, ixT (k := i) rfl (List.getElem?_eq_getElem (by omega))⟩
    obtain ⟨q, hq⟩ : ∃ q, ix x.advisories b = some q := by
      obtain ⟨i, rfl⟩ := Int.eq_ofNat_of_zero_le hb.1
      exact ⟨_, ixT (k := i) rfl (List.getElem?_eq_getElem (by omega))⟩
    have hp' : ix (mirrorD x).advisories a = _ := mirB_ix hp
    have hq' : ix (mirrorD x).advisories b = _ := mirB_ix hq
    rw [bnds hp, bnds hq, bnds hp', bnds hq']
    show _ = _
    by_cases a0 : a = 0
    · subst a0; rfl
    by_cases b0 : b = 0
    · subst b0
      simp only [lt, bne_self_eq_false, Bool.false_eq_true, if_false]
    rw [if_neg a0, if_neg b0]
    have e1 : ((negB p).sense == (negB q).sense) = (p.sense == q.sense) := by
      show (3 - p.sense == 3 - q.sense) = _
      by_cases h : p.sense = q.sense
      · rw [beqT h, beqT (by omega)]
      · rw [beqF h, beqF (by omega)]
    have e2 : ((negB p).lo == (negB q).lo) = (p.hi == q.hi) := by
      show (-p.hi == -q.hi) = _
      by_cases h : p.hi = q.hi
      · rw [beqT h, beqT (by omega)]
      · rw [beqF h, beqF (by omega)]
    have e3 : ((negB p).hi == (negB q).hi) = (p.lo == q.lo) := by
      show (-p.lo == -q.lo) = _
      by_cases h : p.lo = q.lo
      · rw [beqT h, beqT (by omega)]
      · rw [beqF h, beqF (by omega)]
    rw [e1, e2, e3, Bool.and_comm (p.hi == q.hi)]
    have sw : ∀ (S E : Option (Raw × Int)), (if (negB q).lo ≥ (negB p).lo then (if (negB q).hi ≤ (negB p).hi then S else E) else E) = (if q.lo ≥ p.lo then (if q.hi ≤ p.hi then S else E) else E) := fun S E => by
      show (if -q.hi ≥ -p.hi then (if -q.lo ≤ -p.lo then S else E) else E) = _
      repeat' split
      all_goals first | rfl | omega
    simp only [lt, sw]
    rfl
  · rw [if_neg hk, if_pos (by decide), if_pos (by decide)]
theorem l52go {x : ModelD} (hl : LimM x) {h u v b r : Int} (s : SpOK x h u v b r) (e0 : Int) (J : Option Bool) (hJ : J = some true) : ∀ (l : List Out) (k : Nat), l = (outs x h u v b r).drop k → clearwaylaw24_DynamicsMirror_l52 x (mirrorD x) (outs (mirrorD x) (-h) (-u) (-v) b (-r), e0) ((nV x : Nat) : Int) J l k = some true
  | [], k, _ => by rw [clearwaylaw24_DynamicsMirror_l52]; exact hJ
  | o :: l, k, hr => by
    obtain ⟨hk, hr1⟩ := drop_cons hr
    have ho : (outs x h u v b r)[k]? = some o := by
      have := congrArg List.head? hr
      rw [List.head?_drop] at this
      exact this.symm
    have E := s.f.env hl s.hh s.hu s.hv s.hb s.hr
    obtain ⟨hc, g⟩ := s.f.good hl
    obtain ⟨hc', g'⟩ := s.f.mir.good hl.mir
    obtain ⟨w, hw, hto⟩ := outs_key E (List.mem_of_getElem? ho)
    have hlen : (outs (mirrorD x) (-h) (-u) (-v) b (-r)).length = (outs x h u v b r).length := by rw [(outs_mir E).2]; simp
    have h64 : (outs x h u v b r).length ≤ 64 := by
      have := s.hs
      unfold outs
      rw [List.length_map, (sortZ_perm _).length_eq, List.length_map]
      exact this
    have hnv := g.nV_le
    have ho' : (outs (mirrorD x) (-h) (-u) (-v) b (-r))[(outs x h u v b r).length - 1 - k]? = some (Out.mk (mC x b - o.to) o.p) := by
      rw [(outs_mir E).2, List.getElem?_reverse (by simp; omega), List.length_map, List.getElem?_map, show (outs x h u v b r).length - 1 - ((outs x h u v b r).length - 1 - k) = k by omega, ho]
      rfl
    have hkey : mC x b - o.to = keyZ (mirrorD x).advisories.length b (nV x - 1 - w) := by
      rw [hto, show (mirrorD x).advisories.length = x.advisories.length from mirB_len _]
      unfold keyZ mC
      rw [Nat.sub_mul (nV x - 1) w]
      have h2 : w * x.advisories.length ≤ (nV x - 1) * x.advisories.length := Nat.mul_le_mul_right _ (by omega)
      omega
    have hnV : nV (mirrorD x) = nV x := by
      show (turnL x.height).length * (turnL x.own).length * (turnL x.other).length = _
      simp only [turnL_len]
      rfl
    have hs1 := split_key hc g hw s.hb
    have hs2 := split_key hc' g' (b := b) (w := nV x - 1 - w) (by rw [hnV]; omega) (by rw [show (mirrorD x).advisories.length = x.advisories.length from mirB_len _]; exact s.hb)
    rw [clearwaylaw24_DynamicsMirror_l52, hto, bnds hs1]
    show ((ix (outs (mirrorD x) (-h) (-u) (-v) b (-r)) (IntKind.i64.wrap ((IntKind.i64.wrap (((outs (mirrorD x) (-h) (-u) (-v) b (-r)).length : Int) - 1)) - (k : Int)))).bind _) = _
    rw [hlen, wi64 (x := ((outs x h u v b r).length : Int) - 1) (by omega) (by omega), wi64 (by omega) (by omega), bnds (ixT (k := (outs x h u v b r).length - 1 - k) (by omega) ho')]
    show ((dynamics_Split_p (mirrorD x) (mC x b - o.to)).bind _) = _
    rw [hkey, bnds hs2, if_neg (by simp), if_neg (by simp)]
    show (if ((IntKind.i64.wrap ((w : Int) + ((nV x - 1 - w : Nat) : Int))) != (IntKind.i64.wrap (((nV x : Nat) : Int) - 1))) = true then _ else _) = _
    rw [wi64 (x := (w : Int) + ((nV x - 1 - w : Nat) : Int)) (by omega) (by omega), wi64 (x := ((nV x : Nat) : Int) - 1) (by omega) (by omega), if_neg (by simp; omega)]
    unfold clearwaykit_EqualRat_p
    rw [Option.bind_some, if_neg (by simp)]
    exact l52go hl s e0 J hJ l (k + 1) hr1
theorem mirror_law (x : ModelD) (hl : LimM x) (h u v a b : Int) : clearwaylaw24_DynamicsMirror_p x h u v a b = some true := by
  obtain ⟨lg, hlg⟩ := long24 x
  unfold clearwaylaw24_DynamicsMirror_p
  rw [bnds hlg, awake_p]
  by_cases hg : lg = true
  · rw [if_pos hg]; rfl
  rw [if_neg hg, Option.bind_some, if_neg (by decide)]
  obtain ⟨l, e, hs, h1, h2⟩ := Spread_cases hl h u v b
  rw [bnds hs]
  by_cases he : e = 0
  · subst he
    obtain ⟨r, s, rfl⟩ := h2 rfl
    have f := s.f
    obtain ⟨hc, g⟩ := f.good hl
    have E := f.env hl s.hh s.hu s.hv s.hb s.hr
    have b1 := s.hh; have b2 := s.hu; have b3 := s.hv
    have e1 : x.height.length * x.own.length ≤ 32 * 32 := Nat.mul_le_mul f.gh.n2 f.go.n2
    have e2 : nV x ≤ 32768 := g.nV_le
    have z33 : IntKind.i64.wrap ((IntKind.i64.wrap ((x.height.length : Int) * (x.own.length : Int))) * (x.other.length : Int)) = ((nV x : Nat) : Int) := by
      rw [← Int.natCast_mul, wi64 (x := ((x.height.length * x.own.length : Nat) : Int)) (by omega) (by omega), ← Int.natCast_mul]
      exact wi64 (x := ((nV x : Nat) : Int)) (by omega) (by omega)
    rw [if_neg (by simp), bnds (mirror_p f), wi64 (x := 0 - h) (by omega) (by omega), wi64 (x := 0 - u) (by omega) (by omega), wi64 (x := 0 - v) (by omega) (by omega), Int.zero_sub, Int.zero_sub, Int.zero_sub, bnds (Spread_ok hl.mir (s.mir hl)), if_neg (by simp)]
    show (if (((outs (mirrorD x) (-h) (-u) (-v) b (-r)).length : Int) != ((outs x h u v b r).length : Int)) = true then some false else _) = _
    rw [if_neg (by rw [(outs_mir E).2]; simp), z33, Option.bind_some, lt]
    refine l52go hl s 0 _ ?_ _ 0 (by rw [List.drop_zero])
    obtain ⟨c, hcost⟩ := cost_tot hc g a b
    rw [bnds hcost, cost_mir f hl, bnds hcost, if_pos (by simp)]
    unfold clearwaykit_EqualRat_p
    simp
  · rw [if_pos (by simpa using he), h1 he]
    rfl
end Go.Proofs.YtppalofalmieaaaGreat

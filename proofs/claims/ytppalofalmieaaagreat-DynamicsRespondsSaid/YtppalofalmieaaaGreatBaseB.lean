/- Parts of the proof: GvL GwA GwD GxA GxB GxC GxD GxE GxF GxG GxH GxI GxJ GxK GxL GxM GyA HxA. By an AI agent. -/
import Derived.ProofKit
import Derived.SizedLaws
import Derived.Test.YtppalofalmieaaaGreatBaseA
set_option linter.unusedVariables false
set_option linter.unusedSimpArgs false
set_option linter.unnecessarySimpa false
/- The laws of package mdp over lists. By an AI agent; no program in sight. -/
namespace Go.Gv
open Go.RowKit
/-! ### The first of the least -/
section
variable {less : Raw → Raw → Bool} {xs : List Raw} {f : Raw → Rat}
theorem leastL_spec (hl : ∀ x ∈ xs, ∀ y ∈ xs, (less x y = true ↔ f x < f y)) : ∀ (l : List Raw) (b i : Nat), xs.drop i = l → b < xs.length → (b < i ∨ i = 0 ∧ b = 0) →
    (∀ j, j < i → f (xs.getD b .zero) ≤ f (xs.getD j .zero) ∧ (j < b → f (xs.getD b .zero) < f (xs.getD j .zero))) →
    ∀ j, j < xs.length → f (xs.getD (leastL less xs b i l) .zero) ≤ f (xs.getD j .zero) ∧ (j < leastL less xs b i l → f (xs.getD (leastL less xs b i l) .zero) < f (xs.getD j .zero))
  | [], b, i, hd, hb, hbi, h, j, hj => by
    have : xs.length ≤ i := List.drop_eq_nil_iff.1 hd
    exact h j (by omega)
  | x :: l, b, i, hd, hb, hbi, h, j, hj => by
    have hi : i < xs.length := by
      rcases Nat.lt_or_ge i xs.length with h1 | h1
      · exact h1
      · rw [List.drop_eq_nil_of_le h1] at hd; cases hd
    rw [List.drop_eq_getElem_cons hi] at hd
    injection hd with hx hd
    have hxi : xs.getD i .zero = x := by rw [List.getD_eq_getElem?_getD, List.getElem?_eq_getElem hi, hx]; rfl
    have hbm : xs.getD b .zero ∈ xs := by rw [List.getD_eq_getElem?_getD, List.getElem?_eq_getElem hb]; exact List.getElem_mem hb
    have hxm : x ∈ xs := hx ▸ List.getElem_mem hi
    rw [leastL]
    split
    · rename_i hlt
      have hlt := (hl x hxm _ hbm).1 hlt
      refine leastL_spec hl l i (i + 1) hd hi (.inl (by omega)) (fun k hk => ?_) j hj
      rw [hxi]
      rcases Nat.lt_or_ge k i with h1 | h1
      · have := (h k h1).1
        exact ⟨by grind, fun _ => by grind⟩
      · obtain rfl : k = i := by omega
        rw [hxi]
        exact ⟨Rat.le_refl, fun h => absurd h (by omega)⟩
    · rename_i hlt
      have hlt : ¬ f x < f (xs.getD b .zero) := fun h => hlt ((hl x hxm _ hbm).2 h)
      refine leastL_spec hl l b (i + 1) hd hb (.inl (by omega)) (fun k hk => ?_) j hj
      rcases Nat.lt_or_ge k i with h1 | h1
      · exact h k h1
      · obtain rfl : k = i := by omega
        rw [hxi]
        exact ⟨by grind, fun h => absurd h (by omega)⟩
theorem leastV_spec (hl : ∀ x ∈ xs, ∀ y ∈ xs, (less x y = true ↔ f x < f y)) (h0 : 0 < xs.length) (j : Nat) (hj : j < xs.length) :
    f (xs.getD (leastV less xs) .zero) ≤ f (xs.getD j .zero) ∧ (j < leastV less xs → f (xs.getD (leastV less xs) .zero) < f (xs.getD j .zero)) :=
  leastL_spec hl xs 0 0 rfl h0 (.inr ⟨rfl, rfl⟩) (fun _ h => absurd h (by omega)) j hj
end
theorem lessB_iff {x y : Raw} (hx : x.chk = 0) (hy : y.chk = 0) : lessB x y = true ↔ x.rat < y.rat := by
  unfold lessB; rw [decide_eq_true_iff]; exact cmp_lt hx hy
theorem greater_iff {x y : Raw} (hx : x.chk = 0) (hy : y.chk = 0) : greater x y = true ↔ -x.rat < -y.rat := by
  unfold greater; rw [decide_eq_true_iff, cmp_lt hy hx]; constructor <;> intro h <;> grind
theorem getD_mem {α : Type} {xs : List α} {i : Nat} {z : α} (h : i < xs.length) : xs.getD i z ∈ xs := by
  rw [List.getD_eq_getElem?_getD, List.getElem?_eq_getElem h]; exact List.getElem_mem h
theorem getD_map {α β : Type} {xs : List α} {i : Nat} {z : α} {y : β} {g : α → β} (h : i < xs.length) : (xs.map g).getD i y = g (xs.getD i z) := by
  rw [List.getD_eq_getElem?_getD, List.getD_eq_getElem?_getD, List.getElem?_map, List.getElem?_eq_getElem h]; rfl
theorem getD_get {α : Type} {xs : List α} {i : Nat} {x z : α} (h : xs[i]? = some x) : xs.getD i z = x := by rw [List.getD_eq_getElem?_getD, h]; rfl
/-! ### Best scores -/
section
variable {d : Raw} {v w : List Raw} {s : List Actn}
theorem best_lt (h : (scoresV d v s).2 = 0) (h0 : 0 < s.length) : bestI d v s < s.length := by
  have := leastV_lt (less := lessB) (xs := (scoresV d v s).1) (by rw [(scoresV_ok h).1, List.length_map]; exact h0)
  rw [(scoresV_ok h).1, List.length_map] at this
  unfold bestI; rw [(scoresV_ok h).1]; exact this
theorem bestR_eq (h : (scoresV d v s).2 = 0) (h0 : 0 < s.length) : bestR d v s = (scoreV d v (actAt s (bestI d v s))).1 := by
  have hl := best_lt h h0
  unfold bestR
  rw [(scoresV_ok h).1, getD_map (z := ⟨.zero, []⟩) hl]
  rfl
theorem bestR_ok (h : (scoresV d v s).2 = 0) (h0 : 0 < s.length) : bestR d v s = .of (bestR d v s).rat ∧ (bestR d v s).chk = 0 ∧ (bestR d v s).rat = scoreQ d v (actAt s (bestI d v s)) := by
  have hl := best_lt h h0
  have hm : actAt s (bestI d v s) ∈ s := getD_mem (by simpa using hl)
  obtain ⟨h1, h2, h3⟩ := scoreV_ok ((scoresV_ok h).2 _ hm)
  rw [bestR_eq h h0]
  exact ⟨by rw [h2]; exact h1, h3, h2⟩
theorem best_spec (h : (scoresV d v s).2 = 0) {j : Nat} (hj : j < s.length) : (bestR d v s).rat ≤ scoreQ d v (actAt s j) ∧ (j < bestI d v s → (bestR d v s).rat < scoreQ d v (actAt s j)) := by
  obtain ⟨h1, h2⟩ := scoresV_ok h
  have hlen : (scoresV d v s).1.length = s.length := by rw [h1, List.length_map]
  have hc : ∀ x ∈ (scoresV d v s).1, x.chk = 0 := by
    rw [h1]; intro x hx
    obtain ⟨a, ha, rfl⟩ := List.mem_map.1 hx
    exact (scoreV_ok (h2 a ha)).2.2
  have := leastV_spec (f := Raw.rat) (fun x hx y hy => lessB_iff (hc x hx) (hc y hy)) (by omega) j (by omega)
  have e : ((scoresV d v s).1.getD j .zero).rat = scoreQ d v (actAt s j) := by
    rw [h1, getD_map (z := ⟨.zero, []⟩) hj]
    exact (scoreV_ok (h2 _ (getD_mem hj))).2.1
  rw [e] at this
  exact this
/-- The best index is told by the scores as rational numbers, up to a shift. -/
theorem bestI_shift (h : (scoresV d v s).2 = 0) (h' : (scoresV d w s).2 = 0) (h0 : 0 < s.length) (c : Rat) (hs : ∀ a ∈ s, scoreQ d w a = scoreQ d v a + c) : bestI d w s = bestI d v s := by
  have l1 := best_lt h h0
  have l2 := best_lt h' h0
  have a1 := best_spec h l2
  have a2 := best_spec h' l1
  have e1 := (bestR_ok h h0).2.2
  have e2 := (bestR_ok h' h0).2.2
  have m1 : actAt s (bestI d v s) ∈ s := getD_mem (by simpa using l1)
  have m2 : actAt s (bestI d w s) ∈ s := getD_mem (by simpa using l2)
  have s1 := hs _ m1
  have s2 := hs _ m2
  rcases Nat.lt_trichotomy (bestI d w s) (bestI d v s) with hlt | heq | hlt
  · have := a1.2 hlt; have := a2.1; exfalso; grind
  · exact heq
  · have := a2.2 hlt; have := a1.1; exfalso; grind
end
/-! ### Sums -/
section
theorem dotQ_shift {α : Type} {p f g : α → Rat} {c : Rat} : ∀ {l : List α}, (∀ o ∈ l, g o = f o + c) → dotQ (l.map p) (l.map g) = dotQ (l.map p) (l.map f) + c * sumQ (l.map p)
  | [], _ => by simp [dotQ, sumQ]; grind
  | o :: l, h => by
    simp only [List.map_cons, dotQ, sumQ]
    rw [dotQ_shift (fun q hq => h q (by simp [hq])), h o (by simp)]
    grind
theorem dotQ_mono {α : Type} {p f g : α → Rat} : ∀ {l : List α}, (∀ o ∈ l, 0 ≤ p o ∧ f o ≤ g o) → dotQ (l.map p) (l.map f) ≤ dotQ (l.map p) (l.map g)
  | [], _ => Rat.le_refl
  | o :: l, h => by
    simp only [List.map_cons, dotQ]
    have ih := dotQ_mono (p := p) (f := f) (g := g) (l := l) (fun q hq => h q (by simp [hq]))
    have h1 := h o (by simp)
    have h2 : p o * f o ≤ p o * g o := Rat.mul_le_mul_of_nonneg_left h1.2 h1.1
    grind
end
/-! ### Backup -/
section
variable {m : Mdp} {v w : List Raw}
theorem back_ok (h : (m.backV v).2.2 = 0) : m.chkV v = 0 ∧ (m.backV v).1 = m.states.map (bestR m.disc v) ∧ (m.backV v).2.1 = m.states.map (fun s => (bestI m.disc v s : Int)) ∧ (∀ s ∈ m.states, (scoresV m.disc v s).2 = 0) := by
  unfold Mdp.backV at h ⊢
  split at h
  · rename_i h1; exact absurd h h1
  · rename_i h1
    rw [if_neg h1]
    obtain ⟨i1, i2, i3⟩ := backGo_ok h
    exact ⟨Classical.not_not.1 h1, by simpa using i1, by simpa using i2, i3⟩
theorem back_err (h : (m.backV v).2.2 ≠ 0) : (m.backV v).1 = [] ∧ (m.backV v).2.1 = [] := by
  unfold Mdp.backV at h ⊢
  split at h
  · rename_i h1; rw [if_pos h1]; exact ⟨rfl, rfl⟩
  · rename_i h1
    rw [if_neg h1]
    obtain ⟨i1, i2, _⟩ := backGo_err h
    exact ⟨i1, i2⟩
theorem back_len (h : (m.backV v).2.2 = 0) : (m.backV v).1.length = m.states.length ∧ (m.backV v).2.1.length = m.states.length ∧ v.length = m.states.length := by
  obtain ⟨h1, h2, h3, _⟩ := back_ok h
  exact ⟨by rw [h2, List.length_map], by rw [h3, List.length_map], (Mdp.chkV_ok h1).2⟩
theorem pick_mem {o : Out} (h0 : 0 ≤ o.to) (h1 : o.to < v.length) : pick v o ∈ v := getD_mem (by omega)
/-- A valid process and a list of valid values: the backup is right or too long. -/
theorem back_cases (h : m.chkV v = 0) (hv : ∀ x ∈ v, x.chk = 0) : (m.backV v).2.2 = 0 ∨ (m.backV v).2.2 = 4 := by
  rcases Classical.em ((m.backV v).2.2 = 0) with h0 | h0
  · exact .inl h0
  · have e : (m.backV v) = backGo m.disc v [] [] m.states := by unfold Mdp.backV; rw [if_neg (by simpa using h)]
    rw [e] at h0 ⊢
    obtain ⟨_, _, s, hs, a, ha, e2⟩ := backGo_err h0
    rw [e2] at h0 ⊢
    obtain ⟨hc, hl⟩ := Mdp.chkV_ok h
    obtain ⟨hd, _, _, _, _, hst⟩ := Mdp.chk_ok hc
    obtain ⟨c1, c2, _⟩ := chkAct_ok ((hst s hs).2.2 a ha)
    exact scoreV_cases hd c1 (fun o ho => (c2 o ho).2.2.1) (fun o ho => hv _ (pick_mem (c2 o ho).1 (by have := (c2 o ho).2.1; omega)))
/-! ### MdpGreedy -/
theorem greedy_score (h : (m.backV v).2.2 = 0) {s : Nat} (hs : s < m.states.length) {a : Nat} (ha : a < (m.states.getD s []).length) :
    (m.scoreAt v s a).2 = 0 ∧ cmpE ((m.backV v).1.getD s .zero) (m.scoreAt v s a).1 = 0 ∧ cmpR ((m.backV v).1.getD s .zero) (m.scoreAt v s a).1 ≤ 0 ∧ ((a : Int) < (m.backV v).2.1.getD s 0 → ¬ (cmpR (m.scoreAt v s a).1 ((m.backV v).1.getD s .zero) ≤ 0)) := by
  obtain ⟨h1, h2, h3, h4⟩ := back_ok h
  have hm : m.states.getD s [] ∈ m.states := getD_mem hs
  have hst := (Mdp.chk_ok (Mdp.chkV_ok h1).1).2.2.2.2.2 _ hm
  have hsc := h4 _ hm
  have ham : actAt (m.states.getD s []) a ∈ m.states.getD s [] := getD_mem (by simpa using ha)
  obtain ⟨s1, s2, s3⟩ := scoreV_ok ((scoresV_ok hsc).2 _ ham)
  have e : m.scoreAt v s a = scoreV m.disc v (actAt (m.states.getD s []) a) := by
    unfold Mdp.scoreAt
    rw [if_neg (by simpa using h1), if_neg (by simp only [Int.toNat_natCast]; omega), Int.toNat_natCast]
  rw [e, h2, h3, getD_map (z := []) hs, getD_map (z := []) hs]
  obtain ⟨b1, b2, b3⟩ := bestR_ok hsc hst.1
  have hb := best_spec hsc ha
  refine ⟨(scoresV_ok hsc).2 _ ham, cmp_ok b2 s3, (cmp_le b2 s3).2 (by rw [s2]; exact hb.1), fun hlt => ?_⟩
  rw [cmp_le s3 b2, s2]
  have := hb.2 (by omega)
  grind
theorem greedy_same (h : (m.backV v).2.2 = 0) : m.underV (m.backV v).2.1 v = ((m.backV v).1, 0) := by
  obtain ⟨h1, h2, h3, h4⟩ := back_ok h
  have hst := (Mdp.chk_ok (Mdp.chkV_ok h1).1).2.2.2.2.2
  unfold Mdp.underV
  rw [if_neg (by simpa using h1), if_neg (by rw [(back_len h).2.1]; simp), h3, underGo_zip (by simp)]
  · rw [h2, List.nil_append]
    congr 1
    have : ∀ (l : List (List Actn)), (∀ s ∈ l, (scoresV m.disc v s).2 = 0 ∧ 0 < s.length) → List.zipWith (fun s i => (scoreV m.disc v (actAt s i)).1) l (l.map fun s => (bestI m.disc v s : Int)) = l.map (bestR m.disc v) := by
      intro l
      induction l with
      | nil => intro _; rfl
      | cons s l ih =>
        intro hl
        simp only [List.map_cons, List.zipWith_cons_cons]
        rw [ih (fun t ht => hl t (by simp [ht])), bestR_eq (hl s (by simp)).1 (hl s (by simp)).2]
    exact this _ (fun s hs => ⟨h4 s hs, (hst s hs).1⟩)
  · intro k s i hk hi
    rw [List.getElem?_map, hk] at hi
    obtain rfl : (bestI m.disc v s : Int) = i := by simpa using hi
    have hm := List.mem_of_getElem? hk
    have hl := best_lt (h4 s hm) (hst s hm).1
    exact ⟨by omega, (scoresV_ok (h4 s hm)).2 _ (getD_mem (by simpa using hl))⟩
theorem greedy_under (h : (m.backV v).2.2 = 0) (p : List Int) : ((m.underV p v).2 = 0 ∧ (m.underV p v).1.length = m.states.length ∧ ∀ s, s < m.states.length → cmpE ((m.backV v).1.getD s .zero) ((m.underV p v).1.getD s .zero) = 0 ∧ cmpR ((m.backV v).1.getD s .zero) ((m.underV p v).1.getD s .zero) ≤ 0) ∨
    (((m.underV p v).2 = 16 ∨ (m.underV p v).2 = 8) ∧ (m.underV p v).1 = []) := by
  obtain ⟨h1, h2, h3, h4⟩ := back_ok h
  have hst := (Mdp.chk_ok (Mdp.chkV_ok h1).1).2.2.2.2.2
  unfold Mdp.underV
  rw [if_neg (by simpa using h1)]
  split
  · exact .inr ⟨.inl rfl, rfl⟩
  · rename_i hl
    have hl : m.states.length = p.length := (Classical.not_not.1 hl).symm
    rcases Classical.em ((underGo m.disc v [] m.states p).2 = 0) with h0 | h0
    · obtain ⟨u1, u2⟩ := underGo_ok hl h0
      rw [List.nil_append] at u1
      refine .inl ⟨h0, by rw [u1, List.length_zipWith]; omega, fun s hs => ?_⟩
      have hsp : s < p.length := by omega
      have g1 : m.states[s]? = some m.states[s] := List.getElem?_eq_getElem hs
      have g2 : p[s]? = some p[s] := List.getElem?_eq_getElem hsp
      have hr := u2 s _ _ g1 g2
      have hm : m.states[s] ∈ m.states := List.getElem_mem hs
      have ha : (p[s]).toNat < m.states[s].length := by omega
      have ham : actAt m.states[s] p[s] ∈ m.states[s] := getD_mem ha
      obtain ⟨s1, s2, s3⟩ := scoreV_ok ((scoresV_ok (h4 _ hm)).2 _ ham)
      obtain ⟨b1, b2, b3⟩ := bestR_ok (h4 _ hm) (hst _ hm).1
      have e1 : (underGo m.disc v [] m.states p).1.getD s .zero = (scoreV m.disc v (actAt m.states[s] p[s])).1 := getD_get (by rw [u1, List.getElem?_zipWith, g1, g2])
      have e2 : (m.backV v).1.getD s .zero = bestR m.disc v m.states[s] := getD_get (by rw [h2, List.getElem?_map, g1]; rfl)
      rw [e1, e2]
      refine ⟨cmp_ok b2 s3, (cmp_le b2 s3).2 ?_⟩
      rw [s2]
      have h9 := (best_spec (h4 _ hm) ha).1
      have e9 : ((p[s].toNat : Nat) : Int) = p[s] := by omega
      rw [e9] at h9
      exact h9
    · obtain ⟨u1, u2⟩ := underGo_err h0
      rcases u2 with u2 | ⟨s, hs, a, ha, e⟩
      · exact .inr ⟨.inr u2, u1⟩
      · rw [e] at h0
        exact absurd ((scoresV_ok (h4 s hs)).2 a ha) h0
/-! ### MdpShifts -/
def addAll (v : List Raw) (c : Raw) : List Raw := v.map fun x => opR x c (x.rat + c.rat)
theorem scoreQ_shift {d : Raw} {a : Actn} {c : Rat} (hs : sumQ (a.next.map (·.p.rat)) = 1) (h : ∀ o ∈ a.next, (pick w o).rat = (pick v o).rat + c) : scoreQ d w a = scoreQ d v a + d.rat * c := by
  unfold scoreQ
  rw [dotQ_shift (p := (·.p.rat)) (f := fun o => (pick v o).rat) (g := fun o => (pick w o).rat) h, hs]
  grind
theorem shift_score {c : Raw} (hc : m.chkV v = 0) (ha : ∀ x ∈ v, opE x c (x.rat + c.rat) = 0) {s : List Actn} (hs : s ∈ m.states) {a : Actn} (hm : a ∈ s) : scoreQ m.disc (addAll v c) a = scoreQ m.disc v a + m.disc.rat * c.rat := by
  obtain ⟨hk, hl⟩ := Mdp.chkV_ok hc
  have hst := (Mdp.chk_ok hk).2.2.2.2.2
  obtain ⟨_, c2, c3, _⟩ := chkAct_ok ((hst s hs).2.2 a hm)
  refine scoreQ_shift c3 (fun o ho => ?_)
  obtain ⟨o1, o2, _, _⟩ := c2 o ho
  have hlt : o.to.toNat < v.length := by omega
  unfold pick addAll
  rw [getD_map (z := .zero) hlt]
  exact (opE_ok (ha _ (getD_mem hlt))).2.2.2.1
theorem shift_chk {c : Raw} (hc : m.chkV v = 0) : m.chkV (addAll v c) = 0 := by
  obtain ⟨hk, hl⟩ := Mdp.chkV_ok hc
  unfold Mdp.chkV
  rw [if_neg (by simpa using hk), if_neg (by unfold addAll; rw [List.length_map]; simpa using hl)]
theorem shift_cases {c : Raw} (h : (m.backV v).2.2 = 0) (ha : ∀ x ∈ v, opE x c (x.rat + c.rat) = 0) : (m.backV (addAll v c)).2.2 = 0 ∨ (m.backV (addAll v c)).2.2 = 4 :=
  back_cases (shift_chk (back_ok h).1) (fun x hx => by
    obtain ⟨y, hy, rfl⟩ := List.mem_map.1 hx
    exact (opE_ok (ha y hy)).2.2.2.2)
theorem shift_law {c : Raw} (h : (m.backV v).2.2 = 0) (ha : ∀ x ∈ v, opE x c (x.rat + c.rat) = 0) (h' : (m.backV (addAll v c)).2.2 = 0) (hd : opE m.disc c (m.disc.rat * c.rat) = 0) :
    (m.backV (addAll v c)).2.1 = (m.backV v).2.1 ∧ ∀ s, s < m.states.length →
      (opE ((m.backV v).1.getD s .zero) (opR m.disc c (m.disc.rat * c.rat)) (((m.backV v).1.getD s .zero).rat + (opR m.disc c (m.disc.rat * c.rat)).rat) = 0 ∨ opE ((m.backV v).1.getD s .zero) (opR m.disc c (m.disc.rat * c.rat)) (((m.backV v).1.getD s .zero).rat + (opR m.disc c (m.disc.rat * c.rat)).rat) = 4) ∧
      (opE ((m.backV v).1.getD s .zero) (opR m.disc c (m.disc.rat * c.rat)) (((m.backV v).1.getD s .zero).rat + (opR m.disc c (m.disc.rat * c.rat)).rat) = 0 → opR ((m.backV v).1.getD s .zero) (opR m.disc c (m.disc.rat * c.rat)) (((m.backV v).1.getD s .zero).rat + (opR m.disc c (m.disc.rat * c.rat)).rat) = (m.backV (addAll v c)).1.getD s .zero) := by
  obtain ⟨h1, h2, h3, h4⟩ := back_ok h
  obtain ⟨g1, g2, g3, g4⟩ := back_ok h'
  have hst := (Mdp.chk_ok (Mdp.chkV_ok h1).1).2.2.2.2.2
  have hsame : ∀ s ∈ m.states, bestI m.disc (addAll v c) s = bestI m.disc v s := fun s hs =>
    bestI_shift (h4 s hs) (g4 s hs) (hst s hs).1 (m.disc.rat * c.rat) (fun a hm => shift_score h1 ha hs hm)
  refine ⟨?_, fun s hs => ?_⟩
  · rw [g3, h3]
    exact List.map_congr_left fun s hs => by rw [hsame s hs]
  · have hm : m.states.getD s [] ∈ m.states := getD_mem hs
    have hpos := (hst _ hm).1
    rw [h2, g2, getD_map (z := []) hs, getD_map (z := []) hs]
    obtain ⟨b1, b2, b3⟩ := bestR_ok (h4 _ hm) hpos
    obtain ⟨e1, e2, e3⟩ := bestR_ok (g4 _ hm) hpos
    obtain ⟨_, _, _, d4, d5⟩ := opE_ok hd
    refine ⟨opE_cases b2 d5 _, fun h0 => ?_⟩
    have hin : actAt (m.states.getD s []) (bestI m.disc v (m.states.getD s [])) ∈ m.states.getD s [] := getD_mem (by simpa using best_lt (h4 _ hm) hpos)
    rw [(opE_ok h0).2.2.1, e1, e3, hsame _ hm, b3, d4, shift_score h1 ha hm hin]
/-! ### Distances -/
def absQ (x : Rat) : Rat := if x < 0 then -x else x
theorem neg_chk {x : Raw} (h : x.chk = 0) : ({ x with neg := false } : Raw).chk = 0 := by
  unfold Raw.chk at h ⊢
  split at h
  · cases h
  · rename_i h1
    split at h
    · cases h
    · rename_i h2
      split at h
      · cases h
      · rename_i h3
        rw [if_neg h1, if_neg ?_, if_neg h3]
        rintro (e | e | e | ⟨e, f | f⟩)
        · exact h2 (.inl e)
        · exact h2 (.inr (.inl e))
        · exact h2 (.inr (.inr (.inl e)))
        · exact absurd f (by simp)
        · exact h2 (.inr (.inr (.inr ⟨e, .inr f⟩)))
theorem neg_rat (z : Rat) : ({ Raw.of z with neg := false } : Raw).rat = absQ z := by
  have hd : ({ Raw.of z with neg := false } : Raw).d = z.den := Raw.of_d z
  unfold Raw.rat
  rw [hd]
  simp only [Raw.of, val_nlimbs, sgn, Bool.false_eq_true, if_false]
  unfold absQ
  split
  · rename_i h
    have hn : z.num < 0 := by
      have : ¬ 0 ≤ z.num := fun e => by have := Rat.num_nonneg.1 e; grind
      omega
    have : ((z.num.natAbs : Nat) : Int) = -z.num := by omega
    rw [this, ← Rat.neg_mkRat, Rat.mkRat_self]
  · rename_i h
    have hn : 0 ≤ z.num := Rat.num_nonneg.2 (by grind)
    have : ((z.num.natAbs : Nat) : Int) = z.num := by omega
    rw [this, Rat.mkRat_self]
theorem distR_ok {x y : Raw} (h : opE x y (x.rat - y.rat) = 0) : (distR x y).chk = 0 ∧ (distR x y).rat = absQ (x.rat - y.rat) := by
  obtain ⟨_, _, e, _, hc⟩ := opE_ok h
  unfold distR
  refine ⟨neg_chk hc, ?_⟩
  rw [e]; exact neg_rat _
theorem distGo_ok : ∀ {xs ys acc : List Raw}, (distGo acc xs ys).2 = 0 → (distGo acc xs ys).1 = acc ++ List.zipWith distR xs ys ∧ ∀ (k : Nat) (x y : Raw), xs[k]? = some x → ys[k]? = some y → opE x y (x.rat - y.rat) = 0
  | [], ys, acc, _ => by simp [distGo]
  | x :: xs, [], acc, _ => by simp [distGo]
  | x :: xs, y :: ys, acc, h => by
    rw [distGo] at h ⊢
    split at h
    · rename_i h1
      rw [if_pos h1]
      obtain ⟨i1, i2⟩ := distGo_ok h
      refine ⟨by rw [i1]; simp, fun k a b ha hb => ?_⟩
      rcases k with _ | k
      · simp at ha hb; subst ha; subst hb; exact h1
      · exact i2 k a b (by simpa using ha) (by simpa using hb)
    · rename_i h1
      exact absurd h h1
theorem distGo_cases : ∀ {xs ys acc : List Raw}, (∀ x ∈ xs, x.chk = 0) → (∀ x ∈ ys, x.chk = 0) → (distGo acc xs ys).2 = 0 ∨ (distGo acc xs ys).2 = 4
  | [], ys, acc, _, _ => by simp [distGo]
  | x :: xs, [], acc, _, _ => by simp [distGo]
  | x :: xs, y :: ys, acc, h, h' => by
    rw [distGo]
    split
    · exact distGo_cases (fun z hz => h z (by simp [hz])) (fun z hz => h' z (by simp [hz]))
    · exact opE_cases (h x (by simp)) (h' y (by simp)) _
theorem distV_cases {xs ys : List Raw} (hl : xs.length = ys.length) (h : ∀ x ∈ xs, x.chk = 0) (h' : ∀ x ∈ ys, x.chk = 0) : (distV xs ys).2 = 0 ∨ (distV xs ys).2 = 4 := by
  unfold distV
  rw [if_pos hl]
  split
  · exact .inl rfl
  · exact distGo_cases h h'
/-- The distance is the greatest of the differences, and one of them or 0. -/
theorem distV_ok {xs ys : List Raw} (h : (distV xs ys).2 = 0) : xs.length = ys.length ∧ (distV xs ys).1.chk = 0 ∧ 0 ≤ (distV xs ys).1.rat ∧ (∀ (k : Nat) (x y : Raw), xs[k]? = some x → ys[k]? = some y → x.chk = 0 ∧ y.chk = 0 ∧ absQ (x.rat - y.rat) ≤ (distV xs ys).1.rat) ∧
    ((distV xs ys).1.rat = 0 ∨ ∃ (k : Nat) (x y : Raw), xs[k]? = some x ∧ ys[k]? = some y ∧ (distV xs ys).1.rat = absQ (x.rat - y.rat)) := by
  have hlen : xs.length = ys.length := by
    unfold distV at h; split at h
    · assumption
    · exact absurd h (by decide)
  have h2 : (distGo [.zero] xs ys).2 = 0 := by
    unfold distV at h; rw [if_pos hlen] at h; split at h
    · assumption
    · exact h
  have e : (distV xs ys).1 = (distGo [.zero] xs ys).1.getD (leastV greater (distGo [.zero] xs ys).1) .zero := by unfold distV; rw [if_pos hlen, if_pos h2]
  obtain ⟨g1, g2⟩ := distGo_ok h2
  generalize (distGo [.zero] xs ys).1 = D at g1 e
  have hz : List.length (List.zipWith distR xs ys) = xs.length := by rw [List.length_zipWith]; omega
  have hDl : D.length = xs.length + 1 := by rw [g1]; simp [List.length_zipWith]; omega
  have hel : ∀ i, i < D.length → (D.getD i .zero = .zero ∨ ∃ (k : Nat) (x y : Raw), xs[k]? = some x ∧ ys[k]? = some y ∧ i = k + 1 ∧ D.getD i .zero = distR x y) := by
    intro i hi
    rcases i with _ | k
    · left; rw [g1]; rfl
    · have hk : k < xs.length := by omega
      have hk' : k < ys.length := by omega
      refine .inr ⟨k, xs[k], ys[k], List.getElem?_eq_getElem hk, List.getElem?_eq_getElem hk', rfl, getD_get ?_⟩
      rw [g1]
      simp [List.getElem?_zipWith, List.getElem?_eq_getElem hk, List.getElem?_eq_getElem hk']
  have hc : ∀ x ∈ D, x.chk = 0 := by
    intro x hx
    obtain ⟨i, hi, rfl⟩ := List.getElem_of_mem hx
    have : D.getD i .zero = D[i] := getD_get (List.getElem?_eq_getElem hi)
    rcases hel i hi with h | ⟨k, x, y, h3, h4, _, h5⟩
    · rw [← this, h]; exact zero_chk
    · rw [← this, h5]; exact (distR_ok (g2 k x y h3 h4)).1
  have hsp := leastV_spec (less := greater) (xs := D) (f := fun x => -x.rat) (fun x hx y hy => greater_iff (hc x hx) (hc y hy)) (by omega)
  have hlt : leastV greater D < D.length := leastV_lt (by omega)
  rw [e]
  refine ⟨hlen, hc _ (getD_mem hlt), ?_, fun k x y hx hy => ?_, ?_⟩
  · have := (hsp 0 (by omega)).1
    have h0 : D.getD 0 .zero = .zero := by rw [g1]; rfl
    simp only [h0, zero_rat0] at this
    grind
  · have hop := g2 k x y hx hy
    obtain ⟨c1, c2, _⟩ := opE_ok hop
    refine ⟨c1, c2, ?_⟩
    have hk := (List.getElem?_eq_some_iff.1 hx).1
    have := (hsp (k + 1) (by omega)).1
    have h5 : D.getD (k + 1) .zero = distR x y := getD_get (by rw [g1]; simp [List.getElem?_zipWith, hx, hy])
    simp only [h5, (distR_ok hop).2] at this
    grind
  · rcases hel _ hlt with h | ⟨k, x, y, h3, h4, _, h5⟩
    · left; rw [h]; exact zero_rat0
    · right; exact ⟨k, x, y, h3, h4, by rw [h5]; exact (distR_ok (g2 k x y h3 h4)).2⟩
/-! ### MdpContracts -/
theorem score_near {d : Raw} {a : Actn} {D : Rat} (hd : 0 ≤ d.rat) (hs : sumQ (a.next.map (·.p.rat)) = 1) (h : ∀ o ∈ a.next, 0 ≤ o.p.rat ∧ (pick v o).rat ≤ (pick w o).rat + D) : scoreQ d v a ≤ scoreQ d w a + d.rat * D := by
  have h1 := dotQ_mono (p := fun o : Out => o.p.rat) (f := fun o => (pick v o).rat) (g := fun o => (pick w o).rat + D) (l := a.next) h
  rw [dotQ_shift (p := fun o : Out => o.p.rat) (f := fun o => (pick w o).rat) (g := fun o => (pick w o).rat + D) (c := D) (fun _ _ => rfl), hs] at h1
  have h2 := Rat.mul_le_mul_of_nonneg_left h1 hd
  unfold scoreQ
  grind
/-- Where no value of one list is greater than that of the other by more than D, no backup is by more than the discount times D. -/
theorem back_near {D : Rat} (h : (m.backV v).2.2 = 0) (h' : (m.backV w).2.2 = 0) (hv : ∀ (k : Nat) (x y : Raw), v[k]? = some x → w[k]? = some y → x.rat ≤ y.rat + D) {s : Nat} (hs : s < m.states.length) :
    ((m.backV v).1.getD s .zero).rat ≤ ((m.backV w).1.getD s .zero).rat + m.disc.rat * D := by
  obtain ⟨h1, h2, h3, h4⟩ := back_ok h
  obtain ⟨g1, g2, g3, g4⟩ := back_ok h'
  obtain ⟨hk, hl⟩ := Mdp.chkV_ok h1
  have hl' := (Mdp.chkV_ok g1).2
  obtain ⟨_, hd0, _, _, _, hst⟩ := Mdp.chk_ok hk
  have hm : m.states.getD s [] ∈ m.states := getD_mem hs
  have hpos := (hst _ hm).1
  rw [h2, g2, getD_map (z := []) hs, getD_map (z := []) hs]
  have hlt := best_lt (g4 _ hm) hpos
  have ham : actAt (m.states.getD s []) (bestI m.disc w (m.states.getD s [])) ∈ m.states.getD s [] := getD_mem (by simpa using hlt)
  have hb := (best_spec (h4 _ hm) hlt).1
  rw [(bestR_ok (g4 _ hm) hpos).2.2]
  obtain ⟨_, c2, c3, _⟩ := chkAct_ok ((hst _ hm).2.2 _ ham)
  have := score_near (v := v) (w := w) (D := D) hd0 c3 (fun o ho => by
    obtain ⟨o1, o2, _, o4⟩ := c2 o ho
    have k1 : o.to.toNat < v.length := by omega
    have k2 : o.to.toNat < w.length := by omega
    have e1 : v[o.to.toNat]? = some v[o.to.toNat] := List.getElem?_eq_getElem k1
    have e2 : w[o.to.toNat]? = some w[o.to.toNat] := List.getElem?_eq_getElem k2
    refine ⟨o4, ?_⟩
    unfold pick
    rw [getD_get e1, getD_get e2]
    exact hv _ _ _ e1 e2)
  grind
theorem back_chk (h : (m.backV v).2.2 = 0) : ∀ x ∈ (m.backV v).1, x.chk = 0 := by
  obtain ⟨h1, h2, h3, h4⟩ := back_ok h
  have hst := (Mdp.chk_ok (Mdp.chkV_ok h1).1).2.2.2.2.2
  rw [h2]
  intro x hx
  obtain ⟨s, hs, rfl⟩ := List.mem_map.1 hx
  exact (bestR_ok (h4 s hs) (hst s hs).1).2.1
theorem absQ_le {x y D : Rat} (h : absQ (x - y) ≤ D) : x ≤ y + D ∧ y ≤ x + D := by unfold absQ at h; split at h <;> constructor <;> grind
theorem le_absQ {x y D : Rat} (h : x ≤ y + D) (h' : y ≤ x + D) : absQ (x - y) ≤ D := by unfold absQ; split <;> grind
theorem contract_law (h : (m.backV v).2.2 = 0) (h' : (m.backV w).2.2 = 0) (hD : (distV v w).2 = 0) :
    ((distV (m.backV v).1 (m.backV w).1).2 = 0 ∨ (distV (m.backV v).1 (m.backV w).1).2 = 4) ∧ (opE m.disc (distV v w).1 (m.disc.rat * (distV v w).1.rat) = 0 ∨ opE m.disc (distV v w).1 (m.disc.rat * (distV v w).1.rat) = 4) ∧
    ((distV (m.backV v).1 (m.backV w).1).2 = 0 → opE m.disc (distV v w).1 (m.disc.rat * (distV v w).1.rat) = 0 →
      cmpE (distV (m.backV v).1 (m.backV w).1).1 (opR m.disc (distV v w).1 (m.disc.rat * (distV v w).1.rat)) = 0 ∧ cmpR (distV (m.backV v).1 (m.backV w).1).1 (opR m.disc (distV v w).1 (m.disc.rat * (distV v w).1.rat)) ≤ 0) := by
  obtain ⟨d1, d2, d3, d4, d5⟩ := distV_ok hD
  obtain ⟨hk, _⟩ := Mdp.chkV_ok (back_ok h).1
  obtain ⟨hdc, hd0, _, _, _, _⟩ := Mdp.chk_ok hk
  have l1 := (back_len h).1
  have l2 := (back_len h').1
  refine ⟨distV_cases (by omega) (back_chk h) (back_chk h'), opE_cases hdc d2 _, fun hn hf => ?_⟩
  obtain ⟨n1, n2, n3, n4, n5⟩ := distV_ok hn
  obtain ⟨_, _, _, f4, f5⟩ := opE_ok hf
  refine ⟨cmp_ok n2 f5, (cmp_le n2 f5).2 ?_⟩
  rw [f4]
  rcases n5 with e | ⟨k, x, y, hx, hy, e⟩
  · rw [e]; exact Rat.mul_nonneg hd0 d3
  · rw [e]
    have hks : k < m.states.length := by have := (List.getElem?_eq_some_iff.1 hx).1; omega
    have hx' : (m.backV v).1.getD k .zero = x := getD_get hx
    have hy' : (m.backV w).1.getD k .zero = y := getD_get hy
    have a1 := back_near h h' (D := (distV v w).1.rat) (fun i p q hp hq => (absQ_le (d4 i p q hp hq).2.2).1) hks
    have a2 := back_near h' h (D := (distV v w).1.rat) (fun i p q hp hq => (absQ_le (d4 i q p hq hp).2.2).2) hks
    rw [hx', hy'] at a1
    rw [hx', hy'] at a2
    exact le_absQ a1 a2
theorem mono_law (h : (m.backV v).2.2 = 0) (h' : (m.backV w).2.2 = 0) (hb : ∀ s, s < v.length → cmpE (v.getD s .zero) (w.getD s .zero) = 0 ∧ cmpR (v.getD s .zero) (w.getD s .zero) ≤ 0) {s : Nat} (hs : s < m.states.length) :
    cmpE ((m.backV v).1.getD s .zero) ((m.backV w).1.getD s .zero) = 0 ∧ cmpR ((m.backV v).1.getD s .zero) ((m.backV w).1.getD s .zero) ≤ 0 := by
  have c1 : ((m.backV v).1.getD s .zero).chk = 0 := back_chk h _ (getD_mem (by have := (back_len h).1; omega))
  have c2 : ((m.backV w).1.getD s .zero).chk = 0 := back_chk h' _ (getD_mem (by have := (back_len h').1; omega))
  refine ⟨cmp_ok c1 c2, (cmp_le c1 c2).2 ?_⟩
  have := back_near h h' (D := 0) (fun k x y hx hy => by
    have := hb k (List.getElem?_eq_some_iff.1 hx).1
    rw [getD_get hx, getD_get hy] at this
    obtain ⟨k1, k2⟩ := cmpE_ok this.1
    have := (cmp_le k1 k2).1 this.2
    grind) hs
  grind
/-! ### MdpReaches -/
theorem reach_law (h : (m.backV v).2.2 = 0) (h' : (m.backV w).2.2 = 0) {s : Nat} (hs : s < m.states.length) (hw : ∀ a ∈ m.states.getD s [], ∀ o ∈ a.next, pick v o = pick w o) : (m.backV v).1.getD s .zero = (m.backV w).1.getD s .zero := by
  obtain ⟨h1, h2, h3, h4⟩ := back_ok h
  obtain ⟨g1, g2, g3, g4⟩ := back_ok h'
  rw [h2, g2, getD_map (z := []) hs, getD_map (z := []) hs]
  have e : scoresV m.disc v (m.states.getD s []) = scoresV m.disc w (m.states.getD s []) := by
    have : ∀ (l : List Actn) (acc : List Raw), (∀ a ∈ l, ∀ o ∈ a.next, pick v o = pick w o) → scoresGo m.disc v acc l = scoresGo m.disc w acc l := by
      intro l
      induction l with
      | nil => intro acc _; rfl
      | cons a l ih =>
        intro acc hl
        rw [scoresGo, scoresGo, scoreV_congr (hl a (by simp)), ih _ (fun b hb => hl b (by simp [hb]))]
    exact this _ [] hw
  unfold bestR bestI
  rw [e]
end
end Go.Gv
/- What Reach visits. By an AI agent; no program in sight. -/
namespace Go.Gv
open Go.RowKit
/-- How many are not seen yet. -/
def unseen : List Bool → Nat
  | [] => 0
  | b :: l => (if b = true then 0 else 1) + unseen l
theorem unseen_mono : ∀ {l l' : List Bool}, l.length = l'.length → (∀ i : Nat, l.getD i false = true → l'.getD i false = true) → unseen l' ≤ unseen l
  | [], [], _, _ => Nat.le_refl _
  | [], _ :: _, h, _ => by simp at h
  | _ :: _, [], h, _ => by simp at h
  | b :: l, b' :: l', h, hi => by
    have ih := unseen_mono (l := l) (l' := l') (by simpa using h) (fun i hx => by simpa using hi (i + 1) (by simpa using hx))
    have h0 := hi 0
    simp only [List.getD_cons_zero] at h0
    simp only [unseen]
    cases b
    · cases b' <;> simp <;> omega
    · rw [h0 rfl]; simp; omega
theorem unseen_set : ∀ {l : List Bool} {k : Nat}, k < l.length → l.getD k false = false → unseen (l.set k true) < unseen l
  | [], _, h, _ => by simp at h
  | b :: l, 0, _, h => by
    simp only [List.getD_cons_zero] at h
    subst h
    simp [unseen]
  | b :: l, k + 1, h, hb => by
    have ih := unseen_set (l := l) (k := k) (by simpa using h) (by simpa using hb)
    simp only [List.set_cons_succ, unseen]
    omega
theorem set_getD {l : List Bool} {k i : Nat} (hk : k < l.length) : (l.set k true).getD i false = true ↔ l.getD i false = true ∨ i = k := by
  rw [List.getD_eq_getElem?_getD, List.getD_eq_getElem?_getD, List.getElem?_set]
  split
  · rename_i h; subst h
    simp [hk]
  · rename_i h
    constructor
    · exact .inl
    · rintro (h1 | h1)
      · exact h1
      · exact absurd h1.symm h
/-- A set of states that holds its successors. -/
def Closed (m : Mdp) (C : Int → Prop) : Prop := ∀ t : Int, 0 ≤ t → t < m.states.length → C t → ∀ a ∈ m.states.getD t.toNat [], ∀ o ∈ a.next, C o.to
/-- From what is seen (S), going to all of R, the states N are new and S' is seen. -/
structure Vis (m : Mdp) (S : List Bool) (N : List Int) (S' : List Bool) (R : Int → Prop) : Prop where
  len : S'.length = S.length
  mem : ∀ i : Nat, i < S.length → (S'.getD i false = true ↔ S.getD i false = true ∨ (i : Int) ∈ N)
  nd : N.Nodup
  fresh : ∀ t ∈ N, 0 ≤ t ∧ t < S.length ∧ S.getD t.toNat false = false
  closed : ∀ t ∈ N, ∀ a ∈ m.states.getD t.toNat [], ∀ o ∈ a.next, S'.getD o.to.toNat false = true
  min : ∀ C : Int → Prop, Closed m C → (∀ r, R r → C r) → ∀ t ∈ N, C t
section
variable {m : Mdp} {S S1 S2 : List Bool} {N N1 N2 : List Int} {R : Int → Prop}
theorem getD_lt {l : List Bool} {i : Nat} (h : l.getD i false = true) : i < l.length := by
  rcases Nat.lt_or_ge i l.length with h1 | h1
  · exact h1
  · rw [List.getD_eq_getElem?_getD, List.getElem?_eq_none h1] at h; cases h
theorem Vis.up (h : Vis m S N S1 R) {i : Nat} (hi : S.getD i false = true) : S1.getD i false = true := (h.mem i (getD_lt hi)).2 (.inl hi)
theorem Vis.nil : Vis m S [] S R := ⟨rfl, fun i _ => by simp, by simp, by simp, by simp, by simp⟩
theorem Vis.trans (h : Vis m S N1 S1 R) (h2 : Vis m S1 N2 S2 R) : Vis m S (N1 ++ N2) S2 R := by
  refine ⟨h2.len.trans h.len, fun i hi => ?_, ?_, fun t ht => ?_, fun t ht => ?_, fun C hC hR t ht => ?_⟩
  · rw [h2.mem i (by rw [h.len]; exact hi), h.mem i hi, List.mem_append, or_assoc]
  · rw [List.nodup_append]
    refine ⟨h.nd, h2.nd, fun t ht u hu e => ?_⟩
    subst e
    obtain ⟨f1, f2, f3⟩ := h.fresh t ht
    obtain ⟨_, _, g3⟩ := h2.fresh t hu
    have : S1.getD t.toNat false = true := (h.mem t.toNat (by omega)).2 (.inr (by rw [Int.toNat_of_nonneg f1]; exact ht))
    rw [this] at g3; cases g3
  · rcases List.mem_append.1 ht with ht | ht
    · exact h.fresh t ht
    · obtain ⟨g1, g2, g3⟩ := h2.fresh t ht
      rw [h.len] at g2
      refine ⟨g1, g2, ?_⟩
      cases hs : S.getD t.toNat false
      · rfl
      · rw [h.up hs] at g3; cases g3
  · rcases List.mem_append.1 ht with ht | ht
    · intro a ha o ho
      exact h2.up (h.closed t ht a ha o ho)
    · exact h2.closed t ht
  · rcases List.mem_append.1 ht with ht | ht
    · exact h.min C hC hR t ht
    · exact h2.min C hC hR t ht
theorem Vis.weaken {R' : Int → Prop} (h : Vis m S N S1 R) (hR : ∀ r, R r → R' r) : Vis m S N S1 R' := ⟨h.len, h.mem, h.nd, h.fresh, h.closed, fun C hC hr => h.min C hC fun r hx => hr r (hR r hx)⟩
def Succ (m : Mdp) (s r : Int) : Prop := ∃ a ∈ m.states.getD s.toNat [], ∃ o ∈ a.next, r = o.to
/-- One visit: the state itself, then all its successors. -/
theorem Vis.wrap {s : Int} (hl : S.length = m.states.length) (h0 : 0 ≤ s) (h1 : s < S.length) (hs : S.getD s.toNat false = false) (h : Vis m (S.set s.toNat true) N S2 (Succ m s)) (hall : ∀ a ∈ m.states.getD s.toNat [], ∀ o ∈ a.next, S2.getD o.to.toNat false = true) : Vis m S ([s] ++ N) S2 (· = s) := by
  have hk : s.toNat < S.length := by omega
  have hlen : (S.set s.toNat true).length = S.length := List.length_set
  refine ⟨h.len.trans hlen, fun i hi => ?_, ?_, fun t ht => ?_, fun t ht => ?_, fun C hC hR t ht => ?_⟩
  · rw [h.mem i (by rw [hlen]; exact hi), set_getD hk, List.mem_append, List.mem_singleton]
    constructor
    · rintro ((h3 | h3) | h3)
      · exact .inl h3
      · exact .inr (.inl (by omega))
      · exact .inr (.inr h3)
    · rintro (h3 | h3 | h3)
      · exact .inl (.inl h3)
      · exact .inl (.inr (by omega))
      · exact .inr h3
  · rw [List.singleton_append, List.nodup_cons]
    refine ⟨fun hm => ?_, h.nd⟩
    have := (h.fresh s hm).2.2
    rw [(set_getD hk).2 (.inr rfl)] at this; cases this
  · rcases List.mem_append.1 ht with ht | ht
    · obtain rfl := List.mem_singleton.1 ht
      exact ⟨h0, h1, hs⟩
    · obtain ⟨g1, g2, g3⟩ := h.fresh t ht
      rw [hlen] at g2
      refine ⟨g1, g2, ?_⟩
      cases hx : S.getD t.toNat false
      · rfl
      · rw [(set_getD hk).2 (.inl hx)] at g3; cases g3
  · rcases List.mem_append.1 ht with ht | ht
    · obtain rfl := List.mem_singleton.1 ht
      exact hall
    · exact h.closed t ht
  · have hCs : C s := hR s rfl
    rcases List.mem_append.1 ht with ht | ht
    · obtain rfl := List.mem_singleton.1 ht
      exact hCs
    · refine h.min C hC (fun r hr => ?_) t ht
      obtain ⟨a, ha, o, ho, rfl⟩ := hr
      exact hC s h0 (by omega) hCs a ha o ho
theorem Vis.root {s : Int} (h0 : 0 ≤ s) (h1 : s < S.length) (h : Vis m S ([s] ++ N) S2 R) : S2.getD s.toNat false = true := (h.mem s.toNat (by omega)).2 (.inr (by simp; left; omega))
/-- A visit of one that is seen. -/
theorem Vis.same {s : Int} : Vis m S [] S (· = s) := Vis.nil
theorem Vis.less (h : Vis m S N S1 R) : unseen S1 ≤ unseen S := unseen_mono h.len.symm fun _ hi => h.up hi
end
/-- The states that Reach answers. -/
structure Reached (m : Mdp) (s : Int) (l : List Int) : Prop where
  sorted : l.Pairwise (· < ·)
  self : s ∈ l
  range : ∀ t ∈ l, 0 ≤ t ∧ t < m.states.length
  closed : ∀ t ∈ l, ∀ a ∈ m.states.getD t.toNat [], ∀ o ∈ a.next, o.to ∈ l
  min : ∀ C : Int → Prop, Closed m C → C s → ∀ t ∈ l, C t
theorem Vis.reached {m : Mdp} {N : List Int} {S2 : List Bool} {s : Int} (hto : ∀ t ∈ N, ∀ a ∈ m.states.getD t.toNat [], ∀ o ∈ a.next, 0 ≤ o.to ∧ o.to < m.states.length) (h0 : 0 ≤ s) (h1 : s < m.states.length) (h : Vis m (List.replicate m.states.length false) N S2 (· = s)) (hs : S2.getD s.toNat false = true) :
    Reached m s (N.mergeSort fun x y => decide (x ≤ y)) := by
  have hlen : (List.replicate m.states.length false).length = m.states.length := List.length_replicate
  have hrep : ∀ i : Nat, (List.replicate m.states.length false).getD i false = false := fun i => by
    rw [List.getD_eq_getElem?_getD, List.getElem?_replicate]; split <;> rfl
  have hmem : ∀ t : Int, t ∈ N.mergeSort (fun x y => decide (x ≤ y)) ↔ t ∈ N := fun t => List.mem_mergeSort
  have hin : ∀ i : Nat, i < m.states.length → S2.getD i false = true → (i : Int) ∈ N := fun i hi hx => by
    rcases (h.mem i (by rw [hlen]; exact hi)).1 hx with h2 | h2
    · rw [hrep] at h2; cases h2
    · exact h2
  refine ⟨?_, ?_, fun t ht => ?_, fun t ht a ha o ho => ?_, fun C hC hCs t ht => ?_⟩
  · have p1 : (N.mergeSort fun x y => decide (x ≤ y)).Pairwise (fun a b => decide (a ≤ b) = true) := List.pairwise_mergeSort (fun a b c h1 h2 => by simp at *; omega) (fun a b => by simp; omega) N
    have p2 : (N.mergeSort fun x y => decide (x ≤ y)).Nodup := (List.mergeSort_perm N _).nodup_iff.2 h.nd
    refine (List.Pairwise.and p1 p2).imp ?_
    rintro a b ⟨h3, h4⟩
    have := of_decide_eq_true h3
    omega
  · rw [hmem]
    have := hin s.toNat (by omega) hs
    rwa [Int.toNat_of_nonneg h0] at this
  · rw [hmem] at ht
    obtain ⟨g1, g2, _⟩ := h.fresh t ht
    rw [hlen] at g2
    exact ⟨g1, g2⟩
  · rw [hmem] at ht ⊢
    have h3 := h.closed t ht a ha o ho
    obtain ⟨k1, k2⟩ := hto t ht a ha o ho
    have := hin o.to.toNat (by omega) h3
    rwa [Int.toNat_of_nonneg k1] at this
  · rw [hmem] at ht
    exact h.min C hC (fun r hr => hr ▸ hCs) t ht
/-! ### Rows of bool -/
def bvals (l : List Bool) : Array Value := (l.map Value.bool).toArray
theorem bvals_rep (n : Nat) : (List.replicate n (Value.bool false)).toArray = bvals (List.replicate n false) := by simp [bvals]
theorem bvals_size (l : List Bool) : (bvals l).size = l.length := by simp [bvals]
theorem bvals_set {l : List Bool} {k : Nat} {x : Bool} : setCells (bvals l) k [.bool x] = bvals (l.set k x) := by
  simp [setCells, bvals, List.map_set]
theorem St.boolCells {E : Nat → Prop} {w0 w : World} {X Y : Hid} {M : List (Nat × Obj)} (h : St E w0 X w Y M) (i : Nat) {g : Nat} {T : TypeId} {l : List Bool} {k : Nat} (hi : M[i]? = some (g, .cells (bvals l) T (0, 0))) (hk : k < l.length) : CellsAt w ⟨g, k, none⟩ [.bool (l.getD k false)] := by
  refine h.cells i hi ?_
  simp only [bvals, List.length_singleton]
  rw [List.drop_eq_getElem_cons (by simpa using hk)]
  simp [List.getD_eq_getElem?_getD, List.getElem?_eq_getElem hk]
section
variable {P : Program} {Q : Exit → Act → World → Prop} {K : Act → World → Prop} {a : Act} {o : Oper} {n d : Nat} {L : List (Nat × Value)} {D : List Deferred} {w : World}
/-- A call of which the whole is told by its contract. -/
theorem op_callF {fx : Operand} {xs : Array Operand} {ts : Array TypeId} {f : FuncId} {cap : Array Value} {vs : Array Value} {Φ : World → Value → Prop} (hF : Fr n a L D) (hc : opk L o d n = true)
    (ho : o.op = .call { callee := .value fx, args := xs, argTypes := ts }) (hf : evL L fx = .func (.func f) #[] cap) (hargs : xs.map (evL L) ++ cap = vs)
    (hcall : ∀ w, (callFunc f vs).run P w = .ok (.enter f vs) w) (hcon : Calls P f vs w (fun e w' => ∃ v, e = .returned v ∧ Φ w' v))
    (k : ∀ v w1, Φ w1 v → ∀ a1, Fr n a1 ((d, v) :: L) D → K a1 w1) : o.wp P a w K Q := by
  simp only [opk, Bool.and_eq_true] at hc
  obtain ⟨hd, hlt⟩ := dstIs_spec hc.2
  unfold Oper.wp
  rw [hF.exec hc.1]
  have hrun : (execOp (evL L) o).run P w = .ok (.enter f vs) w := by
    unfold execOp
    simp only [ho, resolve, hf, Deferred.ofValue, Sem.run_bind, Sem.run_pure, Result.andThen_ok, invoke]
    simp only [← hargs] at hcall ⊢
    simpa using hcall w
  rw [hrun]
  show Calls P f vs w _
  refine hcon.mono ?_
  rintro e w1 ⟨v, rfl, hΦ⟩
  show K (a.put o.dst v) w1
  rw [hd]
  exact k v w1 hΦ _ (hF.put hlt v)
end
theorem m_range {m : Mdp} {sx : List Actn} {xa : Actn} {ox : Out} (h : m.chk = 0) (hs : sx ∈ m.states) (ha : xa ∈ sx) (ho : ox ∈ xa.next) : 0 ≤ ox.to ∧ ox.to < m.states.length := by
  obtain ⟨_, c2, _, _⟩ := chkAct_ok (((Mdp.chk_ok h).2.2.2.2.2 sx hs).2.2 xa ha)
  exact ⟨(c2 ox ho).1, (c2 ox ho).2.1⟩
end Go.Gv
/- Arguments as a statement lays them, opened as what is read. By an AI agent; over any program. -/
namespace Go.Gv
open Go.RowKit Go.ChangeShapes
theorem mapM_get {α β : Type} {f : α → Option β} : ∀ {l : List α} {cs : List β}, l.mapM f = some cs → cs.length = l.length ∧ ∀ (j : Nat) (a : α), l[j]? = some a → f a = cs[j]?
  | [], cs, h => by
    simp at h; subst h; simp
  | a :: l, cs, h => by
    rw [List.mapM_cons] at h
    cases hf : f a with
    | none => rw [hf] at h; cases h
    | some b =>
      rw [hf] at h
      cases hm : l.mapM f with
      | none => rw [hm] at h; cases h
      | some bs =>
        rw [hm] at h
        obtain rfl : b :: bs = cs := by simpa using h
        obtain ⟨h1, h2⟩ := mapM_get hm
        refine ⟨by simp [h1], fun j c hj => ?_⟩
        rcases j with _ | j
        · simp at hj; subst hj; simpa using hf
        · simpa using h2 j c (by simpa using hj)
theorem cells_get {w : World} {a : Addr} {n : Nat} {cs : List Value} (h : w.cells? 0 a n = some cs) : cs.length = n ∧ ∀ j, j < n → w.cell? (a.add j) = cs[j]? := by
  unfold World.cells? at h
  rw [if_pos (Nat.zero_le _)] at h
  obtain ⟨h1, h2⟩ := mapM_get h
  rw [List.length_range] at h1
  exact ⟨h1, fun j hj => h2 j j (by simp [hj])⟩
theorem list_of {α : Type} {p : Nat → α → Prop} : ∀ (n : Nat), (∀ i, i < n → ∃ x, p i x) → ∃ l : List α, l.length = n ∧ ∀ i x, l[i]? = some x → p i x
  | 0, _ => ⟨[], rfl, fun i x h => by simp at h⟩
  | n + 1, h => by
    obtain ⟨l, h1, h2⟩ := list_of n (fun i hi => h i (by omega))
    obtain ⟨x, hx⟩ := h n (by omega)
    refine ⟨l ++ [x], by simp [h1], fun i y hi => ?_⟩
    rcases Nat.lt_or_ge i n with hlt | hge
    · rw [List.getElem?_append_left (by omega)] at hi
      exact h2 i y hi
    · rw [List.getElem?_append_right (by omega)] at hi
      have hlt := (List.getElem?_eq_some_iff.1 hi).1
      simp at hlt
      have : i = n := by omega
      subst this
      rw [h1] at hi
      simp at hi
      exact hi ▸ hx
section
variable {H : Type} {enc : TypeId × Value → H} {P : Program} {w : World} {spare : Nat → Bool} {held : Bool}
/-- An argument that is read whole, none of it frozen, none of it too long. -/
def TrodZ (enc : TypeId × Value → H) (P : Program) (w : World) (spare : Nat → Bool) (held : Bool) (n : Nat) (t : TypeId) (cs : List Value) (y : DataW H × List MemPlace) : Prop := DataW.trod enc P w 0 spare held n t cs = some y ∧ w.noneFrozen y.2 ∧ ∀ n ∈ y.1.weights P t, n ≤ 140737488351232
theorem wAll {e : TypeId} {d : DataW H} {n : Nat} (hn : n ∈ d.weights P e) : ∀ {l : List (DataW H)}, d ∈ l → n ∈ DataW.weightsAll P e l
  | x :: l, h => by
    rw [DataW.weightsAll, List.mem_append]
    rcases List.mem_cons.1 h with rfl | h
    · exact .inl hn
    · exact .inr (wAll hn h)
theorem fld {t : TypeId} {fs : Array Field} {f : Field} {fuel size : Nat} {cs : List Value} {x : DataW H × List MemPlace} (ht : P.underlying t = some (.struct fs)) (h : TrodZ enc P w spare held fuel t cs x) (i : Nat) (hi : fs[i]? = some f) (hs : P.cellsOf f.type = size) :
    ∃ n y, TrodZ enc P w spare held n f.type ((cs.drop f.offset).take size) y := by
  obtain ⟨xs, n, _, hx, _, hl, hf⟩ := DataW.trod_struct ht h.1
  have hlt : i < fs.size := (Array.getElem?_eq_some_iff.1 hi).1
  have := hf i f hi
  rw [hs] at this
  refine ⟨n, xs[i]'(by omega), this.trans (List.getElem?_eq_getElem _), fun b off hm => h.2.1 b off ?_, fun k hk => h.2.2 k ?_⟩
  · rw [hx]
    exact List.mem_flatMap.2 ⟨_, List.getElem_mem _, hm⟩
  · rw [hx]
    simp only [DataW.weights, ht]
    exact DataW.weights_mem_each (j := i) (t := f.type) (d := (xs[i]'(by omega)).1) (by rw [List.getElem?_map, Array.getElem?_toList, hi]; rfl) (by rw [List.getElem?_map, List.getElem?_eq_getElem (by omega)]; rfl) k hk
theorem flen {t : TypeId} {fs : Array Field} {fuel size : Nat} {cs : List Value} {x : DataW H × List MemPlace} (ht : P.underlying t = some (.struct fs)) (h : TrodZ enc P w spare held fuel t cs x) (hs : P.cellsOf t = size) : cs.length = size := by
  obtain ⟨xs, n, _, _, h1, _⟩ := DataW.trod_struct ht h.1
  rw [h1, hs]
def OpenEl (enc : TypeId × Value → H) (P : Program) (w : World) (spare : Nat → Bool) (held : Bool) {α : Type} (e : TypeId) (size : Nat) (El : Rd → Addr → α → Prop) : Prop :=
  ∀ (n : Nat) (cs : List Value) (y : DataW H × List MemPlace) (b off : Nat), TrodZ enc P w spare held n e cs y → cs.length = size → At (rd w X0) ⟨b, off, none⟩ cs → ∃ x, El (rd w X0) ⟨b, off, none⟩ x
/-- A slice, opened by its elements. -/
theorem open_sl {α : Type} {El : Rd → Addr → α → Prop} {t e : TypeId} {size fuel bts : Nat} {cs : List Value} {x : DataW H × List MemPlace} (ht : P.underlying t = some (.slice e)) (hs : P.cellsOf e = size) (h0 : 0 < size) (hb : P.bytesOf e = bts) (hel : OpenEl enc P w spare held e size El)
    (h : TrodZ enc P w spare held fuel t cs x) : ∃ ad len cap xs, cs = [.slice ad len cap] ∧ SlR El size (rd w X0) ad len cap xs ∧ xs.length * bts ≤ 140737488351232 := by
  rcases DataW.trod_slice ht h.1 with ⟨rfl, _⟩ | ⟨a, len, cap, elems, rest, n, _, rfl, hx, _, hl, hm, hlen, hels, _, _⟩
  · exact ⟨none, 0, 0, [], rfl, ⟨rfl, Nat.le_refl _, by omega, .inl rfl⟩, by simp⟩
  · rw [hs] at hels
    have hm' : cap ≤ 9223372036854775807 := by simpa [maxLen] using hm
    have each : ∀ i, i < len → ∃ ci yi, w.cells? 0 (a.add (i * size)) size = some ci ∧ TrodZ enc P w spare held n e ci yi := fun i hi => by
      have h1 := hels i hi
      rw [List.getElem?_eq_getElem (by omega)] at h1
      refine Option.bind_eq_some_iff.1 h1 |>.imp fun ci hci => ⟨_, hci.1, hci.2, fun b off hm => h.2.1 b off ?_, fun k hk => h.2.2 k ?_⟩
      · rw [hx]
        exact List.mem_append_right _ (List.mem_flatMap.2 ⟨_, List.mem_append_left _ (List.getElem_mem _), hm⟩)
      · rw [hx]
        simp only [DataW.weights, ht]
        exact List.mem_cons_of_mem _ (List.mem_append_left _ (wAll hk (List.mem_map_of_mem (List.getElem_mem _))))
    have hlong : len * bts ≤ 140737488351232 := by
      have h1 := h.2.2 ((elems.length + rest.length) * P.bytesOf e) (by rw [hx]; simp only [DataW.weights, ht, List.length_map]; exact List.mem_cons_self)
      rw [hb] at h1
      exact Nat.le_trans (Nat.mul_le_mul_right _ (by omega)) h1
    have thaw : ∀ k, k < len * size → w.frozen? ⟨a.block, a.off + k, none⟩ = false := fun k hk => h.2.1 _ _ (by
      rw [hx]
      refine List.mem_append_left _ (List.mem_map.2 ⟨k, List.mem_range.2 ?_, rfl⟩)
      rw [hs]
      exact Nat.lt_of_lt_of_le hk (Nat.mul_le_mul_right _ (by omega)))
    rcases Nat.eq_zero_or_pos len with rfl | hpos
    · exact ⟨some a, 0, cap, [], rfl, ⟨rfl, Nat.zero_le _, hm', .inl rfl⟩, by simp⟩
    · have hsp : a.spot = none := by
        obtain ⟨ci, yi, h1, _⟩ := each 0 hpos
        obtain ⟨hcl, hc⟩ := cells_get h1
        have h2 := hc 0 h0
        rw [List.getElem?_eq_getElem (by omega)] at h2
        simp only [Nat.zero_mul, Addr.add, if_true] at h2
        unfold World.cell? at h2
        split at h2
        · split at h2
          · cases h2
          · rename_i h3; cases hh : a.spot <;> simp_all
        · cases h2
      obtain ⟨b, off, sp⟩ := a
      simp only at hsp; subst hsp
      obtain ⟨xs, hx1, hx2⟩ := list_of (p := fun i x => El (rd w X0) ⟨b, off + i * size, none⟩ x) len (fun i hi => by
        obtain ⟨ci, yi, h1, h2⟩ := each i hi
        rw [add_mk] at h1
        obtain ⟨hcl, hc⟩ := cells_get h1
        refine hel n ci yi b _ h2 hcl (fun j v hj => ?_)
        have hj' : j < size := by have := (List.getElem?_eq_some_iff.1 hj).1; omega
        refine rd_of ((hc j hj').trans hj) (fun h => h.elim) ?_
        rw [add_mk, Nat.add_assoc]
        refine thaw (i * size + j) ?_
        have h3 : (i + 1) * size ≤ len * size := Nat.mul_le_mul_right _ hi
        rw [Nat.add_mul, Nat.one_mul] at h3
        omega)
      exact ⟨_, len, cap, xs, rfl, ⟨hx1.symm, hl, hm', .inr ⟨b, off, rfl, hx2⟩⟩, by rw [hx1]; exact hlong⟩
theorem SlR.split {α : Type} {El : Rd → Addr → α → Prop} {S : α → Prop} {size : Nat} {r : Rd} {ad : Option Addr} {len cap : Nat} {xs : List α} (h : SlR (fun r a x => El r a x ∧ S x) size r ad len cap xs) : SlR El size r ad len cap xs ∧ ∀ x ∈ xs, S x := by
  refine ⟨⟨h.hlen, h.hcap, h.hbig, h.hat.imp id fun ⟨b, off, e, ha⟩ => ⟨b, off, e, fun i x hi => (ha i x hi).1⟩⟩, fun x hx => ?_⟩
  rcases h.hat with rfl | ⟨b, off, _, ha⟩
  · cases hx
  · obtain ⟨i, hi⟩ := List.getElem?_of_mem hx
    exact (ha i x hi).2
def LimbAt (r : Rd) (a : Addr) (x : Nat) : Prop := At r a [.int .u32 (x : Int)] ∧ x < 4294967296
theorem open_limb {e : TypeId} (he : P.underlying e = some (.int .u32)) : OpenEl enc P w spare held e 1 LimbAt := fun n cs y b off h _ hat => by
  obtain ⟨z, rfl, _, hw⟩ := DataW.trod_int he h.1
  have hz : 0 ≤ z ∧ z < 4294967296 := by
    simp [Lit.wf, IntKind.min, IntKind.max, IntKind.signed, IntKind.bits] at hw
    omega
  exact ⟨z.toNat, by rwa [Int.toNat_of_nonneg hz.1], by omega⟩
theorem open_intEl {e : TypeId} (he : P.underlying e = some (.int .i64)) : OpenEl enc P w spare held e 1 IntAt := fun n cs y b off h _ hat => by
  obtain ⟨z, rfl, _, hw⟩ := DataW.trod_int he h.1
  exact ⟨z, hat⟩
theorem SlR.limbs {r : Rd} {ad : Option Addr} {len cap : Nat} {xs : List Nat} (h : SlR LimbAt 1 r ad len cap xs) : Limbs r ad len cap xs := by
  refine ⟨h.hlen, h.hcap, h.hbig, fun x hx => ?_, ?_⟩
  · rcases h.hat with rfl | ⟨b, off, _, ha⟩
    · cases hx
    · obtain ⟨i, hi, rfl⟩ := List.getElem_of_mem hx
      exact (ha i _ (List.getElem?_eq_getElem hi)).2
  · refine h.hat.imp id fun ⟨b, off, e, ha⟩ => ⟨b, off, e, fun j v hj => ?_⟩
    simp only [U32, List.getElem?_map] at hj
    cases hx : xs[j]? with
    | none => rw [hx] at hj; cases hj
    | some x =>
      rw [hx] at hj
      obtain rfl : Value.int .u32 (x : Int) = v := by simpa using hj
      have := (ha j x hx).1 0 _ rfl
      rw [add_mk, Nat.mul_one, Nat.add_zero] at this
      rw [add_mk]; exact this
end
end Go.Gv
/- Steps that leave the values of the slots unwritten (the kernel reckons them when they are asked for). By an AI agent; over any program. -/
namespace Go.Gv
open Go.RowKit
section
variable {P : Program} {w : World}
def lz (P : Program) (ops : Array Oper) (nn k : Nat) (l : List Oper) (L : List (Nat × Value)) (w : World) : List (Nat × Value) :=
  match runs P ops nn k l L w with
  | some (L', _) => L'
  | none => []
def ldT' (o : Oper) : TypeId := match o.op with
  | .load t _ => t
  | _ => 0
def ldX (o : Oper) : Operand := match o.op with
  | .load _ x => x
  | _ => .tmp 0
def ldG (P : Program) (o : Oper) : Bool := match ldT P (ldT' o) with
  | some (g, _) => g
  | none => false
def clF (o : Oper) : Operand := match o.op with
  | .call c => (match c.callee with
    | .value x => x
    | _ => .tmp 0)
  | _ => .tmp 0
def clA (o : Oper) : Array Operand := match o.op with
  | .call c => c.args
  | _ => #[]
def clT (o : Oper) : Array TypeId := match o.op with
  | .call c => c.argTypes
  | _ => #[]
def capF : Value → Array Value
  | .func _ _ c => c
  | _ => #[]
def vOf (P : Program) (L : List (Nat × Value)) (o : Oper) (w : World) : Value := match (execOp (evL L) o).run P w with
  | .ok (.value v) _ => v
  | _ => undef
def bO (M : List (Nat × Obj)) (i : Nat) : Nat := match M[i]? with
  | some (b, _) => b
  | none => 0
def cO (M : List (Nat × Obj)) (i : Nat) : Array Value := match M[i]? with
  | some (_, .cells c _ _) => c
  | _ => #[]
def tO (M : List (Nat × Obj)) (i : Nat) : TypeId := match M[i]? with
  | some (_, .cells _ t _) => t
  | _ => 0
def fO (M : List (Nat × Obj)) (i : Nat) : Nat × Nat := match M[i]? with
  | some (_, .cells _ _ f) => f
  | _ => (0, 0)
end
section
variable {P : Program} {E : Nat → Prop} {w0 w : World} {X Y : Hid} {M : List (Nat × Obj)}
/-- The cells of a block that the call owns. -/
theorem St.cz (h : St E w0 X w Y M) (i off m : Nat) (hi : M[i]? = some (bO M i, .cells (cO M i) (tO M i) (fO M i)) := by kernel_rfl) (hm : (((cO M i).toList.drop off).take m).length = m := by kernel_rfl) : CellsAt w ⟨bO M i, off, none⟩ (((cO M i).toList.drop off).take m) :=
  h.cells i hi (by rw [hm])
end
section
variable {P : Program} {Q : Exit → Act → World → Prop} {K : Act → World → Prop} {a : Act} {o : Oper} {n d : Nat} {L : List (Nat × Value)} {D : List Deferred} {E : Nat → Prop} {w0 w : World} {X Y : Hid} {M : List (Nat × Obj)}
theorem op_ldZ {vs : List Value} {ad : Addr} (hF : Fr n a L D) (hcs : CellsAt w ad vs) (k : ∀ a1, Fr n a1 ((d, ldV (ldG P o) vs) :: L) D → K a1 w)
    (hc : opk L o d n = true := by kernel_rfl) (ho : o.op = .load (ldT' o) (ldX o) := by kernel_rfl) (hx : evL L (ldX o) = .pointer (some ad) := by kernel_rfl) (ht : ldT P (ldT' o) = some (ldG P o, vs.length) := by kernel_rfl) (hg : (ldG P o || vs.length == 1) = true := by kernel_rfl) : o.wp P a w K Q :=
  zF hF hc (zB ho hx ht (by simpa using hg) hcs) k
theorem op_callZ {f : FuncId} {vs : Array Value} {Φ : World → Value → Prop} (hF : Fr n a L D) (hS : St E w0 X w Y M) (hcall : ∀ w, (callFunc f vs).run P w = .ok (.enter f vs) w) (hcon : Calls P f vs w (Ret E0 w Φ))
    (k : ∀ v w1, St E w0 X w1 Y M → Le (rd w Y) (rd w1 Y) → Upd E0 w w1 → Φ w1 v → ∀ a1, Fr n a1 ((d, v) :: L) D → K a1 w1)
    (hc : opk L o d n = true := by kernel_rfl) (ho : o.op = .call { callee := .value (clF o), args := clA o, argTypes := clT o } := by kernel_rfl) (hf : evL L (clF o) = .func (.func f) #[] (capF (evL L (clF o))) := by kernel_rfl) (hargs : (clA o).map (evL L) ++ capF (evL L (clF o)) = vs := by kernel_rfl) : o.wp P a w K Q :=
  op_call hF hc hS ho hf hargs hcall hcon k
end
section
variable {P : Program} {ops : Array Oper} {Q : Exit → Act → World → Prop} {S : World → Prop} {T : List Nat} {a : Act} {o : Oper} {n d : Nat} {L : List (Nat × Value)} {D : List Deferred} {w : World}
def opAt (ops : Array Oper) (i : Nat) : Oper := (ops[i]?).getD default
theorem t_takeZ {fuel : Nat} {listed : Array Bool} (i : Nat) (hF : Fr n a L D) (hS : begun T listed = false → S w)
    (k : ∀ a1, Fr n a1 ((d, vOf P L (opAt ops i) w) :: L) D → wpT P ops Q S T fuel (listed.setIfInBounds i true) a1 w)
    (hi : ops[i]? = some (opAt ops i) := by kernel_rfl) (hc : tchk ops T listed i = true := by kernel_rfl) (hk : chk ops L (opAt ops i) d n = true := by kernel_rfl)
    (hrun : ∀ w', (execOp (evL L) (opAt ops i)).run P w' = .ok (.value (vOf P L (opAt ops i) w)) w' := by intro w'; kernel_rfl)
    (hQ : ∀ c a w', Q (.panic c) (a.put (opAt ops i).dst (vOf P L (opAt ops i) w)) w' → Q (.panic c) a w' := by exact fun _ _ _ h => h) : wpT P ops Q S T (fuel + 1) listed a w :=
  zK i hF hi hc hk hrun hS k hQ
end
section
variable {r : Option Nat} {P : Program} {ops : Array Oper} {Q : Exit → Act → World → Prop} {a : Act} {w : World} {nn m : Nat} {L : List (Nat × Value)} {D : List Deferred}
theorem rz (k : Nat) {l : List Oper} (hF : Fr nn a L D) (hk : ∀ a', Fr nn a' (lz P ops nn k l L w) D → wpListIn (FF r) m P ops Q (l.drop k) a' w) (hn : l.all (fun o => noDef o.op) = true := by kernel_rfl) (hr : runs P ops nn k l L w = some (lz P ops nn k l L w, w) := by kernel_rfl) : wpListIn (FF r) m P ops Q l a w := wplI_runs k hF hn hr hk
end
end Go.Gv
/- A judgement for walking Go functions whose control and slots are reckoned by the kernel, not written. By an AI agent; over any program. -/
namespace Go.Gv
open Go.RowKit
/-- What is still to come behind the code in hand. -/
inductive Fm where
  | seq (c : Code)
  | blk (id : Nat)
  | scp
  | kk (K : Act → World → Prop)
inductive Cu where
  | code (c : Code)
  | ops (o : Array Oper) (l : List Oper)
  | ex (e : Exit)
structure Cf where
  cu : Cu
  k : List Fm
  L : List (Nat × Value)
def QQ (r : Option Nat) (m : Nat) (P : Program) (Q : Exit → Act → World → Prop) : List Fm → Exit → Act → World → Prop
  | [] => Q
  | .seq c :: k => Exit.then (fun a w => c.wpIn (FF r) m P (QQ r m P Q k) a w) (QQ r m P Q k)
  | .blk id :: k => Exit.inBlock id (QQ r m P Q k)
  | .scp :: k => Exit.noGoto (QQ r m P Q k)
  | .kk K :: k => Exit.then K (QQ r m P Q k)
def Cu.wp (r : Option Nat) (m : Nat) (P : Program) (Q : Exit → Act → World → Prop) (a : Act) (w : World) : Cu → Prop
  | .code c => c.wpIn (FF r) m P Q a w
  | .ops o l => wpListIn (FF r) m P o Q l a w
  | .ex e => Q e a w
/-- From the configuration on all goes well. -/
@[irreducible] def Go (r : Option Nat) (m : Nat) (P : Program) (Q : Exit → Act → World → Prop) (n : Nat) (D : List Deferred) (w : World) (c : Cf) : Prop :=
  ∀ a, Fr n a c.L D → c.cu.wp r m P (QQ r m P Q c.k) a w
attribute [local semireducible] Go
/-- A value is reckoned before it is kept. -/
def fv {α : Type} (v : Value) (f : Value → α) : α := match v with
  | .int k x => f (.int k x)
  | .bool b => f (.bool b)
  | .slice a l c => f (.slice a l c)
  | .pointer a => f (.pointer a)
  | .agg vs => f (.agg vs)
  | .tuple vs => f (.tuple vs)
  | v => f v
theorem fv_eq {α : Type} (v : Value) (f : Value → α) : fv v f = f v := by cases v <;> rfl
/-- One step, if it is a plain one. -/
def opS (P : Program) (n : Nat) (w : World) (ops : Array Oper) (o : Oper) (L : List (Nat × Value)) : Option (List (Nat × Value) × World) :=
  match o.dst with
  | none => none
  | some d =>
    bif Nat.blt d n && noDef o.op then
      bif wantL ops L o true then
        bif okOp L o then
          match (execOp (evL L) o).run P w with
          | .ok (.value v) w' => fv v fun v => some ((d, v) :: L, w')
          | _ => none
        else none
      else bif wantL ops L o false then some ((d, undef) :: L, w) else none
    else none
def codeS (r : Option Nat) (k : List Fm) (L : List (Nat × Value)) : Code → Option Cf
  | .seq x y => some ⟨.code x, .seq y :: k, L⟩
  | .skip => some ⟨.ex .normal, k, L⟩
  | .label _ => some ⟨.ex .normal, k, L⟩
  | .block id x => some ⟨.code x, .blk id :: k, L⟩
  | .exit id => some ⟨.ex (.exit id), k, L⟩
  | .ret => some ⟨.ex .ret, k, L⟩
  | .region _ o false => some ⟨.ops o o.toList, k, L⟩
  | .cond c x y => bif cov L c then (match evL L c with
    | .bool true => some ⟨.code x, k, L⟩
    | .bool false => some ⟨.code y, k, L⟩
    | _ => none) else none
  | .scope x => match r with
    | none => some ⟨.code x, .scp :: k, L⟩
    | some _ => none
  | _ => none
def exS (e : Exit) (L : List (Nat × Value)) : List Fm → Option Cf
  | [] => none
  | f :: k => match e, f with
    | .normal, .seq y => some ⟨.code y, k, L⟩
    | .normal, .blk _ => some ⟨.ex .normal, k, L⟩
    | .normal, .scp => some ⟨.ex .normal, k, L⟩
    | .exit id, .blk j => bif Nat.beq id j then some ⟨.ex .normal, k, L⟩ else some ⟨.ex (.exit id), k, L⟩
    | .exit id, _ => some ⟨.ex (.exit id), k, L⟩
    | .ret, _ => some ⟨.ex .ret, k, L⟩
    | _, _ => none
def nx1 (r : Option Nat) (P : Program) (n : Nat) (w : World) (c : Cf) : Option (Cf × World) :=
  match c with
  | ⟨.code x, k, L⟩ => match codeS r k L x with
    | some c => some (c, w)
    | none => none
  | ⟨.ops _ [], k, L⟩ => some (⟨.ex .normal, k, L⟩, w)
  | ⟨.ops o (x :: l), k, L⟩ => match opS P n w o x L with
    | some (L, w) => some (⟨.ops o l, k, L⟩, w)
    | none => none
  | ⟨.ex e, k, L⟩ => match exS e L k with
    | some c => some (c, w)
    | none => none
/-- So many steps; did all go? -/
def nx (r : Option Nat) (P : Program) (n : Nat) : Nat → World → Cf → Cf × World × Bool
  | 0, w, c => (c, w, true)
  | k + 1, w, c => match nx1 r P n w c with
    | some (c, w) => nx r P n k w c
    | none => (c, w, false)
section
variable {r : Option Nat} {m : Nat} {P : Program} {Q : Exit → Act → World → Prop} {n : Nat} {D : List Deferred} {w : World}
theorem go_code {x : Code} {k : List Fm} {L : List (Nat × Value)} {c' : Cf} (h : codeS r k L x = some c') (hg : Go r m P Q n D w c') : Go r m P Q n D w ⟨.code x, k, L⟩ := by
  intro a hF
  show x.wpIn (FF r) m P (QQ r m P Q k) a w
  cases x <;> simp only [codeS] at h <;> try cases h
  case skip => exact i_skip (hg a hF)
  case label => exact i_label (hg a hF)
  case seq x y => exact zG (fun K hK => wpIn_mono (hg a hF) (fun e a w hh => by cases e <;> first | exact hK _ _ hh | exact hh))
  case block => exact i_block (hg a hF)
  case exit => exact i_exit (hg a hF)
  case ret => exact i_ret (hg a hF)
  case region id o b =>
    cases b <;> simp only [codeS] at h <;> try cases h
    have := hg a hF
    cases o
    exact zC this
  case cond c x y =>
    cases hc : cov L c <;> simp only [hc, cond_true, cond_false] at h
    · cases h
    split at h
    · rename_i hv; cases h; exact i_true hF hc hv (hg a hF)
    · rename_i hv; cases h; exact i_false hF hc hv (hg a hF)
    · cases h
  case scope x =>
    cases r <;> simp only [] at h <;> cases h
    exact i_scope (hg a hF)
theorem go_ex {e : Exit} {k : List Fm} {L : List (Nat × Value)} {c' : Cf} (h : exS e L k = some c') (hg : Go r m P Q n D w c') : Go r m P Q n D w ⟨.ex e, k, L⟩ := by
  intro a hF
  show QQ r m P Q k e a w
  cases k with
  | nil => cases h
  | cons f k =>
    cases e <;> cases f <;> simp only [exS] at h <;> try cases h
    all_goals first
      | exact hg a hF
      | skip
    rename_i id j
    cases hb : Nat.beq id j <;> simp only [hb, cond_true, cond_false] at h <;> cases h
    · exact blk_past hb (hg a hF)
    · obtain rfl := Nat.eq_of_beq_eq_true hb
      exact blk_here (hg a hF)
end
/-! ### The operation in hand -/
def cops (c : Cf) : Array Oper := match c.cu with
  | .ops o _ => o
  | _ => #[]
def cop (c : Cf) : Oper := match c.cu with
  | .ops _ (x :: _) => x
  | _ => default
def crest (c : Cf) : List Oper := match c.cu with
  | .ops _ (_ :: l) => l
  | _ => []
def cd (c : Cf) : Nat := (cop c).dst.getD 0
def isop (n : Nat) (c : Cf) : Bool := (match c.cu with
  | .ops _ (_ :: _) => true
  | _ => false) && (wantL (cops c) c.L (cop c) true && (noDef (cop c).op && okOp c.L (cop c)))
/-- .. that writes a slot. -/
def isv (n : Nat) (c : Cf) : Bool := isop n c && (match (cop c).dst with
  | some t => Nat.blt t n
  | none => false)
/-- The operation has put out v. -/
def nv0 (c : Cf) (v : Value) : Cf := ⟨.ops (cops c) (crest c), c.k, (cd c, v) :: c.L⟩
def nv (c : Cf) (v : Value) : Cf := match c with
  | ⟨.ops o (x :: l), k, L⟩ => (match x.dst with
    | some d => ⟨.ops o l, k, (d, v) :: L⟩
    | none => nv0 c v)
  | _ => nv0 c v
theorem nv_eq (c : Cf) (v : Value) : nv c v = nv0 c v := by
  unfold nv
  split
  · split
    · rename_i hd; simp only [nv0, cops, crest, cd, cop, hd, Option.getD_some]
    · rfl
  · rfl
def n0 (c : Cf) : Cf := ⟨.ops (cops c) (crest c), c.k, c.L⟩
section
variable {r : Option Nat} {m : Nat} {P : Program} {Q : Exit → Act → World → Prop} {n : Nat} {D : List Deferred} {w : World} {c : Cf}
theorem z_op (hc : isop n c = true) (h : ∀ a, Fr n a c.L D → (cop c).wp P a w (wpListIn (FF r) m P (cops c) (QQ r m P Q c.k) (crest c)) (QQ r m P Q c.k)) : Go r m P Q n D w c := by
  intro a hF
  have h := h a hF
  obtain ⟨cu, k, L⟩ := c
  match cu, hc, hF, h with
  | .ops o (x :: l), hc, hF, h =>
    simp only [isop, Bool.true_and, Bool.and_eq_true, cops, cop] at hc
    exact wplI hF (by simp only [hc.1, hc.2.1, Bool.and_self]) h
  | .ops o [], hc, _, _ => simp [isop] at hc
  | .code _, hc, _, _ => simp [isop] at hc
  | .ex _, hc, _, _ => simp [isop] at hc
theorem isv_spec (h : isv n c = true) : isop n c = true ∧ opk c.L (cop c) (cd c) n = true := by
  simp only [isv, Bool.and_eq_true] at h
  refine ⟨h.1, ?_⟩
  have h1 := h.1
  simp only [isop, Bool.and_eq_true] at h1
  simp only [opk, Bool.and_eq_true, dstIs]
  refine ⟨h1.2.2.2, ?_⟩
  have h2 := h.2
  unfold cd
  cases hd : (cop c).dst <;> simp only [hd] at h2 ⊢
  · cases h2
  · simpa using h2
theorem wplI_run1 {ops : Array Oper} {o : Oper} {l : List Oper} {Q : Exit → Act → World → Prop} {a : Act} {w w' : World} {L L' : List (Nat × Value)} (hF : Fr n a L D) (hn : noDef o.op = true) (hr : runs P ops n 1 (o :: l) L w = some (L', w'))
    (hk : ∀ a', Fr n a' L' D → wpListIn (FF r) m P ops Q l a' w') : wpListIn (FF r) m P ops Q (o :: l) a w := by
  unfold runs at hr
  cases hd : o.dst with
  | none => simp [hd] at hr
  | some d =>
    simp only [hd] at hr
    cases hlt : Nat.blt d n with
    | false => simp [hlt] at hr
    | true =>
      simp only [hlt, cond_true] at hr
      have hdn : d < n := by simpa [Nat.blt_eq] using hlt
      cases hw : wantL ops L o true with
      | true =>
        simp only [hw, cond_true] at hr
        cases hok : okOp L o with
        | false => simp [hok] at hr
        | true =>
          simp only [hok, cond_true] at hr
          cases hx : (execOp (evL L) o).run P w with
          | halt h w1 => simp [hx] at hr
          | ok x w1 =>
            cases x <;> simp only [hx] at hr <;> try cases hr
            rename_i v
            refine wplI hF (by rw [hw, hn]; rfl) ?_
            unfold Oper.wp
            rw [hF.exec hok, hx]
            show wpListIn (FF r) m P ops Q l (a.put o.dst v) w'
            rw [hd]
            exact hk _ (hF.put hdn v)
      | false =>
        simp only [hw, cond_false] at hr
        cases hw2 : wantL ops L o false with
        | false => simp [hw2] at hr
        | true =>
          simp only [hw2, cond_true] at hr
          have hwf := hF.wanted hw2
          cases hr
          unfold wpListIn
          rw [if_neg (by rw [hwf]; simp), hd]
          exact ⟨fun f _ => FF_fn r f, hk _ (hF.put hdn _)⟩
theorem opS_spec {w' : World} {ops : Array Oper} {x : Oper} {l : List Oper} {k : List Fm} {L L' : List (Nat × Value)} (h : opS P n w ops x L = some (L', w')) (hg : Go r m P Q n D w' ⟨.ops ops l, k, L'⟩) : Go r m P Q n D w ⟨.ops ops (x :: l), k, L⟩ := by
  intro a hF
  show wpListIn (FF r) m P ops (QQ r m P Q k) (x :: l) a w
  have hr : runs P ops n 1 (x :: l) L w = some (L', w') ∧ noDef x.op = true := by
    unfold opS at h
    unfold runs
    cases hd : x.dst with
    | none => simp [hd] at h
    | some d =>
      simp only [hd] at h ⊢
      cases hlt : Nat.blt d n <;> simp only [hlt, Bool.false_and, Bool.true_and, cond_false, cond_true] at h ⊢
      · cases h
      cases hn : noDef x.op <;> simp only [hn, cond_false, cond_true] at h ⊢
      · cases h
      refine ⟨?_, trivial⟩
      cases hw : wantL ops L x true <;> simp only [hw, cond_false, cond_true] at h ⊢
      · cases hw2 : wantL ops L x false <;> simp only [hw2, cond_false, cond_true] at h ⊢
        · cases h
        · cases h; rfl
      cases hok : okOp L x <;> simp only [hok, cond_false, cond_true] at h ⊢
      · cases h
      cases hx : (execOp (evL L) x).run P w with
      | halt e w1 => simp [hx] at h
      | ok y w1 =>
        cases y <;> simp only [hx, fv_eq] at h ⊢ <;> cases h
        rfl
  exact wplI_run1 hF hr.2 hr.1 (fun a' hF' => hg a' hF')
theorem z_steps : ∀ (k : Nat) (w : World) (c : Cf), Go r m P Q n D (nx r P n k w c).2.1 (nx r P n k w c).1 → Go r m P Q n D w c
  | 0, _, _, h => h
  | k + 1, w, c, h => by
    unfold nx at h
    split at h
    · rename_i c' w' hc'
      have h := z_steps k w' c' h
      obtain ⟨cu, k, L⟩ := c
      unfold nx1 at hc'
      match cu, hc' with
      | .code x, hc' =>
        simp only at hc'
        cases hs : codeS r k L x <;> simp only [hs] at hc' <;> cases hc'
        exact go_code hs h
      | .ex e, hc' =>
        simp only at hc'
        cases hs : exS e L k <;> simp only [hs] at hc' <;> cases hc'
        exact go_ex hs h
      | .ops o [], hc' => cases hc'; exact h
      | .ops o (x :: l), hc' =>
        simp only at hc'
        cases hs : opS P n w o x L <;> simp only [hs] at hc' <;> cases hc'
        exact opS_spec hs h
    · exact h
/-- So many plain steps. -/
theorem zz (k : Nat) (h : Go r m P Q n D w (nx r P n k w c).1) (hk : (nx r P n k w c).2 = (w, true) := by kernel_rfl) : Go r m P Q n D w c :=
  z_steps k w c (by rw [hk]; exact h)
/-- A slot that holds a truth value: both ways. -/
def st (c : Cf) (t : Nat) (v : Value) : Cf := match c with
  | ⟨cu, k, L⟩ => ⟨cu, k, (t, v) :: L⟩
def sl (c : Cf) (t : Nat) : Option Value := bif has c.L t then some (look c.L t) else none
theorem sl_spec {t : Nat} {v : Value} (h : sl c t = some v) : has c.L t = true ∧ look c.L t = v := by
  unfold sl at h
  cases hh : has c.L t <;> simp only [hh, cond_false, cond_true] at h <;> cases h
  exact ⟨rfl, rfl⟩
theorem zs (t : Nat) {v v' : Value} (e : v = v') (h : Go r m P Q n D w (st c t v')) (hv : sl c t = some v := by kernel_rfl) : Go r m P Q n D w c := fun a hF =>
  h a (hF.set t (sl_spec hv).1 (sl_spec hv).2 e)
theorem zt (t : Nat) {p : Prop} [Decidable p] (ht : p → Go r m P Q n D w (st c t (.bool true))) (hf : ¬ p → Go r m P Q n D w (st c t (.bool false))) (hv : sl c t = some (.bool (decide p)) := by kernel_rfl) : Go r m P Q n D w c := by
  by_cases h : p
  · exact zs t (by rw [decide_eq_true h]) (ht h) hv
  · exact zs t (by rw [decide_eq_false h]) (hf h) hv
theorem zb (t : Nat) {b : Bool} (ht : b = true → Go r m P Q n D w (st c t (.bool true))) (hf : b = false → Go r m P Q n D w (st c t (.bool false))) (hv : sl c t = some (.bool b) := by kernel_rfl) : Go r m P Q n D w c := by
  cases b
  · exact zs t rfl (hf rfl) hv
  · exact zs t rfl (ht rfl) hv
/-- An integer within its bounds. -/
theorem zw (t : Nat) {x : Int} (h : Go r m P Q n D w (st c t (.int .i64 x))) (h0 : -9223372036854775808 ≤ x := by omega) (h1 : x ≤ 9223372036854775807 := by omega) (hv : sl c t = some (.int .i64 (IntKind.i64.wrap x)) := by kernel_rfl) : Go r m P Q n D w c :=
  zs t (vint (wi64 h0 h1)) h hv
variable {E : Nat → Prop} {w0 : World} {X Y : Hid} {M : List (Nat × Obj)}
/-- A value by a law of its own. -/
theorem zv {v : Value} (hrun : (execOp (evL c.L) (cop c)).run P w = .ok (.value v) w) (h : Go r m P Q n D w (nv c v)) (hc : isv n c = true := by kernel_rfl) : Go r m P Q n D w c :=
  z_op (isv_spec hc).1 fun _ hF => zF hF (isv_spec hc).2 hrun fun _ G1 => (nv_eq c v ▸ h : Go r m P Q n D w (nv0 c v)) _ G1
/-- A load. -/
theorem zl {vs : List Value} {ad : Addr} (hcs : CellsAt w ad vs) (h : Go r m P Q n D w (nv c (ldV (ldG P (cop c)) vs))) (hc : isv n c = true := by kernel_rfl)
    (ho : (cop c).op = .load (ldT' (cop c)) (ldX (cop c)) := by kernel_rfl) (hx : evL c.L (ldX (cop c)) = .pointer (some ad) := by kernel_rfl) (ht : ldT P (ldT' (cop c)) = some (ldG P (cop c), vs.length) := by kernel_rfl) (hg : (ldG P (cop c) || vs.length == 1) = true := by kernel_rfl) : Go r m P Q n D w c :=
  zv (zB ho hx ht (by simpa using hg) hcs) h hc
end
end Go.Gv
/- Laws of the judgement Go: memory, calls, loops, the way in and out. By an AI agent; over any program. -/
namespace Go.Gv
open Go.RowKit
attribute [local semireducible] Go
def pOff : Value → Nat
  | .pointer (some a) => a.off
  | _ => 0
def ldM (P : Program) (o : Oper) : Nat := match ldT P (ldT' o) with
  | some (_, m) => m
  | none => 0
section
variable {r : Option Nat} {m : Nat} {P : Program} {Q : Exit → Act → World → Prop} {n : Nat} {D : List Deferred} {w : World} {c : Cf} {E : Nat → Prop} {w0 : World} {X Y : Hid} {M : List (Nat × Obj)}
/-- What stands in block i of those that the call owns, where the operation in hand reads. -/
def own (P : Program) (c : Cf) (M : List (Nat × Obj)) (i : Nat) : List Value := ((cO M i).toList.drop (pOff (evL c.L (ldX (cop c))))).take (ldM P (cop c))
/-- A load from the block i of those that the call owns. -/
theorem zo (i : Nat) (hS : St E w0 X w Y M) (h : Go r m P Q n D w (nv c (ldV (ldG P (cop c)) (own P c M i)))) (hc : isv n c = true := by kernel_rfl)
    (ho : (cop c).op = .load (ldT' (cop c)) (ldX (cop c)) := by kernel_rfl) (hx : evL c.L (ldX (cop c)) = .pointer (some ⟨bO M i, pOff (evL c.L (ldX (cop c))), none⟩) := by kernel_rfl)
    (ht : ldT P (ldT' (cop c)) = some (ldG P (cop c), (own P c M i).length) := by kernel_rfl) (hg : (ldG P (cop c) || (own P c M i).length == 1) = true := by kernel_rfl) (hi : M[i]? = some (bO M i, .cells (cO M i) (tO M i) (fO M i)) := by kernel_rfl) (hm : (own P c M i).length = ldM P (cop c) := by kernel_rfl) : Go r m P Q n D w c :=
  zv (zB ho hx ht (by simpa using hg) (hS.cells i hi (by rw [hm]; rfl))) h hc
/-- The function called and its arguments. -/
def clV (c : Cf) : Option (FuncId × Array Value) := match evL c.L (clF (cop c)) with
  | .func (.func f) t cap => bif t.isEmpty then some (f, (clA (cop c)).map (evL c.L) ++ cap) else none
  | _ => none
theorem clV_spec {f : FuncId} {vs : Array Value} (h : clV c = some (f, vs)) : ∃ cap, evL c.L (clF (cop c)) = .func (.func f) #[] cap ∧ (clA (cop c)).map (evL c.L) ++ cap = vs := by
  unfold clV at h
  split at h
  · rename_i f' t cap he
    cases ht : t.isEmpty <;> simp only [ht, cond_true, cond_false] at h <;> cases h
    obtain rfl : t = #[] := by simpa using ht
    exact ⟨cap, he, rfl⟩
  · cases h
theorem zc {f : FuncId} {vs : Array Value} {Φ : World → Value → Prop} (hS : St E w0 X w Y M) (hcon : Calls P f vs w (Ret E0 w Φ))
    (k : ∀ v w1, St E w0 X w1 Y M → Le (rd w Y) (rd w1 Y) → Upd E0 w w1 → Φ w1 v → Go r m P Q n D w1 (nv c v))
    (hv : clV c = some (f, vs) := by kernel_rfl) (hc : isv n c = true := by kernel_rfl) (ho : (cop c).op = .call { callee := .value (clF (cop c)), args := clA (cop c), argTypes := clT (cop c) } := by kernel_rfl)
    (hcall : ∀ w, (callFunc f vs).run P w = .ok (.enter f vs) w := by intro w; kernel_rfl) : Go r m P Q n D w c := by
  obtain ⟨cap, hf, ha⟩ := clV_spec hv
  exact z_op (isv_spec hc).1 fun _ hF => op_call hF (isv_spec hc).2 hS ho hf ha hcall hcon fun v w1 h1 h2 h3 h4 a1 G1 => (nv_eq c v ▸ k v w1 h1 h2 h3 h4 : Go r m P Q n D w1 (nv0 c v)) a1 G1
theorem zcE {f : FuncId} {vs : Array Value} {ob : Obj} {b : Nat} {Φ : World → Value → Prop} (i : Nat) (hS : St E w0 X w Y M) (hM : M[i]? = some (b, ob)) (hcon : Calls P f vs w (Ret (· = b) w Φ))
    (k : ∀ v w1 ob', Φ w1 v → w1.heap[b]? = some ob' → St E w0 X w1 Y (M.set i (b, ob')) → Le (rd w Y) (rd w1 Y) → Go r m P Q n D w1 (nv c v))
    (hv : clV c = some (f, vs) := by kernel_rfl) (hc : isv n c = true := by kernel_rfl) (ho : (cop c).op = .call { callee := .value (clF (cop c)), args := clA (cop c), argTypes := clT (cop c) } := by kernel_rfl)
    (hcall : ∀ w, (callFunc f vs).run P w = .ok (.enter f vs) w := by intro w; kernel_rfl) : Go r m P Q n D w c := by
  obtain ⟨cap, hf, ha⟩ := clV_spec hv
  exact z_op (isv_spec hc).1 fun _ hF => op_callE i hF (isv_spec hc).2 hS ho hf ha hcall hM hcon fun v w1 ob' h1 h2 h3 h4 a1 G1 => (nv_eq c v ▸ k v w1 ob' h1 h2 h3 h4 : Go r m P Q n D w1 (nv0 c v)) a1 G1
/-- A new block. -/
theorem zn (vf : Nat → Value) (ob : Obj) (hS : St E w0 X w Y M) (k : ∀ b w1 Y1, St E w0 X w1 Y1 ((b, ob) :: M) → Le (rd w Y) (rd w1 Y1) → Upd E0 w w1 → Go r m P Q n D w1 (nv c (vf b)))
    (hrun : ∀ w, (execOp (evL c.L) (cop c)).run P w = .ok (.value (vf w.heap.size)) (w.alloc ob) := by intro w; kernel_rfl) (hc : isv n c = true := by kernel_rfl) : Go r m P Q n D w c :=
  z_op (isv_spec hc).1 fun _ hF => op_new vf ob hF (isv_spec hc).2 hS hrun fun b w1 Y1 h1 h2 h3 a1 G1 => (nv_eq c (vf b) ▸ k b w1 Y1 h1 h2 h3 : Go r m P Q n D w1 (nv0 c (vf b))) a1 G1
def pn (b : Nat) : Value := .pointer (some ⟨b, 0, none⟩)
/-- A store into the block i of those that the call owns. -/
def stT (o : Oper) : TypeId := match o.op with
  | .store t _ _ => t
  | _ => 0
def stA (o : Oper) : Operand := match o.op with
  | .store _ x _ => x
  | _ => .tmp 0
def stV (o : Oper) : Operand := match o.op with
  | .store _ _ x => x
  | _ => .tmp 0
def wr (c : Cf) (M : List (Nat × Obj)) (i : Nat) : Array Value := setCells (cO M i) (pOff (evL c.L (stA (cop c)))) (evL c.L (stV (cop c))).cells.toList
/-- What the call owns, the cells of block i written anew. -/
def wrO : Obj → Array Value → Obj
  | .cells _ T _, c => .cells c T (0, 0)
  | o, _ => o
def wrM : List (Nat × Obj) → Nat → Array Value → List (Nat × Obj)
  | [], _, _ => []
  | (b, o) :: M, 0, c => (b, wrO o c) :: M
  | p :: M, i + 1, c => p :: wrM M i c
theorem wrM_eq {b : Nat} {c c' : Array Value} {T : TypeId} {f : Nat × Nat} : ∀ {M : List (Nat × Obj)} {i : Nat}, M[i]? = some (b, .cells c T f) → wrM M i c' = M.set i (b, .cells c' T (0, 0))
  | [], i, h => by simp at h
  | p :: M, 0, h => by simp at h; subst h; rfl
  | p :: M, i + 1, h => by
    rw [List.getElem?_cons_succ] at h
    simp only [wrM, List.set_cons_succ]
    rw [wrM_eq h]
def isst (n : Nat) (c : Cf) : Bool := isop n c && (cop c).dst.isNone
def ldG' (P : Program) (t : TypeId) : Bool := match ldT P t with
  | some (g, _) => g
  | none => false
theorem zx (i : Nat) (c' : Array Value) (hS : St E w0 X w Y M) (k : ∀ w1, St E w0 X w1 Y (wrM M i c') → Le (rd w Y) (rd w1 Y) → Go r m P Q n D w1 (n0 c))
    (hc : isst n c = true := by kernel_rfl) (ho : (cop c).op = .store (stT (cop c)) (stA (cop c)) (stV (cop c)) := by kernel_rfl)
    (ha : evL c.L (stA (cop c)) = .pointer (some ⟨bO M i, pOff (evL c.L (stA (cop c))), none⟩) := by kernel_rfl)
    (ht : ldT P (stT (cop c)) = some (ldG' P (stT (cop c)), (evL c.L (stV (cop c))).cells.size) := by kernel_rfl) (h1 : (evL c.L (stV (cop c))).cells.toList.all Value.oneCell' = true := by kernel_rfl)
    (hM : M[i]? = some (bO M i, .cells (cO M i) (tO M i) (0, 0)) := by kernel_rfl) (hle : Nat.ble (pOff (evL c.L (stA (cop c))) + (evL c.L (stV (cop c))).cells.size) (cO M i).size = true := by kernel_rfl) (hw : wr c M i = c' := by kernel_rfl) : Go r m P Q n D w c := by
  simp only [isst, Bool.and_eq_true] at hc
  have hc1 := hc.1
  simp only [isop, Bool.and_eq_true] at hc1
  exact z_op hc.1 fun _ hF => zE i _ hF (by simp only [hc1.2.2.2, hc.2, Bool.and_self]) hS ho ha rfl ht rfl h1 hM (Nat.le_of_ble_eq_true hle) hw rfl fun w1 h2 h3 => k w1 (by rw [wrM_eq hM]; exact h2) h3 _ hF
end
/-! ### The way in, the way out -/
def bd (fn : Func) : Code := fn.body.getD .skip
section
variable {P : Program} {n : Nat} {D : List Deferred} {w : World} {c : Cf} {E : Nat → Prop} {w0 : World} {X Y : Hid} {M : List (Nat × Obj)}
theorem zen {f : FuncId} {args : Array Value} {R : Ending → World → Prop} {fn : Func} (hf : P.funcs[f]? = some fn) (h : Go none 0 P (bodyPost P fn R) fn.ntmps [] w ⟨.code (bd fn), [], argsL 0 args.toList⟩) (hb : fn.body = some (bd fn) := by rfl) (hle : Nat.ble args.toList.length fn.ntmps = true := by kernel_rfl) : Calls P f args w R :=
  i_enter hf hb rfl rfl hle fun a hF => h a hF
/-- The results, where each is a slot. -/
def resV (fn : Func) (L : List (Nat × Value)) : List ResultVar → Option (List Value)
  | [] => some []
  | .tmp t :: rs => bif has L t then (match resV fn L rs with
    | some vs => some (look L t :: vs)
    | none => none) else none
  | _ => none
theorem resV_spec {fn : Func} {L : List (Nat × Value)} : ∀ {rs : List ResultVar} {vs : List Value}, resV fn L rs = some vs → Res P L w rs vs
  | [], vs, h => by cases h; exact .nil
  | .tmp t :: rs, vs, h => by
    unfold resV at h
    cases hh : has L t <;> simp only [hh, cond_true, cond_false] at h
    · cases h
    cases hr : resV fn L rs <;> simp only [hr] at h <;> cases h
    exact .tmp hh (resV_spec hr)
  | .cell .. :: rs, vs, h => by simp [resV] at h
def fin (c : Cf) : Bool := (match c.cu with
  | .ex .ret => true
  | .ex .normal => true
  | _ => false) && c.k.isEmpty
def resP (fn : Func) (c : Cf) : Option Value := bif fin c then (match resV fn c.L fn.results.toList with
  | some vs => some (pack vs)
  | none => none) else none
theorem zr' {fn : Func} {R : Ending → World → Prop} {v : Value} (hR : R (.returned v) w) (hv : resP fn c = some v := by kernel_rfl) : Go none 0 P (bodyPost P fn R) n [] w c := by
  intro a hF
  unfold resP at hv
  cases hf : fin c <;> simp only [hf, cond_true, cond_false] at hv
  · cases hv
  cases hr : resV fn c.L fn.results.toList <;> simp only [hr] at hv <;> cases hv
  rename_i vs
  simp only [fin, Bool.and_eq_true] at hf
  obtain ⟨cu, k, L⟩ := c
  match cu, k, hf with
  | .ex .ret, [], _ => exact c_ret hF (by simp) (resV_spec hr) rfl hR
  | .ex .normal, [], _ => exact c_end hF (by simp) (resV_spec hr) rfl hR
theorem zr {fn : Func} {Φ : World → Value → Prop} (hS : St E w0 X w Y M) (v : Value) (h : Φ w v) (hv : resP fn c = some v := by kernel_rfl) : Go none 0 P (bodyPost P fn (Ret E w0 Φ)) n [] w c :=
  zr' (⟨hS.upd, v, rfl, h⟩ : Ret E w0 Φ (.returned v) w) hv
end
/-! ### Loops and cuts -/
/-- The piece of a body that lies at a path, and what is still to come behind it. -/
def cfAt : List (Act → World → Prop) → Code → List Nat → List Fm → Code × List Fm
  | _, c, [], k => (c, k)
  | K :: Ks, .seq x _, 9 :: p, k => cfAt Ks x p (.kk K :: k)
  | Ks, .seq x y, 0 :: p, k => cfAt Ks x p (.seq y :: k)
  | Ks, .seq _ y, _ :: p, k => cfAt Ks y p k
  | Ks, .block id x, _ :: p, k => cfAt Ks x p (.blk id :: k)
  | Ks, .scope x, _ :: p, k => cfAt Ks x p (.scp :: k)
  | Ks, .cond _ x _, 0 :: p, k => cfAt Ks x p k
  | Ks, .cond _ _ y, _ :: p, k => cfAt Ks y p k
  | K :: Ks, .loop x, _ :: p, k => cfAt Ks x p (.kk K :: k)
  | Ks, .rangeFunc _ _ x _, 0 :: p, _ => cfAt Ks x p []
  | Ks, .rangeFunc _ _ _ x, _ :: p, _ => cfAt Ks x p []
  | _, c, _, k => (c, k)
def lbody : Code → Code
  | .loop x => x
  | c => c
section
variable {r : Option Nat} {m : Nat} {P : Program} {Q : Exit → Act → World → Prop} {n : Nat} {D : List Deferred} {w : World} {c : Cf}
/-- The configuration said anew: the place by its path, the slots that are looked at later. -/
theorem zat {x : Code} {k : List Fm} (L : List (Nat × Value)) (h : Go r m P Q n D w ⟨.code x, k, L⟩) (hx : c.cu = .code x := by kernel_rfl) (hk : c.k = k := by kernel_rfl) (hs : hasAll c.L (L.map (·.1)) = true := by kernel_rfl) (hl : keep c.L (L.map (·.1)) = L := by kernel_rfl) : Go r m P Q n D w c := by
  intro a hF
  have := h a (hF.as _ hs hl)
  rw [hx, hk]
  exact this
theorem zloop {γ : Type} {x : Code} {k : List Fm} (LL : γ → List (Nat × Value)) (I : γ → World → Prop) (μ : γ → Nat) (g0 : γ) (h0 : I g0 w)
    (round : ∀ g w1 K, (∀ g2 w2 a2, Fr n a2 (LL g2) D → I g2 w2 → μ g2 < μ g → K a2 w2) → I g w1 → Go r m P Q n D w1 ⟨.code (lbody x), .kk K :: k, LL g⟩)
    (hx : c.cu = .code x := by kernel_rfl) (hl : x = .loop (lbody x) := by kernel_rfl) (hk : c.k = k := by kernel_rfl) (hs : hasAll c.L ((LL g0).map (·.1)) = true := by kernel_rfl) (he : keep c.L ((LL g0).map (·.1)) = LL g0 := by kernel_rfl) : Go r m P Q n D w c := by
  intro a hF
  rw [hx, hl, hk]
  refine i_loop (fun g a w => Fr n a (LL g) D ∧ I g w) μ g0 ⟨hF.as _ hs he, h0⟩ ?_
  rintro g a1 w1 ⟨G1, h1⟩
  exact round g w1 (fun a' w' => ∃ g', (Fr n a' (LL g') D ∧ I g' w') ∧ μ g' < μ g) (fun g2 w2 a2 h2 h3 h4 => ⟨g2, ⟨h2, h3⟩, h4⟩) h1 a1 G1
/-- The round's end. -/
theorem znext {K : Act → World → Prop} {L : List (Nat × Value)} (hK : ∀ a2, Fr n a2 L D → K a2 w) (hx : c.cu = .ex .normal := by kernel_rfl) (hk : c.k = .kk K :: c.k.tail := by kernel_rfl) (hs : hasAll c.L (L.map (·.1)) = true := by kernel_rfl) (hl : keep c.L (L.map (·.1)) = L := by kernel_rfl) : Go r m P Q n D w c := by
  intro a hF
  rw [hx, hk]
  exact hK a (hF.as _ hs hl)
end
/-! ### To and from the older judgements -/
section
variable {r : Option Nat} {m : Nat} {P : Program} {Q : Exit → Act → World → Prop} {n : Nat} {D : List Deferred} {w : World} {c : Cf} {a : Act} {E : Nat → Prop} {w0 : World} {X Y : Hid} {M : List (Nat × Obj)}
theorem toZ {o : Array Oper} {l : List Oper} {k : List Fm} {L : List (Nat × Value)} (hF : Fr n a L D) (h : Go r m P Q n D w ⟨.ops o l, k, L⟩) : wpListIn (FF r) m P o (QQ r m P Q k) l a w := h a hF
def rops : Code → Array Oper
  | .region _ o _ => o
  | _ => #[]
def opN (ops : Array Oper) (j : Nat) : Oper := (ops[j]?).getD default
/-- The operation in hand is operation j of the region at x: by a law of the older kind. -/
theorem zop (x : Code) (j : Nat) (h : ∀ (a : Act) (K : Act → World → Prop), Fr n a c.L D → (∀ {L' : List (Nat × Value)} {w' : World} {a' : Act}, Fr n a' L' D → Go r m P Q n D w' ⟨.ops (rops x) ((rops x).toList.drop (j + 1)), c.k, L'⟩ → K a' w') → (opN (rops x) j).wp P a w K (QQ r m P Q c.k))
    (hx : c.cu = .ops (rops x) (opN (rops x) j :: (rops x).toList.drop (j + 1)) := by kernel_rfl) (hc : isop n c = true := by kernel_rfl) : Go r m P Q n D w c := by
  refine z_op hc ?_
  obtain ⟨cu, k, L⟩ := c
  simp only at hx
  subst hx
  exact fun a hF => h a _ hF fun hF' hg => hg _ hF'
def idX (o : Oper) : Operand := match o.op with
  | .indexAddr _ x _ => x
  | _ => .tmp 0
def idI (o : Oper) : Operand := match o.op with
  | .indexAddr _ _ x => x
  | _ => .tmp 0
def idT (o : Oper) : TypeId := match o.op with
  | .indexAddr t _ _ => t
  | _ => 0
def idE (P : Program) (t : TypeId) : TypeId := match P.underlying t with
  | some (.slice e) => e
  | _ => 0
def ldS (P : Program) (t : TypeId) : Nat := match ldT P t with
  | some (_, m) => m
  | none => 0
/-- The address of an element. -/
theorem zi {b off len cap : Nat} {kd : IntKind} {i : Int} (m' off' : Nat) (h : Go r m P Q n D w (nv c (.pointer (some ⟨b, off', none⟩)))) (h0 : 0 ≤ i := by omega) (h1 : i < len := by omega)
    (hoff : off + i.toNat * m' = off' := by first | rfl | omega | (simp; done) | (simp; omega)) (hm : ldS P (idE P (idT (cop c))) = m' := by kernel_rfl) (hx : evL c.L (idX (cop c)) = .slice (some ⟨b, off, none⟩) len cap := by kernel_rfl) (hi : evL c.L (idI (cop c)) = .int kd i := by kernel_rfl) (hc : isv n c = true := by kernel_rfl)
    (ho : (cop c).op = .indexAddr (idT (cop c)) (idX (cop c)) (idI (cop c)) := by kernel_rfl) (ht : P.underlying (idT (cop c)) = some (.slice (idE P (idT (cop c)))) := by kernel_rfl)
    (he : ldT P (idE P (idT (cop c))) = some (ldG' P (idE P (idT (cop c))), ldS P (idE P (idT (cop c)))) := by kernel_rfl) : Go r m P Q n D w c :=
  zv (run_indexOp ho ht hx hi he h0 h1 (by rw [hm]; exact hoff) w) h hc
/-- The results, some of them cells. -/
theorem zrR {w : World} {fn : Func} {R : Ending → World → Prop} {rs : List ResultVar} {vs : List Value} {v : Value} (h : Res P c.L w rs vs) (hR : R (.returned v) w) (hr : fn.results = rs.toArray := by kernel_rfl) (hv : pack vs = v := by kernel_rfl) (hf : fin c = true := by kernel_rfl) : Go none 0 P (bodyPost P fn R) n [] w c := by
  intro a hF
  simp only [fin, Bool.and_eq_true] at hf
  obtain ⟨cu, k, L⟩ := c
  match cu, k, hf with
  | .ex .ret, [], _ => exact c_ret hF hr h hv hR
  | .ex .normal, [], _ => exact c_end hF hr h hv hR
def seqL : Code → Code
  | .seq x _ => x
  | c => c
def seqR : Code → Code
  | .seq _ y => y
  | c => c
/-- The ways through x meet again ahead of y. -/
theorem zcut {γ : Type} {x : Code} {k : List Fm} (LL : γ → List (Nat × Value)) (I : γ → World → Prop) (hy : ∀ g w1, I g w1 → Go r m P Q n D w1 ⟨.code (seqR x), k, LL g⟩)
    (hxx : ∀ K, (∀ g w2 a2, Fr n a2 (LL g) D → I g w2 → K a2 w2) → Go r m P Q n D w ⟨.code (seqL x), .kk K :: k, c.L⟩)
    (hx : c.cu = .code x := by kernel_rfl) (hs : x = .seq (seqL x) (seqR x) := by kernel_rfl) (hk : c.k = k := by kernel_rfl) : Go r m P Q n D w c := by
  intro a hF
  rw [hx, hs, hk]
  refine i_cut (fun a w => ∃ g, Fr n a (LL g) D ∧ I g w) (hxx _ (fun g w2 a2 h1 h2 => ⟨g, h1, h2⟩) a hF) ?_
  rintro a w ⟨g, h1, h2⟩
  exact hy g w h2 a h1
abbrev at1 (Ks : List (Act → World → Prop)) (f : Func) (p : List Nat) : Code := (cfAt Ks (bd f) p []).1
abbrev at2 (Ks : List (Act → World → Prop)) (f : Func) (p : List Nat) : List Fm := (cfAt Ks (bd f) p []).2
theorem zlp {γ : Type} (f : Func) (Ks : List (Act → World → Prop)) (p : List Nat) (LL : γ → List (Nat × Value)) (I : γ → World → Prop) (μ : γ → Nat) (g0 : γ) (h0 : I g0 w)
    (round : ∀ g w1 K, (∀ g2 w2 a2, Fr n a2 (LL g2) D → I g2 w2 → μ g2 < μ g → K a2 w2) → I g w1 → Go r m P Q n D w1 ⟨.code (lbody (at1 Ks f p)), .kk K :: at2 Ks f p, LL g⟩)
    (hx : c.cu = .code (at1 Ks f p) := by kernel_rfl) (hl : at1 Ks f p = .loop (lbody (at1 Ks f p)) := by kernel_rfl) (hk : c.k = at2 Ks f p := by kernel_rfl) (hs : hasAll c.L ((LL g0).map (·.1)) = true := by kernel_rfl) (he : keep c.L ((LL g0).map (·.1)) = LL g0 := by kernel_rfl) : Go r m P Q n D w c :=
  zloop LL I μ g0 h0 round hx hl hk hs he
def cuC (c : Cf) : Code := match c.cu with
  | .code x => x
  | _ => .skip
/-- A loop whose rounds all leave it. -/
theorem zloop0 (h : Go r m P Q n D w ⟨.code (lbody (cuC c)), .kk (fun _ _ => False) :: c.k, c.L⟩) (hx : c.cu = .code (cuC c) := by kernel_rfl) (hl : cuC c = .loop (lbody (cuC c)) := by kernel_rfl) : Go r m P Q n D w c := by
  intro a hF
  rw [hx, hl]
  refine i_loop (fun (_ : Unit) a' w' => a' = a ∧ w' = w) (fun _ => 0) () ⟨rfl, rfl⟩ (by
    rintro _ a' w' ⟨rfl, rfl⟩
    exact wpIn_mono (h a' hF) fun e a w h => by cases e <;> first | exact h.elim | exact h)
/-- The ways through the first part meet again ahead of the second. -/
theorem zjoin {γ : Type} (LL : γ → List (Nat × Value)) (I : γ → World → Prop) (hy : ∀ g w1, I g w1 → Go r m P Q n D w1 ⟨.code (seqR (cuC c)), c.k, LL g⟩)
    (hxx : ∀ K, (∀ g w2 a2, Fr n a2 (LL g) D → I g w2 → K a2 w2) → Go r m P Q n D w ⟨.code (seqL (cuC c)), .kk K :: c.k, c.L⟩)
    (hx : c.cu = .code (cuC c) := by kernel_rfl) (hs : cuC c = .seq (seqL (cuC c)) (seqR (cuC c)) := by kernel_rfl) : Go r m P Q n D w c := by
  intro a hF
  rw [hx, hs]
  refine i_cut (fun a w => ∃ g, Fr n a (LL g) D ∧ I g w) (hxx _ (fun g w2 a2 h1 h2 => ⟨g, h1, h2⟩) a hF) ?_
  rintro a w ⟨g, h1, h2⟩
  exact hy g w h2 a h1
end
end Go.Gv
/- A region that draws its order, walked as if its calls came one by one: what is allocated meanwhile may come up at any time. By an AI agent; over any program. -/
namespace Go.Gv
open Go.RowKit
attribute [local semireducible] Go
/-- An operation that may come up at any time after those that it needs: a plain one, or an allocation. deps: the operations (its own first) whose new blocks its value and its object are said by. -/
structure Pn where
  i : Nat
  d : Nat
  deps : List Nat
  vf : (Nat → Nat) → Value
  ob : Option ((Nat → Nat) → Obj)
def al (i d : Nat) (vf : Nat → Value) (ob : Obj) : Pn := ⟨i, d, [i], fun e => vf (e 0), some fun _ => ob⟩
def Pn.loc (p : Pn) (e : Nat → Nat) : Nat → Nat := fun k => e (p.deps.getD k p.i)
def Pn.val (p : Pn) (e : Nat → Nat) : Value := p.vf (p.loc e)
def up {α : Type} (f : Nat → α) (j : Nat) (x : α) : Nat → α := fun k => bif Nat.beq k j then x else f k
theorem up_same {α : Type} (f : Nat → α) (j : Nat) (x : α) : up f j x j = x := by simp [up]
theorem up_ne {α : Type} (f : Nat → α) {j k : Nat} (x : α) (h : k ≠ j) : up f j x k = f k := by
  unfold up
  cases hb : Nat.beq k j with
  | false => rfl
  | true => exact absurd (Nat.eq_of_beq_eq_true hb) h
/-- What does not change within the region. -/
structure Rg where
  P : Program
  ops : Array Oper
  Q : Exit → Act → World → Prop
  T : List Nat
  n : Nat
  D : List Deferred
  E : Nat → Prop
  w0 : World
  X : Hid
  M0 : List (Nat × Obj)
  r0 : Rd
def Rg.S (R : Rg) (w : World) : Prop := (∀ p ∈ R.M0, w.heap[p.1]? = some p.2) ∧ ∀ a v, R.r0 a = some v → w.cell? a = some v
/-- Some of those that the call owns, by their numbers. -/
def sel (M : List (Nat × Obj)) : List Nat → List (Nat × Obj)
  | [] => []
  | i :: is => match M[i]? with
    | some p => p :: sel M is
    | none => sel M is
theorem sel_mem {M : List (Nat × Obj)} : ∀ {is : List Nat}, ∀ p ∈ sel M is, p ∈ M
  | i :: is, p, h => by
    unfold sel at h
    split at h
    · rename_i q hq
      rcases List.mem_cons.1 h with rfl | h
      · exact List.mem_of_getElem? hq
      · exact sel_mem p h
    · exact sel_mem p h
theorem selm {M M0 : List (Nat × Obj)} (is : List Nat) (h : sel M is = M0 := by kernel_rfl) : ∀ p ∈ M0, p ∈ M := h ▸ sel_mem
def unl (l : Array Bool) : Nat := l.toList.countP (fun b => !b)
def wpU (R : Rg) (l : Array Bool) (a : Act) (w : World) : Prop := ∀ fuel, unl l ≤ fuel → wpT R.P R.ops (NormOnly R.Q) R.S R.T fuel l a w
theorem unl_set {l : Array Bool} {i : Nat} (h : l.getD i true = false) : unl (l.setIfInBounds i true) + 1 = unl l := by
  have hi : i < l.size := by
    rcases Nat.lt_or_ge i l.size with h' | h'
    · exact h'
    · simp [Array.getElem?_eq_none h'] at h
  have h1 : l[i] = false := by simpa [hi] using h
  have h2 : i < l.toList.length := by simpa using hi
  have h3 : l.toList[i]'h2 = false := by simpa using h1
  unfold unl
  rw [Array.toList_setIfInBounds, List.countP_set h2]
  have h4 : 0 < l.toList.countP (fun b => !b) := List.countP_pos_iff.2 ⟨_, List.getElem_mem h2, by simp [h3]⟩
  simp only [h3, Bool.not_false, if_true, Bool.not_true, Bool.false_eq_true, if_false]
  omega
section
variable {R : Rg} {l : Array Bool} {a : Act} {w : World} {o : Oper} {L : List (Nat × Value)}
theorem u_fuel {i : Nat} {fuel : Nat} (hr : i ∈ Region.ready .any R.ops l) (hf : unl l ≤ fuel) : ∃ f, fuel = f + 1 ∧ unl (l.setIfInBounds i true) ≤ f := by
  have := unl_set (mem_ready.1 hr).1
  exact ⟨fuel - 1, by omega, by omega⟩
theorem u_all (hne : Region.ready .any R.ops l ≠ []) (h : ∀ i ∈ Region.ready .any R.ops l, wpOp R.P R.ops (NormOnly R.Q) i (fun a' w' => (begun R.T (l.setIfInBounds i true) = false → R.S w') ∧ wpU R (l.setIfInBounds i true) a' w') a w) : wpU R l a w := by
  intro fuel hf
  obtain ⟨i, hi⟩ := List.exists_mem_of_ne_nil _ hne
  obtain ⟨f, rfl, _⟩ := u_fuel hi hf
  refine ⟨fun h0 => absurd h0 hne, fun j hj => wpOp_mono (fun a' w' h' => ⟨h'.1, h'.2 f ?_⟩) (h j hj)⟩
  obtain ⟨f', hf', h''⟩ := u_fuel hj hf
  omega
/-- An operation that yields v wherever it stands. -/
theorem u_val {i d : Nat} {v : Value} (hi : R.ops[i]? = some o) (hc : tchk R.ops R.T l i = true) (hk : chk R.ops L o d R.n = true) (hF : Fr R.n a L R.D)
    (hrun : (∀ w, (execOp (evL L) o).run R.P w = .ok (.value v) w) ∨ ((waits R.ops R.T i && !begun R.T l) = true ∧ ∀ w, R.S w → (execOp (evL L) o).run R.P w = .ok (.value v) w)) (hS : begun R.T l = false → R.S w)
    (k : Fr R.n (a.put (some d) v) ((d, v) :: L) R.D → wpU R (l.setIfInBounds i true) (a.put (some d) v) w) : wpU R l a w := by
  obtain ⟨h1, h2, h3, h4⟩ := tchk_spec hc
  simp only [chk, Bool.and_eq_true] at hk
  obtain ⟨hd, hlt⟩ := dstIs_spec hk.2.2
  intro fuel hf
  obtain ⟨f, rfl, hf'⟩ := u_fuel h3 hf
  rcases hrun with hrun | ⟨hw, hrun⟩
  · refine wpT_first hi (Region.noSelect_spec h1) (fun _ _ _ h => h) (fun _ => True) (.inl fun _ => trivial) h4 f l a w (Region.free_spec hi h2) h3 (.inl ⟨hF.wanted hk.1, fun w _ => by rw [hF.exec hk.2.1]; exact hrun w⟩) (.inl fun _ => trivial) hS trivial ?_
    rw [hd]
    exact k (hF.put hlt v) f hf'
  · simp only [Bool.and_eq_true, Bool.not_eq_true'] at hw
    refine wpT_first hi (Region.noSelect_spec h1) (fun _ _ _ h => h) R.S (.inr ⟨fun _ h => h, waits_spec hw.1⟩) h4 f l a w (Region.free_spec hi h2) h3 (.inl ⟨hF.wanted hk.1, fun w hs => by rw [hF.exec hk.2.1]; exact hrun w hs⟩) (.inr hw.2) hS (hS hw.2) ?_
    rw [hd]
    exact k (hF.put hlt v) f hf'
theorem u_skip {i d : Nat} (hi : R.ops[i]? = some o) (hc : tchk R.ops R.T l i = true) (hk : (wantL R.ops L o false && dstIs o d R.n) = true) (hF : Fr R.n a L R.D) (hS : begun R.T l = false → R.S w)
    (k : Fr R.n (a.put (some d) undef) ((d, undef) :: L) R.D → wpU R (l.setIfInBounds i true) (a.put (some d) undef) w) : wpU R l a w := by
  obtain ⟨h1, h2, h3, h4⟩ := tchk_spec hc
  simp only [Bool.and_eq_true] at hk
  obtain ⟨hd, hlt⟩ := dstIs_spec hk.2
  intro fuel hf
  obtain ⟨f, rfl, hf'⟩ := u_fuel h3 hf
  refine wpT_first hi (Region.noSelect_spec h1) (fun _ _ _ h => h) (fun _ => True) (.inl fun _ => trivial) h4 f l a w (Region.free_spec hi h2) h3 (.inr ⟨hF.wanted hk.1, rfl⟩) (.inl fun _ => trivial) hS trivial ?_
  rw [hd]
  exact k (hF.put hlt undef) f hf'
end
/-! ### Allocations that have come up or not -/
def pT : List Pn → (Nat → Bool) → Array Bool → Array Bool
  | [], _, l => l
  | p :: ps, f, l => pT ps f (bif f p.i then l.setIfInBounds p.i true else l)
def pM : List Pn → (Nat → Bool) → (Nat → Nat) → List (Nat × Obj)
  | [], _, _ => []
  | p :: ps, f, e => (bif f p.i then (match p.ob with
    | some o => [(e p.i, o (p.loc e))]
    | none => []) else []) ++ pM ps f e
def pOk (a : Act) (Pd : List Pn) (f : Nat → Bool) (e : Nat → Nat) : Prop := ∀ p ∈ Pd, f p.i = true → a.tmps[p.d]? = some (p.val e)
def pCl (Pd : List Pn) (f : Nat → Bool) : Prop := ∀ p ∈ Pd, f p.i = true → f p.i = true ∧ ∀ k, f (p.deps.getD k p.i) = true
def pAll (Pd : List Pn) (l : Array Bool) : Array Bool := pT Pd (fun _ => true) l
theorem pT_set : ∀ (Pd : List Pn) (f : Nat → Bool) (l : Array Bool) (i : Nat), pT Pd f (l.setIfInBounds i true) = (pT Pd f l).setIfInBounds i true
  | [], _, _, _ => rfl
  | p :: ps, f, l, i => by
    simp only [pT]
    rw [← pT_set ps f _ i]
    cases f p.i
    · rfl
    · simp only [cond_true]
      by_cases h : i = p.i
      · subst h; rfl
      · rw [Array.setIfInBounds_comm _ _ h]
/-- None of those that float is one of the stores at the end. -/
def pFree (T : List Nat) (Pd : List Pn) : Bool := Pd.all fun p => !T.contains p.i
/-- From this state of the region on all goes well, in whatever world that knows r and holds M. -/
@[irreducible] def Gt (R : Rg) (Pd : List Pn) (c : Array Bool × List (Nat × Value)) (M : List (Nat × Obj)) (r : Rd) : Prop :=
  pFree R.T Pd = true → (begun R.T c.1 = true ∨ ((∀ p ∈ R.M0, p ∈ M) ∧ Le R.r0 r)) →
  ∀ f e a w Y, pCl Pd f → Fr R.n a c.2 R.D → pOk a Pd f e → St R.E R.w0 R.X w Y (M ++ pM Pd f e) → Le r (rd w Y) → wpU R (pT Pd f c.1) a w
attribute [local semireducible] Gt
theorem begun_mono {T : List Nat} {l : Array Bool} {i : Nat} (h : begun T l = true) : begun T (l.setIfInBounds i true) = true := by
  unfold begun at *
  rw [List.any_eq_true] at *
  obtain ⟨t, ht, h⟩ := h
  exact ⟨t, ht, getD_set_true h⟩
theorem begun_pT {T : List Nat} : ∀ (Pd : List Pn) (f : Nat → Bool) (l : Array Bool), pFree T Pd = true → begun T (pT Pd f l) = begun T l
  | [], _, _, _ => rfl
  | p :: ps, f, l, h => by
    simp only [pFree, List.all_cons, Bool.and_eq_true] at h
    simp only [pT]
    refine (begun_pT ps f _ (by simpa [pFree] using h.2)).trans ?_
    cases f p.i
    · rfl
    · exact begun_set (fun e => by have := h.1; simp [e] at this)
/-- The operation i is none of those that float, nor is its slot. -/
def pNe (Pd : List Pn) (i : Nat) (d : Option Nat) : Bool := Pd.all fun p => !(p.i == i) && !(some p.d == d)
theorem tchk_mono {ops : Array Oper} {T : List Nat} {l : Array Bool} {i j : Nat} (h : tchk ops T l i = true) (hne : i ≠ j) : tchk ops T (l.setIfInBounds j true) i = true := by
  simp only [tchk, Bool.and_eq_true] at *
  refine ⟨h.1, ?_, ?_, h.2.2.2⟩
  · have h2 := h.2.1
    unfold Region.free at *
    cases ho : ops[i]? with
    | none => simp [ho] at h2
    | some oi =>
      simp only [ho, List.all_eq_true] at h2 ⊢
      intro k hk
      have := h2 k hk
      simp only [Bool.or_eq_true] at this ⊢
      rcases this with (h3 | h3) | h3
      · exact .inl (.inl h3)
      · refine .inl (.inr ?_)
        by_cases hkj : j = k
        · subst hkj
          rcases Nat.lt_or_ge j l.size with h' | h'
          · simp [h']
          · simp [Array.getElem?_eq_none, h']
        · rw [getD_set_ne true hkj]; exact h3
      · exact .inr h3
  · have h3 := h.2.2.1
    rw [List.contains_iff_mem] at *
    exact ready_mono h3 hne
theorem tchk_pT {ops : Array Oper} {T : List Nat} {i : Nat} {d : Option Nat} : ∀ (Pd : List Pn) (f : Nat → Bool) (l : Array Bool), pNe Pd i d = true → tchk ops T l i = true → tchk ops T (pT Pd f l) i = true
  | [], _, _, _, h => h
  | p :: ps, f, l, hp, h => by
    simp only [pNe, List.all_cons, Bool.and_eq_true] at hp
    refine tchk_pT (d := d) ps f _ (by simpa [pNe] using hp.2) ?_
    cases f p.i
    · exact h
    · exact tchk_mono h (fun e => by have := hp.1.1; simp [e] at this)
theorem pOk_put {i : Nat} {d : Option Nat} {a a' : Act} {v : Value} {Pd : List Pn} {f : Nat → Bool} {e : Nat → Nat} (ha : a'.tmps = (a.put d v).tmps) (hp : pNe Pd i d = true) (h : pOk a Pd f e) : pOk a' Pd f e := fun p hm hf => by
  have hne := List.all_eq_true.1 hp p hm
  simp only [Bool.and_eq_true, Bool.not_eq_true', beq_eq_false_iff_ne] at hne
  rw [ha]
  cases d with
  | none => exact h p hm hf
  | some d =>
    have : d ≠ p.d := fun e => hne.2 (by rw [e])
    show (a.tmps.setIfInBounds d v)[p.d]? = _
    rw [Array.getElem?_setIfInBounds_ne this]; exact h p hm hf
section
variable {R : Rg} {Pd : List Pn} {c : Array Bool × List (Nat × Value)} {M : List (Nat × Obj)} {r : Rd}
theorem hold {f : Nat → Bool} {e : Nat → Nat} {w : World} {Y : Hid} (hf : pFree R.T Pd = true) (h0 : begun R.T c.1 = true ∨ ((∀ p ∈ R.M0, p ∈ M) ∧ Le R.r0 r)) (hS : St R.E R.w0 R.X w Y (M ++ pM Pd f e)) (hle : Le r (rd w Y)) : begun R.T (pT Pd f c.1) = false → R.S w := fun hb => by
  rw [begun_pT Pd f _ hf] at hb
  rcases h0 with h0 | ⟨h1, h2⟩
  · rw [h0] at hb; cases hb
  · exact ⟨fun p hp => (hS.own p (List.mem_append_left _ (h1 p hp))).1, fun a v hv => rd_cell (hle _ _ (h2 _ _ hv))⟩
/-- The state after operation i has put out v. -/
def gv (R : Rg) (i : Nat) (v : Value) (c : Array Bool × List (Nat × Value)) : Array Bool × List (Nat × Value) :=
  (c.1.setIfInBounds i true, match (opAt R.ops i).dst with
    | some d => (d, v) :: c.2
    | none => c.2)
def gd (R : Rg) (i : Nat) : Nat := (opAt R.ops i).dst.getD 0
def gok (R : Rg) (Pd : List Pn) (c : Array Bool × List (Nat × Value)) (i : Nat) : Bool := tchk R.ops R.T c.1 i && (chk R.ops c.2 (opAt R.ops i) (gd R i) R.n && pNe Pd i (opAt R.ops i).dst)
theorem g_val (i : Nat) {v : Value} (hrun : (∀ w, (execOp (evL c.2) (opAt R.ops i)).run R.P w = .ok (.value v) w) ∨ ((waits R.ops R.T i && !begun R.T c.1) = true ∧ ∀ w, R.S w → (execOp (evL c.2) (opAt R.ops i)).run R.P w = .ok (.value v) w))
    (k : Gt R Pd (gv R i v c) M r) (hi : R.ops[i]? = some (opAt R.ops i) := by kernel_rfl) (hc : gok R Pd c i = true := by kernel_rfl) : Gt R Pd c M r := by
  intro hf h0 f e a w Y hb hF hp hS hle
  simp only [gok, Bool.and_eq_true] at hc
  have hk := hc.2.1
  simp only [chk, Bool.and_eq_true] at hk
  obtain ⟨hd, hlt⟩ := dstIs_spec hk.2.2
  have hT : i ∉ R.T := (tchk_spec hc.1).2.2.2
  refine u_val (i := i) hi (tchk_pT Pd f _ hc.2.2 hc.1) hc.2.1 hF (by rw [begun_pT Pd f _ hf]; exact hrun) (hold hf h0 hS hle) (fun G1 => ?_)
  rw [← pT_set]
  exact k hf (by
    show begun R.T (c.1.setIfInBounds i true) = true ∨ _
    rw [begun_set hT]; exact h0) f e (a.put (some (gd R i)) v) w Y hb (by simp only [gv, hd]; exact G1) (pOk_put (v := v) (by rw [hd]) hc.2.2 hp) hS hle
/-- An operation whose guard does not want it. -/
theorem g_skip (i : Nat) (k : Gt R Pd (gv R i undef c) M r) (hi : R.ops[i]? = some (opAt R.ops i) := by kernel_rfl) (hc : (tchk R.ops R.T c.1 i && (wantL R.ops c.2 (opAt R.ops i) false && dstIs (opAt R.ops i) (gd R i) R.n && pNe Pd i (opAt R.ops i).dst)) = true := by kernel_rfl) : Gt R Pd c M r := by
  intro hf h0 f e a w Y hb hF hp hS hle
  simp only [Bool.and_eq_true] at hc
  obtain ⟨hd, hlt⟩ := dstIs_spec hc.2.1.2
  have hT : i ∉ R.T := (tchk_spec hc.1).2.2.2
  refine u_skip (i := i) (d := gd R i) hi (tchk_pT Pd f _ hc.2.2 hc.1) (by simp only [hc.2.1.1, hc.2.1.2, Bool.and_self]) hF (hold hf h0 hS hle) (fun G1 => ?_)
  rw [← pT_set]
  exact k hf (by
    show begun R.T (c.1.setIfInBounds i true) = true ∨ _
    rw [begun_set hT]; exact h0) f e (a.put (some (gd R i)) undef) w Y hb (by simp only [gv, hd]; exact G1) (pOk_put (v := undef) (by rw [hd]) hc.2.2 hp) hS hle
/-- Several plain operations, by their numbers. -/
def g1 (R : Rg) (Pd : List Pn) (w : World) (i : Nat) (c : Array Bool × List (Nat × Value)) : Option ((Array Bool × List (Nat × Value)) × World) :=
  match R.ops[i]? with
  | none => none
  | some o =>
    bif tchk R.ops R.T c.1 i && pNe Pd i o.dst then
      match o.dst with
      | none => none
      | some d =>
        bif Nat.blt d R.n then
          bif wantL R.ops c.2 o true then
            bif okOp c.2 o then
              match (execOp (evL c.2) o).run R.P w with
              | .ok (.value v) w' => fv v fun v => some ((c.1.setIfInBounds i true, (d, v) :: c.2), w')
              | _ => none
            else none
          else bif wantL R.ops c.2 o false then some ((c.1.setIfInBounds i true, (d, undef) :: c.2), w) else none
        else none
    else none
def gc (R : Rg) (Pd : List Pn) (i : Nat) (c : Array Bool × List (Nat × Value)) : Array Bool × List (Nat × Value) := match g1 R Pd R.w0 i c with
  | some (c, _) => c
  | none => c
def gk (R : Rg) (Pd : List Pn) : List Nat → Array Bool × List (Nat × Value) → Array Bool × List (Nat × Value)
  | [], c => c
  | i :: is, c => gk R Pd is (gc R Pd i c)
theorem g_one {i : Nat} (h : ∀ w, g1 R Pd w i c = some (gc R Pd i c, w)) (k : Gt R Pd (gc R Pd i c) M r) : Gt R Pd c M r := by
  generalize hc' : gc R Pd i c = c' at h k
  clear hc'
  have h0 := h R.w0
  unfold g1 at h h0
  cases hi : R.ops[i]? with
  | none => simp [hi] at h0
  | some o =>
    have hoA : opAt R.ops i = o := by simp [opAt, hi]
    simp only [hi] at h h0
    cases ht : tchk R.ops R.T c.1 i <;> simp only [ht, Bool.false_and, Bool.true_and, cond_false, cond_true] at h h0
    · cases h0
    cases hn : pNe Pd i o.dst <;> simp only [hn, cond_false, cond_true] at h h0
    · cases h0
    cases hd : o.dst with
    | none => simp [hd] at h0
    | some d =>
      simp only [hd] at h h0
      cases hlt : Nat.blt d R.n <;> simp only [hlt, cond_false, cond_true] at h h0
      · cases h0
      have hds : dstIs o d R.n = true := by simp [dstIs, hd, hlt]
      have hgd : gd R i = d := by simp [gd, hoA, hd]
      cases hwt : wantL R.ops c.2 o true <;> simp only [hwt, cond_false, cond_true] at h h0
      · cases hwf : wantL R.ops c.2 o false <;> simp only [hwf, cond_false, cond_true] at h h0
        · cases h0
        cases h0
        refine g_skip i (by simpa [gv, hoA, hd] using k) (by rw [hoA]; exact hi) ?_
        rw [hoA, hgd]
        simp only [ht, hwf, hds, hn, Bool.and_self]
      · cases hok : okOp c.2 o <;> simp only [hok, cond_false, cond_true] at h h0
        · cases h0
        cases hx : (execOp (evL c.2) o).run R.P R.w0 with
        | halt e w1 => simp [hx] at h0
        | ok y w1 =>
          cases y <;> simp only [hx, fv_eq] at h0 <;> try cases h0
          rename_i v
          refine g_val (v := v) i (.inl fun w => ?_) (by simpa [gv, hoA, hd] using k) (by rw [hoA]; exact hi) ?_
          · rw [hoA]
            have hw := h w
            cases hy : (execOp (evL c.2) o).run R.P w with
            | halt e w1 => simp [hy] at hw
            | ok y w1 =>
              cases y <;> simp only [hy, fv_eq] at hw <;> cases hw
              rfl
          · rw [gok, hoA, hgd]
            simp only [chk, ht, hwt, hds, hok, hn, Bool.and_self]
/-- .. one after the other. -/
inductive GP (R : Rg) (Pd : List Pn) : List Nat → Array Bool × List (Nat × Value) → Prop
  | nil {c : Array Bool × List (Nat × Value)} : GP R Pd [] c
  | cons {i : Nat} {is : List Nat} {c : Array Bool × List (Nat × Value)} (h : ∀ w, g1 R Pd w i c = some (gc R Pd i c, w)) (k : GP R Pd is (gc R Pd i c)) : GP R Pd (i :: is) c
theorem g_take : ∀ (is : List Nat) {c : Array Bool × List (Nat × Value)}, Gt R Pd (gk R Pd is c) M r → GP R Pd is c → Gt R Pd c M r
  | _, _, k, .nil => k
  | _, _, k, .cons h hk => g_one h (g_take _ k hk)
theorem gz (is : List Nat) (k : Gt R Pd (gk R Pd is c) M r) (h : GP R Pd is c := by repeat (first | exact GP.nil | refine GP.cons (by intro w; kernel_rfl) ?_)) : Gt R Pd c M r := g_take is k h
/-- A load of what is read. -/
theorem gl (i : Nat) {vs : List Value} {ad : Addr} (hat : At R.r0 ad vs) (k : Gt R Pd (gv R i (ldV (ldG R.P (opAt R.ops i)) vs) c) M r) (hi : R.ops[i]? = some (opAt R.ops i) := by kernel_rfl) (hc : gok R Pd c i = true := by kernel_rfl)
    (hT : (waits R.ops R.T i && !begun R.T c.1) = true := by kernel_rfl)
    (ho : (opAt R.ops i).op = .load (ldT' (opAt R.ops i)) (ldX (opAt R.ops i)) := by kernel_rfl) (hx : evL c.2 (ldX (opAt R.ops i)) = .pointer (some ad) := by kernel_rfl) (ht : ldT R.P (ldT' (opAt R.ops i)) = some (ldG R.P (opAt R.ops i), vs.length) := by kernel_rfl) (hg : (ldG R.P (opAt R.ops i) || vs.length == 1) = true := by kernel_rfl) : Gt R Pd c M r :=
  g_val i (.inr ⟨hT, fun _ hS => zB ho hx ht (by simpa using hg) fun j v hj => hS.2 _ _ (hat j v hj)⟩) k hi hc
/-- A load from the block j of those that stand still. -/
def gow (R : Rg) (c : Array Bool × List (Nat × Value)) (i j : Nat) : List Value := ((cO R.M0 j).toList.drop (pOff (evL c.2 (ldX (opAt R.ops i))))).take (ldM R.P (opAt R.ops i))
theorem gw (i j : Nat) (k : Gt R Pd (gv R i (ldV (ldG R.P (opAt R.ops i)) (gow R c i j)) c) M r) (hi : R.ops[i]? = some (opAt R.ops i) := by kernel_rfl) (hc : gok R Pd c i = true := by kernel_rfl)
    (hT : (waits R.ops R.T i && !begun R.T c.1) = true := by kernel_rfl)
    (ho : (opAt R.ops i).op = .load (ldT' (opAt R.ops i)) (ldX (opAt R.ops i)) := by kernel_rfl) (hx : evL c.2 (ldX (opAt R.ops i)) = .pointer (some ⟨bO R.M0 j, pOff (evL c.2 (ldX (opAt R.ops i))), none⟩) := by kernel_rfl)
    (ht : ldT R.P (ldT' (opAt R.ops i)) = some (ldG R.P (opAt R.ops i), (gow R c i j).length) := by kernel_rfl) (hg : (ldG R.P (opAt R.ops i) || (gow R c i j).length == 1) = true := by kernel_rfl)
    (hj : R.M0[j]? = some (bO R.M0 j, .cells (cO R.M0 j) (tO R.M0 j) (fO R.M0 j)) := by kernel_rfl) : Gt R Pd c M r :=
  g_val i (.inr ⟨hT, fun w hS => zB ho hx ht (by simpa using hg) (by
    have h1 := hS.1 _ (List.mem_of_getElem? hj)
    intro q v hq
    rw [add_mk, cell_of_row w _ _ _ _ _ h1]
    unfold gow at hq
    rw [List.getElem?_take] at hq
    split at hq
    · rw [List.getElem?_drop] at hq
      simpa using hq
    · cases hq)⟩) k hi hc
/-- A value by a law of its own. -/
theorem gH (i : Nat) {v : Value} (hrun : ∀ w, (execOp (evL c.2) (opAt R.ops i)).run R.P w = .ok (.value v) w) (k : Gt R Pd (gv R i v c) M r) (hi : R.ops[i]? = some (opAt R.ops i) := by kernel_rfl) (hc : gok R Pd c i = true := by kernel_rfl) : Gt R Pd c M r := g_val i (.inl hrun) k hi hc
/-- The address of an element. -/
theorem gi (j : Nat) {b off len cap : Nat} {kd : IntKind} {i : Int} (m off' : Nat) (k : Gt R Pd (gv R j (.pointer (some ⟨b, off', none⟩)) c) M r) (h0 : 0 ≤ i := by omega) (h1 : i < len := by omega)
    (hoff : off + i.toNat * m = off' := by first | rfl | omega | (simp; done) | (simp; omega)) (hm : ldS R.P (idE R.P (idT (opAt R.ops j))) = m := by kernel_rfl) (hx : evL c.2 (idX (opAt R.ops j)) = .slice (some ⟨b, off, none⟩) len cap := by kernel_rfl) (hi : evL c.2 (idI (opAt R.ops j)) = .int kd i := by kernel_rfl)
    (ho : (opAt R.ops j).op = .indexAddr (idT (opAt R.ops j)) (idX (opAt R.ops j)) (idI (opAt R.ops j)) := by kernel_rfl) (ht : R.P.underlying (idT (opAt R.ops j)) = some (.slice (idE R.P (idT (opAt R.ops j)))) := by kernel_rfl)
    (he : ldT R.P (idE R.P (idT (opAt R.ops j))) = some (ldG' R.P (idE R.P (idT (opAt R.ops j))), ldS R.P (idE R.P (idT (opAt R.ops j)))) := by kernel_rfl) (hi' : R.ops[j]? = some (opAt R.ops j) := by kernel_rfl) (hc : gok R Pd c j = true := by kernel_rfl) : Gt R Pd c M r :=
  gH j (fun w => run_indexOp ho ht hx hi he h0 h1 (by rw [hm]; exact hoff) w) k hi' hc
/-- A slot's value in other words. -/
def gst (c : Array Bool × List (Nat × Value)) (t : Nat) (v : Value) : Array Bool × List (Nat × Value) := (c.1, (t, v) :: c.2)
def gsl (c : Array Bool × List (Nat × Value)) (t : Nat) : Option Value := bif has c.2 t then some (look c.2 t) else none
theorem gset (t : Nat) {v v' : Value} (he : v = v') (h : Gt R Pd (gst c t v') M r) (hv : gsl c t = some v := by kernel_rfl) : Gt R Pd c M r := by
  intro hf h0 f e a w Y hb hF hp hS hle
  unfold gsl at hv
  cases hh : has c.2 t <;> simp only [hh, cond_false, cond_true] at hv <;> cases hv
  exact h hf h0 f e a w Y hb (hF.set t hh rfl he) hp hS hle
theorem gt (t : Nat) {p : Prop} [Decidable p] (ht : p → Gt R Pd (gst c t (.bool true)) M r) (hf : ¬ p → Gt R Pd (gst c t (.bool false)) M r) (hv : gsl c t = some (.bool (decide p)) := by kernel_rfl) : Gt R Pd c M r := by
  by_cases h : p
  · exact gset t (by rw [decide_eq_true h]) (ht h) hv
  · exact gset t (by rw [decide_eq_false h]) (hf h) hv
theorem gb (t : Nat) {b : Bool} (ht : b = true → Gt R Pd (gst c t (.bool true)) M r) (hf : b = false → Gt R Pd (gst c t (.bool false)) M r) (hv : gsl c t = some (.bool b) := by kernel_rfl) : Gt R Pd c M r := by
  cases b
  · exact gset t rfl (hf rfl) hv
  · exact gset t rfl (ht rfl) hv
theorem gw64 (t : Nat) {x : Int} (h : Gt R Pd (gst c t (.int .i64 x)) M r) (h0 : -9223372036854775808 ≤ x := by omega) (h1 : x ≤ 9223372036854775807 := by omega) (hv : gsl c t = some (.int .i64 (IntKind.i64.wrap x)) := by kernel_rfl) : Gt R Pd c M r :=
  gset t (vint (wi64 h0 h1)) h hv
/-- An operation's end, told of the slots that it leaves. -/
theorem wp_tmps {P : Program} {o : Oper} {a : Act} {w : World} {K : Act → World → Prop} {Q : Exit → Act → World → Prop} (h : o.wp P a w K Q) : o.wp P a w (fun a' w' => K a' w' ∧ ∃ v, a'.tmps = (a.put o.dst v).tmps) Q := by
  unfold Oper.wp at *
  generalize (execOp a.eval o).run P w = r at *
  cases r with
  | ok n w' =>
    cases n <;> simp only [Oper.upon] at h ⊢
    case value v => exact ⟨h, v, rfl⟩
    case skip => exact ⟨h, undef, rfl⟩
    case defer d => exact ⟨h, undef, by cases o.dst <;> rfl⟩
    case enter f args => exact Calls.mono h (fun e w'' he => by cases e <;> first | exact ⟨he, _, rfl⟩ | exact he)
    case row row args => exact Rows.mono h (fun v _ he => ⟨he, v, rfl⟩)
  | halt x w' => cases x <;> simp only [Oper.upon] at h ⊢ <;> exact h
/-! ### What floats -/
def LeA (l l' : Array Bool) : Prop := ∀ k, l.getD k false = true → l'.getD k false = true
theorem ready_le {ops : Array Oper} {l l' : Array Bool} {j : Nat} (hj : j ∈ Region.ready .any ops l) (hl : LeA l l') (hun : l'.getD j true = false) : j ∈ Region.ready .any ops l' := by
  rw [mem_ready] at *
  obtain ⟨_, o, ho, hall⟩ := hj
  exact ⟨hun, o, ho, fun e he hb => hl _ (hall e he hb)⟩
theorem LeA.set {l l' : Array Bool} (h : LeA l l') (i : Nat) (hs : l.size = l'.size) : LeA (l.setIfInBounds i true) (l'.setIfInBounds i true) := fun k hk => by
  by_cases hik : i = k
  · subst hik
    rcases Nat.lt_or_ge i l.size with h' | h'
    · simp [show i < l'.size by omega]
    · simp [Array.getElem?_eq_none, h'] at hk
  · rw [getD_set_ne false hik] at hk ⊢
    exact h k hk
theorem LeA.setr {l l' : Array Bool} (h : LeA l l') (i : Nat) : LeA l (l'.setIfInBounds i true) := fun k hk => getD_set_true (h k hk)
theorem pT_le : ∀ (Pd : List Pn) (f : Nat → Bool) (l l' : Array Bool), l.size = l'.size → LeA l l' → LeA (pT Pd f l) (pAll Pd l')
  | [], _, _, _, _, h => h
  | p :: ps, f, l, l', hs, h => by
    simp only [pT, pAll, cond_true]
    cases f p.i
    · exact pT_le ps f l _ (by simpa using hs) (h.setr p.i)
    · exact pT_le ps f _ _ (by simpa using hs) (h.set p.i hs)
/-- Not one of those that float. -/
def notIn (Pd : List Pn) (j : Nat) : Prop := ∀ p ∈ Pd, p.i ≠ j
theorem pT_ne : ∀ (Pd : List Pn) (f : Nat → Bool) (l : Array Bool) (j : Nat), notIn Pd j → (pT Pd f l).getD j true = l.getD j true
  | [], _, _, _, _ => rfl
  | p :: ps, f, l, j, h => by
    refine (pT_ne ps f _ j fun q hq => h q (List.mem_cons_of_mem _ hq)).trans ?_
    cases f p.i
    · rfl
    · exact getD_set_ne true (h p (List.mem_cons_self ..))
theorem pT_ge : ∀ (Pd : List Pn) (f : Nat → Bool) (l l' : Array Bool), LeA l l' → LeA l (pT Pd f l')
  | [], _, _, _, h => h
  | p :: ps, f, l, l', h => by
    refine pT_ge ps f l _ ?_
    cases f p.i
    · exact h
    · exact h.setr p.i
/-- What is listed was listed before, or has come up. -/
theorem pT_done : ∀ (Pd : List Pn) (f : Nat → Bool) (l : Array Bool) (j : Nat), (pT Pd f l).getD j false = true → l.getD j false = true ∨ f j = true
  | [], _, _, _, h => .inl h
  | p :: ps, f, l, j, h => by
    rcases pT_done ps f _ j h with h | h
    · cases hp : f p.i
      · rw [hp] at h; exact .inl h
      · rw [hp] at h
        by_cases hj : p.i = j
        · exact .inr (hj ▸ hp)
        · exact .inl (by rwa [cond_true, getD_set_ne false hj] at h)
    · exact .inr h
theorem pT_in : ∀ (Pd : List Pn) (f : Nat → Bool) (l : Array Bool), ∀ p ∈ Pd, f p.i = true → p.i < l.size → (pT Pd f l).getD p.i false = true
  | q :: ps, f, l, p, hp, hf, hlt => by
    rcases List.mem_cons.1 hp with rfl | hp'
    · refine pT_ge ps f _ _ (fun _ h => h) _ ?_
      simp [hf, hlt]
    · exact pT_in ps f _ p hp' hf (by cases f q.i <;> simpa using hlt)
theorem pT_congr : ∀ (Pd : List Pn) (f g : Nat → Bool) (l : Array Bool), (∀ q ∈ Pd, f q.i = g q.i) → pT Pd f l = pT Pd g l
  | [], _, _, _, _ => rfl
  | p :: ps, f, g, l, h => by
    simp only [pT]
    rw [h p (List.mem_cons_self ..)]
    exact pT_congr ps f g _ fun q hq => h q (List.mem_cons_of_mem _ hq)
theorem pM_congr : ∀ (Pd : List Pn) (f g : Nat → Bool) (e e' : Nat → Nat), (∀ q ∈ Pd, f q.i = g q.i ∧ (f q.i = true → e q.i = e' q.i ∧ q.loc e = q.loc e')) → pM Pd f e = pM Pd g e'
  | [], _, _, _, _, _ => rfl
  | p :: ps, f, g, e, e', h => by
    simp only [pM]
    rw [pM_congr ps f g e e' fun q hq => h q (List.mem_cons_of_mem _ hq)]
    obtain ⟨h1, h2⟩ := h p (List.mem_cons_self ..)
    rw [← h1]
    cases hf : f p.i
    · rfl
    · obtain ⟨h3, h4⟩ := h2 hf
      rw [h3, h4]
/-- They are different operations and slots. -/
def pDis : List Pn → Bool
  | [] => true
  | p :: ps => pNe ps p.i (some p.d) && pDis ps
theorem pNe_spec {Pd : List Pn} {i d : Nat} (h : pNe Pd i (some d) = true) : ∀ q ∈ Pd, q.i ≠ i ∧ q.d ≠ d := fun q hq => by
  have := List.all_eq_true.1 h q hq
  simpa using this
theorem pDis_inj : ∀ {Pd : List Pn}, pDis Pd = true → ∀ p ∈ Pd, ∀ q ∈ Pd, p.i = q.i ∨ p.d = q.d → p = q
  | x :: ps, h, p, hp, q, hq, he => by
    simp only [pDis, Bool.and_eq_true] at h
    by_cases h1 : p = x
    · by_cases h2 : q = x
      · rw [h1, h2]
      · have := pNe_spec h.1 q ((List.mem_cons.1 hq).resolve_left h2)
        rw [h1] at he
        rcases he with he | he
        · exact absurd he.symm this.1
        · exact absurd he.symm this.2
    · have hp' := (List.mem_cons.1 hp).resolve_left h1
      by_cases h2 : q = x
      · have := pNe_spec h.1 p hp'
        rw [h2] at he
        rcases he with he | he
        · exact absurd he this.1
        · exact absurd he this.2
      · exact pDis_inj h.2 p hp' q ((List.mem_cons.1 hq).resolve_left h2) he
def cnt (Pd : List Pn) (f : Nat → Bool) : Nat := Pd.countP fun p => !f p.i
theorem cnt0 {Pd : List Pn} {f : Nat → Bool} (h : cnt Pd f = 0) : ∀ p ∈ Pd, f p.i = true := fun p hp => by
  have := List.countP_eq_zero.1 h p hp
  simpa using this
def nb (p : Pn) (e : Nat → Nat) : List (Nat × Obj) := match p.ob with
  | some o => [(e p.i, o (p.loc e))]
  | none => []
theorem loc_up {q : Pn} {f : Nat → Bool} {e : Nat → Nat} {j b : Nat} (h : ∀ k, f (q.deps.getD k q.i) = true) (hj : f j = false) : q.loc (up e j b) = q.loc e := funext fun k => up_ne e b fun he => by rw [← he, h k] at hj; cases hj
theorem pT_up {f : Nat → Bool} {p : Pn} : ∀ {Pd : List Pn} {l : Array Bool}, pDis Pd = true → p ∈ Pd → pT Pd (up f p.i true) l = (pT Pd f l).setIfInBounds p.i true
  | q :: ps, l, hd, hp => by
    simp only [pDis, Bool.and_eq_true] at hd
    simp only [pT]
    by_cases hq : p = q
    · subst hq
      rw [up_same, cond_true, pT_congr ps (up f p.i true) f _ fun x hx => up_ne f true (pNe_spec hd.1 x hx).1, ← pT_set]
      cases f p.i
      · rfl
      · simp
    · have hp' : p ∈ ps := (List.mem_cons.1 hp).resolve_left hq
      rw [up_ne f true (fun e => (pNe_spec hd.1 p hp').1 e.symm)]
      exact pT_up hd.2 hp'
theorem pM_up {f : Nat → Bool} {e : Nat → Nat} {p : Pn} {b : Nat} (hf : f p.i = false) : ∀ {Pd : List Pn}, pDis Pd = true → pCl Pd f → p ∈ Pd → (pM Pd (up f p.i true) (up e p.i b)).Perm (nb p (up e p.i b) ++ pM Pd f e)
  | q :: ps, hd, hcl, hp => by
    simp only [pDis, Bool.and_eq_true] at hd
    simp only [pM]
    by_cases hq : p = q
    · subst hq
      rw [up_same f, cond_true, hf, cond_false, List.nil_append, pM_congr ps (up f p.i true) f (up e p.i b) e fun x hx => ⟨up_ne f true (pNe_spec hd.1 x hx).1, fun h => ⟨up_ne e b (pNe_spec hd.1 x hx).1, loc_up (hcl x (List.mem_cons_of_mem _ hx) (by rwa [up_ne f true (pNe_spec hd.1 x hx).1] at h)).2 hf⟩⟩]
      exact List.Perm.refl _
    · have hp' : p ∈ ps := (List.mem_cons.1 hp).resolve_left hq
      have hne : q.i ≠ p.i := fun e => (pNe_spec hd.1 p hp').1 e.symm
      have ih := pM_up (e := e) (b := b) hf hd.2 (fun x hx => hcl x (List.mem_cons_of_mem _ hx)) hp'
      rw [up_ne f true hne]
      cases hfq : f q.i
      · simpa using ih
      · rw [up_ne e b hne, loc_up (hcl q (List.mem_cons_self ..) hfq).2 hf]
        refine (ih.append_left _).trans ?_
        rw [← List.append_assoc, ← List.append_assoc]
        exact List.perm_append_comm.append_right _
theorem pOk_up {a a' : Act} {f : Nat → Bool} {e : Nat → Nat} {p : Pn} {b : Nat} {Pd : List Pn} (hd : pDis Pd = true) (hcl : pCl Pd f) (hp : p ∈ Pd) (hf : f p.i = false) (hlt : p.d < a.tmps.size) (ha : a'.tmps = (a.put (some p.d) (p.val (up e p.i b))).tmps) (h : pOk a Pd f e) : pOk a' Pd (up f p.i true) (up e p.i b) := fun q hq hfq => by
  rw [ha]
  show (a.tmps.setIfInBounds p.d _)[q.d]? = _
  by_cases hpq : p = q
  · subst hpq; simp [hlt]
  · have hne : ¬ (p.i = q.i ∨ p.d = q.d) := fun e => hpq (pDis_inj hd p hp q hq e)
    have hfq' : f q.i = true := by rwa [up_ne f true (fun e => hne (.inl e.symm))] at hfq
    rw [Array.getElem?_setIfInBounds_ne (fun e => hne (.inr e)), h q hq hfq']
    unfold Pn.val
    rw [loc_up (hcl q hq hfq').2 hf]
theorem cnt_up {f : Nat → Bool} {p : Pn} : ∀ {Pd : List Pn}, pDis Pd = true → p ∈ Pd → f p.i = false → cnt Pd (up f p.i true) + 1 = cnt Pd f
  | q :: ps, hd, hp, hf => by
    simp only [pDis, Bool.and_eq_true] at hd
    unfold cnt
    simp only [List.countP_cons]
    by_cases hq : p = q
    · subst hq
      have : ps.countP (fun x => !up f p.i true x.i) = ps.countP (fun x => !f x.i) := List.countP_congr fun x hx => by rw [up_ne f true (pNe_spec hd.1 x hx).1]
      rw [this, up_same, hf]; simp
    · have hp' : p ∈ ps := (List.mem_cons.1 hp).resolve_left hq
      have ih := cnt_up hd.2 hp' hf
      unfold cnt at ih
      rw [up_ne f true (fun e => (pNe_spec hd.1 p hp').1 e.symm)]
      omega
theorem Fr.put_ne {n : Nat} {a : Act} {L : List (Nat × Value)} {D : List Deferred} (h : Fr n a L D) {d : Nat} (hd : has L d = false) (v : Value) : Fr n (a.put (some d) v) L D := by
  refine ⟨by simpa [Act.put] using h.size, h.defers, fun t ht => ?_⟩
  have hne : d ≠ t := fun e => by subst e; rw [hd] at ht; cases ht
  show (a.tmps.setIfInBounds d v)[t]? = _
  rw [Array.getElem?_setIfInBounds_ne hne]
  exact h.get t ht
def pS (Pd : List Pn) (e : Nat → Nat) : List (Nat × Value) := match Pd with
  | [] => []
  | p :: ps => (p.d, p.val e) :: pS ps e
/-- The operation waits for j. -/
def wto (o : Oper) (j : Nat) : Bool := o.after.any fun e => Region.binds .any e && e.on == j
def nchk (R : Rg) (c : Array Bool × List (Nat × Value)) (Pd : List Pn) (p : Pn) : Bool :=
  (wantL R.ops c.2 (opAt R.ops p.i) true && (dstIs (opAt R.ops p.i) p.d R.n && (!has c.2 p.d && !c.1.getD p.i true))) &&
  (p.deps.all (fun j => j == p.i || ((wto (opAt R.ops p.i) j && !c.1.getD j true) || Pd.any fun q => wto (opAt R.ops p.i) q.i && q.deps.contains j)) &&
  (opAt R.ops p.i).op.operands.toList.all fun x => match x with
    | .tmp t => Pd.all fun q => !(q.d == t) || wto (opAt R.ops p.i) q.i
    | _ => true)
/-- Each waits but for what is listed and for those ahead of it. -/
def topo (R : Rg) (l : Array Bool) : List Nat → List Pn → Bool
  | _, [] => true
  | es, p :: ps => (opAt R.ops p.i).after.all (fun e => !Region.binds .any e || (l.getD e.on false || es.contains e.on)) && topo R l (p.i :: es) ps
/-- Each of those that float does nothing but yield its value, or allocate. -/
inductive PdOk (R : Rg) (c : Array Bool × List (Nat × Value)) (Pd : List Pn) : List Pn → Prop
  | nil : PdOk R c Pd []
  | cons {p : Pn} {ps : List Pn} (hb : nchk R c Pd p = true) (hi : R.ops[p.i]? = some (opAt R.ops p.i)) (ho : ∀ e, okOp (pS Pd e ++ c.2) (opAt R.ops p.i) = true)
      (hr : ∀ e w, (execOp (evL (pS Pd e ++ c.2)) (opAt R.ops p.i)).run R.P w = .ok (.value (p.val (up e p.i w.heap.size))) (match p.ob with
        | none => w
        | some o => w.alloc (o (p.loc (up e p.i w.heap.size))))) (k : PdOk R c Pd ps) : PdOk R c Pd (p :: ps)
theorem PdOk.k {Pd ps : List Pn} {p : Pn} (k : PdOk R c Pd ps) (hb : nchk R c Pd p = true := by kernel_rfl) (hi : R.ops[p.i]? = some (opAt R.ops p.i) := by kernel_rfl) (ho : ∀ e, okOp (pS Pd e ++ c.2) (opAt R.ops p.i) = true := by intro e; kernel_rfl)
    (hr : ∀ e w, (execOp (evL (pS Pd e ++ c.2)) (opAt R.ops p.i)).run R.P w = .ok (.value (p.val (up e p.i w.heap.size))) (match p.ob with
        | none => w
        | some o => w.alloc (o (p.loc (up e p.i w.heap.size)))) := by intro e w; kernel_rfl) : PdOk R c Pd (p :: ps) := .cons hb hi ho hr k
theorem PdOk.get {Pd : List Pn} : ∀ {ps : List Pn}, PdOk R c Pd ps → ∀ p ∈ ps, nchk R c Pd p = true ∧ R.ops[p.i]? = some (opAt R.ops p.i) ∧ (∀ e, okOp (pS Pd e ++ c.2) (opAt R.ops p.i) = true) ∧
    ∀ e w, (execOp (evL (pS Pd e ++ c.2)) (opAt R.ops p.i)).run R.P w = .ok (.value (p.val (up e p.i w.heap.size))) (match p.ob with
        | none => w
        | some o => w.alloc (o (p.loc (up e p.i w.heap.size))))
  | _, .cons hb hi ho hr k, p, hp => by
    rcases List.mem_cons.1 hp with rfl | hp
    · exact ⟨hb, hi, ho, hr⟩
    · exact k.get p hp
theorem look_pS {n : Nat} {a : Act} {L : List (Nat × Value)} {D : List Deferred} (hF : Fr n a L D) {e : Nat → Nat} {t : Nat} : ∀ {ps : List Pn}, (∀ q ∈ ps, q.d = t → a.tmps[t]? = some (q.val e)) → has (pS ps e ++ L) t = true → a.tmps[t]? = some (look (pS ps e ++ L) t)
  | [], _, hh => hF.get t hh
  | p :: ps, h, hh => by
    simp only [pS, List.cons_append, has, look] at hh ⊢
    cases hb : Nat.beq p.d t with
    | true => exact h p (List.mem_cons_self ..) (Nat.eq_of_beq_eq_true hb)
    | false =>
      rw [hb] at hh
      exact look_pS hF (fun q hq => h q (List.mem_cons_of_mem _ hq)) hh
theorem wto_spec {ops : Array Oper} {l : Array Bool} {i j : Nat} {o : Oper} (ho : ops[i]? = some o) (hr : i ∈ Region.ready .any ops l) (h : wto o j = true) : l.getD j false = true := by
  obtain ⟨_, o', ho', hall⟩ := mem_ready.1 hr
  obtain rfl : o' = o := Option.some.inj (ho'.symm.trans ho)
  obtain ⟨e, he, hb⟩ := Array.any_eq_true'.1 h
  simp only [Bool.and_eq_true, beq_iff_eq] at hb
  exact hb.2 ▸ hall e he hb.1
theorem getD_ff {l : Array Bool} {j : Nat} (h : l.getD j true = false) : l.getD j false = false ∧ j < l.size := by
  rcases Nat.lt_or_ge j l.size with h' | h'
  · exact ⟨by simpa [h'] using h, h'⟩
  · simp [Array.getElem?_eq_none h'] at h
/-- One of those that float comes up. -/
theorem nrun {f : Nat → Bool} {e : Nat → Nat} {a : Act} {w : World} {Pd : List Pn} {p : Pn} {K : Act → World → Prop} (hPd : PdOk R c Pd Pd) (hp : p ∈ Pd) (hcl : pCl Pd f) (hF : Fr R.n a c.2 R.D) (hok : pOk a Pd f e) (hr : p.i ∈ Region.ready .any R.ops (pT Pd f c.1))
    (hK : (∀ k, up f p.i true (p.deps.getD k p.i) = true) → p.d < a.tmps.size → has c.2 p.d = false → K (a.put (some p.d) (p.val (up e p.i w.heap.size))) (match p.ob with
        | none => w
        | some o => w.alloc (o (p.loc (up e p.i w.heap.size))))) : wpOp R.P R.ops (NormOnly R.Q) p.i K a w := by
  obtain ⟨q1, q2, q3, q4⟩ := hPd.get p hp
  simp only [nchk, Bool.and_eq_true] at q1
  obtain ⟨⟨hw, hd, hno, hun⟩, hdep, hopd⟩ := q1
  obtain ⟨hd1, hlt⟩ := dstIs_spec hd
  have hdone : ∀ j, wto (opAt R.ops p.i) j = true → c.1.getD j true = false → f j = true := fun j h1 h2 => by
    rcases pT_done Pd f c.1 j (wto_spec q2 hr h1) with h | h
    · rw [(getD_ff h2).1] at h; cases h
    · exact h
  have hcl2 : ∀ k, up f p.i true (p.deps.getD k p.i) = true := fun k => by
    rcases Nat.lt_or_ge k p.deps.length with hk | hk
    · have hm : p.deps.getD k p.i ∈ p.deps := by rw [List.getD_eq_getElem?_getD, List.getElem?_eq_getElem hk]; exact List.getElem_mem hk
      have := List.all_eq_true.1 hdep _ hm
      simp only [Bool.or_eq_true, beq_iff_eq, Bool.and_eq_true, Bool.not_eq_true'] at this
      by_cases he : p.deps.getD k p.i = p.i
      · rw [he, up_same]
      · rw [up_ne f true he]
        rcases this with h | ⟨h1, h2⟩ | h
        · exact absurd h he
        · exact hdone _ h1 h2
        · rw [List.any_eq_true] at h
          obtain ⟨q, hq, hqq⟩ := h
          simp only [Bool.and_eq_true, List.contains_iff_mem] at hqq
          have hqc := (hPd.get q hq).1
          simp only [nchk, Bool.and_eq_true, Bool.not_eq_true'] at hqc
          have hfq := hdone q.i hqq.1 hqc.1.2.2.2
          obtain ⟨k', hk', he'⟩ := List.getElem_of_mem hqq.2
          have := (hcl q hq hfq).2 k'
          rwa [List.getD_eq_getElem?_getD, List.getElem?_eq_getElem hk', Option.getD_some, he'] at this
    · rw [List.getD_eq_getElem?_getD, List.getElem?_eq_none hk]; exact up_same ..
  unfold wpOp
  simp only [q2]
  rw [if_pos (hF.wanted hw)]
  refine .inl ?_
  have hok1 := q3 e
  simp only [okOp, Bool.and_eq_true] at hok1
  have hex : execOp a.eval (opAt R.ops p.i) = execOp (evL (pS Pd e ++ c.2)) (opAt R.ops p.i) := execOp_congr _ (noSel_spec hok1.1) fun x hx => by
    have hx' : x ∈ (opAt R.ops p.i).op.operands.toList := by simpa using hx
    have hcv := covAll_spec hok1.2 x hx'
    cases x with
    | tmp t =>
      have h1 := List.all_eq_true.1 hopd _ hx'
      have h2 : a.tmps[t]? = some (look (pS Pd e ++ c.2) t) := look_pS hF (fun q hq he => by
        have h3 := List.all_eq_true.1 h1 q hq
        simp only [Bool.or_eq_true, Bool.not_eq_true', beq_eq_false_iff_ne] at h3
        have h4 := h3.resolve_left (fun h => h he)
        have hqc := (hPd.get q hq).1
        simp only [nchk, Bool.and_eq_true, Bool.not_eq_true'] at hqc
        rw [← he]
        exact hok q hq (hdone q.i h4 hqc.1.2.2.2)) hcv
      show a.tmps.getD t undef = _
      simp [h2, evL]
    | _ => rfl
  unfold Oper.wp
  rw [hex, q4 e w]
  show K (a.put (opAt R.ops p.i).dst _) _
  rw [hd1]
  exact hK hcl2 (by rw [hF.size]; exact hlt) (by simpa using hno)
/-- Whatever comes up first: one of those that float, or what is given, until it stops. -/
theorem g_float (stop : (Nat → Bool) → Bool) (hstop : ∀ f, (∀ p ∈ Pd, f p.i = true) → stop f = true) (hPd : PdOk R c Pd Pd) (hdis : (pDis Pd && topo R c.1 [] Pd.reverse) = true)
    (hne : ∀ f e a w Y, pCl Pd f → Fr R.n a c.2 R.D → pOk a Pd f e → St R.E R.w0 R.X w Y (M ++ pM Pd f e) → Le r (rd w Y) →
      (stop f = false → ∀ j ∈ Region.ready .any R.ops (pT Pd f c.1), notIn Pd j → wpOp R.P R.ops (NormOnly R.Q) j (fun a' w' => (begun R.T ((pT Pd f c.1).setIfInBounds j true) = false → R.S w') ∧ wpU R ((pT Pd f c.1).setIfInBounds j true) a' w') a w) ∧
      (stop f = true → wpU R (pT Pd f c.1) a w))
    (hf : pFree R.T Pd = true) (h0 : begun R.T c.1 = true ∨ ((∀ p ∈ R.M0, p ∈ M) ∧ Le R.r0 r)) :
    ∀ (m : Nat) (f : Nat → Bool) (e : Nat → Nat) (a : Act) (w : World) (Y : Hid), cnt Pd f = m → pCl Pd f → Fr R.n a c.2 R.D → pOk a Pd f e → St R.E R.w0 R.X w Y (M ++ pM Pd f e) → Le r (rd w Y) → wpU R (pT Pd f c.1) a w := by
  simp only [Bool.and_eq_true] at hdis
  intro m
  induction m using Nat.strongRecOn with
  | _ m ih =>
    intro f e a w Y hm hcl hF hp hS hle
    obtain ⟨h1, h2⟩ := hne f e a w Y hcl hF hp hS hle
    cases hc0 : stop f
    case true => exact h2 hc0
    have hr : Region.ready .any R.ops (pT Pd f c.1) ≠ [] := by
      -- the first that has not come up is ready
      have key : ∀ (ps : List Pn) (es : List Nat), topo R c.1 es ps = true → (∀ x ∈ es, ∃ q ∈ Pd, q.i = x ∧ f x = true) → (∀ p ∈ ps, p ∈ Pd) → (∃ p ∈ ps, f p.i = false) → ∃ p ∈ Pd, p.i ∈ Region.ready .any R.ops (pT Pd f c.1) := by
        intro ps
        induction ps with
        | nil => rintro es _ _ _ ⟨p, hp, _⟩; cases hp
        | cons q ps ihp =>
          rintro es ht hes hsub ⟨p, hp, hfp⟩
          simp only [topo, Bool.and_eq_true] at ht
          have hq : q ∈ Pd := hsub q (List.mem_cons_self ..)
          cases hfq : f q.i with
          | true =>
            refine ihp (q.i :: es) ht.2 (fun x hx => ?_) (fun p hp => hsub p (List.mem_cons_of_mem _ hp)) ⟨p, ?_, hfp⟩
            · rcases List.mem_cons.1 hx with rfl | hx
              · exact ⟨q, hq, rfl, hfq⟩
              · exact hes x hx
            · refine (List.mem_cons.1 hp).resolve_left fun e => ?_
              rw [e, hfq] at hfp; cases hfp
          | false =>
            refine ⟨q, hq, mem_ready.2 ⟨?_, _, (hPd.get q hq).2.1, fun x hx hb => ?_⟩⟩
            · have hqc := (hPd.get q hq).1
              simp only [nchk, Bool.and_eq_true, Bool.not_eq_true'] at hqc
              have hun := getD_ff hqc.1.2.2.2
              cases hg : (pT Pd f c.1).getD q.i false with
              | true =>
                rcases pT_done Pd f c.1 q.i hg with h | h
                · rw [hun.1] at h; cases h
                · rw [hfq] at h; cases h
              | false =>
                have hsz : ∀ (ps : List Pn) (l : Array Bool), (pT ps f l).size = l.size := by
                  intro ps
                  induction ps with
                  | nil => intro l; rfl
                  | cons y ps ihs => intro l; simp only [pT]; rw [ihs]; cases f y.i <;> simp
                have hlt : q.i < (pT Pd f c.1).size := by rw [hsz]; exact hun.2
                simpa [hlt] using hg
            · have := Array.all_eq_true_iff_forall_mem.1 ht.1 x hx
              simp only [hb, Bool.not_true, Bool.false_or, Bool.or_eq_true, List.contains_iff_mem] at this
              rcases this with h | h
              · exact pT_ge Pd f c.1 c.1 (fun _ h => h) _ h
              · obtain ⟨y, hy, hyx, hfy⟩ := hes _ h
                have hyc := (hPd.get y hy).1
                simp only [nchk, Bool.and_eq_true, Bool.not_eq_true'] at hyc
                rw [← hyx] at hfy ⊢
                exact pT_in Pd f c.1 y hy hfy (getD_ff hyc.1.2.2.2).2
      by_cases hex : ∃ p ∈ Pd, f p.i = false
      · obtain ⟨p, _, hpr⟩ := key Pd.reverse [] hdis.2 (fun x hx => by cases hx) (fun p hp => List.mem_reverse.1 hp) (hex.imp fun p h => ⟨List.mem_reverse.2 h.1, h.2⟩)
        intro h; rw [h] at hpr; cases hpr
      · rw [hstop f fun p hp => by
          cases hfp : f p.i
          · exact absurd ⟨p, hp, hfp⟩ hex
          · rfl] at hc0
        cases hc0
    refine u_all hr fun j hj => ?_
    by_cases hin : notIn Pd j
    · exact h1 hc0 j hj hin
    · obtain ⟨p, hp', hpj⟩ : ∃ p ∈ Pd, p.i = j := by
        apply Classical.byContradiction
        intro hno
        exact hin fun p hp e => hno ⟨p, hp, e⟩
      subst hpj
      have hfp : f p.i = false := by
        cases hfp : f p.i
        · rfl
        · have hpc := (hPd.get p hp').1
          simp only [nchk, Bool.and_eq_true, Bool.not_eq_true'] at hpc
          have := pT_in Pd f c.1 p hp' hfp (getD_ff hpc.1.2.2.2).2
          have h9 := (getD_ff (mem_ready.1 hj).1).1
          rw [this] at h9; cases h9
      refine nrun hPd hp' hcl hF hp hj fun hk hlt hno => ?_
      have hcl2 : pCl Pd (up f p.i true) := fun q hq hfq => ⟨hfq, by
        by_cases hqp : q.i = p.i
        · obtain rfl := pDis_inj hdis.1 q hq p hp' (.inl hqp)
          exact hk
        · have hfq' : f q.i = true := by rwa [up_ne f true hqp] at hfq
          intro k
          have := (hcl q hq hfq').2 k
          by_cases he : q.deps.getD k q.i = p.i
          · rw [he, up_same]
          · rw [up_ne f true he]; exact this⟩
      have hp2 := pOk_up (e := e) (b := w.heap.size) hdis.1 hcl hp' hfp hlt (a' := a.put (some p.d) (p.val (up e p.i w.heap.size))) rfl hp
      have G2 := hF.put_ne hno (p.val (up e p.i w.heap.size))
      have hcnt := cnt_up hdis.1 hp' hfp
      have hperm := pM_up (e := e) (b := w.heap.size) hfp hdis.1 hcl hp'
      rw [← pT_up hdis.1 hp']
      have hgo : ∀ w' Y', St R.E R.w0 R.X w' Y' (M ++ pM Pd (up f p.i true) (up e p.i w.heap.size)) → Le r (rd w' Y') → (begun R.T (pT Pd (up f p.i true) c.1) = false → R.S w') ∧ wpU R (pT Pd (up f p.i true) c.1) (a.put (some p.d) (p.val (up e p.i w.heap.size))) w' := fun w' Y' hS' hle' => ⟨hold hf h0 hS' hle', ih _ (by omega) _ _ _ _ _ rfl hcl2 G2 hp2 hS' hle'⟩
      cases hob : p.ob with
      | none =>
        simp only
        refine hgo w Y (hS.perm ?_) hle
        simp only [nb, hob, List.nil_append] at hperm
        exact hperm.append_left M
      | some o =>
        simp only
        refine hgo _ _ ((hS.alloc (o (p.loc (up e p.i w.heap.size)))).perm ?_) (hle.trans (Le.hide_new _))
        simp only [nb, hob, up_same] at hperm
        exact (hperm.append_left M).trans List.perm_middle
/-- The operation that is not one of those that float, by a law of its own. -/
theorem g_op (i : Nat) (h : ∀ a w Y B, Fr R.n a c.2 R.D → St R.E R.w0 R.X w Y (M ++ B) → Le r (rd w Y) → (opAt R.ops i).wp R.P a w (fun a' w' => ∃ L' M' r' Y', Fr R.n a' L' R.D ∧ St R.E R.w0 R.X w' Y' (M' ++ B) ∧ Le r' (rd w' Y') ∧
      (begun R.T (c.1.setIfInBounds i true) = true ∨ (((∀ p ∈ R.M0, p ∈ M) → ∀ p ∈ R.M0, p ∈ M') ∧ Le r r')) ∧ Gt R Pd (c.1.setIfInBounds i true, L') M' r') (NormOnly R.Q))
    (hPd : PdOk R c Pd Pd) (hdis : (pDis Pd && topo R c.1 [] Pd.reverse) = true := by kernel_rfl) (hi : R.ops[i]? = some (opAt R.ops i) := by kernel_rfl) (hr : Region.ready .any R.ops (pAll Pd c.1) = [i] := by kernel_rfl) (hw : (wantL R.ops c.2 (opAt R.ops i) true && pNe Pd i (opAt R.ops i).dst) = true := by kernel_rfl) : Gt R Pd c M r := by
  intro hf h0 f e a w Y hb hF hp hS hle
  simp only [Bool.and_eq_true] at hw
  have hin : notIn Pd i := fun p hp => by
    have := List.all_eq_true.1 hw.2 p hp
    simp only [Bool.and_eq_true, Bool.not_eq_true', beq_eq_false_iff_ne] at this
    exact this.1
  have main : ∀ f e a w Y, pCl Pd f → Fr R.n a c.2 R.D → pOk a Pd f e → St R.E R.w0 R.X w Y (M ++ pM Pd f e) → Le r (rd w Y) → ∀ j ∈ Region.ready .any R.ops (pT Pd f c.1), notIn Pd j →
      wpOp R.P R.ops (NormOnly R.Q) j (fun a' w' => (begun R.T ((pT Pd f c.1).setIfInBounds j true) = false → R.S w') ∧ wpU R ((pT Pd f c.1).setIfInBounds j true) a' w') a w := by
    intro f e a w Y hb hF hp hS hle j hj hin
    have hji : j = i := by
      have : j ∈ Region.ready .any R.ops (pAll Pd c.1) := ready_le hj (pT_le Pd f c.1 c.1 rfl (fun _ h => h)) (by rw [pAll, pT_ne Pd _ c.1 j hin, ← pT_ne Pd f c.1 j hin]; exact (mem_ready.1 hj).1)
      rw [hr] at this
      simpa using this
    subst hji
    unfold wpOp
    simp only [hi]
    rw [if_pos (hF.wanted hw.1)]
    refine .inl (Oper.wp_mono ?_ (wp_tmps (h a w Y (pM Pd f e) hF hS hle)))
    rintro a' w' ⟨⟨L', M', r', Y', hF', hS', hle', hst, hG⟩, v, hv⟩
    have hp' := pOk_put (i := j) hv hw.2 hp
    have h0' : begun R.T (c.1.setIfInBounds j true) = true ∨ ((∀ p ∈ R.M0, p ∈ M') ∧ Le R.r0 r') := by
      rcases hst with hst | ⟨h1, h2⟩
      · exact .inl hst
      · rcases h0 with h0 | ⟨h3, h4⟩
        · exact .inl (begun_mono h0)
        · exact .inr ⟨h1 h3, h4.trans h2⟩
    rw [← pT_set]
    exact ⟨hold (c := (c.1.setIfInBounds j true, L')) hf h0' hS' hle', hG hf h0' f e a' w' Y' hb hF' hp' hS' hle'⟩
  refine g_float (fun f => Pd.all fun p => f p.i) (fun f h => List.all_eq_true.2 h) hPd hdis (fun f e a w Y hb hF hp hS hle => ⟨fun _ => main f e a w Y hb hF hp hS hle, fun hc => ?_⟩) hf h0 (cnt Pd f) f e a w Y rfl hb hF hp hS hle
  have heq : pT Pd f c.1 = pAll Pd c.1 := pT_congr Pd f _ c.1 fun q hq => List.all_eq_true.1 hc q hq
  refine u_all (by rw [heq, hr]; simp) fun j hj => ?_
  have hji : j = i := by rw [heq, hr] at hj; simpa using hj
  exact main f e a w Y hb hF hp hS hle j hj (hji ▸ hin)
/-- What is hidden lies in the world. -/
structure SzLe (w0 w : World) : Prop where
  size : w0.heap.size ≤ w.heap.size
structure YLt (w0 : World) (Y : Hid) (w : World) : Prop where
  upd : SzLe w0 w
  lt : ∀ k o, Y k o → k < w.heap.size
/-- A call by its contract. -/
def gF (R : Rg) (i : Nat) : Oper := opAt R.ops i
def gV (R : Rg) (c : Array Bool × List (Nat × Value)) (i : Nat) : Option (FuncId × Array Value) := match evL c.2 (clF (opAt R.ops i)) with
  | .func (.func f) t cap => bif t.isEmpty then some (f, (clA (opAt R.ops i)).map (evL c.2) ++ cap) else none
  | _ => none
theorem gV_spec {i : Nat} {f : FuncId} {vs : Array Value} (h : gV R c i = some (f, vs)) : ∃ cap, evL c.2 (clF (opAt R.ops i)) = .func (.func f) #[] cap ∧ (clA (opAt R.ops i)).map (evL c.2) ++ cap = vs := by
  unfold gV at h
  split at h
  · rename_i f' t cap he
    cases ht : t.isEmpty <;> simp only [ht, cond_true, cond_false] at h <;> cases h
    obtain rfl : t = #[] := by simpa using ht
    exact ⟨cap, he, rfl⟩
  · cases h
theorem gC (i : Nat) {f : FuncId} {vs : Array Value} {Φ : World → Hid → World → Value → Prop} (hcon : ∀ w Y B, St R.E R.w0 R.X w Y (M ++ B) → Le r (rd w Y) → Calls R.P f vs w (Ret E0 w (Φ w Y)))
    (k : ∀ v w Y w1, YLt R.w0 Y w → Le r (rd w1 Y) → Φ w Y w1 v → Gt R Pd (gv R i v c) M (rd w1 Y))
    (hPd : PdOk R c Pd Pd := by exact PdOk.nil) (hv : gV R c i = some (f, vs) := by kernel_rfl) (hk : (opk c.2 (opAt R.ops i) (gd R i) R.n && !R.T.contains i) = true := by kernel_rfl) (ho : (opAt R.ops i).op = .call { callee := .value (clF (opAt R.ops i)), args := clA (opAt R.ops i), argTypes := clT (opAt R.ops i) } := by kernel_rfl)
    (hcall : ∀ w, (callFunc f vs).run R.P w = .ok (.enter f vs) w := by intro w; kernel_rfl) (hdis : (pDis Pd && topo R c.1 [] Pd.reverse) = true := by kernel_rfl) (hi : R.ops[i]? = some (opAt R.ops i) := by kernel_rfl) (hr : Region.ready .any R.ops (pAll Pd c.1) = [i] := by kernel_rfl)
    (hw : (wantL R.ops c.2 (opAt R.ops i) true && pNe Pd i (opAt R.ops i).dst) = true := by kernel_rfl) : Gt R Pd c M r := by
  obtain ⟨cap, hf, ha⟩ := gV_spec hv
  simp only [Bool.and_eq_true] at hk
  have hd : (opAt R.ops i).dst = some (gd R i) := by
    have := hk.1
    simp only [opk, Bool.and_eq_true] at this
    exact (dstIs_spec this.2).1
  refine g_op i (fun a w Y B hF hS hle => ?_) hPd hdis hi hr hw
  refine op_call hF hk.1 hS ho hf ha hcall (hcon w Y B hS hle) fun v w1 h1 h2 _ h4 a1 G1 => ?_
  have := k v w Y w1 ⟨⟨hS.upd.size⟩, hS.lt⟩ (hle.trans h2) h4
  refine ⟨_, M, rd w1 Y, Y, G1, h1, Le.refl _, .inr ⟨fun h => h, hle.trans h2⟩, ?_⟩
  simpa only [gv, hd] using this
/-- From here on another may come up. -/
theorem gp (p : Pn) (h : Gt R (p :: Pd) c M r) (hp : (!R.T.contains p.i && (!c.1.getD p.i true && Pd.all fun q => !(q.i == p.i) && !q.deps.contains p.i)) = true := by kernel_rfl) : Gt R Pd c M r := by
  intro hf h0 f e a w Y hb hF hp' hS hle
  simp only [Bool.and_eq_true, Bool.not_eq_true'] at hp
  have hne : ∀ q ∈ Pd, q.i ≠ p.i := fun q hq => by
    have := List.all_eq_true.1 hp.2.2 q hq
    simp only [Bool.and_eq_true, Bool.not_eq_true', beq_eq_false_iff_ne] at this
    exact this.1
  have hnd : ∀ q ∈ Pd, ∀ k, q.deps.getD k q.i ≠ p.i := fun q hq k => by
    have := List.all_eq_true.1 hp.2.2 q hq
    simp only [Bool.and_eq_true, Bool.not_eq_true', beq_eq_false_iff_ne] at this
    rcases Nat.lt_or_ge k q.deps.length with hk | hk
    · rw [List.getD_eq_getElem?_getD, List.getElem?_eq_getElem hk]
      intro he
      have hm : p.i ∈ q.deps := by rw [← he]; exact List.getElem_mem hk
      have h2 := this.2
      rw [← Bool.not_eq_true, List.contains_iff_mem] at h2
      exact h2 hm
    · rw [List.getD_eq_getElem?_getD, List.getElem?_eq_none hk]; exact this.1
  have e1 : ∀ q ∈ Pd, f q.i = up f p.i false q.i := fun q hq => (up_ne f false (hne q hq)).symm
  have := h (by simp only [pFree, List.all_cons, hp.1, Bool.not_false, Bool.true_and]; exact hf) h0 (up f p.i false) e a w Y (fun q hq hfq => by
    rcases List.mem_cons.1 hq with rfl | hq
    · rw [up_same] at hfq; cases hfq
    · refine ⟨hfq, fun k => ?_⟩
      rw [up_ne f false (hnd q hq k)]
      exact (hb q hq (by rwa [e1 q hq])).2 k) hF (fun q hq hfq => by
    rcases List.mem_cons.1 hq with rfl | hq
    · rw [up_same] at hfq; cases hfq
    · exact hp' q hq (by rwa [e1 q hq])) (by
    simp only [pM, up_same, cond_false, List.nil_append]
    rw [pM_congr Pd (up f p.i false) f e e fun q hq => ⟨(e1 q hq).symm, fun _ => ⟨rfl, rfl⟩⟩]; exact hS) hle
  simp only [pT, up_same, cond_false] at this
  rwa [pT_congr Pd (up f p.i false) f c.1 fun q hq => (e1 q hq).symm] at this
theorem Fr.cons {n : Nat} {a : Act} {L : List (Nat × Value)} {D : List Deferred} (h : Fr n a L D) {d : Nat} {v : Value} (hd : a.tmps[d]? = some v) : Fr n a ((d, v) :: L) D := by
  refine ⟨h.size, h.defers, fun t ht => ?_⟩
  simp only [has, look] at *
  cases hb : Nat.beq d t with
  | true => obtain rfl := Nat.eq_of_beq_eq_true hb; simpa using hd
  | false => rw [hb] at ht; simpa using h.get t (by simpa using ht)
def pB : List Pn → (Nat → Nat) → List (Nat × Obj)
  | [], _ => []
  | p :: ps, e => match p.ob with
    | some o => (e p.i, o (p.loc e)) :: pB ps e
    | none => pB ps e
theorem pM_all : ∀ (Pd : List Pn) (f : Nat → Bool) (e : Nat → Nat), (∀ p ∈ Pd, f p.i = true) → pM Pd f e = pB Pd e
  | [], _, _, _ => rfl
  | p :: ps, f, e, h => by
    simp only [pM, pB, h p (List.mem_cons_self ..), cond_true, pM_all ps f e fun q hq => h q (List.mem_cons_of_mem _ hq)]
    cases p.ob <;> rfl
/-- Nothing but what floats can come up, until all of it has. -/
def gfl (R : Rg) (Pd : List Pn) (l : Array Bool) : Bool := Pd.all fun p => (Region.ready .any R.ops (pAll (Pd.filter fun q => !(q.i == p.i)) l)).all fun j => Pd.any fun q => q.i == j
theorem pT_lef {x : Nat} : ∀ (Pd : List Pn) (f : Nat → Bool) (l l' : Array Bool), l.size = l'.size → f x = false → LeA l l' → LeA (pT Pd f l) (pAll (Pd.filter fun q => !(q.i == x)) l')
  | [], _, _, _, _, _, h => h
  | p :: ps, f, l, l', hs, hx, h => by
    simp only [pT]
    by_cases hp : p.i = x
    · simp only [List.filter_cons, hp, beq_self_eq_true, Bool.not_true, Bool.false_eq_true, if_false, hx, cond_false]
      exact pT_lef ps f l l' hs hx h
    · simp only [List.filter_cons, show (p.i == x) = false by simpa using hp, Bool.not_false, if_true, pAll, pT, cond_true]
      cases f p.i
      · exact pT_lef ps f _ _ (by simpa using hs) hx (h.setr p.i)
      · exact pT_lef ps f _ _ (by simpa using hs) hx (h.set p.i hs)
/-- All that floats has come up. -/
theorem ge (k : ∀ e : Nat → Nat, Gt R [] (pAll Pd c.1, pS Pd e ++ c.2) (pB Pd e ++ M) r) (hPd : PdOk R c Pd Pd) (hc : (pDis Pd && topo R c.1 [] Pd.reverse) = true := by kernel_rfl) (hfl : gfl R Pd c.1 = true := by kernel_rfl) : Gt R Pd c M r := by
  intro hf h0 f e a w Y hb hF hp hS hle
  refine g_float (fun f => Pd.all fun p => f p.i) (fun f h => List.all_eq_true.2 h) hPd hc (fun f e a w Y hb hF hp hS hle => ⟨fun h1 j hj hin => ?_, fun h1 => ?_⟩) hf h0 (cnt Pd f) f e a w Y rfl hb hF hp hS hle
  · exfalso
    obtain ⟨p, hp', hfp⟩ : ∃ p ∈ Pd, f p.i = false := by
      apply Classical.byContradiction
      intro hno
      rw [List.all_eq_true.2 fun p hp => by
        cases hfp : f p.i
        · exact absurd ⟨p, hp, hfp⟩ hno
        · rfl] at h1
      cases h1
    have hun : (pAll (Pd.filter fun q => !(q.i == p.i)) c.1).getD j true = false := by
      rw [pAll, pT_ne _ _ c.1 j (fun q hq => hin q (List.mem_filter.1 hq).1), ← pT_ne Pd f c.1 j hin]; exact (mem_ready.1 hj).1
    have hjr := ready_le hj (pT_lef (x := p.i) Pd f c.1 c.1 rfl hfp (fun _ h => h)) hun
    have := List.all_eq_true.1 hfl p hp'
    have := List.all_eq_true.1 this j hjr
    rw [List.any_eq_true] at this
    obtain ⟨q, hq, he⟩ := this
    exact hin q hq (by simpa using he)
  · have hall : ∀ p ∈ Pd, f p.i = true := fun p hp => List.all_eq_true.1 h1 p hp
    have heq : pT Pd f c.1 = pAll Pd c.1 := pT_congr Pd f _ c.1 fun q hq => hall q hq
    rw [heq]
    rw [pM_all Pd f e hall] at hS
    have G2 : ∀ ps : List Pn, (∀ p ∈ ps, p ∈ Pd) → Fr R.n a (pS ps e ++ c.2) R.D := by
      intro ps
      induction ps with
      | nil => intro _; exact hF
      | cons p ps ihp => intro h; exact (ihp fun q hq => h q (List.mem_cons_of_mem _ hq)).cons (hp p (h p (List.mem_cons_self ..)) (hall p (h p (List.mem_cons_self ..))))
    have := k e (by rfl) (by
      show begun R.T (pAll Pd c.1) = true ∨ _
      rw [pAll, begun_pT Pd _ _ hf]
      exact h0.imp id fun h => ⟨fun p hp => List.mem_append_right _ (h.1 p hp), h.2⟩) f e a w Y (fun p hp => by cases hp) (G2 Pd fun _ h => h) (fun p hp => by cases hp) (by
      simp only [pM, List.append_nil]; exact hS.perm List.perm_append_comm) hle
    exact this
/-- The first of those that float has come up; till then only they can. -/
theorem gs1 {p : Pn} (k : ∀ b, Gt R Pd (c.1.setIfInBounds p.i true, (p.d, p.vf fun _ => b) :: c.2) (nb p (fun _ => b) ++ M) r) (hPd : PdOk R c (p :: Pd) (p :: Pd)) (hc : (pDis (p :: Pd) && topo R c.1 [] (p :: Pd).reverse) = true := by kernel_rfl)
    (hdp : (p.deps.all (fun j => j == p.i) && (Pd.all (fun q => !q.deps.contains p.i) && (Region.ready .any R.ops (pAll Pd c.1)).all fun j => (p :: Pd).any fun q => q.i == j)) = true := by kernel_rfl) : Gt R (p :: Pd) c M r := by
  intro hf h0 f e a w Y hb hF hp hS hle
  simp only [Bool.and_eq_true] at hdp
  have hf2 : pFree R.T Pd = true := by simp only [pFree, List.all_cons, Bool.and_eq_true] at hf; exact hf.2
  have hpT : p.i ∉ R.T := fun e => by simp [pFree, e] at hf
  refine g_float (fun f => f p.i) (fun f h => h p (List.mem_cons_self ..)) hPd hc (fun f e a w Y hb hF hp hS hle => ⟨fun h1 j hj hin => ?_, fun h1 => ?_⟩) hf h0 (cnt (p :: Pd) f) f e a w Y rfl hb hF hp hS hle
  · exfalso
    have hin2 : notIn Pd j := fun q hq => hin q (List.mem_cons_of_mem _ hq)
    have hj' : j ∈ Region.ready .any R.ops (pT Pd f c.1) := by simpa only [pT, h1, cond_false] using hj
    have hjr : j ∈ Region.ready .any R.ops (pAll Pd c.1) := ready_le hj' (pT_le Pd f c.1 c.1 rfl (fun _ h => h)) (by rw [pAll, pT_ne Pd _ c.1 j hin2, ← pT_ne Pd f c.1 j hin2]; exact (mem_ready.1 hj').1)
    have := List.all_eq_true.1 hdp.2.2 j hjr
    rw [List.any_eq_true] at this
    obtain ⟨q, hq, he⟩ := this
    exact hin q hq (by simpa using he)
  · have hloc : p.loc e = fun _ => e p.i := funext fun k => by
      unfold Pn.loc
      rcases Nat.lt_or_ge k p.deps.length with hk | hk
      · rw [List.getD_eq_getElem?_getD, List.getElem?_eq_getElem hk]
        have := List.all_eq_true.1 hdp.1 _ (List.getElem_mem hk)
        rw [Option.getD_some, eq_of_beq this]
      · rw [List.getD_eq_getElem?_getD, List.getElem?_eq_none hk]; rfl
    have hv := hp p (List.mem_cons_self ..) h1
    unfold Pn.val at hv
    rw [hloc] at hv
    have C2 : St R.E R.w0 R.X w Y ((nb p (fun _ => e p.i) ++ M) ++ pM Pd f e) := hS.perm (by
      simp only [pM, h1, cond_true]
      unfold nb
      rw [show p.loc (fun _ => e p.i) = p.loc e by rw [hloc]; rfl]
      cases p.ob with
      | none => exact List.Perm.refl _
      | some o => exact List.perm_middle.symm)
    have := k (e p.i) hf2 (by
      show begun R.T (c.1.setIfInBounds p.i true) = true ∨ _
      rw [begun_set hpT]
      exact h0.imp id fun h => ⟨fun q hq => List.mem_append_right _ (h.1 q hq), h.2⟩) f e a w Y (fun q hq => hb q (List.mem_cons_of_mem _ hq)) (hF.cons hv) (fun q hq => hp q (List.mem_cons_of_mem _ hq)) C2 hle
    simpa only [pT, h1, cond_true] using this
theorem gp1 (p : Pn) (k : ∀ b, Gt R [] (c.1.setIfInBounds p.i true, (p.d, p.vf fun _ => b) :: c.2) (nb p (fun _ => b) ++ M) r) (hPd : PdOk R c [p] [p] := by exact PdOk.cons (by kernel_rfl) (by kernel_rfl) (by intro e; kernel_rfl) (by intro e w; kernel_rfl) PdOk.nil)
    (hp : (!R.T.contains p.i && (!c.1.getD p.i true && true)) = true := by kernel_rfl) (hc : (pDis [p] && topo R c.1 [] [p].reverse) = true := by kernel_rfl) (hdp : (p.deps.all (fun j => j == p.i) && (true && (Region.ready .any R.ops c.1).all fun j => [p].any fun q => q.i == j)) = true := by kernel_rfl) : Gt R [] c M r :=
  gp p (gs1 k hPd hc hdp) hp
/-- A block is shown. -/
theorem gpub (i : Nat) (is : List Nat) {b : Nat} {cs : Array Value} {T : TypeId} (k : ∀ w Y, Le r (rd w Y) → At (rd w Y) ⟨b, 0, none⟩ cs.toList → Gt R Pd c (M.eraseIdx i) (rd w Y)) (hi : M[i]? = some (b, .cells cs T (0, 0)) := by rfl) (hM0 : sel (M.eraseIdx i) is = R.M0 := by kernel_rfl) (hE : ∀ k, ¬ R.E k := by exact fun _ h => h) : Gt R Pd c M r := by
  intro hf h0 f e a w Y hb hF hp hS hle
  have hlt : i < M.length := (List.getElem?_eq_some_iff.1 hi).1
  have hperm : ((b, Obj.cells cs T (0, 0)) :: (M.eraseIdx i ++ pM Pd f e)).Perm (M ++ pM Pd f e) := by
    have h1 : M.Perm ((b, Obj.cells cs T (0, 0)) :: M.eraseIdx i) := by
      have h2 := (List.getElem?_eq_some_iff.1 hi).2
      have h3 : M = M.take i ++ (b, Obj.cells cs T (0, 0)) :: M.drop (i + 1) := by
        rw [← h2, List.getElem_cons_drop, List.take_append_drop]
      rw [List.eraseIdx_eq_take_drop_succ]
      calc M.Perm (M.take i ++ (b, Obj.cells cs T (0, 0)) :: M.drop (i + 1)) := by rw [← h3]
        _ |>.Perm _ := List.perm_middle
    exact ((h1.append_right _).trans (by simp)).symm
  have hge : R.w0.heap.size ≤ b := ((hS.own (b, .cells cs T (0, 0)) (List.mem_append_left _ (List.mem_of_getElem? hi))).2.1).resolve_right (hE b)
  obtain ⟨h1, h2, h3⟩ := St.publish (hS.perm hperm) hge
  exact k w _ (hle.trans h2) h3 hf (h0.imp id fun h => ⟨selm is hM0, h.2.trans (hle.trans h2)⟩) f e a w _ hb hF hp h1 (Le.refl _)
/-- A law of its own, nothing floating. -/
theorem gO (i : Nat) (h : ∀ a w Y, Fr R.n a c.2 R.D → St R.E R.w0 R.X w Y M → Le r (rd w Y) → (opAt R.ops i).wp R.P a w (fun a' w' => ∃ L' M' r' Y', Fr R.n a' L' R.D ∧ St R.E R.w0 R.X w' Y' M' ∧ Le r' (rd w' Y') ∧
      (begun R.T (c.1.setIfInBounds i true) = true ∨ (((∀ p ∈ R.M0, p ∈ M) → ∀ p ∈ R.M0, p ∈ M') ∧ Le r r')) ∧ Gt R [] (c.1.setIfInBounds i true, L') M' r') (NormOnly R.Q))
    (hi : R.ops[i]? = some (opAt R.ops i) := by kernel_rfl) (hr : Region.ready .any R.ops c.1 = [i] := by kernel_rfl) (hw : wantL R.ops c.2 (opAt R.ops i) true = true := by kernel_rfl) : Gt R [] c M r := by
  intro hf h0 f e a w Y hb hF hp hS hle
  have C0 : St R.E R.w0 R.X w Y M := by simpa only [pM, List.append_nil] using hS
  show wpU R c.1 a w
  refine u_all (by rw [hr]; simp) fun j hj => ?_
  obtain rfl : j = i := by rw [hr] at hj; simpa using hj
  unfold wpOp
  simp only [hi]
  rw [if_pos (hF.wanted hw)]
  refine .inl (Oper.wp_mono ?_ (h a w Y hF C0 hle))
  rintro a' w' ⟨L', M', r', Y', hF', hS', hle', hst, hG⟩
  have h0' : begun R.T (c.1.setIfInBounds j true) = true ∨ ((∀ p ∈ R.M0, p ∈ M') ∧ Le R.r0 r') := by
    rcases hst with hst | ⟨h1, h2⟩
    · exact .inl hst
    · rcases h0 with h0 | ⟨h3, h4⟩
      · exact .inl (begun_mono h0)
      · exact .inr ⟨h1 h3, h4.trans h2⟩
  have C2 : St R.E R.w0 R.X w' Y' (M' ++ pM [] f e) := by simpa only [pM, List.append_nil] using hS'
  have hnil : pCl [] f := fun p hp => by cases hp
  have hok : pOk a' [] f e := fun p hp => by cases hp
  exact ⟨hold (Pd := []) (f := f) (e := e) (c := (c.1.setIfInBounds j true, L')) hf h0' C2 hle', hG hf h0' f e a' w' Y' hnil hF' hok C2 hle'⟩
/-- The store at the end, into the block j of those that the call owns. -/
theorem gX (i j : Nat) (c' : Array Value) (k : ∀ w1 Y, Le r (rd w1 Y) → Gt R [] (gv R i undef c) (wrM M j c') (rd w1 Y))
    (hT : R.T.contains i = true := by kernel_rfl) (hc : (okOp c.2 (opAt R.ops i) && (opAt R.ops i).dst.isNone) = true := by kernel_rfl) (ho : (opAt R.ops i).op = .store (stT (opAt R.ops i)) (stA (opAt R.ops i)) (stV (opAt R.ops i)) := by kernel_rfl)
    (ha : evL c.2 (stA (opAt R.ops i)) = .pointer (some ⟨bO M j, pOff (evL c.2 (stA (opAt R.ops i))), none⟩) := by kernel_rfl)
    (ht : ldT R.P (stT (opAt R.ops i)) = some (ldG' R.P (stT (opAt R.ops i)), (evL c.2 (stV (opAt R.ops i))).cells.size) := by kernel_rfl) (h1 : (evL c.2 (stV (opAt R.ops i))).cells.toList.all Value.oneCell' = true := by kernel_rfl)
    (hM : M[j]? = some (bO M j, .cells (cO M j) (tO M j) (0, 0)) := by kernel_rfl) (hle : Nat.ble (pOff (evL c.2 (stA (opAt R.ops i))) + (evL c.2 (stV (opAt R.ops i))).cells.size) (cO M j).size = true := by kernel_rfl)
    (hw : setCells (cO M j) (pOff (evL c.2 (stA (opAt R.ops i)))) (evL c.2 (stV (opAt R.ops i))).cells.toList = c' := by kernel_rfl)
    (hi : R.ops[i]? = some (opAt R.ops i) := by kernel_rfl) (hr : Region.ready .any R.ops c.1 = [i] := by kernel_rfl) (hwt : wantL R.ops c.2 (opAt R.ops i) true = true := by kernel_rfl) (hb : begun R.T (c.1.setIfInBounds i true) = true := by kernel_rfl) : Gt R [] c M r := by
  refine gO i (fun a w Y hF hS hle' => zE j _ hF hc hS ho ha rfl ht rfl h1 hM (Nat.le_of_ble_eq_true hle) hw rfl fun w1 h2 h3 => ?_) hi hr hwt
  refine ⟨c.2, wrM M j c', rd w1 Y, Y, hF, (by rw [wrM_eq hM]; exact h2), Le.refl _, .inl hb, ?_⟩
  have := k w1 Y (hle'.trans h3)
  have hd : (opAt R.ops i).dst = none := by have h9 := hc; rw [Bool.and_eq_true] at h9; exact Option.isNone_iff_eq_none.1 h9.2
  simpa only [gv, hd] using this
/-- A store into another block than those that are loaded. -/
theorem gXs (i j : Nat) (is : List Nat) (c' : Array Value) (k : ∀ w1 Y, Le r (rd w1 Y) → Gt R [] (gv R i undef c) (wrM M j c') (rd w1 Y))
    (hst : sel (wrM M j c') is = R.M0 := by kernel_rfl) (hc : (okOp c.2 (opAt R.ops i) && (opAt R.ops i).dst.isNone) = true := by kernel_rfl) (ho : (opAt R.ops i).op = .store (stT (opAt R.ops i)) (stA (opAt R.ops i)) (stV (opAt R.ops i)) := by kernel_rfl)
    (ha : evL c.2 (stA (opAt R.ops i)) = .pointer (some ⟨bO M j, pOff (evL c.2 (stA (opAt R.ops i))), none⟩) := by kernel_rfl)
    (ht : ldT R.P (stT (opAt R.ops i)) = some (ldG' R.P (stT (opAt R.ops i)), (evL c.2 (stV (opAt R.ops i))).cells.size) := by kernel_rfl) (h1 : (evL c.2 (stV (opAt R.ops i))).cells.toList.all Value.oneCell' = true := by kernel_rfl)
    (hM : M[j]? = some (bO M j, .cells (cO M j) (tO M j) (0, 0)) := by kernel_rfl) (hle : Nat.ble (pOff (evL c.2 (stA (opAt R.ops i))) + (evL c.2 (stV (opAt R.ops i))).cells.size) (cO M j).size = true := by kernel_rfl)
    (hw : setCells (cO M j) (pOff (evL c.2 (stA (opAt R.ops i)))) (evL c.2 (stV (opAt R.ops i))).cells.toList = c' := by kernel_rfl)
    (hi : R.ops[i]? = some (opAt R.ops i) := by kernel_rfl) (hr : Region.ready .any R.ops c.1 = [i] := by kernel_rfl) (hwt : wantL R.ops c.2 (opAt R.ops i) true = true := by kernel_rfl) : Gt R [] c M r := by
  refine gO i (fun a w Y hF hS hle' => zE j _ hF hc hS ho ha rfl ht rfl h1 hM (Nat.le_of_ble_eq_true hle) hw rfl fun w1 h2 h3 => ?_) hi hr hwt
  refine ⟨c.2, wrM M j c', rd w1 Y, Y, hF, (by rw [wrM_eq hM]; exact h2), Le.refl _, .inr ⟨fun _ => selm is hst, hle'.trans h3⟩, ?_⟩
  have := k w1 Y (hle'.trans h3)
  have hd : (opAt R.ops i).dst = none := by have h9 := hc; rw [Bool.and_eq_true] at h9; exact Option.isNone_iff_eq_none.1 h9.2
  simpa only [gv, hd] using this
end
/-! ### In and out -/
def dops (c : Cf) : Array Oper := match c.cu with
  | .code (.region _ o _) => o
  | _ => #[]
def did (c : Cf) : Nat := match c.cu with
  | .code (.region id _ _) => id
  | _ => 0
def isSt : Op → Bool
  | .store .. => true
  | _ => false
def isLd : Op → Bool
  | .load .. => true
  | _ => false
/-- The stores that wait for all loads. -/
def tOf (ops : Array Oper) : List Nat := (List.range ops.size).filter fun i => isSt (opAt ops i).op && (List.range ops.size).all fun j => !isLd (opAt ops j).op || (opAt ops i).after.any fun e => Region.binds .any e && e.on == j
section
variable {r : Option Nat} {m : Nat} {P : Program} {Q : Exit → Act → World → Prop} {n : Nat} {D : List Deferred} {w : World} {c : Cf} {E : Nat → Prop} {w0 : World} {X Y : Hid} {M : List (Nat × Obj)}
noncomputable def mkR (r : Option Nat) (m : Nat) (P : Program) (Q : Exit → Act → World → Prop) (n : Nat) (D : List Deferred) (w : World) (c : Cf) (E : Nat → Prop) (w0 : World) (X Y : Hid) (M0 : List (Nat × Obj)) (T : List Nat) : Rg :=
  { P := P, ops := dops c, Q := QQ r m P Q c.k, T := T, n := n, D := D, E := E, w0 := w0, X := X, M0 := M0, r0 := rd w Y }
theorem zdrawT (T : List Nat) (M0 : List (Nat × Obj)) (hS : St E w0 X w Y M) (k : Gt (mkR r m P Q n D w c E w0 X Y M0 T) [] (Array.replicate (dops c).size false, c.L) M (rd w Y)) (hM0 : ∀ p ∈ M0, p ∈ M)
    (hx : c.cu = .code (.region (did c) (dops c) true) := by kernel_rfl) (hm : P.follows .mixedOrders = true := by kernel_rfl) (hd : (dops c).all (fun o => noDef o.op) = true := by kernel_rfl) : Go r m P Q n D w c := by
  intro a hF
  rw [hx]
  refine i_drawN (mkR r m P Q n D w c E w0 X Y M0 T).S T hm rfl hd hS fun w1 C1 hle hu => ?_
  have C2 : St E w0 X w1 Y (M ++ pM [] (fun _ => false) (fun _ => 0)) := by simpa only [pM, List.append_nil] using C1
  exact k (by rfl) (.inr ⟨hM0, Le.refl _⟩) (fun _ => false) (fun _ => 0) a w1 Y (fun p hp => by cases hp) hF (fun p hp => by cases hp) C2 hle (dops c).size (Nat.le_trans List.countP_le_length (by simp [pT]))
theorem zdraw (is : List Nat) (hS : St E w0 X w Y M) (k : Gt (mkR r m P Q n D w c E w0 X Y (sel M is) (tOf (dops c))) [] (Array.replicate (dops c).size false, c.L) M (rd w Y))
    (hx : c.cu = .code (.region (did c) (dops c) true) := by kernel_rfl) (hm : P.follows .mixedOrders = true := by kernel_rfl) (hd : (dops c).all (fun o => noDef o.op) = true := by kernel_rfl) : Go r m P Q n D w c := zdrawT _ _ hS k sel_mem hx hm hd
/-- .. where the stores leave alone what is loaded. -/
theorem zdrs (is : List Nat) (hS : St E w0 X w Y M) (k : Gt (mkR r m P Q n D w c E w0 X Y (sel M is) []) [] (Array.replicate (dops c).size false, c.L) M (rd w Y))
    (hx : c.cu = .code (.region (did c) (dops c) true) := by kernel_rfl) (hm : P.follows .mixedOrders = true := by kernel_rfl) (hd : (dops c).all (fun o => noDef o.op) = true := by kernel_rfl) : Go r m P Q n D w c := zdrawT _ _ hS k sel_mem hx hm hd
theorem zdr (hS : St E w0 X w Y M) (k : Gt (mkR r m P Q n D w c E w0 X Y M (tOf (dops c))) [] (Array.replicate (dops c).size false, c.L) M (rd w Y))
    (hx : c.cu = .code (.region (did c) (dops c) true) := by kernel_rfl) (hm : P.follows .mixedOrders = true := by kernel_rfl) (hd : (dops c).all (fun o => noDef o.op) = true := by kernel_rfl) : Go r m P Q n D w c := zdrawT _ M hS k (fun _ h => h) hx hm hd
theorem gend {w' : World} {Y' : Hid} {M0 M' : List (Nat × Obj)} {T : List Nat} {r' : Rd} {c' : Array Bool × List (Nat × Value)} (h : ∀ w1 Y1, St E w0 X w1 Y1 M' → Le r' (rd w1 Y1) → Go r m P Q n D w1 ⟨.ex .normal, c.k, c'.2⟩) (hr : Region.ready .any (dops c) c'.1 = [] := by kernel_rfl) : Gt (mkR r m P Q n D w' c E w0 X Y' M0 T) [] c' M' r' := by
  intro hf h0 f e a w Y hb hF hp hS hle fuel _
  have C2 : St E w0 X w Y M' := by have h9 := hS; simp only [pM, List.append_nil] at h9; exact h9
  exact t_done hr (nrm (h w Y C2 hle a hF))
end
end Go.Gv
/- The older laws of single operations, all that can be reckoned left to the kernel. By an AI agent; over any program. -/
namespace Go.Gv
open Go.RowKit
def bArg (o : Oper) (i : Nat) : Operand := match o.op with
  | .call c => (c.args[i]?).getD (.tmp 0)
  | _ => .tmp 0
def bTy (o : Oper) (i : Nat) : TypeId := match o.op with
  | .call c => (c.argTypes[i]?).getD 0
  | _ => 0
def mkL (o : Oper) : Operand := match o.op with
  | .makeSlice _ x _ => x
  | _ => .tmp 0
def mkT (o : Oper) : TypeId := match o.op with
  | .makeSlice t _ _ => t
  | _ => 0
def slE (P : Program) (t : TypeId) : TypeId := match P.underlying t with
  | some (.slice e) => e
  | _ => 0
def zI (i : TypeInfo) : Value := (i.zero).getD undef
def od (o : Oper) : Nat := o.dst.getD 0
section
variable {P : Program} {Q : Exit → Act → World → Prop} {K : Act → World → Prop} {a : Act} {o : Oper} {n : Nat} {L : List (Nat × Value)} {D : List Deferred} {E : Nat → Prop} {w0 w : World} {X Y : Hid} {M : List (Nat × Obj)}
theorem op_call2Z {f : FuncId} {vs : Array Value} {ob1 ob2 : Obj} {b1 b2 : Nat} {Φ : World → Value → Prop} (i j : Nat) (hF : Fr n a L D) (hS : St E w0 X w Y M) (hM1 : M[i]? = some (b1, ob1)) (hM2 : M[j]? = some (b2, ob2)) (hcon : Calls P f vs w (Ret (fun k => k = b1 ∨ k = b2) w Φ))
    (k : ∀ v w1, Φ w1 v → (∀ o1 o2, w1.heap[b1]? = some o1 → w1.heap[b2]? = some o2 → St E w0 X w1 Y ((M.set i (b1, o1)).set j (b2, o2))) → Le (rd w Y) (rd w1 Y) → ∀ a1, Fr n a1 ((od o, v) :: L) D → K a1 w1)
    (hc : opk L o (od o) n = true := by kernel_rfl) (ho : o.op = .call { callee := .value (clF o), args := clA o, argTypes := clT o } := by kernel_rfl) (hf : evL L (clF o) = .func (.func f) #[] (capF (evL L (clF o))) := by kernel_rfl) (hargs : (clA o).map (evL L) ++ capF (evL L (clF o)) = vs := by kernel_rfl)
    (hcall : ∀ w, (callFunc f vs).run P w = .ok (.enter f vs) w := by intro w; kernel_rfl) (hij : (Nat.beq i j) = false := by kernel_rfl) : o.wp P a w K Q :=
  op_call2 i j hF hc hS ho hf hargs hcall hM1 hM2 (fun e => by subst e; simp at hij) hcon k
theorem op_callGZ {f : FuncId} {vs : Array Value} {ob : Obj} {b : Nat} {Ψ : Nat → Obj → Value → Prop} (i : Nat) (hF : Fr n a L D) (hS : St E w0 X w Y M) (hM : M[i]? = some (b, ob))
    (hcon : Calls P f vs w (Ret (· = b) w fun w1 v => ∃ g' o', w1.heap[g']? = some o' ∧ (w.heap.size ≤ g' ∨ g' = b) ∧ Ψ g' o' v))
    (k : ∀ v w1 Y1 g' o', Ψ g' o' v → St E w0 X w1 Y1 (M.set i (g', o')) → Le (rd w Y) (rd w1 Y1) → ∀ a1, Fr n a1 ((od o, v) :: L) D → K a1 w1)
    (hc : opk L o (od o) n = true := by kernel_rfl) (ho : o.op = .call { callee := .value (clF o), args := clA o, argTypes := clT o } := by kernel_rfl) (hf : evL L (clF o) = .func (.func f) #[] (capF (evL L (clF o))) := by kernel_rfl) (hargs : (clA o).map (evL L) ++ capF (evL L (clF o)) = vs := by kernel_rfl)
    (hcall : ∀ w, (callFunc f vs).run P w = .ok (.enter f vs) w := by intro w; kernel_rfl) : o.wp P a w K Q :=
  op_callG i hF hc hS ho hf hargs hcall hM hcon k
theorem op_storeUZ {g k : Nat} {T : TypeId} {m cap : Nat} {cur : Array Value} {l : List Nat} {e : Int} {y : Nat} (i : Nat) (hF : Fr n a L D) (hS : St E w0 X w Y M) (he : e = (y : Int)) (hM : M[i]? = some (g, .cells cur T (0, 0))) (hrow : URow m cap cur l) (hk : k < l.length) (hy : y < 4294967296)
    (kont : ∀ cur' w1, URow m cap cur' (l.set k y) → St E w0 X w1 Y (M.set i (g, .cells cur' T (0, 0))) → Le (rd w Y) (rd w1 Y) → K a w1)
    (hc : (okOp L o && o.dst.isNone) = true := by kernel_rfl) (ho : o.op = .store (stT o) (stA o) (stV o) := by kernel_rfl) (ha : evL L (stA o) = .pointer (some ⟨g, k, none⟩) := by kernel_rfl) (hv : evL L (stV o) = .int .u32 e := by kernel_rfl) (ht : ldT P (stT o) = some (false, 1) := by kernel_rfl) : o.wp P a w K Q :=
  op_storeU i hF hc hS ho ha hv he ht hM hrow hk hy kont
theorem op_makeZ {l : Int} {e : TypeId} {z : Value} {i0 : TypeInfo} (m b : Nat) (hF : Fr n a L D) (hS : St E w0 X w Y M)
    (k : ∀ b w1 Y1, St E w0 X w1 Y1 ((b, .cells (List.replicate m z).toArray e (0, 0)) :: M) → Le (rd w Y) (rd w1 Y1) → Upd E0 w w1 → ∀ a1, Fr n a1 ((od o, .slice (some ⟨b, 0, none⟩) m m) :: L) D → K a1 w1)
    (hby : b * m ≤ 281474976710656 := by omega) (h63 : m ≤ 140737488355328 := by omega) (hm : l = (m : Int) := by first | rfl | omega)
    (hb : i0.bytes = b := by kernel_rfl) (hc : opk L o (od o) n = true := by kernel_rfl) (ho : o.op = .makeSlice (mkT o) (mkL o) (mkL o) := by kernel_rfl) (hl : evL L (mkL o) = .int .i64 l := by kernel_rfl)
    (ht : P.underlying (mkT o) = some (.slice e) := by kernel_rfl) (hi : P.info? e = some i0 := by kernel_rfl) (hz : i0.zero = some z := by kernel_rfl) (hs : i0.size = 1 := by kernel_rfl) (hzc : z.cells = #[z] := by kernel_rfl) : o.wp P a w K Q :=
  op_make hF hc hS ho hl hm ht hi hz hs hzc (by rw [hb]; exact hby) h63 k
theorem op_copyUZ {g dl dc sl sc : Nat} {cur : Array Value} {T : TypeId} {ad : Option Addr} {l l2 : List Nat} {Y2 : Hid} (i : Nat) (hF : Fr n a L D) (hS : St E w0 X w Y M) (hM : M[i]? = some (g, .cells cur T (0, 0))) (hrow : URow dl dc cur l) (h2 : Limbs (rd w Y2) ad sl sc l2) (hle : l2.length ≤ dl)
    (k : ∀ cur' w1, URow dl dc cur' (l2 ++ l.drop l2.length) → St E w0 X w1 Y (M.set i (g, .cells cur' T (0, 0))) → Le (rd w Y) (rd w1 Y) → ∀ a1, Fr n a1 ((od o, .int .i64 (l2.length : Int)) :: L) D → K a1 w1)
    (hc : opk L o (od o) n = true := by kernel_rfl) (ho : o.op = .call { callee := .builtin .copy, args := #[bArg o 0, bArg o 1], argTypes := #[bTy o 0, bTy o 1] } := by kernel_rfl) (hx : evL L (bArg o 0) = .slice (some ⟨g, 0, none⟩) dl dc := by kernel_rfl) (hy : evL L (bArg o 1) = .slice ad sl sc := by kernel_rfl)
    (hu : P.underlying (bTy o 0) = some (.slice (slE P (bTy o 0))) := by kernel_rfl) (hs : (P.info? (slE P (bTy o 0))).map (·.size) = some 1 := by kernel_rfl) : o.wp P a w K Q :=
  op_copyU i hF hc hS ho hx hy hu hs hM hrow h2 hle k
theorem op_appendZ {e : TypeId} {g m nn cap c size b : Nat} {cur : Array Value} {xs news : List Value} {ad : Addr} {i0 : TypeInfo} (i : Nat) (hF : Fr n a L D) (hS : St E w0 X w Y M)
    (hM : M[i]? = some (g, .cells cur e (0, 0))) (hrow : Row nn cap size cur xs) (hnews : CellsAt w ad news) (hl : news.length = m * size) (h1 : news.all Value.oneCell' = true)
    (h63 : nn + m ≤ maxLen) (hbytes : (nn + m) * b ≤ 140737488355328)
    (k : ∀ g' cap' cur' w1 Y1, Row (nn + m) cap' size cur' (xs ++ news) → St E w0 X w1 Y1 (M.set i (g', .cells cur' e (0, 0))) → Le (rd w Y) (rd w1 Y1) → ∀ a1, Fr n a1 ((od o, .slice (some ⟨g', 0, none⟩) (nn + m) cap') :: L) D → K a1 w1)
    (hb : i0.bytes = b := by kernel_rfl) (hc : opk L o (od o) n = true := by kernel_rfl) (ho : o.op = .call { callee := .builtin .append, args := #[bArg o 0, bArg o 1], argTypes := #[bTy o 0, bTy o 0] } := by kernel_rfl) (hs : evL L (bArg o 0) = .slice (some ⟨g, 0, none⟩) nn cap := by kernel_rfl) (hx : evL L (bArg o 1) = .slice (some ad) m c := by kernel_rfl)
    (ht : P.underlying (bTy o 0) = some (.slice e) := by kernel_rfl) (hi : P.info? e = some i0 := by kernel_rfl) (hz : i0.zero = some (zI i0) := by kernel_rfl) (hsz : i0.size = size := by kernel_rfl) (hzs : (zI i0).cells.size = size := by kernel_rfl) : o.wp P a w K Q :=
  op_append i hF hc hS ho hs hx ht hi hz hsz hzs hM hrow hnews hl h1 h63 (by rw [hb]; exact hbytes) k
theorem op_append0Z {m c size b : Nat} {e : TypeId} {news : List Value} {ad : Addr} {i0 : TypeInfo} (hF : Fr n a L D) (hS : St E w0 X w Y M) (hnews : CellsAt w ad news) (hl : news.length = m * size) (hm0 : 0 < m) (h63 : m ≤ maxLen) (hbytes : m * b ≤ 140737488355328)
    (k : ∀ g' cap' cur' w1 Y1, Row m cap' size cur' news → St E w0 X w1 Y1 ((g', .cells cur' (e) (0, 0)) :: M) → Le (rd w Y) (rd w1 Y1) → ∀ a1, Fr n a1 ((od o, .slice (some ⟨g', 0, none⟩) m cap') :: L) D → K a1 w1)
    (hb : i0.bytes = b := by kernel_rfl) (hc : opk L o (od o) n = true := by kernel_rfl) (ho : o.op = .call { callee := .builtin .append, args := #[bArg o 0, bArg o 1], argTypes := #[bTy o 0, bTy o 0] } := by kernel_rfl) (hs : evL L (bArg o 0) = .slice none 0 0 := by kernel_rfl) (hx : evL L (bArg o 1) = .slice (some ad) m c := by kernel_rfl)
    (ht : P.underlying (bTy o 0) = some (.slice (e)) := by kernel_rfl) (hi : P.info? (e) = some i0 := by kernel_rfl) (hz : i0.zero = some (zI i0) := by kernel_rfl) (hsz : i0.size = size := by kernel_rfl) (hzs : (zI i0).cells.size = size := by kernel_rfl) : o.wp P a w K Q :=
  op_append0 hF hc hS ho hs hx ht hi hz hsz hzs hnews hl hm0 h63 (by rw [hb]; exact hbytes) k
theorem op_appZ {e : TypeId} {m c nn cap size b : Nat} {ad0 : Option Addr} {xs news : List Value} {ad : Addr} {i0 : TypeInfo} {rb R1 B M : List (Nat × Obj)} (i : Nat) (hF : Fr n a L D) (hS : St E w0 X w Y M) (hM : M.drop i = R1 ++ (rb ++ B))
    (hrow : TRow e size rb ad0 nn cap xs) (hnews : CellsAt w ad news) (h63 : nn + m ≤ 1125899906842624) (hbytes : (nn + m) * b ≤ 140737488355328)
    (k : ∀ rb' ad' cap' w1 Y1, TRow e size rb' ad' (nn + m) cap' (xs ++ news) → St E w0 X w1 Y1 (M.take i ++ (R1 ++ (rb' ++ B))) → Le (rd w Y) (rd w1 Y1) → ∀ a1, Fr n a1 ((od o, .slice ad' (nn + m) cap') :: L) D → K a1 w1)
    (hl : news.length = m * size := by kernel_rfl) (h1 : news.all Value.oneCell' = true := by kernel_rfl) (hm0 : Nat.blt 0 m = true := by kernel_rfl)
    (hb : i0.bytes = b := by kernel_rfl) (hc : opk L o (od o) n = true := by kernel_rfl) (ho : o.op = .call { callee := .builtin .append, args := #[bArg o 0, bArg o 1], argTypes := #[bTy o 0, bTy o 0] } := by kernel_rfl) (hs : evL L (bArg o 0) = .slice ad0 nn cap := by kernel_rfl) (hx : evL L (bArg o 1) = .slice (some ad) m c := by kernel_rfl)
    (ht : P.underlying (bTy o 0) = some (.slice e) := by kernel_rfl) (hi : P.info? e = some i0 := by kernel_rfl) (hz : i0.zero = some (zI i0) := by kernel_rfl) (hsz : i0.size = size := by kernel_rfl) (hzs : (zI i0).cells.size = size := by kernel_rfl) : o.wp P a w K Q :=
  op_app i hF hc hS hM ho hs hx ht hi hz hsz hzs hrow hnews hl h1 (by simpa [Nat.blt_eq] using hm0) (by simp only [maxLen]; omega) (by rw [hb]; exact hbytes) k
theorem op_appEZ {e : TypeId} {m c nn cap size b : Nat} {ad0 : Option Addr} {xs news : List Value} {ad : Addr} {i0 : TypeInfo} {rb R1 M : List (Nat × Obj)} (i : Nat) (hF : Fr n a L D) (hS : St E w0 X w Y M) (hM : M.drop i = R1 ++ rb)
    (hrow : TRow e size rb ad0 nn cap xs) (hnews : CellsAt w ad news) (h63 : nn + m ≤ 1125899906842624) (hbytes : (nn + m) * b ≤ 140737488355328)
    (k : ∀ rb' ad' cap' w1 Y1, TRow e size rb' ad' (nn + m) cap' (xs ++ news) → St E w0 X w1 Y1 (M.take i ++ (R1 ++ rb')) → Le (rd w Y) (rd w1 Y1) → ∀ a1, Fr n a1 ((od o, .slice ad' (nn + m) cap') :: L) D → K a1 w1)
    (hl : news.length = m * size := by kernel_rfl) (h1 : news.all Value.oneCell' = true := by kernel_rfl) (hm0 : Nat.blt 0 m = true := by kernel_rfl)
    (hb : i0.bytes = b := by kernel_rfl) (hc : opk L o (od o) n = true := by kernel_rfl) (ho : o.op = .call { callee := .builtin .append, args := #[bArg o 0, bArg o 1], argTypes := #[bTy o 0, bTy o 0] } := by kernel_rfl) (hs : evL L (bArg o 0) = .slice ad0 nn cap := by kernel_rfl) (hx : evL L (bArg o 1) = .slice (some ad) m c := by kernel_rfl)
    (ht : P.underlying (bTy o 0) = some (.slice e) := by kernel_rfl) (hi : P.info? e = some i0 := by kernel_rfl) (hz : i0.zero = some (zI i0) := by kernel_rfl) (hsz : i0.size = size := by kernel_rfl) (hzs : (zI i0).cells.size = size := by kernel_rfl) : o.wp P a w K Q :=
  op_appE i hF hc hS hM ho hs hx ht hi hz hsz hzs hrow hnews hl h1 (by simpa [Nat.blt_eq] using hm0) (by simp only [maxLen]; omega) (by rw [hb]; exact hbytes) k
theorem op_appBZ {e : TypeId} {m c nn cap size b : Nat} {ad0 : Option Addr} {xs news : List Value} {ad : Addr} {i0 : TypeInfo} {rb R1 B B0 M : List (Nat × Obj)} (i : Nat) (hF : Fr n a L D) (hS : St E w0 X w Y (M ++ B0)) (hM : M.drop i = R1 ++ (rb ++ B))
    (hrow : TRow e size rb ad0 nn cap xs) (hnews : CellsAt w ad news) (h63 : nn + m ≤ 1125899906842624) (hbytes : (nn + m) * b ≤ 140737488355328)
    (k : ∀ rb' ad' cap' w1 Y1, TRow e size rb' ad' (nn + m) cap' (xs ++ news) → St E w0 X w1 Y1 ((M.take i ++ (R1 ++ (rb' ++ B))) ++ B0) → Le (rd w Y) (rd w1 Y1) → ∀ a1, Fr n a1 ((od o, .slice ad' (nn + m) cap') :: L) D → K a1 w1)
    (hl : news.length = m * size := by kernel_rfl) (h1 : news.all Value.oneCell' = true := by kernel_rfl) (hm0 : Nat.blt 0 m = true := by kernel_rfl)
    (hb : i0.bytes = b := by kernel_rfl) (hc : opk L o (od o) n = true := by kernel_rfl) (ho : o.op = .call { callee := .builtin .append, args := #[bArg o 0, bArg o 1], argTypes := #[bTy o 0, bTy o 0] } := by kernel_rfl) (hs : evL L (bArg o 0) = .slice ad0 nn cap := by kernel_rfl) (hx : evL L (bArg o 1) = .slice (some ad) m c := by kernel_rfl)
    (ht : P.underlying (bTy o 0) = some (.slice e) := by kernel_rfl) (hi : P.info? e = some i0 := by kernel_rfl) (hz : i0.zero = some (zI i0) := by kernel_rfl) (hsz : i0.size = size := by kernel_rfl) (hzs : (zI i0).cells.size = size := by kernel_rfl) : o.wp P a w K Q :=
  op_appF (A := M.take i ++ R1) (B := B ++ B0) (fun rb => (M.take i ++ (R1 ++ (rb ++ B))) ++ B0) hF hc (by rw [← hM, List.take_append_drop]; exact hS) (fun _ => by simp only [List.append_assoc]) ho hs hx ht hi hz hsz hzs hrow hnews hl h1 (by simpa [Nat.blt_eq] using hm0) (by simp only [maxLen]; omega) (by rw [hb]; exact hbytes) k
theorem op_appCZ {e : TypeId} {m c nn cap size b : Nat} {ad0 : Option Addr} {xs news : List Value} {ad : Addr} {i0 : TypeInfo} {rb R1 B0 M : List (Nat × Obj)} (i : Nat) (hF : Fr n a L D) (hS : St E w0 X w Y (M ++ B0)) (hM : M.drop i = R1 ++ rb)
    (hrow : TRow e size rb ad0 nn cap xs) (hnews : CellsAt w ad news) (h63 : nn + m ≤ 1125899906842624) (hbytes : (nn + m) * b ≤ 140737488355328)
    (k : ∀ rb' ad' cap' w1 Y1, TRow e size rb' ad' (nn + m) cap' (xs ++ news) → St E w0 X w1 Y1 ((M.take i ++ (R1 ++ rb')) ++ B0) → Le (rd w Y) (rd w1 Y1) → ∀ a1, Fr n a1 ((od o, .slice ad' (nn + m) cap') :: L) D → K a1 w1)
    (hl : news.length = m * size := by kernel_rfl) (h1 : news.all Value.oneCell' = true := by kernel_rfl) (hm0 : Nat.blt 0 m = true := by kernel_rfl)
    (hb : i0.bytes = b := by kernel_rfl) (hc : opk L o (od o) n = true := by kernel_rfl) (ho : o.op = .call { callee := .builtin .append, args := #[bArg o 0, bArg o 1], argTypes := #[bTy o 0, bTy o 0] } := by kernel_rfl) (hs : evL L (bArg o 0) = .slice ad0 nn cap := by kernel_rfl) (hx : evL L (bArg o 1) = .slice (some ad) m c := by kernel_rfl)
    (ht : P.underlying (bTy o 0) = some (.slice e) := by kernel_rfl) (hi : P.info? e = some i0 := by kernel_rfl) (hz : i0.zero = some (zI i0) := by kernel_rfl) (hsz : i0.size = size := by kernel_rfl) (hzs : (zI i0).cells.size = size := by kernel_rfl) : o.wp P a w K Q :=
  op_appF (A := M.take i ++ R1) (B := B0) (fun rb => (M.take i ++ (R1 ++ rb)) ++ B0) hF hc (by rw [← hM, List.take_append_drop]; exact hS) (fun _ => by simp only [List.append_assoc]) ho hs hx ht hi hz hsz hzs hrow hnews hl h1 (by simpa [Nat.blt_eq] using hm0) (by simp only [maxLen]; omega) (by rw [hb]; exact hbytes) k
end
/-- A load from the row j of limbs that stands still. -/
theorem gr {R : Rg} {Pd : List Pn} {c : Array Bool × List (Nat × Value)} {M : List (Nat × Obj)} {r : Rd} (i j k : Nat) {m cap : Nat} {cur : Array Value} {l : List Nat} (hrow : URow m cap cur l) (hk : k < l.length) (cont : Gt R Pd (gv R i (.int .u32 ((l.getD k 0 : Nat) : Int)) c) M r)
    (hj : R.M0[j]? = some (bO R.M0 j, .cells (cO R.M0 j) (tO R.M0 j) (fO R.M0 j)) := by kernel_rfl) (hcur : cO R.M0 j = cur := by kernel_rfl)
    (hi : R.ops[i]? = some (opAt R.ops i) := by kernel_rfl) (hc : gok R Pd c i = true := by kernel_rfl) (hT : (waits R.ops R.T i && !begun R.T c.1) = true := by kernel_rfl)
    (ho : (opAt R.ops i).op = .load (ldT' (opAt R.ops i)) (ldX (opAt R.ops i)) := by kernel_rfl) (hx : evL c.2 (ldX (opAt R.ops i)) = .pointer (some ⟨bO R.M0 j, k, none⟩) := by kernel_rfl) (ht : ldT R.P (ldT' (opAt R.ops i)) = some (false, 1) := by kernel_rfl) : Gt R Pd c M r :=
  g_val i (.inr ⟨hT, fun w hS => zB (vs := [.int .u32 ((l.getD k 0 : Nat) : Int)]) ho hx ht (.inr rfl) (by
    have h1 := hS.1 _ (List.mem_of_getElem? hj)
    intro q v hq
    rcases q with _ | q
    · simp at hq; subst hq
      rw [add_mk, cell_of_row w _ _ _ _ _ h1, hcur]
      exact hrow.get hk
    · simp at hq)⟩) cont hi hc
/-! ### Results -/
def unp : Nat → Value → List Value
  | 1, v => [v]
  | _, .tuple a => a.toList
  | _, v => [v]
section
variable {P : Program} {n : Nat} {D : List Deferred} {w : World} {c : Cf} {E : Nat → Prop} {w0 : World} {X Y : Hid} {M : List (Nat × Obj)} {L : List (Nat × Value)}
theorem Res.tZ {t : Nat} {v : Value} {rs : List ResultVar} {vs : List Value} (k : Res P L w rs vs) (h : has L t = true := by kernel_rfl) (e : look L t = v := by kernel_rfl) : Res P L w (.tmp t :: rs) (v :: vs) := e ▸ Res.tmp h k
def rM (P : Program) (L : List (Nat × Value)) (M : List (Nat × Obj)) (i t : Nat) (T : TypeId) : List Value := ((cO M i).toList.drop (pOff (look L t))).take (ldS P T)
theorem Res.cM {t : Nat} {T : TypeId} {v : Value} {rs : List ResultVar} {vs : List Value} (hS : St E w0 X w Y M) (i : Nat) (k : Res P L w rs vs) (h : has L t = true := by kernel_rfl) (hl : look L t = .pointer (some ⟨bO M i, pOff (look L t), none⟩) := by kernel_rfl) (ht : ldT P T = some (ldG' P T, (rM P L M i t T).length) := by kernel_rfl)
    (hg : (ldG' P T || (rM P L M i t T).length == 1) = true := by kernel_rfl) (hi : M[i]? = some (bO M i, .cells (cO M i) (tO M i) (fO M i)) := by kernel_rfl) (hm : (rM P L M i t T).length = ldS P T := by kernel_rfl) (e : ldV (ldG' P T) (rM P L M i t T) = v := by kernel_rfl) : Res P L w (.cell t T :: rs) (v :: vs) :=
  e ▸ Res.cell h hl ht (by simpa using hg) (hS.cells i hi (by rw [hm]; rfl)) k
theorem zrS (rs : List ResultVar) {v : Value} {fn : Func} {R : Ending → World → Prop} (h : Res P c.L w rs (unp rs.length v)) (hR : R (.returned v) w) (hr : fn.results = rs.toArray := by kernel_rfl) (hv : pack (unp rs.length v) = v := by kernel_rfl) (hf : fin c = true := by kernel_rfl) : Go none 0 P (bodyPost P fn R) n [] w c := zrR h hR hr hv hf
end
end Go.Gv
/- A call whose end is told by itself, what can be reckoned left to the kernel. By an AI agent; over any program. -/
namespace Go.Gv
open Go.RowKit
theorem op_callFZ {P : Program} {Q : Exit → Act → World → Prop} {K : Act → World → Prop} {a : Act} {o : Oper} {n : Nat} {L : List (Nat × Value)} {D : List Deferred} {w : World} {f : FuncId} {vs : Array Value} {Φ : World → Value → Prop} (hF : Fr n a L D)
    (hcon : Calls P f vs w (fun e w' => ∃ v, e = .returned v ∧ Φ w' v)) (k : ∀ v w1, Φ w1 v → ∀ a1, Fr n a1 ((od o, v) :: L) D → K a1 w1)
    (hc : opk L o (od o) n = true := by kernel_rfl) (ho : o.op = .call { callee := .value (clF o), args := clA o, argTypes := clT o } := by kernel_rfl) (hf : evL L (clF o) = .func (.func f) #[] (capF (evL L (clF o))) := by kernel_rfl) (hargs : (clA o).map (evL L) ++ capF (evL L (clF o)) = vs := by kernel_rfl)
    (hcall : ∀ w, (callFunc f vs).run P w = .ok (.enter f vs) w := by intro w; kernel_rfl) : o.wp P a w K Q := op_callF hF hc ho hf hargs hcall hcon k
end Go.Gv
/- Rows of limbs that grow, and how the reference adds, subtracts and compares them. By an AI agent; over any program. -/
namespace Go.Gv
open Go.RowKit
theorem U32_snoc {l : List Nat} {x : Nat} : U32 l ++ [.int .u32 (x : Int)] = U32 (l ++ [x]) := by simp [U32]
section
variable {w0 w : World} {X Y : Hid} {rb A B : List (Nat × Obj)} {e : TypeId} {m cap : Nat} {ad : Option Addr}
/-- A row of limbs is shown. -/
theorem St.pubLimbs {ls : List Nat} (F : List (Nat × Obj) → List (Nat × Obj)) (hS : St E0 w0 X w Y (F rb)) (hM : ∀ rb, F rb = A ++ (rb ++ B)) (hrow : TRow e 1 rb ad m cap (U32 ls)) (hm : m = ls.length) (hl : ∀ x ∈ ls, x < 4294967296) :
    ∃ Y', St E0 w0 X w Y' (F []) ∧ Le (rd w Y) (rd w Y') ∧ Limbs (rd w Y') ad m cap ls := by
  obtain ⟨Y', h1, h2, h3⟩ := St.pubRow F hS hM hrow
  refine ⟨Y', h1, h2, ?_⟩
  rcases h3 with ⟨hx, rfl, rfl, rfl⟩ | ⟨g, cur, rfl, hr, hat⟩
  · have : ls = [] := by
      cases ls with
      | nil => rfl
      | cons a l => simp [U32] at hx
    subst this
    exact Limbs.nil none (by omega)
  · subst hm
    refine ⟨rfl, hr.hn, ?_, hl, .inr ⟨g, 0, rfl, fun j v hj => ?_⟩⟩
    · have := hr.hcap; simp only [maxLen] at this; omega
    · rw [← hr.hxs, List.getElem?_take] at hj
      split at hj
      · exact hat j v hj
      · cases hj
end
theorem val_tk (l : List Nat) (k : Nat) : val (l.take (k + 1)) = val (l.take k) + l.getD k 0 * 4294967296 ^ k := by
  rcases Nat.lt_or_ge k l.length with h | h
  · exact val_take l k h
  · rw [List.take_of_length_le (by omega), List.take_of_length_le h, List.getD_eq_getElem?_getD, List.getElem?_eq_none h]; simp
theorem sumstep (l l2 ls : List Nat) (k c : Nat) (hk : ls.length = k) (h : val ls + c * 4294967296 ^ k = val (l.take k) + val (l2.take k)) :
    val (ls ++ [(l.getD k 0 + l2.getD k 0 + c) % 4294967296]) + (l.getD k 0 + l2.getD k 0 + c) / 4294967296 * 4294967296 ^ (k + 1) = val (l.take (k + 1)) + val (l2.take (k + 1)) := by
  rw [val_snoc, val_tk, val_tk, hk]
  have h1 := Nat.div_add_mod (l.getD k 0 + l2.getD k 0 + c) 4294967296
  have h2 : (l.getD k 0 + l2.getD k 0 + c) * 4294967296 ^ k = (l.getD k 0 + l2.getD k 0 + c) % 4294967296 * 4294967296 ^ k + (l.getD k 0 + l2.getD k 0 + c) / 4294967296 * 4294967296 ^ (k + 1) := by
    rw [Nat.pow_succ]
    calc (l.getD k 0 + l2.getD k 0 + c) * 4294967296 ^ k = (4294967296 * ((l.getD k 0 + l2.getD k 0 + c) / 4294967296) + (l.getD k 0 + l2.getD k 0 + c) % 4294967296) * 4294967296 ^ k := by rw [h1]
      _ = _ := by rw [Nat.add_mul, Nat.add_comm]; congr 1; ac_rfl
  rw [Nat.add_mul, Nat.add_mul] at h2
  omega
theorem u64_quo (a : Nat) (h : a < 18446744073709551616) : IntKind.u64.wrap (Int.tdiv (a : Int) 4294967296) = ((a / 4294967296 : Nat) : Int) := wu64 (x := ((a / 4294967296 : Nat) : Int)) (by omega) (by omega)
theorem diffstep (l l2 ls : List Nat) (k c : Nat) (hk : ls.length = k) (h1 : l.getD k 0 < 4294967296) (h2 : l2.getD k 0 < 4294967296) (hc : c ≤ 1) (h : val ls + val (l2.take k) = val (l.take k) + c * 4294967296 ^ k) :
    val (ls ++ [(4294967296 + l.getD k 0 - l2.getD k 0 - c) % 4294967296]) + val (l2.take (k + 1)) = val (l.take (k + 1)) + (1 - (4294967296 + l.getD k 0 - l2.getD k 0 - c) / 4294967296) * 4294967296 ^ (k + 1) := by
  rw [val_snoc, val_tk, val_tk, hk, Nat.pow_succ, Nat.mul_comm (4294967296 ^ k), ← Nat.mul_assoc]
  have e : (4294967296 + l.getD k 0 - l2.getD k 0 - c) % 4294967296 + l2.getD k 0 + c = l.getD k 0 + (1 - (4294967296 + l.getD k 0 - l2.getD k 0 - c) / 4294967296) * 4294967296 := by omega
  have e2 := congrArg (· * 4294967296 ^ k) e
  simp only [Nat.add_mul] at e2
  omega
theorem diff_end {l l2 ls : List Nat} {c k : Nat} (hk : ls.length = k) (hkl : k = l.length) (hlt : ∀ x ∈ ls, x < 4294967296) (h2 : l2.length ≤ l.length) (hle : val l2 ≤ val l) (hc : c ≤ 1) (h : val ls + val (l2.take k) = val (l.take k) + c * 4294967296 ^ k) : val ls = val l - val l2 := by
  subst hkl
  rw [List.take_of_length_le h2, List.take_length] at h
  have h3 := val_lt hlt
  rw [hk] at h3
  have : c = 0 := by
    rcases Nat.eq_zero_or_pos c with h | h'
    · exact h
    · obtain rfl : c = 1 := by omega
      omega
  subst this
  omega
theorem val_ext : ∀ (l l2 : List Nat), (∀ j, l.getD j 0 = l2.getD j 0) → val l = val l2
  | [], [], _ => rfl
  | [], b :: l2, h => by
    have h0 := h 0
    have ih := val_ext [] l2 fun j => by have := h (j + 1); simpa using this
    simp at h0
    simp only [val] at ih ⊢; omega
  | a :: l, [], h => by
    have h0 := h 0
    have ih := val_ext l [] fun j => by have := h (j + 1); simpa using this
    simp at h0
    simp only [val] at ih ⊢; omega
  | a :: l, b :: l2, h => by
    have h0 := h 0
    have ih := val_ext l l2 fun j => by have := h (j + 1); simpa using this
    simp at h0
    simp only [val]; omega
theorem ord_lt {l l2 : List Nat} {k : Nat} (hl : ∀ x ∈ l, x < 4294967296) (h : ∀ j, k + 1 ≤ j → l.getD j 0 = l2.getD j 0) (hlt : l.getD k 0 < l2.getD k 0) : val l < val l2 := by
  have e : val (l.drop (k + 1)) = val (l2.drop (k + 1)) := val_ext _ _ fun j => by
    have := h (k + 1 + j) (by omega)
    simpa [List.getD_eq_getElem?_getD, List.getElem?_drop] using this
  have h1 : val (l.take k) < 4294967296 ^ k := by
    have := val_lt (l := l.take k) fun x hx => hl x (List.mem_of_mem_take hx)
    refine Nat.lt_of_lt_of_le this (Nat.pow_le_pow_right (by omega) (by rw [List.length_take]; omega))
  rw [val_split l (k + 1), val_split l2 (k + 1), e, val_tk, val_tk]
  have h2 : (l.getD k 0 + 1) * 4294967296 ^ k ≤ l2.getD k 0 * 4294967296 ^ k := Nat.mul_le_mul_right _ hlt
  rw [Nat.add_mul, Nat.one_mul] at h2
  omega
theorem prodstep (ls : List Nat) (p c V x y : Nat) (hp : p < ls.length) (h : val ls + c * 4294967296 ^ p = V) :
    val (ls.set p ((x * y + ls.getD p 0 + c) % 4294967296)) + (x * y + ls.getD p 0 + c) / 4294967296 * 4294967296 ^ (p + 1) = V + x * y * 4294967296 ^ p := by
  have h1 := val_set ls p ((x * y + ls.getD p 0 + c) % 4294967296) hp
  have h2 : (x * y + ls.getD p 0 + c) * 4294967296 ^ p = (x * y + ls.getD p 0 + c) % 4294967296 * 4294967296 ^ p + (x * y + ls.getD p 0 + c) / 4294967296 * 4294967296 ^ (p + 1) := by
    have h3 := Nat.div_add_mod (x * y + ls.getD p 0 + c) 4294967296
    rw [Nat.pow_succ]
    calc (x * y + ls.getD p 0 + c) * 4294967296 ^ p = (4294967296 * ((x * y + ls.getD p 0 + c) / 4294967296) + (x * y + ls.getD p 0 + c) % 4294967296) * 4294967296 ^ p := by rw [h3]
      _ = _ := by rw [Nat.add_mul, Nat.add_comm]; congr 1; ac_rfl
  rw [Nat.add_mul, Nat.add_mul] at h2
  omega
theorem prod_in (l2 : List Nat) (i k x W V : Nat) (h : V = W + x * 4294967296 ^ i * val (l2.take k)) : V + x * l2.getD k 0 * 4294967296 ^ (i + k) = W + x * 4294967296 ^ i * val (l2.take (k + 1)) := by
  rw [h, val_tk, Nat.mul_add, Nat.pow_add]
  have : x * 4294967296 ^ i * (l2.getD k 0 * 4294967296 ^ k) = x * l2.getD k 0 * (4294967296 ^ i * 4294967296 ^ k) := by ac_rfl
  omega
theorem prod_out (l l2 ls : List Nat) (i c : Nat) (hp : i + l2.length < ls.length) (h0 : ls.getD (i + l2.length) 0 = 0) (h : val ls + c * 4294967296 ^ (i + l2.length) = val (l.take i) * val l2 + l.getD i 0 * 4294967296 ^ i * val l2) :
    val (ls.set (i + l2.length) c) = val (l.take (i + 1)) * val l2 := by
  have h1 := val_set ls (i + l2.length) c hp
  rw [h0] at h1
  rw [val_tk, Nat.add_mul]
  omega
theorem prod_lt {x y z c : Nat} (hx : x < 4294967296) (hy : y < 4294967296) (hz : z < 4294967296) (hc : c < 4294967296) : x * y + z + c < 18446744073709551616 := by
  have : x * y ≤ 4294967295 * 4294967295 := Nat.mul_le_mul (by omega) (by omega)
  omega
theorem u64_mul {a b : Nat} (h : a * b < 18446744073709551616) : IntKind.u64.wrap ((a : Int) * (b : Int)) = ((a * b : Nat) : Int) := by
  have e : (a : Int) * (b : Int) = ((a * b : Nat) : Int) := (Int.natCast_mul a b).symm
  rw [e]; exact wu64 (by omega) (by omega)
theorem u64_add {a b : Nat} (h : a + b < 18446744073709551616) : IntKind.u64.wrap ((a : Int) + (b : Int)) = ((a + b : Nat) : Int) := (wu64 (by omega) (by omega)).trans (by omega)
end Go.Gv
/- append(nil, a...) over limbs, of any number; shifts by an unsigned number. By an AI agent; over any program. -/
namespace Go.Gv
open Go.RowKit
section
variable {P : Program} {w : World}
theorem run_append_none {t ty e : TypeId} {i : TypeInfo} (ht : P.underlying t = some (.slice e)) (hi : P.info? e = some i) (ad : Option Addr) (c : Nat) :
    (Builtin.append_ #[t, t] ty #[.slice none 0 0, .slice ad 0 c]).run P w = .ok (.slice none 0 0) w := by
  cases ad <;> simp [Builtin.append_, run_underlying ht, sizeOf, typeInfo, hi, Builtin.lenOf, Builtin.firstCells, loadCells, loadCellsFrom]
end
section
variable {P : Program} {Q : Exit → Act → World → Prop} {K : Act → World → Prop} {a : Act} {o : Oper} {n : Nat} {L : List (Nat × Value)} {D : List Deferred} {E : Nat → Prop} {w0 w : World} {X Y Y2 : Hid} {M : List (Nat × Obj)}
theorem op_nilL {e : TypeId} {ad : Option Addr} {sl sc : Nat} {l : List Nat} {i0 : TypeInfo} (hF : Fr n a L D) (hS : St E w0 X w Y M) (h : Limbs (rd w Y2) ad sl sc l) (hb : sl ≤ 1000000)
    (k : ∀ ad' cap' w1, St E w0 X w1 Y M → Le (rd w Y) (rd w1 Y) → Limbs (rd w1 Y) ad' l.length cap' l → ∀ a1, Fr n a1 ((od o, .slice ad' l.length cap') :: L) D → K a1 w1)
    (hby : i0.bytes = 4 := by kernel_rfl) (hc : opk L o (od o) n = true := by kernel_rfl) (ho : o.op = .call { callee := .builtin .append, args := #[bArg o 0, bArg o 1], argTypes := #[bTy o 0, bTy o 0] } := by kernel_rfl) (hs : evL L (bArg o 0) = .slice none 0 0 := by kernel_rfl) (hx : evL L (bArg o 1) = .slice ad sl sc := by kernel_rfl)
    (ht : P.underlying (bTy o 0) = some (.slice e) := by kernel_rfl) (hi : P.info? e = some i0 := by kernel_rfl) (hz : i0.zero = some (.int .u32 0) := by kernel_rfl) (hsz : i0.size = 1 := by kernel_rfl) : o.wp P a w K Q := by
  obtain rfl := h.hlen
  have hck := hc
  simp only [opk, Bool.and_eq_true] at hck
  obtain ⟨hd, hlt⟩ := dstIs_spec hck.2
  rcases Nat.eq_zero_or_pos l.length with h0 | h0
  · have hr := run_append_none (P := P) (w := w) (ty := o.type) ht hi ad sc
    have hexec : (execOp (evL L) o).run P w = .ok (.value (.slice none 0 0)) w := by
      unfold execOp
      simp only [ho, resolve, invoke, builtin, Sem.run_bind, Sem.run_pure, Result.andThen_ok, List.map_toArray, List.map_cons, List.map_nil, hs, hx, h0, hr]
    refine zF hF hc hexec fun a1 G1 => ?_
    have hl : l = [] := List.eq_nil_of_length_eq_zero h0
    refine k none 0 w hS (Le.refl _) ?_ a1 (by rw [h0]; exact G1)
    subst hl
    exact Limbs.nil none (by omega)
  · obtain ⟨b, off, rfl, hat⟩ := h.addr h0
    have hr := run_append_nil (P := P) w (bTy o 0) o.type e i0 (.int .u32 0) ht hi hz ⟨b, off, none⟩ l.length sc (U32 l) (by rw [hsz]; simp) (fun j v hj => rd_cell (hat j v hj)) h0 (by omega) (by rw [hby]; omega)
    have hexec : (execOp (evL L) o).run P w = .ok (.value (.slice (some ⟨w.heap.size, 0, none⟩) l.length (grownCap w l.length 0 e))) (w.drew.alloc (.cells ((U32 l).toArray ++ Builtin.zeroCells (Value.int .u32 0).cells (grownCap w l.length 0 e - l.length)) e)) := by
      unfold execOp
      simp only [ho, resolve, invoke, builtin, Sem.run_bind, Sem.run_pure, Result.andThen_ok, List.map_toArray, List.map_cons, List.map_nil, hs, hx, hr]
    unfold Oper.wp
    rw [hF.exec hck.1, hexec]
    show K (a.put o.dst _) _
    rw [hd]
    have hu : Upd E0 w (w.drew.alloc (.cells ((U32 l).toArray ++ Builtin.zeroCells (Value.int .u32 0).cells (grownCap w l.length 0 e - l.length)) e)) := (Upd.drew w).trans ((Upd.alloc w.drew _).weaken fun _ _ e => e)
    have hge := grownCap_ge w l.length 0 e
    have hcm := grownCap_le_maxLen w l.length 0 e (by simp only [maxLen]; omega)
    refine k (some ⟨w.heap.size, 0, none⟩) (grownCap w l.length 0 e) _ (hS.call hu) (hu.le Y) ⟨rfl, by omega, by simp only [maxLen] at hcm; omega, h.hlt, .inr ⟨w.heap.size, 0, rfl, fun j v hj => ?_⟩⟩ _ (hF.put hlt _)
    rw [add_mk]
    refine rd_of ?_ (fun hy => Nat.lt_irrefl _ (hS.lt _ _ hy)) (frozen_of_row _ w.heap.size _ ((U32 l).toArray ++ Builtin.zeroCells (Value.int .u32 0).cells (grownCap w l.length 0 e - l.length)) e (by show (w.heap.push _)[w.heap.size]? = _; simp))
    have hjl : j < (U32 l).length := (List.getElem?_eq_some_iff.1 hj).1
    rw [cell_of_row _ w.heap.size _ ((U32 l).toArray ++ Builtin.zeroCells (Value.int .u32 0).cells (grownCap w l.length 0 e - l.length)) e (0, 0) (by show (w.heap.push _)[w.heap.size]? = _; simp)]
    simp only [Nat.zero_add]
    rw [Array.getElem?_append_left (by simpa using hjl)]
    simpa using hj
end
section
variable {P : Program} {w : World} {ρ : Operand → Value} {o : Oper}
theorem run_shrK {kd : IntKind} {t t2 : TypeId} {xa xb : Operand} {x k : Nat} (ho : o.op = .binOp .shr t xa xb t2) (hx : ρ xa = .int .u32 (x : Int)) (hk : ρ xb = .int kd (k : Int)) (h : k ≤ 32) : (execOp ρ o).run P w = .ok (.value (.int .u32 ((x / 2 ^ k : Nat) : Int))) w := by
  unfold execOp
  simp only [ho, hx, hk]
  have h1 := shift_shr_u32 (yk := kd) (x := (x : Int)) (y := (k : Int)) (by omega) (by omega)
  simp [go_sem, h1]
theorem run_shlK {kd : IntKind} {t t2 : TypeId} {xa xb : Operand} {x k : Nat} (ho : o.op = .binOp .shl t xa xb t2) (hx : ρ xa = .int .u32 (x : Int)) (hk : ρ xb = .int kd (k : Int)) (h : k ≤ 32) : (execOp ρ o).run P w = .ok (.value (.int .u32 ((x * 2 ^ k % 4294967296 : Nat) : Int))) w := by
  unfold execOp
  simp only [ho, hx, hk]
  have h1 := shift_shl_u32 (yk := kd) (x := (x : Int)) (y := (k : Int)) (by omega) (by omega)
  simp [go_sem, h1, wrap_u32]
end
end Go.Gv
/- A slice from k on; numbers cut at a limb. By an AI agent; over any program. -/
namespace Go.Gv
open Go.RowKit
/-- The address of x[k:]. -/
def adF (ad : Option Addr) (cap k : Nat) : Option Addr := if cap = k then ad else ad.map (·.add (k * 1))
theorem Limbs.drop {r : Rd} {ad : Option Addr} {len cap : Nat} {l : List Nat} (h : Limbs r ad len cap l) {k : Nat} (hk : k ≤ len) : Limbs r (adF ad cap k) (len - k) (cap - k) (l.drop k) := by
  have h1 := h.hlen
  have h2 := h.hcap
  have h3 := h.hbig
  refine ⟨by simp; omega, by omega, by omega, fun x hx => h.hlt x (List.mem_of_mem_drop hx), ?_⟩
  unfold adF
  split
  · exact .inl (List.drop_eq_nil_of_le (by omega))
  · rcases h.hat with h4 | ⟨b, off, e, ha⟩
    · exact .inl (by rw [h4]; simp)
    · refine .inr ⟨b, off + k, by rw [e]; simp [Addr.add], fun j v hj => ?_⟩
      rw [show U32 (l.drop k) = (U32 l).drop k by simp [U32], List.getElem?_drop] at hj
      have := ha (k + j) v hj
      simpa [add_mk, Nat.add_assoc] using this
section
variable {P : Program} {ρ : Operand → Value}
theorem run_sliceFrom {o : Oper} {t e : TypeId} {x lo : Operand} {ad : Option Addr} {len cap : Nat} {kd : IntKind} {k : Nat} {g : Bool} (ho : o.op = .slice t x (some lo) none none) (ht : P.underlying t = some (.slice e)) (he : ldT P e = some (g, 1))
    (hx : ρ x = .slice ad len cap) (hi' : ρ lo = .int kd (k : Int)) (h1 : k ≤ len) (w : World) :
    (execOp ρ o).run P w = .ok (.value (.slice (adF ad cap k) (len - k) (cap - k))) w := by
  unfold execOp
  simp only [ho, hx, Instr.sliceAt, Instr.slice, Instr.sliceBounds, Instr.sliceBound, asIntOf, underlying, ht, Sem.run_bind, Sem.run_pure, run_program, Result.andThen_ok, Option.map_some, Option.map_none, hi', show (0 : Int) ≤ (k : Int) by omega, show (k : Int) ≤ (len : Int) by omega, and_self, if_true, run_sizeOf he, Int.toNat_natCast]
  rfl
theorem run_shl1K {o : Oper} {w : World} {kd : IntKind} {t t2 : TypeId} {xa xb : Operand} {k : Nat} (ho : o.op = .binOp .shl t xa xb t2) (hx : ρ xa = .int .u32 1) (hk : ρ xb = .int kd (k : Int)) (h : k < 32) : (execOp ρ o).run P w = .ok (.value (.int .u32 ((2 ^ k : Nat) : Int))) w := by
  have h1 := run_shlK (P := P) (w := w) (x := 1) ho hx hk (by omega)
  have h2 : (2 : Nat) ^ k < 4294967296 := Nat.lt_of_lt_of_le (Nat.pow_lt_pow_right (by omega) h) (by decide)
  rwa [Nat.one_mul, Nat.mod_eq_of_lt h2] at h1
end
theorem one_at {w : World} {Y : Hid} {b : Nat} {x : Nat} (h : At (rd w Y) ⟨b, 0, none⟩ [.int .u32 (x : Int)]) (hx : x < 4294967296) : Limbs (rd w Y) (some ⟨b, 0, none⟩) 1 1 [x] :=
  ⟨rfl, Nat.le_refl _, by omega, by simpa using hx, .inr ⟨b, 0, rfl, fun j v hj => h j v (by simpa [U32] using hj)⟩⟩
theorem val_drop (l : List Nat) (hl : ∀ x ∈ l, x < 4294967296) (k : Nat) (hk : k ≤ l.length) : val l / 2 ^ (32 * k) = val (l.drop k) := by
  have h1 : (2 : Nat) ^ (32 * k) = 4294967296 ^ k := by rw [Nat.pow_mul]
  have h2 : val (l.take k) < 4294967296 ^ k := by
    have := val_lt (l := l.take k) fun x hx => hl x (List.mem_of_mem_take hx)
    rwa [List.length_take, Nat.min_eq_left hk] at this
  rw [h1, val_split l k, Nat.add_mul_div_left _ _ (Nat.pow_pos (by omega)), Nat.div_eq_of_lt h2, Nat.zero_add]
theorem canon_pow {l : List Nat} {k : Nat} (hc : Canon l) (h : val l < 4294967296 ^ k) : l.length ≤ k := by
  by_cases h0 : l = []
  · simp [h0]
  · have h1 := canon_ge hc h0
    have h2 := (Nat.pow_lt_pow_iff_right (by omega : 1 < 4294967296)).1 (Nat.lt_of_le_of_lt h1 h)
    omega
theorem canon_dbl {l l2 : List Nat} {x : Nat} (hc : Canon l) (h2 : ∀ x ∈ l2, x < 4294967296) (hx : x < val l2) (h : val l ≤ x + x + 1) : l.length ≤ l2.length + 1 := by
  refine canon_pow hc ?_
  have := val_lt h2
  rw [Nat.pow_succ]
  omega
/-- The first limbs are less than the divisor. -/
theorem drop_lt {l l2 : List Nat} {N : Nat} (hl : ∀ x ∈ l, x < 4294967296) (hc : Canon l2) (h0 : 0 < val l2) (hN : l.length + 1 = N + l2.length) : val (l.drop N) < val l2 := by
  have hne : l2 ≠ [] := fun e => by subst e; simp [val] at h0
  have h1 := canon_ge hc hne
  have h2 := val_lt (l := l.drop N) fun x hx => hl x (List.mem_of_mem_drop hx)
  rw [List.length_drop, show l.length - N = l2.length - 1 by omega] at h2
  omega
theorem pos_len {l : List Nat} (h : 0 < val l) : 0 < l.length := by
  cases l with
  | nil => simp [val] at h
  | cons a b => simp
theorem lo_lt {l l2 : List Nat} (hl : ∀ x ∈ l, x < 4294967296) (hc : Canon l2) (h : l.length < l2.length) : val l < val l2 := by
  refine Nat.lt_of_not_le fun e => ?_
  have := canon_len hl hc e
  omega
end Go.Gv
/- Rows of anything that a call owns, shown as slices; what a call answers in new blocks. By an AI agent; over any program. -/
namespace Go.Gv
open Go.RowKit
/-- An element as it is written in a row. -/
structure GE (α : Type) where
  x : α
  cs : List Value
section
variable {α : Type} {El : Rd → Addr → α → Prop} {size : Nat}
def GE.ok (El : Rd → Addr → α → Prop) (size : Nat) (r : Rd) (e : GE α) : Prop := e.cs.length = size ∧ ∀ r', Le r r' → ∀ b o, At r' ⟨b, o, none⟩ e.cs → El r' ⟨b, o, none⟩ e.x
theorem GE.ok.mono {r r' : Rd} {e : GE α} (h : GE.ok El size r e) (k : Le r r') : GE.ok El size r' e := ⟨h.1, fun r2 h2 => h.2 r2 (k.trans h2)⟩
def flatG : List (GE α) → List Value
  | [] => []
  | e :: l => e.cs ++ flatG l
theorem flatG_snoc (l : List (GE α)) (e : GE α) : flatG (l ++ [e]) = flatG l ++ e.cs := by
  induction l with
  | nil => simp [flatG]
  | cons x l ih => simp [flatG, ih]
theorem flatG_get : ∀ (l : List (GE α)) (i : Nat) (e : GE α), (∀ e ∈ l, e.cs.length = size) → l[i]? = some e → ∀ j v, e.cs[j]? = some v → (flatG l)[i * size + j]? = some v
  | [], i, e, _, h, _, _, _ => by simp at h
  | x :: l, 0, e, _, h, j, v, hj => by
    simp at h; subst h
    have hlt : j < x.cs.length := (List.getElem?_eq_some_iff.1 hj).1
    rw [flatG, Nat.zero_mul, Nat.zero_add, List.getElem?_append_left hlt]
    exact hj
  | x :: l, i + 1, e, hs, h, j, v, hj => by
    have ih := flatG_get l i e (fun e he => hs e (List.mem_cons_of_mem _ he)) (by simpa using h) j v hj
    have hx := hs x List.mem_cons_self
    have e1 : (i + 1) * size + j = x.cs.length + (i * size + j) := by rw [hx, Nat.add_mul, Nat.one_mul]; omega
    rw [flatG, e1, List.getElem?_append_right (by omega), Nat.add_sub_cancel_left]
    exact ih
theorem Row.slG {r : Rd} {g m cap : Nat} {cur : Array Value} {es : List (GE α)} (h : Row m cap size cur (flatG es)) (hm : m = es.length) (hat : At r ⟨g, 0, none⟩ cur.toList) (hok : ∀ e ∈ es, GE.ok El size r e) : SlR El size r (some ⟨g, 0, none⟩) m cap (es.map (·.x)) := by
  refine ⟨by simpa using hm, h.hn, (by have := h.hcap; simpa [maxLen] using this), .inr ⟨g, 0, rfl, fun i x hi => ?_⟩⟩
  rw [List.getElem?_map] at hi
  cases he : es[i]? with
  | none => rw [he] at hi; cases hi
  | some e =>
    rw [he] at hi
    obtain rfl : e.x = x := by simpa using hi
    refine (hok e (List.mem_of_getElem? he)).2 r (Le.refl _) _ _ fun j v hj => ?_
    have h1 := flatG_get es i e (fun e he => (hok e he).1) he j v hj
    rw [← h.hxs, List.getElem?_take] at h1
    split at h1
    · have := hat (i * size + j) v h1
      rw [add_mk, Nat.zero_add] at this
      rw [add_mk, Nat.zero_add]
      exact this
    · cases h1
end
section
variable {w0 w : World} {X Y : Hid} {rb A B : List (Nat × Obj)} {e : TypeId} {size m cap : Nat} {ad : Option Addr} {N : Nat}
theorem At.orN {b o : Nat} {vs : List Value} (h : At (rd w Y) ⟨b, o, none⟩ vs) (hb : N ≤ b) : At (rd w (orN Y N)) ⟨b, o, none⟩ vs := fun j v hj => by
  have h1 := h j v hj
  rw [add_mk] at *
  exact rd_of (rd_cell h1) (fun hy => hy.elim (rd_vis h1) fun hy => by simp only at hy; omega) (rd_frz h1)
/-- A row is shown, with all that is older hidden. -/
theorem St.pubRowN {xs : List Value} (hN : N ≤ w0.heap.size) (F : List (Nat × Obj) → List (Nat × Obj)) (hS : St E0 w0 X w Y (F rb)) (hM : ∀ rb, F rb = A ++ (rb ++ B)) (hrow : TRow e size rb ad m cap xs) :
    ∃ Y', St E0 w0 X w Y' (F []) ∧ Le (rd w Y) (rd w Y') ∧ ((xs = [] ∧ ad = none ∧ m = 0 ∧ cap = 0) ∨ ∃ g cur, ad = some ⟨g, 0, none⟩ ∧ Row m cap size cur xs ∧ At (rd w (orN Y' N)) ⟨g, 0, none⟩ cur.toList) := by
  rcases hrow with ⟨rfl, rfl, rfl, rfl, rfl⟩ | ⟨g, cur, rfl, rfl, hrow⟩
  · exact ⟨Y, hS, Le.refl _, .inl ⟨rfl, rfl, rfl, rfl⟩⟩
  · rw [hM] at hS
    have C2 : St E0 w0 X w Y ((g, .cells cur e (0, 0)) :: (A ++ B)) := hS.perm (by simpa using List.perm_middle.symm)
    have hge := C2.own_ge 0 rfl
    obtain ⟨h1, h2, h3⟩ := St.publish C2 hge
    exact ⟨_, by rw [hM]; simpa using h1, h2, .inr ⟨g, cur, rfl, hrow, h3.orN (by omega)⟩⟩
theorem St.pubRatsN {es : List RE} (hN : N ≤ w0.heap.size) (F : List (Nat × Obj) → List (Nat × Obj)) (hS : St E0 w0 X w Y (F rb)) (hM : ∀ rb, F rb = A ++ (rb ++ B)) (hrow : TRow e 3 rb ad m cap (flat es)) (hm : m = es.length) (hok : ∀ x ∈ es, x.ok (rd w (orN Y N))) :
    ∃ Y', St E0 w0 X w Y' (F []) ∧ Le (rd w Y) (rd w Y') ∧ Rats (rd w (orN Y' N)) ad m cap (es.map (·.x)) := by
  obtain ⟨Y', h1, h2, h3⟩ := St.pubRowN hN F hS hM hrow
  refine ⟨Y', h1, h2, ?_⟩
  rcases h3 with ⟨hx, rfl, rfl, rfl⟩ | ⟨g, cur, rfl, hr, hat⟩
  · obtain rfl : es = [] := List.eq_nil_of_length_eq_zero hm.symm
    exact ⟨rfl, Nat.le_refl _, by omega, .inl rfl⟩
  · exact hr.rats hm hat (fun x hx => (hok x hx).mono (h2.or N))
theorem St.pubIntsN {is : List Int} (hN : N ≤ w0.heap.size) (F : List (Nat × Obj) → List (Nat × Obj)) (hS : St E0 w0 X w Y (F rb)) (hM : ∀ rb, F rb = A ++ (rb ++ B)) (hrow : TRow e 1 rb ad m cap (ivals is)) (hm : m = is.length) :
    ∃ Y', St E0 w0 X w Y' (F []) ∧ Le (rd w Y) (rd w Y') ∧ Ints (rd w (orN Y' N)) ad m cap is := by
  obtain ⟨Y', h1, h2, h3⟩ := St.pubRowN hN F hS hM hrow
  refine ⟨Y', h1, h2, ?_⟩
  rcases h3 with ⟨hx, rfl, rfl, rfl⟩ | ⟨g, cur, rfl, hr, hat⟩
  · obtain rfl : is = [] := List.eq_nil_of_length_eq_zero hm.symm
    exact ⟨rfl, Nat.le_refl _, by omega, .inl rfl⟩
  · refine ⟨hm, hr.hn, (by have := hr.hcap; simpa [maxLen] using this), .inr ⟨g, 0, rfl, fun i x hi j v hj => ?_⟩⟩
    rcases j with _ | j
    · simp at hj; subst hj
      have h4 : (ivals is)[i]? = some (.int .i64 x) := by simp [ivals, hi]
      rw [← hr.hxs, List.getElem?_take] at h4
      split at h4
      · have := hat i _ h4
        simpa [add_mk] using this
      · cases h4
    · simp at hj
theorem St.pubG {α : Type} {El : Rd → Addr → α → Prop} {es : List (GE α)} (F : List (Nat × Obj) → List (Nat × Obj)) (hS : St E0 w0 X w Y (F rb)) (hM : ∀ rb, F rb = A ++ (rb ++ B)) (hrow : TRow e size rb ad m cap (flatG es)) (hm : m = es.length) (hok : ∀ x ∈ es, GE.ok El size (rd w Y) x) :
    ∃ Y', St E0 w0 X w Y' (F []) ∧ Le (rd w Y) (rd w Y') ∧ SlR El size (rd w Y') ad m cap (es.map (·.x)) := by
  obtain ⟨Y', h1, h2, h3⟩ := St.pubRow F hS hM hrow
  refine ⟨Y', h1, h2, ?_⟩
  rcases h3 with ⟨hx, rfl, rfl, rfl⟩ | ⟨g, cur, rfl, hr, hat⟩
  · obtain rfl : es = [] := List.eq_nil_of_length_eq_zero hm.symm
    exact ⟨rfl, Nat.le_refl _, by omega, .inl rfl⟩
  · exact hr.slG hm hat (fun x hx => (hok x hx).mono h2)
end
/-! ### Lists of lists of numbers -/
def RowAt (r : Rd) (a : Addr) (xs : List Raw) : Prop := ∃ a1 a2 a3, At r a [.slice a1 a2 a3] ∧ Rats r a1 a2 a3 xs
theorem RowAt.mono (r r' : Rd) (a : Addr) (x : List Raw) (k : Le r r') (h : RowAt r a x) : RowAt r' a x := by
  obtain ⟨a1, a2, a3, h1, h2⟩ := h
  exact ⟨a1, a2, a3, h1.mono k, h2.mono k⟩
def RowsR := SlR RowAt 1
theorem RowsR.mono {r r' : Rd} {ad : Option Addr} {len cap : Nat} {xs : List (List Raw)} (h : RowsR r ad len cap xs) (k : Le r r') : RowsR r' ad len cap xs := SlR.mono RowAt.mono h k
theorem RowsR.at {r : Rd} {b off len cap : Nat} {xs : List (List Raw)} (h : RowsR r (some ⟨b, off, none⟩) len cap xs) {k : Nat} (hk : k < len) : ∃ x a1 a2 a3, xs[k]? = some x ∧ At r ⟨b, off + k, none⟩ [.slice a1 a2 a3] ∧ Rats r a1 a2 a3 x := by
  obtain ⟨x, h1, a1, a2, a3, h2, h3⟩ := SlR.at h hk
  exact ⟨x, a1, a2, a3, h1, by simpa using h2, h3⟩
/-- All scores. -/
def allV (d : Raw) (v : List Raw) : List (List Raw) → List (List Actn) → List (List Raw) × Int
  | acc, [] => (acc, 0)
  | acc, s :: ss => if (scoresV d v s).2 = 0 then allV d v (acc ++ [(scoresV d v s).1]) ss else ([], (scoresV d v s).2)
section
variable {d : Raw} {v : List Raw} {acc : List (List Raw)} {ss : List (List Actn)} {s : List Actn} {k : Nat}
theorem allV_step (hx : ss[k]? = some s) (h : (scoresV d v s).2 = 0) : allV d v acc (ss.drop k) = allV d v (acc ++ [(scoresV d v s).1]) (ss.drop (k + 1)) := by rw [dropC hx, allV, if_pos h]
theorem allV_stop (hx : ss[k]? = some s) (h : (scoresV d v s).2 ≠ 0) : allV d v acc (ss.drop k) = ([], (scoresV d v s).2) := by rw [dropC hx, allV, if_neg h]
theorem allV_end (h : ss.length ≤ k) : allV d v acc (ss.drop k) = (acc, 0) := by rw [List.drop_eq_nil_of_le h, allV]
theorem allV_back : ∀ {ss : List (List Actn)} {acc : List (List Raw)} {xs : List Raw} {as : List Int}, (allV d v acc ss).2 = (backGo d v xs as ss).2.2 ∧ ((allV d v acc ss).2 = 0 → (allV d v acc ss).1 = acc ++ ss.map (fun s => (scoresV d v s).1) ∧ ∀ s ∈ ss, (scoresV d v s).2 = 0)
  | [], acc, xs, as => by simp [allV, backGo]
  | s :: ss, acc, xs, as => by
    rw [allV, backGo]
    by_cases h : (scoresV d v s).2 = 0
    · rw [if_pos h, if_pos h]
      obtain ⟨h1, h2⟩ := allV_back (ss := ss) (acc := acc ++ [(scoresV d v s).1]) (xs := xs ++ [bestR d v s]) (as := as ++ [(bestI d v s : Int)])
      refine ⟨h1, fun h0 => ?_⟩
      obtain ⟨h3, h4⟩ := h2 h0
      refine ⟨by rw [h3]; simp, fun t ht => ?_⟩
      rcases List.mem_cons.1 ht with rfl | ht
      · exact h
      · exact h4 t ht
    · rw [if_neg h, if_neg h]
      exact ⟨rfl, fun h0 => absurd h0 h⟩
end
end Go.Gv
/- Arguments that are not too long to be copied. By an AI agent; no program in sight. -/
namespace Go.Gv
open Go.RowKit
def Raw.sh (x : Raw) : Prop := x.ln.length * 4 ≤ 140737488351232 ∧ x.ld.length * 4 ≤ 140737488351232
def Out.sh (o : Out) : Prop := o.p.sh
def Actn.sh (a : Actn) : Prop := a.cost.sh ∧ a.next.length * 64 ≤ 140737488351232 ∧ ∀ o ∈ a.next, o.sh
def stSh (s : List Actn) : Prop := s.length * 80 ≤ 140737488351232 ∧ ∀ a ∈ s, a.sh
def Mdp.sh (m : Mdp) : Prop := m.disc.sh ∧ m.states.length * 24 ≤ 140737488351232 ∧ ∀ s ∈ m.states, stSh s
theorem SlR.rats {r : Rd} {ad : Option Addr} {len cap : Nat} {xs : List Raw} (h : SlR RatAt 3 r ad len cap xs) : Rats r ad len cap xs := ⟨h.hlen, h.hcap, h.hbig, h.hat⟩
theorem StateAt.cell {r : Rd} {b off len cap : Nat} {xs : List (List Actn)} (h : StatesR r (some ⟨b, off, none⟩) len cap xs) {k : Nat} (hk : k < len) : ∃ x a1 a2 a3, xs[k]? = some x ∧ At r ⟨b, off + k, none⟩ [.slice a1 a2 a3] ∧ ActsR r a1 a2 a3 x := by
  obtain ⟨x, a1, a2, a3, h1, h2, h3⟩ := h.at hk
  exact ⟨x, a1, a2, a3, h1, by simpa using h2, h3⟩
end Go.Gv
/- Results that are written over: only whole numbers, only in new blocks. By an AI agent; over any program. -/
namespace Go.Gv
open Go.RowKit
def nonInt : Value → Bool
  | .int _ _ => false
  | _ => true
/-- From a to w only whole numbers in blocks from N on have become others, and blocks are new. -/
structure Ov (N : Nat) (a w : World) : Prop where
  os : w.os = a.os
  tape : w.tape = a.tape
  output : w.output = a.output
  size : a.heap.size ≤ w.heap.size
  block : ∀ k, k < N → w.heap[k]? = a.heap[k]?
  keep : ∀ p v, a.cell? p = some v → nonInt v = true → w.cell? p = some v
  ints : ∀ p kd x, a.cell? p = some (.int kd x) → ∃ y, w.cell? p = some (.int kd y)
  frz : ∀ p v, a.cell? p = some v → w.frozen? p = a.frozen? p
section
variable {N : Nat} {a b c w : World}
theorem Ov.refl (N : Nat) (a : World) : Ov N a a := ⟨rfl, rfl, rfl, Nat.le_refl _, fun _ _ => rfl, fun _ _ h _ => h, fun _ _ x h => ⟨x, h⟩, fun _ _ _ => rfl⟩
theorem Ov.some (h : Ov N a b) {p : Addr} {v : Value} (hp : a.cell? p = some v) : ∃ u, b.cell? p = some u := by
  cases v with
  | int kd x => obtain ⟨y, hy⟩ := h.ints p kd x hp; exact ⟨_, hy⟩
  | _ => exact ⟨_, h.keep p _ hp rfl⟩
theorem Ov.trans (h : Ov N a b) (k : Ov N b c) : Ov N a c :=
  ⟨k.os.trans h.os, k.tape.trans h.tape, k.output.trans h.output, Nat.le_trans h.size k.size, fun i hi => (k.block i hi).trans (h.block i hi), fun p v hp hv => k.keep p v (h.keep p v hp hv) hv,
    fun p kd x hp => by obtain ⟨y, hy⟩ := h.ints p kd x hp; exact k.ints p kd y hy, fun p v hp => by obtain ⟨u, hu⟩ := h.some hp; exact (k.frz p u hu).trans (h.frz p v hp)⟩
theorem Ov.upd (h : Upd E0 a b) (hN : N ≤ a.heap.size) : Ov N a b := by
  have hb : ∀ p v, a.cell? p = Option.some v → b.heap[p.block]? = a.heap[p.block]? := fun p v hp => h.block _ (World.block_lt_of_cell? a p hp) (fun e => e)
  exact ⟨h.os, h.tape, h.output, h.size, fun k hk => h.block k (by omega) (fun e => e), fun p v hp _ => h.cell hp, fun p kd x hp => ⟨x, h.cell hp⟩, fun p v hp => World.frozen?_of_block (hb p v hp)⟩
theorem Ov.cells (h : Ov N a b) {p : Addr} {vs : List Value} (k : CellsAt a p vs) (hv : vs.all nonInt = true) : CellsAt b p vs := fun j v hj => h.keep _ _ (k j v hj) (List.all_eq_true.1 hv v (List.mem_of_getElem? hj))
/-- A run of whole numbers in blocks from N on. -/
def UC (kd : IntKind) (w : World) (N : Nat) (ad : Option Addr) (len : Nat) : Prop := ∀ j, j < len → ∃ blk off x, ad = Option.some ⟨blk, off, none⟩ ∧ N ≤ blk ∧ w.cell? ⟨blk, off + j, none⟩ = Option.some (.int kd x) ∧ w.frozen? ⟨blk, off + j, none⟩ = false
theorem UC.up {kd : IntKind} {ad : Option Addr} {len : Nat} (h : UC kd a N ad len) (k : Ov N a b) : UC kd b N ad len := fun j hj => by
  obtain ⟨blk, off, x, e, h1, h2, h3⟩ := h j hj
  obtain ⟨y, hy⟩ := k.ints _ _ _ h2
  exact ⟨blk, off, y, e, h1, hy, (k.frz _ _ h2).trans h3⟩
theorem Limbs.uc {ad : Option Addr} {len cap : Nat} {l : List Nat} (h : Limbs (rd w (fun k _ => k < N)) ad len cap l) : UC .u32 w N ad len := fun j hj => by
  have hl := h.hlen
  obtain ⟨blk, off, rfl, hat⟩ := h.addr (by omega)
  have h1 := hat j _ (U32_get (by omega))
  rw [add_mk] at h1
  exact ⟨blk, off, _, rfl, Nat.not_lt.1 (rd_vis h1), rd_cell h1, rd_frz h1⟩
theorem Ints.uc {ad : Option Addr} {len cap : Nat} {l : List Int} (h : Ints (rd w (fun k _ => k < N)) ad len cap l) : UC .i64 w N ad len := fun j hj => by
  obtain ⟨blk, off, x, rfl, _, hat⟩ := SlR.cell h hj
  have h1 := hat 0 _ rfl
  rw [add_mk, Nat.mul_one, Nat.add_zero] at h1
  exact ⟨blk, off, _, rfl, Nat.not_lt.1 (rd_vis h1), rd_cell h1, rd_frz h1⟩
/-- A run of rational numbers whose limbs lie in blocks from N on. -/
def RC (w : World) (N : Nat) (ad : Option Addr) (len : Nat) : Prop := ∀ j, j < len → ∃ blk off s a1 a2 a3 a4 a5 a6, ad = Option.some ⟨blk, off, none⟩ ∧ CellsAt w ⟨blk, off + j * 3, none⟩ [.bool s, .slice a1 a2 a3, .slice a4 a5 a6] ∧ UC .u32 w N a1 a2 ∧ UC .u32 w N a4 a5 ∧ a2 ≤ 9223372036854775807 ∧ a5 ≤ 9223372036854775807
theorem RC.up {ad : Option Addr} {len : Nat} (h : RC a N ad len) (k : Ov N a b) : RC b N ad len := fun j hj => by
  obtain ⟨blk, off, s, a1, a2, a3, a4, a5, a6, e, h1, h2, h3, h4⟩ := h j hj
  exact ⟨blk, off, s, a1, a2, a3, a4, a5, a6, e, k.cells h1 rfl, h2.up k, h3.up k, h4⟩
theorem Rats.rc {ad : Option Addr} {len cap : Nat} {l : List Raw} (h : Rats (rd w (fun k _ => k < N)) ad len cap l) : RC w N ad len := fun j hj => by
  obtain ⟨blk, off, x, a1, a2, a3, a4, a5, a6, e, _, h1, h2, h3⟩ := h.cell hj
  exact ⟨blk, off, _, a1, a2, a3, a4, a5, a6, e, h1.cells, h2.uc, h3.uc, Nat.le_trans h2.hcap h2.hbig, Nat.le_trans h3.hcap h3.hbig⟩
theorem Ov.set {kd : IntKind} {blk o : Nat} {x y : Int} (h : w.cell? ⟨blk, o, none⟩ = Option.some (.int kd x)) (hN : N ≤ blk) : Ov N w (w.setCell ⟨blk, o, none⟩ (.int kd y)) := by
  refine ⟨rfl, rfl, rfl, by simp, fun k hk => heap_setCell_other w _ k _ (by simp only; omega), fun p v hp hv => ?_, fun p kd' x' hp => ?_, fun p v _ => by simp⟩
  · rw [World.cell?_setCell_other]
    · exact hp
    · rintro rfl; rw [h] at hp; cases hp; cases hv
  · by_cases e : (⟨blk, o, none⟩ : Addr) = p
    · subst e; rw [h] at hp; cases hp; exact ⟨y, World.cell?_setCell_same _ _ _ h⟩
    · exact ⟨x', by rw [World.cell?_setCell_other _ _ _ _ e]; exact hp⟩
/-- What was read ahead of all that was written over is read behind it. -/
theorem Ov.le {Y : Hid} {w0 : World} (h0 : Upd E0 w0 a) (h : Ov w0.heap.size a b) : Le (rd w0 Y) (rd b Y) := fun p v e => by
  have hlt := World.block_lt_of_cell? w0 p (rd_cell e)
  exact rd_same e ((h.block p.block hlt).trans (h0.block p.block hlt (fun e => e))) (rd_vis e)
theorem Ov.upd0 {w0 : World} (h0 : Upd E0 w0 a) (h : Ov N a b) (hN : w0.heap.size ≤ N) : Upd E0 w0 b :=
  ⟨h.os.trans h0.os, h.tape.trans h0.tape, h.output.trans h0.output, Nat.le_trans h0.size h.size, fun k hk _ => (h.block k (by omega)).trans (h0.block k hk (fun e => e))⟩
theorem St.own_lt {E : Nat → Prop} {w0 : World} {X Y : Hid} {M : List (Nat × Obj)} (h : St E w0 X w Y M) (i : Nat) {b : Nat} {o : Obj} (hi : M[i]? = Option.some (b, o)) : b < w.heap.size := (Array.getElem?_eq_some_iff.1 (h.get i hi)).1
/-- The results have been written over: all that was there ahead of the round is as it was. -/
theorem St.over {w0 wr wc we : World} {X Y Yc : Hid} {M : List (Nat × Obj)} (hr : St E0 w0 X wr Y M) (hc : St E0 w0 X wc Yc M) (hle : Le (rd wr Y) (rd wc Yc)) (hs : wr.heap.size ≤ wc.heap.size) (hO : Ov wr.heap.size wc we) : St E0 w0 X we Y M ∧ Le (rd wr Y) (rd we Y) := by
  refine ⟨⟨hO.upd0 hc.upd hr.upd.size, fun k o hy => ?_, hr.hid, fun p hp => ?_, hr.nd, hr.ltX⟩, fun p v e => ?_⟩
  · exact Nat.lt_of_lt_of_le (hr.lt k o hy) (Nat.le_trans hs hO.size)
  · obtain ⟨h1, h2, h3⟩ := hr.own p hp
    obtain ⟨g1, _, _⟩ := hc.own p hp
    have hlt := (Array.getElem?_eq_some_iff.1 h1).1
    exact ⟨(hO.block p.1 hlt).trans g1, h2, h3⟩
  · have hlt := World.block_lt_of_cell? wr p (rd_cell e)
    exact rd_same (hle p v e) (hO.block p.block hlt) (rd_vis e)
end
attribute [local semireducible] Go
section
variable {r : Option Nat} {m : Nat} {P : Program} {Q : Exit → Act → World → Prop} {n : Nat} {D : List Deferred} {w : World} {c : Cf}
/-- A store of one cell, wherever it lies. -/
theorem zst {blk o : Nat} {x y : Value} (hx : w.cell? ⟨blk, o, none⟩ = some x) (hf : w.frozen? ⟨blk, o, none⟩ = false) (k : Go r m P Q n D (w.setCell ⟨blk, o, none⟩ y) (n0 c))
    (hc : isst n c = true := by kernel_rfl) (ho : (cop c).op = .store (stT (cop c)) (stA (cop c)) (stV (cop c)) := by kernel_rfl) (ha : evL c.L (stA (cop c)) = .pointer (some ⟨blk, o, none⟩) := by kernel_rfl) (hv : evL c.L (stV (cop c)) = y := by kernel_rfl)
    (ht : ldT P (stT (cop c)) = some (ldG' P (stT (cop c)), 1) := by kernel_rfl) (hy : y.cells.toList = [y] := by kernel_rfl) (h1 : y.oneCell' = true := by kernel_rfl) : Go r m P Q n D w c := by
  simp only [isst, Bool.and_eq_true] at hc
  have hc1 := hc.1
  simp only [isop, Bool.and_eq_true] at hc1
  have hsz : y.cells.size = 1 := by rw [← Array.length_toList, hy]; rfl
  refine z_op hc.1 fun a hF => ?_
  have hd : (cop c).dst = none := by have := hc.2; cases h : (cop c).dst <;> simp_all
  have hr : (storeCells ⟨blk, o, none⟩ y.cells.toList 0).run P w = .ok () (w.setCell ⟨blk, o, none⟩ y) := by
    rw [hy]
    unfold storeCells
    rw [add_zero, Sem.run_bind, run_store P w _ y .plain h1]
    simp only [hx, hf]
    rfl
  unfold Oper.wp
  rw [hF.exec hc1.2.2.2]
  unfold execOp
  simp only [ho, ha, hv, Instr.storeAt, Instr.sureAddr, storeVar, Sem.run_bind, Sem.run_pure, Result.andThen_ok, run_sizeOf ht, hsz, ne_eq, not_true_eq_false, if_false, hr]
  show wpListIn (FF r) m P (cops c) (QQ r m P Q c.k) (crest c) (a.put (cop c).dst undef) _
  rw [hd]
  exact k a hF
/-- A new block, behind all others. -/
theorem znS {E : Nat → Prop} {w0 : World} {X Y : Hid} {M : List (Nat × Obj)} (vf : Nat → Value) (ob : Obj) (hS : St E w0 X w Y M) (k : ∀ b w1 Y1, St E w0 X w1 Y1 ((b, ob) :: M) → Le (rd w Y) (rd w1 Y1) → Upd E0 w w1 → w.heap.size ≤ b → Go r m P Q n D w1 (nv c (vf b)))
    (hrun : ∀ w, (execOp (evL c.L) (cop c)).run P w = .ok (.value (vf w.heap.size)) (w.alloc ob) := by intro w; kernel_rfl) (hc : isv n c = true := by kernel_rfl) : Go r m P Q n D w c :=
  z_op (isv_spec hc).1 fun a hF => by
    have hk := (isv_spec hc).2
    simp only [opk, Bool.and_eq_true] at hk
    obtain ⟨hd, hlt⟩ := dstIs_spec hk.2
    unfold Oper.wp
    rw [hF.exec hk.1, hrun w]
    show wpListIn (FF r) m P (cops c) (QQ r m P Q c.k) (crest c) (a.put (cop c).dst (vf w.heap.size)) _
    rw [hd]
    exact (nv_eq c _ ▸ k w.heap.size _ _ (hS.alloc ob) (Le.hide_new ob) (Upd.alloc w ob) (Nat.le_refl _) : Go r m P Q n D _ (nv0 c _)) _ (hF.put hlt _)
/-- A call of which the whole is told by its contract. -/
theorem zcF {f : FuncId} {vs : Array Value} {Φ : World → Value → Prop} (hcon : Calls P f vs w (fun e w' => ∃ v, e = .returned v ∧ Φ w' v)) (k : ∀ v w1, Φ w1 v → Go r m P Q n D w1 (nv c v))
    (hv : clV c = some (f, vs) := by kernel_rfl) (hc : isv n c = true := by kernel_rfl) (ho : (cop c).op = .call { callee := .value (clF (cop c)), args := clA (cop c), argTypes := clT (cop c) } := by kernel_rfl)
    (hcall : ∀ w, (callFunc f vs).run P w = .ok (.enter f vs) w := by intro w; kernel_rfl) : Go r m P Q n D w c := by
  obtain ⟨cap, hf, ha⟩ := clV_spec hv
  exact z_op (isv_spec hc).1 fun _ hF => op_callF hF (isv_spec hc).2 ho hf ha hcall hcon fun v w1 h1 a1 G1 => (nv_eq c v ▸ k v w1 h1 : Go r m P Q n D w1 (nv0 c v)) a1 G1
end
end Go.Gv
/- The reference's distance, and the states that it reaches. By an AI agent; no program in sight. -/
namespace Go.Gv
open Go.RowKit
/-! ### Distance -/
def far (m x : Raw) : Raw := if greater x m = true then x else m
def distM : Raw → List Raw → List Raw → Raw × Int
  | r, x :: xs, y :: ys => if opE x y (x.rat - y.rat) = 0 then distM (far r (distR x y)) xs ys else (.zero, opE x y (x.rat - y.rat))
  | r, _, _ => (r, 0)
section
variable {r x y : Raw} {xs ys : List Raw} {k : Nat}
theorem distM_step (hx : xs[k]? = some x) (hy : ys[k]? = some y) (h : opE x y (x.rat - y.rat) = 0) : distM r (xs.drop k) (ys.drop k) = distM (far r (distR x y)) (xs.drop (k + 1)) (ys.drop (k + 1)) := by
  rw [dropC hx, dropC hy, distM, if_pos h]
theorem distM_stop (hx : xs[k]? = some x) (hy : ys[k]? = some y) (h : opE x y (x.rat - y.rat) ≠ 0) : distM r (xs.drop k) (ys.drop k) = (.zero, opE x y (x.rat - y.rat)) := by
  rw [dropC hx, dropC hy, distM, if_neg h]
theorem distM_end (h : xs.length ≤ k) : distM r (xs.drop k) (ys.drop k) = (r, 0) := by
  rw [List.drop_eq_nil_of_le h]; simp [distM]
theorem cmp_swap (hx : x.chk = 0) (hy : y.chk = 0) : 0 < cmpR x y ↔ greater x y = true := by
  unfold greater
  rw [decide_eq_true_iff, cmp_lt hy hx]
  have := cmp_le hx hy
  constructor
  · intro h; have h1 : ¬ x.rat ≤ y.rat := fun e => by have := this.2 e; omega
    exact Rat.not_le.1 h1
  · intro h; have h1 : ¬ x.rat ≤ y.rat := Rat.not_le.2 h
    have h2 : ¬ cmpR x y ≤ 0 := fun e => h1 (this.1 e)
    omega
end
theorem leastL_val {less : Raw → Raw → Bool} {D : List Raw} : ∀ (l : List Raw) (b i : Nat), D.drop i = l → D.getD (leastL less D b i l) .zero = l.foldl (fun m x => if less x m = true then x else m) (D.getD b .zero)
  | [], b, i, _ => rfl
  | x :: l, b, i, h => by
    have hx : D[i]? = some x := by rw [← List.head?_drop, h]; rfl
    have hl : D.drop (i + 1) = l := by rw [← List.tail_drop, h]; rfl
    rw [leastL, leastL_val l _ (i + 1) hl, List.foldl_cons]
    congr 1
    split
    · rw [List.getD_eq_getElem?_getD, hx]; rfl
    · rfl
theorem distM_go : ∀ {xs ys acc : List Raw} {r : Raw}, (distM r xs ys).2 = (distGo acc xs ys).2 ∧ ((distM r xs ys).2 = 0 → (distM r xs ys).1 = (List.zipWith distR xs ys).foldl far r) ∧ ((distM r xs ys).2 ≠ 0 → (distM r xs ys).1 = .zero)
  | [], ys, acc, r => by cases ys <;> simp [distM, distGo]
  | x :: xs, [], acc, r => by simp [distM, distGo]
  | x :: xs, y :: ys, acc, r => by
    rw [distM, distGo]
    by_cases h : opE x y (x.rat - y.rat) = 0
    · rw [if_pos h, if_pos h, List.zipWith_cons_cons, List.foldl_cons]
      exact distM_go
    · rw [if_neg h, if_neg h]
      exact ⟨rfl, fun h0 => absurd h0 h, fun _ => rfl⟩
theorem distM_eq {xs ys : List Raw} (h : xs.length = ys.length) : distV xs ys = distM .zero xs ys := by
  unfold distV
  rw [if_pos h]
  obtain ⟨h1, h2, h3⟩ := distM_go (xs := xs) (ys := ys) (acc := [.zero]) (r := .zero)
  split
  · rename_i h0
    refine Prod.ext ?_ (by rw [h1]; exact h0.symm)
    rw [h2 (h1.trans h0), (distGo_ok h0).1]
    show (([Raw.zero] ++ List.zipWith distR xs ys).getD (leastV greater ([Raw.zero] ++ List.zipWith distR xs ys)) Raw.zero) = _
    unfold leastV
    rw [leastL_val (D := [Raw.zero] ++ List.zipWith distR xs ys) ([Raw.zero] ++ List.zipWith distR xs ys) 0 0 rfl]
    show List.foldl _ Raw.zero (.zero :: List.zipWith distR xs ys) = _
    rw [List.foldl_cons]
    show List.foldl far (if greater Raw.zero Raw.zero = true then Raw.zero else Raw.zero) (List.zipWith distR xs ys) = _
    rw [ite_self]
  · rename_i h0
    have h4 : (distM .zero xs ys).2 ≠ 0 := by rw [h1]; exact h0
    exact Prod.ext (h3 h4).symm h1.symm
/-! ### Reach -/
def inB (S : List Bool) (i : Nat) : Prop := S.getD i false = true
/-- In the middle of a round over the states, from S0 on: those below t are done. -/
structure Rt (m : Mdp) (S0 S : List Bool) (t : Nat) : Prop where
  len : S.length = m.states.length
  up : ∀ i, inB S0 i → inB S i
  done : ∀ u, u < t → inB S0 u → ∀ a ∈ m.states.getD u [], ∀ o ∈ a.next, inB S o.to.toNat
  min : ∀ C : Int → Prop, Closed m C → (∀ i : Nat, inB S0 i → C i) → ∀ i : Nat, inB S i → C i
/-- After some rounds. -/
structure Rr (m : Mdp) (s : Int) (S : List Bool) (k : Nat) : Prop where
  len : S.length = m.states.length
  self : inB S s.toNat
  min : ∀ C : Int → Prop, Closed m C → C s → ∀ i : Nat, inB S i → C i
  fin : (∀ t, inB S t → ∀ a ∈ m.states.getD t [], ∀ o ∈ a.next, inB S o.to.toNat) ∨ unseen S + k + 1 ≤ m.states.length
theorem inB_lt {S : List Bool} {i : Nat} (h : inB S i) : i < S.length := getD_lt h
theorem unseen_lt : ∀ {l l' : List Bool} {i : Nat}, l.length = l'.length → (∀ i : Nat, inB l i → inB l' i) → inB l' i → ¬ inB l i → unseen l' < unseen l
  | [], [], i, _, _, h, _ => by simp [inB] at h
  | [], _ :: _, _, h, _, _, _ => by simp at h
  | _ :: _, [], _, h, _, _, _ => by simp at h
  | b :: l, b' :: l', 0, hl, hu, h1, h2 => by
    simp only [inB, List.getD_cons_zero] at h1 h2
    have := unseen_mono (l := l) (l' := l') (by simpa using hl) (fun i hx => by simpa [inB] using hu (i + 1) (by simpa [inB] using hx))
    subst h1
    cases b
    · simp only [unseen]; simp; omega
    · exact absurd rfl h2
  | b :: l, b' :: l', i + 1, hl, hu, h1, h2 => by
    have ih := unseen_lt (l := l) (l' := l') (i := i) (by simpa using hl) (fun i hx => by simpa [inB] using hu (i + 1) (by simpa [inB] using hx)) (by simpa [inB] using h1) (by simpa [inB] using h2)
    have h0 := hu 0
    simp only [inB, List.getD_cons_zero] at h0
    simp only [unseen]
    cases b
    · cases b' <;> simp <;> omega
    · rw [h0 rfl]; simp; omega
section
variable {m : Mdp} {S0 S : List Bool} {s : Int} {t k : Nat}
theorem Rt.start (h : S.length = m.states.length) : Rt m S S 0 := ⟨h, fun _ h => h, fun _ h => absurd h (Nat.not_lt_zero _), fun _ _ h => h⟩
/-- One more is seen. -/
theorem Rt.set {x : Actn} {o : Out} (h : Rt m S0 S t) (ht : t < m.states.length) (hs : inB S t) (hx : x ∈ m.states.getD t []) (ho : o ∈ x.next) (h0 : 0 ≤ o.to ∧ o.to < m.states.length) : Rt m S0 (S.set o.to.toNat true) t := by
  have hk : o.to.toNat < S.length := by rw [h.len]; omega
  have hset : ∀ i, inB (S.set o.to.toNat true) i ↔ inB S i ∨ i = o.to.toNat := fun i => set_getD hk
  refine ⟨by rw [List.length_set]; exact h.len, fun i hi => (hset i).2 (.inl (h.up i hi)), fun u hu hi a ha o' ho' => (hset _).2 (.inl (h.done u hu hi a ha o' ho')), fun C hC hI i hi => ?_⟩
  rcases (hset i).1 hi with h1 | h1
  · exact h.min C hC hI i h1
  · subst h1
    have hct : C (t : Int) := h.min C hC hI t hs
    have := hC t (by omega) (by omega) hct x (by simpa using hx) o ho
    rwa [Int.toNat_of_nonneg h0.1]
theorem inB_set {i j : Nat} (h : inB S i) : inB (S.set j true) i := by
  have hlt := inB_lt h
  unfold inB at *
  rw [List.getD_eq_getElem?_getD, List.getElem?_set]
  split
  · split
    · rfl
    · rename_i h1 h2; subst h1; exact absurd hlt h2
  · rw [← List.getD_eq_getElem?_getD]; exact h
theorem inB_self {j : Nat} (h : j < S.length) : inB (S.set j true) j := (set_getD h).2 (.inr rfl)
theorem Rt.next (h : Rt m S0 S t) (hd : inB S0 t → ∀ a ∈ m.states.getD t [], ∀ o ∈ a.next, inB S o.to.toNat) : Rt m S0 S (t + 1) :=
  ⟨h.len, h.up, fun u hu hi => by
    rcases Nat.lt_or_ge u t with h1 | h1
    · exact h.done u h1 hi
    · obtain rfl : u = t := by omega
      exact hd hi, h.min⟩
theorem Rr.start (h0 : 0 ≤ s) (h1 : s < m.states.length) : Rr m s ((List.replicate m.states.length false).set s.toNat true) 0 := by
  have hk : s.toNat < (List.replicate m.states.length false).length := by simp; omega
  have hrep : ∀ i : Nat, ¬ inB (List.replicate m.states.length false) i := fun i => by
    unfold inB
    rw [List.getD_eq_getElem?_getD, List.getElem?_replicate]; split <;> simp
  have hset : ∀ i, inB ((List.replicate m.states.length false).set s.toNat true) i ↔ inB (List.replicate m.states.length false) i ∨ i = s.toNat := fun i => set_getD hk
  have hu : unseen (List.replicate m.states.length false) ≤ m.states.length := by
    have : ∀ n, unseen (List.replicate n false) ≤ n := by
      intro n; induction n with
      | zero => exact Nat.le_refl _
      | succ n ih => rw [List.replicate_succ, unseen]; simp; omega
    exact this _
  have hlt := unseen_set hk (by have := hrep s.toNat; unfold inB at this; simpa using this)
  refine ⟨by simp, inB_self hk, fun C _ hs i hi => ?_, .inr (by omega)⟩
  rcases (hset i).1 hi with h2 | h2
  · exact absurd h2 (hrep i)
  · subst h2; rwa [Int.toNat_of_nonneg h0]
/-- The end of a round. -/
theorem Rr.round (h : Rr m s S0 k) (hto : ∀ t, t < m.states.length → ∀ a ∈ m.states.getD t [], ∀ o ∈ a.next, 0 ≤ o.to ∧ o.to < m.states.length) (h0 : 0 ≤ s) (hr : Rt m S0 S m.states.length) : Rr m s S (k + 1) := by
  have hmin : ∀ C : Int → Prop, Closed m C → C s → ∀ i : Nat, inB S i → C i := fun C hC hs => hr.min C hC (h.min C hC hs)
  refine ⟨hr.len, hr.up _ h.self, hmin, ?_⟩
  by_cases hsame : ∀ i, inB S i → inB S0 i
  · exact .inl fun t ht a ha o ho => hr.done t (by rw [← hr.len]; exact inB_lt ht) (hsame t ht) a ha o ho
  · obtain ⟨i, hi⟩ := Classical.not_forall.1 hsame
    obtain ⟨h1, h2⟩ := Classical.not_imp.1 hi
    rcases h.fin with hc | hc
    · exfalso
      refine h2 ?_
      have hC : Closed m (fun x => 0 ≤ x ∧ inB S0 x.toNat) := fun t ht0 ht1 ht a ha o ho => by
        refine ⟨(hto t.toNat (by omega) a ha o ho).1, hc t.toNat ht.2 a ha o ho⟩
      have := hmin _ hC ⟨h0, h.self⟩ i h1
      simpa using this.2
    · have := unseen_lt (l := S0) (l' := S) (by rw [h.len, hr.len]) hr.up h1 h2
      exact .inr (by omega)
/-- The states seen below k. -/
def outL (S : List Bool) (k : Nat) : List Int := ((List.range k).filter fun i => S.getD i false).map fun (i : Nat) => (i : Int)
theorem outL_step (h : S.getD k false = true) : outL S (k + 1) = outL S k ++ [(k : Int)] := by
  unfold outL
  rw [List.range_succ, List.filter_append, List.map_append]
  simp only [List.filter_cons, List.filter_nil, h, if_true, List.map_cons, List.map_nil]
theorem outL_skip (h : ¬ S.getD k false = true) : outL S (k + 1) = outL S k := by
  unfold outL
  rw [List.range_succ, List.filter_append, List.map_append]
  simp only [List.filter_cons, List.filter_nil, h, List.map_nil, List.append_nil]
  simp
theorem outL_mem {i : Int} : i ∈ outL S k ↔ 0 ≤ i ∧ i < k ∧ inB S i.toNat := by
  unfold outL
  rw [List.mem_map]
  constructor
  · rintro ⟨j, hj, rfl⟩
    rw [List.mem_filter, List.mem_range] at hj
    exact ⟨by omega, by omega, by simpa [inB] using hj.2⟩
  · rintro ⟨h0, h1, h2⟩
    refine ⟨i.toNat, ?_, Int.toNat_of_nonneg h0⟩
    rw [List.mem_filter, List.mem_range]
    exact ⟨by omega, h2⟩
theorem Rr.reached (h : Rr m s S m.states.length) (hto : ∀ t, t < m.states.length → ∀ a ∈ m.states.getD t [], ∀ o ∈ a.next, 0 ≤ o.to ∧ o.to < m.states.length) (h0 : 0 ≤ s) (h1 : s < m.states.length) : Reached m s (outL S m.states.length) := by
  have hc := h.fin.resolve_right (by omega)
  refine ⟨?_, outL_mem.2 ⟨h0, h1, h.self⟩, fun t ht => ⟨(outL_mem.1 ht).1, (outL_mem.1 ht).2.1⟩, fun t ht a ha o ho => ?_, fun C hC hs t ht => ?_⟩
  · have h9 : ((List.range m.states.length).filter fun i => S.getD i false).Pairwise (fun a b : Nat => a < b) := List.Pairwise.filter _ List.pairwise_lt_range
    unfold outL
    exact List.pairwise_map.2 (h9.imp fun h => Int.ofNat_lt.2 h)
  · obtain ⟨g1, g2, g3⟩ := outL_mem.1 ht
    obtain ⟨k1, k2⟩ := hto t.toNat (by omega) a ha o ho
    exact outL_mem.2 ⟨k1, k2, hc t.toNat g3 a ha o ho⟩
  · obtain ⟨g1, g2, g3⟩ := outL_mem.1 ht
    have := h.min C hC hs t.toNat g3
    rwa [Int.toNat_of_nonneg g1] at this
end
theorem sorted_eq : ∀ {l l' : List Int}, l.Pairwise (· < ·) → l'.Pairwise (· < ·) → (∀ t, t ∈ l ↔ t ∈ l') → l = l'
  | [], [], _, _, _ => rfl
  | [], x :: l', _, _, h => by have := (h x).2 (by simp); simp at this
  | x :: l, [], _, _, h => by have := (h x).1 (by simp); simp at this
  | x :: l, y :: l', h1, h2, h => by
    rw [List.pairwise_cons] at h1 h2
    have e : x = y := by
      rcases List.mem_cons.1 ((h x).1 (by simp)) with e | e
      · exact e
      · rcases List.mem_cons.1 ((h y).2 (by simp)) with e' | e'
        · exact e'.symm
        · have := h1.1 y e'; have := h2.1 x e; omega
    subst e
    rw [sorted_eq h1.2 h2.2 fun t => ?_]
    constructor
    · intro ht
      rcases List.mem_cons.1 ((h t).1 (List.mem_cons_of_mem _ ht)) with e | e
      · subst e; have := h1.1 t ht; omega
      · exact e
    · intro ht
      rcases List.mem_cons.1 ((h t).2 (List.mem_cons_of_mem _ ht)) with e | e
      · subst e; have := h2.1 t ht; omega
      · exact e
theorem Reached.eq {m : Mdp} {s : Int} {l l' : List Int} (h : Reached m s l) (h' : Reached m s l') : l = l' :=
  sorted_eq h.sorted h'.sorted fun t => ⟨h.min (· ∈ l') (fun t _ _ ht a ha o ho => h'.closed t ht a ha o ho) h'.self t, h'.min (· ∈ l) (fun t _ _ ht a ha o ho => h.closed t ht a ha o ho) h.self t⟩
attribute [local semireducible] Go
/-- A store of 'true' into a row of truth values. -/
theorem zxB {r : Option Nat} {m : Nat} {P : Program} {Q : Exit → Act → World → Prop} {n : Nat} {D : List Deferred} {w : World} {c : Cf} {E : Nat → Prop} {w0 : World} {X Y : Hid} {M : List (Nat × Obj)} (i : Nat) {g k : Nat} {T : TypeId} {S : List Bool} (hS : St E w0 X w Y M) (hM : M[i]? = some (g, .cells (bvals S) T (0, 0))) (hk : k < S.length)
    (h : ∀ w1, St E w0 X w1 Y (M.set i (g, .cells (bvals (S.set k true)) T (0, 0))) → Le (rd w Y) (rd w1 Y) → Go r m P Q n D w1 (n0 c))
    (hc : isst n c = true := by kernel_rfl) (ho : (cop c).op = .store (stT (cop c)) (stA (cop c)) (stV (cop c)) := by kernel_rfl) (ha : evL c.L (stA (cop c)) = .pointer (some ⟨g, k, none⟩) := by kernel_rfl) (hv : evL c.L (stV (cop c)) = .bool true := by kernel_rfl)
    (ht : ldT P (stT (cop c)) = some (ldG' P (stT (cop c)), 1) := by kernel_rfl) : Go r m P Q n D w c := by
  simp only [isst, Bool.and_eq_true] at hc
  have hc1 := hc.1
  simp only [isop, Bool.and_eq_true] at hc1
  exact z_op hc.1 fun _ hF => zE i _ hF (by simp only [hc1.2.2.2, hc.2, Bool.and_self]) hS ho ha hv ht rfl rfl hM (by rw [bvals_size]; omega) bvals_set rfl fun w1 h2 h3 => h w1 h2 h3 _ hF
end Go.Gv
/- A map from ints that a call owns: how it is read and written. By an AI agent. -/
namespace Go.Gv
open Go Go.Instr
/-- The entries of a map that only ever grew: each was born when the ones ahead of it had been. -/
def ents : List (Int × Value) → Nat → List MapEntry
  | [], _ => []
  | p :: l, b => { key := .int .i64 p.1, val := p.2, born := b } :: ents l (b + 1)
def fnd (z : Int) : List (Int × Value) → Nat → Option (Nat × Value)
  | [], _ => none
  | p :: l, i => bif z == p.1 then some (i, p.2) else fnd z l (i + 1)
def putM (z : Int) (v : Value) : List (Int × Value) → List (Int × Value)
  | [] => [(z, v)]
  | p :: l => bif z == p.1 then (z, v) :: l else p :: putM z v l
theorem findNow_ents (t : TypeDesc) (ht : ∃ k, t = .int k) (z : Int) : ∀ (l : List (Int × Value)) (b i : Nat), findNow t (.int .i64 z) (ents l b) i = some (fnd z l i)
  | [], _, _ => rfl
  | p :: l, b, i => by
    obtain ⟨k, rfl⟩ := ht
    have h := findNow_ents (.int k) ⟨k, rfl⟩ z l (b + 1) (i + 1)
    simp only [ents, findNow, sameNow, if_true, fnd]
    cases hz : z == p.1
    · simpa using h
    · rfl
theorem ents_length : ∀ (l : List (Int × Value)) (b : Nat), (ents l b).length = l.length
  | [], _ => rfl
  | _ :: l, b => by simp [ents, ents_length l]
theorem ents_push (z : Int) (v : Value) : ∀ (l : List (Int × Value)) (b : Nat), fnd z l 0 = none → ents (putM z v l) b = ents l b ++ [{ key := .int .i64 z, val := v, born := b + l.length }] := by
  have h0 : ∀ (l : List (Int × Value)) (b i : Nat), fnd z l i = none → ents (putM z v l) b = ents l b ++ [{ key := .int .i64 z, val := v, born := b + l.length }] := by
    intro l
    induction l with
    | nil => intro b i _; rfl
    | cons p l ih =>
      intro b i h
      simp only [fnd] at h
      simp only [putM]
      cases hz : z == p.1
      · rw [hz] at h
        simp only [cond_false] at h ⊢
        simp only [ents, ih (b + 1) (i + 1) h, List.cons_append, List.length_cons, Nat.add_assoc, Nat.add_comm 1]
      · rw [hz] at h; cases h
  exact fun l b h => h0 l b 0 h
theorem ents_mod (z : Int) (v v0 : Value) : ∀ (l : List (Int × Value)) (b i k : Nat), fnd z l i = some (k, v0) → ∃ j, k = i + j ∧ (ents l b)[j]? = some { key := .int .i64 z, val := v0, born := b + j } ∧
    (ents l b).modify j (fun e => { e with key := .int .i64 z, val := v }) = ents (putM z v l) b
  | [], _, _, _, h => by cases h
  | p :: l, b, i, k, h => by
    simp only [fnd] at h
    simp only [putM]
    cases hz : z == p.1
    · rw [hz] at h
      simp only [cond_false] at h ⊢
      obtain ⟨j, h1, h2, h3⟩ := ents_mod z v v0 l (b + 1) (i + 1) k h
      refine ⟨j + 1, by omega, ?_, ?_⟩
      · simp only [ents, List.getElem?_cons_succ, h2, Nat.add_assoc, Nat.add_comm 1]
      · simp only [ents, List.modify_succ_cons, h3]
    · rw [hz] at h
      simp only [cond_true, Option.some.injEq, Prod.mk.injEq] at h ⊢
      have hp : z = p.1 := by simpa using hz
      exact ⟨0, by omega, by simp [ents, ← h.2, hp], by simp [ents]⟩
def mapO (l : List (Int × Value)) : Obj := .map (ents l 0).toArray l.length
def getM (z : Int) (l : List (Int × Value)) (zero : Value) : Value := match fnd z l 0 with
  | some (_, v) => v
  | none => zero
section
variable {P : Program} {w : World} {T K V : TypeId} {r : Nat} {l : List (Int × Value)} {z : Int} {zero : Value}
theorem run_getM (hb : w.heap[r]? = some (mapO l)) : (getObj r).run P w = .ok (.map (ents l 0).toArray l.length) w := by
  unfold mapO at hb
  simp [getObj, Sem.run, hb]
theorem run_setM {o : Obj} (hb : w.heap[r]? = some (mapO l)) : (setObj r o).run P w = .ok () { w with heap := w.heap.setIfInBounds r o } := by
  unfold mapO at hb
  simp [setObj, Sem.run, hb]
theorem run_mapUpdM {v : Value} (hT : P.underlying T = some (.map K V)) (hK : ∃ k, P.underlying K = some (.int k)) (hb : w.heap[r]? = some (mapO l))
    (hc : ∀ b, (checkKey b 10000 K (.int .i64 z)).run P w = .ok () w) : (mapUpdate T (.map (some r)) (.int .i64 z) v).run P w = .ok () { w with heap := w.heap.setIfInBounds r (mapO (putM z v l)) } := by
  obtain ⟨k, hk⟩ := hK
  simp only [mapUpdate, underlying, hT, Sem.run_bind, Sem.run_pure, run_program, Result.andThen_ok, run_getM hb, hc, findKey, hk, findNow_ents (.int k) ⟨k, rfl⟩]
  cases hf : fnd z l 0 with
  | none =>
    simp only [run_setM hb]
    have h1 := ents_push z v l 0 hf
    have h2 := ents_length (putM z v l) 0
    rw [h1] at h2
    simp only [mapO, h1, Nat.zero_add] at h2 ⊢
    rw [← h2]
    simp [ents_length]
  | some p =>
    obtain ⟨i, v0⟩ := p
    obtain ⟨j, rfl, h2, h3⟩ := ents_mod z v v0 l 0 0 i hf
    have h4 := ents_length (putM z v l) 0
    rw [← h3, List.length_modify, ents_length] at h4
    simp only [Sem.run_pure, Result.andThen_ok, Nat.zero_add, List.getElem?_toArray, h2, Option.map_some, Option.getD_some, keyThatStays, sameBits, beq_self_eq_true, Bool.and_self, if_true, Sem.run_bind, run_setM hb]
    simp only [mapO, ← h3, h4, List.modify_toArray]
theorem run_lookupM (hT : P.underlying T = some (.map K V)) (hK : ∃ k, P.underlying K = some (.int k)) (hb : w.heap[r]? = some (mapO l)) (hz : (zeroValue V).run P w = .ok zero w)
    (hc : ∀ b, (checkKey b 10000 K (.int .i64 z)).run P w = .ok () w) : (lookup T (.map (some r)) (.int .i64 z) false).run P w = .ok (getM z l zero) w := by
  obtain ⟨k, hk⟩ := hK
  simp only [lookup, underlying, hT, Sem.run_bind, Sem.run_pure, run_program, Result.andThen_ok, run_getM hb, hc, findKey, hk, findNow_ents (.int k) ⟨k, rfl⟩, getM]
  cases hf : fnd z l 0 with
  | none => simp [hz]
  | some p => simp [Sem.run_pure]
end
section
variable {P : Program} {K : Act → World → Prop} {a : Act} {w w0 : World} {o : Oper} {n d : Nat} {L : List (Nat × Value)} {D : List Deferred} {E : Nat → Prop} {X Y : Hid} {M : List (Nat × Obj)} {Q : Exit → Act → World → Prop}
/-- What is stored under a key in a map that the call owns. -/
theorem op_mapUpd {T TK TV : TypeId} {xm xk xv : Operand} {b : Nat} {l : List (Int × Value)} {z : Int} {v : Value} (i : Nat) (hF : Fr n a L D) (hc : (okOp L o && o.dst.isNone) = true) (hS : St E w0 X w Y M)
    (ho : o.op = .mapUpdate T xm xk xv) (hm : evL L xm = .map (some b)) (hk : evL L xk = .int .i64 z) (hv : evL L xv = v) (hT : P.underlying T = some (.map TK TV)) (hK : ∃ k, P.underlying TK = some (.int k))
    (hck : ∀ c w, (checkKey c 10000 TK (.int .i64 z)).run P w = .ok () w) (hM : M[i]? = some (b, mapO l))
    (k : ∀ w1, St E w0 X w1 Y (M.set i (b, mapO (putM z v l))) → Le (rd w Y) (rd w1 Y) → K a w1) : o.wp P a w K Q := by
  simp only [Bool.and_eq_true] at hc
  have hd : o.dst = none := by cases h : o.dst <;> simp_all
  have hb := hS.get i hM
  have hlt : b < w.heap.size := by
    rcases Nat.lt_or_ge b w.heap.size with h | h
    · exact h
    · rw [Array.getElem?_eq_none h] at hb; cases hb
  unfold Oper.wp
  rw [hF.exec hc.1]
  unfold execOp
  simp only [ho, hm, hk, hv, Sem.run_bind, Sem.run_pure, Result.andThen_ok, run_mapUpdM hT hK hb (fun c => hck c w)]
  show K (a.put o.dst undef) _
  rw [hd]
  exact k _ (hS.set i _ hM (by simp) rfl rfl rfl (by simp [hlt]) (fun k _ hk => by simp [Array.getElem?_setIfInBounds_ne (Ne.symm hk)])) (hS.le_set i hM (fun k _ hk => by simp [Array.getElem?_setIfInBounds_ne (Ne.symm hk)]))
/-- What lies under a key, or the zero value. -/
theorem op_lookup {T TK TV : TypeId} {xm xk : Operand} {b : Nat} {l : List (Int × Value)} {z : Int} {zero : Value} (i : Nat) (hF : Fr n a L D) (hc : opk L o d n = true) (hS : St E w0 X w Y M)
    (ho : o.op = .lookup T xm xk false) (hm : evL L xm = .map (some b)) (hk : evL L xk = .int .i64 z) (hT : P.underlying T = some (.map TK TV)) (hK : ∃ k, P.underlying TK = some (.int k)) (hz : ∀ w, (zeroValue TV).run P w = .ok zero w)
    (hck : ∀ c w, (checkKey c 10000 TK (.int .i64 z)).run P w = .ok () w) (hM : M[i]? = some (b, mapO l))
    (k : ∀ a1, Fr n a1 ((d, getM z l zero) :: L) D → K a1 w) : o.wp P a w K Q := by
  simp only [opk, Bool.and_eq_true] at hc
  obtain ⟨hd, hlt⟩ := dstIs_spec hc.2
  unfold Oper.wp
  rw [hF.exec hc.1]
  unfold execOp
  simp only [ho, hm, hk, Sem.run_bind, Sem.run_pure, Result.andThen_ok, run_lookupM hT hK (hS.get i hM) (hz w) (fun c => hck c w)]
  show K (a.put o.dst _) _
  rw [hd]
  exact k _ (hF.put hlt _)
/-- How many keys it has. -/
theorem op_lenM {T TK TV : TypeId} {xm : Operand} {b : Nat} {l : List (Int × Value)} (i : Nat) (hF : Fr n a L D) (hc : opk L o d n = true) (hS : St E w0 X w Y M)
    (ho : o.op = .call { callee := .builtin .len, args := #[xm], argTypes := #[T] }) (hm : evL L xm = .map (some b)) (hT : P.underlying T = some (.map TK TV)) (hM : M[i]? = some (b, mapO l))
    (k : ∀ a1, Fr n a1 ((d, .int .i64 (l.length : Int)) :: L) D → K a1 w) : o.wp P a w K Q := by
  simp only [opk, Bool.and_eq_true] at hc
  obtain ⟨hd, hlt⟩ := dstIs_spec hc.2
  have hr : (Builtin.len_ #[T] o.type #[.map (some b)]).run P w = .ok (.int .i64 (l.length : Int)) w := by
    simp [Builtin.len_, underlying, hT, Sem.run_bind, Sem.run_pure, run_program, Result.andThen_ok, run_getM (hS.get i hM), ents_length, goInt]
  unfold Oper.wp
  rw [hF.exec hc.1]
  unfold execOp
  simp only [ho, resolve, invoke, builtin, Sem.run_bind, Sem.run_pure, Result.andThen_ok, List.map_toArray, List.map_cons, List.map_nil, hm, hr]
  show K (a.put o.dst _) _
  rw [hd]
  exact k _ (hF.put hlt _)
end
end Go.Gv
/- Programs read as plain functions: the laws by which a printed walk follows them. By an AI agent; over any program. -/
namespace Go.Gv
open Go.RowKit
theorem bnd {α β : Type} {o : Option α} {f : α → Option β} {r : β} (h : o.bind f = some r) : ∃ a, o = some a ∧ f a = some r := Option.bind_eq_some_iff.1 h
theorem bndk {α β : Type} {o : Option α} {f : α → Option β} {r : β} {C : Prop} (h : o.bind f = some r) (k : ∀ a, o = some a → f a = some r → C) : C := by
  obtain ⟨a, h1, h2⟩ := bnd h
  exact k a h1 h2
theorem ip {p : Prop} [Decidable p] {α : Type} {a b c : α} (h : p) (hp : (if p then a else b) = c) : a = c := by rwa [if_pos h] at hp
theorem iq {p : Prop} [Decidable p] {α : Type} {a b c : α} (h : ¬ p) (hp : (if p then a else b) = c) : b = c := by rwa [if_neg h] at hp
theorem ipb {b : Bool} {α : Type} {x y c : α} (h : b = true) (hp : (if b = true then x else y) = c) : x = c := by rwa [if_pos h] at hp
theorem iqb {b : Bool} {α : Type} {x y c : α} (h : b = false) (hp : (if b = true then x else y) = c) : y = c := by rwa [if_neg (by simp [h])] at hp
/-- Go on if p. -/
def grd (p : Prop) [Decidable p] {α : Type} (x : Option α) : Option α := if p then x else none
theorem grdp {p : Prop} [Decidable p] {α : Type} {x : Option α} {y : α} (h : grd p x = some y) : p ∧ x = some y := by
  unfold grd at h
  split at h
  · exact ⟨‹_›, h⟩
  · cases h
theorem grd_pos {p : Prop} [Decidable p] {α : Type} {x : Option α} (h : p) : grd p x = x := if_pos h
/-- The element of a list at an integer. -/
def ix {α : Type} (l : List α) (i : Int) : Option α := if 0 ≤ i then l[i.toNat]? else none
theorem ix_some {α : Type} {l : List α} {i : Int} {x : α} (h : ix l i = some x) : 0 ≤ i ∧ l[i.toNat]? = some x := by
  unfold ix at h
  split at h
  · exact ⟨‹_›, h⟩
  · cases h
theorem ix_nat {α : Type} (l : List α) (k : Nat) : ix l (k : Int) = l[k]? := by
  unfold ix; rw [if_pos (Int.natCast_nonneg k), Int.toNat_natCast]
theorem ix_lt {α : Type} {l : List α} {i : Int} {x : α} (h : ix l i = some x) : i < (l.length : Int) := by
  obtain ⟨h0, h1⟩ := ix_some h
  have := (List.getElem?_eq_some_iff.1 h1).1
  omega
theorem get_lt {α : Type} {l : List α} {k : Nat} (h : k < l.length) : ∃ x, l[k]? = some x := ⟨l[k], by simp⟩
theorem cnt_lt {n k : Nat} (h : k < n) : ∃ m, n - k = m + 1 ∧ n - (k + 1) = m := ⟨n - k - 1, by omega, by omega⟩
theorem ix_b {i : Int} {n : Nat} (h0 : 0 ≤ i) (h : i.toNat < n) : i < (n : Int) := by omega
theorem wrap_eq (x : Int) : IntKind.i64.wrap x = if x % 18446744073709551616 ≥ 9223372036854775808 then x % 18446744073709551616 - 18446744073709551616 else x % 18446744073709551616 := by
  unfold IntKind.wrap
  simp [IntKind.bits, IntKind.signed]
theorem wrap_le (x : Int) : IntKind.i64.wrap x ≤ 9223372036854775807 := by
  rw [wrap_eq]; split <;> omega
theorem wrap_ge (x : Int) : -9223372036854775808 ≤ IntKind.i64.wrap x := by
  rw [wrap_eq]; split <;> omega
/-- A function of its own in the midst of a text. -/
def lt {α β : Type} (a : α) (f : α → β) : β := f a
section
variable {A B C D E F G H R : Type} {y : R}
theorem ltd0 {f : A} {g : A → R} (h : lt f g = y) : ∃ J, J = f ∧ g J = y := ⟨f, rfl, h⟩
theorem ltd1 {f : A → B} {g : (A → B) → R} (h : lt f g = y) : ∃ J, (∀ a, J a = f a) ∧ g J = y := ⟨f, fun _ => rfl, h⟩
theorem ltd2 {f : A → B → C} {g : (A → B → C) → R} (h : lt f g = y) : ∃ J, (∀ a b, J a b = f a b) ∧ g J = y := ⟨f, fun _ _ => rfl, h⟩
theorem ltd3 {f : A → B → C → D} {g : (A → B → C → D) → R} (h : lt f g = y) : ∃ J, (∀ a b c, J a b c = f a b c) ∧ g J = y := ⟨f, fun _ _ _ => rfl, h⟩
theorem ltd4 {f : A → B → C → D → E} {g : (A → B → C → D → E) → R} (h : lt f g = y) : ∃ J, (∀ a b c d, J a b c d = f a b c d) ∧ g J = y := ⟨f, fun _ _ _ _ => rfl, h⟩
theorem ltd5 {f : A → B → C → D → E → F} {g : (A → B → C → D → E → F) → R} (h : lt f g = y) : ∃ J, (∀ a b c d e, J a b c d e = f a b c d e) ∧ g J = y := ⟨f, fun _ _ _ _ _ => rfl, h⟩
theorem ltd6 {f : A → B → C → D → E → F → G} {g : (A → B → C → D → E → F → G) → R} (h : lt f g = y) : ∃ J, (∀ a b c d e i, J a b c d e i = f a b c d e i) ∧ g J = y := ⟨f, fun _ _ _ _ _ _ => rfl, h⟩
theorem ltd7 {f : A → B → C → D → E → F → G → H} {g : (A → B → C → D → E → F → G → H) → R} (h : lt f g = y) : ∃ J, (∀ a b c d e i j, J a b c d e i j = f a b c d e i j) ∧ g J = y := ⟨f, fun _ _ _ _ _ _ _ => rfl, h⟩
end
theorem lt_of_int {k n : Nat} (h : (k : Int) < (n : Int)) : k < n := Int.ofNat_lt.1 h
theorem nlt_of_int {k n : Nat} (h : ¬ (k : Int) < (n : Int)) : n ≤ k := by omega
theorem mu_lt {k n : Nat} (h : (k : Int) < (n : Int)) : n - (k + 1) < n - k := by omega
theorem mu_ltN {N : Int} {k : Nat} (h : (k : Int) < N) : N.toNat - (k + 1) < N.toNat - k := by omega
theorem cnt_ltI {N : Int} {k : Nat} (h : (k : Int) < N) : ∃ m, N.toNat - k = m + 1 ∧ N.toNat - (k + 1) = m := cnt_lt (by omega)
theorem cnt_end {N : Int} {k : Nat} (h : ¬ (k : Int) < N) : N.toNat - k = 0 := by omega
theorem lenb {len cap : Nat} (h1 : len ≤ cap) (h2 : cap ≤ 9223372036854775807) : (len : Int) ≤ 9223372036854775807 := by omega
theorem wk0 (k : Nat) : -9223372036854775808 ≤ (k : Int) + 1 := by omega
theorem wk1 {k : Nat} {N : Int} (h : (k : Int) < N) (hb : N ≤ 9223372036854775807) : (k : Int) + 1 ≤ 9223372036854775807 := by omega
theorem app_b1 {m n b : Nat} (h : (n + 1) * b ≤ 140737488355328) (e : m = n) (hb : Nat.blt 0 b = true) : m + 1 ≤ 1125899906842624 := by
  subst e
  have h1 : 0 < b := by simpa [Nat.blt_eq] using hb
  have h2 : (m + 1) * 1 ≤ (m + 1) * b := Nat.mul_le_mul_left _ h1
  omega
theorem app_b2 {m n b : Nat} (h : (n + 1) * b ≤ 140737488355328) (e : m = n) : (m + 1) * b ≤ 140737488355328 := e ▸ h
theorem cutb {l h : Int} {n : Nat} (g : 0 ≤ l ∧ l ≤ h ∧ h ≤ (n : Int)) : l.toNat ≤ h.toNat ∧ h.toNat ≤ n := by omega
theorem cutbn {l : Int} {n : Nat} (g : 0 ≤ l ∧ l ≤ (n : Int) ∧ (n : Int) ≤ (n : Int)) : l.toNat ≤ n := by omega
theorem le_cap {h : Int} {n cap : Nat} (h1 : h ≤ (n : Int)) (h2 : n ≤ cap) : h ≤ (cap : Int) := by omega
theorem le_tr {a b c : Int} (h1 : a ≤ b) (h2 : b ≤ c) : a ≤ c := Int.le_trans h1 h2
/-! ### Elements -/
section
variable {α : Type} {El : Rd → Addr → α → Prop} {size : Nat} {r : Rd} {ad : Option Addr} {b off len cap : Nat} {xs : List α} {k : Nat} {x : α}
theorem SlR.opn (h : SlR El size r ad len cap xs) (hx : xs[k]? = some x) : ∃ b off, ad = some ⟨b, off, none⟩ ∧ k < len ∧ El r ⟨b, off + k * size, none⟩ x := by
  have h1 := h.hlen
  have h2 := (List.getElem?_eq_some_iff.1 hx).1
  rcases h.hat with rfl | ⟨b, off, e, ha⟩
  · simp at hx
  · exact ⟨b, off, e, by omega, ha k x hx⟩
theorem SlR.opn2 (h : SlR El size r (some ⟨b, off, none⟩) len cap xs) (hx : xs[k]? = some x) : k < len ∧ El r ⟨b, off + k * size, none⟩ x := by
  obtain ⟨b', off', e, h1, h2⟩ := h.opn hx
  cases e
  exact ⟨h1, h2⟩
theorem Rats.sl {xs : List Raw} (h : Rats r ad len cap xs) : SlR RatAt 3 r ad len cap xs := ⟨h.hlen, h.hcap, h.hbig, h.hat⟩
theorem Rats.ofSl {xs : List Raw} (h : SlR RatAt 3 r ad len cap xs) : Rats r ad len cap xs := ⟨h.hlen, h.hcap, h.hbig, h.hat⟩
def U32At (r : Rd) (a : Addr) (x : Nat) : Prop := At r a [.int .u32 (x : Int)]
theorem Limbs.sl {xs : List Nat} (h : Limbs r ad len cap xs) : SlR U32At 1 r ad len cap xs := by
  refine ⟨h.hlen, h.hcap, h.hbig, h.hat.imp id fun ⟨b, off, e, ha⟩ => ⟨b, off, e, fun i x hi j v hj => ?_⟩⟩
  rcases j with _ | j
  · simp at hj; subst hj
    have := ha i (.int .u32 (x : Int)) (by simp [U32, hi])
    simpa [add_mk] using this
  · simp at hj
theorem Limbs.ofSl {xs : List Nat} (h : SlR U32At 1 r ad len cap xs) (hlt : ∀ x ∈ xs, x < 4294967296) : Limbs r ad len cap xs := by
  refine ⟨h.hlen, h.hcap, h.hbig, hlt, h.hat.imp id fun ⟨b, off, e, ha⟩ => ⟨b, off, e, fun i v hi => ?_⟩⟩
  simp only [U32, List.getElem?_map] at hi
  cases hx : xs[i]? with
  | none => rw [hx] at hi; cases hi
  | some x =>
    rw [hx] at hi
    cases hi
    have := ha i x hx 0 _ rfl
    simpa [add_mk] using this
theorem At.sub {vs : List Value} (h : At r ⟨b, off, none⟩ vs) (n m : Nat) : At r ⟨b, off + n, none⟩ ((vs.drop n).take m) := fun j v hj => by
  rw [List.getElem?_take] at hj
  split at hj
  · rw [List.getElem?_drop] at hj
    have := h (n + j) v hj
    rw [add_mk] at *
    rwa [← Nat.add_assoc] at this
  · cases hj
end
/-- A slice as a value. -/
def SV {α : Type} (P : Rd → Option Addr → Nat → Nat → List α → Prop) (r : Rd) (v : Value) (xs : List α) : Prop := ∃ ad cap, v = .slice ad xs.length cap ∧ P r ad xs.length cap xs
/-! ### Rows that grow -/
def GE.okC {α : Type} (Cl : Rd → List Value → α → Prop) (size : Nat) (r : Rd) (e : GE α) : Prop := e.cs.length = size ∧ ∀ r', Le r r' → Cl r' e.cs e.x
theorem GE.okC.mono {α : Type} {Cl : Rd → List Value → α → Prop} {size : Nat} {r r' : Rd} {e : GE α} (h : GE.okC Cl size r e) (k : Le r r') : GE.okC Cl size r' e := ⟨h.1, fun r2 h2 => h.2 r2 (k.trans h2)⟩
theorem GE.okC.ok {α : Type} {Cl : Rd → List Value → α → Prop} {El : Rd → Addr → α → Prop} {size : Nat} {r : Rd} {e : GE α} (h : GE.okC Cl size r e) (hE : ∀ r a cs x, Cl r cs x → At r a cs → El r a x) : GE.ok El size r e := ⟨h.1, fun r2 h2 _ _ hat => hE _ _ _ _ (h.2 r2 h2) hat⟩
def GRow {α : Type} (Cl : Rd → List Value → α → Prop) (T : TypeId) (size : Nat) (r : Rd) (rb : List (Nat × Obj)) (ad : Option Addr) (m cap : Nat) (L : List α) : Prop :=
  ∃ es : List (GE α), TRow T size rb ad m cap (flatG es) ∧ es.map (·.x) = L ∧ (∀ e ∈ es, GE.okC Cl size r e) ∧ m = es.length
section
variable {α : Type} {Cl : Rd → List Value → α → Prop} {El : Rd → Addr → α → Prop} {T : TypeId} {size : Nat} {r r' : Rd} {rb : List (Nat × Obj)} {ad : Option Addr} {m cap : Nat} {L : List α}
theorem GRow.nil : GRow Cl T size r [] none 0 0 [] := ⟨[], TRow.nil _ _, rfl, by simp, rfl⟩
theorem GRow.mono (h : GRow Cl T size r rb ad m cap L) (k : Le r r') : GRow Cl T size r' rb ad m cap L := by
  obtain ⟨es, h1, h2, h3, h4⟩ := h
  exact ⟨es, h1, h2, fun e he => (h3 e he).mono k, h4⟩
theorem GRow.len (h : GRow Cl T size r rb ad m cap L) : m = L.length := by
  obtain ⟨es, h1, h2, h3, h4⟩ := h
  rw [← h2, List.length_map]; exact h4
theorem GRow.snoc {es : List (GE α)} {x : α} {cs : List Value} (hr : TRow T size rb ad (m + 1) cap (flatG es ++ cs)) (hq : es.map (·.x) = L) (hk : ∀ e ∈ es, GE.okC Cl size r e) (hm : m = es.length) (hle : Le r r') (hx : GE.okC Cl size r' ⟨x, cs⟩) :
    GRow Cl T size r' rb ad (m + 1) cap (L ++ [x]) := by
  refine ⟨es ++ [⟨x, cs⟩], by rw [flatG_snoc]; exact hr, by rw [List.map_append, hq]; rfl, fun e he => ?_, by rw [List.length_append, ← hm]; rfl⟩
  rcases List.mem_append.1 he with h1 | h1
  · exact (hk e h1).mono hle
  · rw [List.mem_singleton.1 h1]; exact hx
variable {w0 w : World} {X Y : Hid} {A B : List (Nat × Obj)} {N : Nat}
theorem St.pubGR (F : List (Nat × Obj) → List (Nat × Obj)) (hS : St E0 w0 X w Y (F rb)) (hM : ∀ rb, F rb = A ++ (rb ++ B)) (h : GRow Cl T size (rd w Y) rb ad m cap L) (hE : ∀ r a cs x, Cl r cs x → At r a cs → El r a x) :
    ∃ Y', St E0 w0 X w Y' (F []) ∧ Le (rd w Y) (rd w Y') ∧ SlR El size (rd w Y') ad m cap L := by
  obtain ⟨es, h1, h2, h3, h4⟩ := h
  obtain ⟨Y', g1, g2, g3⟩ := St.pubG F hS hM h1 h4 (fun e he => (h3 e he).ok hE)
  exact ⟨Y', g1, g2, h2 ▸ g3⟩
theorem St.pubGRN (F : List (Nat × Obj) → List (Nat × Obj)) (hS : St E0 w0 X w Y (F rb)) (hM : ∀ rb, F rb = A ++ (rb ++ B)) (h : GRow Cl T size (rd w (orN Y N)) rb ad m cap L) (hN : N ≤ w0.heap.size) (hE : ∀ r a cs x, Cl r cs x → At r a cs → El r a x) :
    ∃ Y', St E0 w0 X w Y' (F []) ∧ Le (rd w Y) (rd w Y') ∧ SlR El size (rd w (orN Y' N)) ad m cap L := by
  obtain ⟨es, h1, h2, h3, h4⟩ := h
  obtain ⟨Y', g1, g2, g3⟩ := St.pubRowN hN F hS hM h1
  refine ⟨Y', g1, g2, ?_⟩
  rw [← h2]
  rcases g3 with ⟨hx, rfl, rfl, rfl⟩ | ⟨g, cur, rfl, hr, hat⟩
  · obtain rfl : es = [] := List.eq_nil_of_length_eq_zero h4.symm
    exact ⟨rfl, Nat.le_refl _, by omega, .inl rfl⟩
  · exact hr.slG h4 hat (fun x hx => ((h3 x hx).mono (g2.or N)).ok hE)
end
/-! ### Literal slices -/
section
variable {α : Type} {El : Rd → Addr → α → Prop} {size : Nat} {r : Rd} {w0 w : World} {X Y : Hid} {M : List (Nat × Obj)}
theorem SlR.lit {b n : Nat} (es : List (GE α)) (hat : At r ⟨b, 0, none⟩ (flatG es)) (hok : ∀ e ∈ es, GE.ok El size r e) (hn : n = es.length) (hb : n ≤ 9223372036854775807) : SlR El size r (some ⟨b, 0, none⟩) n n (es.map (·.x)) := by
  refine ⟨by rw [List.length_map]; exact hn, Nat.le_refl _, hb, .inr ⟨b, 0, rfl, fun i x hi => ?_⟩⟩
  rw [List.getElem?_map] at hi
  cases he : es[i]? with
  | none => rw [he] at hi; cases hi
  | some e =>
    rw [he] at hi
    obtain rfl : e.x = x := by simpa using hi
    refine (hok e (List.mem_of_getElem? he)).2 r (Le.refl _) _ _ fun j v hj => ?_
    have h1 := flatG_get es i e (fun e he => (hok e he).1) he j v hj
    have := hat _ v h1
    rw [add_mk] at *
    rwa [← Nat.add_assoc] at this
theorem St.pubAt (i : Nat) (hS : St E0 w0 X w Y M) {b : Nat} {c : Array Value} {T : TypeId} (hi : M[i]? = some (b, .cells c T (0, 0))) : ∃ Y', St E0 w0 X w Y' (M.eraseIdx i) ∧ Le (rd w Y) (rd w Y') ∧ At (rd w Y') ⟨b, 0, none⟩ c.toList ∧ ∀ N, N ≤ w0.heap.size → At (rd w (orN Y' N)) ⟨b, 0, none⟩ c.toList := by
  have hlt : i < M.length := (List.getElem?_eq_some_iff.1 hi).1
  have hp : ((b, Obj.cells c T (0, 0)) :: M.eraseIdx i).Perm M := by
    have h2 := (List.getElem?_eq_some_iff.1 hi).2
    have h3 : M = M.take i ++ (b, Obj.cells c T (0, 0)) :: M.drop (i + 1) := by
      rw [← h2, List.getElem_cons_drop, List.take_append_drop]
    rw [List.eraseIdx_eq_take_drop_succ]
    have h4 : (M.take i ++ (b, Obj.cells c T (0, 0)) :: M.drop (i + 1)).Perm ((b, Obj.cells c T (0, 0)) :: (M.take i ++ M.drop (i + 1))) := List.perm_middle
    rw [← h3] at h4
    exact h4.symm
  have C2 := hS.perm hp
  have hge := C2.own_ge 0 rfl
  obtain ⟨h1, h2, h3⟩ := St.publish C2 hge
  exact ⟨_, h1, h2, h3, fun N hN => h3.orN (by omega)⟩
theorem St.sub {E : Nat → Prop} {M' : List (Nat × Obj)} (h : St E w0 X w Y M) (hs : M'.Sublist M) : St E w0 X w Y M' :=
  ⟨h.upd, h.lt, h.hid, fun p hp => h.own p (hs.subset hp), (hs.map _).nodup h.nd, h.ltX⟩
end
/-! ### Slices of slices -/
def adM (ad : Option Addr) (cap k m : Nat) : Option Addr := if cap = k then ad else ad.map (·.add (k * m))
section
variable {α : Type} {El : Rd → Addr → α → Prop} {size : Nat} {r : Rd} {ad : Option Addr} {len cap : Nat} {xs : List α}
theorem SlR.cut (h : SlR El size r ad len cap xs) {k n : Nat} (hk : k ≤ n) (hn : n ≤ len) : SlR El size r (adM ad cap k size) (n - k) (cap - k) ((xs.take n).drop k) := by
  have h1 := h.hlen
  have h2 := h.hcap
  have h3 := h.hbig
  refine ⟨by simp; omega, by omega, by omega, ?_⟩
  unfold adM
  split
  · exact .inl (List.drop_eq_nil_of_le (by simp; omega))
  · rcases h.hat with h4 | ⟨b, off, e, ha⟩
    · exact .inl (by rw [h4]; simp)
    · refine .inr ⟨b, off + k * size, by rw [e]; simp [Addr.add], fun i x hi => ?_⟩
      rw [List.getElem?_drop, List.getElem?_take] at hi
      split at hi
      · have := ha (k + i) x hi
        rwa [Nat.add_mul, ← Nat.add_assoc] at this
      · cases hi
/-- The parts of a slice of a slice, by names. -/
theorem SlR.cutN (h : SlR El size r ad len cap xs) {k n : Nat} (hk : k ≤ n) (hn : n ≤ len) : ∃ ad' cap', (ad' = adM ad cap k size ∧ cap' = cap - k ∧ ((xs.take n).drop k).length = n - k) ∧ SlR El size r ad' ((xs.take n).drop k).length cap' ((xs.take n).drop k) := by
  have h1 := h.cut hk hn
  have h2 : ((xs.take n).drop k).length = n - k := by have := h.hlen; simp; omega
  exact ⟨_, _, ⟨rfl, rfl, h2⟩, by rw [h2]; exact h1⟩
theorem cutF {k : Nat} : (xs.take xs.length).drop k = xs.drop k := by rw [List.take_length]
variable {P : Program} {ρ : Operand → Value} {o : Oper} {t e : TypeId} {x : Operand} {kd kd2 : IntKind} {g : Bool} {i j : Int} {m : Nat}
theorem run_cut {lo hi : Operand} (ho : o.op = .slice t x (some lo) (some hi) none) (ht : P.underlying t = some (.slice e)) (he : ldT P e = some (g, m)) (hx : ρ x = .slice ad len cap) (hl : ρ lo = .int kd i) (hh : ρ hi = .int kd2 j) (h0 : 0 ≤ i) (h1 : i ≤ j) (h2 : j ≤ cap) (w : World) :
    (execOp ρ o).run P w = .ok (.value (.slice (adM ad cap i.toNat m) (j.toNat - i.toNat) (cap - i.toNat))) w := by
  unfold execOp
  have h3 : 0 ≤ j := by omega
  have h4 : i ≤ (j.toNat : Int) := by omega
  simp only [ho, hx, Instr.sliceAt, Instr.slice, Instr.sliceBounds, Instr.sliceBound, asIntOf, underlying, ht, Sem.run_bind, Sem.run_pure, run_program, Result.andThen_ok, Option.map_some, Option.map_none, hl, hh, h0, h2, h3, h4, and_self, if_true, run_sizeOf he]
  rfl
theorem run_cutLo {lo : Operand} (ho : o.op = .slice t x (some lo) none none) (ht : P.underlying t = some (.slice e)) (he : ldT P e = some (g, m)) (hx : ρ x = .slice ad len cap) (hl : ρ lo = .int kd i) (h0 : 0 ≤ i) (h1 : i ≤ len) (w : World) :
    (execOp ρ o).run P w = .ok (.value (.slice (adM ad cap i.toNat m) (len - i.toNat) (cap - i.toNat))) w := by
  unfold execOp
  simp only [ho, hx, Instr.sliceAt, Instr.slice, Instr.sliceBounds, Instr.sliceBound, asIntOf, underlying, ht, Sem.run_bind, Sem.run_pure, run_program, Result.andThen_ok, Option.map_some, Option.map_none, hl, h0, h1, and_self, if_true, run_sizeOf he, Int.toNat_natCast]
  rfl
theorem run_cutLoN {lo : Operand} {ad' : Option Addr} {n' cap' k : Nat} (hn : ad' = adM ad cap k m ∧ cap' = cap - k ∧ n' = len - k) (ho : o.op = .slice t x (some lo) none none) (ht : P.underlying t = some (.slice e)) (he : ldT P e = some (g, m)) (hx : ρ x = .slice ad len cap) (hl : ρ lo = .int kd i) (h0 : 0 ≤ i) (h1 : i ≤ len) (hk : i.toNat = k) (w : World) :
    (execOp ρ o).run P w = .ok (.value (.slice ad' n' cap')) w := by
  subst hk
  rw [hn.1, hn.2.1, hn.2.2]; exact run_cutLo ho ht he hx hl h0 h1 w
theorem run_cutN {lo hi : Operand} {ad' : Option Addr} {n' cap' k n : Nat} (hn : ad' = adM ad cap k m ∧ cap' = cap - k ∧ n' = n - k) (ho : o.op = .slice t x (some lo) (some hi) none) (ht : P.underlying t = some (.slice e)) (he : ldT P e = some (g, m)) (hx : ρ x = .slice ad len cap) (hl : ρ lo = .int kd i) (hh : ρ hi = .int kd2 j) (h0 : 0 ≤ i) (h1 : i ≤ j) (h2 : j ≤ cap) (hk : i.toNat = k) (hk2 : j.toNat = n) (w : World) :
    (execOp ρ o).run P w = .ok (.value (.slice ad' n' cap')) w := by
  subst hk hk2
  rw [hn.1, hn.2.1, hn.2.2]; exact run_cut ho ht he hx hl hh h0 h1 h2 w
theorem run_cutHiN {hi : Operand} {ad' : Option Addr} {n' cap' n : Nat} (hn : ad' = adM ad cap 0 m ∧ cap' = cap - 0 ∧ n' = n - 0) (ho : o.op = .slice t x none (some hi) none) (ht : P.underlying t = some (.slice e)) (he : ldT P e = some (g, m)) (hx : ρ x = .slice ad len cap) (hh : ρ hi = .int kd2 j) (h1 : 0 ≤ j) (h2 : j ≤ cap) (hk2 : j.toNat = n) (w : World) :
    (execOp ρ o).run P w = .ok (.value (.slice ad' n' cap')) w := by
  have e1 : adM ad cap 0 m = ad := by unfold adM; split; rfl; cases ad <;> simp [Addr.add]
  rw [hn.1, hn.2.1, hn.2.2, e1]; exact run_sliceTo' ho ht he hx hh h1 h2 (by omega) w
end
theorem run_quoV {P : Program} {ρ : Operand → Value} {o : Oper} {t t2 : TypeId} {xa xb : Operand} {kd : IntKind} {a b : Int} (ho : o.op = .binOp .quo t xa xb t2) (hx : ρ xa = .int kd a) (hy : ρ xb = .int kd b) (hb : b ≠ 0) (w : World) : (execOp ρ o).run P w = .ok (.value (.int kd (kd.wrap (a.tdiv b)))) w := by
  unfold execOp
  simp only [ho, hx, hy, binOp, Op.intDiv, hb, if_false, ne_eq, not_true_eq_false]
  rfl
theorem run_remV {P : Program} {ρ : Operand → Value} {o : Oper} {t t2 : TypeId} {xa xb : Operand} {kd : IntKind} {a b : Int} (ho : o.op = .binOp .rem t xa xb t2) (hx : ρ xa = .int kd a) (hy : ρ xb = .int kd b) (hb : b ≠ 0) (w : World) : (execOp ρ o).run P w = .ok (.value (.int kd (a.tmod b))) w := by
  unfold execOp
  simp only [ho, hx, hy, binOp, Op.intDiv, hb, if_false, ne_eq, not_true_eq_false]
  rfl
theorem Limbs.nil0 {r : Rd} : Limbs r none 0 0 [] := ⟨rfl, Nat.le_refl _, by omega, by simp, .inl rfl⟩
theorem Rats.nil0 {r : Rd} : Rats r none 0 0 [] := ⟨rfl, Nat.le_refl _, by omega, .inl rfl⟩
def IntCs (_ : Rd) (cs : List Value) (x : Int) : Prop := cs = [.int .i64 x]
theorem IntCs.at (r : Rd) (a : Addr) (cs : List Value) (x : Int) (h : IntCs r cs x) (k : At r a cs) : IntAt r a x := by subst h; exact k
def U32Cs (_ : Rd) (cs : List Value) (x : Nat) : Prop := cs = [.int .u32 (x : Int)]
theorem U32Cs.at (r : Rd) (a : Addr) (cs : List Value) (x : Nat) (h : U32Cs r cs x) (k : At r a cs) : U32At r a x := by subst h; exact k
def BoolCs (_ : Rd) (cs : List Value) (x : Bool) : Prop := cs = [.bool x]
theorem BoolCs.at (r : Rd) (a : Addr) (cs : List Value) (x : Bool) (h : BoolCs r cs x) (k : At r a cs) : At r a [.bool x] := by subst h; exact k
theorem IntAt.at {r : Rd} {a : Addr} {x : Int} (h : IntAt r a x) : At r a [.int .i64 x] := h
def BoolAt (r : Rd) (a : Addr) (x : Bool) : Prop := At r a [.bool x]
def FnAt (r : Rd) (a : Addr) (f : FuncId) : Prop := At r a [.func (.func f) #[] #[]]
end Go.Gv

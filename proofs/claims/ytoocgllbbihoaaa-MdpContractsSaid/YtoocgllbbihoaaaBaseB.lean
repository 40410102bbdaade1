/- Parts of the proof: GvL GwA GwC. By an AI agent. -/
import Derived.Test.YtoocgllbbihoaaaBaseA
set_option linter.unusedVariables false
set_option linter.unusedSimpArgs false
set_option linter.unnecessarySimpa false
/- The laws of package mdp over lists. By an AI agent; no program in sight. -/
namespace Go.Gv
open Go.RowKit
/-! ### The first of the least -/
section
variable {less : Raw → Raw → Bool} {xs : List Raw} {f : Raw → Rat}
theorem leastL_spec (hl : ∀ x ∈ xs, ∀ y ∈ xs, (less x y = true ↔ f x < f y)) : ∀ (l : List Raw) (b i : Nat), xs.drop i = l → b < xs.length → (b < i ∨ i = 0 ∧ b = 0) →
    (∀ j, j < i → f (xs.getD b .zero) ≤ f (xs.getD j .zero) ∧ (j < b → f (xs.getD b .zero) < f (xs.getD j .zero))) →
    ∀ j, j < xs.length → f (xs.getD (leastL less xs b i l) .zero) ≤ f (xs.getD j .zero) ∧ (j < leastL less xs b i l → f (xs.getD (leastL less xs b i l) .zero) < f (xs.getD j .zero))
  | [], b, i, hd, hb, hbi, h, j, hj => by
    have : xs.length ≤ i := List.drop_eq_nil_iff.1 hd
    exact h j (by omega)
  | x :: l, b, i, hd, hb, hbi, h, j, hj => by
    have hi : i < xs.length := by
      rcases Nat.lt_or_ge i xs.length with h1 | h1
      · exact h1
      · rw [List.drop_eq_nil_of_le h1] at hd; cases hd
    rw [List.drop_eq_getElem_cons hi] at hd
    injection hd with hx hd
    have hxi : xs.getD i .zero = x := by rw [List.getD_eq_getElem?_getD, List.getElem?_eq_getElem hi, hx]; rfl
    have hbm : xs.getD b .zero ∈ xs := by rw [List.getD_eq_getElem?_getD, List.getElem?_eq_getElem hb]; exact List.getElem_mem hb
    have hxm : x ∈ xs := hx ▸ List.getElem_mem hi
    rw [leastL]
    split
    · rename_i hlt
      have hlt := (hl x hxm _ hbm).1 hlt
      refine leastL_spec hl l i (i + 1) hd hi (.inl (by omega)) (fun k hk => ?_) j hj
      rw [hxi]
      rcases Nat.lt_or_ge k i with h1 | h1
      · have := (h k h1).1
        exact ⟨by grind, fun _ => by grind⟩
      · obtain rfl : k = i := by omega
        rw [hxi]
        exact ⟨Rat.le_refl, fun h => absurd h (by omega)⟩
    · rename_i hlt
      have hlt : ¬ f x < f (xs.getD b .zero) := fun h => hlt ((hl x hxm _ hbm).2 h)
      refine leastL_spec hl l b (i + 1) hd hb (.inl (by omega)) (fun k hk => ?_) j hj
      rcases Nat.lt_or_ge k i with h1 | h1
      · exact h k h1
      · obtain rfl : k = i := by omega
        rw [hxi]
        exact ⟨by grind, fun h => absurd h (by omega)⟩
theorem leastV_spec (hl : ∀ x ∈ xs, ∀ y ∈ xs, (less x y = true ↔ f x < f y)) (h0 : 0 < xs.length) (j : Nat) (hj : j < xs.length) :
    f (xs.getD (leastV less xs) .zero) ≤ f (xs.getD j .zero) ∧ (j < leastV less xs → f (xs.getD (leastV less xs) .zero) < f (xs.getD j .zero)) :=
  leastL_spec hl xs 0 0 rfl h0 (.inr ⟨rfl, rfl⟩) (fun _ h => absurd h (by omega)) j hj
end
theorem lessB_iff {x y : Raw} (hx : x.chk = 0) (hy : y.chk = 0) : lessB x y = true ↔ x.rat < y.rat := by
  unfold lessB; rw [decide_eq_true_iff]; exact cmp_lt hx hy
theorem greater_iff {x y : Raw} (hx : x.chk = 0) (hy : y.chk = 0) : greater x y = true ↔ -x.rat < -y.rat := by
  unfold greater; rw [decide_eq_true_iff, cmp_lt hy hx]; constructor <;> intro h <;> grind
theorem getD_mem {α : Type} {xs : List α} {i : Nat} {z : α} (h : i < xs.length) : xs.getD i z ∈ xs := by
  rw [List.getD_eq_getElem?_getD, List.getElem?_eq_getElem h]; exact List.getElem_mem h
theorem getD_map {α β : Type} {xs : List α} {i : Nat} {z : α} {y : β} {g : α → β} (h : i < xs.length) : (xs.map g).getD i y = g (xs.getD i z) := by
  rw [List.getD_eq_getElem?_getD, List.getD_eq_getElem?_getD, List.getElem?_map, List.getElem?_eq_getElem h]; rfl
theorem getD_get {α : Type} {xs : List α} {i : Nat} {x z : α} (h : xs[i]? = some x) : xs.getD i z = x := by rw [List.getD_eq_getElem?_getD, h]; rfl
/-! ### Best scores -/
section
variable {d : Raw} {v w : List Raw} {s : List Actn}
theorem best_lt (h : (scoresV d v s).2 = 0) (h0 : 0 < s.length) : bestI d v s < s.length := by
  have := leastV_lt (less := lessB) (xs := (scoresV d v s).1) (by rw [(scoresV_ok h).1, List.length_map]; exact h0)
  rw [(scoresV_ok h).1, List.length_map] at this
  unfold bestI; rw [(scoresV_ok h).1]; exact this
theorem bestR_eq (h : (scoresV d v s).2 = 0) (h0 : 0 < s.length) : bestR d v s = (scoreV d v (actAt s (bestI d v s))).1 := by
  have hl := best_lt h h0
  unfold bestR
  rw [(scoresV_ok h).1, getD_map (z := ⟨.zero, []⟩) hl]
  rfl
theorem bestR_ok (h : (scoresV d v s).2 = 0) (h0 : 0 < s.length) : bestR d v s = .of (bestR d v s).rat ∧ (bestR d v s).chk = 0 ∧ (bestR d v s).rat = scoreQ d v (actAt s (bestI d v s)) := by
  have hl := best_lt h h0
  have hm : actAt s (bestI d v s) ∈ s := getD_mem (by simpa using hl)
  obtain ⟨h1, h2, h3⟩ := scoreV_ok ((scoresV_ok h).2 _ hm)
  rw [bestR_eq h h0]
  exact ⟨by rw [h2]; exact h1, h3, h2⟩
theorem best_spec (h : (scoresV d v s).2 = 0) {j : Nat} (hj : j < s.length) : (bestR d v s).rat ≤ scoreQ d v (actAt s j) ∧ (j < bestI d v s → (bestR d v s).rat < scoreQ d v (actAt s j)) := by
  obtain ⟨h1, h2⟩ := scoresV_ok h
  have hlen : (scoresV d v s).1.length = s.length := by rw [h1, List.length_map]
  have hc : ∀ x ∈ (scoresV d v s).1, x.chk = 0 := by
    rw [h1]; intro x hx
    obtain ⟨a, ha, rfl⟩ := List.mem_map.1 hx
    exact (scoreV_ok (h2 a ha)).2.2
  have := leastV_spec (f := Raw.rat) (fun x hx y hy => lessB_iff (hc x hx) (hc y hy)) (by omega) j (by omega)
  have e : ((scoresV d v s).1.getD j .zero).rat = scoreQ d v (actAt s j) := by
    rw [h1, getD_map (z := ⟨.zero, []⟩) hj]
    exact (scoreV_ok (h2 _ (getD_mem hj))).2.1
  rw [e] at this
  exact this
/-- The best index is told by the scores as rational numbers, up to a shift. -/
theorem bestI_shift (h : (scoresV d v s).2 = 0) (h' : (scoresV d w s).2 = 0) (h0 : 0 < s.length) (c : Rat) (hs : ∀ a ∈ s, scoreQ d w a = scoreQ d v a + c) : bestI d w s = bestI d v s := by
  have l1 := best_lt h h0
  have l2 := best_lt h' h0
  have a1 := best_spec h l2
  have a2 := best_spec h' l1
  have e1 := (bestR_ok h h0).2.2
  have e2 := (bestR_ok h' h0).2.2
  have m1 : actAt s (bestI d v s) ∈ s := getD_mem (by simpa using l1)
  have m2 : actAt s (bestI d w s) ∈ s := getD_mem (by simpa using l2)
  have s1 := hs _ m1
  have s2 := hs _ m2
  rcases Nat.lt_trichotomy (bestI d w s) (bestI d v s) with hlt | heq | hlt
  · have := a1.2 hlt; have := a2.1; exfalso; grind
  · exact heq
  · have := a2.2 hlt; have := a1.1; exfalso; grind
end
/-! ### Sums -/
section
theorem dotQ_shift {α : Type} {p f g : α → Rat} {c : Rat} : ∀ {l : List α}, (∀ o ∈ l, g o = f o + c) → dotQ (l.map p) (l.map g) = dotQ (l.map p) (l.map f) + c * sumQ (l.map p)
  | [], _ => by simp [dotQ, sumQ]; grind
  | o :: l, h => by
    simp only [List.map_cons, dotQ, sumQ]
    rw [dotQ_shift (fun q hq => h q (by simp [hq])), h o (by simp)]
    grind
theorem dotQ_mono {α : Type} {p f g : α → Rat} : ∀ {l : List α}, (∀ o ∈ l, 0 ≤ p o ∧ f o ≤ g o) → dotQ (l.map p) (l.map f) ≤ dotQ (l.map p) (l.map g)
  | [], _ => Rat.le_refl
  | o :: l, h => by
    simp only [List.map_cons, dotQ]
    have ih := dotQ_mono (p := p) (f := f) (g := g) (l := l) (fun q hq => h q (by simp [hq]))
    have h1 := h o (by simp)
    have h2 : p o * f o ≤ p o * g o := Rat.mul_le_mul_of_nonneg_left h1.2 h1.1
    grind
end
/-! ### Backup -/
section
variable {m : Mdp} {v w : List Raw}
theorem back_ok (h : (m.backV v).2.2 = 0) : m.chkV v = 0 ∧ (m.backV v).1 = m.states.map (bestR m.disc v) ∧ (m.backV v).2.1 = m.states.map (fun s => (bestI m.disc v s : Int)) ∧ (∀ s ∈ m.states, (scoresV m.disc v s).2 = 0) := by
  unfold Mdp.backV at h ⊢
  split at h
  · rename_i h1; exact absurd h h1
  · rename_i h1
    rw [if_neg h1]
    obtain ⟨i1, i2, i3⟩ := backGo_ok h
    exact ⟨Classical.not_not.1 h1, by simpa using i1, by simpa using i2, i3⟩
theorem back_err (h : (m.backV v).2.2 ≠ 0) : (m.backV v).1 = [] ∧ (m.backV v).2.1 = [] := by
  unfold Mdp.backV at h ⊢
  split at h
  · rename_i h1; rw [if_pos h1]; exact ⟨rfl, rfl⟩
  · rename_i h1
    rw [if_neg h1]
    obtain ⟨i1, i2, _⟩ := backGo_err h
    exact ⟨i1, i2⟩
theorem back_len (h : (m.backV v).2.2 = 0) : (m.backV v).1.length = m.states.length ∧ (m.backV v).2.1.length = m.states.length ∧ v.length = m.states.length := by
  obtain ⟨h1, h2, h3, _⟩ := back_ok h
  exact ⟨by rw [h2, List.length_map], by rw [h3, List.length_map], (Mdp.chkV_ok h1).2⟩
theorem pick_mem {o : Out} (h0 : 0 ≤ o.to) (h1 : o.to < v.length) : pick v o ∈ v := getD_mem (by omega)
/-- A valid process and a list of valid values: the backup is right or too long. -/
theorem back_cases (h : m.chkV v = 0) (hv : ∀ x ∈ v, x.chk = 0) : (m.backV v).2.2 = 0 ∨ (m.backV v).2.2 = 4 := by
  rcases Classical.em ((m.backV v).2.2 = 0) with h0 | h0
  · exact .inl h0
  · have e : (m.backV v) = backGo m.disc v [] [] m.states := by unfold Mdp.backV; rw [if_neg (by simpa using h)]
    rw [e] at h0 ⊢
    obtain ⟨_, _, s, hs, a, ha, e2⟩ := backGo_err h0
    rw [e2] at h0 ⊢
    obtain ⟨hc, hl⟩ := Mdp.chkV_ok h
    obtain ⟨hd, _, _, _, _, hst⟩ := Mdp.chk_ok hc
    obtain ⟨c1, c2, _⟩ := chkAct_ok ((hst s hs).2.2 a ha)
    exact scoreV_cases hd c1 (fun o ho => (c2 o ho).2.2.1) (fun o ho => hv _ (pick_mem (c2 o ho).1 (by have := (c2 o ho).2.1; omega)))
/-! ### MdpGreedy -/
theorem greedy_score (h : (m.backV v).2.2 = 0) {s : Nat} (hs : s < m.states.length) {a : Nat} (ha : a < (m.states.getD s []).length) :
    (m.scoreAt v s a).2 = 0 ∧ cmpE ((m.backV v).1.getD s .zero) (m.scoreAt v s a).1 = 0 ∧ cmpR ((m.backV v).1.getD s .zero) (m.scoreAt v s a).1 ≤ 0 ∧ ((a : Int) < (m.backV v).2.1.getD s 0 → ¬ (cmpR (m.scoreAt v s a).1 ((m.backV v).1.getD s .zero) ≤ 0)) := by
  obtain ⟨h1, h2, h3, h4⟩ := back_ok h
  have hm : m.states.getD s [] ∈ m.states := getD_mem hs
  have hst := (Mdp.chk_ok (Mdp.chkV_ok h1).1).2.2.2.2.2 _ hm
  have hsc := h4 _ hm
  have ham : actAt (m.states.getD s []) a ∈ m.states.getD s [] := getD_mem (by simpa using ha)
  obtain ⟨s1, s2, s3⟩ := scoreV_ok ((scoresV_ok hsc).2 _ ham)
  have e : m.scoreAt v s a = scoreV m.disc v (actAt (m.states.getD s []) a) := by
    unfold Mdp.scoreAt
    rw [if_neg (by simpa using h1), if_neg (by simp only [Int.toNat_natCast]; omega), Int.toNat_natCast]
  rw [e, h2, h3, getD_map (z := []) hs, getD_map (z := []) hs]
  obtain ⟨b1, b2, b3⟩ := bestR_ok hsc hst.1
  have hb := best_spec hsc ha
  refine ⟨(scoresV_ok hsc).2 _ ham, cmp_ok b2 s3, (cmp_le b2 s3).2 (by rw [s2]; exact hb.1), fun hlt => ?_⟩
  rw [cmp_le s3 b2, s2]
  have := hb.2 (by omega)
  grind
theorem greedy_same (h : (m.backV v).2.2 = 0) : m.underV (m.backV v).2.1 v = ((m.backV v).1, 0) := by
  obtain ⟨h1, h2, h3, h4⟩ := back_ok h
  have hst := (Mdp.chk_ok (Mdp.chkV_ok h1).1).2.2.2.2.2
  unfold Mdp.underV
  rw [if_neg (by simpa using h1), if_neg (by rw [(back_len h).2.1]; simp), h3, underGo_zip (by simp)]
  · rw [h2, List.nil_append]
    congr 1
    have : ∀ (l : List (List Actn)), (∀ s ∈ l, (scoresV m.disc v s).2 = 0 ∧ 0 < s.length) → List.zipWith (fun s i => (scoreV m.disc v (actAt s i)).1) l (l.map fun s => (bestI m.disc v s : Int)) = l.map (bestR m.disc v) := by
      intro l
      induction l with
      | nil => intro _; rfl
      | cons s l ih =>
        intro hl
        simp only [List.map_cons, List.zipWith_cons_cons]
        rw [ih (fun t ht => hl t (by simp [ht])), bestR_eq (hl s (by simp)).1 (hl s (by simp)).2]
    exact this _ (fun s hs => ⟨h4 s hs, (hst s hs).1⟩)
  · intro k s i hk hi
    rw [List.getElem?_map, hk] at hi
    obtain rfl : (bestI m.disc v s : Int) = i := by simpa using hi
    have hm := List.mem_of_getElem? hk
    have hl := best_lt (h4 s hm) (hst s hm).1
    exact ⟨by omega, (scoresV_ok (h4 s hm)).2 _ (getD_mem (by simpa using hl))⟩
theorem greedy_under (h : (m.backV v).2.2 = 0) (p : List Int) : ((m.underV p v).2 = 0 ∧ (m.underV p v).1.length = m.states.length ∧ ∀ s, s < m.states.length → cmpE ((m.backV v).1.getD s .zero) ((m.underV p v).1.getD s .zero) = 0 ∧ cmpR ((m.backV v).1.getD s .zero) ((m.underV p v).1.getD s .zero) ≤ 0) ∨
    (((m.underV p v).2 = 16 ∨ (m.underV p v).2 = 8) ∧ (m.underV p v).1 = []) := by
  obtain ⟨h1, h2, h3, h4⟩ := back_ok h
  have hst := (Mdp.chk_ok (Mdp.chkV_ok h1).1).2.2.2.2.2
  unfold Mdp.underV
  rw [if_neg (by simpa using h1)]
  split
  · exact .inr ⟨.inl rfl, rfl⟩
  · rename_i hl
    have hl : m.states.length = p.length := (Classical.not_not.1 hl).symm
    rcases Classical.em ((underGo m.disc v [] m.states p).2 = 0) with h0 | h0
    · obtain ⟨u1, u2⟩ := underGo_ok hl h0
      rw [List.nil_append] at u1
      refine .inl ⟨h0, by rw [u1, List.length_zipWith]; omega, fun s hs => ?_⟩
      have hsp : s < p.length := by omega
      have g1 : m.states[s]? = some m.states[s] := List.getElem?_eq_getElem hs
      have g2 : p[s]? = some p[s] := List.getElem?_eq_getElem hsp
      have hr := u2 s _ _ g1 g2
      have hm : m.states[s] ∈ m.states := List.getElem_mem hs
      have ha : (p[s]).toNat < m.states[s].length := by omega
      have ham : actAt m.states[s] p[s] ∈ m.states[s] := getD_mem ha
      obtain ⟨s1, s2, s3⟩ := scoreV_ok ((scoresV_ok (h4 _ hm)).2 _ ham)
      obtain ⟨b1, b2, b3⟩ := bestR_ok (h4 _ hm) (hst _ hm).1
      have e1 : (underGo m.disc v [] m.states p).1.getD s .zero = (scoreV m.disc v (actAt m.states[s] p[s])).1 := getD_get (by rw [u1, List.getElem?_zipWith, g1, g2])
      have e2 : (m.backV v).1.getD s .zero = bestR m.disc v m.states[s] := getD_get (by rw [h2, List.getElem?_map, g1]; rfl)
      rw [e1, e2]
      refine ⟨cmp_ok b2 s3, (cmp_le b2 s3).2 ?_⟩
      rw [s2]
      have h9 := (best_spec (h4 _ hm) ha).1
      have e9 : ((p[s].toNat : Nat) : Int) = p[s] := by omega
      rw [e9] at h9
      exact h9
    · obtain ⟨u1, u2⟩ := underGo_err h0
      rcases u2 with u2 | ⟨s, hs, a, ha, e⟩
      · exact .inr ⟨.inr u2, u1⟩
      · rw [e] at h0
        exact absurd ((scoresV_ok (h4 s hs)).2 a ha) h0
/-! ### MdpShifts -/
def addAll (v : List Raw) (c : Raw) : List Raw := v.map fun x => opR x c (x.rat + c.rat)
theorem scoreQ_shift {d : Raw} {a : Actn} {c : Rat} (hs : sumQ (a.next.map (·.p.rat)) = 1) (h : ∀ o ∈ a.next, (pick w o).rat = (pick v o).rat + c) : scoreQ d w a = scoreQ d v a + d.rat * c := by
  unfold scoreQ
  rw [dotQ_shift (p := (·.p.rat)) (f := fun o => (pick v o).rat) (g := fun o => (pick w o).rat) h, hs]
  grind
theorem shift_score {c : Raw} (hc : m.chkV v = 0) (ha : ∀ x ∈ v, opE x c (x.rat + c.rat) = 0) {s : List Actn} (hs : s ∈ m.states) {a : Actn} (hm : a ∈ s) : scoreQ m.disc (addAll v c) a = scoreQ m.disc v a + m.disc.rat * c.rat := by
  obtain ⟨hk, hl⟩ := Mdp.chkV_ok hc
  have hst := (Mdp.chk_ok hk).2.2.2.2.2
  obtain ⟨_, c2, c3, _⟩ := chkAct_ok ((hst s hs).2.2 a hm)
  refine scoreQ_shift c3 (fun o ho => ?_)
  obtain ⟨o1, o2, _, _⟩ := c2 o ho
  have hlt : o.to.toNat < v.length := by omega
  unfold pick addAll
  rw [getD_map (z := .zero) hlt]
  exact (opE_ok (ha _ (getD_mem hlt))).2.2.2.1
theorem shift_chk {c : Raw} (hc : m.chkV v = 0) : m.chkV (addAll v c) = 0 := by
  obtain ⟨hk, hl⟩ := Mdp.chkV_ok hc
  unfold Mdp.chkV
  rw [if_neg (by simpa using hk), if_neg (by unfold addAll; rw [List.length_map]; simpa using hl)]
theorem shift_cases {c : Raw} (h : (m.backV v).2.2 = 0) (ha : ∀ x ∈ v, opE x c (x.rat + c.rat) = 0) : (m.backV (addAll v c)).2.2 = 0 ∨ (m.backV (addAll v c)).2.2 = 4 :=
  back_cases (shift_chk (back_ok h).1) (fun x hx => by
    obtain ⟨y, hy, rfl⟩ := List.mem_map.1 hx
    exact (opE_ok (ha y hy)).2.2.2.2)
theorem shift_law {c : Raw} (h : (m.backV v).2.2 = 0) (ha : ∀ x ∈ v, opE x c (x.rat + c.rat) = 0) (h' : (m.backV (addAll v c)).2.2 = 0) (hd : opE m.disc c (m.disc.rat * c.rat) = 0) :
    (m.backV (addAll v c)).2.1 = (m.backV v).2.1 ∧ ∀ s, s < m.states.length →
      (opE ((m.backV v).1.getD s .zero) (opR m.disc c (m.disc.rat * c.rat)) (((m.backV v).1.getD s .zero).rat + (opR m.disc c (m.disc.rat * c.rat)).rat) = 0 ∨ opE ((m.backV v).1.getD s .zero) (opR m.disc c (m.disc.rat * c.rat)) (((m.backV v).1.getD s .zero).rat + (opR m.disc c (m.disc.rat * c.rat)).rat) = 4) ∧
      (opE ((m.backV v).1.getD s .zero) (opR m.disc c (m.disc.rat * c.rat)) (((m.backV v).1.getD s .zero).rat + (opR m.disc c (m.disc.rat * c.rat)).rat) = 0 → opR ((m.backV v).1.getD s .zero) (opR m.disc c (m.disc.rat * c.rat)) (((m.backV v).1.getD s .zero).rat + (opR m.disc c (m.disc.rat * c.rat)).rat) = (m.backV (addAll v c)).1.getD s .zero) := by
  obtain ⟨h1, h2, h3, h4⟩ := back_ok h
  obtain ⟨g1, g2, g3, g4⟩ := back_ok h'
  have hst := (Mdp.chk_ok (Mdp.chkV_ok h1).1).2.2.2.2.2
  have hsame : ∀ s ∈ m.states, bestI m.disc (addAll v c) s = bestI m.disc v s := fun s hs =>
    bestI_shift (h4 s hs) (g4 s hs) (hst s hs).1 (m.disc.rat * c.rat) (fun a hm => shift_score h1 ha hs hm)
  refine ⟨?_, fun s hs => ?_⟩
  · rw [g3, h3]
    exact List.map_congr_left fun s hs => by rw [hsame s hs]
  · have hm : m.states.getD s [] ∈ m.states := getD_mem hs
    have hpos := (hst _ hm).1
    rw [h2, g2, getD_map (z := []) hs, getD_map (z := []) hs]
    obtain ⟨b1, b2, b3⟩ := bestR_ok (h4 _ hm) hpos
    obtain ⟨e1, e2, e3⟩ := bestR_ok (g4 _ hm) hpos
    obtain ⟨_, _, _, d4, d5⟩ := opE_ok hd
    refine ⟨opE_cases b2 d5 _, fun h0 => ?_⟩
    have hin : actAt (m.states.getD s []) (bestI m.disc v (m.states.getD s [])) ∈ m.states.getD s [] := getD_mem (by simpa using best_lt (h4 _ hm) hpos)
    rw [(opE_ok h0).2.2.1, e1, e3, hsame _ hm, b3, d4, shift_score h1 ha hm hin]
/-! ### Distances -/
def absQ (x : Rat) : Rat := if x < 0 then -x else x
theorem neg_chk {x : Raw} (h : x.chk = 0) : ({ x with neg := false } : Raw).chk = 0 := by
  unfold Raw.chk at h ⊢
  split at h
  · cases h
  · rename_i h1
    split at h
    · cases h
    · rename_i h2
      split at h
      · cases h
      · rename_i h3
        rw [if_neg h1, if_neg ?_, if_neg h3]
        rintro (e | e | e | ⟨e, f | f⟩)
        · exact h2 (.inl e)
        · exact h2 (.inr (.inl e))
        · exact h2 (.inr (.inr (.inl e)))
        · exact absurd f (by simp)
        · exact h2 (.inr (.inr (.inr ⟨e, .inr f⟩)))
theorem neg_rat (z : Rat) : ({ Raw.of z with neg := false } : Raw).rat = absQ z := by
  have hd : ({ Raw.of z with neg := false } : Raw).d = z.den := Raw.of_d z
  unfold Raw.rat
  rw [hd]
  simp only [Raw.of, val_nlimbs, sgn, Bool.false_eq_true, if_false]
  unfold absQ
  split
  · rename_i h
    have hn : z.num < 0 := by
      have : ¬ 0 ≤ z.num := fun e => by have := Rat.num_nonneg.1 e; grind
      omega
    have : ((z.num.natAbs : Nat) : Int) = -z.num := by omega
    rw [this, ← Rat.neg_mkRat, Rat.mkRat_self]
  · rename_i h
    have hn : 0 ≤ z.num := Rat.num_nonneg.2 (by grind)
    have : ((z.num.natAbs : Nat) : Int) = z.num := by omega
    rw [this, Rat.mkRat_self]
theorem distR_ok {x y : Raw} (h : opE x y (x.rat - y.rat) = 0) : (distR x y).chk = 0 ∧ (distR x y).rat = absQ (x.rat - y.rat) := by
  obtain ⟨_, _, e, _, hc⟩ := opE_ok h
  unfold distR
  refine ⟨neg_chk hc, ?_⟩
  rw [e]; exact neg_rat _
theorem distGo_ok : ∀ {xs ys acc : List Raw}, (distGo acc xs ys).2 = 0 → (distGo acc xs ys).1 = acc ++ List.zipWith distR xs ys ∧ ∀ (k : Nat) (x y : Raw), xs[k]? = some x → ys[k]? = some y → opE x y (x.rat - y.rat) = 0
  | [], ys, acc, _ => by simp [distGo]
  | x :: xs, [], acc, _ => by simp [distGo]
  | x :: xs, y :: ys, acc, h => by
    rw [distGo] at h ⊢
    split at h
    · rename_i h1
      rw [if_pos h1]
      obtain ⟨i1, i2⟩ := distGo_ok h
      refine ⟨by rw [i1]; simp, fun k a b ha hb => ?_⟩
      rcases k with _ | k
      · simp at ha hb; subst ha; subst hb; exact h1
      · exact i2 k a b (by simpa using ha) (by simpa using hb)
    · rename_i h1
      exact absurd h h1
theorem distGo_cases : ∀ {xs ys acc : List Raw}, (∀ x ∈ xs, x.chk = 0) → (∀ x ∈ ys, x.chk = 0) → (distGo acc xs ys).2 = 0 ∨ (distGo acc xs ys).2 = 4
  | [], ys, acc, _, _ => by simp [distGo]
  | x :: xs, [], acc, _, _ => by simp [distGo]
  | x :: xs, y :: ys, acc, h, h' => by
    rw [distGo]
    split
    · exact distGo_cases (fun z hz => h z (by simp [hz])) (fun z hz => h' z (by simp [hz]))
    · exact opE_cases (h x (by simp)) (h' y (by simp)) _
theorem distV_cases {xs ys : List Raw} (hl : xs.length = ys.length) (h : ∀ x ∈ xs, x.chk = 0) (h' : ∀ x ∈ ys, x.chk = 0) : (distV xs ys).2 = 0 ∨ (distV xs ys).2 = 4 := by
  unfold distV
  rw [if_pos hl]
  split
  · exact .inl rfl
  · exact distGo_cases h h'
/-- The distance is the greatest of the differences, and one of them or 0. -/
theorem distV_ok {xs ys : List Raw} (h : (distV xs ys).2 = 0) : xs.length = ys.length ∧ (distV xs ys).1.chk = 0 ∧ 0 ≤ (distV xs ys).1.rat ∧ (∀ (k : Nat) (x y : Raw), xs[k]? = some x → ys[k]? = some y → x.chk = 0 ∧ y.chk = 0 ∧ absQ (x.rat - y.rat) ≤ (distV xs ys).1.rat) ∧
    ((distV xs ys).1.rat = 0 ∨ ∃ (k : Nat) (x y : Raw), xs[k]? = some x ∧ ys[k]? = some y ∧ (distV xs ys).1.rat = absQ (x.rat - y.rat)) := by
  have hlen : xs.length = ys.length := by
    unfold distV at h; split at h
    · assumption
    · exact absurd h (by decide)
  have h2 : (distGo [.zero] xs ys).2 = 0 := by
    unfold distV at h; rw [if_pos hlen] at h; split at h
    · assumption
    · exact h
  have e : (distV xs ys).1 = (distGo [.zero] xs ys).1.getD (leastV greater (distGo [.zero] xs ys).1) .zero := by unfold distV; rw [if_pos hlen, if_pos h2]
  obtain ⟨g1, g2⟩ := distGo_ok h2
  generalize (distGo [.zero] xs ys).1 = D at g1 e
  have hz : List.length (List.zipWith distR xs ys) = xs.length := by rw [List.length_zipWith]; omega
  have hDl : D.length = xs.length + 1 := by rw [g1]; simp [List.length_zipWith]; omega
  have hel : ∀ i, i < D.length → (D.getD i .zero = .zero ∨ ∃ (k : Nat) (x y : Raw), xs[k]? = some x ∧ ys[k]? = some y ∧ i = k + 1 ∧ D.getD i .zero = distR x y) := by
    intro i hi
    rcases i with _ | k
    · left; rw [g1]; rfl
    · have hk : k < xs.length := by omega
      have hk' : k < ys.length := by omega
      refine .inr ⟨k, xs[k], ys[k], List.getElem?_eq_getElem hk, List.getElem?_eq_getElem hk', rfl, getD_get ?_⟩
      rw [g1]
      simp [List.getElem?_zipWith, List.getElem?_eq_getElem hk, List.getElem?_eq_getElem hk']
  have hc : ∀ x ∈ D, x.chk = 0 := by
    intro x hx
    obtain ⟨i, hi, rfl⟩ := List.getElem_of_mem hx
    have : D.getD i .zero = D[i] := getD_get (List.getElem?_eq_getElem hi)
    rcases hel i hi with h | ⟨k, x, y, h3, h4, _, h5⟩
    · rw [← this, h]; exact zero_chk
    · rw [← this, h5]; exact (distR_ok (g2 k x y h3 h4)).1
  have hsp := leastV_spec (less := greater) (xs := D) (f := fun x => -x.rat) (fun x hx y hy => greater_iff (hc x hx) (hc y hy)) (by omega)
  have hlt : leastV greater D < D.length := leastV_lt (by omega)
  rw [e]
  refine ⟨hlen, hc _ (getD_mem hlt), ?_, fun k x y hx hy => ?_, ?_⟩
  · have := (hsp 0 (by omega)).1
    have h0 : D.getD 0 .zero = .zero := by rw [g1]; rfl
    simp only [h0, zero_rat0] at this
    grind
  · have hop := g2 k x y hx hy
    obtain ⟨c1, c2, _⟩ := opE_ok hop
    refine ⟨c1, c2, ?_⟩
    have hk := (List.getElem?_eq_some_iff.1 hx).1
    have := (hsp (k + 1) (by omega)).1
    have h5 : D.getD (k + 1) .zero = distR x y := getD_get (by rw [g1]; simp [List.getElem?_zipWith, hx, hy])
    simp only [h5, (distR_ok hop).2] at this
    grind
  · rcases hel _ hlt with h | ⟨k, x, y, h3, h4, _, h5⟩
    · left; rw [h]; exact zero_rat0
    · right; exact ⟨k, x, y, h3, h4, by rw [h5]; exact (distR_ok (g2 k x y h3 h4)).2⟩
/-! ### MdpContracts -/
theorem score_near {d : Raw} {a : Actn} {D : Rat} (hd : 0 ≤ d.rat) (hs : sumQ (a.next.map (·.p.rat)) = 1) (h : ∀ o ∈ a.next, 0 ≤ o.p.rat ∧ (pick v o).rat ≤ (pick w o).rat + D) : scoreQ d v a ≤ scoreQ d w a + d.rat * D := by
  have h1 := dotQ_mono (p := fun o : Out => o.p.rat) (f := fun o => (pick v o).rat) (g := fun o => (pick w o).rat + D) (l := a.next) h
  rw [dotQ_shift (p := fun o : Out => o.p.rat) (f := fun o => (pick w o).rat) (g := fun o => (pick w o).rat + D) (c := D) (fun _ _ => rfl), hs] at h1
  have h2 := Rat.mul_le_mul_of_nonneg_left h1 hd
  unfold scoreQ
  grind
/-- Where no value of one list is greater than that of the other by more than D, no backup is by more than the discount times D. -/
theorem back_near {D : Rat} (h : (m.backV v).2.2 = 0) (h' : (m.backV w).2.2 = 0) (hv : ∀ (k : Nat) (x y : Raw), v[k]? = some x → w[k]? = some y → x.rat ≤ y.rat + D) {s : Nat} (hs : s < m.states.length) :
    ((m.backV v).1.getD s .zero).rat ≤ ((m.backV w).1.getD s .zero).rat + m.disc.rat * D := by
  obtain ⟨h1, h2, h3, h4⟩ := back_ok h
  obtain ⟨g1, g2, g3, g4⟩ := back_ok h'
  obtain ⟨hk, hl⟩ := Mdp.chkV_ok h1
  have hl' := (Mdp.chkV_ok g1).2
  obtain ⟨_, hd0, _, _, _, hst⟩ := Mdp.chk_ok hk
  have hm : m.states.getD s [] ∈ m.states := getD_mem hs
  have hpos := (hst _ hm).1
  rw [h2, g2, getD_map (z := []) hs, getD_map (z := []) hs]
  have hlt := best_lt (g4 _ hm) hpos
  have ham : actAt (m.states.getD s []) (bestI m.disc w (m.states.getD s [])) ∈ m.states.getD s [] := getD_mem (by simpa using hlt)
  have hb := (best_spec (h4 _ hm) hlt).1
  rw [(bestR_ok (g4 _ hm) hpos).2.2]
  obtain ⟨_, c2, c3, _⟩ := chkAct_ok ((hst _ hm).2.2 _ ham)
  have := score_near (v := v) (w := w) (D := D) hd0 c3 (fun o ho => by
    obtain ⟨o1, o2, _, o4⟩ := c2 o ho
    have k1 : o.to.toNat < v.length := by omega
    have k2 : o.to.toNat < w.length := by omega
    have e1 : v[o.to.toNat]? = some v[o.to.toNat] := List.getElem?_eq_getElem k1
    have e2 : w[o.to.toNat]? = some w[o.to.toNat] := List.getElem?_eq_getElem k2
    refine ⟨o4, ?_⟩
    unfold pick
    rw [getD_get e1, getD_get e2]
    exact hv _ _ _ e1 e2)
  grind
theorem back_chk (h : (m.backV v).2.2 = 0) : ∀ x ∈ (m.backV v).1, x.chk = 0 := by
  obtain ⟨h1, h2, h3, h4⟩ := back_ok h
  have hst := (Mdp.chk_ok (Mdp.chkV_ok h1).1).2.2.2.2.2
  rw [h2]
  intro x hx
  obtain ⟨s, hs, rfl⟩ := List.mem_map.1 hx
  exact (bestR_ok (h4 s hs) (hst s hs).1).2.1
theorem absQ_le {x y D : Rat} (h : absQ (x - y) ≤ D) : x ≤ y + D ∧ y ≤ x + D := by unfold absQ at h; split at h <;> constructor <;> grind
theorem le_absQ {x y D : Rat} (h : x ≤ y + D) (h' : y ≤ x + D) : absQ (x - y) ≤ D := by unfold absQ; split <;> grind
theorem contract_law (h : (m.backV v).2.2 = 0) (h' : (m.backV w).2.2 = 0) (hD : (distV v w).2 = 0) :
    ((distV (m.backV v).1 (m.backV w).1).2 = 0 ∨ (distV (m.backV v).1 (m.backV w).1).2 = 4) ∧ (opE m.disc (distV v w).1 (m.disc.rat * (distV v w).1.rat) = 0 ∨ opE m.disc (distV v w).1 (m.disc.rat * (distV v w).1.rat) = 4) ∧
    ((distV (m.backV v).1 (m.backV w).1).2 = 0 → opE m.disc (distV v w).1 (m.disc.rat * (distV v w).1.rat) = 0 →
      cmpE (distV (m.backV v).1 (m.backV w).1).1 (opR m.disc (distV v w).1 (m.disc.rat * (distV v w).1.rat)) = 0 ∧ cmpR (distV (m.backV v).1 (m.backV w).1).1 (opR m.disc (distV v w).1 (m.disc.rat * (distV v w).1.rat)) ≤ 0) := by
  obtain ⟨d1, d2, d3, d4, d5⟩ := distV_ok hD
  obtain ⟨hk, _⟩ := Mdp.chkV_ok (back_ok h).1
  obtain ⟨hdc, hd0, _, _, _, _⟩ := Mdp.chk_ok hk
  have l1 := (back_len h).1
  have l2 := (back_len h').1
  refine ⟨distV_cases (by omega) (back_chk h) (back_chk h'), opE_cases hdc d2 _, fun hn hf => ?_⟩
  obtain ⟨n1, n2, n3, n4, n5⟩ := distV_ok hn
  obtain ⟨_, _, _, f4, f5⟩ := opE_ok hf
  refine ⟨cmp_ok n2 f5, (cmp_le n2 f5).2 ?_⟩
  rw [f4]
  rcases n5 with e | ⟨k, x, y, hx, hy, e⟩
  · rw [e]; exact Rat.mul_nonneg hd0 d3
  · rw [e]
    have hks : k < m.states.length := by have := (List.getElem?_eq_some_iff.1 hx).1; omega
    have hx' : (m.backV v).1.getD k .zero = x := getD_get hx
    have hy' : (m.backV w).1.getD k .zero = y := getD_get hy
    have a1 := back_near h h' (D := (distV v w).1.rat) (fun i p q hp hq => (absQ_le (d4 i p q hp hq).2.2).1) hks
    have a2 := back_near h' h (D := (distV v w).1.rat) (fun i p q hp hq => (absQ_le (d4 i q p hq hp).2.2).2) hks
    rw [hx', hy'] at a1
    rw [hx', hy'] at a2
    exact le_absQ a1 a2
theorem mono_law (h : (m.backV v).2.2 = 0) (h' : (m.backV w).2.2 = 0) (hb : ∀ s, s < v.length → cmpE (v.getD s .zero) (w.getD s .zero) = 0 ∧ cmpR (v.getD s .zero) (w.getD s .zero) ≤ 0) {s : Nat} (hs : s < m.states.length) :
    cmpE ((m.backV v).1.getD s .zero) ((m.backV w).1.getD s .zero) = 0 ∧ cmpR ((m.backV v).1.getD s .zero) ((m.backV w).1.getD s .zero) ≤ 0 := by
  have c1 : ((m.backV v).1.getD s .zero).chk = 0 := back_chk h _ (getD_mem (by have := (back_len h).1; omega))
  have c2 : ((m.backV w).1.getD s .zero).chk = 0 := back_chk h' _ (getD_mem (by have := (back_len h').1; omega))
  refine ⟨cmp_ok c1 c2, (cmp_le c1 c2).2 ?_⟩
  have := back_near h h' (D := 0) (fun k x y hx hy => by
    have := hb k (List.getElem?_eq_some_iff.1 hx).1
    rw [getD_get hx, getD_get hy] at this
    obtain ⟨k1, k2⟩ := cmpE_ok this.1
    have := (cmp_le k1 k2).1 this.2
    grind) hs
  grind
/-! ### MdpReaches -/
theorem reach_law (h : (m.backV v).2.2 = 0) (h' : (m.backV w).2.2 = 0) {s : Nat} (hs : s < m.states.length) (hw : ∀ a ∈ m.states.getD s [], ∀ o ∈ a.next, pick v o = pick w o) : (m.backV v).1.getD s .zero = (m.backV w).1.getD s .zero := by
  obtain ⟨h1, h2, h3, h4⟩ := back_ok h
  obtain ⟨g1, g2, g3, g4⟩ := back_ok h'
  rw [h2, g2, getD_map (z := []) hs, getD_map (z := []) hs]
  have e : scoresV m.disc v (m.states.getD s []) = scoresV m.disc w (m.states.getD s []) := by
    have : ∀ (l : List Actn) (acc : List Raw), (∀ a ∈ l, ∀ o ∈ a.next, pick v o = pick w o) → scoresGo m.disc v acc l = scoresGo m.disc w acc l := by
      intro l
      induction l with
      | nil => intro acc _; rfl
      | cons a l ih =>
        intro acc hl
        rw [scoresGo, scoresGo, scoreV_congr (hl a (by simp)), ih _ (fun b hb => hl b (by simp [hb]))]
    exact this _ [] hw
  unfold bestR bestI
  rw [e]
end
end Go.Gv
/- What Reach visits. By an AI agent; no program in sight. -/
namespace Go.Gv
open Go.RowKit
/-- How many are not seen yet. -/
def unseen : List Bool → Nat
  | [] => 0
  | b :: l => (if b = true then 0 else 1) + unseen l
theorem unseen_mono : ∀ {l l' : List Bool}, l.length = l'.length → (∀ i : Nat, l.getD i false = true → l'.getD i false = true) → unseen l' ≤ unseen l
  | [], [], _, _ => Nat.le_refl _
  | [], _ :: _, h, _ => by simp at h
  | _ :: _, [], h, _ => by simp at h
  | b :: l, b' :: l', h, hi => by
    have ih := unseen_mono (l := l) (l' := l') (by simpa using h) (fun i hx => by simpa using hi (i + 1) (by simpa using hx))
    have h0 := hi 0
    simp only [List.getD_cons_zero] at h0
    simp only [unseen]
    cases b
    · cases b' <;> simp <;> omega
    · rw [h0 rfl]; simp; omega
theorem unseen_set : ∀ {l : List Bool} {k : Nat}, k < l.length → l.getD k false = false → unseen (l.set k true) < unseen l
  | [], _, h, _ => by simp at h
  | b :: l, 0, _, h => by
    simp only [List.getD_cons_zero] at h
    subst h
    simp [unseen]
  | b :: l, k + 1, h, hb => by
    have ih := unseen_set (l := l) (k := k) (by simpa using h) (by simpa using hb)
    simp only [List.set_cons_succ, unseen]
    omega
theorem set_getD {l : List Bool} {k i : Nat} (hk : k < l.length) : (l.set k true).getD i false = true ↔ l.getD i false = true ∨ i = k := by
  rw [List.getD_eq_getElem?_getD, List.getD_eq_getElem?_getD, List.getElem?_set]
  split
  · rename_i h; subst h
    simp [hk]
  · rename_i h
    constructor
    · exact .inl
    · rintro (h1 | h1)
      · exact h1
      · exact absurd h1.symm h
/-- A set of states that holds its successors. -/
def Closed (m : Mdp) (C : Int → Prop) : Prop := ∀ t : Int, 0 ≤ t → t < m.states.length → C t → ∀ a ∈ m.states.getD t.toNat [], ∀ o ∈ a.next, C o.to
/-- From what is seen (S), going to all of R, the states N are new and S' is seen. -/
structure Vis (m : Mdp) (S : List Bool) (N : List Int) (S' : List Bool) (R : Int → Prop) : Prop where
  len : S'.length = S.length
  mem : ∀ i : Nat, i < S.length → (S'.getD i false = true ↔ S.getD i false = true ∨ (i : Int) ∈ N)
  nd : N.Nodup
  fresh : ∀ t ∈ N, 0 ≤ t ∧ t < S.length ∧ S.getD t.toNat false = false
  closed : ∀ t ∈ N, ∀ a ∈ m.states.getD t.toNat [], ∀ o ∈ a.next, S'.getD o.to.toNat false = true
  min : ∀ C : Int → Prop, Closed m C → (∀ r, R r → C r) → ∀ t ∈ N, C t
section
variable {m : Mdp} {S S1 S2 : List Bool} {N N1 N2 : List Int} {R : Int → Prop}
theorem getD_lt {l : List Bool} {i : Nat} (h : l.getD i false = true) : i < l.length := by
  rcases Nat.lt_or_ge i l.length with h1 | h1
  · exact h1
  · rw [List.getD_eq_getElem?_getD, List.getElem?_eq_none h1] at h; cases h
theorem Vis.up (h : Vis m S N S1 R) {i : Nat} (hi : S.getD i false = true) : S1.getD i false = true := (h.mem i (getD_lt hi)).2 (.inl hi)
theorem Vis.nil : Vis m S [] S R := ⟨rfl, fun i _ => by simp, by simp, by simp, by simp, by simp⟩
theorem Vis.trans (h : Vis m S N1 S1 R) (h2 : Vis m S1 N2 S2 R) : Vis m S (N1 ++ N2) S2 R := by
  refine ⟨h2.len.trans h.len, fun i hi => ?_, ?_, fun t ht => ?_, fun t ht => ?_, fun C hC hR t ht => ?_⟩
  · rw [h2.mem i (by rw [h.len]; exact hi), h.mem i hi, List.mem_append, or_assoc]
  · rw [List.nodup_append]
    refine ⟨h.nd, h2.nd, fun t ht u hu e => ?_⟩
    subst e
    obtain ⟨f1, f2, f3⟩ := h.fresh t ht
    obtain ⟨_, _, g3⟩ := h2.fresh t hu
    have : S1.getD t.toNat false = true := (h.mem t.toNat (by omega)).2 (.inr (by rw [Int.toNat_of_nonneg f1]; exact ht))
    rw [this] at g3; cases g3
  · rcases List.mem_append.1 ht with ht | ht
    · exact h.fresh t ht
    · obtain ⟨g1, g2, g3⟩ := h2.fresh t ht
      rw [h.len] at g2
      refine ⟨g1, g2, ?_⟩
      cases hs : S.getD t.toNat false
      · rfl
      · rw [h.up hs] at g3; cases g3
  · rcases List.mem_append.1 ht with ht | ht
    · intro a ha o ho
      exact h2.up (h.closed t ht a ha o ho)
    · exact h2.closed t ht
  · rcases List.mem_append.1 ht with ht | ht
    · exact h.min C hC hR t ht
    · exact h2.min C hC hR t ht
theorem Vis.weaken {R' : Int → Prop} (h : Vis m S N S1 R) (hR : ∀ r, R r → R' r) : Vis m S N S1 R' := ⟨h.len, h.mem, h.nd, h.fresh, h.closed, fun C hC hr => h.min C hC fun r hx => hr r (hR r hx)⟩
def Succ (m : Mdp) (s r : Int) : Prop := ∃ a ∈ m.states.getD s.toNat [], ∃ o ∈ a.next, r = o.to
/-- One visit: the state itself, then all its successors. -/
theorem Vis.wrap {s : Int} (hl : S.length = m.states.length) (h0 : 0 ≤ s) (h1 : s < S.length) (hs : S.getD s.toNat false = false) (h : Vis m (S.set s.toNat true) N S2 (Succ m s)) (hall : ∀ a ∈ m.states.getD s.toNat [], ∀ o ∈ a.next, S2.getD o.to.toNat false = true) : Vis m S ([s] ++ N) S2 (· = s) := by
  have hk : s.toNat < S.length := by omega
  have hlen : (S.set s.toNat true).length = S.length := List.length_set
  refine ⟨h.len.trans hlen, fun i hi => ?_, ?_, fun t ht => ?_, fun t ht => ?_, fun C hC hR t ht => ?_⟩
  · rw [h.mem i (by rw [hlen]; exact hi), set_getD hk, List.mem_append, List.mem_singleton]
    constructor
    · rintro ((h3 | h3) | h3)
      · exact .inl h3
      · exact .inr (.inl (by omega))
      · exact .inr (.inr h3)
    · rintro (h3 | h3 | h3)
      · exact .inl (.inl h3)
      · exact .inl (.inr (by omega))
      · exact .inr h3
  · rw [List.singleton_append, List.nodup_cons]
    refine ⟨fun hm => ?_, h.nd⟩
    have := (h.fresh s hm).2.2
    rw [(set_getD hk).2 (.inr rfl)] at this; cases this
  · rcases List.mem_append.1 ht with ht | ht
    · obtain rfl := List.mem_singleton.1 ht
      exact ⟨h0, h1, hs⟩
    · obtain ⟨g1, g2, g3⟩ := h.fresh t ht
      rw [hlen] at g2
      refine ⟨g1, g2, ?_⟩
      cases hx : S.getD t.toNat false
      · rfl
      · rw [(set_getD hk).2 (.inl hx)] at g3; cases g3
  · rcases List.mem_append.1 ht with ht | ht
    · obtain rfl := List.mem_singleton.1 ht
      exact hall
    · exact h.closed t ht
  · have hCs : C s := hR s rfl
    rcases List.mem_append.1 ht with ht | ht
    · obtain rfl := List.mem_singleton.1 ht
      exact hCs
    · refine h.min C hC (fun r hr => ?_) t ht
      obtain ⟨a, ha, o, ho, rfl⟩ := hr
      exact hC s h0 (by omega) hCs a ha o ho
theorem Vis.root {s : Int} (h0 : 0 ≤ s) (h1 : s < S.length) (h : Vis m S ([s] ++ N) S2 R) : S2.getD s.toNat false = true := (h.mem s.toNat (by omega)).2 (.inr (by simp; left; omega))
/-- A visit of one that is seen. -/
theorem Vis.same {s : Int} : Vis m S [] S (· = s) := Vis.nil
theorem Vis.less (h : Vis m S N S1 R) : unseen S1 ≤ unseen S := unseen_mono h.len.symm fun _ hi => h.up hi
end
/-- The states that Reach answers. -/
structure Reached (m : Mdp) (s : Int) (l : List Int) : Prop where
  sorted : l.Pairwise (· < ·)
  self : s ∈ l
  range : ∀ t ∈ l, 0 ≤ t ∧ t < m.states.length
  closed : ∀ t ∈ l, ∀ a ∈ m.states.getD t.toNat [], ∀ o ∈ a.next, o.to ∈ l
  min : ∀ C : Int → Prop, Closed m C → C s → ∀ t ∈ l, C t
theorem Vis.reached {m : Mdp} {N : List Int} {S2 : List Bool} {s : Int} (hto : ∀ t ∈ N, ∀ a ∈ m.states.getD t.toNat [], ∀ o ∈ a.next, 0 ≤ o.to ∧ o.to < m.states.length) (h0 : 0 ≤ s) (h1 : s < m.states.length) (h : Vis m (List.replicate m.states.length false) N S2 (· = s)) (hs : S2.getD s.toNat false = true) :
    Reached m s (N.mergeSort fun x y => decide (x ≤ y)) := by
  have hlen : (List.replicate m.states.length false).length = m.states.length := List.length_replicate
  have hrep : ∀ i : Nat, (List.replicate m.states.length false).getD i false = false := fun i => by
    rw [List.getD_eq_getElem?_getD, List.getElem?_replicate]; split <;> rfl
  have hmem : ∀ t : Int, t ∈ N.mergeSort (fun x y => decide (x ≤ y)) ↔ t ∈ N := fun t => List.mem_mergeSort
  have hin : ∀ i : Nat, i < m.states.length → S2.getD i false = true → (i : Int) ∈ N := fun i hi hx => by
    rcases (h.mem i (by rw [hlen]; exact hi)).1 hx with h2 | h2
    · rw [hrep] at h2; cases h2
    · exact h2
  refine ⟨?_, ?_, fun t ht => ?_, fun t ht a ha o ho => ?_, fun C hC hCs t ht => ?_⟩
  · have p1 : (N.mergeSort fun x y => decide (x ≤ y)).Pairwise (fun a b => decide (a ≤ b) = true) := List.pairwise_mergeSort (fun a b c h1 h2 => by simp at *; omega) (fun a b => by simp; omega) N
    have p2 : (N.mergeSort fun x y => decide (x ≤ y)).Nodup := (List.mergeSort_perm N _).nodup_iff.2 h.nd
    refine (List.Pairwise.and p1 p2).imp ?_
    rintro a b ⟨h3, h4⟩
    have := of_decide_eq_true h3
    omega
  · rw [hmem]
    have := hin s.toNat (by omega) hs
    rwa [Int.toNat_of_nonneg h0] at this
  · rw [hmem] at ht
    obtain ⟨g1, g2, _⟩ := h.fresh t ht
    rw [hlen] at g2
    exact ⟨g1, g2⟩
  · rw [hmem] at ht ⊢
    have h3 := h.closed t ht a ha o ho
    obtain ⟨k1, k2⟩ := hto t ht a ha o ho
    have := hin o.to.toNat (by omega) h3
    rwa [Int.toNat_of_nonneg k1] at this
  · rw [hmem] at ht
    exact h.min C hC (fun r hr => hr ▸ hCs) t ht
/-! ### Rows of bool -/
def bvals (l : List Bool) : Array Value := (l.map Value.bool).toArray
theorem bvals_rep (n : Nat) : (List.replicate n (Value.bool false)).toArray = bvals (List.replicate n false) := by simp [bvals]
theorem bvals_size (l : List Bool) : (bvals l).size = l.length := by simp [bvals]
theorem bvals_set {l : List Bool} {k : Nat} {x : Bool} : setCells (bvals l) k [.bool x] = bvals (l.set k x) := by
  simp [setCells, bvals, List.map_set]
theorem St.boolCells {E : Nat → Prop} {w0 w : World} {X Y : Hid} {M : List (Nat × Obj)} (h : St E w0 X w Y M) (i : Nat) {g : Nat} {T : TypeId} {l : List Bool} {k : Nat} (hi : M[i]? = some (g, .cells (bvals l) T (0, 0))) (hk : k < l.length) : CellsAt w ⟨g, k, none⟩ [.bool (l.getD k false)] := by
  refine h.cells i hi ?_
  simp only [bvals, List.length_singleton]
  rw [List.drop_eq_getElem_cons (by simpa using hk)]
  simp [List.getD_eq_getElem?_getD, List.getElem?_eq_getElem hk]
section
variable {P : Program} {Q : Exit → Act → World → Prop} {K : Act → World → Prop} {a : Act} {o : Oper} {n d : Nat} {L : List (Nat × Value)} {D : List Deferred} {w : World}
/-- A call of which the whole is told by its contract. -/
theorem op_callF {fx : Operand} {xs : Array Operand} {ts : Array TypeId} {f : FuncId} {cap : Array Value} {vs : Array Value} {Φ : World → Value → Prop} (hF : Fr n a L D) (hc : opk L o d n = true)
    (ho : o.op = .call { callee := .value fx, args := xs, argTypes := ts }) (hf : evL L fx = .func (.func f) #[] cap) (hargs : xs.map (evL L) ++ cap = vs)
    (hcall : ∀ w, (callFunc f vs).run P w = .ok (.enter f vs) w) (hcon : Calls P f vs w (fun e w' => ∃ v, e = .returned v ∧ Φ w' v))
    (k : ∀ v w1, Φ w1 v → ∀ a1, Fr n a1 ((d, v) :: L) D → K a1 w1) : o.wp P a w K Q := by
  simp only [opk, Bool.and_eq_true] at hc
  obtain ⟨hd, hlt⟩ := dstIs_spec hc.2
  unfold Oper.wp
  rw [hF.exec hc.1]
  have hrun : (execOp (evL L) o).run P w = .ok (.enter f vs) w := by
    unfold execOp
    simp only [ho, resolve, hf, Deferred.ofValue, Sem.run_bind, Sem.run_pure, Result.andThen_ok, invoke]
    simp only [← hargs] at hcall ⊢
    simpa using hcall w
  rw [hrun]
  show Calls P f vs w _
  refine hcon.mono ?_
  rintro e w1 ⟨v, rfl, hΦ⟩
  show K (a.put o.dst v) w1
  rw [hd]
  exact k v w1 hΦ _ (hF.put hlt v)
end
theorem m_range {m : Mdp} {sx : List Actn} {xa : Actn} {ox : Out} (h : m.chk = 0) (hs : sx ∈ m.states) (ha : xa ∈ sx) (ho : ox ∈ xa.next) : 0 ≤ ox.to ∧ ox.to < m.states.length := by
  obtain ⟨_, c2, _, _⟩ := chkAct_ok (((Mdp.chk_ok h).2.2.2.2.2 sx hs).2.2 xa ha)
  exact ⟨(c2 ox ho).1, (c2 ox ho).2.1⟩
end Go.Gv
/- The chapter's small process. By an AI agent; no program in sight. -/
namespace Go.Gv
open Go.RowKit
theorem kr0 {p : Prop} (h : p := by kernel_rfl) : p := h
/-- p / q, as Of answers it. -/
def ofQ (p q : Int) : Rat := mkRat (sgn (!(decide (p < 0) == decide (q < 0))) p.natAbs) q.natAbs
def listV (q : Int) (ps : List Int) : List Raw := ps.map fun p => .of (ofQ p q)
def smallM : Mdp := ⟨.of (ofQ 1 2), [[⟨.of 1, [⟨0, .of 1⟩]⟩, ⟨.of 3, [⟨1, .of 1⟩]⟩], [⟨.zero, [⟨1, .of 1⟩]⟩]]⟩
theorem sm_chk : smallM.chk = 0 := kr0
theorem sm_s0 : smallM.scoreAt (listV 1 [4, 2]) 0 0 = (.of 3, 0) := kr0
theorem sm_s1 : smallM.scoreAt (listV 1 [4, 2]) 0 1 = (.of 4, 0) := kr0
theorem sm_s2 : smallM.scoreAt (listV 1 [4, 2]) 1 0 = (.of 1, 0) := kr0
theorem sm_back : smallM.backV (listV 1 [4, 2]) = (listV 1 [3, 1], [0, 0], 0) := kr0
theorem sm_under : smallM.underV [1, 0] (listV 1 [4, 2]) = (listV 1 [4, 1], 0) := kr0
theorem sm_list : [Raw.of 3, .of 4, .of 1] = listV 1 [3, 4, 1] := kr0
theorem sm_reach {l : List Int} (h : Reached smallM 1 l) : l = [1] := by
  have hC : Closed smallM (fun t => t = 1) := by
    rintro t h0 h1 rfl a ha o ho
    have ha' : a ∈ [(⟨.zero, [⟨1, .of 1⟩]⟩ : Actn)] := ha
    obtain rfl := List.mem_singleton.1 ha'
    obtain rfl := List.mem_singleton.1 ho
    rfl
  have hall := h.min _ hC rfl
  have hs := h.self
  have hp := h.sorted
  match l, hall, hs, hp with
  | [], _, hs, _ => cases hs
  | [x], hall, _, _ => rw [hall x (by simp)]
  | x :: y :: l, hall, _, hp =>
    have e1 := hall x (by simp)
    have e2 := hall y (by simp)
    have := (List.pairwise_cons.1 hp).1 y (by simp)
    omega
end Go.Gv

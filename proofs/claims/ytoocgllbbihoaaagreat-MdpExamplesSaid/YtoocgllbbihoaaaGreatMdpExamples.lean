/- The law MdpExamples answers true. Conditions: none. By an AI agent. -/
import Derived.ProofKit
import Derived.SizedLaws
import Derived.Test.YtoocgllbbihoaaaGreatRows
import Derived.Test.YtoocgllbbihoaaaGreatBaseA
import Derived.Test.YtoocgllbbihoaaaGreatBaseB
import Derived.Test.YtoocgllbbihoaaaGreatBaseC
import Derived.Test.YtoocgllbbihoaaaGreatBaseD
import Derived.Test.YtoocgllbbihoaaaGreatBaseE
import Derived.Test.YtoocgllbbihoaaaGreatBaseF
import Derived.Test.YtoocgllbbihoaaaGreatBaseG
set_option linter.unusedVariables false
set_option linter.unusedSimpArgs false
set_option linter.unnecessarySimpa false
/- The reference's distance, and the states that it reaches. By an AI agent; no program in sight. -/
namespace Go.Gv
open Go.RowKit
/-! ### Distance -/
def far (m x : Raw) : Raw := if greater x m = true then x else m
def distM : Raw → List Raw → List Raw → Raw × Int
  | r, x :: xs, y :: ys => if opE x y (x.rat - y.rat) = 0 then distM (far r (distR x y)) xs ys else (.zero, opE x y (x.rat - y.rat))
  | r, _, _ => (r, 0)
section
variable {r x y : Raw} {xs ys : List Raw} {k : Nat}
theorem distM_step (hx : xs[k]? = some x) (hy : ys[k]? = some y) (h : opE x y (x.rat - y.rat) = 0) : distM r (xs.drop k) (ys.drop k) = distM (far r (distR x y)) (xs.drop (k + 1)) (ys.drop (k + 1)) := by
  rw [dropC hx, dropC hy, distM, if_pos h]
theorem distM_stop (hx : xs[k]? = some x) (hy : ys[k]? = some y) (h : opE x y (x.rat - y.rat) ≠ 0) : distM r (xs.drop k) (ys.drop k) = (.zero, opE x y (x.rat - y.rat)) := by
  rw [dropC hx, dropC hy, distM, if_neg h]
theorem distM_end (h : xs.length ≤ k) : distM r (xs.drop k) (ys.drop k) = (r, 0) := by
  rw [List.drop_eq_nil_of_le h]; simp [distM]
theorem cmp_swap (hx : x.chk = 0) (hy : y.chk = 0) : 0 < cmpR x y ↔ greater x y = true := by
  unfold greater
  rw [decide_eq_true_iff, cmp_lt hy hx]
  have := cmp_le hx hy
  constructor
  · intro h; have h1 : ¬ x.rat ≤ y.rat := fun e => by have := this.2 e; omega
    exact Rat.not_le.1 h1
  · intro h; have h1 : ¬ x.rat ≤ y.rat := Rat.not_le.2 h
    have h2 : ¬ cmpR x y ≤ 0 := fun e => h1 (this.1 e)
    omega
end
theorem leastL_val {less : Raw → Raw → Bool} {D : List Raw} : ∀ (l : List Raw) (b i : Nat), D.drop i = l → D.getD (leastL less D b i l) .zero = l.foldl (fun m x => if less x m = true then x else m) (D.getD b .zero)
  | [], b, i, _ => rfl
  | x :: l, b, i, h => by
    have hx : D[i]? = some x := by rw [← List.head?_drop, h]; rfl
    have hl : D.drop (i + 1) = l := by rw [← List.tail_drop, h]; rfl
    rw [leastL, leastL_val l _ (i + 1) hl, List.foldl_cons]
    congr 1
    split
    · rw [List.getD_eq_getElem?_getD, hx]; rfl
    · rfl
theorem distM_go : ∀ {xs ys acc : List Raw} {r : Raw}, (distM r xs ys).2 = (distGo acc xs ys).2 ∧ ((distM r xs ys).2 = 0 → (distM r xs ys).1 = (List.zipWith distR xs ys).foldl far r) ∧ ((distM r xs ys).2 ≠ 0 → (distM r xs ys).1 = .zero)
  | [], ys, acc, r => by cases ys <;> simp [distM, distGo]
  | x :: xs, [], acc, r => by simp [distM, distGo]
  | x :: xs, y :: ys, acc, r => by
    rw [distM, distGo]
    by_cases h : opE x y (x.rat - y.rat) = 0
    · rw [if_pos h, if_pos h, List.zipWith_cons_cons, List.foldl_cons]
      exact distM_go
    · rw [if_neg h, if_neg h]
      exact ⟨rfl, fun h0 => absurd h0 h, fun _ => rfl⟩
theorem distM_eq {xs ys : List Raw} (h : xs.length = ys.length) : distV xs ys = distM .zero xs ys := by
  unfold distV
  rw [if_pos h]
  obtain ⟨h1, h2, h3⟩ := distM_go (xs := xs) (ys := ys) (acc := [.zero]) (r := .zero)
  split
  · rename_i h0
    refine Prod.ext ?_ (by rw [h1]; exact h0.symm)
    rw [h2 (h1.trans h0), (distGo_ok h0).1]
    show (([Raw.zero] ++ List.zipWith distR xs ys).getD (leastV greater ([Raw.zero] ++ List.zipWith distR xs ys)) Raw.zero) = _
    unfold leastV
    rw [leastL_val (D := [Raw.zero] ++ List.zipWith distR xs ys) ([Raw.zero] ++ List.zipWith distR xs ys) 0 0 rfl]
    show List.foldl _ Raw.zero (.zero :: List.zipWith distR xs ys) = _
    rw [List.foldl_cons]
    show List.foldl far (if greater Raw.zero Raw.zero = true then Raw.zero else Raw.zero) (List.zipWith distR xs ys) = _
    rw [ite_self]
  · rename_i h0
    have h4 : (distM .zero xs ys).2 ≠ 0 := by rw [h1]; exact h0
    exact Prod.ext (h3 h4).symm h1.symm
/-! ### Reach -/
def inB (S : List Bool) (i : Nat) : Prop := S.getD i false = true
/-- In the middle of a round over the states, from S0 on: those below t are done. -/
structure Rt (m : Mdp) (S0 S : List Bool) (t : Nat) : Prop where
  len : S.length = m.states.length
  up : ∀ i, inB S0 i → inB S i
  done : ∀ u, u < t → inB S0 u → ∀ a ∈ m.states.getD u [], ∀ o ∈ a.next, inB S o.to.toNat
  min : ∀ C : Int → Prop, Closed m C → (∀ i : Nat, inB S0 i → C i) → ∀ i : Nat, inB S i → C i
/-- After some rounds. -/
structure Rr (m : Mdp) (s : Int) (S : List Bool) (k : Nat) : Prop where
  len : S.length = m.states.length
  self : inB S s.toNat
  min : ∀ C : Int → Prop, Closed m C → C s → ∀ i : Nat, inB S i → C i
  fin : (∀ t, inB S t → ∀ a ∈ m.states.getD t [], ∀ o ∈ a.next, inB S o.to.toNat) ∨ unseen S + k + 1 ≤ m.states.length
theorem inB_lt {S : List Bool} {i : Nat} (h : inB S i) : i < S.length := getD_lt h
theorem unseen_lt : ∀ {l l' : List Bool} {i : Nat}, l.length = l'.length → (∀ i : Nat, inB l i → inB l' i) → inB l' i → ¬ inB l i → unseen l' < unseen l
  | [], [], i, _, _, h, _ => by simp [inB] at h
  | [], _ :: _, _, h, _, _, _ => by simp at h
  | _ :: _, [], _, h, _, _, _ => by simp at h
  | b :: l, b' :: l', 0, hl, hu, h1, h2 => by
    simp only [inB, List.getD_cons_zero] at h1 h2
    have := unseen_mono (l := l) (l' := l') (by simpa using hl) (fun i hx => by simpa [inB] using hu (i + 1) (by simpa [inB] using hx))
    subst h1
    cases b
    · simp only [unseen]; simp; omega
    · exact absurd rfl h2
  | b :: l, b' :: l', i + 1, hl, hu, h1, h2 => by
    have ih := unseen_lt (l := l) (l' := l') (i := i) (by simpa using hl) (fun i hx => by simpa [inB] using hu (i + 1) (by simpa [inB] using hx)) (by simpa [inB] using h1) (by simpa [inB] using h2)
    have h0 := hu 0
    simp only [inB, List.getD_cons_zero] at h0
    simp only [unseen]
    cases b
    · cases b' <;> simp <;> omega
    · rw [h0 rfl]; simp; omega
section
variable {m : Mdp} {S0 S : List Bool} {s : Int} {t k : Nat}
theorem Rt.start (h : S.length = m.states.length) : Rt m S S 0 := ⟨h, fun _ h => h, fun _ h => absurd h (Nat.not_lt_zero _), fun _ _ h => h⟩
/-- One more is seen. -/
theorem Rt.set {x : Actn} {o : Out} (h : Rt m S0 S t) (ht : t < m.states.length) (hs : inB S t) (hx : x ∈ m.states.getD t []) (ho : o ∈ x.next) (h0 : 0 ≤ o.to ∧ o.to < m.states.length) : Rt m S0 (S.set o.to.toNat true) t := by
  have hk : o.to.toNat < S.length := by rw [h.len]; omega
  have hset : ∀ i, inB (S.set o.to.toNat true) i ↔ inB S i ∨ i = o.to.toNat := fun i => set_getD hk
  refine ⟨by rw [List.length_set]; exact h.len, fun i hi => (hset i).2 (.inl (h.up i hi)), fun u hu hi a ha o' ho' => (hset _).2 (.inl (h.done u hu hi a ha o' ho')), fun C hC hI i hi => ?_⟩
  rcases (hset i).1 hi with h1 | h1
  · exact h.min C hC hI i h1
  · subst h1
    have hct : C (t : Int) := h.min C hC hI t hs
    have := hC t (by omega) (by omega) hct x (by simpa using hx) o ho
    rwa [Int.toNat_of_nonneg h0.1]
theorem inB_set {i j : Nat} (h : inB S i) : inB (S.set j true) i := by
  have hlt := inB_lt h
  unfold inB at *
  rw [List.getD_eq_getElem?_getD, List.getElem?_set]
  split
  · split
    · rfl
    · rename_i h1 h2; subst h1; exact absurd hlt h2
  · rw [← List.getD_eq_getElem?_getD]; exact h
theorem inB_self {j : Nat} (h : j < S.length) : inB (S.set j true) j := (set_getD h).2 (.inr rfl)
theorem Rt.next (h : Rt m S0 S t) (hd : inB S0 t → ∀ a ∈ m.states.getD t [], ∀ o ∈ a.next, inB S o.to.toNat) : Rt m S0 S (t + 1) :=
  ⟨h.len, h.up, fun u hu hi => by
    rcases Nat.lt_or_ge u t with h1 | h1
    · exact h.done u h1 hi
    · obtain rfl : u = t := by omega
      exact hd hi, h.min⟩
theorem Rr.start (h0 : 0 ≤ s) (h1 : s < m.states.length) : Rr m s ((List.replicate m.states.length false).set s.toNat true) 0 := by
  have hk : s.toNat < (List.replicate m.states.length false).length := by simp; omega
  have hrep : ∀ i : Nat, ¬ inB (List.replicate m.states.length false) i := fun i => by
    unfold inB
    rw [List.getD_eq_getElem?_getD, List.getElem?_replicate]; split <;> simp
  have hset : ∀ i, inB ((List.replicate m.states.length false).set s.toNat true) i ↔ inB (List.replicate m.states.length false) i ∨ i = s.toNat := fun i => set_getD hk
  have hu : unseen (List.replicate m.states.length false) ≤ m.states.length := by
    have : ∀ n, unseen (List.replicate n false) ≤ n := by
      intro n; induction n with
      | zero => exact Nat.le_refl _
      | succ n ih => rw [List.replicate_succ, unseen]; simp; omega
    exact this _
  have hlt := unseen_set hk (by have := hrep s.toNat; unfold inB at this; simpa using this)
  refine ⟨by simp, inB_self hk, fun C _ hs i hi => ?_, .inr (by omega)⟩
  rcases (hset i).1 hi with h2 | h2
  · exact absurd h2 (hrep i)
  · subst h2; rwa [Int.toNat_of_nonneg h0]
/-- The end of a round. -/
theorem Rr.round (h : Rr m s S0 k) (hto : ∀ t, t < m.states.length → ∀ a ∈ m.states.getD t [], ∀ o ∈ a.next, 0 ≤ o.to ∧ o.to < m.states.length) (h0 : 0 ≤ s) (hr : Rt m S0 S m.states.length) : Rr m s S (k + 1) := by
  have hmin : ∀ C : Int → Prop, Closed m C → C s → ∀ i : Nat, inB S i → C i := fun C hC hs => hr.min C hC (h.min C hC hs)
  refine ⟨hr.len, hr.up _ h.self, hmin, ?_⟩
  by_cases hsame : ∀ i, inB S i → inB S0 i
  · exact .inl fun t ht a ha o ho => hr.done t (by rw [← hr.len]; exact inB_lt ht) (hsame t ht) a ha o ho
  · obtain ⟨i, hi⟩ := Classical.not_forall.1 hsame
    obtain ⟨h1, h2⟩ := Classical.not_imp.1 hi
    rcases h.fin with hc | hc
    · exfalso
      refine h2 ?_
      have hC : Closed m (fun x => 0 ≤ x ∧ inB S0 x.toNat) := fun t ht0 ht1 ht a ha o ho => by
        refine ⟨(hto t.toNat (by omega) a ha o ho).1, hc t.toNat ht.2 a ha o ho⟩
      have := hmin _ hC ⟨h0, h.self⟩ i h1
      simpa using this.2
    · have := unseen_lt (l := S0) (l' := S) (by rw [h.len, hr.len]) hr.up h1 h2
      exact .inr (by omega)
/-- The states seen below k. -/
def outL (S : List Bool) (k : Nat) : List Int := ((List.range k).filter fun i => S.getD i false).map fun (i : Nat) => (i : Int)
theorem outL_step (h : S.getD k false = true) : outL S (k + 1) = outL S k ++ [(k : Int)] := by
  unfold outL
  rw [List.range_succ, List.filter_append, List.map_append]
  simp only [List.filter_cons, List.filter_nil, h, if_true, List.map_cons, List.map_nil]
theorem outL_skip (h : ¬ S.getD k false = true) : outL S (k + 1) = outL S k := by
  unfold outL
  rw [List.range_succ, List.filter_append, List.map_append]
  simp only [List.filter_cons, List.filter_nil, h, List.map_nil, List.append_nil]
  simp
theorem outL_mem {i : Int} : i ∈ outL S k ↔ 0 ≤ i ∧ i < k ∧ inB S i.toNat := by
  unfold outL
  rw [List.mem_map]
  constructor
  · rintro ⟨j, hj, rfl⟩
    rw [List.mem_filter, List.mem_range] at hj
    exact ⟨by omega, by omega, by simpa [inB] using hj.2⟩
  · rintro ⟨h0, h1, h2⟩
    refine ⟨i.toNat, ?_, Int.toNat_of_nonneg h0⟩
    rw [List.mem_filter, List.mem_range]
    exact ⟨by omega, h2⟩
theorem Rr.reached (h : Rr m s S m.states.length) (hto : ∀ t, t < m.states.length → ∀ a ∈ m.states.getD t [], ∀ o ∈ a.next, 0 ≤ o.to ∧ o.to < m.states.length) (h0 : 0 ≤ s) (h1 : s < m.states.length) : Reached m s (outL S m.states.length) := by
  have hc := h.fin.resolve_right (by omega)
  refine ⟨?_, outL_mem.2 ⟨h0, h1, h.self⟩, fun t ht => ⟨(outL_mem.1 ht).1, (outL_mem.1 ht).2.1⟩, fun t ht a ha o ho => ?_, fun C hC hs t ht => ?_⟩
  · have h9 : ((List.range m.states.length).filter fun i => S.getD i false).Pairwise (fun a b : Nat => a < b) := List.Pairwise.filter _ List.pairwise_lt_range
    unfold outL
    exact List.pairwise_map.2 (h9.imp fun h => Int.ofNat_lt.2 h)
  · obtain ⟨g1, g2, g3⟩ := outL_mem.1 ht
    obtain ⟨k1, k2⟩ := hto t.toNat (by omega) a ha o ho
    exact outL_mem.2 ⟨k1, k2, hc t.toNat g3 a ha o ho⟩
  · obtain ⟨g1, g2, g3⟩ := outL_mem.1 ht
    have := h.min C hC hs t.toNat g3
    rwa [Int.toNat_of_nonneg g1] at this
end
theorem sorted_eq : ∀ {l l' : List Int}, l.Pairwise (· < ·) → l'.Pairwise (· < ·) → (∀ t, t ∈ l ↔ t ∈ l') → l = l'
  | [], [], _, _, _ => rfl
  | [], x :: l', _, _, h => by have := (h x).2 (by simp); simp at this
  | x :: l, [], _, _, h => by have := (h x).1 (by simp); simp at this
  | x :: l, y :: l', h1, h2, h => by
    rw [List.pairwise_cons] at h1 h2
    have e : x = y := by
      rcases List.mem_cons.1 ((h x).1 (by simp)) with e | e
      · exact e
      · rcases List.mem_cons.1 ((h y).2 (by simp)) with e' | e'
        · exact e'.symm
        · have := h1.1 y e'; have := h2.1 x e; omega
    subst e
    rw [sorted_eq h1.2 h2.2 fun t => ?_]
    constructor
    · intro ht
      rcases List.mem_cons.1 ((h t).1 (List.mem_cons_of_mem _ ht)) with e | e
      · subst e; have := h1.1 t ht; omega
      · exact e
    · intro ht
      rcases List.mem_cons.1 ((h t).2 (List.mem_cons_of_mem _ ht)) with e | e
      · subst e; have := h2.1 t ht; omega
      · exact e
theorem Reached.eq {m : Mdp} {s : Int} {l l' : List Int} (h : Reached m s l) (h' : Reached m s l') : l = l' :=
  sorted_eq h.sorted h'.sorted fun t => ⟨h.min (· ∈ l') (fun t _ _ ht a ha o ho => h'.closed t ht a ha o ho) h'.self t, h'.min (· ∈ l) (fun t _ _ ht a ha o ho => h.closed t ht a ha o ho) h.self t⟩
attribute [local semireducible] Go
/-- A store of 'true' into a row of truth values. -/
theorem zxB {r : Option Nat} {m : Nat} {P : Program} {Q : Exit → Act → World → Prop} {n : Nat} {D : List Deferred} {w : World} {c : Cf} {E : Nat → Prop} {w0 : World} {X Y : Hid} {M : List (Nat × Obj)} (i : Nat) {g k : Nat} {T : TypeId} {S : List Bool} (hS : St E w0 X w Y M) (hM : M[i]? = some (g, .cells (bvals S) T (0, 0))) (hk : k < S.length)
    (h : ∀ w1, St E w0 X w1 Y (M.set i (g, .cells (bvals (S.set k true)) T (0, 0))) → Le (rd w Y) (rd w1 Y) → Go r m P Q n D w1 (n0 c))
    (hc : isst n c = true := by kernel_rfl) (ho : (cop c).op = .store (stT (cop c)) (stA (cop c)) (stV (cop c)) := by kernel_rfl) (ha : evL c.L (stA (cop c)) = .pointer (some ⟨g, k, none⟩) := by kernel_rfl) (hv : evL c.L (stV (cop c)) = .bool true := by kernel_rfl)
    (ht : ldT P (stT (cop c)) = some (ldG' P (stT (cop c)), 1) := by kernel_rfl) : Go r m P Q n D w c := by
  simp only [isst, Bool.and_eq_true] at hc
  have hc1 := hc.1
  simp only [isop, Bool.and_eq_true] at hc1
  exact z_op hc.1 fun _ hF => zE i _ hF (by simp only [hc1.2.2.2, hc.2, Bool.and_self]) hS ho ha hv ht rfl rfl hM (by rw [bvals_size]; omega) bvals_set rfl fun w1 h2 h3 => h w1 h2 h3 _ hF
end Go.Gv
namespace Go.Proofs.YtoocgllbbihoaaaGreat
open Go Go.Gv Go.RowKit
set_option maxRecDepth 100000
set_option maxHeartbeats 1000000
theorem Distance21_c (w : World) (X : Hid) (hX : ∀ k o, X k o → k < w.heap.size) (ad : Option Addr) (len cap : Nat) (xs : List Raw) (h : Rats (rd w X) ad len cap xs) (ad2 : Option Addr) (len2 cap2 : Nat) (ys : List Raw) (h2 : Rats (rd w X) ad2 len2 cap2 ys) (hm : len ≤ 1099511627776) (hm2 : len2 ≤ 1099511627776) : Calls Tryz.prog 27 #[.slice ad len cap, .slice ad2 len2 cap2] w (Ret E0 w fun w' v => ∃ u, v = .tuple #[u, .int .i64 (distV xs ys).2] ∧ RawX X w' u (distV xs ys).1) := by
 obtain rfl := h.hlen
 have hcap := h.hcap
 have hbig := h.hbig
 obtain rfl := h2.hlen
 have hcap2 := h2.hcap
 have hbig2 := h2.hbig
 refine zen Tryz.func27 ?_
 have A0 : St E0 w X w X [] := St.start hX
 refine zz 2 ?_
 refine zn pn (.cells #[.bool false, .slice none 0 0, .slice none 0 0] 25 (0, 0)) A0 ?_
 intro b3 w3 Y3 A3 j3 hu3
 refine zz 13 ?_
 refine zb 14 (b := ((xs.length : Int) != (ys.length : Int))) (fun hc4 => ?_) (fun hc4 => ?_)
 ·
  have ht5 : (xs.length : Int) ≠ (ys.length : Int) := by simpa using hc4
  have hend : distV xs ys = (.zero, 16) := if_neg (by omega)
  refine zz 4 ?_
  refine zx 0 #[.bool false, .slice none 0 0, .slice none 0 0] A3 ?_
  intro w6 A6 j6
  refine zz 5 ?_
  refine zrS [.cell 4 25, .tmp 5] (v := .tuple #[.agg #[.bool false, .slice none 0 0, .slice none 0 0], .int .i64 16]) (Res.cM A6 0 (Res.tZ Res.nil)) ?_
  exact ⟨A6.upd, _, rfl, _, by rw [hend], by rw [hend]; exact raw_zero⟩
 have ht7 : (xs.length : Int) = (ys.length : Int) := by simpa using hc4
 have hdv := distM_eq (xs := xs) (ys := ys) (by omega)
 refine zz 6 ?_
 refine zn pn (.cells #[.bool false, .slice none 0 0, .slice none 0 0] 25 (0, 0)) A3 ?_
 intro b9 w9 Y9 A9 j9 hu9
 refine zx 0 #[.bool false, .slice none 0 0, .slice none 0 0] A9 ?_
 intro w10 A10 j10
 refine zz 9 ?_
 refine zlp Tryz.f27 [] [1, 1, 1, 0, 1, 0] (fun (k : Nat) => [(0, .slice ad xs.length cap), (1, .slice ad2 ys.length cap2), (4, .pointer (some ⟨b3, 0, none⟩)), (6, .pointer (some ⟨b9, 0, none⟩)), (7, .int .i64 (k : Int))]) (fun (k : Nat) w1 => ∃ (Y1 : Hid) (r : Raw) (ar : Option Addr) (lr : Nat) (cr : Nat) (br : Option Addr) (mr : Nat) (dr : Nat), St E0 w X w1 Y1 [(b9, .cells #[.bool r.neg, .slice ar lr cr, .slice br mr dr] 25 (0, 0)), (b3, .cells #[.bool false, .slice none 0 0, .slice none 0 0] 25 (0, 0))] ∧ Le (rd w10 Y9) (rd w1 Y1) ∧ (Limbs (rd w1 Y1) ar lr cr r.ln) ∧ (Limbs (rd w1 Y1) br mr dr r.ld) ∧ (distM r (xs.drop k) (ys.drop k) = distM .zero xs ys) ∧ (r.chk = 0) ∧ (k ≤ xs.length)) (fun (k : Nat) => xs.length - k) 0 ?_ ?_
 ·
  refine ⟨_, .zero, none, 0, 0, none, 0, 0, A10, Le.refl _, Limbs.nil none (by omega), Limbs.nil none (by omega), rfl, zero_chk, Nat.zero_le _⟩
 rintro k w11 K11 G11 ⟨Y11, r, ar, lr, cr, br, mr, dr, A11, j11, hp11_0, hp11_1, hp11_2, hp11_3, hp11_4⟩
 have hr1 := hp11_0
 have hr2 := hp11_1
 have hgo := hp11_2
 have hrc := hp11_3
 have hkl := hp11_4
 refine zz 9 ?_
 refine zt 20 (p := (k : Int) < (xs.length : Int)) (fun ht12 => ?_) (fun ht12 => ?_)
 ·
  obtain ⟨bx, offx, xx, anx, lnx, cnx, amx, lmx, cmx, rfl, hxx, hAx, hLx, hMx⟩ := h.cell (k := k) (by omega)
  obtain ⟨bz, offz, xz, anz, lnz, cnz, amz, lmz, cmz, rfl, hxz, hAz, hLz, hMz⟩ := h2.cell (k := k) (by omega)
  refine zz 6 ?_
  refine zdr A11 ?_
  refine gz [0, 1] ?_
  refine gi 2 (b := bx) (off := offx) (len := xs.length) (cap := cap) (kd := .i64) (i := (k : Int)) 3 (offx + k * 3) ?_
  have hc1_ := (Le3 j3 j9 j10).trans j11
  refine gl 3 ((hAx.mono hc1_)) ?_
  refine gz [4, 5] ?_
  refine gi 6 (b := bz) (off := offz) (len := ys.length) (cap := cap2) (kd := .i64) (i := (k : Int)) 3 (offz + k * 3) ?_
  have hc2_ := (Le3 j3 j9 j10).trans j11
  refine gl 7 ((hAz.mono hc2_)) ?_
  refine gp (al 12 8 pn (.cells #[.bool false, .slice none 0 0, .slice none 0 0] 25 (0, 0))) ?_
  have hc3_ := (Le3 j3 j9 j10).trans j11
  refine gC 8 (fun w13 Y13 _ A13 j13 => (rSub6_c _ _ A13.lt xx _ _ _ (hLx.mono (hc3_.trans j13)) _ _ _ (hMx.mono (hc3_.trans j13)) xz _ _ _ (hLz.mono (hc3_.trans j13)) _ _ _ (hMz.mono (hc3_.trans j13)))) ?_ (hPd := PdOk.nil.k)
  rintro v14 w13 Y14 w14 A13 j14 ⟨u14, rfl, ⟨ad14, len14, cap14, ae14, le14, ce14, rfl, hN14, hD14⟩⟩
  refine gz [9, 10, 11] ?_
  refine gs1 (fun b15 => ?_) PdOk.nil.k
  refine gX 13 0 #[.bool ((opR xx xz (xx.rat - xz.rat)).neg), .slice ad14 len14 cap14, .slice ae14 le14 ce14] ?_
  intro w16 Y16 j16
  refine gz [14] ?_
  refine gend (fun w17 Y17 A17 j17 => ?_)
  refine zz 8 ?_
  refine zb 36 (b := ((opE xx xz (xx.rat - xz.rat)) != 0)) (fun hc18 => ?_) (fun hc18 => ?_)
  ·
   have ht19 : (opE xx xz (xx.rat - xz.rat)) ≠ 0 := by simpa using hc18
   have hend := hdv.trans (hgo.symm.trans (distM_stop hxx hxz ht19))
   refine zz 5 ?_
   refine zx 2 #[.bool false, .slice none 0 0, .slice none 0 0] A17 ?_
   intro w20 A20 j20
   refine zz 10 ?_
   refine zrS [.cell 4 25, .tmp 5] (v := .tuple #[.agg #[.bool false, .slice none 0 0, .slice none 0 0], .int .i64 (opE xx xz (xx.rat - xz.rat))]) (Res.cM A20 2 (Res.tZ Res.nil)) ?_
   exact ⟨A20.upd, _, rfl, _, by rw [hend], by rw [hend]; exact raw_zero⟩
  have ht21 : (opE xx xz (xx.rat - xz.rat)) = 0 := by simpa using hc18
  have hop : opE xx xz (xx.rat - xz.rat) = 0 := by simpa using ht21
  have hdc := (distR_ok hop).1
  refine zz 6 ?_
  refine zx 0 #[.bool false, .slice ad14 len14 cap14, .slice ae14 le14 ce14] A17 ?_
  intro w22 A22 j22
  refine zz 4 ?_
  refine zo 0 A22 ?_
  refine zo 1 A22 ?_
  have hc4_ := (Le3 j14 j16 j17).trans j22
  refine zc A22 (order6_r _ _ A22.lt (distR xx xz) _ _ _ (hN14.mono (Le3 j16 j17 j22)) _ _ _ (hD14.mono (Le3 j16 j17 j22)) r _ _ _ (hr1.mono hc4_) _ _ _ (hr2.mono hc4_) hdc hrc) ?_
  rintro v24 w24 A24 j24 hu24 rfl
  refine zz 3 ?_
  refine zt 43 (p := (cmpR (distR xx xz) r) > 0) (fun ht25 => ?_) (fun ht25 => ?_)
  ·
   refine zz 2 ?_
   refine zo 0 A24 ?_
   refine zx 1 #[.bool false, .slice ad14 len14 cap14, .slice ae14 le14 ce14] A24 ?_
   intro w26 A26 j26
   refine zz 6 ?_
   refine zw 22 (x := (k : Int) + 1) ?_
   refine zz 2 ?_
   have hc5_ := (Le4 j16 j17 j22 j24).trans j26
   have hc6_ := (Le6 j11 j14 j16 j17 j22 j24).trans j26
   refine znext (fun a h => G11 (k + 1) _ a h ⟨_, (distR xx xz), ad14, len14, cap14, ae14, le14, ce14, A26.tail, hc6_, (hN14.mono hc5_), (hD14.mono hc5_), by have h9 := (distM_step (r := r) hxx hxz hop).symm.trans hgo; rwa [show far r (distR xx xz) = (distR xx xz) from if_pos ((cmp_swap hdc hrc).1 (by omega))] at h9, hdc, by omega⟩ ?_)
   first | omega | (simp <;> omega)
  refine zz 7 ?_
  refine zw 22 (x := (k : Int) + 1) ?_
  refine zz 2 ?_
  have hc7_ := hc4_.trans j24
  have hc8_ := (Le5 j11 j14 j16 j17 j22).trans j24
  refine znext (fun a h => G11 (k + 1) _ a h ⟨_, r, ar, lr, cr, br, mr, dr, A24.tail, hc8_, (hr1.mono hc7_), (hr2.mono hc7_), by have h9 := (distM_step (r := r) hxx hxz hop).symm.trans hgo; rwa [show far r (distR xx xz) = r from if_neg (fun e => absurd ((cmp_swap hdc hrc).2 e) (by omega))] at h9, hrc, by omega⟩ ?_)
  first | omega | (simp <;> omega)
 have hend := hdv.trans (hgo.symm.trans (distM_end (by omega)))
 refine zz 8 ?_
 refine zo 0 A11 ?_
 refine zx 1 #[.bool r.neg, .slice ar lr cr, .slice br mr dr] A11 ?_
 intro w27 A27 j27
 refine zz 4 ?_
 refine zrS [.cell 4 25, .tmp 5] (v := .tuple #[.agg #[.bool r.neg, .slice ar lr cr, .slice br mr dr], .int .i64 0]) (Res.cM A27 1 (Res.tZ Res.nil)) ?_
 exact ⟨A27.upd, _, rfl, _, by rw [hend], by rw [hend]; exact ⟨_, _, _, _, _, _, rfl, (hr1.mono j27).mono A27.le, (hr2.mono j27).mono A27.le⟩⟩
end Go.Proofs.YtoocgllbbihoaaaGreat
namespace Go.Proofs.YtoocgllbbihoaaaGreat
open Go Go.Gv Go.RowKit
set_option maxRecDepth 100000
set_option maxHeartbeats 1000000
theorem score_len {m : Mdp} {sx : List Actn} {xa : Actn} (h : m.chk = 0) (hs : sx ∈ m.states) (ha : xa ∈ sx) : xa.next.length ≤ 64 ∧ sx.length ≤ 6 := by
  obtain ⟨_, _, _, _, _, hst⟩ := Mdp.chk_ok h
  exact ⟨(chkAct_ok ((hst sx hs).2.2 xa ha)).2.2.2, (hst sx hs).2.1⟩
theorem ReachV.eq {m : Mdp} {s : Int} {l l' : List Int} {e e' : Int} (h : ReachV m s l e) (h' : ReachV m s l' e') : l' = l ∧ e' = e := by
  rcases h with ⟨a, rfl, rfl⟩ | ⟨a, b, rfl, rfl⟩ | ⟨a, b, c, rfl, d⟩ <;> rcases h' with ⟨a', rfl, rfl⟩ | ⟨a', b', rfl, rfl⟩ | ⟨a', b', c', rfl, d'⟩ <;> first | exact ⟨rfl, rfl⟩ | (exfalso; omega) | exact ⟨d'.eq d, rfl⟩
theorem Reach21_c (w : World) (X : Hid) (hX : ∀ k o, X k o → k < w.heap.size) (m : Mdp) (ad : Option Addr) (len cap : Nat) (h : Limbs (rd w X) ad len cap m.disc.ln) (ae : Option Addr) (le ce : Nat) (h2 : Limbs (rd w X) ae le ce m.disc.ld) (st : Option Addr) (ls cs : Nat) (hst : StatesR (rd w X) st ls cs m.states) (s : Int) : Calls Tryz.prog 28 #[.agg #[.bool m.disc.neg, .slice ad len cap, .slice ae le ce, .slice st ls cs], .int .i64 s] w (Ret E0 w fun w' u => ∃ (ad : Option Addr) (len cap : Nat) (l : List Int) (e : Int), u = .tuple #[.slice ad len cap, .int .i64 e] ∧ Ints (rd w' X) ad len cap l ∧ ReachV m s l e) := by
 obtain rfl := hst.hlen
 have hcaps := hst.hcap
 have hbigs := hst.hbig
 refine zen Tryz.func28 ?_
 have A0 : St E0 w X w X [] := St.start hX
 refine zz 2 ?_
 refine zn pn (.cells #[.bool m.disc.neg, .slice ad len cap, .slice ae le ce, .slice st m.states.length cs] 28 (0, 0)) A0 ?_
 intro b3 w3 Y3 A3 j3 hu3
 refine zz 6 ?_
 refine zo 0 A3 ?_
 refine zc A3 (mCheck6_c _ _ A3.lt m _ _ _ (h.mono j3) _ _ _ (h2.mono j3) _ _ _ (hst.mono j3)) ?_
 rintro v5 w5 A5 j5 hu5 rfl
 refine zz 10 ?_
 refine zb 17 (b := ((m.chk) != 0)) (fun hc6 => ?_) (fun hc6 => ?_)
 ·
  have ht7 : (m.chk) ≠ 0 := by simpa using hc6
  refine zz 10 ?_
  refine zr' (v := .tuple #[.slice none 0 0, .int .i64 m.chk]) ?_
  exact ⟨A5.upd, _, rfl, _, _, _, _, _, rfl, ints_nil, .inl ⟨ht7, rfl, rfl⟩⟩
 have ht8 : (m.chk) = 0 := by simpa using hc6
 have hm0 : m.chk = 0 := by simpa using ht8
 have hn200 := (Mdp.chk_ok hm0).2.2.2.2.1
 have hto : ∀ t, t < m.states.length → ∀ a ∈ m.states.getD t [], ∀ o ∈ a.next, 0 ≤ o.to ∧ o.to < m.states.length := fun t ht a ha o ho => m_range hm0 (getD_mem ht) ha ho
 refine zz 9 ?_
 refine zt 21 (p := (s) < 0) (fun ht9 => ?_) (fun ht9 => ?_)
 ·
  refine zz 17 ?_
  refine zr' (v := .tuple #[.slice none 0 0, .int .i64 8]) ?_
  exact ⟨A5.upd, _, rfl, _, _, _, _, _, rfl, ints_nil, .inr (.inl ⟨hm0, .inl ht9, rfl, rfl⟩)⟩
 have hs0 : 0 ≤ s := by omega
 refine zz 2 ?_
 refine zo 0 A5 ?_
 refine zz 5 ?_
 refine zt 27 (p := (s) ≥ (m.states.length : Int)) (fun ht10 => ?_) (fun ht10 => ?_)
 ·
  refine zz 9 ?_
  refine zr' (v := .tuple #[.slice none 0 0, .int .i64 8]) ?_
  exact ⟨A5.upd, _, rfl, _, _, _, _, _, rfl, ints_nil, .inr (.inl ⟨hm0, .inr (by omega), rfl, rfl⟩)⟩
 refine zz 6 ?_
 refine zo 0 A5 ?_
 refine zz 1 ?_
 refine zop (at1 [] Tryz.f28 [1, 1, 1, 1, 0]) 3 (fun a11 _ C11 hz11 => op_makeZ (l := (m.states.length : Int)) (e := 4) (z := .bool false) (i0 := Tryz.t4) m.states.length 1 C11 A5 ?_)
 intro gS w12 Y12 A12 j12 hu12 a13 C13
 rw [bvals_rep] at A12
 refine hz11 C13 ?_
 refine zz 7 ?_
 refine zi (b := gS) (off := 0) (len := m.states.length) (cap := m.states.length) (kd := .i64) (i := s) 1 s.toNat ?_
 refine zxB 0 (k := s.toNat) A12 rfl (by simp; omega) ?_
 intro w15 A15 j15
 refine zz 9 ?_
 refine zlp Tryz.f28 [] [1, 1, 1, 1, 1, 1, 0, 1, 0] (fun (r : Nat) => [(2, .pointer (some ⟨b3, 0, none⟩)), (7, .slice (some ⟨gS, 0, none⟩) m.states.length m.states.length), (8, .int .i64 (r : Int))]) (fun (r : Nat) w1 => ∃ (Y1 : Hid) (S0 : List Bool), St E0 w X w1 Y1 [(gS, .cells (bvals S0) 4 (0, 0)), (b3, .cells #[.bool m.disc.neg, .slice ad len cap, .slice ae le ce, .slice st m.states.length cs] 28 (0, 0))] ∧ Le (rd w15 Y12) (rd w1 Y1) ∧ (Rr m s S0 r) ∧ (r ≤ m.states.length)) (fun (r : Nat) => m.states.length - r) 0 ?_ ?_
 ·
  refine ⟨_, ((List.replicate m.states.length false).set s.toNat true), A15, Le.refl _, Rr.start hs0 (by omega), Nat.zero_le _⟩
 rintro r w16 K16 G16 ⟨Y16, S0, A16, j16, hp16_0, hp16_1⟩
 have hRr := hp16_0
 have hkr := hp16_1
 have hlS := hRr.len
 refine zz 9 ?_
 refine zt 38 (p := (r : Int) < (m.states.length : Int)) (fun ht17 => ?_) (fun ht17 => ?_)
 ·
  refine zz 11 ?_
  refine zlp Tryz.f28 [K16] [1, 1, 1, 1, 1, 1, 0, 1, 0, 0, 1, 0, 0, 1, 0] (fun (t : Nat) => [(2, .pointer (some ⟨b3, 0, none⟩)), (7, .slice (some ⟨gS, 0, none⟩) m.states.length m.states.length), (8, .int .i64 (r : Int)), (9, .int .i64 (t : Int))]) (fun (t : Nat) w1 => ∃ (Y1 : Hid) (S1 : List Bool), St E0 w X w1 Y1 [(gS, .cells (bvals S1) 4 (0, 0)), (b3, .cells #[.bool m.disc.neg, .slice ad len cap, .slice ae le ce, .slice st m.states.length cs] 28 (0, 0))] ∧ Le (rd w16 Y16) (rd w1 Y1) ∧ (Rt m S0 S1 t) ∧ (t ≤ m.states.length)) (fun (t : Nat) => m.states.length - t) 0 ?_ ?_
  ·
   refine ⟨_, S0, A16, Le.refl _, Rt.start hRr.len, Nat.zero_le _⟩
  rintro t w18 K18 G18 ⟨Y18, S1, A18, j18, hp18_0, hp18_1⟩
  have hRt := hp18_0
  have hkt := hp18_1
  have hlS := hRt.len
  refine zz 9 ?_
  refine zt 44 (p := (t : Int) < (m.states.length : Int)) (fun ht19 => ?_) (fun ht19 => ?_)
  ·
   obtain ⟨b0, off0, rfl⟩ := hst.addr (by omega)
   obtain ⟨sx, ax, lx, cx, hxs, hAs, hacts⟩ := hst.at (k := t) (by omega)
   obtain rfl := hacts.hlen
   have hcapx := hacts.hcap
   have hbigx := hacts.hbig
   have hAs1 : At (rd w X) ⟨b0, off0 + t, none⟩ [.slice ax sx.length cx] := by simpa using hAs
   refine zz 11 ?_
   refine zlp Tryz.f28 [K16, K18] [1, 1, 1, 1, 1, 1, 0, 1, 0, 0, 1, 0, 0, 1, 0, 0, 1, 0, 0, 1, 0] (fun (ka : Nat) => [(2, .pointer (some ⟨b3, 0, none⟩)), (7, .slice (some ⟨gS, 0, none⟩) m.states.length m.states.length), (8, .int .i64 (r : Int)), (9, .int .i64 (t : Int)), (10, .int .i64 (ka : Int))]) (fun (ka : Nat) w1 => ∃ (Y1 : Hid) (S2 : List Bool), St E0 w X w1 Y1 [(gS, .cells (bvals S2) 4 (0, 0)), (b3, .cells #[.bool m.disc.neg, .slice ad len cap, .slice ae le ce, .slice (some ⟨b0, off0, none⟩) m.states.length cs] 28 (0, 0))] ∧ Le (rd w18 Y18) (rd w1 Y1) ∧ (Rt m S0 S2 t) ∧ (ka ≤ sx.length) ∧ (ka = 0 ∨ inB S2 t) ∧ (∀ x ∈ sx.take ka, ∀ o ∈ x.next, inB S2 o.to.toNat)) (fun (ka : Nat) => sx.length - ka) 0 ?_ ?_
   ·
    refine ⟨_, S1, A18, Le.refl _, hRt, Nat.zero_le _, .inl rfl, fun _ h => absurd h (by simp)⟩
   rintro ka w20 K20 G20 ⟨Y20, S2, A20, j20, hp20_0, hp20_1, hp20_2, hp20_3⟩
   have hRt := hp20_0
   have hka := hp20_1
   have hat := hp20_2
   have hda := hp20_3
   have hlS := hRt.len
   refine zz 5 ?_
   refine zo 1 A20 ?_
   refine zz 1 ?_
   refine zi (b := b0) (off := off0) (len := m.states.length) (cap := cs) (kd := .i64) (i := (t : Int)) 1 (off0 + t) ?_
   have hc1_ := (Le6 j3 j5 j12 j15 j16 j18).trans j20
   refine zl ((hAs1.mono hc1_)).cells ?_
   refine zz 3 ?_
   refine zt 55 (p := (ka : Int) < (sx.length : Int)) (fun ht21 => ?_) (fun ht21 => ?_)
   ·
    refine zz 2 ?_
    refine zi (b := gS) (off := 0) (len := m.states.length) (cap := m.states.length) (kd := .i64) (i := (t : Int)) 1 t ?_
    refine zl (A20.boolCells (k := t) 0 rfl (by rw [hRt.len]; omega)) ?_
    refine zz 3 ?_
    refine zb 60 (b := (S2.getD t false)) (fun hc22 => ?_) (fun hc22 => ?_)
    ·
     have ht23 : (S2.getD t false) = true := by simpa using hc22
     have hin : inB S2 t := ht23
     obtain ⟨b9a, off9a, rfl⟩ := hacts.addr (by omega)
     obtain ⟨xa, a1a, a2a, a3a, a4a, a5a, a6a, a7a, a8a, a9a, hxa, hAa, hLa, hMa, hx⟩ := hacts.at (k := ka) (by omega)
     obtain rfl := hx.hlen
     have hcapo := hx.hcap
     have hbigo := hx.hbig
     have hAa3 : At (rd w X) ⟨b9a, off9a + ka * 4 + 3, none⟩ [.slice a7a xa.next.length a9a] := At.drop hAa 3 rfl
     have hn64 := (score_len hm0 (List.mem_of_getElem? hxs) (List.mem_of_getElem? hxa))
     refine zz 11 ?_
     refine zlp Tryz.f28 [K16, K18, K20] [1, 1, 1, 1, 1, 1, 0, 1, 0, 0, 1, 0, 0, 1, 0, 0, 1, 0, 0, 1, 0, 0, 1, 0, 0, 1, 0] (fun (i : Nat) => [(2, .pointer (some ⟨b3, 0, none⟩)), (7, .slice (some ⟨gS, 0, none⟩) m.states.length m.states.length), (8, .int .i64 (r : Int)), (9, .int .i64 (t : Int)), (10, .int .i64 (ka : Int)), (11, .int .i64 (i : Int))]) (fun (i : Nat) w1 => ∃ (Y1 : Hid) (S3 : List Bool), St E0 w X w1 Y1 [(gS, .cells (bvals S3) 4 (0, 0)), (b3, .cells #[.bool m.disc.neg, .slice ad len cap, .slice ae le ce, .slice (some ⟨b0, off0, none⟩) m.states.length cs] 28 (0, 0))] ∧ Le (rd w20 Y20) (rd w1 Y1) ∧ (Rt m S0 S3 t) ∧ (i ≤ xa.next.length) ∧ (inB S3 t) ∧ (∀ x ∈ sx.take ka, ∀ o ∈ x.next, inB S3 o.to.toNat) ∧ (∀ o ∈ xa.next.take i, inB S3 o.to.toNat)) (fun (i : Nat) => xa.next.length - i) 0 ?_ ?_
     ·
      refine ⟨_, S2, A20, Le.refl _, hRt, Nat.zero_le _, hin, hda, fun _ h => absurd h (by simp)⟩
     rintro i w24 K24 G24 ⟨Y24, S3, A24, j24, hp24_0, hp24_1, hp24_2, hp24_3, hp24_4⟩
     have hRt := hp24_0
     have hki := hp24_1
     have hit := hp24_2
     have hda := hp24_3
     have hdi := hp24_4
     have hlS := hRt.len
     refine zz 5 ?_
     refine zo 1 A24 ?_
     refine zz 1 ?_
     refine zi (b := b0) (off := off0) (len := m.states.length) (cap := cs) (kd := .i64) (i := (t : Int)) 1 (off0 + t) ?_
     have hc2_ := hc1_.trans j24
     refine zl ((hAs1.mono hc2_)).cells ?_
     refine zz 1 ?_
     refine zi (b := b9a) (off := off9a) (len := sx.length) (cap := cx) (kd := .i64) (i := (ka : Int)) 4 (off9a + ka * 4) ?_
     refine zz 1 ?_
     refine zl ((hAa3.mono hc2_)).cells ?_
     refine zz 4 ?_
     refine zt 74 (p := (i : Int) < (xa.next.length : Int)) (fun ht25 => ?_) (fun ht25 => ?_)
     ·
      obtain ⟨bo, offo, rfl⟩ := hx.addr (by omega)
      obtain ⟨ox, anx, lnx, cnx, amx, lmx, cmx, hxx, hAx, hLx, hMx⟩ := hx.at (k := i) (by omega)
      have hAxt := At.tl hAx
      have hAx0 := hAx.one (i := 0) rfl
      have hto1 := m_range hm0 (List.mem_of_getElem? hxs) (List.mem_of_getElem? hxa) (List.mem_of_getElem? hxx)
      refine zz 8 ?_
      refine zo 1 A24 ?_
      refine zz 1 ?_
      refine zi (b := b0) (off := off0) (len := m.states.length) (cap := cs) (kd := .i64) (i := (t : Int)) 1 (off0 + t) ?_
      refine zl ((hAs1.mono hc2_)).cells ?_
      refine zz 1 ?_
      refine zi (b := b9a) (off := off9a) (len := sx.length) (cap := cx) (kd := .i64) (i := (ka : Int)) 4 (off9a + ka * 4) ?_
      refine zz 1 ?_
      refine zl ((hAa3.mono hc2_)).cells ?_
      refine zz 1 ?_
      refine zi (b := bo) (off := offo) (len := xa.next.length) (cap := a9a) (kd := .i64) (i := (i : Int)) 4 (offo + i * 4) ?_
      refine zz 1 ?_
      refine zl ((hAx0.mono hc2_)).cells ?_
      refine zi (b := gS) (off := 0) (len := m.states.length) (cap := m.states.length) (kd := .i64) (i := ox.to) 1 ox.to.toNat ?_
      refine zxB 0 (k := ox.to.toNat) A24 rfl (by rw [hRt.len]; omega) ?_
      intro w27 A27 j27
      refine zz 6 ?_
      refine zw 76 (x := (i : Int) + 1) ?_
      refine zz 2 ?_
      have hsx1 := List.mem_of_getElem? hxs
      refine znext (fun a h => G24 (i + 1) _ a h ⟨_, (S3.set ox.to.toNat true), A27, (Le2 j24 j27), hRt.set (by omega) hit (by rw [getD_get hxs]; exact List.mem_of_getElem? hxa) (List.mem_of_getElem? hxx) hto1, by omega, inB_set hit, fun x hx o ho => inB_set (hda x hx o ho), by rw [take_snoc hxx]; intro o ho; rcases List.mem_append.1 ho with h1 | h1; exact inB_set (hdi o h1); obtain rfl := List.mem_singleton.1 h1; exact inB_self (by rw [hlS]; omega)⟩ ?_)
      first | omega | (simp <;> omega)
     refine zz 10 ?_
     refine zw 62 (x := (ka : Int) + 1) ?_
     refine zz 2 ?_
     refine znext (fun a h => G20 (ka + 1) _ a h ⟨_, S3, A24, (Le2 j20 j24), hRt, by omega, .inr hit, by rw [take_snoc hxa]; intro x hx; rcases List.mem_append.1 hx with h1 | h1; exact hda x h1; obtain rfl := List.mem_singleton.1 h1; intro o ho; exact hdi o (by rw [List.take_of_length_le (by omega)]; exact ho)⟩ ?_)
     first | omega | (simp <;> omega)
    have ht28 : (S2.getD t false) = false := by simpa using hc22
    refine zz 10 ?_
    refine zw 46 (x := (t : Int) + 1) ?_
    refine zz 2 ?_
    refine znext (fun a h => G18 (t + 1) _ a h ⟨_, S2, A20, (Le2 j18 j20), hRt.next (by rw [getD_get hxs]; exact fun h0 => absurd (hRt.up _ h0) (by unfold inB; simpa using ht28)), by omega⟩ ?_)
    first | omega | (simp <;> omega)
   refine zz 17 ?_
   refine zw 46 (x := (t : Int) + 1) ?_
   refine zz 2 ?_
   refine znext (fun a h => G18 (t + 1) _ a h ⟨_, S2, A20, (Le2 j18 j20), hRt.next (by rw [getD_get hxs]; exact fun _ x hx => hda x (by rw [List.take_of_length_le (by omega)]; exact hx)), by omega⟩ ?_)
   first | omega | (simp <;> omega)
  refine zz 10 ?_
  refine zw 40 (x := (r : Int) + 1) ?_
  refine zz 2 ?_
  refine znext (fun a h => G16 (r + 1) _ a h ⟨_, S1, A18, (Le2 j16 j18), hRr.round hto hs0 (show Rt m S0 S1 m.states.length from (show t = m.states.length by omega) ▸ hRt), by omega⟩ ?_)
  first | omega | (simp <;> omega)
 have hfin : Rr m s S0 m.states.length := (show r = m.states.length by omega) ▸ hRr
 refine zz 18 ?_
 refine zlp Tryz.f28 [K16] [1, 1, 1, 1, 1, 1, 1, 1, 0, 1, 0] (fun ((q, adr, mr, capr) : Nat × (Option Addr) × Nat × Nat) => [(7, .slice (some ⟨gS, 0, none⟩) m.states.length m.states.length), (12, .slice adr mr capr), (13, .int .i64 (q : Int))]) (fun ((q, adr, mr, capr) : Nat × (Option Addr) × Nat × Nat) w1 => ∃ (Y1 : Hid) (rb1 : List (Nat × Obj)), St E0 w X w1 Y1 ((gS, .cells (bvals S0) 4 (0, 0)) :: (b3, .cells #[.bool m.disc.neg, .slice ad len cap, .slice ae le ce, .slice st m.states.length cs] 28 (0, 0)) :: rb1) ∧ Le (rd w16 Y16) (rd w1 Y1) ∧ (TRow 3 1 rb1 adr mr capr (ivals (outL S0 q))) ∧ (mr = (outL S0 q).length) ∧ (mr ≤ q) ∧ (q ≤ m.states.length)) (fun ((q, adr, mr, capr) : Nat × (Option Addr) × Nat × Nat) => m.states.length - q) (0, none, 0, 0) ?_ ?_
 ·
  refine ⟨_, [], A16, Le.refl _, TRow.nil _ _, rfl, Nat.zero_le _, Nat.zero_le _⟩
 rintro ⟨q, adr, mr, capr⟩ w29 K29 G29 ⟨Y29, rb1, A29, j29, hp29_0, hp29_1, hp29_2, hp29_3⟩
 have hr1 := hp29_0
 have hmr := hp29_1
 have hml := hp29_2
 have hkq := hp29_3
 refine zz 9 ?_
 refine zt 95 (p := (q : Int) < (m.states.length : Int)) (fun ht30 => ?_) (fun ht30 => ?_)
 ·
  refine zz 9 ?_
  refine zi (b := gS) (off := 0) (len := m.states.length) (cap := m.states.length) (kd := .i64) (i := (q : Int)) 1 q ?_
  refine zl (A29.boolCells (k := q) 0 rfl (by rw [hRr.len]; omega)) ?_
  refine zz 2 ?_
  refine zb 101 (b := (S0.getD q false)) (fun hc31 => ?_) (fun hc31 => ?_)
  ·
   have ht32 : (S0.getD q false) = true := by simpa using hc31
   refine zz 4 ?_
   refine zn (fun b => .slice (some ⟨b, 0, none⟩) 1 1) (.cells #[.int .i64 (q : Int)] 3 (0, 0)) A29 ?_
   intro b34 w34 Y34 A34 j34 hu34
   refine zop (at1 [K16, K29] Tryz.f28 [1, 1, 1, 1, 1, 1, 1, 1, 0, 1, 0, 0, 1, 0, 0, 1, 0]) 3 (fun a35 _ C35 hz35 => op_appEZ (b := 8) (m := 1) (c := 1) (ad := ⟨b34, 0, none⟩) (news := [.int .i64 (q : Int)]) (i0 := Tryz.t3) (R1 := []) 3 C35 A34 rfl hr1 (A34.cells 0 rfl rfl) (by omega) (by omega) ?_)
   intro rb36 ad36 cap36 w36 Y36 hrow36 A36 j36 a37 C37
   have hrw36 : TRow 3 1 rb36 ad36 (mr + 1) cap36 (ivals ((outL S0 q) ++ [(q : Int)])) := by rw [ivals_snoc]; exact hrow36
   refine hz35 C37 ?_
   refine zz 7 ?_
   refine zw 97 (x := (q : Int) + 1) ?_
   refine zz 2 ?_
   refine znext (fun a h => G29 ((q + 1, ad36, (mr + 1), cap36)) _ a h ⟨_, rb36, A36.tail, (Le3 j29 j34 j36), by rw [outL_step ht32]; exact hrw36, by rw [outL_step ht32, List.length_append, ← hmr]; rfl, by omega, by omega⟩ ?_)
   first | omega | (simp <;> omega)
  have ht38 : (S0.getD q false) = false := by simpa using hc31
  refine zz 7 ?_
  refine zw 97 (x := (q : Int) + 1) ?_
  refine zz 2 ?_
  refine znext (fun a h => G29 ((q + 1, adr, mr, capr)) _ a h ⟨_, rb1, A29, j29, by rw [outL_skip (by simpa using ht38)]; exact hr1, by rw [outL_skip (by simpa using ht38)]; exact hmr, by omega, by omega⟩ ?_)
  first | omega | (simp <;> omega)
 refine zz 14 ?_
 refine zr' (v := .tuple #[.slice adr mr capr, .int .i64 0]) ?_
 have hqn : q = m.states.length := by omega
 obtain ⟨Y39, hSx39, j39, hRx39⟩ := St.pubInts (A := [(gS, .cells (bvals S0) 4 (0, 0)), (b3, .cells #[.bool m.disc.neg, .slice ad len cap, .slice ae le ce, .slice st m.states.length cs] 28 (0, 0))]) (B := []) (fun rb => ((gS, .cells (bvals S0) 4 (0, 0)) :: (b3, .cells #[.bool m.disc.neg, .slice ad len cap, .slice ae le ce, .slice st m.states.length cs] 28 (0, 0)) :: rb)) A29 (fun _ => by simp only [List.append_assoc, List.cons_append, List.nil_append, List.append_nil]) hr1 hmr
 have A39 : St E0 w X w29 Y39 [(gS, .cells (bvals S0) 4 (0, 0)), (b3, .cells #[.bool m.disc.neg, .slice ad len cap, .slice ae le ce, .slice st m.states.length cs] 28 (0, 0))] := hSx39
 have hR39 : Ints (rd w29 Y39) adr mr capr (outL S0 q) := by have h9 := hRx39; exact h9
 exact ⟨A39.upd, _, rfl, _, _, _, _, _, rfl, hR39.mono A39.le, .inr (.inr ⟨hm0, hs0, by omega, rfl, hqn ▸ hfin.reached hto hs0 (by omega)⟩)⟩
end Go.Proofs.YtoocgllbbihoaaaGreat
/- The chapter's examples of processes. By an AI agent; no program in sight. -/
namespace Go.Gv
open Go.RowKit
/-- All that a call owns is shown. -/
theorem St.pubAll {w0 w : World} {X Y : Hid} : ∀ {M : List (Nat × Obj)}, St E0 w0 X w Y M → ∃ Y', St E0 w0 X w Y' [] ∧ Le (rd w Y) (rd w Y') ∧ ∀ (i : Nat) {b : Nat} {c : Array Value} {T : TypeId} {vs : List Value}, M[i]? = some (b, .cells c T (0, 0)) → c.toList = vs → At (rd w Y') ⟨b, 0, none⟩ vs
  | [], h => ⟨Y, h, Le.refl _, fun i _ _ _ _ hi => by simp at hi⟩
  | (b, o) :: M, h => by
    have hge := h.own_ge 0 rfl
    by_cases hc : ∃ c T, o = .cells c T (0, 0)
    · obtain ⟨c, T, rfl⟩ := hc
      obtain ⟨h1, h2, h3⟩ := St.publish h hge
      obtain ⟨Y', g1, g2, g3⟩ := St.pubAll h1
      refine ⟨Y', g1, h2.trans g2, fun i b' c' T' vs hi hv => ?_⟩
      rcases i with _ | i
      · simp at hi
        obtain ⟨rfl, rfl, rfl⟩ := hi
        subst hv
        exact h3.mono g2
      · exact g3 i (by simpa using hi) hv
    · obtain ⟨Y', g1, g2, g3⟩ := St.pubAll h.tail
      refine ⟨Y', g1, g2, fun i b' c' T' vs hi hv => ?_⟩
      rcases i with _ | i
      · simp at hi
        exact absurd ⟨c', T', hi.2⟩ hc
      · exact g3 i (by simpa using hi) hv
theorem At.seg {r : Rd} {b : Nat} {vs us : List Value} (h : At r ⟨b, 0, none⟩ vs) (o n : Nat) (e : (vs.drop o).take n = us) : At r ⟨b, o, none⟩ us := fun j v hj => by
  subst e
  rw [List.getElem?_take] at hj
  split at hj
  · rw [List.getElem?_drop] at hj
    have := h (o + j) v hj
    rw [add_mk] at this ⊢
    rwa [Nat.zero_add] at this
  · cases hj
theorem flatten_get {α : Type} {c : List α} {size : Nat} (hc : c.length = size) : ∀ {n : Nat} {rest : List α} {i j : Nat} {v : α}, i < n → c[j]? = some v → ((List.replicate n c).flatten ++ rest)[i * size + j]? = some v
  | 0, _, _, _, _, h, _ => by omega
  | n + 1, rest, 0, j, v, _, hj => by
    have hlt := (List.getElem?_eq_some_iff.1 hj).1
    rw [List.replicate_succ, List.flatten_cons, List.append_assoc, Nat.zero_mul, Nat.zero_add, List.getElem?_append_left hlt]
    exact hj
  | n + 1, rest, i + 1, j, v, h, hj => by
    have e : (i + 1) * size + j = c.length + (i * size + j) := by rw [hc, Nat.add_mul, Nat.one_mul]; omega
    rw [List.replicate_succ, List.flatten_cons, List.append_assoc, e, List.getElem?_append_right (by omega), Nat.add_sub_cancel_left]
    exact flatten_get hc (by omega) hj
/-- A row of equal elements. -/
theorem sl_rep {α : Type} {El : Rd → Addr → α → Prop} {size : Nat} {r : Rd} {b : Nat} {c rest : List Value} {x : α} (n m : Nat) (hc : c.length = size) (hat : At r ⟨b, 0, none⟩ ((List.replicate m c).flatten ++ rest)) (hn : n ≤ m) (hm : m ≤ 1000) (hel : ∀ o, At r ⟨b, o, none⟩ c → El r ⟨b, o, none⟩ x) :
    SlR El size r (some ⟨b, 0, none⟩) n m (List.replicate n x) :=
  ⟨by simp, hn, by omega, .inr ⟨b, 0, rfl, fun i y hi => by
    rw [List.getElem?_replicate] at hi
    split at hi
    · rename_i hlt
      obtain rfl := Option.some.inj hi
      refine hel _ fun j v hj => ?_
      have := hat (i * size + j) v (flatten_get hc (by omega) hj)
      rw [add_mk] at this ⊢
      rwa [Nat.zero_add] at *
    · cases hi⟩⟩
/-- A list of which each element is read. -/
def EachAt {α : Type} (El : Rd → Addr → α → Prop) (size : Nat) (r : Rd) (b : Nat) : Nat → List α → Prop
  | _, [] => True
  | o, x :: l => El r ⟨b, o, none⟩ x ∧ EachAt El size r b (o + size) l
theorem EachAt.get {α : Type} {El : Rd → Addr → α → Prop} {size : Nat} {r : Rd} {b : Nat} : ∀ {l : List α} {o i : Nat} {x : α}, EachAt El size r b o l → l[i]? = some x → El r ⟨b, o + i * size, none⟩ x
  | [], _, _, _, _, h => by simp at h
  | y :: l, o, 0, x, h, hi => by
    simp at hi; subst hi; simpa using h.1
  | y :: l, o, i + 1, x, h, hi => by
    have := h.2.get (i := i) (x := x) (by simpa using hi)
    rwa [show o + (i + 1) * size = o + size + i * size by rw [Nat.add_mul, Nat.one_mul]; omega]
theorem EachAt.sl {α : Type} {El : Rd → Addr → α → Prop} {size : Nat} {r : Rd} {b : Nat} {l : List α} (h : EachAt El size r b 0 l) (n : Nat) (hn : n = l.length) (h9 : n ≤ 1000) : SlR El size r (some ⟨b, 0, none⟩) n n l :=
  ⟨hn, Nat.le_refl _, by omega, .inr ⟨b, 0, rfl, fun _ _ hi => h.get hi⟩⟩
def badR : Raw := ⟨true, [], []⟩
def halfR : Raw := .of (mkRat (sgn (decide ((1 : Int) < 0) != decide ((2 : Int) < 0)) (1 : Int).natAbs) (2 : Int).natAbs)
def stayA : Actn := ⟨.zero, [⟨0, .of 1⟩]⟩
def exM : Mdp := ⟨.zero, [[stayA]]⟩
def exL : List (Mdp × Int) := [(⟨badR, []⟩, 2), (⟨.of ((2 : Int) : Rat), []⟩, 1), (⟨.of ((-1 : Int) : Rat), []⟩, 1), (⟨.zero, []⟩, 3), (⟨.zero, List.replicate 201 []⟩, 4), (⟨.zero, [[]]⟩, 3), (⟨.zero, [List.replicate 7 stayA]⟩, 4), (⟨.of 1, [List.replicate 6 stayA]⟩, 0),
  (⟨.zero, [[⟨badR, []⟩]]⟩, 2), (⟨.zero, [[⟨.of 1, []⟩]]⟩, 3), (⟨.zero, [[⟨.zero, List.replicate 65 ⟨0, .zero⟩⟩]]⟩, 4), (⟨.zero, [[⟨.zero, [⟨1, badR⟩]⟩]]⟩, 8), (⟨.zero, [[⟨.zero, [⟨0, halfR⟩, ⟨0, badR⟩]⟩]]⟩, 16), (⟨.zero, [[⟨.zero, [⟨0, badR⟩]⟩]]⟩, 2),
  (⟨.zero, [[⟨.zero, [⟨0, .zero⟩]⟩]]⟩, 1), (⟨.zero, [[⟨.zero, [⟨0, halfR⟩]⟩]]⟩, 2), (⟨.zero, [[stayA]]⟩, 0)]
theorem ex_chk : (exL.all fun p => decide (p.1.chk = p.2)) = true := kr0
theorem ex_all {p : Mdp × Int} (h : p ∈ exL) : p.1.chk = p.2 := of_decide_eq_true (List.all_eq_true.1 ex_chk p h)
theorem ex_back {p : Mdp × Int} (h : p ∈ exL) : (p.1.backV []).2.2 = if p.2 = 0 then 16 else p.2 := by
  have hc := ex_all h
  by_cases h0 : p.2 = 0
  · rw [if_pos h0]
    have h1 : p.1.chk = 0 := by rw [hc, h0]
    have hl := (Mdp.chk_ok h1).2.2.2.1
    have h2 : p.1.chkV [] = 16 := by unfold Mdp.chkV; rw [if_neg (by simpa using h1), if_pos (by simp; omega)]
    unfold Mdp.backV
    rw [if_pos (by rw [h2]; decide)]
    exact h2
  · rw [if_neg h0]
    have h2 : p.1.chkV [] = p.2 := by unfold Mdp.chkV; rw [if_pos (by rw [hc]; exact h0), hc]
    unfold Mdp.backV
    rw [if_pos (by rw [h2]; exact h0)]
    exact h2
theorem ex_s1 : exM.scoreAt [] 5 0 = (.zero, 16) := kr0
theorem ex_s2 : exM.scoreAt [badR] 1 0 = (.zero, 8) := kr0
theorem ex_s3 : exM.scoreAt [badR] 0 1 = (.zero, 8) := kr0
theorem ex_s4 : exM.scoreAt [badR] 0 0 = (.zero, 2) := kr0
theorem ex_u1 : exM.underV [0, 0] [.of 1] = ([], 16) := kr0
theorem ex_u2 : exM.underV [1] [badR] = ([], 8) := kr0
theorem ex_d1 : distV [badR] [] = (.zero, 16) := kr0
theorem ex_d2 : distV [badR] [.of 1] = (.zero, 2) := kr0
theorem ex_d3 : distV [] [] = (.zero, 0) := kr0
theorem exM_chk : exM.chk = 0 := kr0
def stayC (b : Nat) : List Value := [.bool false, .slice none 0 0, .slice none 0 0, .slice (some ⟨b, 0, none⟩) 1 1]
def zeroA : List Value := [.bool false, .slice none 0 0, .slice none 0 0, .slice none 0 0]
def zeroO : List Value := [.int .i64 0, .bool false, .slice none 0 0, .slice none 0 0]
def actRow (b k : Nat) : Array Value := ((List.replicate k (stayC b)).flatten ++ (List.replicate (7 - k) zeroA).flatten).toArray
def wideC : Array Value := ((List.replicate 65 zeroO).flatten ++ []).toArray
def s201 : Array Value := ((List.replicate 201 [Value.slice none 0 0]).flatten ++ []).toArray
theorem act_set {b k : Nat} (hk : k < 7) : setCells (actRow b k) (k * 4) (stayC b) = actRow b (k + 1) := by
  rcases k with _ | _ | _ | _ | _ | _ | _ | k
  all_goals first | (exfalso; omega) | exact kr0
theorem act_size {b k : Nat} (hk : k ≤ 7) : (actRow b k).size = 28 := by
  rcases k with _ | _ | _ | _ | _ | _ | _ | _ | k
  all_goals first | (exfalso; omega) | exact kr0
def ExAt (r : Rd) (a : Addr) (p : Mdp × Int) : Prop := ∃ a1 a2 a3 a4 a5 a6 a7 a8 a9, At r a [.bool p.1.disc.neg, .slice a1 a2 a3, .slice a4 a5 a6, .slice a7 a8 a9, .int .i64 p.2] ∧ Limbs r a1 a2 a3 p.1.disc.ln ∧ Limbs r a4 a5 a6 p.1.disc.ld ∧ StatesR r a7 a8 a9 p.1.states
attribute [local semireducible] Go
/-- A store into a row that the call owns, wherever it lies in it. -/
theorem zxG {r : Option Nat} {m : Nat} {P : Program} {Q : Exit → Act → World → Prop} {n : Nat} {D : List Deferred} {w : World} {c : Cf} {E : Nat → Prop} {w0 : World} {X Y : Hid} {M : List (Nat × Obj)} (i : Nat) {g off : Nat} {T : TypeId} {cur cur' : Array Value} {v : Value} (hS : St E w0 X w Y M) (hM : M[i]? = some (g, .cells cur T (0, 0))) (hk : off + v.cells.size ≤ cur.size)
    (hcur : setCells cur off v.cells.toList = cur') (h : ∀ w1, St E w0 X w1 Y (M.set i (g, .cells cur' T (0, 0))) → Le (rd w Y) (rd w1 Y) → Go r m P Q n D w1 (n0 c))
    (hc : isst n c = true := by kernel_rfl) (ho : (cop c).op = .store (stT (cop c)) (stA (cop c)) (stV (cop c)) := by kernel_rfl) (ha : evL c.L (stA (cop c)) = .pointer (some ⟨g, off, none⟩) := by kernel_rfl) (hv : evL c.L (stV (cop c)) = v := by kernel_rfl)
    (ht : ldT P (stT (cop c)) = some (ldG' P (stT (cop c)), v.cells.size) := by kernel_rfl) (h1 : v.cells.toList.all Value.oneCell' = true := by kernel_rfl) : Go r m P Q n D w c := by
  simp only [isst, Bool.and_eq_true] at hc
  have hc1 := hc.1
  simp only [isop, Bool.and_eq_true] at hc1
  exact z_op hc.1 fun _ hF => zE i _ hF (by simp only [hc1.2.2.2, hc.2, Bool.and_self]) hS ho ha hv ht rfl h1 hM hk hcur rfl fun w1 h2 h3 => h w1 h2 h3 _ hF
end Go.Gv
namespace Go.Proofs.YtoocgllbbihoaaaGreat
open Go Go.Gv Go.RowKit
set_option maxRecDepth 100000
set_option maxHeartbeats 1000000
set_option maxHeartbeats 100000000
theorem zN {r : Option Nat} {m : Nat} {P : Program} {Q : Exit → Act → World → Prop} {n : Nat} {D : List Deferred} {w : World} {c : Cf} (c' : Cf) (k : Go r m P Q n D w c') (h : c = c' := by kernel_rfl) : Go r m P Q n D w c := by subst h; exact k
theorem gN {R : Rg} {Pd : List Pn} {c : Array Bool × List (Nat × Value)} {M : List (Nat × Obj)} {r : Rd} (c' : Array Bool × List (Nat × Value)) (k : Gt R Pd c' M r) (h : c = c' := by kernel_rfl) : Gt R Pd c M r := by subst h; exact k
theorem gfl_of {R : Rg} {Pd : List Pn} {l : Array Bool} (h : ((List.range R.ops.size).all fun j => l.getD j true || Pd.any fun q => q.i == j) = true) : gfl R Pd l = true := by
  unfold gfl
  refine List.all_eq_true.2 fun p _ => List.all_eq_true.2 fun j hj => ?_
  obtain ⟨hf, o, ho, _⟩ := mem_ready.1 hj
  have hjs : j < R.ops.size := by
    rcases Nat.lt_or_ge j R.ops.size with h' | h'
    · exact h'
    · rw [Array.getElem?_eq_none h'] at ho; cases ho
  have h2 := List.all_eq_true.1 h j (List.mem_range.2 hjs)
  cases hin : Pd.any fun q => q.i == j with
  | true => rfl
  | false =>
    have hne : notIn (Pd.filter fun q => !(q.i == p.i)) j := fun q hq e => by
      have := List.any_eq_false.1 hin q (List.mem_filter.1 hq).1
      exact this (by simpa using e)
    rw [pAll, pT_ne _ _ l j hne] at hf
    rw [hin] at h2
    simp [hf] at h2
theorem geA {R : Rg} {Pd : List Pn} {c : Array Bool × List (Nat × Value)} {M : List (Nat × Obj)} {r : Rd} (k : ∀ e : Nat → Nat, Gt R [] (pAll Pd c.1, pS Pd e ++ c.2) (pB Pd e ++ M) r) (hPd : PdOk R c Pd Pd) (hc : (pDis Pd && topo R c.1 [] Pd.reverse) = true := by kernel_rfl)
    (h : ((List.range R.ops.size).all fun j => c.1.getD j true || Pd.any fun q => q.i == j) = true := by kernel_rfl) : Gt R Pd c M r := ge k hPd hc (gfl_of h)
theorem states_one {r : Rd} {b : Nat} {o : List Actn} (h : StateAt r ⟨b, 0, none⟩ o) : StatesR r (some ⟨b, 0, none⟩) 1 1 [o] :=
  EachAt.sl (show EachAt StateAt 1 r b 0 [o] from ⟨h, trivial⟩) 1 rfl (by omega)
theorem outs_two {r : Rd} {b : Nat} {o p : Out} (h : OutAt r ⟨b, 0, none⟩ o) (h2 : OutAt r ⟨b, 4, none⟩ p) : OutsR r (some ⟨b, 0, none⟩) 2 2 [o, p] :=
  EachAt.sl (show EachAt OutAt 4 r b 0 [o, p] from ⟨h, h2, trivial⟩) 2 rfl (by omega)
theorem Distance_e (w : World) (X : Hid) (hX : ∀ k o, X k o → k < w.heap.size) (ad : Option Addr) (len cap : Nat) (xs : List Raw) (h : Rats (rd w X) ad len cap xs) (ad2 : Option Addr) (len2 cap2 : Nat) (ys : List Raw) (h2 : Rats (rd w X) ad2 len2 cap2 ys) (hm : len ≤ 1073741824) (hm2 : len2 ≤ 1073741824) (r : Raw) (e : Int) (hr : distV xs ys = (r, e)) : Calls Tryz.prog 29 #[.slice ad len cap, .slice ad2 len2 cap2] w (Ret E0 w fun w' v => ∃ u, v = .tuple #[u, .int .i64 e] ∧ RawX X w' u r) := by
  have h9 := distance_c w X hX ad len cap xs h ad2 len2 cap2 ys h2 hm hm2
  rw [hr] at h9
  exact h9.mono fun e w' ⟨hu, u, e1, x, e2, h3⟩ => ⟨hu, u, e1, x, e2, h3.new hX⟩
theorem ex_reach {l : List Int} {e : Int} (h : ReachV exM 1 l e) : l = [] ∧ e = 8 := by
  rcases h with ⟨h, _⟩ | ⟨_, _, h, h2⟩ | ⟨_, _, h, _⟩
  · exact absurd exM_chk h
  · exact ⟨h2, h⟩
  · have : exM.states.length = 1 := rfl
    omega
def pc_5_12_0 (ad15 : Option Addr) (ad5 : Option Addr) (ae15 : Option Addr) (ae5 : Option Addr) (b17 : Nat) (b21 : Nat) (b23 : Nat) (b27 : Nat) (b29 : Nat) (b7 : Nat) (b9 : Nat) (cap15 : Nat) (cap5 : Nat) (ce15 : Nat) (ce5 : Nat) (le15 : Nat) (le5 : Nat) (len15 : Nat) (len5 : Nat) : Array Bool × List (Nat × Value) := (#[true, true, true, false, false, false, false, false, false, true, true, false, false, false, false, false, false, true, false, false, false, true, true, true, false, false, false, true, true, false, false, false, false, true, true, false, false, false, false, true, true, false, false, false, false, true, true, false, false, false, false, false, false, true, true, true, true, false, false, false, false, false, false, true, true, false, false, false, false, false, false, true, false, false, false, false, false, false, true, true, false, false, false, false, false, false, true, false, false, false, false, false, false, true], [(158, .int .i64 0), (151, .agg #[.bool false, .slice none 0 0, .slice none 0 0, .slice (some ⟨b21, 0, none⟩) 1 1]), (144, .agg #[.int .i64 0, .bool halfR.neg, .slice ad15 len15 cap15, .slice ae15 le15 ce15]), (143, .agg #[.bool halfR.neg, .slice ad15 len15 cap15, .slice ae15 le15 ce15]), (136, .agg #[.int .i64 0, .bool false, .slice none 0 0, .slice none 0 0]), (129, .agg #[.int .i64 0, .bool true, .slice none 0 0, .slice none 0 0]), (128, .agg #[.bool true, .slice none 0 0, .slice none 0 0]), (121, .agg #[.int .i64 0, .bool true, .slice none 0 0, .slice none 0 0]), (120, .agg #[.bool true, .slice none 0 0, .slice none 0 0]), (119, .agg #[.int .i64 0, .bool halfR.neg, .slice ad15 len15 cap15, .slice ae15 le15 ce15]), (118, .agg #[.bool halfR.neg, .slice ad15 len15 cap15, .slice ae15 le15 ce15]), (111, .agg #[.int .i64 1, .bool true, .slice none 0 0, .slice none 0 0]), (110, .agg #[.bool true, .slice none 0 0, .slice none 0 0]), (105, .agg #[.bool false, .slice none 0 0, .slice none 0 0, .slice (some ⟨b29, 0, none⟩) 65 65]), (104, .slice (some ⟨b29, 0, none⟩) 65 65), (99, .agg #[.bool ((Raw.of 1).neg), .slice ad5 len5 cap5, .slice ae5 le5 ce5, .slice none 0 0]), (98, .agg #[.bool ((Raw.of 1).neg), .slice ad5 len5 cap5, .slice ae5 le5 ce5]), (93, .agg #[.bool true, .slice none 0 0, .slice none 0 0, .slice none 0 0]), (92, .agg #[.bool true, .slice none 0 0, .slice none 0 0]), (88, .slice (some ⟨b27, 0, none⟩) 6 7), (87, .slice (some ⟨b27, 0, none⟩) 7 7), (86, .agg #[.bool ((Raw.of 1).neg), .slice ad5 len5 cap5, .slice ae5 le5 ce5]), (82, .slice (some ⟨b27, 0, none⟩) 7 7), (75, .agg #[.bool false, .slice none 0 0, .slice none 0 0, .slice none 0 0, .int .i64 3]), (74, .agg #[.bool false, .slice none 0 0, .slice none 0 0, .slice none 0 0]), (67, .agg #[.bool true, .slice none 0 0, .slice none 0 0, .slice none 0 0, .int .i64 2]), (66, .agg #[.bool true, .slice none 0 0, .slice none 0 0, .slice none 0 0]), (65, .agg #[.bool true, .slice none 0 0, .slice none 0 0]), (58, .bool false), (58, .bool (decide (((7 : Nat) : Int) < 7))), (57, .int .i64 7), (56, .slice (some ⟨b27, 0, none⟩) 7 7), (55, .int .i64 ((7 : Nat) : Int)), (1, .pointer (some ⟨b7, 0, none⟩)), (2, .pointer (some ⟨b9, 0, none⟩)), (3, .pointer (some ⟨b17, 0, none⟩)), (5, .pointer (some ⟨b23, 0, none⟩)), (6, .slice (some ⟨b27, 0, none⟩) 7 7), (7, .slice (some ⟨b29, 0, none⟩) 65 65), (8, .int .i64 ((7 : Nat) : Int))])
noncomputable def ops_5_12 : Array Oper := dops ⟨.code (at1 [] Tryz.f5 [1, 1, 1, 1, 1, 1, 1, 1, 0, 0]), [], []⟩
def pdl_5_12_1 (ad15 ad5 ae15 ae5 : Option Addr) (b21 b27 b29 cap15 cap5 ce15 ce5 le15 le5 len15 len5 : Nat) : List Pn := [⟨90, 155, [90, 88], fun e => .agg #[.bool false, .slice none 0 0, .slice none 0 0, .slice (some ⟨(e 1), 0, none⟩) 1 1, .int .i64 0], none⟩, ⟨89, 154, [89, 88], fun e => .agg #[.bool false, .slice none 0 0, .slice none 0 0, .slice (some ⟨(e 1), 0, none⟩) 1 1], none⟩, ⟨88, 153, [88, 87], fun e => .slice (some ⟨(e 0), 0, none⟩) 1 1, some fun e => .cells #[.slice (some ⟨(e 1), 0, none⟩) 1 1] 64 (0, 0)⟩, ⟨85, 150, [85, 83], fun e => .agg #[.bool false, .slice none 0 0, .slice none 0 0, .slice (some ⟨(e 1), 0, none⟩) 1 1, .int .i64 2], none⟩, ⟨84, 149, [84, 83], fun e => .agg #[.bool false, .slice none 0 0, .slice none 0 0, .slice (some ⟨(e 1), 0, none⟩) 1 1], none⟩, ⟨83, 148, [83, 82], fun e => .slice (some ⟨(e 0), 0, none⟩) 1 1, some fun e => .cells #[.slice (some ⟨(e 1), 0, none⟩) 1 1] 64 (0, 0)⟩, ⟨82, 147, [82, 80], fun e => .slice (some ⟨(e 0), 0, none⟩) 1 1, some fun e => .cells #[.bool false, .slice none 0 0, .slice none 0 0, .slice (some ⟨(e 1), 0, none⟩) 1 1] 63 (0, 0)⟩, ⟨81, 146, [81, 80], fun e => .agg #[.bool false, .slice none 0 0, .slice none 0 0, .slice (some ⟨(e 1), 0, none⟩) 1 1], none⟩, ⟨77, 142, [77, 75], fun e => .agg #[.bool false, .slice none 0 0, .slice none 0 0, .slice (some ⟨(e 1), 0, none⟩) 1 1, .int .i64 1], none⟩, ⟨76, 141, [76, 75], fun e => .agg #[.bool false, .slice none 0 0, .slice none 0 0, .slice (some ⟨(e 1), 0, none⟩) 1 1], none⟩, ⟨75, 140, [75, 74], fun e => .slice (some ⟨(e 0), 0, none⟩) 1 1, some fun e => .cells #[.slice (some ⟨(e 1), 0, none⟩) 1 1] 64 (0, 0)⟩, ⟨74, 139, [74, 72], fun e => .slice (some ⟨(e 0), 0, none⟩) 1 1, some fun e => .cells #[.bool false, .slice none 0 0, .slice none 0 0, .slice (some ⟨(e 1), 0, none⟩) 1 1] 63 (0, 0)⟩, ⟨73, 138, [73, 72], fun e => .agg #[.bool false, .slice none 0 0, .slice none 0 0, .slice (some ⟨(e 1), 0, none⟩) 1 1], none⟩, ⟨70, 135, [70, 68], fun e => .agg #[.bool false, .slice none 0 0, .slice none 0 0, .slice (some ⟨(e 1), 0, none⟩) 1 1, .int .i64 2], none⟩, ⟨69, 134, [69, 68], fun e => .agg #[.bool false, .slice none 0 0, .slice none 0 0, .slice (some ⟨(e 1), 0, none⟩) 1 1], none⟩, ⟨68, 133, [68, 67], fun e => .slice (some ⟨(e 0), 0, none⟩) 1 1, some fun e => .cells #[.slice (some ⟨(e 1), 0, none⟩) 1 1] 64 (0, 0)⟩, ⟨67, 132, [67, 65], fun e => .slice (some ⟨(e 0), 0, none⟩) 1 1, some fun e => .cells #[.bool false, .slice none 0 0, .slice none 0 0, .slice (some ⟨(e 1), 0, none⟩) 1 1] 63 (0, 0)⟩, ⟨66, 131, [66, 65], fun e => .agg #[.bool false, .slice none 0 0, .slice none 0 0, .slice (some ⟨(e 1), 0, none⟩) 1 1], none⟩, ⟨62, 127, [62, 60], fun e => .agg #[.bool false, .slice none 0 0, .slice none 0 0, .slice (some ⟨(e 1), 0, none⟩) 1 1, .int .i64 16], none⟩, ⟨61, 126, [61, 60], fun e => .agg #[.bool false, .slice none 0 0, .slice none 0 0, .slice (some ⟨(e 1), 0, none⟩) 1 1], none⟩, ⟨60, 125, [60, 59], fun e => .slice (some ⟨(e 0), 0, none⟩) 1 1, some fun e => .cells #[.slice (some ⟨(e 1), 0, none⟩) 1 1] 64 (0, 0)⟩, ⟨59, 124, [59, 57], fun e => .slice (some ⟨(e 0), 0, none⟩) 1 1, some fun e => .cells #[.bool false, .slice none 0 0, .slice none 0 0, .slice (some ⟨(e 1), 0, none⟩) 2 2] 63 (0, 0)⟩, ⟨58, 123, [58, 57], fun e => .agg #[.bool false, .slice none 0 0, .slice none 0 0, .slice (some ⟨(e 1), 0, none⟩) 2 2], none⟩, ⟨52, 117, [52, 50], fun e => .agg #[.bool false, .slice none 0 0, .slice none 0 0, .slice (some ⟨(e 1), 0, none⟩) 1 1, .int .i64 8], none⟩, ⟨51, 116, [51, 50], fun e => .agg #[.bool false, .slice none 0 0, .slice none 0 0, .slice (some ⟨(e 1), 0, none⟩) 1 1], none⟩, ⟨50, 115, [50, 49], fun e => .slice (some ⟨(e 0), 0, none⟩) 1 1, some fun e => .cells #[.slice (some ⟨(e 1), 0, none⟩) 1 1] 64 (0, 0)⟩, ⟨49, 114, [49, 47], fun e => .slice (some ⟨(e 0), 0, none⟩) 1 1, some fun e => .cells #[.bool false, .slice none 0 0, .slice none 0 0, .slice (some ⟨(e 1), 0, none⟩) 1 1] 63 (0, 0)⟩, ⟨48, 113, [48, 47], fun e => .agg #[.bool false, .slice none 0 0, .slice none 0 0, .slice (some ⟨(e 1), 0, none⟩) 1 1], none⟩, ⟨44, 109, [44, 42], fun e => .agg #[.bool false, .slice none 0 0, .slice none 0 0, .slice (some ⟨(e 1), 0, none⟩) 1 1, .int .i64 4], none⟩, ⟨43, 108, [43, 42], fun e => .agg #[.bool false, .slice none 0 0, .slice none 0 0, .slice (some ⟨(e 1), 0, none⟩) 1 1], none⟩, ⟨42, 107, [42, 41], fun e => .slice (some ⟨(e 0), 0, none⟩) 1 1, some fun e => .cells #[.slice (some ⟨(e 1), 0, none⟩) 1 1] 64 (0, 0)⟩, ⟨38, 103, [38, 36], fun e => .agg #[.bool false, .slice none 0 0, .slice none 0 0, .slice (some ⟨(e 1), 0, none⟩) 1 1, .int .i64 3], none⟩, ⟨37, 102, [37, 36], fun e => .agg #[.bool false, .slice none 0 0, .slice none 0 0, .slice (some ⟨(e 1), 0, none⟩) 1 1], none⟩, ⟨36, 101, [36, 35], fun e => .slice (some ⟨(e 0), 0, none⟩) 1 1, some fun e => .cells #[.slice (some ⟨(e 1), 0, none⟩) 1 1] 64 (0, 0)⟩, ⟨32, 97, [32, 30], fun e => .agg #[.bool false, .slice none 0 0, .slice none 0 0, .slice (some ⟨(e 1), 0, none⟩) 1 1, .int .i64 2], none⟩, ⟨31, 96, [31, 30], fun e => .agg #[.bool false, .slice none 0 0, .slice none 0 0, .slice (some ⟨(e 1), 0, none⟩) 1 1], none⟩, ⟨30, 95, [30, 29], fun e => .slice (some ⟨(e 0), 0, none⟩) 1 1, some fun e => .cells #[.slice (some ⟨(e 1), 0, none⟩) 1 1] 64 (0, 0)⟩, ⟨26, 91, [26, 24], fun e => .agg #[.bool ((Raw.of 1).neg), .slice ad5 len5 cap5, .slice ae5 le5 ce5, .slice (some ⟨(e 1), 0, none⟩) 1 1, .int .i64 0], none⟩, ⟨25, 90, [25, 24], fun e => .agg #[.bool ((Raw.of 1).neg), .slice ad5 len5 cap5, .slice ae5 le5 ce5, .slice (some ⟨(e 1), 0, none⟩) 1 1], none⟩, ⟨20, 85, [20, 18], fun e => .agg #[.bool false, .slice none 0 0, .slice none 0 0, .slice (some ⟨(e 1), 0, none⟩) 1 1, .int .i64 4], none⟩, ⟨19, 84, [19, 18], fun e => .agg #[.bool false, .slice none 0 0, .slice none 0 0, .slice (some ⟨(e 1), 0, none⟩) 1 1], none⟩, ⟨16, 81, [16, 14], fun e => .agg #[.bool false, .slice none 0 0, .slice none 0 0, .slice (some ⟨(e 1), 0, none⟩) 1 1, .int .i64 3], none⟩, ⟨15, 80, [15, 14], fun e => .agg #[.bool false, .slice none 0 0, .slice none 0 0, .slice (some ⟨(e 1), 0, none⟩) 1 1], none⟩, ⟨13, 78, [13, 11], fun e => .agg #[.bool false, .slice none 0 0, .slice none 0 0, .slice (some ⟨(e 1), 0, none⟩) 201 201, .int .i64 4], none⟩, ⟨12, 77, [12, 11], fun e => .agg #[.bool false, .slice none 0 0, .slice none 0 0, .slice (some ⟨(e 1), 0, none⟩) 201 201], none⟩, (al 11 76 (fun b => .slice (some ⟨b, 0, none⟩) 201 201) (.cells #[.slice none 0 0, .slice none 0 0, .slice none 0 0, .slice none 0 0, .slice none 0 0, .slice none 0 0, .slice none 0 0, .slice none 0 0, .slice none 0 0, .slice none 0 0, .slice none 0 0, .slice none 0 0, .slice none 0 0, .slice none 0 0, .slice none 0 0, .slice none 0 0, .slice none 0 0, .slice none 0 0, .slice none 0 0, .slice none 0 0, .slice none 0 0, .slice none 0 0, .slice none 0 0, .slice none 0 0, .slice none 0 0, .slice none 0 0, .slice none 0 0, .slice none 0 0, .slice none 0 0, .slice none 0 0, .slice none 0 0, .slice none 0 0, .slice none 0 0, .slice none 0 0, .slice none 0 0, .slice none 0 0, .slice none 0 0, .slice none 0 0, .slice none 0 0, .slice none 0 0, .slice none 0 0, .slice none 0 0, .slice none 0 0, .slice none 0 0, .slice none 0 0, .slice none 0 0, .slice none 0 0, .slice none 0 0, .slice none 0 0, .slice none 0 0, .slice none 0 0, .slice none 0 0, .slice none 0 0, .slice none 0 0, .slice none 0 0, .slice none 0 0, .slice none 0 0, .slice none 0 0, .slice none 0 0, .slice none 0 0, .slice none 0 0, .slice none 0 0, .slice none 0 0, .slice none 0 0, .slice none 0 0, .slice none 0 0, .slice none 0 0, .slice none 0 0, .slice none 0 0, .slice none 0 0, .slice none 0 0, .slice none 0 0, .slice none 0 0, .slice none 0 0, .slice none 0 0, .slice none 0 0, .slice none 0 0, .slice none 0 0, .slice none 0 0, .slice none 0 0, .slice none 0 0, .slice none 0 0, .slice none 0 0, .slice none 0 0, .slice none 0 0, .slice none 0 0, .slice none 0 0, .slice none 0 0, .slice none 0 0, .slice none 0 0, .slice none 0 0, .slice none 0 0, .slice none 0 0, .slice none 0 0, .slice none 0 0, .slice none 0 0, .slice none 0 0, .slice none 0 0, .slice none 0 0, .slice none 0 0, .slice none 0 0, .slice none 0 0, .slice none 0 0, .slice none 0 0, .slice none 0 0, .slice none 0 0, .slice none 0 0, .slice none 0 0, .slice none 0 0, .slice none 0 0, .slice none 0 0, .slice none 0 0, .slice none 0 0, .slice none 0 0, .slice none 0 0, .slice none 0 0, .slice none 0 0, .slice none 0 0, .slice none 0 0, .slice none 0 0, .slice none 0 0, .slice none 0 0, .slice none 0 0, .slice none 0 0, .slice none 0 0, .slice none 0 0, .slice none 0 0, .slice none 0 0, .slice none 0 0, .slice none 0 0, .slice none 0 0, .slice none 0 0, .slice none 0 0, .slice none 0 0, .slice none 0 0, .slice none 0 0, .slice none 0 0, .slice none 0 0, .slice none 0 0, .slice none 0 0, .slice none 0 0, .slice none 0 0, .slice none 0 0, .slice none 0 0, .slice none 0 0, .slice none 0 0, .slice none 0 0, .slice none 0 0, .slice none 0 0, .slice none 0 0, .slice none 0 0, .slice none 0 0, .slice none 0 0, .slice none 0 0, .slice none 0 0, .slice none 0 0, .slice none 0 0, .slice none 0 0, .slice none 0 0, .slice none 0 0, .slice none 0 0, .slice none 0 0, .slice none 0 0, .slice none 0 0, .slice none 0 0, .slice none 0 0, .slice none 0 0, .slice none 0 0, .slice none 0 0, .slice none 0 0, .slice none 0 0, .slice none 0 0, .slice none 0 0, .slice none 0 0, .slice none 0 0, .slice none 0 0, .slice none 0 0, .slice none 0 0, .slice none 0 0, .slice none 0 0, .slice none 0 0, .slice none 0 0, .slice none 0 0, .slice none 0 0, .slice none 0 0, .slice none 0 0, .slice none 0 0, .slice none 0 0, .slice none 0 0, .slice none 0 0, .slice none 0 0, .slice none 0 0, .slice none 0 0, .slice none 0 0, .slice none 0 0, .slice none 0 0, .slice none 0 0, .slice none 0 0, .slice none 0 0, .slice none 0 0, .slice none 0 0] 64 (0, 0))), (al 14 79 (fun b => .slice (some ⟨b, 0, none⟩) 1 1) (.cells #[.slice none 0 0] 64 (0, 0))), (al 18 83 (fun b => .slice (some ⟨b, 0, none⟩) 1 1) (.cells #[.slice (some ⟨b27, 0, none⟩) 7 7] 64 (0, 0))), (al 24 89 (fun b => .slice (some ⟨b, 0, none⟩) 1 1) (.cells #[.slice (some ⟨b27, 0, none⟩) 6 7] 64 (0, 0))), (al 29 94 (fun b => .slice (some ⟨b, 0, none⟩) 1 1) (.cells #[.bool true, .slice none 0 0, .slice none 0 0, .slice none 0 0] 63 (0, 0))), (al 35 100 (fun b => .slice (some ⟨b, 0, none⟩) 1 1) (.cells #[.bool ((Raw.of 1).neg), .slice ad5 len5 cap5, .slice ae5 le5 ce5, .slice none 0 0] 63 (0, 0))), (al 41 106 (fun b => .slice (some ⟨b, 0, none⟩) 1 1) (.cells #[.bool false, .slice none 0 0, .slice none 0 0, .slice (some ⟨b29, 0, none⟩) 65 65] 63 (0, 0))), (al 47 112 (fun b => .slice (some ⟨b, 0, none⟩) 1 1) (.cells #[.int .i64 1, .bool true, .slice none 0 0, .slice none 0 0] 60 (0, 0))), (al 57 122 (fun b => .slice (some ⟨b, 0, none⟩) 2 2) (.cells #[.int .i64 0, .bool halfR.neg, .slice ad15 len15 cap15, .slice ae15 le15 ce15, .int .i64 0, .bool true, .slice none 0 0, .slice none 0 0] 60 (0, 0))), (al 65 130 (fun b => .slice (some ⟨b, 0, none⟩) 1 1) (.cells #[.int .i64 0, .bool true, .slice none 0 0, .slice none 0 0] 60 (0, 0))), (al 72 137 (fun b => .slice (some ⟨b, 0, none⟩) 1 1) (.cells #[.int .i64 0, .bool false, .slice none 0 0, .slice none 0 0] 60 (0, 0))), (al 80 145 (fun b => .slice (some ⟨b, 0, none⟩) 1 1) (.cells #[.int .i64 0, .bool halfR.neg, .slice ad15 len15 cap15, .slice ae15 le15 ce15] 60 (0, 0))), (al 87 152 (fun b => .slice (some ⟨b, 0, none⟩) 1 1) (.cells #[.bool false, .slice none 0 0, .slice none 0 0, .slice (some ⟨b21, 0, none⟩) 1 1] 63 (0, 0)))]
theorem pd_5_12_1 (ad15 ad5 ae15 ae5 : Option Addr) (b17 b21 b23 b27 b29 b7 b9 cap15 cap5 ce15 ce5 le15 le5 len15 len5 : Nat) (R : Rg) (hP : R.P = Tryz.prog := by kernel_rfl) (ho : R.ops = ops_5_12 := by kernel_rfl) (hn : R.n = Tryz.f5.ntmps := by kernel_rfl) : PdOk R (pc_5_12_0 ad15 ad5 ae15 ae5 b17 b21 b23 b27 b29 b7 b9 cap15 cap5 ce15 ce5 le15 le5 len15 len5) (pdl_5_12_1 ad15 ad5 ae15 ae5 b21 b27 b29 cap15 cap5 ce15 ce5 le15 le5 len15 len5) (pdl_5_12_1 ad15 ad5 ae15 ae5 b21 b27 b29 cap15 cap5 ce15 ce5 le15 le5 len15 len5) := by
  obtain ⟨P, ops, Q, T, n, D, E, w0, X, M0, r0⟩ := R
  dsimp only at hP ho hn
  subst hP ho hn
  exact PdOk.nil.k.k.k.k.k.k.k.k.k.k.k.k.k.k.k.k.k.k.k.k.k.k.k.k.k.k.k.k.k.k.k.k.k.k.k.k.k.k.k.k.k.k.k.k.k.k.k.k.k.k.k.k.k.k.k.k.k.k
def pc_5_12_4 (ad15 : Option Addr) (ad35 : Option Addr) (ad5 : Option Addr) (ae15 : Option Addr) (ae35 : Option Addr) (ae5 : Option Addr) (b17 : Nat) (b21 : Nat) (b23 : Nat) (b27 : Nat) (b29 : Nat) (b7 : Nat) (b9 : Nat) (cap15 : Nat) (cap35 : Nat) (cap5 : Nat) (ce15 : Nat) (ce35 : Nat) (ce5 : Nat) (le15 : Nat) (le35 : Nat) (le5 : Nat) (len15 : Nat) (len35 : Nat) (len5 : Nat) : Array Bool × List (Nat × Value) := (#[true, true, true, true, true, true, false, false, false, true, true, false, false, false, false, false, false, true, false, false, false, true, true, true, false, false, false, true, true, false, false, false, false, true, true, false, false, false, false, true, true, false, false, false, false, true, true, false, false, false, false, false, false, true, true, true, true, false, false, false, false, false, false, true, true, false, false, false, false, false, false, true, false, false, false, false, false, false, true, true, false, false, false, false, false, false, true, false, false, false, false, false, false, true], [(70, .agg #[.bool ((Raw.of ((2 : Int) : Rat)).neg), .slice ad35 len35 cap35, .slice ae35 le35 ce35, .slice none 0 0, .int .i64 1]), (69, .agg #[.bool ((Raw.of ((2 : Int) : Rat)).neg), .slice ad35 len35 cap35, .slice ae35 le35 ce35, .slice none 0 0]), (68, .agg #[.bool ((Raw.of ((2 : Int) : Rat)).neg), .slice ad35 len35 cap35, .slice ae35 le35 ce35]), (158, .int .i64 0), (151, .agg #[.bool false, .slice none 0 0, .slice none 0 0, .slice (some ⟨b21, 0, none⟩) 1 1]), (144, .agg #[.int .i64 0, .bool halfR.neg, .slice ad15 len15 cap15, .slice ae15 le15 ce15]), (143, .agg #[.bool halfR.neg, .slice ad15 len15 cap15, .slice ae15 le15 ce15]), (136, .agg #[.int .i64 0, .bool false, .slice none 0 0, .slice none 0 0]), (129, .agg #[.int .i64 0, .bool true, .slice none 0 0, .slice none 0 0]), (128, .agg #[.bool true, .slice none 0 0, .slice none 0 0]), (121, .agg #[.int .i64 0, .bool true, .slice none 0 0, .slice none 0 0]), (120, .agg #[.bool true, .slice none 0 0, .slice none 0 0]), (119, .agg #[.int .i64 0, .bool halfR.neg, .slice ad15 len15 cap15, .slice ae15 le15 ce15]), (118, .agg #[.bool halfR.neg, .slice ad15 len15 cap15, .slice ae15 le15 ce15]), (111, .agg #[.int .i64 1, .bool true, .slice none 0 0, .slice none 0 0]), (110, .agg #[.bool true, .slice none 0 0, .slice none 0 0]), (105, .agg #[.bool false, .slice none 0 0, .slice none 0 0, .slice (some ⟨b29, 0, none⟩) 65 65]), (104, .slice (some ⟨b29, 0, none⟩) 65 65), (99, .agg #[.bool ((Raw.of 1).neg), .slice ad5 len5 cap5, .slice ae5 le5 ce5, .slice none 0 0]), (98, .agg #[.bool ((Raw.of 1).neg), .slice ad5 len5 cap5, .slice ae5 le5 ce5]), (93, .agg #[.bool true, .slice none 0 0, .slice none 0 0, .slice none 0 0]), (92, .agg #[.bool true, .slice none 0 0, .slice none 0 0]), (88, .slice (some ⟨b27, 0, none⟩) 6 7), (87, .slice (some ⟨b27, 0, none⟩) 7 7), (86, .agg #[.bool ((Raw.of 1).neg), .slice ad5 len5 cap5, .slice ae5 le5 ce5]), (82, .slice (some ⟨b27, 0, none⟩) 7 7), (75, .agg #[.bool false, .slice none 0 0, .slice none 0 0, .slice none 0 0, .int .i64 3]), (74, .agg #[.bool false, .slice none 0 0, .slice none 0 0, .slice none 0 0]), (67, .agg #[.bool true, .slice none 0 0, .slice none 0 0, .slice none 0 0, .int .i64 2]), (66, .agg #[.bool true, .slice none 0 0, .slice none 0 0, .slice none 0 0]), (65, .agg #[.bool true, .slice none 0 0, .slice none 0 0]), (58, .bool false), (58, .bool (decide (((7 : Nat) : Int) < 7))), (57, .int .i64 7), (56, .slice (some ⟨b27, 0, none⟩) 7 7), (55, .int .i64 ((7 : Nat) : Int)), (1, .pointer (some ⟨b7, 0, none⟩)), (2, .pointer (some ⟨b9, 0, none⟩)), (3, .pointer (some ⟨b17, 0, none⟩)), (5, .pointer (some ⟨b23, 0, none⟩)), (6, .slice (some ⟨b27, 0, none⟩) 7 7), (7, .slice (some ⟨b29, 0, none⟩) 65 65), (8, .int .i64 ((7 : Nat) : Int))])
theorem pd_5_12_5 (ad15 ad35 ad5 ae15 ae35 ae5 : Option Addr) (b17 b21 b23 b27 b29 b7 b9 cap15 cap35 cap5 ce15 ce35 ce5 le15 le35 le5 len15 len35 len5 : Nat) (R : Rg) (hP : R.P = Tryz.prog := by kernel_rfl) (ho : R.ops = ops_5_12 := by kernel_rfl) (hn : R.n = Tryz.f5.ntmps := by kernel_rfl) : PdOk R (pc_5_12_4 ad15 ad35 ad5 ae15 ae35 ae5 b17 b21 b23 b27 b29 b7 b9 cap15 cap35 cap5 ce15 ce35 ce5 le15 le35 le5 len15 len35 len5) (pdl_5_12_1 ad15 ad5 ae15 ae5 b21 b27 b29 cap15 cap5 ce15 ce5 le15 le5 len15 len5) (pdl_5_12_1 ad15 ad5 ae15 ae5 b21 b27 b29 cap15 cap5 ce15 ce5 le15 le5 len15 len5) := by
  obtain ⟨P, ops, Q, T, n, D, E, w0, X, M0, r0⟩ := R
  dsimp only at hP ho hn
  subst hP ho hn
  exact PdOk.nil.k.k.k.k.k.k.k.k.k.k.k.k.k.k.k.k.k.k.k.k.k.k.k.k.k.k.k.k.k.k.k.k.k.k.k.k.k.k.k.k.k.k.k.k.k.k.k.k.k.k.k.k.k.k.k.k.k.k
def pc_5_12_6 (ad15 : Option Addr) (ad35 : Option Addr) (ad37 : Option Addr) (ad5 : Option Addr) (ae15 : Option Addr) (ae35 : Option Addr) (ae37 : Option Addr) (ae5 : Option Addr) (b17 : Nat) (b21 : Nat) (b23 : Nat) (b27 : Nat) (b29 : Nat) (b7 : Nat) (b9 : Nat) (cap15 : Nat) (cap35 : Nat) (cap37 : Nat) (cap5 : Nat) (ce15 : Nat) (ce35 : Nat) (ce37 : Nat) (ce5 : Nat) (le15 : Nat) (le35 : Nat) (le37 : Nat) (le5 : Nat) (len15 : Nat) (len35 : Nat) (len37 : Nat) (len5 : Nat) : Array Bool × List (Nat × Value) := (#[true, true, true, true, true, true, true, true, true, true, true, false, false, false, false, false, false, true, false, false, false, true, true, true, false, false, false, true, true, false, false, false, false, true, true, false, false, false, false, true, true, false, false, false, false, true, true, false, false, false, false, false, false, true, true, true, true, false, false, false, false, false, false, true, true, false, false, false, false, false, false, true, false, false, false, false, false, false, true, true, false, false, false, false, false, false, true, false, false, false, false, false, false, true], [(73, .agg #[.bool ((Raw.of (((-1) : Int) : Rat)).neg), .slice ad37 len37 cap37, .slice ae37 le37 ce37, .slice none 0 0, .int .i64 1]), (72, .agg #[.bool ((Raw.of (((-1) : Int) : Rat)).neg), .slice ad37 len37 cap37, .slice ae37 le37 ce37, .slice none 0 0]), (71, .agg #[.bool ((Raw.of (((-1) : Int) : Rat)).neg), .slice ad37 len37 cap37, .slice ae37 le37 ce37]), (70, .agg #[.bool ((Raw.of ((2 : Int) : Rat)).neg), .slice ad35 len35 cap35, .slice ae35 le35 ce35, .slice none 0 0, .int .i64 1]), (69, .agg #[.bool ((Raw.of ((2 : Int) : Rat)).neg), .slice ad35 len35 cap35, .slice ae35 le35 ce35, .slice none 0 0]), (68, .agg #[.bool ((Raw.of ((2 : Int) : Rat)).neg), .slice ad35 len35 cap35, .slice ae35 le35 ce35]), (158, .int .i64 0), (151, .agg #[.bool false, .slice none 0 0, .slice none 0 0, .slice (some ⟨b21, 0, none⟩) 1 1]), (144, .agg #[.int .i64 0, .bool halfR.neg, .slice ad15 len15 cap15, .slice ae15 le15 ce15]), (143, .agg #[.bool halfR.neg, .slice ad15 len15 cap15, .slice ae15 le15 ce15]), (136, .agg #[.int .i64 0, .bool false, .slice none 0 0, .slice none 0 0]), (129, .agg #[.int .i64 0, .bool true, .slice none 0 0, .slice none 0 0]), (128, .agg #[.bool true, .slice none 0 0, .slice none 0 0]), (121, .agg #[.int .i64 0, .bool true, .slice none 0 0, .slice none 0 0]), (120, .agg #[.bool true, .slice none 0 0, .slice none 0 0]), (119, .agg #[.int .i64 0, .bool halfR.neg, .slice ad15 len15 cap15, .slice ae15 le15 ce15]), (118, .agg #[.bool halfR.neg, .slice ad15 len15 cap15, .slice ae15 le15 ce15]), (111, .agg #[.int .i64 1, .bool true, .slice none 0 0, .slice none 0 0]), (110, .agg #[.bool true, .slice none 0 0, .slice none 0 0]), (105, .agg #[.bool false, .slice none 0 0, .slice none 0 0, .slice (some ⟨b29, 0, none⟩) 65 65]), (104, .slice (some ⟨b29, 0, none⟩) 65 65), (99, .agg #[.bool ((Raw.of 1).neg), .slice ad5 len5 cap5, .slice ae5 le5 ce5, .slice none 0 0]), (98, .agg #[.bool ((Raw.of 1).neg), .slice ad5 len5 cap5, .slice ae5 le5 ce5]), (93, .agg #[.bool true, .slice none 0 0, .slice none 0 0, .slice none 0 0]), (92, .agg #[.bool true, .slice none 0 0, .slice none 0 0]), (88, .slice (some ⟨b27, 0, none⟩) 6 7), (87, .slice (some ⟨b27, 0, none⟩) 7 7), (86, .agg #[.bool ((Raw.of 1).neg), .slice ad5 len5 cap5, .slice ae5 le5 ce5]), (82, .slice (some ⟨b27, 0, none⟩) 7 7), (75, .agg #[.bool false, .slice none 0 0, .slice none 0 0, .slice none 0 0, .int .i64 3]), (74, .agg #[.bool false, .slice none 0 0, .slice none 0 0, .slice none 0 0]), (67, .agg #[.bool true, .slice none 0 0, .slice none 0 0, .slice none 0 0, .int .i64 2]), (66, .agg #[.bool true, .slice none 0 0, .slice none 0 0, .slice none 0 0]), (65, .agg #[.bool true, .slice none 0 0, .slice none 0 0]), (58, .bool false), (58, .bool (decide (((7 : Nat) : Int) < 7))), (57, .int .i64 7), (56, .slice (some ⟨b27, 0, none⟩) 7 7), (55, .int .i64 ((7 : Nat) : Int)), (1, .pointer (some ⟨b7, 0, none⟩)), (2, .pointer (some ⟨b9, 0, none⟩)), (3, .pointer (some ⟨b17, 0, none⟩)), (5, .pointer (some ⟨b23, 0, none⟩)), (6, .slice (some ⟨b27, 0, none⟩) 7 7), (7, .slice (some ⟨b29, 0, none⟩) 65 65), (8, .int .i64 ((7 : Nat) : Int))])
theorem pd_5_12_7 (ad15 ad35 ad37 ad5 ae15 ae35 ae37 ae5 : Option Addr) (b17 b21 b23 b27 b29 b7 b9 cap15 cap35 cap37 cap5 ce15 ce35 ce37 ce5 le15 le35 le37 le5 len15 len35 len37 len5 : Nat) (R : Rg) (hP : R.P = Tryz.prog := by kernel_rfl) (ho : R.ops = ops_5_12 := by kernel_rfl) (hn : R.n = Tryz.f5.ntmps := by kernel_rfl) : PdOk R (pc_5_12_6 ad15 ad35 ad37 ad5 ae15 ae35 ae37 ae5 b17 b21 b23 b27 b29 b7 b9 cap15 cap35 cap37 cap5 ce15 ce35 ce37 ce5 le15 le35 le37 le5 len15 len35 len37 len5) (⟨92, 157, [92], fun _ => .int .i64 17, none⟩ :: ⟨91, 156, [91, 11, 14, 18, 24, 30, 36, 42, 50, 60, 68, 75, 83, 88], fun e => .slice (some ⟨(e 0), 0, none⟩) 17 17, some fun e => .cells #[.bool true, .slice none 0 0, .slice none 0 0, .slice none 0 0, .int .i64 2, .bool ((Raw.of ((2 : Int) : Rat)).neg), .slice ad35 len35 cap35, .slice ae35 le35 ce35, .slice none 0 0, .int .i64 1, .bool ((Raw.of (((-1) : Int) : Rat)).neg), .slice ad37 len37 cap37, .slice ae37 le37 ce37, .slice none 0 0, .int .i64 1, .bool false, .slice none 0 0, .slice none 0 0, .slice none 0 0, .int .i64 3, .bool false, .slice none 0 0, .slice none 0 0, .slice (some ⟨(e 1), 0, none⟩) 201 201, .int .i64 4, .bool false, .slice none 0 0, .slice none 0 0, .slice (some ⟨(e 2), 0, none⟩) 1 1, .int .i64 3, .bool false, .slice none 0 0, .slice none 0 0, .slice (some ⟨(e 3), 0, none⟩) 1 1, .int .i64 4, .bool ((Raw.of 1).neg), .slice ad5 len5 cap5, .slice ae5 le5 ce5, .slice (some ⟨(e 4), 0, none⟩) 1 1, .int .i64 0, .bool false, .slice none 0 0, .slice none 0 0, .slice (some ⟨(e 5), 0, none⟩) 1 1, .int .i64 2, .bool false, .slice none 0 0, .slice none 0 0, .slice (some ⟨(e 6), 0, none⟩) 1 1, .int .i64 3, .bool false, .slice none 0 0, .slice none 0 0, .slice (some ⟨(e 7), 0, none⟩) 1 1, .int .i64 4, .bool false, .slice none 0 0, .slice none 0 0, .slice (some ⟨(e 8), 0, none⟩) 1 1, .int .i64 8, .bool false, .slice none 0 0, .slice none 0 0, .slice (some ⟨(e 9), 0, none⟩) 1 1, .int .i64 16, .bool false, .slice none 0 0, .slice none 0 0, .slice (some ⟨(e 10), 0, none⟩) 1 1, .int .i64 2, .bool false, .slice none 0 0, .slice none 0 0, .slice (some ⟨(e 11), 0, none⟩) 1 1, .int .i64 1, .bool false, .slice none 0 0, .slice none 0 0, .slice (some ⟨(e 12), 0, none⟩) 1 1, .int .i64 2, .bool false, .slice none 0 0, .slice none 0 0, .slice (some ⟨(e 13), 0, none⟩) 1 1, .int .i64 0] 65 (0, 0)⟩ :: pdl_5_12_1 ad15 ad5 ae15 ae5 b21 b27 b29 cap15 cap5 ce15 ce5 le15 le5 len15 len5) (⟨92, 157, [92], fun _ => .int .i64 17, none⟩ :: ⟨91, 156, [91, 11, 14, 18, 24, 30, 36, 42, 50, 60, 68, 75, 83, 88], fun e => .slice (some ⟨(e 0), 0, none⟩) 17 17, some fun e => .cells #[.bool true, .slice none 0 0, .slice none 0 0, .slice none 0 0, .int .i64 2, .bool ((Raw.of ((2 : Int) : Rat)).neg), .slice ad35 len35 cap35, .slice ae35 le35 ce35, .slice none 0 0, .int .i64 1, .bool ((Raw.of (((-1) : Int) : Rat)).neg), .slice ad37 len37 cap37, .slice ae37 le37 ce37, .slice none 0 0, .int .i64 1, .bool false, .slice none 0 0, .slice none 0 0, .slice none 0 0, .int .i64 3, .bool false, .slice none 0 0, .slice none 0 0, .slice (some ⟨(e 1), 0, none⟩) 201 201, .int .i64 4, .bool false, .slice none 0 0, .slice none 0 0, .slice (some ⟨(e 2), 0, none⟩) 1 1, .int .i64 3, .bool false, .slice none 0 0, .slice none 0 0, .slice (some ⟨(e 3), 0, none⟩) 1 1, .int .i64 4, .bool ((Raw.of 1).neg), .slice ad5 len5 cap5, .slice ae5 le5 ce5, .slice (some ⟨(e 4), 0, none⟩) 1 1, .int .i64 0, .bool false, .slice none 0 0, .slice none 0 0, .slice (some ⟨(e 5), 0, none⟩) 1 1, .int .i64 2, .bool false, .slice none 0 0, .slice none 0 0, .slice (some ⟨(e 6), 0, none⟩) 1 1, .int .i64 3, .bool false, .slice none 0 0, .slice none 0 0, .slice (some ⟨(e 7), 0, none⟩) 1 1, .int .i64 4, .bool false, .slice none 0 0, .slice none 0 0, .slice (some ⟨(e 8), 0, none⟩) 1 1, .int .i64 8, .bool false, .slice none 0 0, .slice none 0 0, .slice (some ⟨(e 9), 0, none⟩) 1 1, .int .i64 16, .bool false, .slice none 0 0, .slice none 0 0, .slice (some ⟨(e 10), 0, none⟩) 1 1, .int .i64 2, .bool false, .slice none 0 0, .slice none 0 0, .slice (some ⟨(e 11), 0, none⟩) 1 1, .int .i64 1, .bool false, .slice none 0 0, .slice none 0 0, .slice (some ⟨(e 12), 0, none⟩) 1 1, .int .i64 2, .bool false, .slice none 0 0, .slice none 0 0, .slice (some ⟨(e 13), 0, none⟩) 1 1, .int .i64 0] 65 (0, 0)⟩ :: pdl_5_12_1 ad15 ad5 ae15 ae5 b21 b27 b29 cap15 cap5 ce15 ce5 le15 le5 len15 len5) := by
  obtain ⟨P, ops, Q, T, n, D, E, w0, X, M0, r0⟩ := R
  dsimp only at hP ho hn
  subst hP ho hn
  exact PdOk.nil.k.k.k.k.k.k.k.k.k.k.k.k.k.k.k.k.k.k.k.k.k.k.k.k.k.k.k.k.k.k.k.k.k.k.k.k.k.k.k.k.k.k.k.k.k.k.k.k.k.k.k.k.k.k.k.k.k.k.k.k
theorem examples_c (w : World) (X : Hid) (hX : ∀ k o, X k o → k < w.heap.size) : Calls Tryz.prog 5 #[] w (Ret E0 w fun _ u => u = .bool true) := by
 refine zen Tryz.func5 ?_
 have A0 : St E0 w X w X [] := St.start hX
 refine zz 8 ?_
 refine zc A0 (awake_c _ _ A0.lt) ?_
 rintro v3 w3 A3 j3 hu3 rfl
 refine zz 14 ?_
 refine zc A3 (rFrom6_1 _ _ A3.lt) ?_
 rintro v5 w5 A5 j5 hu5 ⟨ad5, len5, cap5, ae5, le5, ce5, rfl, hN5, hD5⟩
 refine zz 1 ?_
 refine zn pn (.cells #[.bool false, .slice none 0 0, .slice none 0 0] 25 (0, 0)) A5 ?_
 intro b7 w7 Y7 A7 j7 hu7
 refine zn pn (.cells #[.bool false, .slice none 0 0, .slice none 0 0] 25 (0, 0)) A7 ?_
 intro b9 w9 Y9 A9 j9 hu9
 refine zx 1 #[.bool ((Raw.of 1).neg), .slice ad5 len5 cap5, .slice ae5 le5 ce5] A9 ?_
 intro w11 A11 j11
 refine zx 0 #[.bool true, .slice none 0 0, .slice none 0 0] A11 ?_
 intro w13 A13 j13
 refine zz 4 ?_
 refine zc A13 (rOf6_c _ _ A13.lt 1 2 (by omega) (by omega) (by omega) (by omega) (by omega)) ?_
 rintro v15 w15 A15 j15 hu15 ⟨u15, rfl, ⟨ad15, len15, cap15, ae15, le15, ce15, rfl, hN15, hD15⟩⟩
 refine zz 3 ?_
 refine zn pn (.cells #[.bool false, .slice none 0 0, .slice none 0 0] 25 (0, 0)) A15 ?_
 intro b17 w17 Y17 A17 j17 hu17
 refine zx 0 #[.bool halfR.neg, .slice ad15 len15 cap15, .slice ae15 le15 ce15] A17 ?_
 intro w19 A19 j19
 refine zz 5 ?_
 refine zo 2 A19 ?_
 refine zz 1 ?_
 refine zn (fun b => .slice (some ⟨b, 0, none⟩) 1 1) (.cells #[.int .i64 0, .bool ((Raw.of 1).neg), .slice ad5 len5 cap5, .slice ae5 le5 ce5] 60 (0, 0)) A19 ?_
 intro b21 w21 Y21 A21 j21 hu21
 refine zz 1 ?_
 refine zn pn (.cells #[.bool false, .slice none 0 0, .slice none 0 0, .slice none 0 0] 63 (0, 0)) A21 ?_
 intro b23 w23 Y23 A23 j23 hu23
 refine zx 0 #[.bool false, .slice none 0 0, .slice none 0 0, .slice (some ⟨b21, 0, none⟩) 1 1] A23 ?_
 intro w25 A25 j25
 refine zz 4 ?_
 refine zn (fun b => .slice (some ⟨b, 0, none⟩) 7 7) (.cells (actRow b21 0) 63 (0, 0)) A25 ?_
 intro b27 w27 Y27 A27 j27 hu27
 refine zz 5 ?_
 refine zn (fun b => .slice (some ⟨b, 0, none⟩) 65 65) (.cells wideC 60 (0, 0)) A27 ?_
 intro b29 w29 Y29 A29 j29 hu29
 refine zz 10 ?_
 refine zlp Tryz.f5 [] [1, 1, 1, 1, 1, 1, 1, 0, 1, 0] (fun (k : Nat) => [(1, .pointer (some ⟨b7, 0, none⟩)), (2, .pointer (some ⟨b9, 0, none⟩)), (3, .pointer (some ⟨b17, 0, none⟩)), (5, .pointer (some ⟨b23, 0, none⟩)), (6, .slice (some ⟨b27, 0, none⟩) 7 7), (7, .slice (some ⟨b29, 0, none⟩) 65 65), (8, .int .i64 (k : Int))]) (fun (k : Nat) w1 => ∃ (Y1 : Hid), St E0 w X w1 Y1 [(b29, .cells wideC 60 (0, 0)), (b27, .cells (actRow b21 k) 63 (0, 0)), (b23, .cells #[.bool false, .slice none 0 0, .slice none 0 0, .slice (some ⟨b21, 0, none⟩) 1 1] 63 (0, 0)), (b21, .cells #[.int .i64 0, .bool ((Raw.of 1).neg), .slice ad5 len5 cap5, .slice ae5 le5 ce5] 60 (0, 0)), (b17, .cells #[.bool halfR.neg, .slice ad15 len15 cap15, .slice ae15 le15 ce15] 25 (0, 0)), (b9, .cells #[.bool true, .slice none 0 0, .slice none 0 0] 25 (0, 0)), (b7, .cells #[.bool ((Raw.of 1).neg), .slice ad5 len5 cap5, .slice ae5 le5 ce5] 25 (0, 0))] ∧ Le (rd w29 Y29) (rd w1 Y1) ∧ (k ≤ 7)) (fun (k : Nat) => 7 - k) 0 ?_ ?_
 ·
  refine ⟨_, A29, Le.refl _, Nat.zero_le _⟩
 rintro k w30 K30 G30 ⟨Y30, A30, j30, hp30_0⟩
 refine zz 9 ?_
 refine zt 58 (p := (k : Int) < 7) (fun ht31 => ?_) (fun ht31 => ?_)
 ·
  refine zz 8 ?_
  refine zo 2 A30 ?_
  refine zi (b := b27) (off := 0) (len := 7) (cap := 7) (kd := .i64) (i := (k : Int)) 4 (k * 4) ?_
  refine zxG 1 (off := k * 4) (v := .agg #[.bool false, .slice none 0 0, .slice none 0 0, .slice (some ⟨b21, 0, none⟩) 1 1]) (cur' := actRow b21 (k + 1)) A30 rfl (by rw [act_size (by omega)]; show _ + 4 ≤ _; omega) (act_set (b := b21) (k := k) (by omega)) ?_
  intro w33 A33 j33
  refine zz 6 ?_
  refine zw 60 (x := (k : Int) + 1) ?_
  refine zz 2 ?_
  refine znext (fun a h => G30 (k + 1) _ a h ⟨_, A33, (Le2 j30 j33), by omega⟩ ?_)
  first | omega | (simp <;> omega)
 obtain rfl : k = 7 := by omega
 refine zz 8 ?_
 refine zN ⟨.code (at1 [K30] Tryz.f5 [1, 1, 1, 1, 1, 1, 1, 1, 0, 0]), at2 [K30] Tryz.f5 [1, 1, 1, 1, 1, 1, 1, 1, 0, 0], [(58, .bool false), (58, .bool (decide (((7 : Nat) : Int) < 7))), (57, .int .i64 7), (56, .slice (some ⟨b27, 0, none⟩) 7 7), (55, .int .i64 ((7 : Nat) : Int)), (1, .pointer (some ⟨b7, 0, none⟩)), (2, .pointer (some ⟨b9, 0, none⟩)), (3, .pointer (some ⟨b17, 0, none⟩)), (5, .pointer (some ⟨b23, 0, none⟩)), (6, .slice (some ⟨b27, 0, none⟩) 7 7), (7, .slice (some ⟨b29, 0, none⟩) 65 65), (8, .int .i64 ((7 : Nat) : Int))]⟩ ?_
 refine zdraw [2, 3, 4, 5, 6] A30 ?_
 refine gw 0 3 ?_
 refine gz [1, 2, 9, 10, 17] ?_
 refine gw 21 4 ?_
 refine gz [22] ?_
 refine gH (v := .slice (some ⟨b27, 0, none⟩) 6 7) 23 kw ?_
 refine gw 27 3 ?_
 refine gz [28] ?_
 refine gw 33 4 ?_
 refine gz [34, 39, 40] ?_
 refine gw 45 3 ?_
 refine gz [46] ?_
 refine gw 53 2 ?_
 refine gz [54] ?_
 refine gw 55 3 ?_
 refine gz [56] ?_
 refine gw 63 3 ?_
 refine gz [64, 71] ?_
 refine gw 78 2 ?_
 refine gz [79] ?_
 refine gw 86 0 ?_
 refine gz [93] ?_
 refine gp (al 87 152 (fun b => .slice (some ⟨b, 0, none⟩) 1 1) (.cells #[.bool false, .slice none 0 0, .slice none 0 0, .slice (some ⟨b21, 0, none⟩) 1 1] 63 (0, 0))) ?_
 refine gp (al 80 145 (fun b => .slice (some ⟨b, 0, none⟩) 1 1) (.cells #[.int .i64 0, .bool halfR.neg, .slice ad15 len15 cap15, .slice ae15 le15 ce15] 60 (0, 0))) ?_
 refine gp (al 72 137 (fun b => .slice (some ⟨b, 0, none⟩) 1 1) (.cells #[.int .i64 0, .bool false, .slice none 0 0, .slice none 0 0] 60 (0, 0))) ?_
 refine gp (al 65 130 (fun b => .slice (some ⟨b, 0, none⟩) 1 1) (.cells #[.int .i64 0, .bool true, .slice none 0 0, .slice none 0 0] 60 (0, 0))) ?_
 refine gp (al 57 122 (fun b => .slice (some ⟨b, 0, none⟩) 2 2) (.cells #[.int .i64 0, .bool halfR.neg, .slice ad15 len15 cap15, .slice ae15 le15 ce15, .int .i64 0, .bool true, .slice none 0 0, .slice none 0 0] 60 (0, 0))) ?_
 refine gp (al 47 112 (fun b => .slice (some ⟨b, 0, none⟩) 1 1) (.cells #[.int .i64 1, .bool true, .slice none 0 0, .slice none 0 0] 60 (0, 0))) ?_
 refine gp (al 41 106 (fun b => .slice (some ⟨b, 0, none⟩) 1 1) (.cells #[.bool false, .slice none 0 0, .slice none 0 0, .slice (some ⟨b29, 0, none⟩) 65 65] 63 (0, 0))) ?_
 refine gp (al 35 100 (fun b => .slice (some ⟨b, 0, none⟩) 1 1) (.cells #[.bool ((Raw.of 1).neg), .slice ad5 len5 cap5, .slice ae5 le5 ce5, .slice none 0 0] 63 (0, 0))) ?_
 refine gp (al 29 94 (fun b => .slice (some ⟨b, 0, none⟩) 1 1) (.cells #[.bool true, .slice none 0 0, .slice none 0 0, .slice none 0 0] 63 (0, 0))) ?_
 refine gp (al 24 89 (fun b => .slice (some ⟨b, 0, none⟩) 1 1) (.cells #[.slice (some ⟨b27, 0, none⟩) 6 7] 64 (0, 0))) ?_
 refine gp (al 18 83 (fun b => .slice (some ⟨b, 0, none⟩) 1 1) (.cells #[.slice (some ⟨b27, 0, none⟩) 7 7] 64 (0, 0))) ?_
 refine gp (al 14 79 (fun b => .slice (some ⟨b, 0, none⟩) 1 1) (.cells #[.slice none 0 0] 64 (0, 0))) ?_
 refine gp (al 11 76 (fun b => .slice (some ⟨b, 0, none⟩) 201 201) (.cells #[.slice none 0 0, .slice none 0 0, .slice none 0 0, .slice none 0 0, .slice none 0 0, .slice none 0 0, .slice none 0 0, .slice none 0 0, .slice none 0 0, .slice none 0 0, .slice none 0 0, .slice none 0 0, .slice none 0 0, .slice none 0 0, .slice none 0 0, .slice none 0 0, .slice none 0 0, .slice none 0 0, .slice none 0 0, .slice none 0 0, .slice none 0 0, .slice none 0 0, .slice none 0 0, .slice none 0 0, .slice none 0 0, .slice none 0 0, .slice none 0 0, .slice none 0 0, .slice none 0 0, .slice none 0 0, .slice none 0 0, .slice none 0 0, .slice none 0 0, .slice none 0 0, .slice none 0 0, .slice none 0 0, .slice none 0 0, .slice none 0 0, .slice none 0 0, .slice none 0 0, .slice none 0 0, .slice none 0 0, .slice none 0 0, .slice none 0 0, .slice none 0 0, .slice none 0 0, .slice none 0 0, .slice none 0 0, .slice none 0 0, .slice none 0 0, .slice none 0 0, .slice none 0 0, .slice none 0 0, .slice none 0 0, .slice none 0 0, .slice none 0 0, .slice none 0 0, .slice none 0 0, .slice none 0 0, .slice none 0 0, .slice none 0 0, .slice none 0 0, .slice none 0 0, .slice none 0 0, .slice none 0 0, .slice none 0 0, .slice none 0 0, .slice none 0 0, .slice none 0 0, .slice none 0 0, .slice none 0 0, .slice none 0 0, .slice none 0 0, .slice none 0 0, .slice none 0 0, .slice none 0 0, .slice none 0 0, .slice none 0 0, .slice none 0 0, .slice none 0 0, .slice none 0 0, .slice none 0 0, .slice none 0 0, .slice none 0 0, .slice none 0 0, .slice none 0 0, .slice none 0 0, .slice none 0 0, .slice none 0 0, .slice none 0 0, .slice none 0 0, .slice none 0 0, .slice none 0 0, .slice none 0 0, .slice none 0 0, .slice none 0 0, .slice none 0 0, .slice none 0 0, .slice none 0 0, .slice none 0 0, .slice none 0 0, .slice none 0 0, .slice none 0 0, .slice none 0 0, .slice none 0 0, .slice none 0 0, .slice none 0 0, .slice none 0 0, .slice none 0 0, .slice none 0 0, .slice none 0 0, .slice none 0 0, .slice none 0 0, .slice none 0 0, .slice none 0 0, .slice none 0 0, .slice none 0 0, .slice none 0 0, .slice none 0 0, .slice none 0 0, .slice none 0 0, .slice none 0 0, .slice none 0 0, .slice none 0 0, .slice none 0 0, .slice none 0 0, .slice none 0 0, .slice none 0 0, .slice none 0 0, .slice none 0 0, .slice none 0 0, .slice none 0 0, .slice none 0 0, .slice none 0 0, .slice none 0 0, .slice none 0 0, .slice none 0 0, .slice none 0 0, .slice none 0 0, .slice none 0 0, .slice none 0 0, .slice none 0 0, .slice none 0 0, .slice none 0 0, .slice none 0 0, .slice none 0 0, .slice none 0 0, .slice none 0 0, .slice none 0 0, .slice none 0 0, .slice none 0 0, .slice none 0 0, .slice none 0 0, .slice none 0 0, .slice none 0 0, .slice none 0 0, .slice none 0 0, .slice none 0 0, .slice none 0 0, .slice none 0 0, .slice none 0 0, .slice none 0 0, .slice none 0 0, .slice none 0 0, .slice none 0 0, .slice none 0 0, .slice none 0 0, .slice none 0 0, .slice none 0 0, .slice none 0 0, .slice none 0 0, .slice none 0 0, .slice none 0 0, .slice none 0 0, .slice none 0 0, .slice none 0 0, .slice none 0 0, .slice none 0 0, .slice none 0 0, .slice none 0 0, .slice none 0 0, .slice none 0 0, .slice none 0 0, .slice none 0 0, .slice none 0 0, .slice none 0 0, .slice none 0 0, .slice none 0 0, .slice none 0 0, .slice none 0 0, .slice none 0 0, .slice none 0 0, .slice none 0 0, .slice none 0 0, .slice none 0 0, .slice none 0 0, .slice none 0 0, .slice none 0 0, .slice none 0 0, .slice none 0 0, .slice none 0 0] 64 (0, 0))) ?_
 refine gp ⟨12, 77, [12, 11], fun e => .agg #[.bool false, .slice none 0 0, .slice none 0 0, .slice (some ⟨(e 1), 0, none⟩) 201 201], none⟩ ?_
 refine gp ⟨13, 78, [13, 11], fun e => .agg #[.bool false, .slice none 0 0, .slice none 0 0, .slice (some ⟨(e 1), 0, none⟩) 201 201, .int .i64 4], none⟩ ?_
 refine gp ⟨15, 80, [15, 14], fun e => .agg #[.bool false, .slice none 0 0, .slice none 0 0, .slice (some ⟨(e 1), 0, none⟩) 1 1], none⟩ ?_
 refine gp ⟨16, 81, [16, 14], fun e => .agg #[.bool false, .slice none 0 0, .slice none 0 0, .slice (some ⟨(e 1), 0, none⟩) 1 1, .int .i64 3], none⟩ ?_
 refine gp ⟨19, 84, [19, 18], fun e => .agg #[.bool false, .slice none 0 0, .slice none 0 0, .slice (some ⟨(e 1), 0, none⟩) 1 1], none⟩ ?_
 refine gp ⟨20, 85, [20, 18], fun e => .agg #[.bool false, .slice none 0 0, .slice none 0 0, .slice (some ⟨(e 1), 0, none⟩) 1 1, .int .i64 4], none⟩ ?_
 refine gp ⟨25, 90, [25, 24], fun e => .agg #[.bool ((Raw.of 1).neg), .slice ad5 len5 cap5, .slice ae5 le5 ce5, .slice (some ⟨(e 1), 0, none⟩) 1 1], none⟩ ?_
 refine gp ⟨26, 91, [26, 24], fun e => .agg #[.bool ((Raw.of 1).neg), .slice ad5 len5 cap5, .slice ae5 le5 ce5, .slice (some ⟨(e 1), 0, none⟩) 1 1, .int .i64 0], none⟩ ?_
 refine gp ⟨30, 95, [30, 29], fun e => .slice (some ⟨(e 0), 0, none⟩) 1 1, some fun e => .cells #[.slice (some ⟨(e 1), 0, none⟩) 1 1] 64 (0, 0)⟩ ?_
 refine gp ⟨31, 96, [31, 30], fun e => .agg #[.bool false, .slice none 0 0, .slice none 0 0, .slice (some ⟨(e 1), 0, none⟩) 1 1], none⟩ ?_
 refine gp ⟨32, 97, [32, 30], fun e => .agg #[.bool false, .slice none 0 0, .slice none 0 0, .slice (some ⟨(e 1), 0, none⟩) 1 1, .int .i64 2], none⟩ ?_
 refine gp ⟨36, 101, [36, 35], fun e => .slice (some ⟨(e 0), 0, none⟩) 1 1, some fun e => .cells #[.slice (some ⟨(e 1), 0, none⟩) 1 1] 64 (0, 0)⟩ ?_
 refine gp ⟨37, 102, [37, 36], fun e => .agg #[.bool false, .slice none 0 0, .slice none 0 0, .slice (some ⟨(e 1), 0, none⟩) 1 1], none⟩ ?_
 refine gp ⟨38, 103, [38, 36], fun e => .agg #[.bool false, .slice none 0 0, .slice none 0 0, .slice (some ⟨(e 1), 0, none⟩) 1 1, .int .i64 3], none⟩ ?_
 refine gp ⟨42, 107, [42, 41], fun e => .slice (some ⟨(e 0), 0, none⟩) 1 1, some fun e => .cells #[.slice (some ⟨(e 1), 0, none⟩) 1 1] 64 (0, 0)⟩ ?_
 refine gp ⟨43, 108, [43, 42], fun e => .agg #[.bool false, .slice none 0 0, .slice none 0 0, .slice (some ⟨(e 1), 0, none⟩) 1 1], none⟩ ?_
 refine gp ⟨44, 109, [44, 42], fun e => .agg #[.bool false, .slice none 0 0, .slice none 0 0, .slice (some ⟨(e 1), 0, none⟩) 1 1, .int .i64 4], none⟩ ?_
 refine gp ⟨48, 113, [48, 47], fun e => .agg #[.bool false, .slice none 0 0, .slice none 0 0, .slice (some ⟨(e 1), 0, none⟩) 1 1], none⟩ ?_
 refine gp ⟨49, 114, [49, 47], fun e => .slice (some ⟨(e 0), 0, none⟩) 1 1, some fun e => .cells #[.bool false, .slice none 0 0, .slice none 0 0, .slice (some ⟨(e 1), 0, none⟩) 1 1] 63 (0, 0)⟩ ?_
 refine gp ⟨50, 115, [50, 49], fun e => .slice (some ⟨(e 0), 0, none⟩) 1 1, some fun e => .cells #[.slice (some ⟨(e 1), 0, none⟩) 1 1] 64 (0, 0)⟩ ?_
 refine gp ⟨51, 116, [51, 50], fun e => .agg #[.bool false, .slice none 0 0, .slice none 0 0, .slice (some ⟨(e 1), 0, none⟩) 1 1], none⟩ ?_
 refine gp ⟨52, 117, [52, 50], fun e => .agg #[.bool false, .slice none 0 0, .slice none 0 0, .slice (some ⟨(e 1), 0, none⟩) 1 1, .int .i64 8], none⟩ ?_
 refine gp ⟨58, 123, [58, 57], fun e => .agg #[.bool false, .slice none 0 0, .slice none 0 0, .slice (some ⟨(e 1), 0, none⟩) 2 2], none⟩ ?_
 refine gp ⟨59, 124, [59, 57], fun e => .slice (some ⟨(e 0), 0, none⟩) 1 1, some fun e => .cells #[.bool false, .slice none 0 0, .slice none 0 0, .slice (some ⟨(e 1), 0, none⟩) 2 2] 63 (0, 0)⟩ ?_
 refine gp ⟨60, 125, [60, 59], fun e => .slice (some ⟨(e 0), 0, none⟩) 1 1, some fun e => .cells #[.slice (some ⟨(e 1), 0, none⟩) 1 1] 64 (0, 0)⟩ ?_
 refine gp ⟨61, 126, [61, 60], fun e => .agg #[.bool false, .slice none 0 0, .slice none 0 0, .slice (some ⟨(e 1), 0, none⟩) 1 1], none⟩ ?_
 refine gp ⟨62, 127, [62, 60], fun e => .agg #[.bool false, .slice none 0 0, .slice none 0 0, .slice (some ⟨(e 1), 0, none⟩) 1 1, .int .i64 16], none⟩ ?_
 refine gp ⟨66, 131, [66, 65], fun e => .agg #[.bool false, .slice none 0 0, .slice none 0 0, .slice (some ⟨(e 1), 0, none⟩) 1 1], none⟩ ?_
 refine gp ⟨67, 132, [67, 65], fun e => .slice (some ⟨(e 0), 0, none⟩) 1 1, some fun e => .cells #[.bool false, .slice none 0 0, .slice none 0 0, .slice (some ⟨(e 1), 0, none⟩) 1 1] 63 (0, 0)⟩ ?_
 refine gp ⟨68, 133, [68, 67], fun e => .slice (some ⟨(e 0), 0, none⟩) 1 1, some fun e => .cells #[.slice (some ⟨(e 1), 0, none⟩) 1 1] 64 (0, 0)⟩ ?_
 refine gp ⟨69, 134, [69, 68], fun e => .agg #[.bool false, .slice none 0 0, .slice none 0 0, .slice (some ⟨(e 1), 0, none⟩) 1 1], none⟩ ?_
 refine gp ⟨70, 135, [70, 68], fun e => .agg #[.bool false, .slice none 0 0, .slice none 0 0, .slice (some ⟨(e 1), 0, none⟩) 1 1, .int .i64 2], none⟩ ?_
 refine gp ⟨73, 138, [73, 72], fun e => .agg #[.bool false, .slice none 0 0, .slice none 0 0, .slice (some ⟨(e 1), 0, none⟩) 1 1], none⟩ ?_
 refine gp ⟨74, 139, [74, 72], fun e => .slice (some ⟨(e 0), 0, none⟩) 1 1, some fun e => .cells #[.bool false, .slice none 0 0, .slice none 0 0, .slice (some ⟨(e 1), 0, none⟩) 1 1] 63 (0, 0)⟩ ?_
 refine gp ⟨75, 140, [75, 74], fun e => .slice (some ⟨(e 0), 0, none⟩) 1 1, some fun e => .cells #[.slice (some ⟨(e 1), 0, none⟩) 1 1] 64 (0, 0)⟩ ?_
 refine gp ⟨76, 141, [76, 75], fun e => .agg #[.bool false, .slice none 0 0, .slice none 0 0, .slice (some ⟨(e 1), 0, none⟩) 1 1], none⟩ ?_
 refine gp ⟨77, 142, [77, 75], fun e => .agg #[.bool false, .slice none 0 0, .slice none 0 0, .slice (some ⟨(e 1), 0, none⟩) 1 1, .int .i64 1], none⟩ ?_
 refine gp ⟨81, 146, [81, 80], fun e => .agg #[.bool false, .slice none 0 0, .slice none 0 0, .slice (some ⟨(e 1), 0, none⟩) 1 1], none⟩ ?_
 refine gp ⟨82, 147, [82, 80], fun e => .slice (some ⟨(e 0), 0, none⟩) 1 1, some fun e => .cells #[.bool false, .slice none 0 0, .slice none 0 0, .slice (some ⟨(e 1), 0, none⟩) 1 1] 63 (0, 0)⟩ ?_
 refine gp ⟨83, 148, [83, 82], fun e => .slice (some ⟨(e 0), 0, none⟩) 1 1, some fun e => .cells #[.slice (some ⟨(e 1), 0, none⟩) 1 1] 64 (0, 0)⟩ ?_
 refine gp ⟨84, 149, [84, 83], fun e => .agg #[.bool false, .slice none 0 0, .slice none 0 0, .slice (some ⟨(e 1), 0, none⟩) 1 1], none⟩ ?_
 refine gp ⟨85, 150, [85, 83], fun e => .agg #[.bool false, .slice none 0 0, .slice none 0 0, .slice (some ⟨(e 1), 0, none⟩) 1 1, .int .i64 2], none⟩ ?_
 refine gp ⟨88, 153, [88, 87], fun e => .slice (some ⟨(e 0), 0, none⟩) 1 1, some fun e => .cells #[.slice (some ⟨(e 1), 0, none⟩) 1 1] 64 (0, 0)⟩ ?_
 refine gp ⟨89, 154, [89, 88], fun e => .agg #[.bool false, .slice none 0 0, .slice none 0 0, .slice (some ⟨(e 1), 0, none⟩) 1 1], none⟩ ?_
 refine gp ⟨90, 155, [90, 88], fun e => .agg #[.bool false, .slice none 0 0, .slice none 0 0, .slice (some ⟨(e 1), 0, none⟩) 1 1, .int .i64 0], none⟩ ?_
 refine gN (pc_5_12_0 ad15 ad5 ae15 ae5 b17 b21 b23 b27 b29 b7 b9 cap15 cap5 ce15 ce5 le15 le5 len15 len5) ?_
 refine gC 3 (fun w34 Y34 _ A34 j34 => (rFrom6_c _ _ A34.lt 2 (by omega) (by omega))) ?_ (hPd := (pd_5_12_1 ad15 ad5 ae15 ae5 b17 b21 b23 b27 b29 b7 b9 cap15 cap5 ce15 ce5 le15 le5 len15 len5 _))
 rintro v35 w34 Y35 w35 A34 j35 ⟨ad35, len35, cap35, ae35, le35, ce35, rfl, hN35, hD35⟩
 refine gz [4, 5] ?_
 refine gN (pc_5_12_4 ad15 ad35 ad5 ae15 ae35 ae5 b17 b21 b23 b27 b29 b7 b9 cap15 cap35 cap5 ce15 ce35 ce5 le15 le35 le5 len15 len35 len5) ?_
 refine gC 6 (fun w36 Y36 _ A36 j36 => (rFrom6_c _ _ A36.lt (-1) (by omega) (by omega))) ?_ (hPd := (pd_5_12_5 ad15 ad35 ad5 ae15 ae35 ae5 b17 b21 b23 b27 b29 b7 b9 cap15 cap35 cap5 ce15 ce35 ce5 le15 le35 le5 len15 len35 len5 _))
 rintro v37 w36 Y37 w37 A36 j37 ⟨ad37, len37, cap37, ae37, le37, ce37, rfl, hN37, hD37⟩
 refine gz [7, 8] ?_
 refine gp ⟨91, 156, [91, 11, 14, 18, 24, 30, 36, 42, 50, 60, 68, 75, 83, 88], fun e => .slice (some ⟨(e 0), 0, none⟩) 17 17, some fun e => .cells #[.bool true, .slice none 0 0, .slice none 0 0, .slice none 0 0, .int .i64 2, .bool ((Raw.of ((2 : Int) : Rat)).neg), .slice ad35 len35 cap35, .slice ae35 le35 ce35, .slice none 0 0, .int .i64 1, .bool ((Raw.of (((-1) : Int) : Rat)).neg), .slice ad37 len37 cap37, .slice ae37 le37 ce37, .slice none 0 0, .int .i64 1, .bool false, .slice none 0 0, .slice none 0 0, .slice none 0 0, .int .i64 3, .bool false, .slice none 0 0, .slice none 0 0, .slice (some ⟨(e 1), 0, none⟩) 201 201, .int .i64 4, .bool false, .slice none 0 0, .slice none 0 0, .slice (some ⟨(e 2), 0, none⟩) 1 1, .int .i64 3, .bool false, .slice none 0 0, .slice none 0 0, .slice (some ⟨(e 3), 0, none⟩) 1 1, .int .i64 4, .bool ((Raw.of 1).neg), .slice ad5 len5 cap5, .slice ae5 le5 ce5, .slice (some ⟨(e 4), 0, none⟩) 1 1, .int .i64 0, .bool false, .slice none 0 0, .slice none 0 0, .slice (some ⟨(e 5), 0, none⟩) 1 1, .int .i64 2, .bool false, .slice none 0 0, .slice none 0 0, .slice (some ⟨(e 6), 0, none⟩) 1 1, .int .i64 3, .bool false, .slice none 0 0, .slice none 0 0, .slice (some ⟨(e 7), 0, none⟩) 1 1, .int .i64 4, .bool false, .slice none 0 0, .slice none 0 0, .slice (some ⟨(e 8), 0, none⟩) 1 1, .int .i64 8, .bool false, .slice none 0 0, .slice none 0 0, .slice (some ⟨(e 9), 0, none⟩) 1 1, .int .i64 16, .bool false, .slice none 0 0, .slice none 0 0, .slice (some ⟨(e 10), 0, none⟩) 1 1, .int .i64 2, .bool false, .slice none 0 0, .slice none 0 0, .slice (some ⟨(e 11), 0, none⟩) 1 1, .int .i64 1, .bool false, .slice none 0 0, .slice none 0 0, .slice (some ⟨(e 12), 0, none⟩) 1 1, .int .i64 2, .bool false, .slice none 0 0, .slice none 0 0, .slice (some ⟨(e 13), 0, none⟩) 1 1, .int .i64 0] 65 (0, 0)⟩ ?_
 refine gp ⟨92, 157, [92], fun _ => .int .i64 17, none⟩ ?_
 refine gN (pc_5_12_6 ad15 ad35 ad37 ad5 ae15 ae35 ae37 ae5 b17 b21 b23 b27 b29 b7 b9 cap15 cap35 cap37 cap5 ce15 ce35 ce37 ce5 le15 le35 le37 le5 len15 len35 len37 len5) ?_
 refine geA (fun e38 => ?_) (pd_5_12_7 ad15 ad35 ad37 ad5 ae15 ae35 ae37 ae5 b17 b21 b23 b27 b29 b7 b9 cap15 cap35 cap37 cap5 ce15 ce35 ce37 ce5 le15 le35 le37 le5 len15 len35 len37 len5 _)
 refine gend (fun w39 Y39 A39 j39 => ?_)
 refine zz 2 ?_
 obtain ⟨Y40, A40, j40, hat40⟩ := St.pubAll A39
 have hB40q0 : At (rd w39 Y40) ⟨(e38 91), 0, none⟩ ([.bool true, .slice none 0 0, .slice none 0 0, .slice none 0 0, .int .i64 2, .bool ((Raw.of ((2 : Int) : Rat)).neg), .slice ad35 len35 cap35, .slice ae35 le35 ce35, .slice none 0 0, .int .i64 1, .bool ((Raw.of (((-1) : Int) : Rat)).neg), .slice ad37 len37 cap37, .slice ae37 le37 ce37, .slice none 0 0, .int .i64 1, .bool false, .slice none 0 0, .slice none 0 0, .slice none 0 0, .int .i64 3, .bool false, .slice none 0 0, .slice none 0 0, .slice (some ⟨(e38 11), 0, none⟩) 201 201, .int .i64 4, .bool false, .slice none 0 0, .slice none 0 0, .slice (some ⟨(e38 14), 0, none⟩) 1 1, .int .i64 3, .bool false, .slice none 0 0, .slice none 0 0, .slice (some ⟨(e38 18), 0, none⟩) 1 1, .int .i64 4, .bool ((Raw.of 1).neg), .slice ad5 len5 cap5, .slice ae5 le5 ce5, .slice (some ⟨(e38 24), 0, none⟩) 1 1, .int .i64 0, .bool false, .slice none 0 0, .slice none 0 0, .slice (some ⟨(e38 30), 0, none⟩) 1 1, .int .i64 2, .bool false, .slice none 0 0, .slice none 0 0, .slice (some ⟨(e38 36), 0, none⟩) 1 1, .int .i64 3, .bool false, .slice none 0 0, .slice none 0 0, .slice (some ⟨(e38 42), 0, none⟩) 1 1, .int .i64 4, .bool false, .slice none 0 0, .slice none 0 0, .slice (some ⟨(e38 50), 0, none⟩) 1 1, .int .i64 8, .bool false, .slice none 0 0, .slice none 0 0, .slice (some ⟨(e38 60), 0, none⟩) 1 1, .int .i64 16, .bool false, .slice none 0 0, .slice none 0 0, .slice (some ⟨(e38 68), 0, none⟩) 1 1, .int .i64 2, .bool false, .slice none 0 0, .slice none 0 0, .slice (some ⟨(e38 75), 0, none⟩) 1 1, .int .i64 1, .bool false, .slice none 0 0, .slice none 0 0, .slice (some ⟨(e38 83), 0, none⟩) 1 1, .int .i64 2, .bool false, .slice none 0 0, .slice none 0 0, .slice (some ⟨(e38 88), 0, none⟩) 1 1, .int .i64 0]) := hat40 0 rfl rfl
 have hB40q1 : At (rd w39 Y40) ⟨(e38 88), 0, none⟩ ([.slice (some ⟨(e38 87), 0, none⟩) 1 1]) := hat40 1 rfl rfl
 have hB40q2 : At (rd w39 Y40) ⟨(e38 83), 0, none⟩ ([.slice (some ⟨(e38 82), 0, none⟩) 1 1]) := hat40 2 rfl rfl
 have hB40q3 : At (rd w39 Y40) ⟨(e38 82), 0, none⟩ ([.bool false, .slice none 0 0, .slice none 0 0, .slice (some ⟨(e38 80), 0, none⟩) 1 1]) := hat40 3 rfl rfl
 have hB40q4 : At (rd w39 Y40) ⟨(e38 75), 0, none⟩ ([.slice (some ⟨(e38 74), 0, none⟩) 1 1]) := hat40 4 rfl rfl
 have hB40q5 : At (rd w39 Y40) ⟨(e38 74), 0, none⟩ ([.bool false, .slice none 0 0, .slice none 0 0, .slice (some ⟨(e38 72), 0, none⟩) 1 1]) := hat40 5 rfl rfl
 have hB40q6 : At (rd w39 Y40) ⟨(e38 68), 0, none⟩ ([.slice (some ⟨(e38 67), 0, none⟩) 1 1]) := hat40 6 rfl rfl
 have hB40q7 : At (rd w39 Y40) ⟨(e38 67), 0, none⟩ ([.bool false, .slice none 0 0, .slice none 0 0, .slice (some ⟨(e38 65), 0, none⟩) 1 1]) := hat40 7 rfl rfl
 have hB40q8 : At (rd w39 Y40) ⟨(e38 60), 0, none⟩ ([.slice (some ⟨(e38 59), 0, none⟩) 1 1]) := hat40 8 rfl rfl
 have hB40q9 : At (rd w39 Y40) ⟨(e38 59), 0, none⟩ ([.bool false, .slice none 0 0, .slice none 0 0, .slice (some ⟨(e38 57), 0, none⟩) 2 2]) := hat40 9 rfl rfl
 have hB40q10 : At (rd w39 Y40) ⟨(e38 50), 0, none⟩ ([.slice (some ⟨(e38 49), 0, none⟩) 1 1]) := hat40 10 rfl rfl
 have hB40q11 : At (rd w39 Y40) ⟨(e38 49), 0, none⟩ ([.bool false, .slice none 0 0, .slice none 0 0, .slice (some ⟨(e38 47), 0, none⟩) 1 1]) := hat40 11 rfl rfl
 have hB40q12 : At (rd w39 Y40) ⟨(e38 42), 0, none⟩ ([.slice (some ⟨(e38 41), 0, none⟩) 1 1]) := hat40 12 rfl rfl
 have hB40q13 : At (rd w39 Y40) ⟨(e38 36), 0, none⟩ ([.slice (some ⟨(e38 35), 0, none⟩) 1 1]) := hat40 13 rfl rfl
 have hB40q14 : At (rd w39 Y40) ⟨(e38 30), 0, none⟩ ([.slice (some ⟨(e38 29), 0, none⟩) 1 1]) := hat40 14 rfl rfl
 have hB40q15 : At (rd w39 Y40) ⟨(e38 11), 0, none⟩ ([.slice none 0 0, .slice none 0 0, .slice none 0 0, .slice none 0 0, .slice none 0 0, .slice none 0 0, .slice none 0 0, .slice none 0 0, .slice none 0 0, .slice none 0 0, .slice none 0 0, .slice none 0 0, .slice none 0 0, .slice none 0 0, .slice none 0 0, .slice none 0 0, .slice none 0 0, .slice none 0 0, .slice none 0 0, .slice none 0 0, .slice none 0 0, .slice none 0 0, .slice none 0 0, .slice none 0 0, .slice none 0 0, .slice none 0 0, .slice none 0 0, .slice none 0 0, .slice none 0 0, .slice none 0 0, .slice none 0 0, .slice none 0 0, .slice none 0 0, .slice none 0 0, .slice none 0 0, .slice none 0 0, .slice none 0 0, .slice none 0 0, .slice none 0 0, .slice none 0 0, .slice none 0 0, .slice none 0 0, .slice none 0 0, .slice none 0 0, .slice none 0 0, .slice none 0 0, .slice none 0 0, .slice none 0 0, .slice none 0 0, .slice none 0 0, .slice none 0 0, .slice none 0 0, .slice none 0 0, .slice none 0 0, .slice none 0 0, .slice none 0 0, .slice none 0 0, .slice none 0 0, .slice none 0 0, .slice none 0 0, .slice none 0 0, .slice none 0 0, .slice none 0 0, .slice none 0 0, .slice none 0 0, .slice none 0 0, .slice none 0 0, .slice none 0 0, .slice none 0 0, .slice none 0 0, .slice none 0 0, .slice none 0 0, .slice none 0 0, .slice none 0 0, .slice none 0 0, .slice none 0 0, .slice none 0 0, .slice none 0 0, .slice none 0 0, .slice none 0 0, .slice none 0 0, .slice none 0 0, .slice none 0 0, .slice none 0 0, .slice none 0 0, .slice none 0 0, .slice none 0 0, .slice none 0 0, .slice none 0 0, .slice none 0 0, .slice none 0 0, .slice none 0 0, .slice none 0 0, .slice none 0 0, .slice none 0 0, .slice none 0 0, .slice none 0 0, .slice none 0 0, .slice none 0 0, .slice none 0 0, .slice none 0 0, .slice none 0 0, .slice none 0 0, .slice none 0 0, .slice none 0 0, .slice none 0 0, .slice none 0 0, .slice none 0 0, .slice none 0 0, .slice none 0 0, .slice none 0 0, .slice none 0 0, .slice none 0 0, .slice none 0 0, .slice none 0 0, .slice none 0 0, .slice none 0 0, .slice none 0 0, .slice none 0 0, .slice none 0 0, .slice none 0 0, .slice none 0 0, .slice none 0 0, .slice none 0 0, .slice none 0 0, .slice none 0 0, .slice none 0 0, .slice none 0 0, .slice none 0 0, .slice none 0 0, .slice none 0 0, .slice none 0 0, .slice none 0 0, .slice none 0 0, .slice none 0 0, .slice none 0 0, .slice none 0 0, .slice none 0 0, .slice none 0 0, .slice none 0 0, .slice none 0 0, .slice none 0 0, .slice none 0 0, .slice none 0 0, .slice none 0 0, .slice none 0 0, .slice none 0 0, .slice none 0 0, .slice none 0 0, .slice none 0 0, .slice none 0 0, .slice none 0 0, .slice none 0 0, .slice none 0 0, .slice none 0 0, .slice none 0 0, .slice none 0 0, .slice none 0 0, .slice none 0 0, .slice none 0 0, .slice none 0 0, .slice none 0 0, .slice none 0 0, .slice none 0 0, .slice none 0 0, .slice none 0 0, .slice none 0 0, .slice none 0 0, .slice none 0 0, .slice none 0 0, .slice none 0 0, .slice none 0 0, .slice none 0 0, .slice none 0 0, .slice none 0 0, .slice none 0 0, .slice none 0 0, .slice none 0 0, .slice none 0 0, .slice none 0 0, .slice none 0 0, .slice none 0 0, .slice none 0 0, .slice none 0 0, .slice none 0 0, .slice none 0 0, .slice none 0 0, .slice none 0 0, .slice none 0 0, .slice none 0 0, .slice none 0 0, .slice none 0 0, .slice none 0 0, .slice none 0 0, .slice none 0 0, .slice none 0 0, .slice none 0 0, .slice none 0 0, .slice none 0 0, .slice none 0 0, .slice none 0 0]) := hat40 15 rfl rfl
 have hB40q16 : At (rd w39 Y40) ⟨(e38 14), 0, none⟩ ([.slice none 0 0]) := hat40 16 rfl rfl
 have hB40q17 : At (rd w39 Y40) ⟨(e38 18), 0, none⟩ ([.slice (some ⟨b27, 0, none⟩) 7 7]) := hat40 17 rfl rfl
 have hB40q18 : At (rd w39 Y40) ⟨(e38 24), 0, none⟩ ([.slice (some ⟨b27, 0, none⟩) 6 7]) := hat40 18 rfl rfl
 have hB40q19 : At (rd w39 Y40) ⟨(e38 29), 0, none⟩ ([.bool true, .slice none 0 0, .slice none 0 0, .slice none 0 0]) := hat40 19 rfl rfl
 have hB40q20 : At (rd w39 Y40) ⟨(e38 35), 0, none⟩ ([.bool ((Raw.of 1).neg), .slice ad5 len5 cap5, .slice ae5 le5 ce5, .slice none 0 0]) := hat40 20 rfl rfl
 have hB40q21 : At (rd w39 Y40) ⟨(e38 41), 0, none⟩ ([.bool false, .slice none 0 0, .slice none 0 0, .slice (some ⟨b29, 0, none⟩) 65 65]) := hat40 21 rfl rfl
 have hB40q22 : At (rd w39 Y40) ⟨(e38 47), 0, none⟩ ([.int .i64 1, .bool true, .slice none 0 0, .slice none 0 0]) := hat40 22 rfl rfl
 have hB40q23 : At (rd w39 Y40) ⟨(e38 57), 0, none⟩ ([.int .i64 0, .bool halfR.neg, .slice ad15 len15 cap15, .slice ae15 le15 ce15, .int .i64 0, .bool true, .slice none 0 0, .slice none 0 0]) := hat40 23 rfl rfl
 have hB40q24 : At (rd w39 Y40) ⟨(e38 65), 0, none⟩ ([.int .i64 0, .bool true, .slice none 0 0, .slice none 0 0]) := hat40 24 rfl rfl
 have hB40q25 : At (rd w39 Y40) ⟨(e38 72), 0, none⟩ ([.int .i64 0, .bool false, .slice none 0 0, .slice none 0 0]) := hat40 25 rfl rfl
 have hB40q26 : At (rd w39 Y40) ⟨(e38 80), 0, none⟩ ([.int .i64 0, .bool halfR.neg, .slice ad15 len15 cap15, .slice ae15 le15 ce15]) := hat40 26 rfl rfl
 have hB40q27 : At (rd w39 Y40) ⟨(e38 87), 0, none⟩ ([.bool false, .slice none 0 0, .slice none 0 0, .slice (some ⟨b21, 0, none⟩) 1 1]) := hat40 27 rfl rfl
 have hB40q28 : At (rd w39 Y40) ⟨b29, 0, none⟩ ((List.replicate 65 zeroO).flatten ++ []) := hat40 28 rfl rfl
 have hB40q29 : At (rd w39 Y40) ⟨b27, 0, none⟩ ((List.replicate 7 (stayC b21)).flatten ++ (List.replicate (7 - 7) zeroA).flatten) := hat40 29 rfl rfl
 have hB40q30 : At (rd w39 Y40) ⟨b23, 0, none⟩ ([.bool false, .slice none 0 0, .slice none 0 0, .slice (some ⟨b21, 0, none⟩) 1 1]) := hat40 30 rfl rfl
 have hB40q31 : At (rd w39 Y40) ⟨b21, 0, none⟩ ([.int .i64 0, .bool ((Raw.of 1).neg), .slice ad5 len5 cap5, .slice ae5 le5 ce5]) := hat40 31 rfl rfl
 have hB40q32 : At (rd w39 Y40) ⟨b17, 0, none⟩ ([.bool halfR.neg, .slice ad15 len15 cap15, .slice ae15 le15 ce15]) := hat40 32 rfl rfl
 have hB40q33 : At (rd w39 Y40) ⟨b9, 0, none⟩ ([.bool true, .slice none 0 0, .slice none 0 0]) := hat40 33 rfl rfl
 have hB40q34 : At (rd w39 Y40) ⟨b7, 0, none⟩ ([.bool ((Raw.of 1).neg), .slice ad5 len5 cap5, .slice ae5 le5 ce5]) := hat40 34 rfl rfl
 have hnil40 : Limbs (rd w39 Y40) none 0 0 [] := Limbs.nil none (by omega)
 have hE0 : ExAt (rd w39 Y40) ⟨(e38 91), 0, none⟩ (⟨badR, []⟩, 2) := ⟨_, _, _, _, _, _, _, _, _, At.seg hB40q0 0 5 rfl, (Limbs.nil none (by omega)), (Limbs.nil none (by omega)), SlR.nil none (by omega)⟩
 have hE1 : ExAt (rd w39 Y40) ⟨(e38 91), 5, none⟩ (⟨.of ((2 : Int) : Rat), []⟩, 1) := ⟨_, _, _, _, _, _, _, _, _, At.seg hB40q0 5 5 rfl, (hN35.mono (Le3 j37 j39 j40)), (hD35.mono (Le3 j37 j39 j40)), SlR.nil none (by omega)⟩
 have hE2 : ExAt (rd w39 Y40) ⟨(e38 91), 10, none⟩ (⟨.of ((-1 : Int) : Rat), []⟩, 1) := ⟨_, _, _, _, _, _, _, _, _, At.seg hB40q0 10 5 rfl, (hN37.mono (Le2 j39 j40)), (hD37.mono (Le2 j39 j40)), SlR.nil none (by omega)⟩
 have hE3 : ExAt (rd w39 Y40) ⟨(e38 91), 15, none⟩ (⟨.zero, []⟩, 3) := ⟨_, _, _, _, _, _, _, _, _, At.seg hB40q0 15 5 rfl, (Limbs.nil none (by omega)), (Limbs.nil none (by omega)), SlR.nil none (by omega)⟩
 have hE4 : ExAt (rd w39 Y40) ⟨(e38 91), 20, none⟩ (⟨.zero, List.replicate 201 []⟩, 4) := ⟨_, _, _, _, _, _, _, _, _, At.seg hB40q0 20 5 rfl, (Limbs.nil none (by omega)), (Limbs.nil none (by omega)), (sl_rep (c := [.slice none 0 0]) (rest := []) 201 201 rfl (show At _ _ ((List.replicate 201 [Value.slice none 0 0]).flatten ++ []) from hB40q15) (by omega) (by omega) (fun o h => ⟨_, _, _, h, SlR.nil none (by omega)⟩))⟩
 have hE5 : ExAt (rd w39 Y40) ⟨(e38 91), 25, none⟩ (⟨.zero, [[]]⟩, 3) := ⟨_, _, _, _, _, _, _, _, _, At.seg hB40q0 25 5 rfl, (Limbs.nil none (by omega)), (Limbs.nil none (by omega)), (states_one (o := []) ⟨_, _, _, hB40q16, SlR.nil none (by omega)⟩)⟩
 have hc1_ := (Le16 j7 j9 j11 j13 j15 j17 j19 j21 j23 j25 j27 j29 j30 j35 j37 j39).trans j40
 have hE6 : ExAt (rd w39 Y40) ⟨(e38 91), 30, none⟩ (⟨.zero, [List.replicate 7 stayA]⟩, 4) := ⟨_, _, _, _, _, _, _, _, _, At.seg hB40q0 30 5 rfl, (Limbs.nil none (by omega)), (Limbs.nil none (by omega)), (states_one (o := List.replicate 7 stayA) ⟨_, _, _, hB40q17, (sl_rep (x := stayA) 7 7 rfl hB40q29 (by omega) (by omega) (fun o h => ⟨_, _, _, _, _, _, _, _, _, h, Limbs.nil none (by omega), Limbs.nil none (by omega), (outs_one (o := ⟨0, (Raw.of 1)⟩) hB40q31 (hN5.mono hc1_) (hD5.mono hc1_))⟩))⟩)⟩
 have hE7 : ExAt (rd w39 Y40) ⟨(e38 91), 35, none⟩ (⟨.of 1, [List.replicate 6 stayA]⟩, 0) := ⟨_, _, _, _, _, _, _, _, _, At.seg hB40q0 35 5 rfl, (hN5.mono hc1_), (hD5.mono hc1_), (states_one (o := List.replicate 6 stayA) ⟨_, _, _, hB40q18, (sl_rep (x := stayA) 6 7 rfl hB40q29 (by omega) (by omega) (fun o h => ⟨_, _, _, _, _, _, _, _, _, h, Limbs.nil none (by omega), Limbs.nil none (by omega), (outs_one (o := ⟨0, (Raw.of 1)⟩) hB40q31 (hN5.mono hc1_) (hD5.mono hc1_))⟩))⟩)⟩
 have hE8 : ExAt (rd w39 Y40) ⟨(e38 91), 40, none⟩ (⟨.zero, [[⟨badR, []⟩]]⟩, 2) := ⟨_, _, _, _, _, _, _, _, _, At.seg hB40q0 40 5 rfl, (Limbs.nil none (by omega)), (Limbs.nil none (by omega)), (states_one (o := [⟨badR, []⟩]) ⟨_, _, _, hB40q14, (acts_one (o := ⟨badR, []⟩) ⟨_, _, _, _, _, _, _, _, _, hB40q19, (Limbs.nil none (by omega)), (Limbs.nil none (by omega)), SlR.nil none (by omega)⟩)⟩)⟩
 have hE9 : ExAt (rd w39 Y40) ⟨(e38 91), 45, none⟩ (⟨.zero, [[⟨.of 1, []⟩]]⟩, 3) := ⟨_, _, _, _, _, _, _, _, _, At.seg hB40q0 45 5 rfl, (Limbs.nil none (by omega)), (Limbs.nil none (by omega)), (states_one (o := [⟨(Raw.of 1), []⟩]) ⟨_, _, _, hB40q13, (acts_one (o := ⟨(Raw.of 1), []⟩) ⟨_, _, _, _, _, _, _, _, _, hB40q20, (hN5.mono hc1_), (hD5.mono hc1_), SlR.nil none (by omega)⟩)⟩)⟩
 have hE10 : ExAt (rd w39 Y40) ⟨(e38 91), 50, none⟩ (⟨.zero, [[⟨.zero, List.replicate 65 ⟨0, .zero⟩⟩]]⟩, 4) := ⟨_, _, _, _, _, _, _, _, _, At.seg hB40q0 50 5 rfl, (Limbs.nil none (by omega)), (Limbs.nil none (by omega)), (states_one (o := [⟨Raw.zero, List.replicate 65 ⟨0, .zero⟩⟩]) ⟨_, _, _, hB40q12, (acts_one (o := ⟨Raw.zero, List.replicate 65 ⟨0, .zero⟩⟩) ⟨_, _, _, _, _, _, _, _, _, hB40q21, (Limbs.nil none (by omega)), (Limbs.nil none (by omega)), (sl_rep 65 65 rfl hB40q28 (by omega) (by omega) (fun o h => ⟨_, _, _, _, _, _, h, Limbs.nil none (by omega), Limbs.nil none (by omega)⟩))⟩)⟩)⟩
 have hE11 : ExAt (rd w39 Y40) ⟨(e38 91), 55, none⟩ (⟨.zero, [[⟨.zero, [⟨1, badR⟩]⟩]]⟩, 8) := ⟨_, _, _, _, _, _, _, _, _, At.seg hB40q0 55 5 rfl, (Limbs.nil none (by omega)), (Limbs.nil none (by omega)), (states_one (o := [⟨Raw.zero, [⟨1, badR⟩]⟩]) ⟨_, _, _, hB40q10, (acts_one (o := ⟨Raw.zero, [⟨1, badR⟩]⟩) ⟨_, _, _, _, _, _, _, _, _, hB40q11, (Limbs.nil none (by omega)), (Limbs.nil none (by omega)), (outs_one (o := ⟨1, badR⟩) hB40q22 (Limbs.nil none (by omega)) (Limbs.nil none (by omega)))⟩)⟩)⟩
 have hc2_ := (Le11 j17 j19 j21 j23 j25 j27 j29 j30 j35 j37 j39).trans j40
 have hE12 : ExAt (rd w39 Y40) ⟨(e38 91), 60, none⟩ (⟨.zero, [[⟨.zero, [⟨0, halfR⟩, ⟨0, badR⟩]⟩]]⟩, 16) := ⟨_, _, _, _, _, _, _, _, _, At.seg hB40q0 60 5 rfl, (Limbs.nil none (by omega)), (Limbs.nil none (by omega)), (states_one (o := [⟨Raw.zero, [⟨0, halfR⟩, ⟨0, badR⟩]⟩]) ⟨_, _, _, hB40q8, (acts_one (o := ⟨Raw.zero, [⟨0, halfR⟩, ⟨0, badR⟩]⟩) ⟨_, _, _, _, _, _, _, _, _, hB40q9, (Limbs.nil none (by omega)), (Limbs.nil none (by omega)), (outs_two (o := ⟨0, halfR⟩) (p := ⟨0, badR⟩) ⟨_, _, _, _, _, _, At.seg hB40q23 0 4 rfl, (hN15.mono hc2_), (hD15.mono hc2_)⟩ ⟨_, _, _, _, _, _, At.seg hB40q23 4 4 rfl, (Limbs.nil none (by omega)), (Limbs.nil none (by omega))⟩)⟩)⟩)⟩
 have hE13 : ExAt (rd w39 Y40) ⟨(e38 91), 65, none⟩ (⟨.zero, [[⟨.zero, [⟨0, badR⟩]⟩]]⟩, 2) := ⟨_, _, _, _, _, _, _, _, _, At.seg hB40q0 65 5 rfl, (Limbs.nil none (by omega)), (Limbs.nil none (by omega)), (states_one (o := [⟨Raw.zero, [⟨0, badR⟩]⟩]) ⟨_, _, _, hB40q6, (acts_one (o := ⟨Raw.zero, [⟨0, badR⟩]⟩) ⟨_, _, _, _, _, _, _, _, _, hB40q7, (Limbs.nil none (by omega)), (Limbs.nil none (by omega)), (outs_one (o := ⟨0, badR⟩) hB40q24 (Limbs.nil none (by omega)) (Limbs.nil none (by omega)))⟩)⟩)⟩
 have hE14 : ExAt (rd w39 Y40) ⟨(e38 91), 70, none⟩ (⟨.zero, [[⟨.zero, [⟨0, .zero⟩]⟩]]⟩, 1) := ⟨_, _, _, _, _, _, _, _, _, At.seg hB40q0 70 5 rfl, (Limbs.nil none (by omega)), (Limbs.nil none (by omega)), (states_one (o := [⟨Raw.zero, [⟨0, Raw.zero⟩]⟩]) ⟨_, _, _, hB40q4, (acts_one (o := ⟨Raw.zero, [⟨0, Raw.zero⟩]⟩) ⟨_, _, _, _, _, _, _, _, _, hB40q5, (Limbs.nil none (by omega)), (Limbs.nil none (by omega)), (outs_one (o := ⟨0, Raw.zero⟩) hB40q25 (Limbs.nil none (by omega)) (Limbs.nil none (by omega)))⟩)⟩)⟩
 have hE15 : ExAt (rd w39 Y40) ⟨(e38 91), 75, none⟩ (⟨.zero, [[⟨.zero, [⟨0, halfR⟩]⟩]]⟩, 2) := ⟨_, _, _, _, _, _, _, _, _, At.seg hB40q0 75 5 rfl, (Limbs.nil none (by omega)), (Limbs.nil none (by omega)), (states_one (o := [⟨Raw.zero, [⟨0, halfR⟩]⟩]) ⟨_, _, _, hB40q2, (acts_one (o := ⟨Raw.zero, [⟨0, halfR⟩]⟩) ⟨_, _, _, _, _, _, _, _, _, hB40q3, (Limbs.nil none (by omega)), (Limbs.nil none (by omega)), (outs_one (o := ⟨0, halfR⟩) hB40q26 (hN15.mono hc2_) (hD15.mono hc2_))⟩)⟩)⟩
 have hE16 : ExAt (rd w39 Y40) ⟨(e38 91), 80, none⟩ (⟨.zero, [[stayA]]⟩, 0) := ⟨_, _, _, _, _, _, _, _, _, At.seg hB40q0 80 5 rfl, (Limbs.nil none (by omega)), (Limbs.nil none (by omega)), (states_one (o := [⟨Raw.zero, [⟨0, (Raw.of 1)⟩]⟩]) ⟨_, _, _, hB40q1, (acts_one (o := ⟨Raw.zero, [⟨0, (Raw.of 1)⟩]⟩) ⟨_, _, _, _, _, _, _, _, _, hB40q27, (Limbs.nil none (by omega)), (Limbs.nil none (by omega)), (outs_one (o := ⟨0, (Raw.of 1)⟩) hB40q31 (hN5.mono hc1_) (hD5.mono hc1_))⟩)⟩)⟩
 have hEx := EachAt.sl (El := ExAt) (size := 5) (r := rd w39 Y40) (b := (e38 91)) (l := exL) (And.intro hE0 (And.intro hE1 (And.intro hE2 (And.intro hE3 (And.intro hE4 (And.intro hE5 (And.intro hE6 (And.intro hE7 (And.intro hE8 (And.intro hE9 (And.intro hE10 (And.intro hE11 (And.intro hE12 (And.intro hE13 (And.intro hE14 (And.intro hE15 (And.intro hE16 (trivial)))))))))))))))))) 17 rfl (by omega)
 refine zlp Tryz.f5 [K30] [1, 1, 1, 1, 1, 1, 1, 1, 0, 1, 0] (fun (k : Nat) => [(1, .pointer (some ⟨b7, 0, none⟩)), (2, .pointer (some ⟨b9, 0, none⟩)), (5, .pointer (some ⟨b23, 0, none⟩)), (156, .slice (some ⟨(e38 91), 0, none⟩) 17 17), (157, .int .i64 17), (158, .int .i64 (k : Int))]) (fun (k : Nat) w1 => ∃ (Y1 : Hid), St E0 w X w1 Y1 [] ∧ Le (rd w39 Y40) (rd w1 Y1) ∧ (k ≤ 17)) (fun (k : Nat) => 17 - k) 0 ?_ ?_
 ·
  refine ⟨_, A40, Le.refl _, Nat.zero_le _⟩
 rintro k w41 K41 G41 ⟨Y41, A41, j41, hp41_0⟩
 refine zz 6 ?_
 refine zt 159 (p := (k : Int) < 17) (fun ht42 => ?_) (fun ht42 => ?_)
 ·
  obtain ⟨px, hxp, a1p, l1p, c1p, a2p, l2p, c2p, a3p, l3p, c3p, hAp0, hLp, hMp, hTp⟩ := SlR.at hEx (k := k) (by omega)
  have hAp : At (rd w39 Y40) ⟨(e38 91), k * 5, none⟩ [.bool px.1.disc.neg, .slice a1p l1p c1p, .slice a2p l2p c2p, .slice a3p l3p c3p, .int .i64 px.2] := by simpa using hAp0
  have hmem := List.mem_of_getElem? hxp
  have hck := ex_all hmem
  have hbk := ex_back hmem
  refine zz 7 ?_
  refine zi (b := (e38 91)) (off := 0) (len := 17) (cap := 17) (kd := .i64) (i := (k : Int)) 5 (k * 5) ?_
  refine zl ((hAp.mono j41)).cells ?_
  refine zn pn (.cells #[.bool false, .slice none 0 0, .slice none 0 0, .slice none 0 0, .int .i64 0] 65 (0, 0)) A41 ?_
  intro b44 w44 Y44 A44 j44 hu44
  refine zx 0 #[.bool px.1.disc.neg, .slice a1p l1p c1p, .slice a2p l2p c2p, .slice a3p l3p c3p, .int .i64 px.2] A44 ?_
  intro w46 A46 j46
  refine zz 5 ?_
  refine zo 0 A46 ?_
  refine zc A46 (Backup_c _ _ A46.lt px.1 _ _ _ (hLp.mono (Le3 j41 j44 j46)) _ _ _ (hMp.mono (Le3 j41 j44 j46)) _ _ _ (hTp.mono (Le3 j41 j44 j46)) [] none 0 0 rats_nil (by omega)) ?_ (vs := #[.agg #[.bool px.1.disc.neg, .slice a1p l1p c1p, .slice a2p l2p c2p, .slice a3p l3p c3p], .slice none 0 0])
  rintro v48 w48 A48 j48 hu48 ⟨ad48, len48, cap48, ae48, le48, ce48, rfl, hR48, hI48⟩
  refine zz 10 ?_
  refine zdr A48 ?_
  refine gz [0] ?_
  refine gw 1 0 ?_
  refine gz [3] ?_
  refine gw 4 0 ?_
  have hc3_ := (Le3 j41 j44 j46).trans j48
  refine gC 2 (fun w49 Y49 _ A49 j49 => (mCheck_c _ _ A49.lt px.1 _ _ _ (hLp.mono (hc3_.trans j49)) _ _ _ (hMp.mono (hc3_.trans j49)) _ _ _ (hTp.mono (hc3_.trans j49)))) ?_
  rintro v50 w49 Y50 w50 A49 j50 rfl
  refine gz [5] ?_
  refine gset 174 (v := .bool ((px.1.chk) != px.2)) (v' := .bool false) (zJ (by simp [hck])) ?_
  refine gz [6, 7] ?_
  refine gw 8 0 ?_
  refine gz [9, 10] ?_
  refine gb 179 (b := ((px.2) != 0)) (fun hc51 => ?_) (fun hc51 => ?_)
  ·
   have ht52 : (px.2) ≠ 0 := by simpa using hc51
   have hpe : px.2 ≠ 0 := by simpa using ht52
   refine gz [11, 12] ?_
   refine gw 13 0 ?_
   refine gz [14] ?_
   refine gset 183 (v := .bool (((px.1.backV []).2.2) != px.2)) (v' := .bool false) (zJ (by simp [hbk, hpe])) ?_
   refine gz [15, 16, 17, 18] ?_
   refine gw 19 0 ?_
   refine gz [20] ?_
   refine gset 189 (v := .bool ((px.2) == 0)) (v' := .bool false) (zJ (by simp [hpe])) ?_
   refine gz [21, 22, 23, 24, 25] ?_
   refine gend (fun w53 Y53 A53 j53 => ?_)
   refine zz 7 ?_
   refine zw 195 (x := (k : Int) + 1) ?_
   refine zz 2 ?_
   have hc4_ := (hc3_.trans j50).trans j53
   refine znext (fun a h => G41 (k + 1) _ a h ⟨_, A53.tail, hc4_, by omega⟩ ?_)
   first | omega | (simp <;> omega)
  have ht54 : (px.2) = 0 := by simpa using hc51
  have hpe : px.2 = 0 := by simpa using ht54
  refine gz [11, 12, 13, 14, 15, 16, 17, 18] ?_
  refine gw 19 0 ?_
  refine gz [20] ?_
  refine gset 189 (v := .bool ((px.2) == 0)) (v' := .bool true) (zJ (by simp [hpe])) ?_
  refine gz [21, 22, 23] ?_
  refine gset 192 (v := .bool (((px.1.backV []).2.2) != 16)) (v' := .bool false) (zJ (by simp [hbk, hpe])) ?_
  refine gz [24, 25] ?_
  refine gend (fun w55 Y55 A55 j55 => ?_)
  refine zz 7 ?_
  refine zw 195 (x := (k : Int) + 1) ?_
  refine zz 2 ?_
  have hc5_ := (hc3_.trans j50).trans j55
  refine znext (fun a h => G41 (k + 1) _ a h ⟨_, A55.tail, hc5_, by omega⟩ ?_)
  first | omega | (simp <;> omega)
 refine zz 8 ?_
 refine zl ((hB40q30.mono j41)).cells ?_
 refine zn (fun b => .slice (some ⟨b, 0, none⟩) 1 1) (.cells #[.bool false, .slice none 0 0, .slice none 0 0, .slice (some ⟨b21, 0, none⟩) 1 1] 63 (0, 0)) A41 ?_
 intro b57 w57 Y57 A57 j57 hu57
 refine zn (fun b => .slice (some ⟨b, 0, none⟩) 1 1) (.cells #[.slice (some ⟨b57, 0, none⟩) 1 1] 64 (0, 0)) A57 ?_
 intro b59 w59 Y59 A59 j59 hu59
 refine zz 1 ?_
 refine zn pn (.cells #[.bool false, .slice none 0 0, .slice none 0 0, .slice none 0 0] 28 (0, 0)) A59 ?_
 intro b61 w61 Y61 A61 j61 hu61
 refine zx 0 #[.bool false, .slice none 0 0, .slice none 0 0, .slice (some ⟨b59, 0, none⟩) 1 1] A61 ?_
 intro w63 A63 j63
 refine zz 4 ?_
 refine zo 0 A63 ?_
 obtain ⟨Y65, A65, j65, hat65⟩ := St.pubAll A63
 have hB65q0 : At (rd w63 Y65) ⟨b61, 0, none⟩ ([.bool false, .slice none 0 0, .slice none 0 0, .slice (some ⟨b59, 0, none⟩) 1 1]) := hat65 0 rfl rfl
 have hB65q1 : At (rd w63 Y65) ⟨b59, 0, none⟩ ([.slice (some ⟨b57, 0, none⟩) 1 1]) := hat65 1 rfl rfl
 have hB65q2 : At (rd w63 Y65) ⟨b57, 0, none⟩ ([.bool false, .slice none 0 0, .slice none 0 0, .slice (some ⟨b21, 0, none⟩) 1 1]) := hat65 2 rfl rfl
 have hnil65 : Limbs (rd w63 Y65) none 0 0 [] := Limbs.nil none (by omega)
 have hc6_ := (Le5 j41 j57 j59 j61 j63).trans j65
 have hc7_ := (((((hc1_.trans j41).trans j57).trans j59).trans j61).trans j63).trans j65
 have hM9 : StatesR (rd w63 Y65) (some ⟨b59, 0, none⟩) 1 1 exM.states := (states_one (o := [⟨Raw.zero, [⟨0, (Raw.of 1)⟩]⟩]) ⟨_, _, _, hB65q1, (acts_one (o := ⟨Raw.zero, [⟨0, (Raw.of 1)⟩]⟩) ⟨_, _, _, _, _, _, _, _, _, hB65q2, (Limbs.nil none (by omega)), (Limbs.nil none (by omega)), (outs_one (o := ⟨0, (Raw.of 1)⟩) (hB40q31.mono hc6_) (hN5.mono hc7_) (hD5.mono hc7_))⟩)⟩)
 refine zc A65 (Score_e _ _ A65.lt exM none 0 0 (hnil65.mono (Le.refl _)) none 0 0 (hnil65.mono (Le.refl _)) _ _ _ (hM9.mono (Le.refl _)) [] none 0 0 rats_nil (by omega) 5 0 .zero 16 ex_s1) ?_ (vs := #[.agg #[.bool false, .slice none 0 0, .slice none 0 0, .slice (some ⟨b59, 0, none⟩) 1 1], .slice none 0 0, .int .i64 5, .int .i64 0])
 rintro v66 w66 A66 j66 hu66 ⟨u66, rfl, ⟨ad66, len66, cap66, ae66, le66, ce66, rfl, hN66, hD66⟩⟩
 refine zz 3 ?_
 refine zn pn (.cells #[.bool false, .slice none 0 0, .slice none 0 0] 25 (0, 0)) A66 ?_
 intro b68 w68 Y68 A68 j68 hu68
 refine zx 0 #[.bool Raw.zero.neg, .slice ad66 len66 cap66, .slice ae66 le66 ce66] A68 ?_
 intro w70 A70 j70
 refine zz 5 ?_
 refine zl ((hB65q0.mono (Le3 j66 j68 j70))).cells ?_
 have hc8_ := ((hc6_.trans j66).trans j68).trans j70
 refine zl ((hB40q33.mono hc8_)).cells ?_
 refine zn (fun b => .slice (some ⟨b, 0, none⟩) 1 1) (.cells #[.bool true, .slice none 0 0, .slice none 0 0] 25 (0, 0)) A70 ?_
 intro b72 w72 Y72 A72 j72 hu72
 have hc9_ := (Le3 j66 j68 j70).trans j72
 obtain ⟨hSx74, j74, hat74⟩ := St.publish A72 (A72.own_ge 0 rfl)
 have A74 : St E0 w X w72 (show_ b72 Y72) [(b68, .cells #[.bool Raw.zero.neg, .slice ad66 len66 cap66, .slice ae66 le66 ce66] 25 (0, 0))] := hSx74
 have hV74 : Rats (rd w72 (show_ b72 Y72)) (some ⟨b72, 0, none⟩) 1 1 [badR] := Rats.one hat74 (Limbs.nil none (by omega)) (Limbs.nil none (by omega))
 have hc10_ := hc9_.trans j74
 refine zc A74 (Score_e _ _ A74.lt exM none 0 0 (hnil65.mono hc10_) none 0 0 (hnil65.mono hc10_) _ _ _ (hM9.mono hc10_) [badR] _ _ _ hV74 (by omega) 1 0 .zero 8 ex_s2) ?_
 rintro v75 w75 A75 j75 hu75 ⟨u75, rfl, ⟨ad75, len75, cap75, ae75, le75, ce75, rfl, hN75, hD75⟩⟩
 refine zz 3 ?_
 refine zn pn (.cells #[.bool false, .slice none 0 0, .slice none 0 0] 25 (0, 0)) A75 ?_
 intro b77 w77 Y77 A77 j77 hu77
 refine zx 0 #[.bool Raw.zero.neg, .slice ad75 len75 cap75, .slice ae75 le75 ce75] A77 ?_
 intro w79 A79 j79
 refine zz 5 ?_
 have hc11_ := ((hc10_.trans j75).trans j77).trans j79
 refine zl ((hB65q0.mono hc11_)).cells ?_
 have hc12_ := ((((hc8_.trans j72).trans j74).trans j75).trans j77).trans j79
 refine zl ((hB40q33.mono hc12_)).cells ?_
 refine zn (fun b => .slice (some ⟨b, 0, none⟩) 1 1) (.cells #[.bool true, .slice none 0 0, .slice none 0 0] 25 (0, 0)) A79 ?_
 intro b81 w81 Y81 A81 j81 hu81
 have hc13_ := hc11_.trans j81
 obtain ⟨hSx83, j83, hat83⟩ := St.publish A81 (A81.own_ge 0 rfl)
 have A83 : St E0 w X w81 (show_ b81 Y81) [(b77, .cells #[.bool Raw.zero.neg, .slice ad75 len75 cap75, .slice ae75 le75 ce75] 25 (0, 0)), (b68, .cells #[.bool Raw.zero.neg, .slice ad66 len66 cap66, .slice ae66 le66 ce66] 25 (0, 0))] := hSx83
 have hV83 : Rats (rd w81 (show_ b81 Y81)) (some ⟨b81, 0, none⟩) 1 1 [badR] := Rats.one hat83 (Limbs.nil none (by omega)) (Limbs.nil none (by omega))
 have hc14_ := hc13_.trans j83
 refine zc A83 (Score_e _ _ A83.lt exM none 0 0 (hnil65.mono hc14_) none 0 0 (hnil65.mono hc14_) _ _ _ (hM9.mono hc14_) [badR] _ _ _ hV83 (by omega) 0 1 .zero 8 ex_s3) ?_
 rintro v84 w84 A84 j84 hu84 ⟨u84, rfl, ⟨ad84, len84, cap84, ae84, le84, ce84, rfl, hN84, hD84⟩⟩
 refine zz 3 ?_
 refine zn pn (.cells #[.bool false, .slice none 0 0, .slice none 0 0] 25 (0, 0)) A84 ?_
 intro b86 w86 Y86 A86 j86 hu86
 refine zx 0 #[.bool Raw.zero.neg, .slice ad84 len84 cap84, .slice ae84 le84 ce84] A86 ?_
 intro w88 A88 j88
 refine zz 5 ?_
 have hc15_ := ((hc14_.trans j84).trans j86).trans j88
 refine zl ((hB65q0.mono hc15_)).cells ?_
 have hc16_ := ((((hc12_.trans j81).trans j83).trans j84).trans j86).trans j88
 refine zl ((hB40q33.mono hc16_)).cells ?_
 refine zn (fun b => .slice (some ⟨b, 0, none⟩) 1 1) (.cells #[.bool true, .slice none 0 0, .slice none 0 0] 25 (0, 0)) A88 ?_
 intro b90 w90 Y90 A90 j90 hu90
 have hc17_ := hc15_.trans j90
 obtain ⟨hSx92, j92, hat92⟩ := St.publish A90 (A90.own_ge 0 rfl)
 have A92 : St E0 w X w90 (show_ b90 Y90) [(b86, .cells #[.bool Raw.zero.neg, .slice ad84 len84 cap84, .slice ae84 le84 ce84] 25 (0, 0)), (b77, .cells #[.bool Raw.zero.neg, .slice ad75 len75 cap75, .slice ae75 le75 ce75] 25 (0, 0)), (b68, .cells #[.bool Raw.zero.neg, .slice ad66 len66 cap66, .slice ae66 le66 ce66] 25 (0, 0))] := hSx92
 have hV92 : Rats (rd w90 (show_ b90 Y90)) (some ⟨b90, 0, none⟩) 1 1 [badR] := Rats.one hat92 (Limbs.nil none (by omega)) (Limbs.nil none (by omega))
 have hc18_ := hc17_.trans j92
 refine zc A92 (Score_e _ _ A92.lt exM none 0 0 (hnil65.mono hc18_) none 0 0 (hnil65.mono hc18_) _ _ _ (hM9.mono hc18_) [badR] _ _ _ hV92 (by omega) 0 0 .zero 2 ex_s4) ?_
 rintro v93 w93 A93 j93 hu93 ⟨u93, rfl, ⟨ad93, len93, cap93, ae93, le93, ce93, rfl, hN93, hD93⟩⟩
 refine zz 3 ?_
 refine zn pn (.cells #[.bool false, .slice none 0 0, .slice none 0 0] 25 (0, 0)) A93 ?_
 intro b95 w95 Y95 A95 j95 hu95
 refine zx 0 #[.bool Raw.zero.neg, .slice ad93 len93 cap93, .slice ae93 le93 ce93] A95 ?_
 intro w97 A97 j97
 refine zz 5 ?_
 have hc19_ := ((hc18_.trans j93).trans j95).trans j97
 refine zl ((hB65q0.mono hc19_)).cells ?_
 refine zn (fun b => .slice (some ⟨b, 0, none⟩) 2 2) (.cells #[.int .i64 0, .int .i64 0] 3 (0, 0)) A97 ?_
 intro b99 w99 Y99 A99 j99 hu99
 have hc20_ := (((((hc16_.trans j90).trans j92).trans j93).trans j95).trans j97).trans j99
 refine zl ((hB40q34.mono hc20_)).cells ?_
 refine zn (fun b => .slice (some ⟨b, 0, none⟩) 1 1) (.cells #[.bool ((Raw.of 1).neg), .slice ad5 len5 cap5, .slice ae5 le5 ce5] 25 (0, 0)) A99 ?_
 intro b101 w101 Y101 A101 j101 hu101
 have hc21_ := (hc19_.trans j99).trans j101
 obtain ⟨hSx103, j103, hat103⟩ := St.publish A101 (A101.own_ge 0 rfl)
 have A103 : St E0 w X w101 (show_ b101 Y101) [(b99, .cells #[.int .i64 0, .int .i64 0] 3 (0, 0)), (b95, .cells #[.bool Raw.zero.neg, .slice ad93 len93 cap93, .slice ae93 le93 ce93] 25 (0, 0)), (b86, .cells #[.bool Raw.zero.neg, .slice ad84 len84 cap84, .slice ae84 le84 ce84] 25 (0, 0)), (b77, .cells #[.bool Raw.zero.neg, .slice ad75 len75 cap75, .slice ae75 le75 ce75] 25 (0, 0)), (b68, .cells #[.bool Raw.zero.neg, .slice ad66 len66 cap66, .slice ae66 le66 ce66] 25 (0, 0))] := hSx103
 have hc22_ := ((((((((((((((((((((hc7_.trans j66).trans j68).trans j70).trans j72).trans j74).trans j75).trans j77).trans j79).trans j81).trans j83).trans j84).trans j86).trans j88).trans j90).trans j92).trans j93).trans j95).trans j97).trans j99).trans j101).trans j103
 have hV103 : Rats (rd w101 (show_ b101 Y101)) (some ⟨b101, 0, none⟩) 1 1 [(Raw.of 1)] := Rats.one hat103 (hN5.mono hc22_) (hD5.mono hc22_)
 obtain ⟨hSx104, j104, hat104⟩ := St.publish A103 (A103.own_ge 0 rfl)
 have A104 : St E0 w X w101 (show_ b99 (show_ b101 Y101)) [(b95, .cells #[.bool Raw.zero.neg, .slice ad93 len93 cap93, .slice ae93 le93 ce93] 25 (0, 0)), (b86, .cells #[.bool Raw.zero.neg, .slice ad84 len84 cap84, .slice ae84 le84 ce84] 25 (0, 0)), (b77, .cells #[.bool Raw.zero.neg, .slice ad75 len75 cap75, .slice ae75 le75 ce75] 25 (0, 0)), (b68, .cells #[.bool Raw.zero.neg, .slice ad66 len66 cap66, .slice ae66 le66 ce66] 25 (0, 0))] := hSx104
 have hI104 := ints_at [0, 0] hat104 (by simp)
 have hc23_ := (hc21_.trans j103).trans j104
 refine zc A104 (Under_e _ _ A104.lt exM none 0 0 (hnil65.mono hc23_) none 0 0 (hnil65.mono hc23_) _ _ _ (hM9.mono hc23_) [(Raw.of 1)] _ _ _ (hV103.mono j104) (by omega) [0, 0] _ _ _ hI104 (by simp) [] 16 ex_u1) ?_
 rintro v105 w105 A105 j105 hu105 ⟨ad105, len105, cap105, rfl, hR105⟩
 refine zz 9 ?_
 have hc24_ := hc23_.trans j105
 refine zl ((hB65q0.mono hc24_)).cells ?_
 refine zn (fun b => .slice (some ⟨b, 0, none⟩) 1 1) (.cells #[.int .i64 1] 3 (0, 0)) A105 ?_
 intro b107 w107 Y107 A107 j107 hu107
 have hc25_ := ((((hc20_.trans j101).trans j103).trans j104).trans j105).trans j107
 refine zl ((hB40q33.mono hc25_)).cells ?_
 refine zn (fun b => .slice (some ⟨b, 0, none⟩) 1 1) (.cells #[.bool true, .slice none 0 0, .slice none 0 0] 25 (0, 0)) A107 ?_
 intro b109 w109 Y109 A109 j109 hu109
 have hc26_ := (hc24_.trans j107).trans j109
 obtain ⟨hSx111, j111, hat111⟩ := St.publish A109 (A109.own_ge 0 rfl)
 have A111 : St E0 w X w109 (show_ b109 Y109) [(b107, .cells #[.int .i64 1] 3 (0, 0)), (b95, .cells #[.bool Raw.zero.neg, .slice ad93 len93 cap93, .slice ae93 le93 ce93] 25 (0, 0)), (b86, .cells #[.bool Raw.zero.neg, .slice ad84 len84 cap84, .slice ae84 le84 ce84] 25 (0, 0)), (b77, .cells #[.bool Raw.zero.neg, .slice ad75 len75 cap75, .slice ae75 le75 ce75] 25 (0, 0)), (b68, .cells #[.bool Raw.zero.neg, .slice ad66 len66 cap66, .slice ae66 le66 ce66] 25 (0, 0))] := hSx111
 have hV111 : Rats (rd w109 (show_ b109 Y109)) (some ⟨b109, 0, none⟩) 1 1 [badR] := Rats.one hat111 (Limbs.nil none (by omega)) (Limbs.nil none (by omega))
 obtain ⟨hSx112, j112, hat112⟩ := St.publish A111 (A111.own_ge 0 rfl)
 have A112 : St E0 w X w109 (show_ b107 (show_ b109 Y109)) [(b95, .cells #[.bool Raw.zero.neg, .slice ad93 len93 cap93, .slice ae93 le93 ce93] 25 (0, 0)), (b86, .cells #[.bool Raw.zero.neg, .slice ad84 len84 cap84, .slice ae84 le84 ce84] 25 (0, 0)), (b77, .cells #[.bool Raw.zero.neg, .slice ad75 len75 cap75, .slice ae75 le75 ce75] 25 (0, 0)), (b68, .cells #[.bool Raw.zero.neg, .slice ad66 len66 cap66, .slice ae66 le66 ce66] 25 (0, 0))] := hSx112
 have hI112 := ints_at [1] hat112 (by simp)
 have hc27_ := (hc26_.trans j111).trans j112
 refine zc A112 (Under_e _ _ A112.lt exM none 0 0 (hnil65.mono hc27_) none 0 0 (hnil65.mono hc27_) _ _ _ (hM9.mono hc27_) [badR] _ _ _ (hV111.mono j112) (by omega) [1] _ _ _ hI112 (by simp) [] 8 ex_u2) ?_
 rintro v113 w113 A113 j113 hu113 ⟨ad113, len113, cap113, rfl, hR113⟩
 refine zz 9 ?_
 have hc28_ := (((hc25_.trans j109).trans j111).trans j112).trans j113
 refine zl ((hB40q33.mono hc28_)).cells ?_
 refine zn (fun b => .slice (some ⟨b, 0, none⟩) 1 1) (.cells #[.bool true, .slice none 0 0, .slice none 0 0] 25 (0, 0)) A113 ?_
 intro b115 w115 Y115 A115 j115 hu115
 obtain ⟨hSx117, j117, hat117⟩ := St.publish A115 (A115.own_ge 0 rfl)
 have A117 : St E0 w X w115 (show_ b115 Y115) [(b95, .cells #[.bool Raw.zero.neg, .slice ad93 len93 cap93, .slice ae93 le93 ce93] 25 (0, 0)), (b86, .cells #[.bool Raw.zero.neg, .slice ad84 len84 cap84, .slice ae84 le84 ce84] 25 (0, 0)), (b77, .cells #[.bool Raw.zero.neg, .slice ad75 len75 cap75, .slice ae75 le75 ce75] 25 (0, 0)), (b68, .cells #[.bool Raw.zero.neg, .slice ad66 len66 cap66, .slice ae66 le66 ce66] 25 (0, 0))] := hSx117
 have hV117 : Rats (rd w115 (show_ b115 Y115)) (some ⟨b115, 0, none⟩) 1 1 [badR] := Rats.one hat117 (Limbs.nil none (by omega)) (Limbs.nil none (by omega))
 refine zc A117 (Distance_e _ _ A117.lt _ _ _ [badR] hV117 none 0 0 [] rats_nil (by omega) (by omega) .zero 16 ex_d1) ?_ (vs := #[.slice (some ⟨b115, 0, none⟩) 1 1, .slice none 0 0])
 rintro v118 w118 A118 j118 hu118 ⟨u118, rfl, ⟨ad118, len118, cap118, ae118, le118, ce118, rfl, hN118, hD118⟩⟩
 refine zz 3 ?_
 refine zn pn (.cells #[.bool false, .slice none 0 0, .slice none 0 0] 25 (0, 0)) A118 ?_
 intro b120 w120 Y120 A120 j120 hu120
 refine zx 0 #[.bool Raw.zero.neg, .slice ad118 len118 cap118, .slice ae118 le118 ce118] A120 ?_
 intro w122 A122 j122
 refine zz 5 ?_
 have hc29_ := ((((hc28_.trans j115).trans j117).trans j118).trans j120).trans j122
 refine zl ((hB40q33.mono hc29_)).cells ?_
 refine zn (fun b => .slice (some ⟨b, 0, none⟩) 1 1) (.cells #[.bool true, .slice none 0 0, .slice none 0 0] 25 (0, 0)) A122 ?_
 intro b124 w124 Y124 A124 j124 hu124
 have hc30_ := hc29_.trans j124
 refine zl ((hB40q34.mono hc30_)).cells ?_
 refine zn (fun b => .slice (some ⟨b, 0, none⟩) 1 1) (.cells #[.bool ((Raw.of 1).neg), .slice ad5 len5 cap5, .slice ae5 le5 ce5] 25 (0, 0)) A124 ?_
 intro b126 w126 Y126 A126 j126 hu126
 obtain ⟨hSx128, j128, hat128⟩ := St.publish (St.front [(b126, .cells #[.bool ((Raw.of 1).neg), .slice ad5 len5 cap5, .slice ae5 le5 ce5] 25 (0, 0))] A126) (A126.own_ge 1 rfl)
 have A128 : St E0 w X w126 (show_ b124 Y126) [(b126, .cells #[.bool ((Raw.of 1).neg), .slice ad5 len5 cap5, .slice ae5 le5 ce5] 25 (0, 0)), (b120, .cells #[.bool Raw.zero.neg, .slice ad118 len118 cap118, .slice ae118 le118 ce118] 25 (0, 0)), (b95, .cells #[.bool Raw.zero.neg, .slice ad93 len93 cap93, .slice ae93 le93 ce93] 25 (0, 0)), (b86, .cells #[.bool Raw.zero.neg, .slice ad84 len84 cap84, .slice ae84 le84 ce84] 25 (0, 0)), (b77, .cells #[.bool Raw.zero.neg, .slice ad75 len75 cap75, .slice ae75 le75 ce75] 25 (0, 0)), (b68, .cells #[.bool Raw.zero.neg, .slice ad66 len66 cap66, .slice ae66 le66 ce66] 25 (0, 0))] := hSx128
 have hV128 : Rats (rd w126 (show_ b124 Y126)) (some ⟨b124, 0, none⟩) 1 1 [badR] := Rats.one hat128 (Limbs.nil none (by omega)) (Limbs.nil none (by omega))
 obtain ⟨hSx129, j129, hat129⟩ := St.publish A128 (A128.own_ge 0 rfl)
 have A129 : St E0 w X w126 (show_ b126 (show_ b124 Y126)) [(b120, .cells #[.bool Raw.zero.neg, .slice ad118 len118 cap118, .slice ae118 le118 ce118] 25 (0, 0)), (b95, .cells #[.bool Raw.zero.neg, .slice ad93 len93 cap93, .slice ae93 le93 ce93] 25 (0, 0)), (b86, .cells #[.bool Raw.zero.neg, .slice ad84 len84 cap84, .slice ae84 le84 ce84] 25 (0, 0)), (b77, .cells #[.bool Raw.zero.neg, .slice ad75 len75 cap75, .slice ae75 le75 ce75] 25 (0, 0)), (b68, .cells #[.bool Raw.zero.neg, .slice ad66 len66 cap66, .slice ae66 le66 ce66] 25 (0, 0))] := hSx129
 have hc31_ := (((((((((((((((hc22_.trans j104).trans j105).trans j107).trans j109).trans j111).trans j112).trans j113).trans j115).trans j117).trans j118).trans j120).trans j122).trans j124).trans j126).trans j128).trans j129
 have hV129 : Rats (rd w126 (show_ b126 (show_ b124 Y126))) (some ⟨b126, 0, none⟩) 1 1 [(Raw.of 1)] := Rats.one hat129 (hN5.mono hc31_) (hD5.mono hc31_)
 refine zc A129 (Distance_e _ _ A129.lt _ _ _ [badR] (hV128.mono j129) _ _ _ [(Raw.of 1)] hV129 (by omega) (by omega) .zero 2 ex_d2) ?_
 rintro v130 w130 A130 j130 hu130 ⟨u130, rfl, ⟨ad130, len130, cap130, ae130, le130, ce130, rfl, hN130, hD130⟩⟩
 refine zz 3 ?_
 refine zn pn (.cells #[.bool false, .slice none 0 0, .slice none 0 0] 25 (0, 0)) A130 ?_
 intro b132 w132 Y132 A132 j132 hu132
 refine zx 0 #[.bool Raw.zero.neg, .slice ad130 len130 cap130, .slice ae130 le130 ce130] A132 ?_
 intro w134 A134 j134
 refine zz 5 ?_
 refine zc A134 (Distance_e _ _ A134.lt none 0 0 [] rats_nil none 0 0 [] rats_nil (by omega) (by omega) .zero 0 ex_d3) ?_ (vs := #[.slice none 0 0, .slice none 0 0])
 rintro v136 w136 A136 j136 hu136 ⟨u136, rfl, ⟨ad136, len136, cap136, ae136, le136, ce136, rfl, hN136, hD136⟩⟩
 refine zz 3 ?_
 refine zn pn (.cells #[.bool false, .slice none 0 0, .slice none 0 0] 25 (0, 0)) A136 ?_
 intro b138 w138 Y138 A138 j138 hu138
 refine zx 0 #[.bool Raw.zero.neg, .slice ad136 len136 cap136, .slice ae136 le136 ce136] A138 ?_
 intro w140 A140 j140
 refine zz 5 ?_
 have hc32_ := (((((((((((((((hc27_.trans j113).trans j115).trans j117).trans j118).trans j120).trans j122).trans j124).trans j126).trans j128).trans j129).trans j130).trans j132).trans j134).trans j136).trans j138).trans j140
 refine zl ((hB65q0.mono hc32_)).cells ?_
 refine zc A140 (Reach_c _ _ A140.lt exM none 0 0 (hnil65.mono hc32_) none 0 0 (hnil65.mono hc32_) _ _ _ (hM9.mono hc32_) 1) ?_
 rintro v142 w142 A142 j142 hu142 ⟨ad142, len142, cap142, l142, e142, rfl, hI142, hV142⟩
 obtain ⟨rfl, rfl⟩ := ex_reach hV142
 refine zz 11 ?_
 refine zs 266 (v := .bool true) (v' := .bool true) (zJ (by simp)) ?_
 refine zz 3 ?_
 refine zs 269 (v := .bool true) (v' := .bool true) (zJ (by simp)) ?_
 refine zz 4 ?_
 refine zs 273 (v := .bool true) (v' := .bool true) (zJ (by simp)) ?_
 refine zz 4 ?_
 refine zs 277 (v := .bool true) (v' := .bool true) (zJ (by simp)) ?_
 refine zz 4 ?_
 refine zs 281 (v := .bool true) (v' := .bool true) (zJ (by simp)) ?_
 refine zz 4 ?_
 refine zs 285 (v := .bool true) (v' := .bool true) (zJ (by simp)) ?_
 refine zz 4 ?_
 refine zs 289 (v := .bool true) (v' := .bool true) (zJ (by simp)) ?_
 refine zz 4 ?_
 refine zs 293 (v := .bool true) (v' := .bool true) (zJ (by simp)) ?_
 refine zz 3 ?_
 refine zo 0 A142 ?_
 refine zz 2 ?_
 refine zs 299 (v := .bool ((len136 : Int) == 0)) (v' := .bool true) (zJ (by have h9 := hN136.hlen; have h8 : Raw.zero.ln.length = 0 := rfl; simp; omega)) ?_
 refine zz 4 ?_
 refine zs 303 (v := .bool true) (v' := .bool true) (zJ (by simp)) ?_
 refine zz 4 ?_
 refine zs 307 (v := .bool true) (v' := .bool true) (zJ (by simp)) ?_
 refine zz 5 ?_
 refine zr' (v := .bool true) ?_
 exact ⟨A142.upd, _, rfl, rfl⟩
end Go.Proofs.YtoocgllbbihoaaaGreat
namespace Go.Proofs.YtoocgllbbihoaaaGreat
open Go Go.Gv Go.ChangeShapes Go.WideShapes Go.ChangeAt Go.RowKit
theorem own_mdpExamples : ownKnob Tryz.prog.godebug = Option.none := by kernel_rfl
theorem laidOut_mdpExamples : laidOutB Tryz.prog = true := by kernel_rfl
set_option maxRecDepth 100000 in
theorem mdpExamples_lifted (os : Os) (started : os.Started) (H : Type) (enc : TypeId × Value → H) :
    ReturnsInHanded {} Tryz.checked os 5 .any (Rows.mdpExamplesSpec.pre6 enc Tryz.prog Tryz.f5 Rows.mdpExamplesRow.domain false) (Rows.mdpExamplesSpec.post enc Tryz.prog Tryz.f5 false true false false) := by
  refine returnsInHanded_of_change_sized (C := Tryz.checked) own_mdpExamples started (by kernel_rfl) Tryz.func5
    (ChangeSpec.witness6 (enc := enc) (C := Tryz.checked) false ⟨#[], #[], []⟩ 8 (by kernel_rfl) (by kernel_rfl) (by kernel_rfl) (by kernel_rfl)) ?_
  intro W base args ds gs before hval0 hW hcnd hwt _
  have hval : ∀ (j : Nat) t v, Tryz.f5.params[j]? = some t → args[j]? = some v → Value.okWide Tryz.prog W .any base t v := hval0
  have hW' := hW
  obtain ⟨p, q, hA0, hV, rfl, hfz, hnd⟩ := hW
  have hA : DataW.TrodAll enc Tryz.prog W 0 (fun _ => true) true Tryz.f5.params.toList args.toList ds p := hA0
  rw [Tryz.params5] at hA hval
  obtain ⟨ha0, rfl, rfl⟩ := trodAll_nil hA
  obtain rfl : args = #[] := by cases args; simp_all
  obtain ⟨rfl, rfl⟩ := trodVars_none hV
  clear hA0 hval0
  simp only [List.append_nil] at hW'
  refine (examples_c W X0 (X0_lt _)  ).mono ?_
  rintro e W' ⟨hu, v, rfl, rfl⟩
  have hb := Upd.below hu
  exact ⟨_, rfl, _, _, _, [] ++ [], _, [], hW', trodAll_mk1 (shut_bool (by kernel_rfl) true), rfl, rfl, hb.frame _, fun h => by cases h⟩
theorem mdpExamples_holds : Rows.MdpExamplesSaid :=
  OpenClaim.holds_of_wide 5 Tryz.f5 rfl rfl rfl rfl rfl rfl rfl ⟨rfl, rfl, rfl, rfl, rfl⟩ rfl rfl rfl rfl rfl (by kernel_rfl) Tryz.func5 (by kernel_rfl)
    (of_decide_eq_true (by kernel_rfl)) (by unfold Func.isWrapper; first | (rw [if_pos (by decide +kernel)]; kernel_rfl) | (rw [if_neg (by decide +kernel)]; exact ⟨rfl, rfl⟩))
    (fun os started H enc _ => mdpExamples_lifted os started H enc)
end Go.Proofs.YtoocgllbbihoaaaGreat

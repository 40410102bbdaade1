/- For all lists, processes and states the law MdpLists answers true, and each argument reads afterwards as before. Conditions: none. By an AI agent. -/
import Derived.ProofKit
import Derived.SizedLaws
import Derived.Test.YtoocgllbbihoaaaGreatRows
import Derived.Test.YtoocgllbbihoaaaGreatBaseA
import Derived.Test.YtoocgllbbihoaaaGreatBaseB
import Derived.Test.YtoocgllbbihoaaaGreatBaseC
import Derived.Test.YtoocgllbbihoaaaGreatBaseD
import Derived.Test.YtoocgllbbihoaaaGreatBaseE
import Derived.Test.YtoocgllbbihoaaaGreatBaseF
import Derived.Test.YtoocgllbbihoaaaGreatBaseG
set_option linter.unusedVariables false
set_option linter.unusedSimpArgs false
set_option linter.unnecessarySimpa false
/- The reference's distance, and the states that it reaches. By an AI agent; no program in sight. -/
namespace Go.Gv
open Go.RowKit
/-! ### Distance -/
def far (m x : Raw) : Raw := if greater x m = true then x else m
def distM : Raw → List Raw → List Raw → Raw × Int
  | r, x :: xs, y :: ys => if opE x y (x.rat - y.rat) = 0 then distM (far r (distR x y)) xs ys else (.zero, opE x y (x.rat - y.rat))
  | r, _, _ => (r, 0)
section
variable {r x y : Raw} {xs ys : List Raw} {k : Nat}
theorem distM_step (hx : xs[k]? = some x) (hy : ys[k]? = some y) (h : opE x y (x.rat - y.rat) = 0) : distM r (xs.drop k) (ys.drop k) = distM (far r (distR x y)) (xs.drop (k + 1)) (ys.drop (k + 1)) := by
  rw [dropC hx, dropC hy, distM, if_pos h]
theorem distM_stop (hx : xs[k]? = some x) (hy : ys[k]? = some y) (h : opE x y (x.rat - y.rat) ≠ 0) : distM r (xs.drop k) (ys.drop k) = (.zero, opE x y (x.rat - y.rat)) := by
  rw [dropC hx, dropC hy, distM, if_neg h]
theorem distM_end (h : xs.length ≤ k) : distM r (xs.drop k) (ys.drop k) = (r, 0) := by
  rw [List.drop_eq_nil_of_le h]; simp [distM]
theorem cmp_swap (hx : x.chk = 0) (hy : y.chk = 0) : 0 < cmpR x y ↔ greater x y = true := by
  unfold greater
  rw [decide_eq_true_iff, cmp_lt hy hx]
  have := cmp_le hx hy
  constructor
  · intro h; have h1 : ¬ x.rat ≤ y.rat := fun e => by have := this.2 e; omega
    exact Rat.not_le.1 h1
  · intro h; have h1 : ¬ x.rat ≤ y.rat := Rat.not_le.2 h
    have h2 : ¬ cmpR x y ≤ 0 := fun e => h1 (this.1 e)
    omega
end
theorem leastL_val {less : Raw → Raw → Bool} {D : List Raw} : ∀ (l : List Raw) (b i : Nat), D.drop i = l → D.getD (leastL less D b i l) .zero = l.foldl (fun m x => if less x m = true then x else m) (D.getD b .zero)
  | [], b, i, _ => rfl
  | x :: l, b, i, h => by
    have hx : D[i]? = some x := by rw [← List.head?_drop, h]; rfl
    have hl : D.drop (i + 1) = l := by rw [← List.tail_drop, h]; rfl
    rw [leastL, leastL_val l _ (i + 1) hl, List.foldl_cons]
    congr 1
    split
    · rw [List.getD_eq_getElem?_getD, hx]; rfl
    · rfl
theorem distM_go : ∀ {xs ys acc : List Raw} {r : Raw}, (distM r xs ys).2 = (distGo acc xs ys).2 ∧ ((distM r xs ys).2 = 0 → (distM r xs ys).1 = (List.zipWith distR xs ys).foldl far r) ∧ ((distM r xs ys).2 ≠ 0 → (distM r xs ys).1 = .zero)
  | [], ys, acc, r => by cases ys <;> simp [distM, distGo]
  | x :: xs, [], acc, r => by simp [distM, distGo]
  | x :: xs, y :: ys, acc, r => by
    rw [distM, distGo]
    by_cases h : opE x y (x.rat - y.rat) = 0
    · rw [if_pos h, if_pos h, List.zipWith_cons_cons, List.foldl_cons]
      exact distM_go
    · rw [if_neg h, if_neg h]
      exact ⟨rfl, fun h0 => absurd h0 h, fun _ => rfl⟩
theorem distM_eq {xs ys : List Raw} (h : xs.length = ys.length) : distV xs ys = distM .zero xs ys := by
  unfold distV
  rw [if_pos h]
  obtain ⟨h1, h2, h3⟩ := distM_go (xs := xs) (ys := ys) (acc := [.zero]) (r := .zero)
  split
  · rename_i h0
    refine Prod.ext ?_ (by rw [h1]; exact h0.symm)
    rw [h2 (h1.trans h0), (distGo_ok h0).1]
    show (([Raw.zero] ++ List.zipWith distR xs ys).getD (leastV greater ([Raw.zero] ++ List.zipWith distR xs ys)) Raw.zero) = _
    unfold leastV
    rw [leastL_val (D := [Raw.zero] ++ List.zipWith distR xs ys) ([Raw.zero] ++ List.zipWith distR xs ys) 0 0 rfl]
    show List.foldl _ Raw.zero (.zero :: List.zipWith distR xs ys) = _
    rw [List.foldl_cons]
    show List.foldl far (if greater Raw.zero Raw.zero = true then Raw.zero else Raw.zero) (List.zipWith distR xs ys) = _
    rw [ite_self]
  · rename_i h0
    have h4 : (distM .zero xs ys).2 ≠ 0 := by rw [h1]; exact h0
    exact Prod.ext (h3 h4).symm h1.symm
/-! ### Reach -/
def inB (S : List Bool) (i : Nat) : Prop := S.getD i false = true
/-- In the middle of a round over the states, from S0 on: those below t are done. -/
structure Rt (m : Mdp) (S0 S : List Bool) (t : Nat) : Prop where
  len : S.length = m.states.length
  up : ∀ i, inB S0 i → inB S i
  done : ∀ u, u < t → inB S0 u → ∀ a ∈ m.states.getD u [], ∀ o ∈ a.next, inB S o.to.toNat
  min : ∀ C : Int → Prop, Closed m C → (∀ i : Nat, inB S0 i → C i) → ∀ i : Nat, inB S i → C i
/-- After some rounds. -/
structure Rr (m : Mdp) (s : Int) (S : List Bool) (k : Nat) : Prop where
  len : S.length = m.states.length
  self : inB S s.toNat
  min : ∀ C : Int → Prop, Closed m C → C s → ∀ i : Nat, inB S i → C i
  fin : (∀ t, inB S t → ∀ a ∈ m.states.getD t [], ∀ o ∈ a.next, inB S o.to.toNat) ∨ unseen S + k + 1 ≤ m.states.length
theorem inB_lt {S : List Bool} {i : Nat} (h : inB S i) : i < S.length := getD_lt h
theorem unseen_lt : ∀ {l l' : List Bool} {i : Nat}, l.length = l'.length → (∀ i : Nat, inB l i → inB l' i) → inB l' i → ¬ inB l i → unseen l' < unseen l
  | [], [], i, _, _, h, _ => by simp [inB] at h
  | [], _ :: _, _, h, _, _, _ => by simp at h
  | _ :: _, [], _, h, _, _, _ => by simp at h
  | b :: l, b' :: l', 0, hl, hu, h1, h2 => by
    simp only [inB, List.getD_cons_zero] at h1 h2
    have := unseen_mono (l := l) (l' := l') (by simpa using hl) (fun i hx => by simpa [inB] using hu (i + 1) (by simpa [inB] using hx))
    subst h1
    cases b
    · simp only [unseen]; simp; omega
    · exact absurd rfl h2
  | b :: l, b' :: l', i + 1, hl, hu, h1, h2 => by
    have ih := unseen_lt (l := l) (l' := l') (i := i) (by simpa using hl) (fun i hx => by simpa [inB] using hu (i + 1) (by simpa [inB] using hx)) (by simpa [inB] using h1) (by simpa [inB] using h2)
    have h0 := hu 0
    simp only [inB, List.getD_cons_zero] at h0
    simp only [unseen]
    cases b
    · cases b' <;> simp <;> omega
    · rw [h0 rfl]; simp; omega
section
variable {m : Mdp} {S0 S : List Bool} {s : Int} {t k : Nat}
theorem Rt.start (h : S.length = m.states.length) : Rt m S S 0 := ⟨h, fun _ h => h, fun _ h => absurd h (Nat.not_lt_zero _), fun _ _ h => h⟩
/-- One more is seen. -/
theorem Rt.set {x : Actn} {o : Out} (h : Rt m S0 S t) (ht : t < m.states.length) (hs : inB S t) (hx : x ∈ m.states.getD t []) (ho : o ∈ x.next) (h0 : 0 ≤ o.to ∧ o.to < m.states.length) : Rt m S0 (S.set o.to.toNat true) t := by
  have hk : o.to.toNat < S.length := by rw [h.len]; omega
  have hset : ∀ i, inB (S.set o.to.toNat true) i ↔ inB S i ∨ i = o.to.toNat := fun i => set_getD hk
  refine ⟨by rw [List.length_set]; exact h.len, fun i hi => (hset i).2 (.inl (h.up i hi)), fun u hu hi a ha o' ho' => (hset _).2 (.inl (h.done u hu hi a ha o' ho')), fun C hC hI i hi => ?_⟩
  rcases (hset i).1 hi with h1 | h1
  · exact h.min C hC hI i h1
  · subst h1
    have hct : C (t : Int) := h.min C hC hI t hs
    have := hC t (by omega) (by omega) hct x (by simpa using hx) o ho
    rwa [Int.toNat_of_nonneg h0.1]
theorem inB_set {i j : Nat} (h : inB S i) : inB (S.set j true) i := by
  have hlt := inB_lt h
  unfold inB at *
  rw [List.getD_eq_getElem?_getD, List.getElem?_set]
  split
  · split
    · rfl
    · rename_i h1 h2; subst h1; exact absurd hlt h2
  · rw [← List.getD_eq_getElem?_getD]; exact h
theorem inB_self {j : Nat} (h : j < S.length) : inB (S.set j true) j := (set_getD h).2 (.inr rfl)
theorem Rt.next (h : Rt m S0 S t) (hd : inB S0 t → ∀ a ∈ m.states.getD t [], ∀ o ∈ a.next, inB S o.to.toNat) : Rt m S0 S (t + 1) :=
  ⟨h.len, h.up, fun u hu hi => by
    rcases Nat.lt_or_ge u t with h1 | h1
    · exact h.done u h1 hi
    · obtain rfl : u = t := by omega
      exact hd hi, h.min⟩
theorem Rr.start (h0 : 0 ≤ s) (h1 : s < m.states.length) : Rr m s ((List.replicate m.states.length false).set s.toNat true) 0 := by
  have hk : s.toNat < (List.replicate m.states.length false).length := by simp; omega
  have hrep : ∀ i : Nat, ¬ inB (List.replicate m.states.length false) i := fun i => by
    unfold inB
    rw [List.getD_eq_getElem?_getD, List.getElem?_replicate]; split <;> simp
  have hset : ∀ i, inB ((List.replicate m.states.length false).set s.toNat true) i ↔ inB (List.replicate m.states.length false) i ∨ i = s.toNat := fun i => set_getD hk
  have hu : unseen (List.replicate m.states.length false) ≤ m.states.length := by
    have : ∀ n, unseen (List.replicate n false) ≤ n := by
      intro n; induction n with
      | zero => exact Nat.le_refl _
      | succ n ih => rw [List.replicate_succ, unseen]; simp; omega
    exact this _
  have hlt := unseen_set hk (by have := hrep s.toNat; unfold inB at this; simpa using this)
  refine ⟨by simp, inB_self hk, fun C _ hs i hi => ?_, .inr (by omega)⟩
  rcases (hset i).1 hi with h2 | h2
  · exact absurd h2 (hrep i)
  · subst h2; rwa [Int.toNat_of_nonneg h0]
/-- The end of a round. -/
theorem Rr.round (h : Rr m s S0 k) (hto : ∀ t, t < m.states.length → ∀ a ∈ m.states.getD t [], ∀ o ∈ a.next, 0 ≤ o.to ∧ o.to < m.states.length) (h0 : 0 ≤ s) (hr : Rt m S0 S m.states.length) : Rr m s S (k + 1) := by
  have hmin : ∀ C : Int → Prop, Closed m C → C s → ∀ i : Nat, inB S i → C i := fun C hC hs => hr.min C hC (h.min C hC hs)
  refine ⟨hr.len, hr.up _ h.self, hmin, ?_⟩
  by_cases hsame : ∀ i, inB S i → inB S0 i
  · exact .inl fun t ht a ha o ho => hr.done t (by rw [← hr.len]; exact inB_lt ht) (hsame t ht) a ha o ho
  · obtain ⟨i, hi⟩ := Classical.not_forall.1 hsame
    obtain ⟨h1, h2⟩ := Classical.not_imp.1 hi
    rcases h.fin with hc | hc
    · exfalso
      refine h2 ?_
      have hC : Closed m (fun x => 0 ≤ x ∧ inB S0 x.toNat) := fun t ht0 ht1 ht a ha o ho => by
        refine ⟨(hto t.toNat (by omega) a ha o ho).1, hc t.toNat ht.2 a ha o ho⟩
      have := hmin _ hC ⟨h0, h.self⟩ i h1
      simpa using this.2
    · have := unseen_lt (l := S0) (l' := S) (by rw [h.len, hr.len]) hr.up h1 h2
      exact .inr (by omega)
/-- The states seen below k. -/
def outL (S : List Bool) (k : Nat) : List Int := ((List.range k).filter fun i => S.getD i false).map fun (i : Nat) => (i : Int)
theorem outL_step (h : S.getD k false = true) : outL S (k + 1) = outL S k ++ [(k : Int)] := by
  unfold outL
  rw [List.range_succ, List.filter_append, List.map_append]
  simp only [List.filter_cons, List.filter_nil, h, if_true, List.map_cons, List.map_nil]
theorem outL_skip (h : ¬ S.getD k false = true) : outL S (k + 1) = outL S k := by
  unfold outL
  rw [List.range_succ, List.filter_append, List.map_append]
  simp only [List.filter_cons, List.filter_nil, h, List.map_nil, List.append_nil]
  simp
theorem outL_mem {i : Int} : i ∈ outL S k ↔ 0 ≤ i ∧ i < k ∧ inB S i.toNat := by
  unfold outL
  rw [List.mem_map]
  constructor
  · rintro ⟨j, hj, rfl⟩
    rw [List.mem_filter, List.mem_range] at hj
    exact ⟨by omega, by omega, by simpa [inB] using hj.2⟩
  · rintro ⟨h0, h1, h2⟩
    refine ⟨i.toNat, ?_, Int.toNat_of_nonneg h0⟩
    rw [List.mem_filter, List.mem_range]
    exact ⟨by omega, h2⟩
theorem Rr.reached (h : Rr m s S m.states.length) (hto : ∀ t, t < m.states.length → ∀ a ∈ m.states.getD t [], ∀ o ∈ a.next, 0 ≤ o.to ∧ o.to < m.states.length) (h0 : 0 ≤ s) (h1 : s < m.states.length) : Reached m s (outL S m.states.length) := by
  have hc := h.fin.resolve_right (by omega)
  refine ⟨?_, outL_mem.2 ⟨h0, h1, h.self⟩, fun t ht => ⟨(outL_mem.1 ht).1, (outL_mem.1 ht).2.1⟩, fun t ht a ha o ho => ?_, fun C hC hs t ht => ?_⟩
  · have h9 : ((List.range m.states.length).filter fun i => S.getD i false).Pairwise (fun a b : Nat => a < b) := List.Pairwise.filter _ List.pairwise_lt_range
    unfold outL
    exact List.pairwise_map.2 (h9.imp fun h => Int.ofNat_lt.2 h)
  · obtain ⟨g1, g2, g3⟩ := outL_mem.1 ht
    obtain ⟨k1, k2⟩ := hto t.toNat (by omega) a ha o ho
    exact outL_mem.2 ⟨k1, k2, hc t.toNat g3 a ha o ho⟩
  · obtain ⟨g1, g2, g3⟩ := outL_mem.1 ht
    have := h.min C hC hs t.toNat g3
    rwa [Int.toNat_of_nonneg g1] at this
end
theorem sorted_eq : ∀ {l l' : List Int}, l.Pairwise (· < ·) → l'.Pairwise (· < ·) → (∀ t, t ∈ l ↔ t ∈ l') → l = l'
  | [], [], _, _, _ => rfl
  | [], x :: l', _, _, h => by have := (h x).2 (by simp); simp at this
  | x :: l, [], _, _, h => by have := (h x).1 (by simp); simp at this
  | x :: l, y :: l', h1, h2, h => by
    rw [List.pairwise_cons] at h1 h2
    have e : x = y := by
      rcases List.mem_cons.1 ((h x).1 (by simp)) with e | e
      · exact e
      · rcases List.mem_cons.1 ((h y).2 (by simp)) with e' | e'
        · exact e'.symm
        · have := h1.1 y e'; have := h2.1 x e; omega
    subst e
    rw [sorted_eq h1.2 h2.2 fun t => ?_]
    constructor
    · intro ht
      rcases List.mem_cons.1 ((h t).1 (List.mem_cons_of_mem _ ht)) with e | e
      · subst e; have := h1.1 t ht; omega
      · exact e
    · intro ht
      rcases List.mem_cons.1 ((h t).2 (List.mem_cons_of_mem _ ht)) with e | e
      · subst e; have := h2.1 t ht; omega
      · exact e
theorem Reached.eq {m : Mdp} {s : Int} {l l' : List Int} (h : Reached m s l) (h' : Reached m s l') : l = l' :=
  sorted_eq h.sorted h'.sorted fun t => ⟨h.min (· ∈ l') (fun t _ _ ht a ha o ho => h'.closed t ht a ha o ho) h'.self t, h'.min (· ∈ l) (fun t _ _ ht a ha o ho => h.closed t ht a ha o ho) h.self t⟩
attribute [local semireducible] Go
/-- A store of 'true' into a row of truth values. -/
theorem zxB {r : Option Nat} {m : Nat} {P : Program} {Q : Exit → Act → World → Prop} {n : Nat} {D : List Deferred} {w : World} {c : Cf} {E : Nat → Prop} {w0 : World} {X Y : Hid} {M : List (Nat × Obj)} (i : Nat) {g k : Nat} {T : TypeId} {S : List Bool} (hS : St E w0 X w Y M) (hM : M[i]? = some (g, .cells (bvals S) T (0, 0))) (hk : k < S.length)
    (h : ∀ w1, St E w0 X w1 Y (M.set i (g, .cells (bvals (S.set k true)) T (0, 0))) → Le (rd w Y) (rd w1 Y) → Go r m P Q n D w1 (n0 c))
    (hc : isst n c = true := by kernel_rfl) (ho : (cop c).op = .store (stT (cop c)) (stA (cop c)) (stV (cop c)) := by kernel_rfl) (ha : evL c.L (stA (cop c)) = .pointer (some ⟨g, k, none⟩) := by kernel_rfl) (hv : evL c.L (stV (cop c)) = .bool true := by kernel_rfl)
    (ht : ldT P (stT (cop c)) = some (ldG' P (stT (cop c)), 1) := by kernel_rfl) : Go r m P Q n D w c := by
  simp only [isst, Bool.and_eq_true] at hc
  have hc1 := hc.1
  simp only [isop, Bool.and_eq_true] at hc1
  exact z_op hc.1 fun _ hF => zE i _ hF (by simp only [hc1.2.2.2, hc.2, Bool.and_self]) hS ho ha hv ht rfl rfl hM (by rw [bvals_size]; omega) bvals_set rfl fun w1 h2 h3 => h w1 h2 h3 _ hF
end Go.Gv
namespace Go.Proofs.YtoocgllbbihoaaaGreat
open Go Go.Gv Go.RowKit
set_option maxRecDepth 100000
set_option maxHeartbeats 1000000
theorem Distance21_c (w : World) (X : Hid) (hX : ∀ k o, X k o → k < w.heap.size) (ad : Option Addr) (len cap : Nat) (xs : List Raw) (h : Rats (rd w X) ad len cap xs) (ad2 : Option Addr) (len2 cap2 : Nat) (ys : List Raw) (h2 : Rats (rd w X) ad2 len2 cap2 ys) (hm : len ≤ 1099511627776) (hm2 : len2 ≤ 1099511627776) : Calls Tryz.prog 27 #[.slice ad len cap, .slice ad2 len2 cap2] w (Ret E0 w fun w' v => ∃ u, v = .tuple #[u, .int .i64 (distV xs ys).2] ∧ RawX X w' u (distV xs ys).1) := by
 obtain rfl := h.hlen
 have hcap := h.hcap
 have hbig := h.hbig
 obtain rfl := h2.hlen
 have hcap2 := h2.hcap
 have hbig2 := h2.hbig
 refine zen Tryz.func27 ?_
 have A0 : St E0 w X w X [] := St.start hX
 refine zz 2 ?_
 refine zn pn (.cells #[.bool false, .slice none 0 0, .slice none 0 0] 25 (0, 0)) A0 ?_
 intro b3 w3 Y3 A3 j3 hu3
 refine zz 13 ?_
 refine zb 14 (b := ((xs.length : Int) != (ys.length : Int))) (fun hc4 => ?_) (fun hc4 => ?_)
 ·
  have ht5 : (xs.length : Int) ≠ (ys.length : Int) := by simpa using hc4
  have hend : distV xs ys = (.zero, 16) := if_neg (by omega)
  refine zz 4 ?_
  refine zx 0 #[.bool false, .slice none 0 0, .slice none 0 0] A3 ?_
  intro w6 A6 j6
  refine zz 5 ?_
  refine zrS [.cell 4 25, .tmp 5] (v := .tuple #[.agg #[.bool false, .slice none 0 0, .slice none 0 0], .int .i64 16]) (Res.cM A6 0 (Res.tZ Res.nil)) ?_
  exact ⟨A6.upd, _, rfl, _, by rw [hend], by rw [hend]; exact raw_zero⟩
 have ht7 : (xs.length : Int) = (ys.length : Int) := by simpa using hc4
 have hdv := distM_eq (xs := xs) (ys := ys) (by omega)
 refine zz 6 ?_
 refine zn pn (.cells #[.bool false, .slice none 0 0, .slice none 0 0] 25 (0, 0)) A3 ?_
 intro b9 w9 Y9 A9 j9 hu9
 refine zx 0 #[.bool false, .slice none 0 0, .slice none 0 0] A9 ?_
 intro w10 A10 j10
 refine zz 9 ?_
 refine zlp Tryz.f27 [] [1, 1, 1, 0, 1, 0] (fun (k : Nat) => [(0, .slice ad xs.length cap), (1, .slice ad2 ys.length cap2), (4, .pointer (some ⟨b3, 0, none⟩)), (6, .pointer (some ⟨b9, 0, none⟩)), (7, .int .i64 (k : Int))]) (fun (k : Nat) w1 => ∃ (Y1 : Hid) (r : Raw) (ar : Option Addr) (lr : Nat) (cr : Nat) (br : Option Addr) (mr : Nat) (dr : Nat), St E0 w X w1 Y1 [(b9, .cells #[.bool r.neg, .slice ar lr cr, .slice br mr dr] 25 (0, 0)), (b3, .cells #[.bool false, .slice none 0 0, .slice none 0 0] 25 (0, 0))] ∧ Le (rd w10 Y9) (rd w1 Y1) ∧ (Limbs (rd w1 Y1) ar lr cr r.ln) ∧ (Limbs (rd w1 Y1) br mr dr r.ld) ∧ (distM r (xs.drop k) (ys.drop k) = distM .zero xs ys) ∧ (r.chk = 0) ∧ (k ≤ xs.length)) (fun (k : Nat) => xs.length - k) 0 ?_ ?_
 ·
  refine ⟨_, .zero, none, 0, 0, none, 0, 0, A10, Le.refl _, Limbs.nil none (by omega), Limbs.nil none (by omega), rfl, zero_chk, Nat.zero_le _⟩
 rintro k w11 K11 G11 ⟨Y11, r, ar, lr, cr, br, mr, dr, A11, j11, hp11_0, hp11_1, hp11_2, hp11_3, hp11_4⟩
 have hr1 := hp11_0
 have hr2 := hp11_1
 have hgo := hp11_2
 have hrc := hp11_3
 have hkl := hp11_4
 refine zz 9 ?_
 refine zt 20 (p := (k : Int) < (xs.length : Int)) (fun ht12 => ?_) (fun ht12 => ?_)
 ·
  obtain ⟨bx, offx, xx, anx, lnx, cnx, amx, lmx, cmx, rfl, hxx, hAx, hLx, hMx⟩ := h.cell (k := k) (by omega)
  obtain ⟨bz, offz, xz, anz, lnz, cnz, amz, lmz, cmz, rfl, hxz, hAz, hLz, hMz⟩ := h2.cell (k := k) (by omega)
  refine zz 6 ?_
  refine zdr A11 ?_
  refine gz [0, 1] ?_
  refine gi 2 (b := bx) (off := offx) (len := xs.length) (cap := cap) (kd := .i64) (i := (k : Int)) 3 (offx + k * 3) ?_
  have hc1_ := (Le3 j3 j9 j10).trans j11
  refine gl 3 ((hAx.mono hc1_)) ?_
  refine gz [4, 5] ?_
  refine gi 6 (b := bz) (off := offz) (len := ys.length) (cap := cap2) (kd := .i64) (i := (k : Int)) 3 (offz + k * 3) ?_
  have hc2_ := (Le3 j3 j9 j10).trans j11
  refine gl 7 ((hAz.mono hc2_)) ?_
  refine gp (al 12 8 pn (.cells #[.bool false, .slice none 0 0, .slice none 0 0] 25 (0, 0))) ?_
  have hc3_ := (Le3 j3 j9 j10).trans j11
  refine gC 8 (fun w13 Y13 _ A13 j13 => (rSub6_c _ _ A13.lt xx _ _ _ (hLx.mono (hc3_.trans j13)) _ _ _ (hMx.mono (hc3_.trans j13)) xz _ _ _ (hLz.mono (hc3_.trans j13)) _ _ _ (hMz.mono (hc3_.trans j13)))) ?_ (hPd := PdOk.nil.k)
  rintro v14 w13 Y14 w14 A13 j14 ⟨u14, rfl, ⟨ad14, len14, cap14, ae14, le14, ce14, rfl, hN14, hD14⟩⟩
  refine gz [9, 10, 11] ?_
  refine gs1 (fun b15 => ?_) PdOk.nil.k
  refine gX 13 0 #[.bool ((opR xx xz (xx.rat - xz.rat)).neg), .slice ad14 len14 cap14, .slice ae14 le14 ce14] ?_
  intro w16 Y16 j16
  refine gz [14] ?_
  refine gend (fun w17 Y17 A17 j17 => ?_)
  refine zz 8 ?_
  refine zb 36 (b := ((opE xx xz (xx.rat - xz.rat)) != 0)) (fun hc18 => ?_) (fun hc18 => ?_)
  ·
   have ht19 : (opE xx xz (xx.rat - xz.rat)) ≠ 0 := by simpa using hc18
   have hend := hdv.trans (hgo.symm.trans (distM_stop hxx hxz ht19))
   refine zz 5 ?_
   refine zx 2 #[.bool false, .slice none 0 0, .slice none 0 0] A17 ?_
   intro w20 A20 j20
   refine zz 10 ?_
   refine zrS [.cell 4 25, .tmp 5] (v := .tuple #[.agg #[.bool false, .slice none 0 0, .slice none 0 0], .int .i64 (opE xx xz (xx.rat - xz.rat))]) (Res.cM A20 2 (Res.tZ Res.nil)) ?_
   exact ⟨A20.upd, _, rfl, _, by rw [hend], by rw [hend]; exact raw_zero⟩
  have ht21 : (opE xx xz (xx.rat - xz.rat)) = 0 := by simpa using hc18
  have hop : opE xx xz (xx.rat - xz.rat) = 0 := by simpa using ht21
  have hdc := (distR_ok hop).1
  refine zz 6 ?_
  refine zx 0 #[.bool false, .slice ad14 len14 cap14, .slice ae14 le14 ce14] A17 ?_
  intro w22 A22 j22
  refine zz 4 ?_
  refine zo 0 A22 ?_
  refine zo 1 A22 ?_
  have hc4_ := (Le3 j14 j16 j17).trans j22
  refine zc A22 (order6_r _ _ A22.lt (distR xx xz) _ _ _ (hN14.mono (Le3 j16 j17 j22)) _ _ _ (hD14.mono (Le3 j16 j17 j22)) r _ _ _ (hr1.mono hc4_) _ _ _ (hr2.mono hc4_) hdc hrc) ?_
  rintro v24 w24 A24 j24 hu24 rfl
  refine zz 3 ?_
  refine zt 43 (p := (cmpR (distR xx xz) r) > 0) (fun ht25 => ?_) (fun ht25 => ?_)
  ·
   refine zz 2 ?_
   refine zo 0 A24 ?_
   refine zx 1 #[.bool false, .slice ad14 len14 cap14, .slice ae14 le14 ce14] A24 ?_
   intro w26 A26 j26
   refine zz 6 ?_
   refine zw 22 (x := (k : Int) + 1) ?_
   refine zz 2 ?_
   have hc5_ := (Le4 j16 j17 j22 j24).trans j26
   have hc6_ := (Le6 j11 j14 j16 j17 j22 j24).trans j26
   refine znext (fun a h => G11 (k + 1) _ a h ⟨_, (distR xx xz), ad14, len14, cap14, ae14, le14, ce14, A26.tail, hc6_, (hN14.mono hc5_), (hD14.mono hc5_), by have h9 := (distM_step (r := r) hxx hxz hop).symm.trans hgo; rwa [show far r (distR xx xz) = (distR xx xz) from if_pos ((cmp_swap hdc hrc).1 (by omega))] at h9, hdc, by omega⟩ ?_)
   first | omega | (simp <;> omega)
  refine zz 7 ?_
  refine zw 22 (x := (k : Int) + 1) ?_
  refine zz 2 ?_
  have hc7_ := hc4_.trans j24
  have hc8_ := (Le5 j11 j14 j16 j17 j22).trans j24
  refine znext (fun a h => G11 (k + 1) _ a h ⟨_, r, ar, lr, cr, br, mr, dr, A24.tail, hc8_, (hr1.mono hc7_), (hr2.mono hc7_), by have h9 := (distM_step (r := r) hxx hxz hop).symm.trans hgo; rwa [show far r (distR xx xz) = r from if_neg (fun e => absurd ((cmp_swap hdc hrc).2 e) (by omega))] at h9, hrc, by omega⟩ ?_)
  first | omega | (simp <;> omega)
 have hend := hdv.trans (hgo.symm.trans (distM_end (by omega)))
 refine zz 8 ?_
 refine zo 0 A11 ?_
 refine zx 1 #[.bool r.neg, .slice ar lr cr, .slice br mr dr] A11 ?_
 intro w27 A27 j27
 refine zz 4 ?_
 refine zrS [.cell 4 25, .tmp 5] (v := .tuple #[.agg #[.bool r.neg, .slice ar lr cr, .slice br mr dr], .int .i64 0]) (Res.cM A27 1 (Res.tZ Res.nil)) ?_
 exact ⟨A27.upd, _, rfl, _, by rw [hend], by rw [hend]; exact ⟨_, _, _, _, _, _, rfl, (hr1.mono j27).mono A27.le, (hr2.mono j27).mono A27.le⟩⟩
end Go.Proofs.YtoocgllbbihoaaaGreat
namespace Go.Proofs.YtoocgllbbihoaaaGreat
open Go Go.Gv Go.RowKit
set_option maxRecDepth 100000
set_option maxHeartbeats 1000000
theorem score_len {m : Mdp} {sx : List Actn} {xa : Actn} (h : m.chk = 0) (hs : sx ∈ m.states) (ha : xa ∈ sx) : xa.next.length ≤ 64 ∧ sx.length ≤ 6 := by
  obtain ⟨_, _, _, _, _, hst⟩ := Mdp.chk_ok h
  exact ⟨(chkAct_ok ((hst sx hs).2.2 xa ha)).2.2.2, (hst sx hs).2.1⟩
theorem ReachV.eq {m : Mdp} {s : Int} {l l' : List Int} {e e' : Int} (h : ReachV m s l e) (h' : ReachV m s l' e') : l' = l ∧ e' = e := by
  rcases h with ⟨a, rfl, rfl⟩ | ⟨a, b, rfl, rfl⟩ | ⟨a, b, c, rfl, d⟩ <;> rcases h' with ⟨a', rfl, rfl⟩ | ⟨a', b', rfl, rfl⟩ | ⟨a', b', c', rfl, d'⟩ <;> first | exact ⟨rfl, rfl⟩ | (exfalso; omega) | exact ⟨d'.eq d, rfl⟩
theorem Reach21_c (w : World) (X : Hid) (hX : ∀ k o, X k o → k < w.heap.size) (m : Mdp) (ad : Option Addr) (len cap : Nat) (h : Limbs (rd w X) ad len cap m.disc.ln) (ae : Option Addr) (le ce : Nat) (h2 : Limbs (rd w X) ae le ce m.disc.ld) (st : Option Addr) (ls cs : Nat) (hst : StatesR (rd w X) st ls cs m.states) (s : Int) : Calls Tryz.prog 28 #[.agg #[.bool m.disc.neg, .slice ad len cap, .slice ae le ce, .slice st ls cs], .int .i64 s] w (Ret E0 w fun w' u => ∃ (ad : Option Addr) (len cap : Nat) (l : List Int) (e : Int), u = .tuple #[.slice ad len cap, .int .i64 e] ∧ Ints (rd w' X) ad len cap l ∧ ReachV m s l e) := by
 obtain rfl := hst.hlen
 have hcaps := hst.hcap
 have hbigs := hst.hbig
 refine zen Tryz.func28 ?_
 have A0 : St E0 w X w X [] := St.start hX
 refine zz 2 ?_
 refine zn pn (.cells #[.bool m.disc.neg, .slice ad len cap, .slice ae le ce, .slice st m.states.length cs] 28 (0, 0)) A0 ?_
 intro b3 w3 Y3 A3 j3 hu3
 refine zz 6 ?_
 refine zo 0 A3 ?_
 refine zc A3 (mCheck6_c _ _ A3.lt m _ _ _ (h.mono j3) _ _ _ (h2.mono j3) _ _ _ (hst.mono j3)) ?_
 rintro v5 w5 A5 j5 hu5 rfl
 refine zz 10 ?_
 refine zb 17 (b := ((m.chk) != 0)) (fun hc6 => ?_) (fun hc6 => ?_)
 ·
  have ht7 : (m.chk) ≠ 0 := by simpa using hc6
  refine zz 10 ?_
  refine zr' (v := .tuple #[.slice none 0 0, .int .i64 m.chk]) ?_
  exact ⟨A5.upd, _, rfl, _, _, _, _, _, rfl, ints_nil, .inl ⟨ht7, rfl, rfl⟩⟩
 have ht8 : (m.chk) = 0 := by simpa using hc6
 have hm0 : m.chk = 0 := by simpa using ht8
 have hn200 := (Mdp.chk_ok hm0).2.2.2.2.1
 have hto : ∀ t, t < m.states.length → ∀ a ∈ m.states.getD t [], ∀ o ∈ a.next, 0 ≤ o.to ∧ o.to < m.states.length := fun t ht a ha o ho => m_range hm0 (getD_mem ht) ha ho
 refine zz 9 ?_
 refine zt 21 (p := (s) < 0) (fun ht9 => ?_) (fun ht9 => ?_)
 ·
  refine zz 17 ?_
  refine zr' (v := .tuple #[.slice none 0 0, .int .i64 8]) ?_
  exact ⟨A5.upd, _, rfl, _, _, _, _, _, rfl, ints_nil, .inr (.inl ⟨hm0, .inl ht9, rfl, rfl⟩)⟩
 have hs0 : 0 ≤ s := by omega
 refine zz 2 ?_
 refine zo 0 A5 ?_
 refine zz 5 ?_
 refine zt 27 (p := (s) ≥ (m.states.length : Int)) (fun ht10 => ?_) (fun ht10 => ?_)
 ·
  refine zz 9 ?_
  refine zr' (v := .tuple #[.slice none 0 0, .int .i64 8]) ?_
  exact ⟨A5.upd, _, rfl, _, _, _, _, _, rfl, ints_nil, .inr (.inl ⟨hm0, .inr (by omega), rfl, rfl⟩)⟩
 refine zz 6 ?_
 refine zo 0 A5 ?_
 refine zz 1 ?_
 refine zop (at1 [] Tryz.f28 [1, 1, 1, 1, 0]) 3 (fun a11 _ C11 hz11 => op_makeZ (l := (m.states.length : Int)) (e := 4) (z := .bool false) (i0 := Tryz.t4) m.states.length 1 C11 A5 ?_)
 intro gS w12 Y12 A12 j12 hu12 a13 C13
 rw [bvals_rep] at A12
 refine hz11 C13 ?_
 refine zz 7 ?_
 refine zi (b := gS) (off := 0) (len := m.states.length) (cap := m.states.length) (kd := .i64) (i := s) 1 s.toNat ?_
 refine zxB 0 (k := s.toNat) A12 rfl (by simp; omega) ?_
 intro w15 A15 j15
 refine zz 9 ?_
 refine zlp Tryz.f28 [] [1, 1, 1, 1, 1, 1, 0, 1, 0] (fun (r : Nat) => [(2, .pointer (some ⟨b3, 0, none⟩)), (7, .slice (some ⟨gS, 0, none⟩) m.states.length m.states.length), (8, .int .i64 (r : Int))]) (fun (r : Nat) w1 => ∃ (Y1 : Hid) (S0 : List Bool), St E0 w X w1 Y1 [(gS, .cells (bvals S0) 4 (0, 0)), (b3, .cells #[.bool m.disc.neg, .slice ad len cap, .slice ae le ce, .slice st m.states.length cs] 28 (0, 0))] ∧ Le (rd w15 Y12) (rd w1 Y1) ∧ (Rr m s S0 r) ∧ (r ≤ m.states.length)) (fun (r : Nat) => m.states.length - r) 0 ?_ ?_
 ·
  refine ⟨_, ((List.replicate m.states.length false).set s.toNat true), A15, Le.refl _, Rr.start hs0 (by omega), Nat.zero_le _⟩
 rintro r w16 K16 G16 ⟨Y16, S0, A16, j16, hp16_0, hp16_1⟩
 have hRr := hp16_0
 have hkr := hp16_1
 have hlS := hRr.len
 refine zz 9 ?_
 refine zt 38 (p := (r : Int) < (m.states.length : Int)) (fun ht17 => ?_) (fun ht17 => ?_)
 ·
  refine zz 11 ?_
  refine zlp Tryz.f28 [K16] [1, 1, 1, 1, 1, 1, 0, 1, 0, 0, 1, 0, 0, 1, 0] (fun (t : Nat) => [(2, .pointer (some ⟨b3, 0, none⟩)), (7, .slice (some ⟨gS, 0, none⟩) m.states.length m.states.length), (8, .int .i64 (r : Int)), (9, .int .i64 (t : Int))]) (fun (t : Nat) w1 => ∃ (Y1 : Hid) (S1 : List Bool), St E0 w X w1 Y1 [(gS, .cells (bvals S1) 4 (0, 0)), (b3, .cells #[.bool m.disc.neg, .slice ad len cap, .slice ae le ce, .slice st m.states.length cs] 28 (0, 0))] ∧ Le (rd w16 Y16) (rd w1 Y1) ∧ (Rt m S0 S1 t) ∧ (t ≤ m.states.length)) (fun (t : Nat) => m.states.length - t) 0 ?_ ?_
  ·
   refine ⟨_, S0, A16, Le.refl _, Rt.start hRr.len, Nat.zero_le _⟩
  rintro t w18 K18 G18 ⟨Y18, S1, A18, j18, hp18_0, hp18_1⟩
  have hRt := hp18_0
  have hkt := hp18_1
  have hlS := hRt.len
  refine zz 9 ?_
  refine zt 44 (p := (t : Int) < (m.states.length : Int)) (fun ht19 => ?_) (fun ht19 => ?_)
  ·
   obtain ⟨b0, off0, rfl⟩ := hst.addr (by omega)
   obtain ⟨sx, ax, lx, cx, hxs, hAs, hacts⟩ := hst.at (k := t) (by omega)
   obtain rfl := hacts.hlen
   have hcapx := hacts.hcap
   have hbigx := hacts.hbig
   have hAs1 : At (rd w X) ⟨b0, off0 + t, none⟩ [.slice ax sx.length cx] := by simpa using hAs
   refine zz 11 ?_
   refine zlp Tryz.f28 [K16, K18] [1, 1, 1, 1, 1, 1, 0, 1, 0, 0, 1, 0, 0, 1, 0, 0, 1, 0, 0, 1, 0] (fun (ka : Nat) => [(2, .pointer (some ⟨b3, 0, none⟩)), (7, .slice (some ⟨gS, 0, none⟩) m.states.length m.states.length), (8, .int .i64 (r : Int)), (9, .int .i64 (t : Int)), (10, .int .i64 (ka : Int))]) (fun (ka : Nat) w1 => ∃ (Y1 : Hid) (S2 : List Bool), St E0 w X w1 Y1 [(gS, .cells (bvals S2) 4 (0, 0)), (b3, .cells #[.bool m.disc.neg, .slice ad len cap, .slice ae le ce, .slice (some ⟨b0, off0, none⟩) m.states.length cs] 28 (0, 0))] ∧ Le (rd w18 Y18) (rd w1 Y1) ∧ (Rt m S0 S2 t) ∧ (ka ≤ sx.length) ∧ (ka = 0 ∨ inB S2 t) ∧ (∀ x ∈ sx.take ka, ∀ o ∈ x.next, inB S2 o.to.toNat)) (fun (ka : Nat) => sx.length - ka) 0 ?_ ?_
   ·
    refine ⟨_, S1, A18, Le.refl _, hRt, Nat.zero_le _, .inl rfl, fun _ h => absurd h (by simp)⟩
   rintro ka w20 K20 G20 ⟨Y20, S2, A20, j20, hp20_0, hp20_1, hp20_2, hp20_3⟩
   have hRt := hp20_0
   have hka := hp20_1
   have hat := hp20_2
   have hda := hp20_3
   have hlS := hRt.len
   refine zz 5 ?_
   refine zo 1 A20 ?_
   refine zz 1 ?_
   refine zi (b := b0) (off := off0) (len := m.states.length) (cap := cs) (kd := .i64) (i := (t : Int)) 1 (off0 + t) ?_
   have hc1_ := (Le6 j3 j5 j12 j15 j16 j18).trans j20
   refine zl ((hAs1.mono hc1_)).cells ?_
   refine zz 3 ?_
   refine zt 55 (p := (ka : Int) < (sx.length : Int)) (fun ht21 => ?_) (fun ht21 => ?_)
   ·
    refine zz 2 ?_
    refine zi (b := gS) (off := 0) (len := m.states.length) (cap := m.states.length) (kd := .i64) (i := (t : Int)) 1 t ?_
    refine zl (A20.boolCells (k := t) 0 rfl (by rw [hRt.len]; omega)) ?_
    refine zz 3 ?_
    refine zb 60 (b := (S2.getD t false)) (fun hc22 => ?_) (fun hc22 => ?_)
    ·
     have ht23 : (S2.getD t false) = true := by simpa using hc22
     have hin : inB S2 t := ht23
     obtain ⟨b9a, off9a, rfl⟩ := hacts.addr (by omega)
     obtain ⟨xa, a1a, a2a, a3a, a4a, a5a, a6a, a7a, a8a, a9a, hxa, hAa, hLa, hMa, hx⟩ := hacts.at (k := ka) (by omega)
     obtain rfl := hx.hlen
     have hcapo := hx.hcap
     have hbigo := hx.hbig
     have hAa3 : At (rd w X) ⟨b9a, off9a + ka * 4 + 3, none⟩ [.slice a7a xa.next.length a9a] := At.drop hAa 3 rfl
     have hn64 := (score_len hm0 (List.mem_of_getElem? hxs) (List.mem_of_getElem? hxa))
     refine zz 11 ?_
     refine zlp Tryz.f28 [K16, K18, K20] [1, 1, 1, 1, 1, 1, 0, 1, 0, 0, 1, 0, 0, 1, 0, 0, 1, 0, 0, 1, 0, 0, 1, 0, 0, 1, 0] (fun (i : Nat) => [(2, .pointer (some ⟨b3, 0, none⟩)), (7, .slice (some ⟨gS, 0, none⟩) m.states.length m.states.length), (8, .int .i64 (r : Int)), (9, .int .i64 (t : Int)), (10, .int .i64 (ka : Int)), (11, .int .i64 (i : Int))]) (fun (i : Nat) w1 => ∃ (Y1 : Hid) (S3 : List Bool), St E0 w X w1 Y1 [(gS, .cells (bvals S3) 4 (0, 0)), (b3, .cells #[.bool m.disc.neg, .slice ad len cap, .slice ae le ce, .slice (some ⟨b0, off0, none⟩) m.states.length cs] 28 (0, 0))] ∧ Le (rd w20 Y20) (rd w1 Y1) ∧ (Rt m S0 S3 t) ∧ (i ≤ xa.next.length) ∧ (inB S3 t) ∧ (∀ x ∈ sx.take ka, ∀ o ∈ x.next, inB S3 o.to.toNat) ∧ (∀ o ∈ xa.next.take i, inB S3 o.to.toNat)) (fun (i : Nat) => xa.next.length - i) 0 ?_ ?_
     ·
      refine ⟨_, S2, A20, Le.refl _, hRt, Nat.zero_le _, hin, hda, fun _ h => absurd h (by simp)⟩
     rintro i w24 K24 G24 ⟨Y24, S3, A24, j24, hp24_0, hp24_1, hp24_2, hp24_3, hp24_4⟩
     have hRt := hp24_0
     have hki := hp24_1
     have hit := hp24_2
     have hda := hp24_3
     have hdi := hp24_4
     have hlS := hRt.len
     refine zz 5 ?_
     refine zo 1 A24 ?_
     refine zz 1 ?_
     refine zi (b := b0) (off := off0) (len := m.states.length) (cap := cs) (kd := .i64) (i := (t : Int)) 1 (off0 + t) ?_
     have hc2_ := hc1_.trans j24
     refine zl ((hAs1.mono hc2_)).cells ?_
     refine zz 1 ?_
     refine zi (b := b9a) (off := off9a) (len := sx.length) (cap := cx) (kd := .i64) (i := (ka : Int)) 4 (off9a + ka * 4) ?_
     refine zz 1 ?_
     refine zl ((hAa3.mono hc2_)).cells ?_
     refine zz 4 ?_
     refine zt 74 (p := (i : Int) < (xa.next.length : Int)) (fun ht25 => ?_) (fun ht25 => ?_)
     ·
      obtain ⟨bo, offo, rfl⟩ := hx.addr (by omega)
      obtain ⟨ox, anx, lnx, cnx, amx, lmx, cmx, hxx, hAx, hLx, hMx⟩ := hx.at (k := i) (by omega)
      have hAxt := At.tl hAx
      have hAx0 := hAx.one (i := 0) rfl
      have hto1 := m_range hm0 (List.mem_of_getElem? hxs) (List.mem_of_getElem? hxa) (List.mem_of_getElem? hxx)
      refine zz 8 ?_
      refine zo 1 A24 ?_
      refine zz 1 ?_
      refine zi (b := b0) (off := off0) (len := m.states.length) (cap := cs) (kd := .i64) (i := (t : Int)) 1 (off0 + t) ?_
      refine zl ((hAs1.mono hc2_)).cells ?_
      refine zz 1 ?_
      refine zi (b := b9a) (off := off9a) (len := sx.length) (cap := cx) (kd := .i64) (i := (ka : Int)) 4 (off9a + ka * 4) ?_
      refine zz 1 ?_
      refine zl ((hAa3.mono hc2_)).cells ?_
      refine zz 1 ?_
      refine zi (b := bo) (off := offo) (len := xa.next.length) (cap := a9a) (kd := .i64) (i := (i : Int)) 4 (offo + i * 4) ?_
      refine zz 1 ?_
      refine zl ((hAx0.mono hc2_)).cells ?_
      refine zi (b := gS) (off := 0) (len := m.states.length) (cap := m.states.length) (kd := .i64) (i := ox.to) 1 ox.to.toNat ?_
      refine zxB 0 (k := ox.to.toNat) A24 rfl (by rw [hRt.len]; omega) ?_
      intro w27 A27 j27
      refine zz 6 ?_
      refine zw 76 (x := (i : Int) + 1) ?_
      refine zz 2 ?_
      have hsx1 := List.mem_of_getElem? hxs
      refine znext (fun a h => G24 (i + 1) _ a h ⟨_, (S3.set ox.to.toNat true), A27, (Le2 j24 j27), hRt.set (by omega) hit (by rw [getD_get hxs]; exact List.mem_of_getElem? hxa) (List.mem_of_getElem? hxx) hto1, by omega, inB_set hit, fun x hx o ho => inB_set (hda x hx o ho), by rw [take_snoc hxx]; intro o ho; rcases List.mem_append.1 ho with h1 | h1; exact inB_set (hdi o h1); obtain rfl := List.mem_singleton.1 h1; exact inB_self (by rw [hlS]; omega)⟩ ?_)
      first | omega | (simp <;> omega)
     refine zz 10 ?_
     refine zw 62 (x := (ka : Int) + 1) ?_
     refine zz 2 ?_
     refine znext (fun a h => G20 (ka + 1) _ a h ⟨_, S3, A24, (Le2 j20 j24), hRt, by omega, .inr hit, by rw [take_snoc hxa]; intro x hx; rcases List.mem_append.1 hx with h1 | h1; exact hda x h1; obtain rfl := List.mem_singleton.1 h1; intro o ho; exact hdi o (by rw [List.take_of_length_le (by omega)]; exact ho)⟩ ?_)
     first | omega | (simp <;> omega)
    have ht28 : (S2.getD t false) = false := by simpa using hc22
    refine zz 10 ?_
    refine zw 46 (x := (t : Int) + 1) ?_
    refine zz 2 ?_
    refine znext (fun a h => G18 (t + 1) _ a h ⟨_, S2, A20, (Le2 j18 j20), hRt.next (by rw [getD_get hxs]; exact fun h0 => absurd (hRt.up _ h0) (by unfold inB; simpa using ht28)), by omega⟩ ?_)
    first | omega | (simp <;> omega)
   refine zz 17 ?_
   refine zw 46 (x := (t : Int) + 1) ?_
   refine zz 2 ?_
   refine znext (fun a h => G18 (t + 1) _ a h ⟨_, S2, A20, (Le2 j18 j20), hRt.next (by rw [getD_get hxs]; exact fun _ x hx => hda x (by rw [List.take_of_length_le (by omega)]; exact hx)), by omega⟩ ?_)
   first | omega | (simp <;> omega)
  refine zz 10 ?_
  refine zw 40 (x := (r : Int) + 1) ?_
  refine zz 2 ?_
  refine znext (fun a h => G16 (r + 1) _ a h ⟨_, S1, A18, (Le2 j16 j18), hRr.round hto hs0 (show Rt m S0 S1 m.states.length from (show t = m.states.length by omega) ▸ hRt), by omega⟩ ?_)
  first | omega | (simp <;> omega)
 have hfin : Rr m s S0 m.states.length := (show r = m.states.length by omega) ▸ hRr
 refine zz 18 ?_
 refine zlp Tryz.f28 [K16] [1, 1, 1, 1, 1, 1, 1, 1, 0, 1, 0] (fun ((q, adr, mr, capr) : Nat × (Option Addr) × Nat × Nat) => [(7, .slice (some ⟨gS, 0, none⟩) m.states.length m.states.length), (12, .slice adr mr capr), (13, .int .i64 (q : Int))]) (fun ((q, adr, mr, capr) : Nat × (Option Addr) × Nat × Nat) w1 => ∃ (Y1 : Hid) (rb1 : List (Nat × Obj)), St E0 w X w1 Y1 ((gS, .cells (bvals S0) 4 (0, 0)) :: (b3, .cells #[.bool m.disc.neg, .slice ad len cap, .slice ae le ce, .slice st m.states.length cs] 28 (0, 0)) :: rb1) ∧ Le (rd w16 Y16) (rd w1 Y1) ∧ (TRow 3 1 rb1 adr mr capr (ivals (outL S0 q))) ∧ (mr = (outL S0 q).length) ∧ (mr ≤ q) ∧ (q ≤ m.states.length)) (fun ((q, adr, mr, capr) : Nat × (Option Addr) × Nat × Nat) => m.states.length - q) (0, none, 0, 0) ?_ ?_
 ·
  refine ⟨_, [], A16, Le.refl _, TRow.nil _ _, rfl, Nat.zero_le _, Nat.zero_le _⟩
 rintro ⟨q, adr, mr, capr⟩ w29 K29 G29 ⟨Y29, rb1, A29, j29, hp29_0, hp29_1, hp29_2, hp29_3⟩
 have hr1 := hp29_0
 have hmr := hp29_1
 have hml := hp29_2
 have hkq := hp29_3
 refine zz 9 ?_
 refine zt 95 (p := (q : Int) < (m.states.length : Int)) (fun ht30 => ?_) (fun ht30 => ?_)
 ·
  refine zz 9 ?_
  refine zi (b := gS) (off := 0) (len := m.states.length) (cap := m.states.length) (kd := .i64) (i := (q : Int)) 1 q ?_
  refine zl (A29.boolCells (k := q) 0 rfl (by rw [hRr.len]; omega)) ?_
  refine zz 2 ?_
  refine zb 101 (b := (S0.getD q false)) (fun hc31 => ?_) (fun hc31 => ?_)
  ·
   have ht32 : (S0.getD q false) = true := by simpa using hc31
   refine zz 4 ?_
   refine zn (fun b => .slice (some ⟨b, 0, none⟩) 1 1) (.cells #[.int .i64 (q : Int)] 3 (0, 0)) A29 ?_
   intro b34 w34 Y34 A34 j34 hu34
   refine zop (at1 [K16, K29] Tryz.f28 [1, 1, 1, 1, 1, 1, 1, 1, 0, 1, 0, 0, 1, 0, 0, 1, 0]) 3 (fun a35 _ C35 hz35 => op_appEZ (b := 8) (m := 1) (c := 1) (ad := ⟨b34, 0, none⟩) (news := [.int .i64 (q : Int)]) (i0 := Tryz.t3) (R1 := []) 3 C35 A34 rfl hr1 (A34.cells 0 rfl rfl) (by omega) (by omega) ?_)
   intro rb36 ad36 cap36 w36 Y36 hrow36 A36 j36 a37 C37
   have hrw36 : TRow 3 1 rb36 ad36 (mr + 1) cap36 (ivals ((outL S0 q) ++ [(q : Int)])) := by rw [ivals_snoc]; exact hrow36
   refine hz35 C37 ?_
   refine zz 7 ?_
   refine zw 97 (x := (q : Int) + 1) ?_
   refine zz 2 ?_
   refine znext (fun a h => G29 ((q + 1, ad36, (mr + 1), cap36)) _ a h ⟨_, rb36, A36.tail, (Le3 j29 j34 j36), by rw [outL_step ht32]; exact hrw36, by rw [outL_step ht32, List.length_append, ← hmr]; rfl, by omega, by omega⟩ ?_)
   first | omega | (simp <;> omega)
  have ht38 : (S0.getD q false) = false := by simpa using hc31
  refine zz 7 ?_
  refine zw 97 (x := (q : Int) + 1) ?_
  refine zz 2 ?_
  refine znext (fun a h => G29 ((q + 1, adr, mr, capr)) _ a h ⟨_, rb1, A29, j29, by rw [outL_skip (by simpa using ht38)]; exact hr1, by rw [outL_skip (by simpa using ht38)]; exact hmr, by omega, by omega⟩ ?_)
  first | omega | (simp <;> omega)
 refine zz 14 ?_
 refine zr' (v := .tuple #[.slice adr mr capr, .int .i64 0]) ?_
 have hqn : q = m.states.length := by omega
 obtain ⟨Y39, hSx39, j39, hRx39⟩ := St.pubInts (A := [(gS, .cells (bvals S0) 4 (0, 0)), (b3, .cells #[.bool m.disc.neg, .slice ad len cap, .slice ae le ce, .slice st m.states.length cs] 28 (0, 0))]) (B := []) (fun rb => ((gS, .cells (bvals S0) 4 (0, 0)) :: (b3, .cells #[.bool m.disc.neg, .slice ad len cap, .slice ae le ce, .slice st m.states.length cs] 28 (0, 0)) :: rb)) A29 (fun _ => by simp only [List.append_assoc, List.cons_append, List.nil_append, List.append_nil]) hr1 hmr
 have A39 : St E0 w X w29 Y39 [(gS, .cells (bvals S0) 4 (0, 0)), (b3, .cells #[.bool m.disc.neg, .slice ad len cap, .slice ae le ce, .slice st m.states.length cs] 28 (0, 0))] := hSx39
 have hR39 : Ints (rd w29 Y39) adr mr capr (outL S0 q) := by have h9 := hRx39; exact h9
 exact ⟨A39.upd, _, rfl, _, _, _, _, _, rfl, hR39.mono A39.le, .inr (.inr ⟨hm0, hs0, by omega, rfl, hqn ▸ hfin.reached hto hs0 (by omega)⟩)⟩
end Go.Proofs.YtoocgllbbihoaaaGreat
namespace Go.Proofs.YtoocgllbbihoaaaGreat
open Go Go.Gv Go.RowKit
set_option maxRecDepth 100000
set_option maxHeartbeats 1000000
theorem lists_c (w : World) (X : Hid) (hX : ∀ k o, X k o → k < w.heap.size) (xs : List Raw) (ax : Option Addr) (lx cx : Nat) (hx : Rats (rd w X) ax lx cx xs) (ys : List Raw) (ay : Option Addr) (ly cy : Nat) (hy : Rats (rd w X) ay ly cy ys) (m : Mdp) (ad : Option Addr) (len cap : Nat) (h : Limbs (rd w X) ad len cap m.disc.ln) (ae : Option Addr) (le ce : Nat) (h2 : Limbs (rd w X) ae le ce m.disc.ld) (st : Option Addr) (ls cs : Nat) (hst : StatesR (rd w X) st ls cs m.states) (s : Int) : Calls Tryz.prog 4 #[.slice ax lx cx, .slice ay ly cy, .agg #[.bool m.disc.neg, .slice ad len cap, .slice ae le ce, .slice st ls cs], .int .i64 s] w (Ret E0 w fun _ u => u = .bool true) := by
 obtain rfl := hst.hlen
 have hcaps := hst.hcap
 have hbigs := hst.hbig
 obtain rfl := hx.hlen
 obtain rfl := hy.hlen
 have hcapx := hx.hcap
 have hbigx := hx.hbig
 have hcapy := hy.hcap
 have hbigy := hy.hbig
 refine zen Tryz.func4 ?_
 have A0 : St E0 w X w X [] := St.start hX
 refine zz 2 ?_
 refine zn pn (.cells #[.bool m.disc.neg, .slice ad len cap, .slice ae le ce, .slice st m.states.length cs] 28 (0, 0)) A0 ?_
 intro b3 w3 Y3 A3 j3 hu3
 refine zz 6 ?_
 refine zo 0 A3 ?_
 refine zc A3 (Long_c _ _ A3.lt m _ _ _ (h.mono j3) _ _ _ (h2.mono j3) _ _ _ (hst.mono j3)) ?_
 rintro v5 w5 A5 j5 hu5 ⟨bb5, rfl⟩
 refine zz 1 ?_
 refine zb 22 (b := bb5) (fun hc6 => ?_) (fun hc6 => ?_)
 ·
  have ht7 : bb5 = true := by simpa using hc6
  refine zz 12 ?_
  refine zc A5 (awake_c _ _ A5.lt) ?_
  rintro v9 w9 A9 j9 hu9 rfl
  refine zz 5 ?_
  refine zr' (v := .bool true) ?_
  exact ⟨A9.upd, _, rfl, rfl⟩
 have ht10 : bb5 = false := by simpa using hc6
 refine zz 1 ?_
 refine zc A5 (LongList_c _ _ A5.lt _ _ _ xs (hx.mono (Le2 j3 j5))) ?_
 rintro v12 w12 A12 j12 hu12 ⟨bb12, rfl, hbb12⟩
 refine zz 2 ?_
 refine zb 26 (b := bb12) (fun hc13 => ?_) (fun hc13 => ?_)
 ·
  have ht14 : bb12 = true := by simpa using hc13
  refine zz 8 ?_
  refine zc A12 (awake_c _ _ A12.lt) ?_
  rintro v16 w16 A16 j16 hu16 rfl
  refine zz 5 ?_
  refine zr' (v := .bool true) ?_
  exact ⟨A16.upd, _, rfl, rfl⟩
 have ht17 : bb12 = false := by simpa using hc13
 obtain ⟨h20xs, h200xs⟩ := hbb12 ht17
 have hvsxs : ∀ x ∈ xs, x.sh := fun x hx => by have := h200xs x hx; exact ⟨by omega, by omega⟩
 refine zz 1 ?_
 refine zc A12 (LongList_c _ _ A12.lt _ _ _ ys (hy.mono (Le3 j3 j5 j12))) ?_
 rintro v19 w19 A19 j19 hu19 ⟨bb19, rfl, hbb19⟩
 refine zz 3 ?_
 refine zb 29 (b := bb19) (fun hc20 => ?_) (fun hc20 => ?_)
 ·
  have ht21 : bb19 = true := by simpa using hc20
  refine zz 3 ?_
  refine zc A19 (awake_c _ _ A19.lt) ?_
  rintro v23 w23 A23 j23 hu23 rfl
  refine zz 5 ?_
  refine zr' (v := .bool true) ?_
  exact ⟨A23.upd, _, rfl, rfl⟩
 have ht24 : bb19 = false := by simpa using hc20
 obtain ⟨h20ys, h200ys⟩ := hbb19 ht24
 have hvsys : ∀ x ∈ ys, x.sh := fun x hx => by have := h200ys x hx; exact ⟨by omega, by omega⟩
 refine zz 6 ?_
 have hc1_ := (Le3 j3 j5 j12).trans j19
 refine zc A19 (CopyRats_c _ _ A19.lt _ _ _ xs (hx.mono hc1_) (by omega) hvsxs) ?_
 rintro v26 w26 A26 j26 hu26 ⟨ad26, len26, cap26, rfl, hN26⟩
 have hlc26 := hN26.hlen
 refine zz 1 ?_
 have hc2_ := hc1_.trans j26
 refine zc A26 (CopyRats_c _ _ A26.lt _ _ _ ys (hy.mono hc2_) (by omega) hvsys) ?_
 rintro v28 w28 A28 j28 hu28 ⟨ad28, len28, cap28, rfl, hN28⟩
 have hlc28 := hN28.hlen
 refine zz 8 ?_
 have hc3_ := hc2_.trans j28
 refine zc A28 (Distance21_c _ _ A28.lt _ _ _ xs (hx.mono hc3_) _ _ _ ys (hy.mono hc3_) (by omega) (by omega)) ?_
 rintro v30 w30 A30 j30 hu30 ⟨u30, rfl, ⟨ad30, len30, cap30, ae30, le30, ce30, rfl, hN30, hD30⟩⟩
 refine zz 3 ?_
 refine zn pn (.cells #[.bool false, .slice none 0 0, .slice none 0 0] 25 (0, 0)) A30 ?_
 intro b32 w32 Y32 A32 j32 hu32
 refine zx 0 #[.bool ((distV xs ys).1.neg), .slice ad30 len30 cap30, .slice ae30 le30 ce30] A32 ?_
 intro w33 A33 j33
 refine zz 5 ?_
 refine zo 1 A33 ?_
 refine zz 1 ?_
 have hc4_ := ((hc3_.trans j30).trans j32).trans j33
 refine zc A33 (Reach21_c _ _ A33.lt m _ _ _ (h.mono hc4_) _ _ _ (h2.mono hc4_) _ _ _ (hst.mono hc4_) s) ?_
 rintro v35 w35 A35 j35 hu35 ⟨ad35, len35, cap35, l35, e35, rfl, hI35, hV35⟩
 refine zz 14 ?_
 refine zlp Tryz.f4 [] [1, 1, 1, 1, 1, 0, 1, 0] (fun (k : Nat) => [(0, .slice ax xs.length cx), (1, .slice ay ys.length cy), (3, .int .i64 s), (6, .pointer (some ⟨b3, 0, none⟩)), (9, .slice ad26 len26 cap26), (10, .slice ad28 len28 cap28), (11, .pointer (some ⟨b32, 0, none⟩)), (12, .int .i64 ((distV xs ys).2)), (13, .slice ad35 len35 cap35), (14, .int .i64 e35), (15, .int .i64 (k : Int))]) (fun (k : Nat) w1 => ∃ (Y1 : Hid), St E0 w X w1 Y1 [(b32, .cells #[.bool ((distV xs ys).1.neg), .slice ad30 len30 cap30, .slice ae30 le30 ce30] 25 (0, 0)), (b3, .cells #[.bool m.disc.neg, .slice ad len cap, .slice ae le ce, .slice st m.states.length cs] 28 (0, 0))] ∧ Le (rd w35 Y32) (rd w1 Y1) ∧ (k ≤ 2)) (fun (k : Nat) => 2 - k) 0 ?_ ?_
 ·
  refine ⟨_, A35, Le.refl _, Nat.zero_le _⟩
 rintro k w36 K36 G36 ⟨Y36, A36, j36, hp36_0⟩
 refine zz 7 ?_
 refine zt 48 (p := (k : Int) < 2) (fun ht37 => ?_) (fun ht37 => ?_)
 ·
  refine zz 9 ?_
  have hc5_ := (Le5 j28 j30 j32 j33 j35).trans j36
  have hc6_ := (Le4 j30 j32 j33 j35).trans j36
  refine zc A36 (distance_c _ _ A36.lt _ _ _ xs (hN26.mono hc5_) _ _ _ ys (hN28.mono hc6_) (by omega) (by omega)) ?_
  rintro v39 w39 A39 j39 hu39 ⟨u39, rfl, ⟨ad39, len39, cap39, ae39, le39, ce39, rfl, hN39, hD39⟩⟩
  refine zz 3 ?_
  refine znS pn (.cells #[.bool false, .slice none 0 0, .slice none 0 0] 25 (0, 0)) A39 ?_
  intro b41 w41 Y41 A41 j41 hu41 hb41
  have hNb : w36.heap.size ≤ b41 := Nat.le_trans hu39.size hb41
  refine zx 0 #[.bool ((distV xs ys).1.neg), .slice ad39 len39 cap39, .slice ae39 le39 ce39] A41 ?_
  intro w42 A42 j42
  refine zz 5 ?_
  refine zo 2 A42 ?_
  refine zz 1 ?_
  have hc7_ := ((((hc4_.trans j35).trans j36).trans j39).trans j41).trans j42
  refine zc A42 (Reach_c _ _ A42.lt m _ _ _ (h.mono hc7_) _ _ _ (h2.mono hc7_) _ _ _ (hst.mono hc7_) s) ?_
  rintro v44 w44 A44 j44 hu44 ⟨ad44, len44, cap44, l44, e44, rfl, hI44, hV44⟩
  obtain ⟨rfl, rfl⟩ := And.intro (ReachV.eq hV35 hV44).1.symm (ReachV.eq hV35 hV44).2.symm
  refine zz 13 ?_
  refine zs 65 (v := .bool (((distV xs ys).2) != ((distV xs ys).2))) (v' := .bool false) (zK (by simp)) ?_
  refine zz 4 ?_
  refine zs 69 (v := .bool ((e35) != e35)) (v' := .bool false) (zK (by simp)) ?_
  refine zz 2 ?_
  refine zo 0 A44 ?_
  refine zo 1 A44 ?_
  have hc8_ := (Le7 j32 j33 j35 j36 j39 j41 j42).trans j44
  refine zc A44 (EqualRat_t _ _ A44.lt (distV xs ys).1 _ _ _ ((hN39.mono (Le.new A36.lt)).mono (Le3 j41 j42 j44)) _ _ _ ((hD39.mono (Le.new A36.lt)).mono (Le3 j41 j42 j44)) _ _ _ (hN30.mono hc8_) _ _ _ (hD30.mono hc8_)) ?_
  rintro v46 w46 A46 j46 hu46 rfl
  refine zz 1 ?_
  refine zs 75 (v := .bool false) (v' := .bool false) (zK (by simp)) ?_
  refine zz 4 ?_
  have hc9_ := (Le5 j36 j39 j41 j42 j44).trans j46
  refine zc A46 (EqualInts_t _ _ A46.lt _ _ _ l35 ((hI44.mono (Le.new A42.lt)).mono j46) _ _ _ (hI35.mono hc9_)) ?_
  rintro v48 w48 A48 j48 hu48 rfl
  refine zz 1 ?_
  refine zs 81 (v := .bool false) (v' := .bool false) (zK (by simp)) ?_
  refine zz 4 ?_
  have hc10_ := (((((hc5_.trans j39).trans j41).trans j42).trans j44).trans j46).trans j48
  have hc11_ := ((hc7_.trans j44).trans j46).trans j48
  refine zc A48 (EqualRats_t _ _ A48.lt _ _ _ xs (hN26.mono hc10_) _ _ _ (hx.mono hc11_)) ?_
  rintro v50 w50 A50 j50 hu50 rfl
  refine zz 1 ?_
  refine zs 87 (v := .bool false) (v' := .bool false) (zK (by simp)) ?_
  refine zz 4 ?_
  have hc12_ := ((((((hc6_.trans j39).trans j41).trans j42).trans j44).trans j46).trans j48).trans j50
  have hc13_ := hc11_.trans j50
  refine zc A50 (EqualRats_t _ _ A50.lt _ _ _ ys (hN28.mono hc12_) _ _ _ (hy.mono hc13_)) ?_
  rintro v52 w52 A52 j52 hu52 rfl
  refine zz 1 ?_
  refine zs 93 (v := .bool false) (v' := .bool false) (zK (by simp)) ?_
  refine zz 8 ?_
  refine zo 0 A52 ?_
  have hNc : w36.heap.size ≤ w52.heap.size := Nat.le_trans hNb (Nat.le_of_lt (A52.own_lt 0 rfl))
  have hOc := Ov.refl w36.heap.size w52
  have hc14_ := (Le6 j41 j42 j44 j46 j48 j50).trans j52
  refine zcF (OverRat_c _ w36.heap.size (Nat.le_trans hNc hOc.size) ((distV xs ys).1.neg) ad39 len39 cap39 ae39 le39 ce39 (UC.up ((hN39.mono (Le.own A36.lt (Nat.le_refl _) hc14_)).mono Le.orr).uc hOc) (UC.up ((hD39.mono (Le.own A36.lt (Nat.le_refl _) hc14_)).mono Le.orr).uc hOc) (Nat.le_trans ((hN39.mono (Le.own A36.lt (Nat.le_refl _) hc14_)).mono Le.orr).hcap ((hN39.mono (Le.own A36.lt (Nat.le_refl _) hc14_)).mono Le.orr).hbig) (Nat.le_trans ((hD39.mono (Le.own A36.lt (Nat.le_refl _) hc14_)).mono Le.orr).hcap ((hD39.mono (Le.own A36.lt (Nat.le_refl _) hc14_)).mono Le.orr).hbig)) ?_
  rintro v54 w54 ⟨rfl, hO54⟩
  have hOt54 := hOc.trans hO54
  refine zz 4 ?_
  have hc15_ := (Le3 j46 j48 j50).trans j52
  refine zcF (OverInts_c _ w36.heap.size (Nat.le_trans hNc hOt54.size) ad44 len44 cap44 (UC.up (Ints.uc ((hI44.mono (Le.own A42.lt (Nat.le_trans hNb (Nat.le_of_lt (A42.own_lt 0 rfl))) hc15_)).mono Le.orr)) hOt54) (Nat.le_trans (SlR.hcap ((hI44.mono (Le.own A42.lt (Nat.le_trans hNb (Nat.le_of_lt (A42.own_lt 0 rfl))) hc15_)).mono Le.orr)) (SlR.hbig ((hI44.mono (Le.own A42.lt (Nat.le_trans hNb (Nat.le_of_lt (A42.own_lt 0 rfl))) hc15_)).mono Le.orr)))) ?_
  rintro v56 w56 ⟨rfl, hO56⟩
  have hOt56 := hOt54.trans hO56
  refine zz 6 ?_
  refine zw 50 (x := (k : Int) + 1) ?_
  refine zz 2 ?_
  have hc16_ := (Le7 j39 j41 j42 j44 j46 j48 j50).trans j52
  obtain ⟨A57, j57⟩ := St.over A36 (A52.tail) hc16_ hNc hOt56
  refine znext (fun a h => G36 (k + 1) _ a h ⟨_, A57, (Le2 j36 j57), by omega⟩ ?_)
  first | omega | (simp <;> omega)
 refine zz 8 ?_
 refine zc A36 (awake_c _ _ A36.lt) ?_
 rintro v59 w59 A59 j59 hu59 rfl
 refine zz 4 ?_
 refine zr' (v := .bool true) ?_
 exact ⟨A59.upd, _, rfl, rfl⟩
end Go.Proofs.YtoocgllbbihoaaaGreat
namespace Go.Proofs.YtoocgllbbihoaaaGreat
open Go Go.Gv Go.ChangeShapes Go.WideShapes Go.ChangeAt Go.RowKit
theorem own_mdpLists : ownKnob Tryz.prog.godebug = Option.none := by kernel_rfl
theorem laidOut_mdpLists : laidOutB Tryz.prog = true := by kernel_rfl
set_option maxRecDepth 100000 in
theorem mdpLists_lifted (os : Os) (started : os.Started) (H : Type) (enc : TypeId × Value → H) :
    ReturnsInHanded {} Tryz.checked os 4 .any (Rows.mdpListsSpec.pre6 enc Tryz.prog Tryz.f4 Rows.mdpListsRow.domain false) (Rows.mdpListsSpec.post enc Tryz.prog Tryz.f4 false true false false) := by
  refine returnsInHanded_of_change_sized (C := Tryz.checked) own_mdpLists started (by kernel_rfl) Tryz.func4
    (ChangeSpec.witness6 (enc := enc) (C := Tryz.checked) false ⟨#[], #[.slice none 0 0, .slice none 0 0, .agg #[.bool false, .slice none 0 0, .slice none 0 0, .slice none 0 0], .int .i64 0], []⟩ 8 (by kernel_rfl) (by kernel_rfl) (by kernel_rfl) (by kernel_rfl)) ?_
  intro W base args ds gs before hval0 hW hcnd hwt _
  have hval : ∀ (j : Nat) t v, Tryz.f4.params[j]? = some t → args[j]? = some v → Value.okWide Tryz.prog W .any base t v := hval0
  have hW' := hW
  obtain ⟨p, q, hA0, hV, rfl, hfz, hnd⟩ := hW
  have hA : DataW.TrodAll enc Tryz.prog W 0 (fun _ => true) true Tryz.f4.params.toList args.toList ds p := hA0
  rw [Tryz.params4] at hA hval
  obtain ⟨v0, v1, v2, v3, d0, d1, d2, d3, p0, p1, p2, p3, rfl, rfl, rfl, h0, h1, h2, h3⟩ := trodAll_four hA
  obtain ⟨rfl, rfl⟩ := trodVars_none hV
  have h0k := h0
  obtain ⟨ad0, len0, cap0, xs0, rfl, g0, s0⟩ := open_arats (hval 0 29 v0 rfl rfl) h0 (fun b off hm => hfz b off (by simp [hm])) (fun n hn => of_decide_eq_true (List.all_eq_true.1 hwt n (DataW.weights_mem_each (j := 0) (t := 29) (d := d0) (by kernel_rfl) rfl n hn)))
  have h1k := h1
  obtain ⟨ad1, len1, cap1, xs1, rfl, g1, s1⟩ := open_arats (hval 1 29 v1 rfl rfl) h1 (fun b off hm => hfz b off (by simp [hm])) (fun n hn => of_decide_eq_true (List.all_eq_true.1 hwt n (DataW.weights_mem_each (j := 1) (t := 29) (d := d1) (by kernel_rfl) rfl n hn)))
  have h2k := h2
  obtain ⟨m2, a1_2, a2_2, a3_2, a4_2, a5_2, a6_2, a7_2, a8_2, a9_2, rfl, g1_2, g2_2, g3_2, s2⟩ := open_mdp (hval 2 28 v2 rfl rfl) h2 (fun b off hm => hfz b off (by simp [hm])) (fun n hn => of_decide_eq_true (List.all_eq_true.1 hwt n (DataW.weights_mem_each (j := 2) (t := 28) (d := d2) (by kernel_rfl) rfl n hn)))
  have h3k := h3
  obtain ⟨z3, rfl, rfl, rfl, wz3⟩ := open_int Tryz.underlying3 (hval 3 3 v3 rfl rfl) h3
  clear hA0 hval0
  simp only [List.append_nil] at hW'
  refine (lists_c W X0 (X0_lt _) xs0 _ _ _ g0 xs1 _ _ _ g1 m2 _ _ _ g1_2 _ _ _ g2_2 _ _ _ g3_2 z3 ).mono ?_
  rintro e W' ⟨hu, v, rfl, rfl⟩
  have hb := Upd.below hu
  exact ⟨_, rfl, _, _, _, [] ++ [], _, [], hW', trodAll_mk1 (shut_bool (by kernel_rfl) true), trodAll_mk4 (Below.trod laidOut_mdpLists (by kernel_rfl) (of_decide_eq_true (by kernel_rfl)) h0k hb (fun x hx => by simpa using hW'.lt x (by simp [hx]))) (Below.trod laidOut_mdpLists (by kernel_rfl) (of_decide_eq_true (by kernel_rfl)) h1k hb (fun x hx => by simpa using hW'.lt x (by simp [hx]))) (Below.trod laidOut_mdpLists (by kernel_rfl) (of_decide_eq_true (by kernel_rfl)) h2k hb (fun x hx => by simpa using hW'.lt x (by simp [hx]))) (shut_int Tryz.underlying3 wz3), rfl, hb.frame _, fun h => by cases h⟩
theorem mdpLists_holds : Rows.MdpListsSaid :=
  OpenClaim.holds_of_wide 4 Tryz.f4 rfl rfl rfl rfl rfl rfl rfl ⟨rfl, rfl, rfl, rfl, rfl⟩ rfl rfl rfl rfl rfl (by kernel_rfl) Tryz.func4 (by kernel_rfl)
    (of_decide_eq_true (by kernel_rfl)) (by unfold Func.isWrapper; first | (rw [if_pos (by decide +kernel)]; kernel_rfl) | (rw [if_neg (by decide +kernel)]; exact ⟨rfl, rfl⟩))
    (fun os started H enc _ => mdpLists_lifted os started H enc)
end Go.Proofs.YtoocgllbbihoaaaGreat

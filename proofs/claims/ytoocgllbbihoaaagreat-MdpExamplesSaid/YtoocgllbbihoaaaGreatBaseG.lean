/- Parts of the proof: GwD FO. By an AI agent. -/
import Derived.ProofKit
import Derived.SizedLaws
import Derived.Test.YtoocgllbbihoaaaGreatBaseA
import Derived.Test.YtoocgllbbihoaaaGreatBaseB
import Derived.Test.YtoocgllbbihoaaaGreatBaseC
import Derived.Test.YtoocgllbbihoaaaGreatBaseD
import Derived.Test.YtoocgllbbihoaaaGreatBaseE
import Derived.Test.YtoocgllbbihoaaaGreatBaseF
set_option linter.unusedVariables false
set_option linter.unusedSimpArgs false
set_option linter.unnecessarySimpa false
/- Arguments as a statement lays them, opened as what is read. By an AI agent; over any program. -/
namespace Go.Gv
open Go.RowKit Go.ChangeShapes
theorem mapM_get {α β : Type} {f : α → Option β} : ∀ {l : List α} {cs : List β}, l.mapM f = some cs → cs.length = l.length ∧ ∀ (j : Nat) (a : α), l[j]? = some a → f a = cs[j]?
  | [], cs, h => by
    simp at h; subst h; simp
  | a :: l, cs, h => by
    rw [List.mapM_cons] at h
    cases hf : f a with
    | none => rw [hf] at h; cases h
    | some b =>
      rw [hf] at h
      cases hm : l.mapM f with
      | none => rw [hm] at h; cases h
      | some bs =>
        rw [hm] at h
        obtain rfl : b :: bs = cs := by simpa using h
        obtain ⟨h1, h2⟩ := mapM_get hm
        refine ⟨by simp [h1], fun j c hj => ?_⟩
        rcases j with _ | j
        · simp at hj; subst hj; simpa using hf
        · simpa using h2 j c (by simpa using hj)
theorem cells_get {w : World} {a : Addr} {n : Nat} {cs : List Value} (h : w.cells? 0 a n = some cs) : cs.length = n ∧ ∀ j, j < n → w.cell? (a.add j) = cs[j]? := by
  unfold World.cells? at h
  rw [if_pos (Nat.zero_le _)] at h
  obtain ⟨h1, h2⟩ := mapM_get h
  rw [List.length_range] at h1
  exact ⟨h1, fun j hj => h2 j j (by simp [hj])⟩
theorem list_of {α : Type} {p : Nat → α → Prop} : ∀ (n : Nat), (∀ i, i < n → ∃ x, p i x) → ∃ l : List α, l.length = n ∧ ∀ i x, l[i]? = some x → p i x
  | 0, _ => ⟨[], rfl, fun i x h => by simp at h⟩
  | n + 1, h => by
    obtain ⟨l, h1, h2⟩ := list_of n (fun i hi => h i (by omega))
    obtain ⟨x, hx⟩ := h n (by omega)
    refine ⟨l ++ [x], by simp [h1], fun i y hi => ?_⟩
    rcases Nat.lt_or_ge i n with hlt | hge
    · rw [List.getElem?_append_left (by omega)] at hi
      exact h2 i y hi
    · rw [List.getElem?_append_right (by omega)] at hi
      have hlt := (List.getElem?_eq_some_iff.1 hi).1
      simp at hlt
      have : i = n := by omega
      subst this
      rw [h1] at hi
      simp at hi
      exact hi ▸ hx
section
variable {H : Type} {enc : TypeId × Value → H} {P : Program} {w : World} {spare : Nat → Bool} {held : Bool}
/-- An argument that is read whole, none of it frozen, none of it too long. -/
def TrodZ (enc : TypeId × Value → H) (P : Program) (w : World) (spare : Nat → Bool) (held : Bool) (n : Nat) (t : TypeId) (cs : List Value) (y : DataW H × List MemPlace) : Prop := DataW.trod enc P w 0 spare held n t cs = some y ∧ w.noneFrozen y.2 ∧ ∀ n ∈ y.1.weights P t, n ≤ 140737488351232
theorem wAll {e : TypeId} {d : DataW H} {n : Nat} (hn : n ∈ d.weights P e) : ∀ {l : List (DataW H)}, d ∈ l → n ∈ DataW.weightsAll P e l
  | x :: l, h => by
    rw [DataW.weightsAll, List.mem_append]
    rcases List.mem_cons.1 h with rfl | h
    · exact .inl hn
    · exact .inr (wAll hn h)
theorem fld {t : TypeId} {fs : Array Field} {f : Field} {fuel size : Nat} {cs : List Value} {x : DataW H × List MemPlace} (ht : P.underlying t = some (.struct fs)) (h : TrodZ enc P w spare held fuel t cs x) (i : Nat) (hi : fs[i]? = some f) (hs : P.cellsOf f.type = size) :
    ∃ n y, TrodZ enc P w spare held n f.type ((cs.drop f.offset).take size) y := by
  obtain ⟨xs, n, _, hx, _, hl, hf⟩ := DataW.trod_struct ht h.1
  have hlt : i < fs.size := (Array.getElem?_eq_some_iff.1 hi).1
  have := hf i f hi
  rw [hs] at this
  refine ⟨n, xs[i]'(by omega), this.trans (List.getElem?_eq_getElem _), fun b off hm => h.2.1 b off ?_, fun k hk => h.2.2 k ?_⟩
  · rw [hx]
    exact List.mem_flatMap.2 ⟨_, List.getElem_mem _, hm⟩
  · rw [hx]
    simp only [DataW.weights, ht]
    exact DataW.weights_mem_each (j := i) (t := f.type) (d := (xs[i]'(by omega)).1) (by rw [List.getElem?_map, Array.getElem?_toList, hi]; rfl) (by rw [List.getElem?_map, List.getElem?_eq_getElem (by omega)]; rfl) k hk
theorem flen {t : TypeId} {fs : Array Field} {fuel size : Nat} {cs : List Value} {x : DataW H × List MemPlace} (ht : P.underlying t = some (.struct fs)) (h : TrodZ enc P w spare held fuel t cs x) (hs : P.cellsOf t = size) : cs.length = size := by
  obtain ⟨xs, n, _, _, h1, _⟩ := DataW.trod_struct ht h.1
  rw [h1, hs]
def OpenEl (enc : TypeId × Value → H) (P : Program) (w : World) (spare : Nat → Bool) (held : Bool) {α : Type} (e : TypeId) (size : Nat) (El : Rd → Addr → α → Prop) : Prop :=
  ∀ (n : Nat) (cs : List Value) (y : DataW H × List MemPlace) (b off : Nat), TrodZ enc P w spare held n e cs y → cs.length = size → At (rd w X0) ⟨b, off, none⟩ cs → ∃ x, El (rd w X0) ⟨b, off, none⟩ x
/-- A slice, opened by its elements. -/
theorem open_sl {α : Type} {El : Rd → Addr → α → Prop} {t e : TypeId} {size fuel bts : Nat} {cs : List Value} {x : DataW H × List MemPlace} (ht : P.underlying t = some (.slice e)) (hs : P.cellsOf e = size) (h0 : 0 < size) (hb : P.bytesOf e = bts) (hel : OpenEl enc P w spare held e size El)
    (h : TrodZ enc P w spare held fuel t cs x) : ∃ ad len cap xs, cs = [.slice ad len cap] ∧ SlR El size (rd w X0) ad len cap xs ∧ xs.length * bts ≤ 140737488351232 := by
  rcases DataW.trod_slice ht h.1 with ⟨rfl, _⟩ | ⟨a, len, cap, elems, rest, n, _, rfl, hx, _, hl, hm, hlen, hels, _, _⟩
  · exact ⟨none, 0, 0, [], rfl, ⟨rfl, Nat.le_refl _, by omega, .inl rfl⟩, by simp⟩
  · rw [hs] at hels
    have hm' : cap ≤ 9223372036854775807 := by simpa [maxLen] using hm
    have each : ∀ i, i < len → ∃ ci yi, w.cells? 0 (a.add (i * size)) size = some ci ∧ TrodZ enc P w spare held n e ci yi := fun i hi => by
      have h1 := hels i hi
      rw [List.getElem?_eq_getElem (by omega)] at h1
      refine Option.bind_eq_some_iff.1 h1 |>.imp fun ci hci => ⟨_, hci.1, hci.2, fun b off hm => h.2.1 b off ?_, fun k hk => h.2.2 k ?_⟩
      · rw [hx]
        exact List.mem_append_right _ (List.mem_flatMap.2 ⟨_, List.mem_append_left _ (List.getElem_mem _), hm⟩)
      · rw [hx]
        simp only [DataW.weights, ht]
        exact List.mem_cons_of_mem _ (List.mem_append_left _ (wAll hk (List.mem_map_of_mem (List.getElem_mem _))))
    have hlong : len * bts ≤ 140737488351232 := by
      have h1 := h.2.2 ((elems.length + rest.length) * P.bytesOf e) (by rw [hx]; simp only [DataW.weights, ht, List.length_map]; exact List.mem_cons_self)
      rw [hb] at h1
      exact Nat.le_trans (Nat.mul_le_mul_right _ (by omega)) h1
    have thaw : ∀ k, k < len * size → w.frozen? ⟨a.block, a.off + k, none⟩ = false := fun k hk => h.2.1 _ _ (by
      rw [hx]
      refine List.mem_append_left _ (List.mem_map.2 ⟨k, List.mem_range.2 ?_, rfl⟩)
      rw [hs]
      exact Nat.lt_of_lt_of_le hk (Nat.mul_le_mul_right _ (by omega)))
    rcases Nat.eq_zero_or_pos len with rfl | hpos
    · exact ⟨some a, 0, cap, [], rfl, ⟨rfl, Nat.zero_le _, hm', .inl rfl⟩, by simp⟩
    · have hsp : a.spot = none := by
        obtain ⟨ci, yi, h1, _⟩ := each 0 hpos
        obtain ⟨hcl, hc⟩ := cells_get h1
        have h2 := hc 0 h0
        rw [List.getElem?_eq_getElem (by omega)] at h2
        simp only [Nat.zero_mul, Addr.add, if_true] at h2
        unfold World.cell? at h2
        split at h2
        · split at h2
          · cases h2
          · rename_i h3; cases hh : a.spot <;> simp_all
        · cases h2
      obtain ⟨b, off, sp⟩ := a
      simp only at hsp; subst hsp
      obtain ⟨xs, hx1, hx2⟩ := list_of (p := fun i x => El (rd w X0) ⟨b, off + i * size, none⟩ x) len (fun i hi => by
        obtain ⟨ci, yi, h1, h2⟩ := each i hi
        rw [add_mk] at h1
        obtain ⟨hcl, hc⟩ := cells_get h1
        refine hel n ci yi b _ h2 hcl (fun j v hj => ?_)
        have hj' : j < size := by have := (List.getElem?_eq_some_iff.1 hj).1; omega
        refine rd_of ((hc j hj').trans hj) (fun h => h.elim) ?_
        rw [add_mk, Nat.add_assoc]
        refine thaw (i * size + j) ?_
        have h3 : (i + 1) * size ≤ len * size := Nat.mul_le_mul_right _ hi
        rw [Nat.add_mul, Nat.one_mul] at h3
        omega)
      exact ⟨_, len, cap, xs, rfl, ⟨hx1.symm, hl, hm', .inr ⟨b, off, rfl, hx2⟩⟩, by rw [hx1]; exact hlong⟩
theorem SlR.split {α : Type} {El : Rd → Addr → α → Prop} {S : α → Prop} {size : Nat} {r : Rd} {ad : Option Addr} {len cap : Nat} {xs : List α} (h : SlR (fun r a x => El r a x ∧ S x) size r ad len cap xs) : SlR El size r ad len cap xs ∧ ∀ x ∈ xs, S x := by
  refine ⟨⟨h.hlen, h.hcap, h.hbig, h.hat.imp id fun ⟨b, off, e, ha⟩ => ⟨b, off, e, fun i x hi => (ha i x hi).1⟩⟩, fun x hx => ?_⟩
  rcases h.hat with rfl | ⟨b, off, _, ha⟩
  · cases hx
  · obtain ⟨i, hi⟩ := List.getElem?_of_mem hx
    exact (ha i x hi).2
def LimbAt (r : Rd) (a : Addr) (x : Nat) : Prop := At r a [.int .u32 (x : Int)] ∧ x < 4294967296
theorem open_limb {e : TypeId} (he : P.underlying e = some (.int .u32)) : OpenEl enc P w spare held e 1 LimbAt := fun n cs y b off h _ hat => by
  obtain ⟨z, rfl, _, hw⟩ := DataW.trod_int he h.1
  have hz : 0 ≤ z ∧ z < 4294967296 := by
    simp [Lit.wf, IntKind.min, IntKind.max, IntKind.signed, IntKind.bits] at hw
    omega
  exact ⟨z.toNat, by rwa [Int.toNat_of_nonneg hz.1], by omega⟩
theorem open_intEl {e : TypeId} (he : P.underlying e = some (.int .i64)) : OpenEl enc P w spare held e 1 IntAt := fun n cs y b off h _ hat => by
  obtain ⟨z, rfl, _, hw⟩ := DataW.trod_int he h.1
  exact ⟨z, hat⟩
theorem SlR.limbs {r : Rd} {ad : Option Addr} {len cap : Nat} {xs : List Nat} (h : SlR LimbAt 1 r ad len cap xs) : Limbs r ad len cap xs := by
  refine ⟨h.hlen, h.hcap, h.hbig, fun x hx => ?_, ?_⟩
  · rcases h.hat with rfl | ⟨b, off, _, ha⟩
    · cases hx
    · obtain ⟨i, hi, rfl⟩ := List.getElem_of_mem hx
      exact (ha i _ (List.getElem?_eq_getElem hi)).2
  · refine h.hat.imp id fun ⟨b, off, e, ha⟩ => ⟨b, off, e, fun j v hj => ?_⟩
    simp only [U32, List.getElem?_map] at hj
    cases hx : xs[j]? with
    | none => rw [hx] at hj; cases hj
    | some x =>
      rw [hx] at hj
      obtain rfl : Value.int .u32 (x : Int) = v := by simpa using hj
      have := (ha j x hx).1 0 _ rfl
      rw [add_mk, Nat.mul_one, Nat.add_zero] at this
      rw [add_mk]; exact this
end
end Go.Gv
namespace Go.Proofs.YtoocgllbbihoaaaGreat
open Go Go.Gv Go.RowKit
set_option maxRecDepth 100000
set_option maxHeartbeats 1000000
open Go.ChangeShapes
section
variable {H : Type} {enc : TypeId × Value → H} {w : World} {spare : Nat → Bool} {held : Bool}
theorem l3 {cs : List Value} (h : cs.length = 3) : ∃ a b c, cs = [a, b, c] := by
  match cs, h with
  | [a, b, c], _ => exact ⟨a, b, c, rfl⟩
theorem l4 {cs : List Value} (h : cs.length = 4) : ∃ a b c d, cs = [a, b, c, d] := by
  match cs, h with
  | [a, b, c, d], _ => exact ⟨a, b, c, d, rfl⟩
theorem open_nat {n : Nat} {cs : List Value} {y : DataW H × List MemPlace} (h : TrodZ enc Tryz.prog w spare held n 23 cs y) : ∃ ad len cap l, cs = [.slice ad len cap] ∧ Limbs (rd w X0) ad len cap l ∧ l.length * 4 ≤ 140737488351232 := by
  obtain ⟨ad, len, cap, xs, e, hx, hl⟩ := open_sl (bts := 4) Tryz.underlying23 kr (by omega) kr (open_limb Tryz.underlying124) h
  exact ⟨ad, len, cap, xs, e, hx.limbs, hl⟩
theorem open_rat {n : Nat} {cs : List Value} {y : DataW H × List MemPlace} (h : TrodZ enc Tryz.prog w spare held n 25 cs y) : ∃ (x : Raw) (a1 : Option Addr) (a2 a3 : Nat) (a4 : Option Addr) (a5 a6 : Nat), cs = [.bool x.neg, .slice a1 a2 a3, .slice a4 a5 a6] ∧ Limbs (rd w X0) a1 a2 a3 x.ln ∧ Limbs (rd w X0) a4 a5 a6 x.ld ∧ x.sh := by
  obtain ⟨c0, c1, c2, rfl⟩ := l3 (flen (size := 3) Tryz.underlying25 h kr)
  obtain ⟨n0, y0, h0⟩ := fld (size := 1) Tryz.underlying25 h 0 rfl kr
  obtain ⟨n1, y1, h1⟩ := fld (size := 1) Tryz.underlying25 h 1 rfl kr
  obtain ⟨n2, y2, h2⟩ := fld (size := 1) Tryz.underlying25 h 2 rfl kr
  obtain ⟨b, e0, _⟩ := DataW.trod_bool Tryz.underlying4 h0.1
  obtain ⟨a1, a2, a3, l, e1, g1, s1⟩ := open_nat h1
  obtain ⟨a4, a5, a6, l', e2, g2, s2⟩ := open_nat h2
  obtain rfl : c0 = .bool b := by simpa using e0
  obtain rfl : c1 = .slice a1 a2 a3 := by simpa using e1
  obtain rfl : c2 = .slice a4 a5 a6 := by simpa using e2
  exact ⟨⟨b, l, l'⟩, a1, a2, a3, a4, a5, a6, rfl, g1, g2, s1, s2⟩
theorem open_ratEl : OpenEl enc Tryz.prog w spare held 25 3 (fun r a x => RatAt r a x ∧ x.sh) := fun n cs y b off h _ hat => by
  obtain ⟨x, a1, a2, a3, a4, a5, a6, rfl, h1, h2, hs⟩ := open_rat h
  exact ⟨x, ⟨a1, a2, a3, a4, a5, a6, hat, h1, h2⟩, hs⟩
theorem open_out : OpenEl enc Tryz.prog w spare held 60 4 (fun r a x => OutAt r a x ∧ x.sh) := fun n cs y b off h hl hat => by
  obtain ⟨c0, c1, c2, c3, rfl⟩ := l4 hl
  obtain ⟨n0, y0, h0⟩ := fld (size := 1) Tryz.underlying60 h 0 rfl kr
  obtain ⟨n1, y1, h1⟩ := fld (size := 3) Tryz.underlying60 h 1 rfl kr
  obtain ⟨z, e0, _⟩ := DataW.trod_int Tryz.underlying3 h0.1
  obtain ⟨x, a1, a2, a3, a4, a5, a6, e1, g1, g2, hs⟩ := open_rat h1
  obtain rfl : c0 = .int .i64 z := by simpa using e0
  have e1' : [c1, c2, c3] = [.bool x.neg, .slice a1 a2 a3, .slice a4 a5 a6] := e1
  simp only [List.cons.injEq, and_true] at e1'
  obtain ⟨rfl, rfl, rfl⟩ := e1'
  exact ⟨⟨z, x⟩, ⟨a1, a2, a3, a4, a5, a6, hat, g1, g2⟩, hs⟩
theorem open_act : OpenEl enc Tryz.prog w spare held 63 4 (fun r a x => ActAt r a x ∧ x.sh) := fun n cs y b off h hl hat => by
  obtain ⟨c0, c1, c2, c3, rfl⟩ := l4 hl
  obtain ⟨n0, y0, h0⟩ := fld (size := 3) Tryz.underlying63 h 0 rfl kr
  obtain ⟨n1, y1, h1⟩ := fld (size := 1) Tryz.underlying63 h 1 rfl kr
  obtain ⟨x, a1, a2, a3, a4, a5, a6, e0, g1, g2, hs⟩ := open_rat h0
  obtain ⟨a7, a8, a9, xs, e1, g3, hn⟩ := open_sl (bts := 64) Tryz.underlying61 kr (by omega) kr open_out h1
  have e0' : [c0, c1, c2] = [.bool x.neg, .slice a1 a2 a3, .slice a4 a5 a6] := e0
  simp only [List.cons.injEq, and_true] at e0'
  obtain ⟨rfl, rfl, rfl⟩ := e0'
  obtain rfl : c3 = .slice a7 a8 a9 := by simpa using e1
  exact ⟨⟨x, xs⟩, ⟨a1, a2, a3, a4, a5, a6, a7, a8, a9, hat, g1, g2, g3.split.1⟩, hs, hn, g3.split.2⟩
theorem open_state : OpenEl enc Tryz.prog w spare held 64 1 (fun r a x => StateAt r a x ∧ stSh x) := fun n cs y b off h _ hat => by
  obtain ⟨a1, a2, a3, xs, rfl, g, hn⟩ := open_sl (bts := 80) Tryz.underlying64 kr (by omega) kr open_act h
  exact ⟨xs, ⟨a1, a2, a3, hat, g.split.1⟩, hn, g.split.2⟩
/-- A process that comes in. -/
theorem open_mdp {v : Value} {d : DataW H} {ps : List MemPlace} {r : Reach} {base : Nat} (hok : Value.okWide Tryz.prog w r base 28 v) (h : DataW.Trod enc Tryz.prog w 0 spare held 28 v d ps) (hz : w.noneFrozen ps) (hw : ∀ n ∈ d.weights Tryz.prog 28, n ≤ 140737488351232) : ∃ (m : Mdp) (a1 : Option Addr) (a2 a3 : Nat) (a4 : Option Addr) (a5 a6 : Nat) (a7 : Option Addr) (a8 a9 : Nat), v = .agg #[.bool m.disc.neg, .slice a1 a2 a3, .slice a4 a5 a6, .slice a7 a8 a9] ∧ Limbs (rd w X0) a1 a2 a3 m.disc.ln ∧ Limbs (rd w X0) a4 a5 a6 m.disc.ld ∧ StatesR (rd w X0) a7 a8 a9 m.states ∧ m.sh := by
  obtain ⟨⟨cs⟩, rfl, _⟩ := Go.WideShapes.okWide_struct Tryz.underlying28 hok
  obtain ⟨n, h⟩ := h
  have h : TrodZ enc Tryz.prog w spare held n 28 _ _ := ⟨h, hz, hw⟩
  simp only [Value.cells] at h
  obtain ⟨c0, c1, c2, c3, rfl⟩ := l4 (flen (size := 4) Tryz.underlying28 h kr)
  obtain ⟨n0, y0, h0⟩ := fld (size := 3) Tryz.underlying28 h 0 rfl kr
  obtain ⟨n1, y1, h1⟩ := fld (size := 1) Tryz.underlying28 h 1 rfl kr
  obtain ⟨x, a1, a2, a3, a4, a5, a6, e0, g1, g2, hs⟩ := open_rat h0
  obtain ⟨a7, a8, a9, xs, e1, g3, hn⟩ := open_sl (bts := 24) Tryz.underlying26 kr (by omega) kr open_state h1
  have e0' : [c0, c1, c2] = [.bool x.neg, .slice a1 a2 a3, .slice a4 a5 a6] := e0
  simp only [List.cons.injEq, and_true] at e0'
  obtain ⟨rfl, rfl, rfl⟩ := e0'
  obtain rfl : c3 = .slice a7 a8 a9 := by simpa using e1
  exact ⟨⟨x, xs⟩, a1, a2, a3, a4, a5, a6, a7, a8, a9, rfl, g1, g2, g3.split.1, hs, hn, g3.split.2⟩
/-- A number that comes in. -/
theorem open_arat {v : Value} {d : DataW H} {ps : List MemPlace} {r : Reach} {base : Nat} (hok : Value.okWide Tryz.prog w r base 25 v) (h : DataW.Trod enc Tryz.prog w 0 spare held 25 v d ps) (hz : w.noneFrozen ps) (hw : ∀ n ∈ d.weights Tryz.prog 25, n ≤ 140737488351232) : ∃ (x : Raw) (a1 : Option Addr) (a2 a3 : Nat) (a4 : Option Addr) (a5 a6 : Nat), v = .agg #[.bool x.neg, .slice a1 a2 a3, .slice a4 a5 a6] ∧ Limbs (rd w X0) a1 a2 a3 x.ln ∧ Limbs (rd w X0) a4 a5 a6 x.ld ∧ x.sh := by
  obtain ⟨⟨cs⟩, rfl, _⟩ := Go.WideShapes.okWide_struct Tryz.underlying25 hok
  obtain ⟨n, h⟩ := h
  have h : TrodZ enc Tryz.prog w spare held n 25 _ _ := ⟨h, hz, hw⟩
  simp only [Value.cells] at h
  obtain ⟨x, a1, a2, a3, a4, a5, a6, rfl, g⟩ := open_rat h
  exact ⟨x, a1, a2, a3, a4, a5, a6, rfl, g⟩
/-- A list of numbers that comes in. -/
theorem open_arats {v : Value} {d : DataW H} {ps : List MemPlace} {r : Reach} {base : Nat} (hok : Value.okWide Tryz.prog w r base 29 v) (h : DataW.Trod enc Tryz.prog w 0 spare held 29 v d ps) (hz : w.noneFrozen ps) (hw : ∀ n ∈ d.weights Tryz.prog 29, n ≤ 140737488351232) : ∃ ad len cap xs, v = .slice ad len cap ∧ Rats (rd w X0) ad len cap xs ∧ xs.length * 56 ≤ 140737488351232 ∧ ∀ x ∈ xs, x.sh := by
  obtain ⟨a, len, cap, rfl⟩ := Go.WideShapes.okWide_slice Tryz.underlying29 hok
  obtain ⟨n, h⟩ := h
  have h : TrodZ enc Tryz.prog w spare held n 29 _ _ := ⟨h, hz, hw⟩
  obtain ⟨a', len', cap', xs, e, g, hn⟩ := open_sl (bts := 56) Tryz.underlying29 kr (by omega) kr open_ratEl h
  have e' : [Value.slice a len cap] = [.slice a' len' cap'] := e
  simp only [List.cons.injEq, and_true] at e'
  exact ⟨_, _, _, xs, e', g.split.1.rats, hn, g.split.2⟩
/-- A list of int that comes in. -/
theorem open_aints {v : Value} {d : DataW H} {ps : List MemPlace} {r : Reach} {base : Nat} (hok : Value.okWide Tryz.prog w r base 30 v) (h : DataW.Trod enc Tryz.prog w 0 spare held 30 v d ps) (hz : w.noneFrozen ps) (hw : ∀ n ∈ d.weights Tryz.prog 30, n ≤ 140737488351232) : ∃ ad len cap xs, v = .slice ad len cap ∧ Ints (rd w X0) ad len cap xs ∧ xs.length * 8 ≤ 140737488351232 := by
  obtain ⟨a, len, cap, rfl⟩ := Go.WideShapes.okWide_slice Tryz.underlying30 hok
  obtain ⟨n, h⟩ := h
  have h : TrodZ enc Tryz.prog w spare held n 30 _ _ := ⟨h, hz, hw⟩
  obtain ⟨a', len', cap', xs, e, g, hn⟩ := open_sl (bts := 8) Tryz.underlying30 kr (by omega) kr (open_intEl Tryz.underlying3) h
  have e' : [Value.slice a len cap] = [.slice a' len' cap'] := e
  simp only [List.cons.injEq, and_true] at e'
  exact ⟨_, _, _, xs, e', g, hn⟩
theorem trodAll_five {P : Program} {base : Nat} {t t' t'' t3 t4 : TypeId} {args : Array Value} {ds : List (DataW H)} {ps : List MemPlace} (h : DataW.TrodAll enc P w base spare held [t, t', t'', t3, t4] args.toList ds ps) :
    ∃ v v' v'' v3 v4 d d' d'' d3 d4 p p' p'' p3 p4, args = #[v, v', v'', v3, v4] ∧ ds = [d, d', d'', d3, d4] ∧ ps = p ++ p' ++ p'' ++ p3 ++ p4 ∧ DataW.Trod enc P w base spare held t v d p ∧ DataW.Trod enc P w base spare held t' v' d' p' ∧ DataW.Trod enc P w base spare held t'' v'' d'' p'' ∧ DataW.Trod enc P w base spare held t3 v3 d3 p3 ∧ DataW.Trod enc P w base spare held t4 v4 d4 p4 := by
  obtain ⟨v, vs, d, ds', p, q, hargs, rfl, rfl, hd, hrest⟩ := trodAll_cons h
  obtain ⟨v', vs', d', ds'', p', q', rfl, rfl, rfl, hd', hrest'⟩ := trodAll_cons hrest
  obtain ⟨v'', vs'', d'', ds3, p'', q'', rfl, rfl, rfl, hd'', hrest''⟩ := trodAll_cons hrest'
  obtain ⟨v3, vs3, d3, ds4, p3, q3, rfl, rfl, rfl, hd3, hrest3⟩ := trodAll_cons hrest''
  obtain ⟨v4, vs4, d4, ds5, p4, q4, rfl, rfl, rfl, hd4, hrest4⟩ := trodAll_cons hrest3
  obtain ⟨rfl, rfl, rfl⟩ := trodAll_nil hrest4
  exact ⟨v, v', v'', v3, v4, d, d', d'', d3, d4, p, p', p'', p3, p4, by cases args; simp_all, rfl, by simp, hd, hd', hd'', hd3, hd4⟩
theorem trodAll_mk5 {P : Program} {base : Nat} {t t' t'' t3 t4 : TypeId} {v v' v'' v3 v4 : Value} {d d' d'' d3 d4 : DataW H} {p p' p'' p3 p4 : List MemPlace} (h : DataW.Trod enc P w base spare held t v d p) (h' : DataW.Trod enc P w base spare held t' v' d' p')
    (h'' : DataW.Trod enc P w base spare held t'' v'' d'' p'') (h3 : DataW.Trod enc P w base spare held t3 v3 d3 p3) (h4 : DataW.Trod enc P w base spare held t4 v4 d4 p4) : DataW.TrodAll enc P w base spare held [t, t', t'', t3, t4] [v, v', v'', v3, v4] [d, d', d'', d3, d4] (p ++ (p' ++ (p'' ++ (p3 ++ p4)))) := ⟨p, p' ++ (p'' ++ (p3 ++ p4)), h, trodAll_mk4 h' h'' h3 h4, rfl⟩
end
theorem Upd.below {w w' : World} (h : Upd E0 w w') : Below w.heap.size w w' := ⟨h.os, h.tape, h.output, h.size, fun k hk => h.block k hk (fun e => e)⟩
end Go.Proofs.YtoocgllbbihoaaaGreat

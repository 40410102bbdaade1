/- Parts of the proof: GwD FO. By an AI agent. -/
import Derived.ProofKit
import Derived.Test.YtoocgllbbihoaaaBaseA
import Derived.Test.YtoocgllbbihoaaaBaseB
import Derived.Test.YtoocgllbbihoaaaBaseC
import Derived.Test.YtoocgllbbihoaaaBaseD
import Derived.Test.YtoocgllbbihoaaaBaseE
import Derived.Test.YtoocgllbbihoaaaBaseF
import Derived.Test.YtoocgllbbihoaaaBaseG
set_option linter.unusedVariables false
set_option linter.unusedSimpArgs false
set_option linter.unnecessarySimpa false
/- Arguments as a statement lays them, opened as what is read. By an AI agent; over any program. -/
namespace Go.Gv
open Go.RowKit Go.ChangeShapes
theorem mapM_get {α β : Type} {f : α → Option β} : ∀ {l : List α} {cs : List β}, l.mapM f = some cs → cs.length = l.length ∧ ∀ (j : Nat) (a : α), l[j]? = some a → f a = cs[j]?
  | [], cs, h => by
    simp at h; subst h; simp
  | a :: l, cs, h => by
    rw [List.mapM_cons] at h
    cases hf : f a with
    | none => rw [hf] at h; cases h
    | some b =>
      rw [hf] at h
      cases hm : l.mapM f with
      | none => rw [hm] at h; cases h
      | some bs =>
        rw [hm] at h
        obtain rfl : b :: bs = cs := by simpa using h
        obtain ⟨h1, h2⟩ := mapM_get hm
        refine ⟨by simp [h1], fun j c hj => ?_⟩
        rcases j with _ | j
        · simp at hj; subst hj; simpa using hf
        · simpa using h2 j c (by simpa using hj)
theorem cells_get {w : World} {a : Addr} {n : Nat} {cs : List Value} (h : w.cells? 0 a n = some cs) : cs.length = n ∧ ∀ j, j < n → w.cell? (a.add j) = cs[j]? := by
  unfold World.cells? at h
  rw [if_pos (Nat.zero_le _)] at h
  obtain ⟨h1, h2⟩ := mapM_get h
  rw [List.length_range] at h1
  exact ⟨h1, fun j hj => h2 j j (by simp [hj])⟩
theorem list_of {α : Type} {p : Nat → α → Prop} : ∀ (n : Nat), (∀ i, i < n → ∃ x, p i x) → ∃ l : List α, l.length = n ∧ ∀ i x, l[i]? = some x → p i x
  | 0, _ => ⟨[], rfl, fun i x h => by simp at h⟩
  | n + 1, h => by
    obtain ⟨l, h1, h2⟩ := list_of n (fun i hi => h i (by omega))
    obtain ⟨x, hx⟩ := h n (by omega)
    refine ⟨l ++ [x], by simp [h1], fun i y hi => ?_⟩
    rcases Nat.lt_or_ge i n with hlt | hge
    · rw [List.getElem?_append_left (by omega)] at hi
      exact h2 i y hi
    · rw [List.getElem?_append_right (by omega)] at hi
      have hlt := (List.getElem?_eq_some_iff.1 hi).1
      simp at hlt
      have : i = n := by omega
      subst this
      rw [h1] at hi
      simp at hi
      exact hi ▸ hx
section
variable {H : Type} {enc : TypeId × Value → H} {P : Program} {w : World} {spare : Nat → Bool} {held : Bool}
theorem fld {t : TypeId} {fs : Array Field} {f : Field} {fuel size : Nat} {cs : List Value} {x : DataW H × List MemPlace} (ht : P.underlying t = some (.struct fs)) (h : DataW.trod enc P w 0 spare held fuel t cs = some x) (i : Nat) (hi : fs[i]? = some f) (hs : P.cellsOf f.type = size) :
    ∃ n y, DataW.trod enc P w 0 spare held n f.type ((cs.drop f.offset).take size) = some y := by
  obtain ⟨xs, n, _, _, _, hl, hf⟩ := DataW.trod_struct ht h
  have hlt : i < fs.size := (Array.getElem?_eq_some_iff.1 hi).1
  have := hf i f hi
  rw [hs] at this
  exact ⟨n, xs[i]'(by omega), this.trans (List.getElem?_eq_getElem _)⟩
theorem flen {t : TypeId} {fs : Array Field} {fuel size : Nat} {cs : List Value} {x : DataW H × List MemPlace} (ht : P.underlying t = some (.struct fs)) (h : DataW.trod enc P w 0 spare held fuel t cs = some x) (hs : P.cellsOf t = size) : cs.length = size := by
  obtain ⟨xs, n, _, _, h1, _⟩ := DataW.trod_struct ht h
  rw [h1, hs]
def OpenEl (enc : TypeId × Value → H) (P : Program) (w : World) (spare : Nat → Bool) (held : Bool) {α : Type} (e : TypeId) (size : Nat) (El : Rd → Addr → α → Prop) : Prop :=
  ∀ (n : Nat) (cs : List Value) (y : DataW H × List MemPlace) (b off : Nat), DataW.trod enc P w 0 spare held n e cs = some y → cs.length = size → At (rd w X0) ⟨b, off, none⟩ cs → ∃ x, El (rd w X0) ⟨b, off, none⟩ x
/-- A slice, opened by its elements. -/
theorem open_sl {α : Type} {El : Rd → Addr → α → Prop} {t e : TypeId} {size fuel : Nat} {cs : List Value} {x : DataW H × List MemPlace} (ht : P.underlying t = some (.slice e)) (hs : P.cellsOf e = size) (h0 : 0 < size) (hel : OpenEl enc P w spare held e size El)
    (h : DataW.trod enc P w 0 spare held fuel t cs = some x) : ∃ ad len cap xs, cs = [.slice ad len cap] ∧ SlR El size (rd w X0) ad len cap xs := by
  rcases DataW.trod_slice ht h with ⟨rfl, _⟩ | ⟨a, len, cap, elems, rest, n, _, rfl, _, _, hl, hm, hlen, hels, _, _⟩
  · exact ⟨none, 0, 0, [], rfl, rfl, Nat.le_refl _, by omega, .inl rfl⟩
  · rw [hs] at hels
    have hm' : cap ≤ 9223372036854775807 := by simpa [maxLen] using hm
    have each : ∀ i, i < len → ∃ ci yi, w.cells? 0 (a.add (i * size)) size = some ci ∧ DataW.trod enc P w 0 spare held n e ci = some yi := fun i hi => by
      have h1 := hels i hi
      rw [List.getElem?_eq_getElem (by omega)] at h1
      exact Option.bind_eq_some_iff.1 h1 |>.imp fun ci hci => ⟨_, hci.1, hci.2⟩
    rcases Nat.eq_zero_or_pos len with rfl | hpos
    · exact ⟨some a, 0, cap, [], rfl, rfl, Nat.zero_le _, hm', .inl rfl⟩
    · have hsp : a.spot = none := by
        obtain ⟨ci, yi, h1, _⟩ := each 0 hpos
        obtain ⟨hcl, hc⟩ := cells_get h1
        have h2 := hc 0 h0
        rw [List.getElem?_eq_getElem (by omega)] at h2
        simp only [Nat.zero_mul, Addr.add, if_true] at h2
        unfold World.cell? at h2
        split at h2
        · split at h2
          · cases h2
          · rename_i h3; cases hh : a.spot <;> simp_all
        · cases h2
      obtain ⟨b, off, sp⟩ := a
      simp only at hsp; subst hsp
      obtain ⟨xs, hx1, hx2⟩ := list_of (p := fun i x => El (rd w X0) ⟨b, off + i * size, none⟩ x) len (fun i hi => by
        obtain ⟨ci, yi, h1, h2⟩ := each i hi
        rw [add_mk] at h1
        obtain ⟨hcl, hc⟩ := cells_get h1
        exact hel n ci yi b _ h2 hcl (fun j v hj => rd_of ((hc j (by have := (List.getElem?_eq_some_iff.1 hj).1; omega)).trans hj) (fun h => h.elim)))
      exact ⟨_, len, cap, xs, rfl, hx1.symm, hl, hm', .inr ⟨b, off, rfl, hx2⟩⟩
def LimbAt (r : Rd) (a : Addr) (x : Nat) : Prop := At r a [.int .u32 (x : Int)] ∧ x < 4294967296
theorem open_limb {e : TypeId} (he : P.underlying e = some (.int .u32)) : OpenEl enc P w spare held e 1 LimbAt := fun n cs y b off h _ hat => by
  obtain ⟨z, rfl, _, hw⟩ := DataW.trod_int he h
  have hz : 0 ≤ z ∧ z < 4294967296 := by
    simp [Lit.wf, IntKind.min, IntKind.max, IntKind.signed, IntKind.bits] at hw
    omega
  exact ⟨z.toNat, by rwa [Int.toNat_of_nonneg hz.1], by omega⟩
theorem open_intEl {e : TypeId} (he : P.underlying e = some (.int .i64)) : OpenEl enc P w spare held e 1 IntAt := fun n cs y b off h _ hat => by
  obtain ⟨z, rfl, _, hw⟩ := DataW.trod_int he h
  exact ⟨z, hat⟩
theorem SlR.limbs {r : Rd} {ad : Option Addr} {len cap : Nat} {xs : List Nat} (h : SlR LimbAt 1 r ad len cap xs) : Limbs r ad len cap xs := by
  refine ⟨h.hlen, h.hcap, h.hbig, fun x hx => ?_, ?_⟩
  · rcases h.hat with rfl | ⟨b, off, _, ha⟩
    · cases hx
    · obtain ⟨i, hi, rfl⟩ := List.getElem_of_mem hx
      exact (ha i _ (List.getElem?_eq_getElem hi)).2
  · refine h.hat.imp id fun ⟨b, off, e, ha⟩ => ⟨b, off, e, fun j v hj => ?_⟩
    simp only [U32, List.getElem?_map] at hj
    cases hx : xs[j]? with
    | none => rw [hx] at hj; cases hj
    | some x =>
      rw [hx] at hj
      obtain rfl : Value.int .u32 (x : Int) = v := by simpa using hj
      have := (ha j x hx).1 0 _ rfl
      rw [add_mk, Nat.mul_one, Nat.add_zero] at this
      rw [add_mk]; exact this
end
end Go.Gv
namespace Go.Proofs.Ytoocgllbbihoaaa
open Go Go.Gv Go.RowKit
set_option maxRecDepth 100000
set_option maxHeartbeats 1000000
open Go.ChangeShapes
section
variable {H : Type} {enc : TypeId × Value → H} {w : World} {spare : Nat → Bool} {held : Bool}
theorem l3 {cs : List Value} (h : cs.length = 3) : ∃ a b c, cs = [a, b, c] := by
  match cs, h with
  | [a, b, c], _ => exact ⟨a, b, c, rfl⟩
theorem l4 {cs : List Value} (h : cs.length = 4) : ∃ a b c d, cs = [a, b, c, d] := by
  match cs, h with
  | [a, b, c, d], _ => exact ⟨a, b, c, d, rfl⟩
theorem open_nat {n : Nat} {cs : List Value} {y : DataW H × List MemPlace} (h : DataW.trod enc Try.prog w 0 spare held n 23 cs = some y) : ∃ ad len cap l, cs = [.slice ad len cap] ∧ Limbs (rd w X0) ad len cap l := by
  obtain ⟨ad, len, cap, xs, e, hx⟩ := open_sl Try.underlying23 kr (by omega) (open_limb Try.underlying93) h
  exact ⟨ad, len, cap, xs, e, hx.limbs⟩
theorem open_rat {n : Nat} {cs : List Value} {y : DataW H × List MemPlace} (h : DataW.trod enc Try.prog w 0 spare held n 25 cs = some y) : ∃ (x : Raw) (a1 : Option Addr) (a2 a3 : Nat) (a4 : Option Addr) (a5 a6 : Nat), cs = [.bool x.neg, .slice a1 a2 a3, .slice a4 a5 a6] ∧ Limbs (rd w X0) a1 a2 a3 x.ln ∧ Limbs (rd w X0) a4 a5 a6 x.ld := by
  obtain ⟨c0, c1, c2, rfl⟩ := l3 (flen (size := 3) Try.underlying25 h kr)
  obtain ⟨n0, y0, h0⟩ := fld (size := 1) Try.underlying25 h 0 rfl kr
  obtain ⟨n1, y1, h1⟩ := fld (size := 1) Try.underlying25 h 1 rfl kr
  obtain ⟨n2, y2, h2⟩ := fld (size := 1) Try.underlying25 h 2 rfl kr
  obtain ⟨b, e0, _⟩ := DataW.trod_bool Try.underlying4 h0
  obtain ⟨a1, a2, a3, l, e1, g1⟩ := open_nat h1
  obtain ⟨a4, a5, a6, l', e2, g2⟩ := open_nat h2
  obtain rfl : c0 = .bool b := by simpa using e0
  obtain rfl : c1 = .slice a1 a2 a3 := by simpa using e1
  obtain rfl : c2 = .slice a4 a5 a6 := by simpa using e2
  exact ⟨⟨b, l, l'⟩, a1, a2, a3, a4, a5, a6, rfl, g1, g2⟩
theorem open_ratEl : OpenEl enc Try.prog w spare held 25 3 RatAt := fun n cs y b off h _ hat => by
  obtain ⟨x, a1, a2, a3, a4, a5, a6, rfl, h1, h2⟩ := open_rat h
  exact ⟨x, a1, a2, a3, a4, a5, a6, hat, h1, h2⟩
theorem open_out : OpenEl enc Try.prog w spare held 57 4 OutAt := fun n cs y b off h hl hat => by
  obtain ⟨c0, c1, c2, c3, rfl⟩ := l4 hl
  obtain ⟨n0, y0, h0⟩ := fld (size := 1) Try.underlying57 h 0 rfl kr
  obtain ⟨n1, y1, h1⟩ := fld (size := 3) Try.underlying57 h 1 rfl kr
  obtain ⟨z, e0, _⟩ := DataW.trod_int Try.underlying3 h0
  obtain ⟨x, a1, a2, a3, a4, a5, a6, e1, g1, g2⟩ := open_rat h1
  obtain rfl : c0 = .int .i64 z := by simpa using e0
  have e1' : [c1, c2, c3] = [.bool x.neg, .slice a1 a2 a3, .slice a4 a5 a6] := e1
  simp only [List.cons.injEq, and_true] at e1'
  obtain ⟨rfl, rfl, rfl⟩ := e1'
  exact ⟨⟨z, x⟩, a1, a2, a3, a4, a5, a6, hat, g1, g2⟩
theorem open_act : OpenEl enc Try.prog w spare held 55 4 ActAt := fun n cs y b off h hl hat => by
  obtain ⟨c0, c1, c2, c3, rfl⟩ := l4 hl
  obtain ⟨n0, y0, h0⟩ := fld (size := 3) Try.underlying55 h 0 rfl kr
  obtain ⟨n1, y1, h1⟩ := fld (size := 1) Try.underlying55 h 1 rfl kr
  obtain ⟨x, a1, a2, a3, a4, a5, a6, e0, g1, g2⟩ := open_rat h0
  obtain ⟨a7, a8, a9, xs, e1, g3⟩ := open_sl Try.underlying53 kr (by omega) open_out h1
  have e0' : [c0, c1, c2] = [.bool x.neg, .slice a1 a2 a3, .slice a4 a5 a6] := e0
  simp only [List.cons.injEq, and_true] at e0'
  obtain ⟨rfl, rfl, rfl⟩ := e0'
  obtain rfl : c3 = .slice a7 a8 a9 := by simpa using e1
  exact ⟨⟨x, xs⟩, a1, a2, a3, a4, a5, a6, a7, a8, a9, hat, g1, g2, g3⟩
theorem open_state : OpenEl enc Try.prog w spare held 40 1 StateAt := fun n cs y b off h _ hat => by
  obtain ⟨a1, a2, a3, xs, rfl, g⟩ := open_sl Try.underlying40 kr (by omega) open_act h
  exact ⟨xs, a1, a2, a3, hat, g⟩
/-- A process that comes in. -/
theorem open_mdp {v : Value} {d : DataW H} {ps : List MemPlace} {r : Reach} {base : Nat} (hok : Value.okWide Try.prog w r base 28 v) (h : DataW.Trod enc Try.prog w 0 spare held 28 v d ps) : ∃ (m : Mdp) (a1 : Option Addr) (a2 a3 : Nat) (a4 : Option Addr) (a5 a6 : Nat) (a7 : Option Addr) (a8 a9 : Nat), v = .agg #[.bool m.disc.neg, .slice a1 a2 a3, .slice a4 a5 a6, .slice a7 a8 a9] ∧ Limbs (rd w X0) a1 a2 a3 m.disc.ln ∧ Limbs (rd w X0) a4 a5 a6 m.disc.ld ∧ StatesR (rd w X0) a7 a8 a9 m.states := by
  obtain ⟨⟨cs⟩, rfl, _⟩ := Go.WideShapes.okWide_struct Try.underlying28 hok
  obtain ⟨n, h⟩ := h
  simp only [Value.cells] at h
  obtain ⟨c0, c1, c2, c3, rfl⟩ := l4 (flen (size := 4) Try.underlying28 h kr)
  obtain ⟨n0, y0, h0⟩ := fld (size := 3) Try.underlying28 h 0 rfl kr
  obtain ⟨n1, y1, h1⟩ := fld (size := 1) Try.underlying28 h 1 rfl kr
  obtain ⟨x, a1, a2, a3, a4, a5, a6, e0, g1, g2⟩ := open_rat h0
  obtain ⟨a7, a8, a9, xs, e1, g3⟩ := open_sl Try.underlying26 kr (by omega) open_state h1
  have e0' : [c0, c1, c2] = [.bool x.neg, .slice a1 a2 a3, .slice a4 a5 a6] := e0
  simp only [List.cons.injEq, and_true] at e0'
  obtain ⟨rfl, rfl, rfl⟩ := e0'
  obtain rfl : c3 = .slice a7 a8 a9 := by simpa using e1
  exact ⟨⟨x, xs⟩, a1, a2, a3, a4, a5, a6, a7, a8, a9, rfl, g1, g2, g3⟩
/-- A number that comes in. -/
theorem open_arat {v : Value} {d : DataW H} {ps : List MemPlace} {r : Reach} {base : Nat} (hok : Value.okWide Try.prog w r base 25 v) (h : DataW.Trod enc Try.prog w 0 spare held 25 v d ps) : ∃ (x : Raw) (a1 : Option Addr) (a2 a3 : Nat) (a4 : Option Addr) (a5 a6 : Nat), v = .agg #[.bool x.neg, .slice a1 a2 a3, .slice a4 a5 a6] ∧ Limbs (rd w X0) a1 a2 a3 x.ln ∧ Limbs (rd w X0) a4 a5 a6 x.ld := by
  obtain ⟨⟨cs⟩, rfl, _⟩ := Go.WideShapes.okWide_struct Try.underlying25 hok
  obtain ⟨n, h⟩ := h
  simp only [Value.cells] at h
  obtain ⟨x, a1, a2, a3, a4, a5, a6, rfl, g⟩ := open_rat h
  exact ⟨x, a1, a2, a3, a4, a5, a6, rfl, g⟩
/-- A list of numbers that comes in. -/
theorem open_arats {v : Value} {d : DataW H} {ps : List MemPlace} {r : Reach} {base : Nat} (hok : Value.okWide Try.prog w r base 29 v) (h : DataW.Trod enc Try.prog w 0 spare held 29 v d ps) : ∃ ad len cap xs, v = .slice ad len cap ∧ Rats (rd w X0) ad len cap xs := by
  obtain ⟨a, len, cap, rfl⟩ := Go.WideShapes.okWide_slice Try.underlying29 hok
  obtain ⟨n, h⟩ := h
  obtain ⟨a', len', cap', xs, e, g⟩ := open_sl Try.underlying29 kr (by omega) open_ratEl h
  have e' : [Value.slice a len cap] = [.slice a' len' cap'] := e
  simp only [List.cons.injEq, and_true] at e'
  exact ⟨_, _, _, xs, e', ⟨g.hlen, g.hcap, g.hbig, g.hat⟩⟩
/-- A list of int that comes in. -/
theorem open_aints {v : Value} {d : DataW H} {ps : List MemPlace} {r : Reach} {base : Nat} (hok : Value.okWide Try.prog w r base 30 v) (h : DataW.Trod enc Try.prog w 0 spare held 30 v d ps) : ∃ ad len cap xs, v = .slice ad len cap ∧ Ints (rd w X0) ad len cap xs := by
  obtain ⟨a, len, cap, rfl⟩ := Go.WideShapes.okWide_slice Try.underlying30 hok
  obtain ⟨n, h⟩ := h
  obtain ⟨a', len', cap', xs, e, g⟩ := open_sl Try.underlying30 kr (by omega) (open_intEl Try.underlying3) h
  have e' : [Value.slice a len cap] = [.slice a' len' cap'] := e
  simp only [List.cons.injEq, and_true] at e'
  exact ⟨_, _, _, xs, e', g⟩
end
theorem Upd.below {w w' : World} (h : Upd E0 w w') : Below w.heap.size w w' := ⟨h.os, h.tape, h.output, h.size, fun k hk => h.block k hk (fun e => e)⟩
end Go.Proofs.Ytoocgllbbihoaaa

/- For every process, any two lists and any state the law MdpReaches answers true, and each argument reads afterwards as before. Conditions: none. By an AI agent. -/
import Derived.ProofKit
import Derived.Test.YtoocgllbbihoaaaRows
import Derived.Test.YtoocgllbbihoaaaBaseA
import Derived.Test.YtoocgllbbihoaaaBaseB
import Derived.Test.YtoocgllbbihoaaaBaseC
import Derived.Test.YtoocgllbbihoaaaBaseD
import Derived.Test.YtoocgllbbihoaaaBaseE
import Derived.Test.YtoocgllbbihoaaaBaseF
import Derived.Test.YtoocgllbbihoaaaBaseG
import Derived.Test.YtoocgllbbihoaaaBaseH
set_option linter.unusedVariables false
set_option linter.unusedSimpArgs false
set_option linter.unnecessarySimpa false
/- Rows of numbers that are copied and stored into; lists of states. By an AI agent; no program in sight. -/
namespace Go.Gv
open Go.RowKit
theorem setCells_get : ∀ (vs : List Value) (c : Array Value) (o j : Nat), o + vs.length ≤ c.size → (setCells c o vs)[j]? = if o ≤ j ∧ j < o + vs.length then vs[j - o]? else c[j]?
  | [], c, o, j, _ => by
    rw [setCells, if_neg (by simp)]
  | v :: vs, c, o, j, h => by
    simp only [List.length_cons] at h ⊢
    rw [setCells, setCells_get vs _ (o + 1) j (by simp; omega)]
    rcases Nat.lt_trichotomy j o with h1 | h1 | h1
    · rw [if_neg (by omega), if_neg (by omega), Array.getElem?_setIfInBounds, if_neg (by omega)]
    · subst h1
      rw [if_neg (by omega), if_pos (by omega), Array.getElem?_setIfInBounds, if_pos rfl, if_pos (by omega)]
      simp
    · by_cases h2 : j < o + 1 + vs.length
      · rw [if_pos ⟨by omega, h2⟩, if_pos (by omega), show j - o = (j - (o + 1)) + 1 by omega, List.getElem?_cons_succ]
      · rw [if_neg (by omega), if_neg (by omega), Array.getElem?_setIfInBounds, if_neg (by omega)]
theorem flat_get3 : ∀ (es : List RE) (j : Nat), (flat es)[j]? = (es[j / 3]?).bind fun e => e.cells[j % 3]?
  | [], j => by simp [flat]
  | e :: l, j => by
    rw [flat]
    rcases Nat.lt_or_ge j 3 with h | h
    · rw [List.getElem?_append_left (by simp [RE.cells]; omega), show j / 3 = 0 by omega, show j % 3 = j by omega]
      rfl
    · rw [List.getElem?_append_right (by simp [RE.cells]; omega), flat_get3 l]
      have e1 : (j - e.cells.length) / 3 = j / 3 - 1 := by simp [RE.cells]; omega
      have e2 : (j - e.cells.length) % 3 = j % 3 := by simp [RE.cells]; omega
      rw [e1, e2, show j / 3 = (j / 3 - 1) + 1 by omega, List.getElem?_cons_succ]
      simp
/-- A number is stored into a row. -/
theorem Row.setRat {m cap k : Nat} {cur : Array Value} {es : List RE} {e : RE} (h : Row m cap 3 cur (flat es)) (hm : m = es.length) (hk : k < m) : Row m cap 3 (setCells cur (k * 3) e.cells) (flat (es.set k e)) := by
  have h1 := h.hn
  have h2 := h.hsz
  have hl : e.cells.length = 3 := rfl
  have hfit : k * 3 + e.cells.length ≤ cur.size := by rw [hl, h2]; omega
  refine ⟨h.hn, h.hcap, by rw [size_setCells]; exact h2, ?_⟩
  apply List.ext_getElem?
  intro j
  rw [List.getElem?_take, flat_get3]
  split
  · rename_i hj
    rw [Array.getElem?_toList, setCells_get _ _ _ _ hfit, List.getElem?_set, hl]
    have h3 : (flat es)[j]? = cur[j]? := by rw [← h.hxs, List.getElem?_take, if_pos hj, Array.getElem?_toList]
    rw [flat_get3] at h3
    by_cases hin : k * 3 ≤ j ∧ j < k * 3 + 3
    · rw [if_pos hin, if_pos (by omega), if_pos (by omega), show j - k * 3 = j % 3 by omega]
      rfl
    · rw [if_neg hin, if_neg (by omega), h3]
  · rename_i hj
    rw [List.getElem?_eq_none (by rw [List.length_set]; omega)]
    rfl
theorem map_set {es : List RE} {k : Nat} {e : RE} : (es.set k e).map (·.x) = (es.map (·.x)).set k e.x := by simp [List.map_set]
theorem U32_snoc (l : List Nat) (c : Nat) : U32 (l ++ [c]) = U32 l ++ [.int .u32 (c : Int)] := by simp [U32]
theorem St.pubLimbs {w0 w : World} {X Y : Hid} {rb A B : List (Nat × Obj)} {e : TypeId} {m cap : Nat} {ad : Option Addr} {l : List Nat} (F : List (Nat × Obj) → List (Nat × Obj)) (hS : St E0 w0 X w Y (F rb)) (hM : ∀ rb, F rb = A ++ (rb ++ B)) (hrow : TRow e 1 rb ad m cap (U32 l)) (hm : m = l.length) (hlt : ∀ x ∈ l, x < 4294967296) :
    ∃ Y', St E0 w0 X w Y' (F []) ∧ Le (rd w Y) (rd w Y') ∧ Limbs (rd w Y') ad m cap l := by
  obtain ⟨Y', h1, h2, h3⟩ := St.pubRow F hS hM hrow
  refine ⟨Y', h1, h2, ?_⟩
  rcases h3 with ⟨hx, rfl, rfl, rfl⟩ | ⟨g, cur, rfl, hr, hat⟩
  · obtain rfl : l = [] := List.eq_nil_of_length_eq_zero hm.symm
    exact Limbs.nil none (by omega)
  · refine ⟨hm, hr.hn, (by have := hr.hcap; simpa [maxLen] using this), hlt, .inr ⟨g, 0, rfl, fun j v hj => ?_⟩⟩
    rw [← hr.hxs, List.getElem?_take] at hj
    split at hj
    · exact hat j v hj
    · cases hj
def hideL (rb : List (Nat × Obj)) (X : Hid) : Hid := fun k o => X k o ∨ ∃ p ∈ rb, p.1 = k
theorem sorted_lt {l : List Int} (h : l.Pairwise (· < ·)) {i : Nat} {x y : Int} (hi : 0 < i) (hx : l[i]? = some x) (hy : l[i - 1]? = some y) : y < x := by
  obtain ⟨h1, rfl⟩ := List.getElem?_eq_some_iff.1 hx
  obtain ⟨h2, rfl⟩ := List.getElem?_eq_some_iff.1 hy
  exact List.pairwise_iff_getElem.1 h (i - 1) i h2 h1 (by omega)
/-- One list agrees with the other at the states met so far. -/
def Agree (v mx : List Raw) (l : List Int) : Prop := ∀ t ∈ l, t.toNat < v.length → t.toNat < mx.length → mx.getD t.toNat .zero = v.getD t.toNat .zero
theorem Agree.nil {v mx : List Raw} : Agree v mx [] := fun t h => by cases h
theorem Agree.skip {v mx : List Raw} {l : List Int} {x : Int} (h : Agree v mx l) (hx : ¬ (x.toNat < v.length ∧ x.toNat < mx.length)) : Agree v mx (l ++ [x]) := fun t ht h1 h2 => by
  rcases List.mem_append.1 ht with h3 | h3
  · exact h t h3 h1 h2
  · obtain rfl := List.mem_singleton.1 h3
    exact absurd ⟨h1, h2⟩ hx
theorem Agree.set {v mx : List Raw} {l : List Int} {x : Int} {r : Raw} (h : Agree v mx l) (hr : v[x.toNat]? = some r) (h0 : x.toNat < mx.length) : Agree v (mx.set x.toNat r) (l ++ [x]) := fun t ht h1 h2 => by
  rw [List.length_set] at h2
  by_cases e : t.toNat = x.toNat
  · rw [e, List.getD_eq_getElem?_getD, List.getElem?_set, if_pos rfl, if_pos h0, getD_get hr]; rfl
  · rw [List.getD_eq_getElem?_getD, List.getElem?_set, if_neg (fun e' => e e'.symm), ← List.getD_eq_getElem?_getD]
    rcases List.mem_append.1 ht with h3 | h3
    · exact h t h3 h1 h2
    · exact absurd (congrArg Int.toNat (List.mem_singleton.1 h3)) e
end Go.Gv
namespace Go.Proofs.Ytoocgllbbihoaaa
open Go Go.Gv Go.RowKit
set_option maxRecDepth 100000
set_option maxHeartbeats 1000000
theorem CopyLimbs_c (w : World) (X : Hid) (hX : ∀ k o, X k o → k < w.heap.size) (ad : Option Addr) (len cap : Nat) (l : List Nat) (h : Limbs (rd w X) ad len cap l) (hm : len ≤ 1000000) : Calls Try.prog 90 #[.slice ad len cap] w (Ret E0 w fun w' v => ∃ ad len cap, v = .slice ad len cap ∧ Limbs (rd w' X) ad len cap l) := by
 obtain rfl := h.hlen
 have hcap := h.hcap
 have hbig := h.hbig
 refine zZ (n := 19) (vs := [.slice ad l.length cap]) Try.func90 rfl rfl rfl kr (fun a0 A0 => ?_)
 have A0 : Fr 19 a0 [(0, .slice ad l.length cap)] := A0
 have j0 : St E0 w X w X [] := St.start hX
 refine zD (fun K1 C1 => ?_)
 refine zC ?_
 refine zB 1 [(2, .slice none 0 0)] A0 kr kr (fun a2 A2 => ?_)
 refine zE ?_
 refine zA (C1 _ _ ?_)
 refine zD (fun K3 C3 => ?_)
 refine zC ?_
 refine zB 1 [(3, .slice none 0 0)] A2 kr kr (fun a4 A4 => ?_)
 refine zE ?_
 refine zA (C3 _ _ ?_)
 refine zD (fun K5 C5 => ?_)
 refine zD (fun K6 C6 => ?_)
 refine zC ?_
 refine zB 1 [(4, .int .i64 0)] A4 kr kr (fun a7 A7 => ?_)
 refine zE ?_
 refine zA (C6 _ _ ?_)
 refine zV ?_
 refine qC (fun (k : Nat) ac w1 => ∃ (Y1 : Hid) (rb1 : List (Nat × Obj)) (adr : Option Addr) (capr : Nat), Fr 19 ac [(0, .slice ad l.length cap), (3, .slice adr k capr), (4, .int .i64 (k : Int))] ∧ St E0 w X w1 Y1 (rb1) ∧ Le (rd w X) (rd w1 Y1) ∧ (TRow 93 1 rb1 adr k capr (U32 (l.take k))) ∧ (k ≤ l.length)) (fun (k : Nat) => l.length - k) 0 ?_ ?_
 ·
  refine ⟨_, [], none, 0, A7.as [0, 3, 4] kr kr, j0, Le.refl _, TRow.nil _ _, Nat.zero_le _⟩
 rintro k a8 w8 ⟨Y8, rb1, adr, capr, A8, j8, q8, hp8_0, hp8_1⟩
 have hr1 := hp8_0
 have hkl := hp8_1
 refine zD (fun K9 C9 => ?_)
 refine zD (fun K10 C10 => ?_)
 refine zC ?_
 refine zB 4 [(8, .bool (decide ((k : Int) < (l.length : Int)))), (7, .int .i64 (l.length : Int)), (6, .slice ad l.length cap), (5, .int .i64 (k : Int))] A8 kr kr (fun a11 A11 => ?_)
 refine zE ?_
 refine zA (C10 _ _ ?_)
 refine zS (decide ((k : Int) < (l.length : Int))) A11 kr kr (fun hc12 => ?_) (fun hc12 => ?_)
 ·
  have A13 := A11.set 8 (v' := .bool true) kr rfl (zG hc12)
  have ht14 : (k : Int) < (l.length : Int) := of_decide_eq_true hc12
  obtain ⟨b1, off1, rfl, _⟩ := h.addr (by omega)
  have hx1 := getD_some (l := l) (k := k) (by omega)
  refine i_skip ?_
  refine zA (C9 _ _ ?_)
  refine zD (fun K15 C15 => ?_)
  refine zV ?_
  refine zC ?_
  refine zB 3 [(13, .int .i64 (k : Int)), (12, .slice (some ⟨b1, off1, none⟩) l.length cap), (11, .slice adr k capr)] A13 kr kr (fun a16 A16 => ?_)
  refine wplI A16 kr (zJ (d := 14) (v := .pointer (some ⟨b1, off1 + k, none⟩)) A16 kr (zP (t := 22) (e := 93) (b := b1) (off := off1) (len := l.length) (cap := cap) (kd := .i64) (i := (k : Int)) (g := false) (m := 1) (off' := off1 + k) rfl kr kr kr kr (by omega) (by omega) (by first | rfl | omega | (simp; done) | (simp; omega)) _) ?_)
  intro a17 A17
  refine wplI A17 kr (zJ (d := 15) (v := .int .u32 ((l.getD k 0 : Nat) : Int)) A17 kr (zF (t := 93) (g := false) (vs := [.int .u32 ((l.getD k 0 : Nat) : Int)]) (ad := ⟨b1, off1 + k, none⟩) rfl kr kr ir ((h.cell (i := k) (by omega)).mono q8).cells) ?_)
  intro a18 A18
  refine wplI A18 kr (zN (d := 16) (fun b => .slice (some ⟨b, 0, none⟩) 1 1) (.cells #[.int .u32 ((l.getD k 0 : Nat) : Int)] 93 (0, 0)) A18 kr j8 kw ?_)
  intro b19 w19 Y19 j19 q19 hu19 a20 A20
  refine wplI A20 kr (op_appE (d := 17) (t := 22) (e := 93) (size := 1) (m := 1) (c := 1) (nn := k) (cap := capr) (ad0 := adr) (xs := (U32 (l.take k))) (news := [.int .u32 ((l.getD k 0 : Nat) : Int)]) (ad := ⟨b19, 0, none⟩) (z := .int .u32 0) (i0 := Try.t93) (rb := rb1) (R1 := []) 1 A20 kr j19 rfl rfl kr kr kr kr kr kr kr hr1 (j19.cells 0 rfl rfl) kr kr (by omega) (by simp only [maxLen]; omega) (by show (_ + 1) * 4 ≤ _; omega) ?_)
  intro rb21 ad21 cap21 w21 Y21 hrow21 j21 q21 a22 A22
  have hrw21 : TRow 93 1 rb21 ad21 (k + 1) cap21 (U32 (l.take k ++ [l.getD k 0])) := by rw [U32_snoc]; exact hrow21
  refine zB 1 [(3, .slice ad21 (k + 1) cap21)] A22 kr kr (fun a23 A23 => ?_)
  refine zE ?_
  refine zW ?_
  refine zA (C15 _ _ ?_)
  refine zC ?_
  refine zB 2 [(10, .int .i64 (IntKind.i64.wrap ((k : Int) + 1))), (9, .int .i64 (k : Int))] A23 kr kr (fun a24 A24 => ?_)
  have A25 := A24.set 10 (v' := .int .i64 ((k : Int) + 1)) kr rfl (vint (wi64 (by omega) (by omega)))
  refine zB 1 [(4, .int .i64 ((k : Int) + 1))] A25 kr kr (fun a26 A26 => ?_)
  refine zE ?_
  refine zA ?_
  refine ⟨k + 1, ⟨_, rb21, ad21, cap21, A26.as [0, 3, 4] kr kr, j21.tail, (Le3 q8 q19 q21), by rw [take_snoc hx1]; exact hrw21, by omega⟩, ?_⟩
  first | omega | (simp; omega)
 have A27 := A11.set 8 (v' := .bool false) kr rfl (zG hc12)
 have ht28 : ¬ ((k : Int) < (l.length : Int)) := of_decide_eq_false hc12
 refine i_exit ?_
 refine zT ?_
 refine zT ?_
 refine qA ?_
 refine zA (C5 _ _ ?_)
 refine zD (fun K29 C29 => ?_)
 refine zC ?_
 refine zB 2 [(2, .slice adr k capr), (18, .slice adr k capr)] A27 kr kr (fun a30 A30 => ?_)
 refine zE ?_
 refine zA (C29 _ _ ?_)
 refine zQ ?_
 refine zR (v := .slice adr k capr) (rs := [.tmp 2]) A30 kr (Res.tmp kr Res.nil) kr ?_
 have hlt := h.hlt
 have htk : l.take k = l := List.take_of_length_le (by omega)
 rw [htk] at hr1
 obtain ⟨Yz, hSz, hlez, hRz⟩ := St.pubLimbs (A := []) (B := []) (fun rb => rb) j8 (fun _ => by simp) hr1 (by omega) hlt
 exact ⟨hSz.upd, _, rfl, _, _, _, rfl, hRz.mono hSz.le⟩
theorem CopyNat_c (w : World) (X : Hid) (hX : ∀ k o, X k o → k < w.heap.size) (ad : Option Addr) (len cap : Nat) (l : List Nat) (h : Limbs (rd w X) ad len cap l) (hm : len ≤ 1000000) : Calls Try.prog 66 #[.slice ad len cap] w (Ret E0 w fun w' v => ∃ ad len cap, v = .slice ad len cap ∧ Limbs (rd w' X) ad len cap l) := by
 obtain rfl := h.hlen
 have hcap := h.hcap
 have hbig := h.hbig
 refine zZ (n := 5) (vs := [.slice ad l.length cap]) Try.func66 rfl rfl rfl kr (fun a0 A0 => ?_)
 have A0 : Fr 5 a0 [(0, .slice ad l.length cap)] := A0
 have j0 : St E0 w X w X [] := St.start hX
 refine zD (fun K1 C1 => ?_)
 refine zC ?_
 refine zB 1 [(2, .slice none 0 0)] A0 kr kr (fun a2 A2 => ?_)
 refine zE ?_
 refine zA (C1 _ _ ?_)
 refine zD (fun K3 C3 => ?_)
 refine zC ?_
 refine zB 1 [(3, .slice ad l.length cap)] A2 kr kr (fun a4 A4 => ?_)
 refine wplI A4 kr (zK (d := 4) (f := 90) (cap := #[]) (vs := #[.slice ad l.length cap]) A4 kr j0 rfl kr kr (fun w => Try.call90 _ w) (CopyLimbs_c _ _ j0.lt _ _ _ _ h (by omega)) ?_)
 rintro v5 w5 j5 q5 hu5 ⟨ad5, len5, cap5, rfl, hN5⟩ a6 A6
 refine zB 1 [(2, .slice ad5 len5 cap5)] A6 kr kr (fun a7 A7 => ?_)
 refine zE ?_
 refine zA (C3 _ _ ?_)
 refine zQ ?_
 refine zR (v := .slice ad5 len5 cap5) (rs := [.tmp 2]) A7 kr (Res.tmp kr Res.nil) kr ?_
 exact ⟨j5.upd, _, rfl, _, _, _, rfl, hN5.mono j5.le⟩
theorem CopyRat_c (w : World) (X : Hid) (hX : ∀ k o, X k o → k < w.heap.size) (a : Raw) (ad₁ : Option Addr) (len₁ cap₁ : Nat) (h₁ : Limbs (rd w X) ad₁ len₁ cap₁ a.ln) (ae₁ : Option Addr) (le₁ ce₁ : Nat) (k₁ : Limbs (rd w X) ae₁ le₁ ce₁ a.ld) (hm : len₁ ≤ 1000000) (hm2 : le₁ ≤ 1000000) : Calls Try.prog 43 #[.agg #[.bool a.neg, .slice ad₁ len₁ cap₁, .slice ae₁ le₁ ce₁]] w (Ret E0 w fun w' v => RawX X w' v a) := by
 refine zZ (n := 12) (vs := [.agg #[.bool a.neg, .slice ad₁ len₁ cap₁, .slice ae₁ le₁ ce₁]]) Try.func43 rfl rfl rfl kr (fun a0 A0 => ?_)
 have A0 : Fr 12 a0 [(0, .agg #[.bool a.neg, .slice ad₁ len₁ cap₁, .slice ae₁ le₁ ce₁])] := A0
 have j0 : St E0 w X w X [] := St.start hX
 refine zD (fun K1 C1 => ?_)
 refine zC ?_
 refine wplI A0 kr (zN (d := 1) (fun b => .pointer (some ⟨b, 0, none⟩)) (.cells #[.bool a.neg, .slice ad₁ len₁ cap₁, .slice ae₁ le₁ ce₁] 25 (0, 0)) A0 kr j0 kw ?_)
 intro b2 w2 Y2 j2 q2 hu2 a3 A3
 refine wplI A3 kr (zN (d := 2) (fun b => .pointer (some ⟨b, 0, none⟩)) (.cells #[.bool false, .slice none 0 0, .slice none 0 0] 25 (0, 0)) A3 kr j2 kw ?_)
 intro b4 w4 Y4 j4 q4 hu4 a5 A5
 refine zE ?_
 refine zA (C1 _ _ ?_)
 refine zD (fun K6 C6 => ?_)
 refine qD (N := 10) (Held [(⟨b2, 0, none⟩, [.bool a.neg]), (⟨b2, 1, none⟩, [.slice ad₁ len₁ cap₁]), (⟨b2, 2, none⟩, [.slice ae₁ le₁ ce₁])]) [9] kr kr kr j4 ?_
 intro w7 j7 q7 hu7
 refine zX (Held.cons (j7.cells 1 rfl rfl) (Held.cons (j7.cells 1 rfl rfl) (Held.cons (j7.cells 1 rfl rfl) (Held.nil _)))) (fun hH7 => ?_)
 refine zH (d := 3) (v := .pointer (some ⟨b2, 0, none⟩)) 0 A5 rfl kr kr kw (fun _ => hH7) ?_
 intro a8 A8
 refine zY (d := 4) (v := .bool a.neg) 1 A8 rfl kr kr kr (fun w hw => zF (t := 4) (g := false) (vs := [.bool a.neg]) (ad := ⟨b2, 0, none⟩) rfl kr kr ir (hw.get 0 kr)) hH7 ?_
 intro a9 A9
 refine zH (d := 5) (v := .pointer (some ⟨b2, 1, none⟩)) 2 A9 rfl kr kr kw (fun _ => hH7) ?_
 intro a10 A10
 refine zY (d := 6) (v := .slice ad₁ len₁ cap₁) 3 A10 rfl kr kr kr (fun w hw => zF (t := 23) (g := false) (vs := [.slice ad₁ len₁ cap₁]) (ad := ⟨b2, 1, none⟩) rfl kr kr ir (hw.get 1 kr)) hH7 ?_
 intro a11 A11
 refine zH (d := 8) (v := .pointer (some ⟨b2, 2, none⟩)) 5 A11 rfl kr kr kw (fun _ => hH7) ?_
 intro a12 A12
 refine zY (d := 9) (v := .slice ae₁ le₁ ce₁) 6 A12 rfl kr kr kr (fun w hw => zF (t := 23) (g := false) (vs := [.slice ae₁ le₁ ce₁]) (ad := ⟨b2, 2, none⟩) rfl kr kr ir (hw.get 2 kr)) hH7 ?_
 intro a13 A13
 refine zM [4] kr rfl ?_
 refine ForkT.cons (i := 4) A13 rfl kr (zK (d := 7) (f := 66) (cap := #[]) (vs := #[.slice ad₁ len₁ cap₁]) A13 kr j7 rfl kr kr (fun w => Try.call66 _ w) (CopyNat_c _ _ j7.lt _ _ _ _ (h₁.mono (Le3 q2 q4 q7)) (by omega)) ?_) ForkT.nil
 rintro v14 w14 j14 q14 hu14 ⟨ad14, len14, cap14, rfl, hN14⟩ a15 A15
 refine zI (hH7.up hu14) (fun hH14 => ?_)
 refine zM [7] kr rfl ?_
 refine ForkT.cons (i := 7) A15 rfl kr (zK (d := 10) (f := 66) (cap := #[]) (vs := #[.slice ae₁ le₁ ce₁]) A15 kr j14 rfl kr kr (fun w => Try.call66 _ w) (CopyNat_c _ _ j14.lt _ _ _ _ (k₁.mono (Le4 q2 q4 q7 q14)) (by omega)) ?_) ForkT.nil
 rintro v16 w16 j16 q16 hu16 ⟨ad16, len16, cap16, rfl, hN16⟩ a17 A17
 refine zI (hH14.up hu16) (fun hH16 => ?_)
 refine zH (d := 11) (v := .agg #[.bool a.neg, .slice ad14 len14 cap14, .slice ad16 len16 cap16]) 8 A17 rfl kr kr kw (fun _ => hH16) ?_
 intro a18 A18
 refine zM [9] kr rfl ?_
 refine ForkT.cons (i := 9) A18 rfl kr (zO (t := 25) (b := b4) (off := 0) (c' := #[.bool a.neg, .slice ad14 len14 cap14, .slice ad16 len16 cap16]) (g := true) (m := 3) 0 _ A18 kr j16 rfl kr rfl kr kr kr rfl (by first | decide | (simp; done)) kr rfl ?_) ForkT.nil
 intro w19 j19 q19
 refine ⟨begun_tt kr, ?_⟩
 refine qB kr (nrm ?_)
 refine zA (C6 _ _ ?_)
 refine zQ ?_
 refine zR (v := .agg #[.bool a.neg, .slice ad14 len14 cap14, .slice ad16 len16 cap16]) (rs := [.cell 2 25]) A18 kr (Res.cell (ad := ⟨b4, 0, none⟩) (cs := [.bool a.neg, .slice ad14 len14 cap14, .slice ad16 len16 cap16]) (g := true) kr kr kr ir (j19.cells 0 rfl rfl) Res.nil) kr ?_
 exact ⟨j19.upd, _, rfl, ⟨_, _, _, _, _, _, rfl, (hN14.mono (Le2 q16 q19)).mono j19.le, (hN16.mono q19).mono j19.le⟩⟩
theorem CopyRats_c (w : World) (X : Hid) (hX : ∀ k o, X k o → k < w.heap.size) (ad : Option Addr) (len cap : Nat) (xs : List Raw) (h : Rats (rd w X) ad len cap xs) (hm : len ≤ 1000000) (hsm : ∀ x ∈ xs, ∀ (a1 : Option Addr) (a2 a3 : Nat) (a4 : Option Addr) (a5 a6 : Nat), Limbs (rd w X) a1 a2 a3 x.ln → Limbs (rd w X) a4 a5 a6 x.ld → a2 ≤ 1000000 ∧ a5 ≤ 1000000) : Calls Try.prog 22 #[.slice ad len cap] w (Ret E0 w fun w' v => ∃ (rb : List (Nat × Obj)) (ad : Option Addr) (len cap : Nat) (es : List RE), v = .slice ad len cap ∧ TRow 25 3 rb ad len cap (flat es) ∧ es.map (·.x) = xs ∧ (∀ p ∈ rb, w.heap.size ≤ p.1 ∧ w'.heap[p.1]? = some p.2) ∧ ∀ e ∈ es, e.ok (rd w' (hideL rb X))) := by
 obtain rfl := h.hlen
 have hcap := h.hcap
 have hbig := h.hbig
 refine zZ (n := 20) (vs := [.slice ad xs.length cap]) Try.func22 rfl rfl rfl kr (fun a0 A0 => ?_)
 have A0 : Fr 20 a0 [(0, .slice ad xs.length cap)] := A0
 have j0 : St E0 w X w X [] := St.start hX
 refine zD (fun K1 C1 => ?_)
 refine zC ?_
 refine zB 1 [(2, .slice none 0 0)] A0 kr kr (fun a2 A2 => ?_)
 refine zE ?_
 refine zA (C1 _ _ ?_)
 refine zD (fun K3 C3 => ?_)
 refine zC ?_
 refine zB 1 [(3, .slice none 0 0)] A2 kr kr (fun a4 A4 => ?_)
 refine zE ?_
 refine zA (C3 _ _ ?_)
 refine zD (fun K5 C5 => ?_)
 refine zD (fun K6 C6 => ?_)
 refine zC ?_
 refine zB 1 [(4, .int .i64 0)] A4 kr kr (fun a7 A7 => ?_)
 refine zE ?_
 refine zA (C6 _ _ ?_)
 refine zV ?_
 refine qC (fun (k : Nat) ac w1 => ∃ (Y1 : Hid) (rb1 : List (Nat × Obj)) (adr : Option Addr) (capr : Nat) (es : List RE), Fr 20 ac [(0, .slice ad xs.length cap), (3, .slice adr k capr), (4, .int .i64 (k : Int))] ∧ St E0 w X w1 Y1 (rb1) ∧ Le (rd w X) (rd w1 Y1) ∧ (TRow 25 3 rb1 adr k capr (flat es)) ∧ (es.map (·.x) = xs.take k) ∧ (∀ e ∈ es, e.ok (rd w1 Y1)) ∧ (k ≤ xs.length)) (fun (k : Nat) => xs.length - k) 0 ?_ ?_
 ·
  refine ⟨_, [], none, 0, [], A7.as [0, 3, 4] kr kr, j0, Le.refl _, TRow.nil _ _, rfl, fun _ h => absurd h (by simp), Nat.zero_le _⟩
 rintro k a8 w8 ⟨Y8, rb1, adr, capr, es, A8, j8, q8, hp8_0, hp8_1, hp8_2, hp8_3⟩
 have hr1 := hp8_0
 have hq1 := hp8_1
 have hk1 := hp8_2
 have hkl := hp8_3
 refine zD (fun K9 C9 => ?_)
 refine zD (fun K10 C10 => ?_)
 refine zC ?_
 refine zB 4 [(8, .bool (decide ((k : Int) < (xs.length : Int)))), (7, .int .i64 (xs.length : Int)), (6, .slice ad xs.length cap), (5, .int .i64 (k : Int))] A8 kr kr (fun a11 A11 => ?_)
 refine zE ?_
 refine zA (C10 _ _ ?_)
 refine zS (decide ((k : Int) < (xs.length : Int))) A11 kr kr (fun hc12 => ?_) (fun hc12 => ?_)
 ·
  have A13 := A11.set 8 (v' := .bool true) kr rfl (zG hc12)
  have ht14 : (k : Int) < (xs.length : Int) := of_decide_eq_true hc12
  obtain ⟨bx, offx, xx, anx, lnx, cnx, amx, lmx, cmx, rfl, hxx, hAx, hLx, hMx⟩ := h.cell (k := k) (by omega)
  have hcl := hsm xx (List.mem_of_getElem? hxx) _ _ _ _ _ _ hLx hMx
  refine i_skip ?_
  refine zA (C9 _ _ ?_)
  refine zD (fun K15 C15 => ?_)
  refine zV ?_
  refine zC ?_
  refine zB 3 [(13, .int .i64 (k : Int)), (12, .slice (some ⟨bx, offx, none⟩) xs.length cap), (11, .slice adr k capr)] A13 kr kr (fun a16 A16 => ?_)
  refine wplI A16 kr (zJ (d := 14) (v := .pointer (some ⟨bx, offx + k * 3, none⟩)) A16 kr (zP (t := 29) (e := 25) (b := bx) (off := offx) (len := xs.length) (cap := cap) (kd := .i64) (i := (k : Int)) (g := true) (m := 3) (off' := offx + k * 3) rfl kr kr kr kr (by omega) (by omega) (by first | rfl | omega | (simp; done) | (simp; omega)) _) ?_)
  intro a17 A17
  refine wplI A17 kr (zJ (d := 15) (v := .agg #[.bool xx.neg, .slice anx lnx cnx, .slice amx lmx cmx]) A17 kr (zF (t := 25) (g := true) (vs := [.bool xx.neg, .slice anx lnx cnx, .slice amx lmx cmx]) (ad := ⟨bx, offx + k * 3, none⟩) rfl kr kr ir ((hAx.mono q8)).cells) ?_)
  intro a18 A18
  refine wplI A18 kr (zK (d := 16) (f := 43) (cap := #[]) (vs := #[.agg #[.bool xx.neg, .slice anx lnx cnx, .slice amx lmx cmx]]) A18 kr j8 rfl kr kr (fun w => Try.call43 _ w) (CopyRat_c _ _ j8.lt xx _ _ _ (hLx.mono q8) _ _ _ (hMx.mono q8) hcl.1 hcl.2) ?_)
  rintro v19 w19 j19 q19 hu19 ⟨ad19, len19, cap19, ae19, le19, ce19, rfl, hN19, hD19⟩ a20 A20
  refine wplI A20 kr (zN (d := 17) (fun b => .slice (some ⟨b, 0, none⟩) 1 1) (.cells #[.bool xx.neg, .slice ad19 len19 cap19, .slice ae19 le19 ce19] 25 (0, 0)) A20 kr j19 kw ?_)
  intro b21 w21 Y21 j21 q21 hu21 a22 A22
  refine wplI A22 kr (op_appE (d := 18) (t := 29) (e := 25) (size := 3) (m := 1) (c := 1) (nn := k) (cap := capr) (ad0 := adr) (xs := (flat es)) (news := [.bool xx.neg, .slice ad19 len19 cap19, .slice ae19 le19 ce19]) (ad := ⟨b21, 0, none⟩) (z := .agg #[.bool false, .slice none 0 0, .slice none 0 0]) (i0 := Try.t25) (rb := rb1) (R1 := []) 1 A22 kr j21 rfl rfl kr kr kr kr kr kr kr hr1 (j21.cells 0 rfl rfl) kr kr (by omega) (by simp only [maxLen]; omega) (by show (_ + 1) * 56 ≤ _; omega) ?_)
  intro rb23 ad23 cap23 w23 Y23 hrow23 j23 q23 a24 A24
  have hrw23 : TRow 25 3 rb23 ad23 (k + 1) cap23 (flat (es ++ [(RE.mk xx ad19 len19 cap19 ae19 le19 ce19)])) := by rw [flat_snoc]; exact hrow23
  refine zB 1 [(3, .slice ad23 (k + 1) cap23)] A24 kr kr (fun a25 A25 => ?_)
  refine zE ?_
  refine zW ?_
  refine zA (C15 _ _ ?_)
  refine zC ?_
  refine zB 2 [(10, .int .i64 (IntKind.i64.wrap ((k : Int) + 1))), (9, .int .i64 (k : Int))] A25 kr kr (fun a26 A26 => ?_)
  have A27 := A26.set 10 (v' := .int .i64 ((k : Int) + 1)) kr rfl (vint (wi64 (by omega) (by omega)))
  refine zB 1 [(4, .int .i64 ((k : Int) + 1))] A27 kr kr (fun a28 A28 => ?_)
  refine zE ?_
  refine zA ?_
  refine ⟨k + 1, ⟨_, rb23, ad23, cap23, (es ++ [(RE.mk xx ad19 len19 cap19 ae19 le19 ce19)]), A28.as [0, 3, 4] kr kr, j23.tail, (Le4 q8 q19 q21 q23), hrw23, by rw [List.map_append, hq1, take_snoc hxx]; rfl, fun e he => by rcases List.mem_append.1 he with h1 | h1; exact (hk1 e h1).mono (Le3 q19 q21 q23); obtain rfl := List.mem_singleton.1 h1; exact ⟨(hN19.mono (Le2 q21 q23)), (hD19.mono (Le2 q21 q23))⟩, by omega⟩, ?_⟩
  first | omega | (simp; omega)
 have A29 := A11.set 8 (v' := .bool false) kr rfl (zG hc12)
 have ht30 : ¬ ((k : Int) < (xs.length : Int)) := of_decide_eq_false hc12
 refine i_exit ?_
 refine zT ?_
 refine zT ?_
 refine qA ?_
 refine zA (C5 _ _ ?_)
 refine zD (fun K31 C31 => ?_)
 refine zC ?_
 refine zB 2 [(2, .slice adr k capr), (19, .slice adr k capr)] A29 kr kr (fun a32 A32 => ?_)
 refine zE ?_
 refine zA (C31 _ _ ?_)
 refine zQ ?_
 refine zR (v := .slice adr k capr) (rs := [.tmp 2]) A32 kr (Res.tmp kr Res.nil) kr ?_
 have htk : es.map (·.x) = xs := hq1.trans (List.take_of_length_le (by omega))
 have hown : ∀ p ∈ rb1, w.heap.size ≤ p.1 ∧ w8.heap[p.1]? = some p.2 := fun p hp => ⟨((j8.own p hp).2.1).resolve_right (fun e => e), (j8.own p hp).1⟩
 have hlz : Le (rd w8 Y8) (rd w8 (hideL rb1 X)) := Le.unhide (fun b o hb => by rcases hb with hb | ⟨p, hp, rfl⟩; exact j8.hid _ _ hb; exact (j8.own p hp).2.2 o)
 exact ⟨j8.upd, _, rfl, rb1, _, _, _, es, rfl, hr1, htk, hown, fun e he => (hk1 e he).mono ((Le.refl _).trans hlz)⟩
theorem reach_err {m : Mdp} {s : Int} {l : List Int} {e : Int} (h : ReachV m s l e) (he : e ≠ 0) : l = [] := by
  rcases h with ⟨_, _, h⟩ | ⟨_, _, _, h⟩ | ⟨_, _, _, h, _⟩
  · exact h
  · exact h
  · exact absurd h he
theorem reach_okV {m : Mdp} {s : Int} {l : List Int} {e : Int} (h : ReachV m s l e) (he : e = 0) : m.chk = 0 ∧ Reached m s l := by
  subst he
  rcases h with ⟨h, h2, _⟩ | ⟨_, _, h2, _⟩ | ⟨h, _, _, _, h2⟩
  · exact absurd h2.symm h
  · cases h2
  · exact ⟨h, h2⟩
theorem adopt_row {w0 w w1 : World} {X Y : Hid} {M rb : List (Nat × Obj)} {e : TypeId} {sz m cap : Nat} {ad : Option Addr} {xs : List Value} (hS : St E0 w0 X w Y M) (j1 : St E0 w0 X w1 Y M) (hr : TRow e sz rb ad m cap xs) (hown : ∀ p ∈ rb, w.heap.size ≤ p.1 ∧ w1.heap[p.1]? = some p.2) (hle : Le (rd w Y) (rd w1 Y)) :
    ∃ Y', St E0 w0 X w1 Y' (rb ++ M) ∧ Le (rd w Y) (rd w1 Y') ∧ Le (rd w1 (hideL rb Y)) (rd w1 Y') := by
  rcases hr with ⟨rfl, _⟩ | ⟨g, cur, rfl, _, _⟩
  · exact ⟨Y, j1, hle, Le.unhide fun b o hb => .inl hb⟩
  · obtain ⟨h1, h2⟩ := hown _ List.mem_cons_self
    refine ⟨hide g Y, j1.adopt (fun o h => Nat.not_lt.2 h1 (hS.lt _ _ h)) (Nat.le_trans hS.upd.size h1) h2, hle.adopt h1, Le.unhide fun b o hb => ?_⟩
    rcases hb with rfl | hb
    · exact .inr ⟨_, List.mem_cons_self, rfl⟩
    · exact .inl hb
theorem trow_len {e : TypeId} {rb : List (Nat × Obj)} {ad : Option Addr} {m cap : Nat} {es : List RE} (h : TRow e 3 rb ad m cap (flat es)) : m = es.length := by
  rcases h with ⟨_, _, rfl, _, h⟩ | ⟨g, cur, _, _, h⟩
  · have := flat_len es; rw [h] at this; simp at this; omega
  · have := h.len; rw [flat_len] at this; omega
theorem reaches_c (w : World) (X : Hid) (hX : ∀ k o, X k o → k < w.heap.size) (m : Mdp) (ad : Option Addr) (len cap : Nat) (h : Limbs (rd w X) ad len cap m.disc.ln) (ae : Option Addr) (le ce : Nat) (h2 : Limbs (rd w X) ae le ce m.disc.ld) (st : Option Addr) (ls cs : Nat) (hst : StatesR (rd w X) st ls cs m.states) (v : List Raw) (av : Option Addr) (lv cv : Nat) (hv : Rats (rd w X) av lv cv v) (v2 : List Raw) (av2 : Option Addr) (lv2 cv2 : Nat) (hv2 : Rats (rd w X) av2 lv2 cv2 v2) (sv : Int) : Calls Try.prog 5 #[.agg #[.bool m.disc.neg, .slice ad len cap, .slice ae le ce, .slice st ls cs], .slice av lv cv, .slice av2 lv2 cv2, .int .i64 sv] w (Ret E0 w fun _ v => v = .bool true) := by
 obtain rfl := hv.hlen
 have hcapv := hv.hcap
 have hbigv := hv.hbig
 obtain rfl := hst.hlen
 have hcaps := hst.hcap
 have hbigs := hst.hbig
 obtain rfl := hv2.hlen
 have hcapv2 := hv2.hcap
 have hbigv2 := hv2.hbig
 obtain ⟨bx, bi, be, hB⟩ : ∃ bx bi be, m.backV v = (bx, bi, be) := ⟨_, _, _, rfl⟩
 refine zZ (n := 229) (vs := [.agg #[.bool m.disc.neg, .slice ad len cap, .slice ae le ce, .slice st m.states.length cs], .slice av v.length cv, .slice av2 v2.length cv2, .int .i64 sv]) Try.func5 rfl rfl rfl kr (fun a0 A0 => ?_)
 have A0 : Fr 229 a0 [(0, .agg #[.bool m.disc.neg, .slice ad len cap, .slice ae le ce, .slice st m.states.length cs]), (1, .slice av v.length cv), (2, .slice av2 v2.length cv2), (3, .int .i64 sv)] := A0
 have j0 : St E0 w X w X [] := St.start hX
 refine zD (fun K1 C1 => ?_)
 refine zC ?_
 refine wplI A0 kr (zN (d := 4) (fun b => .pointer (some ⟨b, 0, none⟩)) (.cells #[.bool m.disc.neg, .slice ad len cap, .slice ae le ce, .slice st m.states.length cs] 28 (0, 0)) A0 kr j0 kw ?_)
 intro b2 w2 Y2 j2 q2 hu2 a3 A3
 refine zB 1 [(8, .bool false)] A3 kr kr (fun a4 A4 => ?_)
 refine zE ?_
 refine zA (C1 _ _ ?_)
 refine zD (fun K5 C5 => ?_)
 refine zD (fun K6 C6 => ?_)
 refine zC ?_
 refine wplI A4 kr (zJ (d := 22) (v := .agg #[.bool m.disc.neg, .slice ad len cap, .slice ae le ce, .slice st m.states.length cs]) A4 kr (zF (t := 28) (g := true) (vs := [.bool m.disc.neg, .slice ad len cap, .slice ae le ce, .slice st m.states.length cs]) (ad := ⟨b2, 0, none⟩) rfl kr kr ir (j2.cells 0 rfl rfl)) ?_)
 intro a7 A7
 refine wplI A7 kr (zK (d := 23) (f := 7) (cap := #[]) (vs := #[.agg #[.bool m.disc.neg, .slice ad len cap, .slice ae le ce, .slice st m.states.length cs]]) A7 kr j2 rfl kr kr (fun w => Try.call7 _ w) (Long_c _ _ j2.lt m _ _ _ (h.mono q2) _ _ _ (h2.mono q2) _ _ _ (hst.mono q2)) ?_)
 rintro v8 w8 j8 q8 hu8 ⟨bb8, rfl⟩ a9 A9
 refine zB 1 [(24, .bool bb8)] A9 kr kr (fun a10 A10 => ?_)
 rcases Bool.eq_false_or_eq_true bb8 with hc11 | hc11
 ·
  have A12 := A10.set 24 (v' := .bool true) kr rfl (zG hc11)
  have ht13 : bb8 = true := by simpa using hc11
  refine zB 11 [(35, .bool true), (34, undef), (33, undef), (32, .bool true), (31, .bool true), (30, undef), (29, undef), (28, .bool true), (27, .bool true), (26, undef), (25, undef)] A12 kr kr (fun a14 A14 => ?_)
  refine zE ?_
  refine zA (C6 _ _ ?_)
  refine qG A14 kr kr ?_
  refine zD (fun K15 C15 => ?_)
  refine zC ?_
  refine wplI A14 kr (zK (d := 36) (f := 9) (cap := #[]) (vs := #[]) A14 kr j8 rfl kr kr (fun w => Try.call9 _ w) (awake_c _ _ j8.lt) ?_)
  rintro v16 w16 j16 q16 hu16 rfl a17 A17
  refine zB 1 [(8, .bool true)] A17 kr kr (fun a18 A18 => ?_)
  refine zE ?_
  refine zA (C15 _ _ ?_)
  refine zQ ?_
  refine zL ?_
  refine zR (v := .bool true) (rs := [.tmp 8]) A18 kr (Res.tmp kr Res.nil) kr ?_
  exact ⟨j16.upd, _, rfl, rfl⟩
 have A19 := A10.set 24 (v' := .bool false) kr rfl (zG hc11)
 have ht20 : bb8 = false := by simpa using hc11
 try have hl20_8 := (hbb8 ht20).1
 try have hl200_8 := (hbb8 ht20).2
 refine zB 1 [(25, .slice av v.length cv)] A19 kr kr (fun a21 A21 => ?_)
 refine wplI A21 kr (zK (d := 26) (f := 8) (cap := #[]) (vs := #[.slice av v.length cv]) A21 kr j8 rfl kr kr (fun w => Try.call8 _ w) (LongList_c _ _ j8.lt _ _ _ v (hv.mono (Le2 q2 q8))) ?_)
 rintro v22 w22 j22 q22 hu22 ⟨bb22, rfl, hbb22⟩ a23 A23
 refine zB 2 [(28, .bool bb22), (27, .bool bb22)] A23 kr kr (fun a24 A24 => ?_)
 rcases Bool.eq_false_or_eq_true bb22 with hc25 | hc25
 ·
  have A26 := A24.set 28 (v' := .bool true) kr rfl (zG hc25)
  have ht27 : bb22 = true := by simpa using hc25
  refine zB 7 [(35, .bool true), (34, undef), (33, undef), (32, .bool true), (31, .bool true), (30, undef), (29, undef)] A26 kr kr (fun a28 A28 => ?_)
  refine zE ?_
  refine zA (C6 _ _ ?_)
  refine qG A28 kr kr ?_
  refine zD (fun K29 C29 => ?_)
  refine zC ?_
  refine wplI A28 kr (zK (d := 36) (f := 9) (cap := #[]) (vs := #[]) A28 kr j22 rfl kr kr (fun w => Try.call9 _ w) (awake_c _ _ j22.lt) ?_)
  rintro v30 w30 j30 q30 hu30 rfl a31 A31
  refine zB 1 [(8, .bool true)] A31 kr kr (fun a32 A32 => ?_)
  refine zE ?_
  refine zA (C29 _ _ ?_)
  refine zQ ?_
  refine zL ?_
  refine zR (v := .bool true) (rs := [.tmp 8]) A32 kr (Res.tmp kr Res.nil) kr ?_
  exact ⟨j30.upd, _, rfl, rfl⟩
 have A33 := A24.set 28 (v' := .bool false) kr rfl (zG hc25)
 have ht34 : bb22 = false := by simpa using hc25
 try have hl20_22 := (hbb22 ht34).1
 try have hl200_22 := (hbb22 ht34).2
 refine zB 1 [(29, .slice av2 v2.length cv2)] A33 kr kr (fun a35 A35 => ?_)
 refine wplI A35 kr (zK (d := 30) (f := 8) (cap := #[]) (vs := #[.slice av2 v2.length cv2]) A35 kr j22 rfl kr kr (fun w => Try.call8 _ w) (LongList_c _ _ j22.lt _ _ _ v2 (hv2.mono (Le3 q2 q8 q22))) ?_)
 rintro v36 w36 j36 q36 hu36 ⟨bb36, rfl, hbb36⟩ a37 A37
 refine zB 2 [(32, .bool bb36), (31, .bool bb36)] A37 kr kr (fun a38 A38 => ?_)
 rcases Bool.eq_false_or_eq_true bb36 with hc39 | hc39
 ·
  have A40 := A38.set 32 (v' := .bool true) kr rfl (zG hc39)
  have ht41 : bb36 = true := by simpa using hc39
  refine zB 3 [(35, .bool true), (34, undef), (33, undef)] A40 kr kr (fun a42 A42 => ?_)
  refine zE ?_
  refine zA (C6 _ _ ?_)
  refine qG A42 kr kr ?_
  refine zD (fun K43 C43 => ?_)
  refine zC ?_
  refine wplI A42 kr (zK (d := 36) (f := 9) (cap := #[]) (vs := #[]) A42 kr j36 rfl kr kr (fun w => Try.call9 _ w) (awake_c _ _ j36.lt) ?_)
  rintro v44 w44 j44 q44 hu44 rfl a45 A45
  refine zB 1 [(8, .bool true)] A45 kr kr (fun a46 A46 => ?_)
  refine zE ?_
  refine zA (C43 _ _ ?_)
  refine zQ ?_
  refine zL ?_
  refine zR (v := .bool true) (rs := [.tmp 8]) A46 kr (Res.tmp kr Res.nil) kr ?_
  exact ⟨j44.upd, _, rfl, rfl⟩
 have A47 := A38.set 32 (v' := .bool false) kr rfl (zG hc39)
 have ht48 : bb36 = false := by simpa using hc39
 try have hl20_36 := (hbb36 ht48).1
 try have hl200_36 := (hbb36 ht48).2
 refine wplI A47 kr (zK (d := 33) (f := 9) (cap := #[]) (vs := #[]) A47 kr j36 rfl kr kr (fun w => Try.call9 _ w) (awake_c _ _ j36.lt) ?_)
 rintro v49 w49 j49 q49 hu49 rfl a50 A50
 refine zB 2 [(35, .bool false), (34, .bool false)] A50 kr kr (fun a51 A51 => ?_)
 refine zE ?_
 refine zA (C6 _ _ ?_)
 refine qH A51 kr kr ?_
 refine i_skip ?_
 refine zA (C5 _ _ ?_)
 refine zD (fun K52 C52 => ?_)
 refine zC ?_
 refine wplI A51 kr (zJ (d := 38) (v := .agg #[.bool m.disc.neg, .slice ad len cap, .slice ae le ce, .slice st m.states.length cs]) A51 kr (zF (t := 28) (g := true) (vs := [.bool m.disc.neg, .slice ad len cap, .slice ae le ce, .slice st m.states.length cs]) (ad := ⟨b2, 0, none⟩) rfl kr kr ir (j49.cells 0 rfl rfl)) ?_)
 intro a53 A53
 refine zB 1 [(39, .int .i64 sv)] A53 kr kr (fun a54 A54 => ?_)
 refine wplI A54 kr (zK (d := 40) (f := 20) (cap := #[]) (vs := #[.agg #[.bool m.disc.neg, .slice ad len cap, .slice ae le ce, .slice st m.states.length cs], .int .i64 sv]) A54 kr j49 rfl kr kr (fun w => Try.call20 _ w) (Reach_c _ _ j49.lt m _ _ _ (h.mono (Le5 q2 q8 q22 q36 q49)) _ _ _ (h2.mono (Le5 q2 q8 q22 q36 q49)) _ _ _ (hst.mono (Le5 q2 q8 q22 q36 q49)) sv) ?_)
 rintro v55 w55 j55 q55 hu55 ⟨ad55, len55, cap55, l55, e55, rfl, hI55, hV55⟩ a56 A56
 refine zB 5 [(10, .int .i64 e55), (9, .slice ad55 len55 cap55), (42, .int .i64 e55), (41, .slice ad55 len55 cap55), (37, .tuple #[.slice ad55 len55 cap55, .int .i64 e55])] A56 kr kr (fun a57 A57 => ?_)
 refine zE ?_
 refine zA (C52 _ _ ?_)
 refine zD (fun K58 C58 => ?_)
 refine zD (fun K59 C59 => ?_)
 refine zC ?_
 refine zB 2 [(44, .bool ((e55) != 0)), (43, .int .i64 e55)] A57 kr kr (fun a60 A60 => ?_)
 refine zE ?_
 refine zA (C59 _ _ ?_)
 refine zS ((e55) != 0) A60 kr kr (fun hc61 => ?_) (fun hc61 => ?_)
 ·
  have A62 := A60.set 44 (v' := .bool true) kr rfl (zG hc61)
  have ht63 : (e55) ≠ 0 := by simpa using hc61
  have hl0 : len55 = 0 := by have h9 := hI55.hlen; rw [reach_err hV55 ht63] at h9; exact h9
  refine zD (fun K64 C64 => ?_)
  refine zC ?_
  refine zB 4 [(8, .bool ((len55 : Int) == 0)), (47, .bool ((len55 : Int) == 0)), (46, .int .i64 (len55 : Int)), (45, .slice ad55 len55 cap55)] A62 kr kr (fun a65 A65 => ?_)
  refine zE ?_
  refine zA (C64 _ _ ?_)
  refine zQ ?_
  refine zL ?_
  refine zR (v := .bool ((len55 : Int) == 0)) (rs := [.tmp 8]) A65 kr (Res.tmp kr Res.nil) kr ?_
  exact ⟨j55.upd, _, rfl, vboolE (by simp; omega)⟩
 have A66 := A60.set 44 (v' := .bool false) kr rfl (zG hc61)
 have ht67 : (e55) = 0 := by simpa using hc61
 obtain ⟨hchk, hR9⟩ := reach_okV hV55 ht67
 obtain ⟨l9, hl9⟩ : ∃ l9, l9 = l55 := ⟨_, rfl⟩
 rw [← hl9] at hR9
 have hI9 := hI55
 rw [← hl9] at hI9
 have hll := hI9.hlen
 have hcapl := hI9.hcap
 have hbigl := hI9.hbig
 refine i_skip ?_
 refine zA (C58 _ _ ?_)
 refine zD (fun K68 C68 => ?_)
 refine zD (fun K69 C69 => ?_)
 refine zC ?_
 refine zB 2 [(49, .int .i64 sv), (48, .slice ad55 len55 cap55)] A66 kr kr (fun a70 A70 => ?_)
 refine wplI A70 kr (zK (d := 50) (f := 21) (cap := #[]) (vs := #[.slice ad55 len55 cap55, .int .i64 sv]) A70 kr j55 rfl kr kr (fun w => Try.call21 _ w) (HasInt_c _ _ j55.lt _ _ _ l9 hI9 sv) ?_)
 rintro v71 w71 j71 q71 hu71 rfl a72 A72
 refine zB 1 [(51, .bool (!(decide (sv ∈ l9))))] A72 kr kr (fun a73 A73 => ?_)
 refine zE ?_
 refine zA (C69 _ _ ?_)
 refine zS (!(decide (sv ∈ l9))) A73 kr kr (fun hc74 => ?_) (fun hc74 => ?_)
 ·
  have A75 := A73.set 51 (v' := .bool true) kr rfl (zG hc74)
  have ht76 : ¬ (sv ∈ l9) := by simpa using hc74
  exact absurd hR9.self (by simpa using ht76)
 have A77 := A73.set 51 (v' := .bool false) kr rfl (zG hc74)
 have ht78 : sv ∈ l9 := by simpa using hc74
 refine i_skip ?_
 refine zA (C68 _ _ ?_)
 refine zD (fun K79 C79 => ?_)
 refine zC ?_
 refine zB 1 [(52, .slice av2 v2.length cv2)] A77 kr kr (fun a80 A80 => ?_)
 refine wplI A80 kr (zK (d := 53) (f := 22) (cap := #[]) (vs := #[.slice av2 v2.length cv2]) A80 kr j71 rfl kr kr (fun w => Try.call22 _ w) (CopyRats_c _ _ j71.lt _ _ _ v2 (hv2.mono (Le7 q2 q8 q22 q36 q49 q55 q71)) (by omega) (fun x hx a1 a2 a3 a4 a5 a6 g1 g2 => by have h9 := hl200_36 x hx; have h8 := g1.hlen; have h7 := g2.hlen; omega)) ?_)
 rintro v81 w81 j81 q81 hu81 ⟨rbm, adm, lenm, capm, esm, rfl, hrm, hqm, hownm, hokm⟩ a82 A82
 obtain ⟨Y83, hSx83, q83, hlz83⟩ := adopt_row j71 j81 hrm hownm q81
 have j83 : St E0 w X w81 Y83 ((b2, .cells #[.bool m.disc.neg, .slice ad len cap, .slice ae le ce, .slice st m.states.length cs] 28 (0, 0)) :: rbm) := hSx83.perm (List.perm_append_comm (l₁ := ([(b2, .cells #[.bool m.disc.neg, .slice ad len cap, .slice ae le ce, .slice st m.states.length cs] 28 (0, 0))] : List (Nat × Obj))) (l₂ := rbm))
 have hlm : lenm = v2.length := by rw [← hqm, List.length_map]; exact trow_len hrm
 refine zB 1 [(11, .slice adm lenm capm)] A82 kr kr (fun a84 A84 => ?_)
 refine zE ?_
 refine zA (C79 _ _ ?_)
 refine zD (fun K85 C85 => ?_)
 refine zD (fun K86 C86 => ?_)
 refine zC ?_
 refine zB 1 [(12, .int .i64 0)] A84 kr kr (fun a87 A87 => ?_)
 refine zE ?_
 refine zA (C86 _ _ ?_)
 refine zV ?_
 refine qC (fun (k : Nat) ac w1 => ∃ (Y1 : Hid) (rbm1 : List (Nat × Obj)) (adm1 : Option Addr) (capm1 : Nat) (es : List RE), Fr 229 ac [(1, .slice av v.length cv), (4, .pointer (some ⟨b2, 0, none⟩)), (9, .slice ad55 len55 cap55), (11, .slice adm1 lenm capm1), (12, .int .i64 (k : Int))] ∧ St E0 w X w1 Y1 ((b2, .cells #[.bool m.disc.neg, .slice ad len cap, .slice ae le ce, .slice st m.states.length cs] 28 (0, 0)) :: rbm1) ∧ Le (rd w81 Y83) (rd w1 Y1) ∧ (TRow 25 3 rbm1 adm1 lenm capm1 (flat es)) ∧ (es.length = v2.length) ∧ (∀ e ∈ es, e.ok (rd w1 Y1)) ∧ (Agree v (es.map (·.x)) (l9.take k)) ∧ (k ≤ len55)) (fun (k : Nat) => len55 - k) 0 ?_ ?_
 ·
  refine ⟨_, rbm, adm, capm, esm, A87.as [1, 4, 9, 11, 12] kr kr, j83, Le.refl _, hrm, by rw [← hlm]; exact (trow_len hrm).symm, fun e he => (hokm e he).mono hlz83, Agree.nil, Nat.zero_le _⟩
 rintro k a88 w88 ⟨Y88, rbm1, adm1, capm1, es, A88, j88, q88, hp88_0, hp88_1, hp88_2, hp88_3, hp88_4⟩
 have hr1 := hp88_0
 have hel := hp88_1
 have hk1 := hp88_2
 have hag := hp88_3
 have hkl := hp88_4
 have hes := trow_len hr1
 refine zD (fun K89 C89 => ?_)
 refine zD (fun K90 C90 => ?_)
 refine zC ?_
 refine zB 4 [(57, .bool (decide ((k : Int) < (len55 : Int)))), (56, .int .i64 (len55 : Int)), (55, .slice ad55 len55 cap55), (54, .int .i64 (k : Int))] A88 kr kr (fun a91 A91 => ?_)
 refine zE ?_
 refine zA (C90 _ _ ?_)
 refine zS (decide ((k : Int) < (len55 : Int))) A91 kr kr (fun hc92 => ?_) (fun hc92 => ?_)
 ·
  have A93 := A91.set 57 (v' := .bool true) kr rfl (zG hc92)
  have ht94 : (k : Int) < (len55 : Int) := of_decide_eq_true hc92
  obtain ⟨bi, offi, rfl⟩ := SlR.addr hI9 (by omega)
  obtain ⟨xi, hxi, hAi⟩ := SlR.at hI9 (k := k) (by omega)
  have hBi := int_at hAi
  have hrg := hR9.range xi (List.mem_of_getElem? hxi)
  obtain ⟨b0, off0, rfl⟩ := hst.addr (by omega)
  obtain ⟨sx, ax, lx, cx, hxs, hAs, hacts⟩ := hst.at (k := xi.toNat) (by omega)
  obtain rfl := hacts.hlen
  have hcapx := hacts.hcap
  have hbigx := hacts.hbig
  have hAs1 : At (rd w X) ⟨b0, off0 + xi.toNat, none⟩ [.slice ax sx.length cx] := by simpa using hAs
  refine i_skip ?_
  refine zA (C89 _ _ ?_)
  refine zD (fun K95 C95 => ?_)
  refine zV ?_
  refine zD (fun K96 C96 => ?_)
  refine zD (fun K97 C97 => ?_)
  have hJ9001 : ∀ a9001 w9001, (∃ (Y9001 : Hid) (bj9001_90 : Bool), Fr 229 a9001 [(1, .slice av v.length cv), (4, .pointer (some ⟨b2, 0, none⟩)), (9, .slice (some ⟨bi, offi, none⟩) len55 cap55), (11, .slice adm1 lenm capm1), (12, .int .i64 (k : Int)), (90, .bool bj9001_90)] ∧ St E0 w X w9001 Y9001 ((b2, .cells #[.bool m.disc.neg, .slice ad len cap, .slice ae le ce, .slice (some ⟨b0, off0, none⟩) m.states.length cs] 28 (0, 0)) :: rbm1) ∧ Le (rd w88 Y88) (rd w9001 Y9001) ∧ (bj9001_90 = false)) → K97 a9001 w9001 := by
   rintro a9001 w9001 ⟨Y9001, bj9001_90, A9001, j9001, q9001, hjp9001⟩
   refine C97 _ _ ?_
   refine zS bj9001_90 A9001 kr kr (fun hc98 => ?_) (fun hc98 => ?_)
   ·
    have A99 := A9001.set 90 (v' := .bool true) kr rfl (zG hc98)
    have ht100 : bj9001_90 = true := by simpa using hc98
    rw [hjp9001] at ht100; cases ht100
   have A101 := A9001.set 90 (v' := .bool false) kr rfl (zG hc98)
   have ht102 : bj9001_90 = false := by simpa using hc98
   refine i_skip ?_
   refine zA (C96 _ _ ?_)
   refine zD (fun K103 C103 => ?_)
   refine zD (fun K104 C104 => ?_)
   refine zC ?_
   refine zB 1 [(13, .int .i64 0)] A101 kr kr (fun a105 A105 => ?_)
   refine zE ?_
   refine zA (C104 _ _ ?_)
   refine zV ?_
   refine qC (fun (j : Nat) ac w1 => ∃ (Y1 : Hid), Fr 229 ac [(1, .slice av v.length cv), (4, .pointer (some ⟨b2, 0, none⟩)), (9, .slice (some ⟨bi, offi, none⟩) len55 cap55), (11, .slice adm1 lenm capm1), (12, .int .i64 (k : Int)), (13, .int .i64 (j : Int))] ∧ St E0 w X w1 Y1 ((b2, .cells #[.bool m.disc.neg, .slice ad len cap, .slice ae le ce, .slice (some ⟨b0, off0, none⟩) m.states.length cs] 28 (0, 0)) :: rbm1) ∧ Le (rd w9001 Y9001) (rd w1 Y1) ∧ (j ≤ sx.length)) (fun (j : Nat) => sx.length - j) 0 ?_ ?_
   ·
    refine ⟨_, A105.as [1, 4, 9, 11, 12, 13] kr kr, j9001, Le.refl _, Nat.zero_le _⟩
   rintro j a106 w106 ⟨Y106, A106, j106, q106, hp106_0⟩
   refine zD (fun K107 C107 => ?_)
   refine zD (fun K108 C108 => ?_)
   refine qD (N := 11) (Held [(⟨b2, 3, none⟩, [.slice (some ⟨b0, off0, none⟩) m.states.length cs]), (⟨bi, offi + k, none⟩, [.int .i64 xi]), (⟨b0, off0 + xi.toNat, none⟩, [.slice ax sx.length cx])]) [] kr kr kr j106 ?_
   intro w109 j109 q109 hu109
   refine zX (Held.cons (j109.cells 0 rfl rfl) (Held.cons ((hBi.mono (Le6 q71 q83 q88 q9001 q106 q109))).cells (Held.cons ((hAs1.mono (Le12 q2 q8 q22 q36 q49 q55 q71 q83 q88 q9001 q106 q109))).cells (Held.nil _)))) (fun hH109 => ?_)
   refine zH (d := 91) (v := .int .i64 (j : Int)) 0 A106 rfl kr kr kw (fun _ => hH109) ?_
   intro a110 A110
   refine zH (d := 92) (v := .pointer (some ⟨b2, 3, none⟩)) 1 A110 rfl kr kr kw (fun _ => hH109) ?_
   intro a111 A111
   refine zY (d := 93) (v := .slice (some ⟨b0, off0, none⟩) m.states.length cs) 2 A111 rfl kr kr kr (fun w hw => zF (t := 26) (g := false) (vs := [.slice (some ⟨b0, off0, none⟩) m.states.length cs]) (ad := ⟨b2, 3, none⟩) rfl kr kr ir (hw.get 0 kr)) hH109 ?_
   intro a112 A112
   refine zH (d := 94) (v := .slice (some ⟨bi, offi, none⟩) len55 cap55) 3 A112 rfl kr kr kw (fun _ => hH109) ?_
   intro a113 A113
   refine zH (d := 95) (v := .int .i64 (k : Int)) 4 A113 rfl kr kr kw (fun _ => hH109) ?_
   intro a114 A114
   refine zH (d := 96) (v := .pointer (some ⟨bi, offi + k, none⟩)) 5 A114 rfl kr kr (fun w => zP (t := 30) (e := 3) (b := bi) (off := offi) (len := len55) (cap := cap55) (kd := .i64) (i := (k : Int)) (g := false) (m := 1) (off' := offi + k) rfl kr kr kr kr (by omega) (by omega) (by first | rfl | omega | (simp; done) | (simp; omega)) w) (fun _ => hH109) ?_
   intro a115 A115
   refine zY (d := 97) (v := .int .i64 xi) 6 A115 rfl kr kr kr (fun w hw => zF (t := 3) (g := false) (vs := [.int .i64 xi]) (ad := ⟨bi, offi + k, none⟩) rfl kr kr ir (hw.get 1 kr)) hH109 ?_
   intro a116 A116
   refine zH (d := 98) (v := .pointer (some ⟨b0, off0 + xi.toNat, none⟩)) 7 A116 rfl kr kr (fun w => zP (t := 26) (e := 40) (b := b0) (off := off0) (len := m.states.length) (cap := cs) (kd := .i64) (i := xi) (g := false) (m := 1) (off' := off0 + xi.toNat) rfl kr kr kr kr (by omega) (by omega) (by first | rfl | omega | (simp; done) | (simp; omega)) w) (fun _ => hH109) ?_
   intro a117 A117
   refine zY (d := 99) (v := .slice ax sx.length cx) 8 A117 rfl kr kr kr (fun w hw => zF (t := 40) (g := false) (vs := [.slice ax sx.length cx]) (ad := ⟨b0, off0 + xi.toNat, none⟩) rfl kr kr ir (hw.get 2 kr)) hH109 ?_
   intro a118 A118
   refine zH (d := 100) (v := .int .i64 (sx.length : Int)) 9 A118 rfl kr kr kw (fun _ => hH109) ?_
   intro a119 A119
   refine zH (d := 101) (v := .bool (decide ((j : Int) < (sx.length : Int)))) 10 A119 rfl kr kr kw (fun _ => hH109) ?_
   intro a120 A120
   refine qB kr (nrm ?_)
   refine zA (C108 _ _ ?_)
   refine zS (decide ((j : Int) < (sx.length : Int))) A120 kr kr (fun hc121 => ?_) (fun hc121 => ?_)
   ·
    have A122 := A120.set 101 (v' := .bool true) kr rfl (zG hc121)
    have ht123 : (j : Int) < (sx.length : Int) := of_decide_eq_true hc121
    obtain ⟨b9, off9, rfl⟩ := hacts.addr (by omega)
    obtain ⟨xa, a1a, a2a, a3a, a4a, a5a, a6a, a7a, a8a, a9a, hxa, hAa, hLa, hMa, hOa⟩ := hacts.at (k := j) (by omega)
    obtain rfl := hOa.hlen
    have hcapo := hOa.hcap
    have hbigo := hOa.hbig
    have hA3 : At (rd w X) ⟨b9, off9 + j * 4 + 3, none⟩ [.slice a7a xa.next.length a9a] := At.drop hAa 3 rfl
    refine i_skip ?_
    refine zA (C107 _ _ ?_)
    refine zD (fun K124 C124 => ?_)
    refine zV ?_
    refine zD (fun K125 C125 => ?_)
    refine zC ?_
    refine zB 1 [(14, .int .i64 0)] A122 kr kr (fun a126 A126 => ?_)
    refine zE ?_
    refine zA (C125 _ _ ?_)
    refine zV ?_
    refine qC (fun (q : Nat) ac w1 => ∃ (Y1 : Hid), Fr 229 ac [(1, .slice av v.length cv), (4, .pointer (some ⟨b2, 0, none⟩)), (9, .slice (some ⟨bi, offi, none⟩) len55 cap55), (11, .slice adm1 lenm capm1), (12, .int .i64 (k : Int)), (13, .int .i64 (j : Int)), (14, .int .i64 (q : Int))] ∧ St E0 w X w1 Y1 ((b2, .cells #[.bool m.disc.neg, .slice ad len cap, .slice ae le ce, .slice (some ⟨b0, off0, none⟩) m.states.length cs] 28 (0, 0)) :: rbm1) ∧ Le (rd w109 Y106) (rd w1 Y1) ∧ (q ≤ xa.next.length)) (fun (q : Nat) => xa.next.length - q) 0 ?_ ?_
    ·
     refine ⟨_, A126.as [1, 4, 9, 11, 12, 13, 14] kr kr, j109, Le.refl _, Nat.zero_le _⟩
    rintro q a127 w127 ⟨Y127, A127, j127, q127, hp127_0⟩
    refine zD (fun K128 C128 => ?_)
    refine zD (fun K129 C129 => ?_)
    refine qD (N := 15) (Held [(⟨b2, 3, none⟩, [.slice (some ⟨b0, off0, none⟩) m.states.length cs]), (⟨bi, offi + k, none⟩, [.int .i64 xi]), (⟨b0, off0 + xi.toNat, none⟩, [.slice (some ⟨b9, off9, none⟩) sx.length cx]), (⟨b9, off9 + j * 4 + 3, none⟩, [.slice a7a xa.next.length a9a])]) [] kr kr kr j127 ?_
    intro w130 j130 q130 hu130
    refine zX (Held.cons (j130.cells 0 rfl rfl) (Held.cons ((hBi.mono (Le8 q71 q83 q88 q9001 q106 q109 q127 q130))).cells (Held.cons ((hAs1.mono (Le14 q2 q8 q22 q36 q49 q55 q71 q83 q88 q9001 q106 q109 q127 q130))).cells (Held.cons ((hA3.mono (Le14 q2 q8 q22 q36 q49 q55 q71 q83 q88 q9001 q106 q109 q127 q130))).cells (Held.nil _))))) (fun hH130 => ?_)
    refine zH (d := 104) (v := .int .i64 (q : Int)) 0 A127 rfl kr kr kw (fun _ => hH130) ?_
    intro a131 A131
    refine zH (d := 105) (v := .pointer (some ⟨b2, 3, none⟩)) 1 A131 rfl kr kr kw (fun _ => hH130) ?_
    intro a132 A132
    refine zY (d := 106) (v := .slice (some ⟨b0, off0, none⟩) m.states.length cs) 2 A132 rfl kr kr kr (fun w hw => zF (t := 26) (g := false) (vs := [.slice (some ⟨b0, off0, none⟩) m.states.length cs]) (ad := ⟨b2, 3, none⟩) rfl kr kr ir (hw.get 0 kr)) hH130 ?_
    intro a133 A133
    refine zH (d := 107) (v := .slice (some ⟨bi, offi, none⟩) len55 cap55) 3 A133 rfl kr kr kw (fun _ => hH130) ?_
    intro a134 A134
    refine zH (d := 108) (v := .int .i64 (k : Int)) 4 A134 rfl kr kr kw (fun _ => hH130) ?_
    intro a135 A135
    refine zH (d := 109) (v := .pointer (some ⟨bi, offi + k, none⟩)) 5 A135 rfl kr kr (fun w => zP (t := 30) (e := 3) (b := bi) (off := offi) (len := len55) (cap := cap55) (kd := .i64) (i := (k : Int)) (g := false) (m := 1) (off' := offi + k) rfl kr kr kr kr (by omega) (by omega) (by first | rfl | omega | (simp; done) | (simp; omega)) w) (fun _ => hH130) ?_
    intro a136 A136
    refine zY (d := 110) (v := .int .i64 xi) 6 A136 rfl kr kr kr (fun w hw => zF (t := 3) (g := false) (vs := [.int .i64 xi]) (ad := ⟨bi, offi + k, none⟩) rfl kr kr ir (hw.get 1 kr)) hH130 ?_
    intro a137 A137
    refine zH (d := 111) (v := .pointer (some ⟨b0, off0 + xi.toNat, none⟩)) 7 A137 rfl kr kr (fun w => zP (t := 26) (e := 40) (b := b0) (off := off0) (len := m.states.length) (cap := cs) (kd := .i64) (i := xi) (g := false) (m := 1) (off' := off0 + xi.toNat) rfl kr kr kr kr (by omega) (by omega) (by first | rfl | omega | (simp; done) | (simp; omega)) w) (fun _ => hH130) ?_
    intro a138 A138
    refine zY (d := 112) (v := .slice (some ⟨b9, off9, none⟩) sx.length cx) 8 A138 rfl kr kr kr (fun w hw => zF (t := 40) (g := false) (vs := [.slice (some ⟨b9, off9, none⟩) sx.length cx]) (ad := ⟨b0, off0 + xi.toNat, none⟩) rfl kr kr ir (hw.get 2 kr)) hH130 ?_
    intro a139 A139
    refine zH (d := 113) (v := .int .i64 (j : Int)) 9 A139 rfl kr kr kw (fun _ => hH130) ?_
    intro a140 A140
    refine zH (d := 114) (v := .pointer (some ⟨b9, off9 + j * 4, none⟩)) 10 A140 rfl kr kr (fun w => zP (t := 40) (e := 55) (b := b9) (off := off9) (len := sx.length) (cap := cx) (kd := .i64) (i := (j : Int)) (g := true) (m := 4) (off' := off9 + j * 4) rfl kr kr kr kr (by omega) (by omega) (by first | rfl | omega | (simp; done) | (simp; omega)) w) (fun _ => hH130) ?_
    intro a141 A141
    refine zH (d := 115) (v := .pointer (some ⟨b9, off9 + j * 4 + 3, none⟩)) 11 A141 rfl kr kr kw (fun _ => hH130) ?_
    intro a142 A142
    refine zY (d := 116) (v := .slice a7a xa.next.length a9a) 12 A142 rfl kr kr kr (fun w hw => zF (t := 53) (g := false) (vs := [.slice a7a xa.next.length a9a]) (ad := ⟨b9, off9 + j * 4 + 3, none⟩) rfl kr kr ir (hw.get 3 kr)) hH130 ?_
    intro a143 A143
    refine zH (d := 117) (v := .int .i64 (xa.next.length : Int)) 13 A143 rfl kr kr kw (fun _ => hH130) ?_
    intro a144 A144
    refine zH (d := 118) (v := .bool (decide ((q : Int) < (xa.next.length : Int)))) 14 A144 rfl kr kr kw (fun _ => hH130) ?_
    intro a145 A145
    refine qB kr (nrm ?_)
    refine zA (C129 _ _ ?_)
    refine zS (decide ((q : Int) < (xa.next.length : Int))) A145 kr kr (fun hc146 => ?_) (fun hc146 => ?_)
    ·
     have A147 := A145.set 118 (v' := .bool true) kr rfl (zG hc146)
     have ht148 : (q : Int) < (xa.next.length : Int) := of_decide_eq_true hc146
     obtain ⟨bo, offo, rfl⟩ := hOa.addr (by omega)
     obtain ⟨ox, anx, lnx, cnx, amx, lmx, cmx, hxx, hAx, hLx, hMx⟩ := hOa.at (k := q) (by omega)
     have hA4 : At (rd w X) ⟨bo, offo + q * 4, none⟩ [.int .i64 ox.to] := hAx.one (i := 0) rfl
     have hmem := hR9.closed xi (List.mem_of_getElem? hxi) xa (by rw [getD_get hxs]; exact List.mem_of_getElem? hxa) ox (List.mem_of_getElem? hxx)
     refine i_skip ?_
     refine zA (C128 _ _ ?_)
     refine zD (fun K149 C149 => ?_)
     refine zV ?_
     refine zD (fun K150 C150 => ?_)
     refine qD (N := 19) (Held [(⟨b2, 3, none⟩, [.slice (some ⟨b0, off0, none⟩) m.states.length cs]), (⟨bi, offi + k, none⟩, [.int .i64 xi]), (⟨b0, off0 + xi.toNat, none⟩, [.slice (some ⟨b9, off9, none⟩) sx.length cx]), (⟨b9, off9 + j * 4 + 3, none⟩, [.slice (some ⟨bo, offo, none⟩) xa.next.length a9a]), (⟨bo, offo + q * 4, none⟩, [.int .i64 ox.to])]) [] kr kr kr j130 ?_
     intro w151 j151 q151 hu151
     refine zX (Held.cons (j151.cells 0 rfl rfl) (Held.cons ((hBi.mono (Le9 q71 q83 q88 q9001 q106 q109 q127 q130 q151))).cells (Held.cons ((hAs1.mono (Le15 q2 q8 q22 q36 q49 q55 q71 q83 q88 q9001 q106 q109 q127 q130 q151))).cells (Held.cons ((hA3.mono (Le15 q2 q8 q22 q36 q49 q55 q71 q83 q88 q9001 q106 q109 q127 q130 q151))).cells (Held.cons ((hA4.mono (Le15 q2 q8 q22 q36 q49 q55 q71 q83 q88 q9001 q106 q109 q127 q130 q151))).cells (Held.nil _)))))) (fun hH151 => ?_)
     refine zH (d := 121) (v := .slice (some ⟨bi, offi, none⟩) len55 cap55) 0 A147 rfl kr kr kw (fun _ => hH151) ?_
     intro a152 A152
     refine zH (d := 122) (v := .pointer (some ⟨b2, 3, none⟩)) 1 A152 rfl kr kr kw (fun _ => hH151) ?_
     intro a153 A153
     refine zY (d := 123) (v := .slice (some ⟨b0, off0, none⟩) m.states.length cs) 2 A153 rfl kr kr kr (fun w hw => zF (t := 26) (g := false) (vs := [.slice (some ⟨b0, off0, none⟩) m.states.length cs]) (ad := ⟨b2, 3, none⟩) rfl kr kr ir (hw.get 0 kr)) hH151 ?_
     intro a154 A154
     refine zH (d := 124) (v := .slice (some ⟨bi, offi, none⟩) len55 cap55) 3 A154 rfl kr kr kw (fun _ => hH151) ?_
     intro a155 A155
     refine zH (d := 125) (v := .int .i64 (k : Int)) 4 A155 rfl kr kr kw (fun _ => hH151) ?_
     intro a156 A156
     refine zH (d := 126) (v := .pointer (some ⟨bi, offi + k, none⟩)) 5 A156 rfl kr kr (fun w => zP (t := 30) (e := 3) (b := bi) (off := offi) (len := len55) (cap := cap55) (kd := .i64) (i := (k : Int)) (g := false) (m := 1) (off' := offi + k) rfl kr kr kr kr (by omega) (by omega) (by first | rfl | omega | (simp; done) | (simp; omega)) w) (fun _ => hH151) ?_
     intro a157 A157
     refine zY (d := 127) (v := .int .i64 xi) 6 A157 rfl kr kr kr (fun w hw => zF (t := 3) (g := false) (vs := [.int .i64 xi]) (ad := ⟨bi, offi + k, none⟩) rfl kr kr ir (hw.get 1 kr)) hH151 ?_
     intro a158 A158
     refine zH (d := 128) (v := .pointer (some ⟨b0, off0 + xi.toNat, none⟩)) 7 A158 rfl kr kr (fun w => zP (t := 26) (e := 40) (b := b0) (off := off0) (len := m.states.length) (cap := cs) (kd := .i64) (i := xi) (g := false) (m := 1) (off' := off0 + xi.toNat) rfl kr kr kr kr (by omega) (by omega) (by first | rfl | omega | (simp; done) | (simp; omega)) w) (fun _ => hH151) ?_
     intro a159 A159
     refine zY (d := 129) (v := .slice (some ⟨b9, off9, none⟩) sx.length cx) 8 A159 rfl kr kr kr (fun w hw => zF (t := 40) (g := false) (vs := [.slice (some ⟨b9, off9, none⟩) sx.length cx]) (ad := ⟨b0, off0 + xi.toNat, none⟩) rfl kr kr ir (hw.get 2 kr)) hH151 ?_
     intro a160 A160
     refine zH (d := 130) (v := .int .i64 (j : Int)) 9 A160 rfl kr kr kw (fun _ => hH151) ?_
     intro a161 A161
     refine zH (d := 131) (v := .pointer (some ⟨b9, off9 + j * 4, none⟩)) 10 A161 rfl kr kr (fun w => zP (t := 40) (e := 55) (b := b9) (off := off9) (len := sx.length) (cap := cx) (kd := .i64) (i := (j : Int)) (g := true) (m := 4) (off' := off9 + j * 4) rfl kr kr kr kr (by omega) (by omega) (by first | rfl | omega | (simp; done) | (simp; omega)) w) (fun _ => hH151) ?_
     intro a162 A162
     refine zH (d := 132) (v := .pointer (some ⟨b9, off9 + j * 4 + 3, none⟩)) 11 A162 rfl kr kr kw (fun _ => hH151) ?_
     intro a163 A163
     refine zY (d := 133) (v := .slice (some ⟨bo, offo, none⟩) xa.next.length a9a) 12 A163 rfl kr kr kr (fun w hw => zF (t := 53) (g := false) (vs := [.slice (some ⟨bo, offo, none⟩) xa.next.length a9a]) (ad := ⟨b9, off9 + j * 4 + 3, none⟩) rfl kr kr ir (hw.get 3 kr)) hH151 ?_
     intro a164 A164
     refine zH (d := 134) (v := .int .i64 (q : Int)) 13 A164 rfl kr kr kw (fun _ => hH151) ?_
     intro a165 A165
     refine zH (d := 135) (v := .pointer (some ⟨bo, offo + q * 4, none⟩)) 14 A165 rfl kr kr (fun w => zP (t := 53) (e := 57) (b := bo) (off := offo) (len := xa.next.length) (cap := a9a) (kd := .i64) (i := (q : Int)) (g := true) (m := 4) (off' := offo + q * 4) rfl kr kr kr kr (by omega) (by omega) (by first | rfl | omega | (simp; done) | (simp; omega)) w) (fun _ => hH151) ?_
     intro a166 A166
     refine zH (d := 136) (v := .pointer (some ⟨bo, offo + q * 4, none⟩)) 15 A166 rfl kr kr kw (fun _ => hH151) ?_
     intro a167 A167
     refine zY (d := 137) (v := .int .i64 ox.to) 16 A167 rfl kr kr kr (fun w hw => zF (t := 3) (g := false) (vs := [.int .i64 ox.to]) (ad := ⟨bo, offo + q * 4, none⟩) rfl kr kr ir (hw.get 4 kr)) hH151 ?_
     intro a168 A168
     refine zM [17] kr rfl ?_
     refine ForkT.cons (i := 17) A168 rfl kr (zK (d := 138) (f := 21) (cap := #[]) (vs := #[.slice (some ⟨bi, offi, none⟩) len55 cap55, .int .i64 ox.to]) A168 kr j151 rfl kr kr (fun w => Try.call21 _ w) (HasInt_c _ _ j151.lt _ _ _ l9 (hI9.mono (Le9 q71 q83 q88 q9001 q106 q109 q127 q130 q151)) ox.to) ?_) ForkT.nil
     rintro v169 w169 j169 q169 hu169 rfl a170 A170
     refine zI (hH151.up hu169) (fun hH169 => ?_)
     refine zH (d := 139) (v := .bool (!(decide (ox.to ∈ l9)))) 18 A170 rfl kr kr kw (fun _ => hH169) ?_
     intro a171 A171
     refine qB kr (nrm ?_)
     refine zA (C150 _ _ ?_)
     refine zS (!(decide (ox.to ∈ l9))) A171 kr kr (fun hc172 => ?_) (fun hc172 => ?_)
     ·
      have A173 := A171.set 139 (v' := .bool true) kr rfl (zG hc172)
      have ht174 : ¬ (ox.to ∈ l9) := by simpa using hc172
      exact absurd hmem (by simpa using ht174)
     have A175 := A171.set 139 (v' := .bool false) kr rfl (zG hc172)
     have ht176 : ox.to ∈ l9 := by simpa using hc172
     refine i_skip ?_
     refine zW ?_
     refine zA (C149 _ _ ?_)
     refine zC ?_
     refine zB 2 [(120, .int .i64 (IntKind.i64.wrap ((q : Int) + 1))), (119, .int .i64 (q : Int))] A175 kr kr (fun a177 A177 => ?_)
     have A178 := A177.set 120 (v' := .int .i64 ((q : Int) + 1)) kr rfl (vint (wi64 (by omega) (by omega)))
     refine zB 1 [(14, .int .i64 ((q : Int) + 1))] A178 kr kr (fun a179 A179 => ?_)
     refine zE ?_
     refine zA ?_
     refine ⟨q + 1, ⟨_, A179.as [1, 4, 9, 11, 12, 13, 14] kr kr, j169, (Le4 q127 q130 q151 q169), by omega⟩, ?_⟩
     first | omega | (simp; omega)
    have A180 := A145.set 118 (v' := .bool false) kr rfl (zG hc146)
    have ht181 : ¬ ((q : Int) < (xa.next.length : Int)) := of_decide_eq_false hc146
    refine i_exit ?_
    refine zT ?_
    refine zT ?_
    refine qA ?_
    refine zW ?_
    refine zA (C124 _ _ ?_)
    refine zC ?_
    refine zB 2 [(103, .int .i64 (IntKind.i64.wrap ((j : Int) + 1))), (102, .int .i64 (j : Int))] A180 kr kr (fun a182 A182 => ?_)
    have A183 := A182.set 103 (v' := .int .i64 ((j : Int) + 1)) kr rfl (vint (wi64 (by omega) (by omega)))
    refine zB 1 [(13, .int .i64 ((j : Int) + 1))] A183 kr kr (fun a184 A184 => ?_)
    refine zE ?_
    refine zA ?_
    refine ⟨j + 1, ⟨_, A184.as [1, 4, 9, 11, 12, 13] kr kr, j130, (Le4 q106 q109 q127 q130), by omega⟩, ?_⟩
    first | omega | (simp; omega)
   have A185 := A120.set 101 (v' := .bool false) kr rfl (zG hc121)
   have ht186 : ¬ ((j : Int) < (sx.length : Int)) := of_decide_eq_false hc121
   refine i_exit ?_
   refine zT ?_
   refine zT ?_
   refine qA ?_
   refine zA (C103 _ _ ?_)
   refine zD (fun K187 C187 => ?_)
   refine zC ?_
   refine zB 2 [(141, .int .i64 (k : Int)), (140, .slice (some ⟨bi, offi, none⟩) len55 cap55)] A185 kr kr (fun a188 A188 => ?_)
   refine wplI A188 kr (zJ (d := 142) (v := .pointer (some ⟨bi, offi + k, none⟩)) A188 kr (zP (t := 30) (e := 3) (b := bi) (off := offi) (len := len55) (cap := cap55) (kd := .i64) (i := (k : Int)) (g := false) (m := 1) (off' := offi + k) rfl kr kr kr kr (by omega) (by omega) (by first | rfl | omega | (simp; done) | (simp; omega)) _) ?_)
   intro a189 A189
   refine wplI A189 kr (zJ (d := 143) (v := .int .i64 xi) A189 kr (zF (t := 3) (g := false) (vs := [.int .i64 xi]) (ad := ⟨bi, offi + k, none⟩) rfl kr kr ir ((hBi.mono (Le6 q71 q83 q88 q9001 q106 q109))).cells) ?_)
   intro a190 A190
   refine zB 4 [(147, .bool (decide ((xi) < (v.length : Int)))), (146, .bool (decide ((xi) < (v.length : Int)))), (145, .int .i64 (v.length : Int)), (144, .slice av v.length cv)] A190 kr kr (fun a191 A191 => ?_)
   rcases Bool.eq_false_or_eq_true (decide ((xi) < (v.length : Int))) with hc192 | hc192
   ·
    have A193 := A191.set 147 (v' := .bool true) kr rfl (zG hc192)
    have ht194 : (xi) < (v.length : Int) := of_decide_eq_true hc192
    refine zB 2 [(149, .int .i64 (k : Int)), (148, .slice (some ⟨bi, offi, none⟩) len55 cap55)] A193 kr kr (fun a195 A195 => ?_)
    refine wplI A195 kr (zJ (d := 150) (v := .pointer (some ⟨bi, offi + k, none⟩)) A195 kr (zP (t := 30) (e := 3) (b := bi) (off := offi) (len := len55) (cap := cap55) (kd := .i64) (i := (k : Int)) (g := false) (m := 1) (off' := offi + k) rfl kr kr kr kr (by omega) (by omega) (by first | rfl | omega | (simp; done) | (simp; omega)) _) ?_)
    intro a196 A196
    refine wplI A196 kr (zJ (d := 151) (v := .int .i64 xi) A196 kr (zF (t := 3) (g := false) (vs := [.int .i64 xi]) (ad := ⟨bi, offi + k, none⟩) rfl kr kr ir ((hBi.mono (Le6 q71 q83 q88 q9001 q106 q109))).cells) ?_)
    intro a197 A197
    refine zB 4 [(155, .bool (decide ((xi) < (lenm : Int)))), (154, .bool (decide ((xi) < (lenm : Int)))), (153, .int .i64 (lenm : Int)), (152, .slice adm1 lenm capm1)] A197 kr kr (fun a198 A198 => ?_)
    refine zE ?_
    refine zA (C187 _ _ ?_)
    refine zS (decide ((xi) < (lenm : Int))) A198 kr kr (fun hc199 => ?_) (fun hc199 => ?_)
    ·
     have A200 := A198.set 155 (v' := .bool true) kr rfl (zG hc199)
     have ht201 : (xi) < (lenm : Int) := of_decide_eq_true hc199
     obtain ⟨bq, offq, xq, anq, lnq, cnq, amq, lmq, cmq, rfl, hxq, hAq, hLq, hMq⟩ := hv.cell (k := xi.toNat) (by omega)
     obtain ⟨gm, curm, rfl, rfl, hrwm⟩ := TRow.some hr1 (fun e => by have h9 := flat_len es; rw [e] at h9; simp at h9; omega)
     ·
      refine qD (N := 14) (Held [(⟨bi, offi + k, none⟩, [.int .i64 xi]), (⟨bq, offq + xi.toNat * 3, none⟩, [.bool xq.neg, .slice anq lnq cnq, .slice amq lmq cmq])]) [13] kr kr kr j109 ?_
      intro w202 j202 q202 hu202
      refine zX (Held.cons ((hBi.mono (Le7 q71 q83 q88 q9001 q106 q109 q202))).cells (Held.cons ((hAq.mono (Le13 q2 q8 q22 q36 q49 q55 q71 q83 q88 q9001 q106 q109 q202))).cells (Held.nil _))) (fun hH202 => ?_)
      refine zH (d := 156) (v := .slice (some ⟨gm, 0, none⟩) lenm capm1) 0 A200 rfl kr kr kw (fun _ => hH202) ?_
      intro a203 A203
      refine zH (d := 157) (v := .slice (some ⟨bi, offi, none⟩) len55 cap55) 1 A203 rfl kr kr kw (fun _ => hH202) ?_
      intro a204 A204
      refine zH (d := 158) (v := .int .i64 (k : Int)) 2 A204 rfl kr kr kw (fun _ => hH202) ?_
      intro a205 A205
      refine zH (d := 159) (v := .pointer (some ⟨bi, offi + k, none⟩)) 3 A205 rfl kr kr (fun w => zP (t := 30) (e := 3) (b := bi) (off := offi) (len := len55) (cap := cap55) (kd := .i64) (i := (k : Int)) (g := false) (m := 1) (off' := offi + k) rfl kr kr kr kr (by omega) (by omega) (by first | rfl | omega | (simp; done) | (simp; omega)) w) (fun _ => hH202) ?_
      intro a206 A206
      refine zY (d := 160) (v := .int .i64 xi) 4 A206 rfl kr kr kr (fun w hw => zF (t := 3) (g := false) (vs := [.int .i64 xi]) (ad := ⟨bi, offi + k, none⟩) rfl kr kr ir (hw.get 0 kr)) hH202 ?_
      intro a207 A207
      refine zH (d := 161) (v := .slice (some ⟨bq, offq, none⟩) v.length cv) 5 A207 rfl kr kr kw (fun _ => hH202) ?_
      intro a208 A208
      refine zH (d := 162) (v := .slice (some ⟨bi, offi, none⟩) len55 cap55) 6 A208 rfl kr kr kw (fun _ => hH202) ?_
      intro a209 A209
      refine zH (d := 163) (v := .int .i64 (k : Int)) 7 A209 rfl kr kr kw (fun _ => hH202) ?_
      intro a210 A210
      refine zH (d := 164) (v := .pointer (some ⟨bi, offi + k, none⟩)) 8 A210 rfl kr kr (fun w => zP (t := 30) (e := 3) (b := bi) (off := offi) (len := len55) (cap := cap55) (kd := .i64) (i := (k : Int)) (g := false) (m := 1) (off' := offi + k) rfl kr kr kr kr (by omega) (by omega) (by first | rfl | omega | (simp; done) | (simp; omega)) w) (fun _ => hH202) ?_
      intro a211 A211
      refine zY (d := 165) (v := .int .i64 xi) 9 A211 rfl kr kr kr (fun w hw => zF (t := 3) (g := false) (vs := [.int .i64 xi]) (ad := ⟨bi, offi + k, none⟩) rfl kr kr ir (hw.get 0 kr)) hH202 ?_
      intro a212 A212
      refine zH (d := 166) (v := .pointer (some ⟨bq, offq + xi.toNat * 3, none⟩)) 10 A212 rfl kr kr (fun w => zP (t := 29) (e := 25) (b := bq) (off := offq) (len := v.length) (cap := cv) (kd := .i64) (i := xi) (g := true) (m := 3) (off' := offq + xi.toNat * 3) rfl kr kr kr kr (by omega) (by omega) (by first | rfl | omega | (simp; done) | (simp; omega)) w) (fun _ => hH202) ?_
      intro a213 A213
      refine zY (d := 167) (v := .agg #[.bool xq.neg, .slice anq lnq cnq, .slice amq lmq cmq]) 11 A213 rfl kr kr kr (fun w hw => zF (t := 25) (g := true) (vs := [.bool xq.neg, .slice anq lnq cnq, .slice amq lmq cmq]) (ad := ⟨bq, offq + xi.toNat * 3, none⟩) rfl kr kr ir (hw.get 1 kr)) hH202 ?_
      intro a214 A214
      refine zH (d := 168) (v := .pointer (some ⟨gm, xi.toNat * 3, none⟩)) 12 A214 rfl kr kr (fun w => zP (t := 29) (e := 25) (b := gm) (off := 0) (len := lenm) (cap := capm1) (kd := .i64) (i := xi) (g := true) (m := 3) (off' := xi.toNat * 3) rfl kr kr kr kr (by omega) (by omega) (by first | rfl | omega | (simp; done) | (simp; omega)) w) (fun _ => hH202) ?_
      intro a215 A215
      refine zM [13] kr rfl ?_
      have hrs := hrwm.setRat (e := (RE.mk xq anq lnq cnq amq lmq cmq)) hes (show xi.toNat < lenm by omega)
      refine ForkT.cons (i := 13) A215 rfl kr (zO (t := 25) (b := gm) (off := xi.toNat * 3) (c' := setCells curm (xi.toNat * 3) (RE.cells (RE.mk xq anq lnq cnq amq lmq cmq))) (g := true) (m := 3) 1 _ A215 kr j202 rfl kr rfl kr kr kr rfl (by have h8 := hrwm.hsz; have h7 := hrwm.hn; rw [h8]; omega) rfl rfl ?_) ForkT.nil
      intro w216 j216 q216
      obtain ⟨cur216, hcur216⟩ : ∃ c, c = setCells curm (xi.toNat * 3) (RE.cells (RE.mk xq anq lnq cnq amq lmq cmq)) := ⟨_, rfl⟩
      rw [← hcur216] at hrs
      have j216 : St E0 w X w216 Y106 [(b2, .cells #[.bool m.disc.neg, .slice ad len cap, .slice ae le ce, .slice (some ⟨b0, off0, none⟩) m.states.length cs] 28 (0, 0)), (gm, .cells cur216 25 (0, 0))] := by have h9 := j216; rw [← hcur216] at h9; exact h9
      refine ⟨begun_tt kr, ?_⟩
      refine qB kr (nrm ?_)
      refine zW ?_
      refine zA (C95 _ _ ?_)
      refine zC ?_
      refine zB 2 [(59, .int .i64 (IntKind.i64.wrap ((k : Int) + 1))), (58, .int .i64 (k : Int))] A215 kr kr (fun a217 A217 => ?_)
      have A218 := A217.set 59 (v' := .int .i64 ((k : Int) + 1)) kr rfl (vint (wi64 (by omega) (by omega)))
      refine zB 1 [(12, .int .i64 ((k : Int) + 1))] A218 kr kr (fun a219 A219 => ?_)
      refine zE ?_
      refine zA ?_
      refine ⟨k + 1, ⟨_, [(gm, .cells cur216 25 (0, 0))], (some ⟨gm, 0, none⟩), capm1, (es.set xi.toNat (RE.mk xq anq lnq cnq amq lmq cmq)), A219.as [1, 4, 9, 11, 12] kr kr, j216, (Le6 q88 q9001 q106 q109 q202 q216), .inr ⟨gm, _, rfl, rfl, hrs⟩, by rw [List.length_set]; exact hel, fun e he => by rcases List.mem_or_eq_of_mem_set he with h1 | h1; exact (hk1 e h1).mono (Le5 q9001 q106 q109 q202 q216); subst h1; exact ⟨(hLq.mono (Le14 q2 q8 q22 q36 q49 q55 q71 q83 q88 q9001 q106 q109 q202 q216)), (hMq.mono (Le14 q2 q8 q22 q36 q49 q55 q71 q83 q88 q9001 q106 q109 q202 q216))⟩, by rw [take_snoc hxi, map_set]; exact hag.set hxq (by rw [List.length_map]; omega), by omega⟩, ?_⟩
      first | omega | (simp; omega)
    have A220 := A198.set 155 (v' := .bool false) kr rfl (zG hc199)
    have ht221 : ¬ ((xi) < (lenm : Int)) := of_decide_eq_false hc199
    refine i_skip ?_
    refine zW ?_
    refine zA (C95 _ _ ?_)
    refine zC ?_
    refine zB 2 [(59, .int .i64 (IntKind.i64.wrap ((k : Int) + 1))), (58, .int .i64 (k : Int))] A220 kr kr (fun a222 A222 => ?_)
    have A223 := A222.set 59 (v' := .int .i64 ((k : Int) + 1)) kr rfl (vint (wi64 (by omega) (by omega)))
    refine zB 1 [(12, .int .i64 ((k : Int) + 1))] A223 kr kr (fun a224 A224 => ?_)
    refine zE ?_
    refine zA ?_
    refine ⟨k + 1, ⟨_, rbm1, adm1, capm1, es, A224.as [1, 4, 9, 11, 12] kr kr, j109, (Le4 q88 q9001 q106 q109), hr1, hel, fun e he => (hk1 e he).mono (Le3 q9001 q106 q109), by rw [take_snoc hxi]; exact hag.skip (by rw [List.length_map]; omega), by omega⟩, ?_⟩
    first | omega | (simp; omega)
   have A225 := A191.set 147 (v' := .bool false) kr rfl (zG hc192)
   have ht226 : ¬ ((xi) < (v.length : Int)) := of_decide_eq_false hc192
   refine zB 8 [(155, .bool false), (154, undef), (153, undef), (152, undef), (151, undef), (150, undef), (149, undef), (148, undef)] A225 kr kr (fun a227 A227 => ?_)
   refine zE ?_
   refine zA (C187 _ _ ?_)
   refine qH A227 kr kr ?_
   refine i_skip ?_
   refine zW ?_
   refine zA (C95 _ _ ?_)
   refine zC ?_
   refine zB 2 [(59, .int .i64 (IntKind.i64.wrap ((k : Int) + 1))), (58, .int .i64 (k : Int))] A227 kr kr (fun a228 A228 => ?_)
   have A229 := A228.set 59 (v' := .int .i64 ((k : Int) + 1)) kr rfl (vint (wi64 (by omega) (by omega)))
   refine zB 1 [(12, .int .i64 ((k : Int) + 1))] A229 kr kr (fun a230 A230 => ?_)
   refine zE ?_
   refine zA ?_
   refine ⟨k + 1, ⟨_, rbm1, adm1, capm1, es, A230.as [1, 4, 9, 11, 12] kr kr, j109, (Le4 q88 q9001 q106 q109), hr1, hel, fun e he => (hk1 e he).mono (Le3 q9001 q106 q109), by rw [take_snoc hxi]; exact hag.skip (by rw [List.length_map]; omega), by omega⟩, ?_⟩
   first | omega | (simp; omega)
  refine qD (N := 31) (Held [(⟨bi, offi + k, none⟩, [.int .i64 xi])]) [] kr kr kr j88 ?_
  intro w231 j231 q231 hu231
  refine zX (Held.cons ((hBi.mono (Le4 q71 q83 q88 q231))).cells (Held.nil _)) (fun hH231 => ?_)
  refine zH (d := 60) (v := .slice (some ⟨bi, offi, none⟩) len55 cap55) 0 A93 rfl kr kr kw (fun _ => hH231) ?_
  intro a232 A232
  refine zH (d := 61) (v := .int .i64 (k : Int)) 1 A232 rfl kr kr kw (fun _ => hH231) ?_
  intro a233 A233
  refine zH (d := 62) (v := .pointer (some ⟨bi, offi + k, none⟩)) 2 A233 rfl kr kr (fun w => zP (t := 30) (e := 3) (b := bi) (off := offi) (len := len55) (cap := cap55) (kd := .i64) (i := (k : Int)) (g := false) (m := 1) (off' := offi + k) rfl kr kr kr kr (by omega) (by omega) (by first | rfl | omega | (simp; done) | (simp; omega)) w) (fun _ => hH231) ?_
  intro a234 A234
  refine zY (d := 63) (v := .int .i64 xi) 3 A234 rfl kr kr kr (fun w hw => zF (t := 3) (g := false) (vs := [.int .i64 xi]) (ad := ⟨bi, offi + k, none⟩) rfl kr kr ir (hw.get 0 kr)) hH231 ?_
  intro a235 A235
  refine zH (d := 64) (v := .bool (decide ((xi) < 0))) 4 A235 rfl kr kr kw (fun _ => hH231) ?_
  intro a236 A236
  refine zH (d := 65) (v := .bool (decide ((xi) < 0))) 5 A236 rfl kr kr kw (fun _ => hH231) ?_
  intro a237 A237
  rcases Bool.eq_false_or_eq_true (decide ((xi) < 0)) with hc238 | hc238
  ·
   have A239 := A237.set 65 (v' := .bool true) kr rfl (zG hc238)
   have ht240 : (xi) < 0 := of_decide_eq_true hc238
   exfalso; omega
  have A241 := A237.set 65 (v' := .bool false) kr rfl (zG hc238)
  have ht242 : ¬ ((xi) < 0) := of_decide_eq_false hc238
  refine zH (d := 66) (v := .slice (some ⟨bi, offi, none⟩) len55 cap55) 6 A241 rfl kr kr kw (fun _ => hH231) ?_
  intro a243 A243
  refine zH (d := 67) (v := .int .i64 (k : Int)) 7 A243 rfl kr kr kw (fun _ => hH231) ?_
  intro a244 A244
  refine zH (d := 68) (v := .pointer (some ⟨bi, offi + k, none⟩)) 8 A244 rfl kr kr (fun w => zP (t := 30) (e := 3) (b := bi) (off := offi) (len := len55) (cap := cap55) (kd := .i64) (i := (k : Int)) (g := false) (m := 1) (off' := offi + k) rfl kr kr kr kr (by omega) (by omega) (by first | rfl | omega | (simp; done) | (simp; omega)) w) (fun _ => hH231) ?_
  intro a245 A245
  refine zY (d := 69) (v := .int .i64 xi) 9 A245 rfl kr kr kr (fun w hw => zF (t := 3) (g := false) (vs := [.int .i64 xi]) (ad := ⟨bi, offi + k, none⟩) rfl kr kr ir (hw.get 0 kr)) hH231 ?_
  intro a246 A246
  refine zH (d := 70) (v := .pointer (some ⟨b2, 3, none⟩)) 10 A246 rfl kr kr kw (fun _ => hH231) ?_
  intro a247 A247
  refine zM [11] kr rfl ?_
  refine ForkT.cons (i := 11) A247 rfl kr (zJ (d := 71) (v := .slice (some ⟨b0, off0, none⟩) m.states.length cs) A247 kr (zF (t := 26) (g := false) (vs := [.slice (some ⟨b0, off0, none⟩) m.states.length cs]) (ad := ⟨b2, 3, none⟩) rfl kr kr ir (j231.cells 0 rfl rfl)) ?_) ForkT.nil
  intro a248 A248
  refine zI (Held.cons ((hBi.mono (Le4 q71 q83 q88 q231))).cells (Held.nil _)) (fun hH231 => ?_)
  refine zH (d := 72) (v := .int .i64 (m.states.length : Int)) 12 A248 rfl kr kr kw (fun _ => hH231) ?_
  intro a249 A249
  refine zH (d := 73) (v := .bool (decide ((xi) ≥ (m.states.length : Int)))) 13 A249 rfl kr kr kw (fun _ => hH231) ?_
  intro a250 A250
  refine zH (d := 74) (v := .bool (decide ((xi) ≥ (m.states.length : Int)))) 14 A250 rfl kr kr kw (fun _ => hH231) ?_
  intro a251 A251
  refine zH (d := 75) (v := .bool (decide ((xi) ≥ (m.states.length : Int)))) 15 A251 rfl kr kr kw (fun _ => hH231) ?_
  intro a252 A252
  rcases Bool.eq_false_or_eq_true (decide ((xi) ≥ (m.states.length : Int))) with hc253 | hc253
  ·
   have A254 := A252.set 75 (v' := .bool true) kr rfl (zG hc253)
   have ht255 : (xi) ≥ (m.states.length : Int) := of_decide_eq_true hc253
   exfalso; omega
  have A256 := A252.set 75 (v' := .bool false) kr rfl (zG hc253)
  have ht257 : ¬ ((xi) ≥ (m.states.length : Int)) := of_decide_eq_false hc253
  refine zH (d := 76) (v := .int .i64 (k : Int)) 16 A256 rfl kr kr kw (fun _ => hH231) ?_
  intro a258 A258
  refine zH (d := 77) (v := .bool (decide ((k : Int) > 0))) 17 A258 rfl kr kr kw (fun _ => hH231) ?_
  intro a259 A259
  refine zH (d := 78) (v := .bool (decide ((k : Int) > 0))) 18 A259 rfl kr kr kw (fun _ => hH231) ?_
  intro a260 A260
  rcases Bool.eq_false_or_eq_true (decide ((k : Int) > 0)) with hc261 | hc261
  ·
   have A262 := A260.set 78 (v' := .bool true) kr rfl (zG hc261)
   have ht263 : (k : Int) > 0 := of_decide_eq_true hc261
   obtain ⟨xh, hxh, hAh⟩ := SlR.at hI9 (k := (k - 1)) (by omega)
   have hBh := int_at hAh
   have hlt9 := sorted_lt hR9.sorted (by omega) hxi hxh
   refine zH (d := 79) (v := .slice (some ⟨bi, offi, none⟩) len55 cap55) 19 A262 rfl kr kr kw (fun _ => hH231) ?_
   intro a264 A264
   refine zH (d := 80) (v := .int .i64 (k : Int)) 20 A264 rfl kr kr kw (fun _ => hH231) ?_
   intro a265 A265
   refine zH (d := 81) (v := .pointer (some ⟨bi, offi + k, none⟩)) 21 A265 rfl kr kr (fun w => zP (t := 30) (e := 3) (b := bi) (off := offi) (len := len55) (cap := cap55) (kd := .i64) (i := (k : Int)) (g := false) (m := 1) (off' := offi + k) rfl kr kr kr kr (by omega) (by omega) (by first | rfl | omega | (simp; done) | (simp; omega)) w) (fun _ => hH231) ?_
   intro a266 A266
   refine zY (d := 82) (v := .int .i64 xi) 22 A266 rfl kr kr kr (fun w hw => zF (t := 3) (g := false) (vs := [.int .i64 xi]) (ad := ⟨bi, offi + k, none⟩) rfl kr kr ir (hw.get 0 kr)) hH231 ?_
   intro a267 A267
   refine zH (d := 83) (v := .slice (some ⟨bi, offi, none⟩) len55 cap55) 23 A267 rfl kr kr kw (fun _ => hH231) ?_
   intro a268 A268
   refine zH (d := 84) (v := .int .i64 (k : Int)) 24 A268 rfl kr kr kw (fun _ => hH231) ?_
   intro a269 A269
   refine zH (d := 85) (v := .int .i64 (IntKind.i64.wrap ((k : Int) - 1))) 25 A269 rfl kr kr kw (fun _ => hH231) ?_
   intro a270 A270
   have A271 := A270.set 85 (v' := .int .i64 ((k - 1 : Nat) : Int)) kr rfl (vint ((wi64 (by omega) (by omega)).trans (by omega)))
   refine zH (d := 86) (v := .pointer (some ⟨bi, offi + (k - 1), none⟩)) 26 A271 rfl kr kr (fun w => zP (t := 30) (e := 3) (b := bi) (off := offi) (len := len55) (cap := cap55) (kd := .i64) (i := ((k - 1 : Nat) : Int)) (g := false) (m := 1) (off' := offi + (k - 1)) rfl kr kr kr kr (by omega) (by omega) (by first | rfl | omega | (simp; done) | (simp; omega)) w) (fun _ => hH231) ?_
   intro a272 A272
   refine zM [27] kr rfl ?_
   refine ForkT.cons (i := 27) A272 rfl kr (zJ (d := 87) (v := .int .i64 xh) A272 kr (zF (t := 3) (g := false) (vs := [.int .i64 xh]) (ad := ⟨bi, offi + (k - 1), none⟩) rfl kr kr ir ((hBh.mono (Le4 q71 q83 q88 q231))).cells) ?_) ForkT.nil
   intro a273 A273
   refine zI (Held.cons ((hBi.mono (Le4 q71 q83 q88 q231))).cells (Held.nil _)) (fun hH231 => ?_)
   refine zH (d := 88) (v := .bool (decide ((xi) ≤ xh))) 28 A273 rfl kr kr kw (fun _ => hH231) ?_
   intro a274 A274
   refine zH (d := 89) (v := .bool (decide ((xi) ≤ xh))) 29 A274 rfl kr kr kw (fun _ => hH231) ?_
   intro a275 A275
   refine zH (d := 90) (v := .bool (decide ((xi) ≤ xh))) 30 A275 rfl kr kr kw (fun _ => hH231) ?_
   intro a276 A276
   refine qB kr (nrm ?_)
   exact zA (hJ9001 _ _ ⟨_, decide ((xi) ≤ xh), A276.as [1, 4, 9, 11, 12, 90] kr kr, j231, q231, by first | rfl | exact decide_eq_false (by omega)⟩)
  have A277 := A260.set 78 (v' := .bool false) kr rfl (zG hc261)
  have ht278 : ¬ ((k : Int) > 0) := of_decide_eq_false hc261
  refine qE (d := 79) 19 A277 rfl kr kr (fun _ => hH231) ?_
  intro a279 A279
  refine qE (d := 80) 20 A279 rfl kr kr (fun _ => hH231) ?_
  intro a280 A280
  refine qE (d := 81) 21 A280 rfl kr kr (fun _ => hH231) ?_
  intro a281 A281
  refine qE (d := 82) 22 A281 rfl kr kr (fun _ => hH231) ?_
  intro a282 A282
  refine qE (d := 83) 23 A282 rfl kr kr (fun _ => hH231) ?_
  intro a283 A283
  refine qE (d := 84) 24 A283 rfl kr kr (fun _ => hH231) ?_
  intro a284 A284
  refine qE (d := 85) 25 A284 rfl kr kr (fun _ => hH231) ?_
  intro a285 A285
  refine qE (d := 86) 26 A285 rfl kr kr (fun _ => hH231) ?_
  intro a286 A286
  refine qE (d := 87) 27 A286 rfl kr kr (fun _ => hH231) ?_
  intro a287 A287
  refine qE (d := 88) 28 A287 rfl kr kr (fun _ => hH231) ?_
  intro a288 A288
  refine zH (d := 89) (v := .bool false) 29 A288 rfl kr kr kw (fun _ => hH231) ?_
  intro a289 A289
  refine zH (d := 90) (v := .bool false) 30 A289 rfl kr kr kw (fun _ => hH231) ?_
  intro a290 A290
  refine qB kr (nrm ?_)
  exact zA (hJ9001 _ _ ⟨_, false, A290.as [1, 4, 9, 11, 12, 90] kr kr, j231, q231, by first | rfl | exact decide_eq_false (by omega)⟩)
 have A291 := A91.set 57 (v' := .bool false) kr rfl (zG hc92)
 have ht292 : ¬ ((k : Int) < (len55 : Int)) := of_decide_eq_false hc92
 rw [List.take_of_length_le (by omega)] at hag
 refine i_exit ?_
 refine zT ?_
 refine zT ?_
 refine qA ?_
 refine zA (C85 _ _ ?_)
 refine zD (fun K293 C293 => ?_)
 refine zC ?_
 refine wplI A291 kr (zJ (d := 170) (v := .agg #[.bool m.disc.neg, .slice ad len cap, .slice ae le ce, .slice st m.states.length cs]) A291 kr (zF (t := 28) (g := true) (vs := [.bool m.disc.neg, .slice ad len cap, .slice ae le ce, .slice st m.states.length cs]) (ad := ⟨b2, 0, none⟩) rfl kr kr ir (j88.cells 0 rfl rfl)) ?_)
 intro a294 A294
 refine zB 1 [(171, .slice av v.length cv)] A294 kr kr (fun a295 A295 => ?_)
 refine wplI A295 kr (zK (d := 172) (f := 10) (cap := #[]) (vs := #[.agg #[.bool m.disc.neg, .slice ad len cap, .slice ae le ce, .slice st m.states.length cs], .slice av v.length cv]) A295 kr j88 rfl kr kr (fun w => Try.call10 _ w) (Backup_e _ _ j88.lt m _ _ _ (h.mono (Le9 q2 q8 q22 q36 q49 q55 q71 q83 q88)) _ _ _ (h2.mono (Le9 q2 q8 q22 q36 q49 q55 q71 q83 q88)) _ _ _ (hst.mono (Le9 q2 q8 q22 q36 q49 q55 q71 q83 q88)) v _ _ _ (hv.mono (Le9 q2 q8 q22 q36 q49 q55 q71 q83 q88)) (by omega) bx bi be hB) ?_)
 rintro v296 w296 j296 q296 hu296 ⟨ad296, len296, cap296, ae296, le296, ce296, rfl, hR296, hI296⟩ a297 A297
 refine zB 7 [(17, .int .i64 be), (16, .slice ae296 le296 ce296), (15, .slice ad296 len296 cap296), (175, .int .i64 be), (174, .slice ae296 le296 ce296), (173, .slice ad296 len296 cap296), (169, .tuple #[.slice ad296 len296 cap296, .slice ae296 le296 ce296, .int .i64 be])] A297 kr kr (fun a298 A298 => ?_)
 refine zE ?_
 refine zA (C293 _ _ ?_)
 refine zD (fun K299 C299 => ?_)
 refine zC ?_
 refine wplI A298 kr (zJ (d := 177) (v := .agg #[.bool m.disc.neg, .slice ad len cap, .slice ae le ce, .slice st m.states.length cs]) A298 kr (zF (t := 28) (g := true) (vs := [.bool m.disc.neg, .slice ad len cap, .slice ae le ce, .slice st m.states.length cs]) (ad := ⟨b2, 0, none⟩) rfl kr kr ir (j296.cells 0 rfl rfl)) ?_)
 intro a300 A300
 refine zB 1 [(178, .slice adm1 lenm capm1)] A300 kr kr (fun a301 A301 => ?_)
 obtain ⟨ux, ui, ue, hW⟩ : ∃ bx bi be, m.backV (es.map (·.x)) = (bx, bi, be) := ⟨_, _, _, rfl⟩
 obtain ⟨Y302, hSx302, q302, hRx302⟩ := St.pubRats (A := [(b2, .cells #[.bool m.disc.neg, .slice ad len cap, .slice ae le ce, .slice st m.states.length cs] 28 (0, 0))]) (B := []) (fun rb => ((b2, .cells #[.bool m.disc.neg, .slice ad len cap, .slice ae le ce, .slice st m.states.length cs] 28 (0, 0)) :: rb)) j296 (fun _ => by simp only [List.append_assoc, List.cons_append, List.nil_append, List.append_nil]) hr1 (trow_len hr1) (fun e he => (hk1 e he).mono q296)
 have j302 : St E0 w X w296 Y302 [(b2, .cells #[.bool m.disc.neg, .slice ad len cap, .slice ae le ce, .slice st m.states.length cs] 28 (0, 0))] := hSx302
 have hR302 : Rats (rd w296 Y302) adm1 lenm capm1 (es.map (·.x)) := by have h9 := hRx302; exact h9
 have hml : (es.map (·.x)).length = v2.length := by rw [List.length_map]; exact hel
 refine wplI A301 kr (zK (d := 179) (f := 10) (cap := #[]) (vs := #[.agg #[.bool m.disc.neg, .slice ad len cap, .slice ae le ce, .slice st m.states.length cs], .slice adm1 lenm capm1]) A301 kr j302 rfl kr kr (fun w => Try.call10 _ w) (Backup_e _ _ j302.lt m _ _ _ (h.mono (Le11 q2 q8 q22 q36 q49 q55 q71 q83 q88 q296 q302)) _ _ _ (h2.mono (Le11 q2 q8 q22 q36 q49 q55 q71 q83 q88 q296 q302)) _ _ _ (hst.mono (Le11 q2 q8 q22 q36 q49 q55 q71 q83 q88 q296 q302)) (es.map (·.x)) _ _ _ hR302 (by omega) ux ui ue hW) ?_)
 rintro v303 w303 j303 q303 hu303 ⟨ad303, len303, cap303, ae303, le303, ce303, rfl, hR303, hI303⟩ a304 A304
 refine zB 7 [(20, .int .i64 ue), (19, .slice ae303 le303 ce303), (18, .slice ad303 len303 cap303), (182, .int .i64 ue), (181, .slice ae303 le303 ce303), (180, .slice ad303 len303 cap303), (176, .tuple #[.slice ad303 len303 cap303, .slice ae303 le303 ce303, .int .i64 ue])] A304 kr kr (fun a305 A305 => ?_)
 refine zE ?_
 refine zA (C299 _ _ ?_)
 refine zD (fun K306 C306 => ?_)
 refine zD (fun K307 C307 => ?_)
 refine zC ?_
 refine zB 3 [(185, .bool ((be) != 0)), (184, .bool ((be) != 0)), (183, .int .i64 be)] A305 kr kr (fun a308 A308 => ?_)
 rcases Bool.eq_false_or_eq_true ((be) != 0) with hc309 | hc309
 ·
  have A310 := A308.set 185 (v' := .bool true) kr rfl (zG hc309)
  have ht311 : (be) ≠ 0 := by simpa using hc309
  refine zB 3 [(188, .bool true), (187, undef), (186, undef)] A310 kr kr (fun a312 A312 => ?_)
  refine zE ?_
  refine zA (C307 _ _ ?_)
  refine qG A312 kr kr ?_
  refine zD (fun K313 C313 => ?_)
  refine zC ?_
  refine zB 1 [(8, .bool true)] A312 kr kr (fun a314 A314 => ?_)
  refine zE ?_
  refine zA (C313 _ _ ?_)
  refine zQ ?_
  refine zL ?_
  refine zR (v := .bool true) (rs := [.tmp 8]) A314 kr (Res.tmp kr Res.nil) kr ?_
  exact ⟨j303.upd, _, rfl, rfl⟩
 have A315 := A308.set 185 (v' := .bool false) kr rfl (zG hc309)
 have ht316 : (be) = 0 := by simpa using hc309
 have hb0 := ht316
 refine zB 3 [(188, .bool ((ue) != 0)), (187, .bool ((ue) != 0)), (186, .int .i64 ue)] A315 kr kr (fun a317 A317 => ?_)
 refine zE ?_
 refine zA (C307 _ _ ?_)
 refine zS ((ue) != 0) A317 kr kr (fun hc318 => ?_) (fun hc318 => ?_)
 ·
  have A319 := A317.set 188 (v' := .bool true) kr rfl (zG hc318)
  have ht320 : (ue) ≠ 0 := by simpa using hc318
  refine zD (fun K321 C321 => ?_)
  refine zC ?_
  refine zB 1 [(8, .bool true)] A319 kr kr (fun a322 A322 => ?_)
  refine zE ?_
  refine zA (C321 _ _ ?_)
  refine zQ ?_
  refine zL ?_
  refine zR (v := .bool true) (rs := [.tmp 8]) A322 kr (Res.tmp kr Res.nil) kr ?_
  exact ⟨j303.upd, _, rfl, rfl⟩
 have A323 := A317.set 188 (v' := .bool false) kr rfl (zG hc318)
 have ht324 : (ue) = 0 := by simpa using hc318
 have hu0 := ht324
 have hok : (m.backV v).2.2 = 0 := by rw [hB]; exact hb0
 have hok2 : (m.backV (es.map (·.x))).2.2 = 0 := by rw [hW]; exact hu0
 have hbl := back_len hok
 have hbl2 := back_len hok2
 have hrl := fun (s : Nat) hs hw => reach_law hok hok2 (s := s) hs hw
 simp only [hB, hW] at hbl hbl2 hrl
 have hlb := hR296.hlen
 have hlu := hR303.hlen
 refine i_skip ?_
 refine zA (C306 _ _ ?_)
 refine zD (fun K325 C325 => ?_)
 refine zD (fun K326 C326 => ?_)
 refine zC ?_
 refine zB 1 [(21, .int .i64 0)] A323 kr kr (fun a327 A327 => ?_)
 refine zE ?_
 refine zA (C326 _ _ ?_)
 refine zV ?_
 refine qC (fun (k : Nat) ac w1 => ∃ (Y1 : Hid), Fr 229 ac [(9, .slice ad55 len55 cap55), (15, .slice ad296 len296 cap296), (18, .slice ad303 len303 cap303), (21, .int .i64 (k : Int))] ∧ St E0 w X w1 Y1 [(b2, .cells #[.bool m.disc.neg, .slice ad len cap, .slice ae le ce, .slice st m.states.length cs] 28 (0, 0))] ∧ Le (rd w303 Y302) (rd w1 Y1) ∧ (k ≤ len55)) (fun (k : Nat) => len55 - k) 0 ?_ ?_
 ·
  refine ⟨_, A327.as [9, 15, 18, 21] kr kr, j303, Le.refl _, Nat.zero_le _⟩
 rintro k a328 w328 ⟨Y328, A328, j328, q328, hp328_0⟩
 refine zD (fun K329 C329 => ?_)
 refine zD (fun K330 C330 => ?_)
 refine zC ?_
 refine zB 4 [(192, .bool (decide ((k : Int) < (len55 : Int)))), (191, .int .i64 (len55 : Int)), (190, .slice ad55 len55 cap55), (189, .int .i64 (k : Int))] A328 kr kr (fun a331 A331 => ?_)
 refine zE ?_
 refine zA (C330 _ _ ?_)
 refine zS (decide ((k : Int) < (len55 : Int))) A331 kr kr (fun hc332 => ?_) (fun hc332 => ?_)
 ·
  have A333 := A331.set 192 (v' := .bool true) kr rfl (zG hc332)
  have ht334 : (k : Int) < (len55 : Int) := of_decide_eq_true hc332
  obtain ⟨bi, offi, rfl⟩ := SlR.addr hI9 (by omega)
  obtain ⟨xi, hxi, hAi⟩ := SlR.at hI9 (k := k) (by omega)
  have hBi := int_at hAi
  have hin9 := List.mem_of_getElem? hxi
  have hrg := hR9.range xi hin9
  obtain ⟨bu, offu, xu, anu, lnu, cnu, amu, lmu, cmu, rfl, hxu, hAu, hLu, hMu⟩ := hR296.cell (k := xi.toNat) (by omega)
  obtain ⟨bq, offq, xq, anq, lnq, cnq, amq, lmq, cmq, rfl, hxq, hAq, hLq, hMq⟩ := hR303.cell (k := xi.toNat) (by omega)
  have heq := hrl xi.toNat (by omega) (fun a ha o ho => by have h9 := hR9.closed xi hin9 a ha o ho; have h8 := hR9.range _ h9; have h7 := hag _ h9 (by omega) (by omega); exact h7.symm)
  rw [getD_get hxu, getD_get hxq] at heq
  refine i_skip ?_
  refine zA (C329 _ _ ?_)
  refine zD (fun K335 C335 => ?_)
  refine zV ?_
  refine zD (fun K336 C336 => ?_)
  refine qD (N := 34) (Held [(⟨bi, offi + k, none⟩, [.int .i64 xi])]) [] kr kr kr j328 ?_
  intro w337 j337 q337 hu337
  refine zX (Held.cons ((hBi.mono (Le8 q71 q83 q88 q296 q302 q303 q328 q337))).cells (Held.nil _)) (fun hH337 => ?_)
  refine zH (d := 195) (v := .slice (some ⟨bi, offi, none⟩) len55 cap55) 0 A333 rfl kr kr kw (fun _ => hH337) ?_
  intro a338 A338
  refine zH (d := 196) (v := .int .i64 (k : Int)) 1 A338 rfl kr kr kw (fun _ => hH337) ?_
  intro a339 A339
  refine zH (d := 197) (v := .pointer (some ⟨bi, offi + k, none⟩)) 2 A339 rfl kr kr (fun w => zP (t := 30) (e := 3) (b := bi) (off := offi) (len := len55) (cap := cap55) (kd := .i64) (i := (k : Int)) (g := false) (m := 1) (off' := offi + k) rfl kr kr kr kr (by omega) (by omega) (by first | rfl | omega | (simp; done) | (simp; omega)) w) (fun _ => hH337) ?_
  intro a340 A340
  refine zY (d := 198) (v := .int .i64 xi) 3 A340 rfl kr kr kr (fun w hw => zF (t := 3) (g := false) (vs := [.int .i64 xi]) (ad := ⟨bi, offi + k, none⟩) rfl kr kr ir (hw.get 0 kr)) hH337 ?_
  intro a341 A341
  refine zH (d := 199) (v := .slice (some ⟨bu, offu, none⟩) len296 cap296) 4 A341 rfl kr kr kw (fun _ => hH337) ?_
  intro a342 A342
  refine zH (d := 200) (v := .int .i64 (len296 : Int)) 5 A342 rfl kr kr kw (fun _ => hH337) ?_
  intro a343 A343
  refine zH (d := 201) (v := .bool (decide ((xi) ≥ (len296 : Int)))) 6 A343 rfl kr kr kw (fun _ => hH337) ?_
  intro a344 A344
  refine zH (d := 202) (v := .bool (decide ((xi) ≥ (len296 : Int)))) 7 A344 rfl kr kr kw (fun _ => hH337) ?_
  intro a345 A345
  rcases Bool.eq_false_or_eq_true (decide ((xi) ≥ (len296 : Int))) with hc346 | hc346
  ·
   have A347 := A345.set 202 (v' := .bool true) kr rfl (zG hc346)
   have ht348 : (xi) ≥ (len296 : Int) := of_decide_eq_true hc346
   exfalso; omega
  have A349 := A345.set 202 (v' := .bool false) kr rfl (zG hc346)
  have ht350 : ¬ ((xi) ≥ (len296 : Int)) := of_decide_eq_false hc346
  refine zH (d := 203) (v := .slice (some ⟨bi, offi, none⟩) len55 cap55) 8 A349 rfl kr kr kw (fun _ => hH337) ?_
  intro a351 A351
  refine zH (d := 204) (v := .int .i64 (k : Int)) 9 A351 rfl kr kr kw (fun _ => hH337) ?_
  intro a352 A352
  refine zH (d := 205) (v := .pointer (some ⟨bi, offi + k, none⟩)) 10 A352 rfl kr kr (fun w => zP (t := 30) (e := 3) (b := bi) (off := offi) (len := len55) (cap := cap55) (kd := .i64) (i := (k : Int)) (g := false) (m := 1) (off' := offi + k) rfl kr kr kr kr (by omega) (by omega) (by first | rfl | omega | (simp; done) | (simp; omega)) w) (fun _ => hH337) ?_
  intro a353 A353
  refine zY (d := 206) (v := .int .i64 xi) 11 A353 rfl kr kr kr (fun w hw => zF (t := 3) (g := false) (vs := [.int .i64 xi]) (ad := ⟨bi, offi + k, none⟩) rfl kr kr ir (hw.get 0 kr)) hH337 ?_
  intro a354 A354
  refine zH (d := 207) (v := .slice (some ⟨bq, offq, none⟩) len303 cap303) 12 A354 rfl kr kr kw (fun _ => hH337) ?_
  intro a355 A355
  refine zH (d := 208) (v := .int .i64 (len303 : Int)) 13 A355 rfl kr kr kw (fun _ => hH337) ?_
  intro a356 A356
  refine zH (d := 209) (v := .bool (decide ((xi) ≥ (len303 : Int)))) 14 A356 rfl kr kr kw (fun _ => hH337) ?_
  intro a357 A357
  refine zH (d := 210) (v := .bool (decide ((xi) ≥ (len303 : Int)))) 15 A357 rfl kr kr kw (fun _ => hH337) ?_
  intro a358 A358
  refine zH (d := 211) (v := .bool (decide ((xi) ≥ (len303 : Int)))) 16 A358 rfl kr kr kw (fun _ => hH337) ?_
  intro a359 A359
  rcases Bool.eq_false_or_eq_true (decide ((xi) ≥ (len303 : Int))) with hc360 | hc360
  ·
   have A361 := A359.set 211 (v' := .bool true) kr rfl (zG hc360)
   have ht362 : (xi) ≥ (len303 : Int) := of_decide_eq_true hc360
   exfalso; omega
  have A363 := A359.set 211 (v' := .bool false) kr rfl (zG hc360)
  have ht364 : ¬ ((xi) ≥ (len303 : Int)) := of_decide_eq_false hc360
  refine zH (d := 212) (v := .slice (some ⟨bu, offu, none⟩) len296 cap296) 17 A363 rfl kr kr kw (fun _ => hH337) ?_
  intro a365 A365
  refine zH (d := 213) (v := .slice (some ⟨bi, offi, none⟩) len55 cap55) 18 A365 rfl kr kr kw (fun _ => hH337) ?_
  intro a366 A366
  refine zH (d := 214) (v := .int .i64 (k : Int)) 19 A366 rfl kr kr kw (fun _ => hH337) ?_
  intro a367 A367
  refine zH (d := 215) (v := .pointer (some ⟨bi, offi + k, none⟩)) 20 A367 rfl kr kr (fun w => zP (t := 30) (e := 3) (b := bi) (off := offi) (len := len55) (cap := cap55) (kd := .i64) (i := (k : Int)) (g := false) (m := 1) (off' := offi + k) rfl kr kr kr kr (by omega) (by omega) (by first | rfl | omega | (simp; done) | (simp; omega)) w) (fun _ => hH337) ?_
  intro a368 A368
  refine zY (d := 216) (v := .int .i64 xi) 21 A368 rfl kr kr kr (fun w hw => zF (t := 3) (g := false) (vs := [.int .i64 xi]) (ad := ⟨bi, offi + k, none⟩) rfl kr kr ir (hw.get 0 kr)) hH337 ?_
  intro a369 A369
  refine zH (d := 217) (v := .pointer (some ⟨bu, offu + xi.toNat * 3, none⟩)) 22 A369 rfl kr kr (fun w => zP (t := 29) (e := 25) (b := bu) (off := offu) (len := len296) (cap := cap296) (kd := .i64) (i := xi) (g := true) (m := 3) (off' := offu + xi.toNat * 3) rfl kr kr kr kr (by omega) (by omega) (by first | rfl | omega | (simp; done) | (simp; omega)) w) (fun _ => hH337) ?_
  intro a370 A370
  refine zH (d := 219) (v := .slice (some ⟨bq, offq, none⟩) len303 cap303) 24 A370 rfl kr kr kw (fun _ => hH337) ?_
  intro a371 A371
  refine zH (d := 220) (v := .slice (some ⟨bi, offi, none⟩) len55 cap55) 25 A371 rfl kr kr kw (fun _ => hH337) ?_
  intro a372 A372
  refine zH (d := 221) (v := .int .i64 (k : Int)) 26 A372 rfl kr kr kw (fun _ => hH337) ?_
  intro a373 A373
  refine zH (d := 222) (v := .pointer (some ⟨bi, offi + k, none⟩)) 27 A373 rfl kr kr (fun w => zP (t := 30) (e := 3) (b := bi) (off := offi) (len := len55) (cap := cap55) (kd := .i64) (i := (k : Int)) (g := false) (m := 1) (off' := offi + k) rfl kr kr kr kr (by omega) (by omega) (by first | rfl | omega | (simp; done) | (simp; omega)) w) (fun _ => hH337) ?_
  intro a374 A374
  refine zY (d := 223) (v := .int .i64 xi) 28 A374 rfl kr kr kr (fun w hw => zF (t := 3) (g := false) (vs := [.int .i64 xi]) (ad := ⟨bi, offi + k, none⟩) rfl kr kr ir (hw.get 0 kr)) hH337 ?_
  intro a375 A375
  refine zH (d := 224) (v := .pointer (some ⟨bq, offq + xi.toNat * 3, none⟩)) 29 A375 rfl kr kr (fun w => zP (t := 29) (e := 25) (b := bq) (off := offq) (len := len303) (cap := cap303) (kd := .i64) (i := xi) (g := true) (m := 3) (off' := offq + xi.toNat * 3) rfl kr kr kr kr (by omega) (by omega) (by first | rfl | omega | (simp; done) | (simp; omega)) w) (fun _ => hH337) ?_
  intro a376 A376
  refine zM [23, 30] kr rfl ?_
  refine ForkT.cons (i := 23) A376 rfl kr ?_ ?_
  ·
   refine zJ (d := 218) (v := .agg #[.bool xu.neg, .slice anu lnu cnu, .slice amu lmu cmu]) A376 kr (zF (t := 25) (g := true) (vs := [.bool xu.neg, .slice anu lnu cnu, .slice amu lmu cmu]) (ad := ⟨bu, offu + xi.toNat * 3, none⟩) rfl kr kr ir ((hAu.mono (Le4 q302 q303 q328 q337))).cells) ?_
   intro a377 A377
   refine zI (Held.cons ((hBi.mono (Le8 q71 q83 q88 q296 q302 q303 q328 q337))).cells (Held.nil _)) (fun hH337 => ?_)
   refine zM [30] kr rfl ?_
   refine ForkT.cons (i := 30) A377 rfl kr (zJ (d := 225) (v := .agg #[.bool xq.neg, .slice anq lnq cnq, .slice amq lmq cmq]) A377 kr (zF (t := 25) (g := true) (vs := [.bool xq.neg, .slice anq lnq cnq, .slice amq lmq cmq]) (ad := ⟨bq, offq + xi.toNat * 3, none⟩) rfl kr kr ir ((hAq.mono (Le2 q328 q337))).cells) ?_) ForkT.nil
   intro a378 A378
   refine zI (Held.cons ((hBi.mono (Le8 q71 q83 q88 q296 q302 q303 q328 q337))).cells (Held.nil _)) (fun hH337 => ?_)
   refine zM [31] kr rfl ?_
   refine ForkT.cons (i := 31) A378 rfl kr (zK (d := 226) (f := 19) (cap := #[]) (vs := #[.agg #[.bool xu.neg, .slice anu lnu cnu, .slice amu lmu cmu], .agg #[.bool xq.neg, .slice anq lnq cnq, .slice amq lmq cmq]]) A378 kr j337 rfl kr kr (fun w => Try.call19 _ w) (EqualRat_c _ _ j337.lt xu _ _ _ (hLu.mono (Le4 q302 q303 q328 q337)) _ _ _ (hMu.mono (Le4 q302 q303 q328 q337)) xq _ _ _ (hLq.mono (Le2 q328 q337)) _ _ _ (hMq.mono (Le2 q328 q337))) ?_) ForkT.nil
   rintro v379 w379 j379 q379 hu379 rfl a380 A380
   refine zI (Held.cons ((hBi.mono (Le9 q71 q83 q88 q296 q302 q303 q328 q337 q379))).cells (Held.nil _)) (fun hH379 => ?_)
   refine zH (d := 227) (v := .bool (!(decide (xu = xq)))) 32 A380 rfl kr kr kw (fun _ => hH379) ?_
   intro a381 A381
   refine zH (d := 228) (v := .bool (!(decide (xu = xq)))) 33 A381 rfl kr kr kw (fun _ => hH379) ?_
   intro a382 A382
   refine qB kr (nrm ?_)
   refine zA (C336 _ _ ?_)
   refine zS (!(decide (xu = xq))) A382 kr kr (fun hc383 => ?_) (fun hc383 => ?_)
   ·
    have A384 := A382.set 228 (v' := .bool true) kr rfl (zG hc383)
    have ht385 : ¬ (xu = xq) := by simpa using hc383
    exact absurd heq (by simpa using ht385)
   have A386 := A382.set 228 (v' := .bool false) kr rfl (zG hc383)
   have ht387 : xu = xq := by simpa using hc383
   refine i_skip ?_
   refine zW ?_
   refine zA (C335 _ _ ?_)
   refine zC ?_
   refine zB 2 [(194, .int .i64 (IntKind.i64.wrap ((k : Int) + 1))), (193, .int .i64 (k : Int))] A386 kr kr (fun a388 A388 => ?_)
   have A389 := A388.set 194 (v' := .int .i64 ((k : Int) + 1)) kr rfl (vint (wi64 (by omega) (by omega)))
   refine zB 1 [(21, .int .i64 ((k : Int) + 1))] A389 kr kr (fun a390 A390 => ?_)
   refine zE ?_
   refine zA ?_
   refine ⟨k + 1, ⟨_, A390.as [9, 15, 18, 21] kr kr, j379, (Le3 q328 q337 q379), by omega⟩, ?_⟩
   first | omega | (simp; omega)
  refine ForkT.cons (i := 30) A376 rfl kr (zJ (d := 225) (v := .agg #[.bool xq.neg, .slice anq lnq cnq, .slice amq lmq cmq]) A376 kr (zF (t := 25) (g := true) (vs := [.bool xq.neg, .slice anq lnq cnq, .slice amq lmq cmq]) (ad := ⟨bq, offq + xi.toNat * 3, none⟩) rfl kr kr ir ((hAq.mono (Le2 q328 q337))).cells) ?_) ForkT.nil
  intro a391 A391
  refine zI (Held.cons ((hBi.mono (Le8 q71 q83 q88 q296 q302 q303 q328 q337))).cells (Held.nil _)) (fun hH337 => ?_)
  refine zM [23] kr rfl ?_
  refine ForkT.cons (i := 23) A391 rfl kr (zJ (d := 218) (v := .agg #[.bool xu.neg, .slice anu lnu cnu, .slice amu lmu cmu]) A391 kr (zF (t := 25) (g := true) (vs := [.bool xu.neg, .slice anu lnu cnu, .slice amu lmu cmu]) (ad := ⟨bu, offu + xi.toNat * 3, none⟩) rfl kr kr ir ((hAu.mono (Le4 q302 q303 q328 q337))).cells) ?_) ForkT.nil
  intro a392 A392
  refine zI (Held.cons ((hBi.mono (Le8 q71 q83 q88 q296 q302 q303 q328 q337))).cells (Held.nil _)) (fun hH337 => ?_)
  refine zM [31] kr rfl ?_
  refine ForkT.cons (i := 31) A392 rfl kr (zK (d := 226) (f := 19) (cap := #[]) (vs := #[.agg #[.bool xu.neg, .slice anu lnu cnu, .slice amu lmu cmu], .agg #[.bool xq.neg, .slice anq lnq cnq, .slice amq lmq cmq]]) A392 kr j337 rfl kr kr (fun w => Try.call19 _ w) (EqualRat_c _ _ j337.lt xu _ _ _ (hLu.mono (Le4 q302 q303 q328 q337)) _ _ _ (hMu.mono (Le4 q302 q303 q328 q337)) xq _ _ _ (hLq.mono (Le2 q328 q337)) _ _ _ (hMq.mono (Le2 q328 q337))) ?_) ForkT.nil
  rintro v393 w393 j393 q393 hu393 rfl a394 A394
  refine zI (Held.cons ((hBi.mono (Le9 q71 q83 q88 q296 q302 q303 q328 q337 q393))).cells (Held.nil _)) (fun hH393 => ?_)
  refine zH (d := 227) (v := .bool (!(decide (xu = xq)))) 32 A394 rfl kr kr kw (fun _ => hH393) ?_
  intro a395 A395
  refine zH (d := 228) (v := .bool (!(decide (xu = xq)))) 33 A395 rfl kr kr kw (fun _ => hH393) ?_
  intro a396 A396
  refine qB kr (nrm ?_)
  refine zA (C336 _ _ ?_)
  refine zS (!(decide (xu = xq))) A396 kr kr (fun hc397 => ?_) (fun hc397 => ?_)
  ·
   have A398 := A396.set 228 (v' := .bool true) kr rfl (zG hc397)
   have ht399 : ¬ (xu = xq) := by simpa using hc397
   exact absurd heq (by simpa using ht399)
  have A400 := A396.set 228 (v' := .bool false) kr rfl (zG hc397)
  have ht401 : xu = xq := by simpa using hc397
  refine i_skip ?_
  refine zW ?_
  refine zA (C335 _ _ ?_)
  refine zC ?_
  refine zB 2 [(194, .int .i64 (IntKind.i64.wrap ((k : Int) + 1))), (193, .int .i64 (k : Int))] A400 kr kr (fun a402 A402 => ?_)
  have A403 := A402.set 194 (v' := .int .i64 ((k : Int) + 1)) kr rfl (vint (wi64 (by omega) (by omega)))
  refine zB 1 [(21, .int .i64 ((k : Int) + 1))] A403 kr kr (fun a404 A404 => ?_)
  refine zE ?_
  refine zA ?_
  refine ⟨k + 1, ⟨_, A404.as [9, 15, 18, 21] kr kr, j393, (Le3 q328 q337 q393), by omega⟩, ?_⟩
  first | omega | (simp; omega)
 have A405 := A331.set 192 (v' := .bool false) kr rfl (zG hc332)
 have ht406 : ¬ ((k : Int) < (len55 : Int)) := of_decide_eq_false hc332
 refine i_exit ?_
 refine zT ?_
 refine zT ?_
 refine qA ?_
 refine zA (C325 _ _ ?_)
 refine zD (fun K407 C407 => ?_)
 refine zC ?_
 refine zB 1 [(8, .bool true)] A405 kr kr (fun a408 A408 => ?_)
 refine zE ?_
 refine zA (C407 _ _ ?_)
 refine zQ ?_
 refine zR (v := .bool true) (rs := [.tmp 8]) A408 kr (Res.tmp kr Res.nil) kr ?_
 exact ⟨j328.upd, _, rfl, rfl⟩
end Go.Proofs.Ytoocgllbbihoaaa
namespace Go.Proofs.Ytoocgllbbihoaaa
open Go Go.Gv Go.ChangeShapes Go.WideShapes Go.ChangeAt Go.RowKit
theorem own_mdpReaches : ownKnob Try.prog.godebug = Option.none := by kernel_rfl
theorem laidOut_mdpReaches : laidOutB Try.prog = true := by kernel_rfl
set_option maxRecDepth 100000 in
theorem mdpReaches_lifted (os : Os) (started : os.Started) (H : Type) (enc : TypeId × Value → H) :
    ReturnsInHanded {} Try.checked os 5 .any (Rows.mdpReachesSpec.pre6 enc Try.prog Try.f5 Rows.mdpReachesRow.domain false) (Rows.mdpReachesSpec.post enc Try.prog Try.f5 false true false false) := by
  refine returnsInHanded_of_change (C := Try.checked) own_mdpReaches started (by kernel_rfl) Try.func5
    (ChangeSpec.witness6 (enc := enc) (C := Try.checked) false ⟨#[], #[.agg #[.bool false, .slice none 0 0, .slice none 0 0, .slice none 0 0], .slice none 0 0, .slice none 0 0, .int .i64 0], []⟩ 8 (by kernel_rfl) (by kernel_rfl) (by kernel_rfl) (by kernel_rfl)) ?_
  intro W base args ds gs before hval0 hW hcnd _
  have hval : ∀ (j : Nat) t v, Try.f5.params[j]? = some t → args[j]? = some v → Value.okWide Try.prog W .any base t v := hval0
  have hW' := hW
  obtain ⟨p, q, hA0, hV, rfl, hfz, hnd⟩ := hW
  have hA : DataW.TrodAll enc Try.prog W 0 (fun _ => true) true Try.f5.params.toList args.toList ds p := hA0
  rw [Try.params5] at hA hval
  obtain ⟨v0, v1, v2, v3, d0, d1, d2, d3, p0, p1, p2, p3, rfl, rfl, rfl, h0, h1, h2, h3⟩ := trodAll_four hA
  obtain ⟨rfl, rfl⟩ := trodVars_none hV
  have h0k := h0
  obtain ⟨m0, a1_0, a2_0, a3_0, a4_0, a5_0, a6_0, a7_0, a8_0, a9_0, rfl, g1_0, g2_0, g3_0⟩ := open_mdp (hval 0 28 v0 rfl rfl) h0
  have h1k := h1
  obtain ⟨ad1, len1, cap1, xs1, rfl, g1⟩ := open_arats (hval 1 29 v1 rfl rfl) h1
  have h2k := h2
  obtain ⟨ad2, len2, cap2, xs2, rfl, g2⟩ := open_arats (hval 2 29 v2 rfl rfl) h2
  have h3k := h3
  obtain ⟨z3, rfl, rfl, rfl, wz3⟩ := open_int Try.underlying3 (hval 3 3 v3 rfl rfl) h3
  clear hA0 hval0
  simp only [List.append_nil] at hW'
  refine (reaches_c W X0 (X0_lt _) m0 _ _ _ g1_0 _ _ _ g2_0 _ _ _ g3_0 xs1 _ _ _ g1 xs2 _ _ _ g2 z3).mono ?_
  rintro e W' ⟨hu, v, rfl, rfl⟩
  have hb := Upd.below hu
  exact ⟨_, rfl, _, _, _, [] ++ [], _, [], hW', trodAll_mk1 (shut_bool (by kernel_rfl) true), trodAll_mk4 (Below.trod laidOut_mdpReaches (by kernel_rfl) (of_decide_eq_true (by kernel_rfl)) h0k hb (fun x hx => by simpa using hW'.lt x (by simp [hx]))) (Below.trod laidOut_mdpReaches (by kernel_rfl) (of_decide_eq_true (by kernel_rfl)) h1k hb (fun x hx => by simpa using hW'.lt x (by simp [hx]))) (Below.trod laidOut_mdpReaches (by kernel_rfl) (of_decide_eq_true (by kernel_rfl)) h2k hb (fun x hx => by simpa using hW'.lt x (by simp [hx]))) (shut_int Try.underlying3 wz3), rfl, hb.frame _, fun h => by cases h⟩
theorem mdpReaches_holds : Rows.MdpReachesSaid :=
  OpenClaim.holds_of_wide 5 Try.f5 rfl rfl rfl rfl rfl rfl rfl ⟨rfl, rfl, rfl, rfl, rfl⟩ rfl rfl rfl rfl rfl (by kernel_rfl) Try.func5 (by kernel_rfl)
    (of_decide_eq_true (by kernel_rfl)) (by unfold Func.isWrapper; first | (rw [if_pos (by decide +kernel)]; kernel_rfl) | (rw [if_neg (by decide +kernel)]; exact ⟨rfl, rfl⟩))
    (fun os started H enc _ => mdpReaches_lifted os started H enc)
end Go.Proofs.Ytoocgllbbihoaaa

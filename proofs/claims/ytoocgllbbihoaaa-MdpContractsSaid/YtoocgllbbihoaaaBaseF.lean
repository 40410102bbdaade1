/- Parts of the proof: F40 F41. By an AI agent. -/
import Derived.Test.YtoocgllbbihoaaaBaseA
import Derived.Test.YtoocgllbbihoaaaBaseB
import Derived.Test.YtoocgllbbihoaaaBaseC
import Derived.Test.YtoocgllbbihoaaaBaseD
import Derived.Test.YtoocgllbbihoaaaBaseE
set_option linter.unusedVariables false
set_option linter.unusedSimpArgs false
set_option linter.unnecessarySimpa false
namespace Go.Proofs.Ytoocgllbbihoaaa
open Go Go.Gv Go.RowKit
set_option maxRecDepth 100000
set_option maxHeartbeats 1000000
theorem take_eq {α : Type} {l l2 : List α} {k : Nat} {x : α} (h : l.take k = l2.take k) (hx : l[k]? = some x) (hy : l2[k]? = some x) : l.take (k + 1) = l2.take (k + 1) := by rw [take_snoc hx, take_snoc hy, h]
theorem take_all {α : Type} {l l2 : List α} {k : Nat} (h : l.take k = l2.take k) (hl : l.length = l2.length) (hk : l.length ≤ k) : l = l2 := by
  rwa [List.take_of_length_le hk, List.take_of_length_le (by omega)] at h
theorem ne_at {α : Type} {l l2 : List α} {k : Nat} {x y : α} (hx : l[k]? = some x) (hy : l2[k]? = some y) (h : x ≠ y) : l ≠ l2 := by
  rintro rfl; exact h (Option.some.inj (hx.symm.trans hy))
theorem getD_some {l : List Nat} {k : Nat} (h : k < l.length) : l[k]? = some (l.getD k 0) := by
  rw [List.getD_eq_getElem?_getD, List.getElem?_eq_getElem h]; rfl
theorem vboolE {x y : Bool} (h : x = y) : Value.bool x = .bool y := h ▸ rfl
theorem EqualLimbs_c (w : World) (X : Hid) (hX : ∀ k o, X k o → k < w.heap.size) (ad : Option Addr) (len cap : Nat) (l : List Nat) (h : Limbs (rd w X) ad len cap l) (ad2 : Option Addr) (len2 cap2 : Nat) (l2 : List Nat) (h2 : Limbs (rd w X) ad2 len2 cap2 l2) : Calls Try.prog 62 #[.slice ad len cap, .slice ad2 len2 cap2] w (Ret E0 w fun _ v => v = .bool (decide (l = l2))) := by
 obtain rfl := h.hlen
 obtain rfl := h2.hlen
 have hcap := h.hcap
 have hbig := h.hbig
 have hcap2 := h2.hcap
 have hbig2 := h2.hbig
 refine zZ (n := 26) (vs := [.slice ad l.length cap, .slice ad2 l2.length cap2]) Try.func62 rfl rfl rfl kr (fun a0 A0 => ?_)
 have A0 : Fr 26 a0 [(0, .slice ad l.length cap), (1, .slice ad2 l2.length cap2)] := A0
 have j0 : St E0 w X w X [] := St.start hX
 refine zD (fun K1 C1 => ?_)
 refine zC ?_
 refine zB 1 [(4, .bool false)] A0 kr kr (fun a2 A2 => ?_)
 refine zE ?_
 refine zA (C1 _ _ ?_)
 refine zD (fun K3 C3 => ?_)
 refine zD (fun K4 C4 => ?_)
 refine zC ?_
 refine zB 5 [(10, .bool ((l.length : Int) != (l2.length : Int))), (9, .int .i64 (l2.length : Int)), (8, .slice ad2 l2.length cap2), (7, .int .i64 (l.length : Int)), (6, .slice ad l.length cap)] A2 kr kr (fun a5 A5 => ?_)
 refine zE ?_
 refine zA (C4 _ _ ?_)
 refine zS ((l.length : Int) != (l2.length : Int)) A5 kr kr (fun hc6 => ?_) (fun hc6 => ?_)
 ·
  have A7 := A5.set 10 (v' := .bool true) kr rfl (zG hc6)
  have ht8 : (l.length : Int) ≠ (l2.length : Int) := by simpa using hc6
  refine zD (fun K9 C9 => ?_)
  refine zC ?_
  refine zB 1 [(4, .bool false)] A7 kr kr (fun a10 A10 => ?_)
  refine zE ?_
  refine zA (C9 _ _ ?_)
  refine zQ ?_
  refine zL ?_
  refine zR (v := .bool false) (rs := [.tmp 4]) A10 kr (Res.tmp kr Res.nil) kr ?_
  exact ⟨j0.upd, _, rfl, vboolE ((decide_eq_false (fun e => by rw [e] at ht8; exact ht8 rfl)).symm)⟩
 have A11 := A5.set 10 (v' := .bool false) kr rfl (zG hc6)
 have ht12 : (l.length : Int) = (l2.length : Int) := by simpa using hc6
 have hlen : l.length = l2.length := by omega
 refine i_skip ?_
 refine zA (C3 _ _ ?_)
 refine zD (fun K13 C13 => ?_)
 refine zD (fun K14 C14 => ?_)
 refine zC ?_
 refine zB 1 [(5, .int .i64 0)] A11 kr kr (fun a15 A15 => ?_)
 refine zE ?_
 refine zA (C14 _ _ ?_)
 refine zV ?_
 refine qC (fun (k : Nat) ac w1 => ∃ (Y1 : Hid), Fr 26 ac [(0, .slice ad l.length cap), (1, .slice ad2 l2.length cap2), (5, .int .i64 (k : Int))] ∧ St E0 w X w1 Y1 [] ∧ Le (rd w X) (rd w1 Y1) ∧ (l.take k = l2.take k) ∧ (k ≤ l.length)) (fun (k : Nat) => l.length - k) 0 ?_ ?_
 ·
  refine ⟨_, A15.as [0, 1, 5] kr kr, j0, Le.refl _, rfl, Nat.zero_le _⟩
 rintro k a16 w16 ⟨Y16, A16, j16, q16, hp16_0, hp16_1⟩
 refine zD (fun K17 C17 => ?_)
 refine zD (fun K18 C18 => ?_)
 refine zC ?_
 refine zB 4 [(14, .bool (decide ((k : Int) < (l.length : Int)))), (13, .int .i64 (l.length : Int)), (12, .slice ad l.length cap), (11, .int .i64 (k : Int))] A16 kr kr (fun a19 A19 => ?_)
 refine zE ?_
 refine zA (C18 _ _ ?_)
 refine zS (decide ((k : Int) < (l.length : Int))) A19 kr kr (fun hc20 => ?_) (fun hc20 => ?_)
 ·
  have A21 := A19.set 14 (v' := .bool true) kr rfl (zG hc20)
  have ht22 : (k : Int) < (l.length : Int) := of_decide_eq_true hc20
  obtain ⟨b1, off1, rfl, _⟩ := h.addr (by omega)
  have hx1 := getD_some (l := l) (k := k) (by omega)
  obtain ⟨b2, off2, rfl, _⟩ := h2.addr (by omega)
  have hx2 := getD_some (l := l2) (k := k) (by omega)
  refine i_skip ?_
  refine zA (C17 _ _ ?_)
  refine zD (fun K23 C23 => ?_)
  refine zV ?_
  refine zD (fun K24 C24 => ?_)
  refine qD (N := 9) (Held [(⟨b1, off1 + k, none⟩, [.int .u32 ((l.getD k 0 : Nat) : Int)]), (⟨b2, off2 + k, none⟩, [.int .u32 ((l2.getD k 0 : Nat) : Int)])]) [] kr kr kr j16 ?_
  intro w25 j25 q25 hu25
  refine zX (Held.cons ((h.cell (i := k) (by omega)).mono (Le2 q16 q25)).cells (Held.cons ((h2.cell (i := k) (by omega)).mono (Le2 q16 q25)).cells (Held.nil _))) (fun hH25 => ?_)
  refine zH (d := 17) (v := .slice (some ⟨b1, off1, none⟩) l.length cap) 0 A21 rfl kr kr kw (fun _ => hH25) ?_
  intro a26 A26
  refine zH (d := 18) (v := .int .i64 (k : Int)) 1 A26 rfl kr kr kw (fun _ => hH25) ?_
  intro a27 A27
  refine zH (d := 19) (v := .pointer (some ⟨b1, off1 + k, none⟩)) 2 A27 rfl kr kr (fun w => zP (t := 22) (e := 93) (b := b1) (off := off1) (len := l.length) (cap := cap) (kd := .i64) (i := (k : Int)) (g := false) (m := 1) (off' := off1 + k) rfl kr kr kr kr (by omega) (by omega) (by first | rfl | omega | (simp; done) | (simp; omega)) w) (fun _ => hH25) ?_
  intro a28 A28
  refine zY (d := 20) (v := .int .u32 ((l.getD k 0 : Nat) : Int)) 3 A28 rfl kr kr kr (fun w hw => zF (t := 93) (g := false) (vs := [.int .u32 ((l.getD k 0 : Nat) : Int)]) (ad := ⟨b1, off1 + k, none⟩) rfl kr kr ir (hw.get 0 kr)) hH25 ?_
  intro a29 A29
  refine zH (d := 21) (v := .slice (some ⟨b2, off2, none⟩) l2.length cap2) 4 A29 rfl kr kr kw (fun _ => hH25) ?_
  intro a30 A30
  refine zH (d := 22) (v := .int .i64 (k : Int)) 5 A30 rfl kr kr kw (fun _ => hH25) ?_
  intro a31 A31
  refine zH (d := 23) (v := .pointer (some ⟨b2, off2 + k, none⟩)) 6 A31 rfl kr kr (fun w => zP (t := 22) (e := 93) (b := b2) (off := off2) (len := l2.length) (cap := cap2) (kd := .i64) (i := (k : Int)) (g := false) (m := 1) (off' := off2 + k) rfl kr kr kr kr (by omega) (by omega) (by first | rfl | omega | (simp; done) | (simp; omega)) w) (fun _ => hH25) ?_
  intro a32 A32
  refine zY (d := 24) (v := .int .u32 ((l2.getD k 0 : Nat) : Int)) 7 A32 rfl kr kr kr (fun w hw => zF (t := 93) (g := false) (vs := [.int .u32 ((l2.getD k 0 : Nat) : Int)]) (ad := ⟨b2, off2 + k, none⟩) rfl kr kr ir (hw.get 1 kr)) hH25 ?_
  intro a33 A33
  refine zH (d := 25) (v := .bool (((l.getD k 0 : Nat) : Int) != ((l2.getD k 0 : Nat) : Int))) 8 A33 rfl kr kr kw (fun _ => hH25) ?_
  intro a34 A34
  refine qB kr (nrm ?_)
  refine zA (C24 _ _ ?_)
  refine zS (((l.getD k 0 : Nat) : Int) != ((l2.getD k 0 : Nat) : Int)) A34 kr kr (fun hc35 => ?_) (fun hc35 => ?_)
  ·
   have A36 := A34.set 25 (v' := .bool true) kr rfl (zG hc35)
   have ht37 : ((l.getD k 0 : Nat) : Int) ≠ ((l2.getD k 0 : Nat) : Int) := by simpa using hc35
   refine zD (fun K38 C38 => ?_)
   refine zC ?_
   refine zB 1 [(4, .bool false)] A36 kr kr (fun a39 A39 => ?_)
   refine zE ?_
   refine zA (C38 _ _ ?_)
   refine zQ ?_
   refine zU ?_
   refine zL ?_
   refine zL ?_
   refine zU ?_
   refine zL ?_
   refine zR (v := .bool false) (rs := [.tmp 4]) A39 kr (Res.tmp kr Res.nil) kr ?_
   exact ⟨j25.upd, _, rfl, vboolE ((decide_eq_false (ne_at hx1 hx2 (fun e => ht37 (by rw [e])))).symm)⟩
  have A40 := A34.set 25 (v' := .bool false) kr rfl (zG hc35)
  have ht41 : ((l.getD k 0 : Nat) : Int) = ((l2.getD k 0 : Nat) : Int) := by simpa using hc35
  refine i_skip ?_
  refine zW ?_
  refine zA (C23 _ _ ?_)
  refine zC ?_
  refine zB 2 [(16, .int .i64 (IntKind.i64.wrap ((k : Int) + 1))), (15, .int .i64 (k : Int))] A40 kr kr (fun a42 A42 => ?_)
  have A43 := A42.set 16 (v' := .int .i64 ((k : Int) + 1)) kr rfl (vint (wi64 (by omega) (by omega)))
  refine zB 1 [(5, .int .i64 ((k : Int) + 1))] A43 kr kr (fun a44 A44 => ?_)
  refine zE ?_
  refine zA ?_
  refine ⟨k + 1, ⟨_, A44.as [0, 1, 5] kr kr, j25, (Le2 q16 q25), take_eq hp16_0 hx1 (by rw [show l.getD k 0 = l2.getD k 0 by omega]; exact hx2), by omega⟩, ?_⟩
  first | omega | (simp; omega)
 have A45 := A19.set 14 (v' := .bool false) kr rfl (zG hc20)
 have ht46 : ¬ ((k : Int) < (l.length : Int)) := of_decide_eq_false hc20
 refine i_exit ?_
 refine zT ?_
 refine zT ?_
 refine qA ?_
 refine zA (C13 _ _ ?_)
 refine zD (fun K47 C47 => ?_)
 refine zC ?_
 refine zB 1 [(4, .bool true)] A45 kr kr (fun a48 A48 => ?_)
 refine zE ?_
 refine zA (C47 _ _ ?_)
 refine zQ ?_
 refine zR (v := .bool true) (rs := [.tmp 4]) A48 kr (Res.tmp kr Res.nil) kr ?_
 exact ⟨j16.upd, _, rfl, vboolE ((decide_eq_true (take_all hp16_0 hlen (by omega))).symm)⟩
theorem EqualNat_c (w : World) (X : Hid) (hX : ∀ k o, X k o → k < w.heap.size) (ad : Option Addr) (len cap : Nat) (l : List Nat) (h : Limbs (rd w X) ad len cap l) (ad2 : Option Addr) (len2 cap2 : Nat) (l2 : List Nat) (h2 : Limbs (rd w X) ad2 len2 cap2 l2) : Calls Try.prog 39 #[.slice ad len cap, .slice ad2 len2 cap2] w (Ret E0 w fun _ v => v = .bool (decide (l = l2))) := by
 obtain rfl := h.hlen
 obtain rfl := h2.hlen
 have hcap := h.hcap
 have hbig := h.hbig
 have hcap2 := h2.hcap
 have hbig2 := h2.hbig
 refine zZ (n := 8) (vs := [.slice ad l.length cap, .slice ad2 l2.length cap2]) Try.func39 rfl rfl rfl kr (fun a0 A0 => ?_)
 have A0 : Fr 8 a0 [(0, .slice ad l.length cap), (1, .slice ad2 l2.length cap2)] := A0
 have j0 : St E0 w X w X [] := St.start hX
 refine zD (fun K1 C1 => ?_)
 refine zC ?_
 refine zB 1 [(4, .bool false)] A0 kr kr (fun a2 A2 => ?_)
 refine zE ?_
 refine zA (C1 _ _ ?_)
 refine zD (fun K3 C3 => ?_)
 refine zC ?_
 refine zB 2 [(6, .slice ad2 l2.length cap2), (5, .slice ad l.length cap)] A2 kr kr (fun a4 A4 => ?_)
 refine wplI A4 kr (zK (d := 7) (f := 62) (cap := #[]) (vs := #[.slice ad l.length cap, .slice ad2 l2.length cap2]) A4 kr j0 rfl kr kr (fun w => Try.call62 _ w) (EqualLimbs_c _ _ j0.lt _ _ _ _ h _ _ _ _ h2) ?_)
 rintro v5 w5 j5 q5 hu5 rfl a6 A6
 refine zB 1 [(4, .bool (decide (l = l2)))] A6 kr kr (fun a7 A7 => ?_)
 refine zE ?_
 refine zA (C3 _ _ ?_)
 refine zQ ?_
 refine zR (v := .bool (decide (l = l2))) (rs := [.tmp 4]) A7 kr (Res.tmp kr Res.nil) kr ?_
 exact ⟨j5.upd, _, rfl, rfl⟩
theorem raw_ext {a b : Raw} : a = b ↔ a.neg = b.neg ∧ a.ln = b.ln ∧ a.ld = b.ld := by cases a; cases b; simp
theorem EqualRat_c (w : World) (X : Hid) (hX : ∀ k o, X k o → k < w.heap.size) (a : Raw) (ad₁ : Option Addr) (len₁ cap₁ : Nat) (h₁ : Limbs (rd w X) ad₁ len₁ cap₁ a.ln) (ae₁ : Option Addr) (le₁ ce₁ : Nat) (k₁ : Limbs (rd w X) ae₁ le₁ ce₁ a.ld) (b : Raw) (ad₂ : Option Addr) (len₂ cap₂ : Nat) (h₂ : Limbs (rd w X) ad₂ len₂ cap₂ b.ln) (ae₂ : Option Addr) (le₂ ce₂ : Nat) (k₂ : Limbs (rd w X) ae₂ le₂ ce₂ b.ld) : Calls Try.prog 19 #[.agg #[.bool a.neg, .slice ad₁ len₁ cap₁, .slice ae₁ le₁ ce₁], .agg #[.bool b.neg, .slice ad₂ len₂ cap₂, .slice ae₂ le₂ ce₂]] w (Ret E0 w fun _ v => v = .bool (decide (a = b))) := by
 refine zZ (n := 24) (vs := [.agg #[.bool a.neg, .slice ad₁ len₁ cap₁, .slice ae₁ le₁ ce₁], .agg #[.bool b.neg, .slice ad₂ len₂ cap₂, .slice ae₂ le₂ ce₂]]) Try.func19 rfl rfl rfl kr (fun a0 A0 => ?_)
 have A0 : Fr 24 a0 [(0, .agg #[.bool a.neg, .slice ad₁ len₁ cap₁, .slice ae₁ le₁ ce₁]), (1, .agg #[.bool b.neg, .slice ad₂ len₂ cap₂, .slice ae₂ le₂ ce₂])] := A0
 have j0 : St E0 w X w X [] := St.start hX
 refine zD (fun K1 C1 => ?_)
 refine zC ?_
 refine wplI A0 kr (zN (d := 2) (fun b => .pointer (some ⟨b, 0, none⟩)) (.cells #[.bool a.neg, .slice ad₁ len₁ cap₁, .slice ae₁ le₁ ce₁] 25 (0, 0)) A0 kr j0 kw ?_)
 intro b2 w2 Y2 j2 q2 hu2 a3 A3
 refine wplI A3 kr (zN (d := 3) (fun b => .pointer (some ⟨b, 0, none⟩)) (.cells #[.bool b.neg, .slice ad₂ len₂ cap₂, .slice ae₂ le₂ ce₂] 25 (0, 0)) A3 kr j2 kw ?_)
 intro b4 w4 Y4 j4 q4 hu4 a5 A5
 refine zB 1 [(4, .bool false)] A5 kr kr (fun a6 A6 => ?_)
 refine zE ?_
 refine zA (C1 _ _ ?_)
 refine zD (fun K7 C7 => ?_)
 refine zC ?_
 refine zB 1 [(5, .pointer (some ⟨b2, 0, none⟩))] A6 kr kr (fun a8 A8 => ?_)
 refine wplI A8 kr (zJ (d := 6) (v := .bool a.neg) A8 kr (zF (t := 4) (g := false) (vs := [.bool a.neg]) (ad := ⟨b2, 0, none⟩) rfl kr kr ir (j4.cells 1 rfl rfl)) ?_)
 intro a9 A9
 refine zB 1 [(7, .pointer (some ⟨b4, 0, none⟩))] A9 kr kr (fun a10 A10 => ?_)
 refine wplI A10 kr (zJ (d := 8) (v := .bool b.neg) A10 kr (zF (t := 4) (g := false) (vs := [.bool b.neg]) (ad := ⟨b4, 0, none⟩) rfl kr kr ir (j4.cells 0 rfl rfl)) ?_)
 intro a11 A11
 refine zB 2 [(10, .bool (a.neg == b.neg)), (9, .bool (a.neg == b.neg))] A11 kr kr (fun a12 A12 => ?_)
 rcases Bool.eq_false_or_eq_true (a.neg == b.neg) with hc13 | hc13
 ·
  have A14 := A12.set 10 (v' := .bool true) kr rfl (zG hc13)
  have ht15 : a.neg = b.neg := by simpa using hc13
  refine zB 1 [(11, .pointer (some ⟨b2, 1, none⟩))] A14 kr kr (fun a16 A16 => ?_)
  refine wplI A16 kr (zJ (d := 12) (v := .slice ad₁ len₁ cap₁) A16 kr (zF (t := 23) (g := false) (vs := [.slice ad₁ len₁ cap₁]) (ad := ⟨b2, 1, none⟩) rfl kr kr ir (j4.cells 1 rfl rfl)) ?_)
  intro a17 A17
  refine zB 1 [(13, .pointer (some ⟨b4, 1, none⟩))] A17 kr kr (fun a18 A18 => ?_)
  refine wplI A18 kr (zJ (d := 14) (v := .slice ad₂ len₂ cap₂) A18 kr (zF (t := 23) (g := false) (vs := [.slice ad₂ len₂ cap₂]) (ad := ⟨b4, 1, none⟩) rfl kr kr ir (j4.cells 0 rfl rfl)) ?_)
  intro a19 A19
  refine wplI A19 kr (zK (d := 15) (f := 39) (cap := #[]) (vs := #[.slice ad₁ len₁ cap₁, .slice ad₂ len₂ cap₂]) A19 kr j4 rfl kr kr (fun w => Try.call39 _ w) (EqualNat_c _ _ j4.lt _ _ _ _ (h₁.mono (Le2 q2 q4)) _ _ _ _ (h₂.mono (Le2 q2 q4))) ?_)
  rintro v20 w20 j20 q20 hu20 rfl a21 A21
  refine zB 2 [(17, .bool (decide (a.ln = b.ln))), (16, .bool (decide (a.ln = b.ln)))] A21 kr kr (fun a22 A22 => ?_)
  rcases Bool.eq_false_or_eq_true (decide (a.ln = b.ln)) with hc23 | hc23
  ·
   have A24 := A22.set 17 (v' := .bool true) kr rfl (zG hc23)
   have ht25 : a.ln = b.ln := of_decide_eq_true hc23
   refine zB 1 [(18, .pointer (some ⟨b2, 2, none⟩))] A24 kr kr (fun a26 A26 => ?_)
   refine wplI A26 kr (zJ (d := 19) (v := .slice ae₁ le₁ ce₁) A26 kr (zF (t := 23) (g := false) (vs := [.slice ae₁ le₁ ce₁]) (ad := ⟨b2, 2, none⟩) rfl kr kr ir (j20.cells 1 rfl rfl)) ?_)
   intro a27 A27
   refine zB 1 [(20, .pointer (some ⟨b4, 2, none⟩))] A27 kr kr (fun a28 A28 => ?_)
   refine wplI A28 kr (zJ (d := 21) (v := .slice ae₂ le₂ ce₂) A28 kr (zF (t := 23) (g := false) (vs := [.slice ae₂ le₂ ce₂]) (ad := ⟨b4, 2, none⟩) rfl kr kr ir (j20.cells 0 rfl rfl)) ?_)
   intro a29 A29
   refine wplI A29 kr (zK (d := 22) (f := 39) (cap := #[]) (vs := #[.slice ae₁ le₁ ce₁, .slice ae₂ le₂ ce₂]) A29 kr j20 rfl kr kr (fun w => Try.call39 _ w) (EqualNat_c _ _ j20.lt _ _ _ _ (k₁.mono (Le3 q2 q4 q20)) _ _ _ _ (k₂.mono (Le3 q2 q4 q20))) ?_)
   rintro v30 w30 j30 q30 hu30 rfl a31 A31
   refine zB 2 [(4, .bool (decide (a.ld = b.ld))), (23, .bool (decide (a.ld = b.ld)))] A31 kr kr (fun a32 A32 => ?_)
   refine zE ?_
   refine zA (C7 _ _ ?_)
   refine zQ ?_
   refine zR (v := .bool (decide (a.ld = b.ld))) (rs := [.tmp 4]) A32 kr (Res.tmp kr Res.nil) kr ?_
   refine ⟨j30.upd, _, rfl, vboolE ?_⟩
   refine Bool.eq_iff_iff.2 ?_; rw [show (decide (a = b) = true) ↔ _ from decide_eq_true_iff.trans raw_ext]; simp_all
  have A33 := A22.set 17 (v' := .bool false) kr rfl (zG hc23)
  have ht34 : ¬ (a.ln = b.ln) := of_decide_eq_false hc23
  refine zB 7 [(4, .bool false), (23, .bool false), (22, undef), (21, undef), (20, undef), (19, undef), (18, undef)] A33 kr kr (fun a35 A35 => ?_)
  refine zE ?_
  refine zA (C7 _ _ ?_)
  refine zQ ?_
  refine zR (v := .bool false) (rs := [.tmp 4]) A35 kr (Res.tmp kr Res.nil) kr ?_
  refine ⟨j20.upd, _, rfl, vboolE ?_⟩
  refine Bool.eq_iff_iff.2 ?_; rw [show (decide (a = b) = true) ↔ _ from decide_eq_true_iff.trans raw_ext]; simp_all
 have A36 := A12.set 10 (v' := .bool false) kr rfl (zG hc13)
 have ht37 : a.neg ≠ b.neg := by simpa using hc13
 refine zB 14 [(4, .bool false), (23, .bool false), (22, undef), (21, undef), (20, undef), (19, undef), (18, undef), (17, .bool false), (16, .bool false), (15, undef), (14, undef), (13, undef), (12, undef), (11, undef)] A36 kr kr (fun a38 A38 => ?_)
 refine zE ?_
 refine zA (C7 _ _ ?_)
 refine zQ ?_
 refine zR (v := .bool false) (rs := [.tmp 4]) A38 kr (Res.tmp kr Res.nil) kr ?_
 refine ⟨j4.upd, _, rfl, vboolE ?_⟩
 refine Bool.eq_iff_iff.2 ?_; rw [show (decide (a = b) = true) ↔ _ from decide_eq_true_iff.trans raw_ext]; simp_all
theorem EqualRats_c (w : World) (X : Hid) (hX : ∀ k o, X k o → k < w.heap.size) (ad : Option Addr) (len cap : Nat) (xs : List Raw) (h : Rats (rd w X) ad len cap xs) (ad2 : Option Addr) (len2 cap2 : Nat) (ys : List Raw) (h2 : Rats (rd w X) ad2 len2 cap2 ys) : Calls Try.prog 12 #[.slice ad len cap, .slice ad2 len2 cap2] w (Ret E0 w fun _ v => v = .bool (decide (xs = ys))) := by
 obtain rfl := h.hlen
 have hcap := h.hcap
 have hbig := h.hbig
 obtain rfl := h2.hlen
 have hcap2 := h2.hcap
 have hbig2 := h2.hbig
 refine zZ (n := 27) (vs := [.slice ad xs.length cap, .slice ad2 ys.length cap2]) Try.func12 rfl rfl rfl kr (fun a0 A0 => ?_)
 have A0 : Fr 27 a0 [(0, .slice ad xs.length cap), (1, .slice ad2 ys.length cap2)] := A0
 have j0 : St E0 w X w X [] := St.start hX
 refine zD (fun K1 C1 => ?_)
 refine zC ?_
 refine zB 1 [(4, .bool false)] A0 kr kr (fun a2 A2 => ?_)
 refine zE ?_
 refine zA (C1 _ _ ?_)
 refine zD (fun K3 C3 => ?_)
 refine zD (fun K4 C4 => ?_)
 refine zC ?_
 refine zB 5 [(10, .bool ((xs.length : Int) != (ys.length : Int))), (9, .int .i64 (ys.length : Int)), (8, .slice ad2 ys.length cap2), (7, .int .i64 (xs.length : Int)), (6, .slice ad xs.length cap)] A2 kr kr (fun a5 A5 => ?_)
 refine zE ?_
 refine zA (C4 _ _ ?_)
 refine zS ((xs.length : Int) != (ys.length : Int)) A5 kr kr (fun hc6 => ?_) (fun hc6 => ?_)
 ·
  have A7 := A5.set 10 (v' := .bool true) kr rfl (zG hc6)
  have ht8 : (xs.length : Int) ≠ (ys.length : Int) := by simpa using hc6
  refine zD (fun K9 C9 => ?_)
  refine zC ?_
  refine zB 1 [(4, .bool false)] A7 kr kr (fun a10 A10 => ?_)
  refine zE ?_
  refine zA (C9 _ _ ?_)
  refine zQ ?_
  refine zL ?_
  refine zR (v := .bool false) (rs := [.tmp 4]) A10 kr (Res.tmp kr Res.nil) kr ?_
  exact ⟨j0.upd, _, rfl, vboolE ((decide_eq_false (fun e => by rw [e] at ht8; exact ht8 rfl)).symm)⟩
 have A11 := A5.set 10 (v' := .bool false) kr rfl (zG hc6)
 have ht12 : (xs.length : Int) = (ys.length : Int) := by simpa using hc6
 have hlen : xs.length = ys.length := by omega
 refine i_skip ?_
 refine zA (C3 _ _ ?_)
 refine zD (fun K13 C13 => ?_)
 refine zD (fun K14 C14 => ?_)
 refine zC ?_
 refine zB 1 [(5, .int .i64 0)] A11 kr kr (fun a15 A15 => ?_)
 refine zE ?_
 refine zA (C14 _ _ ?_)
 refine zV ?_
 refine qC (fun (k : Nat) ac w1 => ∃ (Y1 : Hid), Fr 27 ac [(0, .slice ad xs.length cap), (1, .slice ad2 ys.length cap2), (5, .int .i64 (k : Int))] ∧ St E0 w X w1 Y1 [] ∧ Le (rd w X) (rd w1 Y1) ∧ (xs.take k = ys.take k) ∧ (k ≤ xs.length)) (fun (k : Nat) => xs.length - k) 0 ?_ ?_
 ·
  refine ⟨_, A15.as [0, 1, 5] kr kr, j0, Le.refl _, rfl, Nat.zero_le _⟩
 rintro k a16 w16 ⟨Y16, A16, j16, q16, hp16_0, hp16_1⟩
 refine zD (fun K17 C17 => ?_)
 refine zD (fun K18 C18 => ?_)
 refine zC ?_
 refine zB 4 [(14, .bool (decide ((k : Int) < (xs.length : Int)))), (13, .int .i64 (xs.length : Int)), (12, .slice ad xs.length cap), (11, .int .i64 (k : Int))] A16 kr kr (fun a19 A19 => ?_)
 refine zE ?_
 refine zA (C18 _ _ ?_)
 refine zS (decide ((k : Int) < (xs.length : Int))) A19 kr kr (fun hc20 => ?_) (fun hc20 => ?_)
 ·
  have A21 := A19.set 14 (v' := .bool true) kr rfl (zG hc20)
  have ht22 : (k : Int) < (xs.length : Int) := of_decide_eq_true hc20
  obtain ⟨bx, offx, xx, anx, lnx, cnx, amx, lmx, cmx, rfl, hxx, hAx, hLx, hMx⟩ := h.cell (k := k) (by omega)
  obtain ⟨bz, offz, xz, anz, lnz, cnz, amz, lmz, cmz, rfl, hxz, hAz, hLz, hMz⟩ := h2.cell (k := k) (by omega)
  have hx1 := hxx
  have hx2 := hxz
  refine i_skip ?_
  refine zA (C17 _ _ ?_)
  refine zD (fun K23 C23 => ?_)
  refine zV ?_
  refine zD (fun K24 C24 => ?_)
  refine qD (N := 10) (Held [(⟨bx, offx + k * 3, none⟩, [.bool xx.neg, .slice anx lnx cnx, .slice amx lmx cmx]), (⟨bz, offz + k * 3, none⟩, [.bool xz.neg, .slice anz lnz cnz, .slice amz lmz cmz])]) [] kr kr kr j16 ?_
  intro w25 j25 q25 hu25
  refine zX (Held.cons ((hAx.mono (Le2 q16 q25))).cells (Held.cons ((hAz.mono (Le2 q16 q25))).cells (Held.nil _))) (fun hH25 => ?_)
  refine zH (d := 17) (v := .slice (some ⟨bx, offx, none⟩) xs.length cap) 0 A21 rfl kr kr kw (fun _ => hH25) ?_
  intro a26 A26
  refine zH (d := 18) (v := .int .i64 (k : Int)) 1 A26 rfl kr kr kw (fun _ => hH25) ?_
  intro a27 A27
  refine zH (d := 19) (v := .pointer (some ⟨bx, offx + k * 3, none⟩)) 2 A27 rfl kr kr (fun w => zP (t := 29) (e := 25) (b := bx) (off := offx) (len := xs.length) (cap := cap) (kd := .i64) (i := (k : Int)) (g := true) (m := 3) (off' := offx + k * 3) rfl kr kr kr kr (by omega) (by omega) (by first | rfl | omega | (simp; done) | (simp; omega)) w) (fun _ => hH25) ?_
  intro a28 A28
  refine zY (d := 20) (v := .agg #[.bool xx.neg, .slice anx lnx cnx, .slice amx lmx cmx]) 3 A28 rfl kr kr kr (fun w hw => zF (t := 25) (g := true) (vs := [.bool xx.neg, .slice anx lnx cnx, .slice amx lmx cmx]) (ad := ⟨bx, offx + k * 3, none⟩) rfl kr kr ir (hw.get 0 kr)) hH25 ?_
  intro a29 A29
  refine zH (d := 21) (v := .slice (some ⟨bz, offz, none⟩) ys.length cap2) 4 A29 rfl kr kr kw (fun _ => hH25) ?_
  intro a30 A30
  refine zH (d := 22) (v := .int .i64 (k : Int)) 5 A30 rfl kr kr kw (fun _ => hH25) ?_
  intro a31 A31
  refine zH (d := 23) (v := .pointer (some ⟨bz, offz + k * 3, none⟩)) 6 A31 rfl kr kr (fun w => zP (t := 29) (e := 25) (b := bz) (off := offz) (len := ys.length) (cap := cap2) (kd := .i64) (i := (k : Int)) (g := true) (m := 3) (off' := offz + k * 3) rfl kr kr kr kr (by omega) (by omega) (by first | rfl | omega | (simp; done) | (simp; omega)) w) (fun _ => hH25) ?_
  intro a32 A32
  refine zY (d := 24) (v := .agg #[.bool xz.neg, .slice anz lnz cnz, .slice amz lmz cmz]) 7 A32 rfl kr kr kr (fun w hw => zF (t := 25) (g := true) (vs := [.bool xz.neg, .slice anz lnz cnz, .slice amz lmz cmz]) (ad := ⟨bz, offz + k * 3, none⟩) rfl kr kr ir (hw.get 1 kr)) hH25 ?_
  intro a33 A33
  refine zM [8] kr rfl ?_
  refine ForkT.cons (i := 8) A33 rfl kr (zK (d := 25) (f := 19) (cap := #[]) (vs := #[.agg #[.bool xx.neg, .slice anx lnx cnx, .slice amx lmx cmx], .agg #[.bool xz.neg, .slice anz lnz cnz, .slice amz lmz cmz]]) A33 kr j25 rfl kr kr (fun w => Try.call19 _ w) (EqualRat_c _ _ j25.lt xx _ _ _ (hLx.mono (Le2 q16 q25)) _ _ _ (hMx.mono (Le2 q16 q25)) xz _ _ _ (hLz.mono (Le2 q16 q25)) _ _ _ (hMz.mono (Le2 q16 q25))) ?_) ForkT.nil
  rintro v34 w34 j34 q34 hu34 rfl a35 A35
  refine zI (hH25.up hu34) (fun hH34 => ?_)
  refine zH (d := 26) (v := .bool (!(decide (xx = xz)))) 9 A35 rfl kr kr kw (fun _ => hH34) ?_
  intro a36 A36
  refine qB kr (nrm ?_)
  refine zA (C24 _ _ ?_)
  refine zS (!(decide (xx = xz))) A36 kr kr (fun hc37 => ?_) (fun hc37 => ?_)
  ·
   have A38 := A36.set 26 (v' := .bool true) kr rfl (zG hc37)
   have ht39 : ¬ (xx = xz) := by simpa using hc37
   refine zD (fun K40 C40 => ?_)
   refine zC ?_
   refine zB 1 [(4, .bool false)] A38 kr kr (fun a41 A41 => ?_)
   refine zE ?_
   refine zA (C40 _ _ ?_)
   refine zQ ?_
   refine zU ?_
   refine zL ?_
   refine zL ?_
   refine zU ?_
   refine zL ?_
   refine zR (v := .bool false) (rs := [.tmp 4]) A41 kr (Res.tmp kr Res.nil) kr ?_
   exact ⟨j34.upd, _, rfl, vboolE ((decide_eq_false (ne_at hx1 hx2 ht39)).symm)⟩
  have A42 := A36.set 26 (v' := .bool false) kr rfl (zG hc37)
  have ht43 : xx = xz := by simpa using hc37
  refine i_skip ?_
  refine zW ?_
  refine zA (C23 _ _ ?_)
  refine zC ?_
  refine zB 2 [(16, .int .i64 (IntKind.i64.wrap ((k : Int) + 1))), (15, .int .i64 (k : Int))] A42 kr kr (fun a44 A44 => ?_)
  have A45 := A44.set 16 (v' := .int .i64 ((k : Int) + 1)) kr rfl (vint (wi64 (by omega) (by omega)))
  refine zB 1 [(5, .int .i64 ((k : Int) + 1))] A45 kr kr (fun a46 A46 => ?_)
  refine zE ?_
  refine zA ?_
  refine ⟨k + 1, ⟨_, A46.as [0, 1, 5] kr kr, j34, (Le3 q16 q25 q34), take_eq hp16_0 hx1 (by rw [show xx = xz from ht43]; exact hx2), by omega⟩, ?_⟩
  first | omega | (simp; omega)
 have A47 := A19.set 14 (v' := .bool false) kr rfl (zG hc20)
 have ht48 : ¬ ((k : Int) < (xs.length : Int)) := of_decide_eq_false hc20
 refine i_exit ?_
 refine zT ?_
 refine zT ?_
 refine qA ?_
 refine zA (C13 _ _ ?_)
 refine zD (fun K49 C49 => ?_)
 refine zC ?_
 refine zB 1 [(4, .bool true)] A47 kr kr (fun a50 A50 => ?_)
 refine zE ?_
 refine zA (C49 _ _ ?_)
 refine zQ ?_
 refine zR (v := .bool true) (rs := [.tmp 4]) A50 kr (Res.tmp kr Res.nil) kr ?_
 exact ⟨j16.upd, _, rfl, vboolE ((decide_eq_true (take_all hp16_0 hlen (by omega))).symm)⟩
theorem EqualInts_c (w : World) (X : Hid) (hX : ∀ k o, X k o → k < w.heap.size) (ad : Option Addr) (len cap : Nat) (xs : List Int) (h : Ints (rd w X) ad len cap xs) (ad2 : Option Addr) (len2 cap2 : Nat) (ys : List Int) (h2 : Ints (rd w X) ad2 len2 cap2 ys) : Calls Try.prog 18 #[.slice ad len cap, .slice ad2 len2 cap2] w (Ret E0 w fun _ v => v = .bool (decide (xs = ys))) := by
 obtain rfl := h.hlen
 have hcap := h.hcap
 have hbig := h.hbig
 obtain rfl := h2.hlen
 have hcap2 := h2.hcap
 have hbig2 := h2.hbig
 refine zZ (n := 26) (vs := [.slice ad xs.length cap, .slice ad2 ys.length cap2]) Try.func18 rfl rfl rfl kr (fun a0 A0 => ?_)
 have A0 : Fr 26 a0 [(0, .slice ad xs.length cap), (1, .slice ad2 ys.length cap2)] := A0
 have j0 : St E0 w X w X [] := St.start hX
 refine zD (fun K1 C1 => ?_)
 refine zC ?_
 refine zB 1 [(4, .bool false)] A0 kr kr (fun a2 A2 => ?_)
 refine zE ?_
 refine zA (C1 _ _ ?_)
 refine zD (fun K3 C3 => ?_)
 refine zD (fun K4 C4 => ?_)
 refine zC ?_
 refine zB 5 [(10, .bool ((xs.length : Int) != (ys.length : Int))), (9, .int .i64 (ys.length : Int)), (8, .slice ad2 ys.length cap2), (7, .int .i64 (xs.length : Int)), (6, .slice ad xs.length cap)] A2 kr kr (fun a5 A5 => ?_)
 refine zE ?_
 refine zA (C4 _ _ ?_)
 refine zS ((xs.length : Int) != (ys.length : Int)) A5 kr kr (fun hc6 => ?_) (fun hc6 => ?_)
 ·
  have A7 := A5.set 10 (v' := .bool true) kr rfl (zG hc6)
  have ht8 : (xs.length : Int) ≠ (ys.length : Int) := by simpa using hc6
  refine zD (fun K9 C9 => ?_)
  refine zC ?_
  refine zB 1 [(4, .bool false)] A7 kr kr (fun a10 A10 => ?_)
  refine zE ?_
  refine zA (C9 _ _ ?_)
  refine zQ ?_
  refine zL ?_
  refine zR (v := .bool false) (rs := [.tmp 4]) A10 kr (Res.tmp kr Res.nil) kr ?_
  exact ⟨j0.upd, _, rfl, vboolE ((decide_eq_false (fun e => by rw [e] at ht8; exact ht8 rfl)).symm)⟩
 have A11 := A5.set 10 (v' := .bool false) kr rfl (zG hc6)
 have ht12 : (xs.length : Int) = (ys.length : Int) := by simpa using hc6
 have hlen : xs.length = ys.length := by omega
 refine i_skip ?_
 refine zA (C3 _ _ ?_)
 refine zD (fun K13 C13 => ?_)
 refine zD (fun K14 C14 => ?_)
 refine zC ?_
 refine zB 1 [(5, .int .i64 0)] A11 kr kr (fun a15 A15 => ?_)
 refine zE ?_
 refine zA (C14 _ _ ?_)
 refine zV ?_
 refine qC (fun (k : Nat) ac w1 => ∃ (Y1 : Hid), Fr 26 ac [(0, .slice ad xs.length cap), (1, .slice ad2 ys.length cap2), (5, .int .i64 (k : Int))] ∧ St E0 w X w1 Y1 [] ∧ Le (rd w X) (rd w1 Y1) ∧ (xs.take k = ys.take k) ∧ (k ≤ xs.length)) (fun (k : Nat) => xs.length - k) 0 ?_ ?_
 ·
  refine ⟨_, A15.as [0, 1, 5] kr kr, j0, Le.refl _, rfl, Nat.zero_le _⟩
 rintro k a16 w16 ⟨Y16, A16, j16, q16, hp16_0, hp16_1⟩
 refine zD (fun K17 C17 => ?_)
 refine zD (fun K18 C18 => ?_)
 refine zC ?_
 refine zB 4 [(14, .bool (decide ((k : Int) < (xs.length : Int)))), (13, .int .i64 (xs.length : Int)), (12, .slice ad xs.length cap), (11, .int .i64 (k : Int))] A16 kr kr (fun a19 A19 => ?_)
 refine zE ?_
 refine zA (C18 _ _ ?_)
 refine zS (decide ((k : Int) < (xs.length : Int))) A19 kr kr (fun hc20 => ?_) (fun hc20 => ?_)
 ·
  have A21 := A19.set 14 (v' := .bool true) kr rfl (zG hc20)
  have ht22 : (k : Int) < (xs.length : Int) := of_decide_eq_true hc20
  obtain ⟨b1, off1, rfl⟩ := h.addr (by omega)
  obtain ⟨x1, hx1, hA1⟩ := h.at (k := k) (by omega)
  have hB1 : At (rd w X) ⟨b1, off1 + k, none⟩ [.int .i64 x1] := by have h9 := hA1; unfold IntAt at h9; simpa using h9
  obtain ⟨b2, off2, rfl⟩ := h2.addr (by omega)
  obtain ⟨x2, hx2, hA2⟩ := h2.at (k := k) (by omega)
  have hB2 : At (rd w X) ⟨b2, off2 + k, none⟩ [.int .i64 x2] := by have h9 := hA2; unfold IntAt at h9; simpa using h9
  refine i_skip ?_
  refine zA (C17 _ _ ?_)
  refine zD (fun K23 C23 => ?_)
  refine zV ?_
  refine zD (fun K24 C24 => ?_)
  refine qD (N := 9) (Held [(⟨b1, off1 + k, none⟩, [.int .i64 x1]), (⟨b2, off2 + k, none⟩, [.int .i64 x2])]) [] kr kr kr j16 ?_
  intro w25 j25 q25 hu25
  refine zX (Held.cons ((hB1.mono (Le2 q16 q25))).cells (Held.cons ((hB2.mono (Le2 q16 q25))).cells (Held.nil _))) (fun hH25 => ?_)
  refine zH (d := 17) (v := .slice (some ⟨b1, off1, none⟩) xs.length cap) 0 A21 rfl kr kr kw (fun _ => hH25) ?_
  intro a26 A26
  refine zH (d := 18) (v := .int .i64 (k : Int)) 1 A26 rfl kr kr kw (fun _ => hH25) ?_
  intro a27 A27
  refine zH (d := 19) (v := .pointer (some ⟨b1, off1 + k, none⟩)) 2 A27 rfl kr kr (fun w => zP (t := 30) (e := 3) (b := b1) (off := off1) (len := xs.length) (cap := cap) (kd := .i64) (i := (k : Int)) (g := false) (m := 1) (off' := off1 + k) rfl kr kr kr kr (by omega) (by omega) (by first | rfl | omega | (simp; done) | (simp; omega)) w) (fun _ => hH25) ?_
  intro a28 A28
  refine zY (d := 20) (v := .int .i64 x1) 3 A28 rfl kr kr kr (fun w hw => zF (t := 3) (g := false) (vs := [.int .i64 x1]) (ad := ⟨b1, off1 + k, none⟩) rfl kr kr ir (hw.get 0 kr)) hH25 ?_
  intro a29 A29
  refine zH (d := 21) (v := .slice (some ⟨b2, off2, none⟩) ys.length cap2) 4 A29 rfl kr kr kw (fun _ => hH25) ?_
  intro a30 A30
  refine zH (d := 22) (v := .int .i64 (k : Int)) 5 A30 rfl kr kr kw (fun _ => hH25) ?_
  intro a31 A31
  refine zH (d := 23) (v := .pointer (some ⟨b2, off2 + k, none⟩)) 6 A31 rfl kr kr (fun w => zP (t := 30) (e := 3) (b := b2) (off := off2) (len := ys.length) (cap := cap2) (kd := .i64) (i := (k : Int)) (g := false) (m := 1) (off' := off2 + k) rfl kr kr kr kr (by omega) (by omega) (by first | rfl | omega | (simp; done) | (simp; omega)) w) (fun _ => hH25) ?_
  intro a32 A32
  refine zY (d := 24) (v := .int .i64 x2) 7 A32 rfl kr kr kr (fun w hw => zF (t := 3) (g := false) (vs := [.int .i64 x2]) (ad := ⟨b2, off2 + k, none⟩) rfl kr kr ir (hw.get 1 kr)) hH25 ?_
  intro a33 A33
  refine zH (d := 25) (v := .bool ((x1) != x2)) 8 A33 rfl kr kr kw (fun _ => hH25) ?_
  intro a34 A34
  refine qB kr (nrm ?_)
  refine zA (C24 _ _ ?_)
  refine zS ((x1) != x2) A34 kr kr (fun hc35 => ?_) (fun hc35 => ?_)
  ·
   have A36 := A34.set 25 (v' := .bool true) kr rfl (zG hc35)
   have ht37 : (x1) ≠ x2 := by simpa using hc35
   refine zD (fun K38 C38 => ?_)
   refine zC ?_
   refine zB 1 [(4, .bool false)] A36 kr kr (fun a39 A39 => ?_)
   refine zE ?_
   refine zA (C38 _ _ ?_)
   refine zQ ?_
   refine zU ?_
   refine zL ?_
   refine zL ?_
   refine zU ?_
   refine zL ?_
   refine zR (v := .bool false) (rs := [.tmp 4]) A39 kr (Res.tmp kr Res.nil) kr ?_
   exact ⟨j25.upd, _, rfl, vboolE ((decide_eq_false (ne_at hx1 hx2 ht37)).symm)⟩
  have A40 := A34.set 25 (v' := .bool false) kr rfl (zG hc35)
  have ht41 : (x1) = x2 := by simpa using hc35
  refine i_skip ?_
  refine zW ?_
  refine zA (C23 _ _ ?_)
  refine zC ?_
  refine zB 2 [(16, .int .i64 (IntKind.i64.wrap ((k : Int) + 1))), (15, .int .i64 (k : Int))] A40 kr kr (fun a42 A42 => ?_)
  have A43 := A42.set 16 (v' := .int .i64 ((k : Int) + 1)) kr rfl (vint (wi64 (by omega) (by omega)))
  refine zB 1 [(5, .int .i64 ((k : Int) + 1))] A43 kr kr (fun a44 A44 => ?_)
  refine zE ?_
  refine zA ?_
  refine ⟨k + 1, ⟨_, A44.as [0, 1, 5] kr kr, j25, (Le2 q16 q25), take_eq hp16_0 hx1 (by rw [show x1 = x2 from ht41]; exact hx2), by omega⟩, ?_⟩
  first | omega | (simp; omega)
 have A45 := A19.set 14 (v' := .bool false) kr rfl (zG hc20)
 have ht46 : ¬ ((k : Int) < (xs.length : Int)) := of_decide_eq_false hc20
 refine i_exit ?_
 refine zT ?_
 refine zT ?_
 refine qA ?_
 refine zA (C13 _ _ ?_)
 refine zD (fun K47 C47 => ?_)
 refine zC ?_
 refine zB 1 [(4, .bool true)] A45 kr kr (fun a48 A48 => ?_)
 refine zE ?_
 refine zA (C47 _ _ ?_)
 refine zQ ?_
 refine zR (v := .bool true) (rs := [.tmp 4]) A48 kr (Res.tmp kr Res.nil) kr ?_
 exact ⟨j16.upd, _, rfl, vboolE ((decide_eq_true (take_all hp16_0 hlen (by omega))).symm)⟩
theorem not_take {l : List Int} {k : Nat} {x y : Int} (h : y ∉ l.take k) (hx : l[k]? = some x) (h2 : x ≠ y) : y ∉ l.take (k + 1) := by
  rw [take_snoc hx]; simp [h]; exact fun e => h2 e.symm
theorem HasInt_c (w : World) (X : Hid) (hX : ∀ k o, X k o → k < w.heap.size) (ad : Option Addr) (len cap : Nat) (xs : List Int) (h : Ints (rd w X) ad len cap xs) (y : Int) : Calls Try.prog 21 #[.slice ad len cap, .int .i64 y] w (Ret E0 w fun _ v => v = .bool (decide (y ∈ xs))) := by
 obtain rfl := h.hlen
 have hcap := h.hcap
 have hbig := h.hbig
 refine zZ (n := 18) (vs := [.slice ad xs.length cap, .int .i64 y]) Try.func21 rfl rfl rfl kr (fun a0 A0 => ?_)
 have A0 : Fr 18 a0 [(0, .slice ad xs.length cap), (1, .int .i64 y)] := A0
 have j0 : St E0 w X w X [] := St.start hX
 refine zD (fun K1 C1 => ?_)
 refine zC ?_
 refine zB 1 [(4, .bool false)] A0 kr kr (fun a2 A2 => ?_)
 refine zE ?_
 refine zA (C1 _ _ ?_)
 refine zD (fun K3 C3 => ?_)
 refine zD (fun K4 C4 => ?_)
 refine zC ?_
 refine zB 1 [(5, .int .i64 0)] A2 kr kr (fun a5 A5 => ?_)
 refine zE ?_
 refine zA (C4 _ _ ?_)
 refine zV ?_
 refine qC (fun (k : Nat) ac w1 => ∃ (Y1 : Hid), Fr 18 ac [(0, .slice ad xs.length cap), (1, .int .i64 y), (5, .int .i64 (k : Int))] ∧ St E0 w X w1 Y1 [] ∧ Le (rd w X) (rd w1 Y1) ∧ (y ∉ xs.take k) ∧ (k ≤ xs.length)) (fun (k : Nat) => xs.length - k) 0 ?_ ?_
 ·
  refine ⟨_, A5.as [0, 1, 5] kr kr, j0, Le.refl _, by simp, Nat.zero_le _⟩
 rintro k a6 w6 ⟨Y6, A6, j6, q6, hp6_0, hp6_1⟩
 refine zD (fun K7 C7 => ?_)
 refine zD (fun K8 C8 => ?_)
 refine zC ?_
 refine zB 4 [(9, .bool (decide ((k : Int) < (xs.length : Int)))), (8, .int .i64 (xs.length : Int)), (7, .slice ad xs.length cap), (6, .int .i64 (k : Int))] A6 kr kr (fun a9 A9 => ?_)
 refine zE ?_
 refine zA (C8 _ _ ?_)
 refine zS (decide ((k : Int) < (xs.length : Int))) A9 kr kr (fun hc10 => ?_) (fun hc10 => ?_)
 ·
  have A11 := A9.set 9 (v' := .bool true) kr rfl (zG hc10)
  have ht12 : (k : Int) < (xs.length : Int) := of_decide_eq_true hc10
  obtain ⟨b1, off1, rfl⟩ := h.addr (by omega)
  obtain ⟨x1, hx1, hA1⟩ := h.at (k := k) (by omega)
  have hB1 : At (rd w X) ⟨b1, off1 + k, none⟩ [.int .i64 x1] := by have h9 := hA1; unfold IntAt at h9; simpa using h9
  refine i_skip ?_
  refine zA (C7 _ _ ?_)
  refine zD (fun K13 C13 => ?_)
  refine zV ?_
  refine zD (fun K14 C14 => ?_)
  refine zC ?_
  refine zB 2 [(13, .int .i64 (k : Int)), (12, .slice (some ⟨b1, off1, none⟩) xs.length cap)] A11 kr kr (fun a15 A15 => ?_)
  refine wplI A15 kr (zJ (d := 14) (v := .pointer (some ⟨b1, off1 + k, none⟩)) A15 kr (zP (t := 30) (e := 3) (b := b1) (off := off1) (len := xs.length) (cap := cap) (kd := .i64) (i := (k : Int)) (g := false) (m := 1) (off' := off1 + k) rfl kr kr kr kr (by omega) (by omega) (by first | rfl | omega | (simp; done) | (simp; omega)) _) ?_)
  intro a16 A16
  refine wplI A16 kr (zJ (d := 15) (v := .int .i64 x1) A16 kr (zF (t := 3) (g := false) (vs := [.int .i64 x1]) (ad := ⟨b1, off1 + k, none⟩) rfl kr kr ir ((hB1.mono q6)).cells) ?_)
  intro a17 A17
  refine zB 2 [(17, .bool ((x1) == y)), (16, .int .i64 y)] A17 kr kr (fun a18 A18 => ?_)
  refine zE ?_
  refine zA (C14 _ _ ?_)
  refine zS ((x1) == y) A18 kr kr (fun hc19 => ?_) (fun hc19 => ?_)
  ·
   have A20 := A18.set 17 (v' := .bool true) kr rfl (zG hc19)
   have ht21 : (x1) = y := by simpa using hc19
   refine zD (fun K22 C22 => ?_)
   refine zC ?_
   refine zB 1 [(4, .bool true)] A20 kr kr (fun a23 A23 => ?_)
   refine zE ?_
   refine zA (C22 _ _ ?_)
   refine zQ ?_
   refine zU ?_
   refine zL ?_
   refine zL ?_
   refine zU ?_
   refine zL ?_
   refine zR (v := .bool true) (rs := [.tmp 4]) A23 kr (Res.tmp kr Res.nil) kr ?_
   exact ⟨j6.upd, _, rfl, vboolE ((decide_eq_true (by rw [← show x1 = y from ht21]; exact List.mem_of_getElem? hx1)).symm)⟩
  have A24 := A18.set 17 (v' := .bool false) kr rfl (zG hc19)
  have ht25 : (x1) ≠ y := by simpa using hc19
  refine i_skip ?_
  refine zW ?_
  refine zA (C13 _ _ ?_)
  refine zC ?_
  refine zB 2 [(11, .int .i64 (IntKind.i64.wrap ((k : Int) + 1))), (10, .int .i64 (k : Int))] A24 kr kr (fun a26 A26 => ?_)
  have A27 := A26.set 11 (v' := .int .i64 ((k : Int) + 1)) kr rfl (vint (wi64 (by omega) (by omega)))
  refine zB 1 [(5, .int .i64 ((k : Int) + 1))] A27 kr kr (fun a28 A28 => ?_)
  refine zE ?_
  refine zA ?_
  refine ⟨k + 1, ⟨_, A28.as [0, 1, 5] kr kr, j6, q6, not_take hp6_0 hx1 ht25, by omega⟩, ?_⟩
  first | omega | (simp; omega)
 have A29 := A9.set 9 (v' := .bool false) kr rfl (zG hc10)
 have ht30 : ¬ ((k : Int) < (xs.length : Int)) := of_decide_eq_false hc10
 refine i_exit ?_
 refine zT ?_
 refine zT ?_
 refine qA ?_
 refine zA (C3 _ _ ?_)
 refine zD (fun K31 C31 => ?_)
 refine zC ?_
 refine zB 1 [(4, .bool false)] A29 kr kr (fun a32 A32 => ?_)
 refine zE ?_
 refine zA (C31 _ _ ?_)
 refine zQ ?_
 refine zR (v := .bool false) (rs := [.tmp 4]) A32 kr (Res.tmp kr Res.nil) kr ?_
 exact ⟨j6.upd, _, rfl, vboolE ((decide_eq_false (by have h9 := hp6_0; rwa [List.take_of_length_le (by omega)] at h9)).symm)⟩
def atMostV (a b : Raw) : Bool := decide (cmpE a b = 0) && decide (cmpR a b ≤ 0)
theorem atMost_c (w : World) (X : Hid) (hX : ∀ k o, X k o → k < w.heap.size) (a : Raw) (ad₁ : Option Addr) (len₁ cap₁ : Nat) (h₁ : Limbs (rd w X) ad₁ len₁ cap₁ a.ln) (ae₁ : Option Addr) (le₁ ce₁ : Nat) (k₁ : Limbs (rd w X) ae₁ le₁ ce₁ a.ld) (b : Raw) (ad₂ : Option Addr) (len₂ cap₂ : Nat) (h₂ : Limbs (rd w X) ad₂ len₂ cap₂ b.ln) (ae₂ : Option Addr) (le₂ ce₂ : Nat) (k₂ : Limbs (rd w X) ae₂ le₂ ce₂ b.ld) : Calls Try.prog 14 #[.agg #[.bool a.neg, .slice ad₁ len₁ cap₁, .slice ae₁ le₁ ce₁], .agg #[.bool b.neg, .slice ad₂ len₂ cap₂, .slice ae₂ le₂ ce₂]] w (Ret E0 w fun _ v => v = .bool (atMostV a b)) := by
 refine zZ (n := 19) (vs := [.agg #[.bool a.neg, .slice ad₁ len₁ cap₁, .slice ae₁ le₁ ce₁], .agg #[.bool b.neg, .slice ad₂ len₂ cap₂, .slice ae₂ le₂ ce₂]]) Try.func14 rfl rfl rfl kr (fun a0 A0 => ?_)
 have A0 : Fr 19 a0 [(0, .agg #[.bool a.neg, .slice ad₁ len₁ cap₁, .slice ae₁ le₁ ce₁]), (1, .agg #[.bool b.neg, .slice ad₂ len₂ cap₂, .slice ae₂ le₂ ce₂])] := A0
 have j0 : St E0 w X w X [] := St.start hX
 refine zD (fun K1 C1 => ?_)
 refine zC ?_
 refine wplI A0 kr (zN (d := 2) (fun b => .pointer (some ⟨b, 0, none⟩)) (.cells #[.bool a.neg, .slice ad₁ len₁ cap₁, .slice ae₁ le₁ ce₁] 25 (0, 0)) A0 kr j0 kw ?_)
 intro b2 w2 Y2 j2 q2 hu2 a3 A3
 refine wplI A3 kr (zN (d := 3) (fun b => .pointer (some ⟨b, 0, none⟩)) (.cells #[.bool b.neg, .slice ad₂ len₂ cap₂, .slice ae₂ le₂ ce₂] 25 (0, 0)) A3 kr j2 kw ?_)
 intro b4 w4 Y4 j4 q4 hu4 a5 A5
 refine zB 1 [(4, .bool false)] A5 kr kr (fun a6 A6 => ?_)
 refine zE ?_
 refine zA (C1 _ _ ?_)
 refine zD (fun K7 C7 => ?_)
 refine zC ?_
 refine wplI A6 kr (zJ (d := 8) (v := .agg #[.bool a.neg, .slice ad₁ len₁ cap₁, .slice ae₁ le₁ ce₁]) A6 kr (zF (t := 25) (g := true) (vs := [.bool a.neg, .slice ad₁ len₁ cap₁, .slice ae₁ le₁ ce₁]) (ad := ⟨b2, 0, none⟩) rfl kr kr ir (j4.cells 1 rfl rfl)) ?_)
 intro a8 A8
 refine wplI A8 kr (zJ (d := 9) (v := .agg #[.bool b.neg, .slice ad₂ len₂ cap₂, .slice ae₂ le₂ ce₂]) A8 kr (zF (t := 25) (g := true) (vs := [.bool b.neg, .slice ad₂ len₂ cap₂, .slice ae₂ le₂ ce₂]) (ad := ⟨b4, 0, none⟩) rfl kr kr ir (j4.cells 0 rfl rfl)) ?_)
 intro a9 A9
 refine wplI A9 kr (zK (d := 10) (f := 32) (cap := #[]) (vs := #[.agg #[.bool a.neg, .slice ad₁ len₁ cap₁, .slice ae₁ le₁ ce₁], .agg #[.bool b.neg, .slice ad₂ len₂ cap₂, .slice ae₂ le₂ ce₂]]) A9 kr j4 rfl kr kr (fun w => Try.call32 _ w) (rCmp_c _ _ j4.lt a _ _ _ (h₁.mono (Le2 q2 q4)) _ _ _ (k₁.mono (Le2 q2 q4)) b _ _ _ (h₂.mono (Le2 q2 q4)) _ _ _ (k₂.mono (Le2 q2 q4))) ?_)
 rintro v10 w10 j10 q10 hu10 rfl a11 A11
 refine zB 5 [(6, .int .i64 (cmpE a b)), (5, .int .i64 (cmpR a b)), (12, .int .i64 (cmpE a b)), (11, .int .i64 (cmpR a b)), (7, .tuple #[.int .i64 (cmpR a b), .int .i64 (cmpE a b)])] A11 kr kr (fun a12 A12 => ?_)
 refine zE ?_
 refine zA (C7 _ _ ?_)
 refine zD (fun K13 C13 => ?_)
 refine zC ?_
 refine zB 3 [(15, .bool ((cmpE a b) == 0)), (14, .bool ((cmpE a b) == 0)), (13, .int .i64 (cmpE a b))] A12 kr kr (fun a14 A14 => ?_)
 rcases Bool.eq_false_or_eq_true ((cmpE a b) == 0) with hc15 | hc15
 ·
  have A16 := A14.set 15 (v' := .bool true) kr rfl (zG hc15)
  have ht17 : (cmpE a b) = 0 := by simpa using hc15
  refine zB 4 [(4, .bool (decide ((cmpR a b) ≤ 0))), (18, .bool (decide ((cmpR a b) ≤ 0))), (17, .bool (decide ((cmpR a b) ≤ 0))), (16, .int .i64 (cmpR a b))] A16 kr kr (fun a18 A18 => ?_)
  refine zE ?_
  refine zA (C13 _ _ ?_)
  refine zQ ?_
  refine zR (v := .bool (decide ((cmpR a b) ≤ 0))) (rs := [.tmp 4]) A18 kr (Res.tmp kr Res.nil) kr ?_
  refine ⟨j10.upd, _, rfl, vboolE ?_⟩
  unfold atMostV; simp_all
 have A19 := A14.set 15 (v' := .bool false) kr rfl (zG hc15)
 have ht20 : (cmpE a b) ≠ 0 := by simpa using hc15
 refine zB 4 [(4, .bool false), (18, .bool false), (17, undef), (16, undef)] A19 kr kr (fun a21 A21 => ?_)
 refine zE ?_
 refine zA (C13 _ _ ?_)
 refine zQ ?_
 refine zR (v := .bool false) (rs := [.tmp 4]) A21 kr (Res.tmp kr Res.nil) kr ?_
 refine ⟨j10.upd, _, rfl, vboolE ?_⟩
 unfold atMostV; simp_all
theorem Long06_c (w : World) (X : Hid) (hX : ∀ k o, X k o → k < w.heap.size) (ad : Option Addr) (len cap : Nat) (xs : List Raw) (h : Rats (rd w X) ad len cap xs) : Calls Try.prog 24 #[.slice ad len cap] w (Ret E0 w fun _ v => ∃ b, v = .bool b ∧ (b = false → ∀ x ∈ xs, x.ln.length ≤ 200 ∧ x.ld.length ≤ 200)) := by
 obtain rfl := h.hlen
 have hcap := h.hcap
 have hbig := h.hbig
 refine zZ (n := 46) (vs := [.slice ad xs.length cap]) Try.func24 rfl rfl rfl kr (fun a0 A0 => ?_)
 have A0 : Fr 46 a0 [(0, .slice ad xs.length cap)] := A0
 have j0 : St E0 w X w X [] := St.start hX
 refine zD (fun K1 C1 => ?_)
 refine zC ?_
 refine zB 1 [(2, .bool false)] A0 kr kr (fun a2 A2 => ?_)
 refine zE ?_
 refine zA (C1 _ _ ?_)
 refine zD (fun K3 C3 => ?_)
 refine zD (fun K4 C4 => ?_)
 refine zC ?_
 refine zB 1 [(3, .int .i64 0)] A2 kr kr (fun a5 A5 => ?_)
 refine zE ?_
 refine zA (C4 _ _ ?_)
 refine zV ?_
 refine qC (fun (k : Nat) ac w1 => ∃ (Y1 : Hid), Fr 46 ac [(0, .slice ad xs.length cap), (3, .int .i64 (k : Int))] ∧ St E0 w X w1 Y1 [] ∧ Le (rd w X) (rd w1 Y1) ∧ (k ≤ xs.length) ∧ (∀ x ∈ xs.take k, x.ln.length ≤ 200 ∧ x.ld.length ≤ 200)) (fun (k : Nat) => xs.length - k) 0 ?_ ?_
 ·
  refine ⟨_, A5.as [0, 3] kr kr, j0, Le.refl _, Nat.zero_le _, fun _ h => absurd h (by simp)⟩
 rintro k a6 w6 ⟨Y6, A6, j6, q6, hp6_0, hp6_1⟩
 refine zD (fun K7 C7 => ?_)
 refine zD (fun K8 C8 => ?_)
 refine zC ?_
 refine zB 4 [(9, .bool (decide ((k : Int) < (xs.length : Int)))), (8, .int .i64 (xs.length : Int)), (7, .slice ad xs.length cap), (6, .int .i64 (k : Int))] A6 kr kr (fun a9 A9 => ?_)
 refine zE ?_
 refine zA (C8 _ _ ?_)
 refine zS (decide ((k : Int) < (xs.length : Int))) A9 kr kr (fun hc10 => ?_) (fun hc10 => ?_)
 ·
  have A11 := A9.set 9 (v' := .bool true) kr rfl (zG hc10)
  have ht12 : (k : Int) < (xs.length : Int) := of_decide_eq_true hc10
  obtain ⟨bx, offx, xx, anx, lnx, cnx, amx, lmx, cmx, rfl, hxx, hAx, hLx, hMx⟩ := h.cell (k := k) (by omega)
  have hA1 := hAx.one (i := 1) rfl
  have hA2 := hAx.one (i := 2) rfl
  refine i_skip ?_
  refine zA (C7 _ _ ?_)
  refine zD (fun K13 C13 => ?_)
  refine zV ?_
  refine zD (fun K14 C14 => ?_)
  refine qD (N := 14) (Held [(⟨bx, offx + k * 3 + 1, none⟩, [.slice anx lnx cnx]), (⟨bx, offx + k * 3 + 2, none⟩, [.slice amx lmx cmx])]) [] kr kr kr j6 ?_
  intro w15 j15 q15 hu15
  refine zX (Held.cons ((hA1.mono (Le2 q6 q15))).cells (Held.cons ((hA2.mono (Le2 q6 q15))).cells (Held.nil _))) (fun hH15 => ?_)
  refine zH (d := 12) (v := .slice (some ⟨bx, offx, none⟩) xs.length cap) 0 A11 rfl kr kr kw (fun _ => hH15) ?_
  intro a16 A16
  refine zH (d := 13) (v := .int .i64 (k : Int)) 1 A16 rfl kr kr kw (fun _ => hH15) ?_
  intro a17 A17
  refine zH (d := 14) (v := .pointer (some ⟨bx, offx + k * 3, none⟩)) 2 A17 rfl kr kr (fun w => zP (t := 29) (e := 25) (b := bx) (off := offx) (len := xs.length) (cap := cap) (kd := .i64) (i := (k : Int)) (g := true) (m := 3) (off' := offx + k * 3) rfl kr kr kr kr (by omega) (by omega) (by first | rfl | omega | (simp; done) | (simp; omega)) w) (fun _ => hH15) ?_
  intro a18 A18
  refine zH (d := 15) (v := .pointer (some ⟨bx, offx + k * 3 + 1, none⟩)) 3 A18 rfl kr kr kw (fun _ => hH15) ?_
  intro a19 A19
  refine zY (d := 16) (v := .slice anx lnx cnx) 4 A19 rfl kr kr kr (fun w hw => zF (t := 23) (g := false) (vs := [.slice anx lnx cnx]) (ad := ⟨bx, offx + k * 3 + 1, none⟩) rfl kr kr ir (hw.get 0 kr)) hH15 ?_
  intro a20 A20
  refine zH (d := 17) (v := .int .i64 (lnx : Int)) 5 A20 rfl kr kr kw (fun _ => hH15) ?_
  intro a21 A21
  refine zH (d := 18) (v := .slice (some ⟨bx, offx, none⟩) xs.length cap) 6 A21 rfl kr kr kw (fun _ => hH15) ?_
  intro a22 A22
  refine zH (d := 19) (v := .int .i64 (k : Int)) 7 A22 rfl kr kr kw (fun _ => hH15) ?_
  intro a23 A23
  refine zH (d := 20) (v := .pointer (some ⟨bx, offx + k * 3, none⟩)) 8 A23 rfl kr kr (fun w => zP (t := 29) (e := 25) (b := bx) (off := offx) (len := xs.length) (cap := cap) (kd := .i64) (i := (k : Int)) (g := true) (m := 3) (off' := offx + k * 3) rfl kr kr kr kr (by omega) (by omega) (by first | rfl | omega | (simp; done) | (simp; omega)) w) (fun _ => hH15) ?_
  intro a24 A24
  refine zH (d := 21) (v := .pointer (some ⟨bx, offx + k * 3 + 2, none⟩)) 9 A24 rfl kr kr kw (fun _ => hH15) ?_
  intro a25 A25
  refine zY (d := 22) (v := .slice amx lmx cmx) 10 A25 rfl kr kr kr (fun w hw => zF (t := 23) (g := false) (vs := [.slice amx lmx cmx]) (ad := ⟨bx, offx + k * 3 + 2, none⟩) rfl kr kr ir (hw.get 1 kr)) hH15 ?_
  intro a26 A26
  refine zH (d := 23) (v := .int .i64 (lmx : Int)) 11 A26 rfl kr kr kw (fun _ => hH15) ?_
  intro a27 A27
  refine zH (d := 4) (v := .int .i64 (lnx : Int)) 12 A27 rfl kr kr kw (fun _ => hH15) ?_
  intro a28 A28
  refine zH (d := 5) (v := .int .i64 (lmx : Int)) 13 A28 rfl kr kr kw (fun _ => hH15) ?_
  intro a29 A29
  refine qB kr (nrm ?_)
  refine zA (C14 _ _ ?_)
  refine zD (fun K30 C30 => ?_)
  have hJ9001 : ∀ a9001 w9001, (∃ (Y9001 : Hid) (bj9001_45 : Bool), Fr 46 a9001 [(0, .slice (some ⟨bx, offx, none⟩) xs.length cap), (3, .int .i64 (k : Int)), (45, .bool bj9001_45)] ∧ St E0 w X w9001 Y9001 [] ∧ Le (rd w15 Y6) (rd w9001 Y9001) ∧ (bj9001_45 = false → lnx ≤ 200 ∧ lmx ≤ 200)) → K30 a9001 w9001 := by
   rintro a9001 w9001 ⟨Y9001, bj9001_45, A9001, j9001, q9001, hjp9001⟩
   refine C30 _ _ ?_
   refine zS bj9001_45 A9001 kr kr (fun hc31 => ?_) (fun hc31 => ?_)
   ·
    have A32 := A9001.set 45 (v' := .bool true) kr rfl (zG hc31)
    have ht33 : bj9001_45 = true := by simpa using hc31
    refine zD (fun K34 C34 => ?_)
    refine zC ?_
    refine zB 1 [(2, .bool true)] A32 kr kr (fun a35 A35 => ?_)
    refine zE ?_
    refine zA (C34 _ _ ?_)
    refine zQ ?_
    refine zU ?_
    refine zL ?_
    refine zL ?_
    refine zU ?_
    refine zL ?_
    refine zR (v := .bool true) (rs := [.tmp 2]) A35 kr (Res.tmp kr Res.nil) kr ?_
    exact ⟨j9001.upd, _, rfl, _, rfl, fun e => by cases e⟩
   have A36 := A9001.set 45 (v' := .bool false) kr rfl (zG hc31)
   have ht37 : bj9001_45 = false := by simpa using hc31
   refine i_skip ?_
   refine zW ?_
   refine zA (C13 _ _ ?_)
   refine zC ?_
   refine zB 2 [(11, .int .i64 (IntKind.i64.wrap ((k : Int) + 1))), (10, .int .i64 (k : Int))] A36 kr kr (fun a38 A38 => ?_)
   have A39 := A38.set 11 (v' := .int .i64 ((k : Int) + 1)) kr rfl (vint (wi64 (by omega) (by omega)))
   refine zB 1 [(3, .int .i64 ((k : Int) + 1))] A39 kr kr (fun a40 A40 => ?_)
   refine zE ?_
   refine zA ?_
   refine ⟨k + 1, ⟨_, A40.as [0, 3] kr kr, j9001, (Le3 q6 q15 q9001), by omega, by rw [take_snoc hxx]; intro x hx; rcases List.mem_append.1 hx with h1 | h1; exact hp6_1 x h1; obtain rfl := List.mem_singleton.1 h1; have h9 := hjp9001 ht37; have h8 := hLx.hlen; have h7 := hMx.hlen; omega⟩, ?_⟩
   first | omega | (simp; omega)
  refine zC ?_
  refine zB 3 [(26, .bool (decide ((lnx : Int) > 6))), (25, .bool (decide ((lnx : Int) > 6))), (24, .int .i64 (lnx : Int))] A29 kr kr (fun a41 A41 => ?_)
  rcases Bool.eq_false_or_eq_true (decide ((lnx : Int) > 6)) with hc42 | hc42
  ·
   have A43 := A41.set 26 (v' := .bool true) kr rfl (zG hc42)
   have ht44 : (lnx : Int) > 6 := of_decide_eq_true hc42
   refine zB 4 [(30, .bool (decide ((lnx : Int) ≤ 128))), (29, .bool (decide ((lnx : Int) ≤ 128))), (28, .bool (decide ((lnx : Int) ≤ 128))), (27, .int .i64 (lnx : Int))] A43 kr kr (fun a45 A45 => ?_)
   rcases Bool.eq_false_or_eq_true (decide ((lnx : Int) ≤ 128)) with hc46 | hc46
   ·
    have A47 := A45.set 30 (v' := .bool true) kr rfl (zG hc46)
    have ht48 : (lnx : Int) ≤ 128 := of_decide_eq_true hc46
    refine zB 15 [(45, .bool true), (44, undef), (43, undef), (42, .bool true), (41, .bool true), (40, undef), (39, undef), (38, .bool true), (37, .bool true), (36, undef), (35, undef), (34, undef), (33, undef), (32, undef), (31, undef)] A47 kr kr (fun a49 A49 => ?_)
    refine zE ?_
    exact zA (hJ9001 _ _ ⟨_, true, A49.as [0, 3, 45] kr kr, j15, (Le.refl _), fun e => by first | (cases e; done) | (have e9 := of_decide_eq_false e; omega)⟩)
   have A50 := A45.set 30 (v' := .bool false) kr rfl (zG hc46)
   have ht51 : ¬ ((lnx : Int) ≤ 128) := of_decide_eq_false hc46
   refine zB 3 [(33, .bool (decide ((lmx : Int) > 6))), (32, .bool (decide ((lmx : Int) > 6))), (31, .int .i64 (lmx : Int))] A50 kr kr (fun a52 A52 => ?_)
   rcases Bool.eq_false_or_eq_true (decide ((lmx : Int) > 6)) with hc53 | hc53
   ·
    have A54 := A52.set 33 (v' := .bool true) kr rfl (zG hc53)
    have ht55 : (lmx : Int) > 6 := of_decide_eq_true hc53
    refine zB 5 [(38, .bool (decide ((lmx : Int) ≤ 128))), (37, .bool (decide ((lmx : Int) ≤ 128))), (36, .bool (decide ((lmx : Int) ≤ 128))), (35, .bool (decide ((lmx : Int) ≤ 128))), (34, .int .i64 (lmx : Int))] A54 kr kr (fun a56 A56 => ?_)
    rcases Bool.eq_false_or_eq_true (decide ((lmx : Int) ≤ 128)) with hc57 | hc57
    ·
     have A58 := A56.set 38 (v' := .bool true) kr rfl (zG hc57)
     have ht59 : (lmx : Int) ≤ 128 := of_decide_eq_true hc57
     refine zB 7 [(45, .bool true), (44, undef), (43, undef), (42, .bool true), (41, .bool true), (40, undef), (39, undef)] A58 kr kr (fun a60 A60 => ?_)
     refine zE ?_
     exact zA (hJ9001 _ _ ⟨_, true, A60.as [0, 3, 45] kr kr, j15, (Le.refl _), fun e => by first | (cases e; done) | (have e9 := of_decide_eq_false e; omega)⟩)
    have A61 := A56.set 38 (v' := .bool false) kr rfl (zG hc57)
    have ht62 : ¬ ((lmx : Int) ≤ 128) := of_decide_eq_false hc57
    refine zB 4 [(42, .bool (decide ((lnx : Int) > 200))), (41, .bool (decide ((lnx : Int) > 200))), (40, .bool (decide ((lnx : Int) > 200))), (39, .int .i64 (lnx : Int))] A61 kr kr (fun a63 A63 => ?_)
    rcases Bool.eq_false_or_eq_true (decide ((lnx : Int) > 200)) with hc64 | hc64
    ·
     have A65 := A63.set 42 (v' := .bool true) kr rfl (zG hc64)
     have ht66 : (lnx : Int) > 200 := of_decide_eq_true hc64
     refine zB 3 [(45, .bool true), (44, undef), (43, undef)] A65 kr kr (fun a67 A67 => ?_)
     refine zE ?_
     exact zA (hJ9001 _ _ ⟨_, true, A67.as [0, 3, 45] kr kr, j15, (Le.refl _), fun e => by first | (cases e; done) | (have e9 := of_decide_eq_false e; omega)⟩)
    have A68 := A63.set 42 (v' := .bool false) kr rfl (zG hc64)
    have ht69 : ¬ ((lnx : Int) > 200) := of_decide_eq_false hc64
    refine zB 3 [(45, .bool (decide ((lmx : Int) > 200))), (44, .bool (decide ((lmx : Int) > 200))), (43, .int .i64 (lmx : Int))] A68 kr kr (fun a70 A70 => ?_)
    refine zE ?_
    exact zA (hJ9001 _ _ ⟨_, decide ((lmx : Int) > 200), A70.as [0, 3, 45] kr kr, j15, (Le.refl _), fun e => by first | (cases e; done) | (have e9 := of_decide_eq_false e; omega)⟩)
   have A71 := A52.set 33 (v' := .bool false) kr rfl (zG hc53)
   have ht72 : ¬ ((lmx : Int) > 6) := of_decide_eq_false hc53
   refine zB 9 [(42, .bool (decide ((lnx : Int) > 200))), (41, .bool (decide ((lnx : Int) > 200))), (40, .bool (decide ((lnx : Int) > 200))), (39, .int .i64 (lnx : Int)), (38, .bool false), (37, .bool false), (36, .bool false), (35, undef), (34, undef)] A71 kr kr (fun a73 A73 => ?_)
   rcases Bool.eq_false_or_eq_true (decide ((lnx : Int) > 200)) with hc74 | hc74
   ·
    have A75 := A73.set 42 (v' := .bool true) kr rfl (zG hc74)
    have ht76 : (lnx : Int) > 200 := of_decide_eq_true hc74
    refine zB 3 [(45, .bool true), (44, undef), (43, undef)] A75 kr kr (fun a77 A77 => ?_)
    refine zE ?_
    exact zA (hJ9001 _ _ ⟨_, true, A77.as [0, 3, 45] kr kr, j15, (Le.refl _), fun e => by first | (cases e; done) | (have e9 := of_decide_eq_false e; omega)⟩)
   have A78 := A73.set 42 (v' := .bool false) kr rfl (zG hc74)
   have ht79 : ¬ ((lnx : Int) > 200) := of_decide_eq_false hc74
   refine zB 3 [(45, .bool (decide ((lmx : Int) > 200))), (44, .bool (decide ((lmx : Int) > 200))), (43, .int .i64 (lmx : Int))] A78 kr kr (fun a80 A80 => ?_)
   refine zE ?_
   exact zA (hJ9001 _ _ ⟨_, decide ((lmx : Int) > 200), A80.as [0, 3, 45] kr kr, j15, (Le.refl _), fun e => by first | (cases e; done) | (have e9 := of_decide_eq_false e; omega)⟩)
  have A81 := A41.set 26 (v' := .bool false) kr rfl (zG hc42)
  have ht82 : ¬ ((lnx : Int) > 6) := of_decide_eq_false hc42
  refine zB 7 [(33, .bool (decide ((lmx : Int) > 6))), (32, .bool (decide ((lmx : Int) > 6))), (31, .int .i64 (lmx : Int)), (30, .bool false), (29, .bool false), (28, undef), (27, undef)] A81 kr kr (fun a83 A83 => ?_)
  rcases Bool.eq_false_or_eq_true (decide ((lmx : Int) > 6)) with hc84 | hc84
  ·
   have A85 := A83.set 33 (v' := .bool true) kr rfl (zG hc84)
   have ht86 : (lmx : Int) > 6 := of_decide_eq_true hc84
   refine zB 5 [(38, .bool (decide ((lmx : Int) ≤ 128))), (37, .bool (decide ((lmx : Int) ≤ 128))), (36, .bool (decide ((lmx : Int) ≤ 128))), (35, .bool (decide ((lmx : Int) ≤ 128))), (34, .int .i64 (lmx : Int))] A85 kr kr (fun a87 A87 => ?_)
   rcases Bool.eq_false_or_eq_true (decide ((lmx : Int) ≤ 128)) with hc88 | hc88
   ·
    have A89 := A87.set 38 (v' := .bool true) kr rfl (zG hc88)
    have ht90 : (lmx : Int) ≤ 128 := of_decide_eq_true hc88
    refine zB 7 [(45, .bool true), (44, undef), (43, undef), (42, .bool true), (41, .bool true), (40, undef), (39, undef)] A89 kr kr (fun a91 A91 => ?_)
    refine zE ?_
    exact zA (hJ9001 _ _ ⟨_, true, A91.as [0, 3, 45] kr kr, j15, (Le.refl _), fun e => by first | (cases e; done) | (have e9 := of_decide_eq_false e; omega)⟩)
   have A92 := A87.set 38 (v' := .bool false) kr rfl (zG hc88)
   have ht93 : ¬ ((lmx : Int) ≤ 128) := of_decide_eq_false hc88
   refine zB 4 [(42, .bool (decide ((lnx : Int) > 200))), (41, .bool (decide ((lnx : Int) > 200))), (40, .bool (decide ((lnx : Int) > 200))), (39, .int .i64 (lnx : Int))] A92 kr kr (fun a94 A94 => ?_)
   rcases Bool.eq_false_or_eq_true (decide ((lnx : Int) > 200)) with hc95 | hc95
   ·
    have A96 := A94.set 42 (v' := .bool true) kr rfl (zG hc95)
    have ht97 : (lnx : Int) > 200 := of_decide_eq_true hc95
    refine zB 3 [(45, .bool true), (44, undef), (43, undef)] A96 kr kr (fun a98 A98 => ?_)
    refine zE ?_
    exact zA (hJ9001 _ _ ⟨_, true, A98.as [0, 3, 45] kr kr, j15, (Le.refl _), fun e => by first | (cases e; done) | (have e9 := of_decide_eq_false e; omega)⟩)
   have A99 := A94.set 42 (v' := .bool false) kr rfl (zG hc95)
   have ht100 : ¬ ((lnx : Int) > 200) := of_decide_eq_false hc95
   refine zB 3 [(45, .bool (decide ((lmx : Int) > 200))), (44, .bool (decide ((lmx : Int) > 200))), (43, .int .i64 (lmx : Int))] A99 kr kr (fun a101 A101 => ?_)
   refine zE ?_
   exact zA (hJ9001 _ _ ⟨_, decide ((lmx : Int) > 200), A101.as [0, 3, 45] kr kr, j15, (Le.refl _), fun e => by first | (cases e; done) | (have e9 := of_decide_eq_false e; omega)⟩)
  have A102 := A83.set 33 (v' := .bool false) kr rfl (zG hc84)
  have ht103 : ¬ ((lmx : Int) > 6) := of_decide_eq_false hc84
  refine zB 9 [(42, .bool (decide ((lnx : Int) > 200))), (41, .bool (decide ((lnx : Int) > 200))), (40, .bool (decide ((lnx : Int) > 200))), (39, .int .i64 (lnx : Int)), (38, .bool false), (37, .bool false), (36, .bool false), (35, undef), (34, undef)] A102 kr kr (fun a104 A104 => ?_)
  rcases Bool.eq_false_or_eq_true (decide ((lnx : Int) > 200)) with hc105 | hc105
  ·
   have A106 := A104.set 42 (v' := .bool true) kr rfl (zG hc105)
   have ht107 : (lnx : Int) > 200 := of_decide_eq_true hc105
   refine zB 3 [(45, .bool true), (44, undef), (43, undef)] A106 kr kr (fun a108 A108 => ?_)
   refine zE ?_
   exact zA (hJ9001 _ _ ⟨_, true, A108.as [0, 3, 45] kr kr, j15, (Le.refl _), fun e => by first | (cases e; done) | (have e9 := of_decide_eq_false e; omega)⟩)
  have A109 := A104.set 42 (v' := .bool false) kr rfl (zG hc105)
  have ht110 : ¬ ((lnx : Int) > 200) := of_decide_eq_false hc105
  refine zB 3 [(45, .bool (decide ((lmx : Int) > 200))), (44, .bool (decide ((lmx : Int) > 200))), (43, .int .i64 (lmx : Int))] A109 kr kr (fun a111 A111 => ?_)
  refine zE ?_
  exact zA (hJ9001 _ _ ⟨_, decide ((lmx : Int) > 200), A111.as [0, 3, 45] kr kr, j15, (Le.refl _), fun e => by first | (cases e; done) | (have e9 := of_decide_eq_false e; omega)⟩)
 have A112 := A9.set 9 (v' := .bool false) kr rfl (zG hc10)
 have ht113 : ¬ ((k : Int) < (xs.length : Int)) := of_decide_eq_false hc10
 refine i_exit ?_
 refine zT ?_
 refine zT ?_
 refine qA ?_
 refine zA (C3 _ _ ?_)
 refine zD (fun K114 C114 => ?_)
 refine zC ?_
 refine zB 1 [(2, .bool false)] A112 kr kr (fun a115 A115 => ?_)
 refine zE ?_
 refine zA (C114 _ _ ?_)
 refine zQ ?_
 refine zR (v := .bool false) (rs := [.tmp 2]) A115 kr (Res.tmp kr Res.nil) kr ?_
 exact ⟨j6.upd, _, rfl, _, rfl, fun _ => by have h9 := hp6_1; rwa [List.take_of_length_le (by omega)] at h9⟩
end Go.Proofs.Ytoocgllbbihoaaa
namespace Go.Proofs.Ytoocgllbbihoaaa
open Go Go.Gv Go.RowKit
set_option maxRecDepth 100000
set_option maxHeartbeats 1000000
theorem LongList_c (w : World) (X : Hid) (hX : ∀ k o, X k o → k < w.heap.size) (ad : Option Addr) (len cap : Nat) (xs : List Raw) (h : Rats (rd w X) ad len cap xs) : Calls Try.prog 8 #[.slice ad len cap] w (Ret E0 w fun _ v => ∃ b, v = .bool b ∧ (b = false → xs.length ≤ 20 ∧ ∀ x ∈ xs, x.ln.length ≤ 200 ∧ x.ld.length ≤ 200)) := by
 obtain rfl := h.hlen
 have hcap := h.hcap
 have hbig := h.hbig
 refine zZ (n := 10) (vs := [.slice ad xs.length cap]) Try.func8 rfl rfl rfl kr (fun a0 A0 => ?_)
 have A0 : Fr 10 a0 [(0, .slice ad xs.length cap)] := A0
 have j0 : St E0 w X w X [] := St.start hX
 refine zD (fun K1 C1 => ?_)
 refine zC ?_
 refine zB 1 [(2, .bool false)] A0 kr kr (fun a2 A2 => ?_)
 refine zE ?_
 refine zA (C1 _ _ ?_)
 refine zD (fun K3 C3 => ?_)
 refine zC ?_
 refine zB 4 [(6, .bool (decide ((xs.length : Int) > 20))), (5, .bool (decide ((xs.length : Int) > 20))), (4, .int .i64 (xs.length : Int)), (3, .slice ad xs.length cap)] A2 kr kr (fun a4 A4 => ?_)
 rcases Bool.eq_false_or_eq_true (decide ((xs.length : Int) > 20)) with hc5 | hc5
 ·
  have A6 := A4.set 6 (v' := .bool true) kr rfl (zG hc5)
  have ht7 : (xs.length : Int) > 20 := of_decide_eq_true hc5
  refine zB 4 [(2, .bool true), (9, .bool true), (8, undef), (7, undef)] A6 kr kr (fun a8 A8 => ?_)
  refine zE ?_
  refine zA (C3 _ _ ?_)
  refine zQ ?_
  refine zR (v := .bool true) (rs := [.tmp 2]) A8 kr (Res.tmp kr Res.nil) kr ?_
  exact ⟨j0.upd, _, rfl, _, rfl, fun e => by cases e⟩
 have A9 := A4.set 6 (v' := .bool false) kr rfl (zG hc5)
 have ht10 : ¬ ((xs.length : Int) > 20) := of_decide_eq_false hc5
 have hll : xs.length ≤ 20 := by omega
 refine zB 1 [(7, .slice ad xs.length cap)] A9 kr kr (fun a11 A11 => ?_)
 refine wplI A11 kr (zK (d := 8) (f := 24) (cap := #[]) (vs := #[.slice ad xs.length cap]) A11 kr j0 rfl kr kr (fun w => Try.call24 _ w) (Long06_c _ _ j0.lt _ _ _ _ h) ?_)
 rintro v12 w12 j12 q12 hu12 ⟨bb12, rfl, hbl12⟩ a13 A13
 refine zB 2 [(2, .bool bb12), (9, .bool bb12)] A13 kr kr (fun a14 A14 => ?_)
 refine zE ?_
 refine zA (C3 _ _ ?_)
 refine zQ ?_
 refine zR (v := .bool bb12) (rs := [.tmp 2]) A14 kr (Res.tmp kr Res.nil) kr ?_
 exact ⟨j12.upd, _, rfl, _, rfl, fun e => ⟨by omega, hbl12 e⟩⟩
theorem At.drop {r : Rd} {b o : Nat} {vs us : List Value} (h : At r ⟨b, o, none⟩ vs) (i : Nat) (e : vs.drop i = us) : At r ⟨b, o + i, none⟩ us := by
  subst e
  intro j v hj
  rw [List.getElem?_drop] at hj
  have := h (i + j) v hj
  rw [add_mk] at this ⊢
  rwa [Nat.add_assoc]
theorem Long_c (w : World) (X : Hid) (hX : ∀ k o, X k o → k < w.heap.size) (m : Mdp) (ad : Option Addr) (len cap : Nat) (h : Limbs (rd w X) ad len cap m.disc.ln) (ae : Option Addr) (le ce : Nat) (h2 : Limbs (rd w X) ae le ce m.disc.ld) (st : Option Addr) (ls cs : Nat) (hst : StatesR (rd w X) st ls cs m.states) : Calls Try.prog 7 #[.agg #[.bool m.disc.neg, .slice ad len cap, .slice ae le ce, .slice st ls cs]] w (Ret E0 w fun _ v => ∃ b, v = .bool b) := by
 obtain rfl := hst.hlen
 have hcaps := hst.hcap
 have hbigs := hst.hbig
 refine zZ (n := 102) (vs := [.agg #[.bool m.disc.neg, .slice ad len cap, .slice ae le ce, .slice st m.states.length cs]]) Try.func7 rfl rfl rfl kr (fun a0 A0 => ?_)
 have A0 : Fr 102 a0 [(0, .agg #[.bool m.disc.neg, .slice ad len cap, .slice ae le ce, .slice st m.states.length cs])] := A0
 have j0 : St E0 w X w X [] := St.start hX
 refine zD (fun K1 C1 => ?_)
 refine zC ?_
 refine wplI A0 kr (zN (d := 1) (fun b => .pointer (some ⟨b, 0, none⟩)) (.cells #[.bool m.disc.neg, .slice ad len cap, .slice ae le ce, .slice st m.states.length cs] 28 (0, 0)) A0 kr j0 kw ?_)
 intro b2 w2 Y2 j2 q2 hu2 a3 A3
 refine zB 1 [(2, .bool false)] A3 kr kr (fun a4 A4 => ?_)
 refine zE ?_
 refine zA (C1 _ _ ?_)
 refine zD (fun K5 C5 => ?_)
 refine zD (fun K6 C6 => ?_)
 have hJ9001 : ∀ a9001 w9001, (∃ (Y9001 : Hid) (bj9001_28 : Bool), Fr 102 a9001 [(1, .pointer (some ⟨b2, 0, none⟩)), (28, .bool bj9001_28)] ∧ St E0 w X w9001 Y9001 [(b2, .cells #[.bool m.disc.neg, .slice ad len cap, .slice ae le ce, .slice st m.states.length cs] 28 (0, 0))] ∧ Le (rd w2 Y2) (rd w9001 Y9001)) → K6 a9001 w9001 := by
  rintro a9001 w9001 ⟨Y9001, bj9001_28, A9001, j9001, q9001⟩
  refine C6 _ _ ?_
  refine zS bj9001_28 A9001 kr kr (fun hc7 => ?_) (fun hc7 => ?_)
  ·
   have A8 := A9001.set 28 (v' := .bool true) kr rfl (zG hc7)
   have ht9 : bj9001_28 = true := by simpa using hc7
   refine zD (fun K10 C10 => ?_)
   refine zC ?_
   refine zB 1 [(2, .bool true)] A8 kr kr (fun a11 A11 => ?_)
   refine zE ?_
   refine zA (C10 _ _ ?_)
   refine zQ ?_
   refine zL ?_
   refine zR (v := .bool true) (rs := [.tmp 2]) A11 kr (Res.tmp kr Res.nil) kr ?_
   exact ⟨j9001.upd, _, rfl, _, rfl⟩
  have A12 := A9001.set 28 (v' := .bool false) kr rfl (zG hc7)
  have ht13 : bj9001_28 = false := by simpa using hc7
  refine i_skip ?_
  refine zA (C5 _ _ ?_)
  refine zD (fun K14 C14 => ?_)
  refine zD (fun K15 C15 => ?_)
  refine zC ?_
  refine zB 1 [(3, .int .i64 0)] A12 kr kr (fun a16 A16 => ?_)
  refine zE ?_
  refine zA (C15 _ _ ?_)
  refine zV ?_
  refine qC (fun (i : Nat) ac w1 => ∃ (Y1 : Hid), Fr 102 ac [(1, .pointer (some ⟨b2, 0, none⟩)), (3, .int .i64 (i : Int))] ∧ St E0 w X w1 Y1 [(b2, .cells #[.bool m.disc.neg, .slice ad len cap, .slice ae le ce, .slice st m.states.length cs] 28 (0, 0))] ∧ Le (rd w9001 Y9001) (rd w1 Y1) ∧ (i ≤ m.states.length)) (fun (i : Nat) => m.states.length - i) 0 ?_ ?_
  ·
   refine ⟨_, A16.as [1, 3] kr kr, j9001, Le.refl _, Nat.zero_le _⟩
  rintro i a17 w17 ⟨Y17, A17, j17, q17, hp17_0⟩
  refine zD (fun K18 C18 => ?_)
  refine zD (fun K19 C19 => ?_)
  refine zC ?_
  refine zB 2 [(30, .pointer (some ⟨b2, 3, none⟩)), (29, .int .i64 (i : Int))] A17 kr kr (fun a20 A20 => ?_)
  refine wplI A20 kr (zJ (d := 31) (v := .slice st m.states.length cs) A20 kr (zF (t := 26) (g := false) (vs := [.slice st m.states.length cs]) (ad := ⟨b2, 3, none⟩) rfl kr kr ir (j17.cells 0 rfl rfl)) ?_)
  intro a21 A21
  refine zB 3 [(34, .bool (decide ((i : Int) < (m.states.length : Int)))), (33, .bool (decide ((i : Int) < (m.states.length : Int)))), (32, .int .i64 (m.states.length : Int))] A21 kr kr (fun a22 A22 => ?_)
  rcases Bool.eq_false_or_eq_true (decide ((i : Int) < (m.states.length : Int))) with hc23 | hc23
  ·
   have A24 := A22.set 34 (v' := .bool true) kr rfl (zG hc23)
   have ht25 : (i : Int) < (m.states.length : Int) := of_decide_eq_true hc23
   obtain ⟨b0, off0, rfl⟩ := hst.addr (by omega)
   obtain ⟨sx, ax, lx, cx, hxs, hAs, hacts⟩ := hst.at (k := i) (by omega)
   obtain rfl := hacts.hlen
   have hcapx := hacts.hcap
   have hbigx := hacts.hbig
   have hAs1 : At (rd w X) ⟨b0, off0 + i, none⟩ [.slice ax sx.length cx] := by simpa using hAs
   refine zB 3 [(37, .bool (decide ((i : Int) < 12))), (36, .bool (decide ((i : Int) < 12))), (35, .int .i64 (i : Int))] A24 kr kr (fun a26 A26 => ?_)
   refine zE ?_
   refine zA (C19 _ _ ?_)
   refine zS (decide ((i : Int) < 12)) A26 kr kr (fun hc27 => ?_) (fun hc27 => ?_)
   ·
    have A28 := A26.set 37 (v' := .bool true) kr rfl (zG hc27)
    have ht29 : (i : Int) < 12 := of_decide_eq_true hc27
    refine i_skip ?_
    refine zA (C18 _ _ ?_)
    refine zD (fun K30 C30 => ?_)
    refine zV ?_
    refine zD (fun K31 C31 => ?_)
    refine zD (fun K32 C32 => ?_)
    refine zC ?_
    refine zB 1 [(40, .pointer (some ⟨b2, 3, none⟩))] A28 kr kr (fun a33 A33 => ?_)
    refine wplI A33 kr (zJ (d := 41) (v := .slice (some ⟨b0, off0, none⟩) m.states.length cs) A33 kr (zF (t := 26) (g := false) (vs := [.slice (some ⟨b0, off0, none⟩) m.states.length cs]) (ad := ⟨b2, 3, none⟩) rfl kr kr ir (j17.cells 0 rfl rfl)) ?_)
    intro a34 A34
    refine zB 1 [(42, .int .i64 (i : Int))] A34 kr kr (fun a35 A35 => ?_)
    refine wplI A35 kr (zJ (d := 43) (v := .pointer (some ⟨b0, off0 + i, none⟩)) A35 kr (zP (t := 26) (e := 40) (b := b0) (off := off0) (len := m.states.length) (cap := cs) (kd := .i64) (i := (i : Int)) (g := false) (m := 1) (off' := off0 + i) rfl kr kr kr kr (by omega) (by omega) (by first | rfl | omega | (simp; done) | (simp; omega)) _) ?_)
    intro a36 A36
    refine wplI A36 kr (zJ (d := 44) (v := .slice ax sx.length cx) A36 kr (zF (t := 40) (g := false) (vs := [.slice ax sx.length cx]) (ad := ⟨b0, off0 + i, none⟩) rfl kr kr ir ((hAs1.mono (Le3 q2 q9001 q17))).cells) ?_)
    intro a37 A37
    refine zB 2 [(46, .bool (decide ((sx.length : Int) > 8))), (45, .int .i64 (sx.length : Int))] A37 kr kr (fun a38 A38 => ?_)
    refine zE ?_
    refine zA (C32 _ _ ?_)
    refine zS (decide ((sx.length : Int) > 8)) A38 kr kr (fun hc39 => ?_) (fun hc39 => ?_)
    ·
     have A40 := A38.set 46 (v' := .bool true) kr rfl (zG hc39)
     have ht41 : (sx.length : Int) > 8 := of_decide_eq_true hc39
     refine zD (fun K42 C42 => ?_)
     refine zC ?_
     refine zB 1 [(2, .bool true)] A40 kr kr (fun a43 A43 => ?_)
     refine zE ?_
     refine zA (C42 _ _ ?_)
     refine zQ ?_
     refine zL ?_
     refine zU ?_
     refine zL ?_
     refine zL ?_
     refine zU ?_
     refine zL ?_
     refine zR (v := .bool true) (rs := [.tmp 2]) A43 kr (Res.tmp kr Res.nil) kr ?_
     exact ⟨j17.upd, _, rfl, _, rfl⟩
    have A44 := A38.set 46 (v' := .bool false) kr rfl (zG hc39)
    have ht45 : ¬ ((sx.length : Int) > 8) := of_decide_eq_false hc39
    refine i_skip ?_
    refine zA (C31 _ _ ?_)
    refine zD (fun K46 C46 => ?_)
    refine zC ?_
    refine zB 1 [(4, .int .i64 0)] A44 kr kr (fun a47 A47 => ?_)
    refine zE ?_
    refine zA (C46 _ _ ?_)
    refine zV ?_
    refine qC (fun (j : Nat) ac w1 => ∃ (Y1 : Hid), Fr 102 ac [(1, .pointer (some ⟨b2, 0, none⟩)), (3, .int .i64 (i : Int)), (4, .int .i64 (j : Int))] ∧ St E0 w X w1 Y1 [(b2, .cells #[.bool m.disc.neg, .slice ad len cap, .slice ae le ce, .slice (some ⟨b0, off0, none⟩) m.states.length cs] 28 (0, 0))] ∧ Le (rd w17 Y17) (rd w1 Y1) ∧ (j ≤ sx.length)) (fun (j : Nat) => sx.length - j) 0 ?_ ?_
    ·
     refine ⟨_, A47.as [1, 3, 4] kr kr, j17, Le.refl _, Nat.zero_le _⟩
    rintro j a48 w48 ⟨Y48, A48, j48, q48, hp48_0⟩
    refine zD (fun K49 C49 => ?_)
    refine zD (fun K50 C50 => ?_)
    refine zC ?_
    refine zB 2 [(48, .pointer (some ⟨b2, 3, none⟩)), (47, .int .i64 (j : Int))] A48 kr kr (fun a51 A51 => ?_)
    refine wplI A51 kr (zJ (d := 49) (v := .slice (some ⟨b0, off0, none⟩) m.states.length cs) A51 kr (zF (t := 26) (g := false) (vs := [.slice (some ⟨b0, off0, none⟩) m.states.length cs]) (ad := ⟨b2, 3, none⟩) rfl kr kr ir (j48.cells 0 rfl rfl)) ?_)
    intro a52 A52
    refine zB 1 [(50, .int .i64 (i : Int))] A52 kr kr (fun a53 A53 => ?_)
    refine wplI A53 kr (zJ (d := 51) (v := .pointer (some ⟨b0, off0 + i, none⟩)) A53 kr (zP (t := 26) (e := 40) (b := b0) (off := off0) (len := m.states.length) (cap := cs) (kd := .i64) (i := (i : Int)) (g := false) (m := 1) (off' := off0 + i) rfl kr kr kr kr (by omega) (by omega) (by first | rfl | omega | (simp; done) | (simp; omega)) _) ?_)
    intro a54 A54
    refine wplI A54 kr (zJ (d := 52) (v := .slice ax sx.length cx) A54 kr (zF (t := 40) (g := false) (vs := [.slice ax sx.length cx]) (ad := ⟨b0, off0 + i, none⟩) rfl kr kr ir ((hAs1.mono (Le4 q2 q9001 q17 q48))).cells) ?_)
    intro a55 A55
    refine zB 2 [(54, .bool (decide ((j : Int) < (sx.length : Int)))), (53, .int .i64 (sx.length : Int))] A55 kr kr (fun a56 A56 => ?_)
    refine zE ?_
    refine zA (C50 _ _ ?_)
    refine zS (decide ((j : Int) < (sx.length : Int))) A56 kr kr (fun hc57 => ?_) (fun hc57 => ?_)
    ·
     have A58 := A56.set 54 (v' := .bool true) kr rfl (zG hc57)
     have ht59 : (j : Int) < (sx.length : Int) := of_decide_eq_true hc57
     obtain ⟨b9, off9, rfl⟩ := hacts.addr (by omega)
     obtain ⟨xa, a1a, a2a, a3a, a4a, a5a, a6a, a7a, a8a, a9a, hxa, hAa, hLa, hMa, hOa⟩ := hacts.at (k := j) (by omega)
     obtain rfl := hOa.hlen
     have hcapo := hOa.hcap
     have hbigo := hOa.hbig
     refine i_skip ?_
     refine zA (C49 _ _ ?_)
     refine zD (fun K60 C60 => ?_)
     refine zV ?_
     refine zD (fun K61 C61 => ?_)
     refine zC ?_
     refine zB 1 [(57, .pointer (some ⟨b2, 3, none⟩))] A58 kr kr (fun a62 A62 => ?_)
     refine wplI A62 kr (zJ (d := 58) (v := .slice (some ⟨b0, off0, none⟩) m.states.length cs) A62 kr (zF (t := 26) (g := false) (vs := [.slice (some ⟨b0, off0, none⟩) m.states.length cs]) (ad := ⟨b2, 3, none⟩) rfl kr kr ir (j48.cells 0 rfl rfl)) ?_)
     intro a63 A63
     refine zB 1 [(59, .int .i64 (i : Int))] A63 kr kr (fun a64 A64 => ?_)
     refine wplI A64 kr (zJ (d := 60) (v := .pointer (some ⟨b0, off0 + i, none⟩)) A64 kr (zP (t := 26) (e := 40) (b := b0) (off := off0) (len := m.states.length) (cap := cs) (kd := .i64) (i := (i : Int)) (g := false) (m := 1) (off' := off0 + i) rfl kr kr kr kr (by omega) (by omega) (by first | rfl | omega | (simp; done) | (simp; omega)) _) ?_)
     intro a65 A65
     refine wplI A65 kr (zJ (d := 61) (v := .slice (some ⟨b9, off9, none⟩) sx.length cx) A65 kr (zF (t := 40) (g := false) (vs := [.slice (some ⟨b9, off9, none⟩) sx.length cx]) (ad := ⟨b0, off0 + i, none⟩) rfl kr kr ir ((hAs1.mono (Le4 q2 q9001 q17 q48))).cells) ?_)
     intro a66 A66
     refine zB 1 [(62, .int .i64 (j : Int))] A66 kr kr (fun a67 A67 => ?_)
     refine wplI A67 kr (zJ (d := 63) (v := .pointer (some ⟨b9, off9 + j * 4, none⟩)) A67 kr (zP (t := 40) (e := 55) (b := b9) (off := off9) (len := sx.length) (cap := cx) (kd := .i64) (i := (j : Int)) (g := true) (m := 4) (off' := off9 + j * 4) rfl kr kr kr kr (by omega) (by omega) (by first | rfl | omega | (simp; done) | (simp; omega)) _) ?_)
     intro a68 A68
     refine wplI A68 kr (zJ (d := 64) (v := .agg #[.bool xa.cost.neg, .slice a1a a2a a3a, .slice a4a a5a a6a, .slice a7a xa.next.length a9a]) A68 kr (zF (t := 55) (g := true) (vs := [.bool xa.cost.neg, .slice a1a a2a a3a, .slice a4a a5a a6a, .slice a7a xa.next.length a9a]) (ad := ⟨b9, off9 + j * 4, none⟩) rfl kr kr ir ((hAa.mono (Le4 q2 q9001 q17 q48))).cells) ?_)
     intro a69 A69
     refine wplI A69 kr (zN (d := 5) (fun b => .pointer (some ⟨b, 0, none⟩)) (.cells #[.bool false, .slice none 0 0, .slice none 0 0, .slice none 0 0] 55 (0, 0)) A69 kr j48 kw ?_)
     intro b70 w70 Y70 j70 q70 hu70 a71 A71
     refine wplI A71 kr (zO (t := 55) (b := b70) (off := 0) (c' := #[.bool xa.cost.neg, .slice a1a a2a a3a, .slice a4a a5a a6a, .slice a7a xa.next.length a9a]) (g := true) (m := 4) 0 _ A71 kr j70 rfl kr rfl kr kr kr rfl (by first | decide | (simp; done)) kr rfl ?_)
     intro w72 j72 q72
     refine zE ?_
     refine zA (C61 _ _ ?_)
     refine zD (fun K73 C73 => ?_)
     refine zD (fun K74 C74 => ?_)
     have hJ9002 : ∀ a9002 w9002, (∃ (Y9002 : Hid) (bj9002_86 : Bool), Fr 102 a9002 [(1, .pointer (some ⟨b2, 0, none⟩)), (3, .int .i64 (i : Int)), (4, .int .i64 (j : Int)), (5, .pointer (some ⟨b70, 0, none⟩)), (86, .bool bj9002_86)] ∧ St E0 w X w9002 Y9002 [(b70, .cells #[.bool xa.cost.neg, .slice a1a a2a a3a, .slice a4a a5a a6a, .slice a7a xa.next.length a9a] 55 (0, 0)), (b2, .cells #[.bool m.disc.neg, .slice ad len cap, .slice ae le ce, .slice (some ⟨b0, off0, none⟩) m.states.length cs] 28 (0, 0))] ∧ Le (rd w72 Y70) (rd w9002 Y9002)) → K74 a9002 w9002 := by
      rintro a9002 w9002 ⟨Y9002, bj9002_86, A9002, j9002, q9002⟩
      refine C74 _ _ ?_
      refine zS bj9002_86 A9002 kr kr (fun hc75 => ?_) (fun hc75 => ?_)
      ·
       have A76 := A9002.set 86 (v' := .bool true) kr rfl (zG hc75)
       have ht77 : bj9002_86 = true := by simpa using hc75
       refine zD (fun K78 C78 => ?_)
       refine zC ?_
       refine zB 1 [(2, .bool true)] A76 kr kr (fun a79 A79 => ?_)
       refine zE ?_
       refine zA (C78 _ _ ?_)
       refine zQ ?_
       refine zL ?_
       refine zU ?_
       refine zL ?_
       refine zL ?_
       refine zU ?_
       refine zU ?_
       refine zL ?_
       refine zL ?_
       refine zU ?_
       refine zL ?_
       refine zR (v := .bool true) (rs := [.tmp 2]) A79 kr (Res.tmp kr Res.nil) kr ?_
       exact ⟨j9002.upd, _, rfl, _, rfl⟩
      have A80 := A9002.set 86 (v' := .bool false) kr rfl (zG hc75)
      have ht81 : bj9002_86 = false := by simpa using hc75
      refine i_skip ?_
      refine zA (C73 _ _ ?_)
      refine zD (fun K82 C82 => ?_)
      refine zC ?_
      refine zB 1 [(6, .int .i64 0)] A80 kr kr (fun a83 A83 => ?_)
      refine zE ?_
      refine zA (C82 _ _ ?_)
      refine zV ?_
      refine qC (fun (k : Nat) ac w1 => ∃ (Y1 : Hid), Fr 102 ac [(1, .pointer (some ⟨b2, 0, none⟩)), (3, .int .i64 (i : Int)), (4, .int .i64 (j : Int)), (5, .pointer (some ⟨b70, 0, none⟩)), (6, .int .i64 (k : Int))] ∧ St E0 w X w1 Y1 [(b70, .cells #[.bool xa.cost.neg, .slice a1a a2a a3a, .slice a4a a5a a6a, .slice a7a xa.next.length a9a] 55 (0, 0)), (b2, .cells #[.bool m.disc.neg, .slice ad len cap, .slice ae le ce, .slice (some ⟨b0, off0, none⟩) m.states.length cs] 28 (0, 0))] ∧ Le (rd w9002 Y9002) (rd w1 Y1) ∧ (k ≤ xa.next.length)) (fun (k : Nat) => xa.next.length - k) 0 ?_ ?_
      ·
       refine ⟨_, A83.as [1, 3, 4, 5, 6] kr kr, j9002, Le.refl _, Nat.zero_le _⟩
      rintro k a84 w84 ⟨Y84, A84, j84, q84, hp84_0⟩
      refine zD (fun K85 C85 => ?_)
      refine zD (fun K86 C86 => ?_)
      refine zC ?_
      refine zB 2 [(88, .pointer (some ⟨b70, 3, none⟩)), (87, .int .i64 (k : Int))] A84 kr kr (fun a87 A87 => ?_)
      refine wplI A87 kr (zJ (d := 89) (v := .slice a7a xa.next.length a9a) A87 kr (zF (t := 53) (g := false) (vs := [.slice a7a xa.next.length a9a]) (ad := ⟨b70, 3, none⟩) rfl kr kr ir (j84.cells 0 rfl rfl)) ?_)
      intro a88 A88
      refine zB 2 [(91, .bool (decide ((k : Int) < (xa.next.length : Int)))), (90, .int .i64 (xa.next.length : Int))] A88 kr kr (fun a89 A89 => ?_)
      refine zE ?_
      refine zA (C86 _ _ ?_)
      refine zS (decide ((k : Int) < (xa.next.length : Int))) A89 kr kr (fun hc90 => ?_) (fun hc90 => ?_)
      ·
       have A91 := A89.set 91 (v' := .bool true) kr rfl (zG hc90)
       have ht92 : (k : Int) < (xa.next.length : Int) := of_decide_eq_true hc90
       obtain ⟨bo, offo, rfl⟩ := hOa.addr (by omega)
       obtain ⟨ox, anx, lnx, cnx, amx, lmx, cmx, hxx, hAx, hLx, hMx⟩ := hOa.at (k := k) (by omega)
       have hA3 : At (rd w X) ⟨bo, offo + k * 4 + 1, none⟩ [.bool ox.p.neg, .slice anx lnx cnx, .slice amx lmx cmx] := At.drop hAx 1 rfl
       refine i_skip ?_
       refine zA (C85 _ _ ?_)
       refine zD (fun K93 C93 => ?_)
       refine zV ?_
       refine zD (fun K94 C94 => ?_)
       refine zC ?_
       refine zB 1 [(94, .pointer (some ⟨b70, 3, none⟩))] A91 kr kr (fun a95 A95 => ?_)
       refine wplI A95 kr (zJ (d := 95) (v := .slice (some ⟨bo, offo, none⟩) xa.next.length a9a) A95 kr (zF (t := 53) (g := false) (vs := [.slice (some ⟨bo, offo, none⟩) xa.next.length a9a]) (ad := ⟨b70, 3, none⟩) rfl kr kr ir (j84.cells 0 rfl rfl)) ?_)
       intro a96 A96
       refine zB 1 [(96, .int .i64 (k : Int))] A96 kr kr (fun a97 A97 => ?_)
       refine wplI A97 kr (zJ (d := 97) (v := .pointer (some ⟨bo, offo + k * 4, none⟩)) A97 kr (zP (t := 53) (e := 57) (b := bo) (off := offo) (len := xa.next.length) (cap := a9a) (kd := .i64) (i := (k : Int)) (g := true) (m := 4) (off' := offo + k * 4) rfl kr kr kr kr (by omega) (by omega) (by first | rfl | omega | (simp; done) | (simp; omega)) _) ?_)
       intro a98 A98
       refine zB 1 [(98, .pointer (some ⟨bo, offo + k * 4 + 1, none⟩))] A98 kr kr (fun a99 A99 => ?_)
       refine wplI A99 kr (zJ (d := 99) (v := .agg #[.bool ox.p.neg, .slice anx lnx cnx, .slice amx lmx cmx]) A99 kr (zF (t := 25) (g := true) (vs := [.bool ox.p.neg, .slice anx lnx cnx, .slice amx lmx cmx]) (ad := ⟨bo, offo + k * 4 + 1, none⟩) rfl kr kr ir ((hA3.mono (Le8 q2 q9001 q17 q48 q70 q72 q9002 q84))).cells) ?_)
       intro a100 A100
       refine wplI A100 kr (zN (d := 100) (fun b => .slice (some ⟨b, 0, none⟩) 1 1) (.cells #[.bool ox.p.neg, .slice anx lnx cnx, .slice amx lmx cmx] 25 (0, 0)) A100 kr j84 kw ?_)
       intro b101 w101 Y101 j101 q101 hu101 a102 A102
       obtain ⟨j103, q103, hat103⟩ := St.publish j101 (j101.own_ge 0 rfl)
       have hR103 : Rats (rd w101 (show_ b101 Y101)) (some ⟨b101, 0, none⟩) 1 1 [ox.p] := Rats.one hat103 (hLx.mono (Le10 q2 q9001 q17 q48 q70 q72 q9002 q84 q101 q103)) (hMx.mono (Le10 q2 q9001 q17 q48 q70 q72 q9002 q84 q101 q103))
       refine wplI A102 kr (zK (d := 101) (f := 24) (cap := #[]) (vs := #[.slice (some ⟨b101, 0, none⟩) 1 1]) A102 kr j103 rfl kr kr (fun w => Try.call24 _ w) (Long06_c _ _ j103.lt _ _ _ _ hR103) ?_)
       rintro v104 w104 j104 q104 hu104 ⟨bb104, rfl, hbl104⟩ a105 A105
       refine zE ?_
       refine zA (C94 _ _ ?_)
       refine zS bb104 A105 kr kr (fun hc106 => ?_) (fun hc106 => ?_)
       ·
        have A107 := A105.set 101 (v' := .bool true) kr rfl (zG hc106)
        have ht108 : bb104 = true := by simpa using hc106
        refine zD (fun K109 C109 => ?_)
        refine zC ?_
        refine zB 1 [(2, .bool true)] A107 kr kr (fun a110 A110 => ?_)
        refine zE ?_
        refine zA (C109 _ _ ?_)
        refine zQ ?_
        refine zU ?_
        refine zL ?_
        refine zL ?_
        refine zU ?_
        refine zU ?_
        refine zL ?_
        refine zL ?_
        refine zU ?_
        refine zU ?_
        refine zL ?_
        refine zL ?_
        refine zU ?_
        refine zL ?_
        refine zR (v := .bool true) (rs := [.tmp 2]) A110 kr (Res.tmp kr Res.nil) kr ?_
        exact ⟨j104.upd, _, rfl, _, rfl⟩
       have A111 := A105.set 101 (v' := .bool false) kr rfl (zG hc106)
       have ht112 : bb104 = false := by simpa using hc106
       refine i_skip ?_
       refine zW ?_
       refine zA (C93 _ _ ?_)
       refine zC ?_
       refine zB 2 [(93, .int .i64 (IntKind.i64.wrap ((k : Int) + 1))), (92, .int .i64 (k : Int))] A111 kr kr (fun a113 A113 => ?_)
       have A114 := A113.set 93 (v' := .int .i64 ((k : Int) + 1)) kr rfl (vint (wi64 (by omega) (by omega)))
       refine zB 1 [(6, .int .i64 ((k : Int) + 1))] A114 kr kr (fun a115 A115 => ?_)
       refine zE ?_
       refine zA ?_
       refine ⟨k + 1, ⟨_, A115.as [1, 3, 4, 5, 6] kr kr, j104, (Le4 q84 q101 q103 q104), by omega⟩, ?_⟩
       first | omega | (simp; omega)
      have A116 := A89.set 91 (v' := .bool false) kr rfl (zG hc90)
      have ht117 : ¬ ((k : Int) < (xa.next.length : Int)) := of_decide_eq_false hc90
      refine i_exit ?_
      refine zT ?_
      refine zT ?_
      refine qA ?_
      refine zW ?_
      refine zA (C60 _ _ ?_)
      refine zC ?_
      refine zB 2 [(56, .int .i64 (IntKind.i64.wrap ((j : Int) + 1))), (55, .int .i64 (j : Int))] A116 kr kr (fun a118 A118 => ?_)
      have A119 := A118.set 56 (v' := .int .i64 ((j : Int) + 1)) kr rfl (vint (wi64 (by omega) (by omega)))
      refine zB 1 [(4, .int .i64 ((j : Int) + 1))] A119 kr kr (fun a120 A120 => ?_)
      refine zE ?_
      refine zA ?_
      refine ⟨j + 1, ⟨_, A120.as [1, 3, 4] kr kr, j84.tail, (Le5 q48 q70 q72 q9002 q84), by omega⟩, ?_⟩
      first | omega | (simp; omega)
     refine zC ?_
     refine zB 1 [(65, .pointer (some ⟨b70, 0, none⟩))] A71 kr kr (fun a121 A121 => ?_)
     refine wplI A121 kr (zJ (d := 66) (v := .agg #[.bool xa.cost.neg, .slice a1a a2a a3a, .slice a4a a5a a6a]) A121 kr (zF (t := 25) (g := true) (vs := [.bool xa.cost.neg, .slice a1a a2a a3a, .slice a4a a5a a6a]) (ad := ⟨b70, 0, none⟩) rfl kr kr ir (j72.cells 0 rfl rfl)) ?_)
     intro a122 A122
     refine wplI A122 kr (zN (d := 67) (fun b => .slice (some ⟨b, 0, none⟩) 1 1) (.cells #[.bool xa.cost.neg, .slice a1a a2a a3a, .slice a4a a5a a6a] 25 (0, 0)) A122 kr j72 kw ?_)
     intro b123 w123 Y123 j123 q123 hu123 a124 A124
     obtain ⟨j125, q125, hat125⟩ := St.publish j123 (j123.own_ge 0 rfl)
     have hR125 : Rats (rd w123 (show_ b123 Y123)) (some ⟨b123, 0, none⟩) 1 1 [xa.cost] := Rats.one hat125 (hLa.mono (Le8 q2 q9001 q17 q48 q70 q72 q123 q125)) (hMa.mono (Le8 q2 q9001 q17 q48 q70 q72 q123 q125))
     refine wplI A124 kr (zK (d := 68) (f := 24) (cap := #[]) (vs := #[.slice (some ⟨b123, 0, none⟩) 1 1]) A124 kr j125 rfl kr kr (fun w => Try.call24 _ w) (Long06_c _ _ j125.lt _ _ _ _ hR125) ?_)
     rintro v126 w126 j126 q126 hu126 ⟨bb126, rfl, hbl126⟩ a127 A127
     refine zB 1 [(69, .bool bb126)] A127 kr kr (fun a128 A128 => ?_)
     rcases Bool.eq_false_or_eq_true bb126 with hc129 | hc129
     ·
      have A130 := A128.set 69 (v' := .bool true) kr rfl (zG hc129)
      have ht131 : bb126 = true := by simpa using hc129
      refine zB 17 [(86, .bool true), (85, undef), (84, undef), (83, undef), (82, undef), (81, .bool true), (80, .bool true), (79, undef), (78, undef), (77, undef), (76, undef), (75, undef), (74, undef), (73, undef), (72, undef), (71, undef), (70, undef)] A130 kr kr (fun a132 A132 => ?_)
      refine zE ?_
      exact zA (hJ9002 _ _ ⟨_, true, A132.as [1, 3, 4, 5, 86] kr kr, j126, (Le3 q123 q125 q126)⟩)
     have A133 := A128.set 69 (v' := .bool false) kr rfl (zG hc129)
     have ht134 : bb126 = false := by simpa using hc129
     refine zB 1 [(70, .pointer (some ⟨b70, 3, none⟩))] A133 kr kr (fun a135 A135 => ?_)
     refine wplI A135 kr (zJ (d := 71) (v := .slice a7a xa.next.length a9a) A135 kr (zF (t := 53) (g := false) (vs := [.slice a7a xa.next.length a9a]) (ad := ⟨b70, 3, none⟩) rfl kr kr ir (j126.cells 0 rfl rfl)) ?_)
     intro a136 A136
     refine zB 3 [(74, .bool (decide ((xa.next.length : Int) > 16))), (73, .bool (decide ((xa.next.length : Int) > 16))), (72, .int .i64 (xa.next.length : Int))] A136 kr kr (fun a137 A137 => ?_)
     rcases Bool.eq_false_or_eq_true (decide ((xa.next.length : Int) > 16)) with hc138 | hc138
     ·
      have A139 := A137.set 74 (v' := .bool true) kr rfl (zG hc138)
      have ht140 : (xa.next.length : Int) > 16 := of_decide_eq_true hc138
      refine zB 1 [(75, .pointer (some ⟨b70, 3, none⟩))] A139 kr kr (fun a141 A141 => ?_)
      refine wplI A141 kr (zJ (d := 76) (v := .slice a7a xa.next.length a9a) A141 kr (zF (t := 53) (g := false) (vs := [.slice a7a xa.next.length a9a]) (ad := ⟨b70, 3, none⟩) rfl kr kr ir (j126.cells 0 rfl rfl)) ?_)
      intro a142 A142
      refine zB 5 [(81, .bool (decide ((xa.next.length : Int) ≤ 64))), (80, .bool (decide ((xa.next.length : Int) ≤ 64))), (79, .bool (decide ((xa.next.length : Int) ≤ 64))), (78, .bool (decide ((xa.next.length : Int) ≤ 64))), (77, .int .i64 (xa.next.length : Int))] A142 kr kr (fun a143 A143 => ?_)
      rcases Bool.eq_false_or_eq_true (decide ((xa.next.length : Int) ≤ 64)) with hc144 | hc144
      ·
       have A145 := A143.set 81 (v' := .bool true) kr rfl (zG hc144)
       have ht146 : (xa.next.length : Int) ≤ 64 := of_decide_eq_true hc144
       refine zB 5 [(86, .bool true), (85, undef), (84, undef), (83, undef), (82, undef)] A145 kr kr (fun a147 A147 => ?_)
       refine zE ?_
       exact zA (hJ9002 _ _ ⟨_, true, A147.as [1, 3, 4, 5, 86] kr kr, j126, (Le3 q123 q125 q126)⟩)
      have A148 := A143.set 81 (v' := .bool false) kr rfl (zG hc144)
      have ht149 : ¬ ((xa.next.length : Int) ≤ 64) := of_decide_eq_false hc144
      refine zB 1 [(82, .pointer (some ⟨b70, 3, none⟩))] A148 kr kr (fun a150 A150 => ?_)
      refine wplI A150 kr (zJ (d := 83) (v := .slice a7a xa.next.length a9a) A150 kr (zF (t := 53) (g := false) (vs := [.slice a7a xa.next.length a9a]) (ad := ⟨b70, 3, none⟩) rfl kr kr ir (j126.cells 0 rfl rfl)) ?_)
      intro a151 A151
      refine zB 3 [(86, .bool (decide ((xa.next.length : Int) > 70))), (85, .bool (decide ((xa.next.length : Int) > 70))), (84, .int .i64 (xa.next.length : Int))] A151 kr kr (fun a152 A152 => ?_)
      refine zE ?_
      exact zA (hJ9002 _ _ ⟨_, decide ((xa.next.length : Int) > 70), A152.as [1, 3, 4, 5, 86] kr kr, j126, (Le3 q123 q125 q126)⟩)
     have A153 := A137.set 74 (v' := .bool false) kr rfl (zG hc138)
     have ht154 : ¬ ((xa.next.length : Int) > 16) := of_decide_eq_false hc138
     refine zB 8 [(82, .pointer (some ⟨b70, 3, none⟩)), (81, .bool false), (80, .bool false), (79, .bool false), (78, undef), (77, undef), (76, undef), (75, undef)] A153 kr kr (fun a155 A155 => ?_)
     refine wplI A155 kr (zJ (d := 83) (v := .slice a7a xa.next.length a9a) A155 kr (zF (t := 53) (g := false) (vs := [.slice a7a xa.next.length a9a]) (ad := ⟨b70, 3, none⟩) rfl kr kr ir (j126.cells 0 rfl rfl)) ?_)
     intro a156 A156
     refine zB 3 [(86, .bool (decide ((xa.next.length : Int) > 70))), (85, .bool (decide ((xa.next.length : Int) > 70))), (84, .int .i64 (xa.next.length : Int))] A156 kr kr (fun a157 A157 => ?_)
     refine zE ?_
     exact zA (hJ9002 _ _ ⟨_, decide ((xa.next.length : Int) > 70), A157.as [1, 3, 4, 5, 86] kr kr, j126, (Le3 q123 q125 q126)⟩)
    have A158 := A56.set 54 (v' := .bool false) kr rfl (zG hc57)
    have ht159 : ¬ ((j : Int) < (sx.length : Int)) := of_decide_eq_false hc57
    refine i_exit ?_
    refine zT ?_
    refine zT ?_
    refine qA ?_
    refine zW ?_
    refine zA (C30 _ _ ?_)
    refine zC ?_
    refine zB 2 [(39, .int .i64 (IntKind.i64.wrap ((i : Int) + 1))), (38, .int .i64 (i : Int))] A158 kr kr (fun a160 A160 => ?_)
    have A161 := A160.set 39 (v' := .int .i64 ((i : Int) + 1)) kr rfl (vint (wi64 (by omega) (by omega)))
    refine zB 1 [(3, .int .i64 ((i : Int) + 1))] A161 kr kr (fun a162 A162 => ?_)
    refine zE ?_
    refine zA ?_
    refine ⟨i + 1, ⟨_, A162.as [1, 3] kr kr, j48, (Le2 q17 q48), by omega⟩, ?_⟩
    first | omega | (simp; omega)
   have A163 := A26.set 37 (v' := .bool false) kr rfl (zG hc27)
   have ht164 : ¬ ((i : Int) < 12) := of_decide_eq_false hc27
   refine i_exit ?_
   refine zT ?_
   refine zT ?_
   refine qA ?_
   refine zA (C14 _ _ ?_)
   refine zD (fun K165 C165 => ?_)
   refine zC ?_
   refine zB 1 [(2, .bool false)] A163 kr kr (fun a166 A166 => ?_)
   refine zE ?_
   refine zA (C165 _ _ ?_)
   refine zQ ?_
   refine zR (v := .bool false) (rs := [.tmp 2]) A166 kr (Res.tmp kr Res.nil) kr ?_
   exact ⟨j17.upd, _, rfl, _, rfl⟩
  have A167 := A22.set 34 (v' := .bool false) kr rfl (zG hc23)
  have ht168 : ¬ ((i : Int) < (m.states.length : Int)) := of_decide_eq_false hc23
  refine zB 3 [(37, .bool false), (36, undef), (35, undef)] A167 kr kr (fun a169 A169 => ?_)
  refine zE ?_
  refine zA (C19 _ _ ?_)
  refine qH A169 kr kr ?_
  refine i_exit ?_
  refine zT ?_
  refine zT ?_
  refine qA ?_
  refine zA (C14 _ _ ?_)
  refine zD (fun K170 C170 => ?_)
  refine zC ?_
  refine zB 1 [(2, .bool false)] A169 kr kr (fun a171 A171 => ?_)
  refine zE ?_
  refine zA (C170 _ _ ?_)
  refine zQ ?_
  refine zR (v := .bool false) (rs := [.tmp 2]) A171 kr (Res.tmp kr Res.nil) kr ?_
  exact ⟨j17.upd, _, rfl, _, rfl⟩
 refine zC ?_
 refine zB 1 [(7, .pointer (some ⟨b2, 3, none⟩))] A4 kr kr (fun a172 A172 => ?_)
 refine wplI A172 kr (zJ (d := 8) (v := .slice st m.states.length cs) A172 kr (zF (t := 26) (g := false) (vs := [.slice st m.states.length cs]) (ad := ⟨b2, 3, none⟩) rfl kr kr ir (j2.cells 0 rfl rfl)) ?_)
 intro a173 A173
 refine zB 3 [(11, .bool (decide ((m.states.length : Int) > 12))), (10, .bool (decide ((m.states.length : Int) > 12))), (9, .int .i64 (m.states.length : Int))] A173 kr kr (fun a174 A174 => ?_)
 rcases Bool.eq_false_or_eq_true (decide ((m.states.length : Int) > 12)) with hc175 | hc175
 ·
  have A176 := A174.set 11 (v' := .bool true) kr rfl (zG hc175)
  have ht177 : (m.states.length : Int) > 12 := of_decide_eq_true hc175
  refine zB 1 [(12, .pointer (some ⟨b2, 3, none⟩))] A176 kr kr (fun a178 A178 => ?_)
  refine wplI A178 kr (zJ (d := 13) (v := .slice st m.states.length cs) A178 kr (zF (t := 26) (g := false) (vs := [.slice st m.states.length cs]) (ad := ⟨b2, 3, none⟩) rfl kr kr ir (j2.cells 0 rfl rfl)) ?_)
  intro a179 A179
  refine zB 4 [(17, .bool (decide ((m.states.length : Int) ≤ 200))), (16, .bool (decide ((m.states.length : Int) ≤ 200))), (15, .bool (decide ((m.states.length : Int) ≤ 200))), (14, .int .i64 (m.states.length : Int))] A179 kr kr (fun a180 A180 => ?_)
  rcases Bool.eq_false_or_eq_true (decide ((m.states.length : Int) ≤ 200)) with hc181 | hc181
  ·
   have A182 := A180.set 17 (v' := .bool true) kr rfl (zG hc181)
   have ht183 : (m.states.length : Int) ≤ 200 := of_decide_eq_true hc181
   refine zB 11 [(28, .bool true), (27, undef), (26, undef), (25, undef), (24, undef), (23, .bool true), (22, .bool true), (21, undef), (20, undef), (19, undef), (18, undef)] A182 kr kr (fun a184 A184 => ?_)
   refine zE ?_
   exact zA (hJ9001 _ _ ⟨_, true, A184.as [1, 28] kr kr, j2, (Le.refl _)⟩)
  have A185 := A180.set 17 (v' := .bool false) kr rfl (zG hc181)
  have ht186 : ¬ ((m.states.length : Int) ≤ 200) := of_decide_eq_false hc181
  refine zB 1 [(18, .pointer (some ⟨b2, 3, none⟩))] A185 kr kr (fun a187 A187 => ?_)
  refine wplI A187 kr (zJ (d := 19) (v := .slice st m.states.length cs) A187 kr (zF (t := 26) (g := false) (vs := [.slice st m.states.length cs]) (ad := ⟨b2, 3, none⟩) rfl kr kr ir (j2.cells 0 rfl rfl)) ?_)
  intro a188 A188
  refine zB 4 [(23, .bool (decide ((m.states.length : Int) > 210))), (22, .bool (decide ((m.states.length : Int) > 210))), (21, .bool (decide ((m.states.length : Int) > 210))), (20, .int .i64 (m.states.length : Int))] A188 kr kr (fun a189 A189 => ?_)
  rcases Bool.eq_false_or_eq_true (decide ((m.states.length : Int) > 210)) with hc190 | hc190
  ·
   have A191 := A189.set 23 (v' := .bool true) kr rfl (zG hc190)
   have ht192 : (m.states.length : Int) > 210 := of_decide_eq_true hc190
   refine zB 5 [(28, .bool true), (27, undef), (26, undef), (25, undef), (24, undef)] A191 kr kr (fun a193 A193 => ?_)
   refine zE ?_
   exact zA (hJ9001 _ _ ⟨_, true, A193.as [1, 28] kr kr, j2, (Le.refl _)⟩)
  have A194 := A189.set 23 (v' := .bool false) kr rfl (zG hc190)
  have ht195 : ¬ ((m.states.length : Int) > 210) := of_decide_eq_false hc190
  refine zB 1 [(24, .pointer (some ⟨b2, 0, none⟩))] A194 kr kr (fun a196 A196 => ?_)
  refine wplI A196 kr (zJ (d := 25) (v := .agg #[.bool m.disc.neg, .slice ad len cap, .slice ae le ce]) A196 kr (zF (t := 25) (g := true) (vs := [.bool m.disc.neg, .slice ad len cap, .slice ae le ce]) (ad := ⟨b2, 0, none⟩) rfl kr kr ir (j2.cells 0 rfl rfl)) ?_)
  intro a197 A197
  refine wplI A197 kr (zN (d := 26) (fun b => .slice (some ⟨b, 0, none⟩) 1 1) (.cells #[.bool m.disc.neg, .slice ad len cap, .slice ae le ce] 25 (0, 0)) A197 kr j2 kw ?_)
  intro b198 w198 Y198 j198 q198 hu198 a199 A199
  obtain ⟨j200, q200, hat200⟩ := St.publish j198 (j198.own_ge 0 rfl)
  have hR200 : Rats (rd w198 (show_ b198 Y198)) (some ⟨b198, 0, none⟩) 1 1 [m.disc] := Rats.one hat200 (h.mono (Le3 q2 q198 q200)) (h2.mono (Le3 q2 q198 q200))
  refine wplI A199 kr (zK (d := 27) (f := 24) (cap := #[]) (vs := #[.slice (some ⟨b198, 0, none⟩) 1 1]) A199 kr j200 rfl kr kr (fun w => Try.call24 _ w) (Long06_c _ _ j200.lt _ _ _ _ hR200) ?_)
  rintro v201 w201 j201 q201 hu201 ⟨bb201, rfl, hbl201⟩ a202 A202
  refine zB 1 [(28, .bool bb201)] A202 kr kr (fun a203 A203 => ?_)
  refine zE ?_
  exact zA (hJ9001 _ _ ⟨_, bb201, A203.as [1, 28] kr kr, j201, (Le3 q198 q200 q201)⟩)
 have A204 := A174.set 11 (v' := .bool false) kr rfl (zG hc175)
 have ht205 : ¬ ((m.states.length : Int) > 12) := of_decide_eq_false hc175
 refine zB 7 [(18, .pointer (some ⟨b2, 3, none⟩)), (17, .bool false), (16, .bool false), (15, undef), (14, undef), (13, undef), (12, undef)] A204 kr kr (fun a206 A206 => ?_)
 refine wplI A206 kr (zJ (d := 19) (v := .slice st m.states.length cs) A206 kr (zF (t := 26) (g := false) (vs := [.slice st m.states.length cs]) (ad := ⟨b2, 3, none⟩) rfl kr kr ir (j2.cells 0 rfl rfl)) ?_)
 intro a207 A207
 refine zB 4 [(23, .bool (decide ((m.states.length : Int) > 210))), (22, .bool (decide ((m.states.length : Int) > 210))), (21, .bool (decide ((m.states.length : Int) > 210))), (20, .int .i64 (m.states.length : Int))] A207 kr kr (fun a208 A208 => ?_)
 rcases Bool.eq_false_or_eq_true (decide ((m.states.length : Int) > 210)) with hc209 | hc209
 ·
  have A210 := A208.set 23 (v' := .bool true) kr rfl (zG hc209)
  have ht211 : (m.states.length : Int) > 210 := of_decide_eq_true hc209
  refine zB 5 [(28, .bool true), (27, undef), (26, undef), (25, undef), (24, undef)] A210 kr kr (fun a212 A212 => ?_)
  refine zE ?_
  exact zA (hJ9001 _ _ ⟨_, true, A212.as [1, 28] kr kr, j2, (Le.refl _)⟩)
 have A213 := A208.set 23 (v' := .bool false) kr rfl (zG hc209)
 have ht214 : ¬ ((m.states.length : Int) > 210) := of_decide_eq_false hc209
 refine zB 1 [(24, .pointer (some ⟨b2, 0, none⟩))] A213 kr kr (fun a215 A215 => ?_)
 refine wplI A215 kr (zJ (d := 25) (v := .agg #[.bool m.disc.neg, .slice ad len cap, .slice ae le ce]) A215 kr (zF (t := 25) (g := true) (vs := [.bool m.disc.neg, .slice ad len cap, .slice ae le ce]) (ad := ⟨b2, 0, none⟩) rfl kr kr ir (j2.cells 0 rfl rfl)) ?_)
 intro a216 A216
 refine wplI A216 kr (zN (d := 26) (fun b => .slice (some ⟨b, 0, none⟩) 1 1) (.cells #[.bool m.disc.neg, .slice ad len cap, .slice ae le ce] 25 (0, 0)) A216 kr j2 kw ?_)
 intro b217 w217 Y217 j217 q217 hu217 a218 A218
 obtain ⟨j219, q219, hat219⟩ := St.publish j217 (j217.own_ge 0 rfl)
 have hR219 : Rats (rd w217 (show_ b217 Y217)) (some ⟨b217, 0, none⟩) 1 1 [m.disc] := Rats.one hat219 (h.mono (Le3 q2 q217 q219)) (h2.mono (Le3 q2 q217 q219))
 refine wplI A218 kr (zK (d := 27) (f := 24) (cap := #[]) (vs := #[.slice (some ⟨b217, 0, none⟩) 1 1]) A218 kr j219 rfl kr kr (fun w => Try.call24 _ w) (Long06_c _ _ j219.lt _ _ _ _ hR219) ?_)
 rintro v220 w220 j220 q220 hu220 ⟨bb220, rfl, hbl220⟩ a221 A221
 refine zB 1 [(28, .bool bb220)] A221 kr kr (fun a222 A222 => ?_)
 refine zE ?_
 exact zA (hJ9001 _ _ ⟨_, bb220, A222.as [1, 28] kr kr, j220, (Le3 q217 q219 q220)⟩)
end Go.Proofs.Ytoocgllbbihoaaa

/- For every process and any two lists the law MdpContracts answers true, and each argument reads afterwards as before. Conditions: none. By an AI agent. -/
import Derived.ProofKit
import Derived.Test.YtoocgllbbihoaaaRows
import Derived.Test.YtoocgllbbihoaaaBaseA
import Derived.Test.YtoocgllbbihoaaaBaseB
import Derived.Test.YtoocgllbbihoaaaBaseC
import Derived.Test.YtoocgllbbihoaaaBaseD
import Derived.Test.YtoocgllbbihoaaaBaseE
import Derived.Test.YtoocgllbbihoaaaBaseF
import Derived.Test.YtoocgllbbihoaaaBaseG
import Derived.Test.YtoocgllbbihoaaaBaseH
set_option linter.unusedVariables false
set_option linter.unusedSimpArgs false
set_option linter.unnecessarySimpa false
namespace Go.Proofs.Ytoocgllbbihoaaa
open Go Go.Gv Go.RowKit
set_option maxRecDepth 100000
set_option maxHeartbeats 1000000
theorem dist1_c (w : World) (X : Hid) (hX : ∀ k o, X k o → k < w.heap.size) (a : Raw) (ad₁ : Option Addr) (len₁ cap₁ : Nat) (h₁ : Limbs (rd w X) ad₁ len₁ cap₁ a.ln) (ae₁ : Option Addr) (le₁ ce₁ : Nat) (k₁ : Limbs (rd w X) ae₁ le₁ ce₁ a.ld) (b : Raw) (ad₂ : Option Addr) (len₂ cap₂ : Nat) (h₂ : Limbs (rd w X) ad₂ len₂ cap₂ b.ln) (ae₂ : Option Addr) (le₂ ce₂ : Nat) (k₂ : Limbs (rd w X) ae₂ le₂ ce₂ b.ld) : Calls Try.prog 45 #[.agg #[.bool a.neg, .slice ad₁ len₁ cap₁, .slice ae₁ le₁ ce₁], .agg #[.bool b.neg, .slice ad₂ len₂ cap₂, .slice ae₂ le₂ ce₂]] w (Ret E0 w fun _ v => v = .bool (greater a b)) := by
 refine zZ (n := 8) (vs := [.agg #[.bool a.neg, .slice ad₁ len₁ cap₁, .slice ae₁ le₁ ce₁], .agg #[.bool b.neg, .slice ad₂ len₂ cap₂, .slice ae₂ le₂ ce₂]]) Try.func45 rfl rfl rfl kr (fun a0 A0 => ?_)
 have A0 : Fr 8 a0 [(0, .agg #[.bool a.neg, .slice ad₁ len₁ cap₁, .slice ae₁ le₁ ce₁]), (1, .agg #[.bool b.neg, .slice ad₂ len₂ cap₂, .slice ae₂ le₂ ce₂])] := A0
 have j0 : St E0 w X w X [] := St.start hX
 refine zD (fun K1 C1 => ?_)
 refine zC ?_
 refine wplI A0 kr (zN (d := 2) (fun b => .pointer (some ⟨b, 0, none⟩)) (.cells #[.bool a.neg, .slice ad₁ len₁ cap₁, .slice ae₁ le₁ ce₁] 25 (0, 0)) A0 kr j0 kw ?_)
 intro b2 w2 Y2 j2 q2 hu2 a3 A3
 refine wplI A3 kr (zN (d := 3) (fun b => .pointer (some ⟨b, 0, none⟩)) (.cells #[.bool b.neg, .slice ad₂ len₂ cap₂, .slice ae₂ le₂ ce₂] 25 (0, 0)) A3 kr j2 kw ?_)
 intro b4 w4 Y4 j4 q4 hu4 a5 A5
 refine zB 1 [(4, .bool false)] A5 kr kr (fun a6 A6 => ?_)
 refine zE ?_
 refine zA (C1 _ _ ?_)
 refine zD (fun K7 C7 => ?_)
 refine zC ?_
 refine wplI A6 kr (zJ (d := 5) (v := .agg #[.bool b.neg, .slice ad₂ len₂ cap₂, .slice ae₂ le₂ ce₂]) A6 kr (zF (t := 25) (g := true) (vs := [.bool b.neg, .slice ad₂ len₂ cap₂, .slice ae₂ le₂ ce₂]) (ad := ⟨b4, 0, none⟩) rfl kr kr ir (j4.cells 0 rfl rfl)) ?_)
 intro a8 A8
 refine wplI A8 kr (zJ (d := 6) (v := .agg #[.bool a.neg, .slice ad₁ len₁ cap₁, .slice ae₁ le₁ ce₁]) A8 kr (zF (t := 25) (g := true) (vs := [.bool a.neg, .slice ad₁ len₁ cap₁, .slice ae₁ le₁ ce₁]) (ad := ⟨b2, 0, none⟩) rfl kr kr ir (j4.cells 1 rfl rfl)) ?_)
 intro a9 A9
 refine wplI A9 kr (zK (d := 7) (f := 30) (cap := #[]) (vs := #[.agg #[.bool b.neg, .slice ad₂ len₂ cap₂, .slice ae₂ le₂ ce₂], .agg #[.bool a.neg, .slice ad₁ len₁ cap₁, .slice ae₁ le₁ ce₁]]) A9 kr j4 rfl kr kr (fun w => Try.call30 _ w) (smaller_c _ _ j4.lt b _ _ _ (h₂.mono (Le2 q2 q4)) _ _ _ (k₂.mono (Le2 q2 q4)) a _ _ _ (h₁.mono (Le2 q2 q4)) _ _ _ (k₁.mono (Le2 q2 q4))) ?_)
 rintro v10 w10 j10 q10 hu10 rfl a11 A11
 refine zB 1 [(4, .bool (decide (cmpR b a < 0)))] A11 kr kr (fun a12 A12 => ?_)
 refine zE ?_
 refine zA (C7 _ _ ?_)
 refine zQ ?_
 refine zR (v := .bool (decide (cmpR b a < 0))) (rs := [.tmp 4]) A12 kr (Res.tmp kr Res.nil) kr ?_
 exact ⟨j10.upd, _, rfl, rfl⟩
theorem greater_less : LessC 45 greater := dist1_c
theorem distance_c (w : World) (X : Hid) (hX : ∀ k o, X k o → k < w.heap.size) (ad : Option Addr) (len cap : Nat) (xs : List Raw) (h : Rats (rd w X) ad len cap xs) (ad2 : Option Addr) (len2 cap2 : Nat) (ys : List Raw) (h2 : Rats (rd w X) ad2 len2 cap2 ys) (hm : len ≤ 1073741824) (hm2 : len2 ≤ 1073741824) : Calls Try.prog 23 #[.slice ad len cap, .slice ad2 len2 cap2] w (Ret E0 w fun w' v => ∃ u, v = .tuple #[u, .int .i64 (distV xs ys).2] ∧ RawX X w' u (distV xs ys).1) := by
 obtain rfl := h.hlen
 have hcap := h.hcap
 have hbig := h.hbig
 obtain rfl := h2.hlen
 have hcap2 := h2.hcap
 have hbig2 := h2.hbig
 refine zZ (n := 50) (vs := [.slice ad xs.length cap, .slice ad2 ys.length cap2]) Try.func23 rfl rfl rfl kr (fun a0 A0 => ?_)
 have A0 : Fr 50 a0 [(0, .slice ad xs.length cap), (1, .slice ad2 ys.length cap2)] := A0
 have j0 : St E0 w X w X [] := St.start hX
 refine zD (fun K1 C1 => ?_)
 refine zC ?_
 refine wplI A0 kr (zN (d := 4) (fun b => .pointer (some ⟨b, 0, none⟩)) (.cells #[.bool false, .slice none 0 0, .slice none 0 0] 25 (0, 0)) A0 kr j0 kw ?_)
 intro b2 w2 Y2 j2 q2 hu2 a3 A3
 refine zB 1 [(5, .int .i64 0)] A3 kr kr (fun a4 A4 => ?_)
 refine zE ?_
 refine zA (C1 _ _ ?_)
 refine zD (fun K5 C5 => ?_)
 refine zD (fun K6 C6 => ?_)
 refine zC ?_
 refine zB 5 [(14, .bool ((xs.length : Int) != (ys.length : Int))), (13, .int .i64 (ys.length : Int)), (12, .slice ad2 ys.length cap2), (11, .int .i64 (xs.length : Int)), (10, .slice ad xs.length cap)] A4 kr kr (fun a7 A7 => ?_)
 refine zE ?_
 refine zA (C6 _ _ ?_)
 refine zS ((xs.length : Int) != (ys.length : Int)) A7 kr kr (fun hc8 => ?_) (fun hc8 => ?_)
 ·
  have A9 := A7.set 14 (v' := .bool true) kr rfl (zG hc8)
  have ht10 : (xs.length : Int) ≠ (ys.length : Int) := by simpa using hc8
  have hend : distV xs ys = (.zero, 16) := if_neg (by omega)
  refine zD (fun K11 C11 => ?_)
  refine zC ?_
  refine zB 1 [(15, .agg #[.bool false, .slice none 0 0, .slice none 0 0])] A9 kr kr (fun a12 A12 => ?_)
  refine wplI A12 kr (zO (t := 25) (b := b2) (off := 0) (c' := #[.bool false, .slice none 0 0, .slice none 0 0]) (g := true) (m := 3) 0 _ A12 kr j2 rfl kr rfl kr kr kr rfl (by first | decide | (simp; done)) kr rfl ?_)
  intro w13 j13 q13
  refine zB 1 [(5, .int .i64 16)] A12 kr kr (fun a14 A14 => ?_)
  refine zE ?_
  refine zA (C11 _ _ ?_)
  refine zQ ?_
  refine zL ?_
  refine zR (v := .tuple #[.agg #[.bool false, .slice none 0 0, .slice none 0 0], .int .i64 16]) (rs := [.cell 4 25, .tmp 5]) A14 kr (Res.cell (ad := ⟨b2, 0, none⟩) (cs := [.bool false, .slice none 0 0, .slice none 0 0]) (g := true) kr kr kr ir (j13.cells 0 rfl rfl) (Res.tmp kr Res.nil)) kr ?_
  exact ⟨j13.upd, _, rfl, _, by rw [hend], by rw [hend]; exact raw_zero⟩
 have A15 := A7.set 14 (v' := .bool false) kr rfl (zG hc8)
 have ht16 : (xs.length : Int) = (ys.length : Int) := by simpa using hc8
 have hxy0 : xs.length = ys.length := by omega
 have hdv : distV xs ys = _ := if_pos hxy0
 refine i_skip ?_
 refine zA (C5 _ _ ?_)
 refine zD (fun K17 C17 => ?_)
 refine zC ?_
 refine zB 1 [(16, .agg #[.bool false, .slice none 0 0, .slice none 0 0])] A15 kr kr (fun a18 A18 => ?_)
 refine wplI A18 kr (zN (d := 17) (fun b => .slice (some ⟨b, 0, none⟩) 1 1) (.cells #[.bool false, .slice none 0 0, .slice none 0 0] 25 (0, 0)) A18 kr j2 kw ?_)
 intro b19 w19 Y19 j19 q19 hu19 a20 A20
 refine zB 1 [(6, .slice (some ⟨b19, 0, none⟩) 1 1)] A20 kr kr (fun a21 A21 => ?_)
 refine zE ?_
 refine zA (C17 _ _ ?_)
 refine zD (fun K22 C22 => ?_)
 refine zD (fun K23 C23 => ?_)
 refine zC ?_
 refine zB 3 [(20, .int .i64 0), (19, .int .i64 (xs.length : Int)), (18, .slice ad xs.length cap)] A21 kr kr (fun a24 A24 => ?_)
 refine zE ?_
 refine zA (C23 _ _ ?_)
 refine zV ?_
 refine qC (fun (k : Nat) ac w1 => ∃ (Y1 : Hid) (gr : Nat) (m1 : Nat) (capr : Nat) (cur1 : Array Value) (es : List RE), Fr 50 ac [(0, .slice ad xs.length cap), (1, .slice ad2 ys.length cap2), (4, .pointer (some ⟨b2, 0, none⟩)), (19, .int .i64 (xs.length : Int)), (6, .slice (some ⟨gr, 0, none⟩) m1 capr), (20, .int .i64 (k : Int))] ∧ St E0 w X w1 Y1 [(gr, .cells cur1 25 (0, 0)), (b2, .cells #[.bool false, .slice none 0 0, .slice none 0 0] 25 (0, 0))] ∧ Le (rd w19 Y19) (rd w1 Y1) ∧ (Row m1 capr 3 cur1 (flat es)) ∧ (m1 = es.length) ∧ (∀ e ∈ es, e.ok (rd w1 Y1)) ∧ (distGo (es.map (·.x)) (xs.drop k) (ys.drop k) = distGo [.zero] xs ys) ∧ (k ≤ xs.length) ∧ (m1 = k + 1)) (fun (k : Nat) => xs.length - k) 0 ?_ ?_
 ·
  refine ⟨_, b19, 1, 1, #[.bool false, .slice none 0 0, .slice none 0 0], [RE.mk .zero none 0 0 none 0 0], A24.as [0, 1, 4, 19, 6, 20] kr kr, j19, Le.refl _, ⟨Nat.le_refl _, by simp [maxLen], rfl, rfl⟩, rfl, fun e he => by obtain rfl := List.mem_singleton.1 he; exact ⟨Limbs.nil none (Nat.zero_le _), Limbs.nil none (Nat.zero_le _)⟩, rfl, Nat.zero_le _, rfl⟩
 rintro k a25 w25 ⟨Y25, gr, m1, capr, cur1, es, A25, j25, q25, hp25_0, hp25_1, hp25_2, hp25_3, hp25_4, hp25_5⟩
 have hrow1 := hp25_0
 have hm1 := hp25_1
 have hok := hp25_2
 have hgo := hp25_3
 have hk := hp25_4
 have hmk := hp25_5
 refine zD (fun K26 C26 => ?_)
 refine zC ?_
 refine zB 1 [(21, .bool (decide ((k : Int) < (xs.length : Int))))] A25 kr kr (fun a27 A27 => ?_)
 refine zE ?_
 refine zA (C26 _ _ ?_)
 refine zD (fun K28 C28 => ?_)
 refine zS (decide ((k : Int) < (xs.length : Int))) A27 kr kr (fun hc29 => ?_) (fun hc29 => ?_)
 ·
  have A30 := A27.set 21 (v' := .bool true) kr rfl (zG hc29)
  have ht31 : (k : Int) < (xs.length : Int) := of_decide_eq_true hc29
  obtain ⟨bx, offx, xx, anx, lnx, cnx, amx, lmx, cmx, rfl, hxx, hAx, hLx, hMx⟩ := h.cell (k := k) (by omega)
  obtain ⟨bz, offz, xz, anz, lnz, cnz, amz, lmz, cmz, rfl, hxz, hAz, hLz, hMz⟩ := h2.cell (k := k) (by omega)
  refine i_skip ?_
  refine zA (C28 _ _ ?_)
  refine zD (fun K32 C32 => ?_)
  refine zV ?_
  refine zD (fun K33 C33 => ?_)
  refine zC ?_
  refine zB 2 [(7, .int .i64 (k : Int)), (22, .int .i64 (k : Int))] A30 kr kr (fun a34 A34 => ?_)
  refine zE ?_
  refine zA (C33 _ _ ?_)
  refine zD (fun K35 C35 => ?_)
  have hJ9001 : ∀ a9001 w9001, (∃ (Y9001 : Hid) (b50 : Nat) (ad45 : Option Addr) (len45 : Nat) (cap45 : Nat) (ae45 : Option Addr) (le45 : Nat) (ce45 : Nat), Fr 50 a9001 [(0, .slice (some ⟨bx, offx, none⟩) xs.length cap), (1, .slice (some ⟨bz, offz, none⟩) ys.length cap2), (4, .pointer (some ⟨b2, 0, none⟩)), (6, .slice (some ⟨gr, 0, none⟩) m1 capr), (8, .pointer (some ⟨b50, 0, none⟩)), (9, .int .i64 (opE xx xz (xx.rat - xz.rat))), (19, .int .i64 (xs.length : Int)), (20, .int .i64 (k : Int))] ∧ St E0 w X w9001 Y9001 [(b50, .cells #[.bool ((opR xx xz (xx.rat - xz.rat)).neg), .slice ad45 len45 cap45, .slice ae45 le45 ce45] 25 (0, 0)), (gr, .cells cur1 25 (0, 0)), (b2, .cells #[.bool false, .slice none 0 0, .slice none 0 0] 25 (0, 0))] ∧ Le (rd w25 Y25) (rd w9001 Y9001) ∧ (Limbs (rd w9001 Y9001) ad45 len45 cap45 ((opR xx xz (xx.rat - xz.rat)).ln)) ∧ (Limbs (rd w9001 Y9001) ae45 le45 ce45 ((opR xx xz (xx.rat - xz.rat)).ld))) → K35 a9001 w9001 := by
   rintro a9001 w9001 ⟨Y9001, b50, ad45, len45, cap45, ae45, le45, ce45, A9001, j9001, q9001, hN45, hD45⟩
   refine C35 _ _ ?_
   refine zD (fun K54 C54 => ?_)
   refine zD (fun K55 C55 => ?_)
   refine zC ?_
   refine zB 2 [(36, .bool ((opE xx xz (xx.rat - xz.rat)) != 0)), (35, .int .i64 (opE xx xz (xx.rat - xz.rat)))] A9001 kr kr (fun a56 A56 => ?_)
   refine zE ?_
   refine zA (C55 _ _ ?_)
   refine zS ((opE xx xz (xx.rat - xz.rat)) != 0) A56 kr kr (fun hc57 => ?_) (fun hc57 => ?_)
   ·
    have A58 := A56.set 36 (v' := .bool true) kr rfl (zG hc57)
    have ht59 : (opE xx xz (xx.rat - xz.rat)) ≠ 0 := by simpa using hc57
    have hfin := hgo.symm.trans (distGo_stop hxx hxz ht59)
    have hend : distV xs ys = (.zero, opE xx xz (xx.rat - xz.rat)) := by rw [hdv, hfin]; exact if_neg ht59
    refine zD (fun K60 C60 => ?_)
    refine zC ?_
    refine zB 2 [(38, .int .i64 (opE xx xz (xx.rat - xz.rat))), (37, .agg #[.bool false, .slice none 0 0, .slice none 0 0])] A58 kr kr (fun a61 A61 => ?_)
    refine wplI A61 kr (zO (t := 25) (b := b2) (off := 0) (c' := #[.bool false, .slice none 0 0, .slice none 0 0]) (g := true) (m := 3) 2 _ A61 kr j9001 rfl kr rfl kr kr kr rfl (by first | decide | (simp; done)) kr rfl ?_)
    intro w62 j62 q62
    refine zB 1 [(5, .int .i64 (opE xx xz (xx.rat - xz.rat)))] A61 kr kr (fun a63 A63 => ?_)
    refine zE ?_
    refine zA (C60 _ _ ?_)
    refine zQ ?_
    refine zL ?_
    refine zU ?_
    refine zL ?_
    refine zL ?_
    refine zU ?_
    refine zL ?_
    refine zR (v := .tuple #[.agg #[.bool false, .slice none 0 0, .slice none 0 0], .int .i64 (opE xx xz (xx.rat - xz.rat))]) (rs := [.cell 4 25, .tmp 5]) A63 kr (Res.cell (ad := ⟨b2, 0, none⟩) (cs := [.bool false, .slice none 0 0, .slice none 0 0]) (g := true) kr kr kr ir (j62.cells 2 rfl rfl) (Res.tmp kr Res.nil)) kr ?_
    exact ⟨j62.upd, _, rfl, _, by rw [hend], by rw [hend]; exact raw_zero⟩
   have A64 := A56.set 36 (v' := .bool false) kr rfl (zG hc57)
   have ht65 : (opE xx xz (xx.rat - xz.rat)) = 0 := by simpa using hc57
   refine i_skip ?_
   refine zA (C54 _ _ ?_)
   refine zD (fun K66 C66 => ?_)
   refine zC ?_
   refine zB 1 [(39, .pointer (some ⟨b50, 0, none⟩))] A64 kr kr (fun a67 A67 => ?_)
   refine wplI A67 kr (zO (t := 4) (b := b50) (off := 0) (c' := #[.bool false, .slice ad45 len45 cap45, .slice ae45 le45 ce45]) (g := false) (m := 1) 0 _ A67 kr j9001 rfl kr rfl kr kr kr rfl (by first | decide | (simp; done)) kr rfl ?_)
   intro w68 j68 q68
   refine zE ?_
   refine zA (C66 _ _ ?_)
   refine zC ?_
   refine zB 1 [(40, .slice (some ⟨gr, 0, none⟩) m1 capr)] A67 kr kr (fun a69 A69 => ?_)
   refine wplI A69 kr (zJ (d := 41) (v := .agg #[.bool false, .slice ad45 len45 cap45, .slice ae45 le45 ce45]) A69 kr (zF (t := 25) (g := true) (vs := [.bool false, .slice ad45 len45 cap45, .slice ae45 le45 ce45]) (ad := ⟨b50, 0, none⟩) rfl kr kr ir (j68.cells 0 rfl rfl)) ?_)
   intro a70 A70
   refine wplI A70 kr (zN (d := 42) (fun b => .slice (some ⟨b, 0, none⟩) 1 1) (.cells #[.bool false, .slice ad45 len45 cap45, .slice ae45 le45 ce45] 25 (0, 0)) A70 kr j68 kw ?_)
   intro b71 w71 Y71 j71 q71 hu71 a72 A72
   refine wplI A72 kr (op_append (d := 43) (t := 29) (e := 25) (size := 3) (g := gr) (nn := m1) (cap := capr) (m := 1) (c := 1) (ad := ⟨b71, 0, none⟩) (z := .agg #[.bool false, .slice none 0 0, .slice none 0 0]) (cur := cur1) (xs := flat es) (news := [.bool false, .slice ad45 len45 cap45, .slice ae45 le45 ce45]) (i0 := Try.t25) 2 A72 kr j71 rfl kr kr kr kr kr kr kr rfl hrow1 (j71.cells 0 rfl rfl) kr kr (by simp only [maxLen]; omega) (by show (_ + 1) * 56 ≤ _; omega) ?_)
   intro g73 cap73 cur73 w73 Y73 hrow73 j73 q73 a74 A74
   have hrw73 : Row (m1 + 1) cap73 3 cur73 (flat (es ++ [(RE.mk (distR xx xz) ad45 len45 cap45 ae45 le45 ce45)])) := by rw [flat_snoc]; exact hrow73
   refine zB 1 [(6, .slice (some ⟨g73, 0, none⟩) (m1 + 1) cap73)] A74 kr kr (fun a75 A75 => ?_)
   refine zE ?_
   refine zW ?_
   refine zA (C32 _ _ ?_)
   refine zC ?_
   refine zB 1 [(44, .int .i64 (IntKind.i64.wrap ((k : Int) + 1)))] A75 kr kr (fun a76 A76 => ?_)
   have A77 := A76.set 44 (v' := .int .i64 ((k : Int) + 1)) kr rfl (vint (wi64 (by omega) (by omega)))
   refine zB 1 [(20, .int .i64 ((k : Int) + 1))] A77 kr kr (fun a78 A78 => ?_)
   refine zE ?_
   refine zA ?_
   refine ⟨k + 1, ⟨_, g73, (m1 + 1), cap73, cur73, (es ++ [(RE.mk (distR xx xz) ad45 len45 cap45 ae45 le45 ce45)]), A78.as [0, 1, 4, 19, 6, 20] kr kr, j73.tail.tail, (Le5 q25 q9001 q68 q71 q73), hrw73, by rw [List.length_append, hm1]; rfl, fun e he => by rcases List.mem_append.1 he with h1 | h1; exact (hok e h1).mono (Le4 q9001 q68 q71 q73); obtain rfl := List.mem_singleton.1 h1; exact ⟨(hN45.mono (Le3 q68 q71 q73)), (hD45.mono (Le3 q68 q71 q73))⟩, by rw [List.map_append]; exact (distGo_step hxx hxz (by simpa using ht65)).symm.trans hgo, by omega, by omega⟩, ?_⟩
   first | omega | (simp; omega)
  refine qD (N := 15) (Held [(⟨bx, offx + k * 3, none⟩, [.bool xx.neg, .slice anx lnx cnx, .slice amx lmx cmx]), (⟨bz, offz + k * 3, none⟩, [.bool xz.neg, .slice anz lnz cnz, .slice amz lmz cmz])]) [13] kr kr kr j25 ?_
  intro w36 j36 q36 hu36
  refine zX (Held.cons ((hAx.mono (Le4 q2 q19 q25 q36))).cells (Held.cons ((hAz.mono (Le4 q2 q19 q25 q36))).cells (Held.nil _))) (fun hH36 => ?_)
  refine zH (d := 24) (v := .slice (some ⟨bx, offx, none⟩) xs.length cap) 0 A34 rfl kr kr kw (fun _ => hH36) ?_
  intro a37 A37
  refine zH (d := 25) (v := .int .i64 (k : Int)) 1 A37 rfl kr kr kw (fun _ => hH36) ?_
  intro a38 A38
  refine zH (d := 26) (v := .pointer (some ⟨bx, offx + k * 3, none⟩)) 2 A38 rfl kr kr (fun w => zP (t := 29) (e := 25) (b := bx) (off := offx) (len := xs.length) (cap := cap) (kd := .i64) (i := (k : Int)) (g := true) (m := 3) (off' := offx + k * 3) rfl kr kr kr kr (by omega) (by omega) (by first | rfl | omega | (simp; done) | (simp; omega)) w) (fun _ => hH36) ?_
  intro a39 A39
  refine zY (d := 27) (v := .agg #[.bool xx.neg, .slice anx lnx cnx, .slice amx lmx cmx]) 3 A39 rfl kr kr kr (fun w hw => zF (t := 25) (g := true) (vs := [.bool xx.neg, .slice anx lnx cnx, .slice amx lmx cmx]) (ad := ⟨bx, offx + k * 3, none⟩) rfl kr kr ir (hw.get 0 kr)) hH36 ?_
  intro a40 A40
  refine zH (d := 28) (v := .slice (some ⟨bz, offz, none⟩) ys.length cap2) 4 A40 rfl kr kr kw (fun _ => hH36) ?_
  intro a41 A41
  refine zH (d := 29) (v := .int .i64 (k : Int)) 5 A41 rfl kr kr kw (fun _ => hH36) ?_
  intro a42 A42
  refine zH (d := 30) (v := .pointer (some ⟨bz, offz + k * 3, none⟩)) 6 A42 rfl kr kr (fun w => zP (t := 29) (e := 25) (b := bz) (off := offz) (len := ys.length) (cap := cap2) (kd := .i64) (i := (k : Int)) (g := true) (m := 3) (off' := offz + k * 3) rfl kr kr kr kr (by omega) (by omega) (by first | rfl | omega | (simp; done) | (simp; omega)) w) (fun _ => hH36) ?_
  intro a43 A43
  refine zY (d := 31) (v := .agg #[.bool xz.neg, .slice anz lnz cnz, .slice amz lmz cmz]) 7 A43 rfl kr kr kr (fun w hw => zF (t := 25) (g := true) (vs := [.bool xz.neg, .slice anz lnz cnz, .slice amz lmz cmz]) (ad := ⟨bz, offz + k * 3, none⟩) rfl kr kr ir (hw.get 1 kr)) hH36 ?_
  intro a44 A44
  refine zM [8, 12] kr rfl ?_
  refine ForkT.cons (i := 8) A44 rfl kr ?_ ?_
  ·
   refine zK (d := 32) (f := 44) (cap := #[]) (vs := #[.agg #[.bool xx.neg, .slice anx lnx cnx, .slice amx lmx cmx], .agg #[.bool xz.neg, .slice anz lnz cnz, .slice amz lmz cmz]]) A44 kr j36 rfl kr kr (fun w => Try.call44 _ w) (rSub_c _ _ j36.lt xx _ _ _ (hLx.mono (Le4 q2 q19 q25 q36)) _ _ _ (hMx.mono (Le4 q2 q19 q25 q36)) xz _ _ _ (hLz.mono (Le4 q2 q19 q25 q36)) _ _ _ (hMz.mono (Le4 q2 q19 q25 q36))) ?_
   rintro v45 w45 j45 q45 hu45 ⟨u45, rfl, ⟨ad45, len45, cap45, ae45, le45, ce45, rfl, hN45, hD45⟩⟩ a46 A46
   refine zI (hH36.up hu45) (fun hH45 => ?_)
   refine zH (d := 23) (v := .tuple #[.agg #[.bool ((opR xx xz (xx.rat - xz.rat)).neg), .slice ad45 len45 cap45, .slice ae45 le45 ce45], .int .i64 (opE xx xz (xx.rat - xz.rat))]) 9 A46 rfl kr kr kw (fun _ => hH45) ?_
   intro a47 A47
   refine zH (d := 33) (v := .agg #[.bool ((opR xx xz (xx.rat - xz.rat)).neg), .slice ad45 len45 cap45, .slice ae45 le45 ce45]) 10 A47 rfl kr kr kw (fun _ => hH45) ?_
   intro a48 A48
   refine zH (d := 34) (v := .int .i64 (opE xx xz (xx.rat - xz.rat))) 11 A48 rfl kr kr kw (fun _ => hH45) ?_
   intro a49 A49
   refine zM [12] kr rfl ?_
   refine ForkT.cons (i := 12) A49 rfl kr (zN (d := 8) (fun b => .pointer (some ⟨b, 0, none⟩)) (.cells #[.bool false, .slice none 0 0, .slice none 0 0] 25 (0, 0)) A49 kr j45 kw ?_) ForkT.nil
   intro b50 w50 Y50 j50 q50 hu50 a51 A51
   refine zI (hH45.up hu50) (fun hH50 => ?_)
   refine zM [13] kr rfl ?_
   refine ForkT.cons (i := 13) A51 rfl kr (zO (t := 25) (b := b50) (off := 0) (c' := #[.bool ((opR xx xz (xx.rat - xz.rat)).neg), .slice ad45 len45 cap45, .slice ae45 le45 ce45]) (g := true) (m := 3) 0 _ A51 kr j50 rfl kr rfl kr kr kr rfl (by first | decide | (simp; done)) kr rfl ?_) ForkT.nil
   intro w52 j52 q52
   refine ⟨begun_tt kr, ?_⟩
   refine zH (d := 9) (v := .int .i64 (opE xx xz (xx.rat - xz.rat))) 14 A51 rfl kr kr kw (begun_tt kr) ?_
   intro a53 A53
   refine qB kr (nrm ?_)
   exact zA (hJ9001 _ _ ⟨_, b50, ad45, len45, cap45, ae45, le45, ce45, A53.as [0, 1, 4, 6, 8, 9, 19, 20] kr kr, j52, (Le4 q36 q45 q50 q52), (hN45.mono (Le2 q50 q52)), (hD45.mono (Le2 q50 q52))⟩)
  refine ForkT.cons (i := 12) A44 rfl kr (zN (d := 8) (fun b => .pointer (some ⟨b, 0, none⟩)) (.cells #[.bool false, .slice none 0 0, .slice none 0 0] 25 (0, 0)) A44 kr j36 kw ?_) ForkT.nil
  intro b54 w54 Y54 j54 q54 hu54 a55 A55
  refine zI (hH36.up hu54) (fun hH54 => ?_)
  refine zM [8] kr rfl ?_
  refine ForkT.cons (i := 8) A55 rfl kr (zK (d := 32) (f := 44) (cap := #[]) (vs := #[.agg #[.bool xx.neg, .slice anx lnx cnx, .slice amx lmx cmx], .agg #[.bool xz.neg, .slice anz lnz cnz, .slice amz lmz cmz]]) A55 kr j54 rfl kr kr (fun w => Try.call44 _ w) (rSub_c _ _ j54.lt xx _ _ _ (hLx.mono (Le5 q2 q19 q25 q36 q54)) _ _ _ (hMx.mono (Le5 q2 q19 q25 q36 q54)) xz _ _ _ (hLz.mono (Le5 q2 q19 q25 q36 q54)) _ _ _ (hMz.mono (Le5 q2 q19 q25 q36 q54))) ?_) ForkT.nil
  rintro v56 w56 j56 q56 hu56 ⟨u56, rfl, ⟨ad56, len56, cap56, ae56, le56, ce56, rfl, hN56, hD56⟩⟩ a57 A57
  refine zI (hH54.up hu56) (fun hH56 => ?_)
  refine zH (d := 23) (v := .tuple #[.agg #[.bool ((opR xx xz (xx.rat - xz.rat)).neg), .slice ad56 len56 cap56, .slice ae56 le56 ce56], .int .i64 (opE xx xz (xx.rat - xz.rat))]) 9 A57 rfl kr kr kw (fun _ => hH56) ?_
  intro a58 A58
  refine zH (d := 33) (v := .agg #[.bool ((opR xx xz (xx.rat - xz.rat)).neg), .slice ad56 len56 cap56, .slice ae56 le56 ce56]) 10 A58 rfl kr kr kw (fun _ => hH56) ?_
  intro a59 A59
  refine zH (d := 34) (v := .int .i64 (opE xx xz (xx.rat - xz.rat))) 11 A59 rfl kr kr kw (fun _ => hH56) ?_
  intro a60 A60
  refine zM [13] kr rfl ?_
  refine ForkT.cons (i := 13) A60 rfl kr (zO (t := 25) (b := b54) (off := 0) (c' := #[.bool ((opR xx xz (xx.rat - xz.rat)).neg), .slice ad56 len56 cap56, .slice ae56 le56 ce56]) (g := true) (m := 3) 0 _ A60 kr j56 rfl kr rfl kr kr kr rfl (by first | decide | (simp; done)) kr rfl ?_) ForkT.nil
  intro w61 j61 q61
  refine ⟨begun_tt kr, ?_⟩
  refine zH (d := 9) (v := .int .i64 (opE xx xz (xx.rat - xz.rat))) 14 A60 rfl kr kr kw (begun_tt kr) ?_
  intro a62 A62
  refine qB kr (nrm ?_)
  exact zA (hJ9001 _ _ ⟨_, b54, ad56, len56, cap56, ae56, le56, ce56, A62.as [0, 1, 4, 6, 8, 9, 19, 20] kr kr, j61, (Le4 q36 q54 q56 q61), (hN56.mono q61), (hD56.mono q61)⟩)
 have A63 := A27.set 21 (v' := .bool false) kr rfl (zG hc29)
 have ht64 : ¬ ((k : Int) < (xs.length : Int)) := of_decide_eq_false hc29
 have hfin := hgo.symm.trans (distGo_end (by omega))
 refine i_exit ?_
 refine zT ?_
 refine zT ?_
 refine qA ?_
 refine zA (C22 _ _ ?_)
 refine zD (fun K65 C65 => ?_)
 refine zC ?_
 refine zB 2 [(46, .slice (some ⟨gr, 0, none⟩) m1 capr), (45, .slice (some ⟨gr, 0, none⟩) m1 capr)] A63 kr kr (fun a66 A66 => ?_)
 obtain ⟨j67, q67, hat67⟩ := St.publish j25 (j25.own_ge 0 rfl)
 have hR67 := Row.rats hrow1 hm1 hat67 (fun e he => (hok e he).mono q67)
 have hlt0 : leastV greater (es.map (·.x)) < m1 := by have := leastV_lt (less := greater) (xs := (es.map (·.x))) (by rw [List.length_map]; omega); rw [List.length_map] at this; omega
 obtain ⟨xk, ank, lnk, cnk, amk, lmk, cmk, hxk, hAk, hLk, hMk⟩ := hR67.at hlt0
 have hAk0 : At (rd w25 (show_ gr Y25)) ⟨gr, leastV greater (es.map (·.x)) * 3, none⟩ [.bool xk.neg, .slice ank lnk cnk, .slice amk lmk cmk] := by simpa using hAk
 refine wplI A66 kr (zK (d := 47) (f := 29) (cap := #[]) (vs := #[.slice (some ⟨gr, 0, none⟩) m1 capr, .func (.func 45) #[] #[]]) A66 kr j67 rfl kr kr (fun w => Try.call29 _ w) (least_c 45 greater (fun args w => Try.call45 args w) greater_less _ _ j67.lt _ _ _ (es.map (·.x)) hR67 (by omega)) ?_)
 rintro v68 w68 j68 q68 hu68 rfl a69 A69
 refine wplI A69 kr (zJ (d := 48) (v := .pointer (some ⟨gr, leastV greater (es.map (·.x)) * 3, none⟩)) A69 kr (zP (t := 29) (e := 25) (b := gr) (off := 0) (len := m1) (cap := capr) (kd := .i64) (i := ((leastV greater (es.map (·.x)) : Nat) : Int)) (g := true) (m := 3) (off' := leastV greater (es.map (·.x)) * 3) rfl kr kr kr kr (by omega) (by omega) (by first | rfl | omega | (simp; done) | (simp; omega)) _) ?_)
 intro a70 A70
 refine wplI A70 kr (zJ (d := 49) (v := .agg #[.bool xk.neg, .slice ank lnk cnk, .slice amk lmk cmk]) A70 kr (zF (t := 25) (g := true) (vs := [.bool xk.neg, .slice ank lnk cnk, .slice amk lmk cmk]) (ad := ⟨gr, leastV greater (es.map (·.x)) * 3, none⟩) rfl kr kr ir ((hAk0.mono q68)).cells) ?_)
 intro a71 A71
 refine wplI A71 kr (zO (t := 25) (b := b2) (off := 0) (c' := #[.bool xk.neg, .slice ank lnk cnk, .slice amk lmk cmk]) (g := true) (m := 3) 0 _ A71 kr j68 rfl kr rfl kr kr kr rfl (by first | decide | (simp; done)) kr rfl ?_)
 intro w72 j72 q72
 refine zB 1 [(5, .int .i64 0)] A71 kr kr (fun a73 A73 => ?_)
 refine zE ?_
 refine zA (C65 _ _ ?_)
 refine zQ ?_
 refine zR (v := .tuple #[.agg #[.bool xk.neg, .slice ank lnk cnk, .slice amk lmk cmk], .int .i64 0]) (rs := [.cell 4 25, .tmp 5]) A73 kr (Res.cell (ad := ⟨b2, 0, none⟩) (cs := [.bool xk.neg, .slice ank lnk cnk, .slice amk lmk cmk]) (g := true) kr kr kr ir (j72.cells 0 rfl rfl) (Res.tmp kr Res.nil)) kr ?_
 have hend : distV xs ys = (xk, 0) := by rw [hdv, hfin]; refine (if_pos rfl).trans ?_; rw [List.getD_eq_getElem?_getD, hxk]; rfl
 exact ⟨j72.upd, _, rfl, _, by rw [hend], by rw [hend]; exact ⟨_, _, _, _, _, _, rfl, (hLk.mono (Le2 q68 q72)).mono j72.le, (hMk.mono (Le2 q68 q72)).mono j72.le⟩⟩
end Go.Proofs.Ytoocgllbbihoaaa
namespace Go.Proofs.Ytoocgllbbihoaaa
open Go Go.Gv Go.RowKit
set_option maxRecDepth 100000
set_option maxHeartbeats 1000000
theorem Distance_e (w : World) (X : Hid) (hX : ∀ k o, X k o → k < w.heap.size) (ad : Option Addr) (len cap : Nat) (xs : List Raw) (h : Rats (rd w X) ad len cap xs) (ad2 : Option Addr) (len2 cap2 : Nat) (ys : List Raw) (h2 : Rats (rd w X) ad2 len2 cap2 ys) (hm : len ≤ 1073741824) (hm2 : len2 ≤ 1073741824) (r : Raw) (e : Int) (hr : distV xs ys = (r, e)) : Calls Try.prog 23 #[.slice ad len cap, .slice ad2 len2 cap2] w (Ret E0 w fun w' v => ∃ u, v = .tuple #[u, .int .i64 e] ∧ RawX X w' u r) := by have h9 := distance_c w X hX ad len cap xs h ad2 len2 cap2 ys h2 hm hm2; rw [hr] at h9; exact h9
theorem contracts_c (w : World) (X : Hid) (hX : ∀ k o, X k o → k < w.heap.size) (m : Mdp) (ad : Option Addr) (len cap : Nat) (h : Limbs (rd w X) ad len cap m.disc.ln) (ae : Option Addr) (le ce : Nat) (h2 : Limbs (rd w X) ae le ce m.disc.ld) (st : Option Addr) (ls cs : Nat) (hst : StatesR (rd w X) st ls cs m.states) (v : List Raw) (av : Option Addr) (lv cv : Nat) (hv : Rats (rd w X) av lv cv v) (v2 : List Raw) (av2 : Option Addr) (lv2 cv2 : Nat) (hv2 : Rats (rd w X) av2 lv2 cv2 v2) : Calls Try.prog 6 #[.agg #[.bool m.disc.neg, .slice ad len cap, .slice ae le ce, .slice st ls cs], .slice av lv cv, .slice av2 lv2 cv2] w (Ret E0 w fun _ v => v = .bool true) := by
 obtain rfl := hv.hlen
 have hcapv := hv.hcap
 have hbigv := hv.hbig
 obtain rfl := hst.hlen
 have hcaps := hst.hcap
 have hbigs := hst.hbig
 obtain rfl := hv2.hlen
 have hcapv2 := hv2.hcap
 have hbigv2 := hv2.hbig
 obtain ⟨bx, bi, be, hB⟩ : ∃ bx bi be, m.backV v = (bx, bi, be) := ⟨_, _, _, rfl⟩
 obtain ⟨ux, ui, ue, hW⟩ : ∃ bx bi be, m.backV v2 = (bx, bi, be) := ⟨_, _, _, rfl⟩
 obtain ⟨dr, de, hD⟩ : ∃ r e, distV v v2 = (r, e) := ⟨_, _, rfl⟩
 obtain ⟨nr, ne, hN⟩ : ∃ r e, distV bx ux = (r, e) := ⟨_, _, rfl⟩
 have hnb : be ≠ 0 → bx = [] := fun h => by have h9 := (back_err (m := m) (v := v) (by rw [hB]; exact h)).1; rwa [hB] at h9
 have hnu : ue ≠ 0 → ux = [] := fun h => by have h9 := (back_err (m := m) (v := v2) (by rw [hW]; exact h)).1; rwa [hW] at h9
 refine zZ (n := 165) (vs := [.agg #[.bool m.disc.neg, .slice ad len cap, .slice ae le ce, .slice st m.states.length cs], .slice av v.length cv, .slice av2 v2.length cv2]) Try.func6 rfl rfl rfl kr (fun a0 A0 => ?_)
 have A0 : Fr 165 a0 [(0, .agg #[.bool m.disc.neg, .slice ad len cap, .slice ae le ce, .slice st m.states.length cs]), (1, .slice av v.length cv), (2, .slice av2 v2.length cv2)] := A0
 have j0 : St E0 w X w X [] := St.start hX
 refine zD (fun K1 C1 => ?_)
 refine zC ?_
 refine wplI A0 kr (zN (d := 3) (fun b => .pointer (some ⟨b, 0, none⟩)) (.cells #[.bool m.disc.neg, .slice ad len cap, .slice ae le ce, .slice st m.states.length cs] 28 (0, 0)) A0 kr j0 kw ?_)
 intro b2 w2 Y2 j2 q2 hu2 a3 A3
 refine zB 1 [(6, .bool false)] A3 kr kr (fun a4 A4 => ?_)
 refine zE ?_
 refine zA (C1 _ _ ?_)
 refine zD (fun K5 C5 => ?_)
 refine zD (fun K6 C6 => ?_)
 refine zC ?_
 refine wplI A4 kr (zJ (d := 22) (v := .agg #[.bool m.disc.neg, .slice ad len cap, .slice ae le ce, .slice st m.states.length cs]) A4 kr (zF (t := 28) (g := true) (vs := [.bool m.disc.neg, .slice ad len cap, .slice ae le ce, .slice st m.states.length cs]) (ad := ⟨b2, 0, none⟩) rfl kr kr ir (j2.cells 0 rfl rfl)) ?_)
 intro a7 A7
 refine wplI A7 kr (zK (d := 23) (f := 7) (cap := #[]) (vs := #[.agg #[.bool m.disc.neg, .slice ad len cap, .slice ae le ce, .slice st m.states.length cs]]) A7 kr j2 rfl kr kr (fun w => Try.call7 _ w) (Long_c _ _ j2.lt m _ _ _ (h.mono q2) _ _ _ (h2.mono q2) _ _ _ (hst.mono q2)) ?_)
 rintro v8 w8 j8 q8 hu8 ⟨bb8, rfl⟩ a9 A9
 refine zB 1 [(24, .bool bb8)] A9 kr kr (fun a10 A10 => ?_)
 rcases Bool.eq_false_or_eq_true bb8 with hc11 | hc11
 ·
  have A12 := A10.set 24 (v' := .bool true) kr rfl (zG hc11)
  have ht13 : bb8 = true := by simpa using hc11
  refine zB 11 [(35, .bool true), (34, undef), (33, undef), (32, .bool true), (31, .bool true), (30, undef), (29, undef), (28, .bool true), (27, .bool true), (26, undef), (25, undef)] A12 kr kr (fun a14 A14 => ?_)
  refine zE ?_
  refine zA (C6 _ _ ?_)
  refine qG A14 kr kr ?_
  refine zD (fun K15 C15 => ?_)
  refine zC ?_
  refine wplI A14 kr (zK (d := 36) (f := 9) (cap := #[]) (vs := #[]) A14 kr j8 rfl kr kr (fun w => Try.call9 _ w) (awake_c _ _ j8.lt) ?_)
  rintro v16 w16 j16 q16 hu16 rfl a17 A17
  refine zB 1 [(6, .bool true)] A17 kr kr (fun a18 A18 => ?_)
  refine zE ?_
  refine zA (C15 _ _ ?_)
  refine zQ ?_
  refine zL ?_
  refine zR (v := .bool true) (rs := [.tmp 6]) A18 kr (Res.tmp kr Res.nil) kr ?_
  exact ⟨j16.upd, _, rfl, rfl⟩
 have A19 := A10.set 24 (v' := .bool false) kr rfl (zG hc11)
 have ht20 : bb8 = false := by simpa using hc11
 try have hl20_8 := (hbb8 ht20).1
 try have hl200_8 := (hbb8 ht20).2
 refine zB 1 [(25, .slice av v.length cv)] A19 kr kr (fun a21 A21 => ?_)
 refine wplI A21 kr (zK (d := 26) (f := 8) (cap := #[]) (vs := #[.slice av v.length cv]) A21 kr j8 rfl kr kr (fun w => Try.call8 _ w) (LongList_c _ _ j8.lt _ _ _ v (hv.mono (Le2 q2 q8))) ?_)
 rintro v22 w22 j22 q22 hu22 ⟨bb22, rfl, hbb22⟩ a23 A23
 refine zB 2 [(28, .bool bb22), (27, .bool bb22)] A23 kr kr (fun a24 A24 => ?_)
 rcases Bool.eq_false_or_eq_true bb22 with hc25 | hc25
 ·
  have A26 := A24.set 28 (v' := .bool true) kr rfl (zG hc25)
  have ht27 : bb22 = true := by simpa using hc25
  refine zB 7 [(35, .bool true), (34, undef), (33, undef), (32, .bool true), (31, .bool true), (30, undef), (29, undef)] A26 kr kr (fun a28 A28 => ?_)
  refine zE ?_
  refine zA (C6 _ _ ?_)
  refine qG A28 kr kr ?_
  refine zD (fun K29 C29 => ?_)
  refine zC ?_
  refine wplI A28 kr (zK (d := 36) (f := 9) (cap := #[]) (vs := #[]) A28 kr j22 rfl kr kr (fun w => Try.call9 _ w) (awake_c _ _ j22.lt) ?_)
  rintro v30 w30 j30 q30 hu30 rfl a31 A31
  refine zB 1 [(6, .bool true)] A31 kr kr (fun a32 A32 => ?_)
  refine zE ?_
  refine zA (C29 _ _ ?_)
  refine zQ ?_
  refine zL ?_
  refine zR (v := .bool true) (rs := [.tmp 6]) A32 kr (Res.tmp kr Res.nil) kr ?_
  exact ⟨j30.upd, _, rfl, rfl⟩
 have A33 := A24.set 28 (v' := .bool false) kr rfl (zG hc25)
 have ht34 : bb22 = false := by simpa using hc25
 try have hl20_22 := (hbb22 ht34).1
 try have hl200_22 := (hbb22 ht34).2
 refine zB 1 [(29, .slice av2 v2.length cv2)] A33 kr kr (fun a35 A35 => ?_)
 refine wplI A35 kr (zK (d := 30) (f := 8) (cap := #[]) (vs := #[.slice av2 v2.length cv2]) A35 kr j22 rfl kr kr (fun w => Try.call8 _ w) (LongList_c _ _ j22.lt _ _ _ v2 (hv2.mono (Le3 q2 q8 q22))) ?_)
 rintro v36 w36 j36 q36 hu36 ⟨bb36, rfl, hbb36⟩ a37 A37
 refine zB 2 [(32, .bool bb36), (31, .bool bb36)] A37 kr kr (fun a38 A38 => ?_)
 rcases Bool.eq_false_or_eq_true bb36 with hc39 | hc39
 ·
  have A40 := A38.set 32 (v' := .bool true) kr rfl (zG hc39)
  have ht41 : bb36 = true := by simpa using hc39
  refine zB 3 [(35, .bool true), (34, undef), (33, undef)] A40 kr kr (fun a42 A42 => ?_)
  refine zE ?_
  refine zA (C6 _ _ ?_)
  refine qG A42 kr kr ?_
  refine zD (fun K43 C43 => ?_)
  refine zC ?_
  refine wplI A42 kr (zK (d := 36) (f := 9) (cap := #[]) (vs := #[]) A42 kr j36 rfl kr kr (fun w => Try.call9 _ w) (awake_c _ _ j36.lt) ?_)
  rintro v44 w44 j44 q44 hu44 rfl a45 A45
  refine zB 1 [(6, .bool true)] A45 kr kr (fun a46 A46 => ?_)
  refine zE ?_
  refine zA (C43 _ _ ?_)
  refine zQ ?_
  refine zL ?_
  refine zR (v := .bool true) (rs := [.tmp 6]) A46 kr (Res.tmp kr Res.nil) kr ?_
  exact ⟨j44.upd, _, rfl, rfl⟩
 have A47 := A38.set 32 (v' := .bool false) kr rfl (zG hc39)
 have ht48 : bb36 = false := by simpa using hc39
 try have hl20_36 := (hbb36 ht48).1
 try have hl200_36 := (hbb36 ht48).2
 refine wplI A47 kr (zK (d := 33) (f := 9) (cap := #[]) (vs := #[]) A47 kr j36 rfl kr kr (fun w => Try.call9 _ w) (awake_c _ _ j36.lt) ?_)
 rintro v49 w49 j49 q49 hu49 rfl a50 A50
 refine zB 2 [(35, .bool false), (34, .bool false)] A50 kr kr (fun a51 A51 => ?_)
 refine zE ?_
 refine zA (C6 _ _ ?_)
 refine qH A51 kr kr ?_
 refine i_skip ?_
 refine zA (C5 _ _ ?_)
 refine zD (fun K52 C52 => ?_)
 refine zC ?_
 refine wplI A51 kr (zJ (d := 38) (v := .agg #[.bool m.disc.neg, .slice ad len cap, .slice ae le ce, .slice st m.states.length cs]) A51 kr (zF (t := 28) (g := true) (vs := [.bool m.disc.neg, .slice ad len cap, .slice ae le ce, .slice st m.states.length cs]) (ad := ⟨b2, 0, none⟩) rfl kr kr ir (j49.cells 0 rfl rfl)) ?_)
 intro a53 A53
 refine zB 1 [(39, .slice av v.length cv)] A53 kr kr (fun a54 A54 => ?_)
 refine wplI A54 kr (zK (d := 40) (f := 10) (cap := #[]) (vs := #[.agg #[.bool m.disc.neg, .slice ad len cap, .slice ae le ce, .slice st m.states.length cs], .slice av v.length cv]) A54 kr j49 rfl kr kr (fun w => Try.call10 _ w) (Backup_e _ _ j49.lt m _ _ _ (h.mono (Le5 q2 q8 q22 q36 q49)) _ _ _ (h2.mono (Le5 q2 q8 q22 q36 q49)) _ _ _ (hst.mono (Le5 q2 q8 q22 q36 q49)) v _ _ _ (hv.mono (Le5 q2 q8 q22 q36 q49)) (by omega) bx bi be hB) ?_)
 rintro v55 w55 j55 q55 hu55 ⟨ad55, len55, cap55, ae55, le55, ce55, rfl, hR55, hI55⟩ a56 A56
 have hlb := hR55.hlen
 refine zB 7 [(9, .int .i64 be), (8, .slice ae55 le55 ce55), (7, .slice ad55 len55 cap55), (43, .int .i64 be), (42, .slice ae55 le55 ce55), (41, .slice ad55 len55 cap55), (37, .tuple #[.slice ad55 len55 cap55, .slice ae55 le55 ce55, .int .i64 be])] A56 kr kr (fun a57 A57 => ?_)
 refine zE ?_
 refine zA (C52 _ _ ?_)
 refine zD (fun K58 C58 => ?_)
 refine zC ?_
 refine wplI A57 kr (zJ (d := 45) (v := .agg #[.bool m.disc.neg, .slice ad len cap, .slice ae le ce, .slice st m.states.length cs]) A57 kr (zF (t := 28) (g := true) (vs := [.bool m.disc.neg, .slice ad len cap, .slice ae le ce, .slice st m.states.length cs]) (ad := ⟨b2, 0, none⟩) rfl kr kr ir (j55.cells 0 rfl rfl)) ?_)
 intro a59 A59
 refine zB 1 [(46, .slice av2 v2.length cv2)] A59 kr kr (fun a60 A60 => ?_)
 refine wplI A60 kr (zK (d := 47) (f := 10) (cap := #[]) (vs := #[.agg #[.bool m.disc.neg, .slice ad len cap, .slice ae le ce, .slice st m.states.length cs], .slice av2 v2.length cv2]) A60 kr j55 rfl kr kr (fun w => Try.call10 _ w) (Backup_e _ _ j55.lt m _ _ _ (h.mono (Le6 q2 q8 q22 q36 q49 q55)) _ _ _ (h2.mono (Le6 q2 q8 q22 q36 q49 q55)) _ _ _ (hst.mono (Le6 q2 q8 q22 q36 q49 q55)) v2 _ _ _ (hv2.mono (Le6 q2 q8 q22 q36 q49 q55)) (by omega) ux ui ue hW) ?_)
 rintro v61 w61 j61 q61 hu61 ⟨ad61, len61, cap61, ae61, le61, ce61, rfl, hR61, hI61⟩ a62 A62
 have hlu := hR61.hlen
 refine zB 7 [(12, .int .i64 ue), (11, .slice ae61 le61 ce61), (10, .slice ad61 len61 cap61), (50, .int .i64 ue), (49, .slice ae61 le61 ce61), (48, .slice ad61 len61 cap61), (44, .tuple #[.slice ad61 len61 cap61, .slice ae61 le61 ce61, .int .i64 ue])] A62 kr kr (fun a63 A63 => ?_)
 refine zE ?_
 refine zA (C58 _ _ ?_)
 refine zD (fun K64 C64 => ?_)
 refine zC ?_
 refine zB 2 [(53, .slice av2 v2.length cv2), (52, .slice av v.length cv)] A63 kr kr (fun a65 A65 => ?_)
 refine wplI A65 kr (zK (d := 54) (f := 23) (cap := #[]) (vs := #[.slice av v.length cv, .slice av2 v2.length cv2]) A65 kr j61 rfl kr kr (fun w => Try.call23 _ w) (Distance_e _ _ j61.lt _ _ _ v (hv.mono (Le7 q2 q8 q22 q36 q49 q55 q61)) _ _ _ v2 (hv2.mono (Le7 q2 q8 q22 q36 q49 q55 q61)) (by omega) (by omega) dr de hD) ?_)
 rintro v66 w66 j66 q66 hu66 ⟨u66, rfl, ⟨ad66, len66, cap66, ae66, le66, ce66, rfl, hN66, hD66⟩⟩ a67 A67
 refine zB 3 [(56, .int .i64 de), (55, .agg #[.bool dr.neg, .slice ad66 len66 cap66, .slice ae66 le66 ce66]), (51, .tuple #[.agg #[.bool dr.neg, .slice ad66 len66 cap66, .slice ae66 le66 ce66], .int .i64 de])] A67 kr kr (fun a68 A68 => ?_)
 refine wplI A68 kr (zN (d := 13) (fun b => .pointer (some ⟨b, 0, none⟩)) (.cells #[.bool false, .slice none 0 0, .slice none 0 0] 25 (0, 0)) A68 kr j66 kw ?_)
 intro b69 w69 Y69 j69 q69 hu69 a70 A70
 refine wplI A70 kr (zO (t := 25) (b := b69) (off := 0) (c' := #[.bool dr.neg, .slice ad66 len66 cap66, .slice ae66 le66 ce66]) (g := true) (m := 3) 0 _ A70 kr j69 rfl kr rfl kr kr kr rfl (by first | decide | (simp; done)) kr rfl ?_)
 intro w71 j71 q71
 refine zB 1 [(14, .int .i64 de)] A70 kr kr (fun a72 A72 => ?_)
 refine zE ?_
 refine zA (C64 _ _ ?_)
 refine zD (fun K73 C73 => ?_)
 refine zD (fun K74 C74 => ?_)
 refine zC ?_
 refine zB 3 [(59, .bool ((be) != 0)), (58, .bool ((be) != 0)), (57, .int .i64 be)] A72 kr kr (fun a75 A75 => ?_)
 rcases Bool.eq_false_or_eq_true ((be) != 0) with hc76 | hc76
 ·
  have A77 := A75.set 59 (v' := .bool true) kr rfl (zG hc76)
  have ht78 : (be) ≠ 0 := by simpa using hc76
  refine zB 7 [(66, .bool true), (65, undef), (64, undef), (63, .bool true), (62, .bool true), (61, undef), (60, undef)] A77 kr kr (fun a79 A79 => ?_)
  have A80 := A79.as [1, 2, 3, 7, 9, 10, 12, 13, 66] (L' := [(1, .slice av v.length cv), (2, .slice av2 v2.length cv2), (3, .pointer (some ⟨b2, 0, none⟩)), (7, .slice ad55 len55 cap55), (9, .int .i64 be), (10, .slice ad61 len61 cap61), (12, .int .i64 ue), (13, .pointer (some ⟨b69, 0, none⟩)), (66, .bool true)]) kr kr
  refine zE ?_
  refine zA (C74 _ _ ?_)
  refine qG A80 kr kr ?_
  refine zD (fun K81 C81 => ?_)
  refine zC ?_
  refine zB 3 [(69, .bool ((be) == 0)), (68, .bool ((be) == 0)), (67, .int .i64 be)] A80 kr kr (fun a82 A82 => ?_)
  rcases Bool.eq_false_or_eq_true ((be) == 0) with hc83 | hc83
  ·
   have A84 := A82.set 69 (v' := .bool true) kr rfl (zG hc83)
   have ht85 : (be) = 0 := by simpa using hc83
   refine zB 8 [(77, .bool ((ue) == 0)), (76, .bool ((ue) == 0)), (75, .int .i64 ue), (74, .bool true), (73, .bool true), (72, undef), (71, undef), (70, undef)] A84 kr kr (fun a86 A86 => ?_)
   rcases Bool.eq_false_or_eq_true ((ue) == 0) with hc87 | hc87
   ·
    have A88 := A86.set 77 (v' := .bool true) kr rfl (zG hc87)
    have ht89 : (ue) = 0 := by simpa using hc87
    refine zB 6 [(6, .bool true), (82, .bool true), (81, .bool true), (80, undef), (79, undef), (78, undef)] A88 kr kr (fun a90 A90 => ?_)
    refine zE ?_
    refine zA (C81 _ _ ?_)
    refine zQ ?_
    refine zL ?_
    refine zR (v := .bool true) (rs := [.tmp 6]) A90 kr (Res.tmp kr Res.nil) kr ?_
    exact ⟨j71.upd, _, rfl, rfl⟩
   have A91 := A86.set 77 (v' := .bool false) kr rfl (zG hc87)
   have ht92 : (ue) ≠ 0 := by simpa using hc87
   have hzu : len61 = 0 := by rw [hlu, hnu ht92]; rfl
   refine zB 6 [(6, .bool ((len61 : Int) == 0)), (82, .bool ((len61 : Int) == 0)), (81, .bool ((len61 : Int) == 0)), (80, .bool ((len61 : Int) == 0)), (79, .int .i64 (len61 : Int)), (78, .slice ad61 len61 cap61)] A91 kr kr (fun a93 A93 => ?_)
   refine zE ?_
   refine zA (C81 _ _ ?_)
   refine zQ ?_
   refine zL ?_
   refine zR (v := .bool ((len61 : Int) == 0)) (rs := [.tmp 6]) A93 kr (Res.tmp kr Res.nil) kr ?_
   exact ⟨j71.upd, _, rfl, vboolE (by simp; omega)⟩
  have A94 := A82.set 69 (v' := .bool false) kr rfl (zG hc83)
  have ht95 : (be) ≠ 0 := by simpa using hc83
  have hzb : len55 = 0 := by rw [hlb, hnb ht95]; rfl
  refine zB 5 [(74, .bool ((len55 : Int) == 0)), (73, .bool ((len55 : Int) == 0)), (72, .bool ((len55 : Int) == 0)), (71, .int .i64 (len55 : Int)), (70, .slice ad55 len55 cap55)] A94 kr kr (fun a96 A96 => ?_)
  rcases Bool.eq_false_or_eq_true ((len55 : Int) == 0) with hc97 | hc97
  ·
   have A98 := A96.set 74 (v' := .bool true) kr rfl (zG hc97)
   have ht99 : (len55 : Int) = 0 := by simpa using hc97
   refine zB 3 [(77, .bool ((ue) == 0)), (76, .bool ((ue) == 0)), (75, .int .i64 ue)] A98 kr kr (fun a100 A100 => ?_)
   rcases Bool.eq_false_or_eq_true ((ue) == 0) with hc101 | hc101
   ·
    have A102 := A100.set 77 (v' := .bool true) kr rfl (zG hc101)
    have ht103 : (ue) = 0 := by simpa using hc101
    refine zB 6 [(6, .bool true), (82, .bool true), (81, .bool true), (80, undef), (79, undef), (78, undef)] A102 kr kr (fun a104 A104 => ?_)
    refine zE ?_
    refine zA (C81 _ _ ?_)
    refine zQ ?_
    refine zL ?_
    refine zR (v := .bool true) (rs := [.tmp 6]) A104 kr (Res.tmp kr Res.nil) kr ?_
    exact ⟨j71.upd, _, rfl, rfl⟩
   have A105 := A100.set 77 (v' := .bool false) kr rfl (zG hc101)
   have ht106 : (ue) ≠ 0 := by simpa using hc101
   have hzu : len61 = 0 := by rw [hlu, hnu ht106]; rfl
   refine zB 6 [(6, .bool ((len61 : Int) == 0)), (82, .bool ((len61 : Int) == 0)), (81, .bool ((len61 : Int) == 0)), (80, .bool ((len61 : Int) == 0)), (79, .int .i64 (len61 : Int)), (78, .slice ad61 len61 cap61)] A105 kr kr (fun a107 A107 => ?_)
   refine zE ?_
   refine zA (C81 _ _ ?_)
   refine zQ ?_
   refine zL ?_
   refine zR (v := .bool ((len61 : Int) == 0)) (rs := [.tmp 6]) A107 kr (Res.tmp kr Res.nil) kr ?_
   exact ⟨j71.upd, _, rfl, vboolE (by simp; omega)⟩
  have A108 := A96.set 74 (v' := .bool false) kr rfl (zG hc97)
  have ht109 : (len55 : Int) ≠ 0 := by simpa using hc97
  exfalso; omega
 have A110 := A75.set 59 (v' := .bool false) kr rfl (zG hc76)
 have ht111 : (be) = 0 := by simpa using hc76
 have hb0 := ht111
 refine zB 4 [(63, .bool ((ue) != 0)), (62, .bool ((ue) != 0)), (61, .bool ((ue) != 0)), (60, .int .i64 ue)] A110 kr kr (fun a112 A112 => ?_)
 rcases Bool.eq_false_or_eq_true ((ue) != 0) with hc113 | hc113
 ·
  have A114 := A112.set 63 (v' := .bool true) kr rfl (zG hc113)
  have ht115 : (ue) ≠ 0 := by simpa using hc113
  refine zB 3 [(66, .bool true), (65, undef), (64, undef)] A114 kr kr (fun a116 A116 => ?_)
  have A117 := A116.as [1, 2, 3, 7, 9, 10, 12, 13, 66] (L' := [(1, .slice av v.length cv), (2, .slice av2 v2.length cv2), (3, .pointer (some ⟨b2, 0, none⟩)), (7, .slice ad55 len55 cap55), (9, .int .i64 be), (10, .slice ad61 len61 cap61), (12, .int .i64 ue), (13, .pointer (some ⟨b69, 0, none⟩)), (66, .bool true)]) kr kr
  refine zE ?_
  refine zA (C74 _ _ ?_)
  refine qG A117 kr kr ?_
  refine zD (fun K118 C118 => ?_)
  refine zC ?_
  refine zB 3 [(69, .bool ((be) == 0)), (68, .bool ((be) == 0)), (67, .int .i64 be)] A117 kr kr (fun a119 A119 => ?_)
  rcases Bool.eq_false_or_eq_true ((be) == 0) with hc120 | hc120
  ·
   have A121 := A119.set 69 (v' := .bool true) kr rfl (zG hc120)
   have ht122 : (be) = 0 := by simpa using hc120
   refine zB 8 [(77, .bool ((ue) == 0)), (76, .bool ((ue) == 0)), (75, .int .i64 ue), (74, .bool true), (73, .bool true), (72, undef), (71, undef), (70, undef)] A121 kr kr (fun a123 A123 => ?_)
   rcases Bool.eq_false_or_eq_true ((ue) == 0) with hc124 | hc124
   ·
    have A125 := A123.set 77 (v' := .bool true) kr rfl (zG hc124)
    have ht126 : (ue) = 0 := by simpa using hc124
    refine zB 6 [(6, .bool true), (82, .bool true), (81, .bool true), (80, undef), (79, undef), (78, undef)] A125 kr kr (fun a127 A127 => ?_)
    refine zE ?_
    refine zA (C118 _ _ ?_)
    refine zQ ?_
    refine zL ?_
    refine zR (v := .bool true) (rs := [.tmp 6]) A127 kr (Res.tmp kr Res.nil) kr ?_
    exact ⟨j71.upd, _, rfl, rfl⟩
   have A128 := A123.set 77 (v' := .bool false) kr rfl (zG hc124)
   have ht129 : (ue) ≠ 0 := by simpa using hc124
   have hzu : len61 = 0 := by rw [hlu, hnu ht129]; rfl
   refine zB 6 [(6, .bool ((len61 : Int) == 0)), (82, .bool ((len61 : Int) == 0)), (81, .bool ((len61 : Int) == 0)), (80, .bool ((len61 : Int) == 0)), (79, .int .i64 (len61 : Int)), (78, .slice ad61 len61 cap61)] A128 kr kr (fun a130 A130 => ?_)
   refine zE ?_
   refine zA (C118 _ _ ?_)
   refine zQ ?_
   refine zL ?_
   refine zR (v := .bool ((len61 : Int) == 0)) (rs := [.tmp 6]) A130 kr (Res.tmp kr Res.nil) kr ?_
   exact ⟨j71.upd, _, rfl, vboolE (by simp; omega)⟩
  have A131 := A119.set 69 (v' := .bool false) kr rfl (zG hc120)
  have ht132 : (be) ≠ 0 := by simpa using hc120
  have hzb : len55 = 0 := by rw [hlb, hnb ht132]; rfl
  refine zB 5 [(74, .bool ((len55 : Int) == 0)), (73, .bool ((len55 : Int) == 0)), (72, .bool ((len55 : Int) == 0)), (71, .int .i64 (len55 : Int)), (70, .slice ad55 len55 cap55)] A131 kr kr (fun a133 A133 => ?_)
  rcases Bool.eq_false_or_eq_true ((len55 : Int) == 0) with hc134 | hc134
  ·
   have A135 := A133.set 74 (v' := .bool true) kr rfl (zG hc134)
   have ht136 : (len55 : Int) = 0 := by simpa using hc134
   refine zB 3 [(77, .bool ((ue) == 0)), (76, .bool ((ue) == 0)), (75, .int .i64 ue)] A135 kr kr (fun a137 A137 => ?_)
   rcases Bool.eq_false_or_eq_true ((ue) == 0) with hc138 | hc138
   ·
    have A139 := A137.set 77 (v' := .bool true) kr rfl (zG hc138)
    have ht140 : (ue) = 0 := by simpa using hc138
    refine zB 6 [(6, .bool true), (82, .bool true), (81, .bool true), (80, undef), (79, undef), (78, undef)] A139 kr kr (fun a141 A141 => ?_)
    refine zE ?_
    refine zA (C118 _ _ ?_)
    refine zQ ?_
    refine zL ?_
    refine zR (v := .bool true) (rs := [.tmp 6]) A141 kr (Res.tmp kr Res.nil) kr ?_
    exact ⟨j71.upd, _, rfl, rfl⟩
   have A142 := A137.set 77 (v' := .bool false) kr rfl (zG hc138)
   have ht143 : (ue) ≠ 0 := by simpa using hc138
   have hzu : len61 = 0 := by rw [hlu, hnu ht143]; rfl
   refine zB 6 [(6, .bool ((len61 : Int) == 0)), (82, .bool ((len61 : Int) == 0)), (81, .bool ((len61 : Int) == 0)), (80, .bool ((len61 : Int) == 0)), (79, .int .i64 (len61 : Int)), (78, .slice ad61 len61 cap61)] A142 kr kr (fun a144 A144 => ?_)
   refine zE ?_
   refine zA (C118 _ _ ?_)
   refine zQ ?_
   refine zL ?_
   refine zR (v := .bool ((len61 : Int) == 0)) (rs := [.tmp 6]) A144 kr (Res.tmp kr Res.nil) kr ?_
   exact ⟨j71.upd, _, rfl, vboolE (by simp; omega)⟩
  have A145 := A133.set 74 (v' := .bool false) kr rfl (zG hc134)
  have ht146 : (len55 : Int) ≠ 0 := by simpa using hc134
  exfalso; omega
 have A147 := A112.set 63 (v' := .bool false) kr rfl (zG hc113)
 have ht148 : (ue) = 0 := by simpa using hc113
 have hu0 := ht148
 refine zB 3 [(66, .bool ((de) != 0)), (65, .bool ((de) != 0)), (64, .int .i64 de)] A147 kr kr (fun a149 A149 => ?_)
 have A150 := A149.as [1, 2, 3, 7, 9, 10, 12, 13, 66] (L' := [(1, .slice av v.length cv), (2, .slice av2 v2.length cv2), (3, .pointer (some ⟨b2, 0, none⟩)), (7, .slice ad55 len55 cap55), (9, .int .i64 be), (10, .slice ad61 len61 cap61), (12, .int .i64 ue), (13, .pointer (some ⟨b69, 0, none⟩)), (66, .bool ((de) != 0))]) kr kr
 refine zE ?_
 refine zA (C74 _ _ ?_)
 refine zS ((de) != 0) A150 kr kr (fun hc151 => ?_) (fun hc151 => ?_)
 ·
  have A152 := A150.set 66 (v' := .bool true) kr rfl (zG hc151)
  have ht153 : (de) ≠ 0 := by simpa using hc151
  refine zD (fun K154 C154 => ?_)
  refine zC ?_
  refine zB 3 [(69, .bool ((be) == 0)), (68, .bool ((be) == 0)), (67, .int .i64 be)] A152 kr kr (fun a155 A155 => ?_)
  rcases Bool.eq_false_or_eq_true ((be) == 0) with hc156 | hc156
  ·
   have A157 := A155.set 69 (v' := .bool true) kr rfl (zG hc156)
   have ht158 : (be) = 0 := by simpa using hc156
   refine zB 8 [(77, .bool ((ue) == 0)), (76, .bool ((ue) == 0)), (75, .int .i64 ue), (74, .bool true), (73, .bool true), (72, undef), (71, undef), (70, undef)] A157 kr kr (fun a159 A159 => ?_)
   rcases Bool.eq_false_or_eq_true ((ue) == 0) with hc160 | hc160
   ·
    have A161 := A159.set 77 (v' := .bool true) kr rfl (zG hc160)
    have ht162 : (ue) = 0 := by simpa using hc160
    refine zB 6 [(6, .bool true), (82, .bool true), (81, .bool true), (80, undef), (79, undef), (78, undef)] A161 kr kr (fun a163 A163 => ?_)
    refine zE ?_
    refine zA (C154 _ _ ?_)
    refine zQ ?_
    refine zL ?_
    refine zR (v := .bool true) (rs := [.tmp 6]) A163 kr (Res.tmp kr Res.nil) kr ?_
    exact ⟨j71.upd, _, rfl, rfl⟩
   have A164 := A159.set 77 (v' := .bool false) kr rfl (zG hc160)
   have ht165 : (ue) ≠ 0 := by simpa using hc160
   have hzu : len61 = 0 := by rw [hlu, hnu ht165]; rfl
   refine zB 6 [(6, .bool ((len61 : Int) == 0)), (82, .bool ((len61 : Int) == 0)), (81, .bool ((len61 : Int) == 0)), (80, .bool ((len61 : Int) == 0)), (79, .int .i64 (len61 : Int)), (78, .slice ad61 len61 cap61)] A164 kr kr (fun a166 A166 => ?_)
   refine zE ?_
   refine zA (C154 _ _ ?_)
   refine zQ ?_
   refine zL ?_
   refine zR (v := .bool ((len61 : Int) == 0)) (rs := [.tmp 6]) A166 kr (Res.tmp kr Res.nil) kr ?_
   exact ⟨j71.upd, _, rfl, vboolE (by simp; omega)⟩
  have A167 := A155.set 69 (v' := .bool false) kr rfl (zG hc156)
  have ht168 : (be) ≠ 0 := by simpa using hc156
  have hzb : len55 = 0 := by rw [hlb, hnb ht168]; rfl
  refine zB 5 [(74, .bool ((len55 : Int) == 0)), (73, .bool ((len55 : Int) == 0)), (72, .bool ((len55 : Int) == 0)), (71, .int .i64 (len55 : Int)), (70, .slice ad55 len55 cap55)] A167 kr kr (fun a169 A169 => ?_)
  rcases Bool.eq_false_or_eq_true ((len55 : Int) == 0) with hc170 | hc170
  ·
   have A171 := A169.set 74 (v' := .bool true) kr rfl (zG hc170)
   have ht172 : (len55 : Int) = 0 := by simpa using hc170
   refine zB 3 [(77, .bool ((ue) == 0)), (76, .bool ((ue) == 0)), (75, .int .i64 ue)] A171 kr kr (fun a173 A173 => ?_)
   rcases Bool.eq_false_or_eq_true ((ue) == 0) with hc174 | hc174
   ·
    have A175 := A173.set 77 (v' := .bool true) kr rfl (zG hc174)
    have ht176 : (ue) = 0 := by simpa using hc174
    refine zB 6 [(6, .bool true), (82, .bool true), (81, .bool true), (80, undef), (79, undef), (78, undef)] A175 kr kr (fun a177 A177 => ?_)
    refine zE ?_
    refine zA (C154 _ _ ?_)
    refine zQ ?_
    refine zL ?_
    refine zR (v := .bool true) (rs := [.tmp 6]) A177 kr (Res.tmp kr Res.nil) kr ?_
    exact ⟨j71.upd, _, rfl, rfl⟩
   have A178 := A173.set 77 (v' := .bool false) kr rfl (zG hc174)
   have ht179 : (ue) ≠ 0 := by simpa using hc174
   have hzu : len61 = 0 := by rw [hlu, hnu ht179]; rfl
   refine zB 6 [(6, .bool ((len61 : Int) == 0)), (82, .bool ((len61 : Int) == 0)), (81, .bool ((len61 : Int) == 0)), (80, .bool ((len61 : Int) == 0)), (79, .int .i64 (len61 : Int)), (78, .slice ad61 len61 cap61)] A178 kr kr (fun a180 A180 => ?_)
   refine zE ?_
   refine zA (C154 _ _ ?_)
   refine zQ ?_
   refine zL ?_
   refine zR (v := .bool ((len61 : Int) == 0)) (rs := [.tmp 6]) A180 kr (Res.tmp kr Res.nil) kr ?_
   exact ⟨j71.upd, _, rfl, vboolE (by simp; omega)⟩
  have A181 := A169.set 74 (v' := .bool false) kr rfl (zG hc170)
  have ht182 : (len55 : Int) ≠ 0 := by simpa using hc170
  exfalso; omega
 have A183 := A150.set 66 (v' := .bool false) kr rfl (zG hc151)
 have ht184 : (de) = 0 := by simpa using hc151
 have hd0 := ht184
 have hok : (m.backV v).2.2 = 0 := by rw [hB]; exact hb0
 have hok2 : (m.backV v2).2.2 = 0 := by rw [hW]; exact hu0
 have hD0 : (distV v v2).2 = 0 := by rw [hD]; exact hd0
 have hbl := back_len hok
 have hbl2 := back_len hok2
 have hcl := contract_law hok hok2 hD0
 simp only [hB, hW, hD, hN] at hbl hbl2 hcl
 refine i_skip ?_
 refine zA (C73 _ _ ?_)
 refine zD (fun K185 C185 => ?_)
 refine zC ?_
 refine zB 2 [(85, .slice ad61 len61 cap61), (84, .slice ad55 len55 cap55)] A183 kr kr (fun a186 A186 => ?_)
 refine wplI A186 kr (zK (d := 86) (f := 23) (cap := #[]) (vs := #[.slice ad55 len55 cap55, .slice ad61 len61 cap61]) A186 kr j71 rfl kr kr (fun w => Try.call23 _ w) (Distance_e _ _ j71.lt _ _ _ bx (hR55.mono (Le4 q61 q66 q69 q71)) _ _ _ ux (hR61.mono (Le3 q66 q69 q71)) (by omega) (by omega) nr ne hN) ?_)
 rintro v187 w187 j187 q187 hu187 ⟨u187, rfl, ⟨ad187, len187, cap187, ae187, le187, ce187, rfl, hN187, hD187⟩⟩ a188 A188
 refine zB 3 [(88, .int .i64 ne), (87, .agg #[.bool nr.neg, .slice ad187 len187 cap187, .slice ae187 le187 ce187]), (83, .tuple #[.agg #[.bool nr.neg, .slice ad187 len187 cap187, .slice ae187 le187 ce187], .int .i64 ne])] A188 kr kr (fun a189 A189 => ?_)
 refine wplI A189 kr (zN (d := 15) (fun b => .pointer (some ⟨b, 0, none⟩)) (.cells #[.bool false, .slice none 0 0, .slice none 0 0] 25 (0, 0)) A189 kr j187 kw ?_)
 intro b190 w190 Y190 j190 q190 hu190 a191 A191
 refine wplI A191 kr (zO (t := 25) (b := b190) (off := 0) (c' := #[.bool nr.neg, .slice ad187 len187 cap187, .slice ae187 le187 ce187]) (g := true) (m := 3) 0 _ A191 kr j190 rfl kr rfl kr kr kr rfl (by first | decide | (simp; done)) kr rfl ?_)
 intro w192 j192 q192
 refine zB 1 [(16, .int .i64 ne)] A191 kr kr (fun a193 A193 => ?_)
 refine zE ?_
 refine zA (C185 _ _ ?_)
 refine zD (fun K194 C194 => ?_)
 refine zC ?_
 refine zB 1 [(90, .pointer (some ⟨b2, 0, none⟩))] A193 kr kr (fun a195 A195 => ?_)
 refine wplI A195 kr (zJ (d := 91) (v := .agg #[.bool m.disc.neg, .slice ad len cap, .slice ae le ce]) A195 kr (zF (t := 25) (g := true) (vs := [.bool m.disc.neg, .slice ad len cap, .slice ae le ce]) (ad := ⟨b2, 0, none⟩) rfl kr kr ir (j192.cells 2 rfl rfl)) ?_)
 intro a196 A196
 refine wplI A196 kr (zJ (d := 92) (v := .agg #[.bool dr.neg, .slice ad66 len66 cap66, .slice ae66 le66 ce66]) A196 kr (zF (t := 25) (g := true) (vs := [.bool dr.neg, .slice ad66 len66 cap66, .slice ae66 le66 ce66]) (ad := ⟨b69, 0, none⟩) rfl kr kr ir (j192.cells 1 rfl rfl)) ?_)
 intro a197 A197
 refine wplI A197 kr (zK (d := 93) (f := 17) (cap := #[]) (vs := #[.agg #[.bool m.disc.neg, .slice ad len cap, .slice ae le ce], .agg #[.bool dr.neg, .slice ad66 len66 cap66, .slice ae66 le66 ce66]]) A197 kr j192 rfl kr kr (fun w => Try.call17 _ w) (rMul_c _ _ j192.lt m.disc _ _ _ (h.mono (Le13 q2 q8 q22 q36 q49 q55 q61 q66 q69 q71 q187 q190 q192)) _ _ _ (h2.mono (Le13 q2 q8 q22 q36 q49 q55 q61 q66 q69 q71 q187 q190 q192)) dr _ _ _ (hN66.mono (Le5 q69 q71 q187 q190 q192)) _ _ _ (hD66.mono (Le5 q69 q71 q187 q190 q192))) ?_)
 rintro v198 w198 j198 q198 hu198 ⟨u198, rfl, ⟨ad198, len198, cap198, ae198, le198, ce198, rfl, hN198, hD198⟩⟩ a199 A199
 refine zB 3 [(95, .int .i64 (opE m.disc dr (m.disc.rat * dr.rat))), (94, .agg #[.bool ((opR m.disc dr (m.disc.rat * dr.rat)).neg), .slice ad198 len198 cap198, .slice ae198 le198 ce198]), (89, .tuple #[.agg #[.bool ((opR m.disc dr (m.disc.rat * dr.rat)).neg), .slice ad198 len198 cap198, .slice ae198 le198 ce198], .int .i64 (opE m.disc dr (m.disc.rat * dr.rat))])] A199 kr kr (fun a200 A200 => ?_)
 refine wplI A200 kr (zN (d := 17) (fun b => .pointer (some ⟨b, 0, none⟩)) (.cells #[.bool false, .slice none 0 0, .slice none 0 0] 25 (0, 0)) A200 kr j198 kw ?_)
 intro b201 w201 Y201 j201 q201 hu201 a202 A202
 refine wplI A202 kr (zO (t := 25) (b := b201) (off := 0) (c' := #[.bool ((opR m.disc dr (m.disc.rat * dr.rat)).neg), .slice ad198 len198 cap198, .slice ae198 le198 ce198]) (g := true) (m := 3) 0 _ A202 kr j201 rfl kr rfl kr kr kr rfl (by first | decide | (simp; done)) kr rfl ?_)
 intro w203 j203 q203
 refine zB 1 [(18, .int .i64 (opE m.disc dr (m.disc.rat * dr.rat)))] A202 kr kr (fun a204 A204 => ?_)
 refine zE ?_
 refine zA (C194 _ _ ?_)
 refine zD (fun K205 C205 => ?_)
 refine zD (fun K206 C206 => ?_)
 refine zC ?_
 refine zB 3 [(98, .bool ((ne) == 4)), (97, .bool ((ne) == 4)), (96, .int .i64 ne)] A204 kr kr (fun a207 A207 => ?_)
 rcases Bool.eq_false_or_eq_true ((ne) == 4) with hc208 | hc208
 ·
  have A209 := A207.set 98 (v' := .bool true) kr rfl (zG hc208)
  have ht210 : (ne) = 4 := by simpa using hc208
  refine zB 3 [(101, .bool true), (100, undef), (99, undef)] A209 kr kr (fun a211 A211 => ?_)
  refine zE ?_
  refine zA (C206 _ _ ?_)
  refine qG A211 kr kr ?_
  refine zD (fun K212 C212 => ?_)
  refine zC ?_
  refine zB 1 [(6, .bool true)] A211 kr kr (fun a213 A213 => ?_)
  refine zE ?_
  refine zA (C212 _ _ ?_)
  refine zQ ?_
  refine zL ?_
  refine zR (v := .bool true) (rs := [.tmp 6]) A213 kr (Res.tmp kr Res.nil) kr ?_
  exact ⟨j203.upd, _, rfl, rfl⟩
 have A214 := A207.set 98 (v' := .bool false) kr rfl (zG hc208)
 have ht215 : (ne) ≠ 4 := by simpa using hc208
 have hne0 : ne = 0 := by rcases hcl.1 with e | e; exact e; exact absurd e ht215
 refine zB 3 [(101, .bool ((opE m.disc dr (m.disc.rat * dr.rat)) == 4)), (100, .bool ((opE m.disc dr (m.disc.rat * dr.rat)) == 4)), (99, .int .i64 (opE m.disc dr (m.disc.rat * dr.rat)))] A214 kr kr (fun a216 A216 => ?_)
 refine zE ?_
 refine zA (C206 _ _ ?_)
 refine zS ((opE m.disc dr (m.disc.rat * dr.rat)) == 4) A216 kr kr (fun hc217 => ?_) (fun hc217 => ?_)
 ·
  have A218 := A216.set 101 (v' := .bool true) kr rfl (zG hc217)
  have ht219 : (opE m.disc dr (m.disc.rat * dr.rat)) = 4 := by simpa using hc217
  refine zD (fun K220 C220 => ?_)
  refine zC ?_
  refine zB 1 [(6, .bool true)] A218 kr kr (fun a221 A221 => ?_)
  refine zE ?_
  refine zA (C220 _ _ ?_)
  refine zQ ?_
  refine zL ?_
  refine zR (v := .bool true) (rs := [.tmp 6]) A221 kr (Res.tmp kr Res.nil) kr ?_
  exact ⟨j203.upd, _, rfl, rfl⟩
 have A222 := A216.set 101 (v' := .bool false) kr rfl (zG hc217)
 have ht223 : (opE m.disc dr (m.disc.rat * dr.rat)) ≠ 4 := by simpa using hc217
 have hop0 : opE m.disc dr (m.disc.rat * dr.rat) = 0 := by rcases hcl.2.1 with e | e; exact e; exact absurd e ht223
 have hfar := hcl.2.2 hne0 hop0
 refine i_skip ?_
 refine zA (C205 _ _ ?_)
 refine zD (fun K224 C224 => ?_)
 refine zD (fun K225 C225 => ?_)
 refine zC ?_
 refine zB 3 [(104, .bool ((ne) != 0)), (103, .bool ((ne) != 0)), (102, .int .i64 ne)] A222 kr kr (fun a226 A226 => ?_)
 rcases Bool.eq_false_or_eq_true ((ne) != 0) with hc227 | hc227
 ·
  have A228 := A226.set 104 (v' := .bool true) kr rfl (zG hc227)
  have ht229 : (ne) ≠ 0 := by simpa using hc227
  exact absurd hne0 ht229
 have A230 := A226.set 104 (v' := .bool false) kr rfl (zG hc227)
 have ht231 : (ne) = 0 := by simpa using hc227
 refine zB 4 [(108, .bool ((opE m.disc dr (m.disc.rat * dr.rat)) != 0)), (107, .bool ((opE m.disc dr (m.disc.rat * dr.rat)) != 0)), (106, .bool ((opE m.disc dr (m.disc.rat * dr.rat)) != 0)), (105, .int .i64 (opE m.disc dr (m.disc.rat * dr.rat)))] A230 kr kr (fun a232 A232 => ?_)
 rcases Bool.eq_false_or_eq_true ((opE m.disc dr (m.disc.rat * dr.rat)) != 0) with hc233 | hc233
 ·
  have A234 := A232.set 108 (v' := .bool true) kr rfl (zG hc233)
  have ht235 : (opE m.disc dr (m.disc.rat * dr.rat)) ≠ 0 := by simpa using hc233
  exact absurd hop0 ht235
 have A236 := A232.set 108 (v' := .bool false) kr rfl (zG hc233)
 have ht237 : (opE m.disc dr (m.disc.rat * dr.rat)) = 0 := by simpa using hc233
 refine zB 7 [(115, .bool ((len55 : Int) != (v.length : Int))), (114, .bool ((len55 : Int) != (v.length : Int))), (113, .bool ((len55 : Int) != (v.length : Int))), (112, .int .i64 (v.length : Int)), (111, .slice av v.length cv), (110, .int .i64 (len55 : Int)), (109, .slice ad55 len55 cap55)] A236 kr kr (fun a238 A238 => ?_)
 rcases Bool.eq_false_or_eq_true ((len55 : Int) != (v.length : Int)) with hc239 | hc239
 ·
  have A240 := A238.set 115 (v' := .bool true) kr rfl (zG hc239)
  have ht241 : (len55 : Int) ≠ (v.length : Int) := by simpa using hc239
  exfalso; omega
 have A242 := A238.set 115 (v' := .bool false) kr rfl (zG hc239)
 have ht243 : (len55 : Int) = (v.length : Int) := by simpa using hc239
 refine zB 7 [(122, .bool ((len61 : Int) != (v.length : Int))), (121, .bool ((len61 : Int) != (v.length : Int))), (120, .bool ((len61 : Int) != (v.length : Int))), (119, .int .i64 (v.length : Int)), (118, .slice av v.length cv), (117, .int .i64 (len61 : Int)), (116, .slice ad61 len61 cap61)] A242 kr kr (fun a244 A244 => ?_)
 rcases Bool.eq_false_or_eq_true ((len61 : Int) != (v.length : Int)) with hc245 | hc245
 ·
  have A246 := A244.set 122 (v' := .bool true) kr rfl (zG hc245)
  have ht247 : (len61 : Int) ≠ (v.length : Int) := by simpa using hc245
  exfalso; omega
 have A248 := A244.set 122 (v' := .bool false) kr rfl (zG hc245)
 have ht249 : (len61 : Int) = (v.length : Int) := by simpa using hc245
 refine wplI A248 kr (zJ (d := 123) (v := .agg #[.bool nr.neg, .slice ad187 len187 cap187, .slice ae187 le187 ce187]) A248 kr (zF (t := 25) (g := true) (vs := [.bool nr.neg, .slice ad187 len187 cap187, .slice ae187 le187 ce187]) (ad := ⟨b190, 0, none⟩) rfl kr kr ir (j203.cells 1 rfl rfl)) ?_)
 intro a250 A250
 refine wplI A250 kr (zJ (d := 124) (v := .agg #[.bool ((opR m.disc dr (m.disc.rat * dr.rat)).neg), .slice ad198 len198 cap198, .slice ae198 le198 ce198]) A250 kr (zF (t := 25) (g := true) (vs := [.bool ((opR m.disc dr (m.disc.rat * dr.rat)).neg), .slice ad198 len198 cap198, .slice ae198 le198 ce198]) (ad := ⟨b201, 0, none⟩) rfl kr kr ir (j203.cells 0 rfl rfl)) ?_)
 intro a251 A251
 refine wplI A251 kr (zK (d := 125) (f := 14) (cap := #[]) (vs := #[.agg #[.bool nr.neg, .slice ad187 len187 cap187, .slice ae187 le187 ce187], .agg #[.bool ((opR m.disc dr (m.disc.rat * dr.rat)).neg), .slice ad198 len198 cap198, .slice ae198 le198 ce198]]) A251 kr j203 rfl kr kr (fun w => Try.call14 _ w) (atMost_c _ _ j203.lt nr _ _ _ (hN187.mono (Le5 q190 q192 q198 q201 q203)) _ _ _ (hD187.mono (Le5 q190 q192 q198 q201 q203)) (opR m.disc dr (m.disc.rat * dr.rat)) _ _ _ (hN198.mono (Le2 q201 q203)) _ _ _ (hD198.mono (Le2 q201 q203))) ?_)
 rintro v252 w252 j252 q252 hu252 rfl a253 A253
 refine zB 2 [(127, .bool (!(atMostV nr (opR m.disc dr (m.disc.rat * dr.rat))))), (126, .bool (!(atMostV nr (opR m.disc dr (m.disc.rat * dr.rat)))))] A253 kr kr (fun a254 A254 => ?_)
 have A255 := A254.as [1, 2, 7, 10, 127] (L' := [(1, .slice av v.length cv), (2, .slice av2 v2.length cv2), (7, .slice ad55 len55 cap55), (10, .slice ad61 len61 cap61), (127, .bool (!(atMostV nr (opR m.disc dr (m.disc.rat * dr.rat)))))]) kr kr
 refine zE ?_
 refine zA (C225 _ _ ?_)
 refine zS (!(atMostV nr (opR m.disc dr (m.disc.rat * dr.rat)))) A255 kr kr (fun hc256 => ?_) (fun hc256 => ?_)
 ·
  have A257 := A255.set 127 (v' := .bool true) kr rfl (zG hc256)
  have ht258 : (atMostV nr (opR m.disc dr (m.disc.rat * dr.rat))) = false := by simpa using hc256
  rw [am_true hfar.1 hfar.2] at ht258; cases ht258
 have A259 := A255.set 127 (v' := .bool false) kr rfl (zG hc256)
 have ht260 : (atMostV nr (opR m.disc dr (m.disc.rat * dr.rat))) = true := by simpa using hc256
 refine i_skip ?_
 refine zA (C224 _ _ ?_)
 refine zD (fun K261 C261 => ?_)
 refine zC ?_
 refine zB 1 [(19, .bool true)] A259 kr kr (fun a262 A262 => ?_)
 refine zE ?_
 refine zA (C261 _ _ ?_)
 refine zD (fun K263 C263 => ?_)
 refine zD (fun K264 C264 => ?_)
 refine zC ?_
 refine zB 1 [(20, .int .i64 0)] A262 kr kr (fun a265 A265 => ?_)
 refine zE ?_
 refine zA (C264 _ _ ?_)
 refine zV ?_
 refine qC (fun (k : Nat) ac w1 => ∃ (Y1 : Hid) (bl : Bool), Fr 165 ac [(1, .slice av v.length cv), (2, .slice av2 v2.length cv2), (7, .slice ad55 len55 cap55), (10, .slice ad61 len61 cap61), (19, .bool bl), (20, .int .i64 (k : Int))] ∧ St E0 w X w1 Y1 [(b201, .cells #[.bool ((opR m.disc dr (m.disc.rat * dr.rat)).neg), .slice ad198 len198 cap198, .slice ae198 le198 ce198] 25 (0, 0)), (b190, .cells #[.bool nr.neg, .slice ad187 len187 cap187, .slice ae187 le187 ce187] 25 (0, 0)), (b69, .cells #[.bool dr.neg, .slice ad66 len66 cap66, .slice ae66 le66 ce66] 25 (0, 0)), (b2, .cells #[.bool m.disc.neg, .slice ad len cap, .slice ae le ce, .slice st m.states.length cs] 28 (0, 0))] ∧ Le (rd w252 Y201) (rd w1 Y1) ∧ (bl = true → ∀ i, i < k → cmpE (v.getD i .zero) (v2.getD i .zero) = 0 ∧ cmpR (v.getD i .zero) (v2.getD i .zero) ≤ 0) ∧ (k ≤ v.length)) (fun (k : Nat) => v.length - k) 0 ?_ ?_
 ·
  refine ⟨_, true, A265.as [1, 2, 7, 10, 19, 20] kr kr, j252, Le.refl _, fun _ i hi => absurd hi (Nat.not_lt_zero i), Nat.zero_le _⟩
 rintro k a266 w266 ⟨Y266, bl, A266, j266, q266, hp266_0, hp266_1⟩
 have hbel := hp266_0
 refine zD (fun K267 C267 => ?_)
 refine zD (fun K268 C268 => ?_)
 refine zC ?_
 refine zB 4 [(131, .bool (decide ((k : Int) < (v.length : Int)))), (130, .int .i64 (v.length : Int)), (129, .slice av v.length cv), (128, .int .i64 (k : Int))] A266 kr kr (fun a269 A269 => ?_)
 refine zE ?_
 refine zA (C268 _ _ ?_)
 refine zS (decide ((k : Int) < (v.length : Int))) A269 kr kr (fun hc270 => ?_) (fun hc270 => ?_)
 ·
  have A271 := A269.set 131 (v' := .bool true) kr rfl (zG hc270)
  have ht272 : (k : Int) < (v.length : Int) := of_decide_eq_true hc270
  obtain ⟨bz, offz, xz, anz, lnz, cnz, amz, lmz, cmz, rfl, hxz, hAz, hLz, hMz⟩ := hv.cell (k := k) (by omega)
  obtain ⟨bp, offp, xp, anp, lnp, cnp, amp, lmp, cmp, rfl, hxp, hAp, hLp, hMp⟩ := hv2.cell (k := k) (by omega)
  refine i_skip ?_
  refine zA (C267 _ _ ?_)
  refine zD (fun K273 C273 => ?_)
  refine zV ?_
  refine qD (N := 13) (Held []) [] kr kr kr j266 ?_
  intro w274 j274 q274 hu274
  refine zX (Held.nil _) (fun hH274 => ?_)
  refine zH (d := 134) (v := .bool bl) 0 A271 rfl kr kr kw (fun _ => hH274) ?_
  intro a275 A275
  refine zH (d := 135) (v := .bool bl) 1 A275 rfl kr kr kw (fun _ => hH274) ?_
  intro a276 A276
  rcases Bool.eq_false_or_eq_true bl with hc277 | hc277
  ·
   have A278 := A276.set 135 (v' := .bool true) kr rfl (zG hc277)
   have ht279 : bl = true := by simpa using hc277
   refine zH (d := 136) (v := .slice (some ⟨bz, offz, none⟩) v.length cv) 2 A278 rfl kr kr kw (fun _ => hH274) ?_
   intro a280 A280
   refine zH (d := 137) (v := .int .i64 (k : Int)) 3 A280 rfl kr kr kw (fun _ => hH274) ?_
   intro a281 A281
   refine zH (d := 138) (v := .pointer (some ⟨bz, offz + k * 3, none⟩)) 4 A281 rfl kr kr (fun w => zP (t := 29) (e := 25) (b := bz) (off := offz) (len := v.length) (cap := cv) (kd := .i64) (i := (k : Int)) (g := true) (m := 3) (off' := offz + k * 3) rfl kr kr kr kr (by omega) (by omega) (by first | rfl | omega | (simp; done) | (simp; omega)) w) (fun _ => hH274) ?_
   intro a282 A282
   refine zH (d := 140) (v := .slice (some ⟨bp, offp, none⟩) v2.length cv2) 6 A282 rfl kr kr kw (fun _ => hH274) ?_
   intro a283 A283
   refine zH (d := 141) (v := .int .i64 (k : Int)) 7 A283 rfl kr kr kw (fun _ => hH274) ?_
   intro a284 A284
   refine zH (d := 142) (v := .pointer (some ⟨bp, offp + k * 3, none⟩)) 8 A284 rfl kr kr (fun w => zP (t := 29) (e := 25) (b := bp) (off := offp) (len := v2.length) (cap := cv2) (kd := .i64) (i := (k : Int)) (g := true) (m := 3) (off' := offp + k * 3) rfl kr kr kr kr (by omega) (by omega) (by first | rfl | omega | (simp; done) | (simp; omega)) w) (fun _ => hH274) ?_
   intro a285 A285
   refine zM [5, 9] kr rfl ?_
   refine ForkT.cons (i := 5) A285 rfl kr ?_ ?_
   ·
    refine zJ (d := 139) (v := .agg #[.bool xz.neg, .slice anz lnz cnz, .slice amz lmz cmz]) A285 kr (zF (t := 25) (g := true) (vs := [.bool xz.neg, .slice anz lnz cnz, .slice amz lmz cmz]) (ad := ⟨bz, offz + k * 3, none⟩) rfl kr kr ir ((hAz.mono (Le19 q2 q8 q22 q36 q49 q55 q61 q66 q69 q71 q187 q190 q192 q198 q201 q203 q252 q266 q274))).cells) ?_
    intro a286 A286
    refine zI (Held.nil _) (fun hH274 => ?_)
    refine zM [9] kr rfl ?_
    refine ForkT.cons (i := 9) A286 rfl kr (zJ (d := 143) (v := .agg #[.bool xp.neg, .slice anp lnp cnp, .slice amp lmp cmp]) A286 kr (zF (t := 25) (g := true) (vs := [.bool xp.neg, .slice anp lnp cnp, .slice amp lmp cmp]) (ad := ⟨bp, offp + k * 3, none⟩) rfl kr kr ir ((hAp.mono (Le19 q2 q8 q22 q36 q49 q55 q61 q66 q69 q71 q187 q190 q192 q198 q201 q203 q252 q266 q274))).cells) ?_) ForkT.nil
    intro a287 A287
    refine zI (Held.nil _) (fun hH274 => ?_)
    refine zM [10] kr rfl ?_
    refine ForkT.cons (i := 10) A287 rfl kr (zK (d := 144) (f := 14) (cap := #[]) (vs := #[.agg #[.bool xz.neg, .slice anz lnz cnz, .slice amz lmz cmz], .agg #[.bool xp.neg, .slice anp lnp cnp, .slice amp lmp cmp]]) A287 kr j274 rfl kr kr (fun w => Try.call14 _ w) (atMost_c _ _ j274.lt xz _ _ _ (hLz.mono (Le19 q2 q8 q22 q36 q49 q55 q61 q66 q69 q71 q187 q190 q192 q198 q201 q203 q252 q266 q274)) _ _ _ (hMz.mono (Le19 q2 q8 q22 q36 q49 q55 q61 q66 q69 q71 q187 q190 q192 q198 q201 q203 q252 q266 q274)) xp _ _ _ (hLp.mono (Le19 q2 q8 q22 q36 q49 q55 q61 q66 q69 q71 q187 q190 q192 q198 q201 q203 q252 q266 q274)) _ _ _ (hMp.mono (Le19 q2 q8 q22 q36 q49 q55 q61 q66 q69 q71 q187 q190 q192 q198 q201 q203 q252 q266 q274))) ?_) ForkT.nil
    rintro v288 w288 j288 q288 hu288 rfl a289 A289
    refine zI (Held.nil _) (fun hH288 => ?_)
    refine zH (d := 145) (v := .bool (atMostV xz xp)) 11 A289 rfl kr kr kw (fun _ => hH288) ?_
    intro a290 A290
    refine zH (d := 19) (v := .bool (atMostV xz xp)) 12 A290 rfl kr kr kw (fun _ => hH288) ?_
    intro a291 A291
    refine qB kr (nrm ?_)
    refine zW ?_
    refine zA (C273 _ _ ?_)
    refine zC ?_
    refine zB 2 [(133, .int .i64 (IntKind.i64.wrap ((k : Int) + 1))), (132, .int .i64 (k : Int))] A291 kr kr (fun a292 A292 => ?_)
    have A293 := A292.set 133 (v' := .int .i64 ((k : Int) + 1)) kr rfl (vint (wi64 (by omega) (by omega)))
    refine zB 1 [(20, .int .i64 ((k : Int) + 1))] A293 kr kr (fun a294 A294 => ?_)
    refine zE ?_
    refine zA ?_
    refine ⟨k + 1, ⟨_, (atMostV xz xp), A294.as [1, 2, 7, 10, 19, 20] kr kr, j288, (Le3 q266 q274 q288), (by intro hb i hi; rcases Nat.lt_or_ge i k with h1 | h1; exact hbel ht279 i h1; obtain rfl : i = k := (by omega); rw [getD_get hxz, getD_get hxp]; exact am_le hb), by omega⟩, ?_⟩
    first | omega | (simp; omega)
   refine ForkT.cons (i := 9) A285 rfl kr (zJ (d := 143) (v := .agg #[.bool xp.neg, .slice anp lnp cnp, .slice amp lmp cmp]) A285 kr (zF (t := 25) (g := true) (vs := [.bool xp.neg, .slice anp lnp cnp, .slice amp lmp cmp]) (ad := ⟨bp, offp + k * 3, none⟩) rfl kr kr ir ((hAp.mono (Le19 q2 q8 q22 q36 q49 q55 q61 q66 q69 q71 q187 q190 q192 q198 q201 q203 q252 q266 q274))).cells) ?_) ForkT.nil
   intro a295 A295
   refine zI (Held.nil _) (fun hH274 => ?_)
   refine zM [5] kr rfl ?_
   refine ForkT.cons (i := 5) A295 rfl kr (zJ (d := 139) (v := .agg #[.bool xz.neg, .slice anz lnz cnz, .slice amz lmz cmz]) A295 kr (zF (t := 25) (g := true) (vs := [.bool xz.neg, .slice anz lnz cnz, .slice amz lmz cmz]) (ad := ⟨bz, offz + k * 3, none⟩) rfl kr kr ir ((hAz.mono (Le19 q2 q8 q22 q36 q49 q55 q61 q66 q69 q71 q187 q190 q192 q198 q201 q203 q252 q266 q274))).cells) ?_) ForkT.nil
   intro a296 A296
   refine zI (Held.nil _) (fun hH274 => ?_)
   refine zM [10] kr rfl ?_
   refine ForkT.cons (i := 10) A296 rfl kr (zK (d := 144) (f := 14) (cap := #[]) (vs := #[.agg #[.bool xz.neg, .slice anz lnz cnz, .slice amz lmz cmz], .agg #[.bool xp.neg, .slice anp lnp cnp, .slice amp lmp cmp]]) A296 kr j274 rfl kr kr (fun w => Try.call14 _ w) (atMost_c _ _ j274.lt xz _ _ _ (hLz.mono (Le19 q2 q8 q22 q36 q49 q55 q61 q66 q69 q71 q187 q190 q192 q198 q201 q203 q252 q266 q274)) _ _ _ (hMz.mono (Le19 q2 q8 q22 q36 q49 q55 q61 q66 q69 q71 q187 q190 q192 q198 q201 q203 q252 q266 q274)) xp _ _ _ (hLp.mono (Le19 q2 q8 q22 q36 q49 q55 q61 q66 q69 q71 q187 q190 q192 q198 q201 q203 q252 q266 q274)) _ _ _ (hMp.mono (Le19 q2 q8 q22 q36 q49 q55 q61 q66 q69 q71 q187 q190 q192 q198 q201 q203 q252 q266 q274))) ?_) ForkT.nil
   rintro v297 w297 j297 q297 hu297 rfl a298 A298
   refine zI (Held.nil _) (fun hH297 => ?_)
   refine zH (d := 145) (v := .bool (atMostV xz xp)) 11 A298 rfl kr kr kw (fun _ => hH297) ?_
   intro a299 A299
   refine zH (d := 19) (v := .bool (atMostV xz xp)) 12 A299 rfl kr kr kw (fun _ => hH297) ?_
   intro a300 A300
   refine qB kr (nrm ?_)
   refine zW ?_
   refine zA (C273 _ _ ?_)
   refine zC ?_
   refine zB 2 [(133, .int .i64 (IntKind.i64.wrap ((k : Int) + 1))), (132, .int .i64 (k : Int))] A300 kr kr (fun a301 A301 => ?_)
   have A302 := A301.set 133 (v' := .int .i64 ((k : Int) + 1)) kr rfl (vint (wi64 (by omega) (by omega)))
   refine zB 1 [(20, .int .i64 ((k : Int) + 1))] A302 kr kr (fun a303 A303 => ?_)
   refine zE ?_
   refine zA ?_
   refine ⟨k + 1, ⟨_, (atMostV xz xp), A303.as [1, 2, 7, 10, 19, 20] kr kr, j297, (Le3 q266 q274 q297), (by intro hb i hi; rcases Nat.lt_or_ge i k with h1 | h1; exact hbel ht279 i h1; obtain rfl : i = k := (by omega); rw [getD_get hxz, getD_get hxp]; exact am_le hb), by omega⟩, ?_⟩
   first | omega | (simp; omega)
  have A304 := A276.set 135 (v' := .bool false) kr rfl (zG hc277)
  have ht305 : bl = false := by simpa using hc277
  refine qE (d := 136) 2 A304 rfl kr kr (fun _ => hH274) ?_
  intro a306 A306
  refine qE (d := 137) 3 A306 rfl kr kr (fun _ => hH274) ?_
  intro a307 A307
  refine qE (d := 138) 4 A307 rfl kr kr (fun _ => hH274) ?_
  intro a308 A308
  refine qE (d := 139) 5 A308 rfl kr kr (fun _ => hH274) ?_
  intro a309 A309
  refine qE (d := 140) 6 A309 rfl kr kr (fun _ => hH274) ?_
  intro a310 A310
  refine qE (d := 141) 7 A310 rfl kr kr (fun _ => hH274) ?_
  intro a311 A311
  refine qE (d := 142) 8 A311 rfl kr kr (fun _ => hH274) ?_
  intro a312 A312
  refine qE (d := 143) 9 A312 rfl kr kr (fun _ => hH274) ?_
  intro a313 A313
  refine qE (d := 144) 10 A313 rfl kr kr (fun _ => hH274) ?_
  intro a314 A314
  refine zH (d := 145) (v := .bool false) 11 A314 rfl kr kr kw (fun _ => hH274) ?_
  intro a315 A315
  refine zH (d := 19) (v := .bool false) 12 A315 rfl kr kr kw (fun _ => hH274) ?_
  intro a316 A316
  refine qB kr (nrm ?_)
  refine zW ?_
  refine zA (C273 _ _ ?_)
  refine zC ?_
  refine zB 2 [(133, .int .i64 (IntKind.i64.wrap ((k : Int) + 1))), (132, .int .i64 (k : Int))] A316 kr kr (fun a317 A317 => ?_)
  have A318 := A317.set 133 (v' := .int .i64 ((k : Int) + 1)) kr rfl (vint (wi64 (by omega) (by omega)))
  refine zB 1 [(20, .int .i64 ((k : Int) + 1))] A318 kr kr (fun a319 A319 => ?_)
  refine zE ?_
  refine zA ?_
  refine ⟨k + 1, ⟨_, false, A319.as [1, 2, 7, 10, 19, 20] kr kr, j274, (Le2 q266 q274), fun hb => absurd hb (by decide), by omega⟩, ?_⟩
  first | omega | (simp; omega)
 have A320 := A269.set 131 (v' := .bool false) kr rfl (zG hc270)
 have ht321 : ¬ ((k : Int) < (v.length : Int)) := of_decide_eq_false hc270
 refine i_exit ?_
 refine zT ?_
 refine zT ?_
 refine qA ?_
 refine zA (C263 _ _ ?_)
 refine zD (fun K322 C322 => ?_)
 refine zD (fun K323 C323 => ?_)
 refine zC ?_
 refine zB 1 [(21, .int .i64 0)] A320 kr kr (fun a324 A324 => ?_)
 refine zE ?_
 refine zA (C323 _ _ ?_)
 refine zV ?_
 refine qC (fun (k : Nat) ac w1 => ∃ (Y1 : Hid), Fr 165 ac [(7, .slice ad55 len55 cap55), (10, .slice ad61 len61 cap61), (19, .bool bl), (21, .int .i64 (k : Int))] ∧ St E0 w X w1 Y1 [(b201, .cells #[.bool ((opR m.disc dr (m.disc.rat * dr.rat)).neg), .slice ad198 len198 cap198, .slice ae198 le198 ce198] 25 (0, 0)), (b190, .cells #[.bool nr.neg, .slice ad187 len187 cap187, .slice ae187 le187 ce187] 25 (0, 0)), (b69, .cells #[.bool dr.neg, .slice ad66 len66 cap66, .slice ae66 le66 ce66] 25 (0, 0)), (b2, .cells #[.bool m.disc.neg, .slice ad len cap, .slice ae le ce, .slice st m.states.length cs] 28 (0, 0))] ∧ Le (rd w266 Y266) (rd w1 Y1) ∧ (k ≤ len55)) (fun (k : Nat) => len55 - k) 0 ?_ ?_
 ·
  refine ⟨_, A324.as [7, 10, 19, 21] kr kr, j266, Le.refl _, Nat.zero_le _⟩
 rintro k a325 w325 ⟨Y325, A325, j325, q325, hp325_0⟩
 refine zD (fun K326 C326 => ?_)
 refine zD (fun K327 C327 => ?_)
 refine zC ?_
 refine zB 4 [(149, .bool (decide ((k : Int) < (len55 : Int)))), (148, .int .i64 (len55 : Int)), (147, .slice ad55 len55 cap55), (146, .int .i64 (k : Int))] A325 kr kr (fun a328 A328 => ?_)
 refine zE ?_
 refine zA (C327 _ _ ?_)
 refine zS (decide ((k : Int) < (len55 : Int))) A328 kr kr (fun hc329 => ?_) (fun hc329 => ?_)
 ·
  have A330 := A328.set 149 (v' := .bool true) kr rfl (zG hc329)
  have ht331 : (k : Int) < (len55 : Int) := of_decide_eq_true hc329
  obtain ⟨bu, offu, xu, anu, lnu, cnu, amu, lmu, cmu, rfl, hxu, hAu, hLu, hMu⟩ := hR55.cell (k := k) (by omega)
  obtain ⟨bq, offq, xq, anq, lnq, cnq, amq, lmq, cmq, rfl, hxq, hAq, hLq, hMq⟩ := hR61.cell (k := k) (by omega)
  refine i_skip ?_
  refine zA (C326 _ _ ?_)
  refine zD (fun K332 C332 => ?_)
  refine zV ?_
  refine zD (fun K333 C333 => ?_)
  refine qD (N := 13) (Held []) [] kr kr kr j325 ?_
  intro w334 j334 q334 hu334
  refine zX (Held.nil _) (fun hH334 => ?_)
  refine zH (d := 152) (v := .bool bl) 0 A330 rfl kr kr kw (fun _ => hH334) ?_
  intro a335 A335
  refine zH (d := 153) (v := .bool bl) 1 A335 rfl kr kr kw (fun _ => hH334) ?_
  intro a336 A336
  rcases Bool.eq_false_or_eq_true bl with hc337 | hc337
  ·
   have A338 := A336.set 153 (v' := .bool true) kr rfl (zG hc337)
   have ht339 : bl = true := by simpa using hc337
   refine zH (d := 154) (v := .slice (some ⟨bu, offu, none⟩) len55 cap55) 2 A338 rfl kr kr kw (fun _ => hH334) ?_
   intro a340 A340
   refine zH (d := 155) (v := .int .i64 (k : Int)) 3 A340 rfl kr kr kw (fun _ => hH334) ?_
   intro a341 A341
   refine zH (d := 156) (v := .pointer (some ⟨bu, offu + k * 3, none⟩)) 4 A341 rfl kr kr (fun w => zP (t := 29) (e := 25) (b := bu) (off := offu) (len := len55) (cap := cap55) (kd := .i64) (i := (k : Int)) (g := true) (m := 3) (off' := offu + k * 3) rfl kr kr kr kr (by omega) (by omega) (by first | rfl | omega | (simp; done) | (simp; omega)) w) (fun _ => hH334) ?_
   intro a342 A342
   refine zH (d := 158) (v := .slice (some ⟨bq, offq, none⟩) len61 cap61) 6 A342 rfl kr kr kw (fun _ => hH334) ?_
   intro a343 A343
   refine zH (d := 159) (v := .int .i64 (k : Int)) 7 A343 rfl kr kr kw (fun _ => hH334) ?_
   intro a344 A344
   refine zH (d := 160) (v := .pointer (some ⟨bq, offq + k * 3, none⟩)) 8 A344 rfl kr kr (fun w => zP (t := 29) (e := 25) (b := bq) (off := offq) (len := len61) (cap := cap61) (kd := .i64) (i := (k : Int)) (g := true) (m := 3) (off' := offq + k * 3) rfl kr kr kr kr (by omega) (by omega) (by first | rfl | omega | (simp; done) | (simp; omega)) w) (fun _ => hH334) ?_
   intro a345 A345
   refine zM [5, 9] kr rfl ?_
   refine ForkT.cons (i := 5) A345 rfl kr ?_ ?_
   ·
    refine zJ (d := 157) (v := .agg #[.bool xu.neg, .slice anu lnu cnu, .slice amu lmu cmu]) A345 kr (zF (t := 25) (g := true) (vs := [.bool xu.neg, .slice anu lnu cnu, .slice amu lmu cmu]) (ad := ⟨bu, offu + k * 3, none⟩) rfl kr kr ir ((hAu.mono (Le14 q61 q66 q69 q71 q187 q190 q192 q198 q201 q203 q252 q266 q325 q334))).cells) ?_
    intro a346 A346
    refine zI (Held.nil _) (fun hH334 => ?_)
    refine zM [9] kr rfl ?_
    refine ForkT.cons (i := 9) A346 rfl kr (zJ (d := 161) (v := .agg #[.bool xq.neg, .slice anq lnq cnq, .slice amq lmq cmq]) A346 kr (zF (t := 25) (g := true) (vs := [.bool xq.neg, .slice anq lnq cnq, .slice amq lmq cmq]) (ad := ⟨bq, offq + k * 3, none⟩) rfl kr kr ir ((hAq.mono (Le13 q66 q69 q71 q187 q190 q192 q198 q201 q203 q252 q266 q325 q334))).cells) ?_) ForkT.nil
    intro a347 A347
    refine zI (Held.nil _) (fun hH334 => ?_)
    refine zM [10] kr rfl ?_
    refine ForkT.cons (i := 10) A347 rfl kr (zK (d := 162) (f := 14) (cap := #[]) (vs := #[.agg #[.bool xu.neg, .slice anu lnu cnu, .slice amu lmu cmu], .agg #[.bool xq.neg, .slice anq lnq cnq, .slice amq lmq cmq]]) A347 kr j334 rfl kr kr (fun w => Try.call14 _ w) (atMost_c _ _ j334.lt xu _ _ _ (hLu.mono (Le14 q61 q66 q69 q71 q187 q190 q192 q198 q201 q203 q252 q266 q325 q334)) _ _ _ (hMu.mono (Le14 q61 q66 q69 q71 q187 q190 q192 q198 q201 q203 q252 q266 q325 q334)) xq _ _ _ (hLq.mono (Le13 q66 q69 q71 q187 q190 q192 q198 q201 q203 q252 q266 q325 q334)) _ _ _ (hMq.mono (Le13 q66 q69 q71 q187 q190 q192 q198 q201 q203 q252 q266 q325 q334))) ?_) ForkT.nil
    rintro v348 w348 j348 q348 hu348 rfl a349 A349
    refine zI (Held.nil _) (fun hH348 => ?_)
    refine zH (d := 163) (v := .bool (!(atMostV xu xq))) 11 A349 rfl kr kr kw (fun _ => hH348) ?_
    intro a350 A350
    refine zH (d := 164) (v := .bool (!(atMostV xu xq))) 12 A350 rfl kr kr kw (fun _ => hH348) ?_
    intro a351 A351
    refine qB kr (nrm ?_)
    refine zA (C333 _ _ ?_)
    refine zS (!(atMostV xu xq)) A351 kr kr (fun hc352 => ?_) (fun hc352 => ?_)
    ·
     have A353 := A351.set 164 (v' := .bool true) kr rfl (zG hc352)
     have ht354 : (atMostV xu xq) = false := by simpa using hc352
     have hml := mono_law hok hok2 (fun i hi => hbel ht339 i (by omega)) (s := k) (by omega); simp only [hB, hW] at hml; rw [getD_get hxu, getD_get hxq] at hml; rw [am_true hml.1 hml.2] at ht354; cases ht354
    have A355 := A351.set 164 (v' := .bool false) kr rfl (zG hc352)
    have ht356 : (atMostV xu xq) = true := by simpa using hc352
    refine i_skip ?_
    refine zW ?_
    refine zA (C332 _ _ ?_)
    refine zC ?_
    refine zB 2 [(151, .int .i64 (IntKind.i64.wrap ((k : Int) + 1))), (150, .int .i64 (k : Int))] A355 kr kr (fun a357 A357 => ?_)
    have A358 := A357.set 151 (v' := .int .i64 ((k : Int) + 1)) kr rfl (vint (wi64 (by omega) (by omega)))
    refine zB 1 [(21, .int .i64 ((k : Int) + 1))] A358 kr kr (fun a359 A359 => ?_)
    refine zE ?_
    refine zA ?_
    refine ⟨k + 1, ⟨_, A359.as [7, 10, 19, 21] kr kr, j348, (Le3 q325 q334 q348), by omega⟩, ?_⟩
    first | omega | (simp; omega)
   refine ForkT.cons (i := 9) A345 rfl kr (zJ (d := 161) (v := .agg #[.bool xq.neg, .slice anq lnq cnq, .slice amq lmq cmq]) A345 kr (zF (t := 25) (g := true) (vs := [.bool xq.neg, .slice anq lnq cnq, .slice amq lmq cmq]) (ad := ⟨bq, offq + k * 3, none⟩) rfl kr kr ir ((hAq.mono (Le13 q66 q69 q71 q187 q190 q192 q198 q201 q203 q252 q266 q325 q334))).cells) ?_) ForkT.nil
   intro a360 A360
   refine zI (Held.nil _) (fun hH334 => ?_)
   refine zM [5] kr rfl ?_
   refine ForkT.cons (i := 5) A360 rfl kr (zJ (d := 157) (v := .agg #[.bool xu.neg, .slice anu lnu cnu, .slice amu lmu cmu]) A360 kr (zF (t := 25) (g := true) (vs := [.bool xu.neg, .slice anu lnu cnu, .slice amu lmu cmu]) (ad := ⟨bu, offu + k * 3, none⟩) rfl kr kr ir ((hAu.mono (Le14 q61 q66 q69 q71 q187 q190 q192 q198 q201 q203 q252 q266 q325 q334))).cells) ?_) ForkT.nil
   intro a361 A361
   refine zI (Held.nil _) (fun hH334 => ?_)
   refine zM [10] kr rfl ?_
   refine ForkT.cons (i := 10) A361 rfl kr (zK (d := 162) (f := 14) (cap := #[]) (vs := #[.agg #[.bool xu.neg, .slice anu lnu cnu, .slice amu lmu cmu], .agg #[.bool xq.neg, .slice anq lnq cnq, .slice amq lmq cmq]]) A361 kr j334 rfl kr kr (fun w => Try.call14 _ w) (atMost_c _ _ j334.lt xu _ _ _ (hLu.mono (Le14 q61 q66 q69 q71 q187 q190 q192 q198 q201 q203 q252 q266 q325 q334)) _ _ _ (hMu.mono (Le14 q61 q66 q69 q71 q187 q190 q192 q198 q201 q203 q252 q266 q325 q334)) xq _ _ _ (hLq.mono (Le13 q66 q69 q71 q187 q190 q192 q198 q201 q203 q252 q266 q325 q334)) _ _ _ (hMq.mono (Le13 q66 q69 q71 q187 q190 q192 q198 q201 q203 q252 q266 q325 q334))) ?_) ForkT.nil
   rintro v362 w362 j362 q362 hu362 rfl a363 A363
   refine zI (Held.nil _) (fun hH362 => ?_)
   refine zH (d := 163) (v := .bool (!(atMostV xu xq))) 11 A363 rfl kr kr kw (fun _ => hH362) ?_
   intro a364 A364
   refine zH (d := 164) (v := .bool (!(atMostV xu xq))) 12 A364 rfl kr kr kw (fun _ => hH362) ?_
   intro a365 A365
   refine qB kr (nrm ?_)
   refine zA (C333 _ _ ?_)
   refine zS (!(atMostV xu xq)) A365 kr kr (fun hc366 => ?_) (fun hc366 => ?_)
   ·
    have A367 := A365.set 164 (v' := .bool true) kr rfl (zG hc366)
    have ht368 : (atMostV xu xq) = false := by simpa using hc366
    have hml := mono_law hok hok2 (fun i hi => hbel ht339 i (by omega)) (s := k) (by omega); simp only [hB, hW] at hml; rw [getD_get hxu, getD_get hxq] at hml; rw [am_true hml.1 hml.2] at ht368; cases ht368
   have A369 := A365.set 164 (v' := .bool false) kr rfl (zG hc366)
   have ht370 : (atMostV xu xq) = true := by simpa using hc366
   refine i_skip ?_
   refine zW ?_
   refine zA (C332 _ _ ?_)
   refine zC ?_
   refine zB 2 [(151, .int .i64 (IntKind.i64.wrap ((k : Int) + 1))), (150, .int .i64 (k : Int))] A369 kr kr (fun a371 A371 => ?_)
   have A372 := A371.set 151 (v' := .int .i64 ((k : Int) + 1)) kr rfl (vint (wi64 (by omega) (by omega)))
   refine zB 1 [(21, .int .i64 ((k : Int) + 1))] A372 kr kr (fun a373 A373 => ?_)
   refine zE ?_
   refine zA ?_
   refine ⟨k + 1, ⟨_, A373.as [7, 10, 19, 21] kr kr, j362, (Le3 q325 q334 q362), by omega⟩, ?_⟩
   first | omega | (simp; omega)
  have A374 := A336.set 153 (v' := .bool false) kr rfl (zG hc337)
  have ht375 : bl = false := by simpa using hc337
  refine qE (d := 154) 2 A374 rfl kr kr (fun _ => hH334) ?_
  intro a376 A376
  refine qE (d := 155) 3 A376 rfl kr kr (fun _ => hH334) ?_
  intro a377 A377
  refine qE (d := 156) 4 A377 rfl kr kr (fun _ => hH334) ?_
  intro a378 A378
  refine qE (d := 157) 5 A378 rfl kr kr (fun _ => hH334) ?_
  intro a379 A379
  refine qE (d := 158) 6 A379 rfl kr kr (fun _ => hH334) ?_
  intro a380 A380
  refine qE (d := 159) 7 A380 rfl kr kr (fun _ => hH334) ?_
  intro a381 A381
  refine qE (d := 160) 8 A381 rfl kr kr (fun _ => hH334) ?_
  intro a382 A382
  refine qE (d := 161) 9 A382 rfl kr kr (fun _ => hH334) ?_
  intro a383 A383
  refine qE (d := 162) 10 A383 rfl kr kr (fun _ => hH334) ?_
  intro a384 A384
  refine qE (d := 163) 11 A384 rfl kr kr (fun _ => hH334) ?_
  intro a385 A385
  refine zH (d := 164) (v := .bool false) 12 A385 rfl kr kr kw (fun _ => hH334) ?_
  intro a386 A386
  refine qB kr (nrm ?_)
  refine zA (C333 _ _ ?_)
  refine qH A386 kr kr ?_
  refine i_skip ?_
  refine zW ?_
  refine zA (C332 _ _ ?_)
  refine zC ?_
  refine zB 2 [(151, .int .i64 (IntKind.i64.wrap ((k : Int) + 1))), (150, .int .i64 (k : Int))] A386 kr kr (fun a387 A387 => ?_)
  have A388 := A387.set 151 (v' := .int .i64 ((k : Int) + 1)) kr rfl (vint (wi64 (by omega) (by omega)))
  refine zB 1 [(21, .int .i64 ((k : Int) + 1))] A388 kr kr (fun a389 A389 => ?_)
  refine zE ?_
  refine zA ?_
  refine ⟨k + 1, ⟨_, A389.as [7, 10, 19, 21] kr kr, j334, (Le2 q325 q334), by omega⟩, ?_⟩
  first | omega | (simp; omega)
 have A390 := A328.set 149 (v' := .bool false) kr rfl (zG hc329)
 have ht391 : ¬ ((k : Int) < (len55 : Int)) := of_decide_eq_false hc329
 refine i_exit ?_
 refine zT ?_
 refine zT ?_
 refine qA ?_
 refine zA (C322 _ _ ?_)
 refine zD (fun K392 C392 => ?_)
 refine zC ?_
 refine zB 1 [(6, .bool true)] A390 kr kr (fun a393 A393 => ?_)
 refine zE ?_
 refine zA (C392 _ _ ?_)
 refine zQ ?_
 refine zR (v := .bool true) (rs := [.tmp 6]) A393 kr (Res.tmp kr Res.nil) kr ?_
 exact ⟨j325.upd, _, rfl, rfl⟩
end Go.Proofs.Ytoocgllbbihoaaa
namespace Go.Proofs.Ytoocgllbbihoaaa
open Go Go.Gv Go.ChangeShapes Go.WideShapes Go.ChangeAt Go.RowKit
theorem own_mdpContracts : ownKnob Try.prog.godebug = Option.none := by kernel_rfl
theorem laidOut_mdpContracts : laidOutB Try.prog = true := by kernel_rfl
set_option maxRecDepth 100000 in
theorem mdpContracts_lifted (os : Os) (started : os.Started) (H : Type) (enc : TypeId × Value → H) :
    ReturnsInHanded {} Try.checked os 6 .any (Rows.mdpContractsSpec.pre6 enc Try.prog Try.f6 Rows.mdpContractsRow.domain false) (Rows.mdpContractsSpec.post enc Try.prog Try.f6 false true false false) := by
  refine returnsInHanded_of_change (C := Try.checked) own_mdpContracts started (by kernel_rfl) Try.func6
    (ChangeSpec.witness6 (enc := enc) (C := Try.checked) false ⟨#[], #[.agg #[.bool false, .slice none 0 0, .slice none 0 0, .slice none 0 0], .slice none 0 0, .slice none 0 0], []⟩ 8 (by kernel_rfl) (by kernel_rfl) (by kernel_rfl) (by kernel_rfl)) ?_
  intro W base args ds gs before hval0 hW hcnd _
  have hval : ∀ (j : Nat) t v, Try.f6.params[j]? = some t → args[j]? = some v → Value.okWide Try.prog W .any base t v := hval0
  have hW' := hW
  obtain ⟨p, q, hA0, hV, rfl, hfz, hnd⟩ := hW
  have hA : DataW.TrodAll enc Try.prog W 0 (fun _ => true) true Try.f6.params.toList args.toList ds p := hA0
  rw [Try.params6] at hA hval
  obtain ⟨v0, v1, v2, d0, d1, d2, p0, p1, p2, rfl, rfl, rfl, h0, h1, h2⟩ := trodAll_three hA
  obtain ⟨rfl, rfl⟩ := trodVars_none hV
  have h0k := h0
  obtain ⟨m0, a1_0, a2_0, a3_0, a4_0, a5_0, a6_0, a7_0, a8_0, a9_0, rfl, g1_0, g2_0, g3_0⟩ := open_mdp (hval 0 28 v0 rfl rfl) h0
  have h1k := h1
  obtain ⟨ad1, len1, cap1, xs1, rfl, g1⟩ := open_arats (hval 1 29 v1 rfl rfl) h1
  have h2k := h2
  obtain ⟨ad2, len2, cap2, xs2, rfl, g2⟩ := open_arats (hval 2 29 v2 rfl rfl) h2
  clear hA0 hval0
  simp only [List.append_nil] at hW'
  refine (contracts_c W X0 (X0_lt _) m0 _ _ _ g1_0 _ _ _ g2_0 _ _ _ g3_0 xs1 _ _ _ g1 xs2 _ _ _ g2).mono ?_
  rintro e W' ⟨hu, v, rfl, rfl⟩
  have hb := Upd.below hu
  exact ⟨_, rfl, _, _, _, [] ++ [], _, [], hW', trodAll_mk1 (shut_bool (by kernel_rfl) true), trodAll_mk3 (Below.trod laidOut_mdpContracts (by kernel_rfl) (of_decide_eq_true (by kernel_rfl)) h0k hb (fun x hx => by simpa using hW'.lt x (by simp [hx]))) (Below.trod laidOut_mdpContracts (by kernel_rfl) (of_decide_eq_true (by kernel_rfl)) h1k hb (fun x hx => by simpa using hW'.lt x (by simp [hx]))) (Below.trod laidOut_mdpContracts (by kernel_rfl) (of_decide_eq_true (by kernel_rfl)) h2k hb (fun x hx => by simpa using hW'.lt x (by simp [hx]))), rfl, hb.frame _, fun h => by cases h⟩
theorem mdpContracts_holds : Rows.MdpContractsSaid :=
  OpenClaim.holds_of_wide 6 Try.f6 rfl rfl rfl rfl rfl rfl rfl ⟨rfl, rfl, rfl, rfl, rfl⟩ rfl rfl rfl rfl rfl (by kernel_rfl) Try.func6 (by kernel_rfl)
    (of_decide_eq_true (by kernel_rfl)) (by unfold Func.isWrapper; first | (rw [if_pos (by decide +kernel)]; kernel_rfl) | (rw [if_neg (by decide +kernel)]; exact ⟨rfl, rfl⟩))
    (fun os started H enc _ => mdpContracts_lifted os started H enc)
end Go.Proofs.Ytoocgllbbihoaaa

/- Parts of the proof: F1 F2 F3 F4 F5 F6 F7 F8 F9 F10 F11 F12 F13 F14 F15 F16 F17 F18 F19 F20. By an AI agent. -/
import Derived.Test.YtoocgllbbihoaaaRows
import Derived.Test.YtoocgllbbihoaaaBaseA
import Derived.Test.YtoocgllbbihoaaaBaseB
set_option linter.unusedVariables false
set_option linter.unusedSimpArgs false
set_option linter.unnecessarySimpa false
namespace Go.Proofs.Ytoocgllbbihoaaa
open Go Go.Gv Go.RowKit
set_option maxRecDepth 100000
set_option maxHeartbeats 1000000
theorem trim_c (w : World) (X : Hid) (hX : ∀ k o, X k o → k < w.heap.size) (ad : Option Addr) (len cap : Nat) (l : List Nat) (h : Limbs (rd w X) ad len cap l) :
    Calls Try.prog 71 #[.slice ad len cap] w (Ret E0 w fun _ v => v = .slice ad (trimN l) cap) := by
 have hl := h.hlen
 have hcap := h.hcap
 have hbig := h.hbig
 refine zZ (n := 21) (vs := [.slice ad len cap]) Try.func71 rfl rfl rfl kr (fun a0 A0 => ?_)
 have A0 : Fr 21 a0 [(0, .slice ad len cap)] := A0
 have j0 : St E0 w X w X [] := St.start hX
 refine zD (fun K1 C1 => ?_)
 refine zC ?_
 refine zB 1 [(2, .slice none 0 0)] A0 kr kr (fun a2 A2 => ?_)
 refine zE ?_
 refine zA (C1 _ _ ?_)
 refine zD (fun K3 C3 => ?_)
 refine zV ?_
 refine qC (fun (k : Nat) a w1 => k ≤ l.length ∧ trimTo l k = trimTo l l.length ∧ Fr 21 a [(0, .slice ad k cap)] ∧ St E0 w X w1 X [] ∧ Le (rd w X) (rd w1 X)) (fun k => k) l.length ?_ ?_
 ·
  exact ⟨Nat.le_refl _, rfl, hl ▸ A2.as [0] kr kr, j0, Le.refl _⟩
 rintro k a1 w1 ⟨hk, ht, A1, j1, q1⟩
 refine zD (fun K4 C4 => ?_)
 refine zD (fun K5 C5 => ?_)
 refine zC ?_
 refine zB 4 [(6, .bool (decide ((k : Int) > 0))), (5, .bool (decide ((k : Int) > 0))), (4, .int .i64 (k : Int)), (3, .slice ad k cap)] A1 kr kr (fun a6 A6 => ?_)
 rcases Bool.eq_false_or_eq_true (decide ((k : Int) > 0)) with hc7 | hc7
 ·
  have A8 := A6.set 6 (v' := .bool true) kr rfl (zG hc7)
  have ht9 : (k : Int) > 0 := of_decide_eq_true hc7
  obtain ⟨bk10, of11, rfl, _⟩ := h.addr (by omega)
  have hcell := (h.cell (i := k - 1) (by omega))
  refine zB 4 [(10, .int .i64 (IntKind.i64.wrap ((k : Int) - 1))), (9, .int .i64 (k : Int)), (8, .slice (some ⟨bk10, of11, none⟩) k cap), (7, .slice (some ⟨bk10, of11, none⟩) k cap)] A8 kr kr (fun a12 A12 => ?_)
  have A13 := A12.set 10 (v' := .int .i64 ((k : Int) - 1)) kr rfl (vint (wi64 (by omega) (by omega)))
  refine wplI A13 kr (zJ (d := 11) (v := .pointer (some ⟨bk10, of11 + (k - 1), none⟩)) A13 kr (zP (t := 23) (e := 93) (b := bk10) (off := of11) (len := k) (cap := cap) (kd := .i64) (i := (k : Int) - 1) (g := false) (m := 1) (off' := of11 + (k - 1)) rfl kr kr kr kr (by omega) (by omega) (by first | omega | (simp; done) | (simp; omega)) _) ?_)
  intro a14 A14
  refine wplI A14 kr (zJ (d := 12) (v := .int .u32 ((l.getD (k - 1) 0 : Nat) : Int)) A14 kr (zF (t := 93) (g := false) (vs := [.int .u32 ((l.getD (k - 1) 0 : Nat) : Int)]) (ad := ⟨bk10, of11 + (k - 1), none⟩) rfl kr kr ir ((hcell.mono q1)).cells) ?_)
  intro a15 A15
  refine zB 2 [(14, .bool (((l.getD (k - 1) 0 : Nat) : Int) == 0)), (13, .bool (((l.getD (k - 1) 0 : Nat) : Int) == 0))] A15 kr kr (fun a16 A16 => ?_)
  refine zE ?_
  refine zA (C5 _ _ ?_)
  refine zS (((l.getD (k - 1) 0 : Nat) : Int) == 0) A16 kr kr (fun hc17 => ?_) (fun hc17 => ?_)
  ·
   have A18 := A16.set 14 (v' := .bool true) kr rfl (zG hc17)
   have ht19 : ((l.getD (k - 1) 0 : Nat) : Int) = 0 := by simpa using hc17
   have hk2 := trimTo_pred (l := l) (k := k) (by omega) (by omega)
   refine i_skip ?_
   refine zA (C4 _ _ ?_)
   refine zV ?_
   refine zC ?_
   refine zB 4 [(18, .int .i64 (IntKind.i64.wrap ((k : Int) - 1))), (17, .int .i64 (k : Int)), (16, .slice (some ⟨bk10, of11, none⟩) k cap), (15, .slice (some ⟨bk10, of11, none⟩) k cap)] A18 kr kr (fun a20 A20 => ?_)
   have A21 := A20.set 18 (v' := .int .i64 ((k : Int) - 1)) kr rfl (vint (wi64 (by omega) (by omega)))
   refine wplI A21 kr (zJ (d := 19) (v := .slice (some ⟨bk10, of11, none⟩) (k - 1) cap) A21 kr (run_sliceTo' (t := 23) (e := 93) (ad := (some ⟨bk10, of11, none⟩)) (len := k) (cap := cap) (kd := .i64) (i := (k : Int) - 1) (h' := (k - 1)) (g := false) (m := 1) rfl kr kr kr kr (by omega) (by omega) (by first | omega | (simp; done) | (simp; omega)) _) ?_)
   intro a22 A22
   refine zB 1 [(0, .slice (some ⟨bk10, of11, none⟩) (k - 1) cap)] A22 kr kr (fun a23 A23 => ?_)
   refine zE ?_
   refine zW ?_
   refine zA ?_
   exact ⟨k - 1, ⟨by omega, by omega, A23.as [0] kr kr, j1, q1⟩, by omega⟩
  have A24 := A16.set 14 (v' := .bool false) kr rfl (zG hc17)
  have ht25 : ((l.getD (k - 1) 0 : Nat) : Int) ≠ 0 := by simpa using hc17
  have hk2 := trimTo_here (l := l) (k := k) (by omega) (by omega)
  refine i_exit ?_
  refine zT ?_
  refine zT ?_
  refine qA ?_
  refine zA (C3 _ _ ?_)
  refine zD (fun K26 C26 => ?_)
  refine zC ?_
  refine zB 2 [(2, .slice (some ⟨bk10, of11, none⟩) k cap), (20, .slice (some ⟨bk10, of11, none⟩) k cap)] A24 kr kr (fun a27 A27 => ?_)
  refine zE ?_
  refine zA (C26 _ _ ?_)
  refine zQ ?_
  refine zR (v := .slice (some ⟨bk10, of11, none⟩) k cap) (rs := [.tmp 2]) A27 kr (Res.tmp kr Res.nil) kr ?_
  exact ⟨j1.upd, _, rfl, by unfold trimN; first | rw [← ht, hk2] | rw [← ht]; rfl⟩
 have A28 := A6.set 6 (v' := .bool false) kr rfl (zG hc7)
 have ht29 : ¬ ((k : Int) > 0) := of_decide_eq_false hc7
 obtain rfl : k = 0 := by omega
 refine zB 8 [(14, .bool false), (13, undef), (12, undef), (11, undef), (10, undef), (9, undef), (8, undef), (7, undef)] A28 kr kr (fun a30 A30 => ?_)
 refine zE ?_
 refine zA (C5 _ _ ?_)
 refine qH A30 kr kr ?_
 refine i_exit ?_
 refine zT ?_
 refine zT ?_
 refine qA ?_
 refine zA (C3 _ _ ?_)
 refine zD (fun K31 C31 => ?_)
 refine zC ?_
 refine zB 2 [(2, .slice ad 0 cap), (20, .slice ad 0 cap)] A30 kr kr (fun a32 A32 => ?_)
 refine zE ?_
 refine zA (C31 _ _ ?_)
 refine zQ ?_
 refine zR (v := .slice ad 0 cap) (rs := [.tmp 2]) A32 kr (Res.tmp kr Res.nil) kr ?_
 exact ⟨j1.upd, _, rfl, by unfold trimN; first | rw [← ht, hk2] | rw [← ht]; rfl⟩
end Go.Proofs.Ytoocgllbbihoaaa
namespace Go.Proofs.Ytoocgllbbihoaaa
open Go Go.Gv Go.RowKit
set_option maxRecDepth 100000
set_option maxHeartbeats 1000000
theorem isNaN_int (w : World) (X : Hid) (hX : ∀ k o, X k o → k < w.heap.size) (x : Int) : Calls Try.prog 93 #[.int .i64 x] w (Ret E0 w fun _ v => v = .bool false) := by
 refine zZ (n := 6) (vs := [.int .i64 x]) Try.func93 rfl rfl rfl kr (fun a0 A0 => ?_)
 have A0 : Fr 6 a0 [(0, .int .i64 x)] := A0
 have j0 : St E0 w X w X [] := St.start hX
 refine zD (fun K1 C1 => ?_)
 refine zC ?_
 refine zB 1 [(2, .bool false)] A0 kr kr (fun a2 A2 => ?_)
 refine zE ?_
 refine zA (C1 _ _ ?_)
 refine zD (fun K3 C3 => ?_)
 refine zC ?_
 refine zB 4 [(2, .bool ((x) != x)), (5, .bool ((x) != x)), (4, .int .i64 x), (3, .int .i64 x)] A2 kr kr (fun a4 A4 => ?_)
 refine zE ?_
 refine zA (C3 _ _ ?_)
 refine zQ ?_
 refine zR (v := .bool ((x) != x)) (rs := [.tmp 2]) A4 kr (Res.tmp kr Res.nil) kr ?_
 exact ⟨j0.upd, _, rfl, by simp⟩
theorem isNaN_uint32 (w : World) (X : Hid) (hX : ∀ k o, X k o → k < w.heap.size) (x : Int) : Calls Try.prog 94 #[.int .u32 x] w (Ret E0 w fun _ v => v = .bool false) := by
 refine zZ (n := 6) (vs := [.int .u32 x]) Try.func94 rfl rfl rfl kr (fun a0 A0 => ?_)
 have A0 : Fr 6 a0 [(0, .int .u32 x)] := A0
 have j0 : St E0 w X w X [] := St.start hX
 refine zD (fun K1 C1 => ?_)
 refine zC ?_
 refine zB 1 [(2, .bool false)] A0 kr kr (fun a2 A2 => ?_)
 refine zE ?_
 refine zA (C1 _ _ ?_)
 refine zD (fun K3 C3 => ?_)
 refine zC ?_
 refine zB 4 [(2, .bool ((x) != x)), (5, .bool ((x) != x)), (4, .int .u32 x), (3, .int .u32 x)] A2 kr kr (fun a4 A4 => ?_)
 refine zE ?_
 refine zA (C3 _ _ ?_)
 refine zQ ?_
 refine zR (v := .bool ((x) != x)) (rs := [.tmp 2]) A4 kr (Res.tmp kr Res.nil) kr ?_
 exact ⟨j0.upd, _, rfl, by simp⟩
def cmpI (x y : Int) : Int := if x < y then -1 else if x > y then 1 else 0
theorem compare_int (w : World) (X : Hid) (hX : ∀ k o, X k o → k < w.heap.size) (x y : Int) : Calls Try.prog 72 #[.int .i64 x, .int .i64 y] w (Ret E0 w fun _ v => v = .int .i64 (cmpI x y)) := by
 refine zZ (n := 20) (vs := [.int .i64 x, .int .i64 y]) Try.func72 rfl rfl rfl kr (fun a0 A0 => ?_)
 have A0 : Fr 20 a0 [(0, .int .i64 x), (1, .int .i64 y)] := A0
 have j0 : St E0 w X w X [] := St.start hX
 refine zD (fun K1 C1 => ?_)
 refine zC ?_
 refine zB 1 [(4, .int .i64 0)] A0 kr kr (fun a2 A2 => ?_)
 refine zE ?_
 refine zA (C1 _ _ ?_)
 refine zD (fun K3 C3 => ?_)
 refine zC ?_
 refine zB 1 [(7, .int .i64 x)] A2 kr kr (fun a4 A4 => ?_)
 refine wplI A4 kr (zK (d := 8) (f := 93) (cap := #[]) (vs := #[.int .i64 x]) A4 kr j0 rfl kr kr (fun w => Try.call93 _ w) (isNaN_int _ _ j0.lt x) ?_)
 rintro v5 w5 j5 q5 hu5 rfl a6 A6
 refine zB 1 [(5, .bool false)] A6 kr kr (fun a7 A7 => ?_)
 refine zE ?_
 refine zA (C3 _ _ ?_)
 refine zD (fun K8 C8 => ?_)
 refine zC ?_
 refine zB 1 [(9, .int .i64 y)] A7 kr kr (fun a9 A9 => ?_)
 refine wplI A9 kr (zK (d := 10) (f := 93) (cap := #[]) (vs := #[.int .i64 y]) A9 kr j5 rfl kr kr (fun w => Try.call93 _ w) (isNaN_int _ _ j5.lt y) ?_)
 rintro v10 w10 j10 q10 hu10 rfl a11 A11
 refine zB 1 [(6, .bool false)] A11 kr kr (fun a12 A12 => ?_)
 refine zE ?_
 refine zA (C8 _ _ ?_)
 refine zD (fun K13 C13 => ?_)
 refine zD (fun K14 C14 => ?_)
 refine zC ?_
 refine zB 1 [(11, .bool false)] A12 kr kr (fun a15 A15 => ?_)
 refine zE ?_
 refine zA (C14 _ _ ?_)
 refine qH A15 kr kr ?_
 refine i_skip ?_
 refine zA (C13 _ _ ?_)
 refine zD (fun K16 C16 => ?_)
 refine zD (fun K17 C17 => ?_)
 refine zC ?_
 refine zB 1 [(13, .bool false)] A15 kr kr (fun a18 A18 => ?_)
 refine zE ?_
 refine zA (C17 _ _ ?_)
 refine qH A18 kr kr ?_
 refine i_skip ?_
 refine zA (C16 _ _ ?_)
 refine zD (fun K19 C19 => ?_)
 refine zD (fun K20 C20 => ?_)
 refine zC ?_
 refine zB 3 [(16, .bool (decide ((x) < y))), (15, .int .i64 y), (14, .int .i64 x)] A18 kr kr (fun a21 A21 => ?_)
 refine zE ?_
 refine zA (C20 _ _ ?_)
 refine zS (decide ((x) < y)) A21 kr kr (fun hc22 => ?_) (fun hc22 => ?_)
 ·
  have A23 := A21.set 16 (v' := .bool true) kr rfl (zG hc22)
  have ht24 : (x) < y := of_decide_eq_true hc22
  refine zD (fun K25 C25 => ?_)
  refine zC ?_
  refine zB 1 [(4, .int .i64 (-1))] A23 kr kr (fun a26 A26 => ?_)
  refine zE ?_
  refine zA (C25 _ _ ?_)
  refine zQ ?_
  refine zL ?_
  refine zR (v := .int .i64 (-1)) (rs := [.tmp 4]) A26 kr (Res.tmp kr Res.nil) kr ?_
  exact ⟨j10.upd, _, rfl, vint (by unfold cmpI; (repeat' split) <;> omega)⟩
 have A27 := A21.set 16 (v' := .bool false) kr rfl (zG hc22)
 have ht28 : ¬ ((x) < y) := of_decide_eq_false hc22
 refine i_skip ?_
 refine zA (C19 _ _ ?_)
 refine zD (fun K29 C29 => ?_)
 refine zD (fun K30 C30 => ?_)
 refine zC ?_
 refine zB 3 [(19, .bool (decide ((x) > y))), (18, .int .i64 y), (17, .int .i64 x)] A27 kr kr (fun a31 A31 => ?_)
 refine zE ?_
 refine zA (C30 _ _ ?_)
 refine zS (decide ((x) > y)) A31 kr kr (fun hc32 => ?_) (fun hc32 => ?_)
 ·
  have A33 := A31.set 19 (v' := .bool true) kr rfl (zG hc32)
  have ht34 : (x) > y := of_decide_eq_true hc32
  refine zD (fun K35 C35 => ?_)
  refine zC ?_
  refine zB 1 [(4, .int .i64 1)] A33 kr kr (fun a36 A36 => ?_)
  refine zE ?_
  refine zA (C35 _ _ ?_)
  refine zQ ?_
  refine zL ?_
  refine zR (v := .int .i64 1) (rs := [.tmp 4]) A36 kr (Res.tmp kr Res.nil) kr ?_
  exact ⟨j10.upd, _, rfl, vint (by unfold cmpI; (repeat' split) <;> omega)⟩
 have A37 := A31.set 19 (v' := .bool false) kr rfl (zG hc32)
 have ht38 : ¬ ((x) > y) := of_decide_eq_false hc32
 refine i_skip ?_
 refine zA (C29 _ _ ?_)
 refine zD (fun K39 C39 => ?_)
 refine zC ?_
 refine zB 1 [(4, .int .i64 0)] A37 kr kr (fun a40 A40 => ?_)
 refine zE ?_
 refine zA (C39 _ _ ?_)
 refine zQ ?_
 refine zR (v := .int .i64 0) (rs := [.tmp 4]) A40 kr (Res.tmp kr Res.nil) kr ?_
 exact ⟨j10.upd, _, rfl, vint (by unfold cmpI; (repeat' split) <;> omega)⟩
theorem compare_uint32 (w : World) (X : Hid) (hX : ∀ k o, X k o → k < w.heap.size) (x y : Int) : Calls Try.prog 73 #[.int .u32 x, .int .u32 y] w (Ret E0 w fun _ v => v = .int .i64 (cmpI x y)) := by
 refine zZ (n := 20) (vs := [.int .u32 x, .int .u32 y]) Try.func73 rfl rfl rfl kr (fun a0 A0 => ?_)
 have A0 : Fr 20 a0 [(0, .int .u32 x), (1, .int .u32 y)] := A0
 have j0 : St E0 w X w X [] := St.start hX
 refine zD (fun K1 C1 => ?_)
 refine zC ?_
 refine zB 1 [(4, .int .i64 0)] A0 kr kr (fun a2 A2 => ?_)
 refine zE ?_
 refine zA (C1 _ _ ?_)
 refine zD (fun K3 C3 => ?_)
 refine zC ?_
 refine zB 1 [(7, .int .u32 x)] A2 kr kr (fun a4 A4 => ?_)
 refine wplI A4 kr (zK (d := 8) (f := 94) (cap := #[]) (vs := #[.int .u32 x]) A4 kr j0 rfl kr kr (fun w => Try.call94 _ w) (isNaN_uint32 _ _ j0.lt x) ?_)
 rintro v5 w5 j5 q5 hu5 rfl a6 A6
 refine zB 1 [(5, .bool false)] A6 kr kr (fun a7 A7 => ?_)
 refine zE ?_
 refine zA (C3 _ _ ?_)
 refine zD (fun K8 C8 => ?_)
 refine zC ?_
 refine zB 1 [(9, .int .u32 y)] A7 kr kr (fun a9 A9 => ?_)
 refine wplI A9 kr (zK (d := 10) (f := 94) (cap := #[]) (vs := #[.int .u32 y]) A9 kr j5 rfl kr kr (fun w => Try.call94 _ w) (isNaN_uint32 _ _ j5.lt y) ?_)
 rintro v10 w10 j10 q10 hu10 rfl a11 A11
 refine zB 1 [(6, .bool false)] A11 kr kr (fun a12 A12 => ?_)
 refine zE ?_
 refine zA (C8 _ _ ?_)
 refine zD (fun K13 C13 => ?_)
 refine zD (fun K14 C14 => ?_)
 refine zC ?_
 refine zB 1 [(11, .bool false)] A12 kr kr (fun a15 A15 => ?_)
 refine zE ?_
 refine zA (C14 _ _ ?_)
 refine qH A15 kr kr ?_
 refine i_skip ?_
 refine zA (C13 _ _ ?_)
 refine zD (fun K16 C16 => ?_)
 refine zD (fun K17 C17 => ?_)
 refine zC ?_
 refine zB 1 [(13, .bool false)] A15 kr kr (fun a18 A18 => ?_)
 refine zE ?_
 refine zA (C17 _ _ ?_)
 refine qH A18 kr kr ?_
 refine i_skip ?_
 refine zA (C16 _ _ ?_)
 refine zD (fun K19 C19 => ?_)
 refine zD (fun K20 C20 => ?_)
 refine zC ?_
 refine zB 3 [(16, .bool (decide ((x) < y))), (15, .int .u32 y), (14, .int .u32 x)] A18 kr kr (fun a21 A21 => ?_)
 refine zE ?_
 refine zA (C20 _ _ ?_)
 refine zS (decide ((x) < y)) A21 kr kr (fun hc22 => ?_) (fun hc22 => ?_)
 ·
  have A23 := A21.set 16 (v' := .bool true) kr rfl (zG hc22)
  have ht24 : (x) < y := of_decide_eq_true hc22
  refine zD (fun K25 C25 => ?_)
  refine zC ?_
  refine zB 1 [(4, .int .i64 (-1))] A23 kr kr (fun a26 A26 => ?_)
  refine zE ?_
  refine zA (C25 _ _ ?_)
  refine zQ ?_
  refine zL ?_
  refine zR (v := .int .i64 (-1)) (rs := [.tmp 4]) A26 kr (Res.tmp kr Res.nil) kr ?_
  exact ⟨j10.upd, _, rfl, vint (by unfold cmpI; (repeat' split) <;> omega)⟩
 have A27 := A21.set 16 (v' := .bool false) kr rfl (zG hc22)
 have ht28 : ¬ ((x) < y) := of_decide_eq_false hc22
 refine i_skip ?_
 refine zA (C19 _ _ ?_)
 refine zD (fun K29 C29 => ?_)
 refine zD (fun K30 C30 => ?_)
 refine zC ?_
 refine zB 3 [(19, .bool (decide ((x) > y))), (18, .int .u32 y), (17, .int .u32 x)] A27 kr kr (fun a31 A31 => ?_)
 refine zE ?_
 refine zA (C30 _ _ ?_)
 refine zS (decide ((x) > y)) A31 kr kr (fun hc32 => ?_) (fun hc32 => ?_)
 ·
  have A33 := A31.set 19 (v' := .bool true) kr rfl (zG hc32)
  have ht34 : (x) > y := of_decide_eq_true hc32
  refine zD (fun K35 C35 => ?_)
  refine zC ?_
  refine zB 1 [(4, .int .i64 1)] A33 kr kr (fun a36 A36 => ?_)
  refine zE ?_
  refine zA (C35 _ _ ?_)
  refine zQ ?_
  refine zL ?_
  refine zR (v := .int .i64 1) (rs := [.tmp 4]) A36 kr (Res.tmp kr Res.nil) kr ?_
  exact ⟨j10.upd, _, rfl, vint (by unfold cmpI; (repeat' split) <;> omega)⟩
 have A37 := A31.set 19 (v' := .bool false) kr rfl (zG hc32)
 have ht38 : ¬ ((x) > y) := of_decide_eq_false hc32
 refine i_skip ?_
 refine zA (C29 _ _ ?_)
 refine zD (fun K39 C39 => ?_)
 refine zC ?_
 refine zB 1 [(4, .int .i64 0)] A37 kr kr (fun a40 A40 => ?_)
 refine zE ?_
 refine zA (C39 _ _ ?_)
 refine zQ ?_
 refine zR (v := .int .i64 0) (rs := [.tmp 4]) A40 kr (Res.tmp kr Res.nil) kr ?_
 exact ⟨j10.upd, _, rfl, vint (by unfold cmpI; (repeat' split) <;> omega)⟩
theorem add32 (w : World) (X : Hid) (hX : ∀ k o, X k o → k < w.heap.size) (x y c : Int) (hx : 0 ≤ x ∧ x < 4294967296) (hy : 0 ≤ y ∧ y < 4294967296) (hc : 0 ≤ c ∧ c ≤ 1) : Calls Try.prog 105 #[.int .u32 x, .int .u32 y, .int .u32 c] w (Ret E0 w fun _ v => v = .tuple #[.int .u32 ((x + y + c) % 4294967296), .int .u32 ((x + y + c) / 4294967296)]) := by
 refine zZ (n := 22) (vs := [.int .u32 x, .int .u32 y, .int .u32 c]) Try.func105 rfl rfl rfl kr (fun a0 A0 => ?_)
 have A0 : Fr 22 a0 [(0, .int .u32 x), (1, .int .u32 y), (2, .int .u32 c)] := A0
 have j0 : St E0 w X w X [] := St.start hX
 refine zD (fun K1 C1 => ?_)
 refine zC ?_
 refine zB 2 [(7, .int .u32 0), (6, .int .u32 0)] A0 kr kr (fun a2 A2 => ?_)
 refine zE ?_
 refine zA (C1 _ _ ?_)
 refine zD (fun K3 C3 => ?_)
 refine zC ?_
 refine zB 2 [(10, .int .u64 (IntKind.u64.wrap (x))), (9, .int .u32 x)] A2 kr kr (fun a4 A4 => ?_)
 have A5 := A4.set 10 (v' := .int .u64 x) kr rfl (vint (wu64 (by omega) (by omega)))
 refine zB 2 [(12, .int .u64 (IntKind.u64.wrap (y))), (11, .int .u32 y)] A5 kr kr (fun a6 A6 => ?_)
 have A7 := A6.set 12 (v' := .int .u64 y) kr rfl (vint (wu64 (by omega) (by omega)))
 refine zB 1 [(13, .int .u64 (IntKind.u64.wrap ((x) + y)))] A7 kr kr (fun a8 A8 => ?_)
 have A9 := A8.set 13 (v' := .int .u64 ((x) + y)) kr rfl (vint (wu64 (by omega) (by omega)))
 refine zB 2 [(15, .int .u64 (IntKind.u64.wrap (c))), (14, .int .u32 c)] A9 kr kr (fun a10 A10 => ?_)
 have A11 := A10.set 15 (v' := .int .u64 c) kr rfl (vint (wu64 (by omega) (by omega)))
 refine zB 1 [(16, .int .u64 (IntKind.u64.wrap (((x) + y) + c)))] A11 kr kr (fun a12 A12 => ?_)
 have A13 := A12.set 16 (v' := .int .u64 (((x) + y) + c)) kr rfl (vint (wu64 (by omega) (by omega)))
 refine zB 1 [(8, .int .u64 (((x) + y) + c))] A13 kr kr (fun a14 A14 => ?_)
 refine zE ?_
 refine zA (C3 _ _ ?_)
 refine zD (fun K15 C15 => ?_)
 refine zC ?_
 refine zB 2 [(18, .int .u32 (IntKind.u32.wrap (((x) + y) + c))), (17, .int .u64 (((x) + y) + c))] A14 kr kr (fun a16 A16 => ?_)
 have A17 := A16.set 18 (v' := .int .u32 ((((x) + y) + c) % 4294967296)) kr rfl (vint (wrap_u32 _))
 refine zB 1 [(6, .int .u32 ((((x) + y) + c) % 4294967296))] A17 kr kr (fun a18 A18 => ?_)
 refine zE ?_
 refine zA (C15 _ _ ?_)
 refine zD (fun K19 C19 => ?_)
 refine zC ?_
 refine zB 2 [(20, .int .u64 (Int.fdiv (((x) + y) + c) (2 ^ 32))), (19, .int .u64 (((x) + y) + c))] A18 kr kr (fun a20 A20 => ?_)
 have A21 := A20.set 20 (v' := .int .u64 ((((x) + y) + c) / 4294967296)) kr rfl (vint (fdiv_pow _ 32 (by decide) (by decide)))
 refine zB 1 [(21, .int .u32 (IntKind.u32.wrap ((((x) + y) + c) / 4294967296)))] A21 kr kr (fun a22 A22 => ?_)
 have A23 := A22.set 21 (v' := .int .u32 (((x) + (y) + (c)) / 4294967296)) kr rfl (vint (wu32 (by omega) (by omega)))
 refine zB 1 [(7, .int .u32 (((x) + (y) + (c)) / 4294967296))] A23 kr kr (fun a24 A24 => ?_)
 refine zE ?_
 refine zA (C19 _ _ ?_)
 refine zQ ?_
 refine zR (v := .tuple #[.int .u32 ((((x) + y) + c) % 4294967296), .int .u32 (((x) + (y) + (c)) / 4294967296)]) (rs := [.tmp 6, .tmp 7]) A24 kr (Res.tmp kr (Res.tmp kr Res.nil)) kr ?_
 exact ⟨j0.upd, _, rfl, by first | rfl | (congr 3; omega) | skip⟩
end Go.Proofs.Ytoocgllbbihoaaa
namespace Go.Proofs.Ytoocgllbbihoaaa
open Go Go.Gv Go.RowKit
set_option maxRecDepth 100000
set_option maxHeartbeats 1000000
theorem sub32 (w : World) (X : Hid) (hX : ∀ k o, X k o → k < w.heap.size) (x y c : Int) (hx : 0 ≤ x ∧ x < 4294967296) (hy : 0 ≤ y ∧ y < 4294967296) (hc : 0 ≤ c ∧ c ≤ 1) : Calls Try.prog 74 #[.int .u32 x, .int .u32 y, .int .u32 c] w (Ret E0 w fun _ v => v = .tuple #[.int .u32 ((((x) - y) % 4294967296 - c) % 4294967296), .int .u32 (if x < y + c then 1 else 0)]) := by
 refine zZ (n := 25) (vs := [.int .u32 x, .int .u32 y, .int .u32 c]) Try.func74 rfl rfl rfl kr (fun a0 A0 => ?_)
 have A0 : Fr 25 a0 [(0, .int .u32 x), (1, .int .u32 y), (2, .int .u32 c)] := A0
 have j0 : St E0 w X w X [] := St.start hX
 refine zD (fun K1 C1 => ?_)
 refine zC ?_
 refine zB 2 [(7, .int .u32 0), (6, .int .u32 0)] A0 kr kr (fun a2 A2 => ?_)
 refine zE ?_
 refine zA (C1 _ _ ?_)
 refine zD (fun K3 C3 => ?_)
 refine zC ?_
 refine zB 3 [(10, .int .u32 (IntKind.u32.wrap ((x) - y))), (9, .int .u32 y), (8, .int .u32 x)] A2 kr kr (fun a4 A4 => ?_)
 have A5 := A4.set 10 (v' := .int .u32 (((x) - y) % 4294967296)) kr rfl (vint (wrap_u32 _))
 refine zB 2 [(12, .int .u32 (IntKind.u32.wrap ((((x) - y) % 4294967296) - c))), (11, .int .u32 c)] A5 kr kr (fun a6 A6 => ?_)
 have A7 := A6.set 12 (v' := .int .u32 (((((x) - y) % 4294967296) - c) % 4294967296)) kr rfl (vint (wrap_u32 _))
 refine zB 1 [(6, .int .u32 (((((x) - y) % 4294967296) - c) % 4294967296))] A7 kr kr (fun a8 A8 => ?_)
 refine zE ?_
 refine zA (C3 _ _ ?_)
 refine zD (fun K9 C9 => ?_)
 refine zC ?_
 refine zB 12 [(24, .int .u32 (Int.fdiv (bor32 (band32 (bxor32 4294967295 x) y) (band32 (bxor32 4294967295 (bxor32 x y)) (((((x) - y) % 4294967296) - c) % 4294967296))) (2 ^ 31))), (23, .int .u32 (bor32 (band32 (bxor32 4294967295 x) y) (band32 (bxor32 4294967295 (bxor32 x y)) (((((x) - y) % 4294967296) - c) % 4294967296)))), (22, .int .u32 (band32 (bxor32 4294967295 (bxor32 x y)) (((((x) - y) % 4294967296) - c) % 4294967296))), (21, .int .u32 (((((x) - y) % 4294967296) - c) % 4294967296)), (20, .int .u32 (bxor32 4294967295 (bxor32 x y))), (19, .int .u32 (bxor32 x y)), (18, .int .u32 y), (17, .int .u32 x), (16, .int .u32 (band32 (bxor32 4294967295 x) y)), (15, .int .u32 y), (14, .int .u32 (bxor32 4294967295 x)), (13, .int .u32 x)] A8 kr kr (fun a10 A10 => ?_)
 have A11 := A10.set 24 (v' := .int .u32 ((bor32 (band32 (bxor32 4294967295 x) y) (band32 (bxor32 4294967295 (bxor32 x y)) (((((x) - y) % 4294967296) - c) % 4294967296))) / 2147483648)) kr rfl (vint (fdiv_pow _ 31 (by decide) (by decide)))
 refine zB 1 [(7, .int .u32 ((bor32 (band32 (bxor32 4294967295 x) y) (band32 (bxor32 4294967295 (bxor32 x y)) (((((x) - y) % 4294967296) - c) % 4294967296))) / 2147483648))] A11 kr kr (fun a12 A12 => ?_)
 refine zE ?_
 refine zA (C9 _ _ ?_)
 refine zQ ?_
 refine zR (v := .tuple #[.int .u32 (((((x) - y) % 4294967296) - c) % 4294967296), .int .u32 ((bor32 (band32 (bxor32 4294967295 x) y) (band32 (bxor32 4294967295 (bxor32 x y)) (((((x) - y) % 4294967296) - c) % 4294967296))) / 2147483648)]) (rs := [.tmp 6, .tmp 7]) A12 kr (Res.tmp kr (Res.tmp kr Res.nil)) kr ?_
 exact ⟨j0.upd, _, rfl, by
    obtain ⟨xn, rfl⟩ := Int.eq_ofNat_of_zero_le hx.1
    obtain ⟨yn, rfl⟩ := Int.eq_ofNat_of_zero_le hy.1
    obtain ⟨cn, rfl⟩ := Int.eq_ofNat_of_zero_le hc.1
    obtain ⟨dn, hd⟩ := Int.eq_ofNat_of_zero_le (a := (((xn : Int) - yn) % 4294967296 - cn) % 4294967296) (by omega)
    have := sub32_nat xn yn cn dn (by omega) (by omega) (by omega) (by omega) hd.symm
    rw [hd, this]⟩
theorem or_c (w : World) (X : Hid) (hX : ∀ k o, X k o → k < w.heap.size) (b off len cap : Nat) (es : List Int) (hlen : len = es.length) (hbig : es.length ≤ 1000) (hat : At (rd w X) ⟨b, off, none⟩ (I64 es)) : Calls Try.prog 50 #[.slice (some ⟨b, off, none⟩) len cap] w (Ret E0 w fun _ v => v = .int .i64 (orL es)) := by
 refine zZ (n := 18) (vs := [.slice (some ⟨b, off, none⟩) len cap]) Try.func50 rfl rfl rfl kr (fun a0 A0 => ?_)
 have A0 : Fr 18 a0 [(0, .slice (some ⟨b, off, none⟩) len cap)] := A0
 have j0 : St E0 w X w X [] := St.start hX
 refine zD (fun K1 C1 => ?_)
 refine zC ?_
 refine zB 1 [(2, .int .i64 0)] A0 kr kr (fun a2 A2 => ?_)
 refine zE ?_
 refine zA (C1 _ _ ?_)
 refine zD (fun K3 C3 => ?_)
 refine zC ?_
 refine zB 1 [(3, .int .i64 0)] A2 kr kr (fun a4 A4 => ?_)
 refine zE ?_
 refine zA (C3 _ _ ?_)
 refine zD (fun K5 C5 => ?_)
 refine zD (fun K6 C6 => ?_)
 refine zC ?_
 refine zB 3 [(8, .int .i64 0), (7, .int .i64 (len : Int)), (6, .slice (some ⟨b, off, none⟩) len cap)] A4 kr kr (fun a7 A7 => ?_)
 refine zE ?_
 refine zA (C6 _ _ ?_)
 refine zV ?_
 refine qC (fun (k : Nat) ac w1 => ∃ (Y1 : Hid), Fr 18 ac [(3, .int .i64 0), (6, .slice (some ⟨b, off, none⟩) len cap), (7, .int .i64 (len : Int)), (8, .int .i64 (k : Int))] ∧ St E0 w X w1 Y1 [] ∧ Le (rd w X) (rd w1 Y1) ∧ (k ≤ es.length) ∧ (∀ j, j < k → es.getD j 0 = 0)) (fun (k : Nat) => es.length - k) 0 ?_ ?_
 ·
  refine ⟨_, A7.as [3, 6, 7, 8] kr kr, j0, Le.refl _, Nat.zero_le _, fun j hj => absurd hj (Nat.not_lt_zero j)⟩
 rintro k a8 w8 ⟨Y8, A8, j8, q8, hp8_0, hp8_1⟩
 refine zD (fun K9 C9 => ?_)
 refine zC ?_
 refine zB 1 [(9, .bool (decide ((k : Int) < (len : Int))))] A8 kr kr (fun a10 A10 => ?_)
 refine zE ?_
 refine zA (C9 _ _ ?_)
 refine zD (fun K11 C11 => ?_)
 refine zS (decide ((k : Int) < (len : Int))) A10 kr kr (fun hc12 => ?_) (fun hc12 => ?_)
 ·
  have A13 := A10.set 9 (v' := .bool true) kr rfl (zG hc12)
  have ht14 : (k : Int) < (len : Int) := of_decide_eq_true hc12
  have hcell := (hat.one (I64_get (l := es) (i := k) (by omega)))
  refine i_skip ?_
  refine zA (C11 _ _ ?_)
  refine zD (fun K15 C15 => ?_)
  refine zV ?_
  refine zD (fun K16 C16 => ?_)
  refine zC ?_
  refine wplI A13 kr (zJ (d := 10) (v := .pointer (some ⟨b, off + k, none⟩)) A13 kr (zP (t := 111) (e := 34) (b := b) (off := off) (len := len) (cap := cap) (kd := .i64) (i := (k : Int)) (g := false) (m := 1) (off' := off + k) rfl kr kr kr kr (by omega) (by omega) (by first | rfl | omega | (simp; done) | (simp; omega)) _) ?_)
  intro a17 A17
  refine wplI A17 kr (zJ (d := 11) (v := .int .i64 (es.getD k 0)) A17 kr (zF (t := 34) (g := false) (vs := [.int .i64 (es.getD k 0)]) (ad := ⟨b, off + k, none⟩) rfl kr kr ir ((hcell.mono q8)).cells) ?_)
  intro a18 A18
  refine zB 1 [(5, .int .i64 (es.getD k 0))] A18 kr kr (fun a19 A19 => ?_)
  refine zE ?_
  refine zA (C16 _ _ ?_)
  refine zD (fun K20 C20 => ?_)
  refine zC ?_
  refine zB 3 [(14, .bool ((es.getD k 0) != 0)), (13, .int .i64 0), (12, .int .i64 (es.getD k 0))] A19 kr kr (fun a21 A21 => ?_)
  refine zE ?_
  refine zA (C20 _ _ ?_)
  refine zS ((es.getD k 0) != 0) A21 kr kr (fun hc22 => ?_) (fun hc22 => ?_)
  ·
   have A23 := A21.set 14 (v' := .bool true) kr rfl (zG hc22)
   have ht24 : (es.getD k 0) ≠ 0 := by simpa using hc22
   refine zD (fun K25 C25 => ?_)
   refine zC ?_
   refine zB 2 [(2, .int .i64 (es.getD k 0)), (15, .int .i64 (es.getD k 0))] A23 kr kr (fun a26 A26 => ?_)
   refine zE ?_
   refine zA (C25 _ _ ?_)
   refine zQ ?_
   refine zU ?_
   refine zL ?_
   refine zL ?_
   refine zU ?_
   refine zL ?_
   refine zR (v := .int .i64 (es.getD k 0)) (rs := [.tmp 2]) A26 kr (Res.tmp kr Res.nil) kr ?_
   exact ⟨j8.upd, _, rfl, vint (by first | exact (orL_zero es (fun j hj => hp8_1 j (by omega))).symm | exact (orL_at es k (by omega) hp8_1 (by omega)).symm)⟩
  have A27 := A21.set 14 (v' := .bool false) kr rfl (zG hc22)
  have ht28 : (es.getD k 0) = 0 := by simpa using hc22
  refine i_skip ?_
  refine zW ?_
  refine zA (C15 _ _ ?_)
  refine zC ?_
  refine zB 1 [(16, .int .i64 (IntKind.i64.wrap ((k : Int) + 1)))] A27 kr kr (fun a29 A29 => ?_)
  have A30 := A29.set 16 (v' := .int .i64 ((k : Int) + 1)) kr rfl (vint (wi64 (by omega) (by omega)))
  refine zB 1 [(8, .int .i64 ((k : Int) + 1))] A30 kr kr (fun a31 A31 => ?_)
  refine zE ?_
  refine zA ?_
  refine ⟨k + 1, ⟨_, A31.as [3, 6, 7, 8] kr kr, j8, q8, by omega, fun j hj => (by rcases Nat.lt_succ_iff_lt_or_eq.1 hj with h | h; exact hp8_1 j h; rw [h]; omega)⟩, ?_⟩
  first | omega | (simp; omega)
 have A32 := A10.set 9 (v' := .bool false) kr rfl (zG hc12)
 have ht33 : ¬ ((k : Int) < (len : Int)) := of_decide_eq_false hc12
 have hk : k = es.length := by omega
 refine i_exit ?_
 refine zT ?_
 refine zT ?_
 refine qA ?_
 refine zA (C5 _ _ ?_)
 refine zD (fun K34 C34 => ?_)
 refine zC ?_
 refine zB 2 [(2, .int .i64 0), (17, .int .i64 0)] A32 kr kr (fun a35 A35 => ?_)
 refine zE ?_
 refine zA (C34 _ _ ?_)
 refine zQ ?_
 refine zR (v := .int .i64 0) (rs := [.tmp 2]) A35 kr (Res.tmp kr Res.nil) kr ?_
 exact ⟨j8.upd, _, rfl, vint (by first | exact (orL_zero es (fun j hj => hp8_1 j (by omega))).symm | exact (orL_at es k (by omega) hp8_1 (by omega)).symm)⟩
theorem clone_nil (w : World) (X : Hid) (hX : ∀ k o, X k o → k < w.heap.size) (len cap : Nat) (l : List Nat) (hl : len = l.length) (hlen : len ≤ 35184372088831) (hlt : ∀ x ∈ l, x < 4294967296) (hnil : l = []) : Calls Try.prog 53 #[.slice none len cap] w (Ret E0 w fun w' v => ∃ ad' len' cap', OwnU w w' 93 v l ad' len' cap') := by
 refine zZ (n := 8) (vs := [.slice none len cap]) Try.func53 rfl rfl rfl kr (fun a0 A0 => ?_)
 have A0 : Fr 8 a0 [(0, .slice none len cap)] := A0
 have j0 : St E0 w X w X [] := St.start hX
 refine zD (fun K1 C1 => ?_)
 refine zC ?_
 refine zB 1 [(2, .slice none 0 0)] A0 kr kr (fun a2 A2 => ?_)
 refine zE ?_
 refine zA (C1 _ _ ?_)
 refine zD (fun K3 C3 => ?_)
 refine zD (fun K4 C4 => ?_)
 refine zC ?_
 refine zB 2 [(4, .bool true), (3, .slice none len cap)] A2 kr kr (fun a5 A5 => ?_)
 refine zE ?_
 refine zA (C4 _ _ ?_)
 refine qG A5 kr kr ?_
 refine zD (fun K6 C6 => ?_)
 refine zC ?_
 refine zB 1 [(2, .slice none 0 0)] A5 kr kr (fun a7 A7 => ?_)
 refine zE ?_
 refine zA (C6 _ _ ?_)
 refine zQ ?_
 refine zL ?_
 refine zR (v := .slice none 0 0) (rs := [.tmp 2]) A7 kr (Res.tmp kr Res.nil) kr ?_
 exact ⟨j0.upd, _, rfl, _, _, _, ⟨rfl, by rw [hnil]; rfl, hlt, .inl ⟨rfl, rfl, rfl⟩⟩⟩
theorem clone_some (w : World) (X : Hid) (hX : ∀ k o, X k o → k < w.heap.size) (ad : Addr) (len cap : Nat) (l : List Nat) (hl : len = l.length) (hlen : len ≤ 35184372088831) (hlt : ∀ x ∈ l, x < 4294967296) (hat : At (rd w X) ad (U32 l)) : Calls Try.prog 53 #[.slice (some ad) len cap] w (Ret E0 w fun w' v => ∃ ad' len' cap', OwnU w w' 93 v l ad' len' cap') := by
 refine zZ (n := 8) (vs := [.slice (some ad) len cap]) Try.func53 rfl rfl rfl kr (fun a0 A0 => ?_)
 have A0 : Fr 8 a0 [(0, .slice (some ad) len cap)] := A0
 have j0 : St E0 w X w X [] := St.start hX
 refine zD (fun K1 C1 => ?_)
 refine zC ?_
 refine zB 1 [(2, .slice none 0 0)] A0 kr kr (fun a2 A2 => ?_)
 refine zE ?_
 refine zA (C1 _ _ ?_)
 refine zD (fun K3 C3 => ?_)
 refine zD (fun K4 C4 => ?_)
 refine zC ?_
 refine zB 2 [(4, .bool false), (3, .slice (some ad) len cap)] A2 kr kr (fun a5 A5 => ?_)
 refine zE ?_
 refine zA (C4 _ _ ?_)
 refine qH A5 kr kr ?_
 refine i_skip ?_
 refine zA (C3 _ _ ?_)
 refine zD (fun K6 C6 => ?_)
 refine zC ?_
 refine wplI A5 kr (zN (d := 5) (fun b => .slice (some ⟨b, 0, none⟩) 0 0) (.cells #[] 93 (0, 0)) A5 kr j0 kw ?_)
 intro b7 w7 Y7 j7 q7 hu7 a8 A8
 refine zB 1 [(6, .slice (some ad) len cap)] A8 kr kr (fun a9 A9 => ?_)
 refine wplI A9 kr (op_append (d := 7) (t := 23) (e := 93) (size := 1) (g := b7) (nn := 0) (cap := 0) (m := len) (c := cap) (ad := ad) (z := .int .u32 0) (cur := #[]) (xs := []) (news := U32 l) (i0 := Try.t93) 0 A9 kr j7 rfl kr kr kr kr kr kr kr kr ⟨Nat.le_refl _, Nat.zero_le _, rfl, rfl⟩ (hat.mono q7).cells (by simp [hl]) (by simp [U32, Value.oneCell']) (by simp only [maxLen]; omega) (by show (0 + len) * 4 ≤ _; omega) ?_)
 intro g10 cap10 cur10 w10 Y10 hrow10 j10 q10 a11 A11
 simp only [Nat.zero_add, List.nil_append] at A11 hrow10
 refine zB 1 [(2, .slice (some ⟨g10, 0, none⟩) len cap10)] A11 kr kr (fun a12 A12 => ?_)
 refine zE ?_
 refine zA (C6 _ _ ?_)
 refine zQ ?_
 refine zR (v := .slice (some ⟨g10, 0, none⟩) len cap10) (rs := [.tmp 2]) A12 kr (Res.tmp kr Res.nil) kr ?_
 exact ⟨j10.upd, _, rfl, _, _, _, ⟨rfl, hl, hlt, .inr ⟨_, _, rfl, j10.own_ge 0 rfl, j10.get 0 rfl, ⟨hrow10, hlt⟩⟩⟩⟩
theorem clone_c (w : World) (X : Hid) (hX : ∀ k o, X k o → k < w.heap.size) (ad : Option Addr) (len cap : Nat) (l : List Nat) (h : Limbs (rd w X) ad len cap l) (hlen : len ≤ 35184372088831) : Calls Try.prog 53 #[.slice ad len cap] w (Ret E0 w fun w' v => ∃ ad' len' cap', OwnU w w' 93 v l ad' len' cap') := by
  rcases h.hat with h0 | ⟨b, off, rfl, hat⟩
  · cases ad with
    | none => exact clone_nil w X hX len cap l h.hlen hlen h.hlt h0
    | some a => exact clone_some w X hX a len cap l h.hlen hlen h.hlt (h0 ▸ fun j v hj => by simp [U32] at hj)
  · exact clone_some w X hX _ len cap l h.hlen hlen h.hlt hat
end Go.Proofs.Ytoocgllbbihoaaa
namespace Go.Proofs.Ytoocgllbbihoaaa
open Go Go.Gv Go.RowKit
set_option maxRecDepth 100000
set_option maxHeartbeats 1000000
theorem bcheck (w : World) (X : Hid) (hX : ∀ k o, X k o → k < w.heap.size) (ad : Option Addr) (len cap : Nat) (l : List Nat) (h : Limbs (rd w X) ad len cap l) : Calls Try.prog 33 #[.slice ad len cap] w (Ret E0 w fun _ v => v = .int .i64 (chkN l)) := by
 obtain rfl := h.hlen
 have hcap := h.hcap
 have hbig := h.hbig
 refine zZ (n := 20) (vs := [.slice ad l.length cap]) Try.func33 rfl rfl rfl kr (fun a0 A0 => ?_)
 have A0 : Fr 20 a0 [(0, .slice ad l.length cap)] := A0
 have j0 : St E0 w X w X [] := St.start hX
 refine zD (fun K1 C1 => ?_)
 refine zC ?_
 refine zB 1 [(2, .int .i64 0)] A0 kr kr (fun a2 A2 => ?_)
 refine zE ?_
 refine zA (C1 _ _ ?_)
 refine zD (fun K3 C3 => ?_)
 refine zV ?_
 refine zD (fun K4 C4 => ?_)
 refine zC ?_
 refine zB 4 [(3, .bool (decide ((l.length : Int) > 512))), (6, .bool (decide ((l.length : Int) > 512))), (5, .int .i64 (l.length : Int)), (4, .slice ad l.length cap)] A2 kr kr (fun a5 A5 => ?_)
 refine zE ?_
 refine zA (C4 _ _ ?_)
 refine zS (decide ((l.length : Int) > 512)) A5 kr kr (fun hc6 => ?_) (fun hc6 => ?_)
 ·
  have A7 := A5.set 3 (v' := .bool true) kr rfl (zG hc6)
  have ht8 : (l.length : Int) > 512 := of_decide_eq_true hc6
  refine zD (fun K9 C9 => ?_)
  refine zC ?_
  refine zB 1 [(2, .int .i64 4)] A7 kr kr (fun a10 A10 => ?_)
  refine zE ?_
  refine zA (C9 _ _ ?_)
  refine zQ ?_
  refine zU ?_
  refine zL ?_
  refine zR (v := .int .i64 4) (rs := [.tmp 2]) A10 kr (Res.tmp kr Res.nil) kr ?_
  exact ⟨j0.upd, _, rfl, vint (by unfold chkN; (repeat' split) <;> first | rfl | omega)⟩
 have A11 := A5.set 3 (v' := .bool false) kr rfl (zG hc6)
 have ht12 : ¬ ((l.length : Int) > 512) := of_decide_eq_false hc6
 refine zD (fun K13 C13 => ?_)
 refine zC ?_
 refine zB 4 [(11, .bool (decide ((l.length : Int) > 0))), (10, .bool (decide ((l.length : Int) > 0))), (9, .int .i64 (l.length : Int)), (8, .slice ad l.length cap)] A11 kr kr (fun a14 A14 => ?_)
 rcases Bool.eq_false_or_eq_true (decide ((l.length : Int) > 0)) with hc15 | hc15
 ·
  have A16 := A14.set 11 (v' := .bool true) kr rfl (zG hc15)
  have ht17 : (l.length : Int) > 0 := of_decide_eq_true hc15
  obtain ⟨bk18, of19, rfl, _⟩ := h.addr (by omega)
  refine zB 4 [(15, .int .i64 (IntKind.i64.wrap ((l.length : Int) - 1))), (14, .int .i64 (l.length : Int)), (13, .slice (some ⟨bk18, of19, none⟩) l.length cap), (12, .slice (some ⟨bk18, of19, none⟩) l.length cap)] A16 kr kr (fun a20 A20 => ?_)
  have A21 := A20.set 15 (v' := .int .i64 ((l.length : Int) - 1)) kr rfl (vint (wi64 (by omega) (by omega)))
  refine wplI A21 kr (zJ (d := 16) (v := .pointer (some ⟨bk18, of19 + (l.length - 1), none⟩)) A21 kr (zP (t := 23) (e := 93) (b := bk18) (off := of19) (len := l.length) (cap := cap) (kd := .i64) (i := (l.length : Int) - 1) (g := false) (m := 1) (off' := of19 + (l.length - 1)) rfl kr kr kr kr (by omega) (by omega) (by first | omega | (simp; done) | (simp; omega)) _) ?_)
  intro a22 A22
  refine wplI A22 kr (zJ (d := 17) (v := .int .u32 ((l.getD (l.length - 1) 0 : Nat) : Int)) A22 kr (zF (t := 93) (g := false) (vs := [.int .u32 ((l.getD (l.length - 1) 0 : Nat) : Int)]) (ad := ⟨bk18, of19 + (l.length - 1), none⟩) rfl kr kr ir ((h.cell (i := (l.length - 1)) (by omega)).mono (Le.refl _)).cells) ?_)
  intro a23 A23
  refine zB 3 [(7, .bool (((l.getD (l.length - 1) 0 : Nat) : Int) == 0)), (19, .bool (((l.getD (l.length - 1) 0 : Nat) : Int) == 0)), (18, .bool (((l.getD (l.length - 1) 0 : Nat) : Int) == 0))] A23 kr kr (fun a24 A24 => ?_)
  refine zE ?_
  refine zA (C13 _ _ ?_)
  refine zS (((l.getD (l.length - 1) 0 : Nat) : Int) == 0) A24 kr kr (fun hc25 => ?_) (fun hc25 => ?_)
  ·
   have A26 := A24.set 7 (v' := .bool true) kr rfl (zG hc25)
   have ht27 : ((l.getD (l.length - 1) 0 : Nat) : Int) = 0 := by simpa using hc25
   refine zD (fun K28 C28 => ?_)
   refine zC ?_
   refine zB 1 [(2, .int .i64 2)] A26 kr kr (fun a29 A29 => ?_)
   refine zE ?_
   refine zA (C28 _ _ ?_)
   refine zQ ?_
   refine zU ?_
   refine zL ?_
   refine zR (v := .int .i64 2) (rs := [.tmp 2]) A29 kr (Res.tmp kr Res.nil) kr ?_
   exact ⟨j0.upd, _, rfl, vint (by unfold chkN; (repeat' split) <;> first | rfl | omega)⟩
  have A30 := A24.set 7 (v' := .bool false) kr rfl (zG hc25)
  have ht31 : ((l.getD (l.length - 1) 0 : Nat) : Int) ≠ 0 := by simpa using hc25
  refine i_skip ?_
  refine zW ?_
  refine zA (C3 _ _ ?_)
  refine zD (fun K32 C32 => ?_)
  refine zC ?_
  refine zB 1 [(2, .int .i64 0)] A30 kr kr (fun a33 A33 => ?_)
  refine zE ?_
  refine zA (C32 _ _ ?_)
  refine zQ ?_
  refine zR (v := .int .i64 0) (rs := [.tmp 2]) A33 kr (Res.tmp kr Res.nil) kr ?_
  exact ⟨j0.upd, _, rfl, vint (by unfold chkN; (repeat' split) <;> first | rfl | omega)⟩
 have A34 := A14.set 11 (v' := .bool false) kr rfl (zG hc15)
 have ht35 : ¬ ((l.length : Int) > 0) := of_decide_eq_false hc15
 refine zB 9 [(7, .bool false), (19, .bool false), (18, undef), (17, undef), (16, undef), (15, undef), (14, undef), (13, undef), (12, undef)] A34 kr kr (fun a36 A36 => ?_)
 refine zE ?_
 refine zA (C13 _ _ ?_)
 refine qH A36 kr kr ?_
 refine i_skip ?_
 refine zW ?_
 refine zA (C3 _ _ ?_)
 refine zD (fun K37 C37 => ?_)
 refine zC ?_
 refine zB 1 [(2, .int .i64 0)] A36 kr kr (fun a38 A38 => ?_)
 refine zE ?_
 refine zA (C37 _ _ ?_)
 refine zQ ?_
 refine zR (v := .int .i64 0) (rs := [.tmp 2]) A38 kr (Res.tmp kr Res.nil) kr ?_
 exact ⟨j0.upd, _, rfl, vint (by unfold chkN; (repeat' split) <;> first | rfl | omega)⟩
def chk2 (l l2 : List Nat) : Int := orL [chkN l, chkN l2]
theorem bcheck2 (w : World) (X : Hid) (hX : ∀ k o, X k o → k < w.heap.size) (ad : Option Addr) (len cap : Nat) (l : List Nat) (h : Limbs (rd w X) ad len cap l) (ad2 : Option Addr) (len2 cap2 : Nat) (l2 : List Nat) (h2 : Limbs (rd w X) ad2 len2 cap2 l2) : Calls Try.prog 52 #[.slice ad len cap, .slice ad2 len2 cap2] w (Ret E0 w fun _ v => v = .int .i64 (chk2 l l2)) := by
 refine zZ (n := 11) (vs := [.slice ad len cap, .slice ad2 len2 cap2]) Try.func52 rfl rfl rfl kr (fun a0 A0 => ?_)
 have A0 : Fr 11 a0 [(0, .slice ad len cap), (1, .slice ad2 len2 cap2)] := A0
 have j0 : St E0 w X w X [] := St.start hX
 refine zD (fun K1 C1 => ?_)
 refine zC ?_
 refine zB 1 [(4, .int .i64 0)] A0 kr kr (fun a2 A2 => ?_)
 refine zE ?_
 refine zA (C1 _ _ ?_)
 refine zD (fun K3 C3 => ?_)
 refine zC ?_
 refine zB 1 [(5, .slice ad len cap)] A2 kr kr (fun a4 A4 => ?_)
 refine wplI A4 kr (zK (d := 6) (f := 33) (cap := #[]) (vs := #[.slice ad len cap]) A4 kr j0 rfl kr kr (fun w => Try.call33 _ w) (bcheck _ X0 (X0_lt _) _ _ _ l (h.mono Le.x0)) ?_)
 rintro v5 w5 j5 q5 hu5 rfl a6 A6
 refine zB 1 [(7, .slice ad2 len2 cap2)] A6 kr kr (fun a7 A7 => ?_)
 refine wplI A7 kr (zK (d := 8) (f := 33) (cap := #[]) (vs := #[.slice ad2 len2 cap2]) A7 kr j5 rfl kr kr (fun w => Try.call33 _ w) (bcheck _ X0 (X0_lt _) _ _ _ l2 ((h2.mono q5).mono Le.x0)) ?_)
 rintro v8 w8 j8 q8 hu8 rfl a9 A9
 refine wplI A9 kr (zN (d := 9) (fun b => .slice (some ⟨b, 0, none⟩) 2 2) (.cells #[.int .i64 (chkN l), .int .i64 (chkN l2)] 34 (0, 0)) A9 kr j8 kw ?_)
 intro b10 w10 Y10 j10 q10 hu10 a11 A11
 refine wplI A11 kr (zK (d := 10) (f := 50) (cap := #[]) (vs := #[.slice (some ⟨b10, 0, none⟩) 2 2]) A11 kr j10 rfl kr kr (fun w => Try.call50 _ w) (or_c _ X0 (X0_lt _) _ _ _ _ [chkN l, chkN l2] rfl (by simp) (j10.at0 0 rfl rfl)) ?_)
 rintro v12 w12 j12 q12 hu12 rfl a13 A13
 refine zB 1 [(4, .int .i64 (orL [chkN l, chkN l2]))] A13 kr kr (fun a14 A14 => ?_)
 refine zE ?_
 refine zA (C3 _ _ ?_)
 refine zQ ?_
 refine zR (v := .int .i64 (orL [chkN l, chkN l2])) (rs := [.tmp 4]) A14 kr (Res.tmp kr Res.nil) kr ?_
 exact ⟨j12.upd, _, rfl, vint (rfl)⟩
theorem fit_c (w : World) (X : Hid) (hX : ∀ k o, X k o → k < w.heap.size) (ad : Option Addr) (len cap : Nat) (l : List Nat) (h : Limbs (rd w X) ad len cap l) : Calls Try.prog 97 #[.slice ad len cap] w (Ret E0 w fun _ v => v = if 512 < trimN l then .tuple #[.slice none 0 0, .int .i64 4] else .tuple #[.slice ad (trimN l) cap, .int .i64 0]) := by
 have hcap := h.hcap
 have hbig := h.hbig
 have hl := h.hlen
 have htr := trimTo_le l l.length
 rw [show trimTo l l.length = trimN l from rfl] at htr
 refine zZ (n := 10) (vs := [.slice ad len cap]) Try.func97 rfl rfl rfl kr (fun a0 A0 => ?_)
 have A0 : Fr 10 a0 [(0, .slice ad len cap)] := A0
 have j0 : St E0 w X w X [] := St.start hX
 refine zD (fun K1 C1 => ?_)
 refine zC ?_
 refine zB 2 [(3, .int .i64 0), (2, .slice none 0 0)] A0 kr kr (fun a2 A2 => ?_)
 refine zE ?_
 refine zA (C1 _ _ ?_)
 refine zD (fun K3 C3 => ?_)
 refine zD (fun K4 C4 => ?_)
 refine zC ?_
 refine zB 1 [(4, .slice ad len cap)] A2 kr kr (fun a5 A5 => ?_)
 refine wplI A5 kr (zK (d := 5) (f := 71) (cap := #[]) (vs := #[.slice ad len cap]) A5 kr j0 rfl kr kr (fun w => Try.call71 _ w) (trim_c _ _ j0.lt _ _ _ l h) ?_)
 rintro v6 w6 j6 q6 hu6 rfl a7 A7
 refine zB 1 [(0, .slice ad (trimN l) cap)] A7 kr kr (fun a8 A8 => ?_)
 refine zE ?_
 refine zA (C4 _ _ ?_)
 refine zD (fun K9 C9 => ?_)
 refine zC ?_
 refine zB 3 [(8, .bool (decide ((trimN l : Int) > 512))), (7, .int .i64 (trimN l : Int)), (6, .slice ad (trimN l) cap)] A8 kr kr (fun a10 A10 => ?_)
 refine zE ?_
 refine zA (C9 _ _ ?_)
 refine zS (decide ((trimN l : Int) > 512)) A10 kr kr (fun hc11 => ?_) (fun hc11 => ?_)
 ·
  have A12 := A10.set 8 (v' := .bool true) kr rfl (zG hc11)
  have ht13 : (trimN l : Int) > 512 := of_decide_eq_true hc11
  refine zD (fun K14 C14 => ?_)
  refine zC ?_
  refine zB 2 [(3, .int .i64 4), (2, .slice none 0 0)] A12 kr kr (fun a15 A15 => ?_)
  refine zE ?_
  refine zA (C14 _ _ ?_)
  refine zQ ?_
  refine zL ?_
  refine zR (v := .tuple #[.slice none 0 0, .int .i64 4]) (rs := [.tmp 2, .tmp 3]) A15 kr (Res.tmp kr (Res.tmp kr Res.nil)) kr ?_
  exact ⟨j6.upd, _, rfl, by first | rw [if_pos (by omega)] | rw [if_neg (by omega)]⟩
 have A16 := A10.set 8 (v' := .bool false) kr rfl (zG hc11)
 have ht17 : ¬ ((trimN l : Int) > 512) := of_decide_eq_false hc11
 refine i_skip ?_
 refine zA (C3 _ _ ?_)
 refine zD (fun K18 C18 => ?_)
 refine zC ?_
 refine zB 3 [(3, .int .i64 0), (2, .slice ad (trimN l) cap), (9, .slice ad (trimN l) cap)] A16 kr kr (fun a19 A19 => ?_)
 refine zE ?_
 refine zA (C18 _ _ ?_)
 refine zQ ?_
 refine zR (v := .tuple #[.slice ad (trimN l) cap, .int .i64 0]) (rs := [.tmp 2, .tmp 3]) A19 kr (Res.tmp kr (Res.tmp kr Res.nil)) kr ?_
 exact ⟨j6.upd, _, rfl, by first | rw [if_pos (by omega)] | rw [if_neg (by omega)]⟩
end Go.Proofs.Ytoocgllbbihoaaa
namespace Go.Proofs.Ytoocgllbbihoaaa
open Go Go.Gv Go.RowKit
set_option maxRecDepth 100000
set_option maxHeartbeats 1000000
abbrev Two (a b : Nat) : Nat → Prop := fun k => k = a ∨ k = b
abbrev HTwo (a b : Nat) : Hid := fun k _ => k = a ∨ k = b
theorem add1_c (w : World) (g bc ba i m cap : Nat) (cur : Array Value) (l : List Nat) (x c : Nat) (hne : g ≠ bc) (hbg : ba ≠ g) (hbb : ba ≠ bc) (hg : w.heap[g]? = some (.cells cur 93 (0, 0))) (hrow : URow m cap cur l)
    (hbc : w.heap[bc]? = some (.cells #[.int .u32 (c : Int)] 93 (0, 0))) (hba : At (rd w (HTwo g bc)) ⟨ba, 0, none⟩ [.slice (some ⟨g, 0, none⟩) m cap]) (hi : i < l.length) (hx : x < 4294967296) (hc : c ≤ 1) (hbig : m ≤ 4611686018427387904) :
    Calls Try.prog 104 #[.int .i64 (i : Int), .int .u32 (x : Int), .pointer (some ⟨ba, 0, none⟩), .pointer (some ⟨bc, 0, none⟩)] w (Ret (Two g bc) w fun w' v => v = .tuple #[] ∧ ∃ cur', w'.heap[g]? = some (.cells cur' 93 (0, 0)) ∧ URow m cap cur' (l.set i ((l.getD i 0 + x + c) % 4294967296)) ∧
      w'.heap[bc]? = some (.cells #[.int .u32 (((l.getD i 0 + x + c) / 4294967296 : Nat) : Int)] 93 (0, 0))) := by
 have hX : ∀ k o, HTwo g bc k o → k < w.heap.size := by
   rintro k o (rfl | rfl)
   · exact (Array.getElem?_eq_some_iff.1 hg).1
   · exact (Array.getElem?_eq_some_iff.1 hbc).1
 refine zZ (n := 19) (vs := [.int .i64 (i : Int), .int .u32 (x : Int), .pointer (some ⟨ba, 0, none⟩), .pointer (some ⟨bc, 0, none⟩)]) Try.func104 rfl rfl rfl kr (fun a0 A0 => ?_)
 have A0 : Fr 19 a0 [(0, .int .i64 (i : Int)), (1, .int .u32 (x : Int)), (2, .pointer (some ⟨ba, 0, none⟩)), (3, .pointer (some ⟨bc, 0, none⟩))] := A0
 have j0 : St (Two g bc) w (HTwo g bc) w (HTwo g bc) [(g, .cells cur 93 (0, 0)), (bc, .cells #[.int .u32 (c : Int)] 93 (0, 0))] := St.start2 hX hg hbc (fun _ => .inl rfl) (fun _ => .inr rfl) hne
 have hlen := hrow.len
 have hlt := hrow.getD_lt i
 refine qD (N := 15) (Held [(⟨ba, 0, none⟩, [.slice (some ⟨g, 0, none⟩) m cap]), (⟨g, i, none⟩, [.int .u32 ((l.getD i 0 : Nat) : Int)]), (⟨bc, 0, none⟩, [.int .u32 (c : Int)])]) [13, 14] kr kr kr j0 ?_
 intro w1 j1 q1 hu1
 refine zX (Held.cons ((hba.mono q1)).cells (Held.cons (j1.rowCells 0 rfl hrow (by have := hrow.len; (try simp only [List.length_set] at *); omega)) (Held.cons (j1.cells 1 rfl rfl) (Held.nil _)))) (fun hH1 => ?_)
 refine zY (d := 7) (v := .slice (some ⟨g, 0, none⟩) m cap) 0 A0 rfl kr kr kr (fun w hw => zF (t := 23) (g := false) (vs := [.slice (some ⟨g, 0, none⟩) m cap]) (ad := ⟨ba, 0, none⟩) rfl kr kr ir (hw.get 0 kr)) hH1 ?_
 intro a2 A2
 refine zH (d := 8) (v := .int .i64 (i : Int)) 1 A2 rfl kr kr kw (fun _ => hH1) ?_
 intro a3 A3
 refine zY (d := 9) (v := .slice (some ⟨g, 0, none⟩) m cap) 2 A3 rfl kr kr kr (fun w hw => zF (t := 23) (g := false) (vs := [.slice (some ⟨g, 0, none⟩) m cap]) (ad := ⟨ba, 0, none⟩) rfl kr kr ir (hw.get 0 kr)) hH1 ?_
 intro a4 A4
 refine zH (d := 10) (v := .int .i64 (i : Int)) 3 A4 rfl kr kr kw (fun _ => hH1) ?_
 intro a5 A5
 refine zH (d := 11) (v := .pointer (some ⟨g, i, none⟩)) 4 A5 rfl kr kr (fun w => zP (t := 23) (e := 93) (b := g) (off := 0) (len := m) (cap := cap) (kd := .i64) (i := (i : Int)) (g := false) (m := 1) (off' := i) rfl kr kr kr kr (by omega) (by omega) (by first | rfl | omega | (simp; done) | (simp; omega)) w) (fun _ => hH1) ?_
 intro a6 A6
 refine zY (d := 12) (v := .int .u32 ((l.getD i 0 : Nat) : Int)) 5 A6 rfl kr kr kr (fun w hw => zF (t := 93) (g := false) (vs := [.int .u32 ((l.getD i 0 : Nat) : Int)]) (ad := ⟨g, i, none⟩) rfl kr kr ir (hw.get 1 kr)) hH1 ?_
 intro a7 A7
 refine zH (d := 13) (v := .int .u32 (x : Int)) 6 A7 rfl kr kr kw (fun _ => hH1) ?_
 intro a8 A8
 refine zY (d := 14) (v := .int .u32 (c : Int)) 7 A8 rfl kr kr kr (fun w hw => zF (t := 93) (g := false) (vs := [.int .u32 (c : Int)]) (ad := ⟨bc, 0, none⟩) rfl kr kr ir (hw.get 2 kr)) hH1 ?_
 intro a9 A9
 refine zM [8] kr rfl ?_
 refine ForkT.cons (i := 8) A9 rfl kr (zK (d := 15) (f := 105) (cap := #[]) (vs := #[.int .u32 ((l.getD i 0 : Nat) : Int), .int .u32 (x : Int), .int .u32 (c : Int)]) A9 kr j1 rfl kr kr (fun w => Try.call105 _ w) (add32 _ _ j1.lt ((l.getD i 0 : Nat) : Int) (x : Int) (c : Int) ⟨by omega, by omega⟩ ⟨by omega, by omega⟩ ⟨by omega, by omega⟩) ?_) ForkT.nil
 rintro v10 w10 j10 q10 hu10 rfl a11 A11
 refine zI (hH1.up hu10) (fun hH10 => ?_)
 refine zH (d := 6) (v := .tuple #[.int .u32 ((((l.getD i 0 : Nat) : Int) + (x : Int) + (c : Int)) % 4294967296), .int .u32 ((((l.getD i 0 : Nat) : Int) + (x : Int) + (c : Int)) / 4294967296)]) 9 A11 rfl kr kr kw (fun _ => hH10) ?_
 intro a12 A12
 refine zH (d := 16) (v := .int .u32 ((((l.getD i 0 : Nat) : Int) + (x : Int) + (c : Int)) % 4294967296)) 10 A12 rfl kr kr kw (fun _ => hH10) ?_
 intro a13 A13
 refine zH (d := 17) (v := .int .u32 ((((l.getD i 0 : Nat) : Int) + (x : Int) + (c : Int)) / 4294967296)) 11 A13 rfl kr kr kw (fun _ => hH10) ?_
 intro a14 A14
 refine zH (d := 18) (v := .pointer (some ⟨g, i, none⟩)) 12 A14 rfl kr kr (fun w => zP (t := 23) (e := 93) (b := g) (off := 0) (len := m) (cap := cap) (kd := .i64) (i := (i : Int)) (g := false) (m := 1) (off' := i) rfl kr kr kr kr (by omega) (by omega) (by first | rfl | omega | (simp; done) | (simp; omega)) w) (fun _ => hH10) ?_
 intro a15 A15
 refine zM [13] kr rfl ?_
 refine ForkT.cons (i := 13) A15 rfl kr (op_storeU (t := 93) (y := ((l.getD i 0 + x + c) % 4294967296)) 0 A15 kr j10 rfl rfl rfl (by first | rfl | omega | (simp; omega)) kr rfl hrow (by have := hrow.len; (try simp only [List.length_set] at *); omega) (by first | omega | (simp; omega)) ?_) ForkT.nil
 intro cur16 w16 hrow16 j16 q16
 refine ⟨begun_tt kr, ?_⟩
 refine zM [14] kr rfl ?_
 refine ForkT.cons (i := 14) A15 rfl kr (zO (t := 93) (b := bc) (off := 0) (c' := #[.int .u32 ((((l.getD i 0 : Nat) : Int) + (x : Int) + (c : Int)) / 4294967296)]) (g := false) (m := 1) 1 _ A15 kr j16 rfl kr rfl kr kr kr rfl (by first | decide | (simp; done)) kr rfl ?_) ForkT.nil
 intro w17 j17 q17
 refine ⟨begun_tt kr, ?_⟩
 refine qB kr (nrm ?_)
 refine c_end (v := .tuple #[]) (rs := []) A15 kr Res.nil kr ?_
 refine ⟨j17.upd, _, rfl, rfl, cur16, j17.get 0 rfl, ?_, ?_⟩
 ·
  exact hrow16
 ·
  rw [j17.get 1 rfl]; congr 4
end Go.Proofs.Ytoocgllbbihoaaa
namespace Go.Proofs.Ytoocgllbbihoaaa
open Go Go.Gv Go.RowKit
set_option maxRecDepth 100000
set_option maxHeartbeats 1000000
abbrev HG (g : Nat) : Hid := fun k _ => k = g
abbrev B32 : Nat := 4294967296
theorem addstep (l1 l2 : List Nat) (j k c T : Nat) (hj : j < l2.length) (hk : j + k < l1.length) (h : val l1 + c * 4294967296 ^ (j + k) = T + 4294967296 ^ k * val (l2.take j)) :
    val (l1.set (j + k) ((l1.getD (j + k) 0 + l2.getD j 0 + c) % 4294967296)) + (l1.getD (j + k) 0 + l2.getD j 0 + c) / 4294967296 * 4294967296 ^ (j + 1 + k) = T + 4294967296 ^ k * val (l2.take (j + 1)) := by
  have h1 := val_add_step l1 (j + k) (l2.getD j 0) c hk
  rw [val_take l2 j hj, Nat.mul_add, show 4294967296 ^ k * (l2.getD j 0 * 4294967296 ^ j) = l2.getD j 0 * 4294967296 ^ (j + k) by rw [Nat.pow_add]; ac_rfl, show j + 1 + k = j + k + 1 by omega]
  omega
theorem addstep0 (l1 : List Nat) (p c T : Nat) (hk : p < l1.length) (h : val l1 + c * 4294967296 ^ p = T) :
    val (l1.set p ((l1.getD p 0 + 0 + c) % 4294967296)) + (l1.getD p 0 + 0 + c) / 4294967296 * 4294967296 ^ (p + 1) = T := by
  have h1 := val_add_step l1 p 0 c hk
  omega
theorem add_c (w : World) (g m cap : Nat) (cur : Array Value) (l : List Nat) (hg : w.heap[g]? = some (.cells cur 93 (0, 0))) (hrow : URow m cap cur l) (hm : m ≤ 1099511627776)
    (ad2 : Option Addr) (len2 cap2 : Nat) (l2 : List Nat) (h2 : Limbs (rd w (HG g)) ad2 len2 cap2 l2) (k : Nat) (hk : l2.length + k ≤ m) (hsum : val l + 4294967296 ^ k * val l2 < 4294967296 ^ m) :
    Calls Try.prog 96 #[.slice (some ⟨g, 0, none⟩) m cap, .slice ad2 len2 cap2, .int .i64 (k : Int)] w (Ret (· = g) w fun w' v => v = .tuple #[] ∧ ∃ cur' l', w'.heap[g]? = some (.cells cur' 93 (0, 0)) ∧ URow m cap cur' l' ∧ val l' = val l + 4294967296 ^ k * val l2) := by
 obtain rfl := h2.hlen
 have hcap2 := h2.hcap
 have hbig2 := h2.hbig
 refine zZ (n := 37) (vs := [.slice (some ⟨g, 0, none⟩) m cap, .slice ad2 l2.length cap2, .int .i64 (k : Int)]) Try.func96 rfl rfl rfl kr (fun a0 A0 => ?_)
 have A0 : Fr 37 a0 [(0, .slice (some ⟨g, 0, none⟩) m cap), (1, .slice ad2 l2.length cap2), (2, .int .i64 (k : Int))] := A0
 have hX : ∀ k o, HG g k o → k < w.heap.size := by rintro k o rfl; exact (Array.getElem?_eq_some_iff.1 hg).1
 have j0 : St (· = g) w (HG g) w (HG g) [(g, .cells cur 93 (0, 0))] := St.startE g _ hX hg (fun _ => rfl)
 refine zD (fun K1 C1 => ?_)
 refine zC ?_
 refine wplI A0 kr (zN (d := 3) (fun b => .pointer (some ⟨b, 0, none⟩)) (.cells #[.slice (some ⟨g, 0, none⟩) m cap] 23 (0, 0)) A0 kr j0 kw ?_)
 intro b2 w2 Y2 j2 q2 hu2 a3 A3
 refine zE ?_
 refine zA (C1 _ _ ?_)
 refine zD (fun K4 C4 => ?_)
 refine zC ?_
 refine wplI A3 kr (zN (d := 6) (fun b => .pointer (some ⟨b, 0, none⟩)) (.cells #[.int .u32 0] 93 (0, 0)) A3 kr j2 kw ?_)
 intro b5 w5 Y5 j5 q5 hu5 a6 A6
 refine wplI A6 kr (zO (t := 93) (b := b5) (off := 0) (c' := #[.int .u32 0]) (g := false) (m := 1) 0 _ A6 kr j5 rfl kr rfl kr kr kr rfl (by first | decide | (simp; done)) kr rfl ?_)
 intro w7 j7 q7
 refine zE ?_
 refine zA (C4 _ _ ?_)
 refine zD (fun K8 C8 => ?_)
 refine zC ?_
 refine zB 2 [(7, .func (.func 104) #[] #[.pointer (some ⟨b2, 0, none⟩), .pointer (some ⟨b5, 0, none⟩)]), (11, .func (.func 104) #[] #[.pointer (some ⟨b2, 0, none⟩), .pointer (some ⟨b5, 0, none⟩)])] A6 kr kr (fun a9 A9 => ?_)
 refine zE ?_
 refine zA (C8 _ _ ?_)
 refine zD (fun K10 C10 => ?_)
 refine zD (fun K11 C11 => ?_)
 refine zC ?_
 refine zB 3 [(14, .int .i64 0), (13, .int .i64 (l2.length : Int)), (12, .slice ad2 l2.length cap2)] A9 kr kr (fun a12 A12 => ?_)
 refine zE ?_
 refine zA (C11 _ _ ?_)
 refine zV ?_
 refine qC (fun (j : Nat) ac w1 => ∃ (Y1 : Hid) (cur1 : Array Value) (l1 : List Nat) (c : Nat), Fr 37 ac [(1, .slice ad2 l2.length cap2), (2, .int .i64 (k : Int)), (6, .pointer (some ⟨b5, 0, none⟩)), (7, .func (.func 104) #[] #[.pointer (some ⟨b2, 0, none⟩), .pointer (some ⟨b5, 0, none⟩)]), (12, .slice ad2 l2.length cap2), (13, .int .i64 (l2.length : Int)), (14, .int .i64 (j : Int))] ∧ St (· = g) w (HG g) w1 Y1 [(b5, .cells #[.int .u32 (c : Int)] 93 (0, 0)), (b2, .cells #[.slice (some ⟨g, 0, none⟩) m cap] 23 (0, 0)), (g, .cells cur1 93 (0, 0))] ∧ Le (rd w7 Y5) (rd w1 Y1) ∧ (URow m cap cur1 l1) ∧ (j ≤ l2.length) ∧ (c ≤ 1) ∧ (val l1 + c * 4294967296 ^ (j + k) = val l + 4294967296 ^ k * val (l2.take j))) (fun (j : Nat) => l2.length - j) 0 ?_ ?_
 ·
  refine ⟨_, cur, l, 0, A12.as [1, 2, 6, 7, 12, 13, 14] kr kr, j7, Le.refl _, hrow, Nat.zero_le _, by omega, by simp [val]⟩
 rintro j a13 w13 ⟨Y13, cur1, l1, c, A13, j13, q13, hp13_0, hp13_1, hp13_2, hp13_3⟩
 have hrow1 := hp13_0
 have hlen1 := hrow1.len
 refine zD (fun K14 C14 => ?_)
 refine zC ?_
 refine zB 1 [(15, .bool (decide ((j : Int) < (l2.length : Int))))] A13 kr kr (fun a15 A15 => ?_)
 refine zE ?_
 refine zA (C14 _ _ ?_)
 refine zD (fun K16 C16 => ?_)
 refine zS (decide ((j : Int) < (l2.length : Int))) A15 kr kr (fun hc17 => ?_) (fun hc17 => ?_)
 ·
  have A18 := A15.set 15 (v' := .bool true) kr rfl (zG hc17)
  have ht19 : (j : Int) < (l2.length : Int) := of_decide_eq_true hc17
  obtain ⟨bk20, of21, rfl, _⟩ := h2.addr (by omega)
  refine i_skip ?_
  refine zA (C16 _ _ ?_)
  refine zD (fun K22 C22 => ?_)
  refine zV ?_
  refine zD (fun K23 C23 => ?_)
  refine zC ?_
  refine zB 1 [(16, .int .i64 (j : Int))] A18 kr kr (fun a24 A24 => ?_)
  refine wplI A24 kr (zJ (d := 17) (v := .pointer (some ⟨bk20, of21 + j, none⟩)) A24 kr (zP (t := 23) (e := 93) (b := bk20) (off := of21) (len := l2.length) (cap := cap2) (kd := .i64) (i := (j : Int)) (g := false) (m := 1) (off' := of21 + j) rfl kr kr kr kr (by omega) (by omega) (by first | rfl | omega | (simp; done) | (simp; omega)) _) ?_)
  intro a25 A25
  refine wplI A25 kr (zJ (d := 18) (v := .int .u32 ((l2.getD j 0 : Nat) : Int)) A25 kr (zF (t := 93) (g := false) (vs := [.int .u32 ((l2.getD j 0 : Nat) : Int)]) (ad := ⟨bk20, of21 + j, none⟩) rfl kr kr ir ((h2.cell (i := j) (by omega)).mono (Le4 q2 q5 q7 q13)).cells) ?_)
  intro a26 A26
  refine zB 2 [(9, .int .u32 ((l2.getD j 0 : Nat) : Int)), (8, .int .i64 (j : Int))] A26 kr kr (fun a27 A27 => ?_)
  refine zE ?_
  refine zA (C23 _ _ ?_)
  refine zC ?_
  refine zB 4 [(22, .int .i64 (IntKind.i64.wrap ((j : Int) + (k : Int)))), (21, .int .i64 (k : Int)), (20, .int .i64 (j : Int)), (19, .func (.func 104) #[] #[.pointer (some ⟨b2, 0, none⟩), .pointer (some ⟨b5, 0, none⟩)])] A27 kr kr (fun a28 A28 => ?_)
  have A29 := A28.set 22 (v' := .int .i64 ((j + k : Nat) : Int)) kr rfl (vint (wi64 (by omega) (by omega)))
  refine zB 1 [(23, .int .u32 ((l2.getD j 0 : Nat) : Int))] A29 kr kr (fun a30 A30 => ?_)
  refine wplI A30 kr (op_call2 (d := 24) (f := 104) (cap := #[.pointer (some ⟨b2, 0, none⟩), .pointer (some ⟨b5, 0, none⟩)]) (vs := #[.int .i64 ((j + k : Nat) : Int), .int .u32 ((l2.getD j 0 : Nat) : Int), .pointer (some ⟨b2, 0, none⟩), .pointer (some ⟨b5, 0, none⟩)]) 2 0 A30 kr j13 rfl kr kr (fun w => Try.call104 _ w) rfl rfl (by decide) (add1_c _ g b5 b2 (j + k) m cap cur1 l1 (l2.getD j 0) c (j13.ne (i := 2) (j := 0) rfl rfl (by decide)) (j13.ne (i := 1) (j := 2) rfl rfl (by decide)) (j13.ne (i := 1) (j := 0) rfl rfl (by decide)) (j13.get 2 rfl) hrow1 (j13.get 0 rfl) (j13.atX 1 rfl (fun _ hx => hx.elim (j13.ne (i := 1) (j := 2) rfl rfl (by decide)) (j13.ne (i := 1) (j := 0) rfl rfl (by decide)))) (by omega) (by first | exact h2.getD_lt _ | omega) (by omega) (by omega)) ?_)
  rintro v31 w31 ⟨rfl, cur31, hg31, hrow31, hbc31⟩ hSf31 q31 a32 A32
  have j31 := hSf31 _ _ hg31 hbc31
  refine zE ?_
  refine zW ?_
  refine zA (C22 _ _ ?_)
  refine zC ?_
  refine zB 1 [(25, .int .i64 (IntKind.i64.wrap ((j : Int) + 1)))] A32 kr kr (fun a33 A33 => ?_)
  have A34 := A33.set 25 (v' := .int .i64 ((j : Int) + 1)) kr rfl (vint (wi64 (by omega) (by omega)))
  refine zB 1 [(14, .int .i64 ((j : Int) + 1))] A34 kr kr (fun a35 A35 => ?_)
  refine zE ?_
  refine zA ?_
  refine ⟨j + 1, ⟨_, cur31, (l1.set (j + k) ((l1.getD (j + k) 0 + l2.getD j 0 + c) % 4294967296)), ((l1.getD (j + k) 0 + l2.getD j 0 + c) / 4294967296), A35.as [1, 2, 6, 7, 12, 13, 14] kr kr, j31, (Le2 q13 q31), hrow31, by omega, by have := h2.getD_lt j; have := hrow1.getD_lt (j + k); omega, addstep _ _ _ _ _ _ (by omega) (by omega) hp13_3⟩, ?_⟩
  first | omega | (simp; omega)
 have A36 := A15.set 15 (v' := .bool false) kr rfl (zG hc17)
 have ht37 : ¬ ((j : Int) < (l2.length : Int)) := of_decide_eq_false hc17
 refine i_exit ?_
 refine zT ?_
 refine zT ?_
 refine qA ?_
 refine zA (C10 _ _ ?_)
 refine zD (fun K38 C38 => ?_)
 refine zC ?_
 refine zB 4 [(29, .int .i64 (IntKind.i64.wrap ((l2.length : Int) + (k : Int)))), (28, .int .i64 (k : Int)), (27, .int .i64 (l2.length : Int)), (26, .slice ad2 l2.length cap2)] A36 kr kr (fun a39 A39 => ?_)
 have A40 := A39.set 29 (v' := .int .i64 ((l2.length + k : Nat) : Int)) kr rfl (vint (wi64 (by omega) (by omega)))
 refine zB 1 [(10, .int .i64 ((l2.length + k : Nat) : Int))] A40 kr kr (fun a41 A41 => ?_)
 refine zE ?_
 refine zA (C38 _ _ ?_)
 refine zV ?_
 have htot := hp13_3
 have hj1 := hp13_1
 obtain rfl : j = l2.length := by omega
 rw [List.take_length] at htot
 refine qC (fun (j : Nat) ac w1 => ∃ (Y1 : Hid) (cur1 : Array Value) (l1 : List Nat) (c : Nat), Fr 37 ac [(6, .pointer (some ⟨b5, 0, none⟩)), (7, .func (.func 104) #[] #[.pointer (some ⟨b2, 0, none⟩), .pointer (some ⟨b5, 0, none⟩)]), (10, .int .i64 (j : Int))] ∧ St (· = g) w (HG g) w1 Y1 [(b5, .cells #[.int .u32 (c : Int)] 93 (0, 0)), (b2, .cells #[.slice (some ⟨g, 0, none⟩) m cap] 23 (0, 0)), (g, .cells cur1 93 (0, 0))] ∧ Le (rd w13 Y13) (rd w1 Y1) ∧ (URow m cap cur1 l1) ∧ (c ≤ 1) ∧ (val l1 + c * 4294967296 ^ j = val l + 4294967296 ^ k * val l2)) (fun (j : Nat) => m - j) (l2.length + k) ?_ ?_
 ·
  refine ⟨_, cur1, l1, c, A41.as [6, 7, 10] kr kr, j13, Le.refl _, hrow1, hp13_2, htot⟩
 rintro j a42 w42 ⟨Y42, cur1, l1, c, A42, j42, q42, hp42_0, hp42_1, hp42_2⟩
 have hrow1 := hp42_0
 have hlen1 := hrow1.len
 refine zD (fun K43 C43 => ?_)
 refine zD (fun K44 C44 => ?_)
 refine zC ?_
 refine wplI A42 kr (zJ (d := 30) (v := .int .u32 (c : Int)) A42 kr (zF (t := 93) (g := false) (vs := [.int .u32 (c : Int)]) (ad := ⟨b5, 0, none⟩) rfl kr kr ir (j42.cells 0 rfl rfl)) ?_)
 intro a45 A45
 refine zB 1 [(31, .bool ((c : Int) != 0))] A45 kr kr (fun a46 A46 => ?_)
 refine zE ?_
 refine zA (C44 _ _ ?_)
 refine zS ((c : Int) != 0) A46 kr kr (fun hc47 => ?_) (fun hc47 => ?_)
 ·
  have A48 := A46.set 31 (v' := .bool true) kr rfl (zG hc47)
  have ht49 : (c : Int) ≠ 0 := by simpa using hc47
  have hjm : j < m := pow_lt_of (i := j) (len := m) (v := val l + 4294967296 ^ k * val l2) (by have h1 := hp42_2; obtain rfl : c = 1 := (by have := hp42_1; omega); omega) hsum
  refine i_skip ?_
  refine zA (C43 _ _ ?_)
  refine zD (fun K50 C50 => ?_)
  refine zV ?_
  refine zC ?_
  refine zB 2 [(35, .int .i64 (j : Int)), (34, .func (.func 104) #[] #[.pointer (some ⟨b2, 0, none⟩), .pointer (some ⟨b5, 0, none⟩)])] A48 kr kr (fun a51 A51 => ?_)
  refine wplI A51 kr (op_call2 (d := 36) (f := 104) (cap := #[.pointer (some ⟨b2, 0, none⟩), .pointer (some ⟨b5, 0, none⟩)]) (vs := #[.int .i64 ((j : Nat) : Int), .int .u32 ((0 : Nat) : Int), .pointer (some ⟨b2, 0, none⟩), .pointer (some ⟨b5, 0, none⟩)]) 2 0 A51 kr j42 rfl kr kr (fun w => Try.call104 _ w) rfl rfl (by decide) (add1_c _ g b5 b2 (j) m cap cur1 l1 (0) c (j42.ne (i := 2) (j := 0) rfl rfl (by decide)) (j42.ne (i := 1) (j := 2) rfl rfl (by decide)) (j42.ne (i := 1) (j := 0) rfl rfl (by decide)) (j42.get 2 rfl) hrow1 (j42.get 0 rfl) (j42.atX 1 rfl (fun _ hx => hx.elim (j42.ne (i := 1) (j := 2) rfl rfl (by decide)) (j42.ne (i := 1) (j := 0) rfl rfl (by decide)))) (by omega) (by first | exact h2.getD_lt _ | omega) (by omega) (by omega)) ?_)
  rintro v52 w52 ⟨rfl, cur52, hg52, hrow52, hbc52⟩ hSf52 q52 a53 A53
  have j52 := hSf52 _ _ hg52 hbc52
  refine zE ?_
  refine zW ?_
  refine zA (C50 _ _ ?_)
  refine zC ?_
  refine zB 2 [(33, .int .i64 (IntKind.i64.wrap ((j : Int) + 1))), (32, .int .i64 (j : Int))] A53 kr kr (fun a54 A54 => ?_)
  have A55 := A54.set 33 (v' := .int .i64 ((j : Int) + 1)) kr rfl (vint (wi64 (by omega) (by omega)))
  refine zB 1 [(10, .int .i64 ((j : Int) + 1))] A55 kr kr (fun a56 A56 => ?_)
  refine zE ?_
  refine zA ?_
  refine ⟨j + 1, ⟨_, cur52, (l1.set (j) ((l1.getD (j) 0 + 0 + c) % 4294967296)), ((l1.getD (j) 0 + 0 + c) / 4294967296), A56.as [6, 7, 10] kr kr, j52, (Le2 q42 q52), hrow52, by have := hrow1.getD_lt j; omega, addstep0 _ _ _ _ (by omega) hp42_2⟩, ?_⟩
  first | omega | (simp; omega)
 have A57 := A46.set 31 (v' := .bool false) kr rfl (zG hc47)
 have ht58 : (c : Int) = 0 := by simpa using hc47
 obtain rfl : c = 0 := by omega
 refine i_exit ?_
 refine zT ?_
 refine zT ?_
 refine qA ?_
 refine c_end (v := .tuple #[]) (rs := []) A57 kr Res.nil kr ?_
 exact ⟨j42.upd, _, rfl, rfl, _, _, j42.get 2 rfl, hrow1, by have := hp42_2; simpa using this⟩
end Go.Proofs.Ytoocgllbbihoaaa
namespace Go.Proofs.Ytoocgllbbihoaaa
open Go Go.Gv Go.RowKit
set_option maxRecDepth 100000
set_option maxHeartbeats 1000000
theorem from_c (w : World) (X : Hid) (hX : ∀ k o, X k o → k < w.heap.size) (x : Nat) (hx : x < 18446744073709551616) : Calls Try.prog 91 #[.int .u64 (x : Int)] w (Ret E0 w fun w' v => ∃ l ad len cap, OwnU w w' 93 v l ad len cap ∧ Canon l ∧ val l = x) := by
 refine zZ (n := 10) (vs := [.int .u64 (x : Int)]) Try.func91 rfl rfl rfl kr (fun a0 A0 => ?_)
 have A0 : Fr 10 a0 [(0, .int .u64 (x : Int))] := A0
 have j0 : St E0 w X w X [] := St.start hX
 refine zD (fun K1 C1 => ?_)
 refine zC ?_
 refine zB 1 [(2, .slice none 0 0)] A0 kr kr (fun a2 A2 => ?_)
 refine zE ?_
 refine zA (C1 _ _ ?_)
 refine zD (fun K3 C3 => ?_)
 refine zC ?_
 refine zB 2 [(4, .int .u32 (IntKind.u32.wrap ((x : Int)))), (3, .int .u64 (x : Int))] A2 kr kr (fun a4 A4 => ?_)
 have A5 := A4.set 4 (v' := .int .u32 ((x % 4294967296 : Nat) : Int)) kr rfl (vint (by rw [wrap_u32]; omega))
 refine zB 2 [(6, .int .u64 (Int.fdiv ((x : Int)) (2 ^ 32))), (5, .int .u64 (x : Int))] A5 kr kr (fun a6 A6 => ?_)
 have A7 := A6.set 6 (v' := .int .u64 ((x / 4294967296 : Nat) : Int)) kr rfl (vint (by rw [fdiv_pow _ 32 (c := 4294967296) (by decide) (by decide)]; omega))
 refine zB 1 [(7, .int .u32 (IntKind.u32.wrap (((x / 4294967296 : Nat) : Int))))] A7 kr kr (fun a8 A8 => ?_)
 have A9 := A8.set 7 (v' := .int .u32 ((x / 4294967296 % 4294967296 : Nat) : Int)) kr rfl (vint (by rw [wrap_u32]; omega))
 refine wplI A9 kr (zN (d := 8) (fun b => .slice (some ⟨b, 0, none⟩) 2 2) (.cells #[.int .u32 ((x % 4294967296 : Nat) : Int), .int .u32 ((x / 4294967296 % 4294967296 : Nat) : Int)] 93 (0, 0)) A9 kr j0 kw ?_)
 intro b10 w10 Y10 j10 q10 hu10 a11 A11
 have hrow12 : URow 2 2 #[.int .u32 ((x % 4294967296 : Nat) : Int), .int .u32 ((x / 4294967296 % 4294967296 : Nat) : Int)] [x % 4294967296, x / 4294967296 % 4294967296] := URow.of [x % 4294967296, x / 4294967296 % 4294967296] (by intro y hy; simp at hy; omega) (by simp [maxLen]) (by simp [U32]) (by simp)
 refine wplI A11 kr (zK (d := 9) (f := 71) (cap := #[]) (vs := #[.slice (some ⟨b10, 0, none⟩) 2 2]) A11 kr j10 rfl kr kr (fun w => Try.call71 _ w) (trim_c _ X0 (X0_lt _) _ _ _ ([x % 4294967296, x / 4294967296 % 4294967296]) (URow.limbs (Y := X0) hrow12 (j10.get 0 rfl) (fun _ h => h.elim))) ?_)
 rintro v13 w13 j13 q13 hu13 rfl a14 A14
 refine zB 1 [(2, .slice (some ⟨b10, 0, none⟩) (trimN ([x % 4294967296, x / 4294967296 % 4294967296])) 2)] A14 kr kr (fun a15 A15 => ?_)
 refine zE ?_
 refine zA (C3 _ _ ?_)
 refine zQ ?_
 refine zR (v := .slice (some ⟨b10, 0, none⟩) (trimN ([x % 4294967296, x / 4294967296 % 4294967296])) 2) (rs := [.tmp 2]) A15 kr (Res.tmp kr Res.nil) kr ?_
 exact ⟨j13.upd, _, rfl, Go.Gv.trimmed [x % 4294967296, x / 4294967296 % 4294967296], _, _, _, ⟨rfl, (trimmed_length _).symm, trimmed_lt hrow12.lt, .inr ⟨_, _, rfl, j13.own_ge 0 rfl, j13.get 0 rfl, hrow12.trimmed⟩⟩, canon_trimmed _, by rw [val_trimmed]; simp only [val]; omega⟩
theorem subtract_c (w : World) (g m cap : Nat) (cur : Array Value) (l : List Nat) (hg : w.heap[g]? = some (.cells cur 93 (0, 0))) (hrow : URow m cap cur l) (hm : m ≤ 1099511627776)
    (ad2 : Option Addr) (len2 cap2 : Nat) (l2 : List Nat) (h2 : Limbs (rd w (HG g)) ad2 len2 cap2 l2) (hll : l2.length ≤ l.length) (hle : val l2 ≤ val l) :
    Calls Try.prog 56 #[.slice (some ⟨g, 0, none⟩) m cap, .slice ad2 len2 cap2] w (Ret (· = g) w fun w' v => ∃ cur' l', v = .slice (some ⟨g, 0, none⟩) l'.length cap ∧ w'.heap[g]? = some (.cells cur' 93 (0, 0)) ∧ URow l'.length cap cur' l' ∧ Canon l' ∧ val l' = val l - val l2) := by
 obtain rfl := h2.hlen
 have hcap2 := h2.hcap
 have hbig2 := h2.hbig
 refine zZ (n := 50) (vs := [.slice (some ⟨g, 0, none⟩) m cap, .slice ad2 l2.length cap2]) Try.func56 rfl rfl rfl kr (fun a0 A0 => ?_)
 have A0 : Fr 50 a0 [(0, .slice (some ⟨g, 0, none⟩) m cap), (1, .slice ad2 l2.length cap2)] := A0
 have hX : ∀ k o, HG g k o → k < w.heap.size := by rintro k o rfl; exact (Array.getElem?_eq_some_iff.1 hg).1
 have j0 : St (· = g) w (HG g) w (HG g) [(g, .cells cur 93 (0, 0))] := St.startE g _ hX hg (fun _ => rfl)
 have hlen := hrow.len
 refine zD (fun K1 C1 => ?_)
 refine zC ?_
 refine zB 1 [(4, .slice none 0 0)] A0 kr kr (fun a2 A2 => ?_)
 refine zE ?_
 refine zA (C1 _ _ ?_)
 refine zD (fun K3 C3 => ?_)
 refine zC ?_
 refine zB 1 [(5, .int .u32 0)] A2 kr kr (fun a4 A4 => ?_)
 refine zE ?_
 refine zA (C3 _ _ ?_)
 refine zD (fun K5 C5 => ?_)
 refine zD (fun K6 C6 => ?_)
 refine zC ?_
 refine zB 3 [(11, .int .i64 0), (10, .int .i64 (l2.length : Int)), (9, .slice ad2 l2.length cap2)] A4 kr kr (fun a7 A7 => ?_)
 refine zE ?_
 refine zA (C6 _ _ ?_)
 refine zV ?_
 refine qC (fun (j : Nat) ac w1 => ∃ (Y1 : Hid) (cur1 : Array Value) (l1 : List Nat) (c : Nat), Fr 50 ac [(0, .slice (some ⟨g, 0, none⟩) m cap), (1, .slice ad2 l2.length cap2), (5, .int .u32 (c : Int)), (9, .slice ad2 l2.length cap2), (10, .int .i64 (l2.length : Int)), (11, .int .i64 (j : Int))] ∧ St (· = g) w (HG g) w1 Y1 [(g, .cells cur1 93 (0, 0))] ∧ Le (rd w (HG g)) (rd w1 Y1) ∧ (URow m cap cur1 l1) ∧ (j ≤ l2.length) ∧ (c ≤ 1) ∧ (val l1 + val (l2.take j) = val l + c * 4294967296 ^ j)) (fun (j : Nat) => l2.length - j) 0 ?_ ?_
 ·
  refine ⟨_, cur, l, 0, A7.as [0, 1, 5, 9, 10, 11] kr kr, j0, Le.refl _, hrow, Nat.zero_le _, by omega, by simp [val]⟩
 rintro j a8 w8 ⟨Y8, cur1, l1, c, A8, j8, q8, hp8_0, hp8_1, hp8_2, hp8_3⟩
 have hrow1 := hp8_0
 have hlen1 := hrow1.len
 have hlt1 := hrow1.getD_lt j
 have hlt2 := h2.getD_lt j
 have hc1 := hp8_2
 refine zD (fun K9 C9 => ?_)
 refine zC ?_
 refine zB 1 [(12, .bool (decide ((j : Int) < (l2.length : Int))))] A8 kr kr (fun a10 A10 => ?_)
 refine zE ?_
 refine zA (C9 _ _ ?_)
 refine zD (fun K11 C11 => ?_)
 refine zS (decide ((j : Int) < (l2.length : Int))) A10 kr kr (fun hc12 => ?_) (fun hc12 => ?_)
 ·
  have A13 := A10.set 12 (v' := .bool true) kr rfl (zG hc12)
  have ht14 : (j : Int) < (l2.length : Int) := of_decide_eq_true hc12
  obtain ⟨bk15, of16, rfl, _⟩ := h2.addr (by omega)
  refine i_skip ?_
  refine zA (C11 _ _ ?_)
  refine zD (fun K17 C17 => ?_)
  refine zV ?_
  refine zD (fun K18 C18 => ?_)
  refine zC ?_
  refine zB 1 [(13, .int .i64 (j : Int))] A13 kr kr (fun a19 A19 => ?_)
  refine wplI A19 kr (zJ (d := 14) (v := .pointer (some ⟨bk15, of16 + j, none⟩)) A19 kr (zP (t := 23) (e := 93) (b := bk15) (off := of16) (len := l2.length) (cap := cap2) (kd := .i64) (i := (j : Int)) (g := false) (m := 1) (off' := of16 + j) rfl kr kr kr kr (by omega) (by omega) (by first | rfl | omega | (simp; done) | (simp; omega)) _) ?_)
  intro a20 A20
  refine wplI A20 kr (zJ (d := 15) (v := .int .u32 ((l2.getD j 0 : Nat) : Int)) A20 kr (zF (t := 93) (g := false) (vs := [.int .u32 ((l2.getD j 0 : Nat) : Int)]) (ad := ⟨bk15, of16 + j, none⟩) rfl kr kr ir ((h2.cell (i := j) (by omega)).mono q8).cells) ?_)
  intro a21 A21
  refine zB 2 [(7, .int .u32 ((l2.getD j 0 : Nat) : Int)), (6, .int .i64 (j : Int))] A21 kr kr (fun a22 A22 => ?_)
  refine zE ?_
  refine zA (C18 _ _ ?_)
  refine zC ?_
  refine zB 4 [(20, .int .i64 (j : Int)), (19, .slice (some ⟨g, 0, none⟩) m cap), (18, .int .i64 (j : Int)), (17, .slice (some ⟨g, 0, none⟩) m cap)] A22 kr kr (fun a23 A23 => ?_)
  refine wplI A23 kr (zJ (d := 21) (v := .pointer (some ⟨g, j, none⟩)) A23 kr (zP (t := 23) (e := 93) (b := g) (off := 0) (len := m) (cap := cap) (kd := .i64) (i := (j : Int)) (g := false) (m := 1) (off' := j) rfl kr kr kr kr (by omega) (by omega) (by first | rfl | omega | (simp; done) | (simp; omega)) _) ?_)
  intro a24 A24
  refine wplI A24 kr (zJ (d := 22) (v := .int .u32 ((l1.getD j 0 : Nat) : Int)) A24 kr (zF (t := 93) (g := false) (vs := [.int .u32 ((l1.getD j 0 : Nat) : Int)]) (ad := ⟨g, j, none⟩) rfl kr kr ir (j8.rowCells 0 rfl hrow1 (by have := hrow1.len; (try simp only [List.length_set] at *); omega))) ?_)
  intro a25 A25
  refine zB 2 [(24, .int .u32 (c : Int)), (23, .int .u32 ((l2.getD j 0 : Nat) : Int))] A25 kr kr (fun a26 A26 => ?_)
  refine wplI A26 kr (zK (d := 25) (f := 74) (cap := #[]) (vs := #[.int .u32 ((l1.getD j 0 : Nat) : Int), .int .u32 ((l2.getD j 0 : Nat) : Int), .int .u32 (c : Int)]) A26 kr j8 rfl kr kr (fun w => Try.call74 _ w) (sub32 _ _ j8.lt ((l1.getD j 0 : Nat) : Int) ((l2.getD j 0 : Nat) : Int) (c : Int) ⟨by omega, by omega⟩ ⟨by omega, by omega⟩ ⟨by omega, by omega⟩) ?_)
  rintro v27 w27 j27 q27 hu27 rfl a28 A28
  refine zB 3 [(27, .int .u32 (if ((l1.getD j 0 : Nat) : Int) < ((l2.getD j 0 : Nat) : Int) + (c : Int) then 1 else 0)), (26, .int .u32 (((((l1.getD j 0 : Nat) : Int) - ((l2.getD j 0 : Nat) : Int)) % 4294967296 - (c : Int)) % 4294967296)), (16, .tuple #[.int .u32 (((((l1.getD j 0 : Nat) : Int) - ((l2.getD j 0 : Nat) : Int)) % 4294967296 - (c : Int)) % 4294967296), .int .u32 (if ((l1.getD j 0 : Nat) : Int) < ((l2.getD j 0 : Nat) : Int) + (c : Int) then 1 else 0)])] A28 kr kr (fun a29 A29 => ?_)
  refine wplI A29 kr (zJ (d := 28) (v := .pointer (some ⟨g, j, none⟩)) A29 kr (zP (t := 23) (e := 93) (b := g) (off := 0) (len := m) (cap := cap) (kd := .i64) (i := (j : Int)) (g := false) (m := 1) (off' := j) rfl kr kr kr kr (by omega) (by omega) (by first | rfl | omega | (simp; done) | (simp; omega)) _) ?_)
  intro a30 A30
  refine wplI A30 kr (op_storeU (t := 93) (y := (subD (l1.getD j 0) (l2.getD j 0) c)) 0 A30 kr j27 rfl rfl rfl (by unfold subD; omega) kr rfl hrow1 (by have := hrow1.len; (try simp only [List.length_set] at *); omega) (subD_lt _ _ _) ?_)
  intro cur31 w31 hrow31 j31 q31
  refine zB 1 [(5, .int .u32 (if ((l1.getD j 0 : Nat) : Int) < ((l2.getD j 0 : Nat) : Int) + (c : Int) then 1 else 0))] A30 kr kr (fun a32 A32 => ?_)
  have A33 := A32.set 5 (v' := .int .u32 ((brw (l1.getD j 0) (l2.getD j 0) c : Nat) : Int)) kr rfl (vint (by unfold brw; (repeat' split) <;> omega))
  refine zE ?_
  refine zW ?_
  refine zA (C17 _ _ ?_)
  refine zC ?_
  refine zB 1 [(29, .int .i64 (IntKind.i64.wrap ((j : Int) + 1)))] A33 kr kr (fun a34 A34 => ?_)
  have A35 := A34.set 29 (v' := .int .i64 ((j : Int) + 1)) kr rfl (vint (wi64 (by omega) (by omega)))
  refine zB 1 [(11, .int .i64 ((j : Int) + 1))] A35 kr kr (fun a36 A36 => ?_)
  refine zE ?_
  refine zA ?_
  refine ⟨j + 1, ⟨_, cur31, (l1.set j (subD (l1.getD j 0) (l2.getD j 0) c)), brw (l1.getD j 0) (l2.getD j 0) c, A36.as [0, 1, 5, 9, 10, 11] kr kr, j31, (Le3 q8 q27 q31), hrow31, by omega, brw_le _ _ _, substep _ _ _ _ _ (by omega) (by omega) hlt1 hlt2 hc1 hp8_3⟩, ?_⟩
  first | omega | (simp; omega)
 have A37 := A10.set 12 (v' := .bool false) kr rfl (zG hc12)
 have ht38 : ¬ ((j : Int) < (l2.length : Int)) := of_decide_eq_false hc12
 refine i_exit ?_
 refine zT ?_
 refine zT ?_
 refine qA ?_
 refine zA (C5 _ _ ?_)
 refine zD (fun K39 C39 => ?_)
 refine zD (fun K40 C40 => ?_)
 refine zC ?_
 refine zB 3 [(8, .int .i64 (l2.length : Int)), (31, .int .i64 (l2.length : Int)), (30, .slice ad2 l2.length cap2)] A37 kr kr (fun a41 A41 => ?_)
 refine zE ?_
 refine zA (C40 _ _ ?_)
 refine zV ?_
 have htot := hp8_3
 have hj1 := hp8_1
 obtain rfl : j = l2.length := by omega
 rw [List.take_length] at htot
 refine qC (fun (j : Nat) ac w1 => ∃ (Y1 : Hid) (cur1 : Array Value) (l1 : List Nat) (c : Nat), Fr 50 ac [(0, .slice (some ⟨g, 0, none⟩) m cap), (5, .int .u32 (c : Int)), (8, .int .i64 (j : Int))] ∧ St (· = g) w (HG g) w1 Y1 [(g, .cells cur1 93 (0, 0))] ∧ Le (rd w8 Y8) (rd w1 Y1) ∧ (URow m cap cur1 l1) ∧ (c ≤ 1) ∧ (val l1 + val l2 = val l + c * 4294967296 ^ j)) (fun (j : Nat) => m - j) l2.length ?_ ?_
 ·
  refine ⟨_, cur1, l1, c, A41.as [0, 5, 8] kr kr, j8, Le.refl _, hrow1, hp8_2, htot⟩
 rintro j a42 w42 ⟨Y42, cur1, l1, c, A42, j42, q42, hp42_0, hp42_1, hp42_2⟩
 have hrow1 := hp42_0
 have hlen1 := hrow1.len
 have hlt1 := hrow1.getD_lt j
 have hc1 := hp42_1
 refine zD (fun K43 C43 => ?_)
 refine zD (fun K44 C44 => ?_)
 refine zC ?_
 refine zB 2 [(33, .bool ((c : Int) != 0)), (32, .int .u32 (c : Int))] A42 kr kr (fun a45 A45 => ?_)
 refine zE ?_
 refine zA (C44 _ _ ?_)
 refine zS ((c : Int) != 0) A45 kr kr (fun hc46 => ?_) (fun hc46 => ?_)
 ·
  have A47 := A45.set 33 (v' := .bool true) kr rfl (zG hc46)
  have ht48 : (c : Int) ≠ 0 := by simpa using hc46
  have hjm : j < m := (by have h3 := val_lt hrow1.lt; rw [hlen1] at h3; refine pow_lt_of (i := j) (len := m) (v := val l1) ?_ h3; have h1 := hp42_2; obtain rfl : c = 1 := (by omega); omega)
  refine i_skip ?_
  refine zA (C43 _ _ ?_)
  refine zD (fun K49 C49 => ?_)
  refine zV ?_
  refine zC ?_
  refine zB 4 [(40, .int .i64 (j : Int)), (39, .slice (some ⟨g, 0, none⟩) m cap), (38, .int .i64 (j : Int)), (37, .slice (some ⟨g, 0, none⟩) m cap)] A47 kr kr (fun a50 A50 => ?_)
  refine wplI A50 kr (zJ (d := 41) (v := .pointer (some ⟨g, j, none⟩)) A50 kr (zP (t := 23) (e := 93) (b := g) (off := 0) (len := m) (cap := cap) (kd := .i64) (i := (j : Int)) (g := false) (m := 1) (off' := j) rfl kr kr kr kr (by omega) (by omega) (by first | rfl | omega | (simp; done) | (simp; omega)) _) ?_)
  intro a51 A51
  refine wplI A51 kr (zJ (d := 42) (v := .int .u32 ((l1.getD j 0 : Nat) : Int)) A51 kr (zF (t := 93) (g := false) (vs := [.int .u32 ((l1.getD j 0 : Nat) : Int)]) (ad := ⟨g, j, none⟩) rfl kr kr ir (j42.rowCells 0 rfl hrow1 (by have := hrow1.len; (try simp only [List.length_set] at *); omega))) ?_)
  intro a52 A52
  refine zB 1 [(43, .int .u32 (c : Int))] A52 kr kr (fun a53 A53 => ?_)
  refine wplI A53 kr (zK (d := 44) (f := 74) (cap := #[]) (vs := #[.int .u32 ((l1.getD j 0 : Nat) : Int), .int .u32 0, .int .u32 (c : Int)]) A53 kr j42 rfl kr kr (fun w => Try.call74 _ w) (sub32 _ _ j42.lt ((l1.getD j 0 : Nat) : Int) 0 (c : Int) ⟨by omega, by omega⟩ ⟨by omega, by omega⟩ ⟨by omega, by omega⟩) ?_)
  rintro v54 w54 j54 q54 hu54 rfl a55 A55
  refine zB 3 [(46, .int .u32 (if ((l1.getD j 0 : Nat) : Int) < (0 : Int) + (c : Int) then 1 else 0)), (45, .int .u32 (((((l1.getD j 0 : Nat) : Int) - (0 : Int)) % 4294967296 - (c : Int)) % 4294967296)), (36, .tuple #[.int .u32 (((((l1.getD j 0 : Nat) : Int) - (0 : Int)) % 4294967296 - (c : Int)) % 4294967296), .int .u32 (if ((l1.getD j 0 : Nat) : Int) < (0 : Int) + (c : Int) then 1 else 0)])] A55 kr kr (fun a56 A56 => ?_)
  refine wplI A56 kr (zJ (d := 47) (v := .pointer (some ⟨g, j, none⟩)) A56 kr (zP (t := 23) (e := 93) (b := g) (off := 0) (len := m) (cap := cap) (kd := .i64) (i := (j : Int)) (g := false) (m := 1) (off' := j) rfl kr kr kr kr (by omega) (by omega) (by first | rfl | omega | (simp; done) | (simp; omega)) _) ?_)
  intro a57 A57
  refine wplI A57 kr (op_storeU (t := 93) (y := (subD (l1.getD j 0) 0 c)) 0 A57 kr j54 rfl rfl rfl (by unfold subD; omega) kr rfl hrow1 (by have := hrow1.len; (try simp only [List.length_set] at *); omega) (subD_lt _ _ _) ?_)
  intro cur58 w58 hrow58 j58 q58
  refine zB 1 [(5, .int .u32 (if ((l1.getD j 0 : Nat) : Int) < (0 : Int) + (c : Int) then 1 else 0))] A57 kr kr (fun a59 A59 => ?_)
  have A60 := A59.set 5 (v' := .int .u32 ((brw (l1.getD j 0) 0 c : Nat) : Int)) kr rfl (vint (by unfold brw; (repeat' split) <;> omega))
  refine zE ?_
  refine zW ?_
  refine zA (C49 _ _ ?_)
  refine zC ?_
  refine zB 2 [(35, .int .i64 (IntKind.i64.wrap ((j : Int) + 1))), (34, .int .i64 (j : Int))] A60 kr kr (fun a61 A61 => ?_)
  have A62 := A61.set 35 (v' := .int .i64 ((j : Int) + 1)) kr rfl (vint (wi64 (by omega) (by omega)))
  refine zB 1 [(8, .int .i64 ((j : Int) + 1))] A62 kr kr (fun a63 A63 => ?_)
  refine zE ?_
  refine zA ?_
  refine ⟨j + 1, ⟨_, cur58, (l1.set j (subD (l1.getD j 0) 0 c)), brw (l1.getD j 0) 0 c, A63.as [0, 5, 8] kr kr, j58, (Le3 q42 q54 q58), hrow58, brw_le _ _ _, substep0 _ _ _ _ _ (by omega) hlt1 hc1 hp42_2⟩, ?_⟩
  first | omega | (simp; omega)
 have A64 := A45.set 33 (v' := .bool false) kr rfl (zG hc46)
 have ht65 : (c : Int) = 0 := by simpa using hc46
 have hc0 : c = 0 := by omega
 refine i_exit ?_
 refine zT ?_
 refine zT ?_
 refine qA ?_
 refine zA (C39 _ _ ?_)
 refine zD (fun K66 C66 => ?_)
 refine zC ?_
 refine zB 1 [(48, .slice (some ⟨g, 0, none⟩) m cap)] A64 kr kr (fun a67 A67 => ?_)
 refine wplI A67 kr (zK (d := 49) (f := 71) (cap := #[]) (vs := #[.slice (some ⟨g, 0, none⟩) m cap]) A67 kr j42 rfl kr kr (fun w => Try.call71 _ w) (trim_c _ X0 (X0_lt _) _ _ _ l1 (URow.limbs (Y := X0) hrow1 (j42.get 0 rfl) (fun _ h => h.elim))) ?_)
 rintro v68 w68 j68 q68 hu68 rfl a69 A69
 refine zB 1 [(4, .slice (some ⟨g, 0, none⟩) (trimN l1) cap)] A69 kr kr (fun a70 A70 => ?_)
 refine zE ?_
 refine zA (C66 _ _ ?_)
 refine zQ ?_
 refine zR (v := .slice (some ⟨g, 0, none⟩) (trimN l1) cap) (rs := [.tmp 4]) A70 kr (Res.tmp kr Res.nil) kr ?_
 exact ⟨j68.upd, _, rfl, cur1, Go.Gv.trimmed l1, by rw [trimmed_length], j68.get 0 rfl, by rw [trimmed_length]; exact hrow1.trimmed, canon_trimmed _, by rw [val_trimmed]; have h9 := hp42_2; rw [hc0] at h9; omega⟩
end Go.Proofs.Ytoocgllbbihoaaa
namespace Go.Proofs.Ytoocgllbbihoaaa
open Go Go.Gv Go.RowKit
set_option maxRecDepth 100000
set_option maxHeartbeats 1000000
theorem backward1_c (l bx : Nat) (ad : Option Addr) (len cap : Nat) (xs : List Nat) (hlen : len = xs.length) (hbig : len ≤ 1099511627776) (J : Nat → World → Prop) (R : World → Prop)
    (hread : ∀ k w, J k w → At (rd w X0) ⟨bx, 0, none⟩ [.slice ad len cap])
    (hel : ∀ k w, J (k + 1) w → k < len → ∃ b off, ad = some ⟨b, off, none⟩ ∧ At (rd w X0) ⟨b, off + k, none⟩ [.int .u32 ((xs.getD k 0 : Nat) : Int)])
    (hY : ∀ k w, k < len → J (k + 1) w → YieldAt (FF none) 0 Try.prog l #[.int .i64 (k : Int), .int .u32 ((xs.getD k 0 : Nat) : Int)] w (Rounds (J k) R))
    (h0 : ∀ w, J 0 w → R w) (w : World) (hJ : J len w) : Calls Try.prog 92 #[.func (.yield l) #[] #[], .pointer (some ⟨bx, 0, none⟩)] w (fun e w' => (∃ v, e = .returned v) ∧ R w') := by
 refine zZ (n := 19) (vs := [.func (.yield l) #[] #[], .pointer (some ⟨bx, 0, none⟩)]) Try.func92 rfl rfl rfl kr (fun a0 A0 => ?_)
 have A0 : Fr 19 a0 [(0, .func (.yield l) #[] #[]), (1, .pointer (some ⟨bx, 0, none⟩))] := A0
 have j0 : St E0 w X0 w X0 [] := St.start (X0_lt _)
 refine zD (fun K1 C1 => ?_)
 refine zC ?_
 refine wplI A0 kr (zJ (d := 4) (v := .slice ad len cap) A0 kr (zF (t := 23) (g := false) (vs := [.slice ad len cap]) (ad := ⟨bx, 0, none⟩) rfl kr kr ir ((hread _ _ hJ)).cells) ?_)
 intro a2 A2
 refine zB 2 [(6, .int .i64 (IntKind.i64.wrap ((len : Int) - 1))), (5, .int .i64 (len : Int))] A2 kr kr (fun a3 A3 => ?_)
 have A4 := A3.set 6 (v' := .int .i64 ((len : Int) - 1)) kr rfl (vint (wi64 (by omega) (by omega)))
 refine zB 1 [(3, .int .i64 ((len : Int) - 1))] A4 kr kr (fun a5 A5 => ?_)
 refine zE ?_
 refine zA (C1 _ _ ?_)
 refine zV ?_
 refine qC (fun (k : Nat) a w1 => Fr 19 a [(0, .func (.yield l) #[] #[]), (1, .pointer (some ⟨bx, 0, none⟩)), (3, .int .i64 ((k : Int) - 1))] ∧ J k w1 ∧ k ≤ len) (fun k => k) len ?_ ?_
 ·
  exact ⟨A5.as [0, 1, 3] kr kr, hJ, Nat.le_refl _⟩
 rintro k a6 w6 ⟨A6, hJ6, hk⟩
 have j6 : St E0 w6 X0 w6 X0 [] := St.start (X0_lt _)
 refine zD (fun K7 C7 => ?_)
 refine zD (fun K8 C8 => ?_)
 refine zC ?_
 refine zB 2 [(8, .bool (decide (((k : Int) - 1) ≥ 0))), (7, .int .i64 ((k : Int) - 1))] A6 kr kr (fun a9 A9 => ?_)
 refine zE ?_
 refine zA (C8 _ _ ?_)
 refine zS (decide (((k : Int) - 1) ≥ 0)) A9 kr kr (fun hc10 => ?_) (fun hc10 => ?_)
 ·
  have A11 := A9.set 8 (v' := .bool true) kr rfl (zG hc10)
  have ht12 : ((k : Int) - 1) ≥ 0 := of_decide_eq_true hc10
  obtain ⟨j, rfl⟩ : ∃ j, k = j + 1 := ⟨k - 1, by omega⟩
  have A13 := A11.set 3 (v := .int .i64 (((j + 1 : Nat) : Int) - 1)) (v' := .int .i64 (j : Int)) kr kr (vint (by omega))
  obtain ⟨b, off, rfl, hel1⟩ := hel j _ hJ6 (by omega)
  refine i_skip ?_
  refine zA (C7 _ _ ?_)
  refine zD (fun K14 C14 => ?_)
  refine zV ?_
  refine zD (fun K15 C15 => ?_)
  refine zC ?_
  refine zB 2 [(12, .int .i64 (j : Int)), (11, .func (.yield l) #[] #[])] A13 kr kr (fun a16 A16 => ?_)
  refine wplI A16 kr (zJ (d := 13) (v := .slice (some ⟨b, off, none⟩) len cap) A16 kr (zF (t := 23) (g := false) (vs := [.slice (some ⟨b, off, none⟩) len cap]) (ad := ⟨bx, 0, none⟩) rfl kr kr ir ((hread _ _ hJ6)).cells) ?_)
  intro a17 A17
  refine zB 1 [(14, .int .i64 (j : Int))] A17 kr kr (fun a18 A18 => ?_)
  refine wplI A18 kr (zJ (d := 15) (v := .pointer (some ⟨b, off + j, none⟩)) A18 kr (zP (t := 23) (e := 93) (b := b) (off := off) (len := len) (cap := cap) (kd := .i64) (i := (j : Int)) (g := false) (m := 1) (off' := off + j) rfl kr kr kr kr (by omega) (by omega) (by first | rfl | omega | (simp; done) | (simp; omega)) _) ?_)
  intro a19 A19
  refine wplI A19 kr (zJ (d := 16) (v := .int .u32 ((xs.getD j 0 : Nat) : Int)) A19 kr (zF (t := 93) (g := false) (vs := [.int .u32 ((xs.getD j 0 : Nat) : Int)]) (ad := ⟨b, off + j, none⟩) rfl kr kr ir (hel1).cells) ?_)
  intro a20 A20
  refine wpl_yield (d := 17) (l := l) (vs := #[.int .i64 (j : Int), .int .u32 ((xs.getD j 0 : Nat) : Int)]) A20 kr rfl kr kr (hY j _ (by omega) hJ6) (fun _ _ h => h.ret) ?_
  rintro v21 w21 ⟨bb21, hv21, hJ21, hR21⟩ a22 A22
  cases hv21
  have j21 : St E0 w21 X0 w21 X0 [] := St.start (X0_lt _)
  refine zB 1 [(18, .bool (!bb21))] A22 kr kr (fun a23 A23 => ?_)
  refine zE ?_
  refine zA (C15 _ _ ?_)
  refine zS (!bb21) A23 kr kr (fun hc24 => ?_) (fun hc24 => ?_)
  ·
   have A25 := A23.set 18 (v' := .bool true) kr rfl (zG hc24)
   have ht26 : bb21 = false := by simpa using hc24
   have hbb := ht26
   refine zQ ?_
   refine zU ?_
   refine zL ?_
   refine zL ?_
   refine zU ?_
   refine zR (v := .tuple #[]) (rs := []) A25 kr Res.nil kr ?_
   exact ⟨⟨_, rfl⟩, (hR21 hbb)⟩
  have A27 := A23.set 18 (v' := .bool false) kr rfl (zG hc24)
  have ht28 : bb21 = true := by simpa using hc24
  have hbb := ht28
  refine i_skip ?_
  refine zW ?_
  refine zA (C14 _ _ ?_)
  refine zC ?_
  refine zB 2 [(10, .int .i64 (IntKind.i64.wrap ((j : Int) - 1))), (9, .int .i64 (j : Int))] A27 kr kr (fun a29 A29 => ?_)
  have A30 := A29.set 10 (v' := .int .i64 ((j : Int) - 1)) kr rfl (vint (wi64 (by omega) (by omega)))
  refine zB 1 [(3, .int .i64 ((j : Int) - 1))] A30 kr kr (fun a31 A31 => ?_)
  refine zE ?_
  refine zA ?_
  exact ⟨j, ⟨A31.as [0, 1, 3] kr kr, hJ21 hbb, by omega⟩, by show j < j + 1; omega⟩
 have A32 := A9.set 8 (v' := .bool false) kr rfl (zG hc10)
 have ht33 : ¬ (((k : Int) - 1) ≥ 0) := of_decide_eq_false hc10
 have hk0 : k = 0 := by omega
 refine i_exit ?_
 refine zT ?_
 refine zT ?_
 refine qA ?_
 refine c_end (v := .tuple #[]) (rs := []) A32 kr Res.nil kr ?_
 exact ⟨⟨_, rfl⟩, (h0 _ (hk0 ▸ hJ6))⟩
end Go.Proofs.Ytoocgllbbihoaaa
namespace Go.Proofs.Ytoocgllbbihoaaa
open Go Go.Gv Go.RowKit
set_option maxRecDepth 100000
set_option maxHeartbeats 1000000
theorem backward_c (w : World) (X : Hid) (hX : ∀ k o, X k o → k < w.heap.size) (ad : Option Addr) (len cap : Nat) : Calls Try.prog 70 #[.slice ad len cap] w (Ret E0 w fun w' v => ∃ bx, v = .func (.func 92) #[] #[.pointer (some ⟨bx, 0, none⟩)] ∧ w.heap.size ≤ bx ∧ w'.heap[bx]? = some (.cells #[.slice ad len cap] 23 (0, 0))) := by
 refine zZ (n := 4) (vs := [.slice ad len cap]) Try.func70 rfl rfl rfl kr (fun a0 A0 => ?_)
 have A0 : Fr 4 a0 [(0, .slice ad len cap)] := A0
 have j0 : St E0 w X w X [] := St.start hX
 refine zD (fun K1 C1 => ?_)
 refine zC ?_
 refine wplI A0 kr (zN (d := 1) (fun b => .pointer (some ⟨b, 0, none⟩)) (.cells #[.slice ad len cap] 23 (0, 0)) A0 kr j0 kw ?_)
 intro b2 w2 Y2 j2 q2 hu2 a3 A3
 refine zB 1 [(2, .nilFunc)] A3 kr kr (fun a4 A4 => ?_)
 refine zE ?_
 refine zA (C1 _ _ ?_)
 refine zD (fun K5 C5 => ?_)
 refine zC ?_
 refine zB 2 [(2, .func (.func 92) #[] #[.pointer (some ⟨b2, 0, none⟩)]), (3, .func (.func 92) #[] #[.pointer (some ⟨b2, 0, none⟩)])] A4 kr kr (fun a6 A6 => ?_)
 refine zE ?_
 refine zA (C5 _ _ ?_)
 refine zQ ?_
 refine zR (v := .func (.func 92) #[] #[.pointer (some ⟨b2, 0, none⟩)]) (rs := [.tmp 2]) A6 kr (Res.tmp kr Res.nil) kr ?_
 exact ⟨j2.upd, _, rfl, _, rfl, j2.own_ge 0 rfl, j2.get 0 rfl⟩
theorem cmpI_nat_eq {x y : Nat} (h : cmpI (x : Int) (y : Int) = 0) : x = y := by unfold cmpI at h; (repeat' split at h) <;> omega
theorem cmpI_nat_lt {x y : Nat} (h : x < y) : cmpI (x : Int) (y : Int) = -1 := by unfold cmpI; rw [if_pos (by omega)]
theorem cmpI_nat_gt {x y : Nat} (h : y < x) : cmpI (x : Int) (y : Int) = 1 := by unfold cmpI; rw [if_neg (by omega), if_pos (by omega)]
theorem cmpI_self (x : Int) : cmpI x x = 0 := by unfold cmpI; rw [if_neg (by omega), if_neg (by omega)]
theorem order_len {l l2 : List Nat} (h1 : ∀ x ∈ l, x < 4294967296) (h2 : ∀ x ∈ l2, x < 4294967296) (c1 : Canon l) (c2 : Canon l2) (h : cmpI (l.length : Int) (l2.length : Int) ≠ 0) : cmpI (l.length : Int) (l2.length : Int) = cmpI (val l) (val l2) := by
  rcases Nat.lt_trichotomy l.length l2.length with e | e | e
  · rw [cmpI_nat_lt e, cmpI_nat_lt (val_shorter h1 c2 e)]
  · rw [e, cmpI_self] at h; exact absurd rfl h
  · rw [cmpI_nat_gt e, cmpI_nat_gt (val_shorter h2 c1 e)]
theorem order_top {l l2 : List Nat} (h1 : ∀ x ∈ l, x < 4294967296) (h2 : ∀ x ∈ l2, x < 4294967296) (hlen : l.length = l2.length) (k : Nat) (hk : k < l.length) (heq : ∀ j, k + 1 ≤ j → j < l.length → l.getD j 0 = l2.getD j 0)
    (h : cmpI ((l.getD k 0 : Nat) : Int) ((l2.getD k 0 : Nat) : Int) ≠ 0) : cmpI ((l.getD k 0 : Nat) : Int) ((l2.getD k 0 : Nat) : Int) = cmpI (val l) (val l2) := by
  rcases Nat.lt_trichotomy (l.getD k 0) (l2.getD k 0) with e | e | e
  · rw [cmpI_nat_lt e, cmpI_nat_lt (val_cmp h1 hlen k hk heq e)]
  · rw [e, cmpI_self] at h; exact absurd rfl h
  · rw [cmpI_nat_gt e, cmpI_nat_gt (val_cmp h2 hlen.symm k (by omega) (fun j h1 h2 => (heq j h1 (by omega)).symm) e)]
theorem order_eq {l l2 : List Nat} (hlen : l.length = l2.length) (heq : ∀ j, 0 ≤ j → j < l.length → l.getD j 0 = l2.getD j 0) : (0 : Int) = cmpI (val l) (val l2) := by rw [val_eq hlen heq, cmpI_self]
theorem order_c (w : World) (X : Hid) (hX : ∀ k o, X k o → k < w.heap.size) (ad : Option Addr) (len cap : Nat) (l : List Nat) (h : Limbs (rd w X) ad len cap l) (ad2 : Option Addr) (len2 cap2 : Nat) (l2 : List Nat) (h2 : Limbs (rd w X) ad2 len2 cap2 l2) (c1 : Canon l) (c2 : Canon l2) (hm : len ≤ 1099511627776) : Calls Try.prog 55 #[.slice ad len cap, .slice ad2 len2 cap2] w (Ret E0 w fun _ v => v = .int .i64 (cmpI (val l) (val l2))) := by
 obtain rfl := h.hlen
 obtain rfl := h2.hlen
 have hcap := h.hcap
 have hbig := h.hbig
 have hcap2 := h2.hcap
 have hbig2 := h2.hbig
 refine m_enter (n := 30) (vs := [.slice ad l.length cap, .slice ad2 l2.length cap2]) Try.func55 rfl rfl rfl kr (fun a0 A0 => ?_)
 have A0 : Fr 30 a0 [(0, .slice ad l.length cap), (1, .slice ad2 l2.length cap2)] := A0
 have j0 : St E0 w X w X [] := St.start hX
 refine zD (fun K1 C1 => ?_)
 refine zC ?_
 refine wplI A0 kr (zN (d := 3) (fun b => .pointer (some ⟨b, 0, none⟩)) (.cells #[.slice ad2 l2.length cap2] 23 (0, 0)) A0 kr j0 kw ?_)
 intro b2 w2 Y2 j2 q2 hu2 a3 A3
 refine wplI A3 kr (zN (d := 4) (fun b => .pointer (some ⟨b, 0, none⟩)) (.cells #[.int .i64 0] 3 (0, 0)) A3 kr j2 kw ?_)
 intro b4 w4 Y4 j4 q4 hu4 a5 A5
 refine zE ?_
 refine zA (C1 _ _ ?_)
 refine zD (fun K6 C6 => ?_)
 refine zD (fun K7 C7 => ?_)
 refine zC ?_
 refine zB 2 [(10, .int .i64 (l.length : Int)), (9, .slice ad l.length cap)] A5 kr kr (fun a8 A8 => ?_)
 refine wplI A8 kr (zJ (d := 11) (v := .slice ad2 l2.length cap2) A8 kr (zF (t := 23) (g := false) (vs := [.slice ad2 l2.length cap2]) (ad := ⟨b2, 0, none⟩) rfl kr kr ir (j4.cells 1 rfl rfl)) ?_)
 intro a9 A9
 refine zB 1 [(12, .int .i64 (l2.length : Int))] A9 kr kr (fun a10 A10 => ?_)
 refine wplI A10 kr (zK (d := 13) (f := 72) (cap := #[]) (vs := #[.int .i64 (l.length : Int), .int .i64 (l2.length : Int)]) A10 kr j4 rfl kr kr (fun w => Try.call72 _ w) (compare_int _ _ j4.lt (l.length : Int) (l2.length : Int)) ?_)
 rintro v11 w11 j11 q11 hu11 rfl a12 A12
 refine zB 1 [(5, .int .i64 (cmpI (l.length : Int) (l2.length : Int)))] A12 kr kr (fun a13 A13 => ?_)
 refine zE ?_
 refine zA (C7 _ _ ?_)
 refine zD (fun K14 C14 => ?_)
 refine zC ?_
 refine zB 2 [(15, .bool ((cmpI (l.length : Int) (l2.length : Int)) != 0)), (14, .int .i64 (cmpI (l.length : Int) (l2.length : Int)))] A13 kr kr (fun a15 A15 => ?_)
 refine zE ?_
 refine zA (C14 _ _ ?_)
 refine zS ((cmpI (l.length : Int) (l2.length : Int)) != 0) A15 kr kr (fun hc16 => ?_) (fun hc16 => ?_)
 ·
  have A17 := A15.set 15 (v' := .bool true) kr rfl (zG hc16)
  have ht18 : (cmpI (l.length : Int) (l2.length : Int)) ≠ 0 := by simpa using hc16
  refine zD (fun K19 C19 => ?_)
  refine zC ?_
  refine zB 1 [(16, .int .i64 (cmpI (l.length : Int) (l2.length : Int)))] A17 kr kr (fun a20 A20 => ?_)
  refine wplI A20 kr (zO (t := 3) (b := b4) (off := 0) (c' := #[.int .i64 (cmpI (l.length : Int) (l2.length : Int))]) (g := false) (m := 1) 0 _ A20 kr j11 rfl kr rfl kr kr kr rfl (by first | decide | (simp; done)) kr rfl ?_)
  intro w21 j21 q21
  refine zE ?_
  refine zA (C19 _ _ ?_)
  refine zQ ?_
  refine zL ?_
  refine m_ret0 (v := .int .i64 (cmpI (l.length : Int) (l2.length : Int))) (rs := [.cell 4 3]) A20 kr (Res.cell (ad := ⟨b4, 0, none⟩) (cs := [.int .i64 (cmpI (l.length : Int) (l2.length : Int))]) (g := false) kr kr kr ir (j21.cells 0 rfl rfl) Res.nil) kr ?_
  exact ⟨j21.upd, _, rfl, vint (order_len h.hlt h2.hlt c1 c2 ht18)⟩
 have A22 := A15.set 15 (v' := .bool false) kr rfl (zG hc16)
 have ht23 : (cmpI (l.length : Int) (l2.length : Int)) = 0 := by simpa using hc16
 have hlen2 := cmpI_nat_eq ht23
 refine i_skip ?_
 refine zA (C6 _ _ ?_)
 refine zD (fun K24 C24 => ?_)
 refine zD (fun K25 C25 => ?_)
 refine zC ?_
 refine zB 1 [(17, .slice ad l.length cap)] A22 kr kr (fun a26 A26 => ?_)
 refine wplI A26 kr (zK (d := 18) (f := 70) (cap := #[]) (vs := #[.slice ad l.length cap]) A26 kr j11 rfl kr kr (fun w => Try.call70 _ w) (backward_c _ _ j11.lt ad l.length cap) ?_)
 rintro v27 w27 j27 q27 hu27 ⟨bx27, rfl, hge27, hget27⟩ a28 A28
 have j29 := St.adopt j27 (fun o h => Nat.not_lt.2 hge27 (j11.lt _ _ h)) (Nat.le_trans j11.upd.size hge27) hget27
 have q29 := Le.adopt q27 hge27
 refine zE ?_
 refine zA (C25 _ _ ?_)
 refine zV ?_
 refine i_range2 (f := 92) (caps := #[.pointer (some ⟨bx27, 0, none⟩)]) A28 j29 kr kr (fun args w => Try.call92 args w) ?_
 intro rec30 l30 b30 w30 Y30 hr30 j30 q30 hu30
 have A31 := fr_marked b30 A28
 refine backward1_c l30 bx27 ad l.length cap l rfl (by omega) (fun k w' => ∃ (Y' : Hid), St E0 w X w' Y' [(l30, .loop rec30), (b30, .deferred (some [])), (bx27, .cells #[.slice ad l.length cap] 23 (0, 0)), (b4, .cells #[.int .i64 0] 3 (0, 0)), (b2, .cells #[.slice ad2 l2.length cap2] 23 (0, 0))] ∧ Le (rd w30 Y30) (rd w' Y') ∧ (∀ j, k ≤ j → j < l.length → l.getD j 0 = l2.getD j 0)) _ ?_ ?_ ?_ ?_ _ ?_
 ·
  rintro k w32 ⟨Y32, j32, q32, hp32_0⟩
  exact j32.at0 2 rfl rfl
 ·
  rintro k w33 ⟨Y33, j33, q33, hp33_0⟩
  intro hk
  obtain ⟨b, off, rfl, _⟩ := h.addr (by omega)
  exact ⟨b, off, rfl, ((h.cell (i := k) (by omega)).mono (Le6 q2 q4 q11 q29 q30 q33)).mono Le.x0⟩
 ·
  intro k w34 hk
  rintro ⟨Y34, j34, q34, hp34_0⟩
  refine y_round2 (p := 19) (q := 20) hr30 A28 j34 kr kr (fun a35 A35 => ?_)
  obtain ⟨bk36, of37, rfl, _⟩ := h2.addr (by omega)
  refine zD (fun K38 C38 => ?_)
  refine zC ?_
  refine zB 1 [(6, .int .i64 (k : Int))] A35 kr kr (fun a39 A39 => ?_)
  refine zE ?_
  refine zA (C38 _ _ ?_)
  refine zC ?_
  refine zB 1 [(7, .int .u32 ((l.getD k 0 : Nat) : Int))] A39 kr kr (fun a40 A40 => ?_)
  refine zE ?_
  refine zA ?_
  refine y_begin2 hr30 j34 (fun w41 j41 q41 => ?_)
  refine zV ?_
  refine zD (fun K42 C42 => ?_)
  refine zC ?_
  refine zB 1 [(21, .int .u32 ((l.getD k 0 : Nat) : Int))] A40 kr kr (fun a43 A43 => ?_)
  refine wplI A43 kr (zJ (d := 22) (v := .slice (some ⟨bk36, of37, none⟩) l2.length cap2) A43 kr (zF (t := 23) (g := false) (vs := [.slice (some ⟨bk36, of37, none⟩) l2.length cap2]) (ad := ⟨b2, 0, none⟩) rfl kr kr ir (j41.cells 4 rfl rfl)) ?_)
  intro a44 A44
  refine zB 1 [(23, .int .i64 (k : Int))] A44 kr kr (fun a45 A45 => ?_)
  refine wplI A45 kr (zJ (d := 24) (v := .pointer (some ⟨bk36, of37 + k, none⟩)) A45 kr (zP (t := 23) (e := 93) (b := bk36) (off := of37) (len := l2.length) (cap := cap2) (kd := .i64) (i := (k : Int)) (g := false) (m := 1) (off' := of37 + k) rfl kr kr kr kr (by omega) (by omega) (by first | rfl | omega | (simp; done) | (simp; omega)) _) ?_)
  intro a46 A46
  refine wplI A46 kr (zJ (d := 25) (v := .int .u32 ((l2.getD k 0 : Nat) : Int)) A46 kr (zF (t := 93) (g := false) (vs := [.int .u32 ((l2.getD k 0 : Nat) : Int)]) (ad := ⟨bk36, of37 + k, none⟩) rfl kr kr ir ((h2.cell (i := k) (by omega)).mono (Le7 q2 q4 q11 q29 q30 q34 q41)).cells) ?_)
  intro a47 A47
  refine wplI A47 kr (zK (d := 26) (f := 73) (cap := #[]) (vs := #[.int .u32 ((l.getD k 0 : Nat) : Int), .int .u32 ((l2.getD k 0 : Nat) : Int)]) A47 kr j41 rfl kr kr (fun w => Try.call73 _ w) (compare_uint32 _ _ j41.lt ((l.getD k 0 : Nat) : Int) ((l2.getD k 0 : Nat) : Int)) ?_)
  rintro v48 w48 j48 q48 hu48 rfl a49 A49
  refine zB 1 [(8, .int .i64 (cmpI ((l.getD k 0 : Nat) : Int) ((l2.getD k 0 : Nat) : Int)))] A49 kr kr (fun a50 A50 => ?_)
  refine zE ?_
  refine zA (C42 _ _ ?_)
  refine zD (fun K51 C51 => ?_)
  refine zC ?_
  refine zB 2 [(28, .bool ((cmpI ((l.getD k 0 : Nat) : Int) ((l2.getD k 0 : Nat) : Int)) != 0)), (27, .int .i64 (cmpI ((l.getD k 0 : Nat) : Int) ((l2.getD k 0 : Nat) : Int)))] A50 kr kr (fun a52 A52 => ?_)
  refine zE ?_
  refine zA (C51 _ _ ?_)
  refine zS ((cmpI ((l.getD k 0 : Nat) : Int) ((l2.getD k 0 : Nat) : Int)) != 0) A52 kr kr (fun hc53 => ?_) (fun hc53 => ?_)
  ·
   have A54 := A52.set 28 (v' := .bool true) kr rfl (zG hc53)
   have ht55 : (cmpI ((l.getD k 0 : Nat) : Int) ((l2.getD k 0 : Nat) : Int)) ≠ 0 := by simpa using hc53
   refine zD (fun K56 C56 => ?_)
   refine zC ?_
   refine zB 1 [(29, .int .i64 (cmpI ((l.getD k 0 : Nat) : Int) ((l2.getD k 0 : Nat) : Int)))] A54 kr kr (fun a57 A57 => ?_)
   refine wplI A57 kr (zO (t := 3) (b := b4) (off := 0) (c' := #[.int .i64 (cmpI ((l.getD k 0 : Nat) : Int) ((l2.getD k 0 : Nat) : Int))]) (g := false) (m := 1) 3 _ A57 kr j48 rfl kr rfl kr kr kr rfl (by first | decide | (simp; done)) kr rfl ?_)
   intro w58 j58 q58
   refine zE ?_
   refine zA (C56 _ _ ?_)
   refine zQ ?_
   refine zU ?_
   refine y_ret2 j58 (fun w59 j59 q59 => Rounds.stop (RangeEnd.ret j59 (fun w60 j60 q60 => ?_)))
   refine zU ?_
   refine zL ?_
   refine m_ret1 (v := .int .i64 (cmpI ((l.getD k 0 : Nat) : Int) ((l2.getD k 0 : Nat) : Int))) (rs := [.cell 4 3]) (vs := [.int .i64 (cmpI ((l.getD k 0 : Nat) : Int) ((l2.getD k 0 : Nat) : Int))]) 1 A31 j60 rfl kr kr (fun w61 j61 q61 => ?_)
   refine ⟨(Res.cell (ad := ⟨b4, 0, none⟩) (cs := [.int .i64 (cmpI ((l.getD k 0 : Nat) : Int) ((l2.getD k 0 : Nat) : Int))]) (g := false) kr kr kr ir (j61.cells 3 rfl rfl) Res.nil), ?_⟩
   exact ⟨j61.upd, _, rfl, vint (order_top h.hlt h2.hlt hlen2 k (by omega) hp34_0 ht55)⟩
  have A62 := A52.set 28 (v' := .bool false) kr rfl (zG hc53)
  have ht63 : (cmpI ((l.getD k 0 : Nat) : Int) ((l2.getD k 0 : Nat) : Int)) = 0 := by simpa using hc53
  refine i_skip ?_
  refine zW ?_
  refine y_next2 hr30 j48 (fun w64 j64 q64 => Rounds.next ?_)
  exact ⟨_, j64, (Le4 q34 q41 q48 q64), fun j hj hl => (by rcases Nat.eq_or_lt_of_le hj with rfl | h9; exact cmpI_nat_eq ht63; exact hp34_0 j h9 hl)⟩
 ·
  rintro w65 ⟨Y65, j65, q65, hp65_0⟩
  refine RangeEnd.norm hr30 j65 (fun w66 j66 q66 => ?_)
  refine zW ?_
  refine zA (C24 _ _ ?_)
  refine zD (fun K67 C67 => ?_)
  refine zC ?_
  refine wplI A31 kr (zO (t := 3) (b := b4) (off := 0) (c' := #[.int .i64 0]) (g := false) (m := 1) 3 _ A31 kr j66 rfl kr rfl kr kr kr rfl (by first | decide | (simp; done)) kr rfl ?_)
  intro w68 j68 q68
  refine zE ?_
  refine zA (C67 _ _ ?_)
  refine zQ ?_
  refine m_ret1 (v := .int .i64 0) (rs := [.cell 4 3]) (vs := [.int .i64 0]) 1 A31 j68 rfl kr kr (fun w69 j69 q69 => ?_)
  refine ⟨(Res.cell (ad := ⟨b4, 0, none⟩) (cs := [.int .i64 0]) (g := false) kr kr kr ir (j69.cells 3 rfl rfl) Res.nil), ?_⟩
  exact ⟨j69.upd, _, rfl, vint (order_eq hlen2 hp65_0)⟩
 ·
  exact ⟨_, j30, Le.refl _, fun j hj hl => absurd hl (Nat.not_lt.2 hj)⟩
end Go.Proofs.Ytoocgllbbihoaaa
namespace Go.Proofs.Ytoocgllbbihoaaa
open Go Go.Gv Go.RowKit
set_option maxRecDepth 100000
set_option maxHeartbeats 1000000
theorem chk2_ok {l l2 : List Nat} (h : chk2 l l2 = 0) : (l.length ≤ 512 ∧ Canon l) ∧ (l2.length ≤ 512 ∧ Canon l2) := by
  have h1 : chkN l = 0 ∧ chkN l2 = 0 := by
    unfold chk2 at h; simp only [orL] at h
    split at h
    · rename_i h1; split at h
      · rename_i h2; exact ⟨h1, h2⟩
      · contradiction
    · contradiction
  exact ⟨chkN_ok h1.1, chkN_ok h1.2⟩
theorem Add_c (w : World) (X : Hid) (hX : ∀ k o, X k o → k < w.heap.size) (ad : Option Addr) (len cap : Nat) (l : List Nat) (h : Limbs (rd w X) ad len cap l) (ad2 : Option Addr) (len2 cap2 : Nat) (l2 : List Nat) (h2 : Limbs (rd w X) ad2 len2 cap2 l2) : Calls Try.prog 77 #[.slice ad len cap, .slice ad2 len2 cap2] w (Ret E0 w fun w' v => NumV 93 w w' (or2 (chk2 l l2) (fitE (val l + val l2))) (val l + val l2) v) := by
 obtain rfl := h.hlen
 obtain rfl := h2.hlen
 have hcap := h.hcap
 have hbig := h.hbig
 have hcap2 := h2.hcap
 have hbig2 := h2.hbig
 refine zZ (n := 31) (vs := [.slice ad l.length cap, .slice ad2 l2.length cap2]) Try.func77 rfl rfl rfl kr (fun a0 A0 => ?_)
 have A0 : Fr 31 a0 [(0, .slice ad l.length cap), (1, .slice ad2 l2.length cap2)] := A0
 have j0 : St E0 w X w X [] := St.start hX
 refine zD (fun K1 C1 => ?_)
 refine zC ?_
 refine zB 2 [(5, .int .i64 0), (4, .slice none 0 0)] A0 kr kr (fun a2 A2 => ?_)
 refine zE ?_
 refine zA (C1 _ _ ?_)
 refine zD (fun K3 C3 => ?_)
 refine zD (fun K4 C4 => ?_)
 refine zC ?_
 refine zB 2 [(9, .slice ad2 l2.length cap2), (8, .slice ad l.length cap)] A2 kr kr (fun a5 A5 => ?_)
 refine wplI A5 kr (zK (d := 10) (f := 52) (cap := #[]) (vs := #[.slice ad l.length cap, .slice ad2 l2.length cap2]) A5 kr j0 rfl kr kr (fun w => Try.call52 _ w) (bcheck2 _ X0 (X0_lt _) _ _ _ l (h.mono Le.x0) _ _ _ l2 (h2.mono Le.x0)) ?_)
 rintro v6 w6 j6 q6 hu6 rfl a7 A7
 refine zB 1 [(6, .int .i64 (chk2 l l2))] A7 kr kr (fun a8 A8 => ?_)
 refine zE ?_
 refine zA (C4 _ _ ?_)
 refine zD (fun K9 C9 => ?_)
 refine zC ?_
 refine zB 2 [(12, .bool ((chk2 l l2) != 0)), (11, .int .i64 (chk2 l l2))] A8 kr kr (fun a10 A10 => ?_)
 refine zE ?_
 refine zA (C9 _ _ ?_)
 refine zS ((chk2 l l2) != 0) A10 kr kr (fun hc11 => ?_) (fun hc11 => ?_)
 ·
  have A12 := A10.set 12 (v' := .bool true) kr rfl (zG hc11)
  have ht13 : (chk2 l l2) ≠ 0 := by simpa using hc11
  refine zD (fun K14 C14 => ?_)
  refine zC ?_
  refine zB 3 [(5, .int .i64 (chk2 l l2)), (4, .slice none 0 0), (13, .int .i64 (chk2 l l2))] A12 kr kr (fun a15 A15 => ?_)
  refine zE ?_
  refine zA (C14 _ _ ?_)
  refine zQ ?_
  refine zL ?_
  refine zR (v := .tuple #[.slice none 0 0, .int .i64 (chk2 l l2)]) (rs := [.tmp 4, .tmp 5]) A15 kr (Res.tmp kr (Res.tmp kr Res.nil)) kr ?_
  exact ⟨j6.upd, _, rfl, by rw [or2_err ht13]; exact .inl ⟨ht13, rfl⟩⟩
 have A16 := A10.set 12 (v' := .bool false) kr rfl (zG hc11)
 have ht17 : (chk2 l l2) = 0 := by simpa using hc11
 obtain ⟨⟨hl1, c1⟩, hl2, c2⟩ := chk2_ok ht17
 refine i_skip ?_
 refine zA (C3 _ _ ?_)
 refine zD (fun K18 C18 => ?_)
 refine zC ?_
 refine zB 5 [(18, .int .i64 (if (l2.length : Int) > (l.length : Int) then (l2.length : Int) else (l.length : Int))), (17, .int .i64 (l2.length : Int)), (16, .slice ad2 l2.length cap2), (15, .int .i64 (l.length : Int)), (14, .slice ad l.length cap)] A16 kr kr (fun a19 A19 => ?_)
 have A20 := A19.set 18 (v' := .int .i64 ((max l.length l2.length : Nat) : Int)) kr rfl (vint (by split <;> omega))
 refine zB 1 [(19, .int .i64 (IntKind.i64.wrap (((max l.length l2.length : Nat) : Int) + 1)))] A20 kr kr (fun a21 A21 => ?_)
 have A22 := A21.set 19 (v' := .int .i64 ((max l.length l2.length + 1 : Nat) : Int)) kr rfl (vint (wi64 (by omega) (by omega)))
 refine wplI A22 kr (op_make (d := 20) (t := 23) (e := 93) (m := (max l.length l2.length + 1)) (z := .int .u32 0) (i0 := Try.t93) A22 kr j6 rfl kr (by first | rfl | omega) kr kr kr kr kr (by show 4 * _ ≤ _; omega) (by omega) ?_)
 intro b23 w23 Y23 j23 q23 hu23 a24 A24
 have hrow23 := URow.zeros (max l.length l2.length + 1) (by simp only [maxLen]; omega)
 refine zB 1 [(7, .slice (some ⟨b23, 0, none⟩) (max l.length l2.length + 1) (max l.length l2.length + 1))] A24 kr kr (fun a25 A25 => ?_)
 refine zE ?_
 refine zA (C18 _ _ ?_)
 refine zD (fun K26 C26 => ?_)
 refine zC ?_
 refine zB 2 [(22, .slice ad l.length cap), (21, .slice (some ⟨b23, 0, none⟩) (max l.length l2.length + 1) (max l.length l2.length + 1))] A25 kr kr (fun a27 A27 => ?_)
 refine wplI A27 kr (op_copyU (d := 23) (e := 93) (l2 := l) 0 A27 kr j23 rfl rfl rfl kr kr rfl hrow23 (h.mono (Le2 q6 q23)) (by omega) ?_)
 intro cur28 w28 hrow28 j28 q28 a29 A29
 refine zE ?_
 refine zA (C26 _ _ ?_)
 refine zD (fun K30 C30 => ?_)
 refine zC ?_
 refine zB 2 [(25, .slice ad2 l2.length cap2), (24, .slice (some ⟨b23, 0, none⟩) (max l.length l2.length + 1) (max l.length l2.length + 1))] A29 kr kr (fun a31 A31 => ?_)
 refine wplI A31 kr (op_callE (d := 26) (f := 96) (cap := #[]) (vs := #[.slice (some ⟨b23, 0, none⟩) (max l.length l2.length + 1) (max l.length l2.length + 1), .slice ad2 l2.length cap2, .int .i64 0]) 0 A31 kr j28 rfl kr kr (fun w => Try.call96 _ w) rfl (add_c _ b23 (max l.length l2.length + 1) (max l.length l2.length + 1) _ (l ++ List.drop l.length (List.replicate (max l.length l2.length + 1) 0)) (j28.get 0 rfl) hrow28 (by omega) _ _ _ l2 ((h2.mono (Le3 q6 q23 q28)).mono (j28.leHG 0 rfl)) 0 (by omega) (by rw [val_app_zeros]; exact add_fits h.hlt h2.hlt)) ?_)
 rintro v32 w32 ob32 ⟨rfl, cur32, ls32, hg32, hrow32, hval32⟩ hob32 j32 q32 a33 A33
 obtain rfl := Option.some.inj (hob32.symm.trans hg32)
 refine zE ?_
 refine zA (C30 _ _ ?_)
 refine zD (fun K34 C34 => ?_)
 refine zC ?_
 refine zB 1 [(27, .slice (some ⟨b23, 0, none⟩) (max l.length l2.length + 1) (max l.length l2.length + 1))] A33 kr kr (fun a35 A35 => ?_)
 refine wplI A35 kr (zK (d := 28) (f := 97) (cap := #[]) (vs := #[.slice (some ⟨b23, 0, none⟩) (max l.length l2.length + 1) (max l.length l2.length + 1)]) A35 kr j32 rfl kr kr (fun w => Try.call97 _ w) (fit_c _ X0 (X0_lt _) _ _ _ ls32 (URow.limbs (Y := X0) hrow32 (j32.get 0 rfl) (fun _ h => h.elim))) ?_)
 rintro v36 w36 j36 q36 hu36 hfit36 a37 A37
 cases (hfit36.trans (fit_eq _ _ _))
 refine zB 4 [(5, .int .i64 (fitI ls32)), (4, fitA (some ⟨b23, 0, none⟩) (max l.length l2.length + 1) ls32), (30, .int .i64 (fitI ls32)), (29, fitA (some ⟨b23, 0, none⟩) (max l.length l2.length + 1) ls32)] A37 kr kr (fun a38 A38 => ?_)
 refine zE ?_
 refine zA (C34 _ _ ?_)
 refine zQ ?_
 refine zR (v := .tuple #[fitA (some ⟨b23, 0, none⟩) (max l.length l2.length + 1) ls32, .int .i64 (fitI ls32)]) (rs := [.tmp 4, .tmp 5]) A38 kr (Res.tmp kr (Res.tmp kr Res.nil)) kr ?_
 exact ⟨j36.upd, _, rfl, by rw [or2_ok ht17]; exact NumV.fit hrow32 (j36.get 0 rfl) (j36.own_ge 0 rfl) (by have h9 := hval32; rw [val_app_zeros] at h9; omega) (fit_eq _ _ _).symm⟩
end Go.Proofs.Ytoocgllbbihoaaa
namespace Go.Proofs.Ytoocgllbbihoaaa
open Go Go.Gv Go.RowKit
set_option maxRecDepth 100000
set_option maxHeartbeats 1000000
theorem subtract_nil (w : World) (X : Hid) (hX : ∀ k o, X k o → k < w.heap.size) (ad2 : Option Addr) (len2 cap2 : Nat) (hl0 : len2 = 0) (hc2 : cap2 ≤ 9223372036854775807) : Calls Try.prog 56 #[.slice none 0 0, .slice ad2 len2 cap2] w (Ret E0 w fun _ v => v = .slice none 0 0) := by
 subst hl0
 refine zZ (n := 50) (vs := [.slice none 0 0, .slice ad2 0 cap2]) Try.func56 rfl rfl rfl kr (fun a0 A0 => ?_)
 have A0 : Fr 50 a0 [(0, .slice none 0 0), (1, .slice ad2 0 cap2)] := A0
 have j0 : St E0 w X w X [] := St.start hX
 refine zD (fun K1 C1 => ?_)
 refine zC ?_
 refine zB 1 [(4, .slice none 0 0)] A0 kr kr (fun a2 A2 => ?_)
 refine zE ?_
 refine zA (C1 _ _ ?_)
 refine zD (fun K3 C3 => ?_)
 refine zC ?_
 refine zB 1 [(5, .int .u32 0)] A2 kr kr (fun a4 A4 => ?_)
 refine zE ?_
 refine zA (C3 _ _ ?_)
 refine zD (fun K5 C5 => ?_)
 refine zD (fun K6 C6 => ?_)
 refine zC ?_
 refine zB 3 [(11, .int .i64 0), (10, .int .i64 0), (9, .slice ad2 0 cap2)] A4 kr kr (fun a7 A7 => ?_)
 refine zE ?_
 refine zA (C6 _ _ ?_)
 refine zV ?_
 refine i_loop0 ?_
 refine zD (fun K8 C8 => ?_)
 refine zC ?_
 refine zB 1 [(12, .bool false)] A7 kr kr (fun a9 A9 => ?_)
 refine zE ?_
 refine zA (C8 _ _ ?_)
 refine zD (fun K10 C10 => ?_)
 refine qH A9 kr kr ?_
 refine i_exit ?_
 refine zT ?_
 refine zT ?_
 refine qA ?_
 refine zA (C5 _ _ ?_)
 refine zD (fun K11 C11 => ?_)
 refine zD (fun K12 C12 => ?_)
 refine zC ?_
 refine zB 3 [(8, .int .i64 0), (31, .int .i64 0), (30, .slice ad2 0 cap2)] A9 kr kr (fun a13 A13 => ?_)
 refine zE ?_
 refine zA (C12 _ _ ?_)
 refine zV ?_
 refine i_loop0 ?_
 refine zD (fun K14 C14 => ?_)
 refine zD (fun K15 C15 => ?_)
 refine zC ?_
 refine zB 2 [(33, .bool false), (32, .int .u32 0)] A13 kr kr (fun a16 A16 => ?_)
 refine zE ?_
 refine zA (C15 _ _ ?_)
 refine qH A16 kr kr ?_
 refine i_exit ?_
 refine zT ?_
 refine zT ?_
 refine qA ?_
 refine zA (C11 _ _ ?_)
 refine zD (fun K17 C17 => ?_)
 refine zC ?_
 refine zB 1 [(48, .slice none 0 0)] A16 kr kr (fun a18 A18 => ?_)
 refine wplI A18 kr (zK (d := 49) (f := 71) (cap := #[]) (vs := #[.slice none 0 0]) A18 kr j0 rfl kr kr (fun w => Try.call71 _ w) (trim_c _ _ j0.lt _ _ _ ([]) (Limbs.nil (r := rd w X) (cap := 0) none (by omega))) ?_)
 rintro v19 w19 j19 q19 hu19 rfl a20 A20
 refine zB 1 [(4, .slice none (trimN ([])) 0)] A20 kr kr (fun a21 A21 => ?_)
 refine zE ?_
 refine zA (C17 _ _ ?_)
 refine zQ ?_
 refine zR (v := .slice none (trimN ([])) 0) (rs := [.tmp 4]) A21 kr (Res.tmp kr Res.nil) kr ?_
 exact ⟨j19.upd, _, rfl, rfl⟩
def subE (x y : Nat) : Int := if x < y then 7 else 0
theorem cmpI_lt0 {x y : Nat} (h : cmpI (x : Int) (y : Int) < 0) : x < y := by unfold cmpI at h; (repeat' split at h) <;> omega
theorem cmpI_ge0 {x y : Nat} (h : ¬ cmpI (x : Int) (y : Int) < 0) : y ≤ x := by unfold cmpI at h; (repeat' split at h) <;> omega
theorem Sub_c (w : World) (X : Hid) (hX : ∀ k o, X k o → k < w.heap.size) (ad : Option Addr) (len cap : Nat) (l : List Nat) (h : Limbs (rd w X) ad len cap l) (ad2 : Option Addr) (len2 cap2 : Nat) (l2 : List Nat) (h2 : Limbs (rd w X) ad2 len2 cap2 l2) : Calls Try.prog 78 #[.slice ad len cap, .slice ad2 len2 cap2] w (Ret E0 w fun w' v => NumV 93 w w' (or2 (chk2 l l2) (subE (val l) (val l2))) (val l - val l2) v) := by
 obtain rfl := h.hlen
 obtain rfl := h2.hlen
 have hcap := h.hcap
 have hbig := h.hbig
 have hcap2 := h2.hcap
 have hbig2 := h2.hbig
 have hbig2c := h2.hbig
 refine zZ (n := 23) (vs := [.slice ad l.length cap, .slice ad2 l2.length cap2]) Try.func78 rfl rfl rfl kr (fun a0 A0 => ?_)
 have A0 : Fr 23 a0 [(0, .slice ad l.length cap), (1, .slice ad2 l2.length cap2)] := A0
 have j0 : St E0 w X w X [] := St.start hX
 refine zD (fun K1 C1 => ?_)
 refine zC ?_
 refine zB 2 [(5, .int .i64 0), (4, .slice none 0 0)] A0 kr kr (fun a2 A2 => ?_)
 refine zE ?_
 refine zA (C1 _ _ ?_)
 refine zD (fun K3 C3 => ?_)
 refine zD (fun K4 C4 => ?_)
 refine zC ?_
 refine zB 2 [(8, .slice ad2 l2.length cap2), (7, .slice ad l.length cap)] A2 kr kr (fun a5 A5 => ?_)
 refine wplI A5 kr (zK (d := 9) (f := 52) (cap := #[]) (vs := #[.slice ad l.length cap, .slice ad2 l2.length cap2]) A5 kr j0 rfl kr kr (fun w => Try.call52 _ w) (bcheck2 _ X0 (X0_lt _) _ _ _ l (h.mono Le.x0) _ _ _ l2 (h2.mono Le.x0)) ?_)
 rintro v6 w6 j6 q6 hu6 rfl a7 A7
 refine zB 1 [(6, .int .i64 (chk2 l l2))] A7 kr kr (fun a8 A8 => ?_)
 refine zE ?_
 refine zA (C4 _ _ ?_)
 refine zV ?_
 refine zD (fun K9 C9 => ?_)
 refine zC ?_
 refine zB 3 [(10, .bool ((chk2 l l2) != 0)), (12, .bool ((chk2 l l2) != 0)), (11, .int .i64 (chk2 l l2))] A8 kr kr (fun a10 A10 => ?_)
 refine zE ?_
 refine zA (C9 _ _ ?_)
 refine zS ((chk2 l l2) != 0) A10 kr kr (fun hc11 => ?_) (fun hc11 => ?_)
 ·
  have A12 := A10.set 10 (v' := .bool true) kr rfl (zG hc11)
  have ht13 : (chk2 l l2) ≠ 0 := by simpa using hc11
  refine zD (fun K14 C14 => ?_)
  refine zC ?_
  refine zB 3 [(5, .int .i64 (chk2 l l2)), (4, .slice none 0 0), (13, .int .i64 (chk2 l l2))] A12 kr kr (fun a15 A15 => ?_)
  refine zE ?_
  refine zA (C14 _ _ ?_)
  refine zQ ?_
  refine zU ?_
  refine zL ?_
  refine zR (v := .tuple #[.slice none 0 0, .int .i64 (chk2 l l2)]) (rs := [.tmp 4, .tmp 5]) A15 kr (Res.tmp kr (Res.tmp kr Res.nil)) kr ?_
  exact ⟨j6.upd, _, rfl, by rw [or2_err ht13]; exact .inl ⟨ht13, rfl⟩⟩
 have A16 := A10.set 10 (v' := .bool false) kr rfl (zG hc11)
 have ht17 : (chk2 l l2) = 0 := by simpa using hc11
 obtain ⟨⟨hl1, c1⟩, hl2, c2⟩ := chk2_ok ht17
 refine zD (fun K18 C18 => ?_)
 refine zC ?_
 refine zB 2 [(16, .slice ad2 l2.length cap2), (15, .slice ad l.length cap)] A16 kr kr (fun a19 A19 => ?_)
 refine wplI A19 kr (zK (d := 17) (f := 55) (cap := #[]) (vs := #[.slice ad l.length cap, .slice ad2 l2.length cap2]) A19 kr j6 rfl kr kr (fun w => Try.call55 _ w) (order_c _ X0 (X0_lt _) _ _ _ l ((h.mono q6).mono Le.x0) _ _ _ l2 ((h2.mono q6).mono Le.x0) c1 c2 (by omega)) ?_)
 rintro v20 w20 j20 q20 hu20 rfl a21 A21
 refine zB 2 [(14, .bool (decide ((cmpI (val l) (val l2)) < 0))), (18, .bool (decide ((cmpI (val l) (val l2)) < 0)))] A21 kr kr (fun a22 A22 => ?_)
 refine zE ?_
 refine zA (C18 _ _ ?_)
 refine zS (decide ((cmpI (val l) (val l2)) < 0)) A22 kr kr (fun hc23 => ?_) (fun hc23 => ?_)
 ·
  have A24 := A22.set 14 (v' := .bool true) kr rfl (zG hc23)
  have ht25 : (cmpI (val l) (val l2)) < 0 := of_decide_eq_true hc23
  have hcmp := cmpI_lt0 ht25
  refine zD (fun K26 C26 => ?_)
  refine zC ?_
  refine zB 2 [(5, .int .i64 7), (4, .slice none 0 0)] A24 kr kr (fun a27 A27 => ?_)
  refine zE ?_
  refine zA (C26 _ _ ?_)
  refine zQ ?_
  refine zU ?_
  refine zL ?_
  refine zR (v := .tuple #[.slice none 0 0, .int .i64 7]) (rs := [.tmp 4, .tmp 5]) A27 kr (Res.tmp kr (Res.tmp kr Res.nil)) kr ?_
  exact ⟨j20.upd, _, rfl, by rw [or2_ok ht17, subE, if_pos hcmp]; exact .inl ⟨by decide, rfl⟩⟩
 have A28 := A22.set 14 (v' := .bool false) kr rfl (zG hc23)
 have ht29 : ¬ ((cmpI (val l) (val l2)) < 0) := of_decide_eq_false hc23
 have hcmp := cmpI_ge0 ht29
 refine i_skip ?_
 refine zW ?_
 refine zA (C3 _ _ ?_)
 refine zD (fun K30 C30 => ?_)
 refine zC ?_
 refine zB 1 [(19, .slice ad l.length cap)] A28 kr kr (fun a31 A31 => ?_)
 refine wplI A31 kr (zK (d := 20) (f := 53) (cap := #[]) (vs := #[.slice ad l.length cap]) A31 kr j20 rfl kr kr (fun w => Try.call53 _ w) (clone_c _ X0 (X0_lt _) _ _ _ l ((h.mono (Le2 q6 q20)).mono Le.x0) (by omega)) ?_)
 rintro v32 w32 j32 q32 hu32 ⟨ad32, len32, cap32, how32⟩ a33 A33
 rcases how32 with ⟨rfl, hlen32, hlt32, ⟨rfl, rfl, rfl⟩ | ⟨g32, cur32, rfl, hge32, hget32, hrow32⟩⟩
 ·
  have hnil32 : l = [] := List.eq_nil_of_length_eq_zero hlen32.symm
  refine zB 1 [(21, .slice ad2 l2.length cap2)] A33 kr kr (fun a35 A35 => ?_)
  have hnil2 : l2 = [] := canon_zero c2 (by have := hcmp; rw [hnil32] at this; simp only [val] at this; omega)
  refine wplI A35 kr (zK (d := 22) (f := 56) (cap := #[]) (vs := #[.slice none 0 0, .slice ad2 l2.length cap2]) A35 kr j32 rfl kr kr (fun w => Try.call56 _ w) (subtract_nil _ X0 (X0_lt _) _ _ _ (by rw [hnil2]; rfl) hbig2c) ?_)
  rintro v36 w36 j36 q36 hu36 rfl a37 A37
  refine zB 2 [(5, .int .i64 0), (4, .slice none 0 0)] A37 kr kr (fun a38 A38 => ?_)
  refine zE ?_
  refine zA (C30 _ _ ?_)
  refine zQ ?_
  refine zR (v := .tuple #[.slice none 0 0, .int .i64 0]) (rs := [.tmp 4, .tmp 5]) A38 kr (Res.tmp kr (Res.tmp kr Res.nil)) kr ?_
  exact ⟨j36.upd, _, rfl, .inr ⟨by rw [or2_ok ht17, subE, if_neg (by omega)], _, [], _, _, _, rfl, ⟨⟨rfl, rfl, fun x hx => by simp at hx, .inl ⟨rfl, rfl, rfl⟩⟩, .inl rfl, by rw [hnil32]; simp [val]⟩, by simp⟩⟩
 ·
  subst hlen32
  have j34 := St.adopt j32 (fun o h => Nat.not_lt.2 hge32 (j20.lt _ _ h)) (Nat.le_trans j20.upd.size hge32) hget32
  have q34 := Le.adopt q32 hge32
  refine zB 1 [(21, .slice ad2 l2.length cap2)] A33 kr kr (fun a39 A39 => ?_)
  refine wplI A39 kr (op_callE (d := 22) (f := 56) (cap := #[]) (vs := #[.slice (some ⟨g32, 0, none⟩) l.length cap32, .slice ad2 l2.length cap2]) 0 A39 kr j34 rfl kr kr (fun w => Try.call56 _ w) rfl (subtract_c _ g32 l.length cap32 _ l (j34.get 0 rfl) hrow32 (by omega) _ _ _ l2 ((h2.mono (Le3 q6 q20 q34)).mono (j34.leHG 0 rfl)) (canon_len h.hlt c2 (by omega)) (by omega)) ?_)
  rintro v40 w40 ob40 ⟨cur40, ls40, rfl, hg40, hrow40, hcan40, hval40⟩ hob40 j40 q40 a41 A41
  obtain rfl := Option.some.inj (hob40.symm.trans hg40)
  refine zB 2 [(5, .int .i64 0), (4, .slice (some ⟨g32, 0, none⟩) ls40.length cap32)] A41 kr kr (fun a42 A42 => ?_)
  refine zE ?_
  refine zA (C30 _ _ ?_)
  refine zQ ?_
  refine zR (v := .tuple #[.slice (some ⟨g32, 0, none⟩) ls40.length cap32, .int .i64 0]) (rs := [.tmp 4, .tmp 5]) A42 kr (Res.tmp kr (Res.tmp kr Res.nil)) kr ?_
  exact ⟨j40.upd, _, rfl, .inr ⟨by rw [or2_ok ht17, subE, if_neg (by omega)], _, ls40, _, _, _, rfl, ⟨⟨rfl, rfl, hrow40.lt, .inr ⟨_, _, rfl, j40.own_ge 0 rfl, j40.get 0 rfl, hrow40⟩⟩, hcan40, hval40⟩, Nat.le_trans (canon_len h.hlt hcan40 (by omega)) hl1⟩⟩
end Go.Proofs.Ytoocgllbbihoaaa
namespace Go.Proofs.Ytoocgllbbihoaaa
open Go Go.Gv Go.RowKit
set_option maxRecDepth 100000
set_option maxHeartbeats 1000000
theorem Mul_c (w : World) (X : Hid) (hX : ∀ k o, X k o → k < w.heap.size) (ad : Option Addr) (len cap : Nat) (l : List Nat) (h : Limbs (rd w X) ad len cap l) (ad2 : Option Addr) (len2 cap2 : Nat) (l2 : List Nat) (h2 : Limbs (rd w X) ad2 len2 cap2 l2) : Calls Try.prog 76 #[.slice ad len cap, .slice ad2 len2 cap2] w (Ret E0 w fun w' v => NumV 93 w w' (or2 (chk2 l l2) (fitE (val l * val l2))) (val l * val l2) v) := by
 obtain rfl := h.hlen
 obtain rfl := h2.hlen
 have hcap := h.hcap
 have hbig := h.hbig
 have hcap2 := h2.hcap
 have hbig2 := h2.hbig
 refine zZ (n := 78) (vs := [.slice ad l.length cap, .slice ad2 l2.length cap2]) Try.func76 rfl rfl rfl kr (fun a0 A0 => ?_)
 have A0 : Fr 78 a0 [(0, .slice ad l.length cap), (1, .slice ad2 l2.length cap2)] := A0
 have j0 : St E0 w X w X [] := St.start hX
 refine zD (fun K1 C1 => ?_)
 refine zC ?_
 refine zB 2 [(5, .int .i64 0), (4, .slice none 0 0)] A0 kr kr (fun a2 A2 => ?_)
 refine zE ?_
 refine zA (C1 _ _ ?_)
 refine zD (fun K3 C3 => ?_)
 refine zD (fun K4 C4 => ?_)
 refine zC ?_
 refine zB 2 [(15, .slice ad2 l2.length cap2), (14, .slice ad l.length cap)] A2 kr kr (fun a5 A5 => ?_)
 refine wplI A5 kr (zK (d := 16) (f := 52) (cap := #[]) (vs := #[.slice ad l.length cap, .slice ad2 l2.length cap2]) A5 kr j0 rfl kr kr (fun w => Try.call52 _ w) (bcheck2 _ X0 (X0_lt _) _ _ _ l (h.mono Le.x0) _ _ _ l2 (h2.mono Le.x0)) ?_)
 rintro v6 w6 j6 q6 hu6 rfl a7 A7
 refine zB 1 [(6, .int .i64 (chk2 l l2))] A7 kr kr (fun a8 A8 => ?_)
 refine zE ?_
 refine zA (C4 _ _ ?_)
 refine zD (fun K9 C9 => ?_)
 refine zC ?_
 refine zB 2 [(18, .bool ((chk2 l l2) != 0)), (17, .int .i64 (chk2 l l2))] A8 kr kr (fun a10 A10 => ?_)
 refine zE ?_
 refine zA (C9 _ _ ?_)
 refine zS ((chk2 l l2) != 0) A10 kr kr (fun hc11 => ?_) (fun hc11 => ?_)
 ·
  have A12 := A10.set 18 (v' := .bool true) kr rfl (zG hc11)
  have ht13 : (chk2 l l2) ≠ 0 := by simpa using hc11
  refine zD (fun K14 C14 => ?_)
  refine zC ?_
  refine zB 3 [(5, .int .i64 (chk2 l l2)), (4, .slice none 0 0), (19, .int .i64 (chk2 l l2))] A12 kr kr (fun a15 A15 => ?_)
  refine zE ?_
  refine zA (C14 _ _ ?_)
  refine zQ ?_
  refine zL ?_
  refine zR (v := .tuple #[.slice none 0 0, .int .i64 (chk2 l l2)]) (rs := [.tmp 4, .tmp 5]) A15 kr (Res.tmp kr (Res.tmp kr Res.nil)) kr ?_
  exact ⟨j6.upd, _, rfl, by rw [or2_err ht13]; exact .inl ⟨ht13, rfl⟩⟩
 have A16 := A10.set 18 (v' := .bool false) kr rfl (zG hc11)
 have ht17 : (chk2 l l2) = 0 := by simpa using hc11
 obtain ⟨⟨hl1, c1⟩, hl2, c2⟩ := chk2_ok ht17
 refine i_skip ?_
 refine zA (C3 _ _ ?_)
 refine zD (fun K18 C18 => ?_)
 refine zC ?_
 refine zB 5 [(24, .int .i64 (IntKind.i64.wrap ((l.length : Int) + (l2.length : Int)))), (23, .int .i64 (l2.length : Int)), (22, .slice ad2 l2.length cap2), (21, .int .i64 (l.length : Int)), (20, .slice ad l.length cap)] A16 kr kr (fun a19 A19 => ?_)
 have A20 := A19.set 24 (v' := .int .i64 ((l.length + l2.length : Nat) : Int)) kr rfl (vint (wi64 (by omega) (by omega)))
 refine zB 1 [(25, .int .i64 (IntKind.i64.wrap (((l.length + l2.length : Nat) : Int) + 1)))] A20 kr kr (fun a21 A21 => ?_)
 have A22 := A21.set 25 (v' := .int .i64 ((l.length + l2.length + 1 : Nat) : Int)) kr rfl (vint (wi64 (by omega) (by omega)))
 refine wplI A22 kr (op_make (d := 26) (t := 23) (e := 93) (m := (l.length + l2.length + 1)) (z := .int .u32 0) (i0 := Try.t93) A22 kr j6 rfl kr (by first | rfl | omega) kr kr kr kr kr (by show 4 * _ ≤ _; omega) (by omega) ?_)
 intro b23 w23 Y23 j23 q23 hu23 a24 A24
 have hrow23 := URow.zeros (l.length + l2.length + 1) (by simp only [maxLen]; omega)
 refine zB 1 [(7, .slice (some ⟨b23, 0, none⟩) (l.length + l2.length + 1) (l.length + l2.length + 1))] A24 kr kr (fun a25 A25 => ?_)
 refine zE ?_
 refine zA (C18 _ _ ?_)
 refine zD (fun K26 C26 => ?_)
 refine zD (fun K27 C27 => ?_)
 refine zC ?_
 refine zB 3 [(29, .int .i64 0), (28, .int .i64 (l.length : Int)), (27, .slice ad l.length cap)] A25 kr kr (fun a28 A28 => ?_)
 refine zE ?_
 refine zA (C27 _ _ ?_)
 refine zV ?_
 refine qC (fun (i : Nat) ac w1 => ∃ (Y1 : Hid) (cur1 : Array Value) (l1 : List Nat), Fr 78 ac [(1, .slice ad2 l2.length cap2), (7, .slice (some ⟨b23, 0, none⟩) (l.length + l2.length + 1) (l.length + l2.length + 1)), (27, .slice ad l.length cap), (28, .int .i64 (l.length : Int)), (29, .int .i64 (i : Int))] ∧ St E0 w X w1 Y1 [(b23, .cells cur1 93 (0, 0))] ∧ Le (rd w23 Y23) (rd w1 Y1) ∧ (URow (l.length + l2.length + 1) (l.length + l2.length + 1) cur1 l1) ∧ (i ≤ l.length) ∧ (val l1 = val (l.take i) * val l2)) (fun (i : Nat) => l.length - i) 0 ?_ ?_
 ·
  refine ⟨_, (List.replicate (l.length + l2.length + 1) (Value.int .u32 0)).toArray, (List.replicate (l.length + l2.length + 1) 0), A28.as [1, 7, 27, 28, 29] kr kr, j23, Le.refl _, hrow23, Nat.zero_le _, by simp [val, val_replicate]⟩
 rintro i a29 w29 ⟨Y29, cur1, l1, A29, j29, q29, hp29_0, hp29_1, hp29_2⟩
 have hrow1 := hp29_0
 have hlen1 := hrow1.len
 have hlti := h.getD_lt i
 refine zD (fun K30 C30 => ?_)
 refine zC ?_
 refine zB 1 [(30, .bool (decide ((i : Int) < (l.length : Int))))] A29 kr kr (fun a31 A31 => ?_)
 refine zE ?_
 refine zA (C30 _ _ ?_)
 refine zD (fun K32 C32 => ?_)
 refine zS (decide ((i : Int) < (l.length : Int))) A31 kr kr (fun hc33 => ?_) (fun hc33 => ?_)
 ·
  have A34 := A31.set 30 (v' := .bool true) kr rfl (zG hc33)
  have ht35 : (i : Int) < (l.length : Int) := of_decide_eq_true hc33
  obtain ⟨bk36, of37, rfl, _⟩ := h.addr (by omega)
  refine i_skip ?_
  refine zA (C32 _ _ ?_)
  refine zD (fun K38 C38 => ?_)
  refine zV ?_
  refine zD (fun K39 C39 => ?_)
  refine zC ?_
  refine zB 1 [(31, .int .i64 (i : Int))] A34 kr kr (fun a40 A40 => ?_)
  refine wplI A40 kr (zJ (d := 32) (v := .pointer (some ⟨bk36, of37 + i, none⟩)) A40 kr (zP (t := 23) (e := 93) (b := bk36) (off := of37) (len := l.length) (cap := cap) (kd := .i64) (i := (i : Int)) (g := false) (m := 1) (off' := of37 + i) rfl kr kr kr kr (by omega) (by omega) (by first | rfl | omega | (simp; done) | (simp; omega)) _) ?_)
  intro a41 A41
  refine wplI A41 kr (zJ (d := 33) (v := .int .u32 ((l.getD i 0 : Nat) : Int)) A41 kr (zF (t := 93) (g := false) (vs := [.int .u32 ((l.getD i 0 : Nat) : Int)]) (ad := ⟨bk36, of37 + i, none⟩) rfl kr kr ir ((h.cell (i := i) (by omega)).mono (Le3 q6 q23 q29)).cells) ?_)
  intro a42 A42
  refine zB 2 [(9, .int .u32 ((l.getD i 0 : Nat) : Int)), (8, .int .i64 (i : Int))] A42 kr kr (fun a43 A43 => ?_)
  refine zE ?_
  refine zA (C39 _ _ ?_)
  refine zD (fun K44 C44 => ?_)
  refine zC ?_
  refine zB 3 [(36, .int .i64 (IntKind.i64.wrap ((l2.length : Int) + 1))), (35, .int .i64 (l2.length : Int)), (34, .slice ad2 l2.length cap2)] A43 kr kr (fun a45 A45 => ?_)
  have A46 := A45.set 36 (v' := .int .i64 ((l2.length + 1 : Nat) : Int)) kr rfl (vint (wi64 (by omega) (by omega)))
  refine wplI A46 kr (op_make (d := 37) (t := 23) (e := 93) (m := (l2.length + 1)) (z := .int .u32 0) (i0 := Try.t93) A46 kr j29 rfl kr (by first | rfl | omega) kr kr kr kr kr (by show 4 * _ ≤ _; omega) (by omega) ?_)
  intro b47 w47 Y47 j47 q47 hu47 a48 A48
  have hrow47 := URow.zeros (l2.length + 1) (by simp only [maxLen]; omega)
  refine zB 1 [(10, .slice (some ⟨b47, 0, none⟩) (l2.length + 1) (l2.length + 1))] A48 kr kr (fun a49 A49 => ?_)
  refine zE ?_
  refine zA (C44 _ _ ?_)
  refine zD (fun K50 C50 => ?_)
  refine zD (fun K51 C51 => ?_)
  refine zC ?_
  refine zB 3 [(40, .int .i64 0), (39, .int .i64 (l2.length : Int)), (38, .slice ad2 l2.length cap2)] A49 kr kr (fun a52 A52 => ?_)
  refine zE ?_
  refine zA (C51 _ _ ?_)
  refine zV ?_
  refine qC (fun (j : Nat) ac w1 => ∃ (Y1 : Hid) (cur2 : Array Value) (lp : List Nat), Fr 78 ac [(1, .slice ad2 l2.length cap2), (7, .slice (some ⟨b23, 0, none⟩) (l.length + l2.length + 1) (l.length + l2.length + 1)), (8, .int .i64 (i : Int)), (9, .int .u32 ((l.getD i 0 : Nat) : Int)), (10, .slice (some ⟨b47, 0, none⟩) (l2.length + 1) (l2.length + 1)), (27, .slice (some ⟨bk36, of37, none⟩) l.length cap), (28, .int .i64 (l.length : Int)), (29, .int .i64 (i : Int)), (38, .slice ad2 l2.length cap2), (39, .int .i64 (l2.length : Int)), (40, .int .i64 (j : Int))] ∧ St E0 w X w1 Y1 [(b47, .cells cur2 93 (0, 0)), (b23, .cells cur1 93 (0, 0))] ∧ Le (rd w47 Y47) (rd w1 Y1) ∧ (URow (l2.length + 1) (l2.length + 1) cur2 lp) ∧ (j ≤ l2.length) ∧ (val lp = l.getD i 0 * val (l2.take j)) ∧ (∀ t, j < t → lp.getD t 0 = 0)) (fun (j : Nat) => l2.length - j) 0 ?_ ?_
  ·
   refine ⟨_, (List.replicate (l2.length + 1) (Value.int .u32 0)).toArray, (List.replicate (l2.length + 1) 0), A52.as [1, 7, 8, 9, 10, 27, 28, 29, 38, 39, 40] kr kr, j47, Le.refl _, hrow47, Nat.zero_le _, by simp [val, val_replicate], fun t _ => by by_cases ht : t < l2.length + 1 <;> simp [List.getD_eq_getElem?_getD, ht]⟩
  rintro j a53 w53 ⟨Y53, cur2, lp, A53, j53, q53, hp53_0, hp53_1, hp53_2, hp53_3⟩
  have hrow2 := hp53_0
  have hlen2 := hrow2.len
  have hltj := h2.getD_lt j
  have hltp := hrow2.getD_lt j
  have hmul : l.getD i 0 * l2.getD j 0 ≤ 4294967295 * 4294967295 := Nat.mul_le_mul (by omega) (by omega)
  refine zD (fun K54 C54 => ?_)
  refine zC ?_
  refine zB 1 [(41, .bool (decide ((j : Int) < (l2.length : Int))))] A53 kr kr (fun a55 A55 => ?_)
  refine zE ?_
  refine zA (C54 _ _ ?_)
  refine zD (fun K56 C56 => ?_)
  refine zS (decide ((j : Int) < (l2.length : Int))) A55 kr kr (fun hc57 => ?_) (fun hc57 => ?_)
  ·
   have A58 := A55.set 41 (v' := .bool true) kr rfl (zG hc57)
   have ht59 : (j : Int) < (l2.length : Int) := of_decide_eq_true hc57
   obtain ⟨bk60, of61, rfl, _⟩ := h2.addr (by omega)
   refine i_skip ?_
   refine zA (C56 _ _ ?_)
   refine zD (fun K62 C62 => ?_)
   refine zV ?_
   refine zD (fun K63 C63 => ?_)
   refine zC ?_
   refine zB 1 [(42, .int .i64 (j : Int))] A58 kr kr (fun a64 A64 => ?_)
   refine wplI A64 kr (zJ (d := 43) (v := .pointer (some ⟨bk60, of61 + j, none⟩)) A64 kr (zP (t := 23) (e := 93) (b := bk60) (off := of61) (len := l2.length) (cap := cap2) (kd := .i64) (i := (j : Int)) (g := false) (m := 1) (off' := of61 + j) rfl kr kr kr kr (by omega) (by omega) (by first | rfl | omega | (simp; done) | (simp; omega)) _) ?_)
   intro a65 A65
   refine wplI A65 kr (zJ (d := 44) (v := .int .u32 ((l2.getD j 0 : Nat) : Int)) A65 kr (zF (t := 93) (g := false) (vs := [.int .u32 ((l2.getD j 0 : Nat) : Int)]) (ad := ⟨bk60, of61 + j, none⟩) rfl kr kr ir ((h2.cell (i := j) (by omega)).mono (Le5 q6 q23 q29 q47 q53)).cells) ?_)
   intro a66 A66
   refine zB 2 [(12, .int .u32 ((l2.getD j 0 : Nat) : Int)), (11, .int .i64 (j : Int))] A66 kr kr (fun a67 A67 => ?_)
   refine zE ?_
   refine zA (C63 _ _ ?_)
   refine zD (fun K68 C68 => ?_)
   refine zC ?_
   refine zB 2 [(46, .int .u64 (IntKind.u64.wrap (((l.getD i 0 : Nat) : Int)))), (45, .int .u32 ((l.getD i 0 : Nat) : Int))] A67 kr kr (fun a69 A69 => ?_)
   have A70 := A69.set 46 (v' := .int .u64 ((l.getD i 0 : Nat) : Int)) kr rfl (vint (wu64 (by omega) (by omega)))
   refine zB 2 [(48, .int .u64 (IntKind.u64.wrap (((l2.getD j 0 : Nat) : Int)))), (47, .int .u32 ((l2.getD j 0 : Nat) : Int))] A70 kr kr (fun a71 A71 => ?_)
   have A72 := A71.set 48 (v' := .int .u64 ((l2.getD j 0 : Nat) : Int)) kr rfl (vint (wu64 (by omega) (by omega)))
   refine zB 1 [(49, .int .u64 (IntKind.u64.wrap (((l.getD i 0 : Nat) : Int) * ((l2.getD j 0 : Nat) : Int))))] A72 kr kr (fun a73 A73 => ?_)
   have A74 := A73.set 49 (v' := .int .u64 ((l.getD i 0 * l2.getD j 0 : Nat) : Int)) kr rfl (vint ((wu64 (by rw [← Int.natCast_mul]; omega) (by rw [← Int.natCast_mul]; omega)).trans (Int.natCast_mul _ _).symm))
   refine zB 2 [(51, .int .i64 (j : Int)), (50, .slice (some ⟨b47, 0, none⟩) (l2.length + 1) (l2.length + 1))] A74 kr kr (fun a75 A75 => ?_)
   refine wplI A75 kr (zJ (d := 52) (v := .pointer (some ⟨b47, j, none⟩)) A75 kr (zP (t := 23) (e := 93) (b := b47) (off := 0) (len := (l2.length + 1)) (cap := (l2.length + 1)) (kd := .i64) (i := (j : Int)) (g := false) (m := 1) (off' := j) rfl kr kr kr kr (by omega) (by omega) (by first | rfl | omega | (simp; done) | (simp; omega)) _) ?_)
   intro a76 A76
   refine wplI A76 kr (zJ (d := 53) (v := .int .u32 ((lp.getD j 0 : Nat) : Int)) A76 kr (zF (t := 93) (g := false) (vs := [.int .u32 ((lp.getD j 0 : Nat) : Int)]) (ad := ⟨b47, j, none⟩) rfl kr kr ir (j53.rowCells 0 rfl hrow2 (by have := hrow2.len; (try simp only [List.length_set] at *); omega))) ?_)
   intro a77 A77
   refine zB 1 [(54, .int .u64 (IntKind.u64.wrap (((lp.getD j 0 : Nat) : Int))))] A77 kr kr (fun a78 A78 => ?_)
   have A79 := A78.set 54 (v' := .int .u64 ((lp.getD j 0 : Nat) : Int)) kr rfl (vint (wu64 (by omega) (by omega)))
   refine zB 1 [(55, .int .u64 (IntKind.u64.wrap (((l.getD i 0 * l2.getD j 0 : Nat) : Int) + ((lp.getD j 0 : Nat) : Int))))] A79 kr kr (fun a80 A80 => ?_)
   have A81 := A80.set 55 (v' := .int .u64 ((l.getD i 0 * l2.getD j 0 + lp.getD j 0 : Nat) : Int)) kr rfl (vint (wu64 (by omega) (by omega)))
   refine zB 1 [(13, .int .u64 ((l.getD i 0 * l2.getD j 0 + lp.getD j 0 : Nat) : Int))] A81 kr kr (fun a82 A82 => ?_)
   refine zE ?_
   refine zA (C68 _ _ ?_)
   refine zC ?_
   refine zB 5 [(60, .int .i64 (IntKind.i64.wrap ((j : Int) + 1))), (59, .int .i64 (j : Int)), (58, .slice (some ⟨b47, 0, none⟩) (l2.length + 1) (l2.length + 1)), (57, .int .i64 (j : Int)), (56, .slice (some ⟨b47, 0, none⟩) (l2.length + 1) (l2.length + 1))] A82 kr kr (fun a83 A83 => ?_)
   have A84 := A83.set 60 (v' := .int .i64 ((j + 1 : Nat) : Int)) kr rfl (vint (wi64 (by omega) (by omega)))
   refine zB 2 [(62, .int .u32 (IntKind.u32.wrap (((l.getD i 0 * l2.getD j 0 + lp.getD j 0 : Nat) : Int)))), (61, .int .u64 ((l.getD i 0 * l2.getD j 0 + lp.getD j 0 : Nat) : Int))] A84 kr kr (fun a85 A85 => ?_)
   have A86 := A85.set 62 (v' := .int .u32 (((l.getD i 0 * l2.getD j 0 + lp.getD j 0) % 4294967296 : Nat) : Int)) kr rfl (vint (by rw [wrap_u32]; omega))
   refine zB 2 [(64, .int .u64 (Int.fdiv (((l.getD i 0 * l2.getD j 0 + lp.getD j 0 : Nat) : Int)) (2 ^ 32))), (63, .int .u64 ((l.getD i 0 * l2.getD j 0 + lp.getD j 0 : Nat) : Int))] A86 kr kr (fun a87 A87 => ?_)
   have A88 := A87.set 64 (v' := .int .u64 (((l.getD i 0 * l2.getD j 0 + lp.getD j 0) / 4294967296 : Nat) : Int)) kr rfl (vint (by rw [fdiv_pow _ 32 (c := 4294967296) (by decide) (by decide)]; omega))
   refine zB 1 [(65, .int .u32 (IntKind.u32.wrap ((((l.getD i 0 * l2.getD j 0 + lp.getD j 0) / 4294967296 : Nat) : Int))))] A88 kr kr (fun a89 A89 => ?_)
   have A90 := A89.set 65 (v' := .int .u32 (((l.getD i 0 * l2.getD j 0 + lp.getD j 0) / 4294967296 : Nat) : Int)) kr rfl (vint (by rw [wrap_u32]; omega))
   refine wplI A90 kr (zJ (d := 66) (v := .pointer (some ⟨b47, j, none⟩)) A90 kr (zP (t := 23) (e := 93) (b := b47) (off := 0) (len := (l2.length + 1)) (cap := (l2.length + 1)) (kd := .i64) (i := (j : Int)) (g := false) (m := 1) (off' := j) rfl kr kr kr kr (by omega) (by omega) (by first | rfl | omega | (simp; done) | (simp; omega)) _) ?_)
   intro a91 A91
   refine wplI A91 kr (op_storeU (t := 93) (y := ((l.getD i 0 * l2.getD j 0 + lp.getD j 0) % 4294967296)) 0 A91 kr j53 rfl rfl rfl (by first | rfl | omega | (simp; omega)) kr rfl hrow2 (by have := hrow2.len; (try simp only [List.length_set] at *); omega) (by first | omega | (simp; omega)) ?_)
   intro cur92 w92 hrow92 j92 q92
   refine wplI A91 kr (zJ (d := 67) (v := .pointer (some ⟨b47, (((j + 1 : Nat) : Int)).toNat, none⟩)) A91 kr (zP (t := 23) (e := 93) (b := b47) (off := 0) (len := (l2.length + 1)) (cap := (l2.length + 1)) (kd := .i64) (i := ((j + 1 : Nat) : Int)) (g := false) (m := 1) (off' := (((j + 1 : Nat) : Int)).toNat) rfl kr kr kr kr (by omega) (by omega) (by first | rfl | omega | (simp; done) | (simp; omega)) _) ?_)
   intro a93 A93
   refine wplI A93 kr (op_storeU (t := 93) (y := ((l.getD i 0 * l2.getD j 0 + lp.getD j 0) / 4294967296)) 0 A93 kr j92 rfl rfl rfl (by first | rfl | omega | (simp; omega)) kr rfl hrow92 (by have := hrow92.len; (try simp only [List.length_set] at *); omega) (by first | omega | (simp; omega)) ?_)
   intro cur94 w94 hrow94 j94 q94
   refine zE ?_
   refine zW ?_
   refine zA (C62 _ _ ?_)
   refine zC ?_
   refine zB 1 [(68, .int .i64 (IntKind.i64.wrap ((j : Int) + 1)))] A93 kr kr (fun a95 A95 => ?_)
   have A96 := A95.set 68 (v' := .int .i64 ((j : Int) + 1)) kr rfl (vint (wi64 (by omega) (by omega)))
   refine zB 1 [(40, .int .i64 ((j : Int) + 1))] A96 kr kr (fun a97 A97 => ?_)
   refine zE ?_
   refine zA ?_
   refine ⟨j + 1, ⟨_, cur94, ((lp.set j ((l.getD i 0 * l2.getD j 0 + lp.getD j 0) % 4294967296)).set ((((j + 1 : Nat) : Int)).toNat) ((l.getD i 0 * l2.getD j 0 + lp.getD j 0) / 4294967296)), A97.as [1, 7, 8, 9, 10, 27, 28, 29, 38, 39, 40] kr kr, j94, (Le3 q53 q92 q94), hrow94, by omega, by rw [val_take l2 j (by omega), Nat.mul_add, ← Nat.mul_assoc]; exact mulstep lp j _ _ _ (by omega) (hp53_3 _ (by omega)) hp53_2, fun t ht => by rw [getD_set_of_ne (by omega), getD_set_of_ne (by omega)]; exact hp53_3 t (by omega)⟩, ?_⟩
   first | omega | (simp; omega)
  have A98 := A55.set 41 (v' := .bool false) kr rfl (zG hc57)
  have ht99 : ¬ ((j : Int) < (l2.length : Int)) := of_decide_eq_false hc57
  have hpv : val lp = l.getD i 0 * val l2 := by have h9 := hp53_2; rwa [show j = l2.length by omega, List.take_length] at h9
  refine i_exit ?_
  refine zT ?_
  refine zT ?_
  refine qA ?_
  refine zA (C50 _ _ ?_)
  refine zC ?_
  refine zB 3 [(71, .int .i64 (i : Int)), (70, .slice (some ⟨b47, 0, none⟩) (l2.length + 1) (l2.length + 1)), (69, .slice (some ⟨b23, 0, none⟩) (l.length + l2.length + 1) (l.length + l2.length + 1))] A98 kr kr (fun a100 A100 => ?_)
  refine wplI A100 kr (op_callE (d := 72) (f := 96) (cap := #[]) (vs := #[.slice (some ⟨b23, 0, none⟩) (l.length + l2.length + 1) (l.length + l2.length + 1), .slice (some ⟨b47, 0, none⟩) (l2.length + 1) (l2.length + 1), .int .i64 (i : Int)]) 1 A100 kr j53 rfl kr kr (fun w => Try.call96 _ w) rfl (add_c _ b23 (l.length + l2.length + 1) (l.length + l2.length + 1) _ l1 (j53.get 1 rfl) hrow1 (by omega) _ _ _ lp (URow.limbs (Y := HG b23) hrow2 (j53.get 0 rfl) (fun o h => j53.ne (i := 0) (j := 1) rfl rfl (by decide) h)) i (by omega) (by have h8 := hp29_2; rw [hp29_2, hpv]; have h9 := val_take l i (by omega); have e : val (l.take i) * val l2 + 4294967296 ^ i * (l.getD i 0 * val l2) = val (l.take (i + 1)) * val l2 := (by rw [h9, Nat.add_mul]; congr 1; ac_rfl); rw [e]; exact mul_fits (Nat.lt_of_le_of_lt (val_take_le _ _) (val_lt h.hlt)) (val_lt h2.hlt) (by omega))) ?_)
  rintro v101 w101 ob101 ⟨rfl, cur101, ls101, hg101, hrow101, hval101⟩ hob101 j101 q101 a102 A102
  obtain rfl := Option.some.inj (hob101.symm.trans hg101)
  refine zE ?_
  refine zW ?_
  refine zA (C38 _ _ ?_)
  refine zC ?_
  refine zB 1 [(73, .int .i64 (IntKind.i64.wrap ((i : Int) + 1)))] A102 kr kr (fun a103 A103 => ?_)
  have A104 := A103.set 73 (v' := .int .i64 ((i : Int) + 1)) kr rfl (vint (wi64 (by omega) (by omega)))
  refine zB 1 [(29, .int .i64 ((i : Int) + 1))] A104 kr kr (fun a105 A105 => ?_)
  refine zE ?_
  refine zA ?_
  refine ⟨i + 1, ⟨_, cur101, ls101, A105.as [1, 7, 27, 28, 29] kr kr, j101.tail, (Le4 q29 q47 q53 q101), hrow101, by omega, by have h8 := hval101; have h9 := hpv; rw [val_take l i (by omega), Nat.add_mul, h8, h9, ← hp29_2]; have e : l.getD i 0 * 4294967296 ^ i * val l2 = 4294967296 ^ i * (l.getD i 0 * val l2) := (by ac_rfl); omega⟩, ?_⟩
  first | omega | (simp; omega)
 have A106 := A31.set 30 (v' := .bool false) kr rfl (zG hc33)
 have ht107 : ¬ ((i : Int) < (l.length : Int)) := of_decide_eq_false hc33
 have hfin : val l1 = val l * val l2 := by have h9 := hp29_2; rwa [show i = l.length by omega, List.take_length] at h9
 refine i_exit ?_
 refine zT ?_
 refine zT ?_
 refine qA ?_
 refine zA (C26 _ _ ?_)
 refine zD (fun K108 C108 => ?_)
 refine zC ?_
 refine zB 1 [(74, .slice (some ⟨b23, 0, none⟩) (l.length + l2.length + 1) (l.length + l2.length + 1))] A106 kr kr (fun a109 A109 => ?_)
 refine wplI A109 kr (zK (d := 75) (f := 97) (cap := #[]) (vs := #[.slice (some ⟨b23, 0, none⟩) (l.length + l2.length + 1) (l.length + l2.length + 1)]) A109 kr j29 rfl kr kr (fun w => Try.call97 _ w) (fit_c _ X0 (X0_lt _) _ _ _ l1 (URow.limbs (Y := X0) hrow1 (j29.get 0 rfl) (fun _ h => h.elim))) ?_)
 rintro v110 w110 j110 q110 hu110 hfit110 a111 A111
 cases (hfit110.trans (fit_eq _ _ _))
 refine zB 4 [(5, .int .i64 (fitI l1)), (4, fitA (some ⟨b23, 0, none⟩) (l.length + l2.length + 1) l1), (77, .int .i64 (fitI l1)), (76, fitA (some ⟨b23, 0, none⟩) (l.length + l2.length + 1) l1)] A111 kr kr (fun a112 A112 => ?_)
 refine zE ?_
 refine zA (C108 _ _ ?_)
 refine zQ ?_
 refine zR (v := .tuple #[fitA (some ⟨b23, 0, none⟩) (l.length + l2.length + 1) l1, .int .i64 (fitI l1)]) (rs := [.tmp 4, .tmp 5]) A112 kr (Res.tmp kr (Res.tmp kr Res.nil)) kr ?_
 exact ⟨j110.upd, _, rfl, by rw [or2_ok ht17]; exact NumV.fit hrow1 (j110.get 0 rfl) (j110.own_ge 0 rfl) (hfin) (fit_eq _ _ _).symm⟩
end Go.Proofs.Ytoocgllbbihoaaa
namespace Go.Proofs.Ytoocgllbbihoaaa
open Go Go.Gv Go.RowKit
set_option maxRecDepth 100000
set_option maxHeartbeats 1000000
/-- A row in the place of an old one: of the length l. -/
def NewRow (T : TypeId) (Φ : List Nat → Prop) (g' : Nat) (o' : Obj) (v : Value) : Prop := ∃ cur' cap' l', o' = .cells cur' T (0, 0) ∧ v = .slice (some ⟨g', 0, none⟩) l'.length cap' ∧ URow l'.length cap' cur' l' ∧ Φ l'
theorem double_c (w : World) (g m cap : Nat) (cur : Array Value) (l : List Nat) (hg : w.heap[g]? = some (.cells cur 93 (0, 0))) (hrow : URow m cap cur l) (hm : m ≤ 1099511627776) (hcan : Canon l) (c0 : Nat) (hc : c0 ≤ 1) :
    Calls Try.prog 57 #[.slice (some ⟨g, 0, none⟩) m cap, .int .u32 (c0 : Int)] w (Ret (· = g) w fun w1 v => ∃ g' o', w1.heap[g']? = some o' ∧ (w.heap.size ≤ g' ∨ g' = g) ∧ NewRow 93 (fun l' => l'.length ≤ m + 1 ∧ Canon l' ∧ val l' = 2 * val l + c0) g' o' v) := by
 refine zZ (n := 31) (vs := [.slice (some ⟨g, 0, none⟩) m cap, .int .u32 (c0 : Int)]) Try.func57 rfl rfl rfl kr (fun a0 A0 => ?_)
 have A0 : Fr 31 a0 [(0, .slice (some ⟨g, 0, none⟩) m cap), (1, .int .u32 (c0 : Int))] := A0
 have hX : ∀ k o, HG g k o → k < w.heap.size := by rintro k o rfl; exact (Array.getElem?_eq_some_iff.1 hg).1
 have j0 : St (· = g) w (HG g) w (HG g) [(g, .cells cur 93 (0, 0))] := St.startE g _ hX hg (fun _ => rfl)
 have hlen := hrow.len
 refine zD (fun K1 C1 => ?_)
 refine zC ?_
 refine zB 1 [(4, .slice none 0 0)] A0 kr kr (fun a2 A2 => ?_)
 refine zE ?_
 refine zA (C1 _ _ ?_)
 refine zD (fun K3 C3 => ?_)
 refine zD (fun K4 C4 => ?_)
 refine zC ?_
 refine zB 3 [(9, .int .i64 0), (8, .int .i64 (m : Int)), (7, .slice (some ⟨g, 0, none⟩) m cap)] A2 kr kr (fun a5 A5 => ?_)
 refine zE ?_
 refine zA (C4 _ _ ?_)
 refine zV ?_
 refine qC (fun (j : Nat) ac w1 => ∃ (Y1 : Hid) (cur1 : Array Value) (l1 : List Nat) (c : Nat), Fr 31 ac [(0, .slice (some ⟨g, 0, none⟩) m cap), (1, .int .u32 (c : Int)), (7, .slice (some ⟨g, 0, none⟩) m cap), (8, .int .i64 (m : Int)), (9, .int .i64 (j : Int))] ∧ St (· = g) w (HG g) w1 Y1 [(g, .cells cur1 93 (0, 0))] ∧ Le (rd w (HG g)) (rd w1 Y1) ∧ (URow m cap cur1 l1) ∧ (j ≤ l.length) ∧ (c ≤ 1) ∧ (val l1 + c * 4294967296 ^ j = (val l + c0) + val (l.take j)) ∧ (∀ t, j ≤ t → l1.getD t 0 = l.getD t 0)) (fun (j : Nat) => l.length - j) 0 ?_ ?_
 ·
  refine ⟨_, cur, l, c0, A5.as [0, 1, 7, 8, 9] kr kr, j0, Le.refl _, hrow, Nat.zero_le _, hc, by simp [val], fun _ _ => rfl⟩
 rintro j a6 w6 ⟨Y6, cur1, l1, c, A6, j6, q6, hp6_0, hp6_1, hp6_2, hp6_3, hp6_4⟩
 have hrow1 := hp6_0
 have hlen1 := hrow1.len
 have hlt1 := hrow.getD_lt j
 have hc1 := hp6_2
 have hpre := hp6_4
 refine zD (fun K7 C7 => ?_)
 refine zC ?_
 refine zB 1 [(10, .bool (decide ((j : Int) < (m : Int))))] A6 kr kr (fun a8 A8 => ?_)
 refine zE ?_
 refine zA (C7 _ _ ?_)
 refine zD (fun K9 C9 => ?_)
 refine zS (decide ((j : Int) < (m : Int))) A8 kr kr (fun hc10 => ?_) (fun hc10 => ?_)
 ·
  have A11 := A8.set 10 (v' := .bool true) kr rfl (zG hc10)
  have ht12 : (j : Int) < (m : Int) := of_decide_eq_true hc10
  refine i_skip ?_
  refine zA (C9 _ _ ?_)
  refine zD (fun K13 C13 => ?_)
  refine zV ?_
  refine zD (fun K14 C14 => ?_)
  refine zC ?_
  refine zB 1 [(11, .int .i64 (j : Int))] A11 kr kr (fun a15 A15 => ?_)
  refine wplI A15 kr (zJ (d := 12) (v := .pointer (some ⟨g, j, none⟩)) A15 kr (zP (t := 23) (e := 93) (b := g) (off := 0) (len := m) (cap := cap) (kd := .i64) (i := (j : Int)) (g := false) (m := 1) (off' := j) rfl kr kr kr kr (by omega) (by omega) (by first | rfl | omega | (simp; done) | (simp; omega)) _) ?_)
  intro a16 A16
  refine wplI A16 kr (zJ (d := 13) (v := .int .u32 ((l1.getD j 0 : Nat) : Int)) A16 kr (zF (t := 93) (g := false) (vs := [.int .u32 ((l1.getD j 0 : Nat) : Int)]) (ad := ⟨g, j, none⟩) rfl kr kr ir (j6.rowCells 0 rfl hrow1 (by have := hrow1.len; (try simp only [List.length_set] at *); omega))) ?_)
  intro a17 A17
  refine zB 2 [(6, .int .u32 ((l1.getD j 0 : Nat) : Int)), (5, .int .i64 (j : Int))] A17 kr kr (fun a18 A18 => ?_)
  refine zE ?_
  refine zA (C14 _ _ ?_)
  refine zC ?_
  refine zB 4 [(17, .int .u32 (IntKind.u32.wrap (((l1.getD j 0 : Nat) : Int) * 2 ^ 1))), (16, .int .u32 ((l1.getD j 0 : Nat) : Int)), (15, .int .i64 (j : Int)), (14, .slice (some ⟨g, 0, none⟩) m cap)] A18 kr kr (fun a19 A19 => ?_)
  have A20 := A19.set 17 (v' := .int .u32 ((l.getD j 0 * 2 % 4294967296 : Nat) : Int)) kr rfl (vint (by rw [wrap_u32, hpre j (Nat.le_refl _)]; omega))
  refine zB 2 [(19, .int .u32 (bor32 ((l.getD j 0 * 2 % 4294967296 : Nat) : Int) (c : Int))), (18, .int .u32 (c : Int))] A20 kr kr (fun a21 A21 => ?_)
  have A22 := A21.set 19 (v' := .int .u32 ((l.getD j 0 * 2 % 4294967296 + c : Nat) : Int)) kr rfl (vint (bor_low _ _ hc1))
  refine zB 2 [(21, .int .u32 (Int.fdiv (((l1.getD j 0 : Nat) : Int)) (2 ^ 31))), (20, .int .u32 ((l1.getD j 0 : Nat) : Int))] A22 kr kr (fun a23 A23 => ?_)
  have A24 := A23.set 21 (v' := .int .u32 ((l.getD j 0 / 2147483648 : Nat) : Int)) kr rfl (vint (by rw [fdiv_pow _ 31 (c := 2147483648) (by decide) (by decide), hpre j (Nat.le_refl _)]; omega))
  refine wplI A24 kr (zJ (d := 22) (v := .pointer (some ⟨g, j, none⟩)) A24 kr (zP (t := 23) (e := 93) (b := g) (off := 0) (len := m) (cap := cap) (kd := .i64) (i := (j : Int)) (g := false) (m := 1) (off' := j) rfl kr kr kr kr (by omega) (by omega) (by first | rfl | omega | (simp; done) | (simp; omega)) _) ?_)
  intro a25 A25
  refine wplI A25 kr (op_storeU (t := 93) (y := (l.getD j 0 * 2 % 4294967296 + c)) 0 A25 kr j6 rfl rfl rfl (by first | rfl | omega | (simp; omega)) kr rfl hrow1 (by have := hrow1.len; (try simp only [List.length_set] at *); omega) (by omega) ?_)
  intro cur26 w26 hrow26 j26 q26
  refine zB 1 [(1, .int .u32 ((l.getD j 0 / 2147483648 : Nat) : Int))] A25 kr kr (fun a27 A27 => ?_)
  refine zE ?_
  refine zW ?_
  refine zA (C13 _ _ ?_)
  refine zC ?_
  refine zB 1 [(23, .int .i64 (IntKind.i64.wrap ((j : Int) + 1)))] A27 kr kr (fun a28 A28 => ?_)
  have A29 := A28.set 23 (v' := .int .i64 ((j : Int) + 1)) kr rfl (vint (wi64 (by omega) (by omega)))
  refine zB 1 [(9, .int .i64 ((j : Int) + 1))] A29 kr kr (fun a30 A30 => ?_)
  refine zE ?_
  refine zA ?_
  refine ⟨j + 1, ⟨_, cur26, (l1.set j (l.getD j 0 * 2 % 4294967296 + c)), l.getD j 0 / 2147483648, A30.as [0, 1, 7, 8, 9] kr kr, j26, (Le2 q6 q26), hrow26, by omega, by omega, dblstep l l1 j c _ (by omega) (by omega) (hpre j (Nat.le_refl _)) hp6_3, fun t ht => by rw [getD_set_of_ne (by omega)]; exact hpre t (by omega)⟩, ?_⟩
  first | omega | (simp; omega)
 have A31 := A8.set 10 (v' := .bool false) kr rfl (zG hc10)
 have ht32 : ¬ ((j : Int) < (m : Int)) := of_decide_eq_false hc10
 have htot : val l1 + c * 4294967296 ^ m = val l + c0 + val l := by have h9 := hp6_3; rwa [show j = l.length by omega, List.take_length, hlen] at h9
 refine i_exit ?_
 refine zT ?_
 refine zT ?_
 refine qA ?_
 refine zA (C3 _ _ ?_)
 refine zD (fun K33 C33 => ?_)
 refine zD (fun K34 C34 => ?_)
 refine zC ?_
 refine zB 2 [(25, .bool ((c : Int) != 0)), (24, .int .u32 (c : Int))] A31 kr kr (fun a35 A35 => ?_)
 refine zE ?_
 refine zA (C34 _ _ ?_)
 refine zS ((c : Int) != 0) A35 kr kr (fun hc36 => ?_) (fun hc36 => ?_)
 ·
  have A37 := A35.set 25 (v' := .bool true) kr rfl (zG hc36)
  have ht38 : (c : Int) ≠ 0 := by simpa using hc36
  have hcz : c = 1 := by omega
  refine zC ?_
  refine zB 2 [(27, .int .u32 (c : Int)), (26, .slice (some ⟨g, 0, none⟩) m cap)] A37 kr kr (fun a39 A39 => ?_)
  refine wplI A39 kr (zN (d := 28) (fun b => .slice (some ⟨b, 0, none⟩) 1 1) (.cells #[.int .u32 (c : Int)] 93 (0, 0)) A39 kr j6 kw ?_)
  intro b40 w40 Y40 j40 q40 hu40 a41 A41
  refine wplI A41 kr (op_append (d := 29) (t := 23) (e := 93) (size := 1) (g := g) (nn := m) (cap := cap) (m := 1) (c := 1) (ad := ⟨b40, 0, none⟩) (z := .int .u32 0) (cur := cur1) (xs := U32 l1) (news := [.int .u32 (c : Int)]) (i0 := Try.t93) 1 A41 kr j40 rfl kr kr kr kr kr kr kr rfl hrow1.row (j40.cells 0 rfl rfl) kr kr (by simp only [maxLen]; omega) (by show (_ + 1) * 4 ≤ _; omega) ?_)
  intro g42 cap42 cur42 w42 Y42 hrow42 j42 q42 a43 A43
  have hrw42 := URow.app hrow42 hrow1.lt (by omega : c < 4294967296)
  refine zB 1 [(0, .slice (some ⟨g42, 0, none⟩) (m + 1) cap42)] A43 kr kr (fun a44 A44 => ?_)
  refine zE ?_
  refine zA (C33 _ _ ?_)
  refine zD (fun K45 C45 => ?_)
  refine zC ?_
  refine zB 2 [(4, .slice (some ⟨g42, 0, none⟩) (m + 1) cap42), (30, .slice (some ⟨g42, 0, none⟩) (m + 1) cap42)] A44 kr kr (fun a46 A46 => ?_)
  refine zE ?_
  refine zA (C45 _ _ ?_)
  refine zQ ?_
  refine zR (v := .slice (some ⟨g42, 0, none⟩) (m + 1) cap42) (rs := [.tmp 4]) A46 kr (Res.tmp kr Res.nil) kr ?_
  exact ⟨j42.upd, _, rfl, g42, _, j42.get 1 rfl, j42.own_or 1 rfl, _, _, (l1 ++ [c]), rfl, by rw [List.length_append, hlen1]; rfl, by rw [List.length_append, hlen1]; exact hrw42, by simp only [List.length_append, List.length_singleton]; omega, canon_app (by omega), by rw [val_snoc, hlen1]; omega⟩
 have A47 := A35.set 25 (v' := .bool false) kr rfl (zG hc36)
 have ht48 : (c : Int) = 0 := by simpa using hc36
 have hcz : c = 0 := by omega
 refine i_skip ?_
 refine zA (C33 _ _ ?_)
 refine zD (fun K49 C49 => ?_)
 refine zC ?_
 refine zB 2 [(4, .slice (some ⟨g, 0, none⟩) m cap), (30, .slice (some ⟨g, 0, none⟩) m cap)] A47 kr kr (fun a50 A50 => ?_)
 refine zE ?_
 refine zA (C49 _ _ ?_)
 refine zQ ?_
 refine zR (v := .slice (some ⟨g, 0, none⟩) m cap) (rs := [.tmp 4]) A50 kr (Res.tmp kr Res.nil) kr ?_
 exact ⟨j6.upd, _, rfl, g, _, j6.get 0 rfl, j6.own_or 0 rfl, _, _, l1, rfl, by rw [hlen1], by rw [hlen1]; exact hrow1, by omega, canon_of_ge hrow1.lt (fun h0 => by rw [hcz] at htot; have h8 := canon_ge hcan (fun e => by rw [e] at hlen; simp at hlen; omega); rw [hlen1]; rw [hlen] at h8; omega), by rw [hcz] at htot; omega⟩
theorem double_nil (w : World) (X : Hid) (hX : ∀ k o, X k o → k < w.heap.size) (c0 : Nat) (hc : c0 ≤ 1) : Calls Try.prog 57 #[.slice none 0 0, .int .u32 (c0 : Int)] w (Ret E0 w fun w1 v => ∃ l' ad' len' cap', OwnN 93 w w1 v l' ad' len' cap' c0 ∧ l'.length ≤ 1) := by
 refine zZ (n := 31) (vs := [.slice none 0 0, .int .u32 (c0 : Int)]) Try.func57 rfl rfl rfl kr (fun a0 A0 => ?_)
 have A0 : Fr 31 a0 [(0, .slice none 0 0), (1, .int .u32 (c0 : Int))] := A0
 have j0 : St E0 w X w X [] := St.start hX
 refine zD (fun K1 C1 => ?_)
 refine zC ?_
 refine zB 1 [(4, .slice none 0 0)] A0 kr kr (fun a2 A2 => ?_)
 refine zE ?_
 refine zA (C1 _ _ ?_)
 refine zD (fun K3 C3 => ?_)
 refine zD (fun K4 C4 => ?_)
 refine zC ?_
 refine zB 3 [(9, .int .i64 0), (8, .int .i64 0), (7, .slice none 0 0)] A2 kr kr (fun a5 A5 => ?_)
 refine zE ?_
 refine zA (C4 _ _ ?_)
 refine zV ?_
 refine i_loop0 ?_
 refine zD (fun K6 C6 => ?_)
 refine zC ?_
 refine zB 1 [(10, .bool false)] A5 kr kr (fun a7 A7 => ?_)
 refine zE ?_
 refine zA (C6 _ _ ?_)
 refine zD (fun K8 C8 => ?_)
 refine qH A7 kr kr ?_
 refine i_exit ?_
 refine zT ?_
 refine zT ?_
 refine qA ?_
 refine zA (C3 _ _ ?_)
 refine zD (fun K9 C9 => ?_)
 refine zD (fun K10 C10 => ?_)
 refine zC ?_
 refine zB 2 [(25, .bool ((c0 : Int) != 0)), (24, .int .u32 (c0 : Int))] A7 kr kr (fun a11 A11 => ?_)
 refine zE ?_
 refine zA (C10 _ _ ?_)
 refine zS ((c0 : Int) != 0) A11 kr kr (fun hc12 => ?_) (fun hc12 => ?_)
 ·
  have A13 := A11.set 25 (v' := .bool true) kr rfl (zG hc12)
  have ht14 : (c0 : Int) ≠ 0 := by simpa using hc12
  refine zC ?_
  refine zB 2 [(27, .int .u32 (c0 : Int)), (26, .slice none 0 0)] A13 kr kr (fun a15 A15 => ?_)
  refine wplI A15 kr (zN (d := 28) (fun b => .slice (some ⟨b, 0, none⟩) 1 1) (.cells #[.int .u32 (c0 : Int)] 93 (0, 0)) A15 kr j0 kw ?_)
  intro b16 w16 Y16 j16 q16 hu16 a17 A17
  refine wplI A17 kr (op_append0 (d := 29) (t := 23) (e := 93) (size := 1) (m := 1) (c := 1) (ad := ⟨b16, 0, none⟩) (z := .int .u32 0) (news := [.int .u32 (c0 : Int)]) (i0 := Try.t93) A17 kr j16 rfl kr kr kr kr kr kr kr (j16.cells 0 rfl rfl) kr (by omega) (by simp only [maxLen]; omega) (by show 1 * 4 ≤ _; omega) ?_)
  intro g18 cap18 cur18 w18 Y18 hrow18 j18 q18 a19 A19
  have hrw18 : URow 1 cap18 cur18 [c0] := URow.app (m := 0) (l := []) hrow18 (fun x hx => by simp at hx) (by omega)
  refine zB 1 [(0, .slice (some ⟨g18, 0, none⟩) 1 cap18)] A19 kr kr (fun a20 A20 => ?_)
  refine zE ?_
  refine zA (C9 _ _ ?_)
  refine zD (fun K21 C21 => ?_)
  refine zC ?_
  refine zB 2 [(4, .slice (some ⟨g18, 0, none⟩) 1 cap18), (30, .slice (some ⟨g18, 0, none⟩) 1 cap18)] A20 kr kr (fun a22 A22 => ?_)
  refine zE ?_
  refine zA (C21 _ _ ?_)
  refine zQ ?_
  refine zR (v := .slice (some ⟨g18, 0, none⟩) 1 cap18) (rs := [.tmp 4]) A22 kr (Res.tmp kr Res.nil) kr ?_
  exact ⟨j18.upd, _, rfl, [c0], _, _, _, ⟨⟨rfl, rfl, hrw18.lt, .inr ⟨_, _, rfl, j18.own_ge 0 rfl, j18.get 0 rfl, hrw18⟩⟩, canon_app (l := []) (by omega), by simp [val]⟩, by simp⟩
 have A23 := A11.set 25 (v' := .bool false) kr rfl (zG hc12)
 have ht24 : (c0 : Int) = 0 := by simpa using hc12
 refine i_skip ?_
 refine zA (C9 _ _ ?_)
 refine zD (fun K25 C25 => ?_)
 refine zC ?_
 refine zB 2 [(4, .slice none 0 0), (30, .slice none 0 0)] A23 kr kr (fun a26 A26 => ?_)
 refine zE ?_
 refine zA (C25 _ _ ?_)
 refine zQ ?_
 refine zR (v := .slice none 0 0) (rs := [.tmp 4]) A26 kr (Res.tmp kr Res.nil) kr ?_
 exact ⟨j0.upd, _, rfl, [], _, _, _, ⟨⟨rfl, rfl, fun x hx => by simp at hx, .inl ⟨rfl, rfl, rfl⟩⟩, .inl rfl, by simp [val]; omega⟩, by simp⟩
end Go.Proofs.Ytoocgllbbihoaaa
namespace Go.Proofs.Ytoocgllbbihoaaa
open Go Go.Gv Go.RowKit
set_option maxRecDepth 100000
set_option maxHeartbeats 1000000
theorem val_mod2 (l : List Nat) : val l % 2 = l.getD 0 0 % 2 := by
  rcases l with _ | ⟨x, l⟩
  · simp [val]
  · simp only [val, List.getD_cons_zero]; omega
theorem two_pow_lt {k m v V : Nat} (h : v * 2 ^ k = V) (hp : 0 < v) (hV : V < 4294967296 ^ m) : k < V ∧ k < 32 * m := by
  have h1 : 1 * 2 ^ k ≤ v * 2 ^ k := Nat.mul_le_mul_right _ hp
  have h2 : k < 2 ^ k := Nat.lt_two_pow_self
  refine ⟨by omega, ?_⟩
  have h3 : (4294967296 : Nat) ^ m = 2 ^ (32 * m) := by rw [Nat.pow_mul]
  have h4 : 2 ^ k < 2 ^ (32 * m) := by omega
  exact (Nat.pow_lt_pow_iff_right (by omega : 1 < 2)).1 h4
theorem halve_c (w : World) (g m cap : Nat) (cur : Array Value) (l : List Nat) (hg : w.heap[g]? = some (.cells cur 93 (0, 0))) (hrow : URow m cap cur l) (hm : m ≤ 1099511627776) (hcan : Canon l) (hpos : 0 < val l) :
    Calls Try.prog 54 #[.slice (some ⟨g, 0, none⟩) m cap] w (Ret (· = g) w fun w1 v => ∃ k cur' l', v = .tuple #[.slice (some ⟨g, 0, none⟩) l'.length cap, .int .i64 ((k : Nat) : Int)] ∧ w1.heap[g]? = some (.cells cur' 93 (0, 0)) ∧ URow l'.length cap cur' l' ∧ Canon l' ∧ val l' * 2 ^ k = val l ∧ val l' % 2 = 1) := by
 refine m_enter (n := 37) (vs := [.slice (some ⟨g, 0, none⟩) m cap]) Try.func54 rfl rfl rfl kr (fun a0 A0 => ?_)
 have A0 : Fr 37 a0 [(0, .slice (some ⟨g, 0, none⟩) m cap)] := A0
 have hX : ∀ k o, HG g k o → k < w.heap.size := by rintro k o rfl; exact (Array.getElem?_eq_some_iff.1 hg).1
 have j0 : St (· = g) w (HG g) w (HG g) [(g, .cells cur 93 (0, 0))] := St.startE g _ hX hg (fun _ => rfl)
 have hlen := hrow.len
 refine zD (fun K1 C1 => ?_)
 refine zC ?_
 refine wplI A0 kr (zN (d := 1) (fun b => .pointer (some ⟨b, 0, none⟩)) (.cells #[.slice (some ⟨g, 0, none⟩) m cap] 23 (0, 0)) A0 kr j0 kw ?_)
 intro b2 w2 Y2 j2 q2 hu2 a3 A3
 refine zB 2 [(3, .int .i64 0), (2, .slice none 0 0)] A3 kr kr (fun a4 A4 => ?_)
 refine zE ?_
 refine zA (C1 _ _ ?_)
 refine zD (fun K5 C5 => ?_)
 refine zC ?_
 refine zB 1 [(4, .int .i64 0)] A4 kr kr (fun a6 A6 => ?_)
 refine zE ?_
 refine zA (C5 _ _ ?_)
 refine zD (fun K7 C7 => ?_)
 refine zV ?_
 refine qC (fun (k : Nat) ac w1 => ∃ (Y1 : Hid) (bs : List Nat) (m1 : Nat) (cur1 : Array Value) (l1 : List Nat), Fr 37 ac [(1, .pointer (some ⟨b2, 0, none⟩)), (4, .int .i64 (k : Int))] (bs.map Go.Gv.mark) ∧ St (· = g) w (HG g) w1 Y1 ((b2, .cells #[.slice (some ⟨g, 0, none⟩) m1 cap] 23 (0, 0)) :: (g, .cells cur1 93 (0, 0)) :: marks bs) ∧ Le (rd w2 Y2) (rd w1 Y1) ∧ (URow m1 cap cur1 l1) ∧ (Canon l1) ∧ (val l1 * 2 ^ k = val l)) (fun (k : Nat) => val l - k) 0 ?_ ?_
 ·
  refine ⟨_, [], m, cur, l, A6.as [1, 4] kr kr, j2, Le.refl _, hrow, hcan, by simp⟩
 rintro k a8 w8 ⟨Y8, bs, m1, cur1, l1, A8, j8, q8, hp8_0, hp8_1, hp8_2⟩
 have hrow1 := hp8_0
 have hlen1 := hrow1.len
 have hcan1 := hp8_1
 have hval1 := hp8_2
 have hp1 : 0 < val l1 := Nat.pos_of_ne_zero (fun e => by rw [e] at hval1; omega)
 obtain ⟨hkv, hkm⟩ := two_pow_lt hval1 hp1 (val_lt hrow.lt)
 rw [hlen] at hkm
 have hm0 : 0 < m1 := by rcases Nat.eq_zero_or_pos m1 with e | e; rw [List.eq_nil_of_length_eq_zero (hlen1.trans e)] at hp1; simp [val] at hp1; exact e
 have hm1 : m1 ≤ m := by have := canon_len hrow.lt hcan1 (by have := Nat.le_mul_of_pos_right (val l1) (Nat.two_pow_pos k); omega); omega
 have hlt0 := hrow1.getD_lt 0
 refine zD (fun K9 C9 => ?_)
 refine zD (fun K10 C10 => ?_)
 refine zC ?_
 refine wplI A8 kr (zJ (d := 8) (v := .slice (some ⟨g, 0, none⟩) m1 cap) A8 kr (zF (t := 23) (g := false) (vs := [.slice (some ⟨g, 0, none⟩) m1 cap]) (ad := ⟨b2, 0, none⟩) rfl kr kr ir (j8.cells 0 rfl rfl)) ?_)
 intro a11 A11
 refine zB 2 [(10, .bool (decide ((m1 : Int) > 0))), (9, .int .i64 (m1 : Int))] A11 kr kr (fun a12 A12 => ?_)
 have A13 := A12.set 10 (v' := .bool true) kr rfl (zG (decide_eq_true (by omega)))
 refine zB 1 [(11, .bool true)] A13 kr kr (fun a14 A14 => ?_)
 refine wplI A14 kr (zJ (d := 12) (v := .slice (some ⟨g, 0, none⟩) m1 cap) A14 kr (zF (t := 23) (g := false) (vs := [.slice (some ⟨g, 0, none⟩) m1 cap]) (ad := ⟨b2, 0, none⟩) rfl kr kr ir (j8.cells 0 rfl rfl)) ?_)
 intro a15 A15
 refine wplI A15 kr (zJ (d := 13) (v := .pointer (some ⟨g, 0, none⟩)) A15 kr (zP (t := 23) (e := 93) (b := g) (off := 0) (len := m1) (cap := cap) (kd := .i64) (i := 0) (g := false) (m := 1) (off' := 0) rfl kr kr kr kr (by omega) (by omega) kr _) ?_)
 intro a16 A16
 refine wplI A16 kr (zJ (d := 14) (v := .int .u32 ((l1.getD 0 0 : Nat) : Int)) A16 kr (zF (t := 93) (g := false) (vs := [.int .u32 ((l1.getD 0 0 : Nat) : Int)]) (ad := ⟨g, 0, none⟩) rfl kr kr ir (j8.rowCells 1 rfl hrow1 (by have := hrow1.len; (try simp only [List.length_set] at *); omega))) ?_)
 intro a17 A17
 refine zB 1 [(15, .int .u32 (band32 ((l1.getD 0 0 : Nat) : Int) 1))] A17 kr kr (fun a18 A18 => ?_)
 have A19 := A18.set 15 (v' := .int .u32 ((l1.getD 0 0 % 2 : Nat) : Int)) kr rfl (vint (band_one _ hlt0))
 refine zB 2 [(17, .bool (((l1.getD 0 0 % 2 : Nat) : Int) == 0)), (16, .bool (((l1.getD 0 0 % 2 : Nat) : Int) == 0))] A19 kr kr (fun a20 A20 => ?_)
 refine zE ?_
 refine zA (C10 _ _ ?_)
 refine zS (((l1.getD 0 0 % 2 : Nat) : Int) == 0) A20 kr kr (fun hc21 => ?_) (fun hc21 => ?_)
 ·
  have A22 := A20.set 17 (v' := .bool true) kr rfl (zG hc21)
  have ht23 : ((l1.getD 0 0 % 2 : Nat) : Int) = 0 := by simpa using hc21
  have heven : val l1 % 2 = 0 := by rw [val_mod2]; omega
  refine i_skip ?_
  refine zA (C9 _ _ ?_)
  refine zV ?_
  refine zD (fun K24 C24 => ?_)
  refine zC ?_
  refine wplI A22 kr (zN (d := 5) (fun b => .pointer (some ⟨b, 0, none⟩)) (.cells #[.int .u32 0] 93 (0, 0)) A22 kr j8 kw ?_)
  intro b25 w25 Y25 j25 q25 hu25 a26 A26
  refine wplI A26 kr (zO (t := 93) (b := b25) (off := 0) (c' := #[.int .u32 0]) (g := false) (m := 1) 0 _ A26 kr j25 rfl kr rfl kr kr kr rfl (by first | decide | (simp; done)) kr rfl ?_)
  intro w27 j27 q27
  refine zE ?_
  refine zA (C24 _ _ ?_)
  refine zD (fun K28 C28 => ?_)
  refine zD (fun K29 C29 => ?_)
  refine zC ?_
  refine wplI A26 kr (zJ (d := 18) (v := .slice (some ⟨g, 0, none⟩) m1 cap) A26 kr (zF (t := 23) (g := false) (vs := [.slice (some ⟨g, 0, none⟩) m1 cap]) (ad := ⟨b2, 0, none⟩) rfl kr kr ir (j27.cells 1 rfl rfl)) ?_)
  intro a30 A30
  refine wplI A30 kr (zK (d := 19) (f := 70) (cap := #[]) (vs := #[.slice (some ⟨g, 0, none⟩) m1 cap]) A30 kr j27 rfl kr kr (fun w => Try.call70 _ w) (backward_c _ _ j27.lt (some ⟨g, 0, none⟩) m1 cap) ?_)
  rintro v31 w31 j31 q31 hu31 ⟨bx31, rfl, hge31, hget31⟩ a32 A32
  have j33 := St.adopt j31 (fun o h => Nat.not_lt.2 hge31 (j27.lt _ _ h)) (Nat.le_trans j27.upd.size hge31) hget31
  have q33 := Le.adopt q31 hge31
  refine zE ?_
  refine zA (C29 _ _ ?_)
  refine zV ?_
  refine i_range2 (f := 92) (caps := #[.pointer (some ⟨bx31, 0, none⟩)]) A32 j33 kr kr (fun args w => Try.call92 args w) ?_
  intro rec34 l34 b34 w34 Y34 hr34 j34 q34 hu34
  have A35 := fr_marked b34 A32
  refine backward1_c l34 bx31 (some ⟨g, 0, none⟩) m1 cap l1 hlen1.symm (by omega) (fun k1 w' => ∃ (Y' : Hid) (cur2 : Array Value) (l2 : List Nat) (r : Nat), St (· = g) w (HG g) w' Y' ((l34, .loop rec34) :: (b34, .deferred (some [])) :: (bx31, .cells #[.slice (some ⟨g, 0, none⟩) m1 cap] 23 (0, 0)) :: (b25, .cells #[.int .u32 ((r * 2147483648 : Nat) : Int)] 93 (0, 0)) :: (b2, .cells #[.slice (some ⟨g, 0, none⟩) m1 cap] 23 (0, 0)) :: (g, .cells cur2 93 (0, 0)) :: marks bs) ∧ Le (rd w34 Y34) (rd w' Y') ∧ (URow m1 cap cur2 l2) ∧ (r ≤ 1) ∧ (2 * val l2 + r * 4294967296 ^ k1 = val l1 + val (l1.take k1)) ∧ (∀ i, i < k1 → l2.getD i 0 = l1.getD i 0)) _ ?_ ?_ ?_ ?_ _ ?_
  ·
   rintro k1 w36 ⟨Y36, cur2, l2, r, j36, q36, hp36_0, hp36_1, hp36_2, hp36_3⟩
   exact j36.at0 2 rfl rfl
  ·
   rintro k1 w37 ⟨Y37, cur2, l2, r, j37, q37, hp37_0, hp37_1, hp37_2, hp37_3⟩
   intro hk
   refine ⟨g, 0, rfl, ?_⟩
   rw [← hp37_3 k1 (by omega)]
   exact URow.cellX0 hp37_0 (j37.get 5 rfl) (by have := (hp37_0).len; omega)
  ·
   intro k1 w38 hk
   rintro ⟨Y38, cur2, l2, r, j38, q38, hp38_0, hp38_1, hp38_2, hp38_3⟩
   refine y_round2 (p := 20) (q := 21) hr34 A32 j38 kr kr (fun a39 A39 => ?_)
   have hrow2 := hp38_0
   have hlen2 := hrow2.len
   have hr1 := hp38_1
   have hv2 := hp38_2
   have heq2 := hp38_3
   have hltk := hrow1.getD_lt k1
   refine zD (fun K40 C40 => ?_)
   refine zC ?_
   refine zB 1 [(6, .int .i64 (k1 : Int))] A39 kr kr (fun a41 A41 => ?_)
   refine zE ?_
   refine zA (C40 _ _ ?_)
   refine zC ?_
   refine zB 1 [(7, .int .u32 ((l1.getD k1 0 : Nat) : Int))] A41 kr kr (fun a42 A42 => ?_)
   refine zE ?_
   refine zA ?_
   refine y_begin2 hr34 j38 (fun w43 j43 q43 => ?_)
   refine zV ?_
   refine zC ?_
   refine wplI A42 kr (zJ (d := 22) (v := .slice (some ⟨g, 0, none⟩) m1 cap) A42 kr (zF (t := 23) (g := false) (vs := [.slice (some ⟨g, 0, none⟩) m1 cap]) (ad := ⟨b2, 0, none⟩) rfl kr kr ir (j43.cells 4 rfl rfl)) ?_)
   intro a44 A44
   refine zB 3 [(25, .int .u32 (Int.fdiv (((l1.getD k1 0 : Nat) : Int)) (2 ^ 1))), (24, .int .u32 ((l1.getD k1 0 : Nat) : Int)), (23, .int .i64 (k1 : Int))] A44 kr kr (fun a45 A45 => ?_)
   have A46 := A45.set 25 (v' := .int .u32 ((l1.getD k1 0 / 2 : Nat) : Int)) kr rfl (vint (by rw [fdiv_pow _ 1 (c := 2) (by decide) (by decide)]; omega))
   refine wplI A46 kr (zJ (d := 26) (v := .int .u32 ((r * 2147483648 : Nat) : Int)) A46 kr (zF (t := 93) (g := false) (vs := [.int .u32 ((r * 2147483648 : Nat) : Int)]) (ad := ⟨b25, 0, none⟩) rfl kr kr ir (j43.cells 3 rfl rfl)) ?_)
   intro a47 A47
   refine zB 1 [(27, .int .u32 (bor32 ((l1.getD k1 0 / 2 : Nat) : Int) ((r * 2147483648 : Nat) : Int)))] A47 kr kr (fun a48 A48 => ?_)
   have A49 := A48.set 27 (v' := .int .u32 ((l1.getD k1 0 / 2 + r * 2147483648 : Nat) : Int)) kr rfl (vint (bor_top _ _ (by omega) hr1))
   refine zB 2 [(29, .int .u32 (IntKind.u32.wrap (((l1.getD k1 0 : Nat) : Int) * 2 ^ 31))), (28, .int .u32 ((l1.getD k1 0 : Nat) : Int))] A49 kr kr (fun a50 A50 => ?_)
   have A51 := A50.set 29 (v' := .int .u32 ((l1.getD k1 0 % 2 * 2147483648 : Nat) : Int)) kr rfl (vint (by rw [wrap_u32]; omega))
   refine wplI A51 kr (zJ (d := 30) (v := .pointer (some ⟨g, k1, none⟩)) A51 kr (zP (t := 23) (e := 93) (b := g) (off := 0) (len := m1) (cap := cap) (kd := .i64) (i := (k1 : Int)) (g := false) (m := 1) (off' := k1) rfl kr kr kr kr (by omega) (by omega) (by first | rfl | omega | (simp; done) | (simp; omega)) _) ?_)
   intro a52 A52
   refine wplI A52 kr (op_storeU (t := 93) (y := (l1.getD k1 0 / 2 + r * 2147483648)) 5 A52 kr j43 rfl rfl rfl (by first | rfl | omega | (simp; omega)) kr rfl hrow2 (by have := hrow2.len; (try simp only [List.length_set] at *); omega) (by omega) ?_)
   intro cur53 w53 hrow53 j53 q53
   refine wplI A52 kr (zO (t := 93) (b := b25) (off := 0) (c' := #[.int .u32 ((l1.getD k1 0 % 2 * 2147483648 : Nat) : Int)]) (g := false) (m := 1) 3 _ A52 kr j53 rfl kr rfl kr kr kr rfl (by first | decide | (simp; done)) kr rfl ?_)
   intro w54 j54 q54
   refine zE ?_
   refine zW ?_
   refine y_next2 hr34 j54 (fun w55 j55 q55 => Rounds.next ?_)
   exact ⟨_, cur53, (l2.set k1 (l1.getD k1 0 / 2 + r * 2147483648)), l1.getD k1 0 % 2, j55, (Le5 q38 q43 q53 q54 q55), hrow53, by omega, hlvstep l1 l2 k1 r (by omega) (by omega) (heq2 k1 (by omega)) hv2, fun i hi => by rw [getD_set_of_ne (by omega)]; exact heq2 i (by omega)⟩
  ·
   rintro w56 ⟨Y56, cur2, l2, r, j56, q56, hp56_0, hp56_1, hp56_2, hp56_3⟩
   refine RangeEnd.norm hr34 j56 (fun w57 j57 q57 => ?_)
   have hrow2 := hp56_0
   have hlen2 := hrow2.len
   have hhalf : val l2 * 2 = val l1 := by have h9 := hp56_2; have h8 := hp56_1; rw [List.take_zero] at h9; simp only [val, Nat.pow_zero] at h9; omega
   refine zW ?_
   refine zA (C28 _ _ ?_)
   refine zD (fun K58 C58 => ?_)
   refine zC ?_
   refine wplI A35 kr (zJ (d := 31) (v := .slice (some ⟨g, 0, none⟩) m1 cap) A35 kr (zF (t := 23) (g := false) (vs := [.slice (some ⟨g, 0, none⟩) m1 cap]) (ad := ⟨b2, 0, none⟩) rfl kr kr ir (j57.cells 4 rfl rfl)) ?_)
   intro a59 A59
   refine wplI A59 kr (zK (d := 32) (f := 71) (cap := #[]) (vs := #[.slice (some ⟨g, 0, none⟩) m1 cap]) A59 kr j57 rfl kr kr (fun w => Try.call71 _ w) (trim_c _ X0 (X0_lt _) _ _ _ l2 (URow.limbs (Y := X0) hrow2 (j57.get 5 rfl) (fun _ h => h.elim))) ?_)
   rintro v60 w60 j60 q60 hu60 rfl a61 A61
   have hrt := hrow2.trimmed
   refine wplI A61 kr (zO (t := 23) (b := b2) (off := 0) (c' := #[.slice (some ⟨g, 0, none⟩) (trimN l2) cap]) (g := false) (m := 1) 4 _ A61 kr j60 rfl kr rfl kr kr kr rfl (by first | decide | (simp; done)) kr rfl ?_)
   intro w62 j62 q62
   refine zE ?_
   refine zA (C58 _ _ ?_)
   refine zC ?_
   refine zB 2 [(34, .int .i64 (IntKind.i64.wrap ((k : Int) + 1))), (33, .int .i64 (k : Int))] A61 kr kr (fun a63 A63 => ?_)
   have A64 := A63.set 34 (v' := .int .i64 ((k + 1 : Nat) : Int)) kr rfl (vint (wi64 (by omega) (by omega)))
   refine zB 1 [(4, .int .i64 ((k + 1 : Nat) : Int))] A64 kr kr (fun a65 A65 => ?_)
   refine zE ?_
   refine zW ?_
   refine zA ?_
   refine ⟨k + 1, ⟨_, (_ :: bs), trimN l2, cur2, (Go.Gv.trimmed l2), A65.as [1, 4] kr kr, (St.mid [(b2, .cells #[.slice (some ⟨g, 0, none⟩) (trimN l2) cap] 23 (0, 0)), (g, .cells cur2 93 (0, 0))] j62.tail.swap.tail.swap.tail), (Le9 q8 q25 q27 q33 q34 q56 q57 q60 q62), hrt, canon_trimmed _, by rw [val_trimmed, Nat.pow_succ, ← hval1, ← hhalf]; ac_rfl⟩, ?_⟩
   first | omega | (simp; omega)
  ·
   exact ⟨_, cur1, l1, 0, j34, Le.refl _, hrow1, by omega, by rw [← hlen1, List.take_length]; omega, fun _ _ => rfl⟩
 have A66 := A20.set 17 (v' := .bool false) kr rfl (zG hc21)
 have ht67 : ((l1.getD 0 0 % 2 : Nat) : Int) ≠ 0 := by simpa using hc21
 have hodd : val l1 % 2 = 1 := by rw [val_mod2]; omega
 refine i_exit ?_
 refine zT ?_
 refine zT ?_
 refine qA ?_
 refine zA (C7 _ _ ?_)
 refine zD (fun K68 C68 => ?_)
 refine zC ?_
 refine wplI A66 kr (zJ (d := 35) (v := .slice (some ⟨g, 0, none⟩) m1 cap) A66 kr (zF (t := 23) (g := false) (vs := [.slice (some ⟨g, 0, none⟩) m1 cap]) (ad := ⟨b2, 0, none⟩) rfl kr kr ir (j8.cells 0 rfl rfl)) ?_)
 intro a69 A69
 refine zB 3 [(3, .int .i64 (k : Int)), (2, .slice (some ⟨g, 0, none⟩) m1 cap), (36, .int .i64 (k : Int))] A69 kr kr (fun a70 A70 => ?_)
 refine zE ?_
 refine zA (C68 _ _ ?_)
 refine zQ ?_
 refine m_rets (bs := bs) (N := [(b2, .cells #[.slice (some ⟨g, 0, none⟩) m1 cap] 23 (0, 0)), (g, .cells cur1 93 (0, 0))]) (v := .tuple #[.slice (some ⟨g, 0, none⟩) m1 cap, .int .i64 (k : Int)]) (rs := [.tmp 2, .tmp 3]) (vs := [.slice (some ⟨g, 0, none⟩) m1 cap, .int .i64 (k : Int)]) A70 j8 kr kr (fun w71 j71 q71 => ?_)
 refine ⟨(Res.tmp kr (Res.tmp kr Res.nil)), ?_⟩
 exact ⟨j71.upd, _, rfl, k, cur1, l1, by rw [hlen1], j71.get 1 rfl, by rw [hlen1]; exact hrow1, hcan1, hval1, hodd⟩
end Go.Proofs.Ytoocgllbbihoaaa
namespace Go.Proofs.Ytoocgllbbihoaaa
open Go Go.Gv Go.RowKit
set_option maxRecDepth 100000
set_option maxHeartbeats 1000000
theorem cmpI_m1 {x y : Nat} (h : cmpI (x : Int) (y : Int) = -1) : x < y := by unfold cmpI at h; (repeat' split at h) <;> omega
theorem cmpI_n {x y : Nat} (h : cmpI (x : Int) (y : Int) ≠ 0) (h2 : cmpI (x : Int) (y : Int) ≠ -1) : y < x := by unfold cmpI at h h2; (repeat' split at h) <;> (repeat' split at h2) <;> omega
theorem GCD_c (w : World) (X : Hid) (hX : ∀ k o, X k o → k < w.heap.size) (ad : Option Addr) (len cap : Nat) (l : List Nat) (h : Limbs (rd w X) ad len cap l) (ad2 : Option Addr) (len2 cap2 : Nat) (l2 : List Nat) (h2 : Limbs (rd w X) ad2 len2 cap2 l2) : Calls Try.prog 35 #[.slice ad len cap, .slice ad2 len2 cap2] w (Ret E0 w fun w' v => NumV 93 w w' (chk2 l l2) (Nat.gcd (val l) (val l2)) v) := by
 obtain rfl := h.hlen
 obtain rfl := h2.hlen
 have hcap := h.hcap
 have hbig := h.hbig
 have hcap2 := h2.hcap
 have hbig2 := h2.hbig
 refine zZ (n := 63) (vs := [.slice ad l.length cap, .slice ad2 l2.length cap2]) Try.func35 rfl rfl rfl kr (fun a0 A0 => ?_)
 have A0 : Fr 63 a0 [(0, .slice ad l.length cap), (1, .slice ad2 l2.length cap2)] := A0
 have j0 : St E0 w X w X [] := St.start hX
 refine zD (fun K1 C1 => ?_)
 refine zC ?_
 refine zB 2 [(5, .int .i64 0), (4, .slice none 0 0)] A0 kr kr (fun a2 A2 => ?_)
 refine zE ?_
 refine zA (C1 _ _ ?_)
 refine i_scope ?_
 refine zD (fun K3 C3 => ?_)
 refine zD (fun K4 C4 => ?_)
 refine zC ?_
 refine zB 2 [(10, .slice ad2 l2.length cap2), (9, .slice ad l.length cap)] A2 kr kr (fun a5 A5 => ?_)
 refine wplI A5 kr (zK (d := 11) (f := 52) (cap := #[]) (vs := #[.slice ad l.length cap, .slice ad2 l2.length cap2]) A5 kr j0 rfl kr kr (fun w => Try.call52 _ w) (bcheck2 _ X0 (X0_lt _) _ _ _ l (h.mono Le.x0) _ _ _ l2 (h2.mono Le.x0)) ?_)
 rintro v6 w6 j6 q6 hu6 rfl a7 A7
 refine zB 1 [(6, .int .i64 (chk2 l l2))] A7 kr kr (fun a8 A8 => ?_)
 refine zE ?_
 refine zA (C4 _ _ ?_)
 refine zD (fun K9 C9 => ?_)
 refine zC ?_
 refine zB 2 [(13, .bool ((chk2 l l2) != 0)), (12, .int .i64 (chk2 l l2))] A8 kr kr (fun a10 A10 => ?_)
 refine zE ?_
 refine zA (C9 _ _ ?_)
 refine zS ((chk2 l l2) != 0) A10 kr kr (fun hc11 => ?_) (fun hc11 => ?_)
 ·
  have A12 := A10.set 13 (v' := .bool true) kr rfl (zG hc11)
  have ht13 : (chk2 l l2) ≠ 0 := by simpa using hc11
  refine zD (fun K14 C14 => ?_)
  refine zC ?_
  refine zB 3 [(5, .int .i64 (chk2 l l2)), (4, .slice none 0 0), (14, .int .i64 (chk2 l l2))] A12 kr kr (fun a15 A15 => ?_)
  refine zE ?_
  refine zA (C14 _ _ ?_)
  refine zQ ?_
  refine zL ?_
  refine sc_ret ?_
  refine zR (v := .tuple #[.slice none 0 0, .int .i64 (chk2 l l2)]) (rs := [.tmp 4, .tmp 5]) A15 kr (Res.tmp kr (Res.tmp kr Res.nil)) kr ?_
  exact ⟨j6.upd, _, rfl, .inl ⟨ht13, rfl⟩⟩
 have A16 := A10.set 13 (v' := .bool false) kr rfl (zG hc11)
 have ht17 : (chk2 l l2) = 0 := by simpa using hc11
 obtain ⟨⟨hl1, c1⟩, hl2, c2⟩ := chk2_ok ht17
 refine i_skip ?_
 refine zA (C3 _ _ ?_)
 refine zD (fun K18 C18 => ?_)
 refine zC ?_
 refine zB 1 [(15, .slice ad l.length cap)] A16 kr kr (fun a19 A19 => ?_)
 refine wplI A19 kr (zK (d := 16) (f := 53) (cap := #[]) (vs := #[.slice ad l.length cap]) A19 kr j6 rfl kr kr (fun w => Try.call53 _ w) (clone_c _ X0 (X0_lt _) _ _ _ l ((h.mono q6).mono Le.x0) (by omega)) ?_)
 rintro v20 w20 j20 q20 hu20 ⟨ad20, len20, cap20, how20⟩ a21 A21
 rcases how20 with ⟨rfl, hlen20, hlt20, ⟨rfl, rfl, rfl⟩ | ⟨g20, cur20, rfl, hge20, hget20, hrow20⟩⟩
 ·
  have hnil20 : l = [] := List.eq_nil_of_length_eq_zero hlen20.symm
  have hzA : val l = 0 := by rw [hnil20]; rfl
  refine zB 1 [(17, .slice ad2 l2.length cap2)] A21 kr kr (fun a23 A23 => ?_)
  refine wplI A23 kr (zK (d := 18) (f := 53) (cap := #[]) (vs := #[.slice ad2 l2.length cap2]) A23 kr j20 rfl kr kr (fun w => Try.call53 _ w) (clone_c _ X0 (X0_lt _) _ _ _ l2 ((h2.mono (Le2 q6 q20)).mono Le.x0) (by omega)) ?_)
  rintro v24 w24 j24 q24 hu24 ⟨ad24, len24, cap24, how24⟩ a25 A25
  rcases how24 with ⟨rfl, hlen24, hlt24, ⟨rfl, rfl, rfl⟩ | ⟨g24, cur24, rfl, hge24, hget24, hrow24⟩⟩
  ·
   have hnil24 : l2 = [] := List.eq_nil_of_length_eq_zero hlen24.symm
   have hzB : val l2 = 0 := by rw [hnil24]; rfl
   refine zB 2 [(1, .slice none 0 0), (0, .slice none 0 0)] A25 kr kr (fun a27 A27 => ?_)
   refine zE ?_
   refine zA (C18 _ _ ?_)
   refine zD (fun K28 C28 => ?_)
   refine zD (fun K29 C29 => ?_)
   refine zC ?_
   refine zB 3 [(21, .bool true), (20, .int .i64 0), (19, .slice none 0 0)] A27 kr kr (fun a30 A30 => ?_)
   refine zE ?_
   refine zA (C29 _ _ ?_)
   refine qG A30 kr kr ?_
   refine zD (fun K31 C31 => ?_)
   refine zC ?_
   refine zB 3 [(5, .int .i64 0), (4, .slice none 0 0), (22, .slice none 0 0)] A30 kr kr (fun a32 A32 => ?_)
   refine zE ?_
   refine zA (C31 _ _ ?_)
   refine zQ ?_
   refine zL ?_
   refine sc_ret ?_
   refine zR (v := .tuple #[.slice none 0 0, .int .i64 0]) (rs := [.tmp 4, .tmp 5]) A32 kr (Res.tmp kr (Res.tmp kr Res.nil)) kr ?_
   exact ⟨j24.upd, _, rfl, .inr ⟨ht17, _, [], _, _, _, rfl, ⟨⟨rfl, rfl, fun x hx => by simp at hx, .inl ⟨rfl, rfl, rfl⟩⟩, .inl rfl, by rw [hzA, hzB]; rfl⟩, by simp⟩⟩
  ·
   subst hlen24
   have j26 := St.adopt j24 (fun o h => Nat.not_lt.2 hge24 (j20.lt _ _ h)) (Nat.le_trans j20.upd.size hge24) hget24
   have q26 := Le.adopt q24 hge24
   refine zB 2 [(1, .slice (some ⟨g24, 0, none⟩) l2.length cap24), (0, .slice none 0 0)] A25 kr kr (fun a33 A33 => ?_)
   refine zE ?_
   refine zA (C18 _ _ ?_)
   refine zD (fun K34 C34 => ?_)
   refine zD (fun K35 C35 => ?_)
   refine zC ?_
   refine zB 3 [(21, .bool true), (20, .int .i64 0), (19, .slice none 0 0)] A33 kr kr (fun a36 A36 => ?_)
   refine zE ?_
   refine zA (C35 _ _ ?_)
   refine qG A36 kr kr ?_
   refine zD (fun K37 C37 => ?_)
   refine zC ?_
   refine zB 3 [(5, .int .i64 0), (4, .slice (some ⟨g24, 0, none⟩) l2.length cap24), (22, .slice (some ⟨g24, 0, none⟩) l2.length cap24)] A36 kr kr (fun a38 A38 => ?_)
   refine zE ?_
   refine zA (C37 _ _ ?_)
   refine zQ ?_
   refine zL ?_
   refine sc_ret ?_
   refine zR (v := .tuple #[.slice (some ⟨g24, 0, none⟩) l2.length cap24, .int .i64 0]) (rs := [.tmp 4, .tmp 5]) A38 kr (Res.tmp kr (Res.tmp kr Res.nil)) kr ?_
   exact ⟨j26.upd, _, rfl, .inr ⟨ht17, _, l2, _, _, _, rfl, ⟨⟨rfl, rfl, hrow24.lt, .inr ⟨_, _, rfl, j26.own_ge 0 rfl, j26.get 0 rfl, hrow24⟩⟩, c2, by rw [hzA, Nat.gcd_zero_left]⟩, hl2⟩⟩
 ·
  subst hlen20
  have j22 := St.adopt j20 (fun o h => Nat.not_lt.2 hge20 (j6.lt _ _ h)) (Nat.le_trans j6.upd.size hge20) hget20
  have q22 := Le.adopt q20 hge20
  refine zB 1 [(17, .slice ad2 l2.length cap2)] A21 kr kr (fun a39 A39 => ?_)
  refine wplI A39 kr (zK (d := 18) (f := 53) (cap := #[]) (vs := #[.slice ad2 l2.length cap2]) A39 kr j22 rfl kr kr (fun w => Try.call53 _ w) (clone_c _ X0 (X0_lt _) _ _ _ l2 ((h2.mono (Le2 q6 q22)).mono Le.x0) (by omega)) ?_)
  rintro v40 w40 j40 q40 hu40 ⟨ad40, len40, cap40, how40⟩ a41 A41
  rcases how40 with ⟨rfl, hlen40, hlt40, ⟨rfl, rfl, rfl⟩ | ⟨g40, cur40, rfl, hge40, hget40, hrow40⟩⟩
  ·
   have hnil40 : l2 = [] := List.eq_nil_of_length_eq_zero hlen40.symm
   have hzB : val l2 = 0 := by rw [hnil40]; rfl
   refine zB 2 [(1, .slice none 0 0), (0, .slice (some ⟨g20, 0, none⟩) l.length cap20)] A41 kr kr (fun a43 A43 => ?_)
   refine zE ?_
   refine zA (C18 _ _ ?_)
   refine zD (fun K44 C44 => ?_)
   refine zD (fun K45 C45 => ?_)
   refine zC ?_
   refine zB 3 [(21, .bool ((l.length : Int) == 0)), (20, .int .i64 (l.length : Int)), (19, .slice (some ⟨g20, 0, none⟩) l.length cap20)] A43 kr kr (fun a46 A46 => ?_)
   refine zE ?_
   refine zA (C45 _ _ ?_)
   refine zS ((l.length : Int) == 0) A46 kr kr (fun hc47 => ?_) (fun hc47 => ?_)
   ·
    have A48 := A46.set 21 (v' := .bool true) kr rfl (zG hc47)
    have ht49 : (l.length : Int) = 0 := by simpa using hc47
    have hzA : val l = 0 := by rw [List.eq_nil_of_length_eq_zero (by omega : l.length = 0)]; rfl
    refine zD (fun K50 C50 => ?_)
    refine zC ?_
    refine zB 3 [(5, .int .i64 0), (4, .slice none 0 0), (22, .slice none 0 0)] A48 kr kr (fun a51 A51 => ?_)
    refine zE ?_
    refine zA (C50 _ _ ?_)
    refine zQ ?_
    refine zL ?_
    refine sc_ret ?_
    refine zR (v := .tuple #[.slice none 0 0, .int .i64 0]) (rs := [.tmp 4, .tmp 5]) A51 kr (Res.tmp kr (Res.tmp kr Res.nil)) kr ?_
    exact ⟨j40.upd, _, rfl, .inr ⟨ht17, _, [], _, _, _, rfl, ⟨⟨rfl, rfl, fun x hx => by simp at hx, .inl ⟨rfl, rfl, rfl⟩⟩, .inl rfl, by rw [hzA, hzB]; rfl⟩, by simp⟩⟩
   have A52 := A46.set 21 (v' := .bool false) kr rfl (zG hc47)
   have ht53 : (l.length : Int) ≠ 0 := by simpa using hc47
   have hposA : 0 < val l := canon_pos c1 (by rintro rfl; simp at ht53)
   refine i_skip ?_
   refine zA (C44 _ _ ?_)
   refine zD (fun K54 C54 => ?_)
   refine zD (fun K55 C55 => ?_)
   refine zC ?_
   refine zB 3 [(25, .bool true), (24, .int .i64 0), (23, .slice none 0 0)] A52 kr kr (fun a56 A56 => ?_)
   refine zE ?_
   refine zA (C55 _ _ ?_)
   refine qG A56 kr kr ?_
   refine zD (fun K57 C57 => ?_)
   refine zC ?_
   refine zB 3 [(5, .int .i64 0), (4, .slice (some ⟨g20, 0, none⟩) l.length cap20), (26, .slice (some ⟨g20, 0, none⟩) l.length cap20)] A56 kr kr (fun a58 A58 => ?_)
   refine zE ?_
   refine zA (C57 _ _ ?_)
   refine zQ ?_
   refine zL ?_
   refine sc_ret ?_
   refine zR (v := .tuple #[.slice (some ⟨g20, 0, none⟩) l.length cap20, .int .i64 0]) (rs := [.tmp 4, .tmp 5]) A58 kr (Res.tmp kr (Res.tmp kr Res.nil)) kr ?_
   exact ⟨j40.upd, _, rfl, .inr ⟨ht17, _, l, _, _, _, rfl, ⟨⟨rfl, rfl, hrow20.lt, .inr ⟨_, _, rfl, j40.own_ge 0 rfl, j40.get 0 rfl, hrow20⟩⟩, c1, by rw [hzB, Nat.gcd_zero_right]⟩, hl1⟩⟩
  ·
   subst hlen40
   have j42 := St.adopt j40 (fun o h => Nat.not_lt.2 hge40 (j22.lt _ _ h)) (Nat.le_trans j22.upd.size hge40) hget40
   have q42 := Le.adopt q40 hge40
   refine zB 2 [(1, .slice (some ⟨g40, 0, none⟩) l2.length cap40), (0, .slice (some ⟨g20, 0, none⟩) l.length cap20)] A41 kr kr (fun a59 A59 => ?_)
   refine zE ?_
   refine zA (C18 _ _ ?_)
   refine zD (fun K60 C60 => ?_)
   refine zD (fun K61 C61 => ?_)
   refine zC ?_
   refine zB 3 [(21, .bool ((l.length : Int) == 0)), (20, .int .i64 (l.length : Int)), (19, .slice (some ⟨g20, 0, none⟩) l.length cap20)] A59 kr kr (fun a62 A62 => ?_)
   refine zE ?_
   refine zA (C61 _ _ ?_)
   refine zS ((l.length : Int) == 0) A62 kr kr (fun hc63 => ?_) (fun hc63 => ?_)
   ·
    have A64 := A62.set 21 (v' := .bool true) kr rfl (zG hc63)
    have ht65 : (l.length : Int) = 0 := by simpa using hc63
    have hzA : val l = 0 := by rw [List.eq_nil_of_length_eq_zero (by omega : l.length = 0)]; rfl
    refine zD (fun K66 C66 => ?_)
    refine zC ?_
    refine zB 3 [(5, .int .i64 0), (4, .slice (some ⟨g40, 0, none⟩) l2.length cap40), (22, .slice (some ⟨g40, 0, none⟩) l2.length cap40)] A64 kr kr (fun a67 A67 => ?_)
    refine zE ?_
    refine zA (C66 _ _ ?_)
    refine zQ ?_
    refine zL ?_
    refine sc_ret ?_
    refine zR (v := .tuple #[.slice (some ⟨g40, 0, none⟩) l2.length cap40, .int .i64 0]) (rs := [.tmp 4, .tmp 5]) A67 kr (Res.tmp kr (Res.tmp kr Res.nil)) kr ?_
    exact ⟨j42.upd, _, rfl, .inr ⟨ht17, _, l2, _, _, _, rfl, ⟨⟨rfl, rfl, hrow40.lt, .inr ⟨_, _, rfl, j42.own_ge 0 rfl, j42.get 0 rfl, hrow40⟩⟩, c2, by rw [hzA, Nat.gcd_zero_left]⟩, hl2⟩⟩
   have A68 := A62.set 21 (v' := .bool false) kr rfl (zG hc63)
   have ht69 : (l.length : Int) ≠ 0 := by simpa using hc63
   have hposA : 0 < val l := canon_pos c1 (by rintro rfl; simp at ht69)
   refine i_skip ?_
   refine zA (C60 _ _ ?_)
   refine zD (fun K70 C70 => ?_)
   refine zD (fun K71 C71 => ?_)
   refine zC ?_
   refine zB 3 [(25, .bool ((l2.length : Int) == 0)), (24, .int .i64 (l2.length : Int)), (23, .slice (some ⟨g40, 0, none⟩) l2.length cap40)] A68 kr kr (fun a72 A72 => ?_)
   refine zE ?_
   refine zA (C71 _ _ ?_)
   refine zS ((l2.length : Int) == 0) A72 kr kr (fun hc73 => ?_) (fun hc73 => ?_)
   ·
    have A74 := A72.set 25 (v' := .bool true) kr rfl (zG hc73)
    have ht75 : (l2.length : Int) = 0 := by simpa using hc73
    have hzB : val l2 = 0 := by rw [List.eq_nil_of_length_eq_zero (by omega : l2.length = 0)]; rfl
    refine zD (fun K76 C76 => ?_)
    refine zC ?_
    refine zB 3 [(5, .int .i64 0), (4, .slice (some ⟨g20, 0, none⟩) l.length cap20), (26, .slice (some ⟨g20, 0, none⟩) l.length cap20)] A74 kr kr (fun a77 A77 => ?_)
    refine zE ?_
    refine zA (C76 _ _ ?_)
    refine zQ ?_
    refine zL ?_
    refine sc_ret ?_
    refine zR (v := .tuple #[.slice (some ⟨g20, 0, none⟩) l.length cap20, .int .i64 0]) (rs := [.tmp 4, .tmp 5]) A77 kr (Res.tmp kr (Res.tmp kr Res.nil)) kr ?_
    exact ⟨j42.upd, _, rfl, .inr ⟨ht17, _, l, _, _, _, rfl, ⟨⟨rfl, rfl, hrow20.lt, .inr ⟨_, _, rfl, j42.own_ge 1 rfl, j42.get 1 rfl, hrow20⟩⟩, c1, by rw [hzB, Nat.gcd_zero_right]⟩, hl1⟩⟩
   have A78 := A72.set 25 (v' := .bool false) kr rfl (zG hc73)
   have ht79 : (l2.length : Int) ≠ 0 := by simpa using hc73
   have hposB : 0 < val l2 := canon_pos c2 (by rintro rfl; simp at ht79)
   refine i_skip ?_
   refine zA (C70 _ _ ?_)
   refine zD (fun K80 C80 => ?_)
   refine zC ?_
   refine zB 1 [(28, .slice (some ⟨g20, 0, none⟩) l.length cap20)] A78 kr kr (fun a81 A81 => ?_)
   refine wplI A81 kr (op_callE (d := 29) (f := 54) (cap := #[]) (vs := #[.slice (some ⟨g20, 0, none⟩) l.length cap20]) 1 A81 kr j42 rfl kr kr (fun w => Try.call54 _ w) rfl (halve_c _ g20 l.length cap20 _ l (j42.get 1 rfl) hrow20 (by omega) c1 hposA) ?_)
   rintro v82 w82 ob82 ⟨k82, cur82, ls82, rfl, hg82, hrow82, hcan82, hval82, hodd82⟩ hob82 j82 q82 a83 A83
   obtain rfl := Option.some.inj (hob82.symm.trans hg82)
   refine zB 5 [(7, .int .i64 ((k82 : Nat) : Int)), (0, .slice (some ⟨g20, 0, none⟩) ls82.length cap20), (31, .int .i64 ((k82 : Nat) : Int)), (30, .slice (some ⟨g20, 0, none⟩) ls82.length cap20), (27, .tuple #[.slice (some ⟨g20, 0, none⟩) ls82.length cap20, .int .i64 ((k82 : Nat) : Int)])] A83 kr kr (fun a84 A84 => ?_)
   refine zE ?_
   refine zA (C80 _ _ ?_)
   refine zD (fun K85 C85 => ?_)
   refine zC ?_
   refine zB 1 [(33, .slice (some ⟨g40, 0, none⟩) l2.length cap40)] A84 kr kr (fun a86 A86 => ?_)
   refine wplI A86 kr (op_callE (d := 34) (f := 54) (cap := #[]) (vs := #[.slice (some ⟨g40, 0, none⟩) l2.length cap40]) 0 A86 kr j82 rfl kr kr (fun w => Try.call54 _ w) rfl (halve_c _ g40 l2.length cap40 _ l2 (j82.get 0 rfl) hrow40 (by omega) c2 hposB) ?_)
   rintro v87 w87 ob87 ⟨k87, cur87, ls87, rfl, hg87, hrow87, hcan87, hval87, hodd87⟩ hob87 j87 q87 a88 A88
   obtain rfl := Option.some.inj (hob87.symm.trans hg87)
   refine zB 5 [(8, .int .i64 ((k87 : Nat) : Int)), (1, .slice (some ⟨g40, 0, none⟩) ls87.length cap40), (36, .int .i64 ((k87 : Nat) : Int)), (35, .slice (some ⟨g40, 0, none⟩) ls87.length cap40), (32, .tuple #[.slice (some ⟨g40, 0, none⟩) ls87.length cap40, .int .i64 ((k87 : Nat) : Int)])] A88 kr kr (fun a89 A89 => ?_)
   refine zE ?_
   refine zA (C85 _ _ ?_)
   refine zD (fun K90 C90 => ?_)
   refine i_label ?_
   refine zA (C90 _ _ ?_)
   refine zD (fun K91 C91 => ?_)
   refine zV ?_
   refine qC (fun (N : Nat) ac w1 => ∃ (Y1 : Hid) (gx : Nat) (gy : Nat) (capx : Nat) (capy : Nat) (curx : Array Value) (cury : Array Value) (lx : List Nat) (ly : List Nat), Fr 63 ac [(0, .slice (some ⟨gx, 0, none⟩) lx.length capx), (1, .slice (some ⟨gy, 0, none⟩) ly.length capy), (7, .int .i64 ((k82 : Nat) : Int)), (8, .int .i64 ((k87 : Nat) : Int))] ∧ St E0 w X w1 Y1 [(gy, .cells cury 93 (0, 0)), (gx, .cells curx 93 (0, 0))] ∧ Le (rd w87 (hide g40 (hide g20 X))) (rd w1 Y1) ∧ (URow lx.length capx curx lx) ∧ (URow ly.length capy cury ly) ∧ (Canon lx) ∧ (Canon ly) ∧ (val lx % 2 = 1) ∧ (val ly % 2 = 1) ∧ (Nat.gcd (val lx) (val ly) = Nat.gcd (val ls82) (val ls87)) ∧ (val lx + val ly = N) ∧ (lx.length ≤ 512) ∧ (ly.length ≤ 512)) (fun (N : Nat) => N) (val ls82 + val ls87) ?_ ?_
   ·
    refine ⟨_, g20, g40, cap20, cap40, cur82, cur87, ls82, ls87, A89.as [0, 1, 7, 8] kr kr, j87, Le.refl _, hrow82, hrow87, hcan82, hcan87, hodd82, hodd87, rfl, rfl, Nat.le_trans (canon_len h.hlt hcan82 (by have := Nat.le_mul_of_pos_right (val ls82) (Nat.two_pow_pos k82); omega)) hl1, Nat.le_trans (canon_len h2.hlt hcan87 (by have := Nat.le_mul_of_pos_right (val ls87) (Nat.two_pow_pos k87); omega)) hl2⟩
   rintro N a92 w92 ⟨Y92, gx, gy, capx, capy, curx, cury, lx, ly, A92, j92, q92, hp92_0, hp92_1, hp92_2, hp92_3, hp92_4, hp92_5, hp92_6, hp92_7, hp92_8, hp92_9⟩
   have hrowx := hp92_0
   have hrowy := hp92_1
   have hcanx := hp92_2
   have hcany := hp92_3
   have hoddx := hp92_4
   have hoddy := hp92_5
   have hg0 := hp92_6
   have hN := hp92_7
   have hlx := hp92_8
   have hly := hp92_9
   refine zV ?_
   refine zD (fun K93 C93 => ?_)
   refine zD (fun K94 C94 => ?_)
   refine zC ?_
   refine zB 2 [(38, .slice (some ⟨gy, 0, none⟩) ly.length capy), (37, .slice (some ⟨gx, 0, none⟩) lx.length capx)] A92 kr kr (fun a95 A95 => ?_)
   refine wplI A95 kr (zK (d := 39) (f := 55) (cap := #[]) (vs := #[.slice (some ⟨gx, 0, none⟩) lx.length capx, .slice (some ⟨gy, 0, none⟩) ly.length capy]) A95 kr j92 rfl kr kr (fun w => Try.call55 _ w) (order_c _ X0 (X0_lt _) _ _ _ lx (URow.limbs (Y := X0) hrowx (j92.get 1 rfl) (fun _ h => h.elim)) _ _ _ ly (URow.limbs (Y := X0) hrowy (j92.get 0 rfl) (fun _ h => h.elim)) hcanx hcany (by omega)) ?_)
   rintro v96 w96 j96 q96 hu96 rfl a97 A97
   refine zE ?_
   refine zA (C94 _ _ ?_)
   refine zV ?_
   refine zD (fun K98 C98 => ?_)
   refine zC ?_
   refine zB 2 [(40, .bool ((cmpI (val lx) (val ly)) == 0)), (41, .bool ((cmpI (val lx) (val ly)) == 0))] A97 kr kr (fun a99 A99 => ?_)
   refine zE ?_
   refine zA (C98 _ _ ?_)
   refine zS ((cmpI (val lx) (val ly)) == 0) A99 kr kr (fun hc100 => ?_) (fun hc100 => ?_)
   ·
    have A101 := A99.set 40 (v' := .bool true) kr rfl (zG hc100)
    have ht102 : (cmpI (val lx) (val ly)) = 0 := by simpa using hc100
    have hxy := cmpI_nat_eq ht102
    refine i_exit ?_
    refine blk_past kr ?_
    refine zT ?_
    refine blk_past kr ?_
    refine zT ?_
    refine qA ?_
    refine zA (C91 _ _ ?_)
    refine zD (fun K103 C103 => ?_)
    refine zD (fun K104 C104 => ?_)
    refine zC ?_
    refine zB 3 [(56, .int .i64 (if ((k87 : Nat) : Int) < ((k82 : Nat) : Int) then ((k87 : Nat) : Int) else ((k82 : Nat) : Int))), (55, .int .i64 ((k87 : Nat) : Int)), (54, .int .i64 ((k82 : Nat) : Int))] A101 kr kr (fun a105 A105 => ?_)
    have A106 := A105.set 56 (v' := .int .i64 ((min k82 k87 : Nat) : Int)) kr rfl (vint (by split <;> omega))
    refine zB 1 [(57, .int .i64 0)] A106 kr kr (fun a107 A107 => ?_)
    refine zE ?_
    refine zA (C104 _ _ ?_)
    refine zV ?_
    have hgab := gcd_pow2 hodd82 hodd87 hval82 hval87
    rw [← hg0, ← hxy, Nat.gcd_self] at hgab
    have hgle : Nat.gcd (val l) (val l2) ≤ val l := Nat.gcd_le_left _ hposA
    refine qC (fun (i : Nat) ac w1 => ∃ (Y1 : Hid) (gd : Nat) (capd : Nat) (curd : Array Value) (ld : List Nat), Fr 63 ac [(0, .slice (some ⟨gd, 0, none⟩) ld.length capd), (56, .int .i64 ((min k82 k87 : Nat) : Int)), (57, .int .i64 (i : Int))] ∧ St E0 w X w1 Y1 [(gd, .cells curd 93 (0, 0))] ∧ Le (rd w96 Y92) (rd w1 Y1) ∧ (URow ld.length capd curd ld) ∧ (Canon ld) ∧ (val ld = val lx * 2 ^ i) ∧ (i ≤ min k82 k87)) (fun (i : Nat) => min k82 k87 - i) 0 ?_ ?_
    ·
     refine ⟨_, gx, capx, curx, lx, A107.as [0, 56, 57] kr kr, j96.tail, Le.refl _, hrowx, hcanx, by simp, Nat.zero_le _⟩
    rintro i a108 w108 ⟨Y108, gd, capd, curd, ld, A108, j108, q108, hp108_0, hp108_1, hp108_2, hp108_3⟩
    have hrowd := hp108_0
    have hcand := hp108_1
    have hvald := hp108_2
    have hik := hp108_3
    have hb1 : val lx * 2 ^ i ≤ val lx * 2 ^ (min k82 k87) := Nat.mul_le_mul_left _ (Nat.pow_le_pow_right (by omega) hik)
    have hb2 := canon_len h.hlt hcand (by omega : val ld ≤ val l)
    have hb3 : 0 < ld.length := by rcases Nat.eq_zero_or_pos ld.length with e | e; rw [List.eq_nil_of_length_eq_zero e] at hvald; have := Nat.mul_pos (by omega : 0 < val lx) (Nat.two_pow_pos i); simp only [val] at hvald; omega; exact e
    obtain ⟨_, hkb⟩ := two_pow_lt hval82 (by omega) (val_lt h.hlt)
    refine zD (fun K109 C109 => ?_)
    refine zC ?_
    refine zB 1 [(58, .bool (decide ((i : Int) < ((min k82 k87 : Nat) : Int))))] A108 kr kr (fun a110 A110 => ?_)
    refine zE ?_
    refine zA (C109 _ _ ?_)
    refine zD (fun K111 C111 => ?_)
    refine zS (decide ((i : Int) < ((min k82 k87 : Nat) : Int))) A110 kr kr (fun hc112 => ?_) (fun hc112 => ?_)
    ·
     have A113 := A110.set 58 (v' := .bool true) kr rfl (zG hc112)
     have ht114 : (i : Int) < ((min k82 k87 : Nat) : Int) := of_decide_eq_true hc112
     refine i_skip ?_
     refine zA (C111 _ _ ?_)
     refine zD (fun K115 C115 => ?_)
     refine zV ?_
     refine zC ?_
     refine zB 1 [(59, .slice (some ⟨gd, 0, none⟩) ld.length capd)] A113 kr kr (fun a116 A116 => ?_)
     refine wplI A116 kr (op_callG (d := 60) (f := 57) (cap := #[]) (vs := #[.slice (some ⟨gd, 0, none⟩) ld.length capd, .int .u32 0]) 0 A116 kr j108 rfl kr kr (fun w => Try.call57 _ w) rfl (double_c _ gd ld.length capd _ ld (j108.get 0 rfl) hrowd (by omega) hcand 0 (by omega)) ?_)
     rintro v117 w117 Y117 g117 o117 ⟨cur117, cap117, ls117, rfl, rfl, hrow117, hlen117, hcan117, hval117⟩ j117 q117 a118 A118
     refine zB 1 [(0, .slice (some ⟨g117, 0, none⟩) ls117.length cap117)] A118 kr kr (fun a119 A119 => ?_)
     refine zE ?_
     refine zW ?_
     refine zA (C115 _ _ ?_)
     refine zC ?_
     refine zB 1 [(61, .int .i64 (IntKind.i64.wrap ((i : Int) + 1)))] A119 kr kr (fun a120 A120 => ?_)
     have A121 := A120.set 61 (v' := .int .i64 ((i : Int) + 1)) kr rfl (vint (wi64 (by omega) (by omega)))
     refine zB 1 [(57, .int .i64 ((i : Int) + 1))] A121 kr kr (fun a122 A122 => ?_)
     refine zE ?_
     refine zA ?_
     refine ⟨i + 1, ⟨_, g117, cap117, cur117, ls117, A122.as [0, 56, 57] kr kr, j117, (Le2 q108 q117), hrow117, hcan117, by rw [hval117, hvald, Nat.pow_succ]; simp only [Nat.add_zero]; ac_rfl, by omega⟩, ?_⟩
     first | omega | (simp; omega)
    have A123 := A110.set 58 (v' := .bool false) kr rfl (zG hc112)
    have ht124 : ¬ ((i : Int) < ((min k82 k87 : Nat) : Int)) := of_decide_eq_false hc112
    refine i_exit ?_
    refine zT ?_
    refine zT ?_
    refine qA ?_
    refine zA (C103 _ _ ?_)
    refine zD (fun K125 C125 => ?_)
    refine zC ?_
    refine zB 3 [(5, .int .i64 0), (4, .slice (some ⟨gd, 0, none⟩) ld.length capd), (62, .slice (some ⟨gd, 0, none⟩) ld.length capd)] A123 kr kr (fun a126 A126 => ?_)
    refine zE ?_
    refine zA (C125 _ _ ?_)
    refine zQ ?_
    refine sc_ret ?_
    refine zR (v := .tuple #[.slice (some ⟨gd, 0, none⟩) ld.length capd, .int .i64 0]) (rs := [.tmp 4, .tmp 5]) A126 kr (Res.tmp kr (Res.tmp kr Res.nil)) kr ?_
    exact ⟨j108.upd, _, rfl, .inr ⟨ht17, _, ld, _, _, _, rfl, ⟨⟨rfl, rfl, hrowd.lt, .inr ⟨_, _, rfl, j108.own_ge 0 rfl, j108.get 0 rfl, hrowd⟩⟩, hcand, by rw [hvald, ← hgab]; congr 2; omega⟩, by omega⟩⟩
   have A127 := A99.set 40 (v' := .bool false) kr rfl (zG hc100)
   have ht128 : (cmpI (val lx) (val ly)) ≠ 0 := by simpa using hc100
   refine zD (fun K129 C129 => ?_)
   refine zC ?_
   refine zB 2 [(42, .bool ((cmpI (val lx) (val ly)) == (-1))), (43, .bool ((cmpI (val lx) (val ly)) == (-1)))] A127 kr kr (fun a130 A130 => ?_)
   refine zE ?_
   refine zA (C129 _ _ ?_)
   refine zS ((cmpI (val lx) (val ly)) == (-1)) A130 kr kr (fun hc131 => ?_) (fun hc131 => ?_)
   ·
    have A132 := A130.set 42 (v' := .bool true) kr rfl (zG hc131)
    have ht133 : (cmpI (val lx) (val ly)) = (-1) := by simpa using hc131
    have hcmp := cmpI_m1 ht133
    refine zC ?_
    refine zB 4 [(1, .slice (some ⟨gx, 0, none⟩) lx.length capx), (0, .slice (some ⟨gy, 0, none⟩) ly.length capy), (45, .slice (some ⟨gx, 0, none⟩) lx.length capx), (44, .slice (some ⟨gy, 0, none⟩) ly.length capy)] A132 kr kr (fun a134 A134 => ?_)
    refine zE ?_
    refine zW ?_
    refine zA (C93 _ _ ?_)
    refine zD (fun K135 C135 => ?_)
    refine zC ?_
    refine zB 2 [(47, .slice (some ⟨gx, 0, none⟩) lx.length capx), (46, .slice (some ⟨gy, 0, none⟩) ly.length capy)] A134 kr kr (fun a136 A136 => ?_)
    refine wplI A136 kr (op_callE (d := 48) (f := 56) (cap := #[]) (vs := #[.slice (some ⟨gy, 0, none⟩) ly.length capy, .slice (some ⟨gx, 0, none⟩) lx.length capx]) 0 A136 kr j96 rfl kr kr (fun w => Try.call56 _ w) rfl (subtract_c _ gy ly.length capy _ ly (j96.get 0 rfl) hrowy (by omega) _ _ _ lx (URow.limbs (Y := HG gy) hrowx (j96.get 1 rfl) (fun o h => j96.ne (i := 1) (j := 0) rfl rfl (by decide) h)) (canon_len hrowy.lt hcanx (by omega)) (by omega)) ?_)
    rintro v137 w137 ob137 ⟨cur137, ls137, rfl, hg137, hrow137, hcan137, hval137⟩ hob137 j137 q137 a138 A138
    obtain rfl := Option.some.inj (hob137.symm.trans hg137)
    refine zB 1 [(0, .slice (some ⟨gy, 0, none⟩) ls137.length capy)] A138 kr kr (fun a139 A139 => ?_)
    refine zE ?_
    refine zA (C135 _ _ ?_)
    refine zC ?_
    refine zB 1 [(50, .slice (some ⟨gy, 0, none⟩) ls137.length capy)] A139 kr kr (fun a140 A140 => ?_)
    have hz0 := canon_len hrowy.lt hcan137 (by omega : val ls137 ≤ val ly)
    refine wplI A140 kr (op_callE (d := 51) (f := 54) (cap := #[]) (vs := #[.slice (some ⟨gy, 0, none⟩) ls137.length capy]) 0 A140 kr j137 rfl kr kr (fun w => Try.call54 _ w) rfl (halve_c _ gy ls137.length capy _ ls137 (j137.get 0 rfl) hrow137 (by omega) hcan137 (by omega)) ?_)
    rintro v141 w141 ob141 ⟨k141, cur141, ls141, rfl, hg141, hrow141, hcan141, hval141, hodd141⟩ hob141 j141 q141 a142 A142
    obtain rfl := Option.some.inj (hob141.symm.trans hg141)
    refine zB 4 [(0, .slice (some ⟨gy, 0, none⟩) ls141.length capy), (53, .int .i64 ((k141 : Nat) : Int)), (52, .slice (some ⟨gy, 0, none⟩) ls141.length capy), (49, .tuple #[.slice (some ⟨gy, 0, none⟩) ls141.length capy, .int .i64 ((k141 : Nat) : Int)])] A142 kr kr (fun a143 A143 => ?_)
    refine zE ?_
    refine zW ?_
    refine zA ?_
    have hz1 : val ls141 * 2 ^ k141 = val ly - val lx := hval141.trans hval137
    have hz2 : val ls141 ≤ val ls141 * 2 ^ k141 := Nat.le_mul_of_pos_right _ (Nat.two_pow_pos _)
    have hz3 := gcd_step hoddx (by omega) hz1
    have hz4 := canon_len hrowy.lt hcan141 (by omega : val ls141 ≤ val ly)
    refine ⟨(val ls141 + val lx), ⟨_, gy, gx, capy, capx, cur141, curx, ls141, lx, A143.as [0, 1, 7, 8] kr kr, j141.swap, (Le4 q92 q96 q137 q141), hrow141, hrowx, hcan141, hcanx, hodd141, hoddx, by rw [hz3]; rw [Nat.gcd_comm]; exact hg0, rfl, by omega, by omega⟩, ?_⟩
    first | omega | (simp; omega)
   have A144 := A130.set 42 (v' := .bool false) kr rfl (zG hc131)
   have ht145 : (cmpI (val lx) (val ly)) ≠ (-1) := by simpa using hc131
   have hcmp := cmpI_n ht128 ht145
   refine i_skip ?_
   refine zW ?_
   refine zA (C93 _ _ ?_)
   refine zD (fun K146 C146 => ?_)
   refine zC ?_
   refine zB 2 [(47, .slice (some ⟨gy, 0, none⟩) ly.length capy), (46, .slice (some ⟨gx, 0, none⟩) lx.length capx)] A144 kr kr (fun a147 A147 => ?_)
   refine wplI A147 kr (op_callE (d := 48) (f := 56) (cap := #[]) (vs := #[.slice (some ⟨gx, 0, none⟩) lx.length capx, .slice (some ⟨gy, 0, none⟩) ly.length capy]) 1 A147 kr j96 rfl kr kr (fun w => Try.call56 _ w) rfl (subtract_c _ gx lx.length capx _ lx (j96.get 1 rfl) hrowx (by omega) _ _ _ ly (URow.limbs (Y := HG gx) hrowy (j96.get 0 rfl) (fun o h => j96.ne (i := 0) (j := 1) rfl rfl (by decide) h)) (canon_len hrowx.lt hcany (by omega)) (by omega)) ?_)
   rintro v148 w148 ob148 ⟨cur148, ls148, rfl, hg148, hrow148, hcan148, hval148⟩ hob148 j148 q148 a149 A149
   obtain rfl := Option.some.inj (hob148.symm.trans hg148)
   refine zB 1 [(0, .slice (some ⟨gx, 0, none⟩) ls148.length capx)] A149 kr kr (fun a150 A150 => ?_)
   refine zE ?_
   refine zA (C146 _ _ ?_)
   refine zC ?_
   refine zB 1 [(50, .slice (some ⟨gx, 0, none⟩) ls148.length capx)] A150 kr kr (fun a151 A151 => ?_)
   have hz0 := canon_len hrowx.lt hcan148 (by omega : val ls148 ≤ val lx)
   refine wplI A151 kr (op_callE (d := 51) (f := 54) (cap := #[]) (vs := #[.slice (some ⟨gx, 0, none⟩) ls148.length capx]) 1 A151 kr j148 rfl kr kr (fun w => Try.call54 _ w) rfl (halve_c _ gx ls148.length capx _ ls148 (j148.get 1 rfl) hrow148 (by omega) hcan148 (by omega)) ?_)
   rintro v152 w152 ob152 ⟨k152, cur152, ls152, rfl, hg152, hrow152, hcan152, hval152, hodd152⟩ hob152 j152 q152 a153 A153
   obtain rfl := Option.some.inj (hob152.symm.trans hg152)
   refine zB 4 [(0, .slice (some ⟨gx, 0, none⟩) ls152.length capx), (53, .int .i64 ((k152 : Nat) : Int)), (52, .slice (some ⟨gx, 0, none⟩) ls152.length capx), (49, .tuple #[.slice (some ⟨gx, 0, none⟩) ls152.length capx, .int .i64 ((k152 : Nat) : Int)])] A153 kr kr (fun a154 A154 => ?_)
   refine zE ?_
   refine zW ?_
   refine zA ?_
   have hz1 : val ls152 * 2 ^ k152 = val lx - val ly := hval152.trans hval148
   have hz2 : val ls152 ≤ val ls152 * 2 ^ k152 := Nat.le_mul_of_pos_right _ (Nat.two_pow_pos _)
   have hz3 := gcd_step hoddy (by omega) hz1
   have hz4 := canon_len hrowx.lt hcan152 (by omega : val ls152 ≤ val lx)
   refine ⟨(val ls152 + val ly), ⟨_, gx, gy, capx, capy, cur152, cury, ls152, ly, A154.as [0, 1, 7, 8] kr kr, j152, (Le4 q92 q96 q148 q152), hrow152, hrowy, hcan152, hcany, hodd152, hoddy, by rw [hz3]; exact hg0, rfl, by omega, by omega⟩, ?_⟩
   first | omega | (simp; omega)
end Go.Proofs.Ytoocgllbbihoaaa
namespace Go.Proofs.Ytoocgllbbihoaaa
open Go Go.Gv Go.RowKit
set_option maxRecDepth 100000
set_option maxHeartbeats 1000000
def len8 : ByteArray := ⟨#[0, 1, 2, 2, 3, 3, 3, 3, 4, 4, 4, 4, 4, 4, 4, 4, 5, 5, 5, 5, 5, 5, 5, 5, 5, 5, 5, 5, 5, 5, 5, 5, 6, 6, 6, 6, 6, 6, 6, 6, 6, 6, 6, 6, 6, 6, 6, 6, 6, 6, 6, 6, 6, 6, 6, 6, 6, 6, 6, 6, 6, 6, 6, 6, 7, 7, 7, 7, 7, 7, 7, 7, 7, 7, 7, 7, 7, 7, 7, 7, 7, 7, 7, 7, 7, 7, 7, 7, 7, 7, 7, 7, 7, 7, 7, 7, 7, 7, 7, 7, 7, 7, 7, 7, 7, 7, 7, 7, 7, 7, 7, 7, 7, 7, 7, 7, 7, 7, 7, 7, 7, 7, 7, 7, 7, 7, 7, 7, 8, 8, 8, 8, 8, 8, 8, 8, 8, 8, 8, 8, 8, 8, 8, 8, 8, 8, 8, 8, 8, 8, 8, 8, 8, 8, 8, 8, 8, 8, 8, 8, 8, 8, 8, 8, 8, 8, 8, 8, 8, 8, 8, 8, 8, 8, 8, 8, 8, 8, 8, 8, 8, 8, 8, 8, 8, 8, 8, 8, 8, 8, 8, 8, 8, 8, 8, 8, 8, 8, 8, 8, 8, 8, 8, 8, 8, 8, 8, 8, 8, 8, 8, 8, 8, 8, 8, 8, 8, 8, 8, 8, 8, 8, 8, 8, 8, 8, 8, 8, 8, 8, 8, 8, 8, 8, 8, 8, 8, 8, 8, 8, 8, 8, 8, 8, 8, 8, 8, 8, 8, 8, 8, 8, 8, 8, 8, 8]⟩
theorem len8_data : ∀ n, n < 256 → (len8.data[n]?.isSome = true) ∧ n < 2 ^ (len8.data[n]?.getD 0).toNat ∧ (len8.data[n]?.getD 0).toNat ≤ 8 := by decide +kernel
theorem len8_ok (n : Nat) (h : n < 256) : ∃ b : UInt8, len8[n]? = some b ∧ n < 2 ^ b.toNat ∧ b.toNat ≤ 8 := by
  obtain ⟨h1, h2, h3⟩ := len8_data n h
  obtain ⟨b, hb⟩ := Option.isSome_iff_exists.1 h1
  rw [hb] at h2 h3
  refine ⟨b, ?_, h2, h3⟩
  obtain ⟨h4, h5⟩ := Array.getElem?_eq_some_iff.1 hb
  have h6 : n < len8.size := h4
  rw [getElem?_pos len8 n h6]
  exact congrArg some h5
theorem len32_c (w : World) (X : Hid) (hX : ∀ k o, X k o → k < w.heap.size) (x : Nat) (hx : x < 4294967296) : Calls Try.prog 88 #[.int .u32 (x : Int)] w (Ret E0 w fun _ v => ∃ r : Nat, v = .int .i64 (r : Int) ∧ x < 2 ^ r ∧ r ≤ 32) := by
 refine zZ (n := 19) (vs := [.int .u32 (x : Int)]) Try.func88 rfl rfl rfl kr (fun a0 A0 => ?_)
 have A0 : Fr 19 a0 [(0, .int .u32 (x : Int))] := A0
 have j0 : St E0 w X w X [] := St.start hX
 refine zD (fun K1 C1 => ?_)
 refine zC ?_
 refine zB 1 [(2, .int .i64 0)] A0 kr kr (fun a2 A2 => ?_)
 refine zE ?_
 refine zA (C1 _ _ ?_)
 refine zD (fun K3 C3 => ?_)
 refine zD (fun K4 C4 => ?_)
 refine zC ?_
 refine zB 2 [(4, .bool (decide ((x : Int) ≥ 65536))), (3, .int .u32 (x : Int))] A2 kr kr (fun a5 A5 => ?_)
 refine zE ?_
 refine zA (C4 _ _ ?_)
 refine zS (decide ((x : Int) ≥ 65536)) A5 kr kr (fun hc6 => ?_) (fun hc6 => ?_)
 ·
  have A7 := A5.set 4 (v' := .bool true) kr rfl (zG hc6)
  have ht8 : (x : Int) ≥ 65536 := of_decide_eq_true hc6
  refine zD (fun K9 C9 => ?_)
  refine zC ?_
  refine zB 2 [(6, .int .u32 (Int.fdiv ((x : Int)) (2 ^ 16))), (5, .int .u32 (x : Int))] A7 kr kr (fun a10 A10 => ?_)
  have A11 := A10.set 6 (v' := .int .u32 ((x / 65536 : Nat) : Int)) kr rfl (vint (by rw [fdiv_pow _ 16 (c := 65536) (by decide) (by decide)]; omega))
  refine zB 1 [(0, .int .u32 ((x / 65536 : Nat) : Int))] A11 kr kr (fun a12 A12 => ?_)
  refine zE ?_
  refine zA (C9 _ _ ?_)
  refine zC ?_
  refine zB 1 [(2, .int .i64 16)] A12 kr kr (fun a13 A13 => ?_)
  refine zE ?_
  refine zA (C3 _ _ ?_)
  refine zD (fun K14 C14 => ?_)
  refine zD (fun K15 C15 => ?_)
  refine zC ?_
  refine zB 2 [(8, .bool (decide (((x / 65536 : Nat) : Int) ≥ 256))), (7, .int .u32 ((x / 65536 : Nat) : Int))] A13 kr kr (fun a16 A16 => ?_)
  refine zE ?_
  refine zA (C15 _ _ ?_)
  refine zS (decide (((x / 65536 : Nat) : Int) ≥ 256)) A16 kr kr (fun hc17 => ?_) (fun hc17 => ?_)
  ·
   have A18 := A16.set 8 (v' := .bool true) kr rfl (zG hc17)
   have ht19 : ((x / 65536 : Nat) : Int) ≥ 256 := of_decide_eq_true hc17
   refine zD (fun K20 C20 => ?_)
   refine zC ?_
   refine zB 2 [(10, .int .u32 (Int.fdiv (((x / 65536 : Nat) : Int)) (2 ^ 8))), (9, .int .u32 ((x / 65536 : Nat) : Int))] A18 kr kr (fun a21 A21 => ?_)
   have A22 := A21.set 10 (v' := .int .u32 ((x / 65536 / 256 : Nat) : Int)) kr rfl (vint (by rw [fdiv_pow _ 8 (c := 256) (by decide) (by decide)]; omega))
   refine zB 1 [(0, .int .u32 ((x / 65536 / 256 : Nat) : Int))] A22 kr kr (fun a23 A23 => ?_)
   refine zE ?_
   refine zA (C20 _ _ ?_)
   refine zC ?_
   refine zB 3 [(2, .int .i64 24), (12, .int .i64 24), (11, .int .i64 16)] A23 kr kr (fun a24 A24 => ?_)
   refine zE ?_
   refine zA (C14 _ _ ?_)
   refine zD (fun K25 C25 => ?_)
   refine zC ?_
   refine zB 3 [(15, .int .u8 (IntKind.u8.wrap (((x / 65536 / 256 : Nat) : Int)))), (14, .int .u32 ((x / 65536 / 256 : Nat) : Int)), (13, .int .i64 24)] A24 kr kr (fun a26 A26 => ?_)
   have A27 := A26.set 15 (v' := .int .u8 ((x / 65536 / 256 : Nat) : Int)) kr rfl (vint (wu8 (by omega) (by omega)))
   obtain ⟨b8, hb8, hb2, hb3⟩ := len8_ok (x / 65536 / 256) (by omega)
   refine wplI A27 kr (zJ (d := 16) (v := .int .u8 ((b8.toNat : Nat) : Int)) A27 kr (run_strAt (s := len8) (i := (x / 65536 / 256)) rfl kr rfl rfl hb8) ?_)
   intro a28 A28
   refine zB 1 [(17, .int .i64 (IntKind.i64.wrap (((b8.toNat : Nat) : Int))))] A28 kr kr (fun a29 A29 => ?_)
   have A30 := A29.set 17 (v' := .int .i64 ((b8.toNat : Nat) : Int)) kr rfl (vint (wi64 (by omega) (by omega)))
   refine zB 1 [(18, .int .i64 (IntKind.i64.wrap ((24 : Int) + ((b8.toNat : Nat) : Int))))] A30 kr kr (fun a31 A31 => ?_)
   have A32 := A31.set 18 (v' := .int .i64 ((24 : Int) + ((b8.toNat : Nat) : Int))) kr rfl (vint (wi64 (by omega) (by omega)))
   refine zB 1 [(2, .int .i64 ((24 : Int) + ((b8.toNat : Nat) : Int)))] A32 kr kr (fun a33 A33 => ?_)
   refine zE ?_
   refine zA (C25 _ _ ?_)
   refine zQ ?_
   refine zR (v := .int .i64 ((24 : Int) + ((b8.toNat : Nat) : Int))) (rs := [.tmp 2]) A33 kr (Res.tmp kr Res.nil) kr ?_
   refine ⟨j0.upd, _, rfl, 24 + b8.toNat, vint (by omega), ?_, by omega⟩
   rw [Nat.pow_add]; generalize 2 ^ b8.toNat = t at *; omega
  have A34 := A16.set 8 (v' := .bool false) kr rfl (zG hc17)
  have ht35 : ¬ (((x / 65536 : Nat) : Int) ≥ 256) := of_decide_eq_false hc17
  refine i_skip ?_
  refine zA (C14 _ _ ?_)
  refine zD (fun K36 C36 => ?_)
  refine zC ?_
  refine zB 3 [(15, .int .u8 (IntKind.u8.wrap (((x / 65536 : Nat) : Int)))), (14, .int .u32 ((x / 65536 : Nat) : Int)), (13, .int .i64 16)] A34 kr kr (fun a37 A37 => ?_)
  have A38 := A37.set 15 (v' := .int .u8 ((x / 65536 : Nat) : Int)) kr rfl (vint (wu8 (by omega) (by omega)))
  obtain ⟨b8, hb8, hb2, hb3⟩ := len8_ok (x / 65536) (by omega)
  refine wplI A38 kr (zJ (d := 16) (v := .int .u8 ((b8.toNat : Nat) : Int)) A38 kr (run_strAt (s := len8) (i := (x / 65536)) rfl kr rfl rfl hb8) ?_)
  intro a39 A39
  refine zB 1 [(17, .int .i64 (IntKind.i64.wrap (((b8.toNat : Nat) : Int))))] A39 kr kr (fun a40 A40 => ?_)
  have A41 := A40.set 17 (v' := .int .i64 ((b8.toNat : Nat) : Int)) kr rfl (vint (wi64 (by omega) (by omega)))
  refine zB 1 [(18, .int .i64 (IntKind.i64.wrap ((16 : Int) + ((b8.toNat : Nat) : Int))))] A41 kr kr (fun a42 A42 => ?_)
  have A43 := A42.set 18 (v' := .int .i64 ((16 : Int) + ((b8.toNat : Nat) : Int))) kr rfl (vint (wi64 (by omega) (by omega)))
  refine zB 1 [(2, .int .i64 ((16 : Int) + ((b8.toNat : Nat) : Int)))] A43 kr kr (fun a44 A44 => ?_)
  refine zE ?_
  refine zA (C36 _ _ ?_)
  refine zQ ?_
  refine zR (v := .int .i64 ((16 : Int) + ((b8.toNat : Nat) : Int))) (rs := [.tmp 2]) A44 kr (Res.tmp kr Res.nil) kr ?_
  refine ⟨j0.upd, _, rfl, 16 + b8.toNat, vint (by omega), ?_, by omega⟩
  rw [Nat.pow_add]; generalize 2 ^ b8.toNat = t at *; omega
 have A45 := A5.set 4 (v' := .bool false) kr rfl (zG hc6)
 have ht46 : ¬ ((x : Int) ≥ 65536) := of_decide_eq_false hc6
 refine i_skip ?_
 refine zA (C3 _ _ ?_)
 refine zD (fun K47 C47 => ?_)
 refine zD (fun K48 C48 => ?_)
 refine zC ?_
 refine zB 2 [(8, .bool (decide ((x : Int) ≥ 256))), (7, .int .u32 (x : Int))] A45 kr kr (fun a49 A49 => ?_)
 refine zE ?_
 refine zA (C48 _ _ ?_)
 refine zS (decide ((x : Int) ≥ 256)) A49 kr kr (fun hc50 => ?_) (fun hc50 => ?_)
 ·
  have A51 := A49.set 8 (v' := .bool true) kr rfl (zG hc50)
  have ht52 : (x : Int) ≥ 256 := of_decide_eq_true hc50
  refine zD (fun K53 C53 => ?_)
  refine zC ?_
  refine zB 2 [(10, .int .u32 (Int.fdiv ((x : Int)) (2 ^ 8))), (9, .int .u32 (x : Int))] A51 kr kr (fun a54 A54 => ?_)
  have A55 := A54.set 10 (v' := .int .u32 ((x / 256 : Nat) : Int)) kr rfl (vint (by rw [fdiv_pow _ 8 (c := 256) (by decide) (by decide)]; omega))
  refine zB 1 [(0, .int .u32 ((x / 256 : Nat) : Int))] A55 kr kr (fun a56 A56 => ?_)
  refine zE ?_
  refine zA (C53 _ _ ?_)
  refine zC ?_
  refine zB 3 [(2, .int .i64 8), (12, .int .i64 8), (11, .int .i64 0)] A56 kr kr (fun a57 A57 => ?_)
  refine zE ?_
  refine zA (C47 _ _ ?_)
  refine zD (fun K58 C58 => ?_)
  refine zC ?_
  refine zB 3 [(15, .int .u8 (IntKind.u8.wrap (((x / 256 : Nat) : Int)))), (14, .int .u32 ((x / 256 : Nat) : Int)), (13, .int .i64 8)] A57 kr kr (fun a59 A59 => ?_)
  have A60 := A59.set 15 (v' := .int .u8 ((x / 256 : Nat) : Int)) kr rfl (vint (wu8 (by omega) (by omega)))
  obtain ⟨b8, hb8, hb2, hb3⟩ := len8_ok (x / 256) (by omega)
  refine wplI A60 kr (zJ (d := 16) (v := .int .u8 ((b8.toNat : Nat) : Int)) A60 kr (run_strAt (s := len8) (i := (x / 256)) rfl kr rfl rfl hb8) ?_)
  intro a61 A61
  refine zB 1 [(17, .int .i64 (IntKind.i64.wrap (((b8.toNat : Nat) : Int))))] A61 kr kr (fun a62 A62 => ?_)
  have A63 := A62.set 17 (v' := .int .i64 ((b8.toNat : Nat) : Int)) kr rfl (vint (wi64 (by omega) (by omega)))
  refine zB 1 [(18, .int .i64 (IntKind.i64.wrap ((8 : Int) + ((b8.toNat : Nat) : Int))))] A63 kr kr (fun a64 A64 => ?_)
  have A65 := A64.set 18 (v' := .int .i64 ((8 : Int) + ((b8.toNat : Nat) : Int))) kr rfl (vint (wi64 (by omega) (by omega)))
  refine zB 1 [(2, .int .i64 ((8 : Int) + ((b8.toNat : Nat) : Int)))] A65 kr kr (fun a66 A66 => ?_)
  refine zE ?_
  refine zA (C58 _ _ ?_)
  refine zQ ?_
  refine zR (v := .int .i64 ((8 : Int) + ((b8.toNat : Nat) : Int))) (rs := [.tmp 2]) A66 kr (Res.tmp kr Res.nil) kr ?_
  refine ⟨j0.upd, _, rfl, 8 + b8.toNat, vint (by omega), ?_, by omega⟩
  rw [Nat.pow_add]; generalize 2 ^ b8.toNat = t at *; omega
 have A67 := A49.set 8 (v' := .bool false) kr rfl (zG hc50)
 have ht68 : ¬ ((x : Int) ≥ 256) := of_decide_eq_false hc50
 refine i_skip ?_
 refine zA (C47 _ _ ?_)
 refine zD (fun K69 C69 => ?_)
 refine zC ?_
 refine zB 3 [(15, .int .u8 (IntKind.u8.wrap ((x : Int)))), (14, .int .u32 (x : Int)), (13, .int .i64 0)] A67 kr kr (fun a70 A70 => ?_)
 have A71 := A70.set 15 (v' := .int .u8 ((x : Nat) : Int)) kr rfl (vint (wu8 (by omega) (by omega)))
 obtain ⟨b8, hb8, hb2, hb3⟩ := len8_ok (x) (by omega)
 refine wplI A71 kr (zJ (d := 16) (v := .int .u8 ((b8.toNat : Nat) : Int)) A71 kr (run_strAt (s := len8) (i := x) rfl kr rfl rfl hb8) ?_)
 intro a72 A72
 refine zB 1 [(17, .int .i64 (IntKind.i64.wrap (((b8.toNat : Nat) : Int))))] A72 kr kr (fun a73 A73 => ?_)
 have A74 := A73.set 17 (v' := .int .i64 ((b8.toNat : Nat) : Int)) kr rfl (vint (wi64 (by omega) (by omega)))
 refine zB 1 [(18, .int .i64 (IntKind.i64.wrap ((0 : Int) + ((b8.toNat : Nat) : Int))))] A74 kr kr (fun a75 A75 => ?_)
 have A76 := A75.set 18 (v' := .int .i64 ((0 : Int) + ((b8.toNat : Nat) : Int))) kr rfl (vint (wi64 (by omega) (by omega)))
 refine zB 1 [(2, .int .i64 ((0 : Int) + ((b8.toNat : Nat) : Int)))] A76 kr kr (fun a77 A77 => ?_)
 refine zE ?_
 refine zA (C69 _ _ ?_)
 refine zQ ?_
 refine zR (v := .int .i64 ((0 : Int) + ((b8.toNat : Nat) : Int))) (rs := [.tmp 2]) A77 kr (Res.tmp kr Res.nil) kr ?_
 refine ⟨j0.upd, _, rfl, 0 + b8.toNat, vint (by omega), ?_, by omega⟩
 rw [Nat.pow_add]; generalize 2 ^ b8.toNat = t at *; omega
theorem length_c (w : World) (X : Hid) (hX : ∀ k o, X k o → k < w.heap.size) (ad : Option Addr) (len cap : Nat) (l : List Nat) (h : Limbs (rd w X) ad len cap l) (hm : len ≤ 1099511627776) : Calls Try.prog 108 #[.slice ad len cap] w (Ret E0 w fun _ v => ∃ m : Nat, v = .int .i64 (m : Int) ∧ val l < 2 ^ m ∧ m ≤ 32 * l.length) := by
 obtain rfl := h.hlen
 have hcap := h.hcap
 have hbig := h.hbig
 refine zZ (n := 18) (vs := [.slice ad l.length cap]) Try.func108 rfl rfl rfl kr (fun a0 A0 => ?_)
 have A0 : Fr 18 a0 [(0, .slice ad l.length cap)] := A0
 have j0 : St E0 w X w X [] := St.start hX
 refine zD (fun K1 C1 => ?_)
 refine zC ?_
 refine zB 1 [(2, .int .i64 0)] A0 kr kr (fun a2 A2 => ?_)
 refine zE ?_
 refine zA (C1 _ _ ?_)
 refine zD (fun K3 C3 => ?_)
 refine zD (fun K4 C4 => ?_)
 refine zC ?_
 refine zB 3 [(5, .bool ((l.length : Int) == 0)), (4, .int .i64 (l.length : Int)), (3, .slice ad l.length cap)] A2 kr kr (fun a5 A5 => ?_)
 refine zE ?_
 refine zA (C4 _ _ ?_)
 refine zS ((l.length : Int) == 0) A5 kr kr (fun hc6 => ?_) (fun hc6 => ?_)
 ·
  have A7 := A5.set 5 (v' := .bool true) kr rfl (zG hc6)
  have ht8 : (l.length : Int) = 0 := by simpa using hc6
  have hnil : l = [] := List.eq_nil_of_length_eq_zero (by omega)
  refine zD (fun K9 C9 => ?_)
  refine zC ?_
  refine zB 1 [(2, .int .i64 0)] A7 kr kr (fun a10 A10 => ?_)
  refine zE ?_
  refine zA (C9 _ _ ?_)
  refine zQ ?_
  refine zL ?_
  refine zR (v := .int .i64 0) (rs := [.tmp 2]) A10 kr (Res.tmp kr Res.nil) kr ?_
  exact ⟨j0.upd, _, rfl, 0, rfl, by rw [hnil]; simp [val], by omega⟩
 have A11 := A5.set 5 (v' := .bool false) kr rfl (zG hc6)
 have ht12 : (l.length : Int) ≠ 0 := by simpa using hc6
 obtain ⟨bk13, of14, rfl, _⟩ := h.addr (by omega)
 have htop := h.getD_lt (l.length - 1)
 refine i_skip ?_
 refine zA (C3 _ _ ?_)
 refine zD (fun K15 C15 => ?_)
 refine zC ?_
 refine zB 3 [(8, .int .i64 (IntKind.i64.wrap ((l.length : Int) - 1))), (7, .int .i64 (l.length : Int)), (6, .slice (some ⟨bk13, of14, none⟩) l.length cap)] A11 kr kr (fun a16 A16 => ?_)
 have A17 := A16.set 8 (v' := .int .i64 ((l.length : Int) - 1)) kr rfl (vint (wi64 (by omega) (by omega)))
 refine zB 1 [(9, .int .i64 (IntKind.i64.wrap ((32 : Int) * ((l.length : Int) - 1))))] A17 kr kr (fun a18 A18 => ?_)
 have A19 := A18.set 9 (v' := .int .i64 ((32 : Int) * ((l.length : Int) - 1))) kr rfl (vint (wi64 (by omega) (by omega)))
 refine zB 4 [(13, .int .i64 (IntKind.i64.wrap ((l.length : Int) - 1))), (12, .int .i64 (l.length : Int)), (11, .slice (some ⟨bk13, of14, none⟩) l.length cap), (10, .slice (some ⟨bk13, of14, none⟩) l.length cap)] A19 kr kr (fun a20 A20 => ?_)
 have A21 := A20.set 13 (v' := .int .i64 ((l.length : Int) - 1)) kr rfl (vint (wi64 (by omega) (by omega)))
 refine wplI A21 kr (zJ (d := 14) (v := .pointer (some ⟨bk13, of14 + (l.length - 1), none⟩)) A21 kr (zP (t := 23) (e := 93) (b := bk13) (off := of14) (len := l.length) (cap := cap) (kd := .i64) (i := (l.length : Int) - 1) (g := false) (m := 1) (off' := of14 + (l.length - 1)) rfl kr kr kr kr (by omega) (by omega) (by first | omega | (simp; done) | (simp; omega)) _) ?_)
 intro a22 A22
 refine wplI A22 kr (zJ (d := 15) (v := .int .u32 ((l.getD (l.length - 1) 0 : Nat) : Int)) A22 kr (zF (t := 93) (g := false) (vs := [.int .u32 ((l.getD (l.length - 1) 0 : Nat) : Int)]) (ad := ⟨bk13, of14 + (l.length - 1), none⟩) rfl kr kr ir ((h.cell (i := (l.length - 1)) (by omega)).mono (Le.refl _)).cells) ?_)
 intro a23 A23
 refine wplI A23 kr (zK (d := 16) (f := 88) (cap := #[]) (vs := #[.int .u32 ((l.getD (l.length - 1) 0 : Nat) : Int)]) A23 kr j0 rfl kr kr (fun w => Try.call88 _ w) (len32_c _ _ j0.lt (l.getD (l.length - 1) 0) (by omega)) ?_)
 rintro v24 w24 j24 q24 hu24 ⟨r24, rfl, hr24, hs24⟩ a25 A25
 refine zB 1 [(17, .int .i64 (IntKind.i64.wrap (((32 : Int) * ((l.length : Int) - 1)) + (r24 : Int))))] A25 kr kr (fun a26 A26 => ?_)
 have A27 := A26.set 17 (v' := .int .i64 (((32 : Int) * ((l.length : Int) - 1)) + (r24 : Int))) kr rfl (vint (wi64 (by omega) (by omega)))
 refine zB 1 [(2, .int .i64 (((32 : Int) * ((l.length : Int) - 1)) + (r24 : Int)))] A27 kr kr (fun a28 A28 => ?_)
 refine zE ?_
 refine zA (C15 _ _ ?_)
 refine zQ ?_
 refine zR (v := .int .i64 (((32 : Int) * ((l.length : Int) - 1)) + (r24 : Int))) (rs := [.tmp 2]) A28 kr (Res.tmp kr Res.nil) kr ?_
 exact ⟨j24.upd, _, rfl, 32 * (l.length - 1) + r24, vint (by omega), len_top l h.hlt _ (by omega) hr24, by omega⟩
theorem digits_c (w : World) (X : Hid) (hX : ∀ k o, X k o → k < w.heap.size) (ad : Option Addr) (len cap : Nat) : Calls Try.prog 103 #[.slice ad len cap] w (Ret E0 w fun w' v => ∃ bx, v = .func (.func 107) #[] #[.pointer (some ⟨bx, 0, none⟩)] ∧ w.heap.size ≤ bx ∧ w'.heap[bx]? = some (.cells #[.slice ad len cap] 23 (0, 0))) := by
 refine zZ (n := 4) (vs := [.slice ad len cap]) Try.func103 rfl rfl rfl kr (fun a0 A0 => ?_)
 have A0 : Fr 4 a0 [(0, .slice ad len cap)] := A0
 have j0 : St E0 w X w X [] := St.start hX
 refine zD (fun K1 C1 => ?_)
 refine zC ?_
 refine wplI A0 kr (zN (d := 1) (fun b => .pointer (some ⟨b, 0, none⟩)) (.cells #[.slice ad len cap] 23 (0, 0)) A0 kr j0 kw ?_)
 intro b2 w2 Y2 j2 q2 hu2 a3 A3
 refine zB 1 [(2, .nilFunc)] A3 kr kr (fun a4 A4 => ?_)
 refine zE ?_
 refine zA (C1 _ _ ?_)
 refine zD (fun K5 C5 => ?_)
 refine zC ?_
 refine zB 2 [(2, .func (.func 107) #[] #[.pointer (some ⟨b2, 0, none⟩)]), (3, .func (.func 107) #[] #[.pointer (some ⟨b2, 0, none⟩)])] A4 kr kr (fun a6 A6 => ?_)
 refine zE ?_
 refine zA (C5 _ _ ?_)
 refine zQ ?_
 refine zR (v := .func (.func 107) #[] #[.pointer (some ⟨b2, 0, none⟩)]) (rs := [.tmp 2]) A6 kr (Res.tmp kr Res.nil) kr ?_
 exact ⟨j2.upd, _, rfl, _, rfl, j2.own_ge 0 rfl, j2.get 0 rfl⟩
theorem digits1_c (l bx : Nat) (ad : Option Addr) (len cap : Nat) (xs : List Nat) (hbig : len ≤ 1099511627776) (J : Nat → World → Prop) (R : World → Prop) (w : World) (hlimbs : Limbs (rd w X0) ad len cap xs)
    (hread : ∀ k w, J k w → At (rd w X0) ⟨bx, 0, none⟩ [.slice ad len cap])
    (hel : ∀ k w, J (k + 1) w → k / 32 < len → ∃ b off, ad = some ⟨b, off, none⟩ ∧ At (rd w X0) ⟨b, off + k / 32, none⟩ [.int .u32 ((xs.getD (k / 32) 0 : Nat) : Int)])
    (hY : ∀ k w, k < 32 * len → J (k + 1) w → YieldAt (FF none) 0 Try.prog l #[.int .i64 (k : Int), .int .u32 ((val xs / 2 ^ k % 2 : Nat) : Int)] w (Rounds (J k) R))
    (h0 : ∀ w, J 0 w → R w) (hbx : At (rd w X0) ⟨bx, 0, none⟩ [.slice ad len cap]) (hJ : ∀ m w', Upd E0 w w' → val xs < 2 ^ m → m ≤ 32 * xs.length → J m w') : Calls Try.prog 107 #[.func (.yield l) #[] #[], .pointer (some ⟨bx, 0, none⟩)] w (fun e w' => (∃ v, e = .returned v) ∧ R w') := by
 obtain rfl := hlimbs.hlen
 refine zZ (n := 24) (vs := [.func (.yield l) #[] #[], .pointer (some ⟨bx, 0, none⟩)]) Try.func107 rfl rfl rfl kr (fun a0 A0 => ?_)
 have A0 : Fr 24 a0 [(0, .func (.yield l) #[] #[]), (1, .pointer (some ⟨bx, 0, none⟩))] := A0
 have j0 : St E0 w X0 w X0 [] := St.start (X0_lt _)
 refine zD (fun K1 C1 => ?_)
 refine zC ?_
 refine wplI A0 kr (zJ (d := 4) (v := .slice ad xs.length cap) A0 kr (zF (t := 23) (g := false) (vs := [.slice ad xs.length cap]) (ad := ⟨bx, 0, none⟩) rfl kr kr ir (hbx).cells) ?_)
 intro a2 A2
 refine wplI A2 kr (zK (d := 5) (f := 108) (cap := #[]) (vs := #[.slice ad xs.length cap]) A2 kr j0 rfl kr kr (fun w => Try.call108 _ w) (length_c _ X0 (X0_lt _) _ _ _ xs hlimbs (by omega)) ?_)
 rintro v3 w3 j3 q3 hu3 ⟨m, rfl, hm1, hm2⟩ a4 A4
 refine zB 1 [(6, .int .i64 (IntKind.i64.wrap ((m : Int) - 1)))] A4 kr kr (fun a5 A5 => ?_)
 have A6 := A5.set 6 (v' := .int .i64 ((m : Int) - 1)) kr rfl (vint (wi64 (by omega) (by omega)))
 refine zB 1 [(3, .int .i64 ((m : Int) - 1))] A6 kr kr (fun a7 A7 => ?_)
 refine zE ?_
 refine zA (C1 _ _ ?_)
 refine zV ?_
 refine qC (fun (k : Nat) a w1 => Fr 24 a [(0, .func (.yield l) #[] #[]), (1, .pointer (some ⟨bx, 0, none⟩)), (3, .int .i64 ((k : Int) - 1))] ∧ J k w1 ∧ k ≤ 32 * xs.length) (fun k => k) m ?_ ?_
 ·
  exact ⟨A7.as [0, 1, 3] kr kr, hJ m _ hu3 hm1 hm2, hm2⟩
 rintro k a8 w8 ⟨A8, hJ8, hk⟩
 have j8 : St E0 w8 X0 w8 X0 [] := St.start (X0_lt _)
 refine zD (fun K9 C9 => ?_)
 refine zD (fun K10 C10 => ?_)
 refine zC ?_
 refine zB 2 [(8, .bool (decide (((k : Int) - 1) ≥ 0))), (7, .int .i64 ((k : Int) - 1))] A8 kr kr (fun a11 A11 => ?_)
 refine zE ?_
 refine zA (C10 _ _ ?_)
 refine zS (decide (((k : Int) - 1) ≥ 0)) A11 kr kr (fun hc12 => ?_) (fun hc12 => ?_)
 ·
  have A13 := A11.set 8 (v' := .bool true) kr rfl (zG hc12)
  have ht14 : ((k : Int) - 1) ≥ 0 := of_decide_eq_true hc12
  obtain ⟨j, rfl⟩ : ∃ j, k = j + 1 := ⟨k - 1, by omega⟩
  have A15 := A13.set 3 (v := .int .i64 (((j + 1 : Nat) : Int) - 1)) (v' := .int .i64 (j : Int)) kr kr (vint (by omega))
  obtain ⟨b, off, rfl, hel1⟩ := hel j _ hJ8 (by omega)
  have hltj : xs.getD (j / 32) 0 < 4294967296 := hlimbs.getD_lt _
  refine i_skip ?_
  refine zA (C9 _ _ ?_)
  refine zD (fun K16 C16 => ?_)
  refine zV ?_
  refine zD (fun K17 C17 => ?_)
  refine zC ?_
  refine zB 2 [(12, .int .i64 (j : Int)), (11, .func (.yield l) #[] #[])] A15 kr kr (fun a18 A18 => ?_)
  refine wplI A18 kr (zJ (d := 13) (v := .slice (some ⟨b, off, none⟩) xs.length cap) A18 kr (zF (t := 23) (g := false) (vs := [.slice (some ⟨b, off, none⟩) xs.length cap]) (ad := ⟨bx, 0, none⟩) rfl kr kr ir ((hread _ _ hJ8)).cells) ?_)
  intro a19 A19
  refine zB 2 [(15, .int .i64 (IntKind.i64.wrap (Int.tdiv ((j : Int)) (32)))), (14, .int .i64 (j : Int))] A19 kr kr (fun a20 A20 => ?_)
  have A21 := A20.set 15 (v' := .int .i64 ((j / 32 : Nat) : Int)) kr rfl (vint (tdiv32 _ (by omega)))
  refine wplI A21 kr (zJ (d := 16) (v := .pointer (some ⟨b, off + j / 32, none⟩)) A21 kr (zP (t := 23) (e := 93) (b := b) (off := off) (len := xs.length) (cap := cap) (kd := .i64) (i := ((j / 32 : Nat) : Int)) (g := false) (m := 1) (off' := off + j / 32) rfl kr kr kr kr (by omega) (by omega) (by first | rfl | omega | (simp; done) | (simp; omega)) _) ?_)
  intro a22 A22
  refine wplI A22 kr (zJ (d := 17) (v := .int .u32 ((xs.getD (j / 32) 0 : Nat) : Int)) A22 kr (zF (t := 93) (g := false) (vs := [.int .u32 ((xs.getD (j / 32) 0 : Nat) : Int)]) (ad := ⟨b, off + j / 32, none⟩) rfl kr kr ir (hel1).cells) ?_)
  intro a23 A23
  refine zB 2 [(19, .int .i64 (Int.tmod ((j : Int)) (32))), (18, .int .i64 (j : Int))] A23 kr kr (fun a24 A24 => ?_)
  have A25 := A24.set 19 (v' := .int .i64 ((j % 32 : Nat) : Int)) kr rfl (vint (tmod32 _))
  refine wplI A25 kr (zJ (d := 20) (v := .int .u32 ((xs.getD (j / 32) 0 / 2 ^ (j % 32) : Nat) : Int)) A25 kr (run_shrU rfl rfl rfl (by omega)) ?_)
  intro a26 A26
  refine zB 1 [(21, .int .u32 (band32 ((xs.getD (j / 32) 0 / 2 ^ (j % 32) : Nat) : Int) 1))] A26 kr kr (fun a27 A27 => ?_)
  have A28 := A27.set 21 (v' := .int .u32 ((val xs / 2 ^ j % 2 : Nat) : Int)) kr rfl (vint ((band_one _ (Nat.lt_of_le_of_lt (Nat.div_le_self _ _) hltj)).trans (by rw [digit_limb xs hlimbs.hlt j (by omega)])))
  refine wpl_yield (d := 22) (l := l) (vs := #[.int .i64 (j : Int), .int .u32 ((val xs / 2 ^ j % 2 : Nat) : Int)]) A28 kr rfl kr kr (hY j _ (by omega) hJ8) (fun _ _ h => h.ret) ?_
  rintro v29 w29 ⟨bb29, hv29, hJ29, hR29⟩ a30 A30
  cases hv29
  have j29 : St E0 w29 X0 w29 X0 [] := St.start (X0_lt _)
  refine zB 1 [(23, .bool (!bb29))] A30 kr kr (fun a31 A31 => ?_)
  refine zE ?_
  refine zA (C17 _ _ ?_)
  refine zS (!bb29) A31 kr kr (fun hc32 => ?_) (fun hc32 => ?_)
  ·
   have A33 := A31.set 23 (v' := .bool true) kr rfl (zG hc32)
   have ht34 : bb29 = false := by simpa using hc32
   have hbb := ht34
   refine zQ ?_
   refine zU ?_
   refine zL ?_
   refine zL ?_
   refine zU ?_
   refine zR (v := .tuple #[]) (rs := []) A33 kr Res.nil kr ?_
   exact ⟨⟨_, rfl⟩, (hR29 hbb)⟩
  have A35 := A31.set 23 (v' := .bool false) kr rfl (zG hc32)
  have ht36 : bb29 = true := by simpa using hc32
  have hbb := ht36
  refine i_skip ?_
  refine zW ?_
  refine zA (C16 _ _ ?_)
  refine zC ?_
  refine zB 2 [(10, .int .i64 (IntKind.i64.wrap ((j : Int) - 1))), (9, .int .i64 (j : Int))] A35 kr kr (fun a37 A37 => ?_)
  have A38 := A37.set 10 (v' := .int .i64 ((j : Int) - 1)) kr rfl (vint (wi64 (by omega) (by omega)))
  refine zB 1 [(3, .int .i64 ((j : Int) - 1))] A38 kr kr (fun a39 A39 => ?_)
  refine zE ?_
  refine zA ?_
  exact ⟨j, ⟨A39.as [0, 1, 3] kr kr, hJ29 hbb, by omega⟩, by show j < j + 1; omega⟩
 have A40 := A11.set 8 (v' := .bool false) kr rfl (zG hc12)
 have ht41 : ¬ (((k : Int) - 1) ≥ 0) := of_decide_eq_false hc12
 have hk0 : k = 0 := by omega
 refine i_exit ?_
 refine zT ?_
 refine zT ?_
 refine qA ?_
 refine c_end (v := .tuple #[]) (rs := []) A40 kr Res.nil kr ?_
 exact ⟨⟨_, rfl⟩, (h0 _ (hk0 ▸ hJ8))⟩
end Go.Proofs.Ytoocgllbbihoaaa
namespace Go.Proofs.Ytoocgllbbihoaaa
open Go Go.Gv Go.RowKit
set_option maxRecDepth 100000
set_option maxHeartbeats 1000000
theorem cmpI_ge {x y : Nat} (h : cmpI (x : Int) (y : Int) ≥ 0) : y ≤ x := cmpI_ge0 (by omega)
theorem cmpI_nge {x y : Nat} (h : ¬ cmpI (x : Int) (y : Int) ≥ 0) : x < y := cmpI_lt0 (by omega)
theorem divide_c (w : World) (X : Hid) (hX : ∀ k o, X k o → k < w.heap.size) (ad : Option Addr) (len cap : Nat) (l : List Nat) (h : Limbs (rd w X) ad len cap l) (ad2 : Option Addr) (len2 cap2 : Nat) (l2 : List Nat) (h2 : Limbs (rd w X) ad2 len2 cap2 l2) (hc1 : Canon l) (hc2 : Canon l2) (hl1 : len ≤ 512) (hl2 : len2 ≤ 512) (hd : 0 < val l2) : Calls Try.prog 95 #[.slice ad len cap, .slice ad2 len2 cap2] w (Ret E0 w fun w' v => ∃ u u2 lq lr ad len cap ad2 len2 cap2, v = .tuple #[u, u2] ∧ OwnN 93 w w' u lq ad len cap (val l / val l2) ∧ OwnN 93 w w' u2 lr ad2 len2 cap2 (val l % val l2)) := by
 obtain rfl := h.hlen
 obtain rfl := h2.hlen
 have hcap := h.hcap
 have hbig := h.hbig
 have hcap2 := h2.hcap
 have hbig2 := h2.hbig
 refine m_enter (n := 38) (vs := [.slice ad l.length cap, .slice ad2 l2.length cap2]) Try.func95 rfl rfl rfl kr (fun a0 A0 => ?_)
 have A0 : Fr 38 a0 [(0, .slice ad l.length cap), (1, .slice ad2 l2.length cap2)] := A0
 have j0 : St E0 w X w X [] := St.start hX
 refine zD (fun K1 C1 => ?_)
 refine zC ?_
 refine wplI A0 kr (zN (d := 3) (fun b => .pointer (some ⟨b, 0, none⟩)) (.cells #[.slice ad2 l2.length cap2] 23 (0, 0)) A0 kr j0 kw ?_)
 intro b2 w2 Y2 j2 q2 hu2 a3 A3
 refine wplI A3 kr (zN (d := 4) (fun b => .pointer (some ⟨b, 0, none⟩)) (.cells #[.slice none 0 0] 23 (0, 0)) A3 kr j2 kw ?_)
 intro b4 w4 Y4 j4 q4 hu4 a5 A5
 refine wplI A5 kr (zN (d := 5) (fun b => .pointer (some ⟨b, 0, none⟩)) (.cells #[.slice none 0 0] 23 (0, 0)) A5 kr j4 kw ?_)
 intro b6 w6 Y6 j6 q6 hu6 a7 A7
 refine zE ?_
 refine zA (C1 _ _ ?_)
 refine zD (fun K8 C8 => ?_)
 refine zC ?_
 refine zB 2 [(9, .int .i64 (l.length : Int)), (8, .slice ad l.length cap)] A7 kr kr (fun a9 A9 => ?_)
 refine wplI A9 kr (op_make (d := 10) (t := 23) (e := 93) (m := l.length) (z := .int .u32 0) (i0 := Try.t93) A9 kr j6 rfl kr (by first | rfl | omega) kr kr kr kr kr (by show 4 * _ ≤ _; omega) (by omega) ?_)
 intro b10 w10 Y10 j10 q10 hu10 a11 A11
 have hrow10 := URow.zeros l.length (by simp only [maxLen]; omega)
 refine wplI A11 kr (zO (t := 23) (b := b4) (off := 0) (c' := #[.slice (some ⟨b10, 0, none⟩) l.length l.length]) (g := false) (m := 1) 2 _ A11 kr j10 rfl kr rfl kr kr kr rfl (by first | decide | (simp; done)) kr rfl ?_)
 intro w12 j12 q12
 refine zE ?_
 refine zA (C8 _ _ ?_)
 refine zD (fun K13 C13 => ?_)
 refine zD (fun K14 C14 => ?_)
 refine zC ?_
 refine zB 1 [(11, .slice ad l.length cap)] A11 kr kr (fun a15 A15 => ?_)
 refine wplI A15 kr (zK (d := 12) (f := 103) (cap := #[]) (vs := #[.slice ad l.length cap]) A15 kr j12 rfl kr kr (fun w => Try.call103 _ w) (digits_c _ _ j12.lt ad l.length cap) ?_)
 rintro v16 w16 j16 q16 hu16 ⟨bx16, rfl, hge16, hget16⟩ a17 A17
 have j18 := St.adopt j16 (fun o h => Nat.not_lt.2 hge16 (j12.lt _ _ h)) (Nat.le_trans j12.upd.size hge16) hget16
 have q18 := Le.adopt q16 hge16
 refine zE ?_
 refine zA (C14 _ _ ?_)
 refine zV ?_
 refine i_range2 (f := 107) (caps := #[.pointer (some ⟨bx16, 0, none⟩)]) A17 j18 kr kr (fun args w => Try.call107 args w) ?_
 intro rec19 l19 b19 w19 Y19 hr19 j19 q19 hu19
 have A20 := fr_marked b19 A17
 refine digits1_c l19 bx16 ad l.length cap l (by omega) (fun k w' => ∃ (Y' : Hid) (curq : Array Value) (lq : List Nat) (rb : List (Nat × Obj)) (adr : Option Addr) (capr : Nat) (lr : List Nat) (q : Nat), St E0 w X w' Y' ((l19, .loop rec19) :: (b19, .deferred (some [])) :: (bx16, .cells #[.slice ad l.length cap] 23 (0, 0)) :: (b10, .cells curq 93 (0, 0)) :: (b6, .cells #[.slice adr lr.length capr] 23 (0, 0)) :: (b4, .cells #[.slice (some ⟨b10, 0, none⟩) l.length l.length] 23 (0, 0)) :: (b2, .cells #[.slice ad2 l2.length cap2] 23 (0, 0)) :: rb) ∧ Le (rd w19 Y19) (rd w' Y') ∧ (URow l.length l.length curq lq) ∧ (RSt 93 rb adr capr lr) ∧ (Canon lr) ∧ (val lq = 2 ^ k * q) ∧ (val l / 2 ^ k = q * val l2 + val lr) ∧ (val lr < val l2)) _ _ ((h.mono (Le7 q2 q4 q6 q10 q12 q18 q19)).mono Le.x0) ?_ ?_ ?_ ?_ (j19.at0 2 rfl rfl) ?_
 ·
  rintro k w21 ⟨Y21, curq, lq, rb, adr, capr, lr, q, j21, q21, hp21_0, hp21_1, hp21_2, hp21_3, hp21_4, hp21_5⟩
  exact j21.at0 2 rfl rfl
 ·
  rintro k w22 ⟨Y22, curq, lq, rb, adr, capr, lr, q, j22, q22, hp22_0, hp22_1, hp22_2, hp22_3, hp22_4, hp22_5⟩
  intro hk
  obtain ⟨b, off, rfl, _⟩ := h.addr (by omega)
  exact ⟨b, off, rfl, ((h.cell (i := k / 32) (by omega)).mono (Le8 q2 q4 q6 q10 q12 q18 q19 q22)).mono Le.x0⟩
 ·
  intro k w23 hk
  rintro ⟨Y23, curq, lq, rb, adr, capr, lr, q, j23, q23, hp23_0, hp23_1, hp23_2, hp23_3, hp23_4, hp23_5⟩
  refine y_round2 (p := 13) (q := 14) hr19 A17 j23 kr kr (fun a24 A24 => ?_)
  have hkl : k / 32 < l.length := by omega
  have hrowq := hp23_0
  have hrst := hp23_1
  have hcanlr := hp23_2
  have hvq := hp23_3
  have hdiv := hp23_4
  have hlt := hp23_5
  rcases hrst with ⟨rfl, rfl, rfl, rfl⟩ | ⟨gr, curr, rfl, rfl, hrowr⟩
  ·
   refine zD (fun K25 C25 => ?_)
   refine zC ?_
   refine zB 1 [(6, .int .i64 (k : Int))] A24 kr kr (fun a26 A26 => ?_)
   refine zE ?_
   refine zA (C25 _ _ ?_)
   refine zC ?_
   refine zB 1 [(7, .int .u32 ((val l / 2 ^ k % 2 : Nat) : Int))] A26 kr kr (fun a27 A27 => ?_)
   refine zE ?_
   refine zA ?_
   refine y_begin2 hr19 j23 (fun w28 j28 q28 => ?_)
   refine zV ?_
   refine zD (fun K29 C29 => ?_)
   refine zC ?_
   refine wplI A27 kr (zJ (d := 15) (v := .slice none 0 0) A27 kr (zF (t := 23) (g := false) (vs := [.slice none 0 0]) (ad := ⟨b6, 0, none⟩) rfl kr kr ir (j28.cells 4 rfl rfl)) ?_)
   intro a30 A30
   refine zB 1 [(16, .int .u32 ((val l / 2 ^ k % 2 : Nat) : Int))] A30 kr kr (fun a31 A31 => ?_)
   refine wplI A31 kr (zK (d := 17) (f := 57) (cap := #[]) (vs := #[.slice none 0 0, .int .u32 ((val l / 2 ^ k % 2 : Nat) : Int)]) A31 kr j28 rfl kr kr (fun w => Try.call57 _ w) (double_nil _ X0 (X0_lt _) (val l / 2 ^ k % 2) (by omega)) ?_)
   rintro v32 w32 j32 q32 hu32 ⟨ls32, ad32, len32, cap32, ⟨⟨rfl, hl32, hlt32, ho32⟩, hcan32, hval32⟩, hlen32⟩ a33 A33
   have hx32 : val ls32 = 2 * val ([] : List Nat) + val l / 2 ^ k % 2 := by simp only [val]; omega
   rcases ho32 with ⟨rfl, rfl, rfl⟩ | ⟨g32, cur32, rfl, hge32, hget32, hrow32⟩
   ·
    have hn32 : ls32 = [] := List.eq_nil_of_length_eq_zero hl32.symm
    subst hn32
    refine wplI A33 kr (zO (t := 23) (b := b6) (off := 0) (c' := #[.slice none 0 0]) (g := false) (m := 1) 4 _ A33 kr j32 rfl kr rfl kr kr kr rfl (by first | decide | (simp; done)) kr rfl ?_)
    intro w36 j36 q36
    refine zE ?_
    refine zA (C29 _ _ ?_)
    refine zD (fun K37 C37 => ?_)
    refine zC ?_
    refine wplI A33 kr (zJ (d := 18) (v := .slice none 0 0) A33 kr (zF (t := 23) (g := false) (vs := [.slice none 0 0]) (ad := ⟨b6, 0, none⟩) rfl kr kr ir (j36.cells 4 rfl rfl)) ?_)
    intro a38 A38
    refine wplI A38 kr (zJ (d := 19) (v := .slice ad2 l2.length cap2) A38 kr (zF (t := 23) (g := false) (vs := [.slice ad2 l2.length cap2]) (ad := ⟨b2, 0, none⟩) rfl kr kr ir (j36.cells 6 rfl rfl)) ?_)
    intro a39 A39
    refine wplI A39 kr (zK (d := 20) (f := 55) (cap := #[]) (vs := #[.slice none 0 0, .slice ad2 l2.length cap2]) A39 kr j36 rfl kr kr (fun w => Try.call55 _ w) (order_c _ X0 (X0_lt _) _ _ _ ([]) (Limbs.nil none (by omega)) _ _ _ l2 ((h2.mono (Le11 q2 q4 q6 q10 q12 q18 q19 q23 q28 q32 q36)).mono Le.x0) (.inl rfl) hc2 (by omega)) ?_)
    rintro v40 w40 j40 q40 hu40 rfl a41 A41
    refine zB 1 [(21, .bool (decide ((cmpI (val ([])) (val l2)) ≥ 0)))] A41 kr kr (fun a42 A42 => ?_)
    refine zE ?_
    refine zA (C37 _ _ ?_)
    refine zS (decide ((cmpI (val ([])) (val l2)) ≥ 0)) A42 kr kr (fun hc43 => ?_) (fun hc43 => ?_)
    ·
     have A44 := A42.set 21 (v' := .bool true) kr rfl (zG hc43)
     have ht45 : (cmpI (val ([])) (val l2)) ≥ 0 := of_decide_eq_true hc43
     have hcmp := cmpI_ge ht45
     simp only [val] at hcmp; omega
    have A46 := A42.set 21 (v' := .bool false) kr rfl (zG hc43)
    have ht47 : ¬ ((cmpI (val ([])) (val l2)) ≥ 0) := of_decide_eq_false hc43
    have hcmp := cmpI_nge ht47
    refine i_skip ?_
    refine zW ?_
    refine y_next2 hr19 j40 (fun w48 j48 q48 => Rounds.next ?_)
    exact ⟨_, curq, lq, [], none, 0, [], (2 * q), j48, (Le6 q23 q28 q32 q36 q40 q48), hrowq, .inl ⟨rfl, rfl, rfl, rfl⟩, (.inl rfl), by rw [hvq, Nat.pow_succ]; ac_rfl, divB hdiv hx32, hcmp⟩
   ·
    subst hl32
    have j34 := St.adopt j32 (fun o h => Nat.not_lt.2 hge32 (j28.lt _ _ h)) (Nat.le_trans j28.upd.size hge32) hget32
    have q34 := Le.adopt q32 hge32
    have j35 := St.mid (B := []) [(l19, .loop (busyL rec19)), (b19, .deferred (some [])), (bx16, .cells #[.slice ad l.length cap] 23 (0, 0)), (b10, .cells curq 93 (0, 0)), (b6, .cells #[.slice none 0 0] 23 (0, 0)), (b4, .cells #[.slice (some ⟨b10, 0, none⟩) l.length l.length] 23 (0, 0)), (b2, .cells #[.slice ad2 l2.length cap2] 23 (0, 0))] j34
    have q35 : Le (rd w32 (hide g32 Y23)) (rd w32 (hide g32 Y23)) := Le.refl _
    refine wplI A33 kr (zO (t := 23) (b := b6) (off := 0) (c' := #[.slice (some ⟨g32, 0, none⟩) ls32.length cap32]) (g := false) (m := 1) 4 _ A33 kr j35 rfl kr rfl kr kr kr rfl (by first | decide | (simp; done)) kr rfl ?_)
    intro w49 j49 q49
    refine zE ?_
    refine zA (C29 _ _ ?_)
    refine zD (fun K50 C50 => ?_)
    refine zC ?_
    refine wplI A33 kr (zJ (d := 18) (v := .slice (some ⟨g32, 0, none⟩) ls32.length cap32) A33 kr (zF (t := 23) (g := false) (vs := [.slice (some ⟨g32, 0, none⟩) ls32.length cap32]) (ad := ⟨b6, 0, none⟩) rfl kr kr ir (j49.cells 4 rfl rfl)) ?_)
    intro a51 A51
    refine wplI A51 kr (zJ (d := 19) (v := .slice ad2 l2.length cap2) A51 kr (zF (t := 23) (g := false) (vs := [.slice ad2 l2.length cap2]) (ad := ⟨b2, 0, none⟩) rfl kr kr ir (j49.cells 6 rfl rfl)) ?_)
    intro a52 A52
    refine wplI A52 kr (zK (d := 20) (f := 55) (cap := #[]) (vs := #[.slice (some ⟨g32, 0, none⟩) ls32.length cap32, .slice ad2 l2.length cap2]) A52 kr j49 rfl kr kr (fun w => Try.call55 _ w) (order_c _ X0 (X0_lt _) _ _ _ ls32 (URow.limbs (Y := X0) hrow32 (j49.get 7 rfl) (fun _ h => h.elim)) _ _ _ l2 ((h2.mono (Le12 q2 q4 q6 q10 q12 q18 q19 q23 q28 q34 q35 q49)).mono Le.x0) hcan32 hc2 (by omega)) ?_)
    rintro v53 w53 j53 q53 hu53 rfl a54 A54
    refine zB 1 [(21, .bool (decide ((cmpI (val ls32) (val l2)) ≥ 0)))] A54 kr kr (fun a55 A55 => ?_)
    refine zE ?_
    refine zA (C50 _ _ ?_)
    refine zS (decide ((cmpI (val ls32) (val l2)) ≥ 0)) A55 kr kr (fun hc56 => ?_) (fun hc56 => ?_)
    ·
     have A57 := A55.set 21 (v' := .bool true) kr rfl (zG hc56)
     have ht58 : (cmpI (val ls32) (val l2)) ≥ 0 := of_decide_eq_true hc56
     have hcmp := cmpI_ge ht58
     obtain ⟨hset1, hset2, hset3⟩ := setbit lq hrowq.lt k q (by rw [hrowq.len]; exact hkl) hvq
     refine zD (fun K59 C59 => ?_)
     refine zC ?_
     refine wplI A57 kr (zJ (d := 22) (v := .slice (some ⟨g32, 0, none⟩) ls32.length cap32) A57 kr (zF (t := 23) (g := false) (vs := [.slice (some ⟨g32, 0, none⟩) ls32.length cap32]) (ad := ⟨b6, 0, none⟩) rfl kr kr ir (j53.cells 4 rfl rfl)) ?_)
     intro a60 A60
     refine wplI A60 kr (zJ (d := 23) (v := .slice ad2 l2.length cap2) A60 kr (zF (t := 23) (g := false) (vs := [.slice ad2 l2.length cap2]) (ad := ⟨b2, 0, none⟩) rfl kr kr ir (j53.cells 6 rfl rfl)) ?_)
     intro a61 A61
     refine wplI A61 kr (op_callE (d := 24) (f := 56) (cap := #[]) (vs := #[.slice (some ⟨g32, 0, none⟩) ls32.length cap32, .slice ad2 l2.length cap2]) 7 A61 kr j53 rfl kr kr (fun w => Try.call56 _ w) rfl (subtract_c _ g32 ls32.length cap32 _ ls32 (j53.get 7 rfl) hrow32 (by omega) _ _ _ l2 ((h2.mono (Le13 q2 q4 q6 q10 q12 q18 q19 q23 q28 q34 q35 q49 q53)).mono (j53.leHG 7 rfl)) (canon_len hrow32.lt hc2 (by omega)) (by omega)) ?_)
     rintro v62 w62 ob62 ⟨cur62, ls62, rfl, hg62, hrow62, hcan62, hval62⟩ hob62 j62 q62 a63 A63
     obtain rfl := Option.some.inj (hob62.symm.trans hg62)
     refine wplI A63 kr (zO (t := 23) (b := b6) (off := 0) (c' := #[.slice (some ⟨g32, 0, none⟩) ls62.length cap32]) (g := false) (m := 1) 4 _ A63 kr j62 rfl kr rfl kr kr kr rfl (by first | decide | (simp; done)) kr rfl ?_)
     intro w64 j64 q64
     refine zE ?_
     refine zA (C59 _ _ ?_)
     refine qD (N := 11) (Held [(⟨b4, 0, none⟩, [.slice (some ⟨b10, 0, none⟩) l.length l.length]), (⟨b10, k / 32, none⟩, [.int .u32 ((lq.getD (k / 32) 0 : Nat) : Int)])]) [10] kr kr kr j64 ?_
     intro w65 j65 q65 hu65
     refine zX (Held.cons (j65.cells 5 rfl rfl) (Held.cons (j65.rowCells 3 rfl hrowq (by have := hrowq.len; (try simp only [List.length_set] at *); omega)) (Held.nil _))) (fun hH65 => ?_)
     refine zY (d := 25) (v := .slice (some ⟨b10, 0, none⟩) l.length l.length) 0 A63 rfl kr kr kr (fun w hw => zF (t := 23) (g := false) (vs := [.slice (some ⟨b10, 0, none⟩) l.length l.length]) (ad := ⟨b4, 0, none⟩) rfl kr kr ir (hw.get 0 kr)) hH65 ?_
     intro a66 A66
     refine zH (d := 26) (v := .int .i64 (k : Int)) 1 A66 rfl kr kr kw (fun _ => hH65) ?_
     intro a67 A67
     refine zH (d := 27) (v := .int .i64 (IntKind.i64.wrap (Int.tdiv ((k : Int)) (32)))) 2 A67 rfl kr kr kw (fun _ => hH65) ?_
     intro a68 A68
     have A69 := A68.set 27 (v' := .int .i64 ((k / 32 : Nat) : Int)) kr rfl (vint (tdiv32 _ (by omega)))
     refine zH (d := 28) (v := .pointer (some ⟨b10, k / 32, none⟩)) 3 A69 rfl kr kr (fun w => zP (t := 23) (e := 93) (b := b10) (off := 0) (len := l.length) (cap := l.length) (kd := .i64) (i := ((k / 32 : Nat) : Int)) (g := false) (m := 1) (off' := k / 32) rfl kr kr kr kr (by omega) (by omega) (by first | rfl | omega | (simp; done) | (simp; omega)) w) (fun _ => hH65) ?_
     intro a70 A70
     refine zY (d := 29) (v := .int .u32 ((lq.getD (k / 32) 0 : Nat) : Int)) 4 A70 rfl kr kr kr (fun w hw => zF (t := 93) (g := false) (vs := [.int .u32 ((lq.getD (k / 32) 0 : Nat) : Int)]) (ad := ⟨b10, k / 32, none⟩) rfl kr kr ir (hw.get 1 kr)) hH65 ?_
     intro a71 A71
     refine zH (d := 30) (v := .int .i64 (k : Int)) 5 A71 rfl kr kr kw (fun _ => hH65) ?_
     intro a72 A72
     refine zH (d := 31) (v := .int .i64 (Int.tmod ((k : Int)) (32))) 6 A72 rfl kr kr kw (fun _ => hH65) ?_
     intro a73 A73
     have A74 := A73.set 31 (v' := .int .i64 ((k % 32 : Nat) : Int)) kr rfl (vint (tmod32 _))
     refine zH (d := 32) (v := .int .u32 ((2 ^ (k % 32) : Nat) : Int)) 7 A74 rfl kr kr (fun w => run_shl1 rfl rfl rfl (by omega)) (fun _ => hH65) ?_
     intro a75 A75
     refine zH (d := 33) (v := .int .u32 (bor32 ((lq.getD (k / 32) 0 : Nat) : Int) ((2 ^ (k % 32) : Nat) : Int))) 8 A75 rfl kr kr kw (fun _ => hH65) ?_
     intro a76 A76
     have A77 := A76.set 33 (v' := .int .u32 ((lq.getD (k / 32) 0 + 2 ^ (k % 32) : Nat) : Int)) kr rfl (vint hset1)
     refine zH (d := 34) (v := .pointer (some ⟨b10, k / 32, none⟩)) 9 A77 rfl kr kr (fun w => zP (t := 23) (e := 93) (b := b10) (off := 0) (len := l.length) (cap := l.length) (kd := .i64) (i := ((k / 32 : Nat) : Int)) (g := false) (m := 1) (off' := k / 32) rfl kr kr kr kr (by omega) (by omega) (by first | rfl | omega | (simp; done) | (simp; omega)) w) (fun _ => hH65) ?_
     intro a78 A78
     refine zM [10] kr rfl ?_
     refine ForkT.cons (i := 10) A78 rfl kr (op_storeU (t := 93) (y := (lq.getD (k / 32) 0 + 2 ^ (k % 32))) 3 A78 kr j65 rfl rfl rfl (rfl) kr rfl hrowq (by have := hrowq.len; (try simp only [List.length_set] at *); omega) (hset2) ?_) ForkT.nil
     intro cur79 w79 hrow79 j79 q79
     refine ⟨begun_tt kr, ?_⟩
     refine qB kr (nrm ?_)
     refine zW ?_
     refine y_next2 hr19 j79 (fun w80 j80 q80 => Rounds.next ?_)
     exact ⟨_, cur79, (lq.set (k / 32) (lq.getD (k / 32) 0 + 2 ^ (k % 32))), [(g32, .cells cur62 93 (0, 0))], (some ⟨g32, 0, none⟩), cap32, ls62, (2 * q + 1), j80, (Le11 q23 q28 q34 q35 q49 q53 q62 q64 q65 q79 q80), hrow79, .inr ⟨_, _, rfl, rfl, hrow62⟩, hcan62, by rw [hset3, hvq, Nat.pow_succ, Nat.mul_add, Nat.mul_one]; congr 1; ac_rfl, divA hdiv (hval62.trans (by rw [hx32])) (by omega), by have := hval62; omega⟩
    have A81 := A55.set 21 (v' := .bool false) kr rfl (zG hc56)
    have ht82 : ¬ ((cmpI (val ls32) (val l2)) ≥ 0) := of_decide_eq_false hc56
    have hcmp := cmpI_nge ht82
    refine i_skip ?_
    refine zW ?_
    refine y_next2 hr19 j53 (fun w83 j83 q83 => Rounds.next ?_)
    exact ⟨_, curq, lq, [(g32, .cells cur32 93 (0, 0))], (some ⟨g32, 0, none⟩), cap32, ls32, (2 * q), j83, (Le7 q23 q28 q34 q35 q49 q53 q83), hrowq, .inr ⟨_, _, rfl, rfl, hrow32⟩, hcan32, by rw [hvq, Nat.pow_succ]; ac_rfl, divB hdiv hx32, hcmp⟩
  ·
   refine zD (fun K84 C84 => ?_)
   refine zC ?_
   refine zB 1 [(6, .int .i64 (k : Int))] A24 kr kr (fun a85 A85 => ?_)
   refine zE ?_
   refine zA (C84 _ _ ?_)
   refine zC ?_
   refine zB 1 [(7, .int .u32 ((val l / 2 ^ k % 2 : Nat) : Int))] A85 kr kr (fun a86 A86 => ?_)
   refine zE ?_
   refine zA ?_
   refine y_begin2 hr19 j23 (fun w87 j87 q87 => ?_)
   refine zV ?_
   refine zD (fun K88 C88 => ?_)
   refine zC ?_
   refine wplI A86 kr (zJ (d := 15) (v := .slice (some ⟨gr, 0, none⟩) lr.length capr) A86 kr (zF (t := 23) (g := false) (vs := [.slice (some ⟨gr, 0, none⟩) lr.length capr]) (ad := ⟨b6, 0, none⟩) rfl kr kr ir (j87.cells 4 rfl rfl)) ?_)
   intro a89 A89
   refine zB 1 [(16, .int .u32 ((val l / 2 ^ k % 2 : Nat) : Int))] A89 kr kr (fun a90 A90 => ?_)
   have hlnr := canon_len h2.hlt hcanlr (Nat.le_of_lt hlt)
   refine wplI A90 kr (op_callG (d := 17) (f := 57) (cap := #[]) (vs := #[.slice (some ⟨gr, 0, none⟩) lr.length capr, .int .u32 ((val l / 2 ^ k % 2 : Nat) : Int)]) 7 A90 kr j87 rfl kr kr (fun w => Try.call57 _ w) rfl (double_c _ gr lr.length capr _ lr (j87.get 7 rfl) hrowr (by omega) hcanlr (val l / 2 ^ k % 2) (by omega)) ?_)
   rintro v91 w91 Y91 g91 o91 ⟨cur91, cap91, ls91, rfl, rfl, hrow91, hlen91, hcan91, hval91⟩ j91 q91 a92 A92
   refine wplI A92 kr (zO (t := 23) (b := b6) (off := 0) (c' := #[.slice (some ⟨g91, 0, none⟩) ls91.length cap91]) (g := false) (m := 1) 4 _ A92 kr j91 rfl kr rfl kr kr kr rfl (by first | decide | (simp; done)) kr rfl ?_)
   intro w93 j93 q93
   refine zE ?_
   refine zA (C88 _ _ ?_)
   refine zD (fun K94 C94 => ?_)
   refine zC ?_
   refine wplI A92 kr (zJ (d := 18) (v := .slice (some ⟨g91, 0, none⟩) ls91.length cap91) A92 kr (zF (t := 23) (g := false) (vs := [.slice (some ⟨g91, 0, none⟩) ls91.length cap91]) (ad := ⟨b6, 0, none⟩) rfl kr kr ir (j93.cells 4 rfl rfl)) ?_)
   intro a95 A95
   refine wplI A95 kr (zJ (d := 19) (v := .slice ad2 l2.length cap2) A95 kr (zF (t := 23) (g := false) (vs := [.slice ad2 l2.length cap2]) (ad := ⟨b2, 0, none⟩) rfl kr kr ir (j93.cells 6 rfl rfl)) ?_)
   intro a96 A96
   refine wplI A96 kr (zK (d := 20) (f := 55) (cap := #[]) (vs := #[.slice (some ⟨g91, 0, none⟩) ls91.length cap91, .slice ad2 l2.length cap2]) A96 kr j93 rfl kr kr (fun w => Try.call55 _ w) (order_c _ X0 (X0_lt _) _ _ _ ls91 (URow.limbs (Y := X0) hrow91 (j93.get 7 rfl) (fun _ h => h.elim)) _ _ _ l2 ((h2.mono (Le11 q2 q4 q6 q10 q12 q18 q19 q23 q87 q91 q93)).mono Le.x0) hcan91 hc2 (by omega)) ?_)
   rintro v97 w97 j97 q97 hu97 rfl a98 A98
   refine zB 1 [(21, .bool (decide ((cmpI (val ls91) (val l2)) ≥ 0)))] A98 kr kr (fun a99 A99 => ?_)
   refine zE ?_
   refine zA (C94 _ _ ?_)
   refine zS (decide ((cmpI (val ls91) (val l2)) ≥ 0)) A99 kr kr (fun hc100 => ?_) (fun hc100 => ?_)
   ·
    have A101 := A99.set 21 (v' := .bool true) kr rfl (zG hc100)
    have ht102 : (cmpI (val ls91) (val l2)) ≥ 0 := of_decide_eq_true hc100
    have hcmp := cmpI_ge ht102
    obtain ⟨hset1, hset2, hset3⟩ := setbit lq hrowq.lt k q (by rw [hrowq.len]; exact hkl) hvq
    refine zD (fun K103 C103 => ?_)
    refine zC ?_
    refine wplI A101 kr (zJ (d := 22) (v := .slice (some ⟨g91, 0, none⟩) ls91.length cap91) A101 kr (zF (t := 23) (g := false) (vs := [.slice (some ⟨g91, 0, none⟩) ls91.length cap91]) (ad := ⟨b6, 0, none⟩) rfl kr kr ir (j97.cells 4 rfl rfl)) ?_)
    intro a104 A104
    refine wplI A104 kr (zJ (d := 23) (v := .slice ad2 l2.length cap2) A104 kr (zF (t := 23) (g := false) (vs := [.slice ad2 l2.length cap2]) (ad := ⟨b2, 0, none⟩) rfl kr kr ir (j97.cells 6 rfl rfl)) ?_)
    intro a105 A105
    refine wplI A105 kr (op_callE (d := 24) (f := 56) (cap := #[]) (vs := #[.slice (some ⟨g91, 0, none⟩) ls91.length cap91, .slice ad2 l2.length cap2]) 7 A105 kr j97 rfl kr kr (fun w => Try.call56 _ w) rfl (subtract_c _ g91 ls91.length cap91 _ ls91 (j97.get 7 rfl) hrow91 (by omega) _ _ _ l2 ((h2.mono (Le12 q2 q4 q6 q10 q12 q18 q19 q23 q87 q91 q93 q97)).mono (j97.leHG 7 rfl)) (canon_len hrow91.lt hc2 (by omega)) (by omega)) ?_)
    rintro v106 w106 ob106 ⟨cur106, ls106, rfl, hg106, hrow106, hcan106, hval106⟩ hob106 j106 q106 a107 A107
    obtain rfl := Option.some.inj (hob106.symm.trans hg106)
    refine wplI A107 kr (zO (t := 23) (b := b6) (off := 0) (c' := #[.slice (some ⟨g91, 0, none⟩) ls106.length cap91]) (g := false) (m := 1) 4 _ A107 kr j106 rfl kr rfl kr kr kr rfl (by first | decide | (simp; done)) kr rfl ?_)
    intro w108 j108 q108
    refine zE ?_
    refine zA (C103 _ _ ?_)
    refine qD (N := 11) (Held [(⟨b4, 0, none⟩, [.slice (some ⟨b10, 0, none⟩) l.length l.length]), (⟨b10, k / 32, none⟩, [.int .u32 ((lq.getD (k / 32) 0 : Nat) : Int)])]) [10] kr kr kr j108 ?_
    intro w109 j109 q109 hu109
    refine zX (Held.cons (j109.cells 5 rfl rfl) (Held.cons (j109.rowCells 3 rfl hrowq (by have := hrowq.len; (try simp only [List.length_set] at *); omega)) (Held.nil _))) (fun hH109 => ?_)
    refine zY (d := 25) (v := .slice (some ⟨b10, 0, none⟩) l.length l.length) 0 A107 rfl kr kr kr (fun w hw => zF (t := 23) (g := false) (vs := [.slice (some ⟨b10, 0, none⟩) l.length l.length]) (ad := ⟨b4, 0, none⟩) rfl kr kr ir (hw.get 0 kr)) hH109 ?_
    intro a110 A110
    refine zH (d := 26) (v := .int .i64 (k : Int)) 1 A110 rfl kr kr kw (fun _ => hH109) ?_
    intro a111 A111
    refine zH (d := 27) (v := .int .i64 (IntKind.i64.wrap (Int.tdiv ((k : Int)) (32)))) 2 A111 rfl kr kr kw (fun _ => hH109) ?_
    intro a112 A112
    have A113 := A112.set 27 (v' := .int .i64 ((k / 32 : Nat) : Int)) kr rfl (vint (tdiv32 _ (by omega)))
    refine zH (d := 28) (v := .pointer (some ⟨b10, k / 32, none⟩)) 3 A113 rfl kr kr (fun w => zP (t := 23) (e := 93) (b := b10) (off := 0) (len := l.length) (cap := l.length) (kd := .i64) (i := ((k / 32 : Nat) : Int)) (g := false) (m := 1) (off' := k / 32) rfl kr kr kr kr (by omega) (by omega) (by first | rfl | omega | (simp; done) | (simp; omega)) w) (fun _ => hH109) ?_
    intro a114 A114
    refine zY (d := 29) (v := .int .u32 ((lq.getD (k / 32) 0 : Nat) : Int)) 4 A114 rfl kr kr kr (fun w hw => zF (t := 93) (g := false) (vs := [.int .u32 ((lq.getD (k / 32) 0 : Nat) : Int)]) (ad := ⟨b10, k / 32, none⟩) rfl kr kr ir (hw.get 1 kr)) hH109 ?_
    intro a115 A115
    refine zH (d := 30) (v := .int .i64 (k : Int)) 5 A115 rfl kr kr kw (fun _ => hH109) ?_
    intro a116 A116
    refine zH (d := 31) (v := .int .i64 (Int.tmod ((k : Int)) (32))) 6 A116 rfl kr kr kw (fun _ => hH109) ?_
    intro a117 A117
    have A118 := A117.set 31 (v' := .int .i64 ((k % 32 : Nat) : Int)) kr rfl (vint (tmod32 _))
    refine zH (d := 32) (v := .int .u32 ((2 ^ (k % 32) : Nat) : Int)) 7 A118 rfl kr kr (fun w => run_shl1 rfl rfl rfl (by omega)) (fun _ => hH109) ?_
    intro a119 A119
    refine zH (d := 33) (v := .int .u32 (bor32 ((lq.getD (k / 32) 0 : Nat) : Int) ((2 ^ (k % 32) : Nat) : Int))) 8 A119 rfl kr kr kw (fun _ => hH109) ?_
    intro a120 A120
    have A121 := A120.set 33 (v' := .int .u32 ((lq.getD (k / 32) 0 + 2 ^ (k % 32) : Nat) : Int)) kr rfl (vint hset1)
    refine zH (d := 34) (v := .pointer (some ⟨b10, k / 32, none⟩)) 9 A121 rfl kr kr (fun w => zP (t := 23) (e := 93) (b := b10) (off := 0) (len := l.length) (cap := l.length) (kd := .i64) (i := ((k / 32 : Nat) : Int)) (g := false) (m := 1) (off' := k / 32) rfl kr kr kr kr (by omega) (by omega) (by first | rfl | omega | (simp; done) | (simp; omega)) w) (fun _ => hH109) ?_
    intro a122 A122
    refine zM [10] kr rfl ?_
    refine ForkT.cons (i := 10) A122 rfl kr (op_storeU (t := 93) (y := (lq.getD (k / 32) 0 + 2 ^ (k % 32))) 3 A122 kr j109 rfl rfl rfl (rfl) kr rfl hrowq (by have := hrowq.len; (try simp only [List.length_set] at *); omega) (hset2) ?_) ForkT.nil
    intro cur123 w123 hrow123 j123 q123
    refine ⟨begun_tt kr, ?_⟩
    refine qB kr (nrm ?_)
    refine zW ?_
    refine y_next2 hr19 j123 (fun w124 j124 q124 => Rounds.next ?_)
    exact ⟨_, cur123, (lq.set (k / 32) (lq.getD (k / 32) 0 + 2 ^ (k % 32))), [(g91, .cells cur106 93 (0, 0))], (some ⟨g91, 0, none⟩), cap91, ls106, (2 * q + 1), j124, (Le10 q23 q87 q91 q93 q97 q106 q108 q109 q123 q124), hrow123, .inr ⟨_, _, rfl, rfl, hrow106⟩, hcan106, by rw [hset3, hvq, Nat.pow_succ, Nat.mul_add, Nat.mul_one]; congr 1; ac_rfl, divA hdiv (hval106.trans (by rw [hval91])) (by omega), by have := hval106; omega⟩
   have A125 := A99.set 21 (v' := .bool false) kr rfl (zG hc100)
   have ht126 : ¬ ((cmpI (val ls91) (val l2)) ≥ 0) := of_decide_eq_false hc100
   have hcmp := cmpI_nge ht126
   refine i_skip ?_
   refine zW ?_
   refine y_next2 hr19 j97 (fun w127 j127 q127 => Rounds.next ?_)
   exact ⟨_, curq, lq, [(g91, .cells cur91 93 (0, 0))], (some ⟨g91, 0, none⟩), cap91, ls91, (2 * q), j127, (Le6 q23 q87 q91 q93 q97 q127), hrowq, .inr ⟨_, _, rfl, rfl, hrow91⟩, hcan91, by rw [hvq, Nat.pow_succ]; ac_rfl, divB hdiv hval91, hcmp⟩
 ·
  rintro w128 ⟨Y128, curq, lq, rb, adr, capr, lr, q, j128, q128, hp128_0, hp128_1, hp128_2, hp128_3, hp128_4, hp128_5⟩
  refine RangeEnd.norm hr19 j128 (fun w129 j129 q129 => ?_)
  have hrowq := hp128_0
  have hrst := hp128_1
  have hcanlr := hp128_2
  have hvq := hp128_3
  have hdiv := hp128_4
  have hlt := hp128_5
  rcases hrst with ⟨rfl, rfl, rfl, rfl⟩ | ⟨gr, curr, rfl, rfl, hrowr⟩
  ·
   refine zW ?_
   refine zA (C13 _ _ ?_)
   refine zD (fun K130 C130 => ?_)
   refine qD (N := 5) (Held [(⟨b6, 0, none⟩, [.slice none 0 0])]) [4] kr kr kr j129 ?_
   intro w131 j131 q131 hu131
   refine zX (Held.cons (j131.cells 4 rfl rfl) (Held.nil _)) (fun hH131 => ?_)
   refine zY (d := 37) (v := .slice none 0 0) 2 A20 rfl kr kr kr (fun w hw => zF (t := 23) (g := false) (vs := [.slice none 0 0]) (ad := ⟨b6, 0, none⟩) rfl kr kr ir (hw.get 0 kr)) hH131 ?_
   intro a132 A132
   refine zM [0] kr rfl ?_
   refine ForkT.cons (i := 0) A132 rfl kr (zJ (d := 35) (v := .slice (some ⟨b10, 0, none⟩) l.length l.length) A132 kr (zF (t := 23) (g := false) (vs := [.slice (some ⟨b10, 0, none⟩) l.length l.length]) (ad := ⟨b4, 0, none⟩) rfl kr kr ir (j131.cells 5 rfl rfl)) ?_) ForkT.nil
   intro a133 A133
   refine zI (Held.cons (j131.cells 4 rfl rfl) (Held.nil _)) (fun hH131 => ?_)
   refine zM [1] kr rfl ?_
   refine ForkT.cons (i := 1) A133 rfl kr (zK (d := 36) (f := 71) (cap := #[]) (vs := #[.slice (some ⟨b10, 0, none⟩) l.length l.length]) A133 kr j131 rfl kr kr (fun w => Try.call71 _ w) (trim_c _ X0 (X0_lt _) _ _ _ lq (URow.limbs (Y := X0) hrowq (j131.get 3 rfl) (fun _ h => h.elim))) ?_) ForkT.nil
   rintro v134 w134 j134 q134 hu134 rfl a135 A135
   refine zI (Held.cons (j134.cells 4 rfl rfl) (Held.nil _)) (fun hH134 => ?_)
   refine zM [3] kr rfl ?_
   refine ForkT.cons (i := 3) A135 rfl kr (zO (t := 23) (b := b4) (off := 0) (c' := #[.slice (some ⟨b10, 0, none⟩) (trimN lq) l.length]) (g := false) (m := 1) 5 _ A135 kr j134 rfl kr rfl kr kr kr rfl (by first | decide | (simp; done)) kr rfl ?_) ForkT.nil
   intro w136 j136 q136
   refine zI (Held.cons (j136.cells 4 rfl rfl) (Held.nil _)) (fun hH136 => ?_)
   refine zM [4] kr rfl ?_
   refine ForkT.cons (i := 4) A135 rfl kr (zO (t := 23) (b := b6) (off := 0) (c' := #[.slice none 0 0]) (g := false) (m := 1) 4 _ A135 kr j136 rfl kr rfl kr kr kr rfl (by first | decide | (simp; done)) kr rfl ?_) ForkT.nil
   intro w137 j137 q137
   refine ⟨begun_tt kr, ?_⟩
   refine qB kr (nrm ?_)
   refine zA (C130 _ _ ?_)
   refine zQ ?_
   refine m_ret1 (v := .tuple #[.slice (some ⟨b10, 0, none⟩) (trimN lq) l.length, .slice none 0 0]) (rs := [.cell 4 23, .cell 5 23]) (vs := [.slice (some ⟨b10, 0, none⟩) (trimN lq) l.length, .slice none 0 0]) 1 A135 j137 rfl kr kr (fun w138 j138 q138 => ?_)
   refine ⟨(Res.cell (ad := ⟨b4, 0, none⟩) (cs := [.slice (some ⟨b10, 0, none⟩) (trimN lq) l.length]) (g := false) kr kr kr ir (j138.cells 5 rfl rfl) (Res.cell (ad := ⟨b6, 0, none⟩) (cs := [.slice none 0 0]) (g := false) kr kr kr ir (j138.cells 4 rfl rfl) Res.nil)), ?_⟩
   obtain ⟨he1, he2⟩ := divEnd hdiv hlt hvq
   exact ⟨j138.upd, _, rfl, _, _, Go.Gv.trimmed lq, [], _, _, _, _, _, _, rfl, ⟨⟨rfl, (trimmed_length _).symm, trimmed_lt hrowq.lt, .inr ⟨_, _, rfl, j138.own_ge 3 rfl, j138.get 3 rfl, hrowq.trimmed⟩⟩, canon_trimmed _, by rw [val_trimmed]; exact he1⟩, ⟨⟨rfl, rfl, fun x hx => by simp at hx, .inl ⟨rfl, rfl, rfl⟩⟩, .inl rfl, he2⟩⟩
  ·
   refine zW ?_
   refine zA (C13 _ _ ?_)
   refine zD (fun K139 C139 => ?_)
   refine qD (N := 5) (Held [(⟨b6, 0, none⟩, [.slice (some ⟨gr, 0, none⟩) lr.length capr])]) [4] kr kr kr j129 ?_
   intro w140 j140 q140 hu140
   refine zX (Held.cons (j140.cells 4 rfl rfl) (Held.nil _)) (fun hH140 => ?_)
   refine zY (d := 37) (v := .slice (some ⟨gr, 0, none⟩) lr.length capr) 2 A20 rfl kr kr kr (fun w hw => zF (t := 23) (g := false) (vs := [.slice (some ⟨gr, 0, none⟩) lr.length capr]) (ad := ⟨b6, 0, none⟩) rfl kr kr ir (hw.get 0 kr)) hH140 ?_
   intro a141 A141
   refine zM [0] kr rfl ?_
   refine ForkT.cons (i := 0) A141 rfl kr (zJ (d := 35) (v := .slice (some ⟨b10, 0, none⟩) l.length l.length) A141 kr (zF (t := 23) (g := false) (vs := [.slice (some ⟨b10, 0, none⟩) l.length l.length]) (ad := ⟨b4, 0, none⟩) rfl kr kr ir (j140.cells 5 rfl rfl)) ?_) ForkT.nil
   intro a142 A142
   refine zI (Held.cons (j140.cells 4 rfl rfl) (Held.nil _)) (fun hH140 => ?_)
   refine zM [1] kr rfl ?_
   refine ForkT.cons (i := 1) A142 rfl kr (zK (d := 36) (f := 71) (cap := #[]) (vs := #[.slice (some ⟨b10, 0, none⟩) l.length l.length]) A142 kr j140 rfl kr kr (fun w => Try.call71 _ w) (trim_c _ X0 (X0_lt _) _ _ _ lq (URow.limbs (Y := X0) hrowq (j140.get 3 rfl) (fun _ h => h.elim))) ?_) ForkT.nil
   rintro v143 w143 j143 q143 hu143 rfl a144 A144
   refine zI (Held.cons (j143.cells 4 rfl rfl) (Held.nil _)) (fun hH143 => ?_)
   refine zM [3] kr rfl ?_
   refine ForkT.cons (i := 3) A144 rfl kr (zO (t := 23) (b := b4) (off := 0) (c' := #[.slice (some ⟨b10, 0, none⟩) (trimN lq) l.length]) (g := false) (m := 1) 5 _ A144 kr j143 rfl kr rfl kr kr kr rfl (by first | decide | (simp; done)) kr rfl ?_) ForkT.nil
   intro w145 j145 q145
   refine zI (Held.cons (j145.cells 4 rfl rfl) (Held.nil _)) (fun hH145 => ?_)
   refine zM [4] kr rfl ?_
   refine ForkT.cons (i := 4) A144 rfl kr (zO (t := 23) (b := b6) (off := 0) (c' := #[.slice (some ⟨gr, 0, none⟩) lr.length capr]) (g := false) (m := 1) 4 _ A144 kr j145 rfl kr rfl kr kr kr rfl (by first | decide | (simp; done)) kr rfl ?_) ForkT.nil
   intro w146 j146 q146
   refine ⟨begun_tt kr, ?_⟩
   refine qB kr (nrm ?_)
   refine zA (C139 _ _ ?_)
   refine zQ ?_
   refine m_ret1 (v := .tuple #[.slice (some ⟨b10, 0, none⟩) (trimN lq) l.length, .slice (some ⟨gr, 0, none⟩) lr.length capr]) (rs := [.cell 4 23, .cell 5 23]) (vs := [.slice (some ⟨b10, 0, none⟩) (trimN lq) l.length, .slice (some ⟨gr, 0, none⟩) lr.length capr]) 1 A144 j146 rfl kr kr (fun w147 j147 q147 => ?_)
   refine ⟨(Res.cell (ad := ⟨b4, 0, none⟩) (cs := [.slice (some ⟨b10, 0, none⟩) (trimN lq) l.length]) (g := false) kr kr kr ir (j147.cells 5 rfl rfl) (Res.cell (ad := ⟨b6, 0, none⟩) (cs := [.slice (some ⟨gr, 0, none⟩) lr.length capr]) (g := false) kr kr kr ir (j147.cells 4 rfl rfl) Res.nil)), ?_⟩
   obtain ⟨he1, he2⟩ := divEnd hdiv hlt hvq
   exact ⟨j147.upd, _, rfl, _, _, Go.Gv.trimmed lq, lr, _, _, _, _, _, _, rfl, ⟨⟨rfl, (trimmed_length _).symm, trimmed_lt hrowq.lt, .inr ⟨_, _, rfl, j147.own_ge 3 rfl, j147.get 3 rfl, hrowq.trimmed⟩⟩, canon_trimmed _, by rw [val_trimmed]; exact he1⟩, ⟨⟨rfl, rfl, hrowr.lt, .inr ⟨_, _, rfl, j147.own_ge 7 rfl, j147.get 7 rfl, hrowr⟩⟩, hcanlr, he2⟩⟩
 ·
  intro k w9 hu9 hm1 hm2
  exact ⟨_, (List.replicate l.length (Value.int .u32 0)).toArray, (List.replicate l.length 0), [], none, 0, [], 0, j19.call hu9, hu9.le _, hrow10, .inl ⟨rfl, rfl, rfl, rfl⟩, .inl rfl, by rw [val_replicate]; rfl, by rw [Nat.div_eq_of_lt hm1]; simp [val], hd⟩
end Go.Proofs.Ytoocgllbbihoaaa
namespace Go.Proofs.Ytoocgllbbihoaaa
open Go Go.Gv Go.RowKit
set_option maxRecDepth 100000
set_option maxHeartbeats 1000000
def zeroE (y : Nat) : Int := if y = 0 then 14 else 0
theorem DivMod_c (w : World) (X : Hid) (hX : ∀ k o, X k o → k < w.heap.size) (ad : Option Addr) (len cap : Nat) (l : List Nat) (h : Limbs (rd w X) ad len cap l) (ad2 : Option Addr) (len2 cap2 : Nat) (l2 : List Nat) (h2 : Limbs (rd w X) ad2 len2 cap2 l2) : Calls Try.prog 75 #[.slice ad len cap, .slice ad2 len2 cap2] w (Ret E0 w fun w' v => DivV 93 w w' (or2 (chk2 l l2) (zeroE (val l2))) (val l / val l2) (val l % val l2) v) := by
 obtain rfl := h.hlen
 obtain rfl := h2.hlen
 have hcap := h.hcap
 have hbig := h.hbig
 have hcap2 := h2.hcap
 have hbig2 := h2.hbig
 refine zZ (n := 27) (vs := [.slice ad l.length cap, .slice ad2 l2.length cap2]) Try.func75 rfl rfl rfl kr (fun a0 A0 => ?_)
 have A0 : Fr 27 a0 [(0, .slice ad l.length cap), (1, .slice ad2 l2.length cap2)] := A0
 have j0 : St E0 w X w X [] := St.start hX
 refine zD (fun K1 C1 => ?_)
 refine zC ?_
 refine zB 3 [(6, .int .i64 0), (5, .slice none 0 0), (4, .slice none 0 0)] A0 kr kr (fun a2 A2 => ?_)
 refine zE ?_
 refine zA (C1 _ _ ?_)
 refine zD (fun K3 C3 => ?_)
 refine zD (fun K4 C4 => ?_)
 refine zC ?_
 refine zB 2 [(9, .slice ad2 l2.length cap2), (8, .slice ad l.length cap)] A2 kr kr (fun a5 A5 => ?_)
 refine wplI A5 kr (zK (d := 10) (f := 52) (cap := #[]) (vs := #[.slice ad l.length cap, .slice ad2 l2.length cap2]) A5 kr j0 rfl kr kr (fun w => Try.call52 _ w) (bcheck2 _ X0 (X0_lt _) _ _ _ l (h.mono Le.x0) _ _ _ l2 (h2.mono Le.x0)) ?_)
 rintro v6 w6 j6 q6 hu6 rfl a7 A7
 refine zB 1 [(7, .int .i64 (chk2 l l2))] A7 kr kr (fun a8 A8 => ?_)
 refine zE ?_
 refine zA (C4 _ _ ?_)
 refine zV ?_
 refine zD (fun K9 C9 => ?_)
 refine zC ?_
 refine zB 3 [(11, .bool ((chk2 l l2) != 0)), (13, .bool ((chk2 l l2) != 0)), (12, .int .i64 (chk2 l l2))] A8 kr kr (fun a10 A10 => ?_)
 refine zE ?_
 refine zA (C9 _ _ ?_)
 refine zS ((chk2 l l2) != 0) A10 kr kr (fun hc11 => ?_) (fun hc11 => ?_)
 ·
  have A12 := A10.set 11 (v' := .bool true) kr rfl (zG hc11)
  have ht13 : (chk2 l l2) ≠ 0 := by simpa using hc11
  refine zD (fun K14 C14 => ?_)
  refine zC ?_
  refine zB 4 [(6, .int .i64 (chk2 l l2)), (5, .slice none 0 0), (4, .slice none 0 0), (14, .int .i64 (chk2 l l2))] A12 kr kr (fun a15 A15 => ?_)
  refine zE ?_
  refine zA (C14 _ _ ?_)
  refine zQ ?_
  refine zU ?_
  refine zL ?_
  refine zR (v := .tuple #[.slice none 0 0, .slice none 0 0, .int .i64 (chk2 l l2)]) (rs := [.tmp 4, .tmp 5, .tmp 6]) A15 kr (Res.tmp kr (Res.tmp kr (Res.tmp kr Res.nil))) kr ?_
  exact ⟨j6.upd, _, rfl, by rw [or2_err ht13]; exact .inl ⟨ht13, rfl⟩⟩
 have A16 := A10.set 11 (v' := .bool false) kr rfl (zG hc11)
 have ht17 : (chk2 l l2) = 0 := by simpa using hc11
 obtain ⟨⟨hl1, c1⟩, hl2, c2⟩ := chk2_ok ht17
 refine zD (fun K18 C18 => ?_)
 refine zC ?_
 refine zB 4 [(15, .bool ((l2.length : Int) == 0)), (18, .bool ((l2.length : Int) == 0)), (17, .int .i64 (l2.length : Int)), (16, .slice ad2 l2.length cap2)] A16 kr kr (fun a19 A19 => ?_)
 refine zE ?_
 refine zA (C18 _ _ ?_)
 refine zS ((l2.length : Int) == 0) A19 kr kr (fun hc20 => ?_) (fun hc20 => ?_)
 ·
  have A21 := A19.set 15 (v' := .bool true) kr rfl (zG hc20)
  have ht22 : (l2.length : Int) = 0 := by simpa using hc20
  have hz : val l2 = 0 := by rw [List.eq_nil_of_length_eq_zero (by omega : l2.length = 0)]; rfl
  refine zD (fun K23 C23 => ?_)
  refine zC ?_
  refine zB 3 [(6, .int .i64 14), (5, .slice none 0 0), (4, .slice none 0 0)] A21 kr kr (fun a24 A24 => ?_)
  refine zE ?_
  refine zA (C23 _ _ ?_)
  refine zQ ?_
  refine zU ?_
  refine zL ?_
  refine zR (v := .tuple #[.slice none 0 0, .slice none 0 0, .int .i64 14]) (rs := [.tmp 4, .tmp 5, .tmp 6]) A24 kr (Res.tmp kr (Res.tmp kr (Res.tmp kr Res.nil))) kr ?_
  exact ⟨j6.upd, _, rfl, by rw [or2_ok ht17, zeroE, if_pos hz]; exact .inl ⟨by decide, rfl⟩⟩
 have A25 := A19.set 15 (v' := .bool false) kr rfl (zG hc20)
 have ht26 : (l2.length : Int) ≠ 0 := by simpa using hc20
 have hp : 0 < val l2 := canon_pos c2 (by rintro rfl; simp at ht26)
 refine i_skip ?_
 refine zW ?_
 refine zA (C3 _ _ ?_)
 refine zD (fun K27 C27 => ?_)
 refine zC ?_
 refine zB 2 [(21, .slice ad2 l2.length cap2), (20, .slice ad l.length cap)] A25 kr kr (fun a28 A28 => ?_)
 refine wplI A28 kr (zK (d := 22) (f := 95) (cap := #[]) (vs := #[.slice ad l.length cap, .slice ad2 l2.length cap2]) A28 kr j6 rfl kr kr (fun w => Try.call95 _ w) (divide_c _ X0 (X0_lt _) _ _ _ l ((h.mono q6).mono Le.x0) _ _ _ l2 ((h2.mono q6).mono Le.x0) c1 c2 (by omega) (by omega) hp) ?_)
 rintro v29 w29 j29 q29 hu29 ⟨u29, v229, lq29, lr29, adq29, lenq29, capq29, adr29, lenr29, capr29, rfl, hq29, hr29⟩ a30 A30
 refine zB 5 [(5, v229), (4, u29), (24, v229), (23, u29), (19, .tuple #[u29, v229])] A30 kr kr (fun a31 A31 => ?_)
 refine zE ?_
 refine zA (C27 _ _ ?_)
 refine zD (fun K32 C32 => ?_)
 refine zC ?_
 refine zB 5 [(6, .int .i64 0), (5, v229), (4, u29), (26, v229), (25, u29)] A31 kr kr (fun a33 A33 => ?_)
 refine zE ?_
 refine zA (C32 _ _ ?_)
 refine zQ ?_
 refine zR (v := .tuple #[u29, v229, .int .i64 0]) (rs := [.tmp 4, .tmp 5, .tmp 6]) A33 kr (Res.tmp kr (Res.tmp kr (Res.tmp kr Res.nil))) kr ?_
 have hsz := (j6).upd.size
 exact ⟨j29.upd, _, rfl, by rw [or2_ok ht17, zeroE, if_neg (by omega)]; exact .inr ⟨rfl, _, _, _, _, _, _, _, _, _, _, rfl, hq29.back hsz, Nat.le_trans (canon_len h.hlt hq29.canon (by rw [hq29.val]; exact Nat.div_le_self _ _)) hl1, hr29.back hsz, Nat.le_trans (canon_len h.hlt hr29.canon (by rw [hr29.val]; exact Nat.mod_le _ _)) hl1⟩⟩
end Go.Proofs.Ytoocgllbbihoaaa
namespace Go.Proofs.Ytoocgllbbihoaaa
open Go Go.Gv Go.RowKit
set_option maxRecDepth 100000
set_option maxHeartbeats 1000000
theorem chk2_of {l l2 : List Nat} (h : l.length ≤ 512) (hc : Canon l) (h2 : l2.length ≤ 512) (hc2 : Canon l2) : chk2 l l2 = 0 := by
  unfold chk2; rw [chkN_of h hc, chkN_of h2 hc2]; rfl
theorem Mul_n (w : World) (ad : Option Addr) (len cap x : Nat) (h : NatR (rd w X0) ad len cap x) (ad2 : Option Addr) (len2 cap2 y : Nat) (h2 : NatR (rd w X0) ad2 len2 cap2 y) (hx : x < 4294967296 ^ 512) (hy : y < 4294967296 ^ 512) (hf : x * y < 4294967296 ^ 512) : Calls Try.prog 76 #[.slice ad len cap, .slice ad2 len2 cap2] w (Ret E0 w fun w' v => ∃ u, v = .tuple #[u, .int .i64 0] ∧ NatV w w' u (x * y)) := by
  obtain ⟨l, hl, hc, rfl, hn⟩ := h.limbs hx
  obtain ⟨l2, hl2, hc2, rfl, hn2⟩ := h2.limbs hy
  refine (Mul_c w X0 (X0_lt _) ad len cap l hl ad2 len2 cap2 l2 hl2).mono ?_
  rintro e w' ⟨hu, v, rfl, hv⟩
  obtain ⟨u, lr, adr, lenr, capr, rfl, hown, _⟩ := hv.ok (by rw [or2_ok (chk2_of hn hc hn2 hc2)]; unfold fitE; rw [if_pos hf])
  exact ⟨hu, _, rfl, u, rfl, hown.natV⟩
theorem Add_n (w : World) (ad : Option Addr) (len cap x : Nat) (h : NatR (rd w X0) ad len cap x) (ad2 : Option Addr) (len2 cap2 y : Nat) (h2 : NatR (rd w X0) ad2 len2 cap2 y) (hx : x < 4294967296 ^ 512) (hy : y < 4294967296 ^ 512) (hf : x + y < 4294967296 ^ 512) : Calls Try.prog 77 #[.slice ad len cap, .slice ad2 len2 cap2] w (Ret E0 w fun w' v => ∃ u, v = .tuple #[u, .int .i64 0] ∧ NatV w w' u (x + y)) := by
  obtain ⟨l, hl, hc, rfl, hn⟩ := h.limbs hx
  obtain ⟨l2, hl2, hc2, rfl, hn2⟩ := h2.limbs hy
  refine (Add_c w X0 (X0_lt _) ad len cap l hl ad2 len2 cap2 l2 hl2).mono ?_
  rintro e w' ⟨hu, v, rfl, hv⟩
  obtain ⟨u, lr, adr, lenr, capr, rfl, hown, _⟩ := hv.ok (by rw [or2_ok (chk2_of hn hc hn2 hc2)]; unfold fitE; rw [if_pos hf])
  exact ⟨hu, _, rfl, u, rfl, hown.natV⟩
theorem Sub_n (w : World) (ad : Option Addr) (len cap x : Nat) (h : NatR (rd w X0) ad len cap x) (ad2 : Option Addr) (len2 cap2 y : Nat) (h2 : NatR (rd w X0) ad2 len2 cap2 y) (hx : x < 4294967296 ^ 512) (hy : y < 4294967296 ^ 512) (hf : y ≤ x) : Calls Try.prog 78 #[.slice ad len cap, .slice ad2 len2 cap2] w (Ret E0 w fun w' v => ∃ u, v = .tuple #[u, .int .i64 0] ∧ NatV w w' u (x - y)) := by
  obtain ⟨l, hl, hc, rfl, hn⟩ := h.limbs hx
  obtain ⟨l2, hl2, hc2, rfl, hn2⟩ := h2.limbs hy
  refine (Sub_c w X0 (X0_lt _) ad len cap l hl ad2 len2 cap2 l2 hl2).mono ?_
  rintro e w' ⟨hu, v, rfl, hv⟩
  obtain ⟨u, lr, adr, lenr, capr, rfl, hown, _⟩ := hv.ok (by rw [or2_ok (chk2_of hn hc hn2 hc2)]; unfold subE; rw [if_neg (by omega)])
  exact ⟨hu, _, rfl, u, rfl, hown.natV⟩
theorem Sub_less (w : World) (ad : Option Addr) (len cap x : Nat) (h : NatR (rd w X0) ad len cap x) (ad2 : Option Addr) (len2 cap2 y : Nat) (h2 : NatR (rd w X0) ad2 len2 cap2 y) (hx : x < 4294967296 ^ 512) (hy : y < 4294967296 ^ 512) (hf : x < y) : Calls Try.prog 78 #[.slice ad len cap, .slice ad2 len2 cap2] w (Ret E0 w fun _ v => v = .tuple #[.slice none 0 0, .int .i64 7]) := by
  obtain ⟨l, hl, hc, rfl, hn⟩ := h.limbs hx
  obtain ⟨l2, hl2, hc2, rfl, hn2⟩ := h2.limbs hy
  refine (Sub_c w X0 (X0_lt _) ad len cap l hl ad2 len2 cap2 l2 hl2).mono ?_
  rintro e w' ⟨hu, v, rfl, hv⟩
  have he : or2 (chk2 l l2) (subE (val l) (val l2)) = 7 := by rw [or2_ok (chk2_of hn hc hn2 hc2)]; unfold subE; rw [if_pos hf]
  rw [he] at hv
  exact ⟨hu, _, rfl, hv.err (by decide)⟩
theorem GCD_n (w : World) (ad : Option Addr) (len cap x : Nat) (h : NatR (rd w X0) ad len cap x) (ad2 : Option Addr) (len2 cap2 y : Nat) (h2 : NatR (rd w X0) ad2 len2 cap2 y) (hx : x < 4294967296 ^ 512) (hy : y < 4294967296 ^ 512) : Calls Try.prog 35 #[.slice ad len cap, .slice ad2 len2 cap2] w (Ret E0 w fun w' v => ∃ u, v = .tuple #[u, .int .i64 0] ∧ NatV w w' u (Nat.gcd x y)) := by
  obtain ⟨l, hl, hc, rfl, hn⟩ := h.limbs hx
  obtain ⟨l2, hl2, hc2, rfl, hn2⟩ := h2.limbs hy
  refine (GCD_c w X0 (X0_lt _) ad len cap l hl ad2 len2 cap2 l2 hl2).mono ?_
  rintro e w' ⟨hu, v, rfl, hv⟩
  obtain ⟨u, lr, adr, lenr, capr, rfl, hown, _⟩ := hv.ok (chk2_of hn hc hn2 hc2)
  exact ⟨hu, _, rfl, u, rfl, hown.natV⟩
theorem DivMod_n (w : World) (ad : Option Addr) (len cap x : Nat) (h : NatR (rd w X0) ad len cap x) (ad2 : Option Addr) (len2 cap2 y : Nat) (h2 : NatR (rd w X0) ad2 len2 cap2 y) (hx : x < 4294967296 ^ 512) (hy : y < 4294967296 ^ 512) (hd : 0 < y) : Calls Try.prog 75 #[.slice ad len cap, .slice ad2 len2 cap2] w (Ret E0 w fun w' v => ∃ u u2, v = .tuple #[u, u2, .int .i64 0] ∧ NatV w w' u (x / y) ∧ NatV w w' u2 (x % y)) := by
  obtain ⟨l, hl, hc, rfl, hn⟩ := h.limbs hx
  obtain ⟨l2, hl2, hc2, rfl, hn2⟩ := h2.limbs hy
  refine (DivMod_c w X0 (X0_lt _) ad len cap l hl ad2 len2 cap2 l2 hl2).mono ?_
  rintro e w' ⟨hu, v, rfl, hv⟩
  have he : or2 (chk2 l l2) (zeroE (val l2)) = 0 := by rw [or2_ok (chk2_of hn hc hn2 hc2)]; unfold zeroE; rw [if_neg (by omega)]
  rcases hv with ⟨h0, _⟩ | ⟨_, u, u2, a1, a2, a3, a4, a5, a6, a7, a8, rfl, hq, _, hr, _⟩
  · exact absurd he h0
  · exact ⟨hu, _, rfl, u, u2, rfl, hq.natV, hr.natV⟩
theorem clone_n (w : World) (ad : Option Addr) (len cap x : Nat) (h : NatR (rd w X0) ad len cap x) (hx : x < 4294967296 ^ 512) : Calls Try.prog 53 #[.slice ad len cap] w (Ret E0 w fun w' v => NatV w w' v x) := by
  obtain ⟨l, hl, hc, rfl, hn⟩ := h.limbs hx
  refine (clone_c w X0 (X0_lt _) ad len cap l hl (by rw [hl.hlen]; omega)).mono ?_
  rintro e w' ⟨hu, v, rfl, ad', len', cap', hown⟩
  exact ⟨hu, _, rfl, OwnN.natV ⟨hown, hc, rfl⟩⟩
theorem from_n (w : World) (x : Nat) (hx : x < 18446744073709551616) : Calls Try.prog 91 #[.int .u64 (x : Int)] w (Ret E0 w fun w' v => NatV w w' v x) := by
  refine (from_c w X0 (X0_lt _) x hx).mono ?_
  rintro e w' ⟨hu, v, rfl, l, ad, len, cap, h1, h2, h3⟩
  exact ⟨hu, _, rfl, OwnN.natV ⟨h1, h2, h3⟩⟩
end Go.Proofs.Ytoocgllbbihoaaa
namespace Go.Proofs.Ytoocgllbbihoaaa
open Go Go.Gv Go.RowKit
set_option maxRecDepth 100000
set_option maxHeartbeats 1000000
theorem times_c (w : World) (X : Hid) (hX : ∀ k o, X k o → k < w.heap.size) (ad : Option Addr) (len cap x : Nat) (h : NatR (rd w X) ad len cap x) (ad2 : Option Addr) (len2 cap2 y : Nat) (h2 : NatR (rd w X) ad2 len2 cap2 y) (hx : x < 4294967296 ^ 512) (hy : y < 4294967296 ^ 512) (hf : x * y < 4294967296 ^ 512) : Calls Try.prog 59 #[.slice ad len cap, .slice ad2 len2 cap2] w (Ret E0 w fun w' v => NatX X w' v (x * y)) := by
 refine zZ (n := 14) (vs := [.slice ad len cap, .slice ad2 len2 cap2]) Try.func59 rfl rfl rfl kr (fun a0 A0 => ?_)
 have A0 : Fr 14 a0 [(0, .slice ad len cap), (1, .slice ad2 len2 cap2)] := A0
 have j0 : St E0 w X w X [] := St.start hX
 refine zD (fun K1 C1 => ?_)
 refine zC ?_
 refine zB 1 [(4, .slice none 0 0)] A0 kr kr (fun a2 A2 => ?_)
 refine zE ?_
 refine zA (C1 _ _ ?_)
 refine zD (fun K3 C3 => ?_)
 refine zC ?_
 refine zB 2 [(9, .slice ad2 len2 cap2), (8, .slice ad len cap)] A2 kr kr (fun a4 A4 => ?_)
 refine wplI A4 kr (zK (d := 10) (f := 76) (cap := #[]) (vs := #[.slice ad len cap, .slice ad2 len2 cap2]) A4 kr j0 rfl kr kr (fun w => Try.call76 _ w) (Mul_n _ _ _ _ x (h.mono Le.x0) _ _ _ y (h2.mono Le.x0) (by first | assumption | omega) (by first | assumption | omega) (by first | assumption | omega)) ?_)
 rintro v5 w5 j5 q5 hu5 ⟨u5, rfl, ⟨ad5, len5, cap5, rfl, hn5⟩⟩ a6 A6
 have hN5 := hn5 _ j0.lt
 refine zB 5 [(6, .int .i64 0), (5, .slice ad5 len5 cap5), (12, .int .i64 0), (11, .slice ad5 len5 cap5), (7, .tuple #[.slice ad5 len5 cap5, .int .i64 0])] A6 kr kr (fun a7 A7 => ?_)
 refine zE ?_
 refine zA (C3 _ _ ?_)
 refine zD (fun K8 C8 => ?_)
 refine zC ?_
 refine zB 2 [(4, .slice ad5 len5 cap5), (13, .slice ad5 len5 cap5)] A7 kr kr (fun a9 A9 => ?_)
 refine zE ?_
 refine zA (C8 _ _ ?_)
 refine zQ ?_
 refine zR (v := .slice ad5 len5 cap5) (rs := [.tmp 4]) A9 kr (Res.tmp kr Res.nil) kr ?_
 exact ⟨j5.upd, _, rfl, j5.lastN hN5⟩
theorem plus_c (w : World) (X : Hid) (hX : ∀ k o, X k o → k < w.heap.size) (ad : Option Addr) (len cap x : Nat) (h : NatR (rd w X) ad len cap x) (ad2 : Option Addr) (len2 cap2 y : Nat) (h2 : NatR (rd w X) ad2 len2 cap2 y) (hx : x < 4294967296 ^ 512) (hy : y < 4294967296 ^ 512) (hf : x + y < 4294967296 ^ 512) : Calls Try.prog 60 #[.slice ad len cap, .slice ad2 len2 cap2] w (Ret E0 w fun w' v => NatX X w' v (x + y)) := by
 refine zZ (n := 14) (vs := [.slice ad len cap, .slice ad2 len2 cap2]) Try.func60 rfl rfl rfl kr (fun a0 A0 => ?_)
 have A0 : Fr 14 a0 [(0, .slice ad len cap), (1, .slice ad2 len2 cap2)] := A0
 have j0 : St E0 w X w X [] := St.start hX
 refine zD (fun K1 C1 => ?_)
 refine zC ?_
 refine zB 1 [(4, .slice none 0 0)] A0 kr kr (fun a2 A2 => ?_)
 refine zE ?_
 refine zA (C1 _ _ ?_)
 refine zD (fun K3 C3 => ?_)
 refine zC ?_
 refine zB 2 [(9, .slice ad2 len2 cap2), (8, .slice ad len cap)] A2 kr kr (fun a4 A4 => ?_)
 refine wplI A4 kr (zK (d := 10) (f := 77) (cap := #[]) (vs := #[.slice ad len cap, .slice ad2 len2 cap2]) A4 kr j0 rfl kr kr (fun w => Try.call77 _ w) (Add_n _ _ _ _ x (h.mono Le.x0) _ _ _ y (h2.mono Le.x0) (by first | assumption | omega) (by first | assumption | omega) (by first | assumption | omega)) ?_)
 rintro v5 w5 j5 q5 hu5 ⟨u5, rfl, ⟨ad5, len5, cap5, rfl, hn5⟩⟩ a6 A6
 have hN5 := hn5 _ j0.lt
 refine zB 5 [(6, .int .i64 0), (5, .slice ad5 len5 cap5), (12, .int .i64 0), (11, .slice ad5 len5 cap5), (7, .tuple #[.slice ad5 len5 cap5, .int .i64 0])] A6 kr kr (fun a7 A7 => ?_)
 refine zE ?_
 refine zA (C3 _ _ ?_)
 refine zD (fun K8 C8 => ?_)
 refine zC ?_
 refine zB 2 [(4, .slice ad5 len5 cap5), (13, .slice ad5 len5 cap5)] A7 kr kr (fun a9 A9 => ?_)
 refine zE ?_
 refine zA (C8 _ _ ?_)
 refine zQ ?_
 refine zR (v := .slice ad5 len5 cap5) (rs := [.tmp 4]) A9 kr (Res.tmp kr Res.nil) kr ?_
 exact ⟨j5.upd, _, rfl, j5.lastN hN5⟩
theorem minus_ge (w : World) (X : Hid) (hX : ∀ k o, X k o → k < w.heap.size) (ad : Option Addr) (len cap x : Nat) (h : NatR (rd w X) ad len cap x) (ad2 : Option Addr) (len2 cap2 y : Nat) (h2 : NatR (rd w X) ad2 len2 cap2 y) (hx : x < 4294967296 ^ 512) (hy : y < 4294967296 ^ 512) (hf : y ≤ x) : Calls Try.prog 61 #[.slice ad len cap, .slice ad2 len2 cap2] w (Ret E0 w fun w' v => ∃ u, v = .tuple #[u, .bool false] ∧ NatX X w' u (x - y)) := by
 refine zZ (n := 26) (vs := [.slice ad len cap, .slice ad2 len2 cap2]) Try.func61 rfl rfl rfl kr (fun a0 A0 => ?_)
 have A0 : Fr 26 a0 [(0, .slice ad len cap), (1, .slice ad2 len2 cap2)] := A0
 have j0 : St E0 w X w X [] := St.start hX
 refine zD (fun K1 C1 => ?_)
 refine zC ?_
 refine zB 2 [(5, .bool false), (4, .slice none 0 0)] A0 kr kr (fun a2 A2 => ?_)
 refine zE ?_
 refine zA (C1 _ _ ?_)
 refine zD (fun K3 C3 => ?_)
 refine zD (fun K4 C4 => ?_)
 refine zC ?_
 refine zB 2 [(12, .slice ad2 len2 cap2), (11, .slice ad len cap)] A2 kr kr (fun a5 A5 => ?_)
 refine wplI A5 kr (zK (d := 13) (f := 78) (cap := #[]) (vs := #[.slice ad len cap, .slice ad2 len2 cap2]) A5 kr j0 rfl kr kr (fun w => Try.call78 _ w) (Sub_n _ _ _ _ x (h.mono Le.x0) _ _ _ y (h2.mono Le.x0) (by first | assumption | omega) (by first | assumption | omega) (by first | assumption | omega)) ?_)
 rintro v6 w6 j6 q6 hu6 ⟨u6, rfl, ⟨ad6, len6, cap6, rfl, hn6⟩⟩ a7 A7
 have hN6 := hn6 _ j0.lt
 refine zB 5 [(7, .int .i64 0), (6, .slice ad6 len6 cap6), (15, .int .i64 0), (14, .slice ad6 len6 cap6), (10, .tuple #[.slice ad6 len6 cap6, .int .i64 0])] A7 kr kr (fun a8 A8 => ?_)
 refine zE ?_
 refine zA (C4 _ _ ?_)
 refine zD (fun K9 C9 => ?_)
 refine zC ?_
 refine zB 2 [(17, .bool true), (16, .int .i64 0)] A8 kr kr (fun a10 A10 => ?_)
 refine zE ?_
 refine zA (C9 _ _ ?_)
 refine qG A10 kr kr ?_
 refine zD (fun K11 C11 => ?_)
 refine zC ?_
 refine zB 3 [(5, .bool false), (4, .slice ad6 len6 cap6), (18, .slice ad6 len6 cap6)] A10 kr kr (fun a12 A12 => ?_)
 refine zE ?_
 refine zA (C11 _ _ ?_)
 refine zQ ?_
 refine zL ?_
 refine zR (v := .tuple #[.slice ad6 len6 cap6, .bool false]) (rs := [.tmp 4, .tmp 5]) A12 kr (Res.tmp kr (Res.tmp kr Res.nil)) kr ?_
 exact ⟨j6.upd, _, rfl, _, rfl, j6.lastN hN6⟩
theorem minus_lt (w : World) (X : Hid) (hX : ∀ k o, X k o → k < w.heap.size) (ad : Option Addr) (len cap x : Nat) (h : NatR (rd w X) ad len cap x) (ad2 : Option Addr) (len2 cap2 y : Nat) (h2 : NatR (rd w X) ad2 len2 cap2 y) (hx : x < 4294967296 ^ 512) (hy : y < 4294967296 ^ 512) (hf : x < y) : Calls Try.prog 61 #[.slice ad len cap, .slice ad2 len2 cap2] w (Ret E0 w fun w' v => ∃ u, v = .tuple #[u, .bool true] ∧ NatX X w' u (y - x)) := by
 refine zZ (n := 26) (vs := [.slice ad len cap, .slice ad2 len2 cap2]) Try.func61 rfl rfl rfl kr (fun a0 A0 => ?_)
 have A0 : Fr 26 a0 [(0, .slice ad len cap), (1, .slice ad2 len2 cap2)] := A0
 have j0 : St E0 w X w X [] := St.start hX
 refine zD (fun K1 C1 => ?_)
 refine zC ?_
 refine zB 2 [(5, .bool false), (4, .slice none 0 0)] A0 kr kr (fun a2 A2 => ?_)
 refine zE ?_
 refine zA (C1 _ _ ?_)
 refine zD (fun K3 C3 => ?_)
 refine zD (fun K4 C4 => ?_)
 refine zC ?_
 refine zB 2 [(12, .slice ad2 len2 cap2), (11, .slice ad len cap)] A2 kr kr (fun a5 A5 => ?_)
 refine wplI A5 kr (zK (d := 13) (f := 78) (cap := #[]) (vs := #[.slice ad len cap, .slice ad2 len2 cap2]) A5 kr j0 rfl kr kr (fun w => Try.call78 _ w) (Sub_less _ _ _ _ x (h.mono Le.x0) _ _ _ y (h2.mono Le.x0) (by first | assumption | omega) (by first | assumption | omega) (by first | assumption | omega)) ?_)
 rintro v6 w6 j6 q6 hu6 rfl a7 A7
 refine zB 5 [(7, .int .i64 7), (6, .slice none 0 0), (15, .int .i64 7), (14, .slice none 0 0), (10, .tuple #[.slice none 0 0, .int .i64 7])] A7 kr kr (fun a8 A8 => ?_)
 refine zE ?_
 refine zA (C4 _ _ ?_)
 refine zD (fun K9 C9 => ?_)
 refine zC ?_
 refine zB 2 [(17, .bool false), (16, .int .i64 7)] A8 kr kr (fun a10 A10 => ?_)
 refine zE ?_
 refine zA (C9 _ _ ?_)
 refine qH A10 kr kr ?_
 refine i_skip ?_
 refine zA (C3 _ _ ?_)
 refine zD (fun K11 C11 => ?_)
 refine zC ?_
 refine zB 2 [(21, .slice ad len cap), (20, .slice ad2 len2 cap2)] A10 kr kr (fun a12 A12 => ?_)
 refine wplI A12 kr (zK (d := 22) (f := 78) (cap := #[]) (vs := #[.slice ad2 len2 cap2, .slice ad len cap]) A12 kr j6 rfl kr kr (fun w => Try.call78 _ w) (Sub_n _ _ _ _ y ((h2.mono q6).mono Le.x0) _ _ _ x ((h.mono q6).mono Le.x0) (by first | assumption | omega) (by first | assumption | omega) (by first | assumption | omega)) ?_)
 rintro v13 w13 j13 q13 hu13 ⟨u13, rfl, ⟨ad13, len13, cap13, rfl, hn13⟩⟩ a14 A14
 have hN13 := hn13 _ j6.lt
 refine zB 5 [(9, .int .i64 0), (8, .slice ad13 len13 cap13), (24, .int .i64 0), (23, .slice ad13 len13 cap13), (19, .tuple #[.slice ad13 len13 cap13, .int .i64 0])] A14 kr kr (fun a15 A15 => ?_)
 refine zE ?_
 refine zA (C11 _ _ ?_)
 refine zD (fun K16 C16 => ?_)
 refine zC ?_
 refine zB 3 [(5, .bool true), (4, .slice ad13 len13 cap13), (25, .slice ad13 len13 cap13)] A15 kr kr (fun a17 A17 => ?_)
 refine zE ?_
 refine zA (C16 _ _ ?_)
 refine zQ ?_
 refine zR (v := .tuple #[.slice ad13 len13 cap13, .bool true]) (rs := [.tmp 4, .tmp 5]) A17 kr (Res.tmp kr (Res.tmp kr Res.nil)) kr ?_
 exact ⟨j13.upd, _, rfl, _, rfl, j13.lastN hN13⟩
theorem minus_c (w : World) (X : Hid) (hX : ∀ k o, X k o → k < w.heap.size) (ad : Option Addr) (len cap x : Nat) (h : NatR (rd w X) ad len cap x) (ad2 : Option Addr) (len2 cap2 y : Nat) (h2 : NatR (rd w X) ad2 len2 cap2 y) (hx : x < 4294967296 ^ 512) (hy : y < 4294967296 ^ 512) : Calls Try.prog 61 #[.slice ad len cap, .slice ad2 len2 cap2] w (Ret E0 w fun w' v => ∃ u, v = .tuple #[u, .bool (decide (x < y))] ∧ NatX X w' u (if x < y then y - x else x - y)) := by
  by_cases hf : x < y
  · rw [if_pos hf, decide_eq_true hf]; exact minus_lt w X hX ad len cap x h ad2 len2 cap2 y h2 hx hy hf
  · rw [if_neg hf, decide_eq_false hf]; exact minus_ge w X hX ad len cap x h ad2 len2 cap2 y h2 hx hy (by omega)
theorem unit_c (w : World) (X : Hid) (hX : ∀ k o, X k o → k < w.heap.size) (ad : Option Addr) (len cap x : Nat) (h : NatR (rd w X) ad len cap x) : Calls Try.prog 34 #[.slice ad len cap] w (Ret E0 w fun _ v => v = .bool (decide (x = 1))) := by
 refine zZ (n := 12) (vs := [.slice ad len cap]) Try.func34 rfl rfl rfl kr (fun a0 A0 => ?_)
 have A0 : Fr 12 a0 [(0, .slice ad len cap)] := A0
 have j0 : St E0 w X w X [] := St.start hX
 refine zD (fun K1 C1 => ?_)
 refine zC ?_
 refine zB 1 [(2, .bool false)] A0 kr kr (fun a2 A2 => ?_)
 refine zE ?_
 refine zA (C1 _ _ ?_)
 refine zD (fun K3 C3 => ?_)
 refine zC ?_
 refine zB 4 [(6, .bool ((len : Int) == 1)), (5, .bool ((len : Int) == 1)), (4, .int .i64 (len : Int)), (3, .slice ad len cap)] A2 kr kr (fun a4 A4 => ?_)
 rcases Bool.eq_false_or_eq_true ((len : Int) == 1) with hc5 | hc5
 ·
  have A6 := A4.set 6 (v' := .bool true) kr rfl (zG hc5)
  have ht7 : (len : Int) = 1 := by simpa using hc5
  obtain ⟨bk, of, rfl, hx1, hat⟩ := h.one (by omega)
  refine zB 1 [(7, .slice (some ⟨bk, of, none⟩) len cap)] A6 kr kr (fun a8 A8 => ?_)
  refine wplI A8 kr (zJ (d := 8) (v := .pointer (some ⟨bk, of, none⟩)) A8 kr (zP (t := 23) (e := 93) (b := bk) (off := of) (len := len) (cap := cap) (kd := .i64) (i := 0) (g := false) (m := 1) (off' := of) rfl kr kr kr kr (by omega) (by omega) kr _) ?_)
  intro a9 A9
  refine wplI A9 kr (zJ (d := 9) (v := .int .u32 (x : Int)) A9 kr (zF (t := 93) (g := false) (vs := [.int .u32 (x : Int)]) (ad := ⟨bk, of, none⟩) rfl kr kr ir (hat).cells) ?_)
  intro a10 A10
  refine zB 3 [(2, .bool ((x : Int) == 1)), (11, .bool ((x : Int) == 1)), (10, .bool ((x : Int) == 1))] A10 kr kr (fun a11 A11 => ?_)
  refine zE ?_
  refine zA (C3 _ _ ?_)
  refine zQ ?_
  refine zR (v := .bool ((x : Int) == 1)) (rs := [.tmp 2]) A11 kr (Res.tmp kr Res.nil) kr ?_
  exact ⟨j0.upd, _, rfl, zG (by rw [Bool.eq_iff_iff]; simp; omega)⟩
 have A12 := A4.set 6 (v' := .bool false) kr rfl (zG hc5)
 have ht13 : (len : Int) ≠ 1 := by simpa using hc5
 have hx1 : x ≠ 1 := fun e => by subst e; exact absurd h.of_one (by omega)
 refine zB 6 [(2, .bool false), (11, .bool false), (10, undef), (9, undef), (8, undef), (7, undef)] A12 kr kr (fun a14 A14 => ?_)
 refine zE ?_
 refine zA (C3 _ _ ?_)
 refine zQ ?_
 refine zR (v := .bool false) (rs := [.tmp 2]) A14 kr (Res.tmp kr Res.nil) kr ?_
 exact ⟨j0.upd, _, rfl, zG (by simp [hx1])⟩
end Go.Proofs.Ytoocgllbbihoaaa

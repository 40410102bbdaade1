/- For every process, list and number the law MdpShifts answers true, and each argument reads afterwards as before. Conditions: none. By an AI agent. -/
import Derived.ProofKit
import Derived.Test.YtoocgllbbihoaaaRows
import Derived.Test.YtoocgllbbihoaaaBaseA
import Derived.Test.YtoocgllbbihoaaaBaseB
import Derived.Test.YtoocgllbbihoaaaBaseC
import Derived.Test.YtoocgllbbihoaaaBaseD
import Derived.Test.YtoocgllbbihoaaaBaseE
import Derived.Test.YtoocgllbbihoaaaBaseF
import Derived.Test.YtoocgllbbihoaaaBaseG
import Derived.Test.YtoocgllbbihoaaaBaseH
set_option linter.unusedVariables false
set_option linter.unusedSimpArgs false
set_option linter.unnecessarySimpa false
namespace Go.Proofs.Ytoocgllbbihoaaa
open Go Go.Gv Go.RowKit
set_option maxRecDepth 100000
set_option maxHeartbeats 1000000
theorem shifts_c (w : World) (X : Hid) (hX : ∀ k o, X k o → k < w.heap.size) (m : Mdp) (ad : Option Addr) (len cap : Nat) (h : Limbs (rd w X) ad len cap m.disc.ln) (ae : Option Addr) (le ce : Nat) (h2 : Limbs (rd w X) ae le ce m.disc.ld) (st : Option Addr) (ls cs : Nat) (hst : StatesR (rd w X) st ls cs m.states) (v : List Raw) (av : Option Addr) (lv cv : Nat) (hv : Rats (rd w X) av lv cv v) (c : Raw) (acx : Option Addr) (lcx ccx : Nat) (hcn : Limbs (rd w X) acx lcx ccx c.ln) (ad9 : Option Addr) (ld9 cd9 : Nat) (hcd : Limbs (rd w X) ad9 ld9 cd9 c.ld) : Calls Try.prog 4 #[.agg #[.bool m.disc.neg, .slice ad len cap, .slice ae le ce, .slice st ls cs], .slice av lv cv, .agg #[.bool c.neg, .slice acx lcx ccx, .slice ad9 ld9 cd9]] w (Ret E0 w fun _ v => v = .bool true) := by
 obtain rfl := hv.hlen
 have hcapv := hv.hcap
 have hbigv := hv.hbig
 obtain rfl := hst.hlen
 have hcaps := hst.hcap
 have hbigs := hst.hbig
 obtain ⟨bx, bi, be, hB⟩ : ∃ bx bi be, m.backV v = (bx, bi, be) := ⟨_, _, _, rfl⟩
 obtain ⟨ux, ui, ue, hW⟩ : ∃ bx bi be, m.backV (addAll v c) = (bx, bi, be) := ⟨_, _, _, rfl⟩
 refine zZ (n := 150) (vs := [.agg #[.bool m.disc.neg, .slice ad len cap, .slice ae le ce, .slice st m.states.length cs], .slice av v.length cv, .agg #[.bool c.neg, .slice acx lcx ccx, .slice ad9 ld9 cd9]]) Try.func4 rfl rfl rfl kr (fun a0 A0 => ?_)
 have A0 : Fr 150 a0 [(0, .agg #[.bool m.disc.neg, .slice ad len cap, .slice ae le ce, .slice st m.states.length cs]), (1, .slice av v.length cv), (2, .agg #[.bool c.neg, .slice acx lcx ccx, .slice ad9 ld9 cd9])] := A0
 have j0 : St E0 w X w X [] := St.start hX
 refine zD (fun K1 C1 => ?_)
 refine zC ?_
 refine wplI A0 kr (zN (d := 3) (fun b => .pointer (some ⟨b, 0, none⟩)) (.cells #[.bool m.disc.neg, .slice ad len cap, .slice ae le ce, .slice st m.states.length cs] 28 (0, 0)) A0 kr j0 kw ?_)
 intro b2 w2 Y2 j2 q2 hu2 a3 A3
 refine wplI A3 kr (zN (d := 5) (fun b => .pointer (some ⟨b, 0, none⟩)) (.cells #[.bool c.neg, .slice acx lcx ccx, .slice ad9 ld9 cd9] 25 (0, 0)) A3 kr j2 kw ?_)
 intro b4 w4 Y4 j4 q4 hu4 a5 A5
 refine zB 1 [(6, .bool false)] A5 kr kr (fun a6 A6 => ?_)
 refine zE ?_
 refine zA (C1 _ _ ?_)
 refine zD (fun K7 C7 => ?_)
 refine zD (fun K8 C8 => ?_)
 refine zC ?_
 refine wplI A6 kr (zJ (d := 22) (v := .agg #[.bool m.disc.neg, .slice ad len cap, .slice ae le ce, .slice st m.states.length cs]) A6 kr (zF (t := 28) (g := true) (vs := [.bool m.disc.neg, .slice ad len cap, .slice ae le ce, .slice st m.states.length cs]) (ad := ⟨b2, 0, none⟩) rfl kr kr ir (j4.cells 1 rfl rfl)) ?_)
 intro a9 A9
 refine wplI A9 kr (zK (d := 23) (f := 7) (cap := #[]) (vs := #[.agg #[.bool m.disc.neg, .slice ad len cap, .slice ae le ce, .slice st m.states.length cs]]) A9 kr j4 rfl kr kr (fun w => Try.call7 _ w) (Long_c _ _ j4.lt m _ _ _ (h.mono (Le2 q2 q4)) _ _ _ (h2.mono (Le2 q2 q4)) _ _ _ (hst.mono (Le2 q2 q4))) ?_)
 rintro v10 w10 j10 q10 hu10 ⟨bb10, rfl⟩ a11 A11
 refine zB 1 [(24, .bool bb10)] A11 kr kr (fun a12 A12 => ?_)
 rcases Bool.eq_false_or_eq_true bb10 with hc13 | hc13
 ·
  have A14 := A12.set 24 (v' := .bool true) kr rfl (zG hc13)
  have ht15 : bb10 = true := by simpa using hc13
  refine zB 12 [(36, .bool true), (35, undef), (34, undef), (33, .bool true), (32, .bool true), (31, undef), (30, undef), (29, undef), (28, .bool true), (27, .bool true), (26, undef), (25, undef)] A14 kr kr (fun a16 A16 => ?_)
  refine zE ?_
  refine zA (C8 _ _ ?_)
  refine qG A16 kr kr ?_
  refine zD (fun K17 C17 => ?_)
  refine zC ?_
  refine wplI A16 kr (zK (d := 37) (f := 9) (cap := #[]) (vs := #[]) A16 kr j10 rfl kr kr (fun w => Try.call9 _ w) (awake_c _ _ j10.lt) ?_)
  rintro v18 w18 j18 q18 hu18 rfl a19 A19
  refine zB 1 [(6, .bool true)] A19 kr kr (fun a20 A20 => ?_)
  refine zE ?_
  refine zA (C17 _ _ ?_)
  refine zQ ?_
  refine zL ?_
  refine zR (v := .bool true) (rs := [.tmp 6]) A20 kr (Res.tmp kr Res.nil) kr ?_
  exact ⟨j18.upd, _, rfl, rfl⟩
 have A21 := A12.set 24 (v' := .bool false) kr rfl (zG hc13)
 have ht22 : bb10 = false := by simpa using hc13
 try have hl20_10 := (hbb10 ht22).1
 try have hl200_10 := (hbb10 ht22).2
 refine zB 1 [(25, .slice av v.length cv)] A21 kr kr (fun a23 A23 => ?_)
 refine wplI A23 kr (zK (d := 26) (f := 8) (cap := #[]) (vs := #[.slice av v.length cv]) A23 kr j10 rfl kr kr (fun w => Try.call8 _ w) (LongList_c _ _ j10.lt _ _ _ v (hv.mono (Le3 q2 q4 q10))) ?_)
 rintro v24 w24 j24 q24 hu24 ⟨bb24, rfl, hbb24⟩ a25 A25
 refine zB 2 [(28, .bool bb24), (27, .bool bb24)] A25 kr kr (fun a26 A26 => ?_)
 rcases Bool.eq_false_or_eq_true bb24 with hc27 | hc27
 ·
  have A28 := A26.set 28 (v' := .bool true) kr rfl (zG hc27)
  have ht29 : bb24 = true := by simpa using hc27
  refine zB 8 [(36, .bool true), (35, undef), (34, undef), (33, .bool true), (32, .bool true), (31, undef), (30, undef), (29, undef)] A28 kr kr (fun a30 A30 => ?_)
  refine zE ?_
  refine zA (C8 _ _ ?_)
  refine qG A30 kr kr ?_
  refine zD (fun K31 C31 => ?_)
  refine zC ?_
  refine wplI A30 kr (zK (d := 37) (f := 9) (cap := #[]) (vs := #[]) A30 kr j24 rfl kr kr (fun w => Try.call9 _ w) (awake_c _ _ j24.lt) ?_)
  rintro v32 w32 j32 q32 hu32 rfl a33 A33
  refine zB 1 [(6, .bool true)] A33 kr kr (fun a34 A34 => ?_)
  refine zE ?_
  refine zA (C31 _ _ ?_)
  refine zQ ?_
  refine zL ?_
  refine zR (v := .bool true) (rs := [.tmp 6]) A34 kr (Res.tmp kr Res.nil) kr ?_
  exact ⟨j32.upd, _, rfl, rfl⟩
 have A35 := A26.set 28 (v' := .bool false) kr rfl (zG hc27)
 have ht36 : bb24 = false := by simpa using hc27
 try have hl20_24 := (hbb24 ht36).1
 try have hl200_24 := (hbb24 ht36).2
 refine wplI A35 kr (zJ (d := 29) (v := .agg #[.bool c.neg, .slice acx lcx ccx, .slice ad9 ld9 cd9]) A35 kr (zF (t := 25) (g := true) (vs := [.bool c.neg, .slice acx lcx ccx, .slice ad9 ld9 cd9]) (ad := ⟨b4, 0, none⟩) rfl kr kr ir (j24.cells 0 rfl rfl)) ?_)
 intro a37 A37
 refine wplI A37 kr (zN (d := 30) (fun b => .slice (some ⟨b, 0, none⟩) 1 1) (.cells #[.bool c.neg, .slice acx lcx ccx, .slice ad9 ld9 cd9] 25 (0, 0)) A37 kr j24 kw ?_)
 intro b38 w38 Y38 j38 q38 hu38 a39 A39
 obtain ⟨hSx40, q40, hat40⟩ := St.publish j38 (j38.own_ge 0 rfl)
 have j40 : St E0 w X w38 (show_ b38 Y38) [(b4, .cells #[.bool c.neg, .slice acx lcx ccx, .slice ad9 ld9 cd9] 25 (0, 0)), (b2, .cells #[.bool m.disc.neg, .slice ad len cap, .slice ae le ce, .slice st m.states.length cs] 28 (0, 0))] := hSx40
 have hR40 : Rats (rd w38 (show_ b38 Y38)) (some ⟨b38, 0, none⟩) 1 1 [c] := rats_flat [RE.mk c acx lcx ccx ad9 ld9 cd9] hat40 (List.forall_mem_cons.2 ⟨⟨(hcn.mono (Le6 q2 q4 q10 q24 q38 q40)), (hcd.mono (Le6 q2 q4 q10 q24 q38 q40))⟩, fun _ h => by cases h⟩) (by simp)
 refine wplI A39 kr (zK (d := 31) (f := 8) (cap := #[]) (vs := #[.slice (some ⟨b38, 0, none⟩) 1 1]) A39 kr j40 rfl kr kr (fun w => Try.call8 _ w) (LongList_c _ _ j40.lt _ _ _ [c] hR40) ?_)
 rintro v41 w41 j41 q41 hu41 ⟨bb41, rfl, hbb41⟩ a42 A42
 refine zB 2 [(33, .bool bb41), (32, .bool bb41)] A42 kr kr (fun a43 A43 => ?_)
 rcases Bool.eq_false_or_eq_true bb41 with hc44 | hc44
 ·
  have A45 := A43.set 33 (v' := .bool true) kr rfl (zG hc44)
  have ht46 : bb41 = true := by simpa using hc44
  refine zB 3 [(36, .bool true), (35, undef), (34, undef)] A45 kr kr (fun a47 A47 => ?_)
  refine zE ?_
  refine zA (C8 _ _ ?_)
  refine qG A47 kr kr ?_
  refine zD (fun K48 C48 => ?_)
  refine zC ?_
  refine wplI A47 kr (zK (d := 37) (f := 9) (cap := #[]) (vs := #[]) A47 kr j41 rfl kr kr (fun w => Try.call9 _ w) (awake_c _ _ j41.lt) ?_)
  rintro v49 w49 j49 q49 hu49 rfl a50 A50
  refine zB 1 [(6, .bool true)] A50 kr kr (fun a51 A51 => ?_)
  refine zE ?_
  refine zA (C48 _ _ ?_)
  refine zQ ?_
  refine zL ?_
  refine zR (v := .bool true) (rs := [.tmp 6]) A51 kr (Res.tmp kr Res.nil) kr ?_
  exact ⟨j49.upd, _, rfl, rfl⟩
 have A52 := A43.set 33 (v' := .bool false) kr rfl (zG hc44)
 have ht53 : bb41 = false := by simpa using hc44
 try have hl20_41 := (hbb41 ht53).1
 try have hl200_41 := (hbb41 ht53).2
 refine wplI A52 kr (zK (d := 34) (f := 9) (cap := #[]) (vs := #[]) A52 kr j41 rfl kr kr (fun w => Try.call9 _ w) (awake_c _ _ j41.lt) ?_)
 rintro v54 w54 j54 q54 hu54 rfl a55 A55
 refine zB 2 [(36, .bool false), (35, .bool false)] A55 kr kr (fun a56 A56 => ?_)
 refine zE ?_
 refine zA (C8 _ _ ?_)
 refine qH A56 kr kr ?_
 refine i_skip ?_
 refine zA (C7 _ _ ?_)
 refine zD (fun K57 C57 => ?_)
 refine zC ?_
 refine wplI A56 kr (zJ (d := 39) (v := .agg #[.bool m.disc.neg, .slice ad len cap, .slice ae le ce, .slice st m.states.length cs]) A56 kr (zF (t := 28) (g := true) (vs := [.bool m.disc.neg, .slice ad len cap, .slice ae le ce, .slice st m.states.length cs]) (ad := ⟨b2, 0, none⟩) rfl kr kr ir (j54.cells 1 rfl rfl)) ?_)
 intro a58 A58
 refine zB 1 [(40, .slice av v.length cv)] A58 kr kr (fun a59 A59 => ?_)
 refine wplI A59 kr (zK (d := 41) (f := 10) (cap := #[]) (vs := #[.agg #[.bool m.disc.neg, .slice ad len cap, .slice ae le ce, .slice st m.states.length cs], .slice av v.length cv]) A59 kr j54 rfl kr kr (fun w => Try.call10 _ w) (Backup_e _ _ j54.lt m _ _ _ (h.mono (Le8 q2 q4 q10 q24 q38 q40 q41 q54)) _ _ _ (h2.mono (Le8 q2 q4 q10 q24 q38 q40 q41 q54)) _ _ _ (hst.mono (Le8 q2 q4 q10 q24 q38 q40 q41 q54)) v _ _ _ (hv.mono (Le8 q2 q4 q10 q24 q38 q40 q41 q54)) (by omega) bx bi be hB) ?_)
 rintro v60 w60 j60 q60 hu60 ⟨ad60, len60, cap60, ae60, le60, ce60, rfl, hR60, hI60⟩ a61 A61
 refine zB 7 [(9, .int .i64 be), (8, .slice ae60 le60 ce60), (7, .slice ad60 len60 cap60), (44, .int .i64 be), (43, .slice ae60 le60 ce60), (42, .slice ad60 len60 cap60), (38, .tuple #[.slice ad60 len60 cap60, .slice ae60 le60 ce60, .int .i64 be])] A61 kr kr (fun a62 A62 => ?_)
 refine zE ?_
 refine zA (C57 _ _ ?_)
 refine zD (fun K63 C63 => ?_)
 refine zD (fun K64 C64 => ?_)
 refine zC ?_
 refine zB 3 [(47, .bool ((be) != 0)), (46, .bool ((be) != 0)), (45, .int .i64 be)] A62 kr kr (fun a65 A65 => ?_)
 rcases Bool.eq_false_or_eq_true ((be) != 0) with hc66 | hc66
 ·
  have A67 := A65.set 47 (v' := .bool true) kr rfl (zG hc66)
  have ht68 : (be) ≠ 0 := by simpa using hc66
  refine zB 4 [(51, .bool true), (50, undef), (49, undef), (48, undef)] A67 kr kr (fun a69 A69 => ?_)
  refine zE ?_
  refine zA (C64 _ _ ?_)
  refine qG A69 kr kr ?_
  refine zD (fun K70 C70 => ?_)
  refine zC ?_
  refine zB 1 [(6, .bool true)] A69 kr kr (fun a71 A71 => ?_)
  refine zE ?_
  refine zA (C70 _ _ ?_)
  refine zQ ?_
  refine zL ?_
  refine zR (v := .bool true) (rs := [.tmp 6]) A71 kr (Res.tmp kr Res.nil) kr ?_
  exact ⟨j60.upd, _, rfl, rfl⟩
 have A72 := A65.set 47 (v' := .bool false) kr rfl (zG hc66)
 have ht73 : (be) = 0 := by simpa using hc66
 have hok : (m.backV v).2.2 = 0 := by rw [hB]; exact ht73
 have hbl := back_len hok
 rw [hB] at hbl
 simp only at hbl
 have hl1 := hR60.hlen
 refine wplI A72 kr (zJ (d := 48) (v := .agg #[.bool c.neg, .slice acx lcx ccx, .slice ad9 ld9 cd9]) A72 kr (zF (t := 25) (g := true) (vs := [.bool c.neg, .slice acx lcx ccx, .slice ad9 ld9 cd9]) (ad := ⟨b4, 0, none⟩) rfl kr kr ir (j60.cells 0 rfl rfl)) ?_)
 intro a74 A74
 refine wplI A74 kr (zK (d := 49) (f := 15) (cap := #[]) (vs := #[.agg #[.bool c.neg, .slice acx lcx ccx, .slice ad9 ld9 cd9]]) A74 kr j60 rfl kr kr (fun w => Try.call15 _ w) (rcheck_c _ _ j60.lt c _ _ _ (hcn.mono (Le9 q2 q4 q10 q24 q38 q40 q41 q54 q60)) _ _ _ (hcd.mono (Le9 q2 q4 q10 q24 q38 q40 q41 q54 q60))) ?_)
 rintro v75 w75 j75 q75 hu75 rfl a76 A76
 refine zB 2 [(51, .bool ((c.chk) != 0)), (50, .bool ((c.chk) != 0))] A76 kr kr (fun a77 A77 => ?_)
 refine zE ?_
 refine zA (C64 _ _ ?_)
 refine zS ((c.chk) != 0) A77 kr kr (fun hc78 => ?_) (fun hc78 => ?_)
 ·
  have A79 := A77.set 51 (v' := .bool true) kr rfl (zG hc78)
  have ht80 : (c.chk) ≠ 0 := by simpa using hc78
  refine zD (fun K81 C81 => ?_)
  refine zC ?_
  refine zB 1 [(6, .bool true)] A79 kr kr (fun a82 A82 => ?_)
  refine zE ?_
  refine zA (C81 _ _ ?_)
  refine zQ ?_
  refine zL ?_
  refine zR (v := .bool true) (rs := [.tmp 6]) A82 kr (Res.tmp kr Res.nil) kr ?_
  exact ⟨j75.upd, _, rfl, rfl⟩
 have A83 := A77.set 51 (v' := .bool false) kr rfl (zG hc78)
 have ht84 : (c.chk) = 0 := by simpa using hc78
 have hc0 : c.chk = 0 := by simpa using ht84
 refine i_skip ?_
 refine zA (C63 _ _ ?_)
 refine zD (fun K85 C85 => ?_)
 refine zC ?_
 refine zB 1 [(10, .slice none 0 0)] A83 kr kr (fun a86 A86 => ?_)
 refine zE ?_
 refine zA (C85 _ _ ?_)
 refine zD (fun K87 C87 => ?_)
 refine zD (fun K88 C88 => ?_)
 refine zC ?_
 refine zB 1 [(11, .int .i64 0)] A86 kr kr (fun a89 A89 => ?_)
 refine zE ?_
 refine zA (C88 _ _ ?_)
 refine zV ?_
 refine qC (fun (k : Nat) ac w1 => ∃ (Y1 : Hid) (rb1 : List (Nat × Obj)) (adr : Option Addr) (capr : Nat) (es : List RE), Fr 150 ac [(1, .slice av v.length cv), (3, .pointer (some ⟨b2, 0, none⟩)), (5, .pointer (some ⟨b4, 0, none⟩)), (7, .slice ad60 len60 cap60), (8, .slice ae60 le60 ce60), (10, .slice adr k capr), (11, .int .i64 (k : Int))] ∧ St E0 w X w1 Y1 ((b4, .cells #[.bool c.neg, .slice acx lcx ccx, .slice ad9 ld9 cd9] 25 (0, 0)) :: (b2, .cells #[.bool m.disc.neg, .slice ad len cap, .slice ae le ce, .slice st m.states.length cs] 28 (0, 0)) :: rb1) ∧ Le (rd w75 (show_ b38 Y38)) (rd w1 Y1) ∧ (TRow 25 3 rb1 adr k capr (flat es)) ∧ (es.map (·.x) = (addAll v c).take k) ∧ (∀ e ∈ es, e.ok (rd w1 Y1)) ∧ (∀ x ∈ v.take k, opE x c (x.rat + c.rat) = 0) ∧ (k ≤ v.length)) (fun (k : Nat) => v.length - k) 0 ?_ ?_
 ·
  refine ⟨_, [], none, 0, [], A89.as [1, 3, 5, 7, 8, 10, 11] kr kr, j75, Le.refl _, TRow.nil _ _, rfl, fun _ h => absurd h (by simp), fun _ h => absurd h (by simp), Nat.zero_le _⟩
 rintro k a90 w90 ⟨Y90, rb1, adr, capr, es, A90, j90, q90, hp90_0, hp90_1, hp90_2, hp90_3, hp90_4⟩
 have hr1 := hp90_0
 have hq1 := hp90_1
 have hk1 := hp90_2
 have hz1 := hp90_3
 have hkl := hp90_4
 refine zD (fun K91 C91 => ?_)
 refine zD (fun K92 C92 => ?_)
 refine zC ?_
 refine zB 4 [(55, .bool (decide ((k : Int) < (v.length : Int)))), (54, .int .i64 (v.length : Int)), (53, .slice av v.length cv), (52, .int .i64 (k : Int))] A90 kr kr (fun a93 A93 => ?_)
 refine zE ?_
 refine zA (C92 _ _ ?_)
 refine zS (decide ((k : Int) < (v.length : Int))) A93 kr kr (fun hc94 => ?_) (fun hc94 => ?_)
 ·
  have A95 := A93.set 55 (v' := .bool true) kr rfl (zG hc94)
  have ht96 : (k : Int) < (v.length : Int) := of_decide_eq_true hc94
  obtain ⟨bz, offz, xz, anz, lnz, cnz, amz, lmz, cmz, rfl, hxz, hAz, hLz, hMz⟩ := hv.cell (k := k) (by omega)
  have hmx : (addAll v c)[k]? = some (opR xz c (xz.rat + c.rat)) := by unfold addAll; rw [List.getElem?_map, hxz]; rfl
  refine i_skip ?_
  refine zA (C91 _ _ ?_)
  refine zD (fun K97 C97 => ?_)
  refine zV ?_
  refine zD (fun K98 C98 => ?_)
  have hJ9001 : ∀ a9001 w9001, (∃ (Y9001 : Hid) (b110 : Nat) (ad105 : Option Addr) (len105 : Nat) (cap105 : Nat) (ae105 : Option Addr) (le105 : Nat) (ce105 : Nat), Fr 150 a9001 [(1, .slice (some ⟨bz, offz, none⟩) v.length cv), (3, .pointer (some ⟨b2, 0, none⟩)), (5, .pointer (some ⟨b4, 0, none⟩)), (7, .slice ad60 len60 cap60), (8, .slice ae60 le60 ce60), (10, .slice adr k capr), (11, .int .i64 (k : Int)), (12, .pointer (some ⟨b110, 0, none⟩)), (13, .int .i64 (opE xz c (xz.rat + c.rat)))] ∧ St E0 w X w9001 Y9001 ((b110, .cells #[.bool ((opR xz c (xz.rat + c.rat)).neg), .slice ad105 len105 cap105, .slice ae105 le105 ce105] 25 (0, 0)) :: (b4, .cells #[.bool c.neg, .slice acx lcx ccx, .slice ad9 ld9 cd9] 25 (0, 0)) :: (b2, .cells #[.bool m.disc.neg, .slice ad len cap, .slice ae le ce, .slice st m.states.length cs] 28 (0, 0)) :: rb1) ∧ Le (rd w90 Y90) (rd w9001 Y9001) ∧ (Limbs (rd w9001 Y9001) ad105 len105 cap105 ((opR xz c (xz.rat + c.rat)).ln)) ∧ (Limbs (rd w9001 Y9001) ae105 le105 ce105 ((opR xz c (xz.rat + c.rat)).ld))) → K98 a9001 w9001 := by
   rintro a9001 w9001 ⟨Y9001, b110, ad105, len105, cap105, ae105, le105, ce105, A9001, j9001, q9001, hN105, hD105⟩
   refine C98 _ _ ?_
   refine zD (fun K114 C114 => ?_)
   refine zD (fun K115 C115 => ?_)
   refine zC ?_
   refine zB 2 [(68, .bool ((opE xz c (xz.rat + c.rat)) != 0)), (67, .int .i64 (opE xz c (xz.rat + c.rat)))] A9001 kr kr (fun a116 A116 => ?_)
   refine zE ?_
   refine zA (C115 _ _ ?_)
   refine zS ((opE xz c (xz.rat + c.rat)) != 0) A116 kr kr (fun hc117 => ?_) (fun hc117 => ?_)
   ·
    have A118 := A116.set 68 (v' := .bool true) kr rfl (zG hc117)
    have ht119 : (opE xz c (xz.rat + c.rat)) ≠ 0 := by simpa using hc117
    refine zD (fun K120 C120 => ?_)
    refine zC ?_
    refine zB 3 [(71, .bool ((opE xz c (xz.rat + c.rat)) == 4)), (70, .bool ((opE xz c (xz.rat + c.rat)) == 4)), (69, .int .i64 (opE xz c (xz.rat + c.rat)))] A118 kr kr (fun a121 A121 => ?_)
    rcases Bool.eq_false_or_eq_true ((opE xz c (xz.rat + c.rat)) == 4) with hc122 | hc122
    ·
     have A123 := A121.set 71 (v' := .bool true) kr rfl (zG hc122)
     have ht124 : (opE xz c (xz.rat + c.rat)) = 4 := by simpa using hc122
     refine zB 8 [(6, .bool true), (78, .bool true), (77, undef), (76, undef), (75, undef), (74, undef), (73, undef), (72, undef)] A123 kr kr (fun a125 A125 => ?_)
     refine zE ?_
     refine zA (C120 _ _ ?_)
     refine zQ ?_
     refine zL ?_
     refine zU ?_
     refine zL ?_
     refine zL ?_
     refine zU ?_
     refine zL ?_
     refine zR (v := .bool true) (rs := [.tmp 6]) A125 kr (Res.tmp kr Res.nil) kr ?_
     exact ⟨j9001.upd, _, rfl, rfl⟩
    have A126 := A121.set 71 (v' := .bool false) kr rfl (zG hc122)
    have ht127 : (opE xz c (xz.rat + c.rat)) ≠ 4 := by simpa using hc122
    have hcc : xz.chk ≠ 0 := fun e0 => by rcases opE_cases e0 hc0 (xz.rat + c.rat) with e | e; exact ht119 e; exact ht127 e
    refine zB 2 [(73, .int .i64 (k : Int)), (72, .slice (some ⟨bz, offz, none⟩) v.length cv)] A126 kr kr (fun a128 A128 => ?_)
    refine wplI A128 kr (zJ (d := 74) (v := .pointer (some ⟨bz, offz + k * 3, none⟩)) A128 kr (zP (t := 29) (e := 25) (b := bz) (off := offz) (len := v.length) (cap := cv) (kd := .i64) (i := (k : Int)) (g := true) (m := 3) (off' := offz + k * 3) rfl kr kr kr kr (by omega) (by omega) (by first | rfl | omega | (simp; done) | (simp; omega)) _) ?_)
    intro a129 A129
    refine wplI A129 kr (zJ (d := 75) (v := .agg #[.bool xz.neg, .slice anz lnz cnz, .slice amz lmz cmz]) A129 kr (zF (t := 25) (g := true) (vs := [.bool xz.neg, .slice anz lnz cnz, .slice amz lmz cmz]) (ad := ⟨bz, offz + k * 3, none⟩) rfl kr kr ir ((hAz.mono (Le12 q2 q4 q10 q24 q38 q40 q41 q54 q60 q75 q90 q9001))).cells) ?_)
    intro a130 A130
    refine wplI A130 kr (zK (d := 76) (f := 15) (cap := #[]) (vs := #[.agg #[.bool xz.neg, .slice anz lnz cnz, .slice amz lmz cmz]]) A130 kr j9001 rfl kr kr (fun w => Try.call15 _ w) (rcheck_c _ _ j9001.lt xz _ _ _ (hLz.mono (Le12 q2 q4 q10 q24 q38 q40 q41 q54 q60 q75 q90 q9001)) _ _ _ (hMz.mono (Le12 q2 q4 q10 q24 q38 q40 q41 q54 q60 q75 q90 q9001))) ?_)
    rintro v131 w131 j131 q131 hu131 rfl a132 A132
    refine zB 3 [(6, .bool ((xz.chk) != 0)), (78, .bool ((xz.chk) != 0)), (77, .bool ((xz.chk) != 0))] A132 kr kr (fun a133 A133 => ?_)
    refine zE ?_
    refine zA (C120 _ _ ?_)
    refine zQ ?_
    refine zL ?_
    refine zU ?_
    refine zL ?_
    refine zL ?_
    refine zU ?_
    refine zL ?_
    refine zR (v := .bool ((xz.chk) != 0)) (rs := [.tmp 6]) A133 kr (Res.tmp kr Res.nil) kr ?_
    exact ⟨j131.upd, _, rfl, vboolE (by simpa using hcc)⟩
   have A134 := A116.set 68 (v' := .bool false) kr rfl (zG hc117)
   have ht135 : (opE xz c (xz.rat + c.rat)) = 0 := by simpa using hc117
   refine i_skip ?_
   refine zA (C114 _ _ ?_)
   refine zC ?_
   refine zB 1 [(79, .slice adr k capr)] A134 kr kr (fun a136 A136 => ?_)
   refine wplI A136 kr (zJ (d := 80) (v := .agg #[.bool ((opR xz c (xz.rat + c.rat)).neg), .slice ad105 len105 cap105, .slice ae105 le105 ce105]) A136 kr (zF (t := 25) (g := true) (vs := [.bool ((opR xz c (xz.rat + c.rat)).neg), .slice ad105 len105 cap105, .slice ae105 le105 ce105]) (ad := ⟨b110, 0, none⟩) rfl kr kr ir (j9001.cells 0 rfl rfl)) ?_)
   intro a137 A137
   refine wplI A137 kr (zN (d := 81) (fun b => .slice (some ⟨b, 0, none⟩) 1 1) (.cells #[.bool ((opR xz c (xz.rat + c.rat)).neg), .slice ad105 len105 cap105, .slice ae105 le105 ce105] 25 (0, 0)) A137 kr j9001 kw ?_)
   intro b138 w138 Y138 j138 q138 hu138 a139 A139
   refine wplI A139 kr (op_appE (d := 82) (t := 29) (e := 25) (size := 3) (m := 1) (c := 1) (nn := k) (cap := capr) (ad0 := adr) (xs := (flat es)) (news := [.bool ((opR xz c (xz.rat + c.rat)).neg), .slice ad105 len105 cap105, .slice ae105 le105 ce105]) (ad := ⟨b138, 0, none⟩) (z := .agg #[.bool false, .slice none 0 0, .slice none 0 0]) (i0 := Try.t25) (rb := rb1) (R1 := []) 4 A139 kr j138 rfl rfl kr kr kr kr kr kr kr hr1 (j138.cells 0 rfl rfl) kr kr (by omega) (by simp only [maxLen]; omega) (by show (_ + 1) * 56 ≤ _; omega) ?_)
   intro rb140 ad140 cap140 w140 Y140 hrow140 j140 q140 a141 A141
   have hrw140 : TRow 25 3 rb140 ad140 (k + 1) cap140 (flat (es ++ [(RE.mk (opR xz c (xz.rat + c.rat)) ad105 len105 cap105 ae105 le105 ce105)])) := by rw [flat_snoc]; exact hrow140
   refine zB 1 [(10, .slice ad140 (k + 1) cap140)] A141 kr kr (fun a142 A142 => ?_)
   refine zE ?_
   refine zW ?_
   refine zA (C97 _ _ ?_)
   refine zC ?_
   refine zB 2 [(57, .int .i64 (IntKind.i64.wrap ((k : Int) + 1))), (56, .int .i64 (k : Int))] A142 kr kr (fun a143 A143 => ?_)
   have A144 := A143.set 57 (v' := .int .i64 ((k : Int) + 1)) kr rfl (vint (wi64 (by omega) (by omega)))
   refine zB 1 [(11, .int .i64 ((k : Int) + 1))] A144 kr kr (fun a145 A145 => ?_)
   refine zE ?_
   refine zA ?_
   refine ⟨k + 1, ⟨_, rb140, ad140, cap140, (es ++ [(RE.mk (opR xz c (xz.rat + c.rat)) ad105 len105 cap105 ae105 le105 ce105)]), A145.as [1, 3, 5, 7, 8, 10, 11] kr kr, j140.tail.tail, (Le4 q90 q9001 q138 q140), hrw140, by rw [List.map_append, hq1, take_snoc hmx]; rfl, fun e he => by rcases List.mem_append.1 he with h1 | h1; exact (hk1 e h1).mono (Le3 q9001 q138 q140); obtain rfl := List.mem_singleton.1 h1; exact ⟨(hN105.mono (Le2 q138 q140)), (hD105.mono (Le2 q138 q140))⟩, by rw [take_snoc hxz]; intro x hx; rcases List.mem_append.1 hx with h1 | h1; exact hz1 x h1; obtain rfl := List.mem_singleton.1 h1; exact ht135, by omega⟩, ?_⟩
   first | omega | (simp; omega)
  refine qD (N := 12) (Held [(⟨bz, offz + k * 3, none⟩, [.bool xz.neg, .slice anz lnz cnz, .slice amz lmz cmz]), (⟨b4, 0, none⟩, [.bool c.neg, .slice acx lcx ccx, .slice ad9 ld9 cd9])]) [10] kr kr kr j90 ?_
  intro w99 j99 q99 hu99
  refine zX (Held.cons ((hAz.mono (Le12 q2 q4 q10 q24 q38 q40 q41 q54 q60 q75 q90 q99))).cells (Held.cons (j99.cells 0 rfl rfl) (Held.nil _))) (fun hH99 => ?_)
  refine zH (d := 59) (v := .slice (some ⟨bz, offz, none⟩) v.length cv) 0 A95 rfl kr kr kw (fun _ => hH99) ?_
  intro a100 A100
  refine zH (d := 60) (v := .int .i64 (k : Int)) 1 A100 rfl kr kr kw (fun _ => hH99) ?_
  intro a101 A101
  refine zH (d := 61) (v := .pointer (some ⟨bz, offz + k * 3, none⟩)) 2 A101 rfl kr kr (fun w => zP (t := 29) (e := 25) (b := bz) (off := offz) (len := v.length) (cap := cv) (kd := .i64) (i := (k : Int)) (g := true) (m := 3) (off' := offz + k * 3) rfl kr kr kr kr (by omega) (by omega) (by first | rfl | omega | (simp; done) | (simp; omega)) w) (fun _ => hH99) ?_
  intro a102 A102
  refine zY (d := 62) (v := .agg #[.bool xz.neg, .slice anz lnz cnz, .slice amz lmz cmz]) 3 A102 rfl kr kr kr (fun w hw => zF (t := 25) (g := true) (vs := [.bool xz.neg, .slice anz lnz cnz, .slice amz lmz cmz]) (ad := ⟨bz, offz + k * 3, none⟩) rfl kr kr ir (hw.get 0 kr)) hH99 ?_
  intro a103 A103
  refine zY (d := 63) (v := .agg #[.bool c.neg, .slice acx lcx ccx, .slice ad9 ld9 cd9]) 4 A103 rfl kr kr kr (fun w hw => zF (t := 25) (g := true) (vs := [.bool c.neg, .slice acx lcx ccx, .slice ad9 ld9 cd9]) (ad := ⟨b4, 0, none⟩) rfl kr kr ir (hw.get 1 kr)) hH99 ?_
  intro a104 A104
  refine zM [5, 9] kr rfl ?_
  refine ForkT.cons (i := 5) A104 rfl kr ?_ ?_
  ·
   refine zK (d := 64) (f := 16) (cap := #[]) (vs := #[.agg #[.bool xz.neg, .slice anz lnz cnz, .slice amz lmz cmz], .agg #[.bool c.neg, .slice acx lcx ccx, .slice ad9 ld9 cd9]]) A104 kr j99 rfl kr kr (fun w => Try.call16 _ w) (rAdd_c _ _ j99.lt xz _ _ _ (hLz.mono (Le12 q2 q4 q10 q24 q38 q40 q41 q54 q60 q75 q90 q99)) _ _ _ (hMz.mono (Le12 q2 q4 q10 q24 q38 q40 q41 q54 q60 q75 q90 q99)) c _ _ _ (hcn.mono (Le12 q2 q4 q10 q24 q38 q40 q41 q54 q60 q75 q90 q99)) _ _ _ (hcd.mono (Le12 q2 q4 q10 q24 q38 q40 q41 q54 q60 q75 q90 q99))) ?_
   rintro v105 w105 j105 q105 hu105 ⟨u105, rfl, ⟨ad105, len105, cap105, ae105, le105, ce105, rfl, hN105, hD105⟩⟩ a106 A106
   refine zI (hH99.up hu105) (fun hH105 => ?_)
   refine zH (d := 58) (v := .tuple #[.agg #[.bool ((opR xz c (xz.rat + c.rat)).neg), .slice ad105 len105 cap105, .slice ae105 le105 ce105], .int .i64 (opE xz c (xz.rat + c.rat))]) 6 A106 rfl kr kr kw (fun _ => hH105) ?_
   intro a107 A107
   refine zH (d := 65) (v := .agg #[.bool ((opR xz c (xz.rat + c.rat)).neg), .slice ad105 len105 cap105, .slice ae105 le105 ce105]) 7 A107 rfl kr kr kw (fun _ => hH105) ?_
   intro a108 A108
   refine zH (d := 66) (v := .int .i64 (opE xz c (xz.rat + c.rat))) 8 A108 rfl kr kr kw (fun _ => hH105) ?_
   intro a109 A109
   refine zM [9] kr rfl ?_
   refine ForkT.cons (i := 9) A109 rfl kr (zN (d := 12) (fun b => .pointer (some ⟨b, 0, none⟩)) (.cells #[.bool false, .slice none 0 0, .slice none 0 0] 25 (0, 0)) A109 kr j105 kw ?_) ForkT.nil
   intro b110 w110 Y110 j110 q110 hu110 a111 A111
   refine zI (hH105.up hu110) (fun hH110 => ?_)
   refine zM [10] kr rfl ?_
   refine ForkT.cons (i := 10) A111 rfl kr (zO (t := 25) (b := b110) (off := 0) (c' := #[.bool ((opR xz c (xz.rat + c.rat)).neg), .slice ad105 len105 cap105, .slice ae105 le105 ce105]) (g := true) (m := 3) 0 _ A111 kr j110 rfl kr rfl kr kr kr rfl (by first | decide | (simp; done)) kr rfl ?_) ForkT.nil
   intro w112 j112 q112
   refine ⟨begun_tt kr, ?_⟩
   refine zH (d := 13) (v := .int .i64 (opE xz c (xz.rat + c.rat))) 11 A111 rfl kr kr kw (begun_tt kr) ?_
   intro a113 A113
   refine qB kr (nrm ?_)
   exact zA (hJ9001 _ _ ⟨_, b110, ad105, len105, cap105, ae105, le105, ce105, A113.as [1, 3, 5, 7, 8, 10, 11, 12, 13] kr kr, j112, (Le4 q99 q105 q110 q112), (hN105.mono (Le2 q110 q112)), (hD105.mono (Le2 q110 q112))⟩)
  refine ForkT.cons (i := 9) A104 rfl kr (zN (d := 12) (fun b => .pointer (some ⟨b, 0, none⟩)) (.cells #[.bool false, .slice none 0 0, .slice none 0 0] 25 (0, 0)) A104 kr j99 kw ?_) ForkT.nil
  intro b114 w114 Y114 j114 q114 hu114 a115 A115
  refine zI (hH99.up hu114) (fun hH114 => ?_)
  refine zM [5] kr rfl ?_
  refine ForkT.cons (i := 5) A115 rfl kr (zK (d := 64) (f := 16) (cap := #[]) (vs := #[.agg #[.bool xz.neg, .slice anz lnz cnz, .slice amz lmz cmz], .agg #[.bool c.neg, .slice acx lcx ccx, .slice ad9 ld9 cd9]]) A115 kr j114 rfl kr kr (fun w => Try.call16 _ w) (rAdd_c _ _ j114.lt xz _ _ _ (hLz.mono (Le13 q2 q4 q10 q24 q38 q40 q41 q54 q60 q75 q90 q99 q114)) _ _ _ (hMz.mono (Le13 q2 q4 q10 q24 q38 q40 q41 q54 q60 q75 q90 q99 q114)) c _ _ _ (hcn.mono (Le13 q2 q4 q10 q24 q38 q40 q41 q54 q60 q75 q90 q99 q114)) _ _ _ (hcd.mono (Le13 q2 q4 q10 q24 q38 q40 q41 q54 q60 q75 q90 q99 q114))) ?_) ForkT.nil
  rintro v116 w116 j116 q116 hu116 ⟨u116, rfl, ⟨ad116, len116, cap116, ae116, le116, ce116, rfl, hN116, hD116⟩⟩ a117 A117
  refine zI (hH114.up hu116) (fun hH116 => ?_)
  refine zH (d := 58) (v := .tuple #[.agg #[.bool ((opR xz c (xz.rat + c.rat)).neg), .slice ad116 len116 cap116, .slice ae116 le116 ce116], .int .i64 (opE xz c (xz.rat + c.rat))]) 6 A117 rfl kr kr kw (fun _ => hH116) ?_
  intro a118 A118
  refine zH (d := 65) (v := .agg #[.bool ((opR xz c (xz.rat + c.rat)).neg), .slice ad116 len116 cap116, .slice ae116 le116 ce116]) 7 A118 rfl kr kr kw (fun _ => hH116) ?_
  intro a119 A119
  refine zH (d := 66) (v := .int .i64 (opE xz c (xz.rat + c.rat))) 8 A119 rfl kr kr kw (fun _ => hH116) ?_
  intro a120 A120
  refine zM [10] kr rfl ?_
  refine ForkT.cons (i := 10) A120 rfl kr (zO (t := 25) (b := b114) (off := 0) (c' := #[.bool ((opR xz c (xz.rat + c.rat)).neg), .slice ad116 len116 cap116, .slice ae116 le116 ce116]) (g := true) (m := 3) 0 _ A120 kr j116 rfl kr rfl kr kr kr rfl (by first | decide | (simp; done)) kr rfl ?_) ForkT.nil
  intro w121 j121 q121
  refine ⟨begun_tt kr, ?_⟩
  refine zH (d := 13) (v := .int .i64 (opE xz c (xz.rat + c.rat))) 11 A120 rfl kr kr kw (begun_tt kr) ?_
  intro a122 A122
  refine qB kr (nrm ?_)
  exact zA (hJ9001 _ _ ⟨_, b114, ad116, len116, cap116, ae116, le116, ce116, A122.as [1, 3, 5, 7, 8, 10, 11, 12, 13] kr kr, j121, (Le4 q99 q114 q116 q121), (hN116.mono q121), (hD116.mono q121)⟩)
 have A123 := A93.set 55 (v' := .bool false) kr rfl (zG hc94)
 have ht124 : ¬ ((k : Int) < (v.length : Int)) := of_decide_eq_false hc94
 have hall : ∀ x ∈ v, opE x c (x.rat + c.rat) = 0 := by have h9 := hz1; rwa [List.take_of_length_le (by omega)] at h9
 refine i_exit ?_
 refine zT ?_
 refine zT ?_
 refine qA ?_
 refine zA (C87 _ _ ?_)
 refine zD (fun K125 C125 => ?_)
 refine zC ?_
 refine wplI A123 kr (zJ (d := 84) (v := .agg #[.bool m.disc.neg, .slice ad len cap, .slice ae le ce, .slice st m.states.length cs]) A123 kr (zF (t := 28) (g := true) (vs := [.bool m.disc.neg, .slice ad len cap, .slice ae le ce, .slice st m.states.length cs]) (ad := ⟨b2, 0, none⟩) rfl kr kr ir (j90.cells 1 rfl rfl)) ?_)
 intro a126 A126
 refine zB 1 [(85, .slice adr k capr)] A126 kr kr (fun a127 A127 => ?_)
 have hla : (addAll v c).length = v.length := List.length_map _
 obtain ⟨Y128, hSx128, q128, hRx128⟩ := St.pubRats (A := [(b4, .cells #[.bool c.neg, .slice acx lcx ccx, .slice ad9 ld9 cd9] 25 (0, 0)), (b2, .cells #[.bool m.disc.neg, .slice ad len cap, .slice ae le ce, .slice st m.states.length cs] 28 (0, 0))]) (B := []) (fun rb => ((b4, .cells #[.bool c.neg, .slice acx lcx ccx, .slice ad9 ld9 cd9] 25 (0, 0)) :: (b2, .cells #[.bool m.disc.neg, .slice ad len cap, .slice ae le ce, .slice st m.states.length cs] 28 (0, 0)) :: rb)) j90 (fun _ => by simp only [List.append_assoc, List.cons_append, List.nil_append, List.append_nil]) hr1 (row_len hq1 (by omega)) (fun e he => (hk1 e he).mono (Le.refl _))
 have j128 : St E0 w X w90 Y128 [(b4, .cells #[.bool c.neg, .slice acx lcx ccx, .slice ad9 ld9 cd9] 25 (0, 0)), (b2, .cells #[.bool m.disc.neg, .slice ad len cap, .slice ae le ce, .slice st m.states.length cs] 28 (0, 0))] := hSx128
 have hR128 : Rats (rd w90 Y128) adr k capr (addAll v c) := by have h9 := hRx128; rwa [show es.map (·.x) = addAll v c from hq1.trans (List.take_of_length_le (by omega))] at h9
 refine wplI A127 kr (zK (d := 86) (f := 10) (cap := #[]) (vs := #[.agg #[.bool m.disc.neg, .slice ad len cap, .slice ae le ce, .slice st m.states.length cs], .slice adr k capr]) A127 kr j128 rfl kr kr (fun w => Try.call10 _ w) (Backup_e _ _ j128.lt m _ _ _ (h.mono (Le12 q2 q4 q10 q24 q38 q40 q41 q54 q60 q75 q90 q128)) _ _ _ (h2.mono (Le12 q2 q4 q10 q24 q38 q40 q41 q54 q60 q75 q90 q128)) _ _ _ (hst.mono (Le12 q2 q4 q10 q24 q38 q40 q41 q54 q60 q75 q90 q128)) (addAll v c) _ _ _ hR128 (by omega) ux ui ue hW) ?_)
 rintro v129 w129 j129 q129 hu129 ⟨ad129, len129, cap129, ae129, le129, ce129, rfl, hR129, hI129⟩ a130 A130
 have hsc := shift_cases hok hall
 rw [hW] at hsc
 simp only at hsc
 refine zB 7 [(16, .int .i64 ue), (15, .slice ae129 le129 ce129), (14, .slice ad129 len129 cap129), (89, .int .i64 ue), (88, .slice ae129 le129 ce129), (87, .slice ad129 len129 cap129), (83, .tuple #[.slice ad129 len129 cap129, .slice ae129 le129 ce129, .int .i64 ue])] A130 kr kr (fun a131 A131 => ?_)
 refine zE ?_
 refine zA (C125 _ _ ?_)
 refine zD (fun K132 C132 => ?_)
 refine zC ?_
 refine zB 1 [(91, .pointer (some ⟨b2, 0, none⟩))] A131 kr kr (fun a133 A133 => ?_)
 refine wplI A133 kr (zJ (d := 92) (v := .agg #[.bool m.disc.neg, .slice ad len cap, .slice ae le ce]) A133 kr (zF (t := 25) (g := true) (vs := [.bool m.disc.neg, .slice ad len cap, .slice ae le ce]) (ad := ⟨b2, 0, none⟩) rfl kr kr ir (j129.cells 1 rfl rfl)) ?_)
 intro a134 A134
 refine wplI A134 kr (zJ (d := 93) (v := .agg #[.bool c.neg, .slice acx lcx ccx, .slice ad9 ld9 cd9]) A134 kr (zF (t := 25) (g := true) (vs := [.bool c.neg, .slice acx lcx ccx, .slice ad9 ld9 cd9]) (ad := ⟨b4, 0, none⟩) rfl kr kr ir (j129.cells 0 rfl rfl)) ?_)
 intro a135 A135
 refine wplI A135 kr (zK (d := 94) (f := 17) (cap := #[]) (vs := #[.agg #[.bool m.disc.neg, .slice ad len cap, .slice ae le ce], .agg #[.bool c.neg, .slice acx lcx ccx, .slice ad9 ld9 cd9]]) A135 kr j129 rfl kr kr (fun w => Try.call17 _ w) (rMul_c _ _ j129.lt m.disc _ _ _ (h.mono (Le13 q2 q4 q10 q24 q38 q40 q41 q54 q60 q75 q90 q128 q129)) _ _ _ (h2.mono (Le13 q2 q4 q10 q24 q38 q40 q41 q54 q60 q75 q90 q128 q129)) c _ _ _ (hcn.mono (Le13 q2 q4 q10 q24 q38 q40 q41 q54 q60 q75 q90 q128 q129)) _ _ _ (hcd.mono (Le13 q2 q4 q10 q24 q38 q40 q41 q54 q60 q75 q90 q128 q129))) ?_)
 rintro v136 w136 j136 q136 hu136 ⟨u136, rfl, ⟨ad136, len136, cap136, ae136, le136, ce136, rfl, hN136, hD136⟩⟩ a137 A137
 refine zB 3 [(96, .int .i64 (opE m.disc c (m.disc.rat * c.rat))), (95, .agg #[.bool ((opR m.disc c (m.disc.rat * c.rat)).neg), .slice ad136 len136 cap136, .slice ae136 le136 ce136]), (90, .tuple #[.agg #[.bool ((opR m.disc c (m.disc.rat * c.rat)).neg), .slice ad136 len136 cap136, .slice ae136 le136 ce136], .int .i64 (opE m.disc c (m.disc.rat * c.rat))])] A137 kr kr (fun a138 A138 => ?_)
 refine wplI A138 kr (zN (d := 17) (fun b => .pointer (some ⟨b, 0, none⟩)) (.cells #[.bool false, .slice none 0 0, .slice none 0 0] 25 (0, 0)) A138 kr j136 kw ?_)
 intro b139 w139 Y139 j139 q139 hu139 a140 A140
 refine wplI A140 kr (zO (t := 25) (b := b139) (off := 0) (c' := #[.bool ((opR m.disc c (m.disc.rat * c.rat)).neg), .slice ad136 len136 cap136, .slice ae136 le136 ce136]) (g := true) (m := 3) 0 _ A140 kr j139 rfl kr rfl kr kr kr rfl (by first | decide | (simp; done)) kr rfl ?_)
 intro w141 j141 q141
 refine zB 1 [(18, .int .i64 (opE m.disc c (m.disc.rat * c.rat)))] A140 kr kr (fun a142 A142 => ?_)
 refine zE ?_
 refine zA (C132 _ _ ?_)
 refine zD (fun K143 C143 => ?_)
 refine zD (fun K144 C144 => ?_)
 refine zC ?_
 refine zB 3 [(99, .bool ((ue) == 4)), (98, .bool ((ue) == 4)), (97, .int .i64 ue)] A142 kr kr (fun a145 A145 => ?_)
 rcases Bool.eq_false_or_eq_true ((ue) == 4) with hc146 | hc146
 ·
  have A147 := A145.set 99 (v' := .bool true) kr rfl (zG hc146)
  have ht148 : (ue) = 4 := by simpa using hc146
  refine zB 3 [(102, .bool true), (101, undef), (100, undef)] A147 kr kr (fun a149 A149 => ?_)
  refine zE ?_
  refine zA (C144 _ _ ?_)
  refine qG A149 kr kr ?_
  refine zD (fun K150 C150 => ?_)
  refine zC ?_
  refine zB 1 [(6, .bool true)] A149 kr kr (fun a151 A151 => ?_)
  refine zE ?_
  refine zA (C150 _ _ ?_)
  refine zQ ?_
  refine zL ?_
  refine zR (v := .bool true) (rs := [.tmp 6]) A151 kr (Res.tmp kr Res.nil) kr ?_
  exact ⟨j141.upd, _, rfl, rfl⟩
 have A152 := A145.set 99 (v' := .bool false) kr rfl (zG hc146)
 have ht153 : (ue) ≠ 4 := by simpa using hc146
 have hu0 : ue = 0 := by rcases hsc with e | e; exact e; exact absurd e ht153
 have hok2 : (m.backV (addAll v c)).2.2 = 0 := by rw [hW]; exact hu0
 have hwl := back_len hok2
 rw [hW] at hwl
 simp only at hwl
 have hl2 := hR129.hlen
 refine zB 3 [(102, .bool ((opE m.disc c (m.disc.rat * c.rat)) == 4)), (101, .bool ((opE m.disc c (m.disc.rat * c.rat)) == 4)), (100, .int .i64 (opE m.disc c (m.disc.rat * c.rat)))] A152 kr kr (fun a154 A154 => ?_)
 refine zE ?_
 refine zA (C144 _ _ ?_)
 refine zS ((opE m.disc c (m.disc.rat * c.rat)) == 4) A154 kr kr (fun hc155 => ?_) (fun hc155 => ?_)
 ·
  have A156 := A154.set 102 (v' := .bool true) kr rfl (zG hc155)
  have ht157 : (opE m.disc c (m.disc.rat * c.rat)) = 4 := by simpa using hc155
  refine zD (fun K158 C158 => ?_)
  refine zC ?_
  refine zB 1 [(6, .bool true)] A156 kr kr (fun a159 A159 => ?_)
  refine zE ?_
  refine zA (C158 _ _ ?_)
  refine zQ ?_
  refine zL ?_
  refine zR (v := .bool true) (rs := [.tmp 6]) A159 kr (Res.tmp kr Res.nil) kr ?_
  exact ⟨j141.upd, _, rfl, rfl⟩
 have A160 := A154.set 102 (v' := .bool false) kr rfl (zG hc155)
 have ht161 : (opE m.disc c (m.disc.rat * c.rat)) ≠ 4 := by simpa using hc155
 have hd0 : opE m.disc c (m.disc.rat * c.rat) = 0 := by rcases opE_cases (Mdp.chk_ok (Mdp.chkV_ok (back_ok hok).1).1).1 hc0 (m.disc.rat * c.rat) with e | e; exact e; exact absurd e ht161
 have hlaw := shift_law hok hall hok2 hd0
 rw [hW, hB] at hlaw
 simp only at hlaw
 refine i_skip ?_
 refine zA (C143 _ _ ?_)
 refine zD (fun K162 C162 => ?_)
 refine zD (fun K163 C163 => ?_)
 refine zC ?_
 refine zB 3 [(105, .bool ((ue) != 0)), (104, .bool ((ue) != 0)), (103, .int .i64 ue)] A160 kr kr (fun a164 A164 => ?_)
 rcases Bool.eq_false_or_eq_true ((ue) != 0) with hc165 | hc165
 ·
  have A166 := A164.set 105 (v' := .bool true) kr rfl (zG hc165)
  have ht167 : (ue) ≠ 0 := by simpa using hc165
  exact absurd hu0 ht167
 have A168 := A164.set 105 (v' := .bool false) kr rfl (zG hc165)
 have ht169 : (ue) = 0 := by simpa using hc165
 refine zB 4 [(109, .bool ((opE m.disc c (m.disc.rat * c.rat)) != 0)), (108, .bool ((opE m.disc c (m.disc.rat * c.rat)) != 0)), (107, .bool ((opE m.disc c (m.disc.rat * c.rat)) != 0)), (106, .int .i64 (opE m.disc c (m.disc.rat * c.rat)))] A168 kr kr (fun a170 A170 => ?_)
 rcases Bool.eq_false_or_eq_true ((opE m.disc c (m.disc.rat * c.rat)) != 0) with hc171 | hc171
 ·
  have A172 := A170.set 109 (v' := .bool true) kr rfl (zG hc171)
  have ht173 : (opE m.disc c (m.disc.rat * c.rat)) ≠ 0 := by simpa using hc171
  exact absurd hd0 ht173
 have A174 := A170.set 109 (v' := .bool false) kr rfl (zG hc171)
 have ht175 : (opE m.disc c (m.disc.rat * c.rat)) = 0 := by simpa using hc171
 refine zB 7 [(116, .bool ((len129 : Int) != (len60 : Int))), (115, .bool ((len129 : Int) != (len60 : Int))), (114, .bool ((len129 : Int) != (len60 : Int))), (113, .int .i64 (len60 : Int)), (112, .slice ad60 len60 cap60), (111, .int .i64 (len129 : Int)), (110, .slice ad129 len129 cap129)] A174 kr kr (fun a176 A176 => ?_)
 rcases Bool.eq_false_or_eq_true ((len129 : Int) != (len60 : Int)) with hc177 | hc177
 ·
  have A178 := A176.set 116 (v' := .bool true) kr rfl (zG hc177)
  have ht179 : (len129 : Int) ≠ (len60 : Int) := by simpa using hc177
  exfalso; omega
 have A180 := A176.set 116 (v' := .bool false) kr rfl (zG hc177)
 have ht181 : (len129 : Int) = (len60 : Int) := by simpa using hc177
 refine zB 2 [(118, .slice ae129 le129 ce129), (117, .slice ae60 le60 ce60)] A180 kr kr (fun a182 A182 => ?_)
 refine wplI A182 kr (zK (d := 119) (f := 18) (cap := #[]) (vs := #[.slice ae60 le60 ce60, .slice ae129 le129 ce129]) A182 kr j141 rfl kr kr (fun w => Try.call18 _ w) (EqualInts_c _ _ j141.lt _ _ _ bi (hI60.mono (Le7 q75 q90 q128 q129 q136 q139 q141)) _ _ _ ui (hI129.mono (Le3 q136 q139 q141))) ?_)
 rintro v183 w183 j183 q183 hu183 rfl a184 A184
 have A185 := A184.set 119 (v' := .bool true) kr rfl (zG (decide_eq_true (hlaw.1.symm)))
 refine zB 2 [(121, .bool false), (120, .bool false)] A185 kr kr (fun a186 A186 => ?_)
 have A187 := A186.as [7, 14, 17, 121] (L' := [(7, .slice ad60 len60 cap60), (14, .slice ad129 len129 cap129), (17, .pointer (some ⟨b139, 0, none⟩)), (121, .bool false)]) kr kr
 refine zE ?_
 refine zA (C163 _ _ ?_)
 refine qH A187 kr kr ?_
 refine i_skip ?_
 refine zA (C162 _ _ ?_)
 refine zD (fun K188 C188 => ?_)
 refine zD (fun K189 C189 => ?_)
 refine zC ?_
 refine zB 1 [(19, .int .i64 0)] A187 kr kr (fun a190 A190 => ?_)
 refine zE ?_
 refine zA (C189 _ _ ?_)
 refine zV ?_
 refine qC (fun (k : Nat) ac w1 => ∃ (Y1 : Hid), Fr 150 ac [(7, .slice ad60 len60 cap60), (14, .slice ad129 len129 cap129), (17, .pointer (some ⟨b139, 0, none⟩)), (19, .int .i64 (k : Int))] ∧ St E0 w X w1 Y1 [(b139, .cells #[.bool ((opR m.disc c (m.disc.rat * c.rat)).neg), .slice ad136 len136 cap136, .slice ae136 le136 ce136] 25 (0, 0)), (b4, .cells #[.bool c.neg, .slice acx lcx ccx, .slice ad9 ld9 cd9] 25 (0, 0)), (b2, .cells #[.bool m.disc.neg, .slice ad len cap, .slice ae le ce, .slice st m.states.length cs] 28 (0, 0))] ∧ Le (rd w183 Y139) (rd w1 Y1) ∧ (k ≤ len60)) (fun (k : Nat) => len60 - k) 0 ?_ ?_
 ·
  refine ⟨_, A190.as [7, 14, 17, 19] kr kr, j183, Le.refl _, Nat.zero_le _⟩
 rintro k a191 w191 ⟨Y191, A191, j191, q191, hp191_0⟩
 refine zD (fun K192 C192 => ?_)
 refine zD (fun K193 C193 => ?_)
 refine zC ?_
 refine zB 4 [(125, .bool (decide ((k : Int) < (len60 : Int)))), (124, .int .i64 (len60 : Int)), (123, .slice ad60 len60 cap60), (122, .int .i64 (k : Int))] A191 kr kr (fun a194 A194 => ?_)
 refine zE ?_
 refine zA (C193 _ _ ?_)
 refine zS (decide ((k : Int) < (len60 : Int))) A194 kr kr (fun hc195 => ?_) (fun hc195 => ?_)
 ·
  have A196 := A194.set 125 (v' := .bool true) kr rfl (zG hc195)
  have ht197 : (k : Int) < (len60 : Int) := of_decide_eq_true hc195
  obtain ⟨bu, offu, xu, anu, lnu, cnu, amu, lmu, cmu, rfl, hxu, hAu, hLu, hMu⟩ := hR60.cell (k := k) (by omega)
  obtain ⟨bp, offp, xp, anp, lnp, cnp, amp, lmp, cmp, rfl, hxp, hAp, hLp, hMp⟩ := hR129.cell (k := k) (by omega)
  have hlk := hlaw.2 k (by omega)
  rw [getD_get hxu, getD_get hxp] at hlk
  refine i_skip ?_
  refine zA (C192 _ _ ?_)
  refine zD (fun K198 C198 => ?_)
  refine zV ?_
  refine zD (fun K199 C199 => ?_)
  have hJ9002 : ∀ a9002 w9002, (∃ (Y9002 : Hid) (b211 : Nat) (ad206 : Option Addr) (len206 : Nat) (cap206 : Nat) (ae206 : Option Addr) (le206 : Nat) (ce206 : Nat), Fr 150 a9002 [(7, .slice (some ⟨bu, offu, none⟩) len60 cap60), (14, .slice (some ⟨bp, offp, none⟩) len129 cap129), (17, .pointer (some ⟨b139, 0, none⟩)), (19, .int .i64 (k : Int)), (20, .pointer (some ⟨b211, 0, none⟩)), (21, .int .i64 (opE xu (opR m.disc c (m.disc.rat * c.rat)) (xu.rat + (opR m.disc c (m.disc.rat * c.rat)).rat)))] ∧ St E0 w X w9002 Y9002 [(b211, .cells #[.bool ((opR xu (opR m.disc c (m.disc.rat * c.rat)) (xu.rat + (opR m.disc c (m.disc.rat * c.rat)).rat)).neg), .slice ad206 len206 cap206, .slice ae206 le206 ce206] 25 (0, 0)), (b139, .cells #[.bool ((opR m.disc c (m.disc.rat * c.rat)).neg), .slice ad136 len136 cap136, .slice ae136 le136 ce136] 25 (0, 0)), (b4, .cells #[.bool c.neg, .slice acx lcx ccx, .slice ad9 ld9 cd9] 25 (0, 0)), (b2, .cells #[.bool m.disc.neg, .slice ad len cap, .slice ae le ce, .slice st m.states.length cs] 28 (0, 0))] ∧ Le (rd w191 Y191) (rd w9002 Y9002) ∧ (Limbs (rd w9002 Y9002) ad206 len206 cap206 ((opR xu (opR m.disc c (m.disc.rat * c.rat)) (xu.rat + (opR m.disc c (m.disc.rat * c.rat)).rat)).ln)) ∧ (Limbs (rd w9002 Y9002) ae206 le206 ce206 ((opR xu (opR m.disc c (m.disc.rat * c.rat)) (xu.rat + (opR m.disc c (m.disc.rat * c.rat)).rat)).ld))) → K199 a9002 w9002 := by
   rintro a9002 w9002 ⟨Y9002, b211, ad206, len206, cap206, ae206, le206, ce206, A9002, j9002, q9002, hN206, hD206⟩
   refine C199 _ _ ?_
   refine zD (fun K215 C215 => ?_)
   refine zD (fun K216 C216 => ?_)
   refine zC ?_
   refine zB 2 [(138, .bool ((opE xu (opR m.disc c (m.disc.rat * c.rat)) (xu.rat + (opR m.disc c (m.disc.rat * c.rat)).rat)) == 4)), (137, .int .i64 (opE xu (opR m.disc c (m.disc.rat * c.rat)) (xu.rat + (opR m.disc c (m.disc.rat * c.rat)).rat)))] A9002 kr kr (fun a217 A217 => ?_)
   refine zE ?_
   refine zA (C216 _ _ ?_)
   refine zS ((opE xu (opR m.disc c (m.disc.rat * c.rat)) (xu.rat + (opR m.disc c (m.disc.rat * c.rat)).rat)) == 4) A217 kr kr (fun hc218 => ?_) (fun hc218 => ?_)
   ·
    have A219 := A217.set 138 (v' := .bool true) kr rfl (zG hc218)
    have ht220 : (opE xu (opR m.disc c (m.disc.rat * c.rat)) (xu.rat + (opR m.disc c (m.disc.rat * c.rat)).rat)) = 4 := by simpa using hc218
    refine zD (fun K221 C221 => ?_)
    refine zC ?_
    refine zB 1 [(6, .bool true)] A219 kr kr (fun a222 A222 => ?_)
    refine zE ?_
    refine zA (C221 _ _ ?_)
    refine zQ ?_
    refine zL ?_
    refine zU ?_
    refine zL ?_
    refine zL ?_
    refine zU ?_
    refine zL ?_
    refine zR (v := .bool true) (rs := [.tmp 6]) A222 kr (Res.tmp kr Res.nil) kr ?_
    exact ⟨j9002.upd, _, rfl, rfl⟩
   have A223 := A217.set 138 (v' := .bool false) kr rfl (zG hc218)
   have ht224 : (opE xu (opR m.disc c (m.disc.rat * c.rat)) (xu.rat + (opR m.disc c (m.disc.rat * c.rat)).rat)) ≠ 4 := by simpa using hc218
   have he0 : opE xu (opR m.disc c (m.disc.rat * c.rat)) (xu.rat + (opR m.disc c (m.disc.rat * c.rat)).rat) = 0 := by rcases hlk.1 with e | e; exact e; exact absurd e ht224
   refine i_skip ?_
   refine zA (C215 _ _ ?_)
   refine zD (fun K225 C225 => ?_)
   have hJ9003 : ∀ a9003 w9003, (∃ (Y9003 : Hid), Fr 150 a9003 [(7, .slice (some ⟨bu, offu, none⟩) len60 cap60), (14, .slice (some ⟨bp, offp, none⟩) len129 cap129), (17, .pointer (some ⟨b139, 0, none⟩)), (19, .int .i64 (k : Int)), (149, .bool (!(decide ((opR xu (opR m.disc c (m.disc.rat * c.rat)) (xu.rat + (opR m.disc c (m.disc.rat * c.rat)).rat)) = xp))))] ∧ St E0 w X w9003 Y9003 [(b211, .cells #[.bool ((opR xu (opR m.disc c (m.disc.rat * c.rat)) (xu.rat + (opR m.disc c (m.disc.rat * c.rat)).rat)).neg), .slice ad206 len206 cap206, .slice ae206 le206 ce206] 25 (0, 0)), (b139, .cells #[.bool ((opR m.disc c (m.disc.rat * c.rat)).neg), .slice ad136 len136 cap136, .slice ae136 le136 ce136] 25 (0, 0)), (b4, .cells #[.bool c.neg, .slice acx lcx ccx, .slice ad9 ld9 cd9] 25 (0, 0)), (b2, .cells #[.bool m.disc.neg, .slice ad len cap, .slice ae le ce, .slice st m.states.length cs] 28 (0, 0))] ∧ Le (rd w9002 Y9002) (rd w9003 Y9003)) → K225 a9003 w9003 := by
    rintro a9003 w9003 ⟨Y9003, A9003, j9003, q9003⟩
    refine C225 _ _ ?_
    refine zS (!(decide ((opR xu (opR m.disc c (m.disc.rat * c.rat)) (xu.rat + (opR m.disc c (m.disc.rat * c.rat)).rat)) = xp))) A9003 kr kr (fun hc244 => ?_) (fun hc244 => ?_)
    ·
     have A245 := A9003.set 149 (v' := .bool true) kr rfl (zG hc244)
     have ht246 : ¬ ((opR xu (opR m.disc c (m.disc.rat * c.rat)) (xu.rat + (opR m.disc c (m.disc.rat * c.rat)).rat)) = xp) := by simpa using hc244
     exact absurd (hlk.2 he0) (by simpa using ht246)
    have A247 := A9003.set 149 (v' := .bool false) kr rfl (zG hc244)
    have ht248 : (opR xu (opR m.disc c (m.disc.rat * c.rat)) (xu.rat + (opR m.disc c (m.disc.rat * c.rat)).rat)) = xp := by simpa using hc244
    refine i_skip ?_
    refine zW ?_
    refine zA (C198 _ _ ?_)
    refine zC ?_
    refine zB 2 [(127, .int .i64 (IntKind.i64.wrap ((k : Int) + 1))), (126, .int .i64 (k : Int))] A247 kr kr (fun a249 A249 => ?_)
    have A250 := A249.set 127 (v' := .int .i64 ((k : Int) + 1)) kr rfl (vint (wi64 (by omega) (by omega)))
    refine zB 1 [(19, .int .i64 ((k : Int) + 1))] A250 kr kr (fun a251 A251 => ?_)
    refine zE ?_
    refine zA ?_
    refine ⟨k + 1, ⟨_, A251.as [7, 14, 17, 19] kr kr, j9003.tail, (Le3 q191 q9002 q9003), by omega⟩, ?_⟩
    first | omega | (simp; omega)
   refine qD (N := 11) (Held []) [] kr kr kr j9002 ?_
   intro w226 j226 q226 hu226
   refine zX (Held.nil _) (fun hH226 => ?_)
   refine zH (d := 139) (v := .int .i64 (opE xu (opR m.disc c (m.disc.rat * c.rat)) (xu.rat + (opR m.disc c (m.disc.rat * c.rat)).rat))) 0 A223 rfl kr kr kw (fun _ => hH226) ?_
   intro a227 A227
   refine zH (d := 140) (v := .bool ((opE xu (opR m.disc c (m.disc.rat * c.rat)) (xu.rat + (opR m.disc c (m.disc.rat * c.rat)).rat)) != 0)) 1 A227 rfl kr kr kw (fun _ => hH226) ?_
   intro a228 A228
   refine zH (d := 141) (v := .bool ((opE xu (opR m.disc c (m.disc.rat * c.rat)) (xu.rat + (opR m.disc c (m.disc.rat * c.rat)).rat)) != 0)) 2 A228 rfl kr kr kw (fun _ => hH226) ?_
   intro a229 A229
   rcases Bool.eq_false_or_eq_true ((opE xu (opR m.disc c (m.disc.rat * c.rat)) (xu.rat + (opR m.disc c (m.disc.rat * c.rat)).rat)) != 0) with hc230 | hc230
   ·
    have A231 := A229.set 141 (v' := .bool true) kr rfl (zG hc230)
    have ht232 : (opE xu (opR m.disc c (m.disc.rat * c.rat)) (xu.rat + (opR m.disc c (m.disc.rat * c.rat)).rat)) ≠ 0 := by simpa using hc230
    exact absurd he0 ht232
   have A233 := A229.set 141 (v' := .bool false) kr rfl (zG hc230)
   have ht234 : (opE xu (opR m.disc c (m.disc.rat * c.rat)) (xu.rat + (opR m.disc c (m.disc.rat * c.rat)).rat)) = 0 := by simpa using hc230
   refine zH (d := 143) (v := .slice (some ⟨bp, offp, none⟩) len129 cap129) 4 A233 rfl kr kr kw (fun _ => hH226) ?_
   intro a235 A235
   refine zH (d := 144) (v := .int .i64 (k : Int)) 5 A235 rfl kr kr kw (fun _ => hH226) ?_
   intro a236 A236
   refine zH (d := 145) (v := .pointer (some ⟨bp, offp + k * 3, none⟩)) 6 A236 rfl kr kr (fun w => zP (t := 29) (e := 25) (b := bp) (off := offp) (len := len129) (cap := cap129) (kd := .i64) (i := (k : Int)) (g := true) (m := 3) (off' := offp + k * 3) rfl kr kr kr kr (by omega) (by omega) (by first | rfl | omega | (simp; done) | (simp; omega)) w) (fun _ => hH226) ?_
   intro a237 A237
   refine zM [3, 7] kr rfl ?_
   refine ForkT.cons (i := 3) A237 rfl kr ?_ ?_
   ·
    refine zJ (d := 142) (v := .agg #[.bool ((opR xu (opR m.disc c (m.disc.rat * c.rat)) (xu.rat + (opR m.disc c (m.disc.rat * c.rat)).rat)).neg), .slice ad206 len206 cap206, .slice ae206 le206 ce206]) A237 kr (zF (t := 25) (g := true) (vs := [.bool ((opR xu (opR m.disc c (m.disc.rat * c.rat)) (xu.rat + (opR m.disc c (m.disc.rat * c.rat)).rat)).neg), .slice ad206 len206 cap206, .slice ae206 le206 ce206]) (ad := ⟨b211, 0, none⟩) rfl kr kr ir (j226.cells 0 rfl rfl)) ?_
    intro a238 A238
    refine zI (Held.nil _) (fun hH226 => ?_)
    refine zM [7] kr rfl ?_
    refine ForkT.cons (i := 7) A238 rfl kr (zJ (d := 146) (v := .agg #[.bool xp.neg, .slice anp lnp cnp, .slice amp lmp cmp]) A238 kr (zF (t := 25) (g := true) (vs := [.bool xp.neg, .slice anp lnp cnp, .slice amp lmp cmp]) (ad := ⟨bp, offp + k * 3, none⟩) rfl kr kr ir ((hAp.mono (Le7 q136 q139 q141 q183 q191 q9002 q226))).cells) ?_) ForkT.nil
    intro a239 A239
    refine zI (Held.nil _) (fun hH226 => ?_)
    refine zM [8] kr rfl ?_
    refine ForkT.cons (i := 8) A239 rfl kr (zK (d := 147) (f := 19) (cap := #[]) (vs := #[.agg #[.bool ((opR xu (opR m.disc c (m.disc.rat * c.rat)) (xu.rat + (opR m.disc c (m.disc.rat * c.rat)).rat)).neg), .slice ad206 len206 cap206, .slice ae206 le206 ce206], .agg #[.bool xp.neg, .slice anp lnp cnp, .slice amp lmp cmp]]) A239 kr j226 rfl kr kr (fun w => Try.call19 _ w) (EqualRat_c _ _ j226.lt (opR xu (opR m.disc c (m.disc.rat * c.rat)) (xu.rat + (opR m.disc c (m.disc.rat * c.rat)).rat)) _ _ _ (hN206.mono q226) _ _ _ (hD206.mono q226) xp _ _ _ (hLp.mono (Le7 q136 q139 q141 q183 q191 q9002 q226)) _ _ _ (hMp.mono (Le7 q136 q139 q141 q183 q191 q9002 q226))) ?_) ForkT.nil
    rintro v240 w240 j240 q240 hu240 rfl a241 A241
    refine zI (Held.nil _) (fun hH240 => ?_)
    refine zH (d := 148) (v := .bool (!(decide ((opR xu (opR m.disc c (m.disc.rat * c.rat)) (xu.rat + (opR m.disc c (m.disc.rat * c.rat)).rat)) = xp)))) 9 A241 rfl kr kr kw (fun _ => hH240) ?_
    intro a242 A242
    refine zH (d := 149) (v := .bool (!(decide ((opR xu (opR m.disc c (m.disc.rat * c.rat)) (xu.rat + (opR m.disc c (m.disc.rat * c.rat)).rat)) = xp)))) 10 A242 rfl kr kr kw (fun _ => hH240) ?_
    intro a243 A243
    refine qB kr (nrm ?_)
    exact zA (hJ9003 _ _ ⟨_, A243.as [7, 14, 17, 19, 149] kr kr, j240, (Le2 q226 q240)⟩)
   refine ForkT.cons (i := 7) A237 rfl kr (zJ (d := 146) (v := .agg #[.bool xp.neg, .slice anp lnp cnp, .slice amp lmp cmp]) A237 kr (zF (t := 25) (g := true) (vs := [.bool xp.neg, .slice anp lnp cnp, .slice amp lmp cmp]) (ad := ⟨bp, offp + k * 3, none⟩) rfl kr kr ir ((hAp.mono (Le7 q136 q139 q141 q183 q191 q9002 q226))).cells) ?_) ForkT.nil
   intro a244 A244
   refine zI (Held.nil _) (fun hH226 => ?_)
   refine zM [3] kr rfl ?_
   refine ForkT.cons (i := 3) A244 rfl kr (zJ (d := 142) (v := .agg #[.bool ((opR xu (opR m.disc c (m.disc.rat * c.rat)) (xu.rat + (opR m.disc c (m.disc.rat * c.rat)).rat)).neg), .slice ad206 len206 cap206, .slice ae206 le206 ce206]) A244 kr (zF (t := 25) (g := true) (vs := [.bool ((opR xu (opR m.disc c (m.disc.rat * c.rat)) (xu.rat + (opR m.disc c (m.disc.rat * c.rat)).rat)).neg), .slice ad206 len206 cap206, .slice ae206 le206 ce206]) (ad := ⟨b211, 0, none⟩) rfl kr kr ir (j226.cells 0 rfl rfl)) ?_) ForkT.nil
   intro a245 A245
   refine zI (Held.nil _) (fun hH226 => ?_)
   refine zM [8] kr rfl ?_
   refine ForkT.cons (i := 8) A245 rfl kr (zK (d := 147) (f := 19) (cap := #[]) (vs := #[.agg #[.bool ((opR xu (opR m.disc c (m.disc.rat * c.rat)) (xu.rat + (opR m.disc c (m.disc.rat * c.rat)).rat)).neg), .slice ad206 len206 cap206, .slice ae206 le206 ce206], .agg #[.bool xp.neg, .slice anp lnp cnp, .slice amp lmp cmp]]) A245 kr j226 rfl kr kr (fun w => Try.call19 _ w) (EqualRat_c _ _ j226.lt (opR xu (opR m.disc c (m.disc.rat * c.rat)) (xu.rat + (opR m.disc c (m.disc.rat * c.rat)).rat)) _ _ _ (hN206.mono q226) _ _ _ (hD206.mono q226) xp _ _ _ (hLp.mono (Le7 q136 q139 q141 q183 q191 q9002 q226)) _ _ _ (hMp.mono (Le7 q136 q139 q141 q183 q191 q9002 q226))) ?_) ForkT.nil
   rintro v246 w246 j246 q246 hu246 rfl a247 A247
   refine zI (Held.nil _) (fun hH246 => ?_)
   refine zH (d := 148) (v := .bool (!(decide ((opR xu (opR m.disc c (m.disc.rat * c.rat)) (xu.rat + (opR m.disc c (m.disc.rat * c.rat)).rat)) = xp)))) 9 A247 rfl kr kr kw (fun _ => hH246) ?_
   intro a248 A248
   refine zH (d := 149) (v := .bool (!(decide ((opR xu (opR m.disc c (m.disc.rat * c.rat)) (xu.rat + (opR m.disc c (m.disc.rat * c.rat)).rat)) = xp)))) 10 A248 rfl kr kr kw (fun _ => hH246) ?_
   intro a249 A249
   refine qB kr (nrm ?_)
   exact zA (hJ9003 _ _ ⟨_, A249.as [7, 14, 17, 19, 149] kr kr, j246, (Le2 q226 q246)⟩)
  refine qD (N := 12) (Held [(⟨bu, offu + k * 3, none⟩, [.bool xu.neg, .slice anu lnu cnu, .slice amu lmu cmu]), (⟨b139, 0, none⟩, [.bool ((opR m.disc c (m.disc.rat * c.rat)).neg), .slice ad136 len136 cap136, .slice ae136 le136 ce136])]) [10] kr kr kr j191 ?_
  intro w200 j200 q200 hu200
  refine zX (Held.cons ((hAu.mono (Le10 q75 q90 q128 q129 q136 q139 q141 q183 q191 q200))).cells (Held.cons (j200.cells 0 rfl rfl) (Held.nil _))) (fun hH200 => ?_)
  refine zH (d := 129) (v := .slice (some ⟨bu, offu, none⟩) len60 cap60) 0 A196 rfl kr kr kw (fun _ => hH200) ?_
  intro a201 A201
  refine zH (d := 130) (v := .int .i64 (k : Int)) 1 A201 rfl kr kr kw (fun _ => hH200) ?_
  intro a202 A202
  refine zH (d := 131) (v := .pointer (some ⟨bu, offu + k * 3, none⟩)) 2 A202 rfl kr kr (fun w => zP (t := 29) (e := 25) (b := bu) (off := offu) (len := len60) (cap := cap60) (kd := .i64) (i := (k : Int)) (g := true) (m := 3) (off' := offu + k * 3) rfl kr kr kr kr (by omega) (by omega) (by first | rfl | omega | (simp; done) | (simp; omega)) w) (fun _ => hH200) ?_
  intro a203 A203
  refine zY (d := 132) (v := .agg #[.bool xu.neg, .slice anu lnu cnu, .slice amu lmu cmu]) 3 A203 rfl kr kr kr (fun w hw => zF (t := 25) (g := true) (vs := [.bool xu.neg, .slice anu lnu cnu, .slice amu lmu cmu]) (ad := ⟨bu, offu + k * 3, none⟩) rfl kr kr ir (hw.get 0 kr)) hH200 ?_
  intro a204 A204
  refine zY (d := 133) (v := .agg #[.bool ((opR m.disc c (m.disc.rat * c.rat)).neg), .slice ad136 len136 cap136, .slice ae136 le136 ce136]) 4 A204 rfl kr kr kr (fun w hw => zF (t := 25) (g := true) (vs := [.bool ((opR m.disc c (m.disc.rat * c.rat)).neg), .slice ad136 len136 cap136, .slice ae136 le136 ce136]) (ad := ⟨b139, 0, none⟩) rfl kr kr ir (hw.get 1 kr)) hH200 ?_
  intro a205 A205
  refine zM [5, 9] kr rfl ?_
  refine ForkT.cons (i := 5) A205 rfl kr ?_ ?_
  ·
   refine zK (d := 134) (f := 16) (cap := #[]) (vs := #[.agg #[.bool xu.neg, .slice anu lnu cnu, .slice amu lmu cmu], .agg #[.bool ((opR m.disc c (m.disc.rat * c.rat)).neg), .slice ad136 len136 cap136, .slice ae136 le136 ce136]]) A205 kr j200 rfl kr kr (fun w => Try.call16 _ w) (rAdd_c _ _ j200.lt xu _ _ _ (hLu.mono (Le10 q75 q90 q128 q129 q136 q139 q141 q183 q191 q200)) _ _ _ (hMu.mono (Le10 q75 q90 q128 q129 q136 q139 q141 q183 q191 q200)) (opR m.disc c (m.disc.rat * c.rat)) _ _ _ (hN136.mono (Le5 q139 q141 q183 q191 q200)) _ _ _ (hD136.mono (Le5 q139 q141 q183 q191 q200))) ?_
   rintro v206 w206 j206 q206 hu206 ⟨u206, rfl, ⟨ad206, len206, cap206, ae206, le206, ce206, rfl, hN206, hD206⟩⟩ a207 A207
   refine zI (hH200.up hu206) (fun hH206 => ?_)
   refine zH (d := 128) (v := .tuple #[.agg #[.bool ((opR xu (opR m.disc c (m.disc.rat * c.rat)) (xu.rat + (opR m.disc c (m.disc.rat * c.rat)).rat)).neg), .slice ad206 len206 cap206, .slice ae206 le206 ce206], .int .i64 (opE xu (opR m.disc c (m.disc.rat * c.rat)) (xu.rat + (opR m.disc c (m.disc.rat * c.rat)).rat))]) 6 A207 rfl kr kr kw (fun _ => hH206) ?_
   intro a208 A208
   refine zH (d := 135) (v := .agg #[.bool ((opR xu (opR m.disc c (m.disc.rat * c.rat)) (xu.rat + (opR m.disc c (m.disc.rat * c.rat)).rat)).neg), .slice ad206 len206 cap206, .slice ae206 le206 ce206]) 7 A208 rfl kr kr kw (fun _ => hH206) ?_
   intro a209 A209
   refine zH (d := 136) (v := .int .i64 (opE xu (opR m.disc c (m.disc.rat * c.rat)) (xu.rat + (opR m.disc c (m.disc.rat * c.rat)).rat))) 8 A209 rfl kr kr kw (fun _ => hH206) ?_
   intro a210 A210
   refine zM [9] kr rfl ?_
   refine ForkT.cons (i := 9) A210 rfl kr (zN (d := 20) (fun b => .pointer (some ⟨b, 0, none⟩)) (.cells #[.bool false, .slice none 0 0, .slice none 0 0] 25 (0, 0)) A210 kr j206 kw ?_) ForkT.nil
   intro b211 w211 Y211 j211 q211 hu211 a212 A212
   refine zI (hH206.up hu211) (fun hH211 => ?_)
   refine zM [10] kr rfl ?_
   refine ForkT.cons (i := 10) A212 rfl kr (zO (t := 25) (b := b211) (off := 0) (c' := #[.bool ((opR xu (opR m.disc c (m.disc.rat * c.rat)) (xu.rat + (opR m.disc c (m.disc.rat * c.rat)).rat)).neg), .slice ad206 len206 cap206, .slice ae206 le206 ce206]) (g := true) (m := 3) 0 _ A212 kr j211 rfl kr rfl kr kr kr rfl (by first | decide | (simp; done)) kr rfl ?_) ForkT.nil
   intro w213 j213 q213
   refine ⟨begun_tt kr, ?_⟩
   refine zH (d := 21) (v := .int .i64 (opE xu (opR m.disc c (m.disc.rat * c.rat)) (xu.rat + (opR m.disc c (m.disc.rat * c.rat)).rat))) 11 A212 rfl kr kr kw (begun_tt kr) ?_
   intro a214 A214
   refine qB kr (nrm ?_)
   exact zA (hJ9002 _ _ ⟨_, b211, ad206, len206, cap206, ae206, le206, ce206, A214.as [7, 14, 17, 19, 20, 21] kr kr, j213, (Le4 q200 q206 q211 q213), (hN206.mono (Le2 q211 q213)), (hD206.mono (Le2 q211 q213))⟩)
  refine ForkT.cons (i := 9) A205 rfl kr (zN (d := 20) (fun b => .pointer (some ⟨b, 0, none⟩)) (.cells #[.bool false, .slice none 0 0, .slice none 0 0] 25 (0, 0)) A205 kr j200 kw ?_) ForkT.nil
  intro b215 w215 Y215 j215 q215 hu215 a216 A216
  refine zI (hH200.up hu215) (fun hH215 => ?_)
  refine zM [5] kr rfl ?_
  refine ForkT.cons (i := 5) A216 rfl kr (zK (d := 134) (f := 16) (cap := #[]) (vs := #[.agg #[.bool xu.neg, .slice anu lnu cnu, .slice amu lmu cmu], .agg #[.bool ((opR m.disc c (m.disc.rat * c.rat)).neg), .slice ad136 len136 cap136, .slice ae136 le136 ce136]]) A216 kr j215 rfl kr kr (fun w => Try.call16 _ w) (rAdd_c _ _ j215.lt xu _ _ _ (hLu.mono (Le11 q75 q90 q128 q129 q136 q139 q141 q183 q191 q200 q215)) _ _ _ (hMu.mono (Le11 q75 q90 q128 q129 q136 q139 q141 q183 q191 q200 q215)) (opR m.disc c (m.disc.rat * c.rat)) _ _ _ (hN136.mono (Le6 q139 q141 q183 q191 q200 q215)) _ _ _ (hD136.mono (Le6 q139 q141 q183 q191 q200 q215))) ?_) ForkT.nil
  rintro v217 w217 j217 q217 hu217 ⟨u217, rfl, ⟨ad217, len217, cap217, ae217, le217, ce217, rfl, hN217, hD217⟩⟩ a218 A218
  refine zI (hH215.up hu217) (fun hH217 => ?_)
  refine zH (d := 128) (v := .tuple #[.agg #[.bool ((opR xu (opR m.disc c (m.disc.rat * c.rat)) (xu.rat + (opR m.disc c (m.disc.rat * c.rat)).rat)).neg), .slice ad217 len217 cap217, .slice ae217 le217 ce217], .int .i64 (opE xu (opR m.disc c (m.disc.rat * c.rat)) (xu.rat + (opR m.disc c (m.disc.rat * c.rat)).rat))]) 6 A218 rfl kr kr kw (fun _ => hH217) ?_
  intro a219 A219
  refine zH (d := 135) (v := .agg #[.bool ((opR xu (opR m.disc c (m.disc.rat * c.rat)) (xu.rat + (opR m.disc c (m.disc.rat * c.rat)).rat)).neg), .slice ad217 len217 cap217, .slice ae217 le217 ce217]) 7 A219 rfl kr kr kw (fun _ => hH217) ?_
  intro a220 A220
  refine zH (d := 136) (v := .int .i64 (opE xu (opR m.disc c (m.disc.rat * c.rat)) (xu.rat + (opR m.disc c (m.disc.rat * c.rat)).rat))) 8 A220 rfl kr kr kw (fun _ => hH217) ?_
  intro a221 A221
  refine zM [10] kr rfl ?_
  refine ForkT.cons (i := 10) A221 rfl kr (zO (t := 25) (b := b215) (off := 0) (c' := #[.bool ((opR xu (opR m.disc c (m.disc.rat * c.rat)) (xu.rat + (opR m.disc c (m.disc.rat * c.rat)).rat)).neg), .slice ad217 len217 cap217, .slice ae217 le217 ce217]) (g := true) (m := 3) 0 _ A221 kr j217 rfl kr rfl kr kr kr rfl (by first | decide | (simp; done)) kr rfl ?_) ForkT.nil
  intro w222 j222 q222
  refine ⟨begun_tt kr, ?_⟩
  refine zH (d := 21) (v := .int .i64 (opE xu (opR m.disc c (m.disc.rat * c.rat)) (xu.rat + (opR m.disc c (m.disc.rat * c.rat)).rat))) 11 A221 rfl kr kr kw (begun_tt kr) ?_
  intro a223 A223
  refine qB kr (nrm ?_)
  exact zA (hJ9002 _ _ ⟨_, b215, ad217, len217, cap217, ae217, le217, ce217, A223.as [7, 14, 17, 19, 20, 21] kr kr, j222, (Le4 q200 q215 q217 q222), (hN217.mono q222), (hD217.mono q222)⟩)
 have A224 := A194.set 125 (v' := .bool false) kr rfl (zG hc195)
 have ht225 : ¬ ((k : Int) < (len60 : Int)) := of_decide_eq_false hc195
 refine i_exit ?_
 refine zT ?_
 refine zT ?_
 refine qA ?_
 refine zA (C188 _ _ ?_)
 refine zD (fun K226 C226 => ?_)
 refine zC ?_
 refine zB 1 [(6, .bool true)] A224 kr kr (fun a227 A227 => ?_)
 refine zE ?_
 refine zA (C226 _ _ ?_)
 refine zQ ?_
 refine zR (v := .bool true) (rs := [.tmp 6]) A227 kr (Res.tmp kr Res.nil) kr ?_
 exact ⟨j191.upd, _, rfl, rfl⟩
end Go.Proofs.Ytoocgllbbihoaaa
namespace Go.Proofs.Ytoocgllbbihoaaa
open Go Go.Gv Go.ChangeShapes Go.WideShapes Go.ChangeAt Go.RowKit
theorem own_mdpShifts : ownKnob Try.prog.godebug = Option.none := by kernel_rfl
theorem laidOut_mdpShifts : laidOutB Try.prog = true := by kernel_rfl
set_option maxRecDepth 100000 in
theorem mdpShifts_lifted (os : Os) (started : os.Started) (H : Type) (enc : TypeId × Value → H) :
    ReturnsInHanded {} Try.checked os 4 .any (Rows.mdpShiftsSpec.pre6 enc Try.prog Try.f4 Rows.mdpShiftsRow.domain false) (Rows.mdpShiftsSpec.post enc Try.prog Try.f4 false true false false) := by
  refine returnsInHanded_of_change (C := Try.checked) own_mdpShifts started (by kernel_rfl) Try.func4
    (ChangeSpec.witness6 (enc := enc) (C := Try.checked) false ⟨#[], #[.agg #[.bool false, .slice none 0 0, .slice none 0 0, .slice none 0 0], .slice none 0 0, .agg #[.bool false, .slice none 0 0, .slice none 0 0]], []⟩ 8 (by kernel_rfl) (by kernel_rfl) (by kernel_rfl) (by kernel_rfl)) ?_
  intro W base args ds gs before hval0 hW hcnd _
  have hval : ∀ (j : Nat) t v, Try.f4.params[j]? = some t → args[j]? = some v → Value.okWide Try.prog W .any base t v := hval0
  have hW' := hW
  obtain ⟨p, q, hA0, hV, rfl, hfz, hnd⟩ := hW
  have hA : DataW.TrodAll enc Try.prog W 0 (fun _ => true) true Try.f4.params.toList args.toList ds p := hA0
  rw [Try.params4] at hA hval
  obtain ⟨v0, v1, v2, d0, d1, d2, p0, p1, p2, rfl, rfl, rfl, h0, h1, h2⟩ := trodAll_three hA
  obtain ⟨rfl, rfl⟩ := trodVars_none hV
  have h0k := h0
  obtain ⟨m0, a1_0, a2_0, a3_0, a4_0, a5_0, a6_0, a7_0, a8_0, a9_0, rfl, g1_0, g2_0, g3_0⟩ := open_mdp (hval 0 28 v0 rfl rfl) h0
  have h1k := h1
  obtain ⟨ad1, len1, cap1, xs1, rfl, g1⟩ := open_arats (hval 1 29 v1 rfl rfl) h1
  have h2k := h2
  obtain ⟨c2, a1_2, a2_2, a3_2, a4_2, a5_2, a6_2, rfl, g1_2, g2_2⟩ := open_arat (hval 2 25 v2 rfl rfl) h2
  clear hA0 hval0
  simp only [List.append_nil] at hW'
  refine (shifts_c W X0 (X0_lt _) m0 _ _ _ g1_0 _ _ _ g2_0 _ _ _ g3_0 xs1 _ _ _ g1 c2 _ _ _ g1_2 _ _ _ g2_2).mono ?_
  rintro e W' ⟨hu, v, rfl, rfl⟩
  have hb := Upd.below hu
  exact ⟨_, rfl, _, _, _, [] ++ [], _, [], hW', trodAll_mk1 (shut_bool (by kernel_rfl) true), trodAll_mk3 (Below.trod laidOut_mdpShifts (by kernel_rfl) (of_decide_eq_true (by kernel_rfl)) h0k hb (fun x hx => by simpa using hW'.lt x (by simp [hx]))) (Below.trod laidOut_mdpShifts (by kernel_rfl) (of_decide_eq_true (by kernel_rfl)) h1k hb (fun x hx => by simpa using hW'.lt x (by simp [hx]))) (Below.trod laidOut_mdpShifts (by kernel_rfl) (of_decide_eq_true (by kernel_rfl)) h2k hb (fun x hx => by simpa using hW'.lt x (by simp [hx]))), rfl, hb.frame _, fun h => by cases h⟩
theorem mdpShifts_holds : Rows.MdpShiftsSaid :=
  OpenClaim.holds_of_wide 4 Try.f4 rfl rfl rfl rfl rfl rfl rfl ⟨rfl, rfl, rfl, rfl, rfl⟩ rfl rfl rfl rfl rfl (by kernel_rfl) Try.func4 (by kernel_rfl)
    (of_decide_eq_true (by kernel_rfl)) (by unfold Func.isWrapper; first | (rw [if_pos (by decide +kernel)]; kernel_rfl) | (rw [if_neg (by decide +kernel)]; exact ⟨rfl, rfl⟩))
    (fun os started H enc _ => mdpShifts_lifted os started H enc)
end Go.Proofs.Ytoocgllbbihoaaa
